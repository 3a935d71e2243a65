import Derived.Test.YtfgljaglidhjiaaGreatDoorBase7
import Derived.Test.YtfgljaglidhjiaaGreatDoorBase5
import Derived.MapKept
import Derived.WideKeyRuns
import Derived.Maps.RangeRun
import Derived.Test.YtfgljaglidhjiaaGreatDoorBase4
import Derived.Test.YtfgljaglidhjiaaGreatDoorBase6
set_option linter.all false
namespace Go.Abs
open Go
theorem Uh{σ:SK}{d:D}{l i:Nat}{es:List D}(h:DD σ d=some (l,i,es)):d=.nO l i∧cells? σ l i 0=some es:=by
 unfold DD at h;split at h
 ·simp only[ad,au]at h;obtain⟨cs,h1,rfl,rfl,rfl⟩:=h;exact⟨rfl,h1⟩
 ·cases h
theorem Pb{ky:Ky}{k:D}:∀{es:List D} {j:Nat} {v:D},sd ky k es=some (some (j,v))→∃k',es[j]?=some (.ez [k',v])∧tV ky k k'=some true
 |[],j,v,h=>by simp[sd]at h
 |x::es,j,v,h=>by
  unfold sd at h;split at h
  ·rename_i heq;cases heq
  ·rename_i k' v' es' heq;cases heq;split at h
   ·rename_i hq;cases h;exact⟨k',rfl,hq⟩
   ·simp only[ad]at h;obtain⟨x1,h1,x2,rfl,h2⟩:=h;cases h2;obtain⟨j0,v0⟩:=x2;obtain⟨k0,h3,h4⟩:=Pb h1;exact⟨k0,by simpa using h3,h4⟩
   ·cases h
  ·cases h
section
variable {P:Program} {g:G} {w:World}
theorem Nl:∀{ks:List (Option IntKind)} {p q:List D},AS ks p q=some true→p=q
 |[],p,q,h=>by obtain⟨rfl,rfl,_⟩:=wC h;rfl
 |some k::ks,p,q,h=>by
  obtain⟨a,x,c,y,b0,rfl,rfl,h0,hb⟩:=uU h;simp only[Bool.true_eq,af,beq_iff_eq]at hb;obtain⟨rfl,rfl⟩:=hb;rw[Nl h0]
 |none::ks,p,q,h=>by
  obtain⟨a,x,c,y,b0,rfl,rfl,h0,hb⟩:=yW h;simp only[Bool.true_eq,af,beq_iff_eq]at hb;obtain⟨rfl,rfl⟩:=hb;rw[Nl h0]
theorem I7(n:Nat):∀{ks:List (Option IntKind)} {p q:List D} {b:Bool},AS ks p q=some b→∀{xs ys:List Value},bG g p xs→bG g p ys→xs=ys∧(xs.zip ys).all (fun z=>Instr.sameBits n z.1 z.2)=true
 |[],p,q,b,h,xs,ys,hx,hy=>by
  obtain⟨rfl,rfl,_⟩:=wC h;cases hx;cases hy;exact⟨rfl,rfl⟩
 |some k::ks,p,q,b,h,xs,ys,hx,hy=>by
  obtain⟨a,x,c,y,b0,rfl,rfl,h0,hb⟩:=uU h;cases hx with
  |cons _ v1 _ vs1 h1 h2 =>
   cases hy with
   |cons _ v2 _ vs2 h3 h4 =>
    obtain rfl:=h1.fp;obtain rfl:=h3.fp;obtain⟨h5,h6⟩:=I7 n h0 h2 h4;subst h5;exact⟨rfl,by simp only[List.zip_cons_cons,ka,h6,Instr.sameBits,BEq.rfl,Bool.and_self]⟩
 |none::ks,p,q,b,h,xs,ys,hx,hy=>by
  obtain⟨a,x,c,y,b0,rfl,rfl,h0,hb⟩:=yW h;cases hx with
  |cons _ v1 _ vs1 h1 h2 =>
   cases hy with
   |cons _ v2 _ vs2 h3 h4 =>
    obtain rfl:=h1.pY;obtain rfl:=h3.pY;obtain⟨h5,h6⟩:=I7 n h0 h2 h4;subst h5;exact⟨rfl,by simp only[List.zip_cons_cons,ka,h6,Instr.sameBits,BEq.rfl,Bool.and_self]⟩
theorem atB{a b:ByteArray}(h:a.data.toList=b.data.toList):a=b:=by
 apply ByteArray.ext;exact gR.1 h
theorem aoZ{ky:Ky}{a b:D}{x y:Value}(h:tV ky a b=some true)(hx:bK g a x)(hy:bK g b y):x=y∧Instr.sameBits 10000 y x=true:=by
 unfold tV at h;split at h
 ·split at h
  ·rename_i s1 s2;simp only[ae,beq_iff_eq]at h;subst h;obtain⟨b1,rfl,h1⟩:=hx.nL;obtain⟨b2,rfl,h2⟩:=hy.nL;obtain rfl:=atB (h1.trans h2.symm);exact⟨rfl,by rw[Instr.sameBits,beq_toListBytes];exact beq_self_eq_true _⟩
  ·cases h
 ·rename_i ag ks;split at h
  ·rename_i p q hp hq;obtain rfl:=Nl h;have h1:=wD hx hp;have h2:=wD hy hq;cases ag with
   |true =>
    simp only[wF,if_true]at h1 h2;obtain⟨xs,rfl,h3,_⟩:=h1;obtain⟨ys,rfl,h4,_⟩:=h2;obtain⟨h5,h6⟩:=I7 9999 h h4 h3;obtain rfl:=gR.1 h5;exact⟨rfl,by simp only[Instr.sameBits,BEq.rfl,Bool.true_and];exact h6⟩
   |false =>
    simp only[wF,aB,if_false]at h1 h2;obtain⟨h5,h6⟩:=I7 10000 h h2 h1;simp only[lC,and_true]at h5;subst h5;exact⟨rfl,by simpa using h6⟩
  ·cases h
theorem Nv{t:TypeId}{ky:Ky}(h:Nu P t=some ky):(P.underlying t=some .string∧ky=none)∨(∃k,P.underlying t=some (.int k)∧ky=some (false,[some k])) ∨
  ∃fs ks,P.underlying t=some (.struct fs)∧nV P 20 t=some ks∧ky=some (true,ks)∧fs.toList.all (fun f=>match P.underlying f.type with | some (.int _)=>true | some .bool=>true | _=>false)=true:=by
 unfold Nu at h;split at h
 ·rename_i hu;cases h;exact .inl ⟨hu,rfl⟩
 ·rename_i k hu;cases h;exact .inr (.inl ⟨k,hu,rfl⟩)
 ·rename_i fs hu;split at h
  ·rename_i hall;obtain⟨ks,hks,rfl⟩:=ad.1 h;exact .inr (.inr ⟨fs,ks,hu,hks,rfl,hall⟩)
  ·cases h
 ·cases h
theorem Po{t:TypeId}{ky:Ky}(hk:Nu P t=some ky){a b:D}{c:Bool}{x y:Value}(h:tV ky a b=some c)(hx:bK g a x)(hy:bK g b y):(Op.equal t x y).run P w=.ok c w:=by
 have key:∀ag ks,nV P 20 t=some ks→wa P t=some ag→tV (some (ag,ks)) a b=some c→(Op.equal t x y).run P w=.ok c w:=by
  intro ag ks hks hag hq;simp only[tV]at hq;split at hq
  case h_2=>cases hq
  rename_i p q hp hq2;obtain⟨ag',hag',_,hEq⟩:=Jj (P:=P) (g:=g) (w:=w) 20 t ks hks;rw[hag]at hag';cases hag';exact hEq 10000 (by omega) p q x y c (wD hx hp) (wD hy hq2) hq
 rcases Nv hk with⟨hu,rfl⟩ | ⟨k,hu,rfl⟩ | ⟨fs,ks,hu,hks,rfl,_⟩
 ·simp only[tV]at h;split at h
  case h_2=>cases h
  rename_i s1 s2;cases h;obtain⟨b1,rfl,h1⟩:=hx.nL;obtain⟨b2,rfl,h2⟩:=hy.nL;have:=run_equalIn_string (P:=P) w 9999 t b1 b2 hu;simp only[Op.equal,Op.maxDepth];rw[this,ByteArray.toList_eq,ByteArray.toList_eq,h1,h2]
 ·exact key false [some k] (by simp[nV,hu]) (by simp[wa,hu]) h
 ·exact key true ks hks (by simp[wa,hu]) h
def Found(dL:List MapEntry)(r:Option (Nat×D))(g:G)(o:Option (Nat×Value))(i:Nat):Prop :=
 match r with
 |none=>o=none
 |some (j,v)=>∃e,dL[j]?=some e∧o=some (i+j,e.val)∧bK g v e.val
theorem SI{k v:D}{a b:Value}(h:bK g (.ez [k,v]) (.tuple #[a,b])):bK g k a∧bK g v b:=by
 cases h with
 |ez _ _ hr =>
  cases hr with
  |cons _ _ _ _ h1 h2=>cases h2 with | cons _ _ _ _ h3 h4=>exact⟨h1,h3⟩
theorem MV{t:TypeId}{ky:Ky}(hk:Nu P t=some ky){k:D}{x:Value}(hx:bK g k x):∀(es:List D) (dL:List MapEntry) (r:Option (Nat×D)) (i:Nat),bG g es (dL.map fun e => .tuple #[e.key,e.val])→sd ky k es=some r →
  ∃o,(Instr.findAsking t x dL i).run P w=.ok o w∧Found dL r g o i
 |[],dL,r,i,hr,h=>by
  cases dL with
  |nil=>simp only[sd,ae]at h;subst h;exact⟨none,by simp[Instr.findAsking],rfl⟩
  |cons e dL=>cases hr
 |d::es,dL,r,i,hr,h=>by
  cases dL with
  |nil=>cases hr
  |cons e dL =>
   rw[aj]at hr;cases hr with
   |cons _ _ _ _ hr1 hr2 =>
   unfold sd at h;split at h
   ·rename_i heq;cases heq
   ·rename_i k' v es' heq;cases heq;obtain⟨hk1,hv1⟩:=SI hr1;split at h
    ·rename_i hq;cases h;have he:=Po (w:=w) hk hq hx hk1;refine⟨some (i,e.val),by simp[Instr.findAsking,he],e,rfl,by simp,hv1⟩
    ·rename_i hq;simp only[ad]at h;obtain⟨r1,h1,rfl⟩:=h;have he:=Po (w:=w) hk hq hx hk1;obtain⟨o,ho,hf⟩:=MV hk hx es dL r1 (i+1) hr2 h1;refine⟨o,by simp[Instr.findAsking,he,ho],?_⟩;cases r1 with
     |none=>exact hf
     |some y =>
      obtain⟨e1,h3,h4,h5⟩:=hf;exact⟨e1,by simpa using h3,by rw[h4];congr 2;omega,h5⟩
    ·cases h
   ·cases h
theorem Sd{t:TypeId}{ky:Ky}{dsc:TypeDesc}{k:D}{x:Value}(hs:∀k' y c,tV ky k k'=some c→bK g k' y→Instr.sameNow dsc x y=some c):∀(es:List D) (dL:List MapEntry) (r:Option (Nat×D)) (i:Nat),bG g es (dL.map fun e => .tuple #[e.key,e.val])→sd ky k es=some r →
  ∃o,Instr.findNow dsc x dL i=some o∧Found dL r g o i
 |[],dL,r,i,hr,h=>by
  cases dL with
  |nil=>simp only[sd,ae]at h;subst h;exact⟨none,by simp[Instr.findNow],rfl⟩
  |cons e dL=>cases hr
 |d::es,dL,r,i,hr,h=>by
  cases dL with
  |nil=>cases hr
  |cons e dL =>
   rw[aj]at hr;cases hr with
   |cons _ _ _ _ hr1 hr2 =>
   unfold sd at h;split at h
   ·rename_i heq;cases heq
   ·rename_i k' v es' heq;cases heq;obtain⟨hk1,hv1⟩:=SI hr1;split at h
    ·rename_i hq;cases h;exact⟨some (i,e.val),by simp[Instr.findNow,hs _ _ _ hq hk1],e,rfl,by simp,hv1⟩
    ·rename_i hq;simp only[ad]at h;obtain⟨r1,h1,rfl⟩:=h;obtain⟨o,ho,hf⟩:=Sd (t:=t) hs es dL r1 (i+1) hr2 h1;refine⟨o,by simp[Instr.findNow,hs _ _ _ hq hk1,ho],?_⟩;cases r1 with
     |none=>exact hf
     |some y =>
      obtain⟨e1,h3,h4,h5⟩:=hf;exact⟨e1,by simpa using h3,by rw[h4];congr 2;omega,h5⟩
    ·cases h
   ·cases h
theorem zK{t:TypeId}{ky:Ky}(hk:Nu P t=some ky){k:D}{x:Value}(hx:bK g k x){es:List D}{dL:List MapEntry}{r:Option (Nat×D)}(hr:bG g es (dL.map fun e => .tuple #[e.key,e.val]))(h:sd ky k es=some r)
  (hself:(tV ky k k).isSome=true):∃o,(Instr.findKey t x dL).run P w=.ok o w∧Found dL r g o 0:=by
 rcases Nv hk with⟨hu,rfl⟩ | ⟨kk,hu,rfl⟩ | ⟨fs,ks,hu,hks,rfl,_⟩
 ·obtain⟨o,h1,h2⟩:=Sd (t:=t) (ky:=none) (k:=k) (x:=x) (dsc:=.string) (fun k' y c hq hy=>by
   simp only[tV]at hq;split at hq
   case h_2=>cases hq
   cases hq;obtain⟨b1,rfl,h1⟩:=hx.nL;obtain⟨b2,rfl,h2⟩:=hy.nL;simp only[Instr.sameNow];rw[beq_toListBytes,ByteArray.toList_eq,ByteArray.toList_eq,h1,h2]) es dL r 0 hr h
  exact⟨o,MapKept.run_findKey hu h1,h2⟩
 ·obtain⟨o,h1,h2⟩:=Sd (t:=t) (ky:=some (false,[some kk])) (k:=k) (x:=x) (dsc:=.int kk) (fun k' y c hq hy=>by
   simp only[tV]at hq;split at hq
   case h_2=>cases hq
   rename_i p q hp hq2;have hx1:=wD hx hp;have hy1:=wD hy hq2;simp only[wF,aB,if_false]at hx1 hy1;obtain⟨a,xs,b,ys,b0,rfl,rfl,h0,rfl⟩:=uU hq;obtain⟨rfl,rfl,rfl⟩:=wC h0;cases hx1 with
   |cons _ _ _ _ g1 _ =>
    cases hy1 with
    |cons _ _ _ _ g2 _ =>
     obtain rfl:=g1.fp;obtain rfl:=g2.fp;simp[Instr.sameNow]) es dL r 0 hr h
  exact⟨o,MapKept.run_findKey hu h1,h2⟩
 ·obtain⟨o,h1,h2⟩:=MV (w:=w) hk hx es dL r 0 hr h;refine⟨o,?_,h2⟩;rw[run_findKey_eq w (by simp[hu])];exact h1
theorem CQ(em:Bool){xs:Array Value}{p:List D}(hx:bG g p xs.toList)(h1x:∀y∈xs.toList,y.oneCell'=true):
  ∀(fs:List Field) (o:Nat) (ks:List (Option IntKind)) (q:List D) (b:Bool),nV.kindsF P (nV P 19) o fs=some ks→fs.all (fun f=>match P.underlying f.type with | some (.int _)=>true | some .bool=>true | _=>false)=true →
   AS ks (p.drop o) q=some b →
   (forIn (m:=Sem) fs PUnit.unit fun f _=>do
    if f.name ≠ "_" then Instr.checkKey em 9999 f.type (← part f.type xs f.offset)
    pure (ForInStep.yield PUnit.unit)).run P w=.ok PUnit.unit w
 |[],o,ks,q,b,hk,ha,he=>by simp
 |f::fs,o,ks,q,b,hk,ha,he=>by
  simp only[nV.kindsF]at hk;split at hk
  case h_2=>cases hk
  rename_i k1 hk1;split at hk
  case isFalse=>cases hk
  rename_i hc;obtain⟨hname,hoff,hsz,hpos⟩:=hc;simp only[ad]at hk;obtain⟨k2,hk2,rfl⟩:=hk;simp only[ka,af]at ha;obtain⟨l1,l2⟩:=E3 _ _ _ _ he;obtain⟨b1,b2,e1,e2,rfl⟩:=yV _ _ _ _ _ he;simp only[bT,List.length_drop]at l1 l2;have ih:=CQ em hx h1x fs (o+k1.length) k2 (q.drop k1.length) b2 hk2 ha.2 (by simpa[mL]using e2);have one:∃a,(part f.type xs o).run P w=.ok a w∧(Instr.checkKey em 9999 f.type a).run P w=.ok () w:=by
   have h0:=ha.1;split at h0
   ·rename_i k hu;have hk1':k1=[some k]:=by simp[nV,hu]at hk1;exact hk1.symm
    subst hk1';obtain⟨a,hpa,hra⟩:=Fb (P:=P) (w:=w) (ag:=false) (n:=1) (o:=o) (by simp[wa,hu]) hsz (fun _=>rfl) hx h1x (by simp only[aO,bO]at l1 ⊢;omega);simp only[wF,aB,if_false]at hra;obtain⟨a0,x0,c0,y0,b0,e3,_,_,_⟩:=uU e1;simp only[aO,bO,db]at e3;rw[e3]at hra;cases hra with
    |cons _ _ _ _ g1 g2 =>
     obtain rfl:=g1.fp;exact⟨_,hpa,MapKept.run_checkKey (d:=.int k) hu (by simp[MapKept.IsKey]) em 9998⟩
   ·rename_i hu;have hk1':k1=[none]:=by simp[nV,hu]at hk1;exact hk1.symm
    subst hk1';obtain⟨a,hpa,hra⟩:=Fb (P:=P) (w:=w) (ag:=false) (n:=1) (o:=o) (by simp[wa,hu]) hsz (fun _=>rfl) hx h1x (by simp only[aO,bO]at l1 ⊢;omega);simp only[wF,aB,if_false]at hra;obtain⟨a0,x0,c0,y0,b0,e3,_,_,_⟩:=yW e1;simp only[aO,bO,db]at e3;rw[e3]at hra;cases hra with
    |cons _ _ _ _ g1 g2 =>
     obtain rfl:=g1.pY;exact⟨_,hpa,MapKept.run_checkKey (d:=.bool) hu (by simp[MapKept.IsKey]) em 9998⟩
   ·cases h0
  obtain⟨a,h1,h2⟩:=one;rw[List.forIn_cons];rw[hoff];simp only[hname,ne_eq,not_false_eq_true,if_true,Sem.run_bind,h1,h2,Result.andThen_ok,Sem.run_pure];exact ih
theorem IQ{t:TypeId}{ky:Ky}(hk:Nu P t=some ky){k:D}{x:Value}(hx:bK g k x)(hself:(tV ky k k).isSome=true)(em:Bool):(Instr.checkKey em 10000 t x).run P w=.ok () w:=by
 rcases Nv hk with⟨hu,rfl⟩ | ⟨kk,hu,rfl⟩ | ⟨fs,ks,hu,hks,rfl,hall⟩
 ·refine MapKept.run_checkKey (d:=.string) hu ?_ em 9999;obtain⟨c,hc⟩:=dC.1 hself;simp only[tV]at hc;split at hc
  case h_2=>cases hc
  obtain⟨b1,rfl,h1⟩:=hx.nL;simp[MapKept.IsKey]
 ·refine MapKept.run_checkKey (d:=.int kk) hu ?_ em 9999;obtain⟨c,hc⟩:=dC.1 hself;simp only[tV]at hc;split at hc
  case h_2=>cases hc
  rename_i p q hp hq2;have hx1:=wD hx hp;simp only[wF,aB,if_false]at hx1;obtain⟨a,xs,b,ys,b0,rfl,_,h0,rfl⟩:=uU hc;obtain⟨rfl,_,rfl⟩:=wC h0;cases hx1 with
  |cons _ _ _ _ g1 _ =>
   obtain rfl:=g1.fp;simp[MapKept.IsKey]
 ·obtain⟨c,hc⟩:=dC.1 hself;simp only[tV]at hc;split at hc
  case h_2=>cases hc
  rename_i p q hp hq2;have hx1:=wD hx hp;simp only[wF,if_true]at hx1;obtain⟨xs,rfl,hxr,h1x⟩:=hx1;have hks':nV.kindsF P (nV P 19) 0 fs.toList=some ks:=by
   have:=hks;rw[nV,hu]at this;dsimp only at this;split at this
   ·cases this
   ·exact this
  have hrun:=CQ (P:=P) (w:=w) em hxr h1x fs.toList 0 ks q c hks' hall (by simpa using hc);rw[show(10000:Nat)=9999+1 from rfl,Instr.checkKey];simp only[Sem.run_bind,run_underlying hu,Result.andThen_ok];rw[← Array.forIn_toList];simp at hrun ⊢;rw[hrun];rfl
end
section
variable {P:Program} {CR:gv} {base fb:Nat} {V:List Nat} {g:G} {σ σ':SK} {w:World} {B:Nat→Nat} {e:Env} {tmps:Array Value} {df:List Deferred} {d:D}
theorem Inv.apo(hi:Inv CR base g σ w){l i:Nat}(hn:ix σ (.cells 0 [])=some (l,i,σ')):
  Inv CR base (g.cJ l i (.mp w.heap.size)) σ' (w.alloc (.map #[] 0))∧Ev g w (g.cJ l i (.mp w.heap.size)) (w.alloc (.map #[] 0)):=by
 obtain⟨h1,h2,h3,_,_⟩:=kP hn;have hnone:=hi.E9 h1;have hle:g.le (g.cJ l i (.mp w.heap.size)):=G.lr fun L0 e=>by rw[hnone]at e;cases e
 refine⟨hi.KO l i hle h3 (fun l' i' c=>G.bF c) (fun l' i' L b c e eb=>alloc_old (hi.lo l' i' L b e eb).2) ?_ ?_ ?_ ?_ (by simp) ⟨_,G.aI⟩ (fun b v hb=>alloc_old (hi.j4 hb)),⟨hle,rfl,rfl,rfl,by simp,fun b hb _=>alloc_old hb,?_,fun b o v hv => .inl hv⟩⟩
 ·intro L e;rw[G.aI]at e;cases e;exact⟨_,h2,rfl,#[],0,ua,.nil,by simp[agk]⟩
 ·intro b o v e;obtain⟨h1,h2⟩:=hi.si b o v e;exact⟨(kj (alloc_old (hi.j4 e))).trans h1,h2⟩
 ·intro l' i' L b e eb o;by_cases c:l'=l∧i'=i
  ·obtain⟨rfl,rfl⟩:=c;rw[G.aI]at e;cases e;cases eb;cases e':(g.cJ l' i' (.mp w.heap.size)).si w.heap.size o with
   |none=>rfl
   |some v=>have:=hi.j4 (b:=w.heap.size) (o:=o) (v:=v) e';omega
  ·rw[G.bF c]at e;exact hi.sep l' i' L b e eb o
 ·intro L b e eb;rw[G.aI]at e;cases e;cases eb;refine⟨hi.ge,by simp,fun l' i' L' c e' eb'=>?_⟩;have:=(hi.lo l' i' L' _ e' eb').2;omega
 ·intro b hb;obtain⟨l',i',L,e,eb⟩:=hb;by_cases c:l'=l∧i'=i
  ·obtain⟨rfl,rfl⟩:=c;rw[G.aI]at e;cases e;cases eb;exact .inr (aL _)
  ·rw[G.bF c]at e;exact .inl ⟨l',i',L,e,eb⟩
theorem Inv.axq(hi:Inv CR base g σ w){l i T ee:Nat}(hn:ix σ (.cells 2 [.int .i64 (T:Nat),.int .i64 (ee:Nat),.str []])=some (l,i,σ')):
  Inv CR base (g.cJ l i (.ob w.heap.size none)) σ' (w.alloc (.cells #[.pointer none,.slice none 0 0] T))∧Ev g w (g.cJ l i (.ob w.heap.size none)) (w.alloc (.cells #[.pointer none,.slice none 0 0] T)):=by
 obtain⟨h1,h2,h3,_,_⟩:=kP hn;have hnone:=hi.E9 h1;have hle:g.le (g.cJ l i (.ob w.heap.size none)):=G.lr fun L0 e=>by rw[hnone]at e;cases e
 have hown:∀b,(Loc.ob w.heap.size none).owns b→w.heap.size=b:=fun b h=>by
  rcases h with h | h
  ·exact h
  ·cases h
 refine⟨hi.KO l i hle h3 (fun l' i' c=>G.bF c) (fun l' i' L b c e eb=>alloc_old (hi.lo l' i' L b e eb).2) ?_ ?_ ?_ ?_ (by simp) ⟨_,G.aI⟩ (fun b v hb=>alloc_old (hi.j4 hb)),⟨hle,rfl,rfl,rfl,by simp,fun b hb _=>alloc_old hb,?_,fun b o v hv => .inl hv⟩⟩
 ·intro L e;rw[G.aI]at e;cases e;exact⟨_,h2,rfl,T,ee,[],.pointer none,.slice none 0 0,rfl,ua,.inl rfl,World.ownsRowF_nil _ _ _ _,rfl,by simp⟩
 ·intro b o v e;obtain⟨h1,h2⟩:=hi.si b o v e;exact⟨(kj (alloc_old (hi.j4 e))).trans h1,h2⟩
 ·intro l' i' L b e eb o;by_cases c:l'=l∧i'=i
  ·obtain⟨rfl,rfl⟩:=c;rw[G.aI]at e;cases e;obtain rfl:=hown b eb;cases e':(g.cJ l' i' (.ob w.heap.size none)).si w.heap.size o with
   |none=>rfl
   |some v=>have:=hi.j4 (b:=w.heap.size) (o:=o) (v:=v) e';omega
  ·rw[G.bF c]at e;exact hi.sep l' i' L b e eb o
 ·intro L b e eb;rw[G.aI]at e;cases e;obtain rfl:=hown b eb;refine⟨hi.ge,by simp,fun l' i' L' c e' eb'=>?_⟩;have:=(hi.lo l' i' L' _ e' eb').2;omega
 ·intro b hb;obtain⟨l',i',L,e,eb⟩:=hb;by_cases c:l'=l∧i'=i
  ·obtain⟨rfl,rfl⟩:=c;rw[G.aI]at e;cases e;obtain rfl:=hown b eb;exact .inr (aL _)
  ·rw[G.bF c]at e;exact .inl ⟨l',i',L,e,eb⟩
theorem Inv.apG(hi:Inv CR base g σ w){l i b:Nat}{b0:aG}{es:List D}(hL:g.loc l i=some (.mp b))(hb:ei σ l i=some b0){dL:Array MapEntry}{clock:Nat}
  (hr:bG g es (dL.toList.map fun e => .tuple #[e.key,e.val])) (hm:agk dL.toList clock) {w':World} (hw:w'={w with heap:=w.heap.setIfInBounds b (.map dL clock) }):
  Inv CR base (g.cJ l i (.mp b)) (aX σ l i (.cells 0 es)) w'∧Ev g w (g.cJ l i (.mp b)) w':=by
 subst hw;have hlt:=(hi.lo l i _ b hL rfl).2;have hle:g.le (g.cJ l i (.mp b)):=G.lr fun L0 e=>by rw[hL]at e;cases e;exact Loc.le_refl _
 refine hi.setCells hL hb (Loc.le_refl _) ⟨rfl,dL,clock,by simp[hlt],hr.mono hle,hm⟩ (fun b' hb' hne=>?_) rfl rfl rfl (by simp) (fun b' hb' => .inl hb');have:b≠b':=fun hh=>hne (by rw[hh];rfl)
 simp[this]
theorem Bt(hi:Inv CR base g σ w){m:D}{c:Value}(hr:bK g m c){l i:Nat}{es:List D}(h:DD σ m=some (l,i,es)):
  ∃b dL clock v,c=.map (some b)∧g.loc l i=some (.mp b)∧ei σ l i=some (.cells v es)∧w.heap[b]?=some (.map dL clock)∧bG g es (dL.toList.map fun e => .tuple #[e.key,e.val])∧agk dL.toList clock:=by
 obtain⟨rfl,hcs⟩:=Uh h;unfold cells? at hcs;split at hcs
 case h_2=>cases hcs
 rename_i v' cs' hblk;split at hcs
 case isFalse=>cases hcs
 cases hcs;cases hr with
 |nO _ _ b hl =>
  obtain⟨b0,hb0,hrel⟩:=hi.zp l i _ hl;rw[hblk]at hb0;cases hb0;exact hrel.elim
 |mpv _ _ b hl =>
  obtain⟨b0,hb0,hrel⟩:=hi.zp l i _ hl;rw[hblk]at hb0;cases hb0;obtain⟨_,dL,clock,h1,h2,h3⟩:=hrel;exact⟨b,dL,clock,v',rfl,hl,hblk,h1,h2,h3⟩
 |itv _ _ b L hl hc =>
  obtain⟨b0,hb0,hrel⟩:=hi.zp l i _ hl;rw[hblk]at hb0;cases hb0;rcases hc with rfl | rfl
  ·rename_i hv0;obtain⟨hv1,_⟩:=hrel;omega
  ·exact hrel.elim
 |bdv _ _ b L hl hc =>
  obtain⟨b0,hb0,hrel⟩:=hi.zp l i _ hl;rw[hblk]at hb0;cases hb0;rcases hc with⟨c,rfl⟩ | rfl
  ·rename_i hv0;obtain⟨hv1,_⟩:=hrel;omega
  ·exact hrel.elim
theorem aCb(hi:Inv CR base g σ w){t:TypeId}{ρ:Operand→Value}(h:bN e σ (.mp .make [])=some (d,σ'))(o:Oper)(ho:o.op=.makeMap t none):fV P CR base g w B e ρ o d σ':=by
 simp only[bN,aw,DE,ad,au,Prod.exists]at h;obtain⟨l,i,σ1,hn,rfl,rfl⟩:=h;obtain⟨i1,e1⟩:=hi.apo hn;exact .val (.map (some w.heap.size)) (by
  have hrun:(Instr.makeMap t none).run P w=.ok (.map (some w.heap.size)) (w.alloc (.map #[] 0)):=rfl;simp only[execOp,ho,Option.map_none,Sem.run_bind,hrun,Result.andThen_ok,Sem.run_pure]) e1 i1 (.mpv l i _ G.aI)
theorem aB8(hi:Inv CR base g σ w){el ee:TypeId}{ρ:Operand→Value}(hz:sJ P el=some [.ze,.aH])
  (h:bN e σ (.mp (.mJ el ee) [])=some (d,σ')) (o:Oper) (ho:o.op=.alloc el):fV P CR base g w B e ρ o d σ':=by
 obtain⟨i0,v,hinfo,hzero,hrz,h1⟩:=uy g hz;simp only[bN,aw,DE,ad,au,Prod.exists]at h;obtain⟨l,i,σ1,hn,rfl,rfl⟩:=h;obtain⟨i1,e1⟩:=hi.axq hn;have hv:v.cells = #[.pointer none,.slice none 0 0]:=by
  generalize v.cells=a at hrz;obtain⟨a⟩:=a;dsimp only at hrz;cases hrz with
  |cons _ c _ cs k1 k2 =>
   cases k2 with
   |cons _ c2 _ cs2 k3 k4 =>
    cases k4;cases k1;cases k3;rfl
 have hrun:=KK (w:=w) hinfo hzero;rw[hv]at hrun;exact .val (.pointer (some ⟨w.heap.size,0,none⟩)) (by simp[execOp,ho,hrun]) e1 i1 (.bdv l i _ _ G.aI (.inl ⟨_,rfl⟩))
theorem ayb(hi:Inv CR base g σ w){t kt et:TypeId}{ik:IntKind}{n:Int}(h:bN e σ (.mp .make [])=some (d,σ'))(ht:P.underlying t=some (.map kt et))(o:Oper)(ho:o.op=.makeMap t (some (.const (.int ik n)))):fV P CR base g w B e (Act.mk tmps df).eval o d σ':=by
 simp only[bN,aw,DE,ad,au,Prod.exists]at h;obtain⟨l,i,σ1,hn,rfl,rfl⟩:=h;obtain⟨i1,e1⟩:=hi.apo hn;exact .val (.map (some w.heap.size)) (by
  have hrun:(Instr.makeMap t (some (.int ik n))).run P w=.ok (.map (some w.heap.size)) (w.alloc (.map #[] 0)):=by
   simp only[Instr.makeMap,Sem.run_bind,bj ht,Result.andThen_ok];rfl
  have hev:(Act.mk tmps df).eval (.const (.int ik n))=.int ik n:=rfl;simp only[execOp,ho,aT,hev,Sem.run_bind,hrun,Result.andThen_ok,Sem.run_pure]) e1 i1 (.mpv l i _ G.aI)
theorem ayc(hf:Fr fb V g w B e tmps)(hi:Inv CR base g σ w){x:Operand}{X:bM}{t kt et:TypeId}{args:Array Operand}{ts:Array TypeId}{r:List Operand}{tr:List TypeId}(hx:bI x=some X)
  (ht:P.underlying t=some (.map kt et)) (ha:args.toList=x::r) (hts:ts.toList=t::tr)
  (h:bN e σ (.mp .len [X])=some (d,σ')) (o:Oper) (ho:o.op=.call {callee:=.builtin .len,args,argTypes:=ts }):fV P CR base g w B e (Act.mk tmps df).eval o d σ':=by
 have hr:=hf.bh (df:=df) hx;obtain rfl:args=(x::r).toArray:=by rw[← ha]
 obtain rfl:ts=(t::tr).toArray:=by rw[← hts]
 simp only[bN,aj,aw,DE,ad,au,Prod.exists]at h;obtain⟨l,i,es,hm,rfl,rfl⟩:=h;obtain⟨b,dL,clock,v,hc,hl,hblk,hheap,hrel,hok⟩:=Bt hi hr hm;have hlen:=hrel.length;simp only[dk,Array.length_toList]at hlen;refine .pure hi (c:=.int .i64 dL.size) ?_ (by rw[hlen];exact cK.of (.int _ _));simp[execOp,ho,resolve,invoke,builtin,Builtin.len_,hc,bj ht,goInt,MapKept.run_getObj_map hheap]
theorem aJv{t:TypeId}{z:D}(g:G)(h:zvC P t=some z):∃i v,P.info? t=some i∧i.zero=some v∧bK g z v:=by
 unfold zvC at h;split at h
 ·rename_i i hi;split at h
  ·rename_i v hv;exact⟨i,v,hi,hv,M4 g h⟩
  ·cases h
 ·cases h
theorem aya(hf:Fr fb V g w B e tmps)(hi:Inv CR base g σ w){x y:Operand}{X Y:bM}{t kt et:TypeId}{ky:Ky}{z:D}{ok:Bool}(hx:bI x=some X)(hy:bI y=some Y)
  (ht:P.underlying t=some (.map kt et)) (hk:Nu P kt=some ky) (hz:zvC P et=some z)
  (h:bN e σ (.mp (.get ky z ok) [X,Y])=some (d,σ')) (o:Oper) (ho:o.op=.lookup t x y ok):fV P CR base g w B e (Act.mk tmps df).eval o d σ':=by
 have hr:=hf.bh (df:=df) hx;have hr':=hf.bh (df:=df) hy;simp only[bN,aj,aw,DE]at h;split at h
 case h_2=>cases h
 rename_i l i es hm;split at h
 case isFalse=>cases h
 rename_i hself;obtain⟨b,dL,clock,v,hc,hl,hblk,hheap,hrel,hok⟩:=Bt hi hr hm;have hck:=IQ (w:=w) hk hr' hself dL.isEmpty;obtain⟨iz,zv,hz1,hz2,hz3⟩:=aJv g hz;split at h
 ·rename_i j v1 hfk;cases h;obtain⟨o1,ho1,e1,_,rfl,hv1⟩:=zK (w:=w) hk hr' hrel hfk hself;cases ok
  ·refine .pure hi (c:=e1.val) ?_ (cK.of (by simpa using hv1));simp[execOp,ho,Instr.lookup,bj ht,hc,MapKept.run_getObj_map hheap,hck,ho1]
  ·refine .pure hi (c:=.tuple #[e1.val,.bool true]) ?_ (cK.of (by simpa using bK.ez _ #[e1.val,.bool true] (.cons _ _ _ _ hv1 (.cons _ _ _ _ (.bool true) .nil))));simp[execOp,ho,Instr.lookup,bj ht,hc,MapKept.run_getObj_map hheap,hck,ho1]
 ·rename_i hfk;cases h;obtain⟨o1,ho1,hf1⟩:=zK (w:=w) hk hr' hrel hfk hself;obtain rfl:o1=none:=hf1;cases ok
  ·refine .pure hi (c:=zv) ?_ (cK.of (by simpa using hz3));simp[execOp,ho,Instr.lookup,bj ht,hc,MapKept.run_getObj_map hheap,hck,ho1,iA hz1 hz2]
  ·refine .pure hi (c:=.tuple #[zv,.bool false]) ?_ (cK.of (by simpa using bK.ez _ #[zv,.bool false] (.cons _ _ _ _ hz3 (.cons _ _ _ _ (.bool false) .nil))));simp[execOp,ho,Instr.lookup,bj ht,hc,MapKept.run_getObj_map hheap,hck,ho1,iA hz1 hz2]
 ·cases h
theorem bG.set{g:G}:∀{ds:List D} {cs:List Value} {j:Nat} {d:D} {c:Value},bG g ds cs→bK g d c→bG g (ds.set j d) (cs.set j c)
 |[],[],_,_,_,_,_=>by simpa using bG.nil
 |_::_,_::_,0,_,_,.cons _ _ _ _ h1 h2,h => .cons _ _ _ _ h h2
 |_::_,_::_,j+1,_,_,.cons _ _ _ _ h1 h2,h => .cons _ _ _ _ h1 (h2.set h)
theorem apF(hf:Fr fb V g w B e tmps)(hi:Inv CR base g σ w){x y u:Operand}{X Y U:bM}{t kt et:TypeId}{ky:Ky}(hx:bI x=some X)(hy:bI y=some Y)(hu:bI u=some U)
  (ht:P.underlying t=some (.map kt et)) (hk:Nu P kt=some ky)
  (h:bN e σ (.mp (.put ky) [X,Y,U])=some (d,σ')) (o:Oper) (ho:o.op=.mapUpdate t x y u∨o.op=.insert t x y u):fV P CR base g w B e (Act.mk tmps df).eval o d σ':=by
 have hr:=hf.bh (df:=df) hx;have hr':=hf.bh (df:=df) hy;have hru:=hf.bh (df:=df) hu;simp only[bN,aj,aw,DE]at h;split at h
 case h_2=>cases h
 rename_i l i es hm;split at h
 case isFalse=>cases h
 rename_i hself;obtain⟨b,dL,clock,v,hc,hl,hblk,hheap,hrel,hok⟩:=Bt hi hr hm;have hck:=IQ (w:=w) hk hr' hself.1 false;generalize hkv:(Act.mk tmps df).eval y=kv at *
 generalize huv:(Act.mk tmps df).eval u=uv at *
 have hnew:bK g (.ez [bh e Y,bh e U]) (.tuple #[kv,uv]):=.ez _ _ (.cons _ _ _ _ hr' (.cons _ _ _ _ hru .nil));split at h
 ·rename_i j v1 hfk;cases h;obtain⟨o1,ho1,e1,he1,rfl,hv1⟩:=zK (w:=w) hk hr' hrel hfk hself.1;obtain⟨k',hk',hkq⟩:=Pb hfk;have hj:dL[j]?=some e1:=by simpa using he1
  have hold:bK g k' e1.key:=by
   obtain⟨c0,hc0,hr0⟩:=hrel.get hk';rw[kU,he1]at hc0;cases hc0;exact(SI hr0).1
  obtain⟨hsame,hbits⟩:=aoZ hkq hr' hold;have hlist:(dL.modify j fun e=>{e with key:=kv,val:=uv }).toList=dL.toList.set j {e1 with key:=kv,val:=uv }:=by
   rw[Array.toList_modify];apply dV;intro n;rw[List.getElem?_modify,List.getElem?_set];by_cases hn:j=n
   ·subst hn;have hlt:=(aF.1 he1).1;have hlt2:j<dL.size:=by simpa using hlt
    have hje:dL[j]=e1:=(c8.1 hj).2;simp[he1,hlt2,hje]
   ·simp[hn]
  obtain⟨i1,ev1⟩:=hi.apG (es:=es.set j (.ez [bh e Y,bh e U])) (dL:=dL.modify j fun e=>{e with key:=kv,val:=uv }) (clock:=clock) (w':={w with heap:=w.heap.setIfInBounds b (.map (dL.modify j fun e=>{e with key:=kv,val:=uv }) clock) }) hl hblk (by
    rw[hlist,List.map_set];exact hrel.set hnew) (by
    have hlt:=(aF.1 he1);rw[hlist];refine⟨?_,by rw[List.length_set];exact hok.2⟩;rw[List.map_set,List.length_set];have:(dL.toList.map (·.born)).set j e1.born=dL.toList.map (·.born):=by
     apply dV;intro n;rw[List.getElem?_set];by_cases hn:j=n
     ·subst hn;have hlt2:j<dL.size:=by simpa using hlt.1
      have hje:dL[j]=e1:=(c8.1 hj).2;simp[he1,hlt2,hje]
     ·simp[hn]
    rw[this];exact hok.1) rfl
  refine⟨.skip,Go.undef,_,_,?_,rfl,ev1,i1,.undef _⟩;have hkts:∀w:World,(Instr.keyThatStays e1.key kv).run P w=.ok kv w:=fun w=>by simp[Instr.keyThatStays,hbits]
  rcases ho with ho | ho<;>simp[execOp,ho,Instr.mapUpdate,bj ht,hc,hkv,huv,MapKept.run_getObj_map hheap,hck,ho1,hj,hkts,MapKept.run_setObj_map _ hheap]
 ·rename_i hfk;cases h;obtain⟨o1,ho1,hf1⟩:=zK (w:=w) hk hr' hrel hfk hself.1;obtain rfl:o1=none:=hf1;obtain⟨i1,ev1⟩:=hi.apG (es:=es++[.ez [bh e Y,bh e U]]) (dL:=dL.push {key:=kv,val:=uv,born:=clock }) (clock:=clock+1) (w':={w with heap:=w.heap.setIfInBounds b (.map (dL.push {key:=kv,val:=uv,born:=clock }) (clock+1)) }) hl hblk (by
    rw[Array.toList_push,List.map_append];exact hrel.append (.cons _ _ _ _ hnew .nil)) (by
    rw[Array.toList_push];have h2:=hok.2;refine⟨?_,by simp only[bT,aO,bO];omega⟩;rw[List.map_append,hok.1,bT,aO,bO,db,List.range_succ];simp only[aj,aw,h2]) rfl
  refine⟨.skip,Go.undef,_,_,?_,rfl,ev1,i1,.undef _⟩;rcases ho with ho | ho<;>simp[execOp,ho,Instr.mapUpdate,bj ht,hc,hkv,huv,MapKept.run_getObj_map hheap,hck,ho1,MapKept.run_setObj_map _ hheap]
 ·cases h
theorem Inv.art(hi:Inv CR base g σ w){l i lm im bm n:Nat}(hn:ix σ (.cells 1 [.nO lm im,.int .i64 (n:Nat)])=some (l,i,σ'))(hm:g.loc lm im=some (.mp bm)):
  Inv CR base (g.cJ l i (.it w.heap.size)) σ' (w.alloc (.mapIter (some bm) n #[] n))∧Ev g w (g.cJ l i (.it w.heap.size)) (w.alloc (.mapIter (some bm) n #[] n)):=by
 obtain⟨h1,h2,h3,_,_⟩:=kP hn;have hnone:=hi.E9 h1;have hle:g.le (g.cJ l i (.it w.heap.size)):=G.lr fun L0 e=>by rw[hnone]at e;cases e
 refine⟨hi.KO l i hle h3 (fun l' i' c=>G.bF c) (fun l' i' L b c e eb=>alloc_old (hi.lo l' i' L b e eb).2) ?_ ?_ ?_ ?_ (by simp) ⟨_,G.aI⟩ (fun b v hb=>alloc_old (hi.j4 hb)),⟨hle,rfl,rfl,rfl,by simp,fun b hb _=>alloc_old hb,?_,fun b o v hv => .inl hv⟩⟩
 ·intro L e;rw[G.aI]at e;cases e;have hm2:(g.cJ l i (.it w.heap.size)).loc lm im=some (.mp bm):=by
   rw[G.bF fun hh=>by rw[hh.1,hh.2,hnone]at hm;cases hm];exact hm
  exact⟨_,h2,rfl,lm,im,bm,n,[],rfl,hm2,ua,List.nodup_nil,by simp⟩
 ·intro b o v e;obtain⟨h1,h2⟩:=hi.si b o v e;exact⟨(kj (alloc_old (hi.j4 e))).trans h1,h2⟩
 ·intro l' i' L b e eb o;by_cases c:l'=l∧i'=i
  ·obtain⟨rfl,rfl⟩:=c;rw[G.aI]at e;cases e;cases eb;cases e':(g.cJ l' i' (.it w.heap.size)).si w.heap.size o with
   |none=>rfl
   |some v=>have:=hi.j4 (b:=w.heap.size) (o:=o) (v:=v) e';omega
  ·rw[G.bF c]at e;exact hi.sep l' i' L b e eb o
 ·intro L b e eb;rw[G.aI]at e;cases e;cases eb;refine⟨hi.ge,by simp,fun l' i' L' c e' eb'=>?_⟩;have:=(hi.lo l' i' L' _ e' eb').2;omega
 ·intro b hb;obtain⟨l',i',L,e,eb⟩:=hb;by_cases c:l'=l∧i'=i
  ·obtain⟨rfl,rfl⟩:=c;rw[G.aI]at e;cases e;cases eb;exact .inr (aL _)
  ·rw[G.bF c]at e;exact .inl ⟨l',i',L,e,eb⟩
theorem aCe(hf:Fr fb V g w B e tmps)(hi:Inv CR base g σ w){x:Operand}{X:bM}{t kt et:TypeId}(hx:bI x=some X)(ht:P.underlying t=some (.map kt et))
  (h:bN e σ (.mp .rng [X])=some (d,σ')) (o:Oper) (ho:o.op=.range t x):fV P CR base g w B e (Act.mk tmps df).eval o d σ':=by
 have hr:=hf.bh (df:=df) hx;simp only[bN,aj,aw,DE]at h;split at h
 case h_2=>cases h
 rename_i lm im es hm;obtain⟨b,dL,clock,v,hc,hl,hblk,hheap,hrel,hok⟩:=Bt hi hr hm;simp only[ad,au,Prod.exists]at h;obtain⟨l,i,σ1,hn,rfl,rfl⟩:=h;have hlen:=hrel.length;simp only[dk]at hlen;have hck:clock=es.length:=by rw[hlen];exact hok.2
 obtain⟨i1,e1⟩:=hi.art hn hl;have hrun:=run_range_map (P:=P) w t kt et b dL clock ht hheap;rw[hck]at hrun;exact .val (.pointer (some ⟨w.heap.size,0,none⟩)) (by simp[execOp,ho,hc,hrun]) e1 i1 (.itv l i _ _ G.aI (.inl rfl))
theorem aB0(hf:Fr fb V g w B e tmps)(hi:Inv CR base g σ w){x:Operand}{X:bM}(hx:bI x=some X)
  (h:bN e σ (.mp .ent [X])=some (d,σ')) (o:Oper) (ho:o.op=.entry x):fV P CR base g w B e (Act.mk tmps df).eval o d σ':=by
 have hr:=hf.bh (df:=df) hx;simp only[bN,aj,aw]at h;generalize bh e X=dx at hr h;cases dx<;>simp only[DE,reduceCtorEq]at h;rename_i l i;split at h
 case h_2=>cases h
 rename_i m n j rest hcs;split at h
 case h_2=>cases h
 rename_i lm im es hm;split at h
 case isFalse=>cases h
 rename_i hlen;split at h
 case h_2=>cases h
 rename_i k v hj;cases h;unfold cells? at hcs;split at hcs
 case h_2=>cases hcs
 rename_i v' cs' hblk;split at hcs
 case isFalse=>cases hcs
 rename_i hv1;cases hcs;generalize hcv:(Act.mk tmps df).eval x=cv at hr;cases hr with
 |nO _ _ b hl =>
  obtain⟨b0,hb0,hrel⟩:=hi.zp l i _ hl;rw[hblk]at hb0;cases hb0;exact hrel.elim
 |mpv _ _ b hl =>
  obtain⟨b0,hb0,hrel⟩:=hi.zp l i _ hl;rw[hblk]at hb0;cases hb0;have:=hrel.1;omega
 |bdv _ _ b L hl hc =>
  obtain⟨b0,hb0,hrel⟩:=hi.zp l i _ hl;rw[hblk]at hb0;cases hb0;rcases hc with⟨c,rfl⟩ | rfl
  ·have:=hrel.1;omega
  ·exact hrel.elim
 |itv _ _ b L hl hc =>
  obtain⟨b0,hb0,hrel⟩:=hi.zp l i _ hl;rw[hblk]at hb0;cases hb0;rcases hc with rfl | rfl
  rotate_left
  ·exact hrel.elim
  obtain⟨_,lm',im',bm,n',js,hcs,hlm,hheap,hnd,hlt⟩:=hrel;cases js with
  |nil=>simp at hcs
  |cons j' js =>
   simp only[aj,lC,D.int.injEq,true_and]at hcs;obtain⟨rfl,rfl,rfl,_⟩:=hcs;obtain⟨b2,dL,clock,v2,hc2,hl2,hblk2,hheap2,hrel2,hok⟩:=Bt hi (.mpv lm' im' bm hlm) hm;cases hc2;have hlen2:=hrel2.length;simp only[dk]at hlen2;obtain⟨c0,hc0,hr0⟩:=hrel2.get hj;rw[kU]at hc0;simp only[Int.toNat_natCast]at hc0;obtain⟨e1,he1,rfl⟩:=ad.1 hc0;have hborn:e1.born=j':=by
    have h1:=congrArg (fun l=>l[j']?) hok.1;simp only[kU,he1,aT]at h1;have h2:=(aF.1 he1).1;rw[List.getElem?_range h2]at h1;exact Option.some.inj h1
   have hck:clock=n':=by have:=hok.2;omega
   have hnd2:(dL.toList.map (·.born)).Nodup:=by rw[hok.1];exact List.nodup_range
   have hit:w.heap[b]?=some (.mapIter (some bm) n' (js.reverse.toArray.push e1.born) clock):=by
    rw[hheap,hborn,hck];simp
   have hrun:=run_entry_at (P:=P) w b bm n' js.reverse.toArray dL clock e1 hit hheap2 (an he1) hnd2;refine .pure hi (c:=.tuple #[e1.key,e1.val]) ?_ (cK.of hr0);simp[execOp,ho,hcv,hrun]
end
variable {P:Program} {CR:gv} {base fb:Nat} {V:List Nat} {g:G} {σ σ':SK} {w:World} {B:Nat→Nat} {e:Env} {tmps:Array Value} {df:List Deferred} {d:D}
theorem aCa(hf:Fr fb V g w B e tmps)(hi:Inv CR base g σ w){x:Operand}{X:bM}{t:TypeId}(hx:bI x=some X)(hc:P.concrete t=true)
  (h:bN e σ (.mki t X)=some (d,σ')) (o:Oper) (ho:o.op=.makeInterface t x):fV P CR base g w B e (Act.mk tmps df).eval o d σ':=by
 have hr:=hf.bh (df:=df) hx;simp only[bN,ae,au]at h;obtain⟨rfl,rfl⟩:=h;exact .pure hi (c:=.iface t ((Act.mk tmps df).eval x)) (by simp[execOp,ho,run_makeInterface w t _ hc]) (cK.of (.vn t _ _ hr))
theorem asQ(hf:Fr fb V g w B e tmps)(hi:Inv CR base g σ w){x:Operand}{X:bM}{t xt:TypeId}{dsc:TypeDesc}{ok:Bool}{z:Option D}(hx:bI x=some X)(ht:P.underlying t=some dsc)(hn:∀ms,dsc ≠ .interface ms)
  (hz:if ok then ∃z0,z=some z0∧zvC P t=some z0 else z=none)
  (h:bN e σ (.tas t z X)=some (d,σ')) (o:Oper) (ho:o.op=.typeAssert x xt t ok):fV P CR base g w B e (Act.mk tmps df).eval o d σ':=by
 have hr:=hf.bh (df:=df) hx;simp only[bN,ad,au]at h;obtain⟨d0,h,rfl,rfl⟩:=h;generalize hcx:(Act.mk tmps df).eval x=cx at hr;generalize bh e X=dx at hr h;cases hr with
 |vn t' d1 c h1 =>
  simp only[afX]at h;cases ok with
  |true =>
   simp only[if_true]at hz;obtain⟨z0,rfl,hz⟩:=hz;obtain⟨iz,zv,hz1,hz2,hz3⟩:=aJv g hz;simp only[ae]at h;by_cases htt:t'=t
   ·rw[if_pos htt]at h;subst h;refine .pure hi (c:=.tuple #[c,.bool true]) ?_ (cK.of (.ez _ #[c,.bool true] (.cons _ _ _ _ h1 (.cons _ _ _ _ (.bool true) .nil))));simp only[execOp,ho,hcx,Instr.typeAssert,Sem.run_bind,run_underlying ht,Result.andThen_ok];cases dsc<;>first | exact absurd rfl (hn _) | simp[htt]
   ·rw[if_neg htt]at h;subst h;refine .pure hi (c:=.tuple #[zv,.bool false]) ?_ (cK.of (.ez _ #[zv,.bool false] (.cons _ _ _ _ hz3 (.cons _ _ _ _ (.bool false) .nil))));simp only[execOp,ho,hcx,Instr.typeAssert,Sem.run_bind,run_underlying ht,Result.andThen_ok];cases dsc<;>first | exact absurd rfl (hn _) | simp[htt,iA hz1 hz2]
  |false =>
   simp only[aB,if_false]at hz;subst hz;simp only at h;split at h
   case isFalse=>cases h
   rename_i htt;cases h;refine .pure hi (c:=c) ?_ (cK.of h1);simp only[execOp,ho,hcx,Instr.typeAssert,Sem.run_bind,run_underlying ht,Result.andThen_ok];cases dsc<;>first | exact absurd rfl (hn _) | simp[htt]
 |pW =>
  simp only[afX,ad]at h;obtain⟨z1,rfl,rfl⟩:=h;cases ok with
  |true =>
   simp only[if_true]at hz;obtain⟨z0,hz0,hz⟩:=hz;cases hz0;obtain⟨iz,zv,hz1,hz2,hz3⟩:=aJv g hz;refine .pure hi (c:=.tuple #[zv,.bool false]) ?_ (cK.of (.ez _ #[zv,.bool false] (.cons _ _ _ _ hz3 (.cons _ _ _ _ (.bool false) .nil))));simp only[execOp,ho,hcx,Instr.typeAssert,Sem.run_bind,run_underlying ht,Result.andThen_ok];cases dsc<;>first | exact absurd rfl (hn _) | simp[iA hz1 hz2]
  |false=>simp at hz
 |_=>simp[afX]at h
theorem KL{t:TypeId}{ms:Array (String×TypeId)}(n:Nat)(ht:P.underlying t=some (.interface ms))(w:World):(Op.equalIn (n+1) t .nilIface .nilIface).run P w=.ok true w:=by
 rw[Op.equalIn];simp[run_underlying ht]
theorem LU{t t':TypeId}{c:Value}{ms:Array (String×TypeId)}(n:Nat)(ht:P.underlying t=some (.interface ms))(w:World):(Op.equalIn (n+1) t (.iface t' c) .nilIface).run P w=.ok false w:=by
 rw[Op.equalIn];simp[run_underlying ht]
theorem NI{t:TypeId}{ms:Array (String×TypeId)}(ht:P.underlying t=some (.interface ms))(w:World):(Op.equal t .nilIface .nilIface).run P w=.ok true w:=KL 9999 ht w
theorem ON{t t':TypeId}{c:Value}{ms:Array (String×TypeId)}(ht:P.underlying t=some (.interface ms))(w:World):(Op.equal t (.iface t' c) .nilIface).run P w=.ok false w:=LU 9999 ht w
theorem asN(hf:Fr fb V g w B e tmps)(hi:Inv CR base g σ w){x:Operand}{X:bM}{t u:TypeId}{ms:Array (String×TypeId)}{neg:Bool}(hx:bI x=some X)(ht:P.underlying t=some (.interface ms))
  (h:bN e σ (.isi neg X)=some (d,σ')) (o:Oper) (ho:o.op=.binOp (if neg then .neq else .eql) t x (.const .nilIface) u):fV P CR base g w B e (Act.mk tmps df).eval o d σ':=by
 have hr:=hf.bh (df:=df) hx;simp only[bN,ad,au]at h;obtain⟨b,h,rfl,rfl⟩:=h;have hev:(Act.mk tmps df).eval (.const .nilIface)=.nilIface:=rfl;generalize hcx:(Act.mk tmps df).eval x=cx at hr;generalize bh e X=dx at hr h;cases hr with
 |pW =>
  cases h;refine .pure hi (c:=.bool (if neg then false else true)) ?_ (cK.of (by cases neg<;>exact .bool _));cases neg<;>simp[execOp,ho,hcx,hev,eqGuard,binOp,NI ht]
 |vn t' d1 c h1 =>
  cases h;refine .pure hi (c:=.bool (if neg then true else false)) ?_ (cK.of (by cases neg<;>exact .bool _));cases neg<;>simp[execOp,ho,hcx,hev,eqGuard,binOp,ON ht]
 |_=>cases h
section
variable {P:Program} {CR:gv} {base fb:Nat} {V:List Nat} {g:G} {σ σ':SK} {w:World} {B:Nat→Nat} {e:Env} {tmps:Array Value} {df:List Deferred}
 {a:bP} {ops:Array Oper} {key:Nat} {k:K} {d:D}
theorem Vv(hf:Fr fb V g w B e tmps)(hi:Inv CR base g σ w){x y:Operand}{X Y:bM}{t u:TypeId}{b:BinOp}(hx:bI x=some X)(hy:bI y=some Y)
  (hk:eqC P b t X Y=some k) (h:bN e σ k=some (d,σ')) (o:Oper) (ho:o.op=.binOp b t x y u):fV P CR base g w B e (Act.mk tmps df).eval o d σ':=by
 unfold eqC at hk;split at hk
 case h_2=>cases hk
 rename_i ks hks;split at hk
 ·cases hk
 rename_i hg;have hg':P.eqGuardType P.depth t=false:=by simpa using hg
 split at hk
 ·obtain⟨ag,hag,rfl⟩:=ad.1 hk;exact asM hf hi hx hy hks hag hg' h o (by simpa using ho)
 ·obtain⟨ag,hag,rfl⟩:=ad.1 hk;exact asM hf hi hx hy hks hag hg' h o (by simpa using ho)
 ·cases hk
theorem arN{ag:Bool}{sz:Nat}{X:bM}{r:D×SK}(h:bN e σ (.ldi ag sz X)=some r):bN e σ (.ld ag sz X)=some r:=by
 simp only[bN]at h ⊢;cases hx:bh e X<;>rw[hx]at h<;>try (cases h;done)
 simpa[KG]using h
theorem arM{ag:Bool}{sz:Nat}{X:bM}{r:D×SK}(h:bN e σ (.ld0 ag sz X)=some r):bN e σ (.ld ag sz X)=some r:=by
 simp only[bN]at h ⊢;cases hr:rd0 σ (bh e X)with
 |none=>rw[hr]at h;cases h
 |some cs =>
  rw[hr]at h;have:KG σ (bh e X)=some cs:=by
   generalize bh e X=dx at hr;unfold rd0 at hr;split at hr
   ·exact hr
   ·cases hr
  rw[this];exact h
theorem Gq{w:World}(d:Nat){t el:TypeId}{a:Option Addr}(h:P.underlying t=some (.pointer el)):(Op.equalIn (d+1) t (.pointer a) (.pointer none)).run P w=.ok a.isNone w:=by
 cases a<;>simp[Op.equalIn,bj h]
theorem run_equalIn_slice_nil{w:World}(d:Nat){t el:TypeId}{a:Option Addr}{n c:Nat}(h:P.underlying t=some (.slice el)):(Op.equalIn (d+1) t (.slice a n c) (.slice none 0 0)).run P w=.ok a.isNone w:=by
 cases a<;>simp[Op.equalIn,bj h]
theorem aB3(hi:Inv CR base g σ w){x y:Operand}{X:bM}{t u:TypeId}{b:BinOp}{ps bo:Bool}{cx cy:Value}(e1:(Act.mk tmps df).eval x=cx)(e2:(Act.mk tmps df).eval y=cy)
  (hg:∀b,(eqGuard b t x y cx cy).run P w=.ok () w) (hb:binOp .eql t cx cy=(do pure (.bool (← Op.equal t cx cy)))) (hb':binOp .neq t cx cy=(do pure (.bool (!(← Op.equal t cx cy)))))
  (heq:(Op.equal t cx cy).run P w=.ok bo w) (hn:OI ps (bh e X)=some bo)
  (hk:isC ps b X=some k) (h:bN e σ k=some (d,σ')) (o:Oper) (ho:o.op=.binOp b t x y u):fV P CR base g w B e (Act.mk tmps df).eval o d σ':=by
 unfold isC at hk;split at hk
 ·cases hk;simp only[bN,hn,aT,ae,au]at h;obtain⟨rfl,rfl⟩:=h;refine .pure hi ?_ (cK.of (.bool _));simp[execOp,ho,e1,e2,hg,hb,heq]
 ·cases hk;simp only[bN,hn,aT,ae,au]at h;obtain⟨rfl,rfl⟩:=h;refine .pure hi ?_ (cK.of (.bool _));simp[execOp,ho,e1,e2,hg,hb',heq]
 ·cases hk
theorem T6{ps:Bool}{b:BinOp}{X:bM}(hk:isC ps b X=some k)(h:bN e σ k=some (d,σ')):∃bo,OI ps (bh e X)=some bo:=by
 unfold isC at hk;split at hk<;>cases hk<;>simp only[bN,ad]at h<;>obtain⟨b,hb,_⟩:=h<;>exact⟨b,hb⟩
theorem aB4(hf:Fr fb V g w B e tmps)(hi:Inv CR base g σ w){x y:Operand}{X:bM}{t u el:TypeId}{b:BinOp}(hx:bI x=some X)(hy:bI y=some (.c .ze))(ht:P.underlying t=some (.pointer el))
  (hk:isC true b X=some k) (h:bN e σ k=some (d,σ')) (o:Oper) (ho:o.op=.binOp b t x y u):fV P CR base g w B e (Act.mk tmps df).eval o d σ':=by
 have hr:=hf.bh (df:=df) hx;have hr':=hf.bh (df:=df) hy;have e2:(Act.mk tmps df).eval y=.pointer none:=by
  generalize (Act.mk tmps df).eval y=c at hr';cases hr';rfl
 obtain⟨bo,hn⟩:=T6 hk h;have:∃a,(Act.mk tmps df).eval x=.pointer a∧bo=a.isNone:=by
  generalize bh e X=dx at hr hn;generalize (Act.mk tmps df).eval x=cx at hr;cases hr<;>simp[OI]at hn
  ·exact⟨none,rfl,by simp[← hn]⟩
  ·exact⟨_,rfl,by simp[← hn]⟩
  ·exact⟨_,rfl,by simp[← hn]⟩
 obtain⟨a,e1,rfl⟩:=this;refine aB3 hi e1 e2 (fun b=>by simp[eqGuard]) rfl rfl (Gq 9999 ht) hn hk h o ho
theorem aB5(hf:Fr fb V g w B e tmps)(hi:Inv CR base g σ w){x y:Operand}{X:bM}{t u el:TypeId}{b:BinOp}(hx:bI x=some X)(hy:bI y=some (.c .aH))(ht:P.underlying t=some (.slice el))
  (hk:isC false b X=some k) (h:bN e σ k=some (d,σ')) (o:Oper) (ho:o.op=.binOp b t x y u):fV P CR base g w B e (Act.mk tmps df).eval o d σ':=by
 have hr:=hf.bh (df:=df) hx;have hr':=hf.bh (df:=df) hy;have e2:(Act.mk tmps df).eval y=.slice none 0 0:=by
  generalize (Act.mk tmps df).eval y=c at hr';cases hr';rfl
 obtain⟨bo,hn⟩:=T6 hk h;have:∃a n c,(Act.mk tmps df).eval x=.slice a n c∧bo=a.isNone:=by
  generalize bh e X=dx at hr hn;generalize (Act.mk tmps df).eval x=cx at hr;cases hr<;>simp[OI]at hn
  ·exact⟨none,_,_,rfl,by simp[← hn]⟩
  ·exact⟨_,_,_,rfl,by simp[← hn.2]⟩
  ·rename_i l i v off n w a cap L h1 h2 h3 h4 h5 h6 h7;refine⟨a,n,cap,rfl,?_⟩;cases a with
   |none=>have:=h4 rfl;omega
   |some a=>simp[← hn.2]
 obtain⟨a,n,c,e1,rfl⟩:=this;refine aB3 hi e1 e2 (fun b=>by simp[eqGuard]) rfl rfl (run_equalIn_slice_nil 9999 ht) hn hk h o ho
theorem aCd(hf:Fr fb V g w B e tmps)(hi:Inv CR base g σ w){x:Operand}{X:bM}(hx:bI x=some X)(h:bN e σ (.nN X)=some (d,σ'))(o:Oper)(ho:o.op=.nilCheck x):
  fV P CR base g w B e (Act.mk tmps df).eval o d σ':=by
 have hr:=hf.bh (df:=df) hx;simp only[bN]at h;generalize bh e X=dx at hr h;have key:(∃a,(Act.mk tmps df).eval x=.pointer (some a))∧d=dx∧σ'=σ:=by
  generalize (Act.mk tmps df).eval x=cx at hr;cases hr<;>simp at h
  ·exact⟨⟨_,rfl⟩,h.1.symm,h.2.symm⟩
  ·exact⟨⟨_,rfl⟩,h.1.symm,h.2.symm⟩
 obtain⟨⟨a,e1⟩,rfl,rfl⟩:=key;rw[e1]at hr;exact .pure hi (c:=.pointer (some a)) (by simp[execOp,ho,e1]) (cK.of hr)
theorem Pl{x:Operand}(h:Cw x=true):x=.const (.slice none 0 0):=by
 unfold Cw at h;split at h
 ·rfl
 ·cases h
theorem ayl(hf:Fr fb V g w B e tmps)(hi:Inv CR base g σ w){o:Oper}(hk:kC P a ops key o=some k)(h:bN e σ k=some (d,σ')):
  fV P CR base g w B e (Act.mk tmps df).eval o d σ':=by
 unfold kC at hk;split at hk
 ·rename_i x ho;obtain⟨X,hX,rfl⟩:=ad.1 hk;exact afI hf hi hX h o (.inl ho)
 ·rename_i x ho;split at hk
  ·rename_i hnil _ _;split at hk
   ·obtain⟨X,hX,rfl⟩:=ad.1 hk;exact ayd hi h o (by rw[ho,Pl hnil])
   ·obtain⟨X,hX,rfl⟩:=ad.1 hk;exact afI hf hi hX h o (.inr ho)
  ·obtain⟨X,hX,rfl⟩:=ad.1 hk;exact afI hf hi hX h o (.inr ho)
 ·rename_i c x y ho;split at hk
  ·rename_i c' x' y' h1 h2 h3;cases hk;exact aye hf hi h1 h2 h3 h o ho
  ·cases hk
 ·rename_i el ho;split at hk
  ·rename_i z d0 hz _;split at hk
   ·split at hk
    case h_2=>cases hk
    split at hk
    case h_2=>cases hk
    split at hk
    case h_2=>cases hk
    cases hk;exact aB8 hi hz h o ho
   cases hk;split at h
   ·cases h
   ·exact aBP hi hz h o ho
  ·cases hk
 ·rename_i t x ho;split at hk
  ·rename_i x' d0 hx _;cases hk;split at h
   ·cases h
   split at h
   ·split at h
    ·exact ax4 hf hi hx h o ho
    ·exact aBX hf hi hx h o ho
   ·exact ax3 hf hi hx h o ho
  ·cases hk
 ·rename_i t ps ho;split at hk
  ·rename_i fs z ht hz;split at hk
   ·rename_i hall;obtain⟨parts,hp,rfl⟩:=ad.1 hk;exact Sw hf hi ht hz hall hp h o ho
   ·cases hk
  ·rename_i n el z ht hz;split at hk
   ·rename_i wd hw;obtain⟨parts,hp,rfl⟩:=ad.1 hk;exact Ux hf hi ht hw hz hp h o ho
   ·cases hk
  ·cases hk
 ·rename_i t n ps ho;split at hk
  ·rename_i el ht;split at hk
   ·rename_i wd z d0 hw hz _;split at hk
    ·rename_i hc;obtain⟨parts,hp,rfl⟩:=ad.1 hk;dsimp only at h;split at h
     ·rename_i hn;simp only[af,aA]at hn;obtain⟨⟨rfl,hpe⟩,_⟩:=hn;exact aBU hf hi ht hw hz hc.1 hc.2.1 hc.2.2 hp (by simpa using hpe) h o ho
     split at h
     ·exact aBW hf hi ht hw hz hc.1 hc.2.1 hc.2.2 hp h o ho
     ·exact aBV hf hi ht hw hz hc.1 hc.2.1 hc.2.2 hp h o ho
    ·cases hk
   ·cases hk
  ·cases hk
 ·rename_i t x ho;split at hk
  ·rename_i ag sz n hag hsz hx;split at hk
   ·rename_i hc;simp only[af,aA]at hc;cases hk;have hxe:x=.tmp n:=by
     cases x<;>simp only[bI,ae,bM.t.injEq,reduceCtorEq,ad,and_false,exists_false]at hx;rw[hx]
    split at h
    ·exact aB6 hf hi hag hsz hc.1 hc.2 h o (by rw[ho,hxe])
    ·split at h
     ·exact ax9 hf hi hx hag hsz hc.1 hc.2 (arN h) o ho
     split at h
     ·exact ax9 hf hi hx hag hsz hc.1 hc.2 (arM h) o ho
     ·exact ax9 hf hi hx hag hsz hc.1 hc.2 h o ho
   ·cases hk
  ·cases hk
 ·rename_i t x y ho;split at hk
  ·rename_i sz n y' hsz hx hy;cases hk;split at h
   ·cases h
   ·split at h
    ·exact aCi hf hi hx hy hsz (ag9 h) o ho
    ·exact aCi hf hi hx hy hsz h o ho
  ·cases hk
 ·rename_i b t x y u ho;split at hk
  ·rename_i hx hy;cases hk;exact aBT hf hi hx hy h o ho
  ·rename_i hx hy;exact Vv hf hi hx hy hk h o ho
  ·rename_i hx hy;exact Vv hf hi hx hy hk h o ho
  ·rename_i hx hy;exact Vv hf hi hx hy hk h o ho
  ·rename_i ht hx hy;split at hk
   ·cases hk;exact ayf hf hi hx hy h o ho
   ·cases hk;exact asP hf hi hx hy h o ho
   ·cases hk;exact asP hf hi hx hy h o ho
   ·cases hk
  ·rename_i ht hx hy;exact aB4 hf hi hx hy ht hk h o ho
  ·rename_i ht hx hy;split at hk
   ·rename_i hsz;split at hk
    ·cases hk;exact asO (neg:=false) hf hi hx hy ht hsz h o ho
    ·cases hk;exact asO (neg:=true) hf hi hx hy ht hsz h o ho
    ·cases hk
   ·cases hk
  ·rename_i ht hx hy;exact aB5 hf hi hx hy ht hk h o ho
  ·rename_i ht hx hy;split at hk
   ·cases hk;exact asN (neg:=false) hf hi hx ht h o ho
   ·cases hk;exact asN (neg:=true) hf hi hx ht h o ho
   ·cases hk
  ·cases hk
 ·rename_i x ho;obtain⟨X,hX,rfl⟩:=ad.1 hk;exact aCd hf hi hX h o ho
 ·rename_i b t x ho;obtain⟨X,hX,rfl⟩:=ad.1 hk;exact aED hf hi hX h o ho
 ·rename_i s t x ho;split at hk
  ·rename_i hs ht hx;cases hk;exact aBZ hf hi hx hs ht h o ho
  ·rename_i hs ht hx;split at hk
   ·rename_i he hw;cases hk;exact aBS hf hi hx hs he ht h o ho
   ·cases hk
  ·rename_i hs ht hx;split at hk
   ·rename_i he hw;cases hk;exact aCg hf hi hx hs he ht h o ho
   ·cases hk
  ·cases hk
 ·rename_i t x ho;split at hk
  ·rename_i ht hx;obtain⟨wd,hw,rfl⟩:=ad.1 hk;exact aCf hf hi hx ht h o ho
  ·cases hk
 ·rename_i f xs ys ho;split at hk
  ·rename_i hx hy;cases hk;exact aB9 hf hi hx hy h o ho
  ·cases hk
 ·rename_i t x y ho;split at hk
  ·rename_i el ht;split at hk
   ·rename_i hw hb hz hx hy;split at hk
    ·rename_i hc;cases hk;exact aCc hf hi hx hy ht hw hb hz hc.1 hc.2 h o ho
    ·cases hk
   ·cases hk
  ·cases hk
 ·rename_i t x lo hh mx ho;split at hk
  ·rename_i ht hx hlo hhi hmx;obtain⟨wd,hw,rfl⟩:=ad.1 hk;exact aCh hf hi hx ht hw hlo hhi hmx h o ho
  ·rename_i ht hx hlo hhi hmx;obtain⟨wd,hw,rfl⟩:=ad.1 hk;have hm:mx=none:=by
    cases mx with
    |none=>rfl
    |some m=>simp[zg,ad]at hmx
   subst hm;exact ayh hf hi hx ht hw hlo hhi h o ho
  ·rename_i ht hx hlo hhi hmx;cases hk;have hm:mx=none:=by
    cases mx with
    |none=>rfl
    |some m=>simp[zg,ad]at hmx
   subst hm;exact ayj hf hi hx ht hlo hhi h o ho
  ·cases hk
 ·rename_i s x i ho;split at hk
  ·rename_i fs x' hs hx;split at hk
   ·rename_i off sz hfc;split at hk
    ·rename_i hpos;cases hk;exact ax5 hf hi hx hs hfc hpos h o ho
    ·cases hk
   ·cases hk
  ·cases hk
 ·rename_i s x i ho;split at hk
  ·rename_i fs x' hs hx;split at hk
   ·rename_i f hfi;split at hk
    ·rename_i hag hsz;split at hk
     ·cases hk;exact aB2 hf hi hx hs hfi hag hsz h o ho
     ·cases hk
    ·cases hk
   ·cases hk
  ·cases hk
 ·rename_i t x y ho;split at hk
  ·rename_i ht hx hy;obtain⟨wd,hw,rfl⟩:=ad.1 hk;exact ax6 hf hi hx hy ht hw h o ho
  ·rename_i ht hx hy;obtain⟨wd,hw,rfl⟩:=ad.1 hk;exact ax7 hf hi hx hy ht hw h o ho
  ·cases hk
 ·rename_i t x y ho;split at hk
  ·rename_i ht hx hy;split at hk
   ·rename_i hag hsz;split at hk
    ·cases hk;exact ax8 hf hi hx hy ht hag hsz h o ho
    ·cases hk
   ·cases hk
  ·rename_i ht hx hy;cases hk;exact ayg hf hi hx hy ht h o ho
  ·cases hk
 ·rename_i x i ho;obtain⟨X,hX,rfl⟩:=ad.1 hk;exact aB1 hf hi hX h o ho
 ·rename_i c ho;obtain⟨callee,args,ts⟩:=c;dsimp only at hk;split at hk
  ·rename_i f;split at hk
   ·cases hk;cases h
   ·cases hk
  ·split at hk
   ·rename_i t tr x r hts ha;split at hk
    ·rename_i ht hx;cases hk;exact aB7 hf hi hx ht ha hts h o ho
    ·rename_i ht hx;cases hk;exact ayi hf hi hx ht ha hts h o ho
    ·rename_i ht hx;cases hk;exact ayc hf hi hx ht ha hts h o ho
    ·rename_i ht;cases hk;exact apE hi (.inl ⟨_,ht⟩) ha hts h o ho
    ·rename_i ht;split at hk
     ·rename_i hr;cases hk;exact apE hi (.inr ⟨_,_,ht,hr⟩) ha hts h o ho
     ·cases hk
    ·cases hk
   ·cases hk
  ·cases hk;cases h
  ·split at hk
   ·rename_i ha;split at hk
    ·rename_i hx hy;cases hk;exact aEB hf hi hx hy ha h o ho
    ·cases hk
   ·cases hk
  ·split at hk
   ·rename_i ha;split at hk
    ·rename_i hx hy;cases hk;exact aEC hf hi hx hy ha h o ho
    ·cases hk
   ·cases hk
  ·split at hk
   ·rename_i t u x y hts ha;split at hk
    ·rename_i uu x' y' ht hu0 hx hy;split at hk
     case isFalse=>cases hk
     rename_i huu;have hu:P.underlying u=some .string∨∃e2,P.underlying u=some (.slice e2):=by
      cases uu<;>simp[apw]at huu
      ·exact .inl hu0
      ·exact .inr ⟨_,hu0⟩
     split at hk
     ·rename_i hw hb hz;split at hk
      ·rename_i hc;cases hk;split at h
       ·rename_i hn;simp only[af]at hn;exact aBY hf hi (Pl hn.1) hy ha hts ht hu hw hb hz hc.2.2.2 hc.2.1 hc.2.2.1 h o ho
       ·split at h
        ·rename_i hn;simp only[af]at hn;obtain⟨v,rfl⟩:∃v,x=.tmp v:=by
          have:=hn.2;cases x<;>simp[apW]at this;exact⟨_,rfl⟩
         exact aBQ hf hi rfl hy ha hts ht hu hw hb hz hc.2.2.2 hc.2.1 hc.2.2.1 h o ho
        split at h
        ·exact aBR hf hi hx hy ha hts ht hu hw hb hz hc.2.2.2 hc.2.1 hc.2.2.1 h o ho
        split at h
        ·exact apD hf hi hx hy ha hts ht hu hw hb hz hc.2.2.2 hc.2.1 hc.2.2.1 (ag8 h) o ho
        ·exact apD hf hi hx hy ha hts ht hu hw hb hz hc.2.2.2 hc.2.1 hc.2.2.1 h o ho
      ·cases hk
     ·cases hk
    ·cases hk
   ·cases hk
  ·cases hk
 ·rename_i t x ho;split at hk
  ·rename_i hc;obtain⟨X,hX,rfl⟩:=ad.1 hk;exact aCa hf hi hX hc h o ho
  ·cases hk
 ·rename_i x xt t ok ho;split at hk
  ·cases hk
  ·rename_i dsc x' hnot ht hx;split at hk
   ·rename_i hok;subst hok;obtain⟨z,hz,rfl⟩:=ad.1 hk;exact asQ hf hi hx ht (fun ms hms=>by subst hms;exact hnot _ rfl) (by simpa using hz) h o ho
   ·rename_i hok;cases hk;exact asQ hf hi hx ht (fun ms hms=>by subst hms;exact hnot _ rfl) (by simp[hok]) h o ho
  ·cases hk
 ·rename_i x ho;obtain⟨X,hX,rfl⟩:=ad.1 hk;cases h
 ·rename_i t ho;cases hk;exact aCb hi h o ho
 ·rename_i t k n ho;split at hk
  ·rename_i ht;cases hk;exact ayb hi h ht o ho
  ·cases hk
 ·rename_i t x ho;split at hk
  ·rename_i ht hx;cases hk;exact aCe hf hi hx ht h o ho
  ·cases hk
 ·rename_i x ho;split at hk
  ·rename_i hx;cases hk;exact aB0 hf hi hx h o ho
  ·cases hk
 ·rename_i t x y ok ho;split at hk
  ·rename_i ht hx hy;split at hk
   ·rename_i hky hz;cases hk;exact aya hf hi hx hy ht hky hz h o ho
   ·cases hk
  ·cases hk
 ·rename_i t m x y ho;split at hk
  ·rename_i ht hm hx hy;split at hk
   ·rename_i hky;cases hk;exact apF hf hi hm hx hy ht hky h o (.inl ho)
   ·cases hk
  ·cases hk
 ·rename_i t m x y ho;split at hk
  ·rename_i ht hm hx hy;split at hk
   ·rename_i hky;cases hk;exact apF hf hi hm hx hy ht hky h o (.inr ho)
   ·cases hk
  ·cases hk
 ·cases hk
end
mutual
def D.low(n:Nat):D→Bool
 |.ref l .. => decide (l<n)
 |.sl l .. => decide (l<n)
 |.nO l _=>decide (l<n)
 |.vr .. => true
 |.emp=>true
 |.own _ cs=>D.nW n cs
 |.agg cs=>D.nW n cs
 |.ez cs=>D.nW n cs
 |.bE cs=>D.nW n cs
 |.aK _ cs=>D.nW n cs
 |.fn _ a b=>D.nW n a && D.nW n b
 |.undef=>true
 |.bool _=>true
 |.int _ _=>true
 |.str _=>true
 |.ze=>true
 |.aH=>true
 |.jj=>true
 |.vn _ d=>D.low n d
 |.pW=>true
def D.nW(n:Nat):List D→Bool
 |[]=>true
 |d::ds=>D.low n d && D.nW n ds
end
theorem EJ{n:Nat}{ds:List D}:D.nW n ds=true↔∀d∈ds,d.low n=true:=by
 induction ds with
 |nil=>simp[D.nW]
 |cons d ds ih=>simp[D.nW,ih]
mutual
theorem we{n:Nat}:∀{d:D},d.clean=true→d.low n=true
 |.ref ..,h=>by simp[D.clean]at h
 |.sl ..,h=>by simp[D.clean]at h
 |.nO ..,h=>by simp[D.clean]at h
 |.vr ..,_=>rfl
 |.emp,_=>rfl
 |.own _ cs,h=>rK (ds:=cs) (by simpa[D.clean]using h)
 |.agg cs,h=>rK (ds:=cs) (by simpa[D.clean]using h)
 |.ez cs,h=>rK (ds:=cs) (by simpa[D.clean]using h)
 |.bE cs,h=>rK (ds:=cs) (by simpa[D.clean]using h)
 |.aK _ cs,h=>rK (ds:=cs) (by simpa[D.clean]using h)
 |.fn _ a b,h=>by
  simp only[D.clean,af]at h;simp only[D.low,af];exact⟨rK h.1,rK h.2⟩
 |.undef,_=>rfl
 |.bool _,_=>rfl
 |.int _ _,_=>rfl
 |.str _,_=>rfl
 |.ze,_=>rfl
 |.aH,_=>rfl
 |.jj,_=>rfl
 |.vn _ d,h=>we (d:=d) (by simpa[D.clean]using h)
 |.pW,_=>rfl
theorem rK{n:Nat}:∀{ds:List D},D.bD ds=true→D.nW n ds=true
 |[],_=>rfl
 |d::ds,h=>by
  simp only[D.bD,af]at h;simp only[D.nW,af];exact⟨we h.1,rK h.2⟩
end
mutual
theorem bK.low{g:G}{n:Nat}(hn:∀l i L,g.loc l i=some L→l<n):∀{d:D} {c:Value},bK g d c→d.low n=true
 |_,_,.undef c=>rfl
 |_,_,.bool b=>rfl
 |_,_,.int k n=>rfl
 |_,_,.str s=>rfl
 |_,_,.agg ds cs hr h1=>bG.low hn hr
 |_,_,.ez ds cs hr=>bG.low hn hr
 |_,_,.ze=>rfl
 |_,_,.ref l i v off b o L e hv hc hn'=>by simp only[D.low,aA];exact hn l i L e
 |_,_,.bE ds b o vs hr hl=>bG.low hn hl
 |_,_,.aH=>rfl
 |_,_,.za=>rfl
 |_,_,.aK n' ds a cap vs hn' hr hs hl=>bG.low hn hl
 |_,_,.sl l i v off n' w a cap L e hv hn' ha hs hc hc'=>by simp only[D.low,aA];exact hn l i L e
 |_,_,.fn f fs cs fs' cs' h1 h2=>by simp only[D.low,af];exact⟨bG.low hn h1,bG.low hn h2⟩
 |_,_,.jj=>rfl
 |_,_,.nO l i b e=>by simp only[D.low,aA];exact hn l i _ e
 |_,_,.mpv l i b e=>by simp only[D.low,aA];exact hn l i _ e
 |_,_,.itv l i b L e hc=>by simp only[D.low,aA];exact hn l i _ e
 |_,_,.bdv l i b L e hc=>by simp only[D.low,aA];exact hn l i _ e
 |_,_,.vn t d c h1=>by rw[D.low];exact bK.low hn h1
 |_,_,.pW=>rfl
theorem bG.low{g:G}{n:Nat}(hn:∀l i L,g.loc l i=some L→l<n):∀{ds:List D} {cs:List Value},bG g ds cs→D.nW n ds=true
 |_,_,.nil=>rfl
 |_,_,.cons d c ds cs h1 h2=>by simp only[D.nW,af];exact⟨bK.low hn h1,bG.low hn h2⟩
end
def G.cut(g:G)(n:Nat):G:=⟨fun l i=>if l<n then g.loc l i else none,g.si⟩
theorem G.uM{g:G}{n l i:Nat}(h:l<n):(g.cut n).loc l i=g.loc l i:=by simp[G.cut,h]
theorem G.yK{g:G}{n l i:Nat}{L:Loc}(h:(g.cut n).loc l i=some L):l<n∧g.loc l i=some L:=by
 simp only[G.cut]at h;split at h
 ·exact⟨by assumption,h⟩
 ·cases h
mutual
theorem bK.cut{g:G}{n:Nat}:∀{d:D} {c:Value},bK g d c→d.low n=true→bK (g.cut n) d c
 |_,_,.undef c,_ => .undef c
 |_,_,.bool b,_ => .bool b
 |_,_,.int k n,_ => .int k n
 |_,_,.str s,_ => .str s
 |_,_,.agg ds cs hr h1,h => .agg ds cs (bG.cut hr h) h1
 |_,_,.ez ds cs hr,h => .ez ds cs (bG.cut hr h)
 |_,_,.ze,_ => .ze
 |_,_,.ref l i v off b o L e hv hc hn',h => .ref l i v off b o L ((G.uM (by simpa[D.low]using h)).trans e) hv hc hn'
 |_,_,.bE ds b o vs hr hl,h => .bE ds b o vs hr (bG.cut hl h)
 |_,_,.aH,_ => .aH
 |_,_,.za,_ => .za
 |_,_,.aK n' ds a cap vs hn' hr hs hl,h => .aK n' ds a cap vs hn' hr hs (bG.cut hl h)
 |_,_,.sl l i v off n' w a cap L e hv hn' ha hs hc hc',h => .sl l i v off n' w a cap L ((G.uM (by simpa[D.low]using h)).trans e) hv hn' ha hs hc hc'
 |_,_,.fn f fs cs fs' cs' h1 h2,h=>by
  simp only[D.low,af]at h;exact .fn f fs cs fs' cs' (bG.cut h1 h.1) (bG.cut h2 h.2)
 |_,_,.jj,_ => .jj
 |_,_,.nO l i b e,h => .nO l i b ((G.uM (by simpa[D.low]using h)).trans e)
 |_,_,.mpv l i b e,h => .mpv l i b ((G.uM (by simpa[D.low]using h)).trans e)
 |_,_,.itv l i b L e hc,h => .itv l i b L ((G.uM (by simpa[D.low]using h)).trans e) hc
 |_,_,.bdv l i b L e hc,h => .bdv l i b L ((G.uM (by simpa[D.low]using h)).trans e) hc
 |_,_,.vn t d c h1,h => .vn t d c (bK.cut h1 h)
 |_,_,.pW,_ => .pW
theorem bG.cut{g:G}{n:Nat}:∀{ds:List D} {cs:List Value},bG g ds cs→D.nW n ds=true→bG (g.cut n) ds cs
 |_,_,.nil,_ => .nil
 |_,_,.cons d c ds cs h1 h2,h=>by
  simp only[D.nW,af]at h;exact .cons d c ds cs (bK.cut h1 h.1) (bG.cut h2 h.2)
end
mutual
theorem EK{n m:Nat}(hm:n≤m):∀{d:D},d.low n=true→d.low m=true
 |.ref l ..,h=>by simp only[D.low,aA]at h ⊢;omega
 |.sl l ..,h=>by simp only[D.low,aA]at h ⊢;omega
 |.nO l _,h=>by simp only[D.low,aA]at h ⊢;omega
 |.vr ..,_=>rfl
 |.emp,_=>rfl
 |.own _ cs,h=>sB (ds:=cs) hm h
 |.agg cs,h=>sB (ds:=cs) hm h
 |.ez cs,h=>sB (ds:=cs) hm h
 |.bE cs,h=>sB (ds:=cs) hm h
 |.aK _ cs,h=>sB (ds:=cs) hm h
 |.fn _ a b,h=>by
  simp only[D.low,af]at h ⊢;exact⟨sB hm h.1,sB hm h.2⟩
 |.undef,_=>rfl
 |.bool _,_=>rfl
 |.int _ _,_=>rfl
 |.str _,_=>rfl
 |.ze,_=>rfl
 |.aH,_=>rfl
 |.jj,_=>rfl
 |.vn _ d,h=>EK (d:=d) hm h
 |.pW,_=>rfl
theorem sB{n m:Nat}(hm:n≤m):∀{ds:List D},D.nW n ds=true→D.nW m ds=true
 |[],_=>rfl
 |d::ds,h=>by
  simp only[D.nW,af]at h ⊢;exact⟨EK hm h.1,sB hm h.2⟩
end
def aG.low(n:Nat):aG→Prop
 |.cells _ cs=>D.nW n cs=true
 |.dead=>True
 |.loop lp=>∀t,(get lp.env t).low n=true
def sK(σ:SK):Prop:=∀l i b,ei σ l i=some b→l+1<σ.length→b.low (l+1)
theorem sK.set{σ:SK}(h:sK σ){l i:Nat}{b:aG}(hb:l+1<σ.length→b.low (l+1)):sK (aX σ l i b):=by
 intro l' i' b' h1 h2;rw[dF]at h2;by_cases hc:l'=l∧i'=i
 ·obtain⟨rfl,rfl⟩:=hc;cases h0:ei σ l' i' with
  |none =>
   have:ei (aX σ l' i' b) l' i'=none:=by
    unfold aX;cases hs:gk σ l' with
    |none=>exact h0
    |some s =>
     simp only[ei,uq (CF hs),Option.bind_some];simp only[ei,hs,Option.bind_some]at h0;rw[List.getElem?_eq_none_iff]at h0 ⊢;simpa using h0
   rw[this]at h1;cases h1
  |some b0=>rw[rJ h0]at h1;cases h1;exact hb h2
 ·rw[gh hc]at h1;exact h l' i' b' h1 h2
theorem sK.new{σ σ':SK}(h:sK σ){l i:Nat}{b:aG}(hn:ix σ b=some (l,i,σ')):sK σ':=by
 obtain⟨h1,h2,h3,h4,h5⟩:=kP hn;intro l' i' b' e hl;by_cases hc:l'=l∧i'=i
 ·omega
 ·rw[h3 l' i' hc]at e;exact h l' i' b' e (by omega)
structure gK(σ σ':SK):Prop where
 len:σ'.length=σ.length
 low:sK σ→sK σ'
theorem gK.refl(σ:SK):gK σ σ:=⟨rfl,id⟩
theorem gK.trans{a b c:SK}(h:gK a b)(h':gK b c):gK a c:=⟨h'.len.trans h.len,fun x=>h'.low (h.low x)⟩
theorem gK.new{σ σ':SK}{l i:Nat}{b:aG}(hn:ix σ b=some (l,i,σ')):gK σ σ':=⟨(kP hn).2.2.2.1,fun h=>h.new hn⟩
theorem gK.set{σ:SK}{l i:Nat}{b:aG}(hb:l+1<σ.length→b.low (l+1)):gK σ (aX σ l i b):=⟨dF,fun h=>h.set hb⟩
theorem tX:∀(nb:List (Nat×Nat)) (cs cs':List D) (σ σ':SK),mc nb cs σ=some (cs',σ')→gK σ σ'
 |[],cs,cs',σ,σ',h=>by simp only[mc,ae,au]at h;obtain⟨rfl,rfl⟩:=h;exact .refl _
 |(p,w)::r,cs,cs',σ,σ',h=>by
  simp only[mc]at h;split at h
  ·simp only[aQ,ai]at h;obtain⟨⟨l,i,σ1⟩,hn,h⟩:=h;exact(gK.new hn).trans (tX r _ _ _ _ h)
  ·exact tX r _ _ _ _ h
theorem Bs(l:Nat):∀(n:Nat) (d:D) (σ:SK),(cI l n d σ).1.low (l+1)=true∧gK σ (cI l n d σ).2
 |0,d,σ=>⟨rfl,.refl _⟩
 |n+1,d,σ=>by
  have ih:∀(ds:List D) (σ:SK),D.nW (l+1) (cI.frzL (cI l n) ds σ).1=true∧gK σ (cI.frzL (cI l n) ds σ).2:=by
   intro ds;induction ds with
   |nil=>intro σ;exact⟨rfl,.refl _⟩
   |cons d ds ihd =>
    intro σ;obtain⟨h1,h2⟩:=Bs l n d σ;obtain⟨h3,h4⟩:=ihd (cI l n d σ).2;simp only[cI.frzL,D.nW,af];exact⟨⟨h1,h3⟩,h2.trans h4⟩
  simp only[cI];split
  ·rename_i hc;exact⟨we hc,.refl _⟩
  cases d with
  |agg cs=>exact ih cs σ
  |ez cs=>exact ih cs σ
  |bE cs=>exact ih cs σ
  |aK m cs=>exact ih cs σ
  |own s cs=>exact ih cs σ
  |fn f a b =>
   obtain⟨h1,h2⟩:=ih a σ;obtain⟨h3,h4⟩:=ih b (cI.frzL (cI l n) a σ).2;refine⟨?_,h2.trans h4⟩;simp only[D.low,af];exact⟨h1,h3⟩
  |ref l' i v off =>
   dsimp only;split
   ·refine⟨?_,.refl _⟩;simp only[D.low,aA];omega
   ·exact⟨rfl,.refl _⟩
  |nO l' i =>
   dsimp only;split
   ·refine⟨?_,.refl _⟩;simp only[D.low,aA];omega
   ·exact⟨rfl,.refl _⟩
  |sl l' i v off m w =>
   dsimp only;split
   ·refine⟨?_,.refl _⟩;simp only[D.low,aA];omega
   ·split
    ·rename_i cs hcs;obtain⟨h1,h2⟩:=ih ((cs.drop off).take (m*w)) (aX σ l' i .dead);exact⟨h1,(gK.set (b:=.dead) fun _=>trivial).trans h2⟩
    ·exact⟨rfl,.refl _⟩
  |_=>exact⟨rfl,.refl _⟩
theorem E6(l n:Nat)(ds:List D):∀(σ:SK),D.nW (l+1) (cI.frzL (cI l n) ds σ).1=true∧gK σ (cI.frzL (cI l n) ds σ).2:=by
 induction ds with
 |nil=>intro σ;exact⟨rfl,.refl _⟩
 |cons d ds ihd =>
  intro σ;obtain⟨h1,h2⟩:=Bs l n d σ;obtain⟨h3,h4⟩:=ihd (cI l n d σ).2;simp only[cI.frzL,D.nW,af];exact⟨⟨h1,h3⟩,h2.trans h4⟩
theorem Pe(l:Nat):∀(e:Env) (σ:SK),(∀p∈(tS l e σ).1,p.2.low (l+1)=true)∧gK σ (tS l e σ).2
 |[],σ=>⟨by simp[tS],.refl _⟩
 |(t,d)::e,σ=>by
  obtain⟨h1,h2⟩:=Bs l deep d σ;obtain⟨h3,h4⟩:=Pe l e (cI l deep d σ).2;simp only[tS];refine⟨?_,h2.trans h4⟩;intro p hp;rcases bq.1 hp with rfl | hp
  ·exact h1
  ·exact h3 p hp
theorem Cd{σ:SK}(h:sK σ){l i v:Nat}{cs:List D}(hc:cells? σ l i v=some cs)(hl:l+1<σ.length):D.nW (l+1) cs=true:=by
 unfold cells? at hc;split at hc
 case h_2=>cases hc
 rename_i v' cs' hb;split at hc
 case isFalse=>cases hc
 cases hc;exact h l i _ hb hl
theorem zQ{n:Nat}{a b:List D}:D.nW n (a++b)=true↔D.nW n a=true∧D.nW n b=true:=by
 simp only[EJ,bz];exact⟨fun h=>⟨fun d hd=>h d (.inl hd),fun d hd=>h d (.inr hd)⟩,fun h d hd=>hd.elim (h.1 d) (h.2 d)⟩
theorem Kz{n k:Nat}{a:List D}(h:D.nW n a=true):D.nW n (a.take k)=true:=by
 rw[EJ]at h ⊢;exact fun d hd=>h d (dr hd)
theorem Kx{n k:Nat}{a:List D}(h:D.nW n a=true):D.nW n (a.drop k)=true:=by
 rw[EJ]at h ⊢;exact fun d hd=>h d (dZ hd)
theorem apg{σ σ':SK}{d:D}{o:Mo}{ds:List D}(h:DE σ o ds=some (d,σ'))(hk:o.calm=true):σ'=σ:=by
 unfold DE at h;split at h
 ·simp[Mo.calm]at hk
 ·simp[Mo.calm]at hk
 ·split at h
  ·split at h
   ·split at h<;>first | (cases h;done) | (cases h;rfl)
   ·cases h
  ·cases h
 ·simp[Mo.calm]at hk
 ·simp only[ad,au]at h;obtain⟨_,_,_,rfl⟩:=h;rfl
 ·simp[Mo.calm]at hk
 ·split at h
  ·split at h
   ·split at h
    ·split at h
     ·cases h;rfl
     ·cases h
    ·cases h
   ·cases h
  ·cases h
 ·cases h
theorem ao8{σ σ':SK}{d:D}{o:Me}{ds:List D}(h:meD σ o ds=some (d,σ')):σ'=σ:=by
 unfold meD at h;split at h
 ·cases h
 ·simp only[ai,ad,au]at h;obtain⟨_,_,_,_,_,rfl⟩:=h;rfl
 ·cases h;rfl
 ·split at h<;>cases h;rfl
 ·split at h<;>cases h;rfl
 ·cases h
theorem UC{e:Env}{σ σ':SK}{d:D}{k:K}(h:bN e σ k=some (d,σ'))(hk:k.calm=true):σ'=σ:=by
 by_cases hm:∃o xs,k=.mp o xs
 ·obtain⟨o,xs,rfl⟩:=hm;exact apg h hk
 by_cases hm':∃o xs,k=.me o xs
 ·obtain⟨o,xs,rfl⟩:=hm';exact ao8 h
 cases k<;>(try (exact absurd ⟨_,_,rfl⟩ hm))<;>(try (exact absurd ⟨_,_,rfl⟩ hm'))<;>clear hm hm'<;>simp only[K.calm,aB]at hk<;>simp only[bN,aQ,reduceCtorEq]at h<;>(repeat' split at h)<;>
  simp only[ad,ai,ae,au,Prod.exists,reduceCtorEq,exists_eq_left,and_false,exists_false]at h<;>(try split at h)<;>
  simp_all<;>(try (obtain⟨_,_,h⟩:=h;simp_all))<;>(try grind)
theorem agD{e:Env}{σ σ':SK}{d:D}{nb:List (Nat×Nat)}{sz:Nat}{a x:bM}(h:bN e σ (.st nb sz a x)=some (d,σ')):gK σ σ':=by
 simp only[bN]at h;split at h
 case h_2=>cases h
 split at h
 case h_2=>cases h
 rename_i l i v off hX _ cs hcs;split at h
 case h_2=>cases h
 rename_i p hcells;split at h
 case isFalse=>cases h
 rename_i hc;split at h
 ·rename_i htop;split at h
  ·rename_i p' σ1 hnb;cases h;have hg:=tX _ _ _ _ _ hnb;exact hg.trans (gK.set fun hl=>by have:=hg.len;omega)
  ·cases h
 ·rename_i htop;cases h;obtain⟨h1,h2⟩:=E6 l deep p σ;refine⟨dF.trans h2.len,fun hl=>(h2.low hl).set fun hlt=>?_⟩;have hcl:=Cd hl hcs (by have:=h2.len;omega);simp only[aG.low,zQ];exact⟨⟨Kz hcl,h1⟩,Kx hcl⟩
theorem Nr{e:Env}{σ σ':SK}{d:D}{w bytes:Nat}{s x:bM}(h:bN e σ (.app w bytes s x)=some (d,σ')):gK σ σ':=by
 simp only[bN,aQ,ai]at h;obtain⟨⟨m,xs⟩,he,h⟩:=h;dsimp only at h;split at h
 ·split at h
  case isFalse=>cases h
  split at h
  ·cases h;exact .refl _
  ·simp only[ai]at h;obtain⟨⟨l,i,σ1⟩,hn,h⟩:=h;cases h;exact .new hn
 ·split at h
  case h_2=>cases h
  rename_i l i v off n w' hX _ cs hcs;split at h
  case isFalse=>cases h
  split at h
  ·cases h;exact .set fun hl=>by omega
  ·cases h;obtain⟨h1,h2⟩:=E6 l deep xs σ;refine⟨dF.trans h2.len,fun hl=>(h2.low hl).set fun hlt=>?_⟩;have hcl:=Cd hl hcs (by have:=h2.len;omega);simp only[aG.low,zQ];exact⟨Kz (Kx hcl),h1⟩
 ·cases h
theorem ao5{n j:Nat}{a:List D}{x:D}(h:D.nW n a=true)(hx:x.low n=true):D.nW n (a.set j x)=true:=by
 rw[EJ]at h ⊢;intro d hd;rcases List.mem_or_eq_of_mem_set hd with h1 | rfl
 ·exact h d h1
 ·exact hx
theorem aq5{σ σ':SK}{d:D}{o:Mo}{ds:List D}(h:DE σ o ds=some (d,σ')):gK σ σ':=by
 unfold DE at h;split at h
 ·simp only[ad,au,Prod.exists]at h;obtain⟨l,i,σ1,hn,_,rfl⟩:=h;exact .new hn
 ·simp only[ad,au,Prod.exists]at h;obtain⟨l,i,σ1,hn,_,rfl⟩:=h;exact .new hn
 ·split at h
  ·split at h
   ·split at h<;>first | (cases h;done) | (cases h;exact .refl _)
   ·cases h
  ·cases h
 ·rename_i ky m k v;split at h
  ·rename_i l i es hm;obtain⟨rfl,hcs⟩:=Uh hm;split at h
   case isFalse=>cases h
   rename_i hc;have hlow:l+1<σ.length→k.low (l+1)=true∧v.low (l+1)=true:=fun hl=>by
    rcases hc.2 with h1 | ⟨h1,h2⟩
    ·omega
    ·exact⟨we h1,we h2⟩
   split at h
   ·cases h;refine⟨dF,fun hS=>hS.set fun hl=>?_⟩;have hcl:=Cd hS hcs hl;obtain⟨h1,h2⟩:=hlow hl;simp only[aG.low];exact ao5 hcl (by simp[D.low,D.nW,h1,h2])
   ·cases h;refine⟨dF,fun hS=>hS.set fun hl=>?_⟩;have hcl:=Cd hS hcs hl;obtain⟨h1,h2⟩:=hlow hl;simp only[aG.low,zQ];exact⟨hcl,by simp[D.low,D.nW,h1,h2]⟩
   ·cases h
  ·cases h
 ·simp only[ad,au]at h;obtain⟨_,_,_,rfl⟩:=h;exact .refl _
 ·split at h
  ·simp only[ad,au,Prod.exists]at h;obtain⟨l,i,σ1,hn,_,rfl⟩:=h;exact .new hn
  ·cases h
 ·split at h
  ·split at h
   ·split at h
    ·split at h
     ·cases h;exact .refl _
     ·cases h
    ·cases h
   ·cases h
  ·cases h
 ·cases h
theorem apH{e:Env}{σ σ':SK}{d:D}:∀{k:K},bN e σ k=some (d,σ')→gK σ σ'
 |.st ..,h=>agD h
 |.app ..,h=>Nr h
 |.apc ..,h=>Nr (ag8 h)
 |.apz w bytes s x,h=>by
  simp only[bN,ad,Prod.exists]at h;obtain⟨d1,σ1,h1,h2⟩:=h;obtain⟨h3,h4⟩:=Bs 0 deep d1 σ1;rw[h2]at h4;exact(Nr (by rw[SD];exact h1)).trans h4
 |.On nb cs,h=>by
  simp only[bN,aQ,ai]at h;obtain⟨⟨cs',σ1⟩,hnb,⟨l,i,σ2⟩,hn,h⟩:=h;cases h;exact(tX _ _ _ _ _ hnb).trans (.new hn)
 |.rk w,h=>by
  simp only[bN,aQ,ai]at h;obtain⟨⟨l,i,σ2⟩,hn,h⟩:=h;cases h;exact .new hn
 |.bxn nb x,h=>by
  simp only[bN,aQ,ai]at h;obtain⟨cs,_,⟨cs',σ1⟩,hnb,⟨l,i,σ2⟩,hn,h⟩:=h;cases h;exact(tX _ _ _ _ _ hnb).trans (.new hn)
 |.Ot x,h=>by
  simp only[bN,aQ,ai]at h;obtain⟨cs,_,⟨l,i,σ2⟩,hn,h⟩:=h;cases h;exact .new hn
 |.UR ..,h=>by
  simp only[bN,aQ,ai]at h;obtain⟨cs,_,⟨l,i,σ2⟩,hn,h⟩:=h;cases h;exact .new hn
 |.mks ..,h=>by
  simp only[bN]at h;split at h
  ·split at h
   ·simp only[aQ,ai]at h;obtain⟨⟨l,i,σ2⟩,hn,h⟩:=h;cases h;exact .new hn
   ·cases h
  ·cases h
 |.mv _,h=>same h rfl
 |.pick ..,h=>same h rfl
 |.eK ..,h=>by simp[bN]at h
 |.Oq _,h=>same h rfl
 |.J9 _,h=>by simp[bN]at h
 |.mJ ..,h=>same h rfl
 |.wc ..,h=>same h rfl
 |.ld ..,h=>same h rfl
 |.ldi ..,h=>same h rfl
 |.ld0 ..,h=>same h rfl
 |.stc os sz a x,h=>agD (ag9 h)
 |.isn ..,h=>same h rfl
 |.nN ..,h=>same h rfl
 |.ldv ..,h=>same h rfl
 |.LV ..,h=>by simp[bN]at h
 |.bin ..,h=>same h rfl
 |.eqv ..,h=>same h rfl
 |.un ..,h=>same h rfl
 |.Tx ..,h=>same h rfl
 |.zR ..,h=>same h rfl
 |.UB ..,h=>same h rfl
 |.afL ..,h=>same h rfl
 |.OF ..,h=>same h rfl
 |.fld ..,h=>same h rfl
 |.EE ..,h=>same h rfl
 |.fJ ..,h=>same h rfl
 |.R8 ..,h=>same h rfl
 |.OJ ..,h=>same h rfl
 |.afs ..,h=>same h rfl
 |.mn ..,h=>same h rfl
 |.mx ..,h=>same h rfl
 |.cpi ..,h=>same h rfl
 |.bse,h=>same h rfl
 |.ape ..,h=>same h rfl
 |.ext ..,h=>same h rfl
 |.BA ..,h=>same h rfl
 |.mp ..,h=>aq5 h
 |.me ..,h=>same h rfl
 |.mki ..,h=>same h rfl
 |.tas ..,h=>same h rfl
 |.isi ..,h=>same h rfl
 |.UT _,h=>by simp[bN]at h
 |.UU,h=>by simp[bN]at h
 |.call ..,h=>by simp[bN]at h
where
 same {e:Env} {σ σ':SK} {d:D} {k:K} (h:bN e σ k=some (d,σ')) (hk:k.calm=true):gK σ σ':=by
  rw[UC h hk];exact .refl _
end Go.Abs
