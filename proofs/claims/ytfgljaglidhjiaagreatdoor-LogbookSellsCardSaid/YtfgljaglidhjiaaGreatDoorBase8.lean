import Derived.Test.YtfgljaglidhjiaaGreatDoorBase7
import Derived.Test.YtfgljaglidhjiaaGreatDoorBase5
import Derived.MapKept
import Derived.WideKeyRuns
import Derived.Maps.RangeRun
import Derived.Test.YtfgljaglidhjiaaGreatDoorBase4
import Derived.Test.YtfgljaglidhjiaaGreatDoorBase6
set_option linter.all false
namespace Go.Abs
open Go
theorem Lm{σ:SK}{d:D}{l i:Nat}{es:List D}(h:AD σ d=some (l,i,es)):d=.mq l i∧cells? σ l i 0=some es:=by
 unfold AD at h;split at h
 ·simp only[ad,ak]at h;obtain⟨cs,h1,rfl,rfl,rfl⟩:=h;exact⟨rfl,h1⟩
 ·cases h
theorem Iq{ky:Ky}{k:D}:∀{es:List D} {j:Nat} {v:D},qT ky k es=some (some (j,v))→∃k',es[j]?=some (.dG [k',v])∧sS ky k k'=some true
 |[],j,v,h=>by simp[qT]at h
 |x::es,j,v,h=>by
  unfold qT at h;split at h
  ·rename_i heq;cases heq
  ·rename_i k' v' es' heq;cases heq;split at h
   ·rename_i hq;cases h;exact⟨k',rfl,hq⟩
   ·simp only[ad]at h;obtain⟨x1,h1,x2,rfl,h2⟩:=h;cases h2;obtain⟨j0,v0⟩:=x2;obtain⟨k0,h3,h4⟩:=Iq h1;exact⟨k0,by simpa using h3,h4⟩
   ·cases h
  ·cases h
section
variable {P:Program} {g:G} {w:World}
theorem GZ:∀{ks:List (Option IntKind)} {p q:List D},zK ks p q=some true→p=q
 |[],p,q,h=>by obtain⟨rfl,rfl,_⟩:=uU h;rfl
 |some k::ks,p,q,h=>by
  obtain⟨a,x,c,y,b0,rfl,rfl,h0,hb⟩:=tA h;simp only[Bool.true_eq,af,beq_iff_eq]at hb;obtain⟨rfl,rfl⟩:=hb;rw[GZ h0]
 |none::ks,p,q,h=>by
  obtain⟨a,x,c,y,b0,rfl,rfl,h0,hb⟩:=wR h;simp only[Bool.true_eq,af,beq_iff_eq]at hb;obtain⟨rfl,rfl⟩:=hb;rw[GZ h0]
theorem DK(n:Nat):∀{ks:List (Option IntKind)} {p q:List D} {b:Bool},zK ks p q=some b→∀{xs ys:List Value},bC g p xs→bC g p ys→xs=ys∧(xs.zip ys).all (fun z=>Instr.sameBits n z.1 z.2)=true
 |[],p,q,b,h,xs,ys,hx,hy=>by
  obtain⟨rfl,rfl,_⟩:=uU h;cases hx;cases hy;exact⟨rfl,rfl⟩
 |some k::ks,p,q,b,h,xs,ys,hx,hy=>by
  obtain⟨a,x,c,y,b0,rfl,rfl,h0,hb⟩:=tA h;cases hx with
  |cons _ v1 _ vs1 h1 h2 =>
   cases hy with
   |cons _ v2 _ vs2 h3 h4 =>
    obtain rfl:=h1.fk;obtain rfl:=h3.fk;obtain⟨h5,h6⟩:=DK n h0 h2 h4;subst h5;exact⟨rfl,by simp only[List.zip_cons_cons,jD,h6,Instr.sameBits,BEq.rfl,Bool.and_self]⟩
 |none::ks,p,q,b,h,xs,ys,hx,hy=>by
  obtain⟨a,x,c,y,b0,rfl,rfl,h0,hb⟩:=wR h;cases hx with
  |cons _ v1 _ vs1 h1 h2 =>
   cases hy with
   |cons _ v2 _ vs2 h3 h4 =>
    obtain rfl:=h1.o8;obtain rfl:=h3.o8;obtain⟨h5,h6⟩:=DK n h0 h2 h4;subst h5;exact⟨rfl,by simp only[List.zip_cons_cons,jD,h6,Instr.sameBits,BEq.rfl,Bool.and_self]⟩
theorem amI{a b:ByteArray}(h:a.data.toList=b.data.toList):a=b:=by
 apply ByteArray.ext;exact gM.1 h
theorem adJ{ky:Ky}{a b:D}{x y:Value}(h:sS ky a b=some true)(hx:bI g a x)(hy:bI g b y):x=y∧Instr.sameBits 10000 y x=true:=by
 unfold sS at h;split at h
 ·split at h
  ·rename_i s1 s2;simp only[ae,beq_iff_eq]at h;subst h;obtain⟨b1,rfl,h1⟩:=hx.mj;obtain⟨b2,rfl,h2⟩:=hy.mj;obtain rfl:=amI (h1.trans h2.symm);exact⟨rfl,by rw[Instr.sameBits,beq_toListBytes];exact beq_self_eq_true _⟩
  ·cases h
 ·rename_i ag ks;split at h
  ·rename_i p q hp hq;obtain rfl:=GZ h;have h1:=vd hx hp;have h2:=vd hy hq;cases ag with
   |true =>
    simp only[vf,if_true]at h1 h2;obtain⟨xs,rfl,h3,_⟩:=h1;obtain⟨ys,rfl,h4,_⟩:=h2;obtain⟨h5,h6⟩:=DK 9999 h h4 h3;obtain rfl:=gM.1 h5;exact⟨rfl,by simp only[Instr.sameBits,BEq.rfl,Bool.true_and];exact h6⟩
   |false =>
    simp only[vf,aw,if_false]at h1 h2;obtain⟨h5,h6⟩:=DK 10000 h h2 h1;simp only[kz,and_true]at h5;subst h5;exact⟨rfl,by simpa using h6⟩
  ·cases h
theorem G8{t:TypeId}{ky:Ky}(h:G7 P t=some ky):(P.underlying t=some .string∧ky=none)∨(∃k,P.underlying t=some (.int k)∧ky=some (false,[some k])) ∨
  ∃fs ks,P.underlying t=some (.struct fs)∧mB P 20 t=some ks∧ky=some (true,ks)∧fs.toList.all (fun f=>match P.underlying f.type with | some (.int _)=>true | some .bool=>true | _=>false)=true:=by
 unfold G7 at h;split at h
 ·rename_i hu;cases h;exact .inl ⟨hu,rfl⟩
 ·rename_i k hu;cases h;exact .inr (.inl ⟨k,hu,rfl⟩)
 ·rename_i fs hu;split at h
  ·rename_i hall;obtain⟨ks,hks,rfl⟩:=ad.1 h;exact .inr (.inr ⟨fs,ks,hu,hks,rfl,hall⟩)
  ·cases h
 ·cases h
theorem IA{t:TypeId}{ky:Ky}(hk:G7 P t=some ky){a b:D}{c:Bool}{x y:Value}(h:sS ky a b=some c)(hx:bI g a x)(hy:bI g b y):(Op.equal t x y).run P w=.ok c w:=by
 have key:∀ag ks,mB P 20 t=some ks→uE P t=some ag→sS (some (ag,ks)) a b=some c→(Op.equal t x y).run P w=.ok c w:=by
  intro ag ks hks hag hq;simp only[sS]at hq;split at hq
  case h_2=>cases hq
  rename_i p q hp hq2;obtain⟨ag',hag',_,hEq⟩:=DX (P:=P) (g:=g) (w:=w) 20 t ks hks;rw[hag]at hag';cases hag';exact hEq 10000 (by omega) p q x y c (vd hx hp) (vd hy hq2) hq
 rcases G8 hk with⟨hu,rfl⟩ | ⟨k,hu,rfl⟩ | ⟨fs,ks,hu,hks,rfl,_⟩
 ·simp only[sS]at h;split at h
  case h_2=>cases h
  rename_i s1 s2;cases h;obtain⟨b1,rfl,h1⟩:=hx.mj;obtain⟨b2,rfl,h2⟩:=hy.mj;have:=run_equalIn_string (P:=P) w 9999 t b1 b2 hu;simp only[Op.equal,Op.maxDepth];rw[this,ByteArray.toList_eq,ByteArray.toList_eq,h1,h2]
 ·exact key false [some k] (by simp[mB,hu]) (by simp[uE,hu]) h
 ·exact key true ks hks (by simp[uE,hu]) h
def Found(dD:List MapEntry)(r:Option (Nat×D))(g:G)(o:Option (Nat×Value))(i:Nat):Prop :=
 match r with
 |none=>o=none
 |some (j,v)=>∃e,dD[j]?=some e∧o=some (i+j,e.val)∧bI g v e.val
theorem J0{k v:D}{a b:Value}(h:bI g (.dG [k,v]) (.tuple #[a,b])):bI g k a∧bI g v b:=by
 cases h with
 |dG _ _ hr =>
  cases hr with
  |cons _ _ _ _ h1 h2=>cases h2 with | cons _ _ _ _ h3 h4=>exact⟨h1,h3⟩
theorem GD{t:TypeId}{ky:Ky}(hk:G7 P t=some ky){k:D}{x:Value}(hx:bI g k x):∀(es:List D) (dD:List MapEntry) (r:Option (Nat×D)) (i:Nat),bC g es (dD.map fun e => .tuple #[e.key,e.val])→qT ky k es=some r →
  ∃o,(Instr.findAsking t x dD i).run P w=.ok o w∧Found dD r g o i
 |[],dD,r,i,hr,h=>by
  cases dD with
  |nil=>simp only[qT,ae]at h;subst h;exact⟨none,by simp[Instr.findAsking],rfl⟩
  |cons e dD=>cases hr
 |d::es,dD,r,i,hr,h=>by
  cases dD with
  |nil=>cases hr
  |cons e dD =>
   rw[aP]at hr;cases hr with
   |cons _ _ _ _ hr1 hr2 =>
   unfold qT at h;split at h
   ·rename_i heq;cases heq
   ·rename_i k' v es' heq;cases heq;obtain⟨hk1,hv1⟩:=J0 hr1;split at h
    ·rename_i hq;cases h;have he:=IA (w:=w) hk hq hx hk1;refine⟨some (i,e.val),by simp[Instr.findAsking,he],e,rfl,by simp,hv1⟩
    ·rename_i hq;simp only[ad]at h;obtain⟨r1,h1,rfl⟩:=h;have he:=IA (w:=w) hk hq hx hk1;obtain⟨o,ho,hf⟩:=GD hk hx es dD r1 (i+1) hr2 h1;refine⟨o,by simp[Instr.findAsking,he,ho],?_⟩;cases r1 with
     |none=>exact hf
     |some y =>
      obtain⟨e1,h3,h4,h5⟩:=hf;exact⟨e1,by simpa using h3,by rw[h4];congr 2;omega,h5⟩
    ·cases h
   ·cases h
theorem Jz{t:TypeId}{ky:Ky}{dsc:TypeDesc}{k:D}{x:Value}(hs:∀k' y c,sS ky k k'=some c→bI g k' y→Instr.sameNow dsc x y=some c):∀(es:List D) (dD:List MapEntry) (r:Option (Nat×D)) (i:Nat),bC g es (dD.map fun e => .tuple #[e.key,e.val])→qT ky k es=some r →
  ∃o,Instr.findNow dsc x dD i=some o∧Found dD r g o i
 |[],dD,r,i,hr,h=>by
  cases dD with
  |nil=>simp only[qT,ae]at h;subst h;exact⟨none,by simp[Instr.findNow],rfl⟩
  |cons e dD=>cases hr
 |d::es,dD,r,i,hr,h=>by
  cases dD with
  |nil=>cases hr
  |cons e dD =>
   rw[aP]at hr;cases hr with
   |cons _ _ _ _ hr1 hr2 =>
   unfold qT at h;split at h
   ·rename_i heq;cases heq
   ·rename_i k' v es' heq;cases heq;obtain⟨hk1,hv1⟩:=J0 hr1;split at h
    ·rename_i hq;cases h;exact⟨some (i,e.val),by simp[Instr.findNow,hs _ _ _ hq hk1],e,rfl,by simp,hv1⟩
    ·rename_i hq;simp only[ad]at h;obtain⟨r1,h1,rfl⟩:=h;obtain⟨o,ho,hf⟩:=Jz (t:=t) hs es dD r1 (i+1) hr2 h1;refine⟨o,by simp[Instr.findNow,hs _ _ _ hq hk1,ho],?_⟩;cases r1 with
     |none=>exact hf
     |some y =>
      obtain⟨e1,h3,h4,h5⟩:=hf;exact⟨e1,by simpa using h3,by rw[h4];congr 2;omega,h5⟩
    ·cases h
   ·cases h
theorem xN{t:TypeId}{ky:Ky}(hk:G7 P t=some ky){k:D}{x:Value}(hx:bI g k x){es:List D}{dD:List MapEntry}{r:Option (Nat×D)}(hr:bC g es (dD.map fun e => .tuple #[e.key,e.val]))(h:qT ky k es=some r)
  (hself:(sS ky k k).isSome=true):∃o,(Instr.findKey t x dD).run P w=.ok o w∧Found dD r g o 0:=by
 rcases G8 hk with⟨hu,rfl⟩ | ⟨kk,hu,rfl⟩ | ⟨fs,ks,hu,hks,rfl,_⟩
 ·obtain⟨o,h1,h2⟩:=Jz (t:=t) (ky:=none) (k:=k) (x:=x) (dsc:=.string) (fun k' y c hq hy=>by
   simp only[sS]at hq;split at hq
   case h_2=>cases hq
   cases hq;obtain⟨b1,rfl,h1⟩:=hx.mj;obtain⟨b2,rfl,h2⟩:=hy.mj;simp only[Instr.sameNow];rw[beq_toListBytes,ByteArray.toList_eq,ByteArray.toList_eq,h1,h2]) es dD r 0 hr h
  exact⟨o,MapKept.run_findKey hu h1,h2⟩
 ·obtain⟨o,h1,h2⟩:=Jz (t:=t) (ky:=some (false,[some kk])) (k:=k) (x:=x) (dsc:=.int kk) (fun k' y c hq hy=>by
   simp only[sS]at hq;split at hq
   case h_2=>cases hq
   rename_i p q hp hq2;have hx1:=vd hx hp;have hy1:=vd hy hq2;simp only[vf,aw,if_false]at hx1 hy1;obtain⟨a,xs,b,ys,b0,rfl,rfl,h0,rfl⟩:=tA hq;obtain⟨rfl,rfl,rfl⟩:=uU h0;cases hx1 with
   |cons _ _ _ _ g1 _ =>
    cases hy1 with
    |cons _ _ _ _ g2 _ =>
     obtain rfl:=g1.fk;obtain rfl:=g2.fk;simp[Instr.sameNow]) es dD r 0 hr h
  exact⟨o,MapKept.run_findKey hu h1,h2⟩
 ·obtain⟨o,h1,h2⟩:=GD (w:=w) hk hx es dD r 0 hr h;refine⟨o,?_,h2⟩;rw[run_findKey_eq w (by simp[hu])];exact h1
theorem Ai(em:Bool){xs:Array Value}{p:List D}(hx:bC g p xs.toList)(h1x:∀y∈xs.toList,y.oneCell'=true):
  ∀(fs:List Field) (o:Nat) (ks:List (Option IntKind)) (q:List D) (b:Bool),mB.kindsF P (mB P 19) o fs=some ks→fs.all (fun f=>match P.underlying f.type with | some (.int _)=>true | some .bool=>true | _=>false)=true →
   zK ks (p.drop o) q=some b →
   (forIn (m:=Sem) fs PUnit.unit fun f _=>do
    if f.name ≠ "_" then Instr.checkKey em 9999 f.type (← part f.type xs f.offset)
    pure (ForInStep.yield PUnit.unit)).run P w=.ok PUnit.unit w
 |[],o,ks,q,b,hk,ha,he=>by simp
 |f::fs,o,ks,q,b,hk,ha,he=>by
  simp only[mB.kindsF]at hk;split at hk
  case h_2=>cases hk
  rename_i k1 hk1;split at hk
  case isFalse=>cases hk
  rename_i hc;obtain⟨hname,hoff,hsz,hpos⟩:=hc;simp only[ad]at hk;obtain⟨k2,hk2,rfl⟩:=hk;simp only[jD,af]at ha;obtain⟨l1,l2⟩:=BD _ _ _ _ he;obtain⟨b1,b2,e1,e2,rfl⟩:=wQ _ _ _ _ _ he;simp only[bx,List.length_drop]at l1 l2;have ih:=Ai em hx h1x fs (o+k1.length) k2 (q.drop k1.length) b2 hk2 ha.2 (by simpa[lG]using e2);have one:∃a,(part f.type xs o).run P w=.ok a w∧(Instr.checkKey em 9999 f.type a).run P w=.ok () w:=by
   have h0:=ha.1;split at h0
   ·rename_i k hu;have hk1':k1=[some k]:=by simp[mB,hu]at hk1;exact hk1.symm
    subst hk1';obtain⟨a,hpa,hra⟩:=BM (P:=P) (w:=w) (ag:=false) (n:=1) (o:=o) (by simp[uE,hu]) hsz (fun _=>rfl) hx h1x (by simp only[aL,bE]at l1 ⊢;omega);simp only[vf,aw,if_false]at hra;obtain⟨a0,x0,c0,y0,b0,e3,_,_,_⟩:=tA e1;simp only[aL,bE,cQ]at e3;rw[e3]at hra;cases hra with
    |cons _ _ _ _ g1 g2 =>
     obtain rfl:=g1.fk;exact⟨_,hpa,MapKept.run_checkKey (d:=.int k) hu (by simp[MapKept.IsKey]) em 9998⟩
   ·rename_i hu;have hk1':k1=[none]:=by simp[mB,hu]at hk1;exact hk1.symm
    subst hk1';obtain⟨a,hpa,hra⟩:=BM (P:=P) (w:=w) (ag:=false) (n:=1) (o:=o) (by simp[uE,hu]) hsz (fun _=>rfl) hx h1x (by simp only[aL,bE]at l1 ⊢;omega);simp only[vf,aw,if_false]at hra;obtain⟨a0,x0,c0,y0,b0,e3,_,_,_⟩:=wR e1;simp only[aL,bE,cQ]at e3;rw[e3]at hra;cases hra with
    |cons _ _ _ _ g1 g2 =>
     obtain rfl:=g1.o8;exact⟨_,hpa,MapKept.run_checkKey (d:=.bool) hu (by simp[MapKept.IsKey]) em 9998⟩
   ·cases h0
  obtain⟨a,h1,h2⟩:=one;rw[List.forIn_cons];rw[hoff];simp only[hname,ne_eq,not_false_eq_true,if_true,Sem.run_bind,h1,h2,Result.andThen_ok,Sem.run_pure];exact ih
theorem DG{t:TypeId}{ky:Ky}(hk:G7 P t=some ky){k:D}{x:Value}(hx:bI g k x)(hself:(sS ky k k).isSome=true)(em:Bool):(Instr.checkKey em 10000 t x).run P w=.ok () w:=by
 rcases G8 hk with⟨hu,rfl⟩ | ⟨kk,hu,rfl⟩ | ⟨fs,ks,hu,hks,rfl,hall⟩
 ·refine MapKept.run_checkKey (d:=.string) hu ?_ em 9999;obtain⟨c,hc⟩:=dt.1 hself;simp only[sS]at hc;split at hc
  case h_2=>cases hc
  obtain⟨b1,rfl,h1⟩:=hx.mj;simp[MapKept.IsKey]
 ·refine MapKept.run_checkKey (d:=.int kk) hu ?_ em 9999;obtain⟨c,hc⟩:=dt.1 hself;simp only[sS]at hc;split at hc
  case h_2=>cases hc
  rename_i p q hp hq2;have hx1:=vd hx hp;simp only[vf,aw,if_false]at hx1;obtain⟨a,xs,b,ys,b0,rfl,_,h0,rfl⟩:=tA hc;obtain⟨rfl,_,rfl⟩:=uU h0;cases hx1 with
  |cons _ _ _ _ g1 _ =>
   obtain rfl:=g1.fk;simp[MapKept.IsKey]
 ·obtain⟨c,hc⟩:=dt.1 hself;simp only[sS]at hc;split at hc
  case h_2=>cases hc
  rename_i p q hp hq2;have hx1:=vd hx hp;simp only[vf,if_true]at hx1;obtain⟨xs,rfl,hxr,h1x⟩:=hx1;have hks':mB.kindsF P (mB P 19) 0 fs.toList=some ks:=by
   have:=hks;rw[mB,hu]at this;dsimp only at this;split at this
   ·cases this
   ·exact this
  have hrun:=Ai (P:=P) (w:=w) em hxr h1x fs.toList 0 ks q c hks' hall (by simpa using hc);rw[show(10000:Nat)=9999+1 from rfl,Instr.checkKey];simp only[Sem.run_bind,run_underlying hu,Result.andThen_ok];rw[← Array.forIn_toList];simp at hrun ⊢;rw[hrun];rfl
end
section
variable {P:Program} {CR:fS} {base fb:Nat} {V:List Nat} {g:G} {σ σ':SK} {w:World} {B:Nat→Nat} {e:Env} {tmps:Array Value} {df:List Deferred} {d:D}
theorem Inv.ad6(hi:Inv CR base g σ w){l i:Nat}(hn:hJ σ (.cells 0 [])=some (l,i,σ')):
  Inv CR base (g.cC l i (.mp w.heap.size)) σ' (w.alloc (.map #[] 0))∧Ev g w (g.cC l i (.mp w.heap.size)) (w.alloc (.map #[] 0)):=by
 obtain⟨h1,h2,h3,_,_⟩:=j2 hn;have hnone:=hi.BK h1;have hle:g.le (g.cC l i (.mp w.heap.size)):=G.kn fun L0 e=>by rw[hnone]at e;cases e
 refine⟨hi.Ec l i hle h3 (fun l' i' c=>G.bB c) (fun l' i' L b c e eb=>alloc_old (hi.lo l' i' L b e eb).2) ?_ ?_ ?_ ?_ (by simp) ⟨_,G.aG⟩ (fun b v hb=>alloc_old (hi.jy hb)),⟨hle,rfl,rfl,rfl,by simp,fun b hb _=>alloc_old hb,?_,fun b o v hv => .inl hv⟩⟩
 ·intro L e;rw[G.aG]at e;cases e;exact⟨_,h2,rfl,#[],0,sX,.nil,by simp[NG]⟩
 ·intro b o v e;obtain⟨h1,h2⟩:=hi.qq b o v e;exact⟨(iR (alloc_old (hi.jy e))).trans h1,h2⟩
 ·intro l' i' L b e eb o;by_cases c:l'=l∧i'=i
  ·obtain⟨rfl,rfl⟩:=c;rw[G.aG]at e;cases e;cases eb;cases e':(g.cC l' i' (.mp w.heap.size)).qq w.heap.size o with
   |none=>rfl
   |some v=>have:=hi.jy (b:=w.heap.size) (o:=o) (v:=v) e';omega
  ·rw[G.bB c]at e;exact hi.sep l' i' L b e eb o
 ·intro L b e eb;rw[G.aG]at e;cases e;cases eb;refine⟨hi.ge,by simp,fun l' i' L' c e' eb'=>?_⟩;have:=(hi.lo l' i' L' _ e' eb').2;omega
 ·intro b hb;obtain⟨l',i',L,e,eb⟩:=hb;by_cases c:l'=l∧i'=i
  ·obtain⟨rfl,rfl⟩:=c;rw[G.aG]at e;cases e;cases eb;exact .inr (aJ _)
  ·rw[G.bB c]at e;exact .inl ⟨l',i',L,e,eb⟩
theorem Inv.aqF(hi:Inv CR base g σ w){l i T ee:Nat}(hn:hJ σ (.cells 2 [.int .i64 (T:Nat),.int .i64 (ee:Nat),.str []])=some (l,i,σ')):
  Inv CR base (g.cC l i (.ob w.heap.size none)) σ' (w.alloc (.cells #[.pointer none,.slice none 0 0] T))∧Ev g w (g.cC l i (.ob w.heap.size none)) (w.alloc (.cells #[.pointer none,.slice none 0 0] T)):=by
 obtain⟨h1,h2,h3,_,_⟩:=j2 hn;have hnone:=hi.BK h1;have hle:g.le (g.cC l i (.ob w.heap.size none)):=G.kn fun L0 e=>by rw[hnone]at e;cases e
 have hown:∀b,(Loc.ob w.heap.size none).owns b→w.heap.size=b:=fun b h=>by
  rcases h with h | h
  ·exact h
  ·cases h
 refine⟨hi.Ec l i hle h3 (fun l' i' c=>G.bB c) (fun l' i' L b c e eb=>alloc_old (hi.lo l' i' L b e eb).2) ?_ ?_ ?_ ?_ (by simp) ⟨_,G.aG⟩ (fun b v hb=>alloc_old (hi.jy hb)),⟨hle,rfl,rfl,rfl,by simp,fun b hb _=>alloc_old hb,?_,fun b o v hv => .inl hv⟩⟩
 ·intro L e;rw[G.aG]at e;cases e;exact⟨_,h2,rfl,T,ee,[],.pointer none,.slice none 0 0,rfl,sX,.inl rfl,World.ownsRowF_nil _ _ _ _,rfl,by simp⟩
 ·intro b o v e;obtain⟨h1,h2⟩:=hi.qq b o v e;exact⟨(iR (alloc_old (hi.jy e))).trans h1,h2⟩
 ·intro l' i' L b e eb o;by_cases c:l'=l∧i'=i
  ·obtain⟨rfl,rfl⟩:=c;rw[G.aG]at e;cases e;obtain rfl:=hown b eb;cases e':(g.cC l' i' (.ob w.heap.size none)).qq w.heap.size o with
   |none=>rfl
   |some v=>have:=hi.jy (b:=w.heap.size) (o:=o) (v:=v) e';omega
  ·rw[G.bB c]at e;exact hi.sep l' i' L b e eb o
 ·intro L b e eb;rw[G.aG]at e;cases e;obtain rfl:=hown b eb;refine⟨hi.ge,by simp,fun l' i' L' c e' eb'=>?_⟩;have:=(hi.lo l' i' L' _ e' eb').2;omega
 ·intro b hb;obtain⟨l',i',L,e,eb⟩:=hb;by_cases c:l'=l∧i'=i
  ·obtain⟨rfl,rfl⟩:=c;rw[G.aG]at e;cases e;obtain rfl:=hown b eb;exact .inr (aJ _)
  ·rw[G.bB c]at e;exact .inl ⟨l',i',L,e,eb⟩
theorem Inv.aep(hi:Inv CR base g σ w){l i b:Nat}{b0:aE}{es:List D}(hL:g.loc l i=some (.mp b))(hb:ei σ l i=some b0){dD:Array MapEntry}{clock:Nat}
  (hr:bC g es (dD.toList.map fun e => .tuple #[e.key,e.val])) (hm:NG dD.toList clock) {w':World} (hw:w'={w with heap:=w.heap.setIfInBounds b (.map dD clock) }):
  Inv CR base (g.cC l i (.mp b)) (aV σ l i (.cells 0 es)) w'∧Ev g w (g.cC l i (.mp b)) w':=by
 subst hw;have hlt:=(hi.lo l i _ b hL rfl).2;have hle:g.le (g.cC l i (.mp b)):=G.kn fun L0 e=>by rw[hL]at e;cases e;exact Loc.le_refl _
 refine hi.setCells hL hb (Loc.le_refl _) ⟨rfl,dD,clock,by simp[hlt],hr.mono hle,hm⟩ (fun b' hb' hne=>?_) rfl rfl rfl (by simp) (fun b' hb' => .inl hb');have:b≠b':=fun hh=>hne (by rw[hh];rfl)
 simp[this]
theorem yX(hi:Inv CR base g σ w){m:D}{c:Value}(hr:bI g m c){l i:Nat}{es:List D}(h:AD σ m=some (l,i,es)):
  ∃b dD clock v,c=.map (some b)∧g.loc l i=some (.mp b)∧ei σ l i=some (.cells v es)∧w.heap[b]?=some (.map dD clock)∧bC g es (dD.toList.map fun e => .tuple #[e.key,e.val])∧NG dD.toList clock:=by
 obtain⟨rfl,hcs⟩:=Lm h;unfold cells? at hcs;split at hcs
 case h_2=>cases hcs
 rename_i v' cs' hblk;split at hcs
 case isFalse=>cases hcs
 cases hcs;cases hr with
 |mq _ _ b hl =>
  obtain⟨b0,hb0,hrel⟩:=hi.wz l i _ hl;rw[hblk]at hb0;cases hb0;exact hrel.elim
 |PK _ _ b hl =>
  obtain⟨b0,hb0,hrel⟩:=hi.wz l i _ hl;rw[hblk]at hb0;cases hb0;obtain⟨_,dD,clock,h1,h2,h3⟩:=hrel;exact⟨b,dD,clock,v',rfl,hl,hblk,h1,h2,h3⟩
 |itv _ _ b L hl hc =>
  obtain⟨b0,hb0,hrel⟩:=hi.wz l i _ hl;rw[hblk]at hb0;cases hb0;rcases hc with rfl | rfl
  ·rename_i hv0;obtain⟨hv1,_⟩:=hrel;omega
  ·exact hrel.elim
 |QF _ _ b L hl hc =>
  obtain⟨b0,hb0,hrel⟩:=hi.wz l i _ hl;rw[hblk]at hb0;cases hb0;rcases hc with⟨c,rfl⟩ | rfl
  ·rename_i hv0;obtain⟨hv1,_⟩:=hrel;omega
  ·exact hrel.elim
theorem avO(hi:Inv CR base g σ w){t:TypeId}{ρ:Operand→Value}(h:bM e σ (.mp .make [])=some (d,σ'))(o:Oper)(ho:o.op=.makeMap t none):fO P CR base g w B e ρ o d σ':=by
 simp only[bM,bT,AE,ad,ak,Prod.exists]at h;obtain⟨l,i,σ1,hn,rfl,rfl⟩:=h;obtain⟨i1,e1⟩:=hi.ad6 hn;exact .val (.map (some w.heap.size)) (by
  have hrun:(Instr.makeMap t none).run P w=.ok (.map (some w.heap.size)) (w.alloc (.map #[] 0)):=rfl;simp only[execOp,ho,Option.map_none,Sem.run_bind,hrun,Result.andThen_ok,Sem.run_pure]) e1 i1 (.PK l i _ G.aG)
theorem avL(hi:Inv CR base g σ w){el ee:TypeId}{ρ:Operand→Value}(hz:rP P el=some [.xc,.aF])
  (h:bM e σ (.mp (.lq el ee) [])=some (d,σ')) (o:Oper) (ho:o.op=.alloc el):fO P CR base g w B e ρ o d σ':=by
 obtain⟨i0,v,hinfo,hzero,hrz,h1⟩:=tn g hz;simp only[bM,bT,AE,ad,ak,Prod.exists]at h;obtain⟨l,i,σ1,hn,rfl,rfl⟩:=h;obtain⟨i1,e1⟩:=hi.aqF hn;have hv:v.cells = #[.pointer none,.slice none 0 0]:=by
  generalize v.cells=a at hrz;obtain⟨a⟩:=a;dsimp only at hrz;cases hrz with
  |cons _ c _ cs k1 k2 =>
   cases k2 with
   |cons _ c2 _ cs2 k3 k4 =>
    cases k4;cases k1;cases k3;rfl
 have hrun:=EZ (w:=w) hinfo hzero;rw[hv]at hrun;exact .val (.pointer (some ⟨w.heap.size,0,none⟩)) (by simp[execOp,ho,hrun]) e1 i1 (.QF l i _ _ G.aG (.inl ⟨_,rfl⟩))
theorem aru(hi:Inv CR base g σ w){t kt et:TypeId}{ik:IntKind}{n:Int}(h:bM e σ (.mp .make [])=some (d,σ'))(ht:P.underlying t=some (.map kt et))(o:Oper)(ho:o.op=.makeMap t (some (.const (.int ik n)))):fO P CR base g w B e (Act.mk tmps df).eval o d σ':=by
 simp only[bM,bT,AE,ad,ak,Prod.exists]at h;obtain⟨l,i,σ1,hn,rfl,rfl⟩:=h;obtain⟨i1,e1⟩:=hi.ad6 hn;exact .val (.map (some w.heap.size)) (by
  have hrun:(Instr.makeMap t (some (.int ik n))).run P w=.ok (.map (some w.heap.size)) (w.alloc (.map #[] 0)):=by
   simp only[Instr.makeMap,Sem.run_bind,bg ht,Result.andThen_ok];rfl
  have hev:(Act.mk tmps df).eval (.const (.int ik n))=.int ik n:=rfl;simp only[execOp,ho,aS,hev,Sem.run_bind,hrun,Result.andThen_ok,Sem.run_pure]) e1 i1 (.PK l i _ G.aG)
theorem arv(hf:Fr fb V g w B e tmps)(hi:Inv CR base g σ w){x:Operand}{X:bL}{t kt et:TypeId}{args:Array Operand}{ts:Array TypeId}{r:List Operand}{tr:List TypeId}(hx:bD x=some X)
  (ht:P.underlying t=some (.map kt et)) (ha:args.toList=x::r) (hts:ts.toList=t::tr)
  (h:bM e σ (.mp .len [X])=some (d,σ')) (o:Oper) (ho:o.op=.call {callee:=.builtin .len,args,argTypes:=ts }):fO P CR base g w B e (Act.mk tmps df).eval o d σ':=by
 have hr:=hf.bf (df:=df) hx;obtain rfl:args=(x::r).toArray:=by rw[← ha]
 obtain rfl:ts=(t::tr).toArray:=by rw[← hts]
 simp only[bM,aP,bT,AE,ad,ak,Prod.exists]at h;obtain⟨l,i,es,hm,rfl,rfl⟩:=h;obtain⟨b,dD,clock,v,hc,hl,hblk,hheap,hrel,hok⟩:=yX hi hr hm;have hlen:=hrel.length;simp only[eB,Array.length_toList]at hlen;refine .pure hi (c:=.int .i64 dD.size) ?_ (by rw[hlen];exact cF.of (.int _ _));simp[execOp,ho,resolve,invoke,builtin,Builtin.len_,hc,bg ht,goInt,MapKept.run_getObj_map hheap]
theorem J3{t:TypeId}{z:D}(g:G)(h:zvC P t=some z):∃i v,P.info? t=some i∧i.zero=some v∧bI g z v:=by
 unfold zvC at h;split at h
 ·rename_i i hi;split at h
  ·rename_i v hv;exact⟨i,v,hi,hv,GM g h⟩
  ·cases h
 ·cases h
theorem art(hf:Fr fb V g w B e tmps)(hi:Inv CR base g σ w){x y:Operand}{X Y:bL}{t kt et:TypeId}{ky:Ky}{z:D}{ok:Bool}(hx:bD x=some X)(hy:bD y=some Y)
  (ht:P.underlying t=some (.map kt et)) (hk:G7 P kt=some ky) (hz:zvC P et=some z)
  (h:bM e σ (.mp (.get ky z ok) [X,Y])=some (d,σ')) (o:Oper) (ho:o.op=.lookup t x y ok):fO P CR base g w B e (Act.mk tmps df).eval o d σ':=by
 have hr:=hf.bf (df:=df) hx;have hr':=hf.bf (df:=df) hy;simp only[bM,aP,bT,AE]at h;split at h
 case h_2=>cases h
 rename_i l i es hm;split at h
 case isFalse=>cases h
 rename_i hself;obtain⟨b,dD,clock,v,hc,hl,hblk,hheap,hrel,hok⟩:=yX hi hr hm;have hck:=DG (w:=w) hk hr' hself dD.isEmpty;obtain⟨iz,zv,hz1,hz2,hz3⟩:=J3 g hz;split at h
 ·rename_i j v1 hfk;cases h;obtain⟨o1,ho1,e1,_,rfl,hv1⟩:=xN (w:=w) hk hr' hrel hfk hself;cases ok
  ·refine .pure hi (c:=e1.val) ?_ (cF.of (by simpa using hv1));simp[execOp,ho,Instr.lookup,bg ht,hc,MapKept.run_getObj_map hheap,hck,ho1]
  ·refine .pure hi (c:=.tuple #[e1.val,.bool true]) ?_ (cF.of (by simpa using bI.dG _ #[e1.val,.bool true] (.cons _ _ _ _ hv1 (.cons _ _ _ _ (.bool true) .nil))));simp[execOp,ho,Instr.lookup,bg ht,hc,MapKept.run_getObj_map hheap,hck,ho1]
 ·rename_i hfk;cases h;obtain⟨o1,ho1,hf1⟩:=xN (w:=w) hk hr' hrel hfk hself;obtain rfl:o1=none:=hf1;cases ok
  ·refine .pure hi (c:=zv) ?_ (cF.of (by simpa using hz3));simp[execOp,ho,Instr.lookup,bg ht,hc,MapKept.run_getObj_map hheap,hck,ho1,ia hz1 hz2]
  ·refine .pure hi (c:=.tuple #[zv,.bool false]) ?_ (cF.of (by simpa using bI.dG _ #[zv,.bool false] (.cons _ _ _ _ hz3 (.cons _ _ _ _ (.bool false) .nil))));simp[execOp,ho,Instr.lookup,bg ht,hc,MapKept.run_getObj_map hheap,hck,ho1,ia hz1 hz2]
 ·cases h
theorem bC.set{g:G}:∀{ds:List D} {cs:List Value} {j:Nat} {d:D} {c:Value},bC g ds cs→bI g d c→bC g (ds.set j d) (cs.set j c)
 |[],[],_,_,_,_,_=>by simpa using bC.nil
 |_::_,_::_,0,_,_,.cons _ _ _ _ h1 h2,h => .cons _ _ _ _ h h2
 |_::_,_::_,j+1,_,_,.cons _ _ _ _ h1 h2,h => .cons _ _ _ _ h1 (h2.set h)
theorem aen(hf:Fr fb V g w B e tmps)(hi:Inv CR base g σ w){x y u:Operand}{X Y U:bL}{t kt et:TypeId}{ky:Ky}(hx:bD x=some X)(hy:bD y=some Y)(hu:bD u=some U)
  (ht:P.underlying t=some (.map kt et)) (hk:G7 P kt=some ky)
  (h:bM e σ (.mp (.put ky) [X,Y,U])=some (d,σ')) (o:Oper) (ho:o.op=.mapUpdate t x y u∨o.op=.insert t x y u):fO P CR base g w B e (Act.mk tmps df).eval o d σ':=by
 have hr:=hf.bf (df:=df) hx;have hr':=hf.bf (df:=df) hy;have hru:=hf.bf (df:=df) hu;simp only[bM,aP,bT,AE]at h;split at h
 case h_2=>cases h
 rename_i l i es hm;split at h
 case isFalse=>cases h
 rename_i hself;obtain⟨b,dD,clock,v,hc,hl,hblk,hheap,hrel,hok⟩:=yX hi hr hm;have hck:=DG (w:=w) hk hr' hself.1 false;generalize hkv:(Act.mk tmps df).eval y=kv at *
 generalize huv:(Act.mk tmps df).eval u=uv at *
 have hnew:bI g (.dG [bf e Y,bf e U]) (.tuple #[kv,uv]):=.dG _ _ (.cons _ _ _ _ hr' (.cons _ _ _ _ hru .nil));split at h
 ·rename_i j v1 hfk;cases h;obtain⟨o1,ho1,e1,he1,rfl,hv1⟩:=xN (w:=w) hk hr' hrel hfk hself.1;obtain⟨k',hk',hkq⟩:=Iq hfk;have hj:dD[j]?=some e1:=by simpa using he1
  have hold:bI g k' e1.key:=by
   obtain⟨c0,hc0,hr0⟩:=hrel.get hk';rw[pJ,he1]at hc0;cases hc0;exact(J0 hr0).1
  obtain⟨hsame,hbits⟩:=adJ hkq hr' hold;have hlist:(dD.modify j fun e=>{e with key:=kv,val:=uv }).toList=dD.toList.set j {e1 with key:=kv,val:=uv }:=by
   rw[Array.toList_modify];apply eS;intro n;rw[List.getElem?_modify,List.getElem?_set];by_cases hn:j=n
   ·subst hn;have hlt:=(aC.1 he1).1;have hlt2:j<dD.size:=by simpa using hlt
    have hje:dD[j]=e1:=(cT.1 hj).2;simp[he1,hlt2,hje]
   ·simp[hn]
  obtain⟨i1,ev1⟩:=hi.aep (es:=es.set j (.dG [bf e Y,bf e U])) (dD:=dD.modify j fun e=>{e with key:=kv,val:=uv }) (clock:=clock) (w':={w with heap:=w.heap.setIfInBounds b (.map (dD.modify j fun e=>{e with key:=kv,val:=uv }) clock) }) hl hblk (by
    rw[hlist,List.map_set];exact hrel.set hnew) (by
    have hlt:=(aC.1 he1);rw[hlist];refine⟨?_,by rw[List.length_set];exact hok.2⟩;rw[List.map_set,List.length_set];have:(dD.toList.map (·.born)).set j e1.born=dD.toList.map (·.born):=by
     apply eS;intro n;rw[List.getElem?_set];by_cases hn:j=n
     ·subst hn;have hlt2:j<dD.size:=by simpa using hlt.1
      have hje:dD[j]=e1:=(cT.1 hj).2;simp[he1,hlt2,hje]
     ·simp[hn]
    rw[this];exact hok.1) rfl
  refine⟨.skip,Go.undef,_,_,?_,rfl,ev1,i1,.undef _⟩;have hkts:∀w:World,(Instr.keyThatStays e1.key kv).run P w=.ok kv w:=fun w=>by simp[Instr.keyThatStays,hbits]
  rcases ho with ho | ho<;>simp[execOp,ho,Instr.mapUpdate,bg ht,hc,hkv,huv,MapKept.run_getObj_map hheap,hck,ho1,hj,hkts,MapKept.run_setObj_map _ hheap]
 ·rename_i hfk;cases h;obtain⟨o1,ho1,hf1⟩:=xN (w:=w) hk hr' hrel hfk hself.1;obtain rfl:o1=none:=hf1;obtain⟨i1,ev1⟩:=hi.aep (es:=es++[.dG [bf e Y,bf e U]]) (dD:=dD.push {key:=kv,val:=uv,born:=clock }) (clock:=clock+1) (w':={w with heap:=w.heap.setIfInBounds b (.map (dD.push {key:=kv,val:=uv,born:=clock }) (clock+1)) }) hl hblk (by
    rw[Array.toList_push,List.map_append];exact hrel.append (.cons _ _ _ _ hnew .nil)) (by
    rw[Array.toList_push];have h2:=hok.2;refine⟨?_,by simp only[bx,aL,bE];omega⟩;rw[List.map_append,hok.1,bx,aL,bE,cQ,List.range_succ];simp only[aP,bT,h2]) rfl
  refine⟨.skip,Go.undef,_,_,?_,rfl,ev1,i1,.undef _⟩;rcases ho with ho | ho<;>simp[execOp,ho,Instr.mapUpdate,bg ht,hc,hkv,huv,MapKept.run_getObj_map hheap,hck,ho1,MapKept.run_setObj_map _ hheap]
 ·cases h
theorem Inv.af4(hi:Inv CR base g σ w){l i lm im bm n:Nat}(hn:hJ σ (.cells 1 [.mq lm im,.int .i64 (n:Nat)])=some (l,i,σ'))(hm:g.loc lm im=some (.mp bm)):
  Inv CR base (g.cC l i (.it w.heap.size)) σ' (w.alloc (.mapIter (some bm) n #[] n))∧Ev g w (g.cC l i (.it w.heap.size)) (w.alloc (.mapIter (some bm) n #[] n)):=by
 obtain⟨h1,h2,h3,_,_⟩:=j2 hn;have hnone:=hi.BK h1;have hle:g.le (g.cC l i (.it w.heap.size)):=G.kn fun L0 e=>by rw[hnone]at e;cases e
 refine⟨hi.Ec l i hle h3 (fun l' i' c=>G.bB c) (fun l' i' L b c e eb=>alloc_old (hi.lo l' i' L b e eb).2) ?_ ?_ ?_ ?_ (by simp) ⟨_,G.aG⟩ (fun b v hb=>alloc_old (hi.jy hb)),⟨hle,rfl,rfl,rfl,by simp,fun b hb _=>alloc_old hb,?_,fun b o v hv => .inl hv⟩⟩
 ·intro L e;rw[G.aG]at e;cases e;have hm2:(g.cC l i (.it w.heap.size)).loc lm im=some (.mp bm):=by
   rw[G.bB fun hh=>by rw[hh.1,hh.2,hnone]at hm;cases hm];exact hm
  exact⟨_,h2,rfl,lm,im,bm,n,[],rfl,hm2,sX,List.nodup_nil,by simp⟩
 ·intro b o v e;obtain⟨h1,h2⟩:=hi.qq b o v e;exact⟨(iR (alloc_old (hi.jy e))).trans h1,h2⟩
 ·intro l' i' L b e eb o;by_cases c:l'=l∧i'=i
  ·obtain⟨rfl,rfl⟩:=c;rw[G.aG]at e;cases e;cases eb;cases e':(g.cC l' i' (.it w.heap.size)).qq w.heap.size o with
   |none=>rfl
   |some v=>have:=hi.jy (b:=w.heap.size) (o:=o) (v:=v) e';omega
  ·rw[G.bB c]at e;exact hi.sep l' i' L b e eb o
 ·intro L b e eb;rw[G.aG]at e;cases e;cases eb;refine⟨hi.ge,by simp,fun l' i' L' c e' eb'=>?_⟩;have:=(hi.lo l' i' L' _ e' eb').2;omega
 ·intro b hb;obtain⟨l',i',L,e,eb⟩:=hb;by_cases c:l'=l∧i'=i
  ·obtain⟨rfl,rfl⟩:=c;rw[G.aG]at e;cases e;cases eb;exact .inr (aJ _)
  ·rw[G.bB c]at e;exact .inl ⟨l',i',L,e,eb⟩
theorem avR(hf:Fr fb V g w B e tmps)(hi:Inv CR base g σ w){x:Operand}{X:bL}{t kt et:TypeId}(hx:bD x=some X)(ht:P.underlying t=some (.map kt et))
  (h:bM e σ (.mp .rng [X])=some (d,σ')) (o:Oper) (ho:o.op=.range t x):fO P CR base g w B e (Act.mk tmps df).eval o d σ':=by
 have hr:=hf.bf (df:=df) hx;simp only[bM,aP,bT,AE]at h;split at h
 case h_2=>cases h
 rename_i lm im es hm;obtain⟨b,dD,clock,v,hc,hl,hblk,hheap,hrel,hok⟩:=yX hi hr hm;simp only[ad,ak,Prod.exists]at h;obtain⟨l,i,σ1,hn,rfl,rfl⟩:=h;have hlen:=hrel.length;simp only[eB]at hlen;have hck:clock=es.length:=by rw[hlen];exact hok.2
 obtain⟨i1,e1⟩:=hi.af4 hn hl;have hrun:=run_range_map (P:=P) w t kt et b dD clock ht hheap;rw[hck]at hrun;exact .val (.pointer (some ⟨w.heap.size,0,none⟩)) (by simp[execOp,ho,hc,hrun]) e1 i1 (.itv l i _ _ G.aG (.inl rfl))
theorem avD(hf:Fr fb V g w B e tmps)(hi:Inv CR base g σ w){x:Operand}{X:bL}(hx:bD x=some X)
  (h:bM e σ (.mp .ent [X])=some (d,σ')) (o:Oper) (ho:o.op=.entry x):fO P CR base g w B e (Act.mk tmps df).eval o d σ':=by
 have hr:=hf.bf (df:=df) hx;simp only[bM,aP,bT]at h;generalize bf e X=dx at hr h;cases dx<;>simp only[AE,reduceCtorEq]at h;rename_i l i;split at h
 case h_2=>cases h
 rename_i m n j rest hcs;split at h
 case h_2=>cases h
 rename_i lm im es hm;split at h
 case isFalse=>cases h
 rename_i hlen;split at h
 case h_2=>cases h
 rename_i k v hj;cases h;unfold cells? at hcs;split at hcs
 case h_2=>cases hcs
 rename_i v' cs' hblk;split at hcs
 case isFalse=>cases hcs
 rename_i hv1;cases hcs;generalize hcv:(Act.mk tmps df).eval x=cv at hr;cases hr with
 |mq _ _ b hl =>
  obtain⟨b0,hb0,hrel⟩:=hi.wz l i _ hl;rw[hblk]at hb0;cases hb0;exact hrel.elim
 |PK _ _ b hl =>
  obtain⟨b0,hb0,hrel⟩:=hi.wz l i _ hl;rw[hblk]at hb0;cases hb0;have:=hrel.1;omega
 |QF _ _ b L hl hc =>
  obtain⟨b0,hb0,hrel⟩:=hi.wz l i _ hl;rw[hblk]at hb0;cases hb0;rcases hc with⟨c,rfl⟩ | rfl
  ·have:=hrel.1;omega
  ·exact hrel.elim
 |itv _ _ b L hl hc =>
  obtain⟨b0,hb0,hrel⟩:=hi.wz l i _ hl;rw[hblk]at hb0;cases hb0;rcases hc with rfl | rfl
  rotate_left
  ·exact hrel.elim
  obtain⟨_,lm',im',bm,n',js,hcs,hlm,hheap,hnd,hlt⟩:=hrel;cases js with
  |nil=>simp at hcs
  |cons j' js =>
   simp only[aP,kz,D.int.injEq,true_and]at hcs;obtain⟨rfl,rfl,rfl,_⟩:=hcs;obtain⟨b2,dD,clock,v2,hc2,hl2,hblk2,hheap2,hrel2,hok⟩:=yX hi (.PK lm' im' bm hlm) hm;cases hc2;have hlen2:=hrel2.length;simp only[eB]at hlen2;obtain⟨c0,hc0,hr0⟩:=hrel2.get hj;rw[pJ]at hc0;simp only[Int.toNat_natCast]at hc0;obtain⟨e1,he1,rfl⟩:=ad.1 hc0;have hborn:e1.born=j':=by
    have h1:=congrArg (fun l=>l[j']?) hok.1;simp only[pJ,he1,aS]at h1;have h2:=(aC.1 he1).1;rw[List.getElem?_range h2]at h1;exact Option.some.inj h1
   have hck:clock=n':=by have:=hok.2;omega
   have hnd2:(dD.toList.map (·.born)).Nodup:=by rw[hok.1];exact List.nodup_range
   have hit:w.heap[b]?=some (.mapIter (some bm) n' (js.reverse.toArray.push e1.born) clock):=by
    rw[hheap,hborn,hck];simp
   have hrun:=run_entry_at (P:=P) w b bm n' js.reverse.toArray dD clock e1 hit hheap2 (ai he1) hnd2;refine .pure hi (c:=.tuple #[e1.key,e1.val]) ?_ (cF.of hr0);simp[execOp,ho,hcv,hrun]
end
variable {P:Program} {CR:fS} {base fb:Nat} {V:List Nat} {g:G} {σ σ':SK} {w:World} {B:Nat→Nat} {e:Env} {tmps:Array Value} {df:List Deferred} {d:D}
theorem avN(hf:Fr fb V g w B e tmps)(hi:Inv CR base g σ w){x:Operand}{X:bL}{t:TypeId}(hx:bD x=some X)(hc:P.concrete t=true)
  (h:bM e σ (.mki t X)=some (d,σ')) (o:Oper) (ho:o.op=.makeInterface t x):fO P CR base g w B e (Act.mk tmps df).eval o d σ':=by
 have hr:=hf.bf (df:=df) hx;simp only[bM,ae,ak]at h;obtain⟨rfl,rfl⟩:=h;exact .pure hi (c:=.iface t ((Act.mk tmps df).eval x)) (by simp[execOp,ho,run_makeInterface w t _ hc]) (cF.of (.tW t _ _ hr))
theorem alX(hf:Fr fb V g w B e tmps)(hi:Inv CR base g σ w){x:Operand}{X:bL}{t xt:TypeId}{dsc:TypeDesc}{ok:Bool}{z:Option D}(hx:bD x=some X)(ht:P.underlying t=some dsc)(hn:∀ms,dsc ≠ .interface ms)
  (hz:if ok then ∃z0,z=some z0∧zvC P t=some z0 else z=none)
  (h:bM e σ (.tas t z X)=some (d,σ')) (o:Oper) (ho:o.op=.typeAssert x xt t ok):fO P CR base g w B e (Act.mk tmps df).eval o d σ':=by
 have hr:=hf.bf (df:=df) hx;simp only[bM,ad,ak]at h;obtain⟨d0,h,rfl,rfl⟩:=h;generalize hcx:(Act.mk tmps df).eval x=cx at hr;generalize bf e X=dx at hr h;cases hr with
 |tW t' d1 c h1 =>
  simp only[Ni]at h;cases ok with
  |true =>
   simp only[if_true]at hz;obtain⟨z0,rfl,hz⟩:=hz;obtain⟨iz,zv,hz1,hz2,hz3⟩:=J3 g hz;simp only[ae]at h;by_cases htt:t'=t
   ·rw[if_pos htt]at h;subst h;refine .pure hi (c:=.tuple #[c,.bool true]) ?_ (cF.of (.dG _ #[c,.bool true] (.cons _ _ _ _ h1 (.cons _ _ _ _ (.bool true) .nil))));simp only[execOp,ho,hcx,Instr.typeAssert,Sem.run_bind,run_underlying ht,Result.andThen_ok];cases dsc<;>first | exact absurd rfl (hn _) | simp[htt]
   ·rw[if_neg htt]at h;subst h;refine .pure hi (c:=.tuple #[zv,.bool false]) ?_ (cF.of (.dG _ #[zv,.bool false] (.cons _ _ _ _ hz3 (.cons _ _ _ _ (.bool false) .nil))));simp only[execOp,ho,hcx,Instr.typeAssert,Sem.run_bind,run_underlying ht,Result.andThen_ok];cases dsc<;>first | exact absurd rfl (hn _) | simp[htt,ia hz1 hz2]
  |false =>
   simp only[aw,if_false]at hz;subst hz;simp only at h;split at h
   case isFalse=>cases h
   rename_i htt;cases h;refine .pure hi (c:=c) ?_ (cF.of h1);simp only[execOp,ho,hcx,Instr.typeAssert,Sem.run_bind,run_underlying ht,Result.andThen_ok];cases dsc<;>first | exact absurd rfl (hn _) | simp[htt]
 |o6 =>
  simp only[Ni,ad]at h;obtain⟨z1,rfl,rfl⟩:=h;cases ok with
  |true =>
   simp only[if_true]at hz;obtain⟨z0,hz0,hz⟩:=hz;cases hz0;obtain⟨iz,zv,hz1,hz2,hz3⟩:=J3 g hz;refine .pure hi (c:=.tuple #[zv,.bool false]) ?_ (cF.of (.dG _ #[zv,.bool false] (.cons _ _ _ _ hz3 (.cons _ _ _ _ (.bool false) .nil))));simp only[execOp,ho,hcx,Instr.typeAssert,Sem.run_bind,run_underlying ht,Result.andThen_ok];cases dsc<;>first | exact absurd rfl (hn _) | simp[ia hz1 hz2]
  |false=>simp at hz
 |_=>simp[Ni]at h
theorem E0{t:TypeId}{ms:Array (String×TypeId)}(n:Nat)(ht:P.underlying t=some (.interface ms))(w:World):(Op.equalIn (n+1) t .nilIface .nilIface).run P w=.ok true w:=by
 rw[Op.equalIn];simp[run_underlying ht]
theorem FU{t t':TypeId}{c:Value}{ms:Array (String×TypeId)}(n:Nat)(ht:P.underlying t=some (.interface ms))(w:World):(Op.equalIn (n+1) t (.iface t' c) .nilIface).run P w=.ok false w:=by
 rw[Op.equalIn];simp[run_underlying ht]
theorem Hm{t:TypeId}{ms:Array (String×TypeId)}(ht:P.underlying t=some (.interface ms))(w:World):(Op.equal t .nilIface .nilIface).run P w=.ok true w:=E0 9999 ht w
theorem HZ{t t':TypeId}{c:Value}{ms:Array (String×TypeId)}(ht:P.underlying t=some (.interface ms))(w:World):(Op.equal t (.iface t' c) .nilIface).run P w=.ok false w:=FU 9999 ht w
theorem alU(hf:Fr fb V g w B e tmps)(hi:Inv CR base g σ w){x:Operand}{X:bL}{t u:TypeId}{ms:Array (String×TypeId)}{neg:Bool}(hx:bD x=some X)(ht:P.underlying t=some (.interface ms))
  (h:bM e σ (.isi neg X)=some (d,σ')) (o:Oper) (ho:o.op=.binOp (if neg then .neq else .eql) t x (.const .nilIface) u):fO P CR base g w B e (Act.mk tmps df).eval o d σ':=by
 have hr:=hf.bf (df:=df) hx;simp only[bM,ad,ak]at h;obtain⟨b,h,rfl,rfl⟩:=h;have hev:(Act.mk tmps df).eval (.const .nilIface)=.nilIface:=rfl;generalize hcx:(Act.mk tmps df).eval x=cx at hr;generalize bf e X=dx at hr h;cases hr with
 |o6 =>
  cases h;refine .pure hi (c:=.bool (if neg then false else true)) ?_ (cF.of (by cases neg<;>exact .bool _));cases neg<;>simp[execOp,ho,hcx,hev,eqGuard,binOp,Hm ht]
 |tW t' d1 c h1 =>
  cases h;refine .pure hi (c:=.bool (if neg then true else false)) ?_ (cF.of (by cases neg<;>exact .bool _));cases neg<;>simp[execOp,ho,hcx,hev,eqGuard,binOp,HZ ht]
 |_=>cases h
section
variable {P:Program} {CR:fS} {base fb:Nat} {V:List Nat} {g:G} {σ σ':SK} {w:World} {B:Nat→Nat} {e:Env} {tmps:Array Value} {df:List Deferred}
 {a:uh} {ops:Array Oper} {key:Nat} {k:K} {d:D}
theorem ME(hf:Fr fb V g w B e tmps)(hi:Inv CR base g σ w){x y:Operand}{X Y:bL}{t u:TypeId}{b:BinOp}(hx:bD x=some X)(hy:bD y=some Y)
  (hk:eqC P b t X Y=some k) (h:bM e σ k=some (d,σ')) (o:Oper) (ho:o.op=.binOp b t x y u):fO P CR base g w B e (Act.mk tmps df).eval o d σ':=by
 unfold eqC at hk;split at hk
 case h_2=>cases hk
 rename_i ks hks;split at hk
 ·cases hk
 rename_i hg;have hg':P.eqGuardType P.depth t=false:=by simpa using hg
 split at hk
 ·obtain⟨ag,hag,rfl⟩:=ad.1 hk;exact alT hf hi hx hy hks hag hg' h o (by simpa using ho)
 ·obtain⟨ag,hag,rfl⟩:=ad.1 hk;exact alT hf hi hx hy hks hag hg' h o (by simpa using ho)
 ·cases hk
theorem agp{ag:Bool}{sz:Nat}{X:bL}{r:D×SK}(h:bM e σ (.RS ag sz X)=some r):bM e σ (.ld ag sz X)=some r:=by
 simp only[bM]at h ⊢;cases hx:bf e X<;>rw[hx]at h<;>try (cases h;done)
 simpa[EV]using h
theorem ago{ag:Bool}{sz:Nat}{X:bL}{r:D×SK}(h:bM e σ (.RR ag sz X)=some r):bM e σ (.ld ag sz X)=some r:=by
 simp only[bM]at h ⊢;cases hr:RV σ (bf e X)with
 |none=>rw[hr]at h;cases h
 |some cs =>
  rw[hr]at h;have:EV σ (bf e X)=some cs:=by
   generalize bf e X=dx at hr;unfold RV at hr;split at hr
   ·exact hr
   ·cases hr
  rw[this];exact h
theorem Cn{w:World}(d:Nat){t el:TypeId}{a:Option Addr}(h:P.underlying t=some (.pointer el)):(Op.equalIn (d+1) t (.pointer a) (.pointer none)).run P w=.ok a.isNone w:=by
 cases a<;>simp[Op.equalIn,bg h]
theorem run_equalIn_slice_nil{w:World}(d:Nat){t el:TypeId}{a:Option Addr}{n c:Nat}(h:P.underlying t=some (.slice el)):(Op.equalIn (d+1) t (.slice a n c) (.slice none 0 0)).run P w=.ok a.isNone w:=by
 cases a<;>simp[Op.equalIn,bg h]
theorem avG(hi:Inv CR base g σ w){x y:Operand}{X:bL}{t u:TypeId}{b:BinOp}{ps bo:Bool}{cx cy:Value}(e1:(Act.mk tmps df).eval x=cx)(e2:(Act.mk tmps df).eval y=cy)
  (hg:∀b,(eqGuard b t x y cx cy).run P w=.ok () w) (hb:binOp .eql t cx cy=(do pure (.bool (← Op.equal t cx cy)))) (hb':binOp .neq t cx cy=(do pure (.bool (!(← Op.equal t cx cy)))))
  (heq:(Op.equal t cx cy).run P w=.ok bo w) (hn:HT ps (bf e X)=some bo)
  (hk:isC ps b X=some k) (h:bM e σ k=some (d,σ')) (o:Oper) (ho:o.op=.binOp b t x y u):fO P CR base g w B e (Act.mk tmps df).eval o d σ':=by
 unfold isC at hk;split at hk
 ·cases hk;simp only[bM,hn,aS,ae,ak]at h;obtain⟨rfl,rfl⟩:=h;refine .pure hi ?_ (cF.of (.bool _));simp[execOp,ho,e1,e2,hg,hb,heq]
 ·cases hk;simp only[bM,hn,aS,ae,ak]at h;obtain⟨rfl,rfl⟩:=h;refine .pure hi ?_ (cF.of (.bool _));simp[execOp,ho,e1,e2,hg,hb',heq]
 ·cases hk
theorem Lb{ps:Bool}{b:BinOp}{X:bL}(hk:isC ps b X=some k)(h:bM e σ k=some (d,σ')):∃bo,HT ps (bf e X)=some bo:=by
 unfold isC at hk;split at hk<;>cases hk<;>simp only[bM,ad]at h<;>obtain⟨b,hb,_⟩:=h<;>exact⟨b,hb⟩
theorem avH(hf:Fr fb V g w B e tmps)(hi:Inv CR base g σ w){x y:Operand}{X:bL}{t u el:TypeId}{b:BinOp}(hx:bD x=some X)(hy:bD y=some (.c .xc))(ht:P.underlying t=some (.pointer el))
  (hk:isC true b X=some k) (h:bM e σ k=some (d,σ')) (o:Oper) (ho:o.op=.binOp b t x y u):fO P CR base g w B e (Act.mk tmps df).eval o d σ':=by
 have hr:=hf.bf (df:=df) hx;have hr':=hf.bf (df:=df) hy;have e2:(Act.mk tmps df).eval y=.pointer none:=by
  generalize (Act.mk tmps df).eval y=c at hr';cases hr';rfl
 obtain⟨bo,hn⟩:=Lb hk h;have:∃a,(Act.mk tmps df).eval x=.pointer a∧bo=a.isNone:=by
  generalize bf e X=dx at hr hn;generalize (Act.mk tmps df).eval x=cx at hr;cases hr<;>simp[HT]at hn
  ·exact⟨none,rfl,by simp[← hn]⟩
  ·exact⟨_,rfl,by simp[← hn]⟩
  ·exact⟨_,rfl,by simp[← hn]⟩
 obtain⟨a,e1,rfl⟩:=this;refine avG hi e1 e2 (fun b=>by simp[eqGuard]) rfl rfl (Cn 9999 ht) hn hk h o ho
theorem avI(hf:Fr fb V g w B e tmps)(hi:Inv CR base g σ w){x y:Operand}{X:bL}{t u el:TypeId}{b:BinOp}(hx:bD x=some X)(hy:bD y=some (.c .aF))(ht:P.underlying t=some (.slice el))
  (hk:isC false b X=some k) (h:bM e σ k=some (d,σ')) (o:Oper) (ho:o.op=.binOp b t x y u):fO P CR base g w B e (Act.mk tmps df).eval o d σ':=by
 have hr:=hf.bf (df:=df) hx;have hr':=hf.bf (df:=df) hy;have e2:(Act.mk tmps df).eval y=.slice none 0 0:=by
  generalize (Act.mk tmps df).eval y=c at hr';cases hr';rfl
 obtain⟨bo,hn⟩:=Lb hk h;have:∃a n c,(Act.mk tmps df).eval x=.slice a n c∧bo=a.isNone:=by
  generalize bf e X=dx at hr hn;generalize (Act.mk tmps df).eval x=cx at hr;cases hr<;>simp[HT]at hn
  ·exact⟨none,_,_,rfl,by simp[← hn]⟩
  ·exact⟨_,_,_,rfl,by simp[← hn.2]⟩
  ·rename_i l i v off n w a cap L h1 h2 h3 h4 h5 h6 h7;refine⟨a,n,cap,rfl,?_⟩;cases a with
   |none=>have:=h4 rfl;omega
   |some a=>simp[← hn.2]
 obtain⟨a,n,c,e1,rfl⟩:=this;refine avG hi e1 e2 (fun b=>by simp[eqGuard]) rfl rfl (run_equalIn_slice_nil 9999 ht) hn hk h o ho
theorem avQ(hf:Fr fb V g w B e tmps)(hi:Inv CR base g σ w){x:Operand}{X:bL}(hx:bD x=some X)(h:bM e σ (.mo X)=some (d,σ'))(o:Oper)(ho:o.op=.nilCheck x):
  fO P CR base g w B e (Act.mk tmps df).eval o d σ':=by
 have hr:=hf.bf (df:=df) hx;simp only[bM]at h;generalize bf e X=dx at hr h;have key:(∃a,(Act.mk tmps df).eval x=.pointer (some a))∧d=dx∧σ'=σ:=by
  generalize (Act.mk tmps df).eval x=cx at hr;cases hr<;>simp at h
  ·exact⟨⟨_,rfl⟩,h.1.symm,h.2.symm⟩
  ·exact⟨⟨_,rfl⟩,h.1.symm,h.2.symm⟩
 obtain⟨⟨a,e1⟩,rfl,rfl⟩:=key;rw[e1]at hr;exact .pure hi (c:=.pointer (some a)) (by simp[execOp,ho,e1]) (cF.of hr)
theorem Iz{x:Operand}(h:zQ x=true):x=.const (.slice none 0 0):=by
 unfold zQ at h;split at h
 ·rfl
 ·cases h
theorem arD(hf:Fr fb V g w B e tmps)(hi:Inv CR base g σ w){o:Oper}(hk:kC P a ops key o=some k)(h:bM e σ k=some (d,σ')):
  fO P CR base g w B e (Act.mk tmps df).eval o d σ':=by
 unfold kC at hk;split at hk
 ·rename_i x ho;obtain⟨X,hX,rfl⟩:=ad.1 hk;exact M1 hf hi hX h o (.inl ho)
 ·rename_i x ho;split at hk
  ·rename_i hnil _ _;split at hk
   ·obtain⟨X,hX,rfl⟩:=ad.1 hk;exact arw hi h o (by rw[ho,Iz hnil])
   ·obtain⟨X,hX,rfl⟩:=ad.1 hk;exact M1 hf hi hX h o (.inr ho)
  ·obtain⟨X,hX,rfl⟩:=ad.1 hk;exact M1 hf hi hX h o (.inr ho)
 ·rename_i c x y ho;split at hk
  ·rename_i c' x' y' h1 h2 h3;cases hk;exact arx hf hi h1 h2 h3 h o ho
  ·cases hk
 ·rename_i el ho;split at hk
  ·rename_i z d0 hz _;split at hk
   ·split at hk
    case h_2=>cases hk
    split at hk
    case h_2=>cases hk
    split at hk
    case h_2=>cases hk
    cases hk;exact avL hi hz h o ho
   cases hk;split at h
   ·cases h
   ·exact avr hi hz h o ho
  ·cases hk
 ·rename_i t x ho;split at hk
  ·rename_i x' d0 hx _;cases hk;split at h
   ·cases h
   split at h
   ·split at h
    ·exact arl hf hi hx h o ho
    ·exact avz hf hi hx h o ho
   ·exact ark hf hi hx h o ho
  ·cases hk
 ·rename_i t ps ho;split at hk
  ·rename_i fs z ht hz;split at hk
   ·rename_i hall;obtain⟨parts,hp,rfl⟩:=ad.1 hk;exact JQ hf hi ht hz hall hp h o ho
   ·cases hk
  ·rename_i n el z ht hz;split at hk
   ·rename_i wd hw;obtain⟨parts,hp,rfl⟩:=ad.1 hk;exact LA hf hi ht hw hz hp h o ho
   ·cases hk
  ·cases hk
 ·rename_i t n ps ho;split at hk
  ·rename_i el ht;split at hk
   ·rename_i wd z d0 hw hz _;split at hk
    ·rename_i hc;obtain⟨parts,hp,rfl⟩:=ad.1 hk;dsimp only at h;split at h
     ·rename_i hn;simp only[af,au]at hn;obtain⟨⟨rfl,hpe⟩,_⟩:=hn;exact avw hf hi ht hw hz hc.1 hc.2.1 hc.2.2 hp (by simpa using hpe) h o ho
     split at h
     ·exact avy hf hi ht hw hz hc.1 hc.2.1 hc.2.2 hp h o ho
     ·exact avx hf hi ht hw hz hc.1 hc.2.1 hc.2.2 hp h o ho
    ·cases hk
   ·cases hk
  ·cases hk
 ·rename_i t x ho;split at hk
  ·rename_i ag sz n hag hsz hx;split at hk
   ·rename_i hc;simp only[af,au]at hc;cases hk;have hxe:x=.tmp n:=by
     cases x<;>simp only[bD,ae,bL.t.injEq,reduceCtorEq,ad,and_false,exists_false]at hx;rw[hx]
    split at h
    ·exact avJ hf hi hag hsz hc.1 hc.2 h o (by rw[ho,hxe])
    ·split at h
     ·exact ars hf hi hx hag hsz hc.1 hc.2 (agp h) o ho
     split at h
     ·exact ars hf hi hx hag hsz hc.1 hc.2 (ago h) o ho
     ·exact ars hf hi hx hag hsz hc.1 hc.2 h o ho
   ·cases hk
  ·cases hk
 ·rename_i t x y ho;split at hk
  ·rename_i sz n y' hsz hx hy;cases hk;split at h
   ·cases h
   ·split at h
    ·exact avV hf hi hx hy hsz (P8 h) o ho
    ·exact avV hf hi hx hy hsz h o ho
  ·cases hk
 ·rename_i b t x y u ho;split at hk
  ·rename_i hx hy;cases hk;exact avv hf hi hx hy h o ho
  ·rename_i hx hy;exact ME hf hi hx hy hk h o ho
  ·rename_i hx hy;exact ME hf hi hx hy hk h o ho
  ·rename_i hx hy;exact ME hf hi hx hy hk h o ho
  ·rename_i ht hx hy;split at hk
   ·cases hk;exact ary hf hi hx hy h o ho
   ·cases hk;exact alW hf hi hx hy h o ho
   ·cases hk;exact alW hf hi hx hy h o ho
   ·cases hk
  ·rename_i ht hx hy;exact avH hf hi hx hy ht hk h o ho
  ·rename_i ht hx hy;split at hk
   ·rename_i hsz;split at hk
    ·cases hk;exact alV (neg:=false) hf hi hx hy ht hsz h o ho
    ·cases hk;exact alV (neg:=true) hf hi hx hy ht hsz h o ho
    ·cases hk
   ·cases hk
  ·rename_i ht hx hy;exact avI hf hi hx hy ht hk h o ho
  ·rename_i ht hx hy;split at hk
   ·cases hk;exact alU (neg:=false) hf hi hx ht h o ho
   ·cases hk;exact alU (neg:=true) hf hi hx ht h o ho
   ·cases hk
  ·cases hk
 ·rename_i x ho;obtain⟨X,hX,rfl⟩:=ad.1 hk;exact avQ hf hi hX h o ho
 ·rename_i b t x ho;obtain⟨X,hX,rfl⟩:=ad.1 hk;exact ayb hf hi hX h o ho
 ·rename_i s t x ho;split at hk
  ·rename_i hs ht hx;cases hk;exact avB hf hi hx hs ht h o ho
  ·rename_i hs ht hx;split at hk
   ·rename_i he hw;cases hk;exact avu hf hi hx hs he ht h o ho
   ·cases hk
  ·rename_i hs ht hx;split at hk
   ·rename_i he hw;cases hk;exact avT hf hi hx hs he ht h o ho
   ·cases hk
  ·rename_i hs ht hx;split at hk
   ·rename_i hst;subst hst;split at hk
    ·rename_i he;cases hk;exact avC hf hi hx hs he h o ho
    ·cases hk
   ·cases hk
  ·cases hk
 ·rename_i t x ho;split at hk
  ·rename_i ht hx;obtain⟨wd,hw,rfl⟩:=ad.1 hk;exact avS hf hi hx ht h o ho
  ·cases hk
 ·rename_i f xs ys ho;split at hk
  ·rename_i hx hy;cases hk;exact avM hf hi hx hy h o ho
  ·cases hk
 ·rename_i t x y ho;split at hk
  ·rename_i el ht;split at hk
   ·rename_i hw hb hz hx hy;split at hk
    ·rename_i hc;cases hk;exact avP hf hi hx hy ht hw hb hz hc.1 hc.2 h o ho
    ·cases hk
   ·cases hk
  ·cases hk
 ·rename_i t x lo hh mx ho;split at hk
  ·rename_i ht hx hlo hhi hmx;obtain⟨wd,hw,rfl⟩:=ad.1 hk;exact avU hf hi hx ht hw hlo hhi hmx h o ho
  ·rename_i ht hx hlo hhi hmx;obtain⟨wd,hw,rfl⟩:=ad.1 hk;have hm:mx=none:=by
    cases mx with
    |none=>rfl
    |some m=>simp[xe,ad]at hmx
   subst hm;exact arA hf hi hx ht hw hlo hhi h o ho
  ·rename_i ht hx hlo hhi hmx;cases hk;have hm:mx=none:=by
    cases mx with
    |none=>rfl
    |some m=>simp[xe,ad]at hmx
   subst hm;exact arC hf hi hx ht hlo hhi h o ho
  ·cases hk
 ·rename_i s x i ho;split at hk
  ·rename_i fs x' hs hx;split at hk
   ·rename_i off sz hfc;split at hk
    ·rename_i hpos;cases hk;exact arn hf hi hx hs hfc hpos h o ho
    ·cases hk
   ·cases hk
  ·cases hk
 ·rename_i s x i ho;split at hk
  ·rename_i fs x' hs hx;split at hk
   ·rename_i f hfi;split at hk
    ·rename_i hag hsz;split at hk
     ·cases hk;exact avF hf hi hx hs hfi hag hsz h o ho
     ·cases hk
    ·cases hk
   ·cases hk
  ·cases hk
 ·rename_i t x y ho;split at hk
  ·rename_i ht hx hy;obtain⟨wd,hw,rfl⟩:=ad.1 hk;exact aro hf hi hx hy ht hw h o ho
  ·rename_i ht hx hy;obtain⟨wd,hw,rfl⟩:=ad.1 hk;exact arp hf hi hx hy ht hw h o ho
  ·cases hk
 ·rename_i t x y ho;split at hk
  ·rename_i ht hx hy;split at hk
   ·rename_i hag hsz;split at hk
    ·cases hk;exact arq hf hi hx hy ht hag hsz h o ho
    ·cases hk
   ·cases hk
  ·rename_i ht hx hy;cases hk;exact arz hf hi hx hy ht h o ho
  ·cases hk
 ·rename_i x i ho;obtain⟨X,hX,rfl⟩:=ad.1 hk;exact avE hf hi hX h o ho
 ·rename_i c ho;obtain⟨callee,args,ts⟩:=c;dsimp only at hk;split at hk
  ·rename_i f;split at hk
   ·cases hk;cases h
   ·cases hk
  ·split at hk
   ·rename_i t tr x r hts ha;split at hk
    ·rename_i ht hx;cases hk;exact avK hf hi hx ht ha hts h o ho
    ·rename_i ht hx;cases hk;exact arB hf hi hx ht ha hts h o ho
    ·rename_i ht hx;cases hk;exact arv hf hi hx ht ha hts h o ho
    ·rename_i ht;cases hk;exact aem hi (.inl ⟨_,ht⟩) ha hts h o ho
    ·rename_i ht;split at hk
     ·rename_i hr;cases hk;exact aem hi (.inr ⟨_,_,ht,hr⟩) ha hts h o ho
     ·cases hk
    ·cases hk
   ·cases hk
  ·cases hk;cases h
  ·split at hk
   ·rename_i ha;split at hk
    ·rename_i hx hy;cases hk;exact ax9 hf hi hx hy ha h o ho
    ·cases hk
   ·cases hk
  ·split at hk
   ·rename_i ha;split at hk
    ·rename_i hx hy;cases hk;exact aya hf hi hx hy ha h o ho
    ·cases hk
   ·cases hk
  ·split at hk
   ·rename_i t u x y hts ha;split at hk
    ·rename_i uu x' y' ht hu0 hx hy;split at hk
     case isFalse=>cases hk
     rename_i huu;have hu:P.underlying u=some .string∨∃e2,P.underlying u=some (.slice e2):=by
      cases uu<;>simp[aef]at huu
      ·exact .inl hu0
      ·exact .inr ⟨_,hu0⟩
     split at hk
     ·rename_i hw hb hz;split at hk
      ·rename_i hc;cases hk;split at h
       ·rename_i hn;simp only[af]at hn;exact avA hf hi (Iz hn.1) hy ha hts ht hu hw hb hz hc.2.2.2 hc.2.1 hc.2.2.1 h o ho
       ·split at h
        ·rename_i hn;simp only[af]at hn;obtain⟨v,rfl⟩:∃v,x=.tmp v:=by
          have:=hn.2;cases x<;>simp[aeG]at this;exact⟨_,rfl⟩
         exact avs hf hi rfl hy ha hts ht hu hw hb hz hc.2.2.2 hc.2.1 hc.2.2.1 h o ho
        split at h
        ·exact avt hf hi hx hy ha hts ht hu hw hb hz hc.2.2.2 hc.2.1 hc.2.2.1 h o ho
        split at h
        ·exact ael hf hi hx hy ha hts ht hu hw hb hz hc.2.2.2 hc.2.1 hc.2.2.1 (P7 h) o ho
        ·exact ael hf hi hx hy ha hts ht hu hw hb hz hc.2.2.2 hc.2.1 hc.2.2.1 h o ho
      ·cases hk
     ·cases hk
    ·cases hk
   ·cases hk
  ·cases hk
 ·rename_i t x ho;split at hk
  ·rename_i hc;obtain⟨X,hX,rfl⟩:=ad.1 hk;exact avN hf hi hX hc h o ho
  ·cases hk
 ·rename_i x xt t ok ho;split at hk
  ·cases hk
  ·rename_i dsc x' hnot ht hx;split at hk
   ·rename_i hok;subst hok;obtain⟨z,hz,rfl⟩:=ad.1 hk;exact alX hf hi hx ht (fun ms hms=>by subst hms;exact hnot _ rfl) (by simpa using hz) h o ho
   ·rename_i hok;cases hk;exact alX hf hi hx ht (fun ms hms=>by subst hms;exact hnot _ rfl) (by simp[hok]) h o ho
  ·cases hk
 ·rename_i x ho;obtain⟨X,hX,rfl⟩:=ad.1 hk;cases h
 ·rename_i t ho;cases hk;exact avO hi h o ho
 ·rename_i t k n ho;split at hk
  ·rename_i ht;cases hk;exact aru hi h ht o ho
  ·cases hk
 ·rename_i t x ho;split at hk
  ·rename_i ht hx;cases hk;exact avR hf hi hx ht h o ho
  ·cases hk
 ·rename_i x ho;split at hk
  ·rename_i hx;cases hk;exact avD hf hi hx h o ho
  ·cases hk
 ·rename_i t x y ok ho;split at hk
  ·rename_i ht hx hy;split at hk
   ·rename_i hky hz;cases hk;exact art hf hi hx hy ht hky hz h o ho
   ·cases hk
  ·cases hk
 ·rename_i t m x y ho;split at hk
  ·rename_i ht hm hx hy;split at hk
   ·rename_i hky;cases hk;exact aen hf hi hm hx hy ht hky h o (.inl ho)
   ·cases hk
  ·cases hk
 ·rename_i t m x y ho;split at hk
  ·rename_i ht hm hx hy;split at hk
   ·rename_i hky;cases hk;exact aen hf hi hm hx hy ht hky h o (.inr ho)
   ·cases hk
  ·cases hk
 ·cases hk
end
mutual
def D.low(n:Nat):D→Bool
 |.ref l .. => decide (l<n)
 |.sl l .. => decide (l<n)
 |.mq l _=>decide (l<n)
 |.vr .. => true
 |.emp=>true
 |.own _ cs=>D.mC n cs
 |.agg cs=>D.mC n cs
 |.dG cs=>D.mC n cs
 |.bF cs=>D.mC n cs
 |.aH _ cs=>D.mC n cs
 |.fn _ a b=>D.mC n a && D.mC n b
 |.undef=>true
 |.bool _=>true
 |.int _ _=>true
 |.str _=>true
 |.xc=>true
 |.aF=>true
 |.iP=>true
 |.tW _ d=>D.low n d
 |.o6=>true
def D.mC(n:Nat):List D→Bool
 |[]=>true
 |d::ds=>D.low n d && D.mC n ds
end
theorem Bl{n:Nat}{ds:List D}:D.mC n ds=true↔∀d∈ds,d.low n=true:=by
 induction ds with
 |nil=>simp[D.mC]
 |cons d ds ih=>simp[D.mC,ih]
mutual
theorem uF{n:Nat}:∀{d:D},d.clean=true→d.low n=true
 |.ref ..,h=>by simp[D.clean]at h
 |.sl ..,h=>by simp[D.clean]at h
 |.mq ..,h=>by simp[D.clean]at h
 |.vr ..,_=>rfl
 |.emp,_=>rfl
 |.own _ cs,h=>qG (ds:=cs) (by simpa[D.clean]using h)
 |.agg cs,h=>qG (ds:=cs) (by simpa[D.clean]using h)
 |.dG cs,h=>qG (ds:=cs) (by simpa[D.clean]using h)
 |.bF cs,h=>qG (ds:=cs) (by simpa[D.clean]using h)
 |.aH _ cs,h=>qG (ds:=cs) (by simpa[D.clean]using h)
 |.fn _ a b,h=>by
  simp only[D.clean,af]at h;simp only[D.low,af];exact⟨qG h.1,qG h.2⟩
 |.undef,_=>rfl
 |.bool _,_=>rfl
 |.int _ _,_=>rfl
 |.str _,_=>rfl
 |.xc,_=>rfl
 |.aF,_=>rfl
 |.iP,_=>rfl
 |.tW _ d,h=>uF (d:=d) (by simpa[D.clean]using h)
 |.o6,_=>rfl
theorem qG{n:Nat}:∀{ds:List D},D.bz ds=true→D.mC n ds=true
 |[],_=>rfl
 |d::ds,h=>by
  simp only[D.bz,af]at h;simp only[D.mC,af];exact⟨uF h.1,qG h.2⟩
end
mutual
theorem bI.low{g:G}{n:Nat}(hn:∀l i L,g.loc l i=some L→l<n):∀{d:D} {c:Value},bI g d c→d.low n=true
 |_,_,.undef c=>rfl
 |_,_,.bool b=>rfl
 |_,_,.int k n=>rfl
 |_,_,.str s=>rfl
 |_,_,.agg ds cs hr h1=>bC.low hn hr
 |_,_,.dG ds cs hr=>bC.low hn hr
 |_,_,.xc=>rfl
 |_,_,.ref l i v off b o L e hv hc hn'=>by simp only[D.low,au];exact hn l i L e
 |_,_,.bF ds b o vs hr hl=>bC.low hn hl
 |_,_,.aF=>rfl
 |_,_,.wY=>rfl
 |_,_,.aH n' ds a cap vs hn' hr hs hl=>bC.low hn hl
 |_,_,.sl l i v off n' w a cap L e hv hn' ha hs hc hc'=>by simp only[D.low,au];exact hn l i L e
 |_,_,.fn f fs cs fs' cs' h1 h2=>by simp only[D.low,af];exact⟨bC.low hn h1,bC.low hn h2⟩
 |_,_,.iP=>rfl
 |_,_,.mq l i b e=>by simp only[D.low,au];exact hn l i _ e
 |_,_,.PK l i b e=>by simp only[D.low,au];exact hn l i _ e
 |_,_,.itv l i b L e hc=>by simp only[D.low,au];exact hn l i _ e
 |_,_,.QF l i b L e hc=>by simp only[D.low,au];exact hn l i _ e
 |_,_,.tW t d c h1=>by rw[D.low];exact bI.low hn h1
 |_,_,.o6=>rfl
theorem bC.low{g:G}{n:Nat}(hn:∀l i L,g.loc l i=some L→l<n):∀{ds:List D} {cs:List Value},bC g ds cs→D.mC n ds=true
 |_,_,.nil=>rfl
 |_,_,.cons d c ds cs h1 h2=>by simp only[D.mC,af];exact⟨bI.low hn h1,bC.low hn h2⟩
end
def G.cut(g:G)(n:Nat):G:=⟨fun l i=>if l<n then g.loc l i else none,g.qq⟩
theorem G.tz{g:G}{n l i:Nat}(h:l<n):(g.cut n).loc l i=g.loc l i:=by simp[G.cut,h]
theorem G.wO{g:G}{n l i:Nat}{L:Loc}(h:(g.cut n).loc l i=some L):l<n∧g.loc l i=some L:=by
 simp only[G.cut]at h;split at h
 ·exact⟨by assumption,h⟩
 ·cases h
mutual
theorem bI.cut{g:G}{n:Nat}:∀{d:D} {c:Value},bI g d c→d.low n=true→bI (g.cut n) d c
 |_,_,.undef c,_ => .undef c
 |_,_,.bool b,_ => .bool b
 |_,_,.int k n,_ => .int k n
 |_,_,.str s,_ => .str s
 |_,_,.agg ds cs hr h1,h => .agg ds cs (bC.cut hr h) h1
 |_,_,.dG ds cs hr,h => .dG ds cs (bC.cut hr h)
 |_,_,.xc,_ => .xc
 |_,_,.ref l i v off b o L e hv hc hn',h => .ref l i v off b o L ((G.tz (by simpa[D.low]using h)).trans e) hv hc hn'
 |_,_,.bF ds b o vs hr hl,h => .bF ds b o vs hr (bC.cut hl h)
 |_,_,.aF,_ => .aF
 |_,_,.wY,_ => .wY
 |_,_,.aH n' ds a cap vs hn' hr hs hl,h => .aH n' ds a cap vs hn' hr hs (bC.cut hl h)
 |_,_,.sl l i v off n' w a cap L e hv hn' ha hs hc hc',h => .sl l i v off n' w a cap L ((G.tz (by simpa[D.low]using h)).trans e) hv hn' ha hs hc hc'
 |_,_,.fn f fs cs fs' cs' h1 h2,h=>by
  simp only[D.low,af]at h;exact .fn f fs cs fs' cs' (bC.cut h1 h.1) (bC.cut h2 h.2)
 |_,_,.iP,_ => .iP
 |_,_,.mq l i b e,h => .mq l i b ((G.tz (by simpa[D.low]using h)).trans e)
 |_,_,.PK l i b e,h => .PK l i b ((G.tz (by simpa[D.low]using h)).trans e)
 |_,_,.itv l i b L e hc,h => .itv l i b L ((G.tz (by simpa[D.low]using h)).trans e) hc
 |_,_,.QF l i b L e hc,h => .QF l i b L ((G.tz (by simpa[D.low]using h)).trans e) hc
 |_,_,.tW t d c h1,h => .tW t d c (bI.cut h1 h)
 |_,_,.o6,_ => .o6
theorem bC.cut{g:G}{n:Nat}:∀{ds:List D} {cs:List Value},bC g ds cs→D.mC n ds=true→bC (g.cut n) ds cs
 |_,_,.nil,_ => .nil
 |_,_,.cons d c ds cs h1 h2,h=>by
  simp only[D.mC,af]at h;exact .cons d c ds cs (bI.cut h1 h.1) (bC.cut h2 h.2)
end
mutual
theorem Bm{n m:Nat}(hm:n≤m):∀{d:D},d.low n=true→d.low m=true
 |.ref l ..,h=>by simp only[D.low,au]at h ⊢;omega
 |.sl l ..,h=>by simp only[D.low,au]at h ⊢;omega
 |.mq l _,h=>by simp only[D.low,au]at h ⊢;omega
 |.vr ..,_=>rfl
 |.emp,_=>rfl
 |.own _ cs,h=>rI (ds:=cs) hm h
 |.agg cs,h=>rI (ds:=cs) hm h
 |.dG cs,h=>rI (ds:=cs) hm h
 |.bF cs,h=>rI (ds:=cs) hm h
 |.aH _ cs,h=>rI (ds:=cs) hm h
 |.fn _ a b,h=>by
  simp only[D.low,af]at h ⊢;exact⟨rI hm h.1,rI hm h.2⟩
 |.undef,_=>rfl
 |.bool _,_=>rfl
 |.int _ _,_=>rfl
 |.str _,_=>rfl
 |.xc,_=>rfl
 |.aF,_=>rfl
 |.iP,_=>rfl
 |.tW _ d,h=>Bm (d:=d) hm h
 |.o6,_=>rfl
theorem rI{n m:Nat}(hm:n≤m):∀{ds:List D},D.mC n ds=true→D.mC m ds=true
 |[],_=>rfl
 |d::ds,h=>by
  simp only[D.mC,af]at h ⊢;exact⟨Bm hm h.1,rI hm h.2⟩
end
def aE.low(n:Nat):aE→Prop
 |.cells _ cs=>D.mC n cs=true
 |.dead=>True
 |.loop lp=>∀t,(get lp.env t).low n=true
def rQ(σ:SK):Prop:=∀l i b,ei σ l i=some b→l+1<σ.length→b.low (l+1)
theorem rQ.set{σ:SK}(h:rQ σ){l i:Nat}{b:aE}(hb:l+1<σ.length→b.low (l+1)):rQ (aV σ l i b):=by
 intro l' i' b' h1 h2;rw[dz]at h2;by_cases hc:l'=l∧i'=i
 ·obtain⟨rfl,rfl⟩:=hc;cases h0:ei σ l' i' with
  |none =>
   have:ei (aV σ l' i' b) l' i'=none:=by
    unfold aV;cases hs:gh σ l' with
    |none=>exact h0
    |some s =>
     simp only[ei,ti (z6 hs),Option.bind_some];simp only[ei,hs,Option.bind_some]at h0;rw[List.getElem?_eq_none_iff]at h0 ⊢;simpa using h0
   rw[this]at h1;cases h1
  |some b0=>rw[ou h0]at h1;cases h1;exact hb h2
 ·rw[eU hc]at h1;exact h l' i' b' h1 h2
theorem rQ.new{σ σ':SK}(h:rQ σ){l i:Nat}{b:aE}(hn:hJ σ b=some (l,i,σ')):rQ σ':=by
 obtain⟨h1,h2,h3,h4,h5⟩:=j2 hn;intro l' i' b' e hl;by_cases hc:l'=l∧i'=i
 ·omega
 ·rw[h3 l' i' hc]at e;exact h l' i' b' e (by omega)
structure gH(σ σ':SK):Prop where
 len:σ'.length=σ.length
 low:rQ σ→rQ σ'
theorem gH.refl(σ:SK):gH σ σ:=⟨rfl,id⟩
theorem gH.trans{a b c:SK}(h:gH a b)(h':gH b c):gH a c:=⟨h'.len.trans h.len,fun x=>h'.low (h.low x)⟩
theorem gH.new{σ σ':SK}{l i:Nat}{b:aE}(hn:hJ σ b=some (l,i,σ')):gH σ σ':=⟨(j2 hn).2.2.2.1,fun h=>h.new hn⟩
theorem gH.set{σ:SK}{l i:Nat}{b:aE}(hb:l+1<σ.length→b.low (l+1)):gH σ (aV σ l i b):=⟨dz,fun h=>h.set hb⟩
theorem sU:∀(nb:List (Nat×Nat)) (cs cs':List D) (σ σ':SK),kP nb cs σ=some (cs',σ')→gH σ σ'
 |[],cs,cs',σ,σ',h=>by simp only[kP,ae,ak]at h;obtain⟨rfl,rfl⟩:=h;exact .refl _
 |(p,w)::r,cs,cs',σ,σ',h=>by
  simp only[kP]at h;split at h
  ·simp only[aQ,ah]at h;obtain⟨⟨l,i,σ1⟩,hn,h⟩:=h;exact(gH.new hn).trans (sU r _ _ _ _ h)
  ·exact sU r _ _ _ _ h
theorem yW(l:Nat):∀(n:Nat) (d:D) (σ:SK),(cz l n d σ).1.low (l+1)=true∧gH σ (cz l n d σ).2
 |0,d,σ=>⟨rfl,.refl _⟩
 |n+1,d,σ=>by
  have ih:∀(ds:List D) (σ:SK),D.mC (l+1) (cz.frzL (cz l n) ds σ).1=true∧gH σ (cz.frzL (cz l n) ds σ).2:=by
   intro ds;induction ds with
   |nil=>intro σ;exact⟨rfl,.refl _⟩
   |cons d ds ihd =>
    intro σ;obtain⟨h1,h2⟩:=yW l n d σ;obtain⟨h3,h4⟩:=ihd (cz l n d σ).2;simp only[cz.frzL,D.mC,af];exact⟨⟨h1,h3⟩,h2.trans h4⟩
  simp only[cz];split
  ·rename_i hc;exact⟨uF hc,.refl _⟩
  cases d with
  |agg cs=>exact ih cs σ
  |dG cs=>exact ih cs σ
  |bF cs=>exact ih cs σ
  |aH m cs=>exact ih cs σ
  |own s cs=>exact ih cs σ
  |fn f a b =>
   obtain⟨h1,h2⟩:=ih a σ;obtain⟨h3,h4⟩:=ih b (cz.frzL (cz l n) a σ).2;refine⟨?_,h2.trans h4⟩;simp only[D.low,af];exact⟨h1,h3⟩
  |ref l' i v off =>
   dsimp only;split
   ·refine⟨?_,.refl _⟩;simp only[D.low,au];omega
   ·exact⟨rfl,.refl _⟩
  |mq l' i =>
   dsimp only;split
   ·refine⟨?_,.refl _⟩;simp only[D.low,au];omega
   ·exact⟨rfl,.refl _⟩
  |sl l' i v off m w =>
   dsimp only;split
   ·refine⟨?_,.refl _⟩;simp only[D.low,au];omega
   ·split
    ·rename_i cs hcs;obtain⟨h1,h2⟩:=ih ((cs.drop off).take (m*w)) (aV σ l' i .dead);exact⟨h1,(gH.set (b:=.dead) fun _=>trivial).trans h2⟩
    ·exact⟨rfl,.refl _⟩
  |_=>exact⟨rfl,.refl _⟩
theorem BH(l n:Nat)(ds:List D):∀(σ:SK),D.mC (l+1) (cz.frzL (cz l n) ds σ).1=true∧gH σ (cz.frzL (cz l n) ds σ).2:=by
 induction ds with
 |nil=>intro σ;exact⟨rfl,.refl _⟩
 |cons d ds ihd =>
  intro σ;obtain⟨h1,h2⟩:=yW l n d σ;obtain⟨h3,h4⟩:=ihd (cz l n d σ).2;simp only[cz.frzL,D.mC,af];exact⟨⟨h1,h3⟩,h2.trans h4⟩
theorem It(l:Nat):∀(e:Env) (σ:SK),(∀p∈(sO l e σ).1,p.2.low (l+1)=true)∧gH σ (sO l e σ).2
 |[],σ=>⟨by simp[sO],.refl _⟩
 |(t,d)::e,σ=>by
  obtain⟨h1,h2⟩:=yW l deep d σ;obtain⟨h3,h4⟩:=It l e (cz l deep d σ).2;simp only[sO];refine⟨?_,h2.trans h4⟩;intro p hp;rcases aW.1 hp with rfl | hp
  ·exact h1
  ·exact h3 p hp
theorem zx{σ:SK}(h:rQ σ){l i v:Nat}{cs:List D}(hc:cells? σ l i v=some cs)(hl:l+1<σ.length):D.mC (l+1) cs=true:=by
 unfold cells? at hc;split at hc
 case h_2=>cases hc
 rename_i v' cs' hb;split at hc
 case isFalse=>cases hc
 cases hc;exact h l i _ hb hl
theorem xS{n:Nat}{a b:List D}:D.mC n (a++b)=true↔D.mC n a=true∧D.mC n b=true:=by
 simp only[Bl,bu];exact⟨fun h=>⟨fun d hd=>h d (.inl hd),fun d hd=>h d (.inr hd)⟩,fun h d hd=>hd.elim (h.1 d) (h.2 d)⟩
theorem EN{n k:Nat}{a:List D}(h:D.mC n a=true):D.mC n (a.take k)=true:=by
 rw[Bl]at h ⊢;exact fun d hd=>h d (dh hd)
theorem EM{n k:Nat}{a:List D}(h:D.mC n a=true):D.mC n (a.drop k)=true:=by
 rw[Bl]at h ⊢;exact fun d hd=>h d (dW hd)
theorem adY{σ σ':SK}{d:D}{o:Mo}{ds:List D}(h:AE σ o ds=some (d,σ'))(hk:o.calm=true):σ'=σ:=by
 unfold AE at h;split at h
 ·simp[Mo.calm]at hk
 ·simp[Mo.calm]at hk
 ·split at h
  ·split at h
   ·split at h<;>first | (cases h;done) | (cases h;rfl)
   ·cases h
  ·cases h
 ·simp[Mo.calm]at hk
 ·simp only[ad,ak]at h;obtain⟨_,_,_,rfl⟩:=h;rfl
 ·simp[Mo.calm]at hk
 ·split at h
  ·split at h
   ·split at h
    ·split at h
     ·cases h;rfl
     ·cases h
    ·cases h
   ·cases h
  ·cases h
 ·cases h
theorem adS{σ σ':SK}{d:D}{o:Me}{ds:List D}(h:meD σ o ds=some (d,σ')):σ'=σ:=by
 unfold meD at h;split at h
 ·cases h
 ·simp only[ah,ad,ak]at h;obtain⟨_,_,_,_,_,rfl⟩:=h;rfl
 ·cases h;rfl
 ·split at h<;>cases h;rfl
 ·split at h<;>cases h;rfl
 ·cases h
theorem LF{e:Env}{σ σ':SK}{d:D}{k:K}(h:bM e σ k=some (d,σ'))(hk:k.calm=true):σ'=σ:=by
 by_cases hm:∃o xs,k=.mp o xs
 ·obtain⟨o,xs,rfl⟩:=hm;exact adY h hk
 by_cases hm':∃o xs,k=.me o xs
 ·obtain⟨o,xs,rfl⟩:=hm';exact adS h
 cases k<;>(try (exact absurd ⟨_,_,rfl⟩ hm))<;>(try (exact absurd ⟨_,_,rfl⟩ hm'))<;>clear hm hm'<;>simp only[K.calm,aw]at hk<;>simp only[bM,aQ,reduceCtorEq]at h<;>(repeat' split at h)<;>
  simp only[ad,ah,ae,ak,Prod.exists,reduceCtorEq,exists_eq_left,and_false,exists_false]at h<;>(try split at h)<;>
  simp_all<;>(try (obtain⟨_,_,h⟩:=h;simp_all))<;>(try grind)
theorem Px{e:Env}{σ σ':SK}{d:D}{nb:List (Nat×Nat)}{sz:Nat}{a x:bL}(h:bM e σ (.st nb sz a x)=some (d,σ')):gH σ σ':=by
 simp only[bM]at h;split at h
 case h_2=>cases h
 split at h
 case h_2=>cases h
 rename_i l i v off hX _ cs hcs;split at h
 case h_2=>cases h
 rename_i p hcells;split at h
 case isFalse=>cases h
 rename_i hc;split at h
 ·rename_i htop;split at h
  ·rename_i p' σ1 hnb;cases h;have hg:=sU _ _ _ _ _ hnb;exact hg.trans (gH.set fun hl=>by have:=hg.len;omega)
  ·cases h
 ·rename_i htop;cases h;obtain⟨h1,h2⟩:=BH l deep p σ;refine⟨dz.trans h2.len,fun hl=>(h2.low hl).set fun hlt=>?_⟩;have hcl:=zx hl hcs (by have:=h2.len;omega);simp only[aE.low,xS];exact⟨⟨EN hcl,h1⟩,EM hcl⟩
theorem G4{e:Env}{σ σ':SK}{d:D}{w bytes:Nat}{s x:bL}(h:bM e σ (.app w bytes s x)=some (d,σ')):gH σ σ':=by
 simp only[bM,aQ,ah]at h;obtain⟨⟨m,xs⟩,he,h⟩:=h;dsimp only at h;split at h
 ·split at h
  case isFalse=>cases h
  split at h
  ·cases h;exact .refl _
  ·simp only[ah]at h;obtain⟨⟨l,i,σ1⟩,hn,h⟩:=h;cases h;exact .new hn
 ·split at h
  case h_2=>cases h
  rename_i l i v off n w' hX _ cs hcs;split at h
  case isFalse=>cases h
  split at h
  ·cases h;exact .set fun hl=>by omega
  ·cases h;obtain⟨h1,h2⟩:=BH l deep xs σ;refine⟨dz.trans h2.len,fun hl=>(h2.low hl).set fun hlt=>?_⟩;have hcl:=zx hl hcs (by have:=h2.len;omega);simp only[aE.low,xS];exact⟨EN (EM hcl),h1⟩
 ·cases h
theorem adP{n j:Nat}{a:List D}{x:D}(h:D.mC n a=true)(hx:x.low n=true):D.mC n (a.set j x)=true:=by
 rw[Bl]at h ⊢;intro d hd;rcases List.mem_or_eq_of_mem_set hd with h1 | rfl
 ·exact h d h1
 ·exact hx
theorem afM{σ σ':SK}{d:D}{o:Mo}{ds:List D}(h:AE σ o ds=some (d,σ')):gH σ σ':=by
 unfold AE at h;split at h
 ·simp only[ad,ak,Prod.exists]at h;obtain⟨l,i,σ1,hn,_,rfl⟩:=h;exact .new hn
 ·simp only[ad,ak,Prod.exists]at h;obtain⟨l,i,σ1,hn,_,rfl⟩:=h;exact .new hn
 ·split at h
  ·split at h
   ·split at h<;>first | (cases h;done) | (cases h;exact .refl _)
   ·cases h
  ·cases h
 ·rename_i ky m k v;split at h
  ·rename_i l i es hm;obtain⟨rfl,hcs⟩:=Lm hm;split at h
   case isFalse=>cases h
   rename_i hc;have hlow:l+1<σ.length→k.low (l+1)=true∧v.low (l+1)=true:=fun hl=>by
    rcases hc.2 with h1 | ⟨h1,h2⟩
    ·omega
    ·exact⟨uF h1,uF h2⟩
   split at h
   ·cases h;refine⟨dz,fun hS=>hS.set fun hl=>?_⟩;have hcl:=zx hS hcs hl;obtain⟨h1,h2⟩:=hlow hl;simp only[aE.low];exact adP hcl (by simp[D.low,D.mC,h1,h2])
   ·cases h;refine⟨dz,fun hS=>hS.set fun hl=>?_⟩;have hcl:=zx hS hcs hl;obtain⟨h1,h2⟩:=hlow hl;simp only[aE.low,xS];exact⟨hcl,by simp[D.low,D.mC,h1,h2]⟩
   ·cases h
  ·cases h
 ·simp only[ad,ak]at h;obtain⟨_,_,_,rfl⟩:=h;exact .refl _
 ·split at h
  ·simp only[ad,ak,Prod.exists]at h;obtain⟨l,i,σ1,hn,_,rfl⟩:=h;exact .new hn
  ·cases h
 ·split at h
  ·split at h
   ·split at h
    ·split at h
     ·cases h;exact .refl _
     ·cases h
    ·cases h
   ·cases h
  ·cases h
 ·cases h
theorem aeq{e:Env}{σ σ':SK}{d:D}:∀{k:K},bM e σ k=some (d,σ')→gH σ σ'
 |.st ..,h=>Px h
 |.app ..,h=>G4 h
 |.QC ..,h=>G4 (P7 h)
 |.apz w bytes s x,h=>by
  simp only[bM,ad,Prod.exists]at h;obtain⟨d1,σ1,h1,h2⟩:=h;obtain⟨h3,h4⟩:=yW 0 deep d1 σ1;rw[h2]at h4;exact(G4 (by rw[JW];exact h1)).trans h4
 |.cvz x,h=>by
  simp only[bM]at h;split at h
  case h_2=>cases h
  split at h
  case isFalse=>cases h
  split at h
  case h_2=>cases h
  cases h;exact .set fun _=>trivial
 |.HM nb cs,h=>by
  simp only[bM,aQ,ah]at h;obtain⟨⟨cs',σ1⟩,hnb,⟨l,i,σ2⟩,hn,h⟩:=h;cases h;exact(sU _ _ _ _ _ hnb).trans (.new hn)
 |.pq w,h=>by
  simp only[bM,aQ,ah]at h;obtain⟨⟨l,i,σ2⟩,hn,h⟩:=h;cases h;exact .new hn
 |.bxn nb x,h=>by
  simp only[bM,aQ,ah]at h;obtain⟨cs,_,⟨cs',σ1⟩,hnb,⟨l,i,σ2⟩,hn,h⟩:=h;cases h;exact(sU _ _ _ _ _ hnb).trans (.new hn)
 |.HO x,h=>by
  simp only[bM,aQ,ah]at h;obtain⟨cs,_,⟨l,i,σ2⟩,hn,h⟩:=h;cases h;exact .new hn
 |.Kw ..,h=>by
  simp only[bM,aQ,ah]at h;obtain⟨cs,_,⟨l,i,σ2⟩,hn,h⟩:=h;cases h;exact .new hn
 |.mks ..,h=>by
  simp only[bM]at h;split at h
  ·split at h
   ·simp only[aQ,ah]at h;obtain⟨⟨l,i,σ2⟩,hn,h⟩:=h;cases h;exact .new hn
   ·cases h
  ·cases h
 |.mv _,h=>same h rfl
 |.pick ..,h=>same h rfl
 |.dY ..,h=>by simp[bM]at h
 |.HN _,h=>same h rfl
 |.Ey _,h=>by simp[bM]at h
 |.lq ..,h=>same h rfl
 |.ur ..,h=>same h rfl
 |.ld ..,h=>same h rfl
 |.RS ..,h=>same h rfl
 |.RR ..,h=>same h rfl
 |.RG os sz a x,h=>Px (P8 h)
 |.RQ ..,h=>same h rfl
 |.mo ..,h=>same h rfl
 |.RT ..,h=>same h rfl
 |.FV ..,h=>by simp[bM]at h
 |.bin ..,h=>same h rfl
 |.eqv ..,h=>same h rfl
 |.un ..,h=>same h rfl
 |.KF ..,h=>same h rfl
 |.xT ..,h=>same h rfl
 |.JV ..,h=>same h rfl
 |.M5 ..,h=>same h rfl
 |.HQ ..,h=>same h rfl
 |.fld ..,h=>same h rfl
 |.Bc ..,h=>same h rfl
 |.dP ..,h=>same h rfl
 |.Jt ..,h=>same h rfl
 |.HU ..,h=>same h rfl
 |.MM ..,h=>same h rfl
 |.mn ..,h=>same h rfl
 |.mx ..,h=>same h rfl
 |.cpi ..,h=>same h rfl
 |.bse,h=>same h rfl
 |.ape ..,h=>same h rfl
 |.ext ..,h=>same h rfl
 |.ri ..,h=>same h rfl
 |.mp ..,h=>afM h
 |.me ..,h=>same h rfl
 |.mki ..,h=>same h rfl
 |.tas ..,h=>same h rfl
 |.isi ..,h=>same h rfl
 |.LW _,h=>by simp[bM]at h
 |.LX,h=>by simp[bM]at h
 |.call ..,h=>by simp[bM]at h
where
 same {e:Env} {σ σ':SK} {d:D} {k:K} (h:bM e σ k=some (d,σ')) (hk:k.calm=true):gH σ σ':=by
  rw[LF h hk];exact .refl _
end Go.Abs
