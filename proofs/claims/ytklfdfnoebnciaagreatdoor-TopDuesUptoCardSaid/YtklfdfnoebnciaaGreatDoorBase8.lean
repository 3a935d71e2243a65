import Derived.Test.YtklfdfnoebnciaaGreatDoorBase7
import Derived.Test.YtklfdfnoebnciaaGreatDoorBase5
import Derived.MapKept
import Derived.WideKeyRuns
import Derived.Maps.RangeRun
import Derived.Test.YtklfdfnoebnciaaGreatDoorBase4
import Derived.Test.YtklfdfnoebnciaaGreatDoorBase6
set_option linter.all false
namespace Go.Abs
open Go
theorem KD{σ:SK}{d:D}{l i:Nat}{es:List D}(h:Ae σ d=some (l,i,es)):d=.mf l i∧cells? σ l i 0=some es:=by
 unfold Ae at h;split at h
 ·simp only[ab,aj]at h;obtain⟨cs,h1,rfl,rfl,rfl⟩:=h;exact⟨rfl,h1⟩
 ·cases h
theorem HJ{ky:Ky}{k:D}:∀{es:List D} {j:Nat} {v:D},qd ky k es=some (some (j,v))→∃k',es[j]?=some (.dQ [k',v])∧sG ky k k'=some true
 |[],j,v,h=>by simp[qd]at h
 |x::es,j,v,h=>by
  unfold qd at h;split at h
  ·rename_i heq;cases heq
  ·rename_i k' v' es' heq;cases heq;split at h
   ·rename_i hq;cases h;exact⟨k',rfl,hq⟩
   ·simp only[ab]at h;obtain⟨x1,h1,x2,rfl,h2⟩:=h;cases h2;obtain⟨j0,v0⟩:=x2;obtain⟨k0,h3,h4⟩:=HJ h1;exact⟨k0,by simpa using h3,h4⟩
   ·cases h
  ·cases h
section
variable {P:Program} {g:G} {w:World}
theorem Gf:∀{ks:List (Option IntKind)} {p q:List D},zl ks p q=some true→p=q
 |[],p,q,h=>by obtain⟨rfl,rfl,_⟩:=uI h;rfl
 |some k::ks,p,q,h=>by
  obtain⟨a,x,c,y,b0,rfl,rfl,h0,hb⟩:=tn h;simp only[Bool.true_eq,ae,beq_iff_eq]at hb;obtain⟨rfl,rfl⟩:=hb;rw[Gf h0]
 |none::ks,p,q,h=>by
  obtain⟨a,x,c,y,b0,rfl,rfl,h0,hb⟩:=wF h;simp only[Bool.true_eq,ae,beq_iff_eq]at hb;obtain⟨rfl,rfl⟩:=hb;rw[Gf h0]
theorem Dd(n:Nat):∀{ks:List (Option IntKind)} {p q:List D} {b:Bool},zl ks p q=some b→∀{xs ys:List Value},bz g p xs→bz g p ys→xs=ys∧(xs.zip ys).all (fun z=>Instr.sameBits n z.1 z.2)=true
 |[],p,q,b,h,xs,ys,hx,hy=>by
  obtain⟨rfl,rfl,_⟩:=uI h;cases hx;cases hy;exact⟨rfl,rfl⟩
 |some k::ks,p,q,b,h,xs,ys,hx,hy=>by
  obtain⟨a,x,c,y,b0,rfl,rfl,h0,hb⟩:=tn h;cases hx with
  |cons _ v1 _ vs1 h1 h2 =>
   cases hy with
   |cons _ v2 _ vs2 h3 h4 =>
    obtain rfl:=h1.eN;obtain rfl:=h3.eN;obtain⟨h5,h6⟩:=Dd n h0 h2 h4;subst h5;exact⟨rfl,by simp only[List.zip_cons_cons,jk,h6,Instr.sameBits,BEq.rfl,Bool.and_self]⟩
 |none::ks,p,q,b,h,xs,ys,hx,hy=>by
  obtain⟨a,x,c,y,b0,rfl,rfl,h0,hb⟩:=wF h;cases hx with
  |cons _ v1 _ vs1 h1 h2 =>
   cases hy with
   |cons _ v2 _ vs2 h3 h4 =>
    obtain rfl:=h1.oT;obtain rfl:=h3.oT;obtain⟨h5,h6⟩:=Dd n h0 h2 h4;subst h5;exact⟨rfl,by simp only[List.zip_cons_cons,jk,h6,Instr.sameBits,BEq.rfl,Bool.and_self]⟩
theorem aky{a b:ByteArray}(h:a.data.toList=b.data.toList):a=b:=by
 apply ByteArray.ext;exact gl.1 h
theorem aan{ky:Ky}{a b:D}{x y:Value}(h:sG ky a b=some true)(hx:bC g a x)(hy:bC g b y):x=y∧Instr.sameBits 10000 y x=true:=by
 unfold sG at h;split at h
 ·split at h
  ·rename_i s1 s2;simp only[ad,beq_iff_eq]at h;subst h;obtain⟨b1,rfl,h1⟩:=hx.lY;obtain⟨b2,rfl,h2⟩:=hy.lY;obtain rfl:=aky (h1.trans h2.symm);exact⟨rfl,by rw[Instr.sameBits,beq_toListBytes];exact beq_self_eq_true _⟩
  ·cases h
 ·rename_i ag ks;split at h
  ·rename_i p q hp hq;obtain rfl:=Gf h;have h1:=uU hx hp;have h2:=uU hy hq;cases ag with
   |true =>
    simp only[uW,if_true]at h1 h2;obtain⟨xs,rfl,h3,_⟩:=h1;obtain⟨ys,rfl,h4,_⟩:=h2;obtain⟨h5,h6⟩:=Dd 9999 h h4 h3;obtain rfl:=gl.1 h5;exact⟨rfl,by simp only[Instr.sameBits,BEq.rfl,Bool.true_and];exact h6⟩
   |false =>
    simp only[uW,ar,if_false]at h1 h2;obtain⟨h5,h6⟩:=Dd 10000 h h2 h1;simp only[j2,and_true]at h5;subst h5;exact⟨rfl,by simpa using h6⟩
  ·cases h
theorem Gs{t:TypeId}{ky:Ky}(h:Gr P t=some ky):(P.underlying t=some .string∧ky=none)∨(∃k,P.underlying t=some (.int k)∧ky=some (false,[some k])) ∨
  ∃fs ks,P.underlying t=some (.struct fs)∧mc P 20 t=some ks∧ky=some (true,ks)∧fs.toList.all (fun f=>match P.underlying f.type with | some (.int _)=>true | some .bool=>true | _=>false)=true:=by
 unfold Gr at h;split at h
 ·rename_i hu;cases h;exact .inl ⟨hu,rfl⟩
 ·rename_i k hu;cases h;exact .inr (.inl ⟨k,hu,rfl⟩)
 ·rename_i fs hu;split at h
  ·rename_i hall;obtain⟨ks,hks,rfl⟩:=ab.1 h;exact .inr (.inr ⟨fs,ks,hu,hks,rfl,hall⟩)
  ·cases h
 ·cases h
theorem HU{t:TypeId}{ky:Ky}(hk:Gr P t=some ky){a b:D}{c:Bool}{x y:Value}(h:sG ky a b=some c)(hx:bC g a x)(hy:bC g b y):(Op.equal t x y).run P w=.ok c w:=by
 have key:∀ag ks,mc P 20 t=some ks→uw P t=some ag→sG (some (ag,ks)) a b=some c→(Op.equal t x y).run P w=.ok c w:=by
  intro ag ks hks hag hq;simp only[sG]at hq;split at hq
  case h_2=>cases hq
  rename_i p q hp hq2;obtain⟨ag',hag',_,hEq⟩:=Dq (P:=P) (g:=g) (w:=w) 20 t ks hks;rw[hag]at hag';cases hag';exact hEq 10000 (by omega) p q x y c (uU hx hp) (uU hy hq2) hq
 rcases Gs hk with⟨hu,rfl⟩ | ⟨k,hu,rfl⟩ | ⟨fs,ks,hu,hks,rfl,_⟩
 ·simp only[sG]at h;split at h
  case h_2=>cases h
  rename_i s1 s2;cases h;obtain⟨b1,rfl,h1⟩:=hx.lY;obtain⟨b2,rfl,h2⟩:=hy.lY;have:=run_equalIn_string (P:=P) w 9999 t b1 b2 hu;simp only[Op.equal,Op.maxDepth];rw[this,ByteArray.toList_eq,ByteArray.toList_eq,h1,h2]
 ·exact key false [some k] (by simp[mc,hu]) (by simp[uw,hu]) h
 ·exact key true ks hks (by simp[uw,hu]) h
def Found(dk:List MapEntry)(r:Option (Nat×D))(g:G)(o:Option (Nat×Value))(i:Nat):Prop :=
 match r with
 |none=>o=none
 |some (j,v)=>∃e,dk[j]?=some e∧o=some (i+j,e.val)∧bC g v e.val
theorem Jq{k v:D}{a b:Value}(h:bC g (.dQ [k,v]) (.tuple #[a,b])):bC g k a∧bC g v b:=by
 cases h with
 |dQ _ _ hr =>
  cases hr with
  |cons _ _ _ _ h1 h2=>cases h2 with | cons _ _ _ _ h3 h4=>exact⟨h1,h3⟩
theorem F0{t:TypeId}{ky:Ky}(hk:Gr P t=some ky){k:D}{x:Value}(hx:bC g k x):∀(es:List D) (dk:List MapEntry) (r:Option (Nat×D)) (i:Nat),bz g es (dk.map fun e => .tuple #[e.key,e.val])→qd ky k es=some r →
  ∃o,(Instr.findAsking t x dk i).run P w=.ok o w∧Found dk r g o i
 |[],dk,r,i,hr,h=>by
  cases dk with
  |nil=>simp only[qd,ad]at h;subst h;exact⟨none,by simp[Instr.findAsking],rfl⟩
  |cons e dk=>cases hr
 |d::es,dk,r,i,hr,h=>by
  cases dk with
  |nil=>cases hr
  |cons e dk =>
   rw[aM]at hr;cases hr with
   |cons _ _ _ _ hr1 hr2 =>
   unfold qd at h;split at h
   ·rename_i heq;cases heq
   ·rename_i k' v es' heq;cases heq;obtain⟨hk1,hv1⟩:=Jq hr1;split at h
    ·rename_i hq;cases h;have he:=HU (w:=w) hk hq hx hk1;refine⟨some (i,e.val),by simp[Instr.findAsking,he],e,rfl,by simp,hv1⟩
    ·rename_i hq;simp only[ab]at h;obtain⟨r1,h1,rfl⟩:=h;have he:=HU (w:=w) hk hq hx hk1;obtain⟨o,ho,hf⟩:=F0 hk hx es dk r1 (i+1) hr2 h1;refine⟨o,by simp[Instr.findAsking,he,ho],?_⟩;cases r1 with
     |none=>exact hf
     |some y =>
      obtain⟨e1,h3,h4,h5⟩:=hf;exact⟨e1,by simpa using h3,by rw[h4];congr 2;omega,h5⟩
    ·cases h
   ·cases h
theorem I1{t:TypeId}{ky:Ky}{dsc:TypeDesc}{k:D}{x:Value}(hs:∀k' y c,sG ky k k'=some c→bC g k' y→Instr.sameNow dsc x y=some c):∀(es:List D) (dk:List MapEntry) (r:Option (Nat×D)) (i:Nat),bz g es (dk.map fun e => .tuple #[e.key,e.val])→qd ky k es=some r →
  ∃o,Instr.findNow dsc x dk i=some o∧Found dk r g o i
 |[],dk,r,i,hr,h=>by
  cases dk with
  |nil=>simp only[qd,ad]at h;subst h;exact⟨none,by simp[Instr.findNow],rfl⟩
  |cons e dk=>cases hr
 |d::es,dk,r,i,hr,h=>by
  cases dk with
  |nil=>cases hr
  |cons e dk =>
   rw[aM]at hr;cases hr with
   |cons _ _ _ _ hr1 hr2 =>
   unfold qd at h;split at h
   ·rename_i heq;cases heq
   ·rename_i k' v es' heq;cases heq;obtain⟨hk1,hv1⟩:=Jq hr1;split at h
    ·rename_i hq;cases h;exact⟨some (i,e.val),by simp[Instr.findNow,hs _ _ _ hq hk1],e,rfl,by simp,hv1⟩
    ·rename_i hq;simp only[ab]at h;obtain⟨r1,h1,rfl⟩:=h;obtain⟨o,ho,hf⟩:=I1 (t:=t) hs es dk r1 (i+1) hr2 h1;refine⟨o,by simp[Instr.findNow,hs _ _ _ hq hk1,ho],?_⟩;cases r1 with
     |none=>exact hf
     |some y =>
      obtain⟨e1,h3,h4,h5⟩:=hf;exact⟨e1,by simpa using h3,by rw[h4];congr 2;omega,h5⟩
    ·cases h
   ·cases h
theorem xB{t:TypeId}{ky:Ky}(hk:Gr P t=some ky){k:D}{x:Value}(hx:bC g k x){es:List D}{dk:List MapEntry}{r:Option (Nat×D)}(hr:bz g es (dk.map fun e => .tuple #[e.key,e.val]))(h:qd ky k es=some r)
  (hself:(sG ky k k).isSome=true):∃o,(Instr.findKey t x dk).run P w=.ok o w∧Found dk r g o 0:=by
 rcases Gs hk with⟨hu,rfl⟩ | ⟨kk,hu,rfl⟩ | ⟨fs,ks,hu,hks,rfl,_⟩
 ·obtain⟨o,h1,h2⟩:=I1 (t:=t) (ky:=none) (k:=k) (x:=x) (dsc:=.string) (fun k' y c hq hy=>by
   simp only[sG]at hq;split at hq
   case h_2=>cases hq
   cases hq;obtain⟨b1,rfl,h1⟩:=hx.lY;obtain⟨b2,rfl,h2⟩:=hy.lY;simp only[Instr.sameNow];rw[beq_toListBytes,ByteArray.toList_eq,ByteArray.toList_eq,h1,h2]) es dk r 0 hr h
  exact⟨o,MapKept.run_findKey hu h1,h2⟩
 ·obtain⟨o,h1,h2⟩:=I1 (t:=t) (ky:=some (false,[some kk])) (k:=k) (x:=x) (dsc:=.int kk) (fun k' y c hq hy=>by
   simp only[sG]at hq;split at hq
   case h_2=>cases hq
   rename_i p q hp hq2;have hx1:=uU hx hp;have hy1:=uU hy hq2;simp only[uW,ar,if_false]at hx1 hy1;obtain⟨a,xs,b,ys,b0,rfl,rfl,h0,rfl⟩:=tn hq;obtain⟨rfl,rfl,rfl⟩:=uI h0;cases hx1 with
   |cons _ _ _ _ g1 _ =>
    cases hy1 with
    |cons _ _ _ _ g2 _ =>
     obtain rfl:=g1.eN;obtain rfl:=g2.eN;simp[Instr.sameNow]) es dk r 0 hr h
  exact⟨o,MapKept.run_findKey hu h1,h2⟩
 ·obtain⟨o,h1,h2⟩:=F0 (w:=w) hk hx es dk r 0 hr h;refine⟨o,?_,h2⟩;rw[run_findKey_eq w (by simp[hu])];exact h1
theorem zQ(em:Bool){xs:Array Value}{p:List D}(hx:bz g p xs.toList)(h1x:∀y∈xs.toList,y.oneCell'=true):
  ∀(fs:List Field) (o:Nat) (ks:List (Option IntKind)) (q:List D) (b:Bool),mc.kindsF P (mc P 19) o fs=some ks→fs.all (fun f=>match P.underlying f.type with | some (.int _)=>true | some .bool=>true | _=>false)=true →
   zl ks (p.drop o) q=some b →
   (forIn (m:=Sem) fs PUnit.unit fun f _=>do
    if f.name ≠ "_" then Instr.checkKey em 9999 f.type (← part f.type xs f.offset)
    pure (ForInStep.yield PUnit.unit)).run P w=.ok PUnit.unit w
 |[],o,ks,q,b,hk,ha,he=>by simp
 |f::fs,o,ks,q,b,hk,ha,he=>by
  simp only[mc.kindsF]at hk;split at hk
  case h_2=>cases hk
  rename_i k1 hk1;split at hk
  case isFalse=>cases hk
  rename_i hc;obtain⟨hname,hoff,hsz,hpos⟩:=hc;simp only[ab]at hk;obtain⟨k2,hk2,rfl⟩:=hk;simp only[jk,ae]at ha;obtain⟨l1,l2⟩:=Be _ _ _ _ he;obtain⟨b1,b2,e1,e2,rfl⟩:=wE _ _ _ _ _ he;simp only[bI,List.length_drop]at l1 l2;have ih:=zQ em hx h1x fs (o+k1.length) k2 (q.drop k1.length) b2 hk2 ha.2 (by simpa[fQ]using e2);have one:∃a,(part f.type xs o).run P w=.ok a w∧(Instr.checkKey em 9999 f.type a).run P w=.ok () w:=by
   have h0:=ha.1;split at h0
   ·rename_i k hu;have hk1':k1=[some k]:=by simp[mc,hu]at hk1;exact hk1.symm
    subst hk1';obtain⟨a,hpa,hra⟩:=Bn (P:=P) (w:=w) (ag:=false) (n:=1) (o:=o) (by simp[uw,hu]) hsz (fun _=>rfl) hx h1x (by simp only[aD,bh]at l1 ⊢;omega);simp only[uW,ar,if_false]at hra;obtain⟨a0,x0,c0,y0,b0,e3,_,_,_⟩:=tn e1;simp only[aD,bh,cG]at e3;rw[e3]at hra;cases hra with
    |cons _ _ _ _ g1 g2 =>
     obtain rfl:=g1.eN;exact⟨_,hpa,MapKept.run_checkKey (d:=.int k) hu (by simp[MapKept.IsKey]) em 9998⟩
   ·rename_i hu;have hk1':k1=[none]:=by simp[mc,hu]at hk1;exact hk1.symm
    subst hk1';obtain⟨a,hpa,hra⟩:=Bn (P:=P) (w:=w) (ag:=false) (n:=1) (o:=o) (by simp[uw,hu]) hsz (fun _=>rfl) hx h1x (by simp only[aD,bh]at l1 ⊢;omega);simp only[uW,ar,if_false]at hra;obtain⟨a0,x0,c0,y0,b0,e3,_,_,_⟩:=wF e1;simp only[aD,bh,cG]at e3;rw[e3]at hra;cases hra with
    |cons _ _ _ _ g1 g2 =>
     obtain rfl:=g1.oT;exact⟨_,hpa,MapKept.run_checkKey (d:=.bool) hu (by simp[MapKept.IsKey]) em 9998⟩
   ·cases h0
  obtain⟨a,h1,h2⟩:=one;rw[List.forIn_cons];rw[hoff];simp only[hname,ne_eq,not_false_eq_true,if_true,Sem.run_bind,h1,h2,Result.andThen_ok,Sem.run_pure];exact ih
theorem C9{t:TypeId}{ky:Ky}(hk:Gr P t=some ky){k:D}{x:Value}(hx:bC g k x)(hself:(sG ky k k).isSome=true)(em:Bool):(Instr.checkKey em 10000 t x).run P w=.ok () w:=by
 rcases Gs hk with⟨hu,rfl⟩ | ⟨kk,hu,rfl⟩ | ⟨fs,ks,hu,hks,rfl,hall⟩
 ·refine MapKept.run_checkKey (d:=.string) hu ?_ em 9999;obtain⟨c,hc⟩:=db.1 hself;simp only[sG]at hc;split at hc
  case h_2=>cases hc
  obtain⟨b1,rfl,h1⟩:=hx.lY;simp[MapKept.IsKey]
 ·refine MapKept.run_checkKey (d:=.int kk) hu ?_ em 9999;obtain⟨c,hc⟩:=db.1 hself;simp only[sG]at hc;split at hc
  case h_2=>cases hc
  rename_i p q hp hq2;have hx1:=uU hx hp;simp only[uW,ar,if_false]at hx1;obtain⟨a,xs,b,ys,b0,rfl,_,h0,rfl⟩:=tn hc;obtain⟨rfl,_,rfl⟩:=uI h0;cases hx1 with
  |cons _ _ _ _ g1 _ =>
   obtain rfl:=g1.eN;simp[MapKept.IsKey]
 ·obtain⟨c,hc⟩:=db.1 hself;simp only[sG]at hc;split at hc
  case h_2=>cases hc
  rename_i p q hp hq2;have hx1:=uU hx hp;simp only[uW,if_true]at hx1;obtain⟨xs,rfl,hxr,h1x⟩:=hx1;have hks':mc.kindsF P (mc P 19) 0 fs.toList=some ks:=by
   have:=hks;rw[mc,hu]at this;dsimp only at this;split at this
   ·cases this
   ·exact this
  have hrun:=zQ (P:=P) (w:=w) em hxr h1x fs.toList 0 ks q c hks' hall (by simpa using hc);rw[show(10000:Nat)=9999+1 from rfl,Instr.checkKey];simp only[Sem.run_bind,run_underlying hu,Result.andThen_ok];rw[← Array.forIn_toList];simp at hrun ⊢;rw[hrun];rfl
end
section
variable {P:Program} {CR:gb} {base fb:Nat} {V:List Nat} {g:G} {σ σ':SK} {w:World} {B:Nat→Nat} {e:Env} {tmps:Array Value} {df:List Deferred} {d:D}
theorem Inv.aaJ(hi:Inv CR base g σ w){l i:Nat}(hn:gH σ (.cells 0 [])=some (l,i,σ')):
  Inv CR base (g.cz l i (.mp w.heap.size)) σ' (w.alloc (.map #[] 0))∧Ev g w (g.cz l i (.mp w.heap.size)) (w.alloc (.map #[] 0)):=by
 obtain⟨h1,h2,h3,_,_⟩:=jG hn;have hnone:=hi.Bl h1;have hle:g.le (g.cz l i (.mp w.heap.size)):=G.kZ fun L0 e=>by rw[hnone]at e;cases e
 refine⟨hi.DH l i hle h3 (fun l' i' c=>G.bx c) (fun l' i' L b c e eb=>alloc_old (hi.lo l' i' L b e eb).2) ?_ ?_ ?_ ?_ (by simp) ⟨_,G.aC⟩ (fun b v hb=>alloc_old (hi.jf hb)),⟨hle,rfl,rfl,rfl,by simp,fun b hb _=>alloc_old hb,?_,fun b o v hv => .inl hv⟩⟩
 ·intro L e;rw[G.aC]at e;cases e;exact⟨_,h2,rfl,#[],0,sN,.nil,by simp[MR]⟩
 ·intro b o v e;obtain⟨h1,h2⟩:=hi.pT b o v e;exact⟨(ix (alloc_old (hi.jf e))).trans h1,h2⟩
 ·intro l' i' L b e eb o;by_cases c:l'=l∧i'=i
  ·obtain⟨rfl,rfl⟩:=c;rw[G.aC]at e;cases e;cases eb;cases e':(g.cz l' i' (.mp w.heap.size)).pT w.heap.size o with
   |none=>rfl
   |some v=>have:=hi.jf (b:=w.heap.size) (o:=o) (v:=v) e';omega
  ·rw[G.bx c]at e;exact hi.sep l' i' L b e eb o
 ·intro L b e eb;rw[G.aC]at e;cases e;cases eb;refine⟨hi.ge,by simp,fun l' i' L' c e' eb'=>?_⟩;have:=(hi.lo l' i' L' _ e' eb').2;omega
 ·intro b hb;obtain⟨l',i',L,e,eb⟩:=hb;by_cases c:l'=l∧i'=i
  ·obtain⟨rfl,rfl⟩:=c;rw[G.aC]at e;cases e;cases eb;exact .inr (aF _)
  ·rw[G.bx c]at e;exact .inl ⟨l',i',L,e,eb⟩
theorem Inv.anH(hi:Inv CR base g σ w){l i T ee:Nat}(hn:gH σ (.cells 2 [.int .i64 (T:Nat),.int .i64 (ee:Nat),.str []])=some (l,i,σ')):
  Inv CR base (g.cz l i (.ob w.heap.size none)) σ' (w.alloc (.cells #[.pointer none,.slice none 0 0] T))∧Ev g w (g.cz l i (.ob w.heap.size none)) (w.alloc (.cells #[.pointer none,.slice none 0 0] T)):=by
 obtain⟨h1,h2,h3,_,_⟩:=jG hn;have hnone:=hi.Bl h1;have hle:g.le (g.cz l i (.ob w.heap.size none)):=G.kZ fun L0 e=>by rw[hnone]at e;cases e
 have hown:∀b,(Loc.ob w.heap.size none).owns b→w.heap.size=b:=fun b h=>by
  rcases h with h | h
  ·exact h
  ·cases h
 refine⟨hi.DH l i hle h3 (fun l' i' c=>G.bx c) (fun l' i' L b c e eb=>alloc_old (hi.lo l' i' L b e eb).2) ?_ ?_ ?_ ?_ (by simp) ⟨_,G.aC⟩ (fun b v hb=>alloc_old (hi.jf hb)),⟨hle,rfl,rfl,rfl,by simp,fun b hb _=>alloc_old hb,?_,fun b o v hv => .inl hv⟩⟩
 ·intro L e;rw[G.aC]at e;cases e;exact⟨_,h2,rfl,T,ee,[],.pointer none,.slice none 0 0,rfl,sN,.inl rfl,World.ownsRowF_nil _ _ _ _,rfl,by simp⟩
 ·intro b o v e;obtain⟨h1,h2⟩:=hi.pT b o v e;exact⟨(ix (alloc_old (hi.jf e))).trans h1,h2⟩
 ·intro l' i' L b e eb o;by_cases c:l'=l∧i'=i
  ·obtain⟨rfl,rfl⟩:=c;rw[G.aC]at e;cases e;obtain rfl:=hown b eb;cases e':(g.cz l' i' (.ob w.heap.size none)).pT w.heap.size o with
   |none=>rfl
   |some v=>have:=hi.jf (b:=w.heap.size) (o:=o) (v:=v) e';omega
  ·rw[G.bx c]at e;exact hi.sep l' i' L b e eb o
 ·intro L b e eb;rw[G.aC]at e;cases e;obtain rfl:=hown b eb;refine⟨hi.ge,by simp,fun l' i' L' c e' eb'=>?_⟩;have:=(hi.lo l' i' L' _ e' eb').2;omega
 ·intro b hb;obtain⟨l',i',L,e,eb⟩:=hb;by_cases c:l'=l∧i'=i
  ·obtain⟨rfl,rfl⟩:=c;rw[G.aC]at e;cases e;obtain rfl:=hown b eb;exact .inr (aF _)
  ·rw[G.bx c]at e;exact .inl ⟨l',i',L,e,eb⟩
theorem Inv.aa4(hi:Inv CR base g σ w){l i b:Nat}{b0:aG}{es:List D}(hL:g.loc l i=some (.mp b))(hb:ez σ l i=some b0){dk:Array MapEntry}{clock:Nat}
  (hr:bz g es (dk.toList.map fun e => .tuple #[e.key,e.val])) (hm:MR dk.toList clock) {w':World} (hw:w'={w with heap:=w.heap.setIfInBounds b (.map dk clock) }):
  Inv CR base (g.cz l i (.mp b)) (aT σ l i (.cells 0 es)) w'∧Ev g w (g.cz l i (.mp b)) w':=by
 subst hw;have hlt:=(hi.lo l i _ b hL rfl).2;have hle:g.le (g.cz l i (.mp b)):=G.kZ fun L0 e=>by rw[hL]at e;cases e;exact Loc.le_refl _
 refine hi.setCells hL hb (Loc.le_refl _) ⟨rfl,dk,clock,by simp[hlt],hr.mono hle,hm⟩ (fun b' hb' hne=>?_) rfl rfl rfl (by simp) (fun b' hb' => .inl hb');have:b≠b':=fun hh=>hne (by rw[hh];rfl)
 simp[this]
theorem yJ(hi:Inv CR base g σ w){m:D}{c:Value}(hr:bC g m c){l i:Nat}{es:List D}(h:Ae σ m=some (l,i,es)):
  ∃b dk clock v,c=.map (some b)∧g.loc l i=some (.mp b)∧ez σ l i=some (.cells v es)∧w.heap[b]?=some (.map dk clock)∧bz g es (dk.toList.map fun e => .tuple #[e.key,e.val])∧MR dk.toList clock:=by
 obtain⟨rfl,hcs⟩:=KD h;unfold cells? at hcs;split at hcs
 case h_2=>cases hcs
 rename_i v' cs' hblk;split at hcs
 case isFalse=>cases hcs
 cases hcs;cases hr with
 |mf _ _ b hl =>
  obtain⟨b0,hb0,hrel⟩:=hi.xc l i _ hl;rw[hblk]at hb0;cases hb0;exact hrel.elim
 |Pv _ _ b hl =>
  obtain⟨b0,hb0,hrel⟩:=hi.xc l i _ hl;rw[hblk]at hb0;cases hb0;obtain⟨_,dk,clock,h1,h2,h3⟩:=hrel;exact⟨b,dk,clock,v',rfl,hl,hblk,h1,h2,h3⟩
 |itv _ _ b L hl hc =>
  obtain⟨b0,hb0,hrel⟩:=hi.xc l i _ hl;rw[hblk]at hb0;cases hb0;rcases hc with rfl | rfl
  ·rename_i hv0;obtain⟨hv1,_⟩:=hrel;omega
  ·exact hrel.elim
 |PU _ _ b L hl hc =>
  obtain⟨b0,hb0,hrel⟩:=hi.xc l i _ hl;rw[hblk]at hb0;cases hb0;rcases hc with⟨c,rfl⟩ | rfl
  ·rename_i hv0;obtain⟨hv1,_⟩:=hrel;omega
  ·exact hrel.elim
theorem atu(hi:Inv CR base g σ w){t:TypeId}{ρ:Operand→Value}(h:bF e σ (.mp .make [])=some (d,σ'))(o:Oper)(ho:o.op=.makeMap t none):fu P CR base g w B e ρ o d σ':=by
 simp only[bF,bS,Af,ab,aj,Prod.exists]at h;obtain⟨l,i,σ1,hn,rfl,rfl⟩:=h;obtain⟨i1,e1⟩:=hi.aaJ hn;exact .val (.map (some w.heap.size)) (by
  have hrun:(Instr.makeMap t none).run P w=.ok (.map (some w.heap.size)) (w.alloc (.map #[] 0)):=rfl;simp only[execOp,ho,Option.map_none,Sem.run_bind,hrun,Result.andThen_ok,Sem.run_pure]) e1 i1 (.Pv l i _ G.aC)
theorem atr(hi:Inv CR base g σ w){el ee:TypeId}{ρ:Operand→Value}(hz:rE P el=some [.wO,.aI])
  (h:bF e σ (.mp (.lf el ee) [])=some (d,σ')) (o:Oper) (ho:o.op=.alloc el):fu P CR base g w B e ρ o d σ':=by
 obtain⟨i0,v,hinfo,hzero,hrz,h1⟩:=sZ g hz;simp only[bF,bS,Af,ab,aj,Prod.exists]at h;obtain⟨l,i,σ1,hn,rfl,rfl⟩:=h;obtain⟨i1,e1⟩:=hi.anH hn;have hv:v.cells = #[.pointer none,.slice none 0 0]:=by
  generalize v.cells=a at hrz;obtain⟨a⟩:=a;dsimp only at hrz;cases hrz with
  |cons _ c _ cs k1 k2 =>
   cases k2 with
   |cons _ c2 _ cs2 k3 k4 =>
    cases k4;cases k1;cases k3;rfl
 have hrun:=El (w:=w) hinfo hzero;rw[hv]at hrun;exact .val (.pointer (some ⟨w.heap.size,0,none⟩)) (by simp[execOp,ho,hrun]) e1 i1 (.PU l i _ _ G.aC (.inl ⟨_,rfl⟩))
theorem aow(hi:Inv CR base g σ w){t kt et:TypeId}{ik:IntKind}{n:Int}(h:bF e σ (.mp .make [])=some (d,σ'))(ht:P.underlying t=some (.map kt et))(o:Oper)(ho:o.op=.makeMap t (some (.const (.int ik n)))):fu P CR base g w B e (Act.mk tmps df).eval o d σ':=by
 simp only[bF,bS,Af,ab,aj,Prod.exists]at h;obtain⟨l,i,σ1,hn,rfl,rfl⟩:=h;obtain⟨i1,e1⟩:=hi.aaJ hn;exact .val (.map (some w.heap.size)) (by
  have hrun:(Instr.makeMap t (some (.int ik n))).run P w=.ok (.map (some w.heap.size)) (w.alloc (.map #[] 0)):=by
   simp only[Instr.makeMap,Sem.run_bind,bd ht,Result.andThen_ok];rfl
  have hev:(Act.mk tmps df).eval (.const (.int ik n))=.int ik n:=rfl;simp only[execOp,ho,aS,hev,Sem.run_bind,hrun,Result.andThen_ok,Sem.run_pure]) e1 i1 (.Pv l i _ G.aC)
theorem aox(hf:Fr fb V g w B e tmps)(hi:Inv CR base g σ w){x:Operand}{X:bE}{t kt et:TypeId}{args:Array Operand}{ts:Array TypeId}{r:List Operand}{tr:List TypeId}(hx:bA x=some X)
  (ht:P.underlying t=some (.map kt et)) (ha:args.toList=x::r) (hts:ts.toList=t::tr)
  (h:bF e σ (.mp .len [X])=some (d,σ')) (o:Oper) (ho:o.op=.call {callee:=.builtin .len,args,argTypes:=ts }):fu P CR base g w B e (Act.mk tmps df).eval o d σ':=by
 have hr:=hf.aZ (df:=df) hx;obtain rfl:args=(x::r).toArray:=by rw[← ha]
 obtain rfl:ts=(t::tr).toArray:=by rw[← hts]
 simp only[bF,aM,bS,Af,ab,aj,Prod.exists]at h;obtain⟨l,i,es,hm,rfl,rfl⟩:=h;obtain⟨b,dk,clock,v,hc,hl,hblk,hheap,hrel,hok⟩:=yJ hi hr hm;have hlen:=hrel.length;simp only[j3,Array.length_toList]at hlen;refine .pure hi (c:=.int .i64 dk.size) ?_ (by rw[hlen];exact cn.of (.int _ _));simp[execOp,ho,resolve,invoke,builtin,Builtin.len_,hc,bd ht,goInt,MapKept.run_getObj_map hheap]
theorem Js{t:TypeId}{z:D}(g:G)(h:zvC P t=some z):∃i v,P.info? t=some i∧i.zero=some v∧bC g z v:=by
 unfold zvC at h;split at h
 ·rename_i i hi;split at h
  ·rename_i v hv;exact⟨i,v,hi,hv,F8 g h⟩
  ·cases h
 ·cases h
theorem aov(hf:Fr fb V g w B e tmps)(hi:Inv CR base g σ w){x y:Operand}{X Y:bE}{t kt et:TypeId}{ky:Ky}{z:D}{ok:Bool}(hx:bA x=some X)(hy:bA y=some Y)
  (ht:P.underlying t=some (.map kt et)) (hk:Gr P kt=some ky) (hz:zvC P et=some z)
  (h:bF e σ (.mp (.get ky z ok) [X,Y])=some (d,σ')) (o:Oper) (ho:o.op=.lookup t x y ok):fu P CR base g w B e (Act.mk tmps df).eval o d σ':=by
 have hr:=hf.aZ (df:=df) hx;have hr':=hf.aZ (df:=df) hy;simp only[bF,aM,bS,Af]at h;split at h
 case h_2=>cases h
 rename_i l i es hm;split at h
 case isFalse=>cases h
 rename_i hself;obtain⟨b,dk,clock,v,hc,hl,hblk,hheap,hrel,hok⟩:=yJ hi hr hm;have hck:=C9 (w:=w) hk hr' hself dk.isEmpty;obtain⟨iz,zv,hz1,hz2,hz3⟩:=Js g hz;split at h
 ·rename_i j v1 hfk;cases h;obtain⟨o1,ho1,e1,_,rfl,hv1⟩:=xB (w:=w) hk hr' hrel hfk hself;cases ok
  ·refine .pure hi (c:=e1.val) ?_ (cn.of (by simpa using hv1));simp[execOp,ho,Instr.lookup,bd ht,hc,MapKept.run_getObj_map hheap,hck,ho1]
  ·refine .pure hi (c:=.tuple #[e1.val,.bool true]) ?_ (cn.of (by simpa using bC.dQ _ #[e1.val,.bool true] (.cons _ _ _ _ hv1 (.cons _ _ _ _ (.bool true) .nil))));simp[execOp,ho,Instr.lookup,bd ht,hc,MapKept.run_getObj_map hheap,hck,ho1]
 ·rename_i hfk;cases h;obtain⟨o1,ho1,hf1⟩:=xB (w:=w) hk hr' hrel hfk hself;obtain rfl:o1=none:=hf1;cases ok
  ·refine .pure hi (c:=zv) ?_ (cn.of (by simpa using hz3));simp[execOp,ho,Instr.lookup,bd ht,hc,MapKept.run_getObj_map hheap,hck,ho1,gI hz1 hz2]
  ·refine .pure hi (c:=.tuple #[zv,.bool false]) ?_ (cn.of (by simpa using bC.dQ _ #[zv,.bool false] (.cons _ _ _ _ hz3 (.cons _ _ _ _ (.bool false) .nil))));simp[execOp,ho,Instr.lookup,bd ht,hc,MapKept.run_getObj_map hheap,hck,ho1,gI hz1 hz2]
 ·cases h
theorem bz.set{g:G}:∀{ds:List D} {cs:List Value} {j:Nat} {d:D} {c:Value},bz g ds cs→bC g d c→bz g (ds.set j d) (cs.set j c)
 |[],[],_,_,_,_,_=>by simpa using bz.nil
 |_::_,_::_,0,_,_,.cons _ _ _ _ h1 h2,h => .cons _ _ _ _ h h2
 |_::_,_::_,j+1,_,_,.cons _ _ _ _ h1 h2,h => .cons _ _ _ _ h1 (h2.set h)
theorem aa2(hf:Fr fb V g w B e tmps)(hi:Inv CR base g σ w){x y u:Operand}{X Y U:bE}{t kt et:TypeId}{ky:Ky}(hx:bA x=some X)(hy:bA y=some Y)(hu:bA u=some U)
  (ht:P.underlying t=some (.map kt et)) (hk:Gr P kt=some ky)
  (h:bF e σ (.mp (.put ky) [X,Y,U])=some (d,σ')) (o:Oper) (ho:o.op=.mapUpdate t x y u∨o.op=.insert t x y u):fu P CR base g w B e (Act.mk tmps df).eval o d σ':=by
 have hr:=hf.aZ (df:=df) hx;have hr':=hf.aZ (df:=df) hy;have hru:=hf.aZ (df:=df) hu;simp only[bF,aM,bS,Af]at h;split at h
 case h_2=>cases h
 rename_i l i es hm;split at h
 case isFalse=>cases h
 rename_i hself;obtain⟨b,dk,clock,v,hc,hl,hblk,hheap,hrel,hok⟩:=yJ hi hr hm;have hck:=C9 (w:=w) hk hr' hself.1 false;generalize hkv:(Act.mk tmps df).eval y=kv at *
 generalize huv:(Act.mk tmps df).eval u=uv at *
 have hnew:bC g (.dQ [aZ e Y,aZ e U]) (.tuple #[kv,uv]):=.dQ _ _ (.cons _ _ _ _ hr' (.cons _ _ _ _ hru .nil));split at h
 ·rename_i j v1 hfk;cases h;obtain⟨o1,ho1,e1,he1,rfl,hv1⟩:=xB (w:=w) hk hr' hrel hfk hself.1;obtain⟨k',hk',hkq⟩:=HJ hfk;have hj:dk[j]?=some e1:=by simpa using he1
  have hold:bC g k' e1.key:=by
   obtain⟨c0,hc0,hr0⟩:=hrel.get hk';rw[pv,he1]at hc0;cases hc0;exact(Jq hr0).1
  obtain⟨hsame,hbits⟩:=aan hkq hr' hold;have hlist:(dk.modify j fun e=>{e with key:=kv,val:=uv }).toList=dk.toList.set j {e1 with key:=kv,val:=uv }:=by
   rw[Array.toList_modify];apply eu;intro n;rw[List.getElem?_modify,List.getElem?_set];by_cases hn:j=n
   ·subst hn;have hlt:=(aw.1 he1).1;have hlt2:j<dk.size:=by simpa using hlt
    have hje:dk[j]=e1:=(eO.1 hj).2;simp[he1,hlt2,hje]
   ·simp[hn]
  obtain⟨i1,ev1⟩:=hi.aa4 (es:=es.set j (.dQ [aZ e Y,aZ e U])) (dk:=dk.modify j fun e=>{e with key:=kv,val:=uv }) (clock:=clock) (w':={w with heap:=w.heap.setIfInBounds b (.map (dk.modify j fun e=>{e with key:=kv,val:=uv }) clock) }) hl hblk (by
    rw[hlist,List.map_set];exact hrel.set hnew) (by
    have hlt:=(aw.1 he1);rw[hlist];refine⟨?_,by rw[List.length_set];exact hok.2⟩;rw[List.map_set,List.length_set];have:(dk.toList.map (·.born)).set j e1.born=dk.toList.map (·.born):=by
     apply eu;intro n;rw[List.getElem?_set];by_cases hn:j=n
     ·subst hn;have hlt2:j<dk.size:=by simpa using hlt.1
      have hje:dk[j]=e1:=(eO.1 hj).2;simp[he1,hlt2,hje]
     ·simp[hn]
    rw[this];exact hok.1) rfl
  refine⟨.skip,Go.undef,_,_,?_,rfl,ev1,i1,.undef _⟩;have hkts:∀w:World,(Instr.keyThatStays e1.key kv).run P w=.ok kv w:=fun w=>by simp[Instr.keyThatStays,hbits]
  rcases ho with ho | ho<;>simp[execOp,ho,Instr.mapUpdate,bd ht,hc,hkv,huv,MapKept.run_getObj_map hheap,hck,ho1,hj,hkts,MapKept.run_setObj_map _ hheap]
 ·rename_i hfk;cases h;obtain⟨o1,ho1,hf1⟩:=xB (w:=w) hk hr' hrel hfk hself.1;obtain rfl:o1=none:=hf1;obtain⟨i1,ev1⟩:=hi.aa4 (es:=es++[.dQ [aZ e Y,aZ e U]]) (dk:=dk.push {key:=kv,val:=uv,born:=clock }) (clock:=clock+1) (w':={w with heap:=w.heap.setIfInBounds b (.map (dk.push {key:=kv,val:=uv,born:=clock }) (clock+1)) }) hl hblk (by
    rw[Array.toList_push,List.map_append];exact hrel.append (.cons _ _ _ _ hnew .nil)) (by
    rw[Array.toList_push];have h2:=hok.2;refine⟨?_,by simp only[bI,aD,bh];omega⟩;rw[List.map_append,hok.1,bI,aD,bh,cG,List.range_succ];simp only[aM,bS,h2]) rfl
  refine⟨.skip,Go.undef,_,_,?_,rfl,ev1,i1,.undef _⟩;rcases ho with ho | ho<;>simp[execOp,ho,Instr.mapUpdate,bd ht,hc,hkv,huv,MapKept.run_getObj_map hheap,hck,ho1,MapKept.run_setObj_map _ hheap]
 ·cases h
theorem Inv.acI(hi:Inv CR base g σ w){l i lm im bm n:Nat}(hn:gH σ (.cells 1 [.mf lm im,.int .i64 (n:Nat)])=some (l,i,σ'))(hm:g.loc lm im=some (.mp bm)):
  Inv CR base (g.cz l i (.it w.heap.size)) σ' (w.alloc (.mapIter (some bm) n #[] n))∧Ev g w (g.cz l i (.it w.heap.size)) (w.alloc (.mapIter (some bm) n #[] n)):=by
 obtain⟨h1,h2,h3,_,_⟩:=jG hn;have hnone:=hi.Bl h1;have hle:g.le (g.cz l i (.it w.heap.size)):=G.kZ fun L0 e=>by rw[hnone]at e;cases e
 refine⟨hi.DH l i hle h3 (fun l' i' c=>G.bx c) (fun l' i' L b c e eb=>alloc_old (hi.lo l' i' L b e eb).2) ?_ ?_ ?_ ?_ (by simp) ⟨_,G.aC⟩ (fun b v hb=>alloc_old (hi.jf hb)),⟨hle,rfl,rfl,rfl,by simp,fun b hb _=>alloc_old hb,?_,fun b o v hv => .inl hv⟩⟩
 ·intro L e;rw[G.aC]at e;cases e;have hm2:(g.cz l i (.it w.heap.size)).loc lm im=some (.mp bm):=by
   rw[G.bx fun hh=>by rw[hh.1,hh.2,hnone]at hm;cases hm];exact hm
  exact⟨_,h2,rfl,lm,im,bm,n,[],rfl,hm2,sN,List.nodup_nil,by simp⟩
 ·intro b o v e;obtain⟨h1,h2⟩:=hi.pT b o v e;exact⟨(ix (alloc_old (hi.jf e))).trans h1,h2⟩
 ·intro l' i' L b e eb o;by_cases c:l'=l∧i'=i
  ·obtain⟨rfl,rfl⟩:=c;rw[G.aC]at e;cases e;cases eb;cases e':(g.cz l' i' (.it w.heap.size)).pT w.heap.size o with
   |none=>rfl
   |some v=>have:=hi.jf (b:=w.heap.size) (o:=o) (v:=v) e';omega
  ·rw[G.bx c]at e;exact hi.sep l' i' L b e eb o
 ·intro L b e eb;rw[G.aC]at e;cases e;cases eb;refine⟨hi.ge,by simp,fun l' i' L' c e' eb'=>?_⟩;have:=(hi.lo l' i' L' _ e' eb').2;omega
 ·intro b hb;obtain⟨l',i',L,e,eb⟩:=hb;by_cases c:l'=l∧i'=i
  ·obtain⟨rfl,rfl⟩:=c;rw[G.aC]at e;cases e;cases eb;exact .inr (aF _)
  ·rw[G.bx c]at e;exact .inl ⟨l',i',L,e,eb⟩
theorem atx(hf:Fr fb V g w B e tmps)(hi:Inv CR base g σ w){x:Operand}{X:bE}{t kt et:TypeId}(hx:bA x=some X)(ht:P.underlying t=some (.map kt et))
  (h:bF e σ (.mp .rng [X])=some (d,σ')) (o:Oper) (ho:o.op=.range t x):fu P CR base g w B e (Act.mk tmps df).eval o d σ':=by
 have hr:=hf.aZ (df:=df) hx;simp only[bF,aM,bS,Af]at h;split at h
 case h_2=>cases h
 rename_i lm im es hm;obtain⟨b,dk,clock,v,hc,hl,hblk,hheap,hrel,hok⟩:=yJ hi hr hm;simp only[ab,aj,Prod.exists]at h;obtain⟨l,i,σ1,hn,rfl,rfl⟩:=h;have hlen:=hrel.length;simp only[j3]at hlen;have hck:clock=es.length:=by rw[hlen];exact hok.2
 obtain⟨i1,e1⟩:=hi.acI hn hl;have hrun:=run_range_map (P:=P) w t kt et b dk clock ht hheap;rw[hck]at hrun;exact .val (.pointer (some ⟨w.heap.size,0,none⟩)) (by simp[execOp,ho,hc,hrun]) e1 i1 (.itv l i _ _ G.aC (.inl rfl))
theorem atj(hf:Fr fb V g w B e tmps)(hi:Inv CR base g σ w){x:Operand}{X:bE}(hx:bA x=some X)
  (h:bF e σ (.mp .ent [X])=some (d,σ')) (o:Oper) (ho:o.op=.entry x):fu P CR base g w B e (Act.mk tmps df).eval o d σ':=by
 have hr:=hf.aZ (df:=df) hx;simp only[bF,aM,bS]at h;generalize aZ e X=dx at hr h;cases dx<;>simp only[Af,reduceCtorEq]at h;rename_i l i;split at h
 case h_2=>cases h
 rename_i m n j rest hcs;split at h
 case h_2=>cases h
 rename_i lm im es hm;split at h
 case isFalse=>cases h
 rename_i hlen;split at h
 case h_2=>cases h
 rename_i k v hj;cases h;unfold cells? at hcs;split at hcs
 case h_2=>cases hcs
 rename_i v' cs' hblk;split at hcs
 case isFalse=>cases hcs
 rename_i hv1;cases hcs;generalize hcv:(Act.mk tmps df).eval x=cv at hr;cases hr with
 |mf _ _ b hl =>
  obtain⟨b0,hb0,hrel⟩:=hi.xc l i _ hl;rw[hblk]at hb0;cases hb0;exact hrel.elim
 |Pv _ _ b hl =>
  obtain⟨b0,hb0,hrel⟩:=hi.xc l i _ hl;rw[hblk]at hb0;cases hb0;have:=hrel.1;omega
 |PU _ _ b L hl hc =>
  obtain⟨b0,hb0,hrel⟩:=hi.xc l i _ hl;rw[hblk]at hb0;cases hb0;rcases hc with⟨c,rfl⟩ | rfl
  ·have:=hrel.1;omega
  ·exact hrel.elim
 |itv _ _ b L hl hc =>
  obtain⟨b0,hb0,hrel⟩:=hi.xc l i _ hl;rw[hblk]at hb0;cases hb0;rcases hc with rfl | rfl
  rotate_left
  ·exact hrel.elim
  obtain⟨_,lm',im',bm,n',js,hcs,hlm,hheap,hnd,hlt⟩:=hrel;cases js with
  |nil=>simp at hcs
  |cons j' js =>
   simp only[aM,j2,D.int.injEq,true_and]at hcs;obtain⟨rfl,rfl,rfl,_⟩:=hcs;obtain⟨b2,dk,clock,v2,hc2,hl2,hblk2,hheap2,hrel2,hok⟩:=yJ hi (.Pv lm' im' bm hlm) hm;cases hc2;have hlen2:=hrel2.length;simp only[j3]at hlen2;obtain⟨c0,hc0,hr0⟩:=hrel2.get hj;rw[pv]at hc0;simp only[Int.toNat_natCast]at hc0;obtain⟨e1,he1,rfl⟩:=ab.1 hc0;have hborn:e1.born=j':=by
    have h1:=congrArg (fun l=>l[j']?) hok.1;simp only[pv,he1,aS]at h1;have h2:=(aw.1 he1).1;rw[List.getElem?_range h2]at h1;exact Option.some.inj h1
   have hck:clock=n':=by have:=hok.2;omega
   have hnd2:(dk.toList.map (·.born)).Nodup:=by rw[hok.1];exact List.nodup_range
   have hit:w.heap[b]?=some (.mapIter (some bm) n' (js.reverse.toArray.push e1.born) clock):=by
    rw[hheap,hborn,hck];simp
   have hrun:=run_entry_at (P:=P) w b bm n' js.reverse.toArray dk clock e1 hit hheap2 (ai he1) hnd2;refine .pure hi (c:=.tuple #[e1.key,e1.val]) ?_ (cn.of hr0);simp[execOp,ho,hcv,hrun]
end
variable {P:Program} {CR:gb} {base fb:Nat} {V:List Nat} {g:G} {σ σ':SK} {w:World} {B:Nat→Nat} {e:Env} {tmps:Array Value} {df:List Deferred} {d:D}
theorem att(hf:Fr fb V g w B e tmps)(hi:Inv CR base g σ w){x:Operand}{X:bE}{t:TypeId}(hx:bA x=some X)(hc:P.concrete t=true)
  (h:bF e σ (.mki t X)=some (d,σ')) (o:Oper) (ho:o.op=.makeInterface t x):fu P CR base g w B e (Act.mk tmps df).eval o d σ':=by
 have hr:=hf.aZ (df:=df) hx;simp only[bF,ad,aj]at h;obtain⟨rfl,rfl⟩:=h;exact .pure hi (c:=.iface t ((Act.mk tmps df).eval x)) (by simp[execOp,ho,run_makeInterface w t _ hc]) (cn.of (.tQ t _ _ hr))
theorem ajM(hf:Fr fb V g w B e tmps)(hi:Inv CR base g σ w){x:Operand}{X:bE}{t xt:TypeId}{dsc:TypeDesc}{ok:Bool}{z:Option D}(hx:bA x=some X)(ht:P.underlying t=some dsc)(hn:∀ms,dsc ≠ .interface ms)
  (hz:if ok then ∃z0,z=some z0∧zvC P t=some z0 else z=none)
  (h:bF e σ (.tas t z X)=some (d,σ')) (o:Oper) (ho:o.op=.typeAssert x xt t ok):fu P CR base g w B e (Act.mk tmps df).eval o d σ':=by
 have hr:=hf.aZ (df:=df) hx;simp only[bF,ab,aj]at h;obtain⟨d0,h,rfl,rfl⟩:=h;generalize hcx:(Act.mk tmps df).eval x=cx at hr;generalize aZ e X=dx at hr h;cases hr with
 |tQ t' d1 c h1 =>
  simp only[Mw]at h;cases ok with
  |true =>
   simp only[if_true]at hz;obtain⟨z0,rfl,hz⟩:=hz;obtain⟨iz,zv,hz1,hz2,hz3⟩:=Js g hz;simp only[ad]at h;by_cases htt:t'=t
   ·rw[if_pos htt]at h;subst h;refine .pure hi (c:=.tuple #[c,.bool true]) ?_ (cn.of (.dQ _ #[c,.bool true] (.cons _ _ _ _ h1 (.cons _ _ _ _ (.bool true) .nil))));simp only[execOp,ho,hcx,Instr.typeAssert,Sem.run_bind,run_underlying ht,Result.andThen_ok];cases dsc<;>first | exact absurd rfl (hn _) | simp[htt]
   ·rw[if_neg htt]at h;subst h;refine .pure hi (c:=.tuple #[zv,.bool false]) ?_ (cn.of (.dQ _ #[zv,.bool false] (.cons _ _ _ _ hz3 (.cons _ _ _ _ (.bool false) .nil))));simp only[execOp,ho,hcx,Instr.typeAssert,Sem.run_bind,run_underlying ht,Result.andThen_ok];cases dsc<;>first | exact absurd rfl (hn _) | simp[htt,gI hz1 hz2]
  |false =>
   simp only[ar,if_false]at hz;subst hz;simp only at h;split at h
   case isFalse=>cases h
   rename_i htt;cases h;refine .pure hi (c:=c) ?_ (cn.of h1);simp only[execOp,ho,hcx,Instr.typeAssert,Sem.run_bind,run_underlying ht,Result.andThen_ok];cases dsc<;>first | exact absurd rfl (hn _) | simp[htt]
 |o9 =>
  simp only[Mw,ab]at h;obtain⟨z1,rfl,rfl⟩:=h;cases ok with
  |true =>
   simp only[if_true]at hz;obtain⟨z0,hz0,hz⟩:=hz;cases hz0;obtain⟨iz,zv,hz1,hz2,hz3⟩:=Js g hz;refine .pure hi (c:=.tuple #[zv,.bool false]) ?_ (cn.of (.dQ _ #[zv,.bool false] (.cons _ _ _ _ hz3 (.cons _ _ _ _ (.bool false) .nil))));simp only[execOp,ho,hcx,Instr.typeAssert,Sem.run_bind,run_underlying ht,Result.andThen_ok];cases dsc<;>first | exact absurd rfl (hn _) | simp[gI hz1 hz2]
  |false=>simp at hz
 |_=>simp[Mw]at h
theorem Em{t:TypeId}{ms:Array (String×TypeId)}(n:Nat)(ht:P.underlying t=some (.interface ms))(w:World):(Op.equalIn (n+1) t .nilIface .nilIface).run P w=.ok true w:=by
 rw[Op.equalIn];simp[run_underlying ht]
theorem Fa{t t':TypeId}{c:Value}{ms:Array (String×TypeId)}(n:Nat)(ht:P.underlying t=some (.interface ms))(w:World):(Op.equalIn (n+1) t (.iface t' c) .nilIface).run P w=.ok false w:=by
 rw[Op.equalIn];simp[run_underlying ht]
theorem GI{t:TypeId}{ms:Array (String×TypeId)}(ht:P.underlying t=some (.interface ms))(w:World):(Op.equal t .nilIface .nilIface).run P w=.ok true w:=Em 9999 ht w
theorem Hn{t t':TypeId}{c:Value}{ms:Array (String×TypeId)}(ht:P.underlying t=some (.interface ms))(w:World):(Op.equal t (.iface t' c) .nilIface).run P w=.ok false w:=Fa 9999 ht w
theorem ajJ(hf:Fr fb V g w B e tmps)(hi:Inv CR base g σ w){x:Operand}{X:bE}{t u:TypeId}{ms:Array (String×TypeId)}{neg:Bool}(hx:bA x=some X)(ht:P.underlying t=some (.interface ms))
  (h:bF e σ (.isi neg X)=some (d,σ')) (o:Oper) (ho:o.op=.binOp (if neg then .neq else .eql) t x (.const .nilIface) u):fu P CR base g w B e (Act.mk tmps df).eval o d σ':=by
 have hr:=hf.aZ (df:=df) hx;simp only[bF,ab,aj]at h;obtain⟨b,h,rfl,rfl⟩:=h;have hev:(Act.mk tmps df).eval (.const .nilIface)=.nilIface:=rfl;generalize hcx:(Act.mk tmps df).eval x=cx at hr;generalize aZ e X=dx at hr h;cases hr with
 |o9 =>
  cases h;refine .pure hi (c:=.bool (if neg then false else true)) ?_ (cn.of (by cases neg<;>exact .bool _));cases neg<;>simp[execOp,ho,hcx,hev,eqGuard,binOp,GI ht]
 |tQ t' d1 c h1 =>
  cases h;refine .pure hi (c:=.bool (if neg then true else false)) ?_ (cn.of (by cases neg<;>exact .bool _));cases neg<;>simp[execOp,ho,hcx,hev,eqGuard,binOp,Hn ht]
 |_=>cases h
section
variable {P:Program} {CR:gb} {base fb:Nat} {V:List Nat} {g:G} {σ σ':SK} {w:World} {B:Nat→Nat} {e:Env} {tmps:Array Value} {df:List Deferred}
 {a:uc} {ops:Array Oper} {key:Nat} {k:K} {d:D}
theorem LJ(hf:Fr fb V g w B e tmps)(hi:Inv CR base g σ w){x y:Operand}{X Y:bE}{t u:TypeId}{b:BinOp}(hx:bA x=some X)(hy:bA y=some Y)
  (hk:eqC P b t X Y=some k) (h:bF e σ k=some (d,σ')) (o:Oper) (ho:o.op=.binOp b t x y u):fu P CR base g w B e (Act.mk tmps df).eval o d σ':=by
 unfold eqC at hk;split at hk
 case h_2=>cases hk
 rename_i ks hks;split at hk
 ·cases hk
 rename_i hg;have hg':P.eqGuardType P.depth t=false:=by simpa using hg
 split at hk
 ·obtain⟨ag,hag,rfl⟩:=ab.1 hk;exact ajI hf hi hx hy hks hag hg' h o (by simpa using ho)
 ·obtain⟨ag,hag,rfl⟩:=ab.1 hk;exact ajI hf hi hx hy hks hag hg' h o (by simpa using ho)
 ·cases hk
theorem ac2{ag:Bool}{sz:Nat}{X:bE}{r:D×SK}(h:bF e σ (.PW ag sz X)=some r):bF e σ (.ld ag sz X)=some r:=by
 simp only[bF]at h ⊢;cases hx:aZ e X<;>rw[hx]at h<;>try (cases h;done)
 simpa[Ei]using h
theorem ac1{ag:Bool}{sz:Nat}{X:bE}{r:D×SK}(h:bF e σ (.PV ag sz X)=some r):bF e σ (.ld ag sz X)=some r:=by
 simp only[bF]at h ⊢;cases hr:PZ σ (aZ e X)with
 |none=>rw[hr]at h;cases h
 |some cs =>
  rw[hr]at h;have:Ei σ (aZ e X)=some cs:=by
   generalize aZ e X=dx at hr;unfold PZ at hr;split at hr
   ·exact hr
   ·cases hr
  rw[this];exact h
theorem BS{w:World}(d:Nat){t el:TypeId}{a:Option Addr}(h:P.underlying t=some (.pointer el)):(Op.equalIn (d+1) t (.pointer a) (.pointer none)).run P w=.ok a.isNone w:=by
 cases a<;>simp[Op.equalIn,bd h]
theorem run_equalIn_slice_nil{w:World}(d:Nat){t el:TypeId}{a:Option Addr}{n c:Nat}(h:P.underlying t=some (.slice el)):(Op.equalIn (d+1) t (.slice a n c) (.slice none 0 0)).run P w=.ok a.isNone w:=by
 cases a<;>simp[Op.equalIn,bd h]
theorem atm(hi:Inv CR base g σ w){x y:Operand}{X:bE}{t u:TypeId}{b:BinOp}{ps bo:Bool}{cx cy:Value}(e1:(Act.mk tmps df).eval x=cx)(e2:(Act.mk tmps df).eval y=cy)
  (hg:∀b,(eqGuard b t x y cx cy).run P w=.ok () w) (hb:binOp .eql t cx cy=(do pure (.bool (← Op.equal t cx cy)))) (hb':binOp .neq t cx cy=(do pure (.bool (!(← Op.equal t cx cy)))))
  (heq:(Op.equal t cx cy).run P w=.ok bo w) (hn:Hg ps (aZ e X)=some bo)
  (hk:isC ps b X=some k) (h:bF e σ k=some (d,σ')) (o:Oper) (ho:o.op=.binOp b t x y u):fu P CR base g w B e (Act.mk tmps df).eval o d σ':=by
 unfold isC at hk;split at hk
 ·cases hk;simp only[bF,hn,aS,ad,aj]at h;obtain⟨rfl,rfl⟩:=h;refine .pure hi ?_ (cn.of (.bool _));simp[execOp,ho,e1,e2,hg,hb,heq]
 ·cases hk;simp only[bF,hn,aS,ad,aj]at h;obtain⟨rfl,rfl⟩:=h;refine .pure hi ?_ (cn.of (.bool _));simp[execOp,ho,e1,e2,hg,hb',heq]
 ·cases hk
theorem Kq{ps:Bool}{b:BinOp}{X:bE}(hk:isC ps b X=some k)(h:bF e σ k=some (d,σ')):∃bo,Hg ps (aZ e X)=some bo:=by
 unfold isC at hk;split at hk<;>cases hk<;>simp only[bF,ab]at h<;>obtain⟨b,hb,_⟩:=h<;>exact⟨b,hb⟩
theorem atn(hf:Fr fb V g w B e tmps)(hi:Inv CR base g σ w){x y:Operand}{X:bE}{t u el:TypeId}{b:BinOp}(hx:bA x=some X)(hy:bA y=some (.c .wO))(ht:P.underlying t=some (.pointer el))
  (hk:isC true b X=some k) (h:bF e σ k=some (d,σ')) (o:Oper) (ho:o.op=.binOp b t x y u):fu P CR base g w B e (Act.mk tmps df).eval o d σ':=by
 have hr:=hf.aZ (df:=df) hx;have hr':=hf.aZ (df:=df) hy;have e2:(Act.mk tmps df).eval y=.pointer none:=by
  generalize (Act.mk tmps df).eval y=c at hr';cases hr';rfl
 obtain⟨bo,hn⟩:=Kq hk h;have:∃a,(Act.mk tmps df).eval x=.pointer a∧bo=a.isNone:=by
  generalize aZ e X=dx at hr hn;generalize (Act.mk tmps df).eval x=cx at hr;cases hr<;>simp[Hg]at hn
  ·exact⟨none,rfl,by simp[← hn]⟩
  ·exact⟨_,rfl,by simp[← hn]⟩
  ·exact⟨_,rfl,by simp[← hn]⟩
 obtain⟨a,e1,rfl⟩:=this;refine atm hi e1 e2 (fun b=>by simp[eqGuard]) rfl rfl (BS 9999 ht) hn hk h o ho
theorem ato(hf:Fr fb V g w B e tmps)(hi:Inv CR base g σ w){x y:Operand}{X:bE}{t u el:TypeId}{b:BinOp}(hx:bA x=some X)(hy:bA y=some (.c .aI))(ht:P.underlying t=some (.slice el))
  (hk:isC false b X=some k) (h:bF e σ k=some (d,σ')) (o:Oper) (ho:o.op=.binOp b t x y u):fu P CR base g w B e (Act.mk tmps df).eval o d σ':=by
 have hr:=hf.aZ (df:=df) hx;have hr':=hf.aZ (df:=df) hy;have e2:(Act.mk tmps df).eval y=.slice none 0 0:=by
  generalize (Act.mk tmps df).eval y=c at hr';cases hr';rfl
 obtain⟨bo,hn⟩:=Kq hk h;have:∃a n c,(Act.mk tmps df).eval x=.slice a n c∧bo=a.isNone:=by
  generalize aZ e X=dx at hr hn;generalize (Act.mk tmps df).eval x=cx at hr;cases hr<;>simp[Hg]at hn
  ·exact⟨none,_,_,rfl,by simp[← hn]⟩
  ·exact⟨_,_,_,rfl,by simp[← hn.2]⟩
  ·rename_i l i v off n w a cap L h1 h2 h3 h4 h5 h6 h7;refine⟨a,n,cap,rfl,?_⟩;cases a with
   |none=>have:=h4 rfl;omega
   |some a=>simp[← hn.2]
 obtain⟨a,n,c,e1,rfl⟩:=this;refine atm hi e1 e2 (fun b=>by simp[eqGuard]) rfl rfl (run_equalIn_slice_nil 9999 ht) hn hk h o ho
theorem atw(hf:Fr fb V g w B e tmps)(hi:Inv CR base g σ w){x:Operand}{X:bE}(hx:bA x=some X)(h:bF e σ (.ng X)=some (d,σ'))(o:Oper)(ho:o.op=.nilCheck x):
  fu P CR base g w B e (Act.mk tmps df).eval o d σ':=by
 have hr:=hf.aZ (df:=df) hx;simp only[bF]at h;generalize aZ e X=dx at hr h;have key:(∃a,(Act.mk tmps df).eval x=.pointer (some a))∧d=dx∧σ'=σ:=by
  generalize (Act.mk tmps df).eval x=cx at hr;cases hr<;>simp at h
  ·exact⟨⟨_,rfl⟩,h.1.symm,h.2.symm⟩
  ·exact⟨⟨_,rfl⟩,h.1.symm,h.2.symm⟩
 obtain⟨⟨a,e1⟩,rfl,rfl⟩:=key;rw[e1]at hr;exact .pure hi (c:=.pointer (some a)) (by simp[execOp,ho,e1]) (cn.of hr)
theorem HS{x:Operand}(h:zr x=true):x=.const (.slice none 0 0):=by
 unfold zr at h;split at h
 ·rfl
 ·cases h
theorem aoH(hf:Fr fb V g w B e tmps)(hi:Inv CR base g σ w){o:Oper}(hk:kC P a ops key o=some k)(h:bF e σ k=some (d,σ')):
  fu P CR base g w B e (Act.mk tmps df).eval o d σ':=by
 unfold kC at hk;split at hk
 ·rename_i x ho;obtain⟨X,hX,rfl⟩:=ab.1 hk;exact Mc hf hi hX h o (.inl ho)
 ·rename_i x ho;split at hk
  ·rename_i hnil _ _;split at hk
   ·obtain⟨X,hX,rfl⟩:=ab.1 hk;exact aoy hi h o (by rw[ho,HS hnil])
   ·obtain⟨X,hX,rfl⟩:=ab.1 hk;exact Mc hf hi hX h o (.inr ho)
  ·obtain⟨X,hX,rfl⟩:=ab.1 hk;exact Mc hf hi hX h o (.inr ho)
 ·rename_i c x y ho;split at hk
  ·rename_i c' x' y' h1 h2 h3;cases hk;exact aoz hf hi h1 h2 h3 h o ho
  ·cases hk
 ·rename_i el ho;split at hk
  ·rename_i z d0 hz _;split at hk
   ·split at hk
    case h_2=>cases hk
    split at hk
    case h_2=>cases hk
    split at hk
    case h_2=>cases hk
    cases hk;exact atr hi hz h o ho
   cases hk;split at h
   ·cases h
   ·exact as7 hi hz h o ho
  ·cases hk
 ·rename_i t x ho;split at hk
  ·rename_i x' d0 hx _;cases hk;split at h
   ·cases h
   split at h
   ·split at h
    ·exact aoo hf hi hx h o ho
    ·exact atf hf hi hx h o ho
   ·exact aon hf hi hx h o ho
  ·cases hk
 ·rename_i t ps ho;split at hk
  ·rename_i fs z ht hz;split at hk
   ·rename_i hall;obtain⟨parts,hp,rfl⟩:=ab.1 hk;exact Jh hf hi ht hz hall hp h o ho
   ·cases hk
  ·rename_i n el z ht hz;split at hk
   ·rename_i wd hw;obtain⟨parts,hp,rfl⟩:=ab.1 hk;exact KM hf hi ht hw hz hp h o ho
   ·cases hk
  ·cases hk
 ·rename_i t n ps ho;split at hk
  ·rename_i el ht;split at hk
   ·rename_i wd z d0 hw hz _;split at hk
    ·rename_i hc;obtain⟨parts,hp,rfl⟩:=ab.1 hk;dsimp only at h;split at h
     ·rename_i hn;simp only[ae,ao]at hn;obtain⟨⟨rfl,hpe⟩,_⟩:=hn;exact atc hf hi ht hw hz hc.1 hc.2.1 hc.2.2 hp (by simpa using hpe) h o ho
     split at h
     ·exact ate hf hi ht hw hz hc.1 hc.2.1 hc.2.2 hp h o ho
     ·exact atd hf hi ht hw hz hc.1 hc.2.1 hc.2.2 hp h o ho
    ·cases hk
   ·cases hk
  ·cases hk
 ·rename_i t x ho;split at hk
  ·rename_i ag sz n hag hsz hx;split at hk
   ·rename_i hc;simp only[ae,ao]at hc;cases hk;have hxe:x=.tmp n:=by
     cases x<;>simp only[bA,ad,bE.t.injEq,reduceCtorEq,ab,and_false,exists_false]at hx;rw[hx]
    split at h
    ·exact atp hf hi hag hsz hc.1 hc.2 h o (by rw[ho,hxe])
    ·split at h
     ·exact aou hf hi hx hag hsz hc.1 hc.2 (ac2 h) o ho
     split at h
     ·exact aou hf hi hx hag hsz hc.1 hc.2 (ac1 h) o ho
     ·exact aou hf hi hx hag hsz hc.1 hc.2 h o ho
   ·cases hk
  ·cases hk
 ·rename_i t x y ho;split at hk
  ·rename_i sz n y' hsz hx hy;cases hk;split at h
   ·cases h
   ·split at h
    ·exact atB hf hi hx hy hsz (Om h) o ho
    ·exact atB hf hi hx hy hsz h o ho
  ·cases hk
 ·rename_i b t x y u ho;split at hk
  ·rename_i hx hy;cases hk;exact atb hf hi hx hy h o ho
  ·rename_i hx hy;exact LJ hf hi hx hy hk h o ho
  ·rename_i hx hy;exact LJ hf hi hx hy hk h o ho
  ·rename_i hx hy;exact LJ hf hi hx hy hk h o ho
  ·rename_i ht hx hy;split at hk
   ·cases hk;exact aoA hf hi hx hy h o ho
   ·cases hk;exact ajL hf hi hx hy h o ho
   ·cases hk;exact ajL hf hi hx hy h o ho
   ·cases hk
  ·rename_i ht hx hy;exact atn hf hi hx hy ht hk h o ho
  ·rename_i ht hx hy;split at hk
   ·rename_i hsz;split at hk
    ·cases hk;exact ajK (neg:=false) hf hi hx hy ht hsz h o ho
    ·cases hk;exact ajK (neg:=true) hf hi hx hy ht hsz h o ho
    ·cases hk
   ·cases hk
  ·rename_i ht hx hy;exact ato hf hi hx hy ht hk h o ho
  ·rename_i ht hx hy;split at hk
   ·cases hk;exact ajJ (neg:=false) hf hi hx ht h o ho
   ·cases hk;exact ajJ (neg:=true) hf hi hx ht h o ho
   ·cases hk
  ·cases hk
 ·rename_i x ho;obtain⟨X,hX,rfl⟩:=ab.1 hk;exact atw hf hi hX h o ho
 ·rename_i b t x ho;obtain⟨X,hX,rfl⟩:=ab.1 hk;exact avC hf hi hX h o ho
 ·rename_i s t x ho;split at hk
  ·rename_i hs ht hx;cases hk;exact ath hf hi hx hs ht h o ho
  ·rename_i hs ht hx;split at hk
   ·rename_i he hw;cases hk;exact ata hf hi hx hs he ht h o ho
   ·cases hk
  ·rename_i hs ht hx;split at hk
   ·rename_i he hw;cases hk;exact atz hf hi hx hs he ht h o ho
   ·cases hk
  ·rename_i hs ht hx;split at hk
   ·rename_i hst;subst hst;split at hk
    ·rename_i he;cases hk;exact ati hf hi hx hs he h o ho
    ·cases hk
   ·cases hk
  ·cases hk
 ·rename_i t x ho;split at hk
  ·rename_i ht hx;obtain⟨wd,hw,rfl⟩:=ab.1 hk;exact aty hf hi hx ht h o ho
  ·cases hk
 ·rename_i f xs ys ho;split at hk
  ·rename_i hx hy;cases hk;exact ats hf hi hx hy h o ho
  ·cases hk
 ·rename_i t x y ho;split at hk
  ·rename_i el ht;split at hk
   ·rename_i hw hb hz hx hy;split at hk
    ·rename_i hc;cases hk;exact atv hf hi hx hy ht hw hb hz hc.1 hc.2 h o ho
    ·cases hk
   ·cases hk
  ·cases hk
 ·rename_i t x lo hh mx ho;split at hk
  ·rename_i ht hx hlo hhi hmx;obtain⟨wd,hw,rfl⟩:=ab.1 hk;exact atA hf hi hx ht hw hlo hhi hmx h o ho
  ·rename_i ht hx hlo hhi hmx;obtain⟨wd,hw,rfl⟩:=ab.1 hk;have hm:mx=none:=by
    cases mx with
    |none=>rfl
    |some m=>simp[wQ,ab]at hmx
   subst hm;exact aoC hf hi hx ht hw hlo hhi h o ho
  ·rename_i ht hx hlo hhi hmx;cases hk;have hm:mx=none:=by
    cases mx with
    |none=>rfl
    |some m=>simp[wQ,ab]at hmx
   subst hm;exact aoE hf hi hx ht hlo hhi h o ho
  ·cases hk
 ·rename_i s x i ho;split at hk
  ·rename_i fs x' hs hx;split at hk
   ·rename_i off sz hfc;split at hk
    ·rename_i hpos;cases hk;exact aoq hf hi hx hs hfc hpos h o ho
    ·cases hk
   ·cases hk
  ·cases hk
 ·rename_i s x i ho;split at hk
  ·rename_i fs x' hs hx;split at hk
   ·rename_i f hfi;split at hk
    ·rename_i hag hsz;split at hk
     ·cases hk;exact atl hf hi hx hs hfi hag hsz h o ho
     ·cases hk
    ·cases hk
   ·cases hk
  ·cases hk
 ·rename_i t x y ho;split at hk
  ·rename_i ht hx hy;obtain⟨wd,hw,rfl⟩:=ab.1 hk;exact aor hf hi hx hy ht hw h o ho
  ·rename_i ht hx hy;obtain⟨wd,hw,rfl⟩:=ab.1 hk;exact aos hf hi hx hy ht hw h o ho
  ·cases hk
 ·rename_i t x y ho;split at hk
  ·rename_i ht hx hy;split at hk
   ·rename_i hag hsz;split at hk
    ·cases hk;exact aot hf hi hx hy ht hag hsz h o ho
    ·cases hk
   ·cases hk
  ·rename_i ht hx hy;cases hk;exact aoB hf hi hx hy ht h o ho
  ·cases hk
 ·rename_i x i ho;obtain⟨X,hX,rfl⟩:=ab.1 hk;exact atk hf hi hX h o ho
 ·rename_i c ho;obtain⟨callee,args,ts⟩:=c;dsimp only at hk;split at hk
  ·rename_i f;split at hk
   ·cases hk;cases h
   ·cases hk
  ·split at hk
   ·rename_i t tr x r hts ha;split at hk
    ·rename_i ht hx;cases hk;exact atq hf hi hx ht ha hts h o ho
    ·rename_i ht hx;cases hk;exact aoD hf hi hx ht ha hts h o ho
    ·rename_i ht hx;cases hk;exact aox hf hi hx ht ha hts h o ho
    ·rename_i ht;cases hk;exact aa1 hi (.inl ⟨_,ht⟩) ha hts h o ho
    ·rename_i ht;split at hk
     ·rename_i hr;cases hk;exact aa1 hi (.inr ⟨_,_,ht,hr⟩) ha hts h o ho
     ·cases hk
    ·cases hk
   ·cases hk
  ·cases hk;cases h
  ·split at hk
   ·rename_i ha;split at hk
    ·rename_i hx hy;cases hk;exact avA hf hi hx hy ha h o ho
    ·cases hk
   ·cases hk
  ·split at hk
   ·rename_i ha;split at hk
    ·rename_i hx hy;cases hk;exact avB hf hi hx hy ha h o ho
    ·cases hk
   ·cases hk
  ·split at hk
   ·rename_i t u x y hts ha;split at hk
    ·rename_i uu x' y' ht hu0 hx hy;split at hk
     case isFalse=>cases hk
     rename_i huu;have hu:P.underlying u=some .string∨∃e2,P.underlying u=some (.slice e2):=by
      cases uu<;>simp[aaR]at huu
      ·exact .inl hu0
      ·exact .inr ⟨_,hu0⟩
     split at hk
     ·rename_i hw hb hz;split at hk
      ·rename_i hc;cases hk;split at h
       ·rename_i hn;simp only[ae]at hn;exact atg hf hi (HS hn.1) hy ha hts ht hu hw hb hz hc.2.2.2 hc.2.1 hc.2.2.1 h o ho
       ·split at h
        ·rename_i hn;simp only[ae]at hn;obtain⟨v,rfl⟩:∃v,x=.tmp v:=by
          have:=hn.2;cases x<;>simp[abj]at this;exact⟨_,rfl⟩
         exact as8 hf hi rfl hy ha hts ht hu hw hb hz hc.2.2.2 hc.2.1 hc.2.2.1 h o ho
        split at h
        ·exact as9 hf hi hx hy ha hts ht hu hw hb hz hc.2.2.2 hc.2.1 hc.2.2.1 h o ho
        split at h
        ·exact aa0 hf hi hx hy ha hts ht hu hw hb hz hc.2.2.2 hc.2.1 hc.2.2.1 (Ol h) o ho
        ·exact aa0 hf hi hx hy ha hts ht hu hw hb hz hc.2.2.2 hc.2.1 hc.2.2.1 h o ho
      ·cases hk
     ·cases hk
    ·cases hk
   ·cases hk
  ·cases hk
 ·rename_i t x ho;split at hk
  ·rename_i hc;obtain⟨X,hX,rfl⟩:=ab.1 hk;exact att hf hi hX hc h o ho
  ·cases hk
 ·rename_i x xt t ok ho;split at hk
  ·cases hk
  ·rename_i dsc x' hnot ht hx;split at hk
   ·rename_i hok;subst hok;obtain⟨z,hz,rfl⟩:=ab.1 hk;exact ajM hf hi hx ht (fun ms hms=>by subst hms;exact hnot _ rfl) (by simpa using hz) h o ho
   ·rename_i hok;cases hk;exact ajM hf hi hx ht (fun ms hms=>by subst hms;exact hnot _ rfl) (by simp[hok]) h o ho
  ·cases hk
 ·rename_i x ho;obtain⟨X,hX,rfl⟩:=ab.1 hk;cases h
 ·rename_i t ho;cases hk;exact atu hi h o ho
 ·rename_i t k n ho;split at hk
  ·rename_i ht;cases hk;exact aow hi h ht o ho
  ·cases hk
 ·rename_i t x ho;split at hk
  ·rename_i ht hx;cases hk;exact atx hf hi hx ht h o ho
  ·cases hk
 ·rename_i x ho;split at hk
  ·rename_i hx;cases hk;exact atj hf hi hx h o ho
  ·cases hk
 ·rename_i t x y ok ho;split at hk
  ·rename_i ht hx hy;split at hk
   ·rename_i hky hz;cases hk;exact aov hf hi hx hy ht hky hz h o ho
   ·cases hk
  ·cases hk
 ·rename_i t m x y ho;split at hk
  ·rename_i ht hm hx hy;split at hk
   ·rename_i hky;cases hk;exact aa2 hf hi hm hx hy ht hky h o (.inl ho)
   ·cases hk
  ·cases hk
 ·rename_i t m x y ho;split at hk
  ·rename_i ht hm hx hy;split at hk
   ·rename_i hky;cases hk;exact aa2 hf hi hm hx hy ht hky h o (.inr ho)
   ·cases hk
  ·cases hk
 ·cases hk
end
mutual
def D.low(n:Nat):D→Bool
 |.ref l .. => decide (l<n)
 |.sl l .. => decide (l<n)
 |.mf l _=>decide (l<n)
 |.vr .. => true
 |.emp=>true
 |.own _ cs=>D.n8 n cs
 |.agg cs=>D.n8 n cs
 |.dQ cs=>D.n8 n cs
 |.bw cs=>D.n8 n cs
 |.aE _ cs=>D.n8 n cs
 |.fn _ a b=>D.n8 n a && D.n8 n b
 |.undef=>true
 |.bool _=>true
 |.int _ _=>true
 |.str _=>true
 |.wO=>true
 |.aI=>true
 |.ir=>true
 |.tQ _ d=>D.low n d
 |.o9=>true
def D.n8(n:Nat):List D→Bool
 |[]=>true
 |d::ds=>D.low n d && D.n8 n ds
end
theorem AN{n:Nat}{ds:List D}:D.n8 n ds=true↔∀d∈ds,d.low n=true:=by
 induction ds with
 |nil=>simp[D.n8]
 |cons d ds ih=>simp[D.n8,ih]
mutual
theorem ux{n:Nat}:∀{d:D},d.clean=true→d.low n=true
 |.ref ..,h=>by simp[D.clean]at h
 |.sl ..,h=>by simp[D.clean]at h
 |.mf ..,h=>by simp[D.clean]at h
 |.vr ..,_=>rfl
 |.emp,_=>rfl
 |.own _ cs,h=>pU (ds:=cs) (by simpa[D.clean]using h)
 |.agg cs,h=>pU (ds:=cs) (by simpa[D.clean]using h)
 |.dQ cs,h=>pU (ds:=cs) (by simpa[D.clean]using h)
 |.bw cs,h=>pU (ds:=cs) (by simpa[D.clean]using h)
 |.aE _ cs,h=>pU (ds:=cs) (by simpa[D.clean]using h)
 |.fn _ a b,h=>by
  simp only[D.clean,ae]at h;simp only[D.low,ae];exact⟨pU h.1,pU h.2⟩
 |.undef,_=>rfl
 |.bool _,_=>rfl
 |.int _ _,_=>rfl
 |.str _,_=>rfl
 |.wO,_=>rfl
 |.aI,_=>rfl
 |.ir,_=>rfl
 |.tQ _ d,h=>ux (d:=d) (by simpa[D.clean]using h)
 |.o9,_=>rfl
theorem pU{n:Nat}:∀{ds:List D},D.bu ds=true→D.n8 n ds=true
 |[],_=>rfl
 |d::ds,h=>by
  simp only[D.bu,ae]at h;simp only[D.n8,ae];exact⟨ux h.1,pU h.2⟩
end
mutual
theorem bC.low{g:G}{n:Nat}(hn:∀l i L,g.loc l i=some L→l<n):∀{d:D} {c:Value},bC g d c→d.low n=true
 |_,_,.undef c=>rfl
 |_,_,.bool b=>rfl
 |_,_,.int k n=>rfl
 |_,_,.str s=>rfl
 |_,_,.agg ds cs hr h1=>bz.low hn hr
 |_,_,.dQ ds cs hr=>bz.low hn hr
 |_,_,.wO=>rfl
 |_,_,.ref l i v off b o L e hv hc hn'=>by simp only[D.low,ao];exact hn l i L e
 |_,_,.bw ds b o vs hr hl=>bz.low hn hl
 |_,_,.aI=>rfl
 |_,_,.xe=>rfl
 |_,_,.aE n' ds a cap vs hn' hr hs hl=>bz.low hn hl
 |_,_,.sl l i v off n' w a cap L e hv hn' ha hs hc hc'=>by simp only[D.low,ao];exact hn l i L e
 |_,_,.fn f fs cs fs' cs' h1 h2=>by simp only[D.low,ae];exact⟨bz.low hn h1,bz.low hn h2⟩
 |_,_,.ir=>rfl
 |_,_,.mf l i b e=>by simp only[D.low,ao];exact hn l i _ e
 |_,_,.Pv l i b e=>by simp only[D.low,ao];exact hn l i _ e
 |_,_,.itv l i b L e hc=>by simp only[D.low,ao];exact hn l i _ e
 |_,_,.PU l i b L e hc=>by simp only[D.low,ao];exact hn l i _ e
 |_,_,.tQ t d c h1=>by rw[D.low];exact bC.low hn h1
 |_,_,.o9=>rfl
theorem bz.low{g:G}{n:Nat}(hn:∀l i L,g.loc l i=some L→l<n):∀{ds:List D} {cs:List Value},bz g ds cs→D.n8 n ds=true
 |_,_,.nil=>rfl
 |_,_,.cons d c ds cs h1 h2=>by simp only[D.n8,ae];exact⟨bC.low hn h1,bz.low hn h2⟩
end
def G.cut(g:G)(n:Nat):G:=⟨fun l i=>if l<n then g.loc l i else none,g.pT⟩
theorem G.tj{g:G}{n l i:Nat}(h:l<n):(g.cut n).loc l i=g.loc l i:=by simp[G.cut,h]
theorem G.wC{g:G}{n l i:Nat}{L:Loc}(h:(g.cut n).loc l i=some L):l<n∧g.loc l i=some L:=by
 simp only[G.cut]at h;split at h
 ·exact⟨by assumption,h⟩
 ·cases h
mutual
theorem bC.cut{g:G}{n:Nat}:∀{d:D} {c:Value},bC g d c→d.low n=true→bC (g.cut n) d c
 |_,_,.undef c,_ => .undef c
 |_,_,.bool b,_ => .bool b
 |_,_,.int k n,_ => .int k n
 |_,_,.str s,_ => .str s
 |_,_,.agg ds cs hr h1,h => .agg ds cs (bz.cut hr h) h1
 |_,_,.dQ ds cs hr,h => .dQ ds cs (bz.cut hr h)
 |_,_,.wO,_ => .wO
 |_,_,.ref l i v off b o L e hv hc hn',h => .ref l i v off b o L ((G.tj (by simpa[D.low]using h)).trans e) hv hc hn'
 |_,_,.bw ds b o vs hr hl,h => .bw ds b o vs hr (bz.cut hl h)
 |_,_,.aI,_ => .aI
 |_,_,.xe,_ => .xe
 |_,_,.aE n' ds a cap vs hn' hr hs hl,h => .aE n' ds a cap vs hn' hr hs (bz.cut hl h)
 |_,_,.sl l i v off n' w a cap L e hv hn' ha hs hc hc',h => .sl l i v off n' w a cap L ((G.tj (by simpa[D.low]using h)).trans e) hv hn' ha hs hc hc'
 |_,_,.fn f fs cs fs' cs' h1 h2,h=>by
  simp only[D.low,ae]at h;exact .fn f fs cs fs' cs' (bz.cut h1 h.1) (bz.cut h2 h.2)
 |_,_,.ir,_ => .ir
 |_,_,.mf l i b e,h => .mf l i b ((G.tj (by simpa[D.low]using h)).trans e)
 |_,_,.Pv l i b e,h => .Pv l i b ((G.tj (by simpa[D.low]using h)).trans e)
 |_,_,.itv l i b L e hc,h => .itv l i b L ((G.tj (by simpa[D.low]using h)).trans e) hc
 |_,_,.PU l i b L e hc,h => .PU l i b L ((G.tj (by simpa[D.low]using h)).trans e) hc
 |_,_,.tQ t d c h1,h => .tQ t d c (bC.cut h1 h)
 |_,_,.o9,_ => .o9
theorem bz.cut{g:G}{n:Nat}:∀{ds:List D} {cs:List Value},bz g ds cs→D.n8 n ds=true→bz (g.cut n) ds cs
 |_,_,.nil,_ => .nil
 |_,_,.cons d c ds cs h1 h2,h=>by
  simp only[D.n8,ae]at h;exact .cons d c ds cs (bC.cut h1 h.1) (bz.cut h2 h.2)
end
mutual
theorem AO{n m:Nat}(hm:n≤m):∀{d:D},d.low n=true→d.low m=true
 |.ref l ..,h=>by simp only[D.low,ao]at h ⊢;omega
 |.sl l ..,h=>by simp only[D.low,ao]at h ⊢;omega
 |.mf l _,h=>by simp only[D.low,ao]at h ⊢;omega
 |.vr ..,_=>rfl
 |.emp,_=>rfl
 |.own _ cs,h=>rp (ds:=cs) hm h
 |.agg cs,h=>rp (ds:=cs) hm h
 |.dQ cs,h=>rp (ds:=cs) hm h
 |.bw cs,h=>rp (ds:=cs) hm h
 |.aE _ cs,h=>rp (ds:=cs) hm h
 |.fn _ a b,h=>by
  simp only[D.low,ae]at h ⊢;exact⟨rp hm h.1,rp hm h.2⟩
 |.undef,_=>rfl
 |.bool _,_=>rfl
 |.int _ _,_=>rfl
 |.str _,_=>rfl
 |.wO,_=>rfl
 |.aI,_=>rfl
 |.ir,_=>rfl
 |.tQ _ d,h=>AO (d:=d) hm h
 |.o9,_=>rfl
theorem rp{n m:Nat}(hm:n≤m):∀{ds:List D},D.n8 n ds=true→D.n8 m ds=true
 |[],_=>rfl
 |d::ds,h=>by
  simp only[D.n8,ae]at h ⊢;exact⟨AO hm h.1,rp hm h.2⟩
end
def aG.low(n:Nat):aG→Prop
 |.cells _ cs=>D.n8 n cs=true
 |.dead=>True
 |.loop lp=>∀t,(get lp.env t).low n=true
def rF(σ:SK):Prop:=∀l i b,ez σ l i=some b→l+1<σ.length→b.low (l+1)
theorem rF.set{σ:SK}(h:rF σ){l i:Nat}{b:aG}(hb:l+1<σ.length→b.low (l+1)):rF (aT σ l i b):=by
 intro l' i' b' h1 h2;rw[eg]at h2;by_cases hc:l'=l∧i'=i
 ·obtain⟨rfl,rfl⟩:=hc;cases h0:ez σ l' i' with
  |none =>
   have:ez (aT σ l' i' b) l' i'=none:=by
    unfold aT;cases hs:gj σ l' with
    |none=>exact h0
    |some s =>
     simp only[ez,sW (zF hs),Option.bind_some];simp only[ez,hs,Option.bind_some]at h0;rw[List.getElem?_eq_none_iff]at h0 ⊢;simpa using h0
   rw[this]at h1;cases h1
  |some b0=>rw[n9 h0]at h1;cases h1;exact hb h2
 ·rw[eA hc]at h1;exact h l' i' b' h1 h2
theorem rF.new{σ σ':SK}(h:rF σ){l i:Nat}{b:aG}(hn:gH σ b=some (l,i,σ')):rF σ':=by
 obtain⟨h1,h2,h3,h4,h5⟩:=jG hn;intro l' i' b' e hl;by_cases hc:l'=l∧i'=i
 ·omega
 ·rw[h3 l' i' hc]at e;exact h l' i' b' e (by omega)
structure gp(σ σ':SK):Prop where
 len:σ'.length=σ.length
 low:rF σ→rF σ'
theorem gp.refl(σ:SK):gp σ σ:=⟨rfl,id⟩
theorem gp.trans{a b c:SK}(h:gp a b)(h':gp b c):gp a c:=⟨h'.len.trans h.len,fun x=>h'.low (h.low x)⟩
theorem gp.new{σ σ':SK}{l i:Nat}{b:aG}(hn:gH σ b=some (l,i,σ')):gp σ σ':=⟨(jG hn).2.2.2.1,fun h=>h.new hn⟩
theorem gp.set{σ:SK}{l i:Nat}{b:aG}(hb:l+1<σ.length→b.low (l+1)):gp σ (aT σ l i b):=⟨eg,fun h=>h.set hb⟩
theorem sJ:∀(nb:List (Nat×Nat)) (cs cs':List D) (σ σ':SK),kq nb cs σ=some (cs',σ')→gp σ σ'
 |[],cs,cs',σ,σ',h=>by simp only[kq,ad,aj]at h;obtain⟨rfl,rfl⟩:=h;exact .refl _
 |(p,w)::r,cs,cs',σ,σ',h=>by
  simp only[kq]at h;split at h
  ·simp only[aL,af]at h;obtain⟨⟨l,i,σ1⟩,hn,h⟩:=h;exact(gp.new hn).trans (sJ r _ _ _ _ h)
  ·exact sJ r _ _ _ _ h
theorem yI(l:Nat):∀(n:Nat) (d:D) (σ:SK),(ck l n d σ).1.low (l+1)=true∧gp σ (ck l n d σ).2
 |0,d,σ=>⟨rfl,.refl _⟩
 |n+1,d,σ=>by
  have ih:∀(ds:List D) (σ:SK),D.n8 (l+1) (ck.frzL (ck l n) ds σ).1=true∧gp σ (ck.frzL (ck l n) ds σ).2:=by
   intro ds;induction ds with
   |nil=>intro σ;exact⟨rfl,.refl _⟩
   |cons d ds ihd =>
    intro σ;obtain⟨h1,h2⟩:=yI l n d σ;obtain⟨h3,h4⟩:=ihd (ck l n d σ).2;simp only[ck.frzL,D.n8,ae];exact⟨⟨h1,h3⟩,h2.trans h4⟩
  simp only[ck];split
  ·rename_i hc;exact⟨ux hc,.refl _⟩
  cases d with
  |agg cs=>exact ih cs σ
  |dQ cs=>exact ih cs σ
  |bw cs=>exact ih cs σ
  |aE m cs=>exact ih cs σ
  |own s cs=>exact ih cs σ
  |fn f a b =>
   obtain⟨h1,h2⟩:=ih a σ;obtain⟨h3,h4⟩:=ih b (ck.frzL (ck l n) a σ).2;refine⟨?_,h2.trans h4⟩;simp only[D.low,ae];exact⟨h1,h3⟩
  |ref l' i v off =>
   dsimp only;split
   ·refine⟨?_,.refl _⟩;simp only[D.low,ao];omega
   ·exact⟨rfl,.refl _⟩
  |mf l' i =>
   dsimp only;split
   ·refine⟨?_,.refl _⟩;simp only[D.low,ao];omega
   ·exact⟨rfl,.refl _⟩
  |sl l' i v off m w =>
   dsimp only;split
   ·refine⟨?_,.refl _⟩;simp only[D.low,ao];omega
   ·split
    ·rename_i cs hcs;obtain⟨h1,h2⟩:=ih ((cs.drop off).take (m*w)) (aT σ l' i .dead);exact⟨h1,(gp.set (b:=.dead) fun _=>trivial).trans h2⟩
    ·exact⟨rfl,.refl _⟩
  |_=>exact⟨rfl,.refl _⟩
theorem Bi(l n:Nat)(ds:List D):∀(σ:SK),D.n8 (l+1) (ck.frzL (ck l n) ds σ).1=true∧gp σ (ck.frzL (ck l n) ds σ).2:=by
 induction ds with
 |nil=>intro σ;exact⟨rfl,.refl _⟩
 |cons d ds ihd =>
  intro σ;obtain⟨h1,h2⟩:=yI l n d σ;obtain⟨h3,h4⟩:=ihd (ck l n d σ).2;simp only[ck.frzL,D.n8,ae];exact⟨⟨h1,h3⟩,h2.trans h4⟩
theorem HM(l:Nat):∀(e:Env) (σ:SK),(∀p∈(sC l e σ).1,p.2.low (l+1)=true)∧gp σ (sC l e σ).2
 |[],σ=>⟨by simp[sC],.refl _⟩
 |(t,d)::e,σ=>by
  obtain⟨h1,h2⟩:=yI l deep d σ;obtain⟨h3,h4⟩:=HM l e (ck l deep d σ).2;simp only[sC];refine⟨?_,h2.trans h4⟩;intro p hp;rcases bq.1 hp with rfl | hp
  ·exact h1
  ·exact h3 p hp
theorem zh{σ:SK}(h:rF σ){l i v:Nat}{cs:List D}(hc:cells? σ l i v=some cs)(hl:l+1<σ.length):D.n8 (l+1) cs=true:=by
 unfold cells? at hc;split at hc
 case h_2=>cases hc
 rename_i v' cs' hb;split at hc
 case isFalse=>cases hc
 cases hc;exact h l i _ hb hl
theorem AM{n:Nat}{a b:List D}:D.n8 n (a++b)=true↔D.n8 n a=true∧D.n8 n b=true:=by
 simp only[AN,aY];exact⟨fun h=>⟨fun d hd=>h d (.inl hd),fun d hd=>h d (.inr hd)⟩,fun h d hd=>hd.elim (h.1 d) (h.2 d)⟩
theorem H0{n k:Nat}{a:List D}(h:D.n8 n a=true):D.n8 n (a.take k)=true:=by
 rw[AN]at h ⊢;exact fun d hd=>h d (dD hd)
theorem HZ{n k:Nat}{a:List D}(h:D.n8 n a=true):D.n8 n (a.drop k)=true:=by
 rw[AN]at h ⊢;exact fun d hd=>h d (dC hd)
theorem aaD{σ σ':SK}{d:D}{o:Mo}{ds:List D}(h:Af σ o ds=some (d,σ'))(hk:o.calm=true):σ'=σ:=by
 unfold Af at h;split at h
 ·simp[Mo.calm]at hk
 ·simp[Mo.calm]at hk
 ·split at h
  ·split at h
   ·split at h<;>first | (cases h;done) | (cases h;rfl)
   ·cases h
  ·cases h
 ·simp[Mo.calm]at hk
 ·simp only[ab,aj]at h;obtain⟨_,_,_,rfl⟩:=h;rfl
 ·simp[Mo.calm]at hk
 ·split at h
  ·split at h
   ·split at h
    ·split at h
     ·cases h;rfl
     ·cases h
    ·cases h
   ·cases h
  ·cases h
 ·cases h
theorem aax{σ σ':SK}{d:D}{o:Me}{ds:List D}(h:meD σ o ds=some (d,σ')):σ'=σ:=by
 unfold meD at h;split at h
 ·cases h
 ·simp only[af,ab,aj]at h;obtain⟨_,_,_,_,_,rfl⟩:=h;rfl
 ·cases h;rfl
 ·split at h<;>cases h;rfl
 ·split at h<;>cases h;rfl
 ·cases h
theorem KP{e:Env}{σ σ':SK}{d:D}{k:K}(h:bF e σ k=some (d,σ'))(hk:k.calm=true):σ'=σ:=by
 by_cases hm:∃o xs,k=.mp o xs
 ·obtain⟨o,xs,rfl⟩:=hm;exact aaD h hk
 by_cases hm':∃o xs,k=.me o xs
 ·obtain⟨o,xs,rfl⟩:=hm';exact aax h
 cases k<;>(try (exact absurd ⟨_,_,rfl⟩ hm))<;>(try (exact absurd ⟨_,_,rfl⟩ hm'))<;>clear hm hm'<;>simp only[K.calm,ar]at hk<;>simp only[bF,aL,reduceCtorEq]at h<;>(repeat' split at h)<;>
  simp only[ab,af,ad,aj,Prod.exists,reduceCtorEq,exists_eq_left,and_false,exists_false]at h<;>(try split at h)<;>
  simp_all<;>(try (obtain⟨_,_,h⟩:=h;simp_all))<;>(try grind)
theorem NO{e:Env}{σ σ':SK}{d:D}{nb:List (Nat×Nat)}{sz:Nat}{a x:bE}(h:bF e σ (.st nb sz a x)=some (d,σ')):gp σ σ':=by
 simp only[bF]at h;split at h
 case h_2=>cases h
 split at h
 case h_2=>cases h
 rename_i l i v off hX _ cs hcs;split at h
 case h_2=>cases h
 rename_i p hcells;split at h
 case isFalse=>cases h
 rename_i hc;split at h
 ·rename_i htop;split at h
  ·rename_i p' σ1 hnb;cases h;have hg:=sJ _ _ _ _ _ hnb;exact hg.trans (gp.set fun hl=>by have:=hg.len;omega)
  ·cases h
 ·rename_i htop;cases h;obtain⟨h1,h2⟩:=Bi l deep p σ;refine⟨eg.trans h2.len,fun hl=>(h2.low hl).set fun hlt=>?_⟩;have hcl:=zh hl hcs (by have:=h2.len;omega);simp only[aG.low,AM];exact⟨⟨H0 hcl,h1⟩,HZ hcl⟩
theorem Gm{e:Env}{σ σ':SK}{d:D}{w bytes:Nat}{s x:bE}(h:bF e σ (.app w bytes s x)=some (d,σ')):gp σ σ':=by
 simp only[bF,aL,af]at h;obtain⟨⟨m,xs⟩,he,h⟩:=h;dsimp only at h;split at h
 ·split at h
  case isFalse=>cases h
  split at h
  ·cases h;exact .refl _
  ·simp only[af]at h;obtain⟨⟨l,i,σ1⟩,hn,h⟩:=h;cases h;exact .new hn
 ·split at h
  case h_2=>cases h
  rename_i l i v off n w' hX _ cs hcs;split at h
  case isFalse=>cases h
  split at h
  ·cases h;exact .set fun hl=>by omega
  ·cases h;obtain⟨h1,h2⟩:=Bi l deep xs σ;refine⟨eg.trans h2.len,fun hl=>(h2.low hl).set fun hlt=>?_⟩;have hcl:=zh hl hcs (by have:=h2.len;omega);simp only[aG.low,AM];exact⟨H0 (HZ hcl),h1⟩
 ·cases h
theorem aau{n j:Nat}{a:List D}{x:D}(h:D.n8 n a=true)(hx:x.low n=true):D.n8 n (a.set j x)=true:=by
 rw[AN]at h ⊢;intro d hd;rcases List.mem_or_eq_of_mem_set hd with h1 | rfl
 ·exact h d h1
 ·exact hx
theorem acu{σ σ':SK}{d:D}{o:Mo}{ds:List D}(h:Af σ o ds=some (d,σ')):gp σ σ':=by
 unfold Af at h;split at h
 ·simp only[ab,aj,Prod.exists]at h;obtain⟨l,i,σ1,hn,_,rfl⟩:=h;exact .new hn
 ·simp only[ab,aj,Prod.exists]at h;obtain⟨l,i,σ1,hn,_,rfl⟩:=h;exact .new hn
 ·split at h
  ·split at h
   ·split at h<;>first | (cases h;done) | (cases h;exact .refl _)
   ·cases h
  ·cases h
 ·rename_i ky m k v;split at h
  ·rename_i l i es hm;obtain⟨rfl,hcs⟩:=KD hm;split at h
   case isFalse=>cases h
   rename_i hc;have hlow:l+1<σ.length→k.low (l+1)=true∧v.low (l+1)=true:=fun hl=>by
    rcases hc.2 with h1 | ⟨h1,h2⟩
    ·omega
    ·exact⟨ux h1,ux h2⟩
   split at h
   ·cases h;refine⟨eg,fun hS=>hS.set fun hl=>?_⟩;have hcl:=zh hS hcs hl;obtain⟨h1,h2⟩:=hlow hl;simp only[aG.low];exact aau hcl (by simp[D.low,D.n8,h1,h2])
   ·cases h;refine⟨eg,fun hS=>hS.set fun hl=>?_⟩;have hcl:=zh hS hcs hl;obtain⟨h1,h2⟩:=hlow hl;simp only[aG.low,AM];exact⟨hcl,by simp[D.low,D.n8,h1,h2]⟩
   ·cases h
  ·cases h
 ·simp only[ab,aj]at h;obtain⟨_,_,_,rfl⟩:=h;exact .refl _
 ·split at h
  ·simp only[ab,aj,Prod.exists]at h;obtain⟨l,i,σ1,hn,_,rfl⟩:=h;exact .new hn
  ·cases h
 ·split at h
  ·split at h
   ·split at h
    ·split at h
     ·cases h;exact .refl _
     ·cases h
    ·cases h
   ·cases h
  ·cases h
 ·cases h
theorem aa5{e:Env}{σ σ':SK}{d:D}:∀{k:K},bF e σ k=some (d,σ')→gp σ σ'
 |.st ..,h=>NO h
 |.app ..,h=>Gm h
 |.OQ ..,h=>Gm (Ol h)
 |.PT w bytes s x,h=>by
  simp only[bF,ab,Prod.exists]at h;obtain⟨d1,σ1,h1,h2⟩:=h;obtain⟨h3,h4⟩:=yI 0 deep d1 σ1;rw[h2]at h4;exact(Gm (by rw[Jm];exact h1)).trans h4
 |.cvz x,h=>by
  simp only[bF]at h;split at h
  case h_2=>cases h
  split at h
  case isFalse=>cases h
  split at h
  case h_2=>cases h
  cases h;exact .set fun _=>trivial
 |.G8 nb cs,h=>by
  simp only[bF,aL,af]at h;obtain⟨⟨cs',σ1⟩,hnb,⟨l,i,σ2⟩,hn,h⟩:=h;cases h;exact(sJ _ _ _ _ _ hnb).trans (.new hn)
 |.rq w,h=>by
  simp only[bF,aL,af]at h;obtain⟨⟨l,i,σ2⟩,hn,h⟩:=h;cases h;exact .new hn
 |.bxn nb x,h=>by
  simp only[bF,aL,af]at h;obtain⟨cs,_,⟨cs',σ1⟩,hnb,⟨l,i,σ2⟩,hn,h⟩:=h;cases h;exact(sJ _ _ _ _ _ hnb).trans (.new hn)
 |.Ha x,h=>by
  simp only[bF,aL,af]at h;obtain⟨cs,_,⟨l,i,σ2⟩,hn,h⟩:=h;cases h;exact .new hn
 |.K4 ..,h=>by
  simp only[bF,aL,af]at h;obtain⟨cs,_,⟨l,i,σ2⟩,hn,h⟩:=h;cases h;exact .new hn
 |.mks ..,h=>by
  simp only[bF]at h;split at h
  ·split at h
   ·simp only[aL,af]at h;obtain⟨⟨l,i,σ2⟩,hn,h⟩:=h;cases h;exact .new hn
   ·cases h
  ·cases h
 |.mv _,h=>same h rfl
 |.pick ..,h=>same h rfl
 |.dT ..,h=>by simp[bF]at h
 |.G9 _,h=>same h rfl
 |.D1 _,h=>by simp[bF]at h
 |.lf ..,h=>same h rfl
 |.uH ..,h=>same h rfl
 |.ld ..,h=>same h rfl
 |.PW ..,h=>same h rfl
 |.PV ..,h=>same h rfl
 |.PK os sz a x,h=>NO (Om h)
 |.isn ..,h=>same h rfl
 |.ng ..,h=>same h rfl
 |.PX ..,h=>same h rfl
 |.Er ..,h=>by simp[bF]at h
 |.bin ..,h=>same h rfl
 |.eqv ..,h=>same h rfl
 |.un ..,h=>same h rfl
 |.Q5 ..,h=>same h rfl
 |.xf ..,h=>same h rfl
 |.K8 ..,h=>same h rfl
 |.Mg ..,h=>same h rfl
 |.Hc ..,h=>same h rfl
 |.fld ..,h=>same h rfl
 |.AI ..,h=>same h rfl
 |.eI ..,h=>same h rfl
 |.IW ..,h=>same h rfl
 |.Hh ..,h=>same h rfl
 |.LS ..,h=>same h rfl
 |.mn ..,h=>same h rfl
 |.mx ..,h=>same h rfl
 |.cpi ..,h=>same h rfl
 |.bse,h=>same h rfl
 |.ape ..,h=>same h rfl
 |.ext ..,h=>same h rfl
 |.BR ..,h=>same h rfl
 |.mp ..,h=>acu h
 |.me ..,h=>same h rfl
 |.mki ..,h=>same h rfl
 |.tas ..,h=>same h rfl
 |.isi ..,h=>same h rfl
 |.K6 _,h=>by simp[bF]at h
 |.K7,h=>by simp[bF]at h
 |.call ..,h=>by simp[bF]at h
where
 same {e:Env} {σ σ':SK} {d:D} {k:K} (h:bF e σ k=some (d,σ')) (hk:k.calm=true):gp σ σ':=by
  rw[KP h hk];exact .refl _
end Go.Abs
