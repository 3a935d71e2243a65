import Derived.Test.YtfgljaglidhjiaaGreatDoorBase7
import Derived.Test.YtfgljaglidhjiaaGreatDoorBase5
import Derived.MapKept
import Derived.WideKeyRuns
import Derived.Maps.RangeRun
import Derived.Test.YtfgljaglidhjiaaGreatDoorBase4
import Derived.Test.YtfgljaglidhjiaaGreatDoorBase6
set_option linter.all false
namespace Go.Abs
open Go
theorem LO{σ:SK}{d:D}{l i:Nat}{es:List D}(h:AU σ d=some (l,i,es)):d=.mH l i∧cells? σ l i 0=some es:=by
 unfold AU at h;split at h
 ·simp only[ad,ak]at h;obtain⟨cs,h1,rfl,rfl,rfl⟩:=h;exact⟨rfl,h1⟩
 ·cases h
theorem IJ{ky:Ky}{k:D}:∀{es:List D} {j:Nat} {v:D},rq ky k es=some (some (j,v))→∃k',es[j]?=some (.dK [k',v])∧td ky k k'=some true
 |[],j,v,h=>by simp[rq]at h
 |x::es,j,v,h=>by
  unfold rq at h;split at h
  ·rename_i heq;cases heq
  ·rename_i k' v' es' heq;cases heq;split at h
   ·rename_i hq;cases h;exact⟨k',rfl,hq⟩
   ·simp only[ad]at h;obtain⟨x1,h1,x2,rfl,h2⟩:=h;cases h2;obtain⟨j0,v0⟩:=x2;obtain⟨k0,h3,h4⟩:=IJ h1;exact⟨k0,by simpa using h3,h4⟩
   ·cases h
  ·cases h
section
variable {P:Program} {g:G} {w:World}
theorem Hh:∀{ks:List (Option IntKind)} {p q:List D},Aa ks p q=some true→p=q
 |[],p,q,h=>by obtain⟨rfl,rfl,_⟩:=ve h;rfl
 |some k::ks,p,q,h=>by
  obtain⟨a,x,c,y,b0,rfl,rfl,h0,hb⟩:=tL h;simp only[Bool.true_eq,af,beq_iff_eq]at hb;obtain⟨rfl,rfl⟩:=hb;rw[Hh h0]
 |none::ks,p,q,h=>by
  obtain⟨a,x,c,y,b0,rfl,rfl,h0,hb⟩:=xh h;simp only[Bool.true_eq,af,beq_iff_eq]at hb;obtain⟨rfl,rfl⟩:=hb;rw[Hh h0]
theorem DT(n:Nat):∀{ks:List (Option IntKind)} {p q:List D} {b:Bool},Aa ks p q=some b→∀{xs ys:List Value},bC g p xs→bC g p ys→xs=ys∧(xs.zip ys).all (fun z=>Instr.sameBits n z.1 z.2)=true
 |[],p,q,b,h,xs,ys,hx,hy=>by
  obtain⟨rfl,rfl,_⟩:=ve h;cases hx;cases hy;exact⟨rfl,rfl⟩
 |some k::ks,p,q,b,h,xs,ys,hx,hy=>by
  obtain⟨a,x,c,y,b0,rfl,rfl,h0,hb⟩:=tL h;cases hx with
  |cons _ v1 _ vs1 h1 h2 =>
   cases hy with
   |cons _ v2 _ vs2 h3 h4 =>
    obtain rfl:=h1.fq;obtain rfl:=h3.fq;obtain⟨h5,h6⟩:=DT n h0 h2 h4;subst h5;exact⟨rfl,by simp only[List.zip_cons_cons,jO,h6,Instr.sameBits,BEq.rfl,Bool.and_self]⟩
 |none::ks,p,q,b,h,xs,ys,hx,hy=>by
  obtain⟨a,x,c,y,b0,rfl,rfl,h0,hb⟩:=xh h;cases hx with
  |cons _ v1 _ vs1 h1 h2 =>
   cases hy with
   |cons _ v2 _ vs2 h3 h4 =>
    obtain rfl:=h1.pv;obtain rfl:=h3.pv;obtain⟨h5,h6⟩:=DT n h0 h2 h4;subst h5;exact⟨rfl,by simp only[List.zip_cons_cons,jO,h6,Instr.sameBits,BEq.rfl,Bool.and_self]⟩
theorem anM{a b:ByteArray}(h:a.data.toList=b.data.toList):a=b:=by
 apply ByteArray.ext;exact gQ.1 h
theorem aee{ky:Ky}{a b:D}{x y:Value}(h:td ky a b=some true)(hx:bI g a x)(hy:bI g b y):x=y∧Instr.sameBits 10000 y x=true:=by
 unfold td at h;split at h
 ·split at h
  ·rename_i s1 s2;simp only[ae,beq_iff_eq]at h;subst h;obtain⟨b1,rfl,h1⟩:=hx.mD;obtain⟨b2,rfl,h2⟩:=hy.mD;obtain rfl:=anM (h1.trans h2.symm);exact⟨rfl,by rw[Instr.sameBits,beq_toListBytes];exact beq_self_eq_true _⟩
  ·cases h
 ·rename_i ag ks;split at h
  ·rename_i p q hp hq;obtain rfl:=Hh h;have h1:=vt hx hp;have h2:=vt hy hq;cases ag with
   |true =>
    simp only[vv,if_true]at h1 h2;obtain⟨xs,rfl,h3,_⟩:=h1;obtain⟨ys,rfl,h4,_⟩:=h2;obtain⟨h5,h6⟩:=DT 9999 h h4 h3;obtain rfl:=gQ.1 h5;exact⟨rfl,by simp only[Instr.sameBits,BEq.rfl,Bool.true_and];exact h6⟩
   |false =>
    simp only[vv,aw,if_false]at h1 h2;obtain⟨h5,h6⟩:=DT 10000 h h2 h1;simp only[kN,and_true]at h5;subst h5;exact⟨rfl,by simpa using h6⟩
  ·cases h
theorem Hr{t:TypeId}{ky:Ky}(h:Hq P t=some ky):(P.underlying t=some .string∧ky=none)∨(∃k,P.underlying t=some (.int k)∧ky=some (false,[some k])) ∨
  ∃fs ks,P.underlying t=some (.struct fs)∧mO P 20 t=some ks∧ky=some (true,ks)∧fs.toList.all (fun f=>match P.underlying f.type with | some (.int _)=>true | some .bool=>true | _=>false)=true:=by
 unfold Hq at h;split at h
 ·rename_i hu;cases h;exact .inl ⟨hu,rfl⟩
 ·rename_i k hu;cases h;exact .inr (.inl ⟨k,hu,rfl⟩)
 ·rename_i fs hu;split at h
  ·rename_i hall;obtain⟨ks,hks,rfl⟩:=ad.1 h;exact .inr (.inr ⟨fs,ks,hu,hks,rfl,hall⟩)
  ·cases h
 ·cases h
theorem IV{t:TypeId}{ky:Ky}(hk:Hq P t=some ky){a b:D}{c:Bool}{x y:Value}(h:td ky a b=some c)(hx:bI g a x)(hy:bI g b y):(Op.equal t x y).run P w=.ok c w:=by
 have key:∀ag ks,mO P 20 t=some ks→uT P t=some ag→td (some (ag,ks)) a b=some c→(Op.equal t x y).run P w=.ok c w:=by
  intro ag ks hks hag hq;simp only[td]at hq;split at hq
  case h_2=>cases hq
  rename_i p q hp hq2;obtain⟨ag',hag',_,hEq⟩:=D7 (P:=P) (g:=g) (w:=w) 20 t ks hks;rw[hag]at hag';cases hag';exact hEq 10000 (by omega) p q x y c (vt hx hp) (vt hy hq2) hq
 rcases Hr hk with⟨hu,rfl⟩ | ⟨k,hu,rfl⟩ | ⟨fs,ks,hu,hks,rfl,_⟩
 ·simp only[td]at h;split at h
  case h_2=>cases h
  rename_i s1 s2;cases h;obtain⟨b1,rfl,h1⟩:=hx.mD;obtain⟨b2,rfl,h2⟩:=hy.mD;have:=run_equalIn_string (P:=P) w 9999 t b1 b2 hu;simp only[Op.equal,Op.maxDepth];rw[this,ByteArray.toList_eq,ByteArray.toList_eq,h1,h2]
 ·exact key false [some k] (by simp[mO,hu]) (by simp[uT,hu]) h
 ·exact key true ks hks (by simp[uT,hu]) h
def Found(dG:List MapEntry)(r:Option (Nat×D))(g:G)(o:Option (Nat×Value))(i:Nat):Prop :=
 match r with
 |none=>o=none
 |some (j,v)=>∃e,dG[j]?=some e∧o=some (i+j,e.val)∧bI g v e.val
theorem Ko{k v:D}{a b:Value}(h:bI g (.dK [k,v]) (.tuple #[a,b])):bI g k a∧bI g v b:=by
 cases h with
 |dK _ _ hr =>
  cases hr with
  |cons _ _ _ _ h1 h2=>cases h2 with | cons _ _ _ _ h3 h4=>exact⟨h1,h3⟩
theorem GX{t:TypeId}{ky:Ky}(hk:Hq P t=some ky){k:D}{x:Value}(hx:bI g k x):∀(es:List D) (dG:List MapEntry) (r:Option (Nat×D)) (i:Nat),bC g es (dG.map fun e => .tuple #[e.key,e.val])→rq ky k es=some r →
  ∃o,(Instr.findAsking t x dG i).run P w=.ok o w∧Found dG r g o i
 |[],dG,r,i,hr,h=>by
  cases dG with
  |nil=>simp only[rq,ae]at h;subst h;exact⟨none,by simp[Instr.findAsking],rfl⟩
  |cons e dG=>cases hr
 |d::es,dG,r,i,hr,h=>by
  cases dG with
  |nil=>cases hr
  |cons e dG =>
   rw[aO]at hr;cases hr with
   |cons _ _ _ _ hr1 hr2 =>
   unfold rq at h;split at h
   ·rename_i heq;cases heq
   ·rename_i k' v es' heq;cases heq;obtain⟨hk1,hv1⟩:=Ko hr1;split at h
    ·rename_i hq;cases h;have he:=IV (w:=w) hk hq hx hk1;refine⟨some (i,e.val),by simp[Instr.findAsking,he],e,rfl,by simp,hv1⟩
    ·rename_i hq;simp only[ad]at h;obtain⟨r1,h1,rfl⟩:=h;have he:=IV (w:=w) hk hq hx hk1;obtain⟨o,ho,hf⟩:=GX hk hx es dG r1 (i+1) hr2 h1;refine⟨o,by simp[Instr.findAsking,he,ho],?_⟩;cases r1 with
     |none=>exact hf
     |some y =>
      obtain⟨e1,h3,h4,h5⟩:=hf;exact⟨e1,by simpa using h3,by rw[h4];congr 2;omega,h5⟩
    ·cases h
   ·cases h
theorem JV{t:TypeId}{ky:Ky}{dsc:TypeDesc}{k:D}{x:Value}(hs:∀k' y c,td ky k k'=some c→bI g k' y→Instr.sameNow dsc x y=some c):∀(es:List D) (dG:List MapEntry) (r:Option (Nat×D)) (i:Nat),bC g es (dG.map fun e => .tuple #[e.key,e.val])→rq ky k es=some r →
  ∃o,Instr.findNow dsc x dG i=some o∧Found dG r g o i
 |[],dG,r,i,hr,h=>by
  cases dG with
  |nil=>simp only[rq,ae]at h;subst h;exact⟨none,by simp[Instr.findNow],rfl⟩
  |cons e dG=>cases hr
 |d::es,dG,r,i,hr,h=>by
  cases dG with
  |nil=>cases hr
  |cons e dG =>
   rw[aO]at hr;cases hr with
   |cons _ _ _ _ hr1 hr2 =>
   unfold rq at h;split at h
   ·rename_i heq;cases heq
   ·rename_i k' v es' heq;cases heq;obtain⟨hk1,hv1⟩:=Ko hr1;split at h
    ·rename_i hq;cases h;exact⟨some (i,e.val),by simp[Instr.findNow,hs _ _ _ hq hk1],e,rfl,by simp,hv1⟩
    ·rename_i hq;simp only[ad]at h;obtain⟨r1,h1,rfl⟩:=h;obtain⟨o,ho,hf⟩:=JV (t:=t) hs es dG r1 (i+1) hr2 h1;refine⟨o,by simp[Instr.findNow,hs _ _ _ hq hk1,ho],?_⟩;cases r1 with
     |none=>exact hf
     |some y =>
      obtain⟨e1,h3,h4,h5⟩:=hf;exact⟨e1,by simpa using h3,by rw[h4];congr 2;omega,h5⟩
    ·cases h
   ·cases h
theorem yi{t:TypeId}{ky:Ky}(hk:Hq P t=some ky){k:D}{x:Value}(hx:bI g k x){es:List D}{dG:List MapEntry}{r:Option (Nat×D)}(hr:bC g es (dG.map fun e => .tuple #[e.key,e.val]))(h:rq ky k es=some r)
  (hself:(td ky k k).isSome=true):∃o,(Instr.findKey t x dG).run P w=.ok o w∧Found dG r g o 0:=by
 rcases Hr hk with⟨hu,rfl⟩ | ⟨kk,hu,rfl⟩ | ⟨fs,ks,hu,hks,rfl,_⟩
 ·obtain⟨o,h1,h2⟩:=JV (t:=t) (ky:=none) (k:=k) (x:=x) (dsc:=.string) (fun k' y c hq hy=>by
   simp only[td]at hq;split at hq
   case h_2=>cases hq
   cases hq;obtain⟨b1,rfl,h1⟩:=hx.mD;obtain⟨b2,rfl,h2⟩:=hy.mD;simp only[Instr.sameNow];rw[beq_toListBytes,ByteArray.toList_eq,ByteArray.toList_eq,h1,h2]) es dG r 0 hr h
  exact⟨o,MapKept.run_findKey hu h1,h2⟩
 ·obtain⟨o,h1,h2⟩:=JV (t:=t) (ky:=some (false,[some kk])) (k:=k) (x:=x) (dsc:=.int kk) (fun k' y c hq hy=>by
   simp only[td]at hq;split at hq
   case h_2=>cases hq
   rename_i p q hp hq2;have hx1:=vt hx hp;have hy1:=vt hy hq2;simp only[vv,aw,if_false]at hx1 hy1;obtain⟨a,xs,b,ys,b0,rfl,rfl,h0,rfl⟩:=tL hq;obtain⟨rfl,rfl,rfl⟩:=ve h0;cases hx1 with
   |cons _ _ _ _ g1 _ =>
    cases hy1 with
    |cons _ _ _ _ g2 _ =>
     obtain rfl:=g1.fq;obtain rfl:=g2.fq;simp[Instr.sameNow]) es dG r 0 hr h
  exact⟨o,MapKept.run_findKey hu h1,h2⟩
 ·obtain⟨o,h1,h2⟩:=GX (w:=w) hk hx es dG r 0 hr h;refine⟨o,?_,h2⟩;rw[run_findKey_eq w (by simp[hu])];exact h1
theorem AA(em:Bool){xs:Array Value}{p:List D}(hx:bC g p xs.toList)(h1x:∀y∈xs.toList,y.oneCell'=true):
  ∀(fs:List Field) (o:Nat) (ks:List (Option IntKind)) (q:List D) (b:Bool),mO.kindsF P (mO P 19) o fs=some ks→fs.all (fun f=>match P.underlying f.type with | some (.int _)=>true | some .bool=>true | _=>false)=true →
   Aa ks (p.drop o) q=some b →
   (forIn (m:=Sem) fs PUnit.unit fun f _=>do
    if f.name ≠ "_" then Instr.checkKey em 9999 f.type (← part f.type xs f.offset)
    pure (ForInStep.yield PUnit.unit)).run P w=.ok PUnit.unit w
 |[],o,ks,q,b,hk,ha,he=>by simp
 |f::fs,o,ks,q,b,hk,ha,he=>by
  simp only[mO.kindsF]at hk;split at hk
  case h_2=>cases hk
  rename_i k1 hk1;split at hk
  case isFalse=>cases hk
  rename_i hc;obtain⟨hname,hoff,hsz,hpos⟩:=hc;simp only[ad]at hk;obtain⟨k2,hk2,rfl⟩:=hk;simp only[jO,af]at ha;obtain⟨l1,l2⟩:=BW _ _ _ _ he;obtain⟨b1,b2,e1,e2,rfl⟩:=xg _ _ _ _ _ he;simp only[bz,List.length_drop]at l1 l2;have ih:=AA em hx h1x fs (o+k1.length) k2 (q.drop k1.length) b2 hk2 ha.2 (by simpa[ij]using e2);have one:∃a,(part f.type xs o).run P w=.ok a w∧(Instr.checkKey em 9999 f.type a).run P w=.ok () w:=by
   have h0:=ha.1;split at h0
   ·rename_i k hu;have hk1':k1=[some k]:=by simp[mO,hu]at hk1;exact hk1.symm
    subst hk1';obtain⟨a,hpa,hra⟩:=B8 (P:=P) (w:=w) (ag:=false) (n:=1) (o:=o) (by simp[uT,hu]) hsz (fun _=>rfl) hx h1x (by simp only[aJ,bF]at l1 ⊢;omega);simp only[vv,aw,if_false]at hra;obtain⟨a0,x0,c0,y0,b0,e3,_,_,_⟩:=tL e1;simp only[aJ,bF,cS]at e3;rw[e3]at hra;cases hra with
    |cons _ _ _ _ g1 g2 =>
     obtain rfl:=g1.fq;exact⟨_,hpa,MapKept.run_checkKey (d:=.int k) hu (by simp[MapKept.IsKey]) em 9998⟩
   ·rename_i hu;have hk1':k1=[none]:=by simp[mO,hu]at hk1;exact hk1.symm
    subst hk1';obtain⟨a,hpa,hra⟩:=B8 (P:=P) (w:=w) (ag:=false) (n:=1) (o:=o) (by simp[uT,hu]) hsz (fun _=>rfl) hx h1x (by simp only[aJ,bF]at l1 ⊢;omega);simp only[vv,aw,if_false]at hra;obtain⟨a0,x0,c0,y0,b0,e3,_,_,_⟩:=xh e1;simp only[aJ,bF,cS]at e3;rw[e3]at hra;cases hra with
    |cons _ _ _ _ g1 g2 =>
     obtain rfl:=g1.pv;exact⟨_,hpa,MapKept.run_checkKey (d:=.bool) hu (by simp[MapKept.IsKey]) em 9998⟩
   ·cases h0
  obtain⟨a,h1,h2⟩:=one;rw[List.forIn_cons];rw[hoff];simp only[hname,ne_eq,not_false_eq_true,if_true,Sem.run_bind,h1,h2,Result.andThen_ok,Sem.run_pure];exact ih
theorem DP{t:TypeId}{ky:Ky}(hk:Hq P t=some ky){k:D}{x:Value}(hx:bI g k x)(hself:(td ky k k).isSome=true)(em:Bool):(Instr.checkKey em 10000 t x).run P w=.ok () w:=by
 rcases Hr hk with⟨hu,rfl⟩ | ⟨kk,hu,rfl⟩ | ⟨fs,ks,hu,hks,rfl,hall⟩
 ·refine MapKept.run_checkKey (d:=.string) hu ?_ em 9999;obtain⟨c,hc⟩:=dw.1 hself;simp only[td]at hc;split at hc
  case h_2=>cases hc
  obtain⟨b1,rfl,h1⟩:=hx.mD;simp[MapKept.IsKey]
 ·refine MapKept.run_checkKey (d:=.int kk) hu ?_ em 9999;obtain⟨c,hc⟩:=dw.1 hself;simp only[td]at hc;split at hc
  case h_2=>cases hc
  rename_i p q hp hq2;have hx1:=vt hx hp;simp only[vv,aw,if_false]at hx1;obtain⟨a,xs,b,ys,b0,rfl,_,h0,rfl⟩:=tL hc;obtain⟨rfl,_,rfl⟩:=ve h0;cases hx1 with
  |cons _ _ _ _ g1 _ =>
   obtain rfl:=g1.fq;simp[MapKept.IsKey]
 ·obtain⟨c,hc⟩:=dw.1 hself;simp only[td]at hc;split at hc
  case h_2=>cases hc
  rename_i p q hp hq2;have hx1:=vt hx hp;simp only[vv,if_true]at hx1;obtain⟨xs,rfl,hxr,h1x⟩:=hx1;have hks':mO.kindsF P (mO P 19) 0 fs.toList=some ks:=by
   have:=hks;rw[mO,hu]at this;dsimp only at this;split at this
   ·cases this
   ·exact this
  have hrun:=AA (P:=P) (w:=w) em hxr h1x fs.toList 0 ks q c hks' hall (by simpa using hc);rw[show(10000:Nat)=9999+1 from rfl,Instr.checkKey];simp only[Sem.run_bind,run_underlying hu,Result.andThen_ok];rw[← Array.forIn_toList];simp at hrun ⊢;rw[hrun];rfl
end
section
variable {P:Program} {CR:fZ} {base fb:Nat} {V:List Nat} {g:G} {σ σ':SK} {w:World} {B:Nat→Nat} {e:Env} {tmps:Array Value} {df:List Deferred} {d:D}
theorem Inv.aeB(hi:Inv CR base g σ w){l i:Nat}(hn:ie σ (.cells 0 [])=some (l,i,σ')):
  Inv CR base (g.cG l i (.mp w.heap.size)) σ' (w.alloc (.map #[] 0))∧Ev g w (g.cG l i (.mp w.heap.size)) (w.alloc (.map #[] 0)):=by
 obtain⟨h1,h2,h3,_,_⟩:=kg hn;have hnone:=hi.B6 h1;have hle:g.le (g.cG l i (.mp w.heap.size)):=G.kJ fun L0 e=>by rw[hnone]at e;cases e
 refine⟨hi.Em l i hle h3 (fun l' i' c=>G.bB c) (fun l' i' L b c e eb=>alloc_old (hi.lo l' i' L b e eb).2) ?_ ?_ ?_ ?_ (by simp) ⟨_,G.aH⟩ (fun b v hb=>alloc_old (hi.jK hb)),⟨hle,rfl,rfl,rfl,by simp,fun b hb _=>alloc_old hb,?_,fun b o v hv => .inl hv⟩⟩
 ·intro L e;rw[G.aH]at e;cases e;exact⟨_,h2,rfl,#[],0,tn,.nil,by simp[N7]⟩
 ·intro b o v e;obtain⟨h1,h2⟩:=hi.re b o v e;exact⟨(iZ (alloc_old (hi.jK e))).trans h1,h2⟩
 ·intro l' i' L b e eb o;by_cases c:l'=l∧i'=i
  ·obtain⟨rfl,rfl⟩:=c;rw[G.aH]at e;cases e;cases eb;cases e':(g.cG l' i' (.mp w.heap.size)).re w.heap.size o with
   |none=>rfl
   |some v=>have:=hi.jK (b:=w.heap.size) (o:=o) (v:=v) e';omega
  ·rw[G.bB c]at e;exact hi.sep l' i' L b e eb o
 ·intro L b e eb;rw[G.aH]at e;cases e;cases eb;refine⟨hi.ge,by simp,fun l' i' L' c e' eb'=>?_⟩;have:=(hi.lo l' i' L' _ e' eb').2;omega
 ·intro b hb;obtain⟨l',i',L,e,eb⟩:=hb;by_cases c:l'=l∧i'=i
  ·obtain⟨rfl,rfl⟩:=c;rw[G.aH]at e;cases e;cases eb;exact .inr (aK _)
  ·rw[G.bB c]at e;exact .inl ⟨l',i',L,e,eb⟩
theorem Inv.arI(hi:Inv CR base g σ w){l i T ee:Nat}(hn:ie σ (.cells 2 [.int .i64 (T:Nat),.int .i64 (ee:Nat),.str []])=some (l,i,σ')):
  Inv CR base (g.cG l i (.ob w.heap.size none)) σ' (w.alloc (.cells #[.pointer none,.slice none 0 0] T))∧Ev g w (g.cG l i (.ob w.heap.size none)) (w.alloc (.cells #[.pointer none,.slice none 0 0] T)):=by
 obtain⟨h1,h2,h3,_,_⟩:=kg hn;have hnone:=hi.B6 h1;have hle:g.le (g.cG l i (.ob w.heap.size none)):=G.kJ fun L0 e=>by rw[hnone]at e;cases e
 have hown:∀b,(Loc.ob w.heap.size none).owns b→w.heap.size=b:=fun b h=>by
  rcases h with h | h
  ·exact h
  ·cases h
 refine⟨hi.Em l i hle h3 (fun l' i' c=>G.bB c) (fun l' i' L b c e eb=>alloc_old (hi.lo l' i' L b e eb).2) ?_ ?_ ?_ ?_ (by simp) ⟨_,G.aH⟩ (fun b v hb=>alloc_old (hi.jK hb)),⟨hle,rfl,rfl,rfl,by simp,fun b hb _=>alloc_old hb,?_,fun b o v hv => .inl hv⟩⟩
 ·intro L e;rw[G.aH]at e;cases e;exact⟨_,h2,rfl,T,ee,[],.pointer none,.slice none 0 0,rfl,tn,.inl rfl,World.ownsRowF_nil _ _ _ _,rfl,by simp⟩
 ·intro b o v e;obtain⟨h1,h2⟩:=hi.re b o v e;exact⟨(iZ (alloc_old (hi.jK e))).trans h1,h2⟩
 ·intro l' i' L b e eb o;by_cases c:l'=l∧i'=i
  ·obtain⟨rfl,rfl⟩:=c;rw[G.aH]at e;cases e;obtain rfl:=hown b eb;cases e':(g.cG l' i' (.ob w.heap.size none)).re w.heap.size o with
   |none=>rfl
   |some v=>have:=hi.jK (b:=w.heap.size) (o:=o) (v:=v) e';omega
  ·rw[G.bB c]at e;exact hi.sep l' i' L b e eb o
 ·intro L b e eb;rw[G.aH]at e;cases e;obtain rfl:=hown b eb;refine⟨hi.ge,by simp,fun l' i' L' c e' eb'=>?_⟩;have:=(hi.lo l' i' L' _ e' eb').2;omega
 ·intro b hb;obtain⟨l',i',L,e,eb⟩:=hb;by_cases c:l'=l∧i'=i
  ·obtain⟨rfl,rfl⟩:=c;rw[G.aH]at e;cases e;obtain rfl:=hown b eb;exact .inr (aK _)
  ·rw[G.bB c]at e;exact .inl ⟨l',i',L,e,eb⟩
theorem Inv.aeW(hi:Inv CR base g σ w){l i b:Nat}{b0:aE}{es:List D}(hL:g.loc l i=some (.mp b))(hb:eo σ l i=some b0){dG:Array MapEntry}{clock:Nat}
  (hr:bC g es (dG.toList.map fun e => .tuple #[e.key,e.val])) (hm:N7 dG.toList clock) {w':World} (hw:w'={w with heap:=w.heap.setIfInBounds b (.map dG clock) }):
  Inv CR base (g.cG l i (.mp b)) (aV σ l i (.cells 0 es)) w'∧Ev g w (g.cG l i (.mp b)) w':=by
 subst hw;have hlt:=(hi.lo l i _ b hL rfl).2;have hle:g.le (g.cG l i (.mp b)):=G.kJ fun L0 e=>by rw[hL]at e;cases e;exact Loc.le_refl _
 refine hi.setCells hL hb (Loc.le_refl _) ⟨rfl,dG,clock,by simp[hlt],hr.mono hle,hm⟩ (fun b' hb' hne=>?_) rfl rfl rfl (by simp) (fun b' hb' => .inl hb');have:b≠b':=fun hh=>hne (by rw[hh];rfl)
 simp[this]
theorem zt(hi:Inv CR base g σ w){m:D}{c:Value}(hr:bI g m c){l i:Nat}{es:List D}(h:AU σ m=some (l,i,es)):
  ∃b dG clock v,c=.map (some b)∧g.loc l i=some (.mp b)∧eo σ l i=some (.cells v es)∧w.heap[b]?=some (.map dG clock)∧bC g es (dG.toList.map fun e => .tuple #[e.key,e.val])∧N7 dG.toList clock:=by
 obtain⟨rfl,hcs⟩:=LO h;unfold cells? at hcs;split at hcs
 case h_2=>cases hcs
 rename_i v' cs' hblk;split at hcs
 case isFalse=>cases hcs
 cases hcs;cases hr with
 |mH _ _ b hl =>
  obtain⟨b0,hb0,hrel⟩:=hi.wP l i _ hl;rw[hblk]at hb0;cases hb0;exact hrel.elim
 |Qg _ _ b hl =>
  obtain⟨b0,hb0,hrel⟩:=hi.wP l i _ hl;rw[hblk]at hb0;cases hb0;obtain⟨_,dG,clock,h1,h2,h3⟩:=hrel;exact⟨b,dG,clock,v',rfl,hl,hblk,h1,h2,h3⟩
 |itv _ _ b L hl hc =>
  obtain⟨b0,hb0,hrel⟩:=hi.wP l i _ hl;rw[hblk]at hb0;cases hb0;rcases hc with rfl | rfl
  ·rename_i hv0;obtain⟨hv1,_⟩:=hrel;omega
  ·exact hrel.elim
 |Q3 _ _ b L hl hc =>
  obtain⟨b0,hb0,hrel⟩:=hi.wP l i _ hl;rw[hblk]at hb0;cases hb0;rcases hc with⟨c,rfl⟩ | rfl
  ·rename_i hv0;obtain⟨hv1,_⟩:=hrel;omega
  ·exact hrel.elim
theorem awD(hi:Inv CR base g σ w){t:TypeId}{ρ:Operand→Value}(h:bL e σ (.mp .make [])=some (d,σ'))(o:Oper)(ho:o.op=.makeMap t none):fV P CR base g w B e ρ o d σ':=by
 simp only[bL,bQ,AV,ad,ak,Prod.exists]at h;obtain⟨l,i,σ1,hn,rfl,rfl⟩:=h;obtain⟨i1,e1⟩:=hi.aeB hn;exact .val (.map (some w.heap.size)) (by
  have hrun:(Instr.makeMap t none).run P w=.ok (.map (some w.heap.size)) (w.alloc (.map #[] 0)):=rfl;simp only[execOp,ho,Option.map_none,Sem.run_bind,hrun,Result.andThen_ok,Sem.run_pure]) e1 i1 (.Qg l i _ G.aH)
theorem awA(hi:Inv CR base g σ w){el ee:TypeId}{ρ:Operand→Value}(hz:rZ P el=some [.xw,.aG])
  (h:bL e σ (.mp (.lh el ee) [])=some (d,σ')) (o:Oper) (ho:o.op=.alloc el):fV P CR base g w B e ρ o d σ':=by
 obtain⟨i0,v,hinfo,hzero,hrz,h1⟩:=tB g hz;simp only[bL,bQ,AV,ad,ak,Prod.exists]at h;obtain⟨l,i,σ1,hn,rfl,rfl⟩:=h;obtain⟨i1,e1⟩:=hi.arI hn;have hv:v.cells = #[.pointer none,.slice none 0 0]:=by
  generalize v.cells=a at hrz;obtain⟨a⟩:=a;dsimp only at hrz;cases hrz with
  |cons _ c _ cs k1 k2 =>
   cases k2 with
   |cons _ c2 _ cs2 k3 k4 =>
    cases k4;cases k1;cases k3;rfl
 have hrun:=Fc (w:=w) hinfo hzero;rw[hv]at hrun;exact .val (.pointer (some ⟨w.heap.size,0,none⟩)) (by simp[execOp,ho,hrun]) e1 i1 (.Q3 l i _ _ G.aH (.inl ⟨_,rfl⟩))
theorem asy(hi:Inv CR base g σ w){t kt et:TypeId}{ik:IntKind}{n:Int}(h:bL e σ (.mp .make [])=some (d,σ'))(ht:P.underlying t=some (.map kt et))(o:Oper)(ho:o.op=.makeMap t (some (.const (.int ik n)))):fV P CR base g w B e (Act.mk tmps df).eval o d σ':=by
 simp only[bL,bQ,AV,ad,ak,Prod.exists]at h;obtain⟨l,i,σ1,hn,rfl,rfl⟩:=h;obtain⟨i1,e1⟩:=hi.aeB hn;exact .val (.map (some w.heap.size)) (by
  have hrun:(Instr.makeMap t (some (.int ik n))).run P w=.ok (.map (some w.heap.size)) (w.alloc (.map #[] 0)):=by
   simp only[Instr.makeMap,Sem.run_bind,bq ht,Result.andThen_ok];rfl
  have hev:(Act.mk tmps df).eval (.const (.int ik n))=.int ik n:=rfl;simp only[execOp,ho,aT,hev,Sem.run_bind,hrun,Result.andThen_ok,Sem.run_pure]) e1 i1 (.Qg l i _ G.aH)
theorem asz(hf:Fr fb V g w B e tmps)(hi:Inv CR base g σ w){x:Operand}{X:bK}{t kt et:TypeId}{args:Array Operand}{ts:Array TypeId}{r:List Operand}{tr:List TypeId}(hx:bE x=some X)
  (ht:P.underlying t=some (.map kt et)) (ha:args.toList=x::r) (hts:ts.toList=t::tr)
  (h:bL e σ (.mp .len [X])=some (d,σ')) (o:Oper) (ho:o.op=.call {callee:=.builtin .len,args,argTypes:=ts }):fV P CR base g w B e (Act.mk tmps df).eval o d σ':=by
 have hr:=hf.bj (df:=df) hx;obtain rfl:args=(x::r).toArray:=by rw[← ha]
 obtain rfl:ts=(t::tr).toArray:=by rw[← hts]
 simp only[bL,aO,bQ,AV,ad,ak,Prod.exists]at h;obtain⟨l,i,es,hm,rfl,rfl⟩:=h;obtain⟨b,dG,clock,v,hc,hl,hblk,hheap,hrel,hok⟩:=zt hi hr hm;have hlen:=hrel.length;simp only[cT,Array.length_toList]at hlen;refine .pure hi (c:=.int .i64 dG.size) ?_ (by rw[hlen];exact cJ.of (.int _ _));simp[execOp,ho,resolve,invoke,builtin,Builtin.len_,hc,bq ht,goInt,MapKept.run_getObj_map hheap]
theorem Kr{t:TypeId}{z:D}(g:G)(h:zvC P t=some z):∃i v,P.info? t=some i∧i.zero=some v∧bI g z v:=by
 unfold zvC at h;split at h
 ·rename_i i hi;split at h
  ·rename_i v hv;exact⟨i,v,hi,hv,G6 g h⟩
  ·cases h
 ·cases h
theorem asx(hf:Fr fb V g w B e tmps)(hi:Inv CR base g σ w){x y:Operand}{X Y:bK}{t kt et:TypeId}{ky:Ky}{z:D}{ok:Bool}(hx:bE x=some X)(hy:bE y=some Y)
  (ht:P.underlying t=some (.map kt et)) (hk:Hq P kt=some ky) (hz:zvC P et=some z)
  (h:bL e σ (.mp (.get ky z ok) [X,Y])=some (d,σ')) (o:Oper) (ho:o.op=.lookup t x y ok):fV P CR base g w B e (Act.mk tmps df).eval o d σ':=by
 have hr:=hf.bj (df:=df) hx;have hr':=hf.bj (df:=df) hy;simp only[bL,aO,bQ,AV]at h;split at h
 case h_2=>cases h
 rename_i l i es hm;split at h
 case isFalse=>cases h
 rename_i hself;obtain⟨b,dG,clock,v,hc,hl,hblk,hheap,hrel,hok⟩:=zt hi hr hm;have hck:=DP (w:=w) hk hr' hself dG.isEmpty;obtain⟨iz,zv,hz1,hz2,hz3⟩:=Kr g hz;split at h
 ·rename_i j v1 hfk;cases h;obtain⟨o1,ho1,e1,_,rfl,hv1⟩:=yi (w:=w) hk hr' hrel hfk hself;cases ok
  ·refine .pure hi (c:=e1.val) ?_ (cJ.of (by simpa using hv1));simp[execOp,ho,Instr.lookup,bq ht,hc,MapKept.run_getObj_map hheap,hck,ho1]
  ·refine .pure hi (c:=.tuple #[e1.val,.bool true]) ?_ (cJ.of (by simpa using bI.dK _ #[e1.val,.bool true] (.cons _ _ _ _ hv1 (.cons _ _ _ _ (.bool true) .nil))));simp[execOp,ho,Instr.lookup,bq ht,hc,MapKept.run_getObj_map hheap,hck,ho1]
 ·rename_i hfk;cases h;obtain⟨o1,ho1,hf1⟩:=yi (w:=w) hk hr' hrel hfk hself;obtain rfl:o1=none:=hf1;cases ok
  ·refine .pure hi (c:=zv) ?_ (cJ.of (by simpa using hz3));simp[execOp,ho,Instr.lookup,bq ht,hc,MapKept.run_getObj_map hheap,hck,ho1,ig hz1 hz2]
  ·refine .pure hi (c:=.tuple #[zv,.bool false]) ?_ (cJ.of (by simpa using bI.dK _ #[zv,.bool false] (.cons _ _ _ _ hz3 (.cons _ _ _ _ (.bool false) .nil))));simp[execOp,ho,Instr.lookup,bq ht,hc,MapKept.run_getObj_map hheap,hck,ho1,ig hz1 hz2]
 ·cases h
theorem bC.set{g:G}:∀{ds:List D} {cs:List Value} {j:Nat} {d:D} {c:Value},bC g ds cs→bI g d c→bC g (ds.set j d) (cs.set j c)
 |[],[],_,_,_,_,_=>by simpa using bC.nil
 |_::_,_::_,0,_,_,.cons _ _ _ _ h1 h2,h => .cons _ _ _ _ h h2
 |_::_,_::_,j+1,_,_,.cons _ _ _ _ h1 h2,h => .cons _ _ _ _ h1 (h2.set h)
theorem aeT(hf:Fr fb V g w B e tmps)(hi:Inv CR base g σ w){x y u:Operand}{X Y U:bK}{t kt et:TypeId}{ky:Ky}(hx:bE x=some X)(hy:bE y=some Y)(hu:bE u=some U)
  (ht:P.underlying t=some (.map kt et)) (hk:Hq P kt=some ky)
  (h:bL e σ (.mp (.put ky) [X,Y,U])=some (d,σ')) (o:Oper) (ho:o.op=.mapUpdate t x y u∨o.op=.insert t x y u):fV P CR base g w B e (Act.mk tmps df).eval o d σ':=by
 have hr:=hf.bj (df:=df) hx;have hr':=hf.bj (df:=df) hy;have hru:=hf.bj (df:=df) hu;simp only[bL,aO,bQ,AV]at h;split at h
 case h_2=>cases h
 rename_i l i es hm;split at h
 case isFalse=>cases h
 rename_i hself;obtain⟨b,dG,clock,v,hc,hl,hblk,hheap,hrel,hok⟩:=zt hi hr hm;have hck:=DP (w:=w) hk hr' hself.1 false;generalize hkv:(Act.mk tmps df).eval y=kv at *
 generalize huv:(Act.mk tmps df).eval u=uv at *
 have hnew:bI g (.dK [bj e Y,bj e U]) (.tuple #[kv,uv]):=.dK _ _ (.cons _ _ _ _ hr' (.cons _ _ _ _ hru .nil));split at h
 ·rename_i j v1 hfk;cases h;obtain⟨o1,ho1,e1,he1,rfl,hv1⟩:=yi (w:=w) hk hr' hrel hfk hself.1;obtain⟨k',hk',hkq⟩:=IJ hfk;have hj:dG[j]?=some e1:=by simpa using he1
  have hold:bI g k' e1.key:=by
   obtain⟨c0,hc0,hr0⟩:=hrel.get hk';rw[pV,he1]at hc0;cases hc0;exact(Ko hr0).1
  obtain⟨hsame,hbits⟩:=aee hkq hr' hold;have hlist:(dG.modify j fun e=>{e with key:=kv,val:=uv }).toList=dG.toList.set j {e1 with key:=kv,val:=uv }:=by
   rw[Array.toList_modify];apply eU;intro n;rw[List.getElem?_modify,List.getElem?_set];by_cases hn:j=n
   ·subst hn;have hlt:=(au.1 he1).1;have hlt2:j<dG.size:=by simpa using hlt
    have hje:dG[j]=e1:=(cU.1 hj).2;simp[he1,hlt2,hje]
   ·simp[hn]
  obtain⟨i1,ev1⟩:=hi.aeW (es:=es.set j (.dK [bj e Y,bj e U])) (dG:=dG.modify j fun e=>{e with key:=kv,val:=uv }) (clock:=clock) (w':={w with heap:=w.heap.setIfInBounds b (.map (dG.modify j fun e=>{e with key:=kv,val:=uv }) clock) }) hl hblk (by
    rw[hlist,List.map_set];exact hrel.set hnew) (by
    have hlt:=(au.1 he1);rw[hlist];refine⟨?_,by rw[List.length_set];exact hok.2⟩;rw[List.map_set,List.length_set];have:(dG.toList.map (·.born)).set j e1.born=dG.toList.map (·.born):=by
     apply eU;intro n;rw[List.getElem?_set];by_cases hn:j=n
     ·subst hn;have hlt2:j<dG.size:=by simpa using hlt.1
      have hje:dG[j]=e1:=(cU.1 hj).2;simp[he1,hlt2,hje]
     ·simp[hn]
    rw[this];exact hok.1) rfl
  refine⟨.skip,Go.undef,_,_,?_,rfl,ev1,i1,.undef _⟩;have hkts:∀w:World,(Instr.keyThatStays e1.key kv).run P w=.ok kv w:=fun w=>by simp[Instr.keyThatStays,hbits]
  rcases ho with ho | ho<;>simp[execOp,ho,Instr.mapUpdate,bq ht,hc,hkv,huv,MapKept.run_getObj_map hheap,hck,ho1,hj,hkts,MapKept.run_setObj_map _ hheap]
 ·rename_i hfk;cases h;obtain⟨o1,ho1,hf1⟩:=yi (w:=w) hk hr' hrel hfk hself.1;obtain rfl:o1=none:=hf1;obtain⟨i1,ev1⟩:=hi.aeW (es:=es++[.dK [bj e Y,bj e U]]) (dG:=dG.push {key:=kv,val:=uv,born:=clock }) (clock:=clock+1) (w':={w with heap:=w.heap.setIfInBounds b (.map (dG.push {key:=kv,val:=uv,born:=clock }) (clock+1)) }) hl hblk (by
    rw[Array.toList_push,List.map_append];exact hrel.append (.cons _ _ _ _ hnew .nil)) (by
    rw[Array.toList_push];have h2:=hok.2;refine⟨?_,by simp only[bz,aJ,bF];omega⟩;rw[List.map_append,hok.1,bz,aJ,bF,cS,List.range_succ];simp only[aO,bQ,h2]) rfl
  refine⟨.skip,Go.undef,_,_,?_,rfl,ev1,i1,.undef _⟩;rcases ho with ho | ho<;>simp[execOp,ho,Instr.mapUpdate,bq ht,hc,hkv,huv,MapKept.run_getObj_map hheap,hck,ho1,MapKept.run_setObj_map _ hheap]
 ·cases h
theorem Inv.agG(hi:Inv CR base g σ w){l i lm im bm n:Nat}(hn:ie σ (.cells 1 [.mH lm im,.int .i64 (n:Nat)])=some (l,i,σ'))(hm:g.loc lm im=some (.mp bm)):
  Inv CR base (g.cG l i (.it w.heap.size)) σ' (w.alloc (.mapIter (some bm) n #[] n))∧Ev g w (g.cG l i (.it w.heap.size)) (w.alloc (.mapIter (some bm) n #[] n)):=by
 obtain⟨h1,h2,h3,_,_⟩:=kg hn;have hnone:=hi.B6 h1;have hle:g.le (g.cG l i (.it w.heap.size)):=G.kJ fun L0 e=>by rw[hnone]at e;cases e
 refine⟨hi.Em l i hle h3 (fun l' i' c=>G.bB c) (fun l' i' L b c e eb=>alloc_old (hi.lo l' i' L b e eb).2) ?_ ?_ ?_ ?_ (by simp) ⟨_,G.aH⟩ (fun b v hb=>alloc_old (hi.jK hb)),⟨hle,rfl,rfl,rfl,by simp,fun b hb _=>alloc_old hb,?_,fun b o v hv => .inl hv⟩⟩
 ·intro L e;rw[G.aH]at e;cases e;have hm2:(g.cG l i (.it w.heap.size)).loc lm im=some (.mp bm):=by
   rw[G.bB fun hh=>by rw[hh.1,hh.2,hnone]at hm;cases hm];exact hm
  exact⟨_,h2,rfl,lm,im,bm,n,[],rfl,hm2,tn,List.nodup_nil,by simp⟩
 ·intro b o v e;obtain⟨h1,h2⟩:=hi.re b o v e;exact⟨(iZ (alloc_old (hi.jK e))).trans h1,h2⟩
 ·intro l' i' L b e eb o;by_cases c:l'=l∧i'=i
  ·obtain⟨rfl,rfl⟩:=c;rw[G.aH]at e;cases e;cases eb;cases e':(g.cG l' i' (.it w.heap.size)).re w.heap.size o with
   |none=>rfl
   |some v=>have:=hi.jK (b:=w.heap.size) (o:=o) (v:=v) e';omega
  ·rw[G.bB c]at e;exact hi.sep l' i' L b e eb o
 ·intro L b e eb;rw[G.aH]at e;cases e;cases eb;refine⟨hi.ge,by simp,fun l' i' L' c e' eb'=>?_⟩;have:=(hi.lo l' i' L' _ e' eb').2;omega
 ·intro b hb;obtain⟨l',i',L,e,eb⟩:=hb;by_cases c:l'=l∧i'=i
  ·obtain⟨rfl,rfl⟩:=c;rw[G.aH]at e;cases e;cases eb;exact .inr (aK _)
  ·rw[G.bB c]at e;exact .inl ⟨l',i',L,e,eb⟩
theorem awG(hf:Fr fb V g w B e tmps)(hi:Inv CR base g σ w){x:Operand}{X:bK}{t kt et:TypeId}(hx:bE x=some X)(ht:P.underlying t=some (.map kt et))
  (h:bL e σ (.mp .rng [X])=some (d,σ')) (o:Oper) (ho:o.op=.range t x):fV P CR base g w B e (Act.mk tmps df).eval o d σ':=by
 have hr:=hf.bj (df:=df) hx;simp only[bL,aO,bQ,AV]at h;split at h
 case h_2=>cases h
 rename_i lm im es hm;obtain⟨b,dG,clock,v,hc,hl,hblk,hheap,hrel,hok⟩:=zt hi hr hm;simp only[ad,ak,Prod.exists]at h;obtain⟨l,i,σ1,hn,rfl,rfl⟩:=h;have hlen:=hrel.length;simp only[cT]at hlen;have hck:clock=es.length:=by rw[hlen];exact hok.2
 obtain⟨i1,e1⟩:=hi.agG hn hl;have hrun:=run_range_map (P:=P) w t kt et b dG clock ht hheap;rw[hck]at hrun;exact .val (.pointer (some ⟨w.heap.size,0,none⟩)) (by simp[execOp,ho,hc,hrun]) e1 i1 (.itv l i _ _ G.aH (.inl rfl))
theorem aws(hf:Fr fb V g w B e tmps)(hi:Inv CR base g σ w){x:Operand}{X:bK}(hx:bE x=some X)
  (h:bL e σ (.mp .ent [X])=some (d,σ')) (o:Oper) (ho:o.op=.entry x):fV P CR base g w B e (Act.mk tmps df).eval o d σ':=by
 have hr:=hf.bj (df:=df) hx;simp only[bL,aO,bQ]at h;generalize bj e X=dx at hr h;cases dx<;>simp only[AV,reduceCtorEq]at h;rename_i l i;split at h
 case h_2=>cases h
 rename_i m n j rest hcs;split at h
 case h_2=>cases h
 rename_i lm im es hm;split at h
 case isFalse=>cases h
 rename_i hlen;split at h
 case h_2=>cases h
 rename_i k v hj;cases h;unfold cells? at hcs;split at hcs
 case h_2=>cases hcs
 rename_i v' cs' hblk;split at hcs
 case isFalse=>cases hcs
 rename_i hv1;cases hcs;generalize hcv:(Act.mk tmps df).eval x=cv at hr;cases hr with
 |mH _ _ b hl =>
  obtain⟨b0,hb0,hrel⟩:=hi.wP l i _ hl;rw[hblk]at hb0;cases hb0;exact hrel.elim
 |Qg _ _ b hl =>
  obtain⟨b0,hb0,hrel⟩:=hi.wP l i _ hl;rw[hblk]at hb0;cases hb0;have:=hrel.1;omega
 |Q3 _ _ b L hl hc =>
  obtain⟨b0,hb0,hrel⟩:=hi.wP l i _ hl;rw[hblk]at hb0;cases hb0;rcases hc with⟨c,rfl⟩ | rfl
  ·have:=hrel.1;omega
  ·exact hrel.elim
 |itv _ _ b L hl hc =>
  obtain⟨b0,hb0,hrel⟩:=hi.wP l i _ hl;rw[hblk]at hb0;cases hb0;rcases hc with rfl | rfl
  rotate_left
  ·exact hrel.elim
  obtain⟨_,lm',im',bm,n',js,hcs,hlm,hheap,hnd,hlt⟩:=hrel;cases js with
  |nil=>simp at hcs
  |cons j' js =>
   simp only[aO,kN,D.int.injEq,true_and]at hcs;obtain⟨rfl,rfl,rfl,_⟩:=hcs;obtain⟨b2,dG,clock,v2,hc2,hl2,hblk2,hheap2,hrel2,hok⟩:=zt hi (.Qg lm' im' bm hlm) hm;cases hc2;have hlen2:=hrel2.length;simp only[cT]at hlen2;obtain⟨c0,hc0,hr0⟩:=hrel2.get hj;rw[pV]at hc0;simp only[Int.toNat_natCast]at hc0;obtain⟨e1,he1,rfl⟩:=ad.1 hc0;have hborn:e1.born=j':=by
    have h1:=congrArg (fun l=>l[j']?) hok.1;simp only[pV,he1,aT]at h1;have h2:=(au.1 he1).1;rw[List.getElem?_range h2]at h1;exact Option.some.inj h1
   have hck:clock=n':=by have:=hok.2;omega
   have hnd2:(dG.toList.map (·.born)).Nodup:=by rw[hok.1];exact List.nodup_range
   have hit:w.heap[b]?=some (.mapIter (some bm) n' (js.reverse.toArray.push e1.born) clock):=by
    rw[hheap,hborn,hck];simp
   have hrun:=run_entry_at (P:=P) w b bm n' js.reverse.toArray dG clock e1 hit hheap2 (ai he1) hnd2;refine .pure hi (c:=.tuple #[e1.key,e1.val]) ?_ (cJ.of hr0);simp[execOp,ho,hcv,hrun]
end
variable {P:Program} {CR:fZ} {base fb:Nat} {V:List Nat} {g:G} {σ σ':SK} {w:World} {B:Nat→Nat} {e:Env} {tmps:Array Value} {df:List Deferred} {d:D}
theorem awC(hf:Fr fb V g w B e tmps)(hi:Inv CR base g σ w){x:Operand}{X:bK}{t:TypeId}(hx:bE x=some X)(hc:P.concrete t=true)
  (h:bL e σ (.mki t X)=some (d,σ')) (o:Oper) (ho:o.op=.makeInterface t x):fV P CR base g w B e (Act.mk tmps df).eval o d σ':=by
 have hr:=hf.bj (df:=df) hx;simp only[bL,ae,ak]at h;obtain⟨rfl,rfl⟩:=h;exact .pure hi (c:=.iface t ((Act.mk tmps df).eval x)) (by simp[execOp,ho,run_makeInterface w t _ hc]) (cJ.of (.uj t _ _ hr))
theorem am0(hf:Fr fb V g w B e tmps)(hi:Inv CR base g σ w){x:Operand}{X:bK}{t xt:TypeId}{dsc:TypeDesc}{ok:Bool}{z:Option D}(hx:bE x=some X)(ht:P.underlying t=some dsc)(hn:∀ms,dsc ≠ .interface ms)
  (hz:if ok then ∃z0,z=some z0∧zvC P t=some z0 else z=none)
  (h:bL e σ (.tas t z X)=some (d,σ')) (o:Oper) (ho:o.op=.typeAssert x xt t ok):fV P CR base g w B e (Act.mk tmps df).eval o d σ':=by
 have hr:=hf.bj (df:=df) hx;simp only[bL,ad,ak]at h;obtain⟨d0,h,rfl,rfl⟩:=h;generalize hcx:(Act.mk tmps df).eval x=cx at hr;generalize bj e X=dx at hr h;cases hr with
 |uj t' d1 c h1 =>
  simp only[NM]at h;cases ok with
  |true =>
   simp only[if_true]at hz;obtain⟨z0,rfl,hz⟩:=hz;obtain⟨iz,zv,hz1,hz2,hz3⟩:=Kr g hz;simp only[ae]at h;by_cases htt:t'=t
   ·rw[if_pos htt]at h;subst h;refine .pure hi (c:=.tuple #[c,.bool true]) ?_ (cJ.of (.dK _ #[c,.bool true] (.cons _ _ _ _ h1 (.cons _ _ _ _ (.bool true) .nil))));simp only[execOp,ho,hcx,Instr.typeAssert,Sem.run_bind,run_underlying ht,Result.andThen_ok];cases dsc<;>first | exact absurd rfl (hn _) | simp[htt]
   ·rw[if_neg htt]at h;subst h;refine .pure hi (c:=.tuple #[zv,.bool false]) ?_ (cJ.of (.dK _ #[zv,.bool false] (.cons _ _ _ _ hz3 (.cons _ _ _ _ (.bool false) .nil))));simp only[execOp,ho,hcx,Instr.typeAssert,Sem.run_bind,run_underlying ht,Result.andThen_ok];cases dsc<;>first | exact absurd rfl (hn _) | simp[htt,ig hz1 hz2]
  |false =>
   simp only[aw,if_false]at hz;subst hz;simp only at h;split at h
   case isFalse=>cases h
   rename_i htt;cases h;refine .pure hi (c:=c) ?_ (cJ.of h1);simp only[execOp,ho,hcx,Instr.typeAssert,Sem.run_bind,run_underlying ht,Result.andThen_ok];cases dsc<;>first | exact absurd rfl (hn _) | simp[htt]
 |pr =>
  simp only[NM,ad]at h;obtain⟨z1,rfl,rfl⟩:=h;cases ok with
  |true =>
   simp only[if_true]at hz;obtain⟨z0,hz0,hz⟩:=hz;cases hz0;obtain⟨iz,zv,hz1,hz2,hz3⟩:=Kr g hz;refine .pure hi (c:=.tuple #[zv,.bool false]) ?_ (cJ.of (.dK _ #[zv,.bool false] (.cons _ _ _ _ hz3 (.cons _ _ _ _ (.bool false) .nil))));simp only[execOp,ho,hcx,Instr.typeAssert,Sem.run_bind,run_underlying ht,Result.andThen_ok];cases dsc<;>first | exact absurd rfl (hn _) | simp[ig hz1 hz2]
  |false=>simp at hz
 |_=>simp[NM]at h
theorem Fe{t:TypeId}{ms:Array (String×TypeId)}(n:Nat)(ht:P.underlying t=some (.interface ms))(w:World):(Op.equalIn (n+1) t .nilIface .nilIface).run P w=.ok true w:=by
 rw[Op.equalIn];simp[run_underlying ht]
theorem F8{t t':TypeId}{c:Value}{ms:Array (String×TypeId)}(n:Nat)(ht:P.underlying t=some (.interface ms))(w:World):(Op.equalIn (n+1) t (.iface t' c) .nilIface).run P w=.ok false w:=by
 rw[Op.equalIn];simp[run_underlying ht]
theorem HD{t:TypeId}{ms:Array (String×TypeId)}(ht:P.underlying t=some (.interface ms))(w:World):(Op.equal t .nilIface .nilIface).run P w=.ok true w:=Fe 9999 ht w
theorem Ij{t t':TypeId}{c:Value}{ms:Array (String×TypeId)}(ht:P.underlying t=some (.interface ms))(w:World):(Op.equal t (.iface t' c) .nilIface).run P w=.ok false w:=F8 9999 ht w
theorem amX(hf:Fr fb V g w B e tmps)(hi:Inv CR base g σ w){x:Operand}{X:bK}{t u:TypeId}{ms:Array (String×TypeId)}{neg:Bool}(hx:bE x=some X)(ht:P.underlying t=some (.interface ms))
  (h:bL e σ (.isi neg X)=some (d,σ')) (o:Oper) (ho:o.op=.binOp (if neg then .neq else .eql) t x (.const .nilIface) u):fV P CR base g w B e (Act.mk tmps df).eval o d σ':=by
 have hr:=hf.bj (df:=df) hx;simp only[bL,ad,ak]at h;obtain⟨b,h,rfl,rfl⟩:=h;have hev:(Act.mk tmps df).eval (.const .nilIface)=.nilIface:=rfl;generalize hcx:(Act.mk tmps df).eval x=cx at hr;generalize bj e X=dx at hr h;cases hr with
 |pr =>
  cases h;refine .pure hi (c:=.bool (if neg then false else true)) ?_ (cJ.of (by cases neg<;>exact .bool _));cases neg<;>simp[execOp,ho,hcx,hev,eqGuard,binOp,HD ht]
 |uj t' d1 c h1 =>
  cases h;refine .pure hi (c:=.bool (if neg then true else false)) ?_ (cJ.of (by cases neg<;>exact .bool _));cases neg<;>simp[execOp,ho,hcx,hev,eqGuard,binOp,Ij ht]
 |_=>cases h
section
variable {P:Program} {CR:fZ} {base fb:Nat} {V:List Nat} {g:G} {σ σ':SK} {w:World} {B:Nat→Nat} {e:Env} {tmps:Array Value} {df:List Deferred}
 {a:uD} {ops:Array Oper} {key:Nat} {k:K} {d:D}
theorem M6(hf:Fr fb V g w B e tmps)(hi:Inv CR base g σ w){x y:Operand}{X Y:bK}{t u:TypeId}{b:BinOp}(hx:bE x=some X)(hy:bE y=some Y)
  (hk:eqC P b t X Y=some k) (h:bL e σ k=some (d,σ')) (o:Oper) (ho:o.op=.binOp b t x y u):fV P CR base g w B e (Act.mk tmps df).eval o d σ':=by
 unfold eqC at hk;split at hk
 case h_2=>cases hk
 rename_i ks hks;split at hk
 ·cases hk
 rename_i hg;have hg':P.eqGuardType P.depth t=false:=by simpa using hg
 split at hk
 ·obtain⟨ag,hag,rfl⟩:=ad.1 hk;exact amW hf hi hx hy hks hag hg' h o (by simpa using ho)
 ·obtain⟨ag,hag,rfl⟩:=ad.1 hk;exact amW hf hi hx hy hks hag hg' h o (by simpa using ho)
 ·cases hk
theorem ag1{ag:Bool}{sz:Nat}{X:bK}{r:D×SK}(h:bL e σ (.Qc ag sz X)=some r):bL e σ (.ld ag sz X)=some r:=by
 simp only[bL]at h ⊢;cases hx:bj e X<;>rw[hx]at h<;>try (cases h;done)
 simpa[E7]using h
theorem ag0{ag:Bool}{sz:Nat}{X:bK}{r:D×SK}(h:bL e σ (.Sg ag sz X)=some r):bL e σ (.ld ag sz X)=some r:=by
 simp only[bL]at h ⊢;cases hr:Sj σ (bj e X)with
 |none=>rw[hr]at h;cases h
 |some cs =>
  rw[hr]at h;have:E7 σ (bj e X)=some cs:=by
   generalize bj e X=dx at hr;unfold Sj at hr;split at hr
   ·exact hr
   ·cases hr
  rw[this];exact h
theorem CA{w:World}(d:Nat){t el:TypeId}{a:Option Addr}(h:P.underlying t=some (.pointer el)):(Op.equalIn (d+1) t (.pointer a) (.pointer none)).run P w=.ok a.isNone w:=by
 cases a<;>simp[Op.equalIn,bq h]
theorem run_equalIn_slice_nil{w:World}(d:Nat){t el:TypeId}{a:Option Addr}{n c:Nat}(h:P.underlying t=some (.slice el)):(Op.equalIn (d+1) t (.slice a n c) (.slice none 0 0)).run P w=.ok a.isNone w:=by
 cases a<;>simp[Op.equalIn,bq h]
theorem awv(hi:Inv CR base g σ w){x y:Operand}{X:bK}{t u:TypeId}{b:BinOp}{ps bo:Bool}{cx cy:Value}(e1:(Act.mk tmps df).eval x=cx)(e2:(Act.mk tmps df).eval y=cy)
  (hg:∀b,(eqGuard b t x y cx cy).run P w=.ok () w) (hb:binOp .eql t cx cy=(do pure (.bool (← Op.equal t cx cy)))) (hb':binOp .neq t cx cy=(do pure (.bool (!(← Op.equal t cx cy)))))
  (heq:(Op.equal t cx cy).run P w=.ok bo w) (hn:Ic ps (bj e X)=some bo)
  (hk:isC ps b X=some k) (h:bL e σ k=some (d,σ')) (o:Oper) (ho:o.op=.binOp b t x y u):fV P CR base g w B e (Act.mk tmps df).eval o d σ':=by
 unfold isC at hk;split at hk
 ·cases hk;simp only[bL,hn,aT,ae,ak]at h;obtain⟨rfl,rfl⟩:=h;refine .pure hi ?_ (cJ.of (.bool _));simp[execOp,ho,e1,e2,hg,hb,heq]
 ·cases hk;simp only[bL,hn,aT,ae,ak]at h;obtain⟨rfl,rfl⟩:=h;refine .pure hi ?_ (cJ.of (.bool _));simp[execOp,ho,e1,e2,hg,hb',heq]
 ·cases hk
theorem LB{ps:Bool}{b:BinOp}{X:bK}(hk:isC ps b X=some k)(h:bL e σ k=some (d,σ')):∃bo,Ic ps (bj e X)=some bo:=by
 unfold isC at hk;split at hk<;>cases hk<;>simp only[bL,ad]at h<;>obtain⟨b,hb,_⟩:=h<;>exact⟨b,hb⟩
theorem aww(hf:Fr fb V g w B e tmps)(hi:Inv CR base g σ w){x y:Operand}{X:bK}{t u el:TypeId}{b:BinOp}(hx:bE x=some X)(hy:bE y=some (.c .xw))(ht:P.underlying t=some (.pointer el))
  (hk:isC true b X=some k) (h:bL e σ k=some (d,σ')) (o:Oper) (ho:o.op=.binOp b t x y u):fV P CR base g w B e (Act.mk tmps df).eval o d σ':=by
 have hr:=hf.bj (df:=df) hx;have hr':=hf.bj (df:=df) hy;have e2:(Act.mk tmps df).eval y=.pointer none:=by
  generalize (Act.mk tmps df).eval y=c at hr';cases hr';rfl
 obtain⟨bo,hn⟩:=LB hk h;have:∃a,(Act.mk tmps df).eval x=.pointer a∧bo=a.isNone:=by
  generalize bj e X=dx at hr hn;generalize (Act.mk tmps df).eval x=cx at hr;cases hr<;>simp[Ic]at hn
  ·exact⟨none,rfl,by simp[← hn]⟩
  ·exact⟨_,rfl,by simp[← hn]⟩
  ·exact⟨_,rfl,by simp[← hn]⟩
 obtain⟨a,e1,rfl⟩:=this;refine awv hi e1 e2 (fun b=>by simp[eqGuard]) rfl rfl (CA 9999 ht) hn hk h o ho
theorem awx(hf:Fr fb V g w B e tmps)(hi:Inv CR base g σ w){x y:Operand}{X:bK}{t u el:TypeId}{b:BinOp}(hx:bE x=some X)(hy:bE y=some (.c .aG))(ht:P.underlying t=some (.slice el))
  (hk:isC false b X=some k) (h:bL e σ k=some (d,σ')) (o:Oper) (ho:o.op=.binOp b t x y u):fV P CR base g w B e (Act.mk tmps df).eval o d σ':=by
 have hr:=hf.bj (df:=df) hx;have hr':=hf.bj (df:=df) hy;have e2:(Act.mk tmps df).eval y=.slice none 0 0:=by
  generalize (Act.mk tmps df).eval y=c at hr';cases hr';rfl
 obtain⟨bo,hn⟩:=LB hk h;have:∃a n c,(Act.mk tmps df).eval x=.slice a n c∧bo=a.isNone:=by
  generalize bj e X=dx at hr hn;generalize (Act.mk tmps df).eval x=cx at hr;cases hr<;>simp[Ic]at hn
  ·exact⟨none,_,_,rfl,by simp[← hn]⟩
  ·exact⟨_,_,_,rfl,by simp[← hn.2]⟩
  ·rename_i l i v off n w a cap L h1 h2 h3 h4 h5 h6 h7;refine⟨a,n,cap,rfl,?_⟩;cases a with
   |none=>have:=h4 rfl;omega
   |some a=>simp[← hn.2]
 obtain⟨a,n,c,e1,rfl⟩:=this;refine awv hi e1 e2 (fun b=>by simp[eqGuard]) rfl rfl (run_equalIn_slice_nil 9999 ht) hn hk h o ho
theorem awF(hf:Fr fb V g w B e tmps)(hi:Inv CR base g σ w){x:Operand}{X:bK}(hx:bE x=some X)(h:bL e σ (.mG X)=some (d,σ'))(o:Oper)(ho:o.op=.nilCheck x):
  fV P CR base g w B e (Act.mk tmps df).eval o d σ':=by
 have hr:=hf.bj (df:=df) hx;simp only[bL]at h;generalize bj e X=dx at hr h;have key:(∃a,(Act.mk tmps df).eval x=.pointer (some a))∧d=dx∧σ'=σ:=by
  generalize (Act.mk tmps df).eval x=cx at hr;cases hr<;>simp at h
  ·exact⟨⟨_,rfl⟩,h.1.symm,h.2.symm⟩
  ·exact⟨⟨_,rfl⟩,h.1.symm,h.2.symm⟩
 obtain⟨⟨a,e1⟩,rfl,rfl⟩:=key;rw[e1]at hr;exact .pure hi (c:=.pointer (some a)) (by simp[execOp,ho,e1]) (cJ.of hr)
theorem IU{x:Operand}(h:Ag x=true):x=.const (.slice none 0 0):=by
 unfold Ag at h;split at h
 ·rfl
 ·cases h
theorem asH(hf:Fr fb V g w B e tmps)(hi:Inv CR base g σ w){o:Oper}(hk:kC P a ops key o=some k)(h:bL e σ k=some (d,σ')):
  fV P CR base g w B e (Act.mk tmps df).eval o d σ':=by
 unfold kC at hk;split at hk
 ·rename_i x ho;obtain⟨X,hX,rfl⟩:=ad.1 hk;exact Nv hf hi hX h o (.inl ho)
 ·rename_i x ho;split at hk
  ·rename_i hnil _ _;split at hk
   ·obtain⟨X,hX,rfl⟩:=ad.1 hk;exact asA hi h o (by rw[ho,IU hnil])
   ·obtain⟨X,hX,rfl⟩:=ad.1 hk;exact Nv hf hi hX h o (.inr ho)
  ·obtain⟨X,hX,rfl⟩:=ad.1 hk;exact Nv hf hi hX h o (.inr ho)
 ·rename_i c x y ho;split at hk
  ·rename_i c' x' y' h1 h2 h3;cases hk;exact asB hf hi h1 h2 h3 h o ho
  ·cases hk
 ·rename_i el ho;split at hk
  ·rename_i z d0 hz _;split at hk
   ·split at hk
    case h_2=>cases hk
    split at hk
    case h_2=>cases hk
    split at hk
    case h_2=>cases hk
    cases hk;exact awA hi hz h o ho
   cases hk;split at h
   ·cases h
   ·exact awg hi hz h o ho
  ·cases hk
 ·rename_i t x ho;split at hk
  ·rename_i x' d0 hx _;cases hk;split at h
   ·cases h
   split at h
   ·split at h
    ·exact asr hf hi hx h o ho
    ·exact awo hf hi hx h o ho
   ·exact asq hf hi hx h o ho
  ·cases hk
 ·rename_i t ps ho;split at hk
  ·rename_i fs z ht hz;split at hk
   ·rename_i hall;obtain⟨parts,hp,rfl⟩:=ad.1 hk;exact Kd hf hi ht hz hall hp h o ho
   ·cases hk
  ·rename_i n el z ht hz;split at hk
   ·rename_i wd hw;obtain⟨parts,hp,rfl⟩:=ad.1 hk;exact Ma hf hi ht hw hz hp h o ho
   ·cases hk
  ·cases hk
 ·rename_i t n ps ho;split at hk
  ·rename_i el ht;split at hk
   ·rename_i wd z d0 hw hz _;split at hk
    ·rename_i hc;obtain⟨parts,hp,rfl⟩:=ad.1 hk;dsimp only at h;split at h
     ·rename_i hn;simp only[af,av]at hn;obtain⟨⟨rfl,hpe⟩,_⟩:=hn;exact awl hf hi ht hw hz hc.1 hc.2.1 hc.2.2 hp (by simpa using hpe) h o ho
     split at h
     ·exact awn hf hi ht hw hz hc.1 hc.2.1 hc.2.2 hp h o ho
     ·exact awm hf hi ht hw hz hc.1 hc.2.1 hc.2.2 hp h o ho
    ·cases hk
   ·cases hk
  ·cases hk
 ·rename_i t x ho;split at hk
  ·rename_i ag sz n hag hsz hx;split at hk
   ·rename_i hc;simp only[af,av]at hc;cases hk;have hxe:x=.tmp n:=by
     cases x<;>simp only[bE,ae,bK.t.injEq,reduceCtorEq,ad,and_false,exists_false]at hx;rw[hx]
    split at h
    ·exact awy hf hi hag hsz hc.1 hc.2 h o (by rw[ho,hxe])
    ·split at h
     ·exact asw hf hi hx hag hsz hc.1 hc.2 (ag1 h) o ho
     split at h
     ·exact asw hf hi hx hag hsz hc.1 hc.2 (ag0 h) o ho
     ·exact asw hf hi hx hag hsz hc.1 hc.2 h o ho
   ·cases hk
  ·cases hk
 ·rename_i t x y ho;split at hk
  ·rename_i sz n y' hsz hx hy;cases hk;split at h
   ·cases h
   ·split at h
    ·exact awK hf hi hx hy hsz (Qy h) o ho
    ·exact awK hf hi hx hy hsz h o ho
  ·cases hk
 ·rename_i b t x y u ho;split at hk
  ·rename_i hx hy;cases hk;exact awk hf hi hx hy h o ho
  ·rename_i hx hy;exact M6 hf hi hx hy hk h o ho
  ·rename_i hx hy;exact M6 hf hi hx hy hk h o ho
  ·rename_i hx hy;exact M6 hf hi hx hy hk h o ho
  ·rename_i ht hx hy;split at hk
   ·cases hk;exact asC hf hi hx hy h o ho
   ·cases hk;exact amZ hf hi hx hy h o ho
   ·cases hk;exact amZ hf hi hx hy h o ho
   ·cases hk
  ·rename_i ht hx hy;exact aww hf hi hx hy ht hk h o ho
  ·rename_i ht hx hy;split at hk
   ·rename_i hsz;split at hk
    ·cases hk;exact amY (neg:=false) hf hi hx hy ht hsz h o ho
    ·cases hk;exact amY (neg:=true) hf hi hx hy ht hsz h o ho
    ·cases hk
   ·cases hk
  ·rename_i ht hx hy;exact awx hf hi hx hy ht hk h o ho
  ·rename_i ht hx hy;split at hk
   ·cases hk;exact amX (neg:=false) hf hi hx ht h o ho
   ·cases hk;exact amX (neg:=true) hf hi hx ht h o ho
   ·cases hk
  ·cases hk
 ·rename_i x ho;obtain⟨X,hX,rfl⟩:=ad.1 hk;exact awF hf hi hX h o ho
 ·rename_i b t x ho;obtain⟨X,hX,rfl⟩:=ad.1 hk;exact ayZ hf hi hX h o ho
 ·rename_i s t x ho;split at hk
  ·rename_i hs ht hx;cases hk;exact awq hf hi hx hs ht h o ho
  ·rename_i hs ht hx;split at hk
   ·rename_i he hw;cases hk;exact awj hf hi hx hs he ht h o ho
   ·cases hk
  ·rename_i hs ht hx;split at hk
   ·rename_i he hw;cases hk;exact awI hf hi hx hs he ht h o ho
   ·cases hk
  ·rename_i hs ht hx;split at hk
   ·rename_i hst;subst hst;split at hk
    ·rename_i he;cases hk;exact awr hf hi hx hs he h o ho
    ·cases hk
   ·cases hk
  ·cases hk
 ·rename_i t x ho;split at hk
  ·rename_i ht hx;obtain⟨wd,hw,rfl⟩:=ad.1 hk;exact awH hf hi hx ht h o ho
  ·cases hk
 ·rename_i f xs ys ho;split at hk
  ·rename_i hx hy;cases hk;exact awB hf hi hx hy h o ho
  ·cases hk
 ·rename_i t x y ho;split at hk
  ·rename_i el ht;split at hk
   ·rename_i hw hb hz hx hy;split at hk
    ·rename_i hc;cases hk;exact awE hf hi hx hy ht hw hb hz hc.1 hc.2 h o ho
    ·cases hk
   ·cases hk
  ·cases hk
 ·rename_i t x lo hh mx ho;split at hk
  ·rename_i ht hx hlo hhi hmx;obtain⟨wd,hw,rfl⟩:=ad.1 hk;exact awJ hf hi hx ht hw hlo hhi hmx h o ho
  ·rename_i ht hx hlo hhi hmx;obtain⟨wd,hw,rfl⟩:=ad.1 hk;have hm:mx=none:=by
    cases mx with
    |none=>rfl
    |some m=>simp[xz,ad]at hmx
   subst hm;exact asE hf hi hx ht hw hlo hhi h o ho
  ·rename_i ht hx hlo hhi hmx;cases hk;have hm:mx=none:=by
    cases mx with
    |none=>rfl
    |some m=>simp[xz,ad]at hmx
   subst hm;exact asG hf hi hx ht hlo hhi h o ho
  ·cases hk
 ·rename_i s x i ho;split at hk
  ·rename_i fs x' hs hx;split at hk
   ·rename_i off sz hfc;split at hk
    ·rename_i hpos;cases hk;exact ass hf hi hx hs hfc hpos h o ho
    ·cases hk
   ·cases hk
  ·cases hk
 ·rename_i s x i ho;split at hk
  ·rename_i fs x' hs hx;split at hk
   ·rename_i f hfi;split at hk
    ·rename_i hag hsz;split at hk
     ·cases hk;exact awu hf hi hx hs hfi hag hsz h o ho
     ·cases hk
    ·cases hk
   ·cases hk
  ·cases hk
 ·rename_i t x y ho;split at hk
  ·rename_i ht hx hy;obtain⟨wd,hw,rfl⟩:=ad.1 hk;exact ast hf hi hx hy ht hw h o ho
  ·rename_i ht hx hy;obtain⟨wd,hw,rfl⟩:=ad.1 hk;exact asu hf hi hx hy ht hw h o ho
  ·cases hk
 ·rename_i t x y ho;split at hk
  ·rename_i ht hx hy;split at hk
   ·rename_i hag hsz;split at hk
    ·cases hk;exact asv hf hi hx hy ht hag hsz h o ho
    ·cases hk
   ·cases hk
  ·rename_i ht hx hy;cases hk;exact asD hf hi hx hy ht h o ho
  ·cases hk
 ·rename_i x i ho;obtain⟨X,hX,rfl⟩:=ad.1 hk;exact awt hf hi hX h o ho
 ·rename_i c ho;obtain⟨callee,args,ts⟩:=c;dsimp only at hk;split at hk
  ·rename_i f;split at hk
   ·cases hk;cases h
   ·cases hk
  ·split at hk
   ·rename_i t tr x r hts ha;split at hk
    ·rename_i ht hx;cases hk;exact awz hf hi hx ht ha hts h o ho
    ·rename_i ht hx;cases hk;exact asF hf hi hx ht ha hts h o ho
    ·rename_i ht hx;cases hk;exact asz hf hi hx ht ha hts h o ho
    ·rename_i ht;cases hk;exact aeS hi (.inl ⟨_,ht⟩) ha hts h o ho
    ·rename_i ht;split at hk
     ·rename_i hr;cases hk;exact aeS hi (.inr ⟨_,_,ht,hr⟩) ha hts h o ho
     ·cases hk
    ·cases hk
   ·cases hk
  ·cases hk;cases h
  ·split at hk
   ·rename_i ha;split at hk
    ·rename_i hx hy;cases hk;exact ayX hf hi hx hy ha h o ho
    ·cases hk
   ·cases hk
  ·split at hk
   ·rename_i ha;split at hk
    ·rename_i hx hy;cases hk;exact ayY hf hi hx hy ha h o ho
    ·cases hk
   ·cases hk
  ·split at hk
   ·rename_i t u x y hts ha;split at hk
    ·rename_i uu x' y' ht hu0 hx hy;split at hk
     case isFalse=>cases hk
     rename_i huu;have hu:P.underlying u=some .string∨∃e2,P.underlying u=some (.slice e2):=by
      cases uu<;>simp[aeL]at huu
      ·exact .inl hu0
      ·exact .inr ⟨_,hu0⟩
     split at hk
     ·rename_i hw hb hz;split at hk
      ·rename_i hc;cases hk;split at h
       ·rename_i hn;simp only[af]at hn;exact awp hf hi (IU hn.1) hy ha hts ht hu hw hb hz hc.2.2.2 hc.2.1 hc.2.2.1 h o ho
       ·split at h
        ·rename_i hn;simp only[af]at hn;obtain⟨v,rfl⟩:∃v,x=.tmp v:=by
          have:=hn.2;cases x<;>simp[afb]at this;exact⟨_,rfl⟩
         exact awh hf hi rfl hy ha hts ht hu hw hb hz hc.2.2.2 hc.2.1 hc.2.2.1 h o ho
        split at h
        ·exact awi hf hi hx hy ha hts ht hu hw hb hz hc.2.2.2 hc.2.1 hc.2.2.1 h o ho
        split at h
        ·exact aeR hf hi hx hy ha hts ht hu hw hb hz hc.2.2.2 hc.2.1 hc.2.2.1 (Qx h) o ho
        ·exact aeR hf hi hx hy ha hts ht hu hw hb hz hc.2.2.2 hc.2.1 hc.2.2.1 h o ho
      ·cases hk
     ·cases hk
    ·cases hk
   ·cases hk
  ·cases hk
 ·rename_i t x ho;split at hk
  ·rename_i hc;obtain⟨X,hX,rfl⟩:=ad.1 hk;exact awC hf hi hX hc h o ho
  ·cases hk
 ·rename_i x xt t ok ho;split at hk
  ·cases hk
  ·rename_i dsc x' hnot ht hx;split at hk
   ·rename_i hok;subst hok;obtain⟨z,hz,rfl⟩:=ad.1 hk;exact am0 hf hi hx ht (fun ms hms=>by subst hms;exact hnot _ rfl) (by simpa using hz) h o ho
   ·rename_i hok;cases hk;exact am0 hf hi hx ht (fun ms hms=>by subst hms;exact hnot _ rfl) (by simp[hok]) h o ho
  ·cases hk
 ·rename_i x ho;obtain⟨X,hX,rfl⟩:=ad.1 hk;cases h
 ·rename_i t ho;cases hk;exact awD hi h o ho
 ·rename_i t k n ho;split at hk
  ·rename_i ht;cases hk;exact asy hi h ht o ho
  ·cases hk
 ·rename_i t x ho;split at hk
  ·rename_i ht hx;cases hk;exact awG hf hi hx ht h o ho
  ·cases hk
 ·rename_i x ho;split at hk
  ·rename_i hx;cases hk;exact aws hf hi hx h o ho
  ·cases hk
 ·rename_i t x y ok ho;split at hk
  ·rename_i ht hx hy;split at hk
   ·rename_i hky hz;cases hk;exact asx hf hi hx hy ht hky hz h o ho
   ·cases hk
  ·cases hk
 ·rename_i t m x y ho;split at hk
  ·rename_i ht hm hx hy;split at hk
   ·rename_i hky;cases hk;exact aeT hf hi hm hx hy ht hky h o (.inl ho)
   ·cases hk
  ·cases hk
 ·rename_i t m x y ho;split at hk
  ·rename_i ht hm hx hy;split at hk
   ·rename_i hky;cases hk;exact aeT hf hi hm hx hy ht hky h o (.inr ho)
   ·cases hk
  ·cases hk
 ·cases hk
end
mutual
def D.low(n:Nat):D→Bool
 |.ref l .. => decide (l<n)
 |.sl l .. => decide (l<n)
 |.mH l _=>decide (l<n)
 |.vr .. => true
 |.emp=>true
 |.own _ cs=>D.mP n cs
 |.agg cs=>D.mP n cs
 |.dK cs=>D.mP n cs
 |.bD cs=>D.mP n cs
 |.aI _ cs=>D.mP n cs
 |.fn _ a b=>D.mP n a && D.mP n b
 |.undef=>true
 |.bool _=>true
 |.int _ _=>true
 |.str _=>true
 |.xw=>true
 |.aG=>true
 |.iX=>true
 |.uj _ d=>D.low n d
 |.pr=>true
def D.mP(n:Nat):List D→Bool
 |[]=>true
 |d::ds=>D.low n d && D.mP n ds
end
theorem BD{n:Nat}{ds:List D}:D.mP n ds=true↔∀d∈ds,d.low n=true:=by
 induction ds with
 |nil=>simp[D.mP]
 |cons d ds ih=>simp[D.mP,ih]
mutual
theorem uU{n:Nat}:∀{d:D},d.clean=true→d.low n=true
 |.ref ..,h=>by simp[D.clean]at h
 |.sl ..,h=>by simp[D.clean]at h
 |.mH ..,h=>by simp[D.clean]at h
 |.vr ..,_=>rfl
 |.emp,_=>rfl
 |.own _ cs,h=>rl (ds:=cs) (by simpa[D.clean]using h)
 |.agg cs,h=>rl (ds:=cs) (by simpa[D.clean]using h)
 |.dK cs,h=>rl (ds:=cs) (by simpa[D.clean]using h)
 |.bD cs,h=>rl (ds:=cs) (by simpa[D.clean]using h)
 |.aI _ cs,h=>rl (ds:=cs) (by simpa[D.clean]using h)
 |.fn _ a b,h=>by
  simp only[D.clean,af]at h;simp only[D.low,af];exact⟨rl h.1,rl h.2⟩
 |.undef,_=>rfl
 |.bool _,_=>rfl
 |.int _ _,_=>rfl
 |.str _,_=>rfl
 |.xw,_=>rfl
 |.aG,_=>rfl
 |.iX,_=>rfl
 |.uj _ d,h=>uU (d:=d) (by simpa[D.clean]using h)
 |.pr,_=>rfl
theorem rl{n:Nat}:∀{ds:List D},D.bg ds=true→D.mP n ds=true
 |[],_=>rfl
 |d::ds,h=>by
  simp only[D.bg,af]at h;simp only[D.mP,af];exact⟨uU h.1,rl h.2⟩
end
mutual
theorem bI.low{g:G}{n:Nat}(hn:∀l i L,g.loc l i=some L→l<n):∀{d:D} {c:Value},bI g d c→d.low n=true
 |_,_,.undef c=>rfl
 |_,_,.bool b=>rfl
 |_,_,.int k n=>rfl
 |_,_,.str s=>rfl
 |_,_,.agg ds cs hr h1=>bC.low hn hr
 |_,_,.dK ds cs hr=>bC.low hn hr
 |_,_,.xw=>rfl
 |_,_,.ref l i v off b o L e hv hc hn'=>by simp only[D.low,av];exact hn l i L e
 |_,_,.bD ds b o vs hr hl=>bC.low hn hl
 |_,_,.aG=>rfl
 |_,_,.xp=>rfl
 |_,_,.aI n' ds a cap vs hn' hr hs hl=>bC.low hn hl
 |_,_,.sl l i v off n' w a cap L e hv hn' ha hs hc hc'=>by simp only[D.low,av];exact hn l i L e
 |_,_,.fn f fs cs fs' cs' h1 h2=>by simp only[D.low,af];exact⟨bC.low hn h1,bC.low hn h2⟩
 |_,_,.iX=>rfl
 |_,_,.mH l i b e=>by simp only[D.low,av];exact hn l i _ e
 |_,_,.Qg l i b e=>by simp only[D.low,av];exact hn l i _ e
 |_,_,.itv l i b L e hc=>by simp only[D.low,av];exact hn l i _ e
 |_,_,.Q3 l i b L e hc=>by simp only[D.low,av];exact hn l i _ e
 |_,_,.uj t d c h1=>by rw[D.low];exact bI.low hn h1
 |_,_,.pr=>rfl
theorem bC.low{g:G}{n:Nat}(hn:∀l i L,g.loc l i=some L→l<n):∀{ds:List D} {cs:List Value},bC g ds cs→D.mP n ds=true
 |_,_,.nil=>rfl
 |_,_,.cons d c ds cs h1 h2=>by simp only[D.mP,af];exact⟨bI.low hn h1,bC.low hn h2⟩
end
def G.cut(g:G)(n:Nat):G:=⟨fun l i=>if l<n then g.loc l i else none,g.re⟩
theorem G.tK{g:G}{n l i:Nat}(h:l<n):(g.cut n).loc l i=g.loc l i:=by simp[G.cut,h]
theorem G.xe{g:G}{n l i:Nat}{L:Loc}(h:(g.cut n).loc l i=some L):l<n∧g.loc l i=some L:=by
 simp only[G.cut]at h;split at h
 ·exact⟨by assumption,h⟩
 ·cases h
mutual
theorem bI.cut{g:G}{n:Nat}:∀{d:D} {c:Value},bI g d c→d.low n=true→bI (g.cut n) d c
 |_,_,.undef c,_ => .undef c
 |_,_,.bool b,_ => .bool b
 |_,_,.int k n,_ => .int k n
 |_,_,.str s,_ => .str s
 |_,_,.agg ds cs hr h1,h => .agg ds cs (bC.cut hr h) h1
 |_,_,.dK ds cs hr,h => .dK ds cs (bC.cut hr h)
 |_,_,.xw,_ => .xw
 |_,_,.ref l i v off b o L e hv hc hn',h => .ref l i v off b o L ((G.tK (by simpa[D.low]using h)).trans e) hv hc hn'
 |_,_,.bD ds b o vs hr hl,h => .bD ds b o vs hr (bC.cut hl h)
 |_,_,.aG,_ => .aG
 |_,_,.xp,_ => .xp
 |_,_,.aI n' ds a cap vs hn' hr hs hl,h => .aI n' ds a cap vs hn' hr hs (bC.cut hl h)
 |_,_,.sl l i v off n' w a cap L e hv hn' ha hs hc hc',h => .sl l i v off n' w a cap L ((G.tK (by simpa[D.low]using h)).trans e) hv hn' ha hs hc hc'
 |_,_,.fn f fs cs fs' cs' h1 h2,h=>by
  simp only[D.low,af]at h;exact .fn f fs cs fs' cs' (bC.cut h1 h.1) (bC.cut h2 h.2)
 |_,_,.iX,_ => .iX
 |_,_,.mH l i b e,h => .mH l i b ((G.tK (by simpa[D.low]using h)).trans e)
 |_,_,.Qg l i b e,h => .Qg l i b ((G.tK (by simpa[D.low]using h)).trans e)
 |_,_,.itv l i b L e hc,h => .itv l i b L ((G.tK (by simpa[D.low]using h)).trans e) hc
 |_,_,.Q3 l i b L e hc,h => .Q3 l i b L ((G.tK (by simpa[D.low]using h)).trans e) hc
 |_,_,.uj t d c h1,h => .uj t d c (bI.cut h1 h)
 |_,_,.pr,_ => .pr
theorem bC.cut{g:G}{n:Nat}:∀{ds:List D} {cs:List Value},bC g ds cs→D.mP n ds=true→bC (g.cut n) ds cs
 |_,_,.nil,_ => .nil
 |_,_,.cons d c ds cs h1 h2,h=>by
  simp only[D.mP,af]at h;exact .cons d c ds cs (bI.cut h1 h.1) (bC.cut h2 h.2)
end
mutual
theorem BE{n m:Nat}(hm:n≤m):∀{d:D},d.low n=true→d.low m=true
 |.ref l ..,h=>by simp only[D.low,av]at h ⊢;omega
 |.sl l ..,h=>by simp only[D.low,av]at h ⊢;omega
 |.mH l _,h=>by simp only[D.low,av]at h ⊢;omega
 |.vr ..,_=>rfl
 |.emp,_=>rfl
 |.own _ cs,h=>rT (ds:=cs) hm h
 |.agg cs,h=>rT (ds:=cs) hm h
 |.dK cs,h=>rT (ds:=cs) hm h
 |.bD cs,h=>rT (ds:=cs) hm h
 |.aI _ cs,h=>rT (ds:=cs) hm h
 |.fn _ a b,h=>by
  simp only[D.low,af]at h ⊢;exact⟨rT hm h.1,rT hm h.2⟩
 |.undef,_=>rfl
 |.bool _,_=>rfl
 |.int _ _,_=>rfl
 |.str _,_=>rfl
 |.xw,_=>rfl
 |.aG,_=>rfl
 |.iX,_=>rfl
 |.uj _ d,h=>BE (d:=d) hm h
 |.pr,_=>rfl
theorem rT{n m:Nat}(hm:n≤m):∀{ds:List D},D.mP n ds=true→D.mP m ds=true
 |[],_=>rfl
 |d::ds,h=>by
  simp only[D.mP,af]at h ⊢;exact⟨BE hm h.1,rT hm h.2⟩
end
def aE.low(n:Nat):aE→Prop
 |.cells _ cs=>D.mP n cs=true
 |.dead=>True
 |.loop lp=>∀t,(get lp.env t).low n=true
def sb(σ:SK):Prop:=∀l i b,eo σ l i=some b→l+1<σ.length→b.low (l+1)
theorem sb.set{σ:SK}(h:sb σ){l i:Nat}{b:aE}(hb:l+1<σ.length→b.low (l+1)):sb (aV σ l i b):=by
 intro l' i' b' h1 h2;rw[dB]at h2;by_cases hc:l'=l∧i'=i
 ·obtain⟨rfl,rfl⟩:=hc;cases h0:eo σ l' i' with
  |none =>
   have:eo (aV σ l' i' b) l' i'=none:=by
    unfold aV;cases hs:fX σ l' with
    |none=>exact h0
    |some s =>
     simp only[eo,tz (Ap hs),Option.bind_some];simp only[eo,hs,Option.bind_some]at h0;rw[List.getElem?_eq_none_iff]at h0 ⊢;simpa using h0
   rw[this]at h1;cases h1
  |some b0=>rw[oJ h0]at h1;cases h1;exact hb h2
 ·rw[eW hc]at h1;exact h l' i' b' h1 h2
theorem sb.new{σ σ':SK}(h:sb σ){l i:Nat}{b:aE}(hn:ie σ b=some (l,i,σ')):sb σ':=by
 obtain⟨h1,h2,h3,h4,h5⟩:=kg hn;intro l' i' b' e hl;by_cases hc:l'=l∧i'=i
 ·omega
 ·rw[h3 l' i' hc]at e;exact h l' i' b' e (by omega)
structure gL(σ σ':SK):Prop where
 len:σ'.length=σ.length
 low:sb σ→sb σ'
theorem gL.refl(σ:SK):gL σ σ:=⟨rfl,id⟩
theorem gL.trans{a b c:SK}(h:gL a b)(h':gL b c):gL a c:=⟨h'.len.trans h.len,fun x=>h'.low (h.low x)⟩
theorem gL.new{σ σ':SK}{l i:Nat}{b:aE}(hn:ie σ b=some (l,i,σ')):gL σ σ':=⟨(kg hn).2.2.2.1,fun h=>h.new hn⟩
theorem gL.set{σ:SK}{l i:Nat}{b:aE}(hb:l+1<σ.length→b.low (l+1)):gL σ (aV σ l i b):=⟨dB,fun h=>h.set hb⟩
theorem tg:∀(nb:List (Nat×Nat)) (cs cs':List D) (σ σ':SK),lf nb cs σ=some (cs',σ')→gL σ σ'
 |[],cs,cs',σ,σ',h=>by simp only[lf,ae,ak]at h;obtain⟨rfl,rfl⟩:=h;exact .refl _
 |(p,w)::r,cs,cs',σ,σ',h=>by
  simp only[lf]at h;split at h
  ·simp only[aQ,ah]at h;obtain⟨⟨l,i,σ1⟩,hn,h⟩:=h;exact(gL.new hn).trans (tg r _ _ _ _ h)
  ·exact tg r _ _ _ _ h
theorem zr(l:Nat):∀(n:Nat) (d:D) (σ:SK),(cr l n d σ).1.low (l+1)=true∧gL σ (cr l n d σ).2
 |0,d,σ=>⟨rfl,.refl _⟩
 |n+1,d,σ=>by
  have ih:∀(ds:List D) (σ:SK),D.mP (l+1) (cr.frzL (cr l n) ds σ).1=true∧gL σ (cr.frzL (cr l n) ds σ).2:=by
   intro ds;induction ds with
   |nil=>intro σ;exact⟨rfl,.refl _⟩
   |cons d ds ihd =>
    intro σ;obtain⟨h1,h2⟩:=zr l n d σ;obtain⟨h3,h4⟩:=ihd (cr l n d σ).2;simp only[cr.frzL,D.mP,af];exact⟨⟨h1,h3⟩,h2.trans h4⟩
  simp only[cr];split
  ·rename_i hc;exact⟨uU hc,.refl _⟩
  cases d with
  |agg cs=>exact ih cs σ
  |dK cs=>exact ih cs σ
  |bD cs=>exact ih cs σ
  |aI m cs=>exact ih cs σ
  |own s cs=>exact ih cs σ
  |fn f a b =>
   obtain⟨h1,h2⟩:=ih a σ;obtain⟨h3,h4⟩:=ih b (cr.frzL (cr l n) a σ).2;refine⟨?_,h2.trans h4⟩;simp only[D.low,af];exact⟨h1,h3⟩
  |ref l' i v off =>
   dsimp only;split
   ·refine⟨?_,.refl _⟩;simp only[D.low,av];omega
   ·exact⟨rfl,.refl _⟩
  |mH l' i =>
   dsimp only;split
   ·refine⟨?_,.refl _⟩;simp only[D.low,av];omega
   ·exact⟨rfl,.refl _⟩
  |sl l' i v off m w =>
   dsimp only;split
   ·refine⟨?_,.refl _⟩;simp only[D.low,av];omega
   ·split
    ·rename_i cs hcs;obtain⟨h1,h2⟩:=ih ((cs.drop off).take (m*w)) (aV σ l' i .dead);exact⟨h1,(gL.set (b:=.dead) fun _=>trivial).trans h2⟩
    ·exact⟨rfl,.refl _⟩
  |_=>exact⟨rfl,.refl _⟩
theorem B0(l n:Nat)(ds:List D):∀(σ:SK),D.mP (l+1) (cr.frzL (cr l n) ds σ).1=true∧gL σ (cr.frzL (cr l n) ds σ).2:=by
 induction ds with
 |nil=>intro σ;exact⟨rfl,.refl _⟩
 |cons d ds ihd =>
  intro σ;obtain⟨h1,h2⟩:=zr l n d σ;obtain⟨h3,h4⟩:=ihd (cr l n d σ).2;simp only[cr.frzL,D.mP,af];exact⟨⟨h1,h3⟩,h2.trans h4⟩
theorem IM(l:Nat):∀(e:Env) (σ:SK),(∀p∈(sY l e σ).1,p.2.low (l+1)=true)∧gL σ (sY l e σ).2
 |[],σ=>⟨by simp[sY],.refl _⟩
 |(t,d)::e,σ=>by
  obtain⟨h1,h2⟩:=zr l deep d σ;obtain⟨h3,h4⟩:=IM l e (cr l deep d σ).2;simp only[sY];refine⟨?_,h2.trans h4⟩;intro p hp;rcases ba.1 hp with rfl | hp
  ·exact h1
  ·exact h3 p hp
theorem zY{σ:SK}(h:sb σ){l i v:Nat}{cs:List D}(hc:cells? σ l i v=some cs)(hl:l+1<σ.length):D.mP (l+1) cs=true:=by
 unfold cells? at hc;split at hc
 case h_2=>cases hc
 rename_i v' cs' hb;split at hc
 case isFalse=>cases hc
 cases hc;exact h l i _ hb hl
theorem yp{n:Nat}{a b:List D}:D.mP n (a++b)=true↔D.mP n a=true∧D.mP n b=true:=by
 simp only[BD,bx];exact⟨fun h=>⟨fun d hd=>h d (.inl hd),fun d hd=>h d (.inr hd)⟩,fun h d hd=>hd.elim (h.1 d) (h.2 d)⟩
theorem E0{n k:Nat}{a:List D}(h:D.mP n a=true):D.mP n (a.take k)=true:=by
 rw[BD]at h ⊢;exact fun d hd=>h d (cm hd)
theorem EZ{n k:Nat}{a:List D}(h:D.mP n a=true):D.mP n (a.drop k)=true:=by
 rw[BD]at h ⊢;exact fun d hd=>h d (dZ hd)
theorem aet{σ σ':SK}{d:D}{o:Mo}{ds:List D}(h:AV σ o ds=some (d,σ'))(hk:o.calm=true):σ'=σ:=by
 unfold AV at h;split at h
 ·simp[Mo.calm]at hk
 ·simp[Mo.calm]at hk
 ·split at h
  ·split at h
   ·split at h<;>first | (cases h;done) | (cases h;rfl)
   ·cases h
  ·cases h
 ·simp[Mo.calm]at hk
 ·simp only[ad,ak]at h;obtain⟨_,_,_,rfl⟩:=h;rfl
 ·simp[Mo.calm]at hk
 ·split at h
  ·split at h
   ·split at h
    ·split at h
     ·cases h;rfl
     ·cases h
    ·cases h
   ·cases h
  ·cases h
 ·cases h
theorem aen{σ σ':SK}{d:D}{o:Me}{ds:List D}(h:meD σ o ds=some (d,σ')):σ'=σ:=by
 unfold meD at h;split at h
 ·cases h
 ·simp only[ah,ad,ak]at h;obtain⟨_,_,_,_,_,rfl⟩:=h;rfl
 ·cases h;rfl
 ·split at h<;>cases h;rfl
 ·split at h<;>cases h;rfl
 ·cases h
theorem Mf{e:Env}{σ σ':SK}{d:D}{k:K}(h:bL e σ k=some (d,σ'))(hk:k.calm=true):σ'=σ:=by
 by_cases hm:∃o xs,k=.mp o xs
 ·obtain⟨o,xs,rfl⟩:=hm;exact aet h hk
 by_cases hm':∃o xs,k=.me o xs
 ·obtain⟨o,xs,rfl⟩:=hm';exact aen h
 cases k<;>(try (exact absurd ⟨_,_,rfl⟩ hm))<;>(try (exact absurd ⟨_,_,rfl⟩ hm'))<;>clear hm hm'<;>simp only[K.calm,aw]at hk<;>simp only[bL,aQ,reduceCtorEq]at h<;>(repeat' split at h)<;>
  simp only[ad,ah,ae,ak,Prod.exists,reduceCtorEq,exists_eq_left,and_false,exists_false]at h<;>(try split at h)<;>
  simp_all<;>(try (obtain⟨_,_,h⟩:=h;simp_all))<;>(try grind)
theorem P0{e:Env}{σ σ':SK}{d:D}{nb:List (Nat×Nat)}{sz:Nat}{a x:bK}(h:bL e σ (.st nb sz a x)=some (d,σ')):gL σ σ':=by
 simp only[bL]at h;split at h
 case h_2=>cases h
 split at h
 case h_2=>cases h
 rename_i l i v off hX _ cs hcs;split at h
 case h_2=>cases h
 rename_i p hcells;split at h
 case isFalse=>cases h
 rename_i hc;split at h
 ·rename_i htop;split at h
  ·rename_i p' σ1 hnb;cases h;have hg:=tg _ _ _ _ _ hnb;exact hg.trans (gL.set fun hl=>by have:=hg.len;omega)
  ·cases h
 ·rename_i htop;cases h;obtain⟨h1,h2⟩:=B0 l deep p σ;refine⟨dB.trans h2.len,fun hl=>(h2.low hl).set fun hlt=>?_⟩;have hcl:=zY hl hcs (by have:=h2.len;omega);simp only[aE.low,yp];exact⟨⟨E0 hcl,h1⟩,EZ hcl⟩
theorem Hm{e:Env}{σ σ':SK}{d:D}{w bytes:Nat}{s x:bK}(h:bL e σ (.app w bytes s x)=some (d,σ')):gL σ σ':=by
 simp only[bL,aQ,ah]at h;obtain⟨⟨m,xs⟩,he,h⟩:=h;dsimp only at h;split at h
 ·split at h
  case isFalse=>cases h
  split at h
  ·cases h;exact .refl _
  ·simp only[ah]at h;obtain⟨⟨l,i,σ1⟩,hn,h⟩:=h;cases h;exact .new hn
 ·split at h
  case h_2=>cases h
  rename_i l i v off n w' hX _ cs hcs;split at h
  case isFalse=>cases h
  split at h
  ·cases h;exact .set fun hl=>by omega
  ·cases h;obtain⟨h1,h2⟩:=B0 l deep xs σ;refine⟨dB.trans h2.len,fun hl=>(h2.low hl).set fun hlt=>?_⟩;have hcl:=zY hl hcs (by have:=h2.len;omega);simp only[aE.low,yp];exact⟨E0 (EZ hcl),h1⟩
 ·cases h
theorem aek{n j:Nat}{a:List D}{x:D}(h:D.mP n a=true)(hx:x.low n=true):D.mP n (a.set j x)=true:=by
 rw[BD]at h ⊢;intro d hd;rcases List.mem_or_eq_of_mem_set hd with h1 | rfl
 ·exact h d h1
 ·exact hx
theorem agn{σ σ':SK}{d:D}{o:Mo}{ds:List D}(h:AV σ o ds=some (d,σ')):gL σ σ':=by
 unfold AV at h;split at h
 ·simp only[ad,ak,Prod.exists]at h;obtain⟨l,i,σ1,hn,_,rfl⟩:=h;exact .new hn
 ·simp only[ad,ak,Prod.exists]at h;obtain⟨l,i,σ1,hn,_,rfl⟩:=h;exact .new hn
 ·split at h
  ·split at h
   ·split at h<;>first | (cases h;done) | (cases h;exact .refl _)
   ·cases h
  ·cases h
 ·rename_i ky m k v;split at h
  ·rename_i l i es hm;obtain⟨rfl,hcs⟩:=LO hm;split at h
   case isFalse=>cases h
   rename_i hc;have hlow:l+1<σ.length→k.low (l+1)=true∧v.low (l+1)=true:=fun hl=>by
    rcases hc.2 with h1 | ⟨h1,h2⟩
    ·omega
    ·exact⟨uU h1,uU h2⟩
   split at h
   ·cases h;refine⟨dB,fun hS=>hS.set fun hl=>?_⟩;have hcl:=zY hS hcs hl;obtain⟨h1,h2⟩:=hlow hl;simp only[aE.low];exact aek hcl (by simp[D.low,D.mP,h1,h2])
   ·cases h;refine⟨dB,fun hS=>hS.set fun hl=>?_⟩;have hcl:=zY hS hcs hl;obtain⟨h1,h2⟩:=hlow hl;simp only[aE.low,yp];exact⟨hcl,by simp[D.low,D.mP,h1,h2]⟩
   ·cases h
  ·cases h
 ·simp only[ad,ak]at h;obtain⟨_,_,_,rfl⟩:=h;exact .refl _
 ·split at h
  ·simp only[ad,ak,Prod.exists]at h;obtain⟨l,i,σ1,hn,_,rfl⟩:=h;exact .new hn
  ·cases h
 ·split at h
  ·split at h
   ·split at h
    ·split at h
     ·cases h;exact .refl _
     ·cases h
    ·cases h
   ·cases h
  ·cases h
 ·cases h
theorem aeX{e:Env}{σ σ':SK}{d:D}:∀{k:K},bL e σ k=some (d,σ')→gL σ σ'
 |.st ..,h=>P0 h
 |.app ..,h=>Hm h
 |.Q0 ..,h=>Hm (Qx h)
 |.apz w bytes s x,h=>by
  simp only[bL,ad,Prod.exists]at h;obtain⟨d1,σ1,h1,h2⟩:=h;obtain⟨h3,h4⟩:=zr 0 deep d1 σ1;rw[h2]at h4;exact(Hm (by rw[Kj];exact h1)).trans h4
 |.cvz x,h=>by
  simp only[bL]at h;split at h
  case h_2=>cases h
  split at h
  case isFalse=>cases h
  split at h
  case h_2=>cases h
  cases h;exact .set fun _=>trivial
 |.H6 nb cs,h=>by
  simp only[bL,aQ,ah]at h;obtain⟨⟨cs',σ1⟩,hnb,⟨l,i,σ2⟩,hn,h⟩:=h;cases h;exact(tg _ _ _ _ _ hnb).trans (.new hn)
 |.pI w,h=>by
  simp only[bL,aQ,ah]at h;obtain⟨⟨l,i,σ2⟩,hn,h⟩:=h;cases h;exact .new hn
 |.bxn nb x,h=>by
  simp only[bL,aQ,ah]at h;obtain⟨cs,_,⟨cs',σ1⟩,hnb,⟨l,i,σ2⟩,hn,h⟩:=h;cases h;exact(tg _ _ _ _ _ hnb).trans (.new hn)
 |.H8 x,h=>by
  simp only[bL,aQ,ah]at h;obtain⟨cs,_,⟨l,i,σ2⟩,hn,h⟩:=h;cases h;exact .new hn
 |.KX ..,h=>by
  simp only[bL,aQ,ah]at h;obtain⟨cs,_,⟨l,i,σ2⟩,hn,h⟩:=h;cases h;exact .new hn
 |.mks ..,h=>by
  simp only[bL]at h;split at h
  ·split at h
   ·simp only[aQ,ah]at h;obtain⟨⟨l,i,σ2⟩,hn,h⟩:=h;cases h;exact .new hn
   ·cases h
  ·cases h
 |.mv _,h=>same h rfl
 |.pick ..,h=>same h rfl
 |.ek ..,h=>by simp[bL]at h
 |.H7 _,h=>same h rfl
 |.EK _,h=>by simp[bL]at h
 |.lh ..,h=>same h rfl
 |.tH ..,h=>same h rfl
 |.ld ..,h=>same h rfl
 |.Qc ..,h=>same h rfl
 |.Sg ..,h=>same h rfl
 |.R5 os sz a x,h=>P0 (Qy h)
 |.Sf ..,h=>same h rfl
 |.mG ..,h=>same h rfl
 |.Sh ..,h=>same h rfl
 |.Er ..,h=>by simp[bL]at h
 |.bin ..,h=>same h rfl
 |.eqv ..,h=>same h rfl
 |.un ..,h=>same h rfl
 |.JG ..,h=>same h rfl
 |.yq ..,h=>same h rfl
 |.Jc ..,h=>same h rfl
 |.Ny ..,h=>same h rfl
 |.Ia ..,h=>same h rfl
 |.fld ..,h=>same h rfl
 |.Bw ..,h=>same h rfl
 |.dT ..,h=>same h rfl
 |.JP ..,h=>same h rfl
 |.Ie ..,h=>same h rfl
 |.Nf ..,h=>same h rfl
 |.mn ..,h=>same h rfl
 |.mx ..,h=>same h rfl
 |.cpi ..,h=>same h rfl
 |.bse,h=>same h rfl
 |.ape ..,h=>same h rfl
 |.ext ..,h=>same h rfl
 |.rj ..,h=>same h rfl
 |.mp ..,h=>agn h
 |.me ..,h=>same h rfl
 |.mki ..,h=>same h rfl
 |.tas ..,h=>same h rfl
 |.isi ..,h=>same h rfl
 |.Mw _,h=>by simp[bL]at h
 |.My,h=>by simp[bL]at h
 |.call ..,h=>by simp[bL]at h
where
 same {e:Env} {σ σ':SK} {d:D} {k:K} (h:bL e σ k=some (d,σ')) (hk:k.calm=true):gL σ σ':=by
  rw[Mf h hk];exact .refl _
end Go.Abs
