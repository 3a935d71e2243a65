import Derived.Test.YtfgljaglidhjiaaGreatDoorBase7
import Derived.Test.YtfgljaglidhjiaaGreatDoorBase5
import Derived.MapKept
import Derived.WideKeyRuns
import Derived.Maps.RangeRun
import Derived.Test.YtfgljaglidhjiaaGreatDoorBase4
import Derived.Test.YtfgljaglidhjiaaGreatDoorBase6
set_option linter.all false
namespace Go.Abs
open Go
theorem Mh{σ:SK}{d:D}{l i:Nat}{es:List D}(h:AX σ d=some (l,i,es)):d=.l7 l i∧cells? σ l i 0=some es:=by
 unfold AX at h;split at h
 ·simp only[ad,ak]at h;obtain⟨cs,h1,rfl,rfl,rfl⟩:=h;exact⟨rfl,h1⟩
 ·cases h
theorem I8{ky:Ky}{k:D}:∀{es:List D} {j:Nat} {v:D},rM ky k es=some (some (j,v))→∃k',es[j]?=some (.dV [k',v])∧tG ky k k'=some true
 |[],j,v,h=>by simp[rM]at h
 |x::es,j,v,h=>by
  unfold rM at h;split at h
  ·rename_i heq;cases heq
  ·rename_i k' v' es' heq;cases heq;split at h
   ·rename_i hq;cases h;exact⟨k',rfl,hq⟩
   ·simp only[ad]at h;obtain⟨x1,h1,x2,rfl,h2⟩:=h;cases h2;obtain⟨j0,v0⟩:=x2;obtain⟨k0,h3,h4⟩:=I8 h1;exact⟨k0,by simpa using h3,h4⟩
   ·cases h
  ·cases h
section
variable {P:Program} {g:G} {w:World}
theorem HB:∀{ks:List (Option IntKind)} {p q:List D},Ac ks p q=some true→p=q
 |[],p,q,h=>by obtain⟨rfl,rfl,_⟩:=vt h;rfl
 |some k::ks,p,q,h=>by
  obtain⟨a,x,c,y,b0,rfl,rfl,h0,hb⟩:=uf h;simp only[Bool.true_eq,af,beq_iff_eq]at hb;obtain⟨rfl,rfl⟩:=hb;rw[HB h0]
 |none::ks,p,q,h=>by
  obtain⟨a,x,c,y,b0,rfl,rfl,h0,hb⟩:=xq h;simp only[Bool.true_eq,af,beq_iff_eq]at hb;obtain⟨rfl,rfl⟩:=hb;rw[HB h0]
theorem D4(n:Nat):∀{ks:List (Option IntKind)} {p q:List D} {b:Bool},Ac ks p q=some b→∀{xs ys:List Value},bA g p xs→bA g p ys→xs=ys∧(xs.zip ys).all (fun z=>Instr.sameBits n z.1 z.2)=true
 |[],p,q,b,h,xs,ys,hx,hy=>by
  obtain⟨rfl,rfl,_⟩:=vt h;cases hx;cases hy;exact⟨rfl,rfl⟩
 |some k::ks,p,q,b,h,xs,ys,hx,hy=>by
  obtain⟨a,x,c,y,b0,rfl,rfl,h0,hb⟩:=uf h;cases hx with
  |cons _ v1 _ vs1 h1 h2 =>
   cases hy with
   |cons _ v2 _ vs2 h3 h4 =>
    obtain rfl:=h1.fu;obtain rfl:=h3.fu;obtain⟨h5,h6⟩:=D4 n h0 h2 h4;subst h5;exact⟨rfl,by simp only[List.zip_cons_cons,jV,h6,Instr.sameBits,BEq.rfl,Bool.and_self]⟩
 |none::ks,p,q,b,h,xs,ys,hx,hy=>by
  obtain⟨a,x,c,y,b0,rfl,rfl,h0,hb⟩:=xq h;cases hx with
  |cons _ v1 _ vs1 h1 h2 =>
   cases hy with
   |cons _ v2 _ vs2 h3 h4 =>
    obtain rfl:=h1.pP;obtain rfl:=h3.pP;obtain⟨h5,h6⟩:=D4 n h0 h2 h4;subst h5;exact⟨rfl,by simp only[List.zip_cons_cons,jV,h6,Instr.sameBits,BEq.rfl,Bool.and_self]⟩
theorem anS{a b:ByteArray}(h:a.data.toList=b.data.toList):a=b:=by
 apply ByteArray.ext;exact gZ.1 h
theorem aeJ{ky:Ky}{a b:D}{x y:Value}(h:tG ky a b=some true)(hx:bF g a x)(hy:bF g b y):x=y∧Instr.sameBits 10000 y x=true:=by
 unfold tG at h;split at h
 ·split at h
  ·rename_i s1 s2;simp only[ae,beq_iff_eq]at h;subst h;obtain⟨b1,rfl,h1⟩:=hx.mR;obtain⟨b2,rfl,h2⟩:=hy.mR;obtain rfl:=anS (h1.trans h2.symm);exact⟨rfl,by rw[Instr.sameBits,beq_toListBytes];exact beq_self_eq_true _⟩
  ·cases h
 ·rename_i ag ks;split at h
  ·rename_i p q hp hq;obtain rfl:=HB h;have h1:=vD hx hp;have h2:=vD hy hq;cases ag with
   |true =>
    simp only[vF,if_true]at h1 h2;obtain⟨xs,rfl,h3,_⟩:=h1;obtain⟨ys,rfl,h4,_⟩:=h2;obtain⟨h5,h6⟩:=D4 9999 h h4 h3;obtain rfl:=gZ.1 h5;exact⟨rfl,by simp only[Instr.sameBits,BEq.rfl,Bool.true_and];exact h6⟩
   |false =>
    simp only[vF,av,if_false]at h1 h2;obtain⟨h5,h6⟩:=D4 10000 h h2 h1;simp only[gO,and_true]at h5;subst h5;exact⟨rfl,by simpa using h6⟩
  ·cases h
theorem HK{t:TypeId}{ky:Ky}(h:HJ P t=some ky):(P.underlying t=some .string∧ky=none)∨(∃k,P.underlying t=some (.int k)∧ky=some (false,[some k])) ∨
  ∃fs ks,P.underlying t=some (.struct fs)∧na P 20 t=some ks∧ky=some (true,ks)∧fs.toList.all (fun f=>match P.underlying f.type with | some (.int _)=>true | some .bool=>true | _=>false)=true:=by
 unfold HJ at h;split at h
 ·rename_i hu;cases h;exact .inl ⟨hu,rfl⟩
 ·rename_i k hu;cases h;exact .inr (.inl ⟨k,hu,rfl⟩)
 ·rename_i fs hu;split at h
  ·rename_i hall;obtain⟨ks,hks,rfl⟩:=ad.1 h;exact .inr (.inr ⟨fs,ks,hu,hks,rfl,hall⟩)
  ·cases h
 ·cases h
theorem Jj{t:TypeId}{ky:Ky}(hk:HJ P t=some ky){a b:D}{c:Bool}{x y:Value}(h:tG ky a b=some c)(hx:bF g a x)(hy:bF g b y):(Op.equal t x y).run P w=.ok c w:=by
 have key:∀ag ks,na P 20 t=some ks→ve P t=some ag→tG (some (ag,ks)) a b=some c→(Op.equal t x y).run P w=.ok c w:=by
  intro ag ks hks hag hq;simp only[tG]at hq;split at hq
  case h_2=>cases hq
  rename_i p q hp hq2;obtain⟨ag',hag',_,hEq⟩:=Ei (P:=P) (g:=g) (w:=w) 20 t ks hks;rw[hag]at hag';cases hag';exact hEq 10000 (by omega) p q x y c (vD hx hp) (vD hy hq2) hq
 rcases HK hk with⟨hu,rfl⟩ | ⟨k,hu,rfl⟩ | ⟨fs,ks,hu,hks,rfl,_⟩
 ·simp only[tG]at h;split at h
  case h_2=>cases h
  rename_i s1 s2;cases h;obtain⟨b1,rfl,h1⟩:=hx.mR;obtain⟨b2,rfl,h2⟩:=hy.mR;have:=run_equalIn_string (P:=P) w 9999 t b1 b2 hu;simp only[Op.equal,Op.maxDepth];rw[this,ByteArray.toList_eq,ByteArray.toList_eq,h1,h2]
 ·exact key false [some k] (by simp[na,hu]) (by simp[ve,hu]) h
 ·exact key true ks hks (by simp[ve,hu]) h
def Found(dI:List MapEntry)(r:Option (Nat×D))(g:G)(o:Option (Nat×Value))(i:Nat):Prop :=
 match r with
 |none=>o=none
 |some (j,v)=>∃e,dI[j]?=some e∧o=some (i+j,e.val)∧bF g v e.val
theorem KM{k v:D}{a b:Value}(h:bF g (.dV [k,v]) (.tuple #[a,b])):bF g k a∧bF g v b:=by
 cases h with
 |dV _ _ hr =>
  cases hr with
  |cons _ _ _ _ h1 h2=>cases h2 with | cons _ _ _ _ h3 h4=>exact⟨h1,h3⟩
theorem Hk{t:TypeId}{ky:Ky}(hk:HJ P t=some ky){k:D}{x:Value}(hx:bF g k x):∀(es:List D) (dI:List MapEntry) (r:Option (Nat×D)) (i:Nat),bA g es (dI.map fun e => .tuple #[e.key,e.val])→rM ky k es=some r →
  ∃o,(Instr.findAsking t x dI i).run P w=.ok o w∧Found dI r g o i
 |[],dI,r,i,hr,h=>by
  cases dI with
  |nil=>simp only[rM,ae]at h;subst h;exact⟨none,by simp[Instr.findAsking],rfl⟩
  |cons e dI=>cases hr
 |d::es,dI,r,i,hr,h=>by
  cases dI with
  |nil=>cases hr
  |cons e dI =>
   rw[aL]at hr;cases hr with
   |cons _ _ _ _ hr1 hr2 =>
   unfold rM at h;split at h
   ·rename_i heq;cases heq
   ·rename_i k' v es' heq;cases heq;obtain⟨hk1,hv1⟩:=KM hr1;split at h
    ·rename_i hq;cases h;have he:=Jj (w:=w) hk hq hx hk1;refine⟨some (i,e.val),by simp[Instr.findAsking,he],e,rfl,by simp,hv1⟩
    ·rename_i hq;simp only[ad]at h;obtain⟨r1,h1,rfl⟩:=h;have he:=Jj (w:=w) hk hq hx hk1;obtain⟨o,ho,hf⟩:=Hk hk hx es dI r1 (i+1) hr2 h1;refine⟨o,by simp[Instr.findAsking,he,ho],?_⟩;cases r1 with
     |none=>exact hf
     |some y =>
      obtain⟨e1,h3,h4,h5⟩:=hf;exact⟨e1,by simpa using h3,by rw[h4];congr 2;omega,h5⟩
    ·cases h
   ·cases h
theorem Kk{t:TypeId}{ky:Ky}{dsc:TypeDesc}{k:D}{x:Value}(hs:∀k' y c,tG ky k k'=some c→bF g k' y→Instr.sameNow dsc x y=some c):∀(es:List D) (dI:List MapEntry) (r:Option (Nat×D)) (i:Nat),bA g es (dI.map fun e => .tuple #[e.key,e.val])→rM ky k es=some r →
  ∃o,Instr.findNow dsc x dI i=some o∧Found dI r g o i
 |[],dI,r,i,hr,h=>by
  cases dI with
  |nil=>simp only[rM,ae]at h;subst h;exact⟨none,by simp[Instr.findNow],rfl⟩
  |cons e dI=>cases hr
 |d::es,dI,r,i,hr,h=>by
  cases dI with
  |nil=>cases hr
  |cons e dI =>
   rw[aL]at hr;cases hr with
   |cons _ _ _ _ hr1 hr2 =>
   unfold rM at h;split at h
   ·rename_i heq;cases heq
   ·rename_i k' v es' heq;cases heq;obtain⟨hk1,hv1⟩:=KM hr1;split at h
    ·rename_i hq;cases h;exact⟨some (i,e.val),by simp[Instr.findNow,hs _ _ _ hq hk1],e,rfl,by simp,hv1⟩
    ·rename_i hq;simp only[ad]at h;obtain⟨r1,h1,rfl⟩:=h;obtain⟨o,ho,hf⟩:=Kk (t:=t) hs es dI r1 (i+1) hr2 h1;refine⟨o,by simp[Instr.findNow,hs _ _ _ hq hk1,ho],?_⟩;cases r1 with
     |none=>exact hf
     |some y =>
      obtain⟨e1,h3,h4,h5⟩:=hf;exact⟨e1,by simpa using h3,by rw[h4];congr 2;omega,h5⟩
    ·cases h
   ·cases h
theorem yn{t:TypeId}{ky:Ky}(hk:HJ P t=some ky){k:D}{x:Value}(hx:bF g k x){es:List D}{dI:List MapEntry}{r:Option (Nat×D)}(hr:bA g es (dI.map fun e => .tuple #[e.key,e.val]))(h:rM ky k es=some r)
  (hself:(tG ky k k).isSome=true):∃o,(Instr.findKey t x dI).run P w=.ok o w∧Found dI r g o 0:=by
 rcases HK hk with⟨hu,rfl⟩ | ⟨kk,hu,rfl⟩ | ⟨fs,ks,hu,hks,rfl,_⟩
 ·obtain⟨o,h1,h2⟩:=Kk (t:=t) (ky:=none) (k:=k) (x:=x) (dsc:=.string) (fun k' y c hq hy=>by
   simp only[tG]at hq;split at hq
   case h_2=>cases hq
   cases hq;obtain⟨b1,rfl,h1⟩:=hx.mR;obtain⟨b2,rfl,h2⟩:=hy.mR;simp only[Instr.sameNow];rw[beq_toListBytes,ByteArray.toList_eq,ByteArray.toList_eq,h1,h2]) es dI r 0 hr h
  exact⟨o,MapKept.run_findKey hu h1,h2⟩
 ·obtain⟨o,h1,h2⟩:=Kk (t:=t) (ky:=some (false,[some kk])) (k:=k) (x:=x) (dsc:=.int kk) (fun k' y c hq hy=>by
   simp only[tG]at hq;split at hq
   case h_2=>cases hq
   rename_i p q hp hq2;have hx1:=vD hx hp;have hy1:=vD hy hq2;simp only[vF,av,if_false]at hx1 hy1;obtain⟨a,xs,b,ys,b0,rfl,rfl,h0,rfl⟩:=uf hq;obtain⟨rfl,rfl,rfl⟩:=vt h0;cases hx1 with
   |cons _ _ _ _ g1 _ =>
    cases hy1 with
    |cons _ _ _ _ g2 _ =>
     obtain rfl:=g1.fu;obtain rfl:=g2.fu;simp[Instr.sameNow]) es dI r 0 hr h
  exact⟨o,MapKept.run_findKey hu h1,h2⟩
 ·obtain⟨o,h1,h2⟩:=Hk (w:=w) hk hx es dI r 0 hr h;refine⟨o,?_,h2⟩;rw[run_findKey_eq w (by simp[hu])];exact h1
theorem AF(em:Bool){xs:Array Value}{p:List D}(hx:bA g p xs.toList)(h1x:∀y∈xs.toList,y.oneCell'=true):
  ∀(fs:List Field) (o:Nat) (ks:List (Option IntKind)) (q:List D) (b:Bool),na.kindsF P (na P 19) o fs=some ks→fs.all (fun f=>match P.underlying f.type with | some (.int _)=>true | some .bool=>true | _=>false)=true →
   Ac ks (p.drop o) q=some b →
   (forIn (m:=Sem) fs PUnit.unit fun f _=>do
    if f.name ≠ "_" then Instr.checkKey em 9999 f.type (← part f.type xs f.offset)
    pure (ForInStep.yield PUnit.unit)).run P w=.ok PUnit.unit w
 |[],o,ks,q,b,hk,ha,he=>by simp
 |f::fs,o,ks,q,b,hk,ha,he=>by
  simp only[na.kindsF]at hk;split at hk
  case h_2=>cases hk
  rename_i k1 hk1;split at hk
  case isFalse=>cases hk
  rename_i hc;obtain⟨hname,hoff,hsz,hpos⟩:=hc;simp only[ad]at hk;obtain⟨k2,hk2,rfl⟩:=hk;simp only[jV,af]at ha;obtain⟨l1,l2⟩:=BW _ _ _ _ he;obtain⟨b1,b2,e1,e2,rfl⟩:=xp _ _ _ _ _ he;simp only[bC,List.length_drop]at l1 l2;have ih:=AF em hx h1x fs (o+k1.length) k2 (q.drop k1.length) b2 hk2 ha.2 (by simpa[iE]using e2);have one:∃a,(part f.type xs o).run P w=.ok a w∧(Instr.checkKey em 9999 f.type a).run P w=.ok () w:=by
   have h0:=ha.1;split at h0
   ·rename_i k hu;have hk1':k1=[some k]:=by simp[na,hu]at hk1;exact hk1.symm
    subst hk1';obtain⟨a,hpa,hra⟩:=B7 (P:=P) (w:=w) (ag:=false) (n:=1) (o:=o) (by simp[ve,hu]) hsz (fun _=>rfl) hx h1x (by simp only[aG,bL]at l1 ⊢;omega);simp only[vF,av,if_false]at hra;obtain⟨a0,x0,c0,y0,b0,e3,_,_,_⟩:=uf e1;simp only[aG,bL,cZ]at e3;rw[e3]at hra;cases hra with
    |cons _ _ _ _ g1 g2 =>
     obtain rfl:=g1.fu;exact⟨_,hpa,MapKept.run_checkKey (d:=.int k) hu (by simp[MapKept.IsKey]) em 9998⟩
   ·rename_i hu;have hk1':k1=[none]:=by simp[na,hu]at hk1;exact hk1.symm
    subst hk1';obtain⟨a,hpa,hra⟩:=B7 (P:=P) (w:=w) (ag:=false) (n:=1) (o:=o) (by simp[ve,hu]) hsz (fun _=>rfl) hx h1x (by simp only[aG,bL]at l1 ⊢;omega);simp only[vF,av,if_false]at hra;obtain⟨a0,x0,c0,y0,b0,e3,_,_,_⟩:=xq e1;simp only[aG,bL,cZ]at e3;rw[e3]at hra;cases hra with
    |cons _ _ _ _ g1 g2 =>
     obtain rfl:=g1.pP;exact⟨_,hpa,MapKept.run_checkKey (d:=.bool) hu (by simp[MapKept.IsKey]) em 9998⟩
   ·cases h0
  obtain⟨a,h1,h2⟩:=one;rw[List.forIn_cons];rw[hoff];simp only[hname,ne_eq,not_false_eq_true,if_true,Sem.run_bind,h1,h2,Result.andThen_ok,Sem.run_pure];exact ih
theorem D0{t:TypeId}{ky:Ky}(hk:HJ P t=some ky){k:D}{x:Value}(hx:bF g k x)(hself:(tG ky k k).isSome=true)(em:Bool):(Instr.checkKey em 10000 t x).run P w=.ok () w:=by
 rcases HK hk with⟨hu,rfl⟩ | ⟨kk,hu,rfl⟩ | ⟨fs,ks,hu,hks,rfl,hall⟩
 ·refine MapKept.run_checkKey (d:=.string) hu ?_ em 9999;obtain⟨c,hc⟩:=dD.1 hself;simp only[tG]at hc;split at hc
  case h_2=>cases hc
  obtain⟨b1,rfl,h1⟩:=hx.mR;simp[MapKept.IsKey]
 ·refine MapKept.run_checkKey (d:=.int kk) hu ?_ em 9999;obtain⟨c,hc⟩:=dD.1 hself;simp only[tG]at hc;split at hc
  case h_2=>cases hc
  rename_i p q hp hq2;have hx1:=vD hx hp;simp only[vF,av,if_false]at hx1;obtain⟨a,xs,b,ys,b0,rfl,_,h0,rfl⟩:=uf hc;obtain⟨rfl,_,rfl⟩:=vt h0;cases hx1 with
  |cons _ _ _ _ g1 _ =>
   obtain rfl:=g1.fu;simp[MapKept.IsKey]
 ·obtain⟨c,hc⟩:=dD.1 hself;simp only[tG]at hc;split at hc
  case h_2=>cases hc
  rename_i p q hp hq2;have hx1:=vD hx hp;simp only[vF,if_true]at hx1;obtain⟨xs,rfl,hxr,h1x⟩:=hx1;have hks':na.kindsF P (na P 19) 0 fs.toList=some ks:=by
   have:=hks;rw[na,hu]at this;dsimp only at this;split at this
   ·cases this
   ·exact this
  have hrun:=AF (P:=P) (w:=w) em hxr h1x fs.toList 0 ks q c hks' hall (by simpa using hc);rw[show(10000:Nat)=9999+1 from rfl,Instr.checkKey];simp only[Sem.run_bind,run_underlying hu,Result.andThen_ok];rw[← Array.forIn_toList];simp at hrun ⊢;rw[hrun];rfl
end
section
variable {P:Program} {CR:gg} {base fb:Nat} {V:List Nat} {g:G} {σ σ':SK} {w:World} {B:Nat→Nat} {e:Env} {tmps:Array Value} {df:List Deferred} {d:D}
theorem Inv.ae6(hi:Inv CR base g σ w){l i:Nat}(hn:iC σ (.cells 0 [])=some (l,i,σ')):
  Inv CR base (g.cI l i (.mp w.heap.size)) σ' (w.alloc (.map #[] 0))∧Ev g w (g.cI l i (.mp w.heap.size)) (w.alloc (.map #[] 0)):=by
 obtain⟨h1,h2,h3,_,_⟩:=kl hn;have hnone:=hi.B5 h1;have hle:g.le (g.cI l i (.mp w.heap.size)):=G.kP fun L0 e=>by rw[hnone]at e;cases e
 refine⟨hi.ED l i hle h3 (fun l' i' c=>G.bz c) (fun l' i' L b c e eb=>alloc_old (hi.lo l' i' L b e eb).2) ?_ ?_ ?_ ?_ (by simp) ⟨_,G.aF⟩ (fun b v hb=>alloc_old (hi.jS hb)),⟨hle,rfl,rfl,rfl,by simp,fun b hb _=>alloc_old hb,?_,fun b o v hv => .inl hv⟩⟩
 ·intro L e;rw[G.aF]at e;cases e;exact⟨_,h2,rfl,#[],0,tL,.nil,by simp[ON]⟩
 ·intro b o v e;obtain⟨h1,h2⟩:=hi.rh b o v e;exact⟨(jh (alloc_old (hi.jS e))).trans h1,h2⟩
 ·intro l' i' L b e eb o;by_cases c:l'=l∧i'=i
  ·obtain⟨rfl,rfl⟩:=c;rw[G.aF]at e;cases e;cases eb;cases e':(g.cI l' i' (.mp w.heap.size)).rh w.heap.size o with
   |none=>rfl
   |some v=>have:=hi.jS (b:=w.heap.size) (o:=o) (v:=v) e';omega
  ·rw[G.bz c]at e;exact hi.sep l' i' L b e eb o
 ·intro L b e eb;rw[G.aF]at e;cases e;cases eb;refine⟨hi.ge,by simp,fun l' i' L' c e' eb'=>?_⟩;have:=(hi.lo l' i' L' _ e' eb').2;omega
 ·intro b hb;obtain⟨l',i',L,e,eb⟩:=hb;by_cases c:l'=l∧i'=i
  ·obtain⟨rfl,rfl⟩:=c;rw[G.aF]at e;cases e;cases eb;exact .inr (aI _)
  ·rw[G.bz c]at e;exact .inl ⟨l',i',L,e,eb⟩
theorem Inv.arv(hi:Inv CR base g σ w){l i T ee:Nat}(hn:iC σ (.cells 2 [.int .i64 (T:Nat),.int .i64 (ee:Nat),.str []])=some (l,i,σ')):
  Inv CR base (g.cI l i (.ob w.heap.size none)) σ' (w.alloc (.cells #[.pointer none,.slice none 0 0] T))∧Ev g w (g.cI l i (.ob w.heap.size none)) (w.alloc (.cells #[.pointer none,.slice none 0 0] T)):=by
 obtain⟨h1,h2,h3,_,_⟩:=kl hn;have hnone:=hi.B5 h1;have hle:g.le (g.cI l i (.ob w.heap.size none)):=G.kP fun L0 e=>by rw[hnone]at e;cases e
 have hown:∀b,(Loc.ob w.heap.size none).owns b→w.heap.size=b:=fun b h=>by
  rcases h with h | h
  ·exact h
  ·cases h
 refine⟨hi.ED l i hle h3 (fun l' i' c=>G.bz c) (fun l' i' L b c e eb=>alloc_old (hi.lo l' i' L b e eb).2) ?_ ?_ ?_ ?_ (by simp) ⟨_,G.aF⟩ (fun b v hb=>alloc_old (hi.jS hb)),⟨hle,rfl,rfl,rfl,by simp,fun b hb _=>alloc_old hb,?_,fun b o v hv => .inl hv⟩⟩
 ·intro L e;rw[G.aF]at e;cases e;exact⟨_,h2,rfl,T,ee,[],.pointer none,.slice none 0 0,rfl,tL,.inl rfl,World.ownsRowF_nil _ _ _ _,rfl,by simp⟩
 ·intro b o v e;obtain⟨h1,h2⟩:=hi.rh b o v e;exact⟨(jh (alloc_old (hi.jS e))).trans h1,h2⟩
 ·intro l' i' L b e eb o;by_cases c:l'=l∧i'=i
  ·obtain⟨rfl,rfl⟩:=c;rw[G.aF]at e;cases e;obtain rfl:=hown b eb;cases e':(g.cI l' i' (.ob w.heap.size none)).rh w.heap.size o with
   |none=>rfl
   |some v=>have:=hi.jS (b:=w.heap.size) (o:=o) (v:=v) e';omega
  ·rw[G.bz c]at e;exact hi.sep l' i' L b e eb o
 ·intro L b e eb;rw[G.aF]at e;cases e;obtain rfl:=hown b eb;refine⟨hi.ge,by simp,fun l' i' L' c e' eb'=>?_⟩;have:=(hi.lo l' i' L' _ e' eb').2;omega
 ·intro b hb;obtain⟨l',i',L,e,eb⟩:=hb;by_cases c:l'=l∧i'=i
  ·obtain⟨rfl,rfl⟩:=c;rw[G.aF]at e;cases e;obtain rfl:=hown b eb;exact .inr (aI _)
  ·rw[G.bz c]at e;exact .inl ⟨l',i',L,e,eb⟩
theorem Inv.afn(hi:Inv CR base g σ w){l i b:Nat}{b0:aE}{es:List D}(hL:g.loc l i=some (.mp b))(hb:ef σ l i=some b0){dI:Array MapEntry}{clock:Nat}
  (hr:bA g es (dI.toList.map fun e => .tuple #[e.key,e.val])) (hm:ON dI.toList clock) {w':World} (hw:w'={w with heap:=w.heap.setIfInBounds b (.map dI clock) }):
  Inv CR base (g.cI l i (.mp b)) (aV σ l i (.cells 0 es)) w'∧Ev g w (g.cI l i (.mp b)) w':=by
 subst hw;have hlt:=(hi.lo l i _ b hL rfl).2;have hle:g.le (g.cI l i (.mp b)):=G.kP fun L0 e=>by rw[hL]at e;cases e;exact Loc.le_refl _
 refine hi.setCells hL hb (Loc.le_refl _) ⟨rfl,dI,clock,by simp[hlt],hr.mono hle,hm⟩ (fun b' hb' hne=>?_) rfl rfl rfl (by simp) (fun b' hb' => .inl hb');have:b≠b':=fun hh=>hne (by rw[hh];rfl)
 simp[this]
theorem zy(hi:Inv CR base g σ w){m:D}{c:Value}(hr:bF g m c){l i:Nat}{es:List D}(h:AX σ m=some (l,i,es)):
  ∃b dI clock v,c=.map (some b)∧g.loc l i=some (.mp b)∧ef σ l i=some (.cells v es)∧w.heap[b]?=some (.map dI clock)∧bA g es (dI.toList.map fun e => .tuple #[e.key,e.val])∧ON dI.toList clock:=by
 obtain⟨rfl,hcs⟩:=Mh h;unfold cells? at hcs;split at hcs
 case h_2=>cases hcs
 rename_i v' cs' hblk;split at hcs
 case isFalse=>cases hcs
 cases hcs;cases hr with
 |l7 _ _ b hl =>
  obtain⟨b0,hb0,hrel⟩:=hi.wZ l i _ hl;rw[hblk]at hb0;cases hb0;exact hrel.elim
 |QT _ _ b hl =>
  obtain⟨b0,hb0,hrel⟩:=hi.wZ l i _ hl;rw[hblk]at hb0;cases hb0;obtain⟨_,dI,clock,h1,h2,h3⟩:=hrel;exact⟨b,dI,clock,v',rfl,hl,hblk,h1,h2,h3⟩
 |itv _ _ b L hl hc =>
  obtain⟨b0,hb0,hrel⟩:=hi.wZ l i _ hl;rw[hblk]at hb0;cases hb0;rcases hc with rfl | rfl
  ·rename_i hv0;obtain⟨hv1,_⟩:=hrel;omega
  ·exact hrel.elim
 |RQ _ _ b L hl hc =>
  obtain⟨b0,hb0,hrel⟩:=hi.wZ l i _ hl;rw[hblk]at hb0;cases hb0;rcases hc with⟨c,rfl⟩ | rfl
  ·rename_i hv0;obtain⟨hv1,_⟩:=hrel;omega
  ·exact hrel.elim
theorem aws(hi:Inv CR base g σ w){t:TypeId}{ρ:Operand→Value}(h:bH e σ (.mp .make [])=some (d,σ'))(o:Oper)(ho:o.op=.makeMap t none):ga P CR base g w B e ρ o d σ':=by
 simp only[bH,bQ,AY,ad,ak,Prod.exists]at h;obtain⟨l,i,σ1,hn,rfl,rfl⟩:=h;obtain⟨i1,e1⟩:=hi.ae6 hn;exact .val (.map (some w.heap.size)) (by
  have hrun:(Instr.makeMap t none).run P w=.ok (.map (some w.heap.size)) (w.alloc (.map #[] 0)):=rfl;simp only[execOp,ho,Option.map_none,Sem.run_bind,hrun,Result.andThen_ok,Sem.run_pure]) e1 i1 (.QT l i _ G.aF)
theorem awp(hi:Inv CR base g σ w){el ee:TypeId}{ρ:Operand→Value}(hz:sC P el=some [.xF,.aK])
  (h:bH e σ (.mp (.l9 el ee) [])=some (d,σ')) (o:Oper) (ho:o.op=.alloc el):ga P CR base g w B e ρ o d σ':=by
 obtain⟨i0,v,hinfo,hzero,hrz,h1⟩:=tV g hz;simp only[bH,bQ,AY,ad,ak,Prod.exists]at h;obtain⟨l,i,σ1,hn,rfl,rfl⟩:=h;obtain⟨i1,e1⟩:=hi.arv hn;have hv:v.cells = #[.pointer none,.slice none 0 0]:=by
  generalize v.cells=a at hrz;obtain⟨a⟩:=a;dsimp only at hrz;cases hrz with
  |cons _ c _ cs k1 k2 =>
   cases k2 with
   |cons _ c2 _ cs2 k3 k4 =>
    cases k4;cases k1;cases k3;rfl
 have hrun:=Fx (w:=w) hinfo hzero;rw[hv]at hrun;exact .val (.pointer (some ⟨w.heap.size,0,none⟩)) (by simp[execOp,ho,hrun]) e1 i1 (.RQ l i _ _ G.aF (.inl ⟨_,rfl⟩))
theorem ash(hi:Inv CR base g σ w){t kt et:TypeId}{ik:IntKind}{n:Int}(h:bH e σ (.mp .make [])=some (d,σ'))(ht:P.underlying t=some (.map kt et))(o:Oper)(ho:o.op=.makeMap t (some (.const (.int ik n)))):ga P CR base g w B e (Act.mk tmps df).eval o d σ':=by
 simp only[bH,bQ,AY,ad,ak,Prod.exists]at h;obtain⟨l,i,σ1,hn,rfl,rfl⟩:=h;obtain⟨i1,e1⟩:=hi.ae6 hn;exact .val (.map (some w.heap.size)) (by
  have hrun:(Instr.makeMap t (some (.int ik n))).run P w=.ok (.map (some w.heap.size)) (w.alloc (.map #[] 0)):=by
   simp only[Instr.makeMap,Sem.run_bind,bh ht,Result.andThen_ok];rfl
  have hev:(Act.mk tmps df).eval (.const (.int ik n))=.int ik n:=rfl;simp only[execOp,ho,aR,hev,Sem.run_bind,hrun,Result.andThen_ok,Sem.run_pure]) e1 i1 (.QT l i _ G.aF)
theorem asi(hf:Fr fb V g w B e tmps)(hi:Inv CR base g σ w){x:Operand}{X:bG}{t kt et:TypeId}{args:Array Operand}{ts:Array TypeId}{r:List Operand}{tr:List TypeId}(hx:bD x=some X)
  (ht:P.underlying t=some (.map kt et)) (ha:args.toList=x::r) (hts:ts.toList=t::tr)
  (h:bH e σ (.mp .len [X])=some (d,σ')) (o:Oper) (ho:o.op=.call {callee:=.builtin .len,args,argTypes:=ts }):ga P CR base g w B e (Act.mk tmps df).eval o d σ':=by
 have hr:=hf.bg (df:=df) hx;obtain rfl:args=(x::r).toArray:=by rw[← ha]
 obtain rfl:ts=(t::tr).toArray:=by rw[← hts]
 simp only[bH,aL,bQ,AY,ad,ak,Prod.exists]at h;obtain⟨l,i,es,hm,rfl,rfl⟩:=h;obtain⟨b,dI,clock,v,hc,hl,hblk,hheap,hrel,hok⟩:=zy hi hr hm;have hlen:=hrel.length;simp only[di,Array.length_toList]at hlen;refine .pure hi (c:=.int .i64 dI.size) ?_ (by rw[hlen];exact cK.of (.int _ _));simp[execOp,ho,resolve,invoke,builtin,Builtin.len_,hc,bh ht,goInt,MapKept.run_getObj_map hheap]
theorem KO{t:TypeId}{z:D}(g:G)(h:zvC P t=some z):∃i v,P.info? t=some i∧i.zero=some v∧bF g z v:=by
 unfold zvC at h;split at h
 ·rename_i i hi;split at h
  ·rename_i v hv;exact⟨i,v,hi,hv,Ht g h⟩
  ·cases h
 ·cases h
theorem asf(hf:Fr fb V g w B e tmps)(hi:Inv CR base g σ w){x y:Operand}{X Y:bG}{t kt et:TypeId}{ky:Ky}{z:D}{ok:Bool}(hx:bD x=some X)(hy:bD y=some Y)
  (ht:P.underlying t=some (.map kt et)) (hk:HJ P kt=some ky) (hz:zvC P et=some z)
  (h:bH e σ (.mp (.get ky z ok) [X,Y])=some (d,σ')) (o:Oper) (ho:o.op=.lookup t x y ok):ga P CR base g w B e (Act.mk tmps df).eval o d σ':=by
 have hr:=hf.bg (df:=df) hx;have hr':=hf.bg (df:=df) hy;simp only[bH,aL,bQ,AY]at h;split at h
 case h_2=>cases h
 rename_i l i es hm;split at h
 case isFalse=>cases h
 rename_i hself;obtain⟨b,dI,clock,v,hc,hl,hblk,hheap,hrel,hok⟩:=zy hi hr hm;have hck:=D0 (w:=w) hk hr' hself dI.isEmpty;obtain⟨iz,zv,hz1,hz2,hz3⟩:=KO g hz;split at h
 ·rename_i j v1 hfk;cases h;obtain⟨o1,ho1,e1,_,rfl,hv1⟩:=yn (w:=w) hk hr' hrel hfk hself;cases ok
  ·refine .pure hi (c:=e1.val) ?_ (cK.of (by simpa using hv1));simp[execOp,ho,Instr.lookup,bh ht,hc,MapKept.run_getObj_map hheap,hck,ho1]
  ·refine .pure hi (c:=.tuple #[e1.val,.bool true]) ?_ (cK.of (by simpa using bF.dV _ #[e1.val,.bool true] (.cons _ _ _ _ hv1 (.cons _ _ _ _ (.bool true) .nil))));simp[execOp,ho,Instr.lookup,bh ht,hc,MapKept.run_getObj_map hheap,hck,ho1]
 ·rename_i hfk;cases h;obtain⟨o1,ho1,hf1⟩:=yn (w:=w) hk hr' hrel hfk hself;obtain rfl:o1=none:=hf1;cases ok
  ·refine .pure hi (c:=zv) ?_ (cK.of (by simpa using hz3));simp[execOp,ho,Instr.lookup,bh ht,hc,MapKept.run_getObj_map hheap,hck,ho1,iD hz1 hz2]
  ·refine .pure hi (c:=.tuple #[zv,.bool false]) ?_ (cK.of (by simpa using bF.dV _ #[zv,.bool false] (.cons _ _ _ _ hz3 (.cons _ _ _ _ (.bool false) .nil))));simp[execOp,ho,Instr.lookup,bh ht,hc,MapKept.run_getObj_map hheap,hck,ho1,iD hz1 hz2]
 ·cases h
theorem bA.set{g:G}:∀{ds:List D} {cs:List Value} {j:Nat} {d:D} {c:Value},bA g ds cs→bF g d c→bA g (ds.set j d) (cs.set j c)
 |[],[],_,_,_,_,_=>by simpa using bA.nil
 |_::_,_::_,0,_,_,.cons _ _ _ _ h1 h2,h => .cons _ _ _ _ h h2
 |_::_,_::_,j+1,_,_,.cons _ _ _ _ h1 h2,h => .cons _ _ _ _ h1 (h2.set h)
theorem afm(hf:Fr fb V g w B e tmps)(hi:Inv CR base g σ w){x y u:Operand}{X Y U:bG}{t kt et:TypeId}{ky:Ky}(hx:bD x=some X)(hy:bD y=some Y)(hu:bD u=some U)
  (ht:P.underlying t=some (.map kt et)) (hk:HJ P kt=some ky)
  (h:bH e σ (.mp (.put ky) [X,Y,U])=some (d,σ')) (o:Oper) (ho:o.op=.mapUpdate t x y u∨o.op=.insert t x y u):ga P CR base g w B e (Act.mk tmps df).eval o d σ':=by
 have hr:=hf.bg (df:=df) hx;have hr':=hf.bg (df:=df) hy;have hru:=hf.bg (df:=df) hu;simp only[bH,aL,bQ,AY]at h;split at h
 case h_2=>cases h
 rename_i l i es hm;split at h
 case isFalse=>cases h
 rename_i hself;obtain⟨b,dI,clock,v,hc,hl,hblk,hheap,hrel,hok⟩:=zy hi hr hm;have hck:=D0 (w:=w) hk hr' hself.1 false;generalize hkv:(Act.mk tmps df).eval y=kv at *
 generalize huv:(Act.mk tmps df).eval u=uv at *
 have hnew:bF g (.dV [bg e Y,bg e U]) (.tuple #[kv,uv]):=.dV _ _ (.cons _ _ _ _ hr' (.cons _ _ _ _ hru .nil));split at h
 ·rename_i j v1 hfk;cases h;obtain⟨o1,ho1,e1,he1,rfl,hv1⟩:=yn (w:=w) hk hr' hrel hfk hself.1;obtain⟨k',hk',hkq⟩:=I8 hfk;have hj:dI[j]?=some e1:=by simpa using he1
  have hold:bF g k' e1.key:=by
   obtain⟨c0,hc0,hr0⟩:=hrel.get hk';rw[nj,he1]at hc0;cases hc0;exact(KM hr0).1
  obtain⟨hsame,hbits⟩:=aeJ hkq hr' hold;have hlist:(dI.modify j fun e=>{e with key:=kv,val:=uv }).toList=dI.toList.set j {e1 with key:=kv,val:=uv }:=by
   rw[Array.toList_modify];apply dY;intro n;rw[List.getElem?_modify,List.getElem?_set];by_cases hn:j=n
   ·subst hn;have hlt:=(aB.1 he1).1;have hlt2:j<dI.size:=by simpa using hlt
    have hje:dI[j]=e1:=(cX.1 hj).2;simp[he1,hlt2,hje]
   ·simp[hn]
  obtain⟨i1,ev1⟩:=hi.afn (es:=es.set j (.dV [bg e Y,bg e U])) (dI:=dI.modify j fun e=>{e with key:=kv,val:=uv }) (clock:=clock) (w':={w with heap:=w.heap.setIfInBounds b (.map (dI.modify j fun e=>{e with key:=kv,val:=uv }) clock) }) hl hblk (by
    rw[hlist,List.map_set];exact hrel.set hnew) (by
    have hlt:=(aB.1 he1);rw[hlist];refine⟨?_,by rw[List.length_set];exact hok.2⟩;rw[List.map_set,List.length_set];have:(dI.toList.map (·.born)).set j e1.born=dI.toList.map (·.born):=by
     apply dY;intro n;rw[List.getElem?_set];by_cases hn:j=n
     ·subst hn;have hlt2:j<dI.size:=by simpa using hlt.1
      have hje:dI[j]=e1:=(cX.1 hj).2;simp[he1,hlt2,hje]
     ·simp[hn]
    rw[this];exact hok.1) rfl
  refine⟨.skip,Go.undef,_,_,?_,rfl,ev1,i1,.undef _⟩;have hkts:∀w:World,(Instr.keyThatStays e1.key kv).run P w=.ok kv w:=fun w=>by simp[Instr.keyThatStays,hbits]
  rcases ho with ho | ho<;>simp[execOp,ho,Instr.mapUpdate,bh ht,hc,hkv,huv,MapKept.run_getObj_map hheap,hck,ho1,hj,hkts,MapKept.run_setObj_map _ hheap]
 ·rename_i hfk;cases h;obtain⟨o1,ho1,hf1⟩:=yn (w:=w) hk hr' hrel hfk hself.1;obtain rfl:o1=none:=hf1;obtain⟨i1,ev1⟩:=hi.afn (es:=es++[.dV [bg e Y,bg e U]]) (dI:=dI.push {key:=kv,val:=uv,born:=clock }) (clock:=clock+1) (w':={w with heap:=w.heap.setIfInBounds b (.map (dI.push {key:=kv,val:=uv,born:=clock }) (clock+1)) }) hl hblk (by
    rw[Array.toList_push,List.map_append];exact hrel.append (.cons _ _ _ _ hnew .nil)) (by
    rw[Array.toList_push];have h2:=hok.2;refine⟨?_,by simp only[bC,aG,bL];omega⟩;rw[List.map_append,hok.1,bC,aG,bL,cZ,List.range_succ];simp only[aL,bQ,h2]) rfl
  refine⟨.skip,Go.undef,_,_,?_,rfl,ev1,i1,.undef _⟩;rcases ho with ho | ho<;>simp[execOp,ho,Instr.mapUpdate,bh ht,hc,hkv,huv,MapKept.run_getObj_map hheap,hck,ho1,MapKept.run_setObj_map _ hheap]
 ·cases h
theorem Inv.ahf(hi:Inv CR base g σ w){l i lm im bm n:Nat}(hn:iC σ (.cells 1 [.l7 lm im,.int .i64 (n:Nat)])=some (l,i,σ'))(hm:g.loc lm im=some (.mp bm)):
  Inv CR base (g.cI l i (.it w.heap.size)) σ' (w.alloc (.mapIter (some bm) n #[] n))∧Ev g w (g.cI l i (.it w.heap.size)) (w.alloc (.mapIter (some bm) n #[] n)):=by
 obtain⟨h1,h2,h3,_,_⟩:=kl hn;have hnone:=hi.B5 h1;have hle:g.le (g.cI l i (.it w.heap.size)):=G.kP fun L0 e=>by rw[hnone]at e;cases e
 refine⟨hi.ED l i hle h3 (fun l' i' c=>G.bz c) (fun l' i' L b c e eb=>alloc_old (hi.lo l' i' L b e eb).2) ?_ ?_ ?_ ?_ (by simp) ⟨_,G.aF⟩ (fun b v hb=>alloc_old (hi.jS hb)),⟨hle,rfl,rfl,rfl,by simp,fun b hb _=>alloc_old hb,?_,fun b o v hv => .inl hv⟩⟩
 ·intro L e;rw[G.aF]at e;cases e;have hm2:(g.cI l i (.it w.heap.size)).loc lm im=some (.mp bm):=by
   rw[G.bz fun hh=>by rw[hh.1,hh.2,hnone]at hm;cases hm];exact hm
  exact⟨_,h2,rfl,lm,im,bm,n,[],rfl,hm2,tL,List.nodup_nil,by simp⟩
 ·intro b o v e;obtain⟨h1,h2⟩:=hi.rh b o v e;exact⟨(jh (alloc_old (hi.jS e))).trans h1,h2⟩
 ·intro l' i' L b e eb o;by_cases c:l'=l∧i'=i
  ·obtain⟨rfl,rfl⟩:=c;rw[G.aF]at e;cases e;cases eb;cases e':(g.cI l' i' (.it w.heap.size)).rh w.heap.size o with
   |none=>rfl
   |some v=>have:=hi.jS (b:=w.heap.size) (o:=o) (v:=v) e';omega
  ·rw[G.bz c]at e;exact hi.sep l' i' L b e eb o
 ·intro L b e eb;rw[G.aF]at e;cases e;cases eb;refine⟨hi.ge,by simp,fun l' i' L' c e' eb'=>?_⟩;have:=(hi.lo l' i' L' _ e' eb').2;omega
 ·intro b hb;obtain⟨l',i',L,e,eb⟩:=hb;by_cases c:l'=l∧i'=i
  ·obtain⟨rfl,rfl⟩:=c;rw[G.aF]at e;cases e;cases eb;exact .inr (aI _)
  ·rw[G.bz c]at e;exact .inl ⟨l',i',L,e,eb⟩
theorem awv(hf:Fr fb V g w B e tmps)(hi:Inv CR base g σ w){x:Operand}{X:bG}{t kt et:TypeId}(hx:bD x=some X)(ht:P.underlying t=some (.map kt et))
  (h:bH e σ (.mp .rng [X])=some (d,σ')) (o:Oper) (ho:o.op=.range t x):ga P CR base g w B e (Act.mk tmps df).eval o d σ':=by
 have hr:=hf.bg (df:=df) hx;simp only[bH,aL,bQ,AY]at h;split at h
 case h_2=>cases h
 rename_i lm im es hm;obtain⟨b,dI,clock,v,hc,hl,hblk,hheap,hrel,hok⟩:=zy hi hr hm;simp only[ad,ak,Prod.exists]at h;obtain⟨l,i,σ1,hn,rfl,rfl⟩:=h;have hlen:=hrel.length;simp only[di]at hlen;have hck:clock=es.length:=by rw[hlen];exact hok.2
 obtain⟨i1,e1⟩:=hi.ahf hn hl;have hrun:=run_range_map (P:=P) w t kt et b dI clock ht hheap;rw[hck]at hrun;exact .val (.pointer (some ⟨w.heap.size,0,none⟩)) (by simp[execOp,ho,hc,hrun]) e1 i1 (.itv l i _ _ G.aF (.inl rfl))
theorem awh(hf:Fr fb V g w B e tmps)(hi:Inv CR base g σ w){x:Operand}{X:bG}(hx:bD x=some X)
  (h:bH e σ (.mp .ent [X])=some (d,σ')) (o:Oper) (ho:o.op=.entry x):ga P CR base g w B e (Act.mk tmps df).eval o d σ':=by
 have hr:=hf.bg (df:=df) hx;simp only[bH,aL,bQ]at h;generalize bg e X=dx at hr h;cases dx<;>simp only[AY,reduceCtorEq]at h;rename_i l i;split at h
 case h_2=>cases h
 rename_i m n j rest hcs;split at h
 case h_2=>cases h
 rename_i lm im es hm;split at h
 case isFalse=>cases h
 rename_i hlen;split at h
 case h_2=>cases h
 rename_i k v hj;cases h;unfold cells? at hcs;split at hcs
 case h_2=>cases hcs
 rename_i v' cs' hblk;split at hcs
 case isFalse=>cases hcs
 rename_i hv1;cases hcs;generalize hcv:(Act.mk tmps df).eval x=cv at hr;cases hr with
 |l7 _ _ b hl =>
  obtain⟨b0,hb0,hrel⟩:=hi.wZ l i _ hl;rw[hblk]at hb0;cases hb0;exact hrel.elim
 |QT _ _ b hl =>
  obtain⟨b0,hb0,hrel⟩:=hi.wZ l i _ hl;rw[hblk]at hb0;cases hb0;have:=hrel.1;omega
 |RQ _ _ b L hl hc =>
  obtain⟨b0,hb0,hrel⟩:=hi.wZ l i _ hl;rw[hblk]at hb0;cases hb0;rcases hc with⟨c,rfl⟩ | rfl
  ·have:=hrel.1;omega
  ·exact hrel.elim
 |itv _ _ b L hl hc =>
  obtain⟨b0,hb0,hrel⟩:=hi.wZ l i _ hl;rw[hblk]at hb0;cases hb0;rcases hc with rfl | rfl
  rotate_left
  ·exact hrel.elim
  obtain⟨_,lm',im',bm,n',js,hcs,hlm,hheap,hnd,hlt⟩:=hrel;cases js with
  |nil=>simp at hcs
  |cons j' js =>
   simp only[aL,gO,D.int.injEq,true_and]at hcs;obtain⟨rfl,rfl,rfl,_⟩:=hcs;obtain⟨b2,dI,clock,v2,hc2,hl2,hblk2,hheap2,hrel2,hok⟩:=zy hi (.QT lm' im' bm hlm) hm;cases hc2;have hlen2:=hrel2.length;simp only[di]at hlen2;obtain⟨c0,hc0,hr0⟩:=hrel2.get hj;rw[nj]at hc0;simp only[Int.toNat_natCast]at hc0;obtain⟨e1,he1,rfl⟩:=ad.1 hc0;have hborn:e1.born=j':=by
    have h1:=congrArg (fun l=>l[j']?) hok.1;simp only[nj,he1,aR]at h1;have h2:=(aB.1 he1).1;rw[List.getElem?_range h2]at h1;exact Option.some.inj h1
   have hck:clock=n':=by have:=hok.2;omega
   have hnd2:(dI.toList.map (·.born)).Nodup:=by rw[hok.1];exact List.nodup_range
   have hit:w.heap[b]?=some (.mapIter (some bm) n' (js.reverse.toArray.push e1.born) clock):=by
    rw[hheap,hborn,hck];simp
   have hrun:=run_entry_at (P:=P) w b bm n' js.reverse.toArray dI clock e1 hit hheap2 (aj he1) hnd2;refine .pure hi (c:=.tuple #[e1.key,e1.val]) ?_ (cK.of hr0);simp[execOp,ho,hcv,hrun]
end
variable {P:Program} {CR:gg} {base fb:Nat} {V:List Nat} {g:G} {σ σ':SK} {w:World} {B:Nat→Nat} {e:Env} {tmps:Array Value} {df:List Deferred} {d:D}
theorem awr(hf:Fr fb V g w B e tmps)(hi:Inv CR base g σ w){x:Operand}{X:bG}{t:TypeId}(hx:bD x=some X)(hc:P.concrete t=true)
  (h:bH e σ (.mki t X)=some (d,σ')) (o:Oper) (ho:o.op=.makeInterface t x):ga P CR base g w B e (Act.mk tmps df).eval o d σ':=by
 have hr:=hf.bg (df:=df) hx;simp only[bH,ae,ak]at h;obtain⟨rfl,rfl⟩:=h;exact .pure hi (c:=.iface t ((Act.mk tmps df).eval x)) (by simp[execOp,ho,run_makeInterface w t _ hc]) (cK.of (.uH t _ _ hr))
theorem am2(hf:Fr fb V g w B e tmps)(hi:Inv CR base g σ w){x:Operand}{X:bG}{t xt:TypeId}{dsc:TypeDesc}{ok:Bool}{z:Option D}(hx:bD x=some X)(ht:P.underlying t=some dsc)(hn:∀ms,dsc ≠ .interface ms)
  (hz:if ok then ∃z0,z=some z0∧zvC P t=some z0 else z=none)
  (h:bH e σ (.tas t z X)=some (d,σ')) (o:Oper) (ho:o.op=.typeAssert x xt t ok):ga P CR base g w B e (Act.mk tmps df).eval o d σ':=by
 have hr:=hf.bg (df:=df) hx;simp only[bH,ad,ak]at h;obtain⟨d0,h,rfl,rfl⟩:=h;generalize hcx:(Act.mk tmps df).eval x=cx at hr;generalize bg e X=dx at hr h;cases hr with
 |uH t' d1 c h1 =>
  simp only[Oq]at h;cases ok with
  |true =>
   simp only[if_true]at hz;obtain⟨z0,rfl,hz⟩:=hz;obtain⟨iz,zv,hz1,hz2,hz3⟩:=KO g hz;simp only[ae]at h;by_cases htt:t'=t
   ·rw[if_pos htt]at h;subst h;refine .pure hi (c:=.tuple #[c,.bool true]) ?_ (cK.of (.dV _ #[c,.bool true] (.cons _ _ _ _ h1 (.cons _ _ _ _ (.bool true) .nil))));simp only[execOp,ho,hcx,Instr.typeAssert,Sem.run_bind,run_underlying ht,Result.andThen_ok];cases dsc<;>first | exact absurd rfl (hn _) | simp[htt]
   ·rw[if_neg htt]at h;subst h;refine .pure hi (c:=.tuple #[zv,.bool false]) ?_ (cK.of (.dV _ #[zv,.bool false] (.cons _ _ _ _ hz3 (.cons _ _ _ _ (.bool false) .nil))));simp only[execOp,ho,hcx,Instr.typeAssert,Sem.run_bind,run_underlying ht,Result.andThen_ok];cases dsc<;>first | exact absurd rfl (hn _) | simp[htt,iD hz1 hz2]
  |false =>
   simp only[av,if_false]at hz;subst hz;simp only at h;split at h
   case isFalse=>cases h
   rename_i htt;cases h;refine .pure hi (c:=c) ?_ (cK.of h1);simp only[execOp,ho,hcx,Instr.typeAssert,Sem.run_bind,run_underlying ht,Result.andThen_ok];cases dsc<;>first | exact absurd rfl (hn _) | simp[htt]
 |pN =>
  simp only[Oq,ad]at h;obtain⟨z1,rfl,rfl⟩:=h;cases ok with
  |true =>
   simp only[if_true]at hz;obtain⟨z0,hz0,hz⟩:=hz;cases hz0;obtain⟨iz,zv,hz1,hz2,hz3⟩:=KO g hz;refine .pure hi (c:=.tuple #[zv,.bool false]) ?_ (cK.of (.dV _ #[zv,.bool false] (.cons _ _ _ _ hz3 (.cons _ _ _ _ (.bool false) .nil))));simp only[execOp,ho,hcx,Instr.typeAssert,Sem.run_bind,run_underlying ht,Result.andThen_ok];cases dsc<;>first | exact absurd rfl (hn _) | simp[iD hz1 hz2]
  |false=>simp at hz
 |_=>simp[Oq]at h
theorem Fy{t:TypeId}{ms:Array (String×TypeId)}(n:Nat)(ht:P.underlying t=some (.interface ms))(w:World):(Op.equalIn (n+1) t .nilIface .nilIface).run P w=.ok true w:=by
 rw[Op.equalIn];simp[run_underlying ht]
theorem Gs{t t':TypeId}{c:Value}{ms:Array (String×TypeId)}(n:Nat)(ht:P.underlying t=some (.interface ms))(w:World):(Op.equalIn (n+1) t (.iface t' c) .nilIface).run P w=.ok false w:=by
 rw[Op.equalIn];simp[run_underlying ht]
theorem HX{t:TypeId}{ms:Array (String×TypeId)}(ht:P.underlying t=some (.interface ms))(w:World):(Op.equal t .nilIface .nilIface).run P w=.ok true w:=Fy 9999 ht w
theorem ID{t t':TypeId}{c:Value}{ms:Array (String×TypeId)}(ht:P.underlying t=some (.interface ms))(w:World):(Op.equal t (.iface t' c) .nilIface).run P w=.ok false w:=Gs 9999 ht w
theorem amZ(hf:Fr fb V g w B e tmps)(hi:Inv CR base g σ w){x:Operand}{X:bG}{t u:TypeId}{ms:Array (String×TypeId)}{neg:Bool}(hx:bD x=some X)(ht:P.underlying t=some (.interface ms))
  (h:bH e σ (.isi neg X)=some (d,σ')) (o:Oper) (ho:o.op=.binOp (if neg then .neq else .eql) t x (.const .nilIface) u):ga P CR base g w B e (Act.mk tmps df).eval o d σ':=by
 have hr:=hf.bg (df:=df) hx;simp only[bH,ad,ak]at h;obtain⟨b,h,rfl,rfl⟩:=h;have hev:(Act.mk tmps df).eval (.const .nilIface)=.nilIface:=rfl;generalize hcx:(Act.mk tmps df).eval x=cx at hr;generalize bg e X=dx at hr h;cases hr with
 |pN =>
  cases h;refine .pure hi (c:=.bool (if neg then false else true)) ?_ (cK.of (by cases neg<;>exact .bool _));cases neg<;>simp[execOp,ho,hcx,hev,eqGuard,binOp,HX ht]
 |uH t' d1 c h1 =>
  cases h;refine .pure hi (c:=.bool (if neg then true else false)) ?_ (cK.of (by cases neg<;>exact .bool _));cases neg<;>simp[execOp,ho,hcx,hev,eqGuard,binOp,ID ht]
 |_=>cases h
section
variable {P:Program} {CR:gg} {base fb:Nat} {V:List Nat} {g:G} {σ σ':SK} {w:World} {B:Nat→Nat} {e:Env} {tmps:Array Value} {df:List Deferred}
 {a:ub} {ops:Array Oper} {key:Nat} {k:K} {d:D}
theorem NG(hf:Fr fb V g w B e tmps)(hi:Inv CR base g σ w){x y:Operand}{X Y:bG}{t u:TypeId}{b:BinOp}(hx:bD x=some X)(hy:bD y=some Y)
  (hk:eqC P b t X Y=some k) (h:bH e σ k=some (d,σ')) (o:Oper) (ho:o.op=.binOp b t x y u):ga P CR base g w B e (Act.mk tmps df).eval o d σ':=by
 unfold eqC at hk;split at hk
 case h_2=>cases hk
 rename_i ks hks;split at hk
 ·cases hk
 rename_i hg;have hg':P.eqGuardType P.depth t=false:=by simpa using hg
 split at hk
 ·obtain⟨ag,hag,rfl⟩:=ad.1 hk;exact amY hf hi hx hy hks hag hg' h o (by simpa using ho)
 ·obtain⟨ag,hag,rfl⟩:=ad.1 hk;exact amY hf hi hx hy hks hag hg' h o (by simpa using ho)
 ·cases hk
theorem ahA{ag:Bool}{sz:Nat}{X:bG}{r:D×SK}(h:bH e σ (.SZ ag sz X)=some r):bH e σ (.ld ag sz X)=some r:=by
 simp only[bH]at h ⊢;cases hx:bg e X<;>rw[hx]at h<;>try (cases h;done)
 simpa[Fq]using h
theorem ahz{ag:Bool}{sz:Nat}{X:bG}{r:D×SK}(h:bH e σ (.SY ag sz X)=some r):bH e σ (.ld ag sz X)=some r:=by
 simp only[bH]at h ⊢;cases hr:S3 σ (bg e X)with
 |none=>rw[hr]at h;cases h
 |some cs =>
  rw[hr]at h;have:Fq σ (bg e X)=some cs:=by
   generalize bg e X=dx at hr;unfold S3 at hr;split at hr
   ·exact hr
   ·cases hr
  rw[this];exact h
theorem CB{w:World}(d:Nat){t el:TypeId}{a:Option Addr}(h:P.underlying t=some (.pointer el)):(Op.equalIn (d+1) t (.pointer a) (.pointer none)).run P w=.ok a.isNone w:=by
 cases a<;>simp[Op.equalIn,bh h]
theorem run_equalIn_slice_nil{w:World}(d:Nat){t el:TypeId}{a:Option Addr}{n c:Nat}(h:P.underlying t=some (.slice el)):(Op.equalIn (d+1) t (.slice a n c) (.slice none 0 0)).run P w=.ok a.isNone w:=by
 cases a<;>simp[Op.equalIn,bh h]
theorem awk(hi:Inv CR base g σ w){x y:Operand}{X:bG}{t u:TypeId}{b:BinOp}{ps bo:Bool}{cx cy:Value}(e1:(Act.mk tmps df).eval x=cx)(e2:(Act.mk tmps df).eval y=cy)
  (hg:∀b,(eqGuard b t x y cx cy).run P w=.ok () w) (hb:binOp .eql t cx cy=(do pure (.bool (← Op.equal t cx cy)))) (hb':binOp .neq t cx cy=(do pure (.bool (!(← Op.equal t cx cy)))))
  (heq:(Op.equal t cx cy).run P w=.ok bo w) (hn:Ix ps (bg e X)=some bo)
  (hk:isC ps b X=some k) (h:bH e σ k=some (d,σ')) (o:Oper) (ho:o.op=.binOp b t x y u):ga P CR base g w B e (Act.mk tmps df).eval o d σ':=by
 unfold isC at hk;split at hk
 ·cases hk;simp only[bH,hn,aR,ae,ak]at h;obtain⟨rfl,rfl⟩:=h;refine .pure hi ?_ (cK.of (.bool _));simp[execOp,ho,e1,e2,hg,hb,heq]
 ·cases hk;simp only[bH,hn,aR,ae,ak]at h;obtain⟨rfl,rfl⟩:=h;refine .pure hi ?_ (cK.of (.bool _));simp[execOp,ho,e1,e2,hg,hb',heq]
 ·cases hk
theorem L6{ps:Bool}{b:BinOp}{X:bG}(hk:isC ps b X=some k)(h:bH e σ k=some (d,σ')):∃bo,Ix ps (bg e X)=some bo:=by
 unfold isC at hk;split at hk<;>cases hk<;>simp only[bH,ad]at h<;>obtain⟨b,hb,_⟩:=h<;>exact⟨b,hb⟩
theorem awl(hf:Fr fb V g w B e tmps)(hi:Inv CR base g σ w){x y:Operand}{X:bG}{t u el:TypeId}{b:BinOp}(hx:bD x=some X)(hy:bD y=some (.c .xF))(ht:P.underlying t=some (.pointer el))
  (hk:isC true b X=some k) (h:bH e σ k=some (d,σ')) (o:Oper) (ho:o.op=.binOp b t x y u):ga P CR base g w B e (Act.mk tmps df).eval o d σ':=by
 have hr:=hf.bg (df:=df) hx;have hr':=hf.bg (df:=df) hy;have e2:(Act.mk tmps df).eval y=.pointer none:=by
  generalize (Act.mk tmps df).eval y=c at hr';cases hr';rfl
 obtain⟨bo,hn⟩:=L6 hk h;have:∃a,(Act.mk tmps df).eval x=.pointer a∧bo=a.isNone:=by
  generalize bg e X=dx at hr hn;generalize (Act.mk tmps df).eval x=cx at hr;cases hr<;>simp[Ix]at hn
  ·exact⟨none,rfl,by simp[← hn]⟩
  ·exact⟨_,rfl,by simp[← hn]⟩
  ·exact⟨_,rfl,by simp[← hn]⟩
 obtain⟨a,e1,rfl⟩:=this;refine awk hi e1 e2 (fun b=>by simp[eqGuard]) rfl rfl (CB 9999 ht) hn hk h o ho
theorem awm(hf:Fr fb V g w B e tmps)(hi:Inv CR base g σ w){x y:Operand}{X:bG}{t u el:TypeId}{b:BinOp}(hx:bD x=some X)(hy:bD y=some (.c .aK))(ht:P.underlying t=some (.slice el))
  (hk:isC false b X=some k) (h:bH e σ k=some (d,σ')) (o:Oper) (ho:o.op=.binOp b t x y u):ga P CR base g w B e (Act.mk tmps df).eval o d σ':=by
 have hr:=hf.bg (df:=df) hx;have hr':=hf.bg (df:=df) hy;have e2:(Act.mk tmps df).eval y=.slice none 0 0:=by
  generalize (Act.mk tmps df).eval y=c at hr';cases hr';rfl
 obtain⟨bo,hn⟩:=L6 hk h;have:∃a n c,(Act.mk tmps df).eval x=.slice a n c∧bo=a.isNone:=by
  generalize bg e X=dx at hr hn;generalize (Act.mk tmps df).eval x=cx at hr;cases hr<;>simp[Ix]at hn
  ·exact⟨none,_,_,rfl,by simp[← hn]⟩
  ·exact⟨_,_,_,rfl,by simp[← hn.2]⟩
  ·rename_i l i v off n w a cap L h1 h2 h3 h4 h5 h6 h7;refine⟨a,n,cap,rfl,?_⟩;cases a with
   |none=>have:=h4 rfl;omega
   |some a=>simp[← hn.2]
 obtain⟨a,n,c,e1,rfl⟩:=this;refine awk hi e1 e2 (fun b=>by simp[eqGuard]) rfl rfl (run_equalIn_slice_nil 9999 ht) hn hk h o ho
theorem awu(hf:Fr fb V g w B e tmps)(hi:Inv CR base g σ w){x:Operand}{X:bG}(hx:bD x=some X)(h:bH e σ (.mW X)=some (d,σ'))(o:Oper)(ho:o.op=.nilCheck x):
  ga P CR base g w B e (Act.mk tmps df).eval o d σ':=by
 have hr:=hf.bg (df:=df) hx;simp only[bH]at h;generalize bg e X=dx at hr h;have key:(∃a,(Act.mk tmps df).eval x=.pointer (some a))∧d=dx∧σ'=σ:=by
  generalize (Act.mk tmps df).eval x=cx at hr;cases hr<;>simp at h
  ·exact⟨⟨_,rfl⟩,h.1.symm,h.2.symm⟩
  ·exact⟨⟨_,rfl⟩,h.1.symm,h.2.symm⟩
 obtain⟨⟨a,e1⟩,rfl,rfl⟩:=key;rw[e1]at hr;exact .pure hi (c:=.pointer (some a)) (by simp[execOp,ho,e1]) (cK.of hr)
theorem Jg{x:Operand}(h:Ai x=true):x=.const (.slice none 0 0):=by
 unfold Ai at h;split at h
 ·rfl
 ·cases h
theorem asu(hf:Fr fb V g w B e tmps)(hi:Inv CR base g σ w){o:Oper}(hk:kC P a ops key o=some k)(h:bH e σ k=some (d,σ')):
  ga P CR base g w B e (Act.mk tmps df).eval o d σ':=by
 unfold kC at hk;split at hk
 ·rename_i x ho;obtain⟨X,hX,rfl⟩:=ad.1 hk;exact Oa hf hi hX h o (.inl ho)
 ·rename_i x ho;split at hk
  ·rename_i hnil _ _;split at hk
   ·obtain⟨X,hX,rfl⟩:=ad.1 hk;exact asj hi h o (by rw[ho,Jg hnil])
   ·obtain⟨X,hX,rfl⟩:=ad.1 hk;exact Oa hf hi hX h o (.inr ho)
  ·obtain⟨X,hX,rfl⟩:=ad.1 hk;exact Oa hf hi hX h o (.inr ho)
 ·rename_i c x y ho;split at hk
  ·rename_i c' x' y' h1 h2 h3;cases hk;exact asl hf hi h1 h2 h3 h o ho
  ·cases hk
 ·rename_i el ho;split at hk
  ·rename_i z d0 hz _;split at hk
   ·split at hk
    case h_2=>cases hk
    split at hk
    case h_2=>cases hk
    split at hk
    case h_2=>cases hk
    cases hk;exact awp hi hz h o ho
   cases hk;split at h
   ·cases h
   ·exact av5 hi hz h o ho
  ·cases hk
 ·rename_i t x ho;split at hk
  ·rename_i x' d0 hx _;cases hk;split at h
   ·cases h
   split at h
   ·split at h
    ·exact ar9 hf hi hx h o ho
    ·exact awd hf hi hx h o ho
   ·exact ar8 hf hi hx h o ho
  ·cases hk
 ·rename_i t ps ho;split at hk
  ·rename_i fs z ht hz;split at hk
   ·rename_i hall;obtain⟨parts,hp,rfl⟩:=ad.1 hk;exact KA hf hi ht hz hall hp h o ho
   ·cases hk
  ·rename_i n el z ht hz;split at hk
   ·rename_i wd hw;obtain⟨parts,hp,rfl⟩:=ad.1 hk;exact MB hf hi ht hw hz hp h o ho
   ·cases hk
  ·cases hk
 ·rename_i t n ps ho;split at hk
  ·rename_i el ht;split at hk
   ·rename_i wd z d0 hw hz _;split at hk
    ·rename_i hc;obtain⟨parts,hp,rfl⟩:=ad.1 hk;dsimp only at h;split at h
     ·rename_i hn;simp only[af,au]at hn;obtain⟨⟨rfl,hpe⟩,_⟩:=hn;exact awa hf hi ht hw hz hc.1 hc.2.1 hc.2.2 hp (by simpa using hpe) h o ho
     split at h
     ·exact awc hf hi ht hw hz hc.1 hc.2.1 hc.2.2 hp h o ho
     ·exact awb hf hi ht hw hz hc.1 hc.2.1 hc.2.2 hp h o ho
    ·cases hk
   ·cases hk
  ·cases hk
 ·rename_i t x ho;split at hk
  ·rename_i ag sz n hag hsz hx;split at hk
   ·rename_i hc;simp only[af,au]at hc;cases hk;have hxe:x=.tmp n:=by
     cases x<;>simp only[bD,ae,bG.t.injEq,reduceCtorEq,ad,and_false,exists_false]at hx;rw[hx]
    split at h
    ·exact awn hf hi hag hsz hc.1 hc.2 h o (by rw[ho,hxe])
    ·split at h
     ·exact ase hf hi hx hag hsz hc.1 hc.2 (ahA h) o ho
     split at h
     ·exact ase hf hi hx hag hsz hc.1 hc.2 (ahz h) o ho
     ·exact ase hf hi hx hag hsz hc.1 hc.2 h o ho
   ·cases hk
  ·cases hk
 ·rename_i t x y ho;split at hk
  ·rename_i sz n y' hsz hx hy;cases hk;split at h
   ·cases h
   ·split at h
    ·exact awz hf hi hx hy hsz (Re h) o ho
    ·exact awz hf hi hx hy hsz h o ho
  ·cases hk
 ·rename_i b t x y u ho;split at hk
  ·rename_i hx hy;cases hk;exact av9 hf hi hx hy h o ho
  ·rename_i hx hy;exact NG hf hi hx hy hk h o ho
  ·rename_i hx hy;exact NG hf hi hx hy hk h o ho
  ·rename_i hx hy;exact NG hf hi hx hy hk h o ho
  ·rename_i ht hx hy;split at hk
   ·cases hk;exact asm hf hi hx hy h o ho
   ·cases hk;exact am1 hf hi hx hy h o ho
   ·cases hk;exact am1 hf hi hx hy h o ho
   ·cases hk
  ·rename_i ht hx hy;exact awl hf hi hx hy ht hk h o ho
  ·rename_i ht hx hy;split at hk
   ·rename_i hsz;split at hk
    ·cases hk;exact am0 (neg:=false) hf hi hx hy ht hsz h o ho
    ·cases hk;exact am0 (neg:=true) hf hi hx hy ht hsz h o ho
    ·cases hk
   ·cases hk
  ·rename_i ht hx hy;exact awm hf hi hx hy ht hk h o ho
  ·rename_i ht hx hy;split at hk
   ·cases hk;exact amZ (neg:=false) hf hi hx ht h o ho
   ·cases hk;exact amZ (neg:=true) hf hi hx ht h o ho
   ·cases hk
  ·cases hk
 ·rename_i x ho;obtain⟨X,hX,rfl⟩:=ad.1 hk;exact awu hf hi hX h o ho
 ·rename_i b t x ho;obtain⟨X,hX,rfl⟩:=ad.1 hk;exact ayU hf hi hX h o ho
 ·rename_i s t x ho;split at hk
  ·rename_i hs ht hx;cases hk;exact awf hf hi hx hs ht h o ho
  ·rename_i hs ht hx;split at hk
   ·rename_i he hw;cases hk;exact av8 hf hi hx hs he ht h o ho
   ·cases hk
  ·rename_i hs ht hx;split at hk
   ·rename_i he hw;cases hk;exact awx hf hi hx hs he ht h o ho
   ·cases hk
  ·rename_i hs ht hx;split at hk
   ·rename_i hst;subst hst;split at hk
    ·rename_i he;cases hk;exact awg hf hi hx hs he h o ho
    ·cases hk
   ·cases hk
  ·cases hk
 ·rename_i t x ho;split at hk
  ·rename_i ht hx;obtain⟨wd,hw,rfl⟩:=ad.1 hk;exact aww hf hi hx ht h o ho
  ·cases hk
 ·rename_i f xs ys ho;split at hk
  ·rename_i hx hy;cases hk;exact awq hf hi hx hy h o ho
  ·cases hk
 ·rename_i t x y ho;split at hk
  ·rename_i el ht;split at hk
   ·rename_i hw hb hz hx hy;split at hk
    ·rename_i hc;cases hk;exact awt hf hi hx hy ht hw hb hz hc.1 hc.2 h o ho
    ·cases hk
   ·cases hk
  ·cases hk
 ·rename_i t x lo hh mx ho;split at hk
  ·rename_i ht hx hlo hhi hmx;obtain⟨wd,hw,rfl⟩:=ad.1 hk;exact awy hf hi hx ht hw hlo hhi hmx h o ho
  ·rename_i ht hx hlo hhi hmx;obtain⟨wd,hw,rfl⟩:=ad.1 hk;have hm:mx=none:=by
    cases mx with
    |none=>rfl
    |some m=>simp[xI,ad]at hmx
   subst hm;exact aso hf hi hx ht hw hlo hhi h o ho
  ·rename_i ht hx hlo hhi hmx;cases hk;have hm:mx=none:=by
    cases mx with
    |none=>rfl
    |some m=>simp[xI,ad]at hmx
   subst hm;exact asr hf hi hx ht hlo hhi h o ho
  ·cases hk
 ·rename_i s x i ho;split at hk
  ·rename_i fs x' hs hx;split at hk
   ·rename_i off sz hfc;split at hk
    ·rename_i hpos;cases hk;exact asa hf hi hx hs hfc hpos h o ho
    ·cases hk
   ·cases hk
  ·cases hk
 ·rename_i s x i ho;split at hk
  ·rename_i fs x' hs hx;split at hk
   ·rename_i f hfi;split at hk
    ·rename_i hag hsz;split at hk
     ·cases hk;exact awj hf hi hx hs hfi hag hsz h o ho
     ·cases hk
    ·cases hk
   ·cases hk
  ·cases hk
 ·rename_i t x y ho;split at hk
  ·rename_i ht hx hy;obtain⟨wd,hw,rfl⟩:=ad.1 hk;exact asb hf hi hx hy ht hw h o ho
  ·rename_i ht hx hy;obtain⟨wd,hw,rfl⟩:=ad.1 hk;exact asc hf hi hx hy ht hw h o ho
  ·cases hk
 ·rename_i t x y ho;split at hk
  ·rename_i ht hx hy;split at hk
   ·rename_i hag hsz;split at hk
    ·cases hk;exact asd hf hi hx hy ht hag hsz h o ho
    ·cases hk
   ·cases hk
  ·rename_i ht hx hy;cases hk;exact asn hf hi hx hy ht h o ho
  ·cases hk
 ·rename_i x i ho;obtain⟨X,hX,rfl⟩:=ad.1 hk;exact awi hf hi hX h o ho
 ·rename_i c ho;obtain⟨callee,args,ts⟩:=c;dsimp only at hk;split at hk
  ·rename_i f;split at hk
   ·cases hk;cases h
   ·cases hk
  ·split at hk
   ·rename_i t tr x r hts ha;split at hk
    ·rename_i ht hx;cases hk;exact awo hf hi hx ht ha hts h o ho
    ·rename_i ht hx;cases hk;exact asq hf hi hx ht ha hts h o ho
    ·rename_i ht hx;cases hk;exact asi hf hi hx ht ha hts h o ho
    ·rename_i ht;cases hk;exact afl hi (.inl ⟨_,ht⟩) ha hts h o ho
    ·rename_i ht;split at hk
     ·rename_i hr;cases hk;exact afl hi (.inr ⟨_,_,ht,hr⟩) ha hts h o ho
     ·cases hk
    ·cases hk
   ·cases hk
  ·cases hk;cases h
  ·split at hk
   ·rename_i ha;split at hk
    ·rename_i hx hy;cases hk;exact ayS hf hi hx hy ha h o ho
    ·cases hk
   ·cases hk
  ·split at hk
   ·rename_i ha;split at hk
    ·rename_i hx hy;cases hk;exact ayT hf hi hx hy ha h o ho
    ·cases hk
   ·cases hk
  ·split at hk
   ·rename_i t u x y hts ha;split at hk
    ·rename_i uu x' y' ht hu0 hx hy;split at hk
     case isFalse=>cases hk
     rename_i huu;have hu:P.underlying u=some .string∨∃e2,P.underlying u=some (.slice e2):=by
      cases uu<;>simp[afe]at huu
      ·exact .inl hu0
      ·exact .inr ⟨_,hu0⟩
     split at hk
     ·rename_i hw hb hz;split at hk
      ·rename_i hc;cases hk;split at h
       ·rename_i hn;simp only[af]at hn;exact awe hf hi (Jg hn.1) hy ha hts ht hu hw hb hz hc.2.2.2 hc.2.1 hc.2.2.1 h o ho
       ·split at h
        ·rename_i hn;simp only[af]at hn;obtain⟨v,rfl⟩:∃v,x=.tmp v:=by
          have:=hn.2;cases x<;>simp[afD]at this;exact⟨_,rfl⟩
         exact av6 hf hi rfl hy ha hts ht hu hw hb hz hc.2.2.2 hc.2.1 hc.2.2.1 h o ho
        split at h
        ·exact av7 hf hi hx hy ha hts ht hu hw hb hz hc.2.2.2 hc.2.1 hc.2.2.1 h o ho
        split at h
        ·exact afk hf hi hx hy ha hts ht hu hw hb hz hc.2.2.2 hc.2.1 hc.2.2.1 (Rc h) o ho
        ·exact afk hf hi hx hy ha hts ht hu hw hb hz hc.2.2.2 hc.2.1 hc.2.2.1 h o ho
      ·cases hk
     ·cases hk
    ·cases hk
   ·cases hk
  ·cases hk
 ·rename_i t x ho;split at hk
  ·rename_i hc;obtain⟨X,hX,rfl⟩:=ad.1 hk;exact awr hf hi hX hc h o ho
  ·cases hk
 ·rename_i x xt t ok ho;split at hk
  ·cases hk
  ·rename_i dsc x' hnot ht hx;split at hk
   ·rename_i hok;subst hok;obtain⟨z,hz,rfl⟩:=ad.1 hk;exact am2 hf hi hx ht (fun ms hms=>by subst hms;exact hnot _ rfl) (by simpa using hz) h o ho
   ·rename_i hok;cases hk;exact am2 hf hi hx ht (fun ms hms=>by subst hms;exact hnot _ rfl) (by simp[hok]) h o ho
  ·cases hk
 ·rename_i x ho;obtain⟨X,hX,rfl⟩:=ad.1 hk;cases h
 ·rename_i t ho;cases hk;exact aws hi h o ho
 ·rename_i t k n ho;split at hk
  ·rename_i ht;cases hk;exact ash hi h ht o ho
  ·cases hk
 ·rename_i t x ho;split at hk
  ·rename_i ht hx;cases hk;exact awv hf hi hx ht h o ho
  ·cases hk
 ·rename_i x ho;split at hk
  ·rename_i hx;cases hk;exact awh hf hi hx h o ho
  ·cases hk
 ·rename_i t x y ok ho;split at hk
  ·rename_i ht hx hy;split at hk
   ·rename_i hky hz;cases hk;exact asf hf hi hx hy ht hky hz h o ho
   ·cases hk
  ·cases hk
 ·rename_i t m x y ho;split at hk
  ·rename_i ht hm hx hy;split at hk
   ·rename_i hky;cases hk;exact afm hf hi hm hx hy ht hky h o (.inl ho)
   ·cases hk
  ·cases hk
 ·rename_i t m x y ho;split at hk
  ·rename_i ht hm hx hy;split at hk
   ·rename_i hky;cases hk;exact afm hf hi hm hx hy ht hky h o (.inr ho)
   ·cases hk
  ·cases hk
 ·cases hk
end
mutual
def D.low(n:Nat):D→Bool
 |.ref l .. => decide (l<n)
 |.sl l .. => decide (l<n)
 |.l7 l _=>decide (l<n)
 |.vr .. => true
 |.emp=>true
 |.own _ cs=>D.nc n cs
 |.agg cs=>D.nc n cs
 |.dV cs=>D.nc n cs
 |.bB cs=>D.nc n cs
 |.aH _ cs=>D.nc n cs
 |.fn _ a b=>D.nc n a && D.nc n b
 |.undef=>true
 |.bool _=>true
 |.int _ _=>true
 |.str _=>true
 |.xF=>true
 |.aK=>true
 |.iW=>true
 |.uH _ d=>D.low n d
 |.pN=>true
def D.nc(n:Nat):List D→Bool
 |[]=>true
 |d::ds=>D.low n d && D.nc n ds
end
theorem BC{n:Nat}{ds:List D}:D.nc n ds=true↔∀d∈ds,d.low n=true:=by
 induction ds with
 |nil=>simp[D.nc]
 |cons d ds ih=>simp[D.nc,ih]
mutual
theorem tM{n:Nat}:∀{d:D},d.clean=true→d.low n=true
 |.ref ..,h=>by simp[D.clean]at h
 |.sl ..,h=>by simp[D.clean]at h
 |.l7 ..,h=>by simp[D.clean]at h
 |.vr ..,_=>rfl
 |.emp,_=>rfl
 |.own _ cs,h=>rI (ds:=cs) (by simpa[D.clean]using h)
 |.agg cs,h=>rI (ds:=cs) (by simpa[D.clean]using h)
 |.dV cs,h=>rI (ds:=cs) (by simpa[D.clean]using h)
 |.bB cs,h=>rI (ds:=cs) (by simpa[D.clean]using h)
 |.aH _ cs,h=>rI (ds:=cs) (by simpa[D.clean]using h)
 |.fn _ a b,h=>by
  simp only[D.clean,af]at h;simp only[D.low,af];exact⟨rI h.1,rI h.2⟩
 |.undef,_=>rfl
 |.bool _,_=>rfl
 |.int _ _,_=>rfl
 |.str _,_=>rfl
 |.xF,_=>rfl
 |.aK,_=>rfl
 |.iW,_=>rfl
 |.uH _ d,h=>tM (d:=d) (by simpa[D.clean]using h)
 |.pN,_=>rfl
theorem rI{n:Nat}:∀{ds:List D},D.bJ ds=true→D.nc n ds=true
 |[],_=>rfl
 |d::ds,h=>by
  simp only[D.bJ,af]at h;simp only[D.nc,af];exact⟨tM h.1,rI h.2⟩
end
mutual
theorem bF.low{g:G}{n:Nat}(hn:∀l i L,g.loc l i=some L→l<n):∀{d:D} {c:Value},bF g d c→d.low n=true
 |_,_,.undef c=>rfl
 |_,_,.bool b=>rfl
 |_,_,.int k n=>rfl
 |_,_,.str s=>rfl
 |_,_,.agg ds cs hr h1=>bA.low hn hr
 |_,_,.dV ds cs hr=>bA.low hn hr
 |_,_,.xF=>rfl
 |_,_,.ref l i v off b o L e hv hc hn'=>by simp only[D.low,au];exact hn l i L e
 |_,_,.bB ds b o vs hr hl=>bA.low hn hl
 |_,_,.aK=>rfl
 |_,_,.xB=>rfl
 |_,_,.aH n' ds a cap vs hn' hr hs hl=>bA.low hn hl
 |_,_,.sl l i v off n' w a cap L e hv hn' ha hs hc hc'=>by simp only[D.low,au];exact hn l i L e
 |_,_,.fn f fs cs fs' cs' h1 h2=>by simp only[D.low,af];exact⟨bA.low hn h1,bA.low hn h2⟩
 |_,_,.iW=>rfl
 |_,_,.l7 l i b e=>by simp only[D.low,au];exact hn l i _ e
 |_,_,.QT l i b e=>by simp only[D.low,au];exact hn l i _ e
 |_,_,.itv l i b L e hc=>by simp only[D.low,au];exact hn l i _ e
 |_,_,.RQ l i b L e hc=>by simp only[D.low,au];exact hn l i _ e
 |_,_,.uH t d c h1=>by rw[D.low];exact bF.low hn h1
 |_,_,.pN=>rfl
theorem bA.low{g:G}{n:Nat}(hn:∀l i L,g.loc l i=some L→l<n):∀{ds:List D} {cs:List Value},bA g ds cs→D.nc n ds=true
 |_,_,.nil=>rfl
 |_,_,.cons d c ds cs h1 h2=>by simp only[D.nc,af];exact⟨bF.low hn h1,bA.low hn h2⟩
end
def G.cut(g:G)(n:Nat):G:=⟨fun l i=>if l<n then g.loc l i else none,g.rh⟩
theorem G.td{g:G}{n l i:Nat}(h:l<n):(g.cut n).loc l i=g.loc l i:=by simp[G.cut,h]
theorem G.xn{g:G}{n l i:Nat}{L:Loc}(h:(g.cut n).loc l i=some L):l<n∧g.loc l i=some L:=by
 simp only[G.cut]at h;split at h
 ·exact⟨by assumption,h⟩
 ·cases h
mutual
theorem bF.cut{g:G}{n:Nat}:∀{d:D} {c:Value},bF g d c→d.low n=true→bF (g.cut n) d c
 |_,_,.undef c,_ => .undef c
 |_,_,.bool b,_ => .bool b
 |_,_,.int k n,_ => .int k n
 |_,_,.str s,_ => .str s
 |_,_,.agg ds cs hr h1,h => .agg ds cs (bA.cut hr h) h1
 |_,_,.dV ds cs hr,h => .dV ds cs (bA.cut hr h)
 |_,_,.xF,_ => .xF
 |_,_,.ref l i v off b o L e hv hc hn',h => .ref l i v off b o L ((G.td (by simpa[D.low]using h)).trans e) hv hc hn'
 |_,_,.bB ds b o vs hr hl,h => .bB ds b o vs hr (bA.cut hl h)
 |_,_,.aK,_ => .aK
 |_,_,.xB,_ => .xB
 |_,_,.aH n' ds a cap vs hn' hr hs hl,h => .aH n' ds a cap vs hn' hr hs (bA.cut hl h)
 |_,_,.sl l i v off n' w a cap L e hv hn' ha hs hc hc',h => .sl l i v off n' w a cap L ((G.td (by simpa[D.low]using h)).trans e) hv hn' ha hs hc hc'
 |_,_,.fn f fs cs fs' cs' h1 h2,h=>by
  simp only[D.low,af]at h;exact .fn f fs cs fs' cs' (bA.cut h1 h.1) (bA.cut h2 h.2)
 |_,_,.iW,_ => .iW
 |_,_,.l7 l i b e,h => .l7 l i b ((G.td (by simpa[D.low]using h)).trans e)
 |_,_,.QT l i b e,h => .QT l i b ((G.td (by simpa[D.low]using h)).trans e)
 |_,_,.itv l i b L e hc,h => .itv l i b L ((G.td (by simpa[D.low]using h)).trans e) hc
 |_,_,.RQ l i b L e hc,h => .RQ l i b L ((G.td (by simpa[D.low]using h)).trans e) hc
 |_,_,.uH t d c h1,h => .uH t d c (bF.cut h1 h)
 |_,_,.pN,_ => .pN
theorem bA.cut{g:G}{n:Nat}:∀{ds:List D} {cs:List Value},bA g ds cs→D.nc n ds=true→bA (g.cut n) ds cs
 |_,_,.nil,_ => .nil
 |_,_,.cons d c ds cs h1 h2,h=>by
  simp only[D.nc,af]at h;exact .cons d c ds cs (bF.cut h1 h.1) (bA.cut h2 h.2)
end
mutual
theorem BD{n m:Nat}(hm:n≤m):∀{d:D},d.low n=true→d.low m=true
 |.ref l ..,h=>by simp only[D.low,au]at h ⊢;omega
 |.sl l ..,h=>by simp only[D.low,au]at h ⊢;omega
 |.l7 l _,h=>by simp only[D.low,au]at h ⊢;omega
 |.vr ..,_=>rfl
 |.emp,_=>rfl
 |.own _ cs,h=>sr (ds:=cs) hm h
 |.agg cs,h=>sr (ds:=cs) hm h
 |.dV cs,h=>sr (ds:=cs) hm h
 |.bB cs,h=>sr (ds:=cs) hm h
 |.aH _ cs,h=>sr (ds:=cs) hm h
 |.fn _ a b,h=>by
  simp only[D.low,af]at h ⊢;exact⟨sr hm h.1,sr hm h.2⟩
 |.undef,_=>rfl
 |.bool _,_=>rfl
 |.int _ _,_=>rfl
 |.str _,_=>rfl
 |.xF,_=>rfl
 |.aK,_=>rfl
 |.iW,_=>rfl
 |.uH _ d,h=>BD (d:=d) hm h
 |.pN,_=>rfl
theorem sr{n m:Nat}(hm:n≤m):∀{ds:List D},D.nc n ds=true→D.nc m ds=true
 |[],_=>rfl
 |d::ds,h=>by
  simp only[D.nc,af]at h ⊢;exact⟨BD hm h.1,sr hm h.2⟩
end
def aE.low(n:Nat):aE→Prop
 |.cells _ cs=>D.nc n cs=true
 |.dead=>True
 |.loop lp=>∀t,(get lp.env t).low n=true
def rU(σ:SK):Prop:=∀l i b,ef σ l i=some b→l+1<σ.length→b.low (l+1)
theorem rU.set{σ:SK}(h:rU σ){l i:Nat}{b:aE}(hb:l+1<σ.length→b.low (l+1)):rU (aV σ l i b):=by
 intro l' i' b' h1 h2;rw[dG]at h2;by_cases hc:l'=l∧i'=i
 ·obtain⟨rfl,rfl⟩:=hc;cases h0:ef σ l' i' with
  |none =>
   have:ef (aV σ l' i' b) l' i'=none:=by
    unfold aV;cases hs:gB σ l' with
    |none=>exact h0
    |some s =>
     simp only[ef,tS (As hs),Option.bind_some];simp only[ef,hs,Option.bind_some]at h0;rw[List.getElem?_eq_none_iff]at h0 ⊢;simpa using h0
   rw[this]at h1;cases h1
  |some b0=>rw[oY h0]at h1;cases h1;exact hb h2
 ·rw[fa hc]at h1;exact h l' i' b' h1 h2
theorem rU.new{σ σ':SK}(h:rU σ){l i:Nat}{b:aE}(hn:iC σ b=some (l,i,σ')):rU σ':=by
 obtain⟨h1,h2,h3,h4,h5⟩:=kl hn;intro l' i' b' e hl;by_cases hc:l'=l∧i'=i
 ·omega
 ·rw[h3 l' i' hc]at e;exact h l' i' b' e (by omega)
structure gT(σ σ':SK):Prop where
 len:σ'.length=σ.length
 low:rU σ→rU σ'
theorem gT.refl(σ:SK):gT σ σ:=⟨rfl,id⟩
theorem gT.trans{a b c:SK}(h:gT a b)(h':gT b c):gT a c:=⟨h'.len.trans h.len,fun x=>h'.low (h.low x)⟩
theorem gT.new{σ σ':SK}{l i:Nat}{b:aE}(hn:iC σ b=some (l,i,σ')):gT σ σ':=⟨(kl hn).2.2.2.1,fun h=>h.new hn⟩
theorem gT.set{σ:SK}{l i:Nat}{b:aE}(hb:l+1<σ.length→b.low (l+1)):gT σ (aV σ l i b):=⟨dG,fun h=>h.set hb⟩
theorem tI:∀(nb:List (Nat×Nat)) (cs cs':List D) (σ σ':SK),lq nb cs σ=some (cs',σ')→gT σ σ'
 |[],cs,cs',σ,σ',h=>by simp only[lq,ae,ak]at h;obtain⟨rfl,rfl⟩:=h;exact .refl _
 |(p,w)::r,cs,cs',σ,σ',h=>by
  simp only[lq]at h;split at h
  ·simp only[aP,ah]at h;obtain⟨⟨l,i,σ1⟩,hn,h⟩:=h;exact(gT.new hn).trans (tI r _ _ _ _ h)
  ·exact tI r _ _ _ _ h
theorem zw(l:Nat):∀(n:Nat) (d:D) (σ:SK),(cJ l n d σ).1.low (l+1)=true∧gT σ (cJ l n d σ).2
 |0,d,σ=>⟨rfl,.refl _⟩
 |n+1,d,σ=>by
  have ih:∀(ds:List D) (σ:SK),D.nc (l+1) (cJ.frzL (cJ l n) ds σ).1=true∧gT σ (cJ.frzL (cJ l n) ds σ).2:=by
   intro ds;induction ds with
   |nil=>intro σ;exact⟨rfl,.refl _⟩
   |cons d ds ihd =>
    intro σ;obtain⟨h1,h2⟩:=zw l n d σ;obtain⟨h3,h4⟩:=ihd (cJ l n d σ).2;simp only[cJ.frzL,D.nc,af];exact⟨⟨h1,h3⟩,h2.trans h4⟩
  simp only[cJ];split
  ·rename_i hc;exact⟨tM hc,.refl _⟩
  cases d with
  |agg cs=>exact ih cs σ
  |dV cs=>exact ih cs σ
  |bB cs=>exact ih cs σ
  |aH m cs=>exact ih cs σ
  |own s cs=>exact ih cs σ
  |fn f a b =>
   obtain⟨h1,h2⟩:=ih a σ;obtain⟨h3,h4⟩:=ih b (cJ.frzL (cJ l n) a σ).2;refine⟨?_,h2.trans h4⟩;simp only[D.low,af];exact⟨h1,h3⟩
  |ref l' i v off =>
   dsimp only;split
   ·refine⟨?_,.refl _⟩;simp only[D.low,au];omega
   ·exact⟨rfl,.refl _⟩
  |l7 l' i =>
   dsimp only;split
   ·refine⟨?_,.refl _⟩;simp only[D.low,au];omega
   ·exact⟨rfl,.refl _⟩
  |sl l' i v off m w =>
   dsimp only;split
   ·refine⟨?_,.refl _⟩;simp only[D.low,au];omega
   ·split
    ·rename_i cs hcs;obtain⟨h1,h2⟩:=ih ((cs.drop off).take (m*w)) (aV σ l' i .dead);exact⟨h1,(gT.set (b:=.dead) fun _=>trivial).trans h2⟩
    ·exact⟨rfl,.refl _⟩
  |_=>exact⟨rfl,.refl _⟩
theorem B0(l n:Nat)(ds:List D):∀(σ:SK),D.nc (l+1) (cJ.frzL (cJ l n) ds σ).1=true∧gT σ (cJ.frzL (cJ l n) ds σ).2:=by
 induction ds with
 |nil=>intro σ;exact⟨rfl,.refl _⟩
 |cons d ds ihd =>
  intro σ;obtain⟨h1,h2⟩:=zw l n d σ;obtain⟨h3,h4⟩:=ihd (cJ l n d σ).2;simp only[cJ.frzL,D.nc,af];exact⟨⟨h1,h3⟩,h2.trans h4⟩
theorem Fb(l:Nat):∀(e:Env) (σ:SK),(∀p∈(pV l e σ).1,p.2.low (l+1)=true)∧gT σ (pV l e σ).2
 |[],σ=>⟨by simp[pV],.refl _⟩
 |(t,d)::e,σ=>by
  obtain⟨h1,h2⟩:=zw l deep d σ;obtain⟨h3,h4⟩:=Fb l e (cJ l deep d σ).2;simp only[pV];refine⟨?_,h2.trans h4⟩;intro p hp;rcases bd.1 hp with rfl | hp
  ·exact h1
  ·exact h3 p hp
theorem zY{σ:SK}(h:rU σ){l i v:Nat}{cs:List D}(hc:cells? σ l i v=some cs)(hl:l+1<σ.length):D.nc (l+1) cs=true:=by
 unfold cells? at hc;split at hc
 case h_2=>cases hc
 rename_i v' cs' hb;split at hc
 case isFalse=>cases hc
 cases hc;exact h l i _ hb hl
theorem yt{n:Nat}{a b:List D}:D.nc n (a++b)=true↔D.nc n a=true∧D.nc n b=true:=by
 simp only[BC,ba];exact⟨fun h=>⟨fun d hd=>h d (.inl hd),fun d hd=>h d (.inr hd)⟩,fun h d hd=>hd.elim (h.1 d) (h.2 d)⟩
theorem Fi{n k:Nat}{a:List D}(h:D.nc n a=true):D.nc n (a.take k)=true:=by
 rw[BC]at h ⊢;exact fun d hd=>h d (dq hd)
theorem Fh{n k:Nat}{a:List D}(h:D.nc n a=true):D.nc n (a.drop k)=true:=by
 rw[BC]at h ⊢;exact fun d hd=>h d (dp hd)
theorem aeY{σ σ':SK}{d:D}{o:Mo}{ds:List D}(h:AY σ o ds=some (d,σ'))(hk:o.calm=true):σ'=σ:=by
 unfold AY at h;split at h
 ·simp[Mo.calm]at hk
 ·simp[Mo.calm]at hk
 ·split at h
  ·split at h
   ·split at h<;>first | (cases h;done) | (cases h;rfl)
   ·cases h
  ·cases h
 ·simp[Mo.calm]at hk
 ·simp only[ad,ak]at h;obtain⟨_,_,_,rfl⟩:=h;rfl
 ·simp[Mo.calm]at hk
 ·split at h
  ·split at h
   ·split at h
    ·split at h
     ·cases h;rfl
     ·cases h
    ·cases h
   ·cases h
  ·cases h
 ·cases h
theorem aeS{σ σ':SK}{d:D}{o:Me}{ds:List D}(h:NX σ o ds=some (d,σ')):σ'=σ:=by
 unfold NX at h;split at h
 ·cases h
 ·simp only[ah,ad,ak]at h;obtain⟨_,_,_,_,_,rfl⟩:=h;rfl
 ·cases h;rfl
 ·split at h<;>cases h;rfl
 ·split at h<;>cases h;rfl
 ·cases h
theorem MF{e:Env}{σ σ':SK}{d:D}{k:K}(h:bH e σ k=some (d,σ'))(hk:k.calm=true):σ'=σ:=by
 by_cases hm:∃o xs,k=.mp o xs
 ·obtain⟨o,xs,rfl⟩:=hm;exact aeY h hk
 by_cases hm':∃o xs,k=.me o xs
 ·obtain⟨o,xs,rfl⟩:=hm';exact aeS h
 cases k<;>(try (exact absurd ⟨_,_,rfl⟩ hm))<;>(try (exact absurd ⟨_,_,rfl⟩ hm'))<;>clear hm hm'<;>simp only[K.calm,av]at hk<;>simp only[bH,aP,reduceCtorEq]at h<;>(repeat' split at h)<;>
  simp only[ad,ah,ae,ak,Prod.exists,reduceCtorEq,exists_eq_left,and_false,exists_false]at h<;>(try split at h)<;>
  simp_all<;>(try (obtain⟨_,_,h⟩:=h;simp_all))<;>(try grind)
theorem QE{e:Env}{σ σ':SK}{d:D}{nb:List (Nat×Nat)}{sz:Nat}{a x:bG}(h:bH e σ (.st nb sz a x)=some (d,σ')):gT σ σ':=by
 simp only[bH]at h;split at h
 case h_2=>cases h
 split at h
 case h_2=>cases h
 rename_i l i v off hX _ cs hcs;split at h
 case h_2=>cases h
 rename_i p hcells;split at h
 case isFalse=>cases h
 rename_i hc;split at h
 ·rename_i htop;split at h
  ·rename_i p' σ1 hnb;cases h;have hg:=tI _ _ _ _ _ hnb;exact hg.trans (gT.set fun hl=>by have:=hg.len;omega)
  ·cases h
 ·rename_i htop;cases h;obtain⟨h1,h2⟩:=B0 l deep p σ;refine⟨dG.trans h2.len,fun hl=>(h2.low hl).set fun hlt=>?_⟩;have hcl:=zY hl hcs (by have:=h2.len;omega);simp only[aE.low,yt];exact⟨⟨Fi hcl,h1⟩,Fh hcl⟩
theorem HG{e:Env}{σ σ':SK}{d:D}{w bytes:Nat}{s x:bG}(h:bH e σ (.app w bytes s x)=some (d,σ')):gT σ σ':=by
 simp only[bH,aP,ah]at h;obtain⟨⟨m,xs⟩,he,h⟩:=h;dsimp only at h;split at h
 ·split at h
  case isFalse=>cases h
  split at h
  ·cases h;exact .refl _
  ·simp only[ah]at h;obtain⟨⟨l,i,σ1⟩,hn,h⟩:=h;cases h;exact .new hn
 ·split at h
  case h_2=>cases h
  rename_i l i v off n w' hX _ cs hcs;split at h
  case isFalse=>cases h
  split at h
  ·cases h;exact .set fun hl=>by omega
  ·cases h;obtain⟨h1,h2⟩:=B0 l deep xs σ;refine⟨dG.trans h2.len,fun hl=>(h2.low hl).set fun hlt=>?_⟩;have hcl:=zY hl hcs (by have:=h2.len;omega);simp only[aE.low,yt];exact⟨Fi (Fh hcl),h1⟩
 ·cases h
theorem aeP{n j:Nat}{a:List D}{x:D}(h:D.nc n a=true)(hx:x.low n=true):D.nc n (a.set j x)=true:=by
 rw[BC]at h ⊢;intro d hd;rcases List.mem_or_eq_of_mem_set hd with h1 | rfl
 ·exact h d h1
 ·exact hx
theorem agU{σ σ':SK}{d:D}{o:Mo}{ds:List D}(h:AY σ o ds=some (d,σ')):gT σ σ':=by
 unfold AY at h;split at h
 ·simp only[ad,ak,Prod.exists]at h;obtain⟨l,i,σ1,hn,_,rfl⟩:=h;exact .new hn
 ·simp only[ad,ak,Prod.exists]at h;obtain⟨l,i,σ1,hn,_,rfl⟩:=h;exact .new hn
 ·split at h
  ·split at h
   ·split at h<;>first | (cases h;done) | (cases h;exact .refl _)
   ·cases h
  ·cases h
 ·rename_i ky m k v;split at h
  ·rename_i l i es hm;obtain⟨rfl,hcs⟩:=Mh hm;split at h
   case isFalse=>cases h
   rename_i hc;have hlow:l+1<σ.length→k.low (l+1)=true∧v.low (l+1)=true:=fun hl=>by
    rcases hc.2 with h1 | ⟨h1,h2⟩
    ·omega
    ·exact⟨tM h1,tM h2⟩
   split at h
   ·cases h;refine⟨dG,fun hS=>hS.set fun hl=>?_⟩;have hcl:=zY hS hcs hl;obtain⟨h1,h2⟩:=hlow hl;simp only[aE.low];exact aeP hcl (by simp[D.low,D.nc,h1,h2])
   ·cases h;refine⟨dG,fun hS=>hS.set fun hl=>?_⟩;have hcl:=zY hS hcs hl;obtain⟨h1,h2⟩:=hlow hl;simp only[aE.low,yt];exact⟨hcl,by simp[D.low,D.nc,h1,h2]⟩
   ·cases h
  ·cases h
 ·simp only[ad,ak]at h;obtain⟨_,_,_,rfl⟩:=h;exact .refl _
 ·split at h
  ·simp only[ad,ak,Prod.exists]at h;obtain⟨l,i,σ1,hn,_,rfl⟩:=h;exact .new hn
  ·cases h
 ·split at h
  ·split at h
   ·split at h
    ·split at h
     ·cases h;exact .refl _
     ·cases h
    ·cases h
   ·cases h
  ·cases h
 ·cases h
theorem afo{e:Env}{σ σ':SK}{d:D}:∀{k:K},bH e σ k=some (d,σ')→gT σ σ'
 |.st ..,h=>QE h
 |.app ..,h=>HG h
 |.RN ..,h=>HG (Rc h)
 |.apz w bytes s x,h=>by
  simp only[bH,ad,Prod.exists]at h;obtain⟨d1,σ1,h1,h2⟩:=h;obtain⟨h3,h4⟩:=zw 0 deep d1 σ1;rw[h2]at h4;exact(HG (by rw[KG];exact h1)).trans h4
 |.cvz x,h=>by
  simp only[bH]at h;split at h
  case h_2=>cases h
  split at h
  case isFalse=>cases h
  split at h
  case h_2=>cases h
  cases h;exact .set fun _=>trivial
 |.Hg nb cs,h=>by
  simp only[bH,aP,ah]at h;obtain⟨⟨cs',σ1⟩,hnb,⟨l,i,σ2⟩,hn,h⟩:=h;cases h;exact(tI _ _ _ _ _ hnb).trans (.new hn)
 |.qh w,h=>by
  simp only[bH,aP,ah]at h;obtain⟨⟨l,i,σ2⟩,hn,h⟩:=h;cases h;exact .new hn
 |.bxn nb x,h=>by
  simp only[bH,aP,ah]at h;obtain⟨cs,_,⟨cs',σ1⟩,hnb,⟨l,i,σ2⟩,hn,h⟩:=h;cases h;exact(tI _ _ _ _ _ hnb).trans (.new hn)
 |.Is x,h=>by
  simp only[bH,aP,ah]at h;obtain⟨cs,_,⟨l,i,σ2⟩,hn,h⟩:=h;cases h;exact .new hn
 |.MX ..,h=>by
  simp only[bH,aP,ah]at h;obtain⟨cs,_,⟨l,i,σ2⟩,hn,h⟩:=h;cases h;exact .new hn
 |.mks ..,h=>by
  simp only[bH]at h;split at h
  ·split at h
   ·simp only[aP,ah]at h;obtain⟨⟨l,i,σ2⟩,hn,h⟩:=h;cases h;exact .new hn
   ·cases h
  ·cases h
 |.mv _,h=>same h rfl
 |.pick ..,h=>same h rfl
 |.fm ..,h=>by simp[bH]at h
 |.Ir _,h=>same h rfl
 |.E2 _,h=>by simp[bH]at h
 |.l9 ..,h=>same h rfl
 |.uU ..,h=>same h rfl
 |.ld ..,h=>same h rfl
 |.SZ ..,h=>same h rfl
 |.SY ..,h=>same h rfl
 |.MJ os sz a x,h=>QE (Re h)
 |.SX ..,h=>same h rfl
 |.mW ..,h=>same h rfl
 |.S0 ..,h=>same h rfl
 |.Gt ..,h=>by simp[bH]at h
 |.bin ..,h=>same h rfl
 |.eqv ..,h=>same h rfl
 |.un ..,h=>same h rfl
 |.J6 ..,h=>same h rfl
 |.xW ..,h=>same h rfl
 |.IF ..,h=>same h rfl
 |.Od ..,h=>same h rfl
 |.Iu ..,h=>same h rfl
 |.fld ..,h=>same h rfl
 |.Bw ..,h=>same h rfl
 |.fM ..,h=>same h rfl
 |.Kf ..,h=>same h rfl
 |.Iy ..,h=>same h rfl
 |.NT ..,h=>same h rfl
 |.mn ..,h=>same h rfl
 |.mx ..,h=>same h rfl
 |.T4 ..,h=>same h rfl
 |.bse,h=>same h rfl
 |.ape ..,h=>same h rfl
 |.ext ..,h=>same h rfl
 |.zf ..,h=>same h rfl
 |.mp ..,h=>agU h
 |.me ..,h=>same h rfl
 |.mki ..,h=>same h rfl
 |.tas ..,h=>same h rfl
 |.isi ..,h=>same h rfl
 |.MZ _,h=>by simp[bH]at h
 |.M0,h=>by simp[bH]at h
 |.call ..,h=>by simp[bH]at h
where
 same {e:Env} {σ σ':SK} {d:D} {k:K} (h:bH e σ k=some (d,σ')) (hk:k.calm=true):gT σ σ':=by
  rw[MF h hk];exact .refl _
end Go.Abs
