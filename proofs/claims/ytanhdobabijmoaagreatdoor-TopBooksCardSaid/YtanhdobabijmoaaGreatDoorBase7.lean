import Derived.Test.YtanhdobabijmoaaGreatDoorBase4
import Derived.ChangeKeysEq
set_option linter.all false
namespace Go.aA
open Go
theorem vR{p q:List D}{b:Bool}(h:Bf [] p q=some b):p=[]/\q=[]/\b=true:=by
 cases p with
 |nil=>cases q with
  |nil=>simp only[Bf,ad]at h;exact⟨rfl,rfl,h.symm⟩
  |cons=>simp[Bf]at h
 |cons=>simp[Bf]at h
theorem uD{k:IntKind}{ks:List (Option IntKind)}{p q:List D}{b:Bool}(h:Bf (some k::ks) p q=some b):
  ∃a x c y b0,p=.int k a::x/\q=.int k c::y/\Bf ks x y=some b0/\b=(a == c && b0):=by
 cases p with
 |nil=>simp[Bf]at h
 |cons d1 x =>
  cases q with
  |nil=>cases d1<;>simp[Bf]at h
  |cons d2 y =>
   cases d1<;>cases d2<;>try (simp[Bf]at h;done)
   rename_i k1 a k2 c;simp only[Bf]at h;split at h
   .rename_i hk;obtain⟨rfl,rfl⟩:=hk;simp only[ab]at h;obtain⟨b0,h0,rfl⟩:=h;exact⟨a,x,c,y,b0,rfl,rfl,h0,rfl⟩
   .cases h
theorem yw{ks:List (Option IntKind)}{p q:List D}{b:Bool}(h:Bf (none::ks) p q=some b):
  ∃a x c y b0,p=.bool a::x/\q=.bool c::y/\Bf ks x y=some b0/\b=(a == c && b0):=by
 cases p with
 |nil=>simp[Bf]at h
 |cons d1 x =>
  cases q with
  |nil=>cases d1<;>simp[Bf]at h
  |cons d2 y =>
   cases d1<;>cases d2<;>try (simp[Bf]at h;done)
   rename_i a c;simp only[Bf,ab]at h;obtain⟨b0,h0,rfl⟩:=h;exact⟨a,x,c,y,b0,rfl,rfl,h0,rfl⟩
theorem yu:∀(k1 k2:List (Option IntKind)) (p q:List D) (b:Bool),Bf (k1++k2) p q=some b ->
  ∃b1 b2,Bf k1 (p.take k1.length) (q.take k1.length)=some b1/\Bf k2 (p.drop k1.length) (q.drop k1.length)=some b2/\b=(b1 && b2)
 |[],k2,p,q,b,h=>⟨true,b,by simp[Bf],by simpa using h,by simp⟩
 |some k::k1,k2,p,q,b,h=>by
  obtain⟨a,x,c,y,b0,rfl,rfl,h0,rfl⟩:=uD h;obtain⟨b1,b2,e1,e2,rfl⟩:=yu k1 k2 x y b0 h0;exact⟨a == c && b1,b2,by simp[Bf,e1],by simpa using e2,by rw[Bool.and_assoc]⟩
 |none::k1,k2,p,q,b,h=>by
  obtain⟨a,x,c,y,b0,rfl,rfl,h0,rfl⟩:=yw h;obtain⟨b1,b2,e1,e2,rfl⟩:=yu k1 k2 x y b0 h0;exact⟨a == c && b1,b2,by simp[Bf,e1],by simpa using e2,by rw[Bool.and_assoc]⟩
theorem CY:∀(ks:List (Option IntKind)) (p q:List D) (b:Bool),Bf ks p q=some b->p.length=ks.length/\q.length=ks.length
 |[],p,q,b,h=>by obtain⟨rfl,rfl,_⟩:=vR h;exact⟨rfl,rfl⟩
 |some k::ks,p,q,b,h=>by
  obtain⟨a,x,c,y,b0,rfl,rfl,h0,rfl⟩:=uD h;obtain⟨h1,h2⟩:=CY ks x y b0 h0;exact⟨by simp[h1],by simp[h2]⟩
 |none::ks,p,q,b,h=>by
  obtain⟨a,x,c,y,b0,rfl,rfl,h0,rfl⟩:=yw h;obtain⟨h1,h2⟩:=CY ks x y b0 h0;exact⟨by simp[h1],by simp[h2]⟩
section
variable {P:Program} {g:G} {w:World}
def wD(g:G)(ag:Bool)(p:List D)(x:Value):Prop :=
 if ag then ∃xs,x=.agg xs/\bF g p xs.toList/\∀y∈xs.toList,y.oneCell'=true else bF g p [x]
def EqAt(P:Program)(g:G)(w:World)(n:Nat)(t:TypeId)(ks:List (Option IntKind)):Prop :=
 ∃ag,vD P t=some ag/\(ag=false->ks.length=1)/\∀m,n<=m->∀p q x y b,wD g ag p x->wD g ag q y->Bf ks p q=some b->(Op.equalIn m t x y).run P w=.ok b w
theorem C8{t:TypeId}{ag:Bool}{n:Nat}{xs:Array Value}{p:List D}{o:Nat}(hag:vD P t=some ag)(hsz:de P t=some n)(hone:ag=false->n=1)(hr:bF g p xs.toList)(h1:∀y∈xs.toList,y.oneCell'=true)(hlen:o+n<=p.length):
  ∃a,(part t xs o).run P w=.ok a w/\wD g ag ((p.drop o).take n) a:=by
 cases ag with
 |true =>
  obtain⟨c,hc,hrc⟩:=Fj (P:=P) (w:=w) (d:=.agg ((p.drop o).take n)) hag hsz hr h1 hlen (by simp);cases hrc with
  |agg _ cs h2 h3=>exact⟨_,hc,cs,rfl,h2,h3⟩
 |false =>
  obtain rfl:=hone rfl;have hlt:o<p.length:=by omega
  obtain⟨c,hc,hrc⟩:=Fj (P:=P) (w:=w) (d:=p[o]) hag hsz hr h1 hlen (by simp[hlt]);refine⟨c,hc,?_⟩;have:(p.drop o).take 1=[p[o]]:=by
   rw[List.drop_eq_getElem_cons hlt];rfl
  rw[this];exact .cons _ _ _ _ hrc .nil
theorem GG{n:Nat}{f:TypeId->Option (List (Option IntKind))}(hf:∀t ks,f t=some ks->EqAt P g w n t ks){m:Nat}(hm:n<=m){xs ys:Array Value}{p q:List D}(hx:bF g p xs.toList)(hy:bF g q ys.toList)
  (h1x:∀y∈xs.toList,y.oneCell'=true) (h1y:∀y∈ys.toList,y.oneCell'=true):
  ∀(fs:List Field) (o:Nat) (ks:List (Option IntKind)) (b:Bool),mj.kindsF P f o fs=some ks->Bf ks (p.drop o) (q.drop o)=some b->(Op.eqFields m xs ys fs).run P w=.ok b w
 |[],o,ks,b,hk,he=>by
  simp only[mj.kindsF,ad]at hk;subst hk;obtain⟨_,_,rfl⟩:=vR he;simp[Op.eqFields]
 |x::fs,o,ks,b,hk,he=>by
  simp only[mj.kindsF]at hk;split at hk
  case h_2=>cases hk
  rename_i k1 hk1;split at hk
  case isFalse=>cases hk
  rename_i hc;obtain⟨hname,hoff,hsz,hpos⟩:=hc;simp only[ab]at hk;obtain⟨k2,hk2,rfl⟩:=hk;obtain⟨l1,l2⟩:=CY _ _ _ _ he;obtain⟨b1,b2,e1,e2,rfl⟩:=yu _ _ _ _ _ he;simp only[aF,List.length_drop]at l1 l2;obtain⟨ag,hag,hone,hEq⟩:=hf _ _ hk1;have hone':=hone;obtain⟨a,ha,hra⟩:=C8 (P:=P) (w:=w) (p:=p) (o:=o) hag hsz hone hx h1x (by omega);obtain⟨c,hc,hrc⟩:=C8 (P:=P) (w:=w) (p:=q) (o:=o) hag hsz hone hy h1y (by omega);have hrun:=hEq m hm _ _ a c b1 hra hrc e1;have ih:=GG hf hm hx hy h1x h1y fs (o+k1.length) k2 b2 hk2 (by simpa[fD]using e2);simp only[Op.eqFields,hoff];rw[if_pos hname];simp only[Sem.run_bind,ha,hc,hrun,Result.andThen_ok,Sem.run_ite,ih];cases b1<;>simp
theorem ID{n:Nat}{t:TypeId}{k:List (Option IntKind)}(hE:EqAt P g w n t k)(hsz:de P t=some k.length)(hpos:0<k.length){m:Nat}(hm:n<=m){xs ys:Array Value}{p q:List D}(hx:bF g p xs.toList)(hy:bF g q ys.toList)
  (h1x:∀y∈xs.toList,y.oneCell'=true) (h1y:∀y∈ys.toList,y.oneCell'=true):
  ∀(r i:Nat) (b:Bool),Bf ((List.range r).flatMap λ_=>k) (p.drop (i*k.length)) (q.drop (i*k.length))=some b ->
   (Op.eqItems m t (P.cellsOf t) xs ys (List.range' i r)).run P w=.ok b w
 |0,i,b,he=>by
  simp only[List.range_zero,bM]at he;obtain⟨_,_,rfl⟩:=vR he;simp[Op.eqItems]
 |r+1,i,b,he=>by
  have hfl:((List.range (r+1)).flatMap λ_=>k)=k++(List.range r).flatMap λ_=>k:=by
   rw[List.range_succ_eq_map,aS,List.flatMap_map]
  rw[hfl]at he;have he0:=he;obtain⟨b1,b2,e1,e2,rfl⟩:=yu _ _ _ _ _ he;obtain⟨ag,hag,hone,hEq⟩:=hE;have hcells:P.cellsOf t=k.length:=by
   simp only[de]at hsz;simp[Program.cellsOf,hsz]
  have hl:=CY _ _ _ _ he0;simp only[aF,List.length_drop]at hl;obtain⟨a,ha,hra⟩:=C8 (P:=P) (w:=w) (o:=i*k.length) hag hsz hone hx h1x (by omega);obtain⟨c,hc,hrc⟩:=C8 (P:=P) (w:=w) (o:=i*k.length) hag hsz hone hy h1y (by omega);have hrun:=hEq m hm _ _ a c b1 hra hrc e1;have ih:=ID ⟨ag,hag,hone,hEq⟩ hsz hpos hm hx hy h1x h1y r (i+1) b2 (by
   rw[fD,fD]at e2;rw[ij,Nat.one_mul];exact e2)
  rw[List.range'_succ];simp only[Op.eqItems,hcells]at ih ⊢;simp only[Sem.run_bind,ha,hc,hrun,Result.andThen_ok,Sem.run_ite,ih];cases b1<;>simp
theorem Fa:∀(n:Nat) (t:TypeId) (ks:List (Option IntKind)),mj P n t=some ks->EqAt P g w n t ks
 |0,t,ks,h=>by simp[mj]at h
 |n+1,t,ks,h=>by
  simp only[mj]at h;split at h
  .rename_i k hu;cases h;refine⟨false,by simp[vD,hu],λ_=>rfl,λm hm p q x y b hx hy he=>?_⟩;obtain⟨m,rfl⟩:∃m',m=m'+1:=⟨m-1,by omega⟩;simp only[wD,az,if_false]at hx hy;obtain⟨a,x1,c,y1,b0,rfl,rfl,h0,rfl⟩:=uD he;obtain⟨rfl,rfl,rfl⟩:=vR h0;cases hx with
   |cons _ _ _ _ hx1 hx2 =>
    cases hy with
    |cons _ _ _ _ hy1 hy2 =>
     obtain rfl:=hx1.eD;obtain rfl:=hy1.eD;rw[Bool.and_true];exact run_equalIn_int w m t _ _ a c hu
  .rename_i hu;cases h;refine⟨false,by simp[vD,hu],λ_=>rfl,λm hm p q x y b hx hy he=>?_⟩;obtain⟨m,rfl⟩:∃m',m=m'+1:=⟨m-1,by omega⟩;simp only[wD,az,if_false]at hx hy;obtain⟨a,x1,c,y1,b0,rfl,rfl,h0,rfl⟩:=yw he;obtain⟨rfl,rfl,rfl⟩:=vR h0;cases hx with
   |cons _ _ _ _ hx1 hx2 =>
    cases hy with
    |cons _ _ _ _ hy1 hy2 =>
     obtain rfl:=hx1.pN;obtain rfl:=hy1.pN;rw[Bool.and_true];exact run_equalIn_bool' w m t a c hu
  .rename_i fs hu;split at h
   case isTrue=>cases h
   rename_i hst;refine⟨true,by simp[vD,hu],by simp,λm hm p q x y b hx hy he=>?_⟩;obtain⟨m,rfl⟩:∃m',m=m'+1:=⟨m-1,by omega⟩;simp only[wD,if_true]at hx hy;obtain⟨xs,rfl,hxr,hx1⟩:=hx;obtain⟨ys,rfl,hyr,hy1⟩:=hy;have hfo:P.fieldsOf t=fs:=by simp[Program.fieldsOf,hu]
   rw[run_equalIn_struct w m t xs ys (by rw[hfo];exact hu) (by simpa using hst),hfo];exact GG (λt ks h=>Fa n t ks h) (by omega) hxr hyr hx1 hy1 _ 0 ks b h (by simpa using he)
  .rename_i r el hu;split at h
   case h_2=>cases h
   rename_i k hk;split at h
   case isFalse=>cases h
   rename_i hc;cases h;simp only[ae,beq_iff_eq,au]at hc;refine⟨true,by simp[vD,hu],by simp,λm hm p q x y b hx hy he=>?_⟩;obtain⟨m,rfl⟩:∃m',m=m'+1:=⟨m-1,by omega⟩;simp only[wD,if_true]at hx hy;obtain⟨xs,rfl,hxr,hx1⟩:=hx;obtain⟨ys,rfl,hyr,hy1⟩:=hy;have hsz:=hc.1;simp only[de,ab]at hsz;obtain⟨i,hi,_⟩:=hsz;rw[run_equalIn_array w m xs ys hu hi,List.range_eq_range'];exact ID (Fa n el k hk) hc.1 hc.2 (by omega) hxr hyr hx1 hy1 r 0 b (by simpa using he)
  .cases h
end
section ops
variable {P:Program} {CR:eP} {base fb:Nat} {V:List Nat} {g:G} {J J':SK} {w:World} {B:Nat->Nat} {e:Env} {tmps:Array Value} {df:List Deferred}
 {d:D}
theorem wB{ag:Bool}{d:D}{c:Value}{p:List D}(h:bH g d c)(hr:d.row ag=some p):wD g ag p c:=by
 have h0:=h;cases ag<;>cases d<;>simp only[D.row,D.cells,ad,reduceCtorEq]at hr;all_goals first
  |(subst hr;exact .cons _ _ _ _ h0 .nil)
  |(subst hr;cases h with
    |agg _ cs h1 h2=>exact⟨cs,rfl,h1,h2⟩)
theorem Zs(hf:Fr fb V g w B e tmps)(hi:Inv CR base g J w){x y:Operand}{X Y:bI}{t u:TypeId}{ks:List (Option IntKind)}{ag neg:Bool}(hx:bG x=some X)(hy:bG y=some Y)(hk:mj P 20 t=some ks)
  (hag:vD P t=some ag) (hguard:P.eqGuardType P.depth t=false)
  (h:bO e J (.eqv ag ks neg X Y)=some (d,J')) (o:Oper) (ho:o.op=.binOp (if neg then .neq else .eql) t x y u):fh P CR base g w B e (Act.mk tmps df).eval o d J':=by
 simp only[bO]at h;split at h
 case h_2=>cases h
 rename_i p q hp hq;simp only[ab]at h;obtain⟨b,hb,h⟩:=h;cases h;have hrx:=wB (hf.bu (df:=df) hx) hp;have hry:=wB (hf.bu (df:=df) hy) hq;obtain⟨ag',hag',_,hEq⟩:=Fa (P:=P) (g:=g) (w:=w) 20 t ks hk;rw[hag]at hag';cases hag';have hrun:=hEq 10000 (by omega) p q _ _ b hrx hry hb;refine .pure hi (c:=.bool (if neg then !b else b)) ?_ (cz.of (.bool _));have hmain:∀(bo:BinOp),bo=(if neg then .neq else .eql)->(eqGuard bo t x y ((Act.mk tmps df).eval x) ((Act.mk tmps df).eval y)).run P w=.ok () w /\
   (binOp bo t ((Act.mk tmps df).eval x) ((Act.mk tmps df).eval y)).run P w=.ok (.bool (if neg then !b else b)) w:=by
  intro bo hbo;cases ag with
  |true =>
   simp only[wD,if_true]at hrx hry;obtain⟨xs,ex,_⟩:=hrx;obtain⟨ys,ey,_⟩:=hry;rw[ex,ey]at hrun ⊢;refine⟨run_eqGuard_agg w bo t x y xs ys hguard,?_⟩;cases neg
   .simp only[az,if_false]at hbo ⊢;subst hbo;rw[run_eql_struct,hrun];rfl
   .simp only[if_true]at hbo ⊢;subst hbo;rw[run_neq_struct,hrun];rfl
  |false =>
   simp only[wD,az,if_false]at hrx hry;have hl:=CY _ _ _ _ hb;have hp1:=hrx.length;simp only[av,aV]at hp1;match ks,hb,hl with
   |[],_,hl=>exact absurd (hl.1.symm.trans hp1) (by simp)
   |some k::ks',hb,hl =>
    obtain⟨a,x1,c,y1,b0,rfl,rfl,h0,rfl⟩:=uD hb;cases hrx with
    |cons _ _ _ _ hx1 hx2 =>
     cases hry with
     |cons _ _ _ _ hy1 hy2 =>
      cases hx2;cases hy2;have ex:=hx1.eD;have ey:=hy1.eD;rw[ex,ey];have hks:ks'=[]:=by simpa using hl.1.symm
      subst hks;obtain⟨_,_,rfl⟩:=vR h0;cases neg<;>simp only[az,if_false,if_true]at hbo ⊢ <;> subst hbo<;>simp[eqGuard,binOp,Op.intCmp,bne]
   |none::ks',hb,hl =>
    obtain⟨a,x1,c,y1,b0,rfl,rfl,h0,rfl⟩:=yw hb;cases hrx with
    |cons _ _ _ _ hx1 hx2 =>
     cases hry with
     |cons _ _ _ _ hy1 hy2 =>
      have ex:=hx1.pN;have ey:=hy1.pN;rw[ex,ey]at hrun ⊢;cases neg<;>simp only[az,if_false,if_true]at hbo ⊢ <;> subst hbo
      .refine⟨by simp[eqGuard],?_⟩;have:∀(u v:Bool),binOp .eql t (.bool u) (.bool v)=(do pure (.bool (<- Op.equal t (.bool u) (.bool v)))):=λ_ _=>rfl
       rw[this];simp only[Sem.run_bind,Op.equal,Op.maxDepth];rw[hrun];simp
      .refine⟨by simp[eqGuard],?_⟩;have:∀(u v:Bool),binOp .neq t (.bool u) (.bool v)=(do pure (.bool (!(<- Op.equal t (.bool u) (.bool v))))):=λ_ _=>rfl
       rw[this];simp only[Sem.run_bind,Op.equal,Op.maxDepth];rw[hrun];simp
 obtain⟨m1,m2⟩:=hmain _ rfl;simp only[execOp,ho,Sem.run_bind,m1,m2,Result.andThen_ok,Sem.run_pure]
end ops
end Go.aA
