import Derived.Test.YtklfdfnoebnciaaGreatDoorBase5
import Derived.ChangeKeysEq
set_option linter.all false
namespace Go.az
open Go
theorem uA{p q:List D}{b:Bool}(h:zn [] p q=some b):p=[]/\q=[]/\b=true:=by
 cases p with
 |nil=>cases q with
  |nil=>simp only[zn,ad]at h;exact⟨rfl,rfl,h.symm⟩
  |cons=>simp[zn]at h
 |cons=>simp[zn]at h
theorem s9{k:IntKind}{ks:List (Option IntKind)}{p q:List D}{b:Bool}(h:zn (some k::ks) p q=some b):
  ∃a x c y b0,p=.int k a::x/\q=.int k c::y/\zn ks x y=some b0/\b=(a == c && b0):=by
 cases p with
 |nil=>simp[zn]at h
 |cons d1 x =>
  cases q with
  |nil=>cases d1<;>simp[zn]at h
  |cons d2 y =>
   cases d1<;>cases d2<;>try (simp[zn]at h;done)
   rename_i k1 a k2 c;simp only[zn]at h;split at h
   .rename_i hk;obtain⟨rfl,rfl⟩:=hk;simp only[ab]at h;obtain⟨b0,h0,rfl⟩:=h;exact⟨a,x,c,y,b0,rfl,rfl,h0,rfl⟩
   .cases h
theorem wG{ks:List (Option IntKind)}{p q:List D}{b:Bool}(h:zn (none::ks) p q=some b):
  ∃a x c y b0,p=.bool a::x/\q=.bool c::y/\zn ks x y=some b0/\b=(a == c && b0):=by
 cases p with
 |nil=>simp[zn]at h
 |cons d1 x =>
  cases q with
  |nil=>cases d1<;>simp[zn]at h
  |cons d2 y =>
   cases d1<;>cases d2<;>try (simp[zn]at h;done)
   rename_i a c;simp only[zn,ab]at h;obtain⟨b0,h0,rfl⟩:=h;exact⟨a,x,c,y,b0,rfl,rfl,h0,rfl⟩
theorem wF:∀(k1 k2:List (Option IntKind)) (p q:List D) (b:Bool),zn (k1++k2) p q=some b ->
  ∃b1 b2,zn k1 (p.take k1.length) (q.take k1.length)=some b1/\zn k2 (p.drop k1.length) (q.drop k1.length)=some b2/\b=(b1 && b2)
 |[],k2,p,q,b,h=>⟨true,b,by simp[zn],by simpa using h,by simp⟩
 |some k::k1,k2,p,q,b,h=>by
  obtain⟨a,x,c,y,b0,rfl,rfl,h0,rfl⟩:=s9 h;obtain⟨b1,b2,e1,e2,rfl⟩:=wF k1 k2 x y b0 h0;exact⟨a == c && b1,b2,by simp[zn,e1],by simpa using e2,by rw[Bool.and_assoc]⟩
 |none::k1,k2,p,q,b,h=>by
  obtain⟨a,x,c,y,b0,rfl,rfl,h0,rfl⟩:=wG h;obtain⟨b1,b2,e1,e2,rfl⟩:=wF k1 k2 x y b0 h0;exact⟨a == c && b1,b2,by simp[zn,e1],by simpa using e2,by rw[Bool.and_assoc]⟩
theorem Bj:∀(ks:List (Option IntKind)) (p q:List D) (b:Bool),zn ks p q=some b->p.length=ks.length/\q.length=ks.length
 |[],p,q,b,h=>by obtain⟨rfl,rfl,_⟩:=uA h;exact⟨rfl,rfl⟩
 |some k::ks,p,q,b,h=>by
  obtain⟨a,x,c,y,b0,rfl,rfl,h0,rfl⟩:=s9 h;obtain⟨h1,h2⟩:=Bj ks x y b0 h0;exact⟨by simp[h1],by simp[h2]⟩
 |none::ks,p,q,b,h=>by
  obtain⟨a,x,c,y,b0,rfl,rfl,h0,rfl⟩:=wG h;obtain⟨h1,h2⟩:=Bj ks x y b0 h0;exact⟨by simp[h1],by simp[h2]⟩
section
variable {P:Program} {g:G} {w:World}
def uV(g:G)(ag:Bool)(p:List D)(x:Value):Prop :=
 if ag then ∃xs,x=.agg xs/\bA g p xs.toList/\∀y∈xs.toList,y.oneCell'=true else bA g p [x]
def EqAt(P:Program)(g:G)(w:World)(n:Nat)(t:TypeId)(ks:List (Option IntKind)):Prop :=
 ∃ag,uh P t=some ag/\(ag=false->ks.length=1)/\∀m,n<=m->∀p q x y b,uV g ag p x->uV g ag q y->zn ks p q=some b->(Op.equalIn m t x y).run P w=.ok b w
theorem Br{t:TypeId}{ag:Bool}{n:Nat}{xs:Array Value}{p:List D}{o:Nat}(hag:uh P t=some ag)(hsz:cH P t=some n)(hone:ag=false->n=1)(hr:bA g p xs.toList)(h1:∀y∈xs.toList,y.oneCell'=true)(hlen:o+n<=p.length):
  ∃a,(part t xs o).run P w=.ok a w/\uV g ag ((p.drop o).take n) a:=by
 cases ag with
 |true =>
  obtain⟨c,hc,hrc⟩:=DC (P:=P) (w:=w) (d:=.agg ((p.drop o).take n)) hag hsz hr h1 hlen (by simp);cases hrc with
  |agg _ cs h2 h3=>exact⟨_,hc,cs,rfl,h2,h3⟩
 |false =>
  obtain rfl:=hone rfl;have hlt:o<p.length:=by omega
  obtain⟨c,hc,hrc⟩:=DC (P:=P) (w:=w) (d:=p[o]) hag hsz hr h1 hlen (by simp[hlt]);refine⟨c,hc,?_⟩;have:(p.drop o).take 1=[p[o]]:=by
   rw[List.drop_eq_getElem_cons hlt];rfl
  rw[this];exact .cons _ _ _ _ hrc .nil
theorem EN{n:Nat}{f:TypeId->Option (List (Option IntKind))}(hf:∀t ks,f t=some ks->EqAt P g w n t ks){m:Nat}(hm:n<=m){xs ys:Array Value}{p q:List D}(hx:bA g p xs.toList)(hy:bA g q ys.toList)
  (h1x:∀y∈xs.toList,y.oneCell'=true) (h1y:∀y∈ys.toList,y.oneCell'=true):
  ∀(fs:List Field) (o:Nat) (ks:List (Option IntKind)) (b:Bool),kV.kindsF P f o fs=some ks->zn ks (p.drop o) (q.drop o)=some b->(Op.eqFields m xs ys fs).run P w=.ok b w
 |[],o,ks,b,hk,he=>by
  simp only[kV.kindsF,ad]at hk;subst hk;obtain⟨_,_,rfl⟩:=uA he;simp[Op.eqFields]
 |x::fs,o,ks,b,hk,he=>by
  simp only[kV.kindsF]at hk;split at hk
  case h_2=>cases hk
  rename_i k1 hk1;split at hk
  case isFalse=>cases hk
  rename_i hc;obtain⟨hname,hoff,hsz,hpos⟩:=hc;simp only[ab]at hk;obtain⟨k2,hk2,rfl⟩:=hk;obtain⟨l1,l2⟩:=Bj _ _ _ _ he;obtain⟨b1,b2,e1,e2,rfl⟩:=wF _ _ _ _ _ he;simp only[bJ,List.length_drop]at l1 l2;obtain⟨ag,hag,hone,hEq⟩:=hf _ _ hk1;have hone':=hone;obtain⟨a,ha,hra⟩:=Br (P:=P) (w:=w) (p:=p) (o:=o) hag hsz hone hx h1x (by omega);obtain⟨c,hc,hrc⟩:=Br (P:=P) (w:=w) (p:=q) (o:=o) hag hsz hone hy h1y (by omega);have hrun:=hEq m hm _ _ a c b1 hra hrc e1;have ih:=EN hf hm hx hy h1x h1y fs (o+k1.length) k2 b2 hk2 (by simpa[eK]using e2);simp only[Op.eqFields,hoff];rw[if_pos hname];simp only[Sem.run_bind,ha,hc,hrun,Result.andThen_ok,Sem.run_ite,ih];cases b1<;>simp
theorem Gq{n:Nat}{t:TypeId}{k:List (Option IntKind)}(hE:EqAt P g w n t k)(hsz:cH P t=some k.length)(hpos:0<k.length){m:Nat}(hm:n<=m){xs ys:Array Value}{p q:List D}(hx:bA g p xs.toList)(hy:bA g q ys.toList)
  (h1x:∀y∈xs.toList,y.oneCell'=true) (h1y:∀y∈ys.toList,y.oneCell'=true):
  ∀(r i:Nat) (b:Bool),zn ((List.range r).flatMap λ_=>k) (p.drop (i*k.length)) (q.drop (i*k.length))=some b ->
   (Op.eqItems m t (P.cellsOf t) xs ys (List.range' i r)).run P w=.ok b w
 |0,i,b,he=>by
  simp only[List.range_zero,cb]at he;obtain⟨_,_,rfl⟩:=uA he;simp[Op.eqItems]
 |r+1,i,b,he=>by
  have hfl:((List.range (r+1)).flatMap λ_=>k)=k++(List.range r).flatMap λ_=>k:=by
   rw[List.range_succ_eq_map,aT,List.flatMap_map]
  rw[hfl]at he;have he0:=he;obtain⟨b1,b2,e1,e2,rfl⟩:=wF _ _ _ _ _ he;obtain⟨ag,hag,hone,hEq⟩:=hE;have hcells:P.cellsOf t=k.length:=by
   simp only[cH]at hsz;simp[Program.cellsOf,hsz]
  have hl:=Bj _ _ _ _ he0;simp only[bJ,List.length_drop]at hl;obtain⟨a,ha,hra⟩:=Br (P:=P) (w:=w) (o:=i*k.length) hag hsz hone hx h1x (by omega);obtain⟨c,hc,hrc⟩:=Br (P:=P) (w:=w) (o:=i*k.length) hag hsz hone hy h1y (by omega);have hrun:=hEq m hm _ _ a c b1 hra hrc e1;have ih:=Gq ⟨ag,hag,hone,hEq⟩ hsz hpos hm hx hy h1x h1y r (i+1) b2 (by
   rw[eK,eK]at e2;rw[iG,Nat.one_mul];exact e2)
  rw[List.range'_succ];simp only[Op.eqItems,hcells]at ih ⊢;simp only[Sem.run_bind,ha,hc,hrun,Result.andThen_ok,Sem.run_ite,ih];cases b1<;>simp
theorem Du:∀(n:Nat) (t:TypeId) (ks:List (Option IntKind)),kV P n t=some ks->EqAt P g w n t ks
 |0,t,ks,h=>by simp[kV]at h
 |n+1,t,ks,h=>by
  simp only[kV]at h;split at h
  .rename_i k hu;cases h;refine⟨false,by simp[uh,hu],λ_=>rfl,λm hm p q x y b hx hy he=>?_⟩;obtain⟨m,rfl⟩:∃m',m=m'+1:=⟨m-1,by omega⟩;simp only[uV,ar,if_false]at hx hy;obtain⟨a,x1,c,y1,b0,rfl,rfl,h0,rfl⟩:=s9 he;obtain⟨rfl,rfl,rfl⟩:=uA h0;cases hx with
   |cons _ _ _ _ hx1 hx2 =>
    cases hy with
    |cons _ _ _ _ hy1 hy2 =>
     obtain rfl:=hx1.dQ;obtain rfl:=hy1.dQ;rw[Bool.and_true];exact run_equalIn_int w m t _ _ a c hu
  .rename_i hu;cases h;refine⟨false,by simp[uh,hu],λ_=>rfl,λm hm p q x y b hx hy he=>?_⟩;obtain⟨m,rfl⟩:∃m',m=m'+1:=⟨m-1,by omega⟩;simp only[uV,ar,if_false]at hx hy;obtain⟨a,x1,c,y1,b0,rfl,rfl,h0,rfl⟩:=wG he;obtain⟨rfl,rfl,rfl⟩:=uA h0;cases hx with
   |cons _ _ _ _ hx1 hx2 =>
    cases hy with
    |cons _ _ _ _ hy1 hy2 =>
     obtain rfl:=hx1.od;obtain rfl:=hy1.od;rw[Bool.and_true];exact run_equalIn_bool' w m t a c hu
  .rename_i fs hu;split at h
   case isTrue=>cases h
   rename_i hst;refine⟨true,by simp[uh,hu],by simp,λm hm p q x y b hx hy he=>?_⟩;obtain⟨m,rfl⟩:∃m',m=m'+1:=⟨m-1,by omega⟩;simp only[uV,if_true]at hx hy;obtain⟨xs,rfl,hxr,hx1⟩:=hx;obtain⟨ys,rfl,hyr,hy1⟩:=hy;have hfo:P.fieldsOf t=fs:=by simp[Program.fieldsOf,hu]
   rw[run_equalIn_struct w m t xs ys (by rw[hfo];exact hu) (by simpa using hst),hfo];exact EN (λt ks h=>Du n t ks h) (by omega) hxr hyr hx1 hy1 _ 0 ks b h (by simpa using he)
  .rename_i r el hu;split at h
   case h_2=>cases h
   rename_i k hk;split at h
   case isFalse=>cases h
   rename_i hc;cases h;simp only[ae,beq_iff_eq,ao]at hc;refine⟨true,by simp[uh,hu],by simp,λm hm p q x y b hx hy he=>?_⟩;obtain⟨m,rfl⟩:∃m',m=m'+1:=⟨m-1,by omega⟩;simp only[uV,if_true]at hx hy;obtain⟨xs,rfl,hxr,hx1⟩:=hx;obtain⟨ys,rfl,hyr,hy1⟩:=hy;have hsz:=hc.1;simp only[cH,ab]at hsz;obtain⟨i,hi,_⟩:=hsz;rw[run_equalIn_array w m xs ys hu hi,List.range_eq_range'];exact Gq (Du n el k hk) hc.1 hc.2 (by omega) hxr hyr hx1 hy1 r 0 b (by simpa using he)
  .cases h
end
section ops
variable {P:Program} {CR:eJ} {base fb:Nat} {V:List Nat} {g:G} {J J':SK} {w:World} {B:Nat->Nat} {e:Env} {tmps:Array Value} {df:List Deferred}
 {d:D}
theorem uT{ag:Bool}{d:D}{c:Value}{p:List D}(h:bB g d c)(hr:d.row ag=some p):uV g ag p c:=by
 have h0:=h;cases ag<;>cases d<;>simp only[D.row,D.cells,ad,reduceCtorEq]at hr;all_goals first
  |(subst hr;exact .cons _ _ _ _ h0 .nil)
  |(subst hr;cases h with
    |agg _ cs h1 h2=>exact⟨cs,rfl,h1,h2⟩)
theorem Vx(hf:Fr fb V g w B e tmps)(hi:Inv CR base g J w){x y:Operand}{X Y:bD}{t u:TypeId}{ks:List (Option IntKind)}{ag neg:Bool}(hx:bC x=some X)(hy:bC y=some Y)(hk:kV P 20 t=some ks)
  (hag:uh P t=some ag) (hguard:P.eqGuardType P.depth t=false)
  (h:bG e J (.eqv ag ks neg X Y)=some (d,J')) (o:Oper) (ho:o.op=.binOp (if neg then .neq else .eql) t x y u):ep P CR base g w B e (Act.mk tmps df).eval o d J':=by
 simp only[bG]at h;split at h
 case h_2=>cases h
 rename_i p q hp hq;simp only[ab]at h;obtain⟨b,hb,h⟩:=h;cases h;have hrx:=uT (hf.ba (df:=df) hx) hp;have hry:=uT (hf.ba (df:=df) hy) hq;obtain⟨ag',hag',_,hEq⟩:=Du (P:=P) (g:=g) (w:=w) 20 t ks hk;rw[hag]at hag';cases hag';have hrun:=hEq 10000 (by omega) p q _ _ b hrx hry hb;refine .pure hi (c:=.bool (if neg then !b else b)) ?_ (ch.of (.bool _));have hmain:∀(bo:BinOp),bo=(if neg then .neq else .eql)->(eqGuard bo t x y ((Act.mk tmps df).eval x) ((Act.mk tmps df).eval y)).run P w=.ok () w /\
   (binOp bo t ((Act.mk tmps df).eval x) ((Act.mk tmps df).eval y)).run P w=.ok (.bool (if neg then !b else b)) w:=by
  intro bo hbo;cases ag with
  |true =>
   simp only[uV,if_true]at hrx hry;obtain⟨xs,ex,_⟩:=hrx;obtain⟨ys,ey,_⟩:=hry;rw[ex,ey]at hrun ⊢;refine⟨run_eqGuard_agg w bo t x y xs ys hguard,?_⟩;cases neg
   .simp only[ar,if_false]at hbo ⊢;subst hbo;rw[run_eql_struct,hrun];rfl
   .simp only[if_true]at hbo ⊢;subst hbo;rw[run_neq_struct,hrun];rfl
  |false =>
   simp only[uV,ar,if_false]at hrx hry;have hl:=Bj _ _ _ _ hb;have hp1:=hrx.length;simp only[aF,bj]at hp1;match ks,hb,hl with
   |[],_,hl=>exact absurd (hl.1.symm.trans hp1) (by simp)
   |some k::ks',hb,hl =>
    obtain⟨a,x1,c,y1,b0,rfl,rfl,h0,rfl⟩:=s9 hb;cases hrx with
    |cons _ _ _ _ hx1 hx2 =>
     cases hry with
     |cons _ _ _ _ hy1 hy2 =>
      cases hx2;cases hy2;have ex:=hx1.dQ;have ey:=hy1.dQ;rw[ex,ey];have hks:ks'=[]:=by simpa using hl.1.symm
      subst hks;obtain⟨_,_,rfl⟩:=uA h0;cases neg<;>simp only[ar,if_false,if_true]at hbo ⊢ <;> subst hbo<;>simp[eqGuard,binOp,Op.intCmp,bne]
   |none::ks',hb,hl =>
    obtain⟨a,x1,c,y1,b0,rfl,rfl,h0,rfl⟩:=wG hb;cases hrx with
    |cons _ _ _ _ hx1 hx2 =>
     cases hry with
     |cons _ _ _ _ hy1 hy2 =>
      have ex:=hx1.od;have ey:=hy1.od;rw[ex,ey]at hrun ⊢;cases neg<;>simp only[ar,if_false,if_true]at hbo ⊢ <;> subst hbo
      .refine⟨by simp[eqGuard],?_⟩;have:∀(u v:Bool),binOp .eql t (.bool u) (.bool v)=(do pure (.bool (<- Op.equal t (.bool u) (.bool v)))):=λ_ _=>rfl
       rw[this];simp only[Sem.run_bind,Op.equal,Op.maxDepth];rw[hrun];simp
      .refine⟨by simp[eqGuard],?_⟩;have:∀(u v:Bool),binOp .neq t (.bool u) (.bool v)=(do pure (.bool (!(<- Op.equal t (.bool u) (.bool v))))):=λ_ _=>rfl
       rw[this];simp only[Sem.run_bind,Op.equal,Op.maxDepth];rw[hrun];simp
 obtain⟨m1,m2⟩:=hmain _ rfl;simp only[execOp,ho,Sem.run_bind,m1,m2,Result.andThen_ok,Sem.run_pure]
end ops
end Go.az
