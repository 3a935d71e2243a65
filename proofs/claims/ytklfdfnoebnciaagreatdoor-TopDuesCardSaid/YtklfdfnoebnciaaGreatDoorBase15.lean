import Derived.Test.YtklfdfnoebnciaaGreatDoorBase14
import Derived.ChangeArms
import Derived.OpenShut
import Derived.WideShapes
import Derived.RowKit
import Derived.Carry
set_option linter.all false
namespace Go.az
open Go
open Go.RowKit Go.WideShapes
inductive Ty where
 |bool
 |int (k:IntKind)
 |str
 |slice (w:Nat) (e:Ty)
 |struct (fs:List Ty)
 |arr (n:Nat) (e:Ty)
 deriving Inhabited
mutual
def Ty.size:Ty->Nat
 |.bool=>1
 |.int _=>1
 |.str=>1
 |.slice _ _=>1
 |.struct fs=>Ty.G1 fs
 |.arr n e=>n*e.size
def Ty.G1:List Ty->Nat
 |[]=>0
 |f::fs=>f.size+Ty.G1 fs
end
mutual
def Ty.has:Ty->List D->Prop
 |.bool,ds=>∃b,ds=[.bool b]
 |.int k,ds=>∃n,ds=[.int k n]/\(Lit.int k n).wf=true
 |.str,ds=>∃s:List UInt8,ds=[.str s]/\s.length<=maxLen
 |.slice w e,ds=>∃xs:List (List D),ds=[.aG xs.length xs.flatten]/\xs.length<=maxLen/\∀x∈xs,x.length=w/\e.has x
 |.struct fs,ds=>Ty.WQ fs ds
 |.arr n e,ds=>∃xs:List (List D),ds=xs.flatten/\xs.length=n/\∀x∈xs,x.length=e.size/\e.has x
def Ty.WQ:List Ty->List D->Prop
 |[],ds=>ds=[]
 |f::fs,ds=>∃a b,ds=a++b/\f.has a/\Ty.WQ fs b
end
def Ty.OX(T:Ty)(d:D):Prop :=
 match T with
 |.struct _=>∃ds,d=.agg ds/\T.has ds
 |.arr _ _=>∃ds,d=.agg ds/\T.has ds
 |_=>T.has [d]
def Li(P:Program):Nat->TypeId->Option Ty
 |0,_=>none
 |n+1,t =>
  match P.underlying t with
  |some .bool=>some .bool
  |some (.int k)=>some (.int k)
  |some .string=>some .str
  |some (.slice e)=>if 0<P.cellsOf e then(Li P n e).map (.slice (P.cellsOf e))else none
  |some (.struct fs)=>(tyF (Li P n) 0 fs.toList).bind λTs=>if P.cellsOf t=Ty.G1 Ts then some (.struct Ts)else none
  |some (.array m e)=>(Li P n e).bind λT=>if P.cellsOf e=T.size/\P.cellsOf t=m*T.size then some (.arr m T)else none
  |_=>none
where
 tyF (f:TypeId->Option Ty):Nat->List Field->Option (List Ty)
  |_,[]=>some []
  |o,x::r=>(f x.type).bind λT=>if x.offset=o/\P.cellsOf x.type=T.size then(tyF f (o+T.size) r).map (T :: ·)else none
section
variable {H:Type} {enc:TypeId×Value->H} {P:Program} {w:World} {base:Nat} {spare:Nat->Bool} {held:Bool}
def Nb(w:World)(T:Ty)(cs:List Value):Prop:=∃ds,bA (G0 w) ds cs/\(∀c∈cs,c.oneCell'=true)/\T.has ds
theorem mapM_some{α β:Type}{f:α->Option β}:∀{l:List α} {r:List β},l.mapM f=some r->r.length=l.length/\∀(i:Nat) (a:α),l[i]?=some a->f a=r[i]?
 |[],r,h=>by simp at h;subst h;simp
 |a::l,r,h=>by
  simp only[List.mapM_cons,Option.pure_def,aM,af,ad]at h;obtain⟨b,h1,bs,h2,rfl⟩:=h;obtain⟨h3,h4⟩:=mapM_some h2;refine⟨by simp[h3],λi x hx=>?_⟩;cases i with
  |zero=>simp at hx;subst hx;simpa using h1
  |succ i=>simpa using h4 i x (by simpa using hx)
theorem Sx{α:Type}{l:List α}{o n m:Nat}(hn:(l.drop o).length=n+m):(l.drop o)=(l.drop o).take n++l.drop (o+n):=by
 conv=>lhs;rw[<- List.take_append_drop n (l.drop o)]
 rw[eK]
theorem DA{cs:List Value}{r:TypeId->List Value->Prop}{f:TypeId->Option Ty}(hf:∀t T cs,f t=some T->r t cs->cs.length=T.size->Nb w T cs):
  ∀{fs:List Field} {o:Nat} {Ts:List Ty},Li.tyF P f o fs=some Ts->cs.length=o+Ty.G1 Ts ->
   (∀(i:Nat) (x:Field),fs[i]?=some x->r x.type ((cs.drop x.offset).take (P.cellsOf x.type))) ->
   ∃ds,bA (G0 w) ds (cs.drop o)/\(∀c∈cs.drop o,c.oneCell'=true)/\Ty.WQ Ts ds
 |[],o,Ts,h,hl,_=>by
  simp[Li.tyF]at h;subst h;simp[Ty.G1]at hl;have:cs.drop o=[]:=by simp;omega
  rw[this];exact⟨[],.nil,by simp,rfl⟩
 |x::fs,o,Ts,h,hl,hr=>by
  simp only[Li.tyF,af]at h;obtain⟨T,h1,h2⟩:=h;split at h2
  case isFalse=>cases h2
  rename_i hx;simp only[ab]at h2;obtain⟨Ts',h3,rfl⟩:=h2;simp only[Ty.G1]at hl;have h4:=hr 0 x rfl;rw[hx.1,hx.2]at h4;obtain⟨a,ra,oa,ha⟩:=hf _ T _ h1 h4 (by simp;omega);obtain⟨b,rb,ob,hb⟩:=DA hf h3 (by omega) (λi y hy=>hr (i+1) y (by simpa using hy));have e:cs.drop o=(cs.drop o).take T.size++cs.drop (o+T.size):=Sx (m:=Ty.G1 Ts') (by simp;omega);rw[e];refine⟨a++b,ra.append rb,λc hc=>?_,a,b,rfl,ha,hb⟩;rcases aZ.1 hc with hc | hc
  .exact oa c hc
  .exact ob c hc
theorem CJ{T:Ty}{k:Nat}:∀{n:Nat} {cs:List Value},cs.length=n*k->(∀i,i<n->Nb w T ((cs.drop (i*k)).take k)) ->
   ∃xs:List (List D),bA (G0 w) xs.flatten cs/\(∀c∈cs,c.oneCell'=true)/\xs.length=n/\∀x∈xs,x.length=k/\T.has x
 |0,cs,hl,_=>by
  have:cs=[]:=by simpa using hl
  subst this;exact⟨[],.nil,by simp,rfl,by simp⟩
 |n+1,cs,hl,h=>by
  obtain⟨a,ra,oa,ha⟩:=h 0 (by omega);simp only[Nat.zero_mul,aK]at ra oa;have hk:k<=cs.length:=by rw[hl,dH];omega
  obtain⟨xs,rx,ox,hx,hh⟩:=CJ (T:=T) (k:=k) (n:=n) (cs:=cs.drop k) (by simp[hl,dH]) (λi hi=>by
   have:=h (i+1) (by omega);rw[eK];rwa[show(i+1)*k=k+i*k by rw[dH];omega]at this)
  refine⟨a::xs,?_,?_,by simp[hx],?_⟩
  .have:=ra.append rx;rwa[List.take_append_drop]at this
  .intro c hc;rw[<- List.take_append_drop k cs]at hc;rcases aZ.1 hc with hc | hc
   .exact oa c hc
   .exact ox c hc
  .intro x hx';rcases bw.1 hx' with rfl | hx'
   .exact⟨by rw[ra.length];simp;omega,ha⟩
   .exact hh x hx'
theorem Qz(a:Addr)(m n:Nat):(a.add m).add n=a.add (m+n):=by
 obtain⟨b,o,s⟩:=a;simp only[Addr.add];by_cases hm:m=0<;>by_cases hn:n=0<;>simp[hm,hn,dz]
theorem acF(b o n:Nat):(⟨b,o,none⟩:Addr).add n=⟨b,o+n,none⟩:=by
 simp only[Addr.add];split<;>simp_all
theorem cells?_some{a:Addr}{n:Nat}{vs:List Value}(h:w.cells? base a n=some vs):vs.length=n/\∀i,i<n->w.cell? (a.add i)=vs[i]?:=by
 simp only[World.cells?]at h;split at h
 case isFalse=>cases h
 obtain⟨h1,h2⟩:=mapM_some h;refine⟨by simpa using h1,λi hi=>h2 i i (by simp[List.getElem?_range,hi])⟩
theorem opens:∀{m:Nat} {t:TypeId} {T:Ty} {fuel:Nat} {cs:List Value} {x:DataW H×List MemPlace},Li P m t=some T->DataW.trod enc P w base spare held fuel t cs=some x->Nb w T cs
 |0,_,_,_,_,_,h,_=>by simp[Li]at h
 |m+1,t,T,fuel,cs,x,h,hd=>by
  simp only[Li]at h;split at h
  .rename_i ht;cases h;obtain⟨b,rfl,_⟩:=DataW.trod_bool ht hd;exact⟨[.bool b],.cons _ _ _ _ (.bool b) .nil,by simp[Value.oneCell'],b,rfl⟩
  .rename_i k ht;cases h;obtain⟨n,rfl,_,hw⟩:=DataW.trod_int ht hd;exact⟨[.int k n],.cons _ _ _ _ (.int k n) .nil,by simp[Value.oneCell'],n,rfl,hw⟩
  .rename_i ht;cases h;obtain⟨s,rfl,_,hs⟩:=DataW.trod_string ht hd;exact⟨[.str s.data.toList],.cons _ _ _ _ (.str s) .nil,by simp[Value.oneCell'],_,rfl,by simpa using hs⟩
  .rename_i e ht;split at h
   case isFalse=>cases h
   rename_i hw;simp only[ab]at h;obtain⟨E,hE,rfl⟩:=h;rcases DataW.trod_slice ht hd with⟨rfl,_⟩ | ⟨a,len,cap,elems,rest,n,_,rfl,_,_,hl,hm,hel,he,_,_⟩
   .exact⟨[.aG 0 []],.cons _ _ _ _ .yp .nil,by simp[Value.oneCell'],[],rfl,by simp,by simp⟩
   .have hget:∀i,i<len->∃vs y,w.cells? base (a.add (i*P.cellsOf e)) (P.cellsOf e)=some vs/\DataW.trod enc P w base spare held n e vs=some y:=by
     intro i hi;have:=he i hi;rw[aL (by omega)]at this;simp only[af]at this;obtain⟨vs,h1,h2⟩:=this;exact⟨vs,_,h1,h2⟩
    have hcell:∀j,j<len*P.cellsOf e->∃v,w.cell? (a.add j)=some v:=by
     intro j hj;have hi:j / P.cellsOf e<len:=Nat.div_lt_of_lt_mul (by rwa[Nat.mul_comm]);obtain⟨vs,y,h1,_⟩:=hget _ hi;obtain⟨h3,h4⟩:=cells?_some h1;have:=h4 (j%P.cellsOf e) (Nat.mod_lt _ hw);rw[show(a.add (j / P.cellsOf e*P.cellsOf e)).add (j%P.cellsOf e)=a.add j by
      rw[Qz,Nat.div_add_mod']]at this
     rw[aL (by rw[h3];exact Nat.mod_lt _ hw)]at this;exact⟨_,this⟩
    let vs:List Value:=(List.range (len*P.cellsOf e)).map λj=>(w.cell? (a.add j)).getD Go.undef
    have hvl:vs.length=len*P.cellsOf e:=by simp[vs]
    have hvg:∀j,j<len*P.cellsOf e->w.cell? (a.add j)=vs[j]?:=by
     intro j hj;obtain⟨v,hv⟩:=hcell j hj;simp[vs,List.getElem?_range,hj,hv]
    obtain⟨xs,rx,ox,hx,hh⟩:=CJ (w:=w) (T:=E) (k:=P.cellsOf e) (n:=len) (cs:=vs) hvl (λi hi=>by
     obtain⟨us,y,h1,h2⟩:=hget i hi;obtain⟨h3,h4⟩:=cells?_some h1;have:(vs.drop (i*P.cellsOf e)).take (P.cellsOf e)=us:=by
      apply dG;intro j;have hlt:(i+1)*P.cellsOf e<=len*P.cellsOf e:=ct _ hi;rw[dH]at hlt;by_cases hj:j<P.cellsOf e
      .rw[List.getElem?_take_of_lt hj,gY,<- hvg _ (by omega),<- h4 j hj];rw[Qz]
      .rw[dF (by simp;omega),dF (by omega)]
     rw[this];exact opens hE h2)
    have hsp:len≠0->a.spot=none:=by
     intro h0;obtain⟨v,hv⟩:=hcell 0 (Nat.mul_pos (by omega) hw);simpa[Addr.add]using World.cell?_spot hv
    refine⟨[.aG xs.length xs.flatten],.cons _ _ _ _ ?_ .nil,by simp[Value.oneCell'],xs,rfl,by omega,hh⟩;rw[hx];refine .aG _ _ a cap vs hl ?_ hsp rx;intro j v hj;have hlt:j<vs.length:=(aw.1 hj).1;have h0:len≠0:=by rintro rfl;simp at hvl;simp[hvl]at hlt
    refine LI.2 ⟨?_,ox v (ai hj)⟩;have:=hvg j (by omega);rw[hj]at this;have hs:=hsp h0;obtain⟨b,o,s⟩:=a;dsimp only at hs;subst hs;rwa[acF]at this
  .rename_i fs ht;simp only[af]at h;obtain⟨Ts,hT,h2⟩:=h;split at h2
   case isFalse=>cases h2
   rename_i hsz;cases h2;obtain⟨xs,n,_,_,hl,hlen,hf⟩:=DataW.trod_struct ht hd;have:=DA (w:=w) (cs:=cs) (P:=P) (r:=λt cs=>∃y,DataW.trod enc P w base spare held n t cs=some y) (f:=Li P m) (λt T cs h1 ⟨y,h2⟩ _=>opens h1 h2) hT (by omega) (λi x hx=>by
    have h3:=hf i x (by simpa using hx);rw[aL (by rw[hlen];have:=(aw.1 hx).1;simpa using this)]at h3;exact⟨_,h3⟩)
   simpa[Nb,Ty.has]using this
  .rename_i n e ht;simp only[af]at h;obtain⟨E,hE,h2⟩:=h;split at h2
   case isFalse=>cases h2
   rename_i hsz;cases h2;obtain⟨xs,k,_,_,hl,hlen,hf⟩:=DataW.trod_array ht hd;obtain⟨ys,ry,oy,hy,hh⟩:=CJ (w:=w) (T:=E) (k:=E.size) (n:=n) (cs:=cs) (by omega) (λi hi=>by
    have h3:=hf i hi;rw[aL (by omega),hsz.1]at h3;exact opens hE h3)
   exact⟨_,ry,oy,ys,rfl,hy,hh⟩
  .cases h
theorem Dz{m:Nat}{t:TypeId}{T:Ty}{r:Reach}{b0:Nat}{v:Value}{d:DataW H}{ps:List MemPlace}(h:Li P m t=some T)(hval:Value.okWide P w r b0 t v)
  (hd:DataW.Trod enc P w base spare held t v d ps):∃x,bB (G0 w) x v/\T.OX x:=by
 obtain⟨fuel,hf⟩:=hd;have ho:=opens h hf;obtain⟨ds,hr,h1,hh⟩:=ho;cases m with
 |zero=>simp[Li]at h
 |succ m =>
 simp only[Li]at h;split at h
 .rename_i ht;cases h;obtain⟨b,rfl⟩:=okWide_bool ht hval;obtain⟨b',rfl⟩:=hh;simp only[Value.cells]at hr;cases hr with | cons _ _ _ _ h3 h4=>exact⟨_,h3,_,rfl⟩
 .rename_i k ht;cases h;obtain⟨n,rfl⟩:=okWide_int ht hval;obtain⟨n',rfl,hw⟩:=hh;simp only[Value.cells]at hr;cases hr with | cons _ _ _ _ h3 h4=>exact⟨_,h3,_,rfl,hw⟩
 .rename_i ht;cases h;obtain⟨s,rfl⟩:=okWide_string ht hval;obtain⟨s',rfl,hs⟩:=hh;simp only[Value.cells]at hr;cases hr with | cons _ _ _ _ h3 h4=>exact⟨_,h3,_,rfl,hs⟩
 .rename_i e ht;split at h
  case isFalse=>cases h
  simp only[ab]at h;obtain⟨E,hE,rfl⟩:=h;obtain⟨a,l,c,rfl⟩:=okWide_slice ht hval;obtain⟨xs,rfl,hs⟩:=hh;simp only[Value.cells]at hr;cases hr with | cons _ _ _ _ h3 h4=>exact⟨_,h3,xs,rfl,hs⟩
 .rename_i fs ht;simp only[af]at h;obtain⟨Ts,hT,h2⟩:=h;split at h2
  case isFalse=>cases h2
  cases h2;obtain⟨cs,rfl,_⟩:=okWide_struct ht hval;exact⟨.agg ds,.agg _ _ hr h1,ds,rfl,hh⟩
 .rename_i n e ht;simp only[af]at h;obtain⟨E,hE,h2⟩:=h;split at h2
  case isFalse=>cases h2
  cases h2;simp only[Value.okWide,ht]at hval;obtain⟨cs,rfl,_⟩:=hval;exact⟨.agg ds,.agg _ _ hr h1,ds,rfl,hh⟩
 .cases h
end
end Go.az
