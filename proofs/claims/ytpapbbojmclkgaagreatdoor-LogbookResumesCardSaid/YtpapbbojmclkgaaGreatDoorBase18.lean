import Derived.Test.YtpapbbojmclkgaaGreatDoorBase16
import Derived.Test.YtpapbbojmclkgaaGreatDoorBase17
import Derived.Shelf.Slices.Delete
import Derived.Shelf.Strconv.Itoa3
import Derived.Shelf.Strconv.AtoiAll
import Derived.Shelf.Strings.OnBuilder
import Derived.Shelf.Strings.Split
import Derived.Lib.SmallJoins
set_option linter.all false
namespace Go.aw
open Go
open Go.RowKit Go.Shelf Go.Sort Go.Proofs
section
variable {P:Program} {ρ:Ren} {k:Nat}
theorem Zx(L:LaysM.n171 P ρ)(hk:ρ.f 171=k)(h0:∃F c,P.funcs[k]?=some F/\F.name ≠ "runtime.NumGoroutine" /\ F.body=some c):yn P (iH P) 3 k:=by
 subst hk;refine aiM L.m17 h0 λn w h1 h2 ht=>(Any.strconv_Itoa L n h1 h2 w ht).mono ?_
 rintro e w' ⟨he,q,os,rfl⟩;exact⟨he,rfl,rfl,rfl,by simp[grow],λj hj=>by simp only[grow];rw[Array.getElem?_append_left (by simpa using hj)];rfl⟩
theorem Zv(L:LaysC.n172 P ρ)(hk:ρ.f 172=k){t:Nat}(ht:ρ.t 168=t)(h0:∃F c,P.funcs[k]?=some F/\F.name ≠ "runtime.NumGoroutine" /\ F.body=some c):yn P (iH P) (4+16*t) k:=by
 subst hk ht;refine ah0 L.m15 L.m16 h0 (λs v w hs h=>(Any.strconv_Atoi_ok L s hs v h w).mono ?_) (λs ev w hs h hv he=>(Any.strconv_Atoi_syntax L s hs h ev w hv he).mono ?_) (λs ev w hs h hv he=>(Any.strconv_Atoi_range L s hs h ev w hv he).mono ?_)
 .rintro e w' ⟨he,rfl | ⟨s,rfl⟩⟩
  .exact⟨he,Below.refl _ _⟩
  .exact⟨he,Joins.below_bytesWorld _ _ _ _ (aO _)⟩
 .rintro e w' ⟨N,he,_,_,hb⟩;exact⟨_,he,hb⟩
 .rintro e w' ⟨N,he,_,_,hb⟩;exact⟨_,he,hb⟩
theorem Wn(L:Lays.n146 P ρ)(hk:ρ.f 146=k){m:Nat}(hm:P.globalNamed "internal/bytealg.MaxLen" = some m)(hm':ρ.g 1=m)(hi:(P.info? (ρ.t 9)).map (λi=>(i.zero,i.size,i.bytes))=some (some (.string ByteArray.empty),1,16))
  (h0:∃F c,P.funcs[k]?=some F/\F.name ≠ "runtime.NumGoroutine" /\ F.body=some c):yn P (iH P) 6 k:=by
 subst hk hm';exact agL hm h0 λs sep m w h1 h2 h3=>Any.strings_Split L hi s sep m w h1 h2 h3
theorem nat_join(L:Lays.n156 P ρ)(X:Builder.Extra P ρ)(hk:ρ.f 156=k)(h0:∃F c,P.funcs[k]?=some F/\F.name ≠ "runtime.NumGoroutine" /\ F.body=some c):yn P (iH P) 5 k:=by
 subst hk;exact aiN h0 (λa c sep w=>Any.strings_Join_none L X a c sep w) (λbk o c xs sep w h1 h2 h3 h4 h5=>Any.strings_Join L X bk o c xs sep w h1 h2 h3 h4 h5)
theorem Zy{CR:fw}(L:Lays.n166 P ρ)(X:Builder.Extra P ρ)(hk:ρ.f 166=k){T e:Nat}(hT:ρ.t 72=T)(he:ρ.t 5=e)(hlt:T<65536)(h0:∃F c,P.funcs[k]?=some F/\F.name ≠ "runtime.NumGoroutine" /\ F.body=some c):
  yn P CR (7+16*(T+65536*e)) k:=by
 subst hk hT he;exact ajX hlt h0 λb v bs s w h1 h2=>al0 L X b v bs s w h1 h2
theorem Zw{CR:fw}(L:Lays.n169 P ρ)(X:Builder.Extra P ρ)(hk:ρ.f 169=k){T e:Nat}(hT:ρ.t 72=T)(he:ρ.t 5=e)(hlt:T<65536)(h0:∃F c,P.funcs[k]?=some F/\F.name ≠ "runtime.NumGoroutine" /\ F.body=some c):
  yn P CR (8+16*(T+65536*e)) k:=by
 subst hk hT he;exact aij hlt h0 λb v bs w h1 h2=>alC L X b v bs w h1 h2
theorem acm{CR:fw}(L:Lays2.n24 P ρ)(hk:ρ.f 24=k)(h0:∃F c,P.funcs[k]?=some F/\F.name ≠ "runtime.NumGoroutine" /\ F.body=some c):yn P CR 9 k:=by
 subst hk;refine alF CR ⟨h0,λb o cap i j xs w c el hb hlen hcell hbig hcap hm hij hj=>?_⟩;have hlt:b<w.heap.size:=(du.1 hb).1;have hH:Holds encStr w b o xs.toArray:=by
  intro q hq;have hq':q<xs.length:=by simpa using hq
  have h1:=hcell q xs[q] (by simp[hq']);refine⟨?_,by simp[World.frozen?,hb]⟩;have h2:xs.toArray[q]! = xs[q]:=by simp[hq']
  rw[h2];simp[World.cell?,hb,h1]
 refine(Any.slices_Delete_string L b o cap i j xs w hH hcap hm hij hj).mono ?_;rintro e w' ⟨he,q,rfl⟩;refine⟨he,?_⟩;have hdl:=Jv hij hj;have hmod:∀x,x<w.heap.size->(putRow encStr (Sort.ahead w q) b o (Bs i j xs).toArray).heap[x]?=(if b=x then(w.heap[x]?).map (onCells (putCells encStr o (Bs i j xs).toArray))else w.heap[x]?):=λx hx=>by
  simp only[putRow,mapBlock];rw[eI];rfl
 refine⟨λc1 el1 hb1 hl1=>?_,λx hx hne=>?_,?_,rfl,rfl,rfl⟩
 .have h1:=hmod b hlt;rw[if_pos rfl,hb1]at h1;refine⟨_,h1,by simp[putCells],λj'=>?_⟩;simp only[putCells,Array.getElem?_mapIdx];have hsz:(Bs i j xs).toArray.size=(Bs i j xs).length:=by simp
  rw[hsz];simp only[bK]at hl1 ⊢;by_cases hj:o<=j'/\j'<o+(Bs i j xs).length
  .rw[if_pos hj];have⟨hjc,hjs⟩:j'<c1.size/\j'-o<(Bs i j xs).length:=by omega
   simp[hjc,hj,hjs]
  .rw[if_neg hj];cases c1[j']? with
   |none=>rfl
   |some v=>simp[hj]
 .exact(hmod x hx).trans (if_neg (λh=>hne h.symm))
 .show w.heap.size<=(putRow encStr (Sort.ahead w q) b o (Bs i j xs).toArray).heap.size
  simp[putRow,mapBlock]
