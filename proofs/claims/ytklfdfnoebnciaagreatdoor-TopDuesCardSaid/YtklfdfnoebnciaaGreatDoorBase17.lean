import Derived.Test.YtklfdfnoebnciaaGreatDoorBase16
import Derived.Shelf.Strings.BuilderK
set_option linter.all false
namespace Go.az
open Go
open Go.RowKit Go.Shelf Go.Proofs
structure Y5(T e:TypeId)(b:Nat)(v:Value)(bs:List UInt8)(w:World):Prop where
 cT:∃p,w.heap[b]?=some (.cells #[p,v] T (0,0))/\(p=.pointer none\/p=.pointer (some ⟨b,0,none⟩))
 own:w.ownsRowF 0 e 1 v bs.length (bs.map λx => .int .u8 x.toNat)
 ne:v.ownBlock≠some b
structure adB(w w':World)(b:Nat)(c:Option Nat):Prop where
 os:w'.os=w.os
 tape:w'.tape=w.tape
 output:w'.output=w.output
 size:w.heap.size<=w'.heap.size
 cT:∀k,k<w.heap.size->k≠b->c≠some k->w'.heap[k]?=w.heap[k]?
section
variable {P:Program} {ρ:Ren}
end
section
variable {P:Program} {CR:eJ} {f:Nat} {J:SK}
theorem abQ{g:G}{w:World}{base l i T e:Nat}{bs:List UInt8}{x:Value}(hi:Inv CR base g J w)(hc:cells? J l i 2=some [.int .i64 T,.int .i64 e,.str bs])(hx:bB g (.kJ l i) x):
  ∃b v,x=.pointer (some ⟨b,0,none⟩)/\g.loc l i=some (.ob b v.ownBlock)/\Y5 T e b v bs w:=by
 have hblk:dn J l i=some (.cells 2 [.int .i64 T,.int .i64 e,.str bs]):=by
  unfold cells? at hc;split at hc
  .rename_i h;split at hc
   .rename_i hv;subst hv;cases hc;exact h
   .cases hc
  .cases hc
 have key:∀L,g.loc l i=some L->E3 CR g w (.cells 2 [.int .i64 T,.int .i64 e,.str bs]) L:=λL hL=>by
  obtain⟨b1,h1,h2⟩:=hi.vQ l i L hL;rw[hblk]at h1;cases h1;exact h2
 cases hx with
 |kJ _ _ b hL=>exact(key _ hL).elim
 |NF _ _ b hL=>have h:=(key _ hL).1;cases h
 |Rf _ _ b L hL hd =>
  rcases hd with rfl | rfl
  .have h:=(key _ hL).1;cases h
  .exact(key _ hL).elim
 |Oz _ _ b L hL hd =>
  rcases hd with⟨c,rfl⟩ | rfl
  .obtain⟨_,T',e',bs',p,s,h1,h2,h3,h4,h5,h6⟩:=key _ hL;simp only[gn,D.int.injEq,D.str.injEq,and_true,true_and]at h1;obtain⟨hT,he,rfl⟩:=h1;have hT:T=T':=by omega
   have he:e=e':=by omega
   subst hT he;subst h5;exact⟨b,s,rfl,hL,⟨p,h2,h3⟩,h4,h6⟩
  .exact(key _ hL).elim
end
end Go.az
