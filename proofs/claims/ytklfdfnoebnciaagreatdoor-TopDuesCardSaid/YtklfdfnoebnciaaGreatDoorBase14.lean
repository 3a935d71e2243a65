import Derived.Test.YtklfdfnoebnciaaGreatDoorBase13
import Derived.Below
set_option linter.all false
namespace Go.az
open Go
open Go.RowKit
def G0(W:World):G:=⟨λ_ _=>none,λb o=>match W.cell? ⟨b,o,none⟩with | some v=>if v.oneCell' then some v else none | none=>none⟩
theorem LI{W:World}{b o:Nat}{v:Value}:(G0 W).oc b o=some v↔W.cell? ⟨b,o,none⟩=some v/\v.oneCell'=true:=by
 simp only[G0];cases h:W.cell? ⟨b,o,none⟩with
 |none=>simp
 |some u =>
  dsimp only;constructor
  .intro hh;split at hh
   .cases hh;exact⟨rfl,by assumption⟩
   .cases hh
  .rintro⟨hh,h1⟩;cases hh;rw[if_pos h1]
theorem V7{W:World}{b:Nat}:¬(G0 W).has b:=by rintro⟨l,i,L,h,_⟩;cases h
theorem V8(CR:eJ)(W:World)(hg:∀b Q,CR.Jb b Q->∃c t v,W.heap[b]?=some (.cells c t (0,0))/\c[0]?=some v/\v.oneCell'=true/\Q (.cells c t (0,0))):Inv CR W.heap.size (G0 W) [[]] W where
 Jb b Q h:=by
  obtain⟨c,t,v,h1,h2,h3,h4⟩:=hg b Q h;exact⟨⟨v,LI.2 ⟨by simpa[World.cell?,h1]using h2,h3⟩⟩,_,h1,h4⟩
 ge:=aH _
 vQ l i L h:=by cases h
 oc b o v h:=LI.1 h
 sep l i L b h:=by cases h
 inj l i L l' i' L' b h:=by cases h
 lo l i L b h:=by cases h
 N8 l i b h:=by
  simp only[dn,eZ]at h;split at h<;>simp at h
theorem Pz{P:Program}{T:zQ}(hT:Wj P T)(hm:P.follows .mixedOrders=true){f:Nat}{args:List D}{J':SK}
  (h:lim T (.call false f args [[]])=some (.val (.bool true) J')) {W:World} {vs:Array Value}
  (hg:∀b Q,V9 P b Q->∃c t v,W.heap[b]?=some (.cells c t (0,0))/\c[0]?=some v/\v.oneCell'=true/\Q (.cells c t (0,0))) (hr:bA (G0 W) args vs.toList):
  Calls P f vs W λe W'=>e=.returned (.bool true)/\Below W.heap.size W W':=by
 obtain⟨_,hcall⟩:=O2 hT hm _ _ h;obtain⟨_,hcalls⟩:=hcall W.heap.size (G0 W) W vs (V8 _ W hg) (by
  intro l i b hb _;simp only[dn,eZ]at hb;split at hb<;>simp at hb) (by simp) hr
 intro cs;obtain⟨e,w',fr,⟨v,g',rfl,he,_,hv⟩,h2,h3,h4⟩:=hcalls cs;have:=hv.od;subst this;exact⟨_,w',fr,⟨rfl,⟨he.os,he.tape,he.output,he.size,λk hk=>he.kept k hk V7⟩⟩,h2,h3,h4⟩
end Go.az
