import Derived.Test.YtpapbbojmclkgaaGreatDoorBase12
import Derived.Below
set_option linter.all false
namespace Go.aw
open Go
open Go.RowKit
def G0(W:World):G:=⟨λ_ _=>none,λb o=>match W.cell? ⟨b,o,none⟩with | some v=>if v.oneCell' then some v else none | none=>none⟩
theorem Sn{W:World}{b o:Nat}{v:Value}:(G0 W).nB b o=some v↔W.cell? ⟨b,o,none⟩=some v/\v.oneCell'=true:=by
 simp only[G0];cases h:W.cell? ⟨b,o,none⟩with
 |none=>simp
 |some u =>
  dsimp only;constructor
  .intro hh;split at hh
   .cases hh;exact⟨rfl,by assumption⟩
   .cases hh
  .rintro⟨hh,h1⟩;cases hh;rw[if_pos h1]
theorem aeL{W:World}{b:Nat}:¬(G0 W).has b:=by rintro⟨l,i,L,h,_⟩;cases h
theorem aeM(CR:fw)(W:World)(hg:∀b Q,CR.OA b Q->∃c t v,W.heap[b]?=some (.cells c t (0,0))/\c[0]?=some v/\v.oneCell'=true/\Q (.cells c t (0,0))):Inv CR W.heap.size (G0 W) [[]] W where
 OA b Q h:=by
  obtain⟨c,t,v,h1,h2,h3,h4⟩:=hg b Q h;exact⟨⟨v,Sn.2 ⟨by simpa[World.cell?,h1]using h2,h3⟩⟩,_,h1,h4⟩
 ge:=aO _
 yr l i L h:=by cases h
 nB b o v h:=Sn.1 h
 sep l i L b h:=by cases h
 inj l i L l' i' L' b h:=by cases h
 lo l i L b h:=by cases h
 Vh l i b h:=by
  simp only[ef,eK]at h;split at h<;>simp at h
theorem WN{P:Program}{T:CL}(hT:TOk P T)(hm:P.follows .mixedOrders=true){f:Nat}{args:List D}{J':SK}
  (h:di T (.call false f args [[]])=some (.val (.bool true) J')) {W:World} {vs:Array Value}
  (hg:∀b Q,aeN P b Q->∃c t v,W.heap[b]?=some (.cells c t (0,0))/\c[0]?=some v/\v.oneCell'=true/\Q (.cells c t (0,0))) (hr:bS (G0 W) args vs.toList):
  Calls P f vs W λe W'=>e=.returned (.bool true)/\Below W.heap.size W W':=by
 obtain⟨_,hcall⟩:=Wg hT hm _ _ h;obtain⟨_,hcalls⟩:=hcall W.heap.size (G0 W) W vs (aeM _ W hg) (by
  intro l i b hb _;simp only[ef,eK]at hb;split at hb<;>simp at hb) (by simp) hr
 intro cs;obtain⟨e,w',fr,⟨v,g',rfl,he,_,hv⟩,h2,h3,h4⟩:=hcalls cs;have:=hv.nF;subst this;exact⟨_,w',fr,⟨rfl,⟨he.os,he.tape,he.output,he.size,λk hk=>he.kept k hk aeL⟩⟩,h2,h3,h4⟩
