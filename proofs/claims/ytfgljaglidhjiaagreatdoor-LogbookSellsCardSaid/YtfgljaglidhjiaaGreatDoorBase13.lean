import Derived.Test.YtfgljaglidhjiaaGreatDoorBase12
import Derived.Below
set_option linter.all false
namespace Go.Abs
open Go
open Go.RowKit
def G0(W:World):G:=⟨fun _ _=>none,fun b o=>match W.cell? ⟨b,o,none⟩with | some v=>if v.oneCell' then some v else none | none=>none⟩
theorem Mk{W:World}{b o:Nat}{v:Value}:(G0 W).qq b o=some v↔W.cell? ⟨b,o,none⟩=some v∧v.oneCell'=true:=by
 simp only[G0];cases h:W.cell? ⟨b,o,none⟩with
 |none=>simp
 |some u =>
  dsimp only;constructor
  ·intro hh;split at hh
   ·cases hh;exact⟨rfl,by assumption⟩
   ·cases hh
  ·rintro⟨hh,h1⟩;cases hh;rw[if_pos h1]
theorem amq{W:World}{b:Nat}:¬(G0 W).has b:=by rintro⟨l,i,L,h,_⟩;cases h
theorem amr(CR:fS)(W:World)(hg:∀b Q,CR.J5 b Q→∃c t v,W.heap[b]?=some (.cells c t (0,0))∧c[0]?=some v∧v.oneCell'=true∧Q (.cells c t (0,0))):Inv CR W.heap.size (G0 W) [[]] W where
 J5 b Q h:=by
  obtain⟨c,t,v,h1,h2,h3,h4⟩:=hg b Q h;exact⟨⟨v,Mk.2 ⟨by simpa[World.cell?,h1]using h2,h3⟩⟩,_,h1,h4⟩
 ge:=aJ _
 wz l i L h:=by cases h
 qq b o v h:=Mk.1 h
 sep l i L b h:=by cases h
 inj l i L l' i' L' b h:=by cases h
 lo l i L b h:=by cases h
 RM l i b h:=by
  simp only[ei,gh]at h;split at h<;>simp at h
theorem RL{P:Program}{T:yo}(hT:TOk P T)(hm:P.follows .mixedOrders=true){f:Nat}{args:List D}{σ':SK}
  (h:lim T (.call false f args [[]])=some (.val (.bool true) σ')) {W:World} {vs:Array Value}
  (hg:∀b Q,ams P b Q→∃c t v,W.heap[b]?=some (.cells c t (0,0))∧c[0]?=some v∧v.oneCell'=true∧Q (.cells c t (0,0))) (hr:bC (G0 W) args vs.toList):
  Calls P f vs W fun e W'=>e=.returned (.bool true)∧Below W.heap.size W W':=by
 obtain⟨_,hcall⟩:=Ra hT hm _ _ h;obtain⟨_,hcalls⟩:=hcall W.heap.size (G0 W) W vs (amr _ W hg) (by
  intro l i b hb _;simp only[ei,gh]at hb;split at hb<;>simp at hb) (by simp) hr
 intro cs;obtain⟨e,w',fr,⟨v,g',rfl,he,_,hv⟩,h2,h3,h4⟩:=hcalls cs;have:=hv.o8;subst this;exact⟨_,w',fr,⟨rfl,⟨he.os,he.tape,he.output,he.size,fun k hk=>he.kept k hk amq⟩⟩,h2,h3,h4⟩
end Go.Abs
