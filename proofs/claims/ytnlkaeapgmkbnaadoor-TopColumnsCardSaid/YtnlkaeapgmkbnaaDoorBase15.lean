import Derived.Test.YtnlkaeapgmkbnaaDoorBase12
import Derived.Test.YtnlkaeapgmkbnaaDoorBase6
import Derived.Below
import Derived.Lib.AtoiAllMem
import Derived.Lib.SplitLaws
import Derived.Lib.Join
import Derived.Lib.LaidTab
set_option linter.all false
namespace Go.Abs
open Go
open Go.RowKit
section
variable {P:Program} {CR:cm} {f:Nat} {args:List D} {σ:SK} {d:D}
theorem ko.below(h0:∃F c,P.funcs[f]?=some F∧F.name ≠ "runtime.NumGoroutine" ∧ F.body=some c)
  (h:∀base g w vs,Inv CR base g σ w→aH g args vs.toList→Calls P f vs w fun e w'=>∃v,e=.returned v∧Below w.heap.size w w'∧aI g d v):ko P CR f args σ d σ:=by
 refine⟨h0,fun base g w vs hi hl hp hr=>⟨⟨rfl,fun h=>h⟩,(h base g w vs hi hr).mono ?_⟩⟩;rintro e w' ⟨v,rfl,hb,hv⟩;refine⟨v,g,rfl,⟨g.le_refl,hb.os,hb.tape,hb.output,hb.size,fun b hb' _=>hb.block b hb',fun _ h => .inl h,fun _ _ _ h => .inl h⟩,hi.oT (fun b hb' _=>hb.block b hb') hb.size,hv⟩
theorem r9:∀(k u:Nat),u<10^k→0<k→xc k u=Lib.decDigits u
 |0,_,_,h=>by omega
 |k+1,u,h,_=>by
  unfold xc;by_cases h1:u<10
  ·rw[if_pos h1,Lib.decDigits_one h1]
  ·rw[if_neg h1,Lib.decDigits,dif_neg h1];have hk:0<k:=by
    rcases Nat.eq_zero_or_pos k with rfl | h2
    ·simp at h;omega
    ·exact h2
   rw[r9 k (u / 10) (by rw[Nat.pow_succ]at h;omega) hk]
theorem yh{n:Int}(h : -9223372036854775808≤n∧n≤9223372036854775807):pJ n=Lib.itoa n:=by
 unfold pJ Lib.itoa;rw[r9 20 n.natAbs (by simp only[Nat.reducePow];omega) (by omega),r9 20 n.toNat (by simp only[Nat.reducePow];omega) (by omega)]
theorem Inv.HX{base:Nat}{g:G}{w:World}(hi:Inv (dO P) base g σ w){b:Nat}(hb:P.globalNamed "internal/strconv.uint64pow10" = some b):Lib.TabIs P w "internal/strconv.uint64pow10" .u64 Lib.pow10Tab:=by
 obtain⟨_,o,ho,t,fz,rfl⟩:=hi.sT b EZ (.inr (.inr (.inl ⟨hb,rfl⟩)));simp only[Lib.TabIs,World.var?,hb,Option.bind_some,ho]
theorem Inv.max{base:Nat}{g:G}{w:World}(hi:Inv (dO P) base g σ w){b:Nat}(hb:P.globalNamed "internal/bytealg.MaxLen" = some b):∃m,w.cell? ⟨b,0,none⟩=some (.int .i64 m):=by
 obtain⟨_,o,ho,c,t,fz,m,rfl,h1⟩:=hi.sT b H9 (.inr (.inr (.inr ⟨hb,rfl⟩)));exact⟨m,by simp[World.cell?,ho,h1]⟩
theorem Ac{g:G}{a:D}{vs:Array Value}(h:aH g [a] vs.toList):∃x,vs = #[x]∧aI g a x:=by
 obtain⟨vs⟩:=vs;cases h with | cons _ x _ r h1 h2=>cases h2;exact⟨x,rfl,h1⟩
theorem Ab{g:G}{k:IntKind}{n:Int}{x:Value}(h:aI g (.int k n) x):x=.int k n:=by cases h;rfl
theorem Lp{pb:Nat}(hn:P.globalNamed "internal/strconv.uint64pow10" = some pb)(h0:∃F c,P.funcs[f]?=some F∧F.name ≠ "runtime.NumGoroutine" ∧ F.body=some c)
  (h:∀(n:Int) (w:World),-9223372036854775808≤n→n≤9223372036854775807→Lib.TabIs P w "internal/strconv.uint64pow10" .u64 Lib.pow10Tab →
   Calls P f #[.int .i64 n] w fun e w'=>e=.returned (.string ⟨(Lib.itoa n).toArray⟩)∧Below w.heap.size w w'):vN P (dO P) 3 f:=by
 intro args σ r hr;simp only[yw,Nat.reduceMod]at hr;split at hr<;>try cases hr
 all_goals try omega
 rename_i n _;simp only[an,ad]at hr;obtain⟨hb,rfl⟩:=hr;refine⟨_,_,rfl,ko.below h0 fun base g w vs hi hl=>?_⟩;obtain⟨x,rfl,hx⟩:=Ac hl;rw[Ab hx];refine(h n w hb.1 hb.2 (hi.HX hn)).mono ?_;rintro e w' ⟨rfl,hw⟩;refine⟨_,rfl,hw,?_⟩;rw[yh hb];exact .str ⟨(Lib.itoa n).toArray⟩
end
end Go.Abs
