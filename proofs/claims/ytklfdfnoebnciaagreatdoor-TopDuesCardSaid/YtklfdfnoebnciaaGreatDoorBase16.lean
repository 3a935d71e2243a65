import Derived.Test.YtklfdfnoebnciaaGreatDoorBase13
import Derived.Below
import Derived.Lib.AtoiAllMem
import Derived.Lib.SplitLaws
import Derived.Lib.Join
import Derived.Lib.LaidTab
set_option linter.all false
namespace Go.az
open Go
open Go.RowKit
section
variable {P:Program} {CR:eJ} {f:Nat} {args:List D} {J:SK} {d:D}
theorem wj.below(h0:∃F c,P.funcs[f]?=some F/\F.name ≠ "runtime.NumGoroutine" /\ F.body=some c)
  (h:∀base g w vs,Inv CR base g J w->bA g args vs.toList->Calls P f vs w λe w'=>∃v,e=.returned v/\Below w.heap.size w w'/\bB g d v):wj P CR f args J d J:=by
 refine⟨h0,λbase g w vs hi hl hp hr=>⟨⟨rfl,λh=>h⟩,(h base g w vs hi hr).mono ?_⟩⟩;rintro e w' ⟨v,rfl,hb,hv⟩;refine⟨v,g,rfl,⟨g.le_refl,hb.os,hb.tape,hb.output,hb.size,λb hb' _=>hb.block b hb',λ_ h => .inl h,λ_ _ _ h => .inl h⟩,hi.Fw (λb hb' _=>hb.block b hb') hb.size,hv⟩
theorem I3:∀(k u:Nat),u<10^k->0<k->QO k u=Lib.decDigits u
 |0,_,_,h=>by omega
 |k+1,u,h,_=>by
  unfold QO;by_cases h1:u<10
  .rw[if_pos h1,Lib.decDigits_one h1]
  .rw[if_neg h1,Lib.decDigits,dif_neg h1];have hk:0<k:=by
    rcases Nat.eq_zero_or_pos k with rfl | h2
    .simp at h;omega
    .exact h2
   rw[I3 k (u / 10) (by rw[Nat.pow_succ]at h;omega) hk]
theorem Re{n:Int}(h : -9223372036854775808<=n/\n<=9223372036854775807):H7 n=Lib.itoa n:=by
 unfold H7 Lib.itoa;rw[I3 20 n.natAbs (by simp only[Nat.reducePow];omega) (by omega),I3 20 n.toNat (by simp only[Nat.reducePow];omega) (by omega)]
theorem Inv.b8{base:Nat}{g:G}{w:World}(hi:Inv (ix P) base g J w){b:Nat}(hb:P.globalNamed "internal/strconv.uint64pow10" = some b):Lib.TabIs P w "internal/strconv.uint64pow10" .u64 Lib.pow10Tab:=by
 obtain⟨_,o,ho,t,fz,rfl⟩:=hi.Jb b Wh (.inr (.inr (.inl ⟨hb,rfl⟩)));simp only[Lib.TabIs,World.var?,hb,Option.bind_some,ho]
theorem Inv.err{base:Nat}{g:G}{w:World}(hi:Inv (ix P) base g J w){b:Nat}(hb:P.globalNamed "strconv.ErrSyntax" = some b\/P.globalNamed "strconv.ErrRange" = some b):
  ∃ev,w.cell? ⟨b,0,none⟩=some ev/\(ev=.nilIface\/∃te pe,ev=.iface te pe):=by
 obtain⟨_,o,ho,c,t,fz,v,rfl,h1,h2⟩:=hi.Jb b Tt (by
  rcases hb with h | h
  .exact .inl ⟨h,rfl⟩
  .exact .inr (.inl ⟨h,rfl⟩))
 exact⟨v,by simp[World.cell?,ho,h1],h2⟩
theorem Inv.max{base:Nat}{g:G}{w:World}(hi:Inv (ix P) base g J w){b:Nat}(hb:P.globalNamed "internal/bytealg.MaxLen" = some b):∃m,w.cell? ⟨b,0,none⟩=some (.int .i64 m):=by
 obtain⟨_,o,ho,c,t,fz,m,rfl,h1⟩:=hi.Jb b Wg (.inr (.inr (.inr ⟨hb,rfl⟩)));exact⟨m,by simp[World.cell?,ho,h1]⟩
theorem NT{g:G}{a:D}{vs:Array Value}(h:bA g [a] vs.toList):∃x,vs = #[x]/\bB g a x:=by
 obtain⟨vs⟩:=vs;cases h with | cons _ x _ r h1 h2=>cases h2;exact⟨x,rfl,h1⟩
theorem Un{g:G}{a b:D}{vs:Array Value}(h:bA g [a,b] vs.toList):∃x y,vs = #[x,y]/\bB g a x/\bB g b y:=by
 obtain⟨vs⟩:=vs;cases h with | cons _ x _ r h1 h2=>cases h2 with | cons _ y _ r h2 h3=>cases h3;exact⟨x,y,rfl,h1,h2⟩
theorem Jt{g:G}{s:List UInt8}{x:Value}(h:bB g (.str s) x):∃b:ByteArray,x=.string b/\s=b.data.toList:=by
 cases h with | str b=>exact⟨b,rfl,rfl⟩
theorem Um{g:G}{k:IntKind}{n:Int}{x:Value}(h:bB g (.int k n) x):x=.int k n:=by cases h;rfl
theorem ZZ{pb:Nat}(hn:P.globalNamed "internal/strconv.uint64pow10" = some pb)(h0:∃F c,P.funcs[f]?=some F/\F.name ≠ "runtime.NumGoroutine" /\ F.body=some c)
  (h:∀(n:Int) (w:World),-9223372036854775808<=n->n<=9223372036854775807->Lib.TabIs P w "internal/strconv.uint64pow10" .u64 Lib.pow10Tab ->
   Calls P f #[.int .i64 n] w λe w'=>e=.returned (.string ⟨(Lib.itoa n).toArray⟩)/\Below w.heap.size w w'):E2 P (ix P) 3 f:=by
 intro args J r hr;simp only[Jg,Nat.reduceMod]at hr;split at hr<;>try cases hr
 all_goals try omega
 rename_i n _;simp only[aC,ad]at hr;obtain⟨hb,rfl⟩:=hr;refine⟨_,_,rfl,wj.below h0 λbase g w vs hi hl=>?_⟩;obtain⟨x,rfl,hx⟩:=NT hl;rw[Um hx];refine(h n w hb.1 hb.2 (hi.b8 hn)).mono ?_;rintro e w' ⟨rfl,hw⟩;refine⟨_,rfl,hw,?_⟩;rw[Re hb];exact .str ⟨(Lib.itoa n).toArray⟩
theorem Zj{t bs br:Nat}(hs:P.globalNamed "strconv.ErrSyntax" = some bs)(hr':P.globalNamed "strconv.ErrRange" = some br)(h0:∃F c,P.funcs[f]?=some F/\F.name ≠ "runtime.NumGoroutine" /\ F.body=some c)
  (h1:∀(s:ByteArray) (v:Int) (w:World),s.size<=9223372036854775806->Lib.atoiAll s.data.toList=.ok v ->
   Calls P f #[.string s] w λe w'=>e=.returned (.tuple #[.int .i64 v,.nilIface])/\Below w.heap.size w w')
  (h2:∀(s:ByteArray) (ev:Value) (w:World),s.size<=281474976710656->Lib.atoiAll s.data.toList=Lib.NumEnd.syntax->w.cell? ⟨bs,0,none⟩=some ev->(ev=.nilIface\/∃te pe,ev=.iface te pe) ->
   Calls P f #[.string s] w λe w'=>∃p,e=.returned (.tuple #[.int .i64 0,.iface t p])/\Below w.heap.size w w')
  (h3:∀(s:ByteArray) (ev:Value) (w:World),s.size<=281474976710656->Lib.atoiAll s.data.toList=.range->w.cell? ⟨br,0,none⟩=some ev->(ev=.nilIface\/∃te pe,ev=.iface te pe) ->
   Calls P f #[.string s] w λe w'=>∃p,e=.returned (.tuple #[.int .i64 (Lib.atoiSat s.data.toList),.iface t p])/\Below w.heap.size w w'):E2 P (ix P) (4+16*t) f:=by
 intro args J r hr;have e1:(4+16*t)%16=4:=by omega
 have e2:(4+16*t) / 16=t:=by omega
 simp only[Jg,e1,e2]at hr;split at hr<;>try cases hr
 all_goals try omega
 rename_i s _;simp only[aC,ad]at hr;obtain⟨hb,rfl⟩:=hr;refine⟨_,_,rfl,wj.below h0 λbase g w vs hi hl=>?_⟩;obtain⟨x,rfl,hx⟩:=NT hl;obtain⟨b,rfl,rfl⟩:=Jt hx;have hsz:b.size<=1000000:=by simpa using hb
 rcases ha:Lib.atoiAll b.data.toList with v | _ | _
 .refine(h1 b v w (by omega) ha).mono ?_;rintro e w' ⟨rfl,hw⟩;refine⟨_,rfl,hw,?_⟩;simp only[u6,ha,if_true];exact .dj _ _ (.cons _ _ _ _ (.int _ _) (.cons _ _ _ _ .oD .nil))
 .obtain⟨ev,hv,hev⟩:=hi.err (.inl hs);refine(h2 b ev w (by omega) ha hv hev).mono ?_;rintro e w' ⟨p,rfl,hw⟩;refine⟨_,rfl,hw,?_⟩;simp only[u6,ha];exact .dj _ _ (.cons _ _ _ _ (.int _ _) (.cons _ _ _ _ (.tK _ _ _ (.undef _)) .nil))
 .obtain⟨ev,hv,hev⟩:=hi.err (.inr hr');refine(h3 b ev w (by omega) ha hv hev).mono ?_;rintro e w' ⟨p,rfl,hw⟩;refine⟨_,rfl,hw,?_⟩;simp only[u6,ha];exact .dj _ _ (.cons _ _ _ _ (.int _ _) (.cons _ _ _ _ (.tK _ _ _ (.undef _)) .nil))
theorem Ew(b:UInt8):∀(s:List UInt8) (k:Nat),s.count b=k->Lib.splitK [b] 0 k s=fa b s
 |[],k,h=>by
  cases k with
  |zero=>rfl
  |succ k=>simp at h
 |c::r,k,h=>by
  by_cases hc:c=b
  .subst hc;simp only[List.count_cons_self]at h;obtain⟨k,rfl⟩:∃k',k=k'+1:=⟨k-1,by omega⟩;have ih:=Ew c r k (by omega);have hi:Lib.index (c::r) [c]=0:=by simp[Lib.index,List.isPrefixOf]
   simp only[Lib.splitK,hi,fa,if_true];simp[ih]
  .have hcb:(b == c)=false:=by simpa using λh=>hc h.symm
   have hn:r.count b=k:=by rw[List.count_cons_of_ne hc]at h;exact h
   have ih:=Ew b r k hn;have hi:Lib.index (c::r) [b]=if Lib.index r [b] == -1 then -1 else Lib.index r [b]+1:=by simp[Lib.index,List.isPrefixOf,hcb]
   simp only[fa,if_neg hc,<- ih];cases k with
   |zero=>rfl
   |succ k =>
    have hge:=Lib.index_ge r [b];simp only[Lib.splitK,hi];by_cases hm:Lib.index r [b] = -1
    .simp[hm]
    .have h1:¬(Lib.index r [b] == -1)=true:=by simpa using hm
     have h2:¬(Lib.index r [b]+1 == -1)=true:=by simp;omega
     obtain⟨i,hi2⟩:∃i:Nat,Lib.index r [b]=i:=⟨(Lib.index r [b]).toNat,by omega⟩;simp only[h1,if_false,h2,hi2];have e1:((i:Int)+1).toNat=i+1:=by omega
     simp[e1,dz];intro hh;omega
theorem Lc{g:G}:∀l:List ByteArray,bA g ((l.map (·.data.toList)).map .str) (l.map Value.string)
 |[] => .nil
 |s::l => .cons _ _ _ _ (.str s) (Lc l)
theorem X6{mb:Nat}{el:TypeId}(hn:P.globalNamed "internal/bytealg.MaxLen" = some mb)(h0:∃F c,P.funcs[f]?=some F/\F.name ≠ "runtime.NumGoroutine" /\ F.body=some c)
  (h:∀(s sep:ByteArray) (m:Int) (w:World),s.size<4294967281->w.cell? ⟨mb,0,none⟩=some (.int .i64 m)->1<=sep.size ->
   Calls P f #[.string s,.string sep] w λe w'=>e=.returned (.slice (some ⟨w.heap.size,0,none⟩) (Lib.countB s sep+1) (Lib.countB s sep+1))/\w'=w.alloc (.cells ((Lib.splitB sep 0 (Lib.countB s sep) s).map Value.string).toArray el)):E2 P (ix P) 6 f:=by
 intro args J r hr;simp only[Jg,Nat.reduceMod]at hr;split at hr<;>try cases hr
 all_goals try omega
 rename_i s b _;simp only[aC,ad]at hr;obtain⟨hb,rfl⟩:=hr;refine⟨_,_,rfl,h0,λbase g w vs hi hl hp hr=>⟨⟨rfl,λh=>h⟩,?_⟩⟩;obtain⟨x,y,rfl,hx,hy⟩:=Un hr;obtain⟨s,rfl,rfl⟩:=Jt hx;obtain⟨sep,rfl,hsep⟩:=Jt hy;have hsz:s.size<=1000000:=by simpa using hb
 have h1:sep.size=1:=by have:=congrArg List.length hsep;simpa using this.symm
 obtain⟨m,hm⟩:=hi.max hn;refine(h s sep m w (by omega) hm (by omega)).mono ?_;rintro e w' ⟨rfl,rfl⟩;have hdata:(Lib.splitB sep 0 (Lib.countB s sep) s).map (·.data.toList)=fa b s.data.toList:=by
  rw[Lib.splitB_data,<- hsep];refine Ew b _ _ ?_;rw[Lib.countB,<- hsep,Lib.count_one]
 have hlen:(fa b s.data.toList).length=Lib.countB s sep+1:=by rw[<- hdata,jk,Lib.splitB_all sep (by omega) 0 _ s rfl]
 have hrl:bA (g.iH w.heap.size ((Lib.splitB sep 0 (Lib.countB s sep) s).map Value.string)) ((fa b s.data.toList).map .str) ((Lib.splitB sep 0 (Lib.countB s sep) s).map Value.string):=by
  rw[<- hdata];exact Lc _
 obtain⟨i2,e2,hrow⟩:=hi.En ((Lib.splitB sep 0 (Lib.countB s sep) s).map Value.string) ((Lib.splitB sep 0 (Lib.countB s sep) s).map Value.string).toArray el (by
  intro j x hx;refine⟨by simpa using hx,?_⟩;have:=ai hx;simp only[bO]at this;obtain⟨z,_,rfl⟩:=this;rfl)
 refine⟨_,_,rfl,e2,i2,?_⟩;rw[hlen];exact .aG _ _ _ _ _ (aH _) hrow (λ_=>rfl) hrl
end
end Go.az
