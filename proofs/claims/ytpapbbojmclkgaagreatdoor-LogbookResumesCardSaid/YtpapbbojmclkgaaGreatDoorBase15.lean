import Derived.Test.YtpapbbojmclkgaaGreatDoorBase12
import Derived.Below
import Derived.Lib.AtoiAllMem
import Derived.Lib.SplitLaws
import Derived.Lib.Join
import Derived.Lib.LaidTab
set_option linter.all false
namespace Go.aw
open Go
open Go.RowKit
section
variable {P:Program} {CR:fw} {f:Nat} {args:List D} {J:SK} {d:D}
theorem xc.below(h0:∃F c,P.funcs[f]?=some F/\F.name ≠ "runtime.NumGoroutine" /\ F.body=some c)
  (h:∀base g w vs,Inv CR base g J w->bS g args vs.toList->Calls P f vs w λe w'=>∃v,e=.returned v/\Below w.heap.size w w'/\bW g d v):xc P CR f args J d J:=by
 refine⟨h0,λbase g w vs hi hl hp hr=>⟨⟨rfl,λh=>h⟩,(h base g w vs hi hr).mono ?_⟩⟩;rintro e w' ⟨v,rfl,hb,hv⟩;refine⟨v,g,rfl,⟨g.le_refl,hb.os,hb.tape,hb.output,hb.size,λb hb' _=>hb.block b hb',λ_ h => .inl h,λ_ _ _ h => .inl h⟩,hi.Kj (λb hb' _=>hb.block b hb') hb.size,hv⟩
theorem Oo:∀(k u:Nat),u<10^k->0<k->sV k u=Lib.decDigits u
 |0,_,_,h=>by omega
 |k+1,u,h,_=>by
  unfold sV;by_cases h1:u<10
  .rw[if_pos h1,Lib.decDigits_one h1]
  .rw[if_neg h1,Lib.decDigits,dif_neg h1];have hk:0<k:=by
    rcases Nat.eq_zero_or_pos k with rfl | h2
    .simp at h;omega
    .exact h2
   rw[Oo k (u / 10) (by rw[Nat.pow_succ]at h;omega) hk]
theorem Y9{n:Int}(h : -9223372036854775808<=n/\n<=9223372036854775807):gW n=Lib.itoa n:=by
 unfold gW Lib.itoa;rw[Oo 20 n.natAbs (by simp only[Nat.reducePow];omega) (by omega),Oo 20 n.toNat (by simp only[Nat.reducePow];omega) (by omega)]
theorem Inv.dX{base:Nat}{g:G}{w:World}(hi:Inv (iH P) base g J w){b:Nat}(hb:P.globalNamed "internal/strconv.uint64pow10" = some b):Lib.TabIs P w "internal/strconv.uint64pow10" .u64 Lib.pow10Tab:=by
 obtain⟨_,o,ho,t,fz,rfl⟩:=hi.OA b aeV (.inr (.inr (.inl ⟨hb,rfl⟩)));simp only[Lib.TabIs,World.var?,hb,Option.bind_some,ho]
theorem Inv.err{base:Nat}{g:G}{w:World}(hi:Inv (iH P) base g J w){b:Nat}(hb:P.globalNamed "strconv.ErrSyntax" = some b\/P.globalNamed "strconv.ErrRange" = some b):
  ∃ev,w.cell? ⟨b,0,none⟩=some ev/\(ev=.nilIface\/∃te pe,ev=.iface te pe):=by
 obtain⟨_,o,ho,c,t,fz,v,rfl,h1,h2⟩:=hi.OA b abx (by
  rcases hb with h | h
  .exact .inl ⟨h,rfl⟩
  .exact .inr (.inl ⟨h,rfl⟩))
 exact⟨v,by simp[World.cell?,ho,h1],h2⟩
theorem Inv.max{base:Nat}{g:G}{w:World}(hi:Inv (iH P) base g J w){b:Nat}(hb:P.globalNamed "internal/bytealg.MaxLen" = some b):∃m,w.cell? ⟨b,0,none⟩=some (.int .i64 m):=by
 obtain⟨_,o,ho,c,t,fz,m,rfl,h1⟩:=hi.OA b aeU (.inr (.inr (.inr ⟨hb,rfl⟩)));exact⟨m,by simp[World.cell?,ho,h1]⟩
theorem OZ{g:G}{a:D}{vs:Array Value}(h:bS g [a] vs.toList):∃x,vs = #[x]/\bW g a x:=by
 obtain⟨vs⟩:=vs;cases h with | cons _ x _ r h1 h2=>cases h2;exact⟨x,rfl,h1⟩
theorem O0{g:G}{a b:D}{vs:Array Value}(h:bS g [a,b] vs.toList):∃x y,vs = #[x,y]/\bW g a x/\bW g b y:=by
 obtain⟨vs⟩:=vs;cases h with | cons _ x _ r h1 h2=>cases h2 with | cons _ y _ r h2 h3=>cases h3;exact⟨x,y,rfl,h1,h2⟩
theorem Fy{g:G}{s:List UInt8}{x:Value}(h:bW g (.str s) x):∃b:ByteArray,x=.string b/\s=b.data.toList:=by
 cases h with | str b=>exact⟨b,rfl,rfl⟩
theorem acC{g:G}{k:IntKind}{n:Int}{x:Value}(h:bW g (.int k n) x):x=.int k n:=by cases h;rfl
theorem aiM{pb:Nat}(hn:P.globalNamed "internal/strconv.uint64pow10" = some pb)(h0:∃F c,P.funcs[f]?=some F/\F.name ≠ "runtime.NumGoroutine" /\ F.body=some c)
  (h:∀(n:Int) (w:World),-9223372036854775808<=n->n<=9223372036854775807->Lib.TabIs P w "internal/strconv.uint64pow10" .u64 Lib.pow10Tab ->
   Calls P f #[.int .i64 n] w λe w'=>e=.returned (.string ⟨(Lib.itoa n).toArray⟩)/\Below w.heap.size w w'):yn P (iH P) 3 f:=by
 intro args J r hr;simp only[EU,Nat.reduceMod]at hr;split at hr<;>try cases hr
 all_goals try omega
 rename_i n _;simp only[aI,ae]at hr;obtain⟨hb,rfl⟩:=hr;refine⟨_,_,rfl,xc.below h0 λbase g w vs hi hl=>?_⟩;obtain⟨x,rfl,hx⟩:=OZ hl;rw[acC hx];refine(h n w hb.1 hb.2 (hi.dX hn)).mono ?_;rintro e w' ⟨rfl,hw⟩;refine⟨_,rfl,hw,?_⟩;rw[Y9 hb];exact .str ⟨(Lib.itoa n).toArray⟩
theorem ah0{t bs br:Nat}(hs:P.globalNamed "strconv.ErrSyntax" = some bs)(hr':P.globalNamed "strconv.ErrRange" = some br)(h0:∃F c,P.funcs[f]?=some F/\F.name ≠ "runtime.NumGoroutine" /\ F.body=some c)
  (h1:∀(s:ByteArray) (v:Int) (w:World),s.size<=9223372036854775806->Lib.atoiAll s.data.toList=.ok v ->
   Calls P f #[.string s] w λe w'=>e=.returned (.tuple #[.int .i64 v,.nilIface])/\Below w.heap.size w w')
  (h2:∀(s:ByteArray) (ev:Value) (w:World),s.size<=281474976710656->Lib.atoiAll s.data.toList=Lib.NumEnd.syntax->w.cell? ⟨bs,0,none⟩=some ev->(ev=.nilIface\/∃te pe,ev=.iface te pe) ->
   Calls P f #[.string s] w λe w'=>∃p,e=.returned (.tuple #[.int .i64 0,.iface t p])/\Below w.heap.size w w')
  (h3:∀(s:ByteArray) (ev:Value) (w:World),s.size<=281474976710656->Lib.atoiAll s.data.toList=.range->w.cell? ⟨br,0,none⟩=some ev->(ev=.nilIface\/∃te pe,ev=.iface te pe) ->
   Calls P f #[.string s] w λe w'=>∃p,e=.returned (.tuple #[.int .i64 (Lib.atoiSat s.data.toList),.iface t p])/\Below w.heap.size w w'):yn P (iH P) (4+16*t) f:=by
 intro args J r hr;have⟨e1,e2⟩:(4+16*t)%16=4/\(4+16*t) / 16=t:=by omega
 simp only[EU,e1,e2]at hr;split at hr<;>try cases hr
 all_goals try omega
 rename_i s _;simp only[aI,ae]at hr;obtain⟨hb,rfl⟩:=hr;refine⟨_,_,rfl,xc.below h0 λbase g w vs hi hl=>?_⟩;obtain⟨x,rfl,hx⟩:=OZ hl;obtain⟨b,rfl,rfl⟩:=Fy hx;have hsz:b.size<=1000000:=by simpa using hb
 rcases ha:Lib.atoiAll b.data.toList with v | _ | _
 .refine(h1 b v w (by omega) ha).mono ?_;rintro e w' ⟨rfl,hw⟩;refine⟨_,rfl,hw,?_⟩;simp only[qX,ha,if_true];exact .cS _ _ (.cons _ _ _ _ (.int _ _) (.cons _ _ _ _ .mQ .nil))
 .obtain⟨ev,hv,hev⟩:=hi.err (.inl hs);refine(h2 b ev w (by omega) ha hv hev).mono ?_;rintro e w' ⟨p,rfl,hw⟩;refine⟨_,rfl,hw,?_⟩;simp only[qX,ha];exact .cS _ _ (.cons _ _ _ _ (.int _ _) (.cons _ _ _ _ (.ua _ _ _ (.undef _)) .nil))
 .obtain⟨ev,hv,hev⟩:=hi.err (.inr hr');refine(h3 b ev w (by omega) ha hv hev).mono ?_;rintro e w' ⟨p,rfl,hw⟩;refine⟨_,rfl,hw,?_⟩;simp only[qX,ha];exact .cS _ _ (.cons _ _ _ _ (.int _ _) (.cons _ _ _ _ (.ua _ _ _ (.undef _)) .nil))
theorem Jd(b:UInt8):∀(s:List UInt8) (k:Nat),s.count b=k->Lib.splitK [b] 0 k s=dB b s
 |[],k,h=>by
  cases k with
  |zero=>rfl
  |succ k=>simp at h
 |c::r,k,h=>by
  by_cases hc:c=b
  .subst hc;simp only[List.count_cons_self]at h;obtain⟨k,rfl⟩:∃k',k=k'+1:=⟨k-1,by omega⟩;have ih:=Jd c r k (by omega);have hi:Lib.index (c::r) [c]=0:=by simp[Lib.index,List.isPrefixOf]
   simp only[Lib.splitK,hi,dB,if_true];simp[ih]
  .have hcb:(b == c)=false:=by simpa using λh=>hc h.symm
   have hn:r.count b=k:=by rw[List.count_cons_of_ne hc]at h;exact h
   have ih:=Jd b r k hn;have hi:Lib.index (c::r) [b]=if Lib.index r [b] == -1 then -1 else Lib.index r [b]+1:=by simp[Lib.index,List.isPrefixOf,hcb]
   simp only[dB,if_neg hc,<- ih];cases k with
   |zero=>rfl
   |succ k =>
    have hge:=Lib.index_ge r [b];simp only[Lib.splitK,hi];by_cases hm:Lib.index r [b] = -1
    .simp[hm]
    .have h1:¬(Lib.index r [b] == -1)=true:=by simpa using hm
     have h2:¬(Lib.index r [b]+1 == -1)=true:=by simp;omega
     obtain⟨i,hi2⟩:∃i:Nat,Lib.index r [b]=i:=⟨(Lib.index r [b]).toNat,by omega⟩;simp only[h1,if_false,h2,hi2];have e1:((i:Int)+1).toNat=i+1:=by omega
     simp[e1,dO];intro hh;omega
theorem RN{g:G}:∀l:List ByteArray,bS g ((l.map (·.data.toList)).map .str) (l.map Value.string)
 |[] => .nil
 |s::l => .cons _ _ _ _ (.str s) (RN l)
theorem agL{mb:Nat}{el:TypeId}(hn:P.globalNamed "internal/bytealg.MaxLen" = some mb)(h0:∃F c,P.funcs[f]?=some F/\F.name ≠ "runtime.NumGoroutine" /\ F.body=some c)
  (h:∀(s sep:ByteArray) (m:Int) (w:World),s.size<4294967281->w.cell? ⟨mb,0,none⟩=some (.int .i64 m)->1<=sep.size ->
   Calls P f #[.string s,.string sep] w λe w'=>e=.returned (.slice (some ⟨w.heap.size,0,none⟩) (Lib.countB s sep+1) (Lib.countB s sep+1))/\w'=w.alloc (.cells ((Lib.splitB sep 0 (Lib.countB s sep) s).map Value.string).toArray el)):yn P (iH P) 6 f:=by
 intro args J r hr;simp only[EU,Nat.reduceMod]at hr;split at hr<;>try cases hr
 all_goals try omega
 rename_i s b _;simp only[aI,ae]at hr;obtain⟨hb,rfl⟩:=hr;refine⟨_,_,rfl,h0,λbase g w vs hi hl hp hr=>⟨⟨rfl,λh=>h⟩,?_⟩⟩;obtain⟨x,y,rfl,hx,hy⟩:=O0 hr;obtain⟨s,rfl,rfl⟩:=Fy hx;obtain⟨sep,rfl,hsep⟩:=Fy hy;have hsz:s.size<=1000000:=by simpa using hb
 have h1:sep.size=1:=by have:=congrArg List.length hsep;simpa using this.symm
 obtain⟨m,hm⟩:=hi.max hn;refine(h s sep m w (by omega) hm (by omega)).mono ?_;rintro e w' ⟨rfl,rfl⟩;have hdata:(Lib.splitB sep 0 (Lib.countB s sep) s).map (·.data.toList)=dB b s.data.toList:=by
  rw[Lib.splitB_data,<- hsep];refine Jd b _ _ ?_;rw[Lib.countB,<- hsep,Lib.count_one]
 have hlen:(dB b s.data.toList).length=Lib.countB s sep+1:=by rw[<- hdata,bK,Lib.splitB_all sep (by omega) 0 _ s rfl]
 have hrl:bS (g.ji w.heap.size ((Lib.splitB sep 0 (Lib.countB s sep) s).map Value.string)) ((dB b s.data.toList).map .str) ((Lib.splitB sep 0 (Lib.countB s sep) s).map Value.string):=by
  rw[<- hdata];exact RN _
 obtain⟨i2,e2,hrow⟩:=hi.IY ((Lib.splitB sep 0 (Lib.countB s sep) s).map Value.string) ((Lib.splitB sep 0 (Lib.countB s sep) s).map Value.string).toArray el (by
  intro j x hx;refine⟨by simpa using hx,?_⟩;have:=ah hx;simp only[bO]at this;obtain⟨z,_,rfl⟩:=this;rfl)
 refine⟨_,_,rfl,e2,i2,?_⟩;rw[hlen];exact .bZ _ _ _ _ _ (aO _) hrow (λ_=>rfl) hrl
theorem Mf:∀{ds:List D} {xs:List (List UInt8)},xD ds=some xs->ds=xs.map .str
 |[],xs,h=>by cases h;rfl
 |d::ds,xs,h=>by
  cases d with
  |str s =>
   simp only[xD,ad]at h;obtain⟨l,h1,rfl⟩:=h;rw[Mf h1];rfl
  |_=>simp[xD]at h
theorem Rj{g:G}:∀{xs:List (List UInt8)} {vs:List Value},bS g (xs.map .str) vs->∃bs:List ByteArray,vs=bs.map Value.string/\xs=bs.map (·.data.toList)
 |[],vs,h=>by cases h;exact⟨[],rfl,rfl⟩
 |x::xs,vs,h=>by
  cases h with | cons _ v _ r h1 h2 =>
  obtain⟨b,rfl,rfl⟩:=Fy h1;obtain⟨bs,rfl,rfl⟩:=Rj h2;exact⟨b::bs,rfl,rfl⟩
theorem Zb(sep:List UInt8)(xs:List (List UInt8)):yg sep xs=Lib.join xs sep:=by
 cases xs with
 |nil=>rfl
 |cons x r=>rw[Lib.join_cons,yg,Lib.joinTail,fM,List.flatMap_def]
theorem aiN(h0:∃F c,P.funcs[f]?=some F/\F.name ≠ "runtime.NumGoroutine" /\ F.body=some c)
  (hz:∀(a:Option Addr) (c:Nat) (sep:ByteArray) (w:World),Calls P f #[.slice a 0 c,.string sep] w λe w'=>e=.returned (.string ⟨#[]⟩)/\w'=w)
  (h:∀(bk o c:Nat) (xs:List ByteArray) (sep:ByteArray) (w:World),(∀(j:Nat) x,xs[j]?=some x->w.cell? ⟨bk,o+j,none⟩=some (.string x))->bk<w.heap.size->xs.length<=140737488355328->xs.length<=c ->
   (Lib.join (xs.map (·.data.toList)) sep.data.toList).length<=140737488355328 ->
   Calls P f #[.slice (some ⟨bk,o,none⟩) xs.length c,.string sep] w λe w'=>e=.returned (.string ⟨(Lib.join (xs.map (·.data.toList)) sep.data.toList).toArray⟩)/\Below w.heap.size w w'):yn P (iH P) 5 f:=by
 intro args J r hr;simp only[EU,Nat.reduceMod]at hr;split at hr<;>try cases hr
 all_goals try omega
 rename_i n cs sep _;split at hr
 case h_2=>cases hr
 rename_i xs hxs;simp only[aI,ae]at hr;obtain⟨⟨rfl,hn,hj⟩,rfl⟩:=hr;have:=Mf hxs;subst this;refine⟨_,_,rfl,xc.below h0 λbase g w vs hi hl=>?_⟩;obtain⟨x,y,rfl,hx,hy⟩:=O0 hl;obtain⟨sp,rfl,rfl⟩:=Fy hy;cases xs with
 |nil =>
  have hv:∃a c,x=.slice a 0 c:=by
   cases hx with
   |Aj=>exact⟨_,_,rfl⟩
   |bZ=>exact⟨_,_,rfl⟩
  obtain⟨a,c,rfl⟩:=hv;refine(hz a c sp w).mono ?_;rintro e w' ⟨rfl,rfl⟩;exact⟨_,rfl,Below.refl _ _,.str ⟨#[]⟩⟩
 |cons x0 xs =>
 generalize hX:x0::xs=X at *
 generalize hN:X.length=N at hx;generalize hC:X.map D.str=C at hx;cases hx with
 |Aj=>subst hX;simp at hN
 |bZ _ _ a cap us h1 h2 h3 h4 =>
  subst hN hC;obtain⟨bs,rfl,rfl⟩:=Rj h4;have hlen:(bs.map (·.data.toList)).length≠0:=by rw[<- hX];simp
  have hs:=h3 hlen;obtain⟨ab,ao,asp⟩:=a;simp only at hs;subst hs;have hne:0<bs.length:=by rw[bK]at hlen;omega
  have hcell:∀(j:Nat) x,bs[j]?=some x->w.cell? ⟨ab,ao+j,none⟩=some (.string x):=λj x hj=>(hi.nB _ _ _ (h2 j _ (by simp[hj]))).1
  have hlt:ab<w.heap.size:=World.block_lt_of_cell? (a:=⟨ab,ao+0,none⟩) w (hcell 0 _ (aE hne));rw[Zb]at hj ⊢;rw[bK]at h1 hn ⊢;refine(h ab ao cap bs sp w hcell hlt (by omega) h1 (by omega)).mono ?_;rintro e w' ⟨rfl,hw⟩;exact⟨_,rfl,hw,.str ⟨(Lib.join (bs.map (·.data.toList)) sp.data.toList).toArray⟩⟩
