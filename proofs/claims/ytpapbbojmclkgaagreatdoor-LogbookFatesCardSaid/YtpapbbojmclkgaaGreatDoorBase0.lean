import GoSem.Core.View
import Derived.Lib.AtoiAll
set_option linter.all false
namespace Go
theorem ad:type_of%@Option.map_eq_some_iff:=@Option.map_eq_some_iff
theorem ae:type_of%@Option.some.injEq:=@Option.some.injEq
theorem af:type_of%@Bool.and_eq_true:=@Bool.and_eq_true
theorem ak:type_of%@Option.bind_eq_some_iff:=@Option.bind_eq_some_iff
theorem aN:type_of%@List.map_cons:=@List.map_cons
theorem aj:type_of%@List.mem_of_getElem?:=@List.mem_of_getElem?
theorem ai:type_of%@List.take_of_length_le:=@List.take_of_length_le
theorem ar:type_of%@Prod.mk.injEq:=@Prod.mk.injEq
theorem bW:type_of%@List.map_nil:=@List.map_nil
theorem aw:type_of%@decide_eq_true_eq:=@decide_eq_true_eq
theorem aC:type_of%@Bool.false_eq_true:=@Bool.false_eq_true
theorem aH:type_of%@Option.ite_none_right_eq_some:=@Option.ite_none_right_eq_some
theorem aA:type_of%@List.getElem?_eq_some_iff:=@List.getElem?_eq_some_iff
theorem an:type_of%@List.drop_eq_nil_of_le:=@List.drop_eq_nil_of_le
theorem aL:type_of%@Nat.le_refl:=@Nat.le_refl
theorem aK:type_of%@List.length_cons:=@List.length_cons
theorem aI:type_of%@List.getElem?_eq_getElem:=@List.getElem?_eq_getElem
theorem aU:type_of%@Option.bind_eq_bind:=@Option.bind_eq_bind
theorem aE:type_of%@List.drop_zero:=@List.drop_zero
theorem aZ:type_of%@Option.map_some:=@Option.map_some
theorem aG:type_of%@List.length_pos_iff:=@List.length_pos_iff
theorem aY:type_of%@List.nil_append:=@List.nil_append
theorem RY:type_of%@List.flatMap_cons:=@List.flatMap_cons
theorem bj:type_of%@List.mem_cons:=@List.mem_cons
theorem aX:type_of%@List.mem_append:=@List.mem_append
theorem aO:type_of%@Int.tdiv_eq_ediv_of_nonneg:=@Int.tdiv_eq_ediv_of_nonneg
theorem bx:type_of%@List.length_nil:=@List.length_nil
theorem bJ:type_of%@List.mem_map:=@List.mem_map
theorem bB:type_of%@List.length_append:=@List.length_append
theorem bw:type_of%@List.length_eq_zero_iff:=@List.length_eq_zero_iff
theorem cg:type_of%@Bool.or_eq_true:=@Bool.or_eq_true
theorem cA:type_of%@Array.getD_eq_getD_getElem?:=@Array.getD_eq_getD_getElem?
theorem cq:type_of%@List.getElem?_cons_zero:=@List.getElem?_cons_zero
theorem ck:type_of%@Nat.zero_add:=@Nat.zero_add
theorem cM:type_of%@List.mem_filter:=@List.mem_filter
theorem bE:type_of%@List.length_map:=@List.length_map
theorem cT:type_of%@List.drop_length_add_append:=@List.drop_length_add_append
theorem cZ:type_of%@Array.getElem?_eq_some_iff:=@Array.getElem?_eq_some_iff
theorem cp:type_of%@Nat.mul_one:=@Nat.mul_one
theorem cU:type_of%@Nat.mul_le_mul_right:=@Nat.mul_le_mul_right
theorem dr:type_of%@List.mem_of_mem_take:=@List.mem_of_mem_take
theorem dA:type_of%@Nat.add_assoc:=@Nat.add_assoc
theorem amd:type_of%@List.flatMap_nil:=@List.flatMap_nil
theorem dB:type_of%@Option.isSome_iff_exists:=@Option.isSome_iff_exists
theorem ez:type_of%@List.ext_getElem?:=@List.ext_getElem?
theorem dR:type_of%@Bool.not_eq_true':=@Bool.not_eq_true'
theorem c9:type_of%@List.getElem?_take:=@List.getElem?_take
theorem cX:type_of%@List.append_nil:=@List.append_nil
theorem dU:type_of%@List.mem_of_mem_drop:=@List.mem_of_mem_drop
theorem eC:type_of%@Nat.succ_mul:=@Nat.succ_mul
theorem dK:type_of%@Int.toNat_of_nonneg:=@Int.toNat_of_nonneg
theorem bF:type_of%@Int.mul_nonneg:=@Int.mul_nonneg
theorem dJ:type_of%@List.singleton_append:=@List.singleton_append
theorem dI:type_of%@List.getElem?_eq_none:=@List.getElem?_eq_none
theorem eT:type_of%@Option.getD_some:=@Option.getD_some
theorem cm:type_of%@List.cons_append:=@List.cons_append
theorem fU:type_of%@Array.toList_inj:=@Array.toList_inj
theorem jm:type_of%@Nat.le_trans:=@Nat.le_trans
theorem dZ:type_of%@List.getElem?_drop:=@List.getElem?_drop
theorem ie:type_of%@Nat.add_mul:=@Nat.add_mul
theorem fV:type_of%@List.getElem?_of_mem:=@List.getElem?_of_mem
theorem dN:type_of%@Int.mul_le_mul_of_nonneg_right:=@Int.mul_le_mul_of_nonneg_right
theorem PU:type_of%@List.flatMap_append:=@List.flatMap_append
theorem jl:type_of%@List.all_cons:=@List.all_cons
theorem fB:type_of%@List.length_filter_le:=@List.length_filter_le
theorem iF:type_of%@List.getElem?_toArray:=@List.getElem?_toArray
theorem jM:type_of%@List.cons.injEq:=@List.cons.injEq
theorem eu:type_of%@Array.getElem?_modify:=@Array.getElem?_modify
theorem lB:type_of%@List.getElem?_map:=@List.getElem?_map
theorem dS:type_of%@List.append_assoc:=@List.append_assoc
theorem eM:type_of%@List.getElem?_mapIdx:=@List.getElem?_mapIdx
theorem fg:type_of%@List.getElem?_append_left:=@List.getElem?_append_left
theorem cS:type_of%@List.drop_drop:=@List.drop_drop
theorem cH:type_of%@Int.mul_le_mul:=@Int.mul_le_mul
theorem dp:type_of%@List.length_take:=@List.length_take
theorem iW:type_of%@List.all_eq_true:=@List.all_eq_true
theorem eS:type_of%@Int.le_total:=@Int.le_total
theorem gE{α:Type}{l:List α}{i:Nat}(h:i<l.length):∃x,l[i]?=some x:=⟨_,aI h⟩
end Go
namespace Go.Abs
def fM{α β:Type _}(l:List α)(f:α->List β):List β:=l.flatMap f
@[simp] theorem rP{α β:Type _}{f:α->List β}:fM [] f=[]:=rfl
@[simp] theorem eg{α β:Type _}{a:α}{l:List α}{f:α->List β}:fM (a::l) f=f a++fM l f:=RY
@[simp] theorem ot{α β:Type _}{l m:List α}{f:α->List β}:fM (l++m) f=fM l f++fM m f:=PU
theorem Qy{α β γ:Type _}{l:List γ}{g:γ->α}{f:α->List β}:fM (l.map g) f=fM l (λx=>f (g x)):=List.flatMap_map g f l
@[simp] theorem Ho{α β:Type _}{l:List α}{f:α->List β}{b:β}:b∈fM l f↔∃a,a∈l/\b∈f a:=List.mem_flatMap
theorem TW{α β:Type _}{l:List α}{f:α->List β}{p:β->Bool}:(fM l f).filter p=fM l λa=>(f a).filter p:=List.filter_flatMap
theorem Pj{α β:Type _}{l:List α}{f:α->List β}{R:β->β->Prop}:(fM l f).Pairwise R↔(∀a∈l,(f a).Pairwise R)/\l.Pairwise λa₁ a₂=>∀x∈f a₁,∀y∈f a₂,R x y:=List.pairwise_flatMap
theorem Wn{α β γ:Type _}{l:List α}{f:α->List β}{g:β->List γ}:fM (fM l f) g=fM l λa=>fM (f a) g:=List.flatMap_assoc
theorem pO{α β:Type _}{l:List α}{f:α->List β}:(fM l f).length=(l.map λa=>(f a).length).sum:=List.length_flatMap
inductive D where
 |undef
 |bool (b:Bool)
 |int (k:IntKind) (n:Int)
 |str (s:List UInt8)
 |agg (cs:List D)
 |cV (cs:List D)
 |yM
 |ref (l i v off:Nat)
 |bf (cs:List D)
 |aW
 |bY (n:Nat) (cs:List D)
 |sl (l i v off n w:Nat)
 |fn (f:Nat) (first cap:List D)
 |pC
 |kV (l i:Nat)
 |own (s:Nat) (cs:List D)
 |vr (x s off:Nat)
 |tP (t:Nat) (d:D)
 |nQ
 |emp
 deriving Inhabited
@[reducible] def iI(n:Int):D:=.int .i64 n
@[reducible,simp] def lF{α:Type _}(l:List α)(f:α->List D):D:=.bY l.length (fM l f)
mutual
def D.same:D->D->Bool
 |.undef,.undef=>true
 |.bool a,.bool b=>a == b
 |.int k n,.int k' n'=>k == k' && n == n'
 |.str a,.str b=>a == b
 |.agg a,.agg b=>D.zU a b
 |.cV a,.cV b=>D.zU a b
 |.yM,.yM=>true
 |.ref a b c d,.ref a' b' c' d'=>a == a' && b == b' && c == c' && d == d'
 |.bf a,.bf b=>D.zU a b
 |.aW,.aW=>true
 |.bY n a,.bY m b=>n == m && D.zU a b
 |.sl a b c d e f,.sl a' b' c' d' e' f'=>a == a' && b == b' && c == c' && d == d' && e == e' && f == f'
 |.fn f a b,.fn f' a' b'=>f == f' && D.zU a a' && D.zU b b'
 |.pC,.pC=>true
 |.kV a b,.kV a' b'=>a == a' && b == b'
 |.own s a,.own s' b=>s == s' && D.zU a b
 |.vr a b c,.vr a' b' c'=>a == a' && b == b' && c == c'
 |.tP t a,.tP t' b=>t == t' && D.same a b
 |.nQ,.nQ=>true
 |.emp,.emp=>true
 |_,_=>false
def D.zU:List D->List D->Bool
 |[],[]=>true
 |a::as,b::bs=>D.same a b && D.zU as bs
 |_,_=>false
end
mutual
theorem No:∀{a b:D},D.same a b=true->a=b
 |.undef,b,h=>by cases b<;>simp[D.same]at h;rfl
 |.bool _,b,h=>by cases b<;>simp[D.same]at h;rw[h]
 |.int _ _,b,h=>by cases b<;>simp[D.same]at h;rw[h.1,h.2]
 |.str _,b,h=>by cases b<;>simp[D.same]at h;rw[h]
 |.agg _,b,h=>by cases b<;>simp[D.same]at h;rw[wa h]
 |.cV _,b,h=>by cases b<;>simp[D.same]at h;rw[wa h]
 |.yM,b,h=>by cases b<;>simp[D.same]at h;rfl
 |.ref ..,b,h=>by cases b<;>simp[D.same]at h;simp[h]
 |.bf _,b,h=>by cases b<;>simp[D.same]at h;rw[wa h]
 |.aW,b,h=>by cases b<;>simp[D.same]at h;rfl
 |.bY ..,b,h=>by cases b<;>simp[D.same]at h;rw[h.1,wa h.2]
 |.sl ..,b,h=>by cases b<;>simp[D.same]at h;simp[h]
 |.fn ..,b,h=>by cases b<;>simp[D.same]at h;rw[h.1.1,wa h.1.2,wa h.2]
 |.pC,b,h=>by cases b<;>simp[D.same]at h;rfl
 |.kV ..,b,h=>by cases b<;>simp[D.same]at h;simp[h]
 |.own ..,b,h=>by cases b<;>simp[D.same]at h;rw[h.1,wa h.2]
 |.vr ..,b,h=>by cases b<;>simp[D.same]at h;simp[h]
 |.tP _ a,b,h=>by cases b<;>simp[D.same]at h;rw[h.1,No h.2]
 |.nQ,b,h=>by cases b<;>simp[D.same]at h;rfl
 |.emp,b,h=>by cases b<;>simp[D.same]at h;rfl
theorem wa:∀{a b:List D},D.zU a b=true->a=b
 |[],[],_=>rfl
 |[],_::_,h=>by simp[D.zU]at h
 |_::_,[],h=>by simp[D.zU]at h
 |a::as,b::bs,h=>by
  simp only[D.zU,af]at h;rw[No h.1,wa h.2]
end
mutual
theorem HD:∀(a:D),D.same a a=true
 |.undef=>rfl
 |.bool b=>by simp[D.same]
 |.int k n=>by simp[D.same]
 |.str s=>by simp[D.same]
 |.agg a=>by simp[D.same,pF a]
 |.cV a=>by simp[D.same,pF a]
 |.yM=>rfl
 |.ref .. => by simp[D.same]
 |.bf a=>by simp[D.same,pF a]
 |.aW=>rfl
 |.bY n a=>by simp[D.same,pF a]
 |.sl .. => by simp[D.same]
 |.fn f a b=>by simp[D.same,pF a,pF b]
 |.pC=>rfl
 |.kV .. => by simp[D.same]
 |.own s a=>by simp[D.same,pF a]
 |.vr .. => by simp[D.same]
 |.tP t a=>by simp[D.same,HD a]
 |.nQ=>rfl
 |.emp=>rfl
theorem pF:∀(a:List D),D.zU a a=true
 |[]=>rfl
 |a::as=>by simp[D.zU,HD a,pF as]
end
instance:DecidableEq D:=λa b=>if h:D.same a b=true then isTrue (No h)else isFalse λe=>h (e ▸ HD a)
inductive bP where
 |t (n:Nat)
 |c (d:D)
 deriving Inhabited,DecidableEq
inductive Pu where
 |PH
 |KZ
 |Uu
 |Nv (lo hi:Bool)
 |seq (neg:Bool)
 deriving Inhabited,DecidableEq
def gW:Pu->List D->Option D
 |.PH,[.str s]=>some (.int .i64 s.length)
 |.KZ,[.str s,.int _ i]=>if 0<=i then(s[i.toNat]?).map λb => .int .u8 b.toNat else none
 |.Uu,[.str a,.str b]=>if a.length+b.length<=4611686018427387904 then some (.str (a++b))else none
 |.Nv true true,[.str s,.int _ i,.int _ j]=>if 0<=i/\i<=j/\j<=s.length then some (.str ((s.drop i.toNat).take (j.toNat-i.toNat)))else none
 |.Nv true false,[.str s,.int _ i]=>if 0<=i/\i<=s.length then some (.str (s.drop i.toNat))else none
 |.Nv false true,[.str s,.int _ j]=>if 0<=j/\j<=s.length then some (.str (s.take j.toNat))else none
 |.Nv false false,[.str s]=>some (.str s)
 |.seq neg,[.str a,.str b]=>some (.bool (if neg then !(a == b)else a == b))
 |_,_=>none
abbrev Ky:=Option (Bool×List (Option IntKind))
inductive Mo where
 |make
 |Ln (t e:Nat)
 |get (ky:Ky) (zero:D) (ok:Bool)
 |put (ky:Ky)
 |len
 |rng
 |ent
 deriving Inhabited,DecidableEq
inductive Me where
 |b2s
 |s2b
 |s2a (n w:Nat)
 |peq (neg:Bool)
 deriving Inhabited,DecidableEq
inductive K where
 |mv (x:bP)
 |Kc (w:Nat)
 |pick (c a b:bP)
 |TB (nb:List (Nat×Nat)) (cs:List D)
 |BJ (nb:List (Nat×Nat)) (cs:List D)
 |KL (x:bP)
 |KM (x:bP)
 |X4 (nb:List (Nat×Nat)) (x:bP)
 |Fl (x:bP)
 |Ln (zero:List D) (parts:List (Nat×Nat×bP))
 |X3 (n w:Nat) (zero:List D) (parts:List (Nat×Nat×bP))
 |V5 (n w:Nat) (zero:List D) (parts:List (Nat×Nat×bP))
 |ld (ag:Bool) (sz:Nat) (a:bP)
 |UK (ag:Bool) (sz:Nat) (a:bP)
 |UJ (ag:Bool) (sz:Nat) (a:bP)
 |ZB (ps neg:Bool) (x:bP)
 |ZS (x:bP)
 |st (nb:List (Nat×Nat)) (sz:Nat) (a x:bP)
 |UA (os:List Nat) (sz:Nat) (a x:bP)
 |UL (v:Nat) (ag:Bool) (sz:Nat) (a:Nat)
 |HF (v:Nat) (nb:List (Nat×Nat)) (sz:Nat) (a:Nat) (x:bP)
 |bin (o:BinOp) (x y:bP)
 |eqv (ag:Bool) (ks:List (Option IntKind)) (neg:Bool) (x y:bP)
 |un (o:UnOp) (x:bP)
 |Wc (k:IntKind) (x:bP)
 |W4 (f:Nat) (first cap:List bP)
 |X9 (w bytes:Nat) (zero:List D) (l c:bP)
 |Yb (w:Nat) (x:bP) (lo hi mx:Option bP)
 |Q5 (len w:Nat) (x:bP) (lo hi:Option bP)
 |KO (off:Nat) (x:bP)
 |fld (ag:Bool) (off sz:Nat) (x:bP)
 |KR (len w:Nat) (x i:bP)
 |Hk (w:Nat) (x i:bP)
 |MS (ag:Bool) (len w:Nat) (x i:bP)
 |KU (x:bP)
 |QK (n:Nat)
 |mn (x y:bP)
 |mx (x y:bP)
 |app (w bytes:Nat) (s x:bP)
 |TD (os:List Nat) (w bytes:Nat) (s x:bP)
 |apz (w bytes:Nat) (s x:bP)
 |X5 (w bytes:Nat) (x:bP)
 |cvz (x:bP)
 |bse
 |ape (w bytes v:Nat) (x:bP)
 |ext (x:bP) (i:Nat)
 |ID (o:Pu) (xs:List bP)
 |mp (o:Mo) (xs:List bP)
 |me (o:Me) (xs:List bP)
 |W5 (t:Nat) (x:bP)
 |Yd (t:Nat) (zero:Option D) (x:bP)
 |ZA (neg:Bool) (x:bP)
 |Xh (x:bP)
 |PX
 |call (kp:Bool) (f:bP) (args:List bP)
 deriving Inhabited,DecidableEq
structure Op where
 dst:Option Nat
 Ft:Option (Nat×Bool)
 CP:Bool
 k:K
 deriving Inhabited,DecidableEq
inductive cb where
 |IX
 |cG (vs:List Nat)
 |rM (live:List Nat) (ops:List Op)
 |seq (a b:cb)
 |ite (c:bP) (a b:cb)
 |dC (id:Nat) (a:cb)
 |loop (live:List Nat) (bH:Bool) (a:cb)
 |Nj (live:List Nat) (f:bP) (params:List Nat) (BL body:cb)
 |iq (live:List Nat) (it:bP) (nx ok b:Nat) (a rest:cb)
 |PQ (live:List Nat) (pre:List Op) (op:Op) (post:List Op)
 |TN (f:bP) (args:List bP) (rest:cb)
 |exit (id:Nat)
 |ret
 |sgm (a:cb)
 deriving Inhabited,DecidableEq
inductive Exit where
 |normal
 |exit (id:Nat)
 |ret
 |ft (d:D)
 deriving Inhabited,DecidableEq
abbrev Env:=List (Nat×D)
def get:Env->Nat->D
 |[],_ => .undef
 |(k,v)::r,t=>if k=t then v else get r t
def put(d:Option Nat)(v:D)(e:Env):Env :=
 match d with
 |some t=>(t,v)::e
 |none=>e
def D.calm:D->D
 |.vr .. => .undef
 |.emp => .undef
 |.own _ cs => .own 0 cs
 |d=>d
def D.strip:D->D
 |.vr .. => .undef
 |.emp => .undef
 |.own .. => .undef
 |d=>d
def restrict(live:List Nat)(e:Env):Env:=live.map λt=>(t,(get e t).calm)
def keys(e:Env):List Nat:=(e.map (·.1)).eraseDups
def yW(live:List Nat)(e:Env):Env:=live.map λt=>(t,(get e t).strip)
def AI(live:List Nat)(x:Exit)(e:Env):List Nat :=
 match x with
 |.normal=>live
 |_=>keys e
structure xB where
 state:Nat
 yP:Option Exit
 env:Env
 params:List Nat
 BL:cb
 body:cb
 deriving DecidableEq
inductive aD where
 |cells (v:Nat) (cs:List D)
 |dead
 |loop (l:xB)
 deriving DecidableEq
abbrev SK:=List (List aD)
def fq:SK->Nat->Option (List aD)
 |[],_=>none
 |s::J,l=>if J.length=l then some s else fq J l
def gX:SK->Nat->List aD->SK
 |[],_,_=>[]
 |s::J,l,s'=>if J.length=l then s'::J else s::gX J l s'
def ea(J:SK)(l i:Nat):Option aD:=(fq J l).bind (·[i]?)
def bh(J:SK)(l i:Nat)(b:aD):SK :=
 match fq J l with
 |some s=>gX J l (s.set i b)
 |none=>J
def cells?(J:SK)(l i v:Nat):Option (List D) :=
 match ea J l i with
 |some (.cells v' cs)=>if v'=v then some cs else none
 |_=>none
def gA(J:SK)(b:aD):Option (Nat×Nat×SK) :=
 match J with
 |[]=>none
 |s::J'=>some (J'.length,s.length,(s++[b])::J')
mutual
def D.clean:D->Bool
 |.ref .. => false
 |.sl .. => false
 |.kV .. => false
 |.vr .. => true
 |.emp=>true
 |.own _ cs=>D.bd cs
 |.agg cs=>D.bd cs
 |.cV cs=>D.bd cs
 |.bf cs=>D.bd cs
 |.bY _ cs=>D.bd cs
 |.fn _ a b=>D.bd a && D.bd b
 |.undef=>true
 |.bool _=>true
 |.int _ _=>true
 |.str _=>true
 |.yM=>true
 |.aW=>true
 |.pC=>true
 |.tP _ d=>D.clean d
 |.nQ=>true
def D.bd:List D->Bool
 |[]=>true
 |d::ds=>D.clean d && D.bd ds
end
def cG(l:Nat):Nat->D->SK->D×SK
 |0,_,J=>(.undef,J)
 |n+1,d,J =>
  if d.clean then(d,J)else
  match d with
  |.agg cs=>let r:=frzL (cG l n) cs J;(.agg r.1,r.2)
  |.cV cs=>let r:=frzL (cG l n) cs J;(.cV r.1,r.2)
  |.bf cs=>let r:=frzL (cG l n) cs J;(.bf r.1,r.2)
  |.bY m cs=>let r:=frzL (cG l n) cs J;(.bY m r.1,r.2)
  |.own s cs=>let r:=frzL (cG l n) cs J;(.own s r.1,r.2)
  |.fn f a b=>let r:=frzL (cG l n) a J;let r':=frzL (cG l n) b r.2;(.fn f r.1 r'.1,r'.2)
  |.ref l' i v off=>if l'<=l then(.ref l' i v off,J)else(.undef,J)
  |.kV l' i=>if l'<=l then(.kV l' i,J)else(.undef,J)
  |.sl l' i v off m w =>
   if l'<=l then(.sl l' i v off m w,J)else
   match cells? J l' i v with
   |some cs=>let r:=frzL (cG l n) ((cs.drop off).take (m*w)) (bh J l' i .dead);(.bY m r.1,r.2)
   |none=>(.undef,J)
  |_=>(.undef,J)
where
 frzL (f:D->SK->D×SK):List D->SK->List D×SK
  |[],J=>([],J)
  |d::ds,J=>let r:=f d J;let r':=frzL f ds r.2;(r.1::r'.1,r'.2)
def deep:Nat:=16
def oV(l:Nat):Env->SK->Env×SK
 |[],J=>([],J)
 |(t,d)::e,J=>let r:=cG l deep d J;let r':=oV l e r.2;((t,r.1)::r'.1,r'.2)
inductive Q where
 |call (kp:Bool) (f:Nat) (args:List D) (J:SK)
 |loop (live:List Nat) (bH:Bool) (c:cb) (env:Env) (J:SK)
 |round (l i:Nat) (args:List D) (J:SK)
 |iq (live:List Nat) (it:bP) (nx ok b:Nat) (c rest:cb) (env:Env) (J:SK)
 |zg (f:Nat) (args:List D) (th:Option D) (J:SK)
inductive R where
 |val (d:D) (J:SK)
 |EA (e:Exit) (env:Env) (J:SK)
 |ft (d:D) (J:SK)
 deriving DecidableEq
abbrev bZ:=Q->Option R
def bz(e:Env):bP->D
 |.t n=>(get e n).strip
 |.c d=>d
def D.cells:D->Option (List D)
 |.agg cs=>some cs
 |.undef=>none
 |.cV _=>none
 |.own .. => none
 |.vr .. => none
 |.emp=>none
 |d=>some [d]
def D.row(ag:Bool)(d:D):Option (List D) :=
 match ag,d with
 |true,.agg cs=>some cs
 |true,_=>none
 |false,.agg _=>none
 |false,d=>d.cells
def iP(e:Env):List (Nat×Nat×bP)->List D->Option (List D)
 |[],cs=>some cs
 |(off,sz,x)::r,cs =>
  match(bz e x).cells with
  |some p=>if p.length=sz/\off+sz<=cs.length then iP e r (cs.take off++p++cs.drop (off+sz))else none
  |none=>none
def BS:List (Option IntKind)->List D->List D->Option Bool
 |[],[],[]=>some true
 |some k::ks,.int k1 a::x,.int k2 b::y=>if k1=k/\k2=k then(BS ks x y).map (a == b && ·)else none
 |none::ks,.bool a::x,.bool b::y=>(BS ks x y).map (a == b && ·)
 |_,_,_=>none
def vq(o:BinOp):D->D->Option D
 |.int k a,.int k' b =>
  match o with
  |.shl=>if b<0 then none else some (.int k (k.wrap (a*2^(min b.toNat k.bits))))
  |.shr=>if b<0 then none else some (.int k (a.fdiv (2^(min b.toNat k.bits))))
  |.add=>if k=k' then some (.int k (k.wrap (a+b)))else none
  |.sub=>if k=k' then some (.int k (k.wrap (a-b)))else none
  |.mul=>if k=k' then some (.int k (k.wrap (a*b)))else none
  |.quo=>if k=k'/\b≠0 then some (.int k (k.wrap (a.tdiv b)))else none
  |.rem=>if k=k'/\b≠0 then some (.int k (a.tmod b))else none
  |.and=>if k=k' then some (.int k (k.wrap ((BitVec.ofInt k.bits a &&& BitVec.ofInt k.bits b).toNat:Int)))else none
  |.or=>if k=k' then some (.int k (k.wrap ((BitVec.ofInt k.bits a ||| BitVec.ofInt k.bits b).toNat:Int)))else none
  |.xor=>if k=k' then some (.int k (k.wrap ((BitVec.ofInt k.bits a ^^^ BitVec.ofInt k.bits b).toNat:Int)))else none
  |.andNot=>none
  |.eql=>if k=k' then some (.bool (a == b))else none
  |.neq=>if k=k' then some (.bool (a != b))else none
  |.lss=>if k=k' then some (.bool (decide (a<b)))else none
  |.leq=>if k=k' then some (.bool (decide (a<=b)))else none
  |.gtr=>if k=k' then some (.bool (decide (a>b)))else none
  |.geq=>if k=k' then some (.bool (decide (a>=b)))else none
 |_,_=>none
def Gu:D->Option Int
 |.int _ n=>some n
 |_=>none
def BD(e:Env)(m:Nat)(dfl:Option Nat):Option bP->Option Nat
 |some x=>match Gu (bz e x)with
  |some n=>if 0<=n/\n<=m then some n.toNat else none
  |none=>none
 |none=>dfl
def bounds(len:Nat)(e:Env)(lo hi mx:Option bP):Option (Nat×Nat) :=
 (BD e len (some len) mx).bind λm=>(BD e m (if mx.isSome then none else some len) hi).bind λh=>(BD e h (some 0) lo).map λl=>(l,h)
def so(ky:Ky)(a b:D):Option Bool :=
 match ky with
 |none=>match a,b with
  |.str x,.str y=>some (x == y)
  |_,_=>none
 |some (ag,ks)=>match a.row ag,b.row ag with
  |some p,some q=>BS ks p q
  |_,_=>none
def pc(ky:Ky)(k:D):List D->Option (Option (Nat×D))
 |[]=>some none
 |.cV [k',v]::es =>
  match so ky k k' with
  |some true=>some (some (0,v))
  |some false=>(pc ky k es).map λx=>x.map λy=>(y.1+1,y.2)
  |none=>none
 |_=>none
def CV(J:SK):D->Option (Nat×Nat×List D)
 |.kV l i=>(cells? J l i 0).map λes=>(l,i,es)
 |_=>none
def CW(J:SK):Mo->List D->Option (D×SK)
 |.make,[]=>(gA J (.cells 0 [])).map λx=>(.kV x.1 x.2.1,x.2.2)
 |.Ln t e,[]=>(gA J (.cells 2 [.int .i64 (t:Nat),.int .i64 (e:Nat),.str []])).map λx=>(.kV x.1 x.2.1,x.2.2)
 |.get ky zero ok,[m,k] =>
  match CV J m with
  |some (_,_,es) =>
   if(so ky k k).isSome then
    match pc ky k es with
    |some (some (_,v))=>some (if ok then .cV [v,.bool true]else v,J)
    |some none=>some (if ok then .cV [zero,.bool false]else zero,J)
    |none=>none
   else none
  |none=>none
 |.put ky,[m,k,v] =>
  match CV J m with
  |some (l,i,es) =>
   if(so ky k k).isSome/\(l+1=J.length\/(k.clean/\v.clean))then
    match pc ky k es with
    |some (some (j,_))=>some (.undef,bh J l i (.cells 0 (es.set j (.cV [k,v]))))
    |some none=>some (.undef,bh J l i (.cells 0 (es++[.cV [k,v]])))
    |none=>none
   else none
  |none=>none
 |.len,[m]=>(CV J m).map λx=>(.int .i64 x.2.2.length,J)
 |.rng,[m] =>
  match CV J m with
  |some (lm,im,es)=>(gA J (.cells 1 [.kV lm im,.int .i64 es.length])).map λx=>(.kV x.1 x.2.1,x.2.2)
  |none=>none
 |.ent,[.kV l i] =>
  match cells? J l i 1 with
  |some (m::.int .i64 n::.int .i64 j::_) =>
   match CV J m with
   |some (_,_,es)=>if(es.length:Int)=n then
     match es[j.toNat]? with
     |some (.cV [k,v])=>some (.cV [k,v],J)
     |_=>none
    else none
   |none=>none
  |_=>none
 |_,_=>none
def strCells(s:List UInt8):List D:=s.map λb => .int .u8 b.toNat
def elems(J:SK)(w:Nat):D->Option (Nat×List D)
 |.aW=>some (0,[])
 |.str s=>if w=1 then some (s.length,strCells s)else none
 |.bY n cs=>if cs.length=n*w then some (n,cs)else none
 |.sl l i v off n w' =>
  if w'=w then
   match cells? J l i v with
   |some cs=>if off+n*w<=cs.length then some (n,(cs.drop off).take (n*w))else none
   |none=>none
  else none
 |_=>none
def Fo:List D->Option (List UInt8)
 |[]=>some []
 |.int .u8 n::r=>(Fo r).map (UInt8.ofNat n.toNat :: ·)
 |_=>none
def X8(J:SK):Me->List D->Option (D×SK)
 |.b2s,[.str _]=>none
 |.b2s,[x]=>(elems J 1 x).bind λr=>(Fo r.2).map λs=>(.str s,J)
 |.s2b,[.str s]=>some (.bY s.length (strCells s),J)
 |.s2a n w,[.bY m cs]=>if 0<n/\n<=m then some (.bf (cs.take (n*w)),J)else none
 |.peq neg,[.ref l i v o,.ref l' i' v' o']=>if l=l'/\i=i'/\o=o'/\v=v'/\(cells? J l i v).isSome then some (.bool (!neg),J)else none
 |_,_=>none
def room:Nat:=2^46
def j7:List (Nat×Nat)->List D->SK->Option (List D×SK)
 |[],cs,J=>some (cs,J)
 |(p,w)::r,cs,J =>
  match cs[p]? with
  |some .aW=>do
   let (l,i,J')<-gA J (.cells 0 [])
   j7 r (cs.set p (.sl l i 0 0 0 w)) J'
  |_=>j7 r cs J
def pU(e:Env)(v a:Nat):Option (Nat×List D×Nat) :=
 match get e v with
 |.own s cs =>
  if a=v then some (s,cs,0)else
  match get e a with
  |.vr x s' off=>if x=v/\s'=s then some (s,cs,off)else none
  |_=>none
 |_=>none
def tZ(e:Env)(v:Nat):Nat :=
 match get e v with
 |.own s _=>s+1
 |_=>0
def Hw(J:SK):D->Option (List D)
 |.bf cs=>some cs
 |.ref l i v off=>(cells? J l i v).map (·.drop off)
 |_=>none
def UM(J:SK):D->Option (List D)
 |.ref l i 0 off=>Hw J (.ref l i 0 off)
 |_=>none
def KT(ps:Bool)(d:D):Option Bool :=
 match ps,d with
 |true,.yM=>some true
 |true,.bf _=>some false
 |true,.ref .. => some false
 |false,.aW=>some true
 |false,.bY n _=>if n=0 then none else some false
 |false,.sl _ _ _ _ n _=>if n=0 then none else some false
 |_,_=>none
def Rk(t:Nat)(z:Option D):D->Option D
 |.tP t' d=>match z with
  |some z=>some (if t'=t then .cV [d,.bool true]else .cV [z,.bool false])
  |none=>if t'=t then some d else none
 |.nQ=>z.map λz => .cV [z,.bool false]
 |_=>none
def WB:D->Option Bool
 |.nQ=>some true
 |.tP .. => some false
 |_=>none
def D.off(l i:Nat):D->Bool
 |.ref l' i' _ _=>decide (¬(l'=l/\i'=i))
 |_=>true
def Mz(e:Env)(J:SK)(w bytes:Nat)(s x:bP):Option (D×SK):=do
  let (m,xs)<-elems J w (bz e x)
  match bz e s with
  |.aW =>
   if m*bytes<=room then
    if m=0 then some (.aW,J)else do
    let (l,i,J')<-gA J (.cells 0 xs)
    some (.sl l i 0 0 m w,J')
   else none
  |.sl l i v off n w' =>
   match cells? J l i v with
   |some cs =>
    if w'=w/\off+n*w<=cs.length/\(n+m)*bytes<=room then
     if l+1=J.length then
      some (.sl l i (v+1) 0 (n+m) w,bh J l i (.cells (v+1) ((cs.drop off).take (n*w)++xs)))
     else
      let r:=cG.frzL (cG l deep) xs J
      some (.sl l i (v+1) 0 (n+m) w,bh r.2 l i (.cells (v+1) ((cs.drop off).take (n*w)++r.1)))
    else none
   |none=>none
  |_=>none
def bR(e:Env)(J:SK):K->Option (D×SK)
 |.mv x=>some (bz e x,J)
 |.Kc w=>do
  let (l,i,J')<-gA J (.cells 0 [])
  some (.sl l i 0 0 0 w,J')
 |.pick c a b =>
  match bz e c with
  |.bool t=>some (if t then bz e a else bz e b,J)
  |_=>none
 |.TB nb cs=>do
  let (cs',J1)<-j7 nb cs J
  let (l,i,J')<-gA J1 (.cells 0 cs')
  some (.ref l i 0 0,J')
 |.KL x=>(bz e x).cells.map λcs=>(.bf cs,J)
 |.KM x=>do
  let cs<-(bz e x).cells
  let (l,i,J')<-gA J (.cells 0 cs)
  some (.ref l i 0 0,J')
 |.X4 nb x=>do
  let cs<-(bz e x).cells
  let (cs',J1)<-j7 nb cs J
  let (l,i,J')<-gA J1 (.cells 0 cs')
  some (.ref l i 0 0,J')
 |.BJ .. => none
 |.Fl _=>none
 |.HF .. => none
 |.UL v ag sz a =>
  match pU e v a with
  |some (_,cs,off) =>
   let cs:=cs.drop off
   if sz<=cs.length then
    if ag then some (.agg (cs.take sz),J)else
    match cs with
    |d::_=>some (d,J)
    |[]=>none
   else none
  |none=>none
 |.Ln zero parts=>do
  let cs<-iP e parts zero
  some (.agg cs,J)
 |.X3 n _ zero parts=>do
  let cs<-iP e parts zero
  some (.bY n cs,J)
 |.V5 n w zero parts=>do
  let cs<-iP e parts zero
  let (l,i,J')<-gA J (.cells 0 cs)
  some (.sl l i 0 0 n w,J')
 |.ld ag sz a =>
  match Hw J (bz e a)with
  |some cs =>
   if sz<=cs.length then
    if ag then some (.agg (cs.take sz),J)else
    match cs with
    |d::_=>some (d,J)
    |[]=>none
   else none
  |none=>none
 |.UJ ag sz a =>
  match UM J (bz e a)with
  |some cs =>
   if sz<=cs.length then
    if ag then some (.agg (cs.take sz),J)else
    match cs with
    |d::_=>some (d,J)
    |[]=>none
   else none
  |none=>none
 |.UK ag sz a =>
  match bz e a with
  |.bf cs =>
   if sz<=cs.length then
    if ag then some (.agg (cs.take sz),J)else
    match cs with
    |d::_=>some (d,J)
    |[]=>none
   else none
  |_=>none
 |.ZB ps neg x=>(KT ps (bz e x)).map λb=>(.bool (if neg then !b else b),J)
 |.ZS x =>
  match bz e x with
  |.bf cs=>some (.bf cs,J)
  |.ref l i v off=>some (.ref l i v off,J)
  |_=>none
 |.st nb sz a x =>
  match bz e a with
  |.ref l i v off =>
   match cells? J l i v with
   |some cs =>
    match(bz e x).cells with
    |some p =>
     if p.length=sz/\off+sz<=cs.length then
      if l+1=J.length then
       match j7 nb p J with
       |some (p',J1)=>some (.undef,bh J1 l i (.cells v (cs.take off++p'++cs.drop (off+sz))))
       |none=>none
      else
       let r:=cG.frzL (cG l deep) p J
       some (.undef,bh r.2 l i (.cells v (cs.take off++r.1++cs.drop (off+sz))))
     else none
    |none=>none
   |none=>none
  |_=>none
 |.UA os sz a x =>
  match bz e a with
  |.ref l i v off =>
   if(os.all λt=>D.off l i (get e t))=true then
    match cells? J l i v with
    |some cs =>
     match(bz e x).cells with
     |some p =>
      if p.length=sz/\off+sz<=cs.length/\(D.bd p=true\/l+1=J.length)then some (.undef,bh J l i (.cells v (cs.take off++p++cs.drop (off+sz))))else none
     |none=>none
    |none=>none
   else none
  |_=>none
 |.bin o x y=>(vq o (bz e x) (bz e y)).map (·,J)
 |.eqv ag ks neg x y =>
  match(bz e x).row ag,(bz e y).row ag with
  |some p,some q=>(BS ks p q).map λb=>(.bool (if neg then !b else b),J)
  |_,_=>none
 |.un o x =>
  match o,bz e x with
  |.not,.bool b=>some (.bool !b,J)
  |.neg,.int k n=>some (.int k (k.wrap (0-n)),J)
  |.xor,.int k n=>some (.int k (k.wrap ((BitVec.ofInt k.bits (if k.signed then -1 else k.max) ^^^ BitVec.ofInt k.bits n).toNat:Int)),J)
  |_,_=>none
 |.Wc k x =>
  match bz e x with
  |.int _ n=>some (.int k (k.wrap n),J)
  |_=>none
 |.W4 f first cap=>some (.fn f (first.map (bz e)) (cap.map (bz e)),J)
 |.X9 w bytes zero l c =>
  match bz e l,bz e c with
  |.int .i64 n,.int .i64 m =>
   if 0<=n/\n=m/\n*bytes<=(room:Int)/\zero.length=w then do
    let (l,i,J')<-gA J (.cells 0 (fM (List.range n.toNat) λ_=>zero))
    some (.sl l i 0 0 n.toNat w,J')
   else none
  |_,_=>none
 |.Yb w x lo hi mx =>
  match bz e x with
  |.bY n cs=>(bounds n e lo hi mx).map λb=>(.bY (b.2-b.1) ((cs.drop (b.1*w)).take ((b.2-b.1)*w)),J)
  |.sl l i v off n w'=>if w'=w then(bounds n e lo hi mx).map λb=>(.sl l i v (off+b.1*w) (b.2-b.1) w,J)else none
  |.aW=>(bounds 0 e lo hi mx).map λ_=>(.aW,J)
  |_=>none
 |.Q5 len w x lo hi =>
  match bz e x with
  |.bf cs=>(bounds len e lo hi none).map λb=>(.bY (b.2-b.1) ((cs.drop (b.1*w)).take ((b.2-b.1)*w)),J)
  |.ref l i v off =>
   match cells? J l i v with
   |some cs=>if len<=1000000/\off+len*w<=cs.length then(bounds len e lo hi none).map λb=>(.sl l i v (off+b.1*w) (b.2-b.1) w,J)else none
   |none=>none
  |_=>none
 |.KO off x =>
  match x with
  |.t n =>
   match get e n with
   |.bf cs=>some (.bf (cs.drop off),J)
   |.ref l i v o=>some (.ref l i v (o+off),J)
   |.own s _=>some (.vr n s off,J)
   |.vr v s o=>some (.vr v s (o+off),J)
   |_=>none
  |.c _=>none
 |.fld ag off sz x =>
  match bz e x with
  |.agg cs =>
   if off+sz<=cs.length then
    if ag then some (.agg ((cs.drop off).take sz),J)else(cs[off]?).map (·,J)
   else none
  |_=>none
 |.KR len w x i =>
  match x,Gu (bz e i)with
  |.t m,some n =>
   if 0<=n/\n<len then
    match get e m with
    |.bf cs=>some (.bf ((cs.drop (n.toNat*w)).take w),J)
    |.ref l j v off=>some (.ref l j v (off+n.toNat*w),J)
    |.own s _=>some (.vr m s (n.toNat*w),J)
    |.vr v s o=>some (.vr v s (o+n.toNat*w),J)
    |_=>none
   else none
  |_,_=>none
 |.Hk w x i =>
  match bz e x,Gu (bz e i)with
  |.bY m cs,some n=>if 0<=n/\n<m then some (.bf ((cs.drop (n.toNat*w)).take w),J)else none
  |.sl l j v off m w',some n=>if 0<=n/\n<m/\w'=w then some (.ref l j v (off+n.toNat*w),J)else none
  |_,_=>none
 |.MS ag len w x i =>
  match bz e x,Gu (bz e i)with
  |.agg cs,some n =>
   if 0<=n/\n<len/\(n.toNat+1)*w<=cs.length then
    if ag then some (.agg ((cs.drop (n.toNat*w)).take w),J)else(cs[n.toNat*w]?).map (·,J)
   else none
  |_,_=>none
 |.KU x =>
  match bz e x with
  |.aW=>some (.int .i64 0,J)
  |.bY n _=>some (.int .i64 n,J)
  |.sl _ _ _ _ n _=>some (.int .i64 n,J)
  |_=>none
 |.QK n=>some (.int .i64 n,J)
 |.mn x y =>
  match bz e x,bz e y with
  |.int k a,.int _ b=>some (.int k (min a b),J)
  |_,_=>none
 |.mx x y =>
  match bz e x,bz e y with
  |.int k a,.int _ b=>some (.int k (max a b),J)
  |_,_=>none
 |.app w bytes s x=>do
  let (m,xs)<-elems J w (bz e x)
  match bz e s with
  |.aW =>
   if m*bytes<=room then
    if m=0 then some (.aW,J)else do
    let (l,i,J')<-gA J (.cells 0 xs)
    some (.sl l i 0 0 m w,J')
   else none
  |.sl l i v off n w' =>
   match cells? J l i v with
   |some cs =>
    if w'=w/\off+n*w<=cs.length/\(n+m)*bytes<=room then
     if l+1=J.length then
      some (.sl l i (v+1) 0 (n+m) w,bh J l i (.cells (v+1) ((cs.drop off).take (n*w)++xs)))
     else
      let r:=cG.frzL (cG l deep) xs J
      some (.sl l i (v+1) 0 (n+m) w,bh r.2 l i (.cells (v+1) ((cs.drop off).take (n*w)++r.1)))
    else none
   |none=>none
  |_=>none
 |.TD os w bytes s x =>
  match bz e s with
  |.sl l i _ _ _ _=>if(os.all λt=>D.off l i (get e t))=true then(elems J w (bz e x)).bind λr=>if D.bd r.2=true then Mz e J w bytes s x else none else none
  |_=>none
 |.apz w bytes s x=>(Mz e J w bytes s x).map λr=>cG 0 deep r.1 r.2
 |.X5 w bytes x=>do
  let (m,xs)<-elems J w (bz e x)
  if m*bytes<=room then some (.bY m xs,J)else none
 |.cvz x =>
  match bz e x with
  |.sl l i v off n w =>
   if 0<n then
    match cells? J l i v with
    |some cs=>some (.bY n ((cs.drop off).take (n*w)),bh J l i .dead)
    |none=>none
   else none
  |_=>none
 |.bse=>some (.emp,J)
 |.ape w bytes v x =>
  match get e v with
  |.emp=>(elems J w (bz e x)).bind λr=>if r.1*bytes<=room then some (.bY r.1 r.2,J)else none
  |_=>none
 |.ext x i =>
  match bz e x with
  |.cV ds=>(ds[i]?).map (·,J)
  |_=>none
 |.ID o xs=>(gW o (xs.map (bz e))).map (·,J)
 |.mp o xs=>CW J o (xs.map (bz e))
 |.me o xs=>X8 J o (xs.map (bz e))
 |.W5 t x=>some (.tP t (bz e x),J)
 |.Yd t z x=>(Rk t z (bz e x)).map (·,J)
 |.ZA neg x=>(WB (bz e x)).map λb=>(.bool (if neg then !b else b),J)
 |.Xh _=>none
 |.PX=>none
 |.call _ _ _=>none
def R.dn:Option R->Option (D×SK)
 |some (.val d J)=>some (d,J)
 |_=>none
def R.TM:Option R->Option (Exit×Env×SK)
 |some (.EA e env J)=>some (e,env,J)
 |_=>none
def nV(O:bZ)(kp:Bool)(fv:D)(args:List D)(J:SK):Option (D×SK) :=
 match fv with
 |.fn f first cap=>R.dn (O (.call kp f (first++args++cap) J))
 |.kV l i=>R.dn (O (.round l i args J))
 |_=>none
def HV(O:bZ)(fv:D)(args:List D)(J:SK):Option (D×SK) :=
 match fv with
 |.fn f first cap=>R.dn (O (.call false f (first++args++cap) J))
 |_=>none
def wj(O:bZ)(op:Op)(e:Env)(J:SK):Option (Env×SK) :=
 match op.k with
 |.call kp f args =>
  match nV O kp (bz e f) (args.map (bz e)) J with
  |some (d,J')=>if op.CP=true->J'=J then some (put op.dst d e,J')else none
  |none=>none
 |.BJ nb cs =>
  match op.dst,j7 nb cs J with
  |some v,some (cs',J')=>some ((v,.own (tZ e v) cs')::e,J')
  |_,_=>none
 |.Fl x =>
  match op.dst,(bz e x).cells with
  |some v,some cs=>some ((v,.own (tZ e v) cs)::e,J)
  |_,_=>none
 |.HF v nb sz a x =>
  match pU e v a,(bz e x).cells with
  |some (s,cs,off),some p =>
   if p.length=sz/\off+sz<=cs.length then
    match j7 nb p J with
    |some (p',J')=>some ((v,.own s (cs.take off++p'++cs.drop (off+sz)))::e,J')
    |none=>none
   else none
  |_,_=>none
 |k=>(bR e J k).map λx=>(put op.dst x.1 e,x.2)
def D.bit:D->Option (Option Bool)
 |.bool b=>some (some b)
 |.cV []=>some none
 |_=>none
def kU(O:bZ):List Op->Env->SK->Option (Env×SK)
 |[],e,J=>some (e,J)
 |op::r,e,J =>
  match op.Ft with
  |none=>(wj O op e J).bind λx=>kU O r x.1 x.2
  |some (g,want) =>
   match(get e g).bit with
   |some y=>if y=some want then(wj O op e J).bind λx=>kU O r x.1 x.2 else kU O r (put op.dst (.cV []) e) J
   |none=>none
def D.pY:D->D
 |.aW => .bY 0 []
 |d=>d
def Gm(l i u:Nat)(J:SK):D×SK :=
 match cells? J l i u with
 |some cs=>let r:=cG.frzL (cG 0 deep) cs (bh J l i .dead);(.bf (r.1.map D.pY),r.2)
 |none=>(.undef,J)
def ZZ(v:Nat)(e:Env):Env :=
 match get e v with
 |.own _ cs=>if e.all (λp=>match p.2 with | .vr x _ _=>x != v | _=>true)then(v,.bf cs)::e else e
 |_=>e
def KQ(v:Nat)(e:Env)(J:SK):Env×SK :=
 match get e v with
 |.aW=>((v,.bY 0 [])::e,J)
 |.ref l i u 0=>let r:=Gm l i u J;((v,r.1)::e,r.2)
 |.own s cs=>((v,.own s (cs.map D.pY))::e,J)
 |.undef=>if 1000000<=v then(ZZ (v-1000000) e,J)else(e,J)
 |_=>(e,J)
def uQ:List Nat->Env->SK->Env×SK
 |[],e,J=>(e,J)
 |v::vs,e,J =>
  match get e v with
  |.sl l i u off m w=>let r:=cG 0 deep (.sl l i u off m w) J;uQ vs ((v,r.1)::e) r.2
  |.own s cs=>let r:=cG.frzL (cG 0 deep) cs J;uQ vs ((v,.own s r.1)::e) r.2
  |.agg cs=>uQ vs ((v,.agg (cs.map D.pY))::e) J
  |.undef=>if 1000000<=v then(let r:=KQ (v-1000000) e J;uQ vs r.1 r.2)else uQ vs e J
  |_=>uQ vs e J
def Cx(O:bZ)(fv:D)(args:List D)(J:SK):Option R :=
 match fv with
 |.fn f first cap=>O (.call false f (first++args++cap) J)
 |_=>none
def uf(O:bZ)(live:List Nat)(dst:Option Nat)(post:List Op)(e:Env):Option R->Option (Exit×Env×SK)
 |some (.val d J')=>(kU O post (put dst d e) J').map λy=>(.normal,restrict live y.1,y.2)
 |some (.ft d J')=>some (.ft d,e,J')
 |_=>none
def Iw(O:bZ)(live:List Nat)(op:Op)(post:List Op)(e:Env)(J:SK):Option (Exit×Env×SK) :=
 match op.Ft,op.k with
 |none,.call false f args=>uf O live op.dst post e (Cx O (bz e f) (args.map (bz e)) J)
 |none,.Xh x=>(match bz e x with
  |.tP t d=>if d.clean then some (.ft (.tP t d),e,J)else none
  |_=>none)
 |_,_=>none
def bq(O:bZ):cb->Env->SK->Option (Exit×Env×SK)
 |.IX,e,J=>some (.normal,e,J)
 |.cG vs,e,J=>let r:=uQ vs e J;some (.normal,r.1,r.2)
 |.rM live ops,e,J=>(kU O ops e J).map λx=>(.normal,restrict live x.1,x.2)
 |.seq a b,e,J=>(bq O a e J).bind λx =>
  match x.1 with
  |.normal=>bq O b x.2.1 x.2.2
  |_=>some x
 |.ite c a b,e,J =>
  match bz e c with
  |.bool t=>if t then bq O a e J else bq O b e J
  |_=>none
 |.dC id a,e,J=>(bq O a e J).map λx =>
  match x.1 with
  |.exit j=>if j=id then(.normal,x.2)else x
  |_=>x
 |.loop live bH a,e,J=>R.TM (O (.loop live bH a e J))
 |.Nj live f params BL body,e,J =>
  match gA J (.loop {state:=0,yP:=none,env:=yW live e,params,BL,body })with
  |some (l,i,J1) =>
   match HV O (bz e f) [.kV l i] J1 with
   |some (_,J2) =>
    match ea J2 l i with
    |some (.loop lp) =>
     if lp.state=1 then none else
     some (lp.yP.getD .normal,restrict live e,bh J2 l i (.loop {lp with state:=3 }))
    |_=>none
   |none=>none
  |none=>none
 |.iq live it nx ok b a rest,e,J=>R.TM (O (.iq live it nx ok b a rest e J))
 |.PQ live pre op post,e,J=>(kU O pre e J).bind λx=>Iw O live op post x.1 x.2
 |.TN ..,_,_=>none
 |.sgm a,e,J=>(bq O a e ([]::J)).map λx=>(x.1,(oV (J.length-1) (restrict (keys x.2.1) x.2.1) x.2.2).1,(oV (J.length-1) (restrict (keys x.2.1) x.2.1) x.2.2).2.tail)
 |.exit id,e,J=>some (.exit id,e,J)
 |.ret,e,J=>some (.ret,e,J)
inductive FO where
 |t (n:Nat)
 |c (n:Nat) (ag:Bool) (sz:Nat)
 |v (n:Nat) (ag:Bool) (sz:Nat)
structure Fn where
 QS:Nat
 res:List FO
 body:cb
def Km(e:Env)(J:SK):FO->Option D
 |.t n=>some (get e n).strip
 |.c n ag sz=>(bR e J (.ld ag sz (.t n))).map (·.1)
 |.v n ag sz=>(bR e J (.UL n ag sz n)).map (·.1)
def Bz(e:Env)(J:SK):List FO->Option (List D)
 |[]=>some []
 |r::rs=>(Km e J r).bind λd=>(Bz e J rs).map λds=>d::ds
def tR:List D->D
 |[d]=>d
 |ds => .cV ds
def lZ(n:Nat):List D->Env
 |[]=>[]
 |d::ds=>(n,d)::lZ (n+1) ds
def Ck:List Nat->List D->Env->Env
 |t::ts,d::ds,e=>Ck ts ds ((t,d)::e)
 |_,_,e=>e
abbrev Ad:=Nat->Option Fn
def Wz:List D->Option (List Int)
 |[]=>some []
 |.int .i64 z::r=>(Wz r).map (z :: ·)
 |_=>none
def Zy(x:Int):List Int->List Int
 |[]=>[x]
 |y::l=>if x<=y then x::y::l else y::Zy x l
def S3:List Int->List Int
 |[]=>[]
 |x::l=>Zy x (S3 l)
def Wx(l:List Int):List D:=l.map (.int .i64)
def Ow(x:Int):List Int->List Int
 |[]=>[]
 |y::l=>if y=x then Ow x l else y::Ow y l
def Lp:List Int->List Int
 |[]=>[]
 |x::l=>x::Ow x l
def W9(k:Nat)(zs:List Int):List Int:=if k=1 then S3 zs else Lp zs++List.replicate (zs.length-(Lp zs).length) 0
def ac7(k l i v off:Nat)(zs:List Int):D:=if k=1 then .cV []else .sl l i v off (Lp zs).length 1
def agd(k:Nat)(args:List D)(J:SK):Option R :=
 match args with
 |[.sl l i v off n w] =>
  if n≠0/\w=1/\n<=1000000 then
   match cells? J l i v with
   |some cs =>
    if off+n<=cs.length then
     match Wz ((cs.drop off).take n)with
     |some zs=>some (.val (ac7 k l i v off zs) (bh J l i (.cells v (cs.take off++Wx (W9 k zs)++cs.drop (off+n)))))
     |none=>none
    else none
   |none=>none
  else none
 |_=>none
def uM:Nat->Nat->List UInt8
 |0,_=>[]
 |k+1,u=>if u<10 then [UInt8.ofNat (48+u)]else uM k (u / 10)++[UInt8.ofNat (48+u%10)]
def DD(n:Int):List UInt8:=if n<0 then 45::uM 20 n.natAbs else uM 20 n.toNat
def Cs:List D->Option (List (List UInt8))
 |[]=>some []
 |.str s::r=>(Cs r).map (s :: ·)
 |_=>none
def Sr(sep:List UInt8):List (List UInt8)->List UInt8
 |[]=>[]
 |x::r=>x++fM r (sep ++ ·)
def db(b:UInt8):List UInt8->List (List UInt8)
 |[]=>[[]]
 |c::r=>if c=b then []::db b r else match db b r with
  |x::l=>(c::x)::l
  |[]=>[[c]]
def rj(s:List UInt8):Nat×Int :=
 match Lib.atoiAll s with
 |.ok v=>(0,v)
 |Lib.NumEnd.syntax=>(1,0)
 |.range=>(2,Lib.atoiSat s)
def AS(a b:Nat)(xs:List (List UInt8)):List (List UInt8):=xs.take a++xs.drop b++List.replicate (b-a) []
def Hp(k:Nat)(args:List D)(J:SK):Option R :=
 match k%16,args with
 |3,[.int .i64 n]=>if -9223372036854775808<=n/\n<=9223372036854775807 then some (.val (.str (DD n)) J)else none
 |4,[.str s]=>if s.length<=1000000 then some (.val (.cV [.int .i64 (rj s).2,if(rj s).1=0 then .nQ else .tP (k / 16) .undef]) J)else none
 |5,[.bY n cs,.str sep] =>
  match Cs cs with
  |some xs=>if n=xs.length/\n<=1000/\(Sr sep xs).length<=1000000 then some (.val (.str (Sr sep xs)) J)else none
  |none=>none
 |6,[.str s,.str [b]]=>if s.length<=1000000 then some (.val (.bY (db b s).length ((db b s).map .str)) J)else none
 |7,[.kV l i,.str s] =>
  match cells? J l i 2 with
  |some [.int .i64 t,.int .i64 e,.str bs] =>
   if t=((k / 16%65536:Nat):Int)/\e=((k / 16 / 65536:Nat):Int)/\bs.length+s.length<=1000000 then
    some (.val (.cV [.int .i64 s.length,.nQ]) (bh J l i (.cells 2 [.int .i64 t,.int .i64 e,.str (bs++s)])))
   else none
  |_=>none
 |8,[.kV l i] =>
  match cells? J l i 2 with
  |some [.int .i64 t,.int .i64 e,.str bs]=>if t=((k / 16%65536:Nat):Int)/\e=((k / 16 / 65536:Nat):Int)/\bs≠[]then some (.val (.str bs) J)else none
  |_=>none
 |9,[.sl l i v off n w,.int .i64 a,.int .i64 b] =>
  if n≠0/\w=1/\n<=1000000/\0<=a/\a<=b/\b<=(n:Int)then
   match cells? J l i v with
   |some cs =>
    if off+n<=cs.length then
     match Cs ((cs.drop off).take n)with
     |some xs=>some (.val (.sl l i v off (n-(b.toNat-a.toNat)) 1) (bh J l i (.cells v (cs.take off++(AS a.toNat b.toNat xs).map .str++cs.drop (off+n)))))
     |none=>none
    else none
   |none=>none
  else none
 |0,_=>none
 |9,_=>none
 |10,_=>none
 |11,_=>none
 |12,_=>none
 |13,_=>none
 |14,_=>none
 |15,_=>none
 |1,args=>agd 1 args J
 |2,args=>agd 2 args J
 |_,_=>none
def Ik(J:SK)(l i:Nat):Option (D×Nat×List D×List Nat) :=
 match cells? J l i 1 with
 |some (m::.int .i64 n::js) =>
  match CV J m with
  |some (_,_,es)=>if(es.length:Int)=n then some (m,es.length,js,(List.range es.length).filter λj => !(js.contains (.int .i64 j)))else none
  |none=>none
 |_=>none
def CZ:List (Option R)->Option R
 |[]=>none
 |r::rs=>if ∀x∈rs,x=r then r else none
def yH(O:bZ)(l i b:Nat)(rest:cb):Option (Exit×Env×SK)->Option R
 |some (.exit j,e1,J1) =>
  if j=b then(bq O rest e1 (bh J1 l i .dead)).map λx => .EA x.1 x.2.1 x.2.2
  else some (.EA (.exit j) e1 (bh J1 l i .dead))
 |some (.ret,e1,J1)=>some (.EA .ret e1 (bh J1 l i .dead))
 |_=>none
def CO(O:bZ)(live:List Nat)(it:bP)(l i nx ok b:Nat)(c rest:cb):Option (Exit×Env×SK)->Option R
 |some (.normal,e1,J1)=>O (.iq live it nx ok b c rest e1 J1)
 |y=>yH O l i b rest y
def iB:cb->Option (cb×bP×List bP×cb)
 |.TN f args q=>some (.IX,f,args,q)
 |.seq a b=>(iB b).map λx=>(.seq a x.1,x.2)
 |_=>none
def Rl(kp:Bool)(d:D):SK->Option R
 |_::J=>if kp=false/\d.clean=true then some (.ft d J)else none
 |[]=>none
def leave(res:List FO)(J:SK)(e:Env)(J1:SK):Option R :=
 match Bz e J1 res with
 |some ds=>(match cG (J.length-1) deep (tR ds) J1 with
  |(d,_::J2)=>some (.val d J2)
  |_=>none)
 |none=>none
def o4(O:bZ)(fv:D)(args:List D)(th:Option D)(J:SK):Option R :=
 match fv with
 |.fn f first cap=>O (.zg f (first++args++cap) th J)
 |_=>none
def uN(res:List FO)(J:SK)(e:Env):Option R->Option R
 |some (.val _ J1)=>leave res J e J1
 |_=>none
def AT(O:bZ)(res:List FO)(J:SK)(fv:D)(args:List D):Option (Exit×Env×SK)->Option R
 |some (.ft d,e,J1)=>uN res J e (o4 O fv args (some d) J1)
 |some (.normal,e,J1)=>uN res J e (o4 O fv args none J1)
 |some (.ret,e,J1)=>uN res J e (o4 O fv args none J1)
 |_=>none
def AR(O:bZ)(fn:Fn)(J:SK):Option (cb×bP×List bP×cb)->Env->SK->Option R
 |some (a,f,args,q),e0,J0 =>
  (match bq O a e0 J0 with
  |some (.normal,e,J1)=>AT O fn.res J (bz e f) (args.map (bz e)) (bq O q e J1)
  |_=>none)
 |none,_,_=>none
def ri(th:Option D)(args:List D):cb->Option (Env×cb)
 |.seq (.rM live [⟨some t,none,_,.PX⟩]) q=>(match q with
  |.iq .. => none
  |q=>some (restrict live ((t,th.getD .nQ)::lZ 0 args),q))
 |_=>none
def du(T:Ad)(O:bZ):Q->Option R
 |.call kp f args J =>
  match T f with
  |some fn =>
   if args.length=fn.QS then
    match bq O fn.body (lZ 0 args) (if kp then J else []::J)with
    |some (.exit _,_,_)=>none
    |some (.ft d,_,J1)=>Rl kp d J1
    |some (_,e,J1) =>
     match Bz e J1 fn.res with
     |some ds =>
      if kp then some (.val (tR ds) J1)else
      match cG (J.length-1) deep (tR ds) J1 with
      |(d,_::J2)=>some (.val d J2)
      |_=>none
     |none=>none
    |none=>if kp then none else AR O fn J (iB fn.body) (lZ 0 args) ([]::J)
   else none
  |none =>
   match T (1000000+f)with
   |some fn=>Hp fn.QS args J
   |none=>none
 |.loop live bH c e J =>
  match bq O c (restrict live e) (if bH then []::J else J)with
  |some (x,e1,J1) =>
   let (e2,J2):=if bH then(let r:=oV (J.length-1) (restrict (AI live x e1) e1) J1;(r.1,r.2.tail))else(e1,J1)
   match x with
   |.normal=>O (.loop live bH c e2 J2)
   |x=>some (.EA x e2 J2)
  |none=>none
 |.round l i args J =>
  match ea J l i with
  |some (.loop lp) =>
   if args.length=lp.params.length then
    match bq O lp.BL (Ck lp.params args lp.env) ([]::J)with
    |some (.normal,e1,J1) =>
     match ea J1 l i with
     |some (.loop lp1) =>
      if lp1.state=0 then
       match bq O lp.body e1 (bh J1 l i (.loop {lp1 with state:=1 }))with
       |some (x,_,_::J2) =>
        match ea J2 l i with
        |some (.loop lp2) =>
         match x with
         |.ft _=>none
         |.normal=>some (.val (.bool true) (bh J2 l i (.loop {lp2 with state:=0,yP:=none })))
         |x=>some (.val (.bool false) (bh J2 l i (.loop {lp2 with state:=2,yP:=some x })))
        |_=>none
       |_=>none
      else none
     |_=>none
    |_=>none
   else none
  |_=>none
 |.iq live it nx ok b c rest e J =>
  match bz (restrict live e) it with
  |.kV l i =>
   match Ik J l i with
   |some (_,_,_,[])=>yH O l i b rest (bq O c ((ok,.bool false)::(nx,.undef)::restrict live e) J)
   |some (m,n,js,us)=>CZ (us.map λu=>CO O live it l i nx ok b c rest (bq O c ((ok,.bool true)::(nx,.undef)::restrict live e) (bh J l i (.cells 1 (m::.int .i64 (n:Nat)::.int .i64 (u:Nat)::js)))))
   |none=>none
  |_=>none
 |.zg f args th J =>
  match T f with
  |some fn =>
   if args.length=fn.QS then
    match ri th args fn.body with
    |some (e0,q) =>
     match bq O q e0 ([]::J)with
     |some (.exit _,_,_)=>none
     |some (.ft _,_,_)=>none
     |some (_,e,J1) =>
      match Bz e J1 fn.res,J1 with
      |some [],_::J2=>some (.val (.cV []) J2)
      |_,_=>none
     |none=>none
    |none=>none
   else none
  |none=>none
def it(T:Ad):Nat->bZ
 |0=>λ_=>none
 |n+1=>du T (it T n)
open Classical in
noncomputable def dj(T:Ad):bZ:=λq =>
 if h:∃n r,it T n q=some r then some h.choose_spec.choose else none
end Go.Abs
