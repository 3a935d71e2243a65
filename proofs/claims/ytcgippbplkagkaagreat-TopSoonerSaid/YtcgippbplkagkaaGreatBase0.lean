import GoSem.Core.View
import Derived.Lib.AtoiAll
set_option linter.all false
namespace Go
theorem ab:type_of%@Option.map_eq_some_iff:=@Option.map_eq_some_iff
theorem ae:type_of%@Option.some.injEq:=@Option.some.injEq
theorem ak:type_of%@Bool.and_eq_true:=@Bool.and_eq_true
theorem ah:type_of%@Option.bind_eq_some_iff:=@Option.bind_eq_some_iff
theorem aG:type_of%@List.map_cons:=@List.map_cons
theorem aj:type_of%@List.mem_of_getElem?:=@List.mem_of_getElem?
theorem aq:type_of%@List.take_of_length_le:=@List.take_of_length_le
theorem ai:type_of%@Prod.mk.injEq:=@Prod.mk.injEq
theorem bf:type_of%@List.map_nil:=@List.map_nil
theorem av:type_of%@decide_eq_true_eq:=@decide_eq_true_eq
theorem al:type_of%@Bool.false_eq_true:=@Bool.false_eq_true
theorem aJ:type_of%@Option.ite_none_right_eq_some:=@Option.ite_none_right_eq_some
theorem an:type_of%@List.getElem?_eq_some_iff:=@List.getElem?_eq_some_iff
theorem az:type_of%@List.drop_eq_nil_of_le:=@List.drop_eq_nil_of_le
theorem aw:type_of%@Nat.le_refl:=@Nat.le_refl
theorem bq:type_of%@List.length_cons:=@List.length_cons
theorem au:type_of%@List.getElem?_eq_getElem:=@List.getElem?_eq_getElem
theorem aC:type_of%@Option.bind_eq_bind:=@Option.bind_eq_bind
theorem aO:type_of%@List.drop_zero:=@List.drop_zero
theorem aM:type_of%@Option.map_some:=@Option.map_some
theorem oi:type_of%@List.length_pos_iff:=@List.length_pos_iff
theorem bR:type_of%@List.nil_append:=@List.nil_append
theorem bk:type_of%@List.flatMap_cons:=@List.flatMap_cons
theorem bj:type_of%@List.mem_cons:=@List.mem_cons
theorem aX:type_of%@List.mem_append:=@List.mem_append
theorem bE:type_of%@Int.tdiv_eq_ediv_of_nonneg:=@Int.tdiv_eq_ediv_of_nonneg
theorem ch:type_of%@List.length_nil:=@List.length_nil
theorem bp:type_of%@List.mem_map:=@List.mem_map
theorem bS:type_of%@List.length_append:=@List.length_append
theorem dJ:type_of%@List.length_eq_zero_iff:=@List.length_eq_zero_iff
theorem lV:type_of%@Bool.or_eq_true:=@Bool.or_eq_true
theorem bz:type_of%@Array.getD_eq_getD_getElem?:=@Array.getD_eq_getD_getElem?
theorem bH:type_of%@List.getElem?_cons_zero:=@List.getElem?_cons_zero
theorem dA:type_of%@Nat.zero_add:=@Nat.zero_add
theorem wz:type_of%@List.mem_filter:=@List.mem_filter
theorem gZ:type_of%@List.length_map:=@List.length_map
theorem bL:type_of%@List.drop_length_add_append:=@List.drop_length_add_append
theorem cW:type_of%@Array.getElem?_eq_some_iff:=@Array.getElem?_eq_some_iff
theorem mc:type_of%@Nat.mul_one:=@Nat.mul_one
theorem bW:type_of%@Nat.mul_le_mul_right:=@Nat.mul_le_mul_right
theorem cq:type_of%@List.mem_of_mem_take:=@List.mem_of_mem_take
theorem cH:type_of%@Nat.add_assoc:=@Nat.add_assoc
theorem gq:type_of%@List.flatMap_nil:=@List.flatMap_nil
theorem b8:type_of%@Option.isSome_iff_exists:=@Option.isSome_iff_exists
theorem kh:type_of%@List.ext_getElem?:=@List.ext_getElem?
theorem dR:type_of%@Bool.not_eq_true':=@Bool.not_eq_true'
theorem bZ:type_of%@List.getElem?_take:=@List.getElem?_take
theorem dz:type_of%@List.append_nil:=@List.append_nil
theorem cp:type_of%@List.mem_of_mem_drop:=@List.mem_of_mem_drop
theorem eS:type_of%@Nat.succ_mul:=@Nat.succ_mul
theorem cf:type_of%@Int.toNat_of_nonneg:=@Int.toNat_of_nonneg
theorem oI:type_of%@Int.mul_nonneg:=@Int.mul_nonneg
theorem nf:type_of%@List.singleton_append:=@List.singleton_append
theorem bT:type_of%@List.getElem?_eq_none:=@List.getElem?_eq_none
theorem dK:type_of%@Option.getD_some:=@Option.getD_some
theorem dI:type_of%@List.cons_append:=@List.cons_append
theorem gl:type_of%@Array.toList_inj:=@Array.toList_inj
theorem fQ:type_of%@Nat.le_trans:=@Nat.le_trans
theorem eG:type_of%@List.getElem?_drop:=@List.getElem?_drop
theorem eo:type_of%@Nat.add_mul:=@Nat.add_mul
theorem cX:type_of%@List.getElem?_of_mem:=@List.getElem?_of_mem
theorem vl:type_of%@Int.mul_le_mul_of_nonneg_right:=@Int.mul_le_mul_of_nonneg_right
theorem iO:type_of%@List.flatMap_append:=@List.flatMap_append
theorem lI:type_of%@List.all_cons:=@List.all_cons
theorem AB:type_of%@List.length_filter_le:=@List.length_filter_le
theorem eE:type_of%@List.getElem?_toArray:=@List.getElem?_toArray
theorem ek:type_of%@List.cons.injEq:=@List.cons.injEq
theorem kc:type_of%@Array.getElem?_modify:=@Array.getElem?_modify
theorem cl:type_of%@List.getElem?_map:=@List.getElem?_map
theorem pc:type_of%@List.append_assoc:=@List.append_assoc
theorem acN:type_of%@List.getElem?_mapIdx:=@List.getElem?_mapIdx
theorem dn:type_of%@List.getElem?_append_left:=@List.getElem?_append_left
theorem gw:type_of%@List.drop_drop:=@List.drop_drop
theorem r7:type_of%@Int.mul_le_mul:=@Int.mul_le_mul
theorem bO:type_of%@List.length_take:=@List.length_take
theorem gp:type_of%@List.all_eq_true:=@List.all_eq_true
theorem jA:type_of%@Int.le_total:=@Int.le_total
theorem gE{α:Type}{l:List α}{i:Nat}(h:i<l.length):∃x,l[i]?=some x:=⟨_,au h⟩
end Go
namespace Go.Abs
inductive D where
 |undef
 |bool (b:Bool)
 |int (k:IntKind) (n:Int)
 |str (s:List UInt8)
 |agg (cs:List D)
 |fj (cs:List D)
 |nd
 |ref (l i v off:Nat)
 |aK (cs:List D)
 |bw
 |aE (n:Nat) (cs:List D)
 |sl (l i v off n w:Nat)
 |fn (f:Nat) (first cap:List D)
 |pO
 |iN (l i:Nat)
 |own (s:Nat) (cs:List D)
 |vr (x s off:Nat)
 |o9 (t:Nat) (d:D)
 |kL
 |emp
 deriving Inhabited
mutual
def D.same:D→D→Bool
 |.undef,.undef=>true
 |.bool a,.bool b=>a == b
 |.int k n,.int k' n'=>k == k' && n == n'
 |.str a,.str b=>a == b
 |.agg a,.agg b=>D.pz a b
 |.fj a,.fj b=>D.pz a b
 |.nd,.nd=>true
 |.ref a b c d,.ref a' b' c' d'=>a == a' && b == b' && c == c' && d == d'
 |.aK a,.aK b=>D.pz a b
 |.bw,.bw=>true
 |.aE n a,.aE m b=>n == m && D.pz a b
 |.sl a b c d e f,.sl a' b' c' d' e' f'=>a == a' && b == b' && c == c' && d == d' && e == e' && f == f'
 |.fn f a b,.fn f' a' b'=>f == f' && D.pz a a' && D.pz b b'
 |.pO,.pO=>true
 |.iN a b,.iN a' b'=>a == a' && b == b'
 |.own s a,.own s' b=>s == s' && D.pz a b
 |.vr a b c,.vr a' b' c'=>a == a' && b == b' && c == c'
 |.o9 t a,.o9 t' b=>t == t' && D.same a b
 |.kL,.kL=>true
 |.emp,.emp=>true
 |_,_=>false
def D.pz:List D→List D→Bool
 |[],[]=>true
 |a::as,b::bs=>D.same a b && D.pz as bs
 |_,_=>false
end
mutual
theorem Ap:∀{a b:D},D.same a b=true→a=b
 |.undef,b,h=>by cases b<;>simp[D.same]at h;rfl
 |.bool _,b,h=>by cases b<;>simp[D.same]at h;rw[h]
 |.int _ _,b,h=>by cases b<;>simp[D.same]at h;rw[h.1,h.2]
 |.str _,b,h=>by cases b<;>simp[D.same]at h;rw[h]
 |.agg _,b,h=>by cases b<;>simp[D.same]at h;rw[oe h]
 |.fj _,b,h=>by cases b<;>simp[D.same]at h;rw[oe h]
 |.nd,b,h=>by cases b<;>simp[D.same]at h;rfl
 |.ref ..,b,h=>by cases b<;>simp[D.same]at h;simp[h]
 |.aK _,b,h=>by cases b<;>simp[D.same]at h;rw[oe h]
 |.bw,b,h=>by cases b<;>simp[D.same]at h;rfl
 |.aE ..,b,h=>by cases b<;>simp[D.same]at h;rw[h.1,oe h.2]
 |.sl ..,b,h=>by cases b<;>simp[D.same]at h;simp[h]
 |.fn ..,b,h=>by cases b<;>simp[D.same]at h;rw[h.1.1,oe h.1.2,oe h.2]
 |.pO,b,h=>by cases b<;>simp[D.same]at h;rfl
 |.iN ..,b,h=>by cases b<;>simp[D.same]at h;simp[h]
 |.own ..,b,h=>by cases b<;>simp[D.same]at h;rw[h.1,oe h.2]
 |.vr ..,b,h=>by cases b<;>simp[D.same]at h;simp[h]
 |.o9 _ a,b,h=>by cases b<;>simp[D.same]at h;rw[h.1,Ap h.2]
 |.kL,b,h=>by cases b<;>simp[D.same]at h;rfl
 |.emp,b,h=>by cases b<;>simp[D.same]at h;rfl
theorem oe:∀{a b:List D},D.pz a b=true→a=b
 |[],[],_=>rfl
 |[],_::_,h=>by simp[D.pz]at h
 |_::_,[],h=>by simp[D.pz]at h
 |a::as,b::bs,h=>by
  simp only[D.pz,ak]at h;rw[Ap h.1,oe h.2]
end
mutual
theorem vQ:∀(a:D),D.same a a=true
 |.undef=>rfl
 |.bool b=>by simp[D.same]
 |.int k n=>by simp[D.same]
 |.str s=>by simp[D.same]
 |.agg a=>by simp[D.same,kU a]
 |.fj a=>by simp[D.same,kU a]
 |.nd=>rfl
 |.ref .. => by simp[D.same]
 |.aK a=>by simp[D.same,kU a]
 |.bw=>rfl
 |.aE n a=>by simp[D.same,kU a]
 |.sl .. => by simp[D.same]
 |.fn f a b=>by simp[D.same,kU a,kU b]
 |.pO=>rfl
 |.iN .. => by simp[D.same]
 |.own s a=>by simp[D.same,kU a]
 |.vr .. => by simp[D.same]
 |.o9 t a=>by simp[D.same,vQ a]
 |.kL=>rfl
 |.emp=>rfl
theorem kU:∀(a:List D),D.pz a a=true
 |[]=>rfl
 |a::as=>by simp[D.pz,vQ a,kU as]
end
instance:DecidableEq D:=fun a b=>if h:D.same a b=true then isTrue (Ap h)else isFalse fun e=>h (e ▸ vQ a)
inductive ba where
 |t (n:Nat)
 |c (d:D)
 deriving Inhabited,DecidableEq
inductive Pu where
 |wL
 |sO
 |Wc
 |E1 (lo hi:Bool)
 |seq (neg:Bool)
 deriving Inhabited,DecidableEq
def wV:Pu→List D→Option D
 |.wL,[.str s]=>some (.int .i64 s.length)
 |.sO,[.str s,.int _ i]=>if 0≤i then(s[i.toNat]?).map fun b => .int .u8 b.toNat else none
 |.Wc,[.str a,.str b]=>if a.length+b.length≤4611686018427387904 then some (.str (a++b))else none
 |.E1 true true,[.str s,.int _ i,.int _ j]=>if 0≤i∧i≤j∧j≤s.length then some (.str ((s.drop i.toNat).take (j.toNat-i.toNat)))else none
 |.E1 true false,[.str s,.int _ i]=>if 0≤i∧i≤s.length then some (.str (s.drop i.toNat))else none
 |.E1 false true,[.str s,.int _ j]=>if 0≤j∧j≤s.length then some (.str (s.take j.toNat))else none
 |.E1 false false,[.str s]=>some (.str s)
 |.seq neg,[.str a,.str b]=>some (.bool (if neg then !(a == b)else a == b))
 |_,_=>none
abbrev Ky:=Option (Bool×List (Option IntKind))
inductive Mo where
 |make
 |o7 (t e:Nat)
 |get (ky:Ky) (zero:D) (ok:Bool)
 |put (ky:Ky)
 |len
 |ZP
 |Wq
 deriving Inhabited,DecidableEq
inductive Me where
 |b2s
 |s2b
 |s2a (n w:Nat)
 |peq (neg:Bool)
 deriving Inhabited,DecidableEq
inductive K where
 |mv (x:ba)
 |rC (w:Nat)
 |pick (c a b:ba)
 |Ch (nb:List (Nat×Nat)) (cs:List D)
 |fR (nb:List (Nat×Nat)) (cs:List D)
 |yC (x:ba)
 |xr (x:ba)
 |JW (nb:List (Nat×Nat)) (x:ba)
 |xu (x:ba)
 |o7 (zero:List D) (parts:List (Nat×Nat×ba))
 |wH (n w:Nat) (zero:List D) (parts:List (Nat×Nat×ba))
 |Fb (n w:Nat) (zero:List D) (parts:List (Nat×Nat×ba))
 |ld (ag:Bool) (sz:Nat) (a:ba)
 |AD (ag:Bool) (sz:Nat) (a:ba)
 |JZ (ag:Bool) (sz:Nat) (a:ba)
 |KT (ps neg:Bool) (x:ba)
 |uj (x:ba)
 |st (nb:List (Nat×Nat)) (sz:Nat) (a x:ba)
 |E3 (os:List Nat) (sz:Nat) (a x:ba)
 |Ff (v:Nat) (ag:Bool) (sz:Nat) (a:Nat)
 |wM (v:Nat) (nb:List (Nat×Nat)) (sz:Nat) (a:Nat) (x:ba)
 |bin (o:BinOp) (x y:ba)
 |eqv (ag:Bool) (ks:List (Option IntKind)) (neg:Bool) (x y:ba)
 |un (o:UnOp) (x:ba)
 |Fc (k:IntKind) (x:ba)
 |wo (f:Nat) (first cap:List ba)
 |Jl (w bytes:Nat) (zero:List D) (l c:ba)
 |Lf (w:Nat) (x:ba) (lo hi mx:Option ba)
 |CW (len w:Nat) (x:ba) (lo hi:Option ba)
 |yG (off:Nat) (x:ba)
 |Wu (ag:Bool) (off sz:Nat) (x:ba)
 |lH (len w:Nat) (x i:ba)
 |wI (w:Nat) (x i:ba)
 |Bp (ag:Bool) (len w:Nat) (x i:ba)
 |yK (x:ba)
 |CA (n:Nat)
 |mn (x y:ba)
 |mx (x y:ba)
 |app (w bytes:Nat) (s x:ba)
 |JU (os:List Nat) (w bytes:Nat) (s x:ba)
 |JV (w bytes:Nat) (s x:ba)
 |Un (w bytes:Nat) (x:ba)
 |Ur (x:ba)
 |Wn
 |Uh (w bytes v:Nat) (x:ba)
 |ext (x:ba) (i:Nat)
 |uA (o:Pu) (xs:List ba)
 |mp (o:Mo) (xs:List ba)
 |me (o:Me) (xs:List ba)
 |To (t:Nat) (x:ba)
 |Ll (t:Nat) (zero:Option D) (x:ba)
 |KS (neg:Bool) (x:ba)
 |Fg (x:ba)
 |CQ
 |call (kp:Bool) (f:ba) (args:List ba)
 deriving Inhabited,DecidableEq
structure Op where
 dst:Option Nat
 uf:Option (Nat×Bool)
 rU:Bool
 k:K
 deriving Inhabited,DecidableEq
inductive bQ where
 |ei
 |cb (vs:List Nat)
 |cL (live:List Nat) (ops:List Op)
 |seq (a b:bQ)
 |ite (c:ba) (a b:bQ)
 |bu (id:Nat) (a:bQ)
 |loop (live:List Nat) (oE:Bool) (a:bQ)
 |Al (live:List Nat) (f:ba) (params:List Nat) (q8 body:bQ)
 |ew (live:List Nat) (it:ba) (nx ok b:Nat) (a rest:bQ)
 |wN (live:List Nat) (pre:List Op) (op:Op) (post:List Op)
 |Ge (f:ba) (args:List ba) (rest:bQ)
 |exit (id:Nat)
 |ret
 |TM (a:bQ)
 deriving Inhabited,DecidableEq
inductive Exit where
 |normal
 |exit (id:Nat)
 |ret
 |eR (d:D)
 deriving Inhabited,DecidableEq
abbrev Env:=List (Nat×D)
def get:Env→Nat→D
 |[],_ => .undef
 |(k,v)::r,t=>if k=t then v else get r t
def put(d:Option Nat)(v:D)(e:Env):Env :=
 match d with
 |some t=>(t,v)::e
 |none=>e
def D.calm:D→D
 |.vr .. => .undef
 |.emp => .undef
 |.own _ cs => .own 0 cs
 |d=>d
def D.strip:D→D
 |.vr .. => .undef
 |.emp => .undef
 |.own .. => .undef
 |d=>d
def restrict(live:List Nat)(e:Env):Env:=live.map fun t=>(t,(get e t).calm)
def keys(e:Env):List Nat:=(e.map (·.1)).eraseDups
def o5(live:List Nat)(e:Env):Env:=live.map fun t=>(t,(get e t).strip)
def pM(live:List Nat)(x:Exit)(e:Env):List Nat :=
 match x with
 |.normal=>live
 |_=>keys e
structure oJ where
 state:Nat
 oV:Option Exit
 env:Env
 params:List Nat
 q8:bQ
 body:bQ
 deriving DecidableEq
inductive aF where
 |cells (v:Nat) (cs:List D)
 |dead
 |loop (l:oJ)
 deriving DecidableEq
abbrev SK:=List (List aF)
def gv:SK→Nat→Option (List aF)
 |[],_=>none
 |s::σ,l=>if σ.length=l then some s else gv σ l
def eP:SK→Nat→List aF→SK
 |[],_,_=>[]
 |s::σ,l,s'=>if σ.length=l then s'::σ else s::eP σ l s'
def cM(σ:SK)(l i:Nat):Option aF:=(gv σ l).bind (·[i]?)
def aN(σ:SK)(l i:Nat)(b:aF):SK :=
 match gv σ l with
 |some s=>eP σ l (s.set i b)
 |none=>σ
def cells?(σ:SK)(l i v:Nat):Option (List D) :=
 match cM σ l i with
 |some (.cells v' cs)=>if v'=v then some cs else none
 |_=>none
def dP(σ:SK)(b:aF):Option (Nat×Nat×SK) :=
 match σ with
 |[]=>none
 |s::σ'=>some (σ'.length,s.length,(s++[b])::σ')
mutual
def D.clean:D→Bool
 |.ref .. => false
 |.sl .. => false
 |.iN .. => false
 |.vr .. => true
 |.emp=>true
 |.own _ cs=>D.bF cs
 |.agg cs=>D.bF cs
 |.fj cs=>D.bF cs
 |.aK cs=>D.bF cs
 |.aE _ cs=>D.bF cs
 |.fn _ a b=>D.bF a && D.bF b
 |.undef=>true
 |.bool _=>true
 |.int _ _=>true
 |.str _=>true
 |.nd=>true
 |.bw=>true
 |.pO=>true
 |.o9 _ d=>D.clean d
 |.kL=>true
def D.bF:List D→Bool
 |[]=>true
 |d::ds=>D.clean d && D.bF ds
end
def cb(l:Nat):Nat→D→SK→D×SK
 |0,_,σ=>(.undef,σ)
 |n+1,d,σ =>
  if d.clean then(d,σ)else
  match d with
  |.agg cs=>let r:=frzL (cb l n) cs σ;(.agg r.1,r.2)
  |.fj cs=>let r:=frzL (cb l n) cs σ;(.fj r.1,r.2)
  |.aK cs=>let r:=frzL (cb l n) cs σ;(.aK r.1,r.2)
  |.aE m cs=>let r:=frzL (cb l n) cs σ;(.aE m r.1,r.2)
  |.own s cs=>let r:=frzL (cb l n) cs σ;(.own s r.1,r.2)
  |.fn f a b=>let r:=frzL (cb l n) a σ;let r':=frzL (cb l n) b r.2;(.fn f r.1 r'.1,r'.2)
  |.ref l' i v off=>if l'≤l then(.ref l' i v off,σ)else(.undef,σ)
  |.iN l' i=>if l'≤l then(.iN l' i,σ)else(.undef,σ)
  |.sl l' i v off m w =>
   if l'≤l then(.sl l' i v off m w,σ)else
   match cells? σ l' i v with
   |some cs=>let r:=frzL (cb l n) ((cs.drop off).take (m*w)) (aN σ l' i .dead);(.aE m r.1,r.2)
   |none=>(.undef,σ)
  |_=>(.undef,σ)
where
 frzL (f:D→SK→D×SK):List D→SK→List D×SK
  |[],σ=>([],σ)
  |d::ds,σ=>let r:=f d σ;let r':=frzL f ds r.2;(r.1::r'.1,r'.2)
def deep:Nat:=16
def kJ(l:Nat):Env→SK→Env×SK
 |[],σ=>([],σ)
 |(t,d)::e,σ=>let r:=cb l deep d σ;let r':=kJ l e r.2;((t,r.1)::r'.1,r'.2)
inductive Q where
 |call (kp:Bool) (f:Nat) (args:List D) (σ:SK)
 |loop (live:List Nat) (oE:Bool) (c:bQ) (env:Env) (σ:SK)
 |round (l i:Nat) (args:List D) (σ:SK)
 |ew (live:List Nat) (it:ba) (nx ok b:Nat) (c rest:bQ) (env:Env) (σ:SK)
 |so (f:Nat) (args:List D) (th:Option D) (σ:SK)
inductive R where
 |val (d:D) (σ:SK)
 |tJ (e:Exit) (env:Env) (σ:SK)
 |eR (d:D) (σ:SK)
 deriving DecidableEq
abbrev bd:=Q→Option R
def aR(e:Env):ba→D
 |.t n=>(get e n).strip
 |.c d=>d
def D.cells:D→Option (List D)
 |.agg cs=>some cs
 |.undef=>none
 |.fj _=>none
 |.own .. => none
 |.vr .. => none
 |.emp=>none
 |d=>some [d]
def D.row(ag:Bool)(d:D):Option (List D) :=
 match ag,d with
 |true,.agg cs=>some cs
 |true,_=>none
 |false,.agg _=>none
 |false,d=>d.cells
def lB(e:Env):List (Nat×Nat×ba)→List D→Option (List D)
 |[],cs=>some cs
 |(off,sz,x)::r,cs =>
  match(aR e x).cells with
  |some p=>if p.length=sz∧off+sz≤cs.length then lB e r (cs.take off++p++cs.drop (off+sz))else none
  |none=>none
def pV:List (Option IntKind)→List D→List D→Option Bool
 |[],[],[]=>some true
 |some k::ks,.int k1 a::x,.int k2 b::y=>if k1=k∧k2=k then(pV ks x y).map (a == b && ·)else none
 |none::ks,.bool a::x,.bool b::y=>(pV ks x y).map (a == b && ·)
 |_,_,_=>none
def nV(o:BinOp):D→D→Option D
 |.int k a,.int k' b =>
  match o with
  |.shl=>if b<0 then none else some (.int k (k.wrap (a*2^(min b.toNat k.bits))))
  |.shr=>if b<0 then none else some (.int k (a.fdiv (2^(min b.toNat k.bits))))
  |.add=>if k=k' then some (.int k (k.wrap (a+b)))else none
  |.sub=>if k=k' then some (.int k (k.wrap (a-b)))else none
  |.mul=>if k=k' then some (.int k (k.wrap (a*b)))else none
  |.quo=>if k=k'∧b≠0 then some (.int k (k.wrap (a.tdiv b)))else none
  |.rem=>if k=k'∧b≠0 then some (.int k (a.tmod b))else none
  |.and=>if k=k' then some (.int k (k.wrap ((BitVec.ofInt k.bits a &&& BitVec.ofInt k.bits b).toNat:Int)))else none
  |.or=>if k=k' then some (.int k (k.wrap ((BitVec.ofInt k.bits a ||| BitVec.ofInt k.bits b).toNat:Int)))else none
  |.xor=>if k=k' then some (.int k (k.wrap ((BitVec.ofInt k.bits a ^^^ BitVec.ofInt k.bits b).toNat:Int)))else none
  |.andNot=>none
  |.eql=>if k=k' then some (.bool (a == b))else none
  |.neq=>if k=k' then some (.bool (a != b))else none
  |.lss=>if k=k' then some (.bool (decide (a<b)))else none
  |.leq=>if k=k' then some (.bool (decide (a≤b)))else none
  |.gtr=>if k=k' then some (.bool (decide (a>b)))else none
  |.geq=>if k=k' then some (.bool (decide (a≥b)))else none
 |_,_=>none
def uV:D→Option Int
 |.int _ n=>some n
 |_=>none
def rO(e:Env)(m:Nat)(dfl:Option Nat):Option ba→Option Nat
 |some x=>match uV (aR e x)with
  |some n=>if 0≤n∧n≤m then some n.toNat else none
  |none=>none
 |none=>dfl
def bounds(len:Nat)(e:Env)(lo hi mx:Option ba):Option (Nat×Nat) :=
 (rO e len (some len) mx).bind fun m=>(rO e m (if mx.isSome then none else some len) hi).bind fun h=>(rO e h (some 0) lo).map fun l=>(l,h)
def oh(ky:Ky)(a b:D):Option Bool :=
 match ky with
 |none=>match a,b with
  |.str x,.str y=>some (x == y)
  |_,_=>none
 |some (ag,ks)=>match a.row ag,b.row ag with
  |some p,some q=>pV ks p q
  |_,_=>none
def nq(ky:Ky)(k:D):List D→Option (Option (Nat×D))
 |[]=>some none
 |.fj [k',v]::es =>
  match oh ky k k' with
  |some true=>some (some (0,v))
  |some false=>(nq ky k es).map fun x=>x.map fun y=>(y.1+1,y.2)
  |none=>none
 |_=>none
def tE(σ:SK):D→Option (Nat×Nat×List D)
 |.iN l i=>(cells? σ l i 0).map fun es=>(l,i,es)
 |_=>none
def vk(σ:SK):Mo→List D→Option (D×SK)
 |.make,[]=>(dP σ (.cells 0 [])).map fun x=>(.iN x.1 x.2.1,x.2.2)
 |.o7 t e,[]=>(dP σ (.cells 2 [.int .i64 (t:Nat),.int .i64 (e:Nat),.str []])).map fun x=>(.iN x.1 x.2.1,x.2.2)
 |.get ky zero ok,[m,k] =>
  match tE σ m with
  |some (_,_,es) =>
   if(oh ky k k).isSome then
    match nq ky k es with
    |some (some (_,v))=>some (if ok then .fj [v,.bool true]else v,σ)
    |some none=>some (if ok then .fj [zero,.bool false]else zero,σ)
    |none=>none
   else none
  |none=>none
 |.put ky,[m,k,v] =>
  match tE σ m with
  |some (l,i,es) =>
   if(oh ky k k).isSome∧(l+1=σ.length∨(k.clean∧v.clean))then
    match nq ky k es with
    |some (some (j,_))=>some (.undef,aN σ l i (.cells 0 (es.set j (.fj [k,v]))))
    |some none=>some (.undef,aN σ l i (.cells 0 (es++[.fj [k,v]])))
    |none=>none
   else none
  |none=>none
 |.len,[m]=>(tE σ m).map fun x=>(.int .i64 x.2.2.length,σ)
 |.ZP,[m] =>
  match tE σ m with
  |some (lm,im,es)=>(dP σ (.cells 1 [.iN lm im,.int .i64 es.length])).map fun x=>(.iN x.1 x.2.1,x.2.2)
  |none=>none
 |.Wq,[.iN l i] =>
  match cells? σ l i 1 with
  |some (m::.int .i64 n::.int .i64 j::_) =>
   match tE σ m with
   |some (_,_,es)=>if(es.length:Int)=n then
     match es[j.toNat]? with
     |some (.fj [k,v])=>some (.fj [k,v],σ)
     |_=>none
    else none
   |none=>none
  |_=>none
 |_,_=>none
def strCells(s:List UInt8):List D:=s.map fun b => .int .u8 b.toNat
def elems(σ:SK)(w:Nat):D→Option (Nat×List D)
 |.bw=>some (0,[])
 |.str s=>if w=1 then some (s.length,strCells s)else none
 |.aE n cs=>if cs.length=n*w then some (n,cs)else none
 |.sl l i v off n w' =>
  if w'=w then
   match cells? σ l i v with
   |some cs=>if off+n*w≤cs.length then some (n,(cs.drop off).take (n*w))else none
   |none=>none
  else none
 |_=>none
def ue:List D→Option (List UInt8)
 |[]=>some []
 |.int .u8 n::r=>(ue r).map (UInt8.ofNat n.toNat :: ·)
 |_=>none
def Vc(σ:SK):Me→List D→Option (D×SK)
 |.b2s,[.str _]=>none
 |.b2s,[x]=>(elems σ 1 x).bind fun r=>(ue r.2).map fun s=>(.str s,σ)
 |.s2b,[.str s]=>some (.aE s.length (strCells s),σ)
 |.s2a n w,[.aE m cs]=>if 0<n∧n≤m then some (.aK (cs.take (n*w)),σ)else none
 |.peq neg,[.ref l i v o,.ref l' i' v' o']=>if l=l'∧i=i'∧o=o'∧v=v'∧(cells? σ l i v).isSome then some (.bool (!neg),σ)else none
 |_,_=>none
def room:Nat:=2^46
def fP:List (Nat×Nat)→List D→SK→Option (List D×SK)
 |[],cs,σ=>some (cs,σ)
 |(p,w)::r,cs,σ =>
  match cs[p]? with
  |some .bw=>do
   let (l,i,σ')←dP σ (.cells 0 [])
   fP r (cs.set p (.sl l i 0 0 0 w)) σ'
  |_=>fP r cs σ
def lC(e:Env)(v a:Nat):Option (Nat×List D×Nat) :=
 match get e v with
 |.own s cs =>
  if a=v then some (s,cs,0)else
  match get e a with
  |.vr x s' off=>if x=v∧s'=s then some (s,cs,off)else none
  |_=>none
 |_=>none
def nu(e:Env)(v:Nat):Nat :=
 match get e v with
 |.own s _=>s+1
 |_=>0
def wq(σ:SK):D→Option (List D)
 |.aK cs=>some cs
 |.ref l i v off=>(cells? σ l i v).map (·.drop off)
 |_=>none
def K8(σ:SK):D→Option (List D)
 |.ref l i 0 off=>wq σ (.ref l i 0 off)
 |_=>none
def Aa(ps:Bool)(d:D):Option Bool :=
 match ps,d with
 |true,.nd=>some true
 |true,.aK _=>some false
 |true,.ref .. => some false
 |false,.bw=>some true
 |false,.aE n _=>if n=0 then none else some false
 |false,.sl _ _ _ _ n _=>if n=0 then none else some false
 |_,_=>none
def C4(t:Nat)(z:Option D):D→Option D
 |.o9 t' d=>match z with
  |some z=>some (if t'=t then .fj [d,.bool true]else .fj [z,.bool false])
  |none=>if t'=t then some d else none
 |.kL=>z.map fun z => .fj [z,.bool false]
 |_=>none
def I8:D→Option Bool
 |.kL=>some true
 |.o9 .. => some false
 |_=>none
def D.off(l i:Nat):D→Bool
 |.ref l' i' _ _=>decide (¬(l'=l∧i'=i))
 |_=>true
def zQ(e:Env)(σ:SK)(w bytes:Nat)(s x:ba):Option (D×SK):=do
  let (m,xs)←elems σ w (aR e x)
  match aR e s with
  |.bw =>
   if m*bytes≤room then
    if m=0 then some (.aE 0 [],σ)else do
    let (l,i,σ')←dP σ (.cells 0 xs)
    some (.sl l i 0 0 m w,σ')
   else none
  |.sl l i v off n w' =>
   match cells? σ l i v with
   |some cs =>
    if w'=w∧off+n*w≤cs.length∧(n+m)*bytes≤room then
     if l+1=σ.length then
      some (.sl l i (v+1) 0 (n+m) w,aN σ l i (.cells (v+1) ((cs.drop off).take (n*w)++xs)))
     else
      let r:=cb.frzL (cb l deep) xs σ
      some (.sl l i (v+1) 0 (n+m) w,aN r.2 l i (.cells (v+1) ((cs.drop off).take (n*w)++r.1)))
    else none
   |none=>none
  |_=>none
def a7(e:Env)(σ:SK):K→Option (D×SK)
 |.mv x=>some (aR e x,σ)
 |.rC w=>do
  let (l,i,σ')←dP σ (.cells 0 [])
  some (.sl l i 0 0 0 w,σ')
 |.pick c a b =>
  match aR e c with
  |.bool t=>some (if t then aR e a else aR e b,σ)
  |_=>none
 |.Ch nb cs=>do
  let (cs',σ1)←fP nb cs σ
  let (l,i,σ')←dP σ1 (.cells 0 cs')
  some (.ref l i 0 0,σ')
 |.yC x=>(aR e x).cells.map fun cs=>(.aK cs,σ)
 |.xr x=>do
  let cs←(aR e x).cells
  let (l,i,σ')←dP σ (.cells 0 cs)
  some (.ref l i 0 0,σ')
 |.JW nb x=>do
  let cs←(aR e x).cells
  let (cs',σ1)←fP nb cs σ
  let (l,i,σ')←dP σ1 (.cells 0 cs')
  some (.ref l i 0 0,σ')
 |.fR .. => none
 |.xu _=>none
 |.wM .. => none
 |.Ff v ag sz a =>
  match lC e v a with
  |some (_,cs,off) =>
   let cs:=cs.drop off
   if sz≤cs.length then
    if ag then some (.agg (cs.take sz),σ)else
    match cs with
    |d::_=>some (d,σ)
    |[]=>none
   else none
  |none=>none
 |.o7 zero parts=>do
  let cs←lB e parts zero
  some (.agg cs,σ)
 |.wH n _ zero parts=>do
  let cs←lB e parts zero
  some (.aE n cs,σ)
 |.Fb n w zero parts=>do
  let cs←lB e parts zero
  let (l,i,σ')←dP σ (.cells 0 cs)
  some (.sl l i 0 0 n w,σ')
 |.ld ag sz a =>
  match wq σ (aR e a)with
  |some cs =>
   if sz≤cs.length then
    if ag then some (.agg (cs.take sz),σ)else
    match cs with
    |d::_=>some (d,σ)
    |[]=>none
   else none
  |none=>none
 |.JZ ag sz a =>
  match K8 σ (aR e a)with
  |some cs =>
   if sz≤cs.length then
    if ag then some (.agg (cs.take sz),σ)else
    match cs with
    |d::_=>some (d,σ)
    |[]=>none
   else none
  |none=>none
 |.AD ag sz a =>
  match aR e a with
  |.aK cs =>
   if sz≤cs.length then
    if ag then some (.agg (cs.take sz),σ)else
    match cs with
    |d::_=>some (d,σ)
    |[]=>none
   else none
  |_=>none
 |.KT ps neg x=>(Aa ps (aR e x)).map fun b=>(.bool (if neg then !b else b),σ)
 |.uj x =>
  match aR e x with
  |.aK cs=>some (.aK cs,σ)
  |.ref l i v off=>some (.ref l i v off,σ)
  |_=>none
 |.st nb sz a x =>
  match aR e a with
  |.ref l i v off =>
   match cells? σ l i v with
   |some cs =>
    match(aR e x).cells with
    |some p =>
     if p.length=sz∧off+sz≤cs.length then
      if l+1=σ.length then
       match fP nb p σ with
       |some (p',σ1)=>some (.undef,aN σ1 l i (.cells v (cs.take off++p'++cs.drop (off+sz))))
       |none=>none
      else
       let r:=cb.frzL (cb l deep) p σ
       some (.undef,aN r.2 l i (.cells v (cs.take off++r.1++cs.drop (off+sz))))
     else none
    |none=>none
   |none=>none
  |_=>none
 |.E3 os sz a x =>
  match aR e a with
  |.ref l i v off =>
   if(os.all fun t=>D.off l i (get e t))=true then
    match cells? σ l i v with
    |some cs =>
     match(aR e x).cells with
     |some p =>
      if p.length=sz∧off+sz≤cs.length∧(D.bF p=true∨l+1=σ.length)then some (.undef,aN σ l i (.cells v (cs.take off++p++cs.drop (off+sz))))else none
     |none=>none
    |none=>none
   else none
  |_=>none
 |.bin o x y=>(nV o (aR e x) (aR e y)).map (·,σ)
 |.eqv ag ks neg x y =>
  match(aR e x).row ag,(aR e y).row ag with
  |some p,some q=>(pV ks p q).map fun b=>(.bool (if neg then !b else b),σ)
  |_,_=>none
 |.un o x =>
  match o,aR e x with
  |.not,.bool b=>some (.bool !b,σ)
  |.neg,.int k n=>some (.int k (k.wrap (0-n)),σ)
  |.xor,.int k n=>some (.int k (k.wrap ((BitVec.ofInt k.bits (if k.signed then -1 else k.max) ^^^ BitVec.ofInt k.bits n).toNat:Int)),σ)
  |_,_=>none
 |.Fc k x =>
  match aR e x with
  |.int _ n=>some (.int k (k.wrap n),σ)
  |_=>none
 |.wo f first cap=>some (.fn f (first.map (aR e)) (cap.map (aR e)),σ)
 |.Jl w bytes zero l c =>
  match aR e l,aR e c with
  |.int .i64 n,.int .i64 m =>
   if 0≤n∧n=m∧n*bytes≤(room:Int)∧zero.length=w then do
    let (l,i,σ')←dP σ (.cells 0 ((List.range n.toNat).flatMap fun _=>zero))
    some (.sl l i 0 0 n.toNat w,σ')
   else none
  |_,_=>none
 |.Lf w x lo hi mx =>
  match aR e x with
  |.aE n cs=>(bounds n e lo hi mx).map fun b=>(.aE (b.2-b.1) ((cs.drop (b.1*w)).take ((b.2-b.1)*w)),σ)
  |.sl l i v off n w'=>if w'=w then(bounds n e lo hi mx).map fun b=>(.sl l i v (off+b.1*w) (b.2-b.1) w,σ)else none
  |.bw=>(bounds 0 e lo hi mx).map fun _=>(.bw,σ)
  |_=>none
 |.CW len w x lo hi =>
  match aR e x with
  |.aK cs=>(bounds len e lo hi none).map fun b=>(.aE (b.2-b.1) ((cs.drop (b.1*w)).take ((b.2-b.1)*w)),σ)
  |.ref l i v off =>
   match cells? σ l i v with
   |some cs=>if len≤1000000∧off+len*w≤cs.length then(bounds len e lo hi none).map fun b=>(.sl l i v (off+b.1*w) (b.2-b.1) w,σ)else none
   |none=>none
  |_=>none
 |.yG off x =>
  match x with
  |.t n =>
   match get e n with
   |.aK cs=>some (.aK (cs.drop off),σ)
   |.ref l i v o=>some (.ref l i v (o+off),σ)
   |.own s _=>some (.vr n s off,σ)
   |.vr v s o=>some (.vr v s (o+off),σ)
   |_=>none
  |.c _=>none
 |.Wu ag off sz x =>
  match aR e x with
  |.agg cs =>
   if off+sz≤cs.length then
    if ag then some (.agg ((cs.drop off).take sz),σ)else(cs[off]?).map (·,σ)
   else none
  |_=>none
 |.lH len w x i =>
  match x,uV (aR e i)with
  |.t m,some n =>
   if 0≤n∧n<len then
    match get e m with
    |.aK cs=>some (.aK ((cs.drop (n.toNat*w)).take w),σ)
    |.ref l j v off=>some (.ref l j v (off+n.toNat*w),σ)
    |.own s _=>some (.vr m s (n.toNat*w),σ)
    |.vr v s o=>some (.vr v s (o+n.toNat*w),σ)
    |_=>none
   else none
  |_,_=>none
 |.wI w x i =>
  match aR e x,uV (aR e i)with
  |.aE m cs,some n=>if 0≤n∧n<m then some (.aK ((cs.drop (n.toNat*w)).take w),σ)else none
  |.sl l j v off m w',some n=>if 0≤n∧n<m∧w'=w then some (.ref l j v (off+n.toNat*w),σ)else none
  |_,_=>none
 |.Bp ag len w x i =>
  match aR e x,uV (aR e i)with
  |.agg cs,some n =>
   if 0≤n∧n<len∧(n.toNat+1)*w≤cs.length then
    if ag then some (.agg ((cs.drop (n.toNat*w)).take w),σ)else(cs[n.toNat*w]?).map (·,σ)
   else none
  |_,_=>none
 |.yK x =>
  match aR e x with
  |.bw=>some (.int .i64 0,σ)
  |.aE n _=>some (.int .i64 n,σ)
  |.sl _ _ _ _ n _=>some (.int .i64 n,σ)
  |_=>none
 |.CA n=>some (.int .i64 n,σ)
 |.mn x y =>
  match aR e x,aR e y with
  |.int k a,.int _ b=>some (.int k (min a b),σ)
  |_,_=>none
 |.mx x y =>
  match aR e x,aR e y with
  |.int k a,.int _ b=>some (.int k (max a b),σ)
  |_,_=>none
 |.app w bytes s x=>do
  let (m,xs)←elems σ w (aR e x)
  match aR e s with
  |.bw =>
   if m*bytes≤room then
    if m=0 then some (.aE 0 [],σ)else do
    let (l,i,σ')←dP σ (.cells 0 xs)
    some (.sl l i 0 0 m w,σ')
   else none
  |.sl l i v off n w' =>
   match cells? σ l i v with
   |some cs =>
    if w'=w∧off+n*w≤cs.length∧(n+m)*bytes≤room then
     if l+1=σ.length then
      some (.sl l i (v+1) 0 (n+m) w,aN σ l i (.cells (v+1) ((cs.drop off).take (n*w)++xs)))
     else
      let r:=cb.frzL (cb l deep) xs σ
      some (.sl l i (v+1) 0 (n+m) w,aN r.2 l i (.cells (v+1) ((cs.drop off).take (n*w)++r.1)))
    else none
   |none=>none
  |_=>none
 |.JU os w bytes s x =>
  match aR e s with
  |.sl l i _ _ _ _=>if(os.all fun t=>D.off l i (get e t))=true then(elems σ w (aR e x)).bind fun r=>if D.bF r.2=true then zQ e σ w bytes s x else none else none
  |_=>none
 |.JV w bytes s x=>(zQ e σ w bytes s x).map fun r=>cb 0 deep r.1 r.2
 |.Un w bytes x=>do
  let (m,xs)←elems σ w (aR e x)
  if m*bytes≤room then some (.aE m xs,σ)else none
 |.Ur x =>
  match aR e x with
  |.sl l i v off n w =>
   if 0<n then
    match cells? σ l i v with
    |some cs=>some (.aE n ((cs.drop off).take (n*w)),aN σ l i .dead)
    |none=>none
   else none
  |_=>none
 |.Wn=>some (.emp,σ)
 |.Uh w bytes v x =>
  match get e v with
  |.emp=>(elems σ w (aR e x)).bind fun r=>if r.1*bytes≤room then some (.aE r.1 r.2,σ)else none
  |_=>none
 |.ext x i =>
  match aR e x with
  |.fj ds=>(ds[i]?).map (·,σ)
  |_=>none
 |.uA o xs=>(wV o (xs.map (aR e))).map (·,σ)
 |.mp o xs=>vk σ o (xs.map (aR e))
 |.me o xs=>Vc σ o (xs.map (aR e))
 |.To t x=>some (.o9 t (aR e x),σ)
 |.Ll t z x=>(C4 t z (aR e x)).map (·,σ)
 |.KS neg x=>(I8 (aR e x)).map fun b=>(.bool (if neg then !b else b),σ)
 |.Fg _=>none
 |.CQ=>none
 |.call _ _ _=>none
def R.aP:Option R→Option (D×SK)
 |some (.val d σ)=>some (d,σ)
 |_=>none
def R.Ex:Option R→Option (Exit×Env×SK)
 |some (.tJ e env σ)=>some (e,env,σ)
 |_=>none
def kN(O:bd)(kp:Bool)(fv:D)(args:List D)(σ:SK):Option (D×SK) :=
 match fv with
 |.fn f first cap=>R.aP (O (.call kp f (first++args++cap) σ))
 |.iN l i=>R.aP (O (.round l i args σ))
 |_=>none
def we(O:bd)(fv:D)(args:List D)(σ:SK):Option (D×SK) :=
 match fv with
 |.fn f first cap=>R.aP (O (.call false f (first++args++cap) σ))
 |_=>none
def oF(O:bd)(op:Op)(e:Env)(σ:SK):Option (Env×SK) :=
 match op.k with
 |.call kp f args =>
  match kN O kp (aR e f) (args.map (aR e)) σ with
  |some (d,σ')=>if op.rU=true→σ'=σ then some (put op.dst d e,σ')else none
  |none=>none
 |.fR nb cs =>
  match op.dst,fP nb cs σ with
  |some v,some (cs',σ')=>some ((v,.own (nu e v) cs')::e,σ')
  |_,_=>none
 |.xu x =>
  match op.dst,(aR e x).cells with
  |some v,some cs=>some ((v,.own (nu e v) cs)::e,σ)
  |_,_=>none
 |.wM v nb sz a x =>
  match lC e v a,(aR e x).cells with
  |some (s,cs,off),some p =>
   if p.length=sz∧off+sz≤cs.length then
    match fP nb p σ with
    |some (p',σ')=>some ((v,.own s (cs.take off++p'++cs.drop (off+sz)))::e,σ')
    |none=>none
   else none
  |_,_=>none
 |k=>(a7 e σ k).map fun x=>(put op.dst x.1 e,x.2)
def D.bit:D→Option (Option Bool)
 |.bool b=>some (some b)
 |.fj []=>some none
 |_=>none
def iI(O:bd):List Op→Env→SK→Option (Env×SK)
 |[],e,σ=>some (e,σ)
 |op::r,e,σ =>
  match op.uf with
  |none=>(oF O op e σ).bind fun x=>iI O r x.1 x.2
  |some (g,want) =>
   match(get e g).bit with
   |some y=>if y=some want then(oF O op e σ).bind fun x=>iI O r x.1 x.2 else iI O r (put op.dst (.fj []) e) σ
   |none=>none
def D.vv:D→D
 |.bw => .aE 0 []
 |d=>d
def uQ(l i u:Nat)(σ:SK):D×SK :=
 match cells? σ l i u with
 |some cs=>let r:=cb.frzL (cb 0 deep) cs (aN σ l i .dead);(.aK (r.1.map D.vv),r.2)
 |none=>(.undef,σ)
def K3(v:Nat)(e:Env):Env :=
 match get e v with
 |.own _ cs=>if e.all (fun p=>match p.2 with | .vr x _ _=>x != v | _=>true)then(v,.aK cs)::e else e
 |_=>e
def yH(v:Nat)(e:Env)(σ:SK):Env×SK :=
 match get e v with
 |.bw=>((v,.aE 0 [])::e,σ)
 |.ref l i u 0=>let r:=uQ l i u σ;((v,r.1)::e,r.2)
 |.own s cs=>((v,.own s (cs.map D.vv))::e,σ)
 |.undef=>if 1000000≤v then(K3 (v-1000000) e,σ)else(e,σ)
 |_=>(e,σ)
def nZ:List Nat→Env→SK→Env×SK
 |[],e,σ=>(e,σ)
 |v::vs,e,σ =>
  match get e v with
  |.sl l i u off m w=>let r:=cb 0 deep (.sl l i u off m w) σ;nZ vs ((v,r.1)::e) r.2
  |.own s cs=>let r:=cb.frzL (cb 0 deep) cs σ;nZ vs ((v,.own s r.1)::e) r.2
  |.agg cs=>nZ vs ((v,.agg (cs.map D.vv))::e) σ
  |.undef=>if 1000000≤v then(let r:=yH (v-1000000) e σ;nZ vs r.1 r.2)else nZ vs e σ
  |_=>nZ vs e σ
def rP(O:bd)(fv:D)(args:List D)(σ:SK):Option R :=
 match fv with
 |.fn f first cap=>O (.call false f (first++args++cap) σ)
 |_=>none
def ng(O:bd)(live:List Nat)(dst:Option Nat)(post:List Op)(e:Env):Option R→Option (Exit×Env×SK)
 |some (.val d σ')=>(iI O post (put dst d e) σ').map fun y=>(.normal,restrict live y.1,y.2)
 |some (.eR d σ')=>some (.eR d,e,σ')
 |_=>none
def wG(O:bd)(live:List Nat)(op:Op)(post:List Op)(e:Env)(σ:SK):Option (Exit×Env×SK) :=
 match op.uf,op.k with
 |none,.call false f args=>ng O live op.dst post e (rP O (aR e f) (args.map (aR e)) σ)
 |none,.Fg x=>(match aR e x with
  |.o9 t d=>if d.clean then some (.eR (.o9 t d),e,σ)else none
  |_=>none)
 |_,_=>none
def aL(O:bd):bQ→Env→SK→Option (Exit×Env×SK)
 |.ei,e,σ=>some (.normal,e,σ)
 |.cb vs,e,σ=>let r:=nZ vs e σ;some (.normal,r.1,r.2)
 |.cL live ops,e,σ=>(iI O ops e σ).map fun x=>(.normal,restrict live x.1,x.2)
 |.seq a b,e,σ=>(aL O a e σ).bind fun x =>
  match x.1 with
  |.normal=>aL O b x.2.1 x.2.2
  |_=>some x
 |.ite c a b,e,σ =>
  match aR e c with
  |.bool t=>if t then aL O a e σ else aL O b e σ
  |_=>none
 |.bu id a,e,σ=>(aL O a e σ).map fun x =>
  match x.1 with
  |.exit j=>if j=id then(.normal,x.2)else x
  |_=>x
 |.loop live oE a,e,σ=>R.Ex (O (.loop live oE a e σ))
 |.Al live f params q8 body,e,σ =>
  match dP σ (.loop {state:=0,oV:=none,env:=o5 live e,params,q8,body })with
  |some (l,i,σ1) =>
   match we O (aR e f) [.iN l i] σ1 with
   |some (_,σ2) =>
    match cM σ2 l i with
    |some (.loop lp) =>
     if lp.state=1 then none else
     some (lp.oV.getD .normal,restrict live e,aN σ2 l i (.loop {lp with state:=3 }))
    |_=>none
   |none=>none
  |none=>none
 |.ew live it nx ok b a rest,e,σ=>R.Ex (O (.ew live it nx ok b a rest e σ))
 |.wN live pre op post,e,σ=>(iI O pre e σ).bind fun x=>wG O live op post x.1 x.2
 |.Ge ..,_,_=>none
 |.TM a,e,σ=>(aL O a e ([]::σ)).map fun x=>(x.1,(kJ (σ.length-1) (restrict (keys x.2.1) x.2.1) x.2.2).1,(kJ (σ.length-1) (restrict (keys x.2.1) x.2.1) x.2.2).2.tail)
 |.exit id,e,σ=>some (.exit id,e,σ)
 |.ret,e,σ=>some (.ret,e,σ)
inductive uy where
 |t (n:Nat)
 |c (n:Nat) (ag:Bool) (sz:Nat)
 |v (n:Nat) (ag:Bool) (sz:Nat)
structure Fn where
 CF:Nat
 res:List uy
 body:bQ
def ya(e:Env)(σ:SK):uy→Option D
 |.t n=>some (get e n).strip
 |.c n ag sz=>(a7 e σ (.ld ag sz (.t n))).map (·.1)
 |.v n ag sz=>(a7 e σ (.Ff n ag sz n)).map (·.1)
def qD(e:Env)(σ:SK):List uy→Option (List D)
 |[]=>some []
 |r::rs=>(ya e σ r).bind fun d=>(qD e σ rs).map fun ds=>d::ds
def mS:List D→D
 |[d]=>d
 |ds => .fj ds
def iH(n:Nat):List D→Env
 |[]=>[]
 |d::ds=>(n,d)::iH (n+1) ds
def rE:List Nat→List D→Env→Env
 |t::ts,d::ds,e=>rE ts ds ((t,d)::e)
 |_,_,e=>e
abbrev sn:=Nat→Option Fn
def I7:List D→Option (List Int)
 |[]=>some []
 |.int .i64 z::r=>(I7 r).map (z :: ·)
 |_=>none
def KQ(x:Int):List Int→List Int
 |[]=>[x]
 |y::l=>if x≤y then x::y::l else y::KQ x l
def Ea:List Int→List Int
 |[]=>[]
 |x::l=>KQ x (Ea l)
def I5(l:List Int):List D:=l.map (.int .i64)
def AX(x:Int):List Int→List Int
 |[]=>[]
 |y::l=>if y=x then AX x l else y::AX y l
def y7:List Int→List Int
 |[]=>[]
 |x::l=>x::AX x l
def Jp(k:Nat)(zs:List Int):List Int:=if k=1 then Ea zs else y7 zs++List.replicate (zs.length-(y7 zs).length) 0
def Vg(k l i v off:Nat)(zs:List Int):D:=if k=1 then .fj []else .sl l i v off (y7 zs).length 1
def ZC(k:Nat)(args:List D)(σ:SK):Option R :=
 match args with
 |[.sl l i v off n w] =>
  if n≠0∧w=1∧n≤1000000 then
   match cells? σ l i v with
   |some cs =>
    if off+n≤cs.length then
     match I7 ((cs.drop off).take n)with
     |some zs=>some (.val (Vg k l i v off zs) (aN σ l i (.cells v (cs.take off++I5 (Jp k zs)++cs.drop (off+n)))))
     |none=>none
    else none
   |none=>none
  else none
 |_=>none
def Us:Nat→Nat→List UInt8
 |0,_=>[]
 |k+1,u=>if u<10 then [UInt8.ofNat (48+u)]else Us k (u / 10)++[UInt8.ofNat (48+u%10)]
def Zs(n:Int):List UInt8:=if n<0 then 45::Us 20 n.natAbs else Us 20 n.toNat
def C3:List D→Option (List (List UInt8))
 |[]=>some []
 |.str s::r=>(C3 r).map (s :: ·)
 |_=>none
def Tj(sep:List UInt8):List (List UInt8)→List UInt8
 |[]=>[]
 |x::r=>x++r.flatMap (sep ++ ·)
def Aw(b:UInt8):List UInt8→List (List UInt8)
 |[]=>[[]]
 |c::r=>if c=b then []::Aw b r else match Aw b r with
  |x::l=>(c::x)::l
  |[]=>[[c]]
def Lv(s:List UInt8):Nat×Int :=
 match Lib.atoiAll s with
 |.ok v=>(0,v)
 |Lib.NumEnd.syntax=>(1,0)
 |.range=>(2,Lib.atoiSat s)
def abO(a b:Nat)(xs:List (List UInt8)):List (List UInt8):=xs.take a++xs.drop b++List.replicate (b-a) []
def ZB(k:Nat)(args:List D)(σ:SK):Option R :=
 match k%16,args with
 |3,[.int .i64 n]=>if -9223372036854775808≤n∧n≤9223372036854775807 then some (.val (.str (Zs n)) σ)else none
 |4,[.str s]=>if s.length≤1000000 then some (.val (.fj [.int .i64 (Lv s).2,if(Lv s).1=0 then .kL else .o9 (k / 16) .undef]) σ)else none
 |5,[.aE n cs,.str sep] =>
  match C3 cs with
  |some xs=>if n=xs.length∧n≤1000∧(Tj sep xs).length≤1000000 then some (.val (.str (Tj sep xs)) σ)else none
  |none=>none
 |6,[.str s,.str [b]]=>if s.length≤1000000 then some (.val (.aE (Aw b s).length ((Aw b s).map .str)) σ)else none
 |7,[.iN l i,.str s] =>
  match cells? σ l i 2 with
  |some [.int .i64 t,.int .i64 e,.str bs] =>
   if t=((k / 16%65536:Nat):Int)∧e=((k / 16 / 65536:Nat):Int)∧bs.length+s.length≤1000000 then
    some (.val (.fj [.int .i64 s.length,.kL]) (aN σ l i (.cells 2 [.int .i64 t,.int .i64 e,.str (bs++s)])))
   else none
  |_=>none
 |8,[.iN l i] =>
  match cells? σ l i 2 with
  |some [.int .i64 t,.int .i64 e,.str bs]=>if t=((k / 16%65536:Nat):Int)∧e=((k / 16 / 65536:Nat):Int)∧bs≠[]then some (.val (.str bs) σ)else none
  |_=>none
 |9,[.sl l i v off n w,.int .i64 a,.int .i64 b] =>
  if n≠0∧w=1∧n≤1000000∧0≤a∧a≤b∧b≤(n:Int)then
   match cells? σ l i v with
   |some cs =>
    if off+n≤cs.length then
     match C3 ((cs.drop off).take n)with
     |some xs=>some (.val (.sl l i v off (n-(b.toNat-a.toNat)) 1) (aN σ l i (.cells v (cs.take off++(abO a.toNat b.toNat xs).map .str++cs.drop (off+n)))))
     |none=>none
    else none
   |none=>none
  else none
 |0,_=>none
 |9,_=>none
 |10,_=>none
 |11,_=>none
 |12,_=>none
 |13,_=>none
 |14,_=>none
 |15,_=>none
 |1,args=>ZC 1 args σ
 |2,args=>ZC 2 args σ
 |_,_=>none
def wk(σ:SK)(l i:Nat):Option (D×Nat×List D×List Nat) :=
 match cells? σ l i 1 with
 |some (m::.int .i64 n::js) =>
  match tE σ m with
  |some (_,_,es)=>if(es.length:Int)=n then some (m,es.length,js,(List.range es.length).filter fun j => !(js.contains (.int .i64 j)))else none
  |none=>none
 |_=>none
def agree:List (Option R)→Option R
 |[]=>none
 |r::rs=>if ∀x∈rs,x=r then r else none
def oQ(O:bd)(l i b:Nat)(rest:bQ):Option (Exit×Env×SK)→Option R
 |some (.exit j,e1,σ1) =>
  if j=b then(aL O rest e1 (aN σ1 l i .dead)).map fun x => .tJ x.1 x.2.1 x.2.2
  else some (.tJ (.exit j) e1 (aN σ1 l i .dead))
 |some (.ret,e1,σ1)=>some (.tJ .ret e1 (aN σ1 l i .dead))
 |_=>none
def rT(O:bd)(live:List Nat)(it:ba)(l i nx ok b:Nat)(c rest:bQ):Option (Exit×Env×SK)→Option R
 |some (.normal,e1,σ1)=>O (.ew live it nx ok b c rest e1 σ1)
 |y=>oQ O l i b rest y
def eQ:bQ→Option (bQ×ba×List ba×bQ)
 |.Ge f args q=>some (.ei,f,args,q)
 |.seq a b=>(eQ b).map fun x=>(.seq a x.1,x.2)
 |_=>none
def C5(kp:Bool)(d:D):SK→Option R
 |_::σ=>if kp=false∧d.clean=true then some (.eR d σ)else none
 |[]=>none
def leave(res:List uy)(σ:SK)(e:Env)(σ1:SK):Option R :=
 match qD e σ1 res with
 |some ds=>(match cb (σ.length-1) deep (mS ds) σ1 with
  |(d,_::σ2)=>some (.val d σ2)
  |_=>none)
 |none=>none
def lG(O:bd)(fv:D)(args:List D)(th:Option D)(σ:SK):Option R :=
 match fv with
 |.fn f first cap=>O (.so f (first++args++cap) th σ)
 |_=>none
def pI(res:List uy)(σ:SK)(e:Env):Option R→Option R
 |some (.val _ σ1)=>leave res σ e σ1
 |_=>none
def tK(O:bd)(res:List uy)(σ:SK)(fv:D)(args:List D):Option (Exit×Env×SK)→Option R
 |some (.eR d,e,σ1)=>pI res σ e (lG O fv args (some d) σ1)
 |some (.normal,e,σ1)=>pI res σ e (lG O fv args none σ1)
 |some (.ret,e,σ1)=>pI res σ e (lG O fv args none σ1)
 |_=>none
def rR(O:bd)(fn:Fn)(σ:SK):Option (bQ×ba×List ba×bQ)→Env→SK→Option R
 |some (a,f,args,q),e0,σ0 =>
  (match aL O a e0 σ0 with
  |some (.normal,e,σ1)=>tK O fn.res σ (aR e f) (args.map (aR e)) (aL O q e σ1)
  |_=>none)
 |none,_,_=>none
def oK(th:Option D)(args:List D):bQ→Option (Env×bQ)
 |.seq (.cL live [⟨some t,none,_,.CQ⟩]) q=>(match q with
  |.ew .. => none
  |q=>some (restrict live ((t,th.getD .kL)::iH 0 args),q))
 |_=>none
def cc(T:sn)(O:bd):Q→Option R
 |.call kp f args σ =>
  match T f with
  |some fn =>
   if args.length=fn.CF then
    match aL O fn.body (iH 0 args) (if kp then σ else []::σ)with
    |some (.exit _,_,_)=>none
    |some (.eR d,_,σ1)=>C5 kp d σ1
    |some (_,e,σ1) =>
     match qD e σ1 fn.res with
     |some ds =>
      if kp then some (.val (mS ds) σ1)else
      match cb (σ.length-1) deep (mS ds) σ1 with
      |(d,_::σ2)=>some (.val d σ2)
      |_=>none
     |none=>none
    |none=>if kp then none else rR O fn σ (eQ fn.body) (iH 0 args) ([]::σ)
   else none
  |none =>
   match T (1000000+f)with
   |some fn=>ZB fn.CF args σ
   |none=>none
 |.loop live oE c e σ =>
  match aL O c (restrict live e) (if oE then []::σ else σ)with
  |some (x,e1,σ1) =>
   let (e2,σ2):=if oE then(let r:=kJ (σ.length-1) (restrict (pM live x e1) e1) σ1;(r.1,r.2.tail))else(e1,σ1)
   match x with
   |.normal=>O (.loop live oE c e2 σ2)
   |x=>some (.tJ x e2 σ2)
  |none=>none
 |.round l i args σ =>
  match cM σ l i with
  |some (.loop lp) =>
   if args.length=lp.params.length then
    match aL O lp.q8 (rE lp.params args lp.env) ([]::σ)with
    |some (.normal,e1,σ1) =>
     match cM σ1 l i with
     |some (.loop lp1) =>
      if lp1.state=0 then
       match aL O lp.body e1 (aN σ1 l i (.loop {lp1 with state:=1 }))with
       |some (x,_,_::σ2) =>
        match cM σ2 l i with
        |some (.loop lp2) =>
         match x with
         |.eR _=>none
         |.normal=>some (.val (.bool true) (aN σ2 l i (.loop {lp2 with state:=0,oV:=none })))
         |x=>some (.val (.bool false) (aN σ2 l i (.loop {lp2 with state:=2,oV:=some x })))
        |_=>none
       |_=>none
      else none
     |_=>none
    |_=>none
   else none
  |_=>none
 |.ew live it nx ok b c rest e σ =>
  match aR (restrict live e) it with
  |.iN l i =>
   match wk σ l i with
   |some (_,_,_,[])=>oQ O l i b rest (aL O c ((ok,.bool false)::(nx,.undef)::restrict live e) σ)
   |some (m,n,js,us)=>agree (us.map fun u=>rT O live it l i nx ok b c rest (aL O c ((ok,.bool true)::(nx,.undef)::restrict live e) (aN σ l i (.cells 1 (m::.int .i64 (n:Nat)::.int .i64 (u:Nat)::js)))))
   |none=>none
  |_=>none
 |.so f args th σ =>
  match T f with
  |some fn =>
   if args.length=fn.CF then
    match oK th args fn.body with
    |some (e0,q) =>
     match aL O q e0 ([]::σ)with
     |some (.exit _,_,_)=>none
     |some (.eR _,_,_)=>none
     |some (_,e,σ1) =>
      match qD e σ1 fn.res,σ1 with
      |some [],_::σ2=>some (.val (.fj []) σ2)
      |_,_=>none
     |none=>none
    |none=>none
   else none
  |none=>none
def it(T:sn):Nat→bd
 |0=>fun _=>none
 |n+1=>cc T (it T n)
open Classical in
noncomputable def bG(T:sn):bd:=fun q =>
 if h:∃n r,it T n q=some r then some h.choose_spec.choose else none
end Go.Abs
