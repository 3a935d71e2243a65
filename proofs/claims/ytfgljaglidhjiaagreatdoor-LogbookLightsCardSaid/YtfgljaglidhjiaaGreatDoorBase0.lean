import GoSem.Core.View
import Derived.Lib.AtoiAll
set_option linter.all false
namespace Go
theorem ad:type_of%@Option.map_eq_some_iff:=@Option.map_eq_some_iff
theorem ae:type_of%@Option.some.injEq:=@Option.some.injEq
theorem af:type_of%@Bool.and_eq_true:=@Bool.and_eq_true
theorem ah:type_of%@Option.bind_eq_some_iff:=@Option.bind_eq_some_iff
theorem aQ:type_of%@List.map_cons:=@List.map_cons
theorem aj:type_of%@List.mem_of_getElem?:=@List.mem_of_getElem?
theorem ak:type_of%@List.take_of_length_le:=@List.take_of_length_le
theorem an:type_of%@Prod.mk.injEq:=@Prod.mk.injEq
theorem bV:type_of%@List.map_nil:=@List.map_nil
theorem au:type_of%@decide_eq_true_eq:=@decide_eq_true_eq
theorem az:type_of%@Bool.false_eq_true:=@Bool.false_eq_true
theorem aC:type_of%@Option.ite_none_right_eq_some:=@Option.ite_none_right_eq_some
theorem aD:type_of%@List.getElem?_eq_some_iff:=@List.getElem?_eq_some_iff
theorem aB:type_of%@List.drop_eq_nil_of_le:=@List.drop_eq_nil_of_le
theorem aK:type_of%@Nat.le_refl:=@Nat.le_refl
theorem aL:type_of%@List.length_cons:=@List.length_cons
theorem aJ:type_of%@List.getElem?_eq_getElem:=@List.getElem?_eq_getElem
theorem aR:type_of%@Option.bind_eq_bind:=@Option.bind_eq_bind
theorem aP:type_of%@List.drop_zero:=@List.drop_zero
theorem aU:type_of%@Option.map_some:=@Option.map_some
theorem aN:type_of%@List.length_pos_iff:=@List.length_pos_iff
theorem aX:type_of%@List.nil_append:=@List.nil_append
theorem aZ:type_of%@List.flatMap_cons:=@List.flatMap_cons
theorem bf:type_of%@List.mem_cons:=@List.mem_cons
theorem bg:type_of%@List.mem_append:=@List.mem_append
theorem bh:type_of%@Int.tdiv_eq_ediv_of_nonneg:=@Int.tdiv_eq_ediv_of_nonneg
theorem bG:type_of%@List.length_nil:=@List.length_nil
theorem bW:type_of%@List.mem_map:=@List.mem_map
theorem bB:type_of%@List.length_append:=@List.length_append
theorem bR:type_of%@List.length_eq_zero_iff:=@List.length_eq_zero_iff
theorem cb:type_of%@Bool.or_eq_true:=@Bool.or_eq_true
theorem cj:type_of%@Array.getD_eq_getD_getElem?:=@Array.getD_eq_getD_getElem?
theorem cc:type_of%@List.getElem?_cons_zero:=@List.getElem?_cons_zero
theorem cf:type_of%@Nat.zero_add:=@Nat.zero_add
theorem dk:type_of%@List.mem_filter:=@List.mem_filter
theorem dP:type_of%@List.length_map:=@List.length_map
theorem cT:type_of%@List.drop_length_add_append:=@List.drop_length_add_append
theorem cY:type_of%@Array.getElem?_eq_some_iff:=@Array.getElem?_eq_some_iff
theorem dL:type_of%@Nat.mul_one:=@Nat.mul_one
theorem dq:type_of%@Nat.mul_le_mul_right:=@Nat.mul_le_mul_right
theorem cV:type_of%@List.mem_of_mem_take:=@List.mem_of_mem_take
theorem dA:type_of%@Nat.add_assoc:=@Nat.add_assoc
theorem dR:type_of%@List.flatMap_nil:=@List.flatMap_nil
theorem dB:type_of%@Option.isSome_iff_exists:=@Option.isSome_iff_exists
theorem eS:type_of%@List.ext_getElem?:=@List.ext_getElem?
theorem dX:type_of%@Bool.not_eq_true':=@Bool.not_eq_true'
theorem ei:type_of%@List.getElem?_take:=@List.getElem?_take
theorem dO:type_of%@List.append_nil:=@List.append_nil
theorem ea:type_of%@List.mem_of_mem_drop:=@List.mem_of_mem_drop
theorem eT:type_of%@Nat.succ_mul:=@Nat.succ_mul
theorem fZ:type_of%@Int.toNat_of_nonneg:=@Int.toNat_of_nonneg
theorem eC:type_of%@Int.mul_nonneg:=@Int.mul_nonneg
theorem eP:type_of%@List.singleton_append:=@List.singleton_append
theorem eO:type_of%@List.getElem?_eq_none:=@List.getElem?_eq_none
theorem gU:type_of%@Option.getD_some:=@Option.getD_some
theorem fK:type_of%@List.cons_append:=@List.cons_append
theorem gR:type_of%@Array.toList_inj:=@Array.toList_inj
theorem jM:type_of%@Nat.le_trans:=@Nat.le_trans
theorem eh:type_of%@List.getElem?_drop:=@List.getElem?_drop
theorem iU:type_of%@Nat.add_mul:=@Nat.add_mul
theorem gT:type_of%@List.getElem?_of_mem:=@List.getElem?_of_mem
theorem fJ:type_of%@Int.mul_le_mul_of_nonneg_right:=@Int.mul_le_mul_of_nonneg_right
theorem iK:type_of%@List.flatMap_append:=@List.flatMap_append
theorem jL:type_of%@List.all_cons:=@List.all_cons
theorem jg:type_of%@List.length_filter_le:=@List.length_filter_le
theorem jf:type_of%@List.getElem?_toArray:=@List.getElem?_toArray
theorem kF:type_of%@List.cons.injEq:=@List.cons.injEq
theorem jd:type_of%@Array.getElem?_modify:=@Array.getElem?_modify
theorem mO:type_of%@List.getElem?_map:=@List.getElem?_map
theorem ka:type_of%@List.append_assoc:=@List.append_assoc
theorem mP:type_of%@List.getElem?_mapIdx:=@List.getElem?_mapIdx
theorem mE:type_of%@List.getElem?_append_left:=@List.getElem?_append_left
theorem lM:type_of%@List.drop_drop:=@List.drop_drop
theorem lL:type_of%@Int.mul_le_mul:=@Int.mul_le_mul
theorem lF:type_of%@List.length_take:=@List.length_take
theorem lE:type_of%@List.all_eq_true:=@List.all_eq_true
theorem mN:type_of%@Int.le_total:=@Int.le_total
theorem gE{α:Type}{l:List α}{i:Nat}(h:i<l.length):∃x,l[i]?=some x:=⟨_,aJ h⟩
end Go
namespace Go.Abs
inductive D where
 |undef
 |bool (b:Bool)
 |int (k:IntKind) (n:Int)
 |str (s:List UInt8)
 |agg (cs:List D)
 |dM (cs:List D)
 |xH
 |ref (l i v off:Nat)
 |bI (cs:List D)
 |aG
 |aI (n:Nat) (cs:List D)
 |sl (l i v off n w:Nat)
 |fn (f:Nat) (first cap:List D)
 |iS
 |mB (l i:Nat)
 |own (s:Nat) (cs:List D)
 |vr (x s off:Nat)
 |ud (t:Nat) (d:D)
 |pg
 |emp
 deriving Inhabited
mutual
def D.same:D→D→Bool
 |.undef,.undef=>true
 |.bool a,.bool b=>a == b
 |.int k n,.int k' n'=>k == k' && n == n'
 |.str a,.str b=>a == b
 |.agg a,.agg b=>D.yI a b
 |.dM a,.dM b=>D.yI a b
 |.xH,.xH=>true
 |.ref a b c d,.ref a' b' c' d'=>a == a' && b == b' && c == c' && d == d'
 |.bI a,.bI b=>D.yI a b
 |.aG,.aG=>true
 |.aI n a,.aI m b=>n == m && D.yI a b
 |.sl a b c d e f,.sl a' b' c' d' e' f'=>a == a' && b == b' && c == c' && d == d' && e == e' && f == f'
 |.fn f a b,.fn f' a' b'=>f == f' && D.yI a a' && D.yI b b'
 |.iS,.iS=>true
 |.mB a b,.mB a' b'=>a == a' && b == b'
 |.own s a,.own s' b=>s == s' && D.yI a b
 |.vr a b c,.vr a' b' c'=>a == a' && b == b' && c == c'
 |.ud t a,.ud t' b=>t == t' && D.same a b
 |.pg,.pg=>true
 |.emp,.emp=>true
 |_,_=>false
def D.yI:List D→List D→Bool
 |[],[]=>true
 |a::as,b::bs=>D.same a b && D.yI as bs
 |_,_=>false
end
mutual
theorem No:∀{a b:D},D.same a b=true→a=b
 |.undef,b,h=>by cases b<;>simp[D.same]at h;rfl
 |.bool _,b,h=>by cases b<;>simp[D.same]at h;rw[h]
 |.int _ _,b,h=>by cases b<;>simp[D.same]at h;rw[h.1,h.2]
 |.str _,b,h=>by cases b<;>simp[D.same]at h;rw[h]
 |.agg _,b,h=>by cases b<;>simp[D.same]at h;rw[vW h]
 |.dM _,b,h=>by cases b<;>simp[D.same]at h;rw[vW h]
 |.xH,b,h=>by cases b<;>simp[D.same]at h;rfl
 |.ref ..,b,h=>by cases b<;>simp[D.same]at h;simp[h]
 |.bI _,b,h=>by cases b<;>simp[D.same]at h;rw[vW h]
 |.aG,b,h=>by cases b<;>simp[D.same]at h;rfl
 |.aI ..,b,h=>by cases b<;>simp[D.same]at h;rw[h.1,vW h.2]
 |.sl ..,b,h=>by cases b<;>simp[D.same]at h;simp[h]
 |.fn ..,b,h=>by cases b<;>simp[D.same]at h;rw[h.1.1,vW h.1.2,vW h.2]
 |.iS,b,h=>by cases b<;>simp[D.same]at h;rfl
 |.mB ..,b,h=>by cases b<;>simp[D.same]at h;simp[h]
 |.own ..,b,h=>by cases b<;>simp[D.same]at h;rw[h.1,vW h.2]
 |.vr ..,b,h=>by cases b<;>simp[D.same]at h;simp[h]
 |.ud _ a,b,h=>by cases b<;>simp[D.same]at h;rw[h.1,No h.2]
 |.pg,b,h=>by cases b<;>simp[D.same]at h;rfl
 |.emp,b,h=>by cases b<;>simp[D.same]at h;rfl
theorem vW:∀{a b:List D},D.yI a b=true→a=b
 |[],[],_=>rfl
 |[],_::_,h=>by simp[D.yI]at h
 |_::_,[],h=>by simp[D.yI]at h
 |a::as,b::bs,h=>by
  simp only[D.yI,af]at h;rw[No h.1,vW h.2]
end
mutual
theorem HN:∀(a:D),D.same a a=true
 |.undef=>rfl
 |.bool b=>by simp[D.same]
 |.int k n=>by simp[D.same]
 |.str s=>by simp[D.same]
 |.agg a=>by simp[D.same,rm a]
 |.dM a=>by simp[D.same,rm a]
 |.xH=>rfl
 |.ref .. => by simp[D.same]
 |.bI a=>by simp[D.same,rm a]
 |.aG=>rfl
 |.aI n a=>by simp[D.same,rm a]
 |.sl .. => by simp[D.same]
 |.fn f a b=>by simp[D.same,rm a,rm b]
 |.iS=>rfl
 |.mB .. => by simp[D.same]
 |.own s a=>by simp[D.same,rm a]
 |.vr .. => by simp[D.same]
 |.ud t a=>by simp[D.same,HN a]
 |.pg=>rfl
 |.emp=>rfl
theorem rm:∀(a:List D),D.yI a a=true
 |[]=>rfl
 |a::as=>by simp[D.yI,HN a,rm as]
end
instance:DecidableEq D:=fun a b=>if h:D.same a b=true then isTrue (No h)else isFalse fun e=>h (e ▸ HN a)
inductive bM where
 |t (n:Nat)
 |c (d:D)
 deriving Inhabited,DecidableEq
inductive Pu where
 |z8
 |D4
 |U9
 |Lj (lo hi:Bool)
 |seq (neg:Bool)
 deriving Inhabited,DecidableEq
def sw:Pu→List D→Option D
 |.z8,[.str s]=>some (.int .i64 s.length)
 |.D4,[.str s,.int _ i]=>if 0≤i then(s[i.toNat]?).map fun b => .int .u8 b.toNat else none
 |.U9,[.str a,.str b]=>if a.length+b.length≤4611686018427387904 then some (.str (a++b))else none
 |.Lj true true,[.str s,.int _ i,.int _ j]=>if 0≤i∧i≤j∧j≤s.length then some (.str ((s.drop i.toNat).take (j.toNat-i.toNat)))else none
 |.Lj true false,[.str s,.int _ i]=>if 0≤i∧i≤s.length then some (.str (s.drop i.toNat))else none
 |.Lj false true,[.str s,.int _ j]=>if 0≤j∧j≤s.length then some (.str (s.take j.toNat))else none
 |.Lj false false,[.str s]=>some (.str s)
 |.seq neg,[.str a,.str b]=>some (.bool (if neg then !(a == b)else a == b))
 |_,_=>none
abbrev Ky:=Option (Bool×List (Option IntKind))
inductive Mo where
 |make
 |lK (t e:Nat)
 |get (ky:Ky) (zero:D) (ok:Bool)
 |put (ky:Ky)
 |len
 |rng
 |ent
 deriving Inhabited,DecidableEq
inductive Me where
 |b2s
 |s2b
 |s2a (n w:Nat)
 |peq (neg:Bool)
 deriving Inhabited,DecidableEq
inductive K where
 |mv (x:bM)
 |pB (w:Nat)
 |pick (c a b:bM)
 |K5 (nb:List (Nat×Nat)) (cs:List D)
 |eJ (nb:List (Nat×Nat)) (cs:List D)
 |K6 (x:bM)
 |K7 (x:bM)
 |bxn (nb:List (Nat×Nat)) (x:bM)
 |Hj (x:bM)
 |lK (zero:List D) (parts:List (Nat×Nat×bM))
 |uH (n w:Nat) (zero:List D) (parts:List (Nat×Nat×bM))
 |Oa (n w:Nat) (zero:List D) (parts:List (Nat×Nat×bM))
 |ld (ag:Bool) (sz:Nat) (a:bM)
 |Vp (ag:Bool) (sz:Nat) (a:bM)
 |Vo (ag:Bool) (sz:Nat) (a:bM)
 |Vn (ps neg:Bool) (x:bM)
 |mA (x:bM)
 |st (nb:List (Nat×Nat)) (sz:Nat) (a x:bM)
 |QP (os:List Nat) (sz:Nat) (a x:bM)
 |Vq (v:Nat) (ag:Bool) (sz:Nat) (a:Nat)
 |IN (v:Nat) (nb:List (Nat×Nat)) (sz:Nat) (a:Nat) (x:bM)
 |bin (o:BinOp) (x y:bM)
 |eqv (ag:Bool) (ks:List (Option IntKind)) (neg:Bool) (x y:bM)
 |un (o:UnOp) (x:bM)
 |Oj (k:IntKind) (x:bM)
 |yF (f:Nat) (first cap:List bM)
 |mks (w bytes:Nat) (zero:List D) (l c:bM)
 |Md (w:Nat) (x:bM) (lo hi mx:Option bM)
 |QL (len w:Nat) (x:bM) (lo hi:Option bM)
 |K9 (off:Nat) (x:bM)
 |fld (ag:Bool) (off sz:Nat) (x:bM)
 |BM (len w:Nat) (x i:bM)
 |fh (w:Nat) (x i:bM)
 |MZ (ag:Bool) (len w:Nat) (x i:bM)
 |Ld (x:bM)
 |Qp (n:Nat)
 |mn (x y:bM)
 |mx (x y:bM)
 |app (w bytes:Nat) (s x:bM)
 |Uj (os:List Nat) (w bytes:Nat) (s x:bM)
 |apz (w bytes:Nat) (s x:bM)
 |cpi (w bytes:Nat) (x:bM)
 |bse
 |ape (w bytes v:Nat) (x:bM)
 |ext (x:bM) (i:Nat)
 |rl (o:Pu) (xs:List bM)
 |mp (o:Mo) (xs:List bM)
 |me (o:Me) (xs:List bM)
 |mki (t:Nat) (x:bM)
 |tas (t:Nat) (zero:Option D) (x:bM)
 |isi (neg:Bool) (x:bM)
 |PC (x:bM)
 |PD
 |call (kp:Bool) (f:bM) (args:List bM)
 deriving Inhabited,DecidableEq
structure Op where
 dst:Option Nat
 E8:Option (Nat×Bool)
 Bg:Bool
 k:K
 deriving Inhabited,DecidableEq
inductive cX where
 |cI
 |cG (vs:List Nat)
 |ai (live:List Nat) (ops:List Op)
 |seq (a b:cX)
 |ite (c:bM) (a b:cX)
 |bD (id:Nat) (a:cX)
 |loop (live:List Nat) (bA:Bool) (a:cX)
 |QH (live:List Nat) (f:bM) (params:List Nat) (Ay body:cX)
 |jJ (live:List Nat) (it:bM) (nx ok b:Nat) (a rest:cX)
 |iT (live:List Nat) (pre:List Op) (op:Op) (post:List Op)
 |Wu (f:bM) (args:List bM) (rest:cX)
 |exit (id:Nat)
 |ret
 deriving Inhabited,DecidableEq
inductive Exit where
 |normal
 |exit (id:Nat)
 |ret
 |fX (d:D)
 deriving Inhabited,DecidableEq
abbrev Env:=List (Nat×D)
def get:Env→Nat→D
 |[],_ => .undef
 |(k,v)::r,t=>if k=t then v else get r t
def put(d:Option Nat)(v:D)(e:Env):Env :=
 match d with
 |some t=>(t,v)::e
 |none=>e
def D.calm:D→D
 |.vr .. => .undef
 |.emp => .undef
 |.own _ cs => .own 0 cs
 |d=>d
def D.strip:D→D
 |.vr .. => .undef
 |.emp => .undef
 |.own .. => .undef
 |d=>d
def restrict(live:List Nat)(e:Env):Env:=live.map fun t=>(t,(get e t).calm)
def keys(e:Env):List Nat:=(e.map (·.1)).eraseDups
def xP(live:List Nat)(e:Env):Env:=live.map fun t=>(t,(get e t).strip)
def zp(live:List Nat)(x:Exit)(e:Env):List Nat :=
 match x with
 |.normal=>live
 |_=>keys e
structure xc where
 state:Nat
 wU:Option Exit
 env:Env
 params:List Nat
 Ay:cX
 body:cX
 deriving DecidableEq
inductive aF where
 |cells (v:Nat) (cs:List D)
 |dead
 |loop (l:xc)
 deriving DecidableEq
abbrev SK:=List (List aF)
def gr:SK→Nat→Option (List aF)
 |[],_=>none
 |s::σ,l=>if σ.length=l then some s else gr σ l
def iI:SK→Nat→List aF→SK
 |[],_,_=>[]
 |s::σ,l,s'=>if σ.length=l then s'::σ else s::iI σ l s'
def ej(σ:SK)(l i:Nat):Option aF:=(gr σ l).bind (·[i]?)
def aW(σ:SK)(l i:Nat)(b:aF):SK :=
 match gr σ l with
 |some s=>iI σ l (s.set i b)
 |none=>σ
def cells?(σ:SK)(l i v:Nat):Option (List D) :=
 match ej σ l i with
 |some (.cells v' cs)=>if v'=v then some cs else none
 |_=>none
def ij(σ:SK)(b:aF):Option (Nat×Nat×SK) :=
 match σ with
 |[]=>none
 |s::σ'=>some (σ'.length,s.length,(s++[b])::σ')
mutual
def D.clean:D→Bool
 |.ref .. => false
 |.sl .. => false
 |.mB .. => false
 |.vr .. => true
 |.emp=>true
 |.own _ cs=>D.bC cs
 |.agg cs=>D.bC cs
 |.dM cs=>D.bC cs
 |.bI cs=>D.bC cs
 |.aI _ cs=>D.bC cs
 |.fn _ a b=>D.bC a && D.bC b
 |.undef=>true
 |.bool _=>true
 |.int _ _=>true
 |.str _=>true
 |.xH=>true
 |.aG=>true
 |.iS=>true
 |.ud _ d=>D.clean d
 |.pg=>true
def D.bC:List D→Bool
 |[]=>true
 |d::ds=>D.clean d && D.bC ds
end
def cG(l:Nat):Nat→D→SK→D×SK
 |0,_,σ=>(.undef,σ)
 |n+1,d,σ =>
  if d.clean then(d,σ)else
  match d with
  |.agg cs=>let r:=frzL (cG l n) cs σ;(.agg r.1,r.2)
  |.dM cs=>let r:=frzL (cG l n) cs σ;(.dM r.1,r.2)
  |.bI cs=>let r:=frzL (cG l n) cs σ;(.bI r.1,r.2)
  |.aI m cs=>let r:=frzL (cG l n) cs σ;(.aI m r.1,r.2)
  |.own s cs=>let r:=frzL (cG l n) cs σ;(.own s r.1,r.2)
  |.fn f a b=>let r:=frzL (cG l n) a σ;let r':=frzL (cG l n) b r.2;(.fn f r.1 r'.1,r'.2)
  |.ref l' i v off=>if l'≤l then(.ref l' i v off,σ)else(.undef,σ)
  |.mB l' i=>if l'≤l then(.mB l' i,σ)else(.undef,σ)
  |.sl l' i v off m w =>
   if l'≤l then(.sl l' i v off m w,σ)else
   match cells? σ l' i v with
   |some cs=>let r:=frzL (cG l n) ((cs.drop off).take (m*w)) (aW σ l' i .dead);(.aI m r.1,r.2)
   |none=>(.undef,σ)
  |_=>(.undef,σ)
where
 frzL (f:D→SK→D×SK):List D→SK→List D×SK
  |[],σ=>([],σ)
  |d::ds,σ=>let r:=f d σ;let r':=frzL f ds r.2;(r.1::r'.1,r'.2)
def deep:Nat:=16
def sR(l:Nat):Env→SK→Env×SK
 |[],σ=>([],σ)
 |(t,d)::e,σ=>let r:=cG l deep d σ;let r':=sR l e r.2;((t,r.1)::r'.1,r'.2)
inductive Q where
 |call (kp:Bool) (f:Nat) (args:List D) (σ:SK)
 |loop (live:List Nat) (bA:Bool) (c:cX) (env:Env) (σ:SK)
 |round (l i:Nat) (args:List D) (σ:SK)
 |jJ (live:List Nat) (it:bM) (nx ok b:Nat) (c rest:cX) (env:Env) (σ:SK)
 |yh (f:Nat) (args:List D) (th:Option D) (σ:SK)
inductive R where
 |val (d:D) (σ:SK)
 |Eb (e:Exit) (env:Env) (σ:SK)
 |fX (d:D) (σ:SK)
 deriving DecidableEq
abbrev bQ:=Q→Option R
def bj(e:Env):bM→D
 |.t n=>(get e n).strip
 |.c d=>d
def D.cells:D→Option (List D)
 |.agg cs=>some cs
 |.undef=>none
 |.dM _=>none
 |.own .. => none
 |.vr .. => none
 |.emp=>none
 |d=>some [d]
def D.row(ag:Bool)(d:D):Option (List D) :=
 match ag,d with
 |true,.agg cs=>some cs
 |true,_=>none
 |false,.agg _=>none
 |false,d=>d.cells
def rQ(e:Env):List (Nat×Nat×bM)→List D→Option (List D)
 |[],cs=>some cs
 |(off,sz,x)::r,cs =>
  match(bj e x).cells with
  |some p=>if p.length=sz∧off+sz≤cs.length then rQ e r (cs.take off++p++cs.drop (off+sz))else none
  |none=>none
def AG:List (Option IntKind)→List D→List D→Option Bool
 |[],[],[]=>some true
 |some k::ks,.int k1 a::x,.int k2 b::y=>if k1=k∧k2=k then(AG ks x y).map (a == b && ·)else none
 |none::ks,.bool a::x,.bool b::y=>(AG ks x y).map (a == b && ·)
 |_,_,_=>none
def tw(o:BinOp):D→D→Option D
 |.int k a,.int k' b =>
  match o with
  |.shl=>if b<0 then none else some (.int k (k.wrap (a*2^(min b.toNat k.bits))))
  |.shr=>if b<0 then none else some (.int k (a.fdiv (2^(min b.toNat k.bits))))
  |.add=>if k=k' then some (.int k (k.wrap (a+b)))else none
  |.sub=>if k=k' then some (.int k (k.wrap (a-b)))else none
  |.mul=>if k=k' then some (.int k (k.wrap (a*b)))else none
  |.quo=>if k=k'∧b≠0 then some (.int k (k.wrap (a.tdiv b)))else none
  |.rem=>if k=k'∧b≠0 then some (.int k (a.tmod b))else none
  |.and=>if k=k' then some (.int k (k.wrap ((BitVec.ofInt k.bits a &&& BitVec.ofInt k.bits b).toNat:Int)))else none
  |.or=>if k=k' then some (.int k (k.wrap ((BitVec.ofInt k.bits a ||| BitVec.ofInt k.bits b).toNat:Int)))else none
  |.xor=>if k=k' then some (.int k (k.wrap ((BitVec.ofInt k.bits a ^^^ BitVec.ofInt k.bits b).toNat:Int)))else none
  |.andNot=>none
  |.eql=>if k=k' then some (.bool (a == b))else none
  |.neq=>if k=k' then some (.bool (a != b))else none
  |.lss=>if k=k' then some (.bool (decide (a<b)))else none
  |.leq=>if k=k' then some (.bool (decide (a≤b)))else none
  |.gtr=>if k=k' then some (.bool (decide (a>b)))else none
  |.geq=>if k=k' then some (.bool (decide (a≥b)))else none
 |_,_=>none
def Gi:D→Option Int
 |.int _ n=>some n
 |_=>none
def C4(e:Env)(m:Nat)(dfl:Option Nat):Option bM→Option Nat
 |some x=>match Gi (bj e x)with
  |some n=>if 0≤n∧n≤m then some n.toNat else none
  |none=>none
 |none=>dfl
def bounds(len:Nat)(e:Env)(lo hi mx:Option bM):Option (Nat×Nat) :=
 (C4 e len (some len) mx).bind fun m=>(C4 e m (if mx.isSome then none else some len) hi).bind fun h=>(C4 e h (some 0) lo).map fun l=>(l,h)
def sU(ky:Ky)(a b:D):Option Bool :=
 match ky with
 |none=>match a,b with
  |.str x,.str y=>some (x == y)
  |_,_=>none
 |some (ag,ks)=>match a.row ag,b.row ag with
  |some p,some q=>AG ks p q
  |_,_=>none
def re(ky:Ky)(k:D):List D→Option (Option (Nat×D))
 |[]=>some none
 |.dM [k',v]::es =>
  match sU ky k k' with
  |some true=>some (some (0,v))
  |some false=>(re ky k es).map fun x=>x.map fun y=>(y.1+1,y.2)
  |none=>none
 |_=>none
def BN(σ:SK):D→Option (Nat×Nat×List D)
 |.mB l i=>(cells? σ l i 0).map fun es=>(l,i,es)
 |_=>none
def BO(σ:SK):Mo→List D→Option (D×SK)
 |.make,[]=>(ij σ (.cells 0 [])).map fun x=>(.mB x.1 x.2.1,x.2.2)
 |.lK t e,[]=>(ij σ (.cells 2 [.int .i64 (t:Nat),.int .i64 (e:Nat),.str []])).map fun x=>(.mB x.1 x.2.1,x.2.2)
 |.get ky zero ok,[m,k] =>
  match BN σ m with
  |some (_,_,es) =>
   if(sU ky k k).isSome then
    match re ky k es with
    |some (some (_,v))=>some (if ok then .dM [v,.bool true]else v,σ)
    |some none=>some (if ok then .dM [zero,.bool false]else zero,σ)
    |none=>none
   else none
  |none=>none
 |.put ky,[m,k,v] =>
  match BN σ m with
  |some (l,i,es) =>
   if(sU ky k k).isSome∧(l+1=σ.length∨(k.clean∧v.clean))then
    match re ky k es with
    |some (some (j,_))=>some (.undef,aW σ l i (.cells 0 (es.set j (.dM [k,v]))))
    |some none=>some (.undef,aW σ l i (.cells 0 (es++[.dM [k,v]])))
    |none=>none
   else none
  |none=>none
 |.len,[m]=>(BN σ m).map fun x=>(.int .i64 x.2.2.length,σ)
 |.rng,[m] =>
  match BN σ m with
  |some (lm,im,es)=>(ij σ (.cells 1 [.mB lm im,.int .i64 es.length])).map fun x=>(.mB x.1 x.2.1,x.2.2)
  |none=>none
 |.ent,[.mB l i] =>
  match cells? σ l i 1 with
  |some (m::.int .i64 n::.int .i64 j::_) =>
   match BN σ m with
   |some (_,_,es)=>if(es.length:Int)=n then
     match es[j.toNat]? with
     |some (.dM [k,v])=>some (.dM [k,v],σ)
     |_=>none
    else none
   |none=>none
  |_=>none
 |_,_=>none
def strCells(s:List UInt8):List D:=s.map fun b => .int .u8 b.toNat
def elems(σ:SK)(w:Nat):D→Option (Nat×List D)
 |.aG=>some (0,[])
 |.str s=>if w=1 then some (s.length,strCells s)else none
 |.aI n cs=>if cs.length=n*w then some (n,cs)else none
 |.sl l i v off n w' =>
  if w'=w then
   match cells? σ l i v with
   |some cs=>if off+n*w≤cs.length then some (n,(cs.drop off).take (n*w))else none
   |none=>none
  else none
 |_=>none
def E5:List D→Option (List UInt8)
 |[]=>some []
 |.int .u8 n::r=>(E5 r).map (UInt8.ofNat n.toNat :: ·)
 |_=>none
def meD(σ:SK):Me→List D→Option (D×SK)
 |.b2s,[.str _]=>none
 |.b2s,[x]=>(elems σ 1 x).bind fun r=>(E5 r.2).map fun s=>(.str s,σ)
 |.s2b,[.str s]=>some (.aI s.length (strCells s),σ)
 |.s2a n w,[.aI m cs]=>if 0<n∧n≤m then some (.bI (cs.take (n*w)),σ)else none
 |.peq neg,[.ref l i v o,.ref l' i' v' o']=>if l=l'∧i=i'∧o=o'∧v=v'∧(cells? σ l i v).isSome then some (.bool (!neg),σ)else none
 |_,_=>none
def room:Nat:=2^46
def kV:List (Nat×Nat)→List D→SK→Option (List D×SK)
 |[],cs,σ=>some (cs,σ)
 |(p,w)::r,cs,σ =>
  match cs[p]? with
  |some .aG=>do
   let (l,i,σ')←ij σ (.cells 0 [])
   kV r (cs.set p (.sl l i 0 0 0 w)) σ'
  |_=>kV r cs σ
def rR(e:Env)(v a:Nat):Option (Nat×List D×Nat) :=
 match get e v with
 |.own s cs =>
  if a=v then some (s,cs,0)else
  match get e a with
  |.vr x s' off=>if x=v∧s'=s then some (s,cs,off)else none
  |_=>none
 |_=>none
def uq(e:Env)(v:Nat):Nat :=
 match get e v with
 |.own s _=>s+1
 |_=>0
def HH(σ:SK):D→Option (List D)
 |.bI cs=>some cs
 |.ref l i v off=>(cells? σ l i v).map (·.drop off)
 |_=>none
def Vr(σ:SK):D→Option (List D)
 |.ref l i 0 off=>HH σ (.ref l i 0 off)
 |_=>none
def Lc(ps:Bool)(d:D):Option Bool :=
 match ps,d with
 |true,.xH=>some true
 |true,.bI _=>some false
 |true,.ref .. => some false
 |false,.aG=>some true
 |false,.aI n _=>if n=0 then none else some false
 |false,.sl _ _ _ _ n _=>if n=0 then none else some false
 |_,_=>none
def QY(t:Nat)(z:Option D):D→Option D
 |.ud t' d=>match z with
  |some z=>some (if t'=t then .dM [d,.bool true]else .dM [z,.bool false])
  |none=>if t'=t then some d else none
 |.pg=>z.map fun z => .dM [z,.bool false]
 |_=>none
def agY:D→Option Bool
 |.pg=>some true
 |.ud .. => some false
 |_=>none
def D.off(l i:Nat):D→Bool
 |.ref l' i' _ _=>decide (¬(l'=l∧i'=i))
 |_=>true
def MI(e:Env)(σ:SK)(w bytes:Nat)(s x:bM):Option (D×SK):=do
  let (m,xs)←elems σ w (bj e x)
  match bj e s with
  |.aG =>
   if m*bytes≤room then
    if m=0 then some (.aI 0 [],σ)else do
    let (l,i,σ')←ij σ (.cells 0 xs)
    some (.sl l i 0 0 m w,σ')
   else none
  |.sl l i v off n w' =>
   match cells? σ l i v with
   |some cs =>
    if w'=w∧off+n*w≤cs.length∧(n+m)*bytes≤room then
     if l+1=σ.length then
      some (.sl l i (v+1) 0 (n+m) w,aW σ l i (.cells (v+1) ((cs.drop off).take (n*w)++xs)))
     else
      let r:=cG.frzL (cG l deep) xs σ
      some (.sl l i (v+1) 0 (n+m) w,aW r.2 l i (.cells (v+1) ((cs.drop off).take (n*w)++r.1)))
    else none
   |none=>none
  |_=>none
def bN(e:Env)(σ:SK):K→Option (D×SK)
 |.mv x=>some (bj e x,σ)
 |.pB w=>do
  let (l,i,σ')←ij σ (.cells 0 [])
  some (.sl l i 0 0 0 w,σ')
 |.pick c a b =>
  match bj e c with
  |.bool t=>some (if t then bj e a else bj e b,σ)
  |_=>none
 |.K5 nb cs=>do
  let (cs',σ1)←kV nb cs σ
  let (l,i,σ')←ij σ1 (.cells 0 cs')
  some (.ref l i 0 0,σ')
 |.K6 x=>(bj e x).cells.map fun cs=>(.bI cs,σ)
 |.K7 x=>do
  let cs←(bj e x).cells
  let (l,i,σ')←ij σ (.cells 0 cs)
  some (.ref l i 0 0,σ')
 |.bxn nb x=>do
  let cs←(bj e x).cells
  let (cs',σ1)←kV nb cs σ
  let (l,i,σ')←ij σ1 (.cells 0 cs')
  some (.ref l i 0 0,σ')
 |.eJ .. => none
 |.Hj _=>none
 |.IN .. => none
 |.Vq v ag sz a =>
  match rR e v a with
  |some (_,cs,off) =>
   let cs:=cs.drop off
   if sz≤cs.length then
    if ag then some (.agg (cs.take sz),σ)else
    match cs with
    |d::_=>some (d,σ)
    |[]=>none
   else none
  |none=>none
 |.lK zero parts=>do
  let cs←rQ e parts zero
  some (.agg cs,σ)
 |.uH n _ zero parts=>do
  let cs←rQ e parts zero
  some (.aI n cs,σ)
 |.Oa n w zero parts=>do
  let cs←rQ e parts zero
  let (l,i,σ')←ij σ (.cells 0 cs)
  some (.sl l i 0 0 n w,σ')
 |.ld ag sz a =>
  match HH σ (bj e a)with
  |some cs =>
   if sz≤cs.length then
    if ag then some (.agg (cs.take sz),σ)else
    match cs with
    |d::_=>some (d,σ)
    |[]=>none
   else none
  |none=>none
 |.Vo ag sz a =>
  match Vr σ (bj e a)with
  |some cs =>
   if sz≤cs.length then
    if ag then some (.agg (cs.take sz),σ)else
    match cs with
    |d::_=>some (d,σ)
    |[]=>none
   else none
  |none=>none
 |.Vp ag sz a =>
  match bj e a with
  |.bI cs =>
   if sz≤cs.length then
    if ag then some (.agg (cs.take sz),σ)else
    match cs with
    |d::_=>some (d,σ)
    |[]=>none
   else none
  |_=>none
 |.Vn ps neg x=>(Lc ps (bj e x)).map fun b=>(.bool (if neg then !b else b),σ)
 |.mA x =>
  match bj e x with
  |.bI cs=>some (.bI cs,σ)
  |.ref l i v off=>some (.ref l i v off,σ)
  |_=>none
 |.st nb sz a x =>
  match bj e a with
  |.ref l i v off =>
   match cells? σ l i v with
   |some cs =>
    match(bj e x).cells with
    |some p =>
     if p.length=sz∧off+sz≤cs.length then
      if l+1=σ.length then
       match kV nb p σ with
       |some (p',σ1)=>some (.undef,aW σ1 l i (.cells v (cs.take off++p'++cs.drop (off+sz))))
       |none=>none
      else
       let r:=cG.frzL (cG l deep) p σ
       some (.undef,aW r.2 l i (.cells v (cs.take off++r.1++cs.drop (off+sz))))
     else none
    |none=>none
   |none=>none
  |_=>none
 |.QP os sz a x =>
  match bj e a with
  |.ref l i v off =>
   if(os.all fun t=>D.off l i (get e t))=true then
    match cells? σ l i v with
    |some cs =>
     match(bj e x).cells with
     |some p =>
      if p.length=sz∧off+sz≤cs.length∧(D.bC p=true∨l+1=σ.length)then some (.undef,aW σ l i (.cells v (cs.take off++p++cs.drop (off+sz))))else none
     |none=>none
    |none=>none
   else none
  |_=>none
 |.bin o x y=>(tw o (bj e x) (bj e y)).map (·,σ)
 |.eqv ag ks neg x y =>
  match(bj e x).row ag,(bj e y).row ag with
  |some p,some q=>(AG ks p q).map fun b=>(.bool (if neg then !b else b),σ)
  |_,_=>none
 |.un o x =>
  match o,bj e x with
  |.not,.bool b=>some (.bool !b,σ)
  |.neg,.int k n=>some (.int k (k.wrap (0-n)),σ)
  |.xor,.int k n=>some (.int k (k.wrap ((BitVec.ofInt k.bits (if k.signed then -1 else k.max) ^^^ BitVec.ofInt k.bits n).toNat:Int)),σ)
  |_,_=>none
 |.Oj k x =>
  match bj e x with
  |.int _ n=>some (.int k (k.wrap n),σ)
  |_=>none
 |.yF f first cap=>some (.fn f (first.map (bj e)) (cap.map (bj e)),σ)
 |.mks w bytes zero l c =>
  match bj e l,bj e c with
  |.int .i64 n,.int .i64 m =>
   if 0≤n∧n=m∧n*bytes≤(room:Int)∧zero.length=w then do
    let (l,i,σ')←ij σ (.cells 0 ((List.range n.toNat).flatMap fun _=>zero))
    some (.sl l i 0 0 n.toNat w,σ')
   else none
  |_,_=>none
 |.Md w x lo hi mx =>
  match bj e x with
  |.aI n cs=>(bounds n e lo hi mx).map fun b=>(.aI (b.2-b.1) ((cs.drop (b.1*w)).take ((b.2-b.1)*w)),σ)
  |.sl l i v off n w'=>if w'=w then(bounds n e lo hi mx).map fun b=>(.sl l i v (off+b.1*w) (b.2-b.1) w,σ)else none
  |.aG=>(bounds 0 e lo hi mx).map fun _=>(.aG,σ)
  |_=>none
 |.QL len w x lo hi =>
  match bj e x with
  |.bI cs=>(bounds len e lo hi none).map fun b=>(.aI (b.2-b.1) ((cs.drop (b.1*w)).take ((b.2-b.1)*w)),σ)
  |.ref l i v off =>
   match cells? σ l i v with
   |some cs=>if len≤1000000∧off+len*w≤cs.length then(bounds len e lo hi none).map fun b=>(.sl l i v (off+b.1*w) (b.2-b.1) w,σ)else none
   |none=>none
  |_=>none
 |.K9 off x =>
  match x with
  |.t n =>
   match get e n with
   |.bI cs=>some (.bI (cs.drop off),σ)
   |.ref l i v o=>some (.ref l i v (o+off),σ)
   |.own s _=>some (.vr n s off,σ)
   |.vr v s o=>some (.vr v s (o+off),σ)
   |_=>none
  |.c _=>none
 |.fld ag off sz x =>
  match bj e x with
  |.agg cs =>
   if off+sz≤cs.length then
    if ag then some (.agg ((cs.drop off).take sz),σ)else(cs[off]?).map (·,σ)
   else none
  |_=>none
 |.BM len w x i =>
  match x,Gi (bj e i)with
  |.t m,some n =>
   if 0≤n∧n<len then
    match get e m with
    |.bI cs=>some (.bI ((cs.drop (n.toNat*w)).take w),σ)
    |.ref l j v off=>some (.ref l j v (off+n.toNat*w),σ)
    |.own s _=>some (.vr m s (n.toNat*w),σ)
    |.vr v s o=>some (.vr v s (o+n.toNat*w),σ)
    |_=>none
   else none
  |_,_=>none
 |.fh w x i =>
  match bj e x,Gi (bj e i)with
  |.aI m cs,some n=>if 0≤n∧n<m then some (.bI ((cs.drop (n.toNat*w)).take w),σ)else none
  |.sl l j v off m w',some n=>if 0≤n∧n<m∧w'=w then some (.ref l j v (off+n.toNat*w),σ)else none
  |_,_=>none
 |.MZ ag len w x i =>
  match bj e x,Gi (bj e i)with
  |.agg cs,some n =>
   if 0≤n∧n<len∧(n.toNat+1)*w≤cs.length then
    if ag then some (.agg ((cs.drop (n.toNat*w)).take w),σ)else(cs[n.toNat*w]?).map (·,σ)
   else none
  |_,_=>none
 |.Ld x =>
  match bj e x with
  |.aG=>some (.int .i64 0,σ)
  |.aI n _=>some (.int .i64 n,σ)
  |.sl _ _ _ _ n _=>some (.int .i64 n,σ)
  |_=>none
 |.Qp n=>some (.int .i64 n,σ)
 |.mn x y =>
  match bj e x,bj e y with
  |.int k a,.int _ b=>some (.int k (min a b),σ)
  |_,_=>none
 |.mx x y =>
  match bj e x,bj e y with
  |.int k a,.int _ b=>some (.int k (max a b),σ)
  |_,_=>none
 |.app w bytes s x=>do
  let (m,xs)←elems σ w (bj e x)
  match bj e s with
  |.aG =>
   if m*bytes≤room then
    if m=0 then some (.aI 0 [],σ)else do
    let (l,i,σ')←ij σ (.cells 0 xs)
    some (.sl l i 0 0 m w,σ')
   else none
  |.sl l i v off n w' =>
   match cells? σ l i v with
   |some cs =>
    if w'=w∧off+n*w≤cs.length∧(n+m)*bytes≤room then
     if l+1=σ.length then
      some (.sl l i (v+1) 0 (n+m) w,aW σ l i (.cells (v+1) ((cs.drop off).take (n*w)++xs)))
     else
      let r:=cG.frzL (cG l deep) xs σ
      some (.sl l i (v+1) 0 (n+m) w,aW r.2 l i (.cells (v+1) ((cs.drop off).take (n*w)++r.1)))
    else none
   |none=>none
  |_=>none
 |.Uj os w bytes s x =>
  match bj e s with
  |.sl l i _ _ _ _=>if(os.all fun t=>D.off l i (get e t))=true then(elems σ w (bj e x)).bind fun r=>if D.bC r.2=true then MI e σ w bytes s x else none else none
  |_=>none
 |.apz w bytes s x=>(MI e σ w bytes s x).map fun r=>cG 0 deep r.1 r.2
 |.cpi w bytes x=>do
  let (m,xs)←elems σ w (bj e x)
  if m*bytes≤room then some (.aI m xs,σ)else none
 |.bse=>some (.emp,σ)
 |.ape w bytes v x =>
  match get e v with
  |.emp=>(elems σ w (bj e x)).bind fun r=>if r.1*bytes≤room then some (.aI r.1 r.2,σ)else none
  |_=>none
 |.ext x i =>
  match bj e x with
  |.dM ds=>(ds[i]?).map (·,σ)
  |_=>none
 |.rl o xs=>(sw o (xs.map (bj e))).map (·,σ)
 |.mp o xs=>BO σ o (xs.map (bj e))
 |.me o xs=>meD σ o (xs.map (bj e))
 |.mki t x=>some (.ud t (bj e x),σ)
 |.tas t z x=>(QY t z (bj e x)).map (·,σ)
 |.isi neg x=>(agY (bj e x)).map fun b=>(.bool (if neg then !b else b),σ)
 |.PC _=>none
 |.PD=>none
 |.call _ _ _=>none
def R.bu:Option R→Option (D×SK)
 |some (.val d σ)=>some (d,σ)
 |_=>none
def R.Ur:Option R→Option (Exit×Env×SK)
 |some (.Eb e env σ)=>some (e,env,σ)
 |_=>none
def pn(O:bQ)(kp:Bool)(fv:D)(args:List D)(σ:SK):Option (D×SK) :=
 match fv with
 |.fn f first cap=>R.bu (O (.call kp f (first++args++cap) σ))
 |.mB l i=>R.bu (O (.round l i args σ))
 |_=>none
def H3(O:bQ)(fv:D)(args:List D)(σ:SK):Option (D×SK) :=
 match fv with
 |.fn f first cap=>R.bu (O (.call false f (first++args++cap) σ))
 |_=>none
def wc(O:bQ)(op:Op)(e:Env)(σ:SK):Option (Env×SK) :=
 match op.k with
 |.call kp f args =>
  match pn O kp (bj e f) (args.map (bj e)) σ with
  |some (d,σ')=>if op.Bg=true→σ'=σ then some (put op.dst d e,σ')else none
  |none=>none
 |.eJ nb cs =>
  match op.dst,kV nb cs σ with
  |some v,some (cs',σ')=>some ((v,.own (uq e v) cs')::e,σ')
  |_,_=>none
 |.Hj x =>
  match op.dst,(bj e x).cells with
  |some v,some cs=>some ((v,.own (uq e v) cs)::e,σ)
  |_,_=>none
 |.IN v nb sz a x =>
  match rR e v a,(bj e x).cells with
  |some (s,cs,off),some p =>
   if p.length=sz∧off+sz≤cs.length then
    match kV nb p σ with
    |some (p',σ')=>some ((v,.own s (cs.take off++p'++cs.drop (off+sz)))::e,σ')
    |none=>none
   else none
  |_,_=>none
 |k=>(bN e σ k).map fun x=>(put op.dst x.1 e,x.2)
def D.bit:D→Option (Option Bool)
 |.bool b=>some (some b)
 |.dM []=>some none
 |_=>none
def mz(O:bQ):List Op→Env→SK→Option (Env×SK)
 |[],e,σ=>some (e,σ)
 |op::r,e,σ =>
  match op.E8 with
  |none=>(wc O op e σ).bind fun x=>mz O r x.1 x.2
  |some (g,want) =>
   match(get e g).bit with
   |some y=>if y=some want then(wc O op e σ).bind fun x=>mz O r x.1 x.2 else mz O r (put op.dst (.dM []) e) σ
   |none=>none
def D.wN:D→D
 |.aG => .aI 0 []
 |d=>d
def Gc(l i u:Nat)(σ:SK):D×SK :=
 match cells? σ l i u with
 |some cs=>let r:=cG.frzL (cG 0 deep) cs (aW σ l i .dead);(.bI (r.1.map D.wN),r.2)
 |none=>(.undef,σ)
def La(v:Nat)(e:Env)(σ:SK):Env×SK :=
 match get e v with
 |.aG=>((v,.aI 0 [])::e,σ)
 |.ref l i u 0=>let r:=Gc l i u σ;((v,r.1)::e,r.2)
 |.own s cs=>((v,.own s (cs.map D.wN))::e,σ)
 |_=>(e,σ)
def u7:List Nat→Env→SK→Env×SK
 |[],e,σ=>(e,σ)
 |v::vs,e,σ =>
  match get e v with
  |.sl l i u off m w=>let r:=cG 0 deep (.sl l i u off m w) σ;u7 vs ((v,r.1)::e) r.2
  |.own s cs=>let r:=cG.frzL (cG 0 deep) cs σ;u7 vs ((v,.own s r.1)::e) r.2
  |.agg cs=>u7 vs ((v,.agg (cs.map D.wN))::e) σ
  |.undef=>if 1000000≤v then(let r:=La (v-1000000) e σ;u7 vs r.1 r.2)else u7 vs e σ
  |_=>u7 vs e σ
def Ba(O:bQ)(fv:D)(args:List D)(σ:SK):Option R :=
 match fv with
 |.fn f first cap=>O (.call false f (first++args++cap) σ)
 |_=>none
def uG(O:bQ)(live:List Nat)(dst:Option Nat)(post:List Op)(e:Env):Option R→Option (Exit×Env×SK)
 |some (.val d σ')=>(mz O post (put dst d e) σ').map fun y=>(.normal,restrict live y.1,y.2)
 |some (.fX d σ')=>some (.fX d,e,σ')
 |_=>none
def IH(O:bQ)(live:List Nat)(op:Op)(post:List Op)(e:Env)(σ:SK):Option (Exit×Env×SK) :=
 match op.E8,op.k with
 |none,.call false f args=>uG O live op.dst post e (Ba O (bj e f) (args.map (bj e)) σ)
 |none,.PC x=>(match bj e x with
  |.ud t d=>if d.clean then some (.fX (.ud t d),e,σ)else none
  |_=>none)
 |_,_=>none
def aY(O:bQ):cX→Env→SK→Option (Exit×Env×SK)
 |.cI,e,σ=>some (.normal,e,σ)
 |.cG vs,e,σ=>let r:=u7 vs e σ;some (.normal,r.1,r.2)
 |.ai live ops,e,σ=>(mz O ops e σ).map fun x=>(.normal,restrict live x.1,x.2)
 |.seq a b,e,σ=>(aY O a e σ).bind fun x =>
  match x.1 with
  |.normal=>aY O b x.2.1 x.2.2
  |_=>some x
 |.ite c a b,e,σ =>
  match bj e c with
  |.bool t=>if t then aY O a e σ else aY O b e σ
  |_=>none
 |.bD id a,e,σ=>(aY O a e σ).map fun x =>
  match x.1 with
  |.exit j=>if j=id then(.normal,x.2)else x
  |_=>x
 |.loop live bA a,e,σ=>R.Ur (O (.loop live bA a e σ))
 |.QH live f params Ay body,e,σ =>
  match ij σ (.loop {state:=0,wU:=none,env:=xP live e,params,Ay,body })with
  |some (l,i,σ1) =>
   match H3 O (bj e f) [.mB l i] σ1 with
   |some (_,σ2) =>
    match ej σ2 l i with
    |some (.loop lp) =>
     if lp.state=1 then none else
     some (lp.wU.getD .normal,restrict live e,aW σ2 l i (.loop {lp with state:=3 }))
    |_=>none
   |none=>none
  |none=>none
 |.jJ live it nx ok b a rest,e,σ=>R.Ur (O (.jJ live it nx ok b a rest e σ))
 |.iT live pre op post,e,σ=>(mz O pre e σ).bind fun x=>IH O live op post x.1 x.2
 |.Wu ..,_,_=>none
 |.exit id,e,σ=>some (.exit id,e,σ)
 |.ret,e,σ=>some (.ret,e,σ)
inductive Fu where
 |t (n:Nat)
 |c (n:Nat) (ag:Bool) (sz:Nat)
 |v (n:Nat) (ag:Bool) (sz:Nat)
structure Fn where
 Qy:Nat
 res:List Fu
 body:cX
def Kj(e:Env)(σ:SK):Fu→Option D
 |.t n=>some (get e n).strip
 |.c n ag sz=>(bN e σ (.ld ag sz (.t n))).map (·.1)
 |.v n ag sz=>(bN e σ (.Vq n ag sz n)).map (·.1)
def zY(e:Env)(σ:SK):List Fu→Option (List D)
 |[]=>some []
 |r::rs=>(Kj e σ r).bind fun d=>(zY e σ rs).map fun ds=>d::ds
def uf:List D→D
 |[d]=>d
 |ds => .dM ds
def nw(n:Nat):List D→Env
 |[]=>[]
 |d::ds=>(n,d)::nw (n+1) ds
def AS:List Nat→List D→Env→Env
 |t::ts,d::ds,e=>AS ts ds ((t,d)::e)
 |_,_,e=>e
abbrev yZ:=Nat→Option Fn
def agW:List D→Option (List Int)
 |[]=>some []
 |.int .i64 z::r=>(agW r).map (z :: ·)
 |_=>none
def aje(x:Int):List Int→List Int
 |[]=>[x]
 |y::l=>if x≤y then x::y::l else y::aje x l
def TQ:List Int→List Int
 |[]=>[]
 |x::l=>aje x (TQ l)
def agU(l:List Int):List D:=l.map (.int .i64)
def Oi(x:Int):List Int→List Int
 |[]=>[]
 |y::l=>if y=x then Oi x l else y::Oi y l
def LB:List Int→List Int
 |[]=>[]
 |x::l=>x::Oi x l
def ahl(k:Nat)(zs:List Int):List Int:=if k=1 then TQ zs else LB zs++List.replicate (zs.length-(LB zs).length) 0
def atZ(k l i v off:Nat)(zs:List Int):D:=if k=1 then .dM []else .sl l i v off (LB zs).length 1
def ayr(k:Nat)(args:List D)(σ:SK):Option R :=
 match args with
 |[.sl l i v off n w] =>
  if n≠0∧w=1∧n≤1000000 then
   match cells? σ l i v with
   |some cs =>
    if off+n≤cs.length then
     match agW ((cs.drop off).take n)with
     |some zs=>some (.val (atZ k l i v off zs) (aW σ l i (.cells v (cs.take off++agU (ahl k zs)++cs.drop (off+n)))))
     |none=>none
    else none
   |none=>none
  else none
 |_=>none
def uY:Nat→Nat→List UInt8
 |0,_=>[]
 |k+1,u=>if u<10 then [UInt8.ofNat (48+u)]else uY k (u / 10)++[UInt8.ofNat (48+u%10)]
def CG(n:Int):List UInt8:=if n<0 then 45::uY 20 n.natAbs else uY 20 n.toNat
def A1:List D→Option (List (List UInt8))
 |[]=>some []
 |.str s::r=>(A1 r).map (s :: ·)
 |_=>none
def Tp(sep:List UInt8):List (List UInt8)→List UInt8
 |[]=>[]
 |x::r=>x++r.flatMap (sep ++ ·)
def de(b:UInt8):List UInt8→List (List UInt8)
 |[]=>[[]]
 |c::r=>if c=b then []::de b r else match de b r with
  |x::l=>(c::x)::l
  |[]=>[[c]]
def sb(s:List UInt8):Nat×Int :=
 match Lib.atoiAll s with
 |.ok v=>(0,v)
 |Lib.NumEnd.syntax=>(1,0)
 |.range=>(2,Lib.atoiSat s)
def zK(a b:Nat)(xs:List (List UInt8)):List (List UInt8):=xs.take a++xs.drop b++List.replicate (b-a) []
def HC(k:Nat)(args:List D)(σ:SK):Option R :=
 match k%16,args with
 |3,[.int .i64 n]=>if -9223372036854775808≤n∧n≤9223372036854775807 then some (.val (.str (CG n)) σ)else none
 |4,[.str s]=>if s.length≤1000000 then some (.val (.dM [.int .i64 (sb s).2,if(sb s).1=0 then .pg else .ud (k / 16) .undef]) σ)else none
 |5,[.aI n cs,.str sep] =>
  match A1 cs with
  |some xs=>if n=xs.length∧n≤1000∧(Tp sep xs).length≤1000000 then some (.val (.str (Tp sep xs)) σ)else none
  |none=>none
 |6,[.str s,.str [b]]=>if s.length≤1000000 then some (.val (.aI (de b s).length ((de b s).map .str)) σ)else none
 |7,[.mB l i,.str s] =>
  match cells? σ l i 2 with
  |some [.int .i64 t,.int .i64 e,.str bs] =>
   if t=((k / 16%65536:Nat):Int)∧e=((k / 16 / 65536:Nat):Int)∧bs.length+s.length≤1000000 then
    some (.val (.dM [.int .i64 s.length,.pg]) (aW σ l i (.cells 2 [.int .i64 t,.int .i64 e,.str (bs++s)])))
   else none
  |_=>none
 |8,[.mB l i] =>
  match cells? σ l i 2 with
  |some [.int .i64 t,.int .i64 e,.str bs]=>if t=((k / 16%65536:Nat):Int)∧e=((k / 16 / 65536:Nat):Int)∧bs≠[]then some (.val (.str bs) σ)else none
  |_=>none
 |9,[.sl l i v off n w,.int .i64 a,.int .i64 b] =>
  if n≠0∧w=1∧n≤1000000∧0≤a∧a≤b∧b≤(n:Int)then
   match cells? σ l i v with
   |some cs =>
    if off+n≤cs.length then
     match A1 ((cs.drop off).take n)with
     |some xs=>some (.val (.sl l i v off (n-(b.toNat-a.toNat)) 1) (aW σ l i (.cells v (cs.take off++(zK a.toNat b.toNat xs).map .str++cs.drop (off+n)))))
     |none=>none
    else none
   |none=>none
  else none
 |0,_=>none
 |9,_=>none
 |10,_=>none
 |11,_=>none
 |12,_=>none
 |13,_=>none
 |14,_=>none
 |15,_=>none
 |1,args=>ayr 1 args σ
 |2,args=>ayr 2 args σ
 |_,_=>none
def Ie(σ:SK)(l i:Nat):Option (D×Nat×List D×List Nat) :=
 match cells? σ l i 1 with
 |some (m::.int .i64 n::js) =>
  match BN σ m with
  |some (_,_,es)=>if(es.length:Int)=n then some (m,es.length,js,(List.range es.length).filter fun j => !(js.contains (.int .i64 j)))else none
  |none=>none
 |_=>none
def agree:List (Option R)→Option R
 |[]=>none
 |r::rs=>if ∀x∈rs,x=r then r else none
def xE(O:bQ)(l i b:Nat)(rest:cX):Option (Exit×Env×SK)→Option R
 |some (.exit j,e1,σ1) =>
  if j=b then(aY O rest e1 (aW σ1 l i .dead)).map fun x => .Eb x.1 x.2.1 x.2.2
  else some (.Eb (.exit j) e1 (aW σ1 l i .dead))
 |some (.ret,e1,σ1)=>some (.Eb .ret e1 (aW σ1 l i .dead))
 |_=>none
def Bf(O:bQ)(live:List Nat)(it:bM)(l i nx ok b:Nat)(c rest:cX):Option (Exit×Env×SK)→Option R
 |some (.normal,e1,σ1)=>O (.jJ live it nx ok b c rest e1 σ1)
 |y=>xE O l i b rest y
def jH:cX→Option (cX×bM×List bM×cX)
 |.Wu f args q=>some (.cI,f,args,q)
 |.seq a b=>(jH b).map fun x=>(.seq a x.1,x.2)
 |_=>none
def QZ(kp:Bool)(d:D):SK→Option R
 |_::σ=>if kp=false∧d.clean=true then some (.fX d σ)else none
 |[]=>none
def leave(res:List Fu)(σ:SK)(e:Env)(σ1:SK):Option R :=
 match zY e σ1 res with
 |some ds=>(match cG (σ.length-1) deep (uf ds) σ1 with
  |(d,_::σ2)=>some (.val d σ2)
  |_=>none)
 |none=>none
def qX(O:bQ)(fv:D)(args:List D)(th:Option D)(σ:SK):Option R :=
 match fv with
 |.fn f first cap=>O (.yh f (first++args++cap) th σ)
 |_=>none
def uZ(res:List Fu)(σ:SK)(e:Env):Option R→Option R
 |some (.val _ σ1)=>leave res σ e σ1
 |_=>none
def zL(O:bQ)(res:List Fu)(σ:SK)(fv:D)(args:List D):Option (Exit×Env×SK)→Option R
 |some (.fX d,e,σ1)=>uZ res σ e (qX O fv args (some d) σ1)
 |some (.normal,e,σ1)=>uZ res σ e (qX O fv args none σ1)
 |some (.ret,e,σ1)=>uZ res σ e (qX O fv args none σ1)
 |_=>none
def zJ(O:bQ)(fn:Fn)(σ:SK):Option (cX×bM×List bM×cX)→Env→SK→Option R
 |some (a,f,args,q),e0,σ0 =>
  (match aY O a e0 σ0 with
  |some (.normal,e,σ1)=>zL O fn.res σ (bj e f) (args.map (bj e)) (aY O q e σ1)
  |_=>none)
 |none,_,_=>none
def rZ(th:Option D)(args:List D):cX→Option (Env×cX)
 |.seq (.ai live [⟨some t,none,_,.PD⟩]) q=>(match q with
  |.jJ .. => none
  |q=>some (restrict live ((t,th.getD .pg)::nw 0 args),q))
 |_=>none
def dw(T:yZ)(O:bQ):Q→Option R
 |.call kp f args σ =>
  match T f with
  |some fn =>
   if args.length=fn.Qy then
    match aY O fn.body (nw 0 args) (if kp then σ else []::σ)with
    |some (.exit _,_,_)=>none
    |some (.fX d,_,σ1)=>QZ kp d σ1
    |some (_,e,σ1) =>
     match zY e σ1 fn.res with
     |some ds =>
      if kp then some (.val (uf ds) σ1)else
      match cG (σ.length-1) deep (uf ds) σ1 with
      |(d,_::σ2)=>some (.val d σ2)
      |_=>none
     |none=>none
    |none=>if kp then none else zJ O fn σ (jH fn.body) (nw 0 args) ([]::σ)
   else none
  |none =>
   match T (1000000+f)with
   |some fn=>HC fn.Qy args σ
   |none=>none
 |.loop live bA c e σ =>
  match aY O c (restrict live e) (if bA then []::σ else σ)with
  |some (x,e1,σ1) =>
   let (e2,σ2):=if bA then(let r:=sR (σ.length-1) (restrict (zp live x e1) e1) σ1;(r.1,r.2.tail))else(e1,σ1)
   match x with
   |.normal=>O (.loop live bA c e2 σ2)
   |x=>some (.Eb x e2 σ2)
  |none=>none
 |.round l i args σ =>
  match ej σ l i with
  |some (.loop lp) =>
   if args.length=lp.params.length then
    match aY O lp.Ay (AS lp.params args lp.env) ([]::σ)with
    |some (.normal,e1,σ1) =>
     match ej σ1 l i with
     |some (.loop lp1) =>
      if lp1.state=0 then
       match aY O lp.body e1 (aW σ1 l i (.loop {lp1 with state:=1 }))with
       |some (x,_,_::σ2) =>
        match ej σ2 l i with
        |some (.loop lp2) =>
         match x with
         |.fX _=>none
         |.normal=>some (.val (.bool true) (aW σ2 l i (.loop {lp2 with state:=0,wU:=none })))
         |x=>some (.val (.bool false) (aW σ2 l i (.loop {lp2 with state:=2,wU:=some x })))
        |_=>none
       |_=>none
      else none
     |_=>none
    |_=>none
   else none
  |_=>none
 |.jJ live it nx ok b c rest e σ =>
  match bj (restrict live e) it with
  |.mB l i =>
   match Ie σ l i with
   |some (_,_,_,[])=>xE O l i b rest (aY O c ((ok,.bool false)::(nx,.undef)::restrict live e) σ)
   |some (m,n,js,us)=>agree (us.map fun u=>Bf O live it l i nx ok b c rest (aY O c ((ok,.bool true)::(nx,.undef)::restrict live e) (aW σ l i (.cells 1 (m::.int .i64 (n:Nat)::.int .i64 (u:Nat)::js)))))
   |none=>none
  |_=>none
 |.yh f args th σ =>
  match T f with
  |some fn =>
   if args.length=fn.Qy then
    match rZ th args fn.body with
    |some (e0,q) =>
     match aY O q e0 ([]::σ)with
     |some (.exit _,_,_)=>none
     |some (.fX _,_,_)=>none
     |some (_,e,σ1) =>
      match zY e σ1 fn.res,σ1 with
      |some [],_::σ2=>some (.val (.dM []) σ2)
      |_,_=>none
     |none=>none
    |none=>none
   else none
  |none=>none
def it(T:yZ):Nat→bQ
 |0=>fun _=>none
 |n+1=>dw T (it T n)
open Classical in
noncomputable def bx(T:yZ):bQ:=fun q =>
 if h:∃n r,it T n q=some r then some h.choose_spec.choose else none
end Go.Abs
