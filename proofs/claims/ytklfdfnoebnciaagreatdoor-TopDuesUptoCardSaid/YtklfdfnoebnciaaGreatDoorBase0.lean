import GoSem.Core.View
import Derived.Lib.AtoiAll
set_option linter.all false
namespace Go
theorem ab:type_of%@Option.map_eq_some_iff:=@Option.map_eq_some_iff
theorem ad:type_of%@Option.some.injEq:=@Option.some.injEq
theorem ae:type_of%@Bool.and_eq_true:=@Bool.and_eq_true
theorem af:type_of%@Option.bind_eq_some_iff:=@Option.bind_eq_some_iff
theorem aM:type_of%@List.map_cons:=@List.map_cons
theorem ai:type_of%@List.mem_of_getElem?:=@List.mem_of_getElem?
theorem ah:type_of%@List.take_of_length_le:=@List.take_of_length_le
theorem aj:type_of%@Prod.mk.injEq:=@Prod.mk.injEq
theorem bS:type_of%@List.map_nil:=@List.map_nil
theorem ao:type_of%@decide_eq_true_eq:=@decide_eq_true_eq
theorem ar:type_of%@Bool.false_eq_true:=@Bool.false_eq_true
theorem aB:type_of%@Option.ite_none_right_eq_some:=@Option.ite_none_right_eq_some
theorem aw:type_of%@List.getElem?_eq_some_iff:=@List.getElem?_eq_some_iff
theorem az:type_of%@List.drop_eq_nil_of_le:=@List.drop_eq_nil_of_le
theorem aF:type_of%@Nat.le_refl:=@Nat.le_refl
theorem aD:type_of%@List.length_cons:=@List.length_cons
theorem aK:type_of%@List.getElem?_eq_getElem:=@List.getElem?_eq_getElem
theorem aL:type_of%@Option.bind_eq_bind:=@Option.bind_eq_bind
theorem aJ:type_of%@List.drop_zero:=@List.drop_zero
theorem aS:type_of%@Option.map_some:=@Option.map_some
theorem aO:type_of%@List.length_pos_iff:=@List.length_pos_iff
theorem aV:type_of%@List.nil_append:=@List.nil_append
theorem aQ:type_of%@List.flatMap_cons:=@List.flatMap_cons
theorem bq:type_of%@List.mem_cons:=@List.mem_cons
theorem aY:type_of%@List.mem_append:=@List.mem_append
theorem ba:type_of%@Int.tdiv_eq_ediv_of_nonneg:=@Int.tdiv_eq_ediv_of_nonneg
theorem bh:type_of%@List.length_nil:=@List.length_nil
theorem bN:type_of%@List.mem_map:=@List.mem_map
theorem bI:type_of%@List.length_append:=@List.length_append
theorem bR:type_of%@List.length_eq_zero_iff:=@List.length_eq_zero_iff
theorem bW:type_of%@Bool.or_eq_true:=@Bool.or_eq_true
theorem bU:type_of%@Array.getD_eq_getD_getElem?:=@Array.getD_eq_getD_getElem?
theorem ch:type_of%@List.getElem?_cons_zero:=@List.getElem?_cons_zero
theorem cG:type_of%@Nat.zero_add:=@Nat.zero_add
theorem cT:type_of%@List.mem_filter:=@List.mem_filter
theorem j3:type_of%@List.length_map:=@List.length_map
theorem cC:type_of%@List.drop_length_add_append:=@List.drop_length_add_append
theorem eO:type_of%@Array.getElem?_eq_some_iff:=@Array.getElem?_eq_some_iff
theorem iw:type_of%@Nat.mul_one:=@Nat.mul_one
theorem cH:type_of%@Nat.mul_le_mul_right:=@Nat.mul_le_mul_right
theorem dD:type_of%@List.mem_of_mem_take:=@List.mem_of_mem_take
theorem ea:type_of%@Nat.add_assoc:=@Nat.add_assoc
theorem cg:type_of%@List.flatMap_nil:=@List.flatMap_nil
theorem db:type_of%@Option.isSome_iff_exists:=@Option.isSome_iff_exists
theorem eu:type_of%@List.ext_getElem?:=@List.ext_getElem?
theorem cX:type_of%@Bool.not_eq_true':=@Bool.not_eq_true'
theorem eP:type_of%@List.getElem?_take:=@List.getElem?_take
theorem cS:type_of%@List.append_nil:=@List.append_nil
theorem dC:type_of%@List.mem_of_mem_drop:=@List.mem_of_mem_drop
theorem ew:type_of%@Nat.succ_mul:=@Nat.succ_mul
theorem fy:type_of%@Int.toNat_of_nonneg:=@Int.toNat_of_nonneg
theorem dS:type_of%@Int.mul_nonneg:=@Int.mul_nonneg
theorem fL:type_of%@List.singleton_append:=@List.singleton_append
theorem ej:type_of%@List.getElem?_eq_none:=@List.getElem?_eq_none
theorem gv:type_of%@Option.getD_some:=@Option.getD_some
theorem gq:type_of%@List.cons_append:=@List.cons_append
theorem gl:type_of%@Array.toList_inj:=@Array.toList_inj
theorem jl:type_of%@Nat.le_trans:=@Nat.le_trans
theorem iQ:type_of%@List.getElem?_drop:=@List.getElem?_drop
theorem iu:type_of%@Nat.add_mul:=@Nat.add_mul
theorem gr:type_of%@List.getElem?_of_mem:=@List.getElem?_of_mem
theorem bK:type_of%@Int.mul_le_mul_of_nonneg_right:=@Int.mul_le_mul_of_nonneg_right
theorem eh:type_of%@List.flatMap_append:=@List.flatMap_append
theorem jk:type_of%@List.all_cons:=@List.all_cons
theorem iK:type_of%@List.length_filter_le:=@List.length_filter_le
theorem iJ:type_of%@List.getElem?_toArray:=@List.getElem?_toArray
theorem j2:type_of%@List.cons.injEq:=@List.cons.injEq
theorem pn:type_of%@Array.getElem?_modify:=@Array.getElem?_modify
theorem pv:type_of%@List.getElem?_map:=@List.getElem?_map
theorem pr:type_of%@List.append_assoc:=@List.append_assoc
theorem mm:type_of%@List.getElem?_mapIdx:=@List.getElem?_mapIdx
theorem iD:type_of%@List.getElem?_append_left:=@List.getElem?_append_left
theorem fQ:type_of%@List.drop_drop:=@List.drop_drop
theorem la:type_of%@Int.mul_le_mul:=@Int.mul_le_mul
theorem kT:type_of%@List.length_take:=@List.length_take
theorem kS:type_of%@List.all_eq_true:=@List.all_eq_true
theorem mj:type_of%@Int.le_total:=@Int.le_total
theorem gE{α:Type}{l:List α}{i:Nat}(h:i<l.length):∃x,l[i]?=some x:=⟨_,aK h⟩
end Go
namespace Go.Abs
inductive D where
 |undef
 |bool (b:Bool)
 |int (k:IntKind) (n:Int)
 |str (s:List UInt8)
 |agg (cs:List D)
 |dQ (cs:List D)
 |wO
 |ref (l i v off:Nat)
 |bw (cs:List D)
 |aI
 |aE (n:Nat) (cs:List D)
 |sl (l i v off n w:Nat)
 |fn (f:Nat) (first cap:List D)
 |ir
 |mf (l i:Nat)
 |own (s:Nat) (cs:List D)
 |vr (x s off:Nat)
 |tQ (t:Nat) (d:D)
 |o9
 |emp
 deriving Inhabited
mutual
def D.same:D→D→Bool
 |.undef,.undef=>true
 |.bool a,.bool b=>a == b
 |.int k n,.int k' n'=>k == k' && n == n'
 |.str a,.str b=>a == b
 |.agg a,.agg b=>D.xK a b
 |.dQ a,.dQ b=>D.xK a b
 |.wO,.wO=>true
 |.ref a b c d,.ref a' b' c' d'=>a == a' && b == b' && c == c' && d == d'
 |.bw a,.bw b=>D.xK a b
 |.aI,.aI=>true
 |.aE n a,.aE m b=>n == m && D.xK a b
 |.sl a b c d e f,.sl a' b' c' d' e' f'=>a == a' && b == b' && c == c' && d == d' && e == e' && f == f'
 |.fn f a b,.fn f' a' b'=>f == f' && D.xK a a' && D.xK b b'
 |.ir,.ir=>true
 |.mf a b,.mf a' b'=>a == a' && b == b'
 |.own s a,.own s' b=>s == s' && D.xK a b
 |.vr a b c,.vr a' b' c'=>a == a' && b == b' && c == c'
 |.tQ t a,.tQ t' b=>t == t' && D.same a b
 |.o9,.o9=>true
 |.emp,.emp=>true
 |_,_=>false
def D.xK:List D→List D→Bool
 |[],[]=>true
 |a::as,b::bs=>D.same a b && D.xK as bs
 |_,_=>false
end
mutual
theorem Ji:∀{a b:D},D.same a b=true→a=b
 |.undef,b,h=>by cases b<;>simp[D.same]at h;rfl
 |.bool _,b,h=>by cases b<;>simp[D.same]at h;rw[h]
 |.int _ _,b,h=>by cases b<;>simp[D.same]at h;rw[h.1,h.2]
 |.str _,b,h=>by cases b<;>simp[D.same]at h;rw[h]
 |.agg _,b,h=>by cases b<;>simp[D.same]at h;rw[vo h]
 |.dQ _,b,h=>by cases b<;>simp[D.same]at h;rw[vo h]
 |.wO,b,h=>by cases b<;>simp[D.same]at h;rfl
 |.ref ..,b,h=>by cases b<;>simp[D.same]at h;simp[h]
 |.bw _,b,h=>by cases b<;>simp[D.same]at h;rw[vo h]
 |.aI,b,h=>by cases b<;>simp[D.same]at h;rfl
 |.aE ..,b,h=>by cases b<;>simp[D.same]at h;rw[h.1,vo h.2]
 |.sl ..,b,h=>by cases b<;>simp[D.same]at h;simp[h]
 |.fn ..,b,h=>by cases b<;>simp[D.same]at h;rw[h.1.1,vo h.1.2,vo h.2]
 |.ir,b,h=>by cases b<;>simp[D.same]at h;rfl
 |.mf ..,b,h=>by cases b<;>simp[D.same]at h;simp[h]
 |.own ..,b,h=>by cases b<;>simp[D.same]at h;rw[h.1,vo h.2]
 |.vr ..,b,h=>by cases b<;>simp[D.same]at h;simp[h]
 |.tQ _ a,b,h=>by cases b<;>simp[D.same]at h;rw[h.1,Ji h.2]
 |.o9,b,h=>by cases b<;>simp[D.same]at h;rfl
 |.emp,b,h=>by cases b<;>simp[D.same]at h;rfl
theorem vo:∀{a b:List D},D.xK a b=true→a=b
 |[],[],_=>rfl
 |[],_::_,h=>by simp[D.xK]at h
 |_::_,[],h=>by simp[D.xK]at h
 |a::as,b::bs,h=>by
  simp only[D.xK,ae]at h;rw[Ji h.1,vo h.2]
end
mutual
theorem En:∀(a:D),D.same a a=true
 |.undef=>rfl
 |.bool b=>by simp[D.same]
 |.int k n=>by simp[D.same]
 |.str s=>by simp[D.same]
 |.agg a=>by simp[D.same,qH a]
 |.dQ a=>by simp[D.same,qH a]
 |.wO=>rfl
 |.ref .. => by simp[D.same]
 |.bw a=>by simp[D.same,qH a]
 |.aI=>rfl
 |.aE n a=>by simp[D.same,qH a]
 |.sl .. => by simp[D.same]
 |.fn f a b=>by simp[D.same,qH a,qH b]
 |.ir=>rfl
 |.mf .. => by simp[D.same]
 |.own s a=>by simp[D.same,qH a]
 |.vr .. => by simp[D.same]
 |.tQ t a=>by simp[D.same,En a]
 |.o9=>rfl
 |.emp=>rfl
theorem qH:∀(a:List D),D.xK a a=true
 |[]=>rfl
 |a::as=>by simp[D.xK,En a,qH as]
end
instance:DecidableEq D:=fun a b=>if h:D.same a b=true then isTrue (Ji h)else isFalse fun e=>h (e ▸ En a)
inductive bE where
 |t (n:Nat)
 |c (d:D)
 deriving Inhabited,DecidableEq
inductive Pu where
 |Eo
 |Ho
 |aoF
 |Mj (lo hi:Bool)
 |seq (neg:Bool)
 deriving Inhabited,DecidableEq
def CM:Pu→List D→Option D
 |.Eo,[.str s]=>some (.int .i64 s.length)
 |.Ho,[.str s,.int _ i]=>if 0≤i then(s[i.toNat]?).map fun b => .int .u8 b.toNat else none
 |.aoF,[.str a,.str b]=>if a.length+b.length≤4611686018427387904 then some (.str (a++b))else none
 |.Mj true true,[.str s,.int _ i,.int _ j]=>if 0≤i∧i≤j∧j≤s.length then some (.str ((s.drop i.toNat).take (j.toNat-i.toNat)))else none
 |.Mj true false,[.str s,.int _ i]=>if 0≤i∧i≤s.length then some (.str (s.drop i.toNat))else none
 |.Mj false true,[.str s,.int _ j]=>if 0≤j∧j≤s.length then some (.str (s.take j.toNat))else none
 |.Mj false false,[.str s]=>some (.str s)
 |.seq neg,[.str a,.str b]=>some (.bool (if neg then !(a == b)else a == b))
 |_,_=>none
abbrev Ky:=Option (Bool×List (Option IntKind))
inductive Mo where
 |make
 |lf (t e:Nat)
 |get (ky:Ky) (zero:D) (ok:Bool)
 |put (ky:Ky)
 |len
 |rng
 |ent
 deriving Inhabited,DecidableEq
inductive Me where
 |b2s
 |s2b
 |s2a (n w:Nat)
 |peq (neg:Bool)
 deriving Inhabited,DecidableEq
inductive K where
 |mv (x:bE)
 |rq (w:Nat)
 |pick (c a b:bE)
 |G8 (nb:List (Nat×Nat)) (cs:List D)
 |dT (nb:List (Nat×Nat)) (cs:List D)
 |G9 (x:bE)
 |Ha (x:bE)
 |bxn (nb:List (Nat×Nat)) (x:bE)
 |D1 (x:bE)
 |lf (zero:List D) (parts:List (Nat×Nat×bE))
 |uH (n w:Nat) (zero:List D) (parts:List (Nat×Nat×bE))
 |K4 (n w:Nat) (zero:List D) (parts:List (Nat×Nat×bE))
 |ld (ag:Bool) (sz:Nat) (a:bE)
 |PW (ag:Bool) (sz:Nat) (a:bE)
 |PV (ag:Bool) (sz:Nat) (a:bE)
 |isn (ps neg:Bool) (x:bE)
 |ng (x:bE)
 |st (nb:List (Nat×Nat)) (sz:Nat) (a x:bE)
 |PK (os:List Nat) (sz:Nat) (a x:bE)
 |PX (v:Nat) (ag:Bool) (sz:Nat) (a:Nat)
 |Er (v:Nat) (nb:List (Nat×Nat)) (sz:Nat) (a:Nat) (x:bE)
 |bin (o:BinOp) (x y:bE)
 |eqv (ag:Bool) (ks:List (Option IntKind)) (neg:Bool) (x y:bE)
 |un (o:UnOp) (x:bE)
 |Q5 (k:IntKind) (x:bE)
 |xf (f:Nat) (first cap:List bE)
 |mks (w bytes:Nat) (zero:List D) (l c:bE)
 |K8 (w:Nat) (x:bE) (lo hi mx:Option bE)
 |Mg (len w:Nat) (x:bE) (lo hi:Option bE)
 |Hc (off:Nat) (x:bE)
 |fld (ag:Bool) (off sz:Nat) (x:bE)
 |AI (len w:Nat) (x i:bE)
 |eI (w:Nat) (x i:bE)
 |IW (ag:Bool) (len w:Nat) (x i:bE)
 |Hh (x:bE)
 |LS (n:Nat)
 |mn (x y:bE)
 |mx (x y:bE)
 |app (w bytes:Nat) (s x:bE)
 |OQ (os:List Nat) (w bytes:Nat) (s x:bE)
 |PT (w bytes:Nat) (s x:bE)
 |cpi (w bytes:Nat) (x:bE)
 |cvz (x:bE)
 |bse
 |ape (w bytes v:Nat) (x:bE)
 |ext (x:bE) (i:Nat)
 |BR (o:Pu) (xs:List bE)
 |mp (o:Mo) (xs:List bE)
 |me (o:Me) (xs:List bE)
 |mki (t:Nat) (x:bE)
 |tas (t:Nat) (zero:Option D) (x:bE)
 |isi (neg:Bool) (x:bE)
 |K6 (x:bE)
 |K7
 |call (kp:Bool) (f:bE) (args:List bE)
 deriving Inhabited,DecidableEq
structure Op where
 dst:Option Nat
 Cz:Option (Nat×Bool)
 zW:Bool
 k:K
 deriving Inhabited,DecidableEq
inductive cA where
 |ep
 |ck (vs:List Nat)
 |cm (live:List Nat) (ops:List Op)
 |seq (a b:cA)
 |ite (c:bE) (a b:cA)
 |bL (id:Nat) (a:cA)
 |loop (live:List Nat) (bk:Bool) (a:cA)
 |Je (live:List Nat) (f:bE) (params:List Nat) (zf body:cA)
 |iA (live:List Nat) (it:bE) (nx ok b:Nat) (a rest:cA)
 |gZ (live:List Nat) (pre:List Op) (op:Op) (post:List Op)
 |OY (f:bE) (args:List bE) (rest:cA)
 |exit (id:Nat)
 |ret
 deriving Inhabited,DecidableEq
inductive Exit where
 |normal
 |exit (id:Nat)
 |ret
 |fx (d:D)
 deriving Inhabited,DecidableEq
abbrev Env:=List (Nat×D)
def get:Env→Nat→D
 |[],_ => .undef
 |(k,v)::r,t=>if k=t then v else get r t
def put(d:Option Nat)(v:D)(e:Env):Env :=
 match d with
 |some t=>(t,v)::e
 |none=>e
def D.calm:D→D
 |.vr .. => .undef
 |.emp => .undef
 |.own _ cs => .own 0 cs
 |d=>d
def D.strip:D→D
 |.vr .. => .undef
 |.emp => .undef
 |.own .. => .undef
 |d=>d
def restrict(live:List Nat)(e:Env):Env:=live.map fun t=>(t,(get e t).calm)
def keys(e:Env):List Nat:=(e.map (·.1)).eraseDups
def wY(live:List Nat)(e:Env):Env:=live.map fun t=>(t,(get e t).strip)
def yo(live:List Nat)(x:Exit)(e:Env):List Nat :=
 match x with
 |.normal=>live
 |_=>keys e
structure wj where
 state:Nat
 wR:Option Exit
 env:Env
 params:List Nat
 zf:cA
 body:cA
 deriving DecidableEq
inductive aG where
 |cells (v:Nat) (cs:List D)
 |dead
 |loop (l:wj)
 deriving DecidableEq
abbrev SK:=List (List aG)
def gj:SK→Nat→Option (List aG)
 |[],_=>none
 |s::σ,l=>if σ.length=l then some s else gj σ l
def jg:SK→Nat→List aG→SK
 |[],_,_=>[]
 |s::σ,l,s'=>if σ.length=l then s'::σ else s::jg σ l s'
def ez(σ:SK)(l i:Nat):Option aG:=(gj σ l).bind (·[i]?)
def aT(σ:SK)(l i:Nat)(b:aG):SK :=
 match gj σ l with
 |some s=>jg σ l (s.set i b)
 |none=>σ
def cells?(σ:SK)(l i v:Nat):Option (List D) :=
 match ez σ l i with
 |some (.cells v' cs)=>if v'=v then some cs else none
 |_=>none
def gH(σ:SK)(b:aG):Option (Nat×Nat×SK) :=
 match σ with
 |[]=>none
 |s::σ'=>some (σ'.length,s.length,(s++[b])::σ')
mutual
def D.clean:D→Bool
 |.ref .. => false
 |.sl .. => false
 |.mf .. => false
 |.vr .. => true
 |.emp=>true
 |.own _ cs=>D.bu cs
 |.agg cs=>D.bu cs
 |.dQ cs=>D.bu cs
 |.bw cs=>D.bu cs
 |.aE _ cs=>D.bu cs
 |.fn _ a b=>D.bu a && D.bu b
 |.undef=>true
 |.bool _=>true
 |.int _ _=>true
 |.str _=>true
 |.wO=>true
 |.aI=>true
 |.ir=>true
 |.tQ _ d=>D.clean d
 |.o9=>true
def D.bu:List D→Bool
 |[]=>true
 |d::ds=>D.clean d && D.bu ds
end
def ck(l:Nat):Nat→D→SK→D×SK
 |0,_,σ=>(.undef,σ)
 |n+1,d,σ =>
  if d.clean then(d,σ)else
  match d with
  |.agg cs=>let r:=frzL (ck l n) cs σ;(.agg r.1,r.2)
  |.dQ cs=>let r:=frzL (ck l n) cs σ;(.dQ r.1,r.2)
  |.bw cs=>let r:=frzL (ck l n) cs σ;(.bw r.1,r.2)
  |.aE m cs=>let r:=frzL (ck l n) cs σ;(.aE m r.1,r.2)
  |.own s cs=>let r:=frzL (ck l n) cs σ;(.own s r.1,r.2)
  |.fn f a b=>let r:=frzL (ck l n) a σ;let r':=frzL (ck l n) b r.2;(.fn f r.1 r'.1,r'.2)
  |.ref l' i v off=>if l'≤l then(.ref l' i v off,σ)else(.undef,σ)
  |.mf l' i=>if l'≤l then(.mf l' i,σ)else(.undef,σ)
  |.sl l' i v off m w =>
   if l'≤l then(.sl l' i v off m w,σ)else
   match cells? σ l' i v with
   |some cs=>let r:=frzL (ck l n) ((cs.drop off).take (m*w)) (aT σ l' i .dead);(.aE m r.1,r.2)
   |none=>(.undef,σ)
  |_=>(.undef,σ)
where
 frzL (f:D→SK→D×SK):List D→SK→List D×SK
  |[],σ=>([],σ)
  |d::ds,σ=>let r:=f d σ;let r':=frzL f ds r.2;(r.1::r'.1,r'.2)
def deep:Nat:=16
def sC(l:Nat):Env→SK→Env×SK
 |[],σ=>([],σ)
 |(t,d)::e,σ=>let r:=ck l deep d σ;let r':=sC l e r.2;((t,r.1)::r'.1,r'.2)
inductive Q where
 |call (kp:Bool) (f:Nat) (args:List D) (σ:SK)
 |loop (live:List Nat) (bk:Bool) (c:cA) (env:Env) (σ:SK)
 |round (l i:Nat) (args:List D) (σ:SK)
 |iA (live:List Nat) (it:bE) (nx ok b:Nat) (c rest:cA) (env:Env) (σ:SK)
 |xj (f:Nat) (args:List D) (th:Option D) (σ:SK)
inductive R where
 |val (d:D) (σ:SK)
 |BZ (e:Exit) (env:Env) (σ:SK)
 |fx (d:D) (σ:SK)
 deriving DecidableEq
abbrev bH:=Q→Option R
def aZ(e:Env):bE→D
 |.t n=>(get e n).strip
 |.c d=>d
def D.cells:D→Option (List D)
 |.agg cs=>some cs
 |.undef=>none
 |.dQ _=>none
 |.own .. => none
 |.vr .. => none
 |.emp=>none
 |d=>some [d]
def D.row(ag:Bool)(d:D):Option (List D) :=
 match ag,d with
 |true,.agg cs=>some cs
 |true,_=>none
 |false,.agg _=>none
 |false,d=>d.cells
def rB(e:Env):List (Nat×Nat×bE)→List D→Option (List D)
 |[],cs=>some cs
 |(off,sz,x)::r,cs =>
  match(aZ e x).cells with
  |some p=>if p.length=sz∧off+sz≤cs.length then rB e r (cs.take off++p++cs.drop (off+sz))else none
  |none=>none
def zl:List (Option IntKind)→List D→List D→Option Bool
 |[],[],[]=>some true
 |some k::ks,.int k1 a::x,.int k2 b::y=>if k1=k∧k2=k then(zl ks x y).map (a == b && ·)else none
 |none::ks,.bool a::x,.bool b::y=>(zl ks x y).map (a == b && ·)
 |_,_,_=>none
def u9(o:BinOp):D→D→Option D
 |.int k a,.int k' b =>
  match o with
  |.shl=>if b<0 then none else some (.int k (k.wrap (a*2^(min b.toNat k.bits))))
  |.shr=>if b<0 then none else some (.int k (a.fdiv (2^(min b.toNat k.bits))))
  |.add=>if k=k' then some (.int k (k.wrap (a+b)))else none
  |.sub=>if k=k' then some (.int k (k.wrap (a-b)))else none
  |.mul=>if k=k' then some (.int k (k.wrap (a*b)))else none
  |.quo=>if k=k'∧b≠0 then some (.int k (k.wrap (a.tdiv b)))else none
  |.rem=>if k=k'∧b≠0 then some (.int k (a.tmod b))else none
  |.and=>if k=k' then some (.int k (k.wrap ((BitVec.ofInt k.bits a &&& BitVec.ofInt k.bits b).toNat:Int)))else none
  |.or=>if k=k' then some (.int k (k.wrap ((BitVec.ofInt k.bits a ||| BitVec.ofInt k.bits b).toNat:Int)))else none
  |.xor=>if k=k' then some (.int k (k.wrap ((BitVec.ofInt k.bits a ^^^ BitVec.ofInt k.bits b).toNat:Int)))else none
  |.andNot=>none
  |.eql=>if k=k' then some (.bool (a == b))else none
  |.neq=>if k=k' then some (.bool (a != b))else none
  |.lss=>if k=k' then some (.bool (decide (a<b)))else none
  |.leq=>if k=k' then some (.bool (decide (a≤b)))else none
  |.gtr=>if k=k' then some (.bool (decide (a>b)))else none
  |.geq=>if k=k' then some (.bool (decide (a≥b)))else none
 |_,_=>none
def Dn:D→Option Int
 |.int _ n=>some n
 |_=>none
def Bc(e:Env)(m:Nat)(dfl:Option Nat):Option bE→Option Nat
 |some x=>match Dn (aZ e x)with
  |some n=>if 0≤n∧n≤m then some n.toNat else none
  |none=>none
 |none=>dfl
def bounds(len:Nat)(e:Env)(lo hi mx:Option bE):Option (Nat×Nat) :=
 (Bc e len (some len) mx).bind fun m=>(Bc e m (if mx.isSome then none else some len) hi).bind fun h=>(Bc e h (some 0) lo).map fun l=>(l,h)
def sG(ky:Ky)(a b:D):Option Bool :=
 match ky with
 |none=>match a,b with
  |.str x,.str y=>some (x == y)
  |_,_=>none
 |some (ag,ks)=>match a.row ag,b.row ag with
  |some p,some q=>zl ks p q
  |_,_=>none
def qd(ky:Ky)(k:D):List D→Option (Option (Nat×D))
 |[]=>some none
 |.dQ [k',v]::es =>
  match sG ky k k' with
  |some true=>some (some (0,v))
  |some false=>(qd ky k es).map fun x=>x.map fun y=>(y.1+1,y.2)
  |none=>none
 |_=>none
def Ae(σ:SK):D→Option (Nat×Nat×List D)
 |.mf l i=>(cells? σ l i 0).map fun es=>(l,i,es)
 |_=>none
def Af(σ:SK):Mo→List D→Option (D×SK)
 |.make,[]=>(gH σ (.cells 0 [])).map fun x=>(.mf x.1 x.2.1,x.2.2)
 |.lf t e,[]=>(gH σ (.cells 2 [.int .i64 (t:Nat),.int .i64 (e:Nat),.str []])).map fun x=>(.mf x.1 x.2.1,x.2.2)
 |.get ky zero ok,[m,k] =>
  match Ae σ m with
  |some (_,_,es) =>
   if(sG ky k k).isSome then
    match qd ky k es with
    |some (some (_,v))=>some (if ok then .dQ [v,.bool true]else v,σ)
    |some none=>some (if ok then .dQ [zero,.bool false]else zero,σ)
    |none=>none
   else none
  |none=>none
 |.put ky,[m,k,v] =>
  match Ae σ m with
  |some (l,i,es) =>
   if(sG ky k k).isSome∧(l+1=σ.length∨(k.clean∧v.clean))then
    match qd ky k es with
    |some (some (j,_))=>some (.undef,aT σ l i (.cells 0 (es.set j (.dQ [k,v]))))
    |some none=>some (.undef,aT σ l i (.cells 0 (es++[.dQ [k,v]])))
    |none=>none
   else none
  |none=>none
 |.len,[m]=>(Ae σ m).map fun x=>(.int .i64 x.2.2.length,σ)
 |.rng,[m] =>
  match Ae σ m with
  |some (lm,im,es)=>(gH σ (.cells 1 [.mf lm im,.int .i64 es.length])).map fun x=>(.mf x.1 x.2.1,x.2.2)
  |none=>none
 |.ent,[.mf l i] =>
  match cells? σ l i 1 with
  |some (m::.int .i64 n::.int .i64 j::_) =>
   match Ae σ m with
   |some (_,_,es)=>if(es.length:Int)=n then
     match es[j.toNat]? with
     |some (.dQ [k,v])=>some (.dQ [k,v],σ)
     |_=>none
    else none
   |none=>none
  |_=>none
 |_,_=>none
def strCells(s:List UInt8):List D:=s.map fun b => .int .u8 b.toNat
def elems(σ:SK)(w:Nat):D→Option (Nat×List D)
 |.aI=>some (0,[])
 |.str s=>if w=1 then some (s.length,strCells s)else none
 |.aE n cs=>if cs.length=n*w then some (n,cs)else none
 |.sl l i v off n w' =>
  if w'=w then
   match cells? σ l i v with
   |some cs=>if off+n*w≤cs.length then some (n,(cs.drop off).take (n*w))else none
   |none=>none
  else none
 |_=>none
def Cw:List D→Option (List UInt8)
 |[]=>some []
 |.int .u8 n::r=>(Cw r).map (UInt8.ofNat n.toNat :: ·)
 |_=>none
def meD(σ:SK):Me→List D→Option (D×SK)
 |.b2s,[.str _]=>none
 |.b2s,[x]=>(elems σ 1 x).bind fun r=>(Cw r.2).map fun s=>(.str s,σ)
 |.s2b,[.str s]=>some (.aE s.length (strCells s),σ)
 |.s2a n w,[.aE m cs]=>if 0<n∧n≤m then some (.bw (cs.take (n*w)),σ)else none
 |.peq neg,[.ref l i v o,.ref l' i' v' o']=>if l=l'∧i=i'∧o=o'∧v=v'∧(cells? σ l i v).isSome then some (.bool (!neg),σ)else none
 |_,_=>none
def room:Nat:=2^46
def kq:List (Nat×Nat)→List D→SK→Option (List D×SK)
 |[],cs,σ=>some (cs,σ)
 |(p,w)::r,cs,σ =>
  match cs[p]? with
  |some .aI=>do
   let (l,i,σ')←gH σ (.cells 0 [])
   kq r (cs.set p (.sl l i 0 0 0 w)) σ'
  |_=>kq r cs σ
def rC(e:Env)(v a:Nat):Option (Nat×List D×Nat) :=
 match get e v with
 |.own s cs =>
  if a=v then some (s,cs,0)else
  match get e a with
  |.vr x s' off=>if x=v∧s'=s then some (s,cs,off)else none
  |_=>none
 |_=>none
def tZ(e:Env)(v:Nat):Nat :=
 match get e v with
 |.own s _=>s+1
 |_=>0
def Ei(σ:SK):D→Option (List D)
 |.bw cs=>some cs
 |.ref l i v off=>(cells? σ l i v).map (·.drop off)
 |_=>none
def PZ(σ:SK):D→Option (List D)
 |.ref l i 0 off=>Ei σ (.ref l i 0 off)
 |_=>none
def Hg(ps:Bool)(d:D):Option Bool :=
 match ps,d with
 |true,.wO=>some true
 |true,.bw _=>some false
 |true,.ref .. => some false
 |false,.aI=>some true
 |false,.aE n _=>if n=0 then none else some false
 |false,.sl _ _ _ _ n _=>if n=0 then none else some false
 |_,_=>none
def Mw(t:Nat)(z:Option D):D→Option D
 |.tQ t' d=>match z with
  |some z=>some (if t'=t then .dQ [d,.bool true]else .dQ [z,.bool false])
  |none=>if t'=t then some d else none
 |.o9=>z.map fun z => .dQ [z,.bool false]
 |_=>none
def aag:D→Option Bool
 |.o9=>some true
 |.tQ .. => some false
 |_=>none
def D.off(l i:Nat):D→Bool
 |.ref l' i' _ _=>decide (¬(l'=l∧i'=i))
 |_=>true
def IG(e:Env)(σ:SK)(w bytes:Nat)(s x:bE):Option (D×SK):=do
  let (m,xs)←elems σ w (aZ e x)
  match aZ e s with
  |.aI =>
   if m*bytes≤room then
    if m=0 then some (.aE 0 [],σ)else do
    let (l,i,σ')←gH σ (.cells 0 xs)
    some (.sl l i 0 0 m w,σ')
   else none
  |.sl l i v off n w' =>
   match cells? σ l i v with
   |some cs =>
    if w'=w∧off+n*w≤cs.length∧(n+m)*bytes≤room then
     if l+1=σ.length then
      some (.sl l i (v+1) 0 (n+m) w,aT σ l i (.cells (v+1) ((cs.drop off).take (n*w)++xs)))
     else
      let r:=ck.frzL (ck l deep) xs σ
      some (.sl l i (v+1) 0 (n+m) w,aT r.2 l i (.cells (v+1) ((cs.drop off).take (n*w)++r.1)))
    else none
   |none=>none
  |_=>none
def bF(e:Env)(σ:SK):K→Option (D×SK)
 |.mv x=>some (aZ e x,σ)
 |.rq w=>do
  let (l,i,σ')←gH σ (.cells 0 [])
  some (.sl l i 0 0 0 w,σ')
 |.pick c a b =>
  match aZ e c with
  |.bool t=>some (if t then aZ e a else aZ e b,σ)
  |_=>none
 |.G8 nb cs=>do
  let (cs',σ1)←kq nb cs σ
  let (l,i,σ')←gH σ1 (.cells 0 cs')
  some (.ref l i 0 0,σ')
 |.G9 x=>(aZ e x).cells.map fun cs=>(.bw cs,σ)
 |.Ha x=>do
  let cs←(aZ e x).cells
  let (l,i,σ')←gH σ (.cells 0 cs)
  some (.ref l i 0 0,σ')
 |.bxn nb x=>do
  let cs←(aZ e x).cells
  let (cs',σ1)←kq nb cs σ
  let (l,i,σ')←gH σ1 (.cells 0 cs')
  some (.ref l i 0 0,σ')
 |.dT .. => none
 |.D1 _=>none
 |.Er .. => none
 |.PX v ag sz a =>
  match rC e v a with
  |some (_,cs,off) =>
   let cs:=cs.drop off
   if sz≤cs.length then
    if ag then some (.agg (cs.take sz),σ)else
    match cs with
    |d::_=>some (d,σ)
    |[]=>none
   else none
  |none=>none
 |.lf zero parts=>do
  let cs←rB e parts zero
  some (.agg cs,σ)
 |.uH n _ zero parts=>do
  let cs←rB e parts zero
  some (.aE n cs,σ)
 |.K4 n w zero parts=>do
  let cs←rB e parts zero
  let (l,i,σ')←gH σ (.cells 0 cs)
  some (.sl l i 0 0 n w,σ')
 |.ld ag sz a =>
  match Ei σ (aZ e a)with
  |some cs =>
   if sz≤cs.length then
    if ag then some (.agg (cs.take sz),σ)else
    match cs with
    |d::_=>some (d,σ)
    |[]=>none
   else none
  |none=>none
 |.PV ag sz a =>
  match PZ σ (aZ e a)with
  |some cs =>
   if sz≤cs.length then
    if ag then some (.agg (cs.take sz),σ)else
    match cs with
    |d::_=>some (d,σ)
    |[]=>none
   else none
  |none=>none
 |.PW ag sz a =>
  match aZ e a with
  |.bw cs =>
   if sz≤cs.length then
    if ag then some (.agg (cs.take sz),σ)else
    match cs with
    |d::_=>some (d,σ)
    |[]=>none
   else none
  |_=>none
 |.isn ps neg x=>(Hg ps (aZ e x)).map fun b=>(.bool (if neg then !b else b),σ)
 |.ng x =>
  match aZ e x with
  |.bw cs=>some (.bw cs,σ)
  |.ref l i v off=>some (.ref l i v off,σ)
  |_=>none
 |.st nb sz a x =>
  match aZ e a with
  |.ref l i v off =>
   match cells? σ l i v with
   |some cs =>
    match(aZ e x).cells with
    |some p =>
     if p.length=sz∧off+sz≤cs.length then
      if l+1=σ.length then
       match kq nb p σ with
       |some (p',σ1)=>some (.undef,aT σ1 l i (.cells v (cs.take off++p'++cs.drop (off+sz))))
       |none=>none
      else
       let r:=ck.frzL (ck l deep) p σ
       some (.undef,aT r.2 l i (.cells v (cs.take off++r.1++cs.drop (off+sz))))
     else none
    |none=>none
   |none=>none
  |_=>none
 |.PK os sz a x =>
  match aZ e a with
  |.ref l i v off =>
   if(os.all fun t=>D.off l i (get e t))=true then
    match cells? σ l i v with
    |some cs =>
     match(aZ e x).cells with
     |some p =>
      if p.length=sz∧off+sz≤cs.length∧(D.bu p=true∨l+1=σ.length)then some (.undef,aT σ l i (.cells v (cs.take off++p++cs.drop (off+sz))))else none
     |none=>none
    |none=>none
   else none
  |_=>none
 |.bin o x y=>(u9 o (aZ e x) (aZ e y)).map (·,σ)
 |.eqv ag ks neg x y =>
  match(aZ e x).row ag,(aZ e y).row ag with
  |some p,some q=>(zl ks p q).map fun b=>(.bool (if neg then !b else b),σ)
  |_,_=>none
 |.un o x =>
  match o,aZ e x with
  |.not,.bool b=>some (.bool !b,σ)
  |.neg,.int k n=>some (.int k (k.wrap (0-n)),σ)
  |.xor,.int k n=>some (.int k (k.wrap ((BitVec.ofInt k.bits (if k.signed then -1 else k.max) ^^^ BitVec.ofInt k.bits n).toNat:Int)),σ)
  |_,_=>none
 |.Q5 k x =>
  match aZ e x with
  |.int _ n=>some (.int k (k.wrap n),σ)
  |_=>none
 |.xf f first cap=>some (.fn f (first.map (aZ e)) (cap.map (aZ e)),σ)
 |.mks w bytes zero l c =>
  match aZ e l,aZ e c with
  |.int .i64 n,.int .i64 m =>
   if 0≤n∧n=m∧n*bytes≤(room:Int)∧zero.length=w then do
    let (l,i,σ')←gH σ (.cells 0 ((List.range n.toNat).flatMap fun _=>zero))
    some (.sl l i 0 0 n.toNat w,σ')
   else none
  |_,_=>none
 |.K8 w x lo hi mx =>
  match aZ e x with
  |.aE n cs=>(bounds n e lo hi mx).map fun b=>(.aE (b.2-b.1) ((cs.drop (b.1*w)).take ((b.2-b.1)*w)),σ)
  |.sl l i v off n w'=>if w'=w then(bounds n e lo hi mx).map fun b=>(.sl l i v (off+b.1*w) (b.2-b.1) w,σ)else none
  |.aI=>(bounds 0 e lo hi mx).map fun _=>(.aI,σ)
  |_=>none
 |.Mg len w x lo hi =>
  match aZ e x with
  |.bw cs=>(bounds len e lo hi none).map fun b=>(.aE (b.2-b.1) ((cs.drop (b.1*w)).take ((b.2-b.1)*w)),σ)
  |.ref l i v off =>
   match cells? σ l i v with
   |some cs=>if len≤1000000∧off+len*w≤cs.length then(bounds len e lo hi none).map fun b=>(.sl l i v (off+b.1*w) (b.2-b.1) w,σ)else none
   |none=>none
  |_=>none
 |.Hc off x =>
  match x with
  |.t n =>
   match get e n with
   |.bw cs=>some (.bw (cs.drop off),σ)
   |.ref l i v o=>some (.ref l i v (o+off),σ)
   |.own s _=>some (.vr n s off,σ)
   |.vr v s o=>some (.vr v s (o+off),σ)
   |_=>none
  |.c _=>none
 |.fld ag off sz x =>
  match aZ e x with
  |.agg cs =>
   if off+sz≤cs.length then
    if ag then some (.agg ((cs.drop off).take sz),σ)else(cs[off]?).map (·,σ)
   else none
  |_=>none
 |.AI len w x i =>
  match x,Dn (aZ e i)with
  |.t m,some n =>
   if 0≤n∧n<len then
    match get e m with
    |.bw cs=>some (.bw ((cs.drop (n.toNat*w)).take w),σ)
    |.ref l j v off=>some (.ref l j v (off+n.toNat*w),σ)
    |.own s _=>some (.vr m s (n.toNat*w),σ)
    |.vr v s o=>some (.vr v s (o+n.toNat*w),σ)
    |_=>none
   else none
  |_,_=>none
 |.eI w x i =>
  match aZ e x,Dn (aZ e i)with
  |.aE m cs,some n=>if 0≤n∧n<m then some (.bw ((cs.drop (n.toNat*w)).take w),σ)else none
  |.sl l j v off m w',some n=>if 0≤n∧n<m∧w'=w then some (.ref l j v (off+n.toNat*w),σ)else none
  |_,_=>none
 |.IW ag len w x i =>
  match aZ e x,Dn (aZ e i)with
  |.agg cs,some n =>
   if 0≤n∧n<len∧(n.toNat+1)*w≤cs.length then
    if ag then some (.agg ((cs.drop (n.toNat*w)).take w),σ)else(cs[n.toNat*w]?).map (·,σ)
   else none
  |_,_=>none
 |.Hh x =>
  match aZ e x with
  |.aI=>some (.int .i64 0,σ)
  |.aE n _=>some (.int .i64 n,σ)
  |.sl _ _ _ _ n _=>some (.int .i64 n,σ)
  |_=>none
 |.LS n=>some (.int .i64 n,σ)
 |.mn x y =>
  match aZ e x,aZ e y with
  |.int k a,.int _ b=>some (.int k (min a b),σ)
  |_,_=>none
 |.mx x y =>
  match aZ e x,aZ e y with
  |.int k a,.int _ b=>some (.int k (max a b),σ)
  |_,_=>none
 |.app w bytes s x=>do
  let (m,xs)←elems σ w (aZ e x)
  match aZ e s with
  |.aI =>
   if m*bytes≤room then
    if m=0 then some (.aE 0 [],σ)else do
    let (l,i,σ')←gH σ (.cells 0 xs)
    some (.sl l i 0 0 m w,σ')
   else none
  |.sl l i v off n w' =>
   match cells? σ l i v with
   |some cs =>
    if w'=w∧off+n*w≤cs.length∧(n+m)*bytes≤room then
     if l+1=σ.length then
      some (.sl l i (v+1) 0 (n+m) w,aT σ l i (.cells (v+1) ((cs.drop off).take (n*w)++xs)))
     else
      let r:=ck.frzL (ck l deep) xs σ
      some (.sl l i (v+1) 0 (n+m) w,aT r.2 l i (.cells (v+1) ((cs.drop off).take (n*w)++r.1)))
    else none
   |none=>none
  |_=>none
 |.OQ os w bytes s x =>
  match aZ e s with
  |.sl l i _ _ _ _=>if(os.all fun t=>D.off l i (get e t))=true then(elems σ w (aZ e x)).bind fun r=>if D.bu r.2=true then IG e σ w bytes s x else none else none
  |_=>none
 |.PT w bytes s x=>(IG e σ w bytes s x).map fun r=>ck 0 deep r.1 r.2
 |.cpi w bytes x=>do
  let (m,xs)←elems σ w (aZ e x)
  if m*bytes≤room then some (.aE m xs,σ)else none
 |.cvz x =>
  match aZ e x with
  |.sl l i v off n w =>
   if 0<n then
    match cells? σ l i v with
    |some cs=>some (.aE n ((cs.drop off).take (n*w)),aT σ l i .dead)
    |none=>none
   else none
  |_=>none
 |.bse=>some (.emp,σ)
 |.ape w bytes v x =>
  match get e v with
  |.emp=>(elems σ w (aZ e x)).bind fun r=>if r.1*bytes≤room then some (.aE r.1 r.2,σ)else none
  |_=>none
 |.ext x i =>
  match aZ e x with
  |.dQ ds=>(ds[i]?).map (·,σ)
  |_=>none
 |.BR o xs=>(CM o (xs.map (aZ e))).map (·,σ)
 |.mp o xs=>Af σ o (xs.map (aZ e))
 |.me o xs=>meD σ o (xs.map (aZ e))
 |.mki t x=>some (.tQ t (aZ e x),σ)
 |.tas t z x=>(Mw t z (aZ e x)).map (·,σ)
 |.isi neg x=>(aag (aZ e x)).map fun b=>(.bool (if neg then !b else b),σ)
 |.K6 _=>none
 |.K7=>none
 |.call _ _ _=>none
def R.bf:Option R→Option (D×SK)
 |some (.val d σ)=>some (d,σ)
 |_=>none
def R.OX:Option R→Option (Exit×Env×SK)
 |some (.BZ e env σ)=>some (e,env,σ)
 |_=>none
def oU(O:bH)(kp:Bool)(fv:D)(args:List D)(σ:SK):Option (D×SK) :=
 match fv with
 |.fn f first cap=>R.bf (O (.call kp f (first++args++cap) σ))
 |.mf l i=>R.bf (O (.round l i args σ))
 |_=>none
def EG(O:bH)(fv:D)(args:List D)(σ:SK):Option (D×SK) :=
 match fv with
 |.fn f first cap=>R.bf (O (.call false f (first++args++cap) σ))
 |_=>none
def vq(O:bH)(op:Op)(e:Env)(σ:SK):Option (Env×SK) :=
 match op.k with
 |.call kp f args =>
  match oU O kp (aZ e f) (args.map (aZ e)) σ with
  |some (d,σ')=>if op.zW=true→σ'=σ then some (put op.dst d e,σ')else none
  |none=>none
 |.dT nb cs =>
  match op.dst,kq nb cs σ with
  |some v,some (cs',σ')=>some ((v,.own (tZ e v) cs')::e,σ')
  |_,_=>none
 |.D1 x =>
  match op.dst,(aZ e x).cells with
  |some v,some cs=>some ((v,.own (tZ e v) cs)::e,σ)
  |_,_=>none
 |.Er v nb sz a x =>
  match rC e v a,(aZ e x).cells with
  |some (s,cs,off),some p =>
   if p.length=sz∧off+sz≤cs.length then
    match kq nb p σ with
    |some (p',σ')=>some ((v,.own s (cs.take off++p'++cs.drop (off+sz)))::e,σ')
    |none=>none
   else none
  |_,_=>none
 |k=>(bF e σ k).map fun x=>(put op.dst x.1 e,x.2)
def D.bit:D→Option (Option Bool)
 |.bool b=>some (some b)
 |.dQ []=>some none
 |_=>none
def lZ(O:bH):List Op→Env→SK→Option (Env×SK)
 |[],e,σ=>some (e,σ)
 |op::r,e,σ =>
  match op.Cz with
  |none=>(vq O op e σ).bind fun x=>lZ O r x.1 x.2
  |some (g,want) =>
   match(get e g).bit with
   |some y=>if y=some want then(vq O op e σ).bind fun x=>lZ O r x.1 x.2 else lZ O r (put op.dst (.dQ []) e) σ
   |none=>none
def D.vQ:D→D
 |.aI => .aE 0 []
 |d=>d
def Df(l i u:Nat)(σ:SK):D×SK :=
 match cells? σ l i u with
 |some cs=>let r:=ck.frzL (ck 0 deep) cs (aT σ l i .dead);(.bw (r.1.map D.vQ),r.2)
 |none=>(.undef,σ)
def He(v:Nat)(e:Env)(σ:SK):Env×SK :=
 match get e v with
 |.aI=>((v,.aE 0 [])::e,σ)
 |.ref l i u 0=>let r:=Df l i u σ;((v,r.1)::e,r.2)
 |.own s cs=>((v,.own s (cs.map D.vQ))::e,σ)
 |_=>(e,σ)
def uC:List Nat→Env→SK→Env×SK
 |[],e,σ=>(e,σ)
 |v::vs,e,σ =>
  match get e v with
  |.sl l i u off m w=>let r:=ck 0 deep (.sl l i u off m w) σ;uC vs ((v,r.1)::e) r.2
  |.own s cs=>let r:=ck.frzL (ck 0 deep) cs σ;uC vs ((v,.own s r.1)::e) r.2
  |.agg cs=>uC vs ((v,.agg (cs.map D.vQ))::e) σ
  |.undef=>if 1000000≤v then(let r:=He (v-1000000) e σ;uC vs r.1 r.2)else uC vs e σ
  |_=>uC vs e σ
def zP(O:bH)(fv:D)(args:List D)(σ:SK):Option R :=
 match fv with
 |.fn f first cap=>O (.call false f (first++args++cap) σ)
 |_=>none
def uh(O:bH)(live:List Nat)(dst:Option Nat)(post:List Op)(e:Env):Option R→Option (Exit×Env×SK)
 |some (.val d σ')=>(lZ O post (put dst d e) σ').map fun y=>(.normal,restrict live y.1,y.2)
 |some (.fx d σ')=>some (.fx d,e,σ')
 |_=>none
def E7(O:bH)(live:List Nat)(op:Op)(post:List Op)(e:Env)(σ:SK):Option (Exit×Env×SK) :=
 match op.Cz,op.k with
 |none,.call false f args=>uh O live op.dst post e (zP O (aZ e f) (args.map (aZ e)) σ)
 |none,.K6 x=>(match aZ e x with
  |.tQ t d=>if d.clean then some (.fx (.tQ t d),e,σ)else none
  |_=>none)
 |_,_=>none
def aW(O:bH):cA→Env→SK→Option (Exit×Env×SK)
 |.ep,e,σ=>some (.normal,e,σ)
 |.ck vs,e,σ=>let r:=uC vs e σ;some (.normal,r.1,r.2)
 |.cm live ops,e,σ=>(lZ O ops e σ).map fun x=>(.normal,restrict live x.1,x.2)
 |.seq a b,e,σ=>(aW O a e σ).bind fun x =>
  match x.1 with
  |.normal=>aW O b x.2.1 x.2.2
  |_=>some x
 |.ite c a b,e,σ =>
  match aZ e c with
  |.bool t=>if t then aW O a e σ else aW O b e σ
  |_=>none
 |.bL id a,e,σ=>(aW O a e σ).map fun x =>
  match x.1 with
  |.exit j=>if j=id then(.normal,x.2)else x
  |_=>x
 |.loop live bk a,e,σ=>R.OX (O (.loop live bk a e σ))
 |.Je live f params zf body,e,σ =>
  match gH σ (.loop {state:=0,wR:=none,env:=wY live e,params,zf,body })with
  |some (l,i,σ1) =>
   match EG O (aZ e f) [.mf l i] σ1 with
   |some (_,σ2) =>
    match ez σ2 l i with
    |some (.loop lp) =>
     if lp.state=1 then none else
     some (lp.wR.getD .normal,restrict live e,aT σ2 l i (.loop {lp with state:=3 }))
    |_=>none
   |none=>none
  |none=>none
 |.iA live it nx ok b a rest,e,σ=>R.OX (O (.iA live it nx ok b a rest e σ))
 |.gZ live pre op post,e,σ=>(lZ O pre e σ).bind fun x=>E7 O live op post x.1 x.2
 |.OY ..,_,_=>none
 |.exit id,e,σ=>some (.exit id,e,σ)
 |.ret,e,σ=>some (.ret,e,σ)
inductive CO where
 |t (n:Nat)
 |c (n:Nat) (ag:Bool) (sz:Nat)
 |v (n:Nat) (ag:Bool) (sz:Nat)
structure Fn where
 L4:Nat
 res:List CO
 body:cA
def GF(e:Env)(σ:SK):CO→Option D
 |.t n=>some (get e n).strip
 |.c n ag sz=>(bF e σ (.ld ag sz (.t n))).map (·.1)
 |.v n ag sz=>(bF e σ (.PX n ag sz n)).map (·.1)
def yO(e:Env)(σ:SK):List CO→Option (List D)
 |[]=>some []
 |r::rs=>(GF e σ r).bind fun d=>(yO e σ rs).map fun ds=>d::ds
def tS:List D→D
 |[d]=>d
 |ds => .dQ ds
def mR(n:Nat):List D→Env
 |[]=>[]
 |d::ds=>(n,d)::mR (n+1) ds
def zA:List Nat→List D→Env→Env
 |t::ts,d::ds,e=>zA ts ds ((t,d)::e)
 |_,_,e=>e
abbrev zO:=Nat→Option Fn
def aae:List D→Option (List Int)
 |[]=>some []
 |.int .i64 z::r=>(aae r).map (z :: ·)
 |_=>none
def acw(x:Int):List Int→List Int
 |[]=>[x]
 |y::l=>if x≤y then x::y::l else y::acw x l
def On:List Int→List Int
 |[]=>[]
 |x::l=>acw x (On l)
def aac(l:List Int):List D:=l.map (.int .i64)
def J2(x:Int):List Int→List Int
 |[]=>[]
 |y::l=>if y=x then J2 x l else y::J2 y l
def HG:List Int→List Int
 |[]=>[]
 |x::l=>x::J2 x l
def aaF(k:Nat)(zs:List Int):List Int:=if k=1 then On zs else HG zs++List.replicate (zs.length-(HG zs).length) 0
def anG(k l i v off:Nat)(zs:List Int):D:=if k=1 then .dQ []else .sl l i v off (HG zs).length 1
def asM(k:Nat)(args:List D)(σ:SK):Option R :=
 match args with
 |[.sl l i v off n w] =>
  if n≠0∧w=1∧n≤1000000 then
   match cells? σ l i v with
   |some cs =>
    if off+n≤cs.length then
     match aae ((cs.drop off).take n)with
     |some zs=>some (.val (anG k l i v off zs) (aT σ l i (.cells v (cs.take off++aac (aaF k zs)++cs.drop (off+n)))))
     |none=>none
    else none
   |none=>none
  else none
 |_=>none
def Q6:Nat→Nat→List UInt8
 |0,_=>[]
 |k+1,u=>if u<10 then [UInt8.ofNat (48+u)]else Q6 k (u / 10)++[UInt8.ofNat (48+u%10)]
def HT(n:Int):List UInt8:=if n<0 then 45::Q6 20 n.natAbs else Q6 20 n.toNat
def Mt:List D→Option (List (List UInt8))
 |[]=>some []
 |.str s::r=>(Mt r).map (s :: ·)
 |_=>none
def ajm(sep:List UInt8):List (List UInt8)→List UInt8
 |[]=>[]
 |x::r=>x++r.flatMap (sep ++ ·)
def gk(b:UInt8):List UInt8→List (List UInt8)
 |[]=>[[]]
 |c::r=>if c=b then []::gk b r else match gk b r with
  |x::l=>(c::x)::l
  |[]=>[[c]]
def u7(s:List UInt8):Nat×Int :=
 match Lib.atoiAll s with
 |.ok v=>(0,v)
 |Lib.NumEnd.syntax=>(1,0)
 |.range=>(2,Lib.atoiSat s)
def aqe(a b:Nat)(xs:List (List UInt8)):List (List UInt8):=xs.take a++xs.drop b++List.replicate (b-a) []
def IZ(k:Nat)(args:List D)(σ:SK):Option R :=
 match k%16,args with
 |3,[.int .i64 n]=>if -9223372036854775808≤n∧n≤9223372036854775807 then some (.val (.str (HT n)) σ)else none
 |4,[.str s]=>if s.length≤1000000 then some (.val (.dQ [.int .i64 (u7 s).2,if(u7 s).1=0 then .o9 else .tQ (k / 16) .undef]) σ)else none
 |5,[.aE n cs,.str sep] =>
  match Mt cs with
  |some xs=>if n=xs.length∧n≤1000∧(ajm sep xs).length≤1000000 then some (.val (.str (ajm sep xs)) σ)else none
  |none=>none
 |6,[.str s,.str [b]]=>if s.length≤1000000 then some (.val (.aE (gk b s).length ((gk b s).map .str)) σ)else none
 |7,[.mf l i,.str s] =>
  match cells? σ l i 2 with
  |some [.int .i64 t,.int .i64 e,.str bs] =>
   if t=((k / 16%65536:Nat):Int)∧e=((k / 16 / 65536:Nat):Int)∧bs.length+s.length≤1000000 then
    some (.val (.dQ [.int .i64 s.length,.o9]) (aT σ l i (.cells 2 [.int .i64 t,.int .i64 e,.str (bs++s)])))
   else none
  |_=>none
 |8,[.mf l i] =>
  match cells? σ l i 2 with
  |some [.int .i64 t,.int .i64 e,.str bs]=>if t=((k / 16%65536:Nat):Int)∧e=((k / 16 / 65536:Nat):Int)∧bs≠[]then some (.val (.str bs) σ)else none
  |_=>none
 |9,[.sl l i v off n w,.int .i64 a,.int .i64 b] =>
  if n≠0∧w=1∧n≤1000000∧0≤a∧a≤b∧b≤(n:Int)then
   match cells? σ l i v with
   |some cs =>
    if off+n≤cs.length then
     match Mt ((cs.drop off).take n)with
     |some xs=>some (.val (.sl l i v off (n-(b.toNat-a.toNat)) 1) (aT σ l i (.cells v (cs.take off++(aqe a.toNat b.toNat xs).map .str++cs.drop (off+n)))))
     |none=>none
    else none
   |none=>none
  else none
 |0,_=>none
 |9,_=>none
 |10,_=>none
 |11,_=>none
 |12,_=>none
 |13,_=>none
 |14,_=>none
 |15,_=>none
 |1,args=>asM 1 args σ
 |2,args=>asM 2 args σ
 |_,_=>none
def ER(σ:SK)(l i:Nat):Option (D×Nat×List D×List Nat) :=
 match cells? σ l i 1 with
 |some (m::.int .i64 n::js) =>
  match Ae σ m with
  |some (_,_,es)=>if(es.length:Int)=n then some (m,es.length,js,(List.range es.length).filter fun j => !(js.contains (.int .i64 j)))else none
  |none=>none
 |_=>none
def agree:List (Option R)→Option R
 |[]=>none
 |r::rs=>if ∀x∈rs,x=r then r else none
def wM(O:bH)(l i b:Nat)(rest:cA):Option (Exit×Env×SK)→Option R
 |some (.exit j,e1,σ1) =>
  if j=b then(aW O rest e1 (aT σ1 l i .dead)).map fun x => .BZ x.1 x.2.1 x.2.2
  else some (.BZ (.exit j) e1 (aT σ1 l i .dead))
 |some (.ret,e1,σ1)=>some (.BZ .ret e1 (aT σ1 l i .dead))
 |_=>none
def zV(O:bH)(live:List Nat)(it:bE)(l i nx ok b:Nat)(c rest:cA):Option (Exit×Env×SK)→Option R
 |some (.normal,e1,σ1)=>O (.iA live it nx ok b c rest e1 σ1)
 |y=>wM O l i b rest y
def jh:cA→Option (cA×bE×List bE×cA)
 |.OY f args q=>some (.ep,f,args,q)
 |.seq a b=>(jh b).map fun x=>(.seq a x.1,x.2)
 |_=>none
def My(kp:Bool)(d:D):SK→Option R
 |_::σ=>if kp=false∧d.clean=true then some (.fx d σ)else none
 |[]=>none
def leave(res:List CO)(σ:SK)(e:Env)(σ1:SK):Option R :=
 match yO e σ1 res with
 |some ds=>(match ck (σ.length-1) deep (tS ds) σ1 with
  |(d,_::σ2)=>some (.val d σ2)
  |_=>none)
 |none=>none
def pV(O:bH)(fv:D)(args:List D)(th:Option D)(σ:SK):Option R :=
 match fv with
 |.fn f first cap=>O (.xj f (first++args++cap) th σ)
 |_=>none
def uz(res:List CO)(σ:SK)(e:Env):Option R→Option R
 |some (.val _ σ1)=>leave res σ e σ1
 |_=>none
def yE(O:bH)(res:List CO)(σ:SK)(fv:D)(args:List D):Option (Exit×Env×SK)→Option R
 |some (.fx d,e,σ1)=>uz res σ e (pV O fv args (some d) σ1)
 |some (.normal,e,σ1)=>uz res σ e (pV O fv args none σ1)
 |some (.ret,e,σ1)=>uz res σ e (pV O fv args none σ1)
 |_=>none
def yD(O:bH)(fn:Fn)(σ:SK):Option (cA×bE×List bE×cA)→Env→SK→Option R
 |some (a,f,args,q),e0,σ0 =>
  (match aW O a e0 σ0 with
  |some (.normal,e,σ1)=>yE O fn.res σ (aZ e f) (args.map (aZ e)) (aW O q e σ1)
  |_=>none)
 |none,_,_=>none
def rJ(th:Option D)(args:List D):cA→Option (Env×cA)
 |.seq (.cm live [⟨some t,none,_,.K7⟩]) q=>(match q with
  |.iA .. => none
  |q=>some (restrict live ((t,th.getD .o9)::mR 0 args),q))
 |_=>none
def da(T:zO)(O:bH):Q→Option R
 |.call kp f args σ =>
  match T f with
  |some fn =>
   if args.length=fn.L4 then
    match aW O fn.body (mR 0 args) (if kp then σ else []::σ)with
    |some (.exit _,_,_)=>none
    |some (.fx d,_,σ1)=>My kp d σ1
    |some (_,e,σ1) =>
     match yO e σ1 fn.res with
     |some ds =>
      if kp then some (.val (tS ds) σ1)else
      match ck (σ.length-1) deep (tS ds) σ1 with
      |(d,_::σ2)=>some (.val d σ2)
      |_=>none
     |none=>none
    |none=>if kp then none else yD O fn σ (jh fn.body) (mR 0 args) ([]::σ)
   else none
  |none =>
   match T (1000000+f)with
   |some fn=>IZ fn.L4 args σ
   |none=>none
 |.loop live bk c e σ =>
  match aW O c (restrict live e) (if bk then []::σ else σ)with
  |some (x,e1,σ1) =>
   let (e2,σ2):=if bk then(let r:=sC (σ.length-1) (restrict (yo live x e1) e1) σ1;(r.1,r.2.tail))else(e1,σ1)
   match x with
   |.normal=>O (.loop live bk c e2 σ2)
   |x=>some (.BZ x e2 σ2)
  |none=>none
 |.round l i args σ =>
  match ez σ l i with
  |some (.loop lp) =>
   if args.length=lp.params.length then
    match aW O lp.zf (zA lp.params args lp.env) ([]::σ)with
    |some (.normal,e1,σ1) =>
     match ez σ1 l i with
     |some (.loop lp1) =>
      if lp1.state=0 then
       match aW O lp.body e1 (aT σ1 l i (.loop {lp1 with state:=1 }))with
       |some (x,_,_::σ2) =>
        match ez σ2 l i with
        |some (.loop lp2) =>
         match x with
         |.fx _=>none
         |.normal=>some (.val (.bool true) (aT σ2 l i (.loop {lp2 with state:=0,wR:=none })))
         |x=>some (.val (.bool false) (aT σ2 l i (.loop {lp2 with state:=2,wR:=some x })))
        |_=>none
       |_=>none
      else none
     |_=>none
    |_=>none
   else none
  |_=>none
 |.iA live it nx ok b c rest e σ =>
  match aZ (restrict live e) it with
  |.mf l i =>
   match ER σ l i with
   |some (_,_,_,[])=>wM O l i b rest (aW O c ((ok,.bool false)::(nx,.undef)::restrict live e) σ)
   |some (m,n,js,us)=>agree (us.map fun u=>zV O live it l i nx ok b c rest (aW O c ((ok,.bool true)::(nx,.undef)::restrict live e) (aT σ l i (.cells 1 (m::.int .i64 (n:Nat)::.int .i64 (u:Nat)::js)))))
   |none=>none
  |_=>none
 |.xj f args th σ =>
  match T f with
  |some fn =>
   if args.length=fn.L4 then
    match rJ th args fn.body with
    |some (e0,q) =>
     match aW O q e0 ([]::σ)with
     |some (.exit _,_,_)=>none
     |some (.fx _,_,_)=>none
     |some (_,e,σ1) =>
      match yO e σ1 fn.res,σ1 with
      |some [],_::σ2=>some (.val (.dQ []) σ2)
      |_,_=>none
     |none=>none
    |none=>none
   else none
  |none=>none
def it(T:zO):Nat→bH
 |0=>fun _=>none
 |n+1=>da T (it T n)
open Classical in
noncomputable def lim(T:zO):bH:=fun q =>
 if h:∃n r,it T n q=some r then some h.choose_spec.choose else none
end Go.Abs
