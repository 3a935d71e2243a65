import GoSem.Core.View
import Derived.Lib.AtoiAll
set_option linter.all false
namespace Go
theorem ad:type_of%@Option.map_eq_some_iff:=@Option.map_eq_some_iff
theorem ae:type_of%@Option.some.injEq:=@Option.some.injEq
theorem af:type_of%@Bool.and_eq_true:=@Bool.and_eq_true
theorem ah:type_of%@Option.bind_eq_some_iff:=@Option.bind_eq_some_iff
theorem aO:type_of%@List.map_cons:=@List.map_cons
theorem ai:type_of%@List.mem_of_getElem?:=@List.mem_of_getElem?
theorem aj:type_of%@List.take_of_length_le:=@List.take_of_length_le
theorem ak:type_of%@Prod.mk.injEq:=@Prod.mk.injEq
theorem bQ:type_of%@List.map_nil:=@List.map_nil
theorem av:type_of%@decide_eq_true_eq:=@decide_eq_true_eq
theorem aw:type_of%@Bool.false_eq_true:=@Bool.false_eq_true
theorem aC:type_of%@Option.ite_none_right_eq_some:=@Option.ite_none_right_eq_some
theorem au:type_of%@List.getElem?_eq_some_iff:=@List.getElem?_eq_some_iff
theorem aB:type_of%@List.drop_eq_nil_of_le:=@List.drop_eq_nil_of_le
theorem aK:type_of%@Nat.le_refl:=@Nat.le_refl
theorem aJ:type_of%@List.length_cons:=@List.length_cons
theorem aF:type_of%@List.getElem?_eq_getElem:=@List.getElem?_eq_getElem
theorem aQ:type_of%@Option.bind_eq_bind:=@Option.bind_eq_bind
theorem aP:type_of%@List.drop_zero:=@List.drop_zero
theorem aT:type_of%@Option.map_some:=@Option.map_some
theorem aL:type_of%@List.length_pos_iff:=@List.length_pos_iff
theorem aX:type_of%@List.nil_append:=@List.nil_append
theorem aW:type_of%@List.flatMap_cons:=@List.flatMap_cons
theorem ba:type_of%@List.mem_cons:=@List.mem_cons
theorem bx:type_of%@List.mem_append:=@List.mem_append
theorem bA:type_of%@Int.tdiv_eq_ediv_of_nonneg:=@Int.tdiv_eq_ediv_of_nonneg
theorem bF:type_of%@List.length_nil:=@List.length_nil
theorem bR:type_of%@List.mem_map:=@List.mem_map
theorem bz:type_of%@List.length_append:=@List.length_append
theorem bM:type_of%@List.length_eq_zero_iff:=@List.length_eq_zero_iff
theorem bX:type_of%@Bool.or_eq_true:=@Bool.or_eq_true
theorem cf:type_of%@Array.getD_eq_getD_getElem?:=@Array.getD_eq_getD_getElem?
theorem bY:type_of%@List.getElem?_cons_zero:=@List.getElem?_cons_zero
theorem cS:type_of%@Nat.zero_add:=@Nat.zero_add
theorem di:type_of%@List.mem_filter:=@List.mem_filter
theorem cT:type_of%@List.length_map:=@List.length_map
theorem cQ:type_of%@List.drop_length_add_append:=@List.drop_length_add_append
theorem cU:type_of%@Array.getElem?_eq_some_iff:=@Array.getElem?_eq_some_iff
theorem ea:type_of%@Nat.mul_one:=@Nat.mul_one
theorem dn:type_of%@Nat.mul_le_mul_right:=@Nat.mul_le_mul_right
theorem cm:type_of%@List.mem_of_mem_take:=@List.mem_of_mem_take
theorem du:type_of%@Nat.add_assoc:=@Nat.add_assoc
theorem dN:type_of%@List.flatMap_nil:=@List.flatMap_nil
theorem dw:type_of%@Option.isSome_iff_exists:=@Option.isSome_iff_exists
theorem eU:type_of%@List.ext_getElem?:=@List.ext_getElem?
theorem dU:type_of%@Bool.not_eq_true':=@Bool.not_eq_true'
theorem ej:type_of%@List.getElem?_take:=@List.getElem?_take
theorem dL:type_of%@List.append_nil:=@List.append_nil
theorem dZ:type_of%@List.mem_of_mem_drop:=@List.mem_of_mem_drop
theorem eV:type_of%@Nat.succ_mul:=@Nat.succ_mul
theorem eO:type_of%@Int.toNat_of_nonneg:=@Int.toNat_of_nonneg
theorem ft:type_of%@Int.mul_nonneg:=@Int.mul_nonneg
theorem dH:type_of%@List.singleton_append:=@List.singleton_append
theorem eR:type_of%@List.getElem?_eq_none:=@List.getElem?_eq_none
theorem gT:type_of%@Option.getD_some:=@Option.getD_some
theorem fK:type_of%@List.cons_append:=@List.cons_append
theorem gQ:type_of%@Array.toList_inj:=@Array.toList_inj
theorem jP:type_of%@Nat.le_trans:=@Nat.le_trans
theorem ei:type_of%@List.getElem?_drop:=@List.getElem?_drop
theorem iY:type_of%@Nat.add_mul:=@Nat.add_mul
theorem gS:type_of%@List.getElem?_of_mem:=@List.getElem?_of_mem
theorem fJ:type_of%@Int.mul_le_mul_of_nonneg_right:=@Int.mul_le_mul_of_nonneg_right
theorem iQ:type_of%@List.flatMap_append:=@List.flatMap_append
theorem jO:type_of%@List.all_cons:=@List.all_cons
theorem jk:type_of%@List.length_filter_le:=@List.length_filter_le
theorem jj:type_of%@List.getElem?_toArray:=@List.getElem?_toArray
theorem kN:type_of%@List.cons.injEq:=@List.cons.injEq
theorem eQ:type_of%@Array.getElem?_modify:=@Array.getElem?_modify
theorem pV:type_of%@List.getElem?_map:=@List.getElem?_map
theorem kj:type_of%@List.append_assoc:=@List.append_assoc
theorem fu:type_of%@List.getElem?_mapIdx:=@List.getElem?_mapIdx
theorem fW:type_of%@List.getElem?_append_left:=@List.getElem?_append_left
theorem ij:type_of%@List.drop_drop:=@List.drop_drop
theorem lT:type_of%@Int.mul_le_mul:=@Int.mul_le_mul
theorem lO:type_of%@List.length_take:=@List.length_take
theorem lN:type_of%@List.all_eq_true:=@List.all_eq_true
theorem mT:type_of%@Int.le_total:=@Int.le_total
theorem gE{α:Type}{l:List α}{i:Nat}(h:i<l.length):∃x,l[i]?=some x:=⟨_,aF h⟩
end Go
namespace Go.Abs
inductive D where
 |undef
 |bool (b:Bool)
 |int (k:IntKind) (n:Int)
 |str (s:List UInt8)
 |agg (cs:List D)
 |dK (cs:List D)
 |xw
 |ref (l i v off:Nat)
 |bD (cs:List D)
 |aG
 |aI (n:Nat) (cs:List D)
 |sl (l i v off n w:Nat)
 |fn (f:Nat) (first cap:List D)
 |iX
 |mH (l i:Nat)
 |own (s:Nat) (cs:List D)
 |vr (x s off:Nat)
 |uj (t:Nat) (d:D)
 |pr
 |emp
 deriving Inhabited
mutual
def D.same:D→D→Bool
 |.undef,.undef=>true
 |.bool a,.bool b=>a == b
 |.int k n,.int k' n'=>k == k' && n == n'
 |.str a,.str b=>a == b
 |.agg a,.agg b=>D.yu a b
 |.dK a,.dK b=>D.yu a b
 |.xw,.xw=>true
 |.ref a b c d,.ref a' b' c' d'=>a == a' && b == b' && c == c' && d == d'
 |.bD a,.bD b=>D.yu a b
 |.aG,.aG=>true
 |.aI n a,.aI m b=>n == m && D.yu a b
 |.sl a b c d e f,.sl a' b' c' d' e' f'=>a == a' && b == b' && c == c' && d == d' && e == e' && f == f'
 |.fn f a b,.fn f' a' b'=>f == f' && D.yu a a' && D.yu b b'
 |.iX,.iX=>true
 |.mH a b,.mH a' b'=>a == a' && b == b'
 |.own s a,.own s' b=>s == s' && D.yu a b
 |.vr a b c,.vr a' b' c'=>a == a' && b == b' && c == c'
 |.uj t a,.uj t' b=>t == t' && D.same a b
 |.pr,.pr=>true
 |.emp,.emp=>true
 |_,_=>false
def D.yu:List D→List D→Bool
 |[],[]=>true
 |a::as,b::bs=>D.same a b && D.yu as bs
 |_,_=>false
end
mutual
theorem Ke:∀{a b:D},D.same a b=true→a=b
 |.undef,b,h=>by cases b<;>simp[D.same]at h;rfl
 |.bool _,b,h=>by cases b<;>simp[D.same]at h;rw[h]
 |.int _ _,b,h=>by cases b<;>simp[D.same]at h;rw[h.1,h.2]
 |.str _,b,h=>by cases b<;>simp[D.same]at h;rw[h]
 |.agg _,b,h=>by cases b<;>simp[D.same]at h;rw[vR h]
 |.dK _,b,h=>by cases b<;>simp[D.same]at h;rw[vR h]
 |.xw,b,h=>by cases b<;>simp[D.same]at h;rfl
 |.ref ..,b,h=>by cases b<;>simp[D.same]at h;simp[h]
 |.bD _,b,h=>by cases b<;>simp[D.same]at h;rw[vR h]
 |.aG,b,h=>by cases b<;>simp[D.same]at h;rfl
 |.aI ..,b,h=>by cases b<;>simp[D.same]at h;rw[h.1,vR h.2]
 |.sl ..,b,h=>by cases b<;>simp[D.same]at h;simp[h]
 |.fn ..,b,h=>by cases b<;>simp[D.same]at h;rw[h.1.1,vR h.1.2,vR h.2]
 |.iX,b,h=>by cases b<;>simp[D.same]at h;rfl
 |.mH ..,b,h=>by cases b<;>simp[D.same]at h;simp[h]
 |.own ..,b,h=>by cases b<;>simp[D.same]at h;rw[h.1,vR h.2]
 |.vr ..,b,h=>by cases b<;>simp[D.same]at h;simp[h]
 |.uj _ a,b,h=>by cases b<;>simp[D.same]at h;rw[h.1,Ke h.2]
 |.pr,b,h=>by cases b<;>simp[D.same]at h;rfl
 |.emp,b,h=>by cases b<;>simp[D.same]at h;rfl
theorem vR:∀{a b:List D},D.yu a b=true→a=b
 |[],[],_=>rfl
 |[],_::_,h=>by simp[D.yu]at h
 |_::_,[],h=>by simp[D.yu]at h
 |a::as,b::bs,h=>by
  simp only[D.yu,af]at h;rw[Ke h.1,vR h.2]
end
mutual
theorem Ff:∀(a:D),D.same a a=true
 |.undef=>rfl
 |.bool b=>by simp[D.same]
 |.int k n=>by simp[D.same]
 |.str s=>by simp[D.same]
 |.agg a=>by simp[D.same,rC a]
 |.dK a=>by simp[D.same,rC a]
 |.xw=>rfl
 |.ref .. => by simp[D.same]
 |.bD a=>by simp[D.same,rC a]
 |.aG=>rfl
 |.aI n a=>by simp[D.same,rC a]
 |.sl .. => by simp[D.same]
 |.fn f a b=>by simp[D.same,rC a,rC b]
 |.iX=>rfl
 |.mH .. => by simp[D.same]
 |.own s a=>by simp[D.same,rC a]
 |.vr .. => by simp[D.same]
 |.uj t a=>by simp[D.same,Ff a]
 |.pr=>rfl
 |.emp=>rfl
theorem rC:∀(a:List D),D.yu a a=true
 |[]=>rfl
 |a::as=>by simp[D.yu,Ff a,rC as]
end
instance:DecidableEq D:=fun a b=>if h:D.same a b=true then isTrue (Ke h)else isFalse fun e=>h (e ▸ Ff a)
inductive bK where
 |t (n:Nat)
 |c (d:D)
 deriving Inhabited,DecidableEq
inductive Pu where
 |zD
 |CB
 |RW
 |Ik (lo hi:Bool)
 |seq (neg:Bool)
 deriving Inhabited,DecidableEq
def rU:Pu→List D→Option D
 |.zD,[.str s]=>some (.int .i64 s.length)
 |.CB,[.str s,.int _ i]=>if 0≤i then(s[i.toNat]?).map fun b => .int .u8 b.toNat else none
 |.RW,[.str a,.str b]=>if a.length+b.length≤4611686018427387904 then some (.str (a++b))else none
 |.Ik true true,[.str s,.int _ i,.int _ j]=>if 0≤i∧i≤j∧j≤s.length then some (.str ((s.drop i.toNat).take (j.toNat-i.toNat)))else none
 |.Ik true false,[.str s,.int _ i]=>if 0≤i∧i≤s.length then some (.str (s.drop i.toNat))else none
 |.Ik false true,[.str s,.int _ j]=>if 0≤j∧j≤s.length then some (.str (s.take j.toNat))else none
 |.Ik false false,[.str s]=>some (.str s)
 |.seq neg,[.str a,.str b]=>some (.bool (if neg then !(a == b)else a == b))
 |_,_=>none
abbrev Ky:=Option (Bool×List (Option IntKind))
inductive Mo where
 |make
 |lh (t e:Nat)
 |get (ky:Ky) (zero:D) (ok:Bool)
 |put (ky:Ky)
 |len
 |rng
 |ent
 deriving Inhabited,DecidableEq
inductive Me where
 |b2s
 |s2b
 |s2a (n w:Nat)
 |peq (neg:Bool)
 deriving Inhabited,DecidableEq
inductive K where
 |mv (x:bK)
 |pI (w:Nat)
 |pick (c a b:bK)
 |H6 (nb:List (Nat×Nat)) (cs:List D)
 |ek (nb:List (Nat×Nat)) (cs:List D)
 |H7 (x:bK)
 |H8 (x:bK)
 |bxn (nb:List (Nat×Nat)) (x:bK)
 |EK (x:bK)
 |lh (zero:List D) (parts:List (Nat×Nat×bK))
 |tH (n w:Nat) (zero:List D) (parts:List (Nat×Nat×bK))
 |KX (n w:Nat) (zero:List D) (parts:List (Nat×Nat×bK))
 |ld (ag:Bool) (sz:Nat) (a:bK)
 |Qc (ag:Bool) (sz:Nat) (a:bK)
 |Sg (ag:Bool) (sz:Nat) (a:bK)
 |Sf (ps neg:Bool) (x:bK)
 |mG (x:bK)
 |st (nb:List (Nat×Nat)) (sz:Nat) (a x:bK)
 |R5 (os:List Nat) (sz:Nat) (a x:bK)
 |Sh (v:Nat) (ag:Bool) (sz:Nat) (a:Nat)
 |Er (v:Nat) (nb:List (Nat×Nat)) (sz:Nat) (a:Nat) (x:bK)
 |bin (o:BinOp) (x y:bK)
 |eqv (ag:Bool) (ks:List (Option IntKind)) (neg:Bool) (x y:bK)
 |un (o:UnOp) (x:bK)
 |JG (k:IntKind) (x:bK)
 |yq (f:Nat) (first cap:List bK)
 |mks (w bytes:Nat) (zero:List D) (l c:bK)
 |Jc (w:Nat) (x:bK) (lo hi mx:Option bK)
 |Ny (len w:Nat) (x:bK) (lo hi:Option bK)
 |Ia (off:Nat) (x:bK)
 |fld (ag:Bool) (off sz:Nat) (x:bK)
 |Bw (len w:Nat) (x i:bK)
 |dT (w:Nat) (x i:bK)
 |JP (ag:Bool) (len w:Nat) (x i:bK)
 |Ie (x:bK)
 |Nf (n:Nat)
 |mn (x y:bK)
 |mx (x y:bK)
 |app (w bytes:Nat) (s x:bK)
 |Q0 (os:List Nat) (w bytes:Nat) (s x:bK)
 |apz (w bytes:Nat) (s x:bK)
 |cpi (w bytes:Nat) (x:bK)
 |cvz (x:bK)
 |bse
 |ape (w bytes v:Nat) (x:bK)
 |ext (x:bK) (i:Nat)
 |rj (o:Pu) (xs:List bK)
 |mp (o:Mo) (xs:List bK)
 |me (o:Me) (xs:List bK)
 |mki (t:Nat) (x:bK)
 |tas (t:Nat) (zero:Option D) (x:bK)
 |isi (neg:Bool) (x:bK)
 |Mw (x:bK)
 |My
 |call (kp:Bool) (f:bK) (args:List bK)
 deriving Inhabited,DecidableEq
structure Op where
 dst:Option Nat
 Di:Option (Nat×Bool)
 AF:Bool
 k:K
 deriving Inhabited,DecidableEq
inductive cH where
 |dJ
 |cr (vs:List Nat)
 |cc (live:List Nat) (ops:List Op)
 |seq (a b:cH)
 |ite (c:bK) (a b:cH)
 |bO (id:Nat) (a:cH)
 |loop (live:List Nat) (bw:Bool) (a:cH)
 |Kb (live:List Nat) (f:bK) (params:List Nat) (zW body:cH)
 |ja (live:List Nat) (it:bK) (nx ok b:Nat) (a rest:cH)
 |iO (live:List Nat) (pre:List Op) (op:Op) (post:List Op)
 |Rb (f:bK) (args:List bK) (rest:cH)
 |exit (id:Nat)
 |ret
 deriving Inhabited,DecidableEq
inductive Exit where
 |normal
 |exit (id:Nat)
 |ret
 |fY (d:D)
 deriving Inhabited,DecidableEq
abbrev Env:=List (Nat×D)
def get:Env→Nat→D
 |[],_ => .undef
 |(k,v)::r,t=>if k=t then v else get r t
def put(d:Option Nat)(v:D)(e:Env):Env :=
 match d with
 |some t=>(t,v)::e
 |none=>e
def D.calm:D→D
 |.vr .. => .undef
 |.emp => .undef
 |.own _ cs => .own 0 cs
 |d=>d
def D.strip:D→D
 |.vr .. => .undef
 |.emp => .undef
 |.own .. => .undef
 |d=>d
def restrict(live:List Nat)(e:Env):Env:=live.map fun t=>(t,(get e t).calm)
def keys(e:Env):List Nat:=(e.map (·.1)).eraseDups
def xI(live:List Nat)(e:Env):Env:=live.map fun t=>(t,(get e t).strip)
def yY(live:List Nat)(x:Exit)(e:Env):List Nat :=
 match x with
 |.normal=>live
 |_=>keys e
structure wU where
 state:Nat
 xA:Option Exit
 env:Env
 params:List Nat
 zW:cH
 body:cH
 deriving DecidableEq
inductive aE where
 |cells (v:Nat) (cs:List D)
 |dead
 |loop (l:wU)
 deriving DecidableEq
abbrev SK:=List (List aE)
def fX:SK→Nat→Option (List aE)
 |[],_=>none
 |s::σ,l=>if σ.length=l then some s else fX σ l
def iN:SK→Nat→List aE→SK
 |[],_,_=>[]
 |s::σ,l,s'=>if σ.length=l then s'::σ else s::iN σ l s'
def eo(σ:SK)(l i:Nat):Option aE:=(fX σ l).bind (·[i]?)
def aV(σ:SK)(l i:Nat)(b:aE):SK :=
 match fX σ l with
 |some s=>iN σ l (s.set i b)
 |none=>σ
def cells?(σ:SK)(l i v:Nat):Option (List D) :=
 match eo σ l i with
 |some (.cells v' cs)=>if v'=v then some cs else none
 |_=>none
def ie(σ:SK)(b:aE):Option (Nat×Nat×SK) :=
 match σ with
 |[]=>none
 |s::σ'=>some (σ'.length,s.length,(s++[b])::σ')
mutual
def D.clean:D→Bool
 |.ref .. => false
 |.sl .. => false
 |.mH .. => false
 |.vr .. => true
 |.emp=>true
 |.own _ cs=>D.bg cs
 |.agg cs=>D.bg cs
 |.dK cs=>D.bg cs
 |.bD cs=>D.bg cs
 |.aI _ cs=>D.bg cs
 |.fn _ a b=>D.bg a && D.bg b
 |.undef=>true
 |.bool _=>true
 |.int _ _=>true
 |.str _=>true
 |.xw=>true
 |.aG=>true
 |.iX=>true
 |.uj _ d=>D.clean d
 |.pr=>true
def D.bg:List D→Bool
 |[]=>true
 |d::ds=>D.clean d && D.bg ds
end
def cr(l:Nat):Nat→D→SK→D×SK
 |0,_,σ=>(.undef,σ)
 |n+1,d,σ =>
  if d.clean then(d,σ)else
  match d with
  |.agg cs=>let r:=frzL (cr l n) cs σ;(.agg r.1,r.2)
  |.dK cs=>let r:=frzL (cr l n) cs σ;(.dK r.1,r.2)
  |.bD cs=>let r:=frzL (cr l n) cs σ;(.bD r.1,r.2)
  |.aI m cs=>let r:=frzL (cr l n) cs σ;(.aI m r.1,r.2)
  |.own s cs=>let r:=frzL (cr l n) cs σ;(.own s r.1,r.2)
  |.fn f a b=>let r:=frzL (cr l n) a σ;let r':=frzL (cr l n) b r.2;(.fn f r.1 r'.1,r'.2)
  |.ref l' i v off=>if l'≤l then(.ref l' i v off,σ)else(.undef,σ)
  |.mH l' i=>if l'≤l then(.mH l' i,σ)else(.undef,σ)
  |.sl l' i v off m w =>
   if l'≤l then(.sl l' i v off m w,σ)else
   match cells? σ l' i v with
   |some cs=>let r:=frzL (cr l n) ((cs.drop off).take (m*w)) (aV σ l' i .dead);(.aI m r.1,r.2)
   |none=>(.undef,σ)
  |_=>(.undef,σ)
where
 frzL (f:D→SK→D×SK):List D→SK→List D×SK
  |[],σ=>([],σ)
  |d::ds,σ=>let r:=f d σ;let r':=frzL f ds r.2;(r.1::r'.1,r'.2)
def deep:Nat:=16
def sY(l:Nat):Env→SK→Env×SK
 |[],σ=>([],σ)
 |(t,d)::e,σ=>let r:=cr l deep d σ;let r':=sY l e r.2;((t,r.1)::r'.1,r'.2)
inductive Q where
 |call (kp:Bool) (f:Nat) (args:List D) (σ:SK)
 |loop (live:List Nat) (bw:Bool) (c:cH) (env:Env) (σ:SK)
 |round (l i:Nat) (args:List D) (σ:SK)
 |ja (live:List Nat) (it:bK) (nx ok b:Nat) (c rest:cH) (env:Env) (σ:SK)
 |xU (f:Nat) (args:List D) (th:Option D) (σ:SK)
inductive R where
 |val (d:D) (σ:SK)
 |CI (e:Exit) (env:Env) (σ:SK)
 |fY (d:D) (σ:SK)
 deriving DecidableEq
abbrev bN:=Q→Option R
def bj(e:Env):bK→D
 |.t n=>(get e n).strip
 |.c d=>d
def D.cells:D→Option (List D)
 |.agg cs=>some cs
 |.undef=>none
 |.dK _=>none
 |.own .. => none
 |.vr .. => none
 |.emp=>none
 |d=>some [d]
def D.row(ag:Bool)(d:D):Option (List D) :=
 match ag,d with
 |true,.agg cs=>some cs
 |true,_=>none
 |false,.agg _=>none
 |false,d=>d.cells
def rX(e:Env):List (Nat×Nat×bK)→List D→Option (List D)
 |[],cs=>some cs
 |(off,sz,x)::r,cs =>
  match(bj e x).cells with
  |some p=>if p.length=sz∧off+sz≤cs.length then rX e r (cs.take off++p++cs.drop (off+sz))else none
  |none=>none
def Aa:List (Option IntKind)→List D→List D→Option Bool
 |[],[],[]=>some true
 |some k::ks,.int k1 a::x,.int k2 b::y=>if k1=k∧k2=k then(Aa ks x y).map (a == b && ·)else none
 |none::ks,.bool a::x,.bool b::y=>(Aa ks x y).map (a == b && ·)
 |_,_,_=>none
def vC(o:BinOp):D→D→Option D
 |.int k a,.int k' b =>
  match o with
  |.shl=>if b<0 then none else some (.int k (k.wrap (a*2^(min b.toNat k.bits))))
  |.shr=>if b<0 then none else some (.int k (a.fdiv (2^(min b.toNat k.bits))))
  |.add=>if k=k' then some (.int k (k.wrap (a+b)))else none
  |.sub=>if k=k' then some (.int k (k.wrap (a-b)))else none
  |.mul=>if k=k' then some (.int k (k.wrap (a*b)))else none
  |.quo=>if k=k'∧b≠0 then some (.int k (k.wrap (a.tdiv b)))else none
  |.rem=>if k=k'∧b≠0 then some (.int k (a.tmod b))else none
  |.and=>if k=k' then some (.int k (k.wrap ((BitVec.ofInt k.bits a &&& BitVec.ofInt k.bits b).toNat:Int)))else none
  |.or=>if k=k' then some (.int k (k.wrap ((BitVec.ofInt k.bits a ||| BitVec.ofInt k.bits b).toNat:Int)))else none
  |.xor=>if k=k' then some (.int k (k.wrap ((BitVec.ofInt k.bits a ^^^ BitVec.ofInt k.bits b).toNat:Int)))else none
  |.andNot=>none
  |.eql=>if k=k' then some (.bool (a == b))else none
  |.neq=>if k=k' then some (.bool (a != b))else none
  |.lss=>if k=k' then some (.bool (decide (a<b)))else none
  |.leq=>if k=k' then some (.bool (decide (a≤b)))else none
  |.gtr=>if k=k' then some (.bool (decide (a>b)))else none
  |.geq=>if k=k' then some (.bool (decide (a≥b)))else none
 |_,_=>none
def D4:D→Option Int
 |.int _ n=>some n
 |_=>none
def BV(e:Env)(m:Nat)(dfl:Option Nat):Option bK→Option Nat
 |some x=>match D4 (bj e x)with
  |some n=>if 0≤n∧n≤m then some n.toNat else none
  |none=>none
 |none=>dfl
def bounds(len:Nat)(e:Env)(lo hi mx:Option bK):Option (Nat×Nat) :=
 (BV e len (some len) mx).bind fun m=>(BV e m (if mx.isSome then none else some len) hi).bind fun h=>(BV e h (some 0) lo).map fun l=>(l,h)
def td(ky:Ky)(a b:D):Option Bool :=
 match ky with
 |none=>match a,b with
  |.str x,.str y=>some (x == y)
  |_,_=>none
 |some (ag,ks)=>match a.row ag,b.row ag with
  |some p,some q=>Aa ks p q
  |_,_=>none
def rq(ky:Ky)(k:D):List D→Option (Option (Nat×D))
 |[]=>some none
 |.dK [k',v]::es =>
  match td ky k k' with
  |some true=>some (some (0,v))
  |some false=>(rq ky k es).map fun x=>x.map fun y=>(y.1+1,y.2)
  |none=>none
 |_=>none
def AU(σ:SK):D→Option (Nat×Nat×List D)
 |.mH l i=>(cells? σ l i 0).map fun es=>(l,i,es)
 |_=>none
def AV(σ:SK):Mo→List D→Option (D×SK)
 |.make,[]=>(ie σ (.cells 0 [])).map fun x=>(.mH x.1 x.2.1,x.2.2)
 |.lh t e,[]=>(ie σ (.cells 2 [.int .i64 (t:Nat),.int .i64 (e:Nat),.str []])).map fun x=>(.mH x.1 x.2.1,x.2.2)
 |.get ky zero ok,[m,k] =>
  match AU σ m with
  |some (_,_,es) =>
   if(td ky k k).isSome then
    match rq ky k es with
    |some (some (_,v))=>some (if ok then .dK [v,.bool true]else v,σ)
    |some none=>some (if ok then .dK [zero,.bool false]else zero,σ)
    |none=>none
   else none
  |none=>none
 |.put ky,[m,k,v] =>
  match AU σ m with
  |some (l,i,es) =>
   if(td ky k k).isSome∧(l+1=σ.length∨(k.clean∧v.clean))then
    match rq ky k es with
    |some (some (j,_))=>some (.undef,aV σ l i (.cells 0 (es.set j (.dK [k,v]))))
    |some none=>some (.undef,aV σ l i (.cells 0 (es++[.dK [k,v]])))
    |none=>none
   else none
  |none=>none
 |.len,[m]=>(AU σ m).map fun x=>(.int .i64 x.2.2.length,σ)
 |.rng,[m] =>
  match AU σ m with
  |some (lm,im,es)=>(ie σ (.cells 1 [.mH lm im,.int .i64 es.length])).map fun x=>(.mH x.1 x.2.1,x.2.2)
  |none=>none
 |.ent,[.mH l i] =>
  match cells? σ l i 1 with
  |some (m::.int .i64 n::.int .i64 j::_) =>
   match AU σ m with
   |some (_,_,es)=>if(es.length:Int)=n then
     match es[j.toNat]? with
     |some (.dK [k,v])=>some (.dK [k,v],σ)
     |_=>none
    else none
   |none=>none
  |_=>none
 |_,_=>none
def strCells(s:List UInt8):List D:=s.map fun b => .int .u8 b.toNat
def elems(σ:SK)(w:Nat):D→Option (Nat×List D)
 |.aG=>some (0,[])
 |.str s=>if w=1 then some (s.length,strCells s)else none
 |.aI n cs=>if cs.length=n*w then some (n,cs)else none
 |.sl l i v off n w' =>
  if w'=w then
   match cells? σ l i v with
   |some cs=>if off+n*w≤cs.length then some (n,(cs.drop off).take (n*w))else none
   |none=>none
  else none
 |_=>none
def Df:List D→Option (List UInt8)
 |[]=>some []
 |.int .u8 n::r=>(Df r).map (UInt8.ofNat n.toNat :: ·)
 |_=>none
def meD(σ:SK):Me→List D→Option (D×SK)
 |.b2s,[.str _]=>none
 |.b2s,[x]=>(elems σ 1 x).bind fun r=>(Df r.2).map fun s=>(.str s,σ)
 |.s2b,[.str s]=>some (.aI s.length (strCells s),σ)
 |.s2a n w,[.aI m cs]=>if 0<n∧n≤m then some (.bD (cs.take (n*w)),σ)else none
 |.peq neg,[.ref l i v o,.ref l' i' v' o']=>if l=l'∧i=i'∧o=o'∧v=v'∧(cells? σ l i v).isSome then some (.bool (!neg),σ)else none
 |_,_=>none
def room:Nat:=2^46
def lf:List (Nat×Nat)→List D→SK→Option (List D×SK)
 |[],cs,σ=>some (cs,σ)
 |(p,w)::r,cs,σ =>
  match cs[p]? with
  |some .aG=>do
   let (l,i,σ')←ie σ (.cells 0 [])
   lf r (cs.set p (.sl l i 0 0 0 w)) σ'
  |_=>lf r cs σ
def rY(e:Env)(v a:Nat):Option (Nat×List D×Nat) :=
 match get e v with
 |.own s cs =>
  if a=v then some (s,cs,0)else
  match get e a with
  |.vr x s' off=>if x=v∧s'=s then some (s,cs,off)else none
  |_=>none
 |_=>none
def uA(e:Env)(v:Nat):Nat :=
 match get e v with
 |.own s _=>s+1
 |_=>0
def E7(σ:SK):D→Option (List D)
 |.bD cs=>some cs
 |.ref l i v off=>(cells? σ l i v).map (·.drop off)
 |_=>none
def Sj(σ:SK):D→Option (List D)
 |.ref l i 0 off=>E7 σ (.ref l i 0 off)
 |_=>none
def Ic(ps:Bool)(d:D):Option Bool :=
 match ps,d with
 |true,.xw=>some true
 |true,.bD _=>some false
 |true,.ref .. => some false
 |false,.aG=>some true
 |false,.aI n _=>if n=0 then none else some false
 |false,.sl _ _ _ _ n _=>if n=0 then none else some false
 |_,_=>none
def NM(t:Nat)(z:Option D):D→Option D
 |.uj t' d=>match z with
  |some z=>some (if t'=t then .dK [d,.bool true]else .dK [z,.bool false])
  |none=>if t'=t then some d else none
 |.pr=>z.map fun z => .dK [z,.bool false]
 |_=>none
def ad7:D→Option Bool
 |.pr=>some true
 |.uj .. => some false
 |_=>none
def D.off(l i:Nat):D→Bool
 |.ref l' i' _ _=>decide (¬(l'=l∧i'=i))
 |_=>true
def Jz(e:Env)(σ:SK)(w bytes:Nat)(s x:bK):Option (D×SK):=do
  let (m,xs)←elems σ w (bj e x)
  match bj e s with
  |.aG =>
   if m*bytes≤room then
    if m=0 then some (.aI 0 [],σ)else do
    let (l,i,σ')←ie σ (.cells 0 xs)
    some (.sl l i 0 0 m w,σ')
   else none
  |.sl l i v off n w' =>
   match cells? σ l i v with
   |some cs =>
    if w'=w∧off+n*w≤cs.length∧(n+m)*bytes≤room then
     if l+1=σ.length then
      some (.sl l i (v+1) 0 (n+m) w,aV σ l i (.cells (v+1) ((cs.drop off).take (n*w)++xs)))
     else
      let r:=cr.frzL (cr l deep) xs σ
      some (.sl l i (v+1) 0 (n+m) w,aV r.2 l i (.cells (v+1) ((cs.drop off).take (n*w)++r.1)))
    else none
   |none=>none
  |_=>none
def bL(e:Env)(σ:SK):K→Option (D×SK)
 |.mv x=>some (bj e x,σ)
 |.pI w=>do
  let (l,i,σ')←ie σ (.cells 0 [])
  some (.sl l i 0 0 0 w,σ')
 |.pick c a b =>
  match bj e c with
  |.bool t=>some (if t then bj e a else bj e b,σ)
  |_=>none
 |.H6 nb cs=>do
  let (cs',σ1)←lf nb cs σ
  let (l,i,σ')←ie σ1 (.cells 0 cs')
  some (.ref l i 0 0,σ')
 |.H7 x=>(bj e x).cells.map fun cs=>(.bD cs,σ)
 |.H8 x=>do
  let cs←(bj e x).cells
  let (l,i,σ')←ie σ (.cells 0 cs)
  some (.ref l i 0 0,σ')
 |.bxn nb x=>do
  let cs←(bj e x).cells
  let (cs',σ1)←lf nb cs σ
  let (l,i,σ')←ie σ1 (.cells 0 cs')
  some (.ref l i 0 0,σ')
 |.ek .. => none
 |.EK _=>none
 |.Er .. => none
 |.Sh v ag sz a =>
  match rY e v a with
  |some (_,cs,off) =>
   let cs:=cs.drop off
   if sz≤cs.length then
    if ag then some (.agg (cs.take sz),σ)else
    match cs with
    |d::_=>some (d,σ)
    |[]=>none
   else none
  |none=>none
 |.lh zero parts=>do
  let cs←rX e parts zero
  some (.agg cs,σ)
 |.tH n _ zero parts=>do
  let cs←rX e parts zero
  some (.aI n cs,σ)
 |.KX n w zero parts=>do
  let cs←rX e parts zero
  let (l,i,σ')←ie σ (.cells 0 cs)
  some (.sl l i 0 0 n w,σ')
 |.ld ag sz a =>
  match E7 σ (bj e a)with
  |some cs =>
   if sz≤cs.length then
    if ag then some (.agg (cs.take sz),σ)else
    match cs with
    |d::_=>some (d,σ)
    |[]=>none
   else none
  |none=>none
 |.Sg ag sz a =>
  match Sj σ (bj e a)with
  |some cs =>
   if sz≤cs.length then
    if ag then some (.agg (cs.take sz),σ)else
    match cs with
    |d::_=>some (d,σ)
    |[]=>none
   else none
  |none=>none
 |.Qc ag sz a =>
  match bj e a with
  |.bD cs =>
   if sz≤cs.length then
    if ag then some (.agg (cs.take sz),σ)else
    match cs with
    |d::_=>some (d,σ)
    |[]=>none
   else none
  |_=>none
 |.Sf ps neg x=>(Ic ps (bj e x)).map fun b=>(.bool (if neg then !b else b),σ)
 |.mG x =>
  match bj e x with
  |.bD cs=>some (.bD cs,σ)
  |.ref l i v off=>some (.ref l i v off,σ)
  |_=>none
 |.st nb sz a x =>
  match bj e a with
  |.ref l i v off =>
   match cells? σ l i v with
   |some cs =>
    match(bj e x).cells with
    |some p =>
     if p.length=sz∧off+sz≤cs.length then
      if l+1=σ.length then
       match lf nb p σ with
       |some (p',σ1)=>some (.undef,aV σ1 l i (.cells v (cs.take off++p'++cs.drop (off+sz))))
       |none=>none
      else
       let r:=cr.frzL (cr l deep) p σ
       some (.undef,aV r.2 l i (.cells v (cs.take off++r.1++cs.drop (off+sz))))
     else none
    |none=>none
   |none=>none
  |_=>none
 |.R5 os sz a x =>
  match bj e a with
  |.ref l i v off =>
   if(os.all fun t=>D.off l i (get e t))=true then
    match cells? σ l i v with
    |some cs =>
     match(bj e x).cells with
     |some p =>
      if p.length=sz∧off+sz≤cs.length∧(D.bg p=true∨l+1=σ.length)then some (.undef,aV σ l i (.cells v (cs.take off++p++cs.drop (off+sz))))else none
     |none=>none
    |none=>none
   else none
  |_=>none
 |.bin o x y=>(vC o (bj e x) (bj e y)).map (·,σ)
 |.eqv ag ks neg x y =>
  match(bj e x).row ag,(bj e y).row ag with
  |some p,some q=>(Aa ks p q).map fun b=>(.bool (if neg then !b else b),σ)
  |_,_=>none
 |.un o x =>
  match o,bj e x with
  |.not,.bool b=>some (.bool !b,σ)
  |.neg,.int k n=>some (.int k (k.wrap (0-n)),σ)
  |.xor,.int k n=>some (.int k (k.wrap ((BitVec.ofInt k.bits (if k.signed then -1 else k.max) ^^^ BitVec.ofInt k.bits n).toNat:Int)),σ)
  |_,_=>none
 |.JG k x =>
  match bj e x with
  |.int _ n=>some (.int k (k.wrap n),σ)
  |_=>none
 |.yq f first cap=>some (.fn f (first.map (bj e)) (cap.map (bj e)),σ)
 |.mks w bytes zero l c =>
  match bj e l,bj e c with
  |.int .i64 n,.int .i64 m =>
   if 0≤n∧n=m∧n*bytes≤(room:Int)∧zero.length=w then do
    let (l,i,σ')←ie σ (.cells 0 ((List.range n.toNat).flatMap fun _=>zero))
    some (.sl l i 0 0 n.toNat w,σ')
   else none
  |_,_=>none
 |.Jc w x lo hi mx =>
  match bj e x with
  |.aI n cs=>(bounds n e lo hi mx).map fun b=>(.aI (b.2-b.1) ((cs.drop (b.1*w)).take ((b.2-b.1)*w)),σ)
  |.sl l i v off n w'=>if w'=w then(bounds n e lo hi mx).map fun b=>(.sl l i v (off+b.1*w) (b.2-b.1) w,σ)else none
  |.aG=>(bounds 0 e lo hi mx).map fun _=>(.aG,σ)
  |_=>none
 |.Ny len w x lo hi =>
  match bj e x with
  |.bD cs=>(bounds len e lo hi none).map fun b=>(.aI (b.2-b.1) ((cs.drop (b.1*w)).take ((b.2-b.1)*w)),σ)
  |.ref l i v off =>
   match cells? σ l i v with
   |some cs=>if len≤1000000∧off+len*w≤cs.length then(bounds len e lo hi none).map fun b=>(.sl l i v (off+b.1*w) (b.2-b.1) w,σ)else none
   |none=>none
  |_=>none
 |.Ia off x =>
  match x with
  |.t n =>
   match get e n with
   |.bD cs=>some (.bD (cs.drop off),σ)
   |.ref l i v o=>some (.ref l i v (o+off),σ)
   |.own s _=>some (.vr n s off,σ)
   |.vr v s o=>some (.vr v s (o+off),σ)
   |_=>none
  |.c _=>none
 |.fld ag off sz x =>
  match bj e x with
  |.agg cs =>
   if off+sz≤cs.length then
    if ag then some (.agg ((cs.drop off).take sz),σ)else(cs[off]?).map (·,σ)
   else none
  |_=>none
 |.Bw len w x i =>
  match x,D4 (bj e i)with
  |.t m,some n =>
   if 0≤n∧n<len then
    match get e m with
    |.bD cs=>some (.bD ((cs.drop (n.toNat*w)).take w),σ)
    |.ref l j v off=>some (.ref l j v (off+n.toNat*w),σ)
    |.own s _=>some (.vr m s (n.toNat*w),σ)
    |.vr v s o=>some (.vr v s (o+n.toNat*w),σ)
    |_=>none
   else none
  |_,_=>none
 |.dT w x i =>
  match bj e x,D4 (bj e i)with
  |.aI m cs,some n=>if 0≤n∧n<m then some (.bD ((cs.drop (n.toNat*w)).take w),σ)else none
  |.sl l j v off m w',some n=>if 0≤n∧n<m∧w'=w then some (.ref l j v (off+n.toNat*w),σ)else none
  |_,_=>none
 |.JP ag len w x i =>
  match bj e x,D4 (bj e i)with
  |.agg cs,some n =>
   if 0≤n∧n<len∧(n.toNat+1)*w≤cs.length then
    if ag then some (.agg ((cs.drop (n.toNat*w)).take w),σ)else(cs[n.toNat*w]?).map (·,σ)
   else none
  |_,_=>none
 |.Ie x =>
  match bj e x with
  |.aG=>some (.int .i64 0,σ)
  |.aI n _=>some (.int .i64 n,σ)
  |.sl _ _ _ _ n _=>some (.int .i64 n,σ)
  |_=>none
 |.Nf n=>some (.int .i64 n,σ)
 |.mn x y =>
  match bj e x,bj e y with
  |.int k a,.int _ b=>some (.int k (min a b),σ)
  |_,_=>none
 |.mx x y =>
  match bj e x,bj e y with
  |.int k a,.int _ b=>some (.int k (max a b),σ)
  |_,_=>none
 |.app w bytes s x=>do
  let (m,xs)←elems σ w (bj e x)
  match bj e s with
  |.aG =>
   if m*bytes≤room then
    if m=0 then some (.aI 0 [],σ)else do
    let (l,i,σ')←ie σ (.cells 0 xs)
    some (.sl l i 0 0 m w,σ')
   else none
  |.sl l i v off n w' =>
   match cells? σ l i v with
   |some cs =>
    if w'=w∧off+n*w≤cs.length∧(n+m)*bytes≤room then
     if l+1=σ.length then
      some (.sl l i (v+1) 0 (n+m) w,aV σ l i (.cells (v+1) ((cs.drop off).take (n*w)++xs)))
     else
      let r:=cr.frzL (cr l deep) xs σ
      some (.sl l i (v+1) 0 (n+m) w,aV r.2 l i (.cells (v+1) ((cs.drop off).take (n*w)++r.1)))
    else none
   |none=>none
  |_=>none
 |.Q0 os w bytes s x =>
  match bj e s with
  |.sl l i _ _ _ _=>if(os.all fun t=>D.off l i (get e t))=true then(elems σ w (bj e x)).bind fun r=>if D.bg r.2=true then Jz e σ w bytes s x else none else none
  |_=>none
 |.apz w bytes s x=>(Jz e σ w bytes s x).map fun r=>cr 0 deep r.1 r.2
 |.cpi w bytes x=>do
  let (m,xs)←elems σ w (bj e x)
  if m*bytes≤room then some (.aI m xs,σ)else none
 |.cvz x =>
  match bj e x with
  |.sl l i v off n w =>
   if 0<n then
    match cells? σ l i v with
    |some cs=>some (.aI n ((cs.drop off).take (n*w)),aV σ l i .dead)
    |none=>none
   else none
  |_=>none
 |.bse=>some (.emp,σ)
 |.ape w bytes v x =>
  match get e v with
  |.emp=>(elems σ w (bj e x)).bind fun r=>if r.1*bytes≤room then some (.aI r.1 r.2,σ)else none
  |_=>none
 |.ext x i =>
  match bj e x with
  |.dK ds=>(ds[i]?).map (·,σ)
  |_=>none
 |.rj o xs=>(rU o (xs.map (bj e))).map (·,σ)
 |.mp o xs=>AV σ o (xs.map (bj e))
 |.me o xs=>meD σ o (xs.map (bj e))
 |.mki t x=>some (.uj t (bj e x),σ)
 |.tas t z x=>(NM t z (bj e x)).map (·,σ)
 |.isi neg x=>(ad7 (bj e x)).map fun b=>(.bool (if neg then !b else b),σ)
 |.Mw _=>none
 |.My=>none
 |.call _ _ _=>none
def R.bh:Option R→Option (D×SK)
 |some (.val d σ)=>some (d,σ)
 |_=>none
def R.Ra:Option R→Option (Exit×Env×SK)
 |some (.CI e env σ)=>some (e,env,σ)
 |_=>none
def pw(O:bN)(kp:Bool)(fv:D)(args:List D)(σ:SK):Option (D×SK) :=
 match fv with
 |.fn f first cap=>R.bh (O (.call kp f (first++args++cap) σ))
 |.mH l i=>R.bh (O (.round l i args σ))
 |_=>none
def Fx(O:bN)(fv:D)(args:List D)(σ:SK):Option (D×SK) :=
 match fv with
 |.fn f first cap=>R.bh (O (.call false f (first++args++cap) σ))
 |_=>none
def vU(O:bN)(op:Op)(e:Env)(σ:SK):Option (Env×SK) :=
 match op.k with
 |.call kp f args =>
  match pw O kp (bj e f) (args.map (bj e)) σ with
  |some (d,σ')=>if op.AF=true→σ'=σ then some (put op.dst d e,σ')else none
  |none=>none
 |.ek nb cs =>
  match op.dst,lf nb cs σ with
  |some v,some (cs',σ')=>some ((v,.own (uA e v) cs')::e,σ')
  |_,_=>none
 |.EK x =>
  match op.dst,(bj e x).cells with
  |some v,some cs=>some ((v,.own (uA e v) cs)::e,σ)
  |_,_=>none
 |.Er v nb sz a x =>
  match rY e v a,(bj e x).cells with
  |some (s,cs,off),some p =>
   if p.length=sz∧off+sz≤cs.length then
    match lf nb p σ with
    |some (p',σ')=>some ((v,.own s (cs.take off++p'++cs.drop (off+sz)))::e,σ')
    |none=>none
   else none
  |_,_=>none
 |k=>(bL e σ k).map fun x=>(put op.dst x.1 e,x.2)
def D.bit:D→Option (Option Bool)
 |.bool b=>some (some b)
 |.dK []=>some none
 |_=>none
def mF(O:bN):List Op→Env→SK→Option (Env×SK)
 |[],e,σ=>some (e,σ)
 |op::r,e,σ =>
  match op.Di with
  |none=>(vU O op e σ).bind fun x=>mF O r x.1 x.2
  |some (g,want) =>
   match(get e g).bit with
   |some y=>if y=some want then(vU O op e σ).bind fun x=>mF O r x.1 x.2 else mF O r (put op.dst (.dK []) e) σ
   |none=>none
def D.wE:D→D
 |.aG => .aI 0 []
 |d=>d
def DX(l i u:Nat)(σ:SK):D×SK :=
 match cells? σ l i u with
 |some cs=>let r:=cr.frzL (cr 0 deep) cs (aV σ l i .dead);(.bD (r.1.map D.wE),r.2)
 |none=>(.undef,σ)
def Ib(v:Nat)(e:Env)(σ:SK):Env×SK :=
 match get e v with
 |.aG=>((v,.aI 0 [])::e,σ)
 |.ref l i u 0=>let r:=DX l i u σ;((v,r.1)::e,r.2)
 |.own s cs=>((v,.own s (cs.map D.wE))::e,σ)
 |_=>(e,σ)
def u0:List Nat→Env→SK→Env×SK
 |[],e,σ=>(e,σ)
 |v::vs,e,σ =>
  match get e v with
  |.sl l i u off m w=>let r:=cr 0 deep (.sl l i u off m w) σ;u0 vs ((v,r.1)::e) r.2
  |.own s cs=>let r:=cr.frzL (cr 0 deep) cs σ;u0 vs ((v,.own s r.1)::e) r.2
  |.agg cs=>u0 vs ((v,.agg (cs.map D.wE))::e) σ
  |.undef=>if 1000000≤v then(let r:=Ib (v-1000000) e σ;u0 vs r.1 r.2)else u0 vs e σ
  |_=>u0 vs e σ
def Az(O:bN)(fv:D)(args:List D)(σ:SK):Option R :=
 match fv with
 |.fn f first cap=>O (.call false f (first++args++cap) σ)
 |_=>none
def uJ(O:bN)(live:List Nat)(dst:Option Nat)(post:List Op)(e:Env):Option R→Option (Exit×Env×SK)
 |some (.val d σ')=>(mF O post (put dst d e) σ').map fun y=>(.normal,restrict live y.1,y.2)
 |some (.fY d σ')=>some (.fY d,e,σ')
 |_=>none
def F2(O:bN)(live:List Nat)(op:Op)(post:List Op)(e:Env)(σ:SK):Option (Exit×Env×SK) :=
 match op.Di,op.k with
 |none,.call false f args=>uJ O live op.dst post e (Az O (bj e f) (args.map (bj e)) σ)
 |none,.Mw x=>(match bj e x with
  |.uj t d=>if d.clean then some (.fY (.uj t d),e,σ)else none
  |_=>none)
 |_,_=>none
def aZ(O:bN):cH→Env→SK→Option (Exit×Env×SK)
 |.dJ,e,σ=>some (.normal,e,σ)
 |.cr vs,e,σ=>let r:=u0 vs e σ;some (.normal,r.1,r.2)
 |.cc live ops,e,σ=>(mF O ops e σ).map fun x=>(.normal,restrict live x.1,x.2)
 |.seq a b,e,σ=>(aZ O a e σ).bind fun x =>
  match x.1 with
  |.normal=>aZ O b x.2.1 x.2.2
  |_=>some x
 |.ite c a b,e,σ =>
  match bj e c with
  |.bool t=>if t then aZ O a e σ else aZ O b e σ
  |_=>none
 |.bO id a,e,σ=>(aZ O a e σ).map fun x =>
  match x.1 with
  |.exit j=>if j=id then(.normal,x.2)else x
  |_=>x
 |.loop live bw a,e,σ=>R.Ra (O (.loop live bw a e σ))
 |.Kb live f params zW body,e,σ =>
  match ie σ (.loop {state:=0,xA:=none,env:=xI live e,params,zW,body })with
  |some (l,i,σ1) =>
   match Fx O (bj e f) [.mH l i] σ1 with
   |some (_,σ2) =>
    match eo σ2 l i with
    |some (.loop lp) =>
     if lp.state=1 then none else
     some (lp.xA.getD .normal,restrict live e,aV σ2 l i (.loop {lp with state:=3 }))
    |_=>none
   |none=>none
  |none=>none
 |.ja live it nx ok b a rest,e,σ=>R.Ra (O (.ja live it nx ok b a rest e σ))
 |.iO live pre op post,e,σ=>(mF O pre e σ).bind fun x=>F2 O live op post x.1 x.2
 |.Rb ..,_,_=>none
 |.exit id,e,σ=>some (.exit id,e,σ)
 |.ret,e,σ=>some (.ret,e,σ)
inductive Dz where
 |t (n:Nat)
 |c (n:Nat) (ag:Bool) (sz:Nat)
 |v (n:Nat) (ag:Bool) (sz:Nat)
structure Fn where
 Nl:Nat
 res:List Dz
 body:cH
def HB(e:Env)(σ:SK):Dz→Option D
 |.t n=>some (get e n).strip
 |.c n ag sz=>(bL e σ (.ld ag sz (.t n))).map (·.1)
 |.v n ag sz=>(bL e σ (.Sh n ag sz n)).map (·.1)
def zA(e:Env)(σ:SK):List Dz→Option (List D)
 |[]=>some []
 |r::rs=>(HB e σ r).bind fun d=>(zA e σ rs).map fun ds=>d::ds
def uk:List D→D
 |[d]=>d
 |ds => .dK ds
def nD(n:Nat):List D→Env
 |[]=>[]
 |d::ds=>(n,d)::nD (n+1) ds
def Al:List Nat→List D→Env→Env
 |t::ts,d::ds,e=>Al ts ds ((t,d)::e)
 |_,_,e=>e
abbrev yN:=Nat→Option Fn
def ad5:List D→Option (List Int)
 |[]=>some []
 |.int .i64 z::r=>(ad5 r).map (z :: ·)
 |_=>none
def agq(x:Int):List Int→List Int
 |[]=>[x]
 |y::l=>if x≤y then x::y::l else y::agq x l
def Qz:List Int→List Int
 |[]=>[]
 |x::l=>agq x (Qz l)
def ad3(l:List Int):List D:=l.map (.int .i64)
def K4(x:Int):List Int→List Int
 |[]=>[]
 |y::l=>if y=x then K4 x l else y::K4 y l
def IG:List Int→List Int
 |[]=>[]
 |x::l=>x::K4 x l
def aev(k:Nat)(zs:List Int):List Int:=if k=1 then Qz zs else IG zs++List.replicate (zs.length-(IG zs).length) 0
def arH(k l i v off:Nat)(zs:List Int):D:=if k=1 then .dK []else .sl l i v off (IG zs).length 1
def avW(k:Nat)(args:List D)(σ:SK):Option R :=
 match args with
 |[.sl l i v off n w] =>
  if n≠0∧w=1∧n≤1000000 then
   match cells? σ l i v with
   |some cs =>
    if off+n≤cs.length then
     match ad5 ((cs.drop off).take n)with
     |some zs=>some (.val (arH k l i v off zs) (aV σ l i (.cells v (cs.take off++ad3 (aev k zs)++cs.drop (off+n)))))
     |none=>none
    else none
   |none=>none
  else none
 |_=>none
def uW:Nat→Nat→List UInt8
 |0,_=>[]
 |k+1,u=>if u<10 then [UInt8.ofNat (48+u)]else uW k (u / 10)++[UInt8.ofNat (48+u%10)]
def BA(n:Int):List UInt8:=if n<0 then 45::uW 20 n.natAbs else uW 20 n.toNat
def Au:List D→Option (List (List UInt8))
 |[]=>some []
 |.str s::r=>(Au r).map (s :: ·)
 |_=>none
def P9(sep:List UInt8):List (List UInt8)→List UInt8
 |[]=>[]
 |x::r=>x++r.flatMap (sep ++ ·)
def de(b:UInt8):List UInt8→List (List UInt8)
 |[]=>[[]]
 |c::r=>if c=b then []::de b r else match de b r with
  |x::l=>(c::x)::l
  |[]=>[[c]]
def sh(s:List UInt8):Nat×Int :=
 match Lib.atoiAll s with
 |.ok v=>(0,v)
 |Lib.NumEnd.syntax=>(1,0)
 |.range=>(2,Lib.atoiSat s)
def zj(a b:Nat)(xs:List (List UInt8)):List (List UInt8):=xs.take a++xs.drop b++List.replicate (b-a) []
def E2(k:Nat)(args:List D)(σ:SK):Option R :=
 match k%16,args with
 |3,[.int .i64 n]=>if -9223372036854775808≤n∧n≤9223372036854775807 then some (.val (.str (BA n)) σ)else none
 |4,[.str s]=>if s.length≤1000000 then some (.val (.dK [.int .i64 (sh s).2,if(sh s).1=0 then .pr else .uj (k / 16) .undef]) σ)else none
 |5,[.aI n cs,.str sep] =>
  match Au cs with
  |some xs=>if n=xs.length∧n≤1000∧(P9 sep xs).length≤1000000 then some (.val (.str (P9 sep xs)) σ)else none
  |none=>none
 |6,[.str s,.str [b]]=>if s.length≤1000000 then some (.val (.aI (de b s).length ((de b s).map .str)) σ)else none
 |7,[.mH l i,.str s] =>
  match cells? σ l i 2 with
  |some [.int .i64 t,.int .i64 e,.str bs] =>
   if t=((k / 16%65536:Nat):Int)∧e=((k / 16 / 65536:Nat):Int)∧bs.length+s.length≤1000000 then
    some (.val (.dK [.int .i64 s.length,.pr]) (aV σ l i (.cells 2 [.int .i64 t,.int .i64 e,.str (bs++s)])))
   else none
  |_=>none
 |8,[.mH l i] =>
  match cells? σ l i 2 with
  |some [.int .i64 t,.int .i64 e,.str bs]=>if t=((k / 16%65536:Nat):Int)∧e=((k / 16 / 65536:Nat):Int)∧bs≠[]then some (.val (.str bs) σ)else none
  |_=>none
 |9,[.sl l i v off n w,.int .i64 a,.int .i64 b] =>
  if n≠0∧w=1∧n≤1000000∧0≤a∧a≤b∧b≤(n:Int)then
   match cells? σ l i v with
   |some cs =>
    if off+n≤cs.length then
     match Au ((cs.drop off).take n)with
     |some xs=>some (.val (.sl l i v off (n-(b.toNat-a.toNat)) 1) (aV σ l i (.cells v (cs.take off++(zj a.toNat b.toNat xs).map .str++cs.drop (off+n)))))
     |none=>none
    else none
   |none=>none
  else none
 |0,_=>none
 |9,_=>none
 |10,_=>none
 |11,_=>none
 |12,_=>none
 |13,_=>none
 |14,_=>none
 |15,_=>none
 |1,args=>avW 1 args σ
 |2,args=>avW 2 args σ
 |_,_=>none
def FI(σ:SK)(l i:Nat):Option (D×Nat×List D×List Nat) :=
 match cells? σ l i 1 with
 |some (m::.int .i64 n::js) =>
  match AU σ m with
  |some (_,_,es)=>if(es.length:Int)=n then some (m,es.length,js,(List.range es.length).filter fun j => !(js.contains (.int .i64 j)))else none
  |none=>none
 |_=>none
def agree:List (Option R)→Option R
 |[]=>none
 |r::rs=>if ∀x∈rs,x=r then r else none
def xq(O:bN)(l i b:Nat)(rest:cH):Option (Exit×Env×SK)→Option R
 |some (.exit j,e1,σ1) =>
  if j=b then(aZ O rest e1 (aV σ1 l i .dead)).map fun x => .CI x.1 x.2.1 x.2.2
  else some (.CI (.exit j) e1 (aV σ1 l i .dead))
 |some (.ret,e1,σ1)=>some (.CI .ret e1 (aV σ1 l i .dead))
 |_=>none
def AE(O:bN)(live:List Nat)(it:bK)(l i nx ok b:Nat)(c rest:cH):Option (Exit×Env×SK)→Option R
 |some (.normal,e1,σ1)=>O (.ja live it nx ok b c rest e1 σ1)
 |y=>xq O l i b rest y
def jL:cH→Option (cH×bK×List bK×cH)
 |.Rb f args q=>some (.dJ,f,args,q)
 |.seq a b=>(jL b).map fun x=>(.seq a x.1,x.2)
 |_=>none
def NN(kp:Bool)(d:D):SK→Option R
 |_::σ=>if kp=false∧d.clean=true then some (.fY d σ)else none
 |[]=>none
def leave(res:List Dz)(σ:SK)(e:Env)(σ1:SK):Option R :=
 match zA e σ1 res with
 |some ds=>(match cr (σ.length-1) deep (uk ds) σ1 with
  |(d,_::σ2)=>some (.val d σ2)
  |_=>none)
 |none=>none
def rm(O:bN)(fv:D)(args:List D)(th:Option D)(σ:SK):Option R :=
 match fv with
 |.fn f first cap=>O (.xU f (first++args++cap) th σ)
 |_=>none
def uX(res:List Dz)(σ:SK)(e:Env):Option R→Option R
 |some (.val _ σ1)=>leave res σ e σ1
 |_=>none
def zk(O:bN)(res:List Dz)(σ:SK)(fv:D)(args:List D):Option (Exit×Env×SK)→Option R
 |some (.fY d,e,σ1)=>uX res σ e (rm O fv args (some d) σ1)
 |some (.normal,e,σ1)=>uX res σ e (rm O fv args none σ1)
 |some (.ret,e,σ1)=>uX res σ e (rm O fv args none σ1)
 |_=>none
def zi(O:bN)(fn:Fn)(σ:SK):Option (cH×bK×List bK×cH)→Env→SK→Option R
 |some (a,f,args,q),e0,σ0 =>
  (match aZ O a e0 σ0 with
  |some (.normal,e,σ1)=>zk O fn.res σ (bj e f) (args.map (bj e)) (aZ O q e σ1)
  |_=>none)
 |none,_,_=>none
def sf(th:Option D)(args:List D):cH→Option (Env×cH)
 |.seq (.cc live [⟨some t,none,_,.My⟩]) q=>(match q with
  |.ja .. => none
  |q=>some (restrict live ((t,th.getD .pr)::nD 0 args),q))
 |_=>none
def dr(T:yN)(O:bN):Q→Option R
 |.call kp f args σ =>
  match T f with
  |some fn =>
   if args.length=fn.Nl then
    match aZ O fn.body (nD 0 args) (if kp then σ else []::σ)with
    |some (.exit _,_,_)=>none
    |some (.fY d,_,σ1)=>NN kp d σ1
    |some (_,e,σ1) =>
     match zA e σ1 fn.res with
     |some ds =>
      if kp then some (.val (uk ds) σ1)else
      match cr (σ.length-1) deep (uk ds) σ1 with
      |(d,_::σ2)=>some (.val d σ2)
      |_=>none
     |none=>none
    |none=>if kp then none else zi O fn σ (jL fn.body) (nD 0 args) ([]::σ)
   else none
  |none =>
   match T (1000000+f)with
   |some fn=>E2 fn.Nl args σ
   |none=>none
 |.loop live bw c e σ =>
  match aZ O c (restrict live e) (if bw then []::σ else σ)with
  |some (x,e1,σ1) =>
   let (e2,σ2):=if bw then(let r:=sY (σ.length-1) (restrict (yY live x e1) e1) σ1;(r.1,r.2.tail))else(e1,σ1)
   match x with
   |.normal=>O (.loop live bw c e2 σ2)
   |x=>some (.CI x e2 σ2)
  |none=>none
 |.round l i args σ =>
  match eo σ l i with
  |some (.loop lp) =>
   if args.length=lp.params.length then
    match aZ O lp.zW (Al lp.params args lp.env) ([]::σ)with
    |some (.normal,e1,σ1) =>
     match eo σ1 l i with
     |some (.loop lp1) =>
      if lp1.state=0 then
       match aZ O lp.body e1 (aV σ1 l i (.loop {lp1 with state:=1 }))with
       |some (x,_,_::σ2) =>
        match eo σ2 l i with
        |some (.loop lp2) =>
         match x with
         |.fY _=>none
         |.normal=>some (.val (.bool true) (aV σ2 l i (.loop {lp2 with state:=0,xA:=none })))
         |x=>some (.val (.bool false) (aV σ2 l i (.loop {lp2 with state:=2,xA:=some x })))
        |_=>none
       |_=>none
      else none
     |_=>none
    |_=>none
   else none
  |_=>none
 |.ja live it nx ok b c rest e σ =>
  match bj (restrict live e) it with
  |.mH l i =>
   match FI σ l i with
   |some (_,_,_,[])=>xq O l i b rest (aZ O c ((ok,.bool false)::(nx,.undef)::restrict live e) σ)
   |some (m,n,js,us)=>agree (us.map fun u=>AE O live it l i nx ok b c rest (aZ O c ((ok,.bool true)::(nx,.undef)::restrict live e) (aV σ l i (.cells 1 (m::.int .i64 (n:Nat)::.int .i64 (u:Nat)::js)))))
   |none=>none
  |_=>none
 |.xU f args th σ =>
  match T f with
  |some fn =>
   if args.length=fn.Nl then
    match sf th args fn.body with
    |some (e0,q) =>
     match aZ O q e0 ([]::σ)with
     |some (.exit _,_,_)=>none
     |some (.fY _,_,_)=>none
     |some (_,e,σ1) =>
      match zA e σ1 fn.res,σ1 with
      |some [],_::σ2=>some (.val (.dK []) σ2)
      |_,_=>none
     |none=>none
    |none=>none
   else none
  |none=>none
def it(T:yN):Nat→bN
 |0=>fun _=>none
 |n+1=>dr T (it T n)
open Classical in
noncomputable def lim(T:yN):bN:=fun q =>
 if h:∃n r,it T n q=some r then some h.choose_spec.choose else none
end Go.Abs
