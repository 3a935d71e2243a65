import GoSem.Core.View
import Derived.Lib.AtoiAll
set_option linter.all false
namespace Go
theorem ad:type_of%@Option.map_eq_some_iff:=@Option.map_eq_some_iff
theorem ae:type_of%@Option.some.injEq:=@Option.some.injEq
theorem af:type_of%@Bool.and_eq_true:=@Bool.and_eq_true
theorem ah:type_of%@Option.bind_eq_some_iff:=@Option.bind_eq_some_iff
theorem aP:type_of%@List.map_cons:=@List.map_cons
theorem ai:type_of%@List.mem_of_getElem?:=@List.mem_of_getElem?
theorem aj:type_of%@List.take_of_length_le:=@List.take_of_length_le
theorem ak:type_of%@Prod.mk.injEq:=@Prod.mk.injEq
theorem bT:type_of%@List.map_nil:=@List.map_nil
theorem au:type_of%@decide_eq_true_eq:=@decide_eq_true_eq
theorem aw:type_of%@Bool.false_eq_true:=@Bool.false_eq_true
theorem aB:type_of%@Option.ite_none_right_eq_some:=@Option.ite_none_right_eq_some
theorem aC:type_of%@List.getElem?_eq_some_iff:=@List.getElem?_eq_some_iff
theorem aA:type_of%@List.drop_eq_nil_of_le:=@List.drop_eq_nil_of_le
theorem aJ:type_of%@Nat.le_refl:=@Nat.le_refl
theorem aL:type_of%@List.length_cons:=@List.length_cons
theorem aI:type_of%@List.getElem?_eq_getElem:=@List.getElem?_eq_getElem
theorem aQ:type_of%@Option.bind_eq_bind:=@Option.bind_eq_bind
theorem aO:type_of%@List.drop_zero:=@List.drop_zero
theorem aS:type_of%@Option.map_some:=@Option.map_some
theorem aK:type_of%@List.length_pos_iff:=@List.length_pos_iff
theorem aX:type_of%@List.nil_append:=@List.nil_append
theorem aZ:type_of%@List.flatMap_cons:=@List.flatMap_cons
theorem aW:type_of%@List.mem_cons:=@List.mem_cons
theorem bu:type_of%@List.mem_append:=@List.mem_append
theorem bA:type_of%@Int.tdiv_eq_ediv_of_nonneg:=@Int.tdiv_eq_ediv_of_nonneg
theorem bE:type_of%@List.length_nil:=@List.length_nil
theorem bK:type_of%@List.mem_map:=@List.mem_map
theorem bx:type_of%@List.length_append:=@List.length_append
theorem bP:type_of%@List.length_eq_zero_iff:=@List.length_eq_zero_iff
theorem bX:type_of%@Bool.or_eq_true:=@Bool.or_eq_true
theorem ch:type_of%@Array.getD_eq_getD_getElem?:=@Array.getD_eq_getD_getElem?
theorem cb:type_of%@List.getElem?_cons_zero:=@List.getElem?_cons_zero
theorem cQ:type_of%@Nat.zero_add:=@Nat.zero_add
theorem bY:type_of%@List.mem_filter:=@List.mem_filter
theorem eB:type_of%@List.length_map:=@List.length_map
theorem cM:type_of%@List.drop_length_add_append:=@List.drop_length_add_append
theorem cT:type_of%@Array.getElem?_eq_some_iff:=@Array.getElem?_eq_some_iff
theorem dX:type_of%@Nat.mul_one:=@Nat.mul_one
theorem di:type_of%@Nat.mul_le_mul_right:=@Nat.mul_le_mul_right
theorem dh:type_of%@List.mem_of_mem_take:=@List.mem_of_mem_take
theorem dr:type_of%@Nat.add_assoc:=@Nat.add_assoc
theorem dJ:type_of%@List.flatMap_nil:=@List.flatMap_nil
theorem dt:type_of%@Option.isSome_iff_exists:=@Option.isSome_iff_exists
theorem eS:type_of%@List.ext_getElem?:=@List.ext_getElem?
theorem dR:type_of%@Bool.not_eq_true':=@Bool.not_eq_true'
theorem eh:type_of%@List.getElem?_take:=@List.getElem?_take
theorem dF:type_of%@List.append_nil:=@List.append_nil
theorem dW:type_of%@List.mem_of_mem_drop:=@List.mem_of_mem_drop
theorem eT:type_of%@Nat.succ_mul:=@Nat.succ_mul
theorem fT:type_of%@Int.toNat_of_nonneg:=@Int.toNat_of_nonneg
theorem dI:type_of%@Int.mul_nonneg:=@Int.mul_nonneg
theorem eP:type_of%@List.singleton_append:=@List.singleton_append
theorem eO:type_of%@List.getElem?_eq_none:=@List.getElem?_eq_none
theorem gP:type_of%@Option.getD_some:=@Option.getD_some
theorem fF:type_of%@List.cons_append:=@List.cons_append
theorem gM:type_of%@Array.toList_inj:=@Array.toList_inj
theorem jE:type_of%@Nat.le_trans:=@Nat.le_trans
theorem eg:type_of%@List.getElem?_drop:=@List.getElem?_drop
theorem iQ:type_of%@Nat.add_mul:=@Nat.add_mul
theorem gO:type_of%@List.getElem?_of_mem:=@List.getElem?_of_mem
theorem fE:type_of%@Int.mul_le_mul_of_nonneg_right:=@Int.mul_le_mul_of_nonneg_right
theorem iI:type_of%@List.flatMap_append:=@List.flatMap_append
theorem jD:type_of%@List.all_cons:=@List.all_cons
theorem jb:type_of%@List.length_filter_le:=@List.length_filter_le
theorem ja:type_of%@List.getElem?_toArray:=@List.getElem?_toArray
theorem kz:type_of%@List.cons.injEq:=@List.cons.injEq
theorem eN:type_of%@Array.getElem?_modify:=@Array.getElem?_modify
theorem pJ:type_of%@List.getElem?_map:=@List.getElem?_map
theorem j5:type_of%@List.append_assoc:=@List.append_assoc
theorem mI:type_of%@List.getElem?_mapIdx:=@List.getElem?_mapIdx
theorem mw:type_of%@List.getElem?_append_left:=@List.getElem?_append_left
theorem lG:type_of%@List.drop_drop:=@List.drop_drop
theorem ic:type_of%@Int.mul_le_mul:=@Int.mul_le_mul
theorem lA:type_of%@List.length_take:=@List.length_take
theorem lu:type_of%@List.all_eq_true:=@List.all_eq_true
theorem mH:type_of%@Int.le_total:=@Int.le_total
theorem gE{α:Type}{l:List α}{i:Nat}(h:i<l.length):∃x,l[i]?=some x:=⟨_,aI h⟩
end Go
namespace Go.Abs
inductive D where
 |undef
 |bool (b:Bool)
 |int (k:IntKind) (n:Int)
 |str (s:List UInt8)
 |agg (cs:List D)
 |dG (cs:List D)
 |xc
 |ref (l i v off:Nat)
 |bF (cs:List D)
 |aF
 |aH (n:Nat) (cs:List D)
 |sl (l i v off n w:Nat)
 |fn (f:Nat) (first cap:List D)
 |iP
 |mq (l i:Nat)
 |own (s:Nat) (cs:List D)
 |vr (x s off:Nat)
 |tW (t:Nat) (d:D)
 |o6
 |emp
 deriving Inhabited
mutual
def D.same:D→D→Bool
 |.undef,.undef=>true
 |.bool a,.bool b=>a == b
 |.int k n,.int k' n'=>k == k' && n == n'
 |.str a,.str b=>a == b
 |.agg a,.agg b=>D.xW a b
 |.dG a,.dG b=>D.xW a b
 |.xc,.xc=>true
 |.ref a b c d,.ref a' b' c' d'=>a == a' && b == b' && c == c' && d == d'
 |.bF a,.bF b=>D.xW a b
 |.aF,.aF=>true
 |.aH n a,.aH m b=>n == m && D.xW a b
 |.sl a b c d e f,.sl a' b' c' d' e' f'=>a == a' && b == b' && c == c' && d == d' && e == e' && f == f'
 |.fn f a b,.fn f' a' b'=>f == f' && D.xW a a' && D.xW b b'
 |.iP,.iP=>true
 |.mq a b,.mq a' b'=>a == a' && b == b'
 |.own s a,.own s' b=>s == s' && D.xW a b
 |.vr a b c,.vr a' b' c'=>a == a' && b == b' && c == c'
 |.tW t a,.tW t' b=>t == t' && D.same a b
 |.o6,.o6=>true
 |.emp,.emp=>true
 |_,_=>false
def D.xW:List D→List D→Bool
 |[],[]=>true
 |a::as,b::bs=>D.same a b && D.xW as bs
 |_,_=>false
end
mutual
theorem JR:∀{a b:D},D.same a b=true→a=b
 |.undef,b,h=>by cases b<;>simp[D.same]at h;rfl
 |.bool _,b,h=>by cases b<;>simp[D.same]at h;rw[h]
 |.int _ _,b,h=>by cases b<;>simp[D.same]at h;rw[h.1,h.2]
 |.str _,b,h=>by cases b<;>simp[D.same]at h;rw[h]
 |.agg _,b,h=>by cases b<;>simp[D.same]at h;rw[vD h]
 |.dG _,b,h=>by cases b<;>simp[D.same]at h;rw[vD h]
 |.xc,b,h=>by cases b<;>simp[D.same]at h;rfl
 |.ref ..,b,h=>by cases b<;>simp[D.same]at h;simp[h]
 |.bF _,b,h=>by cases b<;>simp[D.same]at h;rw[vD h]
 |.aF,b,h=>by cases b<;>simp[D.same]at h;rfl
 |.aH ..,b,h=>by cases b<;>simp[D.same]at h;rw[h.1,vD h.2]
 |.sl ..,b,h=>by cases b<;>simp[D.same]at h;simp[h]
 |.fn ..,b,h=>by cases b<;>simp[D.same]at h;rw[h.1.1,vD h.1.2,vD h.2]
 |.iP,b,h=>by cases b<;>simp[D.same]at h;rfl
 |.mq ..,b,h=>by cases b<;>simp[D.same]at h;simp[h]
 |.own ..,b,h=>by cases b<;>simp[D.same]at h;rw[h.1,vD h.2]
 |.vr ..,b,h=>by cases b<;>simp[D.same]at h;simp[h]
 |.tW _ a,b,h=>by cases b<;>simp[D.same]at h;rw[h.1,JR h.2]
 |.o6,b,h=>by cases b<;>simp[D.same]at h;rfl
 |.emp,b,h=>by cases b<;>simp[D.same]at h;rfl
theorem vD:∀{a b:List D},D.xW a b=true→a=b
 |[],[],_=>rfl
 |[],_::_,h=>by simp[D.xW]at h
 |_::_,[],h=>by simp[D.xW]at h
 |a::as,b::bs,h=>by
  simp only[D.xW,af]at h;rw[JR h.1,vD h.2]
end
mutual
theorem E1:∀(a:D),D.same a a=true
 |.undef=>rfl
 |.bool b=>by simp[D.same]
 |.int k n=>by simp[D.same]
 |.str s=>by simp[D.same]
 |.agg a=>by simp[D.same,rj a]
 |.dG a=>by simp[D.same,rj a]
 |.xc=>rfl
 |.ref .. => by simp[D.same]
 |.bF a=>by simp[D.same,rj a]
 |.aF=>rfl
 |.aH n a=>by simp[D.same,rj a]
 |.sl .. => by simp[D.same]
 |.fn f a b=>by simp[D.same,rj a,rj b]
 |.iP=>rfl
 |.mq .. => by simp[D.same]
 |.own s a=>by simp[D.same,rj a]
 |.vr .. => by simp[D.same]
 |.tW t a=>by simp[D.same,E1 a]
 |.o6=>rfl
 |.emp=>rfl
theorem rj:∀(a:List D),D.xW a a=true
 |[]=>rfl
 |a::as=>by simp[D.xW,E1 a,rj as]
end
instance:DecidableEq D:=fun a b=>if h:D.same a b=true then isTrue (JR h)else isFalse fun e=>h (e ▸ E1 a)
inductive bL where
 |t (n:Nat)
 |c (d:D)
 deriving Inhabited,DecidableEq
inductive Pu where
 |zc
 |Co
 |RA
 |H0 (lo hi:Bool)
 |seq (neg:Bool)
 deriving Inhabited,DecidableEq
def sF:Pu→List D→Option D
 |.zc,[.str s]=>some (.int .i64 s.length)
 |.Co,[.str s,.int _ i]=>if 0≤i then(s[i.toNat]?).map fun b => .int .u8 b.toNat else none
 |.RA,[.str a,.str b]=>if a.length+b.length≤4611686018427387904 then some (.str (a++b))else none
 |.H0 true true,[.str s,.int _ i,.int _ j]=>if 0≤i∧i≤j∧j≤s.length then some (.str ((s.drop i.toNat).take (j.toNat-i.toNat)))else none
 |.H0 true false,[.str s,.int _ i]=>if 0≤i∧i≤s.length then some (.str (s.drop i.toNat))else none
 |.H0 false true,[.str s,.int _ j]=>if 0≤j∧j≤s.length then some (.str (s.take j.toNat))else none
 |.H0 false false,[.str s]=>some (.str s)
 |.seq neg,[.str a,.str b]=>some (.bool (if neg then !(a == b)else a == b))
 |_,_=>none
abbrev Ky:=Option (Bool×List (Option IntKind))
inductive Mo where
 |make
 |lq (t e:Nat)
 |get (ky:Ky) (zero:D) (ok:Bool)
 |put (ky:Ky)
 |len
 |rng
 |ent
 deriving Inhabited,DecidableEq
inductive Me where
 |b2s
 |s2b
 |s2a (n w:Nat)
 |peq (neg:Bool)
 deriving Inhabited,DecidableEq
inductive K where
 |mv (x:bL)
 |pq (w:Nat)
 |pick (c a b:bL)
 |HM (nb:List (Nat×Nat)) (cs:List D)
 |dY (nb:List (Nat×Nat)) (cs:List D)
 |HN (x:bL)
 |HO (x:bL)
 |bxn (nb:List (Nat×Nat)) (x:bL)
 |Ey (x:bL)
 |lq (zero:List D) (parts:List (Nat×Nat×bL))
 |ur (n w:Nat) (zero:List D) (parts:List (Nat×Nat×bL))
 |Kw (n w:Nat) (zero:List D) (parts:List (Nat×Nat×bL))
 |ld (ag:Bool) (sz:Nat) (a:bL)
 |RS (ag:Bool) (sz:Nat) (a:bL)
 |RR (ag:Bool) (sz:Nat) (a:bL)
 |RQ (ps neg:Bool) (x:bL)
 |mo (x:bL)
 |st (nb:List (Nat×Nat)) (sz:Nat) (a x:bL)
 |RG (os:List Nat) (sz:Nat) (a x:bL)
 |RT (v:Nat) (ag:Bool) (sz:Nat) (a:Nat)
 |FV (v:Nat) (nb:List (Nat×Nat)) (sz:Nat) (a:Nat) (x:bL)
 |bin (o:BinOp) (x y:bL)
 |eqv (ag:Bool) (ks:List (Option IntKind)) (neg:Bool) (x y:bL)
 |un (o:UnOp) (x:bL)
 |KF (k:IntKind) (x:bL)
 |xT (f:Nat) (first cap:List bL)
 |mks (w bytes:Nat) (zero:List D) (l c:bL)
 |JV (w:Nat) (x:bL) (lo hi mx:Option bL)
 |M5 (len w:Nat) (x:bL) (lo hi:Option bL)
 |HQ (off:Nat) (x:bL)
 |fld (ag:Bool) (off sz:Nat) (x:bL)
 |Bc (len w:Nat) (x i:bL)
 |dP (w:Nat) (x i:bL)
 |Jt (ag:Bool) (len w:Nat) (x i:bL)
 |HU (x:bL)
 |MM (n:Nat)
 |mn (x y:bL)
 |mx (x y:bL)
 |app (w bytes:Nat) (s x:bL)
 |QC (os:List Nat) (w bytes:Nat) (s x:bL)
 |apz (w bytes:Nat) (s x:bL)
 |cpi (w bytes:Nat) (x:bL)
 |cvz (x:bL)
 |bse
 |ape (w bytes v:Nat) (x:bL)
 |ext (x:bL) (i:Nat)
 |ri (o:Pu) (xs:List bL)
 |mp (o:Mo) (xs:List bL)
 |me (o:Me) (xs:List bL)
 |mki (t:Nat) (x:bL)
 |tas (t:Nat) (zero:Option D) (x:bL)
 |isi (neg:Bool) (x:bL)
 |LW (x:bL)
 |LX
 |call (kp:Bool) (f:bL) (args:List bL)
 deriving Inhabited,DecidableEq
structure Op where
 dst:Option Nat
 C8:Option (Nat×Bool)
 Am:Bool
 k:K
 deriving Inhabited,DecidableEq
inductive cH where
 |dQ
 |cz (vs:List Nat)
 |cg (live:List Nat) (ops:List Op)
 |seq (a b:cH)
 |ite (c:bL) (a b:cH)
 |bO (id:Nat) (a:cH)
 |loop (live:List Nat) (bw:Bool) (a:cH)
 |JO (live:List Nat) (f:bL) (params:List Nat) (zu body:cH)
 |iS (live:List Nat) (it:bL) (nx ok b:Nat) (a rest:cH)
 |iG (live:List Nat) (pre:List Op) (op:Op) (post:List Op)
 |QN (f:bL) (args:List bL) (rest:cH)
 |exit (id:Nat)
 |ret
 deriving Inhabited,DecidableEq
inductive Exit where
 |normal
 |exit (id:Nat)
 |ret
 |fQ (d:D)
 deriving Inhabited,DecidableEq
abbrev Env:=List (Nat×D)
def get:Env→Nat→D
 |[],_ => .undef
 |(k,v)::r,t=>if k=t then v else get r t
def put(d:Option Nat)(v:D)(e:Env):Env :=
 match d with
 |some t=>(t,v)::e
 |none=>e
def D.calm:D→D
 |.vr .. => .undef
 |.emp => .undef
 |.own _ cs => .own 0 cs
 |d=>d
def D.strip:D→D
 |.vr .. => .undef
 |.emp => .undef
 |.own .. => .undef
 |d=>d
def restrict(live:List Nat)(e:Env):Env:=live.map fun t=>(t,(get e t).calm)
def keys(e:Env):List Nat:=(e.map (·.1)).eraseDups
def xm(live:List Nat)(e:Env):Env:=live.map fun t=>(t,(get e t).strip)
def yA(live:List Nat)(x:Exit)(e:Env):List Nat :=
 match x with
 |.normal=>live
 |_=>keys e
structure wE where
 state:Nat
 xf:Option Exit
 env:Env
 params:List Nat
 zu:cH
 body:cH
 deriving DecidableEq
inductive aE where
 |cells (v:Nat) (cs:List D)
 |dead
 |loop (l:wE)
 deriving DecidableEq
abbrev SK:=List (List aE)
def gh:SK→Nat→Option (List aE)
 |[],_=>none
 |s::σ,l=>if σ.length=l then some s else gh σ l
def iF:SK→Nat→List aE→SK
 |[],_,_=>[]
 |s::σ,l,s'=>if σ.length=l then s'::σ else s::iF σ l s'
def ei(σ:SK)(l i:Nat):Option aE:=(gh σ l).bind (·[i]?)
def aV(σ:SK)(l i:Nat)(b:aE):SK :=
 match gh σ l with
 |some s=>iF σ l (s.set i b)
 |none=>σ
def cells?(σ:SK)(l i v:Nat):Option (List D) :=
 match ei σ l i with
 |some (.cells v' cs)=>if v'=v then some cs else none
 |_=>none
def hJ(σ:SK)(b:aE):Option (Nat×Nat×SK) :=
 match σ with
 |[]=>none
 |s::σ'=>some (σ'.length,s.length,(s++[b])::σ')
mutual
def D.clean:D→Bool
 |.ref .. => false
 |.sl .. => false
 |.mq .. => false
 |.vr .. => true
 |.emp=>true
 |.own _ cs=>D.bz cs
 |.agg cs=>D.bz cs
 |.dG cs=>D.bz cs
 |.bF cs=>D.bz cs
 |.aH _ cs=>D.bz cs
 |.fn _ a b=>D.bz a && D.bz b
 |.undef=>true
 |.bool _=>true
 |.int _ _=>true
 |.str _=>true
 |.xc=>true
 |.aF=>true
 |.iP=>true
 |.tW _ d=>D.clean d
 |.o6=>true
def D.bz:List D→Bool
 |[]=>true
 |d::ds=>D.clean d && D.bz ds
end
def cz(l:Nat):Nat→D→SK→D×SK
 |0,_,σ=>(.undef,σ)
 |n+1,d,σ =>
  if d.clean then(d,σ)else
  match d with
  |.agg cs=>let r:=frzL (cz l n) cs σ;(.agg r.1,r.2)
  |.dG cs=>let r:=frzL (cz l n) cs σ;(.dG r.1,r.2)
  |.bF cs=>let r:=frzL (cz l n) cs σ;(.bF r.1,r.2)
  |.aH m cs=>let r:=frzL (cz l n) cs σ;(.aH m r.1,r.2)
  |.own s cs=>let r:=frzL (cz l n) cs σ;(.own s r.1,r.2)
  |.fn f a b=>let r:=frzL (cz l n) a σ;let r':=frzL (cz l n) b r.2;(.fn f r.1 r'.1,r'.2)
  |.ref l' i v off=>if l'≤l then(.ref l' i v off,σ)else(.undef,σ)
  |.mq l' i=>if l'≤l then(.mq l' i,σ)else(.undef,σ)
  |.sl l' i v off m w =>
   if l'≤l then(.sl l' i v off m w,σ)else
   match cells? σ l' i v with
   |some cs=>let r:=frzL (cz l n) ((cs.drop off).take (m*w)) (aV σ l' i .dead);(.aH m r.1,r.2)
   |none=>(.undef,σ)
  |_=>(.undef,σ)
where
 frzL (f:D→SK→D×SK):List D→SK→List D×SK
  |[],σ=>([],σ)
  |d::ds,σ=>let r:=f d σ;let r':=frzL f ds r.2;(r.1::r'.1,r'.2)
def deep:Nat:=16
def sO(l:Nat):Env→SK→Env×SK
 |[],σ=>([],σ)
 |(t,d)::e,σ=>let r:=cz l deep d σ;let r':=sO l e r.2;((t,r.1)::r'.1,r'.2)
inductive Q where
 |call (kp:Bool) (f:Nat) (args:List D) (σ:SK)
 |loop (live:List Nat) (bw:Bool) (c:cH) (env:Env) (σ:SK)
 |round (l i:Nat) (args:List D) (σ:SK)
 |iS (live:List Nat) (it:bL) (nx ok b:Nat) (c rest:cH) (env:Env) (σ:SK)
 |xE (f:Nat) (args:List D) (th:Option D) (σ:SK)
inductive R where
 |val (d:D) (σ:SK)
 |Cv (e:Exit) (env:Env) (σ:SK)
 |fQ (d:D) (σ:SK)
 deriving DecidableEq
abbrev bN:=Q→Option R
def bf(e:Env):bL→D
 |.t n=>(get e n).strip
 |.c d=>d
def D.cells:D→Option (List D)
 |.agg cs=>some cs
 |.undef=>none
 |.dG _=>none
 |.own .. => none
 |.vr .. => none
 |.emp=>none
 |d=>some [d]
def D.row(ag:Bool)(d:D):Option (List D) :=
 match ag,d with
 |true,.agg cs=>some cs
 |true,_=>none
 |false,.agg _=>none
 |false,d=>d.cells
def rL(e:Env):List (Nat×Nat×bL)→List D→Option (List D)
 |[],cs=>some cs
 |(off,sz,x)::r,cs =>
  match(bf e x).cells with
  |some p=>if p.length=sz∧off+sz≤cs.length then rL e r (cs.take off++p++cs.drop (off+sz))else none
  |none=>none
def zK:List (Option IntKind)→List D→List D→Option Bool
 |[],[],[]=>some true
 |some k::ks,.int k1 a::x,.int k2 b::y=>if k1=k∧k2=k then(zK ks x y).map (a == b && ·)else none
 |none::ks,.bool a::x,.bool b::y=>(zK ks x y).map (a == b && ·)
 |_,_,_=>none
def vl(o:BinOp):D→D→Option D
 |.int k a,.int k' b =>
  match o with
  |.shl=>if b<0 then none else some (.int k (k.wrap (a*2^(min b.toNat k.bits))))
  |.shr=>if b<0 then none else some (.int k (a.fdiv (2^(min b.toNat k.bits))))
  |.add=>if k=k' then some (.int k (k.wrap (a+b)))else none
  |.sub=>if k=k' then some (.int k (k.wrap (a-b)))else none
  |.mul=>if k=k' then some (.int k (k.wrap (a*b)))else none
  |.quo=>if k=k'∧b≠0 then some (.int k (k.wrap (a.tdiv b)))else none
  |.rem=>if k=k'∧b≠0 then some (.int k (a.tmod b))else none
  |.and=>if k=k' then some (.int k (k.wrap ((BitVec.ofInt k.bits a &&& BitVec.ofInt k.bits b).toNat:Int)))else none
  |.or=>if k=k' then some (.int k (k.wrap ((BitVec.ofInt k.bits a ||| BitVec.ofInt k.bits b).toNat:Int)))else none
  |.xor=>if k=k' then some (.int k (k.wrap ((BitVec.ofInt k.bits a ^^^ BitVec.ofInt k.bits b).toNat:Int)))else none
  |.andNot=>none
  |.eql=>if k=k' then some (.bool (a == b))else none
  |.neq=>if k=k' then some (.bool (a != b))else none
  |.lss=>if k=k' then some (.bool (decide (a<b)))else none
  |.leq=>if k=k' then some (.bool (decide (a≤b)))else none
  |.gtr=>if k=k' then some (.bool (decide (a>b)))else none
  |.geq=>if k=k' then some (.bool (decide (a≥b)))else none
 |_,_=>none
def DT:D→Option Int
 |.int _ n=>some n
 |_=>none
def BC(e:Env)(m:Nat)(dfl:Option Nat):Option bL→Option Nat
 |some x=>match DT (bf e x)with
  |some n=>if 0≤n∧n≤m then some n.toNat else none
  |none=>none
 |none=>dfl
def bounds(len:Nat)(e:Env)(lo hi mx:Option bL):Option (Nat×Nat) :=
 (BC e len (some len) mx).bind fun m=>(BC e m (if mx.isSome then none else some len) hi).bind fun h=>(BC e h (some 0) lo).map fun l=>(l,h)
def sS(ky:Ky)(a b:D):Option Bool :=
 match ky with
 |none=>match a,b with
  |.str x,.str y=>some (x == y)
  |_,_=>none
 |some (ag,ks)=>match a.row ag,b.row ag with
  |some p,some q=>zK ks p q
  |_,_=>none
def qT(ky:Ky)(k:D):List D→Option (Option (Nat×D))
 |[]=>some none
 |.dG [k',v]::es =>
  match sS ky k k' with
  |some true=>some (some (0,v))
  |some false=>(qT ky k es).map fun x=>x.map fun y=>(y.1+1,y.2)
  |none=>none
 |_=>none
def AD(σ:SK):D→Option (Nat×Nat×List D)
 |.mq l i=>(cells? σ l i 0).map fun es=>(l,i,es)
 |_=>none
def AE(σ:SK):Mo→List D→Option (D×SK)
 |.make,[]=>(hJ σ (.cells 0 [])).map fun x=>(.mq x.1 x.2.1,x.2.2)
 |.lq t e,[]=>(hJ σ (.cells 2 [.int .i64 (t:Nat),.int .i64 (e:Nat),.str []])).map fun x=>(.mq x.1 x.2.1,x.2.2)
 |.get ky zero ok,[m,k] =>
  match AD σ m with
  |some (_,_,es) =>
   if(sS ky k k).isSome then
    match qT ky k es with
    |some (some (_,v))=>some (if ok then .dG [v,.bool true]else v,σ)
    |some none=>some (if ok then .dG [zero,.bool false]else zero,σ)
    |none=>none
   else none
  |none=>none
 |.put ky,[m,k,v] =>
  match AD σ m with
  |some (l,i,es) =>
   if(sS ky k k).isSome∧(l+1=σ.length∨(k.clean∧v.clean))then
    match qT ky k es with
    |some (some (j,_))=>some (.undef,aV σ l i (.cells 0 (es.set j (.dG [k,v]))))
    |some none=>some (.undef,aV σ l i (.cells 0 (es++[.dG [k,v]])))
    |none=>none
   else none
  |none=>none
 |.len,[m]=>(AD σ m).map fun x=>(.int .i64 x.2.2.length,σ)
 |.rng,[m] =>
  match AD σ m with
  |some (lm,im,es)=>(hJ σ (.cells 1 [.mq lm im,.int .i64 es.length])).map fun x=>(.mq x.1 x.2.1,x.2.2)
  |none=>none
 |.ent,[.mq l i] =>
  match cells? σ l i 1 with
  |some (m::.int .i64 n::.int .i64 j::_) =>
   match AD σ m with
   |some (_,_,es)=>if(es.length:Int)=n then
     match es[j.toNat]? with
     |some (.dG [k,v])=>some (.dG [k,v],σ)
     |_=>none
    else none
   |none=>none
  |_=>none
 |_,_=>none
def strCells(s:List UInt8):List D:=s.map fun b => .int .u8 b.toNat
def elems(σ:SK)(w:Nat):D→Option (Nat×List D)
 |.aF=>some (0,[])
 |.str s=>if w=1 then some (s.length,strCells s)else none
 |.aH n cs=>if cs.length=n*w then some (n,cs)else none
 |.sl l i v off n w' =>
  if w'=w then
   match cells? σ l i v with
   |some cs=>if off+n*w≤cs.length then some (n,(cs.drop off).take (n*w))else none
   |none=>none
  else none
 |_=>none
def C3:List D→Option (List UInt8)
 |[]=>some []
 |.int .u8 n::r=>(C3 r).map (UInt8.ofNat n.toNat :: ·)
 |_=>none
def meD(σ:SK):Me→List D→Option (D×SK)
 |.b2s,[.str _]=>none
 |.b2s,[x]=>(elems σ 1 x).bind fun r=>(C3 r.2).map fun s=>(.str s,σ)
 |.s2b,[.str s]=>some (.aH s.length (strCells s),σ)
 |.s2a n w,[.aH m cs]=>if 0<n∧n≤m then some (.bF (cs.take (n*w)),σ)else none
 |.peq neg,[.ref l i v o,.ref l' i' v' o']=>if l=l'∧i=i'∧o=o'∧v=v'∧(cells? σ l i v).isSome then some (.bool (!neg),σ)else none
 |_,_=>none
def room:Nat:=2^46
def kP:List (Nat×Nat)→List D→SK→Option (List D×SK)
 |[],cs,σ=>some (cs,σ)
 |(p,w)::r,cs,σ =>
  match cs[p]? with
  |some .aF=>do
   let (l,i,σ')←hJ σ (.cells 0 [])
   kP r (cs.set p (.sl l i 0 0 0 w)) σ'
  |_=>kP r cs σ
def rM(e:Env)(v a:Nat):Option (Nat×List D×Nat) :=
 match get e v with
 |.own s cs =>
  if a=v then some (s,cs,0)else
  match get e a with
  |.vr x s' off=>if x=v∧s'=s then some (s,cs,off)else none
  |_=>none
 |_=>none
def ue(e:Env)(v:Nat):Nat :=
 match get e v with
 |.own s _=>s+1
 |_=>0
def EV(σ:SK):D→Option (List D)
 |.bF cs=>some cs
 |.ref l i v off=>(cells? σ l i v).map (·.drop off)
 |_=>none
def RV(σ:SK):D→Option (List D)
 |.ref l i 0 off=>EV σ (.ref l i 0 off)
 |_=>none
def HT(ps:Bool)(d:D):Option Bool :=
 match ps,d with
 |true,.xc=>some true
 |true,.bF _=>some false
 |true,.ref .. => some false
 |false,.aF=>some true
 |false,.aH n _=>if n=0 then none else some false
 |false,.sl _ _ _ _ n _=>if n=0 then none else some false
 |_,_=>none
def Ni(t:Nat)(z:Option D):D→Option D
 |.tW t' d=>match z with
  |some z=>some (if t'=t then .dG [d,.bool true]else .dG [z,.bool false])
  |none=>if t'=t then some d else none
 |.o6=>z.map fun z => .dG [z,.bool false]
 |_=>none
def adC:D→Option Bool
 |.o6=>some true
 |.tW .. => some false
 |_=>none
def D.off(l i:Nat):D→Bool
 |.ref l' i' _ _=>decide (¬(l'=l∧i'=i))
 |_=>true
def Je(e:Env)(σ:SK)(w bytes:Nat)(s x:bL):Option (D×SK):=do
  let (m,xs)←elems σ w (bf e x)
  match bf e s with
  |.aF =>
   if m*bytes≤room then
    if m=0 then some (.aH 0 [],σ)else do
    let (l,i,σ')←hJ σ (.cells 0 xs)
    some (.sl l i 0 0 m w,σ')
   else none
  |.sl l i v off n w' =>
   match cells? σ l i v with
   |some cs =>
    if w'=w∧off+n*w≤cs.length∧(n+m)*bytes≤room then
     if l+1=σ.length then
      some (.sl l i (v+1) 0 (n+m) w,aV σ l i (.cells (v+1) ((cs.drop off).take (n*w)++xs)))
     else
      let r:=cz.frzL (cz l deep) xs σ
      some (.sl l i (v+1) 0 (n+m) w,aV r.2 l i (.cells (v+1) ((cs.drop off).take (n*w)++r.1)))
    else none
   |none=>none
  |_=>none
def bM(e:Env)(σ:SK):K→Option (D×SK)
 |.mv x=>some (bf e x,σ)
 |.pq w=>do
  let (l,i,σ')←hJ σ (.cells 0 [])
  some (.sl l i 0 0 0 w,σ')
 |.pick c a b =>
  match bf e c with
  |.bool t=>some (if t then bf e a else bf e b,σ)
  |_=>none
 |.HM nb cs=>do
  let (cs',σ1)←kP nb cs σ
  let (l,i,σ')←hJ σ1 (.cells 0 cs')
  some (.ref l i 0 0,σ')
 |.HN x=>(bf e x).cells.map fun cs=>(.bF cs,σ)
 |.HO x=>do
  let cs←(bf e x).cells
  let (l,i,σ')←hJ σ (.cells 0 cs)
  some (.ref l i 0 0,σ')
 |.bxn nb x=>do
  let cs←(bf e x).cells
  let (cs',σ1)←kP nb cs σ
  let (l,i,σ')←hJ σ1 (.cells 0 cs')
  some (.ref l i 0 0,σ')
 |.dY .. => none
 |.Ey _=>none
 |.FV .. => none
 |.RT v ag sz a =>
  match rM e v a with
  |some (_,cs,off) =>
   let cs:=cs.drop off
   if sz≤cs.length then
    if ag then some (.agg (cs.take sz),σ)else
    match cs with
    |d::_=>some (d,σ)
    |[]=>none
   else none
  |none=>none
 |.lq zero parts=>do
  let cs←rL e parts zero
  some (.agg cs,σ)
 |.ur n _ zero parts=>do
  let cs←rL e parts zero
  some (.aH n cs,σ)
 |.Kw n w zero parts=>do
  let cs←rL e parts zero
  let (l,i,σ')←hJ σ (.cells 0 cs)
  some (.sl l i 0 0 n w,σ')
 |.ld ag sz a =>
  match EV σ (bf e a)with
  |some cs =>
   if sz≤cs.length then
    if ag then some (.agg (cs.take sz),σ)else
    match cs with
    |d::_=>some (d,σ)
    |[]=>none
   else none
  |none=>none
 |.RR ag sz a =>
  match RV σ (bf e a)with
  |some cs =>
   if sz≤cs.length then
    if ag then some (.agg (cs.take sz),σ)else
    match cs with
    |d::_=>some (d,σ)
    |[]=>none
   else none
  |none=>none
 |.RS ag sz a =>
  match bf e a with
  |.bF cs =>
   if sz≤cs.length then
    if ag then some (.agg (cs.take sz),σ)else
    match cs with
    |d::_=>some (d,σ)
    |[]=>none
   else none
  |_=>none
 |.RQ ps neg x=>(HT ps (bf e x)).map fun b=>(.bool (if neg then !b else b),σ)
 |.mo x =>
  match bf e x with
  |.bF cs=>some (.bF cs,σ)
  |.ref l i v off=>some (.ref l i v off,σ)
  |_=>none
 |.st nb sz a x =>
  match bf e a with
  |.ref l i v off =>
   match cells? σ l i v with
   |some cs =>
    match(bf e x).cells with
    |some p =>
     if p.length=sz∧off+sz≤cs.length then
      if l+1=σ.length then
       match kP nb p σ with
       |some (p',σ1)=>some (.undef,aV σ1 l i (.cells v (cs.take off++p'++cs.drop (off+sz))))
       |none=>none
      else
       let r:=cz.frzL (cz l deep) p σ
       some (.undef,aV r.2 l i (.cells v (cs.take off++r.1++cs.drop (off+sz))))
     else none
    |none=>none
   |none=>none
  |_=>none
 |.RG os sz a x =>
  match bf e a with
  |.ref l i v off =>
   if(os.all fun t=>D.off l i (get e t))=true then
    match cells? σ l i v with
    |some cs =>
     match(bf e x).cells with
     |some p =>
      if p.length=sz∧off+sz≤cs.length∧(D.bz p=true∨l+1=σ.length)then some (.undef,aV σ l i (.cells v (cs.take off++p++cs.drop (off+sz))))else none
     |none=>none
    |none=>none
   else none
  |_=>none
 |.bin o x y=>(vl o (bf e x) (bf e y)).map (·,σ)
 |.eqv ag ks neg x y =>
  match(bf e x).row ag,(bf e y).row ag with
  |some p,some q=>(zK ks p q).map fun b=>(.bool (if neg then !b else b),σ)
  |_,_=>none
 |.un o x =>
  match o,bf e x with
  |.not,.bool b=>some (.bool !b,σ)
  |.neg,.int k n=>some (.int k (k.wrap (0-n)),σ)
  |.xor,.int k n=>some (.int k (k.wrap ((BitVec.ofInt k.bits (if k.signed then -1 else k.max) ^^^ BitVec.ofInt k.bits n).toNat:Int)),σ)
  |_,_=>none
 |.KF k x =>
  match bf e x with
  |.int _ n=>some (.int k (k.wrap n),σ)
  |_=>none
 |.xT f first cap=>some (.fn f (first.map (bf e)) (cap.map (bf e)),σ)
 |.mks w bytes zero l c =>
  match bf e l,bf e c with
  |.int .i64 n,.int .i64 m =>
   if 0≤n∧n=m∧n*bytes≤(room:Int)∧zero.length=w then do
    let (l,i,σ')←hJ σ (.cells 0 ((List.range n.toNat).flatMap fun _=>zero))
    some (.sl l i 0 0 n.toNat w,σ')
   else none
  |_,_=>none
 |.JV w x lo hi mx =>
  match bf e x with
  |.aH n cs=>(bounds n e lo hi mx).map fun b=>(.aH (b.2-b.1) ((cs.drop (b.1*w)).take ((b.2-b.1)*w)),σ)
  |.sl l i v off n w'=>if w'=w then(bounds n e lo hi mx).map fun b=>(.sl l i v (off+b.1*w) (b.2-b.1) w,σ)else none
  |.aF=>(bounds 0 e lo hi mx).map fun _=>(.aF,σ)
  |_=>none
 |.M5 len w x lo hi =>
  match bf e x with
  |.bF cs=>(bounds len e lo hi none).map fun b=>(.aH (b.2-b.1) ((cs.drop (b.1*w)).take ((b.2-b.1)*w)),σ)
  |.ref l i v off =>
   match cells? σ l i v with
   |some cs=>if len≤1000000∧off+len*w≤cs.length then(bounds len e lo hi none).map fun b=>(.sl l i v (off+b.1*w) (b.2-b.1) w,σ)else none
   |none=>none
  |_=>none
 |.HQ off x =>
  match x with
  |.t n =>
   match get e n with
   |.bF cs=>some (.bF (cs.drop off),σ)
   |.ref l i v o=>some (.ref l i v (o+off),σ)
   |.own s _=>some (.vr n s off,σ)
   |.vr v s o=>some (.vr v s (o+off),σ)
   |_=>none
  |.c _=>none
 |.fld ag off sz x =>
  match bf e x with
  |.agg cs =>
   if off+sz≤cs.length then
    if ag then some (.agg ((cs.drop off).take sz),σ)else(cs[off]?).map (·,σ)
   else none
  |_=>none
 |.Bc len w x i =>
  match x,DT (bf e i)with
  |.t m,some n =>
   if 0≤n∧n<len then
    match get e m with
    |.bF cs=>some (.bF ((cs.drop (n.toNat*w)).take w),σ)
    |.ref l j v off=>some (.ref l j v (off+n.toNat*w),σ)
    |.own s _=>some (.vr m s (n.toNat*w),σ)
    |.vr v s o=>some (.vr v s (o+n.toNat*w),σ)
    |_=>none
   else none
  |_,_=>none
 |.dP w x i =>
  match bf e x,DT (bf e i)with
  |.aH m cs,some n=>if 0≤n∧n<m then some (.bF ((cs.drop (n.toNat*w)).take w),σ)else none
  |.sl l j v off m w',some n=>if 0≤n∧n<m∧w'=w then some (.ref l j v (off+n.toNat*w),σ)else none
  |_,_=>none
 |.Jt ag len w x i =>
  match bf e x,DT (bf e i)with
  |.agg cs,some n =>
   if 0≤n∧n<len∧(n.toNat+1)*w≤cs.length then
    if ag then some (.agg ((cs.drop (n.toNat*w)).take w),σ)else(cs[n.toNat*w]?).map (·,σ)
   else none
  |_,_=>none
 |.HU x =>
  match bf e x with
  |.aF=>some (.int .i64 0,σ)
  |.aH n _=>some (.int .i64 n,σ)
  |.sl _ _ _ _ n _=>some (.int .i64 n,σ)
  |_=>none
 |.MM n=>some (.int .i64 n,σ)
 |.mn x y =>
  match bf e x,bf e y with
  |.int k a,.int _ b=>some (.int k (min a b),σ)
  |_,_=>none
 |.mx x y =>
  match bf e x,bf e y with
  |.int k a,.int _ b=>some (.int k (max a b),σ)
  |_,_=>none
 |.app w bytes s x=>do
  let (m,xs)←elems σ w (bf e x)
  match bf e s with
  |.aF =>
   if m*bytes≤room then
    if m=0 then some (.aH 0 [],σ)else do
    let (l,i,σ')←hJ σ (.cells 0 xs)
    some (.sl l i 0 0 m w,σ')
   else none
  |.sl l i v off n w' =>
   match cells? σ l i v with
   |some cs =>
    if w'=w∧off+n*w≤cs.length∧(n+m)*bytes≤room then
     if l+1=σ.length then
      some (.sl l i (v+1) 0 (n+m) w,aV σ l i (.cells (v+1) ((cs.drop off).take (n*w)++xs)))
     else
      let r:=cz.frzL (cz l deep) xs σ
      some (.sl l i (v+1) 0 (n+m) w,aV r.2 l i (.cells (v+1) ((cs.drop off).take (n*w)++r.1)))
    else none
   |none=>none
  |_=>none
 |.QC os w bytes s x =>
  match bf e s with
  |.sl l i _ _ _ _=>if(os.all fun t=>D.off l i (get e t))=true then(elems σ w (bf e x)).bind fun r=>if D.bz r.2=true then Je e σ w bytes s x else none else none
  |_=>none
 |.apz w bytes s x=>(Je e σ w bytes s x).map fun r=>cz 0 deep r.1 r.2
 |.cpi w bytes x=>do
  let (m,xs)←elems σ w (bf e x)
  if m*bytes≤room then some (.aH m xs,σ)else none
 |.cvz x =>
  match bf e x with
  |.sl l i v off n w =>
   if 0<n then
    match cells? σ l i v with
    |some cs=>some (.aH n ((cs.drop off).take (n*w)),aV σ l i .dead)
    |none=>none
   else none
  |_=>none
 |.bse=>some (.emp,σ)
 |.ape w bytes v x =>
  match get e v with
  |.emp=>(elems σ w (bf e x)).bind fun r=>if r.1*bytes≤room then some (.aH r.1 r.2,σ)else none
  |_=>none
 |.ext x i =>
  match bf e x with
  |.dG ds=>(ds[i]?).map (·,σ)
  |_=>none
 |.ri o xs=>(sF o (xs.map (bf e))).map (·,σ)
 |.mp o xs=>AE σ o (xs.map (bf e))
 |.me o xs=>meD σ o (xs.map (bf e))
 |.mki t x=>some (.tW t (bf e x),σ)
 |.tas t z x=>(Ni t z (bf e x)).map (·,σ)
 |.isi neg x=>(adC (bf e x)).map fun b=>(.bool (if neg then !b else b),σ)
 |.LW _=>none
 |.LX=>none
 |.call _ _ _=>none
def R.bh:Option R→Option (D×SK)
 |some (.val d σ)=>some (d,σ)
 |_=>none
def R.QM:Option R→Option (Exit×Env×SK)
 |some (.Cv e env σ)=>some (e,env,σ)
 |_=>none
def o9(O:bN)(kp:Bool)(fv:D)(args:List D)(σ:SK):Option (D×SK) :=
 match fv with
 |.fn f first cap=>R.bh (O (.call kp f (first++args++cap) σ))
 |.mq l i=>R.bh (O (.round l i args σ))
 |_=>none
def Fh(O:bN)(fv:D)(args:List D)(σ:SK):Option (D×SK) :=
 match fv with
 |.fn f first cap=>R.bh (O (.call false f (first++args++cap) σ))
 |_=>none
def vG(O:bN)(op:Op)(e:Env)(σ:SK):Option (Env×SK) :=
 match op.k with
 |.call kp f args =>
  match o9 O kp (bf e f) (args.map (bf e)) σ with
  |some (d,σ')=>if op.Am=true→σ'=σ then some (put op.dst d e,σ')else none
  |none=>none
 |.dY nb cs =>
  match op.dst,kP nb cs σ with
  |some v,some (cs',σ')=>some ((v,.own (ue e v) cs')::e,σ')
  |_,_=>none
 |.Ey x =>
  match op.dst,(bf e x).cells with
  |some v,some cs=>some ((v,.own (ue e v) cs)::e,σ)
  |_,_=>none
 |.FV v nb sz a x =>
  match rM e v a,(bf e x).cells with
  |some (s,cs,off),some p =>
   if p.length=sz∧off+sz≤cs.length then
    match kP nb p σ with
    |some (p',σ')=>some ((v,.own s (cs.take off++p'++cs.drop (off+sz)))::e,σ')
    |none=>none
   else none
  |_,_=>none
 |k=>(bM e σ k).map fun x=>(put op.dst x.1 e,x.2)
def D.bit:D→Option (Option Bool)
 |.bool b=>some (some b)
 |.dG []=>some none
 |_=>none
def mm(O:bN):List Op→Env→SK→Option (Env×SK)
 |[],e,σ=>some (e,σ)
 |op::r,e,σ =>
  match op.C8 with
  |none=>(vG O op e σ).bind fun x=>mm O r x.1 x.2
  |some (g,want) =>
   match(get e g).bit with
   |some y=>if y=some want then(vG O op e σ).bind fun x=>mm O r x.1 x.2 else mm O r (put op.dst (.dG []) e) σ
   |none=>none
def D.wc:D→D
 |.aF => .aH 0 []
 |d=>d
def DN(l i u:Nat)(σ:SK):D×SK :=
 match cells? σ l i u with
 |some cs=>let r:=cz.frzL (cz 0 deep) cs (aV σ l i .dead);(.bF (r.1.map D.wc),r.2)
 |none=>(.undef,σ)
def HR(v:Nat)(e:Env)(σ:SK):Env×SK :=
 match get e v with
 |.aF=>((v,.aH 0 [])::e,σ)
 |.ref l i u 0=>let r:=DN l i u σ;((v,r.1)::e,r.2)
 |.own s cs=>((v,.own s (cs.map D.wc))::e,σ)
 |_=>(e,σ)
def uL:List Nat→Env→SK→Env×SK
 |[],e,σ=>(e,σ)
 |v::vs,e,σ =>
  match get e v with
  |.sl l i u off m w=>let r:=cz 0 deep (.sl l i u off m w) σ;uL vs ((v,r.1)::e) r.2
  |.own s cs=>let r:=cz.frzL (cz 0 deep) cs σ;uL vs ((v,.own s r.1)::e) r.2
  |.agg cs=>uL vs ((v,.agg (cs.map D.wc))::e) σ
  |.undef=>if 1000000≤v then(let r:=HR (v-1000000) e σ;uL vs r.1 r.2)else uL vs e σ
  |_=>uL vs e σ
def Ah(O:bN)(fv:D)(args:List D)(σ:SK):Option R :=
 match fv with
 |.fn f first cap=>O (.call false f (first++args++cap) σ)
 |_=>none
def uq(O:bN)(live:List Nat)(dst:Option Nat)(post:List Op)(e:Env):Option R→Option (Exit×Env×SK)
 |some (.val d σ')=>(mm O post (put dst d e) σ').map fun y=>(.normal,restrict live y.1,y.2)
 |some (.fQ d σ')=>some (.fQ d,e,σ')
 |_=>none
def FM(O:bN)(live:List Nat)(op:Op)(post:List Op)(e:Env)(σ:SK):Option (Exit×Env×SK) :=
 match op.C8,op.k with
 |none,.call false f args=>uq O live op.dst post e (Ah O (bf e f) (args.map (bf e)) σ)
 |none,.LW x=>(match bf e x with
  |.tW t d=>if d.clean then some (.fQ (.tW t d),e,σ)else none
  |_=>none)
 |_,_=>none
def aY(O:bN):cH→Env→SK→Option (Exit×Env×SK)
 |.dQ,e,σ=>some (.normal,e,σ)
 |.cz vs,e,σ=>let r:=uL vs e σ;some (.normal,r.1,r.2)
 |.cg live ops,e,σ=>(mm O ops e σ).map fun x=>(.normal,restrict live x.1,x.2)
 |.seq a b,e,σ=>(aY O a e σ).bind fun x =>
  match x.1 with
  |.normal=>aY O b x.2.1 x.2.2
  |_=>some x
 |.ite c a b,e,σ =>
  match bf e c with
  |.bool t=>if t then aY O a e σ else aY O b e σ
  |_=>none
 |.bO id a,e,σ=>(aY O a e σ).map fun x =>
  match x.1 with
  |.exit j=>if j=id then(.normal,x.2)else x
  |_=>x
 |.loop live bw a,e,σ=>R.QM (O (.loop live bw a e σ))
 |.JO live f params zu body,e,σ =>
  match hJ σ (.loop {state:=0,xf:=none,env:=xm live e,params,zu,body })with
  |some (l,i,σ1) =>
   match Fh O (bf e f) [.mq l i] σ1 with
   |some (_,σ2) =>
    match ei σ2 l i with
    |some (.loop lp) =>
     if lp.state=1 then none else
     some (lp.xf.getD .normal,restrict live e,aV σ2 l i (.loop {lp with state:=3 }))
    |_=>none
   |none=>none
  |none=>none
 |.iS live it nx ok b a rest,e,σ=>R.QM (O (.iS live it nx ok b a rest e σ))
 |.iG live pre op post,e,σ=>(mm O pre e σ).bind fun x=>FM O live op post x.1 x.2
 |.QN ..,_,_=>none
 |.exit id,e,σ=>some (.exit id,e,σ)
 |.ret,e,σ=>some (.ret,e,σ)
inductive Dn where
 |t (n:Nat)
 |c (n:Nat) (ag:Bool) (sz:Nat)
 |v (n:Nat) (ag:Bool) (sz:Nat)
structure Fn where
 MT:Nat
 res:List Dn
 body:cH
def Hk(e:Env)(σ:SK):Dn→Option D
 |.t n=>some (get e n).strip
 |.c n ag sz=>(bM e σ (.ld ag sz (.t n))).map (·.1)
 |.v n ag sz=>(bM e σ (.RT n ag sz n)).map (·.1)
def y9(e:Env)(σ:SK):List Dn→Option (List D)
 |[]=>some []
 |r::rs=>(Hk e σ r).bind fun d=>(y9 e σ rs).map fun ds=>d::ds
def tX:List D→D
 |[d]=>d
 |ds => .dG ds
def nj(n:Nat):List D→Env
 |[]=>[]
 |d::ds=>(n,d)::nj (n+1) ds
def zV:List Nat→List D→Env→Env
 |t::ts,d::ds,e=>zV ts ds ((t,d)::e)
 |_,_,e=>e
abbrev yo:=Nat→Option Fn
def adA:List D→Option (List Int)
 |[]=>some []
 |.int .i64 z::r=>(adA r).map (z :: ·)
 |_=>none
def afO(x:Int):List Int→List Int
 |[]=>[x]
 |y::l=>if x≤y then x::y::l else y::afO x l
def P9:List Int→List Int
 |[]=>[]
 |x::l=>afO x (P9 l)
def ady(l:List Int):List D:=l.map (.int .i64)
def KE(x:Int):List Int→List Int
 |[]=>[]
 |y::l=>if y=x then KE x l else y::KE y l
def Im:List Int→List Int
 |[]=>[]
 |x::l=>x::KE x l
def ad0(k:Nat)(zs:List Int):List Int:=if k=1 then P9 zs else Im zs++List.replicate (zs.length-(Im zs).length) 0
def aqE(k l i v off:Nat)(zs:List Int):D:=if k=1 then .dG []else .sl l i v off (Im zs).length 1
def au7(k:Nat)(args:List D)(σ:SK):Option R :=
 match args with
 |[.sl l i v off n w] =>
  if n≠0∧w=1∧n≤1000000 then
   match cells? σ l i v with
   |some cs =>
    if off+n≤cs.length then
     match adA ((cs.drop off).take n)with
     |some zs=>some (.val (aqE k l i v off zs) (aV σ l i (.cells v (cs.take off++ady (ad0 k zs)++cs.drop (off+n)))))
     |none=>none
    else none
   |none=>none
  else none
 |_=>none
def uH:Nat→Nat→List UInt8
 |0,_=>[]
 |k+1,u=>if u<10 then [UInt8.ofNat (48+u)]else uH k (u / 10)++[UInt8.ofNat (48+u%10)]
def Bh(n:Int):List UInt8:=if n<0 then 45::uH 20 n.natAbs else uH 20 n.toNat
def Ab:List D→Option (List (List UInt8))
 |[]=>some []
 |.str s::r=>(Ab r).map (s :: ·)
 |_=>none
def PE(sep:List UInt8):List (List UInt8)→List UInt8
 |[]=>[]
 |x::r=>x++r.flatMap (sep ++ ·)
def cZ(b:UInt8):List UInt8→List (List UInt8)
 |[]=>[[]]
 |c::r=>if c=b then []::cZ b r else match cZ b r with
  |x::l=>(c::x)::l
  |[]=>[[c]]
def rU(s:List UInt8):Nat×Int :=
 match Lib.atoiAll s with
 |.ok v=>(0,v)
 |Lib.NumEnd.syntax=>(1,0)
 |.range=>(2,Lib.atoiSat s)
def yO(a b:Nat)(xs:List (List UInt8)):List (List UInt8):=xs.take a++xs.drop b++List.replicate (b-a) []
def EP(k:Nat)(args:List D)(σ:SK):Option R :=
 match k%16,args with
 |3,[.int .i64 n]=>if -9223372036854775808≤n∧n≤9223372036854775807 then some (.val (.str (Bh n)) σ)else none
 |4,[.str s]=>if s.length≤1000000 then some (.val (.dG [.int .i64 (rU s).2,if(rU s).1=0 then .o6 else .tW (k / 16) .undef]) σ)else none
 |5,[.aH n cs,.str sep] =>
  match Ab cs with
  |some xs=>if n=xs.length∧n≤1000∧(PE sep xs).length≤1000000 then some (.val (.str (PE sep xs)) σ)else none
  |none=>none
 |6,[.str s,.str [b]]=>if s.length≤1000000 then some (.val (.aH (cZ b s).length ((cZ b s).map .str)) σ)else none
 |7,[.mq l i,.str s] =>
  match cells? σ l i 2 with
  |some [.int .i64 t,.int .i64 e,.str bs] =>
   if t=((k / 16%65536:Nat):Int)∧e=((k / 16 / 65536:Nat):Int)∧bs.length+s.length≤1000000 then
    some (.val (.dG [.int .i64 s.length,.o6]) (aV σ l i (.cells 2 [.int .i64 t,.int .i64 e,.str (bs++s)])))
   else none
  |_=>none
 |8,[.mq l i] =>
  match cells? σ l i 2 with
  |some [.int .i64 t,.int .i64 e,.str bs]=>if t=((k / 16%65536:Nat):Int)∧e=((k / 16 / 65536:Nat):Int)∧bs≠[]then some (.val (.str bs) σ)else none
  |_=>none
 |9,[.sl l i v off n w,.int .i64 a,.int .i64 b] =>
  if n≠0∧w=1∧n≤1000000∧0≤a∧a≤b∧b≤(n:Int)then
   match cells? σ l i v with
   |some cs =>
    if off+n≤cs.length then
     match Ab ((cs.drop off).take n)with
     |some xs=>some (.val (.sl l i v off (n-(b.toNat-a.toNat)) 1) (aV σ l i (.cells v (cs.take off++(yO a.toNat b.toNat xs).map .str++cs.drop (off+n)))))
     |none=>none
    else none
   |none=>none
  else none
 |0,_=>none
 |9,_=>none
 |10,_=>none
 |11,_=>none
 |12,_=>none
 |13,_=>none
 |14,_=>none
 |15,_=>none
 |1,args=>au7 1 args σ
 |2,args=>au7 2 args σ
 |_,_=>none
def Fs(σ:SK)(l i:Nat):Option (D×Nat×List D×List Nat) :=
 match cells? σ l i 1 with
 |some (m::.int .i64 n::js) =>
  match AD σ m with
  |some (_,_,es)=>if(es.length:Int)=n then some (m,es.length,js,(List.range es.length).filter fun j => !(js.contains (.int .i64 j)))else none
  |none=>none
 |_=>none
def agree:List (Option R)→Option R
 |[]=>none
 |r::rs=>if ∀x∈rs,x=r then r else none
def wZ(O:bN)(l i b:Nat)(rest:cH):Option (Exit×Env×SK)→Option R
 |some (.exit j,e1,σ1) =>
  if j=b then(aY O rest e1 (aV σ1 l i .dead)).map fun x => .Cv x.1 x.2.1 x.2.2
  else some (.Cv (.exit j) e1 (aV σ1 l i .dead))
 |some (.ret,e1,σ1)=>some (.Cv .ret e1 (aV σ1 l i .dead))
 |_=>none
def Al(O:bN)(live:List Nat)(it:bL)(l i nx ok b:Nat)(c rest:cH):Option (Exit×Env×SK)→Option R
 |some (.normal,e1,σ1)=>O (.iS live it nx ok b c rest e1 σ1)
 |y=>wZ O l i b rest y
def jz:cH→Option (cH×bL×List bL×cH)
 |.QN f args q=>some (.dQ,f,args,q)
 |.seq a b=>(jz b).map fun x=>(.seq a x.1,x.2)
 |_=>none
def Nj(kp:Bool)(d:D):SK→Option R
 |_::σ=>if kp=false∧d.clean=true then some (.fQ d σ)else none
 |[]=>none
def leave(res:List Dn)(σ:SK)(e:Env)(σ1:SK):Option R :=
 match y9 e σ1 res with
 |some ds=>(match cz (σ.length-1) deep (tX ds) σ1 with
  |(d,_::σ2)=>some (.val d σ2)
  |_=>none)
 |none=>none
def qH(O:bN)(fv:D)(args:List D)(th:Option D)(σ:SK):Option R :=
 match fv with
 |.fn f first cap=>O (.xE f (first++args++cap) th σ)
 |_=>none
def uI(res:List Dn)(σ:SK)(e:Env):Option R→Option R
 |some (.val _ σ1)=>leave res σ e σ1
 |_=>none
def yP(O:bN)(res:List Dn)(σ:SK)(fv:D)(args:List D):Option (Exit×Env×SK)→Option R
 |some (.fQ d,e,σ1)=>uI res σ e (qH O fv args (some d) σ1)
 |some (.normal,e,σ1)=>uI res σ e (qH O fv args none σ1)
 |some (.ret,e,σ1)=>uI res σ e (qH O fv args none σ1)
 |_=>none
def yN(O:bN)(fn:Fn)(σ:SK):Option (cH×bL×List bL×cH)→Env→SK→Option R
 |some (a,f,args,q),e0,σ0 =>
  (match aY O a e0 σ0 with
  |some (.normal,e,σ1)=>yP O fn.res σ (bf e f) (args.map (bf e)) (aY O q e σ1)
  |_=>none)
 |none,_,_=>none
def rT(th:Option D)(args:List D):cH→Option (Env×cH)
 |.seq (.cg live [⟨some t,none,_,.LX⟩]) q=>(match q with
  |.iS .. => none
  |q=>some (restrict live ((t,th.getD .o6)::nj 0 args),q))
 |_=>none
def dp(T:yo)(O:bN):Q→Option R
 |.call kp f args σ =>
  match T f with
  |some fn =>
   if args.length=fn.MT then
    match aY O fn.body (nj 0 args) (if kp then σ else []::σ)with
    |some (.exit _,_,_)=>none
    |some (.fQ d,_,σ1)=>Nj kp d σ1
    |some (_,e,σ1) =>
     match y9 e σ1 fn.res with
     |some ds =>
      if kp then some (.val (tX ds) σ1)else
      match cz (σ.length-1) deep (tX ds) σ1 with
      |(d,_::σ2)=>some (.val d σ2)
      |_=>none
     |none=>none
    |none=>if kp then none else yN O fn σ (jz fn.body) (nj 0 args) ([]::σ)
   else none
  |none =>
   match T (1000000+f)with
   |some fn=>EP fn.MT args σ
   |none=>none
 |.loop live bw c e σ =>
  match aY O c (restrict live e) (if bw then []::σ else σ)with
  |some (x,e1,σ1) =>
   let (e2,σ2):=if bw then(let r:=sO (σ.length-1) (restrict (yA live x e1) e1) σ1;(r.1,r.2.tail))else(e1,σ1)
   match x with
   |.normal=>O (.loop live bw c e2 σ2)
   |x=>some (.Cv x e2 σ2)
  |none=>none
 |.round l i args σ =>
  match ei σ l i with
  |some (.loop lp) =>
   if args.length=lp.params.length then
    match aY O lp.zu (zV lp.params args lp.env) ([]::σ)with
    |some (.normal,e1,σ1) =>
     match ei σ1 l i with
     |some (.loop lp1) =>
      if lp1.state=0 then
       match aY O lp.body e1 (aV σ1 l i (.loop {lp1 with state:=1 }))with
       |some (x,_,_::σ2) =>
        match ei σ2 l i with
        |some (.loop lp2) =>
         match x with
         |.fQ _=>none
         |.normal=>some (.val (.bool true) (aV σ2 l i (.loop {lp2 with state:=0,xf:=none })))
         |x=>some (.val (.bool false) (aV σ2 l i (.loop {lp2 with state:=2,xf:=some x })))
        |_=>none
       |_=>none
      else none
     |_=>none
    |_=>none
   else none
  |_=>none
 |.iS live it nx ok b c rest e σ =>
  match bf (restrict live e) it with
  |.mq l i =>
   match Fs σ l i with
   |some (_,_,_,[])=>wZ O l i b rest (aY O c ((ok,.bool false)::(nx,.undef)::restrict live e) σ)
   |some (m,n,js,us)=>agree (us.map fun u=>Al O live it l i nx ok b c rest (aY O c ((ok,.bool true)::(nx,.undef)::restrict live e) (aV σ l i (.cells 1 (m::.int .i64 (n:Nat)::.int .i64 (u:Nat)::js)))))
   |none=>none
  |_=>none
 |.xE f args th σ =>
  match T f with
  |some fn =>
   if args.length=fn.MT then
    match rT th args fn.body with
    |some (e0,q) =>
     match aY O q e0 ([]::σ)with
     |some (.exit _,_,_)=>none
     |some (.fQ _,_,_)=>none
     |some (_,e,σ1) =>
      match y9 e σ1 fn.res,σ1 with
      |some [],_::σ2=>some (.val (.dG []) σ2)
      |_,_=>none
     |none=>none
    |none=>none
   else none
  |none=>none
def it(T:yo):Nat→bN
 |0=>fun _=>none
 |n+1=>dp T (it T n)
open Classical in
noncomputable def lim(T:yo):bN:=fun q =>
 if h:∃n r,it T n q=some r then some h.choose_spec.choose else none
end Go.Abs
