import GoSem.Core.View
import Derived.Lib.AtoiAll
set_option linter.all false
namespace Go
theorem ad:type_of%@Option.map_eq_some_iff:=@Option.map_eq_some_iff
theorem ae:type_of%@Option.some.injEq:=@Option.some.injEq
theorem af:type_of%@Bool.and_eq_true:=@Bool.and_eq_true
theorem ah:type_of%@Option.bind_eq_some_iff:=@Option.bind_eq_some_iff
theorem aL:type_of%@List.map_cons:=@List.map_cons
theorem aj:type_of%@List.mem_of_getElem?:=@List.mem_of_getElem?
theorem ai:type_of%@List.take_of_length_le:=@List.take_of_length_le
theorem ak:type_of%@Prod.mk.injEq:=@Prod.mk.injEq
theorem bQ:type_of%@List.map_nil:=@List.map_nil
theorem au:type_of%@decide_eq_true_eq:=@decide_eq_true_eq
theorem av:type_of%@Bool.false_eq_true:=@Bool.false_eq_true
theorem aC:type_of%@Option.ite_none_right_eq_some:=@Option.ite_none_right_eq_some
theorem aB:type_of%@List.getElem?_eq_some_iff:=@List.getElem?_eq_some_iff
theorem aA:type_of%@List.drop_eq_nil_of_le:=@List.drop_eq_nil_of_le
theorem aI:type_of%@Nat.le_refl:=@Nat.le_refl
theorem aG:type_of%@List.length_cons:=@List.length_cons
theorem aN:type_of%@List.getElem?_eq_getElem:=@List.getElem?_eq_getElem
theorem aP:type_of%@Option.bind_eq_bind:=@Option.bind_eq_bind
theorem aO:type_of%@List.drop_zero:=@List.drop_zero
theorem aR:type_of%@Option.map_some:=@Option.map_some
theorem aT:type_of%@List.length_pos_iff:=@List.length_pos_iff
theorem aX:type_of%@List.nil_append:=@List.nil_append
theorem aS:type_of%@List.flatMap_cons:=@List.flatMap_cons
theorem bd:type_of%@List.mem_cons:=@List.mem_cons
theorem ba:type_of%@List.mem_append:=@List.mem_append
theorem bx:type_of%@Int.tdiv_eq_ediv_of_nonneg:=@Int.tdiv_eq_ediv_of_nonneg
theorem bL:type_of%@List.length_nil:=@List.length_nil
theorem bR:type_of%@List.mem_map:=@List.mem_map
theorem bC:type_of%@List.length_append:=@List.length_append
theorem bY:type_of%@List.length_eq_zero_iff:=@List.length_eq_zero_iff
theorem ck:type_of%@Bool.or_eq_true:=@Bool.or_eq_true
theorem cf:type_of%@Array.getD_eq_getD_getElem?:=@Array.getD_eq_getD_getElem?
theorem cA:type_of%@List.getElem?_cons_zero:=@List.getElem?_cons_zero
theorem cZ:type_of%@Nat.zero_add:=@Nat.zero_add
theorem dj:type_of%@List.mem_filter:=@List.mem_filter
theorem di:type_of%@List.length_map:=@List.length_map
theorem cV:type_of%@List.drop_length_add_append:=@List.drop_length_add_append
theorem cX:type_of%@Array.getElem?_eq_some_iff:=@Array.getElem?_eq_some_iff
theorem dM:type_of%@Nat.mul_one:=@Nat.mul_one
theorem dt:type_of%@Nat.mul_le_mul_right:=@Nat.mul_le_mul_right
theorem dq:type_of%@List.mem_of_mem_take:=@List.mem_of_mem_take
theorem dZ:type_of%@Nat.add_assoc:=@Nat.add_assoc
theorem dP:type_of%@List.flatMap_nil:=@List.flatMap_nil
theorem dD:type_of%@Option.isSome_iff_exists:=@Option.isSome_iff_exists
theorem dY:type_of%@List.ext_getElem?:=@List.ext_getElem?
theorem dW:type_of%@Bool.not_eq_true':=@Bool.not_eq_true'
theorem eu:type_of%@List.getElem?_take:=@List.getElem?_take
theorem eE:type_of%@List.append_nil:=@List.append_nil
theorem dp:type_of%@List.mem_of_mem_drop:=@List.mem_of_mem_drop
theorem eW:type_of%@Nat.succ_mul:=@Nat.succ_mul
theorem eP:type_of%@Int.toNat_of_nonneg:=@Int.toNat_of_nonneg
theorem fw:type_of%@Int.mul_nonneg:=@Int.mul_nonneg
theorem cG:type_of%@List.singleton_append:=@List.singleton_append
theorem eT:type_of%@List.getElem?_eq_none:=@List.getElem?_eq_none
theorem ic:type_of%@Option.getD_some:=@Option.getD_some
theorem fP:type_of%@List.cons_append:=@List.cons_append
theorem gZ:type_of%@Array.toList_inj:=@Array.toList_inj
theorem iF:type_of%@Nat.le_trans:=@Nat.le_trans
theorem fx:type_of%@List.getElem?_drop:=@List.getElem?_drop
theorem jg:type_of%@Nat.add_mul:=@Nat.add_mul
theorem ia:type_of%@List.getElem?_of_mem:=@List.getElem?_of_mem
theorem fO:type_of%@Int.mul_le_mul_of_nonneg_right:=@Int.mul_le_mul_of_nonneg_right
theorem gh:type_of%@List.flatMap_append:=@List.flatMap_append
theorem jV:type_of%@List.all_cons:=@List.all_cons
theorem jv:type_of%@List.length_filter_le:=@List.length_filter_le
theorem ju:type_of%@List.getElem?_toArray:=@List.getElem?_toArray
theorem gO:type_of%@List.cons.injEq:=@List.cons.injEq
theorem eS:type_of%@Array.getElem?_modify:=@Array.getElem?_modify
theorem nj:type_of%@List.getElem?_map:=@List.getElem?_map
theorem dX:type_of%@List.append_assoc:=@List.append_assoc
theorem j6:type_of%@List.getElem?_mapIdx:=@List.getElem?_mapIdx
theorem de:type_of%@List.getElem?_append_left:=@List.getElem?_append_left
theorem iE:type_of%@List.drop_drop:=@List.drop_drop
theorem l8:type_of%@Int.mul_le_mul:=@Int.mul_le_mul
theorem jC:type_of%@List.length_take:=@List.length_take
theorem lU:type_of%@List.all_eq_true:=@List.all_eq_true
theorem ni:type_of%@Int.le_total:=@Int.le_total
theorem gE{α:Type}{l:List α}{i:Nat}(h:i<l.length):∃x,l[i]?=some x:=⟨_,aN h⟩
end Go
namespace Go.Abs
inductive D where
 |undef
 |bool (b:Bool)
 |int (k:IntKind) (n:Int)
 |str (s:List UInt8)
 |agg (cs:List D)
 |dV (cs:List D)
 |xF
 |ref (l i v off:Nat)
 |bB (cs:List D)
 |aK
 |aH (n:Nat) (cs:List D)
 |sl (l i v off n w:Nat)
 |fn (f:Nat) (first cap:List D)
 |iW
 |l7 (l i:Nat)
 |own (s:Nat) (cs:List D)
 |vr (x s off:Nat)
 |uH (t:Nat) (d:D)
 |pN
 |emp
 deriving Inhabited
mutual
def D.same:D→D→Bool
 |.undef,.undef=>true
 |.bool a,.bool b=>a == b
 |.int k n,.int k' n'=>k == k' && n == n'
 |.str a,.str b=>a == b
 |.agg a,.agg b=>D.yz a b
 |.dV a,.dV b=>D.yz a b
 |.xF,.xF=>true
 |.ref a b c d,.ref a' b' c' d'=>a == a' && b == b' && c == c' && d == d'
 |.bB a,.bB b=>D.yz a b
 |.aK,.aK=>true
 |.aH n a,.aH m b=>n == m && D.yz a b
 |.sl a b c d e f,.sl a' b' c' d' e' f'=>a == a' && b == b' && c == c' && d == d' && e == e' && f == f'
 |.fn f a b,.fn f' a' b'=>f == f' && D.yz a a' && D.yz b b'
 |.iW,.iW=>true
 |.l7 a b,.l7 a' b'=>a == a' && b == b'
 |.own s a,.own s' b=>s == s' && D.yz a b
 |.vr a b c,.vr a' b' c'=>a == a' && b == b' && c == c'
 |.uH t a,.uH t' b=>t == t' && D.same a b
 |.pN,.pN=>true
 |.emp,.emp=>true
 |_,_=>false
def D.yz:List D→List D→Bool
 |[],[]=>true
 |a::as,b::bs=>D.same a b && D.yz as bs
 |_,_=>false
end
mutual
theorem KB:∀{a b:D},D.same a b=true→a=b
 |.undef,b,h=>by cases b<;>simp[D.same]at h;rfl
 |.bool _,b,h=>by cases b<;>simp[D.same]at h;rw[h]
 |.int _ _,b,h=>by cases b<;>simp[D.same]at h;rw[h.1,h.2]
 |.str _,b,h=>by cases b<;>simp[D.same]at h;rw[h]
 |.agg _,b,h=>by cases b<;>simp[D.same]at h;rw[vZ h]
 |.dV _,b,h=>by cases b<;>simp[D.same]at h;rw[vZ h]
 |.xF,b,h=>by cases b<;>simp[D.same]at h;rfl
 |.ref ..,b,h=>by cases b<;>simp[D.same]at h;simp[h]
 |.bB _,b,h=>by cases b<;>simp[D.same]at h;rw[vZ h]
 |.aK,b,h=>by cases b<;>simp[D.same]at h;rfl
 |.aH ..,b,h=>by cases b<;>simp[D.same]at h;rw[h.1,vZ h.2]
 |.sl ..,b,h=>by cases b<;>simp[D.same]at h;simp[h]
 |.fn ..,b,h=>by cases b<;>simp[D.same]at h;rw[h.1.1,vZ h.1.2,vZ h.2]
 |.iW,b,h=>by cases b<;>simp[D.same]at h;rfl
 |.l7 ..,b,h=>by cases b<;>simp[D.same]at h;simp[h]
 |.own ..,b,h=>by cases b<;>simp[D.same]at h;rw[h.1,vZ h.2]
 |.vr ..,b,h=>by cases b<;>simp[D.same]at h;simp[h]
 |.uH _ a,b,h=>by cases b<;>simp[D.same]at h;rw[h.1,KB h.2]
 |.pN,b,h=>by cases b<;>simp[D.same]at h;rfl
 |.emp,b,h=>by cases b<;>simp[D.same]at h;rfl
theorem vZ:∀{a b:List D},D.yz a b=true→a=b
 |[],[],_=>rfl
 |[],_::_,h=>by simp[D.yz]at h
 |_::_,[],h=>by simp[D.yz]at h
 |a::as,b::bs,h=>by
  simp only[D.yz,af]at h;rw[KB h.1,vZ h.2]
end
mutual
theorem Fz:∀(a:D),D.same a a=true
 |.undef=>rfl
 |.bool b=>by simp[D.same]
 |.int k n=>by simp[D.same]
 |.str s=>by simp[D.same]
 |.agg a=>by simp[D.same,rR a]
 |.dV a=>by simp[D.same,rR a]
 |.xF=>rfl
 |.ref .. => by simp[D.same]
 |.bB a=>by simp[D.same,rR a]
 |.aK=>rfl
 |.aH n a=>by simp[D.same,rR a]
 |.sl .. => by simp[D.same]
 |.fn f a b=>by simp[D.same,rR a,rR b]
 |.iW=>rfl
 |.l7 .. => by simp[D.same]
 |.own s a=>by simp[D.same,rR a]
 |.vr .. => by simp[D.same]
 |.uH t a=>by simp[D.same,Fz a]
 |.pN=>rfl
 |.emp=>rfl
theorem rR:∀(a:List D),D.yz a a=true
 |[]=>rfl
 |a::as=>by simp[D.yz,Fz a,rR as]
end
instance:DecidableEq D:=fun a b=>if h:D.same a b=true then isTrue (KB h)else isFalse fun e=>h (e ▸ Fz a)
inductive bG where
 |t (n:Nat)
 |c (d:D)
 deriving Inhabited,DecidableEq
inductive Pu where
 |Ey
 |IE
 |SH
 |Og (lo hi:Bool)
 |seq (neg:Bool)
 deriving Inhabited,DecidableEq
def EH:Pu→List D→Option D
 |.Ey,[.str s]=>some (.int .i64 s.length)
 |.IE,[.str s,.int _ i]=>if 0≤i then(s[i.toNat]?).map fun b => .int .u8 b.toNat else none
 |.SH,[.str a,.str b]=>if a.length+b.length≤4611686018427387904 then some (.str (a++b))else none
 |.Og true true,[.str s,.int _ i,.int _ j]=>if 0≤i∧i≤j∧j≤s.length then some (.str ((s.drop i.toNat).take (j.toNat-i.toNat)))else none
 |.Og true false,[.str s,.int _ i]=>if 0≤i∧i≤s.length then some (.str (s.drop i.toNat))else none
 |.Og false true,[.str s,.int _ j]=>if 0≤j∧j≤s.length then some (.str (s.take j.toNat))else none
 |.Og false false,[.str s]=>some (.str s)
 |.seq neg,[.str a,.str b]=>some (.bool (if neg then !(a == b)else a == b))
 |_,_=>none
abbrev Ky:=Option (Bool×List (Option IntKind))
inductive Mo where
 |make
 |l9 (t e:Nat)
 |get (ky:Ky) (zero:D) (ok:Bool)
 |put (ky:Ky)
 |len
 |rng
 |ent
 deriving Inhabited,DecidableEq
inductive Me where
 |b2s
 |s2b
 |s2a (n w:Nat)
 |peq (neg:Bool)
 deriving Inhabited,DecidableEq
inductive K where
 |mv (x:bG)
 |qh (w:Nat)
 |pick (c a b:bG)
 |Hg (nb:List (Nat×Nat)) (cs:List D)
 |fm (nb:List (Nat×Nat)) (cs:List D)
 |Ir (x:bG)
 |Is (x:bG)
 |bxn (nb:List (Nat×Nat)) (x:bG)
 |E2 (x:bG)
 |l9 (zero:List D) (parts:List (Nat×Nat×bG))
 |uU (n w:Nat) (zero:List D) (parts:List (Nat×Nat×bG))
 |MX (n w:Nat) (zero:List D) (parts:List (Nat×Nat×bG))
 |ld (ag:Bool) (sz:Nat) (a:bG)
 |SZ (ag:Bool) (sz:Nat) (a:bG)
 |SY (ag:Bool) (sz:Nat) (a:bG)
 |SX (ps neg:Bool) (x:bG)
 |mW (x:bG)
 |st (nb:List (Nat×Nat)) (sz:Nat) (a x:bG)
 |MJ (os:List Nat) (sz:Nat) (a x:bG)
 |S0 (v:Nat) (ag:Bool) (sz:Nat) (a:Nat)
 |Gt (v:Nat) (nb:List (Nat×Nat)) (sz:Nat) (a:Nat) (x:bG)
 |bin (o:BinOp) (x y:bG)
 |eqv (ag:Bool) (ks:List (Option IntKind)) (neg:Bool) (x y:bG)
 |un (o:UnOp) (x:bG)
 |J6 (k:IntKind) (x:bG)
 |xW (f:Nat) (first cap:List bG)
 |mks (w bytes:Nat) (zero:List D) (l c:bG)
 |IF (w:Nat) (x:bG) (lo hi mx:Option bG)
 |Od (len w:Nat) (x:bG) (lo hi:Option bG)
 |Iu (off:Nat) (x:bG)
 |fld (ag:Bool) (off sz:Nat) (x:bG)
 |Bw (len w:Nat) (x i:bG)
 |fM (w:Nat) (x i:bG)
 |Kf (ag:Bool) (len w:Nat) (x i:bG)
 |Iy (x:bG)
 |NT (n:Nat)
 |mn (x y:bG)
 |mx (x y:bG)
 |app (w bytes:Nat) (s x:bG)
 |RN (os:List Nat) (w bytes:Nat) (s x:bG)
 |apz (w bytes:Nat) (s x:bG)
 |T4 (w bytes:Nat) (x:bG)
 |cvz (x:bG)
 |bse
 |ape (w bytes v:Nat) (x:bG)
 |ext (x:bG) (i:Nat)
 |zf (o:Pu) (xs:List bG)
 |mp (o:Mo) (xs:List bG)
 |me (o:Me) (xs:List bG)
 |mki (t:Nat) (x:bG)
 |tas (t:Nat) (zero:Option D) (x:bG)
 |isi (neg:Bool) (x:bG)
 |MZ (x:bG)
 |M0
 |call (kp:Bool) (f:bG) (args:List bG)
 deriving Inhabited,DecidableEq
structure Op where
 dst:Option Nat
 Dm:Option (Nat×Bool)
 AI:Bool
 k:K
 deriving Inhabited,DecidableEq
inductive cF where
 |eo
 |cJ (vs:List Nat)
 |cr (live:List Nat) (ops:List Op)
 |seq (a b:cF)
 |ite (c:bG) (a b:cF)
 |bO (id:Nat) (a:cF)
 |loop (live:List Nat) (bj:Bool) (a:cF)
 |IC (live:List Nat) (f:bG) (params:List Nat) (zd body:cF)
 |ji (live:List Nat) (it:bG) (nx ok b:Nat) (a rest:cF)
 |iY (live:List Nat) (pre:List Op) (op:Op) (post:List Op)
 |RZ (f:bG) (args:List bG) (rest:cF)
 |exit (id:Nat)
 |ret
 |sgm (a:cF)
 deriving Inhabited,DecidableEq
inductive Exit where
 |normal
 |exit (id:Nat)
 |ret
 |gf (d:D)
 deriving Inhabited,DecidableEq
abbrev Env:=List (Nat×D)
def get:Env→Nat→D
 |[],_ => .undef
 |(k,v)::r,t=>if k=t then v else get r t
def put(d:Option Nat)(v:D)(e:Env):Env :=
 match d with
 |some t=>(t,v)::e
 |none=>e
def D.calm:D→D
 |.vr .. => .undef
 |.emp => .undef
 |.own _ cs => .own 0 cs
 |d=>d
def D.strip:D→D
 |.vr .. => .undef
 |.emp => .undef
 |.own .. => .undef
 |d=>d
def restrict(live:List Nat)(e:Env):Env:=live.map fun t=>(t,(get e t).calm)
def keys(e:Env):List Nat:=(e.map (·.1)).eraseDups
def xQ(live:List Nat)(e:Env):Env:=live.map fun t=>(t,(get e t).strip)
def y8(live:List Nat)(x:Exit)(e:Env):List Nat :=
 match x with
 |.normal=>live
 |_=>keys e
structure we where
 state:Nat
 wv:Option Exit
 env:Env
 params:List Nat
 zd:cF
 body:cF
 deriving DecidableEq
inductive aE where
 |cells (v:Nat) (cs:List D)
 |dead
 |loop (l:we)
 deriving DecidableEq
abbrev SK:=List (List aE)
def gB:SK→Nat→Option (List aE)
 |[],_=>none
 |s::σ,l=>if σ.length=l then some s else gB σ l
def iX:SK→Nat→List aE→SK
 |[],_,_=>[]
 |s::σ,l,s'=>if σ.length=l then s'::σ else s::iX σ l s'
def ef(σ:SK)(l i:Nat):Option aE:=(gB σ l).bind (·[i]?)
def aV(σ:SK)(l i:Nat)(b:aE):SK :=
 match gB σ l with
 |some s=>iX σ l (s.set i b)
 |none=>σ
def cells?(σ:SK)(l i v:Nat):Option (List D) :=
 match ef σ l i with
 |some (.cells v' cs)=>if v'=v then some cs else none
 |_=>none
def iC(σ:SK)(b:aE):Option (Nat×Nat×SK) :=
 match σ with
 |[]=>none
 |s::σ'=>some (σ'.length,s.length,(s++[b])::σ')
mutual
def D.clean:D→Bool
 |.ref .. => false
 |.sl .. => false
 |.l7 .. => false
 |.vr .. => true
 |.emp=>true
 |.own _ cs=>D.bJ cs
 |.agg cs=>D.bJ cs
 |.dV cs=>D.bJ cs
 |.bB cs=>D.bJ cs
 |.aH _ cs=>D.bJ cs
 |.fn _ a b=>D.bJ a && D.bJ b
 |.undef=>true
 |.bool _=>true
 |.int _ _=>true
 |.str _=>true
 |.xF=>true
 |.aK=>true
 |.iW=>true
 |.uH _ d=>D.clean d
 |.pN=>true
def D.bJ:List D→Bool
 |[]=>true
 |d::ds=>D.clean d && D.bJ ds
end
def cJ(l:Nat):Nat→D→SK→D×SK
 |0,_,σ=>(.undef,σ)
 |n+1,d,σ =>
  if d.clean then(d,σ)else
  match d with
  |.agg cs=>let r:=frzL (cJ l n) cs σ;(.agg r.1,r.2)
  |.dV cs=>let r:=frzL (cJ l n) cs σ;(.dV r.1,r.2)
  |.bB cs=>let r:=frzL (cJ l n) cs σ;(.bB r.1,r.2)
  |.aH m cs=>let r:=frzL (cJ l n) cs σ;(.aH m r.1,r.2)
  |.own s cs=>let r:=frzL (cJ l n) cs σ;(.own s r.1,r.2)
  |.fn f a b=>let r:=frzL (cJ l n) a σ;let r':=frzL (cJ l n) b r.2;(.fn f r.1 r'.1,r'.2)
  |.ref l' i v off=>if l'≤l then(.ref l' i v off,σ)else(.undef,σ)
  |.l7 l' i=>if l'≤l then(.l7 l' i,σ)else(.undef,σ)
  |.sl l' i v off m w =>
   if l'≤l then(.sl l' i v off m w,σ)else
   match cells? σ l' i v with
   |some cs=>let r:=frzL (cJ l n) ((cs.drop off).take (m*w)) (aV σ l' i .dead);(.aH m r.1,r.2)
   |none=>(.undef,σ)
  |_=>(.undef,σ)
where
 frzL (f:D→SK→D×SK):List D→SK→List D×SK
  |[],σ=>([],σ)
  |d::ds,σ=>let r:=f d σ;let r':=frzL f ds r.2;(r.1::r'.1,r'.2)
def deep:Nat:=16
def pV(l:Nat):Env→SK→Env×SK
 |[],σ=>([],σ)
 |(t,d)::e,σ=>let r:=cJ l deep d σ;let r':=pV l e r.2;((t,r.1)::r'.1,r'.2)
inductive Q where
 |call (kp:Bool) (f:Nat) (args:List D) (σ:SK)
 |loop (live:List Nat) (bj:Bool) (c:cF) (env:Env) (σ:SK)
 |round (l i:Nat) (args:List D) (σ:SK)
 |ji (live:List Nat) (it:bG) (nx ok b:Nat) (c rest:cF) (env:Env) (σ:SK)
 |yc (f:Nat) (args:List D) (th:Option D) (σ:SK)
inductive R where
 |val (d:D) (σ:SK)
 |CJ (e:Exit) (env:Env) (σ:SK)
 |gf (d:D) (σ:SK)
 deriving DecidableEq
abbrev bM:=Q→Option R
def bg(e:Env):bG→D
 |.t n=>(get e n).strip
 |.c d=>d
def D.cells:D→Option (List D)
 |.agg cs=>some cs
 |.undef=>none
 |.dV _=>none
 |.own .. => none
 |.vr .. => none
 |.emp=>none
 |d=>some [d]
def D.row(ag:Bool)(d:D):Option (List D) :=
 match ag,d with
 |true,.agg cs=>some cs
 |true,_=>none
 |false,.agg _=>none
 |false,d=>d.cells
def sy(e:Env):List (Nat×Nat×bG)→List D→Option (List D)
 |[],cs=>some cs
 |(off,sz,x)::r,cs =>
  match(bg e x).cells with
  |some p=>if p.length=sz∧off+sz≤cs.length then sy e r (cs.take off++p++cs.drop (off+sz))else none
  |none=>none
def Ac:List (Option IntKind)→List D→List D→Option Bool
 |[],[],[]=>some true
 |some k::ks,.int k1 a::x,.int k2 b::y=>if k1=k∧k2=k then(Ac ks x y).map (a == b && ·)else none
 |none::ks,.bool a::x,.bool b::y=>(Ac ks x y).map (a == b && ·)
 |_,_,_=>none
def tX(o:BinOp):D→D→Option D
 |.int k a,.int k' b =>
  match o with
  |.shl=>if b<0 then none else some (.int k (k.wrap (a*2^(min b.toNat k.bits))))
  |.shr=>if b<0 then none else some (.int k (a.fdiv (2^(min b.toNat k.bits))))
  |.add=>if k=k' then some (.int k (k.wrap (a+b)))else none
  |.sub=>if k=k' then some (.int k (k.wrap (a-b)))else none
  |.mul=>if k=k' then some (.int k (k.wrap (a*b)))else none
  |.quo=>if k=k'∧b≠0 then some (.int k (k.wrap (a.tdiv b)))else none
  |.rem=>if k=k'∧b≠0 then some (.int k (a.tmod b))else none
  |.and=>if k=k' then some (.int k (k.wrap ((BitVec.ofInt k.bits a &&& BitVec.ofInt k.bits b).toNat:Int)))else none
  |.or=>if k=k' then some (.int k (k.wrap ((BitVec.ofInt k.bits a ||| BitVec.ofInt k.bits b).toNat:Int)))else none
  |.xor=>if k=k' then some (.int k (k.wrap ((BitVec.ofInt k.bits a ^^^ BitVec.ofInt k.bits b).toNat:Int)))else none
  |.andNot=>none
  |.eql=>if k=k' then some (.bool (a == b))else none
  |.neq=>if k=k' then some (.bool (a != b))else none
  |.lss=>if k=k' then some (.bool (decide (a<b)))else none
  |.leq=>if k=k' then some (.bool (decide (a≤b)))else none
  |.gtr=>if k=k' then some (.bool (decide (a>b)))else none
  |.geq=>if k=k' then some (.bool (decide (a≥b)))else none
 |_,_=>none
def Ef:D→Option Int
 |.int _ n=>some n
 |_=>none
def BV(e:Env)(m:Nat)(dfl:Option Nat):Option bG→Option Nat
 |some x=>match Ef (bg e x)with
  |some n=>if 0≤n∧n≤m then some n.toNat else none
  |none=>none
 |none=>dfl
def bounds(len:Nat)(e:Env)(lo hi mx:Option bG):Option (Nat×Nat) :=
 (BV e len (some len) mx).bind fun m=>(BV e m (if mx.isSome then none else some len) hi).bind fun h=>(BV e h (some 0) lo).map fun l=>(l,h)
def tG(ky:Ky)(a b:D):Option Bool :=
 match ky with
 |none=>match a,b with
  |.str x,.str y=>some (x == y)
  |_,_=>none
 |some (ag,ks)=>match a.row ag,b.row ag with
  |some p,some q=>Ac ks p q
  |_,_=>none
def rM(ky:Ky)(k:D):List D→Option (Option (Nat×D))
 |[]=>some none
 |.dV [k',v]::es =>
  match tG ky k k' with
  |some true=>some (some (0,v))
  |some false=>(rM ky k es).map fun x=>x.map fun y=>(y.1+1,y.2)
  |none=>none
 |_=>none
def AX(σ:SK):D→Option (Nat×Nat×List D)
 |.l7 l i=>(cells? σ l i 0).map fun es=>(l,i,es)
 |_=>none
def AY(σ:SK):Mo→List D→Option (D×SK)
 |.make,[]=>(iC σ (.cells 0 [])).map fun x=>(.l7 x.1 x.2.1,x.2.2)
 |.l9 t e,[]=>(iC σ (.cells 2 [.int .i64 (t:Nat),.int .i64 (e:Nat),.str []])).map fun x=>(.l7 x.1 x.2.1,x.2.2)
 |.get ky zero ok,[m,k] =>
  match AX σ m with
  |some (_,_,es) =>
   if(tG ky k k).isSome then
    match rM ky k es with
    |some (some (_,v))=>some (if ok then .dV [v,.bool true]else v,σ)
    |some none=>some (if ok then .dV [zero,.bool false]else zero,σ)
    |none=>none
   else none
  |none=>none
 |.put ky,[m,k,v] =>
  match AX σ m with
  |some (l,i,es) =>
   if(tG ky k k).isSome∧(l+1=σ.length∨(k.clean∧v.clean))then
    match rM ky k es with
    |some (some (j,_))=>some (.undef,aV σ l i (.cells 0 (es.set j (.dV [k,v]))))
    |some none=>some (.undef,aV σ l i (.cells 0 (es++[.dV [k,v]])))
    |none=>none
   else none
  |none=>none
 |.len,[m]=>(AX σ m).map fun x=>(.int .i64 x.2.2.length,σ)
 |.rng,[m] =>
  match AX σ m with
  |some (lm,im,es)=>(iC σ (.cells 1 [.l7 lm im,.int .i64 es.length])).map fun x=>(.l7 x.1 x.2.1,x.2.2)
  |none=>none
 |.ent,[.l7 l i] =>
  match cells? σ l i 1 with
  |some (m::.int .i64 n::.int .i64 j::_) =>
   match AX σ m with
   |some (_,_,es)=>if(es.length:Int)=n then
     match es[j.toNat]? with
     |some (.dV [k,v])=>some (.dV [k,v],σ)
     |_=>none
    else none
   |none=>none
  |_=>none
 |_,_=>none
def strCells(s:List UInt8):List D:=s.map fun b => .int .u8 b.toNat
def elems(σ:SK)(w:Nat):D→Option (Nat×List D)
 |.aK=>some (0,[])
 |.str s=>if w=1 then some (s.length,strCells s)else none
 |.aH n cs=>if cs.length=n*w then some (n,cs)else none
 |.sl l i v off n w' =>
  if w'=w then
   match cells? σ l i v with
   |some cs=>if off+n*w≤cs.length then some (n,(cs.drop off).take (n*w))else none
   |none=>none
  else none
 |_=>none
def zX:List D→Option (List UInt8)
 |[]=>some []
 |.int .u8 n::r=>(zX r).map (UInt8.ofNat n.toNat :: ·)
 |_=>none
def NX(σ:SK):Me→List D→Option (D×SK)
 |.b2s,[.str _]=>none
 |.b2s,[x]=>(elems σ 1 x).bind fun r=>(zX r.2).map fun s=>(.str s,σ)
 |.s2b,[.str s]=>some (.aH s.length (strCells s),σ)
 |.s2a n w,[.aH m cs]=>if 0<n∧n≤m then some (.bB (cs.take (n*w)),σ)else none
 |.peq neg,[.ref l i v o,.ref l' i' v' o']=>if l=l'∧i=i'∧o=o'∧v=v'∧(cells? σ l i v).isSome then some (.bool (!neg),σ)else none
 |_,_=>none
def room:Nat:=2^46
def lq:List (Nat×Nat)→List D→SK→Option (List D×SK)
 |[],cs,σ=>some (cs,σ)
 |(p,w)::r,cs,σ =>
  match cs[p]? with
  |some .aK=>do
   let (l,i,σ')←iC σ (.cells 0 [])
   lq r (cs.set p (.sl l i 0 0 0 w)) σ'
  |_=>lq r cs σ
def sA(e:Env)(v a:Nat):Option (Nat×List D×Nat) :=
 match get e v with
 |.own s cs =>
  if a=v then some (s,cs,0)else
  match get e a with
  |.vr x s' off=>if x=v∧s'=s then some (s,cs,off)else none
  |_=>none
 |_=>none
def uP(e:Env)(v:Nat):Nat :=
 match get e v with
 |.own s _=>s+1
 |_=>0
def Fq(σ:SK):D→Option (List D)
 |.bB cs=>some cs
 |.ref l i v off=>(cells? σ l i v).map (·.drop off)
 |_=>none
def S3(σ:SK):D→Option (List D)
 |.ref l i 0 off=>Fq σ (.ref l i 0 off)
 |_=>none
def Ix(ps:Bool)(d:D):Option Bool :=
 match ps,d with
 |true,.xF=>some true
 |true,.bB _=>some false
 |true,.ref .. => some false
 |false,.aK=>some true
 |false,.aH n _=>if n=0 then none else some false
 |false,.sl _ _ _ _ n _=>if n=0 then none else some false
 |_,_=>none
def Oq(t:Nat)(z:Option D):D→Option D
 |.uH t' d=>match z with
  |some z=>some (if t'=t then .dV [d,.bool true]else .dV [z,.bool false])
  |none=>if t'=t then some d else none
 |.pN=>z.map fun z => .dV [z,.bool false]
 |_=>none
def aeC:D→Option Bool
 |.pN=>some true
 |.uH .. => some false
 |_=>none
def D.off(l i:Nat):D→Bool
 |.ref l' i' _ _=>decide (¬(l'=l∧i'=i))
 |_=>true
def JZ(e:Env)(σ:SK)(w bytes:Nat)(s x:bG):Option (D×SK):=do
  let (m,xs)←elems σ w (bg e x)
  match bg e s with
  |.aK =>
   if m*bytes≤room then
    if m=0 then some (.aH 0 [],σ)else do
    let (l,i,σ')←iC σ (.cells 0 xs)
    some (.sl l i 0 0 m w,σ')
   else none
  |.sl l i v off n w' =>
   match cells? σ l i v with
   |some cs =>
    if w'=w∧off+n*w≤cs.length∧(n+m)*bytes≤room then
     if l+1=σ.length then
      some (.sl l i (v+1) 0 (n+m) w,aV σ l i (.cells (v+1) ((cs.drop off).take (n*w)++xs)))
     else
      let r:=cJ.frzL (cJ l deep) xs σ
      some (.sl l i (v+1) 0 (n+m) w,aV r.2 l i (.cells (v+1) ((cs.drop off).take (n*w)++r.1)))
    else none
   |none=>none
  |_=>none
def bH(e:Env)(σ:SK):K→Option (D×SK)
 |.mv x=>some (bg e x,σ)
 |.qh w=>do
  let (l,i,σ')←iC σ (.cells 0 [])
  some (.sl l i 0 0 0 w,σ')
 |.pick c a b =>
  match bg e c with
  |.bool t=>some (if t then bg e a else bg e b,σ)
  |_=>none
 |.Hg nb cs=>do
  let (cs',σ1)←lq nb cs σ
  let (l,i,σ')←iC σ1 (.cells 0 cs')
  some (.ref l i 0 0,σ')
 |.Ir x=>(bg e x).cells.map fun cs=>(.bB cs,σ)
 |.Is x=>do
  let cs←(bg e x).cells
  let (l,i,σ')←iC σ (.cells 0 cs)
  some (.ref l i 0 0,σ')
 |.bxn nb x=>do
  let cs←(bg e x).cells
  let (cs',σ1)←lq nb cs σ
  let (l,i,σ')←iC σ1 (.cells 0 cs')
  some (.ref l i 0 0,σ')
 |.fm .. => none
 |.E2 _=>none
 |.Gt .. => none
 |.S0 v ag sz a =>
  match sA e v a with
  |some (_,cs,off) =>
   let cs:=cs.drop off
   if sz≤cs.length then
    if ag then some (.agg (cs.take sz),σ)else
    match cs with
    |d::_=>some (d,σ)
    |[]=>none
   else none
  |none=>none
 |.l9 zero parts=>do
  let cs←sy e parts zero
  some (.agg cs,σ)
 |.uU n _ zero parts=>do
  let cs←sy e parts zero
  some (.aH n cs,σ)
 |.MX n w zero parts=>do
  let cs←sy e parts zero
  let (l,i,σ')←iC σ (.cells 0 cs)
  some (.sl l i 0 0 n w,σ')
 |.ld ag sz a =>
  match Fq σ (bg e a)with
  |some cs =>
   if sz≤cs.length then
    if ag then some (.agg (cs.take sz),σ)else
    match cs with
    |d::_=>some (d,σ)
    |[]=>none
   else none
  |none=>none
 |.SY ag sz a =>
  match S3 σ (bg e a)with
  |some cs =>
   if sz≤cs.length then
    if ag then some (.agg (cs.take sz),σ)else
    match cs with
    |d::_=>some (d,σ)
    |[]=>none
   else none
  |none=>none
 |.SZ ag sz a =>
  match bg e a with
  |.bB cs =>
   if sz≤cs.length then
    if ag then some (.agg (cs.take sz),σ)else
    match cs with
    |d::_=>some (d,σ)
    |[]=>none
   else none
  |_=>none
 |.SX ps neg x=>(Ix ps (bg e x)).map fun b=>(.bool (if neg then !b else b),σ)
 |.mW x =>
  match bg e x with
  |.bB cs=>some (.bB cs,σ)
  |.ref l i v off=>some (.ref l i v off,σ)
  |_=>none
 |.st nb sz a x =>
  match bg e a with
  |.ref l i v off =>
   match cells? σ l i v with
   |some cs =>
    match(bg e x).cells with
    |some p =>
     if p.length=sz∧off+sz≤cs.length then
      if l+1=σ.length then
       match lq nb p σ with
       |some (p',σ1)=>some (.undef,aV σ1 l i (.cells v (cs.take off++p'++cs.drop (off+sz))))
       |none=>none
      else
       let r:=cJ.frzL (cJ l deep) p σ
       some (.undef,aV r.2 l i (.cells v (cs.take off++r.1++cs.drop (off+sz))))
     else none
    |none=>none
   |none=>none
  |_=>none
 |.MJ os sz a x =>
  match bg e a with
  |.ref l i v off =>
   if(os.all fun t=>D.off l i (get e t))=true then
    match cells? σ l i v with
    |some cs =>
     match(bg e x).cells with
     |some p =>
      if p.length=sz∧off+sz≤cs.length∧(D.bJ p=true∨l+1=σ.length)then some (.undef,aV σ l i (.cells v (cs.take off++p++cs.drop (off+sz))))else none
     |none=>none
    |none=>none
   else none
  |_=>none
 |.bin o x y=>(tX o (bg e x) (bg e y)).map (·,σ)
 |.eqv ag ks neg x y =>
  match(bg e x).row ag,(bg e y).row ag with
  |some p,some q=>(Ac ks p q).map fun b=>(.bool (if neg then !b else b),σ)
  |_,_=>none
 |.un o x =>
  match o,bg e x with
  |.not,.bool b=>some (.bool !b,σ)
  |.neg,.int k n=>some (.int k (k.wrap (0-n)),σ)
  |.xor,.int k n=>some (.int k (k.wrap ((BitVec.ofInt k.bits (if k.signed then -1 else k.max) ^^^ BitVec.ofInt k.bits n).toNat:Int)),σ)
  |_,_=>none
 |.J6 k x =>
  match bg e x with
  |.int _ n=>some (.int k (k.wrap n),σ)
  |_=>none
 |.xW f first cap=>some (.fn f (first.map (bg e)) (cap.map (bg e)),σ)
 |.mks w bytes zero l c =>
  match bg e l,bg e c with
  |.int .i64 n,.int .i64 m =>
   if 0≤n∧n=m∧n*bytes≤(room:Int)∧zero.length=w then do
    let (l,i,σ')←iC σ (.cells 0 ((List.range n.toNat).flatMap fun _=>zero))
    some (.sl l i 0 0 n.toNat w,σ')
   else none
  |_,_=>none
 |.IF w x lo hi mx =>
  match bg e x with
  |.aH n cs=>(bounds n e lo hi mx).map fun b=>(.aH (b.2-b.1) ((cs.drop (b.1*w)).take ((b.2-b.1)*w)),σ)
  |.sl l i v off n w'=>if w'=w then(bounds n e lo hi mx).map fun b=>(.sl l i v (off+b.1*w) (b.2-b.1) w,σ)else none
  |.aK=>(bounds 0 e lo hi mx).map fun _=>(.aK,σ)
  |_=>none
 |.Od len w x lo hi =>
  match bg e x with
  |.bB cs=>(bounds len e lo hi none).map fun b=>(.aH (b.2-b.1) ((cs.drop (b.1*w)).take ((b.2-b.1)*w)),σ)
  |.ref l i v off =>
   match cells? σ l i v with
   |some cs=>if len≤1000000∧off+len*w≤cs.length then(bounds len e lo hi none).map fun b=>(.sl l i v (off+b.1*w) (b.2-b.1) w,σ)else none
   |none=>none
  |_=>none
 |.Iu off x =>
  match x with
  |.t n =>
   match get e n with
   |.bB cs=>some (.bB (cs.drop off),σ)
   |.ref l i v o=>some (.ref l i v (o+off),σ)
   |.own s _=>some (.vr n s off,σ)
   |.vr v s o=>some (.vr v s (o+off),σ)
   |_=>none
  |.c _=>none
 |.fld ag off sz x =>
  match bg e x with
  |.agg cs =>
   if off+sz≤cs.length then
    if ag then some (.agg ((cs.drop off).take sz),σ)else(cs[off]?).map (·,σ)
   else none
  |_=>none
 |.Bw len w x i =>
  match x,Ef (bg e i)with
  |.t m,some n =>
   if 0≤n∧n<len then
    match get e m with
    |.bB cs=>some (.bB ((cs.drop (n.toNat*w)).take w),σ)
    |.ref l j v off=>some (.ref l j v (off+n.toNat*w),σ)
    |.own s _=>some (.vr m s (n.toNat*w),σ)
    |.vr v s o=>some (.vr v s (o+n.toNat*w),σ)
    |_=>none
   else none
  |_,_=>none
 |.fM w x i =>
  match bg e x,Ef (bg e i)with
  |.aH m cs,some n=>if 0≤n∧n<m then some (.bB ((cs.drop (n.toNat*w)).take w),σ)else none
  |.sl l j v off m w',some n=>if 0≤n∧n<m∧w'=w then some (.ref l j v (off+n.toNat*w),σ)else none
  |_,_=>none
 |.Kf ag len w x i =>
  match bg e x,Ef (bg e i)with
  |.agg cs,some n =>
   if 0≤n∧n<len∧(n.toNat+1)*w≤cs.length then
    if ag then some (.agg ((cs.drop (n.toNat*w)).take w),σ)else(cs[n.toNat*w]?).map (·,σ)
   else none
  |_,_=>none
 |.Iy x =>
  match bg e x with
  |.aK=>some (.int .i64 0,σ)
  |.aH n _=>some (.int .i64 n,σ)
  |.sl _ _ _ _ n _=>some (.int .i64 n,σ)
  |_=>none
 |.NT n=>some (.int .i64 n,σ)
 |.mn x y =>
  match bg e x,bg e y with
  |.int k a,.int _ b=>some (.int k (min a b),σ)
  |_,_=>none
 |.mx x y =>
  match bg e x,bg e y with
  |.int k a,.int _ b=>some (.int k (max a b),σ)
  |_,_=>none
 |.app w bytes s x=>do
  let (m,xs)←elems σ w (bg e x)
  match bg e s with
  |.aK =>
   if m*bytes≤room then
    if m=0 then some (.aH 0 [],σ)else do
    let (l,i,σ')←iC σ (.cells 0 xs)
    some (.sl l i 0 0 m w,σ')
   else none
  |.sl l i v off n w' =>
   match cells? σ l i v with
   |some cs =>
    if w'=w∧off+n*w≤cs.length∧(n+m)*bytes≤room then
     if l+1=σ.length then
      some (.sl l i (v+1) 0 (n+m) w,aV σ l i (.cells (v+1) ((cs.drop off).take (n*w)++xs)))
     else
      let r:=cJ.frzL (cJ l deep) xs σ
      some (.sl l i (v+1) 0 (n+m) w,aV r.2 l i (.cells (v+1) ((cs.drop off).take (n*w)++r.1)))
    else none
   |none=>none
  |_=>none
 |.RN os w bytes s x =>
  match bg e s with
  |.sl l i _ _ _ _=>if(os.all fun t=>D.off l i (get e t))=true then(elems σ w (bg e x)).bind fun r=>if D.bJ r.2=true then JZ e σ w bytes s x else none else none
  |_=>none
 |.apz w bytes s x=>(JZ e σ w bytes s x).map fun r=>cJ 0 deep r.1 r.2
 |.T4 w bytes x=>do
  let (m,xs)←elems σ w (bg e x)
  if m*bytes≤room then some (.aH m xs,σ)else none
 |.cvz x =>
  match bg e x with
  |.sl l i v off n w =>
   if 0<n then
    match cells? σ l i v with
    |some cs=>some (.aH n ((cs.drop off).take (n*w)),aV σ l i .dead)
    |none=>none
   else none
  |_=>none
 |.bse=>some (.emp,σ)
 |.ape w bytes v x =>
  match get e v with
  |.emp=>(elems σ w (bg e x)).bind fun r=>if r.1*bytes≤room then some (.aH r.1 r.2,σ)else none
  |_=>none
 |.ext x i =>
  match bg e x with
  |.dV ds=>(ds[i]?).map (·,σ)
  |_=>none
 |.zf o xs=>(EH o (xs.map (bg e))).map (·,σ)
 |.mp o xs=>AY σ o (xs.map (bg e))
 |.me o xs=>NX σ o (xs.map (bg e))
 |.mki t x=>some (.uH t (bg e x),σ)
 |.tas t z x=>(Oq t z (bg e x)).map (·,σ)
 |.isi neg x=>(aeC (bg e x)).map fun b=>(.bool (if neg then !b else b),σ)
 |.MZ _=>none
 |.M0=>none
 |.call _ _ _=>none
def R.bq:Option R→Option (D×SK)
 |some (.val d σ)=>some (d,σ)
 |_=>none
def R.RY:Option R→Option (Exit×Env×SK)
 |some (.CJ e env σ)=>some (e,env,σ)
 |_=>none
def pQ(O:bM)(kp:Bool)(fv:D)(args:List D)(σ:SK):Option (D×SK) :=
 match fv with
 |.fn f first cap=>R.bq (O (.call kp f (first++args++cap) σ))
 |.l7 l i=>R.bq (O (.round l i args σ))
 |_=>none
def FR(O:bM)(fv:D)(args:List D)(σ:SK):Option (D×SK) :=
 match fv with
 |.fn f first cap=>R.bq (O (.call false f (first++args++cap) σ))
 |_=>none
def wg(O:bM)(op:Op)(e:Env)(σ:SK):Option (Env×SK) :=
 match op.k with
 |.call kp f args =>
  match pQ O kp (bg e f) (args.map (bg e)) σ with
  |some (d,σ')=>if op.AI=true→σ'=σ then some (put op.dst d e,σ')else none
  |none=>none
 |.fm nb cs =>
  match op.dst,lq nb cs σ with
  |some v,some (cs',σ')=>some ((v,.own (uP e v) cs')::e,σ')
  |_,_=>none
 |.E2 x =>
  match op.dst,(bg e x).cells with
  |some v,some cs=>some ((v,.own (uP e v) cs)::e,σ)
  |_,_=>none
 |.Gt v nb sz a x =>
  match sA e v a,(bg e x).cells with
  |some (s,cs,off),some p =>
   if p.length=sz∧off+sz≤cs.length then
    match lq nb p σ with
    |some (p',σ')=>some ((v,.own s (cs.take off++p'++cs.drop (off+sz)))::e,σ')
    |none=>none
   else none
  |_,_=>none
 |k=>(bH e σ k).map fun x=>(put op.dst x.1 e,x.2)
def D.bit:D→Option (Option Bool)
 |.bool b=>some (some b)
 |.dV []=>some none
 |_=>none
def mT(O:bM):List Op→Env→SK→Option (Env×SK)
 |[],e,σ=>some (e,σ)
 |op::r,e,σ =>
  match op.Dm with
  |none=>(wg O op e σ).bind fun x=>mT O r x.1 x.2
  |some (g,want) =>
   match(get e g).bit with
   |some y=>if y=some want then(wg O op e σ).bind fun x=>mT O r x.1 x.2 else mT O r (put op.dst (.dV []) e) σ
   |none=>none
def D.wQ:D→D
 |.aK => .aH 0 []
 |d=>d
def D8(l i u:Nat)(σ:SK):D×SK :=
 match cells? σ l i u with
 |some cs=>let r:=cJ.frzL (cJ 0 deep) cs (aV σ l i .dead);(.bB (r.1.map D.wQ),r.2)
 |none=>(.undef,σ)
def Iv(v:Nat)(e:Env)(σ:SK):Env×SK :=
 match get e v with
 |.aK=>((v,.aH 0 [])::e,σ)
 |.ref l i u 0=>let r:=D8 l i u σ;((v,r.1)::e,r.2)
 |.own s cs=>((v,.own s (cs.map D.wQ))::e,σ)
 |_=>(e,σ)
def vj:List Nat→Env→SK→Env×SK
 |[],e,σ=>(e,σ)
 |v::vs,e,σ =>
  match get e v with
  |.sl l i u off m w=>let r:=cJ 0 deep (.sl l i u off m w) σ;vj vs ((v,r.1)::e) r.2
  |.own s cs=>let r:=cJ.frzL (cJ 0 deep) cs σ;vj vs ((v,.own s r.1)::e) r.2
  |.agg cs=>vj vs ((v,.agg (cs.map D.wQ))::e) σ
  |.undef=>if 1000000≤v then(let r:=Iv (v-1000000) e σ;vj vs r.1 r.2)else vj vs e σ
  |_=>vj vs e σ
def AE(O:bM)(fv:D)(args:List D)(σ:SK):Option R :=
 match fv with
 |.fn f first cap=>O (.call false f (first++args++cap) σ)
 |_=>none
def uZ(O:bM)(live:List Nat)(dst:Option Nat)(post:List Op)(e:Env):Option R→Option (Exit×Env×SK)
 |some (.val d σ')=>(mT O post (put dst d e) σ').map fun y=>(.normal,restrict live y.1,y.2)
 |some (.gf d σ')=>some (.gf d,e,σ')
 |_=>none
def Gl(O:bM)(live:List Nat)(op:Op)(post:List Op)(e:Env)(σ:SK):Option (Exit×Env×SK) :=
 match op.Dm,op.k with
 |none,.call false f args=>uZ O live op.dst post e (AE O (bg e f) (args.map (bg e)) σ)
 |none,.MZ x=>(match bg e x with
  |.uH t d=>if d.clean then some (.gf (.uH t d),e,σ)else none
  |_=>none)
 |_,_=>none
def aW(O:bM):cF→Env→SK→Option (Exit×Env×SK)
 |.eo,e,σ=>some (.normal,e,σ)
 |.cJ vs,e,σ=>let r:=vj vs e σ;some (.normal,r.1,r.2)
 |.cr live ops,e,σ=>(mT O ops e σ).map fun x=>(.normal,restrict live x.1,x.2)
 |.seq a b,e,σ=>(aW O a e σ).bind fun x =>
  match x.1 with
  |.normal=>aW O b x.2.1 x.2.2
  |_=>some x
 |.ite c a b,e,σ =>
  match bg e c with
  |.bool t=>if t then aW O a e σ else aW O b e σ
  |_=>none
 |.bO id a,e,σ=>(aW O a e σ).map fun x =>
  match x.1 with
  |.exit j=>if j=id then(.normal,x.2)else x
  |_=>x
 |.loop live bj a,e,σ=>R.RY (O (.loop live bj a e σ))
 |.IC live f params zd body,e,σ =>
  match iC σ (.loop {state:=0,wv:=none,env:=xQ live e,params,zd,body })with
  |some (l,i,σ1) =>
   match FR O (bg e f) [.l7 l i] σ1 with
   |some (_,σ2) =>
    match ef σ2 l i with
    |some (.loop lp) =>
     if lp.state=1 then none else
     some (lp.wv.getD .normal,restrict live e,aV σ2 l i (.loop {lp with state:=3 }))
    |_=>none
   |none=>none
  |none=>none
 |.ji live it nx ok b a rest,e,σ=>R.RY (O (.ji live it nx ok b a rest e σ))
 |.iY live pre op post,e,σ=>(mT O pre e σ).bind fun x=>Gl O live op post x.1 x.2
 |.RZ ..,_,_=>none
 |.sgm a,e,σ=>(aW O a e ([]::σ)).map fun x=>(x.1,(pV (σ.length-1) (restrict (keys x.2.1) x.2.1) x.2.2).1,(pV (σ.length-1) (restrict (keys x.2.1) x.2.1) x.2.2).2.tail)
 |.exit id,e,σ=>some (.exit id,e,σ)
 |.ret,e,σ=>some (.ret,e,σ)
inductive DG where
 |t (n:Nat)
 |c (n:Nat) (ag:Bool) (sz:Nat)
 |v (n:Nat) (ag:Bool) (sz:Nat)
structure Fn where
 N1:Nat
 res:List DG
 body:cF
def HV(e:Env)(σ:SK):DG→Option D
 |.t n=>some (get e n).strip
 |.c n ag sz=>(bH e σ (.ld ag sz (.t n))).map (·.1)
 |.v n ag sz=>(bH e σ (.S0 n ag sz n)).map (·.1)
def zD(e:Env)(σ:SK):List DG→Option (List D)
 |[]=>some []
 |r::rs=>(HV e σ r).bind fun d=>(zD e σ rs).map fun ds=>d::ds
def uI:List D→D
 |[d]=>d
 |ds => .dV ds
def nU(n:Nat):List D→Env
 |[]=>[]
 |d::ds=>(n,d)::nU (n+1) ds
def Ao:List Nat→List D→Env→Env
 |t::ts,d::ds,e=>Ao ts ds ((t,d)::e)
 |_,_,e=>e
abbrev yR:=Nat→Option Fn
def aeA:List D→Option (List Int)
 |[]=>some []
 |.int .i64 z::r=>(aeA r).map (z :: ·)
 |_=>none
def agX(x:Int):List Int→List Int
 |[]=>[x]
 |y::l=>if x≤y then x::y::l else y::agX x l
def Rf:List Int→List Int
 |[]=>[]
 |x::l=>agX x (Rf l)
def aey(l:List Int):List D:=l.map (.int .i64)
def Lt(x:Int):List Int→List Int
 |[]=>[]
 |y::l=>if y=x then Lt x l else y::Lt y l
def I4:List Int→List Int
 |[]=>[]
 |x::l=>x::Lt x l
def ae0(k:Nat)(zs:List Int):List Int:=if k=1 then Rf zs else I4 zs++List.replicate (zs.length-(I4 zs).length) 0
def aru(k l i v off:Nat)(zs:List Int):D:=if k=1 then .dV []else .sl l i v off (I4 zs).length 1
def avJ(k:Nat)(args:List D)(σ:SK):Option R :=
 match args with
 |[.sl l i v off n w] =>
  if n≠0∧w=1∧n≤1000000 then
   match cells? σ l i v with
   |some cs =>
    if off+n≤cs.length then
     match aeA ((cs.drop off).take n)with
     |some zs=>some (.val (aru k l i v off zs) (aV σ l i (.cells v (cs.take off++aey (ae0 k zs)++cs.drop (off+n)))))
     |none=>none
    else none
   |none=>none
  else none
 |_=>none
def T6:Nat→Nat→List UInt8
 |0,_=>[]
 |k+1,u=>if u<10 then [UInt8.ofNat (48+u)]else T6 k (u / 10)++[UInt8.ofNat (48+u%10)]
def Jh(n:Int):List UInt8:=if n<0 then 45::T6 20 n.natAbs else T6 20 n.toNat
def Ay:List D→Option (List (List UInt8))
 |[]=>some []
 |.str s::r=>(Ay r).map (s :: ·)
 |_=>none
def QL(sep:List UInt8):List (List UInt8)→List UInt8
 |[]=>[]
 |x::r=>x++r.flatMap (sep ++ ·)
def gY(b:UInt8):List UInt8→List (List UInt8)
 |[]=>[[]]
 |c::r=>if c=b then []::gY b r else match gY b r with
  |x::l=>(c::x)::l
  |[]=>[[c]]
def vL(s:List UInt8):Nat×Int :=
 match Lib.atoiAll s with
 |.ok v=>(0,v)
 |Lib.NumEnd.syntax=>(1,0)
 |.range=>(2,Lib.atoiSat s)
def zo(a b:Nat)(xs:List (List UInt8)):List (List UInt8):=xs.take a++xs.drop b++List.replicate (b-a) []
def Fj(k:Nat)(args:List D)(σ:SK):Option R :=
 match k%16,args with
 |3,[.int .i64 n]=>if -9223372036854775808≤n∧n≤9223372036854775807 then some (.val (.str (Jh n)) σ)else none
 |4,[.str s]=>if s.length≤1000000 then some (.val (.dV [.int .i64 (vL s).2,if(vL s).1=0 then .pN else .uH (k / 16) .undef]) σ)else none
 |5,[.aH n cs,.str sep] =>
  match Ay cs with
  |some xs=>if n=xs.length∧n≤1000∧(QL sep xs).length≤1000000 then some (.val (.str (QL sep xs)) σ)else none
  |none=>none
 |6,[.str s,.str [b]]=>if s.length≤1000000 then some (.val (.aH (gY b s).length ((gY b s).map .str)) σ)else none
 |7,[.l7 l i,.str s] =>
  match cells? σ l i 2 with
  |some [.int .i64 t,.int .i64 e,.str bs] =>
   if t=((k / 16%65536:Nat):Int)∧e=((k / 16 / 65536:Nat):Int)∧bs.length+s.length≤1000000 then
    some (.val (.dV [.int .i64 s.length,.pN]) (aV σ l i (.cells 2 [.int .i64 t,.int .i64 e,.str (bs++s)])))
   else none
  |_=>none
 |8,[.l7 l i] =>
  match cells? σ l i 2 with
  |some [.int .i64 t,.int .i64 e,.str bs]=>if t=((k / 16%65536:Nat):Int)∧e=((k / 16 / 65536:Nat):Int)∧bs≠[]then some (.val (.str bs) σ)else none
  |_=>none
 |9,[.sl l i v off n w,.int .i64 a,.int .i64 b] =>
  if n≠0∧w=1∧n≤1000000∧0≤a∧a≤b∧b≤(n:Int)then
   match cells? σ l i v with
   |some cs =>
    if off+n≤cs.length then
     match Ay ((cs.drop off).take n)with
     |some xs=>some (.val (.sl l i v off (n-(b.toNat-a.toNat)) 1) (aV σ l i (.cells v (cs.take off++(zo a.toNat b.toNat xs).map .str++cs.drop (off+n)))))
     |none=>none
    else none
   |none=>none
  else none
 |0,_=>none
 |9,_=>none
 |10,_=>none
 |11,_=>none
 |12,_=>none
 |13,_=>none
 |14,_=>none
 |15,_=>none
 |1,args=>avJ 1 args σ
 |2,args=>avJ 2 args σ
 |_,_=>none
def F1(σ:SK)(l i:Nat):Option (D×Nat×List D×List Nat) :=
 match cells? σ l i 1 with
 |some (m::.int .i64 n::js) =>
  match AX σ m with
  |some (_,_,es)=>if(es.length:Int)=n then some (m,es.length,js,(List.range es.length).filter fun j => !(js.contains (.int .i64 j)))else none
  |none=>none
 |_=>none
def agree:List (Option R)→Option R
 |[]=>none
 |r::rs=>if ∀x∈rs,x=r then r else none
def xC(O:bM)(l i b:Nat)(rest:cF):Option (Exit×Env×SK)→Option R
 |some (.exit j,e1,σ1) =>
  if j=b then(aW O rest e1 (aV σ1 l i .dead)).map fun x => .CJ x.1 x.2.1 x.2.2
  else some (.CJ (.exit j) e1 (aV σ1 l i .dead))
 |some (.ret,e1,σ1)=>some (.CJ .ret e1 (aV σ1 l i .dead))
 |_=>none
def AH(O:bM)(live:List Nat)(it:bG)(l i nx ok b:Nat)(c rest:cF):Option (Exit×Env×SK)→Option R
 |some (.normal,e1,σ1)=>O (.ji live it nx ok b c rest e1 σ1)
 |y=>xC O l i b rest y
def jl:cF→Option (cF×bG×List bG×cF)
 |.RZ f args q=>some (.eo,f,args,q)
 |.seq a b=>(jl b).map fun x=>(.seq a x.1,x.2)
 |_=>none
def Ot(kp:Bool)(d:D):SK→Option R
 |_::σ=>if kp=false∧d.clean=true then some (.gf d σ)else none
 |[]=>none
def leave(res:List DG)(σ:SK)(e:Env)(σ1:SK):Option R :=
 match zD e σ1 res with
 |some ds=>(match cJ (σ.length-1) deep (uI ds) σ1 with
  |(d,_::σ2)=>some (.val d σ2)
  |_=>none)
 |none=>none
def rJ(O:bM)(fv:D)(args:List D)(th:Option D)(σ:SK):Option R :=
 match fv with
 |.fn f first cap=>O (.yc f (first++args++cap) th σ)
 |_=>none
def vg(res:List DG)(σ:SK)(e:Env):Option R→Option R
 |some (.val _ σ1)=>leave res σ e σ1
 |_=>none
def zp(O:bM)(res:List DG)(σ:SK)(fv:D)(args:List D):Option (Exit×Env×SK)→Option R
 |some (.gf d,e,σ1)=>vg res σ e (rJ O fv args (some d) σ1)
 |some (.normal,e,σ1)=>vg res σ e (rJ O fv args none σ1)
 |some (.ret,e,σ1)=>vg res σ e (rJ O fv args none σ1)
 |_=>none
def zn(O:bM)(fn:Fn)(σ:SK):Option (cF×bG×List bG×cF)→Env→SK→Option R
 |some (a,f,args,q),e0,σ0 =>
  (match aW O a e0 σ0 with
  |some (.normal,e,σ1)=>zp O fn.res σ (bg e f) (args.map (bg e)) (aW O q e σ1)
  |_=>none)
 |none,_,_=>none
def sJ(th:Option D)(args:List D):cF→Option (Env×cF)
 |.seq (.cr live [⟨some t,none,_,.M0⟩]) q=>(match q with
  |.ji .. => none
  |q=>some (restrict live ((t,th.getD .pN)::nU 0 args),q))
 |_=>none
def dB(T:yR)(O:bM):Q→Option R
 |.call kp f args σ =>
  match T f with
  |some fn =>
   if args.length=fn.N1 then
    match aW O fn.body (nU 0 args) (if kp then σ else []::σ)with
    |some (.exit _,_,_)=>none
    |some (.gf d,_,σ1)=>Ot kp d σ1
    |some (_,e,σ1) =>
     match zD e σ1 fn.res with
     |some ds =>
      if kp then some (.val (uI ds) σ1)else
      match cJ (σ.length-1) deep (uI ds) σ1 with
      |(d,_::σ2)=>some (.val d σ2)
      |_=>none
     |none=>none
    |none=>if kp then none else zn O fn σ (jl fn.body) (nU 0 args) ([]::σ)
   else none
  |none =>
   match T (1000000+f)with
   |some fn=>Fj fn.N1 args σ
   |none=>none
 |.loop live bj c e σ =>
  match aW O c (restrict live e) (if bj then []::σ else σ)with
  |some (x,e1,σ1) =>
   let (e2,σ2):=if bj then(let r:=pV (σ.length-1) (restrict (y8 live x e1) e1) σ1;(r.1,r.2.tail))else(e1,σ1)
   match x with
   |.normal=>O (.loop live bj c e2 σ2)
   |x=>some (.CJ x e2 σ2)
  |none=>none
 |.round l i args σ =>
  match ef σ l i with
  |some (.loop lp) =>
   if args.length=lp.params.length then
    match aW O lp.zd (Ao lp.params args lp.env) ([]::σ)with
    |some (.normal,e1,σ1) =>
     match ef σ1 l i with
     |some (.loop lp1) =>
      if lp1.state=0 then
       match aW O lp.body e1 (aV σ1 l i (.loop {lp1 with state:=1 }))with
       |some (x,_,_::σ2) =>
        match ef σ2 l i with
        |some (.loop lp2) =>
         match x with
         |.gf _=>none
         |.normal=>some (.val (.bool true) (aV σ2 l i (.loop {lp2 with state:=0,wv:=none })))
         |x=>some (.val (.bool false) (aV σ2 l i (.loop {lp2 with state:=2,wv:=some x })))
        |_=>none
       |_=>none
      else none
     |_=>none
    |_=>none
   else none
  |_=>none
 |.ji live it nx ok b c rest e σ =>
  match bg (restrict live e) it with
  |.l7 l i =>
   match F1 σ l i with
   |some (_,_,_,[])=>xC O l i b rest (aW O c ((ok,.bool false)::(nx,.undef)::restrict live e) σ)
   |some (m,n,js,us)=>agree (us.map fun u=>AH O live it l i nx ok b c rest (aW O c ((ok,.bool true)::(nx,.undef)::restrict live e) (aV σ l i (.cells 1 (m::.int .i64 (n:Nat)::.int .i64 (u:Nat)::js)))))
   |none=>none
  |_=>none
 |.yc f args th σ =>
  match T f with
  |some fn =>
   if args.length=fn.N1 then
    match sJ th args fn.body with
    |some (e0,q) =>
     match aW O q e0 ([]::σ)with
     |some (.exit _,_,_)=>none
     |some (.gf _,_,_)=>none
     |some (_,e,σ1) =>
      match zD e σ1 fn.res,σ1 with
      |some [],_::σ2=>some (.val (.dV []) σ2)
      |_,_=>none
     |none=>none
    |none=>none
   else none
  |none=>none
def it(T:yR):Nat→bM
 |0=>fun _=>none
 |n+1=>dB T (it T n)
open Classical in
noncomputable def lim(T:yR):bM:=fun q =>
 if h:∃n r,it T n q=some r then some h.choose_spec.choose else none
end Go.Abs
