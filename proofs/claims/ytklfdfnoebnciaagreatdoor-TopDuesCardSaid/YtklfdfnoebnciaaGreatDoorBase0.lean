import GoSem.Core.View
import Derived.Lib.AtoiAll
set_option linter.all false
namespace Go
theorem ab:type_of%@Option.map_eq_some_iff:=@Option.map_eq_some_iff
theorem ad:type_of%@Option.some.injEq:=@Option.some.injEq
theorem ae:type_of%@Bool.and_eq_true:=@Bool.and_eq_true
theorem af:type_of%@Option.bind_eq_some_iff:=@Option.bind_eq_some_iff
theorem aN:type_of%@List.map_cons:=@List.map_cons
theorem ai:type_of%@List.mem_of_getElem?:=@List.mem_of_getElem?
theorem ah:type_of%@List.take_of_length_le:=@List.take_of_length_le
theorem aj:type_of%@Prod.mk.injEq:=@Prod.mk.injEq
theorem bS:type_of%@List.map_nil:=@List.map_nil
theorem ao:type_of%@decide_eq_true_eq:=@decide_eq_true_eq
theorem ar:type_of%@Bool.false_eq_true:=@Bool.false_eq_true
theorem aC:type_of%@Option.ite_none_right_eq_some:=@Option.ite_none_right_eq_some
theorem aw:type_of%@List.getElem?_eq_some_iff:=@List.getElem?_eq_some_iff
theorem aA:type_of%@List.drop_eq_nil_of_le:=@List.drop_eq_nil_of_le
theorem aH:type_of%@Nat.le_refl:=@Nat.le_refl
theorem aF:type_of%@List.length_cons:=@List.length_cons
theorem aL:type_of%@List.getElem?_eq_getElem:=@List.getElem?_eq_getElem
theorem aM:type_of%@Option.bind_eq_bind:=@Option.bind_eq_bind
theorem aK:type_of%@List.drop_zero:=@List.drop_zero
theorem aQ:type_of%@Option.map_some:=@Option.map_some
theorem aP:type_of%@List.length_pos_iff:=@List.length_pos_iff
theorem aY:type_of%@List.nil_append:=@List.nil_append
theorem aT:type_of%@List.flatMap_cons:=@List.flatMap_cons
theorem bw:type_of%@List.mem_cons:=@List.mem_cons
theorem aZ:type_of%@List.mem_append:=@List.mem_append
theorem bd:type_of%@Int.tdiv_eq_ediv_of_nonneg:=@Int.tdiv_eq_ediv_of_nonneg
theorem bj:type_of%@List.length_nil:=@List.length_nil
theorem bO:type_of%@List.mem_map:=@List.mem_map
theorem bJ:type_of%@List.length_append:=@List.length_append
theorem bR:type_of%@List.length_eq_zero_iff:=@List.length_eq_zero_iff
theorem bW:type_of%@Bool.or_eq_true:=@Bool.or_eq_true
theorem bU:type_of%@Array.getD_eq_getD_getElem?:=@Array.getD_eq_getD_getElem?
theorem cc:type_of%@List.getElem?_cons_zero:=@List.getElem?_cons_zero
theorem cr:type_of%@Nat.zero_add:=@Nat.zero_add
theorem cF:type_of%@List.mem_filter:=@List.mem_filter
theorem jk:type_of%@List.length_map:=@List.length_map
theorem cp:type_of%@List.drop_length_add_append:=@List.drop_length_add_append
theorem dR:type_of%@Array.getElem?_eq_some_iff:=@Array.getElem?_eq_some_iff
theorem gp:type_of%@Nat.mul_one:=@Nat.mul_one
theorem ct:type_of%@Nat.mul_le_mul_right:=@Nat.mul_le_mul_right
theorem db:type_of%@List.mem_of_mem_take:=@List.mem_of_mem_take
theorem dz:type_of%@Nat.add_assoc:=@Nat.add_assoc
theorem cb:type_of%@List.flatMap_nil:=@List.flatMap_nil
theorem cJ:type_of%@Option.isSome_iff_exists:=@Option.isSome_iff_exists
theorem dG:type_of%@List.ext_getElem?:=@List.ext_getElem?
theorem cG:type_of%@Bool.not_eq_true':=@Bool.not_eq_true'
theorem dS:type_of%@List.getElem?_take:=@List.getElem?_take
theorem cC:type_of%@List.append_nil:=@List.append_nil
theorem da:type_of%@List.mem_of_mem_drop:=@List.mem_of_mem_drop
theorem dH:type_of%@Nat.succ_mul:=@Nat.succ_mul
theorem eC:type_of%@Int.toNat_of_nonneg:=@Int.toNat_of_nonneg
theorem dp:type_of%@Int.mul_nonneg:=@Int.mul_nonneg
theorem eG:type_of%@List.singleton_append:=@List.singleton_append
theorem dF:type_of%@List.getElem?_eq_none:=@List.getElem?_eq_none
theorem fj:type_of%@Option.getD_some:=@Option.getD_some
theorem fg:type_of%@List.cons_append:=@List.cons_append
theorem fe:type_of%@Array.toList_inj:=@Array.toList_inj
theorem iB:type_of%@Nat.le_trans:=@Nat.le_trans
theorem gY:type_of%@List.getElem?_drop:=@List.getElem?_drop
theorem iG:type_of%@Nat.add_mul:=@Nat.add_mul
theorem fh:type_of%@List.getElem?_of_mem:=@List.getElem?_of_mem
theorem bK:type_of%@Int.mul_le_mul_of_nonneg_right:=@Int.mul_le_mul_of_nonneg_right
theorem dE:type_of%@List.flatMap_append:=@List.flatMap_append
theorem iA:type_of%@List.all_cons:=@List.all_cons
theorem gM:type_of%@List.length_filter_le:=@List.length_filter_le
theorem gL:type_of%@List.getElem?_toArray:=@List.getElem?_toArray
theorem gn:type_of%@List.cons.injEq:=@List.cons.injEq
theorem oK:type_of%@Array.getElem?_modify:=@Array.getElem?_modify
theorem oO:type_of%@List.getElem?_map:=@List.getElem?_map
theorem oN:type_of%@List.append_assoc:=@List.append_assoc
theorem kY:type_of%@List.getElem?_mapIdx:=@List.getElem?_mapIdx
theorem gH:type_of%@List.getElem?_append_left:=@List.getElem?_append_left
theorem eK:type_of%@List.drop_drop:=@List.drop_drop
theorem jZ:type_of%@Int.mul_le_mul:=@Int.mul_le_mul
theorem jV:type_of%@List.length_take:=@List.length_take
theorem gX:type_of%@List.all_eq_true:=@List.all_eq_true
theorem kX:type_of%@Int.le_total:=@Int.le_total
theorem gE{α:Type}{l:List α}{i:Nat}(h:i<l.length):∃x,l[i]?=some x:=⟨_,aL h⟩
end Go
namespace Go.az
inductive D where
 |undef
 |bool (b:Bool)
 |int (k:IntKind) (n:Int)
 |str (s:List UInt8)
 |agg (cs:List D)
 |dj (cs:List D)
 |wN
 |ref (l i v off:Nat)
 |bu (cs:List D)
 |bN
 |aG (n:Nat) (cs:List D)
 |sl (l i v off n w:Nat)
 |fn (f:Nat) (first cap:List D)
 |pR
 |kJ (l i:Nat)
 |own (s:Nat) (cs:List D)
 |vr (x s off:Nat)
 |tK (t:Nat) (d:D)
 |oD
 |emp
 deriving Inhabited
mutual
def D.same:D->D->Bool
 |.undef,.undef=>true
 |.bool a,.bool b=>a == b
 |.int k n,.int k' n'=>k == k' && n == n'
 |.str a,.str b=>a == b
 |.agg a,.agg b=>D.xL a b
 |.dj a,.dj b=>D.xL a b
 |.wN,.wN=>true
 |.ref a b c d,.ref a' b' c' d'=>a == a' && b == b' && c == c' && d == d'
 |.bu a,.bu b=>D.xL a b
 |.bN,.bN=>true
 |.aG n a,.aG m b=>n == m && D.xL a b
 |.sl a b c d e f,.sl a' b' c' d' e' f'=>a == a' && b == b' && c == c' && d == d' && e == e' && f == f'
 |.fn f a b,.fn f' a' b'=>f == f' && D.xL a a' && D.xL b b'
 |.pR,.pR=>true
 |.kJ a b,.kJ a' b'=>a == a' && b == b'
 |.own s a,.own s' b=>s == s' && D.xL a b
 |.vr a b c,.vr a' b' c'=>a == a' && b == b' && c == c'
 |.tK t a,.tK t' b=>t == t' && D.same a b
 |.oD,.oD=>true
 |.emp,.emp=>true
 |_,_=>false
def D.xL:List D->List D->Bool
 |[],[]=>true
 |a::as,b::bs=>D.same a b && D.xL as bs
 |_,_=>false
end
mutual
theorem JA:∀{a b:D},D.same a b=true->a=b
 |.undef,b,h=>by cases b<;>simp[D.same]at h;rfl
 |.bool _,b,h=>by cases b<;>simp[D.same]at h;rw[h]
 |.int _ _,b,h=>by cases b<;>simp[D.same]at h;rw[h.1,h.2]
 |.str _,b,h=>by cases b<;>simp[D.same]at h;rw[h]
 |.agg _,b,h=>by cases b<;>simp[D.same]at h;rw[vl h]
 |.dj _,b,h=>by cases b<;>simp[D.same]at h;rw[vl h]
 |.wN,b,h=>by cases b<;>simp[D.same]at h;rfl
 |.ref ..,b,h=>by cases b<;>simp[D.same]at h;simp[h]
 |.bu _,b,h=>by cases b<;>simp[D.same]at h;rw[vl h]
 |.bN,b,h=>by cases b<;>simp[D.same]at h;rfl
 |.aG ..,b,h=>by cases b<;>simp[D.same]at h;rw[h.1,vl h.2]
 |.sl ..,b,h=>by cases b<;>simp[D.same]at h;simp[h]
 |.fn ..,b,h=>by cases b<;>simp[D.same]at h;rw[h.1.1,vl h.1.2,vl h.2]
 |.pR,b,h=>by cases b<;>simp[D.same]at h;rfl
 |.kJ ..,b,h=>by cases b<;>simp[D.same]at h;simp[h]
 |.own ..,b,h=>by cases b<;>simp[D.same]at h;rw[h.1,vl h.2]
 |.vr ..,b,h=>by cases b<;>simp[D.same]at h;simp[h]
 |.tK _ a,b,h=>by cases b<;>simp[D.same]at h;rw[h.1,JA h.2]
 |.oD,b,h=>by cases b<;>simp[D.same]at h;rfl
 |.emp,b,h=>by cases b<;>simp[D.same]at h;rfl
theorem vl:∀{a b:List D},D.xL a b=true->a=b
 |[],[],_=>rfl
 |[],_::_,h=>by simp[D.xL]at h
 |_::_,[],h=>by simp[D.xL]at h
 |a::as,b::bs,h=>by
  simp only[D.xL,ae]at h;rw[JA h.1,vl h.2]
end
mutual
theorem Eu:∀(a:D),D.same a a=true
 |.undef=>rfl
 |.bool b=>by simp[D.same]
 |.int k n=>by simp[D.same]
 |.str s=>by simp[D.same]
 |.agg a=>by simp[D.same,pT a]
 |.dj a=>by simp[D.same,pT a]
 |.wN=>rfl
 |.ref .. => by simp[D.same]
 |.bu a=>by simp[D.same,pT a]
 |.bN=>rfl
 |.aG n a=>by simp[D.same,pT a]
 |.sl .. => by simp[D.same]
 |.fn f a b=>by simp[D.same,pT a,pT b]
 |.pR=>rfl
 |.kJ .. => by simp[D.same]
 |.own s a=>by simp[D.same,pT a]
 |.vr .. => by simp[D.same]
 |.tK t a=>by simp[D.same,Eu a]
 |.oD=>rfl
 |.emp=>rfl
theorem pT:∀(a:List D),D.xL a a=true
 |[]=>rfl
 |a::as=>by simp[D.xL,Eu a,pT as]
end
instance:DecidableEq D:=λa b=>if h:D.same a b=true then isTrue (JA h)else isFalse λe=>h (e ▸ Eu a)
inductive bD where
 |t (n:Nat)
 |c (d:D)
 deriving Inhabited,DecidableEq
inductive Pu where
 |Si
 |MA
 |X2
 |ME (lo hi:Bool)
 |seq (neg:Bool)
 deriving Inhabited,DecidableEq
def CT:Pu->List D->Option D
 |.Si,[.str s]=>some (.int .i64 s.length)
 |.MA,[.str s,.int _ i]=>if 0<=i then(s[i.toNat]?).map λb => .int .u8 b.toNat else none
 |.X2,[.str a,.str b]=>if a.length+b.length<=4611686018427387904 then some (.str (a++b))else none
 |.ME true true,[.str s,.int _ i,.int _ j]=>if 0<=i/\i<=j/\j<=s.length then some (.str ((s.drop i.toNat).take (j.toNat-i.toNat)))else none
 |.ME true false,[.str s,.int _ i]=>if 0<=i/\i<=s.length then some (.str (s.drop i.toNat))else none
 |.ME false true,[.str s,.int _ j]=>if 0<=j/\j<=s.length then some (.str (s.take j.toNat))else none
 |.ME false false,[.str s]=>some (.str s)
 |.seq neg,[.str a,.str b]=>some (.bool (if neg then !(a == b)else a == b))
 |_,_=>none
abbrev Ky:=Option (Bool×List (Option IntKind))
inductive Mo where
 |make
 |IZ (t e:Nat)
 |get (ky:Ky) (zero:D) (ok:Bool)
 |put (ky:Ky)
 |len
 |rng
 |Yn
 deriving Inhabited,DecidableEq
inductive Me where
 |b2s
 |s2b
 |s2a (n w:Nat)
 |peq (neg:Bool)
 deriving Inhabited,DecidableEq
inductive K where
 |mv (x:bD)
 |GJ (w:Nat)
 |pick (c a b:bD)
 |Ox (nb:List (Nat×Nat)) (cs:List D)
 |Ag (nb:List (Nat×Nat)) (cs:List D)
 |Hn (x:bD)
 |Ho (x:bD)
 |SG (nb:List (Nat×Nat)) (x:bD)
 |D6 (x:bD)
 |IZ (zero:List D) (parts:List (Nat×Nat×bD))
 |TE (n w:Nat) (zero:List D) (parts:List (Nat×Nat×bD))
 |QH (n w:Nat) (zero:List D) (parts:List (Nat×Nat×bD))
 |ld (ag:Bool) (sz:Nat) (a:bD)
 |T1 (ag:Bool) (sz:Nat) (a:bD)
 |PD (ag:Bool) (sz:Nat) (a:bD)
 |TV (ps neg:Bool) (x:bD)
 |T7 (x:bD)
 |st (nb:List (Nat×Nat)) (sz:Nat) (a x:bD)
 |Pv (os:List Nat) (sz:Nat) (a x:bD)
 |PE (v:Nat) (ag:Bool) (sz:Nat) (a:Nat)
 |G6 (v:Nat) (nb:List (Nat×Nat)) (sz:Nat) (a:Nat) (x:bD)
 |bin (o:BinOp) (x y:bD)
 |eqv (ag:Bool) (ks:List (Option IntKind)) (neg:Bool) (x y:bD)
 |un (o:UnOp) (x:bD)
 |QN (k:IntKind) (x:bD)
 |Rz (f:Nat) (first cap:List bD)
 |RB (w bytes:Nat) (zero:List D) (l c:bD)
 |SL (w:Nat) (x:bD) (lo hi mx:Option bD)
 |MB (len w:Nat) (x:bD) (lo hi:Option bD)
 |Hq (off:Nat) (x:bD)
 |Yr (ag:Bool) (off sz:Nat) (x:bD)
 |Fh (len w:Nat) (x i:bD)
 |Fi (w:Nat) (x i:bD)
 |Je (ag:Bool) (len w:Nat) (x i:bD)
 |Hv (x:bD)
 |Mf (n:Nat)
 |mn (x y:bD)
 |mx (x y:bD)
 |app (w bytes:Nat) (s x:bD)
 |Oy (os:List Nat) (w bytes:Nat) (s x:bD)
 |SF (w bytes:Nat) (s x:bD)
 |Wt (w bytes:Nat) (x:bD)
 |Wx (x:bD)
 |Yi
 |Wn (w bytes v:Nat) (x:bD)
 |ext (x:bD) (i:Nat)
 |Im (o:Pu) (xs:List bD)
 |mp (o:Mo) (xs:List bD)
 |me (o:Me) (xs:List bD)
 |RA (t:Nat) (x:bD)
 |SO (t:Nat) (zero:Option D) (x:bD)
 |TU (neg:Bool) (x:bD)
 |RM (x:bD)
 |Lp
 |call (kp:Bool) (f:bD) (args:List bD)
 deriving Inhabited,DecidableEq
structure Op where
 dst:Option Nat
 CE:Option (Nat×Bool)
 zZ:Bool
 k:K
 deriving Inhabited,DecidableEq
inductive bX where
 |FB
 |cn (vs:List Nat)
 |sy (live:List Nat) (ops:List Op)
 |seq (a b:bX)
 |ite (c:bD) (a b:bX)
 |cT (id:Nat) (a:bX)
 |loop (live:List Nat) (bk:Bool) (a:bX)
 |Jw (live:List Nat) (f:bD) (params:List Nat) (zh body:bX)
 |gv (live:List Nat) (it:bD) (nx ok b:Nat) (a rest:bX)
 |Lh (live:List Nat) (pre:List Op) (op:Op) (post:List Op)
 |OI (f:bD) (args:List bD) (rest:bX)
 |exit (id:Nat)
 |ret
 |VC (a:bX)
 deriving Inhabited,DecidableEq
inductive Exit where
 |normal
 |exit (id:Nat)
 |ret
 |eA (d:D)
 deriving Inhabited,DecidableEq
abbrev Env:=List (Nat×D)
def get:Env->Nat->D
 |[],_ => .undef
 |(k,v)::r,t=>if k=t then v else get r t
def put(d:Option Nat)(v:D)(e:Env):Env :=
 match d with
 |some t=>(t,v)::e
 |none=>e
def D.calm:D->D
 |.vr .. => .undef
 |.emp => .undef
 |.own _ cs => .own 0 cs
 |d=>d
def D.strip:D->D
 |.vr .. => .undef
 |.emp => .undef
 |.own .. => .undef
 |d=>d
def restrict(live:List Nat)(e:Env):Env:=live.map λt=>(t,(get e t).calm)
def keys(e:Env):List Nat:=(e.map (·.1)).eraseDups
def wX(live:List Nat)(e:Env):Env:=live.map λt=>(t,(get e t).strip)
def yo(live:List Nat)(x:Exit)(e:Env):List Nat :=
 match x with
 |.normal=>live
 |_=>keys e
structure wk where
 state:Nat
 wQ:Option Exit
 env:Env
 params:List Nat
 zh:bX
 body:bX
 deriving DecidableEq
inductive aI where
 |cells (v:Nat) (cs:List D)
 |dead
 |loop (l:wk)
 deriving DecidableEq
abbrev SK:=List (List aI)
def eZ:SK->Nat->Option (List aI)
 |[],_=>none
 |s::J,l=>if J.length=l then some s else eZ J l
def iu:SK->Nat->List aI->SK
 |[],_,_=>[]
 |s::J,l,s'=>if J.length=l then s'::J else s::iu J l s'
def dn(J:SK)(l i:Nat):Option aI:=(eZ J l).bind (·[i]?)
def aR(J:SK)(l i:Nat)(b:aI):SK :=
 match eZ J l with
 |some s=>iu J l (s.set i b)
 |none=>J
def cells?(J:SK)(l i v:Nat):Option (List D) :=
 match dn J l i with
 |some (.cells v' cs)=>if v'=v then some cs else none
 |_=>none
def fJ(J:SK)(b:aI):Option (Nat×Nat×SK) :=
 match J with
 |[]=>none
 |s::J'=>some (J'.length,s.length,(s++[b])::J')
mutual
def D.clean:D->Bool
 |.ref .. => false
 |.sl .. => false
 |.kJ .. => false
 |.vr .. => true
 |.emp=>true
 |.own _ cs=>D.bx cs
 |.agg cs=>D.bx cs
 |.dj cs=>D.bx cs
 |.bu cs=>D.bx cs
 |.aG _ cs=>D.bx cs
 |.fn _ a b=>D.bx a && D.bx b
 |.undef=>true
 |.bool _=>true
 |.int _ _=>true
 |.str _=>true
 |.wN=>true
 |.bN=>true
 |.pR=>true
 |.tK _ d=>D.clean d
 |.oD=>true
def D.bx:List D->Bool
 |[]=>true
 |d::ds=>D.clean d && D.bx ds
end
def cn(l:Nat):Nat->D->SK->D×SK
 |0,_,J=>(.undef,J)
 |n+1,d,J =>
  if d.clean then(d,J)else
  match d with
  |.agg cs=>let r:=frzL (cn l n) cs J;(.agg r.1,r.2)
  |.dj cs=>let r:=frzL (cn l n) cs J;(.dj r.1,r.2)
  |.bu cs=>let r:=frzL (cn l n) cs J;(.bu r.1,r.2)
  |.aG m cs=>let r:=frzL (cn l n) cs J;(.aG m r.1,r.2)
  |.own s cs=>let r:=frzL (cn l n) cs J;(.own s r.1,r.2)
  |.fn f a b=>let r:=frzL (cn l n) a J;let r':=frzL (cn l n) b r.2;(.fn f r.1 r'.1,r'.2)
  |.ref l' i v off=>if l'<=l then(.ref l' i v off,J)else(.undef,J)
  |.kJ l' i=>if l'<=l then(.kJ l' i,J)else(.undef,J)
  |.sl l' i v off m w =>
   if l'<=l then(.sl l' i v off m w,J)else
   match cells? J l' i v with
   |some cs=>let r:=frzL (cn l n) ((cs.drop off).take (m*w)) (aR J l' i .dead);(.aG m r.1,r.2)
   |none=>(.undef,J)
  |_=>(.undef,J)
where
 frzL (f:D->SK->D×SK):List D->SK->List D×SK
  |[],J=>([],J)
  |d::ds,J=>let r:=f d J;let r':=frzL f ds r.2;(r.1::r'.1,r'.2)
def deep:Nat:=16
def pw(l:Nat):Env->SK->Env×SK
 |[],J=>([],J)
 |(t,d)::e,J=>let r:=cn l deep d J;let r':=pw l e r.2;((t,r.1)::r'.1,r'.2)
inductive Q where
 |call (kp:Bool) (f:Nat) (args:List D) (J:SK)
 |loop (live:List Nat) (bk:Bool) (c:bX) (env:Env) (J:SK)
 |round (l i:Nat) (args:List D) (J:SK)
 |gv (live:List Nat) (it:bD) (nx ok b:Nat) (c rest:bX) (env:Env) (J:SK)
 |xe (f:Nat) (args:List D) (th:Option D) (J:SK)
inductive R where
 |val (d:D) (J:SK)
 |B6 (e:Exit) (env:Env) (J:SK)
 |eA (d:D) (J:SK)
 deriving DecidableEq
abbrev bI:=Q->Option R
def ba(e:Env):bD->D
 |.t n=>(get e n).strip
 |.c d=>d
def D.cells:D->Option (List D)
 |.agg cs=>some cs
 |.undef=>none
 |.dj _=>none
 |.own .. => none
 |.vr .. => none
 |.emp=>none
 |d=>some [d]
def D.row(ag:Bool)(d:D):Option (List D) :=
 match ag,d with
 |true,.agg cs=>some cs
 |true,_=>none
 |false,.agg _=>none
 |false,d=>d.cells
def rn(e:Env):List (Nat×Nat×bD)->List D->Option (List D)
 |[],cs=>some cs
 |(off,sz,x)::r,cs =>
  match(ba e x).cells with
  |some p=>if p.length=sz/\off+sz<=cs.length then rn e r (cs.take off++p++cs.drop (off+sz))else none
  |none=>none
def zn:List (Option IntKind)->List D->List D->Option Bool
 |[],[],[]=>some true
 |some k::ks,.int k1 a::x,.int k2 b::y=>if k1=k/\k2=k then(zn ks x y).map (a == b && ·)else none
 |none::ks,.bool a::x,.bool b::y=>(zn ks x y).map (a == b && ·)
 |_,_,_=>none
def u7(o:BinOp):D->D->Option D
 |.int k a,.int k' b =>
  match o with
  |.shl=>if b<0 then none else some (.int k (k.wrap (a*2^(min b.toNat k.bits))))
  |.shr=>if b<0 then none else some (.int k (a.fdiv (2^(min b.toNat k.bits))))
  |.add=>if k=k' then some (.int k (k.wrap (a+b)))else none
  |.sub=>if k=k' then some (.int k (k.wrap (a-b)))else none
  |.mul=>if k=k' then some (.int k (k.wrap (a*b)))else none
  |.quo=>if k=k'/\b≠0 then some (.int k (k.wrap (a.tdiv b)))else none
  |.rem=>if k=k'/\b≠0 then some (.int k (a.tmod b))else none
  |.and=>if k=k' then some (.int k (k.wrap ((BitVec.ofInt k.bits a &&& BitVec.ofInt k.bits b).toNat:Int)))else none
  |.or=>if k=k' then some (.int k (k.wrap ((BitVec.ofInt k.bits a ||| BitVec.ofInt k.bits b).toNat:Int)))else none
  |.xor=>if k=k' then some (.int k (k.wrap ((BitVec.ofInt k.bits a ^^^ BitVec.ofInt k.bits b).toNat:Int)))else none
  |.andNot=>none
  |.eql=>if k=k' then some (.bool (a == b))else none
  |.neq=>if k=k' then some (.bool (a != b))else none
  |.lss=>if k=k' then some (.bool (decide (a<b)))else none
  |.leq=>if k=k' then some (.bool (decide (a<=b)))else none
  |.gtr=>if k=k' then some (.bool (decide (a>b)))else none
  |.geq=>if k=k' then some (.bool (decide (a>=b)))else none
 |_,_=>none
def Ds:D->Option Int
 |.int _ n=>some n
 |_=>none
def Bi(e:Env)(m:Nat)(dfl:Option Nat):Option bD->Option Nat
 |some x=>match Ds (ba e x)with
  |some n=>if 0<=n/\n<=m then some n.toNat else none
  |none=>none
 |none=>dfl
def bounds(len:Nat)(e:Env)(lo hi mx:Option bD):Option (Nat×Nat) :=
 (Bi e len (some len) mx).bind λm=>(Bi e m (if mx.isSome then none else some len) hi).bind λh=>(Bi e h (some 0) lo).map λl=>(l,h)
def sG(ky:Ky)(a b:D):Option Bool :=
 match ky with
 |none=>match a,b with
  |.str x,.str y=>some (x == y)
  |_,_=>none
 |some (ag,ks)=>match a.row ag,b.row ag with
  |some p,some q=>zn ks p q
  |_,_=>none
def pJ(ky:Ky)(k:D):List D->Option (Option (Nat×D))
 |[]=>some none
 |.dj [k',v]::es =>
  match sG ky k k' with
  |some true=>some (some (0,v))
  |some false=>(pJ ky k es).map λx=>x.map λy=>(y.1+1,y.2)
  |none=>none
 |_=>none
def Ai(J:SK):D->Option (Nat×Nat×List D)
 |.kJ l i=>(cells? J l i 0).map λes=>(l,i,es)
 |_=>none
def Aj(J:SK):Mo->List D->Option (D×SK)
 |.make,[]=>(fJ J (.cells 0 [])).map λx=>(.kJ x.1 x.2.1,x.2.2)
 |.IZ t e,[]=>(fJ J (.cells 2 [.int .i64 (t:Nat),.int .i64 (e:Nat),.str []])).map λx=>(.kJ x.1 x.2.1,x.2.2)
 |.get ky zero ok,[m,k] =>
  match Ai J m with
  |some (_,_,es) =>
   if(sG ky k k).isSome then
    match pJ ky k es with
    |some (some (_,v))=>some (if ok then .dj [v,.bool true]else v,J)
    |some none=>some (if ok then .dj [zero,.bool false]else zero,J)
    |none=>none
   else none
  |none=>none
 |.put ky,[m,k,v] =>
  match Ai J m with
  |some (l,i,es) =>
   if(sG ky k k).isSome/\(l+1=J.length\/(k.clean/\v.clean))then
    match pJ ky k es with
    |some (some (j,_))=>some (.undef,aR J l i (.cells 0 (es.set j (.dj [k,v]))))
    |some none=>some (.undef,aR J l i (.cells 0 (es++[.dj [k,v]])))
    |none=>none
   else none
  |none=>none
 |.len,[m]=>(Ai J m).map λx=>(.int .i64 x.2.2.length,J)
 |.rng,[m] =>
  match Ai J m with
  |some (lm,im,es)=>(fJ J (.cells 1 [.kJ lm im,.int .i64 es.length])).map λx=>(.kJ x.1 x.2.1,x.2.2)
  |none=>none
 |.Yn,[.kJ l i] =>
  match cells? J l i 1 with
  |some (m::.int .i64 n::.int .i64 j::_) =>
   match Ai J m with
   |some (_,_,es)=>if(es.length:Int)=n then
     match es[j.toNat]? with
     |some (.dj [k,v])=>some (.dj [k,v],J)
     |_=>none
    else none
   |none=>none
  |_=>none
 |_,_=>none
def strCells(s:List UInt8):List D:=s.map λb => .int .u8 b.toNat
def elems(J:SK)(w:Nat):D->Option (Nat×List D)
 |.bN=>some (0,[])
 |.str s=>if w=1 then some (s.length,strCells s)else none
 |.aG n cs=>if cs.length=n*w then some (n,cs)else none
 |.sl l i v off n w' =>
  if w'=w then
   match cells? J l i v with
   |some cs=>if off+n*w<=cs.length then some (n,(cs.drop off).take (n*w))else none
   |none=>none
  else none
 |_=>none
def CB:List D->Option (List UInt8)
 |[]=>some []
 |.int .u8 n::r=>(CB r).map (UInt8.ofNat n.toNat :: ·)
 |_=>none
def SI(J:SK):Me->List D->Option (D×SK)
 |.b2s,[.str _]=>none
 |.b2s,[x]=>(elems J 1 x).bind λr=>(CB r.2).map λs=>(.str s,J)
 |.s2b,[.str s]=>some (.aG s.length (strCells s),J)
 |.s2a n w,[.aG m cs]=>if 0<n/\n<=m then some (.bu (cs.take (n*w)),J)else none
 |.peq neg,[.ref l i v o,.ref l' i' v' o']=>if l=l'/\i=i'/\o=o'/\v=v'/\(cells? J l i v).isSome then some (.bool (!neg),J)else none
 |_,_=>none
def room:Nat:=2^47
def jF:List (Nat×Nat)->List D->SK->Option (List D×SK)
 |[],cs,J=>some (cs,J)
 |(p,w)::r,cs,J =>
  match cs[p]? with
  |some .bN=>do
   let (l,i,J')<-fJ J (.cells 0 [])
   jF r (cs.set p (.sl l i 0 0 0 w)) J'
  |_=>jF r cs J
def rq(e:Env)(v a:Nat):Option (Nat×List D×Nat) :=
 match get e v with
 |.own s cs =>
  if a=v then some (s,cs,0)else
  match get e a with
  |.vr x s' off=>if x=v/\s'=s then some (s,cs,off)else none
  |_=>none
 |_=>none
def tT(e:Env)(v:Nat):Nat :=
 match get e v with
 |.own s _=>s+1
 |_=>0
def Eo(J:SK):D->Option (List D)
 |.bu cs=>some cs
 |.ref l i v off=>(cells? J l i v).map (·.drop off)
 |_=>none
def PF(J:SK):D->Option (List D)
 |.ref l i 0 off=>Eo J (.ref l i 0 off)
 |_=>none
def Hu(ps:Bool)(d:D):Option Bool :=
 match ps,d with
 |true,.wN=>some true
 |true,.bu _=>some false
 |true,.ref .. => some false
 |false,.bN=>some true
 |false,.aG n _=>if n=0 then none else some false
 |false,.sl _ _ _ _ n _=>if n=0 then none else some false
 |_,_=>none
def MP(t:Nat)(z:Option D):D->Option D
 |.tK t' d=>match z with
  |some z=>some (if t'=t then .dj [d,.bool true]else .dj [z,.bool false])
  |none=>if t'=t then some d else none
 |.oD=>z.map λz => .dj [z,.bool false]
 |_=>none
def Q9:D->Option Bool
 |.oD=>some true
 |.tK .. => some false
 |_=>none
def D.off(l i:Nat):D->Bool
 |.ref l' i' _ _=>decide (¬(l'=l/\i'=i))
 |_=>true
def IW(e:Env)(J:SK)(w bytes:Nat)(s x:bD):Option (D×SK):=do
  let (m,xs)<-elems J w (ba e x)
  match ba e s with
  |.bN =>
   if m*bytes<=room then
    if m=0 then some (.bN,J)else do
    let (l,i,J')<-fJ J (.cells 0 xs)
    some (.sl l i 0 0 m w,J')
   else none
  |.sl l i v off n w' =>
   match cells? J l i v with
   |some cs =>
    if w'=w/\off+n*w<=cs.length/\(n+m)*bytes<=room then
     if l+1=J.length then
      some (.sl l i (v+1) 0 (n+m) w,aR J l i (.cells (v+1) ((cs.drop off).take (n*w)++xs)))
     else
      let r:=cn.frzL (cn l deep) xs J
      some (.sl l i (v+1) 0 (n+m) w,aR r.2 l i (.cells (v+1) ((cs.drop off).take (n*w)++r.1)))
    else none
   |none=>none
  |_=>none
def bG(e:Env)(J:SK):K->Option (D×SK)
 |.mv x=>some (ba e x,J)
 |.GJ w=>do
  let (l,i,J')<-fJ J (.cells 0 [])
  some (.sl l i 0 0 0 w,J')
 |.pick c a b =>
  match ba e c with
  |.bool t=>some (if t then ba e a else ba e b,J)
  |_=>none
 |.Ox nb cs=>do
  let (cs',J1)<-jF nb cs J
  let (l,i,J')<-fJ J1 (.cells 0 cs')
  some (.ref l i 0 0,J')
 |.Hn x=>(ba e x).cells.map λcs=>(.bu cs,J)
 |.Ho x=>do
  let cs<-(ba e x).cells
  let (l,i,J')<-fJ J (.cells 0 cs)
  some (.ref l i 0 0,J')
 |.SG nb x=>do
  let cs<-(ba e x).cells
  let (cs',J1)<-jF nb cs J
  let (l,i,J')<-fJ J1 (.cells 0 cs')
  some (.ref l i 0 0,J')
 |.Ag .. => none
 |.D6 _=>none
 |.G6 .. => none
 |.PE v ag sz a =>
  match rq e v a with
  |some (_,cs,off) =>
   let cs:=cs.drop off
   if sz<=cs.length then
    if ag then some (.agg (cs.take sz),J)else
    match cs with
    |d::_=>some (d,J)
    |[]=>none
   else none
  |none=>none
 |.IZ zero parts=>do
  let cs<-rn e parts zero
  some (.agg cs,J)
 |.TE n _ zero parts=>do
  let cs<-rn e parts zero
  some (.aG n cs,J)
 |.QH n w zero parts=>do
  let cs<-rn e parts zero
  let (l,i,J')<-fJ J (.cells 0 cs)
  some (.sl l i 0 0 n w,J')
 |.ld ag sz a =>
  match Eo J (ba e a)with
  |some cs =>
   if sz<=cs.length then
    if ag then some (.agg (cs.take sz),J)else
    match cs with
    |d::_=>some (d,J)
    |[]=>none
   else none
  |none=>none
 |.PD ag sz a =>
  match PF J (ba e a)with
  |some cs =>
   if sz<=cs.length then
    if ag then some (.agg (cs.take sz),J)else
    match cs with
    |d::_=>some (d,J)
    |[]=>none
   else none
  |none=>none
 |.T1 ag sz a =>
  match ba e a with
  |.bu cs =>
   if sz<=cs.length then
    if ag then some (.agg (cs.take sz),J)else
    match cs with
    |d::_=>some (d,J)
    |[]=>none
   else none
  |_=>none
 |.TV ps neg x=>(Hu ps (ba e x)).map λb=>(.bool (if neg then !b else b),J)
 |.T7 x =>
  match ba e x with
  |.bu cs=>some (.bu cs,J)
  |.ref l i v off=>some (.ref l i v off,J)
  |_=>none
 |.st nb sz a x =>
  match ba e a with
  |.ref l i v off =>
   match cells? J l i v with
   |some cs =>
    match(ba e x).cells with
    |some p =>
     if p.length=sz/\off+sz<=cs.length then
      if l+1=J.length then
       match jF nb p J with
       |some (p',J1)=>some (.undef,aR J1 l i (.cells v (cs.take off++p'++cs.drop (off+sz))))
       |none=>none
      else
       let r:=cn.frzL (cn l deep) p J
       some (.undef,aR r.2 l i (.cells v (cs.take off++r.1++cs.drop (off+sz))))
     else none
    |none=>none
   |none=>none
  |_=>none
 |.Pv os sz a x =>
  match ba e a with
  |.ref l i v off =>
   if(os.all λt=>D.off l i (get e t))=true then
    match cells? J l i v with
    |some cs =>
     match(ba e x).cells with
     |some p =>
      if p.length=sz/\off+sz<=cs.length/\(D.bx p=true\/l+1=J.length)then some (.undef,aR J l i (.cells v (cs.take off++p++cs.drop (off+sz))))else none
     |none=>none
    |none=>none
   else none
  |_=>none
 |.bin o x y=>(u7 o (ba e x) (ba e y)).map (·,J)
 |.eqv ag ks neg x y =>
  match(ba e x).row ag,(ba e y).row ag with
  |some p,some q=>(zn ks p q).map λb=>(.bool (if neg then !b else b),J)
  |_,_=>none
 |.un o x =>
  match o,ba e x with
  |.not,.bool b=>some (.bool !b,J)
  |.neg,.int k n=>some (.int k (k.wrap (0-n)),J)
  |.xor,.int k n=>some (.int k (k.wrap ((BitVec.ofInt k.bits (if k.signed then -1 else k.max) ^^^ BitVec.ofInt k.bits n).toNat:Int)),J)
  |_,_=>none
 |.QN k x =>
  match ba e x with
  |.int _ n=>some (.int k (k.wrap n),J)
  |_=>none
 |.Rz f first cap=>some (.fn f (first.map (ba e)) (cap.map (ba e)),J)
 |.RB w bytes zero l c =>
  match ba e l,ba e c with
  |.int .i64 n,.int .i64 m =>
   if 0<=n/\n=m/\n*bytes<=(room:Int)/\zero.length=w then do
    let (l,i,J')<-fJ J (.cells 0 ((List.range n.toNat).flatMap λ_=>zero))
    some (.sl l i 0 0 n.toNat w,J')
   else none
  |_,_=>none
 |.SL w x lo hi mx =>
  match ba e x with
  |.aG n cs=>(bounds n e lo hi mx).map λb=>(.aG (b.2-b.1) ((cs.drop (b.1*w)).take ((b.2-b.1)*w)),J)
  |.sl l i v off n w'=>if w'=w then(bounds n e lo hi mx).map λb=>(.sl l i v (off+b.1*w) (b.2-b.1) w,J)else none
  |.bN=>(bounds 0 e lo hi mx).map λ_=>(.bN,J)
  |_=>none
 |.MB len w x lo hi =>
  match ba e x with
  |.bu cs=>(bounds len e lo hi none).map λb=>(.aG (b.2-b.1) ((cs.drop (b.1*w)).take ((b.2-b.1)*w)),J)
  |.ref l i v off =>
   match cells? J l i v with
   |some cs=>if len<=1000000/\off+len*w<=cs.length then(bounds len e lo hi none).map λb=>(.sl l i v (off+b.1*w) (b.2-b.1) w,J)else none
   |none=>none
  |_=>none
 |.Hq off x =>
  match x with
  |.t n =>
   match get e n with
   |.bu cs=>some (.bu (cs.drop off),J)
   |.ref l i v o=>some (.ref l i v (o+off),J)
   |.own s _=>some (.vr n s off,J)
   |.vr v s o=>some (.vr v s (o+off),J)
   |_=>none
  |.c _=>none
 |.Yr ag off sz x =>
  match ba e x with
  |.agg cs =>
   if off+sz<=cs.length then
    if ag then some (.agg ((cs.drop off).take sz),J)else(cs[off]?).map (·,J)
   else none
  |_=>none
 |.Fh len w x i =>
  match x,Ds (ba e i)with
  |.t m,some n =>
   if 0<=n/\n<len then
    match get e m with
    |.bu cs=>some (.bu ((cs.drop (n.toNat*w)).take w),J)
    |.ref l j v off=>some (.ref l j v (off+n.toNat*w),J)
    |.own s _=>some (.vr m s (n.toNat*w),J)
    |.vr v s o=>some (.vr v s (o+n.toNat*w),J)
    |_=>none
   else none
  |_,_=>none
 |.Fi w x i =>
  match ba e x,Ds (ba e i)with
  |.aG m cs,some n=>if 0<=n/\n<m then some (.bu ((cs.drop (n.toNat*w)).take w),J)else none
  |.sl l j v off m w',some n=>if 0<=n/\n<m/\w'=w then some (.ref l j v (off+n.toNat*w),J)else none
  |_,_=>none
 |.Je ag len w x i =>
  match ba e x,Ds (ba e i)with
  |.agg cs,some n =>
   if 0<=n/\n<len/\(n.toNat+1)*w<=cs.length then
    if ag then some (.agg ((cs.drop (n.toNat*w)).take w),J)else(cs[n.toNat*w]?).map (·,J)
   else none
  |_,_=>none
 |.Hv x =>
  match ba e x with
  |.bN=>some (.int .i64 0,J)
  |.aG n _=>some (.int .i64 n,J)
  |.sl _ _ _ _ n _=>some (.int .i64 n,J)
  |_=>none
 |.Mf n=>some (.int .i64 n,J)
 |.mn x y =>
  match ba e x,ba e y with
  |.int k a,.int _ b=>some (.int k (min a b),J)
  |_,_=>none
 |.mx x y =>
  match ba e x,ba e y with
  |.int k a,.int _ b=>some (.int k (max a b),J)
  |_,_=>none
 |.app w bytes s x=>do
  let (m,xs)<-elems J w (ba e x)
  match ba e s with
  |.bN =>
   if m*bytes<=room then
    if m=0 then some (.bN,J)else do
    let (l,i,J')<-fJ J (.cells 0 xs)
    some (.sl l i 0 0 m w,J')
   else none
  |.sl l i v off n w' =>
   match cells? J l i v with
   |some cs =>
    if w'=w/\off+n*w<=cs.length/\(n+m)*bytes<=room then
     if l+1=J.length then
      some (.sl l i (v+1) 0 (n+m) w,aR J l i (.cells (v+1) ((cs.drop off).take (n*w)++xs)))
     else
      let r:=cn.frzL (cn l deep) xs J
      some (.sl l i (v+1) 0 (n+m) w,aR r.2 l i (.cells (v+1) ((cs.drop off).take (n*w)++r.1)))
    else none
   |none=>none
  |_=>none
 |.Oy os w bytes s x =>
  match ba e s with
  |.sl l i _ _ _ _=>if(os.all λt=>D.off l i (get e t))=true then(elems J w (ba e x)).bind λr=>if D.bx r.2=true then IW e J w bytes s x else none else none
  |_=>none
 |.SF w bytes s x=>(IW e J w bytes s x).map λr=>cn 0 deep r.1 r.2
 |.Wt w bytes x=>do
  let (m,xs)<-elems J w (ba e x)
  if m*bytes<=room then some (.aG m xs,J)else none
 |.Wx x =>
  match ba e x with
  |.sl l i v off n w =>
   if 0<n then
    match cells? J l i v with
    |some cs=>some (.aG n ((cs.drop off).take (n*w)),aR J l i .dead)
    |none=>none
   else none
  |_=>none
 |.Yi=>some (.emp,J)
 |.Wn w bytes v x =>
  match get e v with
  |.emp=>(elems J w (ba e x)).bind λr=>if r.1*bytes<=room then some (.aG r.1 r.2,J)else none
  |_=>none
 |.ext x i =>
  match ba e x with
  |.dj ds=>(ds[i]?).map (·,J)
  |_=>none
 |.Im o xs=>(CT o (xs.map (ba e))).map (·,J)
 |.mp o xs=>Aj J o (xs.map (ba e))
 |.me o xs=>SI J o (xs.map (ba e))
 |.RA t x=>some (.tK t (ba e x),J)
 |.SO t z x=>(MP t z (ba e x)).map (·,J)
 |.TU neg x=>(Q9 (ba e x)).map λb=>(.bool (if neg then !b else b),J)
 |.RM _=>none
 |.Lp=>none
 |.call _ _ _=>none
def R.bg:Option R->Option (D×SK)
 |some (.val d J)=>some (d,J)
 |_=>none
def R.OG:Option R->Option (Exit×Env×SK)
 |some (.B6 e env J)=>some (e,env,J)
 |_=>none
def oe(O:bI)(kp:Bool)(fv:D)(args:List D)(J:SK):Option (D×SK) :=
 match fv with
 |.fn f first cap=>R.bg (O (.call kp f (first++args++cap) J))
 |.kJ l i=>R.bg (O (.round l i args J))
 |_=>none
def EK(O:bI)(fv:D)(args:List D)(J:SK):Option (D×SK) :=
 match fv with
 |.fn f first cap=>R.bg (O (.call false f (first++args++cap) J))
 |_=>none
def vn(O:bI)(op:Op)(e:Env)(J:SK):Option (Env×SK) :=
 match op.k with
 |.call kp f args =>
  match oe O kp (ba e f) (args.map (ba e)) J with
  |some (d,J')=>if op.zZ=true->J'=J then some (put op.dst d e,J')else none
  |none=>none
 |.Ag nb cs =>
  match op.dst,jF nb cs J with
  |some v,some (cs',J')=>some ((v,.own (tT e v) cs')::e,J')
  |_,_=>none
 |.D6 x =>
  match op.dst,(ba e x).cells with
  |some v,some cs=>some ((v,.own (tT e v) cs)::e,J)
  |_,_=>none
 |.G6 v nb sz a x =>
  match rq e v a,(ba e x).cells with
  |some (s,cs,off),some p =>
   if p.length=sz/\off+sz<=cs.length then
    match jF nb p J with
    |some (p',J')=>some ((v,.own s (cs.take off++p'++cs.drop (off+sz)))::e,J')
    |none=>none
   else none
  |_,_=>none
 |k=>(bG e J k).map λx=>(put op.dst x.1 e,x.2)
def D.bit:D->Option (Option Bool)
 |.bool b=>some (some b)
 |.dj []=>some none
 |_=>none
def kK(O:bI):List Op->Env->SK->Option (Env×SK)
 |[],e,J=>some (e,J)
 |op::r,e,J =>
  match op.CE with
  |none=>(vn O op e J).bind λx=>kK O r x.1 x.2
  |some (g,want) =>
   match(get e g).bit with
   |some y=>if y=some want then(vn O op e J).bind λx=>kK O r x.1 x.2 else kK O r (put op.dst (.dj []) e) J
   |none=>none
def D.vN:D->D
 |.bN => .aG 0 []
 |d=>d
def rD(l i u:Nat)(J:SK):D×SK :=
 match cells? J l i u with
 |some cs=>let r:=cn.frzL (cn 0 deep) cs (aR J l i .dead);(.bu (r.1.map D.vN),r.2)
 |none=>(.undef,J)
def Ue(v:Nat)(e:Env):Env :=
 match get e v with
 |.own _ cs=>if e.all (λp=>match p.2 with | .vr x _ _=>x != v | _=>true)then(v,.bu cs)::e else e
 |_=>e
def OQ(v:Nat)(e:Env)(J:SK):Env×SK :=
 match get e v with
 |.ref l i u 0 =>
  match cells? J l i u with
  |some [.ref l2 i2 u2 0] =>
   if cells? (rD l2 i2 u2 J).2 l i u=some [.ref l2 i2 u2 0]/\(rD l2 i2 u2 J).1.clean=true then
    ((v,(rD l i u (aR (rD l2 i2 u2 J).2 l i (.cells u [(rD l2 i2 u2 J).1]))).1)::e,(rD l i u (aR (rD l2 i2 u2 J).2 l i (.cells u [(rD l2 i2 u2 J).1]))).2)
   else(e,J)
  |_=>(e,J)
 |_=>(e,J)
def Hr(v:Nat)(e:Env)(J:SK):Env×SK :=
 match get e v with
 |.bN=>((v,.aG 0 [])::e,J)
 |.ref l i u 0=>let r:=rD l i u J;((v,r.1)::e,r.2)
 |.own s cs=>((v,.own s (cs.map D.vN))::e,J)
 |.undef=>if 2000000<=v then OQ (v-2000000) e J else if 1000000<=v then(Ue (v-1000000) e,J)else(e,J)
 |_=>(e,J)
def uo:List Nat->Env->SK->Env×SK
 |[],e,J=>(e,J)
 |v::vs,e,J =>
  match get e v with
  |.sl l i u off m w=>let r:=cn 0 deep (.sl l i u off m w) J;uo vs ((v,r.1)::e) r.2
  |.own s cs=>let r:=cn.frzL (cn 0 deep) cs J;uo vs ((v,.own s r.1)::e) r.2
  |.agg cs=>uo vs ((v,.agg (cs.map D.vN))::e) J
  |.undef=>if 1000000<=v then(let r:=Hr (v-1000000) e J;uo vs r.1 r.2)else uo vs e J
  |_=>uo vs e J
def zR(O:bI)(fv:D)(args:List D)(J:SK):Option R :=
 match fv with
 |.fn f first cap=>O (.call false f (first++args++cap) J)
 |_=>none
def tZ(O:bI)(live:List Nat)(dst:Option Nat)(post:List Op)(e:Env):Option R->Option (Exit×Env×SK)
 |some (.val d J')=>(kK O post (put dst d e) J').map λy=>(.normal,restrict live y.1,y.2)
 |some (.eA d J')=>some (.eA d,e,J')
 |_=>none
def Ff(O:bI)(live:List Nat)(op:Op)(post:List Op)(e:Env)(J:SK):Option (Exit×Env×SK) :=
 match op.CE,op.k with
 |none,.call false f args=>tZ O live op.dst post e (zR O (ba e f) (args.map (ba e)) J)
 |none,.RM x=>(match ba e x with
  |.tK t d=>if d.clean then some (.eA (.tK t d),e,J)else none
  |_=>none)
 |_,_=>none
def aV(O:bI):bX->Env->SK->Option (Exit×Env×SK)
 |.FB,e,J=>some (.normal,e,J)
 |.cn vs,e,J=>let r:=uo vs e J;some (.normal,r.1,r.2)
 |.sy live ops,e,J=>(kK O ops e J).map λx=>(.normal,restrict live x.1,x.2)
 |.seq a b,e,J=>(aV O a e J).bind λx =>
  match x.1 with
  |.normal=>aV O b x.2.1 x.2.2
  |_=>some x
 |.ite c a b,e,J =>
  match ba e c with
  |.bool t=>if t then aV O a e J else aV O b e J
  |_=>none
 |.cT id a,e,J=>(aV O a e J).map λx =>
  match x.1 with
  |.exit j=>if j=id then(.normal,x.2)else x
  |_=>x
 |.loop live bk a,e,J=>R.OG (O (.loop live bk a e J))
 |.Jw live f params zh body,e,J =>
  match fJ J (.loop {state:=0,wQ:=none,env:=wX live e,params,zh,body })with
  |some (l,i,J1) =>
   match EK O (ba e f) [.kJ l i] J1 with
   |some (_,J2) =>
    match dn J2 l i with
    |some (.loop lp) =>
     if lp.state=1 then none else
     some (lp.wQ.getD .normal,restrict live e,aR J2 l i (.loop {lp with state:=3 }))
    |_=>none
   |none=>none
  |none=>none
 |.gv live it nx ok b a rest,e,J=>R.OG (O (.gv live it nx ok b a rest e J))
 |.Lh live pre op post,e,J=>(kK O pre e J).bind λx=>Ff O live op post x.1 x.2
 |.OI ..,_,_=>none
 |.VC a,e,J=>(aV O a e ([]::J)).map λx=>(x.1,(pw (J.length-1) (restrict (keys x.2.1) x.2.1) x.2.2).1,(pw (J.length-1) (restrict (keys x.2.1) x.2.1) x.2.2).2.tail)
 |.exit id,e,J=>some (.exit id,e,J)
 |.ret,e,J=>some (.ret,e,J)
inductive CQ where
 |t (n:Nat)
 |c (n:Nat) (ag:Bool) (sz:Nat)
 |v (n:Nat) (ag:Bool) (sz:Nat)
structure Fn where
 Mm:Nat
 res:List CQ
 body:bX
def GR(e:Env)(J:SK):CQ->Option D
 |.t n=>some (get e n).strip
 |.c n ag sz=>(bG e J (.ld ag sz (.t n))).map (·.1)
 |.v n ag sz=>(bG e J (.PE n ag sz n)).map (·.1)
def yQ(e:Env)(J:SK):List CQ->Option (List D)
 |[]=>some []
 |r::rs=>(GR e J r).bind λd=>(yQ e J rs).map λds=>d::ds
def tM:List D->D
 |[d]=>d
 |ds => .dj ds
def kQ(n:Nat):List D->Env
 |[]=>[]
 |d::ds=>(n,d)::kQ (n+1) ds
def zD:List Nat->List D->Env->Env
 |t::ts,d::ds,e=>zD ts ds ((t,d)::e)
 |_,_,e=>e
abbrev zQ:=Nat->Option Fn
def Q8:List D->Option (List Int)
 |[]=>some []
 |.int .i64 z::r=>(Q8 r).map (z :: ·)
 |_=>none
def TS(x:Int):List Int->List Int
 |[]=>[x]
 |y::l=>if x<=y then x::y::l else y::TS x l
def N2:List Int->List Int
 |[]=>[]
 |x::l=>TS x (N2 l)
def Q6(l:List Int):List D:=l.map (.int .i64)
def Kj(x:Int):List Int->List Int
 |[]=>[]
 |y::l=>if y=x then Kj x l else y::Kj y l
def HU:List Int->List Int
 |[]=>[]
 |x::l=>x::Kj x l
def RF(k:Nat)(zs:List Int):List Int:=if k=1 then N2 zs else HU zs++List.replicate (zs.length-(HU zs).length) 0
def WZ(k l i v off:Nat)(zs:List Int):D:=if k=1 then .dj []else .sl l i v off (HU zs).length 1
def Z4(k:Nat)(args:List D)(J:SK):Option R :=
 match args with
 |[.sl l i v off n w] =>
  if n≠0/\w=1/\n<=1000000 then
   match cells? J l i v with
   |some cs =>
    if off+n<=cs.length then
     match Q8 ((cs.drop off).take n)with
     |some zs=>some (.val (WZ k l i v off zs) (aR J l i (.cells v (cs.take off++Q6 (RF k zs)++cs.drop (off+n)))))
     |none=>none
    else none
   |none=>none
  else none
 |_=>none
def QO:Nat->Nat->List UInt8
 |0,_=>[]
 |k+1,u=>if u<10 then [UInt8.ofNat (48+u)]else QO k (u / 10)++[UInt8.ofNat (48+u%10)]
def H7(n:Int):List UInt8:=if n<0 then 45::QO 20 n.natAbs else QO 20 n.toNat
def MN:List D->Option (List (List UInt8))
 |[]=>some []
 |.str s::r=>(MN r).map (s :: ·)
 |_=>none
def U8(sep:List UInt8):List (List UInt8)->List UInt8
 |[]=>[]
 |x::r=>x++r.flatMap (sep ++ ·)
def fa(b:UInt8):List UInt8->List (List UInt8)
 |[]=>[[]]
 |c::r=>if c=b then []::fa b r else match fa b r with
  |x::l=>(c::x)::l
  |[]=>[[c]]
def u6(s:List UInt8):Nat×Int :=
 match Lib.atoiAll s with
 |.ok v=>(0,v)
 |Lib.NumEnd.syntax=>(1,0)
 |.range=>(2,Lib.atoiSat s)
def ZB(a b:Nat)(xs:List (List UInt8)):List (List UInt8):=xs.take a++xs.drop b++List.replicate (b-a) []
def OH(b:UInt8):List UInt8->List UInt8×List UInt8×Bool
 |[]=>([],[],false)
 |c::r=>if c=b then([],r,true)else(c::(OH b r).1,(OH b r).2.1,(OH b r).2.2)
def abb(cs s:List UInt8):List UInt8:=((s.reverse.dropWhile (cs.contains ·)).reverse).dropWhile (cs.contains ·)
def Jg(k:Nat)(args:List D)(J:SK):Option R :=
 match k%16,args with
 |3,[.int .i64 n]=>if -9223372036854775808<=n/\n<=9223372036854775807 then some (.val (.str (H7 n)) J)else none
 |4,[.str s]=>if s.length<=1000000 then some (.val (.dj [.int .i64 (u6 s).2,if(u6 s).1=0 then .oD else .tK (k / 16) .undef]) J)else none
 |5,[.aG n cs,.str sep] =>
  match MN cs with
  |some xs=>if n=xs.length/\n<=1000/\(U8 sep xs).length<=1000000 then some (.val (.str (U8 sep xs)) J)else none
  |none=>none
 |6,[.str s,.str [b]]=>if s.length<=1000000 then some (.val (.aG (fa b s).length ((fa b s).map .str)) J)else none
 |7,[.kJ l i,.str s] =>
  match cells? J l i 2 with
  |some [.int .i64 t,.int .i64 e,.str bs] =>
   if t=((k / 16%65536:Nat):Int)/\e=((k / 16 / 65536:Nat):Int)/\bs.length+s.length<=1000000 then
    some (.val (.dj [.int .i64 s.length,.oD]) (aR J l i (.cells 2 [.int .i64 t,.int .i64 e,.str (bs++s)])))
   else none
  |_=>none
 |8,[.kJ l i] =>
  match cells? J l i 2 with
  |some [.int .i64 t,.int .i64 e,.str bs]=>if t=((k / 16%65536:Nat):Int)/\e=((k / 16 / 65536:Nat):Int)/\bs≠[]then some (.val (.str bs) J)else none
  |_=>none
 |9,[.sl l i v off n w,.int .i64 a,.int .i64 b] =>
  if n≠0/\w=1/\n<=1000000/\0<=a/\a<=b/\b<=(n:Int)then
   match cells? J l i v with
   |some cs =>
    if off+n<=cs.length then
     match MN ((cs.drop off).take n)with
     |some xs=>some (.val (.sl l i v off (n-(b.toNat-a.toNat)) 1) (aR J l i (.cells v (cs.take off++(ZB a.toNat b.toNat xs).map .str++cs.drop (off+n)))))
     |none=>none
    else none
   |none=>none
  else none
 |10,[.str s,.str [b]]=>if s.length<=1000000 then some (.val (.dj [.str (OH b s).1,.str (OH b s).2.1,.bool (OH b s).2.2]) J)else none
 |11,[.str s,.str cs]=>if s.length<=1000000/\cs.length<=1000000/\(cs.all λb=>decide (b.toNat<128))=true then some (.val (.str (abb cs s)) J)else none
 |12,[.kJ l i] =>
  match cells? J l i 2 with
  |some [.int .i64 t,.int .i64 e,.str bs]=>if t=((k / 16%65536:Nat):Int)/\e=((k / 16 / 65536:Nat):Int)/\bs.length<=1000000 then some (.val (.int .i64 bs.length) J)else none
  |_=>none
 |0,_=>none
 |9,_=>none
 |10,_=>none
 |11,_=>none
 |12,_=>none
 |13,_=>none
 |14,_=>none
 |15,_=>none
 |1,args=>Z4 1 args J
 |2,args=>Z4 2 args J
 |_,_=>none
def EX(J:SK)(l i:Nat):Option (D×Nat×List D×List Nat) :=
 match cells? J l i 1 with
 |some (m::.int .i64 n::js) =>
  match Ai J m with
  |some (_,_,es)=>if(es.length:Int)=n then some (m,es.length,js,(List.range es.length).filter λj => !(js.contains (.int .i64 j)))else none
  |none=>none
 |_=>none
def agree:List (Option R)->Option R
 |[]=>none
 |r::rs=>if ∀x∈rs,x=r then r else none
def wL(O:bI)(l i b:Nat)(rest:bX):Option (Exit×Env×SK)->Option R
 |some (.exit j,e1,J1) =>
  if j=b then(aV O rest e1 (aR J1 l i .dead)).map λx => .B6 x.1 x.2.1 x.2.2
  else some (.B6 (.exit j) e1 (aR J1 l i .dead))
 |some (.ret,e1,J1)=>some (.B6 .ret e1 (aR J1 l i .dead))
 |_=>none
def zY(O:bI)(live:List Nat)(it:bD)(l i nx ok b:Nat)(c rest:bX):Option (Exit×Env×SK)->Option R
 |some (.normal,e1,J1)=>O (.gv live it nx ok b c rest e1 J1)
 |y=>wL O l i b rest y
def gG:bX->Option (bX×bD×List bD×bX)
 |.OI f args q=>some (.FB,f,args,q)
 |.seq a b=>(gG b).map λx=>(.seq a x.1,x.2)
 |_=>none
def MQ(kp:Bool)(d:D):SK->Option R
 |_::J=>if kp=false/\d.clean=true then some (.eA d J)else none
 |[]=>none
def leave(res:List CQ)(J:SK)(e:Env)(J1:SK):Option R :=
 match yQ e J1 res with
 |some ds=>(match cn (J.length-1) deep (tM ds) J1 with
  |(d,_::J2)=>some (.val d J2)
  |_=>none)
 |none=>none
def pA(O:bI)(fv:D)(args:List D)(th:Option D)(J:SK):Option R :=
 match fv with
 |.fn f first cap=>O (.xe f (first++args++cap) th J)
 |_=>none
def uj(res:List CQ)(J:SK)(e:Env):Option R->Option R
 |some (.val _ J1)=>leave res J e J1
 |_=>none
def yF(O:bI)(res:List CQ)(J:SK)(fv:D)(args:List D):Option (Exit×Env×SK)->Option R
 |some (.eA d,e,J1)=>uj res J e (pA O fv args (some d) J1)
 |some (.normal,e,J1)=>uj res J e (pA O fv args none J1)
 |some (.ret,e,J1)=>uj res J e (pA O fv args none J1)
 |_=>none
def yE(O:bI)(fn:Fn)(J:SK):Option (bX×bD×List bD×bX)->Env->SK->Option R
 |some (a,f,args,q),e0,J0 =>
  (match aV O a e0 J0 with
  |some (.normal,e,J1)=>yF O fn.res J (ba e f) (args.map (ba e)) (aV O q e J1)
  |_=>none)
 |none,_,_=>none
def rG(th:Option D)(args:List D):bX->Option (Env×bX)
 |.seq (.sy live [⟨some t,none,_,.Lp⟩]) q=>(match q with
  |.gv .. => none
  |q=>some (restrict live ((t,th.getD .oD)::kQ 0 args),q))
 |_=>none
def cI(T:zQ)(O:bI):Q->Option R
 |.call kp f args J =>
  match T f with
  |some fn =>
   if args.length=fn.Mm then
    match aV O fn.body (kQ 0 args) (if kp then J else []::J)with
    |some (.exit _,_,_)=>none
    |some (.eA d,_,J1)=>MQ kp d J1
    |some (_,e,J1) =>
     match yQ e J1 fn.res with
     |some ds =>
      if kp then some (.val (tM ds) J1)else
      match cn (J.length-1) deep (tM ds) J1 with
      |(d,_::J2)=>some (.val d J2)
      |_=>none
     |none=>none
    |none=>if kp then none else yE O fn J (gG fn.body) (kQ 0 args) ([]::J)
   else none
  |none =>
   match T (1000000+f)with
   |some fn=>Jg fn.Mm args J
   |none=>none
 |.loop live bk c e J =>
  match aV O c (restrict live e) (if bk then []::J else J)with
  |some (x,e1,J1) =>
   let (e2,J2):=if bk then(let r:=pw (J.length-1) (restrict (yo live x e1) e1) J1;(r.1,r.2.tail))else(e1,J1)
   match x with
   |.normal=>O (.loop live bk c e2 J2)
   |x=>some (.B6 x e2 J2)
  |none=>none
 |.round l i args J =>
  match dn J l i with
  |some (.loop lp) =>
   if args.length=lp.params.length then
    match aV O lp.zh (zD lp.params args lp.env) ([]::J)with
    |some (.normal,e1,J1) =>
     match dn J1 l i with
     |some (.loop lp1) =>
      if lp1.state=0 then
       match aV O lp.body e1 (aR J1 l i (.loop {lp1 with state:=1 }))with
       |some (x,_,_::J2) =>
        match dn J2 l i with
        |some (.loop lp2) =>
         match x with
         |.eA _=>none
         |.normal=>some (.val (.bool true) (aR J2 l i (.loop {lp2 with state:=0,wQ:=none })))
         |x=>some (.val (.bool false) (aR J2 l i (.loop {lp2 with state:=2,wQ:=some x })))
        |_=>none
       |_=>none
      else none
     |_=>none
    |_=>none
   else none
  |_=>none
 |.gv live it nx ok b c rest e J =>
  match ba (restrict live e) it with
  |.kJ l i =>
   match EX J l i with
   |some (_,_,_,[])=>wL O l i b rest (aV O c ((ok,.bool false)::(nx,.undef)::restrict live e) J)
   |some (m,n,js,us)=>agree (us.map λu=>zY O live it l i nx ok b c rest (aV O c ((ok,.bool true)::(nx,.undef)::restrict live e) (aR J l i (.cells 1 (m::.int .i64 (n:Nat)::.int .i64 (u:Nat)::js)))))
   |none=>none
  |_=>none
 |.xe f args th J =>
  match T f with
  |some fn =>
   if args.length=fn.Mm then
    match rG th args fn.body with
    |some (e0,q) =>
     match aV O q e0 ([]::J)with
     |some (.exit _,_,_)=>none
     |some (.eA _,_,_)=>none
     |some (_,e,J1) =>
      match yQ e J1 fn.res,J1 with
      |some [],_::J2=>some (.val (.dj []) J2)
      |_,_=>none
     |none=>none
    |none=>none
   else none
  |none=>none
def it(T:zQ):Nat->bI
 |0=>λ_=>none
 |n+1=>cI T (it T n)
open Classical in
noncomputable def lim(T:zQ):bI:=λq =>
 if h:∃n r,it T n q=some r then some h.choose_spec.choose else none
end Go.az
