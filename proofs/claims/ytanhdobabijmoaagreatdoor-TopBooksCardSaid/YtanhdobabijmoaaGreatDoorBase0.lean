import GoSem.Core.View
import Derived.Lib.AtoiAll
set_option linter.all false
namespace Go
theorem ab:type_of%@Option.map_eq_some_iff:=@Option.map_eq_some_iff
theorem ad:type_of%@Option.some.injEq:=@Option.some.injEq
theorem ae:type_of%@Bool.and_eq_true:=@Bool.and_eq_true
theorem ah:type_of%@Option.bind_eq_some_iff:=@Option.bind_eq_some_iff
theorem aR:type_of%@List.map_cons:=@List.map_cons
theorem ai:type_of%@List.mem_of_getElem?:=@List.mem_of_getElem?
theorem af:type_of%@List.take_of_length_le:=@List.take_of_length_le
theorem ak:type_of%@Prod.mk.injEq:=@Prod.mk.injEq
theorem bV:type_of%@List.map_nil:=@List.map_nil
theorem au:type_of%@decide_eq_true_eq:=@decide_eq_true_eq
theorem az:type_of%@Bool.false_eq_true:=@Bool.false_eq_true
theorem aB:type_of%@Option.ite_none_right_eq_some:=@Option.ite_none_right_eq_some
theorem ar:type_of%@List.getElem?_eq_some_iff:=@List.getElem?_eq_some_iff
theorem aE:type_of%@List.drop_eq_nil_of_le:=@List.drop_eq_nil_of_le
theorem aL:type_of%@Nat.le_refl:=@Nat.le_refl
theorem av:type_of%@List.length_cons:=@List.length_cons
theorem aC:type_of%@List.getElem?_eq_getElem:=@List.getElem?_eq_getElem
theorem aT:type_of%@Option.bind_eq_bind:=@Option.bind_eq_bind
theorem aP:type_of%@List.drop_zero:=@List.drop_zero
theorem aX:type_of%@Option.map_some:=@Option.map_some
theorem aN:type_of%@List.length_pos_iff:=@List.length_pos_iff
theorem aQ:type_of%@List.nil_append:=@List.nil_append
theorem aS:type_of%@List.flatMap_cons:=@List.flatMap_cons
theorem aY:type_of%@List.mem_cons:=@List.mem_cons
theorem ba:type_of%@List.mem_append:=@List.mem_append
theorem bC:type_of%@Int.tdiv_eq_ediv_of_nonneg:=@Int.tdiv_eq_ediv_of_nonneg
theorem aV:type_of%@List.length_nil:=@List.length_nil
theorem bN:type_of%@List.mem_map:=@List.mem_map
theorem aF:type_of%@List.length_append:=@List.length_append
theorem bw:type_of%@List.length_eq_zero_iff:=@List.length_eq_zero_iff
theorem bY:type_of%@Bool.or_eq_true:=@Bool.or_eq_true
theorem cg:type_of%@Array.getD_eq_getD_getElem?:=@Array.getD_eq_getD_getElem?
theorem bT:type_of%@List.getElem?_cons_zero:=@List.getElem?_cons_zero
theorem cJ:type_of%@Nat.zero_add:=@Nat.zero_add
theorem cX:type_of%@List.mem_filter:=@List.mem_filter
theorem cV:type_of%@List.length_map:=@List.length_map
theorem cI:type_of%@List.drop_length_add_append:=@List.drop_length_add_append
theorem dA:type_of%@Array.getElem?_eq_some_iff:=@Array.getElem?_eq_some_iff
theorem ec:type_of%@Nat.mul_one:=@Nat.mul_one
theorem bU:type_of%@Nat.mul_le_mul_right:=@Nat.mul_le_mul_right
theorem bR:type_of%@List.mem_of_mem_take:=@List.mem_of_mem_take
theorem di:type_of%@Nat.add_assoc:=@Nat.add_assoc
theorem bM:type_of%@List.flatMap_nil:=@List.flatMap_nil
theorem dj:type_of%@Option.isSome_iff_exists:=@Option.isSome_iff_exists
theorem ei:type_of%@List.ext_getElem?:=@List.ext_getElem?
theorem cY:type_of%@Bool.not_eq_true':=@Bool.not_eq_true'
theorem eH:type_of%@List.getElem?_take:=@List.getElem?_take
theorem ct:type_of%@List.append_nil:=@List.append_nil
theorem ck:type_of%@List.mem_of_mem_drop:=@List.mem_of_mem_drop
theorem cq:type_of%@Nat.succ_mul:=@Nat.succ_mul
theorem ft:type_of%@Int.toNat_of_nonneg:=@Int.toNat_of_nonneg
theorem cZ:type_of%@Int.mul_nonneg:=@Int.mul_nonneg
theorem cf:type_of%@List.singleton_append:=@List.singleton_append
theorem eg:type_of%@List.getElem?_eq_none:=@List.getElem?_eq_none
theorem eS:type_of%@Option.getD_some:=@Option.getD_some
theorem cM:type_of%@List.cons_append:=@List.cons_append
theorem fS:type_of%@Array.toList_inj:=@Array.toList_inj
theorem gz:type_of%@Nat.le_trans:=@Nat.le_trans
theorem eE:type_of%@List.getElem?_drop:=@List.getElem?_drop
theorem ij:type_of%@Nat.add_mul:=@Nat.add_mul
theorem eG:type_of%@List.getElem?_of_mem:=@List.getElem?_of_mem
theorem eR:type_of%@Int.mul_le_mul_of_nonneg_right:=@Int.mul_le_mul_of_nonneg_right
theorem cF:type_of%@List.flatMap_append:=@List.flatMap_append
theorem jh:type_of%@List.all_cons:=@List.all_cons
theorem iI:type_of%@List.length_filter_le:=@List.length_filter_le
theorem iH:type_of%@List.getElem?_toArray:=@List.getElem?_toArray
theorem ig:type_of%@List.cons.injEq:=@List.cons.injEq
theorem fx:type_of%@Array.getElem?_modify:=@Array.getElem?_modify
theorem qY:type_of%@List.getElem?_map:=@List.getElem?_map
theorem c8:type_of%@List.append_assoc:=@List.append_assoc
theorem eF:type_of%@List.getElem?_mapIdx:=@List.getElem?_mapIdx
theorem fj:type_of%@List.getElem?_append_left:=@List.getElem?_append_left
theorem fD:type_of%@List.drop_drop:=@List.drop_drop
theorem kO:type_of%@Int.mul_le_mul:=@Int.mul_le_mul
theorem fT:type_of%@List.length_take:=@List.length_take
theorem dX:type_of%@List.all_eq_true:=@List.all_eq_true
theorem mq:type_of%@Int.le_total:=@Int.le_total
theorem gE{α:Type}{l:List α}{i:Nat}(h:i<l.length):∃x,l[i]?=some x:=⟨_,aC h⟩
end Go
namespace Go.aA
inductive D where
 |undef
 |bool (b:Bool)
 |int (k:IntKind) (n:Int)
 |str (s:List UInt8)
 |agg (cs:List D)
 |db (cs:List D)
 |xU
 |ref (l i v off:Nat)
 |bq (cs:List D)
 |bP
 |aJ (n:Nat) (cs:List D)
 |sl (l i v off n w:Nat)
 |fn (f:Nat) (first cap:List D)
 |se
 |jm (l i:Nat)
 |own (s:Nat) (cs:List D)
 |vr (x s off:Nat)
 |va (t:Nat) (d:D)
 |oI
 |emp
 deriving Inhabited
mutual
def D.same:D->D->Bool
 |.undef,.undef=>true
 |.bool a,.bool b=>a == b
 |.int k n,.int k' n'=>k == k' && n == n'
 |.str a,.str b=>a == b
 |.agg a,.agg b=>D.zA a b
 |.db a,.db b=>D.zA a b
 |.xU,.xU=>true
 |.ref a b c d,.ref a' b' c' d'=>a == a' && b == b' && c == c' && d == d'
 |.bq a,.bq b=>D.zA a b
 |.bP,.bP=>true
 |.aJ n a,.aJ m b=>n == m && D.zA a b
 |.sl a b c d e f,.sl a' b' c' d' e' f'=>a == a' && b == b' && c == c' && d == d' && e == e' && f == f'
 |.fn f a b,.fn f' a' b'=>f == f' && D.zA a a' && D.zA b b'
 |.se,.se=>true
 |.jm a b,.jm a' b'=>a == a' && b == b'
 |.own s a,.own s' b=>s == s' && D.zA a b
 |.vr a b c,.vr a' b' c'=>a == a' && b == b' && c == c'
 |.va t a,.va t' b=>t == t' && D.same a b
 |.oI,.oI=>true
 |.emp,.emp=>true
 |_,_=>false
def D.zA:List D->List D->Bool
 |[],[]=>true
 |a::as,b::bs=>D.same a b && D.zA as bs
 |_,_=>false
end
mutual
theorem L5:∀{a b:D},D.same a b=true->a=b
 |.undef,b,h=>by cases b<;>simp[D.same]at h;rfl
 |.bool _,b,h=>by cases b<;>simp[D.same]at h;rw[h]
 |.int _ _,b,h=>by cases b<;>simp[D.same]at h;rw[h.1,h.2]
 |.str _,b,h=>by cases b<;>simp[D.same]at h;rw[h]
 |.agg _,b,h=>by cases b<;>simp[D.same]at h;rw[xa h]
 |.db _,b,h=>by cases b<;>simp[D.same]at h;rw[xa h]
 |.xU,b,h=>by cases b<;>simp[D.same]at h;rfl
 |.ref ..,b,h=>by cases b<;>simp[D.same]at h;simp[h]
 |.bq _,b,h=>by cases b<;>simp[D.same]at h;rw[xa h]
 |.bP,b,h=>by cases b<;>simp[D.same]at h;rfl
 |.aJ ..,b,h=>by cases b<;>simp[D.same]at h;rw[h.1,xa h.2]
 |.sl ..,b,h=>by cases b<;>simp[D.same]at h;simp[h]
 |.fn ..,b,h=>by cases b<;>simp[D.same]at h;rw[h.1.1,xa h.1.2,xa h.2]
 |.se,b,h=>by cases b<;>simp[D.same]at h;rfl
 |.jm ..,b,h=>by cases b<;>simp[D.same]at h;simp[h]
 |.own ..,b,h=>by cases b<;>simp[D.same]at h;rw[h.1,xa h.2]
 |.vr ..,b,h=>by cases b<;>simp[D.same]at h;simp[h]
 |.va _ a,b,h=>by cases b<;>simp[D.same]at h;rw[h.1,L5 h.2]
 |.oI,b,h=>by cases b<;>simp[D.same]at h;rfl
 |.emp,b,h=>by cases b<;>simp[D.same]at h;rfl
theorem xa:∀{a b:List D},D.zA a b=true->a=b
 |[],[],_=>rfl
 |[],_::_,h=>by simp[D.zA]at h
 |_::_,[],h=>by simp[D.zA]at h
 |a::as,b::bs,h=>by
  simp only[D.zA,ae]at h;rw[L5 h.1,xa h.2]
end
mutual
theorem Gn:∀(a:D),D.same a a=true
 |.undef=>rfl
 |.bool b=>by simp[D.same]
 |.int k n=>by simp[D.same]
 |.str s=>by simp[D.same]
 |.agg a=>by simp[D.same,sh a]
 |.db a=>by simp[D.same,sh a]
 |.xU=>rfl
 |.ref .. => by simp[D.same]
 |.bq a=>by simp[D.same,sh a]
 |.bP=>rfl
 |.aJ n a=>by simp[D.same,sh a]
 |.sl .. => by simp[D.same]
 |.fn f a b=>by simp[D.same,sh a,sh b]
 |.se=>rfl
 |.jm .. => by simp[D.same]
 |.own s a=>by simp[D.same,sh a]
 |.vr .. => by simp[D.same]
 |.va t a=>by simp[D.same,Gn a]
 |.oI=>rfl
 |.emp=>rfl
theorem sh:∀(a:List D),D.zA a a=true
 |[]=>rfl
 |a::as=>by simp[D.zA,Gn a,sh as]
end
instance:DecidableEq D:=λa b=>if h:D.same a b=true then isTrue (L5 h)else isFalse λe=>h (e ▸ Gn a)
inductive bI where
 |t (n:Nat)
 |c (d:D)
 deriving Inhabited,DecidableEq
inductive Pu where
 |Vw
 |Ps
 |Vs
 |Mc (lo hi:Bool)
 |seq (neg:Bool)
 deriving Inhabited,DecidableEq
def lX:Pu->List D->Option D
 |.Vw,[.str s]=>some (.int .i64 s.length)
 |.Ps,[.str s,.int _ i]=>if 0<=i then(s[i.toNat]?).map λb => .int .u8 b.toNat else none
 |.Vs,[.str a,.str b]=>if a.length+b.length<=4611686018427387904 then some (.str (a++b))else none
 |.Mc true true,[.str s,.int _ i,.int _ j]=>if 0<=i/\i<=j/\j<=s.length then some (.str ((s.drop i.toNat).take (j.toNat-i.toNat)))else none
 |.Mc true false,[.str s,.int _ i]=>if 0<=i/\i<=s.length then some (.str (s.drop i.toNat))else none
 |.Mc false true,[.str s,.int _ j]=>if 0<=j/\j<=s.length then some (.str (s.take j.toNat))else none
 |.Mc false false,[.str s]=>some (.str s)
 |.seq neg,[.str a,.str b]=>some (.bool (if neg then !(a == b)else a == b))
 |_,_=>none
abbrev Ky:=Option (Bool×List (Option IntKind))
inductive Mo where
 |make
 |JB (t e:Nat)
 |get (ky:Ky) (zero:D) (ok:Bool)
 |put (ky:Ky)
 |len
 |rng
 |ent
 deriving Inhabited,DecidableEq
inductive Me where
 |b2s
 |s2b
 |s2a (n w:Nat)
 |peq (neg:Bool)
 deriving Inhabited,DecidableEq
inductive K where
 |mv (x:bI)
 |IT (w:Nat)
 |pick (c a b:bI)
 |RE (nb:List (Nat×Nat)) (cs:List D)
 |AW (nb:List (Nat×Nat)) (cs:List D)
 |JC (x:bI)
 |JD (x:bI)
 |T0 (nb:List (Nat×Nat)) (x:bI)
 |FZ (x:bI)
 |JB (zero:List D) (parts:List (Nat×Nat×bI))
 |W6 (n w:Nat) (zero:List D) (parts:List (Nat×Nat×bI))
 |RJ (n w:Nat) (zero:List D) (parts:List (Nat×Nat×bI))
 |ld (ag:Bool) (sz:Nat) (a:bI)
 |VU (ag:Bool) (sz:Nat) (a:bI)
 |SU (ag:Bool) (sz:Nat) (a:bI)
 |Xw (ps neg:Bool) (x:bI)
 |XR (x:bI)
 |st (nb:List (Nat×Nat)) (sz:Nat) (a x:bI)
 |SH (os:List Nat) (sz:Nat) (a x:bI)
 |SV (v:Nat) (ag:Bool) (sz:Nat) (a:Nat)
 |Hj (v:Nat) (nb:List (Nat×Nat)) (sz:Nat) (a:Nat) (x:bI)
 |bin (o:BinOp) (x y:bI)
 |eqv (ag:Bool) (ks:List (Option IntKind)) (neg:Bool) (x y:bI)
 |un (o:UnOp) (x:bI)
 |SR (k:IntKind) (x:bI)
 |UJ (f:Nat) (first cap:List bI)
 |VV (w bytes:Nat) (zero:List D) (l c:bI)
 |Vv (w:Nat) (x:bI) (lo hi mx:Option bI)
 |Pv (len w:Nat) (x:bI) (lo hi:Option bI)
 |JF (off:Nat) (x:bI)
 |fld (ag:Bool) (off sz:Nat) (x:bI)
 |Hc (len w:Nat) (x i:bI)
 |He (w:Nat) (x i:bI)
 |LF (ag:Bool) (len w:Nat) (x i:bI)
 |JK (x:bI)
 |O8 (n:Nat)
 |mn (x y:bI)
 |mx (x y:bI)
 |app (w bytes:Nat) (s x:bI)
 |RF (os:List Nat) (w bytes:Nat) (s x:bI)
 |apz (w bytes:Nat) (s x:bI)
 |VS (w bytes:Nat) (x:bI)
 |cvz (x:bI)
 |bse
 |ape (w bytes v:Nat) (x:bI)
 |ext (x:bI) (i:Nat)
 |GO (o:Pu) (xs:List bI)
 |mp (o:Mo) (xs:List bI)
 |me (o:Me) (xs:List bI)
 |SW (t:Nat) (x:bI)
 |VJ (t:Nat) (zero:Option D) (x:bI)
 |Xv (neg:Bool) (x:bI)
 |U1 (x:bI)
 |N1
 |call (kp:Bool) (f:bI) (args:List bI)
 deriving Inhabited,DecidableEq
structure Op where
 dst:Option Nat
 Ef:Option (Nat×Bool)
 BP:Bool
 k:K
 deriving Inhabited,DecidableEq
inductive cc where
 |Hu
 |cC (vs:List Nat)
 |tT (live:List Nat) (ops:List Op)
 |seq (a b:cc)
 |ite (c:bI) (a b:cc)
 |dr (id:Nat) (a:cc)
 |loop (live:List Nat) (bB:Bool) (a:cc)
 |LY (live:List Nat) (f:bI) (params:List Nat) (AY body:cc)
 |iu (live:List Nat) (it:bI) (nx ok b:Nat) (a rest:cc)
 |Om (live:List Nat) (pre:List Op) (op:Op) (post:List Op)
 |Qs (f:bI) (args:List bI) (rest:cc)
 |exit (id:Nat)
 |ret
 |VY (a:cc)
 deriving Inhabited,DecidableEq
inductive Exit where
 |normal
 |exit (id:Nat)
 |ret
 |fp (d:D)
 deriving Inhabited,DecidableEq
abbrev Env:=List (Nat×D)
def get:Env->Nat->D
 |[],_ => .undef
 |(k,v)::r,t=>if k=t then v else get r t
def put(d:Option Nat)(v:D)(e:Env):Env :=
 match d with
 |some t=>(t,v)::e
 |none=>e
def D.calm:D->D
 |.vr .. => .undef
 |.emp => .undef
 |.own _ cs => .own 0 cs
 |d=>d
def D.strip:D->D
 |.vr .. => .undef
 |.emp => .undef
 |.own .. => .undef
 |d=>d
def restrict(live:List Nat)(e:Env):Env:=live.map λt=>(t,(get e t).calm)
def keys(e:Env):List Nat:=(e.map (·.1)).eraseDups
def yQ(live:List Nat)(e:Env):Env:=live.map λt=>(t,(get e t).strip)
def z7(live:List Nat)(x:Exit)(e:Env):List Nat :=
 match x with
 |.normal=>live
 |_=>keys e
structure xZ where
 state:Nat
 yJ:Option Exit
 env:Env
 params:List Nat
 AY:cc
 body:cc
 deriving DecidableEq
inductive aO where
 |cells (v:Nat) (cs:List D)
 |dead
 |loop (l:xZ)
 deriving DecidableEq
abbrev SK:=List (List aO)
def fw:SK->Nat->Option (List aO)
 |[],_=>none
 |s::J,l=>if J.length=l then some s else fw J l
def gU:SK->Nat->List aO->SK
 |[],_,_=>[]
 |s::J,l,s'=>if J.length=l then s'::J else s::gU J l s'
def dG(J:SK)(l i:Nat):Option aO:=(fw J l).bind (·[i]?)
def aZ(J:SK)(l i:Nat)(b:aO):SK :=
 match fw J l with
 |some s=>gU J l (s.set i b)
 |none=>J
def cells?(J:SK)(l i v:Nat):Option (List D) :=
 match dG J l i with
 |some (.cells v' cs)=>if v'=v then some cs else none
 |_=>none
def fR(J:SK)(b:aO):Option (Nat×Nat×SK) :=
 match J with
 |[]=>none
 |s::J'=>some (J'.length,s.length,(s++[b])::J')
mutual
def D.clean:D->Bool
 |.ref .. => false
 |.sl .. => false
 |.jm .. => false
 |.vr .. => true
 |.emp=>true
 |.own _ cs=>D.bj cs
 |.agg cs=>D.bj cs
 |.db cs=>D.bj cs
 |.bq cs=>D.bj cs
 |.aJ _ cs=>D.bj cs
 |.fn _ a b=>D.bj a && D.bj b
 |.undef=>true
 |.bool _=>true
 |.int _ _=>true
 |.str _=>true
 |.xU=>true
 |.bP=>true
 |.se=>true
 |.va _ d=>D.clean d
 |.oI=>true
def D.bj:List D->Bool
 |[]=>true
 |d::ds=>D.clean d && D.bj ds
end
def cC(l:Nat):Nat->D->SK->D×SK
 |0,_,J=>(.undef,J)
 |n+1,d,J =>
  if d.clean then(d,J)else
  match d with
  |.agg cs=>let r:=frzL (cC l n) cs J;(.agg r.1,r.2)
  |.db cs=>let r:=frzL (cC l n) cs J;(.db r.1,r.2)
  |.bq cs=>let r:=frzL (cC l n) cs J;(.bq r.1,r.2)
  |.aJ m cs=>let r:=frzL (cC l n) cs J;(.aJ m r.1,r.2)
  |.own s cs=>let r:=frzL (cC l n) cs J;(.own s r.1,r.2)
  |.fn f a b=>let r:=frzL (cC l n) a J;let r':=frzL (cC l n) b r.2;(.fn f r.1 r'.1,r'.2)
  |.ref l' i v off=>if l'<=l then(.ref l' i v off,J)else(.undef,J)
  |.jm l' i=>if l'<=l then(.jm l' i,J)else(.undef,J)
  |.sl l' i v off m w =>
   if l'<=l then(.sl l' i v off m w,J)else
   match cells? J l' i v with
   |some cs=>let r:=frzL (cC l n) ((cs.drop off).take (m*w)) (aZ J l' i .dead);(.aJ m r.1,r.2)
   |none=>(.undef,J)
  |_=>(.undef,J)
where
 frzL (f:D->SK->D×SK):List D->SK->List D×SK
  |[],J=>([],J)
  |d::ds,J=>let r:=f d J;let r':=frzL f ds r.2;(r.1::r'.1,r'.2)
def deep:Nat:=16
def pW(l:Nat):Env->SK->Env×SK
 |[],J=>([],J)
 |(t,d)::e,J=>let r:=cC l deep d J;let r':=pW l e r.2;((t,r.1)::r'.1,r'.2)
inductive Q where
 |call (kp:Bool) (f:Nat) (args:List D) (J:SK)
 |loop (live:List Nat) (bB:Bool) (c:cc) (env:Env) (J:SK)
 |round (l i:Nat) (args:List D) (J:SK)
 |iu (live:List Nat) (it:bI) (nx ok b:Nat) (c rest:cc) (env:Env) (J:SK)
 |yn (f:Nat) (args:List D) (th:Option D) (J:SK)
inductive R where
 |val (d:D) (J:SK)
 |DH (e:Exit) (env:Env) (J:SK)
 |fp (d:D) (J:SK)
 deriving DecidableEq
abbrev bS:=Q->Option R
def bu(e:Env):bI->D
 |.t n=>(get e n).strip
 |.c d=>d
def D.cells:D->Option (List D)
 |.agg cs=>some cs
 |.undef=>none
 |.db _=>none
 |.own .. => none
 |.vr .. => none
 |.emp=>none
 |d=>some [d]
def D.row(ag:Bool)(d:D):Option (List D) :=
 match ag,d with
 |true,.agg cs=>some cs
 |true,_=>none
 |false,.agg _=>none
 |false,d=>d.cells
def sV(e:Env):List (Nat×Nat×bI)->List D->Option (List D)
 |[],cs=>some cs
 |(off,sz,x)::r,cs =>
  match(bu e x).cells with
  |some p=>if p.length=sz/\off+sz<=cs.length then sV e r (cs.take off++p++cs.drop (off+sz))else none
  |none=>none
def Bf:List (Option IntKind)->List D->List D->Option Bool
 |[],[],[]=>some true
 |some k::ks,.int k1 a::x,.int k2 b::y=>if k1=k/\k2=k then(Bf ks x y).map (a == b && ·)else none
 |none::ks,.bool a::x,.bool b::y=>(Bf ks x y).map (a == b && ·)
 |_,_,_=>none
def wM(o:BinOp):D->D->Option D
 |.int k a,.int k' b =>
  match o with
  |.shl=>if b<0 then none else some (.int k (k.wrap (a*2^(min b.toNat k.bits))))
  |.shr=>if b<0 then none else some (.int k (a.fdiv (2^(min b.toNat k.bits))))
  |.add=>if k=k' then some (.int k (k.wrap (a+b)))else none
  |.sub=>if k=k' then some (.int k (k.wrap (a-b)))else none
  |.mul=>if k=k' then some (.int k (k.wrap (a*b)))else none
  |.quo=>if k=k'/\b≠0 then some (.int k (k.wrap (a.tdiv b)))else none
  |.rem=>if k=k'/\b≠0 then some (.int k (a.tmod b))else none
  |.and=>if k=k' then some (.int k (k.wrap ((BitVec.ofInt k.bits a &&& BitVec.ofInt k.bits b).toNat:Int)))else none
  |.or=>if k=k' then some (.int k (k.wrap ((BitVec.ofInt k.bits a ||| BitVec.ofInt k.bits b).toNat:Int)))else none
  |.xor=>if k=k' then some (.int k (k.wrap ((BitVec.ofInt k.bits a ^^^ BitVec.ofInt k.bits b).toNat:Int)))else none
  |.andNot=>none
  |.eql=>if k=k' then some (.bool (a == b))else none
  |.neq=>if k=k' then some (.bool (a != b))else none
  |.lss=>if k=k' then some (.bool (decide (a<b)))else none
  |.leq=>if k=k' then some (.bool (decide (a<=b)))else none
  |.gtr=>if k=k' then some (.bool (decide (a>b)))else none
  |.geq=>if k=k' then some (.bool (decide (a>=b)))else none
 |_,_=>none
def E7:D->Option Int
 |.int _ n=>some n
 |_=>none
def CX(e:Env)(m:Nat)(dfl:Option Nat):Option bI->Option Nat
 |some x=>match E7 (bu e x)with
  |some n=>if 0<=n/\n<=m then some n.toNat else none
  |none=>none
 |none=>dfl
def bounds(len:Nat)(e:Env)(lo hi mx:Option bI):Option (Nat×Nat) :=
 (CX e len (some len) mx).bind λm=>(CX e m (if mx.isSome then none else some len) hi).bind λh=>(CX e h (some 0) lo).map λl=>(l,h)
def tZ(ky:Ky)(a b:D):Option Bool :=
 match ky with
 |none=>match a,b with
  |.str x,.str y=>some (x == y)
  |_,_=>none
 |some (ag,ks)=>match a.row ag,b.row ag with
  |some p,some q=>Bf ks p q
  |_,_=>none
def rS(ky:Ky)(k:D):List D->Option (Option (Nat×D))
 |[]=>some none
 |.db [k',v]::es =>
  match tZ ky k k' with
  |some true=>some (some (0,v))
  |some false=>(rS ky k es).map λx=>x.map λy=>(y.1+1,y.2)
  |none=>none
 |_=>none
def B6(J:SK):D->Option (Nat×Nat×List D)
 |.jm l i=>(cells? J l i 0).map λes=>(l,i,es)
 |_=>none
def BO(J:SK):Mo->List D->Option (D×SK)
 |.make,[]=>(fR J (.cells 0 [])).map λx=>(.jm x.1 x.2.1,x.2.2)
 |.JB t e,[]=>(fR J (.cells 2 [.int .i64 (t:Nat),.int .i64 (e:Nat),.str []])).map λx=>(.jm x.1 x.2.1,x.2.2)
 |.get ky zero ok,[m,k] =>
  match B6 J m with
  |some (_,_,es) =>
   if(tZ ky k k).isSome then
    match rS ky k es with
    |some (some (_,v))=>some (if ok then .db [v,.bool true]else v,J)
    |some none=>some (if ok then .db [zero,.bool false]else zero,J)
    |none=>none
   else none
  |none=>none
 |.put ky,[m,k,v] =>
  match B6 J m with
  |some (l,i,es) =>
   if(tZ ky k k).isSome/\(l+1=J.length\/(k.clean/\v.clean))then
    match rS ky k es with
    |some (some (j,_))=>some (.undef,aZ J l i (.cells 0 (es.set j (.db [k,v]))))
    |some none=>some (.undef,aZ J l i (.cells 0 (es++[.db [k,v]])))
    |none=>none
   else none
  |none=>none
 |.len,[m]=>(B6 J m).map λx=>(.int .i64 x.2.2.length,J)
 |.rng,[m] =>
  match B6 J m with
  |some (lm,im,es)=>(fR J (.cells 1 [.jm lm im,.int .i64 es.length])).map λx=>(.jm x.1 x.2.1,x.2.2)
  |none=>none
 |.ent,[.jm l i] =>
  match cells? J l i 1 with
  |some (m::.int .i64 n::.int .i64 j::_) =>
   match B6 J m with
   |some (_,_,es)=>if(es.length:Int)=n then
     match es[j.toNat]? with
     |some (.db [k,v])=>some (.db [k,v],J)
     |_=>none
    else none
   |none=>none
  |_=>none
 |_,_=>none
def strCells(s:List UInt8):List D:=s.map λb => .int .u8 b.toNat
def elems(J:SK)(w:Nat):D->Option (Nat×List D)
 |.bP=>some (0,[])
 |.str s=>if w=1 then some (s.length,strCells s)else none
 |.aJ n cs=>if cs.length=n*w then some (n,cs)else none
 |.sl l i v off n w' =>
  if w'=w then
   match cells? J l i v with
   |some cs=>if off+n*w<=cs.length then some (n,(cs.drop off).take (n*w))else none
   |none=>none
  else none
 |_=>none
def Cs:List D->Option (List UInt8)
 |[]=>some []
 |.int .u8 n::r=>(Cs r).map (UInt8.ofNat n.toNat :: ·)
 |_=>none
def UG(J:SK):Me->List D->Option (D×SK)
 |.b2s,[.str _]=>none
 |.b2s,[x]=>(elems J 1 x).bind λr=>(Cs r.2).map λs=>(.str s,J)
 |.s2b,[.str s]=>some (.aJ s.length (strCells s),J)
 |.s2a n w,[.aJ m cs]=>if 0<n/\n<=m then some (.bq (cs.take (n*w)),J)else none
 |.peq neg,[.ref l i v o,.ref l' i' v' o']=>if l=l'/\i=i'/\o=o'/\v=v'/\(cells? J l i v).isSome then some (.bool (!neg),J)else none
 |_,_=>none
def room:Nat:=2^46
def ki:List (Nat×Nat)->List D->SK->Option (List D×SK)
 |[],cs,J=>some (cs,J)
 |(p,w)::r,cs,J =>
  match cs[p]? with
  |some .bP=>do
   let (l,i,J')<-fR J (.cells 0 [])
   ki r (cs.set p (.sl l i 0 0 0 w)) J'
  |_=>ki r cs J
def sW(e:Env)(v a:Nat):Option (Nat×List D×Nat) :=
 match get e v with
 |.own s cs =>
  if a=v then some (s,cs,0)else
  match get e a with
  |.vr x s' off=>if x=v/\s'=s then some (s,cs,off)else none
  |_=>none
 |_=>none
def vl(e:Env)(v:Nat):Nat :=
 match get e v with
 |.own s _=>s+1
 |_=>0
def BQ(J:SK):D->Option (List D)
 |.bq cs=>some cs
 |.ref l i v off=>(cells? J l i v).map (·.drop off)
 |_=>none
def SX(J:SK):D->Option (List D)
 |.ref l i 0 off=>BQ J (.ref l i 0 off)
 |_=>none
def JJ(ps:Bool)(d:D):Option Bool :=
 match ps,d with
 |true,.xU=>some true
 |true,.bq _=>some false
 |true,.ref .. => some false
 |false,.bP=>some true
 |false,.aJ n _=>if n=0 then none else some false
 |false,.sl _ _ _ _ n _=>if n=0 then none else some false
 |_,_=>none
def PJ(t:Nat)(z:Option D):D->Option D
 |.va t' d=>match z with
  |some z=>some (if t'=t then .db [d,.bool true]else .db [z,.bool false])
  |none=>if t'=t then some d else none
 |.oI=>z.map λz => .db [z,.bool false]
 |_=>none
def Us:D->Option Bool
 |.oI=>some true
 |.va .. => some false
 |_=>none
def D.off(l i:Nat):D->Bool
 |.ref l' i' _ _=>decide (¬(l'=l/\i'=i))
 |_=>true
def Lj(e:Env)(J:SK)(w bytes:Nat)(s x:bI):Option (D×SK):=do
  let (m,xs)<-elems J w (bu e x)
  match bu e s with
  |.bP =>
   if m*bytes<=room then
    if m=0 then some (.bP,J)else do
    let (l,i,J')<-fR J (.cells 0 xs)
    some (.sl l i 0 0 m w,J')
   else none
  |.sl l i v off n w' =>
   match cells? J l i v with
   |some cs =>
    if w'=w/\off+n*w<=cs.length/\(n+m)*bytes<=room then
     if l+1=J.length then
      some (.sl l i (v+1) 0 (n+m) w,aZ J l i (.cells (v+1) ((cs.drop off).take (n*w)++xs)))
     else
      let r:=cC.frzL (cC l deep) xs J
      some (.sl l i (v+1) 0 (n+m) w,aZ r.2 l i (.cells (v+1) ((cs.drop off).take (n*w)++r.1)))
    else none
   |none=>none
  |_=>none
def bO(e:Env)(J:SK):K->Option (D×SK)
 |.mv x=>some (bu e x,J)
 |.IT w=>do
  let (l,i,J')<-fR J (.cells 0 [])
  some (.sl l i 0 0 0 w,J')
 |.pick c a b =>
  match bu e c with
  |.bool t=>some (if t then bu e a else bu e b,J)
  |_=>none
 |.RE nb cs=>do
  let (cs',J1)<-ki nb cs J
  let (l,i,J')<-fR J1 (.cells 0 cs')
  some (.ref l i 0 0,J')
 |.JC x=>(bu e x).cells.map λcs=>(.bq cs,J)
 |.JD x=>do
  let cs<-(bu e x).cells
  let (l,i,J')<-fR J (.cells 0 cs)
  some (.ref l i 0 0,J')
 |.T0 nb x=>do
  let cs<-(bu e x).cells
  let (cs',J1)<-ki nb cs J
  let (l,i,J')<-fR J1 (.cells 0 cs')
  some (.ref l i 0 0,J')
 |.AW .. => none
 |.FZ _=>none
 |.Hj .. => none
 |.SV v ag sz a =>
  match sW e v a with
  |some (_,cs,off) =>
   let cs:=cs.drop off
   if sz<=cs.length then
    if ag then some (.agg (cs.take sz),J)else
    match cs with
    |d::_=>some (d,J)
    |[]=>none
   else none
  |none=>none
 |.JB zero parts=>do
  let cs<-sV e parts zero
  some (.agg cs,J)
 |.W6 n _ zero parts=>do
  let cs<-sV e parts zero
  some (.aJ n cs,J)
 |.RJ n w zero parts=>do
  let cs<-sV e parts zero
  let (l,i,J')<-fR J (.cells 0 cs)
  some (.sl l i 0 0 n w,J')
 |.ld ag sz a =>
  match BQ J (bu e a)with
  |some cs =>
   if sz<=cs.length then
    if ag then some (.agg (cs.take sz),J)else
    match cs with
    |d::_=>some (d,J)
    |[]=>none
   else none
  |none=>none
 |.SU ag sz a =>
  match SX J (bu e a)with
  |some cs =>
   if sz<=cs.length then
    if ag then some (.agg (cs.take sz),J)else
    match cs with
    |d::_=>some (d,J)
    |[]=>none
   else none
  |none=>none
 |.VU ag sz a =>
  match bu e a with
  |.bq cs =>
   if sz<=cs.length then
    if ag then some (.agg (cs.take sz),J)else
    match cs with
    |d::_=>some (d,J)
    |[]=>none
   else none
  |_=>none
 |.Xw ps neg x=>(JJ ps (bu e x)).map λb=>(.bool (if neg then !b else b),J)
 |.XR x =>
  match bu e x with
  |.bq cs=>some (.bq cs,J)
  |.ref l i v off=>some (.ref l i v off,J)
  |_=>none
 |.st nb sz a x =>
  match bu e a with
  |.ref l i v off =>
   match cells? J l i v with
   |some cs =>
    match(bu e x).cells with
    |some p =>
     if p.length=sz/\off+sz<=cs.length then
      if l+1=J.length then
       match ki nb p J with
       |some (p',J1)=>some (.undef,aZ J1 l i (.cells v (cs.take off++p'++cs.drop (off+sz))))
       |none=>none
      else
       let r:=cC.frzL (cC l deep) p J
       some (.undef,aZ r.2 l i (.cells v (cs.take off++r.1++cs.drop (off+sz))))
     else none
    |none=>none
   |none=>none
  |_=>none
 |.SH os sz a x =>
  match bu e a with
  |.ref l i v off =>
   if(os.all λt=>D.off l i (get e t))=true then
    match cells? J l i v with
    |some cs =>
     match(bu e x).cells with
     |some p =>
      if p.length=sz/\off+sz<=cs.length/\(D.bj p=true\/l+1=J.length)then some (.undef,aZ J l i (.cells v (cs.take off++p++cs.drop (off+sz))))else none
     |none=>none
    |none=>none
   else none
  |_=>none
 |.bin o x y=>(wM o (bu e x) (bu e y)).map (·,J)
 |.eqv ag ks neg x y =>
  match(bu e x).row ag,(bu e y).row ag with
  |some p,some q=>(Bf ks p q).map λb=>(.bool (if neg then !b else b),J)
  |_,_=>none
 |.un o x =>
  match o,bu e x with
  |.not,.bool b=>some (.bool !b,J)
  |.neg,.int k n=>some (.int k (k.wrap (0-n)),J)
  |.xor,.int k n=>some (.int k (k.wrap ((BitVec.ofInt k.bits (if k.signed then -1 else k.max) ^^^ BitVec.ofInt k.bits n).toNat:Int)),J)
  |_,_=>none
 |.SR k x =>
  match bu e x with
  |.int _ n=>some (.int k (k.wrap n),J)
  |_=>none
 |.UJ f first cap=>some (.fn f (first.map (bu e)) (cap.map (bu e)),J)
 |.VV w bytes zero l c =>
  match bu e l,bu e c with
  |.int .i64 n,.int .i64 m =>
   if 0<=n/\n=m/\n*bytes<=(room:Int)/\zero.length=w then do
    let (l,i,J')<-fR J (.cells 0 ((List.range n.toNat).flatMap λ_=>zero))
    some (.sl l i 0 0 n.toNat w,J')
   else none
  |_,_=>none
 |.Vv w x lo hi mx =>
  match bu e x with
  |.aJ n cs=>(bounds n e lo hi mx).map λb=>(.aJ (b.2-b.1) ((cs.drop (b.1*w)).take ((b.2-b.1)*w)),J)
  |.sl l i v off n w'=>if w'=w then(bounds n e lo hi mx).map λb=>(.sl l i v (off+b.1*w) (b.2-b.1) w,J)else none
  |.bP=>(bounds 0 e lo hi mx).map λ_=>(.bP,J)
  |_=>none
 |.Pv len w x lo hi =>
  match bu e x with
  |.bq cs=>(bounds len e lo hi none).map λb=>(.aJ (b.2-b.1) ((cs.drop (b.1*w)).take ((b.2-b.1)*w)),J)
  |.ref l i v off =>
   match cells? J l i v with
   |some cs=>if len<=1000000/\off+len*w<=cs.length then(bounds len e lo hi none).map λb=>(.sl l i v (off+b.1*w) (b.2-b.1) w,J)else none
   |none=>none
  |_=>none
 |.JF off x =>
  match x with
  |.t n =>
   match get e n with
   |.bq cs=>some (.bq (cs.drop off),J)
   |.ref l i v o=>some (.ref l i v (o+off),J)
   |.own s _=>some (.vr n s off,J)
   |.vr v s o=>some (.vr v s (o+off),J)
   |_=>none
  |.c _=>none
 |.fld ag off sz x =>
  match bu e x with
  |.agg cs =>
   if off+sz<=cs.length then
    if ag then some (.agg ((cs.drop off).take sz),J)else(cs[off]?).map (·,J)
   else none
  |_=>none
 |.Hc len w x i =>
  match x,E7 (bu e i)with
  |.t m,some n =>
   if 0<=n/\n<len then
    match get e m with
    |.bq cs=>some (.bq ((cs.drop (n.toNat*w)).take w),J)
    |.ref l j v off=>some (.ref l j v (off+n.toNat*w),J)
    |.own s _=>some (.vr m s (n.toNat*w),J)
    |.vr v s o=>some (.vr v s (o+n.toNat*w),J)
    |_=>none
   else none
  |_,_=>none
 |.He w x i =>
  match bu e x,E7 (bu e i)with
  |.aJ m cs,some n=>if 0<=n/\n<m then some (.bq ((cs.drop (n.toNat*w)).take w),J)else none
  |.sl l j v off m w',some n=>if 0<=n/\n<m/\w'=w then some (.ref l j v (off+n.toNat*w),J)else none
  |_,_=>none
 |.LF ag len w x i =>
  match bu e x,E7 (bu e i)with
  |.agg cs,some n =>
   if 0<=n/\n<len/\(n.toNat+1)*w<=cs.length then
    if ag then some (.agg ((cs.drop (n.toNat*w)).take w),J)else(cs[n.toNat*w]?).map (·,J)
   else none
  |_,_=>none
 |.JK x =>
  match bu e x with
  |.bP=>some (.int .i64 0,J)
  |.aJ n _=>some (.int .i64 n,J)
  |.sl _ _ _ _ n _=>some (.int .i64 n,J)
  |_=>none
 |.O8 n=>some (.int .i64 n,J)
 |.mn x y =>
  match bu e x,bu e y with
  |.int k a,.int _ b=>some (.int k (min a b),J)
  |_,_=>none
 |.mx x y =>
  match bu e x,bu e y with
  |.int k a,.int _ b=>some (.int k (max a b),J)
  |_,_=>none
 |.app w bytes s x=>do
  let (m,xs)<-elems J w (bu e x)
  match bu e s with
  |.bP =>
   if m*bytes<=room then
    if m=0 then some (.bP,J)else do
    let (l,i,J')<-fR J (.cells 0 xs)
    some (.sl l i 0 0 m w,J')
   else none
  |.sl l i v off n w' =>
   match cells? J l i v with
   |some cs =>
    if w'=w/\off+n*w<=cs.length/\(n+m)*bytes<=room then
     if l+1=J.length then
      some (.sl l i (v+1) 0 (n+m) w,aZ J l i (.cells (v+1) ((cs.drop off).take (n*w)++xs)))
     else
      let r:=cC.frzL (cC l deep) xs J
      some (.sl l i (v+1) 0 (n+m) w,aZ r.2 l i (.cells (v+1) ((cs.drop off).take (n*w)++r.1)))
    else none
   |none=>none
  |_=>none
 |.RF os w bytes s x =>
  match bu e s with
  |.sl l i _ _ _ _=>if(os.all λt=>D.off l i (get e t))=true then(elems J w (bu e x)).bind λr=>if D.bj r.2=true then Lj e J w bytes s x else none else none
  |_=>none
 |.apz w bytes s x=>(Lj e J w bytes s x).map λr=>cC 0 deep r.1 r.2
 |.VS w bytes x=>do
  let (m,xs)<-elems J w (bu e x)
  if m*bytes<=room then some (.aJ m xs,J)else none
 |.cvz x =>
  match bu e x with
  |.sl l i v off n w =>
   if 0<n then
    match cells? J l i v with
    |some cs=>some (.aJ n ((cs.drop off).take (n*w)),aZ J l i .dead)
    |none=>none
   else none
  |_=>none
 |.bse=>some (.emp,J)
 |.ape w bytes v x =>
  match get e v with
  |.emp=>(elems J w (bu e x)).bind λr=>if r.1*bytes<=room then some (.aJ r.1 r.2,J)else none
  |_=>none
 |.ext x i =>
  match bu e x with
  |.db ds=>(ds[i]?).map (·,J)
  |_=>none
 |.GO o xs=>(lX o (xs.map (bu e))).map (·,J)
 |.mp o xs=>BO J o (xs.map (bu e))
 |.me o xs=>UG J o (xs.map (bu e))
 |.SW t x=>some (.va t (bu e x),J)
 |.VJ t z x=>(PJ t z (bu e x)).map (·,J)
 |.Xv neg x=>(Us (bu e x)).map λb=>(.bool (if neg then !b else b),J)
 |.U1 _=>none
 |.N1=>none
 |.call _ _ _=>none
def R.aU:Option R->Option (D×SK)
 |some (.val d J)=>some (d,J)
 |_=>none
def R.RP:Option R->Option (Exit×Env×SK)
 |some (.DH e env J)=>some (e,env,J)
 |_=>none
def pO(O:bS)(kp:Bool)(fv:D)(args:List D)(J:SK):Option (D×SK) :=
 match fv with
 |.fn f first cap=>R.aU (O (.call kp f (first++args++cap) J))
 |.jm l i=>R.aU (O (.round l i args J))
 |_=>none
def GF(O:bS)(fv:D)(args:List D)(J:SK):Option (D×SK) :=
 match fv with
 |.fn f first cap=>R.aU (O (.call false f (first++args++cap) J))
 |_=>none
def xd(O:bS)(op:Op)(e:Env)(J:SK):Option (Env×SK) :=
 match op.k with
 |.call kp f args =>
  match pO O kp (bu e f) (args.map (bu e)) J with
  |some (d,J')=>if op.BP=true->J'=J then some (put op.dst d e,J')else none
  |none=>none
 |.AW nb cs =>
  match op.dst,ki nb cs J with
  |some v,some (cs',J')=>some ((v,.own (vl e v) cs')::e,J')
  |_,_=>none
 |.FZ x =>
  match op.dst,(bu e x).cells with
  |some v,some cs=>some ((v,.own (vl e v) cs)::e,J)
  |_,_=>none
 |.Hj v nb sz a x =>
  match sW e v a,(bu e x).cells with
  |some (s,cs,off),some p =>
   if p.length=sz/\off+sz<=cs.length then
    match ki nb p J with
    |some (p',J')=>some ((v,.own s (cs.take off++p'++cs.drop (off+sz)))::e,J')
    |none=>none
   else none
  |_,_=>none
 |k=>(bO e J k).map λx=>(put op.dst x.1 e,x.2)
def D.bit:D->Option (Option Bool)
 |.bool b=>some (some b)
 |.db []=>some none
 |_=>none
def lW(O:bS):List Op->Env->SK->Option (Env×SK)
 |[],e,J=>some (e,J)
 |op::r,e,J =>
  match op.Ef with
  |none=>(xd O op e J).bind λx=>lW O r x.1 x.2
  |some (g,want) =>
   match(get e g).bit with
   |some y=>if y=some want then(xd O op e J).bind λx=>lW O r x.1 x.2 else lW O r (put op.dst (.db []) e) J
   |none=>none
def D.xe:D->D
 |.bP => .aJ 0 []
 |d=>d
def mh(l i u:Nat)(J:SK):D×SK :=
 match cells? J l i u with
 |some cs=>let r:=cC.frzL (cC 0 deep) cs (aZ J l i .dead);(.bq (r.1.map D.xe),r.2)
 |none=>(.undef,J)
def U2(v:Nat)(e:Env):Env :=
 match get e v with
 |.own _ cs=>if e.all (λp=>match p.2 with | .vr x _ _=>x != v | _=>true)then(v,.bq cs)::e else e
 |_=>e
def JG(v:Nat)(e:Env)(J:SK):Env×SK :=
 match get e v with
 |.ref l i u 0 =>
  match cells? J l i u with
  |some [.ref l2 i2 u2 0] =>
   if cells? (mh l2 i2 u2 J).2 l i u=some [.ref l2 i2 u2 0]/\(mh l2 i2 u2 J).1.clean=true then
    ((v,(mh l i u (aZ (mh l2 i2 u2 J).2 l i (.cells u [(mh l2 i2 u2 J).1]))).1)::e,(mh l i u (aZ (mh l2 i2 u2 J).2 l i (.cells u [(mh l2 i2 u2 J).1]))).2)
   else(e,J)
  |_=>(e,J)
 |_=>(e,J)
def JH(v:Nat)(e:Env)(J:SK):Env×SK :=
 match get e v with
 |.bP=>((v,.aJ 0 [])::e,J)
 |.ref l i u 0=>let r:=mh l i u J;((v,r.1)::e,r.2)
 |.own s cs=>((v,.own s (cs.map D.xe))::e,J)
 |.undef=>if 2000000<=v then JG (v-2000000) e J else if 1000000<=v then(U2 (v-1000000) e,J)else(e,J)
 |_=>(e,J)
def vI:List Nat->Env->SK->Env×SK
 |[],e,J=>(e,J)
 |v::vs,e,J =>
  match get e v with
  |.sl l i u off m w=>let r:=cC 0 deep (.sl l i u off m w) J;vI vs ((v,r.1)::e) r.2
  |.own s cs=>let r:=cC.frzL (cC 0 deep) cs J;vI vs ((v,.own s r.1)::e) r.2
  |.agg cs=>vI vs ((v,.agg (cs.map D.xe))::e) J
  |.undef=>if 1000000<=v then(let r:=JH (v-1000000) e J;vI vs r.1 r.2)else vI vs e J
  |_=>vI vs e J
def BK(O:bS)(fv:D)(args:List D)(J:SK):Option R :=
 match fv with
 |.fn f first cap=>O (.call false f (first++args++cap) J)
 |_=>none
def vu(O:bS)(live:List Nat)(dst:Option Nat)(post:List Op)(e:Env):Option R->Option (Exit×Env×SK)
 |some (.val d J')=>(lW O post (put dst d e) J').map λy=>(.normal,restrict live y.1,y.2)
 |some (.fp d J')=>some (.fp d,e,J')
 |_=>none
def Ha(O:bS)(live:List Nat)(op:Op)(post:List Op)(e:Env)(J:SK):Option (Exit×Env×SK) :=
 match op.Ef,op.k with
 |none,.call false f args=>vu O live op.dst post e (BK O (bu e f) (args.map (bu e)) J)
 |none,.U1 x=>(match bu e x with
  |.va t d=>if d.clean then some (.fp (.va t d),e,J)else none
  |_=>none)
 |_,_=>none
def bg(O:bS):cc->Env->SK->Option (Exit×Env×SK)
 |.Hu,e,J=>some (.normal,e,J)
 |.cC vs,e,J=>let r:=vI vs e J;some (.normal,r.1,r.2)
 |.tT live ops,e,J=>(lW O ops e J).map λx=>(.normal,restrict live x.1,x.2)
 |.seq a b,e,J=>(bg O a e J).bind λx =>
  match x.1 with
  |.normal=>bg O b x.2.1 x.2.2
  |_=>some x
 |.ite c a b,e,J =>
  match bu e c with
  |.bool t=>if t then bg O a e J else bg O b e J
  |_=>none
 |.dr id a,e,J=>(bg O a e J).map λx =>
  match x.1 with
  |.exit j=>if j=id then(.normal,x.2)else x
  |_=>x
 |.loop live bB a,e,J=>R.RP (O (.loop live bB a e J))
 |.LY live f params AY body,e,J =>
  match fR J (.loop {state:=0,yJ:=none,env:=yQ live e,params,AY,body })with
  |some (l,i,J1) =>
   match GF O (bu e f) [.jm l i] J1 with
   |some (_,J2) =>
    match dG J2 l i with
    |some (.loop lp) =>
     if lp.state=1 then none else
     some (lp.yJ.getD .normal,restrict live e,aZ J2 l i (.loop {lp with state:=3 }))
    |_=>none
   |none=>none
  |none=>none
 |.iu live it nx ok b a rest,e,J=>R.RP (O (.iu live it nx ok b a rest e J))
 |.Om live pre op post,e,J=>(lW O pre e J).bind λx=>Ha O live op post x.1 x.2
 |.Qs ..,_,_=>none
 |.VY a,e,J=>(bg O a e ([]::J)).map λx=>(x.1,(pW (J.length-1) (restrict (keys x.2.1) x.2.1) x.2.2).1,(pW (J.length-1) (restrict (keys x.2.1) x.2.1) x.2.2).2.tail)
 |.exit id,e,J=>some (.exit id,e,J)
 |.ret,e,J=>some (.ret,e,J)
inductive Ez where
 |t (n:Nat)
 |c (n:Nat) (ag:Bool) (sz:Nat)
 |v (n:Nat) (ag:Bool) (sz:Nat)
structure Fn where
 Pg:Nat
 res:List Ez
 body:cc
def I3(e:Env)(J:SK):Ez->Option D
 |.t n=>some (get e n).strip
 |.c n ag sz=>(bO e J (.ld ag sz (.t n))).map (·.1)
 |.v n ag sz=>(bO e J (.SV n ag sz n)).map (·.1)
def Az(e:Env)(J:SK):List Ez->Option (List D)
 |[]=>some []
 |r::rs=>(I3 e J r).bind λd=>(Az e J rs).map λds=>d::ds
def vb:List D->D
 |[d]=>d
 |ds => .db ds
def l8(n:Nat):List D->Env
 |[]=>[]
 |d::ds=>(n,d)::l8 (n+1) ds
def Bt:List Nat->List D->Env->Env
 |t::ts,d::ds,e=>Bt ts ds ((t,d)::e)
 |_,_,e=>e
abbrev BJ:=Nat->Option Fn
def Uq:List D->Option (List Int)
 |[]=>some []
 |.int .i64 z::r=>(Uq r).map (z :: ·)
 |_=>none
def Xu(x:Int):List Int->List Int
 |[]=>[x]
 |y::l=>if x<=y then x::y::l else y::Xu x l
def Q7:List Int->List Int
 |[]=>[]
 |x::l=>Xu x (Q7 l)
def Up(l:List Int):List D:=l.map (.int .i64)
def MZ(x:Int):List Int->List Int
 |[]=>[]
 |y::l=>if y=x then MZ x l else y::MZ y l
def Kh:List Int->List Int
 |[]=>[]
 |x::l=>x::MZ x l
def UP(k:Nat)(zs:List Int):List Int:=if k=1 then Q7 zs else Kh zs++List.replicate (zs.length-(Kh zs).length) 0
def aaJ(k l i v off:Nat)(zs:List Int):D:=if k=1 then .db []else .sl l i v off (Kh zs).length 1
def adU(k:Nat)(args:List D)(J:SK):Option R :=
 match args with
 |[.sl l i v off n w] =>
  if n≠0/\w=1/\n<=1000000 then
   match cells? J l i v with
   |some cs =>
    if off+n<=cs.length then
     match Uq ((cs.drop off).take n)with
     |some zs=>some (.val (aaJ k l i v off zs) (aZ J l i (.cells v (cs.take off++Up (UP k zs)++cs.drop (off+n)))))
     |none=>none
    else none
   |none=>none
  else none
 |_=>none
def kl:Nat->Nat->List UInt8
 |0,_=>[]
 |k+1,u=>if u<10 then [UInt8.ofNat (48+u)]else kl k (u / 10)++[UInt8.ofNat (48+u%10)]
def dp(n:Int):List UInt8:=if n<0 then 45::kl 20 n.natAbs else kl 20 n.toNat
def PH:List D->Option (List (List UInt8))
 |[]=>some []
 |.str s::r=>(PH r).map (s :: ·)
 |_=>none
def kh(sep:List UInt8):List (List UInt8)->List UInt8
 |[]=>[]
 |x::r=>x++r.flatMap (sep ++ ·)
def bQ(b:UInt8):List UInt8->List (List UInt8)
 |[]=>[[]]
 |c::r=>if c=b then []::bQ b r else match bQ b r with
  |x::l=>(c::x)::l
  |[]=>[[c]]
def q7(s:List UInt8):Nat×Int :=
 match Lib.atoiAll s with
 |.ok v=>(0,v)
 |Lib.NumEnd.syntax=>(1,0)
 |.range=>(2,Lib.atoiSat s)
def ado(a b:Nat)(xs:List (List UInt8)):List (List UInt8):=xs.take a++xs.drop b++List.replicate (b-a) []
def yk(b:UInt8):List UInt8->List UInt8×List UInt8×Bool
 |[]=>([],[],false)
 |c::r=>if c=b then([],r,true)else(c::(yk b r).1,(yk b r).2.1,(yk b r).2.2)
def GU(cs s:List UInt8):List UInt8:=((s.reverse.dropWhile (cs.contains ·)).reverse).dropWhile (cs.contains ·)
def Bo(k:Nat)(args:List D)(J:SK):Option R :=
 match k%16,args with
 |3,[.int .i64 n]=>if -9223372036854775808<=n/\n<=9223372036854775807 then some (.val (.str (dp n)) J)else none
 |4,[.str s]=>if s.length<=1000000 then some (.val (.db [.int .i64 (q7 s).2,if(q7 s).1=0 then .oI else .va (k / 16) .undef]) J)else none
 |5,[.aJ n cs,.str sep] =>
  match PH cs with
  |some xs=>if n=xs.length/\n<=1000/\(kh sep xs).length<=1000000 then some (.val (.str (kh sep xs)) J)else none
  |none=>none
 |6,[.str s,.str [b]]=>if s.length<=1000000 then some (.val (.aJ (bQ b s).length ((bQ b s).map .str)) J)else none
 |7,[.jm l i,.str s] =>
  match cells? J l i 2 with
  |some [.int .i64 t,.int .i64 e,.str bs] =>
   if t=((k / 16%65536:Nat):Int)/\e=((k / 16 / 65536:Nat):Int)/\bs.length+s.length<=1000000 then
    some (.val (.db [.int .i64 s.length,.oI]) (aZ J l i (.cells 2 [.int .i64 t,.int .i64 e,.str (bs++s)])))
   else none
  |_=>none
 |8,[.jm l i] =>
  match cells? J l i 2 with
  |some [.int .i64 t,.int .i64 e,.str bs]=>if t=((k / 16%65536:Nat):Int)/\e=((k / 16 / 65536:Nat):Int)/\bs≠[]then some (.val (.str bs) J)else none
  |_=>none
 |9,[.sl l i v off n w,.int .i64 a,.int .i64 b] =>
  if n≠0/\w=1/\n<=1000000/\0<=a/\a<=b/\b<=(n:Int)then
   match cells? J l i v with
   |some cs =>
    if off+n<=cs.length then
     match PH ((cs.drop off).take n)with
     |some xs=>some (.val (.sl l i v off (n-(b.toNat-a.toNat)) 1) (aZ J l i (.cells v (cs.take off++(ado a.toNat b.toNat xs).map .str++cs.drop (off+n)))))
     |none=>none
    else none
   |none=>none
  else none
 |10,[.str s,.str [b]]=>if s.length<=1000000 then some (.val (.db [.str (yk b s).1,.str (yk b s).2.1,.bool (yk b s).2.2]) J)else none
 |11,[.str s,.str cs]=>if s.length<=1000000/\cs.length<=1000000/\(cs.all λb=>decide (b.toNat<128))=true then some (.val (.str (GU cs s)) J)else none
 |12,[.jm l i] =>
  match cells? J l i 2 with
  |some [.int .i64 t,.int .i64 e,.str bs]=>if t=((k / 16%65536:Nat):Int)/\e=((k / 16 / 65536:Nat):Int)/\bs.length<=1000000 then some (.val (.int .i64 bs.length) J)else none
  |_=>none
 |0,_=>none
 |9,_=>none
 |10,_=>none
 |11,_=>none
 |12,_=>none
 |13,_=>none
 |14,_=>none
 |15,_=>none
 |1,args=>adU 1 args J
 |2,args=>adU 2 args J
 |_,_=>none
def GL(J:SK)(l i:Nat):Option (D×Nat×List D×List Nat) :=
 match cells? J l i 1 with
 |some (m::.int .i64 n::js) =>
  match B6 J m with
  |some (_,_,es)=>if(es.length:Int)=n then some (m,es.length,js,(List.range es.length).filter λj => !(js.contains (.int .i64 j)))else none
  |none=>none
 |_=>none
def agree:List (Option R)->Option R
 |[]=>none
 |r::rs=>if ∀x∈rs,x=r then r else none
def yE(O:bS)(l i b:Nat)(rest:cc):Option (Exit×Env×SK)->Option R
 |some (.exit j,e1,J1) =>
  if j=b then(bg O rest e1 (aZ J1 l i .dead)).map λx => .DH x.1 x.2.1 x.2.2
  else some (.DH (.exit j) e1 (aZ J1 l i .dead))
 |some (.ret,e1,J1)=>some (.DH .ret e1 (aZ J1 l i .dead))
 |_=>none
def BN(O:bS)(live:List Nat)(it:bI)(l i nx ok b:Nat)(c rest:cc):Option (Exit×Env×SK)->Option R
 |some (.normal,e1,J1)=>O (.iu live it nx ok b c rest e1 J1)
 |y=>yE O l i b rest y
def iE:cc->Option (cc×bI×List bI×cc)
 |.Qs f args q=>some (.Hu,f,args,q)
 |.seq a b=>(iE b).map λx=>(.seq a x.1,x.2)
 |_=>none
def PK(kp:Bool)(d:D):SK->Option R
 |_::J=>if kp=false/\d.clean=true then some (.fp d J)else none
 |[]=>none
def leave(res:List Ez)(J:SK)(e:Env)(J1:SK):Option R :=
 match Az e J1 res with
 |some ds=>(match cC (J.length-1) deep (vb ds) J1 with
  |(d,_::J2)=>some (.val d J2)
  |_=>none)
 |none=>none
def rN(O:bS)(fv:D)(args:List D)(th:Option D)(J:SK):Option R :=
 match fv with
 |.fn f first cap=>O (.yn f (first++args++cap) th J)
 |_=>none
def vE(res:List Ez)(J:SK)(e:Env):Option R->Option R
 |some (.val _ J1)=>leave res J e J1
 |_=>none
def Ak(O:bS)(res:List Ez)(J:SK)(fv:D)(args:List D):Option (Exit×Env×SK)->Option R
 |some (.fp d,e,J1)=>vE res J e (rN O fv args (some d) J1)
 |some (.normal,e,J1)=>vE res J e (rN O fv args none J1)
 |some (.ret,e,J1)=>vE res J e (rN O fv args none J1)
 |_=>none
def Ah(O:bS)(fn:Fn)(J:SK):Option (cc×bI×List bI×cc)->Env->SK->Option R
 |some (a,f,args,q),e0,J0 =>
  (match bg O a e0 J0 with
  |some (.normal,e,J1)=>Ak O fn.res J (bu e f) (args.map (bu e)) (bg O q e J1)
  |_=>none)
 |none,_,_=>none
def rK(th:Option D)(args:List D):cc->Option (Env×cc)
 |.seq (.tT live [⟨some t,none,_,.N1⟩]) q=>(match q with
  |.iu .. => none
  |q=>some (restrict live ((t,th.getD .oI)::l8 0 args),q))
 |_=>none
def dh(T:BJ)(O:bS):Q->Option R
 |.call kp f args J =>
  match T f with
  |some fn =>
   if args.length=fn.Pg then
    match bg O fn.body (l8 0 args) (if kp then J else []::J)with
    |some (.exit _,_,_)=>none
    |some (.fp d,_,J1)=>PK kp d J1
    |some (_,e,J1) =>
     match Az e J1 fn.res with
     |some ds =>
      if kp then some (.val (vb ds) J1)else
      match cC (J.length-1) deep (vb ds) J1 with
      |(d,_::J2)=>some (.val d J2)
      |_=>none
     |none=>none
    |none=>if kp then none else Ah O fn J (iE fn.body) (l8 0 args) ([]::J)
   else none
  |none =>
   match T (1000000+f)with
   |some fn=>Bo fn.Pg args J
   |none=>none
 |.loop live bB c e J =>
  match bg O c (restrict live e) (if bB then []::J else J)with
  |some (x,e1,J1) =>
   let (e2,J2):=if bB then(let r:=pW (J.length-1) (restrict (z7 live x e1) e1) J1;(r.1,r.2.tail))else(e1,J1)
   match x with
   |.normal=>O (.loop live bB c e2 J2)
   |x=>some (.DH x e2 J2)
  |none=>none
 |.round l i args J =>
  match dG J l i with
  |some (.loop lp) =>
   if args.length=lp.params.length then
    match bg O lp.AY (Bt lp.params args lp.env) ([]::J)with
    |some (.normal,e1,J1) =>
     match dG J1 l i with
     |some (.loop lp1) =>
      if lp1.state=0 then
       match bg O lp.body e1 (aZ J1 l i (.loop {lp1 with state:=1 }))with
       |some (x,_,_::J2) =>
        match dG J2 l i with
        |some (.loop lp2) =>
         match x with
         |.fp _=>none
         |.normal=>some (.val (.bool true) (aZ J2 l i (.loop {lp2 with state:=0,yJ:=none })))
         |x=>some (.val (.bool false) (aZ J2 l i (.loop {lp2 with state:=2,yJ:=some x })))
        |_=>none
       |_=>none
      else none
     |_=>none
    |_=>none
   else none
  |_=>none
 |.iu live it nx ok b c rest e J =>
  match bu (restrict live e) it with
  |.jm l i =>
   match GL J l i with
   |some (_,_,_,[])=>yE O l i b rest (bg O c ((ok,.bool false)::(nx,.undef)::restrict live e) J)
   |some (m,n,js,us)=>agree (us.map λu=>BN O live it l i nx ok b c rest (bg O c ((ok,.bool true)::(nx,.undef)::restrict live e) (aZ J l i (.cells 1 (m::.int .i64 (n:Nat)::.int .i64 (u:Nat)::js)))))
   |none=>none
  |_=>none
 |.yn f args th J =>
  match T f with
  |some fn =>
   if args.length=fn.Pg then
    match rK th args fn.body with
    |some (e0,q) =>
     match bg O q e0 ([]::J)with
     |some (.exit _,_,_)=>none
     |some (.fp _,_,_)=>none
     |some (_,e,J1) =>
      match Az e J1 fn.res,J1 with
      |some [],_::J2=>some (.val (.db []) J2)
      |_,_=>none
     |none=>none
    |none=>none
   else none
  |none=>none
def it(T:BJ):Nat->bS
 |0=>λ_=>none
 |n+1=>dh T (it T n)
open Classical in
noncomputable def lim(T:BJ):bS:=λq =>
 if h:∃n r,it T n q=some r then some h.choose_spec.choose else none
end Go.aA
