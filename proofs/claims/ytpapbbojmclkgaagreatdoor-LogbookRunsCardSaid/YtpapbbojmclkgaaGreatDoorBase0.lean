import GoSem.Core.View
import Derived.Lib.AtoiAll
set_option linter.all false
namespace Go
theorem ad:type_of%@Option.map_eq_some_iff:=@Option.map_eq_some_iff
theorem ae:type_of%@Option.some.injEq:=@Option.some.injEq
theorem ah:type_of%@Bool.and_eq_true:=@Bool.and_eq_true
theorem ak:type_of%@Option.bind_eq_some_iff:=@Option.bind_eq_some_iff
theorem aM:type_of%@List.map_cons:=@List.map_cons
theorem ai:type_of%@List.mem_of_getElem?:=@List.mem_of_getElem?
theorem af:type_of%@List.take_of_length_le:=@List.take_of_length_le
theorem au:type_of%@Prod.mk.injEq:=@Prod.mk.injEq
theorem b9:type_of%@List.map_nil:=@List.map_nil
theorem aB:type_of%@decide_eq_true_eq:=@decide_eq_true_eq
theorem aD:type_of%@Bool.false_eq_true:=@Bool.false_eq_true
theorem aI:type_of%@Option.ite_none_right_eq_some:=@Option.ite_none_right_eq_some
theorem aA:type_of%@List.getElem?_eq_some_iff:=@List.getElem?_eq_some_iff
theorem an:type_of%@List.drop_eq_nil_of_le:=@List.drop_eq_nil_of_le
theorem aN:type_of%@Nat.le_refl:=@Nat.le_refl
theorem aE:type_of%@List.length_cons:=@List.length_cons
theorem aK:type_of%@List.getElem?_eq_getElem:=@List.getElem?_eq_getElem
theorem aX:type_of%@Option.bind_eq_bind:=@Option.bind_eq_bind
theorem aC:type_of%@List.drop_zero:=@List.drop_zero
theorem bf:type_of%@Option.map_some:=@Option.map_some
theorem aH:type_of%@List.length_pos_iff:=@List.length_pos_iff
theorem aY:type_of%@List.nil_append:=@List.nil_append
theorem T5:type_of%@List.flatMap_cons:=@List.flatMap_cons
theorem bx:type_of%@List.mem_cons:=@List.mem_cons
theorem aU:type_of%@List.mem_append:=@List.mem_append
theorem aS:type_of%@Int.tdiv_eq_ediv_of_nonneg:=@Int.tdiv_eq_ediv_of_nonneg
theorem bd:type_of%@List.length_nil:=@List.length_nil
theorem bI:type_of%@List.mem_map:=@List.mem_map
theorem aV:type_of%@List.length_append:=@List.length_append
theorem bw:type_of%@List.length_eq_zero_iff:=@List.length_eq_zero_iff
theorem cn:type_of%@Bool.or_eq_true:=@Bool.or_eq_true
theorem cJ:type_of%@Array.getD_eq_getD_getElem?:=@Array.getD_eq_getD_getElem?
theorem cT:type_of%@List.getElem?_cons_zero:=@List.getElem?_cons_zero
theorem cz:type_of%@Nat.zero_add:=@Nat.zero_add
theorem cX:type_of%@List.mem_filter:=@List.mem_filter
theorem bH:type_of%@List.length_map:=@List.length_map
theorem da:type_of%@List.drop_length_add_append:=@List.drop_length_add_append
theorem dk:type_of%@Array.getElem?_eq_some_iff:=@Array.getElem?_eq_some_iff
theorem bJ:type_of%@Nat.mul_one:=@Nat.mul_one
theorem db:type_of%@Nat.mul_le_mul_right:=@Nat.mul_le_mul_right
theorem dC:type_of%@List.mem_of_mem_take:=@List.mem_of_mem_take
theorem dI:type_of%@Nat.add_assoc:=@Nat.add_assoc
theorem amO:type_of%@List.flatMap_nil:=@List.flatMap_nil
theorem dJ:type_of%@Option.isSome_iff_exists:=@Option.isSome_iff_exists
theorem eC:type_of%@List.ext_getElem?:=@List.ext_getElem?
theorem dV:type_of%@Bool.not_eq_true':=@Bool.not_eq_true'
theorem dp:type_of%@List.getElem?_take:=@List.getElem?_take
theorem cM:type_of%@List.append_nil:=@List.append_nil
theorem dB:type_of%@List.mem_of_mem_drop:=@List.mem_of_mem_drop
theorem eD:type_of%@Nat.succ_mul:=@Nat.succ_mul
theorem dQ:type_of%@Int.toNat_of_nonneg:=@Int.toNat_of_nonneg
theorem bB:type_of%@Int.mul_nonneg:=@Int.mul_nonneg
theorem cU:type_of%@List.singleton_append:=@List.singleton_append
theorem dP:type_of%@List.getElem?_eq_none:=@List.getElem?_eq_none
theorem eW:type_of%@Option.getD_some:=@Option.getD_some
theorem cC:type_of%@List.cons_append:=@List.cons_append
theorem fU:type_of%@Array.toList_inj:=@Array.toList_inj
theorem jz:type_of%@Nat.le_trans:=@Nat.le_trans
theorem ea:type_of%@List.getElem?_drop:=@List.getElem?_drop
theorem ix:type_of%@Nat.add_mul:=@Nat.add_mul
theorem fV:type_of%@List.getElem?_of_mem:=@List.getElem?_of_mem
theorem dS:type_of%@Int.mul_le_mul_of_nonneg_right:=@Int.mul_le_mul_of_nonneg_right
theorem RM:type_of%@List.flatMap_append:=@List.flatMap_append
theorem jy:type_of%@List.all_cons:=@List.all_cons
theorem fD:type_of%@List.length_filter_le:=@List.length_filter_le
theorem iO:type_of%@List.getElem?_toArray:=@List.getElem?_toArray
theorem j6:type_of%@List.cons.injEq:=@List.cons.injEq
theorem ew:type_of%@Array.getElem?_modify:=@Array.getElem?_modify
theorem l9:type_of%@List.getElem?_map:=@List.getElem?_map
theorem cS:type_of%@List.append_assoc:=@List.append_assoc
theorem jE:type_of%@List.getElem?_mapIdx:=@List.getElem?_mapIdx
theorem iK:type_of%@List.getElem?_append_left:=@List.getElem?_append_left
theorem dn:type_of%@List.drop_drop:=@List.drop_drop
theorem ct:type_of%@Int.mul_le_mul:=@Int.mul_le_mul
theorem bY:type_of%@List.length_take:=@List.length_take
theorem je:type_of%@List.all_eq_true:=@List.all_eq_true
theorem eV:type_of%@Int.le_total:=@Int.le_total
theorem gE{α:Type}{l:List α}{i:Nat}(h:i<l.length):∃x,l[i]?=some x:=⟨_,aK h⟩
end Go
namespace Go.Abs
def fM{α β:Type _}(l:List α)(f:α->List β):List β:=l.flatMap f
@[simp] theorem ot{α β:Type _}{f:α->List β}:fM [] f=[]:=rfl
@[simp] theorem di{α β:Type _}{a:α}{l:List α}{f:α->List β}:fM (a::l) f=f a++fM l f:=T5
@[simp] theorem o7{α β:Type _}{l m:List α}{f:α->List β}:fM (l++m) f=fM l f++fM m f:=RM
theorem Su{α β γ:Type _}{l:List γ}{g:γ->α}{f:α->List β}:fM (l.map g) f=fM l (λx=>f (g x)):=List.flatMap_map g f l
@[simp] theorem IQ{α β:Type _}{l:List α}{f:α->List β}{b:β}:b∈fM l f↔∃a,a∈l/\b∈f a:=List.mem_flatMap
theorem VN{α β:Type _}{l:List α}{f:α->List β}{p:β->Bool}:(fM l f).filter p=fM l λa=>(f a).filter p:=List.filter_flatMap
theorem Q2{α β:Type _}{l:List α}{f:α->List β}{R:β->β->Prop}:(fM l f).Pairwise R↔(∀a∈l,(f a).Pairwise R)/\l.Pairwise λa₁ a₂=>∀x∈f a₁,∀y∈f a₂,R x y:=List.pairwise_flatMap
theorem YK{α β γ:Type _}{l:List α}{f:α->List β}{g:β->List γ}:fM (fM l f) g=fM l λa=>fM (f a) g:=List.flatMap_assoc
theorem rC{α β:Type _}{l:List α}{f:α->List β}:(fM l f).length=(l.map λa=>(f a).length).sum:=List.length_flatMap
inductive D where
 |undef
 |bool (b:Bool)
 |int (k:IntKind) (n:Int)
 |str (s:List UInt8)
 |agg (cs:List D)
 |cQ (cs:List D)
 |zK
 |ref (l i v off:Nat)
 |aZ (cs:List D)
 |bu
 |bZ (n:Nat) (cs:List D)
 |sl (l i v off n w:Nat)
 |fn (f:Nat) (first cap:List D)
 |ri
 |j5 (l i:Nat)
 |own (s:Nat) (cs:List D)
 |vr (x s off:Nat)
 |uJ (t:Nat) (d:D)
 |od
 |emp
 deriving Inhabited
@[reducible] def iI(n:Int):D:=.int .i64 n
@[reducible,simp] def lF{α:Type _}(l:List α)(f:α->List D):D:=.bZ l.length (fM l f)
mutual
def D.same:D->D->Bool
 |.undef,.undef=>true
 |.bool a,.bool b=>a == b
 |.int k n,.int k' n'=>k == k' && n == n'
 |.str a,.str b=>a == b
 |.agg a,.agg b=>D.AS a b
 |.cQ a,.cQ b=>D.AS a b
 |.zK,.zK=>true
 |.ref a b c d,.ref a' b' c' d'=>a == a' && b == b' && c == c' && d == d'
 |.aZ a,.aZ b=>D.AS a b
 |.bu,.bu=>true
 |.bZ n a,.bZ m b=>n == m && D.AS a b
 |.sl a b c d e f,.sl a' b' c' d' e' f'=>a == a' && b == b' && c == c' && d == d' && e == e' && f == f'
 |.fn f a b,.fn f' a' b'=>f == f' && D.AS a a' && D.AS b b'
 |.ri,.ri=>true
 |.j5 a b,.j5 a' b'=>a == a' && b == b'
 |.own s a,.own s' b=>s == s' && D.AS a b
 |.vr a b c,.vr a' b' c'=>a == a' && b == b' && c == c'
 |.uJ t a,.uJ t' b=>t == t' && D.same a b
 |.od,.od=>true
 |.emp,.emp=>true
 |_,_=>false
def D.AS:List D->List D->Bool
 |[],[]=>true
 |a::as,b::bs=>D.same a b && D.AS as bs
 |_,_=>false
end
mutual
theorem O6:∀{a b:D},D.same a b=true->a=b
 |.undef,b,h=>by cases b<;>simp[D.same]at h;rfl
 |.bool _,b,h=>by cases b<;>simp[D.same]at h;rw[h]
 |.int _ _,b,h=>by cases b<;>simp[D.same]at h;rw[h.1,h.2]
 |.str _,b,h=>by cases b<;>simp[D.same]at h;rw[h]
 |.agg _,b,h=>by cases b<;>simp[D.same]at h;rw[xf h]
 |.cQ _,b,h=>by cases b<;>simp[D.same]at h;rw[xf h]
 |.zK,b,h=>by cases b<;>simp[D.same]at h;rfl
 |.ref ..,b,h=>by cases b<;>simp[D.same]at h;simp[h]
 |.aZ _,b,h=>by cases b<;>simp[D.same]at h;rw[xf h]
 |.bu,b,h=>by cases b<;>simp[D.same]at h;rfl
 |.bZ ..,b,h=>by cases b<;>simp[D.same]at h;rw[h.1,xf h.2]
 |.sl ..,b,h=>by cases b<;>simp[D.same]at h;simp[h]
 |.fn ..,b,h=>by cases b<;>simp[D.same]at h;rw[h.1.1,xf h.1.2,xf h.2]
 |.ri,b,h=>by cases b<;>simp[D.same]at h;rfl
 |.j5 ..,b,h=>by cases b<;>simp[D.same]at h;simp[h]
 |.own ..,b,h=>by cases b<;>simp[D.same]at h;rw[h.1,xf h.2]
 |.vr ..,b,h=>by cases b<;>simp[D.same]at h;simp[h]
 |.uJ _ a,b,h=>by cases b<;>simp[D.same]at h;rw[h.1,O6 h.2]
 |.od,b,h=>by cases b<;>simp[D.same]at h;rfl
 |.emp,b,h=>by cases b<;>simp[D.same]at h;rfl
theorem xf:∀{a b:List D},D.AS a b=true->a=b
 |[],[],_=>rfl
 |[],_::_,h=>by simp[D.AS]at h
 |_::_,[],h=>by simp[D.AS]at h
 |a::as,b::bs,h=>by
  simp only[D.AS,ah]at h;rw[O6 h.1,xf h.2]
end
mutual
theorem Ja:∀(a:D),D.same a a=true
 |.undef=>rfl
 |.bool b=>by simp[D.same]
 |.int k n=>by simp[D.same]
 |.str s=>by simp[D.same]
 |.agg a=>by simp[D.same,rk a]
 |.cQ a=>by simp[D.same,rk a]
 |.zK=>rfl
 |.ref .. => by simp[D.same]
 |.aZ a=>by simp[D.same,rk a]
 |.bu=>rfl
 |.bZ n a=>by simp[D.same,rk a]
 |.sl .. => by simp[D.same]
 |.fn f a b=>by simp[D.same,rk a,rk b]
 |.ri=>rfl
 |.j5 .. => by simp[D.same]
 |.own s a=>by simp[D.same,rk a]
 |.vr .. => by simp[D.same]
 |.uJ t a=>by simp[D.same,Ja a]
 |.od=>rfl
 |.emp=>rfl
theorem rk:∀(a:List D),D.AS a a=true
 |[]=>rfl
 |a::as=>by simp[D.AS,Ja a,rk as]
end
instance:DecidableEq D:=λa b=>if h:D.same a b=true then isTrue (O6 h)else isFalse λe=>h (e ▸ Ja a)
inductive bS where
 |t (n:Nat)
 |c (d:D)
 deriving Inhabited,DecidableEq
inductive Pu where
 |Ry
 |MD
 |Wl
 |Pd (lo hi:Bool)
 |seq (neg:Bool)
 deriving Inhabited,DecidableEq
def ia:Pu->List D->Option D
 |.Ry,[.str s]=>some (.int .i64 s.length)
 |.MD,[.str s,.int _ i]=>if 0<=i then(s[i.toNat]?).map λb => .int .u8 b.toNat else none
 |.Wl,[.str a,.str b]=>if a.length+b.length<=4611686018427387904 then some (.str (a++b))else none
 |.Pd true true,[.str s,.int _ i,.int _ j]=>if 0<=i/\i<=j/\j<=s.length then some (.str ((s.drop i.toNat).take (j.toNat-i.toNat)))else none
 |.Pd true false,[.str s,.int _ i]=>if 0<=i/\i<=s.length then some (.str (s.drop i.toNat))else none
 |.Pd false true,[.str s,.int _ j]=>if 0<=j/\j<=s.length then some (.str (s.take j.toNat))else none
 |.Pd false false,[.str s]=>some (.str s)
 |.seq neg,[.str a,.str b]=>some (.bool (if neg then !(a == b)else a == b))
 |_,_=>none
abbrev Ky:=Option (Bool×List (Option IntKind))
inductive Mo where
 |make
 |Ml (t e:Nat)
 |get (ky:Ky) (zero:D) (ok:Bool)
 |put (ky:Ky)
 |len
 |rng
 |ent
 deriving Inhabited,DecidableEq
inductive Me where
 |b2s
 |s2b
 |s2a (n w:Nat)
 |peq (neg:Bool)
 deriving Inhabited,DecidableEq
inductive K where
 |mv (x:bS)
 |LG (w:Nat)
 |pick (c a b:bS)
 |VA (nb:List (Nat×Nat)) (cs:List D)
 |CK (nb:List (Nat×Nat)) (cs:List D)
 |Mm (x:bS)
 |Mn (x:bS)
 |bxn (nb:List (Nat×Nat)) (x:bS)
 |GM (x:bS)
 |Ml (zero:List D) (parts:List (Nat×Nat×bS))
 |bsi (n w:Nat) (zero:List D) (parts:List (Nat×Nat×bS))
 |Yr (n w:Nat) (zero:List D) (parts:List (Nat×Nat×bS))
 |ld (ag:Bool) (sz:Nat) (a:bS)
 |Y7 (ag:Bool) (sz:Nat) (a:bS)
 |Wz (ag:Bool) (sz:Nat) (a:bS)
 |isn (ps neg:Bool) (x:bS)
 |nck (x:bS)
 |st (nb:List (Nat×Nat)) (sz:Nat) (a x:bS)
 |Wr (os:List Nat) (sz:Nat) (a x:bS)
 |WA (v:Nat) (ag:Bool) (sz:Nat) (a:Nat)
 |Iq (v:Nat) (nb:List (Nat×Nat)) (sz:Nat) (a:Nat) (x:bS)
 |bin (o:BinOp) (x y:bS)
 |eqv (ag:Bool) (ks:List (Option IntKind)) (neg:Bool) (x y:bS)
 |un (o:UnOp) (x:bS)
 |YB (k:IntKind) (x:bS)
 |Zj (f:Nat) (first cap:List bS)
 |mks (w bytes:Nat) (zero:List D) (l c:bS)
 |slc (w:Nat) (x:bS) (lo hi mx:Option bS)
 |S7 (len w:Nat) (x:bS) (lo hi:Option bS)
 |Mq (off:Nat) (x:bS)
 |fld (ag:Bool) (off sz:Nat) (x:bS)
 |Mt (len w:Nat) (x i:bS)
 |IL (w:Nat) (x i:bS)
 |OB (ag:Bool) (len w:Nat) (x i:bS)
 |My (x:bS)
 |SI (n:Nat)
 |mn (x y:bS)
 |mx (x y:bS)
 |app (w bytes:Nat) (s x:bS)
 |VC (os:List Nat) (w bytes:Nat) (s x:bS)
 |apz (w bytes:Nat) (s x:bS)
 |cpi (w bytes:Nat) (x:bS)
 |cvz (x:bS)
 |bse
 |ape (w bytes v:Nat) (x:bS)
 |ext (x:bS) (i:Nat)
 |IY (o:Pu) (xs:List bS)
 |mp (o:Mo) (xs:List bS)
 |me (o:Me) (xs:List bS)
 |Zk (t:Nat) (x:bS)
 |tas (t:Nat) (zero:Option D) (x:bS)
 |isi (neg:Bool) (x:bS)
 |Zx (x:bS)
 |RO
 |call (kp:Bool) (f:bS) (args:List bS)
 deriving Inhabited,DecidableEq
structure Op where
 dst:Option Nat
 GQ:Option (Nat×Bool)
 DU:Bool
 k:K
 deriving Inhabited,DecidableEq
inductive bV where
 |Kk
 |cH (vs:List Nat)
 |sQ (live:List Nat) (ops:List Op)
 |seq (a b:bV)
 |ite (c:bS) (a b:bV)
 |dK (id:Nat) (a:bV)
 |loop (live:List Nat) (bD:Bool) (a:bV)
 |O1 (live:List Nat) (f:bS) (params:List Nat) (CM body:bV)
 |iC (live:List Nat) (it:bS) (nx ok b:Nat) (a rest:bV)
 |RH (live:List Nat) (pre:List Op) (op:Op) (post:List Op)
 |VK (f:bS) (args:List bS) (rest:bV)
 |exit (id:Nat)
 |ret
 |sgm (a:bV)
 deriving Inhabited,DecidableEq
inductive Exit where
 |normal
 |exit (id:Nat)
 |ret
 |fw (d:D)
 deriving Inhabited,DecidableEq
abbrev Env:=List (Nat×D)
def get:Env->Nat->D
 |[],_ => .undef
 |(k,v)::r,t=>if k=t then v else get r t
def put(d:Option Nat)(v:D)(e:Env):Env :=
 match d with
 |some t=>(t,v)::e
 |none=>e
def D.calm:D->D
 |.vr .. => .undef
 |.emp => .undef
 |.own _ cs => .own 0 cs
 |d=>d
def D.strip:D->D
 |.vr .. => .undef
 |.emp => .undef
 |.own .. => .undef
 |d=>d
def restrict(live:List Nat)(e:Env):Env:=live.map λt=>(t,(get e t).calm)
def keys(e:Env):List Nat:=(e.map (·.1)).eraseDups
def zW(live:List Nat)(e:Env):Env:=live.map λt=>(t,(get e t).strip)
def BQ(live:List Nat)(x:Exit)(e:Env):List Nat :=
 match x with
 |.normal=>live
 |_=>keys e
structure yB where
 state:Nat
 zN:Option Exit
 env:Env
 params:List Nat
 CM:bV
 body:bV
 deriving DecidableEq
inductive aF where
 |cells (v:Nat) (cs:List D)
 |dead
 |loop (l:yB)
 deriving DecidableEq
abbrev SK:=List (List aF)
def eT:SK->Nat->Option (List aF)
 |[],_=>none
 |s::J,l=>if J.length=l then some s else eT J l
def ie:SK->Nat->List aF->SK
 |[],_,_=>[]
 |s::J,l,s'=>if J.length=l then s'::J else s::ie J l s'
def ec(J:SK)(l i:Nat):Option aF:=(eT J l).bind (·[i]?)
def bj(J:SK)(l i:Nat)(b:aF):SK :=
 match eT J l with
 |some s=>ie J l (s.set i b)
 |none=>J
def cells?(J:SK)(l i v:Nat):Option (List D) :=
 match ec J l i with
 |some (.cells v' cs)=>if v'=v then some cs else none
 |_=>none
def fR(J:SK)(b:aF):Option (Nat×Nat×SK) :=
 match J with
 |[]=>none
 |s::J'=>some (J'.length,s.length,(s++[b])::J')
mutual
def D.clean:D->Bool
 |.ref .. => false
 |.sl .. => false
 |.j5 .. => false
 |.vr .. => true
 |.emp=>true
 |.own _ cs=>D.aW cs
 |.agg cs=>D.aW cs
 |.cQ cs=>D.aW cs
 |.aZ cs=>D.aW cs
 |.bZ _ cs=>D.aW cs
 |.fn _ a b=>D.aW a && D.aW b
 |.undef=>true
 |.bool _=>true
 |.int _ _=>true
 |.str _=>true
 |.zK=>true
 |.bu=>true
 |.ri=>true
 |.uJ _ d=>D.clean d
 |.od=>true
def D.aW:List D->Bool
 |[]=>true
 |d::ds=>D.clean d && D.aW ds
end
def cH(l:Nat):Nat->D->SK->D×SK
 |0,_,J=>(.undef,J)
 |n+1,d,J =>
  if d.clean then(d,J)else
  match d with
  |.agg cs=>let r:=frzL (cH l n) cs J;(.agg r.1,r.2)
  |.cQ cs=>let r:=frzL (cH l n) cs J;(.cQ r.1,r.2)
  |.aZ cs=>let r:=frzL (cH l n) cs J;(.aZ r.1,r.2)
  |.bZ m cs=>let r:=frzL (cH l n) cs J;(.bZ m r.1,r.2)
  |.own s cs=>let r:=frzL (cH l n) cs J;(.own s r.1,r.2)
  |.fn f a b=>let r:=frzL (cH l n) a J;let r':=frzL (cH l n) b r.2;(.fn f r.1 r'.1,r'.2)
  |.ref l' i v off=>if l'<=l then(.ref l' i v off,J)else(.undef,J)
  |.j5 l' i=>if l'<=l then(.j5 l' i,J)else(.undef,J)
  |.sl l' i v off m w =>
   if l'<=l then(.sl l' i v off m w,J)else
   match cells? J l' i v with
   |some cs=>let r:=frzL (cH l n) ((cs.drop off).take (m*w)) (bj J l' i .dead);(.bZ m r.1,r.2)
   |none=>(.undef,J)
  |_=>(.undef,J)
where
 frzL (f:D->SK->D×SK):List D->SK->List D×SK
  |[],J=>([],J)
  |d::ds,J=>let r:=f d J;let r':=frzL f ds r.2;(r.1::r'.1,r'.2)
def deep:Nat:=16
def pQ(l:Nat):Env->SK->Env×SK
 |[],J=>([],J)
 |(t,d)::e,J=>let r:=cH l deep d J;let r':=pQ l e r.2;((t,r.1)::r'.1,r'.2)
inductive Q where
 |call (kp:Bool) (f:Nat) (args:List D) (J:SK)
 |loop (live:List Nat) (bD:Bool) (c:bV) (env:Env) (J:SK)
 |round (l i:Nat) (args:List D) (J:SK)
 |iC (live:List Nat) (it:bS) (nx ok b:Nat) (c rest:bV) (env:Env) (J:SK)
 |Ag (f:Nat) (args:List D) (th:Option D) (J:SK)
inductive R where
 |val (d:D) (J:SK)
 |FP (e:Exit) (env:Env) (J:SK)
 |fw (d:D) (J:SK)
 deriving DecidableEq
abbrev ck:=Q->Option R
def bC(e:Env):bS->D
 |.t n=>(get e n).strip
 |.c d=>d
def D.cells:D->Option (List D)
 |.agg cs=>some cs
 |.undef=>none
 |.cQ _=>none
 |.own .. => none
 |.vr .. => none
 |.emp=>none
 |d=>some [d]
def D.row(ag:Bool)(d:D):Option (List D) :=
 match ag,d with
 |true,.agg cs=>some cs
 |true,_=>none
 |false,.agg _=>none
 |false,d=>d.cells
def iY(e:Env):List (Nat×Nat×bS)->List D->Option (List D)
 |[],cs=>some cs
 |(off,sz,x)::r,cs =>
  match(bC e x).cells with
  |some p=>if p.length=sz/\off+sz<=cs.length then iY e r (cs.take off++p++cs.drop (off+sz))else none
  |none=>none
def BS:List (Option IntKind)->List D->List D->Option Bool
 |[],[],[]=>some true
 |some k::ks,.int k1 a::x,.int k2 b::y=>if k1=k/\k2=k then(BS ks x y).map (a == b && ·)else none
 |none::ks,.bool a::x,.bool b::y=>(BS ks x y).map (a == b && ·)
 |_,_,_=>none
def vv(o:BinOp):D->D->Option D
 |.int k a,.int k' b =>
  match o with
  |.shl=>if b<0 then none else some (.int k (k.wrap (a*2^(min b.toNat k.bits))))
  |.shr=>if b<0 then none else some (.int k (a.fdiv (2^(min b.toNat k.bits))))
  |.add=>if k=k' then some (.int k (k.wrap (a+b)))else none
  |.sub=>if k=k' then some (.int k (k.wrap (a-b)))else none
  |.mul=>if k=k' then some (.int k (k.wrap (a*b)))else none
  |.quo=>if k=k'/\b≠0 then some (.int k (k.wrap (a.tdiv b)))else none
  |.rem=>if k=k'/\b≠0 then some (.int k (a.tmod b))else none
  |.and=>if k=k' then some (.int k (k.wrap ((BitVec.ofInt k.bits a &&& BitVec.ofInt k.bits b).toNat:Int)))else none
  |.or=>if k=k' then some (.int k (k.wrap ((BitVec.ofInt k.bits a ||| BitVec.ofInt k.bits b).toNat:Int)))else none
  |.xor=>if k=k' then some (.int k (k.wrap ((BitVec.ofInt k.bits a ^^^ BitVec.ofInt k.bits b).toNat:Int)))else none
  |.andNot=>none
  |.eql=>if k=k' then some (.bool (a == b))else none
  |.neq=>if k=k' then some (.bool (a != b))else none
  |.lss=>if k=k' then some (.bool (decide (a<b)))else none
  |.leq=>if k=k' then some (.bool (decide (a<=b)))else none
  |.gtr=>if k=k' then some (.bool (decide (a>b)))else none
  |.geq=>if k=k' then some (.bool (decide (a>=b)))else none
 |_,_=>none
def HQ:D->Option Int
 |.int _ n=>some n
 |_=>none
def CC(e:Env)(m:Nat)(dfl:Option Nat):Option bS->Option Nat
 |some x=>match HQ (bC e x)with
  |some n=>if 0<=n/\n<=m then some n.toNat else none
  |none=>none
 |none=>dfl
def bounds(len:Nat)(e:Env)(lo hi mx:Option bS):Option (Nat×Nat) :=
 (CC e len (some len) mx).bind λm=>(CC e m (if mx.isSome then none else some len) hi).bind λh=>(CC e h (some 0) lo).map λl=>(l,h)
def tA(ky:Ky)(a b:D):Option Bool :=
 match ky with
 |none=>match a,b with
  |.str x,.str y=>some (x == y)
  |_,_=>none
 |some (ag,ks)=>match a.row ag,b.row ag with
  |some p,some q=>BS ks p q
  |_,_=>none
def qh(ky:Ky)(k:D):List D->Option (Option (Nat×D))
 |[]=>some none
 |.cQ [k',v]::es =>
  match tA ky k k' with
  |some true=>some (some (0,v))
  |some false=>(qh ky k es).map λx=>x.map λy=>(y.1+1,y.2)
  |none=>none
 |_=>none
def DZ(J:SK):D->Option (Nat×Nat×List D)
 |.j5 l i=>(cells? J l i 0).map λes=>(l,i,es)
 |_=>none
def DT(J:SK):Mo->List D->Option (D×SK)
 |.make,[]=>(fR J (.cells 0 [])).map λx=>(.j5 x.1 x.2.1,x.2.2)
 |.Ml t e,[]=>(fR J (.cells 2 [.int .i64 (t:Nat),.int .i64 (e:Nat),.str []])).map λx=>(.j5 x.1 x.2.1,x.2.2)
 |.get ky zero ok,[m,k] =>
  match DZ J m with
  |some (_,_,es) =>
   if(tA ky k k).isSome then
    match qh ky k es with
    |some (some (_,v))=>some (if ok then .cQ [v,.bool true]else v,J)
    |some none=>some (if ok then .cQ [zero,.bool false]else zero,J)
    |none=>none
   else none
  |none=>none
 |.put ky,[m,k,v] =>
  match DZ J m with
  |some (l,i,es) =>
   if(tA ky k k).isSome/\(l+1=J.length\/(k.clean/\v.clean))then
    match qh ky k es with
    |some (some (j,_))=>some (.undef,bj J l i (.cells 0 (es.set j (.cQ [k,v]))))
    |some none=>some (.undef,bj J l i (.cells 0 (es++[.cQ [k,v]])))
    |none=>none
   else none
  |none=>none
 |.len,[m]=>(DZ J m).map λx=>(.int .i64 x.2.2.length,J)
 |.rng,[m] =>
  match DZ J m with
  |some (lm,im,es)=>(fR J (.cells 1 [.j5 lm im,.int .i64 es.length])).map λx=>(.j5 x.1 x.2.1,x.2.2)
  |none=>none
 |.ent,[.j5 l i] =>
  match cells? J l i 1 with
  |some (m::.int .i64 n::.int .i64 j::_) =>
   match DZ J m with
   |some (_,_,es)=>if(es.length:Int)=n then
     match es[j.toNat]? with
     |some (.cQ [k,v])=>some (.cQ [k,v],J)
     |_=>none
    else none
   |none=>none
  |_=>none
 |_,_=>none
def strCells(s:List UInt8):List D:=s.map λb => .int .u8 b.toNat
def elems(J:SK)(w:Nat):D->Option (Nat×List D)
 |.bu=>some (0,[])
 |.str s=>if w=1 then some (s.length,strCells s)else none
 |.bZ n cs=>if cs.length=n*w then some (n,cs)else none
 |.sl l i v off n w' =>
  if w'=w then
   match cells? J l i v with
   |some cs=>if off+n*w<=cs.length then some (n,(cs.drop off).take (n*w))else none
   |none=>none
  else none
 |_=>none
def D7:List D->Option (List UInt8)
 |[]=>some []
 |.int .u8 n::r=>(D7 r).map (UInt8.ofNat n.toNat :: ·)
 |_=>none
def WB(J:SK):Me->List D->Option (D×SK)
 |.b2s,[.str _]=>none
 |.b2s,[x]=>(elems J 1 x).bind λr=>(D7 r.2).map λs=>(.str s,J)
 |.s2b,[.str s]=>some (.bZ s.length (strCells s),J)
 |.s2a n w,[.bZ m cs]=>if 0<n/\n<=m then some (.aZ (cs.take (n*w)),J)else none
 |.peq neg,[.ref l i v o,.ref l' i' v' o']=>if l=l'/\i=i'/\o=o'/\v=v'/\(cells? J l i v).isSome then some (.bool (!neg),J)else none
 |_,_=>none
def room:Nat:=2^46
def kB:List (Nat×Nat)->List D->SK->Option (List D×SK)
 |[],cs,J=>some (cs,J)
 |(p,w)::r,cs,J =>
  match cs[p]? with
  |some .bu=>do
   let (l,i,J')<-fR J (.cells 0 [])
   kB r (cs.set p (.sl l i 0 0 0 w)) J'
  |_=>kB r cs J
def rK(e:Env)(v a:Nat):Option (Nat×List D×Nat) :=
 match get e v with
 |.own s cs =>
  if a=v then some (s,cs,0)else
  match get e a with
  |.vr x s' off=>if x=v/\s'=s then some (s,cs,off)else none
  |_=>none
 |_=>none
def uR(e:Env)(v:Nat):Nat :=
 match get e v with
 |.own s _=>s+1
 |_=>0
def IZ(J:SK):D->Option (List D)
 |.aZ cs=>some cs
 |.ref l i v off=>(cells? J l i v).map (·.drop off)
 |_=>none
def WE(J:SK):D->Option (List D)
 |.ref l i 0 off=>IZ J (.ref l i 0 off)
 |_=>none
def Mw(ps:Bool)(d:D):Option Bool :=
 match ps,d with
 |true,.zK=>some true
 |true,.aZ _=>some false
 |true,.ref .. => some false
 |false,.bu=>some true
 |false,.bZ n _=>if n=0 then none else some false
 |false,.sl _ _ _ _ n _=>if n=0 then none else some false
 |_,_=>none
def Tl(t:Nat)(z:Option D):D->Option D
 |.uJ t' d=>match z with
  |some z=>some (if t'=t then .cQ [d,.bool true]else .cQ [z,.bool false])
  |none=>if t'=t then some d else none
 |.od=>z.map λz => .cQ [z,.bool false]
 |_=>none
def YY:D->Option Bool
 |.od=>some true
 |.uJ .. => some false
 |_=>none
def D.off(l i:Nat):D->Bool
 |.ref l' i' _ _=>decide (¬(l'=l/\i'=i))
 |_=>true
def Ob(e:Env)(J:SK)(w bytes:Nat)(s x:bS):Option (D×SK):=do
  let (m,xs)<-elems J w (bC e x)
  match bC e s with
  |.bu =>
   if m*bytes<=room then
    if m=0 then some (.bu,J)else do
    let (l,i,J')<-fR J (.cells 0 xs)
    some (.sl l i 0 0 m w,J')
   else none
  |.sl l i v off n w' =>
   match cells? J l i v with
   |some cs =>
    if w'=w/\off+n*w<=cs.length/\(n+m)*bytes<=room then
     if l+1=J.length then
      some (.sl l i (v+1) 0 (n+m) w,bj J l i (.cells (v+1) ((cs.drop off).take (n*w)++xs)))
     else
      let r:=cH.frzL (cH l deep) xs J
      some (.sl l i (v+1) 0 (n+m) w,bj r.2 l i (.cells (v+1) ((cs.drop off).take (n*w)++r.1)))
    else none
   |none=>none
  |_=>none
def bX(e:Env)(J:SK):K->Option (D×SK)
 |.mv x=>some (bC e x,J)
 |.LG w=>do
  let (l,i,J')<-fR J (.cells 0 [])
  some (.sl l i 0 0 0 w,J')
 |.pick c a b =>
  match bC e c with
  |.bool t=>some (if t then bC e a else bC e b,J)
  |_=>none
 |.VA nb cs=>do
  let (cs',J1)<-kB nb cs J
  let (l,i,J')<-fR J1 (.cells 0 cs')
  some (.ref l i 0 0,J')
 |.Mm x=>(bC e x).cells.map λcs=>(.aZ cs,J)
 |.Mn x=>do
  let cs<-(bC e x).cells
  let (l,i,J')<-fR J (.cells 0 cs)
  some (.ref l i 0 0,J')
 |.bxn nb x=>do
  let cs<-(bC e x).cells
  let (cs',J1)<-kB nb cs J
  let (l,i,J')<-fR J1 (.cells 0 cs')
  some (.ref l i 0 0,J')
 |.CK .. => none
 |.GM _=>none
 |.Iq .. => none
 |.WA v ag sz a =>
  match rK e v a with
  |some (_,cs,off) =>
   let cs:=cs.drop off
   if sz<=cs.length then
    if ag then some (.agg (cs.take sz),J)else
    match cs with
    |d::_=>some (d,J)
    |[]=>none
   else none
  |none=>none
 |.Ml zero parts=>do
  let cs<-iY e parts zero
  some (.agg cs,J)
 |.bsi n _ zero parts=>do
  let cs<-iY e parts zero
  some (.bZ n cs,J)
 |.Yr n w zero parts=>do
  let cs<-iY e parts zero
  let (l,i,J')<-fR J (.cells 0 cs)
  some (.sl l i 0 0 n w,J')
 |.ld ag sz a =>
  match IZ J (bC e a)with
  |some cs =>
   if sz<=cs.length then
    if ag then some (.agg (cs.take sz),J)else
    match cs with
    |d::_=>some (d,J)
    |[]=>none
   else none
  |none=>none
 |.Wz ag sz a =>
  match WE J (bC e a)with
  |some cs =>
   if sz<=cs.length then
    if ag then some (.agg (cs.take sz),J)else
    match cs with
    |d::_=>some (d,J)
    |[]=>none
   else none
  |none=>none
 |.Y7 ag sz a =>
  match bC e a with
  |.aZ cs =>
   if sz<=cs.length then
    if ag then some (.agg (cs.take sz),J)else
    match cs with
    |d::_=>some (d,J)
    |[]=>none
   else none
  |_=>none
 |.isn ps neg x=>(Mw ps (bC e x)).map λb=>(.bool (if neg then !b else b),J)
 |.nck x =>
  match bC e x with
  |.aZ cs=>some (.aZ cs,J)
  |.ref l i v off=>some (.ref l i v off,J)
  |_=>none
 |.st nb sz a x =>
  match bC e a with
  |.ref l i v off =>
   match cells? J l i v with
   |some cs =>
    match(bC e x).cells with
    |some p =>
     if p.length=sz/\off+sz<=cs.length then
      if l+1=J.length then
       match kB nb p J with
       |some (p',J1)=>some (.undef,bj J1 l i (.cells v (cs.take off++p'++cs.drop (off+sz))))
       |none=>none
      else
       let r:=cH.frzL (cH l deep) p J
       some (.undef,bj r.2 l i (.cells v (cs.take off++r.1++cs.drop (off+sz))))
     else none
    |none=>none
   |none=>none
  |_=>none
 |.Wr os sz a x =>
  match bC e a with
  |.ref l i v off =>
   if(os.all λt=>D.off l i (get e t))=true then
    match cells? J l i v with
    |some cs =>
     match(bC e x).cells with
     |some p =>
      if p.length=sz/\off+sz<=cs.length/\(D.aW p=true\/l+1=J.length)then some (.undef,bj J l i (.cells v (cs.take off++p++cs.drop (off+sz))))else none
     |none=>none
    |none=>none
   else none
  |_=>none
 |.bin o x y=>(vv o (bC e x) (bC e y)).map (·,J)
 |.eqv ag ks neg x y =>
  match(bC e x).row ag,(bC e y).row ag with
  |some p,some q=>(BS ks p q).map λb=>(.bool (if neg then !b else b),J)
  |_,_=>none
 |.un o x =>
  match o,bC e x with
  |.not,.bool b=>some (.bool !b,J)
  |.neg,.int k n=>some (.int k (k.wrap (0-n)),J)
  |.xor,.int k n=>some (.int k (k.wrap ((BitVec.ofInt k.bits (if k.signed then -1 else k.max) ^^^ BitVec.ofInt k.bits n).toNat:Int)),J)
  |_,_=>none
 |.YB k x =>
  match bC e x with
  |.int _ n=>some (.int k (k.wrap n),J)
  |_=>none
 |.Zj f first cap=>some (.fn f (first.map (bC e)) (cap.map (bC e)),J)
 |.mks w bytes zero l c =>
  match bC e l,bC e c with
  |.int .i64 n,.int .i64 m =>
   if 0<=n/\n=m/\n*bytes<=(room:Int)/\zero.length=w then do
    let (l,i,J')<-fR J (.cells 0 (fM (List.range n.toNat) λ_=>zero))
    some (.sl l i 0 0 n.toNat w,J')
   else none
  |_,_=>none
 |.slc w x lo hi mx =>
  match bC e x with
  |.bZ n cs=>(bounds n e lo hi mx).map λb=>(.bZ (b.2-b.1) ((cs.drop (b.1*w)).take ((b.2-b.1)*w)),J)
  |.sl l i v off n w'=>if w'=w then(bounds n e lo hi mx).map λb=>(.sl l i v (off+b.1*w) (b.2-b.1) w,J)else none
  |.bu=>(bounds 0 e lo hi mx).map λ_=>(.bu,J)
  |_=>none
 |.S7 len w x lo hi =>
  match bC e x with
  |.aZ cs=>(bounds len e lo hi none).map λb=>(.bZ (b.2-b.1) ((cs.drop (b.1*w)).take ((b.2-b.1)*w)),J)
  |.ref l i v off =>
   match cells? J l i v with
   |some cs=>if len<=1000000/\off+len*w<=cs.length then(bounds len e lo hi none).map λb=>(.sl l i v (off+b.1*w) (b.2-b.1) w,J)else none
   |none=>none
  |_=>none
 |.Mq off x =>
  match x with
  |.t n =>
   match get e n with
   |.aZ cs=>some (.aZ (cs.drop off),J)
   |.ref l i v o=>some (.ref l i v (o+off),J)
   |.own s _=>some (.vr n s off,J)
   |.vr v s o=>some (.vr v s (o+off),J)
   |_=>none
  |.c _=>none
 |.fld ag off sz x =>
  match bC e x with
  |.agg cs =>
   if off+sz<=cs.length then
    if ag then some (.agg ((cs.drop off).take sz),J)else(cs[off]?).map (·,J)
   else none
  |_=>none
 |.Mt len w x i =>
  match x,HQ (bC e i)with
  |.t m,some n =>
   if 0<=n/\n<len then
    match get e m with
    |.aZ cs=>some (.aZ ((cs.drop (n.toNat*w)).take w),J)
    |.ref l j v off=>some (.ref l j v (off+n.toNat*w),J)
    |.own s _=>some (.vr m s (n.toNat*w),J)
    |.vr v s o=>some (.vr v s (o+n.toNat*w),J)
    |_=>none
   else none
  |_,_=>none
 |.IL w x i =>
  match bC e x,HQ (bC e i)with
  |.bZ m cs,some n=>if 0<=n/\n<m then some (.aZ ((cs.drop (n.toNat*w)).take w),J)else none
  |.sl l j v off m w',some n=>if 0<=n/\n<m/\w'=w then some (.ref l j v (off+n.toNat*w),J)else none
  |_,_=>none
 |.OB ag len w x i =>
  match bC e x,HQ (bC e i)with
  |.agg cs,some n =>
   if 0<=n/\n<len/\(n.toNat+1)*w<=cs.length then
    if ag then some (.agg ((cs.drop (n.toNat*w)).take w),J)else(cs[n.toNat*w]?).map (·,J)
   else none
  |_,_=>none
 |.My x =>
  match bC e x with
  |.bu=>some (.int .i64 0,J)
  |.bZ n _=>some (.int .i64 n,J)
  |.sl _ _ _ _ n _=>some (.int .i64 n,J)
  |_=>none
 |.SI n=>some (.int .i64 n,J)
 |.mn x y =>
  match bC e x,bC e y with
  |.int k a,.int _ b=>some (.int k (min a b),J)
  |_,_=>none
 |.mx x y =>
  match bC e x,bC e y with
  |.int k a,.int _ b=>some (.int k (max a b),J)
  |_,_=>none
 |.app w bytes s x=>do
  let (m,xs)<-elems J w (bC e x)
  match bC e s with
  |.bu =>
   if m*bytes<=room then
    if m=0 then some (.bu,J)else do
    let (l,i,J')<-fR J (.cells 0 xs)
    some (.sl l i 0 0 m w,J')
   else none
  |.sl l i v off n w' =>
   match cells? J l i v with
   |some cs =>
    if w'=w/\off+n*w<=cs.length/\(n+m)*bytes<=room then
     if l+1=J.length then
      some (.sl l i (v+1) 0 (n+m) w,bj J l i (.cells (v+1) ((cs.drop off).take (n*w)++xs)))
     else
      let r:=cH.frzL (cH l deep) xs J
      some (.sl l i (v+1) 0 (n+m) w,bj r.2 l i (.cells (v+1) ((cs.drop off).take (n*w)++r.1)))
    else none
   |none=>none
  |_=>none
 |.VC os w bytes s x =>
  match bC e s with
  |.sl l i _ _ _ _=>if(os.all λt=>D.off l i (get e t))=true then(elems J w (bC e x)).bind λr=>if D.aW r.2=true then Ob e J w bytes s x else none else none
  |_=>none
 |.apz w bytes s x=>(Ob e J w bytes s x).map λr=>cH 0 deep r.1 r.2
 |.cpi w bytes x=>do
  let (m,xs)<-elems J w (bC e x)
  if m*bytes<=room then some (.bZ m xs,J)else none
 |.cvz x =>
  match bC e x with
  |.sl l i v off n w =>
   if 0<n then
    match cells? J l i v with
    |some cs=>some (.bZ n ((cs.drop off).take (n*w)),bj J l i .dead)
    |none=>none
   else none
  |_=>none
 |.bse=>some (.emp,J)
 |.ape w bytes v x =>
  match get e v with
  |.emp=>(elems J w (bC e x)).bind λr=>if r.1*bytes<=room then some (.bZ r.1 r.2,J)else none
  |_=>none
 |.ext x i =>
  match bC e x with
  |.cQ ds=>(ds[i]?).map (·,J)
  |_=>none
 |.IY o xs=>(ia o (xs.map (bC e))).map (·,J)
 |.mp o xs=>DT J o (xs.map (bC e))
 |.me o xs=>WB J o (xs.map (bC e))
 |.Zk t x=>some (.uJ t (bC e x),J)
 |.tas t z x=>(Tl t z (bC e x)).map (·,J)
 |.isi neg x=>(YY (bC e x)).map λb=>(.bool (if neg then !b else b),J)
 |.Zx _=>none
 |.RO=>none
 |.call _ _ _=>none
def R.dh:Option R->Option (D×SK)
 |some (.val d J)=>some (d,J)
 |_=>none
def R.VJ:Option R->Option (Exit×Env×SK)
 |some (.FP e env J)=>some (e,env,J)
 |_=>none
def oK(O:ck)(kp:Bool)(fv:D)(args:List D)(J:SK):Option (D×SK) :=
 match fv with
 |.fn f first cap=>R.dh (O (.call kp f (first++args++cap) J))
 |.j5 l i=>R.dh (O (.round l i args J))
 |_=>none
def Jr(O:ck)(fv:D)(args:List D)(J:SK):Option (D×SK) :=
 match fv with
 |.fn f first cap=>R.dh (O (.call false f (first++args++cap) J))
 |_=>none
def xn(O:ck)(op:Op)(e:Env)(J:SK):Option (Env×SK) :=
 match op.k with
 |.call kp f args =>
  match oK O kp (bC e f) (args.map (bC e)) J with
  |some (d,J')=>if op.DU=true->J'=J then some (put op.dst d e,J')else none
  |none=>none
 |.CK nb cs =>
  match op.dst,kB nb cs J with
  |some v,some (cs',J')=>some ((v,.own (uR e v) cs')::e,J')
  |_,_=>none
 |.GM x =>
  match op.dst,(bC e x).cells with
  |some v,some cs=>some ((v,.own (uR e v) cs)::e,J)
  |_,_=>none
 |.Iq v nb sz a x =>
  match rK e v a,(bC e x).cells with
  |some (s,cs,off),some p =>
   if p.length=sz/\off+sz<=cs.length then
    match kB nb p J with
    |some (p',J')=>some ((v,.own s (cs.take off++p'++cs.drop (off+sz)))::e,J')
    |none=>none
   else none
  |_,_=>none
 |k=>(bX e J k).map λx=>(put op.dst x.1 e,x.2)
def D.bit:D->Option (Option Bool)
 |.bool b=>some (some b)
 |.cQ []=>some none
 |_=>none
def lK(O:ck):List Op->Env->SK->Option (Env×SK)
 |[],e,J=>some (e,J)
 |op::r,e,J =>
  match op.GQ with
  |none=>(xn O op e J).bind λx=>lK O r x.1 x.2
  |some (g,want) =>
   match(get e g).bit with
   |some y=>if y=some want then(xn O op e J).bind λx=>lK O r x.1 x.2 else lK O r (put op.dst (.cQ []) e) J
   |none=>none
def D.rN:D->D
 |.bu => .bZ 0 []
 |d=>d
def HK(l i u:Nat)(J:SK):D×SK :=
 match cells? J l i u with
 |some cs=>let r:=cH.frzL (cH 0 deep) cs (bj J l i .dead);(.aZ (r.1.map D.rN),r.2)
 |none=>(.undef,J)
def ack(v:Nat)(e:Env):Env :=
 match get e v with
 |.own _ cs=>if e.all (λp=>match p.2 with | .vr x _ _=>x != v | _=>true)then(v,.aZ cs)::e else e
 |_=>e
def Ms(v:Nat)(e:Env)(J:SK):Env×SK :=
 match get e v with
 |.bu=>((v,.bZ 0 [])::e,J)
 |.ref l i u 0=>let r:=HK l i u J;((v,r.1)::e,r.2)
 |.own s cs=>((v,.own s (cs.map D.rN))::e,J)
 |.undef=>if 1000000<=v then(ack (v-1000000) e,J)else(e,J)
 |_=>(e,J)
def vB:List Nat->Env->SK->Env×SK
 |[],e,J=>(e,J)
 |v::vs,e,J =>
  match get e v with
  |.sl l i u off m w=>let r:=cH 0 deep (.sl l i u off m w) J;vB vs ((v,r.1)::e) r.2
  |.own s cs=>let r:=cH.frzL (cH 0 deep) cs J;vB vs ((v,.own s r.1)::e) r.2
  |.agg cs=>vB vs ((v,.agg (cs.map D.rN))::e) J
  |.undef=>if 1000000<=v then(let r:=Ms (v-1000000) e J;vB vs r.1 r.2)else vB vs e J
  |_=>vB vs e J
def DC(O:ck)(fv:D)(args:List D)(J:SK):Option R :=
 match fv with
 |.fn f first cap=>O (.call false f (first++args++cap) J)
 |_=>none
def uY(O:ck)(live:List Nat)(dst:Option Nat)(post:List Op)(e:Env):Option R->Option (Exit×Env×SK)
 |some (.val d J')=>(lK O post (put dst d e) J').map λy=>(.normal,restrict live y.1,y.2)
 |some (.fw d J')=>some (.fw d,e,J')
 |_=>none
def JZ(O:ck)(live:List Nat)(op:Op)(post:List Op)(e:Env)(J:SK):Option (Exit×Env×SK) :=
 match op.GQ,op.k with
 |none,.call false f args=>uY O live op.dst post e (DC O (bC e f) (args.map (bC e)) J)
 |none,.Zx x=>(match bC e x with
  |.uJ t d=>if d.clean then some (.fw (.uJ t d),e,J)else none
  |_=>none)
 |_,_=>none
def bq(O:ck):bV->Env->SK->Option (Exit×Env×SK)
 |.Kk,e,J=>some (.normal,e,J)
 |.cH vs,e,J=>let r:=vB vs e J;some (.normal,r.1,r.2)
 |.sQ live ops,e,J=>(lK O ops e J).map λx=>(.normal,restrict live x.1,x.2)
 |.seq a b,e,J=>(bq O a e J).bind λx =>
  match x.1 with
  |.normal=>bq O b x.2.1 x.2.2
  |_=>some x
 |.ite c a b,e,J =>
  match bC e c with
  |.bool t=>if t then bq O a e J else bq O b e J
  |_=>none
 |.dK id a,e,J=>(bq O a e J).map λx =>
  match x.1 with
  |.exit j=>if j=id then(.normal,x.2)else x
  |_=>x
 |.loop live bD a,e,J=>R.VJ (O (.loop live bD a e J))
 |.O1 live f params CM body,e,J =>
  match fR J (.loop {state:=0,zN:=none,env:=zW live e,params,CM,body })with
  |some (l,i,J1) =>
   match Jr O (bC e f) [.j5 l i] J1 with
   |some (_,J2) =>
    match ec J2 l i with
    |some (.loop lp) =>
     if lp.state=1 then none else
     some (lp.zN.getD .normal,restrict live e,bj J2 l i (.loop {lp with state:=3 }))
    |_=>none
   |none=>none
  |none=>none
 |.iC live it nx ok b a rest,e,J=>R.VJ (O (.iC live it nx ok b a rest e J))
 |.RH live pre op post,e,J=>(lK O pre e J).bind λx=>JZ O live op post x.1 x.2
 |.VK ..,_,_=>none
 |.sgm a,e,J=>(bq O a e ([]::J)).map λx=>(x.1,(pQ (J.length-1) (restrict (keys x.2.1) x.2.1) x.2.2).1,(pQ (J.length-1) (restrict (keys x.2.1) x.2.1) x.2.2).2.tail)
 |.exit id,e,J=>some (.exit id,e,J)
 |.ret,e,J=>some (.ret,e,J)
inductive G5 where
 |t (n:Nat)
 |c (n:Nat) (ag:Bool) (sz:Nat)
 |v (n:Nat) (ag:Bool) (sz:Nat)
structure Fn where
 SQ:Nat
 res:List G5
 body:bV
def LR(e:Env)(J:SK):G5->Option D
 |.t n=>some (get e n).strip
 |.c n ag sz=>(bX e J (.ld ag sz (.t n))).map (·.1)
 |.v n ag sz=>(bX e J (.WA n ag sz n)).map (·.1)
def Cy(e:Env)(J:SK):List G5->Option (List D)
 |[]=>some []
 |r::rs=>(LR e J r).bind λd=>(Cy e J rs).map λds=>d::ds
def uK:List D->D
 |[d]=>d
 |ds => .cQ ds
def lR(n:Nat):List D->Env
 |[]=>[]
 |d::ds=>(n,d)::lR (n+1) ds
def Dp:List Nat->List D->Env->Env
 |t::ts,d::ds,e=>Dp ts ds ((t,d)::e)
 |_,_,e=>e
abbrev DB:=Nat->Option Fn
def YX:List D->Option (List Int)
 |[]=>some []
 |.int .i64 z::r=>(YX r).map (z :: ·)
 |_=>none
def abS(x:Int):List Int->List Int
 |[]=>[x]
 |y::l=>if x<=y then x::y::l else y::abS x l
def UW:List Int->List Int
 |[]=>[]
 |x::l=>abS x (UW l)
def YV(l:List Int):List D:=l.map (.int .i64)
def Qj(x:Int):List Int->List Int
 |[]=>[]
 |y::l=>if y=x then Qj x l else y::Qj y l
def M6:List Int->List Int
 |[]=>[]
 |x::l=>x::Qj x l
def Zo(k:Nat)(zs:List Int):List Int:=if k=1 then UW zs else M6 zs++List.replicate (zs.length-(M6 zs).length) 0
def afz(k l i v off:Nat)(zs:List Int):D:=if k=1 then .cQ []else .sl l i v off (M6 zs).length 1
def aiV(k:Nat)(args:List D)(J:SK):Option R :=
 match args with
 |[.sl l i v off n w] =>
  if n≠0/\w=1/\n<=1000000 then
   match cells? J l i v with
   |some cs =>
    if off+n<=cs.length then
     match YX ((cs.drop off).take n)with
     |some zs=>some (.val (afz k l i v off zs) (bj J l i (.cells v (cs.take off++YV (Zo k zs)++cs.drop (off+n)))))
     |none=>none
    else none
   |none=>none
  else none
 |_=>none
def tR:Nat->Nat->List UInt8
 |0,_=>[]
 |k+1,u=>if u<10 then [UInt8.ofNat (48+u)]else tR k (u / 10)++[UInt8.ofNat (48+u%10)]
def iB(n:Int):List UInt8:=if n<0 then 45::tR 20 n.natAbs else tR 20 n.toNat
def xA:List D->Option (List (List UInt8))
 |[]=>some []
 |.str s::r=>(xA r).map (s :: ·)
 |_=>none
def xZ(sep:List UInt8):List (List UInt8)->List UInt8
 |[]=>[]
 |x::r=>x++fM r (sep ++ ·)
def dr(b:UInt8):List UInt8->List (List UInt8)
 |[]=>[[]]
 |c::r=>if c=b then []::dr b r else match dr b r with
  |x::l=>(c::x)::l
  |[]=>[[c]]
def sh(s:List UInt8):Nat×Int :=
 match Lib.atoiAll s with
 |.ok v=>(0,v)
 |Lib.NumEnd.syntax=>(1,0)
 |.range=>(2,Lib.atoiSat s)
def Be(a b:Nat)(xs:List (List UInt8)):List (List UInt8):=xs.take a++xs.drop b++List.replicate (b-a) []
def ER(k:Nat)(args:List D)(J:SK):Option R :=
 match k%16,args with
 |3,[.int .i64 n]=>if -9223372036854775808<=n/\n<=9223372036854775807 then some (.val (.str (iB n)) J)else none
 |4,[.str s]=>if s.length<=1000000 then some (.val (.cQ [.int .i64 (sh s).2,if(sh s).1=0 then .od else .uJ (k / 16) .undef]) J)else none
 |5,[.bZ n cs,.str sep] =>
  match xA cs with
  |some xs=>if n=xs.length/\n<=1000/\(xZ sep xs).length<=1000000 then some (.val (.str (xZ sep xs)) J)else none
  |none=>none
 |6,[.str s,.str [b]]=>if s.length<=1000000 then some (.val (.bZ (dr b s).length ((dr b s).map .str)) J)else none
 |7,[.j5 l i,.str s] =>
  match cells? J l i 2 with
  |some [.int .i64 t,.int .i64 e,.str bs] =>
   if t=((k / 16%65536:Nat):Int)/\e=((k / 16 / 65536:Nat):Int)/\bs.length+s.length<=1000000 then
    some (.val (.cQ [.int .i64 s.length,.od]) (bj J l i (.cells 2 [.int .i64 t,.int .i64 e,.str (bs++s)])))
   else none
  |_=>none
 |8,[.j5 l i] =>
  match cells? J l i 2 with
  |some [.int .i64 t,.int .i64 e,.str bs]=>if t=((k / 16%65536:Nat):Int)/\e=((k / 16 / 65536:Nat):Int)/\bs≠[]then some (.val (.str bs) J)else none
  |_=>none
 |9,[.sl l i v off n w,.int .i64 a,.int .i64 b] =>
  if n≠0/\w=1/\n<=1000000/\0<=a/\a<=b/\b<=(n:Int)then
   match cells? J l i v with
   |some cs =>
    if off+n<=cs.length then
     match xA ((cs.drop off).take n)with
     |some xs=>some (.val (.sl l i v off (n-(b.toNat-a.toNat)) 1) (bj J l i (.cells v (cs.take off++(Be a.toNat b.toNat xs).map .str++cs.drop (off+n)))))
     |none=>none
    else none
   |none=>none
  else none
 |0,_=>none
 |9,_=>none
 |10,_=>none
 |11,_=>none
 |12,_=>none
 |13,_=>none
 |14,_=>none
 |15,_=>none
 |1,args=>aiV 1 args J
 |2,args=>aiV 2 args J
 |_,_=>none
def JN(J:SK)(l i:Nat):Option (D×Nat×List D×List Nat) :=
 match cells? J l i 1 with
 |some (m::.int .i64 n::js) =>
  match DZ J m with
  |some (_,_,es)=>if(es.length:Int)=n then some (m,es.length,js,(List.range es.length).filter λj => !(js.contains (.int .i64 j)))else none
  |none=>none
 |_=>none
def D6:List (Option R)->Option R
 |[]=>none
 |r::rs=>if ∀x∈rs,x=r then r else none
def zD(O:ck)(l i b:Nat)(rest:bV):Option (Exit×Env×SK)->Option R
 |some (.exit j,e1,J1) =>
  if j=b then(bq O rest e1 (bj J1 l i .dead)).map λx => .FP x.1 x.2.1 x.2.2
  else some (.FP (.exit j) e1 (bj J1 l i .dead))
 |some (.ret,e1,J1)=>some (.FP .ret e1 (bj J1 l i .dead))
 |_=>none
def DS(O:ck)(live:List Nat)(it:bS)(l i nx ok b:Nat)(c rest:bV):Option (Exit×Env×SK)->Option R
 |some (.normal,e1,J1)=>O (.iC live it nx ok b c rest e1 J1)
 |y=>zD O l i b rest y
def iJ:bV->Option (bV×bS×List bS×bV)
 |.VK f args q=>some (.Kk,f,args,q)
 |.seq a b=>(iJ b).map λx=>(.seq a x.1,x.2)
 |_=>none
def Tm(kp:Bool)(d:D):SK->Option R
 |_::J=>if kp=false/\d.clean=true then some (.fw d J)else none
 |[]=>none
def leave(res:List G5)(J:SK)(e:Env)(J1:SK):Option R :=
 match Cy e J1 res with
 |some ds=>(match cH (J.length-1) deep (uK ds) J1 with
  |(d,_::J2)=>some (.val d J2)
  |_=>none)
 |none=>none
def pU(O:ck)(fv:D)(args:List D)(th:Option D)(J:SK):Option R :=
 match fv with
 |.fn f first cap=>O (.Ag f (first++args++cap) th J)
 |_=>none
def vx(res:List G5)(J:SK)(e:Env):Option R->Option R
 |some (.val _ J1)=>leave res J e J1
 |_=>none
def BZ(O:ck)(res:List G5)(J:SK)(fv:D)(args:List D):Option (Exit×Env×SK)->Option R
 |some (.fw d,e,J1)=>vx res J e (pU O fv args (some d) J1)
 |some (.normal,e,J1)=>vx res J e (pU O fv args none J1)
 |some (.ret,e,J1)=>vx res J e (pU O fv args none J1)
 |_=>none
def BY(O:ck)(fn:Fn)(J:SK):Option (bV×bS×List bS×bV)->Env->SK->Option R
 |some (a,f,args,q),e0,J0 =>
  (match bq O a e0 J0 with
  |some (.normal,e,J1)=>BZ O fn.res J (bC e f) (args.map (bC e)) (bq O q e J1)
  |_=>none)
 |none,_,_=>none
def sf(th:Option D)(args:List D):bV->Option (Env×bV)
 |.seq (.sQ live [⟨some t,none,_,.RO⟩]) q=>(match q with
  |.iC .. => none
  |q=>some (restrict live ((t,th.getD .od)::lR 0 args),q))
 |_=>none
def dH(T:DB)(O:ck):Q->Option R
 |.call kp f args J =>
  match T f with
  |some fn =>
   if args.length=fn.SQ then
    match bq O fn.body (lR 0 args) (if kp then J else []::J)with
    |some (.exit _,_,_)=>none
    |some (.fw d,_,J1)=>Tm kp d J1
    |some (_,e,J1) =>
     match Cy e J1 fn.res with
     |some ds =>
      if kp then some (.val (uK ds) J1)else
      match cH (J.length-1) deep (uK ds) J1 with
      |(d,_::J2)=>some (.val d J2)
      |_=>none
     |none=>none
    |none=>if kp then none else BY O fn J (iJ fn.body) (lR 0 args) ([]::J)
   else none
  |none =>
   match T (1000000+f)with
   |some fn=>ER fn.SQ args J
   |none=>none
 |.loop live bD c e J =>
  match bq O c (restrict live e) (if bD then []::J else J)with
  |some (x,e1,J1) =>
   let (e2,J2):=if bD then(let r:=pQ (J.length-1) (restrict (BQ live x e1) e1) J1;(r.1,r.2.tail))else(e1,J1)
   match x with
   |.normal=>O (.loop live bD c e2 J2)
   |x=>some (.FP x e2 J2)
  |none=>none
 |.round l i args J =>
  match ec J l i with
  |some (.loop lp) =>
   if args.length=lp.params.length then
    match bq O lp.CM (Dp lp.params args lp.env) ([]::J)with
    |some (.normal,e1,J1) =>
     match ec J1 l i with
     |some (.loop lp1) =>
      if lp1.state=0 then
       match bq O lp.body e1 (bj J1 l i (.loop {lp1 with state:=1 }))with
       |some (x,_,_::J2) =>
        match ec J2 l i with
        |some (.loop lp2) =>
         match x with
         |.fw _=>none
         |.normal=>some (.val (.bool true) (bj J2 l i (.loop {lp2 with state:=0,zN:=none })))
         |x=>some (.val (.bool false) (bj J2 l i (.loop {lp2 with state:=2,zN:=some x })))
        |_=>none
       |_=>none
      else none
     |_=>none
    |_=>none
   else none
  |_=>none
 |.iC live it nx ok b c rest e J =>
  match bC (restrict live e) it with
  |.j5 l i =>
   match JN J l i with
   |some (_,_,_,[])=>zD O l i b rest (bq O c ((ok,.bool false)::(nx,.undef)::restrict live e) J)
   |some (m,n,js,us)=>D6 (us.map λu=>DS O live it l i nx ok b c rest (bq O c ((ok,.bool true)::(nx,.undef)::restrict live e) (bj J l i (.cells 1 (m::.int .i64 (n:Nat)::.int .i64 (u:Nat)::js)))))
   |none=>none
  |_=>none
 |.Ag f args th J =>
  match T f with
  |some fn =>
   if args.length=fn.SQ then
    match sf th args fn.body with
    |some (e0,q) =>
     match bq O q e0 ([]::J)with
     |some (.exit _,_,_)=>none
     |some (.fw _,_,_)=>none
     |some (_,e,J1) =>
      match Cy e J1 fn.res,J1 with
      |some [],_::J2=>some (.val (.cQ []) J2)
      |_,_=>none
     |none=>none
    |none=>none
   else none
  |none=>none
def it(T:DB):Nat->ck
 |0=>λ_=>none
 |n+1=>dH T (it T n)
open Classical in
noncomputable def dt(T:DB):ck:=λq =>
 if h:∃n r,it T n q=some r then some h.choose_spec.choose else none
end Go.Abs
