import GoSem.Core.View
import Derived.Lib.AtoiAll
set_option linter.all false
namespace Go
theorem ad:type_of%@Option.map_eq_some_iff:=@Option.map_eq_some_iff
theorem ae:type_of%@Option.some.injEq:=@Option.some.injEq
theorem af:type_of%@Bool.and_eq_true:=@Bool.and_eq_true
theorem aj:type_of%@Option.bind_eq_some_iff:=@Option.bind_eq_some_iff
theorem aL:type_of%@List.map_cons:=@List.map_cons
theorem ah:type_of%@List.mem_of_getElem?:=@List.mem_of_getElem?
theorem aW:type_of%@List.take_of_length_le:=@List.take_of_length_le
theorem ak:type_of%@Prod.mk.injEq:=@Prod.mk.injEq
theorem cc:type_of%@List.map_nil:=@List.map_nil
theorem au:type_of%@decide_eq_true_eq:=@decide_eq_true_eq
theorem aC:type_of%@Bool.false_eq_true:=@Bool.false_eq_true
theorem aI:type_of%@Option.ite_none_right_eq_some:=@Option.ite_none_right_eq_some
theorem aA:type_of%@List.getElem?_eq_some_iff:=@List.getElem?_eq_some_iff
theorem bH:type_of%@List.drop_eq_nil_of_le:=@List.drop_eq_nil_of_le
theorem aO:type_of%@Nat.le_refl:=@Nat.le_refl
theorem aB:type_of%@List.length_cons:=@List.length_cons
theorem aE:type_of%@List.getElem?_eq_getElem:=@List.getElem?_eq_getElem
theorem aX:type_of%@Option.bind_eq_bind:=@Option.bind_eq_bind
theorem az:type_of%@List.drop_zero:=@List.drop_zero
theorem aZ:type_of%@Option.map_some:=@Option.map_some
theorem aG:type_of%@List.length_pos_iff:=@List.length_pos_iff
theorem aV:type_of%@List.nil_append:=@List.nil_append
theorem Uh:type_of%@List.flatMap_cons:=@List.flatMap_cons
theorem bz:type_of%@List.mem_cons:=@List.mem_cons
theorem aU:type_of%@List.mem_append:=@List.mem_append
theorem aN:type_of%@Int.tdiv_eq_ediv_of_nonneg:=@Int.tdiv_eq_ediv_of_nonneg
theorem bd:type_of%@List.length_nil:=@List.length_nil
theorem bO:type_of%@List.mem_map:=@List.mem_map
theorem aP:type_of%@List.length_append:=@List.length_append
theorem bg:type_of%@List.length_eq_zero_iff:=@List.length_eq_zero_iff
theorem cq:type_of%@Bool.or_eq_true:=@Bool.or_eq_true
theorem cM:type_of%@Array.getD_eq_getD_getElem?:=@Array.getD_eq_getD_getElem?
theorem c9:type_of%@List.getElem?_cons_zero:=@List.getElem?_cons_zero
theorem cr:type_of%@Nat.zero_add:=@Nat.zero_add
theorem db:type_of%@List.mem_filter:=@List.mem_filter
theorem bK:type_of%@List.length_map:=@List.length_map
theorem dh:type_of%@List.drop_length_add_append:=@List.drop_length_add_append
theorem du:type_of%@Array.getElem?_eq_some_iff:=@Array.getElem?_eq_some_iff
theorem bR:type_of%@Nat.mul_one:=@Nat.mul_one
theorem dk:type_of%@Nat.mul_le_mul_right:=@Nat.mul_le_mul_right
theorem dj:type_of%@List.mem_of_mem_take:=@List.mem_of_mem_take
theorem dO:type_of%@Nat.add_assoc:=@Nat.add_assoc
theorem amO:type_of%@List.flatMap_nil:=@List.flatMap_nil
theorem dP:type_of%@Option.isSome_iff_exists:=@Option.isSome_iff_exists
theorem eL:type_of%@List.ext_getElem?:=@List.ext_getElem?
theorem ea:type_of%@Bool.not_eq_true':=@Bool.not_eq_true'
theorem dw:type_of%@List.getElem?_take:=@List.getElem?_take
theorem dq:type_of%@List.append_nil:=@List.append_nil
theorem dH:type_of%@List.mem_of_mem_drop:=@List.mem_of_mem_drop
theorem eM:type_of%@Nat.succ_mul:=@Nat.succ_mul
theorem dW:type_of%@Int.toNat_of_nonneg:=@Int.toNat_of_nonneg
theorem bF:type_of%@Int.mul_nonneg:=@Int.mul_nonneg
theorem cm:type_of%@List.singleton_append:=@List.singleton_append
theorem dV:type_of%@List.getElem?_eq_none:=@List.getElem?_eq_none
theorem fm:type_of%@Option.getD_some:=@Option.getD_some
theorem cF:type_of%@List.cons_append:=@List.cons_append
theorem fV:type_of%@Array.toList_inj:=@Array.toList_inj
theorem jc:type_of%@Nat.le_trans:=@Nat.le_trans
theorem dN:type_of%@List.getElem?_drop:=@List.getElem?_drop
theorem gT:type_of%@Nat.add_mul:=@Nat.add_mul
theorem fW:type_of%@List.getElem?_of_mem:=@List.getElem?_of_mem
theorem dZ:type_of%@Int.mul_le_mul_of_nonneg_right:=@Int.mul_le_mul_of_nonneg_right
theorem RV:type_of%@List.flatMap_append:=@List.flatMap_append
theorem jb:type_of%@List.all_cons:=@List.all_cons
theorem fG:type_of%@List.length_filter_le:=@List.length_filter_le
theorem iu:type_of%@List.getElem?_toArray:=@List.getElem?_toArray
theorem fN:type_of%@List.cons.injEq:=@List.cons.injEq
theorem eI:type_of%@Array.getElem?_modify:=@Array.getElem?_modify
theorem lr:type_of%@List.getElem?_map:=@List.getElem?_map
theorem bX:type_of%@List.append_assoc:=@List.append_assoc
theorem jh:type_of%@List.getElem?_mapIdx:=@List.getElem?_mapIdx
theorem eg:type_of%@List.getElem?_append_left:=@List.getElem?_append_left
theorem cC:type_of%@List.drop_drop:=@List.drop_drop
theorem cA:type_of%@Int.mul_le_mul:=@Int.mul_le_mul
theorem dp:type_of%@List.length_take:=@List.length_take
theorem iK:type_of%@List.all_eq_true:=@List.all_eq_true
theorem fk:type_of%@Int.le_total:=@Int.le_total
theorem gE{α:Type}{l:List α}{i:Nat}(h:i<l.length):∃x,l[i]?=some x:=⟨_,aE h⟩
end Go
namespace Go.aw
def fM{α β:Type _}(l:List α)(f:α->List β):List β:=l.flatMap f
@[simp] theorem mZ{α β:Type _}{f:α->List β}:fM [] f=[]:=rfl
@[simp] theorem cT{α β:Type _}{a:α}{l:List α}{f:α->List β}:fM (a::l) f=f a++fM l f:=Uh
@[simp] theorem ln{α β:Type _}{l m:List α}{f:α->List β}:fM (l++m) f=fM l f++fM m f:=RV
theorem SH{α β γ:Type _}{l:List γ}{g:γ->α}{f:α->List β}:fM (l.map g) f=fM l (λx=>f (g x)):=List.flatMap_map g f l
@[simp] theorem IU{α β:Type _}{l:List α}{f:α->List β}{b:β}:b∈fM l f↔∃a,a∈l/\b∈f a:=List.mem_flatMap
theorem V2{α β:Type _}{l:List α}{f:α->List β}{p:β->Bool}:(fM l f).filter p=fM l λa=>(f a).filter p:=List.filter_flatMap
theorem Rc{α β:Type _}{l:List α}{f:α->List β}{R:β->β->Prop}:(fM l f).Pairwise R↔(∀a∈l,(f a).Pairwise R)/\l.Pairwise λa₁ a₂=>∀x∈f a₁,∀y∈f a₂,R x y:=List.pairwise_flatMap
theorem YS{α β γ:Type _}{l:List α}{f:α->List β}{g:β->List γ}:fM (fM l f) g=fM l λa=>fM (f a) g:=List.flatMap_assoc
theorem pF{α β:Type _}{l:List α}{f:α->List β}:(fM l f).length=(l.map λa=>(f a).length).sum:=List.length_flatMap
inductive D where
 |undef
 |bool (b:Bool)
 |int (k:IntKind) (n:Int)
 |str (s:List UInt8)
 |agg (cs:List D)
 |cS (cs:List D)
 |zV
 |ref (l i v off:Nat)
 |bq (cs:List D)
 |bB
 |bZ (n:Nat) (cs:List D)
 |sl (l i v off n w:Nat)
 |fn (f:Nat) (first cap:List D)
 |pc
 |jg (l i:Nat)
 |own (s:Nat) (cs:List D)
 |vr (x s off:Nat)
 |ua (t:Nat) (d:D)
 |mQ
 |emp
 deriving Inhabited
@[reducible] def iI(n:Int):D:=.int .i64 n
@[reducible,simp] def lF{α:Type _}(l:List α)(f:α->List D):D:=.bZ l.length (fM l f)
mutual
def D.same:D->D->Bool
 |.undef,.undef=>true
 |.bool a,.bool b=>a == b
 |.int k n,.int k' n'=>k == k' && n == n'
 |.str a,.str b=>a == b
 |.agg a,.agg b=>D.Bb a b
 |.cS a,.cS b=>D.Bb a b
 |.zV,.zV=>true
 |.ref a b c d,.ref a' b' c' d'=>a == a' && b == b' && c == c' && d == d'
 |.bq a,.bq b=>D.Bb a b
 |.bB,.bB=>true
 |.bZ n a,.bZ m b=>n == m && D.Bb a b
 |.sl a b c d e f,.sl a' b' c' d' e' f'=>a == a' && b == b' && c == c' && d == d' && e == e' && f == f'
 |.fn f a b,.fn f' a' b'=>f == f' && D.Bb a a' && D.Bb b b'
 |.pc,.pc=>true
 |.jg a b,.jg a' b'=>a == a' && b == b'
 |.own s a,.own s' b=>s == s' && D.Bb a b
 |.vr a b c,.vr a' b' c'=>a == a' && b == b' && c == c'
 |.ua t a,.ua t' b=>t == t' && D.same a b
 |.mQ,.mQ=>true
 |.emp,.emp=>true
 |_,_=>false
def D.Bb:List D->List D->Bool
 |[],[]=>true
 |a::as,b::bs=>D.same a b && D.Bb as bs
 |_,_=>false
end
mutual
theorem Pa:∀{a b:D},D.same a b=true->a=b
 |.undef,b,h=>by cases b<;>simp[D.same]at h;rfl
 |.bool _,b,h=>by cases b<;>simp[D.same]at h;rw[h]
 |.int _ _,b,h=>by cases b<;>simp[D.same]at h;rw[h.1,h.2]
 |.str _,b,h=>by cases b<;>simp[D.same]at h;rw[h]
 |.agg _,b,h=>by cases b<;>simp[D.same]at h;rw[wW h]
 |.cS _,b,h=>by cases b<;>simp[D.same]at h;rw[wW h]
 |.zV,b,h=>by cases b<;>simp[D.same]at h;rfl
 |.ref ..,b,h=>by cases b<;>simp[D.same]at h;simp[h]
 |.bq _,b,h=>by cases b<;>simp[D.same]at h;rw[wW h]
 |.bB,b,h=>by cases b<;>simp[D.same]at h;rfl
 |.bZ ..,b,h=>by cases b<;>simp[D.same]at h;rw[h.1,wW h.2]
 |.sl ..,b,h=>by cases b<;>simp[D.same]at h;simp[h]
 |.fn ..,b,h=>by cases b<;>simp[D.same]at h;rw[h.1.1,wW h.1.2,wW h.2]
 |.pc,b,h=>by cases b<;>simp[D.same]at h;rfl
 |.jg ..,b,h=>by cases b<;>simp[D.same]at h;simp[h]
 |.own ..,b,h=>by cases b<;>simp[D.same]at h;rw[h.1,wW h.2]
 |.vr ..,b,h=>by cases b<;>simp[D.same]at h;simp[h]
 |.ua _ a,b,h=>by cases b<;>simp[D.same]at h;rw[h.1,Pa h.2]
 |.mQ,b,h=>by cases b<;>simp[D.same]at h;rfl
 |.emp,b,h=>by cases b<;>simp[D.same]at h;rfl
theorem wW:∀{a b:List D},D.Bb a b=true->a=b
 |[],[],_=>rfl
 |[],_::_,h=>by simp[D.Bb]at h
 |_::_,[],h=>by simp[D.Bb]at h
 |a::as,b::bs,h=>by
  simp only[D.Bb,af]at h;rw[Pa h.1,wW h.2]
end
mutual
theorem Jc:∀(a:D),D.same a a=true
 |.undef=>rfl
 |.bool b=>by simp[D.same]
 |.int k n=>by simp[D.same]
 |.str s=>by simp[D.same]
 |.agg a=>by simp[D.same,pj a]
 |.cS a=>by simp[D.same,pj a]
 |.zV=>rfl
 |.ref .. => by simp[D.same]
 |.bq a=>by simp[D.same,pj a]
 |.bB=>rfl
 |.bZ n a=>by simp[D.same,pj a]
 |.sl .. => by simp[D.same]
 |.fn f a b=>by simp[D.same,pj a,pj b]
 |.pc=>rfl
 |.jg .. => by simp[D.same]
 |.own s a=>by simp[D.same,pj a]
 |.vr .. => by simp[D.same]
 |.ua t a=>by simp[D.same,Jc a]
 |.mQ=>rfl
 |.emp=>rfl
theorem pj:∀(a:List D),D.Bb a a=true
 |[]=>rfl
 |a::as=>by simp[D.Bb,Jc a,pj as]
end
instance:DecidableEq D:=λa b=>if h:D.same a b=true then isTrue (Pa h)else isFalse λe=>h (e ▸ Jc a)
inductive bU where
 |t (n:Nat)
 |c (d:D)
 deriving Inhabited,DecidableEq
inductive Pu where
 |RH
 |J8
 |Z5
 |MH (lo hi:Bool)
 |seq (neg:Bool)
 deriving Inhabited,DecidableEq
def fO:Pu->List D->Option D
 |.RH,[.str s]=>some (.int .i64 s.length)
 |.J8,[.str s,.int _ i]=>if 0<=i then(s[i.toNat]?).map λb => .int .u8 b.toNat else none
 |.Z5,[.str a,.str b]=>if a.length+b.length<=4611686018427387904 then some (.str (a++b))else none
 |.MH true true,[.str s,.int _ i,.int _ j]=>if 0<=i/\i<=j/\j<=s.length then some (.str ((s.drop i.toNat).take (j.toNat-i.toNat)))else none
 |.MH true false,[.str s,.int _ i]=>if 0<=i/\i<=s.length then some (.str (s.drop i.toNat))else none
 |.MH false true,[.str s,.int _ j]=>if 0<=j/\j<=s.length then some (.str (s.take j.toNat))else none
 |.MH false false,[.str s]=>some (.str s)
 |.seq neg,[.str a,.str b]=>some (.bool (if neg then !(a == b)else a == b))
 |_,_=>none
abbrev Ky:=Option (Bool×List (Option IntKind))
inductive Mo where
 |make
 |Mp (t e:Nat)
 |get (ky:Ky) (zero:D) (ok:Bool)
 |put (ky:Ky)
 |len
 |rng
 |ent
 deriving Inhabited,DecidableEq
inductive Me where
 |b2s
 |s2b
 |s2a (n w:Nat)
 |peq (neg:Bool)
 deriving Inhabited,DecidableEq
inductive K where
 |mv (x:bU)
 |LL (w:Nat)
 |pick (c a b:bU)
 |Un (nb:List (Nat×Nat)) (cs:List D)
 |CV (nb:List (Nat×Nat)) (cs:List D)
 |Mq (x:bU)
 |Mr (x:bU)
 |bxn (nb:List (Nat×Nat)) (x:bU)
 |GD (x:bU)
 |Mp (zero:List D) (parts:List (Nat×Nat×bU))
 |bsi (n w:Nat) (zero:List D) (parts:List (Nat×Nat×bU))
 |YB (n w:Nat) (zero:List D) (parts:List (Nat×Nat×bU))
 |ld (ag:Bool) (sz:Nat) (a:bU)
 |WY (ag:Bool) (sz:Nat) (a:bU)
 |WX (ag:Bool) (sz:Nat) (a:bU)
 |isn (ps neg:Bool) (x:bU)
 |nck (x:bU)
 |st (nb:List (Nat×Nat)) (sz:Nat) (a x:bU)
 |RL (os:List Nat) (sz:Nat) (a x:bU)
 |WZ (v:Nat) (ag:Bool) (sz:Nat) (a:Nat)
 |Je (v:Nat) (nb:List (Nat×Nat)) (sz:Nat) (a:Nat) (x:bU)
 |bin (o:BinOp) (x y:bU)
 |eqv (ag:Bool) (ks:List (Option IntKind)) (neg:Bool) (x y:bU)
 |un (o:UnOp) (x:bU)
 |YI (k:IntKind) (x:bU)
 |Zp (f:Nat) (first cap:List bU)
 |mks (w bytes:Nat) (zero:List D) (l c:bU)
 |W3 (w:Nat) (x:bU) (lo hi mx:Option bU)
 |Tj (len w:Nat) (x:bU) (lo hi:Option bU)
 |Mt (off:Nat) (x:bU)
 |fld (ag:Bool) (off sz:Nat) (x:bU)
 |My (len w:Nat) (x i:bU)
 |IQ (w:Nat) (x i:bU)
 |OF (ag:Bool) (len w:Nat) (x i:bU)
 |MB (x:bU)
 |SU (n:Nat)
 |mn (x y:bU)
 |mx (x y:bU)
 |app (w bytes:Nat) (s x:bU)
 |VP (os:List Nat) (w bytes:Nat) (s x:bU)
 |apz (w bytes:Nat) (s x:bU)
 |cpi (w bytes:Nat) (x:bU)
 |cvz (x:bU)
 |bse
 |ape (w bytes v:Nat) (x:bU)
 |ext (x:bU) (i:Nat)
 |Is (o:Pu) (xs:List bU)
 |mp (o:Mo) (xs:List bU)
 |me (o:Me) (xs:List bU)
 |Zq (t:Nat) (x:bU)
 |tas (t:Nat) (zero:Option D) (x:bU)
 |isi (neg:Bool) (x:bU)
 |ZE (x:bU)
 |RX
 |call (kp:Bool) (f:bU) (args:List bU)
 deriving Inhabited,DecidableEq
structure Op where
 dst:Option Nat
 GJ:Option (Nat×Bool)
 DZ:Bool
 k:K
 deriving Inhabited,DecidableEq
inductive cb where
 |Ko
 |cK (vs:List Nat)
 |rM (live:List Nat) (ops:List Op)
 |seq (a b:cb)
 |ite (c:bU) (a b:cb)
 |dR (id:Nat) (a:cb)
 |loop (live:List Nat) (bC:Bool) (a:cb)
 |ME (live:List Nat) (f:bU) (params:List Nat) (BY body:cb)
 |gX (live:List Nat) (it:bU) (nx ok b:Nat) (a rest:cb)
 |RQ (live:List Nat) (pre:List Op) (op:Op) (post:List Op)
 |VY (f:bU) (args:List bU) (rest:cb)
 |exit (id:Nat)
 |ret
 |sgm (a:cb)
 deriving Inhabited,DecidableEq
inductive Exit where
 |normal
 |exit (id:Nat)
 |ret
 |fy (d:D)
 deriving Inhabited,DecidableEq
abbrev Env:=List (Nat×D)
def get:Env->Nat->D
 |[],_ => .undef
 |(k,v)::r,t=>if k=t then v else get r t
def put(d:Option Nat)(v:D)(e:Env):Env :=
 match d with
 |some t=>(t,v)::e
 |none=>e
def D.calm:D->D
 |.vr .. => .undef
 |.emp => .undef
 |.own _ cs => .own 0 cs
 |d=>d
def D.strip:D->D
 |.vr .. => .undef
 |.emp => .undef
 |.own .. => .undef
 |d=>d
def restrict(live:List Nat)(e:Env):Env:=live.map λt=>(t,(get e t).calm)
def keys(e:Env):List Nat:=(e.map (·.1)).eraseDups
def Ac(live:List Nat)(e:Env):Env:=live.map λt=>(t,(get e t).strip)
def BW(live:List Nat)(x:Exit)(e:Env):List Nat :=
 match x with
 |.normal=>live
 |_=>keys e
structure xd where
 state:Nat
 xC:Option Exit
 env:Env
 params:List Nat
 BY:cb
 body:cb
 deriving DecidableEq
inductive aF where
 |cells (v:Nat) (cs:List D)
 |dead
 |loop (l:xd)
 deriving DecidableEq
abbrev SK:=List (List aF)
def eK:SK->Nat->Option (List aF)
 |[],_=>none
 |s::J,l=>if J.length=l then some s else eK J l
def gL:SK->Nat->List aF->SK
 |[],_,_=>[]
 |s::J,l,s'=>if J.length=l then s'::J else s::gL J l s'
def ef(J:SK)(l i:Nat):Option aF:=(eK J l).bind (·[i]?)
def bw(J:SK)(l i:Nat)(b:aF):SK :=
 match eK J l with
 |some s=>gL J l (s.set i b)
 |none=>J
def cells?(J:SK)(l i v:Nat):Option (List D) :=
 match ef J l i with
 |some (.cells v' cs)=>if v'=v then some cs else none
 |_=>none
def fT(J:SK)(b:aF):Option (Nat×Nat×SK) :=
 match J with
 |[]=>none
 |s::J'=>some (J'.length,s.length,(s++[b])::J')
mutual
def D.clean:D->Bool
 |.ref .. => false
 |.sl .. => false
 |.jg .. => false
 |.vr .. => true
 |.emp=>true
 |.own _ cs=>D.bh cs
 |.agg cs=>D.bh cs
 |.cS cs=>D.bh cs
 |.bq cs=>D.bh cs
 |.bZ _ cs=>D.bh cs
 |.fn _ a b=>D.bh a && D.bh b
 |.undef=>true
 |.bool _=>true
 |.int _ _=>true
 |.str _=>true
 |.zV=>true
 |.bB=>true
 |.pc=>true
 |.ua _ d=>D.clean d
 |.mQ=>true
def D.bh:List D->Bool
 |[]=>true
 |d::ds=>D.clean d && D.bh ds
end
def cK(l:Nat):Nat->D->SK->D×SK
 |0,_,J=>(.undef,J)
 |n+1,d,J =>
  if d.clean then(d,J)else
  match d with
  |.agg cs=>let r:=frzL (cK l n) cs J;(.agg r.1,r.2)
  |.cS cs=>let r:=frzL (cK l n) cs J;(.cS r.1,r.2)
  |.bq cs=>let r:=frzL (cK l n) cs J;(.bq r.1,r.2)
  |.bZ m cs=>let r:=frzL (cK l n) cs J;(.bZ m r.1,r.2)
  |.own s cs=>let r:=frzL (cK l n) cs J;(.own s r.1,r.2)
  |.fn f a b=>let r:=frzL (cK l n) a J;let r':=frzL (cK l n) b r.2;(.fn f r.1 r'.1,r'.2)
  |.ref l' i v off=>if l'<=l then(.ref l' i v off,J)else(.undef,J)
  |.jg l' i=>if l'<=l then(.jg l' i,J)else(.undef,J)
  |.sl l' i v off m w =>
   if l'<=l then(.sl l' i v off m w,J)else
   match cells? J l' i v with
   |some cs=>let r:=frzL (cK l n) ((cs.drop off).take (m*w)) (bw J l' i .dead);(.bZ m r.1,r.2)
   |none=>(.undef,J)
  |_=>(.undef,J)
where
 frzL (f:D->SK->D×SK):List D->SK->List D×SK
  |[],J=>([],J)
  |d::ds,J=>let r:=f d J;let r':=frzL f ds r.2;(r.1::r'.1,r'.2)
def deep:Nat:=16
def nM(l:Nat):Env->SK->Env×SK
 |[],J=>([],J)
 |(t,d)::e,J=>let r:=cK l deep d J;let r':=nM l e r.2;((t,r.1)::r'.1,r'.2)
inductive Q where
 |call (kp:Bool) (f:Nat) (args:List D) (J:SK)
 |loop (live:List Nat) (bC:Bool) (c:cb) (env:Env) (J:SK)
 |round (l i:Nat) (args:List D) (J:SK)
 |gX (live:List Nat) (it:bU) (nx ok b:Nat) (c rest:cb) (env:Env) (J:SK)
 |Ar (f:Nat) (args:List D) (th:Option D) (J:SK)
inductive R where
 |val (d:D) (J:SK)
 |FU (e:Exit) (env:Env) (J:SK)
 |fy (d:D) (J:SK)
 deriving DecidableEq
abbrev cn:=Q->Option R
def bG(e:Env):bU->D
 |.t n=>(get e n).strip
 |.c d=>d
def D.cells:D->Option (List D)
 |.agg cs=>some cs
 |.undef=>none
 |.cS _=>none
 |.own .. => none
 |.vr .. => none
 |.emp=>none
 |d=>some [d]
def D.row(ag:Bool)(d:D):Option (List D) :=
 match ag,d with
 |true,.agg cs=>some cs
 |true,_=>none
 |false,.agg _=>none
 |false,d=>d.cells
def iB(e:Env):List (Nat×Nat×bU)->List D->Option (List D)
 |[],cs=>some cs
 |(off,sz,x)::r,cs =>
  match(bG e x).cells with
  |some p=>if p.length=sz/\off+sz<=cs.length then iB e r (cs.take off++p++cs.drop (off+sz))else none
  |none=>none
def C5:List (Option IntKind)->List D->List D->Option Bool
 |[],[],[]=>some true
 |some k::ks,.int k1 a::x,.int k2 b::y=>if k1=k/\k2=k then(C5 ks x y).map (a == b && ·)else none
 |none::ks,.bool a::x,.bool b::y=>(C5 ks x y).map (a == b && ·)
 |_,_,_=>none
def sU(o:BinOp):D->D->Option D
 |.int k a,.int k' b =>
  match o with
  |.shl=>if b<0 then none else some (.int k (k.wrap (a*2^(min b.toNat k.bits))))
  |.shr=>if b<0 then none else some (.int k (a.fdiv (2^(min b.toNat k.bits))))
  |.add=>if k=k' then some (.int k (k.wrap (a+b)))else none
  |.sub=>if k=k' then some (.int k (k.wrap (a-b)))else none
  |.mul=>if k=k' then some (.int k (k.wrap (a*b)))else none
  |.quo=>if k=k'/\b≠0 then some (.int k (k.wrap (a.tdiv b)))else none
  |.rem=>if k=k'/\b≠0 then some (.int k (a.tmod b))else none
  |.and=>if k=k' then some (.int k (k.wrap ((BitVec.ofInt k.bits a &&& BitVec.ofInt k.bits b).toNat:Int)))else none
  |.or=>if k=k' then some (.int k (k.wrap ((BitVec.ofInt k.bits a ||| BitVec.ofInt k.bits b).toNat:Int)))else none
  |.xor=>if k=k' then some (.int k (k.wrap ((BitVec.ofInt k.bits a ^^^ BitVec.ofInt k.bits b).toNat:Int)))else none
  |.andNot=>none
  |.eql=>if k=k' then some (.bool (a == b))else none
  |.neq=>if k=k' then some (.bool (a != b))else none
  |.lss=>if k=k' then some (.bool (decide (a<b)))else none
  |.leq=>if k=k' then some (.bool (decide (a<=b)))else none
  |.gtr=>if k=k' then some (.bool (decide (a>b)))else none
  |.geq=>if k=k' then some (.bool (decide (a>=b)))else none
 |_,_=>none
def HP:D->Option Int
 |.int _ n=>some n
 |_=>none
def CM(e:Env)(m:Nat)(dfl:Option Nat):Option bU->Option Nat
 |some x=>match HP (bG e x)with
  |some n=>if 0<=n/\n<=m then some n.toNat else none
  |none=>none
 |none=>dfl
def bounds(len:Nat)(e:Env)(lo hi mx:Option bU):Option (Nat×Nat) :=
 (CM e len (some len) mx).bind λm=>(CM e m (if mx.isSome then none else some len) hi).bind λh=>(CM e h (some 0) lo).map λl=>(l,h)
def sw(ky:Ky)(a b:D):Option Bool :=
 match ky with
 |none=>match a,b with
  |.str x,.str y=>some (x == y)
  |_,_=>none
 |some (ag,ks)=>match a.row ag,b.row ag with
  |some p,some q=>C5 ks p q
  |_,_=>none
def oS(ky:Ky)(k:D):List D->Option (Option (Nat×D))
 |[]=>some none
 |.cS [k',v]::es =>
  match sw ky k k' with
  |some true=>some (some (0,v))
  |some false=>(oS ky k es).map λx=>x.map λy=>(y.1+1,y.2)
  |none=>none
 |_=>none
def D3(J:SK):D->Option (Nat×Nat×List D)
 |.jg l i=>(cells? J l i 0).map λes=>(l,i,es)
 |_=>none
def DY(J:SK):Mo->List D->Option (D×SK)
 |.make,[]=>(fT J (.cells 0 [])).map λx=>(.jg x.1 x.2.1,x.2.2)
 |.Mp t e,[]=>(fT J (.cells 2 [.int .i64 (t:Nat),.int .i64 (e:Nat),.str []])).map λx=>(.jg x.1 x.2.1,x.2.2)
 |.get ky zero ok,[m,k] =>
  match D3 J m with
  |some (_,_,es) =>
   if(sw ky k k).isSome then
    match oS ky k es with
    |some (some (_,v))=>some (if ok then .cS [v,.bool true]else v,J)
    |some none=>some (if ok then .cS [zero,.bool false]else zero,J)
    |none=>none
   else none
  |none=>none
 |.put ky,[m,k,v] =>
  match D3 J m with
  |some (l,i,es) =>
   if(sw ky k k).isSome/\(l+1=J.length\/(k.clean/\v.clean))then
    match oS ky k es with
    |some (some (j,_))=>some (.undef,bw J l i (.cells 0 (es.set j (.cS [k,v]))))
    |some none=>some (.undef,bw J l i (.cells 0 (es++[.cS [k,v]])))
    |none=>none
   else none
  |none=>none
 |.len,[m]=>(D3 J m).map λx=>(.int .i64 x.2.2.length,J)
 |.rng,[m] =>
  match D3 J m with
  |some (lm,im,es)=>(fT J (.cells 1 [.jg lm im,.int .i64 es.length])).map λx=>(.jg x.1 x.2.1,x.2.2)
  |none=>none
 |.ent,[.jg l i] =>
  match cells? J l i 1 with
  |some (m::.int .i64 n::.int .i64 j::_) =>
   match D3 J m with
   |some (_,_,es)=>if(es.length:Int)=n then
     match es[j.toNat]? with
     |some (.cS [k,v])=>some (.cS [k,v],J)
     |_=>none
    else none
   |none=>none
  |_=>none
 |_,_=>none
def strCells(s:List UInt8):List D:=s.map λb => .int .u8 b.toNat
def elems(J:SK)(w:Nat):D->Option (Nat×List D)
 |.bB=>some (0,[])
 |.str s=>if w=1 then some (s.length,strCells s)else none
 |.bZ n cs=>if cs.length=n*w then some (n,cs)else none
 |.sl l i v off n w' =>
  if w'=w then
   match cells? J l i v with
   |some cs=>if off+n*w<=cs.length then some (n,(cs.drop off).take (n*w))else none
   |none=>none
  else none
 |_=>none
def yN:List D->Option (List UInt8)
 |[]=>some []
 |.int .u8 n::r=>(yN r).map (UInt8.ofNat n.toNat :: ·)
 |_=>none
def Pv(J:SK):Me->List D->Option (D×SK)
 |.b2s,[.str _]=>none
 |.b2s,[x]=>(elems J 1 x).bind λr=>(yN r.2).map λs=>(.str s,J)
 |.s2b,[.str s]=>some (.bZ s.length (strCells s),J)
 |.s2a n w,[.bZ m cs]=>if 0<n/\n<=m then some (.bq (cs.take (n*w)),J)else none
 |.peq neg,[.ref l i v o,.ref l' i' v' o']=>if l=l'/\i=i'/\o=o'/\v=v'/\(cells? J l i v).isSome then some (.bool (!neg),J)else none
 |_,_=>none
def room:Nat:=2^46
def jT:List (Nat×Nat)->List D->SK->Option (List D×SK)
 |[],cs,J=>some (cs,J)
 |(p,w)::r,cs,J =>
  match cs[p]? with
  |some .bB=>do
   let (l,i,J')<-fT J (.cells 0 [])
   jT r (cs.set p (.sl l i 0 0 0 w)) J'
  |_=>jT r cs J
def pL(e:Env)(v a:Nat):Option (Nat×List D×Nat) :=
 match get e v with
 |.own s cs =>
  if a=v then some (s,cs,0)else
  match get e a with
  |.vr x s' off=>if x=v/\s'=s then some (s,cs,off)else none
  |_=>none
 |_=>none
def uj(e:Env)(v:Nat):Nat :=
 match get e v with
 |.own s _=>s+1
 |_=>0
def I1(J:SK):D->Option (List D)
 |.bq cs=>some cs
 |.ref l i v off=>(cells? J l i v).map (·.drop off)
 |_=>none
def W0(J:SK):D->Option (List D)
 |.ref l i 0 off=>I1 J (.ref l i 0 off)
 |_=>none
def MA(ps:Bool)(d:D):Option Bool :=
 match ps,d with
 |true,.zV=>some true
 |true,.bq _=>some false
 |true,.ref .. => some false
 |false,.bB=>some true
 |false,.bZ n _=>if n=0 then none else some false
 |false,.sl _ _ _ _ n _=>if n=0 then none else some false
 |_,_=>none
def Tz(t:Nat)(z:Option D):D->Option D
 |.ua t' d=>match z with
  |some z=>some (if t'=t then .cS [d,.bool true]else .cS [z,.bool false])
  |none=>if t'=t then some d else none
 |.mQ=>z.map λz => .cS [z,.bool false]
 |_=>none
def Y7:D->Option Bool
 |.mQ=>some true
 |.ua .. => some false
 |_=>none
def D.off(l i:Nat):D->Bool
 |.ref l' i' _ _=>decide (¬(l'=l/\i'=i))
 |_=>true
def Oe(e:Env)(J:SK)(w bytes:Nat)(s x:bU):Option (D×SK):=do
  let (m,xs)<-elems J w (bG e x)
  match bG e s with
  |.bB =>
   if m*bytes<=room then
    if m=0 then some (.bB,J)else do
    let (l,i,J')<-fT J (.cells 0 xs)
    some (.sl l i 0 0 m w,J')
   else none
  |.sl l i v off n w' =>
   match cells? J l i v with
   |some cs =>
    if w'=w/\off+n*w<=cs.length/\(n+m)*bytes<=room then
     if l+1=J.length then
      some (.sl l i (v+1) 0 (n+m) w,bw J l i (.cells (v+1) ((cs.drop off).take (n*w)++xs)))
     else
      let r:=cK.frzL (cK l deep) xs J
      some (.sl l i (v+1) 0 (n+m) w,bw r.2 l i (.cells (v+1) ((cs.drop off).take (n*w)++r.1)))
    else none
   |none=>none
  |_=>none
def bY(e:Env)(J:SK):K->Option (D×SK)
 |.mv x=>some (bG e x,J)
 |.LL w=>do
  let (l,i,J')<-fT J (.cells 0 [])
  some (.sl l i 0 0 0 w,J')
 |.pick c a b =>
  match bG e c with
  |.bool t=>some (if t then bG e a else bG e b,J)
  |_=>none
 |.Un nb cs=>do
  let (cs',J1)<-jT nb cs J
  let (l,i,J')<-fT J1 (.cells 0 cs')
  some (.ref l i 0 0,J')
 |.Mq x=>(bG e x).cells.map λcs=>(.bq cs,J)
 |.Mr x=>do
  let cs<-(bG e x).cells
  let (l,i,J')<-fT J (.cells 0 cs)
  some (.ref l i 0 0,J')
 |.bxn nb x=>do
  let cs<-(bG e x).cells
  let (cs',J1)<-jT nb cs J
  let (l,i,J')<-fT J1 (.cells 0 cs')
  some (.ref l i 0 0,J')
 |.CV .. => none
 |.GD _=>none
 |.Je .. => none
 |.WZ v ag sz a =>
  match pL e v a with
  |some (_,cs,off) =>
   let cs:=cs.drop off
   if sz<=cs.length then
    if ag then some (.agg (cs.take sz),J)else
    match cs with
    |d::_=>some (d,J)
    |[]=>none
   else none
  |none=>none
 |.Mp zero parts=>do
  let cs<-iB e parts zero
  some (.agg cs,J)
 |.bsi n _ zero parts=>do
  let cs<-iB e parts zero
  some (.bZ n cs,J)
 |.YB n w zero parts=>do
  let cs<-iB e parts zero
  let (l,i,J')<-fT J (.cells 0 cs)
  some (.sl l i 0 0 n w,J')
 |.ld ag sz a =>
  match I1 J (bG e a)with
  |some cs =>
   if sz<=cs.length then
    if ag then some (.agg (cs.take sz),J)else
    match cs with
    |d::_=>some (d,J)
    |[]=>none
   else none
  |none=>none
 |.WX ag sz a =>
  match W0 J (bG e a)with
  |some cs =>
   if sz<=cs.length then
    if ag then some (.agg (cs.take sz),J)else
    match cs with
    |d::_=>some (d,J)
    |[]=>none
   else none
  |none=>none
 |.WY ag sz a =>
  match bG e a with
  |.bq cs =>
   if sz<=cs.length then
    if ag then some (.agg (cs.take sz),J)else
    match cs with
    |d::_=>some (d,J)
    |[]=>none
   else none
  |_=>none
 |.isn ps neg x=>(MA ps (bG e x)).map λb=>(.bool (if neg then !b else b),J)
 |.nck x =>
  match bG e x with
  |.bq cs=>some (.bq cs,J)
  |.ref l i v off=>some (.ref l i v off,J)
  |_=>none
 |.st nb sz a x =>
  match bG e a with
  |.ref l i v off =>
   match cells? J l i v with
   |some cs =>
    match(bG e x).cells with
    |some p =>
     if p.length=sz/\off+sz<=cs.length then
      if l+1=J.length then
       match jT nb p J with
       |some (p',J1)=>some (.undef,bw J1 l i (.cells v (cs.take off++p'++cs.drop (off+sz))))
       |none=>none
      else
       let r:=cK.frzL (cK l deep) p J
       some (.undef,bw r.2 l i (.cells v (cs.take off++r.1++cs.drop (off+sz))))
     else none
    |none=>none
   |none=>none
  |_=>none
 |.RL os sz a x =>
  match bG e a with
  |.ref l i v off =>
   if(os.all λt=>D.off l i (get e t))=true then
    match cells? J l i v with
    |some cs =>
     match(bG e x).cells with
     |some p =>
      if p.length=sz/\off+sz<=cs.length/\(D.bh p=true\/l+1=J.length)then some (.undef,bw J l i (.cells v (cs.take off++p++cs.drop (off+sz))))else none
     |none=>none
    |none=>none
   else none
  |_=>none
 |.bin o x y=>(sU o (bG e x) (bG e y)).map (·,J)
 |.eqv ag ks neg x y =>
  match(bG e x).row ag,(bG e y).row ag with
  |some p,some q=>(C5 ks p q).map λb=>(.bool (if neg then !b else b),J)
  |_,_=>none
 |.un o x =>
  match o,bG e x with
  |.not,.bool b=>some (.bool !b,J)
  |.neg,.int k n=>some (.int k (k.wrap (0-n)),J)
  |.xor,.int k n=>some (.int k (k.wrap ((BitVec.ofInt k.bits (if k.signed then -1 else k.max) ^^^ BitVec.ofInt k.bits n).toNat:Int)),J)
  |_,_=>none
 |.YI k x =>
  match bG e x with
  |.int _ n=>some (.int k (k.wrap n),J)
  |_=>none
 |.Zp f first cap=>some (.fn f (first.map (bG e)) (cap.map (bG e)),J)
 |.mks w bytes zero l c =>
  match bG e l,bG e c with
  |.int .i64 n,.int .i64 m =>
   if 0<=n/\n=m/\n*bytes<=(room:Int)/\zero.length=w then do
    let (l,i,J')<-fT J (.cells 0 (fM (List.range n.toNat) λ_=>zero))
    some (.sl l i 0 0 n.toNat w,J')
   else none
  |_,_=>none
 |.W3 w x lo hi mx =>
  match bG e x with
  |.bZ n cs=>(bounds n e lo hi mx).map λb=>(.bZ (b.2-b.1) ((cs.drop (b.1*w)).take ((b.2-b.1)*w)),J)
  |.sl l i v off n w'=>if w'=w then(bounds n e lo hi mx).map λb=>(.sl l i v (off+b.1*w) (b.2-b.1) w,J)else none
  |.bB=>(bounds 0 e lo hi mx).map λ_=>(.bB,J)
  |_=>none
 |.Tj len w x lo hi =>
  match bG e x with
  |.bq cs=>(bounds len e lo hi none).map λb=>(.bZ (b.2-b.1) ((cs.drop (b.1*w)).take ((b.2-b.1)*w)),J)
  |.ref l i v off =>
   match cells? J l i v with
   |some cs=>if len<=1000000/\off+len*w<=cs.length then(bounds len e lo hi none).map λb=>(.sl l i v (off+b.1*w) (b.2-b.1) w,J)else none
   |none=>none
  |_=>none
 |.Mt off x =>
  match x with
  |.t n =>
   match get e n with
   |.bq cs=>some (.bq (cs.drop off),J)
   |.ref l i v o=>some (.ref l i v (o+off),J)
   |.own s _=>some (.vr n s off,J)
   |.vr v s o=>some (.vr v s (o+off),J)
   |_=>none
  |.c _=>none
 |.fld ag off sz x =>
  match bG e x with
  |.agg cs =>
   if off+sz<=cs.length then
    if ag then some (.agg ((cs.drop off).take sz),J)else(cs[off]?).map (·,J)
   else none
  |_=>none
 |.My len w x i =>
  match x,HP (bG e i)with
  |.t m,some n =>
   if 0<=n/\n<len then
    match get e m with
    |.bq cs=>some (.bq ((cs.drop (n.toNat*w)).take w),J)
    |.ref l j v off=>some (.ref l j v (off+n.toNat*w),J)
    |.own s _=>some (.vr m s (n.toNat*w),J)
    |.vr v s o=>some (.vr v s (o+n.toNat*w),J)
    |_=>none
   else none
  |_,_=>none
 |.IQ w x i =>
  match bG e x,HP (bG e i)with
  |.bZ m cs,some n=>if 0<=n/\n<m then some (.bq ((cs.drop (n.toNat*w)).take w),J)else none
  |.sl l j v off m w',some n=>if 0<=n/\n<m/\w'=w then some (.ref l j v (off+n.toNat*w),J)else none
  |_,_=>none
 |.OF ag len w x i =>
  match bG e x,HP (bG e i)with
  |.agg cs,some n =>
   if 0<=n/\n<len/\(n.toNat+1)*w<=cs.length then
    if ag then some (.agg ((cs.drop (n.toNat*w)).take w),J)else(cs[n.toNat*w]?).map (·,J)
   else none
  |_,_=>none
 |.MB x =>
  match bG e x with
  |.bB=>some (.int .i64 0,J)
  |.bZ n _=>some (.int .i64 n,J)
  |.sl _ _ _ _ n _=>some (.int .i64 n,J)
  |_=>none
 |.SU n=>some (.int .i64 n,J)
 |.mn x y =>
  match bG e x,bG e y with
  |.int k a,.int _ b=>some (.int k (min a b),J)
  |_,_=>none
 |.mx x y =>
  match bG e x,bG e y with
  |.int k a,.int _ b=>some (.int k (max a b),J)
  |_,_=>none
 |.app w bytes s x=>do
  let (m,xs)<-elems J w (bG e x)
  match bG e s with
  |.bB =>
   if m*bytes<=room then
    if m=0 then some (.bB,J)else do
    let (l,i,J')<-fT J (.cells 0 xs)
    some (.sl l i 0 0 m w,J')
   else none
  |.sl l i v off n w' =>
   match cells? J l i v with
   |some cs =>
    if w'=w/\off+n*w<=cs.length/\(n+m)*bytes<=room then
     if l+1=J.length then
      some (.sl l i (v+1) 0 (n+m) w,bw J l i (.cells (v+1) ((cs.drop off).take (n*w)++xs)))
     else
      let r:=cK.frzL (cK l deep) xs J
      some (.sl l i (v+1) 0 (n+m) w,bw r.2 l i (.cells (v+1) ((cs.drop off).take (n*w)++r.1)))
    else none
   |none=>none
  |_=>none
 |.VP os w bytes s x =>
  match bG e s with
  |.sl l i _ _ _ _=>if(os.all λt=>D.off l i (get e t))=true then(elems J w (bG e x)).bind λr=>if D.bh r.2=true then Oe e J w bytes s x else none else none
  |_=>none
 |.apz w bytes s x=>(Oe e J w bytes s x).map λr=>cK 0 deep r.1 r.2
 |.cpi w bytes x=>do
  let (m,xs)<-elems J w (bG e x)
  if m*bytes<=room then some (.bZ m xs,J)else none
 |.cvz x =>
  match bG e x with
  |.sl l i v off n w =>
   if 0<n then
    match cells? J l i v with
    |some cs=>some (.bZ n ((cs.drop off).take (n*w)),bw J l i .dead)
    |none=>none
   else none
  |_=>none
 |.bse=>some (.emp,J)
 |.ape w bytes v x =>
  match get e v with
  |.emp=>(elems J w (bG e x)).bind λr=>if r.1*bytes<=room then some (.bZ r.1 r.2,J)else none
  |_=>none
 |.ext x i =>
  match bG e x with
  |.cS ds=>(ds[i]?).map (·,J)
  |_=>none
 |.Is o xs=>(fO o (xs.map (bG e))).map (·,J)
 |.mp o xs=>DY J o (xs.map (bG e))
 |.me o xs=>Pv J o (xs.map (bG e))
 |.Zq t x=>some (.ua t (bG e x),J)
 |.tas t z x=>(Tz t z (bG e x)).map (·,J)
 |.isi neg x=>(Y7 (bG e x)).map λb=>(.bool (if neg then !b else b),J)
 |.ZE _=>none
 |.RX=>none
 |.call _ _ _=>none
def R.dG:Option R->Option (D×SK)
 |some (.val d J)=>some (d,J)
 |_=>none
def R.VX:Option R->Option (Exit×Env×SK)
 |some (.FU e env J)=>some (e,env,J)
 |_=>none
def nG(O:cn)(kp:Bool)(fv:D)(args:List D)(J:SK):Option (D×SK) :=
 match fv with
 |.fn f first cap=>R.dG (O (.call kp f (first++args++cap) J))
 |.jg l i=>R.dG (O (.round l i args J))
 |_=>none
def Ju(O:cn)(fv:D)(args:List D)(J:SK):Option (D×SK) :=
 match fv with
 |.fn f first cap=>R.dG (O (.call false f (first++args++cap) J))
 |_=>none
def xe(O:cn)(op:Op)(e:Env)(J:SK):Option (Env×SK) :=
 match op.k with
 |.call kp f args =>
  match nG O kp (bG e f) (args.map (bG e)) J with
  |some (d,J')=>if op.DZ=true->J'=J then some (put op.dst d e,J')else none
  |none=>none
 |.CV nb cs =>
  match op.dst,jT nb cs J with
  |some v,some (cs',J')=>some ((v,.own (uj e v) cs')::e,J')
  |_,_=>none
 |.GD x =>
  match op.dst,(bG e x).cells with
  |some v,some cs=>some ((v,.own (uj e v) cs)::e,J)
  |_,_=>none
 |.Je v nb sz a x =>
  match pL e v a,(bG e x).cells with
  |some (s,cs,off),some p =>
   if p.length=sz/\off+sz<=cs.length then
    match jT nb p J with
    |some (p',J')=>some ((v,.own s (cs.take off++p'++cs.drop (off+sz)))::e,J')
    |none=>none
   else none
  |_,_=>none
 |k=>(bY e J k).map λx=>(put op.dst x.1 e,x.2)
def D.bit:D->Option (Option Bool)
 |.bool b=>some (some b)
 |.cS []=>some none
 |_=>none
def kO(O:cn):List Op->Env->SK->Option (Env×SK)
 |[],e,J=>some (e,J)
 |op::r,e,J =>
  match op.GJ with
  |none=>(xe O op e J).bind λx=>kO O r x.1 x.2
  |some (g,want) =>
   match(get e g).bit with
   |some y=>if y=some want then(xe O op e J).bind λx=>kO O r x.1 x.2 else kO O r (put op.dst (.cS []) e) J
   |none=>none
def D.pO:D->D
 |.bB => .bZ 0 []
 |d=>d
def HI(l i u:Nat)(J:SK):D×SK :=
 match cells? J l i u with
 |some cs=>let r:=cK.frzL (cK 0 deep) cs (bw J l i .dead);(.bq (r.1.map D.pO),r.2)
 |none=>(.undef,J)
def acv(v:Nat)(e:Env):Env :=
 match get e v with
 |.own _ cs=>if e.all (λp=>match p.2 with | .vr x _ _=>x != v | _=>true)then(v,.bq cs)::e else e
 |_=>e
def Mw(v:Nat)(e:Env)(J:SK):Env×SK :=
 match get e v with
 |.bB=>((v,.bZ 0 [])::e,J)
 |.ref l i u 0=>let r:=HI l i u J;((v,r.1)::e,r.2)
 |.own s cs=>((v,.own s (cs.map D.pO))::e,J)
 |.undef=>if 1000000<=v then(acv (v-1000000) e,J)else(e,J)
 |_=>(e,J)
def vu:List Nat->Env->SK->Env×SK
 |[],e,J=>(e,J)
 |v::vs,e,J =>
  match get e v with
  |.sl l i u off m w=>let r:=cK 0 deep (.sl l i u off m w) J;vu vs ((v,r.1)::e) r.2
  |.own s cs=>let r:=cK.frzL (cK 0 deep) cs J;vu vs ((v,.own s r.1)::e) r.2
  |.agg cs=>vu vs ((v,.agg (cs.map D.pO))::e) J
  |.undef=>if 1000000<=v then(let r:=Mw (v-1000000) e J;vu vs r.1 r.2)else vu vs e J
  |_=>vu vs e J
def DH(O:cn)(fv:D)(args:List D)(J:SK):Option R :=
 match fv with
 |.fn f first cap=>O (.call false f (first++args++cap) J)
 |_=>none
def uw(O:cn)(live:List Nat)(dst:Option Nat)(post:List Op)(e:Env):Option R->Option (Exit×Env×SK)
 |some (.val d J')=>(kO O post (put dst d e) J').map λy=>(.normal,restrict live y.1,y.2)
 |some (.fy d J')=>some (.fy d,e,J')
 |_=>none
def J2(O:cn)(live:List Nat)(op:Op)(post:List Op)(e:Env)(J:SK):Option (Exit×Env×SK) :=
 match op.GJ,op.k with
 |none,.call false f args=>uw O live op.dst post e (DH O (bG e f) (args.map (bG e)) J)
 |none,.ZE x=>(match bG e x with
  |.ua t d=>if d.clean then some (.fy (.ua t d),e,J)else none
  |_=>none)
 |_,_=>none
def bA(O:cn):cb->Env->SK->Option (Exit×Env×SK)
 |.Ko,e,J=>some (.normal,e,J)
 |.cK vs,e,J=>let r:=vu vs e J;some (.normal,r.1,r.2)
 |.rM live ops,e,J=>(kO O ops e J).map λx=>(.normal,restrict live x.1,x.2)
 |.seq a b,e,J=>(bA O a e J).bind λx =>
  match x.1 with
  |.normal=>bA O b x.2.1 x.2.2
  |_=>some x
 |.ite c a b,e,J =>
  match bG e c with
  |.bool t=>if t then bA O a e J else bA O b e J
  |_=>none
 |.dR id a,e,J=>(bA O a e J).map λx =>
  match x.1 with
  |.exit j=>if j=id then(.normal,x.2)else x
  |_=>x
 |.loop live bC a,e,J=>R.VX (O (.loop live bC a e J))
 |.ME live f params BY body,e,J =>
  match fT J (.loop {state:=0,xC:=none,env:=Ac live e,params,BY,body })with
  |some (l,i,J1) =>
   match Ju O (bG e f) [.jg l i] J1 with
   |some (_,J2) =>
    match ef J2 l i with
    |some (.loop lp) =>
     if lp.state=1 then none else
     some (lp.xC.getD .normal,restrict live e,bw J2 l i (.loop {lp with state:=3 }))
    |_=>none
   |none=>none
  |none=>none
 |.gX live it nx ok b a rest,e,J=>R.VX (O (.gX live it nx ok b a rest e J))
 |.RQ live pre op post,e,J=>(kO O pre e J).bind λx=>J2 O live op post x.1 x.2
 |.VY ..,_,_=>none
 |.sgm a,e,J=>(bA O a e ([]::J)).map λx=>(x.1,(nM (J.length-1) (restrict (keys x.2.1) x.2.1) x.2.2).1,(nM (J.length-1) (restrict (keys x.2.1) x.2.1) x.2.2).2.tail)
 |.exit id,e,J=>some (.exit id,e,J)
 |.ret,e,J=>some (.ret,e,J)
inductive G2 where
 |t (n:Nat)
 |c (n:Nat) (ag:Bool) (sz:Nat)
 |v (n:Nat) (ag:Bool) (sz:Nat)
structure Fn where
 S4:Nat
 res:List G2
 body:cb
def LW(e:Env)(J:SK):G2->Option D
 |.t n=>some (get e n).strip
 |.c n ag sz=>(bY e J (.ld ag sz (.t n))).map (·.1)
 |.v n ag sz=>(bY e J (.WZ n ag sz n)).map (·.1)
def CG(e:Env)(J:SK):List G2->Option (List D)
 |[]=>some []
 |r::rs=>(LW e J r).bind λd=>(CG e J rs).map λds=>d::ds
def ub:List D->D
 |[d]=>d
 |ds => .cS ds
def kU(n:Nat):List D->Env
 |[]=>[]
 |d::ds=>(n,d)::kU (n+1) ds
def Du:List Nat->List D->Env->Env
 |t::ts,d::ds,e=>Du ts ds ((t,d)::e)
 |_,_,e=>e
abbrev CL:=Nat->Option Fn
def Y6:List D->Option (List Int)
 |[]=>some []
 |.int .i64 z::r=>(Y6 r).map (z :: ·)
 |_=>none
def ab1(x:Int):List Int->List Int
 |[]=>[x]
 |y::l=>if x<=y then x::y::l else y::ab1 x l
def Vb:List Int->List Int
 |[]=>[]
 |x::l=>ab1 x (Vb l)
def Y4(l:List Int):List D:=l.map (.int .i64)
def Qr(x:Int):List Int->List Int
 |[]=>[]
 |y::l=>if y=x then Qr x l else y::Qr y l
def M8:List Int->List Int
 |[]=>[]
 |x::l=>x::Qr x l
def Zu(k:Nat)(zs:List Int):List Int:=if k=1 then Vb zs else M8 zs++List.replicate (zs.length-(M8 zs).length) 0
def afC(k l i v off:Nat)(zs:List Int):D:=if k=1 then .cS []else .sl l i v off (M8 zs).length 1
def aiQ(k:Nat)(args:List D)(J:SK):Option R :=
 match args with
 |[.sl l i v off n w] =>
  if n≠0/\w=1/\n<=1000000 then
   match cells? J l i v with
   |some cs =>
    if off+n<=cs.length then
     match Y6 ((cs.drop off).take n)with
     |some zs=>some (.val (afC k l i v off zs) (bw J l i (.cells v (cs.take off++Y4 (Zu k zs)++cs.drop (off+n)))))
     |none=>none
    else none
   |none=>none
  else none
 |_=>none
def sV:Nat->Nat->List UInt8
 |0,_=>[]
 |k+1,u=>if u<10 then [UInt8.ofNat (48+u)]else sV k (u / 10)++[UInt8.ofNat (48+u%10)]
def gW(n:Int):List UInt8:=if n<0 then 45::sV 20 n.natAbs else sV 20 n.toNat
def xD:List D->Option (List (List UInt8))
 |[]=>some []
 |.str s::r=>(xD r).map (s :: ·)
 |_=>none
def yg(sep:List UInt8):List (List UInt8)->List UInt8
 |[]=>[]
 |x::r=>x++fM r (sep ++ ·)
def dB(b:UInt8):List UInt8->List (List UInt8)
 |[]=>[[]]
 |c::r=>if c=b then []::dB b r else match dB b r with
  |x::l=>(c::x)::l
  |[]=>[[c]]
def qX(s:List UInt8):Nat×Int :=
 match Lib.atoiAll s with
 |.ok v=>(0,v)
 |Lib.NumEnd.syntax=>(1,0)
 |.range=>(2,Lib.atoiSat s)
def Bs(a b:Nat)(xs:List (List UInt8)):List (List UInt8):=xs.take a++xs.drop b++List.replicate (b-a) []
def EU(k:Nat)(args:List D)(J:SK):Option R :=
 match k%16,args with
 |3,[.int .i64 n]=>if -9223372036854775808<=n/\n<=9223372036854775807 then some (.val (.str (gW n)) J)else none
 |4,[.str s]=>if s.length<=1000000 then some (.val (.cS [.int .i64 (qX s).2,if(qX s).1=0 then .mQ else .ua (k / 16) .undef]) J)else none
 |5,[.bZ n cs,.str sep] =>
  match xD cs with
  |some xs=>if n=xs.length/\n<=1000/\(yg sep xs).length<=1000000 then some (.val (.str (yg sep xs)) J)else none
  |none=>none
 |6,[.str s,.str [b]]=>if s.length<=1000000 then some (.val (.bZ (dB b s).length ((dB b s).map .str)) J)else none
 |7,[.jg l i,.str s] =>
  match cells? J l i 2 with
  |some [.int .i64 t,.int .i64 e,.str bs] =>
   if t=((k / 16%65536:Nat):Int)/\e=((k / 16 / 65536:Nat):Int)/\bs.length+s.length<=1000000 then
    some (.val (.cS [.int .i64 s.length,.mQ]) (bw J l i (.cells 2 [.int .i64 t,.int .i64 e,.str (bs++s)])))
   else none
  |_=>none
 |8,[.jg l i] =>
  match cells? J l i 2 with
  |some [.int .i64 t,.int .i64 e,.str bs]=>if t=((k / 16%65536:Nat):Int)/\e=((k / 16 / 65536:Nat):Int)/\bs≠[]then some (.val (.str bs) J)else none
  |_=>none
 |9,[.sl l i v off n w,.int .i64 a,.int .i64 b] =>
  if n≠0/\w=1/\n<=1000000/\0<=a/\a<=b/\b<=(n:Int)then
   match cells? J l i v with
   |some cs =>
    if off+n<=cs.length then
     match xD ((cs.drop off).take n)with
     |some xs=>some (.val (.sl l i v off (n-(b.toNat-a.toNat)) 1) (bw J l i (.cells v (cs.take off++(Bs a.toNat b.toNat xs).map .str++cs.drop (off+n)))))
     |none=>none
    else none
   |none=>none
  else none
 |0,_=>none
 |9,_=>none
 |10,_=>none
 |11,_=>none
 |12,_=>none
 |13,_=>none
 |14,_=>none
 |15,_=>none
 |1,args=>aiQ 1 args J
 |2,args=>aiQ 2 args J
 |_,_=>none
def JO(J:SK)(l i:Nat):Option (D×Nat×List D×List Nat) :=
 match cells? J l i 1 with
 |some (m::.int .i64 n::js) =>
  match D3 J m with
  |some (_,_,es)=>if(es.length:Int)=n then some (m,es.length,js,(List.range es.length).filter λj => !(js.contains (.int .i64 j)))else none
  |none=>none
 |_=>none
def Eb:List (Option R)->Option R
 |[]=>none
 |r::rs=>if ∀x∈rs,x=r then r else none
def zO(O:cn)(l i b:Nat)(rest:cb):Option (Exit×Env×SK)->Option R
 |some (.exit j,e1,J1) =>
  if j=b then(bA O rest e1 (bw J1 l i .dead)).map λx => .FU x.1 x.2.1 x.2.2
  else some (.FU (.exit j) e1 (bw J1 l i .dead))
 |some (.ret,e1,J1)=>some (.FU .ret e1 (bw J1 l i .dead))
 |_=>none
def DX(O:cn)(live:List Nat)(it:bU)(l i nx ok b:Nat)(c rest:cb):Option (Exit×Env×SK)->Option R
 |some (.normal,e1,J1)=>O (.gX live it nx ok b c rest e1 J1)
 |y=>zO O l i b rest y
def ie:cb->Option (cb×bU×List bU×cb)
 |.VY f args q=>some (.Ko,f,args,q)
 |.seq a b=>(ie b).map λx=>(.seq a x.1,x.2)
 |_=>none
def TA(kp:Bool)(d:D):SK->Option R
 |_::J=>if kp=false/\d.clean=true then some (.fy d J)else none
 |[]=>none
def leave(res:List G2)(J:SK)(e:Env)(J1:SK):Option R :=
 match CG e J1 res with
 |some ds=>(match cK (J.length-1) deep (ub ds) J1 with
  |(d,_::J2)=>some (.val d J2)
  |_=>none)
 |none=>none
def oK(O:cn)(fv:D)(args:List D)(th:Option D)(J:SK):Option R :=
 match fv with
 |.fn f first cap=>O (.Ar f (first++args++cap) th J)
 |_=>none
def uU(res:List G2)(J:SK)(e:Env):Option R->Option R
 |some (.val _ J1)=>leave res J e J1
 |_=>none
def B9(O:cn)(res:List G2)(J:SK)(fv:D)(args:List D):Option (Exit×Env×SK)->Option R
 |some (.fy d,e,J1)=>uU res J e (oK O fv args (some d) J1)
 |some (.normal,e,J1)=>uU res J e (oK O fv args none J1)
 |some (.ret,e,J1)=>uU res J e (oK O fv args none J1)
 |_=>none
def B8(O:cn)(fn:Fn)(J:SK):Option (cb×bU×List bU×cb)->Env->SK->Option R
 |some (a,f,args,q),e0,J0 =>
  (match bA O a e0 J0 with
  |some (.normal,e,J1)=>B9 O fn.res J (bG e f) (args.map (bG e)) (bA O q e J1)
  |_=>none)
 |none,_,_=>none
def qU(th:Option D)(args:List D):cb->Option (Env×cb)
 |.seq (.rM live [⟨some t,none,_,.RX⟩]) q=>(match q with
  |.gX .. => none
  |q=>some (restrict live ((t,th.getD .mQ)::kU 0 args),q))
 |_=>none
def dM(T:CL)(O:cn):Q->Option R
 |.call kp f args J =>
  match T f with
  |some fn =>
   if args.length=fn.S4 then
    match bA O fn.body (kU 0 args) (if kp then J else []::J)with
    |some (.exit _,_,_)=>none
    |some (.fy d,_,J1)=>TA kp d J1
    |some (_,e,J1) =>
     match CG e J1 fn.res with
     |some ds =>
      if kp then some (.val (ub ds) J1)else
      match cK (J.length-1) deep (ub ds) J1 with
      |(d,_::J2)=>some (.val d J2)
      |_=>none
     |none=>none
    |none=>if kp then none else B8 O fn J (ie fn.body) (kU 0 args) ([]::J)
   else none
  |none =>
   match T (1000000+f)with
   |some fn=>EU fn.S4 args J
   |none=>none
 |.loop live bC c e J =>
  match bA O c (restrict live e) (if bC then []::J else J)with
  |some (x,e1,J1) =>
   let (e2,J2):=if bC then(let r:=nM (J.length-1) (restrict (BW live x e1) e1) J1;(r.1,r.2.tail))else(e1,J1)
   match x with
   |.normal=>O (.loop live bC c e2 J2)
   |x=>some (.FU x e2 J2)
  |none=>none
 |.round l i args J =>
  match ef J l i with
  |some (.loop lp) =>
   if args.length=lp.params.length then
    match bA O lp.BY (Du lp.params args lp.env) ([]::J)with
    |some (.normal,e1,J1) =>
     match ef J1 l i with
     |some (.loop lp1) =>
      if lp1.state=0 then
       match bA O lp.body e1 (bw J1 l i (.loop {lp1 with state:=1 }))with
       |some (x,_,_::J2) =>
        match ef J2 l i with
        |some (.loop lp2) =>
         match x with
         |.fy _=>none
         |.normal=>some (.val (.bool true) (bw J2 l i (.loop {lp2 with state:=0,xC:=none })))
         |x=>some (.val (.bool false) (bw J2 l i (.loop {lp2 with state:=2,xC:=some x })))
        |_=>none
       |_=>none
      else none
     |_=>none
    |_=>none
   else none
  |_=>none
 |.gX live it nx ok b c rest e J =>
  match bG (restrict live e) it with
  |.jg l i =>
   match JO J l i with
   |some (_,_,_,[])=>zO O l i b rest (bA O c ((ok,.bool false)::(nx,.undef)::restrict live e) J)
   |some (m,n,js,us)=>Eb (us.map λu=>DX O live it l i nx ok b c rest (bA O c ((ok,.bool true)::(nx,.undef)::restrict live e) (bw J l i (.cells 1 (m::.int .i64 (n:Nat)::.int .i64 (u:Nat)::js)))))
   |none=>none
  |_=>none
 |.Ar f args th J =>
  match T f with
  |some fn =>
   if args.length=fn.S4 then
    match qU th args fn.body with
    |some (e0,q) =>
     match bA O q e0 ([]::J)with
     |some (.exit _,_,_)=>none
     |some (.fy _,_,_)=>none
     |some (_,e,J1) =>
      match CG e J1 fn.res,J1 with
      |some [],_::J2=>some (.val (.cS []) J2)
      |_,_=>none
     |none=>none
    |none=>none
   else none
  |none=>none
def it(T:CL):Nat->cn
 |0=>λ_=>none
 |n+1=>dM T (it T n)
open Classical in
noncomputable def di(T:CL):cn:=λq =>
 if h:∃n r,it T n q=some r then some h.choose_spec.choose else none
