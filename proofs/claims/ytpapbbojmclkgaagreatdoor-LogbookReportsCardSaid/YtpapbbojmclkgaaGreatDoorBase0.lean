import GoSem.Core.View
import Derived.Lib.AtoiAll
set_option linter.all false
namespace Go
theorem ad:type_of%@Option.map_eq_some_iff:=@Option.map_eq_some_iff
theorem ae:type_of%@Option.some.injEq:=@Option.some.injEq
theorem af:type_of%@Bool.and_eq_true:=@Bool.and_eq_true
theorem ak:type_of%@Option.bind_eq_some_iff:=@Option.bind_eq_some_iff
theorem aM:type_of%@List.map_cons:=@List.map_cons
theorem aj:type_of%@List.mem_of_getElem?:=@List.mem_of_getElem?
theorem ah:type_of%@List.take_of_length_le:=@List.take_of_length_le
theorem ar:type_of%@Prod.mk.injEq:=@Prod.mk.injEq
theorem bW:type_of%@List.map_nil:=@List.map_nil
theorem aA:type_of%@decide_eq_true_eq:=@decide_eq_true_eq
theorem aD:type_of%@Bool.false_eq_true:=@Bool.false_eq_true
theorem aI:type_of%@Option.ite_none_right_eq_some:=@Option.ite_none_right_eq_some
theorem aC:type_of%@List.getElem?_eq_some_iff:=@List.getElem?_eq_some_iff
theorem an:type_of%@List.drop_eq_nil_of_le:=@List.drop_eq_nil_of_le
theorem aN:type_of%@Nat.le_refl:=@Nat.le_refl
theorem aE:type_of%@List.length_cons:=@List.length_cons
theorem aJ:type_of%@List.getElem?_eq_getElem:=@List.getElem?_eq_getElem
theorem aV:type_of%@Option.bind_eq_bind:=@Option.bind_eq_bind
theorem aB:type_of%@List.drop_zero:=@List.drop_zero
theorem aZ:type_of%@Option.map_some:=@Option.map_some
theorem aH:type_of%@List.length_pos_iff:=@List.length_pos_iff
theorem aW:type_of%@List.nil_append:=@List.nil_append
theorem SQ:type_of%@List.flatMap_cons:=@List.flatMap_cons
theorem bx:type_of%@List.mem_cons:=@List.mem_cons
theorem aU:type_of%@List.mem_append:=@List.mem_append
theorem aO:type_of%@Int.tdiv_eq_ediv_of_nonneg:=@Int.tdiv_eq_ediv_of_nonneg
theorem aY:type_of%@List.length_nil:=@List.length_nil
theorem bI:type_of%@List.mem_map:=@List.mem_map
theorem aT:type_of%@List.length_append:=@List.length_append
theorem bu:type_of%@List.length_eq_zero_iff:=@List.length_eq_zero_iff
theorem cj:type_of%@Bool.or_eq_true:=@Bool.or_eq_true
theorem cF:type_of%@Array.getD_eq_getD_getElem?:=@Array.getD_eq_getD_getElem?
theorem cM:type_of%@List.getElem?_cons_zero:=@List.getElem?_cons_zero
theorem cq:type_of%@Nat.zero_add:=@Nat.zero_add
theorem cS:type_of%@List.mem_filter:=@List.mem_filter
theorem bH:type_of%@List.length_map:=@List.length_map
theorem cX:type_of%@List.drop_length_add_append:=@List.drop_length_add_append
theorem db:type_of%@Array.getElem?_eq_some_iff:=@Array.getElem?_eq_some_iff
theorem bX:type_of%@Nat.mul_one:=@Nat.mul_one
theorem cY:type_of%@Nat.mul_le_mul_right:=@Nat.mul_le_mul_right
theorem dA:type_of%@List.mem_of_mem_take:=@List.mem_of_mem_take
theorem dG:type_of%@Nat.add_assoc:=@Nat.add_assoc
theorem ak2:type_of%@List.flatMap_nil:=@List.flatMap_nil
theorem dH:type_of%@Option.isSome_iff_exists:=@Option.isSome_iff_exists
theorem ez:type_of%@List.ext_getElem?:=@List.ext_getElem?
theorem dT:type_of%@Bool.not_eq_true':=@Bool.not_eq_true'
theorem de:type_of%@List.getElem?_take:=@List.getElem?_take
theorem c9:type_of%@List.append_nil:=@List.append_nil
theorem dz:type_of%@List.mem_of_mem_drop:=@List.mem_of_mem_drop
theorem eC:type_of%@Nat.succ_mul:=@Nat.succ_mul
theorem dO:type_of%@Int.toNat_of_nonneg:=@Int.toNat_of_nonneg
theorem bz:type_of%@Int.mul_nonneg:=@Int.mul_nonneg
theorem dk:type_of%@List.singleton_append:=@List.singleton_append
theorem dN:type_of%@List.getElem?_eq_none:=@List.getElem?_eq_none
theorem eW:type_of%@Option.getD_some:=@Option.getD_some
theorem cr:type_of%@List.cons_append:=@List.cons_append
theorem fT:type_of%@Array.toList_inj:=@Array.toList_inj
theorem jn:type_of%@Nat.le_trans:=@Nat.le_trans
theorem dZ:type_of%@List.getElem?_drop:=@List.getElem?_drop
theorem ig:type_of%@Nat.add_mul:=@Nat.add_mul
theorem fU:type_of%@List.getElem?_of_mem:=@List.getElem?_of_mem
theorem dR:type_of%@Int.mul_le_mul_of_nonneg_right:=@Int.mul_le_mul_of_nonneg_right
theorem QG:type_of%@List.flatMap_append:=@List.flatMap_append
theorem jm:type_of%@List.all_cons:=@List.all_cons
theorem fC:type_of%@List.length_filter_le:=@List.length_filter_le
theorem iE:type_of%@List.getElem?_toArray:=@List.getElem?_toArray
theorem jT:type_of%@List.cons.injEq:=@List.cons.injEq
theorem eu:type_of%@Array.getElem?_modify:=@Array.getElem?_modify
theorem lP:type_of%@List.getElem?_map:=@List.getElem?_map
theorem cp:type_of%@List.append_assoc:=@List.append_assoc
theorem ju:type_of%@List.getElem?_mapIdx:=@List.getElem?_mapIdx
theorem lH:type_of%@List.getElem?_append_left:=@List.getElem?_append_left
theorem dc:type_of%@List.drop_drop:=@List.drop_drop
theorem cn:type_of%@Int.mul_le_mul:=@Int.mul_le_mul
theorem dw:type_of%@List.length_take:=@List.length_take
theorem iV:type_of%@List.all_eq_true:=@List.all_eq_true
theorem eV:type_of%@Int.le_total:=@Int.le_total
theorem gE{α:Type}{l:List α}{i:Nat}(h:i<l.length):∃x,l[i]?=some x:=⟨_,aJ h⟩
end Go
namespace Go.Abs
def fM{α β:Type _}(l:List α)(f:α->List β):List β:=l.flatMap f
@[simp] theorem mX{α β:Type _}{f:α->List β}:fM [] f=[]:=rfl
@[simp] theorem cV{α β:Type _}{a:α}{l:List α}{f:α->List β}:fM (a::l) f=f a++fM l f:=SQ
@[simp] theorem oE{α β:Type _}{l m:List α}{f:α->List β}:fM (l++m) f=fM l f++fM m f:=QG
theorem Rk{α β γ:Type _}{l:List γ}{g:γ->α}{f:α->List β}:fM (l.map g) f=fM l (λx=>f (g x)):=List.flatMap_map g f l
@[simp] theorem HW{α β:Type _}{l:List α}{f:α->List β}{b:β}:b∈fM l f↔∃a,a∈l/\b∈f a:=List.mem_flatMap
theorem Uy{α β:Type _}{l:List α}{f:α->List β}{p:β->Bool}:(fM l f).filter p=fM l λa=>(f a).filter p:=List.filter_flatMap
theorem P0{α β:Type _}{l:List α}{f:α->List β}{R:β->β->Prop}:(fM l f).Pairwise R↔(∀a∈l,(f a).Pairwise R)/\l.Pairwise λa₁ a₂=>∀x∈f a₁,∀y∈f a₂,R x y:=List.pairwise_flatMap
theorem Xf{α β γ:Type _}{l:List α}{f:α->List β}{g:β->List γ}:fM (fM l f) g=fM l λa=>fM (f a) g:=List.flatMap_assoc
theorem qG{α β:Type _}{l:List α}{f:α->List β}:(fM l f).length=(l.map λa=>(f a).length).sum:=List.length_flatMap
inductive D where
 |undef
 |bool (b:Bool)
 |int (k:IntKind) (n:Int)
 |str (s:List UInt8)
 |agg (cs:List D)
 |cN (cs:List D)
 |ze
 |ref (l i v off:Nat)
 |bg (cs:List D)
 |bA
 |bV (n:Nat) (cs:List D)
 |sl (l i v off n w:Nat)
 |fn (f:Nat) (first cap:List D)
 |pR
 |jS (l i:Nat)
 |own (s:Nat) (cs:List D)
 |vr (x s off:Nat)
 |uh (t:Nat) (d:D)
 |nJ
 |emp
 deriving Inhabited
@[reducible] def iI(n:Int):D:=.int .i64 n
@[reducible,simp] def lF{α:Type _}(l:List α)(f:α->List D):D:=.bV l.length (fM l f)
mutual
def D.same:D->D->Bool
 |.undef,.undef=>true
 |.bool a,.bool b=>a == b
 |.int k n,.int k' n'=>k == k' && n == n'
 |.str a,.str b=>a == b
 |.agg a,.agg b=>D.An a b
 |.cN a,.cN b=>D.An a b
 |.ze,.ze=>true
 |.ref a b c d,.ref a' b' c' d'=>a == a' && b == b' && c == c' && d == d'
 |.bg a,.bg b=>D.An a b
 |.bA,.bA=>true
 |.bV n a,.bV m b=>n == m && D.An a b
 |.sl a b c d e f,.sl a' b' c' d' e' f'=>a == a' && b == b' && c == c' && d == d' && e == e' && f == f'
 |.fn f a b,.fn f' a' b'=>f == f' && D.An a a' && D.An b b'
 |.pR,.pR=>true
 |.jS a b,.jS a' b'=>a == a' && b == b'
 |.own s a,.own s' b=>s == s' && D.An a b
 |.vr a b c,.vr a' b' c'=>a == a' && b == b' && c == c'
 |.uh t a,.uh t' b=>t == t' && D.same a b
 |.nJ,.nJ=>true
 |.emp,.emp=>true
 |_,_=>false
def D.An:List D->List D->Bool
 |[],[]=>true
 |a::as,b::bs=>D.same a b && D.An as bs
 |_,_=>false
end
mutual
theorem N6:∀{a b:D},D.same a b=true->a=b
 |.undef,b,h=>by cases b<;>simp[D.same]at h;rfl
 |.bool _,b,h=>by cases b<;>simp[D.same]at h;rw[h]
 |.int _ _,b,h=>by cases b<;>simp[D.same]at h;rw[h.1,h.2]
 |.str _,b,h=>by cases b<;>simp[D.same]at h;rw[h]
 |.agg _,b,h=>by cases b<;>simp[D.same]at h;rw[wC h]
 |.cN _,b,h=>by cases b<;>simp[D.same]at h;rw[wC h]
 |.ze,b,h=>by cases b<;>simp[D.same]at h;rfl
 |.ref ..,b,h=>by cases b<;>simp[D.same]at h;simp[h]
 |.bg _,b,h=>by cases b<;>simp[D.same]at h;rw[wC h]
 |.bA,b,h=>by cases b<;>simp[D.same]at h;rfl
 |.bV ..,b,h=>by cases b<;>simp[D.same]at h;rw[h.1,wC h.2]
 |.sl ..,b,h=>by cases b<;>simp[D.same]at h;simp[h]
 |.fn ..,b,h=>by cases b<;>simp[D.same]at h;rw[h.1.1,wC h.1.2,wC h.2]
 |.pR,b,h=>by cases b<;>simp[D.same]at h;rfl
 |.jS ..,b,h=>by cases b<;>simp[D.same]at h;simp[h]
 |.own ..,b,h=>by cases b<;>simp[D.same]at h;rw[h.1,wC h.2]
 |.vr ..,b,h=>by cases b<;>simp[D.same]at h;simp[h]
 |.uh _ a,b,h=>by cases b<;>simp[D.same]at h;rw[h.1,N6 h.2]
 |.nJ,b,h=>by cases b<;>simp[D.same]at h;rfl
 |.emp,b,h=>by cases b<;>simp[D.same]at h;rfl
theorem wC:∀{a b:List D},D.An a b=true->a=b
 |[],[],_=>rfl
 |[],_::_,h=>by simp[D.An]at h
 |_::_,[],h=>by simp[D.An]at h
 |a::as,b::bs,h=>by
  simp only[D.An,af]at h;rw[N6 h.1,wC h.2]
end
mutual
theorem Ib:∀(a:D),D.same a a=true
 |.undef=>rfl
 |.bool b=>by simp[D.same]
 |.int k n=>by simp[D.same]
 |.str s=>by simp[D.same]
 |.agg a=>by simp[D.same,pT a]
 |.cN a=>by simp[D.same,pT a]
 |.ze=>rfl
 |.ref .. => by simp[D.same]
 |.bg a=>by simp[D.same,pT a]
 |.bA=>rfl
 |.bV n a=>by simp[D.same,pT a]
 |.sl .. => by simp[D.same]
 |.fn f a b=>by simp[D.same,pT a,pT b]
 |.pR=>rfl
 |.jS .. => by simp[D.same]
 |.own s a=>by simp[D.same,pT a]
 |.vr .. => by simp[D.same]
 |.uh t a=>by simp[D.same,Ib a]
 |.nJ=>rfl
 |.emp=>rfl
theorem pT:∀(a:List D),D.An a a=true
 |[]=>rfl
 |a::as=>by simp[D.An,Ib a,pT as]
end
instance:DecidableEq D:=λa b=>if h:D.same a b=true then isTrue (N6 h)else isFalse λe=>h (e ▸ Ib a)
inductive bP where
 |t (n:Nat)
 |c (d:D)
 deriving Inhabited,DecidableEq
inductive Pu where
 |Qq
 |Lz
 |Yr
 |Oe (lo hi:Bool)
 |seq (neg:Bool)
 deriving Inhabited,DecidableEq
def fS:Pu->List D->Option D
 |.Qq,[.str s]=>some (.int .i64 s.length)
 |.Lz,[.str s,.int _ i]=>if 0<=i then(s[i.toNat]?).map λb => .int .u8 b.toNat else none
 |.Yr,[.str a,.str b]=>if a.length+b.length<=4611686018427387904 then some (.str (a++b))else none
 |.Oe true true,[.str s,.int _ i,.int _ j]=>if 0<=i/\i<=j/\j<=s.length then some (.str ((s.drop i.toNat).take (j.toNat-i.toNat)))else none
 |.Oe true false,[.str s,.int _ i]=>if 0<=i/\i<=s.length then some (.str (s.drop i.toNat))else none
 |.Oe false true,[.str s,.int _ j]=>if 0<=j/\j<=s.length then some (.str (s.take j.toNat))else none
 |.Oe false false,[.str s]=>some (.str s)
 |.seq neg,[.str a,.str b]=>some (.bool (if neg then !(a == b)else a == b))
 |_,_=>none
abbrev Ky:=Option (Bool×List (Option IntKind))
inductive Mo where
 |make
 |Lj (t e:Nat)
 |get (ky:Ky) (zero:D) (ok:Bool)
 |put (ky:Ky)
 |len
 |rng
 |ent
 deriving Inhabited,DecidableEq
inductive Me where
 |b2s
 |s2b
 |s2a (n w:Nat)
 |peq (neg:Bool)
 deriving Inhabited,DecidableEq
inductive K where
 |mv (x:bP)
 |KG (w:Nat)
 |pick (c a b:bP)
 |Ul (nb:List (Nat×Nat)) (cs:List D)
 |B6 (nb:List (Nat×Nat)) (cs:List D)
 |Lk (x:bP)
 |Ll (x:bP)
 |YP (nb:List (Nat×Nat)) (x:bP)
 |FU (x:bP)
 |Lj (zero:List D) (parts:List (Nat×Nat×bP))
 |YO (n w:Nat) (zero:List D) (parts:List (Nat×Nat×bP))
 |WX (n w:Nat) (zero:List D) (parts:List (Nat×Nat×bP))
 |ld (ag:Bool) (sz:Nat) (a:bP)
 |Vl (ag:Bool) (sz:Nat) (a:bP)
 |Vk (ag:Bool) (sz:Nat) (a:bP)
 |isn (ps neg:Bool) (x:bP)
 |nck (x:bP)
 |st (nb:List (Nat×Nat)) (sz:Nat) (a x:bP)
 |Vb (os:List Nat) (sz:Nat) (a x:bP)
 |Vm (v:Nat) (ag:Bool) (sz:Nat) (a:Nat)
 |Ie (v:Nat) (nb:List (Nat×Nat)) (sz:Nat) (a:Nat) (x:bP)
 |bin (o:BinOp) (x y:bP)
 |eqv (ag:Bool) (ks:List (Option IntKind)) (neg:Bool) (x y:bP)
 |un (o:UnOp) (x:bP)
 |Vi (k:IntKind) (x:bP)
 |XN (f:Nat) (first cap:List bP)
 |YS (w bytes:Nat) (zero:List D) (l c:bP)
 |YU (w:Nat) (x:bP) (lo hi mx:Option bP)
 |RV (len w:Nat) (x:bP) (lo hi:Option bP)
 |Ln (off:Nat) (x:bP)
 |fld (ag:Bool) (off sz:Nat) (x:bP)
 |Lr (len w:Nat) (x i:bP)
 |HS (w:Nat) (x i:bP)
 |Ny (ag:Bool) (len w:Nat) (x i:bP)
 |Lu (x:bP)
 |RA (n:Nat)
 |mn (x y:bP)
 |mx (x y:bP)
 |app (w bytes:Nat) (s x:bP)
 |Un (os:List Nat) (w bytes:Nat) (s x:bP)
 |apz (w bytes:Nat) (s x:bP)
 |YQ (w bytes:Nat) (x:bP)
 |cvz (x:bP)
 |bse
 |ape (w bytes v:Nat) (x:bP)
 |ext (x:bP) (i:Nat)
 |Jq (o:Pu) (xs:List bP)
 |mp (o:Mo) (xs:List bP)
 |me (o:Me) (xs:List bP)
 |XO (t:Nat) (x:bP)
 |YW (t:Nat) (zero:Option D) (x:bP)
 |isi (neg:Bool) (x:bP)
 |X2 (x:bP)
 |QI
 |call (kp:Bool) (f:bP) (args:List bP)
 deriving Inhabited,DecidableEq
structure Op where
 dst:Option Nat
 FY:Option (Nat×Bool)
 De:Bool
 k:K
 deriving Inhabited,DecidableEq
inductive b9 where
 |Jp
 |cI (vs:List Nat)
 |si (live:List Nat) (ops:List Op)
 |seq (a b:b9)
 |ite (c:bP) (a b:b9)
 |dI (id:Nat) (a:b9)
 |loop (live:List Nat) (bF:Bool) (a:b9)
 |N0 (live:List Nat) (f:bP) (params:List Nat) (B8 body:b9)
 |ir (live:List Nat) (it:bP) (nx ok b:Nat) (a rest:b9)
 |QA (live:List Nat) (pre:List Op) (op:Op) (post:List Op)
 |Uv (f:bP) (args:List bP) (rest:b9)
 |exit (id:Nat)
 |ret
 |sgm (a:b9)
 deriving Inhabited,DecidableEq
inductive Exit where
 |normal
 |exit (id:Nat)
 |ret
 |ft (d:D)
 deriving Inhabited,DecidableEq
abbrev Env:=List (Nat×D)
def get:Env->Nat->D
 |[],_ => .undef
 |(k,v)::r,t=>if k=t then v else get r t
def put(d:Option Nat)(v:D)(e:Env):Env :=
 match d with
 |some t=>(t,v)::e
 |none=>e
def D.calm:D->D
 |.vr .. => .undef
 |.emp => .undef
 |.own _ cs => .own 0 cs
 |d=>d
def D.strip:D->D
 |.vr .. => .undef
 |.emp => .undef
 |.own .. => .undef
 |d=>d
def restrict(live:List Nat)(e:Env):Env:=live.map λt=>(t,(get e t).calm)
def keys(e:Env):List Nat:=(e.map (·.1)).eraseDups
def zp(live:List Nat)(e:Env):Env:=live.map λt=>(t,(get e t).strip)
def A9(live:List Nat)(x:Exit)(e:Env):List Nat :=
 match x with
 |.normal=>live
 |_=>keys e
structure xU where
 state:Nat
 zh:Option Exit
 env:Env
 params:List Nat
 B8:b9
 body:b9
 deriving DecidableEq
inductive aG where
 |cells (v:Nat) (cs:List D)
 |dead
 |loop (l:xU)
 deriving DecidableEq
abbrev SK:=List (List aG)
def eT:SK->Nat->Option (List aG)
 |[],_=>none
 |s::J,l=>if J.length=l then some s else eT J l
def gV:SK->Nat->List aG->SK
 |[],_,_=>[]
 |s::J,l,s'=>if J.length=l then s'::J else s::gV J l s'
def ea(J:SK)(l i:Nat):Option aG:=(eT J l).bind (·[i]?)
def bj(J:SK)(l i:Nat)(b:aG):SK :=
 match eT J l with
 |some s=>gV J l (s.set i b)
 |none=>J
def cells?(J:SK)(l i v:Nat):Option (List D) :=
 match ea J l i with
 |some (.cells v' cs)=>if v'=v then some cs else none
 |_=>none
def fQ(J:SK)(b:aG):Option (Nat×Nat×SK) :=
 match J with
 |[]=>none
 |s::J'=>some (J'.length,s.length,(s++[b])::J')
mutual
def D.clean:D->Bool
 |.ref .. => false
 |.sl .. => false
 |.jS .. => false
 |.vr .. => true
 |.emp=>true
 |.own _ cs=>D.bf cs
 |.agg cs=>D.bf cs
 |.cN cs=>D.bf cs
 |.bg cs=>D.bf cs
 |.bV _ cs=>D.bf cs
 |.fn _ a b=>D.bf a && D.bf b
 |.undef=>true
 |.bool _=>true
 |.int _ _=>true
 |.str _=>true
 |.ze=>true
 |.bA=>true
 |.pR=>true
 |.uh _ d=>D.clean d
 |.nJ=>true
def D.bf:List D->Bool
 |[]=>true
 |d::ds=>D.clean d && D.bf ds
end
def cI(l:Nat):Nat->D->SK->D×SK
 |0,_,J=>(.undef,J)
 |n+1,d,J =>
  if d.clean then(d,J)else
  match d with
  |.agg cs=>let r:=frzL (cI l n) cs J;(.agg r.1,r.2)
  |.cN cs=>let r:=frzL (cI l n) cs J;(.cN r.1,r.2)
  |.bg cs=>let r:=frzL (cI l n) cs J;(.bg r.1,r.2)
  |.bV m cs=>let r:=frzL (cI l n) cs J;(.bV m r.1,r.2)
  |.own s cs=>let r:=frzL (cI l n) cs J;(.own s r.1,r.2)
  |.fn f a b=>let r:=frzL (cI l n) a J;let r':=frzL (cI l n) b r.2;(.fn f r.1 r'.1,r'.2)
  |.ref l' i v off=>if l'<=l then(.ref l' i v off,J)else(.undef,J)
  |.jS l' i=>if l'<=l then(.jS l' i,J)else(.undef,J)
  |.sl l' i v off m w =>
   if l'<=l then(.sl l' i v off m w,J)else
   match cells? J l' i v with
   |some cs=>let r:=frzL (cI l n) ((cs.drop off).take (m*w)) (bj J l' i .dead);(.bV m r.1,r.2)
   |none=>(.undef,J)
  |_=>(.undef,J)
where
 frzL (f:D->SK->D×SK):List D->SK->List D×SK
  |[],J=>([],J)
  |d::ds,J=>let r:=f d J;let r':=frzL f ds r.2;(r.1::r'.1,r'.2)
def deep:Nat:=16
def pa(l:Nat):Env->SK->Env×SK
 |[],J=>([],J)
 |(t,d)::e,J=>let r:=cI l deep d J;let r':=pa l e r.2;((t,r.1)::r'.1,r'.2)
inductive Q where
 |call (kp:Bool) (f:Nat) (args:List D) (J:SK)
 |loop (live:List Nat) (bF:Bool) (c:b9) (env:Env) (J:SK)
 |round (l i:Nat) (args:List D) (J:SK)
 |ir (live:List Nat) (it:bP) (nx ok b:Nat) (c rest:b9) (env:Env) (J:SK)
 |zE (f:Nat) (args:List D) (th:Option D) (J:SK)
inductive R where
 |val (d:D) (J:SK)
 |E5 (e:Exit) (env:Env) (J:SK)
 |ft (d:D) (J:SK)
 deriving DecidableEq
abbrev cf:=Q->Option R
def bB(e:Env):bP->D
 |.t n=>(get e n).strip
 |.c d=>d
def D.cells:D->Option (List D)
 |.agg cs=>some cs
 |.undef=>none
 |.cN _=>none
 |.own .. => none
 |.vr .. => none
 |.emp=>none
 |d=>some [d]
def D.row(ag:Bool)(d:D):Option (List D) :=
 match ag,d with
 |true,.agg cs=>some cs
 |true,_=>none
 |false,.agg _=>none
 |false,d=>d.cells
def iP(e:Env):List (Nat×Nat×bP)->List D->Option (List D)
 |[],cs=>some cs
 |(off,sz,x)::r,cs =>
  match(bB e x).cells with
  |some p=>if p.length=sz/\off+sz<=cs.length then iP e r (cs.take off++p++cs.drop (off+sz))else none
  |none=>none
def Cg:List (Option IntKind)->List D->List D->Option Bool
 |[],[],[]=>some true
 |some k::ks,.int k1 a::x,.int k2 b::y=>if k1=k/\k2=k then(Cg ks x y).map (a == b && ·)else none
 |none::ks,.bool a::x,.bool b::y=>(Cg ks x y).map (a == b && ·)
 |_,_,_=>none
def u0(o:BinOp):D->D->Option D
 |.int k a,.int k' b =>
  match o with
  |.shl=>if b<0 then none else some (.int k (k.wrap (a*2^(min b.toNat k.bits))))
  |.shr=>if b<0 then none else some (.int k (a.fdiv (2^(min b.toNat k.bits))))
  |.add=>if k=k' then some (.int k (k.wrap (a+b)))else none
  |.sub=>if k=k' then some (.int k (k.wrap (a-b)))else none
  |.mul=>if k=k' then some (.int k (k.wrap (a*b)))else none
  |.quo=>if k=k'/\b≠0 then some (.int k (k.wrap (a.tdiv b)))else none
  |.rem=>if k=k'/\b≠0 then some (.int k (a.tmod b))else none
  |.and=>if k=k' then some (.int k (k.wrap ((BitVec.ofInt k.bits a &&& BitVec.ofInt k.bits b).toNat:Int)))else none
  |.or=>if k=k' then some (.int k (k.wrap ((BitVec.ofInt k.bits a ||| BitVec.ofInt k.bits b).toNat:Int)))else none
  |.xor=>if k=k' then some (.int k (k.wrap ((BitVec.ofInt k.bits a ^^^ BitVec.ofInt k.bits b).toNat:Int)))else none
  |.andNot=>none
  |.eql=>if k=k' then some (.bool (a == b))else none
  |.neq=>if k=k' then some (.bool (a != b))else none
  |.lss=>if k=k' then some (.bool (decide (a<b)))else none
  |.leq=>if k=k' then some (.bool (decide (a<=b)))else none
  |.gtr=>if k=k' then some (.bool (decide (a>b)))else none
  |.geq=>if k=k' then some (.bool (decide (a>=b)))else none
 |_,_=>none
def G2:D->Option Int
 |.int _ n=>some n
 |_=>none
def BU(e:Env)(m:Nat)(dfl:Option Nat):Option bP->Option Nat
 |some x=>match G2 (bB e x)with
  |some n=>if 0<=n/\n<=m then some n.toNat else none
  |none=>none
 |none=>dfl
def bounds(len:Nat)(e:Env)(lo hi mx:Option bP):Option (Nat×Nat) :=
 (BU e len (some len) mx).bind λm=>(BU e m (if mx.isSome then none else some len) hi).bind λh=>(BU e h (some 0) lo).map λl=>(l,h)
def sT(ky:Ky)(a b:D):Option Bool :=
 match ky with
 |none=>match a,b with
  |.str x,.str y=>some (x == y)
  |_,_=>none
 |some (ag,ks)=>match a.row ag,b.row ag with
  |some p,some q=>Cg ks p q
  |_,_=>none
def pA(ky:Ky)(k:D):List D->Option (Option (Nat×D))
 |[]=>some none
 |.cN [k',v]::es =>
  match sT ky k k' with
  |some true=>some (some (0,v))
  |some false=>(pA ky k es).map λx=>x.map λy=>(y.1+1,y.2)
  |none=>none
 |_=>none
def Dh(J:SK):D->Option (Nat×Nat×List D)
 |.jS l i=>(cells? J l i 0).map λes=>(l,i,es)
 |_=>none
def Dd(J:SK):Mo->List D->Option (D×SK)
 |.make,[]=>(fQ J (.cells 0 [])).map λx=>(.jS x.1 x.2.1,x.2.2)
 |.Lj t e,[]=>(fQ J (.cells 2 [.int .i64 (t:Nat),.int .i64 (e:Nat),.str []])).map λx=>(.jS x.1 x.2.1,x.2.2)
 |.get ky zero ok,[m,k] =>
  match Dh J m with
  |some (_,_,es) =>
   if(sT ky k k).isSome then
    match pA ky k es with
    |some (some (_,v))=>some (if ok then .cN [v,.bool true]else v,J)
    |some none=>some (if ok then .cN [zero,.bool false]else zero,J)
    |none=>none
   else none
  |none=>none
 |.put ky,[m,k,v] =>
  match Dh J m with
  |some (l,i,es) =>
   if(sT ky k k).isSome/\(l+1=J.length\/(k.clean/\v.clean))then
    match pA ky k es with
    |some (some (j,_))=>some (.undef,bj J l i (.cells 0 (es.set j (.cN [k,v]))))
    |some none=>some (.undef,bj J l i (.cells 0 (es++[.cN [k,v]])))
    |none=>none
   else none
  |none=>none
 |.len,[m]=>(Dh J m).map λx=>(.int .i64 x.2.2.length,J)
 |.rng,[m] =>
  match Dh J m with
  |some (lm,im,es)=>(fQ J (.cells 1 [.jS lm im,.int .i64 es.length])).map λx=>(.jS x.1 x.2.1,x.2.2)
  |none=>none
 |.ent,[.jS l i] =>
  match cells? J l i 1 with
  |some (m::.int .i64 n::.int .i64 j::_) =>
   match Dh J m with
   |some (_,_,es)=>if(es.length:Int)=n then
     match es[j.toNat]? with
     |some (.cN [k,v])=>some (.cN [k,v],J)
     |_=>none
    else none
   |none=>none
  |_=>none
 |_,_=>none
def strCells(s:List UInt8):List D:=s.map λb => .int .u8 b.toNat
def elems(J:SK)(w:Nat):D->Option (Nat×List D)
 |.bA=>some (0,[])
 |.str s=>if w=1 then some (s.length,strCells s)else none
 |.bV n cs=>if cs.length=n*w then some (n,cs)else none
 |.sl l i v off n w' =>
  if w'=w then
   match cells? J l i v with
   |some cs=>if off+n*w<=cs.length then some (n,(cs.drop off).take (n*w))else none
   |none=>none
  else none
 |_=>none
def Cb:List D->Option (List UInt8)
 |[]=>some []
 |.int .u8 n::r=>(Cb r).map (UInt8.ofNat n.toNat :: ·)
 |_=>none
def UR(J:SK):Me->List D->Option (D×SK)
 |.b2s,[.str _]=>none
 |.b2s,[x]=>(elems J 1 x).bind λr=>(Cb r.2).map λs=>(.str s,J)
 |.s2b,[.str s]=>some (.bV s.length (strCells s),J)
 |.s2a n w,[.bV m cs]=>if 0<n/\n<=m then some (.bg (cs.take (n*w)),J)else none
 |.peq neg,[.ref l i v o,.ref l' i' v' o']=>if l=l'/\i=i'/\o=o'/\v=v'/\(cells? J l i v).isSome then some (.bool (!neg),J)else none
 |_,_=>none
def room:Nat:=2^46
def kh:List (Nat×Nat)->List D->SK->Option (List D×SK)
 |[],cs,J=>some (cs,J)
 |(p,w)::r,cs,J =>
  match cs[p]? with
  |some .bA=>do
   let (l,i,J')<-fQ J (.cells 0 [])
   kh r (cs.set p (.sl l i 0 0 0 w)) J'
  |_=>kh r cs J
def qU(e:Env)(v a:Nat):Option (Nat×List D×Nat) :=
 match get e v with
 |.own s cs =>
  if a=v then some (s,cs,0)else
  match get e a with
  |.vr x s' off=>if x=v/\s'=s then some (s,cs,off)else none
  |_=>none
 |_=>none
def ux(e:Env)(v:Nat):Nat :=
 match get e v with
 |.own s _=>s+1
 |_=>0
def H3(J:SK):D->Option (List D)
 |.bg cs=>some cs
 |.ref l i v off=>(cells? J l i v).map (·.drop off)
 |_=>none
def Vn(J:SK):D->Option (List D)
 |.ref l i 0 off=>H3 J (.ref l i 0 off)
 |_=>none
def Lt(ps:Bool)(d:D):Option Bool :=
 match ps,d with
 |true,.ze=>some true
 |true,.bg _=>some false
 |true,.ref .. => some false
 |false,.bA=>some true
 |false,.bV n _=>if n=0 then none else some false
 |false,.sl _ _ _ _ n _=>if n=0 then none else some false
 |_,_=>none
def Sc(t:Nat)(z:Option D):D->Option D
 |.uh t' d=>match z with
  |some z=>some (if t'=t then .cN [d,.bool true]else .cN [z,.bool false])
  |none=>if t'=t then some d else none
 |.nJ=>z.map λz => .cN [z,.bool false]
 |_=>none
def Xv:D->Option Bool
 |.nJ=>some true
 |.uh .. => some false
 |_=>none
def D.off(l i:Nat):D->Bool
 |.ref l' i' _ _=>decide (¬(l'=l/\i'=i))
 |_=>true
def Nc(e:Env)(J:SK)(w bytes:Nat)(s x:bP):Option (D×SK):=do
  let (m,xs)<-elems J w (bB e x)
  match bB e s with
  |.bA =>
   if m*bytes<=room then
    if m=0 then some (.bA,J)else do
    let (l,i,J')<-fQ J (.cells 0 xs)
    some (.sl l i 0 0 m w,J')
   else none
  |.sl l i v off n w' =>
   match cells? J l i v with
   |some cs =>
    if w'=w/\off+n*w<=cs.length/\(n+m)*bytes<=room then
     if l+1=J.length then
      some (.sl l i (v+1) 0 (n+m) w,bj J l i (.cells (v+1) ((cs.drop off).take (n*w)++xs)))
     else
      let r:=cI.frzL (cI l deep) xs J
      some (.sl l i (v+1) 0 (n+m) w,bj r.2 l i (.cells (v+1) ((cs.drop off).take (n*w)++r.1)))
    else none
   |none=>none
  |_=>none
def bS(e:Env)(J:SK):K->Option (D×SK)
 |.mv x=>some (bB e x,J)
 |.KG w=>do
  let (l,i,J')<-fQ J (.cells 0 [])
  some (.sl l i 0 0 0 w,J')
 |.pick c a b =>
  match bB e c with
  |.bool t=>some (if t then bB e a else bB e b,J)
  |_=>none
 |.Ul nb cs=>do
  let (cs',J1)<-kh nb cs J
  let (l,i,J')<-fQ J1 (.cells 0 cs')
  some (.ref l i 0 0,J')
 |.Lk x=>(bB e x).cells.map λcs=>(.bg cs,J)
 |.Ll x=>do
  let cs<-(bB e x).cells
  let (l,i,J')<-fQ J (.cells 0 cs)
  some (.ref l i 0 0,J')
 |.YP nb x=>do
  let cs<-(bB e x).cells
  let (cs',J1)<-kh nb cs J
  let (l,i,J')<-fQ J1 (.cells 0 cs')
  some (.ref l i 0 0,J')
 |.B6 .. => none
 |.FU _=>none
 |.Ie .. => none
 |.Vm v ag sz a =>
  match qU e v a with
  |some (_,cs,off) =>
   let cs:=cs.drop off
   if sz<=cs.length then
    if ag then some (.agg (cs.take sz),J)else
    match cs with
    |d::_=>some (d,J)
    |[]=>none
   else none
  |none=>none
 |.Lj zero parts=>do
  let cs<-iP e parts zero
  some (.agg cs,J)
 |.YO n _ zero parts=>do
  let cs<-iP e parts zero
  some (.bV n cs,J)
 |.WX n w zero parts=>do
  let cs<-iP e parts zero
  let (l,i,J')<-fQ J (.cells 0 cs)
  some (.sl l i 0 0 n w,J')
 |.ld ag sz a =>
  match H3 J (bB e a)with
  |some cs =>
   if sz<=cs.length then
    if ag then some (.agg (cs.take sz),J)else
    match cs with
    |d::_=>some (d,J)
    |[]=>none
   else none
  |none=>none
 |.Vk ag sz a =>
  match Vn J (bB e a)with
  |some cs =>
   if sz<=cs.length then
    if ag then some (.agg (cs.take sz),J)else
    match cs with
    |d::_=>some (d,J)
    |[]=>none
   else none
  |none=>none
 |.Vl ag sz a =>
  match bB e a with
  |.bg cs =>
   if sz<=cs.length then
    if ag then some (.agg (cs.take sz),J)else
    match cs with
    |d::_=>some (d,J)
    |[]=>none
   else none
  |_=>none
 |.isn ps neg x=>(Lt ps (bB e x)).map λb=>(.bool (if neg then !b else b),J)
 |.nck x =>
  match bB e x with
  |.bg cs=>some (.bg cs,J)
  |.ref l i v off=>some (.ref l i v off,J)
  |_=>none
 |.st nb sz a x =>
  match bB e a with
  |.ref l i v off =>
   match cells? J l i v with
   |some cs =>
    match(bB e x).cells with
    |some p =>
     if p.length=sz/\off+sz<=cs.length then
      if l+1=J.length then
       match kh nb p J with
       |some (p',J1)=>some (.undef,bj J1 l i (.cells v (cs.take off++p'++cs.drop (off+sz))))
       |none=>none
      else
       let r:=cI.frzL (cI l deep) p J
       some (.undef,bj r.2 l i (.cells v (cs.take off++r.1++cs.drop (off+sz))))
     else none
    |none=>none
   |none=>none
  |_=>none
 |.Vb os sz a x =>
  match bB e a with
  |.ref l i v off =>
   if(os.all λt=>D.off l i (get e t))=true then
    match cells? J l i v with
    |some cs =>
     match(bB e x).cells with
     |some p =>
      if p.length=sz/\off+sz<=cs.length/\(D.bf p=true\/l+1=J.length)then some (.undef,bj J l i (.cells v (cs.take off++p++cs.drop (off+sz))))else none
     |none=>none
    |none=>none
   else none
  |_=>none
 |.bin o x y=>(u0 o (bB e x) (bB e y)).map (·,J)
 |.eqv ag ks neg x y =>
  match(bB e x).row ag,(bB e y).row ag with
  |some p,some q=>(Cg ks p q).map λb=>(.bool (if neg then !b else b),J)
  |_,_=>none
 |.un o x =>
  match o,bB e x with
  |.not,.bool b=>some (.bool !b,J)
  |.neg,.int k n=>some (.int k (k.wrap (0-n)),J)
  |.xor,.int k n=>some (.int k (k.wrap ((BitVec.ofInt k.bits (if k.signed then -1 else k.max) ^^^ BitVec.ofInt k.bits n).toNat:Int)),J)
  |_,_=>none
 |.Vi k x =>
  match bB e x with
  |.int _ n=>some (.int k (k.wrap n),J)
  |_=>none
 |.XN f first cap=>some (.fn f (first.map (bB e)) (cap.map (bB e)),J)
 |.YS w bytes zero l c =>
  match bB e l,bB e c with
  |.int .i64 n,.int .i64 m =>
   if 0<=n/\n=m/\n*bytes<=(room:Int)/\zero.length=w then do
    let (l,i,J')<-fQ J (.cells 0 (fM (List.range n.toNat) λ_=>zero))
    some (.sl l i 0 0 n.toNat w,J')
   else none
  |_,_=>none
 |.YU w x lo hi mx =>
  match bB e x with
  |.bV n cs=>(bounds n e lo hi mx).map λb=>(.bV (b.2-b.1) ((cs.drop (b.1*w)).take ((b.2-b.1)*w)),J)
  |.sl l i v off n w'=>if w'=w then(bounds n e lo hi mx).map λb=>(.sl l i v (off+b.1*w) (b.2-b.1) w,J)else none
  |.bA=>(bounds 0 e lo hi mx).map λ_=>(.bA,J)
  |_=>none
 |.RV len w x lo hi =>
  match bB e x with
  |.bg cs=>(bounds len e lo hi none).map λb=>(.bV (b.2-b.1) ((cs.drop (b.1*w)).take ((b.2-b.1)*w)),J)
  |.ref l i v off =>
   match cells? J l i v with
   |some cs=>if len<=1000000/\off+len*w<=cs.length then(bounds len e lo hi none).map λb=>(.sl l i v (off+b.1*w) (b.2-b.1) w,J)else none
   |none=>none
  |_=>none
 |.Ln off x =>
  match x with
  |.t n =>
   match get e n with
   |.bg cs=>some (.bg (cs.drop off),J)
   |.ref l i v o=>some (.ref l i v (o+off),J)
   |.own s _=>some (.vr n s off,J)
   |.vr v s o=>some (.vr v s (o+off),J)
   |_=>none
  |.c _=>none
 |.fld ag off sz x =>
  match bB e x with
  |.agg cs =>
   if off+sz<=cs.length then
    if ag then some (.agg ((cs.drop off).take sz),J)else(cs[off]?).map (·,J)
   else none
  |_=>none
 |.Lr len w x i =>
  match x,G2 (bB e i)with
  |.t m,some n =>
   if 0<=n/\n<len then
    match get e m with
    |.bg cs=>some (.bg ((cs.drop (n.toNat*w)).take w),J)
    |.ref l j v off=>some (.ref l j v (off+n.toNat*w),J)
    |.own s _=>some (.vr m s (n.toNat*w),J)
    |.vr v s o=>some (.vr v s (o+n.toNat*w),J)
    |_=>none
   else none
  |_,_=>none
 |.HS w x i =>
  match bB e x,G2 (bB e i)with
  |.bV m cs,some n=>if 0<=n/\n<m then some (.bg ((cs.drop (n.toNat*w)).take w),J)else none
  |.sl l j v off m w',some n=>if 0<=n/\n<m/\w'=w then some (.ref l j v (off+n.toNat*w),J)else none
  |_,_=>none
 |.Ny ag len w x i =>
  match bB e x,G2 (bB e i)with
  |.agg cs,some n =>
   if 0<=n/\n<len/\(n.toNat+1)*w<=cs.length then
    if ag then some (.agg ((cs.drop (n.toNat*w)).take w),J)else(cs[n.toNat*w]?).map (·,J)
   else none
  |_,_=>none
 |.Lu x =>
  match bB e x with
  |.bA=>some (.int .i64 0,J)
  |.bV n _=>some (.int .i64 n,J)
  |.sl _ _ _ _ n _=>some (.int .i64 n,J)
  |_=>none
 |.RA n=>some (.int .i64 n,J)
 |.mn x y =>
  match bB e x,bB e y with
  |.int k a,.int _ b=>some (.int k (min a b),J)
  |_,_=>none
 |.mx x y =>
  match bB e x,bB e y with
  |.int k a,.int _ b=>some (.int k (max a b),J)
  |_,_=>none
 |.app w bytes s x=>do
  let (m,xs)<-elems J w (bB e x)
  match bB e s with
  |.bA =>
   if m*bytes<=room then
    if m=0 then some (.bA,J)else do
    let (l,i,J')<-fQ J (.cells 0 xs)
    some (.sl l i 0 0 m w,J')
   else none
  |.sl l i v off n w' =>
   match cells? J l i v with
   |some cs =>
    if w'=w/\off+n*w<=cs.length/\(n+m)*bytes<=room then
     if l+1=J.length then
      some (.sl l i (v+1) 0 (n+m) w,bj J l i (.cells (v+1) ((cs.drop off).take (n*w)++xs)))
     else
      let r:=cI.frzL (cI l deep) xs J
      some (.sl l i (v+1) 0 (n+m) w,bj r.2 l i (.cells (v+1) ((cs.drop off).take (n*w)++r.1)))
    else none
   |none=>none
  |_=>none
 |.Un os w bytes s x =>
  match bB e s with
  |.sl l i _ _ _ _=>if(os.all λt=>D.off l i (get e t))=true then(elems J w (bB e x)).bind λr=>if D.bf r.2=true then Nc e J w bytes s x else none else none
  |_=>none
 |.apz w bytes s x=>(Nc e J w bytes s x).map λr=>cI 0 deep r.1 r.2
 |.YQ w bytes x=>do
  let (m,xs)<-elems J w (bB e x)
  if m*bytes<=room then some (.bV m xs,J)else none
 |.cvz x =>
  match bB e x with
  |.sl l i v off n w =>
   if 0<n then
    match cells? J l i v with
    |some cs=>some (.bV n ((cs.drop off).take (n*w)),bj J l i .dead)
    |none=>none
   else none
  |_=>none
 |.bse=>some (.emp,J)
 |.ape w bytes v x =>
  match get e v with
  |.emp=>(elems J w (bB e x)).bind λr=>if r.1*bytes<=room then some (.bV r.1 r.2,J)else none
  |_=>none
 |.ext x i =>
  match bB e x with
  |.cN ds=>(ds[i]?).map (·,J)
  |_=>none
 |.Jq o xs=>(fS o (xs.map (bB e))).map (·,J)
 |.mp o xs=>Dd J o (xs.map (bB e))
 |.me o xs=>UR J o (xs.map (bB e))
 |.XO t x=>some (.uh t (bB e x),J)
 |.YW t z x=>(Sc t z (bB e x)).map (·,J)
 |.isi neg x=>(Xv (bB e x)).map λb=>(.bool (if neg then !b else b),J)
 |.X2 _=>none
 |.QI=>none
 |.call _ _ _=>none
def R.du:Option R->Option (D×SK)
 |some (.val d J)=>some (d,J)
 |_=>none
def R.Uu:Option R->Option (Exit×Env×SK)
 |some (.E5 e env J)=>some (e,env,J)
 |_=>none
def og(O:cf)(kp:Bool)(fv:D)(args:List D)(J:SK):Option (D×SK) :=
 match fv with
 |.fn f first cap=>R.du (O (.call kp f (first++args++cap) J))
 |.jS l i=>R.du (O (.round l i args J))
 |_=>none
def Iw(O:cf)(fv:D)(args:List D)(J:SK):Option (D×SK) :=
 match fv with
 |.fn f first cap=>R.du (O (.call false f (first++args++cap) J))
 |_=>none
def wI(O:cf)(op:Op)(e:Env)(J:SK):Option (Env×SK) :=
 match op.k with
 |.call kp f args =>
  match og O kp (bB e f) (args.map (bB e)) J with
  |some (d,J')=>if op.De=true->J'=J then some (put op.dst d e,J')else none
  |none=>none
 |.B6 nb cs =>
  match op.dst,kh nb cs J with
  |some v,some (cs',J')=>some ((v,.own (ux e v) cs')::e,J')
  |_,_=>none
 |.FU x =>
  match op.dst,(bB e x).cells with
  |some v,some cs=>some ((v,.own (ux e v) cs)::e,J)
  |_,_=>none
 |.Ie v nb sz a x =>
  match qU e v a,(bB e x).cells with
  |some (s,cs,off),some p =>
   if p.length=sz/\off+sz<=cs.length then
    match kh nb p J with
    |some (p',J')=>some ((v,.own s (cs.take off++p'++cs.drop (off+sz)))::e,J')
    |none=>none
   else none
  |_,_=>none
 |k=>(bS e J k).map λx=>(put op.dst x.1 e,x.2)
def D.bit:D->Option (Option Bool)
 |.bool b=>some (some b)
 |.cN []=>some none
 |_=>none
def lq(O:cf):List Op->Env->SK->Option (Env×SK)
 |[],e,J=>some (e,J)
 |op::r,e,J =>
  match op.FY with
  |none=>(wI O op e J).bind λx=>lq O r x.1 x.2
  |some (g,want) =>
   match(get e g).bit with
   |some y=>if y=some want then(wI O op e J).bind λx=>lq O r x.1 x.2 else lq O r (put op.dst (.cN []) e) J
   |none=>none
def D.rh:D->D
 |.bA => .bV 0 []
 |d=>d
def GU(l i u:Nat)(J:SK):D×SK :=
 match cells? J l i u with
 |some cs=>let r:=cI.frzL (cI 0 deep) cs (bj J l i .dead);(.bg (r.1.map D.rh),r.2)
 |none=>(.undef,J)
def aaH(v:Nat)(e:Env):Env :=
 match get e v with
 |.own _ cs=>if e.all (λp=>match p.2 with | .vr x _ _=>x != v | _=>true)then(v,.bg cs)::e else e
 |_=>e
def Lq(v:Nat)(e:Env)(J:SK):Env×SK :=
 match get e v with
 |.bA=>((v,.bV 0 [])::e,J)
 |.ref l i u 0=>let r:=GU l i u J;((v,r.1)::e,r.2)
 |.own s cs=>((v,.own s (cs.map D.rh))::e,J)
 |.undef=>if 1000000<=v then(aaH (v-1000000) e,J)else(e,J)
 |_=>(e,J)
def vc:List Nat->Env->SK->Env×SK
 |[],e,J=>(e,J)
 |v::vs,e,J =>
  match get e v with
  |.sl l i u off m w=>let r:=cI 0 deep (.sl l i u off m w) J;vc vs ((v,r.1)::e) r.2
  |.own s cs=>let r:=cI.frzL (cI 0 deep) cs J;vc vs ((v,.own s r.1)::e) r.2
  |.agg cs=>vc vs ((v,.agg (cs.map D.rh))::e) J
  |.undef=>if 1000000<=v then(let r:=Lq (v-1000000) e J;vc vs r.1 r.2)else vc vs e J
  |_=>vc vs e J
def CU(O:cf)(fv:D)(args:List D)(J:SK):Option R :=
 match fv with
 |.fn f first cap=>O (.call false f (first++args++cap) J)
 |_=>none
def uD(O:cf)(live:List Nat)(dst:Option Nat)(post:List Op)(e:Env):Option R->Option (Exit×Env×SK)
 |some (.val d J')=>(lq O post (put dst d e) J').map λy=>(.normal,restrict live y.1,y.2)
 |some (.ft d J')=>some (.ft d,e,J')
 |_=>none
def I5(O:cf)(live:List Nat)(op:Op)(post:List Op)(e:Env)(J:SK):Option (Exit×Env×SK) :=
 match op.FY,op.k with
 |none,.call false f args=>uD O live op.dst post e (CU O (bB e f) (args.map (bB e)) J)
 |none,.X2 x=>(match bB e x with
  |.uh t d=>if d.clean then some (.ft (.uh t d),e,J)else none
  |_=>none)
 |_,_=>none
def bq(O:cf):b9->Env->SK->Option (Exit×Env×SK)
 |.Jp,e,J=>some (.normal,e,J)
 |.cI vs,e,J=>let r:=vc vs e J;some (.normal,r.1,r.2)
 |.si live ops,e,J=>(lq O ops e J).map λx=>(.normal,restrict live x.1,x.2)
 |.seq a b,e,J=>(bq O a e J).bind λx =>
  match x.1 with
  |.normal=>bq O b x.2.1 x.2.2
  |_=>some x
 |.ite c a b,e,J =>
  match bB e c with
  |.bool t=>if t then bq O a e J else bq O b e J
  |_=>none
 |.dI id a,e,J=>(bq O a e J).map λx =>
  match x.1 with
  |.exit j=>if j=id then(.normal,x.2)else x
  |_=>x
 |.loop live bF a,e,J=>R.Uu (O (.loop live bF a e J))
 |.N0 live f params B8 body,e,J =>
  match fQ J (.loop {state:=0,zh:=none,env:=zp live e,params,B8,body })with
  |some (l,i,J1) =>
   match Iw O (bB e f) [.jS l i] J1 with
   |some (_,J2) =>
    match ea J2 l i with
    |some (.loop lp) =>
     if lp.state=1 then none else
     some (lp.zh.getD .normal,restrict live e,bj J2 l i (.loop {lp with state:=3 }))
    |_=>none
   |none=>none
  |none=>none
 |.ir live it nx ok b a rest,e,J=>R.Uu (O (.ir live it nx ok b a rest e J))
 |.QA live pre op post,e,J=>(lq O pre e J).bind λx=>I5 O live op post x.1 x.2
 |.Uv ..,_,_=>none
 |.sgm a,e,J=>(bq O a e ([]::J)).map λx=>(x.1,(pa (J.length-1) (restrict (keys x.2.1) x.2.1) x.2.2).1,(pa (J.length-1) (restrict (keys x.2.1) x.2.1) x.2.2).2.tail)
 |.exit id,e,J=>some (.exit id,e,J)
 |.ret,e,J=>some (.ret,e,J)
inductive Gg where
 |t (n:Nat)
 |c (n:Nat) (ag:Bool) (sz:Nat)
 |v (n:Nat) (ag:Bool) (sz:Nat)
structure Fn where
 RI:Nat
 res:List Gg
 body:b9
def KR(e:Env)(J:SK):Gg->Option D
 |.t n=>some (get e n).strip
 |.c n ag sz=>(bS e J (.ld ag sz (.t n))).map (·.1)
 |.v n ag sz=>(bS e J (.Vm n ag sz n)).map (·.1)
def BQ(e:Env)(J:SK):List Gg->Option (List D)
 |[]=>some []
 |r::rs=>(KR e J r).bind λd=>(BQ e J rs).map λds=>d::ds
def ui:List D->D
 |[d]=>d
 |ds => .cN ds
def lE(n:Nat):List D->Env
 |[]=>[]
 |d::ds=>(n,d)::lE (n+1) ds
def CG:List Nat->List D->Env->Env
 |t::ts,d::ds,e=>CG ts ds ((t,d)::e)
 |_,_,e=>e
abbrev CT:=Nat->Option Fn
def Xu:List D->Option (List Int)
 |[]=>some []
 |.int .i64 z::r=>(Xu r).map (z :: ·)
 |_=>none
def aag(x:Int):List Int->List Int
 |[]=>[x]
 |y::l=>if x<=y then x::y::l else y::aag x l
def TJ:List Int->List Int
 |[]=>[]
 |x::l=>aag x (TJ l)
def Xr(l:List Int):List D:=l.map (.int .i64)
def Pf(x:Int):List Int->List Int
 |[]=>[]
 |y::l=>if y=x then Pf x l else y::Pf y l
def L9:List Int->List Int
 |[]=>[]
 |x::l=>x::Pf x l
def XS(k:Nat)(zs:List Int):List Int:=if k=1 then TJ zs else L9 zs++List.replicate (zs.length-(L9 zs).length) 0
def adZ(k l i v off:Nat)(zs:List Int):D:=if k=1 then .cN []else .sl l i v off (L9 zs).length 1
def ahc(k:Nat)(args:List D)(J:SK):Option R :=
 match args with
 |[.sl l i v off n w] =>
  if n≠0/\w=1/\n<=1000000 then
   match cells? J l i v with
   |some cs =>
    if off+n<=cs.length then
     match Xu ((cs.drop off).take n)with
     |some zs=>some (.val (adZ k l i v off zs) (bj J l i (.cells v (cs.take off++Xr (XS k zs)++cs.drop (off+n)))))
     |none=>none
    else none
   |none=>none
  else none
 |_=>none
def pk:Nat->Nat->List UInt8
 |0,_=>[]
 |k+1,u=>if u<10 then [UInt8.ofNat (48+u)]else pk k (u / 10)++[UInt8.ofNat (48+u%10)]
def fH(n:Int):List UInt8:=if n<0 then 45::pk 20 n.natAbs else pk 20 n.toNat
def wQ:List D->Option (List (List UInt8))
 |[]=>some []
 |.str s::r=>(wQ r).map (s :: ·)
 |_=>none
def rW(sep:List UInt8):List (List UInt8)->List UInt8
 |[]=>[]
 |x::r=>x++fM r (sep ++ ·)
def di(b:UInt8):List UInt8->List (List UInt8)
 |[]=>[[]]
 |c::r=>if c=b then []::di b r else match di b r with
  |x::l=>(c::x)::l
  |[]=>[[c]]
def rK(s:List UInt8):Nat×Int :=
 match Lib.atoiAll s with
 |.ok v=>(0,v)
 |Lib.NumEnd.syntax=>(1,0)
 |.range=>(2,Lib.atoiSat s)
def AD(a b:Nat)(xs:List (List UInt8)):List (List UInt8):=xs.take a++xs.drop b++List.replicate (b-a) []
def Ea(k:Nat)(args:List D)(J:SK):Option R :=
 match k%16,args with
 |3,[.int .i64 n]=>if -9223372036854775808<=n/\n<=9223372036854775807 then some (.val (.str (fH n)) J)else none
 |4,[.str s]=>if s.length<=1000000 then some (.val (.cN [.int .i64 (rK s).2,if(rK s).1=0 then .nJ else .uh (k / 16) .undef]) J)else none
 |5,[.bV n cs,.str sep] =>
  match wQ cs with
  |some xs=>if n=xs.length/\n<=1000/\(rW sep xs).length<=1000000 then some (.val (.str (rW sep xs)) J)else none
  |none=>none
 |6,[.str s,.str [b]]=>if s.length<=1000000 then some (.val (.bV (di b s).length ((di b s).map .str)) J)else none
 |7,[.jS l i,.str s] =>
  match cells? J l i 2 with
  |some [.int .i64 t,.int .i64 e,.str bs] =>
   if t=((k / 16%65536:Nat):Int)/\e=((k / 16 / 65536:Nat):Int)/\bs.length+s.length<=1000000 then
    some (.val (.cN [.int .i64 s.length,.nJ]) (bj J l i (.cells 2 [.int .i64 t,.int .i64 e,.str (bs++s)])))
   else none
  |_=>none
 |8,[.jS l i] =>
  match cells? J l i 2 with
  |some [.int .i64 t,.int .i64 e,.str bs]=>if t=((k / 16%65536:Nat):Int)/\e=((k / 16 / 65536:Nat):Int)/\bs≠[]then some (.val (.str bs) J)else none
  |_=>none
 |9,[.sl l i v off n w,.int .i64 a,.int .i64 b] =>
  if n≠0/\w=1/\n<=1000000/\0<=a/\a<=b/\b<=(n:Int)then
   match cells? J l i v with
   |some cs =>
    if off+n<=cs.length then
     match wQ ((cs.drop off).take n)with
     |some xs=>some (.val (.sl l i v off (n-(b.toNat-a.toNat)) 1) (bj J l i (.cells v (cs.take off++(AD a.toNat b.toNat xs).map .str++cs.drop (off+n)))))
     |none=>none
    else none
   |none=>none
  else none
 |0,_=>none
 |9,_=>none
 |10,_=>none
 |11,_=>none
 |12,_=>none
 |13,_=>none
 |14,_=>none
 |15,_=>none
 |1,args=>ahc 1 args J
 |2,args=>ahc 2 args J
 |_,_=>none
def IT(J:SK)(l i:Nat):Option (D×Nat×List D×List Nat) :=
 match cells? J l i 1 with
 |some (m::.int .i64 n::js) =>
  match Dh J m with
  |some (_,_,es)=>if(es.length:Int)=n then some (m,es.length,js,(List.range es.length).filter λj => !(js.contains (.int .i64 j)))else none
  |none=>none
 |_=>none
def Dp:List (Option R)->Option R
 |[]=>none
 |r::rs=>if ∀x∈rs,x=r then r else none
def y8(O:cf)(l i b:Nat)(rest:b9):Option (Exit×Env×SK)->Option R
 |some (.exit j,e1,J1) =>
  if j=b then(bq O rest e1 (bj J1 l i .dead)).map λx => .E5 x.1 x.2.1 x.2.2
  else some (.E5 (.exit j) e1 (bj J1 l i .dead))
 |some (.ret,e1,J1)=>some (.E5 .ret e1 (bj J1 l i .dead))
 |_=>none
def Dc(O:cf)(live:List Nat)(it:bP)(l i nx ok b:Nat)(c rest:b9):Option (Exit×Env×SK)->Option R
 |some (.normal,e1,J1)=>O (.ir live it nx ok b c rest e1 J1)
 |y=>y8 O l i b rest y
def iA:b9->Option (b9×bP×List bP×b9)
 |.Uv f args q=>some (.Jp,f,args,q)
 |.seq a b=>(iA b).map λx=>(.seq a x.1,x.2)
 |_=>none
def Sd(kp:Bool)(d:D):SK->Option R
 |_::J=>if kp=false/\d.clean=true then some (.ft d J)else none
 |[]=>none
def leave(res:List Gg)(J:SK)(e:Env)(J1:SK):Option R :=
 match BQ e J1 res with
 |some ds=>(match cI (J.length-1) deep (ui ds) J1 with
  |(d,_::J2)=>some (.val d J2)
  |_=>none)
 |none=>none
def pj(O:cf)(fv:D)(args:List D)(th:Option D)(J:SK):Option R :=
 match fv with
 |.fn f first cap=>O (.zE f (first++args++cap) th J)
 |_=>none
def u7(res:List Gg)(J:SK)(e:Env):Option R->Option R
 |some (.val _ J1)=>leave res J e J1
 |_=>none
def Bj(O:cf)(res:List Gg)(J:SK)(fv:D)(args:List D):Option (Exit×Env×SK)->Option R
 |some (.ft d,e,J1)=>u7 res J e (pj O fv args (some d) J1)
 |some (.normal,e,J1)=>u7 res J e (pj O fv args none J1)
 |some (.ret,e,J1)=>u7 res J e (pj O fv args none J1)
 |_=>none
def Bi(O:cf)(fn:Fn)(J:SK):Option (b9×bP×List bP×b9)->Env->SK->Option R
 |some (a,f,args,q),e0,J0 =>
  (match bq O a e0 J0 with
  |some (.normal,e,J1)=>Bj O fn.res J (bB e f) (args.map (bB e)) (bq O q e J1)
  |_=>none)
 |none,_,_=>none
def rJ(th:Option D)(args:List D):b9->Option (Env×b9)
 |.seq (.si live [⟨some t,none,_,.QI⟩]) q=>(match q with
  |.ir .. => none
  |q=>some (restrict live ((t,th.getD .nJ)::lE 0 args),q))
 |_=>none
def dF(T:CT)(O:cf):Q->Option R
 |.call kp f args J =>
  match T f with
  |some fn =>
   if args.length=fn.RI then
    match bq O fn.body (lE 0 args) (if kp then J else []::J)with
    |some (.exit _,_,_)=>none
    |some (.ft d,_,J1)=>Sd kp d J1
    |some (_,e,J1) =>
     match BQ e J1 fn.res with
     |some ds =>
      if kp then some (.val (ui ds) J1)else
      match cI (J.length-1) deep (ui ds) J1 with
      |(d,_::J2)=>some (.val d J2)
      |_=>none
     |none=>none
    |none=>if kp then none else Bi O fn J (iA fn.body) (lE 0 args) ([]::J)
   else none
  |none =>
   match T (1000000+f)with
   |some fn=>Ea fn.RI args J
   |none=>none
 |.loop live bF c e J =>
  match bq O c (restrict live e) (if bF then []::J else J)with
  |some (x,e1,J1) =>
   let (e2,J2):=if bF then(let r:=pa (J.length-1) (restrict (A9 live x e1) e1) J1;(r.1,r.2.tail))else(e1,J1)
   match x with
   |.normal=>O (.loop live bF c e2 J2)
   |x=>some (.E5 x e2 J2)
  |none=>none
 |.round l i args J =>
  match ea J l i with
  |some (.loop lp) =>
   if args.length=lp.params.length then
    match bq O lp.B8 (CG lp.params args lp.env) ([]::J)with
    |some (.normal,e1,J1) =>
     match ea J1 l i with
     |some (.loop lp1) =>
      if lp1.state=0 then
       match bq O lp.body e1 (bj J1 l i (.loop {lp1 with state:=1 }))with
       |some (x,_,_::J2) =>
        match ea J2 l i with
        |some (.loop lp2) =>
         match x with
         |.ft _=>none
         |.normal=>some (.val (.bool true) (bj J2 l i (.loop {lp2 with state:=0,zh:=none })))
         |x=>some (.val (.bool false) (bj J2 l i (.loop {lp2 with state:=2,zh:=some x })))
        |_=>none
       |_=>none
      else none
     |_=>none
    |_=>none
   else none
  |_=>none
 |.ir live it nx ok b c rest e J =>
  match bB (restrict live e) it with
  |.jS l i =>
   match IT J l i with
   |some (_,_,_,[])=>y8 O l i b rest (bq O c ((ok,.bool false)::(nx,.undef)::restrict live e) J)
   |some (m,n,js,us)=>Dp (us.map λu=>Dc O live it l i nx ok b c rest (bq O c ((ok,.bool true)::(nx,.undef)::restrict live e) (bj J l i (.cells 1 (m::.int .i64 (n:Nat)::.int .i64 (u:Nat)::js)))))
   |none=>none
  |_=>none
 |.zE f args th J =>
  match T f with
  |some fn =>
   if args.length=fn.RI then
    match rJ th args fn.body with
    |some (e0,q) =>
     match bq O q e0 ([]::J)with
     |some (.exit _,_,_)=>none
     |some (.ft _,_,_)=>none
     |some (_,e,J1) =>
      match BQ e J1 fn.res,J1 with
      |some [],_::J2=>some (.val (.cN []) J2)
      |_,_=>none
     |none=>none
    |none=>none
   else none
  |none=>none
def it(T:CT):Nat->cf
 |0=>λ_=>none
 |n+1=>dF T (it T n)
open Classical in
noncomputable def dp(T:CT):cf:=λq =>
 if h:∃n r,it T n q=some r then some h.choose_spec.choose else none
end Go.Abs
