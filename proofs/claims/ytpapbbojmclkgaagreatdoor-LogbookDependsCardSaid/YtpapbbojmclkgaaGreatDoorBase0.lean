import GoSem.Core.View
import Derived.Lib.AtoiAll
set_option linter.all false
namespace Go
theorem ad:type_of%@Option.map_eq_some_iff:=@Option.map_eq_some_iff
theorem ae:type_of%@Option.some.injEq:=@Option.some.injEq
theorem af:type_of%@Bool.and_eq_true:=@Bool.and_eq_true
theorem ak:type_of%@Option.bind_eq_some_iff:=@Option.bind_eq_some_iff
theorem aM:type_of%@List.map_cons:=@List.map_cons
theorem aj:type_of%@List.mem_of_getElem?:=@List.mem_of_getElem?
theorem ah:type_of%@List.take_of_length_le:=@List.take_of_length_le
theorem ar:type_of%@Prod.mk.injEq:=@Prod.mk.injEq
theorem bW:type_of%@List.map_nil:=@List.map_nil
theorem az:type_of%@decide_eq_true_eq:=@decide_eq_true_eq
theorem aD:type_of%@Bool.false_eq_true:=@Bool.false_eq_true
theorem aJ:type_of%@Option.ite_none_right_eq_some:=@Option.ite_none_right_eq_some
theorem aB:type_of%@List.getElem?_eq_some_iff:=@List.getElem?_eq_some_iff
theorem an:type_of%@List.drop_eq_nil_of_le:=@List.drop_eq_nil_of_le
theorem aN:type_of%@Nat.le_refl:=@Nat.le_refl
theorem aE:type_of%@List.length_cons:=@List.length_cons
theorem aH:type_of%@List.getElem?_eq_getElem:=@List.getElem?_eq_getElem
theorem aW:type_of%@Option.bind_eq_bind:=@Option.bind_eq_bind
theorem aC:type_of%@List.drop_zero:=@List.drop_zero
theorem aZ:type_of%@Option.map_some:=@Option.map_some
theorem aI:type_of%@List.length_pos_iff:=@List.length_pos_iff
theorem aU:type_of%@List.nil_append:=@List.nil_append
theorem akZ:type_of%@List.flatMap_cons:=@List.flatMap_cons
theorem bw:type_of%@List.mem_cons:=@List.mem_cons
theorem aT:type_of%@List.mem_append:=@List.mem_append
theorem aQ:type_of%@Int.tdiv_eq_ediv_of_nonneg:=@Int.tdiv_eq_ediv_of_nonneg
theorem aY:type_of%@List.length_nil:=@List.length_nil
theorem bI:type_of%@List.mem_map:=@List.mem_map
theorem aV:type_of%@List.length_append:=@List.length_append
theorem bq:type_of%@List.length_eq_zero_iff:=@List.length_eq_zero_iff
theorem cj:type_of%@Bool.or_eq_true:=@Bool.or_eq_true
theorem cC:type_of%@Array.getD_eq_getD_getElem?:=@Array.getD_eq_getD_getElem?
theorem cN:type_of%@List.getElem?_cons_zero:=@List.getElem?_cons_zero
theorem cq:type_of%@Nat.zero_add:=@Nat.zero_add
theorem cS:type_of%@List.mem_filter:=@List.mem_filter
theorem bG:type_of%@List.length_map:=@List.length_map
theorem cV:type_of%@List.drop_length_add_append:=@List.drop_length_add_append
theorem de:type_of%@Array.getElem?_eq_some_iff:=@Array.getElem?_eq_some_iff
theorem bS:type_of%@Nat.mul_one:=@Nat.mul_one
theorem cZ:type_of%@Nat.mul_le_mul_right:=@Nat.mul_le_mul_right
theorem cY:type_of%@List.mem_of_mem_take:=@List.mem_of_mem_take
theorem dG:type_of%@Nat.add_assoc:=@Nat.add_assoc
theorem akY:type_of%@List.flatMap_nil:=@List.flatMap_nil
theorem dH:type_of%@Option.isSome_iff_exists:=@Option.isSome_iff_exists
theorem ez:type_of%@List.ext_getElem?:=@List.ext_getElem?
theorem dT:type_of%@Bool.not_eq_true':=@Bool.not_eq_true'
theorem di:type_of%@List.getElem?_take:=@List.getElem?_take
theorem da:type_of%@List.append_nil:=@List.append_nil
theorem cX:type_of%@List.mem_of_mem_drop:=@List.mem_of_mem_drop
theorem eC:type_of%@Nat.succ_mul:=@Nat.succ_mul
theorem dO:type_of%@Int.toNat_of_nonneg:=@Int.toNat_of_nonneg
theorem bA:type_of%@Int.mul_nonneg:=@Int.mul_nonneg
theorem dp:type_of%@List.singleton_append:=@List.singleton_append
theorem dN:type_of%@List.getElem?_eq_none:=@List.getElem?_eq_none
theorem eW:type_of%@Option.getD_some:=@Option.getD_some
theorem cr:type_of%@List.cons_append:=@List.cons_append
theorem fS:type_of%@Array.toList_inj:=@Array.toList_inj
theorem jn:type_of%@Nat.le_trans:=@Nat.le_trans
theorem dY:type_of%@List.getElem?_drop:=@List.getElem?_drop
theorem ic:type_of%@Nat.add_mul:=@Nat.add_mul
theorem fT:type_of%@List.getElem?_of_mem:=@List.getElem?_of_mem
theorem dR:type_of%@Int.mul_le_mul_of_nonneg_right:=@Int.mul_le_mul_of_nonneg_right
theorem Qy:type_of%@List.flatMap_append:=@List.flatMap_append
theorem jm:type_of%@List.all_cons:=@List.all_cons
theorem fD:type_of%@List.length_filter_le:=@List.length_filter_le
theorem iD:type_of%@List.getElem?_toArray:=@List.getElem?_toArray
theorem jV:type_of%@List.cons.injEq:=@List.cons.injEq
theorem eu:type_of%@Array.getElem?_modify:=@Array.getElem?_modify
theorem lR:type_of%@List.getElem?_map:=@List.getElem?_map
theorem cM:type_of%@List.append_assoc:=@List.append_assoc
theorem ju:type_of%@List.getElem?_mapIdx:=@List.getElem?_mapIdx
theorem lI:type_of%@List.getElem?_append_left:=@List.getElem?_append_left
theorem dh:type_of%@List.drop_drop:=@List.drop_drop
theorem cp:type_of%@Int.mul_le_mul:=@Int.mul_le_mul
theorem dA:type_of%@List.length_take:=@List.length_take
theorem iV:type_of%@List.all_eq_true:=@List.all_eq_true
theorem eV:type_of%@Int.le_total:=@Int.le_total
theorem gE{α:Type}{l:List α}{i:Nat}(h:i<l.length):∃x,l[i]?=some x:=⟨_,aH h⟩
end Go
namespace Go.Abs
def fM{α β:Type _}(l:List α)(f:α->List β):List β:=l.flatMap f
@[simp] theorem mY{α β:Type _}{f:α->List β}:fM [] f=[]:=rfl
@[simp] theorem db{α β:Type _}{a:α}{l:List α}{f:α->List β}:fM (a::l) f=f a++fM l f:=akZ
@[simp] theorem oI{α β:Type _}{l m:List α}{f:α->List β}:fM (l++m) f=fM l f++fM m f:=Qy
theorem Q9{α β γ:Type _}{l:List γ}{g:γ->α}{f:α->List β}:fM (l.map g) f=fM l (λx=>f (g x)):=List.flatMap_map g f l
@[simp] theorem HK{α β:Type _}{l:List α}{f:α->List β}{b:β}:b∈fM l f↔∃a,a∈l/\b∈f a:=List.mem_flatMap
theorem Ut{α β:Type _}{l:List α}{f:α->List β}{p:β->Bool}:(fM l f).filter p=fM l λa=>(f a).filter p:=List.filter_flatMap
theorem PS{α β:Type _}{l:List α}{f:α->List β}{R:β->β->Prop}:(fM l f).Pairwise R↔(∀a∈l,(f a).Pairwise R)/\l.Pairwise λa₁ a₂=>∀x∈f a₁,∀y∈f a₂,R x y:=List.pairwise_flatMap
theorem Xe{α β γ:Type _}{l:List α}{f:α->List β}{g:β->List γ}:fM (fM l f) g=fM l λa=>fM (f a) g:=List.flatMap_assoc
theorem qD{α β:Type _}{l:List α}{f:α->List β}:(fM l f).length=(l.map λa=>(f a).length).sum:=List.length_flatMap
inductive D where
 |undef
 |bool (b:Bool)
 |int (k:IntKind) (n:Int)
 |str (s:List UInt8)
 |agg (cs:List D)
 |cK (cs:List D)
 |zg
 |ref (l i v off:Nat)
 |bg (cs:List D)
 |bz
 |bT (n:Nat) (cs:List D)
 |sl (l i v off n w:Nat)
 |fn (f:Nat) (first cap:List D)
 |pR
 |jU (l i:Nat)
 |own (s:Nat) (cs:List D)
 |vr (x s off:Nat)
 |ui (t:Nat) (d:D)
 |nK
 |emp
 deriving Inhabited
@[reducible] def iI(n:Int):D:=.int .i64 n
@[reducible,simp] def lF{α:Type _}(l:List α)(f:α->List D):D:=.bT l.length (fM l f)
mutual
def D.same:D->D->Bool
 |.undef,.undef=>true
 |.bool a,.bool b=>a == b
 |.int k n,.int k' n'=>k == k' && n == n'
 |.str a,.str b=>a == b
 |.agg a,.agg b=>D.Ap a b
 |.cK a,.cK b=>D.Ap a b
 |.zg,.zg=>true
 |.ref a b c d,.ref a' b' c' d'=>a == a' && b == b' && c == c' && d == d'
 |.bg a,.bg b=>D.Ap a b
 |.bz,.bz=>true
 |.bT n a,.bT m b=>n == m && D.Ap a b
 |.sl a b c d e f,.sl a' b' c' d' e' f'=>a == a' && b == b' && c == c' && d == d' && e == e' && f == f'
 |.fn f a b,.fn f' a' b'=>f == f' && D.Ap a a' && D.Ap b b'
 |.pR,.pR=>true
 |.jU a b,.jU a' b'=>a == a' && b == b'
 |.own s a,.own s' b=>s == s' && D.Ap a b
 |.vr a b c,.vr a' b' c'=>a == a' && b == b' && c == c'
 |.ui t a,.ui t' b=>t == t' && D.same a b
 |.nK,.nK=>true
 |.emp,.emp=>true
 |_,_=>false
def D.Ap:List D->List D->Bool
 |[],[]=>true
 |a::as,b::bs=>D.same a b && D.Ap as bs
 |_,_=>false
end
mutual
theorem NX:∀{a b:D},D.same a b=true->a=b
 |.undef,b,h=>by cases b<;>simp[D.same]at h;rfl
 |.bool _,b,h=>by cases b<;>simp[D.same]at h;rw[h]
 |.int _ _,b,h=>by cases b<;>simp[D.same]at h;rw[h.1,h.2]
 |.str _,b,h=>by cases b<;>simp[D.same]at h;rw[h]
 |.agg _,b,h=>by cases b<;>simp[D.same]at h;rw[wG h]
 |.cK _,b,h=>by cases b<;>simp[D.same]at h;rw[wG h]
 |.zg,b,h=>by cases b<;>simp[D.same]at h;rfl
 |.ref ..,b,h=>by cases b<;>simp[D.same]at h;simp[h]
 |.bg _,b,h=>by cases b<;>simp[D.same]at h;rw[wG h]
 |.bz,b,h=>by cases b<;>simp[D.same]at h;rfl
 |.bT ..,b,h=>by cases b<;>simp[D.same]at h;rw[h.1,wG h.2]
 |.sl ..,b,h=>by cases b<;>simp[D.same]at h;simp[h]
 |.fn ..,b,h=>by cases b<;>simp[D.same]at h;rw[h.1.1,wG h.1.2,wG h.2]
 |.pR,b,h=>by cases b<;>simp[D.same]at h;rfl
 |.jU ..,b,h=>by cases b<;>simp[D.same]at h;simp[h]
 |.own ..,b,h=>by cases b<;>simp[D.same]at h;rw[h.1,wG h.2]
 |.vr ..,b,h=>by cases b<;>simp[D.same]at h;simp[h]
 |.ui _ a,b,h=>by cases b<;>simp[D.same]at h;rw[h.1,NX h.2]
 |.nK,b,h=>by cases b<;>simp[D.same]at h;rfl
 |.emp,b,h=>by cases b<;>simp[D.same]at h;rfl
theorem wG:∀{a b:List D},D.Ap a b=true->a=b
 |[],[],_=>rfl
 |[],_::_,h=>by simp[D.Ap]at h
 |_::_,[],h=>by simp[D.Ap]at h
 |a::as,b::bs,h=>by
  simp only[D.Ap,af]at h;rw[NX h.1,wG h.2]
end
mutual
theorem H3:∀(a:D),D.same a a=true
 |.undef=>rfl
 |.bool b=>by simp[D.same]
 |.int k n=>by simp[D.same]
 |.str s=>by simp[D.same]
 |.agg a=>by simp[D.same,pT a]
 |.cK a=>by simp[D.same,pT a]
 |.zg=>rfl
 |.ref .. => by simp[D.same]
 |.bg a=>by simp[D.same,pT a]
 |.bz=>rfl
 |.bT n a=>by simp[D.same,pT a]
 |.sl .. => by simp[D.same]
 |.fn f a b=>by simp[D.same,pT a,pT b]
 |.pR=>rfl
 |.jU .. => by simp[D.same]
 |.own s a=>by simp[D.same,pT a]
 |.vr .. => by simp[D.same]
 |.ui t a=>by simp[D.same,H3 a]
 |.nK=>rfl
 |.emp=>rfl
theorem pT:∀(a:List D),D.Ap a a=true
 |[]=>rfl
 |a::as=>by simp[D.Ap,H3 a,pT as]
end
instance:DecidableEq D:=λa b=>if h:D.same a b=true then isTrue (NX h)else isFalse λe=>h (e ▸ H3 a)
inductive bP where
 |t (n:Nat)
 |c (d:D)
 deriving Inhabited,DecidableEq
inductive Pu where
 |Qj
 |Ln
 |U0
 |N5 (lo hi:Bool)
 |seq (neg:Bool)
 deriving Inhabited,DecidableEq
def ia:Pu->List D->Option D
 |.Qj,[.str s]=>some (.int .i64 s.length)
 |.Ln,[.str s,.int _ i]=>if 0<=i then(s[i.toNat]?).map λb => .int .u8 b.toNat else none
 |.U0,[.str a,.str b]=>if a.length+b.length<=4611686018427387904 then some (.str (a++b))else none
 |.N5 true true,[.str s,.int _ i,.int _ j]=>if 0<=i/\i<=j/\j<=s.length then some (.str ((s.drop i.toNat).take (j.toNat-i.toNat)))else none
 |.N5 true false,[.str s,.int _ i]=>if 0<=i/\i<=s.length then some (.str (s.drop i.toNat))else none
 |.N5 false true,[.str s,.int _ j]=>if 0<=j/\j<=s.length then some (.str (s.take j.toNat))else none
 |.N5 false false,[.str s]=>some (.str s)
 |.seq neg,[.str a,.str b]=>some (.bool (if neg then !(a == b)else a == b))
 |_,_=>none
abbrev Ky:=Option (Bool×List (Option IntKind))
inductive Mo where
 |make
 |K8 (t e:Nat)
 |get (ky:Ky) (zero:D) (ok:Bool)
 |put (ky:Ky)
 |len
 |rng
 |ent
 deriving Inhabited,DecidableEq
inductive Me where
 |b2s
 |s2b
 |s2a (n w:Nat)
 |peq (neg:Bool)
 deriving Inhabited,DecidableEq
inductive K where
 |mv (x:bP)
 |KA (w:Nat)
 |pick (c a b:bP)
 |Ug (nb:List (Nat×Nat)) (cs:List D)
 |B7 (nb:List (Nat×Nat)) (cs:List D)
 |K9 (x:bP)
 |La (x:bP)
 |YO (nb:List (Nat×Nat)) (x:bP)
 |FM (x:bP)
 |K8 (zero:List D) (parts:List (Nat×Nat×bP))
 |YN (n w:Nat) (zero:List D) (parts:List (Nat×Nat×bP))
 |WU (n w:Nat) (zero:List D) (parts:List (Nat×Nat×bP))
 |ld (ag:Bool) (sz:Nat) (a:bP)
 |Vf (ag:Bool) (sz:Nat) (a:bP)
 |Ve (ag:Bool) (sz:Nat) (a:bP)
 |isn (ps neg:Bool) (x:bP)
 |nck (x:bP)
 |st (nb:List (Nat×Nat)) (sz:Nat) (a x:bP)
 |U6 (os:List Nat) (sz:Nat) (a x:bP)
 |Vg (v:Nat) (ag:Bool) (sz:Nat) (a:Nat)
 |H5 (v:Nat) (nb:List (Nat×Nat)) (sz:Nat) (a:Nat) (x:bP)
 |bin (o:BinOp) (x y:bP)
 |eqv (ag:Bool) (ks:List (Option IntKind)) (neg:Bool) (x y:bP)
 |un (o:UnOp) (x:bP)
 |W4 (k:IntKind) (x:bP)
 |XM (f:Nat) (first cap:List bP)
 |YR (w bytes:Nat) (zero:List D) (l c:bP)
 |Vj (w:Nat) (x:bP) (lo hi mx:Option bP)
 |RN (len w:Nat) (x:bP) (lo hi:Option bP)
 |Lc (off:Nat) (x:bP)
 |fld (ag:Bool) (off sz:Nat) (x:bP)
 |Lf (len w:Nat) (x i:bP)
 |HG (w:Nat) (x i:bP)
 |Nq (ag:Bool) (len w:Nat) (x i:bP)
 |Li (x:bP)
 |Rn (n:Nat)
 |mn (x y:bP)
 |mx (x y:bP)
 |app (w bytes:Nat) (s x:bP)
 |Ui (os:List Nat) (w bytes:Nat) (s x:bP)
 |YM (w bytes:Nat) (s x:bP)
 |YP (w bytes:Nat) (x:bP)
 |cvz (x:bP)
 |bse
 |ape (w bytes v:Nat) (x:bP)
 |ext (x:bP) (i:Nat)
 |I2 (o:Pu) (xs:List bP)
 |mp (o:Mo) (xs:List bP)
 |me (o:Me) (xs:List bP)
 |XN (t:Nat) (x:bP)
 |YU (t:Nat) (zero:Option D) (x:bP)
 |isi (neg:Bool) (x:bP)
 |XZ (x:bP)
 |QA
 |call (kp:Bool) (f:bP) (args:List bP)
 deriving Inhabited,DecidableEq
structure Op where
 dst:Option Nat
 FQ:Option (Nat×Bool)
 Dd:Bool
 k:K
 deriving Inhabited,DecidableEq
inductive b9 where
 |Ji
 |cF (vs:List Nat)
 |si (live:List Nat) (ops:List Op)
 |seq (a b:b9)
 |ite (c:bP) (a b:b9)
 |dJ (id:Nat) (a:b9)
 |loop (live:List Nat) (bF:Bool) (a:b9)
 |NR (live:List Nat) (f:bP) (params:List Nat) (B9 body:b9)
 |iq (live:List Nat) (it:bP) (nx ok b:Nat) (a rest:b9)
 |Qs (live:List Nat) (pre:List Op) (op:Op) (post:List Op)
 |Uq (f:bP) (args:List bP) (rest:b9)
 |exit (id:Nat)
 |ret
 |sgm (a:b9)
 deriving Inhabited,DecidableEq
inductive Exit where
 |normal
 |exit (id:Nat)
 |ret
 |fu (d:D)
 deriving Inhabited,DecidableEq
abbrev Env:=List (Nat×D)
def get:Env->Nat->D
 |[],_ => .undef
 |(k,v)::r,t=>if k=t then v else get r t
def put(d:Option Nat)(v:D)(e:Env):Env :=
 match d with
 |some t=>(t,v)::e
 |none=>e
def D.calm:D->D
 |.vr .. => .undef
 |.emp => .undef
 |.own _ cs => .own 0 cs
 |d=>d
def D.strip:D->D
 |.vr .. => .undef
 |.emp => .undef
 |.own .. => .undef
 |d=>d
def restrict(live:List Nat)(e:Env):Env:=live.map λt=>(t,(get e t).calm)
def keys(e:Env):List Nat:=(e.map (·.1)).eraseDups
def zr(live:List Nat)(e:Env):Env:=live.map λt=>(t,(get e t).strip)
def Ba(live:List Nat)(x:Exit)(e:Env):List Nat :=
 match x with
 |.normal=>live
 |_=>keys e
structure xX where
 state:Nat
 zj:Option Exit
 env:Env
 params:List Nat
 B9:b9
 body:b9
 deriving DecidableEq
inductive aG where
 |cells (v:Nat) (cs:List D)
 |dead
 |loop (l:xX)
 deriving DecidableEq
abbrev SK:=List (List aG)
def eT:SK->Nat->Option (List aG)
 |[],_=>none
 |s::J,l=>if J.length=l then some s else eT J l
def gT:SK->Nat->List aG->SK
 |[],_,_=>[]
 |s::J,l,s'=>if J.length=l then s'::J else s::gT J l s'
def dZ(J:SK)(l i:Nat):Option aG:=(eT J l).bind (·[i]?)
def bj(J:SK)(l i:Nat)(b:aG):SK :=
 match eT J l with
 |some s=>gT J l (s.set i b)
 |none=>J
def cells?(J:SK)(l i v:Nat):Option (List D) :=
 match dZ J l i with
 |some (.cells v' cs)=>if v'=v then some cs else none
 |_=>none
def fR(J:SK)(b:aG):Option (Nat×Nat×SK) :=
 match J with
 |[]=>none
 |s::J'=>some (J'.length,s.length,(s++[b])::J')
mutual
def D.clean:D->Bool
 |.ref .. => false
 |.sl .. => false
 |.jU .. => false
 |.vr .. => true
 |.emp=>true
 |.own _ cs=>D.bf cs
 |.agg cs=>D.bf cs
 |.cK cs=>D.bf cs
 |.bg cs=>D.bf cs
 |.bT _ cs=>D.bf cs
 |.fn _ a b=>D.bf a && D.bf b
 |.undef=>true
 |.bool _=>true
 |.int _ _=>true
 |.str _=>true
 |.zg=>true
 |.bz=>true
 |.pR=>true
 |.ui _ d=>D.clean d
 |.nK=>true
def D.bf:List D->Bool
 |[]=>true
 |d::ds=>D.clean d && D.bf ds
end
def cF(l:Nat):Nat->D->SK->D×SK
 |0,_,J=>(.undef,J)
 |n+1,d,J =>
  if d.clean then(d,J)else
  match d with
  |.agg cs=>let r:=frzL (cF l n) cs J;(.agg r.1,r.2)
  |.cK cs=>let r:=frzL (cF l n) cs J;(.cK r.1,r.2)
  |.bg cs=>let r:=frzL (cF l n) cs J;(.bg r.1,r.2)
  |.bT m cs=>let r:=frzL (cF l n) cs J;(.bT m r.1,r.2)
  |.own s cs=>let r:=frzL (cF l n) cs J;(.own s r.1,r.2)
  |.fn f a b=>let r:=frzL (cF l n) a J;let r':=frzL (cF l n) b r.2;(.fn f r.1 r'.1,r'.2)
  |.ref l' i v off=>if l'<=l then(.ref l' i v off,J)else(.undef,J)
  |.jU l' i=>if l'<=l then(.jU l' i,J)else(.undef,J)
  |.sl l' i v off m w =>
   if l'<=l then(.sl l' i v off m w,J)else
   match cells? J l' i v with
   |some cs=>let r:=frzL (cF l n) ((cs.drop off).take (m*w)) (bj J l' i .dead);(.bT m r.1,r.2)
   |none=>(.undef,J)
  |_=>(.undef,J)
where
 frzL (f:D->SK->D×SK):List D->SK->List D×SK
  |[],J=>([],J)
  |d::ds,J=>let r:=f d J;let r':=frzL f ds r.2;(r.1::r'.1,r'.2)
def deep:Nat:=16
def pj(l:Nat):Env->SK->Env×SK
 |[],J=>([],J)
 |(t,d)::e,J=>let r:=cF l deep d J;let r':=pj l e r.2;((t,r.1)::r'.1,r'.2)
inductive Q where
 |call (kp:Bool) (f:Nat) (args:List D) (J:SK)
 |loop (live:List Nat) (bF:Bool) (c:b9) (env:Env) (J:SK)
 |round (l i:Nat) (args:List D) (J:SK)
 |iq (live:List Nat) (it:bP) (nx ok b:Nat) (c rest:b9) (env:Env) (J:SK)
 |zG (f:Nat) (args:List D) (th:Option D) (J:SK)
inductive R where
 |val (d:D) (J:SK)
 |EX (e:Exit) (env:Env) (J:SK)
 |fu (d:D) (J:SK)
 deriving DecidableEq
abbrev cf:=Q->Option R
def bB(e:Env):bP->D
 |.t n=>(get e n).strip
 |.c d=>d
def D.cells:D->Option (List D)
 |.agg cs=>some cs
 |.undef=>none
 |.cK _=>none
 |.own .. => none
 |.vr .. => none
 |.emp=>none
 |d=>some [d]
def D.row(ag:Bool)(d:D):Option (List D) :=
 match ag,d with
 |true,.agg cs=>some cs
 |true,_=>none
 |false,.agg _=>none
 |false,d=>d.cells
def iO(e:Env):List (Nat×Nat×bP)->List D->Option (List D)
 |[],cs=>some cs
 |(off,sz,x)::r,cs =>
  match(bB e x).cells with
  |some p=>if p.length=sz/\off+sz<=cs.length then iO e r (cs.take off++p++cs.drop (off+sz))else none
  |none=>none
def Cg:List (Option IntKind)->List D->List D->Option Bool
 |[],[],[]=>some true
 |some k::ks,.int k1 a::x,.int k2 b::y=>if k1=k/\k2=k then(Cg ks x y).map (a == b && ·)else none
 |none::ks,.bool a::x,.bool b::y=>(Cg ks x y).map (a == b && ·)
 |_,_,_=>none
def u6(o:BinOp):D->D->Option D
 |.int k a,.int k' b =>
  match o with
  |.shl=>if b<0 then none else some (.int k (k.wrap (a*2^(min b.toNat k.bits))))
  |.shr=>if b<0 then none else some (.int k (a.fdiv (2^(min b.toNat k.bits))))
  |.add=>if k=k' then some (.int k (k.wrap (a+b)))else none
  |.sub=>if k=k' then some (.int k (k.wrap (a-b)))else none
  |.mul=>if k=k' then some (.int k (k.wrap (a*b)))else none
  |.quo=>if k=k'/\b≠0 then some (.int k (k.wrap (a.tdiv b)))else none
  |.rem=>if k=k'/\b≠0 then some (.int k (a.tmod b))else none
  |.and=>if k=k' then some (.int k (k.wrap ((BitVec.ofInt k.bits a &&& BitVec.ofInt k.bits b).toNat:Int)))else none
  |.or=>if k=k' then some (.int k (k.wrap ((BitVec.ofInt k.bits a ||| BitVec.ofInt k.bits b).toNat:Int)))else none
  |.xor=>if k=k' then some (.int k (k.wrap ((BitVec.ofInt k.bits a ^^^ BitVec.ofInt k.bits b).toNat:Int)))else none
  |.andNot=>none
  |.eql=>if k=k' then some (.bool (a == b))else none
  |.neq=>if k=k' then some (.bool (a != b))else none
  |.lss=>if k=k' then some (.bool (decide (a<b)))else none
  |.leq=>if k=k' then some (.bool (decide (a<=b)))else none
  |.gtr=>if k=k' then some (.bool (decide (a>b)))else none
  |.geq=>if k=k' then some (.bool (decide (a>=b)))else none
 |_,_=>none
def GN:D->Option Int
 |.int _ n=>some n
 |_=>none
def BV(e:Env)(m:Nat)(dfl:Option Nat):Option bP->Option Nat
 |some x=>match GN (bB e x)with
  |some n=>if 0<=n/\n<=m then some n.toNat else none
  |none=>none
 |none=>dfl
def bounds(len:Nat)(e:Env)(lo hi mx:Option bP):Option (Nat×Nat) :=
 (BV e len (some len) mx).bind λm=>(BV e m (if mx.isSome then none else some len) hi).bind λh=>(BV e h (some 0) lo).map λl=>(l,h)
def sS(ky:Ky)(a b:D):Option Bool :=
 match ky with
 |none=>match a,b with
  |.str x,.str y=>some (x == y)
  |_,_=>none
 |some (ag,ks)=>match a.row ag,b.row ag with
  |some p,some q=>Cg ks p q
  |_,_=>none
def pD(ky:Ky)(k:D):List D->Option (Option (Nat×D))
 |[]=>some none
 |.cK [k',v]::es =>
  match sS ky k k' with
  |some true=>some (some (0,v))
  |some false=>(pD ky k es).map λx=>x.map λy=>(y.1+1,y.2)
  |none=>none
 |_=>none
def Dg(J:SK):D->Option (Nat×Nat×List D)
 |.jU l i=>(cells? J l i 0).map λes=>(l,i,es)
 |_=>none
def Dc(J:SK):Mo->List D->Option (D×SK)
 |.make,[]=>(fR J (.cells 0 [])).map λx=>(.jU x.1 x.2.1,x.2.2)
 |.K8 t e,[]=>(fR J (.cells 2 [.int .i64 (t:Nat),.int .i64 (e:Nat),.str []])).map λx=>(.jU x.1 x.2.1,x.2.2)
 |.get ky zero ok,[m,k] =>
  match Dg J m with
  |some (_,_,es) =>
   if(sS ky k k).isSome then
    match pD ky k es with
    |some (some (_,v))=>some (if ok then .cK [v,.bool true]else v,J)
    |some none=>some (if ok then .cK [zero,.bool false]else zero,J)
    |none=>none
   else none
  |none=>none
 |.put ky,[m,k,v] =>
  match Dg J m with
  |some (l,i,es) =>
   if(sS ky k k).isSome/\(l+1=J.length\/(k.clean/\v.clean))then
    match pD ky k es with
    |some (some (j,_))=>some (.undef,bj J l i (.cells 0 (es.set j (.cK [k,v]))))
    |some none=>some (.undef,bj J l i (.cells 0 (es++[.cK [k,v]])))
    |none=>none
   else none
  |none=>none
 |.len,[m]=>(Dg J m).map λx=>(.int .i64 x.2.2.length,J)
 |.rng,[m] =>
  match Dg J m with
  |some (lm,im,es)=>(fR J (.cells 1 [.jU lm im,.int .i64 es.length])).map λx=>(.jU x.1 x.2.1,x.2.2)
  |none=>none
 |.ent,[.jU l i] =>
  match cells? J l i 1 with
  |some (m::.int .i64 n::.int .i64 j::_) =>
   match Dg J m with
   |some (_,_,es)=>if(es.length:Int)=n then
     match es[j.toNat]? with
     |some (.cK [k,v])=>some (.cK [k,v],J)
     |_=>none
    else none
   |none=>none
  |_=>none
 |_,_=>none
def strCells(s:List UInt8):List D:=s.map λb => .int .u8 b.toNat
def elems(J:SK)(w:Nat):D->Option (Nat×List D)
 |.bz=>some (0,[])
 |.str s=>if w=1 then some (s.length,strCells s)else none
 |.bT n cs=>if cs.length=n*w then some (n,cs)else none
 |.sl l i v off n w' =>
  if w'=w then
   match cells? J l i v with
   |some cs=>if off+n*w<=cs.length then some (n,(cs.drop off).take (n*w))else none
   |none=>none
  else none
 |_=>none
def Dn:List D->Option (List UInt8)
 |[]=>some []
 |.int .u8 n::r=>(Dn r).map (UInt8.ofNat n.toNat :: ·)
 |_=>none
def Vh(J:SK):Me->List D->Option (D×SK)
 |.b2s,[.str _]=>none
 |.b2s,[x]=>(elems J 1 x).bind λr=>(Dn r.2).map λs=>(.str s,J)
 |.s2b,[.str s]=>some (.bT s.length (strCells s),J)
 |.s2a n w,[.bT m cs]=>if 0<n/\n<=m then some (.bg (cs.take (n*w)),J)else none
 |.peq neg,[.ref l i v o,.ref l' i' v' o']=>if l=l'/\i=i'/\o=o'/\v=v'/\(cells? J l i v).isSome then some (.bool (!neg),J)else none
 |_,_=>none
def room:Nat:=2^46
def kj:List (Nat×Nat)->List D->SK->Option (List D×SK)
 |[],cs,J=>some (cs,J)
 |(p,w)::r,cs,J =>
  match cs[p]? with
  |some .bz=>do
   let (l,i,J')<-fR J (.cells 0 [])
   kj r (cs.set p (.sl l i 0 0 0 w)) J'
  |_=>kj r cs J
def qT(e:Env)(v a:Nat):Option (Nat×List D×Nat) :=
 match get e v with
 |.own s cs =>
  if a=v then some (s,cs,0)else
  match get e a with
  |.vr x s' off=>if x=v/\s'=s then some (s,cs,off)else none
  |_=>none
 |_=>none
def uy(e:Env)(v:Nat):Nat :=
 match get e v with
 |.own s _=>s+1
 |_=>0
def HR(J:SK):D->Option (List D)
 |.bg cs=>some cs
 |.ref l i v off=>(cells? J l i v).map (·.drop off)
 |_=>none
def Vi(J:SK):D->Option (List D)
 |.ref l i 0 off=>HR J (.ref l i 0 off)
 |_=>none
def Lh(ps:Bool)(d:D):Option Bool :=
 match ps,d with
 |true,.zg=>some true
 |true,.bg _=>some false
 |true,.ref .. => some false
 |false,.bz=>some true
 |false,.bT n _=>if n=0 then none else some false
 |false,.sl _ _ _ _ n _=>if n=0 then none else some false
 |_,_=>none
def R4(t:Nat)(z:Option D):D->Option D
 |.ui t' d=>match z with
  |some z=>some (if t'=t then .cK [d,.bool true]else .cK [z,.bool false])
  |none=>if t'=t then some d else none
 |.nK=>z.map λz => .cK [z,.bool false]
 |_=>none
def Xu:D->Option Bool
 |.nK=>some true
 |.ui .. => some false
 |_=>none
def D.off(l i:Nat):D->Bool
 |.ref l' i' _ _=>decide (¬(l'=l/\i'=i))
 |_=>true
def M3(e:Env)(J:SK)(w bytes:Nat)(s x:bP):Option (D×SK):=do
  let (m,xs)<-elems J w (bB e x)
  match bB e s with
  |.bz =>
   if m*bytes<=room then
    if m=0 then some (.bz,J)else do
    let (l,i,J')<-fR J (.cells 0 xs)
    some (.sl l i 0 0 m w,J')
   else none
  |.sl l i v off n w' =>
   match cells? J l i v with
   |some cs =>
    if w'=w/\off+n*w<=cs.length/\(n+m)*bytes<=room then
     if l+1=J.length then
      some (.sl l i (v+1) 0 (n+m) w,bj J l i (.cells (v+1) ((cs.drop off).take (n*w)++xs)))
     else
      let r:=cF.frzL (cF l deep) xs J
      some (.sl l i (v+1) 0 (n+m) w,bj r.2 l i (.cells (v+1) ((cs.drop off).take (n*w)++r.1)))
    else none
   |none=>none
  |_=>none
def bR(e:Env)(J:SK):K->Option (D×SK)
 |.mv x=>some (bB e x,J)
 |.KA w=>do
  let (l,i,J')<-fR J (.cells 0 [])
  some (.sl l i 0 0 0 w,J')
 |.pick c a b =>
  match bB e c with
  |.bool t=>some (if t then bB e a else bB e b,J)
  |_=>none
 |.Ug nb cs=>do
  let (cs',J1)<-kj nb cs J
  let (l,i,J')<-fR J1 (.cells 0 cs')
  some (.ref l i 0 0,J')
 |.K9 x=>(bB e x).cells.map λcs=>(.bg cs,J)
 |.La x=>do
  let cs<-(bB e x).cells
  let (l,i,J')<-fR J (.cells 0 cs)
  some (.ref l i 0 0,J')
 |.YO nb x=>do
  let cs<-(bB e x).cells
  let (cs',J1)<-kj nb cs J
  let (l,i,J')<-fR J1 (.cells 0 cs')
  some (.ref l i 0 0,J')
 |.B7 .. => none
 |.FM _=>none
 |.H5 .. => none
 |.Vg v ag sz a =>
  match qT e v a with
  |some (_,cs,off) =>
   let cs:=cs.drop off
   if sz<=cs.length then
    if ag then some (.agg (cs.take sz),J)else
    match cs with
    |d::_=>some (d,J)
    |[]=>none
   else none
  |none=>none
 |.K8 zero parts=>do
  let cs<-iO e parts zero
  some (.agg cs,J)
 |.YN n _ zero parts=>do
  let cs<-iO e parts zero
  some (.bT n cs,J)
 |.WU n w zero parts=>do
  let cs<-iO e parts zero
  let (l,i,J')<-fR J (.cells 0 cs)
  some (.sl l i 0 0 n w,J')
 |.ld ag sz a =>
  match HR J (bB e a)with
  |some cs =>
   if sz<=cs.length then
    if ag then some (.agg (cs.take sz),J)else
    match cs with
    |d::_=>some (d,J)
    |[]=>none
   else none
  |none=>none
 |.Ve ag sz a =>
  match Vi J (bB e a)with
  |some cs =>
   if sz<=cs.length then
    if ag then some (.agg (cs.take sz),J)else
    match cs with
    |d::_=>some (d,J)
    |[]=>none
   else none
  |none=>none
 |.Vf ag sz a =>
  match bB e a with
  |.bg cs =>
   if sz<=cs.length then
    if ag then some (.agg (cs.take sz),J)else
    match cs with
    |d::_=>some (d,J)
    |[]=>none
   else none
  |_=>none
 |.isn ps neg x=>(Lh ps (bB e x)).map λb=>(.bool (if neg then !b else b),J)
 |.nck x =>
  match bB e x with
  |.bg cs=>some (.bg cs,J)
  |.ref l i v off=>some (.ref l i v off,J)
  |_=>none
 |.st nb sz a x =>
  match bB e a with
  |.ref l i v off =>
   match cells? J l i v with
   |some cs =>
    match(bB e x).cells with
    |some p =>
     if p.length=sz/\off+sz<=cs.length then
      if l+1=J.length then
       match kj nb p J with
       |some (p',J1)=>some (.undef,bj J1 l i (.cells v (cs.take off++p'++cs.drop (off+sz))))
       |none=>none
      else
       let r:=cF.frzL (cF l deep) p J
       some (.undef,bj r.2 l i (.cells v (cs.take off++r.1++cs.drop (off+sz))))
     else none
    |none=>none
   |none=>none
  |_=>none
 |.U6 os sz a x =>
  match bB e a with
  |.ref l i v off =>
   if(os.all λt=>D.off l i (get e t))=true then
    match cells? J l i v with
    |some cs =>
     match(bB e x).cells with
     |some p =>
      if p.length=sz/\off+sz<=cs.length/\(D.bf p=true\/l+1=J.length)then some (.undef,bj J l i (.cells v (cs.take off++p++cs.drop (off+sz))))else none
     |none=>none
    |none=>none
   else none
  |_=>none
 |.bin o x y=>(u6 o (bB e x) (bB e y)).map (·,J)
 |.eqv ag ks neg x y =>
  match(bB e x).row ag,(bB e y).row ag with
  |some p,some q=>(Cg ks p q).map λb=>(.bool (if neg then !b else b),J)
  |_,_=>none
 |.un o x =>
  match o,bB e x with
  |.not,.bool b=>some (.bool !b,J)
  |.neg,.int k n=>some (.int k (k.wrap (0-n)),J)
  |.xor,.int k n=>some (.int k (k.wrap ((BitVec.ofInt k.bits (if k.signed then -1 else k.max) ^^^ BitVec.ofInt k.bits n).toNat:Int)),J)
  |_,_=>none
 |.W4 k x =>
  match bB e x with
  |.int _ n=>some (.int k (k.wrap n),J)
  |_=>none
 |.XM f first cap=>some (.fn f (first.map (bB e)) (cap.map (bB e)),J)
 |.YR w bytes zero l c =>
  match bB e l,bB e c with
  |.int .i64 n,.int .i64 m =>
   if 0<=n/\n=m/\n*bytes<=(room:Int)/\zero.length=w then do
    let (l,i,J')<-fR J (.cells 0 (fM (List.range n.toNat) λ_=>zero))
    some (.sl l i 0 0 n.toNat w,J')
   else none
  |_,_=>none
 |.Vj w x lo hi mx =>
  match bB e x with
  |.bT n cs=>(bounds n e lo hi mx).map λb=>(.bT (b.2-b.1) ((cs.drop (b.1*w)).take ((b.2-b.1)*w)),J)
  |.sl l i v off n w'=>if w'=w then(bounds n e lo hi mx).map λb=>(.sl l i v (off+b.1*w) (b.2-b.1) w,J)else none
  |.bz=>(bounds 0 e lo hi mx).map λ_=>(.bz,J)
  |_=>none
 |.RN len w x lo hi =>
  match bB e x with
  |.bg cs=>(bounds len e lo hi none).map λb=>(.bT (b.2-b.1) ((cs.drop (b.1*w)).take ((b.2-b.1)*w)),J)
  |.ref l i v off =>
   match cells? J l i v with
   |some cs=>if len<=1000000/\off+len*w<=cs.length then(bounds len e lo hi none).map λb=>(.sl l i v (off+b.1*w) (b.2-b.1) w,J)else none
   |none=>none
  |_=>none
 |.Lc off x =>
  match x with
  |.t n =>
   match get e n with
   |.bg cs=>some (.bg (cs.drop off),J)
   |.ref l i v o=>some (.ref l i v (o+off),J)
   |.own s _=>some (.vr n s off,J)
   |.vr v s o=>some (.vr v s (o+off),J)
   |_=>none
  |.c _=>none
 |.fld ag off sz x =>
  match bB e x with
  |.agg cs =>
   if off+sz<=cs.length then
    if ag then some (.agg ((cs.drop off).take sz),J)else(cs[off]?).map (·,J)
   else none
  |_=>none
 |.Lf len w x i =>
  match x,GN (bB e i)with
  |.t m,some n =>
   if 0<=n/\n<len then
    match get e m with
    |.bg cs=>some (.bg ((cs.drop (n.toNat*w)).take w),J)
    |.ref l j v off=>some (.ref l j v (off+n.toNat*w),J)
    |.own s _=>some (.vr m s (n.toNat*w),J)
    |.vr v s o=>some (.vr v s (o+n.toNat*w),J)
    |_=>none
   else none
  |_,_=>none
 |.HG w x i =>
  match bB e x,GN (bB e i)with
  |.bT m cs,some n=>if 0<=n/\n<m then some (.bg ((cs.drop (n.toNat*w)).take w),J)else none
  |.sl l j v off m w',some n=>if 0<=n/\n<m/\w'=w then some (.ref l j v (off+n.toNat*w),J)else none
  |_,_=>none
 |.Nq ag len w x i =>
  match bB e x,GN (bB e i)with
  |.agg cs,some n =>
   if 0<=n/\n<len/\(n.toNat+1)*w<=cs.length then
    if ag then some (.agg ((cs.drop (n.toNat*w)).take w),J)else(cs[n.toNat*w]?).map (·,J)
   else none
  |_,_=>none
 |.Li x =>
  match bB e x with
  |.bz=>some (.int .i64 0,J)
  |.bT n _=>some (.int .i64 n,J)
  |.sl _ _ _ _ n _=>some (.int .i64 n,J)
  |_=>none
 |.Rn n=>some (.int .i64 n,J)
 |.mn x y =>
  match bB e x,bB e y with
  |.int k a,.int _ b=>some (.int k (min a b),J)
  |_,_=>none
 |.mx x y =>
  match bB e x,bB e y with
  |.int k a,.int _ b=>some (.int k (max a b),J)
  |_,_=>none
 |.app w bytes s x=>do
  let (m,xs)<-elems J w (bB e x)
  match bB e s with
  |.bz =>
   if m*bytes<=room then
    if m=0 then some (.bz,J)else do
    let (l,i,J')<-fR J (.cells 0 xs)
    some (.sl l i 0 0 m w,J')
   else none
  |.sl l i v off n w' =>
   match cells? J l i v with
   |some cs =>
    if w'=w/\off+n*w<=cs.length/\(n+m)*bytes<=room then
     if l+1=J.length then
      some (.sl l i (v+1) 0 (n+m) w,bj J l i (.cells (v+1) ((cs.drop off).take (n*w)++xs)))
     else
      let r:=cF.frzL (cF l deep) xs J
      some (.sl l i (v+1) 0 (n+m) w,bj r.2 l i (.cells (v+1) ((cs.drop off).take (n*w)++r.1)))
    else none
   |none=>none
  |_=>none
 |.Ui os w bytes s x =>
  match bB e s with
  |.sl l i _ _ _ _=>if(os.all λt=>D.off l i (get e t))=true then(elems J w (bB e x)).bind λr=>if D.bf r.2=true then M3 e J w bytes s x else none else none
  |_=>none
 |.YM w bytes s x=>(M3 e J w bytes s x).map λr=>cF 0 deep r.1 r.2
 |.YP w bytes x=>do
  let (m,xs)<-elems J w (bB e x)
  if m*bytes<=room then some (.bT m xs,J)else none
 |.cvz x =>
  match bB e x with
  |.sl l i v off n w =>
   if 0<n then
    match cells? J l i v with
    |some cs=>some (.bT n ((cs.drop off).take (n*w)),bj J l i .dead)
    |none=>none
   else none
  |_=>none
 |.bse=>some (.emp,J)
 |.ape w bytes v x =>
  match get e v with
  |.emp=>(elems J w (bB e x)).bind λr=>if r.1*bytes<=room then some (.bT r.1 r.2,J)else none
  |_=>none
 |.ext x i =>
  match bB e x with
  |.cK ds=>(ds[i]?).map (·,J)
  |_=>none
 |.I2 o xs=>(ia o (xs.map (bB e))).map (·,J)
 |.mp o xs=>Dc J o (xs.map (bB e))
 |.me o xs=>Vh J o (xs.map (bB e))
 |.XN t x=>some (.ui t (bB e x),J)
 |.YU t z x=>(R4 t z (bB e x)).map (·,J)
 |.isi neg x=>(Xu (bB e x)).map λb=>(.bool (if neg then !b else b),J)
 |.XZ _=>none
 |.QA=>none
 |.call _ _ _=>none
def R.dz:Option R->Option (D×SK)
 |some (.val d J)=>some (d,J)
 |_=>none
def R.Up:Option R->Option (Exit×Env×SK)
 |some (.EX e env J)=>some (e,env,J)
 |_=>none
def oi(O:cf)(kp:Bool)(fv:D)(args:List D)(J:SK):Option (D×SK) :=
 match fv with
 |.fn f first cap=>R.dz (O (.call kp f (first++args++cap) J))
 |.jU l i=>R.dz (O (.round l i args J))
 |_=>none
def Io(O:cf)(fv:D)(args:List D)(J:SK):Option (D×SK) :=
 match fv with
 |.fn f first cap=>R.dz (O (.call false f (first++args++cap) J))
 |_=>none
def wM(O:cf)(op:Op)(e:Env)(J:SK):Option (Env×SK) :=
 match op.k with
 |.call kp f args =>
  match oi O kp (bB e f) (args.map (bB e)) J with
  |some (d,J')=>if op.Dd=true->J'=J then some (put op.dst d e,J')else none
  |none=>none
 |.B7 nb cs =>
  match op.dst,kj nb cs J with
  |some v,some (cs',J')=>some ((v,.own (uy e v) cs')::e,J')
  |_,_=>none
 |.FM x =>
  match op.dst,(bB e x).cells with
  |some v,some cs=>some ((v,.own (uy e v) cs)::e,J)
  |_,_=>none
 |.H5 v nb sz a x =>
  match qT e v a,(bB e x).cells with
  |some (s,cs,off),some p =>
   if p.length=sz/\off+sz<=cs.length then
    match kj nb p J with
    |some (p',J')=>some ((v,.own s (cs.take off++p'++cs.drop (off+sz)))::e,J')
    |none=>none
   else none
  |_,_=>none
 |k=>(bR e J k).map λx=>(put op.dst x.1 e,x.2)
def D.bit:D->Option (Option Bool)
 |.bool b=>some (some b)
 |.cK []=>some none
 |_=>none
def lu(O:cf):List Op->Env->SK->Option (Env×SK)
 |[],e,J=>some (e,J)
 |op::r,e,J =>
  match op.FQ with
  |none=>(wM O op e J).bind λx=>lu O r x.1 x.2
  |some (g,want) =>
   match(get e g).bit with
   |some y=>if y=some want then(wM O op e J).bind λx=>lu O r x.1 x.2 else lu O r (put op.dst (.cK []) e) J
   |none=>none
def D.qY:D->D
 |.bz => .bT 0 []
 |d=>d
def GG(l i u:Nat)(J:SK):D×SK :=
 match cells? J l i u with
 |some cs=>let r:=cF.frzL (cF 0 deep) cs (bj J l i .dead);(.bg (r.1.map D.qY),r.2)
 |none=>(.undef,J)
def aaG(v:Nat)(e:Env):Env :=
 match get e v with
 |.own _ cs=>if e.all (λp=>match p.2 with | .vr x _ _=>x != v | _=>true)then(v,.bg cs)::e else e
 |_=>e
def Le(v:Nat)(e:Env)(J:SK):Env×SK :=
 match get e v with
 |.bz=>((v,.bT 0 [])::e,J)
 |.ref l i u 0=>let r:=GG l i u J;((v,r.1)::e,r.2)
 |.own s cs=>((v,.own s (cs.map D.qY))::e,J)
 |.undef=>if 1000000<=v then(aaG (v-1000000) e,J)else(e,J)
 |_=>(e,J)
def vd:List Nat->Env->SK->Env×SK
 |[],e,J=>(e,J)
 |v::vs,e,J =>
  match get e v with
  |.sl l i u off m w=>let r:=cF 0 deep (.sl l i u off m w) J;vd vs ((v,r.1)::e) r.2
  |.own s cs=>let r:=cF.frzL (cF 0 deep) cs J;vd vs ((v,.own s r.1)::e) r.2
  |.agg cs=>vd vs ((v,.agg (cs.map D.qY))::e) J
  |.undef=>if 1000000<=v then(let r:=Le (v-1000000) e J;vd vs r.1 r.2)else vd vs e J
  |_=>vd vs e J
def CU(O:cf)(fv:D)(args:List D)(J:SK):Option R :=
 match fv with
 |.fn f first cap=>O (.call false f (first++args++cap) J)
 |_=>none
def uE(O:cf)(live:List Nat)(dst:Option Nat)(post:List Op)(e:Env):Option R->Option (Exit×Env×SK)
 |some (.val d J')=>(lu O post (put dst d e) J').map λy=>(.normal,restrict live y.1,y.2)
 |some (.fu d J')=>some (.fu d,e,J')
 |_=>none
def IX(O:cf)(live:List Nat)(op:Op)(post:List Op)(e:Env)(J:SK):Option (Exit×Env×SK) :=
 match op.FQ,op.k with
 |none,.call false f args=>uE O live op.dst post e (CU O (bB e f) (args.map (bB e)) J)
 |none,.XZ x=>(match bB e x with
  |.ui t d=>if d.clean then some (.fu (.ui t d),e,J)else none
  |_=>none)
 |_,_=>none
def bu(O:cf):b9->Env->SK->Option (Exit×Env×SK)
 |.Ji,e,J=>some (.normal,e,J)
 |.cF vs,e,J=>let r:=vd vs e J;some (.normal,r.1,r.2)
 |.si live ops,e,J=>(lu O ops e J).map λx=>(.normal,restrict live x.1,x.2)
 |.seq a b,e,J=>(bu O a e J).bind λx =>
  match x.1 with
  |.normal=>bu O b x.2.1 x.2.2
  |_=>some x
 |.ite c a b,e,J =>
  match bB e c with
  |.bool t=>if t then bu O a e J else bu O b e J
  |_=>none
 |.dJ id a,e,J=>(bu O a e J).map λx =>
  match x.1 with
  |.exit j=>if j=id then(.normal,x.2)else x
  |_=>x
 |.loop live bF a,e,J=>R.Up (O (.loop live bF a e J))
 |.NR live f params B9 body,e,J =>
  match fR J (.loop {state:=0,zj:=none,env:=zr live e,params,B9,body })with
  |some (l,i,J1) =>
   match Io O (bB e f) [.jU l i] J1 with
   |some (_,J2) =>
    match dZ J2 l i with
    |some (.loop lp) =>
     if lp.state=1 then none else
     some (lp.zj.getD .normal,restrict live e,bj J2 l i (.loop {lp with state:=3 }))
    |_=>none
   |none=>none
  |none=>none
 |.iq live it nx ok b a rest,e,J=>R.Up (O (.iq live it nx ok b a rest e J))
 |.Qs live pre op post,e,J=>(lu O pre e J).bind λx=>IX O live op post x.1 x.2
 |.Uq ..,_,_=>none
 |.sgm a,e,J=>(bu O a e ([]::J)).map λx=>(x.1,(pj (J.length-1) (restrict (keys x.2.1) x.2.1) x.2.2).1,(pj (J.length-1) (restrict (keys x.2.1) x.2.1) x.2.2).2.tail)
 |.exit id,e,J=>some (.exit id,e,J)
 |.ret,e,J=>some (.ret,e,J)
inductive F5 where
 |t (n:Nat)
 |c (n:Nat) (ag:Bool) (sz:Nat)
 |v (n:Nat) (ag:Bool) (sz:Nat)
structure Fn where
 Rz:Nat
 res:List F5
 body:b9
def KK(e:Env)(J:SK):F5->Option D
 |.t n=>some (get e n).strip
 |.c n ag sz=>(bR e J (.ld ag sz (.t n))).map (·.1)
 |.v n ag sz=>(bR e J (.Vg n ag sz n)).map (·.1)
def BR(e:Env)(J:SK):List F5->Option (List D)
 |[]=>some []
 |r::rs=>(KK e J r).bind λd=>(BR e J rs).map λds=>d::ds
def uj:List D->D
 |[d]=>d
 |ds => .cK ds
def lG(n:Nat):List D->Env
 |[]=>[]
 |d::ds=>(n,d)::lG (n+1) ds
def CF:List Nat->List D->Env->Env
 |t::ts,d::ds,e=>CF ts ds ((t,d)::e)
 |_,_,e=>e
abbrev CT:=Nat->Option Fn
def Xt:List D->Option (List Int)
 |[]=>some []
 |.int .i64 z::r=>(Xt r).map (z :: ·)
 |_=>none
def aaf(x:Int):List Int->List Int
 |[]=>[x]
 |y::l=>if x<=y then x::y::l else y::aaf x l
def TG:List Int->List Int
 |[]=>[]
 |x::l=>aaf x (TG l)
def Xq(l:List Int):List D:=l.map (.int .i64)
def O6(x:Int):List Int->List Int
 |[]=>[]
 |y::l=>if y=x then O6 x l else y::O6 y l
def LR:List Int->List Int
 |[]=>[]
 |x::l=>x::O6 x l
def XR(k:Nat)(zs:List Int):List Int:=if k=1 then TG zs else LR zs++List.replicate (zs.length-(LR zs).length) 0
def adS(k l i v off:Nat)(zs:List Int):D:=if k=1 then .cK []else .sl l i v off (LR zs).length 1
def ag6(k:Nat)(args:List D)(J:SK):Option R :=
 match args with
 |[.sl l i v off n w] =>
  if n≠0/\w=1/\n<=1000000 then
   match cells? J l i v with
   |some cs =>
    if off+n<=cs.length then
     match Xt ((cs.drop off).take n)with
     |some zs=>some (.val (adS k l i v off zs) (bj J l i (.cells v (cs.take off++Xq (XR k zs)++cs.drop (off+n)))))
     |none=>none
    else none
   |none=>none
  else none
 |_=>none
def tv:Nat->Nat->List UInt8
 |0,_=>[]
 |k+1,u=>if u<10 then [UInt8.ofNat (48+u)]else tv k (u / 10)++[UInt8.ofNat (48+u%10)]
def ij(n:Int):List UInt8:=if n<0 then 45::tv 20 n.natAbs else tv 20 n.toNat
def wU:List D->Option (List (List UInt8))
 |[]=>some []
 |.str s::r=>(wU r).map (s :: ·)
 |_=>none
def xz(sep:List UInt8):List (List UInt8)->List UInt8
 |[]=>[]
 |x::r=>x++fM r (sep ++ ·)
def dn(b:UInt8):List UInt8->List (List UInt8)
 |[]=>[[]]
 |c::r=>if c=b then []::dn b r else match dn b r with
  |x::l=>(c::x)::l
  |[]=>[[c]]
def rJ(s:List UInt8):Nat×Int :=
 match Lib.atoiAll s with
 |.ok v=>(0,v)
 |Lib.NumEnd.syntax=>(1,0)
 |.range=>(2,Lib.atoiSat s)
def AE(a b:Nat)(xs:List (List UInt8)):List (List UInt8):=xs.take a++xs.drop b++List.replicate (b-a) []
def D4(k:Nat)(args:List D)(J:SK):Option R :=
 match k%16,args with
 |3,[.int .i64 n]=>if -9223372036854775808<=n/\n<=9223372036854775807 then some (.val (.str (ij n)) J)else none
 |4,[.str s]=>if s.length<=1000000 then some (.val (.cK [.int .i64 (rJ s).2,if(rJ s).1=0 then .nK else .ui (k / 16) .undef]) J)else none
 |5,[.bT n cs,.str sep] =>
  match wU cs with
  |some xs=>if n=xs.length/\n<=1000/\(xz sep xs).length<=1000000 then some (.val (.str (xz sep xs)) J)else none
  |none=>none
 |6,[.str s,.str [b]]=>if s.length<=1000000 then some (.val (.bT (dn b s).length ((dn b s).map .str)) J)else none
 |7,[.jU l i,.str s] =>
  match cells? J l i 2 with
  |some [.int .i64 t,.int .i64 e,.str bs] =>
   if t=((k / 16%65536:Nat):Int)/\e=((k / 16 / 65536:Nat):Int)/\bs.length+s.length<=1000000 then
    some (.val (.cK [.int .i64 s.length,.nK]) (bj J l i (.cells 2 [.int .i64 t,.int .i64 e,.str (bs++s)])))
   else none
  |_=>none
 |8,[.jU l i] =>
  match cells? J l i 2 with
  |some [.int .i64 t,.int .i64 e,.str bs]=>if t=((k / 16%65536:Nat):Int)/\e=((k / 16 / 65536:Nat):Int)/\bs≠[]then some (.val (.str bs) J)else none
  |_=>none
 |9,[.sl l i v off n w,.int .i64 a,.int .i64 b] =>
  if n≠0/\w=1/\n<=1000000/\0<=a/\a<=b/\b<=(n:Int)then
   match cells? J l i v with
   |some cs =>
    if off+n<=cs.length then
     match wU ((cs.drop off).take n)with
     |some xs=>some (.val (.sl l i v off (n-(b.toNat-a.toNat)) 1) (bj J l i (.cells v (cs.take off++(AE a.toNat b.toNat xs).map .str++cs.drop (off+n)))))
     |none=>none
    else none
   |none=>none
  else none
 |0,_=>none
 |9,_=>none
 |10,_=>none
 |11,_=>none
 |12,_=>none
 |13,_=>none
 |14,_=>none
 |15,_=>none
 |1,args=>ag6 1 args J
 |2,args=>ag6 2 args J
 |_,_=>none
def IJ(J:SK)(l i:Nat):Option (D×Nat×List D×List Nat) :=
 match cells? J l i 1 with
 |some (m::.int .i64 n::js) =>
  match Dg J m with
  |some (_,_,es)=>if(es.length:Int)=n then some (m,es.length,js,(List.range es.length).filter λj => !(js.contains (.int .i64 j)))else none
  |none=>none
 |_=>none
def Dm:List (Option R)->Option R
 |[]=>none
 |r::rs=>if ∀x∈rs,x=r then r else none
def za(O:cf)(l i b:Nat)(rest:b9):Option (Exit×Env×SK)->Option R
 |some (.exit j,e1,J1) =>
  if j=b then(bu O rest e1 (bj J1 l i .dead)).map λx => .EX x.1 x.2.1 x.2.2
  else some (.EX (.exit j) e1 (bj J1 l i .dead))
 |some (.ret,e1,J1)=>some (.EX .ret e1 (bj J1 l i .dead))
 |_=>none
def Db(O:cf)(live:List Nat)(it:bP)(l i nx ok b:Nat)(c rest:b9):Option (Exit×Env×SK)->Option R
 |some (.normal,e1,J1)=>O (.iq live it nx ok b c rest e1 J1)
 |y=>za O l i b rest y
def iy:b9->Option (b9×bP×List bP×b9)
 |.Uq f args q=>some (.Ji,f,args,q)
 |.seq a b=>(iy b).map λx=>(.seq a x.1,x.2)
 |_=>none
def R5(kp:Bool)(d:D):SK->Option R
 |_::J=>if kp=false/\d.clean=true then some (.fu d J)else none
 |[]=>none
def leave(res:List F5)(J:SK)(e:Env)(J1:SK):Option R :=
 match BR e J1 res with
 |some ds=>(match cF (J.length-1) deep (uj ds) J1 with
  |(d,_::J2)=>some (.val d J2)
  |_=>none)
 |none=>none
def pq(O:cf)(fv:D)(args:List D)(th:Option D)(J:SK):Option R :=
 match fv with
 |.fn f first cap=>O (.zG f (first++args++cap) th J)
 |_=>none
def va(res:List F5)(J:SK)(e:Env):Option R->Option R
 |some (.val _ J1)=>leave res J e J1
 |_=>none
def Bl(O:cf)(res:List F5)(J:SK)(fv:D)(args:List D):Option (Exit×Env×SK)->Option R
 |some (.fu d,e,J1)=>va res J e (pq O fv args (some d) J1)
 |some (.normal,e,J1)=>va res J e (pq O fv args none J1)
 |some (.ret,e,J1)=>va res J e (pq O fv args none J1)
 |_=>none
def Bj(O:cf)(fn:Fn)(J:SK):Option (b9×bP×List bP×b9)->Env->SK->Option R
 |some (a,f,args,q),e0,J0 =>
  (match bu O a e0 J0 with
  |some (.normal,e,J1)=>Bl O fn.res J (bB e f) (args.map (bB e)) (bu O q e J1)
  |_=>none)
 |none,_,_=>none
def rI(th:Option D)(args:List D):b9->Option (Env×b9)
 |.seq (.si live [⟨some t,none,_,.QA⟩]) q=>(match q with
  |.iq .. => none
  |q=>some (restrict live ((t,th.getD .nK)::lG 0 args),q))
 |_=>none
def dF(T:CT)(O:cf):Q->Option R
 |.call kp f args J =>
  match T f with
  |some fn =>
   if args.length=fn.Rz then
    match bu O fn.body (lG 0 args) (if kp then J else []::J)with
    |some (.exit _,_,_)=>none
    |some (.fu d,_,J1)=>R5 kp d J1
    |some (_,e,J1) =>
     match BR e J1 fn.res with
     |some ds =>
      if kp then some (.val (uj ds) J1)else
      match cF (J.length-1) deep (uj ds) J1 with
      |(d,_::J2)=>some (.val d J2)
      |_=>none
     |none=>none
    |none=>if kp then none else Bj O fn J (iy fn.body) (lG 0 args) ([]::J)
   else none
  |none =>
   match T (1000000+f)with
   |some fn=>D4 fn.Rz args J
   |none=>none
 |.loop live bF c e J =>
  match bu O c (restrict live e) (if bF then []::J else J)with
  |some (x,e1,J1) =>
   let (e2,J2):=if bF then(let r:=pj (J.length-1) (restrict (Ba live x e1) e1) J1;(r.1,r.2.tail))else(e1,J1)
   match x with
   |.normal=>O (.loop live bF c e2 J2)
   |x=>some (.EX x e2 J2)
  |none=>none
 |.round l i args J =>
  match dZ J l i with
  |some (.loop lp) =>
   if args.length=lp.params.length then
    match bu O lp.B9 (CF lp.params args lp.env) ([]::J)with
    |some (.normal,e1,J1) =>
     match dZ J1 l i with
     |some (.loop lp1) =>
      if lp1.state=0 then
       match bu O lp.body e1 (bj J1 l i (.loop {lp1 with state:=1 }))with
       |some (x,_,_::J2) =>
        match dZ J2 l i with
        |some (.loop lp2) =>
         match x with
         |.fu _=>none
         |.normal=>some (.val (.bool true) (bj J2 l i (.loop {lp2 with state:=0,zj:=none })))
         |x=>some (.val (.bool false) (bj J2 l i (.loop {lp2 with state:=2,zj:=some x })))
        |_=>none
       |_=>none
      else none
     |_=>none
    |_=>none
   else none
  |_=>none
 |.iq live it nx ok b c rest e J =>
  match bB (restrict live e) it with
  |.jU l i =>
   match IJ J l i with
   |some (_,_,_,[])=>za O l i b rest (bu O c ((ok,.bool false)::(nx,.undef)::restrict live e) J)
   |some (m,n,js,us)=>Dm (us.map λu=>Db O live it l i nx ok b c rest (bu O c ((ok,.bool true)::(nx,.undef)::restrict live e) (bj J l i (.cells 1 (m::.int .i64 (n:Nat)::.int .i64 (u:Nat)::js)))))
   |none=>none
  |_=>none
 |.zG f args th J =>
  match T f with
  |some fn =>
   if args.length=fn.Rz then
    match rI th args fn.body with
    |some (e0,q) =>
     match bu O q e0 ([]::J)with
     |some (.exit _,_,_)=>none
     |some (.fu _,_,_)=>none
     |some (_,e,J1) =>
      match BR e J1 fn.res,J1 with
      |some [],_::J2=>some (.val (.cK []) J2)
      |_,_=>none
     |none=>none
    |none=>none
   else none
  |none=>none
def it(T:CT):Nat->cf
 |0=>λ_=>none
 |n+1=>dF T (it T n)
open Classical in
noncomputable def dr(T:CT):cf:=λq =>
 if h:∃n r,it T n q=some r then some h.choose_spec.choose else none
end Go.Abs
