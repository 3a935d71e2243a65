import GoSem.Core.View
import Derived.Lib.AtoiAll
set_option linter.all false
namespace Go
theorem ad:type_of%@Option.map_eq_some_iff:=@Option.map_eq_some_iff
theorem ae:type_of%@Option.some.injEq:=@Option.some.injEq
theorem af:type_of%@Bool.and_eq_true:=@Bool.and_eq_true
theorem ai:type_of%@Option.bind_eq_some_iff:=@Option.bind_eq_some_iff
theorem aj:type_of%@List.map_cons:=@List.map_cons
theorem an:type_of%@List.mem_of_getElem?:=@List.mem_of_getElem?
theorem ar:type_of%@List.take_of_length_le:=@List.take_of_length_le
theorem au:type_of%@Prod.mk.injEq:=@Prod.mk.injEq
theorem aw:type_of%@List.map_nil:=@List.map_nil
theorem aA:type_of%@decide_eq_true_eq:=@decide_eq_true_eq
theorem aB:type_of%@Bool.false_eq_true:=@Bool.false_eq_true
theorem aE:type_of%@Option.ite_none_right_eq_some:=@Option.ite_none_right_eq_some
theorem aF:type_of%@List.getElem?_eq_some_iff:=@List.getElem?_eq_some_iff
theorem aJ:type_of%@List.drop_eq_nil_of_le:=@List.drop_eq_nil_of_le
theorem aL:type_of%@Nat.le_refl:=@Nat.le_refl
theorem aO:type_of%@List.length_cons:=@List.length_cons
theorem aP:type_of%@List.getElem?_eq_getElem:=@List.getElem?_eq_getElem
theorem aQ:type_of%@Option.bind_eq_bind:=@Option.bind_eq_bind
theorem aS:type_of%@List.drop_zero:=@List.drop_zero
theorem aT:type_of%@Option.map_some:=@Option.map_some
theorem aV:type_of%@List.length_pos_iff:=@List.length_pos_iff
theorem aY:type_of%@List.nil_append:=@List.nil_append
theorem ba:type_of%@List.flatMap_cons:=@List.flatMap_cons
theorem bq:type_of%@List.mem_cons:=@List.mem_cons
theorem bz:type_of%@List.mem_append:=@List.mem_append
theorem bC:type_of%@Int.tdiv_eq_ediv_of_nonneg:=@Int.tdiv_eq_ediv_of_nonneg
theorem bO:type_of%@List.length_nil:=@List.length_nil
theorem bU:type_of%@List.mem_map:=@List.mem_map
theorem bT:type_of%@List.length_append:=@List.length_append
theorem cc:type_of%@List.length_eq_zero_iff:=@List.length_eq_zero_iff
theorem cn:type_of%@Bool.or_eq_true:=@Bool.or_eq_true
theorem cj:type_of%@Array.getD_eq_getD_getElem?:=@Array.getD_eq_getD_getElem?
theorem cF:type_of%@List.getElem?_cons_zero:=@List.getElem?_cons_zero
theorem db:type_of%@Nat.zero_add:=@Nat.zero_add
theorem dn:type_of%@List.mem_filter:=@List.mem_filter
theorem dk:type_of%@List.length_map:=@List.length_map
theorem cY:type_of%@List.drop_length_add_append:=@List.drop_length_add_append
theorem c8:type_of%@Array.getElem?_eq_some_iff:=@Array.getElem?_eq_some_iff
theorem dM:type_of%@Nat.mul_one:=@Nat.mul_one
theorem dt:type_of%@Nat.mul_le_mul_right:=@Nat.mul_le_mul_right
theorem dr:type_of%@List.mem_of_mem_take:=@List.mem_of_mem_take
theorem dW:type_of%@Nat.add_assoc:=@Nat.add_assoc
theorem dO:type_of%@List.flatMap_nil:=@List.flatMap_nil
theorem dC:type_of%@Option.isSome_iff_exists:=@Option.isSome_iff_exists
theorem dV:type_of%@List.ext_getElem?:=@List.ext_getElem?
theorem dU:type_of%@Bool.not_eq_true':=@Bool.not_eq_true'
theorem eh:type_of%@List.getElem?_take:=@List.getElem?_take
theorem eB:type_of%@List.append_nil:=@List.append_nil
theorem dZ:type_of%@List.mem_of_mem_drop:=@List.mem_of_mem_drop
theorem eV:type_of%@Nat.succ_mul:=@Nat.succ_mul
theorem eO:type_of%@Int.toNat_of_nonneg:=@Int.toNat_of_nonneg
theorem fq:type_of%@Int.mul_nonneg:=@Int.mul_nonneg
theorem eR:type_of%@List.singleton_append:=@List.singleton_append
theorem eQ:type_of%@List.getElem?_eq_none:=@List.getElem?_eq_none
theorem gV:type_of%@Option.getD_some:=@Option.getD_some
theorem gT:type_of%@List.cons_append:=@List.cons_append
theorem gR:type_of%@Array.toList_inj:=@Array.toList_inj
theorem iB:type_of%@Nat.le_trans:=@Nat.le_trans
theorem gL:type_of%@List.getElem?_drop:=@List.getElem?_drop
theorem jl:type_of%@Nat.add_mul:=@Nat.add_mul
theorem gU:type_of%@List.getElem?_of_mem:=@List.getElem?_of_mem
theorem fL:type_of%@Int.mul_le_mul_of_nonneg_right:=@Int.mul_le_mul_of_nonneg_right
theorem jb:type_of%@List.flatMap_append:=@List.flatMap_append
theorem ka:type_of%@List.all_cons:=@List.all_cons
theorem jz:type_of%@List.length_filter_le:=@List.length_filter_le
theorem jy:type_of%@List.getElem?_toArray:=@List.getElem?_toArray
theorem lC:type_of%@List.cons.injEq:=@List.cons.injEq
theorem jw:type_of%@Array.getElem?_modify:=@Array.getElem?_modify
theorem kU:type_of%@List.getElem?_map:=@List.getElem?_map
theorem kT:type_of%@List.append_assoc:=@List.append_assoc
theorem kh:type_of%@List.getElem?_mapIdx:=@List.getElem?_mapIdx
theorem jq:type_of%@List.getElem?_append_left:=@List.getElem?_append_left
theorem mL:type_of%@List.drop_drop:=@List.drop_drop
theorem mK:type_of%@Int.mul_le_mul:=@Int.mul_le_mul
theorem mD:type_of%@List.length_take:=@List.length_take
theorem mC:type_of%@List.all_eq_true:=@List.all_eq_true
theorem n0:type_of%@Int.le_total:=@Int.le_total
theorem gE{α:Type}{l:List α}{i:Nat}(h:i<l.length):∃x,l[i]?=some x:=⟨_,aP h⟩
end Go
namespace Go.Abs
inductive D where
 |undef
 |bool (b:Bool)
 |int (k:IntKind) (n:Int)
 |str (s:List UInt8)
 |agg (cs:List D)
 |ez (cs:List D)
 |ze
 |ref (l i v off:Nat)
 |bE (cs:List D)
 |aH
 |aK (n:Nat) (cs:List D)
 |sl (l i v off n w:Nat)
 |fn (f:Nat) (first cap:List D)
 |jj
 |nO (l i:Nat)
 |own (s:Nat) (cs:List D)
 |vr (x s off:Nat)
 |vn (t:Nat) (d:D)
 |pW
 |emp
 deriving Inhabited
mutual
def D.same:D→D→Bool
 |.undef,.undef=>true
 |.bool a,.bool b=>a == b
 |.int k n,.int k' n'=>k == k' && n == n'
 |.str a,.str b=>a == b
 |.agg a,.agg b=>D.zV a b
 |.ez a,.ez b=>D.zV a b
 |.ze,.ze=>true
 |.ref a b c d,.ref a' b' c' d'=>a == a' && b == b' && c == c' && d == d'
 |.bE a,.bE b=>D.zV a b
 |.aH,.aH=>true
 |.aK n a,.aK m b=>n == m && D.zV a b
 |.sl a b c d e f,.sl a' b' c' d' e' f'=>a == a' && b == b' && c == c' && d == d' && e == e' && f == f'
 |.fn f a b,.fn f' a' b'=>f == f' && D.zV a a' && D.zV b b'
 |.jj,.jj=>true
 |.nO a b,.nO a' b'=>a == a' && b == b'
 |.own s a,.own s' b=>s == s' && D.zV a b
 |.vr a b c,.vr a' b' c'=>a == a' && b == b' && c == c'
 |.vn t a,.vn t' b=>t == t' && D.same a b
 |.pW,.pW=>true
 |.emp,.emp=>true
 |_,_=>false
def D.zV:List D→List D→Bool
 |[],[]=>true
 |a::as,b::bs=>D.same a b && D.zV as bs
 |_,_=>false
end
mutual
theorem Sx:∀{a b:D},D.same a b=true→a=b
 |.undef,b,h=>by cases b<;>simp[D.same]at h;rfl
 |.bool _,b,h=>by cases b<;>simp[D.same]at h;rw[h]
 |.int _ _,b,h=>by cases b<;>simp[D.same]at h;rw[h.1,h.2]
 |.str _,b,h=>by cases b<;>simp[D.same]at h;rw[h]
 |.agg _,b,h=>by cases b<;>simp[D.same]at h;rw[xm h]
 |.ez _,b,h=>by cases b<;>simp[D.same]at h;rw[xm h]
 |.ze,b,h=>by cases b<;>simp[D.same]at h;rfl
 |.ref ..,b,h=>by cases b<;>simp[D.same]at h;simp[h]
 |.bE _,b,h=>by cases b<;>simp[D.same]at h;rw[xm h]
 |.aH,b,h=>by cases b<;>simp[D.same]at h;rfl
 |.aK ..,b,h=>by cases b<;>simp[D.same]at h;rw[h.1,xm h.2]
 |.sl ..,b,h=>by cases b<;>simp[D.same]at h;simp[h]
 |.fn ..,b,h=>by cases b<;>simp[D.same]at h;rw[h.1.1,xm h.1.2,xm h.2]
 |.jj,b,h=>by cases b<;>simp[D.same]at h;rfl
 |.nO ..,b,h=>by cases b<;>simp[D.same]at h;simp[h]
 |.own ..,b,h=>by cases b<;>simp[D.same]at h;rw[h.1,xm h.2]
 |.vr ..,b,h=>by cases b<;>simp[D.same]at h;simp[h]
 |.vn _ a,b,h=>by cases b<;>simp[D.same]at h;rw[h.1,Sx h.2]
 |.pW,b,h=>by cases b<;>simp[D.same]at h;rfl
 |.emp,b,h=>by cases b<;>simp[D.same]at h;rfl
theorem xm:∀{a b:List D},D.zV a b=true→a=b
 |[],[],_=>rfl
 |[],_::_,h=>by simp[D.zV]at h
 |_::_,[],h=>by simp[D.zV]at h
 |a::as,b::bs,h=>by
  simp only[D.zV,af]at h;rw[Sx h.1,xm h.2]
end
mutual
theorem KM:∀(a:D),D.same a a=true
 |.undef=>rfl
 |.bool b=>by simp[D.same]
 |.int k n=>by simp[D.same]
 |.str s=>by simp[D.same]
 |.agg a=>by simp[D.same,sk a]
 |.ez a=>by simp[D.same,sk a]
 |.ze=>rfl
 |.ref .. => by simp[D.same]
 |.bE a=>by simp[D.same,sk a]
 |.aH=>rfl
 |.aK n a=>by simp[D.same,sk a]
 |.sl .. => by simp[D.same]
 |.fn f a b=>by simp[D.same,sk a,sk b]
 |.jj=>rfl
 |.nO .. => by simp[D.same]
 |.own s a=>by simp[D.same,sk a]
 |.vr .. => by simp[D.same]
 |.vn t a=>by simp[D.same,KM a]
 |.pW=>rfl
 |.emp=>rfl
theorem sk:∀(a:List D),D.zV a a=true
 |[]=>rfl
 |a::as=>by simp[D.zV,KM a,sk as]
end
instance:DecidableEq D:=fun a b=>if h:D.same a b=true then isTrue (Sx h)else isFalse fun e=>h (e ▸ KM a)
inductive bM where
 |t (n:Nat)
 |c (d:D)
 deriving Inhabited,DecidableEq
inductive Pu where
 |Jv
 |OO
 |ain
 |afO (lo hi:Bool)
 |seq (neg:Bool)
 deriving Inhabited,DecidableEq
def KF:Pu→List D→Option D
 |.Jv,[.str s]=>some (.int .i64 s.length)
 |.OO,[.str s,.int _ i]=>if 0≤i then(s[i.toNat]?).map fun b => .int .u8 b.toNat else none
 |.ain,[.str a,.str b]=>if a.length+b.length≤4611686018427387904 then some (.str (a++b))else none
 |.afO true true,[.str s,.int _ i,.int _ j]=>if 0≤i∧i≤j∧j≤s.length then some (.str ((s.drop i.toNat).take (j.toNat-i.toNat)))else none
 |.afO true false,[.str s,.int _ i]=>if 0≤i∧i≤s.length then some (.str (s.drop i.toNat))else none
 |.afO false true,[.str s,.int _ j]=>if 0≤j∧j≤s.length then some (.str (s.take j.toNat))else none
 |.afO false false,[.str s]=>some (.str s)
 |.seq neg,[.str a,.str b]=>some (.bool (if neg then !(a == b)else a == b))
 |_,_=>none
abbrev Ky:=Option (Bool×List (Option IntKind))
inductive Mo where
 |make
 |mJ (t e:Nat)
 |get (ky:Ky) (zero:D) (ok:Bool)
 |put (ky:Ky)
 |len
 |rng
 |ent
 deriving Inhabited,DecidableEq
inductive Me where
 |b2s
 |s2b
 |s2a (n w:Nat)
 |peq (neg:Bool)
 deriving Inhabited,DecidableEq
inductive K where
 |mv (x:bM)
 |rk (w:Nat)
 |pick (c a b:bM)
 |On (nb:List (Nat×Nat)) (cs:List D)
 |eK (nb:List (Nat×Nat)) (cs:List D)
 |Oq (x:bM)
 |Ot (x:bM)
 |bxn (nb:List (Nat×Nat)) (x:bM)
 |J9 (x:bM)
 |mJ (zero:List D) (parts:List (Nat×Nat×bM))
 |wc (n w:Nat) (zero:List D) (parts:List (Nat×Nat×bM))
 |UR (n w:Nat) (zero:List D) (parts:List (Nat×Nat×bM))
 |ld (ag:Bool) (sz:Nat) (a:bM)
 |ldi (ag:Bool) (sz:Nat) (a:bM)
 |ld0 (ag:Bool) (sz:Nat) (a:bM)
 |isn (ps neg:Bool) (x:bM)
 |nN (x:bM)
 |st (nb:List (Nat×Nat)) (sz:Nat) (a x:bM)
 |stc (os:List Nat) (sz:Nat) (a x:bM)
 |ldv (v:Nat) (ag:Bool) (sz:Nat) (a:Nat)
 |LV (v:Nat) (nb:List (Nat×Nat)) (sz:Nat) (a:Nat) (x:bM)
 |bin (o:BinOp) (x y:bM)
 |eqv (ag:Bool) (ks:List (Option IntKind)) (neg:Bool) (x y:bM)
 |un (o:UnOp) (x:bM)
 |Tx (k:IntKind) (x:bM)
 |zR (f:Nat) (first cap:List bM)
 |mks (w bytes:Nat) (zero:List D) (l c:bM)
 |UB (w:Nat) (x:bM) (lo hi mx:Option bM)
 |afL (len w:Nat) (x:bM) (lo hi:Option bM)
 |OF (off:Nat) (x:bM)
 |fld (ag:Bool) (off sz:Nat) (x:bM)
 |EE (len w:Nat) (x i:bM)
 |fJ (w:Nat) (x i:bM)
 |R8 (ag:Bool) (len w:Nat) (x i:bM)
 |OJ (x:bM)
 |afs (n:Nat)
 |mn (x y:bM)
 |mx (x y:bM)
 |app (w bytes:Nat) (s x:bM)
 |apc (os:List Nat) (w bytes:Nat) (s x:bM)
 |apz (w bytes:Nat) (s x:bM)
 |cpi (w bytes:Nat) (x:bM)
 |bse
 |ape (w bytes v:Nat) (x:bM)
 |ext (x:bM) (i:Nat)
 |BA (o:Pu) (xs:List bM)
 |mp (o:Mo) (xs:List bM)
 |me (o:Me) (xs:List bM)
 |mki (t:Nat) (x:bM)
 |tas (t:Nat) (zero:Option D) (x:bM)
 |isi (neg:Bool) (x:bM)
 |UT (x:bM)
 |UU
 |call (kp:Bool) (f:bM) (args:List bM)
 deriving Inhabited,DecidableEq
structure Op where
 dst:Option Nat
 HX:Option (Nat×Bool)
 CY:Bool
 k:K
 deriving Inhabited,DecidableEq
inductive cZ where
 |cU
 |cI (vs:List Nat)
 |ak (live:List Nat) (ops:List Op)
 |seq (a b:cZ)
 |ite (c:bM) (a b:cZ)
 |bB (id:Nat) (a:cZ)
 |loop (live:List Nat) (bx:Bool) (a:cZ)
 |afH (live:List Nat) (f:bM) (params:List Nat) (Cb body:cZ)
 |j7 (live:List Nat) (it:bM) (nx ok b:Nat) (a rest:cZ)
 |jk (live:List Nat) (pre:List Op) (op:Op) (post:List Op)
 |dfr (f:bM) (args:List bM) (rest:cZ)
 |exit (id:Nat)
 |ret
 deriving Inhabited,DecidableEq
inductive Exit where
 |normal
 |exit (id:Nat)
 |ret
 |fU (d:D)
 deriving Inhabited,DecidableEq
abbrev Env:=List (Nat×D)
def get:Env→Nat→D
 |[],_ => .undef
 |(k,v)::r,t=>if k=t then v else get r t
def put(d:Option Nat)(v:D)(e:Env):Env :=
 match d with
 |some t=>(t,v)::e
 |none=>e
def D.calm:D→D
 |.vr .. => .undef
 |.emp => .undef
 |.own _ cs => .own 0 cs
 |d=>d
def D.strip:D→D
 |.vr .. => .undef
 |.emp => .undef
 |.own .. => .undef
 |d=>d
def restrict(live:List Nat)(e:Env):Env:=live.map fun t=>(t,(get e t).calm)
def keys(e:Env):List Nat:=(e.map (·.1)).eraseDups
def zm(live:List Nat)(e:Env):Env:=live.map fun t=>(t,(get e t).strip)
def AL(live:List Nat)(x:Exit)(e:Env):List Nat :=
 match x with
 |.normal=>live
 |_=>keys e
structure yu where
 state:Nat
 ym:Option Exit
 env:Env
 params:List Nat
 Cb:cZ
 body:cZ
 deriving DecidableEq
inductive aG where
 |cells (v:Nat) (cs:List D)
 |dead
 |loop (l:yu)
 deriving DecidableEq
abbrev SK:=List (List aG)
def gk:SK→Nat→Option (List aG)
 |[],_=>none
 |s::σ,l=>if σ.length=l then some s else gk σ l
def iZ:SK→Nat→List aG→SK
 |[],_,_=>[]
 |s::σ,l,s'=>if σ.length=l then s'::σ else s::iZ σ l s'
def ei(σ:SK)(l i:Nat):Option aG:=(gk σ l).bind (·[i]?)
def aX(σ:SK)(l i:Nat)(b:aG):SK :=
 match gk σ l with
 |some s=>iZ σ l (s.set i b)
 |none=>σ
def cells?(σ:SK)(l i v:Nat):Option (List D) :=
 match ei σ l i with
 |some (.cells v' cs)=>if v'=v then some cs else none
 |_=>none
def ix(σ:SK)(b:aG):Option (Nat×Nat×SK) :=
 match σ with
 |[]=>none
 |s::σ'=>some (σ'.length,s.length,(s++[b])::σ')
mutual
def D.clean:D→Bool
 |.ref .. => false
 |.sl .. => false
 |.nO .. => false
 |.vr .. => true
 |.emp=>true
 |.own _ cs=>D.bD cs
 |.agg cs=>D.bD cs
 |.ez cs=>D.bD cs
 |.bE cs=>D.bD cs
 |.aK _ cs=>D.bD cs
 |.fn _ a b=>D.bD a && D.bD b
 |.undef=>true
 |.bool _=>true
 |.int _ _=>true
 |.str _=>true
 |.ze=>true
 |.aH=>true
 |.jj=>true
 |.vn _ d=>D.clean d
 |.pW=>true
def D.bD:List D→Bool
 |[]=>true
 |d::ds=>D.clean d && D.bD ds
end
def cI(l:Nat):Nat→D→SK→D×SK
 |0,_,σ=>(.undef,σ)
 |n+1,d,σ =>
  if d.clean then(d,σ)else
  match d with
  |.agg cs=>let r:=frzL (cI l n) cs σ;(.agg r.1,r.2)
  |.ez cs=>let r:=frzL (cI l n) cs σ;(.ez r.1,r.2)
  |.bE cs=>let r:=frzL (cI l n) cs σ;(.bE r.1,r.2)
  |.aK m cs=>let r:=frzL (cI l n) cs σ;(.aK m r.1,r.2)
  |.own s cs=>let r:=frzL (cI l n) cs σ;(.own s r.1,r.2)
  |.fn f a b=>let r:=frzL (cI l n) a σ;let r':=frzL (cI l n) b r.2;(.fn f r.1 r'.1,r'.2)
  |.ref l' i v off=>if l'≤l then(.ref l' i v off,σ)else(.undef,σ)
  |.nO l' i=>if l'≤l then(.nO l' i,σ)else(.undef,σ)
  |.sl l' i v off m w =>
   if l'≤l then(.sl l' i v off m w,σ)else
   match cells? σ l' i v with
   |some cs=>let r:=frzL (cI l n) ((cs.drop off).take (m*w)) (aX σ l' i .dead);(.aK m r.1,r.2)
   |none=>(.undef,σ)
  |_=>(.undef,σ)
where
 frzL (f:D→SK→D×SK):List D→SK→List D×SK
  |[],σ=>([],σ)
  |d::ds,σ=>let r:=f d σ;let r':=frzL f ds r.2;(r.1::r'.1,r'.2)
def deep:Nat:=16
def tS(l:Nat):Env→SK→Env×SK
 |[],σ=>([],σ)
 |(t,d)::e,σ=>let r:=cI l deep d σ;let r':=tS l e r.2;((t,r.1)::r'.1,r'.2)
inductive Q where
 |call (kp:Bool) (f:Nat) (args:List D) (σ:SK)
 |loop (live:List Nat) (bx:Bool) (c:cZ) (env:Env) (σ:SK)
 |round (l i:Nat) (args:List D) (σ:SK)
 |j7 (live:List Nat) (it:bM) (nx ok b:Nat) (c rest:cZ) (env:Env) (σ:SK)
 |zB (f:Nat) (args:List D) (th:Option D) (σ:SK)
inductive R where
 |val (d:D) (σ:SK)
 |Gx (e:Exit) (env:Env) (σ:SK)
 |fU (d:D) (σ:SK)
 deriving DecidableEq
abbrev bR:=Q→Option R
def bh(e:Env):bM→D
 |.t n=>(get e n).strip
 |.c d=>d
def D.cells:D→Option (List D)
 |.agg cs=>some cs
 |.undef=>none
 |.ez _=>none
 |.own .. => none
 |.vr .. => none
 |.emp=>none
 |d=>some [d]
def D.row(ag:Bool)(d:D):Option (List D) :=
 match ag,d with
 |true,.agg cs=>some cs
 |true,_=>none
 |false,.agg _=>none
 |false,d=>d.cells
def sG(e:Env):List (Nat×Nat×bM)→List D→Option (List D)
 |[],cs=>some cs
 |(off,sz,x)::r,cs =>
  match(bh e x).cells with
  |some p=>if p.length=sz∧off+sz≤cs.length then sG e r (cs.take off++p++cs.drop (off+sz))else none
  |none=>none
def AS:List (Option IntKind)→List D→List D→Option Bool
 |[],[],[]=>some true
 |some k::ks,.int k1 a::x,.int k2 b::y=>if k1=k∧k2=k then(AS ks x y).map (a == b && ·)else none
 |none::ks,.bool a::x,.bool b::y=>(AS ks x y).map (a == b && ·)
 |_,_,_=>none
def uD(o:BinOp):D→D→Option D
 |.int k a,.int k' b =>
  match o with
  |.shl=>if b<0 then none else some (.int k (k.wrap (a*2^(min b.toNat k.bits))))
  |.shr=>if b<0 then none else some (.int k (a.fdiv (2^(min b.toNat k.bits))))
  |.add=>if k=k' then some (.int k (k.wrap (a+b)))else none
  |.sub=>if k=k' then some (.int k (k.wrap (a-b)))else none
  |.mul=>if k=k' then some (.int k (k.wrap (a*b)))else none
  |.quo=>if k=k'∧b≠0 then some (.int k (k.wrap (a.tdiv b)))else none
  |.rem=>if k=k'∧b≠0 then some (.int k (a.tmod b))else none
  |.and=>if k=k' then some (.int k (k.wrap ((BitVec.ofInt k.bits a &&& BitVec.ofInt k.bits b).toNat:Int)))else none
  |.or=>if k=k' then some (.int k (k.wrap ((BitVec.ofInt k.bits a ||| BitVec.ofInt k.bits b).toNat:Int)))else none
  |.xor=>if k=k' then some (.int k (k.wrap ((BitVec.ofInt k.bits a ^^^ BitVec.ofInt k.bits b).toNat:Int)))else none
  |.andNot=>none
  |.eql=>if k=k' then some (.bool (a == b))else none
  |.neq=>if k=k' then some (.bool (a != b))else none
  |.lss=>if k=k' then some (.bool (decide (a<b)))else none
  |.leq=>if k=k' then some (.bool (decide (a≤b)))else none
  |.gtr=>if k=k' then some (.bool (decide (a>b)))else none
  |.geq=>if k=k' then some (.bool (decide (a≥b)))else none
 |_,_=>none
def Jg:D→Option Int
 |.int _ n=>some n
 |_=>none
def E2(e:Env)(m:Nat)(dfl:Option Nat):Option bM→Option Nat
 |some x=>match Jg (bh e x)with
  |some n=>if 0≤n∧n≤m then some n.toNat else none
  |none=>none
 |none=>dfl
def bounds(len:Nat)(e:Env)(lo hi mx:Option bM):Option (Nat×Nat) :=
 (E2 e len (some len) mx).bind fun m=>(E2 e m (if mx.isSome then none else some len) hi).bind fun h=>(E2 e h (some 0) lo).map fun l=>(l,h)
def tV(ky:Ky)(a b:D):Option Bool :=
 match ky with
 |none=>match a,b with
  |.str x,.str y=>some (x == y)
  |_,_=>none
 |some (ag,ks)=>match a.row ag,b.row ag with
  |some p,some q=>AS ks p q
  |_,_=>none
def sd(ky:Ky)(k:D):List D→Option (Option (Nat×D))
 |[]=>some none
 |.ez [k',v]::es =>
  match tV ky k k' with
  |some true=>some (some (0,v))
  |some false=>(sd ky k es).map fun x=>x.map fun y=>(y.1+1,y.2)
  |none=>none
 |_=>none
def DD(σ:SK):D→Option (Nat×Nat×List D)
 |.nO l i=>(cells? σ l i 0).map fun es=>(l,i,es)
 |_=>none
def DE(σ:SK):Mo→List D→Option (D×SK)
 |.make,[]=>(ix σ (.cells 0 [])).map fun x=>(.nO x.1 x.2.1,x.2.2)
 |.mJ t e,[]=>(ix σ (.cells 2 [.int .i64 (t:Nat),.int .i64 (e:Nat),.str []])).map fun x=>(.nO x.1 x.2.1,x.2.2)
 |.get ky zero ok,[m,k] =>
  match DD σ m with
  |some (_,_,es) =>
   if(tV ky k k).isSome then
    match sd ky k es with
    |some (some (_,v))=>some (if ok then .ez [v,.bool true]else v,σ)
    |some none=>some (if ok then .ez [zero,.bool false]else zero,σ)
    |none=>none
   else none
  |none=>none
 |.put ky,[m,k,v] =>
  match DD σ m with
  |some (l,i,es) =>
   if(tV ky k k).isSome∧(l+1=σ.length∨(k.clean∧v.clean))then
    match sd ky k es with
    |some (some (j,_))=>some (.undef,aX σ l i (.cells 0 (es.set j (.ez [k,v]))))
    |some none=>some (.undef,aX σ l i (.cells 0 (es++[.ez [k,v]])))
    |none=>none
   else none
  |none=>none
 |.len,[m]=>(DD σ m).map fun x=>(.int .i64 x.2.2.length,σ)
 |.rng,[m] =>
  match DD σ m with
  |some (lm,im,es)=>(ix σ (.cells 1 [.nO lm im,.int .i64 es.length])).map fun x=>(.nO x.1 x.2.1,x.2.2)
  |none=>none
 |.ent,[.nO l i] =>
  match cells? σ l i 1 with
  |some (m::.int .i64 n::.int .i64 j::_) =>
   match DD σ m with
   |some (_,_,es)=>if(es.length:Int)=n then
     match es[j.toNat]? with
     |some (.ez [k,v])=>some (.ez [k,v],σ)
     |_=>none
    else none
   |none=>none
  |_=>none
 |_,_=>none
def strCells(s:List UInt8):List D:=s.map fun b => .int .u8 b.toNat
def elems(σ:SK)(w:Nat):D→Option (Nat×List D)
 |.aH=>some (0,[])
 |.str s=>if w=1 then some (s.length,strCells s)else none
 |.aK n cs=>if cs.length=n*w then some (n,cs)else none
 |.sl l i v off n w' =>
  if w'=w then
   match cells? σ l i v with
   |some cs=>if off+n*w≤cs.length then some (n,(cs.drop off).take (n*w))else none
   |none=>none
  else none
 |_=>none
def Hy:List D→Option (List UInt8)
 |[]=>some []
 |.int .u8 n::r=>(Hy r).map (UInt8.ofNat n.toNat :: ·)
 |_=>none
def meD(σ:SK):Me→List D→Option (D×SK)
 |.b2s,[.str _]=>none
 |.b2s,[x]=>(elems σ 1 x).bind fun r=>(Hy r.2).map fun s=>(.str s,σ)
 |.s2b,[.str s]=>some (.aK s.length (strCells s),σ)
 |.s2a n w,[.aK m cs]=>if 0<n∧n≤m then some (.bE (cs.take (n*w)),σ)else none
 |.peq neg,[.ref l i v o,.ref l' i' v' o']=>if l=l'∧i=i'∧o=o'∧v=v'∧(cells? σ l i v).isSome then some (.bool (!neg),σ)else none
 |_,_=>none
def room:Nat:=2^46
def mc:List (Nat×Nat)→List D→SK→Option (List D×SK)
 |[],cs,σ=>some (cs,σ)
 |(p,w)::r,cs,σ =>
  match cs[p]? with
  |some .aH=>do
   let (l,i,σ')←ix σ (.cells 0 [])
   mc r (cs.set p (.sl l i 0 0 0 w)) σ'
  |_=>mc r cs σ
def sH(e:Env)(v a:Nat):Option (Nat×List D×Nat) :=
 match get e v with
 |.own s cs =>
  if a=v then some (s,cs,0)else
  match get e a with
  |.vr x s' off=>if x=v∧s'=s then some (s,cs,off)else none
  |_=>none
 |_=>none
def vw(e:Env)(v:Nat):Nat :=
 match get e v with
 |.own s _=>s+1
 |_=>0
def KG(σ:SK):D→Option (List D)
 |.bE cs=>some cs
 |.ref l i v off=>(cells? σ l i v).map (·.drop off)
 |_=>none
def rd0(σ:SK):D→Option (List D)
 |.ref l i 0 off=>KG σ (.ref l i 0 off)
 |_=>none
def OI(ps:Bool)(d:D):Option Bool :=
 match ps,d with
 |true,.ze=>some true
 |true,.bE _=>some false
 |true,.ref .. => some false
 |false,.aH=>some true
 |false,.aK n _=>if n=0 then none else some false
 |false,.sl _ _ _ _ n _=>if n=0 then none else some false
 |_,_=>none
def afX(t:Nat)(z:Option D):D→Option D
 |.vn t' d=>match z with
  |some z=>some (if t'=t then .ez [d,.bool true]else .ez [z,.bool false])
  |none=>if t'=t then some d else none
 |.pW=>z.map fun z => .ez [z,.bool false]
 |_=>none
def aoS:D→Option Bool
 |.pW=>some true
 |.vn .. => some false
 |_=>none
def D.off(l i:Nat):D→Bool
 |.ref l' i' _ _=>decide (¬(l'=l∧i'=i))
 |_=>true
def Qf(e:Env)(σ:SK)(w bytes:Nat)(s x:bM):Option (D×SK):=do
  let (m,xs)←elems σ w (bh e x)
  match bh e s with
  |.aH =>
   if m*bytes≤room then
    if m=0 then some (.aK 0 [],σ)else do
    let (l,i,σ')←ix σ (.cells 0 xs)
    some (.sl l i 0 0 m w,σ')
   else none
  |.sl l i v off n w' =>
   match cells? σ l i v with
   |some cs =>
    if w'=w∧off+n*w≤cs.length∧(n+m)*bytes≤room then
     if l+1=σ.length then
      some (.sl l i (v+1) 0 (n+m) w,aX σ l i (.cells (v+1) ((cs.drop off).take (n*w)++xs)))
     else
      let r:=cI.frzL (cI l deep) xs σ
      some (.sl l i (v+1) 0 (n+m) w,aX r.2 l i (.cells (v+1) ((cs.drop off).take (n*w)++r.1)))
    else none
   |none=>none
  |_=>none
def bN(e:Env)(σ:SK):K→Option (D×SK)
 |.mv x=>some (bh e x,σ)
 |.rk w=>do
  let (l,i,σ')←ix σ (.cells 0 [])
  some (.sl l i 0 0 0 w,σ')
 |.pick c a b =>
  match bh e c with
  |.bool t=>some (if t then bh e a else bh e b,σ)
  |_=>none
 |.On nb cs=>do
  let (cs',σ1)←mc nb cs σ
  let (l,i,σ')←ix σ1 (.cells 0 cs')
  some (.ref l i 0 0,σ')
 |.Oq x=>(bh e x).cells.map fun cs=>(.bE cs,σ)
 |.Ot x=>do
  let cs←(bh e x).cells
  let (l,i,σ')←ix σ (.cells 0 cs)
  some (.ref l i 0 0,σ')
 |.bxn nb x=>do
  let cs←(bh e x).cells
  let (cs',σ1)←mc nb cs σ
  let (l,i,σ')←ix σ1 (.cells 0 cs')
  some (.ref l i 0 0,σ')
 |.eK .. => none
 |.J9 _=>none
 |.LV .. => none
 |.ldv v ag sz a =>
  match sH e v a with
  |some (_,cs,off) =>
   let cs:=cs.drop off
   if sz≤cs.length then
    if ag then some (.agg (cs.take sz),σ)else
    match cs with
    |d::_=>some (d,σ)
    |[]=>none
   else none
  |none=>none
 |.mJ zero parts=>do
  let cs←sG e parts zero
  some (.agg cs,σ)
 |.wc n _ zero parts=>do
  let cs←sG e parts zero
  some (.aK n cs,σ)
 |.UR n w zero parts=>do
  let cs←sG e parts zero
  let (l,i,σ')←ix σ (.cells 0 cs)
  some (.sl l i 0 0 n w,σ')
 |.ld ag sz a =>
  match KG σ (bh e a)with
  |some cs =>
   if sz≤cs.length then
    if ag then some (.agg (cs.take sz),σ)else
    match cs with
    |d::_=>some (d,σ)
    |[]=>none
   else none
  |none=>none
 |.ld0 ag sz a =>
  match rd0 σ (bh e a)with
  |some cs =>
   if sz≤cs.length then
    if ag then some (.agg (cs.take sz),σ)else
    match cs with
    |d::_=>some (d,σ)
    |[]=>none
   else none
  |none=>none
 |.ldi ag sz a =>
  match bh e a with
  |.bE cs =>
   if sz≤cs.length then
    if ag then some (.agg (cs.take sz),σ)else
    match cs with
    |d::_=>some (d,σ)
    |[]=>none
   else none
  |_=>none
 |.isn ps neg x=>(OI ps (bh e x)).map fun b=>(.bool (if neg then !b else b),σ)
 |.nN x =>
  match bh e x with
  |.bE cs=>some (.bE cs,σ)
  |.ref l i v off=>some (.ref l i v off,σ)
  |_=>none
 |.st nb sz a x =>
  match bh e a with
  |.ref l i v off =>
   match cells? σ l i v with
   |some cs =>
    match(bh e x).cells with
    |some p =>
     if p.length=sz∧off+sz≤cs.length then
      if l+1=σ.length then
       match mc nb p σ with
       |some (p',σ1)=>some (.undef,aX σ1 l i (.cells v (cs.take off++p'++cs.drop (off+sz))))
       |none=>none
      else
       let r:=cI.frzL (cI l deep) p σ
       some (.undef,aX r.2 l i (.cells v (cs.take off++r.1++cs.drop (off+sz))))
     else none
    |none=>none
   |none=>none
  |_=>none
 |.stc os sz a x =>
  match bh e a with
  |.ref l i v off =>
   if(os.all fun t=>D.off l i (get e t))=true then
    match cells? σ l i v with
    |some cs =>
     match(bh e x).cells with
     |some p =>
      if p.length=sz∧off+sz≤cs.length∧(D.bD p=true∨l+1=σ.length)then some (.undef,aX σ l i (.cells v (cs.take off++p++cs.drop (off+sz))))else none
     |none=>none
    |none=>none
   else none
  |_=>none
 |.bin o x y=>(uD o (bh e x) (bh e y)).map (·,σ)
 |.eqv ag ks neg x y =>
  match(bh e x).row ag,(bh e y).row ag with
  |some p,some q=>(AS ks p q).map fun b=>(.bool (if neg then !b else b),σ)
  |_,_=>none
 |.un o x =>
  match o,bh e x with
  |.not,.bool b=>some (.bool !b,σ)
  |.neg,.int k n=>some (.int k (k.wrap (0-n)),σ)
  |.xor,.int k n=>some (.int k (k.wrap ((BitVec.ofInt k.bits (if k.signed then -1 else k.max) ^^^ BitVec.ofInt k.bits n).toNat:Int)),σ)
  |_,_=>none
 |.Tx k x =>
  match bh e x with
  |.int _ n=>some (.int k (k.wrap n),σ)
  |_=>none
 |.zR f first cap=>some (.fn f (first.map (bh e)) (cap.map (bh e)),σ)
 |.mks w bytes zero l c =>
  match bh e l,bh e c with
  |.int .i64 n,.int .i64 m =>
   if 0≤n∧n=m∧n*bytes≤(room:Int)∧zero.length=w then do
    let (l,i,σ')←ix σ (.cells 0 ((List.range n.toNat).flatMap fun _=>zero))
    some (.sl l i 0 0 n.toNat w,σ')
   else none
  |_,_=>none
 |.UB w x lo hi mx =>
  match bh e x with
  |.aK n cs=>(bounds n e lo hi mx).map fun b=>(.aK (b.2-b.1) ((cs.drop (b.1*w)).take ((b.2-b.1)*w)),σ)
  |.sl l i v off n w'=>if w'=w then(bounds n e lo hi mx).map fun b=>(.sl l i v (off+b.1*w) (b.2-b.1) w,σ)else none
  |.aH=>(bounds 0 e lo hi mx).map fun _=>(.aH,σ)
  |_=>none
 |.afL len w x lo hi =>
  match bh e x with
  |.bE cs=>(bounds len e lo hi none).map fun b=>(.aK (b.2-b.1) ((cs.drop (b.1*w)).take ((b.2-b.1)*w)),σ)
  |.ref l i v off =>
   match cells? σ l i v with
   |some cs=>if len≤1000000∧off+len*w≤cs.length then(bounds len e lo hi none).map fun b=>(.sl l i v (off+b.1*w) (b.2-b.1) w,σ)else none
   |none=>none
  |_=>none
 |.OF off x =>
  match x with
  |.t n =>
   match get e n with
   |.bE cs=>some (.bE (cs.drop off),σ)
   |.ref l i v o=>some (.ref l i v (o+off),σ)
   |.own s _=>some (.vr n s off,σ)
   |.vr v s o=>some (.vr v s (o+off),σ)
   |_=>none
  |.c _=>none
 |.fld ag off sz x =>
  match bh e x with
  |.agg cs =>
   if off+sz≤cs.length then
    if ag then some (.agg ((cs.drop off).take sz),σ)else(cs[off]?).map (·,σ)
   else none
  |_=>none
 |.EE len w x i =>
  match x,Jg (bh e i)with
  |.t m,some n =>
   if 0≤n∧n<len then
    match get e m with
    |.bE cs=>some (.bE ((cs.drop (n.toNat*w)).take w),σ)
    |.ref l j v off=>some (.ref l j v (off+n.toNat*w),σ)
    |.own s _=>some (.vr m s (n.toNat*w),σ)
    |.vr v s o=>some (.vr v s (o+n.toNat*w),σ)
    |_=>none
   else none
  |_,_=>none
 |.fJ w x i =>
  match bh e x,Jg (bh e i)with
  |.aK m cs,some n=>if 0≤n∧n<m then some (.bE ((cs.drop (n.toNat*w)).take w),σ)else none
  |.sl l j v off m w',some n=>if 0≤n∧n<m∧w'=w then some (.ref l j v (off+n.toNat*w),σ)else none
  |_,_=>none
 |.R8 ag len w x i =>
  match bh e x,Jg (bh e i)with
  |.agg cs,some n =>
   if 0≤n∧n<len∧(n.toNat+1)*w≤cs.length then
    if ag then some (.agg ((cs.drop (n.toNat*w)).take w),σ)else(cs[n.toNat*w]?).map (·,σ)
   else none
  |_,_=>none
 |.OJ x =>
  match bh e x with
  |.aH=>some (.int .i64 0,σ)
  |.aK n _=>some (.int .i64 n,σ)
  |.sl _ _ _ _ n _=>some (.int .i64 n,σ)
  |_=>none
 |.afs n=>some (.int .i64 n,σ)
 |.mn x y =>
  match bh e x,bh e y with
  |.int k a,.int _ b=>some (.int k (min a b),σ)
  |_,_=>none
 |.mx x y =>
  match bh e x,bh e y with
  |.int k a,.int _ b=>some (.int k (max a b),σ)
  |_,_=>none
 |.app w bytes s x=>do
  let (m,xs)←elems σ w (bh e x)
  match bh e s with
  |.aH =>
   if m*bytes≤room then
    if m=0 then some (.aK 0 [],σ)else do
    let (l,i,σ')←ix σ (.cells 0 xs)
    some (.sl l i 0 0 m w,σ')
   else none
  |.sl l i v off n w' =>
   match cells? σ l i v with
   |some cs =>
    if w'=w∧off+n*w≤cs.length∧(n+m)*bytes≤room then
     if l+1=σ.length then
      some (.sl l i (v+1) 0 (n+m) w,aX σ l i (.cells (v+1) ((cs.drop off).take (n*w)++xs)))
     else
      let r:=cI.frzL (cI l deep) xs σ
      some (.sl l i (v+1) 0 (n+m) w,aX r.2 l i (.cells (v+1) ((cs.drop off).take (n*w)++r.1)))
    else none
   |none=>none
  |_=>none
 |.apc os w bytes s x =>
  match bh e s with
  |.sl l i _ _ _ _=>if(os.all fun t=>D.off l i (get e t))=true then(elems σ w (bh e x)).bind fun r=>if D.bD r.2=true then Qf e σ w bytes s x else none else none
  |_=>none
 |.apz w bytes s x=>(Qf e σ w bytes s x).map fun r=>cI 0 deep r.1 r.2
 |.cpi w bytes x=>do
  let (m,xs)←elems σ w (bh e x)
  if m*bytes≤room then some (.aK m xs,σ)else none
 |.bse=>some (.emp,σ)
 |.ape w bytes v x =>
  match get e v with
  |.emp=>(elems σ w (bh e x)).bind fun r=>if r.1*bytes≤room then some (.aK r.1 r.2,σ)else none
  |_=>none
 |.ext x i =>
  match bh e x with
  |.ez ds=>(ds[i]?).map (·,σ)
  |_=>none
 |.BA o xs=>(KF o (xs.map (bh e))).map (·,σ)
 |.mp o xs=>DE σ o (xs.map (bh e))
 |.me o xs=>meD σ o (xs.map (bh e))
 |.mki t x=>some (.vn t (bh e x),σ)
 |.tas t z x=>(afX t z (bh e x)).map (·,σ)
 |.isi neg x=>(aoS (bh e x)).map fun b=>(.bool (if neg then !b else b),σ)
 |.UT _=>none
 |.UU=>none
 |.call _ _ _=>none
def R.bg:Option R→Option (D×SK)
 |some (.val d σ)=>some (d,σ)
 |_=>none
def R.ahM:Option R→Option (Exit×Env×SK)
 |some (.Gx e env σ)=>some (e,env,σ)
 |_=>none
def pZ(O:bR)(kp:Bool)(fv:D)(args:List D)(σ:SK):Option (D×SK) :=
 match fv with
 |.fn f first cap=>R.bg (O (.call kp f (first++args++cap) σ))
 |.nO l i=>R.bg (O (.round l i args σ))
 |_=>none
def K2(O:bR)(fv:D)(args:List D)(σ:SK):Option (D×SK) :=
 match fv with
 |.fn f first cap=>R.bg (O (.call false f (first++args++cap) σ))
 |_=>none
def xx(O:bR)(op:Op)(e:Env)(σ:SK):Option (Env×SK) :=
 match op.k with
 |.call kp f args =>
  match pZ O kp (bh e f) (args.map (bh e)) σ with
  |some (d,σ')=>if op.CY=true→σ'=σ then some (put op.dst d e,σ')else none
  |none=>none
 |.eK nb cs =>
  match op.dst,mc nb cs σ with
  |some v,some (cs',σ')=>some ((v,.own (vw e v) cs')::e,σ')
  |_,_=>none
 |.J9 x =>
  match op.dst,(bh e x).cells with
  |some v,some cs=>some ((v,.own (vw e v) cs)::e,σ)
  |_,_=>none
 |.LV v nb sz a x =>
  match sH e v a,(bh e x).cells with
  |some (s,cs,off),some p =>
   if p.length=sz∧off+sz≤cs.length then
    match mc nb p σ with
    |some (p',σ')=>some ((v,.own s (cs.take off++p'++cs.drop (off+sz)))::e,σ')
    |none=>none
   else none
  |_,_=>none
 |k=>(bN e σ k).map fun x=>(put op.dst x.1 e,x.2)
def D.bit:D→Option (Option Bool)
 |.bool b=>some (some b)
 |.ez []=>some none
 |_=>none
def nM(O:bR):List Op→Env→SK→Option (Env×SK)
 |[],e,σ=>some (e,σ)
 |op::r,e,σ =>
  match op.HX with
  |none=>(xx O op e σ).bind fun x=>nM O r x.1 x.2
  |some (g,want) =>
   match(get e g).bit with
   |some y=>if y=some want then(xx O op e σ).bind fun x=>nM O r x.1 x.2 else nM O r (put op.dst (.ez []) e) σ
   |none=>none
def D.yh:D→D
 |.aH => .aK 0 []
 |d=>d
def I9(l i u:Nat)(σ:SK):D×SK :=
 match cells? σ l i u with
 |some cs=>let r:=cI.frzL (cI 0 deep) cs (aX σ l i .dead);(.bE (r.1.map D.yh),r.2)
 |none=>(.undef,σ)
def OG(v:Nat)(e:Env)(σ:SK):Env×SK :=
 match get e v with
 |.aH=>((v,.aK 0 [])::e,σ)
 |.ref l i u 0=>let r:=I9 l i u σ;((v,r.1)::e,r.2)
 |.own s cs=>((v,.own s (cs.map D.yh))::e,σ)
 |_=>(e,σ)
def wo:List Nat→Env→SK→Env×SK
 |[],e,σ=>(e,σ)
 |v::vs,e,σ =>
  match get e v with
  |.sl l i u off m w=>let r:=cI 0 deep (.sl l i u off m w) σ;wo vs ((v,r.1)::e) r.2
  |.own s cs=>let r:=cI.frzL (cI 0 deep) cs σ;wo vs ((v,.own s r.1)::e) r.2
  |.agg cs=>wo vs ((v,.agg (cs.map D.yh))::e) σ
  |.undef=>if 1000000≤v then(let r:=OG (v-1000000) e σ;wo vs r.1 r.2)else wo vs e σ
  |_=>wo vs e σ
def CP(O:bR)(fv:D)(args:List D)(σ:SK):Option R :=
 match fv with
 |.fn f first cap=>O (.call false f (first++args++cap) σ)
 |_=>none
def vJ(O:bR)(live:List Nat)(dst:Option Nat)(post:List Op)(e:Env):Option R→Option (Exit×Env×SK)
 |some (.val d σ')=>(nM O post (put dst d e) σ').map fun y=>(.normal,restrict live y.1,y.2)
 |some (.fU d σ')=>some (.fU d,e,σ')
 |_=>none
def LG(O:bR)(live:List Nat)(op:Op)(post:List Op)(e:Env)(σ:SK):Option (Exit×Env×SK) :=
 match op.HX,op.k with
 |none,.call false f args=>vJ O live op.dst post e (CP O (bh e f) (args.map (bh e)) σ)
 |none,.UT x=>(match bh e x with
  |.vn t d=>if d.clean then some (.fU (.vn t d),e,σ)else none
  |_=>none)
 |_,_=>none
def aZ(O:bR):cZ→Env→SK→Option (Exit×Env×SK)
 |.cU,e,σ=>some (.normal,e,σ)
 |.cI vs,e,σ=>let r:=wo vs e σ;some (.normal,r.1,r.2)
 |.ak live ops,e,σ=>(nM O ops e σ).map fun x=>(.normal,restrict live x.1,x.2)
 |.seq a b,e,σ=>(aZ O a e σ).bind fun x =>
  match x.1 with
  |.normal=>aZ O b x.2.1 x.2.2
  |_=>some x
 |.ite c a b,e,σ =>
  match bh e c with
  |.bool t=>if t then aZ O a e σ else aZ O b e σ
  |_=>none
 |.bB id a,e,σ=>(aZ O a e σ).map fun x =>
  match x.1 with
  |.exit j=>if j=id then(.normal,x.2)else x
  |_=>x
 |.loop live bx a,e,σ=>R.ahM (O (.loop live bx a e σ))
 |.afH live f params Cb body,e,σ =>
  match ix σ (.loop {state:=0,ym:=none,env:=zm live e,params,Cb,body })with
  |some (l,i,σ1) =>
   match K2 O (bh e f) [.nO l i] σ1 with
   |some (_,σ2) =>
    match ei σ2 l i with
    |some (.loop lp) =>
     if lp.state=1 then none else
     some (lp.ym.getD .normal,restrict live e,aX σ2 l i (.loop {lp with state:=3 }))
    |_=>none
   |none=>none
  |none=>none
 |.j7 live it nx ok b a rest,e,σ=>R.ahM (O (.j7 live it nx ok b a rest e σ))
 |.jk live pre op post,e,σ=>(nM O pre e σ).bind fun x=>LG O live op post x.1 x.2
 |.dfr ..,_,_=>none
 |.exit id,e,σ=>some (.exit id,e,σ)
 |.ret,e,σ=>some (.ret,e,σ)
inductive Ih where
 |t (n:Nat)
 |c (n:Nat) (ag:Bool) (sz:Nat)
 |v (n:Nat) (ag:Bool) (sz:Nat)
structure Fn where
 afz:Nat
 res:List Ih
 body:cZ
def NG(e:Env)(σ:SK):Ih→Option D
 |.t n=>some (get e n).strip
 |.c n ag sz=>(bN e σ (.ld ag sz (.t n))).map (·.1)
 |.v n ag sz=>(bN e σ (.ldv n ag sz n)).map (·.1)
def BB(e:Env)(σ:SK):List Ih→Option (List D)
 |[]=>some []
 |r::rs=>(NG e σ r).bind fun d=>(BB e σ rs).map fun ds=>d::ds
def vo:List D→D
 |[d]=>d
 |ds => .ez ds
def oH(n:Nat):List D→Env
 |[]=>[]
 |d::ds=>(n,d)::oH (n+1) ds
def CB:List Nat→List D→Env→Env
 |t::ts,d::ds,e=>CB ts ds ((t,d)::e)
 |_,_,e=>e
abbrev Ak:=Nat→Option Fn
def aoQ:List D→Option (List Int)
 |[]=>some []
 |.int .i64 z::r=>(aoQ r).map (z :: ·)
 |_=>none
def aq8(x:Int):List Int→List Int
 |[]=>[x]
 |y::l=>if x≤y then x::y::l else y::aq8 x l
def aha:List Int→List Int
 |[]=>[]
 |x::l=>aq8 x (aha l)
def aoO(l:List Int):List D:=l.map (.int .i64)
def Tw(x:Int):List Int→List Int
 |[]=>[]
 |y::l=>if y=x then Tw x l else y::Tw y l
def O7:List Int→List Int
 |[]=>[]
 |x::l=>x::Tw x l
def api(k:Nat)(zs:List Int):List Int:=if k=1 then aha zs else O7 zs++List.replicate (zs.length-(O7 zs).length) 0
def axp(k l i v off:Nat)(zs:List Int):D:=if k=1 then .ez []else .sl l i v off (O7 zs).length 1
def aBv(k:Nat)(args:List D)(σ:SK):Option R :=
 match args with
 |[.sl l i v off n w] =>
  if n≠0∧w=1∧n≤1000000 then
   match cells? σ l i v with
   |some cs =>
    if off+n≤cs.length then
     match aoQ ((cs.drop off).take n)with
     |some zs=>some (.val (axp k l i v off zs) (aX σ l i (.cells v (cs.take off++aoO (api k zs)++cs.drop (off+n)))))
     |none=>none
    else none
   |none=>none
  else none
 |_=>none
def ajM:Nat→Nat→List UInt8
 |0,_=>[]
 |k+1,u=>if u<10 then [UInt8.ofNat (48+u)]else ajM k (u / 10)++[UInt8.ofNat (48+u%10)]
def Pm(n:Int):List UInt8:=if n<0 then 45::ajM 20 n.natAbs else ajM 20 n.toNat
def CK:List D→Option (List (List UInt8))
 |[]=>some []
 |.str s::r=>(CK r).map (s :: ·)
 |_=>none
def agK(sep:List UInt8):List (List UInt8)→List UInt8
 |[]=>[]
 |x::r=>x++r.flatMap (sep ++ ·)
def gP(b:UInt8):List UInt8→List (List UInt8)
 |[]=>[[]]
 |c::r=>if c=b then []::gP b r else match gP b r with
  |x::l=>(c::x)::l
  |[]=>[[c]]
def wO(s:List UInt8):Nat×Int :=
 match Lib.atoiAll s with
 |.ok v=>(0,v)
 |Lib.NumEnd.syntax=>(1,0)
 |.range=>(2,Lib.atoiSat s)
def A8(a b:Nat)(xs:List (List UInt8)):List (List UInt8):=xs.take a++xs.drop b++List.replicate (b-a) []
def KA(k:Nat)(args:List D)(σ:SK):Option R :=
 match k%16,args with
 |3,[.int .i64 n]=>if -9223372036854775808≤n∧n≤9223372036854775807 then some (.val (.str (Pm n)) σ)else none
 |4,[.str s]=>if s.length≤1000000 then some (.val (.ez [.int .i64 (wO s).2,if(wO s).1=0 then .pW else .vn (k / 16) .undef]) σ)else none
 |5,[.aK n cs,.str sep] =>
  match CK cs with
  |some xs=>if n=xs.length∧n≤1000∧(agK sep xs).length≤1000000 then some (.val (.str (agK sep xs)) σ)else none
  |none=>none
 |6,[.str s,.str [b]]=>if s.length≤1000000 then some (.val (.aK (gP b s).length ((gP b s).map .str)) σ)else none
 |7,[.nO l i,.str s] =>
  match cells? σ l i 2 with
  |some [.int .i64 t,.int .i64 e,.str bs] =>
   if t=((k / 16%65536:Nat):Int)∧e=((k / 16 / 65536:Nat):Int)∧bs.length+s.length≤1000000 then
    some (.val (.ez [.int .i64 s.length,.pW]) (aX σ l i (.cells 2 [.int .i64 t,.int .i64 e,.str (bs++s)])))
   else none
  |_=>none
 |8,[.nO l i] =>
  match cells? σ l i 2 with
  |some [.int .i64 t,.int .i64 e,.str bs]=>if t=((k / 16%65536:Nat):Int)∧e=((k / 16 / 65536:Nat):Int)∧bs≠[]then some (.val (.str bs) σ)else none
  |_=>none
 |9,[.sl l i v off n w,.int .i64 a,.int .i64 b] =>
  if n≠0∧w=1∧n≤1000000∧0≤a∧a≤b∧b≤(n:Int)then
   match cells? σ l i v with
   |some cs =>
    if off+n≤cs.length then
     match CK ((cs.drop off).take n)with
     |some xs=>some (.val (.sl l i v off (n-(b.toNat-a.toNat)) 1) (aX σ l i (.cells v (cs.take off++(A8 a.toNat b.toNat xs).map .str++cs.drop (off+n)))))
     |none=>none
    else none
   |none=>none
  else none
 |0,_=>none
 |9,_=>none
 |10,_=>none
 |11,_=>none
 |12,_=>none
 |13,_=>none
 |14,_=>none
 |15,_=>none
 |1,args=>aBv 1 args σ
 |2,args=>aBv 2 args σ
 |_,_=>none
def Lc(σ:SK)(l i:Nat):Option (D×Nat×List D×List Nat) :=
 match cells? σ l i 1 with
 |some (m::.int .i64 n::js) =>
  match DD σ m with
  |some (_,_,es)=>if(es.length:Int)=n then some (m,es.length,js,(List.range es.length).filter fun j => !(js.contains (.int .i64 j)))else none
  |none=>none
 |_=>none
def agree:List (Option R)→Option R
 |[]=>none
 |r::rs=>if ∀x∈rs,x=r then r else none
def zb(O:bR)(l i b:Nat)(rest:cZ):Option (Exit×Env×SK)→Option R
 |some (.exit j,e1,σ1) =>
  if j=b then(aZ O rest e1 (aX σ1 l i .dead)).map fun x => .Gx x.1 x.2.1 x.2.2
  else some (.Gx (.exit j) e1 (aX σ1 l i .dead))
 |some (.ret,e1,σ1)=>some (.Gx .ret e1 (aX σ1 l i .dead))
 |_=>none
def CX(O:bR)(live:List Nat)(it:bM)(l i nx ok b:Nat)(c rest:cZ):Option (Exit×Env×SK)→Option R
 |some (.normal,e1,σ1)=>O (.j7 live it nx ok b c rest e1 σ1)
 |y=>zb O l i b rest y
def j5:cZ→Option (cZ×bM×List bM×cZ)
 |.dfr f args q=>some (.cU,f,args,q)
 |.seq a b=>(j5 b).map fun x=>(.seq a x.1,x.2)
 |_=>none
def afY(kp:Bool)(d:D):SK→Option R
 |_::σ=>if kp=false∧d.clean=true then some (.fU d σ)else none
 |[]=>none
def leave(res:List Ih)(σ:SK)(e:Env)(σ1:SK):Option R :=
 match BB e σ1 res with
 |some ds=>(match cI (σ.length-1) deep (vo ds) σ1 with
  |(d,_::σ2)=>some (.val d σ2)
  |_=>none)
 |none=>none
def rL(O:bR)(fv:D)(args:List D)(th:Option D)(σ:SK):Option R :=
 match fv with
 |.fn f first cap=>O (.zB f (first++args++cap) th σ)
 |_=>none
def wh(res:List Ih)(σ:SK)(e:Env):Option R→Option R
 |some (.val _ σ1)=>leave res σ e σ1
 |_=>none
def A9(O:bR)(res:List Ih)(σ:SK)(fv:D)(args:List D):Option (Exit×Env×SK)→Option R
 |some (.fU d,e,σ1)=>wh res σ e (rL O fv args (some d) σ1)
 |some (.normal,e,σ1)=>wh res σ e (rL O fv args none σ1)
 |some (.ret,e,σ1)=>wh res σ e (rL O fv args none σ1)
 |_=>none
def A7(O:bR)(fn:Fn)(σ:SK):Option (cZ×bM×List bM×cZ)→Env→SK→Option R
 |some (a,f,args,q),e0,σ0 =>
  (match aZ O a e0 σ0 with
  |some (.normal,e,σ1)=>A9 O fn.res σ (bh e f) (args.map (bh e)) (aZ O q e σ1)
  |_=>none)
 |none,_,_=>none
def sT(th:Option D)(args:List D):cZ→Option (Env×cZ)
 |.seq (.ak live [⟨some t,none,_,.UU⟩]) q=>(match q with
  |.j7 .. => none
  |q=>some (restrict live ((t,th.getD .pW)::oH 0 args),q))
 |_=>none
def dA(T:Ak)(O:bR):Q→Option R
 |.call kp f args σ =>
  match T f with
  |some fn =>
   if args.length=fn.afz then
    match aZ O fn.body (oH 0 args) (if kp then σ else []::σ)with
    |some (.exit _,_,_)=>none
    |some (.fU d,_,σ1)=>afY kp d σ1
    |some (_,e,σ1) =>
     match BB e σ1 fn.res with
     |some ds =>
      if kp then some (.val (vo ds) σ1)else
      match cI (σ.length-1) deep (vo ds) σ1 with
      |(d,_::σ2)=>some (.val d σ2)
      |_=>none
     |none=>none
    |none=>if kp then none else A7 O fn σ (j5 fn.body) (oH 0 args) ([]::σ)
   else none
  |none =>
   match T (1000000+f)with
   |some fn=>KA fn.afz args σ
   |none=>none
 |.loop live bx c e σ =>
  match aZ O c (restrict live e) (if bx then []::σ else σ)with
  |some (x,e1,σ1) =>
   let (e2,σ2):=if bx then(let r:=tS (σ.length-1) (restrict (AL live x e1) e1) σ1;(r.1,r.2.tail))else(e1,σ1)
   match x with
   |.normal=>O (.loop live bx c e2 σ2)
   |x=>some (.Gx x e2 σ2)
  |none=>none
 |.round l i args σ =>
  match ei σ l i with
  |some (.loop lp) =>
   if args.length=lp.params.length then
    match aZ O lp.Cb (CB lp.params args lp.env) ([]::σ)with
    |some (.normal,e1,σ1) =>
     match ei σ1 l i with
     |some (.loop lp1) =>
      if lp1.state=0 then
       match aZ O lp.body e1 (aX σ1 l i (.loop {lp1 with state:=1 }))with
       |some (x,_,_::σ2) =>
        match ei σ2 l i with
        |some (.loop lp2) =>
         match x with
         |.fU _=>none
         |.normal=>some (.val (.bool true) (aX σ2 l i (.loop {lp2 with state:=0,ym:=none })))
         |x=>some (.val (.bool false) (aX σ2 l i (.loop {lp2 with state:=2,ym:=some x })))
        |_=>none
       |_=>none
      else none
     |_=>none
    |_=>none
   else none
  |_=>none
 |.j7 live it nx ok b c rest e σ =>
  match bh (restrict live e) it with
  |.nO l i =>
   match Lc σ l i with
   |some (_,_,_,[])=>zb O l i b rest (aZ O c ((ok,.bool false)::(nx,.undef)::restrict live e) σ)
   |some (m,n,js,us)=>agree (us.map fun u=>CX O live it l i nx ok b c rest (aZ O c ((ok,.bool true)::(nx,.undef)::restrict live e) (aX σ l i (.cells 1 (m::.int .i64 (n:Nat)::.int .i64 (u:Nat)::js)))))
   |none=>none
  |_=>none
 |.zB f args th σ =>
  match T f with
  |some fn =>
   if args.length=fn.afz then
    match sT th args fn.body with
    |some (e0,q) =>
     match aZ O q e0 ([]::σ)with
     |some (.exit _,_,_)=>none
     |some (.fU _,_,_)=>none
     |some (_,e,σ1) =>
      match BB e σ1 fn.res,σ1 with
      |some [],_::σ2=>some (.val (.ez []) σ2)
      |_,_=>none
     |none=>none
    |none=>none
   else none
  |none=>none
def it(T:Ak):Nat→bR
 |0=>fun _=>none
 |n+1=>dA T (it T n)
open Classical in
noncomputable def bw(T:Ak):bR:=fun q =>
 if h:∃n r,it T n q=some r then some h.choose_spec.choose else none
end Go.Abs
