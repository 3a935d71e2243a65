import GoSem.Core.View
import Derived.Lib.AtoiAll
set_option linter.all false
namespace Go
theorem ab:type_of%@Option.map_eq_some_iff:=@Option.map_eq_some_iff
theorem ad:type_of%@Option.some.injEq:=@Option.some.injEq
theorem ah:type_of%@Bool.and_eq_true:=@Bool.and_eq_true
theorem ae:type_of%@Option.bind_eq_some_iff:=@Option.bind_eq_some_iff
theorem aw:type_of%@List.map_cons:=@List.map_cons
theorem av:type_of%@List.mem_of_getElem?:=@List.mem_of_getElem?
theorem bh:type_of%@List.take_of_length_le:=@List.take_of_length_le
theorem af:type_of%@Prod.mk.injEq:=@Prod.mk.injEq
theorem aS:type_of%@List.map_nil:=@List.map_nil
theorem aq:type_of%@decide_eq_true_eq:=@decide_eq_true_eq
theorem ai:type_of%@Bool.false_eq_true:=@Bool.false_eq_true
theorem an:type_of%@Option.ite_none_right_eq_some:=@Option.ite_none_right_eq_some
theorem ar:type_of%@List.getElem?_eq_some_iff:=@List.getElem?_eq_some_iff
theorem iy:type_of%@List.drop_eq_nil_of_le:=@List.drop_eq_nil_of_le
theorem al:type_of%@Nat.le_refl:=@Nat.le_refl
theorem aZ:type_of%@List.length_cons:=@List.length_cons
theorem aW:type_of%@List.getElem?_eq_getElem:=@List.getElem?_eq_getElem
theorem ak:type_of%@Option.bind_eq_bind:=@Option.bind_eq_bind
theorem ga:type_of%@List.drop_zero:=@List.drop_zero
theorem aG:type_of%@Option.map_some:=@Option.map_some
theorem my:type_of%@List.length_pos_iff:=@List.length_pos_iff
theorem aL:type_of%@List.nil_append:=@List.nil_append
theorem br:type_of%@List.flatMap_cons:=@List.flatMap_cons
theorem aJ:type_of%@List.mem_cons:=@List.mem_cons
theorem a7:type_of%@List.mem_append:=@List.mem_append
theorem jJ:type_of%@Int.tdiv_eq_ediv_of_nonneg:=@Int.tdiv_eq_ediv_of_nonneg
theorem bD:type_of%@List.length_nil:=@List.length_nil
theorem bg:type_of%@List.mem_map:=@List.mem_map
theorem cr:type_of%@List.length_append:=@List.length_append
theorem kG:type_of%@List.length_eq_zero_iff:=@List.length_eq_zero_iff
theorem gR:type_of%@Bool.or_eq_true:=@Bool.or_eq_true
theorem aU:type_of%@Array.getD_eq_getD_getElem?:=@Array.getD_eq_getD_getElem?
theorem cu:type_of%@List.getElem?_cons_zero:=@List.getElem?_cons_zero
theorem cn:type_of%@Nat.zero_add:=@Nat.zero_add
theorem oE:type_of%@List.mem_filter:=@List.mem_filter
theorem jr:type_of%@List.length_map:=@List.length_map
theorem fK:type_of%@List.drop_length_add_append:=@List.drop_length_add_append
theorem bX:type_of%@Array.getElem?_eq_some_iff:=@Array.getElem?_eq_some_iff
theorem tb:type_of%@Nat.mul_one:=@Nat.mul_one
theorem eB:type_of%@Nat.mul_le_mul_right:=@Nat.mul_le_mul_right
theorem bJ:type_of%@List.mem_of_mem_take:=@List.mem_of_mem_take
theorem kr:type_of%@Nat.add_assoc:=@Nat.add_assoc
theorem gr:type_of%@List.flatMap_nil:=@List.flatMap_nil
theorem bz:type_of%@Option.isSome_iff_exists:=@Option.isSome_iff_exists
theorem eA:type_of%@List.ext_getElem?:=@List.ext_getElem?
theorem ix:type_of%@Bool.not_eq_true':=@Bool.not_eq_true'
theorem cq:type_of%@List.getElem?_take:=@List.getElem?_take
theorem gS:type_of%@List.append_nil:=@List.append_nil
theorem bI:type_of%@List.mem_of_mem_drop:=@List.mem_of_mem_drop
theorem fa:type_of%@Nat.succ_mul:=@Nat.succ_mul
theorem mw:type_of%@Int.toNat_of_nonneg:=@Int.toNat_of_nonneg
theorem jI:type_of%@Int.mul_nonneg:=@Int.mul_nonneg
theorem ef:type_of%@List.singleton_append:=@List.singleton_append
theorem bQ:type_of%@List.getElem?_eq_none:=@List.getElem?_eq_none
theorem kI:type_of%@Option.getD_some:=@Option.getD_some
theorem aY:type_of%@List.cons_append:=@List.cons_append
theorem dc:type_of%@Array.toList_inj:=@Array.toList_inj
theorem gv:type_of%@Nat.le_trans:=@Nat.le_trans
theorem dZ:type_of%@List.getElem?_drop:=@List.getElem?_drop
theorem cN:type_of%@Nat.add_mul:=@Nat.add_mul
theorem gb:type_of%@List.getElem?_of_mem:=@List.getElem?_of_mem
theorem OM:type_of%@Int.mul_le_mul_of_nonneg_right:=@Int.mul_le_mul_of_nonneg_right
theorem gN:type_of%@List.flatMap_append:=@List.flatMap_append
theorem gO:type_of%@List.all_cons:=@List.all_cons
theorem sQ:type_of%@List.length_filter_le:=@List.length_filter_le
theorem da:type_of%@List.getElem?_toArray:=@List.getElem?_toArray
theorem fq:type_of%@List.cons.injEq:=@List.cons.injEq
theorem fC:type_of%@Array.getElem?_modify:=@Array.getElem?_modify
theorem fL:type_of%@List.getElem?_map:=@List.getElem?_map
theorem ez:type_of%@List.append_assoc:=@List.append_assoc
theorem ON:type_of%@List.getElem?_mapIdx:=@List.getElem?_mapIdx
theorem eo:type_of%@List.getElem?_append_left:=@List.getElem?_append_left
theorem fZ:type_of%@List.drop_drop:=@List.drop_drop
theorem lO:type_of%@Int.mul_le_mul:=@Int.mul_le_mul
theorem nK:type_of%@List.length_take:=@List.length_take
theorem b6:type_of%@List.all_eq_true:=@List.all_eq_true
theorem OL:type_of%@Int.le_total:=@Int.le_total
theorem gE{α:Type}{l:List α}{i:Nat}(h:i<l.length):∃x,l[i]?=some x:=⟨_,aW h⟩
end Go
namespace Go.Abs
inductive D where
 |undef
 |bool (b:Bool)
 |int (k:IntKind) (n:Int)
 |str (s:List UInt8)
 |agg (cs:List D)
 |er (cs:List D)
 |j3
 |ref (l i v off:Nat)
 |bE (cs:List D)
 |cH
 |ch (n:Nat) (cs:List D)
 |sl (l i v off n w:Nat)
 |fn (f:Nat) (first cap:List D)
 |lL
 |fJ (l i:Nat)
 |own (s:Nat) (cs:List D)
 |vr (x s off:Nat)
 |nu (t:Nat) (d:D)
 |ia
 |emp
 deriving Inhabited
mutual
def D.same:D→D→Bool
 |.undef,.undef=>true
 |.bool a,.bool b=>a == b
 |.int k n,.int k' n'=>k == k' && n == n'
 |.str a,.str b=>a == b
 |.agg a,.agg b=>D.kl a b
 |.er a,.er b=>D.kl a b
 |.j3,.j3=>true
 |.ref a b c d,.ref a' b' c' d'=>a == a' && b == b' && c == c' && d == d'
 |.bE a,.bE b=>D.kl a b
 |.cH,.cH=>true
 |.ch n a,.ch m b=>n == m && D.kl a b
 |.sl a b c d e f,.sl a' b' c' d' e' f'=>a == a' && b == b' && c == c' && d == d' && e == e' && f == f'
 |.fn f a b,.fn f' a' b'=>f == f' && D.kl a a' && D.kl b b'
 |.lL,.lL=>true
 |.fJ a b,.fJ a' b'=>a == a' && b == b'
 |.own s a,.own s' b=>s == s' && D.kl a b
 |.vr a b c,.vr a' b' c'=>a == a' && b == b' && c == c'
 |.nu t a,.nu t' b=>t == t' && D.same a b
 |.ia,.ia=>true
 |.emp,.emp=>true
 |_,_=>false
def D.kl:List D→List D→Bool
 |[],[]=>true
 |a::as,b::bs=>D.same a b && D.kl as bs
 |_,_=>false
end
mutual
theorem sB:∀{a b:D},D.same a b=true→a=b
 |.undef,b,h=>by cases b<;>simp[D.same]at h;rfl
 |.bool _,b,h=>by cases b<;>simp[D.same]at h;rw[h]
 |.int _ _,b,h=>by cases b<;>simp[D.same]at h;rw[h.1,h.2]
 |.str _,b,h=>by cases b<;>simp[D.same]at h;rw[h]
 |.agg _,b,h=>by cases b<;>simp[D.same]at h;rw[jm h]
 |.er _,b,h=>by cases b<;>simp[D.same]at h;rw[jm h]
 |.j3,b,h=>by cases b<;>simp[D.same]at h;rfl
 |.ref ..,b,h=>by cases b<;>simp[D.same]at h;simp[h]
 |.bE _,b,h=>by cases b<;>simp[D.same]at h;rw[jm h]
 |.cH,b,h=>by cases b<;>simp[D.same]at h;rfl
 |.ch ..,b,h=>by cases b<;>simp[D.same]at h;rw[h.1,jm h.2]
 |.sl ..,b,h=>by cases b<;>simp[D.same]at h;simp[h]
 |.fn ..,b,h=>by cases b<;>simp[D.same]at h;rw[h.1.1,jm h.1.2,jm h.2]
 |.lL,b,h=>by cases b<;>simp[D.same]at h;rfl
 |.fJ ..,b,h=>by cases b<;>simp[D.same]at h;simp[h]
 |.own ..,b,h=>by cases b<;>simp[D.same]at h;rw[h.1,jm h.2]
 |.vr ..,b,h=>by cases b<;>simp[D.same]at h;simp[h]
 |.nu _ a,b,h=>by cases b<;>simp[D.same]at h;rw[h.1,sB h.2]
 |.ia,b,h=>by cases b<;>simp[D.same]at h;rfl
 |.emp,b,h=>by cases b<;>simp[D.same]at h;rfl
theorem jm:∀{a b:List D},D.kl a b=true→a=b
 |[],[],_=>rfl
 |[],_::_,h=>by simp[D.kl]at h
 |_::_,[],h=>by simp[D.kl]at h
 |a::as,b::bs,h=>by
  simp only[D.kl,ah]at h;rw[sB h.1,jm h.2]
end
mutual
theorem oe:∀(a:D),D.same a a=true
 |.undef=>rfl
 |.bool b=>by simp[D.same]
 |.int k n=>by simp[D.same]
 |.str s=>by simp[D.same]
 |.agg a=>by simp[D.same,gp a]
 |.er a=>by simp[D.same,gp a]
 |.j3=>rfl
 |.ref .. => by simp[D.same]
 |.bE a=>by simp[D.same,gp a]
 |.cH=>rfl
 |.ch n a=>by simp[D.same,gp a]
 |.sl .. => by simp[D.same]
 |.fn f a b=>by simp[D.same,gp a,gp b]
 |.lL=>rfl
 |.fJ .. => by simp[D.same]
 |.own s a=>by simp[D.same,gp a]
 |.vr .. => by simp[D.same]
 |.nu t a=>by simp[D.same,oe a]
 |.ia=>rfl
 |.emp=>rfl
theorem gp:∀(a:List D),D.kl a a=true
 |[]=>rfl
 |a::as=>by simp[D.kl,oe a,gp as]
end
instance:DecidableEq D:=fun a b=>if h:D.same a b=true then isTrue (sB h)else isFalse fun e=>h (e ▸ oe a)
inductive aM where
 |t (n:Nat)
 |c (d:D)
 deriving Inhabited,DecidableEq
inductive Pu where
 |uO
 |oN
 |Ag
 |wz (lo hi:Bool)
 |seq (neg:Bool)
 deriving Inhabited,DecidableEq
def so:Pu→List D→Option D
 |.uO,[.str s]=>some (.int .i64 s.length)
 |.oN,[.str s,.int _ i]=>if 0≤i then(s[i.toNat]?).map fun b => .int .u8 b.toNat else none
 |.Ag,[.str a,.str b]=>if a.length+b.length≤4611686018427387904 then some (.str (a++b))else none
 |.wz true true,[.str s,.int _ i,.int _ j]=>if 0≤i∧i≤j∧j≤s.length then some (.str ((s.drop i.toNat).take (j.toNat-i.toNat)))else none
 |.wz true false,[.str s,.int _ i]=>if 0≤i∧i≤s.length then some (.str (s.drop i.toNat))else none
 |.wz false true,[.str s,.int _ j]=>if 0≤j∧j≤s.length then some (.str (s.take j.toNat))else none
 |.wz false false,[.str s]=>some (.str s)
 |.seq neg,[.str a,.str b]=>some (.bool (if neg then !(a == b)else a == b))
 |_,_=>none
abbrev Ky:=Option (Bool×List (Option IntKind))
inductive Mo where
 |make
 |kR (t e:Nat)
 |get (ky:Ky) (zero:D) (ok:Bool)
 |put (ky:Ky)
 |len
 |MS
 |Hu
 deriving Inhabited,DecidableEq
inductive Me where
 |ME
 |NN
 |NM (n w:Nat)
 |peq (neg:Bool)
 deriving Inhabited,DecidableEq
inductive K where
 |mv (x:aM)
 |ln (w:Nat)
 |pick (c a b:aM)
 |ui (nb:List (Nat×Nat)) (cs:List D)
 |ft (nb:List (Nat×Nat)) (cs:List D)
 |qR (x:aM)
 |um (x:aM)
 |E7 (nb:List (Nat×Nat)) (x:aM)
 |pq (x:aM)
 |kR (zero:List D) (parts:List (Nat×Nat×aM))
 |sS (n w:Nat) (zero:List D) (parts:List (Nat×Nat×aM))
 |ze (n w:Nat) (zero:List D) (parts:List (Nat×Nat×aM))
 |ld (ag:Bool) (sz:Nat) (a:aM)
 |HC (ag:Bool) (sz:Nat) (a:aM)
 |zi (ag:Bool) (sz:Nat) (a:aM)
 |Gj (ps neg:Bool) (x:aM)
 |sV (x:aM)
 |st (nb:List (Nat×Nat)) (sz:Nat) (a x:aM)
 |wA (os:List Nat) (sz:Nat) (a x:aM)
 |wG (v:Nat) (ag:Bool) (sz:Nat) (a:Nat)
 |q9 (v:Nat) (nb:List (Nat×Nat)) (sz:Nat) (a:Nat) (x:aM)
 |bin (o:BinOp) (x y:aM)
 |eqv (ag:Bool) (ks:List (Option IntKind)) (neg:Bool) (x y:aM)
 |un (o:UnOp) (x:aM)
 |r8 (k:IntKind) (x:aM)
 |yq (f:Nat) (first cap:List aM)
 |Gt (w bytes:Nat) (zero:List D) (l c:aM)
 |HW (w:Nat) (x:aM) (lo hi mx:Option aM)
 |pX (len w:Nat) (x:aM) (lo hi:Option aM)
 |qT (off:Nat) (x:aM)
 |Ek (ag:Bool) (off sz:Nat) (x:aM)
 |vV (len w:Nat) (x i:aM)
 |oI (w:Nat) (x i:aM)
 |oJ (ag:Bool) (len w:Nat) (x i:aM)
 |q5 (x:aM)
 |uC (n:Nat)
 |mn (x y:aM)
 |mx (x y:aM)
 |app (w bytes:Nat) (s x:aM)
 |zd (os:List Nat) (w bytes:Nat) (s x:aM)
 |E4 (w bytes:Nat) (s x:aM)
 |E9 (w bytes:Nat) (x:aM)
 |Fc (x:aM)
 |Hr
 |E3 (w bytes v:Nat) (x:aM)
 |ext (x:aM) (i:Nat)
 |oA (o:Pu) (xs:List aM)
 |mp (o:Mo) (xs:List aM)
 |me (o:Me) (xs:List aM)
 |HH (t:Nat) (x:aM)
 |Ho (t:Nat) (zero:Option D) (x:aM)
 |Gi (neg:Bool) (x:aM)
 |z6 (x:aM)
 |vy
 |call (kp:Bool) (f:aM) (args:List aM)
 deriving Inhabited,DecidableEq
structure Op where
 dst:Option Nat
 mL:Option (Nat×Bool)
 lI:Bool
 k:K
 deriving Inhabited,DecidableEq
inductive bC where
 |dY
 |bB (vs:List Nat)
 |b7 (live:List Nat) (ops:List Op)
 |seq (a b:bC)
 |ite (c:aM) (a b:bC)
 |aR (id:Nat) (a:bC)
 |loop (live:List Nat) (kF:Bool) (a:bC)
 |tS (live:List Nat) (f:aM) (params:List Nat) (lK body:bC)
 |cU (live:List Nat) (it:aM) (nx ok b:Nat) (a rest:bC)
 |yY (live:List Nat) (pre:List Op) (op:Op) (post:List Op)
 |zf (f:aM) (args:List aM) (rest:bC)
 |exit (id:Nat)
 |ret
 |EF (a:bC)
 deriving Inhabited,DecidableEq
inductive Exit where
 |normal
 |exit (id:Nat)
 |ret
 |eO (d:D)
 deriving Inhabited,DecidableEq
abbrev Env:=List (Nat×D)
def get:Env→Nat→D
 |[],_ => .undef
 |(k,v)::r,t=>if k=t then v else get r t
def put(d:Option Nat)(v:D)(e:Env):Env :=
 match d with
 |some t=>(t,v)::e
 |none=>e
def D.calm:D→D
 |.vr .. => .undef
 |.emp => .undef
 |.own _ cs => .own 0 cs
 |d=>d
def D.strip:D→D
 |.vr .. => .undef
 |.emp => .undef
 |.own .. => .undef
 |d=>d
def restrict(live:List Nat)(e:Env):Env:=live.map fun t=>(t,(get e t).calm)
def keys(e:Env):List Nat:=(e.map (·.1)).eraseDups
def jY(live:List Nat)(e:Env):Env:=live.map fun t=>(t,(get e t).strip)
def kD(live:List Nat)(x:Exit)(e:Env):List Nat :=
 match x with
 |.normal=>live
 |_=>keys e
structure kq where
 state:Nat
 j4:Option Exit
 env:Env
 params:List Nat
 lK:bC
 body:bC
 deriving DecidableEq
inductive b8 where
 |cells (v:Nat) (cs:List D)
 |dead
 |loop (l:kq)
 deriving DecidableEq
abbrev SK:=List (List b8)
def gq:SK→Nat→Option (List b8)
 |[],_=>none
 |s::σ,l=>if σ.length=l then some s else gq σ l
def dj:SK→Nat→List b8→SK
 |[],_,_=>[]
 |s::σ,l,s'=>if σ.length=l then s'::σ else s::dj σ l s'
def bS(σ:SK)(l i:Nat):Option b8:=(gq σ l).bind (·[i]?)
def az(σ:SK)(l i:Nat)(b:b8):SK :=
 match gq σ l with
 |some s=>dj σ l (s.set i b)
 |none=>σ
def cells?(σ:SK)(l i v:Nat):Option (List D) :=
 match bS σ l i with
 |some (.cells v' cs)=>if v'=v then some cs else none
 |_=>none
def cG(σ:SK)(b:b8):Option (Nat×Nat×SK) :=
 match σ with
 |[]=>none
 |s::σ'=>some (σ'.length,s.length,(s++[b])::σ')
mutual
def D.clean:D→Bool
 |.ref .. => false
 |.sl .. => false
 |.fJ .. => false
 |.vr .. => true
 |.emp=>true
 |.own _ cs=>D.bp cs
 |.agg cs=>D.bp cs
 |.er cs=>D.bp cs
 |.bE cs=>D.bp cs
 |.ch _ cs=>D.bp cs
 |.fn _ a b=>D.bp a && D.bp b
 |.undef=>true
 |.bool _=>true
 |.int _ _=>true
 |.str _=>true
 |.j3=>true
 |.cH=>true
 |.lL=>true
 |.nu _ d=>D.clean d
 |.ia=>true
def D.bp:List D→Bool
 |[]=>true
 |d::ds=>D.clean d && D.bp ds
end
def bB(l:Nat):Nat→D→SK→D×SK
 |0,_,σ=>(.undef,σ)
 |n+1,d,σ =>
  if d.clean then(d,σ)else
  match d with
  |.agg cs=>let r:=frzL (bB l n) cs σ;(.agg r.1,r.2)
  |.er cs=>let r:=frzL (bB l n) cs σ;(.er r.1,r.2)
  |.bE cs=>let r:=frzL (bB l n) cs σ;(.bE r.1,r.2)
  |.ch m cs=>let r:=frzL (bB l n) cs σ;(.ch m r.1,r.2)
  |.own s cs=>let r:=frzL (bB l n) cs σ;(.own s r.1,r.2)
  |.fn f a b=>let r:=frzL (bB l n) a σ;let r':=frzL (bB l n) b r.2;(.fn f r.1 r'.1,r'.2)
  |.ref l' i v off=>if l'≤l then(.ref l' i v off,σ)else(.undef,σ)
  |.fJ l' i=>if l'≤l then(.fJ l' i,σ)else(.undef,σ)
  |.sl l' i v off m w =>
   if l'≤l then(.sl l' i v off m w,σ)else
   match cells? σ l' i v with
   |some cs=>let r:=frzL (bB l n) ((cs.drop off).take (m*w)) (az σ l' i .dead);(.ch m r.1,r.2)
   |none=>(.undef,σ)
  |_=>(.undef,σ)
where
 frzL (f:D→SK→D×SK):List D→SK→List D×SK
  |[],σ=>([],σ)
  |d::ds,σ=>let r:=f d σ;let r':=frzL f ds r.2;(r.1::r'.1,r'.2)
def deep:Nat:=16
def gF(l:Nat):Env→SK→Env×SK
 |[],σ=>([],σ)
 |(t,d)::e,σ=>let r:=bB l deep d σ;let r':=gF l e r.2;((t,r.1)::r'.1,r'.2)
inductive Q where
 |call (kp:Bool) (f:Nat) (args:List D) (σ:SK)
 |loop (live:List Nat) (kF:Bool) (c:bC) (env:Env) (σ:SK)
 |round (l i:Nat) (args:List D) (σ:SK)
 |cU (live:List Nat) (it:aM) (nx ok b:Nat) (c rest:bC) (env:Env) (σ:SK)
 |pz (f:Nat) (args:List D) (th:Option D) (σ:SK)
inductive R where
 |val (d:D) (σ:SK)
 |mF (e:Exit) (env:Env) (σ:SK)
 |eO (d:D) (σ:SK)
 deriving DecidableEq
abbrev aN:=Q→Option R
def aC(e:Env):aM→D
 |.t n=>(get e n).strip
 |.c d=>d
def D.cells:D→Option (List D)
 |.agg cs=>some cs
 |.undef=>none
 |.er _=>none
 |.own .. => none
 |.vr .. => none
 |.emp=>none
 |d=>some [d]
def D.row(ag:Bool)(d:D):Option (List D) :=
 match ag,d with
 |true,.agg cs=>some cs
 |true,_=>none
 |false,.agg _=>none
 |false,d=>d.cells
def gJ(e:Env):List (Nat×Nat×aM)→List D→Option (List D)
 |[],cs=>some cs
 |(off,sz,x)::r,cs =>
  match(aC e x).cells with
  |some p=>if p.length=sz∧off+sz≤cs.length then gJ e r (cs.take off++p++cs.drop (off+sz))else none
  |none=>none
def kY:List (Option IntKind)→List D→List D→Option Bool
 |[],[],[]=>some true
 |some k::ks,.int k1 a::x,.int k2 b::y=>if k1=k∧k2=k then(kY ks x y).map (a == b && ·)else none
 |none::ks,.bool a::x,.bool b::y=>(kY ks x y).map (a == b && ·)
 |_,_,_=>none
def jk(o:BinOp):D→D→Option D
 |.int k a,.int k' b =>
  match o with
  |.shl=>if b<0 then none else some (.int k (k.wrap (a*2^(min b.toNat k.bits))))
  |.shr=>if b<0 then none else some (.int k (a.fdiv (2^(min b.toNat k.bits))))
  |.add=>if k=k' then some (.int k (k.wrap (a+b)))else none
  |.sub=>if k=k' then some (.int k (k.wrap (a-b)))else none
  |.mul=>if k=k' then some (.int k (k.wrap (a*b)))else none
  |.quo=>if k=k'∧b≠0 then some (.int k (k.wrap (a.tdiv b)))else none
  |.rem=>if k=k'∧b≠0 then some (.int k (a.tmod b))else none
  |.and=>if k=k' then some (.int k (k.wrap ((BitVec.ofInt k.bits a &&& BitVec.ofInt k.bits b).toNat:Int)))else none
  |.or=>if k=k' then some (.int k (k.wrap ((BitVec.ofInt k.bits a ||| BitVec.ofInt k.bits b).toNat:Int)))else none
  |.xor=>if k=k' then some (.int k (k.wrap ((BitVec.ofInt k.bits a ^^^ BitVec.ofInt k.bits b).toNat:Int)))else none
  |.andNot=>none
  |.eql=>if k=k' then some (.bool (a == b))else none
  |.neq=>if k=k' then some (.bool (a != b))else none
  |.lss=>if k=k' then some (.bool (decide (a<b)))else none
  |.leq=>if k=k' then some (.bool (decide (a≤b)))else none
  |.gtr=>if k=k' then some (.bool (decide (a>b)))else none
  |.geq=>if k=k' then some (.bool (decide (a≥b)))else none
 |_,_=>none
def oL:D→Option Int
 |.int _ n=>some n
 |_=>none
def zy(e:Env)(m:Nat)(dfl:Option Nat):Option aM→Option Nat
 |some x=>match oL (aC e x)with
  |some n=>if 0≤n∧n≤m then some n.toNat else none
  |none=>none
 |none=>dfl
def bounds(len:Nat)(e:Env)(lo hi mx:Option aM):Option (Nat×Nat) :=
 (zy e len (some len) mx).bind fun m=>(zy e m (if mx.isSome then none else some len) hi).bind fun h=>(zy e h (some 0) lo).map fun l=>(l,h)
def kM(ky:Ky)(a b:D):Option Bool :=
 match ky with
 |none=>match a,b with
  |.str x,.str y=>some (x == y)
  |_,_=>none
 |some (ag,ks)=>match a.row ag,b.row ag with
  |some p,some q=>kY ks p q
  |_,_=>none
def jP(ky:Ky)(k:D):List D→Option (Option (Nat×D))
 |[]=>some none
 |.er [k',v]::es =>
  match kM ky k k' with
  |some true=>some (some (0,v))
  |some false=>(jP ky k es).map fun x=>x.map fun y=>(y.1+1,y.2)
  |none=>none
 |_=>none
def mO(σ:SK):D→Option (Nat×Nat×List D)
 |.fJ l i=>(cells? σ l i 0).map fun es=>(l,i,es)
 |_=>none
def pZ(σ:SK):Mo→List D→Option (D×SK)
 |.make,[]=>(cG σ (.cells 0 [])).map fun x=>(.fJ x.1 x.2.1,x.2.2)
 |.kR t e,[]=>(cG σ (.cells 2 [.int .i64 (t:Nat),.int .i64 (e:Nat),.str []])).map fun x=>(.fJ x.1 x.2.1,x.2.2)
 |.get ky zero ok,[m,k] =>
  match mO σ m with
  |some (_,_,es) =>
   if(kM ky k k).isSome then
    match jP ky k es with
    |some (some (_,v))=>some (if ok then .er [v,.bool true]else v,σ)
    |some none=>some (if ok then .er [zero,.bool false]else zero,σ)
    |none=>none
   else none
  |none=>none
 |.put ky,[m,k,v] =>
  match mO σ m with
  |some (l,i,es) =>
   if(kM ky k k).isSome∧(l+1=σ.length∨(k.clean∧v.clean))then
    match jP ky k es with
    |some (some (j,_))=>some (.undef,az σ l i (.cells 0 (es.set j (.er [k,v]))))
    |some none=>some (.undef,az σ l i (.cells 0 (es++[.er [k,v]])))
    |none=>none
   else none
  |none=>none
 |.len,[m]=>(mO σ m).map fun x=>(.int .i64 x.2.2.length,σ)
 |.MS,[m] =>
  match mO σ m with
  |some (lm,im,es)=>(cG σ (.cells 1 [.fJ lm im,.int .i64 es.length])).map fun x=>(.fJ x.1 x.2.1,x.2.2)
  |none=>none
 |.Hu,[.fJ l i] =>
  match cells? σ l i 1 with
  |some (m::.int .i64 n::.int .i64 j::_) =>
   match mO σ m with
   |some (_,_,es)=>if(es.length:Int)=n then
     match es[j.toNat]? with
     |some (.er [k,v])=>some (.er [k,v],σ)
     |_=>none
    else none
   |none=>none
  |_=>none
 |_,_=>none
def strCells(s:List UInt8):List D:=s.map fun b => .int .u8 b.toNat
def elems(σ:SK)(w:Nat):D→Option (Nat×List D)
 |.cH=>some (0,[])
 |.str s=>if w=1 then some (s.length,strCells s)else none
 |.ch n cs=>if cs.length=n*w then some (n,cs)else none
 |.sl l i v off n w' =>
  if w'=w then
   match cells? σ l i v with
   |some cs=>if off+n*w≤cs.length then some (n,(cs.drop off).take (n*w))else none
   |none=>none
  else none
 |_=>none
def mI:List D→Option (List UInt8)
 |[]=>some []
 |.int .u8 n::r=>(mI r).map (UInt8.ofNat n.toNat :: ·)
 |_=>none
def Gq(σ:SK):Me→List D→Option (D×SK)
 |.ME,[.str _]=>none
 |.ME,[x]=>(elems σ 1 x).bind fun r=>(mI r.2).map fun s=>(.str s,σ)
 |.NN,[.str s]=>some (.ch s.length (strCells s),σ)
 |.NM n w,[.ch m cs]=>if 0<n∧n≤m then some (.bE (cs.take (n*w)),σ)else none
 |.peq neg,[.ref l i v o,.ref l' i' v' o']=>if l=l'∧i=i'∧o=o'∧v=v'∧(cells? σ l i v).isSome then some (.bool (!neg),σ)else none
 |_,_=>none
def room:Nat:=2^46
def dJ:List (Nat×Nat)→List D→SK→Option (List D×SK)
 |[],cs,σ=>some (cs,σ)
 |(p,w)::r,cs,σ =>
  match cs[p]? with
  |some .cH=>do
   let (l,i,σ')←cG σ (.cells 0 [])
   dJ r (cs.set p (.sl l i 0 0 0 w)) σ'
  |_=>dJ r cs σ
def gK(e:Env)(v a:Nat):Option (Nat×List D×Nat) :=
 match get e v with
 |.own s cs =>
  if a=v then some (s,cs,0)else
  match get e a with
  |.vr x s' off=>if x=v∧s'=s then some (s,cs,off)else none
  |_=>none
 |_=>none
def iT(e:Env)(v:Nat):Nat :=
 match get e v with
 |.own s _=>s+1
 |_=>0
def oX(σ:SK):D→Option (List D)
 |.bE cs=>some cs
 |.ref l i v off=>(cells? σ l i v).map (·.drop off)
 |_=>none
def z8(σ:SK):D→Option (List D)
 |.ref l i 0 off=>oX σ (.ref l i 0 off)
 |_=>none
def vW(ps:Bool)(d:D):Option Bool :=
 match ps,d with
 |true,.j3=>some true
 |true,.bE _=>some false
 |true,.ref .. => some false
 |false,.cH=>some true
 |false,.ch n _=>if n=0 then none else some false
 |false,.sl _ _ _ _ n _=>if n=0 then none else some false
 |_,_=>none
def Am(t:Nat)(z:Option D):D→Option D
 |.nu t' d=>match z with
  |some z=>some (if t'=t then .er [d,.bool true]else .er [z,.bool false])
  |none=>if t'=t then some d else none
 |.ia=>z.map fun z => .er [z,.bool false]
 |_=>none
def Ny:D→Option Bool
 |.ia=>some true
 |.nu .. => some false
 |_=>none
def D.off(l i:Nat):D→Bool
 |.ref l' i' _ _=>decide (¬(l'=l∧i'=i))
 |_=>true
def r6(e:Env)(σ:SK)(w bytes:Nat)(s x:aM):Option (D×SK):=do
  let (m,xs)←elems σ w (aC e x)
  match aC e s with
  |.cH =>
   if m*bytes≤room then
    if m=0 then some (.ch 0 [],σ)else do
    let (l,i,σ')←cG σ (.cells 0 xs)
    some (.sl l i 0 0 m w,σ')
   else none
  |.sl l i v off n w' =>
   match cells? σ l i v with
   |some cs =>
    if w'=w∧off+n*w≤cs.length∧(n+m)*bytes≤room then
     if l+1=σ.length then
      some (.sl l i (v+1) 0 (n+m) w,az σ l i (.cells (v+1) ((cs.drop off).take (n*w)++xs)))
     else
      let r:=bB.frzL (bB l deep) xs σ
      some (.sl l i (v+1) 0 (n+m) w,az r.2 l i (.cells (v+1) ((cs.drop off).take (n*w)++r.1)))
    else none
   |none=>none
  |_=>none
def aK(e:Env)(σ:SK):K→Option (D×SK)
 |.mv x=>some (aC e x,σ)
 |.ln w=>do
  let (l,i,σ')←cG σ (.cells 0 [])
  some (.sl l i 0 0 0 w,σ')
 |.pick c a b =>
  match aC e c with
  |.bool t=>some (if t then aC e a else aC e b,σ)
  |_=>none
 |.ui nb cs=>do
  let (cs',σ1)←dJ nb cs σ
  let (l,i,σ')←cG σ1 (.cells 0 cs')
  some (.ref l i 0 0,σ')
 |.qR x=>(aC e x).cells.map fun cs=>(.bE cs,σ)
 |.um x=>do
  let cs←(aC e x).cells
  let (l,i,σ')←cG σ (.cells 0 cs)
  some (.ref l i 0 0,σ')
 |.E7 nb x=>do
  let cs←(aC e x).cells
  let (cs',σ1)←dJ nb cs σ
  let (l,i,σ')←cG σ1 (.cells 0 cs')
  some (.ref l i 0 0,σ')
 |.ft .. => none
 |.pq _=>none
 |.q9 .. => none
 |.wG v ag sz a =>
  match gK e v a with
  |some (_,cs,off) =>
   let cs:=cs.drop off
   if sz≤cs.length then
    if ag then some (.agg (cs.take sz),σ)else
    match cs with
    |d::_=>some (d,σ)
    |[]=>none
   else none
  |none=>none
 |.kR zero parts=>do
  let cs←gJ e parts zero
  some (.agg cs,σ)
 |.sS n _ zero parts=>do
  let cs←gJ e parts zero
  some (.ch n cs,σ)
 |.ze n w zero parts=>do
  let cs←gJ e parts zero
  let (l,i,σ')←cG σ (.cells 0 cs)
  some (.sl l i 0 0 n w,σ')
 |.ld ag sz a =>
  match oX σ (aC e a)with
  |some cs =>
   if sz≤cs.length then
    if ag then some (.agg (cs.take sz),σ)else
    match cs with
    |d::_=>some (d,σ)
    |[]=>none
   else none
  |none=>none
 |.zi ag sz a =>
  match z8 σ (aC e a)with
  |some cs =>
   if sz≤cs.length then
    if ag then some (.agg (cs.take sz),σ)else
    match cs with
    |d::_=>some (d,σ)
    |[]=>none
   else none
  |none=>none
 |.HC ag sz a =>
  match aC e a with
  |.bE cs =>
   if sz≤cs.length then
    if ag then some (.agg (cs.take sz),σ)else
    match cs with
    |d::_=>some (d,σ)
    |[]=>none
   else none
  |_=>none
 |.Gj ps neg x=>(vW ps (aC e x)).map fun b=>(.bool (if neg then !b else b),σ)
 |.sV x =>
  match aC e x with
  |.bE cs=>some (.bE cs,σ)
  |.ref l i v off=>some (.ref l i v off,σ)
  |_=>none
 |.st nb sz a x =>
  match aC e a with
  |.ref l i v off =>
   match cells? σ l i v with
   |some cs =>
    match(aC e x).cells with
    |some p =>
     if p.length=sz∧off+sz≤cs.length then
      if l+1=σ.length then
       match dJ nb p σ with
       |some (p',σ1)=>some (.undef,az σ1 l i (.cells v (cs.take off++p'++cs.drop (off+sz))))
       |none=>none
      else
       let r:=bB.frzL (bB l deep) p σ
       some (.undef,az r.2 l i (.cells v (cs.take off++r.1++cs.drop (off+sz))))
     else none
    |none=>none
   |none=>none
  |_=>none
 |.wA os sz a x =>
  match aC e a with
  |.ref l i v off =>
   if(os.all fun t=>D.off l i (get e t))=true then
    match cells? σ l i v with
    |some cs =>
     match(aC e x).cells with
     |some p =>
      if p.length=sz∧off+sz≤cs.length∧(D.bp p=true∨l+1=σ.length)then some (.undef,az σ l i (.cells v (cs.take off++p++cs.drop (off+sz))))else none
     |none=>none
    |none=>none
   else none
  |_=>none
 |.bin o x y=>(jk o (aC e x) (aC e y)).map (·,σ)
 |.eqv ag ks neg x y =>
  match(aC e x).row ag,(aC e y).row ag with
  |some p,some q=>(kY ks p q).map fun b=>(.bool (if neg then !b else b),σ)
  |_,_=>none
 |.un o x =>
  match o,aC e x with
  |.not,.bool b=>some (.bool !b,σ)
  |.neg,.int k n=>some (.int k (k.wrap (0-n)),σ)
  |.xor,.int k n=>some (.int k (k.wrap ((BitVec.ofInt k.bits (if k.signed then -1 else k.max) ^^^ BitVec.ofInt k.bits n).toNat:Int)),σ)
  |_,_=>none
 |.r8 k x =>
  match aC e x with
  |.int _ n=>some (.int k (k.wrap n),σ)
  |_=>none
 |.yq f first cap=>some (.fn f (first.map (aC e)) (cap.map (aC e)),σ)
 |.Gt w bytes zero l c =>
  match aC e l,aC e c with
  |.int .i64 n,.int .i64 m =>
   if 0≤n∧n=m∧n*bytes≤(room:Int)∧zero.length=w then do
    let (l,i,σ')←cG σ (.cells 0 ((List.range n.toNat).flatMap fun _=>zero))
    some (.sl l i 0 0 n.toNat w,σ')
   else none
  |_,_=>none
 |.HW w x lo hi mx =>
  match aC e x with
  |.ch n cs=>(bounds n e lo hi mx).map fun b=>(.ch (b.2-b.1) ((cs.drop (b.1*w)).take ((b.2-b.1)*w)),σ)
  |.sl l i v off n w'=>if w'=w then(bounds n e lo hi mx).map fun b=>(.sl l i v (off+b.1*w) (b.2-b.1) w,σ)else none
  |.cH=>(bounds 0 e lo hi mx).map fun _=>(.cH,σ)
  |_=>none
 |.pX len w x lo hi =>
  match aC e x with
  |.bE cs=>(bounds len e lo hi none).map fun b=>(.ch (b.2-b.1) ((cs.drop (b.1*w)).take ((b.2-b.1)*w)),σ)
  |.ref l i v off =>
   match cells? σ l i v with
   |some cs=>if len≤1000000∧off+len*w≤cs.length then(bounds len e lo hi none).map fun b=>(.sl l i v (off+b.1*w) (b.2-b.1) w,σ)else none
   |none=>none
  |_=>none
 |.qT off x =>
  match x with
  |.t n =>
   match get e n with
   |.bE cs=>some (.bE (cs.drop off),σ)
   |.ref l i v o=>some (.ref l i v (o+off),σ)
   |.own s _=>some (.vr n s off,σ)
   |.vr v s o=>some (.vr v s (o+off),σ)
   |_=>none
  |.c _=>none
 |.Ek ag off sz x =>
  match aC e x with
  |.agg cs =>
   if off+sz≤cs.length then
    if ag then some (.agg ((cs.drop off).take sz),σ)else(cs[off]?).map (·,σ)
   else none
  |_=>none
 |.vV len w x i =>
  match x,oL (aC e i)with
  |.t m,some n =>
   if 0≤n∧n<len then
    match get e m with
    |.bE cs=>some (.bE ((cs.drop (n.toNat*w)).take w),σ)
    |.ref l j v off=>some (.ref l j v (off+n.toNat*w),σ)
    |.own s _=>some (.vr m s (n.toNat*w),σ)
    |.vr v s o=>some (.vr v s (o+n.toNat*w),σ)
    |_=>none
   else none
  |_,_=>none
 |.oI w x i =>
  match aC e x,oL (aC e i)with
  |.ch m cs,some n=>if 0≤n∧n<m then some (.bE ((cs.drop (n.toNat*w)).take w),σ)else none
  |.sl l j v off m w',some n=>if 0≤n∧n<m∧w'=w then some (.ref l j v (off+n.toNat*w),σ)else none
  |_,_=>none
 |.oJ ag len w x i =>
  match aC e x,oL (aC e i)with
  |.agg cs,some n =>
   if 0≤n∧n<len∧(n.toNat+1)*w≤cs.length then
    if ag then some (.agg ((cs.drop (n.toNat*w)).take w),σ)else(cs[n.toNat*w]?).map (·,σ)
   else none
  |_,_=>none
 |.q5 x =>
  match aC e x with
  |.cH=>some (.int .i64 0,σ)
  |.ch n _=>some (.int .i64 n,σ)
  |.sl _ _ _ _ n _=>some (.int .i64 n,σ)
  |_=>none
 |.uC n=>some (.int .i64 n,σ)
 |.mn x y =>
  match aC e x,aC e y with
  |.int k a,.int _ b=>some (.int k (min a b),σ)
  |_,_=>none
 |.mx x y =>
  match aC e x,aC e y with
  |.int k a,.int _ b=>some (.int k (max a b),σ)
  |_,_=>none
 |.app w bytes s x=>do
  let (m,xs)←elems σ w (aC e x)
  match aC e s with
  |.cH =>
   if m*bytes≤room then
    if m=0 then some (.ch 0 [],σ)else do
    let (l,i,σ')←cG σ (.cells 0 xs)
    some (.sl l i 0 0 m w,σ')
   else none
  |.sl l i v off n w' =>
   match cells? σ l i v with
   |some cs =>
    if w'=w∧off+n*w≤cs.length∧(n+m)*bytes≤room then
     if l+1=σ.length then
      some (.sl l i (v+1) 0 (n+m) w,az σ l i (.cells (v+1) ((cs.drop off).take (n*w)++xs)))
     else
      let r:=bB.frzL (bB l deep) xs σ
      some (.sl l i (v+1) 0 (n+m) w,az r.2 l i (.cells (v+1) ((cs.drop off).take (n*w)++r.1)))
    else none
   |none=>none
  |_=>none
 |.zd os w bytes s x =>
  match aC e s with
  |.sl l i _ _ _ _=>if(os.all fun t=>D.off l i (get e t))=true then(elems σ w (aC e x)).bind fun r=>if D.bp r.2=true then r6 e σ w bytes s x else none else none
  |_=>none
 |.E4 w bytes s x=>(r6 e σ w bytes s x).map fun r=>bB 0 deep r.1 r.2
 |.E9 w bytes x=>do
  let (m,xs)←elems σ w (aC e x)
  if m*bytes≤room then some (.ch m xs,σ)else none
 |.Fc x =>
  match aC e x with
  |.sl l i v off n w =>
   if 0<n then
    match cells? σ l i v with
    |some cs=>some (.ch n ((cs.drop off).take (n*w)),az σ l i .dead)
    |none=>none
   else none
  |_=>none
 |.Hr=>some (.emp,σ)
 |.E3 w bytes v x =>
  match get e v with
  |.emp=>(elems σ w (aC e x)).bind fun r=>if r.1*bytes≤room then some (.ch r.1 r.2,σ)else none
  |_=>none
 |.ext x i =>
  match aC e x with
  |.er ds=>(ds[i]?).map (·,σ)
  |_=>none
 |.oA o xs=>(so o (xs.map (aC e))).map (·,σ)
 |.mp o xs=>pZ σ o (xs.map (aC e))
 |.me o xs=>Gq σ o (xs.map (aC e))
 |.HH t x=>some (.nu t (aC e x),σ)
 |.Ho t z x=>(Am t z (aC e x)).map (·,σ)
 |.Gi neg x=>(Ny (aC e x)).map fun b=>(.bool (if neg then !b else b),σ)
 |.z6 _=>none
 |.vy=>none
 |.call _ _ _=>none
def R.mE:Option R→Option (D×SK)
 |some (.val d σ)=>some (d,σ)
 |_=>none
def R.vR:Option R→Option (Exit×Env×SK)
 |some (.mF e env σ)=>some (e,env,σ)
 |_=>none
def jL(O:aN)(kp:Bool)(fv:D)(args:List D)(σ:SK):Option (D×SK) :=
 match fv with
 |.fn f first cap=>R.mE (O (.call kp f (first++args++cap) σ))
 |.fJ l i=>R.mE (O (.round l i args σ))
 |_=>none
def oq(O:aN)(fv:D)(args:List D)(σ:SK):Option (D×SK) :=
 match fv with
 |.fn f first cap=>R.mE (O (.call false f (first++args++cap) σ))
 |_=>none
def jF(O:aN)(op:Op)(e:Env)(σ:SK):Option (Env×SK) :=
 match op.k with
 |.call kp f args =>
  match jL O kp (aC e f) (args.map (aC e)) σ with
  |some (d,σ')=>if op.lI=true→σ'=σ then some (put op.dst d e,σ')else none
  |none=>none
 |.ft nb cs =>
  match op.dst,dJ nb cs σ with
  |some v,some (cs',σ')=>some ((v,.own (iT e v) cs')::e,σ')
  |_,_=>none
 |.pq x =>
  match op.dst,(aC e x).cells with
  |some v,some cs=>some ((v,.own (iT e v) cs)::e,σ)
  |_,_=>none
 |.q9 v nb sz a x =>
  match gK e v a,(aC e x).cells with
  |some (s,cs,off),some p =>
   if p.length=sz∧off+sz≤cs.length then
    match dJ nb p σ with
    |some (p',σ')=>some ((v,.own s (cs.take off++p'++cs.drop (off+sz)))::e,σ')
    |none=>none
   else none
  |_,_=>none
 |k=>(aK e σ k).map fun x=>(put op.dst x.1 e,x.2)
def D.bit:D→Option (Option Bool)
 |.bool b=>some (some b)
 |.er []=>some none
 |_=>none
def eN(O:aN):List Op→Env→SK→Option (Env×SK)
 |[],e,σ=>some (e,σ)
 |op::r,e,σ =>
  match op.mL with
  |none=>(jF O op e σ).bind fun x=>eN O r x.1 x.2
  |some (g,want) =>
   match(get e g).bit with
   |some y=>if y=some want then(jF O op e σ).bind fun x=>eN O r x.1 x.2 else eN O r (put op.dst (.er []) e) σ
   |none=>none
def D.qQ:D→D
 |.cH => .ch 0 []
 |d=>d
def qU(l i u:Nat)(σ:SK):D×SK :=
 match cells? σ l i u with
 |some cs=>let r:=bB.frzL (bB 0 deep) cs (az σ l i .dead);(.bE (r.1.map D.qQ),r.2)
 |none=>(.undef,σ)
def wj(v:Nat)(e:Env):Env :=
 match get e v with
 |.own _ cs=>if e.all (fun p=>match p.2 with | .vr x _ _=>x != v | _=>true)then(v,.bE cs)::e else e
 |_=>e
def qX(v:Nat)(e:Env)(σ:SK):Env×SK :=
 match get e v with
 |.cH=>((v,.ch 0 [])::e,σ)
 |.ref l i u 0=>let r:=qU l i u σ;((v,r.1)::e,r.2)
 |.own s cs=>((v,.own s (cs.map D.qQ))::e,σ)
 |.undef=>if 1000000≤v then(wj (v-1000000) e,σ)else(e,σ)
 |_=>(e,σ)
def jl:List Nat→Env→SK→Env×SK
 |[],e,σ=>(e,σ)
 |v::vs,e,σ =>
  match get e v with
  |.sl l i u off m w=>let r:=bB 0 deep (.sl l i u off m w) σ;jl vs ((v,r.1)::e) r.2
  |.own s cs=>let r:=bB.frzL (bB 0 deep) cs σ;jl vs ((v,.own s r.1)::e) r.2
  |.agg cs=>jl vs ((v,.agg (cs.map D.qQ))::e) σ
  |.undef=>if 1000000≤v then(let r:=qX (v-1000000) e σ;jl vs r.1 r.2)else jl vs e σ
  |_=>jl vs e σ
def ng(O:aN)(fv:D)(args:List D)(σ:SK):Option R :=
 match fv with
 |.fn f first cap=>O (.call false f (first++args++cap) σ)
 |_=>none
def lE(O:aN)(live:List Nat)(dst:Option Nat)(post:List Op)(e:Env):Option R→Option (Exit×Env×SK)
 |some (.val d σ')=>(eN O post (put dst d e) σ').map fun y=>(.normal,restrict live y.1,y.2)
 |some (.eO d σ')=>some (.eO d,e,σ')
 |_=>none
def qI(O:aN)(live:List Nat)(op:Op)(post:List Op)(e:Env)(σ:SK):Option (Exit×Env×SK) :=
 match op.mL,op.k with
 |none,.call false f args=>lE O live op.dst post e (ng O (aC e f) (args.map (aC e)) σ)
 |none,.z6 x=>(match aC e x with
  |.nu t d=>if d.clean then some (.eO (.nu t d),e,σ)else none
  |_=>none)
 |_,_=>none
def aA(O:aN):bC→Env→SK→Option (Exit×Env×SK)
 |.dY,e,σ=>some (.normal,e,σ)
 |.bB vs,e,σ=>let r:=jl vs e σ;some (.normal,r.1,r.2)
 |.b7 live ops,e,σ=>(eN O ops e σ).map fun x=>(.normal,restrict live x.1,x.2)
 |.seq a b,e,σ=>(aA O a e σ).bind fun x =>
  match x.1 with
  |.normal=>aA O b x.2.1 x.2.2
  |_=>some x
 |.ite c a b,e,σ =>
  match aC e c with
  |.bool t=>if t then aA O a e σ else aA O b e σ
  |_=>none
 |.aR id a,e,σ=>(aA O a e σ).map fun x =>
  match x.1 with
  |.exit j=>if j=id then(.normal,x.2)else x
  |_=>x
 |.loop live kF a,e,σ=>R.vR (O (.loop live kF a e σ))
 |.tS live f params lK body,e,σ =>
  match cG σ (.loop {state:=0,j4:=none,env:=jY live e,params,lK,body })with
  |some (l,i,σ1) =>
   match oq O (aC e f) [.fJ l i] σ1 with
   |some (_,σ2) =>
    match bS σ2 l i with
    |some (.loop lp) =>
     if lp.state=1 then none else
     some (lp.j4.getD .normal,restrict live e,az σ2 l i (.loop {lp with state:=3 }))
    |_=>none
   |none=>none
  |none=>none
 |.cU live it nx ok b a rest,e,σ=>R.vR (O (.cU live it nx ok b a rest e σ))
 |.yY live pre op post,e,σ=>(eN O pre e σ).bind fun x=>qI O live op post x.1 x.2
 |.zf ..,_,_=>none
 |.EF a,e,σ=>(aA O a e ([]::σ)).map fun x=>(x.1,(gF (σ.length-1) (restrict (keys x.2.1) x.2.1) x.2.2).1,(gF (σ.length-1) (restrict (keys x.2.1) x.2.1) x.2.2).2.tail)
 |.exit id,e,σ=>some (.exit id,e,σ)
 |.ret,e,σ=>some (.ret,e,σ)
inductive o7 where
 |t (n:Nat)
 |c (n:Nat) (ag:Bool) (sz:Nat)
 |v (n:Nat) (ag:Bool) (sz:Nat)
structure Fn where
 uH:Nat
 res:List o7
 body:bC
def su(e:Env)(σ:SK):o7→Option D
 |.t n=>some (get e n).strip
 |.c n ag sz=>(aK e σ (.ld ag sz (.t n))).map (·.1)
 |.v n ag sz=>(aK e σ (.wG n ag sz n)).map (·.1)
def lM(e:Env)(σ:SK):List o7→Option (List D)
 |[]=>some []
 |r::rs=>(su e σ r).bind fun d=>(lM e σ rs).map fun ds=>d::ds
def iS:List D→D
 |[d]=>d
 |ds => .er ds
def gn(n:Nat):List D→Env
 |[]=>[]
 |d::ds=>(n,d)::gn (n+1) ds
def lr:List Nat→List D→Env→Env
 |t::ts,d::ds,e=>lr ts ds ((t,d)::e)
 |_,_,e=>e
abbrev lN:=Nat→Option Fn
def yf:List D→Option (List Int)
 |[]=>some []
 |.int .i64 z::r=>(yf r).map (z :: ·)
 |_=>none
def zN(x:Int):List Int→List Int
 |[]=>[x]
 |y::l=>if x≤y then x::y::l else y::zN x l
def vF:List Int→List Int
 |[]=>[]
 |x::l=>zN x (vF l)
def yd(l:List Int):List D:=l.map (.int .i64)
def tp(x:Int):List Int→List Int
 |[]=>[]
 |y::l=>if y=x then tp x l else y::tp y l
def rm:List Int→List Int
 |[]=>[]
 |x::l=>x::tp x l
def yy(k:Nat)(zs:List Int):List Int:=if k=1 then vF zs else rm zs++List.replicate (zs.length-(rm zs).length) 0
def Gv(k l i v off:Nat)(zs:List Int):D:=if k=1 then .er []else .sl l i v off (rm zs).length 1
def Ls(k:Nat)(args:List D)(σ:SK):Option R :=
 match args with
 |[.sl l i v off n w] =>
  if n≠0∧w=1∧n≤1000000 then
   match cells? σ l i v with
   |some cs =>
    if off+n≤cs.length then
     match yf ((cs.drop off).take n)with
     |some zs=>some (.val (Gv k l i v off zs) (az σ l i (.cells v (cs.take off++yd (yy k zs)++cs.drop (off+n)))))
     |none=>none
    else none
   |none=>none
  else none
 |_=>none
def xc:Nat→Nat→List UInt8
 |0,_=>[]
 |k+1,u=>if u<10 then [UInt8.ofNat (48+u)]else xc k (u / 10)++[UInt8.ofNat (48+u%10)]
def pJ(n:Int):List UInt8:=if n<0 then 45::xc 20 n.natAbs else xc 20 n.toNat
def uT:List D→Option (List (List UInt8))
 |[]=>some []
 |.str s::r=>(uT r).map (s :: ·)
 |_=>none
def Em(sep:List UInt8):List (List UInt8)→List UInt8
 |[]=>[]
 |x::r=>x++r.flatMap (sep ++ ·)
def sJ(b:UInt8):List UInt8→List (List UInt8)
 |[]=>[[]]
 |c::r=>if c=b then []::sJ b r else match sJ b r with
  |x::l=>(c::x)::l
  |[]=>[[c]]
def Ax(s:List UInt8):Nat×Int :=
 match Lib.atoiAll s with
 |.ok v=>(0,v)
 |Lib.NumEnd.syntax=>(1,0)
 |.range=>(2,Lib.atoiSat s)
def Ir(a b:Nat)(xs:List (List UInt8)):List (List UInt8):=xs.take a++xs.drop b++List.replicate (b-a) []
def yw(k:Nat)(args:List D)(σ:SK):Option R :=
 match k%16,args with
 |3,[.int .i64 n]=>if -9223372036854775808≤n∧n≤9223372036854775807 then some (.val (.str (pJ n)) σ)else none
 |4,[.str s]=>if s.length≤1000000 then some (.val (.er [.int .i64 (Ax s).2,if(Ax s).1=0 then .ia else .nu (k / 16) .undef]) σ)else none
 |5,[.ch n cs,.str sep] =>
  match uT cs with
  |some xs=>if n=xs.length∧n≤1000∧(Em sep xs).length≤1000000 then some (.val (.str (Em sep xs)) σ)else none
  |none=>none
 |6,[.str s,.str [b]]=>if s.length≤1000000 then some (.val (.ch (sJ b s).length ((sJ b s).map .str)) σ)else none
 |7,[.fJ l i,.str s] =>
  match cells? σ l i 2 with
  |some [.int .i64 t,.int .i64 e,.str bs] =>
   if t=((k / 16%65536:Nat):Int)∧e=((k / 16 / 65536:Nat):Int)∧bs.length+s.length≤1000000 then
    some (.val (.er [.int .i64 s.length,.ia]) (az σ l i (.cells 2 [.int .i64 t,.int .i64 e,.str (bs++s)])))
   else none
  |_=>none
 |8,[.fJ l i] =>
  match cells? σ l i 2 with
  |some [.int .i64 t,.int .i64 e,.str bs]=>if t=((k / 16%65536:Nat):Int)∧e=((k / 16 / 65536:Nat):Int)∧bs≠[]then some (.val (.str bs) σ)else none
  |_=>none
 |9,[.sl l i v off n w,.int .i64 a,.int .i64 b] =>
  if n≠0∧w=1∧n≤1000000∧0≤a∧a≤b∧b≤(n:Int)then
   match cells? σ l i v with
   |some cs =>
    if off+n≤cs.length then
     match uT ((cs.drop off).take n)with
     |some xs=>some (.val (.sl l i v off (n-(b.toNat-a.toNat)) 1) (az σ l i (.cells v (cs.take off++(Ir a.toNat b.toNat xs).map .str++cs.drop (off+n)))))
     |none=>none
    else none
   |none=>none
  else none
 |0,_=>none
 |9,_=>none
 |10,_=>none
 |11,_=>none
 |12,_=>none
 |13,_=>none
 |14,_=>none
 |15,_=>none
 |1,args=>Ls 1 args σ
 |2,args=>Ls 2 args σ
 |_,_=>none
def ow(σ:SK)(l i:Nat):Option (D×Nat×List D×List Nat) :=
 match cells? σ l i 1 with
 |some (m::.int .i64 n::js) =>
  match mO σ m with
  |some (_,_,es)=>if(es.length:Int)=n then some (m,es.length,js,(List.range es.length).filter fun j => !(js.contains (.int .i64 j)))else none
  |none=>none
 |_=>none
def agree:List (Option R)→Option R
 |[]=>none
 |r::rs=>if ∀x∈rs,x=r then r else none
def jR(O:aN)(l i b:Nat)(rest:bC):Option (Exit×Env×SK)→Option R
 |some (.exit j,e1,σ1) =>
  if j=b then(aA O rest e1 (az σ1 l i .dead)).map fun x => .mF x.1 x.2.1 x.2.2
  else some (.mF (.exit j) e1 (az σ1 l i .dead))
 |some (.ret,e1,σ1)=>some (.mF .ret e1 (az σ1 l i .dead))
 |_=>none
def lH(O:aN)(live:List Nat)(it:aM)(l i nx ok b:Nat)(c rest:bC):Option (Exit×Env×SK)→Option R
 |some (.normal,e1,σ1)=>O (.cU live it nx ok b c rest e1 σ1)
 |y=>jR O l i b rest y
def dw:bC→Option (bC×aM×List aM×bC)
 |.zf f args q=>some (.dY,f,args,q)
 |.seq a b=>(dw b).map fun x=>(.seq a x.1,x.2)
 |_=>none
def yW(kp:Bool)(d:D):SK→Option R
 |_::σ=>if kp=false∧d.clean=true then some (.eO d σ)else none
 |[]=>none
def leave(res:List o7)(σ:SK)(e:Env)(σ1:SK):Option R :=
 match lM e σ1 res with
 |some ds=>(match bB (σ.length-1) deep (iS ds) σ1 with
  |(d,_::σ2)=>some (.val d σ2)
  |_=>none)
 |none=>none
def iB(O:aN)(fv:D)(args:List D)(th:Option D)(σ:SK):Option R :=
 match fv with
 |.fn f first cap=>O (.pz f (first++args++cap) th σ)
 |_=>none
def mK(res:List o7)(σ:SK)(e:Env):Option R→Option R
 |some (.val _ σ1)=>leave res σ e σ1
 |_=>none
def pB(O:aN)(res:List o7)(σ:SK)(fv:D)(args:List D):Option (Exit×Env×SK)→Option R
 |some (.eO d,e,σ1)=>mK res σ e (iB O fv args (some d) σ1)
 |some (.normal,e,σ1)=>mK res σ e (iB O fv args none σ1)
 |some (.ret,e,σ1)=>mK res σ e (iB O fv args none σ1)
 |_=>none
def lT(O:aN)(fn:Fn)(σ:SK):Option (bC×aM×List aM×bC)→Env→SK→Option R
 |some (a,f,args,q),e0,σ0 =>
  (match aA O a e0 σ0 with
  |some (.normal,e,σ1)=>pB O fn.res σ (aC e f) (args.map (aC e)) (aA O q e σ1)
  |_=>none)
 |none,_,_=>none
def nd(th:Option D)(args:List D):bC→Option (Env×bC)
 |.seq (.b7 live [⟨some t,none,_,.vy⟩]) q=>(match q with
  |.cU .. => none
  |q=>some (restrict live ((t,th.getD .ia)::gn 0 args),q))
 |_=>none
def bK(T:lN)(O:aN):Q→Option R
 |.call kp f args σ =>
  match T f with
  |some fn =>
   if args.length=fn.uH then
    match aA O fn.body (gn 0 args) (if kp then σ else []::σ)with
    |some (.exit _,_,_)=>none
    |some (.eO d,_,σ1)=>yW kp d σ1
    |some (_,e,σ1) =>
     match lM e σ1 fn.res with
     |some ds =>
      if kp then some (.val (iS ds) σ1)else
      match bB (σ.length-1) deep (iS ds) σ1 with
      |(d,_::σ2)=>some (.val d σ2)
      |_=>none
     |none=>none
    |none=>if kp then none else lT O fn σ (dw fn.body) (gn 0 args) ([]::σ)
   else none
  |none =>
   match T (1000000+f)with
   |some fn=>yw fn.uH args σ
   |none=>none
 |.loop live kF c e σ =>
  match aA O c (restrict live e) (if kF then []::σ else σ)with
  |some (x,e1,σ1) =>
   let (e2,σ2):=if kF then(let r:=gF (σ.length-1) (restrict (kD live x e1) e1) σ1;(r.1,r.2.tail))else(e1,σ1)
   match x with
   |.normal=>O (.loop live kF c e2 σ2)
   |x=>some (.mF x e2 σ2)
  |none=>none
 |.round l i args σ =>
  match bS σ l i with
  |some (.loop lp) =>
   if args.length=lp.params.length then
    match aA O lp.lK (lr lp.params args lp.env) ([]::σ)with
    |some (.normal,e1,σ1) =>
     match bS σ1 l i with
     |some (.loop lp1) =>
      if lp1.state=0 then
       match aA O lp.body e1 (az σ1 l i (.loop {lp1 with state:=1 }))with
       |some (x,_,_::σ2) =>
        match bS σ2 l i with
        |some (.loop lp2) =>
         match x with
         |.eO _=>none
         |.normal=>some (.val (.bool true) (az σ2 l i (.loop {lp2 with state:=0,j4:=none })))
         |x=>some (.val (.bool false) (az σ2 l i (.loop {lp2 with state:=2,j4:=some x })))
        |_=>none
       |_=>none
      else none
     |_=>none
    |_=>none
   else none
  |_=>none
 |.cU live it nx ok b c rest e σ =>
  match aC (restrict live e) it with
  |.fJ l i =>
   match ow σ l i with
   |some (_,_,_,[])=>jR O l i b rest (aA O c ((ok,.bool false)::(nx,.undef)::restrict live e) σ)
   |some (m,n,js,us)=>agree (us.map fun u=>lH O live it l i nx ok b c rest (aA O c ((ok,.bool true)::(nx,.undef)::restrict live e) (az σ l i (.cells 1 (m::.int .i64 (n:Nat)::.int .i64 (u:Nat)::js)))))
   |none=>none
  |_=>none
 |.pz f args th σ =>
  match T f with
  |some fn =>
   if args.length=fn.uH then
    match nd th args fn.body with
    |some (e0,q) =>
     match aA O q e0 ([]::σ)with
     |some (.exit _,_,_)=>none
     |some (.eO _,_,_)=>none
     |some (_,e,σ1) =>
      match lM e σ1 fn.res,σ1 with
      |some [],_::σ2=>some (.val (.er []) σ2)
      |_,_=>none
     |none=>none
    |none=>none
   else none
  |none=>none
def it(T:lN):Nat→aN
 |0=>fun _=>none
 |n+1=>bK T (it T n)
open Classical in
noncomputable def lim(T:lN):aN:=fun q =>
 if h:∃n r,it T n q=some r then some h.choose_spec.choose else none
end Go.Abs
