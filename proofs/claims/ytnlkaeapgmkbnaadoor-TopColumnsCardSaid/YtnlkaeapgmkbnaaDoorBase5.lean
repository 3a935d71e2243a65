import Derived.Test.YtnlkaeapgmkbnaaDoorBase4
import Derived.Laws.Strings2
import Derived.Laws.Slices
import Derived.Laws.Concat
set_option linter.all false
namespace Go.Abs
open Go
section
variable {P:Program} {CR:cm} {base fb:Nat} {V:List Nat} {g:G} {σ σ':SK} {w:World} {B:Nat→Nat} {e:Env} {tmps:Array Value} {df:List Deferred}
 {a:jq} {ops:Array Oper} {key:Nat} {k:K} {d:D}
theorem aI.ei{s:List UInt8}{c:Value}(h:aI g (.str s) c):∃b:ByteArray,c=.string b∧b.data.toList=s:=by
 generalize hd:D.str s=d at h;cases h<;>cases hd;exact⟨_,rfl,rfl⟩
theorem mr(b:ByteArray){s:List UInt8}(h:b.data.toList=s):aI g (.str s) (.string b):=by subst h;exact .str b
theorem j6(b:ByteArray):b.data.toList.length=b.size:=by cases b;rfl
theorem Hg(hf:Fr fb V g w B e tmps)(hi:Inv CR base g σ w){x:Operand}{X:aM}{t:TypeId}{args:Array Operand}{ts:Array TypeId}{r:List Operand}{tr:List TypeId}(hx:aF x=some X)
  (ht:P.underlying t=some .string) (ha:args.toList=x::r) (hts:ts.toList=t::tr)
  (h:aK e σ (.oA .uO [X])=some (d,σ')) (o:Oper) (ho:o.op=.call {callee:=.builtin .len,args,argTypes:=ts }):b9 P CR base g w B e (Act.mk tmps df).eval o d σ':=by
 have hr:=hf.aC (df:=df) hx;obtain rfl:args=(x::r).toArray:=by rw[← ha]
 obtain rfl:ts=(t::tr).toArray:=by rw[← hts]
 simp only[aK,ab,aw,aS]at h;obtain⟨d0,hp,h⟩:=h;cases h;generalize aC e X=dx at hr hp;cases dx<;>simp only[so,reduceCtorEq,ad]at hp;subst hp;obtain⟨b,hb,rfl⟩:=hr.ei;refine .pure hi (c:=.int .i64 b.size) (by simp[execOp,ho,resolve,invoke,builtin,Builtin.len_,hb,aB ht,goInt]) ?_;rw[j6];exact a8.of (.int _ _)
theorem He(hf:Fr fb V g w B e tmps)(hi:Inv CR base g σ w){x y:Operand}{X Y:aM}{t:TypeId}(hx:aF x=some X)(hy:aF y=some Y)
  (ht:P.underlying t=some .string)
  (h:aK e σ (.oA .oN [X,Y])=some (d,σ')) (o:Oper) (ho:o.op=.index t x y):b9 P CR base g w B e (Act.mk tmps df).eval o d σ':=by
 have hr:=hf.aC (df:=df) hx;have hr':=hf.aC (df:=df) hy;simp only[aK,ab,aw,aS]at h;obtain⟨d0,hp,h⟩:=h;cases h;generalize aC e X=dx at hr hp;generalize aC e Y=dy at hr' hp;cases dx<;>cases dy<;>simp only[so,reduceCtorEq,an,ab]at hp;rename_i s k i;obtain⟨h0,u,hu,rfl⟩:=hp;obtain⟨b,hb,rfl⟩:=hr.ei;have hi':=hr'.bW;have hlt:i.toNat<b.size:=by rw[← j6];exact(ar.1 hu).1
 have hu2:b[i.toNat]'hlt=u:=by
  have:=(ar.1 hu).2;rw[← this];cases b;rfl
 have hin:0≤i∧i<b.size:=by omega
 refine .pure hi (c:=.int .u8 u.toNat) ?_ (a8.of (.int _ _));have hrun:=run_index_string (P:=P) w t b k i ht;rw[dif_pos hin,hu2]at hrun;simp[execOp,ho,hb,hi',hrun]
theorem Hd(hf:Fr fb V g w B e tmps)(hi:Inv CR base g σ w){x y:Operand}{X Y:aM}{t u:TypeId}(hx:aF x=some X)(hy:aF y=some Y)
  (h:aK e σ (.oA .Ag [X,Y])=some (d,σ')) (o:Oper) (ho:o.op=.binOp .add t x y u):b9 P CR base g w B e (Act.mk tmps df).eval o d σ':=by
 have hr:=hf.aC (df:=df) hx;have hr':=hf.aC (df:=df) hy;simp only[aK,ab,aw,aS]at h;obtain⟨d0,hp,h⟩:=h;cases h;generalize aC e X=dx at hr hp;generalize aC e Y=dy at hr' hp;cases dx<;>cases dy<;>simp only[so,reduceCtorEq,an,ad]at hp;obtain⟨h0,rfl⟩:=hp;obtain⟨a1,h1,rfl⟩:=hr.ei;obtain⟨a2,h2,rfl⟩:=hr'.ei;simp only[j6]at h0;refine .pure hi (c:=.string (a1++a2)) ?_ (a8.of (mr _ (by simp[ByteArray.data_append])));have hrun:=run_string_add_sum (P:=P) w a1 a2 (by omega);simp[execOp,ho,h1,h2,binOp,eqGuard,hrun]
theorem ED(hf:Fr fb V g w B e tmps)(hi:Inv CR base g σ w){x y:Operand}{X Y:aM}{t u:TypeId}{neg:Bool}(hx:aF x=some X)(hy:aF y=some Y)
  (h:aK e σ (.oA (.seq neg) [X,Y])=some (d,σ')) (o:Oper) (ho:o.op=.binOp (if neg then .neq else .eql) t x y u):b9 P CR base g w B e (Act.mk tmps df).eval o d σ':=by
 have hr:=hf.aC (df:=df) hx;have hr':=hf.aC (df:=df) hy;simp only[aK,ab,aw,aS]at h;obtain⟨d0,hp,h⟩:=h;cases h;generalize aC e X=dx at hr hp;generalize aC e Y=dy at hr' hp;cases dx<;>cases dy<;>simp only[so,reduceCtorEq,ad]at hp;subst hp;obtain⟨a1,h1,rfl⟩:=hr.ei;obtain⟨a2,h2,rfl⟩:=hr'.ei;cases neg
 ·refine .pure hi (c:=.bool (a1.data.toList == a2.data.toList)) ?_ (a8.of (.bool _));simp[execOp,ho,h1,h2,eqGuard,binOp_string_eql,binOp_string_neq,ByteArray.toList_eq]
 ·refine .pure hi (c:=.bool !(a1.data.toList == a2.data.toList)) ?_ (a8.of (.bool _));simp[execOp,ho,h1,h2,eqGuard,binOp_string_eql,binOp_string_neq,ByteArray.toList_eq]
theorem Hh(hf:Fr fb V g w B e tmps)(hi:Inv CR base g σ w){x:Operand}{X:aM}{t:TypeId}{lo hi':Option Operand}{Lo Hi:Option aM}(hx:aF x=some X)
  (ht:P.underlying t=some .string) (hlo:jU lo=some Lo) (hhi:jU hi'=some Hi)
  (h:aK e σ (.oA (.wz Lo.isSome Hi.isSome) (X::(Lo.toList++Hi.toList)))=some (d,σ')) (o:Oper) (ho:o.op=.slice t x lo hi' none):b9 P CR base g w B e (Act.mk tmps df).eval o d σ':=by
 have hr:=hf.aC (df:=df) hx;have opt:∀{z:Option Operand} {Z:Option aM},jU z=some Z→(z=none∧Z=none)∨∃q Q,z=some q∧Z=some Q∧aF q=some Q:=by
  intro z Z hz;cases z with
  |none=>simp only[jU,ad]at hz;exact .inl ⟨rfl,hz.symm⟩
  |some q =>
   simp only[jU,ab]at hz;obtain⟨Q,hQ,rfl⟩:=hz;exact .inr ⟨q,Q,rfl,rfl,hQ⟩
 simp only[aK,ab]at h;obtain⟨d0,hp,h⟩:=h;cases h;have ex:∀(b:ByteArray) (i j:Nat),j≤b.size→(b.extract i j).data.toList=(b.data.toList.drop i).take (j-i):=fun b i j hj=>by
  simp[ByteArray.data_extract]
 rcases opt hlo with⟨rfl,rfl⟩ | ⟨l,L,rfl,rfl,hl⟩<;>rcases opt hhi with⟨rfl,rfl⟩ | ⟨m,M,rfl,rfl,hm⟩
 ·simp only[Option.isSome_none,Option.toList_none,gS,aw,aS]at hp;generalize aC e X=dx at hr hp;cases dx<;>simp only[so,reduceCtorEq,ad]at hp;subst hp;obtain⟨b,hb,rfl⟩:=hr.ei;refine .pure hi (c:=.string (b.extract 0 b.size)) ?_ (a8.of (mr _ ?_))
  ·have hrun:=run_slice_string_all (P:=P) w t b ht;simp[execOp,ho,hb,run_sliceAt_string (P:=P) (h:=ht),hrun]
  ·rw[ex b 0 b.size (al _),ga,Nat.sub_zero,← j6,List.take_length]
 ·have hrm:=hf.aC (df:=df) hm;simp only[Option.isSome_none,Option.isSome_some,Option.toList_none,Option.toList_some,aL,aw,aS]at hp;generalize aC e X=dx at hr hp;generalize aC e M=dm at hrm hp;cases dx<;>cases dm<;>simp only[so,reduceCtorEq,an,ad]at hp;rename_i s k j;obtain⟨h0,rfl⟩:=hp;obtain⟨b,hb,rfl⟩:=hr.ei;have hj:=hrm.bW;rw[j6]at h0;refine .pure hi (c:=.string (b.extract 0 j.toNat)) ?_ (a8.of (mr _ ?_))
  ·have hrun:=run_slice_string_h (P:=P) w t b ht k j h0.1 h0.2;simp[execOp,ho,hb,hj,run_sliceAt_string (P:=P) (h:=ht),hrun]
  ·rw[ex b 0 j.toNat (by omega),ga,Nat.sub_zero]
 ·have hrl:=hf.aC (df:=df) hl;simp only[Option.isSome_none,Option.isSome_some,Option.toList_none,Option.toList_some,gS,aw,aS]at hp;generalize aC e X=dx at hr hp;generalize aC e L=dm at hrl hp;cases dx<;>cases dm<;>simp only[so,reduceCtorEq,an,ad]at hp;rename_i s k j;obtain⟨h0,rfl⟩:=hp;obtain⟨b,hb,rfl⟩:=hr.ei;have hj:=hrl.bW;rw[j6]at h0;refine .pure hi (c:=.string (b.extract j.toNat b.size)) ?_ (a8.of (mr _ ?_))
  ·have hrun:=run_slice_string_l (P:=P) w t b ht k j h0.1 h0.2;simp[execOp,ho,hb,hj,run_sliceAt_string (P:=P) (h:=ht),hrun]
  ·rw[ex b j.toNat b.size (al _)];exact bh (by rw[List.length_drop,j6];exact al _)
 ·have hrl:=hf.aC (df:=df) hl;have hrm:=hf.aC (df:=df) hm;simp only[Option.isSome_some,Option.toList_some,aY,aL,aw,aS]at hp;generalize aC e X=dx at hr hp;generalize aC e L=dl at hrl hp;generalize aC e M=dm at hrm hp;cases dx<;>cases dl<;>cases dm<;>simp only[so,reduceCtorEq,an,ad]at hp;rename_i s k i k' j;obtain⟨h0,rfl⟩:=hp;obtain⟨b,hb,rfl⟩:=hr.ei;have hi1:=hrl.bW;have hj:=hrm.bW;rw[j6]at h0;refine .pure hi (c:=.string (b.extract i.toNat j.toNat)) ?_ (a8.of (mr _ ?_))
  ·have hrun:=run_slice_string (P:=P) w t b k k' i j ht h0.1 h0.2.1 h0.2.2;simp[execOp,ho,hb,hi1,hj,run_sliceAt_string (P:=P) (h:=ht),hrun]
  ·exact ex b i.toNat j.toNat (by omega)
end
end Go.Abs
