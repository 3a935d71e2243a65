import Derived.Test.YtklfdfnoebnciaaGreatDoorBase4
import Derived.Laws.Strings2
import Derived.Laws.Slices
import Derived.Laws.Concat
set_option linter.all false
namespace Go.Abs
open Go
section
variable {P:Program} {CR:gb} {base fb:Nat} {V:List Nat} {g:G} {σ σ':SK} {w:World} {B:Nat→Nat} {e:Env} {tmps:Array Value} {df:List Deferred}
 {a:uc} {ops:Array Oper} {key:Nat} {k:K} {d:D}
theorem bC.lY{s:List UInt8}{c:Value}(h:bC g (.str s) c):∃b:ByteArray,c=.string b∧b.data.toList=s:=by
 generalize hd:D.str s=d at h;cases h<;>cases hd;exact⟨_,rfl,rfl⟩
theorem Bw(b:ByteArray){s:List UInt8}(h:b.data.toList=s):bC g (.str s) (.string b):=by subst h;exact .str b
theorem xh(b:ByteArray):b.data.toList.length=b.size:=by cases b;rfl
theorem aoD(hf:Fr fb V g w B e tmps)(hi:Inv CR base g σ w){x:Operand}{X:bE}{t:TypeId}{args:Array Operand}{ts:Array TypeId}{r:List Operand}{tr:List TypeId}(hx:bA x=some X)
  (ht:P.underlying t=some .string) (ha:args.toList=x::r) (hts:ts.toList=t::tr)
  (h:bF e σ (.BR .Eo [X])=some (d,σ')) (o:Oper) (ho:o.op=.call {callee:=.builtin .len,args,argTypes:=ts }):fu P CR base g w B e (Act.mk tmps df).eval o d σ':=by
 have hr:=hf.aZ (df:=df) hx;obtain rfl:args=(x::r).toArray:=by rw[← ha]
 obtain rfl:ts=(t::tr).toArray:=by rw[← hts]
 simp only[bF,ab,aM,bS]at h;obtain⟨d0,hp,h⟩:=h;cases h;generalize aZ e X=dx at hr hp;cases dx<;>simp only[CM,reduceCtorEq,ad]at hp;subst hp;obtain⟨b,hb,rfl⟩:=hr.lY;refine .pure hi (c:=.int .i64 b.size) (by simp[execOp,ho,resolve,invoke,builtin,Builtin.len_,hb,bd ht,goInt]) ?_;rw[xh];exact cn.of (.int _ _)
theorem aoB(hf:Fr fb V g w B e tmps)(hi:Inv CR base g σ w){x y:Operand}{X Y:bE}{t:TypeId}(hx:bA x=some X)(hy:bA y=some Y)
  (ht:P.underlying t=some .string)
  (h:bF e σ (.BR .Ho [X,Y])=some (d,σ')) (o:Oper) (ho:o.op=.index t x y):fu P CR base g w B e (Act.mk tmps df).eval o d σ':=by
 have hr:=hf.aZ (df:=df) hx;have hr':=hf.aZ (df:=df) hy;simp only[bF,ab,aM,bS]at h;obtain⟨d0,hp,h⟩:=h;cases h;generalize aZ e X=dx at hr hp;generalize aZ e Y=dy at hr' hp;cases dx<;>cases dy<;>simp only[CM,reduceCtorEq,aB,ab]at hp;rename_i s k i;obtain⟨h0,u,hu,rfl⟩:=hp;obtain⟨b,hb,rfl⟩:=hr.lY;have hi':=hr'.eN;have hlt:i.toNat<b.size:=by rw[← xh];exact(aw.1 hu).1
 have hu2:b[i.toNat]'hlt=u:=by
  have:=(aw.1 hu).2;rw[← this];cases b;rfl
 have hin:0≤i∧i<b.size:=by omega
 refine .pure hi (c:=.int .u8 u.toNat) ?_ (cn.of (.int _ _));have hrun:=run_index_string (P:=P) w t b k i ht;rw[dif_pos hin,hu2]at hrun;simp[execOp,ho,hb,hi',hrun]
theorem aoA(hf:Fr fb V g w B e tmps)(hi:Inv CR base g σ w){x y:Operand}{X Y:bE}{t u:TypeId}(hx:bA x=some X)(hy:bA y=some Y)
  (h:bF e σ (.BR .aoF [X,Y])=some (d,σ')) (o:Oper) (ho:o.op=.binOp .add t x y u):fu P CR base g w B e (Act.mk tmps df).eval o d σ':=by
 have hr:=hf.aZ (df:=df) hx;have hr':=hf.aZ (df:=df) hy;simp only[bF,ab,aM,bS]at h;obtain⟨d0,hp,h⟩:=h;cases h;generalize aZ e X=dx at hr hp;generalize aZ e Y=dy at hr' hp;cases dx<;>cases dy<;>simp only[CM,reduceCtorEq,aB,ad]at hp;obtain⟨h0,rfl⟩:=hp;obtain⟨a1,h1,rfl⟩:=hr.lY;obtain⟨a2,h2,rfl⟩:=hr'.lY;simp only[xh]at h0;refine .pure hi (c:=.string (a1++a2)) ?_ (cn.of (Bw _ (by simp[ByteArray.data_append])));have hrun:=run_string_add_sum (P:=P) w a1 a2 (by omega);simp[execOp,ho,h1,h2,binOp,eqGuard,hrun]
theorem ajL(hf:Fr fb V g w B e tmps)(hi:Inv CR base g σ w){x y:Operand}{X Y:bE}{t u:TypeId}{neg:Bool}(hx:bA x=some X)(hy:bA y=some Y)
  (h:bF e σ (.BR (.seq neg) [X,Y])=some (d,σ')) (o:Oper) (ho:o.op=.binOp (if neg then .neq else .eql) t x y u):fu P CR base g w B e (Act.mk tmps df).eval o d σ':=by
 have hr:=hf.aZ (df:=df) hx;have hr':=hf.aZ (df:=df) hy;simp only[bF,ab,aM,bS]at h;obtain⟨d0,hp,h⟩:=h;cases h;generalize aZ e X=dx at hr hp;generalize aZ e Y=dy at hr' hp;cases dx<;>cases dy<;>simp only[CM,reduceCtorEq,ad]at hp;subst hp;obtain⟨a1,h1,rfl⟩:=hr.lY;obtain⟨a2,h2,rfl⟩:=hr'.lY;cases neg
 ·refine .pure hi (c:=.bool (a1.data.toList == a2.data.toList)) ?_ (cn.of (.bool _));simp[execOp,ho,h1,h2,eqGuard,binOp_string_eql,binOp_string_neq,ByteArray.toList_eq]
 ·refine .pure hi (c:=.bool !(a1.data.toList == a2.data.toList)) ?_ (cn.of (.bool _));simp[execOp,ho,h1,h2,eqGuard,binOp_string_eql,binOp_string_neq,ByteArray.toList_eq]
theorem aoE(hf:Fr fb V g w B e tmps)(hi:Inv CR base g σ w){x:Operand}{X:bE}{t:TypeId}{lo hi':Option Operand}{Lo Hi:Option bE}(hx:bA x=some X)
  (ht:P.underlying t=some .string) (hlo:wQ lo=some Lo) (hhi:wQ hi'=some Hi)
  (h:bF e σ (.BR (.Mj Lo.isSome Hi.isSome) (X::(Lo.toList++Hi.toList)))=some (d,σ')) (o:Oper) (ho:o.op=.slice t x lo hi' none):fu P CR base g w B e (Act.mk tmps df).eval o d σ':=by
 have hr:=hf.aZ (df:=df) hx;have opt:∀{z:Option Operand} {Z:Option bE},wQ z=some Z→(z=none∧Z=none)∨∃q Q,z=some q∧Z=some Q∧bA q=some Q:=by
  intro z Z hz;cases z with
  |none=>simp only[wQ,ad]at hz;exact .inl ⟨rfl,hz.symm⟩
  |some q =>
   simp only[wQ,ab]at hz;obtain⟨Q,hQ,rfl⟩:=hz;exact .inr ⟨q,Q,rfl,rfl,hQ⟩
 simp only[bF,ab]at h;obtain⟨d0,hp,h⟩:=h;cases h;have ex:∀(b:ByteArray) (i j:Nat),j≤b.size→(b.extract i j).data.toList=(b.data.toList.drop i).take (j-i):=fun b i j hj=>by
  simp[ByteArray.data_extract]
 rcases opt hlo with⟨rfl,rfl⟩ | ⟨l,L,rfl,rfl,hl⟩<;>rcases opt hhi with⟨rfl,rfl⟩ | ⟨m,M,rfl,rfl,hm⟩
 ·simp only[Option.isSome_none,Option.toList_none,cS,aM,bS]at hp;generalize aZ e X=dx at hr hp;cases dx<;>simp only[CM,reduceCtorEq,ad]at hp;subst hp;obtain⟨b,hb,rfl⟩:=hr.lY;refine .pure hi (c:=.string (b.extract 0 b.size)) ?_ (cn.of (Bw _ ?_))
  ·have hrun:=run_slice_string_all (P:=P) w t b ht;simp[execOp,ho,hb,run_sliceAt_string (P:=P) (h:=ht),hrun]
  ·rw[ex b 0 b.size (aF _),aJ,Nat.sub_zero,← xh,List.take_length]
 ·have hrm:=hf.aZ (df:=df) hm;simp only[Option.isSome_none,Option.isSome_some,Option.toList_none,Option.toList_some,aV,aM,bS]at hp;generalize aZ e X=dx at hr hp;generalize aZ e M=dm at hrm hp;cases dx<;>cases dm<;>simp only[CM,reduceCtorEq,aB,ad]at hp;rename_i s k j;obtain⟨h0,rfl⟩:=hp;obtain⟨b,hb,rfl⟩:=hr.lY;have hj:=hrm.eN;rw[xh]at h0;refine .pure hi (c:=.string (b.extract 0 j.toNat)) ?_ (cn.of (Bw _ ?_))
  ·have hrun:=run_slice_string_h (P:=P) w t b ht k j h0.1 h0.2;simp[execOp,ho,hb,hj,run_sliceAt_string (P:=P) (h:=ht),hrun]
  ·rw[ex b 0 j.toNat (by omega),aJ,Nat.sub_zero]
 ·have hrl:=hf.aZ (df:=df) hl;simp only[Option.isSome_none,Option.isSome_some,Option.toList_none,Option.toList_some,cS,aM,bS]at hp;generalize aZ e X=dx at hr hp;generalize aZ e L=dm at hrl hp;cases dx<;>cases dm<;>simp only[CM,reduceCtorEq,aB,ad]at hp;rename_i s k j;obtain⟨h0,rfl⟩:=hp;obtain⟨b,hb,rfl⟩:=hr.lY;have hj:=hrl.eN;rw[xh]at h0;refine .pure hi (c:=.string (b.extract j.toNat b.size)) ?_ (cn.of (Bw _ ?_))
  ·have hrun:=run_slice_string_l (P:=P) w t b ht k j h0.1 h0.2;simp[execOp,ho,hb,hj,run_sliceAt_string (P:=P) (h:=ht),hrun]
  ·rw[ex b j.toNat b.size (aF _)];exact ah (by rw[List.length_drop,xh];exact aF _)
 ·have hrl:=hf.aZ (df:=df) hl;have hrm:=hf.aZ (df:=df) hm;simp only[Option.isSome_some,Option.toList_some,gq,aV,aM,bS]at hp;generalize aZ e X=dx at hr hp;generalize aZ e L=dl at hrl hp;generalize aZ e M=dm at hrm hp;cases dx<;>cases dl<;>cases dm<;>simp only[CM,reduceCtorEq,aB,ad]at hp;rename_i s k i k' j;obtain⟨h0,rfl⟩:=hp;obtain⟨b,hb,rfl⟩:=hr.lY;have hi1:=hrl.eN;have hj:=hrm.eN;rw[xh]at h0;refine .pure hi (c:=.string (b.extract i.toNat j.toNat)) ?_ (cn.of (Bw _ ?_))
  ·have hrun:=run_slice_string (P:=P) w t b k k' i j ht h0.1 h0.2.1 h0.2.2;simp[execOp,ho,hb,hi1,hj,run_sliceAt_string (P:=P) (h:=ht),hrun]
  ·exact ex b i.toNat j.toNat (by omega)
end
end Go.Abs
