import Derived.Test.YtfgljaglidhjiaaGreatDoorBase4
import Derived.Laws.Strings2
import Derived.Laws.Slices
import Derived.Laws.Concat
set_option linter.all false
namespace Go.Abs
open Go
section
variable {P:Program} {CR:fZ} {base fb:Nat} {V:List Nat} {g:G} {σ σ':SK} {w:World} {B:Nat→Nat} {e:Env} {tmps:Array Value} {df:List Deferred}
 {a:uD} {ops:Array Oper} {key:Nat} {k:K} {d:D}
theorem bI.mD{s:List UInt8}{c:Value}(h:bI g (.str s) c):∃b:ByteArray,c=.string b∧b.data.toList=s:=by
 generalize hd:D.str s=d at h;cases h<;>cases hd;exact⟨_,rfl,rfl⟩
theorem Cg(b:ByteArray){s:List UInt8}(h:b.data.toList=s):bI g (.str s) (.string b):=by subst h;exact .str b
theorem xR(b:ByteArray):b.data.toList.length=b.size:=by cases b;rfl
theorem asF(hf:Fr fb V g w B e tmps)(hi:Inv CR base g σ w){x:Operand}{X:bK}{t:TypeId}{args:Array Operand}{ts:Array TypeId}{r:List Operand}{tr:List TypeId}(hx:bE x=some X)
  (ht:P.underlying t=some .string) (ha:args.toList=x::r) (hts:ts.toList=t::tr)
  (h:bL e σ (.rj .zD [X])=some (d,σ')) (o:Oper) (ho:o.op=.call {callee:=.builtin .len,args,argTypes:=ts }):fV P CR base g w B e (Act.mk tmps df).eval o d σ':=by
 have hr:=hf.bj (df:=df) hx;obtain rfl:args=(x::r).toArray:=by rw[← ha]
 obtain rfl:ts=(t::tr).toArray:=by rw[← hts]
 simp only[bL,ad,aO,bQ]at h;obtain⟨d0,hp,h⟩:=h;cases h;generalize bj e X=dx at hr hp;cases dx<;>simp only[rU,reduceCtorEq,ae]at hp;subst hp;obtain⟨b,hb,rfl⟩:=hr.mD;refine .pure hi (c:=.int .i64 b.size) (by simp[execOp,ho,resolve,invoke,builtin,Builtin.len_,hb,bq ht,goInt]) ?_;rw[xR];exact cJ.of (.int _ _)
theorem asD(hf:Fr fb V g w B e tmps)(hi:Inv CR base g σ w){x y:Operand}{X Y:bK}{t:TypeId}(hx:bE x=some X)(hy:bE y=some Y)
  (ht:P.underlying t=some .string)
  (h:bL e σ (.rj .CB [X,Y])=some (d,σ')) (o:Oper) (ho:o.op=.index t x y):fV P CR base g w B e (Act.mk tmps df).eval o d σ':=by
 have hr:=hf.bj (df:=df) hx;have hr':=hf.bj (df:=df) hy;simp only[bL,ad,aO,bQ]at h;obtain⟨d0,hp,h⟩:=h;cases h;generalize bj e X=dx at hr hp;generalize bj e Y=dy at hr' hp;cases dx<;>cases dy<;>simp only[rU,reduceCtorEq,aC,ad]at hp;rename_i s k i;obtain⟨h0,u,hu,rfl⟩:=hp;obtain⟨b,hb,rfl⟩:=hr.mD;have hi':=hr'.fq;have hlt:i.toNat<b.size:=by rw[← xR];exact(au.1 hu).1
 have hu2:b[i.toNat]'hlt=u:=by
  have:=(au.1 hu).2;rw[← this];cases b;rfl
 have hin:0≤i∧i<b.size:=by omega
 refine .pure hi (c:=.int .u8 u.toNat) ?_ (cJ.of (.int _ _));have hrun:=run_index_string (P:=P) w t b k i ht;rw[dif_pos hin,hu2]at hrun;simp[execOp,ho,hb,hi',hrun]
theorem asC(hf:Fr fb V g w B e tmps)(hi:Inv CR base g σ w){x y:Operand}{X Y:bK}{t u:TypeId}(hx:bE x=some X)(hy:bE y=some Y)
  (h:bL e σ (.rj .RW [X,Y])=some (d,σ')) (o:Oper) (ho:o.op=.binOp .add t x y u):fV P CR base g w B e (Act.mk tmps df).eval o d σ':=by
 have hr:=hf.bj (df:=df) hx;have hr':=hf.bj (df:=df) hy;simp only[bL,ad,aO,bQ]at h;obtain⟨d0,hp,h⟩:=h;cases h;generalize bj e X=dx at hr hp;generalize bj e Y=dy at hr' hp;cases dx<;>cases dy<;>simp only[rU,reduceCtorEq,aC,ae]at hp;obtain⟨h0,rfl⟩:=hp;obtain⟨a1,h1,rfl⟩:=hr.mD;obtain⟨a2,h2,rfl⟩:=hr'.mD;simp only[xR]at h0;refine .pure hi (c:=.string (a1++a2)) ?_ (cJ.of (Cg _ (by simp[ByteArray.data_append])));have hrun:=run_string_add_sum (P:=P) w a1 a2 (by omega);simp[execOp,ho,h1,h2,binOp,eqGuard,hrun]
theorem amZ(hf:Fr fb V g w B e tmps)(hi:Inv CR base g σ w){x y:Operand}{X Y:bK}{t u:TypeId}{neg:Bool}(hx:bE x=some X)(hy:bE y=some Y)
  (h:bL e σ (.rj (.seq neg) [X,Y])=some (d,σ')) (o:Oper) (ho:o.op=.binOp (if neg then .neq else .eql) t x y u):fV P CR base g w B e (Act.mk tmps df).eval o d σ':=by
 have hr:=hf.bj (df:=df) hx;have hr':=hf.bj (df:=df) hy;simp only[bL,ad,aO,bQ]at h;obtain⟨d0,hp,h⟩:=h;cases h;generalize bj e X=dx at hr hp;generalize bj e Y=dy at hr' hp;cases dx<;>cases dy<;>simp only[rU,reduceCtorEq,ae]at hp;subst hp;obtain⟨a1,h1,rfl⟩:=hr.mD;obtain⟨a2,h2,rfl⟩:=hr'.mD;cases neg
 ·refine .pure hi (c:=.bool (a1.data.toList == a2.data.toList)) ?_ (cJ.of (.bool _));simp[execOp,ho,h1,h2,eqGuard,binOp_string_eql,binOp_string_neq,ByteArray.toList_eq]
 ·refine .pure hi (c:=.bool !(a1.data.toList == a2.data.toList)) ?_ (cJ.of (.bool _));simp[execOp,ho,h1,h2,eqGuard,binOp_string_eql,binOp_string_neq,ByteArray.toList_eq]
theorem asG(hf:Fr fb V g w B e tmps)(hi:Inv CR base g σ w){x:Operand}{X:bK}{t:TypeId}{lo hi':Option Operand}{Lo Hi:Option bK}(hx:bE x=some X)
  (ht:P.underlying t=some .string) (hlo:xz lo=some Lo) (hhi:xz hi'=some Hi)
  (h:bL e σ (.rj (.Ik Lo.isSome Hi.isSome) (X::(Lo.toList++Hi.toList)))=some (d,σ')) (o:Oper) (ho:o.op=.slice t x lo hi' none):fV P CR base g w B e (Act.mk tmps df).eval o d σ':=by
 have hr:=hf.bj (df:=df) hx;have opt:∀{z:Option Operand} {Z:Option bK},xz z=some Z→(z=none∧Z=none)∨∃q Q,z=some q∧Z=some Q∧bE q=some Q:=by
  intro z Z hz;cases z with
  |none=>simp only[xz,ae]at hz;exact .inl ⟨rfl,hz.symm⟩
  |some q =>
   simp only[xz,ad]at hz;obtain⟨Q,hQ,rfl⟩:=hz;exact .inr ⟨q,Q,rfl,rfl,hQ⟩
 simp only[bL,ad]at h;obtain⟨d0,hp,h⟩:=h;cases h;have ex:∀(b:ByteArray) (i j:Nat),j≤b.size→(b.extract i j).data.toList=(b.data.toList.drop i).take (j-i):=fun b i j hj=>by
  simp[ByteArray.data_extract]
 rcases opt hlo with⟨rfl,rfl⟩ | ⟨l,L,rfl,rfl,hl⟩<;>rcases opt hhi with⟨rfl,rfl⟩ | ⟨m,M,rfl,rfl,hm⟩
 ·simp only[Option.isSome_none,Option.toList_none,dL,aO,bQ]at hp;generalize bj e X=dx at hr hp;cases dx<;>simp only[rU,reduceCtorEq,ae]at hp;subst hp;obtain⟨b,hb,rfl⟩:=hr.mD;refine .pure hi (c:=.string (b.extract 0 b.size)) ?_ (cJ.of (Cg _ ?_))
  ·have hrun:=run_slice_string_all (P:=P) w t b ht;simp[execOp,ho,hb,run_sliceAt_string (P:=P) (h:=ht),hrun]
  ·rw[ex b 0 b.size (aK _),aP,Nat.sub_zero,← xR,List.take_length]
 ·have hrm:=hf.bj (df:=df) hm;simp only[Option.isSome_none,Option.isSome_some,Option.toList_none,Option.toList_some,aX,aO,bQ]at hp;generalize bj e X=dx at hr hp;generalize bj e M=dm at hrm hp;cases dx<;>cases dm<;>simp only[rU,reduceCtorEq,aC,ae]at hp;rename_i s k j;obtain⟨h0,rfl⟩:=hp;obtain⟨b,hb,rfl⟩:=hr.mD;have hj:=hrm.fq;rw[xR]at h0;refine .pure hi (c:=.string (b.extract 0 j.toNat)) ?_ (cJ.of (Cg _ ?_))
  ·have hrun:=run_slice_string_h (P:=P) w t b ht k j h0.1 h0.2;simp[execOp,ho,hb,hj,run_sliceAt_string (P:=P) (h:=ht),hrun]
  ·rw[ex b 0 j.toNat (by omega),aP,Nat.sub_zero]
 ·have hrl:=hf.bj (df:=df) hl;simp only[Option.isSome_none,Option.isSome_some,Option.toList_none,Option.toList_some,dL,aO,bQ]at hp;generalize bj e X=dx at hr hp;generalize bj e L=dm at hrl hp;cases dx<;>cases dm<;>simp only[rU,reduceCtorEq,aC,ae]at hp;rename_i s k j;obtain⟨h0,rfl⟩:=hp;obtain⟨b,hb,rfl⟩:=hr.mD;have hj:=hrl.fq;rw[xR]at h0;refine .pure hi (c:=.string (b.extract j.toNat b.size)) ?_ (cJ.of (Cg _ ?_))
  ·have hrun:=run_slice_string_l (P:=P) w t b ht k j h0.1 h0.2;simp[execOp,ho,hb,hj,run_sliceAt_string (P:=P) (h:=ht),hrun]
  ·rw[ex b j.toNat b.size (aK _)];exact aj (by rw[List.length_drop,xR];exact aK _)
 ·have hrl:=hf.bj (df:=df) hl;have hrm:=hf.bj (df:=df) hm;simp only[Option.isSome_some,Option.toList_some,fK,aX,aO,bQ]at hp;generalize bj e X=dx at hr hp;generalize bj e L=dl at hrl hp;generalize bj e M=dm at hrm hp;cases dx<;>cases dl<;>cases dm<;>simp only[rU,reduceCtorEq,aC,ae]at hp;rename_i s k i k' j;obtain⟨h0,rfl⟩:=hp;obtain⟨b,hb,rfl⟩:=hr.mD;have hi1:=hrl.fq;have hj:=hrm.fq;rw[xR]at h0;refine .pure hi (c:=.string (b.extract i.toNat j.toNat)) ?_ (cJ.of (Cg _ ?_))
  ·have hrun:=run_slice_string (P:=P) w t b k k' i j ht h0.1 h0.2.1 h0.2.2;simp[execOp,ho,hb,hi1,hj,run_sliceAt_string (P:=P) (h:=ht),hrun]
  ·exact ex b i.toNat j.toNat (by omega)
end
end Go.Abs
