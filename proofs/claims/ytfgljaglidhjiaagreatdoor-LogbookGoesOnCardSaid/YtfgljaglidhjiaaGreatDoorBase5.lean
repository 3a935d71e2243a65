import Derived.Test.YtfgljaglidhjiaaGreatDoorBase4
import Derived.Laws.Strings2
import Derived.Laws.Slices
import Derived.Laws.Concat
set_option linter.all false
namespace Go.Abs
open Go
section
variable {P:Program} {CR:gg} {base fb:Nat} {V:List Nat} {g:G} {σ σ':SK} {w:World} {B:Nat→Nat} {e:Env} {tmps:Array Value} {df:List Deferred}
 {a:ub} {ops:Array Oper} {key:Nat} {k:K} {d:D}
theorem bF.mR{s:List UInt8}{c:Value}(h:bF g (.str s) c):∃b:ByteArray,c=.string b∧b.data.toList=s:=by
 generalize hd:D.str s=d at h;cases h<;>cases hd;exact⟨_,rfl,rfl⟩
theorem Cg(b:ByteArray){s:List UInt8}(h:b.data.toList=s):bF g (.str s) (.string b):=by subst h;exact .str b
theorem xZ(b:ByteArray):b.data.toList.length=b.size:=by cases b;rfl
theorem asq(hf:Fr fb V g w B e tmps)(hi:Inv CR base g σ w){x:Operand}{X:bG}{t:TypeId}{args:Array Operand}{ts:Array TypeId}{r:List Operand}{tr:List TypeId}(hx:bD x=some X)
  (ht:P.underlying t=some .string) (ha:args.toList=x::r) (hts:ts.toList=t::tr)
  (h:bH e σ (.zf .Ey [X])=some (d,σ')) (o:Oper) (ho:o.op=.call {callee:=.builtin .len,args,argTypes:=ts }):ga P CR base g w B e (Act.mk tmps df).eval o d σ':=by
 have hr:=hf.bg (df:=df) hx;obtain rfl:args=(x::r).toArray:=by rw[← ha]
 obtain rfl:ts=(t::tr).toArray:=by rw[← hts]
 simp only[bH,ad,aL,bQ]at h;obtain⟨d0,hp,h⟩:=h;cases h;generalize bg e X=dx at hr hp;cases dx<;>simp only[EH,reduceCtorEq,ae]at hp;subst hp;obtain⟨b,hb,rfl⟩:=hr.mR;refine .pure hi (c:=.int .i64 b.size) (by simp[execOp,ho,resolve,invoke,builtin,Builtin.len_,hb,bh ht,goInt]) ?_;rw[xZ];exact cK.of (.int _ _)
theorem asn(hf:Fr fb V g w B e tmps)(hi:Inv CR base g σ w){x y:Operand}{X Y:bG}{t:TypeId}(hx:bD x=some X)(hy:bD y=some Y)
  (ht:P.underlying t=some .string)
  (h:bH e σ (.zf .IE [X,Y])=some (d,σ')) (o:Oper) (ho:o.op=.index t x y):ga P CR base g w B e (Act.mk tmps df).eval o d σ':=by
 have hr:=hf.bg (df:=df) hx;have hr':=hf.bg (df:=df) hy;simp only[bH,ad,aL,bQ]at h;obtain⟨d0,hp,h⟩:=h;cases h;generalize bg e X=dx at hr hp;generalize bg e Y=dy at hr' hp;cases dx<;>cases dy<;>simp only[EH,reduceCtorEq,aC,ad]at hp;rename_i s k i;obtain⟨h0,u,hu,rfl⟩:=hp;obtain⟨b,hb,rfl⟩:=hr.mR;have hi':=hr'.fu;have hlt:i.toNat<b.size:=by rw[← xZ];exact(aB.1 hu).1
 have hu2:b[i.toNat]'hlt=u:=by
  have:=(aB.1 hu).2;rw[← this];cases b;rfl
 have hin:0≤i∧i<b.size:=by omega
 refine .pure hi (c:=.int .u8 u.toNat) ?_ (cK.of (.int _ _));have hrun:=run_index_string (P:=P) w t b k i ht;rw[dif_pos hin,hu2]at hrun;simp[execOp,ho,hb,hi',hrun]
theorem asm(hf:Fr fb V g w B e tmps)(hi:Inv CR base g σ w){x y:Operand}{X Y:bG}{t u:TypeId}(hx:bD x=some X)(hy:bD y=some Y)
  (h:bH e σ (.zf .SH [X,Y])=some (d,σ')) (o:Oper) (ho:o.op=.binOp .add t x y u):ga P CR base g w B e (Act.mk tmps df).eval o d σ':=by
 have hr:=hf.bg (df:=df) hx;have hr':=hf.bg (df:=df) hy;simp only[bH,ad,aL,bQ]at h;obtain⟨d0,hp,h⟩:=h;cases h;generalize bg e X=dx at hr hp;generalize bg e Y=dy at hr' hp;cases dx<;>cases dy<;>simp only[EH,reduceCtorEq,aC,ae]at hp;obtain⟨h0,rfl⟩:=hp;obtain⟨a1,h1,rfl⟩:=hr.mR;obtain⟨a2,h2,rfl⟩:=hr'.mR;simp only[xZ]at h0;refine .pure hi (c:=.string (a1++a2)) ?_ (cK.of (Cg _ (by simp[ByteArray.data_append])));have hrun:=run_string_add_sum (P:=P) w a1 a2 (by omega);simp[execOp,ho,h1,h2,binOp,eqGuard,hrun]
theorem am1(hf:Fr fb V g w B e tmps)(hi:Inv CR base g σ w){x y:Operand}{X Y:bG}{t u:TypeId}{neg:Bool}(hx:bD x=some X)(hy:bD y=some Y)
  (h:bH e σ (.zf (.seq neg) [X,Y])=some (d,σ')) (o:Oper) (ho:o.op=.binOp (if neg then .neq else .eql) t x y u):ga P CR base g w B e (Act.mk tmps df).eval o d σ':=by
 have hr:=hf.bg (df:=df) hx;have hr':=hf.bg (df:=df) hy;simp only[bH,ad,aL,bQ]at h;obtain⟨d0,hp,h⟩:=h;cases h;generalize bg e X=dx at hr hp;generalize bg e Y=dy at hr' hp;cases dx<;>cases dy<;>simp only[EH,reduceCtorEq,ae]at hp;subst hp;obtain⟨a1,h1,rfl⟩:=hr.mR;obtain⟨a2,h2,rfl⟩:=hr'.mR;cases neg
 ·refine .pure hi (c:=.bool (a1.data.toList == a2.data.toList)) ?_ (cK.of (.bool _));simp[execOp,ho,h1,h2,eqGuard,binOp_string_eql,binOp_string_neq,ByteArray.toList_eq]
 ·refine .pure hi (c:=.bool !(a1.data.toList == a2.data.toList)) ?_ (cK.of (.bool _));simp[execOp,ho,h1,h2,eqGuard,binOp_string_eql,binOp_string_neq,ByteArray.toList_eq]
theorem asr(hf:Fr fb V g w B e tmps)(hi:Inv CR base g σ w){x:Operand}{X:bG}{t:TypeId}{lo hi':Option Operand}{Lo Hi:Option bG}(hx:bD x=some X)
  (ht:P.underlying t=some .string) (hlo:xI lo=some Lo) (hhi:xI hi'=some Hi)
  (h:bH e σ (.zf (.Og Lo.isSome Hi.isSome) (X::(Lo.toList++Hi.toList)))=some (d,σ')) (o:Oper) (ho:o.op=.slice t x lo hi' none):ga P CR base g w B e (Act.mk tmps df).eval o d σ':=by
 have hr:=hf.bg (df:=df) hx;have opt:∀{z:Option Operand} {Z:Option bG},xI z=some Z→(z=none∧Z=none)∨∃q Q,z=some q∧Z=some Q∧bD q=some Q:=by
  intro z Z hz;cases z with
  |none=>simp only[xI,ae]at hz;exact .inl ⟨rfl,hz.symm⟩
  |some q =>
   simp only[xI,ad]at hz;obtain⟨Q,hQ,rfl⟩:=hz;exact .inr ⟨q,Q,rfl,rfl,hQ⟩
 simp only[bH,ad]at h;obtain⟨d0,hp,h⟩:=h;cases h;have ex:∀(b:ByteArray) (i j:Nat),j≤b.size→(b.extract i j).data.toList=(b.data.toList.drop i).take (j-i):=fun b i j hj=>by
  simp[ByteArray.data_extract]
 rcases opt hlo with⟨rfl,rfl⟩ | ⟨l,L,rfl,rfl,hl⟩<;>rcases opt hhi with⟨rfl,rfl⟩ | ⟨m,M,rfl,rfl,hm⟩
 ·simp only[Option.isSome_none,Option.toList_none,eE,aL,bQ]at hp;generalize bg e X=dx at hr hp;cases dx<;>simp only[EH,reduceCtorEq,ae]at hp;subst hp;obtain⟨b,hb,rfl⟩:=hr.mR;refine .pure hi (c:=.string (b.extract 0 b.size)) ?_ (cK.of (Cg _ ?_))
  ·have hrun:=run_slice_string_all (P:=P) w t b ht;simp[execOp,ho,hb,run_sliceAt_string (P:=P) (h:=ht),hrun]
  ·rw[ex b 0 b.size (aI _),aO,Nat.sub_zero,← xZ,List.take_length]
 ·have hrm:=hf.bg (df:=df) hm;simp only[Option.isSome_none,Option.isSome_some,Option.toList_none,Option.toList_some,aX,aL,bQ]at hp;generalize bg e X=dx at hr hp;generalize bg e M=dm at hrm hp;cases dx<;>cases dm<;>simp only[EH,reduceCtorEq,aC,ae]at hp;rename_i s k j;obtain⟨h0,rfl⟩:=hp;obtain⟨b,hb,rfl⟩:=hr.mR;have hj:=hrm.fu;rw[xZ]at h0;refine .pure hi (c:=.string (b.extract 0 j.toNat)) ?_ (cK.of (Cg _ ?_))
  ·have hrun:=run_slice_string_h (P:=P) w t b ht k j h0.1 h0.2;simp[execOp,ho,hb,hj,run_sliceAt_string (P:=P) (h:=ht),hrun]
  ·rw[ex b 0 j.toNat (by omega),aO,Nat.sub_zero]
 ·have hrl:=hf.bg (df:=df) hl;simp only[Option.isSome_none,Option.isSome_some,Option.toList_none,Option.toList_some,eE,aL,bQ]at hp;generalize bg e X=dx at hr hp;generalize bg e L=dm at hrl hp;cases dx<;>cases dm<;>simp only[EH,reduceCtorEq,aC,ae]at hp;rename_i s k j;obtain⟨h0,rfl⟩:=hp;obtain⟨b,hb,rfl⟩:=hr.mR;have hj:=hrl.fu;rw[xZ]at h0;refine .pure hi (c:=.string (b.extract j.toNat b.size)) ?_ (cK.of (Cg _ ?_))
  ·have hrun:=run_slice_string_l (P:=P) w t b ht k j h0.1 h0.2;simp[execOp,ho,hb,hj,run_sliceAt_string (P:=P) (h:=ht),hrun]
  ·rw[ex b j.toNat b.size (aI _)];exact ai (by rw[List.length_drop,xZ];exact aI _)
 ·have hrl:=hf.bg (df:=df) hl;have hrm:=hf.bg (df:=df) hm;simp only[Option.isSome_some,Option.toList_some,fP,aX,aL,bQ]at hp;generalize bg e X=dx at hr hp;generalize bg e L=dl at hrl hp;generalize bg e M=dm at hrm hp;cases dx<;>cases dl<;>cases dm<;>simp only[EH,reduceCtorEq,aC,ae]at hp;rename_i s k i k' j;obtain⟨h0,rfl⟩:=hp;obtain⟨b,hb,rfl⟩:=hr.mR;have hi1:=hrl.fu;have hj:=hrm.fu;rw[xZ]at h0;refine .pure hi (c:=.string (b.extract i.toNat j.toNat)) ?_ (cK.of (Cg _ ?_))
  ·have hrun:=run_slice_string (P:=P) w t b k k' i j ht h0.1 h0.2.1 h0.2.2;simp[execOp,ho,hb,hi1,hj,run_sliceAt_string (P:=P) (h:=ht),hrun]
  ·exact ex b i.toNat j.toNat (by omega)
end
end Go.Abs
