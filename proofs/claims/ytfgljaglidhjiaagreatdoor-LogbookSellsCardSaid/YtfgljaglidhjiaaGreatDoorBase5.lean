import Derived.Test.YtfgljaglidhjiaaGreatDoorBase4
import Derived.Laws.Strings2
import Derived.Laws.Slices
import Derived.Laws.Concat
set_option linter.all false
namespace Go.Abs
open Go
section
variable {P:Program} {CR:fS} {base fb:Nat} {V:List Nat} {g:G} {σ σ':SK} {w:World} {B:Nat→Nat} {e:Env} {tmps:Array Value} {df:List Deferred}
 {a:uh} {ops:Array Oper} {key:Nat} {k:K} {d:D}
theorem bI.mj{s:List UInt8}{c:Value}(h:bI g (.str s) c):∃b:ByteArray,c=.string b∧b.data.toList=s:=by
 generalize hd:D.str s=d at h;cases h<;>cases hd;exact⟨_,rfl,rfl⟩
theorem BY(b:ByteArray){s:List UInt8}(h:b.data.toList=s):bI g (.str s) (.string b):=by subst h;exact .str b
theorem xB(b:ByteArray):b.data.toList.length=b.size:=by cases b;rfl
theorem arB(hf:Fr fb V g w B e tmps)(hi:Inv CR base g σ w){x:Operand}{X:bL}{t:TypeId}{args:Array Operand}{ts:Array TypeId}{r:List Operand}{tr:List TypeId}(hx:bD x=some X)
  (ht:P.underlying t=some .string) (ha:args.toList=x::r) (hts:ts.toList=t::tr)
  (h:bM e σ (.ri .zc [X])=some (d,σ')) (o:Oper) (ho:o.op=.call {callee:=.builtin .len,args,argTypes:=ts }):fO P CR base g w B e (Act.mk tmps df).eval o d σ':=by
 have hr:=hf.bf (df:=df) hx;obtain rfl:args=(x::r).toArray:=by rw[← ha]
 obtain rfl:ts=(t::tr).toArray:=by rw[← hts]
 simp only[bM,ad,aP,bT]at h;obtain⟨d0,hp,h⟩:=h;cases h;generalize bf e X=dx at hr hp;cases dx<;>simp only[sF,reduceCtorEq,ae]at hp;subst hp;obtain⟨b,hb,rfl⟩:=hr.mj;refine .pure hi (c:=.int .i64 b.size) (by simp[execOp,ho,resolve,invoke,builtin,Builtin.len_,hb,bg ht,goInt]) ?_;rw[xB];exact cF.of (.int _ _)
theorem arz(hf:Fr fb V g w B e tmps)(hi:Inv CR base g σ w){x y:Operand}{X Y:bL}{t:TypeId}(hx:bD x=some X)(hy:bD y=some Y)
  (ht:P.underlying t=some .string)
  (h:bM e σ (.ri .Co [X,Y])=some (d,σ')) (o:Oper) (ho:o.op=.index t x y):fO P CR base g w B e (Act.mk tmps df).eval o d σ':=by
 have hr:=hf.bf (df:=df) hx;have hr':=hf.bf (df:=df) hy;simp only[bM,ad,aP,bT]at h;obtain⟨d0,hp,h⟩:=h;cases h;generalize bf e X=dx at hr hp;generalize bf e Y=dy at hr' hp;cases dx<;>cases dy<;>simp only[sF,reduceCtorEq,aB,ad]at hp;rename_i s k i;obtain⟨h0,u,hu,rfl⟩:=hp;obtain⟨b,hb,rfl⟩:=hr.mj;have hi':=hr'.fk;have hlt:i.toNat<b.size:=by rw[← xB];exact(aC.1 hu).1
 have hu2:b[i.toNat]'hlt=u:=by
  have:=(aC.1 hu).2;rw[← this];cases b;rfl
 have hin:0≤i∧i<b.size:=by omega
 refine .pure hi (c:=.int .u8 u.toNat) ?_ (cF.of (.int _ _));have hrun:=run_index_string (P:=P) w t b k i ht;rw[dif_pos hin,hu2]at hrun;simp[execOp,ho,hb,hi',hrun]
theorem ary(hf:Fr fb V g w B e tmps)(hi:Inv CR base g σ w){x y:Operand}{X Y:bL}{t u:TypeId}(hx:bD x=some X)(hy:bD y=some Y)
  (h:bM e σ (.ri .RA [X,Y])=some (d,σ')) (o:Oper) (ho:o.op=.binOp .add t x y u):fO P CR base g w B e (Act.mk tmps df).eval o d σ':=by
 have hr:=hf.bf (df:=df) hx;have hr':=hf.bf (df:=df) hy;simp only[bM,ad,aP,bT]at h;obtain⟨d0,hp,h⟩:=h;cases h;generalize bf e X=dx at hr hp;generalize bf e Y=dy at hr' hp;cases dx<;>cases dy<;>simp only[sF,reduceCtorEq,aB,ae]at hp;obtain⟨h0,rfl⟩:=hp;obtain⟨a1,h1,rfl⟩:=hr.mj;obtain⟨a2,h2,rfl⟩:=hr'.mj;simp only[xB]at h0;refine .pure hi (c:=.string (a1++a2)) ?_ (cF.of (BY _ (by simp[ByteArray.data_append])));have hrun:=run_string_add_sum (P:=P) w a1 a2 (by omega);simp[execOp,ho,h1,h2,binOp,eqGuard,hrun]
theorem alW(hf:Fr fb V g w B e tmps)(hi:Inv CR base g σ w){x y:Operand}{X Y:bL}{t u:TypeId}{neg:Bool}(hx:bD x=some X)(hy:bD y=some Y)
  (h:bM e σ (.ri (.seq neg) [X,Y])=some (d,σ')) (o:Oper) (ho:o.op=.binOp (if neg then .neq else .eql) t x y u):fO P CR base g w B e (Act.mk tmps df).eval o d σ':=by
 have hr:=hf.bf (df:=df) hx;have hr':=hf.bf (df:=df) hy;simp only[bM,ad,aP,bT]at h;obtain⟨d0,hp,h⟩:=h;cases h;generalize bf e X=dx at hr hp;generalize bf e Y=dy at hr' hp;cases dx<;>cases dy<;>simp only[sF,reduceCtorEq,ae]at hp;subst hp;obtain⟨a1,h1,rfl⟩:=hr.mj;obtain⟨a2,h2,rfl⟩:=hr'.mj;cases neg
 ·refine .pure hi (c:=.bool (a1.data.toList == a2.data.toList)) ?_ (cF.of (.bool _));simp[execOp,ho,h1,h2,eqGuard,binOp_string_eql,binOp_string_neq,ByteArray.toList_eq]
 ·refine .pure hi (c:=.bool !(a1.data.toList == a2.data.toList)) ?_ (cF.of (.bool _));simp[execOp,ho,h1,h2,eqGuard,binOp_string_eql,binOp_string_neq,ByteArray.toList_eq]
theorem arC(hf:Fr fb V g w B e tmps)(hi:Inv CR base g σ w){x:Operand}{X:bL}{t:TypeId}{lo hi':Option Operand}{Lo Hi:Option bL}(hx:bD x=some X)
  (ht:P.underlying t=some .string) (hlo:xe lo=some Lo) (hhi:xe hi'=some Hi)
  (h:bM e σ (.ri (.H0 Lo.isSome Hi.isSome) (X::(Lo.toList++Hi.toList)))=some (d,σ')) (o:Oper) (ho:o.op=.slice t x lo hi' none):fO P CR base g w B e (Act.mk tmps df).eval o d σ':=by
 have hr:=hf.bf (df:=df) hx;have opt:∀{z:Option Operand} {Z:Option bL},xe z=some Z→(z=none∧Z=none)∨∃q Q,z=some q∧Z=some Q∧bD q=some Q:=by
  intro z Z hz;cases z with
  |none=>simp only[xe,ae]at hz;exact .inl ⟨rfl,hz.symm⟩
  |some q =>
   simp only[xe,ad]at hz;obtain⟨Q,hQ,rfl⟩:=hz;exact .inr ⟨q,Q,rfl,rfl,hQ⟩
 simp only[bM,ad]at h;obtain⟨d0,hp,h⟩:=h;cases h;have ex:∀(b:ByteArray) (i j:Nat),j≤b.size→(b.extract i j).data.toList=(b.data.toList.drop i).take (j-i):=fun b i j hj=>by
  simp[ByteArray.data_extract]
 rcases opt hlo with⟨rfl,rfl⟩ | ⟨l,L,rfl,rfl,hl⟩<;>rcases opt hhi with⟨rfl,rfl⟩ | ⟨m,M,rfl,rfl,hm⟩
 ·simp only[Option.isSome_none,Option.toList_none,dF,aP,bT]at hp;generalize bf e X=dx at hr hp;cases dx<;>simp only[sF,reduceCtorEq,ae]at hp;subst hp;obtain⟨b,hb,rfl⟩:=hr.mj;refine .pure hi (c:=.string (b.extract 0 b.size)) ?_ (cF.of (BY _ ?_))
  ·have hrun:=run_slice_string_all (P:=P) w t b ht;simp[execOp,ho,hb,run_sliceAt_string (P:=P) (h:=ht),hrun]
  ·rw[ex b 0 b.size (aJ _),aO,Nat.sub_zero,← xB,List.take_length]
 ·have hrm:=hf.bf (df:=df) hm;simp only[Option.isSome_none,Option.isSome_some,Option.toList_none,Option.toList_some,aX,aP,bT]at hp;generalize bf e X=dx at hr hp;generalize bf e M=dm at hrm hp;cases dx<;>cases dm<;>simp only[sF,reduceCtorEq,aB,ae]at hp;rename_i s k j;obtain⟨h0,rfl⟩:=hp;obtain⟨b,hb,rfl⟩:=hr.mj;have hj:=hrm.fk;rw[xB]at h0;refine .pure hi (c:=.string (b.extract 0 j.toNat)) ?_ (cF.of (BY _ ?_))
  ·have hrun:=run_slice_string_h (P:=P) w t b ht k j h0.1 h0.2;simp[execOp,ho,hb,hj,run_sliceAt_string (P:=P) (h:=ht),hrun]
  ·rw[ex b 0 j.toNat (by omega),aO,Nat.sub_zero]
 ·have hrl:=hf.bf (df:=df) hl;simp only[Option.isSome_none,Option.isSome_some,Option.toList_none,Option.toList_some,dF,aP,bT]at hp;generalize bf e X=dx at hr hp;generalize bf e L=dm at hrl hp;cases dx<;>cases dm<;>simp only[sF,reduceCtorEq,aB,ae]at hp;rename_i s k j;obtain⟨h0,rfl⟩:=hp;obtain⟨b,hb,rfl⟩:=hr.mj;have hj:=hrl.fk;rw[xB]at h0;refine .pure hi (c:=.string (b.extract j.toNat b.size)) ?_ (cF.of (BY _ ?_))
  ·have hrun:=run_slice_string_l (P:=P) w t b ht k j h0.1 h0.2;simp[execOp,ho,hb,hj,run_sliceAt_string (P:=P) (h:=ht),hrun]
  ·rw[ex b j.toNat b.size (aJ _)];exact aj (by rw[List.length_drop,xB];exact aJ _)
 ·have hrl:=hf.bf (df:=df) hl;have hrm:=hf.bf (df:=df) hm;simp only[Option.isSome_some,Option.toList_some,fF,aX,aP,bT]at hp;generalize bf e X=dx at hr hp;generalize bf e L=dl at hrl hp;generalize bf e M=dm at hrm hp;cases dx<;>cases dl<;>cases dm<;>simp only[sF,reduceCtorEq,aB,ae]at hp;rename_i s k i k' j;obtain⟨h0,rfl⟩:=hp;obtain⟨b,hb,rfl⟩:=hr.mj;have hi1:=hrl.fk;have hj:=hrm.fk;rw[xB]at h0;refine .pure hi (c:=.string (b.extract i.toNat j.toNat)) ?_ (cF.of (BY _ ?_))
  ·have hrun:=run_slice_string (P:=P) w t b k k' i j ht h0.1 h0.2.1 h0.2.2;simp[execOp,ho,hb,hi1,hj,run_sliceAt_string (P:=P) (h:=ht),hrun]
  ·exact ex b i.toNat j.toNat (by omega)
end
end Go.Abs
