import Derived.Test.YtfgljaglidhjiaaGreatDoorBase4
import Derived.Laws.Strings2
import Derived.Laws.Slices
import Derived.Laws.Concat
set_option linter.all false
namespace Go.Abs
open Go
section
variable {P:Program} {CR:gv} {base fb:Nat} {V:List Nat} {g:G} {σ σ':SK} {w:World} {B:Nat→Nat} {e:Env} {tmps:Array Value} {df:List Deferred}
 {a:bP} {ops:Array Oper} {key:Nat} {k:K} {d:D}
theorem bK.nL{s:List UInt8}{c:Value}(h:bK g (.str s) c):∃b:ByteArray,c=.string b∧b.data.toList=s:=by
 generalize hd:D.str s=d at h;cases h<;>cases hd;exact⟨_,rfl,rfl⟩
theorem Fo(b:ByteArray){s:List UInt8}(h:b.data.toList=s):bK g (.str s) (.string b):=by subst h;exact .str b
theorem zz(b:ByteArray):b.data.toList.length=b.size:=by cases b;rfl
theorem ayi(hf:Fr fb V g w B e tmps)(hi:Inv CR base g σ w){x:Operand}{X:bM}{t:TypeId}{args:Array Operand}{ts:Array TypeId}{r:List Operand}{tr:List TypeId}(hx:bI x=some X)
  (ht:P.underlying t=some .string) (ha:args.toList=x::r) (hts:ts.toList=t::tr)
  (h:bN e σ (.BA .Jv [X])=some (d,σ')) (o:Oper) (ho:o.op=.call {callee:=.builtin .len,args,argTypes:=ts }):fV P CR base g w B e (Act.mk tmps df).eval o d σ':=by
 have hr:=hf.bh (df:=df) hx;obtain rfl:args=(x::r).toArray:=by rw[← ha]
 obtain rfl:ts=(t::tr).toArray:=by rw[← hts]
 simp only[bN,ad,aj,aw]at h;obtain⟨d0,hp,h⟩:=h;cases h;generalize bh e X=dx at hr hp;cases dx<;>simp only[KF,reduceCtorEq,ae]at hp;subst hp;obtain⟨b,hb,rfl⟩:=hr.nL;refine .pure hi (c:=.int .i64 b.size) (by simp[execOp,ho,resolve,invoke,builtin,Builtin.len_,hb,bj ht,goInt]) ?_;rw[zz];exact cK.of (.int _ _)
theorem ayg(hf:Fr fb V g w B e tmps)(hi:Inv CR base g σ w){x y:Operand}{X Y:bM}{t:TypeId}(hx:bI x=some X)(hy:bI y=some Y)
  (ht:P.underlying t=some .string)
  (h:bN e σ (.BA .OO [X,Y])=some (d,σ')) (o:Oper) (ho:o.op=.index t x y):fV P CR base g w B e (Act.mk tmps df).eval o d σ':=by
 have hr:=hf.bh (df:=df) hx;have hr':=hf.bh (df:=df) hy;simp only[bN,ad,aj,aw]at h;obtain⟨d0,hp,h⟩:=h;cases h;generalize bh e X=dx at hr hp;generalize bh e Y=dy at hr' hp;cases dx<;>cases dy<;>simp only[KF,reduceCtorEq,aE,ad]at hp;rename_i s k i;obtain⟨h0,u,hu,rfl⟩:=hp;obtain⟨b,hb,rfl⟩:=hr.nL;have hi':=hr'.fp;have hlt:i.toNat<b.size:=by rw[← zz];exact(aF.1 hu).1
 have hu2:b[i.toNat]'hlt=u:=by
  have:=(aF.1 hu).2;rw[← this];cases b;rfl
 have hin:0≤i∧i<b.size:=by omega
 refine .pure hi (c:=.int .u8 u.toNat) ?_ (cK.of (.int _ _));have hrun:=run_index_string (P:=P) w t b k i ht;rw[dif_pos hin,hu2]at hrun;simp[execOp,ho,hb,hi',hrun]
theorem ayf(hf:Fr fb V g w B e tmps)(hi:Inv CR base g σ w){x y:Operand}{X Y:bM}{t u:TypeId}(hx:bI x=some X)(hy:bI y=some Y)
  (h:bN e σ (.BA .ain [X,Y])=some (d,σ')) (o:Oper) (ho:o.op=.binOp .add t x y u):fV P CR base g w B e (Act.mk tmps df).eval o d σ':=by
 have hr:=hf.bh (df:=df) hx;have hr':=hf.bh (df:=df) hy;simp only[bN,ad,aj,aw]at h;obtain⟨d0,hp,h⟩:=h;cases h;generalize bh e X=dx at hr hp;generalize bh e Y=dy at hr' hp;cases dx<;>cases dy<;>simp only[KF,reduceCtorEq,aE,ae]at hp;obtain⟨h0,rfl⟩:=hp;obtain⟨a1,h1,rfl⟩:=hr.nL;obtain⟨a2,h2,rfl⟩:=hr'.nL;simp only[zz]at h0;refine .pure hi (c:=.string (a1++a2)) ?_ (cK.of (Fo _ (by simp[ByteArray.data_append])));have hrun:=run_string_add_sum (P:=P) w a1 a2 (by omega);simp[execOp,ho,h1,h2,binOp,eqGuard,hrun]
theorem asP(hf:Fr fb V g w B e tmps)(hi:Inv CR base g σ w){x y:Operand}{X Y:bM}{t u:TypeId}{neg:Bool}(hx:bI x=some X)(hy:bI y=some Y)
  (h:bN e σ (.BA (.seq neg) [X,Y])=some (d,σ')) (o:Oper) (ho:o.op=.binOp (if neg then .neq else .eql) t x y u):fV P CR base g w B e (Act.mk tmps df).eval o d σ':=by
 have hr:=hf.bh (df:=df) hx;have hr':=hf.bh (df:=df) hy;simp only[bN,ad,aj,aw]at h;obtain⟨d0,hp,h⟩:=h;cases h;generalize bh e X=dx at hr hp;generalize bh e Y=dy at hr' hp;cases dx<;>cases dy<;>simp only[KF,reduceCtorEq,ae]at hp;subst hp;obtain⟨a1,h1,rfl⟩:=hr.nL;obtain⟨a2,h2,rfl⟩:=hr'.nL;cases neg
 ·refine .pure hi (c:=.bool (a1.data.toList == a2.data.toList)) ?_ (cK.of (.bool _));simp[execOp,ho,h1,h2,eqGuard,binOp_string_eql,binOp_string_neq,ByteArray.toList_eq]
 ·refine .pure hi (c:=.bool !(a1.data.toList == a2.data.toList)) ?_ (cK.of (.bool _));simp[execOp,ho,h1,h2,eqGuard,binOp_string_eql,binOp_string_neq,ByteArray.toList_eq]
theorem ayj(hf:Fr fb V g w B e tmps)(hi:Inv CR base g σ w){x:Operand}{X:bM}{t:TypeId}{lo hi':Option Operand}{Lo Hi:Option bM}(hx:bI x=some X)
  (ht:P.underlying t=some .string) (hlo:zg lo=some Lo) (hhi:zg hi'=some Hi)
  (h:bN e σ (.BA (.afO Lo.isSome Hi.isSome) (X::(Lo.toList++Hi.toList)))=some (d,σ')) (o:Oper) (ho:o.op=.slice t x lo hi' none):fV P CR base g w B e (Act.mk tmps df).eval o d σ':=by
 have hr:=hf.bh (df:=df) hx;have opt:∀{z:Option Operand} {Z:Option bM},zg z=some Z→(z=none∧Z=none)∨∃q Q,z=some q∧Z=some Q∧bI q=some Q:=by
  intro z Z hz;cases z with
  |none=>simp only[zg,ae]at hz;exact .inl ⟨rfl,hz.symm⟩
  |some q =>
   simp only[zg,ad]at hz;obtain⟨Q,hQ,rfl⟩:=hz;exact .inr ⟨q,Q,rfl,rfl,hQ⟩
 simp only[bN,ad]at h;obtain⟨d0,hp,h⟩:=h;cases h;have ex:∀(b:ByteArray) (i j:Nat),j≤b.size→(b.extract i j).data.toList=(b.data.toList.drop i).take (j-i):=fun b i j hj=>by
  simp[ByteArray.data_extract]
 rcases opt hlo with⟨rfl,rfl⟩ | ⟨l,L,rfl,rfl,hl⟩<;>rcases opt hhi with⟨rfl,rfl⟩ | ⟨m,M,rfl,rfl,hm⟩
 ·simp only[Option.isSome_none,Option.toList_none,eB,aj,aw]at hp;generalize bh e X=dx at hr hp;cases dx<;>simp only[KF,reduceCtorEq,ae]at hp;subst hp;obtain⟨b,hb,rfl⟩:=hr.nL;refine .pure hi (c:=.string (b.extract 0 b.size)) ?_ (cK.of (Fo _ ?_))
  ·have hrun:=run_slice_string_all (P:=P) w t b ht;simp[execOp,ho,hb,run_sliceAt_string (P:=P) (h:=ht),hrun]
  ·rw[ex b 0 b.size (aL _),aS,Nat.sub_zero,← zz,List.take_length]
 ·have hrm:=hf.bh (df:=df) hm;simp only[Option.isSome_none,Option.isSome_some,Option.toList_none,Option.toList_some,aY,aj,aw]at hp;generalize bh e X=dx at hr hp;generalize bh e M=dm at hrm hp;cases dx<;>cases dm<;>simp only[KF,reduceCtorEq,aE,ae]at hp;rename_i s k j;obtain⟨h0,rfl⟩:=hp;obtain⟨b,hb,rfl⟩:=hr.nL;have hj:=hrm.fp;rw[zz]at h0;refine .pure hi (c:=.string (b.extract 0 j.toNat)) ?_ (cK.of (Fo _ ?_))
  ·have hrun:=run_slice_string_h (P:=P) w t b ht k j h0.1 h0.2;simp[execOp,ho,hb,hj,run_sliceAt_string (P:=P) (h:=ht),hrun]
  ·rw[ex b 0 j.toNat (by omega),aS,Nat.sub_zero]
 ·have hrl:=hf.bh (df:=df) hl;simp only[Option.isSome_none,Option.isSome_some,Option.toList_none,Option.toList_some,eB,aj,aw]at hp;generalize bh e X=dx at hr hp;generalize bh e L=dm at hrl hp;cases dx<;>cases dm<;>simp only[KF,reduceCtorEq,aE,ae]at hp;rename_i s k j;obtain⟨h0,rfl⟩:=hp;obtain⟨b,hb,rfl⟩:=hr.nL;have hj:=hrl.fp;rw[zz]at h0;refine .pure hi (c:=.string (b.extract j.toNat b.size)) ?_ (cK.of (Fo _ ?_))
  ·have hrun:=run_slice_string_l (P:=P) w t b ht k j h0.1 h0.2;simp[execOp,ho,hb,hj,run_sliceAt_string (P:=P) (h:=ht),hrun]
  ·rw[ex b j.toNat b.size (aL _)];exact ar (by rw[List.length_drop,zz];exact aL _)
 ·have hrl:=hf.bh (df:=df) hl;have hrm:=hf.bh (df:=df) hm;simp only[Option.isSome_some,Option.toList_some,gT,aY,aj,aw]at hp;generalize bh e X=dx at hr hp;generalize bh e L=dl at hrl hp;generalize bh e M=dm at hrm hp;cases dx<;>cases dl<;>cases dm<;>simp only[KF,reduceCtorEq,aE,ae]at hp;rename_i s k i k' j;obtain⟨h0,rfl⟩:=hp;obtain⟨b,hb,rfl⟩:=hr.nL;have hi1:=hrl.fp;have hj:=hrm.fp;rw[zz]at h0;refine .pure hi (c:=.string (b.extract i.toNat j.toNat)) ?_ (cK.of (Fo _ ?_))
  ·have hrun:=run_slice_string (P:=P) w t b k k' i j ht h0.1 h0.2.1 h0.2.2;simp[execOp,ho,hb,hi1,hj,run_sliceAt_string (P:=P) (h:=ht),hrun]
  ·exact ex b i.toNat j.toNat (by omega)
end
end Go.Abs
