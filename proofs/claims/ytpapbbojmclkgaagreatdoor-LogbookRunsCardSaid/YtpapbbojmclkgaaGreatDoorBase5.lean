import Derived.Test.YtpapbbojmclkgaaGreatDoorBase4
import Derived.Laws.Strings2
import Derived.Laws.Slices
import Derived.Laws.Concat
set_option linter.all false
namespace Go.Abs
open Go
section
variable {P:Program} {CR:fj} {base fb:Nat} {V:List Nat} {g:G} {J J':SK} {w:World} {B:Nat->Nat} {e:Env} {tmps:Array Value} {df:List Deferred}
 {a:tT} {ops:Array Oper} {key:Nat} {k:K} {d:D}
theorem bT.lJ{s:List UInt8}{c:Value}(h:bT g (.str s) c):∃b:ByteArray,c=.string b/\b.data.toList=s:=by
 generalize hd:D.str s=d at h;cases h<;>cases hd;exact⟨_,rfl,rfl⟩
theorem FA(b:ByteArray){s:List UInt8}(h:b.data.toList=s):bT g (.str s) (.string b):=by subst h;exact .str b
theorem Ad(b:ByteArray):b.data.toList.length=b.size:=by cases b;rfl
theorem agF(hf:Fr fb V g w B e tmps)(hi:Inv CR base g J w){x:Operand}{X:bS}{t:TypeId}{args:Array Operand}{ts:Array TypeId}{r:List Operand}{tr:List TypeId}(hx:bR x=some X)
  (ht:P.underlying t=some .string) (ha:args.toList=x::r) (hts:ts.toList=t::tr)
  (h:bX e J (.IY .Ry [X])=some (d,J')) (o:Oper) (ho:o.op=.call {callee:=.builtin .len,args,argTypes:=ts }):fk P CR base g w B e (Act.mk tmps df).eval o d J':=by
 have hr:=hf.bC (df:=df) hx;obtain rfl:args=(x::r).toArray:=by rw[<- ha]
 obtain rfl:ts=(t::tr).toArray:=by rw[<- hts]
 simp only[bX,ad,aM,b9]at h;obtain⟨d0,hp,h⟩:=h;cases h;generalize bC e X=dx at hr hp;cases dx<;>simp only[ia,reduceCtorEq,ae]at hp;subst hp;obtain⟨b,hb,rfl⟩:=hr.lJ;refine .pure hi (c:=.int .i64 b.size) (by simp[execOp,ho,resolve,invoke,builtin,Builtin.len_,hb,bG ht,goInt]) ?_;rw[Ad];exact cZ.of (.int _ _)
theorem agD(hf:Fr fb V g w B e tmps)(hi:Inv CR base g J w){x y:Operand}{X Y:bS}{t:TypeId}(hx:bR x=some X)(hy:bR y=some Y)
  (ht:P.underlying t=some .string)
  (h:bX e J (.IY .MD [X,Y])=some (d,J')) (o:Oper) (ho:o.op=.index t x y):fk P CR base g w B e (Act.mk tmps df).eval o d J':=by
 have hr:=hf.bC (df:=df) hx;have hr':=hf.bC (df:=df) hy;simp only[bX,ad,aM,b9]at h;obtain⟨d0,hp,h⟩:=h;cases h;generalize bC e X=dx at hr hp;generalize bC e Y=dy at hr' hp;cases dx<;>cases dy<;>simp only[ia,reduceCtorEq,aI,ad]at hp;rename_i s k i;obtain⟨h0,u,hu,rfl⟩:=hp;obtain⟨b,hb,rfl⟩:=hr.lJ;have hi':=hr'.eP;have hlt:i.toNat<b.size:=by rw[<- Ad];exact(aA.1 hu).1
 have hu2:b[i.toNat]'hlt=u:=by
  have:=(aA.1 hu).2;rw[<- this];cases b;rfl
 have hin:0<=i/\i<b.size:=by omega
 refine .pure hi (c:=.int .u8 u.toNat) ?_ (cZ.of (.int _ _));have hrun:=run_index_string (P:=P) w t b k i ht;rw[dif_pos hin,hu2]at hrun;simp[execOp,ho,hb,hi',hrun]
theorem agC(hf:Fr fb V g w B e tmps)(hi:Inv CR base g J w){x y:Operand}{X Y:bS}{t u:TypeId}(hx:bR x=some X)(hy:bR y=some Y)
  (h:bX e J (.IY .Wl [X,Y])=some (d,J')) (o:Oper) (ho:o.op=.binOp .add t x y u):fk P CR base g w B e (Act.mk tmps df).eval o d J':=by
 have hr:=hf.bC (df:=df) hx;have hr':=hf.bC (df:=df) hy;simp only[bX,ad,aM,b9]at h;obtain⟨d0,hp,h⟩:=h;cases h;generalize bC e X=dx at hr hp;generalize bC e Y=dy at hr' hp;cases dx<;>cases dy<;>simp only[ia,reduceCtorEq,aI,ae]at hp;obtain⟨h0,rfl⟩:=hp;obtain⟨a1,h1,rfl⟩:=hr.lJ;obtain⟨a2,h2,rfl⟩:=hr'.lJ;simp only[Ad]at h0;refine .pure hi (c:=.string (a1++a2)) ?_ (cZ.of (FA _ (by simp[ByteArray.data_append])));have hrun:=run_string_add_sum (P:=P) w a1 a2 (by omega);simp[execOp,ho,h1,h2,binOp,eqGuard,hrun]
theorem ad0(hf:Fr fb V g w B e tmps)(hi:Inv CR base g J w){x y:Operand}{X Y:bS}{t u:TypeId}{neg:Bool}(hx:bR x=some X)(hy:bR y=some Y)
  (h:bX e J (.IY (.seq neg) [X,Y])=some (d,J')) (o:Oper) (ho:o.op=.binOp (if neg then .neq else .eql) t x y u):fk P CR base g w B e (Act.mk tmps df).eval o d J':=by
 have hr:=hf.bC (df:=df) hx;have hr':=hf.bC (df:=df) hy;simp only[bX,ad,aM,b9]at h;obtain⟨d0,hp,h⟩:=h;cases h;generalize bC e X=dx at hr hp;generalize bC e Y=dy at hr' hp;cases dx<;>cases dy<;>simp only[ia,reduceCtorEq,ae]at hp;subst hp;obtain⟨a1,h1,rfl⟩:=hr.lJ;obtain⟨a2,h2,rfl⟩:=hr'.lJ;cases neg
 .refine .pure hi (c:=.bool (a1.data.toList == a2.data.toList)) ?_ (cZ.of (.bool _));simp[execOp,ho,h1,h2,eqGuard,binOp_string_eql,binOp_string_neq,ByteArray.toList_eq]
 .refine .pure hi (c:=.bool !(a1.data.toList == a2.data.toList)) ?_ (cZ.of (.bool _));simp[execOp,ho,h1,h2,eqGuard,binOp_string_eql,binOp_string_neq,ByteArray.toList_eq]
theorem agG(hf:Fr fb V g w B e tmps)(hi:Inv CR base g J w){x:Operand}{X:bS}{t:TypeId}{lo hi':Option Operand}{Lo Hi:Option bS}(hx:bR x=some X)
  (ht:P.underlying t=some .string) (hlo:zM lo=some Lo) (hhi:zM hi'=some Hi)
  (h:bX e J (.IY (.Pd Lo.isSome Hi.isSome) (X::(Lo.toList++Hi.toList)))=some (d,J')) (o:Oper) (ho:o.op=.slice t x lo hi' none):fk P CR base g w B e (Act.mk tmps df).eval o d J':=by
 have hr:=hf.bC (df:=df) hx;have opt:∀{z:Option Operand} {Z:Option bS},zM z=some Z->(z=none/\Z=none)\/∃q Q,z=some q/\Z=some Q/\bR q=some Q:=by
  intro z Z hz;cases z with
  |none=>simp only[zM,ae]at hz;exact .inl ⟨rfl,hz.symm⟩
  |some q =>
   simp only[zM,ad]at hz;obtain⟨Q,hQ,rfl⟩:=hz;exact .inr ⟨q,Q,rfl,rfl,hQ⟩
 simp only[bX,ad]at h;obtain⟨d0,hp,h⟩:=h;cases h;have ex:∀(b:ByteArray) (i j:Nat),j<=b.size->(b.extract i j).data.toList=(b.data.toList.drop i).take (j-i):=λb i j hj=>by
  simp[ByteArray.data_extract]
 rcases opt hlo with⟨rfl,rfl⟩ | ⟨l,L,rfl,rfl,hl⟩<;>rcases opt hhi with⟨rfl,rfl⟩ | ⟨m,M,rfl,rfl,hm⟩
 .simp only[Option.isSome_none,Option.toList_none,cM,aM,b9]at hp;generalize bC e X=dx at hr hp;cases dx<;>simp only[ia,reduceCtorEq,ae]at hp;subst hp;obtain⟨b,hb,rfl⟩:=hr.lJ;refine .pure hi (c:=.string (b.extract 0 b.size)) ?_ (cZ.of (FA _ ?_))
  .have hrun:=run_slice_string_all (P:=P) w t b ht;simp[execOp,ho,hb,run_sliceAt_string (P:=P) (h:=ht),hrun]
  .rw[ex b 0 b.size (aN _),aC,Nat.sub_zero,<- Ad,List.take_length]
 .have hrm:=hf.bC (df:=df) hm;simp only[Option.isSome_none,Option.isSome_some,Option.toList_none,Option.toList_some,aY,aM,b9]at hp;generalize bC e X=dx at hr hp;generalize bC e M=dm at hrm hp;cases dx<;>cases dm<;>simp only[ia,reduceCtorEq,aI,ae]at hp;rename_i s k j;obtain⟨h0,rfl⟩:=hp;obtain⟨b,hb,rfl⟩:=hr.lJ;have hj:=hrm.eP;rw[Ad]at h0;refine .pure hi (c:=.string (b.extract 0 j.toNat)) ?_ (cZ.of (FA _ ?_))
  .have hrun:=run_slice_string_h (P:=P) w t b ht k j h0.1 h0.2;simp[execOp,ho,hb,hj,run_sliceAt_string (P:=P) (h:=ht),hrun]
  .rw[ex b 0 j.toNat (by omega),aC,Nat.sub_zero]
 .have hrl:=hf.bC (df:=df) hl;simp only[Option.isSome_none,Option.isSome_some,Option.toList_none,Option.toList_some,cM,aM,b9]at hp;generalize bC e X=dx at hr hp;generalize bC e L=dm at hrl hp;cases dx<;>cases dm<;>simp only[ia,reduceCtorEq,aI,ae]at hp;rename_i s k j;obtain⟨h0,rfl⟩:=hp;obtain⟨b,hb,rfl⟩:=hr.lJ;have hj:=hrl.eP;rw[Ad]at h0;refine .pure hi (c:=.string (b.extract j.toNat b.size)) ?_ (cZ.of (FA _ ?_))
  .have hrun:=run_slice_string_l (P:=P) w t b ht k j h0.1 h0.2;simp[execOp,ho,hb,hj,run_sliceAt_string (P:=P) (h:=ht),hrun]
  .rw[ex b j.toNat b.size (aN _)];exact af (by rw[List.length_drop,Ad];exact aN _)
 .have hrl:=hf.bC (df:=df) hl;have hrm:=hf.bC (df:=df) hm;simp only[Option.isSome_some,Option.toList_some,cC,aY,aM,b9]at hp;generalize bC e X=dx at hr hp;generalize bC e L=dl at hrl hp;generalize bC e M=dm at hrm hp;cases dx<;>cases dl<;>cases dm<;>simp only[ia,reduceCtorEq,aI,ae]at hp;rename_i s k i k' j;obtain⟨h0,rfl⟩:=hp;obtain⟨b,hb,rfl⟩:=hr.lJ;have hi1:=hrl.eP;have hj:=hrm.eP;rw[Ad]at h0;refine .pure hi (c:=.string (b.extract i.toNat j.toNat)) ?_ (cZ.of (FA _ ?_))
  .have hrun:=run_slice_string (P:=P) w t b k k' i j ht h0.1 h0.2.1 h0.2.2;simp[execOp,ho,hb,hi1,hj,run_sliceAt_string (P:=P) (h:=ht),hrun]
  .exact ex b i.toNat j.toNat (by omega)
end
end Go.Abs
