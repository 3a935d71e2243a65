import Derived.Test.YtklfdfnoebnciaaGreatDoorBase5
import Derived.Laws.Strings2
import Derived.Laws.Slices
import Derived.Laws.Concat
set_option linter.all false
namespace Go.az
open Go
section
variable {P:Program} {CR:eJ} {base fb:Nat} {V:List Nat} {g:G} {J J':SK} {w:World} {B:Nat->Nat} {e:Env} {tmps:Array Value} {df:List Deferred}
 {a:tW} {ops:Array Oper} {key:Nat} {k:K} {d:D}
theorem bB.kI{s:List UInt8}{c:Value}(h:bB g (.str s) c):∃b:ByteArray,c=.string b/\b.data.toList=s:=by
 generalize hd:D.str s=d at h;cases h<;>cases hd;exact⟨_,rfl,rfl⟩
theorem BB(b:ByteArray){s:List UInt8}(h:b.data.toList=s):bB g (.str s) (.string b):=by subst h;exact .str b
theorem xc(b:ByteArray):b.data.toList.length=b.size:=by cases b;rfl
theorem XZ(hf:Fr fb V g w B e tmps)(hi:Inv CR base g J w){x:Operand}{X:bD}{t:TypeId}{args:Array Operand}{ts:Array TypeId}{r:List Operand}{tr:List TypeId}(hx:bC x=some X)
  (ht:P.underlying t=some .string) (ha:args.toList=x::r) (hts:ts.toList=t::tr)
  (h:bG e J (.Im .Si [X])=some (d,J')) (o:Oper) (ho:o.op=.call {callee:=.builtin .len,args,argTypes:=ts }):ep P CR base g w B e (Act.mk tmps df).eval o d J':=by
 have hr:=hf.ba (df:=df) hx;obtain rfl:args=(x::r).toArray:=by rw[<- ha]
 obtain rfl:ts=(t::tr).toArray:=by rw[<- hts]
 simp only[bG,ab,aN,bS]at h;obtain⟨d0,hp,h⟩:=h;cases h;generalize ba e X=dx at hr hp;cases dx<;>simp only[CT,reduceCtorEq,ad]at hp;subst hp;obtain⟨b,hb,rfl⟩:=hr.kI;refine .pure hi (c:=.int .i64 b.size) (by simp[execOp,ho,resolve,invoke,builtin,Builtin.len_,hb,bf ht,goInt]) ?_;rw[xc];exact ch.of (.int _ _)
theorem XX(hf:Fr fb V g w B e tmps)(hi:Inv CR base g J w){x y:Operand}{X Y:bD}{t:TypeId}(hx:bC x=some X)(hy:bC y=some Y)
  (ht:P.underlying t=some .string)
  (h:bG e J (.Im .MA [X,Y])=some (d,J')) (o:Oper) (ho:o.op=.index t x y):ep P CR base g w B e (Act.mk tmps df).eval o d J':=by
 have hr:=hf.ba (df:=df) hx;have hr':=hf.ba (df:=df) hy;simp only[bG,ab,aN,bS]at h;obtain⟨d0,hp,h⟩:=h;cases h;generalize ba e X=dx at hr hp;generalize ba e Y=dy at hr' hp;cases dx<;>cases dy<;>simp only[CT,reduceCtorEq,aC,ab]at hp;rename_i s k i;obtain⟨h0,u,hu,rfl⟩:=hp;obtain⟨b,hb,rfl⟩:=hr.kI;have hi':=hr'.dQ;have hlt:i.toNat<b.size:=by rw[<- xc];exact(aw.1 hu).1
 have hu2:b[i.toNat]'hlt=u:=by
  have:=(aw.1 hu).2;rw[<- this];cases b;rfl
 have hin:0<=i/\i<b.size:=by omega
 refine .pure hi (c:=.int .u8 u.toNat) ?_ (ch.of (.int _ _));have hrun:=run_index_string (P:=P) w t b k i ht;rw[dif_pos hin,hu2]at hrun;simp[execOp,ho,hb,hi',hrun]
theorem XW(hf:Fr fb V g w B e tmps)(hi:Inv CR base g J w){x y:Operand}{X Y:bD}{t u:TypeId}(hx:bC x=some X)(hy:bC y=some Y)
  (h:bG e J (.Im .X2 [X,Y])=some (d,J')) (o:Oper) (ho:o.op=.binOp .add t x y u):ep P CR base g w B e (Act.mk tmps df).eval o d J':=by
 have hr:=hf.ba (df:=df) hx;have hr':=hf.ba (df:=df) hy;simp only[bG,ab,aN,bS]at h;obtain⟨d0,hp,h⟩:=h;cases h;generalize ba e X=dx at hr hp;generalize ba e Y=dy at hr' hp;cases dx<;>cases dy<;>simp only[CT,reduceCtorEq,aC,ad]at hp;obtain⟨h0,rfl⟩:=hp;obtain⟨a1,h1,rfl⟩:=hr.kI;obtain⟨a2,h2,rfl⟩:=hr'.kI;simp only[xc]at h0;refine .pure hi (c:=.string (a1++a2)) ?_ (ch.of (BB _ (by simp[ByteArray.data_append])));have hrun:=run_string_add_sum (P:=P) w a1 a2 (by omega);simp[execOp,ho,h1,h2,binOp,eqGuard,hrun]
theorem VA(hf:Fr fb V g w B e tmps)(hi:Inv CR base g J w){x y:Operand}{X Y:bD}{t u:TypeId}{neg:Bool}(hx:bC x=some X)(hy:bC y=some Y)
  (h:bG e J (.Im (.seq neg) [X,Y])=some (d,J')) (o:Oper) (ho:o.op=.binOp (if neg then .neq else .eql) t x y u):ep P CR base g w B e (Act.mk tmps df).eval o d J':=by
 have hr:=hf.ba (df:=df) hx;have hr':=hf.ba (df:=df) hy;simp only[bG,ab,aN,bS]at h;obtain⟨d0,hp,h⟩:=h;cases h;generalize ba e X=dx at hr hp;generalize ba e Y=dy at hr' hp;cases dx<;>cases dy<;>simp only[CT,reduceCtorEq,ad]at hp;subst hp;obtain⟨a1,h1,rfl⟩:=hr.kI;obtain⟨a2,h2,rfl⟩:=hr'.kI;cases neg
 .refine .pure hi (c:=.bool (a1.data.toList == a2.data.toList)) ?_ (ch.of (.bool _));simp[execOp,ho,h1,h2,eqGuard,binOp_string_eql,binOp_string_neq,ByteArray.toList_eq]
 .refine .pure hi (c:=.bool !(a1.data.toList == a2.data.toList)) ?_ (ch.of (.bool _));simp[execOp,ho,h1,h2,eqGuard,binOp_string_eql,binOp_string_neq,ByteArray.toList_eq]
theorem X0(hf:Fr fb V g w B e tmps)(hi:Inv CR base g J w){x:Operand}{X:bD}{t:TypeId}{lo hi':Option Operand}{Lo Hi:Option bD}(hx:bC x=some X)
  (ht:P.underlying t=some .string) (hlo:wP lo=some Lo) (hhi:wP hi'=some Hi)
  (h:bG e J (.Im (.ME Lo.isSome Hi.isSome) (X::(Lo.toList++Hi.toList)))=some (d,J')) (o:Oper) (ho:o.op=.slice t x lo hi' none):ep P CR base g w B e (Act.mk tmps df).eval o d J':=by
 have hr:=hf.ba (df:=df) hx;have opt:∀{z:Option Operand} {Z:Option bD},wP z=some Z->(z=none/\Z=none)\/∃q Q,z=some q/\Z=some Q/\bC q=some Q:=by
  intro z Z hz;cases z with
  |none=>simp only[wP,ad]at hz;exact .inl ⟨rfl,hz.symm⟩
  |some q =>
   simp only[wP,ab]at hz;obtain⟨Q,hQ,rfl⟩:=hz;exact .inr ⟨q,Q,rfl,rfl,hQ⟩
 simp only[bG,ab]at h;obtain⟨d0,hp,h⟩:=h;cases h;have ex:∀(b:ByteArray) (i j:Nat),j<=b.size->(b.extract i j).data.toList=(b.data.toList.drop i).take (j-i):=λb i j hj=>by
  simp[ByteArray.data_extract]
 rcases opt hlo with⟨rfl,rfl⟩ | ⟨l,L,rfl,rfl,hl⟩<;>rcases opt hhi with⟨rfl,rfl⟩ | ⟨m,M,rfl,rfl,hm⟩
 .simp only[Option.isSome_none,Option.toList_none,cC,aN,bS]at hp;generalize ba e X=dx at hr hp;cases dx<;>simp only[CT,reduceCtorEq,ad]at hp;subst hp;obtain⟨b,hb,rfl⟩:=hr.kI;refine .pure hi (c:=.string (b.extract 0 b.size)) ?_ (ch.of (BB _ ?_))
  .have hrun:=run_slice_string_all (P:=P) w t b ht;simp[execOp,ho,hb,run_sliceAt_string (P:=P) (h:=ht),hrun]
  .rw[ex b 0 b.size (aH _),aK,Nat.sub_zero,<- xc,List.take_length]
 .have hrm:=hf.ba (df:=df) hm;simp only[Option.isSome_none,Option.isSome_some,Option.toList_none,Option.toList_some,aY,aN,bS]at hp;generalize ba e X=dx at hr hp;generalize ba e M=dm at hrm hp;cases dx<;>cases dm<;>simp only[CT,reduceCtorEq,aC,ad]at hp;rename_i s k j;obtain⟨h0,rfl⟩:=hp;obtain⟨b,hb,rfl⟩:=hr.kI;have hj:=hrm.dQ;rw[xc]at h0;refine .pure hi (c:=.string (b.extract 0 j.toNat)) ?_ (ch.of (BB _ ?_))
  .have hrun:=run_slice_string_h (P:=P) w t b ht k j h0.1 h0.2;simp[execOp,ho,hb,hj,run_sliceAt_string (P:=P) (h:=ht),hrun]
  .rw[ex b 0 j.toNat (by omega),aK,Nat.sub_zero]
 .have hrl:=hf.ba (df:=df) hl;simp only[Option.isSome_none,Option.isSome_some,Option.toList_none,Option.toList_some,cC,aN,bS]at hp;generalize ba e X=dx at hr hp;generalize ba e L=dm at hrl hp;cases dx<;>cases dm<;>simp only[CT,reduceCtorEq,aC,ad]at hp;rename_i s k j;obtain⟨h0,rfl⟩:=hp;obtain⟨b,hb,rfl⟩:=hr.kI;have hj:=hrl.dQ;rw[xc]at h0;refine .pure hi (c:=.string (b.extract j.toNat b.size)) ?_ (ch.of (BB _ ?_))
  .have hrun:=run_slice_string_l (P:=P) w t b ht k j h0.1 h0.2;simp[execOp,ho,hb,hj,run_sliceAt_string (P:=P) (h:=ht),hrun]
  .rw[ex b j.toNat b.size (aH _)];exact ah (by rw[List.length_drop,xc];exact aH _)
 .have hrl:=hf.ba (df:=df) hl;have hrm:=hf.ba (df:=df) hm;simp only[Option.isSome_some,Option.toList_some,fg,aY,aN,bS]at hp;generalize ba e X=dx at hr hp;generalize ba e L=dl at hrl hp;generalize ba e M=dm at hrm hp;cases dx<;>cases dl<;>cases dm<;>simp only[CT,reduceCtorEq,aC,ad]at hp;rename_i s k i k' j;obtain⟨h0,rfl⟩:=hp;obtain⟨b,hb,rfl⟩:=hr.kI;have hi1:=hrl.dQ;have hj:=hrm.dQ;rw[xc]at h0;refine .pure hi (c:=.string (b.extract i.toNat j.toNat)) ?_ (ch.of (BB _ ?_))
  .have hrun:=run_slice_string (P:=P) w t b k k' i j ht h0.1 h0.2.1 h0.2.2;simp[execOp,ho,hb,hi1,hj,run_sliceAt_string (P:=P) (h:=ht),hrun]
  .exact ex b i.toNat j.toNat (by omega)
end
end Go.az
