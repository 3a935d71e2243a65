import Derived.Test.YtanhdobabijmoaaGreatDoorBase4
import Derived.Laws.Strings2
import Derived.Laws.Slices
import Derived.Laws.Concat
set_option linter.all false
namespace Go.aA
open Go
section
variable {P:Program} {CR:eP} {base fb:Nat} {V:List Nat} {g:G} {J J':SK} {w:World} {B:Nat->Nat} {e:Env} {tmps:Array Value} {df:List Deferred}
 {a:ux} {ops:Array Oper} {key:Nat} {k:K} {d:D}
theorem bH.lV{s:List UInt8}{c:Value}(h:bH g (.str s) c):∃b:ByteArray,c=.string b/\b.data.toList=s:=by
 generalize hd:D.str s=d at h;cases h<;>cases hd;exact⟨_,rfl,rfl⟩
theorem Dg(b:ByteArray){s:List UInt8}(h:b.data.toList=s):bH g (.str s) (.string b):=by subst h;exact .str b
theorem y7(b:ByteArray):b.data.toList.length=b.size:=by cases b;rfl
theorem abJ(hf:Fr fb V g w B e tmps)(hi:Inv CR base g J w){x:Operand}{X:bI}{t:TypeId}{args:Array Operand}{ts:Array TypeId}{r:List Operand}{tr:List TypeId}(hx:bG x=some X)
  (ht:P.underlying t=some .string) (ha:args.toList=x::r) (hts:ts.toList=t::tr)
  (h:bO e J (.GO .Vw [X])=some (d,J')) (o:Oper) (ho:o.op=.call {callee:=.builtin .len,args,argTypes:=ts }):fh P CR base g w B e (Act.mk tmps df).eval o d J':=by
 have hr:=hf.bu (df:=df) hx;obtain rfl:args=(x::r).toArray:=by rw[<- ha]
 obtain rfl:ts=(t::tr).toArray:=by rw[<- hts]
 simp only[bO,ab,aR,bV]at h;obtain⟨d0,hp,h⟩:=h;cases h;generalize bu e X=dx at hr hp;cases dx<;>simp only[lX,reduceCtorEq,ad]at hp;subst hp;obtain⟨b,hb,rfl⟩:=hr.lV;refine .pure hi (c:=.int .i64 b.size) (by simp[execOp,ho,resolve,invoke,builtin,Builtin.len_,hb,bx ht,goInt]) ?_;rw[y7];exact cz.of (.int _ _)
theorem abH(hf:Fr fb V g w B e tmps)(hi:Inv CR base g J w){x y:Operand}{X Y:bI}{t:TypeId}(hx:bG x=some X)(hy:bG y=some Y)
  (ht:P.underlying t=some .string)
  (h:bO e J (.GO .Ps [X,Y])=some (d,J')) (o:Oper) (ho:o.op=.index t x y):fh P CR base g w B e (Act.mk tmps df).eval o d J':=by
 have hr:=hf.bu (df:=df) hx;have hr':=hf.bu (df:=df) hy;simp only[bO,ab,aR,bV]at h;obtain⟨d0,hp,h⟩:=h;cases h;generalize bu e X=dx at hr hp;generalize bu e Y=dy at hr' hp;cases dx<;>cases dy<;>simp only[lX,reduceCtorEq,aB,ab]at hp;rename_i s k i;obtain⟨h0,u,hu,rfl⟩:=hp;obtain⟨b,hb,rfl⟩:=hr.lV;have hi':=hr'.eD;have hlt:i.toNat<b.size:=by rw[<- y7];exact(ar.1 hu).1
 have hu2:b[i.toNat]'hlt=u:=by
  have:=(ar.1 hu).2;rw[<- this];cases b;rfl
 have hin:0<=i/\i<b.size:=by omega
 refine .pure hi (c:=.int .u8 u.toNat) ?_ (cz.of (.int _ _));have hrun:=run_index_string (P:=P) w t b k i ht;rw[dif_pos hin,hu2]at hrun;simp[execOp,ho,hb,hi',hrun]
theorem abG(hf:Fr fb V g w B e tmps)(hi:Inv CR base g J w){x y:Operand}{X Y:bI}{t u:TypeId}(hx:bG x=some X)(hy:bG y=some Y)
  (h:bO e J (.GO .Vs [X,Y])=some (d,J')) (o:Oper) (ho:o.op=.binOp .add t x y u):fh P CR base g w B e (Act.mk tmps df).eval o d J':=by
 have hr:=hf.bu (df:=df) hx;have hr':=hf.bu (df:=df) hy;simp only[bO,ab,aR,bV]at h;obtain⟨d0,hp,h⟩:=h;cases h;generalize bu e X=dx at hr hp;generalize bu e Y=dy at hr' hp;cases dx<;>cases dy<;>simp only[lX,reduceCtorEq,aB,ad]at hp;obtain⟨h0,rfl⟩:=hp;obtain⟨a1,h1,rfl⟩:=hr.lV;obtain⟨a2,h2,rfl⟩:=hr'.lV;simp only[y7]at h0;refine .pure hi (c:=.string (a1++a2)) ?_ (cz.of (Dg _ (by simp[ByteArray.data_append])));have hrun:=run_string_add_sum (P:=P) w a1 a2 (by omega);simp[execOp,ho,h1,h2,binOp,eqGuard,hrun]
theorem Zv(hf:Fr fb V g w B e tmps)(hi:Inv CR base g J w){x y:Operand}{X Y:bI}{t u:TypeId}{neg:Bool}(hx:bG x=some X)(hy:bG y=some Y)
  (h:bO e J (.GO (.seq neg) [X,Y])=some (d,J')) (o:Oper) (ho:o.op=.binOp (if neg then .neq else .eql) t x y u):fh P CR base g w B e (Act.mk tmps df).eval o d J':=by
 have hr:=hf.bu (df:=df) hx;have hr':=hf.bu (df:=df) hy;simp only[bO,ab,aR,bV]at h;obtain⟨d0,hp,h⟩:=h;cases h;generalize bu e X=dx at hr hp;generalize bu e Y=dy at hr' hp;cases dx<;>cases dy<;>simp only[lX,reduceCtorEq,ad]at hp;subst hp;obtain⟨a1,h1,rfl⟩:=hr.lV;obtain⟨a2,h2,rfl⟩:=hr'.lV;cases neg
 .refine .pure hi (c:=.bool (a1.data.toList == a2.data.toList)) ?_ (cz.of (.bool _));simp[execOp,ho,h1,h2,eqGuard,binOp_string_eql,binOp_string_neq,ByteArray.toList_eq]
 .refine .pure hi (c:=.bool !(a1.data.toList == a2.data.toList)) ?_ (cz.of (.bool _));simp[execOp,ho,h1,h2,eqGuard,binOp_string_eql,binOp_string_neq,ByteArray.toList_eq]
theorem abK(hf:Fr fb V g w B e tmps)(hi:Inv CR base g J w){x:Operand}{X:bI}{t:TypeId}{lo hi':Option Operand}{Lo Hi:Option bI}(hx:bG x=some X)
  (ht:P.underlying t=some .string) (hlo:yI lo=some Lo) (hhi:yI hi'=some Hi)
  (h:bO e J (.GO (.Mc Lo.isSome Hi.isSome) (X::(Lo.toList++Hi.toList)))=some (d,J')) (o:Oper) (ho:o.op=.slice t x lo hi' none):fh P CR base g w B e (Act.mk tmps df).eval o d J':=by
 have hr:=hf.bu (df:=df) hx;have opt:∀{z:Option Operand} {Z:Option bI},yI z=some Z->(z=none/\Z=none)\/∃q Q,z=some q/\Z=some Q/\bG q=some Q:=by
  intro z Z hz;cases z with
  |none=>simp only[yI,ad]at hz;exact .inl ⟨rfl,hz.symm⟩
  |some q =>
   simp only[yI,ab]at hz;obtain⟨Q,hQ,rfl⟩:=hz;exact .inr ⟨q,Q,rfl,rfl,hQ⟩
 simp only[bO,ab]at h;obtain⟨d0,hp,h⟩:=h;cases h;have ex:∀(b:ByteArray) (i j:Nat),j<=b.size->(b.extract i j).data.toList=(b.data.toList.drop i).take (j-i):=λb i j hj=>by
  simp[ByteArray.data_extract]
 rcases opt hlo with⟨rfl,rfl⟩ | ⟨l,L,rfl,rfl,hl⟩<;>rcases opt hhi with⟨rfl,rfl⟩ | ⟨m,M,rfl,rfl,hm⟩
 .simp only[Option.isSome_none,Option.toList_none,ct,aR,bV]at hp;generalize bu e X=dx at hr hp;cases dx<;>simp only[lX,reduceCtorEq,ad]at hp;subst hp;obtain⟨b,hb,rfl⟩:=hr.lV;refine .pure hi (c:=.string (b.extract 0 b.size)) ?_ (cz.of (Dg _ ?_))
  .have hrun:=run_slice_string_all (P:=P) w t b ht;simp[execOp,ho,hb,run_sliceAt_string (P:=P) (h:=ht),hrun]
  .rw[ex b 0 b.size (aL _),aP,Nat.sub_zero,<- y7,List.take_length]
 .have hrm:=hf.bu (df:=df) hm;simp only[Option.isSome_none,Option.isSome_some,Option.toList_none,Option.toList_some,aQ,aR,bV]at hp;generalize bu e X=dx at hr hp;generalize bu e M=dm at hrm hp;cases dx<;>cases dm<;>simp only[lX,reduceCtorEq,aB,ad]at hp;rename_i s k j;obtain⟨h0,rfl⟩:=hp;obtain⟨b,hb,rfl⟩:=hr.lV;have hj:=hrm.eD;rw[y7]at h0;refine .pure hi (c:=.string (b.extract 0 j.toNat)) ?_ (cz.of (Dg _ ?_))
  .have hrun:=run_slice_string_h (P:=P) w t b ht k j h0.1 h0.2;simp[execOp,ho,hb,hj,run_sliceAt_string (P:=P) (h:=ht),hrun]
  .rw[ex b 0 j.toNat (by omega),aP,Nat.sub_zero]
 .have hrl:=hf.bu (df:=df) hl;simp only[Option.isSome_none,Option.isSome_some,Option.toList_none,Option.toList_some,ct,aR,bV]at hp;generalize bu e X=dx at hr hp;generalize bu e L=dm at hrl hp;cases dx<;>cases dm<;>simp only[lX,reduceCtorEq,aB,ad]at hp;rename_i s k j;obtain⟨h0,rfl⟩:=hp;obtain⟨b,hb,rfl⟩:=hr.lV;have hj:=hrl.eD;rw[y7]at h0;refine .pure hi (c:=.string (b.extract j.toNat b.size)) ?_ (cz.of (Dg _ ?_))
  .have hrun:=run_slice_string_l (P:=P) w t b ht k j h0.1 h0.2;simp[execOp,ho,hb,hj,run_sliceAt_string (P:=P) (h:=ht),hrun]
  .rw[ex b j.toNat b.size (aL _)];exact af (by rw[List.length_drop,y7];exact aL _)
 .have hrl:=hf.bu (df:=df) hl;have hrm:=hf.bu (df:=df) hm;simp only[Option.isSome_some,Option.toList_some,cM,aQ,aR,bV]at hp;generalize bu e X=dx at hr hp;generalize bu e L=dl at hrl hp;generalize bu e M=dm at hrm hp;cases dx<;>cases dl<;>cases dm<;>simp only[lX,reduceCtorEq,aB,ad]at hp;rename_i s k i k' j;obtain⟨h0,rfl⟩:=hp;obtain⟨b,hb,rfl⟩:=hr.lV;have hi1:=hrl.eD;have hj:=hrm.eD;rw[y7]at h0;refine .pure hi (c:=.string (b.extract i.toNat j.toNat)) ?_ (cz.of (Dg _ ?_))
  .have hrun:=run_slice_string (P:=P) w t b k k' i j ht h0.1 h0.2.1 h0.2.2;simp[execOp,ho,hb,hi1,hj,run_sliceAt_string (P:=P) (h:=ht),hrun]
  .exact ex b i.toNat j.toNat (by omega)
end
end Go.aA
