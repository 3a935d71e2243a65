import Derived.Test.YtpapbbojmclkgaaGreatDoorBase4
import Derived.Laws.Strings2
import Derived.Laws.Slices
import Derived.Laws.Concat
set_option linter.all false
namespace Go.Abs
open Go
section
variable {P:Program} {CR:fh} {base fb:Nat} {V:List Nat} {g:G} {J J':SK} {w:World} {B:Nat->Nat} {e:Env} {tmps:Array Value} {df:List Deferred}
 {a:tx} {ops:Array Oper} {key:Nat} {k:K} {d:D}
theorem bQ.lr{s:List UInt8}{c:Value}(h:bQ g (.str s) c):∃b:ByteArray,c=.string b/\b.data.toList=s:=by
 generalize hd:D.str s=d at h;cases h<;>cases hd;exact⟨_,rfl,rfl⟩
theorem EK(b:ByteArray){s:List UInt8}(h:b.data.toList=s):bQ g (.str s) (.string b):=by subst h;exact .str b
theorem zD(b:ByteArray):b.data.toList.length=b.size:=by cases b;rfl
theorem aeX(hf:Fr fb V g w B e tmps)(hi:Inv CR base g J w){x:Operand}{X:bP}{t:TypeId}{args:Array Operand}{ts:Array TypeId}{r:List Operand}{tr:List TypeId}(hx:bO x=some X)
  (ht:P.underlying t=some .string) (ha:args.toList=x::r) (hts:ts.toList=t::tr)
  (h:bR e J (.I2 .Qj [X])=some (d,J')) (o:Oper) (ho:o.op=.call {callee:=.builtin .len,args,argTypes:=ts }):fj P CR base g w B e (Act.mk tmps df).eval o d J':=by
 have hr:=hf.bB (df:=df) hx;obtain rfl:args=(x::r).toArray:=by rw[<- ha]
 obtain rfl:ts=(t::tr).toArray:=by rw[<- hts]
 simp only[bR,ad,aM,bW]at h;obtain⟨d0,hp,h⟩:=h;cases h;generalize bB e X=dx at hr hp;cases dx<;>simp only[ia,reduceCtorEq,ae]at hp;subst hp;obtain⟨b,hb,rfl⟩:=hr.lr;refine .pure hi (c:=.int .i64 b.size) (by simp[execOp,ho,resolve,invoke,builtin,Builtin.len_,hb,bD ht,goInt]) ?_;rw[zD];exact cU.of (.int _ _)
theorem aeV(hf:Fr fb V g w B e tmps)(hi:Inv CR base g J w){x y:Operand}{X Y:bP}{t:TypeId}(hx:bO x=some X)(hy:bO y=some Y)
  (ht:P.underlying t=some .string)
  (h:bR e J (.I2 .Ln [X,Y])=some (d,J')) (o:Oper) (ho:o.op=.index t x y):fj P CR base g w B e (Act.mk tmps df).eval o d J':=by
 have hr:=hf.bB (df:=df) hx;have hr':=hf.bB (df:=df) hy;simp only[bR,ad,aM,bW]at h;obtain⟨d0,hp,h⟩:=h;cases h;generalize bB e X=dx at hr hp;generalize bB e Y=dy at hr' hp;cases dx<;>cases dy<;>simp only[ia,reduceCtorEq,aJ,ad]at hp;rename_i s k i;obtain⟨h0,u,hu,rfl⟩:=hp;obtain⟨b,hb,rfl⟩:=hr.lr;have hi':=hr'.eO;have hlt:i.toNat<b.size:=by rw[<- zD];exact(aB.1 hu).1
 have hu2:b[i.toNat]'hlt=u:=by
  have:=(aB.1 hu).2;rw[<- this];cases b;rfl
 have hin:0<=i/\i<b.size:=by omega
 refine .pure hi (c:=.int .u8 u.toNat) ?_ (cU.of (.int _ _));have hrun:=run_index_string (P:=P) w t b k i ht;rw[dif_pos hin,hu2]at hrun;simp[execOp,ho,hb,hi',hrun]
theorem aeU(hf:Fr fb V g w B e tmps)(hi:Inv CR base g J w){x y:Operand}{X Y:bP}{t u:TypeId}(hx:bO x=some X)(hy:bO y=some Y)
  (h:bR e J (.I2 .U0 [X,Y])=some (d,J')) (o:Oper) (ho:o.op=.binOp .add t x y u):fj P CR base g w B e (Act.mk tmps df).eval o d J':=by
 have hr:=hf.bB (df:=df) hx;have hr':=hf.bB (df:=df) hy;simp only[bR,ad,aM,bW]at h;obtain⟨d0,hp,h⟩:=h;cases h;generalize bB e X=dx at hr hp;generalize bB e Y=dy at hr' hp;cases dx<;>cases dy<;>simp only[ia,reduceCtorEq,aJ,ae]at hp;obtain⟨h0,rfl⟩:=hp;obtain⟨a1,h1,rfl⟩:=hr.lr;obtain⟨a2,h2,rfl⟩:=hr'.lr;simp only[zD]at h0;refine .pure hi (c:=.string (a1++a2)) ?_ (cU.of (EK _ (by simp[ByteArray.data_append])));have hrun:=run_string_add_sum (P:=P) w a1 a2 (by omega);simp[execOp,ho,h1,h2,binOp,eqGuard,hrun]
theorem aci(hf:Fr fb V g w B e tmps)(hi:Inv CR base g J w){x y:Operand}{X Y:bP}{t u:TypeId}{neg:Bool}(hx:bO x=some X)(hy:bO y=some Y)
  (h:bR e J (.I2 (.seq neg) [X,Y])=some (d,J')) (o:Oper) (ho:o.op=.binOp (if neg then .neq else .eql) t x y u):fj P CR base g w B e (Act.mk tmps df).eval o d J':=by
 have hr:=hf.bB (df:=df) hx;have hr':=hf.bB (df:=df) hy;simp only[bR,ad,aM,bW]at h;obtain⟨d0,hp,h⟩:=h;cases h;generalize bB e X=dx at hr hp;generalize bB e Y=dy at hr' hp;cases dx<;>cases dy<;>simp only[ia,reduceCtorEq,ae]at hp;subst hp;obtain⟨a1,h1,rfl⟩:=hr.lr;obtain⟨a2,h2,rfl⟩:=hr'.lr;cases neg
 .refine .pure hi (c:=.bool (a1.data.toList == a2.data.toList)) ?_ (cU.of (.bool _));simp[execOp,ho,h1,h2,eqGuard,binOp_string_eql,binOp_string_neq,ByteArray.toList_eq]
 .refine .pure hi (c:=.bool !(a1.data.toList == a2.data.toList)) ?_ (cU.of (.bool _));simp[execOp,ho,h1,h2,eqGuard,binOp_string_eql,binOp_string_neq,ByteArray.toList_eq]
theorem aeY(hf:Fr fb V g w B e tmps)(hi:Inv CR base g J w){x:Operand}{X:bP}{t:TypeId}{lo hi':Option Operand}{Lo Hi:Option bP}(hx:bO x=some X)
  (ht:P.underlying t=some .string) (hlo:zi lo=some Lo) (hhi:zi hi'=some Hi)
  (h:bR e J (.I2 (.N5 Lo.isSome Hi.isSome) (X::(Lo.toList++Hi.toList)))=some (d,J')) (o:Oper) (ho:o.op=.slice t x lo hi' none):fj P CR base g w B e (Act.mk tmps df).eval o d J':=by
 have hr:=hf.bB (df:=df) hx;have opt:∀{z:Option Operand} {Z:Option bP},zi z=some Z->(z=none/\Z=none)\/∃q Q,z=some q/\Z=some Q/\bO q=some Q:=by
  intro z Z hz;cases z with
  |none=>simp only[zi,ae]at hz;exact .inl ⟨rfl,hz.symm⟩
  |some q =>
   simp only[zi,ad]at hz;obtain⟨Q,hQ,rfl⟩:=hz;exact .inr ⟨q,Q,rfl,rfl,hQ⟩
 simp only[bR,ad]at h;obtain⟨d0,hp,h⟩:=h;cases h;have ex:∀(b:ByteArray) (i j:Nat),j<=b.size->(b.extract i j).data.toList=(b.data.toList.drop i).take (j-i):=λb i j hj=>by
  simp[ByteArray.data_extract]
 rcases opt hlo with⟨rfl,rfl⟩ | ⟨l,L,rfl,rfl,hl⟩<;>rcases opt hhi with⟨rfl,rfl⟩ | ⟨m,M,rfl,rfl,hm⟩
 .simp only[Option.isSome_none,Option.toList_none,da,aM,bW]at hp;generalize bB e X=dx at hr hp;cases dx<;>simp only[ia,reduceCtorEq,ae]at hp;subst hp;obtain⟨b,hb,rfl⟩:=hr.lr;refine .pure hi (c:=.string (b.extract 0 b.size)) ?_ (cU.of (EK _ ?_))
  .have hrun:=run_slice_string_all (P:=P) w t b ht;simp[execOp,ho,hb,run_sliceAt_string (P:=P) (h:=ht),hrun]
  .rw[ex b 0 b.size (aN _),aC,Nat.sub_zero,<- zD,List.take_length]
 .have hrm:=hf.bB (df:=df) hm;simp only[Option.isSome_none,Option.isSome_some,Option.toList_none,Option.toList_some,aU,aM,bW]at hp;generalize bB e X=dx at hr hp;generalize bB e M=dm at hrm hp;cases dx<;>cases dm<;>simp only[ia,reduceCtorEq,aJ,ae]at hp;rename_i s k j;obtain⟨h0,rfl⟩:=hp;obtain⟨b,hb,rfl⟩:=hr.lr;have hj:=hrm.eO;rw[zD]at h0;refine .pure hi (c:=.string (b.extract 0 j.toNat)) ?_ (cU.of (EK _ ?_))
  .have hrun:=run_slice_string_h (P:=P) w t b ht k j h0.1 h0.2;simp[execOp,ho,hb,hj,run_sliceAt_string (P:=P) (h:=ht),hrun]
  .rw[ex b 0 j.toNat (by omega),aC,Nat.sub_zero]
 .have hrl:=hf.bB (df:=df) hl;simp only[Option.isSome_none,Option.isSome_some,Option.toList_none,Option.toList_some,da,aM,bW]at hp;generalize bB e X=dx at hr hp;generalize bB e L=dm at hrl hp;cases dx<;>cases dm<;>simp only[ia,reduceCtorEq,aJ,ae]at hp;rename_i s k j;obtain⟨h0,rfl⟩:=hp;obtain⟨b,hb,rfl⟩:=hr.lr;have hj:=hrl.eO;rw[zD]at h0;refine .pure hi (c:=.string (b.extract j.toNat b.size)) ?_ (cU.of (EK _ ?_))
  .have hrun:=run_slice_string_l (P:=P) w t b ht k j h0.1 h0.2;simp[execOp,ho,hb,hj,run_sliceAt_string (P:=P) (h:=ht),hrun]
  .rw[ex b j.toNat b.size (aN _)];exact ah (by rw[List.length_drop,zD];exact aN _)
 .have hrl:=hf.bB (df:=df) hl;have hrm:=hf.bB (df:=df) hm;simp only[Option.isSome_some,Option.toList_some,cr,aU,aM,bW]at hp;generalize bB e X=dx at hr hp;generalize bB e L=dl at hrl hp;generalize bB e M=dm at hrm hp;cases dx<;>cases dl<;>cases dm<;>simp only[ia,reduceCtorEq,aJ,ae]at hp;rename_i s k i k' j;obtain⟨h0,rfl⟩:=hp;obtain⟨b,hb,rfl⟩:=hr.lr;have hi1:=hrl.eO;have hj:=hrm.eO;rw[zD]at h0;refine .pure hi (c:=.string (b.extract i.toNat j.toNat)) ?_ (cU.of (EK _ ?_))
  .have hrun:=run_slice_string (P:=P) w t b k k' i j ht h0.1 h0.2.1 h0.2.2;simp[execOp,ho,hb,hi1,hj,run_sliceAt_string (P:=P) (h:=ht),hrun]
  .exact ex b i.toNat j.toNat (by omega)
end
end Go.Abs
