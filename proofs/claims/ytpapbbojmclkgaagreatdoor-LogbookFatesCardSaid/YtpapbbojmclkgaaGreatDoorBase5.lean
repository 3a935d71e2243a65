import Derived.Test.YtpapbbojmclkgaaGreatDoorBase4
import Derived.Laws.Strings2
import Derived.Laws.Slices
import Derived.Laws.Concat
set_option linter.all false
namespace Go.Abs
open Go
section
variable {P:Program} {CR:fe} {base fb:Nat} {V:List Nat} {g:G} {J J':SK} {w:World} {B:Nat->Nat} {e:Env} {tmps:Array Value} {df:List Deferred}
 {a:sS} {ops:Array Oper} {key:Nat} {k:K} {d:D}
theorem bQ.kT{s:List UInt8}{c:Value}(h:bQ g (.str s) c):∃b:ByteArray,c=.string b/\b.data.toList=s:=by
 generalize hd:D.str s=d at h;cases h<;>cases hd;exact⟨_,rfl,rfl⟩
theorem Ek(b:ByteArray){s:List UInt8}(h:b.data.toList=s):bQ g (.str s) (.string b):=by subst h;exact .str b
theorem zd(b:ByteArray):b.data.toList.length=b.size:=by cases b;rfl
theorem aef(hf:Fr fb V g w B e tmps)(hi:Inv CR base g J w){x:Operand}{X:bP}{t:TypeId}{args:Array Operand}{ts:Array TypeId}{r:List Operand}{tr:List TypeId}(hx:bO x=some X)
  (ht:P.underlying t=some .string) (ha:args.toList=x::r) (hts:ts.toList=t::tr)
  (h:bR e J (.ID .PH [X])=some (d,J')) (o:Oper) (ho:o.op=.call {callee:=.builtin .len,args,argTypes:=ts }):ff P CR base g w B e (Act.mk tmps df).eval o d J':=by
 have hr:=hf.bz (df:=df) hx;obtain rfl:args=(x::r).toArray:=by rw[<- ha]
 obtain rfl:ts=(t::tr).toArray:=by rw[<- hts]
 simp only[bR,ad,aN,bW]at h;obtain⟨d0,hp,h⟩:=h;cases h;generalize bz e X=dx at hr hp;cases dx<;>simp only[gW,reduceCtorEq,ae]at hp;subst hp;obtain⟨b,hb,rfl⟩:=hr.kT;refine .pure hi (c:=.int .i64 b.size) (by simp[execOp,ho,resolve,invoke,builtin,Builtin.len_,hb,bC ht,goInt]) ?_;rw[zd];exact cQ.of (.int _ _)
theorem aed(hf:Fr fb V g w B e tmps)(hi:Inv CR base g J w){x y:Operand}{X Y:bP}{t:TypeId}(hx:bO x=some X)(hy:bO y=some Y)
  (ht:P.underlying t=some .string)
  (h:bR e J (.ID .KZ [X,Y])=some (d,J')) (o:Oper) (ho:o.op=.index t x y):ff P CR base g w B e (Act.mk tmps df).eval o d J':=by
 have hr:=hf.bz (df:=df) hx;have hr':=hf.bz (df:=df) hy;simp only[bR,ad,aN,bW]at h;obtain⟨d0,hp,h⟩:=h;cases h;generalize bz e X=dx at hr hp;generalize bz e Y=dy at hr' hp;cases dx<;>cases dy<;>simp only[gW,reduceCtorEq,aH,ad]at hp;rename_i s k i;obtain⟨h0,u,hu,rfl⟩:=hp;obtain⟨b,hb,rfl⟩:=hr.kT;have hi':=hr'.eK;have hlt:i.toNat<b.size:=by rw[<- zd];exact(aA.1 hu).1
 have hu2:b[i.toNat]'hlt=u:=by
  have:=(aA.1 hu).2;rw[<- this];cases b;rfl
 have hin:0<=i/\i<b.size:=by omega
 refine .pure hi (c:=.int .u8 u.toNat) ?_ (cQ.of (.int _ _));have hrun:=run_index_string (P:=P) w t b k i ht;rw[dif_pos hin,hu2]at hrun;simp[execOp,ho,hb,hi',hrun]
theorem aec(hf:Fr fb V g w B e tmps)(hi:Inv CR base g J w){x y:Operand}{X Y:bP}{t u:TypeId}(hx:bO x=some X)(hy:bO y=some Y)
  (h:bR e J (.ID .Uu [X,Y])=some (d,J')) (o:Oper) (ho:o.op=.binOp .add t x y u):ff P CR base g w B e (Act.mk tmps df).eval o d J':=by
 have hr:=hf.bz (df:=df) hx;have hr':=hf.bz (df:=df) hy;simp only[bR,ad,aN,bW]at h;obtain⟨d0,hp,h⟩:=h;cases h;generalize bz e X=dx at hr hp;generalize bz e Y=dy at hr' hp;cases dx<;>cases dy<;>simp only[gW,reduceCtorEq,aH,ae]at hp;obtain⟨h0,rfl⟩:=hp;obtain⟨a1,h1,rfl⟩:=hr.kT;obtain⟨a2,h2,rfl⟩:=hr'.kT;simp only[zd]at h0;refine .pure hi (c:=.string (a1++a2)) ?_ (cQ.of (Ek _ (by simp[ByteArray.data_append])));have hrun:=run_string_add_sum (P:=P) w a1 a2 (by omega);simp[execOp,ho,h1,h2,binOp,eqGuard,hrun]
theorem abw(hf:Fr fb V g w B e tmps)(hi:Inv CR base g J w){x y:Operand}{X Y:bP}{t u:TypeId}{neg:Bool}(hx:bO x=some X)(hy:bO y=some Y)
  (h:bR e J (.ID (.seq neg) [X,Y])=some (d,J')) (o:Oper) (ho:o.op=.binOp (if neg then .neq else .eql) t x y u):ff P CR base g w B e (Act.mk tmps df).eval o d J':=by
 have hr:=hf.bz (df:=df) hx;have hr':=hf.bz (df:=df) hy;simp only[bR,ad,aN,bW]at h;obtain⟨d0,hp,h⟩:=h;cases h;generalize bz e X=dx at hr hp;generalize bz e Y=dy at hr' hp;cases dx<;>cases dy<;>simp only[gW,reduceCtorEq,ae]at hp;subst hp;obtain⟨a1,h1,rfl⟩:=hr.kT;obtain⟨a2,h2,rfl⟩:=hr'.kT;cases neg
 .refine .pure hi (c:=.bool (a1.data.toList == a2.data.toList)) ?_ (cQ.of (.bool _));simp[execOp,ho,h1,h2,eqGuard,binOp_string_eql,binOp_string_neq,ByteArray.toList_eq]
 .refine .pure hi (c:=.bool !(a1.data.toList == a2.data.toList)) ?_ (cQ.of (.bool _));simp[execOp,ho,h1,h2,eqGuard,binOp_string_eql,binOp_string_neq,ByteArray.toList_eq]
theorem aeg(hf:Fr fb V g w B e tmps)(hi:Inv CR base g J w){x:Operand}{X:bP}{t:TypeId}{lo hi':Option Operand}{Lo Hi:Option bP}(hx:bO x=some X)
  (ht:P.underlying t=some .string) (hlo:yO lo=some Lo) (hhi:yO hi'=some Hi)
  (h:bR e J (.ID (.Nv Lo.isSome Hi.isSome) (X::(Lo.toList++Hi.toList)))=some (d,J')) (o:Oper) (ho:o.op=.slice t x lo hi' none):ff P CR base g w B e (Act.mk tmps df).eval o d J':=by
 have hr:=hf.bz (df:=df) hx;have opt:∀{z:Option Operand} {Z:Option bP},yO z=some Z->(z=none/\Z=none)\/∃q Q,z=some q/\Z=some Q/\bO q=some Q:=by
  intro z Z hz;cases z with
  |none=>simp only[yO,ae]at hz;exact .inl ⟨rfl,hz.symm⟩
  |some q =>
   simp only[yO,ad]at hz;obtain⟨Q,hQ,rfl⟩:=hz;exact .inr ⟨q,Q,rfl,rfl,hQ⟩
 simp only[bR,ad]at h;obtain⟨d0,hp,h⟩:=h;cases h;have ex:∀(b:ByteArray) (i j:Nat),j<=b.size->(b.extract i j).data.toList=(b.data.toList.drop i).take (j-i):=λb i j hj=>by
  simp[ByteArray.data_extract]
 rcases opt hlo with⟨rfl,rfl⟩ | ⟨l,L,rfl,rfl,hl⟩<;>rcases opt hhi with⟨rfl,rfl⟩ | ⟨m,M,rfl,rfl,hm⟩
 .simp only[Option.isSome_none,Option.toList_none,cX,aN,bW]at hp;generalize bz e X=dx at hr hp;cases dx<;>simp only[gW,reduceCtorEq,ae]at hp;subst hp;obtain⟨b,hb,rfl⟩:=hr.kT;refine .pure hi (c:=.string (b.extract 0 b.size)) ?_ (cQ.of (Ek _ ?_))
  .have hrun:=run_slice_string_all (P:=P) w t b ht;simp[execOp,ho,hb,run_sliceAt_string (P:=P) (h:=ht),hrun]
  .rw[ex b 0 b.size (aL _),aE,Nat.sub_zero,<- zd,List.take_length]
 .have hrm:=hf.bz (df:=df) hm;simp only[Option.isSome_none,Option.isSome_some,Option.toList_none,Option.toList_some,aY,aN,bW]at hp;generalize bz e X=dx at hr hp;generalize bz e M=dm at hrm hp;cases dx<;>cases dm<;>simp only[gW,reduceCtorEq,aH,ae]at hp;rename_i s k j;obtain⟨h0,rfl⟩:=hp;obtain⟨b,hb,rfl⟩:=hr.kT;have hj:=hrm.eK;rw[zd]at h0;refine .pure hi (c:=.string (b.extract 0 j.toNat)) ?_ (cQ.of (Ek _ ?_))
  .have hrun:=run_slice_string_h (P:=P) w t b ht k j h0.1 h0.2;simp[execOp,ho,hb,hj,run_sliceAt_string (P:=P) (h:=ht),hrun]
  .rw[ex b 0 j.toNat (by omega),aE,Nat.sub_zero]
 .have hrl:=hf.bz (df:=df) hl;simp only[Option.isSome_none,Option.isSome_some,Option.toList_none,Option.toList_some,cX,aN,bW]at hp;generalize bz e X=dx at hr hp;generalize bz e L=dm at hrl hp;cases dx<;>cases dm<;>simp only[gW,reduceCtorEq,aH,ae]at hp;rename_i s k j;obtain⟨h0,rfl⟩:=hp;obtain⟨b,hb,rfl⟩:=hr.kT;have hj:=hrl.eK;rw[zd]at h0;refine .pure hi (c:=.string (b.extract j.toNat b.size)) ?_ (cQ.of (Ek _ ?_))
  .have hrun:=run_slice_string_l (P:=P) w t b ht k j h0.1 h0.2;simp[execOp,ho,hb,hj,run_sliceAt_string (P:=P) (h:=ht),hrun]
  .rw[ex b j.toNat b.size (aL _)];exact ai (by rw[List.length_drop,zd];exact aL _)
 .have hrl:=hf.bz (df:=df) hl;have hrm:=hf.bz (df:=df) hm;simp only[Option.isSome_some,Option.toList_some,cm,aY,aN,bW]at hp;generalize bz e X=dx at hr hp;generalize bz e L=dl at hrl hp;generalize bz e M=dm at hrm hp;cases dx<;>cases dl<;>cases dm<;>simp only[gW,reduceCtorEq,aH,ae]at hp;rename_i s k i k' j;obtain⟨h0,rfl⟩:=hp;obtain⟨b,hb,rfl⟩:=hr.kT;have hi1:=hrl.eK;have hj:=hrm.eK;rw[zd]at h0;refine .pure hi (c:=.string (b.extract i.toNat j.toNat)) ?_ (cQ.of (Ek _ ?_))
  .have hrun:=run_slice_string (P:=P) w t b k k' i j ht h0.1 h0.2.1 h0.2.2;simp[execOp,ho,hb,hi1,hj,run_sliceAt_string (P:=P) (h:=ht),hrun]
  .exact ex b i.toNat j.toNat (by omega)
end
end Go.Abs
