import Derived.Test.YtpapbbojmclkgaaGreatDoorBase4
import Derived.Laws.Strings2
import Derived.Laws.Slices
import Derived.Laws.Concat
set_option linter.all false
namespace Go.aw
open Go
section
variable {P:Program} {CR:fw} {base fb:Nat} {V:List Nat} {g:G} {J J':SK} {w:World} {B:Nat->Nat} {e:Env} {tmps:Array Value} {df:List Deferred}
 {a:sS} {ops:Array Oper} {key:Nat} {k:K} {d:D}
theorem bW.kN{s:List UInt8}{c:Value}(h:bW g (.str s) c):∃b:ByteArray,c=.string b/\b.data.toList=s:=by
 generalize hd:D.str s=d at h;cases h<;>cases hd;exact⟨_,rfl,rfl⟩
theorem FG(b:ByteArray){s:List UInt8}(h:b.data.toList=s):bW g (.str s) (.string b):=by subst h;exact .str b
theorem An(b:ByteArray):b.data.toList.length=b.size:=by cases b;rfl
theorem agH(hf:Fr fb V g w B e tmps)(hi:Inv CR base g J w){x:Operand}{X:bU}{t:TypeId}{args:Array Operand}{ts:Array TypeId}{r:List Operand}{tr:List TypeId}(hx:bT x=some X)
  (ht:P.underlying t=some .string) (ha:args.toList=x::r) (hts:ts.toList=t::tr)
  (h:bY e J (.Is .RH [X])=some (d,J')) (o:Oper) (ho:o.op=.call {callee:=.builtin .len,args,argTypes:=ts }):fx P CR base g w B e (Act.mk tmps df).eval o d J':=by
 have hr:=hf.bG (df:=df) hx;obtain rfl:args=(x::r).toArray:=by rw[<- ha]
 obtain rfl:ts=(t::tr).toArray:=by rw[<- hts]
 simp only[bY,ad,aL,cc]at h;obtain⟨d0,hp,h⟩:=h;cases h;generalize bG e X=dx at hr hp;cases dx<;>simp only[fO,reduceCtorEq,ae]at hp;subst hp;obtain⟨b,hb,rfl⟩:=hr.kN;refine .pure hi (c:=.int .i64 b.size) (by simp[execOp,ho,resolve,invoke,builtin,Builtin.len_,hb,bJ ht,goInt]) ?_;rw[An];exact de.of (.int _ _)
theorem agF(hf:Fr fb V g w B e tmps)(hi:Inv CR base g J w){x y:Operand}{X Y:bU}{t:TypeId}(hx:bT x=some X)(hy:bT y=some Y)
  (ht:P.underlying t=some .string)
  (h:bY e J (.Is .J8 [X,Y])=some (d,J')) (o:Oper) (ho:o.op=.index t x y):fx P CR base g w B e (Act.mk tmps df).eval o d J':=by
 have hr:=hf.bG (df:=df) hx;have hr':=hf.bG (df:=df) hy;simp only[bY,ad,aL,cc]at h;obtain⟨d0,hp,h⟩:=h;cases h;generalize bG e X=dx at hr hp;generalize bG e Y=dy at hr' hp;cases dx<;>cases dy<;>simp only[fO,reduceCtorEq,aI,ad]at hp;rename_i s k i;obtain⟨h0,u,hu,rfl⟩:=hp;obtain⟨b,hb,rfl⟩:=hr.kN;have hi':=hr'.fe;have hlt:i.toNat<b.size:=by rw[<- An];exact(aA.1 hu).1
 have hu2:b[i.toNat]'hlt=u:=by
  have:=(aA.1 hu).2;rw[<- this];cases b;rfl
 have hin:0<=i/\i<b.size:=by omega
 refine .pure hi (c:=.int .u8 u.toNat) ?_ (de.of (.int _ _));have hrun:=run_index_string (P:=P) w t b k i ht;rw[dif_pos hin,hu2]at hrun;simp[execOp,ho,hb,hi',hrun]
theorem agE(hf:Fr fb V g w B e tmps)(hi:Inv CR base g J w){x y:Operand}{X Y:bU}{t u:TypeId}(hx:bT x=some X)(hy:bT y=some Y)
  (h:bY e J (.Is .Z5 [X,Y])=some (d,J')) (o:Oper) (ho:o.op=.binOp .add t x y u):fx P CR base g w B e (Act.mk tmps df).eval o d J':=by
 have hr:=hf.bG (df:=df) hx;have hr':=hf.bG (df:=df) hy;simp only[bY,ad,aL,cc]at h;obtain⟨d0,hp,h⟩:=h;cases h;generalize bG e X=dx at hr hp;generalize bG e Y=dy at hr' hp;cases dx<;>cases dy<;>simp only[fO,reduceCtorEq,aI,ae]at hp;obtain⟨h0,rfl⟩:=hp;obtain⟨a1,h1,rfl⟩:=hr.kN;obtain⟨a2,h2,rfl⟩:=hr'.kN;simp only[An]at h0;refine .pure hi (c:=.string (a1++a2)) ?_ (de.of (FG _ (by simp[ByteArray.data_append])));have hrun:=run_string_add_sum (P:=P) w a1 a2 (by omega);simp[execOp,ho,h1,h2,binOp,eqGuard,hrun]
theorem ad5(hf:Fr fb V g w B e tmps)(hi:Inv CR base g J w){x y:Operand}{X Y:bU}{t u:TypeId}{neg:Bool}(hx:bT x=some X)(hy:bT y=some Y)
  (h:bY e J (.Is (.seq neg) [X,Y])=some (d,J')) (o:Oper) (ho:o.op=.binOp (if neg then .neq else .eql) t x y u):fx P CR base g w B e (Act.mk tmps df).eval o d J':=by
 have hr:=hf.bG (df:=df) hx;have hr':=hf.bG (df:=df) hy;simp only[bY,ad,aL,cc]at h;obtain⟨d0,hp,h⟩:=h;cases h;generalize bG e X=dx at hr hp;generalize bG e Y=dy at hr' hp;cases dx<;>cases dy<;>simp only[fO,reduceCtorEq,ae]at hp;subst hp;obtain⟨a1,h1,rfl⟩:=hr.kN;obtain⟨a2,h2,rfl⟩:=hr'.kN;cases neg
 .refine .pure hi (c:=.bool (a1.data.toList == a2.data.toList)) ?_ (de.of (.bool _));simp[execOp,ho,h1,h2,eqGuard,binOp_string_eql,binOp_string_neq,ByteArray.toList_eq]
 .refine .pure hi (c:=.bool !(a1.data.toList == a2.data.toList)) ?_ (de.of (.bool _));simp[execOp,ho,h1,h2,eqGuard,binOp_string_eql,binOp_string_neq,ByteArray.toList_eq]
theorem agI(hf:Fr fb V g w B e tmps)(hi:Inv CR base g J w){x:Operand}{X:bU}{t:TypeId}{lo hi':Option Operand}{Lo Hi:Option bU}(hx:bT x=some X)
  (ht:P.underlying t=some .string) (hlo:zX lo=some Lo) (hhi:zX hi'=some Hi)
  (h:bY e J (.Is (.MH Lo.isSome Hi.isSome) (X::(Lo.toList++Hi.toList)))=some (d,J')) (o:Oper) (ho:o.op=.slice t x lo hi' none):fx P CR base g w B e (Act.mk tmps df).eval o d J':=by
 have hr:=hf.bG (df:=df) hx;have opt:∀{z:Option Operand} {Z:Option bU},zX z=some Z->(z=none/\Z=none)\/∃q Q,z=some q/\Z=some Q/\bT q=some Q:=by
  intro z Z hz;cases z with
  |none=>simp only[zX,ae]at hz;exact .inl ⟨rfl,hz.symm⟩
  |some q =>
   simp only[zX,ad]at hz;obtain⟨Q,hQ,rfl⟩:=hz;exact .inr ⟨q,Q,rfl,rfl,hQ⟩
 simp only[bY,ad]at h;obtain⟨d0,hp,h⟩:=h;cases h;have ex:∀(b:ByteArray) (i j:Nat),j<=b.size->(b.extract i j).data.toList=(b.data.toList.drop i).take (j-i):=λb i j hj=>by
  simp[ByteArray.data_extract]
 rcases opt hlo with⟨rfl,rfl⟩ | ⟨l,L,rfl,rfl,hl⟩<;>rcases opt hhi with⟨rfl,rfl⟩ | ⟨m,M,rfl,rfl,hm⟩
 .simp only[Option.isSome_none,Option.toList_none,dq,aL,cc]at hp;generalize bG e X=dx at hr hp;cases dx<;>simp only[fO,reduceCtorEq,ae]at hp;subst hp;obtain⟨b,hb,rfl⟩:=hr.kN;refine .pure hi (c:=.string (b.extract 0 b.size)) ?_ (de.of (FG _ ?_))
  .have hrun:=run_slice_string_all (P:=P) w t b ht;simp[execOp,ho,hb,run_sliceAt_string (P:=P) (h:=ht),hrun]
  .rw[ex b 0 b.size (aO _),az,Nat.sub_zero,<- An,List.take_length]
 .have hrm:=hf.bG (df:=df) hm;simp only[Option.isSome_none,Option.isSome_some,Option.toList_none,Option.toList_some,aV,aL,cc]at hp;generalize bG e X=dx at hr hp;generalize bG e M=dm at hrm hp;cases dx<;>cases dm<;>simp only[fO,reduceCtorEq,aI,ae]at hp;rename_i s k j;obtain⟨h0,rfl⟩:=hp;obtain⟨b,hb,rfl⟩:=hr.kN;have hj:=hrm.fe;rw[An]at h0;refine .pure hi (c:=.string (b.extract 0 j.toNat)) ?_ (de.of (FG _ ?_))
  .have hrun:=run_slice_string_h (P:=P) w t b ht k j h0.1 h0.2;simp[execOp,ho,hb,hj,run_sliceAt_string (P:=P) (h:=ht),hrun]
  .rw[ex b 0 j.toNat (by omega),az,Nat.sub_zero]
 .have hrl:=hf.bG (df:=df) hl;simp only[Option.isSome_none,Option.isSome_some,Option.toList_none,Option.toList_some,dq,aL,cc]at hp;generalize bG e X=dx at hr hp;generalize bG e L=dm at hrl hp;cases dx<;>cases dm<;>simp only[fO,reduceCtorEq,aI,ae]at hp;rename_i s k j;obtain⟨h0,rfl⟩:=hp;obtain⟨b,hb,rfl⟩:=hr.kN;have hj:=hrl.fe;rw[An]at h0;refine .pure hi (c:=.string (b.extract j.toNat b.size)) ?_ (de.of (FG _ ?_))
  .have hrun:=run_slice_string_l (P:=P) w t b ht k j h0.1 h0.2;simp[execOp,ho,hb,hj,run_sliceAt_string (P:=P) (h:=ht),hrun]
  .rw[ex b j.toNat b.size (aO _)];exact aW (by rw[List.length_drop,An];exact aO _)
 .have hrl:=hf.bG (df:=df) hl;have hrm:=hf.bG (df:=df) hm;simp only[Option.isSome_some,Option.toList_some,cF,aV,aL,cc]at hp;generalize bG e X=dx at hr hp;generalize bG e L=dl at hrl hp;generalize bG e M=dm at hrm hp;cases dx<;>cases dl<;>cases dm<;>simp only[fO,reduceCtorEq,aI,ae]at hp;rename_i s k i k' j;obtain⟨h0,rfl⟩:=hp;obtain⟨b,hb,rfl⟩:=hr.kN;have hi1:=hrl.fe;have hj:=hrm.fe;rw[An]at h0;refine .pure hi (c:=.string (b.extract i.toNat j.toNat)) ?_ (de.of (FG _ ?_))
  .have hrun:=run_slice_string (P:=P) w t b k k' i j ht h0.1 h0.2.1 h0.2.2;simp[execOp,ho,hb,hi1,hj,run_sliceAt_string (P:=P) (h:=ht),hrun]
  .exact ex b i.toNat j.toNat (by omega)
