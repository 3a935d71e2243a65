import Derived.Test.YtcgippbplkagkaaGreatBase4
import Derived.Laws.Strings2
import Derived.Laws.Slices
import Derived.Laws.Concat
set_option linter.all false
namespace Go.Abs
open Go
section
variable {P:Program} {CR:dF} {base fb:Nat} {V:List Nat} {g:G} {σ σ':SK} {w:World} {B:Nat→Nat} {e:Env} {tmps:Array Value} {df:List Deferred}
 {a:nv} {ops:Array Oper} {key:Nat} {k:K} {d:D}
theorem a8.gQ{s:List UInt8}{c:Value}(h:a8 g (.str s) c):∃b:ByteArray,c=.string b∧b.data.toList=s:=by
 generalize hd:D.str s=d at h;cases h<;>cases hd;exact⟨_,rfl,rfl⟩
theorem tk(b:ByteArray){s:List UInt8}(h:b.data.toList=s):a8 g (.str s) (.string b):=by subst h;exact .str b
theorem ph(b:ByteArray):b.data.toList.length=b.size:=by cases b;rfl
theorem Wa(hf:Fr fb V g w B e tmps)(hi:Inv CR base g σ w){x:Operand}{X:ba}{t:TypeId}{args:Array Operand}{ts:Array TypeId}{r:List Operand}{tr:List TypeId}(hx:aW x=some X)
  (ht:P.underlying t=some .string) (ha:args.toList=x::r) (hts:ts.toList=t::tr)
  (h:a7 e σ (.uA .wL [X])=some (d,σ')) (o:Oper) (ho:o.op=.call {callee:=.builtin .len,args,argTypes:=ts }):dk P CR base g w B e (Act.mk tmps df).eval o d σ':=by
 have hr:=hf.aR (df:=df) hx;obtain rfl:args=(x::r).toArray:=by rw[← ha]
 obtain rfl:ts=(t::tr).toArray:=by rw[← hts]
 simp only[a7,ab,aG,bf]at h;obtain⟨d0,hp,h⟩:=h;cases h;generalize aR e X=dx at hr hp;cases dx<;>simp only[wV,reduceCtorEq,ae]at hp;subst hp;obtain⟨b,hb,rfl⟩:=hr.gQ;refine .pure hi (c:=.int .i64 b.size) (by simp[execOp,ho,resolve,invoke,builtin,Builtin.len_,hb,aQ ht,goInt]) ?_;rw[ph];exact bI.of (.int _ _)
theorem V8(hf:Fr fb V g w B e tmps)(hi:Inv CR base g σ w){x y:Operand}{X Y:ba}{t:TypeId}(hx:aW x=some X)(hy:aW y=some Y)
  (ht:P.underlying t=some .string)
  (h:a7 e σ (.uA .sO [X,Y])=some (d,σ')) (o:Oper) (ho:o.op=.index t x y):dk P CR base g w B e (Act.mk tmps df).eval o d σ':=by
 have hr:=hf.aR (df:=df) hx;have hr':=hf.aR (df:=df) hy;simp only[a7,ab,aG,bf]at h;obtain⟨d0,hp,h⟩:=h;cases h;generalize aR e X=dx at hr hp;generalize aR e Y=dy at hr' hp;cases dx<;>cases dy<;>simp only[wV,reduceCtorEq,aJ,ab]at hp;rename_i s k i;obtain⟨h0,u,hu,rfl⟩:=hp;obtain⟨b,hb,rfl⟩:=hr.gQ;have hi':=hr'.cV;have hlt:i.toNat<b.size:=by rw[← ph];exact(an.1 hu).1
 have hu2:b[i.toNat]'hlt=u:=by
  have:=(an.1 hu).2;rw[← this];cases b;rfl
 have hin:0≤i∧i<b.size:=by omega
 refine .pure hi (c:=.int .u8 u.toNat) ?_ (bI.of (.int _ _));have hrun:=run_index_string (P:=P) w t b k i ht;rw[dif_pos hin,hu2]at hrun;simp[execOp,ho,hb,hi',hrun]
theorem V7(hf:Fr fb V g w B e tmps)(hi:Inv CR base g σ w){x y:Operand}{X Y:ba}{t u:TypeId}(hx:aW x=some X)(hy:aW y=some Y)
  (h:a7 e σ (.uA .Wc [X,Y])=some (d,σ')) (o:Oper) (ho:o.op=.binOp .add t x y u):dk P CR base g w B e (Act.mk tmps df).eval o d σ':=by
 have hr:=hf.aR (df:=df) hx;have hr':=hf.aR (df:=df) hy;simp only[a7,ab,aG,bf]at h;obtain⟨d0,hp,h⟩:=h;cases h;generalize aR e X=dx at hr hp;generalize aR e Y=dy at hr' hp;cases dx<;>cases dy<;>simp only[wV,reduceCtorEq,aJ,ae]at hp;obtain⟨h0,rfl⟩:=hp;obtain⟨a1,h1,rfl⟩:=hr.gQ;obtain⟨a2,h2,rfl⟩:=hr'.gQ;simp only[ph]at h0;refine .pure hi (c:=.string (a1++a2)) ?_ (bI.of (tk _ (by simp[ByteArray.data_append])));have hrun:=run_string_add_sum (P:=P) w a1 a2 (by omega);simp[execOp,ho,h1,h2,binOp,eqGuard,hrun]
theorem TK(hf:Fr fb V g w B e tmps)(hi:Inv CR base g σ w){x y:Operand}{X Y:ba}{t u:TypeId}{neg:Bool}(hx:aW x=some X)(hy:aW y=some Y)
  (h:a7 e σ (.uA (.seq neg) [X,Y])=some (d,σ')) (o:Oper) (ho:o.op=.binOp (if neg then .neq else .eql) t x y u):dk P CR base g w B e (Act.mk tmps df).eval o d σ':=by
 have hr:=hf.aR (df:=df) hx;have hr':=hf.aR (df:=df) hy;simp only[a7,ab,aG,bf]at h;obtain⟨d0,hp,h⟩:=h;cases h;generalize aR e X=dx at hr hp;generalize aR e Y=dy at hr' hp;cases dx<;>cases dy<;>simp only[wV,reduceCtorEq,ae]at hp;subst hp;obtain⟨a1,h1,rfl⟩:=hr.gQ;obtain⟨a2,h2,rfl⟩:=hr'.gQ;cases neg
 ·refine .pure hi (c:=.bool (a1.data.toList == a2.data.toList)) ?_ (bI.of (.bool _));simp[execOp,ho,h1,h2,eqGuard,binOp_string_eql,binOp_string_neq,ByteArray.toList_eq]
 ·refine .pure hi (c:=.bool !(a1.data.toList == a2.data.toList)) ?_ (bI.of (.bool _));simp[execOp,ho,h1,h2,eqGuard,binOp_string_eql,binOp_string_neq,ByteArray.toList_eq]
theorem Wb(hf:Fr fb V g w B e tmps)(hi:Inv CR base g σ w){x:Operand}{X:ba}{t:TypeId}{lo hi':Option Operand}{Lo Hi:Option ba}(hx:aW x=some X)
  (ht:P.underlying t=some .string) (hlo:oU lo=some Lo) (hhi:oU hi'=some Hi)
  (h:a7 e σ (.uA (.E1 Lo.isSome Hi.isSome) (X::(Lo.toList++Hi.toList)))=some (d,σ')) (o:Oper) (ho:o.op=.slice t x lo hi' none):dk P CR base g w B e (Act.mk tmps df).eval o d σ':=by
 have hr:=hf.aR (df:=df) hx;have opt:∀{z:Option Operand} {Z:Option ba},oU z=some Z→(z=none∧Z=none)∨∃q Q,z=some q∧Z=some Q∧aW q=some Q:=by
  intro z Z hz;cases z with
  |none=>simp only[oU,ae]at hz;exact .inl ⟨rfl,hz.symm⟩
  |some q =>
   simp only[oU,ab]at hz;obtain⟨Q,hQ,rfl⟩:=hz;exact .inr ⟨q,Q,rfl,rfl,hQ⟩
 simp only[a7,ab]at h;obtain⟨d0,hp,h⟩:=h;cases h;have ex:∀(b:ByteArray) (i j:Nat),j≤b.size→(b.extract i j).data.toList=(b.data.toList.drop i).take (j-i):=fun b i j hj=>by
  simp[ByteArray.data_extract]
 rcases opt hlo with⟨rfl,rfl⟩ | ⟨l,L,rfl,rfl,hl⟩<;>rcases opt hhi with⟨rfl,rfl⟩ | ⟨m,M,rfl,rfl,hm⟩
 ·simp only[Option.isSome_none,Option.toList_none,dz,aG,bf]at hp;generalize aR e X=dx at hr hp;cases dx<;>simp only[wV,reduceCtorEq,ae]at hp;subst hp;obtain⟨b,hb,rfl⟩:=hr.gQ;refine .pure hi (c:=.string (b.extract 0 b.size)) ?_ (bI.of (tk _ ?_))
  ·have hrun:=run_slice_string_all (P:=P) w t b ht;simp[execOp,ho,hb,run_sliceAt_string (P:=P) (h:=ht),hrun]
  ·rw[ex b 0 b.size (aw _),aO,Nat.sub_zero,← ph,List.take_length]
 ·have hrm:=hf.aR (df:=df) hm;simp only[Option.isSome_none,Option.isSome_some,Option.toList_none,Option.toList_some,bR,aG,bf]at hp;generalize aR e X=dx at hr hp;generalize aR e M=dm at hrm hp;cases dx<;>cases dm<;>simp only[wV,reduceCtorEq,aJ,ae]at hp;rename_i s k j;obtain⟨h0,rfl⟩:=hp;obtain⟨b,hb,rfl⟩:=hr.gQ;have hj:=hrm.cV;rw[ph]at h0;refine .pure hi (c:=.string (b.extract 0 j.toNat)) ?_ (bI.of (tk _ ?_))
  ·have hrun:=run_slice_string_h (P:=P) w t b ht k j h0.1 h0.2;simp[execOp,ho,hb,hj,run_sliceAt_string (P:=P) (h:=ht),hrun]
  ·rw[ex b 0 j.toNat (by omega),aO,Nat.sub_zero]
 ·have hrl:=hf.aR (df:=df) hl;simp only[Option.isSome_none,Option.isSome_some,Option.toList_none,Option.toList_some,dz,aG,bf]at hp;generalize aR e X=dx at hr hp;generalize aR e L=dm at hrl hp;cases dx<;>cases dm<;>simp only[wV,reduceCtorEq,aJ,ae]at hp;rename_i s k j;obtain⟨h0,rfl⟩:=hp;obtain⟨b,hb,rfl⟩:=hr.gQ;have hj:=hrl.cV;rw[ph]at h0;refine .pure hi (c:=.string (b.extract j.toNat b.size)) ?_ (bI.of (tk _ ?_))
  ·have hrun:=run_slice_string_l (P:=P) w t b ht k j h0.1 h0.2;simp[execOp,ho,hb,hj,run_sliceAt_string (P:=P) (h:=ht),hrun]
  ·rw[ex b j.toNat b.size (aw _)];exact aq (by rw[List.length_drop,ph];exact aw _)
 ·have hrl:=hf.aR (df:=df) hl;have hrm:=hf.aR (df:=df) hm;simp only[Option.isSome_some,Option.toList_some,dI,bR,aG,bf]at hp;generalize aR e X=dx at hr hp;generalize aR e L=dl at hrl hp;generalize aR e M=dm at hrm hp;cases dx<;>cases dl<;>cases dm<;>simp only[wV,reduceCtorEq,aJ,ae]at hp;rename_i s k i k' j;obtain⟨h0,rfl⟩:=hp;obtain⟨b,hb,rfl⟩:=hr.gQ;have hi1:=hrl.cV;have hj:=hrm.cV;rw[ph]at h0;refine .pure hi (c:=.string (b.extract i.toNat j.toNat)) ?_ (bI.of (tk _ ?_))
  ·have hrun:=run_slice_string (P:=P) w t b k k' i j ht h0.1 h0.2.1 h0.2.2;simp[execOp,ho,hb,hi1,hj,run_sliceAt_string (P:=P) (h:=ht),hrun]
  ·exact ex b i.toNat j.toNat (by omega)
end
end Go.Abs
