import Derived.Test.YtfgljaglidhjiaaGreatDoorBase5
import Derived.Laws.BytesString
import Derived.Lib.ConvBytes
import Derived.Lib.Builder
set_option linter.all false
namespace Go.Abs
open Go
theorem Inv.ajd{CR:gC}{base:Nat}{g:G}{σ:SK}{w w':World}(hi:Inv CR base g σ w)(vs:List Value)(hsz:w'.heap.size=w.heap.size+1)(hold:∀x,x<w.heap.size→w'.heap[x]?=w.heap[x]?)
  (ho:w'.os=w.os) (ht:w'.tape=w.tape) (hp:w'.output=w.output)
  (hcs:∀(j:Nat) x,vs[j]?=some x→w'.cell? ⟨w.heap.size,j,none⟩=some x∧x.oneCell'=true):
  Inv CR base (g.oH w.heap.size vs) σ w'∧Ev g w (g.oH w.heap.size vs) w'∧(g.oH w.heap.size vs).row w.heap.size 0 vs:=by
 have hle:g.le (g.oH w.heap.size vs):=⟨fun l i L e=>⟨L,e,L.le_refl⟩,fun b o v e=>by
  have:=hi.jG e;simp only[G.oH];rw[if_neg (by omega)];exact e⟩
 refine⟨⟨?_,?_,?_,?_,hi.inj,?_,hi.Vj,fun b Q h=>let ⟨⟨v,hb⟩,o,ho,hq⟩:=hi.NB b Q h;⟨⟨v,hle.rk _ _ _ hb⟩,o,(hold b (hi.jG hb)).trans ho,hq⟩⟩,⟨hle,ho,ht,hp,by omega,fun b hb _=>hold b hb,fun b hb => .inl hb,?_⟩,?_⟩
 ·have:=hi.ge;omega
 ·intro l i L e;obtain⟨b,hb,hr⟩:=hi.xU l i L e;exact⟨b,hb,hr.mono hle fun x hx=>hold x (hi.lo l i L x e hx).2⟩
 ·intro b o v e;simp only[G.oH]at e;split at e
  ·rename_i hb;subst hb;exact hcs o v e
  ·obtain⟨h1,h2⟩:=hi.rk b o v e;exact⟨(jV (hold _ (hi.jG e))).trans h1,h2⟩
 ·intro l i L b e eb o;have:=(hi.lo l i L b e eb).2;simp only[G.oH];rw[if_neg (by omega)];exact hi.sep l i L b e eb o
 ·intro l i L b e eb;have:=hi.lo l i L b e eb;exact⟨this.1,by omega⟩
 ·intro b o v hv;simp only[G.oH]at hv;split at hv
  ·rename_i hb;exact .inr (.inr (by omega))
  ·exact .inl hv
 ·intro j v hv;simp[G.oH,hv]
section
variable {P:Program} {CR:gC} {base fb:Nat} {V:List Nat} {g:G} {σ σ':SK} {w:World} {B:Nat→Nat} {e:Env} {tmps:Array Value} {df:List Deferred}
 {d:D}
theorem JN:∀{xs:List D} {vs:List Value} {s:List UInt8},bF g xs vs→E5 xs=some s→∃ns:List Int,vs=ns.map (Value.int .u8)∧s=ns.map fun n=>UInt8.ofNat n.toNat
 |[],vs,s,hr,h=>by
  simp only[E5,ae]at h;subst h;cases hr;exact⟨[],rfl,rfl⟩
 |x::xs,vs,s,hr,h=>by
  cases hr with
  |cons _ c _ cs h1 h2 =>
   cases x with
   |int k n =>
    cases k<;>simp only[E5,reduceCtorEq]at h;simp only[ad]at h;obtain⟨s',h3,rfl⟩:=h;obtain⟨ns,rfl,rfl⟩:=JN h2 h3;have:=h1.fp;subst this;exact⟨n::ns,rfl,rfl⟩
   |_=>simp[E5]at h
theorem L5:∀(ns:List Int) (b:ByteArray),(ns.foldl (fun r n=>r.push (UInt8.ofNat n.toNat)) b).data.toList=b.data.toList++ns.map fun n=>UInt8.ofNat n.toNat
 |[],b=>by simp
 |n::ns,b=>by
  simp only[List.foldl_cons,aQ];rw[L5 ns];simp[ByteArray.push]
theorem ayO(hf:Fr fb V g w B e tmps)(hi:Inv CR base g σ w){x:Operand}{X:bM}{t u el:TypeId}(hx:bH x=some X)
  (ht:P.underlying t=some (.slice el)) (hel:P.underlying el=some (.int .u8)) (hu:P.underlying u=some .string)
  (h:bN e σ (.me .b2s [X])=some (d,σ')) (o:Oper) (ho:o.op=.convert t u x):fY P CR base g w B e (Act.mk tmps df).eval o d σ':=by
 have hr:=hf.bj (df:=df) hx;simp only[bN,aQ,bV]at h;generalize hdx:bj e X=dx at hr h;have hns:∀s,dx ≠ .str s:=fun s hs=>by subst hs;simp[meD]at h
 have h':(elems σ 1 dx).bind (fun r=>(E5 r.2).map fun s=>(D.str s,σ))=some (d,σ'):=by
  cases dx<;>first | exact absurd rfl (hns _) | exact h
 simp only[ah,ad,Prod.exists,an]at h';obtain⟨m,xs,he,s,hb,rfl,rfl⟩:=h';obtain⟨a,cap,vs,hc,h1,h2,h3,h4,h5⟩:=Hm hi hr he hns;obtain⟨ns,rfl,rfl⟩:=JN h1 hb;simp only[dL,dP]at h3;have hrun:∃b:ByteArray,(convert t u ((Act.mk tmps df).eval x)).run P w=.ok (.string b) w∧b.data.toList=ns.map fun n=>UInt8.ofNat n.toNat:=by
  rw[hc,run_convert_bytes_string w t u el a m cap ht hel hu];cases a with
  |none =>
   obtain rfl:=h4 rfl;obtain rfl:ns=[]:=by simpa using h3
   exact⟨.empty,by simp[Conv.bytesToString],rfl⟩
  |some a =>
   have hl:(loadCells a m).run P w=.ok (ns.map (Value.int .u8)).toArray w:=by
    have:=um (P:=P) (w:=w) (wd:=1) (n:=m) (a:=some a) (cap:=cap) (vs:=ns.map (Value.int .u8)) h4 (by simpa using h3) h5 w rfl;simpa[Builtin.firstCells]using this
   refine⟨_,run_bytesToString w a m cap ns hl,?_⟩;rw[L5];rfl
 obtain⟨b,hrun,hb2⟩:=hrun;exact .pure hi (c:=.string b) (by simp[execOp,ho,hrun]) (cK.of (Dn b hb2))
theorem azc(hf:Fr fb V g w B e tmps)(hi:Inv CR base g σ w){x:Operand}{X:bM}{t u el:TypeId}(hx:bH x=some X)
  (ht:P.underlying t=some .string) (hel:P.underlying el=some (.int .u8)) (hu:P.underlying u=some (.slice el))
  (h:bN e σ (.me .s2b [X])=some (d,σ')) (o:Oper) (ho:o.op=.convert t u x):fY P CR base g w B e (Act.mk tmps df).eval o d σ':=by
 have hr:=hf.bj (df:=df) hx;simp only[bN,aQ,bV]at h;generalize bj e X=dx at hr h;cases dx<;>simp only[meD,reduceCtorEq,ae,an]at h;rename_i s;obtain⟨rfl,rfl⟩:=h;obtain⟨b,hb,rfl⟩:=hr.my;have hrun:=Lib.run_convert_string_bytes (P:=P) w t u el b ht hu hel;have hlen:b.data.toList.length=b.size:=by cases b;rfl
 obtain⟨i1,e1,r1⟩:=hi.ajd (w':=Lib.bytesWorld w el b) (b.data.toList.map fun u => .int .u8 u.toNat) (Lib.bytesWorld_size w el b) (fun x hx=>Lib.bytesWorld_at_old w el b x hx) rfl rfl rfl (fun j x hj=>by
  have hj':j<b.size:=by have:=(aD.1 hj).1;simpa[hlen]using this
  have h1:=Lib.bytesWorld_cell w el b j hj';have h2:x=.int .u8 (b.data.toList.getD j 0).toNat:=by
   simp only[mO,ad]at hj;obtain⟨u,hu,rfl⟩:=hj;simp[List.getD,hu]
  subst h2;exact⟨h1,rfl⟩)
 refine .val (.slice (some ⟨w.heap.size,0,none⟩) b.size (grownCap w b.size 0 el)) (by simp[execOp,ho,hb,hrun]) e1 i1 ?_;rw[hlen];refine .aI _ _ _ _ _ ?_ r1 (fun _=>rfl) (A0 _ _);unfold grownCap;simp only[Question.cut];omega
theorem azb(hf:Fr fb V g w B e tmps)(hi:Inv CR base g σ w){x:Operand}{X:bM}{t el:TypeId}{n wd:Nat}(hx:bH x=some X)
  (ht:P.underlying t=some (.array n el)) (h:bN e σ (.me (.s2a n wd) [X])=some (d,σ')) (o:Oper) (ho:o.op=.sliceToArrayPointer t x):fY P CR base g w B e (Act.mk tmps df).eval o d σ':=by
 have hr:=hf.bj (df:=df) hx;simp only[bN,aQ,bV]at h;generalize bj e X=dx at hr h;cases dx<;>simp only[meD,reduceCtorEq]at h;rename_i m cs;split at h
 case isFalse=>cases h
 rename_i hn;cases h;generalize hcv:(Act.mk tmps df).eval x=cv at hr;cases hr with
 |xD=>omega
 |aI _ _ a cap vs k1 k2 k3 k4 =>
  refine .pure hi (c:=.pointer (some a)) ?_ (cK.of ?_)
  ·have:¬m<n:=by omega
   simp[execOp,ho,hcv,Instr.arrayAt,bq ht,this]
  ·obtain⟨bD,off,sp⟩:=a;have hsp:sp=none:=k3 (by omega);subst hsp;exact .bI _ _ _ (vs.take (n*wd)) (fun j v hv=>k2 j v (by
    rw[ei]at hv;split at hv
    ·exact hv
    ·cases hv)) (k4.take _)
theorem api(hf:Fr fb V g w B e tmps)(hi:Inv CR base g σ w){x y:Operand}{X Y:bM}{t u el:TypeId}{neg:Bool}(hx:bH x=some X)(hy:bH y=some Y)(ht:P.underlying t=some (.pointer el))(hsz:(P.info? el).isSome)
  (h:bN e σ (.me (.peq neg) [X,Y])=some (d,σ')) (o:Oper) (ho:o.op=.binOp (if neg then .neq else .eql) t x y u):fY P CR base g w B e (Act.mk tmps df).eval o d σ':=by
 have hr:=hf.bj (df:=df) hx;have hr':=hf.bj (df:=df) hy;simp only[bN,aQ,bV]at h;generalize bj e X=dx at hr h;generalize bj e Y=dy at hr' h;cases dx<;>cases dy<;>simp only[meD,reduceCtorEq]at h;rename_i l i v off l' i' v' off';split at h
 case isFalse=>cases h
 rename_i hc;obtain⟨rfl,rfl,rfl,rfl,hc⟩:=hc;cases h;obtain⟨cs,hcs⟩:=dB.1 hc;unfold cells? at hcs;split at hcs
 case h_2=>cases hcs
 rename_i v' cs' hblk;split at hcs
 case isFalse=>cases hcs
 rename_i hv;subst hv;cases hcs;obtain⟨j,hj⟩:=dB.1 hsz;generalize hcv:(Act.mk tmps df).eval x=cv at hr;generalize hcw:(Act.mk tmps df).eval y=cw at hr';cases hr with
 |ref _ _ _ _ b o1 L k1 k2 k3 k4 =>
 cases hr' with
 |ref _ _ _ _ b' o2 L' k1' k2' k3' k4' =>
 rw[k1]at k1';cases k1';obtain⟨b0,hb0,hrel⟩:=hi.xU _ _ _ k1;rw[hblk]at hb0;cases hb0;cases L with
 |dead=>exact hrel.elim
 |lp z=>exact hrel.elim
 |mp z=>exact k2.elim
 |it z=>exact k2.elim
 |ob z _=>exact k2.elim
 |pN v2=>obtain⟨rfl,_⟩:=hrel;exact absurd rfl k4
 |«at» bD bo v2 bsz =>
  obtain⟨rfl,_⟩:=hrel;obtain⟨rfl,rfl⟩:=k3 _ _ _ rfl;obtain⟨rfl,rfl⟩:=k3' _ _ _ rfl;have hne:=Lib.run_neq_ptr_same (P:=P) w ⟨b',bo+off,none⟩ ht hj;cases neg
  ·have heq:(binOp .eql t (.pointer (some ⟨b',bo+off,none⟩)) (.pointer (some ⟨b',bo+off,none⟩))).run P w=.ok (.bool true) w:=by
    have h:∀d:Nat,(Op.equalIn (d+1) t (.pointer (some ⟨b',bo+off,none⟩)) (.pointer (some ⟨b',bo+off,none⟩))).run P w=.ok true w:=fun d=>by
     simp[Op.equalIn,run_underlying ht,sizeOf,typeInfo,hj,run_sameAddr_same]
    simp only[binOp];simp[Op.equal,Op.maxDepth,h 9999]
   refine .pure hi (c:=.bool true) ?_ (cK.of (.bool _));simp[execOp,ho,hcv,hcw,eqGuard,heq]
  ·refine .pure hi (c:=.bool false) ?_ (cK.of (.bool _));simp[execOp,ho,hcv,hcw,eqGuard,hne]
end
end Go.Abs
