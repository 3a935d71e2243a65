import Derived.Test.YtklfdfnoebnciaaGreatDoorBase6
import Derived.Laws.BytesString
import Derived.Lib.ConvBytes
import Derived.Lib.Builder
set_option linter.all false
namespace Go.az
open Go
theorem Inv.TR{CR:eJ}{base:Nat}{g:G}{J:SK}{w w':World}(hi:Inv CR base g J w)(vs:List Value)(hsz:w'.heap.size=w.heap.size+1)(hold:∀x,x<w.heap.size->w'.heap[x]?=w.heap[x]?)
  (ho:w'.os=w.os) (ht:w'.tape=w.tape) (hp:w'.output=w.output)
  (hcs:∀(j:Nat) x,vs[j]?=some x->w'.cell? ⟨w.heap.size,j,none⟩=some x/\x.oneCell'=true):
  Inv CR base (g.iH w.heap.size vs) J w'/\Ev g w (g.iH w.heap.size vs) w'/\(g.iH w.heap.size vs).row w.heap.size 0 vs:=by
 have hle:g.le (g.iH w.heap.size vs):=⟨λl i L e=>⟨L,e,L.le_refl⟩,λb o v e=>by
  have:=hi.ir e;simp only[G.iH];rw[if_neg (by omega)];exact e⟩
 refine⟨⟨?_,?_,?_,?_,hi.inj,?_,hi.N8,λb Q h=>let ⟨⟨v,hb⟩,o,ho,hq⟩:=hi.Jb b Q h;⟨⟨v,hle.oc _ _ _ hb⟩,o,(hold b (hi.ir hb)).trans ho,hq⟩⟩,⟨hle,ho,ht,hp,by omega,λb hb _=>hold b hb,λb hb => .inl hb,?_⟩,?_⟩
 .have:=hi.ge;omega
 .intro l i L e;obtain⟨b,hb,hr⟩:=hi.vQ l i L e;exact⟨b,hb,hr.mono hle λx hx=>hold x (hi.lo l i L x e hx).2⟩
 .intro b o v e;simp only[G.iH]at e;split at e
  .rename_i hb;subst hb;exact hcs o v e
  .obtain⟨h1,h2⟩:=hi.oc b o v e;exact⟨(gq (hold _ (hi.ir e))).trans h1,h2⟩
 .intro l i L b e eb o;have:=(hi.lo l i L b e eb).2;simp only[G.iH];rw[if_neg (by omega)];exact hi.sep l i L b e eb o
 .intro l i L b e eb;have:=hi.lo l i L b e eb;exact⟨this.1,by omega⟩
 .intro b o v hv;simp only[G.iH]at hv;split at hv
  .rename_i hb;exact .inr (.inr (by omega))
  .exact .inl hv
 .intro j v hv;simp[G.iH,hv]
section
variable {P:Program} {CR:eJ} {base fb:Nat} {V:List Nat} {g:G} {J J':SK} {w:World} {B:Nat->Nat} {e:Env} {tmps:Array Value} {df:List Deferred}
 {d:D}
theorem Gg:∀{xs:List D} {vs:List Value} {s:List UInt8},bA g xs vs->CB xs=some s->∃ns:List Int,vs=ns.map (Value.int .u8)/\s=ns.map λn=>UInt8.ofNat n.toNat
 |[],vs,s,hr,h=>by
  simp only[CB,ad]at h;subst h;cases hr;exact⟨[],rfl,rfl⟩
 |x::xs,vs,s,hr,h=>by
  cases hr with
  |cons _ c _ cs h1 h2 =>
   cases x with
   |int k n =>
    cases k<;>simp only[CB,reduceCtorEq]at h;simp only[ab]at h;obtain⟨s',h3,rfl⟩:=h;obtain⟨ns,rfl,rfl⟩:=Gg h2 h3;have:=h1.dQ;subst this;exact⟨n::ns,rfl,rfl⟩
   |_=>simp[CB]at h
theorem Io:∀(ns:List Int) (b:ByteArray),(ns.foldl (λr n=>r.push (UInt8.ofNat n.toNat)) b).data.toList=b.data.toList++ns.map λn=>UInt8.ofNat n.toNat
 |[],b=>by simp
 |n::ns,b=>by
  simp only[List.foldl_cons,aN];rw[Io ns];simp[ByteArray.push]
theorem aaA(hf:Fr fb V g w B e tmps)(hi:Inv CR base g J w){x:Operand}{X:bD}{t u el:TypeId}(hx:bC x=some X)
  (ht:P.underlying t=some (.slice el)) (hel:P.underlying el=some (.int .u8)) (hu:P.underlying u=some .string)
  (h:bG e J (.me .b2s [X])=some (d,J')) (o:Oper) (ho:o.op=.convert t u x):ep P CR base g w B e (Act.mk tmps df).eval o d J':=by
 have hr:=hf.ba (df:=df) hx;simp only[bG,aN,bS]at h;generalize hdx:ba e X=dx at hr h;have hns:∀s,dx ≠ .str s:=λs hs=>by subst hs;simp[SI]at h
 have h':(elems J 1 dx).bind (λr=>(CB r.2).map λs=>(D.str s,J))=some (d,J'):=by
  cases dx<;>first | exact absurd rfl (hns _) | exact h
 simp only[af,ab,Prod.exists,aj]at h';obtain⟨m,xs,he,s,hb,rfl,rfl⟩:=h';obtain⟨a,cap,vs,hc,h1,h2,h3,h4,h5⟩:=D8 hi hr he hns;obtain⟨ns,rfl,rfl⟩:=Gg h1 hb;simp only[gp,jk]at h3;have hrun:∃b:ByteArray,(convert t u ((Act.mk tmps df).eval x)).run P w=.ok (.string b) w/\b.data.toList=ns.map λn=>UInt8.ofNat n.toNat:=by
  rw[hc,run_convert_bytes_string w t u el a m cap ht hel hu];cases a with
  |none =>
   obtain rfl:=h4 rfl;obtain rfl:ns=[]:=by simpa using h3
   exact⟨.empty,by simp[Conv.bytesToString],rfl⟩
  |some a =>
   have hl:(loadCells a m).run P w=.ok (ns.map (Value.int .u8)).toArray w:=by
    have:=tR (P:=P) (w:=w) (wd:=1) (n:=m) (a:=some a) (cap:=cap) (vs:=ns.map (Value.int .u8)) h4 (by simpa using h3) h5 w rfl;simpa[Builtin.firstCells]using this
   refine⟨_,run_bytesToString w a m cap ns hl,?_⟩;rw[Io];rfl
 obtain⟨b,hrun,hb2⟩:=hrun;exact .pure hi (c:=.string b) (by simp[execOp,ho,hrun]) (ch.of (BB b hb2))
theorem aaZ(hf:Fr fb V g w B e tmps)(hi:Inv CR base g J w){x:Operand}{X:bD}{t u el:TypeId}(hx:bC x=some X)
  (ht:P.underlying t=some .string) (hel:P.underlying el=some (.int .u8)) (hu:P.underlying u=some (.slice el))
  (h:bG e J (.me .s2b [X])=some (d,J')) (o:Oper) (ho:o.op=.convert t u x):ep P CR base g w B e (Act.mk tmps df).eval o d J':=by
 have hr:=hf.ba (df:=df) hx;simp only[bG,aN,bS]at h;generalize ba e X=dx at hr h;cases dx<;>simp only[SI,reduceCtorEq,ad,aj]at h;rename_i s;obtain⟨rfl,rfl⟩:=h;obtain⟨b,hb,rfl⟩:=hr.kI;have hrun:=Lib.run_convert_string_bytes (P:=P) w t u el b ht hu hel;have hlen:b.data.toList.length=b.size:=by cases b;rfl
 obtain⟨i1,e1,r1⟩:=hi.TR (w':=Lib.bytesWorld w el b) (b.data.toList.map λu => .int .u8 u.toNat) (Lib.bytesWorld_size w el b) (λx hx=>Lib.bytesWorld_at_old w el b x hx) rfl rfl rfl (λj x hj=>by
  have hj':j<b.size:=by have:=(aw.1 hj).1;simpa[hlen]using this
  have h1:=Lib.bytesWorld_cell w el b j hj';have h2:x=.int .u8 (b.data.toList.getD j 0).toNat:=by
   simp only[oO,ab]at hj;obtain⟨u,hu,rfl⟩:=hj;simp[List.getD,hu]
  subst h2;exact⟨h1,rfl⟩)
 refine .val (.slice (some ⟨w.heap.size,0,none⟩) b.size (grownCap w b.size 0 el)) (by simp[execOp,ho,hb,hrun]) e1 i1 ?_;rw[hlen];refine .aG _ _ _ _ _ ?_ r1 (λ_=>rfl) (zL _ _);unfold grownCap;simp only[Question.cut];omega
theorem aaY(hf:Fr fb V g w B e tmps)(hi:Inv CR base g J w){x:Operand}{X:bD}{t el:TypeId}{n wd:Nat}(hx:bC x=some X)
  (ht:P.underlying t=some (.array n el)) (h:bG e J (.me (.s2a n wd) [X])=some (d,J')) (o:Oper) (ho:o.op=.sliceToArrayPointer t x):ep P CR base g w B e (Act.mk tmps df).eval o d J':=by
 have hr:=hf.ba (df:=df) hx;simp only[bG,aN,bS]at h;generalize ba e X=dx at hr h;cases dx<;>simp only[SI,reduceCtorEq]at h;rename_i m cs;split at h
 case isFalse=>cases h
 rename_i hn;cases h;generalize hcv:(Act.mk tmps df).eval x=cv at hr;cases hr with
 |yp=>omega
 |aG _ _ a cap vs k1 k2 k3 k4 =>
  refine .pure hi (c:=.pointer (some a)) ?_ (ch.of ?_)
  .have:¬m<n:=by omega
   simp[execOp,ho,hcv,Instr.arrayAt,bf ht,this]
  .obtain⟨cT,off,sp⟩:=a;have hsp:sp=none:=k3 (by omega);subst hsp;exact .bu _ _ _ (vs.take (n*wd)) (λj v hv=>k2 j v (by
    rw[dS]at hv;split at hv
    .exact hv
    .cases hv)) (k4.take _)
theorem Vz(hf:Fr fb V g w B e tmps)(hi:Inv CR base g J w){x y:Operand}{X Y:bD}{t u el:TypeId}{neg:Bool}(hx:bC x=some X)(hy:bC y=some Y)(ht:P.underlying t=some (.pointer el))(hsz:(P.info? el).isSome)
  (h:bG e J (.me (.peq neg) [X,Y])=some (d,J')) (o:Oper) (ho:o.op=.binOp (if neg then .neq else .eql) t x y u):ep P CR base g w B e (Act.mk tmps df).eval o d J':=by
 have hr:=hf.ba (df:=df) hx;have hr':=hf.ba (df:=df) hy;simp only[bG,aN,bS]at h;generalize ba e X=dx at hr h;generalize ba e Y=dy at hr' h;cases dx<;>cases dy<;>simp only[SI,reduceCtorEq]at h;rename_i l i v off l' i' v' off';split at h
 case isFalse=>cases h
 rename_i hc;obtain⟨rfl,rfl,rfl,rfl,hc⟩:=hc;cases h;obtain⟨cs,hcs⟩:=cJ.1 hc;unfold cells? at hcs;split at hcs
 case h_2=>cases hcs
 rename_i v' cs' hblk;split at hcs
 case isFalse=>cases hcs
 rename_i hv;subst hv;cases hcs;obtain⟨j,hj⟩:=cJ.1 hsz;generalize hcv:(Act.mk tmps df).eval x=cv at hr;generalize hcw:(Act.mk tmps df).eval y=cw at hr';cases hr with
 |ref _ _ _ _ b o1 L k1 k2 k3 k4 =>
 cases hr' with
 |ref _ _ _ _ b' o2 L' k1' k2' k3' k4' =>
 rw[k1]at k1';cases k1';obtain⟨b0,hb0,hrel⟩:=hi.vQ _ _ _ k1;rw[hblk]at hb0;cases hb0;cases L with
 |dead=>exact hrel.elim
 |lp z=>exact hrel.elim
 |mp z=>exact k2.elim
 |it z=>exact k2.elim
 |ob z _=>exact k2.elim
 |oG v2=>obtain⟨rfl,_⟩:=hrel;exact absurd rfl k4
 |«at» cT bo v2 bsz =>
  obtain⟨rfl,_⟩:=hrel;obtain⟨rfl,rfl⟩:=k3 _ _ _ rfl;obtain⟨rfl,rfl⟩:=k3' _ _ _ rfl;have hne:=Lib.run_neq_ptr_same (P:=P) w ⟨b',bo+off,none⟩ ht hj;cases neg
  .have heq:(binOp .eql t (.pointer (some ⟨b',bo+off,none⟩)) (.pointer (some ⟨b',bo+off,none⟩))).run P w=.ok (.bool true) w:=by
    have h:∀d:Nat,(Op.equalIn (d+1) t (.pointer (some ⟨b',bo+off,none⟩)) (.pointer (some ⟨b',bo+off,none⟩))).run P w=.ok true w:=λd=>by
     simp[Op.equalIn,run_underlying ht,sizeOf,typeInfo,hj,run_sameAddr_same]
    simp only[binOp];simp[Op.equal,Op.maxDepth,h 9999]
   refine .pure hi (c:=.bool true) ?_ (ch.of (.bool _));simp[execOp,ho,hcv,hcw,eqGuard,heq]
  .refine .pure hi (c:=.bool false) ?_ (ch.of (.bool _));simp[execOp,ho,hcv,hcw,eqGuard,hne]
end
theorem T3{w:World}{b k:Nat}{ca:Array Value}{el:TypeId}(hb:w.heap[b]?=some (.cells ca el (0,0))):(w.freeze ⟨b,k,none⟩ 1).heap[b]?=some (.cells ca el (k,k+1)):=by
 unfold World.freeze;rw[if_neg (by decide)];simp[oK,hb]
theorem zy{w:World}{b k b':Nat}(h:b'≠b):(w.freeze ⟨b,k,none⟩ 1).heap[b']?=w.heap[b']?:=by
 unfold World.freeze;rw[if_neg (by decide)];simp[oK,Ne.symm h]
theorem O9{w:World}{b k:Nat}:(w.freeze ⟨b,k,none⟩ 1).heap.size=w.heap.size:=by
 unfold World.freeze;rw[if_neg (by decide)];simp
section
variable {CR:eJ} {base:Nat} {g:G} {J:SK} {w:World}
theorem Inv.mark(hi:Inv CR base g J w){l i v b o sz k:Nat}{cs:List D}(hL:g.loc l i=some (.at b o v sz))(hb:dn J l i=some (.cells v cs)):
  ∃g' vs,Inv CR base g' (aR J l i .dead) (w.freeze ⟨b,k,none⟩ 1)/\Ev g w g' (w.freeze ⟨b,k,none⟩ 1)/\g'.row b o vs/\bA g cs vs:=by
 obtain⟨b0,hb0,hrel⟩:=hi.vQ l i _ hL;rw[hb]at hb0;cases hb0;obtain⟨_,ca,el,hheap,hsz,hlen,vs,hr,hvs⟩:=hrel
 let g':G:=⟨λl' i'=>if l'=l/\i'=i then some .dead else g.loc l' i',λb' o'=>if b'=b then(if o<=o' then vs[o'-o]? else none)else g.oc b' o'⟩
 have hsame:g'.loc l i=some .dead:=by simp[g']
 have hother:∀l' i',¬(l'=l/\i'=i)->g'.loc l' i'=g.loc l' i':=λl' i' c=>by simp only[g'];rw[if_neg c]
 have hnob:∀o',g.oc b o'=none:=hi.sep l i _ b hL rfl;have hle:g.le g':=by
  refine⟨λl' i' L' e=>?_,λb' o' x e=>?_⟩
  .by_cases c:l'=l/\i'=i
   .obtain⟨rfl,rfl⟩:=c;rw[hL]at e;cases e;exact⟨.dead,hsame,by simp[Loc.le]⟩
   .exact⟨L',by rw[hother _ _ c];exact e,L'.le_refl⟩
  .have:b'≠b:=λh=>by subst h;rw[hnob]at e;cases e
   simp only[g'];rw[if_neg this];exact e
 have hms:(w.freeze ⟨b,k,none⟩ 1).heap.size=w.heap.size:=O9;have hfo:(w.freeze ⟨b,k,none⟩ 1).os=w.os/\(w.freeze ⟨b,k,none⟩ 1).tape=w.tape/\(w.freeze ⟨b,k,none⟩ 1).output=w.output:=by
  unfold World.freeze;rw[if_neg (by decide)];exact⟨rfl,rfl,rfl⟩
 refine⟨g',vs,hi.DM l i hle (λl' i' c=>dI c) hother (λl' i' L' b' c e eb=>?_) ?_ ?_ ?_ ?_ (Nat.le_of_eq hms.symm) ⟨.dead,by simp[g']⟩ (λb' v' e=>?_),⟨hle,hfo.1,hfo.2.1,hfo.2.2,Nat.le_of_eq hms.symm,λb' _ hn=>?_,?_,?_⟩,?_,hr⟩
 .refine zy λh=>?_
  subst h;exact c (hi.inj _ _ _ _ _ _ b' e hL eb rfl)
 .intro L e;rw[hsame]at e;cases e;exact⟨_,na hb,trivial⟩
 .intro b' o' x e;simp only[g']at e;split at e
  .rename_i hb';subst hb';split at e
   .rename_i hoo;obtain⟨h1,h2⟩:=hvs _ x e;rw[show o+(o'-o)=o' from by omega]at h1;exact⟨by simp only[World.cell?,T3 hheap];simpa using h1,h2⟩
   .cases e
  .rename_i hne;obtain⟨h1,h2⟩:=hi.oc b' o' x e;exact⟨(gq (zy hne)).trans h1,h2⟩
 .intro l' i' L' b' e eb o';by_cases c:l'=l/\i'=i
  .obtain⟨rfl,rfl⟩:=c;rw[hsame]at e;cases e;cases eb
  .rw[hother _ _ c]at e;have:b'≠b:=λh=>by subst h;exact c (hi.inj _ _ _ _ _ _ b' e hL eb rfl)
   simp only[g'];rw[if_neg this];exact hi.sep l' i' L' b' e eb o'
 .intro L b' e eb;rw[hsame]at e;cases e;cases eb
 .exact zy λh=>by subst h;rw[hnob]at e;cases e
 .exact zy λh=>by subst h;exact hn ⟨l,i,_,hL,rfl⟩
 .intro b' hb';obtain⟨l',i',L',e,eb⟩:=hb';by_cases c:l'=l/\i'=i
  .obtain⟨rfl,rfl⟩:=c;rw[hsame]at e;cases e;cases eb
  .rw[hother _ _ c]at e;exact .inl ⟨l',i',L',e,eb⟩
 .intro b' o' x e;simp only[g']at e;split at e
  .rename_i hb';subst hb';exact .inr (.inl ⟨l,i,_,hL,rfl⟩)
  .exact .inl e
 .intro j x hx;simp only[g',if_true];rw[if_pos (by omega),show o+j-o=j from by omega];exact hx
end
section
variable {P:Program} {CR:eJ} {base fb:Nat} {V:List Nat} {g:G} {J J':SK} {w:World} {B:Nat->Nat} {e:Env} {tmps:Array Value} {df:List Deferred}
 {d:D}
theorem aaI(hf:Fr fb V g w B e tmps)(hi:Inv CR base g J w){x:Operand}{X:bD}{t el:TypeId}(hx:bC x=some X)
  (ht:P.underlying t=some (.slice el)) (hel:P.underlying el=some (.int .u8))
  (h:bG e J (.Wx X)=some (d,J')) (o:Oper) (ho:o.op=.convert t t x):ep P CR base g w B e (Act.mk tmps df).eval o d J':=by
 have hr:=hf.ba (df:=df) hx;simp only[bG]at h;generalize ba e X=dx at hr h;cases dx<;>simp only[reduceCtorEq]at h;rename_i l i v off n wd;split at h
 case isFalse=>cases h
 rename_i hn;split at h
 case h_2=>cases h
 rename_i cs hcs;cases h;unfold cells? at hcs;split at hcs
 case h_2=>cases hcs
 rename_i v' cs' hblk;split at hcs
 case isFalse=>cases hcs
 rename_i hv;subst hv;cases hcs;generalize hcv:(Act.mk tmps df).eval x=cv at hr;cases hr with
 |sl _ _ _ _ _ _ a cap L h1 h2 h3 h4 h5 h6 h7 =>
 obtain⟨b0,hb0,hrel⟩:=hi.vQ l i L h1;rw[hblk]at hb0;cases hb0;cases L with
 |dead=>exact hrel.elim
 |lp z=>exact hrel.elim
 |mp z=>exact h2.elim
 |it z=>exact h2.elim
 |ob z _=>exact h2.elim
 |oG v2 =>
  obtain⟨rfl,_⟩:=hrel;have:=h4 (h7 rfl);omega
 |«at» b bo v2 sz =>
  have hrel':=hrel;obtain⟨rfl,ca,el',hheap,hsz,hlen,_⟩:=hrel';rcases h6 b bo sz rfl with⟨rfl,h8⟩ | h8
  case inr=>omega
  have hsh:w.shape? b=some (el',ca.size):=by unfold World.shape?;rw[hheap]
  have hrun:(convert t t (.slice (some ⟨b,bo+off,none⟩) n cap)).run P w=.ok (.slice (some ⟨b,bo+off,none⟩) n cap) (w.freeze ⟨b,ca.size,none⟩ 1):=by
   simp[convert,run_underlying ht,run_underlying hel,markStringish,hsh]
  obtain⟨g',vs,i1,e1,hrow,hrl⟩:=hi.mark (k:=ca.size) h1 hblk;refine .val (.slice (some ⟨b,bo+off,none⟩) n cap) (by simp[execOp,ho,hcv,hrun]) e1 i1 ?_;exact .aG _ _ _ _ ((vs.drop off).take (n*wd)) h3.1 (wS (yS hrow off) _) (λ_=>rfl) (((hrl.mono e1.le).drop off).take _)
end
end Go.az
