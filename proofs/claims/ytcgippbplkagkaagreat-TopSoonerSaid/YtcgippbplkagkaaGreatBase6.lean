import Derived.Test.YtcgippbplkagkaaGreatBase5
import Derived.Laws.BytesString
import Derived.Lib.ConvBytes
import Derived.Lib.Builder
import Derived.Test.YtcgippbplkagkaaGreatBase4
set_option linter.all false
namespace Go.Abs
open Go
theorem Inv.KP{CR:dF}{base:Nat}{g:G}{σ:SK}{w w':World}(hi:Inv CR base g σ w)(vs:List Value)(hsz:w'.heap.size=w.heap.size+1)(hold:∀x,x<w.heap.size→w'.heap[x]?=w.heap[x]?)
  (ho:w'.os=w.os) (ht:w'.tape=w.tape) (hp:w'.output=w.output)
  (hcs:∀(j:Nat) x,vs[j]?=some x→w'.cell? ⟨w.heap.size,j,none⟩=some x∧x.oneCell'=true):
  Inv CR base (g.fH w.heap.size vs) σ w'∧Ev g w (g.fH w.heap.size vs) w'∧(g.fH w.heap.size vs).row w.heap.size 0 vs:=by
 have hle:g.le (g.fH w.heap.size vs):=⟨fun l i L e=>⟨L,e,L.le_refl⟩,fun b o v e=>by
  have:=hi.eO e;simp only[G.fH];rw[if_neg (by omega)];exact e⟩
 refine⟨⟨?_,?_,?_,?_,hi.inj,?_,hi.Ee,fun b Q h=>let ⟨⟨v,hb⟩,o,ho,hq⟩:=hi.BW b Q h;⟨⟨v,hle.jV _ _ _ hb⟩,o,(hold b (hi.eO hb)).trans ho,hq⟩⟩,⟨hle,ho,ht,hp,by omega,fun b hb _=>hold b hb,fun b hb => .inl hb,?_⟩,?_⟩
 ·have:=hi.ge;omega
 ·intro l i L e;obtain⟨b,hb,hr⟩:=hi.o8 l i L e;exact⟨b,hb,hr.mono hle fun x hx=>hold x (hi.lo l i L x e hx).2⟩
 ·intro b o v e;simp only[G.fH]at e;split at e
  ·rename_i hb;subst hb;exact hcs o v e
  ·obtain⟨h1,h2⟩:=hi.jV b o v e;exact⟨(ep (hold _ (hi.eO e))).trans h1,h2⟩
 ·intro l i L b e eb o;have:=(hi.lo l i L b e eb).2;simp only[G.fH];rw[if_neg (by omega)];exact hi.sep l i L b e eb o
 ·intro l i L b e eb;have:=hi.lo l i L b e eb;exact⟨this.1,by omega⟩
 ·intro b o v hv;simp only[G.fH]at hv;split at hv
  ·rename_i hb;exact .inr (.inr (by omega))
  ·exact .inl hv
 ·intro j v hv;simp[G.fH,hv]
section
variable {P:Program} {CR:dF} {base fb:Nat} {V:List Nat} {g:G} {σ σ':SK} {w:World} {B:Nat→Nat} {e:Env} {tmps:Array Value} {df:List Deferred}
 {d:D}
theorem xw:∀{xs:List D} {vs:List Value} {s:List UInt8},aY g xs vs→ue xs=some s→∃ns:List Int,vs=ns.map (Value.int .u8)∧s=ns.map fun n=>UInt8.ofNat n.toNat
 |[],vs,s,hr,h=>by
  simp only[ue,ae]at h;subst h;cases hr;exact⟨[],rfl,rfl⟩
 |x::xs,vs,s,hr,h=>by
  cases hr with
  |cons _ c _ cs h1 h2 =>
   cases x with
   |int k n =>
    cases k<;>simp only[ue,reduceCtorEq]at h;simp only[ab]at h;obtain⟨s',h3,rfl⟩:=h;obtain⟨ns,rfl,rfl⟩:=xw h2 h3;have:=h1.cV;subst this;exact⟨n::ns,rfl,rfl⟩
   |_=>simp[ue]at h
theorem zu:∀(ns:List Int) (b:ByteArray),(ns.foldl (fun r n=>r.push (UInt8.ofNat n.toNat)) b).data.toList=b.data.toList++ns.map fun n=>UInt8.ofNat n.toNat
 |[],b=>by simp
 |n::ns,b=>by
  simp only[List.foldl_cons,aG];rw[zu ns];simp[ByteArray.push]
theorem ZU(hf:Fr fb V g w B e tmps)(hi:Inv CR base g σ w){x:Operand}{X:ba}{t u el:TypeId}(hx:aW x=some X)
  (ht:P.underlying t=some (.slice el)) (hel:P.underlying el=some (.int .u8)) (hu:P.underlying u=some .string)
  (h:a7 e σ (.me .b2s [X])=some (d,σ')) (o:Oper) (ho:o.op=.convert t u x):dk P CR base g w B e (Act.mk tmps df).eval o d σ':=by
 have hr:=hf.aR (df:=df) hx;simp only[a7,aG,bf]at h;generalize hdx:aR e X=dx at hr h;have hns:∀s,dx ≠ .str s:=fun s hs=>by subst hs;simp[Vc]at h
 have h':(elems σ 1 dx).bind (fun r=>(ue r.2).map fun s=>(D.str s,σ))=some (d,σ'):=by
  cases dx<;>first | exact absurd rfl (hns _) | exact h
 simp only[ah,ab,Prod.exists,ai]at h';obtain⟨m,xs,he,s,hb,rfl,rfl⟩:=h';obtain⟨a,cap,vs,hc,h1,h2,h3,h4,h5⟩:=vA hi hr he hns;obtain⟨ns,rfl,rfl⟩:=xw h1 hb;simp only[mc,gZ]at h3;have hrun:∃b:ByteArray,(convert t u ((Act.mk tmps df).eval x)).run P w=.ok (.string b) w∧b.data.toList=ns.map fun n=>UInt8.ofNat n.toNat:=by
  rw[hc,run_convert_bytes_string w t u el a m cap ht hel hu];cases a with
  |none =>
   obtain rfl:=h4 rfl;obtain rfl:ns=[]:=by simpa using h3
   exact⟨.empty,by simp[Conv.bytesToString],rfl⟩
  |some a =>
   have hl:(loadCells a m).run P w=.ok (ns.map (Value.int .u8)).toArray w:=by
    have:=mX (P:=P) (w:=w) (wd:=1) (n:=m) (a:=some a) (cap:=cap) (vs:=ns.map (Value.int .u8)) h4 (by simpa using h3) h5 w rfl;simpa[Builtin.firstCells]using this
   refine⟨_,run_bytesToString w a m cap ns hl,?_⟩;rw[zu];rfl
 obtain⟨b,hrun,hb2⟩:=hrun;exact .pure hi (c:=.string b) (by simp[execOp,ho,hrun]) (bI.of (tk b hb2))
theorem aaj(hf:Fr fb V g w B e tmps)(hi:Inv CR base g σ w){x:Operand}{X:ba}{t u el:TypeId}(hx:aW x=some X)
  (ht:P.underlying t=some .string) (hel:P.underlying el=some (.int .u8)) (hu:P.underlying u=some (.slice el))
  (h:a7 e σ (.me .s2b [X])=some (d,σ')) (o:Oper) (ho:o.op=.convert t u x):dk P CR base g w B e (Act.mk tmps df).eval o d σ':=by
 have hr:=hf.aR (df:=df) hx;simp only[a7,aG,bf]at h;generalize aR e X=dx at hr h;cases dx<;>simp only[Vc,reduceCtorEq,ae,ai]at h;rename_i s;obtain⟨rfl,rfl⟩:=h;obtain⟨b,hb,rfl⟩:=hr.gQ;have hrun:=Lib.run_convert_string_bytes (P:=P) w t u el b ht hu hel;have hlen:b.data.toList.length=b.size:=by cases b;rfl
 obtain⟨i1,e1,r1⟩:=hi.KP (w':=Lib.bytesWorld w el b) (b.data.toList.map fun u => .int .u8 u.toNat) (Lib.bytesWorld_size w el b) (fun x hx=>Lib.bytesWorld_at_old w el b x hx) rfl rfl rfl (fun j x hj=>by
  have hj':j<b.size:=by have:=(an.1 hj).1;simpa[hlen]using this
  have h1:=Lib.bytesWorld_cell w el b j hj';have h2:x=.int .u8 (b.data.toList.getD j 0).toNat:=by
   simp only[cl,ab]at hj;obtain⟨u,hu,rfl⟩:=hj;simp[List.getD,hu]
  subst h2;exact⟨h1,rfl⟩)
 refine .val (.slice (some ⟨w.heap.size,0,none⟩) b.size (grownCap w b.size 0 el)) (by simp[execOp,ho,hb,hrun]) e1 i1 ?_;rw[hlen];refine .aE _ _ _ _ _ ?_ r1 (fun _=>rfl) (rK _ _);unfold grownCap;simp only[Question.cut];omega
theorem aai(hf:Fr fb V g w B e tmps)(hi:Inv CR base g σ w){x:Operand}{X:ba}{t el:TypeId}{n wd:Nat}(hx:aW x=some X)
  (ht:P.underlying t=some (.array n el)) (h:a7 e σ (.me (.s2a n wd) [X])=some (d,σ')) (o:Oper) (ho:o.op=.sliceToArrayPointer t x):dk P CR base g w B e (Act.mk tmps df).eval o d σ':=by
 have hr:=hf.aR (df:=df) hx;simp only[a7,aG,bf]at h;generalize aR e X=dx at hr h;cases dx<;>simp only[Vc,reduceCtorEq]at h;rename_i m cs;split at h
 case isFalse=>cases h
 rename_i hn;cases h;generalize hcv:(Act.mk tmps df).eval x=cv at hr;cases hr with
 |pN=>omega
 |aE _ _ a cap vs k1 k2 k3 k4 =>
  refine .pure hi (c:=.pointer (some a)) ?_ (bI.of ?_)
  ·have:¬m<n:=by omega
   simp[execOp,ho,hcv,Instr.arrayAt,aQ ht,this]
  ·obtain⟨bu,off,sp⟩:=a;have hsp:sp=none:=k3 (by omega);subst hsp;exact .aK _ _ _ (vs.take (n*wd)) (fun j v hv=>k2 j v (by
    rw[bZ]at hv;split at hv
    ·exact hv
    ·cases hv)) (k4.take _)
theorem TJ(hf:Fr fb V g w B e tmps)(hi:Inv CR base g σ w){x y:Operand}{X Y:ba}{t u el:TypeId}{neg:Bool}(hx:aW x=some X)(hy:aW y=some Y)(ht:P.underlying t=some (.pointer el))(hsz:(P.info? el).isSome)
  (h:a7 e σ (.me (.peq neg) [X,Y])=some (d,σ')) (o:Oper) (ho:o.op=.binOp (if neg then .neq else .eql) t x y u):dk P CR base g w B e (Act.mk tmps df).eval o d σ':=by
 have hr:=hf.aR (df:=df) hx;have hr':=hf.aR (df:=df) hy;simp only[a7,aG,bf]at h;generalize aR e X=dx at hr h;generalize aR e Y=dy at hr' h;cases dx<;>cases dy<;>simp only[Vc,reduceCtorEq]at h;rename_i l i v off l' i' v' off';split at h
 case isFalse=>cases h
 rename_i hc;obtain⟨rfl,rfl,rfl,rfl,hc⟩:=hc;cases h;obtain⟨cs,hcs⟩:=b8.1 hc;unfold cells? at hcs;split at hcs
 case h_2=>cases hcs
 rename_i v' cs' hblk;split at hcs
 case isFalse=>cases hcs
 rename_i hv;subst hv;cases hcs;obtain⟨j,hj⟩:=b8.1 hsz;generalize hcv:(Act.mk tmps df).eval x=cv at hr;generalize hcw:(Act.mk tmps df).eval y=cw at hr';cases hr with
 |ref _ _ _ _ b o1 L k1 k2 k3 k4 =>
 cases hr' with
 |ref _ _ _ _ b' o2 L' k1' k2' k3' k4' =>
 rw[k1]at k1';cases k1';obtain⟨b0,hb0,hrel⟩:=hi.o8 _ _ _ k1;rw[hblk]at hb0;cases hb0;cases L with
 |dead=>exact hrel.elim
 |lp z=>exact hrel.elim
 |mp z=>exact k2.elim
 |it z=>exact k2.elim
 |ob z _=>exact k2.elim
 |kg v2=>obtain⟨rfl,_⟩:=hrel;exact absurd rfl k4
 |«at» bu bo v2 zR =>
  obtain⟨rfl,_⟩:=hrel;obtain⟨rfl,rfl⟩:=k3 _ _ _ rfl;obtain⟨rfl,rfl⟩:=k3' _ _ _ rfl;have hne:=Lib.run_neq_ptr_same (P:=P) w ⟨b',bo+off,none⟩ ht hj;cases neg
  ·have heq:(binOp .eql t (.pointer (some ⟨b',bo+off,none⟩)) (.pointer (some ⟨b',bo+off,none⟩))).run P w=.ok (.bool true) w:=by
    have h:∀d:Nat,(Op.equalIn (d+1) t (.pointer (some ⟨b',bo+off,none⟩)) (.pointer (some ⟨b',bo+off,none⟩))).run P w=.ok true w:=fun d=>by
     simp[Op.equalIn,run_underlying ht,sizeOf,typeInfo,hj,run_sameAddr_same]
    simp only[binOp];simp[Op.equal,Op.maxDepth,h 9999]
   refine .pure hi (c:=.bool true) ?_ (bI.of (.bool _));simp[execOp,ho,hcv,hcw,eqGuard,heq]
  ·refine .pure hi (c:=.bool false) ?_ (bI.of (.bool _));simp[execOp,ho,hcv,hcw,eqGuard,hne]
end
theorem KW{w:World}{b k:Nat}{ca:Array Value}{el:TypeId}(hb:w.heap[b]?=some (.cells ca el (0,0))):(w.freeze ⟨b,k,none⟩ 1).heap[b]?=some (.cells ca el (k,k+1)):=by
 unfold World.freeze;rw[if_neg (by decide)];simp[kc,hb]
theorem rz{w:World}{b k b':Nat}(h:b'≠b):(w.freeze ⟨b,k,none⟩ 1).heap[b']?=w.heap[b']?:=by
 unfold World.freeze;rw[if_neg (by decide)];simp[kc,Ne.symm h]
theorem EM{w:World}{b k:Nat}:(w.freeze ⟨b,k,none⟩ 1).heap.size=w.heap.size:=by
 unfold World.freeze;rw[if_neg (by decide)];simp
section
variable {CR:dF} {base:Nat} {g:G} {σ:SK} {w:World}
theorem Inv.mark(hi:Inv CR base g σ w){l i v b o sz k:Nat}{cs:List D}(hL:g.loc l i=some (.at b o v sz))(hb:cM σ l i=some (.cells v cs)):
  ∃g' vs,Inv CR base g' (aN σ l i .dead) (w.freeze ⟨b,k,none⟩ 1)∧Ev g w g' (w.freeze ⟨b,k,none⟩ 1)∧g'.row b o vs∧aY g cs vs:=by
 obtain⟨b0,hb0,hrel⟩:=hi.o8 l i _ hL;rw[hb]at hb0;cases hb0;obtain⟨_,ca,el,hheap,hsz,hlen,vs,hr,hvs⟩:=hrel
 let g':G:=⟨fun l' i'=>if l'=l∧i'=i then some .dead else g.loc l' i',fun b' o'=>if b'=b then(if o≤o' then vs[o'-o]? else none)else g.jV b' o'⟩
 have hsame:g'.loc l i=some .dead:=by simp[g']
 have hother:∀l' i',¬(l'=l∧i'=i)→g'.loc l' i'=g.loc l' i':=fun l' i' c=>by simp only[g'];rw[if_neg c]
 have hnob:∀o',g.jV b o'=none:=hi.sep l i _ b hL rfl;have hle:g.le g':=by
  refine⟨fun l' i' L' e=>?_,fun b' o' x e=>?_⟩
  ·by_cases c:l'=l∧i'=i
   ·obtain⟨rfl,rfl⟩:=c;rw[hL]at e;cases e;exact⟨.dead,hsame,by simp[Loc.le]⟩
   ·exact⟨L',by rw[hother _ _ c];exact e,L'.le_refl⟩
  ·have:b'≠b:=fun h=>by subst h;rw[hnob]at e;cases e
   simp only[g'];rw[if_neg this];exact e
 have hms:(w.freeze ⟨b,k,none⟩ 1).heap.size=w.heap.size:=EM;have hfo:(w.freeze ⟨b,k,none⟩ 1).os=w.os∧(w.freeze ⟨b,k,none⟩ 1).tape=w.tape∧(w.freeze ⟨b,k,none⟩ 1).output=w.output:=by
  unfold World.freeze;rw[if_neg (by decide)];exact⟨rfl,rfl,rfl⟩
 refine⟨g',vs,hi.vg l i hle (fun l' i' c=>cN c) hother (fun l' i' L' b' c e eb=>?_) ?_ ?_ ?_ ?_ (Nat.le_of_eq hms.symm) ⟨.dead,by simp[g']⟩ (fun b' v' e=>?_),⟨hle,hfo.1,hfo.2.1,hfo.2.2,Nat.le_of_eq hms.symm,fun b' _ hn=>?_,?_,?_⟩,?_,hr⟩
 ·refine rz fun h=>?_
  subst h;exact c (hi.inj _ _ _ _ _ _ b' e hL eb rfl)
 ·intro L e;rw[hsame]at e;cases e;exact⟨_,jx hb,trivial⟩
 ·intro b' o' x e;simp only[g']at e;split at e
  ·rename_i hb';subst hb';split at e
   ·rename_i hoo;obtain⟨h1,h2⟩:=hvs _ x e;rw[show o+(o'-o)=o' from by omega]at h1;exact⟨by simp only[World.cell?,KW hheap];simpa using h1,h2⟩
   ·cases e
  ·rename_i hne;obtain⟨h1,h2⟩:=hi.jV b' o' x e;exact⟨(ep (rz hne)).trans h1,h2⟩
 ·intro l' i' L' b' e eb o';by_cases c:l'=l∧i'=i
  ·obtain⟨rfl,rfl⟩:=c;rw[hsame]at e;cases e;cases eb
  ·rw[hother _ _ c]at e;have:b'≠b:=fun h=>by subst h;exact c (hi.inj _ _ _ _ _ _ b' e hL eb rfl)
   simp only[g'];rw[if_neg this];exact hi.sep l' i' L' b' e eb o'
 ·intro L b' e eb;rw[hsame]at e;cases e;cases eb
 ·exact rz fun h=>by subst h;rw[hnob]at e;cases e
 ·exact rz fun h=>by subst h;exact hn ⟨l,i,_,hL,rfl⟩
 ·intro b' hb';obtain⟨l',i',L',e,eb⟩:=hb';by_cases c:l'=l∧i'=i
  ·obtain⟨rfl,rfl⟩:=c;rw[hsame]at e;cases e;cases eb
  ·rw[hother _ _ c]at e;exact .inl ⟨l',i',L',e,eb⟩
 ·intro b' o' x e;simp only[g']at e;split at e
  ·rename_i hb';subst hb';exact .inr (.inl ⟨l,i,_,hL,rfl⟩)
  ·exact .inl e
 ·intro j x hx;simp only[g',if_true];rw[if_pos (by omega),show o+j-o=j from by omega];exact hx
end
section
variable {P:Program} {CR:dF} {base fb:Nat} {V:List Nat} {g:G} {σ σ':SK} {w:World} {B:Nat→Nat} {e:Env} {tmps:Array Value} {df:List Deferred}
 {d:D}
theorem Z2(hf:Fr fb V g w B e tmps)(hi:Inv CR base g σ w){x:Operand}{X:ba}{t el:TypeId}(hx:aW x=some X)
  (ht:P.underlying t=some (.slice el)) (hel:P.underlying el=some (.int .u8))
  (h:a7 e σ (.Ur X)=some (d,σ')) (o:Oper) (ho:o.op=.convert t t x):dk P CR base g w B e (Act.mk tmps df).eval o d σ':=by
 have hr:=hf.aR (df:=df) hx;simp only[a7]at h;generalize aR e X=dx at hr h;cases dx<;>simp only[reduceCtorEq]at h;rename_i l i v off n wd;split at h
 case isFalse=>cases h
 rename_i hn;split at h
 case h_2=>cases h
 rename_i cs hcs;cases h;unfold cells? at hcs;split at hcs
 case h_2=>cases hcs
 rename_i v' cs' hblk;split at hcs
 case isFalse=>cases hcs
 rename_i hv;subst hv;cases hcs;generalize hcv:(Act.mk tmps df).eval x=cv at hr;cases hr with
 |sl _ _ _ _ _ _ a cap L h1 h2 h3 h4 h5 h6 h7 =>
 obtain⟨b0,hb0,hrel⟩:=hi.o8 l i L h1;rw[hblk]at hb0;cases hb0;cases L with
 |dead=>exact hrel.elim
 |lp z=>exact hrel.elim
 |mp z=>exact h2.elim
 |it z=>exact h2.elim
 |ob z _=>exact h2.elim
 |kg v2 =>
  obtain⟨rfl,_⟩:=hrel;have:=h4 (h7 rfl);omega
 |«at» b bo v2 sz =>
  have hrel':=hrel;obtain⟨rfl,ca,el',hheap,hsz,hlen,_⟩:=hrel';rcases h6 b bo sz rfl with⟨rfl,h8⟩ | h8
  case inr=>omega
  have hsh:w.shape? b=some (el',ca.size):=by unfold World.shape?;rw[hheap]
  have hrun:(convert t t (.slice (some ⟨b,bo+off,none⟩) n cap)).run P w=.ok (.slice (some ⟨b,bo+off,none⟩) n cap) (w.freeze ⟨b,ca.size,none⟩ 1):=by
   simp[convert,run_underlying ht,run_underlying hel,markStringish,hsh]
  obtain⟨g',vs,i1,e1,hrow,hrl⟩:=hi.mark (k:=ca.size) h1 hblk;refine .val (.slice (some ⟨b,bo+off,none⟩) n cap) (by simp[execOp,ho,hcv,hrun]) e1 i1 ?_;exact .aE _ _ _ _ ((vs.drop off).take (n*wd)) h3.1 (oW (qG hrow off) _) (fun _=>rfl) (((hrl.mono e1.le).drop off).take _)
end
end Go.Abs
