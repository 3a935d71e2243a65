import Derived.Test.YtpapbbojmclkgaaGreatDoorBase12
import Derived.Sort.EncStr
set_option linter.all false
namespace Go.aw
open Go
open Go.RowKit
structure akR(w:World)(b o:Nat)(us:List Value)(w':World):Prop where
 row:∀c el,w.heap[b]?=some (.cells c el (0,0))->o+us.length<=c.size->∃c',w'.heap[b]?=some (.cells c' el (0,0))/\c'.size=c.size /\
  ∀j,c'[j]?=if o<=j/\j<o+us.length then us[j-o]? else c[j]?
 other:∀x,x<w.heap.size->x≠b->w'.heap[x]?=w.heap[x]?
 size:w.heap.size<=w'.heap.size
 os:w'.os=w.os
 tape:w'.tape=w.tape
 output:w'.output=w.output
def ahU(P:Program)(f:Nat):Prop :=
 (∃F c,P.funcs[f]?=some F/\F.name ≠ "runtime.NumGoroutine" /\ F.body=some c) /\
 ∀(b o cap i j:Nat) (xs:List (List UInt8)) (w:World) (c:Array Value) (el:TypeId),w.heap[b]?=some (.cells c el (0,0))->o+xs.length<=c.size ->
  (∀k s,xs[k]?=some s->c[o+k]?=some (Go.Proofs.encStr s))->xs.length<4611686018427387904->xs.length<=cap->cap<=9223372036854775807->i<=j->j<=xs.length ->
  Calls P f #[.slice (some ⟨b,o,none⟩) xs.length cap,.int .i64 i,.int .i64 j] w λe w'=>e=.returned (.slice (some ⟨b,o,none⟩) (xs.length-(j-i)) cap)/\akR w b o ((Bs i j xs).map Go.Proofs.encStr) w'
theorem Md:∀{ds:List D} {xs:List (List UInt8)},xD ds=some xs->ds=xs.map .str
 |[],zs,h=>by cases h;rfl
 |d::ds,zs,h=>by
  cases d with
  |str s =>
   simp only[xD,ad]at h;obtain⟨l,h1,rfl⟩:=h;rw[Md h1];rfl
  |_=>simp[xD]at h
theorem Ri{g:G}:∀l:List (List UInt8),bS g (l.map .str) (l.map Go.Proofs.encStr)
 |[] => .nil
 |z::l => .cons _ _ _ _ (.str ⟨z.toArray⟩) (Ri l)
theorem Jv{a b:Nat}{xs:List (List UInt8)}(h1:a<=b)(h2:b<=xs.length):(Bs a b xs).length=xs.length:=by
 simp[Bs];omega
theorem alF{P:Program}(CR:fw){f:Nat}(hs:ahU P f):yn P CR 9 f:=by
 intro args J r h;simp only[EU,Nat.reduceMod]at h;split at h;all_goals first | cases h;done | skip
 all_goals try omega
 rename_i l i v off n w1 a b _;split at h
 case isFalse=>cases h
 rename_i hk;obtain⟨hn,rfl,hn2,h0a,hab,hbn⟩:=hk;split at h
 case h_2=>cases h
 rename_i cs hcs;split at h
 case isFalse=>cases h
 rename_i hlen;split at h
 case h_2=>cases h
 rename_i zs hzs;cases h;obtain⟨hfn,hsort⟩:=hs;obtain⟨p,rfl⟩:=Int.eq_ofNat_of_zero_le h0a;obtain⟨q,rfl⟩:=Int.eq_ofNat_of_zero_le (Int.le_trans h0a hab);simp only[Int.toNat_natCast]at *
 have⟨hab',hqn⟩:p<=q/\q<=n:=by omega
 have hz:=Md hzs;have hzl:zs.length=n:=by
  have:=congrArg List.length hz;simp at this;omega
 unfold cells? at hcs;split at hcs
 case h_2=>cases hcs
 rename_i v' cs' hblk;split at hcs
 case isFalse=>cases hcs
 rename_i hv;subst hv;cases hcs;have hdl:(Bs p q zs).length=zs.length:=Jv hab' (by omega);have hcl:∀m,D.ll m cs=true->D.ll m (cs.take off++(Bs p q zs).map .str++cs.drop (off+n))=true:=λm hm=>by
  have hi:D.ll m ((Bs p q zs).map D.str)=true:=by
   generalize Bs p q zs=l;induction l with
   |nil=>rfl
   |cons z l ih =>
    simp only[aL,D.ll,D.low,Bool.true_and]at ih ⊢;exact ih
  simp only[A6];exact⟨⟨IT hm,hi⟩,IS hm⟩
 refine⟨_,_,rfl,hfn,λbase g w vs hi hl hp hr=>?_⟩;have hgoes:fQ J (bw J l i (.cells v' (cs.take off++(Bs p q zs).map .str++cs.drop (off+n)))) :=
  ⟨dS,λh=>h.set λhlt=>hcl _ (h l i _ hblk hlt:aF.low (l+1) (.cells v' cs))⟩
 refine⟨hgoes,?_⟩;obtain⟨vs⟩:=vs;cases hr with
 |cons _ c0 _ cs0 hr1 hr2 =>
 cases hr2 with
 |cons _ c1 _ cs1 hr3 hr4 =>
 cases hr4 with
 |cons _ c2 _ cs2 hr5 hr6 =>
 cases hr6;cases hr3;cases hr5;cases hr1 with
 |sl _ _ _ _ _ _ a cap L k1 k2 k3 k4 k5 k6 k7 =>
 obtain⟨b1,hb1,hrel⟩:=hi.yr l i L k1;rw[hblk]at hb1;cases hb1;cases L with
 |dead=>exact hrel.elim
 |lp z=>exact hrel.elim
 |mp z=>exact k2.elim
 |it z=>exact k2.elim
 |ob z _=>exact k2.elim
 |nP v2 =>
  obtain⟨_,rfl⟩:=hrel;simp at hlen;omega
 |«at» dR bo v2 bsz =>
  obtain⟨rfl,ca,el,hheap,hcsz,hlen2,us,hru,hus⟩:=hrel;have hcap:cap≠0:=by omega
  have ha:a=some ⟨dR,bo+off,none⟩:=by
   rcases k6 dR bo bsz rfl with h | h
   .exact h.1
   .exact absurd h hcap
  subst ha;subst hzl;have hul:=hru.length;have hcell:∀j z,zs[j]?=some z->ca[bo+off+j]?=some (Go.Proofs.encStr z):=λj z hj=>by
   have h1:cs[off+j]?=some (.str z):=by
    have h2:((cs.drop off).take zs.length)[j]?=some (.str z):=by
     rw[hz];simp[hj]
    rw[dw]at h2;split at h2
    .rwa[dN]at h2
    .cases h2
   obtain⟨u,hu1,hu2⟩:=hru.get h1;have h3:u=Go.Proofs.encStr z:=by cases hu2 with | str b=>rfl
   subst h3;have:=(hus _ _ hu1).1;rwa[<- dO]at this
  have hbig:zs.length<4611686018427387904:=by omega
  have hc:=hsort dR (bo+off) cap p q zs w ca el hheap (by omega) hcell hbig k3.1 (by omega) hab' (by omega);intro cs1;obtain⟨e,w',fr,⟨he,hw⟩,h2,h3,h4⟩:=hc cs1;subst he;obtain⟨c',hb',hs',hc'⟩:=hw.row ca el hheap (by simp only[bK,hdl];omega);simp only[bK,hdl]at hc';have hle2:g.le (g.dc l i (.at dR bo v' bsz)):=G.jF λL0 e0=>by rw[k1]at e0;cases e0;exact Loc.le_refl _
  have hps:((Bs p q zs).map Go.Proofs.encStr).length=zs.length:=by simp[hdl]
  obtain⟨i2,e2⟩:=hi.setCells (w':=w') (L:=.at dR bo v' bsz) (v:=v') (ds:=cs.take off++(Bs p q zs).map .str++cs.drop (off+zs.length)) k1 hblk (Loc.le_refl _)
   ⟨rfl,c',el,hb',by rw[hs',hcsz],by simp[hdl];omega,us.take off++(Bs p q zs).map Go.Proofs.encStr++us.drop (off+zs.length),
    (((hru.take off).append (Ri _)).append (hru.drop _)).mono hle2,by
     have:=I4 (c:=ca) (c':=c') (bo:=bo) (off:=off) (vs:=us) (ps:=(Bs p q zs).map Go.Proofs.encStr) hus (by
      intro x hx;simp only[bO]at hx;obtain⟨z,_,rfl⟩:=hx;rfl) (by rw[hps];omega) (by rw[hps];exact hc')
     rw[hps]at this;exact this⟩
   (λb' hb' hne=>hw.other b' hb' (λhh=>hne (by rw[hh];rfl))) hw.os hw.tape hw.output hw.size (λb' hb' => .inl hb')
  refine⟨_,w',fr,⟨_,_,rfl,e2,i2,?_⟩,h2,h3,h4⟩;exact .sl _ _ _ _ _ _ _ _ (.at dR bo v' bsz) G.aM (aO _) (by omega) (by simp) (by rintro x hx hh;cases hx;rfl) (by rintro blk2 bo2 sz2 hh;cases hh;left;exact⟨rfl,by rcases k6 _ _ _ rfl with h | h<;>omega⟩) (by intro hh;cases hh)
