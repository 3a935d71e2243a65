import Derived.Test.YtklfdfnoebnciaaGreatDoorBase11
import Derived.Orders
set_option linter.all false
namespace Go.az
open Go
inductive EH:List (Nat×Op)->List Nat->List Op->Prop
 |nil:EH [] [] []
 |cons {pre post:List (Nat×Op)} {i:Nat} {x:Op} {is:List Nat} {ys:List Op}:(∀p∈pre,p.2.free x=true) ->
   EH (pre++post) is ys->EH (pre++(i,x)::post) (i::is) (x::ys)
theorem GY{O:bI}{R:List (Nat×Op)}{is:List Nat}{ys:List Op}(h:EH R is ys):∀{e e2:Env} {J J2:SK},kK O (R.map (·.2)) e J=some (e2,J2) ->
  ∃e2',kK O ys e J=some (e2',J2)/\EE e2 e2':=by
 induction h with
 |nil=>intro e e2 J J2 h;exact⟨e2,h,.refl _⟩
 |cons hp _ ih =>
  rename_i pre post i x is ys _;intro e e2 J J2 h;have h1:∃e3,kK O (x::((pre++post).map (·.2))) e J=some (e3,J2)/\EE e2 e3:=by
   simp only[List.map_append,aN]at h ⊢;exact Kx (λz hz=>by obtain⟨p,hp',rfl⟩:=bO.1 hz;exact hp p hp') h
  obtain⟨e3,h1,h2⟩:=h1;rw[ja]at h1;simp only[af,Prod.exists]at h1;obtain⟨e4,J4,h3,h4⟩:=h1;obtain⟨e5,h5,h6⟩:=ih h4;exact⟨e5,by rw[ja,h3];exact h5,h2.trans h6⟩
inductive Cc (t:Nat):List (Nat×Op)->List Nat->List Op->Prop
 |nil:Cc t [] [] []
 |cons {pre post:List (Nat×Op)} {i:Nat} {x:Op} {is:List Nat} {ys:List Op}:(∀p∈pre,p.2.free x=true)->(t<=i->pre=[]) ->
   Cc t (pre++post) is ys->Cc t (pre++(i,x)::post) (i::is) (x::ys)
theorem Cc.sched{t:Nat}{R:List (Nat×Op)}{is:List Nat}{ys:List Op}(h:Cc t R is ys):EH R is ys:=by
 induction h with
 |nil=>exact .nil
 |cons h1 _ _ ih=>exact .cons h1 ih
theorem Iz{R:List (Nat×Op)}{is:List Nat}{ys:List Op}(h:EH R is ys)(hR:R=[]):is=[]/\ys=[]:=by
 cases h with
 |nil=>exact⟨rfl,rfl⟩
 |cons=>simp at hR
theorem JB{t:Nat}{R:List (Nat×Op)}{is:List Nat}{ys:List Op}(h:Cc t R is ys):∀{A B:List (Nat×Op)},R=A++B->(∀p∈B,t<=p.1) ->
  ∃is1 ys1,is=is1++B.map (·.1)/\ys=ys1++B.map (·.2)/\EH A is1 ys1:=by
 induction h with
 |nil =>
  intro A B hR hB;obtain⟨rfl,rfl⟩:=List.nil_eq_append_iff.1 hR;exact⟨[],[],rfl,rfl,.nil⟩
 |cons h1 h2 h3 ih =>
  rename_i pre post i x is ys;intro A B hR hB;rcases List.append_eq_append_iff.1 hR with⟨A2,hA,hB2⟩ | ⟨p2,hp,hB2⟩
  ·
   cases A2 with
   |nil =>
    simp only[cC]at hA;subst hA;simp only[aY]at hB2;subst hB2;have hpre:A=[]:=h2 (hB (i,x) (by simp));subst hpre;obtain⟨is1,ys1,rfl,rfl,h4⟩:=ih (A:=[]) (B:=post) rfl (λp hp=>hB p (by simp[hp]));obtain⟨rfl,rfl⟩:=Iz h4 rfl;exact⟨[],[],by simp,by simp,.nil⟩
   |cons q A2 =>
    simp only[fg,gn]at hB2;obtain⟨rfl,rfl⟩:=hB2;subst hA;obtain⟨is1,ys1,rfl,rfl,h4⟩:=ih (A:=pre++A2) (B:=B) (by simp) hB;exact⟨i::is1,x::ys1,rfl,rfl,.cons h1 h4⟩
  .have hpre:pre=[]:=h2 (hB (i,x) (by rw[hB2];simp));subst hpre;obtain⟨rfl,rfl⟩:=List.nil_eq_append_iff.1 hp;simp only[aY]at hB2;subst hB2;obtain⟨is1,ys1,rfl,rfl,h4⟩:=ih (A:=[]) (B:=post) rfl (λp hp=>hB p (by simp[hp]));obtain⟨rfl,rfl⟩:=Iz h4 rfl;exact⟨[],[],by simp,by simp,.nil⟩
theorem Iy{R:List (Nat×Op)}{is:List Nat}{ys:List Op}(h:EH R is ys){S:Nat->Op->Prop}:(∀p∈R,S p.1 p.2)->vJ S is ys:=by
 induction h with
 |nil=>intro _;exact .nil
 |cons hp _ ih =>
  intro hS;exact .cons (hS (_,_) (by simp)) (ih λp hp=>hS p (by simp only[aZ,bw]at hp ⊢;rcases hp with h | h<;>simp[h]))
def bitsOf(acc:List Nat)(o:Oper):Nat:=o.after.toList.foldl (λs e=>if Region.binds .any e then s ||| 2^e.on ||| acc.getD e.on 0 else s) 0
theorem Gw(acc:List Nat):∀(l:List Edge) (s j:Nat),(l.foldl (λs e=>if Region.binds .any e then s ||| 2^e.on ||| acc.getD e.on 0 else s) s).testBit j=true ↔
  s.testBit j=true\/∃e∈l,Region.binds .any e=true/\(e.on=j\/(acc.getD e.on 0).testBit j=true)
 |[],s,j=>by simp
 |e::l,s,j=>by
  simp only[List.foldl_cons];rw[Gw acc l];by_cases hb:Region.binds .any e=true
  .simp only[hb,if_true,Nat.testBit_or,bW,Nat.testBit_two_pow,ao,bw,exists_eq_or_imp,true_and]
   grind
  .simp only[hb,bw,exists_eq_or_imp,false_and,false_or];simp
theorem LQ{acc:List Nat}{o:Oper}{j:Nat}:(bitsOf acc o).testBit j=true↔∃e∈o.after.toList,Region.binds .any e=true/\(e.on=j\/(acc.getD e.on 0).testBit j=true):=by
 unfold bitsOf;rw[Gw];simp
theorem zi:∀(l:List Oper) (acc:List Nat),∃ext,gI l acc=acc++ext/\ext.length=l.length /\
  ∀k o,l[k]?=some o->ext[k]?=some (bitsOf ((gI l acc).take (acc.length+k)) o)
 |[],acc=>⟨[],by simp[gI],rfl,λk o h=>by simp at h⟩
 |o::l,acc=>by
  obtain⟨ext,h1,h2,h3⟩:=zi l (acc++[bitsOf acc o]);have h0:gI (o::l) acc=gI l (acc++[bitsOf acc o]):=rfl;refine⟨bitsOf acc o::ext,by rw[h0,h1];simp,by simp[h2],λk o' hk=>?_⟩;cases k with
  |zero =>
   simp only[cc,ad]at hk;subst hk;rw[h0,h1];simp
  |succ k =>
   simp only[List.getElem?_cons_succ]at hk ⊢;rw[h3 k o' hk,h0];simp[dz,Nat.add_comm 1 k]
theorem LP{ops:List Oper}{i:Nat}{o:Oper}(h:ops[i]?=some o){j:Nat}(hj:((gI ops []).getD i 0).testBit j=true):
  ∃e∈o.after.toList,Region.binds .any e=true/\(e.on=j\/((gI ops []).getD e.on 0).testBit j=true):=by
 obtain⟨ext,h1,h2,h3⟩:=zi ops [];have h4:=h3 i o h;simp only[bj,cr]at h4;simp only[aY]at h1;rw[h1]at hj h4 ⊢;rw[List.getD_eq_getElem?_getD,h4]at hj;simp only[fj]at hj;obtain⟨e,he,hb,hc⟩:=LQ.1 hj;refine⟨e,he,hb,hc.imp id λhc=>?_⟩;rw[List.getD_eq_getElem?_getD]at hc ⊢;rw[dS]at hc;split at hc
 .exact hc
 .simp at hc
theorem IE{bs:List Nat}:∀{n j:Nat},zM.go bs n<=j->j<n->bs.getD j 0=2^j-1
 |0,j,h,hj=>by omega
 |n+1,j,h,hj=>by
  simp only[zM.go]at h;split at h
  .rename_i hb;by_cases hjn:j=n
   .subst hjn;exact hb
   .exact IE h (by omega)
  .omega
theorem J9{bs:List Nat}{i:Nat}{o:Op}:∀{l:List Op} {j:Nat},Gh.after bs i j o l=true->∀k p,l[k]?=some p->o.free p=true\/(bs.getD (j+k) 0).testBit i=true
 |[],j,h,k,p,hk=>by simp at hk
 |q::l,j,h,k,p,hk=>by
  simp only[Gh.after,ae,bW]at h;cases k with
  |zero=>simp only[cc,ad]at hk;subst hk;simpa using h.1
  |succ k =>
   have:=J9 h.2 k p (by simpa using hk);rwa[show j+1+k=j+(k+1)from by omega]at this
theorem Nk{bs:List Nat}:∀{l:List Op} {i:Nat},Gh bs i l=true->∀k p,l[k]?=some p->∀m q,l[m]?=some q->k<m->p.free q=true\/(bs.getD (i+m) 0).testBit (i+k)=true
 |[],i,h,k,p,hk=>by simp at hk
 |o::l,i,h,k,p,hk=>by
  simp only[Gh,ae]at h;obtain⟨h2,h3⟩:=h;cases k with
  |zero =>
   simp only[cc,ad]at hk;subst hk;intro m q hm hlt;cases m with
   |zero=>omega
   |succ m =>
    have:=J9 h2 m q (by simpa using hm);rwa[show i+1+m=i+(m+1)from by omega]at this
  |succ k =>
   have h5:=Nk h3 k p (by simpa using hk);intro m q hm hlt;cases m with
   |zero=>omega
   |succ m =>
    have:=h5 m q (by simpa using hm) (by omega);rwa[show i+1+m=i+(m+1)from by omega,show i+1+k=i+(k+1)from by omega]at this
theorem Kl:∀{l:List Oper} {i:Nat},Dg i l=true->∀k o,l[k]?=some o->∀e∈o.after.toList,Region.binds .any e=true->e.on<i+k
 |[],i,h,k,o,hk=>by simp at hk
 |o::l,i,h,k,o',hk=>by
  simp only[Dg,ae,gX]at h;cases k with
  |zero =>
   simp only[cc,ad]at hk;subst hk;intro e he hb;have:=h.1 e he;simpa[hb]using this
  |succ k =>
   intro e he hb;have:=Kl h.2 k o' (by simpa using hk) e he hb;omega
def Lq(n:Nat)(listed:Array Bool):List Nat:=(List.range n).filter λi => !listed.getD i true
theorem Sl{l:List Nat}{i:Nat}(hn:l.Pairwise (· < ·))(hi:i∈l):∃pre post,l=pre++i::post/\l.filter (λj=>decide (j≠i))=pre++post/\∀p∈pre,p<i:=by
 obtain⟨pre,post,rfl⟩:=List.append_of_mem hi;rw[List.pairwise_append]at hn;obtain⟨h1,h2,h3⟩:=hn;rw[List.pairwise_cons]at h2;refine⟨pre,post,rfl,?_,λp hp=>h3 p hp i (by simp)⟩;rw[List.filter_append,List.filter_cons];simp only[ne_eq,not_true,decide_false,ar,if_false];rw[List.filter_eq_self.2,List.filter_eq_self.2]
 .intro a ha;have:=h2.1 a ha;simp;omega
 .intro a ha;have:=h3 a ha i (by simp);simp;omega
theorem Dp{listed:Array Bool}{i:Nat}(h:i<listed.size):listed.getD i true=listed.getD i false:=by
 simp[bU,h]
theorem Ib{ops:Array Oper}{xs:List Op}(hlen:xs.length=ops.size)(hcalm:Gh (gI ops.toList []) 0 (xs.take (zM (gI ops.toList [])))=true)
  (hedges:Dg 0 ops.toList=true):∀(fuel t:Nat) (listed:Array Bool),listed.size=ops.size ->
  (∀i,listed.getD i false=true->∀j,((gI ops.toList []).getD i 0).testBit j=true->listed.getD j false=true)->(Lq ops.size listed).length<=fuel ->
  ∃ys,Cc (zM (gI ops.toList [])) ((Lq ops.size listed).map λi=>(i,(xs[i]?).getD default)) (Region.linearise.go .any ops fuel t listed []) ys
 |0,t,listed,hs,hcl,hf=>by
  have:Lq ops.size listed=[]:=by simpa using hf
  exact⟨[],by rw[this];exact .nil⟩
 |fuel+1,t,listed,hs,hcl,hf=>by
  have hbl:(gI ops.toList []).length=ops.size:=by
   obtain⟨ext,h1,h2,_⟩:=zi ops.toList [];rw[h1];simpa using h2
  have hsorted:(Lq ops.size listed).Pairwise (· < ·):=List.Pairwise.filter _ List.pairwise_lt_range;have hmemU:∀i,i∈Lq ops.size listed↔i<ops.size/\listed.getD i false=false:=by
   intro i;simp only[Lq,cF,List.mem_range,cG];constructor
   .rintro⟨h1,h2⟩;exact⟨h1,by rw[<- Dp (by omega)];exact h2⟩
   .rintro⟨h1,h2⟩;exact⟨h1,by rw[Dp (by omega)];exact h2⟩
  have hgo:Region.linearise.go .any ops (fuel+1) t listed []=match(Region.ready .any ops listed)[t%(Region.ready .any ops listed).length]? with
    |some i=>Region.linearise.go .any ops fuel (t / (Region.ready .any ops listed).length) (listed.setIfInBounds i true) [i]
    |none=>[]:=rfl
  rw[hgo];cases hU:Lq ops.size listed with
  |nil =>
   have hr:Region.ready .any ops listed=[]:=by
    rw[List.eq_nil_iff_forall_not_mem];intro j hj;rw[mem_ready]at hj;obtain⟨h0,o,ho,_⟩:=hj;have hlt:=(dR.1 ho).1;have:j∈Lq ops.size listed:=(hmemU j).2 ⟨hlt,by rw[<- Dp (by omega)];exact h0⟩;rw[hU]at this;cases this
   rw[hr];exact⟨[],.nil⟩
  |cons i0 U' =>
   have hi0:=(hmemU i0).1 (by rw[hU];simp);have hready0:i0∈Region.ready .any ops listed:=by
    rw[mem_ready];refine⟨by rw[Dp (by omega)];exact hi0.2,ops[i0]'hi0.1,by simp,λe he hb=>?_⟩;have hlt:=Kl hedges i0 (ops[i0]'hi0.1) (by simp[hi0.1]) e (by simpa using he) hb;cases hl:listed.getD e.on false with
    |true=>rfl
    |false =>
     have:e.on∈Lq ops.size listed:=(hmemU _).2 ⟨by omega,hl⟩;rw[hU]at this;rw[hU,List.pairwise_cons]at hsorted;rcases bw.1 this with h | h
     .omega
     .have:=hsorted.1 _ h;omega
   have hpos:0<(Region.ready .any ops listed).length:=List.length_pos_of_mem hready0;have hlt:=Nat.mod_lt t hpos;rw[aL hlt];dsimp only;generalize hie:(Region.ready .any ops listed)[t%(Region.ready .any ops listed).length]=i;have hi:i∈Region.ready .any ops listed:=by rw[<- hie];exact List.getElem_mem hlt
   rw[mem_ready]at hi;obtain⟨h0,o,ho,hall⟩:=hi;have hin:=(dR.1 ho).1;have hiU:i∈Lq ops.size listed:=(hmemU i).2 ⟨hin,by rw[<- Dp (by omega)];exact h0⟩;have hbits:∀j,((gI ops.toList []).getD i 0).testBit j=true->listed.getD j false=true:=by
    intro j hj;obtain⟨e,he,hb,hc⟩:=LP (ops:=ops.toList) (i:=i) (o:=o) (by simpa using ho) hj;have hl:=hall e (by simpa using he) hb;rcases hc with rfl | hc
    .exact hl
    .exact hcl _ hl _ hc
   obtain⟨pre,post,hsp,hfl,hlt'⟩:=Sl hsorted hiU;have hU2:Lq ops.size (listed.setIfInBounds i true)=pre++post:=by
    rw[<- hfl];simp only[Lq,List.filter_filter];apply List.filter_congr;intro j hj;by_cases hji:j=i
    .subst hji;simp[show j<listed.size from by omega]
    .rw[getD_set_ne true (Ne.symm hji)];simp[hji]
   have hcl2:∀i',(listed.setIfInBounds i true).getD i' false=true->∀j,((gI ops.toList []).getD i' 0).testBit j=true->(listed.setIfInBounds i true).getD j false=true:=by
    intro i' hi' j hj;by_cases hii:i'=i
    .subst hii;exact getD_set_true (hbits j hj)
    .rw[getD_set_ne false (Ne.symm hii)]at hi';exact getD_set_true (hcl i' hi' j hj)
   obtain⟨ys,hys⟩:=Ib hlen hcalm hedges fuel (t / (Region.ready .any ops listed).length) (listed.setIfInBounds i true) (by simpa using hs) hcl2 (by
    have:(Lq ops.size listed).length=(pre++i::post).length:=by rw[hsp]
    rw[hU2];simp at this ⊢;omega)
   rw[linearise_go_acc];refine⟨(xs[i]?).getD default::ys,?_⟩;rw[<- hU,hsp];simp only[List.map_append,aN,List.reverse_cons,List.reverse_nil,aY,eG];have hxi:∃x,xs[i]?=some x:=⟨xs[i]'(by omega),by simp[show i<xs.length from by omega]⟩;obtain⟨x,hx⟩:=hxi;have hpre:∀p∈pre,i<zM (gI ops.toList []):=by
    intro p hp;rcases Nat.lt_or_ge i (zM (gI ops.toList []))with h | h
    .exact h
    .have hb:=IE (bs:=gI ops.toList []) (n:=(gI ops.toList []).length) h (by omega);have hpU:=(hmemU p).1 (by rw[hsp];simp[hp]);have:=hbits p (by rw[hb,Nat.testBit_two_pow_sub_one];simpa using hlt' p hp);rw[this]at hpU;cases hpU.2
   refine .cons ?_ (λhti=>?_) ?_
   rotate_left
   .cases pre with
    |nil=>rfl
    |cons p pre=>have:=hpre p (by simp);omega
   rotate_left
   .intro p hp;obtain⟨j,hj,rfl⟩:=bO.1 hp;have hjn:=(hmemU j).1 (by rw[hsp];simp[hj]);have hjx:xs[j]?=some (xs[j]'(by omega)):=by simp[show j<xs.length from by omega]
    have hit:=hpre j hj;have hji:=hlt' j hj;rw[hx,hjx];simp only[fj];rcases Nk hcalm j _ (by rw[dS,if_pos (by omega)];exact hjx) i x (by rw[dS,if_pos hit];exact hx) hji with h | h
    .exact h
    .simp only[cr]at h;have:=hbits j h;rw[this]at hjn;cases hjn.2
   .rw[hU2]at hys;simpa using hys
theorem Fq{J:SK}{l i:Nat}{b:aI}(h:dn J l i=some b):l<J.length:=by
 unfold dn at h;cases hs:eZ J l with
 |none=>simp[hs]at h
 |some s=>exact zH hs
theorem D4{J:SK}{l i:Nat}:dn ([]::J) l i=dn J l i:=by
 simp only[dn,eZ];split
 .rename_i h;subst h;cases hs:eZ J J.length with
  |none=>simp
  |some s=>exact absurd (zH hs) (Nat.lt_irrefl _)
 .rfl
theorem Gc{s:List aI}{J:SK}{l i:Nat}(h:l<J.length):dn (s::J) l i=dn J l i:=by
 simp only[dn,eZ];rw[if_neg (by omega)]
section
variable {CR:eJ} {base:Nat} {g g':G} {J J':SK} {w w':World}
theorem Inv.lvl(hi:Inv CR base g J w){l i:Nat}{L:Loc}(h:g.loc l i=some L):l<J.length:=by
 obtain⟨b,hb,_⟩:=hi.vQ l i L h;exact Fq hb
theorem Inv.push(hi:Inv CR base g J w):Inv CR base g ([]::J) w :=
 {hi with vQ:=λl i L e=>by rw[D4];exact hi.vQ l i L e,N8:=λl i b e=>by rw[D4]at e;exact hi.N8 l i b e }
theorem E3.low{n:Nat}(hn:∀l i L,g.loc l i=some L->l<n){b:aI}{L:Loc}(h:E3 CR g w b L):b.low n:=by
 cases b with
 |cells v cs =>
  cases L with
  |«at» x off v' sz=>obtain⟨_,c,el,_,_,_,vs,hr,_⟩:=h;exact bA.low hn hr
  |oG v'=>obtain⟨_,rfl⟩:=h;rfl
  |dead=>exact h.elim
  |lp x=>exact h.elim
  |mp x=>obtain⟨_,cK,clock,_,hr,_⟩:=h;exact bA.low hn hr
  |it x =>
   obtain⟨_,l,i,bm,n',js,rfl,h2,_⟩:=h;have hl:=hn l i _ h2;simp only[aI.low,D.mY,D.low,ae,ao,Bool.true_and];refine⟨hl,?_⟩;rw[AQ];intro d hd;obtain⟨j,_,rfl⟩:=bO.1 hd;rfl
  |ob x y=>obtain⟨_,T,e,bs,p,s,rfl,_⟩:=h;rfl
 |dead=>trivial
 |loop lp =>
  cases L with
  |lp x =>
   obtain⟨r,_,hr⟩:=h;exact λt=>bB.low hn (hr.env t)
  |«at» x off v' sz=>exact h.elim
  |oG v'=>exact h.elim
  |dead=>exact h.elim
  |mp x=>exact h.elim
  |it x=>exact h.elim
  |ob x _=>exact h.elim
theorem pV.push(hi:Inv CR base g J w)(h:pV J):pV ([]::J):=by
 intro l i b e hl;rw[D4]at e;have hlt:=Fq e;by_cases h1:l+1<J.length
 .exact h l i b e h1
 .obtain⟨L,hL⟩:=hi.N8 l i b e;obtain⟨b',hb',hr⟩:=hi.vQ l i L hL;rw[e]at hb';cases hb';rw[show l+1=J.length from by omega];exact hr.low λl i L h=>hi.lvl h
theorem E3.cut{n:Nat}{b:aI}{L:Loc}(h:E3 CR g w b L)(hl:b.low n):E3 CR (g.cut n) w b L:=by
 cases b with
 |cells v cs =>
  cases L with
  |«at» x off v' sz=>obtain⟨h1,c,el,h2,h3,h4,vs,hr,h5⟩:=h;exact⟨h1,c,el,h2,h3,h4,vs,hr.cut hl,h5⟩
  |oG v'=>exact h
  |dead=>exact h
  |lp x=>exact h
  |mp x=>obtain⟨hv,cK,clock,h1,hr,h2⟩:=h;exact⟨hv,cK,clock,h1,hr.cut hl,h2⟩
  |it x =>
   obtain⟨hv,l,i,bm,n',js,rfl,h2,h3⟩:=h;simp only[aI.low,D.mY,D.low,ae,ao]at hl;exact⟨hv,l,i,bm,n',js,rfl,(G.rZ hl.1).trans h2,h3⟩
  |ob x y=>exact h
 |dead=>cases L<;>exact h
 |loop lp =>
  cases L with
  |lp x =>
   obtain⟨r,h1,hr⟩:=h;exact⟨r,h1,{hr with env:=λt=>(hr.env t).cut (hl t) }⟩
  |«at» x off v' sz=>exact h
  |oG v'=>exact h
  |dead=>exact h
  |mp x=>exact h
  |it x=>exact h
  |ob x _=>exact h
theorem aI.AR{n m:Nat}(h:n<=m){b:aI}(hb:b.low n):b.low m:=by
 cases b with
 |cells v cs=>exact ri h hb
 |dead=>trivial
 |loop lp=>exact λt=>az.AR h (hb t)
theorem Inv.pop{s:List aI}(hi:Inv CR base g (s::J) w)(h:pV (s::J)):Inv CR base (g.cut J.length) J w/\pV J:=by
 refine⟨⟨hi.ge,λl i L e=>?_,hi.oc,λl i L b e=>hi.sep l i L b (G.wD e).2,λl i L l' i' L' b e e'=>hi.inj l i L l' i' L' b (G.wD e).2 (G.wD e').2,
  λl i L b e=>hi.lo l i L b (G.wD e).2,λl i b e=>?_,hi.Jb⟩,λl i b e hl=>?_⟩
 .obtain⟨hl,e⟩:=G.wD e;obtain⟨b,hb,hr⟩:=hi.vQ l i L e;have hlow:=h l i b hb (by simp;omega);rw[Gc hl]at hb;exact⟨b,hb,hr.cut (aI.AR (by omega) hlow)⟩
 .have hl:=Fq e;rw[<- Gc (s:=s) hl]at e;obtain⟨L,hL⟩:=hi.N8 l i b e;exact⟨L,by rw[G.rZ hl];exact hL⟩
 .have hl':=Fq e;rw[<- Gc (s:=s) hl']at e;exact h l i b e (by simp;omega)
theorem Ev.cut{n:Nat}(h:Ev g w g' w')(hn:∀l i L,g.loc l i=some L->l<n):Ev g w (g'.cut n) w' where
 le:=⟨λl i L e=>by rw[G.rZ (hn l i L e)];exact h.le.loc l i L e,h.le.oc⟩
 os:=h.os
 tape:=h.tape
 output:=h.output
 size:=h.size
 kept:=h.kept
 PC b hb:=by
  obtain⟨l,i,L,e,eb⟩:=hb;exact h.PC b ⟨l,i,L,(G.wD e).2,eb⟩
 Ht:=h.Ht
theorem G.Ft{n b:Nat}(h:(g.cut n).has b):g.has b:=by
 obtain⟨l,i,L,e,eb⟩:=h;exact⟨l,i,L,(G.wD e).2,eb⟩
theorem Inv.NH(hi:Inv CR base g J w){l i:Nat}{lp:wk}(hn:fJ J (.loop lp)=some (l,i,J'))(r:Loop)
  (hr:y8 CR g lp r):
  Inv CR base (g.cj l i (.lp w.heap.size)) J' (w.alloc (.loop r))/\Ev g w (g.cj l i (.lp w.heap.size)) (w.alloc (.loop r)):=by
 obtain⟨h1,h2,h3,_,_⟩:=iW hn;have hnone:=hi.Bp h1;have hle:g.le (g.cj l i (.lp w.heap.size)):=G.jg λL0 e=>by rw[hnone]at e;cases e
 refine⟨hi.DM l i hle h3 (λl' i' c=>G.bz c) (λl' i' L b c e eb=>alloc_old (hi.lo l' i' L b e eb).2) ?_ ?_ ?_ ?_ (by simp) ⟨_,G.aE⟩ (λb v hb=>alloc_old (hi.ir hb)),⟨hle,rfl,rfl,rfl,by simp,λb hb _=>alloc_old hb,?_,λb o v hv => .inl hv⟩⟩
 .intro L e;rw[G.aE]at e;cases e;exact⟨_,h2,r,sN,{hr with env:=hr.env.mono hle }⟩
 .intro b o v e;obtain⟨h1,h2⟩:=hi.oc b o v e;exact⟨(gq (alloc_old (hi.ir e))).trans h1,h2⟩
 .intro l' i' L b e eb o;by_cases c:l'=l/\i'=i
  .obtain⟨rfl,rfl⟩:=c;rw[G.aE]at e;cases e;cases eb;cases e':(g.cj l' i' (.lp w.heap.size)).oc w.heap.size o with
   |none=>rfl
   |some v=>have:=hi.ir (b:=w.heap.size) (o:=o) (v:=v) e';omega
  .rw[G.bz c]at e;exact hi.sep l' i' L b e eb o
 .intro L b e eb;rw[G.aE]at e;cases e;cases eb;refine⟨hi.ge,by simp,λl' i' L' c e' eb'=>?_⟩;have:=(hi.lo l' i' L' _ e' eb').2;omega
 .intro b hb;obtain⟨l',i',L,e,eb⟩:=hb;by_cases c:l'=l/\i'=i
  .obtain⟨rfl,rfl⟩:=c;rw[G.aE]at e;cases e;cases eb;exact .inr (aH _)
  .rw[G.bz c]at e;exact .inl ⟨l',i',L,e,eb⟩
theorem Inv.JC(hi:Inv CR base g J w){l i lb:Nat}{lp0 lp:wk}(hL:g.loc l i=some (.lp lb))(hb:dn J l i=some (.loop lp0)){r:Loop}(hr:y8 CR g lp r):
  Inv CR base g (aR J l i (.loop lp)) (w.putObj lb (.loop r))/\Ev g w g (w.putObj lb (.loop r)):=by
 have hlt:=(hi.lo l i _ lb hL rfl).2;have hoth:∀b,b≠lb->(w.putObj lb (.loop r)).heap[b]?=w.heap[b]?:=λb hne=>World.putObj_heap_other hne
 refine⟨hi.DM l i g.le_refl (λl' i' c=>dI c) (λ_ _ _=>rfl) ?_ ?_ ?_ hi.sep ?_ (by simp) ⟨_,hL⟩ ?_,⟨g.le_refl,rfl,rfl,rfl,by simp,λb _ hn=>?_,λb hb => .inl hb,λb o v hv => .inl hv⟩⟩
 .intro l' i' L b c e eb;refine hoth b λh=>c ?_
  subst h;exact hi.inj l' i' L l i _ b e hL eb rfl
 .intro L e;rw[hL]at e;cases e;exact⟨_,na hb,r,World.putObj_heap_same hlt,hr⟩
 .intro b o v e;obtain⟨h1,h2⟩:=hi.oc b o v e;refine⟨(gq (hoth b λh=>?_)).trans h1,h2⟩;subst h;have:=hi.sep l i _ b hL rfl o;rw[e]at this;cases this
 .intro L b e eb;rw[hL]at e;cases e;cases eb;refine⟨(hi.lo l i _ lb hL rfl).1,by simpa using hlt,λl' i' L' c e' eb'=>c ?_⟩;exact hi.inj l' i' L' l i _ lb e' hL eb' rfl
 .intro b v hb;refine hoth b λh=>?_
  subst h;have:=hi.sep l i _ b hL rfl 0;rw[hb]at this;cases this
 .refine hoth b λh=>hn ⟨l,i,_,hL,by rw[h];rfl⟩
end
theorem get_map{live:List Nat}{f:D->D}{e:Env}(hf:f .undef=.undef){t:Nat}:get (live.map λt=>(t,f (get e t))) t=if t∈live then f (get e t)else .undef:=by
 induction live with
 |nil=>simp[get]
 |cons u live ih =>
  simp only[aN,get,bw];by_cases h:u=t
  .subst h;simp
  .rw[if_neg h,ih];by_cases h2:t∈live
   .rw[if_pos h2,if_pos (.inr h2)]
   .rw[if_neg h2,if_neg (by intro h3;rcases h3 with h3 | h3;exact h h3.symm;exact h2 h3)]
theorem Dq{live:List Nat}{e:Env}{t:Nat}:get (restrict live e) t=if t∈live then(get e t).calm else .undef:=get_map rfl
theorem L8{live:List Nat}{e:Env}{t:Nat}:get (wX live e) t=if t∈live then(get e t).strip else .undef:=get_map rfl
section
variable {fb:Nat} {V:List Nat} {g:G} {w:World} {B:Nat->Nat} {e:Env} {tmps:Array Value}
theorem QI{d:D}{s:Nat}{cs:List D}(h:d.calm=.own s cs):∃s',d=.own s' cs:=by
 cases d<;>simp only[D.calm,reduceCtorEq,D.own.injEq]at h;exact⟨_,by rw[h.2]⟩
theorem Fr.restrict(hf:Fr fb V g w B e tmps)(live:List Nat):Fr fb V g w B (restrict live e) tmps:=by
 have hown:∀t s cs,get (az.restrict live e) t=.own s cs->∃s',get e t=.own s' cs:=by
  intro t s cs h;rw[Dq]at h;split at h
  .exact QI h
  .cases h
 refine⟨λt=>?_,λt s cs h=>?_,λt t' s s' cs cs' h h'=>?_⟩
 .rw[Dq];split
  .have:=hf.rel t;cases hd:get e t<;>rw[hd]at this<;>simp only[D.calm]<;>first | exact this | exact bB.undef _ | trivial
  .exact bB.undef _
 .obtain⟨s',h⟩:=hown t s cs h;exact hf.own t s' cs h
 .obtain⟨_,h⟩:=hown _ _ _ h;obtain⟨_,h'⟩:=hown _ _ _ h';exact hf.inj _ _ _ _ _ _ h h'
theorem Fr.wX(hf:Fr fb V g w B e tmps)(live:List Nat):xU g (wX live e) tmps:=λt=>by
 rw[L8];split
 .exact hf.strip t
 .exact .undef _
theorem At.restrict{CR:eJ}{base n:Nat}{g0:G}{w0:World}{b:Frame}{J:SK}{a:Act}(ha:At CR base V g0 w0 n b g w B e J a)(live:List Nat):At CR base V g0 w0 n b g w B (restrict live e) J a :=
 {ha with fr:=ha.fr.restrict live }
theorem At.draw{CR:eJ}{base n:Nat}{g0:G}{w0:World}{b:Frame}{J:SK}{a:Act}(ha:At CR base V g0 w0 n b g w B e J a)(w1:World)(h:w1.heap=w.heap)(ho:w1.os=w.os)(ht:w1.tape=w.tape)(hp:w1.output=w.output):
  At CR base V g0 w0 n b g w1 B e J a :=
 ha.go (Ev.heap g h ho ht hp) (ha.inv.heap h) (.refl J) (ha.fr.ev (Ev.heap g h ho ht hp)) rfl rfl
def kW(fb:Nat)(V:List Nat)(g:G)(w:World)(B:Nat->Nat)(e0:Env)(tmps:Array Value)(p:Nat×D):Prop :=
 match p.2 with
 |.own s cs=>(∃s' cs',get e0 p.1=.own s' cs')/\p.1∈V/\tmps.getD p.1 Go.undef=.pointer (some ⟨B p.1,0,none⟩)/\G8 fb g w (B p.1) cs
 |d=>bB g d (tmps.getD p.1 Go.undef)
theorem kW.ev{e0:Env}{p:Nat×D}{g':G}{w':World}(h:kW fb V g w B e0 tmps p)(he:Ev g w g' w'):kW fb V g' w' B e0 tmps p:=by
 obtain⟨t,d⟩:=p;unfold kW at h ⊢;dsimp only at h ⊢;split
 .obtain⟨h1,h2,h3,h4⟩:=h;exact⟨h1,h2,h3,h4.ev he⟩
 .rename_i hd;cases d with
  |own s cs=>exact absurd rfl (hd s cs)
  |_=>exact h.mono he.le
theorem get_mem{e:Env}{t:Nat}:get e t=.undef\/(t,get e t)∈e:=by
 induction e with
 |nil=>exact .inl rfl
 |cons p e ih =>
  obtain⟨k,v⟩:=p;simp only[get];split
  .rename_i h;subst h;exact .inr (by simp)
  .exact ih.imp id λh=>by simp[h]
theorem Fr.cK(hf:Fr fb V g w B e tmps)(live:List Nat):∀p∈az.restrict live e,kW fb V g w B e tmps p:=by
 intro p hp;simp only[az.restrict,bO]at hp;obtain⟨t,_,rfl⟩:=hp;unfold kW;dsimp only;cases hd:get e t with
 |own s cs =>
  obtain⟨h1,h2,h3⟩:=hf.own t s cs hd;exact⟨⟨s,cs,rfl⟩,h1,h2,h3⟩
 |vr=>exact .undef _
 |emp=>exact .undef _
 |_=>have:=hf.rel t;rw[hd]at this;exact this
theorem kW.fr(hf:Fr fb V g w B e tmps){g':G}{w':World}{e':Env}(h:∀p∈e',kW fb V g' w' B e tmps p):Fr fb V g' w' B e' tmps:=by
 refine⟨λt=>?_,λt s cs hg=>?_,λt t' s s' cs cs' hg hg' hB=>?_⟩
 .rcases get_mem (e:=e') (t:=t)with hm | hm
  .rw[hm];exact bB.undef _
  .have:=h _ hm;unfold kW at this;dsimp only at this;cases hd:get e' t with
   |own s cs=>trivial
   |vr=>rw[hd]at this;cases this
   |emp=>rw[hd]at this;cases this
   |_=>rw[hd]at this;exact this
 .rcases get_mem (e:=e') (t:=t)with hm | hm
  .rw[hm]at hg;cases hg
  .have:=h _ hm;rw[hg]at this;exact⟨this.2.1,this.2.2.1,this.2.2.2⟩
 .have h1:∃s cs,get e t=.own s cs:=by
   rcases get_mem (e:=e') (t:=t)with hm | hm
   .rw[hm]at hg;cases hg
   .have:=h _ hm;rw[hg]at this;exact this.1
  have h2:∃s cs,get e t'=.own s cs:=by
   rcases get_mem (e:=e') (t:=t')with hm | hm
   .rw[hm]at hg';cases hg'
   .have:=h _ hm;rw[hg']at this;exact this.1
  obtain⟨_,_,h1⟩:=h1;obtain⟨_,_,h2⟩:=h2;exact hf.inj _ _ _ _ _ _ h1 h2 hB
theorem NL{g:G}{d:D}{c:Value}(h:bB g d c)(s:Nat)(cs:List D):d ≠ .own s cs:=by intro e;subst e;cases h
theorem kW.of{e0:Env}{t:Nat}{d:D}(h:bB g d (tmps.getD t Go.undef)):kW fb V g w B e0 tmps (t,d):=by
 unfold kW;dsimp only;split
 .cases h
 .exact h
theorem TM{l n s:Nat}{cs:List D}{J:SK}:cn l (n+1) (.own s cs) J=if(D.own s cs).clean then(.own s cs,J)else(.own s (cn.frzL (cn l n) cs J).1,(cn.frzL (cn l n) cs J).2):=by
 simp only[cn]
theorem I7{CR:eJ}{base:Nat}{e0:Env}(l:Nat):∀(es:Env) (J:SK) (g:G),Inv CR base g J w->(∀p∈es,kW fb V g w B e0 tmps p) ->
  ∃g',Inv CR base g' (pw l es J).2 w/\Ev g w g' w/\∀p∈(pw l es J).1,kW fb V g' w B e0 tmps p
 |[],J,g,hi,h=>⟨g,hi,Ev.refl g w,by simp[pw]⟩
 |(t,d)::es,J,g,hi,h=>by
  have h1:∃g1,Inv CR base g1 (cn l deep d J).2 w/\Ev g w g1 w/\kW fb V g1 w B e0 tmps (t,(cn l deep d J).1):=by
   have h0:=h (t,d) (by simp);cases hd:d with
   |own s cs =>
    subst hd;obtain⟨k1,k2,k3,k4⟩:=h0;rw[show cn l deep (.own s cs) J=cn l (15+1) (.own s cs) J from rfl,TM];split
    .exact⟨g,hi,Ev.refl g w,k1,k2,k3,k4⟩
    .obtain⟨ca,el,hb,hr,h1c⟩:=k4.cT;obtain⟨g1,i1,e1,r1⟩:=zr (CR:=CR) (base:=base) (yk l 15) cs J g w _ hi hr;have k5:=k4.ev e1;exact⟨g1,i1,e1,k1,k2,k3,k5.lo,k5.free,k5.rz,ca,el,hb,r1,h1c⟩
   |_ =>
    rw[hd]at h0;obtain⟨g1,i1,e1,r1⟩:=yk (CR:=CR) (base:=base) l deep _ J g w _ hi h0;exact⟨g1,i1,e1,kW.of r1⟩
  obtain⟨g1,i1,e1,k1⟩:=h1;obtain⟨g2,i2,e2,k2⟩:=I7 l es (cn l deep d J).2 g1 i1 λp hp=>(h p (by simp[hp])).ev e1
  refine⟨g2,i2,e1.trans e2,λp hp=>?_⟩;simp only[pw]at hp;rcases bw.1 hp with rfl | hp
  .exact k1.ev e2
  .exact k2 p hp
end
end Go.az
