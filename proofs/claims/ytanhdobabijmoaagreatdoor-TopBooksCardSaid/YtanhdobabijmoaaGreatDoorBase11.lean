import Derived.Test.YtanhdobabijmoaaGreatDoorBase10
import Derived.Orders
set_option linter.all false
namespace Go.aA
open Go
inductive GB:List (Nat×Op)->List Nat->List Op->Prop
 |nil:GB [] [] []
 |cons {pre post:List (Nat×Op)} {i:Nat} {x:Op} {is:List Nat} {ys:List Op}:(∀p∈pre,p.2.free x=true) ->
   GB (pre++post) is ys->GB (pre++(i,x)::post) (i::is) (x::ys)
theorem I7{O:bS}{R:List (Nat×Op)}{is:List Nat}{ys:List Op}(h:GB R is ys):∀{e e2:Env} {J J2:SK},lW O (R.map (·.2)) e J=some (e2,J2) ->
  ∃e2',lW O ys e J=some (e2',J2)/\Gz e2 e2':=by
 induction h with
 |nil=>intro e e2 J J2 h;exact⟨e2,h,.refl _⟩
 |cons hp _ ih =>
  rename_i pre post i x is ys _;intro e e2 J J2 h;have h1:∃e3,lW O (x::((pre++post).map (·.2))) e J=some (e3,J2)/\Gz e2 e3:=by
   simp only[List.map_append,aR]at h ⊢;exact Nd (λz hz=>by obtain⟨p,hp',rfl⟩:=bN.1 hz;exact hp p hp') h
  obtain⟨e3,h1,h2⟩:=h1;rw[jL]at h1;simp only[ah,Prod.exists]at h1;obtain⟨e4,J4,h3,h4⟩:=h1;obtain⟨e5,h5,h6⟩:=ih h4;exact⟨e5,by rw[jL,h3];exact h5,h2.trans h6⟩
inductive DQ (t:Nat):List (Nat×Op)->List Nat->List Op->Prop
 |nil:DQ t [] [] []
 |cons {pre post:List (Nat×Op)} {i:Nat} {x:Op} {is:List Nat} {ys:List Op}:(∀p∈pre,p.2.free x=true)->(t<=i->pre=[]) ->
   DQ t (pre++post) is ys->DQ t (pre++(i,x)::post) (i::is) (x::ys)
theorem DQ.sched{t:Nat}{R:List (Nat×Op)}{is:List Nat}{ys:List Op}(h:DQ t R is ys):GB R is ys:=by
 induction h with
 |nil=>exact .nil
 |cons h1 _ _ ih=>exact .cons h1 ih
theorem KU{R:List (Nat×Op)}{is:List Nat}{ys:List Op}(h:GB R is ys)(hR:R=[]):is=[]/\ys=[]:=by
 cases h with
 |nil=>exact⟨rfl,rfl⟩
 |cons=>simp at hR
theorem L6{t:Nat}{R:List (Nat×Op)}{is:List Nat}{ys:List Op}(h:DQ t R is ys):∀{A B:List (Nat×Op)},R=A++B->(∀p∈B,t<=p.1) ->
  ∃is1 ys1,is=is1++B.map (·.1)/\ys=ys1++B.map (·.2)/\GB A is1 ys1:=by
 induction h with
 |nil =>
  intro A B hR hB;obtain⟨rfl,rfl⟩:=List.nil_eq_append_iff.1 hR;exact⟨[],[],rfl,rfl,.nil⟩
 |cons h1 h2 h3 ih =>
  rename_i pre post i x is ys;intro A B hR hB;rcases List.append_eq_append_iff.1 hR with⟨A2,hA,hB2⟩ | ⟨p2,hp,hB2⟩
  ·
   cases A2 with
   |nil =>
    simp only[ct]at hA;subst hA;simp only[aQ]at hB2;subst hB2;have hpre:A=[]:=h2 (hB (i,x) (by simp));subst hpre;obtain⟨is1,ys1,rfl,rfl,h4⟩:=ih (A:=[]) (B:=post) rfl (λp hp=>hB p (by simp[hp]));obtain⟨rfl,rfl⟩:=KU h4 rfl;exact⟨[],[],by simp,by simp,.nil⟩
   |cons q A2 =>
    simp only[cM,ig]at hB2;obtain⟨rfl,rfl⟩:=hB2;subst hA;obtain⟨is1,ys1,rfl,rfl,h4⟩:=ih (A:=pre++A2) (B:=B) (by simp) hB;exact⟨i::is1,x::ys1,rfl,rfl,.cons h1 h4⟩
  .have hpre:pre=[]:=h2 (hB (i,x) (by rw[hB2];simp));subst hpre;obtain⟨rfl,rfl⟩:=List.nil_eq_append_iff.1 hp;simp only[aQ]at hB2;subst hB2;obtain⟨is1,ys1,rfl,rfl,h4⟩:=ih (A:=[]) (B:=post) rfl (λp hp=>hB p (by simp[hp]));obtain⟨rfl,rfl⟩:=KU h4 rfl;exact⟨[],[],by simp,by simp,.nil⟩
theorem KT{R:List (Nat×Op)}{is:List Nat}{ys:List Op}(h:GB R is ys){S:Nat->Op->Prop}:(∀p∈R,S p.1 p.2)->xz S is ys:=by
 induction h with
 |nil=>intro _;exact .nil
 |cons hp _ ih =>
  intro hS;exact .cons (hS (_,_) (by simp)) (ih λp hp=>hS p (by simp only[ba,aY]at hp ⊢;rcases hp with h | h<;>simp[h]))
def bitsOf(acc:List Nat)(o:Oper):Nat:=o.after.toList.foldl (λs e=>if Region.binds .any e then s ||| 2^e.on ||| acc.getD e.on 0 else s) 0
theorem IH(acc:List Nat):∀(l:List Edge) (s j:Nat),(l.foldl (λs e=>if Region.binds .any e then s ||| 2^e.on ||| acc.getD e.on 0 else s) s).testBit j=true ↔
  s.testBit j=true\/∃e∈l,Region.binds .any e=true/\(e.on=j\/(acc.getD e.on 0).testBit j=true)
 |[],s,j=>by simp
 |e::l,s,j=>by
  simp only[List.foldl_cons];rw[IH acc l];by_cases hb:Region.binds .any e=true
  .simp only[hb,if_true,Nat.testBit_or,bY,Nat.testBit_two_pow,au,aY,exists_eq_or_imp,true_and]
   grind
  .simp only[hb,aY,exists_eq_or_imp,false_and,false_or];simp
theorem OS{acc:List Nat}{o:Oper}{j:Nat}:(bitsOf acc o).testBit j=true↔∃e∈o.after.toList,Region.binds .any e=true/\(e.on=j\/(acc.getD e.on 0).testBit j=true):=by
 unfold bitsOf;rw[IH];simp
theorem AZ:∀(l:List Oper) (acc:List Nat),∃ext,iF l acc=acc++ext/\ext.length=l.length /\
  ∀k o,l[k]?=some o->ext[k]?=some (bitsOf ((iF l acc).take (acc.length+k)) o)
 |[],acc=>⟨[],by simp[iF],rfl,λk o h=>by simp at h⟩
 |o::l,acc=>by
  obtain⟨ext,h1,h2,h3⟩:=AZ l (acc++[bitsOf acc o]);have h0:iF (o::l) acc=iF l (acc++[bitsOf acc o]):=rfl;refine⟨bitsOf acc o::ext,by rw[h0,h1];simp,by simp[h2],λk o' hk=>?_⟩;cases k with
  |zero =>
   simp only[bT,ad]at hk;subst hk;rw[h0,h1];simp
  |succ k =>
   simp only[List.getElem?_cons_succ]at hk ⊢;rw[h3 k o' hk,h0];simp[di,Nat.add_comm 1 k]
theorem OR{ops:List Oper}{i:Nat}{o:Oper}(h:ops[i]?=some o){j:Nat}(hj:((iF ops []).getD i 0).testBit j=true):
  ∃e∈o.after.toList,Region.binds .any e=true/\(e.on=j\/((iF ops []).getD e.on 0).testBit j=true):=by
 obtain⟨ext,h1,h2,h3⟩:=AZ ops [];have h4:=h3 i o h;simp only[aV,cJ]at h4;simp only[aQ]at h1;rw[h1]at hj h4 ⊢;rw[List.getD_eq_getElem?_getD,h4]at hj;simp only[eS]at hj;obtain⟨e,he,hb,hc⟩:=OS.1 hj;refine⟨e,he,hb,hc.imp id λhc=>?_⟩;rw[List.getD_eq_getElem?_getD]at hc ⊢;rw[eH]at hc;split at hc
 .exact hc
 .simp at hc
theorem KY{bs:List Nat}:∀{n j:Nat},BD.go bs n<=j->j<n->bs.getD j 0=2^j-1
 |0,j,h,hj=>by omega
 |n+1,j,h,hj=>by
  simp only[BD.go]at h;split at h
  .rename_i hb;by_cases hjn:j=n
   .subst hjn;exact hb
   .exact KY h (by omega)
  .omega
theorem MR{bs:List Nat}{i:Nat}{o:Op}:∀{l:List Op} {j:Nat},Ip.after bs i j o l=true->∀k p,l[k]?=some p->o.free p=true\/(bs.getD (j+k) 0).testBit i=true
 |[],j,h,k,p,hk=>by simp at hk
 |q::l,j,h,k,p,hk=>by
  simp only[Ip.after,ae,bY]at h;cases k with
  |zero=>simp only[bT,ad]at hk;subst hk;simpa using h.1
  |succ k =>
   have:=MR h.2 k p (by simpa using hk);rwa[show j+1+k=j+(k+1)from by omega]at this
theorem Qq{bs:List Nat}:∀{l:List Op} {i:Nat},Ip bs i l=true->∀k p,l[k]?=some p->∀m q,l[m]?=some q->k<m->p.free q=true\/(bs.getD (i+m) 0).testBit (i+k)=true
 |[],i,h,k,p,hk=>by simp at hk
 |o::l,i,h,k,p,hk=>by
  simp only[Ip,ae]at h;obtain⟨h2,h3⟩:=h;cases k with
  |zero =>
   simp only[bT,ad]at hk;subst hk;intro m q hm hlt;cases m with
   |zero=>omega
   |succ m =>
    have:=MR h2 m q (by simpa using hm);rwa[show i+1+m=i+(m+1)from by omega]at this
  |succ k =>
   have h5:=Qq h3 k p (by simpa using hk);intro m q hm hlt;cases m with
   |zero=>omega
   |succ m =>
    have:=h5 m q (by simpa using hm) (by omega);rwa[show i+1+m=i+(m+1)from by omega,show i+1+k=i+(k+1)from by omega]at this
theorem M3:∀{l:List Oper} {i:Nat},EX i l=true->∀k o,l[k]?=some o->∀e∈o.after.toList,Region.binds .any e=true->e.on<i+k
 |[],i,h,k,o,hk=>by simp at hk
 |o::l,i,h,k,o',hk=>by
  simp only[EX,ae,dX]at h;cases k with
  |zero =>
   simp only[bT,ad]at hk;subst hk;intro e he hb;have:=h.1 e he;simpa[hb]using this
  |succ k =>
   intro e he hb;have:=M3 h.2 k o' (by simpa using hk) e he hb;omega
def Ow(n:Nat)(listed:Array Bool):List Nat:=(List.range n).filter λi => !listed.getD i true
theorem Vz{l:List Nat}{i:Nat}(hn:l.Pairwise (· < ·))(hi:i∈l):∃pre post,l=pre++i::post/\l.filter (λj=>decide (j≠i))=pre++post/\∀p∈pre,p<i:=by
 obtain⟨pre,post,rfl⟩:=List.append_of_mem hi;rw[List.pairwise_append]at hn;obtain⟨h1,h2,h3⟩:=hn;rw[List.pairwise_cons]at h2;refine⟨pre,post,rfl,?_,λp hp=>h3 p hp i (by simp)⟩;rw[List.filter_append,List.filter_cons];simp only[ne_eq,not_true,decide_false,az,if_false];rw[List.filter_eq_self.2,List.filter_eq_self.2]
 .intro a ha;have:=h2.1 a ha;simp;omega
 .intro a ha;have:=h3 a ha i (by simp);simp;omega
theorem E4{listed:Array Bool}{i:Nat}(h:i<listed.size):listed.getD i true=listed.getD i false:=by
 simp[cg,h]
theorem KD{ops:Array Oper}{xs:List Op}(hlen:xs.length=ops.size)(hcalm:Ip (iF ops.toList []) 0 (xs.take (BD (iF ops.toList [])))=true)
  (hedges:EX 0 ops.toList=true):∀(fuel t:Nat) (listed:Array Bool),listed.size=ops.size ->
  (∀i,listed.getD i false=true->∀j,((iF ops.toList []).getD i 0).testBit j=true->listed.getD j false=true)->(Ow ops.size listed).length<=fuel ->
  ∃ys,DQ (BD (iF ops.toList [])) ((Ow ops.size listed).map λi=>(i,(xs[i]?).getD default)) (Region.linearise.go .any ops fuel t listed []) ys
 |0,t,listed,hs,hcl,hf=>by
  have:Ow ops.size listed=[]:=by simpa using hf
  exact⟨[],by rw[this];exact .nil⟩
 |fuel+1,t,listed,hs,hcl,hf=>by
  have hbl:(iF ops.toList []).length=ops.size:=by
   obtain⟨ext,h1,h2,_⟩:=AZ ops.toList [];rw[h1];simpa using h2
  have hsorted:(Ow ops.size listed).Pairwise (· < ·):=List.Pairwise.filter _ List.pairwise_lt_range;have hmemU:∀i,i∈Ow ops.size listed↔i<ops.size/\listed.getD i false=false:=by
   intro i;simp only[Ow,cX,List.mem_range,cY];constructor
   .rintro⟨h1,h2⟩;exact⟨h1,by rw[<- E4 (by omega)];exact h2⟩
   .rintro⟨h1,h2⟩;exact⟨h1,by rw[E4 (by omega)];exact h2⟩
  have hgo:Region.linearise.go .any ops (fuel+1) t listed []=match(Region.ready .any ops listed)[t%(Region.ready .any ops listed).length]? with
    |some i=>Region.linearise.go .any ops fuel (t / (Region.ready .any ops listed).length) (listed.setIfInBounds i true) [i]
    |none=>[]:=rfl
  rw[hgo];cases hU:Ow ops.size listed with
  |nil =>
   have hr:Region.ready .any ops listed=[]:=by
    rw[List.eq_nil_iff_forall_not_mem];intro j hj;rw[mem_ready]at hj;obtain⟨h0,o,ho,_⟩:=hj;have hlt:=(dA.1 ho).1;have:j∈Ow ops.size listed:=(hmemU j).2 ⟨hlt,by rw[<- E4 (by omega)];exact h0⟩;rw[hU]at this;cases this
   rw[hr];exact⟨[],.nil⟩
  |cons i0 U' =>
   have hi0:=(hmemU i0).1 (by rw[hU];simp);have hready0:i0∈Region.ready .any ops listed:=by
    rw[mem_ready];refine⟨by rw[E4 (by omega)];exact hi0.2,ops[i0]'hi0.1,by simp,λe he hb=>?_⟩;have hlt:=M3 hedges i0 (ops[i0]'hi0.1) (by simp[hi0.1]) e (by simpa using he) hb;cases hl:listed.getD e.on false with
    |true=>rfl
    |false =>
     have:e.on∈Ow ops.size listed:=(hmemU _).2 ⟨by omega,hl⟩;rw[hU]at this;rw[hU,List.pairwise_cons]at hsorted;rcases aY.1 this with h | h
     .omega
     .have:=hsorted.1 _ h;omega
   have hpos:0<(Region.ready .any ops listed).length:=List.length_pos_of_mem hready0;have hlt:=Nat.mod_lt t hpos;rw[aC hlt];dsimp only;generalize hie:(Region.ready .any ops listed)[t%(Region.ready .any ops listed).length]=i;have hi:i∈Region.ready .any ops listed:=by rw[<- hie];exact List.getElem_mem hlt
   rw[mem_ready]at hi;obtain⟨h0,o,ho,hall⟩:=hi;have hin:=(dA.1 ho).1;have hiU:i∈Ow ops.size listed:=(hmemU i).2 ⟨hin,by rw[<- E4 (by omega)];exact h0⟩;have hbits:∀j,((iF ops.toList []).getD i 0).testBit j=true->listed.getD j false=true:=by
    intro j hj;obtain⟨e,he,hb,hc⟩:=OR (ops:=ops.toList) (i:=i) (o:=o) (by simpa using ho) hj;have hl:=hall e (by simpa using he) hb;rcases hc with rfl | hc
    .exact hl
    .exact hcl _ hl _ hc
   obtain⟨pre,post,hsp,hfl,hlt'⟩:=Vz hsorted hiU;have hU2:Ow ops.size (listed.setIfInBounds i true)=pre++post:=by
    rw[<- hfl];simp only[Ow,List.filter_filter];apply List.filter_congr;intro j hj;by_cases hji:j=i
    .subst hji;simp[show j<listed.size from by omega]
    .rw[getD_set_ne true (Ne.symm hji)];simp[hji]
   have hcl2:∀i',(listed.setIfInBounds i true).getD i' false=true->∀j,((iF ops.toList []).getD i' 0).testBit j=true->(listed.setIfInBounds i true).getD j false=true:=by
    intro i' hi' j hj;by_cases hii:i'=i
    .subst hii;exact getD_set_true (hbits j hj)
    .rw[getD_set_ne false (Ne.symm hii)]at hi';exact getD_set_true (hcl i' hi' j hj)
   obtain⟨ys,hys⟩:=KD hlen hcalm hedges fuel (t / (Region.ready .any ops listed).length) (listed.setIfInBounds i true) (by simpa using hs) hcl2 (by
    have:(Ow ops.size listed).length=(pre++i::post).length:=by rw[hsp]
    rw[hU2];simp at this ⊢;omega)
   rw[linearise_go_acc];refine⟨(xs[i]?).getD default::ys,?_⟩;rw[<- hU,hsp];simp only[List.map_append,aR,List.reverse_cons,List.reverse_nil,aQ,cf];have hxi:∃x,xs[i]?=some x:=⟨xs[i]'(by omega),by simp[show i<xs.length from by omega]⟩;obtain⟨x,hx⟩:=hxi;have hpre:∀p∈pre,i<BD (iF ops.toList []):=by
    intro p hp;rcases Nat.lt_or_ge i (BD (iF ops.toList []))with h | h
    .exact h
    .have hb:=KY (bs:=iF ops.toList []) (n:=(iF ops.toList []).length) h (by omega);have hpU:=(hmemU p).1 (by rw[hsp];simp[hp]);have:=hbits p (by rw[hb,Nat.testBit_two_pow_sub_one];simpa using hlt' p hp);rw[this]at hpU;cases hpU.2
   refine .cons ?_ (λhti=>?_) ?_
   rotate_left
   .cases pre with
    |nil=>rfl
    |cons p pre=>have:=hpre p (by simp);omega
   rotate_left
   .intro p hp;obtain⟨j,hj,rfl⟩:=bN.1 hp;have hjn:=(hmemU j).1 (by rw[hsp];simp[hj]);have hjx:xs[j]?=some (xs[j]'(by omega)):=by simp[show j<xs.length from by omega]
    have hit:=hpre j hj;have hji:=hlt' j hj;rw[hx,hjx];simp only[eS];rcases Qq hcalm j _ (by rw[eH,if_pos (by omega)];exact hjx) i x (by rw[eH,if_pos hit];exact hx) hji with h | h
    .exact h
    .simp only[cJ]at h;have:=hbits j h;rw[this]at hjn;cases hjn.2
   .rw[hU2]at hys;simpa using hys
theorem Hm{J:SK}{l i:Nat}{b:aO}(h:dG J l i=some b):l<J.length:=by
 unfold dG at h;cases hs:fw J l with
 |none=>simp[hs]at h
 |some s=>exact By hs
theorem FX{J:SK}{l i:Nat}:dG ([]::J) l i=dG J l i:=by
 simp only[dG,fw];split
 .rename_i h;subst h;cases hs:fw J J.length with
  |none=>simp
  |some s=>exact absurd (By hs) (Nat.lt_irrefl _)
 .rfl
theorem Ij{s:List aO}{J:SK}{l i:Nat}(h:l<J.length):dG (s::J) l i=dG J l i:=by
 simp only[dG,fw];rw[if_neg (by omega)]
section
variable {CR:eP} {base:Nat} {g g':G} {J J':SK} {w w':World}
theorem Inv.lvl(hi:Inv CR base g J w){l i:Nat}{L:Loc}(h:g.loc l i=some L):l<J.length:=by
 obtain⟨b,hb,_⟩:=hi.xq l i L h;exact Hm hb
theorem Inv.push(hi:Inv CR base g J w):Inv CR base g ([]::J) w :=
 {hi with xq:=λl i L e=>by rw[FX];exact hi.xq l i L e,HA:=λl i b e=>by rw[FX]at e;exact hi.HA l i b e }
theorem GX.low{n:Nat}(hn:∀l i L,g.loc l i=some L->l<n){b:aO}{L:Loc}(h:GX CR g w b L):b.low n:=by
 cases b with
 |cells v cs =>
  cases L with
  |«at» x off v' sz=>obtain⟨_,c,el,_,_,_,vs,hr,_⟩:=h;exact bF.low hn hr
  |qG v'=>obtain⟨_,rfl⟩:=h;rfl
  |dead=>exact h.elim
  |lp x=>exact h.elim
  |mp x=>obtain⟨_,dn,clock,_,hr,_⟩:=h;exact bF.low hn hr
  |it x =>
   obtain⟨_,l,i,bm,n',js,rfl,h2,_⟩:=h;have hl:=hn l i _ h2;simp only[aO.low,D.nC,D.low,ae,au,Bool.true_and];refine⟨hl,?_⟩;rw[CD];intro d hd;obtain⟨j,_,rfl⟩:=bN.1 hd;rfl
  |ob x y=>obtain⟨_,T,e,bs,p,s,rfl,_⟩:=h;rfl
 |dead=>trivial
 |loop lp =>
  cases L with
  |lp x =>
   obtain⟨r,_,hr⟩:=h;exact λt=>bH.low hn (hr.env t)
  |«at» x off v' sz=>exact h.elim
  |qG v'=>exact h.elim
  |dead=>exact h.elim
  |mp x=>exact h.elim
  |it x=>exact h.elim
  |ob x _=>exact h.elim
theorem sj.push(hi:Inv CR base g J w)(h:sj J):sj ([]::J):=by
 intro l i b e hl;rw[FX]at e;have hlt:=Hm e;by_cases h1:l+1<J.length
 .exact h l i b e h1
 .obtain⟨L,hL⟩:=hi.HA l i b e;obtain⟨b',hb',hr⟩:=hi.xq l i L hL;rw[e]at hb';cases hb';rw[show l+1=J.length from by omega];exact hr.low λl i L h=>hi.lvl h
theorem GX.cut{n:Nat}{b:aO}{L:Loc}(h:GX CR g w b L)(hl:b.low n):GX CR (g.cut n) w b L:=by
 cases b with
 |cells v cs =>
  cases L with
  |«at» x off v' sz=>obtain⟨h1,c,el,h2,h3,h4,vs,hr,h5⟩:=h;exact⟨h1,c,el,h2,h3,h4,vs,hr.cut hl,h5⟩
  |qG v'=>exact h
  |dead=>exact h
  |lp x=>exact h
  |mp x=>obtain⟨hv,dn,clock,h1,hr,h2⟩:=h;exact⟨hv,dn,clock,h1,hr.cut hl,h2⟩
  |it x =>
   obtain⟨hv,l,i,bm,n',js,rfl,h2,h3⟩:=h;simp only[aO.low,D.nC,D.low,ae,au]at hl;exact⟨hv,l,i,bm,n',js,rfl,(G.tB hl.1).trans h2,h3⟩
  |ob x y=>exact h
 |dead=>cases L<;>exact h
 |loop lp =>
  cases L with
  |lp x =>
   obtain⟨r,h1,hr⟩:=h;exact⟨r,h1,{hr with env:=λt=>(hr.env t).cut (hl t) }⟩
  |«at» x off v' sz=>exact h
  |qG v'=>exact h
  |dead=>exact h
  |mp x=>exact h
  |it x=>exact h
  |ob x _=>exact h
theorem aO.CE{n m:Nat}(h:n<=m){b:aO}(hb:b.low n):b.low m:=by
 cases b with
 |cells v cs=>exact sQ h hb
 |dead=>trivial
 |loop lp=>exact λt=>aA.CE h (hb t)
theorem Inv.pop{s:List aO}(hi:Inv CR base g (s::J) w)(h:sj (s::J)):Inv CR base (g.cut J.length) J w/\sj J:=by
 refine⟨⟨hi.ge,λl i L e=>?_,hi.pM,λl i L b e=>hi.sep l i L b (G.ym e).2,λl i L l' i' L' b e e'=>hi.inj l i L l' i' L' b (G.ym e).2 (G.ym e').2,
  λl i L b e=>hi.lo l i L b (G.ym e).2,λl i b e=>?_,hi.LC⟩,λl i b e hl=>?_⟩
 .obtain⟨hl,e⟩:=G.ym e;obtain⟨b,hb,hr⟩:=hi.xq l i L e;have hlow:=h l i b hb (by simp;omega);rw[Ij hl]at hb;exact⟨b,hb,hr.cut (aO.CE (by omega) hlow)⟩
 .have hl:=Hm e;rw[<- Ij (s:=s) hl]at e;obtain⟨L,hL⟩:=hi.HA l i b e;exact⟨L,by rw[G.tB hl];exact hL⟩
 .have hl':=Hm e;rw[<- Ij (s:=s) hl']at e;exact h l i b e (by simp;omega)
theorem Ev.cut{n:Nat}(h:Ev g w g' w')(hn:∀l i L,g.loc l i=some L->l<n):Ev g w (g'.cut n) w' where
 le:=⟨λl i L e=>by rw[G.tB (hn l i L e)];exact h.le.loc l i L e,h.le.pM⟩
 os:=h.os
 tape:=h.tape
 output:=h.output
 size:=h.size
 kept:=h.kept
 SS b hb:=by
  obtain⟨l,i,L,e,eb⟩:=hb;exact h.SS b ⟨l,i,L,(G.ym e).2,eb⟩
 JI:=h.JI
theorem G.Ho{n b:Nat}(h:(g.cut n).has b):g.has b:=by
 obtain⟨l,i,L,e,eb⟩:=h;exact⟨l,i,L,(G.ym e).2,eb⟩
theorem Inv.QQ(hi:Inv CR base g J w){l i:Nat}{lp:xZ}(hn:fR J (.loop lp)=some (l,i,J'))(r:Loop)
  (hr:AN CR g lp r):
  Inv CR base (g.cA l i (.lp w.heap.size)) J' (w.alloc (.loop r))/\Ev g w (g.cA l i (.lp w.heap.size)) (w.alloc (.loop r)):=by
 obtain⟨h1,h2,h3,_,_⟩:=jI hn;have hnone:=hi.C6 h1;have hle:g.le (g.cA l i (.lp w.heap.size)):=G.jS λL0 e=>by rw[hnone]at e;cases e
 refine⟨hi.FA l i hle h3 (λl' i' c=>G.bD c) (λl' i' L b c e eb=>alloc_old (hi.lo l' i' L b e eb).2) ?_ ?_ ?_ ?_ (by simp) ⟨_,G.aK⟩ (λb v hb=>alloc_old (hi.jb hb)),⟨hle,rfl,rfl,rfl,by simp,λb hb _=>alloc_old hb,?_,λb o v hv => .inl hv⟩⟩
 .intro L e;rw[G.aK]at e;cases e;exact⟨_,h2,r,ug,{hr with env:=hr.env.mono hle }⟩
 .intro b o v e;obtain⟨h1,h2⟩:=hi.pM b o v e;exact⟨(iq (alloc_old (hi.jb e))).trans h1,h2⟩
 .intro l' i' L b e eb o;by_cases c:l'=l/\i'=i
  .obtain⟨rfl,rfl⟩:=c;rw[G.aK]at e;cases e;cases eb;cases e':(g.cA l' i' (.lp w.heap.size)).pM w.heap.size o with
   |none=>rfl
   |some v=>have:=hi.jb (b:=w.heap.size) (o:=o) (v:=v) e';omega
  .rw[G.bD c]at e;exact hi.sep l' i' L b e eb o
 .intro L b e eb;rw[G.aK]at e;cases e;cases eb;refine⟨hi.ge,by simp,λl' i' L' c e' eb'=>?_⟩;have:=(hi.lo l' i' L' _ e' eb').2;omega
 .intro b hb;obtain⟨l',i',L,e,eb⟩:=hb;by_cases c:l'=l/\i'=i
  .obtain⟨rfl,rfl⟩:=c;rw[G.aK]at e;cases e;cases eb;exact .inr (aL _)
  .rw[G.bD c]at e;exact .inl ⟨l',i',L,e,eb⟩
theorem Inv.L8(hi:Inv CR base g J w){l i lb:Nat}{lp0 lp:xZ}(hL:g.loc l i=some (.lp lb))(hb:dG J l i=some (.loop lp0)){r:Loop}(hr:AN CR g lp r):
  Inv CR base g (aZ J l i (.loop lp)) (w.putObj lb (.loop r))/\Ev g w g (w.putObj lb (.loop r)):=by
 have hlt:=(hi.lo l i _ lb hL rfl).2;have hoth:∀b,b≠lb->(w.putObj lb (.loop r)).heap[b]?=w.heap[b]?:=λb hne=>World.putObj_heap_other hne
 refine⟨hi.FA l i g.le_refl (λl' i' c=>ej c) (λ_ _ _=>rfl) ?_ ?_ ?_ hi.sep ?_ (by simp) ⟨_,hL⟩ ?_,⟨g.le_refl,rfl,rfl,rfl,by simp,λb _ hn=>?_,λb hb => .inl hb,λb o v hv => .inl hv⟩⟩
 .intro l' i' L b c e eb;refine hoth b λh=>c ?_
  subst h;exact hi.inj l' i' L l i _ b e hL eb rfl
 .intro L e;rw[hL]at e;cases e;exact⟨_,oK hb,r,World.putObj_heap_same hlt,hr⟩
 .intro b o v e;obtain⟨h1,h2⟩:=hi.pM b o v e;refine⟨(iq (hoth b λh=>?_)).trans h1,h2⟩;subst h;have:=hi.sep l i _ b hL rfl o;rw[e]at this;cases this
 .intro L b e eb;rw[hL]at e;cases e;cases eb;refine⟨(hi.lo l i _ lb hL rfl).1,by simpa using hlt,λl' i' L' c e' eb'=>c ?_⟩;exact hi.inj l' i' L' l i _ lb e' hL eb' rfl
 .intro b v hb;refine hoth b λh=>?_
  subst h;have:=hi.sep l i _ b hL rfl 0;rw[hb]at this;cases this
 .refine hoth b λh=>hn ⟨l,i,_,hL,by rw[h];rfl⟩
end
theorem get_map{live:List Nat}{f:D->D}{e:Env}(hf:f .undef=.undef){t:Nat}:get (live.map λt=>(t,f (get e t))) t=if t∈live then f (get e t)else .undef:=by
 induction live with
 |nil=>simp[get]
 |cons u live ih =>
  simp only[aR,get,aY];by_cases h:u=t
  .subst h;simp
  .rw[if_neg h,ih];by_cases h2:t∈live
   .rw[if_pos h2,if_pos (.inr h2)]
   .rw[if_neg h2,if_neg (by intro h3;rcases h3 with h3 | h3;exact h h3.symm;exact h2 h3)]
theorem E5{live:List Nat}{e:Env}{t:Nat}:get (restrict live e) t=if t∈live then(get e t).calm else .undef:=get_map rfl
theorem O3{live:List Nat}{e:Env}{t:Nat}:get (yQ live e) t=if t∈live then(get e t).strip else .undef:=get_map rfl
section
variable {fb:Nat} {V:List Nat} {g:G} {w:World} {B:Nat->Nat} {e:Env} {tmps:Array Value}
theorem T1{d:D}{s:Nat}{cs:List D}(h:d.calm=.own s cs):∃s',d=.own s' cs:=by
 cases d<;>simp only[D.calm,reduceCtorEq,D.own.injEq]at h;exact⟨_,by rw[h.2]⟩
theorem Fr.restrict(hf:Fr fb V g w B e tmps)(live:List Nat):Fr fb V g w B (restrict live e) tmps:=by
 have hown:∀t s cs,get (aA.restrict live e) t=.own s cs->∃s',get e t=.own s' cs:=by
  intro t s cs h;rw[E5]at h;split at h
  .exact T1 h
  .cases h
 refine⟨λt=>?_,λt s cs h=>?_,λt t' s s' cs cs' h h'=>?_⟩
 .rw[E5];split
  .have:=hf.rel t;cases hd:get e t<;>rw[hd]at this<;>simp only[D.calm]<;>first | exact this | exact bH.undef _ | trivial
  .exact bH.undef _
 .obtain⟨s',h⟩:=hown t s cs h;exact hf.own t s' cs h
 .obtain⟨_,h⟩:=hown _ _ _ h;obtain⟨_,h'⟩:=hown _ _ _ h';exact hf.inj _ _ _ _ _ _ h h'
theorem Fr.yQ(hf:Fr fb V g w B e tmps)(live:List Nat):zL g (yQ live e) tmps:=λt=>by
 rw[O3];split
 .exact hf.strip t
 .exact .undef _
theorem At.restrict{CR:eP}{base n:Nat}{g0:G}{w0:World}{b:Frame}{J:SK}{a:Act}(ha:At CR base V g0 w0 n b g w B e J a)(live:List Nat):At CR base V g0 w0 n b g w B (restrict live e) J a :=
 {ha with fr:=ha.fr.restrict live }
theorem At.draw{CR:eP}{base n:Nat}{g0:G}{w0:World}{b:Frame}{J:SK}{a:Act}(ha:At CR base V g0 w0 n b g w B e J a)(w1:World)(h:w1.heap=w.heap)(ho:w1.os=w.os)(ht:w1.tape=w.tape)(hp:w1.output=w.output):
  At CR base V g0 w0 n b g w1 B e J a :=
 ha.go (Ev.heap g h ho ht hp) (ha.inv.heap h) (.refl J) (ha.fr.ev (Ev.heap g h ho ht hp)) rfl rfl
def fK(fb:Nat)(V:List Nat)(g:G)(w:World)(B:Nat->Nat)(e0:Env)(tmps:Array Value)(p:Nat×D):Prop :=
 match p.2 with
 |.own s cs=>(∃s' cs',get e0 p.1=.own s' cs')/\p.1∈V/\tmps.getD p.1 Go.undef=.pointer (some ⟨B p.1,0,none⟩)/\Jl fb g w (B p.1) cs
 |d=>bH g d (tmps.getD p.1 Go.undef)
theorem fK.ev{e0:Env}{p:Nat×D}{g':G}{w':World}(h:fK fb V g w B e0 tmps p)(he:Ev g w g' w'):fK fb V g' w' B e0 tmps p:=by
 obtain⟨t,d⟩:=p;unfold fK at h ⊢;dsimp only at h ⊢;split
 .obtain⟨h1,h2,h3,h4⟩:=h;exact⟨h1,h2,h3,h4.ev he⟩
 .rename_i hd;cases d with
  |own s cs=>exact absurd rfl (hd s cs)
  |_=>exact h.mono he.le
theorem get_mem{e:Env}{t:Nat}:get e t=.undef\/(t,get e t)∈e:=by
 induction e with
 |nil=>exact .inl rfl
 |cons p e ih =>
  obtain⟨k,v⟩:=p;simp only[get];split
  .rename_i h;subst h;exact .inr (by simp)
  .exact ih.imp id λh=>by simp[h]
theorem Fr.dn(hf:Fr fb V g w B e tmps)(live:List Nat):∀p∈aA.restrict live e,fK fb V g w B e tmps p:=by
 intro p hp;simp only[aA.restrict,bN]at hp;obtain⟨t,_,rfl⟩:=hp;unfold fK;dsimp only;cases hd:get e t with
 |own s cs =>
  obtain⟨h1,h2,h3⟩:=hf.own t s cs hd;exact⟨⟨s,cs,rfl⟩,h1,h2,h3⟩
 |vr=>exact .undef _
 |emp=>exact .undef _
 |_=>have:=hf.rel t;rw[hd]at this;exact this
theorem fK.fr(hf:Fr fb V g w B e tmps){g':G}{w':World}{e':Env}(h:∀p∈e',fK fb V g' w' B e tmps p):Fr fb V g' w' B e' tmps:=by
 refine⟨λt=>?_,λt s cs hg=>?_,λt t' s s' cs cs' hg hg' hB=>?_⟩
 .rcases get_mem (e:=e') (t:=t)with hm | hm
  .rw[hm];exact bH.undef _
  .have:=h _ hm;unfold fK at this;dsimp only at this;cases hd:get e' t with
   |own s cs=>trivial
   |vr=>rw[hd]at this;cases this
   |emp=>rw[hd]at this;cases this
   |_=>rw[hd]at this;exact this
 .rcases get_mem (e:=e') (t:=t)with hm | hm
  .rw[hm]at hg;cases hg
  .have:=h _ hm;rw[hg]at this;exact⟨this.2.1,this.2.2.1,this.2.2.2⟩
 .have h1:∃s cs,get e t=.own s cs:=by
   rcases get_mem (e:=e') (t:=t)with hm | hm
   .rw[hm]at hg;cases hg
   .have:=h _ hm;rw[hg]at this;exact this.1
  have h2:∃s cs,get e t'=.own s cs:=by
   rcases get_mem (e:=e') (t:=t')with hm | hm
   .rw[hm]at hg';cases hg'
   .have:=h _ hm;rw[hg']at this;exact this.1
  obtain⟨_,_,h1⟩:=h1;obtain⟨_,_,h2⟩:=h2;exact hf.inj _ _ _ _ _ _ h1 h2 hB
theorem QU{g:G}{d:D}{c:Value}(h:bH g d c)(s:Nat)(cs:List D):d ≠ .own s cs:=by intro e;subst e;cases h
theorem fK.of{e0:Env}{t:Nat}{d:D}(h:bH g d (tmps.getD t Go.undef)):fK fb V g w B e0 tmps (t,d):=by
 unfold fK;dsimp only;split
 .cases h
 .exact h
theorem Xn{l n s:Nat}{cs:List D}{J:SK}:cC l (n+1) (.own s cs) J=if(D.own s cs).clean then(.own s cs,J)else(.own s (cC.frzL (cC l n) cs J).1,(cC.frzL (cC l n) cs J).2):=by
 simp only[cC]
theorem Lz{CR:eP}{base:Nat}{e0:Env}(l:Nat):∀(es:Env) (J:SK) (g:G),Inv CR base g J w->(∀p∈es,fK fb V g w B e0 tmps p) ->
  ∃g',Inv CR base g' (pW l es J).2 w/\Ev g w g' w/\∀p∈(pW l es J).1,fK fb V g' w B e0 tmps p
 |[],J,g,hi,h=>⟨g,hi,Ev.refl g w,by simp[pW]⟩
 |(t,d)::es,J,g,hi,h=>by
  have h1:∃g1,Inv CR base g1 (cC l deep d J).2 w/\Ev g w g1 w/\fK fb V g1 w B e0 tmps (t,(cC l deep d J).1):=by
   have h0:=h (t,d) (by simp);cases hd:d with
   |own s cs =>
    subst hd;obtain⟨k1,k2,k3,k4⟩:=h0;rw[show cC l deep (.own s cs) J=cC l (15+1) (.own s cs) J from rfl,Xn];split
    .exact⟨g,hi,Ev.refl g w,k1,k2,k3,k4⟩
    .obtain⟨ca,el,hb,hr,h1c⟩:=k4.dr;obtain⟨g1,i1,e1,r1⟩:=Bi (CR:=CR) (base:=base) (zX l 15) cs J g w _ hi hr;have k5:=k4.ev e1;exact⟨g1,i1,e1,k1,k2,k3,k5.lo,k5.free,k5.sX,ca,el,hb,r1,h1c⟩
   |_ =>
    rw[hd]at h0;obtain⟨g1,i1,e1,r1⟩:=zX (CR:=CR) (base:=base) l deep _ J g w _ hi h0;exact⟨g1,i1,e1,fK.of r1⟩
  obtain⟨g1,i1,e1,k1⟩:=h1;obtain⟨g2,i2,e2,k2⟩:=Lz l es (cC l deep d J).2 g1 i1 λp hp=>(h p (by simp[hp])).ev e1
  refine⟨g2,i2,e1.trans e2,λp hp=>?_⟩;simp only[pW]at hp;rcases aY.1 hp with rfl | hp
  .exact k1.ev e2
  .exact k2 p hp
end
end Go.aA
