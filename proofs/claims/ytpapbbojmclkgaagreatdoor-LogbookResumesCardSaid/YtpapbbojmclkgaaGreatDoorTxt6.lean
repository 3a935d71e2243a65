import Derived.Test.YtpapbbojmclkgaaGreatDoorTxt5
set_option linter.all false
set_option maxRecDepth 100000
namespace Go.cY
open Go Go.aw
theorem JW:∀{s:List UInt8} {n m:Nat},n<65521->m<65521->oE n s=oE m s->n=m
 |[],n,m,hn,hm,h=>h
 |c::s,n,m,hn,hm,h=>by
  have:=JW (s:=s) (Nat.mod_lt _ (by omega)) (Nat.mod_lt _ (by omega)) h;omega
theorem JX:∀{s:List UInt8} {n j:Nat} {v c:UInt8},n<65521->s[j]?=some c->v≠c->oE n (s.set j v)≠oE n s
 |[],n,j,v,c,hn,hc,hv=>by simp at hc
 |d::s,n,0,v,c,hn,hc,hv=>by
  intro h;simp at hc;subst hc;have h1:=JW (s:=s) (Nat.mod_lt _ (by omega)) (Nat.mod_lt _ (by omega)) h;have h2:=v.toNat_lt;have h3:=d.toNat_lt;exact hv (UInt8.toNat_inj.1 (by omega))
 |d::s,n,j+1,v,c,hn,hc,hv=>by
  have:=JX (s:=s) (n:=(31*n+d.toNat)%65521) (j:=j) (v:=v) (c:=c) (Nat.mod_lt _ (by omega)) (by simpa using hc) hv;simpa[oE]using this
theorem Ao{a b:Nat}(ha:a<256)(hb:b<256)(h:DG a=DG b):a=b:=by
 rw[<- vO ha,<- vO hb,h]
theorem Rf{s r:List UInt8}:(iG s++r)[0]?=some (DG (s.length / 256)):=rfl
theorem rec_1{s r:List UInt8}:(iG s++r)[1]?=some (DG (s.length%256)):=rfl
theorem rec_2{s r:List UInt8}:(iG s++r)[2]?=some (DG (255-s.length / 256)):=rfl
theorem rec_3{s r:List UInt8}:(iG s++r)[3]?=some (DG (255-s.length%256)):=rfl
theorem NR{b:List UInt8}(h:∀s r,s.length<=4000->b≠iG s++r):wX b=none:=by
 cases hb:wX b with
 |none=>rfl
 |some x=>exact absurd (GZ (s:=x.1) (r:=x.2) hb).1 (h _ _ (GZ (s:=x.1) (r:=x.2) hb).2)
theorem WI{s r:List UInt8}{k:Nat}(hs:s.length<=4000)(hk:k<s.length+6):wX ((iG s++r).take k)=none:=by
 refine NR λs' r' hs' h=>?_
 have hl:=congrArg List.length h;simp only[dp,aP,pg]at hl;have h0:=congrArg (λl:List UInt8=>l[0]?) h;have h1:=congrArg (λl:List UInt8=>l[1]?) h;simp only[Rf,rec_1]at h0 h1;rw[List.getElem?_take_of_lt (by omega),Rf]at h0;rw[List.getElem?_take_of_lt (by omega),rec_1]at h1;have e0:=Ao (by omega) (by omega) (Option.some.inj h0);have e1:=Ao (by omega) (by omega) (Option.some.inj h1);omega
theorem WH{s r:List UInt8}{j:Nat}{v c:UInt8}(hs:s.length<=4000)(hj:j<s.length+6)(hc:(iG s++r)[j]?=some c)(hv:v≠c):wX ((iG s++r).set j v)=none:=by
 refine NR λs' r' hs' h=>?_
 have hl:=congrArg List.length h;simp only[List.length_set,aP,pg]at hl;have h0:=congrArg (λl:List UInt8=>l[0]?) h;have h1:=congrArg (λl:List UInt8=>l[1]?) h;have h2:=congrArg (λl:List UInt8=>l[2]?) h;have h3:=congrArg (λl:List UInt8=>l[3]?) h;simp only[Rf,rec_1,rec_2,rec_3]at h0 h1 h2 h3;have hat:∀i,i≠j->((iG s++r).set j v)[i]?=(iG s++r)[i]?:=λi hi=>List.getElem?_set_ne (Ne.symm hi)
 have hjj:((iG s++r).set j v)[j]?=some v:=List.getElem?_set_self (by simp[pg];omega);by_cases j0:j=0
 .subst j0;rw[hjj]at h0;rw[hat 2 (by omega),rec_2]at h2;rw[Rf]at hc;have e2:=Ao (by omega) (by omega) (Option.some.inj h2);have:s.length / 256=s'.length / 256:=by omega
  rw[this]at hc;exact hv (Option.some.inj (h0.trans hc))
 by_cases j1:j=1
 .subst j1;rw[hjj]at h1;rw[hat 3 (by omega),rec_3]at h3;rw[rec_1]at hc;have e2:=Ao (by omega) (by omega) (Option.some.inj h3);have:s.length%256=s'.length%256:=by omega
  rw[this]at hc;exact hv (Option.some.inj (h1.trans hc))
 rw[hat 0 (by omega),Rf]at h0;rw[hat 1 (by omega),rec_1]at h1;have e0:=Ao (by omega) (by omega) (Option.some.inj h0);have e1:=Ao (by omega) (by omega) (Option.some.inj h1);have en:s'.length=s.length:=by omega
 by_cases j2:j=2
 .subst j2;rw[hjj]at h2;rw[rec_2]at hc;rw[en]at h2;exact hv (Option.some.inj (h2.trans hc))
 by_cases j3:j=3
 .subst j3;rw[hjj]at h3;rw[rec_3]at hc;rw[en]at h3;exact hv (Option.some.inj (h3.trans hc))
 obtain⟨i,rfl⟩:∃i,j=i+4:=⟨j-4,by omega⟩;have hd:=congrArg (List.drop 4) h;have dr:∀x y:List UInt8,(iG x++y).drop 4=x++(Ij x++y):=λx y=>by
  simp only[iG,bX];rw[show(4:Nat)=(QU x.length).length from rfl,List.drop_left]
 have hcd:(s++(Ij s++r))[i]?=some c:=by rw[<- dr,dN,Nat.add_comm 4 i];exact hc
 have hsd:((iG s++r).set (i+4) v).drop 4=(s++(Ij s++r)).set i v:=by
  rw[List.drop_set,if_neg (by omega),dr,Nat.add_sub_cancel]
 rw[hsd,dr]at hd;by_cases hi:i<s.length
 .rw[List.set_append_left _ _ hi]at hd;obtain⟨a1,a2⟩:=List.append_inj hd (by simp[en]);obtain⟨a3,a4⟩:=List.append_inj a2 rfl;rw[eg hi]at hcd;have hne:=JX (n:=1) (by omega) hcd hv;have b1:=Kt (s:=s);have b2:=Kt (s:=s');simp only[Ij,fN,and_true]at a3;have c1:=Ao (by omega) (by omega) a3.1;have c2:=Ao (by omega) (by omega) a3.2;have c3:D8 s'=D8 s:=by omega
  rw[<- a1]at c3;exact hne c3
 .rw[List.set_append_right _ _ (by omega)]at hd;obtain⟨a1,a2⟩:=List.append_inj hd (by simp[en]);subst a1;rw[List.getElem?_append_right (by omega)]at hcd;have hq:i-s.length<(Ij s).length:=by simp[Ij];omega
  have h4:=congrArg (λl:List UInt8=>l[i-s.length]?) a2;rw[List.getElem?_set_self (by simp;omega),eg hq]at h4;rw[eg hq]at hcd;exact hv (Option.some.inj (h4.trans hcd))
theorem GU{t:List UInt8}(ht:wX t=none):∀{l:List (List UInt8)} {n:Nat},l.length<=n->(∀s∈l,s.length<=4000)->cI n (cU l++t)=l
 |[],n,_,_=>by
  cases n with
  |zero=>rfl
  |succ n=>simp[cU,cI,ht]
 |s::l,n,hn,hs=>by
  obtain⟨n,rfl⟩:∃m,n=m+1:=⟨n-1,by simp at hn;omega⟩;simp only[cU,cT,cI,bX];rw[WJ (hs s (by simp))];simp only;rw[<- cU,GU ht (l:=l) (by simpa using hn) (λx hx=>hs x (by simp[hx]))]
theorem Sx(s:List UInt8)(l:List (List UInt8)):cU (s::l)=iG s++cU l:=rfl
theorem M7(a b:List (List UInt8)):cU (a++b)=cU a++cU b:=ln ..
theorem Sy{l:List (List UInt8)}{n:Nat}{s:List UInt8}(h:l[n]?=some s):cU l=cU (l.take n)++(iG s++cU (l.drop (n+1))):=by
 have h1:l=l.take n++s::l.drop (n+1):=by
  obtain⟨hn,he⟩:=aA.1 h;rw[<- he,List.getElem_cons_drop,List.take_append_drop]
 conv=>lhs;rw[h1]
 rw[M7,Sx]
theorem VS{l:List (List UInt8)}{n:Nat}{s:List UInt8}(h:l[n]?=some s):(cU (l.take (n+1))).length=(cU (l.take n)).length+(s.length+6):=by
 rw[List.take_add_one,h,M7];simp[cU,pg]
theorem stops{l:List (List UInt8)}{n cut:Nat}(hl:l.length<=100)(h4:∀s∈l,s.length<=4000)(hn:n<l.length)(h1:(cU (l.take n)).length<=cut)(h2:cut<(cU (l.take (n+1))).length):
  cI 100 ((cU l).take cut)=l.take n/\∀v c,(cU l)[cut]?=some c->v≠c->cI 100 ((cU l).set cut v)=l.take n:=by
 obtain⟨s,hs⟩:=gE hn;have hsm:=h4 s (ah hs);rw[VS hs]at h2;rw[Sy hs];have ht:∀x∈l.take n,x.length<=4000:=λx hx=>h4 x (dj hx)
 have htl:(l.take n).length<=100:=by simp;omega
 constructor
 .rw[List.take_append,aW h1];exact GU (WI hsm (by omega)) htl ht
 .intro v c hc hv;rw[List.set_append_right _ _ h1];rw[List.getElem?_append_right h1]at hc;exact GU (WH hsm (by omega) hc hv) htl ht
end Go.cY
namespace Go.Proofs.YtpapbbojmclkgaaGreatDoor
section
open Go Go.aD Go.cY
def Pr:Bk->List (List UInt8)->List (List UInt8)->Bk×List (List UInt8)
 |b,ls,[]=>(b,ls)
 |b,ls,s::m=>if(jj b ls.length s).2=0 then Pr (jj b ls.length s).1 (ls++[s]) m else Pr (jj b ls.length s).1 ls m
theorem H5:∀{n:Nat} {b s:List UInt8},s∈cI n b->s.length<=4000
 |0,b,s,h=>by simp[cI]at h
 |n+1,b,s,h=>by
  unfold cI at h;split at h
  .rename_i t r h1;rcases bz.1 h with rfl | h
   .exact(GZ h1).2
   .exact H5 h
  .simp at h
end
section
open Go Go.aw Go.aD Go.cY
variable {J:SK}
theorem Sj:Cl 83 [.bB] (.fn 123 [] [.bq [.bB]]) J:=by
 refine an ?_;simp
theorem abu:WL T [0,1,3] false jV [(0,.jg J.length 3),(1,.bq [.bB]),(3,iI 0)] ([]::JV J [] 0 false)
   (λx e J'=>x=.exit 0/\J'=[]::JV J [] 0 false):=by
 refine aK ?_;simp
theorem PQ:Cl 123 [.jg J.length 3,.bq [.bB]] (.cS []) (JV J [] 0 false):=by
 refine eZ rfl rfl rfl (by simp[JV]) ?_;simp;refine WL.tg abu ?_;rintro x e J' ⟨rfl,rfl⟩;simp
def Vc(J:SK)(ls:List (List UInt8))(w:Int)(p:Bool):List aw.aF :=
 [.cells ls.length (fM ls bD),.cells 0 [.sl J.length 0 ls.length 0 ls.length 1],.cells 0 [iI w],.loop {Ps J.length p with state:=3 }]
theorem KC{b:List UInt8}{d:D}(hd:d=lF b bE\/d=.bB/\b=[])(hb:b.length<=1000000):
  ∃p,di T (.call true 59 [d] ([]::J))=some (.val (.cS [.sl J.length 0 (cI 100 b).length 0 (cI 100 b).length 1,iI ((cU (cI 100 b)).length:Nat)])
   (Vc J (cI 100 b) (cU (cI 100 b)).length p::J)):=by
 rcases hd with rfl | ⟨rfl,rfl⟩
 .have hR:=λJ=>VH (J:=J) (b:=b)
  obtain⟨p,h1⟩:=Si (J:=J) hb;refine⟨p,mh rfl rfl rfl ?_⟩;simp[hR];refine Kd (d:=.cS []) (J2:=JV J (cI 100 b) (cU (cI 100 b)).length p) (lp:=Ps J.length p) (by simp;exact⟨rfl,rfl,rfl⟩) ?_ (by simp[JV]) (by cases p<;>simp[Ps]) ?_
  .simpa[JV,Ps]using h1
  .cases p<;>simp[JV,Ps,Vc]
 .have hR:=λJ=>Sj (J:=J)
  have h1:=PQ (J:=J);have hr:cI 100 []=[]:=rfl;refine⟨false,mh rfl rfl rfl ?_⟩;simp[hR];refine Kd (d:=.cS []) (J2:=JV J [] 0 false) (lp:=Ps J.length false) (by simp;exact⟨rfl,rfl,rfl⟩) ?_ (by simp[JV]) (by simp[Ps]) ?_
  .simpa[JV,Ps]using h1
  .simp[JV,Ps,Vc,hr,cU]
theorem Yh{lines:List (List UInt8)}{A:List aw.aF}(hA:A[0]?=some (.cells lines.length (fM lines bD)))(hl:ZB lines):∀(m i:Nat) (b:Bk) (er:List Int),i+m=lines.length->er.length=i->Kv i b ->
  WL T [4,5,12,13,14] false mD [(4,.ref (J.length+1) 6 0 0),(5,.sl (J.length+1) 7 i 0 i 1),(12,.sl J.length 0 lines.length 0 lines.length 1),(13,.int .i64 lines.length),(14,.int .i64 i)] (b.bC (J.length+1) er::A::J)
   (λx e J'=>x=.exit 0/\get e 4=.ref (J.length+1) 6 0 0/\get e 5=.sl (J.length+1) 7 lines.length 0 lines.length 1/\J'=(jz b i (lines.drop i)).1.bC (J.length+1) (er++(jz b i (lines.drop i)).2)::A::J)
 |0,i,b,er,hi,he,hK=>by
  refine aK ?_;obtain rfl:i=lines.length:=by omega
  have h2:lines.drop lines.length=[]:=ec;simp[-List.map_take,h2,jz]
 |m+1,i,b,er,hi,he,hK=>by
  refine aK ?_;have h1:i<lines.length:=by omega
  obtain⟨s,hs⟩:=gE h1;have hdr:=mM (f:=bD) (w:=1) (λ_=>rfl) hs;simp only[bR,bD,cm]at hdr;have h4:=cj h1 (by have:=hl.1;omega);have hsl:=hl.2 s (ah hs);have hn:=hl.1;have hC:=N3 (J:=A::J) (b:=b) (er:=er) (s:=s) (k:=i) hK (by omega) hsl;have hK':=hK.line hsl (k:=i);rw[bj hs];simp only[jz];generalize jj b i s=r at hC hK' ⊢;obtain⟨b',e⟩:=r;have ih:=Yh hA hl m (i+1) b' (er++[e]) (by omega) (by simp[he]) hK';have hel:=nN er;have het:(fM er aQ).take i=fM er aQ:=cZ;have hr:(i+1)*8<=room:=by unfold room;omega
  simp only[Bk.bC,Bk.cells,he,aB]at hC;simp[-List.map_take,h1,hA,hdr,h4,hC,Bk.bC,Bk.cells,hr,hel,het,he];refine WL.to ih (by simp) (by simp[Bk.bC,Bk.cells,he]) λx e' J' hh=>?_
  have e1:((i+1:Nat):Int)=(i:Int)+1:=by omega
  rw[e1]at hh;simpa[Bk.bC,Bk.cells]using hh
theorem XQ{lines:List (List UInt8)}{A:List aw.aF}(hA:A[0]?=some (.cells lines.length (fM lines bD)))(hl:ZB lines):di T (.call true 32 [.sl J.length 0 lines.length 0 lines.length 1] ([]::A::J)) =
  some (.val (.cS [.ref (J.length+1) 6 0 0,.sl (J.length+1) 7 lines.length 0 lines.length 1]) ((fE lines).1.bC (J.length+1) (fE lines).2::A::J)):=by
 refine mh rfl rfl rfl ?_;have hL:=Yh (J:=J) hA hl lines.length 0 gr [] (by omega) rfl Kv.zero;rw[az]at hL;simp;refine WL.to hL (by simp) (by simp[Bk.bC,Bk.cells,gr,nl]) ?_;rintro x e J' ⟨rfl,g4,g5,rfl⟩;simp[g4,g5,fE]
def stM(ls:List (List UInt8))(R:List aw.aF):List aw.aF:=.cells ls.length (fM ls bD)::R
theorem KO{lines:List (List UInt8)}{er:List Int}{R:List aw.aF}(hl:∀s∈lines,s.length<=4000)(hn:lines.length<=100):∀(m i n:Nat) (b:Bk) (ls:List (List UInt8)),i+m=lines.length->Kv n b->n+m<=200->ls.length+m<=300 ->
  WL T [7,9,28,29,30] false oO [(7,.sl J.length 0 ls.length 0 ls.length 1),(9,.ref (J.length+1) 6 0 0),(28,lF lines bD),(29,iI lines.length),(30,iI i)] (b.bC (J.length+1) er::stM ls R::J)
   (λx e J'=>∃q,q=Pr b ls (lines.drop i)/\x=.exit 0/\q.2.length<=ls.length+m/\get e 7=.sl J.length 0 q.2.length 0 q.2.length 1/\J'=q.1.bC (J.length+1) er::stM q.2 R::J)
 |0,i,n,b,ls,hi,hK,hn1,hn2=>by
  refine aK ?_;obtain rfl:i=lines.length:=by omega
  have h2:lines.drop lines.length=[]:=ec;simp[h2,Pr]
 |m+1,i,n,b,ls,hi,hK,hn1,hn2=>by
  refine aK ?_;have h1:i<lines.length:=by omega
  obtain⟨s,hs⟩:=gE h1;have a1:=bx (f:=bD) (w:=1) hs;simp only[bD,bR]at a1;have h4:=cj h1;have hsl:=hl s (ah hs);have hC:=N3 (J:=stM ls R::J) (b:=b) (er:=er) (s:=s) (k:=ls.length) hK (by omega) hsl;have hK':=hK.line hsl (k:=ls.length);rw[bj hs];simp only[Pr];generalize jj b ls.length s=r at hC hK' ⊢;obtain⟨b',e⟩:=r;have hfl:=dF (f:=bD) (w:=1) ls;have tk:(fM ls bD).take ls.length=fM ls bD:=cZ;have hr:(ls.length+1)*16<=room:=by unfold room;omega
  have⟨hq,e1⟩:ls.length<=(fM ls bD).length/\((i+1:Nat):Int)=(i:Int)+1:=by omega
  simp only[Bk.bC,Bk.cells,aB,stM]at hC;by_cases hc:e=0
  .subst hc;have ih:=KO (er:=er) (R:=R) hl hn m (i+1) (n+1) b' (ls++[s]) (by omega) hK' (by omega) (by simp;omega);rw[e1]at ih;simp only[];simp[h1,a1,h4,hC,Bk.bC,Bk.cells,stM,hr,hq,tk];refine WL.to ih (by simp) (by simp[Bk.bC,Bk.cells,stM,bD]) λx e' J' hh=>?_
   obtain⟨q,h1,h2,h3,h4,h5⟩:=hh;refine⟨q,h1,h2,by simp at h3;omega,h4,?_⟩;simpa[Bk.bC,Bk.cells,stM]using h5
  .have ih:=KO (er:=er) (R:=R) hl hn m (i+1) (n+1) b' ls (by omega) hK' (by omega) (by omega);rw[e1]at ih;rw[if_neg hc];simp[h1,a1,h4,hC,Bk.bC,Bk.cells,stM,hc];refine WL.to ih (by simp) (by simp[Bk.bC,Bk.cells,stM]) λx e' J' hh=>?_
   obtain⟨q,h1,h2,h3,h4,h5⟩:=hh;refine⟨q,h1,h2,by omega,h4,?_⟩;simpa[Bk.bC,Bk.cells,stM]using h5
theorem UB{qs:List (List UInt8)}{A R:List aw.aF}(hJ:J≠[]):cK 0 16 (.sl J.length 0 qs.length 0 qs.length 1) (A::stM qs R::J)=(lF qs bD,A::(.dead::R)::J):=by
 have h:=aG.2 hJ;have hfl:=dF (f:=bD) (w:=1) qs;rw[amP h (cs:=fM qs bD) (by simp[stM])];rw[az,aW (by omega),GH (fD (f:=bD) (λ_=>by simp[bD,D.clean]) qs) (by omega)];simp[stM]
theorem OB:∀{m ls:List (List UInt8)} {b:Bk} {s:List UInt8},s∈(Pr b ls m).2->s∈ls\/s∈m
 |[],ls,b,s,h => .inl h
 |x::m,ls,b,s,h=>by
  simp only[Pr]at h;split at h
  .rcases OB h with h | h
   .rcases aU.1 h with h | h
    .exact .inl h
    .simp only[List.mem_singleton]at h;exact .inr (by simp[h])
   .exact .inr (by simp[h])
  .rcases OB h with h | h
   .exact .inl h
   .exact .inr (by simp[h])
theorem CE:∀{n:Nat} {b:List UInt8},(cI n b).length<=n
 |0,b=>by simp[cI]
 |n+1,b=>by
  unfold cI;split
  .have:=@CE n;simp only[aB];exact Nat.succ_le_succ CE
  .simp
theorem Vt{lines:List (List UInt8)}{b:List UInt8}{d:D}(hd:d=lF b bE\/d=.bB/\b=[])(hb:b.length<=1000000)(hk:GQ lines)(hJ:J≠[]):
  Cl 25 [d,lF lines bD] (if(Pr (fE (cI 100 b)).1 (cI 100 b) lines).2.length<=100 then .cS [.bZ (cU (Pr (fE (cI 100 b)).1 (cI 100 b) lines).2).length (fM (cU (Pr (fE (cI 100 b)).1 (cI 100 b) lines).2) bE),iI 0]else .cS [.bB,iI 3]) J:=by
 refine an ?_;have hC:=λS=>BZ (J:=S) (l:=lines) (by have:=hk.1;omega)
 have hok:okB lines=true:=Ft.2 hk;simp only[hok,if_true]at hC;have h4:∀s∈cI 100 b,s.length<=4000:=λs hs=>H5 hs
 have hrl:=@CE 100 b;have hg:ZB (cI 100 b):=⟨hrl,h4⟩;obtain⟨p,hR⟩:=KC (J:=J) hd hb;have hRun:=XQ (J:=J) (A:=Vc J (cI 100 b) (cU (cI 100 b)).length p) rfl hg;have hKv:Kv (cI 100 b).length (fE (cI 100 b)).1:=by
  have:=H9 (l:=cI 100 b) (k:=0) Kv.zero h4;simpa[fE]using this
 generalize cI 100 b=ls at *
 generalize fE ls=r at *
 obtain⟨c,er⟩:=r;simp only at hKv hRun ⊢;have hkn:=hk.1;have hL:=KO (J:=J) (er:=er) (R:=(Vc J ls (cU ls).length p).tail) hk.2 hk.1 lines.length 0 ls.length c ls (by omega) hKv (by omega) (by omega);rw[az]at hL;rcases hd with rfl | ⟨rfl,rfl⟩
 all_goals
  simp[hC,hR,hRun];refine WL.to hL (by simp) (by simp[stM,Vc]) ?_;rintro x e J' ⟨q,hq,rfl,hql,g7,rfl⟩;rw[<- hq];obtain⟨c',qs⟩:=q;have hf:=UB (qs:=qs) (A:=c'.bC (J.length+1) er) (R:=(Vc J ls (cU ls).length p).tail) hJ;simp only[Vc,List.tail_cons]at hf;simp only;by_cases hle:qs.length<=100
  .have hok:GQ qs:=⟨hle,λs hs=>(OB (b:=c) (ls:=ls) (m:=lines) (by rw[<- hq];exact hs)).elim (h4 s) (hk.2 s)⟩;have hW:=λS hS=>Iv (J:=S) hok hS
   have hlen:¬(100:Int)<qs.length:=by omega
   simp[g7,Vc,hf,hlen,hle,hW,Uu]
  .have hlen:(100:Int)<qs.length:=by omega
   simp[g7,Vc,hf,hlen,hle]
theorem R7{lines:List (List UInt8)}{d:D}(hl:lines.length<=1000000000)(hok:okB lines=false):Cl 25 [d,lF lines bD] (.cS [.bB,iI 3]) J:=by
 refine an ?_;have hC:=λS=>BZ (J:=S) (l:=lines) hl
 simp only[hok]at hC;simp[hC]
end
section
open Go Go.aw Go.cY
variable {J:SK}
theorem T0{s:List UInt8}(hl:s.length<=1000000):∀(m i n:Nat),i+m=s.length->n<65521 ->
  WL T [0,3,4] false vk [(0,.str s),(3,iI n),(4,iI i)] J
   (λx e J'=>x=.exit 0/\J'=J/\get e 3=iI (oE n (s.drop i)))
 |0,i,n,hi,hn=>by
  refine aK ?_;have h1:¬i<s.length:=by omega
  have h2:s.drop i=[]:=ec;simp[fO,h1,h2,oE]
 |m+1,i,n,hi,hn=>by
  refine aK ?_;have h1:i<s.length:=by omega
  obtain⟨c,hc⟩:=gE h1;have hx:s[i]=c:=by have:=aE h1;rw[hc]at this;cases this;rfl
  have h4:=cj h1;have hb:=Ec c;have w0:IntKind.i64.wrap (c.toNat:Int)=c.toNat:=bV;have w1:=bV (n:=31*(n:Int));have w2:=bV (n:=31*(n:Int)+c.toNat);have w3:(31*(n:Int)+c.toNat).tmod 65521=(((31*n+c.toNat)%65521:Nat):Int):=by rw[Int.tmod_eq_emod_of_nonneg (by omega)];omega
  rw[bj hc,oE];simp[fO,h1,hx,h4,w0,w1,w2,w3];exact WL.tg (T0 hl m (i+1) ((31*n+c.toNat)%65521) (by omega) (Nat.mod_lt _ (by omega))) λx e J' hh=>by simpa using hh
theorem Vv{s:List UInt8}(hl:s.length<=1000000):Cl 82 [.str s] (iI (D8 s)) J:=by
 refine an ?_;simp;refine WL.tg (T0 (J:=[]::J) hl s.length 0 1 (by omega) (by omega)) ?_;rintro x e J' ⟨rfl,rfl,g3⟩;simp[g3,D8]
theorem KJ{s:List UInt8}(hl:s.length<=4000):Cl 58 [.str s] (.str (iG s)) J:=by
 refine an ?_;have hS:=λJ=>Vv (J:=J) (s:=s) (by omega)
 have hb:=Kt (s:=s);obtain⟨h,hh⟩:∃h,h=s.length / 256:=⟨_,rfl⟩;obtain⟨lo,hlo⟩:∃h,h=s.length%256:=⟨_,rfl⟩;obtain⟨ch,hch⟩:∃h,h=D8 s / 256:=⟨_,rfl⟩;obtain⟨cl,hcl⟩:∃h,h=D8 s%256:=⟨_,rfl⟩;have hrec:iG s=[DG h,DG lo,DG (255-h),DG (255-lo)]++s++[DG ch,DG cl]:=by rw[hh,hlo,hch,hcl];rfl
 have f1:(s.length:Int).tdiv 256=(h:Int):=by rw[aN (by omega)];omega
 have f2:(s.length:Int).tmod 256=(lo:Int):=by rw[Int.tmod_eq_emod_of_nonneg (by omega)];omega
 have f3:(D8 s:Int).tdiv 256=(ch:Int):=by rw[aN (by omega)];omega
 have f4:(D8 s:Int).tmod 256=(cl:Int):=by rw[Int.tmod_eq_emod_of_nonneg (by omega)];omega
 have v1:IntKind.i64.wrap (h:Int)=h:=bV;have v2:IntKind.i64.wrap (lo:Int)=lo:=bV;have v3:IntKind.i64.wrap (ch:Int)=ch:=bV;have v4:IntKind.i64.wrap (cl:Int)=cl:=bV;have v5:=bV (n:=255-(h:Int));have v6:=bV (n:=255-(lo:Int));have w1:IntKind.u8.wrap (h:Int)=h:=TG (by omega);have w2:IntKind.u8.wrap (lo:Int)=lo:=TG (by omega);have w3:IntKind.u8.wrap (255-(h:Int))=255-h:=TG (by omega);have w4:IntKind.u8.wrap (255-(lo:Int))=255-lo:=TG (by omega);have w5:IntKind.u8.wrap (ch:Int)=ch:=TG (by omega);have w6:IntKind.u8.wrap (cl:Int)=cl:=TG (by omega);have y1:UInt8.ofNat (h:Int).toNat=DG h:=rfl;have y3:UInt8.ofNat (255-(h:Int)).toNat=DG (255-h):=by unfold DG;congr 1;omega
 have y4:UInt8.ofNat (255-(lo:Int)).toNat=DG (255-lo):=by unfold DG;congr 1;omega
 have z:∀n:Nat,UInt8.ofNat n=DG n:=λ_=>rfl
 have⟨r1,r2,r3⟩:4+s.length<=4611686018427387904/\4+s.length+2<=4611686018427387904/\s.length+1+1+1+1+2<=4611686018427387904:=by omega
 simp[fO,Pv,yN,r1,r3,hS,f1,f2,f3,f4,v1,v3,v5,v6,w1,w2,w3,w4,w5,w6,hrec,z]
theorem X4{l:List (List UInt8)}(hl:GQ l):∀(m i:Nat) (acc:List UInt8),i+m=l.length->acc.length<=4006*i ->
  WL T [0,3,4] false xn [(0,lF l bD),(3,.str acc),(4,iI i)] J
   (λx e J'=>x=.exit 0/\get e 3=.str (acc++cU (l.drop i))/\J'=J)
 |0,i,acc,hi,ha=>by
  refine aK ?_;obtain rfl:i=l.length:=by omega
  have h2:l.drop l.length=[]:=ec;simp[h2,cU]
 |m+1,i,acc,hi,ha=>by
  refine aK ?_;have h1:i<l.length:=by omega
  obtain⟨s,hs⟩:=gE h1;have a1:=bx (f:=bD) (w:=1) hs;simp only[bD,bR]at a1;have h4:=cj h1 (by have:=hl.1;omega);have hsl:=hl.2 s (ah hs);have hC:=λS=>KJ (J:=S) hsl
  have hrl:=pg s;have hr:acc.length+(iG s).length<=4611686018427387904:=by have:=hl.1;omega
  rw[bj hs];have hbk:cU (s::l.drop (i+1))=iG s++cU (l.drop (i+1)):=rfl;rw[hbk];simp[fO,h1,a1,h4,hC,hr];exact WL.tg (X4 hl m (i+1) (acc++iG s) (by omega) (by simp;omega)) λx e J' hh=>by simpa using hh
theorem Xm{l:List (List UInt8)}(hl:GQ l):Cl 27 [lF l bD] (.str (cU l)) J:=by
 refine an ?_;simp;refine WL.tg (X4 (J:=[]::J) hl l.length 0 [] (by omega) (by simp)) ?_;rintro x e J' ⟨rfl,g3,rfl⟩;simp only[az,List.nil_append]at g3;simp[g3]
theorem acS{b:List UInt8}{k:Nat}{x y:UInt8}(hx:b[k]?=some x)(hy:b[k+1]?=some y):wX (b.drop k) =
  if x.toNat*256+y.toNat<=4000/\x.toNat*256+y.toNat+6<=b.length-k then
   (if iG ((b.drop (k+4)).take (x.toNat*256+y.toNat))=(b.drop k).take (x.toNat*256+y.toNat+6)then some ((b.drop (k+4)).take (x.toNat*256+y.toNat),b.drop (k+(x.toNat*256+y.toNat)+6))else none)
  else none:=by
 have hdr:b.drop k=x::y::b.drop (k+2):=by rw[bj hx,bj hy]
 have hdl:(b.drop k).length=b.length-k:=by simp
 have e4:(b.drop k).drop 4=b.drop (k+4):=by rw[cC]
 have e5:(b.drop k).drop (x.toNat*256+y.toNat+6)=b.drop (k+(x.toNat*256+y.toNat)+6):=by rw[cC];congr 1
 unfold wX;split
 .rename_i x' y' r' hq;rw[hdr]at hq;cases hq;rw[hdl,e4,e5];by_cases hc:x.toNat*256+y.toNat<=4000/\x.toNat*256+y.toNat+6<=b.length-k
  .rw[if_pos hc,if_pos ⟨by omega,hc⟩]
  .rw[if_neg hc,if_neg (λh=>hc h.2)]
 .rename_i hno;exact absurd hdr (hno _ _ _)
set_option maxHeartbeats 4000000 in
theorem abt{b:List UInt8}(hb:b.length<=1000000):∀(m k:Nat) (ls:List (List UInt8)),(b.drop k).length<=m->k<=b.length->ls.length<=100 ->
  WL T [0,4,5] false pR [(0,.str b),(4,.sl J.length 0 ls.length 0 ls.length 1),(5,iI k)] ([.cells ls.length (fM ls bD)]::J)
   (λx e J'=>∃more,more=cI (100-ls.length) (b.drop k)/\x=.exit 0/\get e 4=.sl J.length 0 (ls++more).length 0 (ls++more).length 1/\get e 5=iI (k+(cU more).length:Nat) /\
    J'=[.cells (ls++more).length (fM (ls++more) bD)]::J):=by
 intro m;induction m with
 |zero =>
  intro k ls hm hk hl;refine aK ?_;have h0:¬(k:Int)+4<=b.length:=by simp at hm;omega
  have u1:=bV (n:=(k:Int)+4);have hs:=rz (n:=100-ls.length) (Ii (t:=b.drop k) (by omega));by_cases c0:ls.length<100
  .have c0':(ls.length:Int)<100:=by omega
   simp[fO,c0',u1,h0,hs,cU]
  .have c0':¬(ls.length:Int)<100:=by omega
   simp[c0',hs,cU]
 |succ m ih =>
  intro k ls hm hk hl;refine aK ?_;have u1:=bV (n:=(k:Int)+4);by_cases c0:ls.length<100
  .have c0':(ls.length:Int)<100:=by omega
   by_cases c1:k+4<=b.length
   .have⟨h1,hk0,hk1⟩:(k:Int)+4<=(b.length:Int)/\k<b.length/\k+1<b.length:=by omega
    obtain⟨x,hx⟩:=gE hk0;obtain⟨y,hy⟩:∃y,b[k+1]?=some y:=⟨_,aE hk1⟩;have gx:b[k]=x:=by have:=aE hk0;rw[hx]at this;cases this;rfl
    have gy:b[k+1]=y:=by have:=aE hk1;rw[hy]at this;cases this;rfl
    have hxl:=Ec x;have hyl:=Ec y;have hstep:=acS hx hy;have v1:IntKind.i64.wrap (x.toNat:Int)=x.toNat:=bV;have v2:IntKind.i64.wrap (y.toNat:Int)=y.toNat:=bV;have v3:=bV (n:=256*(x.toNat:Int));have v4:IntKind.i64.wrap (256*(x.toNat:Int)+y.toNat)=((x.toNat*256+y.toNat:Nat):Int):=(bV).trans (by omega);obtain⟨n,hn⟩:∃n,n=x.toNat*256+y.toNat:=⟨_,rfl⟩;rw[<- hn]at v4 hstep;have u2:=bV (n:=(k:Int)+1);have⟨t2,z1,z2⟩:((k:Int)+1).toNat=k+1/\0<=(k:Int)+1/\(k:Int)+1<b.length:=by omega
    have u3:=bV (n:=(k:Int)+6);have u4:=bV (n:=(k:Int)+6+n);have u5:=bV (n:=(k:Int)+4+n);have u6:=bV (n:=6+(n:Int));have u7:=bV (n:=(k:Int)+(6+n));by_cases c2:n<=4000
    .have⟨c2',c2''⟩:¬(4000:Int)<n/\(n:Int)<=4000:=by omega
     by_cases c3:n+6<=b.length-k
     .have c3':¬(b.length:Int)<(k:Int)+6+n:=by omega
      rw[if_pos ⟨c2,c3⟩]at hstep;have⟨s1,s2,s3,s4,s5,s6⟩:((k:Int)+4).toNat=k+4/\((k:Int)+4+n).toNat=k+4+n/\((k:Int)+6+n).toNat=k+6+n/\(0:Int)<=(k:Int)+4/\(k:Int)+4<=(k:Int)+4+n/\(k:Int)+4+n<=b.length:=by omega
      have⟨s7,s8,d1,d2⟩:(k:Int)<=(k:Int)+6+n/\(k:Int)+6+n<=b.length/\k+4+n-(k+4)=n/\k+6+n-k=n+6:=by omega
      have d3:(b.take (k+4+n)).drop (k+4)=(b.drop (k+4)).take n:=by rw[List.drop_take,d1]
      have d4:(b.take (k+6+n)).drop k=(b.drop k).take (n+6):=by rw[List.drop_take,d2]
      obtain⟨line,hline⟩:∃l,l=(b.drop (k+4)).take n:=⟨_,rfl⟩;rw[<- hline]at hstep d3;have hll:line.length=n:=by rw[hline];simp;omega
      have hC:=λS=>KJ (J:=S) (s:=line) (by omega)
      by_cases c4:iG line=(b.drop k).take (n+6)
      .rw[if_pos c4]at hstep;have hz:cI (100-ls.length) (b.drop k)=line::cI (100-(ls++[line]).length) (b.drop (k+n+6)):=by
        have hx:100-ls.length=(100-(ls++[line]).length)+1:=by simp;omega
        rw[hx,cI,hstep]
       rw[hz];have ih':=ih (k+n+6) (ls++[line]) (by simp only[List.length_drop]at hm ⊢;omega) (by omega) (by simp;omega);have ek:((k+n+6:Nat):Int)=(k:Int)+(6+n):=by omega
       rw[ek]at ih';have hr:(ls.length+1)*16<=room:=by unfold room;omega
       have hfl:=dF (f:=bD) (w:=1) ls;have hq:ls.length<=(fM ls bD).length:=by omega
       have tk:(fM ls bD).take ls.length=fM ls bD:=cZ;simp[fO,c0',u1,h1,hk0,hk1,gx,gy,v1,v2,v3,v4,u2,t2,z1,u3,u4,u5,u6,u7,c2',c3',s1,s2,s3,s4,s5,s6,s7,s8,d1,d2,<- hline,hC,c4,hr,tk,hq];refine WL.to ih' ?_ ?_ ?_
       .simp
       .simp
       .intro x e J' hh;obtain⟨more,hm,hh1,hh2,hh3,hh4⟩:=hh;subst hm;generalize cI (100-(ls++[line]).length) (b.drop (k+n+6))=more at hh2 hh3 hh4 ⊢;have e1:k+n+6+(cU more).length=k+(cU (line::more)).length:=by
         simp only[cU,cT,aP,pg,hll];omega
        rw[e1]at hh3;simp only[bX,cm]at hh2 hh4;exact⟨_,rfl,hh1,hh2,hh3,hh4⟩
      .rw[if_neg c4]at hstep;have c4':(iG line == (b.drop k).take (n+6))=false:=by simpa using c4
       simp[fO,c0',u1,h1,hk0,hk1,gx,gy,v1,v2,v3,v4,u2,t2,z1,u3,u4,u5,c2',c3',s1,s2,s3,s4,s5,s6,s7,s8,d1,d2,<- hline,hC,c4',rz hstep,cU]
     .have c3':(b.length:Int)<(k:Int)+6+n:=by omega
      rw[if_neg (λh=>c3 h.2)]at hstep;simp[fO,c0',u1,h1,hk0,hk1,gx,gy,v1,v2,v3,v4,u2,t2,z1,u3,u4,c2',c3',rz hstep,cU]
    .have⟨c2',c2''⟩:(4000:Int)<n/\¬(n:Int)<=4000:=by omega
     rw[if_neg (λh=>c2 h.1)]at hstep;simp[fO,c0',u1,h1,hk0,hk1,gx,gy,v1,v2,v3,v4,u2,t2,z1,c2',rz hstep,cU]
   .have h0:¬(k:Int)+4<=b.length:=by omega
    have hs:=rz (n:=100-ls.length) (Ii (t:=b.drop k) (by simp;omega));simp[fO,c0',u1,h0,hs,cU]
  .have c0':¬(ls.length:Int)<100:=by omega
   have hz:cI (100-ls.length) (b.drop k)=[]:=by rw[show 100-ls.length=0 by omega];rfl
   rw[hz];simp[c0',cU]
end
end Go.Proofs.YtpapbbojmclkgaaGreatDoor
namespace Go.aD
open Go Go.aw
abbrev Mv:=Nat×aF×Int
def mv(s:List aF)(e:Mv):List aF:=ct s e.1 e.2.1 e.2.2
theorem wT{s:List aF}{i j:Nat}{o p:aF}{a c:Int}:ct (ct s i o a) j p c=ct (ct s j p c) i o a:=by
 by_cases hij:i=j
 .subst hij;by_cases hi:i<s.length
  .simp only[ct,aR,List.getElem?_set_self hi,Option.getD_some,List.set_set,aF.move];congr 2<;>omega
  .simp only[ct,List.set_eq_of_length_le (show s.length<=i by omega)]
 .have hji:¬j=i:=λh=>hij h.symm
  simp only[ct,aR,List.getElem?_set_ne hij,List.getElem?_set_ne hji];rw[List.set_comm _ _ hij]
theorem ack{l l':List Mv}(h:l.Perm l')(s:List aF):l.foldl mv s=l'.foldl mv s:=h.foldl_eq' (λx _ y _ z=>wT) s
theorem ET{s:List aF}{i:Nat}{sign:Int}:ct s i ⟨0,0,0⟩ sign=s:=by
 unfold ct;by_cases hi:i<s.length
 .apply List.ext_getElem
  .simp
  .intro k h1 h2;rw[List.getElem_set];split
   .rename_i h;subst h;simp[aF.move,aR,hi]
   .rfl
 .rw[List.set_eq_of_length_le (by omega)]
theorem Mu{s:List aF}{e f:(Nat×Nat)×aF}:cH (cH s e) f=cH (cH s f) e:=by
 unfold cH;rw[wT (i:=e.1.2) (j:=f.1.1),wT (i:=e.1.1) (j:=f.1.1),wT (i:=e.1.2) (j:=f.1.2),wT (i:=e.1.1) (j:=f.1.2)]
def fl2(e:(Nat×Nat)×aF):List Mv:=[(e.1.1,e.2,-1),(e.1.2,e.2,1)]
theorem QA:∀(es:List ((Nat×Nat)×aF)) (s:List aF),(fM es fl2).foldl mv s=es.foldl cH s
 |[],s=>rfl
 |e::es,s=>by rw[cT,List.foldl_append,QA es];rfl
theorem M9{α β:Type}{a:α->β}{f:α->List β}:∀l:List α,(fM l λi=>a i::f i).Perm (l.map a++fM l f)
 |[] => .nil
 |x::l=>by
  simp only[cT,aL,cF];refine List.Perm.cons _ ?_;have h:=M9 (a:=a) (f:=f) l;refine(h.append_left (f x)).trans ?_;rw[<- bX,<- bX];exact List.perm_append_comm.append_right _
def px(X i:Nat):Int:=((i%X:Nat):Int)
def py(X Y i:Nat):Int:=((i / X%Y:Nat):Int)
def pz(X Y i:Nat):Int:=((i / X / Y:Nat):Int)
def MC(X Y i k:Nat):Bool:=decide ((px X i-px X k)*(px X i-px X k)+(py X Y i-py X Y k)*(py X Y i-py X Y k)+(pz X Y i-pz X Y k)*(pz X Y i-pz X Y k)=1)
def HW(b:b9)(i k:Nat):Bool:=MC b.f.x.toNat b.f.y.toNat i k
theorem sq_pos(u:Int):u=0\/1<=u*u:=by
 rcases Int.lt_trichotomy u 0 with h | h | h
 .right
  have:=Int.mul_pos_of_neg_of_neg h h;omega
 .exact .inl h
 .right
  have:=Int.mul_pos h h;omega
theorem Tn{u:Int}(h:u*u=1):u=1\/u = -1:=by
 rcases Int.lt_trichotomy u 0 with h1 | h1 | h1
 .by_cases h2:u = -1
  .exact .inr h2
  .have h3:0<(-1-u):=by omega
   have h4:=Int.mul_pos h3 (show 0<1-u by omega);have h5:(-1-u)*(1-u)=u*u-1:=by
    rw[Int.sub_mul,Int.mul_sub,Int.mul_sub];omega
   omega
 .rw[h1]at h;simp at h
 .by_cases h2:u=1
  .exact .inl h2
  .have h3:0<u-1:=by omega
   have h4:=Int.mul_pos h3 (show 0<u+1 by omega);have h5:(u-1)*(u+1)=u*u-1:=by
    rw[Int.sub_mul,Int.mul_add];omega
   omega
theorem ac1{u v w:Int}(h:u*u+v*v+w*w=1):((u=1\/u = -1)/\v=0/\w=0)\/(u=0/\(v=1\/v = -1)/\w=0)\/(u=0/\v=0/\(w=1\/w = -1)):=by
 rcases sq_pos u with hu | hu<;>rcases sq_pos v with hv | hv<;>rcases sq_pos w with hw | hw
 .subst hu hv hw;simp at h
 .subst hu hv;refine .inr (.inr ⟨rfl,rfl,Tn (by simpa using h)⟩)
 .subst hu hw;refine .inr (.inl ⟨rfl,Tn (by simpa using h),rfl⟩)
 .subst hu;omega
 .subst hv hw;refine .inl ⟨Tn (by simpa using h),rfl,rfl⟩
 .subst hv;omega
 .subst hw;omega
 .omega
theorem afD{X Y i k:Nat}(h1:k%X=i%X+1)(h2:i / X%Y=k / X%Y)(h3:i / X / Y=k / X / Y):k=i+1/\(i+1)%X≠0:=by
 have a1:=Nat.div_add_mod i X;have a2:=Nat.div_add_mod k X;have b1:=Nat.div_add_mod (i / X) Y;have b2:=Nat.div_add_mod (k / X) Y;rw[<- h2,<- h3]at b2;have h4:k / X=i / X:=by omega
 rw[h4]at a2;have h5:k=i+1:=by omega
 exact⟨h5,by rw[<- h5,h1];omega⟩
theorem afE{X Y i k:Nat}(hY:1<=Y)(h1:i%X=k%X)(h2:k / X%Y=i / X%Y+1)(h3:i / X / Y=k / X / Y):k=i+X/\i / X%Y≠Y-1:=by
 have a1:=Nat.div_add_mod i X;have a2:=Nat.div_add_mod k X;have b1:=Nat.div_add_mod (i / X) Y;have b2:=Nat.div_add_mod (k / X) Y;have b3:=Nat.mod_lt (k / X) hY;rw[<- h3]at b2;have h4:k / X=i / X+1:=by omega
 rw[h4,Nat.mul_add,bR]at a2;exact⟨by omega,by omega⟩
theorem afF{X Y i k:Nat}(h1:i%X=k%X)(h2:i / X%Y=k / X%Y)(h3:k / X / Y=i / X / Y+1):k=i+X*Y:=by
 have a1:=Nat.div_add_mod i X;have a2:=Nat.div_add_mod k X;have b1:=Nat.div_add_mod (i / X) Y;have b2:=Nat.div_add_mod (k / X) Y;rw[h3,Nat.mul_add,bR]at b2;have h4:k / X=i / X+Y:=by omega
 rw[h4,Nat.mul_add]at a2;omega
theorem NI{X i:Nat}(hX:1<=X)(h:(i+1)%X≠0):(i+1) / X=i / X/\(i+1)%X=i%X+1:=by
 have h1:=Nat.div_add_mod i X;have h2:=Nat.mod_lt i hX;have h3:i%X+1<X:=by
  rcases Nat.lt_or_ge (i%X+1) X with h4 | h4
  .exact h4
  .exfalso;apply h
   have:i+1=X*(i / X)+X:=by omega
   rw[this];simp
 have h5:i+1=X*(i / X)+(i%X+1):=by omega
 constructor
 .rw[h5,Nat.mul_add_div (by omega),Nat.div_eq_of_lt h3];omega
 .rw[h5,Nat.mul_add_mod,Nat.mod_eq_of_lt h3]
theorem Zh{X Y i k:Nat}:MC X Y i k=MC X Y k i:=by
 unfold MC;have sq:∀a c:Int,(a-c)*(a-c)=(c-a)*(c-a):=λa c=>by
  rw[show c-a = -(a-c)by omega,Int.neg_mul_neg]
 rw[sq (px X i),sq (py X Y i),sq (pz X Y i)]
theorem Zg{b:b9}(hx:1<=b.f.x.toNat)(hy:1<=b.f.y.toNat){l:Nat×Nat}(hl:l∈zN b):HW b l.1 l.2=true:=by
 simp only[zN,IU,vY,aU]at hl;unfold HW;obtain⟨i,_,hl⟩:=hl;generalize b.f.x.toNat=X at *
 generalize b.f.y.toNat=Y at *
 rcases hl with hl | hl | hl
 .split at hl
  .rename_i hc;simp only[List.mem_singleton]at hl;obtain⟨h1,h2⟩:=NI hx hc;rw[hl];simp only[MC,px,py,pz,h1,h2,au];rw[show((i%X:Nat):Int)-((i%X+1:Nat):Int) = -1 by omega,Int.sub_self,Int.sub_self];rfl
  .simp at hl
 .split at hl
  .rename_i hc;simp only[List.mem_singleton]at hl;have h3:(i+X) / X=i / X+1:=Nat.add_div_right i hx;have h4:(i+X)%X=i%X:=Nat.add_mod_right i X;have h5:(i / X+1)%Y≠0:=by
    intro h0;apply hc;have h6:=Nat.div_add_mod (i / X) Y;have h7:=Nat.mod_lt (i / X) hy;have h8:i / X+1=Y*(i / X / Y)+(i / X%Y+1):=by omega
    rcases Nat.lt_or_ge (i / X%Y+1) Y with h9 | h9
    .rw[h8,Nat.mul_add_mod,Nat.mod_eq_of_lt h9]at h0;omega
    .omega
   obtain⟨h1,h2⟩:=NI hy h5;rw[hl];simp only[MC,px,py,pz,h3,h4,h1,h2,au];rw[show((i / X%Y:Nat):Int)-((i / X%Y+1:Nat):Int) = -1 by omega,Int.sub_self,Int.sub_self];rfl
  .simp at hl
 .split at hl
  .simp only[List.mem_singleton]at hl;have h3:(i+X*Y) / X=i / X+Y:=Nat.add_mul_div_left i Y hx;have h4:(i+X*Y)%X=i%X:=Nat.add_mul_mod_self_left i X Y;have h5:(i / X+Y) / Y=i / X / Y+1:=Nat.add_div_right _ hy;have h6:(i / X+Y)%Y=i / X%Y:=Nat.add_mod_right _ Y;rw[hl];simp only[MC,px,py,pz,h3,h4,h5,h6,au];rw[show((i / X / Y:Nat):Int)-((i / X / Y+1:Nat):Int) = -1 by omega,Int.sub_self,Int.sub_self];rfl
  .simp at hl
theorem afN{b:b9}(hx:1<=b.f.x.toNat)(hy:1<=b.f.y.toNat){i k:Nat}(hi:i<b.n)(hk:k<b.n)(h:HW b i k=true):(i,k)∈zN b\/(k,i)∈zN b:=by
 have one:∀i k:Nat,i<b.n->k<b.n->(k%b.f.x.toNat=i%b.f.x.toNat+1/\i / b.f.x.toNat%b.f.y.toNat=k / b.f.x.toNat%b.f.y.toNat/\i / b.f.x.toNat / b.f.y.toNat=k / b.f.x.toNat / b.f.y.toNat \/
   i%b.f.x.toNat=k%b.f.x.toNat/\k / b.f.x.toNat%b.f.y.toNat=i / b.f.x.toNat%b.f.y.toNat+1/\i / b.f.x.toNat / b.f.y.toNat=k / b.f.x.toNat / b.f.y.toNat \/
   i%b.f.x.toNat=k%b.f.x.toNat/\i / b.f.x.toNat%b.f.y.toNat=k / b.f.x.toNat%b.f.y.toNat/\k / b.f.x.toNat / b.f.y.toNat=i / b.f.x.toNat / b.f.y.toNat+1)->(i,k)∈zN b:=by
  intro i k hi hk hc;refine IU.2 ⟨i,List.mem_range.2 hi,?_⟩;unfold vY;simp only[aU];rcases hc with⟨a1,a2,a3⟩ | ⟨a1,a2,a3⟩ | ⟨a1,a2,a3⟩
  .obtain⟨e,hn⟩:=afD a1 a2 a3;left;rw[if_pos hn,e];simp
  .obtain⟨e,hn⟩:=afE hy a1 a2 a3;right;left;rw[if_pos hn,e];simp
  .have e:=afF a1 a2 a3;right;right;rw[if_pos (by omega),e];simp
 simp only[HW,MC,au]at h;simp only[px,py,pz]at h;rcases ac1 h with⟨h1,h2,h3⟩ | ⟨h1,h2,h3⟩ | ⟨h1,h2,h3⟩
 .rcases h1 with h1 | h1
  .exact .inr (one k i hk hi (.inl ⟨by omega,by omega,by omega⟩))
  .exact .inl (one i k hi hk (.inl ⟨by omega,by omega,by omega⟩))
 .rcases h2 with h2 | h2
  .exact .inr (one k i hk hi (.inr (.inl ⟨by omega,by omega,by omega⟩)))
  .exact .inl (one i k hi hk (.inr (.inl ⟨by omega,by omega,by omega⟩)))
 .rcases h3 with h3 | h3
  .exact .inr (one k i hk hi (.inr (.inr ⟨by omega,by omega,by omega⟩)))
  .exact .inl (one i k hi hk (.inr (.inr ⟨by omega,by omega,by omega⟩)))
def pd(b:b9)(p:List Int)(l:Nat×Nat):Int:=(p[l.1]?).getD 0-weight b l.1-(p[l.2]?).getD 0+weight b l.2
def rq(b:b9)(m:ck)(s:List aF)(p:List Int)(l:Nat×Nat):Int:=min ((aR s l.1).m.tdiv 8) ((min (Ak b m l.1) (Ak b m l.2)*pd b p l).tdiv 1000)
def rE(b:b9)(m:ck)(s:List aF)(p:List Int)(l:Nat×Nat):(Nat×Nat)×aF:=(l,(aR s l.1).out (rq b m s p l))
theorem UW{b:b9}{p:List Int}{l:Nat×Nat}:pd b p (l.2,l.1) = -pd b p l:=by simp only[pd];omega
theorem V4{b:b9}{m:ck}{s:List aF}{p:List Int}{l:Nat×Nat}{e:(Nat×Nat)×aF}(h:C7 b m s p l=some e):(e.1=l\/e.1=(l.2,l.1))/\0<pd b p e.1/\0<rq b m s p e.1/\e=rE b m s p e.1:=by
 unfold C7 at h;have hd:(p[l.1]?).getD 0-weight b l.1-(p[l.2]?).getD 0+weight b l.2=pd b p l:=rfl;simp only[hd]at h;by_cases hn:pd b p l<0
 .simp only[hn,if_true]at h;split at h
  .rename_i hq;simp only[ae]at h;have hs:=UW (b:=b) (p:=p) (l:=l);have hq':0<rq b m s p (l.2,l.1):=by
    unfold rq;rw[hs,Int.min_comm];exact hq
   subst h;refine⟨.inr rfl,by simp only[hs];omega,hq',?_⟩;unfold rE rq;rw[hs,Int.min_comm]
  .cases h
 .simp only[hn,if_false]at h;split at h
  .rename_i hq;simp only[ae]at h;have hq':0<rq b m s p l:=by unfold rq;rw[Int.min_comm];exact hq
   have h0:pd b p l≠0:=by
    intro h0;rw[h0,Int.mul_zero]at hq;simp only[Int.zero_tdiv]at hq;omega
   subst h;refine⟨.inl rfl,by simp only;omega,hq',?_⟩;unfold rE rq;rw[Int.min_comm]
  .cases h
theorem IJ{b:b9}{m:ck}{s:List aF}{p:List Int}{l k:Nat×Nat}(hk:k=l\/k=(l.2,l.1))(h1:0<pd b p k)(h2:0<rq b m s p k):C7 b m s p l=some (rE b m s p k):=by
 unfold C7;have hd:(p[l.1]?).getD 0-weight b l.1-(p[l.2]?).getD 0+weight b l.2=pd b p l:=rfl;simp only[hd];rcases hk with rfl | rfl
 .have hn:¬pd b p k<0:=by omega
  simp only[hn,if_false];unfold rq at h2;rw[Int.min_comm]at h2;rw[if_pos h2];unfold rE rq;rw[Int.min_comm]
 .have hs:=UW (b:=b) (p:=p) (l:=l);rw[hs]at h1;have hn:pd b p l<0:=by omega
  simp only[hn,if_true];unfold rq at h2;rw[hs,Int.min_comm]at h2;rw[if_pos h2];unfold rE rq;rw[hs,Int.min_comm]
structure MV(b:b9)(m:ck)(s:List aF)(p:List Int)(es:List ((Nat×Nat)×aF))(done:List (Nat×Nat)):Prop where
 nd:(es.map (·.1)).Nodup
 is:∀e∈es,e=rE b m s p e.1/\0<pd b p e.1/\0<rq b m s p e.1/\(e.1∈done\/(e.1.2,e.1.1)∈done)
 all:∀l∈done,∀k:Nat×Nat,(k=l\/k=(l.2,l.1))->0<pd b p k->0<rq b m s p k->rE b m s p k∈es
theorem MV.step{b:b9}{m:ck}{s:List aF}{p:List Int}{es:List ((Nat×Nat)×aF)}{done:List (Nat×Nat)}(h:MV b m s p es done)(l:Nat×Nat):MV b m s p (kn b m s p es l) (done++[l]):=by
 unfold kn;cases hf:C7 b m s p l with
 |none =>
  refine⟨h.nd,λe he=>?_,λx hx k hk h1 h2=>?_⟩
  .obtain⟨a1,a2,a3,a4⟩:=h.is e he;exact⟨a1,a2,a3,a4.imp (λy=>by simp[y]) (λy=>by simp[y])⟩
  .rcases aU.1 hx with hx | hx
   .exact h.all x hx k hk h1 h2
   .rw[List.mem_singleton.1 hx]at hk;rw[IJ hk h1 h2]at hf;cases hf
 |some e =>
  obtain⟨b1,b2,b3,b4⟩:=V4 hf;simp only;unfold S8;cases hi:es.findIdx? (λx=>x.1 == e.1)with
  |some j =>
   obtain⟨hj,hj1,_⟩:=List.findIdx?_eq_some_iff_getElem.1 hi;have hje:es[j]=e:=by
    obtain⟨a1,_⟩:=h.is es[j] (List.getElem_mem hj);have:es[j].1=e.1:=by simpa using hj1
    rw[a1,this,<- b4]
   have hset:es.set j (e.1,e.2)=es:=by
    rw[show((e.1,e.2):(Nat×Nat)×aF)=e from rfl,<- hje];exact List.set_getElem_self hj
   simp only[hset];refine⟨h.nd,λx hx=>?_,λx hx k hk h1 h2=>?_⟩
   .obtain⟨a1,a2,a3,a4⟩:=h.is x hx;exact⟨a1,a2,a3,a4.imp (λy=>by simp[y]) (λy=>by simp[y])⟩
   .rcases aU.1 hx with hx | hx
    .exact h.all x hx k hk h1 h2
    .rw[List.mem_singleton.1 hx]at hk;have h3:=IJ hk h1 h2;rw[hf]at h3;rw[<- Option.some.inj h3,<- hje];exact List.getElem_mem hj
  |none =>
   have hno:=List.findIdx?_eq_none_iff.1 hi;refine⟨?_,λx hx=>?_,λx hx k hk h1 h2=>?_⟩
   .rw[List.map_append,List.nodup_append];refine⟨h.nd,by simp,?_⟩;intro a ha c hc;obtain⟨y,hy,rfl⟩:=bO.1 ha;simp only[aL,cc,List.mem_singleton]at hc;subst hc;have:=hno y hy;simpa using this
   .rcases aU.1 hx with hx | hx
    .obtain⟨a1,a2,a3,a4⟩:=h.is x hx;exact⟨a1,a2,a3,a4.imp (λy=>by simp[y]) (λy=>by simp[y])⟩
    .rw[List.mem_singleton.1 hx];refine⟨b4,b2,b3,?_⟩;rcases b1 with b1 | b1
     .left;rw[b1];simp
     .right;rw[b1];simp
   .rcases aU.1 hx with hx | hx
    .exact List.mem_append_left _ (h.all x hx k hk h1 h2)
    .rw[List.mem_singleton.1 hx]at hk;have h3:=IJ hk h1 h2;rw[hf]at h3;rw[<- Option.some.inj h3];exact List.mem_append_right _ (by simp)
theorem V6{b:b9}{m:ck}{s:List aF}:MV b m s (bf b m s) (sK b m s) (zN b):=by
 have key:∀(ls done:List (Nat×Nat)) (es:List ((Nat×Nat)×aF)),MV b m s (bf b m s) es done->MV b m s (bf b m s) (ls.foldl (kn b m s (bf b m s)) es) (done++ls):=by
  intro ls;induction ls with
  |nil=>intro done es h;simpa using h
  |cons l ls ih =>
   intro done es h;have:=ih _ _ (h.step l);simpa using this
 have:=key (zN b) [] [] ⟨List.nodup_nil,by simp,by simp⟩;simpa[sK]using this
def prs(n:Nat):List (Nat×Nat):=fM (List.range n) λi=>(List.range n).map λk=>(i,k)
theorem UY{n:Nat}{l:Nat×Nat}:l∈prs n↔l.1<n/\l.2<n:=by
 simp only[prs,IU,List.mem_range,bO];constructor
 .rintro⟨i,hi,k,hk,rfl⟩;exact⟨hi,hk⟩
 .intro h;exact⟨l.1,h.1,l.2,h.2,rfl⟩
theorem Wv(n:Nat):(prs n).Nodup:=by
 unfold prs;rw[List.Nodup,Rc];refine⟨λi _=>?_,?_⟩
 .rw[List.pairwise_map];exact List.Pairwise.imp (λh he=>h (by simpa using he)) List.nodup_range
 .refine List.Pairwise.imp (λ{a c} h x hx y hy he=>?_) (List.nodup_range (n:=n));simp only[bO]at hx hy;obtain⟨k,_,rfl⟩:=hx;obtain⟨k',_,rfl⟩:=hy;simp only[ak]at he;exact h he.1
def acG(b:b9)(m:ck)(s:List aF):List ((Nat×Nat)×aF):=((prs b.n).filter λl=>HW b l.1 l.2 && decide (0<pd b (bf b m s) l)).map (rE b m s (bf b m s))
theorem drop_zero{b:b9}{m:ck}{s:List aF}{p:List Int}:∀(l:List (Nat×Nat)) (t:List aF),(∀k∈l,¬0<rq b m s p k->rq b m s p k=0)->(l.map (rE b m s p)).foldl cH t=((l.filter λk=>decide (0<rq b m s p k)).map (rE b m s p)).foldl cH t
 |[],t,_=>rfl
 |k::l,t,h=>by
  have ih:=λt=>drop_zero l t (λx hx=>h x (List.mem_cons_of_mem _ hx))
  by_cases hk:0<rq b m s p k
  .rw[List.filter_cons_of_pos (by simpa using hk),aL,aL,List.foldl_cons,List.foldl_cons,ih]
  .have h0:=h k (List.mem_cons_self ..) hk;rw[List.filter_cons_of_neg (by simpa using hk),aL,List.foldl_cons,ih];have hz:(rE b m s p k).2=⟨0,0,0⟩:=by simp[rE,h0,aF.out]
   unfold cH;rw[hz,ET,ET]
theorem SJ{b:b9}{m:ck}{s:List aF}(hx:1<=b.f.x.toNat)(hy:1<=b.f.y.toNat)(hin:∀l∈zN b,l.1<b.n/\l.2<b.n)(hm:∀i,0<=(aR s i).m)(ho:∀i,i<b.n->0<=Ak b m i)(t:List aF):(acG b m s).foldl cH t=(sK b m s).foldl cH t:=by
 have hF:=V6 (b:=b) (m:=m) (s:=s);unfold acG;rw[drop_zero _ t (λk hk hq=>?_)]
 .refine List.Perm.foldl_eq' ?_ (λx _ y _ z=>Mu) t;refine(List.perm_ext_iff_of_nodup ?_ ?_).2 ?_
  .rw[List.Nodup,List.pairwise_map];refine List.Pairwise.imp (λh he=>h ?_) ((Wv b.n).filter _ |>.filter _);exact(congrArg Prod.fst he:_)
  .have:=hF.nd;rw[List.Nodup,List.pairwise_map]at this;exact this.imp λh he=>h (by rw[he])
  .intro x;simp only[bO,db,af,au,UY];constructor
   .rintro⟨k,⟨⟨⟨k1,k2⟩,k3,k4⟩,k5⟩,rfl⟩;rcases afN hx hy k1 k2 k3 with hl | hl
    .exact hF.all _ hl k (.inl rfl) k4 k5
    .exact hF.all _ hl k (.inr rfl) k4 k5
   .intro hxm;obtain⟨a1,a2,a3,a4⟩:=hF.is x hxm;refine⟨x.1,⟨⟨?_,?_,a2⟩,a3⟩,a1.symm⟩
    .rcases a4 with a4 | a4
     .exact hin _ a4
     .have:=hin _ a4;exact⟨this.2,this.1⟩
    .rcases a4 with a4 | a4
     .exact Zg hx hy a4
     .unfold HW;rw[Zh];exact Zg hx hy a4
 .have hk':=db.1 hk;simp only[af,au]at hk';obtain⟨hkp,_,hpd⟩:=hk';obtain⟨k1,k2⟩:=UY.1 hkp;have h1:0<=(aR s k.1).m.tdiv 8:=Int.tdiv_nonneg (hm _) (by omega);have h2:0<=min (Ak b m k.1) (Ak b m k.2):=by have:=ho _ k1;have:=ho _ k2;omega
  have h3:0<=(min (Ak b m k.1) (Ak b m k.2)*pd b (bf b m s) k).tdiv 1000:=Int.tdiv_nonneg (bF h2 (by omega)) (by omega);unfold rq at hq ⊢;omega
def ue(b:b9)(m:ck)(s:List aF)(i:Nat)(next:List aF)(k:Nat):List aF:=if HW b i k=true/\0<pd b (bf b m s) (i,k)then cH next (rE b m s (bf b m s) (i,k))else next
def OY(b:b9)(m:ck)(s next:List aF)(i:Nat):List aF:=(List.range b.n).foldl (ue b m s i) (ct next i (JJ b m i) 1)
def rL(s next:List aF)(w:bN)(r:Int):List aF:=if 0<r then ct next w.b.toNat ((aR s w.b.toNat).out (min r ((aR s w.b.toNat).m.tdiv 8))) (-1)else ct next w.b.toNat (w.given r) 1
def U1(b:b9)(m:ck)(s:List aF)(aH:List Int):List aF:=(b.ar.zip aH).foldl (λn wr=>rL s n wr.1 wr.2) ((List.range b.n).foldl (OY b m s) s)
theorem Ta{s next:List aF}{w:bN}{r:Int}(hm:∀i,0<=(aR s i).m):rL s next w r=lL s next w r:=by
 unfold rL lL gS;rcases Int.lt_trichotomy r 0 with h | h | h
 .rw[if_neg (by omega),if_pos h]
 .subst h;have h1:0<=(aR s w.b.toNat).m.tdiv 8:=Int.tdiv_nonneg (hm _) (by omega);have h2:min 0 ((aR s w.b.toNat).m.tdiv 8)=0:=by omega
  have h3:(aR s w.b.toNat).out 0=⟨0,0,0⟩:=by simp[aF.out]
  have h4:w.given 0=⟨0,0,0⟩:=by simp[bN.given]
  simp only[Int.lt_irrefl,if_false,h2,h3,h4,ET]
 .rw[if_pos h,if_neg (by omega),if_neg (by omega)]
def wmv(s:List aF)(wr:bN×Int):Mv:=if wr.2<0 then(wr.1.b.toNat,wr.1.given wr.2,1)else(wr.1.b.toNat,gS s wr.1 wr.2,-1)
theorem Mj(s:List aF):∀(l:List (bN×Int)) (t:List aF),l.foldl (λn wr=>lL s n wr.1 wr.2) t=(l.map (wmv s)).foldl mv t
 |[],t=>rfl
 |x::l,t=>by
  rw[List.foldl_cons,aL,List.foldl_cons,Mj s l];congr 1;unfold lL mv wmv;split<;>rfl
def fmv(b:b9)(m:ck)(i:Nat):Mv:=(i,JJ b m i,1)
def ZT(b:b9)(m:ck)(s:List aF)(i:Nat):List Mv:=fM ((List.range b.n).filter λk=>HW b i k && decide (0<pd b (bf b m s) (i,k))) λk=>fl2 (rE b m s (bf b m s) (i,k))
theorem ZV{b:b9}{m:ck}{s:List aF}{i:Nat}:∀(l:List Nat) (t:List aF),l.foldl (ue b m s i) t=(fM (l.filter λk=>HW b i k && decide (0<pd b (bf b m s) (i,k))) λk=>fl2 (rE b m s (bf b m s) (i,k))).foldl mv t
 |[],t=>rfl
 |k::l,t=>by
  rw[List.foldl_cons,ZV l];unfold ue;by_cases hc:HW b i k=true/\0<pd b (bf b m s) (i,k)
  .rw[if_pos hc,List.filter_cons_of_pos (by simpa using hc),cT,List.foldl_append];rfl
  .rw[if_neg hc,List.filter_cons_of_neg (by simpa using hc)]
theorem U4{b:b9}{m:ck}{s:List aF}:∀(l:List Nat) (t:List aF),l.foldl (OY b m s) t=(fM l λi=>fmv b m i::ZT b m s i).foldl mv t
 |[],t=>rfl
 |i::l,t=>by
  rw[List.foldl_cons,U4 l,cT,List.foldl_append,List.foldl_cons];congr 1;exact ZV _ _
theorem age{b:b9}{m:ck}{s:List aF}:fM (acG b m s) fl2=fM (List.range b.n) (ZT b m s):=by
 unfold acG prs ZT;rw[SH,V2,YS];congr 1;funext i;rw[List.filter_map,SH];rfl
theorem ZN{b:b9}{m:ck}{s:List aF}{aH:List Int}(hx:1<=b.f.x.toNat)(hy:1<=b.f.y.toNat)(hin:∀l∈zN b,l.1<b.n/\l.2<b.n)(hm:∀i,0<=(aR s i).m)(ho:∀i,i<b.n->0<=Ak b m i)(hl:s.length=b.n):U1 b m s aH=lZ b m s aH:=by
 unfold U1 lZ;have e1:(λ(n:List aF) (wr:bN×Int)=>rL s n wr.1 wr.2)=λn wr=>lL s n wr.1 wr.2:=by
  funext n wr;exact Ta hm
 have e2:(λ(n:List aF) (i:Nat)=>ct n i (JJ b m i) 1)=λn i=>mv n (fmv b m i):=rfl
 rw[e1,U4,Mj];simp only[Mj,<- SJ hx hy hin hm ho];have e3:∀X:List aF,(List.range b.n).foldl (λn i=>mv n (fmv b m i)) X=((List.range b.n).map (fmv b m)).foldl mv X:=λX=>by rw[List.foldl_map]
 rw[<- QA,age,<- List.foldl_append,<- List.foldl_append,hl,e2,e3,<- List.foldl_append];refine ack ?_ s;refine((M9 _).append_right _).trans ?_;rw[bX];refine List.perm_append_comm.trans ?_;rfl
end Go.aD
namespace Go.Proofs.YtpapbbojmclkgaaGreatDoor
open Go Go.aw Go.aD
variable {J:SK}
theorem aaC{n d:Int}(hn : -200000000000<=n/\n<=200000000000)(hd:1<=d/\d<=100000):Cl 185 [iI n,iI d] (iI (down n d)) J:=by
 refine an ?_;have h1:=Int.mul_tdiv_add_tmod n d;have h2:=Int.tmod_lt_of_pos n (show 0<d by omega);have h3:=Int.lt_tmod_of_pos n (show 0<d by omega);have h5:0<=n->0<=n.tmod d:=λh=>Int.tmod_nonneg d h
 have h6:n<=0->n.tmod d<=0:=λh=>by
  have:=Int.tmod_nonneg d (show 0 <= -n by omega);rw[Int.neg_tmod]at this;omega
 unfold down;generalize hq:n.tdiv d=q at *
 generalize hrr:n.tmod d=r at *
 have h4:d*q=q*d:=Int.mul_comm _ _;have hb : -200000100001<=q/\q<=200000100001:=by
  rcases fk 0 q with h | h
  .have:=Int.mul_le_mul_of_nonneg_left hd.1 h;omega
  .have:=Int.mul_le_mul_of_nonpos_left h hd.1;omega
 have w1:=bV (n:=q);have w2:=bV (n:=r);have w3:=bV (n:=q-1);have hne:¬d=0:=by omega
 have key:n / d=if r≠0/\n<0 then q-1 else q:=by
  split
  .rename_i hc;refine((Int.ediv_emod_unique (r:=r+d) (show 0<d by omega)).2 ⟨?_,?_,?_⟩).1
   .rw[Int.mul_sub];omega
   .omega
   .have:=h6 (by omega);omega
  .rename_i hc;refine((Int.ediv_emod_unique (r:=r) (show 0<d by omega)).2 ⟨?_,?_,?_⟩).1
   .omega
   .rcases fk 0 n with h | h
    .exact h5 h
    .have:=h6 h;omega
   .omega
 rw[key];by_cases hc:r=0
 .simp[hq,hrr,w1,hne,hc]
 .by_cases hc2:n<0<;>simp[hq,hrr,w1,w3,hne,hc,hc2]
def HT(b:b9)(i:Nat):Int:=((i / (b.f.x.toNat*b.f.y.toNat):Nat):Int)
theorem Kx{b:b9}(h:Bv b){i:Nat}(hi:i<b.n):Cl 179 [.agg (bL b),iI i] (iI (HT b i)) J:=by
 refine an ?_;have hx:=h.x;have hy:=h.y;have hn:=h.n;obtain⟨s1,_⟩:=dK.sz h.x h.y h.z;have w1:=bV (n:=b.f.x*b.f.y);have e1:b.f.x*b.f.y=((b.f.x.toNat*b.f.y.toNat:Nat):Int):=by push_cast;rw[dW (by omega),dW (by omega)]
 have e2:(i:Int) / (b.f.x*b.f.y)=HT b i:=by
  rw[e1];rfl
 have e3:(i:Int).tdiv (b.f.x*b.f.y)=HT b i:=by
  rw[e1];rfl
 have hle:i / (b.f.x.toNat*b.f.y.toNat)<=i:=Nat.div_le_self _ _;have hq2:0<=HT b i/\HT b i<=64:=by
  have:i / (b.f.x.toNat*b.f.y.toNat)<=64:=by omega
  exact⟨Int.natCast_nonneg _,Int.ofNat_le.2 this⟩
 have w2:=bV (n:=HT b i);have⟨hne,hnx,hny⟩:¬b.f.x*b.f.y=0/\¬b.f.x=0/\¬b.f.y=0:=by omega
 simp[w1,hne,e3,w2]
theorem P4{b:b9}{D5:D}{s:List aD.aF}{i:Nat}{x:aD.aF}(hx:s[i]?=some x)(hm:0<=x.m/\x.m<=1000000)(ht:∀r∈b.dX,r.alone=true)(hl:b.dX.length<=1000):∀(n j:Nat) (o:Int),j+n=b.dX.length ->
  WL T [2,3,4,10,11] false va [(2,lF s aF.enc),(3,iI i),(4,.bq (bL b)),(10,iI o),(11,iI j)] J
   (λx' e J'=>J'=J/\x'=.exit 0/\get e 10=iI ((b.dX.drop j).foldl (gR x) o))
 |0,j,o,hj=>by
  refine aK ?_;have h1:¬j<b.dX.length:=by omega
  have h2:b.dX.drop j=[]:=ec;simp[h1,h2]
 |n+1,j,o,hj=>by
  refine aK ?_;have h1:j<b.dX.length:=by omega
  obtain⟨r,hr⟩:=gE h1;have hrb:=Te (ht r (ah hr));have h2:=bx (f:=Rw.enc) (w:=5) hr;have h3:=bx (f:=aF.enc) (w:=3) hx;have h4:=cj h1;have h5:=bj hr;have hi:i<s.length:=(aA.1 hx).1;have b1:=iE hrb.2.1 hrb.2.2 hm.1 hm.2;have w1:=bV (n:=r.l*x.m);have ih:=P4 (D5:=D5) hx hm ht hl n (j+1) (gR x o r) (by omega);rw[h5];simp only[List.foldl_cons];by_cases hc:r.l*x.m<=x.h
  .have hm2:max o r.p=gR x o r:=by unfold gR;rw[if_pos hc]
   simp[h1,h2,h3,h4,hi,w1,hc];refine WL.to ih (by simp[gR,hc]) rfl λx e J hh=>hh
  .simp[h1,h2,h3,h4,hi,w1,hc];refine WL.to ih (by simp[gR,hc]) rfl λx e J hh=>hh
theorem KA{b:b9}{m:ck}{s:List aD.aF}(h:Fv b m)(hs:Sv b s){i:Nat}(hi:i<b.n):
  Cl 141 [.agg (bL b),.agg (mL m),lF s aF.enc,iI i] (iI (dE b m s i)) J:=by
 refine an ?_;have hw:=λJ=>Kx (J:=J) h.bv hi
 have ho:=λJ=>qT (J:=J) h.toMv (k:=0) (by omega) hi
 rw[show jx b m 0 i=hold b m i from rfl]at ho;simp only[show((0:Nat):Int)=0 from rfl]at ho;have b1:=h.hold i hi;obtain⟨hx,b2,b3,b4⟩:=hs.at hi;have hil:i<s.length:=by have:=hs.len;omega
 have hil':(i:Int)<s.length:=by omega
 have hst:=h.bv.cJ;have b5:=xa h.bv hi;have e5:HT b i*b.lift=weight b i:=rfl;have b6 : -100000000000<=b.cJ*((aR s i).m-hold b m i)/\b.cJ*((aR s i).m-hold b m i)<=100000000000:=by
  rcases fk (hold b m i) (aR s i).m with hh | hh
  .have:=iE (a:=b.cJ) (b:=(aR s i).m-hold b m i) (A:=100000) (B:=1000000) (by omega) hst.2 (by omega) (by omega);omega
  .have:=iE (a:=b.cJ) (b:=hold b m i-(aR s i).m) (A:=100000) (B:=1000000) (by omega) hst.2 (by omega) (by omega);have e:b.cJ*((aR s i).m-hold b m i) = - (b.cJ*(hold b m i-(aR s i).m)):=by rw[<- Int.mul_neg];congr 1;omega
   omega
 have hd:=λJ=>aaC (J:=J) (n:=b.cJ*((aR s i).m-hold b m i)) (d:=hold b m i) (by omega) (by omega)
 have b7 : -100000000000<=down (b.cJ*((aR s i).m-hold b m i)) (hold b m i)/\down (b.cJ*((aR s i).m-hold b m i)) (hold b m i)<=100000000000:=by
  unfold down;constructor
  .rw[Int.le_ediv_iff_mul_le (by omega)];omega
  .have:=Int.ediv_le_self (b:=hold b m i) (a:=b.cJ*((aR s i).m-hold b m i));rcases fk 0 (b.cJ*((aR s i).m-hold b m i))with hh | hh
   .have:=this hh;omega
   .have:=Int.ediv_le_of_le_mul (b:=0) (show 0<hold b m i by omega) (by omega:b.cJ*((aR s i).m-hold b m i)<=0*hold b m i);omega
 have w0:=bV (n:=weight b i);have w1:=bV (n:=(aR s i).m-hold b m i);have w2:=bV (n:=b.cJ*((aR s i).m-hold b m i));have w3:=bV (n:=weight b i+down (b.cJ*((aR s i).m-hold b m i)) (hold b m i));have h3:=bx (f:=aF.enc) (w:=3) hx;have htab:=h.bv.dX;simp only[fP,af]at htab;have ht:=aS.1 htab.1;simp[hw,ho,hil',h3,e5,w0,w1,w2,hd,w3];refine WL.to (P4 (D5:=.undef) (J:=[]::J) hx ⟨by omega,by omega⟩ (ff.1 htab.2.1) (by omega) b.dX.length 0 (max 0 (weight b i+down (b.cJ*((aR s i).m-hold b m i)) (hold b m i))) (by omega)) (by simp) rfl ?_;rintro x e J' ⟨rfl,rfl,g⟩;simp[g,dE]
theorem Vo{b:b9}(h:Bv b){i k:Nat}(hi:i<b.n)(hk:k<b.n):Cl 180 [.agg (bL b),iI i,iI k] (.bool (HW b i k)) J:=by
 refine an ?_;have hx:=h.x;have hy:=h.y;have hn:=h.n;have⟨eX,eY⟩:b.f.x=(b.f.x.toNat:Int)/\b.f.y=(b.f.y.toNat:Int):=by omega
 have e1:∀i:Nat,(i:Int).tmod b.f.x=((i%b.f.x.toNat:Nat):Int):=λi=>by
  conv=>lhs;rw[eX]
  rfl
 have e2:∀i:Nat,(i:Int).tdiv b.f.x=((i / b.f.x.toNat:Nat):Int):=λi=>by
  conv=>lhs;rw[eX]
  rfl
 have e2':∀i:Nat,(i:Int) / b.f.x=((i / b.f.x.toNat:Nat):Int):=λi=>by
  conv=>lhs;rw[eX]
  rfl
 have e3:∀i:Nat,(i:Int).tmod b.f.y=((i%b.f.y.toNat:Nat):Int):=λi=>by
  conv=>lhs;rw[eY]
  rfl
 have e4:∀i:Nat,(i:Int).tdiv b.f.y=((i / b.f.y.toNat:Nat):Int):=λi=>by
  conv=>lhs;rw[eY]
  rfl
 have e4':∀i:Nat,(i:Int) / b.f.y=((i / b.f.y.toNat:Nat):Int):=λi=>by
  conv=>lhs;rw[eY]
  rfl
 have⟨hx0,hy0⟩:¬b.f.x=0/\¬b.f.y=0:=by omega
 have a1:i / b.f.x.toNat<=i:=Nat.div_le_self _ _;have a2:i / b.f.x.toNat / b.f.y.toNat<=i / b.f.x.toNat:=Nat.div_le_self _ _;have a3:i / b.f.x.toNat%b.f.y.toNat<=i / b.f.x.toNat:=Nat.mod_le _ _;have a4:i%b.f.x.toNat<=i:=Nat.mod_le _ _;have b1:k / b.f.x.toNat<=k:=Nat.div_le_self _ _;have b2:k / b.f.x.toNat / b.f.y.toNat<=k / b.f.x.toNat:=Nat.div_le_self _ _;have b3:k / b.f.x.toNat%b.f.y.toNat<=k / b.f.x.toNat:=Nat.mod_le _ _;have b4:k%b.f.x.toNat<=k:=Nat.mod_le _ _;unfold HW MC px py pz;have q1:=e1 i;have q2:=e1 k;have q3:=e2 i;have q4:=e2 k;have q3':=e2' i;have q4':=e2' k;have q5:=e3 (i / b.f.x.toNat);have q6:=e3 (k / b.f.x.toNat);have q7:=e4 (i / b.f.x.toNat);have q8:=e4 (k / b.f.x.toNat);have q7':=e4' (i / b.f.x.toNat);have q8':=e4' (k / b.f.x.toNat);clear e1 e2 e2' e3 e4 e4';generalize i / b.f.x.toNat / b.f.y.toNat=A1 at *
 generalize i / b.f.x.toNat%b.f.y.toNat=A2 at *
 generalize i / b.f.x.toNat=A4 at *
 generalize i%b.f.x.toNat=A3 at *
 generalize k / b.f.x.toNat / b.f.y.toNat=B1 at *
 generalize k / b.f.x.toNat%b.f.y.toNat=B2 at *
 generalize k / b.f.x.toNat=B4 at *
 generalize k%b.f.x.toNat=B3 at *
 have sq:∀u:Int,-64<=u/\u<=64->0<=u*u/\u*u<=4096:=λu hu=>by
  rcases fk 0 u with h | h
  .have:=iE h hu.2 h hu.2;omega
  .have:=iE (a := -u) (b := -u) (A:=64) (B:=64) (by omega) (by omega) (by omega) (by omega);rw[Int.neg_mul_neg]at this;omega
 have s1:=sq ((A3:Int)-B3) (by omega);have s2:=sq ((A2:Int)-B2) (by omega);have s3:=sq ((A1:Int)-B1) (by omega);have v1:=bV (n:=(A1:Int));have v2:=bV (n:=(A2:Int));have v3:=bV (n:=(A3:Int));have v4:=bV (n:=(A4:Int));have v5:=bV (n:=(B1:Int));have v6:=bV (n:=(B2:Int));have v7:=bV (n:=(B3:Int));have v8:=bV (n:=(B4:Int));have w1:=bV (n:=(A1:Int)-B1);have w2:=bV (n:=(A2:Int)-B2);have w3:=bV (n:=(A3:Int)-B3);have y1:=bV (n:=((A3:Int)-B3)*((A3:Int)-B3));have y2:=bV (n:=((A2:Int)-B2)*((A2:Int)-B2));have y3:=bV (n:=((A1:Int)-B1)*((A1:Int)-B1));have y4:=bV (n:=((A3:Int)-B3)*((A3:Int)-B3)+((A2:Int)-B2)*((A2:Int)-B2));have y5:=bV (n:=((A3:Int)-B3)*((A3:Int)-B3)+((A2:Int)-B2)*((A2:Int)-B2)+((A1:Int)-B1)*((A1:Int)-B1));simp[q1,q2,q3,q4,q5,q6,q7,q8,hx0,hy0,v1,v4,v5,v8,w1,w2,w3,y1,y2,y3,y4,y5];rfl
theorem Xd{x:aD.aF}{q:Int}(hm:1<=x.m/\x.m<=1000000)(hh:0<=x.h/\x.h<=10000000000)(hk:0<=x.k/\x.k<=1000000000000)(hq:0<=q/\q<=x.m):
  Cl 181 [.agg x.enc,iI q] (.agg (x.out q).enc) J:=by
 refine an ?_;have b1:=iE hh.1 hh.2 hq.1 (show q<=1000000 by omega);have b2:=iE hk.1 hk.2 hq.1 (show q<=1000000 by omega);have b3:=JQ hm.1 hh hq;have b4:=JQ hm.1 hk hq;have w1:=bV (n:=x.h*q);have w2:=bV (n:=x.k*q);have w3:=bV (n:=(x.h*q).tdiv x.m);have w4:=bV (n:=(x.k*q).tdiv x.m);have hne:¬x.m=0:=by omega
 simp[w1,w2,w3,w4,hne,aD.aF.out]
theorem NZ{x o:aD.aF}(h1:sm x 1000000000000000000)(h2:sm o 1000000000000000000):Cl 177 [.agg x.enc,.agg o.enc] (.agg (x.move o 1).enc) J:=by
 refine an ?_;obtain⟨a1,a2,a3⟩:=h1;obtain⟨c1,c2,c3⟩:=h2;have w1:=bV (n:=x.m+o.m);have w2:=bV (n:=x.h+o.h);have w3:=bV (n:=x.k+o.k);simp[w1,w2,w3,aD.aF.move]
theorem PC{x o:aD.aF}(h1:sm x 1000000000000000000)(h2:sm o 1000000000000000000):Cl 182 [.agg x.enc,.agg o.enc] (.agg (x.move o (-1)).enc) J:=by
 refine an ?_;obtain⟨a1,a2,a3⟩:=h1;obtain⟨c1,c2,c3⟩:=h2;have w1:=bV (n:=x.m-o.m);have w2:=bV (n:=x.h-o.h);have w3:=bV (n:=x.k-o.k);have e:∀a c:Int,a + -1*c=a-c:=λa c=>by omega
 simp only[aD.aF.move,aF.enc];simp[w1,w2,w3];omega
theorem Xa{w:bN}{r:Int}(hr : -100000<=r/\r<=100000)(h1:0<=w.h/\w.h<=3000)(h2:0<=w.m/\w.m<=1000000):
  Cl 183 [.agg w.enc,iI r] (.agg (w.given r).enc) J:=by
 refine an ?_;have b1:=mulR h1 hr;have b2:=mulR h2 hr;have w1:=bV (n := -r);have w2:=bV (n := -(r*w.h));have w3:=bV (n := -(r*w.m));simp[w1,w2,w3,bN.given,Int.neg_mul]
theorem aef{b:b9}{m:ck}(h:Fv b m){i:Nat}(hi:i<b.n):Cl 178 [.agg (bL b),.agg (mL m),iI i] (.agg (JJ b m i).enc) J:=by
 refine an ?_;have hf:=λJ=>qT (J:=J) h.toMv (k:=3) (by omega) hi
 rw[show jx b m 3 i=feed b m i from rfl]at hf;simp only[show((3:Nat):Int)=3 from rfl]at hf;have b1:=h.feed i hi;have b2:=h.bv.deep;have b3:=iE b1.1 b1.2 b2.1 b2.2;have w1:=bV (n:=feed b m i*b.deep);simp[hf,w1,JJ]
theorem aeg{x:aD.aF}:Cl 223 [.agg x.enc] (.bool x.valid) J:=by
 refine an ?_;cases hc1:bI x.m 1 1000000
 .simp[dD,aD.aF.valid,hc1]
 cases hc2:bI x.h 0 10000000000
 .simp[dD,aD.aF.valid,hc1,hc2]
 cases hc3:bI x.k 0 1000000000000
 .simp[dD,aD.aF.valid,hc1,hc2,hc3]
 simp[dD,aD.aF.valid,hc1,hc2,hc3]
theorem P0{b:b9}{s:List aD.aF}(hl:s.length<=1000000000):∀(n i:Nat),i+n=s.length ->
  WL T [1,2,5] false vc [(1,lF s aF.enc),(2,.bq (bL b)),(5,iI i)] J
   (λx e J'=>J'=J/\if dz (s.drop i) aD.aF.valid=true then x=.exit 0/\get e 1=lF s aF.enc/\get e 2=.bq (bL b)else x=.ret/\get e 4=.bool false)
 |0,i,hi=>by
  refine aK ?_;have h1:¬i<s.length:=by omega
  have h2:s.drop i=[]:=ec;simp[h1,h2,dz]
 |n+1,i,hi=>by
  refine aK ?_;have h1:i<s.length:=by omega
  obtain⟨x,hx⟩:=gE h1;have h2:=bx (f:=aF.enc) (w:=3) hx;have h4:=cj h1;have h5:=bj hx;have hO:=λJ=>aeg (J:=J) (x:=x)
  simp only[aF.enc]at hO;have ih:=P0 (b:=b) hl n (i+1) (by omega);have e1:dz (s.drop i) aD.aF.valid=(x.valid && dz (s.drop (i+1)) aD.aF.valid):=by rw[h5];simp[dz]
  rw[e1];cases hc:x.valid
  .simp[h1,h2,hO,hc]
  .simp[h1,h2,h4,hO,hc];exact WL.tg ih λx e J hh=>by simpa using hh
theorem Xg{b:b9}{s:List aD.aF}(h:Bv b)(hl:s.length<=1000000000):Cl 184 [.agg (bL b),lF s aF.enc] (.bool (pH b s)) J:=by
 refine an ?_;have hs:=λJ=>oH (J:=J) h.fv
 simp;refine WL.tg (P0 (J:=[]::J) (b:=b) hl s.length 0 (by omega)) ?_;rintro x e J' ⟨rfl,hh⟩;rw[az]at hh;unfold pH;cases hc:dz s aD.aF.valid
 .simp[hc]at hh;simp[hh]
 .simp[hc]at hh;by_cases hc1:(s.length:Int)=b.size
  .have hc2:(s.length:Int)=b.f.size:=hc1;simp[hh,hs,hc1];rfl
  .have hc2:¬(s.length:Int)=b.f.size:=hc1;simp[hh,hs,hc1,hc2]
theorem PZ{b:b9}{m:ck}(h:Fv b m):∀(n i:Nat),i+n=b.n ->
  WL T [2,3,5,6] false vb [(2,.bq (bL b)),(3,.bq (mL m)),(5,.sl J.length 0 i 0 i 3),(6,iI i)] ([.cells i (fM ((cf b m).take i) aF.enc)]::J)
   (λx e J'=>x=.exit 0/\get e 5=.sl J.length 0 b.n 0 b.n 3/\J'=[.cells b.n (fM (cf b m) aF.enc)]::J)
 |0,i,hi=>by
  refine aK ?_;obtain rfl:i=b.n:=by omega
  have hs:=λJ=>oH (J:=J) h.bv.fv
  have hz:=h.bv.sz;have hz':b.f.size=(b.n:Int):=hz;have h3:(cf b m).take b.n=cf b m:=aW (by simp[nQ]);simp[h3,hs,hz']
 |n+1,i,hi=>by
  refine aK ?_;have h1:i<b.n:=by omega
  have hn:=h.bv.n;have hs:=λJ=>oH (J:=J) h.bv.fv
  have hz':b.f.size=(b.n:Int):=h.bv.sz;have h1':(i:Int)<b.n:=by omega
  have h4:=cj h1;have ho:=λJ=>qT (J:=J) h.toMv (k:=0) (by omega) h1
  have hw:=λJ=>qT (J:=J) h.toMv (k:=2) (by omega) h1
  rw[show jx b m 0 i=hold b m i from rfl]at ho;rw[show jx b m 2 i=Im b m i from rfl]at hw;simp only[show((0:Nat):Int)=0 from rfl,show((2:Nat):Int)=2 from rfl]at ho hw;have b1:=h.hold i h1;have b2:=h.Im i h1;have b3:=iE (by omega:0<=hold b m i) b1.2 b2.1 b2.2;have w1:=bV (n:=hold b m i*Im b m i);have ih:=PZ h n (i+1) (by omega);have hx:(cf b m)[i]?=some ⟨hold b m i,hold b m i*Im b m i,0⟩:=by simp[cf,h1]
  have a3:=Cw (f:=aF.enc) hx;have a4:=sZ ((cf b m).take i);rw[dp,nQ,Nat.min_eq_left (by omega)]at a4;have a6:(fM ((cf b m).take i) aF.enc).take (i*3)=fM ((cf b m).take i) aF.enc:=cZ;have h7:(i+1)*24<=room:=by unfold room;omega
  simp[h1',h4,hs,hz',ho,hw,w1,a4,a6,h7];refine WL.to ih (by simp[]) (by simp[<- a3]) λx e J hh=>hh
theorem KB{b:b9}{m:ck}(h:Fv b m)(hJ:J≠[]):Cl 139 [.agg (bL b),.agg (mL m)] (.bZ b.n (fM (cf b m) aF.enc)) J:=by
 refine an ?_;simp[];refine WL.ts (PZ (J:=J) h b.n 0 (by omega)) ?_;rintro x e J' ⟨rfl,g5,rfl⟩;have hk:=kb (n:=16) (f:=aF.enc) (w:=3) (l:=cf b m) (j:=0) (v:=b.n) (bs:=[.cells b.n (fM (cf b m) aF.enc)]) (by decide) (λ_=>rfl) (λx=>by simp) hJ rfl
 try simp only[lF]at hk
 rw[nQ]at hk;simp[g5,hk]
theorem aiV{b:b9}{m:ck}(h:Fv b m):∀i,i<b.n->0<=aD.Ak b m i:=λi hi=>(h.Ak i hi).1
theorem adO{b:b9}{m:ck}{s:List aD.aF}(hs:Sv b s){i:Nat}(hi:i<b.n):((bf b m s)[i]?).getD 0=dE b m s i:=by
 have h1:i<s.length:=by have:=hs.len;omega
 simp[bf,h1]
theorem aiY{b:b9}{m:ck}{s:List aD.aF}(hs:Sv b s){i k:Nat}(hi:i<b.n)(hk:k<b.n):pd b (bf b m s) (i,k)=dE b m s i-weight b i-dE b m s k+weight b k:=by
 unfold pd;simp only[adO hs hi,adO hs hk]
theorem alV{b:b9}{m:ck}{s:List aD.aF}(h:Fv b m)(hs:Sv b s){i k:Nat}(hi:i<b.n)(hk:k<b.n)(hd:0<pd b (bf b m s) (i,k)):0<=rq b m s (bf b m s) (i,k)/\rq b m s (bf b m s) (i,k)<=(aR s i).m:=by
 obtain⟨_,m1,_,_⟩:=hs.at hi;have o1:=h.Ak i hi;have o2:=h.Ak k hk;have h1:0<=(aR s i).m.tdiv 8/\(aR s i).m.tdiv 8<=(aR s i).m:=by
  rw[aN (by omega)];omega
 have h3:0<=(min (Ak b m i) (Ak b m k)*pd b (bf b m s) (i,k)).tdiv 1000:=Int.tdiv_nonneg (bF (by omega) (by omega)) (by omega);unfold rq;simp only;omega
theorem UU{b:b9}{s:List aD.aF}(hs:Sv b s){i:Nat}(hi:i<b.n){q:Int}(hq:0<=q/\q<=(aR s i).m):sm ((aR s i).out q) 1000000000000:=by
 obtain⟨_,m1,m2,m3⟩:=hs.at hi;exact OR m1 m2 m3 hq
theorem K5{s:List aD.aF}{i:Nat}{x:aD.aF}(hi:i<s.length):(fM s aF.enc).take (i*3)++(iI x.m::iI x.h::iI x.k::(fM s aF.enc).drop (i*3+3))=fM (s.set i x) aF.enc:=by
 have:=Nq (f:=aF.enc) (w:=3) (λ_=>rfl) (l:=s) (i:=i) (x:=x) hi;simpa using this
theorem Fh{s:List aD.aF}{i:Nat}(hi:i<s.length):((fM s aF.enc).drop (i*3)).take 3=[iI (aR s i).m,iI (aR s i).h,iI (aR s i).k] :=
 bx (f:=aF.enc) (w:=3) (by simp[aR,hi])
theorem zQ{s:List aD.aF}{i:Nat}{o:aD.aF}{a:Int}:(ct s i o a).length=s.length:=by simp[ct]
theorem abr{b:b9}{m:ck}{s:List aD.aF}{aH:List Int}(h:Fv b m)(hs:Sv b s){i:Nat}(hi:i<b.n):∀(n k:Nat) (next:List aD.aF) (N:Int),k+n=b.n->next.length=b.n->CM N next->0<=N->N+2000000000000*n<=100000000000000000 ->
  WL T [2,3,4,5,11,12,13] false vd [(2,lF s aF.enc),(3,lF aH aQ),(4,.bq (bL b)),(5,.bq (mL m)),(11,.sl J.length 0 0 0 b.n 3),(12,iI i),(13,iI k)] ([.cells 0 (fM next aF.enc)]::J)
   (λx e J'=>x=.exit 2/\get e 2=lF s aF.enc/\get e 3=lF aH aQ/\get e 4=.bq (bL b)/\get e 5=.bq (mL m)/\get e 11=.sl J.length 0 0 0 b.n 3/\get e 12=iI i /\
    ∃next',next'=((List.range b.n).drop k).foldl (ue b m s i) next/\next'.length=b.n/\CM (N+2000000000000*n) next'/\J'=[.cells 0 (fM next' aF.enc)]::J)
 |0,k,next,N,hk,hl,hb,h0,hN=>by
  refine aK ?_;have hsl:=hs.len;have h1:¬k<s.length:=by omega
  have h2:(List.range b.n).drop k=[]:=bH (by simp;omega);simp[h1,h2];exact⟨hl,λx hx=>by simpa using hb x hx⟩
 |n+1,k,next,N,hk,hl,hb,h0,hN=>by
  refine aK ?_;have hsl:=hs.len;have hbn:=h.bv.n;have⟨hk1,h1,hi1⟩:k<b.n/\k<s.length/\i<s.length:=by omega
  have h4:=cj hk1;have h5:(List.range b.n).drop k=k::(List.range b.n).drop (k+1):=bj (by simp[hk1]);have c1:=λJ=>KA (J:=J) h hs hi
  have c2:=λJ=>KA (J:=J) h hs hk1
  have c3:=λJ=>Kx (J:=J) h.bv hi
  have c4:=λJ=>Kx (J:=J) h.bv hk1
  have c5:=λJ=>Vo (J:=J) h.bv hi hk1
  have e3:HT b i*b.lift=weight b i:=rfl;have e4:HT b k*b.lift=weight b k:=rfl;have p1:=H3 h hs hi;have p2:=H3 h hs hk1;have q1:=xa h.bv hi;have q2:=xa h.bv hk1;have hpd:=aiY (m:=m) hs hi hk1;have w1:=bV (n:=weight b i);have w2:=bV (n:=weight b k);have w3:=bV (n:=dE b m s i-weight b i);have w4:=bV (n:=dE b m s i-weight b i-dE b m s k);have w5:=bV (n:=dE b m s i-weight b i-dE b m s k+weight b k);have hdb : -300000000000<=dE b m s i-weight b i-dE b m s k+weight b k/\dE b m s i-weight b i-dE b m s k+weight b k<=300000000000:=by omega
  rw[<- hpd]at w5 hdb;have hbig:N+2000000000000<=100000000000000000:=by push_cast at hN;omega
  rw[h5,List.foldl_cons];cases hL:HW b i k
  .have ih:=abr (aH:=aH) h hs hi n (k+1) next (N+2000000000000) (by omega) hl (λx hx=>dt (hb x hx) (by omega)) (by omega) (by push_cast at hN;omega)
   have hr:ue b m s i next k=next:=by simp[ue,hL]
   rw[hr];simp[h1,c1,c2,c3,c4,c5,e3,e4,w1,w2,w3,w4,<- hpd,w5,hL,h4];refine WL.tg ih λx e J' hh=>?_
   obtain⟨r1,r2,r3,r4,r5,r6,r7,nx,r8,r9,r10,r11⟩:=hh;exact⟨r1,r2,r3,r4,r5,r6,r7,nx,r8,r9,λx hx=>dt (r10 x hx) (by push_cast;omega),r11⟩
  .by_cases hd:0<pd b (bf b m s) (i,k)
   .have hd':¬pd b (bf b m s) (i,k)<=0:=by omega
    have hik:i≠k:=by
     rintro rfl;simp[HW,MC]at hL
    have hq:=alV h hs hi hk1 hd;obtain⟨x1,m1,m2,m3⟩:=hs.at hi;have f1:=Fh hi1;have v1:=λJ=>qT (J:=J) h.toMv (k:=1) (by omega) hi
    have v2:=λJ=>qT (J:=J) h.toMv (k:=1) (by omega) hk1
    rw[show jx b m 1 i=Ak b m i from rfl]at v1;rw[show jx b m 1 k=Ak b m k from rfl]at v2;simp only[show((1:Nat):Int)=1 from rfl]at v1 v2;have o1:=h.Ak i hi;have o2:=h.Ak k hk1;have ho:=λJ=>Xd (J:=J) m1 m2 m3 hq
    have hso:=UU hs hi hq;have hfl:ue b m s i next k=ct (ct next i ((aR s i).out (rq b m s (bf b m s) (i,k))) (-1)) k ((aR s i).out (rq b m s (bf b m s) (i,k))) 1:=by
     simp only[ue,hL,hd,true_and,if_true,cH,rE]
    have hrq:rq b m s (bf b m s) (i,k)=min ((aR s i).m.tdiv 8) ((min (Ak b m i) (Ak b m k)*pd b (bf b m s) (i,k)).tdiv 1000):=rfl;have b1:=iE (a:=min (Ak b m i) (Ak b m k)) (b:=pd b (bf b m s) (i,k)) (A:=1000) (B:=300000000000) (by omega) (by omega) (by omega) (by omega);have t8:=aN (b:=8) (show 0<=(aR s i).m by omega);have t9:=aN (b:=1000) b1.1;generalize hD:pd b (bf b m s) (i,k)=D0 at *
    generalize hX:min (Ak b m i) (Ak b m k)*D0=X at *
    have y1:=bV (n:=(aR s i).m.tdiv 8);have y2:=bV (n:=X);have y3:=bV (n:=X.tdiv 1000) (by rw[t9];omega);rw[hrq]at ho hso hfl hq;generalize hQ:min ((aR s i).m.tdiv 8) (X.tdiv 1000)=Q at *
    generalize (aR s i).out Q=o at *
    rw[hfl];have⟨hi2,hk2⟩:i<next.length/\k<next.length:=by omega
    have g1:=Fh hi2;have g2:=Fh hk2;obtain⟨_,s1⟩:=CY hb hi2;obtain⟨_,s2⟩:=CY hb hk2;have k1:=λJ=>PC (J:=J) (dt s1 (by omega)) (dt hso (by omega))
    have k2:=λJ=>NZ (J:=J) (dt s2 (by omega)) (dt hso (by omega))
    have hbA:=pa (M:=1000000000000) hb (i:=i) (sign := -1) hso (.inr rfl) (by omega);have hbB:=pa (M:=1000000000000) hbA (i:=k) (sign:=1) hso (.inl rfl) (by omega);have eA:ct next i o (-1)=next.set i ((aR next i).move o (-1)):=rfl
    have eB:ct (ct next i o (-1)) k o 1=(next.set i ((aR next i).move o (-1))).set k ((aR next k).move o 1):=by
     rw[eA];unfold ct;congr 2;simp[aR,List.getElem?_set_ne hik]
    have st1:=K5 (x:=(aR next i).move o (-1)) hi2;have hk3:k<(next.set i ((aR next i).move o (-1))).length:=by simpa using hk2
    have st2:=K5 (x:=(aR next k).move o 1) hk3;have ih:=abr (aH:=aH) h hs hi n (k+1) (ct (ct next i o (-1)) k o 1) (N+2000000000000) (by omega) (by rw[zQ,zQ];exact hl) (λx hx=>dt (hbB x hx) (by omega)) (by omega) (by push_cast at hN;omega);rw[eB]at ih ⊢;have hln:=sZ next
    have hln2:=sZ (next.set i ((aR next i).move o (-1)));rw[List.length_set]at hln2;generalize (aR next i).move o (-1)=P1 at *
    generalize (aR next k).move o 1=P2 at *
    generalize next.set i P1=nx1 at *
    simp only[aF.enc]at ho k1 k2;have⟨z1,z2,z3,z4⟩:i*3+3<=b.n*3/\k*3+3<=b.n*3/\3<=b.n*3-i*3/\3<=b.n*3-k*3:=by omega
    rw[hl]at hln hln2;simp[h1,hi1,hi,hk1,c1,c2,c3,c4,c5,e3,e4,w1,w2,w3,w4,<- hpd,w5,hL,h4,hd',f1,v1,v2,hX,y1,y2,y3,hQ,ho,g1,g2,k1,k2,hln,hln2,st1,st2,z1,z2,z3,z4];refine WL.ts ih λx e J' hh=>?_
    obtain⟨r1,r2,r3,r4,r5,r6,r7,nx,r8,r9,r10,r11⟩:=hh;exact⟨r1,r2,r3,r4,r5,r6,r7,nx,r8,r9,λx hx=>dt (r10 x hx) (by push_cast;omega),r11⟩
   .have ih:=abr (aH:=aH) h hs hi n (k+1) next (N+2000000000000) (by omega) hl (λx hx=>dt (hb x hx) (by omega)) (by omega) (by push_cast at hN;omega)
    have hr:ue b m s i next k=next:=by simp[ue,hd]
    have hd':pd b (bf b m s) (i,k)<=0:=by omega
    rw[hr];simp[h1,c1,c2,c3,c4,c5,e3,e4,w1,w2,w3,w4,<- hpd,w5,hL,hd',h4];refine WL.tg ih λx e J' hh=>?_
    obtain⟨r1,r2,r3,r4,r5,r6,r7,nx,r8,r9,r10,r11⟩:=hh;exact⟨r1,r2,r3,r4,r5,r6,r7,nx,r8,r9,λx hx=>dt (r10 x hx) (by push_cast;omega),r11⟩
