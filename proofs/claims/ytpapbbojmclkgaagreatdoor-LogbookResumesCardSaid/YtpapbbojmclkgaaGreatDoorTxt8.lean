import Derived.Test.YtpapbbojmclkgaaGreatDoorTxt7
set_option linter.all false
namespace Go.Proofs.YtpapbbojmclkgaaGreatDoor
section
open Go Go.aw Go.aD Go.cY
variable {J:SK}
theorem K9:∀{a c:List D},D.bh (a++c)=(D.bh a && D.bh c)
 |[],_=>rfl
 |d::a,c=>by simp only[cF,D.bh,K9 (a:=a),Bool.and_assoc]
theorem U6{b b':Bk}{e:Int}{ms:List ep}{ws:List Ea}(v n n':Nat){X cs cs':List D}{bs:List aw.aF}(hJ:J≠[])(h0:bs[0]?=some (.cells v cs))(h1:bs[1]?=some (.cells v cs'))(hX:X=(cg b).take 9 ++ .sl J.length 0 v 0 n 4::(((cg b).drop 10).take 9++[.sl J.length 1 v 0 n' 4]))
  (hn:ms.length=n) (hn':ws.length=n') (hcs:fM ms ep.enc=cs) (hcs':fM ws Ea.enc=cs') (hb:cg b'=(cg b).take 9 ++ .bZ n cs::(((cg b).drop 10).take 9++[.bZ n' cs'])):
  ∃s,cK (J.length-1) 16 (.cS [.agg X,iI e]) (bs::J)=(.cS [.agg (cg b'),iI e],s::J):=by
 subst hX hn hn' hcs hcs';have c1:=(wj (n:=9) (mO (b:=b))).1;have c2:=(wj (n:=9) (wj (n:=10) (mO (b:=b))).2).1;have h3:D.bh ((cg b).take 9 ++ .sl J.length 0 v 0 ms.length 4::(((cg b).drop 10).take 9++[.sl J.length 1 v 0 ws.length 4]))=false:=by simp[K9,D.clean]
 have k1:=kb (n:=14) (f:=ep.enc) (w:=4) (l:=ms) (j:=0) (v:=v) (bs:=bs) (by decide) (λ_=>rfl) clE hJ h0;have k2:=kb (n:=14) (f:=Ea.enc) (w:=4) (l:=ws) (j:=1) (v:=v) (bs:=bs.set 0 .dead) (by decide) (λ_=>rfl) afa hJ (by rw[List.getElem?_set_ne (by decide)];exact h1);rw[pw (by simp[D.clean,h3]) (by omega),hb];simp only[jD,kq];rw[Fp h3 (by omega),EB (by omega) c1,k1];simp only;rw[EB (by omega) c2,k2];simp only[kq];rw[eV rfl (by omega)];exact⟨_,rfl⟩
theorem P7{b:Bk}{nm:List UInt8}{l:D}(hc1:l.calm=l)(hl:b.ai.length<=1000000):∀(k i:Nat),i+k=b.ai.length ->
  WL T [1,2,3,6,8] false vn [(1,.str nm),(2,l),(3,.own 0 (cg b)),(6,.own 0 zS),(8,iI i)] J
   (λx e J'=>J'=J/\if lN (b.ai.drop i) (λe=>e.m.name == nm)=true then x=.ret/\get e 6=.own 0 (cg b)/\get e 7=iI 6 else x=.exit 0/\get e 1=.str nm/\get e 2=l/\get e 3=.own 0 (cg b)/\get e 6=.own 0 zS)
 |0,i,hi=>by
  refine aK ?_;obtain rfl:i=b.ai.length:=by omega
  have h2:b.ai.drop b.ai.length=[]:=ec;have hn:=l7 (f:=ep.enc) b.ai;rw[h2];simp[cg,hn,lN,hc1]
 |k+1,i,hi=>by
  refine aK ?_;have⟨h1,h1'⟩:i<b.ai.length/\(i:Int)<b.ai.length:=by omega
  obtain⟨e,he⟩:=gE h1;have hne:b.ai≠[]:=λh=>by rw[h]at h1;simp at h1
  have h2:=Ow he;simp only[ep.enc]at h2;have h4:=cj h1;have hn:=iF (f:=ep.enc) hne;have ih:=P7 (nm:=nm) hc1 hl k (i+1) (by omega);rw[bj he,show lN (e::b.ai.drop (i+1)) (λe=>e.m.name == nm)=((e.m.name == nm) || lN (b.ai.drop (i+1)) λe=>e.m.name == nm)from rfl];cases hc:e.m.name == nm
  .simp[fO,cg,hn,h1',h2,h4,hc,hc1];exact WL.to ih (by simp[cg,hn]) rfl λx e J hh=>by simpa[cg,hn,hc]using hh
  .simp[fO,cg,hn,h1',h2,hc,zS]
theorem XL{b:Bk}{m:ck}(hb:b.ready=true->b.aT.valid=true)(hl:b.ai.length<=1000000)(hw:b.eR.length=b.ai.length)(hn:m.name.length<=1000000000)(hv:m.dG.length<=1000000000)(hJ:J≠[]):
  Cl 65 [.agg (cg b),.str m.name,lF m.dG aQ] (fU (pq b m)) J:=by
 refine an ?_;have hnp:=l7 (f:=pE) b.av;have hnm:=l7 (f:=ep.enc) b.ai;by_cases h0:b.ready=true/\b.av=[]
 case neg =>
  have hd:pq b m=(b,8):=if_neg h0;rw[hd];cases hr:b.ready
  .simp[cg,hr,fU];exact cX (b:=b) (by simp[cg,hr])
  .have hq:0<b.av.length:=aG.2 λh=>h0 ⟨hr,h⟩
   simp[cg,hr,hnp,hq,fU];exact cX (b:=b) (by simp[cg,hr])
 have hd:pq b m=if(lN b.ai λe=>e.m.name == m.name)=true then(b,6)else if b.ai.length<40 then(if Bd b.aT m=true then(zP b m,0)else(b,1))else(b,3):=by unfold pq;rw[if_pos h0]
 rw[hd];obtain⟨hr,hp⟩:=h0;have hq:¬0<b.av.length:=by rw[hp];simp
 have hL:=P7 (J:=[]::J) (b:=b) (nm:=m.name) (l:=lF m.dG aQ) rfl hl b.ai.length 0 (by omega);simp[cg,hr,hnp,hq];refine WL.to hL (by simp[cg,zS,hr]) rfl ?_;rintro x e J' ⟨rfl,h⟩;rw[az]at h;cases hc:lN b.ai λe=>e.m.name == m.name
 case true =>
  rw[hc]at h;simp at h;obtain⟨rfl,g6,g7⟩:=h;simp[g6,g7,fU,eT,eE];exact cX (b:=b) rfl
 rw[hc]at h;simp at h;obtain⟨rfl,g1,g2,g3,g6⟩:=h;by_cases h1:b.ai.length<40
 case neg =>
  simp[g1,g2,g3,g6,cg,zS,hnm,show(40:Int)<=b.ai.length by omega,h1,fU];exact cX (b:=b) rfl
 have h1':¬(40:Int)<=b.ai.length:=by omega
 have hbv:=Bv.of (hb hr);have ht:b.aT.dX≠[]:=λh=>by have:=hbv.dX;rw[h]at this;simp[fP,bI]at this
 have hT:=iF (f:=Rw.enc) ht;have hC:=λJ=>W8 (J:=J) (b:=b.aT) (m:=m) (wq:=nl bN.enc b.aT.ar) hbv (by omega) (by omega) j6
 cases h2:fits b.aT m
 .have hBd:Bd b.aT m=false:=by simp[Bd,h2]
  rw[h2]at hC;simp[g1,g2,g3,g6,cg,zS,hnm,h1',h1,hT,hC,hBd,fU];exact cX (b:=b) (by simp[cg,hT])
 .have hBd:Bd b.aT m=true:=by simp[Bd,h2,hb hr]
  rw[h2]at hC;have l1:=yt b.ai;have l2:=Iq b.eR;have l3:(fM b.ai ep.enc).take (b.ai.length*4)=fM b.ai ep.enc:=cZ;have l4:(fM b.eR Ea.enc).take (b.eR.length*4)=fM b.eR Ea.enc:=cZ;have⟨r1,r2,r3,r4,r5,r6⟩:b.ai.length*56<=room/\(b.ai.length+1)*56<=room/\b.eR.length*32<=room/\(b.eR.length+1)*32<=room/\56<=room/\32<=room:=by unfold room;omega
  by_cases hm:b.ai=[]
  .have hw0:b.eR=[]:=bg.1 (by rw[hw,hm];rfl);simp[g1,g2,g3,g6,cg,zS,hT,hC,hBd,hm,hw0,EV,r5,r6,fU];exact U6 (b:=b) (b':=zP b m) (ms:=[⟨m,true,0⟩]) (ws:=[⟨0,0,0,0⟩]) 0 1 1 hJ rfl rfl (by simp[cg,hT]) rfl rfl (by simp) (by simp) (by simp[cg,zP,hm,hw0,nl,ht])
  .have hwn:b.eR≠[]:=λh=>by rw[h]at hw;exact hm (bg.1 hw.symm)
   have e1:=iF (f:=ep.enc) hm;have e2:=iF (f:=Ea.enc) hwn;simp[g1,g2,g3,g6,cg,zS,h1',h1,hT,hC,hBd,hm,hwn,e1,e2,l1,l2,l3,l4,r1,r2,r3,r4,fU];exact U6 (b:=b) (b':=zP b m) (ms:=b.ai++[⟨m,true,0⟩]) (ws:=b.eR++[⟨0,0,0,0⟩]) 1 (b.ai.length+1) (b.eR.length+1) hJ rfl rfl (by simp[cg,hT]) (by simp) (by simp) (by simp) (by simp) (by simp[cg,zP,hT,IZ])
theorem X3{f:dK}{m:ck}{x:pk}(hm:Fm f m)(hx:Mev f x):∀(k i:Nat) (acc:Int),i+k=x.bl.length -> -(i*100000000)<=acc/\acc<=i*100000000 ->
  WL T [2,3,4,5,6,11,12] false u0 [(2,iI x.kind),(3,lF x.bl aQ),(4,lF x.wt aQ),(5,.bq (fL f)),(6,.bq (mL m)),(11,iI acc),(12,iI i)] J
   (λx' e J'=>J'=J/\x'=.exit 0/\get e 11=iI (RO m.dG (x.kind*f.size) acc (x.bl.drop i) (x.wt.drop i))):=by
 intro k;induction k with
 |zero =>
  intro i acc hi ha;refine aK ?_;have h1:¬i<x.bl.length:=by omega
  have h2:x.bl.drop i=[]:=ec;simp[h1,h2,RO]
 |succ k ih0 =>
  intro i acc hi ha;refine aK ?_;have h1:i<x.bl.length:=by omega
  have hlen:=hx.len;have h1':i<x.wt.length:=by omega
  obtain⟨b,hb⟩:=gE h1;obtain⟨w,hw⟩:=gE h1';obtain⟨q1,q2⟩:=Cz hm.fv;obtain⟨z1,z2,z3,z4,z5⟩:=dK.mP.1 hm.fv;obtain⟨s1,s2,s3⟩:=Mh hx.acH hb hw;have hl64:=Jf hx.len hx.acH (by omega);have h4:=cj h1;have h5:=bj hb;have h6:=bj hw;have h2:=gi hb;have h3:=gi hw;have k1:=hx.kind;have k2:0<=x.kind*f.size/\x.kind*f.size+f.size<=f.k*f.size:=by
   refine⟨bF k1.1 (by omega),?_⟩;have:=dZ (show x.kind+1<=f.k by omega) (show 0<=f.size by omega);rw[Int.add_mul]at this;omega
  have hvl:=hm.len;obtain⟨j,hj⟩:∃j:Nat,x.kind*f.size+b=j:=⟨(x.kind*f.size+b).toNat,by omega⟩;have hj1:j<m.dG.length:=by omega
  obtain⟨v,hv⟩:=gE hj1;have hvb:=hm.ok v (ah hv);have h7:=gi hv;have hB:=λJ=>oH (J:=J) hm.fv
  have b1:=SZ (a:=w) (b:=v) (A:=1000) (B:=100000) (by omega) hvb (by omega);have w1:=bV (n:=x.kind*f.size);have w2:=bV (n:=(j:Int));have w3:=bV (n:=w*v);have w4:=bV (n:=acc+w*v);have ih:=ih0 (i+1) (acc+w*v) (by omega) (by omega);rw[h5,h6,RO,hj];simp only[Int.toNat_natCast];simp[h1,h1',h2,h3,h4,hB,w1,w2,w3,w4,hj,hj1,h7];exact WL.tg ih λx e J hh=>by simpa[hv]using hh
theorem aei{f:dK}{m:ck}{x:pk}(hm:Fm f m)(hx:Mev f x):Cl 96 [.agg (fL f),.agg (mL m),.agg x.enc] (iI (Af f m x)) J:=by
 have hT:∀J,Cl 138 [.agg (fL f),.agg (mL m),iI x.kind,lF x.bl aQ,lF x.wt aQ] (iI (Af f m x)) J:=by
  intro J;refine an ?_;simp[];refine WL.tg (X3 (J:=[]::J) hm hx x.bl.length 0 0 (by omega) (by simp)) ?_;rintro x' e J' ⟨rfl,rfl,g⟩;simp[g,Af]
 refine an ?_;simp only[pk.enc];simp[hT]
theorem Yf{ps:List (Int×Int)}(hps:ps.length<=1000000){nm:List UInt8}{k lo hi:Int}{C hd:List D}{atv:Int}(h3':hd.length=3):∀(m j:Nat),j+m=ps.length ->
  WL T [1,3,4,8,10,11] false zd [(1,.int .i64 atv),(3,.bZ (ps.length*2+3) (hd++fM ps sW)),(4,.bq C),(8,.own 0 zS),(10,.own 0 [.str nm,.int .i64 k,.sl J.length 0 j 0 j 1,.sl J.length 1 j 0 j 1,.int .i64 lo,.int .i64 hi]),(11,.int .i64 (j*2+3))]
   ([.cells j (fM ((ps.take j).map (·.1)) aQ),.cells j (fM ((ps.take j).map (·.2)) aQ)]::J)
   (λx e J'=>x=.exit 0/\get e 1=.int .i64 atv/\get e 3=.bZ (ps.length*2+3) (hd++fM ps sW)/\get e 4=.bq C/\get e 8=.own 0 zS/\get e 10=.own 0 [.str nm,.int .i64 k,.sl J.length 0 ps.length 0 ps.length 1,.sl J.length 1 ps.length 0 ps.length 1,.int .i64 lo,.int .i64 hi] /\
    J'=[.cells ps.length (fM (ps.map (·.1)) aQ),.cells ps.length (fM (ps.map (·.2)) aQ)]::J)
 |0,j,h=>by
  refine aK ?_;obtain rfl:j=ps.length:=by omega
  simp[-List.map_take]
 |m+1,j,h=>by
  refine aK ?_;have⟨h1,h2,h3,h0,h0'⟩:j<ps.length/\(j:Int)*2+3<(ps.length:Int)*2+3/\(j:Int)*2+3+1<(ps.length:Int)*2+3/\0<=(j:Int)*2+3/\0<=(j:Int)*2+3+1:=by omega
  obtain⟨p,hp⟩:=gE h1;have d0:=mM (f:=sW) (w:=2) (λ_=>rfl) hp;have d1:(hd++fM ps sW).drop (j*2+3)=.int .i64 p.1::.int .i64 p.2::(fM ps sW).drop (j*2+2):=by
   rw[List.drop_append,bH (by omega),h3',show j*2+3-3=j*2 by omega,d0];rfl
  have d2:(hd++fM ps sW).drop (j*2+3+1)=.int .i64 p.2::(fM ps sW).drop (j*2+2):=by
   have:=congrArg (List.drop 1) d1;simpa[pF,cC]using this
  have⟨t1,t2⟩:((j:Int)*2+3).toNat=j*2+3/\((j:Int)*2+3+1).toNat=j*2+3+1:=by omega
  have w1:=bV (n:=(j:Int)*2+3+1);have w2:=bV (n:=(j:Int)*2+3+2);have hl:(ps.take j).length=j:=by simp[];omega
  have hr:(j+1)*8<=room:=by unfold room;omega
  have ha:=nN ((ps.take j).map (·.1));have hb:=nN ((ps.take j).map (·.2));simp only[bK,hl]at ha hb;have ta:(fM ((ps.take j).map (·.1)) aQ).take j=fM ((ps.take j).map (·.1)) aQ:=cZ;have tb:(fM ((ps.take j).map (·.2)) aQ).take j=fM ((ps.take j).map (·.2)) aQ:=cZ;have ih:=Yf hps (nm:=nm) (k:=k) (lo:=lo) (hi:=hi) (C:=C) (atv:=atv) h3' m (j+1) (by omega);have htk:ps.take (j+1)=ps.take j++[p]:=by rw[List.take_add_one,hp];rfl
  rw[htk,show((j+1:Nat):Int)*2+3=(j:Int)*2+3+2 by omega]at ih;simp[-List.map_take,h0,h0',h2,h3,t1,t2,d1,d2,w1,w2,hr,ha,hb,ta,tb];exact WL.to ih (by simp[]) (by simp[]) λx e J' hh=>hh
def iB(vs:List Int)(i m:Nat):List D:=fM (vs.take i++List.replicate m 0) aQ
theorem Ux{vs:List Int}{i m:Nat}{v:Int}(h:i+(m+1)=vs.length)(hv:vs[i]?=some v):
  (iB vs i (m+1)).length=vs.length/\(iB vs i (m+1)).take i++(iI v::(iB vs i (m+1)).drop (i+1))=iB vs (i+1) m:=by
 have hlen:(vs.take i++List.replicate (m+1) (0:Int)).length=vs.length:=by simp;omega
 have f1:=dF (f:=aQ) (w:=1) (vs.take i++List.replicate (m+1) (0:Int));have s1:∀{o:List Int} {i:Nat},i<o.length->(fM o aQ).take i++(iI v::(fM o aQ).drop (i+1))=fM (o.set i v) aQ:=λh=>Go.ba.ab2 h v
 have s1:=s1 (o:=vs.take i++List.replicate (m+1) (0:Int)) (i:=i) (by rw[hlen];omega);have s2:=Z7 (acc:=vs.take i) (k:=m) (v:=v);rw[show(vs.take i).length=i by simp;omega]at s2;rw[s2]at s1;unfold iB;refine⟨by omega,?_⟩;rw[s1,List.take_add_one,hv];rfl
theorem Nf{vs:List Int}:iB vs 0 vs.length=fM (List.range vs.length) λ_=>[iI 0]:=by
 rw[show(fM (List.range vs.length) λ_=>[iI 0])=fM (List.replicate vs.length (0:Int)) aQ from Go.ba.WS _];simp[iB]
theorem Qy{vs:List Int}:iB vs vs.length 0=fM vs aQ:=by simp[iB]
theorem P6{b:Bk}{x:pk}{atv:Int}{L:D}(hL:L.calm=L)(hl:b.ai.length<=1000000)(hms:∀e∈b.ai,Fm b.aT.f e.m)(hx:Mev b.aT.f x):∀(m i:Nat),i+m=b.ai.length ->
  WL T [1,3,4,8,10,13,14] false xp [(1,iI atv),(3,L),(4,.bq (cg b)),(8,.own 0 zS),(10,.own 0 x.enc),(13,.sl J.length 2 0 0 b.ai.length 1),(14,iI i)]
   ([.dead,.dead,.cells 0 (iB (b.ai.map λe=>Af b.aT.f e.m x) i m)]::J)
   (λy e J'=>y=.exit 2/\get e 1=iI atv/\get e 3=L/\get e 4=.bq (cg b)/\get e 8=.own 0 zS/\get e 13=.sl J.length 2 0 0 b.ai.length 1/\J'=[.dead,.dead,.cells 0 (fM (b.ai.map λe=>Af b.aT.f e.m x) aQ)]::J)
 |0,i,hi=>by
  refine aK ?_;obtain rfl:i=b.ai.length:=by omega
  have hn:=l7 (f:=ep.enc) b.ai;have hf:=Qy (vs:=b.ai.map λe=>Af b.aT.f e.m x);rw[bK]at hf;rw[hf];simp[cg,hn,hL]
 |m+1,i,hi=>by
  refine aK ?_;have⟨h1,h1'⟩:i<b.ai.length/\(i:Int)<b.ai.length:=by omega
  obtain⟨e,he⟩:=gE h1;have hne:b.ai≠[]:=λh=>by rw[h]at h1;simp at h1
  have h2:=Ow he;simp only[ep.enc]at h2;have h4:=cj h1;have hn:=iF (f:=ep.enc) hne;have ih:=P6 hL hl hms hx (atv:=atv) m (i+1) (by omega);have hS:=λJ=>aei (J:=J) (hms e (ah he)) hx
  obtain⟨f1,f2⟩:=Ux (vs:=b.ai.map λe=>Af b.aT.f e.m x) (i:=i) (m:=m) (v:=Af b.aT.f e.m x) (by simp;omega) (by simp[he]);rw[bK]at f1;have hi1:i+1<=b.ai.length:=by omega
  simp only[pk.enc]at hS ih ⊢;simp[cg,hn,h1',h2,h4,hS,hL,f1,f2,hi1];exact WL.to ih (by simp[cg,hn]) (by simp) λx e J hh=>by simpa[cg,hn]using hh
theorem aew{b:Bk}{nm:List UInt8}{k lo hi:Int}{ps:List (Int×Int)}(hps:ps.length<=1000000)(hnm:nm.length<=1000000000)(hw:b.eR.length=b.ai.length)(hml:b.ai.length<=40)(hf:b.ai≠[]->b.aT.f.valid=true)(hms:∀e∈b.ai,Fm b.aT.f e.m)(hJ:J≠[]):
  Cl 66 [.agg (cg b),iI b.at_,.str nm,.bZ (ps.length*2+3) (iI k::iI lo::iI hi::fM ps sW)] (fU (DK b (eW nm k lo hi ps))) J:=by
 refine an ?_;have hn:=l7 (f:=ep.enc) b.ai;have hcl:=mO (b:=b);by_cases h0:b.ai=[]
 .have hd:DK b (eW nm k lo hi ps)=(b,8):=if_pos h0;have hE:nl ep.enc b.ai=.bB:=by simp[nl,h0]
  rw[hd];simp only[cg,hE]at hcl;simp[cg,hE,hcl,fU]
 have hE:=iF (f:=ep.enc) h0
 try simp only[lF]at hE
 have hfv:=hf h0;have hd:DK b (eW nm k lo hi ps)=if qY b.aT.f (eW nm k lo hi ps)=0 then(gM b lo hi λm=>Af b.aT.f m (eW nm k lo hi ps),0)else(b,qY b.aT.f (eW nm k lo hi ps)):=if_neg h0
 have hck:qY b.aT.f (eW nm k lo hi ps)=b.aT.f.measure (eW nm k lo hi ps):=if_pos hfv;rw[hck]at hd;rw[hd];have⟨q0,q1,q2⟩:(0:Int)<(ps.length:Int)*2+3/\(1:Int)<(ps.length:Int)*2+3/\(2:Int)<(ps.length:Int)*2+3:=by omega
 have hL:=Yf (J:=J) hps (nm:=nm) (k:=k) (lo:=lo) (hi:=hi) (C:=cg b) (atv:=b.at_) (hd:=[iI k,iI lo,iI hi]) rfl ps.length 0 (by omega);have hC:=λJ=>PB (J:=J) (l:=[eW nm k lo hi ps]) hfv (by intro m hm;simp at hm;subst hm;exact⟨by simp[eW];omega,by simp[eW];omega⟩) (by simp)
 try simp only[lF,Cl,fL]at hC
 have hM1:b.aT.f.wS [eW nm k lo hi ps]=b.aT.f.measure (eW nm k lo hi ps):=by
  simp only[dK.wS,dK.yQ];by_cases h:b.aT.f.measure (eW nm k lo hi ps)=0<;>simp[h]
 rw[hM1]at hC;have hq:¬((b.ai.length:Int)=0):=by have:=aG.2 h0;omega
 simp only[cg,hE]at hcl;simp[cg,hE,h0,q0,q1,q2];refine WL.to hL (by simp[cg,hE,zS]) (by simp) ?_;rintro x e J' ⟨rfl,g1,g3,g4,g8,g10,rfl⟩;have cli:∀x:Int,D.bh (aQ x)=true:=λ_=>by simp[aQ,D.clean]
 have f1:=o9 (f:=aQ) (w:=1) (λ_=>rfl) cli (l:=ps.map (·.1)) (j:=0) (v:=ps.length) (bs:=[.cells ps.length (fM (ps.map (·.1)) aQ),.cells ps.length (fM (ps.map (·.2)) aQ)]) (J:=J) hJ rfl
 try simp only[]at f1
 have f2:=o9 (f:=aQ) (w:=1) (λ_=>rfl) cli (l:=ps.map (·.2)) (j:=1) (v:=ps.length) (bs:=[.dead,.cells ps.length (fM (ps.map (·.2)) aQ)]) (J:=J) hJ rfl
 try simp only[]at f2
 simp at f1 f2;simp[eW]at hC;by_cases h1:b.aT.f.measure (eW nm k lo hi ps)=0
 case neg =>
  rw[if_neg h1];have h1':=h1;simp only[eW]at h1';simp[g1,g3,g4,g8,g10,f1,f2,hC,cg,hE,zS,h1',fU];exact cX (b:=b) (by simp[cg,hE])
 rw[if_pos h1];have hx:=Mev.of h1;have hLv:=P6 (J:=J) (b:=b) (x:=eW nm k lo hi ps) (atv:=b.at_) (L:=.bZ (ps.length*2+3) (iI k::iI lo::iI hi::fM ps sW)) rfl (by omega) hms hx b.ai.length 0 (by omega);have hS:=λJ hJ=>MU (J:=J) (b:=b) (lo:=lo) (hi:=hi) (val:=λm=>Af b.aT.f m (eW nm k lo hi ps)) (vs:=b.ai.map λe=>Af b.aT.f e.m (eW nm k lo hi ps)) h0 hw hml (by simp) (by
  intro i e v he hv;simp[he]at hv;subst hv;intro _;exact⟨rfl,λ_=>rfl⟩) hJ
 have hz:=Nf (vs:=b.ai.map λe=>Af b.aT.f e.m (eW nm k lo hi ps));rw[bK]at hz;rw[hz]at hLv;have h1':=h1;simp only[eW]at h1';have r1:(b.ai.length:Int)*8<=room:=by unfold room;omega
 simp[g1,g3,g4,g8,g10,f1,f2,hC,cg,hE,h1',r1];refine WL.to hLv (by simp[cg,hE,eW]) (by simp) ?_;rintro x e J' ⟨rfl,g1,g3,g4,g8,g13,rfl⟩;have f3:=o9 (f:=aQ) (w:=1) (λ_=>rfl) cli (l:=b.ai.map λe=>Af b.aT.f e.m (eW nm k lo hi ps)) (j:=2) (v:=0) (bs:=[.dead,.dead,.cells 0 (fM (b.ai.map λe=>Af b.aT.f e.m (eW nm k lo hi ps)) aQ)]) (J:=J) hJ rfl;simp only[lF,Cl,bK]at f3 hS;simp[g1,g3,g4,g8,g13,f3,hS,q1,q2,eT,eE,Fb,Bh,fU];exact cX (b:=gM b lo hi λm=>Af b.aT.f m (eW nm k lo hi ps)) rfl
end
section
section
open Go Go.aw Go.ba
open Go.cY (nl)
variable {J:SK}
theorem Yp{α:Type}{p:α->Bool}:dz [] p=true:=rfl
theorem Yr{α:Type}{p:α->Bool}:lN [] p=false:=rfl
theorem VO{α:Type}{x:α}{l:List α}{p:α->Bool}:lN (x::l) p=(p x || lN l p):=rfl
theorem OL{α:Type}{f:α->List D}{w:Nat}(hw:∀x,(f x).length=w){l:List α}{i:Nat}{x:α}(h:l[i]?=some x):QV w (nl f l) (iI i)=some (.bq (f x)):=by
 have h1:i<l.length:=(aA.1 h).1;rw[iF (λhh=>by rw[hh]at h1;simp at h1)];simp[h1,HH hw h]
theorem MM{a b c x y z u v w:Int}:Cl 195 [.agg [iI a,iI b,iI c],.agg [iI x,iI y,iI z],.agg [iI u,iI v,iI w]] (.bool (bI a x u && (bI b y v && bI c z w))) J:=by
 refine an ?_;cases hc1:bI a x u
 .simp[ym,hc1]
 cases hc2:bI b y v
 .simp[ym,hc1,hc2]
 simp[ym,hc1,hc2]
theorem Vn{r:cQ}{s:pn}:Cl 158 [.agg r.enc,.agg s.enc] (.bool (r.Kg s)) J:=by
 refine an ?_;have ho:r.Kg s=(decide (r.least<=s.mag) && (bI s.p.x r.lo.x r.hi.x && (bI s.p.y r.lo.y r.hi.y && bI s.p.z r.lo.z r.hi.z))):=rfl;rw[ho];cases c:(bI s.p.x r.lo.x r.hi.x && (bI s.p.y r.lo.y r.hi.y && bI s.p.z r.lo.z r.hi.z))
 .simp[MM,c]
 .by_cases h:r.least<=s.mag<;>simp[MM,c,h]
theorem PY{r:cQ}{l:List Ev}{i:Nat}{e0:Ev}(he:l[i]?=some e0)(hs:e0.sp.length<=9223372036854775807){now:Int}{all:Bool}{n:Int}:∀(m k:Nat) (a b:Bool),k+m=e0.sp.length ->
  WL T [1,2,3,4,9,10,11,12,13] false vi [(1,nl Ev.enc l),(2,iI now),(3,.bool all),(4,.bq r.enc),(9,iI n),(10,iI i),(11,.bool a),(12,.bool b),(13,iI k)] J
   (λx e J'=>x=.exit 2/\J'=J/\get e 1=nl Ev.enc l/\get e 2=iI now/\get e 3=.bool all/\get e 4=.bq r.enc/\get e 9=iI n/\get e 10=iI i/\get e 11=.bool (a || lN (e0.sp.drop k) r.Kg)/\get e 12=.bool (b && dz (e0.sp.drop k) r.Kg))
 |0,k,a,b,hk=>by
  refine aK ?_;have g1:i<l.length:=(aA.1 he).1;have a1:=OL (f:=Ev.enc) (w:=2) (λ_=>rfl) he;have h1:¬k<e0.sp.length:=by omega
  have h2:e0.sp.drop k=[]:=by simp;omega
  simp[a1,h1,h2,Yr,Yp]
 |m+1,k,a,b,hk=>by
  refine aK ?_;have g1:i<l.length:=(aA.1 he).1;have a1:=OL (f:=Ev.enc) (w:=2) (λ_=>rfl) he;have h1:k<e0.sp.length:=by omega
  obtain⟨x,hx⟩:=gE h1;have h2:=bx (f:=pn.enc) (w:=4) hx;have h6:=cj h1;have ih:=PY (now:=now) (all:=all) (n:=n) (r:=r) he hs m (k+1) (a || r.Kg x) (b && r.Kg x) (by omega);have hC:=λJ=>@Vn J r x
  simp only[cQ.enc,pn.enc]at hC;rw[bj hx,VO,B7,<- Bool.or_assoc,<- Bool.and_assoc];cases a<;>cases b<;>cases c:r.Kg x<;>simp only[c]at hC ih<;>simp[a1,h1,h2,h6,hC]<;>exact(WL.tg ih λx e J' hh=>by simpa[c]using hh)
def D1(r:cQ)(now:Int)(all:Bool)(e:Ev):Bool:=if all then lQ r now e else sO r now e
theorem TX{r:cQ}(hr:r.ok=true){l:List Ev}(hl:l.length<=200)(hs:∀e∈l,e.sp.length<=2000){now:Int}(hn:bI now 0 1000000=true){all:Bool}:∀(m i:Nat) (n:Nat),i+m=l.length->n+m<=200 ->
  WL T [1,2,3,4,9,10] false vj [(1,nl Ev.enc l),(2,iI now),(3,.bool all),(4,.bq r.enc),(9,iI n),(10,iI i)] J
   (λx e J'=>x=.exit 0/\J'=J/\get e 4=.bq r.enc/\get e 9=iI (n+Ai (D1 r now all) (l.drop i):Nat))
 |0,i,n,hi,hb=>by
  refine aK ?_;have h1:¬i<l.length:=by omega
  have h2:l.drop i=[]:=by simp;omega
  simp[h1,h2,Ai]
 |m+1,i,n,hi,hb=>by
  refine aK ?_;have g1:i<l.length:=by omega
  obtain⟨e0,he⟩:=gE g1;have a1:=OL (f:=Ev.enc) (w:=2) (λ_=>rfl) he;have hse:=hs e0 (ah he);have h6:=cj g1;have hr':=zZ.1 hr;have hn':=aS.1 hn;have w2:=bV (n:=now-r.uQ);have w3:=bV (n:=now-r.uQ+1);have w4:=bV (n:=(n:Int)+1);have d1:Ai (D1 r now all) (l.drop i)=Ai (D1 r now all) (l.drop (i+1))+(if D1 r now all e0 then 1 else 0):=by rw[bj he];rfl
  have ih:=λn h=>TX hr hl hs hn (all:=all) m (i+1) n (by omega) h
  have hact:r.act now e0=bI e0.tick (now-r.uQ+1) now:=by
   unfold cQ.act bI;congr 1
  have k1:∀u v:Nat,u+1+v=u+(v+1):=by intro u v;omega
  rw[d1];cases c1:bI e0.tick (now-r.uQ+1) now
  .have e1:D1 r now all e0=false:=by simp[D1,sO,lQ,hact,c1]
   simp[g1,a1,h6,w2,w3,ym,c1];exact WL.tg (ih n (by omega)) λx e J' hh=>by simpa[e1]using hh
  .have e1:D1 r now all e0=if all then dz e0.sp r.Kg else lN e0.sp r.Kg:=by simp[D1,sO,lQ,hact,c1]
   simp[g1,a1,w2,w3,ym,c1];refine WL.tg (PY (J:=J) (now:=now) (all:=all) (n:=n) (r:=r) he (by omega) e0.sp.length 0 false true (by omega)) ?_;rintro x e J' ⟨rfl,rfl,f1,f2,f3,f4,f9,f10,f11,f12⟩;simp only[az,Bool.false_or,Bool.true_and]at f11 f12;have ih0:=ih n (by omega);have ih1:=ih (n+1) (by omega);cases all
   .simp only[aC,if_false]at e1;cases c2:lN e0.sp r.Kg
    .rw[c2]at f11 e1;simp[f1,f2,f3,f4,f9,f10,f11,h6];exact WL.tg ih0 λx e J' hh=>by simpa[e1]using hh
    .rw[c2]at f11 e1;simp[f1,f2,f3,f4,f9,f10,f11,h6,w4];exact WL.tg ih1 λx e J' hh=>by simp only[k1]at hh;simpa[e1]using hh
   .simp only[if_true]at e1;cases c2:dz e0.sp r.Kg
    .rw[c2]at f12 e1;simp[f1,f2,f3,f4,f9,f10,f12,h6];exact WL.tg ih0 λx e J' hh=>by simpa[e1]using hh
    .rw[c2]at f12 e1;simp[f1,f2,f3,f4,f9,f10,f12,h6,w4];exact WL.tg ih1 λx e J' hh=>by simp only[k1]at hh;simpa[e1]using hh
theorem TI{r:cQ}(hr:r.ok=true){l:List Ev}(hl:l.length<=200)(hs:∀e∈l,e.sp.length<=2000){now:Int}(hn:bI now 0 1000000=true){all:Bool}:
  Cl 122 [.agg r.enc,nl Ev.enc l,iI now,.bool all] (.int .u8 (if r.count<=Ai (D1 r now all) l then r.Ol else 0)) J:=by
 refine an ?_;simp[];refine WL.tg (TX (J:=[]::J) hr hl hs hn (all:=all) l.length 0 0 (by omega) (by omega)) ?_;rintro x e J' ⟨rfl,rfl,e4,e9⟩;simp only[az,cr]at e9;by_cases c:r.count<=Ai (D1 r now all) l<;>simp[e4,e9,c]
theorem LI{f:cQ->Ev->Bool}{l:List Ev}{r:cQ}(hr:r.ok=true){a:Int}(ha:0<=a):max a (if r.count<=Ai (f r) l then r.Ol else 0)=if r.count<=Ai (f r) l then max a r.Ol else a:=by
 split
 .rfl
 .omega
theorem PV{R:List cQ}(hR:R.length<=20)(hr:∀r∈R,r.ok=true){l:List Ev}(hl:l.length<=200)(hs:∀e∈l,e.sp.length<=2000){now:Int}(hn:bI now 0 1000000=true):∀(m i:Nat) (a b:Int),i+m=R.length->0<=a->0<=b ->
  WL T [0,1,2,8,9,10] false vh [(0,nl cQ.enc R),(1,nl Ev.enc l),(2,iI now),(8,.int .u8 a),(9,.int .u8 b),(10,iI i)] J
   (λx e J'=>x=.exit 0/\J'=J/\get e 8=.int .u8 (vI (λr=>sO r now) l (R.drop i) a)/\get e 9=.int .u8 (vI (λr=>lQ r now) l (R.drop i) b))
 |0,i,a,b,hi,ha,hb=>by
  refine aK ?_;have h1:¬i<R.length:=by omega
  have h2:R.drop i=[]:=by simp;omega
  simp[h1,h2,vI]
 |m+1,i,a,b,hi,ha,hb=>by
  refine aK ?_;have g1:i<R.length:=by omega
  obtain⟨r,hri⟩:=gE g1;have a1:=OL (f:=cQ.enc) (w:=10) (λ_=>rfl) hri;have hrr:=hr r (ah hri);have h6:=cj g1;have s0:=λJ=>@TI J r hrr l hl hs now hn false
  have s1:=λJ=>@TI J r hrr l hl hs now hn true
  have q0:D1 r now false=sO r now:=rfl;have q1:D1 r now true=lQ r now:=rfl;rw[q0]at s0;rw[q1]at s1;simp only[cQ.enc]at s0 s1;have m0:=LI (f:=λr=>sO r now) (l:=l) hrr ha;have m1:=LI (f:=λr=>lQ r now) (l:=l) hrr hb;have hc:=(zZ.1 hrr).2.2.2.2;have ih:=PV hR hr hl hs hn m (i+1) (if r.count<=Ai (sO r now) l then max a r.Ol else a) (if r.count<=Ai (lQ r now) l then max b r.Ol else b) (by omega) (by split<;>omega) (by split<;>omega);rw[bj hri];simp[g1,a1,h6,s0,s1,m0,m1];exact WL.tg ih λx e J' hh=>hh
theorem Xb{R:List cQ}(hR:R.length<=20)(hr:∀r∈R,r.ok=true){l:List Ev}(hl:l.length<=200)(hs:∀e∈l,e.sp.length<=2000){now:Int}(hn:bI now 0 1000000=true):
  Cl 77 [nl cQ.enc R,nl Ev.enc l,iI now] (.cS [.int .u8 (Ny R l now),.int .u8 (Pm R l now)]) J:=by
 refine an ?_;simp[];refine WL.tg (PV (J:=[]::J) hR hr hl hs hn R.length 0 0 0 (by omega) (by omega) (by omega)) ?_;rintro x e J' ⟨rfl,rfl,e8,e9⟩;simp only[az]at e8 e9;simp[e8,e9,Ny,Pm]
end
end
section
open Go Go.aw Go.aD Go.cY
variable {J:SK}
structure Lit(b:Bk):Prop where
 rl:b.rules.length<=20
 rok:∀r∈b.rules,r.ok=true
 el:b.pr.length<=200
 eok:∀e∈b.pr,e.ok=true
 pl:b.av.length<=200
theorem Vm{b:Bk}(h:Lit b):Cl 47 [.agg (cg b)] (.int .u8 (fp b)) J:=by
 refine an ?_;have hn:=l7 (f:=pE) b.av;have hnow:ba.bI b.av.length 0 1000000=true:=by have:=h.pl;simp[ba.bI];omega
 have hL:=λJ=>Xb (J:=J) h.rl h.rok h.el (λe he=>by have:=h.eok e he;simp only[ba.Ev.ok,af,ba.aS]at this;omega) hnow
 have hc:fp b=ba.Ny b.rules b.pr b.av.length:=by
  have h1:ba.kF b.rules b.pr b.av.length=0:=by
   have a1:=ff.2 h.rok;have a2:=ff.2 h.eok;have:=h.rl;have:=h.el;simp[ba.kF,a1,a2,hnow,show ¬20<b.rules.length by omega,show ¬200<b.pr.length by omega]
  unfold fp;rw[if_pos h1]
 rw[hc];have hcl:=mO (b:=b);simp only[cg]at hcl;simp[cg,hn,hL]
theorem P9{l:List Int}{jf:Int}(hk:0<=jf/\jf<=1000)(hl:l.length<=1000000)(hr:∀n∈l,-100000<=n/\n<=100000):∀(m i:Nat),i+m=l.length ->
  WL T [1,5,6,7] false vl [(1,.bZ l.length (fM l aQ)),(5,.int .i64 jf),(6,.sl J.length 0 i 0 i 1),(7,.int .i64 i)] ([.cells i (fM ((l.take i).map (iY jf)) aQ)]::J)
   (λx e J'=>x=.exit 0/\get e 6=.sl J.length 0 l.length 0 l.length 1/\J'=[.cells l.length (fM (l.map (iY jf)) aQ)]::J)
 |0,i,hi=>by
  refine aK ?_;obtain rfl:i=l.length:=by omega
  simp[-List.map_take]
 |m+1,i,hi=>by
  refine aK ?_;have h1:i<l.length:=by omega
  obtain⟨n,hn⟩:=gE h1;have h4:=cj h1;have a1:=bx (f:=aQ) (w:=1) hn;simp only[aQ,bR]at a1;have hb:=hr n (ah hn);have ih:=P9 hk hl hr m (i+1) (by omega);rw[List.take_add_one,hn]at ih;have hl1:(l.take i).length=i:=by simp[];omega
  have ha:=nN ((l.take i).map (iY jf));simp only[bK,hl1]at ha;have ta:(fM ((l.take i).map (iY jf)) aQ).take i=fM ((l.take i).map (iY jf)) aQ:=cZ;have hrm:(i+1)*8<=room:=by unfold room;omega
  by_cases hc:n<0
  .have b1:=SZ (a := -n) (b:=jf) (A:=100000) (B:=1000) (by omega) (by omega) (by omega);have b2:0 <= -n*jf:=bF (by omega) hk.1;have w1:=bV (n := -n);have w2:=bV (n := -n*jf);have t1:(-n*jf).tdiv 1000 = -n*jf / 1000:=aN b2;have w3:=bV (n:=(-n*jf).tdiv 1000) (by rw[t1];omega);have w4:=bV (n := -(-n*jf).tdiv 1000) (by rw[t1];omega);have hrt:iY jf n = -(-n*jf).tdiv 1000:=if_pos hc;generalize hz:(-n*jf).tdiv 1000=z at *
   simp[-List.map_take,h1,a1,h4,hc,w1,w2,w3,w4,hrm,ha,ta,hz];exact WL.to ih (by simp[]) (by simp[hrt,aQ]) λx e J' hh=>hh
  .have hrt:iY jf n=n:=if_neg hc;simp[-List.map_take,h1,a1,h4,hc,hrm,ha,ta];exact WL.to ih (by simp[]) (by simp[hrt,aQ]) λx e J' hh=>hh
theorem Vp{b:Bk}{l:List Int}(h:Lit b)(hk:ba.fB b.k0 b.k1 b.k2=true)(hl:l.length<=1000000)(hr:∀n∈l,-100000<=n/\n<=100000)(hJ:J≠[]):
  Cl 100 [.agg (cg b),lF l aQ] (.bZ l.length (fM (l.map (iY (lY b))) aQ)) J:=by
 refine an ?_;have hC:=λJ=>Vm (J:=J) h
 have hcl:=mO (b:=b);simp only[ba.fB,af,au]at hk;obtain⟨c1,c2⟩:=Fj (b:=b);have hkp:0<=lY b/\lY b<=1000:=by unfold lY;split<;>(try split)<;>omega
 have hcell:List.take 1 (List.drop (fp b).toNat [iI b.k0,iI b.k1,iI b.k2,nl oF.enc b.cV,nl KT.enc b.dA,D.bool b.ready,nl Ea.enc b.eR])=[iI (lY b)]:=by
  unfold lY;have:fp b=0\/fp b=1\/fp b=2:=by omega
  rcases this with h | h | h<;>rw[h]<;>rfl
 simp only[cg]at hcl hC;simp[cg,hC,c1,show fp b<3 by omega,hcell];refine WL.ts (P9 (J:=J) hkp hl hr l.length 0 (by omega)) ?_;rintro x e J' ⟨rfl,g6,rfl⟩;have hk:=kb (n:=16) (f:=aQ) (w:=1) (l:=l.map (iY (lY b))) (j:=0) (v:=l.length) (bs:=[.cells l.length (fM (l.map (iY (lY b))) aQ)]) (by decide) (λ_=>rfl) (λx=>by simp[aQ,D.clean]) hJ rfl;rw[bK]at hk;simp[g6,hk]
structure Kr(n:Nat)(b:Bk):Prop where
 kv:Kv n b
 rok:∀r∈b.rules,r.ok=true
theorem Kr.lit{n:Nat}{b:Bk}(h:Kr n b):Lit b:=⟨h.kv.rules,h.rok,h.kv.pr,h.kv.L9,(kG h.kv.pl).1⟩
theorem Kr.valid{n:Nat}{b:Bk}(h:Kr n b)(hm:b.ai≠[]):b.aT.valid=true:=h.kv.ready (h.kv.ms hm)
theorem OH{l:List ep}(h:cp l≠[]):l≠[]:=λh2=>h (by rw[h2];rfl)
theorem Nu{l:List ep}{m:ck}(h:m∈gI l):∃e∈l,e.left=true/\e.m=m:=by
 obtain⟨e,he,rfl⟩:=bO.1 h;exact⟨e,(HU he).1,(HU he).2,rfl⟩
theorem GF{α β:Type}{f:α->Int}{g:β->α}:∀{l:List β},b8 f (l.map g)=b8 (λx=>f (g x)) l
 |[]=>rfl
 |x::l=>by simp only[aL,b8,GF (l:=l)]
theorem Uc{b:Bk}{M:List ck}{av:List (List Int)}{R:List D}(hR:R=cg b)(ht:b.aT.dX≠[])(hM:∀m∈M,Bd b.aT m=true)(hl:M.length<=40)(hp:sM b.aT av=0):∀(k i:Nat),i+k=M.length ->
  WL T [2,4,7,8,9] false vq [(2,.own 0 R),(4,.own 0 zS),(7,lF av pE),(8,lF M ck.enc),(9,iI i)] ([.dead]::J)
   (λx e J'=>J'=[.dead]::J/\if b8 (λm=>kV b.aT m av) (M.drop i)=0 then x=.exit 0/\get e 2=.own 0 R/\get e 4=.own 0 zS/\get e 7=lF av pE
    else x=.ret/\get e 4=.own 0 R/\get e 5=iI (b8 (λm=>kV b.aT m av) (M.drop i)))
 |0,i,hi=>by
  refine aK ?_;obtain rfl:i=M.length:=by omega
  have h2:M.drop M.length=[]:=ec;simp[h2,b8]
 |k+1,i,hi=>by
  refine aK ?_;have h1:i<M.length:=by omega
  obtain⟨m,hm⟩:=gE h1;have hBd:=hM m (ah hm);have a1:=bx (f:=ck.enc) (w:=2) hm;have h4:=cj h1;have hT:=iF (f:=Rw.enc) ht;obtain⟨hp1,hp2⟩:=kG hp;have ih:=Uc hR ht hM hl hp k (i+1) (by omega);rw[bj hm,b8];cases hrun:aD.run b.aT m av with
  |none =>
   have hE:kV b.aT m av=9:=by simp[kV,hBd,hp,hrun]
   have hP:∀J,J≠[]->di T (.call false 102 [.agg [iI b.aT.f.x,iI b.aT.f.y,iI b.aT.f.z,iI b.aT.f.k,lF b.aT.dX Rw.enc,iI b.aT.cJ,iI b.aT.lift,iI b.aT.deep,nl bN.enc b.aT.ar],.agg (mL m),lF av pE] J)=_:=λJ hJ=>R5 (J:=J) (Fv.of hBd) hp1 hp2 hJ hrun j6
   rw[hE];subst hR;simp[h1,a1,hT,hP,cg,zS]
  |some r =>
   obtain⟨ss,ys⟩:=r;have hE:kV b.aT m av=0:=by simp[kV,hBd,hp,hrun]
   have hP:∀J,J≠[]->di T (.call false 102 [.agg [iI b.aT.f.x,iI b.aT.f.y,iI b.aT.f.z,iI b.aT.f.k,lF b.aT.dX Rw.enc,iI b.aT.cJ,iI b.aT.lift,iI b.aT.deep,nl bN.enc b.aT.ar],.agg (mL m),lF av pE] J)=_:=λJ hJ=>Kz (J:=J) (Fv.of hBd) hp1 hp2 hJ hrun j6
   rw[hE,if_pos rfl];subst hR;simp[h1,a1,h4,hT,hP,cg];exact WL.to ih (by simp[cg,hT]) rfl λx e J' hh=>by simpa[cg,hT]using hh
theorem acu{b:Bk}{l:List Int}(hp:sM b.aT b.av=0)(hn:b.av.length<200)(hk:ba.fB b.k0 b.k1 b.k2=true)(hl:l.length=b.aT.ar.length)(hr:∀n∈l,-100000<=n/\n<=100000):sM b.aT (dJ b l)=0:=by
 obtain⟨h1,h2⟩:=kG hp;simp only[ba.fB,af,au]at hk;have hkp:0<=lY b/\lY b<=1000:=by unfold lY;split<;>(try split)<;>omega
 have key:∀r∈dJ b l,pf b.aT r=0:=by
  intro r hr';rcases aU.1 hr' with h | h
  .have hv:=h2 r h;unfold pf;rw[if_pos hv.len,if_pos (ff.2 λx hx=>aS.2 (hv.ok x hx))]
  .simp only[List.mem_singleton]at h;subst h;unfold pf;rw[if_pos (by simpa using hl),if_pos];refine ff.2 λx hx=>aS.2 ?_
   obtain⟨n,hn,rfl⟩:=bO.1 hx;have hb:=hr n hn;unfold iY;split
   .have b2:0 <= -n*lY b:=bF (by omega) hkp.1;have b3 : -n*lY b<=100000*1000:=cA (by omega) hkp.2 hkp.1 (by omega);rw[aN b2];omega
   .exact hb
 have h3:(dJ b l).length=b.av.length+1:=by simp[dJ]
 unfold sM;rw[if_neg (by omega)];generalize dJ b l=p at key;clear h3;induction p with
 |nil=>rfl
 |cons x p ih=>simp only[b8,key x (by simp)];exact ih λr h=>key r (by simp[h])
theorem abe{n:Nat}{b:Bk}{l:List Int}(hK:Kr n b)(hl:l.length<=1000000)(hJ:J≠[]):
  Cl 67 [.agg (cg b),lF l aQ] (fU (lP b l)) J:=by
 refine an ?_;have hS:=λJ=>N1 (J:=J) (b:=b) hK.kv.ml
 try simp only[Cl]at hS
 have hnp:=l7 (f:=pE) b.av;by_cases c1:cp b.ai=[]
 .have hd:lP b l=(b,8):=by unfold lP;rw[if_pos c1]
  rw[hd];simp[c1]at hS;simp only[cg]at hS;simp[cg,hS,fU];exact cX (b:=b) rfl
 have hne:=OH c1;have hv:=hK.valid hne;have ht:=vN (Bv.of hv).dX;have hT:=iF (f:=Rw.enc) ht
 try simp only[lF]at hT
 simp[c1]at hS;simp only[cg,hT]at hS;by_cases c2:b.av.length<200
 case neg =>
  have hd:lP b l=(b,3):=by unfold lP;rw[if_neg c1,if_neg c2]
  rw[hd];simp[cg,hT,hS,fU,hnp,show(200:Int)<=b.av.length by omega];exact cX (b:=b) (by simp[cg,hT])
 have c2':¬(200:Int)<=b.av.length:=by omega
 have hRt:=λJ=>Vq (J:=J) (b:=b.aT) (l:=l) (wq:=nl bN.enc b.aT.ar) (by omega) j6
 try simp only[lF,Cl]at hRt
 by_cases c3:pf b.aT l=0
 case neg =>
  have hd:lP b l=(b,pf b.aT l):=by
   unfold pf at *
   by_cases h1:l.length=b.aT.ar.length
   .by_cases h2:dz l (λn=>bI n (-100000) 100000)=true
    .rw[if_pos h1,if_pos h2]at c3;exact absurd rfl c3
    .unfold lP;rw[if_neg c1,if_pos c2,if_pos h1,if_neg h2,if_pos h1,if_neg h2]
   .unfold lP;rw[if_neg c1,if_pos c2,if_neg h1,if_neg h1]
  rw[hd];simp[cg,hT,hS,fU,hnp,c2',hRt,c3];exact cX (b:=b) (by simp[cg,hT])
 obtain⟨r1,r2⟩:=Rv.of c3;rw[c3]at hRt;have hp:=acu hK.kv.pl c2 hK.kv.jf r1 r2;have hd:lP b l=if b8 (λe=>kV b.aT e.m (dJ b l)) (cp b.ai)=0 then(JR b (dJ b l),0)else(b,b8 (λe=>kV b.aT e.m (dJ b l)) (cp b.ai)):=by
  unfold lP;rw[if_neg c1,if_pos c2,if_pos r1,if_pos (ff.2 λx hx=>aS.2 (r2 x hx))]
 rw[hd];have hRs:=λJ hJ=>Vp (J:=J) (b:=b) (l:=l) hK.lit hK.kv.jf hl r2 hJ
 try simp only[lF,Cl]at hRs
 have hLf:=λJ hJ=>NY (J:=J) (b:=b) hK.kv.ml hJ
 try simp only[lF,Cl]at hLf
 simp only[cg,hT]at hRs hLf;have⟨q1,q2,q3⟩:b.av.length*24<=room/\(b.av.length+1)*24<=room/\24<=room:=by unfold room;omega
 have hpel:=LO b.av;have htk:(fM b.av pE).take b.av.length=fM b.av pE:=cZ;have cle:∀x:List Int,D.bh (pE x)=true:=ail;have hL:=Uc (J:=J) (b:=b) (M:=gI b.ai) (av:=dJ b l) (R:=cg b) rfl ht (by
  intro m hm;obtain⟨e,he,_,rfl⟩:=Nu hm;exact(hK.kv.fit e he).1) (by have:=LH b.ai;have:=hK.kv.ml;omega) hp (gI b.ai).length 0 (by omega)
 have hnl:(dJ b l).length=b.av.length+1:=by simp[dJ]
 have hfm:fM (dJ b l) pE=fM b.av pE++[.bZ l.length (fM (l.map (iY (lY b))) aQ)]:=by simp[dJ,pE]
 have hz:b8 (λm=>kV b.aT m (dJ b l)) (gI b.ai)=b8 (λe=>kV b.aT e.m (dJ b l)) (cp b.ai):=GF
 try simp only[lF]at hL
 rw[az,hz]at hL;generalize hF:b8 (λe=>kV b.aT e.m (dJ b l)) (cp b.ai)=F at hL ⊢;have hfr:=o9 (f:=pE) (w:=1) (λ_=>rfl) cle (l:=dJ b l) (j:=0) (bs:=[.cells (if b.av=[]then 0 else 1) (fM (dJ b l) pE)]) (v:=if b.av=[]then 0 else 1) (J:=J) hJ rfl;rw[hnl,hfm]at hL hfr;have hne0:dJ b l≠[]:=λh=>by rw[h]at hnl;simp at hnl
 by_cases hm:b.av=[]
 .have e1:nl pE b.av=.bB:=by simp[nl,hm]
  simp only[e1]at hS hRs hLf hnp;rw[if_pos hm]at hfr;have hm0:b.av.length=0:=by rw[hm];rfl
  simp only[hm,mZ,bd,List.nil_append,cr]at hfr;simp[cg,hT,hS,fU,hnp,c2',hRt,e1,hRs,hLf,q3,hfr];rw[hm0,hm]at hL;refine WL.to hL (by simp[cg,hT,zS,hm,EV]) rfl ?_;rintro x e J' ⟨rfl,h⟩;by_cases hF0:F=0
  .rw[if_pos hF0]at h ⊢;obtain⟨rfl,g2,g4,g7⟩:=h;simp[g2,g4,g7,cg,zS];exact Fz (b:=JR b (dJ b l)) (by simp[cg,JR,iF hne0,hnl,hfm,hm])
  .rw[if_neg hF0]at h ⊢;obtain⟨rfl,g4,g5⟩:=h;simp[g4,g5,eT,eE];exact cX (b:=b) rfl
 .have e1:=iF (f:=pE) hm
  try simp only[lF]at e1
  simp only[e1]at hS hRs hLf;rw[if_neg hm]at hfr;simp[cg,hT,hS,fU,c2',hRt,hm,e1,hRs,hLf,q1,q2,hpel,htk,hfr];refine WL.to hL (by simp[cg,hT,zS,e1]) rfl ?_;rintro x e J' ⟨rfl,h⟩;by_cases hF0:F=0
  .rw[if_pos hF0]at h ⊢;obtain⟨rfl,g2,g4,g7⟩:=h;simp[g2,g4,g7,cg,zS];exact Fz (b:=JR b (dJ b l)) (by simp[cg,JR,iF hne0,hnl,hfm])
  .rw[if_neg hF0]at h ⊢;obtain⟨rfl,g4,g5⟩:=h;simp[g4,g5,eT,eE];exact cX (b:=b) rfl
theorem Xf{b:b9}{m:ck}{r:RunT}{n:Nat}{x:sX}{wq:D}(h:Fv b m)(hr:MZ b n r.1 r.2)(hn:n<=200)(hx:WU b n x)(hwq:wq.pO=lF b.ar bN.enc):
  Cl 105 [.agg [iI b.f.x,iI b.f.y,iI b.f.z,iI b.f.k,lF b.dX Rw.enc,iI b.cJ,iI b.lift,iI b.deep,wq],.agg (mL m),.agg [lF r.1 kM,lF r.2 kM],.agg x.enc] (iI (oC b m r x)) J:=by
 refine an ?_;have cls:∀l:List (List aD.aF),D.bh (fM l kM)=true:=fD λx=>by simp[kM,D.clean,ID]
 unfold oC;by_cases h1:x.jK=1
 .obtain⟨p1,p2,p3⟩:=hx.p h1;have hz:=h.bv.sz;obtain⟨s1,s2⟩:=ZW hr (t:=x.tick.toNat) (by omega);have hi:x.idx.toNat<b.n:=by unfold b9.size at p3;omega
  have hP:=λJ=>KA (J:=J) h s2 hi
  rw[show((x.idx.toNat:Nat):Int)=x.idx by omega]at hP;have a1:=bx (f:=kM) (w:=1) s1;simp only[kM,bR]at a1;have hl:=hr.sl;have q1:x.tick<r.1.length:=by omega
  rw[s1,if_pos h1];simp[hwq,h1,a1,hP,p1.1,q1]
 .obtain⟨p1,p2,p3⟩:=hx.y h1;obtain⟨y1,y2⟩:=Ro hr (t:=x.tick.toNat-1) (by omega);have hl:=hr.yl;have hb:=Vi y2 (w:=x.idx.toNat) (by omega);have a1:=bx (f:=kM) (w:=1) y1;simp only[kM,bR]at a1;have a2:=bx (f:=aD.aF.enc) (w:=3) hb;have hy:=y2.ok _ (ah hb);have hyl:=y2.len;have⟨q1,q2⟩:x.tick-1<r.2.length/\x.idx<(rowAt r.2 (x.tick.toNat-1)).length:=by omega
  have q3:1<=x.tick:=p1.1;have t1:(x.tick-1).toNat=x.tick.toNat-1:=by omega
  have w1:=bV (n:=x.tick-1);rw[y1,if_neg h1];simp only[Option.getD_some];generalize aR (rowAt r.2 (x.tick.toNat-1)) x.idx.toNat=y at a2 hy ⊢;unfold aF.NW aF.G1;by_cases h2:x.jK=2
  .simp[hwq,h2,a1,a2,q1,q2,q3,p2,t1,w1]
  have hw:=hx.jK;by_cases h3:x.jK=4
  .simp[hwq,h3,a1,a2,q1,q2,q3,p2,t1,w1]
  have h4:x.jK=3:=by omega
  have hm:=hy.1;have hh:=hy.2.1;by_cases h5:y.m=0
  .simp[hwq,h4,h5,a1,a2,q1,q2,q3,p2,t1,w1]
  .have t2:y.h.tdiv y.m=y.h / y.m:=aN hh.1;have w2:=bV (n:=y.h.tdiv y.m) (by
    rw[t2];have:=Int.ediv_nonneg hh.1 hm.1;have:=Int.ediv_le_self y.m hh.1;omega)
   simp[hwq,h4,h5,a1,a2,q1,q2,q3,p2,t1,w1,w2]
theorem abV{ss ys:List (List aD.aF)}{v v':Nat}(hJ:J≠[]):∃s,cK (J.length-1) 16 (.cS [.agg [.sl J.length 0 v 0 ss.length 1,.sl J.length 1 v' 0 ys.length 1],.bool true]) ([.cells v (fM ss kM),.cells v' (fM ys kM)]::J)=(.cS [.agg [lF ss kM,lF ys kM],.bool true],s::J):=by
 have c1:∀x:List aD.aF,D.bh (kM x)=true:=λx=>by simp[kM,D.clean,ID]
 have k1:=kb (n:=14) (f:=kM) (w:=1) (l:=ss) (j:=0) (v:=v) (bs:=[.cells v (fM ss kM),.cells v' (fM ys kM)]) (by decide) (λ_=>rfl) c1 hJ rfl;have k2:=kb (n:=14) (f:=kM) (w:=1) (l:=ys) (j:=1) (v:=v') (bs:=[.dead,.cells v' (fM ys kM)]) (by decide) (λ_=>rfl) c1 hJ rfl;simp only[List.set_cons_zero]at k1;rw[pw (by simp) (by omega)];simp only[jD,kq];rw[Fp (by simp) (by omega)];simp only[jD,kq];rw[k1];simp only;rw[k2,eV (by rfl) (by omega)];exact⟨_,rfl⟩
theorem Xe{b:b9}{m:ck}{av:List (List Int)}(h:Fv b m)(hp:av.length<=200)(hr:∀r∈av,Rv b r)(hJ:J≠[]){ss ys:List (List aD.aF)}(hrun:aD.run b m av=some (ss,ys)){wq:D}(hwq:wq.pO=lF b.ar bN.enc):
  Cl 102 [.agg [iI b.f.x,iI b.f.y,iI b.f.z,iI b.f.k,lF b.dX Rw.enc,iI b.cJ,iI b.lift,iI b.deep,wq],.agg (mL m),nl pE av] (.cS [.agg [lF ss kM,lF ys kM],.bool true]) J:=by
 by_cases hz:av=[]
 case neg=>rw[iF hz];exact Kz h hp hr hJ hrun hwq
 subst hz;cases hrun;refine an ?_;have hf:=λJ hJ=>KB (J:=J) h hJ
 simp[hwq,EV,hf];refine aK ?_;simp;have hz:=abV (J:=J) (ss:=[cf b m]) (ys:=[]) (v:=0) (v':=0) hJ;simpa[kM,nQ]using hz
def wU(b:Bk)(x:sX)(e:ep):Int:=if e.left=true then(match aD.run b.aT e.m b.av with | some r=>oC b.aT e.m r x | none=>0)else 0
theorem T8{n:Nat}{b:Bk}{x:sX}{atv:Int}{L:D}{R:List D}(hR:R=cg b)(hL:L.calm=L)(hK:Kr n b)(ht:b.aT.dX≠[])(hx:WU b.aT b.av.length x):∀(m i:Nat),i+m=b.ai.length ->
  WL T [1,2,3,6,8,10,11] false vo [(1,iI atv),(2,L),(3,.bq R),(6,.own 0 zS),(8,.own 0 x.enc),(10,.sl J.length 0 0 0 b.ai.length 1),(11,iI i)]
   ([.cells 0 (iB (b.ai.map (wU b x)) i m)]::J)
   (λy e J'=>y=.exit 0/\get e 1=iI atv/\get e 2=L/\get e 3=.bq R/\get e 6=.own 0 zS/\get e 10=.sl J.length 0 0 0 b.ai.length 1/\J'=[.cells 0 (fM (b.ai.map (wU b x)) aQ)]::J)
 |0,i,hi=>by
  refine aK ?_;obtain rfl:i=b.ai.length:=by omega
  have hn:=l7 (f:=ep.enc) b.ai;have hf:=Qy (vs:=b.ai.map (wU b x));rw[bK]at hf;rw[hf];subst hR;simp[cg,hn,hL]
 |m+1,i,hi=>by
  refine aK ?_;have h1:i<b.ai.length:=by omega
  have hml:=hK.kv.ml;have h1':(i:Int)<b.ai.length:=by omega
  obtain⟨e,he⟩:=gE h1;have hne:b.ai≠[]:=λh=>by rw[h]at h1;simp at h1
  have h2:=Ow he;have d1:=mM (f:=ep.enc) (w:=4) (λ_=>rfl) he;have d2:(fM b.ai ep.enc).drop (i*4+2)=.bool e.left::iI e.Oi::(fM b.ai ep.enc).drop (i*4+4):=by
   have:=congrArg (List.drop 2) d1;simpa[cC]using this
  simp only[ep.enc]at h2;have h4:=cj h1;have hn:=iF (f:=ep.enc) hne;have hT:=iF (f:=Rw.enc) ht;have ih:=T8 hR hL hK ht hx (atv:=atv) m (i+1) (by omega);obtain⟨f1,f2⟩:=Ux (vs:=b.ai.map (wU b x)) (i:=i) (m:=m) (v:=wU b x e) (by simp;omega) (by simp[he]);rw[bK]at f1;have hi1:i+1<=b.ai.length:=by omega
  have hem:=ah he;obtain⟨hp1,hp2⟩:=kG hK.kv.pl;simp only[sX.enc]at ih ⊢;cases hc:e.left
  .have hv:wU b x e=0:=by simp[wU,hc]
   have f3:iB (b.ai.map (wU b x)) i (m+1)=iB (b.ai.map (wU b x)) (i+1) m:=by
    unfold iB;rw[List.take_add_one,lr,he];simp[hv,List.replicate_succ]
   rw[f3];subst hR;simp[cg,hn,h1',h2,h4,hL,hc,hT];exact WL.to ih (by simp[cg,hn,hT]) rfl λx e J hh=>by simpa[cg,hn,hT]using hh
  .obtain⟨hBd,_,_⟩:=hK.kv.fit e hem;obtain⟨r,hrun⟩:=hK.kv.A9 e hem hc;obtain⟨ss,ys⟩:=r;have hv:wU b x e=oC b.aT e.m (ss,ys) x:=by simp[wU,hc,hrun]
   rw[hv]at f2;have hfv:=Fv.of hBd;have hP:∀J,J≠[]->di T (.call false 102 [.agg [iI b.aT.f.x,iI b.aT.f.y,iI b.aT.f.z,iI b.aT.f.k,lF b.aT.dX Rw.enc,iI b.aT.cJ,iI b.aT.lift,iI b.aT.deep,nl bN.enc b.aT.ar],.agg (mL e.m),nl pE b.av] J)=_:=λJ hJ=>Xe (J:=J) hfv hp1 hp2 hJ hrun j6
   have hRd:=λJ=>Xf (J:=J) (wq:=nl bN.enc b.aT.ar) hfv (r:=(ss,ys)) (MZ.of hfv hp2 hrun) hp1 hx j6
   simp only[sX.enc]at hRd;subst hR;simp[cg,hn,h1',h2,h4,hL,hc,hT,hP,hRd,f1,f2,hi1];exact WL.to ih (by simp[cg,hn,hT]) (by simp) λx e J hh=>by simpa[cg,hn,hT]using hh
theorem aa8{n:Nat}{b:Bk}{w i lo hi:Int}(hK:Kr n b)(hJ:J≠[]):
  Cl 68 [.agg (cg b),iI b.at_,.bZ 4 [iI w,iI i,iI lo,iI hi]] (fU (nT b ⟨b.av.length,w,i,lo,hi⟩)) J:=by
 refine an ?_;have hS:=λJ=>N1 (J:=J) (b:=b) hK.kv.ml
 try simp only[Cl]at hS
 have hnp:=l7 (f:=pE) b.av;have hcl:=mO (b:=b);by_cases c1:cp b.ai=[]
 .have hd:nT b ⟨b.av.length,w,i,lo,hi⟩=(b,8):=by unfold nT;rw[if_pos c1]
  rw[hd];simp[c1]at hS;simp only[cg]at hS hcl;simp[cg,hS,hcl,fU]
 have hne:=OH c1;have hv:=hK.valid hne;have ht:=vN (Bv.of hv).dX;have hT:=iF (f:=Rw.enc) ht
 try simp only[lF]at hT
 have hE:=iF (f:=ep.enc) hne
 try simp only[lF]at hE
 simp[c1]at hS;simp only[cg,hT,hE]at hS hcl;cases c2:bI w 1 4
 .have hd:nT b ⟨b.av.length,w,i,lo,hi⟩=(b,1):=by
   unfold nT;rw[if_neg c1];split
   .simp[fj,c2]
   .rfl
  rw[hd];simp[cg,hT,hE,hS,hcl,dD,c2,fU]
 have hw:=aS.1 c2;have hw8:bI w 0 255=true:=aS.2 (by omega);have w1:IntKind.u8.wrap w=w:=TG (by omega);have hC:=λJ=>N0 (J:=J) (b:=b.aT) (n:=b.av.length) (rd:=[⟨b.av.length,w,i,lo,hi⟩]) (wq:=nl bN.enc b.aT.ar) (Bv.of hv) (by simp) (by intro x hx;simp at hx;subst hx;simp only;omega) j6
 try simp only[lF,Cl]at hC
 rw[CD]at hC;simp only[aB,bd,cT,mZ,dq,sX.enc,cr]at hC;have hd:nT b ⟨b.av.length,w,i,lo,hi⟩=if fj b.aT b.av.length ⟨b.av.length,w,i,lo,hi⟩=0 then(gM b lo hi (rK b ⟨b.av.length,w,i,lo,hi⟩),0)else(b,fj b.aT b.av.length ⟨b.av.length,w,i,lo,hi⟩):=by
  unfold nT;rw[if_neg c1,if_pos hw8]
 rw[hd];by_cases c3:fj b.aT b.av.length ⟨b.av.length,w,i,lo,hi⟩=0
 case neg =>
  rw[if_neg c3];simp[cg,hT,hE,hS,hcl,dD,c2,w1,hnp,hC,c3,fU]
 rw[if_pos c3];have hx:=WU.of c3;have hLv:=T8 (J:=J) (b:=b) (x:=⟨b.av.length,w,i,lo,hi⟩) (atv:=b.at_) (L:=.bZ 4 [iI w,iI i,iI lo,iI hi]) (R:=cg b) rfl rfl hK ht hx b.ai.length 0 (by omega);have hst:=λJ hJ=>MU (J:=J) (b:=b) (lo:=lo) (hi:=hi) (val:=rK b ⟨b.av.length,w,i,lo,hi⟩) (vs:=b.ai.map (wU b ⟨b.av.length,w,i,lo,hi⟩)) hne hK.kv.wl hK.kv.ml (by simp) (by
  intro j e v he hv hl;simp[he]at hv;subst hv;obtain⟨r,hrun⟩:=hK.kv.A9 e (ah he) hl;have h1:wU b ⟨b.av.length,w,i,lo,hi⟩ e=oC b.aT e.m r ⟨b.av.length,w,i,lo,hi⟩:=by simp[wU,hl,hrun]
  have h2:rK b ⟨b.av.length,w,i,lo,hi⟩ e.m=MK lo hi (oC b.aT e.m r ⟨b.av.length,w,i,lo,hi⟩):=by simp[rK,hrun]
  rw[h1,h2];have he2:=hx.ends.2.1
  try simp only[]at he2
  try simp only at he2
  generalize oC b.aT e.m r ⟨b.av.length,w,i,lo,hi⟩=v;unfold MK;split
  .exact⟨rfl,λ_=>rfl⟩
  .have q1:bI v lo hi=true:=aS.2 (by omega);have q2:bI lo lo hi=true:=aS.2 (by omega);rw[q1,q2];exact⟨rfl,λh=>by cases h⟩) hJ
 have hz:=Nf (vs:=b.ai.map (wU b ⟨b.av.length,w,i,lo,hi⟩));rw[bK]at hz;rw[hz]at hLv;have hml:=hK.kv.ml;have r1:(b.ai.length:Int)*8<=room:=by unfold room;omega
 simp[cg,hT,hE,hS,dD,c2,w1,hnp,hC,c3,r1];refine WL.to hLv (by simp[cg,hT,hE,zS]) (by simp) ?_;rintro y e J' ⟨rfl,g1,g2,g3,g6,g10,rfl⟩;have cli:∀x:Int,D.bh (aQ x)=true:=λ_=>by simp[aQ,D.clean]
 have f3:=o9 (f:=aQ) (w:=1) (λ_=>rfl) cli (l:=b.ai.map (wU b ⟨b.av.length,w,i,lo,hi⟩)) (j:=0) (v:=0) (bs:=[.cells 0 (fM (b.ai.map (wU b ⟨b.av.length,w,i,lo,hi⟩)) aQ)]) (J:=J) hJ rfl;simp only[lF,Cl,bK]at f3 hst;simp[g1,g2,g3,g6,g10,f3,hst,eT,eE,Fb,Bh,fU];exact cX (b:=gM b lo hi (rK b ⟨b.av.length,w,i,lo,hi⟩)) rfl
theorem X0{u:oF}(hs:Aa u.parts)(hl:u.parts.length<=8):∀(m i:Nat) (out:Int),i+m=u.parts.length->0<=out->out<=100000*i ->
  WL T [1,3,4] false pQ [(1,.bq u.enc),(3,iI out),(4,iI i)] J
   (λx e J'=>x=.exit 0/\J'=J/\get e 3=iI (out+Ha (u.parts.drop i)))
 |0,i,out,hi,h0,ho=>by
  refine aK ?_;have h1:¬i<u.parts.length:=by omega
  have h2:u.parts.drop i=[]:=ec;simp[h1,h2,Ha]
 |m+1,i,out,hi,h0,ho=>by
  refine aK ?_;have h1:i<u.parts.length:=by omega
  obtain⟨p,hp⟩:=gE h1;have hfl:=bx (f:=Prt.enc) (w:=2) hp;have hd:=bj hp;have h4:=cj h1;have hb:=hs p (ah hp);have w1:=bV (n:=out+p.width);have ih:=X0 hs hl m (i+1) (out+p.width) (by omega) (by omega) (by omega);rw[hd,Ha];simp[h1,hfl,h4,w1];exact WL.tg ih λx e J' hh=>by simpa[Int.add_assoc]using hh
theorem aed{u:oF}(hs:Aa u.parts)(hl:u.parts.length<=8):Cl 142 [.agg u.enc] (iI (Ha u.parts)) J:=by
 refine an ?_;simp[];refine WL.tg (X0 (J:=[]::J) hs hl u.parts.length 0 0 (by omega) (by omega) (by omega)) ?_;rintro x e J' ⟨rfl,rfl,g2⟩;simp[g2]
theorem X2{u:oF}(hs:Aa u.parts)(hl:u.parts.length<=8):∀(k i:Nat) (out m:Int),i+k=u.parts.length->0<=m->m<=1000000->0<=out->out<=1000000000*i ->
  WL T [1,2,5,6] false vg [(1,iI m),(2,.bq u.enc),(5,iI out),(6,iI i)] J
   (λx e J'=>x=.exit 0/\J'=J/\get e 5=iI (out+ur (u.parts.drop i) m))
 |0,i,out,m,hi,hm,hm2,h0,ho=>by
  refine aK ?_;have h1:¬i<u.parts.length:=by omega
  have h2:u.parts.drop i=[]:=ec;simp[h1,h2,ur]
 |k+1,i,out,m,hi,hm,hm2,h0,ho=>by
  refine aK ?_;have h1:i<u.parts.length:=by omega
  obtain⟨p,hp⟩:=gE h1;have hfl:=bx (f:=Prt.enc) (w:=2) hp;have d1:=mM (f:=Prt.enc) (w:=2) (λ_=>rfl) hp;have d2:(fM u.parts Prt.enc).drop (i*2+1)=iI p.kr::(fM u.parts Prt.enc).drop (i*2+2):=by
   have:=congrArg (List.drop 1) d1;simpa[cC]using this
  have hd:=bj hp;have h4:=cj h1;have hb:=hs p (ah hp);have hmn:0<=min m p.width/\min m p.width<=m:=by omega
  have q1:0<=p.kr*min m p.width:=bF hb.1.1 hmn.1;have q2:p.kr*min m p.width<=1000*1000000:=cA hb.1.2 (by omega) hmn.1 (by omega);have w0:IntKind.i64.wrap (min m p.width*p.kr)=p.kr*min m p.width:=by rw[Int.mul_comm];exact bV
  have w1:=bV (n:=m-min m p.width);have w2:=bV (n:=out+p.kr*min m p.width);have ih:=X2 hs hl k (i+1) (out+p.kr*min m p.width) (m-min m p.width) (by omega) (by omega) (by omega) (by omega) (by omega);rw[hd,ur];simp[h1,hfl,h4,w0,w1,w2];exact WL.tg ih λx e J' hh=>by simpa[Int.add_assoc]using hh
theorem aeh{u:oF}{m:Int}(hs:Aa u.parts)(hl:u.parts.length<=8)(hm:0<=m/\m<=1000000):Cl 143 [.agg u.enc,iI m] (iI (ur u.parts m)) J:=by
 refine an ?_;simp[];refine WL.tg (X2 (J:=[]::J) hs hl u.parts.length 0 0 m (by omega) hm.1 hm.2 (by omega) (by omega)) ?_;rintro x e J' ⟨rfl,rfl,g2⟩;simp[g2]
def ZS(u:oF)(s:sY):D:=if Ha u.parts<s.m then .cS [.agg [iI 0,iI 0,iI 0,iI 0],iI 0,iI 2]
 else if s.h<ur u.parts s.m then .cS [.agg [iI 0,iI 0,iI 0,iI 0],iI 0,iI 9]
 else .cS [.agg [iI s.m,iI (s.h-ur u.parts s.m),iI s.s,iI s.g],iI (ur u.parts s.m),iI 0]
theorem aee{u:oF}{s:sY}(hu:u.ok=true)(hs:s.valid=true):Cl 108 [.agg u.enc,.agg s.enc] (ZS u s) J:=by
 refine an ?_;have hok:=hu;simp only[oF.ok,af]at hu;have hl:u.parts.length<=8:=by have:=aS.1 hu.2.1;omega
 have hsm:=AR (by omega) hu.2.2;simp only[sY.valid,af,aS]at hs;have hc:=λJ=>aed (J:=J) hsm hl
 have hp:=λJ=>aeh (J:=J) hsm hl hs.1
 have hb:=OS hsm hs.1.1;have w1:=bV (n:=s.h-ur u.parts s.m);simp only[oF.enc]at hc hp;unfold ZS;by_cases c1:Ha u.parts<s.m
 .simp[hc,c1]
 by_cases c2:s.h<ur u.parts s.m
 .simp[hc,hp,c1,c2]
 simp[hc,hp,c1,c2,w1]
theorem Vr{x:sY}(hm : -1000000000<=x.m/\x.m<=1000000000):Cl 107 [.agg x.enc] (.bool x.valid) J:=by
 refine an ?_;have w1:=bV (n:=4000*x.m);have w2:=bV (n:=10000*x.m);cases hc1:bI x.m 0 1000000
 .simp[dD,sY.valid,hc1]
 cases hc2:bI x.h 0 (4000*x.m)
 .simp[dD,sY.valid,w1,hc1,hc2]
 cases hc3:bI x.s 0 (10000*x.m)
 .simp[dD,sY.valid,w1,w2,hc1,hc2,hc3]
 simp[dD,sY.valid,w1,w2,hc1,hc2,hc3]
theorem W9{r:Rw}{x:sY}(hr:0<=r.l/\r.l<r.v/\r.v<=4000)(hs:0<=r.s/\r.s<=2000)(hx:x.valid=true)(hx1:x.s=0)(hx2:x.g=0):
  ∃c:List D,c.length=6/\∀J,Cl 109 [.agg r.enc,.agg x.enc] (.agg ((fF r x).enc++c)) J:=by
 simp only[sY.valid,af,aS]at hx;obtain⟨⟨m0,m1⟩,⟨h0,h1⟩,_,_⟩:=hx;obtain⟨x,xh,xs,xg⟩:=x;simp only at hx1 hx2 m0 m1 h0 h1;subst hx1 hx2;have b1:0<=x*r.l/\x*r.l<=1000000*4000:=⟨bF m0 hr.1,cA m1 (by omega) hr.1 (by omega)⟩;have b2:0<=x*r.v/\x*r.v<=1000000*4000:=⟨bF m0 (by omega),cA m1 (by omega) (by omega) (by omega)⟩;have b3:0<=x*r.s/\x*r.s<=1000000*2000:=⟨bF m0 hs.1,cA m1 hs.2 hs.1 (by omega)⟩;have w1:=bV (n:=x*r.l);have w2:=bV (n:=x*r.v);have w3:=bV (n:=x*r.s);have w4:=bV (n:=xh-x*r.l);have w5:=bV (n := -(x*r.s));have w6:=bV (n:=r.v-r.l);have mx:max 0 (-(x*r.s))=0:=by omega
 by_cases hx0:x=0
 .obtain rfl:xh=0:=by omega
  subst hx0;have hf:eS r ⟨0,0,0,0⟩=0:=by simp[eS]
  refine⟨[iI 0,iI 0,iI 0,iI 0,iI 0,iI 0],rfl,λJ=>?_⟩;refine an ?_;simp[fF,Pl,Pk,hf,bV]
 by_cases c1:xh-x*r.l<=0
 .have hf:eS r ⟨x,xh,0,0⟩=0:=by simp only[eS,if_pos c1]
  refine⟨[iI x,iI xh,iI 0,iI 0,iI 0,iI 0],rfl,λJ=>?_⟩;refine an ?_;simp[fF,Pl,Pk,hf,w1,w3,w4,w5,mx,show ¬x*r.l<xh by omega,Ne.symm hx0]
 have c1':x*r.l<xh:=by omega
 by_cases c2:x*r.v<=xh
 .have hf:eS r ⟨x,xh,0,0⟩=x:=by simp only[eS,if_neg c1,if_pos c2]
  refine⟨[iI 0,iI 0,iI 0,iI 0,iI 0,iI 0],rfl,λJ=>?_⟩;refine an ?_;simp[fF,Pl,Pk,hf,w1,w2,w4,c1',c2,hx0,show 0<x by omega]
 have hd:0<r.v-r.l:=by omega
 have hmv:x*r.v=x*r.l+x*(r.v-r.l):=by rw[<- Int.mul_add];congr 1;omega
 have hf:eS r ⟨x,xh,0,0⟩=(xh-x*r.l) / (r.v-r.l):=by simp only[eS,if_neg c1,if_neg c2]
 have hq:(xh-x*r.l).tdiv (r.v-r.l)=(xh-x*r.l) / (r.v-r.l):=aN (by omega);have s0:0<=(xh-x*r.l) / (r.v-r.l):=Int.ediv_nonneg (by omega) (by omega);have s1:(xh-x*r.l) / (r.v-r.l)<x:=Int.ediv_lt_of_lt_mul hd (by omega);have hne:¬r.v-r.l=0:=by omega
 generalize hz:(xh-x*r.l) / (r.v-r.l)=z at *
 have w7:=bV (n:=z);have hzx:¬z=x:=by omega
 by_cases c3:z=0
 .subst c3;refine⟨[iI x,iI xh,iI 0,iI 0,iI (xh-x*r.l),iI 0],rfl,λJ=>?_⟩;refine an ?_;simp[fF,Pl,Pk,hf,w1,w2,w3,w4,w5,w6,w7,mx,c1',c2,hq,hne,hzx]
 .have e1:0<=z*r.v/\z*r.v<=1000000*4000:=⟨bF s0 (by omega),cA (by omega) (by omega) (by omega) (by omega)⟩;have v1:=bV (n:=z*r.v);have v2:=bV (n:=x-z);have v3:=bV (n:=xh-z*r.v);have e2:0<=(x-z)*r.l/\(x-z)*r.l<=1000000*4000:=⟨bF (by omega) hr.1,cA (by omega) (by omega) hr.1 (by omega)⟩;have e3:0<=(x-z)*r.s/\(x-z)*r.s<=1000000*2000:=⟨bF (by omega) hs.1,cA (by omega) hs.2 hs.1 (by omega)⟩;have v4:=bV (n:=(x-z)*r.l);have v5:=bV (n:=(x-z)*r.s);have v6:=bV (n:=xh-z*r.v-(x-z)*r.l);have v7:=bV (n := -((x-z)*r.s));have my:max 0 (-((x-z)*r.s))=0:=by omega
  refine⟨[iI (x-z),iI (xh-z*r.v),iI 0,iI 0,iI (xh-z*r.v-(x-z)*r.l),iI 0],rfl,λJ=>?_⟩;refine an ?_;simp[fF,Pl,Pk,hf,w1,w2,w4,w6,w7,c1',c2,c3,hq,hne,hzx,v1,v2,v3,v4,v5,v6,v7,my,show 0<z by omega]
theorem aae{r:Rw}{x:sY}(hr:0<=r.l/\r.l<r.v/\r.v<=4000)(hx:x.valid=true):(fF r x).valid=true:=by
 simp only[sY.valid,af,aS]at hx;obtain⟨⟨m0,m1⟩,⟨h0,h1⟩,_,g0,g1⟩:=hx;obtain⟨f1,f2,f3⟩:=QK (x:=x) hr m0;simp only[fF,sY.valid,af,aS];refine⟨by omega,?_,by omega,?_⟩
 .unfold Pl;split
  .omega
  .split
   .rename_i h;rw[h];omega
   .have:=bF f1 (show 0<=r.v by omega);have:=Int.mul_le_mul_of_nonneg_left hr.2.2 f1;omega
 .unfold Pk;split<;>omega
theorem Zm{l:List Int}{v:Int}(h:l≠[]):D6 (l++[v])=min (D6 l) v/\D4 (l++[v])=max (D4 l) v:=by
 cases l with
 |nil=>exact absurd rfl h
 |cons a l=>simp[D6,D4]
def J7(tk w:Int)(acc:List Int):List D:=[iI tk,iI w,iI (D6 acc),iI (D4 acc),iI 0,iI 0]
theorem Ua{n:Nat}{b:Bk}{w lv u:Nat}{price:Int}{M:List ck}{R:List D}(hR:R=cg b)(hK:Kr n b)(ht:fP b.aT.dX=true)(hp:b.av≠[])(hM:∀m∈M,Bd b.aT m=true/\∃r,aD.run b.aT m b.av=some r)(hl:M.length<=40)(hJ:J≠[])
  (hw:w<b.aT.ar.length) (hlv:lv<b.aT.dX.length) (hu:u<b.cV.length):∀(k i:Nat),i+k=M.length ->
  WL T [1,2,4,6,7,8] false vp [(1,.bZ 4 [.int .i64 w,.int .i64 lv,.int .i64 u,.int .i64 price]),(2,.own 0 R),(4,.own 0 zS),(6,.bZ M.length (fM M ck.enc)),(7,.own 0 (J7 b.av.length w ((M.take i).map (oD b w lv u)))),(8,.int .i64 i)] J
   (λx e J'=>J'=J/\if b8 (uP b w lv u) (M.drop i)=0 then x=.exit 0/\get e 1=.bZ 4 [.int .i64 w,.int .i64 lv,.int .i64 u,.int .i64 price]/\get e 2=.own 0 R/\get e 4=.own 0 zS/\get e 7=.own 0 (J7 b.av.length w (M.map (oD b w lv u)))
    else x=.ret/\get e 4=.own 0 R/\get e 5=.int .i64 (b8 (uP b w lv u) (M.drop i)))
 |0,i,hi=>by
  refine aK ?_;obtain rfl:i=M.length:=by omega
  have h2:M.drop M.length=[]:=ec;simp[-List.map_take,h2,b8,J7]
 |k+1,i,hi=>by
  refine aK ?_;have h1:i<M.length:=by omega
  obtain⟨m,hm⟩:=gE h1;obtain⟨hBd,r,hrun⟩:=hM m (ah hm);have a1:=bx (f:=ck.enc) (w:=2) hm;have h4:=cj h1;have htn:=vN ht;have hT:=iF (f:=Rw.enc) htn;have hPl:=iF (f:=pE) hp;have hun0:b.cV≠[]:=λh=>by rw[h]at hu;simp[]at hu
  have hU:=iF (f:=oF.enc) hun0;obtain⟨hp1,hp2⟩:=kG hK.kv.pl;obtain⟨ss,ys⟩:=r;have hP:∀J,J≠[]->di T (.call false 102 [.agg [.int .i64 b.aT.f.x,.int .i64 b.aT.f.y,.int .i64 b.aT.f.z,.int .i64 b.aT.f.k,.bZ b.aT.dX.length (fM b.aT.dX Rw.enc),.int .i64 b.aT.cJ,.int .i64 b.aT.lift,.int .i64 b.aT.deep,nl bN.enc b.aT.ar],.agg [.str m.name,.bZ m.dG.length (fM m.dG aQ)],.bZ b.av.length (fM b.av pE)] J)=_:=λJ hJ=>Kz (J:=J) (Fv.of hBd) hp1 hp2 hJ hrun j6
  have hRun:=MZ.of (Fv.of hBd) hp2 hrun;have hpl:0<b.av.length:=aG.2 hp;obtain⟨hrow,hY⟩:=Ro (r:=(ss,ys)) hRun (t:=b.av.length-1) (by omega);dsimp only at hrow hY;have f1:=bx (f:=kM) (w:=1) hrow;rw[bR]at f1;have hyw:=Vi hY hw;have f2:=bx (f:=aD.aF.enc) (w:=3) hyw;have hyb:=hY.ok _ (ah hyw);have hyl:=hY.len;have w1:=bV (n:=(b.av.length:Int)-1);have⟨t1,q1⟩:((b.av.length:Int)-1).toNat=b.av.length-1/\(1:Int)<=b.av.length:=by omega
  have q2:(b.av.length:Int)-1<ys.length:=by have:=hRun.yl;omega
  have hrw:b.aT.dX[lv]?=some (rowOf b lv):=by simp[rowOf,hlv]
  have hun:b.cV[u]?=some (wZ b u):=by simp[wZ,hu]
  have f3:=bx (f:=oF.enc) (w:=2) hun;have f4:=bx (f:=Rw.enc) (w:=5) hrw;obtain⟨r1,r2⟩:=ZU ht hrw;have huk:=hK.kv.uok _ (ah hun);have hV:=λJ=>Vr (J:=J) (x:=mN b (ss,ys) w) (show -1000000000<=(aR (rowAt ys (b.av.length-1)) w).m/\(aR (rowAt ys (b.av.length-1)) w).m<=1000000000 by omega)
  have ih:=Ua (price:=price) hR hK ht hp hM hl hJ hw hlv hu k (i+1) (by omega);rw[bj hm,b8];have hs0:uP b w lv u m=if(mN b (ss,ys) w).valid=true then Ll (wZ b u) (fF (rowOf b lv) (mN b (ss,ys) w))else 1:=by simp[uP,hrun]
  subst hR;cases c1:(mN b (ss,ys) w).valid with
  |false =>
   rw[c1]at hV;have hs1:uP b w lv u m=1:=by rw[hs0,c1];rfl
   rw[hs1];simp only[sY.enc,mN]at hV;simp[-List.map_take,cg,h1,a1,hT,hPl,hP,f1,f2,w1,t1,q1,q2,hyl,hw,kM,hV,zS,hJ]
  |true =>
   rw[c1]at hV;have hs1:uP b w lv u m=Ll (wZ b u) (fF (rowOf b lv) (mN b (ss,ys) w)):=by rw[hs0,c1];rfl
   have hv1:oD b w lv u m=ur (wZ b u).parts (fF (rowOf b lv) (mN b (ss,ys) w)).m:=by simp[oD,hrun]
   have hso:=aae r1 c1;obtain⟨fc,fl,hF⟩:=W9 r1 r2 c1 rfl rfl;have hX:=λJ=>aee (J:=J) (s:=fF (rowOf b lv) (mN b (ss,ys) w)) huk hso
   have hul:=Ku b.cV;have hrl:=O8 b.aT.dX;have⟨q3,q4⟩:2<=b.cV.length*2-u*2/\5<=b.aT.dX.length*5-lv*5:=by omega
   simp only[Ll,if_pos hso]at hs1;unfold ZS at hX;rw[<- hv1]at hX hs1;by_cases c2:Ha (wZ b u).parts<(fF (rowOf b lv) (mN b (ss,ys) w)).m
   .rw[if_pos c2]at hX hs1;rw[hs1];simp only[sY.enc,fF,mN,cF,List.nil_append,oF.enc,Rw.enc]at hV hF hX f3;simp[-List.map_take,cg,h1,a1,hT,hPl,hU,hP,f1,f2,w1,t1,q1,q2,hyl,hw,kM,hV,zS,hJ,hF,hX,f3,f4,hu,hlv,fl]
   rw[if_neg c2]at hX hs1;by_cases c3:(fF (rowOf b lv) (mN b (ss,ys) w)).h<oD b w lv u m
   .rw[if_pos c3]at hX hs1;rw[hs1];simp only[sY.enc,fF,mN,cF,List.nil_append,oF.enc,Rw.enc]at hV hF hX f3;simp[-List.map_take,cg,h1,a1,hT,hPl,hU,hP,f1,f2,w1,t1,q1,q2,hyl,hw,kM,hV,zS,hJ,hF,hX,f3,f4,hu,hlv,fl]
   rw[if_neg c3]at hX hs1;rw[hs1];simp only[sY.enc,fF,mN,cF,List.nil_append,oF.enc,Rw.enc]at hV hF hX f3;rw[List.take_add_one,hm]at ih;by_cases hi0:i=0
   .have hb:((i:Int) == 0)=true:=by simp[hi0]
    have e1:(M.take i).map (oD b w lv u)=[]:=by rw[hi0];rfl
    simp[-List.map_take,cg,h1,a1,h4,hT,hPl,hU,hP,f1,f2,w1,t1,q1,q2,hyl,hw,kM,hV,hJ,hF,hX,f3,f4,hu,hlv,fl,hb,e1,J7];exact WL.to ih (by simp[cg,hT,hPl,hU,J7,e1,D6,D4]) rfl λx e J' hh=>by simpa[pF,cg,hT,hPl,hU,J7]using hh
   .have hb:((i:Int) == 0)=false:=by simp[hi0]
    obtain⟨g1,g2⟩:=Zm (l:=(M.take i).map (oD b w lv u)) (v:=oD b w lv u m) (λh=>hi0 (by have:=congrArg List.length h;rw[bK,dp,bd]at this;omega));simp[-List.map_take,cg,h1,a1,h4,hT,hPl,hU,hP,f1,f2,w1,t1,q1,q2,hyl,hw,kM,hV,hJ,hF,hX,f3,f4,hu,hlv,fl,hb,J7];exact WL.to ih (by simp[-List.map_take,cg,hT,hPl,hU,J7,g1,g2]) rfl λx e J' hh=>by simpa[pF,cg,hT,hPl,hU,J7]using hh
theorem abc{n:Nat}{b:Bk}{w lv u price:Int}(hK:Kr n b)(hn:n<=1000000)(hJ:J≠[]):
  Cl 70 [.agg (cg b),.bZ 4 [iI w,iI lv,iI u,iI price]] (fU (mr b w lv u price)) J:=by
 refine an ?_;have hS:=λJ=>N1 (J:=J) (b:=b) hK.kv.ml
 have hnp:=l7 (f:=pE) b.av;by_cases c1:cp b.ai=[]
 .have hd:mr b w lv u price=(b,8):=by unfold mr;rw[if_pos (.inl c1)]
  rw[hd];simp[c1]at hS;simp only[cg]at hS;simp[cg,hS,fU];exact cX (b:=b) rfl
 by_cases c2:b.av=[]
 .have hd:mr b w lv u price=(b,8):=by unfold mr;rw[if_pos (.inr c2)]
  have hE:nl pE b.av=.bB:=by simp[nl,c2]
  rw[hd];simp[c1]at hS;simp only[cg,hE]at hS;simp[cg,hE,hS,fU];exact cX (b:=b) (by simp[cg,hE])
 have hne:=OH c1;have hv:=hK.valid hne;have ht:=(Bv.of hv).dX;have htn:=vN ht;have hT:=iF (f:=Rw.enc) htn;have hP:=iF (f:=pE) c2;simp[c1]at hS;simp only[cg,hT,hP]at hS;have hnw:=l7 (f:=bN.enc) b.aT.ar;have hnu:=l7 (f:=oF.enc) b.cV;have hwl:=(Bv.of hv).ar;have htl:=Pn (.inr ht);have hul:=hK.kv.cV;have w1:=bV (n:=(b.aT.ar.length:Int)-1);have w2:=bV (n:=(b.aT.dX.length:Int)-1);have w3:=bV (n:=(b.cV.length:Int)-1);have hq:((b.av.length:Int) == 0)=false:=by have:=aG.2 c2;rw[beq_eq_false_iff_ne];omega
 by_cases c3:E8 b w lv u price=true
 case neg =>
  have hd:mr b w lv u price=(b,2):=by unfold mr;rw[if_neg (by simp[c1,c2]),if_neg c3]
  rw[hd];unfold E8 at c3;cases k1:bI w 0 ((b.aT.ar.length:Int)-1)
  .simp[cg,hT,hP,hS,hq,hnw,w1,dD,k1,fU];exact cX (b:=b) (by simp[cg,hT,hP])
  cases k2:bI lv 0 ((b.aT.dX.length:Int)-1)
  .simp[cg,hT,hP,hS,hq,hnw,w1,w2,dD,k1,k2,fU];exact cX (b:=b) (by simp[cg,hT,hP])
  cases k3:bI u 0 ((b.cV.length:Int)-1)
  .simp[cg,hT,hP,hS,hq,hnw,hnu,w1,w2,w3,dD,k1,k2,k3,fU];exact cX (b:=b) (by simp[cg,hT,hP])
  cases k4:bI price 0 1000
  .simp[cg,hT,hP,hS,hq,hnw,hnu,w1,w2,w3,dD,k1,k2,k3,k4,fU];exact cX (b:=b) (by simp[cg,hT,hP])
  exact absurd (by rw[k1,k2,k3,k4];rfl) c3
 have hd:mr b w lv u price=if wc b w lv u=0 then(RD b w price (oi b w lv u),0)else(b,wc b w lv u):=by unfold mr;rw[if_neg (by simp[c1,c2]),if_pos c3]
 rw[hd];simp only[E8,af]at c3;obtain⟨k1,k2,k3,k4⟩:=c3;have i1:=aS.1 k1;have i2:=aS.1 k2;have i3:=aS.1 k3;have i4:=aS.1 k4;obtain⟨w,rfl⟩:∃n:Nat,w=n:=⟨w.toNat,by omega⟩;obtain⟨lv,rfl⟩:∃n:Nat,lv=n:=⟨lv.toNat,by omega⟩;obtain⟨u,rfl⟩:∃n:Nat,u=n:=⟨u.toNat,by omega⟩;have hLf:=λJ hJ=>NY (J:=J) (b:=b) hK.kv.ml hJ
 simp only[cg,hT,hP]at hLf;have hML:(gI b.ai).length<=40:=by have:=LH b.ai;have:=hK.kv.ml;omega
 have hL:=Ua (J:=[]::J) (b:=b) (M:=gI b.ai) (w:=w) (lv:=lv) (u:=u) (price:=price) (R:=cg b) rfl hK ht c2 (by
  intro m hm;obtain⟨e,he,hl,rfl⟩:=Nu hm;exact⟨(hK.kv.fit e he).1,hK.kv.A9 e he hl⟩) hML (by simp) (by omega) (by omega) (by omega) (gI b.ai).length 0 (by omega)
 have hz:b8 (uP b w lv u) (gI b.ai)=wc b w lv u:=by simp only[wc,Int.toNat_natCast];exact GF
 have hws:(gI b.ai).map (oD b w lv u)=oi b w lv u:=by simp[oi,gI]
 rw[az,hz,hws]at hL;simp[cg,hT,hP,hS,hq,hnw,hnu,w1,w2,w3,dD,k1,k2,k3,k4,hLf];refine WL.to hL (by simp[cg,hT,hP,zS,J7,D6,D4]) rfl ?_;rintro x e J' ⟨rfl,h⟩;by_cases c4:wc b w lv u=0
 case neg =>
  rw[if_neg c4]at h ⊢;obtain⟨rfl,g4,g5⟩:=h;simp[g4,g5,eT,eE,fU];exact cX (b:=b) rfl
 rw[if_pos c4]at h ⊢;obtain⟨rfl,g1,g2,g4,g7⟩:=h;have hbs:∀x∈oi b w lv u,0<=x/\x<=1000000000:=by
  intro x hx;simp only[oi,bO,Int.toNat_natCast]at hx;obtain⟨e,he,rfl⟩:=hx;simp only[wc,Int.toNat_natCast]at c4;exact Pc (by omega) hK.kv.uok (oT c4 e he)
 obtain⟨⟨m1,m2⟩,m3,m4⟩:=Zn (by omega) hbs;have hgen:∀lo hi,D6 (oi b w lv u)=lo->D4 (oi b w lv u)=hi->RD b w price (oi b w lv u)={b with dA:=b.dA++[⟨b.av.length,w,lo,hi,lo*price,hi*price⟩] }:=by rintro _ _ rfl rfl;rfl
 generalize hlo:D6 (oi b w lv u)=lo at *
 generalize hhi:D4 (oi b w lv u)=hi at *
 rw[hgen lo hi rfl rfl];have p1:0<=lo*price:=bF m1 i4.1;have p2:lo*price<=1000000000*1000:=cA m2 i4.2 i4.1 (by omega);have p3:0<=hi*price:=bF m3 i4.1;have p4:hi*price<=1000000000*1000:=cA m4 i4.2 i4.1 (by omega);have w4:=bV (n:=lo*price);have w5:=bV (n:=hi*price);have hsl:=hK.kv.dA;have l1:=U7 b.dA;have l2:(fM b.dA KT.enc).take (b.dA.length*6)=fM b.dA KT.enc:=cZ;have⟨r1,r2,r3⟩:b.dA.length*48<=room/\(b.dA.length+1)*48<=room/\48<=room:=by unfold room;omega
 by_cases hm:b.dA=[]
 .simp[g1,g2,g4,g7,J7,hlo,hhi,cg,hm,EV,r3,w4,w5,zS,fU];exact E4 (b:=b) (b':={b with dA:=[⟨b.av.length,w,lo,hi,lo*price,hi*price⟩] }) 17 6 (λ_=>rfl) ae8 [⟨b.av.length,w,lo,hi,lo*price,hi*price⟩] 0 0 1 hJ rfl rfl rfl (by simp) (by simp[cg,nl])
 .have e1:=iF (f:=KT.enc) hm;simp[g1,g2,g4,g7,J7,hlo,hhi,cg,hm,e1,l1,l2,r1,r2,w4,w5,zS,fU];exact E4 (b:=b) (b':={b with dA:=b.dA++[⟨b.av.length,w,lo,hi,lo*price,hi*price⟩] }) 17 6 (λ_=>rfl) ae8 (b.dA++[⟨b.av.length,w,lo,hi,lo*price,hi*price⟩]) 0 1 (b.dA.length+1) hJ rfl rfl (by simp) (by simp) (by simp[cg,IZ])
