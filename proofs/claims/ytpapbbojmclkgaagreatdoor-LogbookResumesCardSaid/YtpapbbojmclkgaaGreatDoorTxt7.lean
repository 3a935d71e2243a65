import Derived.Test.YtpapbbojmclkgaaGreatDoorTxt6
set_option linter.all false
set_option maxRecDepth 100000
namespace Go.Proofs.YtpapbbojmclkgaaGreatDoor
section
open Go Go.aw Go.aD
variable {J:SK}
theorem ahW{b:b9}{m:ck}{s:List aD.aF}{aH:List Int}(h:Fv b m)(hs:Sv b s):∀(n i:Nat) (next:List aD.aF) (N:Int),i+n=b.n->next.length=b.n->CM N next->0<=N->N+200000000000000*n<=50000000000000000 ->
  WL T [2,3,4,5,11,12] false ve [(2,lF s aF.enc),(3,lF aH aQ),(4,.bq (bL b)),(5,.bq (mL m)),(11,.sl J.length 0 0 0 b.n 3),(12,iI i)] ([.cells 0 (fM next aF.enc)]::J)
   (λx e J'=>x=.exit 0/\get e 2=lF s aF.enc/\get e 3=lF aH aQ/\get e 4=.bq (bL b)/\get e 11=.sl J.length 0 0 0 b.n 3 /\
    ∃next',next'=((List.range b.n).drop i).foldl (OY b m s) next/\next'.length=b.n/\CM (N+200000000000000*n) next'/\J'=[.cells 0 (fM next' aF.enc)]::J)
 |0,i,next,N,hi,hl,hb,h0,hN=>by
  refine aK ?_;have hsl:=hs.len;have h1:¬i<s.length:=by omega
  have h2:(List.range b.n).drop i=[]:=bH (by simp;omega);simp[h1,h2];exact⟨hl,λx hx=>by simpa using hb x hx⟩
 |n+1,i,next,N,hi,hl,hb,h0,hN=>by
  refine aK ?_;have hsl:=hs.len;have hbn:=h.bv.n;have⟨hi1,h1⟩:i<b.n/\i<s.length:=by omega
  have h4:=cj hi1;have h5:(List.range b.n).drop i=i::(List.range b.n).drop (i+1):=bj (by simp[hi1]);have hF:=λJ=>aef (J:=J) h hi1
  have hsf:=SI h hi1;have hi2:i<next.length:=by omega
  have g1:=Fh hi2;obtain⟨_,s1⟩:=CY hb hi2;have hP:=λJ=>NZ (J:=J) (dt s1 (by push_cast at hN;omega)) (dt hsf (by omega))
  have st1:=K5 (x:=(aR next i).move (JJ b m i) 1) hi2;have hbA:=pa (M:=1000000000000) hb (i:=i) (sign:=1) hsf (.inl rfl) (by omega);have eA:ct next i (JJ b m i) 1=next.set i ((aR next i).move (JJ b m i) 1):=rfl
  have hln:=sZ next
  rw[hl]at hln;have⟨z1,z3⟩:i*3+3<=b.n*3/\3<=b.n*3-i*3:=by omega
  have hrow:OY b m s next i=(List.range b.n).foldl (ue b m s i) (ct next i (JJ b m i) 1):=rfl
  have hlen1:(ct next i (JJ b m i) 1).length=b.n:=by rw[zQ];exact hl
  rw[h5,List.foldl_cons,hrow];rw[eA]at hbA hlen1 ⊢;generalize (aR next i).move (JJ b m i) 1=P at *
  simp only[aF.enc]at hF hP;simp[h1,hi1,hF,hP,g1,hln,z1,z3,st1];refine WL.ts (abr (J:=J) (aH:=aH) h hs hi1 b.n 0 (next.set i P) (N+1000000000000) (by omega) hlen1 hbA (by omega) (by push_cast at hN;omega)) ?_;rintro x e J' ⟨rfl,g2,g3,g4,g5,g11,g12,nx,r8,r9,r10,rfl⟩;rw[az]at r8;rw[<- r8];have ih:=ahW (aH:=aH) h hs n (i+1) nx (N+200000000000000) (by omega) r9 (λx hx=>dt (r10 x hx) (by omega)) (by omega) (by push_cast at hN;omega);simp[g2,g3,g4,g5,g11,g12,h4];refine WL.tg ih λx e J' hh=>?_
  obtain⟨r1,r2,r3,r4,r5,nx',q1,q2,q3,q4⟩:=hh;exact⟨r1,r2,r3,r4,r5,nx',q1,q2,λx hx=>dt (q3 x hx) (by push_cast;omega),q4⟩
def CF(b:b9)(s next:List aD.aF)(aH:List Int)(w:Nat):List aD.aF:=((b.ar.zip aH).drop w).foldl (λn wr=>rL s n wr.1 wr.2) next
theorem aeO{b:b9}{s:List aD.aF}{aH:List Int}(h:Bv b)(hs:Sv b s)(hr:Rv b aH):∀(n w:Nat) (next:List aD.aF) (N:Int),w+n=aH.length->next.length=b.n->CM N next->0<=N->N+1000000000000*n<=100000000000000000 ->
  WL T [2,3,4,11,16,17] false vf [(2,lF s aF.enc),(3,lF aH aQ),(4,.bq (bL b)),(11,.sl J.length 0 0 0 b.n 3),(16,.sl J.length 1 w 0 w 3),(17,iI w)]
   ([.cells 0 (fM next aF.enc),.cells w (fM ((bP b s aH).take w) aF.enc)]::J)
   (λx e J'=>x=.exit 4/\get e 4=.bq (bL b)/\get e 11=.sl J.length 0 0 0 b.n 3/\get e 16=.sl J.length 1 aH.length 0 aH.length 3 /\
    ∃next',next'=CF b s next aH w/\next'.length=b.n/\J'=[.cells 0 (fM next' aF.enc),.cells aH.length (fM (bP b s aH) aF.enc)]::J)
 |0,w,next,N,hw,hl,hb,h0,hN=>by
  refine aK ?_;obtain rfl:w=aH.length:=by omega
  have hrl:=hr.len;have hyl:(bP b s aH).length=aH.length:=by simp[bP,hr.len]
  have h3:(bP b s aH).take aH.length=bP b s aH:=cZ;have h2:(b.ar.zip aH).drop aH.length=[]:=bH (by rw[List.length_zip];omega);simp[h3,CF,h2];exact hl
 |n+1,w,next,N,hw,hl,hb,h0,hN=>by
  refine aK ?_;have hrl:=hr.len;have hwl:=h.ar;have hbn:=h.n;have hsl:=hs.len;have⟨h1,h1w,h1'⟩:w<aH.length/\w<b.ar.length/\(w:Int)<b.ar.length:=by omega
  obtain⟨r,hx⟩:=gE h1;obtain⟨wl,hwx⟩:=gE h1w;obtain⟨p1,p2,p3⟩:=Ip h wl (ah hwx);have hrb:=hr.ok r (ah hx);obtain⟨i,hi⟩:∃i:Nat,wl.b=i:=⟨wl.b.toNat,by omega⟩;have⟨hin,hi1,hi2⟩:i<b.n/\i<s.length/\i<next.length:=by omega
  have h4:=cj h1;have a1:=gi hx;have a2:=bx (f:=bN.enc) (w:=3) hwx;simp only[bN.enc,hi]at a2;have f1:=Fh hi1;have g1:=Fh hi2;obtain⟨x1,m1,m2,m3⟩:=hs.at hin;obtain⟨_,s1⟩:=CY hb hi2;have hzip:(b.ar.zip aH)[w]?=some (wl,r):=by rw[List.getElem?_zip_eq_some];exact⟨hwx,hx⟩
  have h5:=bj hzip;have hW:CF b s next aH w=CF b s (rL s next wl r) aH (w+1):=by
   unfold CF;rw[h5,List.foldl_cons]
  rw[hW];have hy:(bP b s aH)[w]?=some (gS s wl r):=by simp[bP,hzip]
  have a3:=Cw (f:=aF.enc) hy;have hyl:(bP b s aH).length=aH.length:=by simp[bP,hr.len]
  have a4:=sZ ((bP b s aH).take w);rw[dp,hyl,Nat.min_eq_left (by omega)]at a4;have a6:(fM ((bP b s aH).take w) aF.enc).take (w*3)=fM ((bP b s aH).take w) aF.enc:=cZ;have h7:(w+1)*24<=room:=by unfold room;omega
  have hln:=sZ next
  rw[hl]at hln;have⟨z1,z3⟩:i*3+3<=b.n*3/\3<=b.n*3-i*3:=by omega
  have y1:=bV (n:=(aR s i).m.tdiv 8) (by rw[aN (by omega)];omega);have z4:3<=s.length*3-i*3:=by omega
  by_cases hc:0<r
  .have hq:0<=min r ((aR s i).m.tdiv 8)/\min r ((aR s i).m.tdiv 8)<=(aR s i).m:=by
    rw[aN (by omega)];omega
   have ho:=λJ=>Xd (J:=J) m1 m2 m3 hq
   have hso:=UU hs hin hq;have hwy:gS s wl r=(aR s i).out (min r ((aR s i).m.tdiv 8)):=by
    unfold gS;rw[if_neg (by omega),hi];rfl
   have hwm:rL s next wl r=next.set i ((aR next i).move ((aR s i).out (min r ((aR s i).m.tdiv 8))) (-1)):=by
    unfold rL;rw[if_pos hc,hi];rfl
   have hbA:=pa (M:=1000000000000) hb (i:=i) (sign := -1) hso (.inr rfl) (by omega);have hlen1:(ct next i ((aR s i).out (min r ((aR s i).m.tdiv 8))) (-1)).length=b.n:=by rw[zQ];exact hl
   have eA:ct next i ((aR s i).out (min r ((aR s i).m.tdiv 8))) (-1)=next.set i ((aR next i).move ((aR s i).out (min r ((aR s i).m.tdiv 8))) (-1)):=rfl
   rw[eA]at hbA hlen1;have hM:=λJ=>PC (J:=J) (dt s1 (by push_cast at hN;omega)) (dt hso (by omega))
   have st1:=K5 (x:=(aR next i).move ((aR s i).out (min r ((aR s i).m.tdiv 8))) (-1)) hi2;have ih:=aeO h hs hr n (w+1) (rL s next wl r) (N+1000000000000) (by omega) (by rw[hwm];exact hlen1) (by rw[hwm];exact hbA) (by omega) (by push_cast at hN;omega);rw[hwm]at ih ⊢;rw[hwy]at a3;generalize (aR s i).out (min r ((aR s i).m.tdiv 8))=o at *
   generalize (aR next i).move o (-1)=P at *
   simp only[aF.enc]at ho hM;simp[h1,h1',hi1,hin,a1,a2,f1,g1,y1,ho,hM,hc,hln,z1,z3,st1,a4,a6,h7,h4];exact WL.to ih (by simp) (by simp[<- a3]) λx e J' hh=>hh
  .have hG:=λJ=>Xa (J:=J) hrb p2 p3
   have hsg:=Lx hrb p2 p3;have hwy:gS s wl r=⟨0,0,0⟩:=by
    unfold gS;rcases Int.lt_or_le r 0 with h | h
    .rw[if_pos h]
    .obtain rfl:r=0:=by omega
     have h9:0<=(aR s wl.b.toNat).m.tdiv 8:=by
      rw[hi];exact Int.tdiv_nonneg (by have:=m1.1;simp only[Int.toNat_natCast];omega) (by omega)
     rw[if_neg (by omega),show min 0 ((aR s wl.b.toNat).m.tdiv 8)=0 by omega];simp[aD.aF.out]
   have hwm:rL s next wl r=next.set i ((aR next i).move (wl.given r) 1):=by
    unfold rL;rw[if_neg hc,hi];rfl
   have hbA:=pa (M:=1000000000000) hb (i:=i) (sign:=1) hsg (.inl rfl) (by omega);have hlen1:(ct next i (wl.given r) 1).length=b.n:=by rw[zQ];exact hl
   have eA:ct next i (wl.given r) 1=next.set i ((aR next i).move (wl.given r) 1):=rfl
   rw[eA]at hbA hlen1;have hM:=λJ=>NZ (J:=J) (dt s1 (by push_cast at hN;omega)) (dt hsg (by omega))
   have st1:=K5 (x:=(aR next i).move (wl.given r) 1) hi2;have ih:=aeO h hs hr n (w+1) (rL s next wl r) (N+1000000000000) (by omega) (by rw[hwm];exact hlen1) (by rw[hwm];exact hbA) (by omega) (by push_cast at hN;omega);rw[hwm]at ih ⊢;rw[hwy]at a3;simp only[bN.enc,hi]at hG;generalize wl.given r=o at *
   generalize (aR next i).move o 1=P at *
   simp only[aF.enc]at hG hM;simp[h1,h1',hin,a1,a2,g1,hG,hM,hc,hln,z1,z3,st1,a4,a6,h7,h4];exact WL.to ih (by simp) (by simp[<- a3]) λx e J' hh=>hh
theorem aaG{b:b9}{m:ck}{s:List aD.aF}{aH:List Int}(h:Fv b m)(hs:Sv b s)(hr:Rv b aH)(hJ:J≠[]):
  Cl 140 [.agg (bL b),.agg (mL m),lF s aF.enc,lF aH aQ] (.cS [.bZ b.n (fM (lZ b m s aH) aF.enc),.bZ aH.length (fM (bP b s aH) aF.enc),.bool (pH b (lZ b m s aH))]) J:=by
 refine an ?_;have hsl:=hs.len;have hbn:=h.bv.n;have hrl:=hr.len;have hwl:=h.bv.ar;have h7:s.length*24<=room:=by unfold room;omega
 have hsn:s≠[]:=λhh=>by rw[hh]at hsl;simp at hsl;omega
 have hsn':¬s.length=0:=by omega
 have hln:=sZ s;simp[h7,hsn',hln];refine WL.to (ahW (J:=J) (aH:=aH) h hs b.n 0 s 1000000000000 (by omega) hsl hs.CM (by omega) (by omega)) (by simp[hsl]) (by simp) ?_;rintro x e J' ⟨rfl,g2,g3,g4,g11,nx,r1,r2,r3,rfl⟩;rw[az]at r1;simp[g2,g3,g4,g11];refine WL.ts (aeO (J:=J) h.bv hs hr aH.length 0 nx (1000000000000+200000000000000*(b.n:Int)) (by omega) r2 r3 (by omega) (by omega)) ?_;rintro x e J' ⟨rfl,g4,g11,g16,ny,q1,q2,rfl⟩;have hny:ny=lZ b m s aH:=by
  rw[q1,r1];unfold CF;rw[az];obtain⟨_,hx,hy⟩:=h.bv.nat;refine ZN hx hy (λl hl=>Q6 h.bv hl) (λi=>?_) (aiV h) hsl;by_cases hi:i<b.n
  .have:=(hs.at hi).2.1;omega
  .have:s[i]?=none:=dV (by omega);simp[aR,this]
 have hS:=λJ=>Xg (J:=J) (b:=b) (s:=ny) h.bv (by omega)
 try simp only[lF,Cl,bL]at hS
 rw[q2]at hS;have k11:=o9 (f:=aF.enc) (w:=3) (λ_=>rfl) (λx=>by simp) (l:=ny) (j:=0) (v:=0) (bs:=[.cells 0 (fM ny aF.enc),.cells aH.length (fM (bP b s aH) aF.enc)]) (J:=J) hJ rfl;rw[q2]at k11;simp only[List.set_cons_zero]at k11;have hyl:(bP b s aH).length=aH.length:=by simp[bP,hr.len]
 have k16:=kb (n:=15) (f:=aF.enc) (w:=3) (l:=bP b s aH) (j:=1) (v:=aH.length) (bs:=[.dead,.cells aH.length (fM (bP b s aH) aF.enc)]) (by decide) (λ_=>rfl) (λx=>by simp) hJ rfl
 try simp only[lF]at k16
 rw[hyl]at k16;simp[g4,g11,g16,k11,hS];rw[hny];rw[pw (by simp) (by omega)];simp only[jD,kq];rw[eV (by simp[D.clean,ID]) (by omega),k16,eV (by rfl) (by omega)];exact⟨_,rfl⟩
theorem S3{b:b9}{m:ck}{s:List aD.aF}{aH:List Int}(h:Fv b m)(hs:Sv b s)(hr:Rv b aH):(lZ b m s aH).length=b.n:=by
 obtain⟨fb,fl⟩:=Nj h hs;rw[<- OK hr hs.len,zw,(Ae h.bv hs hr fb aH.length (aO _)).2,fl,hs.len]
theorem Xh{b:b9}{m:ck}{s:List aD.aF}{aH:List Int}(h:Fv b m)(hs:Sv b s)(hr:Rv b aH)(hJ:J≠[]):
  di T (.call false 140 [.agg [iI b.f.x,iI b.f.y,iI b.f.z,iI b.f.k,.bZ b.dX.length (fM b.dX Rw.enc),iI b.cJ,iI b.lift,iI b.deep,.bZ b.ar.length (fM b.ar bN.enc)],.agg [.str m.name,.bZ m.dG.length (fM m.dG aQ)],.bZ s.length (fM s aF.enc),.bZ aH.length (fM aH aQ)] J)=some (.val (.cS [.bZ (lZ b m s aH).length (fM (lZ b m s aH) aF.enc),.bZ (bP b s aH).length (fM (bP b s aH) aF.enc),.bool (pH b (lZ b m s aH))]) J):=by
 rw[S3 h hs hr,show(bP b s aH).length=aH.length by simp[bP,hr.len]];exact aaG h hs hr hJ
def agh(J:SK)(r:Option (List (List aD.aF)×List (List aD.aF)))(x:aw.Exit)(e:Env)(J':SK):Prop:=match r with
 |some (ss,ys)=>x=.exit 0/\(∃d6,get e 6=.own 0 d6/\d6.length=2)/\get e 8=.own 0 [.sl J.length 0 (ss.length-1) 0 ss.length 1,.sl J.length 1 ys.length 0 ys.length 1]/\J'=[.cells (ss.length-1) (fM ss kM),.cells ys.length (fM ys kM)]::J
 |none=>x=.ret/\get e 6=.own 0 [.bB,.bB]/\get e 7=.bool false/\∃bC,J'=bC::J
theorem N5{b:b9}{m:ck}{av:List (List Int)}(h:Fv b m)(hp:av.length<=200)(hr:∀r∈av,Rv b r):∀(k i:Nat) (ss ys:List (List aD.aF)) (s:List aD.aF),i+k=av.length->ss.length=i+1->ys.length=i->ss[i]?=some s->Sv b s ->
  WL T [2,3,4,6,8,9] false xm [(2,lF av J3),(3,.bq (bL b)),(4,.bq (mL m)),(6,.own 0 [.bB,.bB]),(8,.own 0 [.sl J.length 0 i 0 (i+1) 1,.sl J.length 1 i 0 i 1]),(9,iI i)]
   ([.cells i (fM ss kM),.cells i (fM ys kM)]::J) (agh J (nD b m ss ys s (av.drop i)))
 |0,i,ss,ys,s,hi,h1,h2,h3,hs=>by
  refine aK ?_;obtain rfl:i=av.length:=by omega
  have h5:av.drop av.length=[]:=ec;simp[h5,nD,agh,h1,h2]
 |k+1,i,ss,ys,s,hi,h1,h2,h3,hs=>by
  refine aK ?_;have⟨hlt,hii⟩:i<av.length/\(i:Int)<i+1:=by omega
  obtain⟨r,hx⟩:=gE hlt;have h4:=cj hlt;have h5:=bj hx;have a1:=bx (f:=J3) (w:=1) hx;simp only[J3,bR]at a1;have a2:=mM (f:=kM) (w:=1) (λ_=>rfl) h3;simp only[kM,bR,cm]at a2;have hR:=hr r (ah hx);have hT:=λJ hJ=>Xh (J:=J) h hs hR hJ
  rw[h5,nD];cases hc:pH b (lZ b m s r)
  .have ht:tick b m s r=none:=by simp[tick,hc]
   rw[hc]at hT;simp[hlt,hii,a1,a2,hT,ht,agh]
  .have ht:tick b m s r=some (lZ b m s r,bP b s r):=by simp[tick,hc]
   rw[hc]at hT;have ih:=N5 h hp hr k (i+1) (ss++[lZ b m s r]) (ys++[bP b s r]) (lZ b m s r) (by omega) (by simp[h1]) (by simp[h2]) (by simp[<- h1]) (Sv.next h.bv ht);have l1:=Kq ss;have l2:=Kq ys;rw[h1]at l1;rw[h2]at l2;have f1:(fM ss kM).take (i+1)=fM ss kM:=cZ;have f2:(fM ys kM).take i=fM ys kM:=cZ;have h7:=O5 (n:=i+1) (by omega);have h8:=O5 (n:=i+1+1) (by omega);rw[ht];generalize lZ b m s r=s' at *
   generalize bP b s r=y at *
   simp[hlt,hii,h4,a1,a2,hT,f1,f2,l1,l2,h7,h8];exact WL.to ih (by simp) (by simp[kM]) λx e J hh=>hh
theorem Kz{b:b9}{m:ck}{av:List (List Int)}(h:Fv b m)(hp:av.length<=200)(hr:∀r∈av,Rv b r)(hJ:J≠[]){ss ys:List (List aD.aF)}(hrun:aD.run b m av=some (ss,ys)){wq:D}(hwq:wq.pO=lF b.ar bN.enc):
  Cl 102 [.agg [iI b.f.x,iI b.f.y,iI b.f.z,iI b.f.k,lF b.dX Rw.enc,iI b.cJ,iI b.lift,iI b.deep,wq],.agg (mL m),lF av J3] (.cS [.agg [lF ss kM,lF ys kM],.bool true]) J:=by
 refine an ?_;have hf:=λJ hJ=>KB (J:=J) h hJ
 simp[hwq,hf];refine WL.to (N5 (J:=J) h hp hr av.length 0 [cf b m] [] (cf b m) (by omega) rfl rfl rfl (Sv.first h)) (by simp) (by simp[kM,nQ]) ?_;rw[az,show nD b m [cf b m] [] (cf b m) av=some (ss,ys)from hrun];rintro x e J' ⟨rfl,⟨d6,g6,l6⟩,g8,rfl⟩;simp[g6,g8,l6];have c1:∀x:List aD.aF,D.bh (kM x)=true:=λx=>by simp[kM,D.clean,ID]
 have k1:=kb (n:=14) (f:=kM) (w:=1) (l:=ss) (j:=0) (v:=ss.length-1) (bs:=[.cells (ss.length-1) (fM ss kM),.cells ys.length (fM ys kM)]) (by decide) (λ_=>rfl) c1 hJ rfl;have k2:=kb (n:=14) (f:=kM) (w:=1) (l:=ys) (j:=1) (v:=ys.length) (bs:=[.dead,.cells ys.length (fM ys kM)]) (by decide) (λ_=>rfl) c1 hJ rfl;simp only[List.set_cons_zero]at k1;rw[pw (by simp) (by omega)];simp only[jD,kq];rw[Fp (by simp) (by omega)];simp only[jD,kq];rw[k1];simp only;rw[k2,eV (by rfl) (by omega)];exact⟨_,rfl⟩
theorem R5{b:b9}{m:ck}{av:List (List Int)}(h:Fv b m)(hp:av.length<=200)(hr:∀r∈av,Rv b r)(hJ:J≠[])(hrun:aD.run b m av=none){wq:D}(hwq:wq.pO=lF b.ar bN.enc):
  Cl 102 [.agg [iI b.f.x,iI b.f.y,iI b.f.z,iI b.f.k,lF b.dX Rw.enc,iI b.cJ,iI b.lift,iI b.deep,wq],.agg (mL m),lF av J3] (.cS [.agg [.bB,.bB],.bool false]) J:=by
 refine an ?_;have hf:=λJ hJ=>KB (J:=J) h hJ
 simp[hwq,hf];refine WL.to (N5 (J:=J) h hp hr av.length 0 [cf b m] [] (cf b m) (by omega) rfl rfl rfl (Sv.first h)) (by simp) (by simp[kM,nQ]) ?_;rw[az,show nD b m [cf b m] [] (cf b m) av=none from hrun];rintro x e J' ⟨rfl,g6,g7,bC,rfl⟩;simp[g6,g7]
theorem Ub{f:dK}{bl wt:List Int}(hf:f.valid=true)(hl:bl.length<=9223372036854775807)(hw:bl.length=wt.length):∀(k i:Nat) (last:Int),i+k=bl.length->(i=0->last = -1)->(∀j,i=j+1->bl[j]?=some last)->(-1<=last) ->
  WL T [2,3,4,9] false xk [(2,lF bl aQ),(3,lF wt aQ),(4,.bq (fL f)),(9,iI i)] J
   (λx e J'=>J'=J/\if Ad f.size last (bl.drop i) (wt.drop i)then x=.exit 0 else x=.ret/\get e 8=.bool false)
 |0,i,last,hi,_,_,_=>by
  refine aK ?_;have h1:¬i<bl.length:=by omega
  have h2:bl.drop i=[]:=ec;simp[h1,h2,Ad]
 |k+1,i,last,hi,g0,g1,g2=>by
  refine aK ?_;have⟨h1,h1'⟩:i<bl.length/\i<wt.length:=by omega
  obtain⟨q1,q2⟩:=Cz hf;obtain⟨b,hb⟩:=gE h1;obtain⟨w,hw'⟩:∃r,wt[i]?=some r:=⟨_,aE h1'⟩;have h2:=gi hb;have h3:=gi hw';have h4:=cj h1 hl;have h5:=bj hb;have h6:=bj hw';have hB:=λJ=>oH (J:=J) hf
  have w1:=bV (n:=f.size-1);have ih:=λg2=>Ub hf hl hw k (i+1) b (by omega) (by omega) (λj hj=>(show j=i by omega) ▸ hb) g2
  rw[h5,h6,Ad];by_cases c0:b<0
  .have c1:bI b 0 (f.size-1)=false:=by simp[bI];omega
   simp[h1,h2,hB,pI,w1,c1,show ¬last<b by omega]
  by_cases c2:f.size<=b
  .have c1:bI b 0 (f.size-1)=false:=by simp[bI];omega
   simp[h1,h2,hB,pI,w1,c1,show ¬b<f.size by omega]
  have c1:bI b 0 (f.size-1)=true:=by simp[bI];omega
  have c3:b<f.size:=by omega
  by_cases ci:i=0
  .have:=g0 ci;subst ci;have c4:last<b:=by omega
   have h1z:0<bl.length:=h1;have h1z':0<wt.length:=h1';simp only[az,Int.ofNat_zero]at h2 h3 h4;cases c5:bI w (-1000) 1000
   .simp[h1z,h1z',h2,h3,hB,pI,w1,c1,c3,c4,c5]
   .simp[h1z,h1z',h2,h3,hB,pI,w1,c1,c3,c4,c5];exact WL.tg (ih (by omega)) λx e J hh=>by simpa[c4,c3]using hh
  .have hj:=g1 (i-1) (by omega);have h7:=gi hj;have e1:(((i:Int)-1))=((i-1:Nat):Int):=by omega
   have w2:=bV (n:=(((i-1:Nat):Nat):Int));have⟨h8,c6⟩:i-1<bl.length/\0<i:=by omega
   by_cases c4:b<=last
   .simp[h1,h2,h7,h8,hB,pI,w1,w2,e1,c1,c3,c4,c6,show ¬last<b by omega]
   .cases c5:bI w (-1000) 1000
    .simp[h1,h1',h2,h3,h7,h8,hB,pI,w1,w2,e1,c1,c3,c4,c5,c6,show last<b by omega]
    .simp[h1,h1',h2,h3,h4,h7,h8,hB,pI,w1,w2,e1,c1,c3,c4,c5,c6,show last<b by omega];exact WL.tg (ih (by omega)) λx e J hh=>by simpa[show last<b by omega,c3]using hh
theorem abd{f:dK}{k:Int}{bl wt:List Int}(hf:f.valid=true)(hl:bl.length<=9223372036854775807):
  Cl 175 [.agg (fL f),iI k,lF bl aQ,lF wt aQ] (.bool (E9 f k bl wt)) J:=by
 refine an ?_;obtain⟨q1,q2,q3,q4,q5⟩:=dK.mP.1 hf;have w1:=bV (n:=f.k-1);unfold E9;cases c1:bI k 0 (f.k-1)
 .simp[pI,w1,c1]
 by_cases c2:1<=bl.length
 rotate_left
 .have:bl=[]:=bg.1 (by omega);subst this;simp[pI,w1,c1]
 have c2':¬(bl.length:Int)<1:=by omega
 have c2'':¬bl=[]:=λh=>by rw[h]at c2;simp at c2
 by_cases c3:bl.length=wt.length
 rotate_left
 .simp[pI,w1,c1,c2',c3,show ¬(bl.length:Int)=wt.length by omega]
 have c4:¬(wt.length:Int)<1:=by omega
 have c5:¬wt=[]:=λh=>by rw[h]at c3;simp at c3;exact c2'' c3
 simp[pI,w1,c1,c3,c4];refine WL.to (Ub (J:=[]::J) hf hl c3 bl.length 0 (-1) (by omega) (λ_=>rfl) (by omega) (by omega)) (by simp[c3]) rfl ?_;rintro x e J' ⟨rfl,h⟩;simp only[az]at h;cases hc:Ad f.size (-1) bl wt
 .simp[hc]at h;simp[h]
 .simp[hc]at h;simp[h];omega
theorem aa5{lo hi:Int}:Cl 176 [.agg [iI lo,iI hi]] (.bool (Ee lo hi)) J:=by
 refine an ?_;unfold Ee;by_cases c1 : -10000000000<=lo
 rotate_left
 .have:bI lo (-10000000000) 10000000000=false:=by simp[bI];omega
  simp[pI,this,c1]
 by_cases c2:lo<=hi
 .by_cases c3:hi<=10000000000
  .have e1:bI lo (-10000000000) 10000000000=true:=aS.2 (by omega);have e2:bI hi (-10000000000) 10000000000=true:=aS.2 (by omega);simp[pI,e1,e2,c1,c2,c3]
  .have e2:bI hi (-10000000000) 10000000000=false:=by simp[bI];omega
   cases e1:bI lo (-10000000000) 10000000000<;>simp[pI,e1,e2,c1,c2,c3]
 .cases e1:bI lo (-10000000000) 10000000000<;>cases e2:bI hi (-10000000000) 10000000000<;>simp[pI,e1,e2,c1,c2]
theorem R4{f:dK}{m:pk}(hf:f.valid=true)(hn:m.name.length<=9223372036854775807)(hl:m.bl.length<=9223372036854775807):
  Cl 137 [.agg (fL f),.agg m.enc] (iI (f.measure m)) J:=by
 refine an ?_;have h1:=λJ=>J9 (J:=J) hn
 have h2:=λJ=>abd (J:=J) (k:=m.kind) (wt:=m.wt) hf hl
 unfold dK.measure;cases c1:named m.name
 .simp[h1,c1]
 cases c2:E9 f m.kind m.bl m.wt
 .simp[h1,h2,c1,c2]
 cases c3:Ee m.lo m.hi<;>simp[h1,h2,aa5,c1,c2,c3]
theorem MW{l:List pk}{m:pk}{i:Nat}{d2:D}(hd2:d2.strip=d2/\d2.calm=d2)(hm:l[i]?=some m)(hl:l.length<=9223372036854775807):∀(k j:Nat),j+k=i ->
  WL T [1,2,5,7] false kX [(1,lF l pk.enc),(2,d2),(5,iI i),(7,iI j)] J
   (λx e J'=>J'=J/\if(((l.take i).drop j).map pk.name).contains m.name then x=.ret/\get e 4=iI 6 else x=.exit 2/\get e 1=lF l pk.enc/\get e 2=d2/\get e 5=iI i)
 |0,j,hj=>by
  refine aK ?_;obtain rfl:j=i:=by omega
  have h2:(l.take j).drop j=[]:=bH (by rw[dp];omega);rw[h2];simp[hd2.2]
 |k+1,j,hj=>by
  refine aK ?_;have h0:i<l.length:=(aA.1 hm).1;have⟨h1,h1'⟩:j<i/\j<l.length:=by omega
  obtain⟨r,hr⟩:∃r,l[j]?=some r:=gE (by omega);have h2:=Kn hr;have h3:=Kn hm;simp only[pk.enc]at h2 h3;have h4:=cj h1';have h5:(l.take i).drop j=r::(l.take i).drop (j+1):=bj (by rw[dw];simp[h1,hr]);have ih:=MW hd2 hm hl k (j+1) (by omega);rw[h5,aL];have hp:fO (.seq false) [.str r.name,.str m.name]=some (.bool (r.name == m.name)):=rfl;by_cases hc:r.name=m.name
  .rw[hc]at hp;simp[h0,h1,h1',h2,h3,hp,hc,hd2.2]
  .have hc':¬m.name=r.name:=λh=>hc h.symm
   have hb:(r.name == m.name)=false:=by simpa using hc
   rw[hb]at hp;simp[h0,h1,h1',h2,h3,h4,hp,hd2.2];exact WL.tg ih λx e J' hh=>by simpa[hc']using hh
theorem Jp{f:dK}{l:List pk}(hf:f.valid=true)(hs:∀m∈l,m.name.length<=9223372036854775807/\m.bl.length<=9223372036854775807)(hl:l.length<=9223372036854775807):∀(k i:Nat),i+k=l.length ->
  WL T [1,2,5] false kY [(1,lF l pk.enc),(2,.bq (fL f)),(5,iI i)] J
   (λx e J'=>J'=J/\if f.yQ ((l.take i).map pk.name) (l.drop i)=0 then x=.exit 0 else x=.ret/\get e 4=iI (f.yQ ((l.take i).map pk.name) (l.drop i)))
 |0,i,hi=>by
  refine aK ?_;have h1:¬i<l.length:=by omega
  have h2:l.drop i=[]:=ec;simp[h1,h2,dK.yQ]
 |k+1,i,hi=>by
  refine aK ?_;have h1:i<l.length:=by omega
  obtain⟨m,hm⟩:=gE h1;have h2:=Kn hm;have h4:=cj h1;have h5:=bj hm;obtain⟨hs1,hs2⟩:=hs m (ah hm);have hC:=λJ=>R4 (J:=J) hf hs1 hs2
  simp only[pk.enc]at h2 hC;have ih:=Jp hf hs hl k (i+1) (by omega);have e1:(l.take (i+1)).map pk.name=(l.take i).map pk.name++[m.name]:=by rw[List.take_add_one,hm];simp
  rw[e1]at ih;rw[h5,dK.yQ];by_cases hc1:f.measure m=0
  .simp[h1,h2,hC,hc1];refine WL.tg (MW (d2:=.bq (fL f)) ⟨rfl,rfl⟩ hm hl i 0 (by omega)) ?_;rintro x e J' ⟨rfl,h⟩;simp only[az]at h;cases hc:((l.take i).map pk.name).contains m.name
   .rw[hc]at h;simp at h;obtain⟨rfl,g1,g2,g5⟩:=h;simp[g1,g2,g5,h4];have hc':¬m.name∈List.take i (List.map pk.name l):=by simpa using hc
    exact WL.tg ih λx e J' hh=>by simpa[hc1,hc']using hh
   .rw[hc]at h;simp at h;have hc':m.name∈List.take i (List.map pk.name l):=by simpa using hc
    simp[h,hc1]
  .simp[h1,h2,hC,hc1]
theorem PB{f:dK}{l:List pk}(hf:f.valid=true)(hs:∀m∈l,m.name.length<=9223372036854775807/\m.bl.length<=9223372036854775807)(hl:l.length<=9223372036854775807):
  Cl 95 [.agg (fL f),lF l pk.enc] (iI (f.wS l)) J:=by
 refine an ?_;unfold dK.wS;by_cases h2:12<l.length
 .simp[h2,show(12:Int)<l.length by omega]
 rw[if_neg h2];simp[show ¬(12:Int)<l.length by omega];refine WL.ts (Jp (J:=[]::J) hf hs hl l.length 0 (by omega)) ?_;rintro x e J' ⟨rfl,h⟩;simp only[az,List.take_zero,cc]at h;by_cases hc:f.yQ [] l=0
 .rw[if_pos hc]at h;subst h;simp[hc]
 .rw[if_neg hc]at h;obtain⟨rfl,h⟩:=h;simp[h]
theorem Jq{b:b9}{rd:List sX}{n:Nat}(h:Bv b)(hl:rd.length<=40)(hw:∀x∈rd,0<=x.jK/\x.jK<=255):∀(k i:Nat),i+k=rd.length ->
  WL T [1,2,3,7] false kZ [(1,iI n),(2,lF rd sX.enc),(3,.bq (bL b)),(7,iI i)] J
   (λx e J'=>J'=J/\if b8 (fj b n) (rd.drop i)=0 then x=.exit 0 else x=.ret/\get e 6=iI (b8 (fj b n) (rd.drop i)))
 |0,i,hi=>by
  refine aK ?_;have h1:¬i<rd.length:=by omega
  have h2:rd.drop i=[]:=ec;simp[h1,h2,b8]
 |k+1,i,hi=>by
  refine aK ?_;have h1:i<rd.length:=by omega
  obtain⟨x,hx⟩:=gE h1;have h2:=OW hx;simp only[sX.enc]at h2;have h4:=cj h1;have h5:=bj hx;have hwx:=hw x (ah hx);have hz:=h.sz;have hn:=h.n;have hwl:=h.ar;have hS:=λJ=>oH (J:=J) h.fv
  have hsz:b.f.size=(b.n:Int):=hz;rw[hsz]at hS;have hsz':b.size=(b.n:Int):=hz;have w2:=bV (n:=(b.n:Int)-1);have w3:=bV (n:=(b.ar.length:Int)-1);have ih:=Jq (n:=n) h hl hw k (i+1) (by omega);rw[h5,b8];by_cases c0:x.jK<1
  .have c1:bI x.jK 1 4=false:=by simp[bI];omega
   have hE:fj b n x=1:=by simp[fj,c1]
   rw[hE];simp[h1,h2,c0]
  by_cases c0':4<x.jK
  .have c1:bI x.jK 1 4=false:=by simp[bI];omega
   have hE:fj b n x=1:=by simp[fj,c1]
   rw[hE];simp[h1,h2,c0,c0']
  have c1:bI x.jK 1 4=true:=aS.2 (by omega);by_cases c2:x.lo < -10000000000
  .have hE:fj b n x=1:=by simp[fj,c1,c2]
   rw[hE];simp[h1,h2,c0,c0',c2]
  by_cases c3:x.hi<x.lo
  .have hE:fj b n x=1:=by simp[fj,c1,c2,c3]
   rw[hE];simp[h1,h2,c0,c0',c2,c3]
  by_cases c4:10000000000<x.hi
  .have hE:fj b n x=1:=by simp[fj,c1,c2,c3,c4]
   rw[hE];simp[h1,h2,c0,c0',c2,c3,c4]
  by_cases c5:x.jK=1
  .have c1':bI 1 1 4=true:=rfl;cases c6:bI x.tick 0 n
   .have hE:fj b n x=2:=by simp[fj,c1',c2,c3,c4,c5,c6]
    rw[hE];simp[h1,h2,c2,c3,c4,c5,c6,dD]
   .cases c7:bI x.idx 0 ((b.n:Int)-1)
    .have hE:fj b n x=2:=by simp[fj,c1',c2,c3,c4,c5,c6,c7,hsz']
     rw[hE];simp[h1,h2,c2,c3,c4,c5,c6,c7,dD,hS,w2]
    .have hE:fj b n x=0:=by simp[fj,c1',c2,c3,c4,c5,c6,c7,hsz']
     rw[hE];simp[h1,h2,h4,c2,c3,c4,c5,c6,c7,dD,hS,w2];exact WL.tg ih λx e J hh=>by simpa using hh
  .have c8:1<x.jK:=by omega
   cases c6:bI x.tick 1 n
   .have hE:fj b n x=2:=by simp[fj,c1,c2,c3,c4,c5,c6]
    rw[hE];simp[h1,h2,c0,c0',c2,c3,c4,c5,c8,c6,dD]
   .cases c7:bI x.idx 0 ((b.ar.length:Int)-1)
    .have hE:fj b n x=2:=by simp[fj,c1,c2,c3,c4,c5,c6,c7]
     rw[hE];simp[h1,h2,c0,c0',c2,c3,c4,c5,c8,c6,c7,dD,w3]
    .have hE:fj b n x=0:=by simp[fj,c1,c2,c3,c4,c5,c6,c7]
     rw[hE];simp[h1,h2,h4,c0,c0',c2,c3,c4,c5,c8,c6,c7,dD,w3];exact WL.tg ih λx e J hh=>by simpa using hh
theorem N0{b:b9}{rd:List sX}{n:Nat}(h:Bv b)(hl:rd.length<=9223372036854775807)(hw:∀x∈rd,0<=x.jK/\x.jK<=255){wq:D}(hwq:wq.pO=lF b.ar bN.enc):
  Cl 104 [.agg [iI b.f.x,iI b.f.y,iI b.f.z,iI b.f.k,lF b.dX Rw.enc,iI b.cJ,iI b.lift,iI b.deep,wq],iI n,lF rd sX.enc] (iI (vK b n rd)) J:=by
 refine an ?_;unfold vK;by_cases h2:40<rd.length
 .simp[hwq,h2,show(40:Int)<rd.length by omega]
 rw[if_neg h2];simp[hwq,show ¬(40:Int)<rd.length by omega];refine WL.ts (Jq (J:=[]::J) (n:=n) h (by omega) hw rd.length 0 (by omega)) ?_;rintro x e J' ⟨rfl,hh⟩;simp only[az]at hh;by_cases hc:b8 (fj b n) rd=0
 .rw[if_pos hc]at hh;subst hh;simp[hc]
 .rw[if_neg hc]at hh;obtain⟨rfl,hh⟩:=hh;simp[hh]
end
section
open Go Go.aw Go.aD Go.cY
variable {J:SK}
def cg(b:Bk):List D:=[iI b.aT.f.x,iI b.aT.f.y,iI b.aT.f.z,iI b.aT.f.k,nl Rw.enc b.aT.dX,iI b.aT.cJ,iI b.aT.lift,iI b.aT.deep,nl bN.enc b.aT.ar,
 nl ep.enc b.ai,nl pE b.av,nl ba.cQ.enc b.rules,nl ba.Ev.enc b.pr,iI b.k0,iI b.k1,iI b.k2,nl oF.enc b.cV,nl KT.enc b.dA,.bool b.ready,nl Ea.enc b.eR]
theorem uc{α:Type}{f:α->List D}(h:∀x,D.bh (f x)=true)(l:List α):(nl f l).clean=true:=by
 unfold nl;split
 .rfl
 .simp[D.clean,fD h l]
theorem l7{α:Type}{f:α->List D}(l:List α):Wf (nl f l)=some (iI l.length):=by
 unfold nl;split
 .rename_i h;rw[h];rfl
 .rfl
theorem iF{α:Type}{f:α->List D}{l:List α}(h:l≠[]):nl f l=lF l f:=by simp[nl,h]
theorem EV{α:Type}{f:α->List D}:nl f ([]:List α)=.bB:=rfl
theorem clE(x:ep):D.bh x.enc=true:=by simp[D.clean,lO]
theorem ae7(x:ba.cQ):D.bh x.enc=true:=by simp[D.clean]
theorem ae6(x:ba.Ev):D.bh x.enc=true:=by simp[D.clean,fD (f:=ba.pn.enc) (λ_=>by simp[D.clean])]
theorem ae9(x:oF):D.bh x.enc=true:=by simp[D.clean,fD (f:=Prt.enc) (λ_=>by simp[D.clean])]
theorem ae8(x:KT):D.bh x.enc=true:=by simp[D.clean]
theorem afa(x:Ea):D.bh x.enc=true:=by simp[D.clean]
theorem ail(x:List Int):D.bh (pE x)=true:=by simp[pE,D.clean,lO]
theorem nlc{b:Bk}:(nl Rw.enc b.aT.dX).clean=true/\(nl bN.enc b.aT.ar).clean=true/\(nl ep.enc b.ai).clean=true/\(nl pE b.av).clean=true/\(nl ba.cQ.enc b.rules).clean=true/\(nl ba.Ev.enc b.pr).clean=true/\(nl oF.enc b.cV).clean=true/\(nl KT.enc b.dA).clean=true/\(nl Ea.enc b.eR).clean=true :=
 ⟨uc (λ_=>by simp[D.clean]) _,uc (λ_=>by simp[D.clean]) _,uc clE _,uc ail _,uc ae7 _,uc ae6 _,uc ae9 _,uc ae8 _,uc afa _⟩
theorem mO{b:Bk}:D.bh (cg b)=true:=by
 obtain⟨h1,h2,h3,h4,h5,h6,h7,h8,h9⟩:=nlc (b:=b);simp[cg,D.clean,h1,h2,h3,h4,h5,h6,h7,h8,h9]
theorem eT{b:Bk}:(cg b).length=20:=rfl
theorem eE{b:Bk}:(cg b).take 20=cg b:=rfl
def gI(l:List ep):List ck:=(cp l).map (·.m)
theorem SS{l:List ep}{i:Nat}{e:ep}(h:l[i]?=some e):gI (l.take (i+1))=if e.left=true then gI (l.take i)++[e.m]else gI (l.take i):=by
 rw[List.take_add_one,h];unfold gI cp;cases hl:e.left<;>simp[hl]
theorem LH(l:List ep):(gI l).length<=l.length:=by
 unfold gI cp;rw[bK];exact fG _ _
theorem Ow{l:List ep}{i:Nat}{e:ep}(h:l[i]?=some e):((fM l ep.enc).drop (i*4)).take 4=e.enc:=bx (f:=ep.enc) (w:=4) h
theorem TV{b:Bk}(hl:b.ai.length<=40):∀(k i:Nat),i+k=b.ai.length ->
  WL T [1,3,4] false xo [(1,.bq (cg b)),(3,.sl J.length 0 (gI (b.ai.take i)).length 0 (gI (b.ai.take i)).length 2),(4,iI i)] ([.cells (gI (b.ai.take i)).length (fM (gI (b.ai.take i)) ck.enc)]::J)
   (λx e J'=>x=.exit 0/\get e 3=.sl J.length 0 (gI b.ai).length 0 (gI b.ai).length 2/\J'=[.cells (gI b.ai).length (fM (gI b.ai) ck.enc)]::J)
 |0,i,hi=>by
  refine aK ?_;obtain rfl:i=b.ai.length:=by omega
  rw[aW (aO _)];simp[cg]
 |k+1,i,hi=>by
  refine aK ?_;have⟨h1,h1'⟩:i<b.ai.length/\(i:Int)<b.ai.length:=by omega
  obtain⟨e,he⟩:=gE h1;have hne:b.ai≠[]:=λh=>by rw[h]at h1;simp at h1
  have h2:=Ow he;simp only[ep.enc]at h2;have h4:=cj h1;have hn:=iF (f:=ep.enc) hne;have ih:=TV hl k (i+1) (by omega);rw[SS he]at ih;have a1:=LH (b.ai.take i);rw[dp]at a1;have a4:=ach (gI (b.ai.take i));cases hc:e.left
  .rw[hc]at ih h2;simp only[aC,if_false]at ih;simp[cg,hn,h1',h2,h4];exact WL.to ih (by simp[cg,hn]) rfl λx e J hh=>hh
  .rw[hc]at ih h2;simp only[if_true]at ih;have a6:(fM (gI (b.ai.take i)) ck.enc).take ((gI (b.ai.take i)).length*2)=fM (gI (b.ai.take i)) ck.enc:=cZ;have h7:((gI (b.ai.take i)).length+1)*40<=room:=by unfold room;omega
   generalize gI (b.ai.take i)=M at *
   simp[cg,hn,h1',h2,h4,a4,a6,h7];exact WL.to ih (by simp[cg,hn]) (by simp) λx e J hh=>hh
theorem NY{b:Bk}(hl:b.ai.length<=40)(hJ:J≠[]):Cl 101 [.agg (cg b)] (lF (gI b.ai) ck.enc) J:=by
 refine an ?_;simp;refine WL.to (TV (J:=J) (b:=b) hl b.ai.length 0 (by omega)) (by simp[gI,cp]) (by simp[gI,cp]) ?_;rintro x e J' ⟨rfl,g3,rfl⟩;have hk:=kb (n:=16) (f:=ck.enc) (w:=2) (l:=gI b.ai) (j:=0) (v:=(gI b.ai).length) (bs:=[.cells (gI b.ai).length (fM (gI b.ai) ck.enc)]) (by decide) (λ_=>rfl) (λx=>by simp[D.clean,lO]) hJ rfl;simp[g3,hk]
theorem N1{b:Bk}(hl:b.ai.length<=40):Cl 98 [.agg (cg b)] (.bool (decide (cp b.ai≠[]))) J:=by
 refine an ?_;have hL:=λJ hJ=>NY (J:=J) hl hJ
 try simp only[lF,Cl]at hL
 have hz:(gI b.ai).length=(cp b.ai).length:=by simp[gI]
 rw[hz]at hL;by_cases hc:cp b.ai=[]
 .have h0:(cp b.ai).length=0:=by rw[hc];rfl
  rw[h0]at hL;simp[hL,hc,eT,eE]
 .have h0:0<(cp b.ai).length:=aG.2 hc;have h0':(0:Int)<(cp b.ai).length:=by omega
  simp[hL,hc,h0,eT,eE]
def Kp(L:Nat)(b:Bk):List D:=[iI b.aT.f.x,iI b.aT.f.y,iI b.aT.f.z,iI b.aT.f.k,nl Rw.enc b.aT.dX,iI b.aT.cJ,iI b.aT.lift,iI b.aT.deep,nl bN.enc b.aT.ar,
 .sl L 0 0 0 b.ai.length 4,nl pE b.av,nl ba.cQ.enc b.rules,nl ba.Ev.enc b.pr,iI b.k0,iI b.k1,iI b.k2,nl oF.enc b.cV,nl KT.enc b.dA,.bool b.ready,.sl L 1 0 0 b.eR.length 4]
def RY(b:Bk):List aw.aF:=[.cells 0 (fM b.ai ep.enc),.cells 0 (fM b.eR Ea.enc)]
def zS:List D:=[iI 0,iI 0,iI 0,iI 0,.bB,iI 0,iI 0,iI 0,.bB,.bB,.bB,.bB,.bB,iI 0,iI 0,iI 0,.bB,.bB,.bool false,.bB]
theorem Fb:zS.length=20:=rfl
theorem Bh{l:List D}:l++zS.drop 20=l:=by simp[zS]
theorem acI{L:Nat}{b:Bk}:(Kp L b).length=20:=rfl
theorem ZY{L:Nat}{b:Bk}:(Kp L b).take 20=Kp L b:=rfl
theorem EB{l n:Nat}(hn:0<n):∀{pre:List D} {d:D} {post:List D} {S:SK},D.bh pre=true->cK.frzL (cK l n) (pre++d::post) S=(pre++(cK l n d S).1::(cK.frzL (cK l n) post (cK l n d S).2).1,(cK.frzL (cK l n) post (cK l n d S).2).2):=by
 intro pre d post S h;rw[QG,GH h hn];simp
theorem aft{b:Bk}(hm:b.ai≠[])(hw:b.eR≠[])(hJ:J≠[]):cK (J.length-1) 16 (.agg (Kp J.length b)) (RY b::J)=(.agg (cg b),[.dead,.dead]::J):=by
 obtain⟨h1,h2,h3,h4,h5,h6,h7,h8,h9⟩:=nlc (b:=b);have k1:=kb (n:=15) (f:=ep.enc) (w:=4) (l:=b.ai) (j:=0) (v:=0) (bs:=RY b) (by decide) (λ_=>rfl) clE hJ rfl;have k2:=kb (n:=15) (f:=Ea.enc) (w:=4) (l:=b.eR) (j:=1) (v:=0) (bs:=[.dead,.cells 0 (fM b.eR Ea.enc)]) (by decide) (λ_=>rfl) afa hJ rfl;rw[Fp (by simp[Kp]) (by omega)];rw[show Kp J.length b=(Kp J.length b).take 9 ++ .sl J.length 0 0 0 b.ai.length 4::((Kp J.length b).drop 10).take 9++[.sl J.length 1 0 0 b.eR.length 4]from rfl,bX,cF];rw[EB (by omega) (by simp[Kp,D.clean,h1,h2]),k1];simp only[RY,List.set_cons_zero];rw[EB (by omega) (by simp[Kp,D.clean,h4,h5,h6,h7,h8]),k2];simp[Kp,cg,iF hm,iF hw]
def adz(lo hi:Int)(val:ck->Int)(e:ep)(v:Int):Prop:=e.left=true->bI v lo hi=bI (val e.m) lo hi/\(bI v lo hi=false->v=val e.m)
theorem MX{b:Bk}{lo hi:Int}{val:ck->Int}{vs:List Int}(hw:b.eR.length=b.ai.length)(hl:b.ai.length<=40)(hvl:vs.length=b.ai.length)
  (hv:∀(i:Nat) e v,b.ai[i]?=some e->vs[i]?=some v->adz lo hi val e v):∀(m i:Nat),i+m=b.ai.length ->
  WL T [1,2,3,4,5,10,11] false tB [(1,iI b.at_),(2,lF vs aQ),(3,iI lo),(4,iI hi),(5,.own 0 (Kp J.length (b.gq lo hi val i))),(10,.own 0 zS),(11,iI i)] (RY (b.gq lo hi val i)::J)
   (λx e J'=>x=.exit 0/\get e 5=.own 0 (Kp J.length (gM b lo hi val))/\get e 10=.own 0 zS/\J'=RY (gM b lo hi val)::J)
 |0,i,h=>by
  refine aK ?_;obtain rfl:i=b.ai.length:=by omega
  have hml:=uk (b:=b) (lo:=lo) (hi:=hi) (val:=val) (i:=b.ai.length);simp[Kp,RY,hml,gM,zS]
 |m+1,i,h=>by
  refine aK ?_;have⟨h1,h1v⟩:i<b.ai.length/\i<vs.length:=by omega
  obtain⟨e,he⟩:=gE h1;obtain⟨v,hvi⟩:=gE h1v;have a1:=bx (f:=aQ) (w:=1) hvi;simp only[aQ,bR]at a1;have hat:=Vg (lo:=lo) (hi:=hi) (val:=val) he;have hfl:=bx (f:=ep.enc) (w:=4) hat;have hml:=uk (b:=b) (lo:=lo) (hi:=hi) (val:=val) (i:=i);have hwl:=we (b:=b) (lo:=lo) (hi:=hi) (val:=val) (i:=i);have h4:=cj h1;have ih:=MX hw hl hvl hv m (i+1) (by omega);have hd:=mM (f:=ep.enc) (w:=4) (λ_=>rfl) hat;have hd2:(fM (b.gq lo hi val i).ai ep.enc).drop (i*4+2)=.bool e.left::iI e.Oi::(fM (b.gq lo hi val i).ai ep.enc).drop (i*4+4):=by
   have:=congrArg (List.drop 2) hd;simpa[cC]using this
  have hlen:=yt (b.gq lo hi val i).ai;rw[hml]at hlen;have q:4<=b.ai.length*4-i*4:=by omega
  have hh:=hv i e v he hvi;cases hc1:e.left with
  |false =>
   have hst:isStr lo hi val e=false:=by simp[isStr,hc1]
   rw[FH he hst]at ih;simp[h1,Kp,RY,hml,hwl,hd2,h4,hc1];exact WL.to ih (by simp[Kp,hml,hwl]) (by simp[RY]) λx e J' hh=>by simpa[Kp,RY,uk,we]using hh
  |true =>
   obtain⟨hi1,hi2⟩:=hh hc1;cases hc2:bI v lo hi with
   |true =>
    have hst:isStr lo hi val e=false:=by simp[isStr,<- hi1,hc2]
    rw[FH he hst]at ih;simp[h1,h1v,a1,Kp,RY,hml,hwl,hd2,h4,hc1,dD,hc2];exact WL.to ih (by simp[Kp,hml,hwl]) (by simp[RY]) λx e J' hh=>by simpa[Kp,RY,uk,we]using hh
   |false =>
    have hst:isStr lo hi val e=true:=by simp[isStr,hc1,<- hi1,hc2]
    obtain⟨hn1,hn2⟩:=NT he hst hw;rw[<- hi2 hc2]at hn2;have⟨q2,q3⟩:i*4+2+1<=b.ai.length*4/\i*4+3+1<=b.ai.length*4:=by omega
    have p1:=Hb (f:=ep.enc) (w:=4) (k:=2) (v:=.bool false) (λ_=>rfl) (by omega) (x':=⟨e.m,false,e.Oi⟩) hat rfl;have hat2:((b.gq lo hi val i).ai.set i ⟨e.m,false,e.Oi⟩)[i]?=some ⟨e.m,false,e.Oi⟩:=by simp[hml,h1]
    have p2:=Hb (f:=ep.enc) (w:=4) (k:=3) (v:=iI b.at_) (λ_=>rfl) (by omega) (x':=⟨e.m,false,b.at_⟩) hat2 rfl;rw[List.set_set]at p2;have hl2:=yt ((b.gq lo hi val i).ai.set i ⟨e.m,false,e.Oi⟩);rw[List.length_set,hml]at hl2;have⟨h5,q5⟩:i<b.eR.length/\i*4+4<=b.eR.length*4:=by omega
    have hwe:=Iq (b.gq lo hi val i).eR;rw[hwl]at hwe;have p3:=Nq (f:=Ea.enc) (w:=4) (λ_=>rfl) (l:=(b.gq lo hi val i).eR) (i:=i) (x:=⟨b.at_,v,lo,hi⟩) (by omega);simp only[Ea.enc,cF,List.nil_append]at p3;simp[h1,h1v,a1,Kp,RY,hml,hwl,hd2,hlen,h4,hc1,dD,hc2,q2,q3,p1,p2,hl2,h5,q5,hwe,p3];exact WL.to ih (by simp[Kp,hwl,hn1,hn2,hml]) (by simp[RY,hn1,hn2]) λx e J' hh=>by simpa[Kp,RY,uk,we]using hh
theorem MU{b:Bk}{lo hi:Int}{val:ck->Int}{vs:List Int}(hm:b.ai≠[])(hw:b.eR.length=b.ai.length)(hl:b.ai.length<=40)(hvl:vs.length=b.ai.length)
  (hv:∀(i:Nat) e v,b.ai[i]?=some e->vs[i]?=some v->adz lo hi val e v) (hJ:J≠[]):
  Cl 97 [.agg (cg b),iI b.at_,lF vs aQ,iI lo,iI hi] (.agg (cg (gM b lo hi val))) J:=by
 refine an ?_;have hwn:b.eR≠[]:=λh=>by rw[h]at hw;exact hm (bg.1 hw.symm)
 have h:=MX (J:=J) hw hl hvl hv b.ai.length 0 (by omega);rw[NU]at h;have e1:=iF (f:=ep.enc) hm;have e2:=iF (f:=Ea.enc) hwn;have⟨r1,r2⟩:b.ai.length*56<=room/\b.eR.length*32<=room:=by unfold room;omega
 have l1:=yt b.ai;have l2:=Iq b.eR;simp[cg,e1,e2,r1,r2,l1,l2,hm,hwn];refine WL.to h (by simp[Kp,zS]) (by simp[RY]) ?_;rintro x e J' ⟨rfl,g5,g10,rfl⟩;have hm':(gM b lo hi val).ai≠[]:=λh=>by have:=uk (b:=b) (lo:=lo) (hi:=hi) (val:=val) (i:=b.ai.length);unfold gM at h;rw[h]at this;exact hm (bg.1 this.symm)
 have hw':(gM b lo hi val).eR≠[]:=λh=>by have:=we (b:=b) (lo:=lo) (hi:=hi) (val:=val) (i:=b.ai.length);unfold gM at h;rw[h]at this;exact hwn (bg.1 this.symm)
 have hf:=aft hm' hw' hJ;simp[g5,g10,Fb,Bh,acI,ZY,hf];rfl
end
end Go.Proofs.YtpapbbojmclkgaaGreatDoor
namespace Go.cY
open Go Go.aw Go.aD
def Lu(l:List Prt)(i:Nat):Bool:=match l[i]? with
 |some p=>bI p.width 1 100000 && (bI p.kr 0 1000 && (i == 0 || decide (p.kr<=kE l i)))
 |none=>true
theorem YU{l:List Prt}:(∀j,j<l.length->Lu l j=true)↔∀j,j<l.length->Ct l j=true:=by
 have key:∀j p,l[j]?=some p->(Lu l j=true↔bI p.width 1 100000=true/\bI p.kr 0 1000=true/\(j=0\/p.kr<=kE l j)):=by
  intro j p h;simp[Lu,h]
 have key2:∀j p,l[j]?=some p->(Ct l j=true↔bI p.kr 0 (kE l j)=true/\bI p.width 1 100000=true):=by
  intro j p h;simp[Ct,h,Prt.ok]
 have get:∀j,j<l.length->∃p,l[j]?=some p:=λj h=>⟨_,aE h⟩
 have la:∀j p,l[j]?=some p->kE l (j+1)=p.kr:=λj p h=>by simp[kE,h]
 constructor
 .intro h j hj;obtain⟨p,hp⟩:=get j hj;obtain⟨h1,h2,h3⟩:=(key j p hp).1 (h j hj);rw[key2 j p hp];refine⟨?_,h1⟩;rw[aS]at h2 ⊢;rcases h3 with h3 | h3
  .subst h3;simpa[kE]using h2
  .exact⟨h2.1,h3⟩
 .intro h j hj;obtain⟨p,hp⟩:=get j hj;obtain⟨h1,h2⟩:=(key2 j p hp).1 (h j hj);rw[key j p hp];rw[aS]at h1;have hl:kE l j<=1000:=by
   clear h1 h2;induction j generalizing p with
   |zero=>simp[kE]
   |succ j ih =>
    obtain⟨q,hq⟩:=get j (by omega);have h1:=((key2 j q hq).1 (h j (by omega))).1;rw[aS]at h1;have:=ih (by omega) q hq;rw[la j q hq];omega
  exact⟨h2,aS.2 (by omega),.inr h1.2⟩
theorem aan{u:oF}:u.ok=true↔(∀j,j<u.parts.length->Lu u.parts j=true)/\bI u.yf 0 5=true/\1<=u.parts.length/\u.parts.length<=8:=by
 rw[YU,<- Nc,oF.ok,af,af,aS (n:=(u.parts.length:Int))];constructor
 .rintro⟨h1,h2,h3⟩;exact⟨h3,h1,by omega⟩
 .rintro⟨h1,h2,h3⟩;exact⟨h2,by omega,h1⟩
end Go.cY
namespace Go.Proofs.YtpapbbojmclkgaaGreatDoor
open Go Go.aw Go.aD Go.cY
variable {J:SK}
theorem TY{u:oF}(hl:u.parts.length<=1000000):∀(k i:Nat),i+k=u.parts.length ->
  WL T [1,3] false pv [(1,.bq u.enc),(3,iI i)] J
   (λx e J'=>J'=J/\((x=.exit 0/\get e 1=.bq u.enc/\∀j,i<=j->j<u.parts.length->Lu u.parts j=true)\/(x=.ret/\get e 2=.bool false/\∃j,j<u.parts.length/\Lu u.parts j=false)))
 |0,i,hi=>by
  refine aK ?_;obtain rfl:i=u.parts.length:=by omega
  simp;intro j h1 h2;omega
 |k+1,i,hi=>by
  refine aK ?_;have h1:i<u.parts.length:=by omega
  obtain⟨p,hp⟩:=gE h1;have h2:=bx (f:=Prt.enc) (w:=2) hp;have h4:=cj h1;have ih:=TY hl k (i+1) (by omega);have step:Lu u.parts i=true->WL T [1,3] false pv [(1,.bq u.enc),(3,iI (i+1:Nat))] J
   (λx e J'=>J'=J/\((x=.exit 0/\get e 1=.bq u.enc/\∀j,i<=j->j<u.parts.length->Lu u.parts j=true)\/(x=.ret/\get e 2=.bool false/\∃j,j<u.parts.length/\Lu u.parts j=false))):=by
   intro hq;refine WL.to ih rfl rfl ?_;rintro x e J' ⟨h1,h2 | h2⟩
   .refine⟨h1,.inl ⟨h2.1,h2.2.1,λj hj hj2=>?_⟩⟩;by_cases hij:j=i
    .rw[hij];exact hq
    .exact h2.2.2 j (by omega) hj2
   .exact⟨h1,.inr h2⟩
  have hf:Lu u.parts i=(bI p.width 1 100000 && (bI p.kr 0 1000 && (i == 0 || decide (p.kr<=kE u.parts i)))):=by simp[Lu,hp]
  cases c1:bI p.width 1 100000
  .rw[c1]at hf;simp[h1,h2,c1,dD];exact⟨i,h1,by simpa using hf⟩
  cases c2:bI p.kr 0 1000
  .rw[c1,c2]at hf;simp[h1,h2,c1,c2,dD];exact⟨i,h1,by simpa using hf⟩
  simp only[oF.enc]at step;by_cases hz:i=0
  .have q1:¬0<i:=by omega
   simp[h1,h2,h4,c1,c2,dD,q1];exact WL.tg (step (by rw[hf,c1,c2,hz];rfl)) λx e J' hh=>hh
  .obtain⟨q,hq⟩:∃q,u.parts[i-1]?=some q:=⟨_,aE (by omega)⟩;have d2:=bx (f:=Prt.enc) (w:=2) hq;have w1:=bV (n:=(i:Int)-1);have⟨e1,q1,q2,q3⟩:((i:Int)-1).toNat=i-1/\0<i/\1<=(i:Int)/\(i:Int)-1<u.parts.length:=by omega
   have hla:kE u.parts i=q.kr:=by
    obtain⟨m,rfl⟩:∃m,i=m+1:=⟨i-1,by omega⟩;simp at hq;simp[kE,hq]
   rw[hla,c1,c2]at hf;by_cases c3:p.kr<=q.kr
   .have c3':¬q.kr<p.kr:=by omega
    simp[h1,h2,h4,c1,c2,dD,d2,w1,e1,q1,q2,q3,c3'];refine WL.tg (step (by simp[hf,c3])) λx e J' hh=>by simpa using hh
   .have c3':q.kr<p.kr:=by omega
    simp[h1,h2,c1,c2,dD,d2,w1,e1,q1,q2,q3,c3'];exact⟨i,h1,by simp[hf,c3,hz]⟩
theorem Vs{u:oF}(hl:u.parts.length<=1000000):Cl 106 [.agg u.enc] (.bool u.ok) J:=by
 refine an ?_;simp;refine WL.tg (TY hl u.parts.length 0 (by omega)) ?_;rintro x e J' ⟨rfl,⟨rfl,g1,h⟩ | ⟨rfl,g2,j,hj,h⟩⟩
 .have hu:u.ok=true↔bI u.yf 0 5=true/\1<=u.parts.length/\u.parts.length<=8:=by
   rw[aan];exact⟨λh=>h.2,λhh=>⟨λj=>h j (by omega),hh⟩⟩
  cases c1:bI u.yf 0 5
  .have:u.ok=false:=by rw[c1]at hu;simpa using hu
   simp[g1,dD,c1,this]
  by_cases c2:1<=u.parts.length
  .have c2':(1:Int)<=u.parts.length:=by omega
   by_cases c3:u.parts.length<=8
   .have:u.ok=true:=hu.2 ⟨c1,c2,c3⟩;simp[g1,dD,c1,this,c2',show(u.parts.length:Int)<=8 by omega]
   .have:u.ok=false:=by cases hk:u.ok with
     |false=>rfl
     |true=>exact absurd (hu.1 hk).2.2 c3
    simp[g1,dD,c1,this,c2',show ¬(u.parts.length:Int)<=8 by omega]
  .have:u.ok=false:=by cases hk:u.ok with
     |false=>rfl
     |true=>exact absurd (hu.1 hk).2.1 c2
   simp[g1,dD,c1,this,show ¬(1:Int)<=u.parts.length by omega]
 .have:u.ok=false:=by cases hk:u.ok with
   |false=>rfl
   |true=>have:=(aan.1 hk).1 j hj;rw[h]at this;cases this
  simp[g2,this]
def fU(r:Bk×Int):D:=.cS [.agg (cg r.1),iI r.2]
theorem wj{n:Nat}:∀{l:List D},D.bh l=true->D.bh (l.take n)=true/\D.bh (l.drop n)=true:=by
 induction n with
 |zero=>intro l h;exact⟨rfl,h⟩
 |succ n ih =>
  intro l h;cases l with
  |nil=>exact⟨rfl,rfl⟩
  |cons d l =>
   simp only[D.bh,af]at h;exact⟨by simp only[List.take_succ_cons,D.bh,h.1,(ih h.2).1];rfl,by simpa using(ih h.2).2⟩
theorem kH{b:Bk}{e:Int}{L:Nat}{S:SK}:cK L 16 (.cS [.agg (cg b),iI e]) S=(.cS [.agg (cg b),iI e],S):=eV (by simp[D.clean,mO]) (by omega)
theorem agi{b:Bk}{e:Int}(k:Nat){α:Type}{f:α->List D}{w:Nat}(hw:∀x,(f x).length=w)(hc:∀x,D.bh (f x)=true){l:List α}{j v:Nat}{bs:List aw.aF}(hJ:J≠[])(hj:bs[j]?=some (.cells v (fM l f))):
  cK (J.length-1) 16 (.cS [.agg ((cg b).take k ++ .sl J.length j v 0 l.length w::(cg b).drop (k+1)),iI e]) (bs::J)=(.cS [.agg ((cg b).take k++lF l f::(cg b).drop (k+1)),iI e],bs.set j .dead::J):=by
 have h1:=(wj (n:=k) (mO (b:=b))).1;have h2:=(wj (n:=k+1) (mO (b:=b))).2;have app:∀a c:List D,D.bh (a++c)=(D.bh a && D.bh c):=by
  intro a c;induction a with
  |nil=>rfl
  |cons d a ih=>simp[ih,Bool.and_assoc]
 have h3:D.bh ((cg b).take k ++ .sl J.length j v 0 l.length w::(cg b).drop (k+1))=false:=by simp[app,D.clean]
 rw[pw (by simp[D.clean,h3]) (by omega)];simp only[jD,kq];rw[Fp h3 (by omega),EB (by omega) h1,kb (by decide) hw hc hJ hj,GH h2 (by omega),eV rfl (by omega)]
theorem E4{b b':Bk}{e:Int}(k:Nat){α:Type}{f:α->List D}(w:Nat)(hw:∀x,(f x).length=w)(hc:∀x,D.bh (f x)=true)(l:List α)(j v n:Nat){X cs:List D}{bs:List aw.aF}(hJ:J≠[])(hj:bs[j]?=some (.cells v cs))(hX:X=(cg b).take k ++ .sl J.length j v 0 n w::(cg b).drop (k+1))(hn:l.length=n)(hcs:fM l f=cs)
  (hb:cg b'=(cg b).take k ++ .bZ n cs::(cg b).drop (k+1)):
  ∃s,cK (J.length-1) 16 (.cS [.agg X,iI e]) (bs::J)=(.cS [.agg (cg b'),iI e],s::J):=by
 subst hX hn hcs;rw[hb];exact⟨_,agi k hw hc hJ hj⟩
theorem IZ{α:Type}{f:α->List D}(l:List α)(x:α):nl f (l++[x])=.bZ (l.length+1) (fM l f++f x):=by simp[nl]
theorem Ue{A:List D}{u:oF}{hd:D}(hl:u.parts.length<=1000000):∀(m j:Nat),j+m=u.parts.length ->
  WL T [1,2,4,6,7] false xr [(1,.bZ (u.parts.length*2+1) (hd::fM u.parts Prt.enc)),(2,.own 0 A),(4,.own 0 zS),(6,.own 0 [iI u.yf,.sl J.length 0 j 0 j 2]),(7,iI (j*2+1))] ([.cells j (fM (u.parts.take j) Prt.enc)]::J)
   (λx e J'=>x=.exit 0/\get e 2=.own 0 A/\get e 4=.own 0 zS/\get e 6=.own 0 [iI u.yf,.sl J.length 0 u.parts.length 0 u.parts.length 2]/\J'=[.cells u.parts.length (fM u.parts Prt.enc)]::J)
 |0,j,h=>by
  refine aK ?_;obtain rfl:j=u.parts.length:=by omega
  simp
 |m+1,j,h=>by
  refine aK ?_;have h1:j<u.parts.length:=by omega
  obtain⟨p,hp⟩:=gE h1;have d1:=mM (f:=Prt.enc) (w:=2) (λ_=>rfl) hp;have d2:(fM u.parts Prt.enc).drop (j*2+1)=iI p.kr::(fM u.parts Prt.enc).drop (j*2+2):=by
   have:=congrArg (List.drop 1) d1;simpa[cC]using this
  have⟨t1,t2,h2,h3,h0,h0'⟩:((j:Int)*2+1).toNat=j*2+1/\((j:Int)*2+1+1).toNat=j*2+1+1/\(j:Int)*2+1<(u.parts.length:Int)*2+1/\(j:Int)*2+1+1<(u.parts.length:Int)*2+1/\0<=(j:Int)*2+1/\0<=(j:Int)*2+1+1:=by omega
  have w1:=bV (n:=(j:Int)*2+1+1);have w2:=bV (n:=(j:Int)*2+1+2);have hl1:(u.parts.take j).length=j:=by simp;omega
  have hr:(j+1)*16<=room:=by unfold room;omega
  have ha:=H4 (u.parts.take j);rw[hl1]at ha;have ta:(fM (u.parts.take j) Prt.enc).take (j*2)=fM (u.parts.take j) Prt.enc:=cZ;have ih:=Ue (A:=A) (hd:=hd) hl m (j+1) (by omega);have htk:u.parts.take (j+1)=u.parts.take j++[p]:=by rw[List.take_add_one,hp];rfl
  rw[htk]at ih;have hj1:((j+1:Nat):Int)*2+1=(j:Int)*2+1+2:=by omega
  rw[hj1]at ih;simp[h2,h3,h0,h0',t1,t2,d1,d2,w1,w2,hr,ha,ta];exact WL.ts ih λx e J' hh=>hh
theorem abf{b:Bk}{u:oF}(hl:u.parts.length<=1000000)(hb:b.cV.length<=1000000)(hJ:J≠[]):Cl 69 [.agg (cg b),.bZ (u.parts.length*2+1) (iI u.yf::fM u.parts Prt.enc)] (fU (tf b u)) J:=by
 refine an ?_;have hn:=l7 (f:=oF.enc) b.cV;have hc:=mO (b:=b);by_cases h1:b.cV.length<10
 case neg =>
  have h1':(10:Int)<=b.cV.length:=by omega
  simp[cg,hn,h1',tf,h1,fU];exact⟨_,kH⟩
 have h1':¬(10:Int)<=b.cV.length:=by omega
 have hL:=Ue (J:=J) (A:=cg b) (u:=u) (hd:=iI u.yf) hl u.parts.length 0 (by omega);have q0:(0:Int)<(u.parts.length:Int)*2+1:=by omega
 simp[cg,hn,h1',q0];refine WL.to hL (by simp[cg,zS]) (by simp) ?_;rintro x e J' ⟨rfl,g2,g4,g6,rfl⟩;have hC:=λJ=>Vs (J:=J) (u:=u) hl
 simp only[oF.enc]at hC;have hf:=o9 (f:=Prt.enc) (w:=2) (λ_=>rfl) (λ_=>by simp[D.clean]) (l:=u.parts) (j:=0) (v:=u.parts.length) (bs:=[aw.aF.cells u.parts.length (fM u.parts Prt.enc)]) (J:=J) hJ rfl;cases h2:u.ok
 .rw[h2]at hC;simp[g2,g4,g6,hf,hC,eT,eE,Fb,Bh,tf,h1,h2,fU];exact⟨_,kH⟩
 .rw[h2]at hC;have l1:=Ku b.cV;have l2:(fM b.cV oF.enc).take (b.cV.length*2)=fM b.cV oF.enc:=cZ;have⟨r1,r2,r3⟩:b.cV.length*32<=room/\(b.cV.length+1)*32<=room/\32<=room:=by unfold room;omega
  by_cases hm:b.cV=[]
  .simp[g2,g4,g6,hf,hC,cg,zS,tf,h2,fU,hm,EV,r3];exact E4 (b:=b) (b':=JY b u) 16 2 (λ_=>rfl) ae9 [u] 1 0 1 hJ rfl rfl rfl (by simp) (by simp[cg,JY,hm,nl])
  .have e1:=iF (f:=oF.enc) hm;simp[g2,g4,g6,hf,hC,cg,zS,tf,h1,h2,fU,hm,e1,l1,l2,r1,r2];exact E4 (b:=b) (b':=JY b u) 16 2 (λ_=>rfl) ae9 (b.cV++[u]) 1 1 (b.cV.length+1) hJ rfl rfl (by simp) (by simp) (by simp[cg,JY,IZ])
theorem aaE{r:ba.cQ}:Cl 91 [.agg r.enc] (.bool r.ok) J:=by
 refine an ?_;cases hc1:ba.ux r.lo r.hi
 .simp[ML,ba.cQ.ok,hc1]
 cases hc2:ba.bI r.least 0 160
 .simp[ML,ym,ba.cQ.ok,hc1,hc2]
 cases hc3:ba.bI r.uQ 1 1000000
 .simp[ML,ym,ba.cQ.ok,hc1,hc2,hc3]
 cases hc4:ba.bI r.count 1 200
 .simp[ML,ym,ba.cQ.ok,hc1,hc2,hc3,hc4]
 by_cases hc5:r.Ol=1
 rotate_left
 .simp[ML,ym,ba.cQ.ok,hc1,hc2,hc3,hc4,hc5]
 simp[ML,ym,ba.cQ.ok,hc1,hc2,hc3,hc4,hc5]
theorem aaD{k0 k1 k2:Int}:Cl 92 [.bB,.bB,.agg [iI k0,iI k1,iI k2],iI 0] (.bool (ba.fB k0 k1 k2)) J:=by
 refine an ?_;have h0:ba.bI 0 0 1000000000=true:=rfl;by_cases h1:1000<k0
 .have hk:ba.fB k0 k1 k2=false:=by simp[ba.fB];omega
  simp[ym,h0,h1,hk]
 by_cases h2:k2<0
 .have hk:ba.fB k0 k1 k2=false:=by simp[ba.fB];omega
  simp[ym,h0,h1,h2,hk]
 by_cases h3:k0<k1
 .have hk:ba.fB k0 k1 k2=false:=by simp[ba.fB];omega
  simp[ym,h0,h1,h2,h3,hk]
 by_cases h4:k1<k2
 .have hk:ba.fB k0 k1 k2=false:=by simp[ba.fB];omega
  simp[ym,h0,h1,h2,h3,h4,hk]
 simp[ym,h0,h1,h2,h3,h4];refine aK ?_;simp[ba.fB];omega
theorem PU{e:ba.Ev}(hl:e.sp.length<=1000000):∀(k i:Nat),i+k=e.sp.length ->
  WL T [1,3] false nW [(1,.bq e.enc),(3,iI i)] J
   (λx e' J'=>J'=J/\if dz (e.sp.drop i) ba.pn.ok=true then x=.exit 0/\get e' 1=.bq e.enc else x=.ret/\get e' 2=.bool false)
 |0,i,hi=>by
  refine aK ?_;obtain rfl:i=e.sp.length:=by omega
  have h2:e.sp.drop e.sp.length=[]:=ec;simp[h2,dz]
 |k+1,i,hi=>by
  refine aK ?_;have h1:i<e.sp.length:=by omega
  obtain⟨s,hs⟩:=gE h1;have h2:=bx (f:=ba.pn.enc) (w:=4) hs;have h4:=cj h1;have ih:=PU hl k (i+1) (by omega);rw[bj hs,show dz (s::e.sp.drop (i+1)) ba.pn.ok=(s.ok && dz (e.sp.drop (i+1)) ba.pn.ok)from rfl];cases c1:s.p.ok
  .simp[h1,h2,Jm,c1,ba.pn.ok]
  cases c2:ba.bI s.mag 0 160
  .simp[h1,h2,Jm,ym,c1,c2,ba.pn.ok]
  simp[h1,h2,h4,Jm,ym,c1,c2,ba.pn.ok];exact WL.tg ih λx e J' hh=>by simpa[c1,c2]using hh
theorem W7{e:ba.Ev}(hl:e.sp.length<=1000000):Cl 93 [.agg e.enc] (.bool e.ok) J:=by
 refine an ?_;simp;refine WL.tg (PU hl e.sp.length 0 (by omega)) ?_;rintro x e' J' ⟨rfl,h⟩;rw[az]at h;cases c0:dz e.sp ba.pn.ok
 .rw[c0]at h;simp at h;obtain⟨rfl,g2⟩:=h;simp[g2,ba.Ev.ok,c0]
 rw[c0]at h;simp at h;obtain⟨rfl,g1⟩:=h;cases c1:ba.bI e.tick 0 1000000
 .simp[g1,ym,c1,ba.Ev.ok]
 have hi:ba.bI e.sp.length 1 2000=(decide ((1:Int)<=e.sp.length) && decide ((e.sp.length:Int)<=2000)):=rfl;by_cases c2:(1:Int)<=e.sp.length
 .by_cases c3:(e.sp.length:Int)<=2000
  .simp[g1,ym,c1,c2,c3,c0,ba.Ev.ok,hi]
  .simp[g1,ym,c1,c2,c3,c0,ba.Ev.ok,hi]
 .simp[g1,ym,c1,c2,c0,ba.Ev.ok,hi]
def L4:List UInt8:=[114,117,108,101]
def RA:List UInt8:=[107,101,101,112]
def LZ:List UInt8:=[113,117,97,107,101]
theorem aa6{b:Bk}{x y z:Int}:Cl 64 [.agg (cg b),.str RA,.bZ 3 [iI x,iI y,iI z]] (fU (if ba.fB x y z=true then(LD b x y z,0)else(b,1))) J:=by
 refine an ?_;have hC:=λJ=>aaD (J:=J) (k0:=x) (k1:=y) (k2:=z)
 cases h:ba.fB x y z
 .rw[h]at hC;simp[fO,RA,cg,hC,fU];exact⟨_,kH⟩
 .rw[h]at hC;simp[fO,RA,cg,hC,fU];exact⟨_,kH (b:=LD b x y z)⟩
theorem Tf{x0 x1 x2 x3 x4 x5 x6 x7 x8 x9:Int}:ba.cQ.ok ⟨⟨x0,x1,x2⟩,⟨x3,x4,x5⟩,x6,x7,x8,max 0 (min x9 9)⟩=(bI x9 1 2 && ba.cQ.ok ⟨⟨x0,x1,x2⟩,⟨x3,x4,x5⟩,x6,x7,x8,x9⟩):=by
 rw[Bool.eq_iff_iff,af,ba.zZ,ba.zZ,aS];constructor
 .rintro⟨h1,h2,h3,h4,h5⟩;simp only at h5;exact⟨by omega,h1,h2,h3,h4,by simp only;omega⟩
 .rintro⟨h0,h1,h2,h3,h4,h5⟩;exact⟨h1,h2,h3,h4,by simp only;omega⟩
theorem aba{b:Bk}{x0 x1 x2 x3 x4 x5 x6 x7 x8 x9:Int}(hb:b.rules.length<=1000000)(hJ:J≠[]):Cl 64 [.agg (cg b),.str L4,.bZ 10 [iI x0,iI x1,iI x2,iI x3,iI x4,iI x5,iI x6,iI x7,iI x8,iI x9]] (fU (rO b ⟨⟨x0,x1,x2⟩,⟨x3,x4,x5⟩,x6,x7,x8,x9⟩ x9)) J:=by
 refine an ?_;have hn:=l7 (f:=ba.cQ.enc) b.rules;by_cases h1:b.rules.length<20
 case neg =>
  have h1':(20:Int)<=b.rules.length:=by omega
  simp[fO,L4,cg,hn,h1',rO,h1,fU];exact⟨_,kH⟩
 have h1':¬(20:Int)<=b.rules.length:=by omega
 have hw:IntKind.u8.wrap (max 0 (min x9 9))=max 0 (min x9 9):=TG (by omega);have hC:=λJ=>aaE (J:=J) (r:=⟨⟨x0,x1,x2⟩,⟨x3,x4,x5⟩,x6,x7,x8,max 0 (min x9 9)⟩)
 simp only[ba.cQ.enc,Tf]at hC;by_cases h2:bI x9 1 2=true/\ba.cQ.ok ⟨⟨x0,x1,x2⟩,⟨x3,x4,x5⟩,x6,x7,x8,x9⟩=true
 case neg =>
  have hd:rO b ⟨⟨x0,x1,x2⟩,⟨x3,x4,x5⟩,x6,x7,x8,x9⟩ x9=(b,1):=by
   unfold rO;rw[if_pos h1];split
   .rw[if_neg λh=>h2 ⟨by assumption,h⟩]
   .rfl
  rw[hd];have h3:(bI x9 1 2 && ba.cQ.ok ⟨⟨x0,x1,x2⟩,⟨x3,x4,x5⟩,x6,x7,x8,x9⟩)=false:=by simpa using h2
  rw[h3]at hC;simp[fO,L4,cg,hn,h1',hw,hC,fU];exact⟨_,kH⟩
 have h3:1<=x9/\x9<=2:=aS.1 h2.1;rw[h2.1,h2.2,show max 0 (min x9 9)=x9 by omega]at hC;rw[show max 0 (min x9 9)=x9 by omega]at hw;have hm:max 0 (min x9 9)=x9:=by omega
 have l1:=Rt b.rules;have l2:(fM b.rules ba.cQ.enc).take (b.rules.length*10)=fM b.rules ba.cQ.enc:=cZ;have⟨r1,r2,r3⟩:b.rules.length*80<=room/\(b.rules.length+1)*80<=room/\80<=room:=by unfold room;omega
 by_cases hm0:b.rules=[]
 .simp[fO,L4,cg,hm,hw,hC,rO,h2,fU,hm0,EV,r3];exact E4 (b:=b) (b':={b with rules:=[⟨⟨x0,x1,x2⟩,⟨x3,x4,x5⟩,x6,x7,x8,x9⟩] }) 11 10 (λ_=>rfl) ae7 [⟨⟨x0,x1,x2⟩,⟨x3,x4,x5⟩,x6,x7,x8,x9⟩] 0 0 1 hJ rfl rfl rfl (by simp) (by simp[cg,hm0,nl])
 .have e1:=iF (f:=ba.cQ.enc) hm0;simp[fO,L4,cg,h1,h1',hm,hw,hC,rO,h2,fU,hm0,e1,l1,l2,r1,r2];exact E4 (b:=b) (b':={b with rules:=b.rules++[⟨⟨x0,x1,x2⟩,⟨x3,x4,x5⟩,x6,x7,x8,x9⟩] }) 11 10 (λ_=>rfl) ae7 (b.rules++[⟨⟨x0,x1,x2⟩,⟨x3,x4,x5⟩,x6,x7,x8,x9⟩]) 0 1 (b.rules.length+1) hJ rfl rfl (by simp) (by simp) (by simp[cg,IZ])
theorem P8{A:List D}{sp:List ba.pn}{tk:Int}(hl:sp.length<=1000000):∀(m j:Nat),j+m=sp.length ->
  WL T [2,3,6,10,11] false tC [(2,.bZ (sp.length*4) (fM sp ba.pn.enc)),(3,.own 0 A),(6,.own 0 zS),(10,.own 0 [iI tk,.sl J.length 0 j 0 j 4]),(11,iI (j*4))] ([.cells j (fM (sp.take j) ba.pn.enc)]::J)
   (λx e J'=>x=.exit 1/\get e 3=.own 0 A/\get e 6=.own 0 zS/\get e 10=.own 0 [iI tk,.sl J.length 0 sp.length 0 sp.length 4]/\J'=[.cells sp.length (fM sp ba.pn.enc)]::J)
 |0,j,h=>by
  refine aK ?_;obtain rfl:j=sp.length:=by omega
  simp
 |m+1,j,h=>by
  refine aK ?_;have h1:j<sp.length:=by omega
  obtain⟨p,hp⟩:=gE h1;have d0:=mM (f:=ba.pn.enc) (w:=4) (λ_=>rfl) hp;have d1:=congrArg (List.drop 1) d0;have d2:=congrArg (List.drop 2) d0;have d3:=congrArg (List.drop 3) d0;simp[cC]at d1 d2 d3;have⟨h2,k1,k2,k3,n0,n1⟩:(j:Int)*4<(sp.length:Int)*4/\(j:Int)*4+1<(sp.length:Int)*4/\(j:Int)*4+2<(sp.length:Int)*4/\(j:Int)*4+3<(sp.length:Int)*4/\0<=(j:Int)*4/\0<=(j:Int)*4+1:=by omega
  have⟨n2,n3,t0,t1,t2,t3⟩:0<=(j:Int)*4+2/\0<=(j:Int)*4+3/\((j:Int)*4).toNat=j*4/\((j:Int)*4+1).toNat=j*4+1/\((j:Int)*4+2).toNat=j*4+2/\((j:Int)*4+3).toNat=j*4+3:=by omega
  have w1:=bV (n:=(j:Int)*4+1);have w2:=bV (n:=(j:Int)*4+2);have w3:=bV (n:=(j:Int)*4+3);have w4:=bV (n:=(j:Int)*4+4);have hl1:(sp.take j).length=j:=by simp;omega
  have hr:(j+1)*32<=room:=by unfold room;omega
  have ha:=Ph (sp.take j);rw[hl1]at ha;have ta:(fM (sp.take j) ba.pn.enc).take (j*4)=fM (sp.take j) ba.pn.enc:=cZ;have ih:=P8 (A:=A) (tk:=tk) hl m (j+1) (by omega);have htk:sp.take (j+1)=sp.take j++[p]:=by rw[List.take_add_one,hp];rfl
  rw[htk,show((j+1:Nat):Int)*4=(j:Int)*4+4 by omega]at ih;simp[h1,k1,k2,k3,n0,n1,n2,n3,t0,t1,t2,t3,d0,d1,d2,d3,w1,w2,w3,w4,hr,ha,ta];exact WL.ts ih λx e J' hh=>hh
theorem XM{b:Bk}{sp:List ba.pn}(hl:sp.length<=1000000)(hb:b.pr.length<=1000000)(hJ:J≠[]):Cl 64 [.agg (cg b),.str LZ,.bZ (sp.length*4) (fM sp ba.pn.enc)] (fU (oo b sp)) J:=by
 refine an ?_;have hn:=l7 (f:=ba.Ev.enc) b.pr;have hnp:=l7 (f:=pE) b.av;by_cases h1:b.pr.length<200
 case neg =>
  have h1':(200:Int)<=b.pr.length:=by omega
  simp[fO,LZ,cg,hn,h1',oo,h1,fU];exact⟨_,kH⟩
 have h1':¬(200:Int)<=b.pr.length:=by omega
 have hL:=P8 (J:=J) (A:=cg b) (sp:=sp) (tk:=b.av.length) hl sp.length 0 (by omega);simp[fO,LZ,cg,hn,h1',hnp];refine WL.to hL (by simp[cg,zS]) (by simp) ?_;rintro x e J' ⟨rfl,g2,g4,g6,rfl⟩;have hC:=λJ=>W7 (J:=J) (e:=⟨b.av.length,sp⟩) hl
 simp only[ba.Ev.enc]at hC;have hf:=o9 (f:=ba.pn.enc) (w:=4) (λ_=>rfl) (λ_=>by simp[D.clean]) (l:=sp) (j:=0) (v:=sp.length) (bs:=[aw.aF.cells sp.length (fM sp ba.pn.enc)]) (J:=J) hJ rfl;cases h2:ba.Ev.ok ⟨b.av.length,sp⟩
 .rw[h2]at hC;simp[g2,g4,g6,hf,hC,eT,eE,Fb,Bh,oo,h1,h2,fU];exact⟨_,kH⟩
 .rw[h2]at hC;have l1:=YQ b.pr;have l2:(fM b.pr ba.Ev.enc).take (b.pr.length*2)=fM b.pr ba.Ev.enc:=cZ;have⟨r1,r2,r3⟩:b.pr.length*32<=room/\(b.pr.length+1)*32<=room/\32<=room:=by unfold room;omega
  by_cases hm:b.pr=[]
  .simp[g2,g4,g6,hf,hC,cg,zS,oo,h2,fU,hm,EV,r3];exact E4 (b:=b) (b':=E2 b ⟨b.av.length,sp⟩) 12 2 (λ_=>rfl) ae6 [⟨b.av.length,sp⟩] 1 0 1 hJ rfl rfl rfl (by simp) (by simp[cg,E2,hm,nl])
  .have e1:=iF (f:=ba.Ev.enc) hm;simp[g2,g4,g6,hf,hC,cg,zS,oo,h1,h2,fU,hm,e1,l1,l2,r1,r2];exact E4 (b:=b) (b':=E2 b ⟨b.av.length,sp⟩) 12 2 (λ_=>rfl) ae6 (b.pr++[⟨b.av.length,sp⟩]) 1 1 (b.pr.length+1) hJ rfl rfl (by simp) (by simp) (by simp[cg,E2,IZ])
def E6:List UInt8:=[102,105,101,108,100]
def I8:List UInt8:=[116,97,98,108,101]
def LY:List UInt8:=[98,101,100]
def E7:List UInt8:=[119,101,108,108]
theorem cX{b:Bk}{X:List D}{e:Int}{L:Nat}{S:SK}{s:List aw.aF}(h:cg b=X):∃s',cK L 16 (.cS [.agg X,iI e]) (s::S)=(.cS [.agg X,iI e],s'::S):=by
 subst h;exact⟨_,kH⟩
theorem Fz{b:Bk}{X:List D}{e:Int}{L:Nat}{S:SK}{s:List aw.aF}(h:cg b=X):∃s',cK L 16 (.cS [.agg X,iI e]) (s::S)=(.cS [.agg (cg b),iI e],s'::S):=by
 subst h;exact⟨_,kH⟩
theorem um(b:Bk):nl bN.enc b.aT.ar=.bB\/nl bN.enc b.aT.ar=lF b.aT.ar bN.enc/\b.aT.ar≠[]:=by
 by_cases h:b.aT.ar=[]
 .exact .inl (by simp[nl,h])
 .exact .inr ⟨by simp[nl,h],h⟩
theorem XH{b:Bk}{x y z k:Int}(hw:b.aT.ar.length<=1000000)(hn:((b.aT.f.x=0/\b.aT.f.y=0)/\b.aT.f.z=0/\b.aT.f.k=0)->b.aT.ar=[]):
  Cl 63 [.agg (cg b),.str E6,.bZ 4 [iI x,iI y,iI z,iI k]] (fU (Go.cY.mY b x y z k)) J:=by
 refine an ?_;have hf:=λJ=>Px (J:=J) (f:=⟨x,y,z,k⟩)
 have r1:b.aT.ar.length*24<=room:=by unfold room;omega
 have l1:=yM b.aT.ar;by_cases h0:(b.aT.f.x=0/\b.aT.f.y=0)/\b.aT.f.z=0/\b.aT.f.k=0
 case neg =>
  have hq:¬b.aT.f.x=0\/¬b.aT.f.y=0\/¬b.aT.f.z=0\/¬b.aT.f.k=0:=by omega
  have hd:Go.cY.mY b x y z k=(b,8):=if_neg h0;rw[hd];rcases um b with hE | ⟨hE,hne⟩
  .simp[fO,E6,cg,hE,hq,fU];exact cX (b:=b) (by simp[cg,hE])
  .simp[fO,E6,cg,hE,hne,r1,l1,hq,fU];exact cX (b:=b) (by simp[cg,hE])
 have hq:(¬b.aT.f.x=0\/¬b.aT.f.y=0\/¬b.aT.f.z=0\/¬b.aT.f.k=0)=False:=by simp;omega
 have hE:nl bN.enc b.aT.ar=.bB:=by simp[nl,hn h0]
 by_cases h1:(dK.mk x y z k).valid=true/\4<=k
 .have hd:Go.cY.mY b x y z k=({b with aT:={b.aT with f:=⟨x,y,z,k⟩ } },0):=by unfold Go.cY.mY;rw[if_pos h0,if_pos h1]
  rw[hd];rw[h1.1]at hf;simp[fO,E6,cg,hE,hq,fU,hf,show ¬k<4 by omega];exact cX (b:={b with aT:={b.aT with f:=⟨x,y,z,k⟩ } }) (by simp[cg,hE])
 have hd:Go.cY.mY b x y z k=(b,1):=by unfold Go.cY.mY;rw[if_pos h0,if_neg h1]
 rw[hd];cases h2:(dK.mk x y z k).valid
 .rw[h2]at hf;simp[fO,E6,cg,hE,hq,fU,hf];exact cX (b:=b) (by simp[cg,hE])
 .rw[h2]at hf;have h3:k<4:=Int.not_le.1 λh=>h1 ⟨h2,h⟩
  simp[fO,E6,cg,hE,hq,fU,hf,h3];exact cX (b:=b) (by simp[cg,hE])
def Rn(L:Nat):Nat->D
 |0 => .bB
 |j+1 => .sl L 0 j 0 (j+1) 5
def MF(t:List Rw):Nat->List aw.aF
 |0=>[]
 |j+1=>[.cells j (fM (t.take (j+1)) Rw.enc)]
def Iz(b:Bk)(W:D):List D:=[iI b.aT.f.x,iI b.aT.f.y,iI b.aT.f.z,iI b.aT.f.k,W,iI b.aT.cJ,iI b.aT.lift,iI b.aT.deep,.bB]
theorem Qa{A:List D}{b:Bk}{t:List Rw}(hl:t.length<=1000000):∀(m j:Nat),j+m=t.length ->
  WL T [2,3,6,8,9] false xq [(2,.bZ (t.length*5) (fM t Rw.enc)),(3,.own 0 A),(6,.own 0 zS),(8,.own 0 (Iz b (Rn J.length j))),(9,iI (j*5))] (MF t j::J)
   (λx e J'=>x=.exit 1/\get e 3=.own 0 A/\get e 6=.own 0 zS/\get e 8=.own 0 (Iz b (Rn J.length t.length))/\J'=MF t t.length::J)
 |0,j,h=>by
  refine aK ?_;obtain rfl:j=t.length:=by omega
  simp[Iz]
 |m+1,j,h=>by
  refine aK ?_;have h1:j<t.length:=by omega
  obtain⟨p,hp⟩:=gE h1;have d0:=mM (f:=Rw.enc) (w:=5) (λ_=>rfl) hp;have d1:=congrArg (List.drop 1) d0;have d2:=congrArg (List.drop 2) d0;have d3:=congrArg (List.drop 3) d0;have d4:=congrArg (List.drop 4) d0;simp[cC]at d1 d2 d3 d4;have⟨h2,k1,k2,k3,k4,n0⟩:(j:Int)*5<(t.length:Int)*5/\(j:Int)*5+1<(t.length:Int)*5/\(j:Int)*5+2<(t.length:Int)*5/\(j:Int)*5+3<(t.length:Int)*5/\(j:Int)*5+4<(t.length:Int)*5/\0<=(j:Int)*5:=by omega
  have⟨n1,n2,n3,n4,t0,t1⟩:0<=(j:Int)*5+1/\0<=(j:Int)*5+2/\0<=(j:Int)*5+3/\0<=(j:Int)*5+4/\((j:Int)*5).toNat=j*5/\((j:Int)*5+1).toNat=j*5+1:=by omega
  have⟨t2,t3,t4⟩:((j:Int)*5+2).toNat=j*5+2/\((j:Int)*5+3).toNat=j*5+3/\((j:Int)*5+4).toNat=j*5+4:=by omega
  have w1:=bV (n:=(j:Int)*5+1);have w2:=bV (n:=(j:Int)*5+2);have w3:=bV (n:=(j:Int)*5+3);have w4:=bV (n:=(j:Int)*5+4);have w5:=bV (n:=(j:Int)*5+5);have ih:=Qa (A:=A) (b:=b) hl m (j+1) (by omega);have htk:t.take (j+1)=t.take j++[p]:=by rw[List.take_add_one,hp];rfl
  rw[show((j+1:Nat):Int)*5=(j:Int)*5+5 by omega]at ih;have hl1:(t.take j).length=j:=by simp;omega
  have ha:=O8 (t.take j);rw[hl1]at ha;have ta:(fM (t.take j) Rw.enc).take (j*5)=fM (t.take j) Rw.enc:=cZ;have hr:(j+1)*40<=room:=by unfold room;omega
  have eN:Rn J.length (j+1)=.sl J.length 0 j 0 (j+1) 5:=rfl;have eG:MF t (j+1)=[.cells j (fM (t.take j) Rw.enc++p.enc)]:=by simp[MF,htk]
  rw[eN,eG]at ih;by_cases hz:j=0
  .have e1:Rn J.length j=.bB:=by rw[hz];rfl
   have e2:MF t j=[]:=by rw[hz];rfl
   have e3:t.take j=[]:=by rw[hz];rfl
   rw[e3]at ih;simp[Iz,e1,e2,h1,k1,k2,k3,k4,n0,n1,n2,n3,n4,t0,t1,t2,t3,t4,d0,d1,d2,d3,d4,w1,w2,w3,w4,w5,show 40<=room by unfold room;omega];exact WL.to ih (by simp[Iz,hz]) (by simp[hz]) λx e J' hh=>by simpa[Iz]using hh
  .have e0:j-1+1=j:=by omega
   have e1:Rn J.length j=.sl J.length 0 (j-1) 0 j 5:=by rw[<- e0];rfl
   have e2:MF t j=[.cells (j-1) (fM (t.take j) Rw.enc)]:=by rw[<- e0];rfl
   simp[Iz,e1,e2,h1,k1,k2,k3,k4,n0,n1,n2,n3,n4,t0,t1,t2,t3,t4,d0,d1,d2,d3,d4,w1,w2,w3,w4,w5,hr,ha,ta,e0];exact WL.to ih (by simp[Iz]) (by simp) λx e J' hh=>by simpa[Iz]using hh
theorem PE:Cl 89 [.bB] (.bool false) J:=by
 refine an ?_;simp;refine aK ?_;simp[]
theorem XN{b:Bk}{t:List Rw}(hl:t.length<=1000000)(hw:b.aT.ar.length<=1000000)(hn:b.aT.dX=[]->b.aT.ar=[])(hJ:J≠[]):
  Cl 63 [.agg (cg b),.str I8,.bZ (t.length*5) (fM t Rw.enc)] (fU (lA b t)) J:=by
 refine an ?_;have r1:b.aT.ar.length*24<=room:=by unfold room;omega
 have l1:=yM b.aT.ar;have hnt:=l7 (f:=Rw.enc) b.aT.dX;by_cases h0:b.aT.dX=[]
 case neg =>
  have hd:lA b t=(b,8):=if_neg h0;have hq:0<b.aT.dX.length:=aG.2 h0;rw[hd];rcases um b with hE | ⟨hE,hne⟩
  .simp[fO,I8,cg,hE,hq,fU,hnt];exact cX (b:=b) (by simp[cg,hE])
  .simp[fO,I8,cg,hE,hne,r1,l1,hq,fU,hnt];exact cX (b:=b) (by simp[cg,hE])
 have hE:nl bN.enc b.aT.ar=.bB:=by simp[nl,hn h0]
 have hT:nl Rw.enc b.aT.dX=.bB:=by simp[nl,h0]
 have hL:=Qa (J:=J) (A:=cg b) (b:=b) hl t.length 0 (by omega);simp[fO,I8,cg,hE,hT];refine WL.to hL (by simp[cg,hE,hT,Iz,zS,Rn]) (by simp[MF]) ?_;rintro x e J' ⟨rfl,g3,g6,g8,rfl⟩;by_cases hz:t=[]
 .have hd:lA b t=(b,1):=by subst hz;simp[lA,h0,fP,bI]
  rw[hd];have e1:Rn J.length t.length=.bB:=by rw[hz];rfl
  have e2:MF t t.length=[]:=by rw[hz];rfl
  rw[e1]at g8;simp[g3,g6,g8,e2,Iz,PE,eT,eE,Fb,Bh,fU];exact cX (b:=b) rfl
 .have e0:t.length-1+1=t.length:=by have:=aG.2 hz;omega
  have e1:Rn J.length t.length=.sl J.length 0 (t.length-1) 0 t.length 5:=by rw[<- e0];rfl
  have e2:MF t t.length=[.cells (t.length-1) (fM t Rw.enc)]:=by rw[<- e0];simp[MF,e0]
  have hf:=o9 (f:=Rw.enc) (w:=5) (λ_=>rfl) (λ_=>by simp[D.clean]) (l:=t) (j:=0) (v:=t.length-1) (bs:=[aw.aF.cells (t.length-1) (fM t Rw.enc)]) (J:=J) hJ rfl;have hC:=λJ=>PD (J:=J) (t:=t) (by omega)
  rw[e1]at g8;cases h2:fP t
  .have hd:lA b t=(b,1):=by simp[lA,h0,h2]
   rw[hd];rw[h2]at hC;simp[g3,g6,g8,e2,hf,Iz,hC,eT,eE,Fb,Bh,fU];exact cX (b:=b) rfl
  .have hd:lA b t=(Jg b t,0):=by simp[lA,h0,h2]
   rw[hd];rw[h2]at hC;simp[g3,g6,g8,e2,hf,Iz,hC,cg,hE,hT,zS,fU];exact Fz (b:=Jg b t) (by simp[cg,Jg,hE,iF hz])
theorem aet{b:Bk}{x y z:Int}(ht:b.aT.dX.length<=1000000)(hw:b.aT.ar.length<=1000000)(hn:b.ready=false->b.aT.ar=[])(hJ:J≠[]):
  Cl 63 [.agg (cg b),.str LY,.bZ 3 [iI x,iI y,iI z]] (fU (yP b x y z)) J:=by
 refine an ?_;have r1:b.aT.ar.length*24<=room:=by unfold room;omega
 have l1:=yM b.aT.ar;have hnt:=l7 (f:=Rw.enc) b.aT.dX;by_cases h0:((b.aT.f.x=0/\b.aT.f.y=0)/\b.aT.f.z=0/\b.aT.f.k=0)\/b.aT.dX=[]\/b.ready=true
 .have hd:yP b x y z=(b,8):=if_pos h0;rw[hd];by_cases hq1:b.aT.f.x=0/\b.aT.f.y=0/\b.aT.f.z=0/\b.aT.f.k=0
  .rcases um b with hE | ⟨hE,hne⟩
   .simp[fO,LY,cg,hE,hq1,fU];exact cX (b:=b) (by simp[cg,hE,hq1])
   .simp[fO,LY,cg,hE,hne,r1,l1,hq1,fU];exact cX (b:=b) (by simp[cg,hE,hq1])
  .have hq:(b.aT.f.x=0->b.aT.f.y=0->b.aT.f.z=0->¬b.aT.f.k=0)=True:=eq_true λh1 h2 h3 h4=>hq1 ⟨h1,h2,h3,h4⟩
   have hq3:(b.aT.f.x=0/\b.aT.f.y=0/\b.aT.f.z=0/\b.aT.f.k=0)=False:=eq_false hq1;by_cases hq2:b.aT.dX=[]
   .rcases um b with hE | ⟨hE,hne⟩
    .simp[fO,LY,cg,hE,hq,hq3,hq2,fU];exact cX (b:=b) (by simp[cg,hE,hq2])
    .simp[fO,LY,cg,hE,hne,r1,l1,hq,hq3,hq2,fU];exact cX (b:=b) (by simp[cg,hE,hq2])
   .have hr:b.ready=true:=by
     rcases h0 with h | h | h
     .exact absurd ⟨h.1.1,h.1.2,h.2.1,h.2.2⟩ hq1
     .exact absurd h hq2
     .exact h
    have hb:((b.aT.dX.length:Int) == 0)=false:=by have:=aG.2 hq2;rw[beq_eq_false_iff_ne];omega
    rcases um b with hE | ⟨hE,hne⟩
    .simp[fO,LY,cg,hE,hq,hq3,hnt,hb,hr,fU];exact cX (b:=b) (by simp[cg,hE,hr])
    .simp[fO,LY,cg,hE,hne,r1,l1,hq,hq3,hnt,hb,hr,fU];exact cX (b:=b) (by simp[cg,hE,hr])
 have hq:(b.aT.f.x=0->b.aT.f.y=0->b.aT.f.z=0->¬b.aT.f.k=0)=True:=eq_true λh1 h2 h3 h4=>h0 (.inl ⟨⟨h1,h2⟩,h3,h4⟩)
 have hq3:(b.aT.f.x=0/\b.aT.f.y=0/\b.aT.f.z=0/\b.aT.f.k=0)=False:=eq_false λh=>h0 (.inl ⟨⟨h.1,h.2.1⟩,h.2.2.1,h.2.2.2⟩)
 have hb:((b.aT.dX.length:Int) == 0)=false:=by have:=aG.2 (show b.aT.dX≠[]from λh=>h0 (.inr (.inl h)));rw[beq_eq_false_iff_ne];omega
 have hq2:b.aT.dX≠[]:=λh=>h0 (.inr (.inl h))
 have hr:b.ready=false:=by
  cases h:b.ready with
  |false=>rfl
  |true=>exact absurd (.inr (.inr h)) h0
 have hw0:=hn hr;have hE:nl bN.enc b.aT.ar=.bB:=by simp[nl,hw0]
 have hT:=iF (f:=Rw.enc) hq2;have hC:=λJ=>TH (J:=J) (b:=(D2 b x y z).aT) (wq:=.bB) (show b.aT.dX.length<=_ by omega) (show b.aT.ar.length<=_ by omega) (by simp[D2,hw0])
 simp only[D2]at hC;cases hv:(D2 b x y z).aT.valid
 .have hd:yP b x y z=(b,1):=by unfold yP;rw[if_neg h0,hv];rfl
  rw[hd];simp only[D2]at hv;rw[hv]at hC;simp[fO,LY,cg,hE,hT,hq,hq3,hb,hr,fU,hC];exact cX (b:=b) (by simp[cg,hE,hT,hr])
 .have hd:yP b x y z=(D2 b x y z,0):=by unfold yP;rw[if_neg h0,if_pos hv]
  rw[hd];simp only[D2]at hv;rw[hv]at hC;simp[fO,LY,cg,hE,hT,hq,hq3,hb,hr,fU,hC];exact Fz (b:=D2 b x y z) (by simp[cg,D2,hE,hT])
theorem abg{b:Bk}{x y z:Int}(ht:b.aT.dX.length<=1000000)(hw:b.aT.ar.length<=1000000)(hn:b.ready=true->b.aT.dX≠[])(hJ:J≠[]):
  Cl 63 [.agg (cg b),.str E7,.bZ 3 [iI x,iI y,iI z]] (fU (ti b x y z)) J:=by
 refine mX Qe AF.eq_1 rfl ?_;have⟨r1,r2,r3⟩:b.aT.ar.length*24<=room/\(b.aT.ar.length+1)*24<=room/\24<=room:=by unfold room;omega
 have l1:=yM b.aT.ar;have l2:(fM b.aT.ar bN.enc).take (b.aT.ar.length*3)=fM b.aT.ar bN.enc:=cZ;have hnm:=l7 (f:=ep.enc) b.ai;by_cases h0:b.ready=true/\b.ai=[]
 case neg =>
  have hd:ti b x y z=(b,8):=if_neg h0;rw[hd];cases hr:b.ready
  .rcases um b with hE | ⟨hE,hne⟩
   .simp[fO,E7,cg,hE,hr,fU];exact cX (b:=b) (by simp[cg,hE,hr])
   .simp[fO,E7,cg,hE,hne,r1,l1,hr,fU];exact cX (b:=b) (by simp[cg,hE,hr])
  .have hq:0<b.ai.length:=aG.2 λh=>h0 ⟨hr,h⟩
   rcases um b with hE | ⟨hE,hne⟩
   .simp[fO,E7,cg,hE,hr,hnm,hq,fU];exact cX (b:=b) (by simp[cg,hE,hr])
   .simp[fO,E7,cg,hE,hne,r1,l1,hr,hnm,hq,fU];exact cX (b:=b) (by simp[cg,hE,hr])
 obtain⟨hr,hm⟩:=h0;have hT:=iF (f:=Rw.enc) (hn hr)
 try simp only[lF]at hT
 have hd0:ti b x y z=if(mV b x y z).aT.valid=true then(mV b x y z,0)else(b,1):=if_pos ⟨hr,hm⟩
 have hC:=λJ=>aec (J:=J) (b:=(mV b x y z).aT) (show b.aT.dX.length<=_ by omega) (by simp[mV];omega)
 try simp only[lF,Cl,bL]at hC
 simp only[mV,aP,aB,bd,ln,cT,mZ,dq,bN.enc,cr]at hC;have hq:¬0<b.ai.length:=by rw[hm];simp
 have hTc:(lF b.aT.dX Rw.enc).clean=true:=by simp[D.clean,DJ]
 try simp only[lF]at hTc
 have clB:∀x:bN,D.bh x.enc=true:=λ_=>by simp[D.clean]
 cases hv:(mV b x y z).aT.valid
 .rw[hd0,hv];simp only[mV]at hv;rw[hv]at hC;rcases um b with hE | ⟨hE,hne⟩
  .have hw0:b.aT.ar=[]:=by unfold nl at hE;split at hE<;>first | assumption | cases hE
   have hf:=o9 (f:=bN.enc) (w:=3) (λ_=>rfl) clB (l:=[bN.mk x y z]) (j:=0) (v:=0) (bs:=[.cells 0 [iI x,iI y,iI z]]) (J:=J) hJ rfl;simp[hw0]at hC;simp at hf;simp[fO,E7,cg,hE,hT,hr,hm,r3,hTc,hf,hC,fU];exact cX (b:=b) (by simp[cg,hE,hT,hr,hm])
  .have hf:=o9 (f:=bN.enc) (w:=3) (λ_=>rfl) clB (l:=b.aT.ar++[bN.mk x y z]) (j:=0) (v:=1) (bs:=[.cells 1 (fM (b.aT.ar++[bN.mk x y z]) bN.enc)]) (J:=J) hJ rfl;simp at hf;simp[fO,E7,cg,hE,hT,hne,hr,hm,r1,r2,l1,l2,hTc,hf,hC,fU];exact cX (b:=b) (by simp[cg,hE,hT,hr,hm])
 .rw[hd0,hv];simp only[mV]at hv;rw[hv]at hC;rcases um b with hE | ⟨hE,hne⟩
  .have hw0:b.aT.ar=[]:=by unfold nl at hE;split at hE<;>first | assumption | cases hE
   have hf:=o9 (f:=bN.enc) (w:=3) (λ_=>rfl) clB (l:=[bN.mk x y z]) (j:=0) (v:=0) (bs:=[.cells 0 [iI x,iI y,iI z]]) (J:=J) hJ rfl;simp[hw0]at hC;simp at hf;simp[fO,E7,cg,hE,hT,hr,hm,r3,hTc,hf,hC,fU];exact Fz (b:=mV b x y z) (by simp[cg,mV,nl,hr,hm,hw0,hn hr])
  .have hf:=o9 (f:=bN.enc) (w:=3) (λ_=>rfl) clB (l:=b.aT.ar++[bN.mk x y z]) (j:=0) (v:=1) (bs:=[.cells 1 (fM (b.aT.ar++[bN.mk x y z]) bN.enc)]) (J:=J) hJ rfl;simp at hf;simp[fO,E7,cg,hE,hT,hne,hr,hm,r1,r2,l1,l2,hTc,hf,hC,fU];exact Fz (b:=mV b x y z) (by simp[cg,mV,hT,IZ,hr,hm])
