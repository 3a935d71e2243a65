import Derived.Test.YtpapbbojmclkgaaGreatDoorTxt6
set_option linter.all false
namespace Go.Proofs.YtpapbbojmclkgaaGreatDoor
section
open Go Go.Abs Go.Rock Go.Book
variable {J:SK}
theorem aaA{r:Trem.cc}:Cl 91 [.agg r.enc] (.bool r.ok) J:=by
 refine ar ?_;cases hc1:Trem.uZ r.lo r.hi
 .simp[MI,Trem.cc.ok,hc1]
 cases hc2:Trem.bF r.least 0 160
 .simp[MI,yf,Trem.cc.ok,hc1,hc2]
 cases hc3:Trem.bF r.vq 1 1000000
 .simp[MI,yf,Trem.cc.ok,hc1,hc2,hc3]
 cases hc4:Trem.bF r.count 1 200
 .simp[MI,yf,Trem.cc.ok,hc1,hc2,hc3,hc4]
 by_cases hc5:r.Oh=1
 rotate_left
 .simp[MI,yf,Trem.cc.ok,hc1,hc2,hc3,hc4,hc5]
 simp[MI,yf,Trem.cc.ok,hc1,hc2,hc3,hc4,hc5]
theorem aaz{k0 k1 k2:Int}:Cl 92 [.bu,.bu,.agg [iI k0,iI k1,iI k2],iI 0] (.bool (Trem.fy k0 k1 k2)) J:=by
 refine ar ?_;have h0:Trem.bF 0 0 1000000000=true:=rfl;by_cases h1:1000<k0
 .have hk:Trem.fy k0 k1 k2=false:=by simp[Trem.fy];omega
  simp[yf,h0,h1,hk]
 by_cases h2:k2<0
 .have hk:Trem.fy k0 k1 k2=false:=by simp[Trem.fy];omega
  simp[yf,h0,h1,h2,hk]
 by_cases h3:k0<k1
 .have hk:Trem.fy k0 k1 k2=false:=by simp[Trem.fy];omega
  simp[yf,h0,h1,h2,h3,hk]
 by_cases h4:k1<k2
 .have hk:Trem.fy k0 k1 k2=false:=by simp[Trem.fy];omega
  simp[yf,h0,h1,h2,h3,h4,hk]
 simp[yf,h0,h1,h2,h3,h4];refine av pX.eq_1 ?_;simp[Trem.fy];omega
theorem PO{e:Trem.Ev}(hl:e.sp.length<=1000000):∀(k i:Nat),i+k=e.sp.length ->
  WL T [1,3] false iT [(1,.aZ e.enc),(3,iI i)] J
   (λx e' J'=>J'=J/\if dq (e.sp.drop i) Trem.oc.ok=true then x=.exit 0/\get e' 1=.aZ e.enc else x=.ret/\get e' 2=.bool false)
 |0,i,hi=>by
  refine av iT.eq_1 ?_;obtain rfl:i=e.sp.length:=by omega
  have h2:e.sp.drop e.sp.length=[]:=an (by omega);simp[h2,dq]
 |k+1,i,hi=>by
  refine av iT.eq_1 ?_;have h1:i<e.sp.length:=by omega
  obtain⟨s,hs⟩:=gE h1;have h2:=aP (f:=Trem.oc.enc) (w:=4) (λ_=>rfl) hs;have h4:=bO h1;have ih:=PO hl k (i+1) (by omega);rw[bz hs,show dq (s::e.sp.drop (i+1)) Trem.oc.ok=(s.ok && dq (e.sp.drop (i+1)) Trem.oc.ok)from rfl];cases c1:s.p.ok
  .simp[h1,h2,Jj,c1,Trem.oc.ok]
  cases c2:Trem.bF s.mag 0 160
  .simp[h1,h2,Jj,yf,c1,c2,Trem.oc.ok]
  simp[h1,h2,h4,Jj,yf,c1,c2,Trem.oc.ok];exact WL.to ih (by simp) rfl λx e J' hh=>by simpa[c1,c2]using hh
theorem WK{e:Trem.Ev}(hl:e.sp.length<=1000000):Cl 93 [.agg e.enc] (.bool e.ok) J:=by
 refine ar ?_;simp;refine WL.to (PO hl e.sp.length 0 (by omega)) (by simp) rfl ?_;rintro x e' J' ⟨rfl,h⟩;rw[aC]at h;cases c0:dq e.sp Trem.oc.ok
 .rw[c0]at h;simp at h;obtain⟨rfl,g2⟩:=h;simp[g2,Trem.Ev.ok,c0]
 rw[c0]at h;simp at h;obtain⟨rfl,g1⟩:=h;cases c1:Trem.bF e.tick 0 1000000
 .simp[g1,yf,c1,Trem.Ev.ok]
 have hi:Trem.bF e.sp.length 1 2000=(decide ((1:Int)<=e.sp.length) && decide ((e.sp.length:Int)<=2000)):=rfl;by_cases c2:(1:Int)<=e.sp.length
 .by_cases c3:(e.sp.length:Int)<=2000
  .simp[g1,yf,c1,c2,c3,c0,Trem.Ev.ok,hi]
  .simp[g1,yf,c1,c2,c3,c0,Trem.Ev.ok,hi]
 .simp[g1,yf,c1,c2,c0,Trem.Ev.ok,hi]
def LY:List UInt8:=[114,117,108,101]
def Rn:List UInt8:=[107,101,101,112]
def LX:List UInt8:=[113,117,97,107,101]
theorem aa2{b:Bk}{x y z:Int}:Cl 64 [.agg (bW b),.str Rn,.bZ 3 [iI x,iI y,iI z]] (gr (if Trem.fy x y z=true then(Ly b x y z,0)else(b,1))) J:=by
 refine ar ?_;have hC:=λJ=>aaz (J:=J) (k0:=x) (k1:=y) (k2:=z)
 cases h:Trem.fy x y z
 .rw[h]at hC;simp[ia,Rn,bW,hC,gr];exact⟨_,lB⟩
 .rw[h]at hC;simp[ia,Rn,bW,hC,gr];exact⟨_,lB (b:=Ly b x y z)⟩
theorem S3{x0 x1 x2 x3 x4 x5 x6 x7 x8 x9:Int}:Trem.cc.ok ⟨⟨x0,x1,x2⟩,⟨x3,x4,x5⟩,x6,x7,x8,max 0 (min x9 9)⟩=(bF x9 1 2 && Trem.cc.ok ⟨⟨x0,x1,x2⟩,⟨x3,x4,x5⟩,x6,x7,x8,x9⟩):=by
 rw[Bool.eq_iff_iff,ah,Trem.zP,Trem.zP,aQ];constructor
 .rintro⟨h1,h2,h3,h4,h5⟩;simp only at h5;exact⟨by omega,h1,h2,h3,h4,by simp only;omega⟩
 .rintro⟨h0,h1,h2,h3,h4,h5⟩;exact⟨h1,h2,h3,h4,by simp only;omega⟩
theorem aa5{b:Bk}{x0 x1 x2 x3 x4 x5 x6 x7 x8 x9:Int}(hb:b.rules.length<=1000000)(hJ:J≠[]):Cl 64 [.agg (bW b),.str LY,.bZ 10 [iI x0,iI x1,iI x2,iI x3,iI x4,iI x5,iI x6,iI x7,iI x8,iI x9]] (gr (sT b ⟨⟨x0,x1,x2⟩,⟨x3,x4,x5⟩,x6,x7,x8,x9⟩ x9)) J:=by
 refine ar ?_;have hn:=fS (f:=Trem.cc.enc) b.rules;by_cases h1:b.rules.length<20
 case neg =>
  have h1':(20:Int)<=b.rules.length:=by omega
  simp[ia,LY,bW,hn,h1',sT,h1,gr];exact⟨_,lB⟩
 have h1':¬(20:Int)<=b.rules.length:=by omega
 have hw:IntKind.u8.wrap (max 0 (min x9 9))=max 0 (min x9 9):=wu8 (by omega);have hC:=λJ=>aaA (J:=J) (r:=⟨⟨x0,x1,x2⟩,⟨x3,x4,x5⟩,x6,x7,x8,max 0 (min x9 9)⟩)
 simp only[Trem.cc.enc,S3]at hC;by_cases h2:bF x9 1 2=true/\Trem.cc.ok ⟨⟨x0,x1,x2⟩,⟨x3,x4,x5⟩,x6,x7,x8,x9⟩=true
 case neg =>
  have hd:sT b ⟨⟨x0,x1,x2⟩,⟨x3,x4,x5⟩,x6,x7,x8,x9⟩ x9=(b,1):=by
   unfold sT;rw[if_pos h1];split
   .rw[if_neg λh=>h2 ⟨by assumption,h⟩]
   .rfl
  rw[hd];have h3:(bF x9 1 2 && Trem.cc.ok ⟨⟨x0,x1,x2⟩,⟨x3,x4,x5⟩,x6,x7,x8,x9⟩)=false:=by simpa using h2
  rw[h3]at hC;simp[ia,LY,bW,hn,h1',hw,hC,gr];exact⟨_,lB⟩
 have h3:1<=x9/\x9<=2:=aQ.1 h2.1;rw[h2.1,h2.2,show max 0 (min x9 9)=x9 by omega]at hC;rw[show max 0 (min x9 9)=x9 by omega]at hw;have hm:max 0 (min x9 9)=x9:=by omega
 have l1:=Ri b.rules;have l2:(fM b.rules Trem.cc.enc).take (b.rules.length*10)=fM b.rules Trem.cc.enc:=af (by omega);have⟨r1,r2,r3⟩:b.rules.length*80<=room/\(b.rules.length+1)*80<=room/\80<=room:=by unfold room;omega
 by_cases hm0:b.rules=[]
 .simp[ia,LY,bW,hm,hw,hC,sT,h2,gr,hm0,ES,r3];exact EZ (b:=b) (b':={b with rules:=[⟨⟨x0,x1,x2⟩,⟨x3,x4,x5⟩,x6,x7,x8,x9⟩] }) 11 10 (λ_=>rfl) ae7 [⟨⟨x0,x1,x2⟩,⟨x3,x4,x5⟩,x6,x7,x8,x9⟩] 0 0 1 hJ rfl rfl rfl (by simp) (by simp[bW,hm0,nl])
 .have e1:=fI (f:=Trem.cc.enc) hm0;simp[ia,LY,bW,h1,h1',hm,hw,hC,sT,h2,gr,hm0,e1,l1,l2,r1,r2];exact EZ (b:=b) (b':={b with rules:=b.rules++[⟨⟨x0,x1,x2⟩,⟨x3,x4,x5⟩,x6,x7,x8,x9⟩] }) 11 10 (λ_=>rfl) ae7 (b.rules++[⟨⟨x0,x1,x2⟩,⟨x3,x4,x5⟩,x6,x7,x8,x9⟩]) 0 1 (b.rules.length+1) hJ rfl rfl (by simp) (by simp) (by simp[bW,IW])
theorem P3{A:List D}{sp:List Trem.oc}{tk:Int}(hl:sp.length<=1000000):∀(m j:Nat),j+m=sp.length ->
  WL T [2,3,6,10,11] false mr [(2,.bZ (sp.length*4) (fM sp Trem.oc.enc)),(3,.own 0 A),(6,.own 0 zS),(10,.own 0 [iI tk,.sl J.length 0 j 0 j 4]),(11,iI (j*4))] ([.cells j (fM (sp.take j) Trem.oc.enc)]::J)
   (λx e J'=>x=.exit 1/\get e 3=.own 0 A/\get e 6=.own 0 zS/\get e 10=.own 0 [iI tk,.sl J.length 0 sp.length 0 sp.length 4]/\J'=[.cells sp.length (fM sp Trem.oc.enc)]::J)
 |0,j,h=>by
  refine av mr.eq_1 ?_;obtain rfl:j=sp.length:=by omega
  simp
 |m+1,j,h=>by
  refine av mr.eq_1 ?_;have h1:j<sp.length:=by omega
  obtain⟨p,hp⟩:=gE h1;have d0:=re (f:=Trem.oc.enc) (w:=4) (λ_=>rfl) hp;have d1:=congrArg (List.drop 1) d0;have d2:=congrArg (List.drop 2) d0;have d3:=congrArg (List.drop 3) d0;simp[dn]at d1 d2 d3;have⟨h2,k1,k2,k3,n0,n1⟩:(j:Int)*4<(sp.length:Int)*4/\(j:Int)*4+1<(sp.length:Int)*4/\(j:Int)*4+2<(sp.length:Int)*4/\(j:Int)*4+3<(sp.length:Int)*4/\0<=(j:Int)*4/\0<=(j:Int)*4+1:=by omega
  have⟨n2,n3,t0,t1,t2,t3⟩:0<=(j:Int)*4+2/\0<=(j:Int)*4+3/\((j:Int)*4).toNat=j*4/\((j:Int)*4+1).toNat=j*4+1/\((j:Int)*4+2).toNat=j*4+2/\((j:Int)*4+3).toNat=j*4+3:=by omega
  have w1:=cm (n:=(j:Int)*4+1);have w2:=cm (n:=(j:Int)*4+2);have w3:=cm (n:=(j:Int)*4+3);have w4:=cm (n:=(j:Int)*4+4);have hl1:(sp.take j).length=j:=by simp;omega
  have hr:(j+1)*32<=room:=by unfold room;omega
  have ha:=Ig (sp.take j);rw[hl1]at ha;have ta:(fM (sp.take j) Trem.oc.enc).take (j*4)=fM (sp.take j) Trem.oc.enc:=af (by omega);have ih:=P3 (A:=A) (tk:=tk) hl m (j+1) (by omega);have htk:sp.take (j+1)=sp.take j++[p]:=by rw[List.take_add_one,hp];rfl
  rw[htk,show((j+1:Nat):Int)*4=(j:Int)*4+4 by omega]at ih;simp[h1,k1,k2,k3,n0,n1,n2,n3,t0,t1,t2,t3,d0,d1,d2,d3,w1,w2,w3,w4,hr,ha,ta];exact WL.to ih (by simp) (by simp) λx e J' hh=>hh
theorem Xx{b:Bk}{sp:List Trem.oc}(hl:sp.length<=1000000)(hb:b.lL.length<=1000000)(hJ:J≠[]):Cl 64 [.agg (bW b),.str LX,.bZ (sp.length*4) (fM sp Trem.oc.enc)] (gr (pC b sp)) J:=by
 refine ar ?_;have hn:=fS (f:=Trem.Ev.enc) b.lL;have hnp:=fS (f:=pE) b.az;by_cases h1:b.lL.length<200
 case neg =>
  have h1':(200:Int)<=b.lL.length:=by omega
  simp[ia,LX,bW,hn,h1',pC,h1,gr];exact⟨_,lB⟩
 have h1':¬(200:Int)<=b.lL.length:=by omega
 have hL:=P3 (J:=J) (A:=bW b) (sp:=sp) (tk:=b.az.length) hl sp.length 0 (by omega);simp[ia,LX,bW,hn,h1',hnp];refine WL.to hL (by simp[bW,zS]) (by simp) ?_;rintro x e J' ⟨rfl,g2,g4,g6,rfl⟩;have hC:=λJ=>WK (J:=J) (e:=⟨b.az.length,sp⟩) hl
 simp only[Trem.Ev.enc]at hC;have hf:=pM (f:=Trem.oc.enc) (w:=4) (λ_=>rfl) (λ_=>by simp[D.clean]) (l:=sp) (j:=0) (v:=sp.length) (bs:=[Abs.aF.cells sp.length (fM sp Trem.oc.enc)]) (J:=J) hJ rfl;cases h2:Trem.Ev.ok ⟨b.az.length,sp⟩
 .rw[h2]at hC;simp[g2,g4,g6,hf,hC,fT,eI,E6,AX,pC,h1,h2,gr];exact⟨_,lB⟩
 .rw[h2]at hC;have l1:=Ss b.lL;have l2:(fM b.lL Trem.Ev.enc).take (b.lL.length*2)=fM b.lL Trem.Ev.enc:=af (by omega);have⟨r1,r2,r3⟩:b.lL.length*32<=room/\(b.lL.length+1)*32<=room/\32<=room:=by unfold room;omega
  by_cases hm:b.lL=[]
  .simp[g2,g4,g6,hf,hC,bW,zS,pC,h2,gr,hm,ES,r3];exact EZ (b:=b) (b':=EX b ⟨b.az.length,sp⟩) 12 2 (λ_=>rfl) ae6 [⟨b.az.length,sp⟩] 1 0 1 hJ rfl rfl rfl (by simp) (by simp[bW,EX,hm,nl])
  .have e1:=fI (f:=Trem.Ev.enc) hm;simp[g2,g4,g6,hf,hC,bW,zS,pC,h1,h2,gr,hm,e1,l1,l2,r1,r2];exact EZ (b:=b) (b':=EX b ⟨b.az.length,sp⟩) 12 2 (λ_=>rfl) ae6 (b.lL++[⟨b.az.length,sp⟩]) 1 1 (b.lL.length+1) hJ rfl rfl (by simp) (by simp) (by simp[bW,EX,IW])
def E1:List UInt8:=[102,105,101,108,100]
def I6:List UInt8:=[116,97,98,108,101]
def LW:List UInt8:=[98,101,100]
def E2:List UInt8:=[119,101,108,108]
theorem cN{b:Bk}{X:List D}{e:Int}{L:Nat}{S:SK}{s:List Abs.aF}(h:bW b=X):∃s',cH L 16 (.cQ [.agg X,iI e]) (s::S)=(.cQ [.agg X,iI e],s'::S):=by
 subst h;exact⟨_,lB⟩
theorem Fs{b:Bk}{X:List D}{e:Int}{L:Nat}{S:SK}{s:List Abs.aF}(h:bW b=X):∃s',cH L 16 (.cQ [.agg X,iI e]) (s::S)=(.cQ [.agg (bW b),iI e],s'::S):=by
 subst h;exact⟨_,lB⟩
theorem uU(b:Bk):nl bA.enc b.aR.aw=.bu\/nl bA.enc b.aR.aw=lF b.aR.aw bA.enc/\b.aR.aw≠[]:=by
 by_cases h:b.aR.aw=[]
 .exact .inl (by simp[nl,h])
 .exact .inr ⟨by simp[nl,h],h⟩
theorem Xr{b:Bk}{x y z k:Int}(hw:b.aR.aw.length<=1000000)(hn:((b.aR.f.x=0/\b.aR.f.y=0)/\b.aR.f.z=0/\b.aR.f.k=0)->b.aR.aw=[]):
  Cl 63 [.agg (bW b),.str E1,.bZ 4 [iI x,iI y,iI z,iI k]] (gr (Go.Book.oq b x y z k)) J:=by
 refine ar ?_;have hf:=λJ=>Pn (J:=J) (f:=⟨x,y,z,k⟩)
 have r1:b.aR.aw.length*24<=room:=by unfold room;omega
 have l1:=wD b.aR.aw;by_cases h0:(b.aR.f.x=0/\b.aR.f.y=0)/\b.aR.f.z=0/\b.aR.f.k=0
 case neg =>
  have hq:¬b.aR.f.x=0\/¬b.aR.f.y=0\/¬b.aR.f.z=0\/¬b.aR.f.k=0:=by omega
  have hd:Go.Book.oq b x y z k=(b,8):=if_neg h0;rw[hd];rcases uU b with hE | ⟨hE,hne⟩
  .simp[ia,E1,bW,hE,hq,gr];exact cN (b:=b) (by simp[bW,hE])
  .simp[ia,E1,bW,hE,hne,r1,l1,hq,gr];exact cN (b:=b) (by simp[bW,hE])
 have hq:(¬b.aR.f.x=0\/¬b.aR.f.y=0\/¬b.aR.f.z=0\/¬b.aR.f.k=0)=False:=by simp;omega
 have hE:nl bA.enc b.aR.aw=.bu:=by simp[nl,hn h0]
 by_cases h1:(dF.mk x y z k).valid=true/\4<=k
 .have hd:Go.Book.oq b x y z k=({b with aR:={b.aR with f:=⟨x,y,z,k⟩ } },0):=by unfold Go.Book.oq;rw[if_pos h0,if_pos h1]
  rw[hd];rw[h1.1]at hf;simp[ia,E1,bW,hE,hq,gr,hf,show ¬k<4 by omega];exact cN (b:={b with aR:={b.aR with f:=⟨x,y,z,k⟩ } }) (by simp[bW,hE])
 have hd:Go.Book.oq b x y z k=(b,1):=by unfold Go.Book.oq;rw[if_pos h0,if_neg h1]
 rw[hd];cases h2:(dF.mk x y z k).valid
 .rw[h2]at hf;simp[ia,E1,bW,hE,hq,gr,hf];exact cN (b:=b) (by simp[bW,hE])
 .rw[h2]at hf;have h3:k<4:=Int.not_le.1 λh=>h1 ⟨h2,h⟩
  simp[ia,E1,bW,hE,hq,gr,hf,h3];exact cN (b:=b) (by simp[bW,hE])
def Rc(L:Nat):Nat->D
 |0 => .bu
 |j+1 => .sl L 0 j 0 (j+1) 5
def MB(t:List Rw):Nat->List Abs.aF
 |0=>[]
 |j+1=>[.cells j (fM (t.take (j+1)) Rw.enc)]
def Iv(b:Bk)(W:D):List D:=[iI b.aR.f.x,iI b.aR.f.y,iI b.aR.f.z,iI b.aR.f.k,W,iI b.aR.cG,iI b.aR.lift,iI b.aR.deep,.bu]
theorem P5{A:List D}{b:Bk}{t:List Rw}(hl:t.length<=1000000):∀(m j:Nat),j+m=t.length ->
  WL T [2,3,6,8,9] false oV [(2,.bZ (t.length*5) (fM t Rw.enc)),(3,.own 0 A),(6,.own 0 zS),(8,.own 0 (Iv b (Rc J.length j))),(9,iI (j*5))] (MB t j::J)
   (λx e J'=>x=.exit 1/\get e 3=.own 0 A/\get e 6=.own 0 zS/\get e 8=.own 0 (Iv b (Rc J.length t.length))/\J'=MB t t.length::J)
 |0,j,h=>by
  refine av oV.eq_1 ?_;obtain rfl:j=t.length:=by omega
  simp[Iv]
 |m+1,j,h=>by
  refine av oV.eq_1 ?_;have h1:j<t.length:=by omega
  obtain⟨p,hp⟩:=gE h1;have d0:=re (f:=Rw.enc) (w:=5) (λ_=>rfl) hp;have d1:=congrArg (List.drop 1) d0;have d2:=congrArg (List.drop 2) d0;have d3:=congrArg (List.drop 3) d0;have d4:=congrArg (List.drop 4) d0;simp[dn]at d1 d2 d3 d4;have⟨h2,k1,k2,k3,k4,n0⟩:(j:Int)*5<(t.length:Int)*5/\(j:Int)*5+1<(t.length:Int)*5/\(j:Int)*5+2<(t.length:Int)*5/\(j:Int)*5+3<(t.length:Int)*5/\(j:Int)*5+4<(t.length:Int)*5/\0<=(j:Int)*5:=by omega
  have⟨n1,n2,n3,n4,t0,t1⟩:0<=(j:Int)*5+1/\0<=(j:Int)*5+2/\0<=(j:Int)*5+3/\0<=(j:Int)*5+4/\((j:Int)*5).toNat=j*5/\((j:Int)*5+1).toNat=j*5+1:=by omega
  have⟨t2,t3,t4⟩:((j:Int)*5+2).toNat=j*5+2/\((j:Int)*5+3).toNat=j*5+3/\((j:Int)*5+4).toNat=j*5+4:=by omega
  have w1:=cm (n:=(j:Int)*5+1);have w2:=cm (n:=(j:Int)*5+2);have w3:=cm (n:=(j:Int)*5+3);have w4:=cm (n:=(j:Int)*5+4);have w5:=cm (n:=(j:Int)*5+5);have ih:=P5 (A:=A) (b:=b) hl m (j+1) (by omega);have htk:t.take (j+1)=t.take j++[p]:=by rw[List.take_add_one,hp];rfl
  rw[show((j+1:Nat):Int)*5=(j:Int)*5+5 by omega]at ih;have hl1:(t.take j).length=j:=by simp;omega
  have ha:=LV (t.take j);rw[hl1]at ha;have ta:(fM (t.take j) Rw.enc).take (j*5)=fM (t.take j) Rw.enc:=af (by omega);have hr:(j+1)*40<=room:=by unfold room;omega
  have eN:Rc J.length (j+1)=.sl J.length 0 j 0 (j+1) 5:=rfl;have eG:MB t (j+1)=[.cells j (fM (t.take j) Rw.enc++p.enc)]:=by simp[MB,htk]
  rw[eN,eG]at ih;by_cases hz:j=0
  .have e1:Rc J.length j=.bu:=by rw[hz];rfl
   have e2:MB t j=[]:=by rw[hz];rfl
   have e3:t.take j=[]:=by rw[hz];rfl
   rw[e3]at ih;simp[Iv,e1,e2,h1,k1,k2,k3,k4,n0,n1,n2,n3,n4,t0,t1,t2,t3,t4,d0,d1,d2,d3,d4,w1,w2,w3,w4,w5,show 40<=room by unfold room;omega];exact WL.to ih (by simp[Iv,hz]) (by simp[hz]) λx e J' hh=>by simpa[Iv]using hh
  .have e0:j-1+1=j:=by omega
   have e1:Rc J.length j=.sl J.length 0 (j-1) 0 j 5:=by rw[<- e0];rfl
   have e2:MB t j=[.cells (j-1) (fM (t.take j) Rw.enc)]:=by rw[<- e0];rfl
   simp[Iv,e1,e2,h1,k1,k2,k3,k4,n0,n1,n2,n3,n4,t0,t1,t2,t3,t4,d0,d1,d2,d3,d4,w1,w2,w3,w4,w5,hr,ha,ta,e0];exact WL.to ih (by simp[Iv]) (by simp) λx e J' hh=>by simpa[Iv]using hh
theorem Px:Cl 89 [.bu] (.bool false) J:=by
 refine ar ?_;simp;refine av kO.eq_1 ?_;simp[]
theorem Xy{b:Bk}{t:List Rw}(hl:t.length<=1000000)(hw:b.aR.aw.length<=1000000)(hn:b.aR.c9=[]->b.aR.aw=[])(hJ:J≠[]):
  Cl 63 [.agg (bW b),.str I6,.bZ (t.length*5) (fM t Rw.enc)] (gr (mc b t)) J:=by
 refine ar ?_;have r1:b.aR.aw.length*24<=room:=by unfold room;omega
 have l1:=wD b.aR.aw;have hnt:=fS (f:=Rw.enc) b.aR.c9;by_cases h0:b.aR.c9=[]
 case neg =>
  have hd:mc b t=(b,8):=if_neg h0;have hq:0<b.aR.c9.length:=aH.2 h0;rw[hd];rcases uU b with hE | ⟨hE,hne⟩
  .simp[ia,I6,bW,hE,hq,gr,hnt];exact cN (b:=b) (by simp[bW,hE])
  .simp[ia,I6,bW,hE,hne,r1,l1,hq,gr,hnt];exact cN (b:=b) (by simp[bW,hE])
 have hE:nl bA.enc b.aR.aw=.bu:=by simp[nl,hn h0]
 have hT:nl Rw.enc b.aR.c9=.bu:=by simp[nl,h0]
 have hL:=P5 (J:=J) (A:=bW b) (b:=b) hl t.length 0 (by omega);simp[ia,I6,bW,hE,hT];refine WL.to hL (by simp[bW,hE,hT,Iv,zS,Rc]) (by simp[MB]) ?_;rintro x e J' ⟨rfl,g3,g6,g8,rfl⟩;by_cases hz:t=[]
 .have hd:mc b t=(b,1):=by subst hz;simp[mc,h0,fN,bF]
  rw[hd];have e1:Rc J.length t.length=.bu:=by rw[hz];rfl
  have e2:MB t t.length=[]:=by rw[hz];rfl
  rw[e1]at g8;simp[g3,g6,g8,e2,Iv,Px,fT,eI,E6,AX,gr];exact cN (b:=b) rfl
 .have e0:t.length-1+1=t.length:=by have:=aH.2 hz;omega
  have e1:Rc J.length t.length=.sl J.length 0 (t.length-1) 0 t.length 5:=by rw[<- e0];rfl
  have e2:MB t t.length=[.cells (t.length-1) (fM t Rw.enc)]:=by rw[<- e0];simp[MB,e0]
  have hf:=pM (f:=Rw.enc) (w:=5) (λ_=>rfl) (λ_=>by simp[D.clean]) (l:=t) (j:=0) (v:=t.length-1) (bs:=[Abs.aF.cells (t.length-1) (fM t Rw.enc)]) (J:=J) hJ rfl;have hC:=λJ=>Pw (J:=J) (t:=t) (by omega)
  rw[e1]at g8;cases h2:fN t
  .have hd:mc b t=(b,1):=by simp[mc,h0,h2]
   rw[hd];rw[h2]at hC;simp[g3,g6,g8,e2,hf,Iv,hC,fT,eI,E6,AX,gr];exact cN (b:=b) rfl
  .have hd:mc b t=(Jd b t,0):=by simp[mc,h0,h2]
   rw[hd];rw[h2]at hC;simp[g3,g6,g8,e2,hf,Iv,hC,bW,hE,hT,zS,gr];exact Fs (b:=Jd b t) (by simp[bW,Jd,hE,fI hz])
theorem aeq{b:Bk}{x y z:Int}(ht:b.aR.c9.length<=1000000)(hw:b.aR.aw.length<=1000000)(hn:b.ready=false->b.aR.aw=[])(hJ:J≠[]):
  Cl 63 [.agg (bW b),.str LW,.bZ 3 [iI x,iI y,iI z]] (gr (yG b x y z)) J:=by
 refine ar ?_;have r1:b.aR.aw.length*24<=room:=by unfold room;omega
 have l1:=wD b.aR.aw;have hnt:=fS (f:=Rw.enc) b.aR.c9;by_cases h0:((b.aR.f.x=0/\b.aR.f.y=0)/\b.aR.f.z=0/\b.aR.f.k=0)\/b.aR.c9=[]\/b.ready=true
 .have hd:yG b x y z=(b,8):=if_pos h0;rw[hd];by_cases hq1:b.aR.f.x=0/\b.aR.f.y=0/\b.aR.f.z=0/\b.aR.f.k=0
  .rcases uU b with hE | ⟨hE,hne⟩
   .simp[ia,LW,bW,hE,hq1,gr];exact cN (b:=b) (by simp[bW,hE,hq1])
   .simp[ia,LW,bW,hE,hne,r1,l1,hq1,gr];exact cN (b:=b) (by simp[bW,hE,hq1])
  .have hq:(b.aR.f.x=0->b.aR.f.y=0->b.aR.f.z=0->¬b.aR.f.k=0)=True:=eq_true λh1 h2 h3 h4=>hq1 ⟨h1,h2,h3,h4⟩
   have hq3:(b.aR.f.x=0/\b.aR.f.y=0/\b.aR.f.z=0/\b.aR.f.k=0)=False:=eq_false hq1;by_cases hq2:b.aR.c9=[]
   .rcases uU b with hE | ⟨hE,hne⟩
    .simp[ia,LW,bW,hE,hq,hq3,hq2,gr];exact cN (b:=b) (by simp[bW,hE,hq2])
    .simp[ia,LW,bW,hE,hne,r1,l1,hq,hq3,hq2,gr];exact cN (b:=b) (by simp[bW,hE,hq2])
   .have hr:b.ready=true:=by
     rcases h0 with h | h | h
     .exact absurd ⟨h.1.1,h.1.2,h.2.1,h.2.2⟩ hq1
     .exact absurd h hq2
     .exact h
    have hb:((b.aR.c9.length:Int) == 0)=false:=by have:=aH.2 hq2;rw[beq_eq_false_iff_ne];omega
    rcases uU b with hE | ⟨hE,hne⟩
    .simp[ia,LW,bW,hE,hq,hq3,hnt,hb,hr,gr];exact cN (b:=b) (by simp[bW,hE,hr])
    .simp[ia,LW,bW,hE,hne,r1,l1,hq,hq3,hnt,hb,hr,gr];exact cN (b:=b) (by simp[bW,hE,hr])
 have hq:(b.aR.f.x=0->b.aR.f.y=0->b.aR.f.z=0->¬b.aR.f.k=0)=True:=eq_true λh1 h2 h3 h4=>h0 (.inl ⟨⟨h1,h2⟩,h3,h4⟩)
 have hq3:(b.aR.f.x=0/\b.aR.f.y=0/\b.aR.f.z=0/\b.aR.f.k=0)=False:=eq_false λh=>h0 (.inl ⟨⟨h.1,h.2.1⟩,h.2.2.1,h.2.2.2⟩)
 have hb:((b.aR.c9.length:Int) == 0)=false:=by have:=aH.2 (show b.aR.c9≠[]from λh=>h0 (.inr (.inl h)));rw[beq_eq_false_iff_ne];omega
 have hq2:b.aR.c9≠[]:=λh=>h0 (.inr (.inl h))
 have hr:b.ready=false:=by
  cases h:b.ready with
  |false=>rfl
  |true=>exact absurd (.inr (.inr h)) h0
 have hw0:=hn hr;have hE:nl bA.enc b.aR.aw=.bu:=by simp[nl,hw0]
 have hT:=fI (f:=Rw.enc) hq2;have hC:=λJ=>Tt (J:=J) (b:=(DX b x y z).aR) (wq:=.bu) (show b.aR.c9.length<=_ by omega) (show b.aR.aw.length<=_ by omega) (by simp[DX,hw0])
 simp only[DX]at hC;cases hv:(DX b x y z).aR.valid
 .have hd:yG b x y z=(b,1):=by unfold yG;rw[if_neg h0,hv];rfl
  rw[hd];simp only[DX]at hv;rw[hv]at hC;simp[ia,LW,bW,hE,hT,hq,hq3,hb,hr,gr,hC];exact cN (b:=b) (by simp[bW,hE,hT,hr])
 .have hd:yG b x y z=(DX b x y z,0):=by unfold yG;rw[if_neg h0,if_pos hv]
  rw[hd];simp only[DX]at hv;rw[hv]at hC;simp[ia,LW,bW,hE,hT,hq,hq3,hb,hr,gr,hC];exact Fs (b:=DX b x y z) (by simp[bW,DX,hE,hT])
theorem aba{b:Bk}{x y z:Int}(ht:b.aR.c9.length<=1000000)(hw:b.aR.aw.length<=1000000)(hn:b.ready=true->b.aR.c9≠[])(hJ:J≠[]):
  Cl 63 [.agg (bW b),.str E2,.bZ 3 [iI x,iI y,iI z]] (gr (ua b x y z)) J:=by
 refine pB P9 Ap.eq_1 rfl ?_;have⟨r1,r2,r3⟩:b.aR.aw.length*24<=room/\(b.aR.aw.length+1)*24<=room/\24<=room:=by unfold room;omega
 have l1:=wD b.aR.aw;have l2:(fM b.aR.aw bA.enc).take (b.aR.aw.length*3)=fM b.aR.aw bA.enc:=af (by omega);have hnm:=fS (f:=dU.enc) b.aj;by_cases h0:b.ready=true/\b.aj=[]
 case neg =>
  have hd:ua b x y z=(b,8):=if_neg h0;rw[hd];cases hr:b.ready
  .rcases uU b with hE | ⟨hE,hne⟩
   .simp[ia,E2,bW,hE,hr,gr];exact cN (b:=b) (by simp[bW,hE,hr])
   .simp[ia,E2,bW,hE,hne,r1,l1,hr,gr];exact cN (b:=b) (by simp[bW,hE,hr])
  .have hq:0<b.aj.length:=aH.2 λh=>h0 ⟨hr,h⟩
   rcases uU b with hE | ⟨hE,hne⟩
   .simp[ia,E2,bW,hE,hr,hnm,hq,gr];exact cN (b:=b) (by simp[bW,hE,hr])
   .simp[ia,E2,bW,hE,hne,r1,l1,hr,hnm,hq,gr];exact cN (b:=b) (by simp[bW,hE,hr])
 obtain⟨hr,hm⟩:=h0;have hT:=fI (f:=Rw.enc) (hn hr)
 try simp only[lF]at hT
 have hd0:ua b x y z=if(om b x y z).aR.valid=true then(om b x y z,0)else(b,1):=if_pos ⟨hr,hm⟩
 have hC:=λJ=>ad9 (J:=J) (b:=(om b x y z).aR) (show b.aR.c9.length<=_ by omega) (by simp[om];omega)
 try simp only[lF,Cl,bL]at hC
 simp only[om,aV,aE,bd,o7,di,ot,cM,bA.enc,cz]at hC;have hq:¬0<b.aj.length:=by rw[hm];simp
 have hTc:(lF b.aR.c9 Rw.enc).clean=true:=by simp[D.clean,DE]
 try simp only[lF]at hTc
 have clB:∀x:bA,D.aW x.enc=true:=λ_=>by simp[D.clean]
 cases hv:(om b x y z).aR.valid
 .rw[hd0,hv];simp only[om]at hv;rw[hv]at hC;rcases uU b with hE | ⟨hE,hne⟩
  .have hw0:b.aR.aw=[]:=by unfold nl at hE;split at hE<;>first | assumption | cases hE
   have hf:=pM (f:=bA.enc) (w:=3) (λ_=>rfl) clB (l:=[bA.mk x y z]) (j:=0) (v:=0) (bs:=[.cells 0 [iI x,iI y,iI z]]) (J:=J) hJ rfl;simp[hw0]at hC;simp at hf;simp[ia,E2,bW,hE,hT,hr,hm,r3,hTc,hf,hC,gr];exact cN (b:=b) (by simp[bW,hE,hT,hr,hm])
  .have hf:=pM (f:=bA.enc) (w:=3) (λ_=>rfl) clB (l:=b.aR.aw++[bA.mk x y z]) (j:=0) (v:=1) (bs:=[.cells 1 (fM (b.aR.aw++[bA.mk x y z]) bA.enc)]) (J:=J) hJ rfl;simp at hf;simp[ia,E2,bW,hE,hT,hne,hr,hm,r1,r2,l1,l2,hTc,hf,hC,gr];exact cN (b:=b) (by simp[bW,hE,hT,hr,hm])
 .rw[hd0,hv];simp only[om]at hv;rw[hv]at hC;rcases uU b with hE | ⟨hE,hne⟩
  .have hw0:b.aR.aw=[]:=by unfold nl at hE;split at hE<;>first | assumption | cases hE
   have hf:=pM (f:=bA.enc) (w:=3) (λ_=>rfl) clB (l:=[bA.mk x y z]) (j:=0) (v:=0) (bs:=[.cells 0 [iI x,iI y,iI z]]) (J:=J) hJ rfl;simp[hw0]at hC;simp at hf;simp[ia,E2,bW,hE,hT,hr,hm,r3,hTc,hf,hC,gr];exact Fs (b:=om b x y z) (by simp[bW,om,nl,hr,hm,hw0,hn hr])
  .have hf:=pM (f:=bA.enc) (w:=3) (λ_=>rfl) clB (l:=b.aR.aw++[bA.mk x y z]) (j:=0) (v:=1) (bs:=[.cells 1 (fM (b.aR.aw++[bA.mk x y z]) bA.enc)]) (J:=J) hJ rfl;simp at hf;simp[ia,E2,bW,hE,hT,hne,hr,hm,r1,r2,l1,l2,hTc,hf,hC,gr];exact Fs (b:=om b x y z) (by simp[bW,om,hT,IW,hr,hm])
theorem K2:∀{a c:List D},D.aW (a++c)=(D.aW a && D.aW c)
 |[],_=>rfl
 |d::a,c=>by simp only[cC,D.aW,K2 (a:=a),Bool.and_assoc]
theorem UP{b b':Bk}{e:Int}{ms:List dU}{ws:List DW}(v n n':Nat){X cs cs':List D}{bs:List Abs.aF}(hJ:J≠[])(h0:bs[0]?=some (.cells v cs))(h1:bs[1]?=some (.cells v cs'))(hX:X=(bW b).take 9 ++ .sl J.length 0 v 0 n 4::(((bW b).drop 10).take 9++[.sl J.length 1 v 0 n' 4]))
  (hn:ms.length=n) (hn':ws.length=n') (hcs:fM ms dU.enc=cs) (hcs':fM ws DW.enc=cs') (hb:bW b'=(bW b).take 9 ++ .bZ n cs::(((bW b).drop 10).take 9++[.bZ n' cs'])):
  ∃s,cH (J.length-1) 16 (.cQ [.agg X,iI e]) (bs::J)=(.cQ [.agg (bW b'),iI e],s::J):=by
 subst hX hn hn' hcs hcs';have c1:=(wE (n:=9) (n8 (b:=b))).1;have c2:=(wE (n:=9) (wE (n:=10) (n8 (b:=b))).2).1;have h3:D.aW ((bW b).take 9 ++ .sl J.length 0 v 0 ms.length 4::(((bW b).drop 10).take 9++[.sl J.length 1 v 0 ws.length 4]))=false:=by simp[K2,D.clean]
 have k1:=gG (n:=14) (f:=dU.enc) (w:=4) (l:=ms) (j:=0) (v:=v) (bs:=bs) (by decide) (λ_=>rfl) clE hJ h0;have k2:=gG (n:=14) (f:=DW.enc) (w:=4) (l:=ws) (j:=1) (v:=v) (bs:=bs.set 0 .dead) (by decide) (λ_=>rfl) afa hJ (by rw[List.getElem?_set_ne (by decide)];exact h1);rw[pG (by simp[D.clean,h3]) (by omega),hb];simp only[ff,gj];rw[vW h3 (by omega),Ew (by omega) c1,k1];simp only;rw[Ew (by omega) c2,k2];simp only[gj];rw[de rfl (by omega)];exact⟨_,rfl⟩
theorem P0{b:Bk}{nm:List UInt8}{l:D}(hc1:l.calm=l)(hl:b.aj.length<=1000000):∀(k i:Nat),i+k=b.aj.length ->
  WL T [1,2,3,6,8] false nP [(1,.str nm),(2,l),(3,.own 0 (bW b)),(6,.own 0 zS),(8,iI i)] J
   (λx e J'=>J'=J/\if mK (b.aj.drop i) (λe=>e.m.name == nm)=true then x=.ret/\get e 6=.own 0 (bW b)/\get e 7=iI 6 else x=.exit 0/\get e 1=.str nm/\get e 2=l/\get e 3=.own 0 (bW b)/\get e 6=.own 0 zS)
 |0,i,hi=>by
  refine av nP.eq_1 ?_;obtain rfl:i=b.aj.length:=by omega
  have h2:b.aj.drop b.aj.length=[]:=an (by omega);have hn:=fS (f:=dU.enc) b.aj;rw[h2];simp[bW,hn,mK,hc1]
 |k+1,i,hi=>by
  refine av nP.eq_1 ?_;have⟨h1,h1'⟩:i<b.aj.length/\(i:Int)<b.aj.length:=by omega
  obtain⟨e,he⟩:=gE h1;have hne:b.aj≠[]:=λh=>by rw[h]at h1;simp at h1
  have h2:=Ot he;simp only[dU.enc]at h2;have h4:=bO h1;have hn:=fI (f:=dU.enc) hne;have ih:=P0 (nm:=nm) hc1 hl k (i+1) (by omega);rw[bz he,show mK (e::b.aj.drop (i+1)) (λe=>e.m.name == nm)=((e.m.name == nm) || mK (b.aj.drop (i+1)) λe=>e.m.name == nm)from rfl];cases hc:e.m.name == nm
  .simp[ia,bW,hn,h1',h2,h4,hc,hc1];exact WL.to ih (by simp[bW,hn]) rfl λx e J hh=>by simpa[bW,hn,hc]using hh
  .simp[ia,bW,hn,h1',h2,hc,zS]
theorem Xw{b:Bk}{m:cg}(hb:b.ready=true->b.aR.valid=true)(hl:b.aj.length<=1000000)(hw:b.eg.length=b.aj.length)(hn:m.name.length<=1000000000)(hv:m.dh.length<=1000000000)(hJ:J≠[]):
  Cl 65 [.agg (bW b),.str m.name,lF m.dh aO] (gr (rp b m)) J:=by
 refine ar ?_;have hnp:=fS (f:=pE) b.az;have hnm:=fS (f:=dU.enc) b.aj;by_cases h0:b.ready=true/\b.az=[]
 case neg =>
  have hd:rp b m=(b,8):=if_neg h0;rw[hd];cases hr:b.ready
  .simp[bW,hr,gr];exact cN (b:=b) (by simp[bW,hr])
  .have hq:0<b.az.length:=aH.2 λh=>h0 ⟨hr,h⟩
   simp[bW,hr,hnp,hq,gr];exact cN (b:=b) (by simp[bW,hr])
 have hd:rp b m=if(mK b.aj λe=>e.m.name == m.name)=true then(b,6)else if b.aj.length<40 then(if Bd b.aR m=true then(zE b m,0)else(b,1))else(b,3):=by unfold rp;rw[if_pos h0]
 rw[hd];obtain⟨hr,hp⟩:=h0;have hq:¬0<b.az.length:=by rw[hp];simp
 have hL:=P0 (J:=[]::J) (b:=b) (nm:=m.name) (l:=lF m.dh aO) rfl hl b.aj.length 0 (by omega);simp[bW,hr,hnp,hq];refine WL.to hL (by simp[bW,zS,hr]) rfl ?_;rintro x e J' ⟨rfl,h⟩;rw[aC]at h;cases hc:mK b.aj λe=>e.m.name == m.name
 case true =>
  rw[hc]at h;simp at h;obtain⟨rfl,g6,g7⟩:=h;simp[g6,g7,gr,fT,eI];exact cN (b:=b) rfl
 rw[hc]at h;simp at h;obtain⟨rfl,g1,g2,g3,g6⟩:=h;by_cases h1:b.aj.length<40
 case neg =>
  simp[g1,g2,g3,g6,bW,zS,hnm,show(40:Int)<=b.aj.length by omega,h1,gr];exact cN (b:=b) rfl
 have h1':¬(40:Int)<=b.aj.length:=by omega
 have hbv:=Bv.of (hb hr);have ht:b.aR.c9≠[]:=λh=>by have:=hbv.c9;rw[h]at this;simp[fN,bF]at this
 have hT:=fI (f:=Rw.enc) ht;have hC:=λJ=>WN (J:=J) (b:=b.aR) (m:=m) (wq:=nl bA.enc b.aR.aw) hbv (by omega) (by omega) kI
 cases h2:fits b.aR m
 .have hBd:Bd b.aR m=false:=by simp[Bd,h2]
  rw[h2]at hC;simp[g1,g2,g3,g6,bW,zS,hnm,h1',h1,hT,hC,hBd,gr];exact cN (b:=b) (by simp[bW,hT])
 .have hBd:Bd b.aR m=true:=by simp[Bd,h2,hb hr]
  rw[h2]at hC;have l1:=yn b.aj;have l2:=Io b.eg;have l3:(fM b.aj dU.enc).take (b.aj.length*4)=fM b.aj dU.enc:=af (by omega);have l4:(fM b.eg DW.enc).take (b.eg.length*4)=fM b.eg DW.enc:=af (by omega);have⟨r1,r2,r3,r4,r5,r6⟩:b.aj.length*56<=room/\(b.aj.length+1)*56<=room/\b.eg.length*32<=room/\(b.eg.length+1)*32<=room/\56<=room/\32<=room:=by unfold room;omega
  by_cases hm:b.aj=[]
  .have hw0:b.eg=[]:=bw.1 (by rw[hw,hm];rfl);simp[g1,g2,g3,g6,bW,zS,hT,hC,hBd,hm,hw0,ES,r5,r6,gr];exact UP (b:=b) (b':=zE b m) (ms:=[⟨m,true,0⟩]) (ws:=[⟨0,0,0,0⟩]) 0 1 1 hJ rfl rfl (by simp[bW,hT]) rfl rfl (by simp) (by simp) (by simp[bW,zE,hm,hw0,nl,ht])
  .have hwn:b.eg≠[]:=λh=>by rw[h]at hw;exact hm (bw.1 hw.symm)
   have e1:=fI (f:=dU.enc) hm;have e2:=fI (f:=DW.enc) hwn;simp[g1,g2,g3,g6,bW,zS,h1',h1,hT,hC,hBd,hm,hwn,e1,e2,l1,l2,l3,l4,r1,r2,r3,r4,gr];exact UP (b:=b) (b':=zE b m) (ms:=b.aj++[⟨m,true,0⟩]) (ws:=b.eg++[⟨0,0,0,0⟩]) 1 (b.aj.length+1) (b.eg.length+1) hJ rfl rfl (by simp[bW,hT]) (by simp) (by simp) (by simp) (by simp) (by simp[bW,zE,hT,IW])
theorem XM{f:dF}{m:cg}{x:rm}(hm:Fm f m)(hx:Mev f x):∀(k i:Nat) (acc:Int),i+k=x.bl.length -> -(i*100000000)<=acc/\acc<=i*100000000 ->
  WL T [2,3,4,5,6,11,12] false nC [(2,iI x.kind),(3,lF x.bl aO),(4,lF x.wt aO),(5,.aZ (fL f)),(6,.aZ (mL m)),(11,iI acc),(12,iI i)] J
   (λx' e J'=>J'=J/\x'=.exit 0/\get e 11=iI (RF m.dh (x.kind*f.size) acc (x.bl.drop i) (x.wt.drop i))):=by
 intro k;induction k with
 |zero =>
  intro i acc hi ha;refine av nC.eq_1 ?_;have h1:¬i<x.bl.length:=by omega
  have h2:x.bl.drop i=[]:=an (by omega);simp[h1,h2,RF]
 |succ k ih0 =>
  intro i acc hi ha;refine av nC.eq_1 ?_;have h1:i<x.bl.length:=by omega
  have hlen:=hx.len;have h1':i<x.wt.length:=by omega
  obtain⟨b,hb⟩:=gE h1;obtain⟨w,hw⟩:=gE h1';obtain⟨q1,q2⟩:=Cs hm.fv;obtain⟨z1,z2,z3,z4,z5⟩:=dF.n9.1 hm.fv;obtain⟨s1,s2,s3⟩:=Md hx.acz hb hw;have hl64:=Jc hx.len hx.acz (by omega);have h4:=bO h1;have h5:=bz hb;have h6:=bz hw;have h2:=gw hb;have h3:=gw hw;have k1:=hx.kind;have k2:0<=x.kind*f.size/\x.kind*f.size+f.size<=f.k*f.size:=by
   refine⟨bB k1.1 (by omega),?_⟩;have:=dS (show x.kind+1<=f.k by omega) (show 0<=f.size by omega);rw[Int.add_mul]at this;omega
  have hvl:=hm.len;obtain⟨j,hj⟩:∃j:Nat,x.kind*f.size+b=j:=⟨(x.kind*f.size+b).toNat,by omega⟩;have hj1:j<m.dh.length:=by omega
  obtain⟨v,hv⟩:=gE hj1;have hvb:=hm.ok v (ai hv);have h7:=gw hv;have hB:=λJ=>pR (J:=J) hm.fv
  have b1:=SN (a:=w) (b:=v) (A:=1000) (B:=100000) (by omega) hvb (by omega);have w1:=cm (n:=x.kind*f.size);have w2:=cm (n:=(j:Int));have w3:=cm (n:=w*v);have w4:=cm (n:=acc+w*v);have ih:=ih0 (i+1) (acc+w*v) (by omega) (by omega);rw[h5,h6,RF,hj];simp only[Int.toNat_natCast];simp[h1,h1',h2,h3,h4,hB,w1,w2,w3,w4,hj,hj1,h7];exact WL.to ih (by simp) rfl λx e J hh=>by simpa[hv]using hh
theorem aef{f:dF}{m:cg}{x:rm}(hm:Fm f m)(hx:Mev f x):Cl 96 [.agg (fL f),.agg (mL m),.agg x.enc] (iI (zZ f m x)) J:=by
 have hT:∀J,Cl 138 [.agg (fL f),.agg (mL m),iI x.kind,lF x.bl aO,lF x.wt aO] (iI (zZ f m x)) J:=by
  intro J;refine ar ?_;simp[];refine WL.to (XM (J:=[]::J) hm hx x.bl.length 0 0 (by omega) (by simp)) (by simp) rfl ?_;rintro x' e J' ⟨rfl,rfl,g⟩;simp[g,zZ]
 refine ar ?_;simp only[rm.enc];simp[hT]
theorem XY{ps:List (Int×Int)}(hps:ps.length<=1000000){nm:List UInt8}{k lo hi:Int}{C hd:List D}{atv:Int}(h3':hd.length=3):∀(m j:Nat),j+m=ps.length ->
  WL T [1,3,4,8,10,11] false pZ [(1,.int .i64 atv),(3,.bZ (ps.length*2+3) (hd++fM ps tS)),(4,.aZ C),(8,.own 0 zS),(10,.own 0 [.str nm,.int .i64 k,.sl J.length 0 j 0 j 1,.sl J.length 1 j 0 j 1,.int .i64 lo,.int .i64 hi]),(11,.int .i64 (j*2+3))]
   ([.cells j (fM ((ps.take j).map (·.1)) aO),.cells j (fM ((ps.take j).map (·.2)) aO)]::J)
   (λx e J'=>x=.exit 0/\get e 1=.int .i64 atv/\get e 3=.bZ (ps.length*2+3) (hd++fM ps tS)/\get e 4=.aZ C/\get e 8=.own 0 zS/\get e 10=.own 0 [.str nm,.int .i64 k,.sl J.length 0 ps.length 0 ps.length 1,.sl J.length 1 ps.length 0 ps.length 1,.int .i64 lo,.int .i64 hi] /\
    J'=[.cells ps.length (fM (ps.map (·.1)) aO),.cells ps.length (fM (ps.map (·.2)) aO)]::J)
 |0,j,h=>by
  refine av pZ.eq_1 ?_;obtain rfl:j=ps.length:=by omega
  simp[-List.map_take]
 |m+1,j,h=>by
  refine av pZ.eq_1 ?_;have⟨h1,h2,h3,h0,h0'⟩:j<ps.length/\(j:Int)*2+3<(ps.length:Int)*2+3/\(j:Int)*2+3+1<(ps.length:Int)*2+3/\0<=(j:Int)*2+3/\0<=(j:Int)*2+3+1:=by omega
  obtain⟨p,hp⟩:=gE h1;have d0:=re (f:=tS) (w:=2) (λ_=>rfl) hp;have d1:(hd++fM ps tS).drop (j*2+3)=.int .i64 p.1::.int .i64 p.2::(fM ps tS).drop (j*2+2):=by
   rw[List.drop_append,an (by omega),h3',show j*2+3-3=j*2 by omega,d0];rfl
  have d2:(hd++fM ps tS).drop (j*2+3+1)=.int .i64 p.2::(fM ps tS).drop (j*2+2):=by
   have:=congrArg (List.drop 1) d1;simpa[rC,dn]using this
  have⟨t1,t2⟩:((j:Int)*2+3).toNat=j*2+3/\((j:Int)*2+3+1).toNat=j*2+3+1:=by omega
  have w1:=cm (n:=(j:Int)*2+3+1);have w2:=cm (n:=(j:Int)*2+3+2);have hl:(ps.take j).length=j:=by simp[];omega
  have hr:(j+1)*8<=room:=by unfold room;omega
  have ha:=qY ((ps.take j).map (·.1));have hb:=qY ((ps.take j).map (·.2));simp only[bH,hl]at ha hb;have ta:(fM ((ps.take j).map (·.1)) aO).take j=fM ((ps.take j).map (·.1)) aO:=af (by omega);have tb:(fM ((ps.take j).map (·.2)) aO).take j=fM ((ps.take j).map (·.2)) aO:=af (by omega);have ih:=XY hps (nm:=nm) (k:=k) (lo:=lo) (hi:=hi) (C:=C) (atv:=atv) h3' m (j+1) (by omega);have htk:ps.take (j+1)=ps.take j++[p]:=by rw[List.take_add_one,hp];rfl
  rw[htk,show((j+1:Nat):Int)*2+3=(j:Int)*2+3+2 by omega]at ih;simp[-List.map_take,h0,h0',h2,h3,t1,t2,d1,d2,w1,w2,hr,ha,hb,ta,tb];exact WL.to ih (by simp[]) (by simp[]) λx e J' hh=>hh
def iY(vs:List Int)(i m:Nat):List D:=fM (vs.take i++List.replicate m 0) aO
theorem Ui{vs:List Int}{i m:Nat}{v:Int}(h:i+(m+1)=vs.length)(hv:vs[i]?=some v):
  (iY vs i (m+1)).length=vs.length/\(iY vs i (m+1)).take i++(iI v::(iY vs i (m+1)).drop (i+1))=iY vs (i+1) m:=by
 have hlen:(vs.take i++List.replicate (m+1) (0:Int)).length=vs.length:=by simp;omega
 have f1:=bQ (f:=aO) (w:=1) (λ_=>rfl) (vs.take i++List.replicate (m+1) (0:Int));have s1:∀{o:List Int} {i:Nat},i<o.length->(fM o aO).take i++(iI v::(fM o aO).drop (i+1))=fM (o.set i v) aO:=λh=>Go.Trem.abT h v
 have s1:=s1 (o:=vs.take i++List.replicate (m+1) (0:Int)) (i:=i) (by rw[hlen];omega);have s2:=ZY (acc:=vs.take i) (k:=m) (v:=v);rw[show(vs.take i).length=i by simp;omega]at s2;rw[s2]at s1;unfold iY;refine⟨by omega,?_⟩;rw[s1,List.take_add_one,hv];rfl
theorem Nc{vs:List Int}:iY vs 0 vs.length=fM (List.range vs.length) λ_=>[iI 0]:=by
 rw[show(fM (List.range vs.length) λ_=>[iI 0])=fM (List.replicate vs.length (0:Int)) aO from Go.Trem.Wv _];simp[iY]
theorem Qq{vs:List Int}:iY vs vs.length 0=fM vs aO:=by simp[iY]
theorem PZ{b:Bk}{x:rm}{atv:Int}{L:D}(hL:L.calm=L)(hl:b.aj.length<=1000000)(hms:∀e∈b.aj,Fm b.aR.f e.m)(hx:Mev b.aR.f x):∀(m i:Nat),i+m=b.aj.length ->
  WL T [1,3,4,8,10,13,14] false oU [(1,iI atv),(3,L),(4,.aZ (bW b)),(8,.own 0 zS),(10,.own 0 x.enc),(13,.sl J.length 2 0 0 b.aj.length 1),(14,iI i)]
   ([.dead,.dead,.cells 0 (iY (b.aj.map λe=>zZ b.aR.f e.m x) i m)]::J)
   (λy e J'=>y=.exit 2/\get e 1=iI atv/\get e 3=L/\get e 4=.aZ (bW b)/\get e 8=.own 0 zS/\get e 13=.sl J.length 2 0 0 b.aj.length 1/\J'=[.dead,.dead,.cells 0 (fM (b.aj.map λe=>zZ b.aR.f e.m x) aO)]::J)
 |0,i,hi=>by
  refine av oU.eq_1 ?_;obtain rfl:i=b.aj.length:=by omega
  have hn:=fS (f:=dU.enc) b.aj;have hf:=Qq (vs:=b.aj.map λe=>zZ b.aR.f e.m x);rw[bH]at hf;rw[hf];simp[bW,hn,hL]
 |m+1,i,hi=>by
  refine av oU.eq_1 ?_;have⟨h1,h1'⟩:i<b.aj.length/\(i:Int)<b.aj.length:=by omega
  obtain⟨e,he⟩:=gE h1;have hne:b.aj≠[]:=λh=>by rw[h]at h1;simp at h1
  have h2:=Ot he;simp only[dU.enc]at h2;have h4:=bO h1;have hn:=fI (f:=dU.enc) hne;have ih:=PZ hL hl hms hx (atv:=atv) m (i+1) (by omega);have hS:=λJ=>aef (J:=J) (hms e (ai he)) hx
  obtain⟨f1,f2⟩:=Ui (vs:=b.aj.map λe=>zZ b.aR.f e.m x) (i:=i) (m:=m) (v:=zZ b.aR.f e.m x) (by simp;omega) (by simp[he]);rw[bH]at f1;have hi1:i+1<=b.aj.length:=by omega
  simp only[rm.enc]at hS ih ⊢;simp[bW,hn,h1',h2,h4,hS,hL,f1,f2,hi1];exact WL.to ih (by simp[bW,hn]) (by simp) λx e J hh=>by simpa[bW,hn]using hh
theorem aet{b:Bk}{nm:List UInt8}{k lo hi:Int}{ps:List (Int×Int)}(hps:ps.length<=1000000)(hnm:nm.length<=1000000000)(hw:b.eg.length=b.aj.length)(hml:b.aj.length<=40)(hf:b.aj≠[]->b.aR.f.valid=true)(hms:∀e∈b.aj,Fm b.aR.f e.m)(hJ:J≠[]):
  Cl 66 [.agg (bW b),iI b.at_,.str nm,.bZ (ps.length*2+3) (iI k::iI lo::iI hi::fM ps tS)] (gr (DF b (eM nm k lo hi ps))) J:=by
 refine ar ?_;have hn:=fS (f:=dU.enc) b.aj;have hcl:=n8 (b:=b);by_cases h0:b.aj=[]
 .have hd:DF b (eM nm k lo hi ps)=(b,8):=if_pos h0;have hE:nl dU.enc b.aj=.bu:=by simp[nl,h0]
  rw[hd];simp only[bW,hE]at hcl;simp[bW,hE,hcl,gr]
 have hE:=fI (f:=dU.enc) h0
 try simp only[lF]at hE
 have hfv:=hf h0;have hd:DF b (eM nm k lo hi ps)=if si b.aR.f (eM nm k lo hi ps)=0 then(ig b lo hi λm=>zZ b.aR.f m (eM nm k lo hi ps),0)else(b,si b.aR.f (eM nm k lo hi ps)):=if_neg h0
 have hck:si b.aR.f (eM nm k lo hi ps)=b.aR.f.measure (eM nm k lo hi ps):=if_pos hfv;rw[hck]at hd;rw[hd];have⟨q0,q1,q2⟩:(0:Int)<(ps.length:Int)*2+3/\(1:Int)<(ps.length:Int)*2+3/\(2:Int)<(ps.length:Int)*2+3:=by omega
 have hL:=XY (J:=J) hps (nm:=nm) (k:=k) (lo:=lo) (hi:=hi) (C:=bW b) (atv:=b.at_) (hd:=[iI k,iI lo,iI hi]) rfl ps.length 0 (by omega);have hC:=λJ=>Ps (J:=J) (l:=[eM nm k lo hi ps]) hfv (by intro m hm;simp at hm;subst hm;exact⟨by simp[eM];omega,by simp[eM];omega⟩) (by simp)
 try simp only[lF,Cl,fL]at hC
 have hM1:b.aR.f.xb [eM nm k lo hi ps]=b.aR.f.measure (eM nm k lo hi ps):=by
  simp only[dF.xb,dF.yH];by_cases h:b.aR.f.measure (eM nm k lo hi ps)=0<;>simp[h]
 rw[hM1]at hC;have hq:¬((b.aj.length:Int)=0):=by have:=aH.2 h0;omega
 simp only[bW,hE]at hcl;simp[bW,hE,h0,q0,q1,q2];refine WL.to hL (by simp[bW,hE,zS]) (by simp) ?_;rintro x e J' ⟨rfl,g1,g3,g4,g8,g10,rfl⟩;have cli:∀x:Int,D.aW (aO x)=true:=λ_=>by simp[aO,D.clean]
 have f1:=pM (f:=aO) (w:=1) (λ_=>rfl) cli (l:=ps.map (·.1)) (j:=0) (v:=ps.length) (bs:=[.cells ps.length (fM (ps.map (·.1)) aO),.cells ps.length (fM (ps.map (·.2)) aO)]) (J:=J) hJ rfl
 try simp only[]at f1
 have f2:=pM (f:=aO) (w:=1) (λ_=>rfl) cli (l:=ps.map (·.2)) (j:=1) (v:=ps.length) (bs:=[.dead,.cells ps.length (fM (ps.map (·.2)) aO)]) (J:=J) hJ rfl
 try simp only[]at f2
 simp at f1 f2;simp[eM]at hC;by_cases h1:b.aR.f.measure (eM nm k lo hi ps)=0
 case neg =>
  rw[if_neg h1];have h1':=h1;simp only[eM]at h1';simp[g1,g3,g4,g8,g10,f1,f2,hC,bW,hE,zS,h1',gr];exact cN (b:=b) (by simp[bW,hE])
 rw[if_pos h1];have hx:=Mev.of h1;have hLv:=PZ (J:=J) (b:=b) (x:=eM nm k lo hi ps) (atv:=b.at_) (L:=.bZ (ps.length*2+3) (iI k::iI lo::iI hi::fM ps tS)) rfl (by omega) hms hx b.aj.length 0 (by omega);have hS:=λJ hJ=>MR (J:=J) (b:=b) (lo:=lo) (hi:=hi) (val:=λm=>zZ b.aR.f m (eM nm k lo hi ps)) (vs:=b.aj.map λe=>zZ b.aR.f e.m (eM nm k lo hi ps)) h0 hw hml (by simp) (by
  intro i e v he hv;simp[he]at hv;subst hv;intro _;exact⟨rfl,λ_=>rfl⟩) hJ
 have hz:=Nc (vs:=b.aj.map λe=>zZ b.aR.f e.m (eM nm k lo hi ps));rw[bH]at hz;rw[hz]at hLv;have h1':=h1;simp only[eM]at h1';have r1:(b.aj.length:Int)*8<=room:=by unfold room;omega
 simp[g1,g3,g4,g8,g10,f1,f2,hC,bW,hE,h1',r1];refine WL.to hLv (by simp[bW,hE,eM]) (by simp) ?_;rintro x e J' ⟨rfl,g1,g3,g4,g8,g13,rfl⟩;have f3:=pM (f:=aO) (w:=1) (λ_=>rfl) cli (l:=b.aj.map λe=>zZ b.aR.f e.m (eM nm k lo hi ps)) (j:=2) (v:=0) (bs:=[.dead,.dead,.cells 0 (fM (b.aj.map λe=>zZ b.aR.f e.m (eM nm k lo hi ps)) aO)]) (J:=J) hJ rfl;simp only[lF,Cl,bH]at f3 hS;simp[g1,g3,g4,g8,g13,f3,hS,q1,q2,fT,eI,E6,AX,gr];exact cN (b:=ig b lo hi λm=>zZ b.aR.f m (eM nm k lo hi ps)) rfl
end
section
section
open Go Go.Abs Go.Trem
open Go.Book (nl)
variable {J:SK}
theorem Yh{α:Type}{p:α->Bool}:dq [] p=true:=rfl
theorem Yj{α:Type}{p:α->Bool}:mK [] p=false:=rfl
theorem VB{α:Type}{x:α}{l:List α}{p:α->Bool}:mK (x::l) p=(p x || mK l p):=rfl
theorem OH{α:Type}{f:α->List D}{w:Nat}(hw:∀x,(f x).length=w){l:List α}{i:Nat}{x:α}(h:l[i]?=some x):QN w (nl f l) (iI i)=some (.aZ (f x)):=by
 have h1:i<l.length:=(aA.1 h).1;rw[fI (λhh=>by rw[hh]at h1;simp at h1)];simp[h1,aP hw h]
theorem MJ{a b c x y z u v w:Int}:Cl 195 [.agg [iI a,iI b,iI c],.agg [iI x,iI y,iI z],.agg [iI u,iI v,iI w]] (.bool (bF a x u && (bF b y v && bF c z w))) J:=by
 refine ar ?_;cases hc1:bF a x u
 .simp[yf,hc1]
 cases hc2:bF b y v
 .simp[yf,hc1,hc2]
 simp[yf,hc1,hc2]
theorem U9{r:cc}{s:oc}:Cl 158 [.agg r.enc,.agg s.enc] (.bool (r.Kc s)) J:=by
 refine ar ?_;have ho:r.Kc s=(decide (r.least<=s.mag) && (bF s.p.x r.lo.x r.hi.x && (bF s.p.y r.lo.y r.hi.y && bF s.p.z r.lo.z r.hi.z))):=rfl;rw[ho];cases c:(bF s.p.x r.lo.x r.hi.x && (bF s.p.y r.lo.y r.hi.y && bF s.p.z r.lo.z r.hi.z))
 .simp[MJ,c]
 .by_cases h:r.least<=s.mag<;>simp[MJ,c,h]
theorem PT{r:cc}{l:List Ev}{i:Nat}{e0:Ev}(he:l[i]?=some e0)(hs:e0.sp.length<=9223372036854775807){now:Int}{all:Bool}{n:Int}:∀(m k:Nat) (a b:Bool),k+m=e0.sp.length ->
  WL T [1,2,3,4,9,10,11,12,13] false nL [(1,nl Ev.enc l),(2,iI now),(3,.bool all),(4,.aZ r.enc),(9,iI n),(10,iI i),(11,.bool a),(12,.bool b),(13,iI k)] J
   (λx e J'=>x=.exit 2/\J'=J/\get e 1=nl Ev.enc l/\get e 2=iI now/\get e 3=.bool all/\get e 4=.aZ r.enc/\get e 9=iI n/\get e 10=iI i/\get e 11=.bool (a || mK (e0.sp.drop k) r.Kc)/\get e 12=.bool (b && dq (e0.sp.drop k) r.Kc))
 |0,k,a,b,hk=>by
  refine av nL.eq_1 ?_;have g1:i<l.length:=(aA.1 he).1;have a1:=OH (f:=Ev.enc) (w:=2) (λ_=>rfl) he;have h1:¬k<e0.sp.length:=by omega
  have h2:e0.sp.drop k=[]:=by simp;omega
  simp[a1,h1,h2,Yj,Yh]
 |m+1,k,a,b,hk=>by
  refine av nL.eq_1 ?_;have g1:i<l.length:=(aA.1 he).1;have a1:=OH (f:=Ev.enc) (w:=2) (λ_=>rfl) he;have h1:k<e0.sp.length:=by omega
  obtain⟨x,hx⟩:=gE h1;have h2:=aP (f:=oc.enc) (w:=4) (λ_=>rfl) hx;have h6:=bO h1;have ih:=PT (now:=now) (all:=all) (n:=n) (r:=r) he hs m (k+1) (a || r.Kc x) (b && r.Kc x) (by omega);have hC:=λJ=>@U9 J r x
  simp only[cc.enc,oc.enc]at hC;rw[bz hx,VB,BX,<- Bool.or_assoc,<- Bool.and_assoc];cases a<;>cases b<;>cases c:r.Kc x<;>simp only[c]at hC ih<;>simp[a1,h1,h2,h6,hC]<;>exact(WL.to ih (by simp) rfl λx e J' hh=>by simpa[c]using hh)
def DV(r:cc)(now:Int)(all:Bool)(e:Ev):Bool:=if all then mN r now e else tN r now e
theorem TK{r:cc}(hr:r.ok=true){l:List Ev}(hl:l.length<=200)(hs:∀e∈l,e.sp.length<=2000){now:Int}(hn:bF now 0 1000000=true){all:Bool}:∀(m i:Nat) (n:Nat),i+m=l.length->n+m<=200 ->
  WL T [1,2,3,4,9,10] false nM [(1,nl Ev.enc l),(2,iI now),(3,.bool all),(4,.aZ r.enc),(9,iI n),(10,iI i)] J
   (λx e J'=>x=.exit 0/\J'=J/\get e 4=.aZ r.enc/\get e 9=iI (n+z8 (DV r now all) (l.drop i):Nat))
 |0,i,n,hi,hb=>by
  refine av nM.eq_1 ?_;have h1:¬i<l.length:=by omega
  have h2:l.drop i=[]:=by simp;omega
  simp[h1,h2,z8]
 |m+1,i,n,hi,hb=>by
  refine av nM.eq_1 ?_;have g1:i<l.length:=by omega
  obtain⟨e0,he⟩:=gE g1;have a1:=OH (f:=Ev.enc) (w:=2) (λ_=>rfl) he;have hse:=hs e0 (ai he);have h6:=bO g1;have hr':=zP.1 hr;have hn':=aQ.1 hn;have w2:=cm (n:=now-r.vq);have w3:=cm (n:=now-r.vq+1);have w4:=cm (n:=(n:Int)+1);have d1:z8 (DV r now all) (l.drop i)=z8 (DV r now all) (l.drop (i+1))+(if DV r now all e0 then 1 else 0):=by rw[bz he];rfl
  have ih:=λn h=>TK hr hl hs hn (all:=all) m (i+1) n (by omega) h
  have hact:r.act now e0=bF e0.tick (now-r.vq+1) now:=by
   unfold cc.act bF;congr 1
  have k1:∀u v:Nat,u+1+v=u+(v+1):=by intro u v;omega
  rw[d1];cases c1:bF e0.tick (now-r.vq+1) now
  .have e1:DV r now all e0=false:=by simp[DV,tN,mN,hact,c1]
   simp[g1,a1,h6,w2,w3,yf,c1];exact WL.to (ih n (by omega)) (by simp) rfl λx e J' hh=>by simpa[e1]using hh
  .have e1:DV r now all e0=if all then dq e0.sp r.Kc else mK e0.sp r.Kc:=by simp[DV,tN,mN,hact,c1]
   simp[g1,a1,w2,w3,yf,c1];refine WL.to (PT (J:=J) (now:=now) (all:=all) (n:=n) (r:=r) he (by omega) e0.sp.length 0 false true (by omega)) (by simp) rfl ?_;rintro x e J' ⟨rfl,rfl,f1,f2,f3,f4,f9,f10,f11,f12⟩;simp only[aC,Bool.false_or,Bool.true_and]at f11 f12;have ih0:=ih n (by omega);have ih1:=ih (n+1) (by omega);cases all
   .simp only[aD,if_false]at e1;cases c2:mK e0.sp r.Kc
    .rw[c2]at f11 e1;simp[f1,f2,f3,f4,f9,f10,f11,h6];exact WL.to ih0 (by simp) rfl λx e J' hh=>by simpa[e1]using hh
    .rw[c2]at f11 e1;simp[f1,f2,f3,f4,f9,f10,f11,h6,w4];exact WL.to ih1 (by simp) rfl λx e J' hh=>by simp only[k1]at hh;simpa[e1]using hh
   .simp only[if_true]at e1;cases c2:dq e0.sp r.Kc
    .rw[c2]at f12 e1;simp[f1,f2,f3,f4,f9,f10,f12,h6];exact WL.to ih0 (by simp) rfl λx e J' hh=>by simpa[e1]using hh
    .rw[c2]at f12 e1;simp[f1,f2,f3,f4,f9,f10,f12,h6,w4];exact WL.to ih1 (by simp) rfl λx e J' hh=>by simp only[k1]at hh;simpa[e1]using hh
theorem Tu{r:cc}(hr:r.ok=true){l:List Ev}(hl:l.length<=200)(hs:∀e∈l,e.sp.length<=2000){now:Int}(hn:bF now 0 1000000=true){all:Bool}:
  Cl 122 [.agg r.enc,nl Ev.enc l,iI now,.bool all] (.int .u8 (if r.count<=z8 (DV r now all) l then r.Oh else 0)) J:=by
 refine ar ?_;simp[];refine WL.to (TK (J:=[]::J) hr hl hs hn (all:=all) l.length 0 0 (by omega) (by omega)) (by simp) rfl ?_;rintro x e J' ⟨rfl,rfl,e4,e9⟩;simp only[aC,cz]at e9;by_cases c:r.count<=z8 (DV r now all) l<;>simp[e4,e9,c]
theorem LC{f:cc->Ev->Bool}{l:List Ev}{r:cc}(hr:r.ok=true){a:Int}(ha:0<=a):max a (if r.count<=z8 (f r) l then r.Oh else 0)=if r.count<=z8 (f r) l then max a r.Oh else a:=by
 split
 .rfl
 .omega
theorem PQ{R:List cc}(hR:R.length<=20)(hr:∀r∈R,r.ok=true){l:List Ev}(hl:l.length<=200)(hs:∀e∈l,e.sp.length<=2000){now:Int}(hn:bF now 0 1000000=true):∀(m i:Nat) (a b:Int),i+m=R.length->0<=a->0<=b ->
  WL T [0,1,2,8,9,10] false nK [(0,nl cc.enc R),(1,nl Ev.enc l),(2,iI now),(8,.int .u8 a),(9,.int .u8 b),(10,iI i)] J
   (λx e J'=>x=.exit 0/\J'=J/\get e 8=.int .u8 (vP (λr=>tN r now) l (R.drop i) a)/\get e 9=.int .u8 (vP (λr=>mN r now) l (R.drop i) b))
 |0,i,a,b,hi,ha,hb=>by
  refine av nK.eq_1 ?_;have h1:¬i<R.length:=by omega
  have h2:R.drop i=[]:=by simp;omega
  simp[h1,h2,vP]
 |m+1,i,a,b,hi,ha,hb=>by
  refine av nK.eq_1 ?_;have g1:i<R.length:=by omega
  obtain⟨r,hri⟩:=gE g1;have a1:=OH (f:=cc.enc) (w:=10) (λ_=>rfl) hri;have hrr:=hr r (ai hri);have h6:=bO g1;have s0:=λJ=>@Tu J r hrr l hl hs now hn false
  have s1:=λJ=>@Tu J r hrr l hl hs now hn true
  have q0:DV r now false=tN r now:=rfl;have q1:DV r now true=mN r now:=rfl;rw[q0]at s0;rw[q1]at s1;simp only[cc.enc]at s0 s1;have m0:=LC (f:=λr=>tN r now) (l:=l) hrr ha;have m1:=LC (f:=λr=>mN r now) (l:=l) hrr hb;have hc:=(zP.1 hrr).2.2.2.2;have ih:=PQ hR hr hl hs hn m (i+1) (if r.count<=z8 (tN r now) l then max a r.Oh else a) (if r.count<=z8 (mN r now) l then max b r.Oh else b) (by omega) (by split<;>omega) (by split<;>omega);rw[bz hri];simp[g1,a1,h6,s0,s1,m0,m1];exact WL.to ih (by simp) rfl λx e J' hh=>hh
theorem WT{R:List cc}(hR:R.length<=20)(hr:∀r∈R,r.ok=true){l:List Ev}(hl:l.length<=200)(hs:∀e∈l,e.sp.length<=2000){now:Int}(hn:bF now 0 1000000=true):
  Cl 77 [nl cc.enc R,nl Ev.enc l,iI now] (.cQ [.int .u8 (Nw R l now),.int .u8 (Ph R l now)]) J:=by
 refine ar ?_;simp[];refine WL.to (PQ (J:=[]::J) hR hr hl hs hn R.length 0 0 0 (by omega) (by omega) (by omega)) (by simp) rfl ?_;rintro x e J' ⟨rfl,rfl,e8,e9⟩;simp only[aC]at e8 e9;simp[e8,e9,Nw,Ph]
end
end
section
open Go Go.Abs Go.Rock Go.Book
variable {J:SK}
structure Lit(b:Bk):Prop where
 rl:b.rules.length<=20
 rok:∀r∈b.rules,r.ok=true
 el:b.lL.length<=200
 eok:∀e∈b.lL,e.ok=true
 pl:b.az.length<=200
theorem U8{b:Bk}(h:Lit b):Cl 47 [.agg (bW b)] (.int .u8 (eZ b)) J:=by
 refine ar ?_;have hn:=fS (f:=pE) b.az;have hnow:Trem.bF b.az.length 0 1000000=true:=by have:=h.pl;simp[Trem.bF];omega
 have hL:=λJ=>WT (J:=J) h.rl h.rok h.el (λe he=>by have:=h.eok e he;simp only[Trem.Ev.ok,ah,Trem.aQ]at this;omega) hnow
 have hc:eZ b=Trem.Nw b.rules b.lL b.az.length:=by
  have h1:Trem.lA b.rules b.lL b.az.length=0:=by
   have a1:=eQ.2 h.rok;have a2:=eQ.2 h.eok;have:=h.rl;have:=h.el;simp[Trem.lA,a1,a2,hnow,show ¬20<b.rules.length by omega,show ¬200<b.lL.length by omega]
  unfold eZ;rw[if_pos h1]
 rw[hc];have hcl:=n8 (b:=b);simp only[bW]at hcl;simp[bW,hn,hL]
theorem P4{l:List Int}{jC:Int}(hk:0<=jC/\jC<=1000)(hl:l.length<=1000000)(hr:∀n∈l,-100000<=n/\n<=100000):∀(m i:Nat),i+m=l.length ->
  WL T [1,5,6,7] false nN [(1,.bZ l.length (fM l aO)),(5,.int .i64 jC),(6,.sl J.length 0 i 0 i 1),(7,.int .i64 i)] ([.cells i (fM ((l.take i).map (jv jC)) aO)]::J)
   (λx e J'=>x=.exit 0/\get e 6=.sl J.length 0 l.length 0 l.length 1/\J'=[.cells l.length (fM (l.map (jv jC)) aO)]::J)
 |0,i,hi=>by
  refine av nN.eq_1 ?_;obtain rfl:i=l.length:=by omega
  simp[-List.map_take]
 |m+1,i,hi=>by
  refine av nN.eq_1 ?_;have h1:i<l.length:=by omega
  obtain⟨n,hn⟩:=gE h1;have h4:=bO h1;have a1:=aP (f:=aO) (w:=1) (λ_=>rfl) hn;simp only[aO,bJ]at a1;have hb:=hr n (ai hn);have ih:=P4 hk hl hr m (i+1) (by omega);rw[List.take_add_one,hn]at ih;have hl1:(l.take i).length=i:=by simp[];omega
  have ha:=qY ((l.take i).map (jv jC));simp only[bH,hl1]at ha;have ta:(fM ((l.take i).map (jv jC)) aO).take i=fM ((l.take i).map (jv jC)) aO:=af (by omega);have hrm:(i+1)*8<=room:=by unfold room;omega
  by_cases hc:n<0
  .have b1:=SN (a := -n) (b:=jC) (A:=100000) (B:=1000) (by omega) (by omega) (by omega);have b2:0 <= -n*jC:=bB (by omega) hk.1;have w1:=cm (n := -n);have w2:=cm (n := -n*jC);have t1:(-n*jC).tdiv 1000 = -n*jC / 1000:=aS b2;have w3:=cm (n:=(-n*jC).tdiv 1000) (by rw[t1];omega);have w4:=cm (n := -(-n*jC).tdiv 1000) (by rw[t1];omega);have hrt:jv jC n = -(-n*jC).tdiv 1000:=if_pos hc;generalize hz:(-n*jC).tdiv 1000=z at *
   simp[-List.map_take,h1,a1,h4,hc,w1,w2,w3,w4,hrm,ha,ta,hz];exact WL.to ih (by simp[]) (by simp[hrt,aO]) λx e J' hh=>hh
  .have hrt:jv jC n=n:=if_neg hc;simp[-List.map_take,h1,a1,h4,hc,hrm,ha,ta];exact WL.to ih (by simp[]) (by simp[hrt,aO]) λx e J' hh=>hh
theorem Vb{b:Bk}{l:List Int}(h:Lit b)(hk:Trem.fy b.k0 b.k1 b.k2=true)(hl:l.length<=1000000)(hr:∀n∈l,-100000<=n/\n<=100000)(hJ:J≠[]):
  Cl 100 [.agg (bW b),lF l aO] (.bZ l.length (fM (l.map (jv (mU b))) aO)) J:=by
 refine ar ?_;have hC:=λJ=>U8 (J:=J) h
 have hcl:=n8 (b:=b);simp only[Trem.fy,ah,aB]at hk;obtain⟨c1,c2⟩:=Ff (b:=b);have hkp:0<=mU b/\mU b<=1000:=by unfold mU;split<;>(try split)<;>omega
 have hcell:List.take 1 (List.drop (eZ b).toNat [iI b.k0,iI b.k1,iI b.k2,nl jD.enc b.cp,nl GG.enc b.cA,D.bool b.ready,nl DW.enc b.eg])=[iI (mU b)]:=by
  unfold mU;have:eZ b=0\/eZ b=1\/eZ b=2:=by omega
  rcases this with h | h | h<;>rw[h]<;>rfl
 simp only[bW]at hcl hC;simp[bW,hC,c1,show eZ b<3 by omega,hcell];refine WL.to (P4 (J:=J) hkp hl hr l.length 0 (by omega)) (by simp) (by simp) ?_;rintro x e J' ⟨rfl,g6,rfl⟩;have hk:=gG (n:=16) (f:=aO) (w:=1) (l:=l.map (jv (mU b))) (j:=0) (v:=l.length) (bs:=[.cells l.length (fM (l.map (jv (mU b))) aO)]) (by decide) (λ_=>rfl) (λx=>by simp[aO,D.clean]) hJ rfl;rw[bH]at hk;simp[g6,hk]
structure Kr(n:Nat)(b:Bk):Prop where
 kv:Kv n b
 rok:∀r∈b.rules,r.ok=true
theorem Kr.lit{n:Nat}{b:Bk}(h:Kr n b):Lit b:=⟨h.kv.rules,h.rok,h.kv.lL,h.kv.JU,(ju h.kv.pl).1⟩
theorem Kr.valid{n:Nat}{b:Bk}(h:Kr n b)(hm:b.aj≠[]):b.aR.valid=true:=h.kv.ready (h.kv.ms hm)
theorem OD{l:List dU}(h:cj l≠[]):l≠[]:=λh2=>h (by rw[h2];rfl)
theorem Ns{l:List dU}{m:cg}(h:m∈gY l):∃e∈l,e.left=true/\e.m=m:=by
 obtain⟨e,he,rfl⟩:=bI.1 h;exact⟨e,(HV he).1,(HV he).2,rfl⟩
theorem GN{α β:Type}{f:α->Int}{g:β->α}:∀{l:List β},b8 f (l.map g)=b8 (λx=>f (g x)) l
 |[]=>rfl
 |x::l=>by simp only[aM,b8,GN (l:=l)]
theorem T0{b:Bk}{M:List cg}{az:List (List Int)}{R:List D}(hR:R=bW b)(ht:b.aR.c9≠[])(hM:∀m∈M,Bd b.aR m=true)(hl:M.length<=40)(hp:tL b.aR az=0):∀(k i:Nat),i+k=M.length ->
  WL T [2,4,7,8,9] false nS [(2,.own 0 R),(4,.own 0 zS),(7,lF az pE),(8,lF M cg.enc),(9,iI i)] ([.dead]::J)
   (λx e J'=>J'=[.dead]::J/\if b8 (λm=>lS b.aR m az) (M.drop i)=0 then x=.exit 0/\get e 2=.own 0 R/\get e 4=.own 0 zS/\get e 7=lF az pE
    else x=.ret/\get e 4=.own 0 R/\get e 5=iI (b8 (λm=>lS b.aR m az) (M.drop i)))
 |0,i,hi=>by
  refine av nS.eq_1 ?_;obtain rfl:i=M.length:=by omega
  have h2:M.drop M.length=[]:=an (by omega);simp[h2,b8]
 |k+1,i,hi=>by
  refine av nS.eq_1 ?_;have h1:i<M.length:=by omega
  obtain⟨m,hm⟩:=gE h1;have hBd:=hM m (ai hm);have a1:=aP (f:=cg.enc) (w:=2) (λ_=>rfl) hm;have h4:=bO h1;have hT:=fI (f:=Rw.enc) ht;obtain⟨hp1,hp2⟩:=ju hp;have ih:=T0 hR ht hM hl hp k (i+1) (by omega);rw[bz hm,b8];cases hrun:Rock.run b.aR m az with
  |none =>
   have hE:lS b.aR m az=9:=by simp[lS,hBd,hp,hrun]
   have hP:∀J,J≠[]->dt T (.call false 102 [.agg [iI b.aR.f.x,iI b.aR.f.y,iI b.aR.f.z,iI b.aR.f.k,lF b.aR.c9 Rw.enc,iI b.aR.cG,iI b.aR.lift,iI b.aR.deep,nl bA.enc b.aR.aw],.agg (mL m),lF az pE] J)=_:=λJ hJ=>RU (J:=J) (Fv.of hBd) hp1 hp2 hJ hrun kI
   rw[hE];subst hR;simp[h1,a1,hT,hP,bW,zS]
  |some r =>
   obtain⟨ss,ys⟩:=r;have hE:lS b.aR m az=0:=by simp[lS,hBd,hp,hrun]
   have hP:∀J,J≠[]->dt T (.call false 102 [.agg [iI b.aR.f.x,iI b.aR.f.y,iI b.aR.f.z,iI b.aR.f.k,lF b.aR.c9 Rw.enc,iI b.aR.cG,iI b.aR.lift,iI b.aR.deep,nl bA.enc b.aR.aw],.agg (mL m),lF az pE] J)=_:=λJ hJ=>Ks (J:=J) (Fv.of hBd) hp1 hp2 hJ hrun kI
   rw[hE,if_pos rfl];subst hR;simp[h1,a1,h4,hT,hP,bW];exact WL.to ih (by simp[bW,hT]) rfl λx e J' hh=>by simpa[bW,hT]using hh
theorem acj{b:Bk}{l:List Int}(hp:tL b.aR b.az=0)(hn:b.az.length<200)(hk:Trem.fy b.k0 b.k1 b.k2=true)(hl:l.length=b.aR.aw.length)(hr:∀n∈l,-100000<=n/\n<=100000):tL b.aR (dE b l)=0:=by
 obtain⟨h1,h2⟩:=ju hp;simp only[Trem.fy,ah,aB]at hk;have hkp:0<=mU b/\mU b<=1000:=by unfold mU;split<;>(try split)<;>omega
 have key:∀r∈dE b l,rj b.aR r=0:=by
  intro r hr';rcases aU.1 hr' with h | h
  .have hv:=h2 r h;unfold rj;rw[if_pos hv.len,if_pos (eQ.2 λx hx=>aQ.2 (hv.ok x hx))]
  .simp only[List.mem_singleton]at h;subst h;unfold rj;rw[if_pos (by simpa using hl),if_pos];refine eQ.2 λx hx=>aQ.2 ?_
   obtain⟨n,hn,rfl⟩:=bI.1 hx;have hb:=hr n hn;unfold jv;split
   .have b2:0 <= -n*mU b:=bB (by omega) hkp.1;have b3 : -n*mU b<=100000*1000:=ct (by omega) hkp.2 hkp.1 (by omega);rw[aS b2];omega
   .exact hb
 have h3:(dE b l).length=b.az.length+1:=by simp[dE]
 unfold tL;rw[if_neg (by omega)];generalize dE b l=p at key;clear h3;induction p with
 |nil=>rfl
 |cons x p ih=>simp only[b8,key x (by simp)];exact ih λr h=>key r (by simp[h])
theorem aa8{n:Nat}{b:Bk}{l:List Int}(hK:Kr n b)(hl:l.length<=1000000)(hJ:J≠[]):
  Cl 67 [.agg (bW b),lF l aO] (gr (mM b l)) J:=by
 refine ar ?_;have hS:=λJ=>NX (J:=J) (b:=b) hK.kv.ml
 try simp only[Cl]at hS
 have hnp:=fS (f:=pE) b.az;by_cases c1:cj b.aj=[]
 .have hd:mM b l=(b,8):=by unfold mM;rw[if_pos c1]
  rw[hd];simp[c1]at hS;simp only[bW]at hS;simp[bW,hS,gr];exact cN (b:=b) rfl
 have hne:=OD c1;have hv:=hK.valid hne;have ht:=uT (Bv.of hv).c9;have hT:=fI (f:=Rw.enc) ht
 try simp only[lF]at hT
 simp[c1]at hS;simp only[bW,hT]at hS;by_cases c2:b.az.length<200
 case neg =>
  have hd:mM b l=(b,3):=by unfold mM;rw[if_neg c1,if_neg c2]
  rw[hd];simp[bW,hT,hS,gr,hnp,show(200:Int)<=b.az.length by omega];exact cN (b:=b) (by simp[bW,hT])
 have c2':¬(200:Int)<=b.az.length:=by omega
 have hRt:=λJ=>Vc (J:=J) (b:=b.aR) (l:=l) (wq:=nl bA.enc b.aR.aw) (by omega) kI
 try simp only[lF,Cl]at hRt
 by_cases c3:rj b.aR l=0
 case neg =>
  have hd:mM b l=(b,rj b.aR l):=by
   unfold rj at *
   by_cases h1:l.length=b.aR.aw.length
   .by_cases h2:dq l (λn=>bF n (-100000) 100000)=true
    .rw[if_pos h1,if_pos h2]at c3;exact absurd rfl c3
    .unfold mM;rw[if_neg c1,if_pos c2,if_pos h1,if_neg h2,if_pos h1,if_neg h2]
   .unfold mM;rw[if_neg c1,if_pos c2,if_neg h1,if_neg h1]
  rw[hd];simp[bW,hT,hS,gr,hnp,c2',hRt,c3];exact cN (b:=b) (by simp[bW,hT])
 obtain⟨r1,r2⟩:=Rv.of c3;rw[c3]at hRt;have hp:=acj hK.kv.pl c2 hK.kv.jC r1 r2;have hd:mM b l=if b8 (λe=>lS b.aR e.m (dE b l)) (cj b.aj)=0 then(JQ b (dE b l),0)else(b,b8 (λe=>lS b.aR e.m (dE b l)) (cj b.aj)):=by
  unfold mM;rw[if_neg c1,if_pos c2,if_pos r1,if_pos (eQ.2 λx hx=>aQ.2 (r2 x hx))]
 rw[hd];have hRs:=λJ hJ=>Vb (J:=J) (b:=b) (l:=l) hK.lit hK.kv.jC hl r2 hJ
 try simp only[lF,Cl]at hRs
 have hLf:=λJ hJ=>NU (J:=J) (b:=b) hK.kv.ml hJ
 try simp only[lF,Cl]at hLf
 simp only[bW,hT]at hRs hLf;have⟨q1,q2,q3⟩:b.az.length*24<=room/\(b.az.length+1)*24<=room/\24<=room:=by unfold room;omega
 have hpel:=LK b.az;have htk:(fM b.az pE).take b.az.length=fM b.az pE:=af (by omega);have cle:∀x:List Int,D.aW (pE x)=true:=aip;have hL:=T0 (J:=J) (b:=b) (M:=gY b.aj) (az:=dE b l) (R:=bW b) rfl ht (by
  intro m hm;obtain⟨e,he,_,rfl⟩:=Ns hm;exact(hK.kv.fit e he).1) (by have:=LB b.aj;have:=hK.kv.ml;omega) hp (gY b.aj).length 0 (by omega)
 have hnl:(dE b l).length=b.az.length+1:=by simp[dE]
 have hfm:fM (dE b l) pE=fM b.az pE++[.bZ l.length (fM (l.map (jv (mU b))) aO)]:=by simp[dE,pE]
 have hz:b8 (λm=>lS b.aR m (dE b l)) (gY b.aj)=b8 (λe=>lS b.aR e.m (dE b l)) (cj b.aj):=GN
 try simp only[lF]at hL
 rw[aC,hz]at hL;generalize hF:b8 (λe=>lS b.aR e.m (dE b l)) (cj b.aj)=F at hL ⊢;have hfr:=pM (f:=pE) (w:=1) (λ_=>rfl) cle (l:=dE b l) (j:=0) (bs:=[.cells (if b.az=[]then 0 else 1) (fM (dE b l) pE)]) (v:=if b.az=[]then 0 else 1) (J:=J) hJ rfl;rw[hnl,hfm]at hL hfr;have hne0:dE b l≠[]:=λh=>by rw[h]at hnl;simp at hnl
 by_cases hm:b.az=[]
 .have e1:nl pE b.az=.bu:=by simp[nl,hm]
  simp only[e1]at hS hRs hLf hnp;rw[if_pos hm]at hfr;have hm0:b.az.length=0:=by rw[hm];rfl
  simp only[hm,ot,bd,List.nil_append,cz]at hfr;simp[bW,hT,hS,gr,hnp,c2',hRt,e1,hRs,hLf,q3,hfr];rw[hm0,hm]at hL;refine WL.to hL (by simp[bW,hT,zS,hm,ES]) rfl ?_;rintro x e J' ⟨rfl,h⟩;by_cases hF0:F=0
  .rw[if_pos hF0]at h ⊢;obtain⟨rfl,g2,g4,g7⟩:=h;simp[g2,g4,g7,bW,zS];exact Fs (b:=JQ b (dE b l)) (by simp[bW,JQ,fI hne0,hnl,hfm,hm])
  .rw[if_neg hF0]at h ⊢;obtain⟨rfl,g4,g5⟩:=h;simp[g4,g5,fT,eI];exact cN (b:=b) rfl
 .have e1:=fI (f:=pE) hm
  try simp only[lF]at e1
  simp only[e1]at hS hRs hLf;rw[if_neg hm]at hfr;simp[bW,hT,hS,gr,c2',hRt,hm,e1,hRs,hLf,q1,q2,hpel,htk,hfr];refine WL.to hL (by simp[bW,hT,zS,e1]) rfl ?_;rintro x e J' ⟨rfl,h⟩;by_cases hF0:F=0
  .rw[if_pos hF0]at h ⊢;obtain⟨rfl,g2,g4,g7⟩:=h;simp[g2,g4,g7,bW,zS];exact Fs (b:=JQ b (dE b l)) (by simp[bW,JQ,fI hne0,hnl,hfm])
  .rw[if_neg hF0]at h ⊢;obtain⟨rfl,g4,g5⟩:=h;simp[g4,g5,fT,eI];exact cN (b:=b) rfl
theorem WY{b:bU}{m:cg}{r:RunT}{n:Nat}{x:tU}{wq:D}(h:Fv b m)(hr:MX b n r.1 r.2)(hn:n<=200)(hx:Wx b n x)(hwq:wq.rN=lF b.aw bA.enc):
  Cl 105 [.agg [iI b.f.x,iI b.f.y,iI b.f.z,iI b.f.k,lF b.c9 Rw.enc,iI b.cG,iI b.lift,iI b.deep,wq],.agg (mL m),.agg [lF r.1 lI,lF r.2 lI],.agg x.enc] (iI (pN b m r x)) J:=by
 refine ar ?_;have cls:∀l:List (List Rock.aF),D.aW (fM l lI)=true:=ef λx=>by simp[lI,D.clean,Iz]
 unfold pN;by_cases h1:x.ka=1
 .obtain⟨p1,p2,p3⟩:=hx.p h1;have hz:=h.bv.sz;obtain⟨s1,s2⟩:=ZO hr (t:=x.tick.toNat) (by omega);have hi:x.idx.toNat<b.n:=by unfold bU.size at p3;omega
  have hP:=λJ=>Kt (J:=J) h s2 hi
  rw[show((x.idx.toNat:Nat):Int)=x.idx by omega]at hP;have a1:=aP (f:=lI) (w:=1) (λ_=>rfl) s1;simp only[lI,bJ]at a1;have hl:=hr.sl;have q1:x.tick<r.1.length:=by omega
  rw[s1,if_pos h1];simp[hwq,h1,a1,hP,p1.1,q1]
 .obtain⟨p1,p2,p3⟩:=hx.y h1;obtain⟨y1,y2⟩:=Re hr (t:=x.tick.toNat-1) (by omega);have hl:=hr.yl;have hb:=U3 y2 (w:=x.idx.toNat) (by omega);have a1:=aP (f:=lI) (w:=1) (λ_=>rfl) y1;simp only[lI,bJ]at a1;have a2:=aP (f:=Rock.aF.enc) (w:=3) (λ_=>rfl) hb;have hy:=y2.ok _ (ai hb);have hyl:=y2.len;have⟨q1,q2⟩:x.tick-1<r.2.length/\x.idx<(rowAt r.2 (x.tick.toNat-1)).length:=by omega
  have q3:1<=x.tick:=p1.1;have t1:(x.tick-1).toNat=x.tick.toNat-1:=by omega
  have w1:=cm (n:=x.tick-1);rw[y1,if_neg h1];simp only[Option.getD_some];generalize aT (rowAt r.2 (x.tick.toNat-1)) x.idx.toNat=y at a2 hy ⊢;unfold aF.NS aF.G4;by_cases h2:x.ka=2
  .simp[hwq,h2,a1,a2,q1,q2,q3,p2,t1,w1]
  have hw:=hx.ka;by_cases h3:x.ka=4
  .simp[hwq,h3,a1,a2,q1,q2,q3,p2,t1,w1]
  have h4:x.ka=3:=by omega
  have hm:=hy.1;have hh:=hy.2.1;by_cases h5:y.m=0
  .simp[hwq,h4,h5,a1,a2,q1,q2,q3,p2,t1,w1]
  .have t2:y.h.tdiv y.m=y.h / y.m:=aS hh.1;have w2:=cm (n:=y.h.tdiv y.m) (by
    rw[t2];have:=Int.ediv_nonneg hh.1 hm.1;have:=Int.ediv_le_self y.m hh.1;omega)
   simp[hwq,h4,h5,a1,a2,q1,q2,q3,p2,t1,w1,w2]
theorem abM{ss ys:List (List Rock.aF)}{v v':Nat}(hJ:J≠[]):∃s,cH (J.length-1) 16 (.cQ [.agg [.sl J.length 0 v 0 ss.length 1,.sl J.length 1 v' 0 ys.length 1],.bool true]) ([.cells v (fM ss lI),.cells v' (fM ys lI)]::J)=(.cQ [.agg [lF ss lI,lF ys lI],.bool true],s::J):=by
 have c1:∀x:List Rock.aF,D.aW (lI x)=true:=λx=>by simp[lI,D.clean,Iz]
 have k1:=gG (n:=14) (f:=lI) (w:=1) (l:=ss) (j:=0) (v:=v) (bs:=[.cells v (fM ss lI),.cells v' (fM ys lI)]) (by decide) (λ_=>rfl) c1 hJ rfl;have k2:=gG (n:=14) (f:=lI) (w:=1) (l:=ys) (j:=1) (v:=v') (bs:=[.dead,.cells v' (fM ys lI)]) (by decide) (λ_=>rfl) c1 hJ rfl;simp only[List.set_cons_zero]at k1;rw[pG (by simp) (by omega)];simp only[ff,gj];rw[vW (by simp) (by omega)];simp only[ff,gj];rw[k1];simp only;rw[k2,de (by rfl) (by omega)];exact⟨_,rfl⟩
theorem WX{b:bU}{m:cg}{az:List (List Int)}(h:Fv b m)(hp:az.length<=200)(hr:∀r∈az,Rv b r)(hJ:J≠[]){ss ys:List (List Rock.aF)}(hrun:Rock.run b m az=some (ss,ys)){wq:D}(hwq:wq.rN=lF b.aw bA.enc):
  Cl 102 [.agg [iI b.f.x,iI b.f.y,iI b.f.z,iI b.f.k,lF b.c9 Rw.enc,iI b.cG,iI b.lift,iI b.deep,wq],.agg (mL m),nl pE az] (.cQ [.agg [lF ss lI,lF ys lI],.bool true]) J:=by
 by_cases hz:az=[]
 case neg=>rw[fI hz];exact Ks h hp hr hJ hrun hwq
 subst hz;cases hrun;refine ar ?_;have hf:=λJ hJ=>Ku (J:=J) h hJ
 simp[hwq,ES,hf];refine av lZ.eq_1 ?_;simp;have hz:=abM (J:=J) (ss:=[cb b m]) (ys:=[]) (v:=0) (v':=0) hJ;simpa[lI,o8]using hz
def xd(b:Bk)(x:tU)(e:dU):Int:=if e.left=true then(match Rock.run b.aR e.m b.az with | some r=>pN b.aR e.m r x | none=>0)else 0
theorem TX{n:Nat}{b:Bk}{x:tU}{atv:Int}{L:D}{R:List D}(hR:R=bW b)(hL:L.calm=L)(hK:Kr n b)(ht:b.aR.c9≠[])(hx:Wx b.aR b.az.length x):∀(m i:Nat),i+m=b.aj.length ->
  WL T [1,2,3,6,8,10,11] false nQ [(1,iI atv),(2,L),(3,.aZ R),(6,.own 0 zS),(8,.own 0 x.enc),(10,.sl J.length 0 0 0 b.aj.length 1),(11,iI i)]
   ([.cells 0 (iY (b.aj.map (xd b x)) i m)]::J)
   (λy e J'=>y=.exit 0/\get e 1=iI atv/\get e 2=L/\get e 3=.aZ R/\get e 6=.own 0 zS/\get e 10=.sl J.length 0 0 0 b.aj.length 1/\J'=[.cells 0 (fM (b.aj.map (xd b x)) aO)]::J)
 |0,i,hi=>by
  refine av nQ.eq_1 ?_;obtain rfl:i=b.aj.length:=by omega
  have hn:=fS (f:=dU.enc) b.aj;have hf:=Qq (vs:=b.aj.map (xd b x));rw[bH]at hf;rw[hf];subst hR;simp[bW,hn,hL]
 |m+1,i,hi=>by
  refine av nQ.eq_1 ?_;have h1:i<b.aj.length:=by omega
  have hml:=hK.kv.ml;have h1':(i:Int)<b.aj.length:=by omega
  obtain⟨e,he⟩:=gE h1;have hne:b.aj≠[]:=λh=>by rw[h]at h1;simp at h1
  have h2:=Ot he;have d1:=re (f:=dU.enc) (w:=4) (λ_=>rfl) he;have d2:(fM b.aj dU.enc).drop (i*4+2)=.bool e.left::iI e.Of::(fM b.aj dU.enc).drop (i*4+4):=by
   have:=congrArg (List.drop 2) d1;simpa[dn]using this
  simp only[dU.enc]at h2;have h4:=bO h1;have hn:=fI (f:=dU.enc) hne;have hT:=fI (f:=Rw.enc) ht;have ih:=TX hR hL hK ht hx (atv:=atv) m (i+1) (by omega);obtain⟨f1,f2⟩:=Ui (vs:=b.aj.map (xd b x)) (i:=i) (m:=m) (v:=xd b x e) (by simp;omega) (by simp[he]);rw[bH]at f1;have hi1:i+1<=b.aj.length:=by omega
  have hem:=ai he;obtain⟨hp1,hp2⟩:=ju hK.kv.pl;simp only[tU.enc]at ih ⊢;cases hc:e.left
  .have hv:xd b x e=0:=by simp[xd,hc]
   have f3:iY (b.aj.map (xd b x)) i (m+1)=iY (b.aj.map (xd b x)) (i+1) m:=by
    unfold iY;rw[List.take_add_one,l9,he];simp[hv,List.replicate_succ]
   rw[f3];subst hR;simp[bW,hn,h1',h2,h4,hL,hc,hT];exact WL.to ih (by simp[bW,hn,hT]) rfl λx e J hh=>by simpa[bW,hn,hT]using hh
  .obtain⟨hBd,_,_⟩:=hK.kv.fit e hem;obtain⟨r,hrun⟩:=hK.kv.AQ e hem hc;obtain⟨ss,ys⟩:=r;have hv:xd b x e=pN b.aR e.m (ss,ys) x:=by simp[xd,hc,hrun]
   rw[hv]at f2;have hfv:=Fv.of hBd;have hP:∀J,J≠[]->dt T (.call false 102 [.agg [iI b.aR.f.x,iI b.aR.f.y,iI b.aR.f.z,iI b.aR.f.k,lF b.aR.c9 Rw.enc,iI b.aR.cG,iI b.aR.lift,iI b.aR.deep,nl bA.enc b.aR.aw],.agg (mL e.m),nl pE b.az] J)=_:=λJ hJ=>WX (J:=J) hfv hp1 hp2 hJ hrun kI
   have hRd:=λJ=>WY (J:=J) (wq:=nl bA.enc b.aR.aw) hfv (r:=(ss,ys)) (MX.of hfv hp2 hrun) hp1 hx kI
   simp only[tU.enc]at hRd;subst hR;simp[bW,hn,h1',h2,h4,hL,hc,hT,hP,hRd,f1,f2,hi1];exact WL.to ih (by simp[bW,hn,hT]) (by simp) λx e J hh=>by simpa[bW,hn,hT]using hh
theorem aa4{n:Nat}{b:Bk}{w i lo hi:Int}(hK:Kr n b)(hJ:J≠[]):
  Cl 68 [.agg (bW b),iI b.at_,.bZ 4 [iI w,iI i,iI lo,iI hi]] (gr (pa b ⟨b.az.length,w,i,lo,hi⟩)) J:=by
 refine ar ?_;have hS:=λJ=>NX (J:=J) (b:=b) hK.kv.ml
 try simp only[Cl]at hS
 have hnp:=fS (f:=pE) b.az;have hcl:=n8 (b:=b);by_cases c1:cj b.aj=[]
 .have hd:pa b ⟨b.az.length,w,i,lo,hi⟩=(b,8):=by unfold pa;rw[if_pos c1]
  rw[hd];simp[c1]at hS;simp only[bW]at hS hcl;simp[bW,hS,hcl,gr]
 have hne:=OD c1;have hv:=hK.valid hne;have ht:=uT (Bv.of hv).c9;have hT:=fI (f:=Rw.enc) ht
 try simp only[lF]at hT
 have hE:=fI (f:=dU.enc) hne
 try simp only[lF]at hE
 simp[c1]at hS;simp only[bW,hT,hE]at hS hcl;cases c2:bF w 1 4
 .have hd:pa b ⟨b.az.length,w,i,lo,hi⟩=(b,1):=by
   unfold pa;rw[if_neg c1];split
   .simp[eU,c2]
   .rfl
  rw[hd];simp[bW,hT,hE,hS,hcl,dw,c2,gr]
 have hw:=aQ.1 c2;have hw8:bF w 0 255=true:=aQ.2 (by omega);have w1:IntKind.u8.wrap w=w:=wu8 (by omega);have hC:=λJ=>NW (J:=J) (b:=b.aR) (n:=b.az.length) (rd:=[⟨b.az.length,w,i,lo,hi⟩]) (wq:=nl bA.enc b.aR.aw) (Bv.of hv) (by simp) (by intro x hx;simp at hx;subst hx;simp only;omega) kI
 try simp only[lF,Cl]at hC
 rw[Cw]at hC;simp only[aE,bd,di,ot,cM,tU.enc,cz]at hC;have hd:pa b ⟨b.az.length,w,i,lo,hi⟩=if eU b.aR b.az.length ⟨b.az.length,w,i,lo,hi⟩=0 then(ig b lo hi (sO b ⟨b.az.length,w,i,lo,hi⟩),0)else(b,eU b.aR b.az.length ⟨b.az.length,w,i,lo,hi⟩):=by
  unfold pa;rw[if_neg c1,if_pos hw8]
 rw[hd];by_cases c3:eU b.aR b.az.length ⟨b.az.length,w,i,lo,hi⟩=0
 case neg =>
  rw[if_neg c3];simp[bW,hT,hE,hS,hcl,dw,c2,w1,hnp,hC,c3,gr]
 rw[if_pos c3];have hx:=Wx.of c3;have hLv:=TX (J:=J) (b:=b) (x:=⟨b.az.length,w,i,lo,hi⟩) (atv:=b.at_) (L:=.bZ 4 [iI w,iI i,iI lo,iI hi]) (R:=bW b) rfl rfl hK ht hx b.aj.length 0 (by omega);have hst:=λJ hJ=>MR (J:=J) (b:=b) (lo:=lo) (hi:=hi) (val:=sO b ⟨b.az.length,w,i,lo,hi⟩) (vs:=b.aj.map (xd b ⟨b.az.length,w,i,lo,hi⟩)) hne hK.kv.wl hK.kv.ml (by simp) (by
  intro j e v he hv hl;simp[he]at hv;subst hv;obtain⟨r,hrun⟩:=hK.kv.AQ e (ai he) hl;have h1:xd b ⟨b.az.length,w,i,lo,hi⟩ e=pN b.aR e.m r ⟨b.az.length,w,i,lo,hi⟩:=by simp[xd,hl,hrun]
  have h2:sO b ⟨b.az.length,w,i,lo,hi⟩ e.m=MH lo hi (pN b.aR e.m r ⟨b.az.length,w,i,lo,hi⟩):=by simp[sO,hrun]
  rw[h1,h2];have he2:=hx.ends.2.1
  try simp only[]at he2
  try simp only at he2
  generalize pN b.aR e.m r ⟨b.az.length,w,i,lo,hi⟩=v;unfold MH;split
  .exact⟨rfl,λ_=>rfl⟩
  .have q1:bF v lo hi=true:=aQ.2 (by omega);have q2:bF lo lo hi=true:=aQ.2 (by omega);rw[q1,q2];exact⟨rfl,λh=>by cases h⟩) hJ
 have hz:=Nc (vs:=b.aj.map (xd b ⟨b.az.length,w,i,lo,hi⟩));rw[bH]at hz;rw[hz]at hLv;have hml:=hK.kv.ml;have r1:(b.aj.length:Int)*8<=room:=by unfold room;omega
 simp[bW,hT,hE,hS,dw,c2,w1,hnp,hC,c3,r1];refine WL.to hLv (by simp[bW,hT,hE,zS]) (by simp) ?_;rintro y e J' ⟨rfl,g1,g2,g3,g6,g10,rfl⟩;have cli:∀x:Int,D.aW (aO x)=true:=λ_=>by simp[aO,D.clean]
 have f3:=pM (f:=aO) (w:=1) (λ_=>rfl) cli (l:=b.aj.map (xd b ⟨b.az.length,w,i,lo,hi⟩)) (j:=0) (v:=0) (bs:=[.cells 0 (fM (b.aj.map (xd b ⟨b.az.length,w,i,lo,hi⟩)) aO)]) (J:=J) hJ rfl;simp only[lF,Cl,bH]at f3 hst;simp[g1,g2,g3,g6,g10,f3,hst,fT,eI,E6,AX,gr];exact cN (b:=ig b lo hi (sO b ⟨b.az.length,w,i,lo,hi⟩)) rfl
end
end Go.Proofs.YtpapbbojmclkgaaGreatDoor
