import Derived.Test.YtpapbbojmclkgaaGreatDoorTxt6
set_option linter.all false
namespace Go.Proofs.YtpapbbojmclkgaaGreatDoor
section
open Go Go.Abs Go.Rock Go.Book
variable {J:SK}
theorem Yj{r:Trem.cF}:Cl tI [.agg r.enc] (.bool r.ok) J:=by
 refine au rfl rfl rfl ?_;cases hc1:Trem.ug r.lo r.hi
 .simp[K3,Trem.cF.ok,hc1]
 cases hc2:Trem.bA r.least 0 160
 .simp[K3,xe,Trem.cF.ok,hc1,hc2]
 cases hc3:Trem.bA r.uI 1 1000000
 .simp[K3,xe,Trem.cF.ok,hc1,hc2,hc3]
 cases hc4:Trem.bA r.count 1 200
 .simp[K3,xe,Trem.cF.ok,hc1,hc2,hc3,hc4]
 by_cases hc5:r.MD=1
 rotate_left
 .simp[K3,xe,Trem.cF.ok,hc1,hc2,hc3,hc4,hc5]
 simp[K3,xe,Trem.cF.ok,hc1,hc2,hc3,hc4,hc5]
theorem Yi{k0 k1 k2:Int}:Cl tH [.aW,.aW,.agg [iI k0,iI k1,iI k2],iI 0] (.bool (Trem.fw k0 k1 k2)) J:=by
 refine au rfl rfl rfl ?_;have h0:Trem.bA 0 0 1000000000=true:=rfl;by_cases h1:1000<k0
 .have hk:Trem.fw k0 k1 k2=false:=by simp[Trem.fw];omega
  simp[xe,h0,h1,hk]
 by_cases h2:k2<0
 .have hk:Trem.fw k0 k1 k2=false:=by simp[Trem.fw];omega
  simp[xe,h0,h1,h2,hk]
 by_cases h3:k0<k1
 .have hk:Trem.fw k0 k1 k2=false:=by simp[Trem.fw];omega
  simp[xe,h0,h1,h2,h3,hk]
 by_cases h4:k1<k2
 .have hk:Trem.fw k0 k1 k2=false:=by simp[Trem.fw];omega
  simp[xe,h0,h1,h2,h3,h4,hk]
 simp[xe,h0,h1,h2,h3,h4];refine aB o7.eq_1 ?_;simp[Trem.fw];omega
theorem N0{e:Trem.Ev}(hl:e.sp.length<=1000000):∀(k i:Nat),i+k=e.sp.length ->
  WL T [1,3] false iK [(1,.bf e.enc),(3,iI i)] J
   (λx e' J'=>J'=J/\if da (e.sp.drop i) Trem.pH.ok=true then x=.exit 0/\get e' 1=.bf e.enc else x=.ret/\get e' 2=.bool false)
 |0,i,hi=>by
  refine aB iK.eq_1 ?_;obtain rfl:i=e.sp.length:=by omega
  have h2:e.sp.drop e.sp.length=[]:=an (by omega);simp[h2,da]
 |k+1,i,hi=>by
  refine aB iK.eq_1 ?_;have h1:i<e.sp.length:=by omega
  obtain⟨s,hs⟩:=gE h1;have h2:=bu (f:=Trem.pH.enc) (w:=4) (λ_=>rfl) hs;have h4:=cr h1 (by omega);have ih:=N0 hl k (i+1) (by omega);rw[bD hs,show da (s::e.sp.drop (i+1)) Trem.pH.ok=(s.ok && da (e.sp.drop (i+1)) Trem.pH.ok)from rfl];cases c1:s.p.ok
  .simp[h1,h2,HN,c1,Trem.pH.ok]
  cases c2:Trem.bA s.mag 0 160
  .simp[h1,h2,HN,xe,c1,c2,Trem.pH.ok]
  simp[h1,h2,h4,HN,xe,c1,c2,Trem.pH.ok];exact WL.to ih (by simp) rfl λx e J' hh=>by simpa[c1,c2]using hh
theorem UR{e:Trem.Ev}(hl:e.sp.length<=1000000):Cl rY [.agg e.enc] (.bool e.ok) J:=by
 refine au rfl rfl rfl ?_;simp;refine WL.to (N0 hl e.sp.length 0 (by omega)) (by simp) rfl ?_;rintro x e' J' ⟨rfl,h⟩;rw[aE]at h;cases c0:da e.sp Trem.pH.ok
 .rw[c0]at h;simp at h;obtain⟨rfl,g2⟩:=h;simp[g2,Trem.Ev.ok,c0]
 rw[c0]at h;simp at h;obtain⟨rfl,g1⟩:=h;cases c1:Trem.bA e.tick 0 1000000
 .simp[g1,xe,c1,Trem.Ev.ok]
 have hi:Trem.bA e.sp.length 1 2000=(decide ((1:Int)<=e.sp.length) && decide ((e.sp.length:Int)<=2000)):=rfl;by_cases c2:(1:Int)<=e.sp.length
 .by_cases c3:(e.sp.length:Int)<=2000
  .simp[g1,xe,c1,c2,c3,c0,Trem.Ev.ok,hi]
  .simp[g1,xe,c1,c2,c3,c0,Trem.Ev.ok,hi]
 .simp[g1,xe,c1,c2,c0,Trem.Ev.ok,hi]
def Kq:List UInt8:=[114,117,108,101]
def PB:List UInt8:=[107,101,101,112]
def Kp:List UInt8:=[113,117,97,107,101]
theorem YK{b:Bk}{x y z:Int}:Cl kj [.agg (bS b),.str PB,.bY 3 [iI x,iI y,iI z]] (gp (if Trem.fw x y z=true then(J4 b x y z,0)else(b,1))) J:=by
 refine au rfl rfl rfl ?_;have hC:=λJ=>Yi (J:=J) (k0:=x) (k1:=y) (k2:=z)
 cases h:Trem.fw x y z
 .rw[h]at hC;simp[gW,PB,bS,hC,gp];exact⟨_,kN⟩
 .rw[h]at hC;simp[gW,PB,bS,hC,gp];exact⟨_,kN (b:=J4 b x y z)⟩
theorem Q1{x0 x1 x2 x3 x4 x5 x6 x7 x8 x9:Int}:Trem.cF.ok ⟨⟨x0,x1,x2⟩,⟨x3,x4,x5⟩,x6,x7,x8,max 0 (min x9 9)⟩=(bA x9 1 2 && Trem.cF.ok ⟨⟨x0,x1,x2⟩,⟨x3,x4,x5⟩,x6,x7,x8,x9⟩):=by
 rw[Bool.eq_iff_iff,af,Trem.yR,Trem.yR,aS];constructor
 .rintro⟨h1,h2,h3,h4,h5⟩;simp only at h5;exact⟨by omega,h1,h2,h3,h4,by simp only;omega⟩
 .rintro⟨h0,h1,h2,h3,h4,h5⟩;exact⟨h1,h2,h3,h4,by simp only;omega⟩
theorem YN{b:Bk}{x0 x1 x2 x3 x4 x5 x6 x7 x8 x9:Int}(hb:b.rules.length<=1000000)(hJ:J≠[]):Cl kj [.agg (bS b),.str Kq,.bY 10 [iI x0,iI x1,iI x2,iI x3,iI x4,iI x5,iI x6,iI x7,iI x8,iI x9]] (gp (rO b ⟨⟨x0,x1,x2⟩,⟨x3,x4,x5⟩,x6,x7,x8,x9⟩ x9)) J:=by
 refine au rfl rfl rfl ?_;have hn:=nr (f:=Trem.cF.enc) b.rules;by_cases h1:b.rules.length<20
 case neg =>
  have h1':(20:Int)<=b.rules.length:=by omega
  simp[gW,Kq,bS,hn,h1',rO,h1,gp];exact⟨_,kN⟩
 have h1':¬(20:Int)<=b.rules.length:=by omega
 have hw:IntKind.u8.wrap (max 0 (min x9 9))=max 0 (min x9 9):=wu8 (by omega);have hC:=λJ=>Yj (J:=J) (r:=⟨⟨x0,x1,x2⟩,⟨x3,x4,x5⟩,x6,x7,x8,max 0 (min x9 9)⟩)
 simp only[Trem.cF.enc,Q1]at hC;by_cases h2:bA x9 1 2=true/\Trem.cF.ok ⟨⟨x0,x1,x2⟩,⟨x3,x4,x5⟩,x6,x7,x8,x9⟩=true
 case neg =>
  have hd:rO b ⟨⟨x0,x1,x2⟩,⟨x3,x4,x5⟩,x6,x7,x8,x9⟩ x9=(b,1):=by
   unfold rO;rw[if_pos h1];split
   .rw[if_neg λh=>h2 ⟨by assumption,h⟩]
   .rfl
  rw[hd];have h3:(bA x9 1 2 && Trem.cF.ok ⟨⟨x0,x1,x2⟩,⟨x3,x4,x5⟩,x6,x7,x8,x9⟩)=false:=by simpa using h2
  rw[h3]at hC;simp[gW,Kq,bS,hn,h1',hw,hC,gp];exact⟨_,kN⟩
 have h3:1<=x9/\x9<=2:=aS.1 h2.1;rw[h2.1,h2.2,show max 0 (min x9 9)=x9 by omega]at hC;rw[show max 0 (min x9 9)=x9 by omega]at hw;have hm:max 0 (min x9 9)=x9:=by omega
 have l1:=Px b.rules;have l2:(fM b.rules Trem.cF.enc).take (b.rules.length*10)=fM b.rules Trem.cF.enc:=ai (by omega);have⟨r1,r2,r3⟩:b.rules.length*80<=room/\(b.rules.length+1)*80<=room/\80<=room:=by unfold room;omega
 by_cases hm0:b.rules=[]
 .simp[gW,Kq,bS,hm,hw,hC,rO,h2,gp,hm0,FA,r3];exact DQ (b:=b) (b':={b with rules:=[⟨⟨x0,x1,x2⟩,⟨x3,x4,x5⟩,x6,x7,x8,x9⟩] }) 11 10 (λ_=>rfl) acB [⟨⟨x0,x1,x2⟩,⟨x3,x4,x5⟩,x6,x7,x8,x9⟩] 0 0 1 hJ rfl rfl rfl (by simp) (by simp[bS,hm0,nl])
 .have e1:=jj (f:=Trem.cF.enc) hm0;simp[gW,Kq,bS,h1,h1',hm,hw,hC,rO,h2,gp,hm0,e1,l1,l2,r1,r2];exact DQ (b:=b) (b':={b with rules:=b.rules++[⟨⟨x0,x1,x2⟩,⟨x3,x4,x5⟩,x6,x7,x8,x9⟩] }) 11 10 (λ_=>rfl) acB (b.rules++[⟨⟨x0,x1,x2⟩,⟨x3,x4,x5⟩,x6,x7,x8,x9⟩]) 0 1 (b.rules.length+1) hJ rfl rfl (by simp) (by simp) (by simp[bS,Hu])
theorem Oc{A:List D}{sp:List Trem.pH}{tk:Int}(hl:sp.length<=1000000):∀(m j:Nat),j+m=sp.length ->
  WL T [2,3,6,10,11] false lL [(2,.bY (sp.length*4) (fM sp Trem.pH.enc)),(3,.own 0 A),(6,.own 0 zS),(10,.own 0 [iI tk,.sl J.length 0 j 0 j 4]),(11,iI (j*4))] ([.cells j (fM (sp.take j) Trem.pH.enc)]::J)
   (λx e J'=>x=.exit 1/\get e 3=.own 0 A/\get e 6=.own 0 zS/\get e 10=.own 0 [iI tk,.sl J.length 0 sp.length 0 sp.length 4]/\J'=[.cells sp.length (fM sp Trem.pH.enc)]::J)
 |0,j,h=>by
  refine aB lL.eq_1 ?_;obtain rfl:j=sp.length:=by omega
  simp
 |m+1,j,h=>by
  refine aB lL.eq_1 ?_;have h1:j<sp.length:=by omega
  obtain⟨p,hp⟩:=gE h1;have d0:=pA (f:=Trem.pH.enc) (w:=4) (λ_=>rfl) hp;have d1:=congrArg (List.drop 1) d0;have d2:=congrArg (List.drop 2) d0;have d3:=congrArg (List.drop 3) d0;simp[cS]at d1 d2 d3;have⟨h2,k1,k2,k3,n0,n1⟩:(j:Int)*4<(sp.length:Int)*4/\(j:Int)*4+1<(sp.length:Int)*4/\(j:Int)*4+2<(sp.length:Int)*4/\(j:Int)*4+3<(sp.length:Int)*4/\0<=(j:Int)*4/\0<=(j:Int)*4+1:=by omega
  have⟨n2,n3,t0,t1,t2,t3⟩:0<=(j:Int)*4+2/\0<=(j:Int)*4+3/\((j:Int)*4).toNat=j*4/\((j:Int)*4+1).toNat=j*4+1/\((j:Int)*4+2).toNat=j*4+2/\((j:Int)*4+3).toNat=j*4+3:=by omega
  have w1:=cf (n:=(j:Int)*4+1) (by omega);have w2:=cf (n:=(j:Int)*4+2) (by omega);have w3:=cf (n:=(j:Int)*4+3) (by omega);have w4:=cf (n:=(j:Int)*4+4) (by omega);have hl1:(sp.take j).length=j:=by simp;omega
  have hr:(j+1)*32<=room:=by unfold room;omega
  have ha:=Nu (sp.take j);rw[hl1]at ha;have ta:(fM (sp.take j) Trem.pH.enc).take (j*4)=fM (sp.take j) Trem.pH.enc:=ai (by omega);have ih:=Oc (A:=A) (tk:=tk) hl m (j+1) (by omega);have htk:sp.take (j+1)=sp.take j++[p]:=by rw[List.take_add_one,hp];rfl
  rw[htk,show((j+1:Nat):Int)*4=(j:Int)*4+4 by omega]at ih;simp[h1,k1,k2,k3,n0,n1,n2,n3,t0,t1,t2,t3,d0,d1,d2,d3,w1,w2,w3,w4,hr,ha,ta];exact WL.to ih (by simp) (by simp) λx e J' hh=>hh
theorem Vr{b:Bk}{sp:List Trem.pH}(hl:sp.length<=1000000)(hb:b.sV.length<=1000000)(hJ:J≠[]):Cl kj [.agg (bS b),.str Kp,.bY (sp.length*4) (fM sp Trem.pH.enc)] (gp (oK b sp)) J:=by
 refine au rfl rfl rfl ?_;have hn:=nr (f:=Trem.Ev.enc) b.sV;have hnp:=nr (f:=pE) b.az;by_cases h1:b.sV.length<200
 case neg =>
  have h1':(200:Int)<=b.sV.length:=by omega
  simp[gW,Kp,bS,hn,h1',oK,h1,gp];exact⟨_,kN⟩
 have h1':¬(200:Int)<=b.sV.length:=by omega
 have hL:=Oc (J:=J) (A:=bS b) (sp:=sp) (tk:=b.az.length) hl sp.length 0 (by omega);simp[gW,Kp,bS,hn,h1',hnp];refine WL.to hL (by simp[bS,zS]) (by simp) ?_;rintro x e J' ⟨rfl,g2,g4,g6,rfl⟩;have hC:=λJ=>UR (J:=J) (e:=⟨b.az.length,sp⟩) hl
 simp only[Trem.Ev.enc]at hC;have hf:=pV (f:=Trem.pH.enc) (w:=4) (λ_=>rfl) (λ_=>by simp[D.clean]) (l:=sp) (j:=0) (v:=sp.length) (bs:=[Abs.aD.cells sp.length (fM sp Trem.pH.enc)]) (J:=J) hJ rfl;cases h2:Trem.Ev.ok ⟨b.az.length,sp⟩
 .rw[h2]at hC;simp[g2,g4,g6,hf,hC,fS,eL,DW,zZ,oK,h1,h2,gp];exact⟨_,kN⟩
 .rw[h2]at hC;have l1:=Wl b.sV;have l2:(fM b.sV Trem.Ev.enc).take (b.sV.length*2)=fM b.sV Trem.Ev.enc:=ai (by omega);have⟨r1,r2,r3⟩:b.sV.length*32<=room/\(b.sV.length+1)*32<=room/\32<=room:=by unfold room;omega
  by_cases hm:b.sV=[]
  .simp[g2,g4,g6,hf,hC,bS,zS,oK,h2,gp,hm,FA,r3];exact DQ (b:=b) (b':=DO b ⟨b.az.length,sp⟩) 12 2 (λ_=>rfl) acA [⟨b.az.length,sp⟩] 1 0 1 hJ rfl rfl rfl (by simp) (by simp[bS,DO,hm,nl])
  .have e1:=jj (f:=Trem.Ev.enc) hm;simp[g2,g4,g6,hf,hC,bS,zS,oK,h1,h2,gp,hm,e1,l1,l2,r1,r2];exact DQ (b:=b) (b':=DO b ⟨b.az.length,sp⟩) 12 2 (λ_=>rfl) acA (b.sV++[⟨b.az.length,sp⟩]) 1 1 (b.sV.length+1) hJ rfl rfl (by simp) (by simp) (by simp[bS,DO,Hu])
def DS:List UInt8:=[102,105,101,108,100]
def HC:List UInt8:=[116,97,98,108,101]
def Ko:List UInt8:=[98,101,100]
def DT:List UInt8:=[119,101,108,108]
theorem cI{b:Bk}{X:List D}{e:Int}{L:Nat}{S:SK}{s:List Abs.aD}(h:bS b=X):∃s',cG L 16 (.cV [.agg X,iI e]) (s::S)=(.cV [.agg X,iI e],s'::S):=by
 subst h;exact⟨_,kN⟩
theorem Ef{b:Bk}{X:List D}{e:Int}{L:Nat}{S:SK}{s:List Abs.aD}(h:bS b=X):∃s',cG L 16 (.cV [.agg X,iI e]) (s::S)=(.cV [.agg (bS b),iI e],s'::S):=by
 subst h;exact⟨_,kN⟩
theorem ub(b:Bk):nl bG.enc b.aQ.av=.aW\/nl bG.enc b.aQ.av=lF b.aQ.av bG.enc/\b.aQ.av≠[]:=by
 by_cases h:b.aQ.av=[]
 .exact .inl (by simp[nl,h])
 .exact .inr ⟨by simp[nl,h],h⟩
theorem Vm{b:Bk}{x y z k:Int}(hw:b.aQ.av.length<=1000000)(hn:((b.aQ.f.x=0/\b.aQ.f.y=0)/\b.aQ.f.z=0/\b.aQ.f.k=0)->b.aQ.av=[]):
  Cl jA [.agg (bS b),.str DS,.bY 4 [iI x,iI y,iI z,iI k]] (gp (Go.Book.nF b x y z k)) J:=by
 refine au rfl rfl rfl ?_;have hf:=λJ=>NG (J:=J) (f:=⟨x,y,z,k⟩)
 have r1:b.aQ.av.length*24<=room:=by unfold room;omega
 have l1:=xF b.aQ.av;by_cases h0:(b.aQ.f.x=0/\b.aQ.f.y=0)/\b.aQ.f.z=0/\b.aQ.f.k=0
 case neg =>
  have hq:¬b.aQ.f.x=0\/¬b.aQ.f.y=0\/¬b.aQ.f.z=0\/¬b.aQ.f.k=0:=by omega
  have hd:Go.Book.nF b x y z k=(b,8):=if_neg h0;rw[hd];rcases ub b with hE | ⟨hE,hne⟩
  .simp[gW,DS,bS,hE,hq,gp];exact cI (b:=b) (by simp[bS,hE])
  .simp[gW,DS,bS,hE,hne,r1,l1,hq,gp];exact cI (b:=b) (by simp[bS,hE])
 have hq:(¬b.aQ.f.x=0\/¬b.aQ.f.y=0\/¬b.aQ.f.z=0\/¬b.aQ.f.k=0)=False:=by simp;omega
 have hE:nl bG.enc b.aQ.av=.aW:=by simp[nl,hn h0]
 by_cases h1:(dw.mk x y z k).valid=true/\4<=k
 .have hd:Go.Book.nF b x y z k=({b with aQ:={b.aQ with f:=⟨x,y,z,k⟩ } },0):=by unfold Go.Book.nF;rw[if_pos h0,if_pos h1]
  rw[hd];rw[h1.1]at hf;simp[gW,DS,bS,hE,hq,gp,hf,show ¬k<4 by omega];exact cI (b:={b with aQ:={b.aQ with f:=⟨x,y,z,k⟩ } }) (by simp[bS,hE])
 have hd:Go.Book.nF b x y z k=(b,1):=by unfold Go.Book.nF;rw[if_pos h0,if_neg h1]
 rw[hd];cases h2:(dw.mk x y z k).valid
 .rw[h2]at hf;simp[gW,DS,bS,hE,hq,gp,hf];exact cI (b:=b) (by simp[bS,hE])
 .rw[h2]at hf;have h3:k<4:=Int.not_le.1 λh=>h1 ⟨h2,h⟩
  simp[gW,DS,bS,hE,hq,gp,hf,h3];exact cI (b:=b) (by simp[bS,hE])
def Pr(L:Nat):Nat->D
 |0 => .aW
 |j+1 => .sl L 0 j 0 (j+1) 5
def KX(t:List Rw):Nat->List Abs.aD
 |0=>[]
 |j+1=>[.cells j (fM (t.take (j+1)) Rw.enc)]
def G2(b:Bk)(W:D):List D:=[iI b.aQ.f.x,iI b.aQ.f.y,iI b.aQ.f.z,iI b.aQ.f.k,W,iI b.aQ.cz,iI b.aQ.lift,iI b.aQ.deep,.aW]
theorem Oe{A:List D}{b:Bk}{t:List Rw}(hl:t.length<=1000000):∀(m j:Nat),j+m=t.length ->
  WL T [2,3,6,8,9] false od [(2,.bY (t.length*5) (fM t Rw.enc)),(3,.own 0 A),(6,.own 0 zS),(8,.own 0 (G2 b (Pr J.length j))),(9,iI (j*5))] (KX t j::J)
   (λx e J'=>x=.exit 1/\get e 3=.own 0 A/\get e 6=.own 0 zS/\get e 8=.own 0 (G2 b (Pr J.length t.length))/\J'=KX t t.length::J)
 |0,j,h=>by
  refine aB od.eq_1 ?_;obtain rfl:j=t.length:=by omega
  simp[G2]
 |m+1,j,h=>by
  refine aB od.eq_1 ?_;have h1:j<t.length:=by omega
  obtain⟨p,hp⟩:=gE h1;have d0:=pA (f:=Rw.enc) (w:=5) (λ_=>rfl) hp;have d1:=congrArg (List.drop 1) d0;have d2:=congrArg (List.drop 2) d0;have d3:=congrArg (List.drop 3) d0;have d4:=congrArg (List.drop 4) d0;simp[cS]at d1 d2 d3 d4;have⟨h2,k1,k2,k3,k4,n0⟩:(j:Int)*5<(t.length:Int)*5/\(j:Int)*5+1<(t.length:Int)*5/\(j:Int)*5+2<(t.length:Int)*5/\(j:Int)*5+3<(t.length:Int)*5/\(j:Int)*5+4<(t.length:Int)*5/\0<=(j:Int)*5:=by omega
  have⟨n1,n2,n3,n4,t0,t1⟩:0<=(j:Int)*5+1/\0<=(j:Int)*5+2/\0<=(j:Int)*5+3/\0<=(j:Int)*5+4/\((j:Int)*5).toNat=j*5/\((j:Int)*5+1).toNat=j*5+1:=by omega
  have⟨t2,t3,t4⟩:((j:Int)*5+2).toNat=j*5+2/\((j:Int)*5+3).toNat=j*5+3/\((j:Int)*5+4).toNat=j*5+4:=by omega
  have w1:=cf (n:=(j:Int)*5+1) (by omega);have w2:=cf (n:=(j:Int)*5+2) (by omega);have w3:=cf (n:=(j:Int)*5+3) (by omega);have w4:=cf (n:=(j:Int)*5+4) (by omega);have w5:=cf (n:=(j:Int)*5+5) (by omega);have ih:=Oe (A:=A) (b:=b) hl m (j+1) (by omega);have htk:t.take (j+1)=t.take j++[p]:=by rw[List.take_add_one,hp];rfl
  rw[show((j+1:Nat):Int)*5=(j:Int)*5+5 by omega]at ih;have hl1:(t.take j).length=j:=by simp;omega
  have ha:=Nm (t.take j);rw[hl1]at ha;have ta:(fM (t.take j) Rw.enc).take (j*5)=fM (t.take j) Rw.enc:=ai (by omega);have hr:(j+1)*40<=room:=by unfold room;omega
  have eN:Pr J.length (j+1)=.sl J.length 0 j 0 (j+1) 5:=rfl;have eG:KX t (j+1)=[.cells j (fM (t.take j) Rw.enc++p.enc)]:=by simp[KX,htk]
  rw[eN,eG]at ih;by_cases hz:j=0
  .have e1:Pr J.length j=.aW:=by rw[hz];rfl
   have e2:KX t j=[]:=by rw[hz];rfl
   have e3:t.take j=[]:=by rw[hz];rfl
   rw[e3]at ih;simp[G2,e1,e2,h1,k1,k2,k3,k4,n0,n1,n2,n3,n4,t0,t1,t2,t3,t4,d0,d1,d2,d3,d4,w1,w2,w3,w4,w5,show 40<=room by unfold room;omega];exact WL.to ih (by simp[G2,hz]) (by simp[hz]) λx e J' hh=>by simpa[G2]using hh
  .have e0:j-1+1=j:=by omega
   have e1:Pr J.length j=.sl J.length 0 (j-1) 0 j 5:=by rw[<- e0];rfl
   have e2:KX t j=[.cells (j-1) (fM (t.take j) Rw.enc)]:=by rw[<- e0];rfl
   simp[G2,e1,e2,h1,k1,k2,k3,k4,n0,n1,n2,n3,n4,t0,t1,t2,t3,t4,d0,d1,d2,d3,d4,w1,w2,w3,w4,w5,hr,ha,ta,e0];exact WL.to ih (by simp[G2]) (by simp) λx e J' hh=>by simpa[G2]using hh
theorem NM:Cl vh [.aW] (.bool false) J:=by
 refine au rfl rfl rfl ?_;simp;refine aB km.eq_1 ?_;simp[]
theorem Vs{b:Bk}{t:List Rw}(hl:t.length<=1000000)(hw:b.aQ.av.length<=1000000)(hn:b.aQ.dL=[]->b.aQ.av=[])(hJ:J≠[]):
  Cl jA [.agg (bS b),.str HC,.bY (t.length*5) (fM t Rw.enc)] (gp (lE b t)) J:=by
 refine au rfl rfl rfl ?_;have r1:b.aQ.av.length*24<=room:=by unfold room;omega
 have l1:=xF b.aQ.av;have hnt:=nr (f:=Rw.enc) b.aQ.dL;by_cases h0:b.aQ.dL=[]
 case neg =>
  have hd:lE b t=(b,8):=if_neg h0;have hq:0<b.aQ.dL.length:=aG.2 h0;rw[hd];rcases ub b with hE | ⟨hE,hne⟩
  .simp[gW,HC,bS,hE,hq,gp,hnt];exact cI (b:=b) (by simp[bS,hE])
  .simp[gW,HC,bS,hE,hne,r1,l1,hq,gp,hnt];exact cI (b:=b) (by simp[bS,hE])
 have hE:nl bG.enc b.aQ.av=.aW:=by simp[nl,hn h0]
 have hT:nl Rw.enc b.aQ.dL=.aW:=by simp[nl,h0]
 have hL:=Oe (J:=J) (A:=bS b) (b:=b) hl t.length 0 (by omega);simp[gW,HC,bS,hE,hT];refine WL.to hL (by simp[bS,hE,hT,G2,zS,Pr]) (by simp[KX]) ?_;rintro x e J' ⟨rfl,g3,g6,g8,rfl⟩;by_cases hz:t=[]
 .have hd:lE b t=(b,1):=by subst hz;simp[lE,h0,fO,bA]
  rw[hd];have e1:Pr J.length t.length=.aW:=by rw[hz];rfl
  have e2:KX t t.length=[]:=by rw[hz];rfl
  rw[e1]at g8;simp[g3,g6,g8,e2,G2,NM,fS,eL,DW,zZ,gp];exact cI (b:=b) rfl
 .have e0:t.length-1+1=t.length:=by have:=aG.2 hz;omega
  have e1:Pr J.length t.length=.sl J.length 0 (t.length-1) 0 t.length 5:=by rw[<- e0];rfl
  have e2:KX t t.length=[.cells (t.length-1) (fM t Rw.enc)]:=by rw[<- e0];simp[KX,e0]
  have hf:=pV (f:=Rw.enc) (w:=5) (λ_=>rfl) (λ_=>by simp[D.clean]) (l:=t) (j:=0) (v:=t.length-1) (bs:=[Abs.aD.cells (t.length-1) (fM t Rw.enc)]) (J:=J) hJ rfl;have hC:=λJ=>NL (J:=J) (t:=t) (by omega)
  rw[e1]at g8;cases h2:fO t
  .have hd:lE b t=(b,1):=by simp[lE,h0,h2]
   rw[hd];rw[h2]at hC;simp[g3,g6,g8,e2,hf,G2,hC,fS,eL,DW,zZ,gp];exact cI (b:=b) rfl
  .have hd:lE b t=(HH b t,0):=by simp[lE,h0,h2]
   rw[hd];rw[h2]at hC;simp[g3,g6,g8,e2,hf,G2,hC,bS,hE,hT,zS,gp];exact Ef (b:=HH b t) (by simp[bS,HH,hE,jj hz])
theorem abW{b:Bk}{x y z:Int}(ht:b.aQ.dL.length<=1000000)(hw:b.aQ.av.length<=1000000)(hn:b.ready=false->b.aQ.av=[])(hJ:J≠[]):
  Cl jA [.agg (bS b),.str Ko,.bY 3 [iI x,iI y,iI z]] (gp (xH b x y z)) J:=by
 refine au rfl rfl rfl ?_;have r1:b.aQ.av.length*24<=room:=by unfold room;omega
 have l1:=xF b.aQ.av;have hnt:=nr (f:=Rw.enc) b.aQ.dL;by_cases h0:((b.aQ.f.x=0/\b.aQ.f.y=0)/\b.aQ.f.z=0/\b.aQ.f.k=0)\/b.aQ.dL=[]\/b.ready=true
 .have hd:xH b x y z=(b,8):=if_pos h0;rw[hd];by_cases hq1:b.aQ.f.x=0/\b.aQ.f.y=0/\b.aQ.f.z=0/\b.aQ.f.k=0
  .rcases ub b with hE | ⟨hE,hne⟩
   .simp[gW,Ko,bS,hE,hq1,gp];exact cI (b:=b) (by simp[bS,hE,hq1])
   .simp[gW,Ko,bS,hE,hne,r1,l1,hq1,gp];exact cI (b:=b) (by simp[bS,hE,hq1])
  .have hq:(b.aQ.f.x=0->b.aQ.f.y=0->b.aQ.f.z=0->¬b.aQ.f.k=0)=True:=eq_true λh1 h2 h3 h4=>hq1 ⟨h1,h2,h3,h4⟩
   have hq3:(b.aQ.f.x=0/\b.aQ.f.y=0/\b.aQ.f.z=0/\b.aQ.f.k=0)=False:=eq_false hq1;by_cases hq2:b.aQ.dL=[]
   .rcases ub b with hE | ⟨hE,hne⟩
    .simp[gW,Ko,bS,hE,hq,hq3,hq2,gp];exact cI (b:=b) (by simp[bS,hE,hq2])
    .simp[gW,Ko,bS,hE,hne,r1,l1,hq,hq3,hq2,gp];exact cI (b:=b) (by simp[bS,hE,hq2])
   .have hr:b.ready=true:=by
     rcases h0 with h | h | h
     .exact absurd ⟨h.1.1,h.1.2,h.2.1,h.2.2⟩ hq1
     .exact absurd h hq2
     .exact h
    have hb:((b.aQ.dL.length:Int) == 0)=false:=by have:=aG.2 hq2;rw[beq_eq_false_iff_ne];omega
    rcases ub b with hE | ⟨hE,hne⟩
    .simp[gW,Ko,bS,hE,hq,hq3,hnt,hb,hr,gp];exact cI (b:=b) (by simp[bS,hE,hr])
    .simp[gW,Ko,bS,hE,hne,r1,l1,hq,hq3,hnt,hb,hr,gp];exact cI (b:=b) (by simp[bS,hE,hr])
 have hq:(b.aQ.f.x=0->b.aQ.f.y=0->b.aQ.f.z=0->¬b.aQ.f.k=0)=True:=eq_true λh1 h2 h3 h4=>h0 (.inl ⟨⟨h1,h2⟩,h3,h4⟩)
 have hq3:(b.aQ.f.x=0/\b.aQ.f.y=0/\b.aQ.f.z=0/\b.aQ.f.k=0)=False:=eq_false λh=>h0 (.inl ⟨⟨h.1,h.2.1⟩,h.2.2.1,h.2.2.2⟩)
 have hb:((b.aQ.dL.length:Int) == 0)=false:=by have:=aG.2 (show b.aQ.dL≠[]from λh=>h0 (.inr (.inl h)));rw[beq_eq_false_iff_ne];omega
 have hq2:b.aQ.dL≠[]:=λh=>h0 (.inr (.inl h))
 have hr:b.ready=false:=by
  cases h:b.ready with
  |false=>rfl
  |true=>exact absurd (.inr (.inr h)) h0
 have hw0:=hn hr;have hE:nl bG.enc b.aQ.av=.aW:=by simp[nl,hw0]
 have hT:=jj (f:=Rw.enc) hq2;have hC:=λJ=>Rq (J:=J) (b:=(CU b x y z).aQ) (wq:=.aW) (show b.aQ.dL.length<=_ by omega) (show b.aQ.av.length<=_ by omega) (by simp[CU,hw0])
 simp only[CU]at hC;cases hv:(CU b x y z).aQ.valid
 .have hd:xH b x y z=(b,1):=by unfold xH;rw[if_neg h0,hv];rfl
  rw[hd];simp only[CU]at hv;rw[hv]at hC;simp[gW,Ko,bS,hE,hT,hq,hq3,hb,hr,gp,hC];exact cI (b:=b) (by simp[bS,hE,hT,hr])
 .have hd:xH b x y z=(CU b x y z,0):=by unfold xH;rw[if_neg h0,if_pos hv]
  rw[hd];simp only[CU]at hv;rw[hv]at hC;simp[gW,Ko,bS,hE,hT,hq,hq3,hb,hr,gp,hC];exact Ef (b:=CU b x y z) (by simp[bS,CU,hE,hT])
theorem YS{b:Bk}{x y z:Int}(ht:b.aQ.dL.length<=1000000)(hw:b.aQ.av.length<=1000000)(hn:b.ready=true->b.aQ.dL≠[])(hJ:J≠[]):
  Cl jA [.agg (bS b),.str DT,.bY 3 [iI x,iI y,iI z]] (gp (tc b x y z)) J:=by
 refine au Oi zp.eq_1 rfl ?_;have⟨r1,r2,r3⟩:b.aQ.av.length*24<=room/\(b.aQ.av.length+1)*24<=room/\24<=room:=by unfold room;omega
 have l1:=xF b.aQ.av;have l2:(fM b.aQ.av bG.enc).take (b.aQ.av.length*3)=fM b.aQ.av bG.enc:=ai (by omega);have hnm:=nr (f:=dQ.enc) b.ah;by_cases h0:b.ready=true/\b.ah=[]
 case neg =>
  have hd:tc b x y z=(b,8):=if_neg h0;rw[hd];cases hr:b.ready
  .rcases ub b with hE | ⟨hE,hne⟩
   .simp[gW,DT,bS,hE,hr,gp];exact cI (b:=b) (by simp[bS,hE,hr])
   .simp[gW,DT,bS,hE,hne,r1,l1,hr,gp];exact cI (b:=b) (by simp[bS,hE,hr])
  .have hq:0<b.ah.length:=aG.2 λh=>h0 ⟨hr,h⟩
   rcases ub b with hE | ⟨hE,hne⟩
   .simp[gW,DT,bS,hE,hr,hnm,hq,gp];exact cI (b:=b) (by simp[bS,hE,hr])
   .simp[gW,DT,bS,hE,hne,r1,l1,hr,hnm,hq,gp];exact cI (b:=b) (by simp[bS,hE,hr])
 obtain⟨hr,hm⟩:=h0;have hT:=jj (f:=Rw.enc) (hn hr)
 try simp only[lF]at hT
 have hd0:tc b x y z=if(nD b x y z).aQ.valid=true then(nD b x y z,0)else(b,1):=if_pos ⟨hr,hm⟩
 have hC:=λJ=>abE (J:=J) (b:=(nD b x y z).aQ) (show b.aQ.dL.length<=_ by omega) (by simp[nD];omega)
 try simp only[lF,Cl,bL]at hC
 simp only[nD,bB,aK,bx,ot,eg,rP,cX,bG.enc,ck]at hC;have hq:¬0<b.ah.length:=by rw[hm];simp
 have hTc:(lF b.aQ.dL Rw.enc).clean=true:=by simp[D.clean,Cz]
 try simp only[lF]at hTc
 have clB:∀x:bG,D.bd x.enc=true:=λ_=>by simp[D.clean]
 cases hv:(nD b x y z).aQ.valid
 .rw[hd0,hv];simp only[nD]at hv;rw[hv]at hC;rcases ub b with hE | ⟨hE,hne⟩
  .have hw0:b.aQ.av=[]:=by unfold nl at hE;split at hE<;>first | assumption | cases hE
   have hf:=pV (f:=bG.enc) (w:=3) (λ_=>rfl) clB (l:=[bG.mk x y z]) (j:=0) (v:=0) (bs:=[.cells 0 [iI x,iI y,iI z]]) (J:=J) hJ rfl;simp[hw0]at hC;simp at hf;simp[gW,DT,bS,hE,hT,hr,hm,r3,hTc,hf,hC,gp];exact cI (b:=b) (by simp[bS,hE,hT,hr,hm])
  .have hf:=pV (f:=bG.enc) (w:=3) (λ_=>rfl) clB (l:=b.aQ.av++[bG.mk x y z]) (j:=0) (v:=1) (bs:=[.cells 1 (fM (b.aQ.av++[bG.mk x y z]) bG.enc)]) (J:=J) hJ rfl;simp at hf;simp[gW,DT,bS,hE,hT,hne,hr,hm,r1,r2,l1,l2,hTc,hf,hC,gp];exact cI (b:=b) (by simp[bS,hE,hT,hr,hm])
 .rw[hd0,hv];simp only[nD]at hv;rw[hv]at hC;rcases ub b with hE | ⟨hE,hne⟩
  .have hw0:b.aQ.av=[]:=by unfold nl at hE;split at hE<;>first | assumption | cases hE
   have hf:=pV (f:=bG.enc) (w:=3) (λ_=>rfl) clB (l:=[bG.mk x y z]) (j:=0) (v:=0) (bs:=[.cells 0 [iI x,iI y,iI z]]) (J:=J) hJ rfl;simp[hw0]at hC;simp at hf;simp[gW,DT,bS,hE,hT,hr,hm,r3,hTc,hf,hC,gp];exact Ef (b:=nD b x y z) (by simp[bS,nD,nl,hr,hm,hw0,hn hr])
  .have hf:=pV (f:=bG.enc) (w:=3) (λ_=>rfl) clB (l:=b.aQ.av++[bG.mk x y z]) (j:=0) (v:=1) (bs:=[.cells 1 (fM (b.aQ.av++[bG.mk x y z]) bG.enc)]) (J:=J) hJ rfl;simp at hf;simp[gW,DT,bS,hE,hT,hne,hr,hm,r1,r2,l1,l2,hTc,hf,hC,gp];exact Ef (b:=nD b x y z) (by simp[bS,nD,hT,Hu,hr,hm])
theorem JA:∀{a c:List D},D.bd (a++c)=(D.bd a && D.bd c)
 |[],_=>rfl
 |d::a,c=>by simp only[cm,D.bd,JA (a:=a),Bool.and_assoc]
theorem SV{b b':Bk}{e:Int}{ms:List dQ}{ws:List Ae}(v n n':Nat){X cs cs':List D}{bs:List Abs.aD}(hJ:J≠[])(h0:bs[0]?=some (.cells v cs))(h1:bs[1]?=some (.cells v cs'))(hX:X=(bS b).take 9 ++ .sl J.length 0 v 0 n 4::(((bS b).drop 10).take 9++[.sl J.length 1 v 0 n' 4]))
  (hn:ms.length=n) (hn':ws.length=n') (hcs:fM ms dQ.enc=cs) (hcs':fM ws Ae.enc=cs') (hb:bS b'=(bS b).take 9 ++ .bY n cs::(((bS b).drop 10).take 9++[.bY n' cs'])):
  ∃s,cG (J.length-1) 16 (.cV [.agg X,iI e]) (bs::J)=(.cV [.agg (bS b'),iI e],s::J):=by
 subst hX hn hn' hcs hcs';have c1:=(vt (n:=9) (nu (b:=b))).1;have c2:=(vt (n:=9) (vt (n:=10) (nu (b:=b))).2).1;have h3:D.bd ((bS b).take 9 ++ .sl J.length 0 v 0 ms.length 4::(((bS b).drop 10).take 9++[.sl J.length 1 v 0 ws.length 4]))=false:=by simp[JA,D.clean]
 have k1:=nB (n:=14) (f:=dQ.enc) (w:=4) (l:=ms) (j:=0) (v:=v) (bs:=bs) (by decide) (λ_=>rfl) clE hJ h0;have k2:=nB (n:=14) (f:=Ae.enc) (w:=4) (l:=ws) (j:=1) (v:=v) (bs:=bs.set 0 .dead) (by decide) (λ_=>rfl) acE hJ (by rw[List.getElem?_set_ne (by decide)];exact h1);rw[tA (by simp[D.clean,h3]) (by omega),hb];simp only[lA,nf];rw[D8 h3 (by omega),Dn (by omega) c1,k1];simp only;rw[Dn (by omega) c2,k2];simp only[nf];rw[eW rfl (by omega)];exact⟨_,rfl⟩
theorem Ob{b:Bk}{nm:List UInt8}{l:D}(hc1:l.calm=l)(hl:b.ah.length<=1000000):∀(k i:Nat),i+k=b.ah.length ->
  WL T [1,2,3,6,8] false m7 [(1,.str nm),(2,l),(3,.own 0 (bS b)),(6,.own 0 zS),(8,iI i)] J
   (λx e J'=>J'=J/\if l9 (b.ah.drop i) (λe=>e.m.name == nm)=true then x=.ret/\get e 6=.own 0 (bS b)/\get e 7=iI 6 else x=.exit 0/\get e 1=.str nm/\get e 2=l/\get e 3=.own 0 (bS b)/\get e 6=.own 0 zS)
 |0,i,hi=>by
  refine aB m7.eq_1 ?_;obtain rfl:i=b.ah.length:=by omega
  have h2:b.ah.drop b.ah.length=[]:=an (by omega);have hn:=nr (f:=dQ.enc) b.ah;rw[h2];simp[bS,hn,l9,hc1]
 |k+1,i,hi=>by
  refine aB m7.eq_1 ?_;have⟨h1,h1'⟩:i<b.ah.length/\(i:Int)<b.ah.length:=by omega
  obtain⟨e,he⟩:=gE h1;have hne:b.ah≠[]:=λh=>by rw[h]at h1;simp at h1
  have h2:=JI he;simp only[dQ.enc]at h2;have h4:=cr h1 (by omega);have hn:=jj (f:=dQ.enc) hne;have ih:=Ob (nm:=nm) hc1 hl k (i+1) (by omega);rw[bD he,show l9 (e::b.ah.drop (i+1)) (λe=>e.m.name == nm)=((e.m.name == nm) || l9 (b.ah.drop (i+1)) λe=>e.m.name == nm)from rfl];cases hc:e.m.name == nm
  .simp[gW,bS,hn,h1',h2,h4,hc,hc1];exact WL.to ih (by simp[bS,hn]) rfl λx e J hh=>by simpa[bS,hn,hc]using hh
  .simp[gW,bS,hn,h1',h2,hc,zS]
theorem Vq{b:Bk}{m:bV}(hb:b.ready=true->b.aQ.valid=true)(hl:b.ah.length<=1000000)(hw:b.dq.length=b.ah.length)(hn:m.name.length<=1000000000)(hv:m.dn.length<=1000000000)(hJ:J≠[]):
  Cl vj [.agg (bS b),.str m.name,lF m.dn aT] (gp (pJ b m)) J:=by
 refine au rfl rfl rfl ?_;have hnp:=nr (f:=pE) b.az;have hnm:=nr (f:=dQ.enc) b.ah;by_cases h0:b.ready=true/\b.az=[]
 case neg =>
  have hd:pJ b m=(b,8):=if_neg h0;rw[hd];cases hr:b.ready
  .simp[bS,hr,gp];exact cI (b:=b) (by simp[bS,hr])
  .have hq:0<b.az.length:=aG.2 λh=>h0 ⟨hr,h⟩
   simp[bS,hr,hnp,hq,gp];exact cI (b:=b) (by simp[bS,hr])
 have hd:pJ b m=if(l9 b.ah λe=>e.m.name == m.name)=true then(b,6)else if b.ah.length<40 then(if Bd b.aQ m=true then(yI b m,0)else(b,1))else(b,3):=by unfold pJ;rw[if_pos h0]
 rw[hd];obtain⟨hr,hp⟩:=h0;have hq:¬0<b.az.length:=by rw[hp];simp
 have hL:=Ob (J:=[]::J) (b:=b) (nm:=m.name) (l:=lF m.dn aT) rfl hl b.ah.length 0 (by omega);simp[bS,hr,hnp,hq];refine WL.to hL (by simp[bS,zS,hr]) rfl ?_;rintro x e J' ⟨rfl,h⟩;rw[aE]at h;cases hc:l9 b.ah λe=>e.m.name == m.name
 case true =>
  rw[hc]at h;simp at h;obtain⟨rfl,g6,g7⟩:=h;simp[g6,g7,gp,fS,eL];exact cI (b:=b) rfl
 rw[hc]at h;simp at h;obtain⟨rfl,g1,g2,g3,g6⟩:=h;by_cases h1:b.ah.length<40
 case neg =>
  simp[g1,g2,g3,g6,bS,zS,hnm,show(40:Int)<=b.ah.length by omega,h1,gp];exact cI (b:=b) rfl
 have h1':¬(40:Int)<=b.ah.length:=by omega
 have hbv:=Bv.of (hb hr);have ht:b.aQ.dL≠[]:=λh=>by have:=hbv.dL;rw[h]at this;simp[fO,bA]at this
 have hT:=jj (f:=Rw.enc) ht;have hC:=λJ=>US (J:=J) (b:=b.aQ) (m:=m) (wq:=nl bG.enc b.aQ.av) hbv (by omega) (by omega) ke
 cases h2:fits b.aQ m
 .have hBd:Bd b.aQ m=false:=by simp[Bd,h2]
  rw[h2]at hC;simp[g1,g2,g3,g6,bS,zS,hnm,h1',h1,hT,hC,hBd,gp];exact cI (b:=b) (by simp[bS,hT])
 .have hBd:Bd b.aQ m=true:=by simp[Bd,h2,hb hr]
  rw[h2]at hC;have l1:=xn b.ah;have l2:=Em b.dq;have l3:(fM b.ah dQ.enc).take (b.ah.length*4)=fM b.ah dQ.enc:=ai (by omega);have l4:(fM b.dq Ae.enc).take (b.dq.length*4)=fM b.dq Ae.enc:=ai (by omega);have⟨r1,r2,r3,r4,r5,r6⟩:b.ah.length*56<=room/\(b.ah.length+1)*56<=room/\b.dq.length*32<=room/\(b.dq.length+1)*32<=room/\56<=room/\32<=room:=by unfold room;omega
  by_cases hm:b.ah=[]
  .have hw0:b.dq=[]:=bw.1 (by rw[hw,hm];rfl);simp[g1,g2,g3,g6,bS,zS,hT,hC,hBd,hm,hw0,FA,r5,r6,gp];exact SV (b:=b) (b':=yI b m) (ms:=[⟨m,true,0⟩]) (ws:=[⟨0,0,0,0⟩]) 0 1 1 hJ rfl rfl (by simp[bS,hT]) rfl rfl (by simp) (by simp) (by simp[bS,yI,hm,hw0,nl,ht])
  .have hwn:b.dq≠[]:=λh=>by rw[h]at hw;exact hm (bw.1 hw.symm)
   have e1:=jj (f:=dQ.enc) hm;have e2:=jj (f:=Ae.enc) hwn;simp[g1,g2,g3,g6,bS,zS,h1',h1,hT,hC,hBd,hm,hwn,e1,e2,l1,l2,l3,l4,r1,r2,r3,r4,gp];exact SV (b:=b) (b':=yI b m) (ms:=b.ah++[⟨m,true,0⟩]) (ws:=b.dq++[⟨0,0,0,0⟩]) 1 (b.ah.length+1) (b.dq.length+1) hJ rfl rfl (by simp[bS,hT]) (by simp) (by simp) (by simp) (by simp) (by simp[bS,yI,hT,Hu])
theorem VF{f:dw}{m:bV}{x:pG}(hm:Fm f m)(hx:Y6 f x):∀(k i:Nat) (acc:Int),i+k=x.bl.length -> -(i*100000000)<=acc/\acc<=i*100000000 ->
  WL T [2,3,4,5,6,11,12] false mO [(2,iI x.kind),(3,lF x.bl aT),(4,lF x.wt aT),(5,.bf (fL f)),(6,.bf (mL m)),(11,iI acc),(12,iI i)] J
   (λx' e J'=>J'=J/\x'=.exit 0/\get e 11=iI (PN m.dn (x.kind*f.size) acc (x.bl.drop i) (x.wt.drop i))):=by
 intro k;induction k with
 |zero =>
  intro i acc hi ha;refine aB mO.eq_1 ?_;have h1:¬i<x.bl.length:=by omega
  have h2:x.bl.drop i=[]:=an (by omega);simp[h1,h2,PN]
 |succ k ih0 =>
  intro i acc hi ha;refine aB mO.eq_1 ?_;have h1:i<x.bl.length:=by omega
  have hlen:=hx.len;have h1':i<x.wt.length:=by omega
  obtain⟨b,hb⟩:=gE h1;obtain⟨w,hw⟩:=gE h1';obtain⟨q1,q2⟩:=Br hm.fv;obtain⟨z1,z2,z3,z4,z5⟩:=dw.nv.1 hm.fv;obtain⟨s1,s2,s3⟩:=KF hx.aac hb hw;have hl64:=HG hx.len hx.aac (by omega);have h4:=cr h1 (by omega);have h5:=bD hb;have h6:=bD hw;have h2:=gr hb;have h3:=gr hw;have k1:=hx.kind;have k2:0<=x.kind*f.size/\x.kind*f.size+f.size<=f.k*f.size:=by
   refine⟨bF k1.1 (by omega),?_⟩;have:=dN (show x.kind+1<=f.k by omega) (show 0<=f.size by omega);rw[Int.add_mul]at this;omega
  have hvl:=hm.len;obtain⟨j,hj⟩:∃j:Nat,x.kind*f.size+b=j:=⟨(x.kind*f.size+b).toNat,by omega⟩;have hj1:j<m.dn.length:=by omega
  obtain⟨v,hv⟩:=gE hj1;have hvb:=hm.ok v (aj hv);have h7:=gr hv;have hB:=λJ=>oX (J:=J) hm.fv
  have b1:=QP (a:=w) (b:=v) (A:=1000) (B:=100000) (by omega) hvb (by omega);have w1:=cf (n:=x.kind*f.size) (by omega);have w2:=cf (n:=(j:Int)) (by omega);have w3:=cf (n:=w*v) (by omega);have w4:=cf (n:=acc+w*v) (by omega);have ih:=ih0 (i+1) (acc+w*v) (by omega) (by omega);rw[h5,h6,PN,hj];simp only[Int.toNat_natCast];simp[h1,h1',h2,h3,h4,hB,w1,w2,w3,w4,hj,hj1,h7];exact WL.to ih (by simp) rfl λx e J hh=>by simpa[hv]using hh
theorem abK{f:dw}{m:bV}{x:pG}(hm:Fm f m)(hx:Y6 f x):Cl Dt [.agg (fL f),.agg (mL m),.agg x.enc] (iI (wB f m x)) J:=by
 have hT:∀J,Cl Ao [.agg (fL f),.agg (mL m),iI x.kind,lF x.bl aT,lF x.wt aT] (iI (wB f m x)) J:=by
  intro J;refine au rfl rfl rfl ?_;simp[];refine WL.to (VF (J:=[]::J) hm hx x.bl.length 0 0 (by omega) (by simp)) (by simp) rfl ?_;rintro x' e J' ⟨rfl,rfl,g⟩;simp[g,wB]
 refine au rfl rfl rfl ?_;simp only[pG.enc];simp[hT]
theorem VL{ps:List (Int×Int)}(hps:ps.length<=1000000){nm:List UInt8}{k lo hi:Int}{C hd:List D}{atv:Int}(h3':hd.length=3):∀(m j:Nat),j+m=ps.length ->
  WL T [1,3,4,8,10,11] false o9 [(1,.int .i64 atv),(3,.bY (ps.length*2+3) (hd++fM ps sQ)),(4,.bf C),(8,.own 0 zS),(10,.own 0 [.str nm,.int .i64 k,.sl J.length 0 j 0 j 1,.sl J.length 1 j 0 j 1,.int .i64 lo,.int .i64 hi]),(11,.int .i64 (j*2+3))]
   ([.cells j (fM ((ps.take j).map (·.1)) aT),.cells j (fM ((ps.take j).map (·.2)) aT)]::J)
   (λx e J'=>x=.exit 0/\get e 1=.int .i64 atv/\get e 3=.bY (ps.length*2+3) (hd++fM ps sQ)/\get e 4=.bf C/\get e 8=.own 0 zS/\get e 10=.own 0 [.str nm,.int .i64 k,.sl J.length 0 ps.length 0 ps.length 1,.sl J.length 1 ps.length 0 ps.length 1,.int .i64 lo,.int .i64 hi] /\
    J'=[.cells ps.length (fM (ps.map (·.1)) aT),.cells ps.length (fM (ps.map (·.2)) aT)]::J)
 |0,j,h=>by
  refine aB o9.eq_1 ?_;obtain rfl:j=ps.length:=by omega
  simp[-List.map_take]
 |m+1,j,h=>by
  refine aB o9.eq_1 ?_;have⟨h1,h2,h3,h0,h0'⟩:j<ps.length/\(j:Int)*2+3<(ps.length:Int)*2+3/\(j:Int)*2+3+1<(ps.length:Int)*2+3/\0<=(j:Int)*2+3/\0<=(j:Int)*2+3+1:=by omega
  obtain⟨p,hp⟩:=gE h1;have d0:=pA (f:=sQ) (w:=2) (λ_=>rfl) hp;have d1:(hd++fM ps sQ).drop (j*2+3)=.int .i64 p.1::.int .i64 p.2::(fM ps sQ).drop (j*2+2):=by
   rw[List.drop_append,an (by omega),h3',show j*2+3-3=j*2 by omega,d0];rfl
  have d2:(hd++fM ps sQ).drop (j*2+3+1)=.int .i64 p.2::(fM ps sQ).drop (j*2+2):=by
   have:=congrArg (List.drop 1) d1;simpa[pO,cS]using this
  have⟨t1,t2⟩:((j:Int)*2+3).toNat=j*2+3/\((j:Int)*2+3+1).toNat=j*2+3+1:=by omega
  have w1:=cf (n:=(j:Int)*2+3+1) (by omega);have w2:=cf (n:=(j:Int)*2+3+2) (by omega);have hl:(ps.take j).length=j:=by simp[];omega
  have hr:(j+1)*8<=room:=by unfold room;omega
  have ha:=tQ ((ps.take j).map (·.1));have hb:=tQ ((ps.take j).map (·.2));simp only[bE,hl]at ha hb;have ta:(fM ((ps.take j).map (·.1)) aT).take j=fM ((ps.take j).map (·.1)) aT:=ai (by omega);have tb:(fM ((ps.take j).map (·.2)) aT).take j=fM ((ps.take j).map (·.2)) aT:=ai (by omega);have ih:=VL hps (nm:=nm) (k:=k) (lo:=lo) (hi:=hi) (C:=C) (atv:=atv) h3' m (j+1) (by omega);have htk:ps.take (j+1)=ps.take j++[p]:=by rw[List.take_add_one,hp];rfl
  rw[htk,show((j+1:Nat):Int)*2+3=(j:Int)*2+3+2 by omega]at ih;simp[-List.map_take,h0,h0',h2,h3,t1,t2,d1,d2,w1,w2,hr,ha,hb,ta,tb];exact WL.to ih (by simp[]) (by simp[]) λx e J' hh=>hh
def iP(vs:List Int)(i m:Nat):List D:=fM (vs.take i++List.replicate m 0) aT
theorem Sg{vs:List Int}{i m:Nat}{v:Int}(h:i+(m+1)=vs.length)(hv:vs[i]?=some v):
  (iP vs i (m+1)).length=vs.length/\(iP vs i (m+1)).take i++(iI v::(iP vs i (m+1)).drop (i+1))=iP vs (i+1) m:=by
 have hlen:(vs.take i++List.replicate (m+1) (0:Int)).length=vs.length:=by simp;omega
 have f1:=ch (f:=aT) (w:=1) (λ_=>rfl) (vs.take i++List.replicate (m+1) (0:Int));have s1:∀{o:List Int} {i:Nat},i<o.length->(fM o aT).take i++(iI v::(fM o aT).drop (i+1))=fM (o.set i v) aT:=λh=>Go.Trem.Zz h v
 have s1:=s1 (o:=vs.take i++List.replicate (m+1) (0:Int)) (i:=i) (by rw[hlen];omega);have s2:=XI (acc:=vs.take i) (k:=m) (v:=v);rw[show(vs.take i).length=i by simp;omega]at s2;rw[s2]at s1;unfold iP;refine⟨by omega,?_⟩;rw[s1,List.take_add_one,hv];rfl
theorem Lv{vs:List Int}:iP vs 0 vs.length=fM (List.range vs.length) λ_=>[iI 0]:=by
 rw[show(fM (List.range vs.length) λ_=>[iI 0])=fM (List.replicate vs.length (0:Int)) aT from Go.Trem.UE _];simp[iP]
theorem OI{vs:List Int}:iP vs vs.length 0=fM vs aT:=by simp[iP]
theorem Oa{b:Bk}{x:pG}{atv:Int}{L:D}(hL:L.calm=L)(hl:b.ah.length<=1000000)(hms:∀e∈b.ah,Fm b.aQ.f e.m)(hx:Y6 b.aQ.f x):∀(m i:Nat),i+m=b.ah.length ->
  WL T [1,3,4,8,10,13,14] false oc [(1,iI atv),(3,L),(4,.bf (bS b)),(8,.own 0 zS),(10,.own 0 x.enc),(13,.sl J.length 2 0 0 b.ah.length 1),(14,iI i)]
   ([.dead,.dead,.cells 0 (iP (b.ah.map λe=>wB b.aQ.f e.m x) i m)]::J)
   (λy e J'=>y=.exit 2/\get e 1=iI atv/\get e 3=L/\get e 4=.bf (bS b)/\get e 8=.own 0 zS/\get e 13=.sl J.length 2 0 0 b.ah.length 1/\J'=[.dead,.dead,.cells 0 (fM (b.ah.map λe=>wB b.aQ.f e.m x) aT)]::J)
 |0,i,hi=>by
  refine aB oc.eq_1 ?_;obtain rfl:i=b.ah.length:=by omega
  have hn:=nr (f:=dQ.enc) b.ah;have hf:=OI (vs:=b.ah.map λe=>wB b.aQ.f e.m x);rw[bE]at hf;rw[hf];simp[bS,hn,hL]
 |m+1,i,hi=>by
  refine aB oc.eq_1 ?_;have⟨h1,h1'⟩:i<b.ah.length/\(i:Int)<b.ah.length:=by omega
  obtain⟨e,he⟩:=gE h1;have hne:b.ah≠[]:=λh=>by rw[h]at h1;simp at h1
  have h2:=JI he;simp only[dQ.enc]at h2;have h4:=cr h1 (by omega);have hn:=jj (f:=dQ.enc) hne;have ih:=Oa hL hl hms hx (atv:=atv) m (i+1) (by omega);have hS:=λJ=>abK (J:=J) (hms e (aj he)) hx
  obtain⟨f1,f2⟩:=Sg (vs:=b.ah.map λe=>wB b.aQ.f e.m x) (i:=i) (m:=m) (v:=wB b.aQ.f e.m x) (by simp;omega) (by simp[he]);rw[bE]at f1;have hi1:i+1<=b.ah.length:=by omega
  simp only[pG.enc]at hS ih ⊢;simp[bS,hn,h1',h2,h4,hS,hL,f1,f2,hi1];exact WL.to ih (by simp[bS,hn]) (by simp) λx e J hh=>by simpa[bS,hn]using hh
theorem abZ{b:Bk}{nm:List UInt8}{k lo hi:Int}{ps:List (Int×Int)}(hps:ps.length<=1000000)(hnm:nm.length<=1000000000)(hw:b.dq.length=b.ah.length)(hml:b.ah.length<=40)(hf:b.ah≠[]->b.aQ.f.valid=true)(hms:∀e∈b.ah,Fm b.aQ.f e.m)(hJ:J≠[]):
  Cl zK [.agg (bS b),iI b.at_,.str nm,.bY (ps.length*2+3) (iI k::iI lo::iI hi::fM ps sQ)] (gp (CA b (ed nm k lo hi ps))) J:=by
 refine au rfl rfl rfl ?_;have hn:=nr (f:=dQ.enc) b.ah;have hcl:=nu (b:=b);by_cases h0:b.ah=[]
 .have hd:CA b (ed nm k lo hi ps)=(b,8):=if_pos h0;have hE:nl dQ.enc b.ah=.aW:=by simp[nl,h0]
  rw[hd];simp only[bS,hE]at hcl;simp[bS,hE,hcl,gp]
 have hE:=jj (f:=dQ.enc) h0
 try simp only[lF]at hE
 have hfv:=hf h0;have hd:CA b (ed nm k lo hi ps)=if nW b.aQ.f (ed nm k lo hi ps)=0 then(ek b lo hi λm=>wB b.aQ.f m (ed nm k lo hi ps),0)else(b,nW b.aQ.f (ed nm k lo hi ps)):=if_neg h0
 have hck:nW b.aQ.f (ed nm k lo hi ps)=b.aQ.f.measure (ed nm k lo hi ps):=if_pos hfv;rw[hck]at hd;rw[hd];have⟨q0,q1,q2⟩:(0:Int)<(ps.length:Int)*2+3/\(1:Int)<(ps.length:Int)*2+3/\(2:Int)<(ps.length:Int)*2+3:=by omega
 have hL:=VL (J:=J) hps (nm:=nm) (k:=k) (lo:=lo) (hi:=hi) (C:=bS b) (atv:=b.at_) (hd:=[iI k,iI lo,iI hi]) rfl ps.length 0 (by omega);have hC:=λJ=>NJ (J:=J) (l:=[ed nm k lo hi ps]) hfv (by intro m hm;simp at hm;subst hm;exact⟨by simp[ed];omega,by simp[ed];omega⟩) (by simp)
 try simp only[lF,Cl,fL]at hC
 have hM1:b.aQ.f.vW [ed nm k lo hi ps]=b.aQ.f.measure (ed nm k lo hi ps):=by
  simp only[dw.vW,dw.xI];by_cases h:b.aQ.f.measure (ed nm k lo hi ps)=0<;>simp[h]
 rw[hM1]at hC;have hq:¬((b.ah.length:Int)=0):=by have:=aG.2 h0;omega
 simp only[bS,hE]at hcl;simp[bS,hE,h0,q0,q1,q2];refine WL.to hL (by simp[bS,hE,zS]) (by simp) ?_;rintro x e J' ⟨rfl,g1,g3,g4,g8,g10,rfl⟩;have cli:∀x:Int,D.bd (aT x)=true:=λ_=>by simp[aT,D.clean]
 have f1:=pV (f:=aT) (w:=1) (λ_=>rfl) cli (l:=ps.map (·.1)) (j:=0) (v:=ps.length) (bs:=[.cells ps.length (fM (ps.map (·.1)) aT),.cells ps.length (fM (ps.map (·.2)) aT)]) (J:=J) hJ rfl
 try simp only[]at f1
 have f2:=pV (f:=aT) (w:=1) (λ_=>rfl) cli (l:=ps.map (·.2)) (j:=1) (v:=ps.length) (bs:=[.dead,.cells ps.length (fM (ps.map (·.2)) aT)]) (J:=J) hJ rfl
 try simp only[]at f2
 simp at f1 f2;simp[ed]at hC;by_cases h1:b.aQ.f.measure (ed nm k lo hi ps)=0
 case neg =>
  rw[if_neg h1];have h1':=h1;simp only[ed]at h1';simp[g1,g3,g4,g8,g10,f1,f2,hC,bS,hE,zS,h1',gp];exact cI (b:=b) (by simp[bS,hE])
 rw[if_pos h1];have hx:=Y6.of h1;have hLv:=Oa (J:=J) (b:=b) (x:=ed nm k lo hi ps) (atv:=b.at_) (L:=.bY (ps.length*2+3) (iI k::iI lo::iI hi::fM ps sQ)) rfl (by omega) hms hx b.ah.length 0 (by omega);have hS:=λJ hJ=>Lc (J:=J) (b:=b) (lo:=lo) (hi:=hi) (val:=λm=>wB b.aQ.f m (ed nm k lo hi ps)) (vs:=b.ah.map λe=>wB b.aQ.f e.m (ed nm k lo hi ps)) h0 hw hml (by simp) (by
  intro i e v he hv;simp[he]at hv;subst hv;intro _;exact⟨rfl,λ_=>rfl⟩) hJ
 have hz:=Lv (vs:=b.ah.map λe=>wB b.aQ.f e.m (ed nm k lo hi ps));rw[bE]at hz;rw[hz]at hLv;have h1':=h1;simp only[ed]at h1';have r1:(b.ah.length:Int)*8<=room:=by unfold room;omega
 simp[g1,g3,g4,g8,g10,f1,f2,hC,bS,hE,h1',r1];refine WL.to hLv (by simp[bS,hE,ed]) (by simp) ?_;rintro x e J' ⟨rfl,g1,g3,g4,g8,g13,rfl⟩;have f3:=pV (f:=aT) (w:=1) (λ_=>rfl) cli (l:=b.ah.map λe=>wB b.aQ.f e.m (ed nm k lo hi ps)) (j:=2) (v:=0) (bs:=[.dead,.dead,.cells 0 (fM (b.ah.map λe=>wB b.aQ.f e.m (ed nm k lo hi ps)) aT)]) (J:=J) hJ rfl;simp only[lF,Cl,bE]at f3 hS;simp[g1,g3,g4,g8,g13,f3,hS,q1,q2,fS,eL,DW,zZ,gp];exact cI (b:=ek b lo hi λm=>wB b.aQ.f m (ed nm k lo hi ps)) rfl
end
section
section
open Go Go.Abs Go.Trem
open Go.Book (nl)
variable {J:SK}
theorem VW{α:Type}{p:α->Bool}:da [] p=true:=rfl
theorem VY{α:Type}{p:α->Bool}:l9 [] p=false:=rfl
theorem TC{α:Type}{x:α}{l:List α}{p:α->Bool}:l9 (x::l) p=(p x || l9 l p):=rfl
theorem MY{α:Type}{f:α->List D}{w:Nat}(hw:∀x,(f x).length=w){l:List α}{i:Nat}{x:α}(h:l[i]?=some x):O2 w (nl f l) (iI i)=some (.bf (f x)):=by
 have h1:i<l.length:=(aA.1 h).1;rw[jj (λhh=>by rw[hh]at h1;simp at h1)];simp[h1,bu hw h]
theorem K4{a b c x y z u v w:Int}:Cl yA [.agg [iI a,iI b,iI c],.agg [iI x,iI y,iI z],.agg [iI u,iI v,iI w]] (.bool (bA a x u && (bA b y v && bA c z w))) J:=by
 refine au rfl rfl rfl ?_;cases hc1:bA a x u
 .simp[xe,hc1]
 cases hc2:bA b y v
 .simp[xe,hc1,hc2]
 simp[xe,hc1,hc2]
theorem Td{r:cF}{s:pH}:Cl yz [.agg r.enc,.agg s.enc] (.bool (r.IP s)) J:=by
 refine au rfl rfl rfl ?_;have ho:r.IP s=(decide (r.least<=s.mag) && (bA s.p.x r.lo.x r.hi.x && (bA s.p.y r.lo.y r.hi.y && bA s.p.z r.lo.z r.hi.z))):=rfl;rw[ho];cases c:(bA s.p.x r.lo.x r.hi.x && (bA s.p.y r.lo.y r.hi.y && bA s.p.z r.lo.z r.hi.z))
 .simp[K4,c]
 .by_cases h:r.least<=s.mag<;>simp[K4,c,h]
theorem N4{r:cF}{l:List Ev}{i:Nat}{e0:Ev}(he:l[i]?=some e0)(hs:e0.sp.length<=9223372036854775807){now:Int}{all:Bool}{n:Int}:∀(m k:Nat) (a b:Bool),k+m=e0.sp.length ->
  WL T [1,2,3,4,9,10,11,12,13] false mX [(1,nl Ev.enc l),(2,iI now),(3,.bool all),(4,.bf r.enc),(9,iI n),(10,iI i),(11,.bool a),(12,.bool b),(13,iI k)] J
   (λx e J'=>x=.exit 2/\J'=J/\get e 1=nl Ev.enc l/\get e 2=iI now/\get e 3=.bool all/\get e 4=.bf r.enc/\get e 9=iI n/\get e 10=iI i/\get e 11=.bool (a || l9 (e0.sp.drop k) r.IP)/\get e 12=.bool (b && da (e0.sp.drop k) r.IP))
 |0,k,a,b,hk=>by
  refine aB mX.eq_1 ?_;have g1:i<l.length:=(aA.1 he).1;have a1:=MY (f:=Ev.enc) (w:=2) (λ_=>rfl) he;have h1:¬k<e0.sp.length:=by omega
  have h2:e0.sp.drop k=[]:=by simp;omega
  simp[a1,h1,h2,VY,VW]
 |m+1,k,a,b,hk=>by
  refine aB mX.eq_1 ?_;have g1:i<l.length:=(aA.1 he).1;have a1:=MY (f:=Ev.enc) (w:=2) (λ_=>rfl) he;have h1:k<e0.sp.length:=by omega
  obtain⟨x,hx⟩:=gE h1;have h2:=bu (f:=pH.enc) (w:=4) (λ_=>rfl) hx;have h6:=cr h1 (by omega);have ih:=N4 (now:=now) (all:=all) (n:=n) (r:=r) he hs m (k+1) (a || r.IP x) (b && r.IP x) (by omega);have hC:=λJ=>@Td J r x
  simp only[cF.enc,pH.enc]at hC;rw[bD hx,TC,AQ,<- Bool.or_assoc,<- Bool.and_assoc];cases a<;>cases b<;>cases c:r.IP x<;>simp only[c]at hC ih<;>simp[a1,h1,h2,h6,hC]<;>exact(WL.to ih (by simp) rfl λx e J' hh=>by simpa[c]using hh)
def CQ(r:cF)(now:Int)(all:Bool)(e:Ev):Bool:=if all then mg r now e else sM r now e
theorem RG{r:cF}(hr:r.ok=true){l:List Ev}(hl:l.length<=200)(hs:∀e∈l,e.sp.length<=2000){now:Int}(hn:bA now 0 1000000=true){all:Bool}:∀(m i:Nat) (n:Nat),i+m=l.length->n+m<=200 ->
  WL T [1,2,3,4,9,10] false mY [(1,nl Ev.enc l),(2,iI now),(3,.bool all),(4,.bf r.enc),(9,iI n),(10,iI i)] J
   (λx e J'=>x=.exit 0/\J'=J/\get e 4=.bf r.enc/\get e 9=iI (n+y9 (CQ r now all) (l.drop i):Nat))
 |0,i,n,hi,hb=>by
  refine aB mY.eq_1 ?_;have h1:¬i<l.length:=by omega
  have h2:l.drop i=[]:=by simp;omega
  simp[h1,h2,y9]
 |m+1,i,n,hi,hb=>by
  refine aB mY.eq_1 ?_;have g1:i<l.length:=by omega
  obtain⟨e0,he⟩:=gE g1;have a1:=MY (f:=Ev.enc) (w:=2) (λ_=>rfl) he;have hse:=hs e0 (aj he);have h6:=cr g1 (by omega);have hr':=yR.1 hr;have hn':=aS.1 hn;have w2:=cf (n:=now-r.uI) (by omega);have w3:=cf (n:=now-r.uI+1) (by omega);have w4:=cf (n:=(n:Int)+1) (by omega);have d1:y9 (CQ r now all) (l.drop i)=y9 (CQ r now all) (l.drop (i+1))+(if CQ r now all e0 then 1 else 0):=by rw[bD he];rfl
  have ih:=λn h=>RG hr hl hs hn (all:=all) m (i+1) n (by omega) h
  have hact:r.act now e0=bA e0.tick (now-r.uI+1) now:=by
   unfold cF.act bA;congr 1
  have k1:∀u v:Nat,u+1+v=u+(v+1):=by intro u v;omega
  rw[d1];cases c1:bA e0.tick (now-r.uI+1) now
  .have e1:CQ r now all e0=false:=by simp[CQ,sM,mg,hact,c1]
   simp[g1,a1,h6,w2,w3,xe,c1];exact WL.to (ih n (by omega)) (by simp) rfl λx e J' hh=>by simpa[e1]using hh
  .have e1:CQ r now all e0=if all then da e0.sp r.IP else l9 e0.sp r.IP:=by simp[CQ,sM,mg,hact,c1]
   simp[g1,a1,w2,w3,xe,c1];refine WL.to (N4 (J:=J) (now:=now) (all:=all) (n:=n) (r:=r) he (by omega) e0.sp.length 0 false true (by omega)) (by simp) rfl ?_;rintro x e J' ⟨rfl,rfl,f1,f2,f3,f4,f9,f10,f11,f12⟩;simp only[aE,Bool.false_or,Bool.true_and]at f11 f12;have ih0:=ih n (by omega);have ih1:=ih (n+1) (by omega);cases all
   .simp only[aC,if_false]at e1;cases c2:l9 e0.sp r.IP
    .rw[c2]at f11 e1;simp[f1,f2,f3,f4,f9,f10,f11,h6];exact WL.to ih0 (by simp) rfl λx e J' hh=>by simpa[e1]using hh
    .rw[c2]at f11 e1;simp[f1,f2,f3,f4,f9,f10,f11,h6,w4];exact WL.to ih1 (by simp) rfl λx e J' hh=>by simp only[k1]at hh;simpa[e1]using hh
   .simp only[if_true]at e1;cases c2:da e0.sp r.IP
    .rw[c2]at f12 e1;simp[f1,f2,f3,f4,f9,f10,f12,h6];exact WL.to ih0 (by simp) rfl λx e J' hh=>by simpa[e1]using hh
    .rw[c2]at f12 e1;simp[f1,f2,f3,f4,f9,f10,f12,h6,w4];exact WL.to ih1 (by simp) rfl λx e J' hh=>by simp only[k1]at hh;simpa[e1]using hh
theorem Rr{r:cF}(hr:r.ok=true){l:List Ev}(hl:l.length<=200)(hs:∀e∈l,e.sp.length<=2000){now:Int}(hn:bA now 0 1000000=true){all:Bool}:
  Cl B9 [.agg r.enc,nl Ev.enc l,iI now,.bool all] (.int .u8 (if r.count<=y9 (CQ r now all) l then r.MD else 0)) J:=by
 refine au rfl rfl rfl ?_;simp[];refine WL.to (RG (J:=[]::J) hr hl hs hn (all:=all) l.length 0 0 (by omega) (by omega)) (by simp) rfl ?_;rintro x e J' ⟨rfl,rfl,e4,e9⟩;simp only[aE,ck]at e9;by_cases c:r.count<=y9 (CQ r now all) l<;>simp[e4,e9,c]
theorem J8{f:cF->Ev->Bool}{l:List Ev}{r:cF}(hr:r.ok=true){a:Int}(ha:0<=a):max a (if r.count<=y9 (f r) l then r.MD else 0)=if r.count<=y9 (f r) l then max a r.MD else a:=by
 split
 .rfl
 .omega
theorem N1{R:List cF}(hR:R.length<=20)(hr:∀r∈R,r.ok=true){l:List Ev}(hl:l.length<=200)(hs:∀e∈l,e.sp.length<=2000){now:Int}(hn:bA now 0 1000000=true):∀(m i:Nat) (a b:Int),i+m=R.length->0<=a->0<=b ->
  WL T [0,1,2,8,9,10] false mW [(0,nl cF.enc R),(1,nl Ev.enc l),(2,iI now),(8,.int .u8 a),(9,.int .u8 b),(10,iI i)] J
   (λx e J'=>x=.exit 0/\J'=J/\get e 8=.int .u8 (u6 (λr=>sM r now) l (R.drop i) a)/\get e 9=.int .u8 (u6 (λr=>mg r now) l (R.drop i) b))
 |0,i,a,b,hi,ha,hb=>by
  refine aB mW.eq_1 ?_;have h1:¬i<R.length:=by omega
  have h2:R.drop i=[]:=by simp;omega
  simp[h1,h2,u6]
 |m+1,i,a,b,hi,ha,hb=>by
  refine aB mW.eq_1 ?_;have g1:i<R.length:=by omega
  obtain⟨r,hri⟩:=gE g1;have a1:=MY (f:=cF.enc) (w:=10) (λ_=>rfl) hri;have hrr:=hr r (aj hri);have h6:=cr g1 (by omega);have s0:=λJ=>@Rr J r hrr l hl hs now hn false
  have s1:=λJ=>@Rr J r hrr l hl hs now hn true
  have q0:CQ r now false=sM r now:=rfl;have q1:CQ r now true=mg r now:=rfl;rw[q0]at s0;rw[q1]at s1;simp only[cF.enc]at s0 s1;have m0:=J8 (f:=λr=>sM r now) (l:=l) hrr ha;have m1:=J8 (f:=λr=>mg r now) (l:=l) hrr hb;have hc:=(yR.1 hrr).2.2.2.2;have ih:=N1 hR hr hl hs hn m (i+1) (if r.count<=y9 (sM r now) l then max a r.MD else a) (if r.count<=y9 (mg r now) l then max b r.MD else b) (by omega) (by split<;>omega) (by split<;>omega);rw[bD hri];simp[g1,a1,h6,s0,s1,m0,m1];exact WL.to ih (by simp) rfl λx e J' hh=>hh
theorem UW{R:List cF}(hR:R.length<=20)(hr:∀r∈R,r.ok=true){l:List Ev}(hl:l.length<=200)(hs:∀e∈l,e.sp.length<=2000){now:Int}(hn:bA now 0 1000000=true):
  Cl AA [nl cF.enc R,nl Ev.enc l,iI now] (.cV [.int .u8 (LP R l now),.int .u8 (Nz R l now)]) J:=by
 refine au rfl rfl rfl ?_;simp[];refine WL.to (N1 (J:=[]::J) hR hr hl hs hn R.length 0 0 0 (by omega) (by omega) (by omega)) (by simp) rfl ?_;rintro x e J' ⟨rfl,rfl,e8,e9⟩;simp only[aE]at e8 e9;simp[e8,e9,LP,Nz]
end
end
section
open Go Go.Abs Go.Rock Go.Book
variable {J:SK}
structure Lit(b:Bk):Prop where
 rl:b.rules.length<=20
 rok:∀r∈b.rules,r.ok=true
 el:b.sV.length<=200
 eok:∀e∈b.sV,e.ok=true
 pl:b.az.length<=200
theorem Tc{b:Bk}(h:Lit b):Cl yB [.agg (bS b)] (.int .u8 (lD b)) J:=by
 refine au rfl rfl rfl ?_;have hn:=nr (f:=pE) b.az;have hnow:Trem.bA b.az.length 0 1000000=true:=by have:=h.pl;simp[Trem.bA];omega
 have hL:=λJ=>UW (J:=J) h.rl h.rok h.el (λe he=>by have:=h.eok e he;simp only[Trem.Ev.ok,af,Trem.aS]at this;omega) hnow
 have hc:lD b=Trem.LP b.rules b.sV b.az.length:=by
  have h1:Trem.lY b.rules b.sV b.az.length=0:=by
   have a1:=eO.2 h.rok;have a2:=eO.2 h.eok;have:=h.rl;have:=h.el;simp[Trem.lY,a1,a2,hnow,show ¬20<b.rules.length by omega,show ¬200<b.sV.length by omega]
  unfold lD;rw[if_pos h1]
 rw[hc];have hcl:=nu (b:=b);simp only[bS]at hcl;simp[bS,hn,hL]
theorem Od{l:List Int}{jr:Int}(hk:0<=jr/\jr<=1000)(hl:l.length<=1000000)(hr:∀n∈l,-100000<=n/\n<=100000):∀(m i:Nat),i+m=l.length ->
  WL T [1,5,6,7] false mZ [(1,.bY l.length (fM l aT)),(5,.int .i64 jr),(6,.sl J.length 0 i 0 i 1),(7,.int .i64 i)] ([.cells i (fM ((l.take i).map (jh jr)) aT)]::J)
   (λx e J'=>x=.exit 0/\get e 6=.sl J.length 0 l.length 0 l.length 1/\J'=[.cells l.length (fM (l.map (jh jr)) aT)]::J)
 |0,i,hi=>by
  refine aB mZ.eq_1 ?_;obtain rfl:i=l.length:=by omega
  simp[-List.map_take]
 |m+1,i,hi=>by
  refine aB mZ.eq_1 ?_;have h1:i<l.length:=by omega
  obtain⟨n,hn⟩:=gE h1;have h4:=cr h1 (by omega);have a1:=bu (f:=aT) (w:=1) (λ_=>rfl) hn;simp only[aT,cp]at a1;have hb:=hr n (aj hn);have ih:=Od hk hl hr m (i+1) (by omega);rw[List.take_add_one,hn]at ih;have hl1:(l.take i).length=i:=by simp[];omega
  have ha:=tQ ((l.take i).map (jh jr));simp only[bE,hl1]at ha;have ta:(fM ((l.take i).map (jh jr)) aT).take i=fM ((l.take i).map (jh jr)) aT:=ai (by omega);have hrm:(i+1)*8<=room:=by unfold room;omega
  by_cases hc:n<0
  .have b1:=QP (a := -n) (b:=jr) (A:=100000) (B:=1000) (by omega) (by omega) (by omega);have b2:0 <= -n*jr:=bF (by omega) hk.1;have w1:=cf (n := -n) (by omega);have w2:=cf (n := -n*jr) (by omega);have t1:(-n*jr).tdiv 1000 = -n*jr / 1000:=aO b2;have w3:=cf (n:=(-n*jr).tdiv 1000) (by rw[t1];omega);have w4:=cf (n := -(-n*jr).tdiv 1000) (by rw[t1];omega);have hrt:jh jr n = -(-n*jr).tdiv 1000:=if_pos hc;generalize hz:(-n*jr).tdiv 1000=z at *
   simp[-List.map_take,h1,a1,h4,hc,w1,w2,w3,w4,hrm,ha,ta,hz];exact WL.to ih (by simp[]) (by simp[hrt,aT]) λx e J' hh=>hh
  .have hrt:jh jr n=n:=if_neg hc;simp[-List.map_take,h1,a1,h4,hc,hrm,ha,ta];exact WL.to ih (by simp[]) (by simp[hrt,aT]) λx e J' hh=>hh
theorem Tf{b:Bk}{l:List Int}(h:Lit b)(hk:Trem.fw b.k0 b.k1 b.k2=true)(hl:l.length<=1000000)(hr:∀n∈l,-100000<=n/\n<=100000)(hJ:J≠[]):
  Cl AE [.agg (bS b),lF l aT] (.bY l.length (fM (l.map (jh (mr b))) aT)) J:=by
 refine au rfl rfl rfl ?_;have hC:=λJ=>Tc (J:=J) h
 have hcl:=nu (b:=b);simp only[Trem.fw,af,aw]at hk;obtain⟨c1,c2⟩:=G7 (b:=b);have hkp:0<=mr b/\mr b<=1000:=by unfold mr;split<;>(try split)<;>omega
 have hcell:List.take 1 (List.drop (lD b).toNat [iI b.k0,iI b.k1,iI b.k2,nl oW.enc b.cJ,nl Oh.enc b.fy,D.bool b.ready,nl Ae.enc b.dq])=[iI (mr b)]:=by
  unfold mr;have:lD b=0\/lD b=1\/lD b=2:=by omega
  rcases this with h | h | h<;>rw[h]<;>rfl
 simp only[bS]at hcl hC;simp[bS,hC,c1,show lD b<3 by omega,hcell];refine WL.to (Od (J:=J) hkp hl hr l.length 0 (by omega)) (by simp) (by simp) ?_;rintro x e J' ⟨rfl,g6,rfl⟩;have hk:=nB (n:=16) (f:=aT) (w:=1) (l:=l.map (jh (mr b))) (j:=0) (v:=l.length) (bs:=[.cells l.length (fM (l.map (jh (mr b))) aT)]) (by decide) (λ_=>rfl) (λx=>by simp[aT,D.clean]) hJ rfl;rw[bE]at hk;simp[g6,hk]
structure Kr(n:Nat)(b:Bk):Prop where
 kv:Kv n b
 rok:∀r∈b.rules,r.ok=true
theorem Kr.lit{n:Nat}{b:Bk}(h:Kr n b):Lit b:=⟨h.kv.rules,h.rok,h.kv.sV,h.kv.L8,(nR h.kv.pl).1⟩
theorem Kr.valid{n:Nat}{b:Bk}(h:Kr n b)(hm:b.ah≠[]):b.aQ.valid=true:=h.kv.ready (h.kv.ms hm)
theorem MU{l:List dQ}(h:cc l≠[]):l≠[]:=λh2=>h (by rw[h2];rfl)
theorem LL{l:List dQ}{m:bV}(h:m∈gV l):∃e∈l,e.left=true/\e.m=m:=by
 obtain⟨e,he,rfl⟩:=bJ.1 h;exact⟨e,(Gz he).1,(Gz he).2,rfl⟩
theorem Fp{α β:Type}{f:α->Int}{g:β->α}:∀{l:List β},bT f (l.map g)=bT (λx=>f (g x)) l
 |[]=>rfl
 |x::l=>by simp only[aN,bT,Fp (l:=l)]
theorem RT{b:Bk}{M:List bV}{az:List (List Int)}{R:List D}(hR:R=bS b)(ht:b.aQ.dL≠[])(hM:∀m∈M,Bd b.aQ m=true)(hl:M.length<=40)(hp:sJ b.aQ az=0):∀(k i:Nat),i+k=M.length ->
  WL T [2,4,7,8,9] false na [(2,.own 0 R),(4,.own 0 zS),(7,lF az pE),(8,lF M bV.enc),(9,iI i)] ([.dead]::J)
   (λx e J'=>J'=[.dead]::J/\if bT (λm=>lg b.aQ m az) (M.drop i)=0 then x=.exit 0/\get e 2=.own 0 R/\get e 4=.own 0 zS/\get e 7=lF az pE
    else x=.ret/\get e 4=.own 0 R/\get e 5=iI (bT (λm=>lg b.aQ m az) (M.drop i)))
 |0,i,hi=>by
  refine aB na.eq_1 ?_;obtain rfl:i=M.length:=by omega
  have h2:M.drop M.length=[]:=an (by omega);simp[h2,bT]
 |k+1,i,hi=>by
  refine aB na.eq_1 ?_;have h1:i<M.length:=by omega
  obtain⟨m,hm⟩:=gE h1;have hBd:=hM m (aj hm);have a1:=bu (f:=bV.enc) (w:=2) (λ_=>rfl) hm;have h4:=cr h1 (by omega);have hT:=jj (f:=Rw.enc) ht;obtain⟨hp1,hp2⟩:=nR hp;have ih:=RT hR ht hM hl hp k (i+1) (by omega);rw[bD hm,bT];cases hrun:Rock.run b.aQ m az with
  |none =>
   have hE:lg b.aQ m az=9:=by simp[lg,hBd,hp,hrun]
   have hP:∀J,J≠[]->dj T (.call false ka [.agg [iI b.aQ.f.x,iI b.aQ.f.y,iI b.aQ.f.z,iI b.aQ.f.k,lF b.aQ.dL Rw.enc,iI b.aQ.cz,iI b.aQ.lift,iI b.aQ.deep,nl bG.enc b.aQ.av],.agg (mL m),lF az pE] J)=_:=λJ hJ=>P5 (J:=J) (Fv.of hBd) hp1 hp2 hJ hrun ke
   rw[hE];subst hR;simp[h1,a1,hT,hP,bS,zS]
  |some r =>
   obtain⟨ss,ys⟩:=r;have hE:lg b.aQ m az=0:=by simp[lg,hBd,hp,hrun]
   have hP:∀J,J≠[]->dj T (.call false ka [.agg [iI b.aQ.f.x,iI b.aQ.f.y,iI b.aQ.f.z,iI b.aQ.f.k,lF b.aQ.dL Rw.enc,iI b.aQ.cz,iI b.aQ.lift,iI b.aQ.deep,nl bG.enc b.aQ.av],.agg (mL m),lF az pE] J)=_:=λJ hJ=>I5 (J:=J) (Fv.of hBd) hp1 hp2 hJ hrun ke
   rw[hE,if_pos rfl];subst hR;simp[h1,a1,h4,hT,hP,bS];exact WL.to ih (by simp[bS,hT]) rfl λx e J' hh=>by simpa[bS,hT]using hh
theorem ZY{b:Bk}{l:List Int}(hp:sJ b.aQ b.az=0)(hn:b.az.length<200)(hk:Trem.fw b.k0 b.k1 b.k2=true)(hl:l.length=b.aQ.av.length)(hr:∀n∈l,-100000<=n/\n<=100000):sJ b.aQ (dt b l)=0:=by
 obtain⟨h1,h2⟩:=nR hp;simp only[Trem.fw,af,aw]at hk;have hkp:0<=mr b/\mr b<=1000:=by unfold mr;split<;>(try split)<;>omega
 have key:∀r∈dt b l,pD b.aQ r=0:=by
  intro r hr';rcases aX.1 hr' with h | h
  .have hv:=h2 r h;unfold pD;rw[if_pos hv.len,if_pos (eO.2 λx hx=>aS.2 (hv.ok x hx))]
  .simp only[List.mem_singleton]at h;subst h;unfold pD;rw[if_pos (by simpa using hl),if_pos];refine eO.2 λx hx=>aS.2 ?_
   obtain⟨n,hn,rfl⟩:=bJ.1 hx;have hb:=hr n hn;unfold jh;split
   .have b2:0 <= -n*mr b:=bF (by omega) hkp.1;have b3 : -n*mr b<=100000*1000:=cH (by omega) hkp.2 hkp.1 (by omega);rw[aO b2];omega
   .exact hb
 have h3:(dt b l).length=b.az.length+1:=by simp[dt]
 unfold sJ;rw[if_neg (by omega)];generalize dt b l=p at key;clear h3;induction p with
 |nil=>rfl
 |cons x p ih=>simp only[bT,key x (by simp)];exact ih λr h=>key r (by simp[h])
theorem YQ{n:Nat}{b:Bk}{l:List Int}(hK:Kr n b)(hl:l.length<=1000000)(hJ:J≠[]):
  Cl xu [.agg (bS b),lF l aT] (gp (mf b l)) J:=by
 refine au rfl rfl rfl ?_;have hS:=λJ=>Mj (J:=J) (b:=b) hK.kv.ml
 try simp only[Cl]at hS
 have hnp:=nr (f:=pE) b.az;by_cases c1:cc b.ah=[]
 .have hd:mf b l=(b,8):=by unfold mf;rw[if_pos c1]
  rw[hd];simp[c1]at hS;simp only[bS]at hS;simp[bS,hS,gp];exact cI (b:=b) rfl
 have hne:=MU c1;have hv:=hK.valid hne;have ht:=vd (Bv.of hv).dL;have hT:=jj (f:=Rw.enc) ht
 try simp only[lF]at hT
 simp[c1]at hS;simp only[bS,hT]at hS;by_cases c2:b.az.length<200
 case neg =>
  have hd:mf b l=(b,3):=by unfold mf;rw[if_neg c1,if_neg c2]
  rw[hd];simp[bS,hT,hS,gp,hnp,show(200:Int)<=b.az.length by omega];exact cI (b:=b) (by simp[bS,hT])
 have c2':¬(200:Int)<=b.az.length:=by omega
 have hRt:=λJ=>Tg (J:=J) (b:=b.aQ) (l:=l) (wq:=nl bG.enc b.aQ.av) (by omega) ke
 try simp only[lF,Cl]at hRt
 by_cases c3:pD b.aQ l=0
 case neg =>
  have hd:mf b l=(b,pD b.aQ l):=by
   unfold pD at *
   by_cases h1:l.length=b.aQ.av.length
   .by_cases h2:da l (λn=>bA n (-100000) 100000)=true
    .rw[if_pos h1,if_pos h2]at c3;exact absurd rfl c3
    .unfold mf;rw[if_neg c1,if_pos c2,if_pos h1,if_neg h2,if_pos h1,if_neg h2]
   .unfold mf;rw[if_neg c1,if_pos c2,if_neg h1,if_neg h1]
  rw[hd];simp[bS,hT,hS,gp,hnp,c2',hRt,c3];exact cI (b:=b) (by simp[bS,hT])
 obtain⟨r1,r2⟩:=Rv.of c3;rw[c3]at hRt;have hp:=ZY hK.kv.pl c2 hK.kv.jr r1 r2;have hd:mf b l=if bT (λe=>lg b.aQ e.m (dt b l)) (cc b.ah)=0 then(Io b (dt b l),0)else(b,bT (λe=>lg b.aQ e.m (dt b l)) (cc b.ah)):=by
  unfold mf;rw[if_neg c1,if_pos c2,if_pos r1,if_pos (eO.2 λx hx=>aS.2 (r2 x hx))]
 rw[hd];have hRs:=λJ hJ=>Tf (J:=J) (b:=b) (l:=l) hK.lit hK.kv.jr hl r2 hJ
 try simp only[lF,Cl]at hRs
 have hLf:=λJ hJ=>Mg (J:=J) (b:=b) hK.kv.ml hJ
 try simp only[lF,Cl]at hLf
 simp only[bS,hT]at hRs hLf;have⟨q1,q2,q3⟩:b.az.length*24<=room/\(b.az.length+1)*24<=room/\24<=room:=by unfold room;omega
 have hpel:=Kf b.az;have htk:(fM b.az pE).take b.az.length=fM b.az pE:=ai (by omega);have cle:∀x:List Int,D.bd (pE x)=true:=afK;have hL:=RT (J:=J) (b:=b) (M:=gV b.ah) (az:=dt b l) (R:=bS b) rfl ht (by
  intro m hm;obtain⟨e,he,_,rfl⟩:=LL hm;exact(hK.kv.fit e he).1) (by have:=J7 b.ah;have:=hK.kv.ml;omega) hp (gV b.ah).length 0 (by omega)
 have hnl:(dt b l).length=b.az.length+1:=by simp[dt]
 have hfm:fM (dt b l) pE=fM b.az pE++[.bY l.length (fM (l.map (jh (mr b))) aT)]:=by simp[dt,pE]
 have hz:bT (λm=>lg b.aQ m (dt b l)) (gV b.ah)=bT (λe=>lg b.aQ e.m (dt b l)) (cc b.ah):=Fp
 try simp only[lF]at hL
 rw[aE,hz]at hL;generalize hF:bT (λe=>lg b.aQ e.m (dt b l)) (cc b.ah)=F at hL ⊢;have hfr:=pV (f:=pE) (w:=1) (λ_=>rfl) cle (l:=dt b l) (j:=0) (bs:=[.cells (if b.az=[]then 0 else 1) (fM (dt b l) pE)]) (v:=if b.az=[]then 0 else 1) (J:=J) hJ rfl;rw[hnl,hfm]at hL hfr;have hne0:dt b l≠[]:=λh=>by rw[h]at hnl;simp at hnl
 by_cases hm:b.az=[]
 .have e1:nl pE b.az=.aW:=by simp[nl,hm]
  simp only[e1]at hS hRs hLf hnp;rw[if_pos hm]at hfr;have hm0:b.az.length=0:=by rw[hm];rfl
  simp only[hm,rP,bx,List.nil_append,ck]at hfr;simp[bS,hT,hS,gp,hnp,c2',hRt,e1,hRs,hLf,q3,hfr];rw[hm0,hm]at hL;refine WL.to hL (by simp[bS,hT,zS,hm,FA]) rfl ?_;rintro x e J' ⟨rfl,h⟩;by_cases hF0:F=0
  .rw[if_pos hF0]at h ⊢;obtain⟨rfl,g2,g4,g7⟩:=h;simp[g2,g4,g7,bS,zS];exact Ef (b:=Io b (dt b l)) (by simp[bS,Io,jj hne0,hnl,hfm,hm])
  .rw[if_neg hF0]at h ⊢;obtain⟨rfl,g4,g5⟩:=h;simp[g4,g5,fS,eL];exact cI (b:=b) rfl
 .have e1:=jj (f:=pE) hm
  try simp only[lF]at e1
  simp only[e1]at hS hRs hLf;rw[if_neg hm]at hfr;simp[bS,hT,hS,gp,c2',hRt,hm,e1,hRs,hLf,q1,q2,hpel,htk,hfr];refine WL.to hL (by simp[bS,hT,zS,e1]) rfl ?_;rintro x e J' ⟨rfl,h⟩;by_cases hF0:F=0
  .rw[if_pos hF0]at h ⊢;obtain⟨rfl,g2,g4,g7⟩:=h;simp[g2,g4,g7,bS,zS];exact Ef (b:=Io b (dt b l)) (by simp[bS,Io,jj hne0,hnl,hfm])
  .rw[if_neg hF0]at h ⊢;obtain⟨rfl,g4,g5⟩:=h;simp[g4,g5,fS,eL];exact cI (b:=b) rfl
theorem U0{b:bU}{m:bV}{r:RunT}{n:Nat}{x:sT}{wq:D}(h:Fv b m)(hr:Lg b n r.1 r.2)(hn:n<=200)(hx:UG b n x)(hwq:wq.pY=lF b.av bG.enc):
  Cl As [.agg [iI b.f.x,iI b.f.y,iI b.f.z,iI b.f.k,lF b.dL Rw.enc,iI b.cz,iI b.lift,iI b.deep,wq],.agg (mL m),.agg [lF r.1 kS,lF r.2 kS],.agg x.enc] (iI (oR b m r x)) J:=by
 refine au rfl rfl rfl ?_;have cls:∀l:List (List Rock.aD),D.bd (fM l kS)=true:=fN λx=>by simp[kS,D.clean,G6]
 unfold oR;by_cases h1:x.jP=1
 .obtain⟨p1,p2,p3⟩:=hx.p h1;have hz:=h.bv.sz;obtain⟨s1,s2⟩:=Xy hr (t:=x.tick.toNat) (by omega);have hi:x.idx.toNat<b.n:=by unfold bU.size at p3;omega
  have hP:=λJ=>I6 (J:=J) h s2 hi
  rw[show((x.idx.toNat:Nat):Int)=x.idx by omega]at hP;have a1:=bu (f:=kS) (w:=1) (λ_=>rfl) s1;simp only[kS,cp]at a1;have hl:=hr.sl;have q1:x.tick<r.1.length:=by omega
  rw[s1,if_pos h1];simp[hwq,h1,a1,hP,p1.1,q1]
 .obtain⟨p1,p2,p3⟩:=hx.y h1;obtain⟨y1,y2⟩:=Ps hr (t:=x.tick.toNat-1) (by omega);have hl:=hr.yl;have hb:=S9 y2 (w:=x.idx.toNat) (by omega);have a1:=bu (f:=kS) (w:=1) (λ_=>rfl) y1;simp only[kS,cp]at a1;have a2:=bu (f:=Rock.aD.enc) (w:=3) (λ_=>rfl) hb;have hy:=y2.ok _ (aj hb);have hyl:=y2.len;have⟨q1,q2⟩:x.tick-1<r.2.length/\x.idx<(rowAt r.2 (x.tick.toNat-1)).length:=by omega
  have q3:1<=x.tick:=p1.1;have t1:(x.tick-1).toNat=x.tick.toNat-1:=by omega
  have w1:=cf (n:=x.tick-1) (by omega);rw[y1,if_neg h1];simp only[Option.getD_some];generalize aP (rowAt r.2 (x.tick.toNat-1)) x.idx.toNat=y at a2 hy ⊢;unfold aD.Md aD.FK;by_cases h2:x.jP=2
  .simp[hwq,h2,a1,a2,q1,q2,q3,p2,t1,w1]
  have hw:=hx.jP;by_cases h3:x.jP=4
  .simp[hwq,h3,a1,a2,q1,q2,q3,p2,t1,w1]
  have h4:x.jP=3:=by omega
  have hm:=hy.1;have hh:=hy.2.1;by_cases h5:y.m=0
  .simp[hwq,h4,h5,a1,a2,q1,q2,q3,p2,t1,w1]
  .have t2:y.h.tdiv y.m=y.h / y.m:=aO hh.1;have w2:=cf (n:=y.h.tdiv y.m) (by
    rw[t2];have:=Int.ediv_nonneg hh.1 hm.1;have:=Int.ediv_le_self y.m hh.1;omega)
   simp[hwq,h4,h5,a1,a2,q1,q2,q3,p2,t1,w1,w2]
theorem Zs{ss ys:List (List Rock.aD)}{v v':Nat}(hJ:J≠[]):∃s,cG (J.length-1) 16 (.cV [.agg [.sl J.length 0 v 0 ss.length 1,.sl J.length 1 v' 0 ys.length 1],.bool true]) ([.cells v (fM ss kS),.cells v' (fM ys kS)]::J)=(.cV [.agg [lF ss kS,lF ys kS],.bool true],s::J):=by
 have c1:∀x:List Rock.aD,D.bd (kS x)=true:=λx=>by simp[kS,D.clean,G6]
 have k1:=nB (n:=14) (f:=kS) (w:=1) (l:=ss) (j:=0) (v:=v) (bs:=[.cells v (fM ss kS),.cells v' (fM ys kS)]) (by decide) (λ_=>rfl) c1 hJ rfl;have k2:=nB (n:=14) (f:=kS) (w:=1) (l:=ys) (j:=1) (v:=v') (bs:=[.dead,.cells v' (fM ys kS)]) (by decide) (λ_=>rfl) c1 hJ rfl;simp only[List.set_cons_zero]at k1;rw[tA (by simp) (by omega)];simp only[lA,nf];rw[D8 (by simp) (by omega)];simp only[lA,nf];rw[k1];simp only;rw[k2,eW (by rfl) (by omega)];exact⟨_,rfl⟩
theorem UZ{b:bU}{m:bV}{az:List (List Int)}(h:Fv b m)(hp:az.length<=200)(hr:∀r∈az,Rv b r)(hJ:J≠[]){ss ys:List (List Rock.aD)}(hrun:Rock.run b m az=some (ss,ys)){wq:D}(hwq:wq.pY=lF b.av bG.enc):
  Cl ka [.agg [iI b.f.x,iI b.f.y,iI b.f.z,iI b.f.k,lF b.dL Rw.enc,iI b.cz,iI b.lift,iI b.deep,wq],.agg (mL m),nl pE az] (.cV [.agg [lF ss kS,lF ys kS],.bool true]) J:=by
 by_cases hz:az=[]
 case neg=>rw[jj hz];exact I5 h hp hr hJ hrun hwq
 subst hz;cases hrun;refine au rfl rfl rfl ?_;have hf:=λJ hJ=>I7 (J:=J) h hJ
 simp[hwq,FA,hf];refine aB lu.eq_1 ?_;simp;have hz:=Zs (J:=J) (ss:=[bX b m]) (ys:=[]) (v:=0) (v':=0) hJ;simpa[kS,ou]using hz
def vY(b:Bk)(x:sT)(e:dQ):Int:=if e.left=true then(match Rock.run b.aQ e.m b.az with | some r=>oR b.aQ e.m r x | none=>0)else 0
theorem RQ{n:Nat}{b:Bk}{x:sT}{atv:Int}{L:D}{R:List D}(hR:R=bS b)(hL:L.calm=L)(hK:Kr n b)(ht:b.aQ.dL≠[])(hx:UG b.aQ b.az.length x):∀(m i:Nat),i+m=b.ah.length ->
  WL T [1,2,3,6,8,10,11] false m8 [(1,iI atv),(2,L),(3,.bf R),(6,.own 0 zS),(8,.own 0 x.enc),(10,.sl J.length 0 0 0 b.ah.length 1),(11,iI i)]
   ([.cells 0 (iP (b.ah.map (vY b x)) i m)]::J)
   (λy e J'=>y=.exit 0/\get e 1=iI atv/\get e 2=L/\get e 3=.bf R/\get e 6=.own 0 zS/\get e 10=.sl J.length 0 0 0 b.ah.length 1/\J'=[.cells 0 (fM (b.ah.map (vY b x)) aT)]::J)
 |0,i,hi=>by
  refine aB m8.eq_1 ?_;obtain rfl:i=b.ah.length:=by omega
  have hn:=nr (f:=dQ.enc) b.ah;have hf:=OI (vs:=b.ah.map (vY b x));rw[bE]at hf;rw[hf];subst hR;simp[bS,hn,hL]
 |m+1,i,hi=>by
  refine aB m8.eq_1 ?_;have h1:i<b.ah.length:=by omega
  have hml:=hK.kv.ml;have h1':(i:Int)<b.ah.length:=by omega
  obtain⟨e,he⟩:=gE h1;have hne:b.ah≠[]:=λh=>by rw[h]at h1;simp at h1
  have h2:=JI he;have d1:=pA (f:=dQ.enc) (w:=4) (λ_=>rfl) he;have d2:(fM b.ah dQ.enc).drop (i*4+2)=.bool e.left::iI e.PV::(fM b.ah dQ.enc).drop (i*4+4):=by
   have:=congrArg (List.drop 2) d1;simpa[cS]using this
  simp only[dQ.enc]at h2;have h4:=cr h1 (by omega);have hn:=jj (f:=dQ.enc) hne;have hT:=jj (f:=Rw.enc) ht;have ih:=RQ hR hL hK ht hx (atv:=atv) m (i+1) (by omega);obtain⟨f1,f2⟩:=Sg (vs:=b.ah.map (vY b x)) (i:=i) (m:=m) (v:=vY b x e) (by simp;omega) (by simp[he]);rw[bE]at f1;have hi1:i+1<=b.ah.length:=by omega
  have hem:=aj he;obtain⟨hp1,hp2⟩:=nR hK.kv.pl;simp only[sT.enc]at ih ⊢;cases hc:e.left
  .have hv:vY b x e=0:=by simp[vY,hc]
   have f3:iP (b.ah.map (vY b x)) i (m+1)=iP (b.ah.map (vY b x)) (i+1) m:=by
    unfold iP;rw[List.take_add_one,lB,he];simp[hv,List.replicate_succ]
   rw[f3];subst hR;simp[bS,hn,h1',h2,h4,hL,hc,hT];exact WL.to ih (by simp[bS,hn,hT]) rfl λx e J hh=>by simpa[bS,hn,hT]using hh
  .obtain⟨hBd,_,_⟩:=hK.kv.fit e hem;obtain⟨r,hrun⟩:=hK.kv.zR e hem hc;obtain⟨ss,ys⟩:=r;have hv:vY b x e=oR b.aQ e.m (ss,ys) x:=by simp[vY,hc,hrun]
   rw[hv]at f2;have hfv:=Fv.of hBd;have hP:∀J,J≠[]->dj T (.call false ka [.agg [iI b.aQ.f.x,iI b.aQ.f.y,iI b.aQ.f.z,iI b.aQ.f.k,lF b.aQ.dL Rw.enc,iI b.aQ.cz,iI b.aQ.lift,iI b.aQ.deep,nl bG.enc b.aQ.av],.agg (mL e.m),nl pE b.az] J)=_:=λJ hJ=>UZ (J:=J) hfv hp1 hp2 hJ hrun ke
   have hRd:=λJ=>U0 (J:=J) (wq:=nl bG.enc b.aQ.av) hfv (r:=(ss,ys)) (Lg.of hfv hp2 hrun) hp1 hx ke
   simp only[sT.enc]at hRd;subst hR;simp[bS,hn,h1',h2,h4,hL,hc,hT,hP,hRd,f1,f2,hi1];exact WL.to ih (by simp[bS,hn,hT]) (by simp) λx e J hh=>by simpa[bS,hn,hT]using hh
theorem YM{n:Nat}{b:Bk}{w i lo hi:Int}(hK:Kr n b)(hJ:J≠[]):
  Cl xq [.agg (bS b),iI b.at_,.bY 4 [iI w,iI i,iI lo,iI hi]] (gp (oz b ⟨b.az.length,w,i,lo,hi⟩)) J:=by
 refine au rfl rfl rfl ?_;have hS:=λJ=>Mj (J:=J) (b:=b) hK.kv.ml
 try simp only[Cl]at hS
 have hnp:=nr (f:=pE) b.az;have hcl:=nu (b:=b);by_cases c1:cc b.ah=[]
 .have hd:oz b ⟨b.az.length,w,i,lo,hi⟩=(b,8):=by unfold oz;rw[if_pos c1]
  rw[hd];simp[c1]at hS;simp only[bS]at hS hcl;simp[bS,hS,hcl,gp]
 have hne:=MU c1;have hv:=hK.valid hne;have ht:=vd (Bv.of hv).dL;have hT:=jj (f:=Rw.enc) ht
 try simp only[lF]at hT
 have hE:=jj (f:=dQ.enc) hne
 try simp only[lF]at hE
 simp[c1]at hS;simp only[bS,hT,hE]at hS hcl;cases c2:bA w 1 4
 .have hd:oz b ⟨b.az.length,w,i,lo,hi⟩=(b,1):=by
   unfold oz;rw[if_neg c1];split
   .simp[eI,c2]
   .rfl
  rw[hd];simp[bS,hT,hE,hS,hcl,dh,c2,gp]
 have hw:=aS.1 c2;have hw8:bA w 0 255=true:=aS.2 (by omega);have w1:IntKind.u8.wrap w=w:=wu8 (by omega);have hC:=λJ=>Mi (J:=J) (b:=b.aQ) (n:=b.az.length) (rd:=[⟨b.az.length,w,i,lo,hi⟩]) (wq:=nl bG.enc b.aQ.av) (Bv.of hv) (by simp) (by intro x hx;simp at hx;subst hx;simp only;omega) ke
 try simp only[lF,Cl]at hC
 rw[Bw]at hC;simp only[aK,bx,eg,rP,cX,sT.enc,ck]at hC;have hd:oz b ⟨b.az.length,w,i,lo,hi⟩=if eI b.aQ b.az.length ⟨b.az.length,w,i,lo,hi⟩=0 then(ek b lo hi (oS b ⟨b.az.length,w,i,lo,hi⟩),0)else(b,eI b.aQ b.az.length ⟨b.az.length,w,i,lo,hi⟩):=by
  unfold oz;rw[if_neg c1,if_pos hw8]
 rw[hd];by_cases c3:eI b.aQ b.az.length ⟨b.az.length,w,i,lo,hi⟩=0
 case neg =>
  rw[if_neg c3];simp[bS,hT,hE,hS,hcl,dh,c2,w1,hnp,hC,c3,gp]
 rw[if_pos c3];have hx:=UG.of c3;have hLv:=RQ (J:=J) (b:=b) (x:=⟨b.az.length,w,i,lo,hi⟩) (atv:=b.at_) (L:=.bY 4 [iI w,iI i,iI lo,iI hi]) (R:=bS b) rfl rfl hK ht hx b.ah.length 0 (by omega);have hst:=λJ hJ=>Lc (J:=J) (b:=b) (lo:=lo) (hi:=hi) (val:=oS b ⟨b.az.length,w,i,lo,hi⟩) (vs:=b.ah.map (vY b ⟨b.az.length,w,i,lo,hi⟩)) hne hK.kv.wl hK.kv.ml (by simp) (by
  intro j e v he hv hl;simp[he]at hv;subst hv;obtain⟨r,hrun⟩:=hK.kv.zR e (aj he) hl;have h1:vY b ⟨b.az.length,w,i,lo,hi⟩ e=oR b.aQ e.m r ⟨b.az.length,w,i,lo,hi⟩:=by simp[vY,hl,hrun]
  have h2:oS b ⟨b.az.length,w,i,lo,hi⟩ e.m=K2 lo hi (oR b.aQ e.m r ⟨b.az.length,w,i,lo,hi⟩):=by simp[oS,hrun]
  rw[h1,h2];have he2:=hx.ends.2.1
  try simp only[]at he2
  try simp only at he2
  generalize oR b.aQ e.m r ⟨b.az.length,w,i,lo,hi⟩=v;unfold K2;split
  .exact⟨rfl,λ_=>rfl⟩
  .have q1:bA v lo hi=true:=aS.2 (by omega);have q2:bA lo lo hi=true:=aS.2 (by omega);rw[q1,q2];exact⟨rfl,λh=>by cases h⟩) hJ
 have hz:=Lv (vs:=b.ah.map (vY b ⟨b.az.length,w,i,lo,hi⟩));rw[bE]at hz;rw[hz]at hLv;have hml:=hK.kv.ml;have r1:(b.ah.length:Int)*8<=room:=by unfold room;omega
 simp[bS,hT,hE,hS,dh,c2,w1,hnp,hC,c3,r1];refine WL.to hLv (by simp[bS,hT,hE,zS]) (by simp) ?_;rintro y e J' ⟨rfl,g1,g2,g3,g6,g10,rfl⟩;have cli:∀x:Int,D.bd (aT x)=true:=λ_=>by simp[aT,D.clean]
 have f3:=pV (f:=aT) (w:=1) (λ_=>rfl) cli (l:=b.ah.map (vY b ⟨b.az.length,w,i,lo,hi⟩)) (j:=0) (v:=0) (bs:=[.cells 0 (fM (b.ah.map (vY b ⟨b.az.length,w,i,lo,hi⟩)) aT)]) (J:=J) hJ rfl;simp only[lF,Cl,bE]at f3 hst;simp[g1,g2,g3,g6,g10,f3,hst,fS,eL,DW,zZ,gp];exact cI (b:=ek b lo hi (oS b ⟨b.az.length,w,i,lo,hi⟩)) rfl
end
end Go.Proofs.YtpapbbojmclkgaaGreatDoor
