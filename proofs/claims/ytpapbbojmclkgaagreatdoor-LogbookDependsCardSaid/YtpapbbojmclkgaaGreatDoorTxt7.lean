import Derived.Test.YtpapbbojmclkgaaGreatDoorTxt6
set_option linter.all false
namespace Go.Proofs.YtpapbbojmclkgaaGreatDoor
section
open Go Go.Abs Go.Rock Go.Book
variable {J:SK}
theorem Y2{r:Trem.cH}:Cl 91 [.agg r.enc] (.bool r.ok) J:=by
 refine au ?_;cases hc1:Trem.uF r.lo r.hi
 .simp[Lt,Trem.cH.ok,hc1]
 cases hc2:Trem.bC r.least 0 160
 .simp[Lt,xE,Trem.cH.ok,hc1,hc2]
 cases hc3:Trem.bC r.uY 1 1000000
 .simp[Lt,xE,Trem.cH.ok,hc1,hc2,hc3]
 cases hc4:Trem.bC r.count 1 200
 .simp[Lt,xE,Trem.cH.ok,hc1,hc2,hc3,hc4]
 by_cases hc5:r.M9=1
 rotate_left
 .simp[Lt,xE,Trem.cH.ok,hc1,hc2,hc3,hc4,hc5]
 simp[Lt,xE,Trem.cH.ok,hc1,hc2,hc3,hc4,hc5]
theorem Y0{k0 k1 k2:Int}:Cl 92 [.bz,.bz,.agg [iI k0,iI k1,iI k2],iI 0] (.bool (Trem.fx k0 k1 k2)) J:=by
 refine au ?_;have h0:Trem.bC 0 0 1000000000=true:=rfl;by_cases h1:1000<k0
 .have hk:Trem.fx k0 k1 k2=false:=by simp[Trem.fx];omega
  simp[xE,h0,h1,hk]
 by_cases h2:k2<0
 .have hk:Trem.fx k0 k1 k2=false:=by simp[Trem.fx];omega
  simp[xE,h0,h1,h2,hk]
 by_cases h3:k0<k1
 .have hk:Trem.fx k0 k1 k2=false:=by simp[Trem.fx];omega
  simp[xE,h0,h1,h2,h3,hk]
 by_cases h4:k1<k2
 .have hk:Trem.fx k0 k1 k2=false:=by simp[Trem.fx];omega
  simp[xE,h0,h1,h2,h3,h4,hk]
 simp[xE,h0,h1,h2,h3,h4];refine aA pw.eq_1 ?_;simp[Trem.fx];omega
theorem OE{e:Trem.Ev}(hl:e.sp.length<=1000000):∀(k i:Nat),i+k=e.sp.length ->
  WL T [1,3] false iJ [(1,.bg e.enc),(3,iI i)] J
   (λx e' J'=>J'=J/\if dj (e.sp.drop i) Trem.pV.ok=true then x=.exit 0/\get e' 1=.bg e.enc else x=.ret/\get e' 2=.bool false)
 |0,i,hi=>by
  refine aA iJ.eq_1 ?_;obtain rfl:i=e.sp.length:=by omega
  have h2:e.sp.drop e.sp.length=[]:=an (by omega);simp[h2,dj]
 |k+1,i,hi=>by
  refine aA iJ.eq_1 ?_;have h1:i<e.sp.length:=by omega
  obtain⟨s,hs⟩:=gE h1;have h2:=bd (f:=Trem.pV.enc) (w:=4) (λ_=>rfl) hs;have h4:=cg h1;have ih:=OE hl k (i+1) (by omega);rw[bx hs,show dj (s::e.sp.drop (i+1)) Trem.pV.ok=(s.ok && dj (e.sp.drop (i+1)) Trem.pV.ok)from rfl];cases c1:s.p.ok
  .simp[h1,h2,Ie,c1,Trem.pV.ok]
  cases c2:Trem.bC s.mag 0 160
  .simp[h1,h2,Ie,xE,c1,c2,Trem.pV.ok]
  simp[h1,h2,h4,Ie,xE,c1,c2,Trem.pV.ok];exact WL.to ih (by simp) rfl λx e J' hh=>by simpa[c1,c2]using hh
theorem Vn{e:Trem.Ev}(hl:e.sp.length<=1000000):Cl 93 [.agg e.enc] (.bool e.ok) J:=by
 refine au ?_;simp;refine WL.to (OE hl e.sp.length 0 (by omega)) (by simp) rfl ?_;rintro x e' J' ⟨rfl,h⟩;rw[aC]at h;cases c0:dj e.sp Trem.pV.ok
 .rw[c0]at h;simp at h;obtain⟨rfl,g2⟩:=h;simp[g2,Trem.Ev.ok,c0]
 rw[c0]at h;simp at h;obtain⟨rfl,g1⟩:=h;cases c1:Trem.bC e.tick 0 1000000
 .simp[g1,xE,c1,Trem.Ev.ok]
 have hi:Trem.bC e.sp.length 1 2000=(decide ((1:Int)<=e.sp.length) && decide ((e.sp.length:Int)<=2000)):=rfl;by_cases c2:(1:Int)<=e.sp.length
 .by_cases c3:(e.sp.length:Int)<=2000
  .simp[g1,xE,c1,c2,c3,c0,Trem.Ev.ok,hi]
  .simp[g1,xE,c1,c2,c3,c0,Trem.Ev.ok,hi]
 .simp[g1,xE,c1,c2,c0,Trem.Ev.ok,hi]
def KP:List UInt8:=[114,117,108,101]
def Qc:List UInt8:=[107,101,101,112]
def KO:List UInt8:=[113,117,97,107,101]
theorem Zr{b:Bk}{x y z:Int}:Cl 64 [.agg (bY b),.str Qc,.bT 3 [iI x,iI y,iI z]] (gl (if Trem.fx x y z=true then(Kq b x y z,0)else(b,1))) J:=by
 refine au ?_;have hC:=λJ=>Y0 (J:=J) (k0:=x) (k1:=y) (k2:=z)
 cases h:Trem.fx x y z
 .rw[h]at hC;simp[ia,Qc,bY,hC,gl];exact⟨_,lg⟩
 .rw[h]at hC;simp[ia,Qc,bY,hC,gl];exact⟨_,lg (b:=Kq b x y z)⟩
theorem RJ{x0 x1 x2 x3 x4 x5 x6 x7 x8 x9:Int}:Trem.cH.ok ⟨⟨x0,x1,x2⟩,⟨x3,x4,x5⟩,x6,x7,x8,max 0 (min x9 9)⟩=(bC x9 1 2 && Trem.cH.ok ⟨⟨x0,x1,x2⟩,⟨x3,x4,x5⟩,x6,x7,x8,x9⟩):=by
 rw[Bool.eq_iff_iff,af,Trem.zl,Trem.zl,aP];constructor
 .rintro⟨h1,h2,h3,h4,h5⟩;simp only at h5;exact⟨by omega,h1,h2,h3,h4,by simp only;omega⟩
 .rintro⟨h0,h1,h2,h3,h4,h5⟩;exact⟨h1,h2,h3,h4,by simp only;omega⟩
theorem Zu{b:Bk}{x0 x1 x2 x3 x4 x5 x6 x7 x8 x9:Int}(hb:b.rules.length<=1000000)(hJ:J≠[]):Cl 64 [.agg (bY b),.str KP,.bT 10 [iI x0,iI x1,iI x2,iI x3,iI x4,iI x5,iI x6,iI x7,iI x8,iI x9]] (gl (sk b ⟨⟨x0,x1,x2⟩,⟨x3,x4,x5⟩,x6,x7,x8,x9⟩ x9)) J:=by
 refine au ?_;have hn:=mJ (f:=Trem.cH.enc) b.rules;by_cases h1:b.rules.length<20
 case neg =>
  have h1':(20:Int)<=b.rules.length:=by omega
  simp[ia,KP,bY,hn,h1',sk,h1,gl];exact⟨_,lg⟩
 have h1':¬(20:Int)<=b.rules.length:=by omega
 have hw:IntKind.u8.wrap (max 0 (min x9 9))=max 0 (min x9 9):=wu8 (by omega);have hC:=λJ=>Y2 (J:=J) (r:=⟨⟨x0,x1,x2⟩,⟨x3,x4,x5⟩,x6,x7,x8,max 0 (min x9 9)⟩)
 simp only[Trem.cH.enc,RJ]at hC;by_cases h2:bC x9 1 2=true/\Trem.cH.ok ⟨⟨x0,x1,x2⟩,⟨x3,x4,x5⟩,x6,x7,x8,x9⟩=true
 case neg =>
  have hd:sk b ⟨⟨x0,x1,x2⟩,⟨x3,x4,x5⟩,x6,x7,x8,x9⟩ x9=(b,1):=by
   unfold sk;rw[if_pos h1];split
   .rw[if_neg λh=>h2 ⟨by assumption,h⟩]
   .rfl
  rw[hd];have h3:(bC x9 1 2 && Trem.cH.ok ⟨⟨x0,x1,x2⟩,⟨x3,x4,x5⟩,x6,x7,x8,x9⟩)=false:=by simpa using h2
  rw[h3]at hC;simp[ia,KP,bY,hn,h1',hw,hC,gl];exact⟨_,lg⟩
 have h3:1<=x9/\x9<=2:=aP.1 h2.1;rw[h2.1,h2.2,show max 0 (min x9 9)=x9 by omega]at hC;rw[show max 0 (min x9 9)=x9 by omega]at hw;have hm:max 0 (min x9 9)=x9:=by omega
 have l1:=P8 b.rules;have l2:(fM b.rules Trem.cH.enc).take (b.rules.length*10)=fM b.rules Trem.cH.enc:=ah (by omega);have⟨r1,r2,r3⟩:b.rules.length*80<=room/\(b.rules.length+1)*80<=room/\80<=room:=by unfold room;omega
 by_cases hm0:b.rules=[]
 .simp[ia,KP,bY,hm,hw,hC,sk,h2,gl,hm0,FW,r3];exact Ec (b:=b) (b':={b with rules:=[⟨⟨x0,x1,x2⟩,⟨x3,x4,x5⟩,x6,x7,x8,x9⟩] }) 11 10 (λ_=>rfl) adn [⟨⟨x0,x1,x2⟩,⟨x3,x4,x5⟩,x6,x7,x8,x9⟩] 0 0 1 hJ rfl rfl rfl (by simp) (by simp[bY,hm0,nl])
 .have e1:=jS (f:=Trem.cH.enc) hm0;simp[ia,KP,bY,h1,h1',hm,hw,hC,sk,h2,gl,hm0,e1,l1,l2,r1,r2];exact Ec (b:=b) (b':={b with rules:=b.rules++[⟨⟨x0,x1,x2⟩,⟨x3,x4,x5⟩,x6,x7,x8,x9⟩] }) 11 10 (λ_=>rfl) adn (b.rules++[⟨⟨x0,x1,x2⟩,⟨x3,x4,x5⟩,x6,x7,x8,x9⟩]) 0 1 (b.rules.length+1) hJ rfl rfl (by simp) (by simp) (by simp[bY,HP])
theorem OQ{A:List D}{sp:List Trem.pV}{tk:Int}(hl:sp.length<=1000000):∀(m j:Nat),j+m=sp.length ->
  WL T [2,3,6,10,11] false lZ [(2,.bT (sp.length*4) (fM sp Trem.pV.enc)),(3,.own 0 A),(6,.own 0 zS),(10,.own 0 [iI tk,.sl J.length 0 j 0 j 4]),(11,iI (j*4))] ([.cells j (fM (sp.take j) Trem.pV.enc)]::J)
   (λx e J'=>x=.exit 1/\get e 3=.own 0 A/\get e 6=.own 0 zS/\get e 10=.own 0 [iI tk,.sl J.length 0 sp.length 0 sp.length 4]/\J'=[.cells sp.length (fM sp Trem.pV.enc)]::J)
 |0,j,h=>by
  refine aA lZ.eq_1 ?_;obtain rfl:j=sp.length:=by omega
  simp
 |m+1,j,h=>by
  refine aA lZ.eq_1 ?_;have h1:j<sp.length:=by omega
  obtain⟨p,hp⟩:=gE h1;have d0:=rD (f:=Trem.pV.enc) (w:=4) (λ_=>rfl) hp;have d1:=congrArg (List.drop 1) d0;have d2:=congrArg (List.drop 2) d0;have d3:=congrArg (List.drop 3) d0;simp[dh]at d1 d2 d3;have⟨h2,k1,k2,k3,n0,n1⟩:(j:Int)*4<(sp.length:Int)*4/\(j:Int)*4+1<(sp.length:Int)*4/\(j:Int)*4+2<(sp.length:Int)*4/\(j:Int)*4+3<(sp.length:Int)*4/\0<=(j:Int)*4/\0<=(j:Int)*4+1:=by omega
  have⟨n2,n3,t0,t1,t2,t3⟩:0<=(j:Int)*4+2/\0<=(j:Int)*4+3/\((j:Int)*4).toNat=j*4/\((j:Int)*4+1).toNat=j*4+1/\((j:Int)*4+2).toNat=j*4+2/\((j:Int)*4+3).toNat=j*4+3:=by omega
  have w1:=cb (n:=(j:Int)*4+1);have w2:=cb (n:=(j:Int)*4+2);have w3:=cb (n:=(j:Int)*4+3);have w4:=cb (n:=(j:Int)*4+4);have hl1:(sp.take j).length=j:=by simp;omega
  have hr:(j+1)*32<=room:=by unfold room;omega
  have ha:=N4 (sp.take j);rw[hl1]at ha;have ta:(fM (sp.take j) Trem.pV.enc).take (j*4)=fM (sp.take j) Trem.pV.enc:=ah (by omega);have ih:=OQ (A:=A) (tk:=tk) hl m (j+1) (by omega);have htk:sp.take (j+1)=sp.take j++[p]:=by rw[List.take_add_one,hp];rfl
  rw[htk,show((j+1:Nat):Int)*4=(j:Int)*4+4 by omega]at ih;simp[h1,k1,k2,k3,n0,n1,n2,n3,t0,t1,t2,t3,d0,d1,d2,d3,w1,w2,w3,w4,hr,ha,ta];exact WL.to ih (by simp) (by simp) λx e J' hh=>hh
theorem V1{b:Bk}{sp:List Trem.pV}(hl:sp.length<=1000000)(hb:b.pZ.length<=1000000)(hJ:J≠[]):Cl 64 [.agg (bY b),.str KO,.bT (sp.length*4) (fM sp Trem.pV.enc)] (gl (oX b sp)) J:=by
 refine au ?_;have hn:=mJ (f:=Trem.Ev.enc) b.pZ;have hnp:=mJ (f:=pE) b.aw;by_cases h1:b.pZ.length<200
 case neg =>
  have h1':(200:Int)<=b.pZ.length:=by omega
  simp[ia,KO,bY,hn,h1',oX,h1,gl];exact⟨_,lg⟩
 have h1':¬(200:Int)<=b.pZ.length:=by omega
 have hL:=OQ (J:=J) (A:=bY b) (sp:=sp) (tk:=b.aw.length) hl sp.length 0 (by omega);simp[ia,KO,bY,hn,h1',hnp];refine WL.to hL (by simp[bY,zS]) (by simp) ?_;rintro x e J' ⟨rfl,g2,g4,g6,rfl⟩;have hC:=λJ=>Vn (J:=J) (e:=⟨b.aw.length,sp⟩) hl
 simp only[Trem.Ev.enc]at hC;have hf:=o9 (f:=Trem.pV.enc) (w:=4) (λ_=>rfl) (λ_=>by simp[D.clean]) (l:=sp) (j:=0) (v:=sp.length) (bs:=[Abs.aG.cells sp.length (fM sp Trem.pV.enc)]) (J:=J) hJ rfl;cases h2:Trem.Ev.ok ⟨b.aw.length,sp⟩
 .rw[h2]at hC;simp[g2,g4,g6,hf,hC,eS,eH,CQ,xV,oX,h1,h2,gl];exact⟨_,lg⟩
 .rw[h2]at hC;have l1:=Xc b.pZ;have l2:(fM b.pZ Trem.Ev.enc).take (b.pZ.length*2)=fM b.pZ Trem.Ev.enc:=ah (by omega);have⟨r1,r2,r3⟩:b.pZ.length*32<=room/\(b.pZ.length+1)*32<=room/\32<=room:=by unfold room;omega
  by_cases hm:b.pZ=[]
  .simp[g2,g4,g6,hf,hC,bY,zS,oX,h2,gl,hm,FW,r3];exact Ec (b:=b) (b':=Ea b ⟨b.aw.length,sp⟩) 12 2 (λ_=>rfl) adm [⟨b.aw.length,sp⟩] 1 0 1 hJ rfl rfl rfl (by simp) (by simp[bY,Ea,hm,nl])
  .have e1:=jS (f:=Trem.Ev.enc) hm;simp[g2,g4,g6,hf,hC,bY,zS,oX,h1,h2,gl,hm,e1,l1,l2,r1,r2];exact Ec (b:=b) (b':=Ea b ⟨b.aw.length,sp⟩) 12 2 (λ_=>rfl) adm (b.pZ++[⟨b.aw.length,sp⟩]) 1 1 (b.pZ.length+1) hJ rfl rfl (by simp) (by simp) (by simp[bY,Ea,HP])
def Ee:List UInt8:=[102,105,101,108,100]
def HY:List UInt8:=[116,97,98,108,101]
def KN:List UInt8:=[98,101,100]
def Ef:List UInt8:=[119,101,108,108]
theorem cJ{b:Bk}{X:List D}{e:Int}{L:Nat}{S:SK}{s:List Abs.aG}(h:bY b=X):∃s',cF L 16 (.cK [.agg X,iI e]) (s::S)=(.cK [.agg X,iI e],s'::S):=by
 subst h;exact⟨_,lg⟩
theorem EE{b:Bk}{X:List D}{e:Int}{L:Nat}{S:SK}{s:List Abs.aG}(h:bY b=X):∃s',cF L 16 (.cK [.agg X,iI e]) (s::S)=(.cK [.agg (bY b),iI e],s'::S):=by
 subst h;exact⟨_,lg⟩
theorem uA(b:Bk):nl bH.enc b.aS.av=.bz\/nl bH.enc b.aS.av=lF b.aS.av bH.enc/\b.aS.av≠[]:=by
 by_cases h:b.aS.av=[]
 .exact .inl (by simp[nl,h])
 .exact .inr ⟨by simp[nl,h],h⟩
theorem VX{b:Bk}{x y z k:Int}(hw:b.aS.av.length<=1000000)(hn:((b.aS.f.x=0/\b.aS.f.y=0)/\b.aS.f.z=0/\b.aS.f.k=0)->b.aS.av=[]):
  Cl 63 [.agg (bY b),.str Ee,.bT 4 [iI x,iI y,iI z,iI k]] (gl (Go.Book.nS b x y z k)) J:=by
 refine au ?_;have hf:=λJ=>Of (J:=J) (f:=⟨x,y,z,k⟩)
 have r1:b.aS.av.length*24<=room:=by unfold room;omega
 have l1:=yb b.aS.av;by_cases h0:(b.aS.f.x=0/\b.aS.f.y=0)/\b.aS.f.z=0/\b.aS.f.k=0
 case neg =>
  have hq:¬b.aS.f.x=0\/¬b.aS.f.y=0\/¬b.aS.f.z=0\/¬b.aS.f.k=0:=by omega
  have hd:Go.Book.nS b x y z k=(b,8):=if_neg h0;rw[hd];rcases uA b with hE | ⟨hE,hne⟩
  .simp[ia,Ee,bY,hE,hq,gl];exact cJ (b:=b) (by simp[bY,hE])
  .simp[ia,Ee,bY,hE,hne,r1,l1,hq,gl];exact cJ (b:=b) (by simp[bY,hE])
 have hq:(¬b.aS.f.x=0\/¬b.aS.f.y=0\/¬b.aS.f.z=0\/¬b.aS.f.k=0)=False:=by simp;omega
 have hE:nl bH.enc b.aS.av=.bz:=by simp[nl,hn h0]
 by_cases h1:(dD.mk x y z k).valid=true/\4<=k
 .have hd:Go.Book.nS b x y z k=({b with aS:={b.aS with f:=⟨x,y,z,k⟩ } },0):=by unfold Go.Book.nS;rw[if_pos h0,if_pos h1]
  rw[hd];rw[h1.1]at hf;simp[ia,Ee,bY,hE,hq,gl,hf,show ¬k<4 by omega];exact cJ (b:={b with aS:={b.aS with f:=⟨x,y,z,k⟩ } }) (by simp[bY,hE])
 have hd:Go.Book.nS b x y z k=(b,1):=by unfold Go.Book.nS;rw[if_pos h0,if_neg h1]
 rw[hd];cases h2:(dD.mk x y z k).valid
 .rw[h2]at hf;simp[ia,Ee,bY,hE,hq,gl,hf];exact cJ (b:=b) (by simp[bY,hE])
 .rw[h2]at hf;have h3:k<4:=Int.not_le.1 λh=>h1 ⟨h2,h⟩
  simp[ia,Ee,bY,hE,hq,gl,hf,h3];exact cJ (b:=b) (by simp[bY,hE])
def P4(L:Nat):Nat->D
 |0 => .bz
 |j+1 => .sl L 0 j 0 (j+1) 5
def Ll(t:List Rw):Nat->List Abs.aG
 |0=>[]
 |j+1=>[.cells j (fM (t.take (j+1)) Rw.enc)]
def Hq(b:Bk)(W:D):List D:=[iI b.aS.f.x,iI b.aS.f.y,iI b.aS.f.z,iI b.aS.f.k,W,iI b.aS.cA,iI b.aS.lift,iI b.aS.deep,.bz]
theorem OS{A:List D}{b:Bk}{t:List Rw}(hl:t.length<=1000000):∀(m j:Nat),j+m=t.length ->
  WL T [2,3,6,8,9] false ow [(2,.bT (t.length*5) (fM t Rw.enc)),(3,.own 0 A),(6,.own 0 zS),(8,.own 0 (Hq b (P4 J.length j))),(9,iI (j*5))] (Ll t j::J)
   (λx e J'=>x=.exit 1/\get e 3=.own 0 A/\get e 6=.own 0 zS/\get e 8=.own 0 (Hq b (P4 J.length t.length))/\J'=Ll t t.length::J)
 |0,j,h=>by
  refine aA ow.eq_1 ?_;obtain rfl:j=t.length:=by omega
  simp[Hq]
 |m+1,j,h=>by
  refine aA ow.eq_1 ?_;have h1:j<t.length:=by omega
  obtain⟨p,hp⟩:=gE h1;have d0:=rD (f:=Rw.enc) (w:=5) (λ_=>rfl) hp;have d1:=congrArg (List.drop 1) d0;have d2:=congrArg (List.drop 2) d0;have d3:=congrArg (List.drop 3) d0;have d4:=congrArg (List.drop 4) d0;simp[dh]at d1 d2 d3 d4;have⟨h2,k1,k2,k3,k4,n0⟩:(j:Int)*5<(t.length:Int)*5/\(j:Int)*5+1<(t.length:Int)*5/\(j:Int)*5+2<(t.length:Int)*5/\(j:Int)*5+3<(t.length:Int)*5/\(j:Int)*5+4<(t.length:Int)*5/\0<=(j:Int)*5:=by omega
  have⟨n1,n2,n3,n4,t0,t1⟩:0<=(j:Int)*5+1/\0<=(j:Int)*5+2/\0<=(j:Int)*5+3/\0<=(j:Int)*5+4/\((j:Int)*5).toNat=j*5/\((j:Int)*5+1).toNat=j*5+1:=by omega
  have⟨t2,t3,t4⟩:((j:Int)*5+2).toNat=j*5+2/\((j:Int)*5+3).toNat=j*5+3/\((j:Int)*5+4).toNat=j*5+4:=by omega
  have w1:=cb (n:=(j:Int)*5+1);have w2:=cb (n:=(j:Int)*5+2);have w3:=cb (n:=(j:Int)*5+3);have w4:=cb (n:=(j:Int)*5+4);have w5:=cb (n:=(j:Int)*5+5);have ih:=OS (A:=A) (b:=b) hl m (j+1) (by omega);have htk:t.take (j+1)=t.take j++[p]:=by rw[List.take_add_one,hp];rfl
  rw[show((j+1:Nat):Int)*5=(j:Int)*5+5 by omega]at ih;have hl1:(t.take j).length=j:=by simp;omega
  have ha:=NV (t.take j);rw[hl1]at ha;have ta:(fM (t.take j) Rw.enc).take (j*5)=fM (t.take j) Rw.enc:=ah (by omega);have hr:(j+1)*40<=room:=by unfold room;omega
  have eN:P4 J.length (j+1)=.sl J.length 0 j 0 (j+1) 5:=rfl;have eG:Ll t (j+1)=[.cells j (fM (t.take j) Rw.enc++p.enc)]:=by simp[Ll,htk]
  rw[eN,eG]at ih;by_cases hz:j=0
  .have e1:P4 J.length j=.bz:=by rw[hz];rfl
   have e2:Ll t j=[]:=by rw[hz];rfl
   have e3:t.take j=[]:=by rw[hz];rfl
   rw[e3]at ih;simp[Hq,e1,e2,h1,k1,k2,k3,k4,n0,n1,n2,n3,n4,t0,t1,t2,t3,t4,d0,d1,d2,d3,d4,w1,w2,w3,w4,w5,show 40<=room by unfold room;omega];exact WL.to ih (by simp[Hq,hz]) (by simp[hz]) λx e J' hh=>by simpa[Hq]using hh
  .have e0:j-1+1=j:=by omega
   have e1:P4 J.length j=.sl J.length 0 (j-1) 0 j 5:=by rw[<- e0];rfl
   have e2:Ll t j=[.cells (j-1) (fM (t.take j) Rw.enc)]:=by rw[<- e0];rfl
   simp[Hq,e1,e2,h1,k1,k2,k3,k4,n0,n1,n2,n3,n4,t0,t1,t2,t3,t4,d0,d1,d2,d3,d4,w1,w2,w3,w4,w5,hr,ha,ta,e0];exact WL.to ih (by simp[Hq]) (by simp) λx e J' hh=>by simpa[Hq]using hh
theorem On:Cl 89 [.bz] (.bool false) J:=by
 refine au ?_;simp;refine aA kF.eq_1 ?_;simp[]
theorem V3{b:Bk}{t:List Rw}(hl:t.length<=1000000)(hw:b.aS.av.length<=1000000)(hn:b.aS.dP=[]->b.aS.av=[])(hJ:J≠[]):
  Cl 63 [.agg (bY b),.str HY,.bT (t.length*5) (fM t Rw.enc)] (gl (lT b t)) J:=by
 refine au ?_;have r1:b.aS.av.length*24<=room:=by unfold room;omega
 have l1:=yb b.aS.av;have hnt:=mJ (f:=Rw.enc) b.aS.dP;by_cases h0:b.aS.dP=[]
 case neg =>
  have hd:lT b t=(b,8):=if_neg h0;have hq:0<b.aS.dP.length:=aI.2 h0;rw[hd];rcases uA b with hE | ⟨hE,hne⟩
  .simp[ia,HY,bY,hE,hq,gl,hnt];exact cJ (b:=b) (by simp[bY,hE])
  .simp[ia,HY,bY,hE,hne,r1,l1,hq,gl,hnt];exact cJ (b:=b) (by simp[bY,hE])
 have hE:nl bH.enc b.aS.av=.bz:=by simp[nl,hn h0]
 have hT:nl Rw.enc b.aS.dP=.bz:=by simp[nl,h0]
 have hL:=OS (J:=J) (A:=bY b) (b:=b) hl t.length 0 (by omega);simp[ia,HY,bY,hE,hT];refine WL.to hL (by simp[bY,hE,hT,Hq,zS,P4]) (by simp[Ll]) ?_;rintro x e J' ⟨rfl,g3,g6,g8,rfl⟩;by_cases hz:t=[]
 .have hd:lT b t=(b,1):=by subst hz;simp[lT,h0,fK,bC]
  rw[hd];have e1:P4 J.length t.length=.bz:=by rw[hz];rfl
  have e2:Ll t t.length=[]:=by rw[hz];rfl
  rw[e1]at g8;simp[g3,g6,g8,e2,Hq,On,eS,eH,CQ,xV,gl];exact cJ (b:=b) rfl
 .have e0:t.length-1+1=t.length:=by have:=aI.2 hz;omega
  have e1:P4 J.length t.length=.sl J.length 0 (t.length-1) 0 t.length 5:=by rw[<- e0];rfl
  have e2:Ll t t.length=[.cells (t.length-1) (fM t Rw.enc)]:=by rw[<- e0];simp[Ll,e0]
  have hf:=o9 (f:=Rw.enc) (w:=5) (λ_=>rfl) (λ_=>by simp[D.clean]) (l:=t) (j:=0) (v:=t.length-1) (bs:=[Abs.aG.cells (t.length-1) (fM t Rw.enc)]) (J:=J) hJ rfl;have hC:=λJ=>Om (J:=J) (t:=t) (by omega)
  rw[e1]at g8;cases h2:fK t
  .have hd:lT b t=(b,1):=by simp[lT,h0,h2]
   rw[hd];rw[h2]at hC;simp[g3,g6,g8,e2,hf,Hq,hC,eS,eH,CQ,xV,gl];exact cJ (b:=b) rfl
  .have hd:lT b t=(H7 b t,0):=by simp[lT,h0,h2]
   rw[hd];rw[h2]at hC;simp[g3,g6,g8,e2,hf,Hq,hC,bY,hE,hT,zS,gl];exact EE (b:=H7 b t) (by simp[bY,H7,hE,jS hz])
theorem acJ{b:Bk}{x y z:Int}(ht:b.aS.dP.length<=1000000)(hw:b.aS.av.length<=1000000)(hn:b.ready=false->b.aS.av=[])(hJ:J≠[]):
  Cl 63 [.agg (bY b),.str KN,.bT 3 [iI x,iI y,iI z]] (gl (yd b x y z)) J:=by
 refine au ?_;have r1:b.aS.av.length*24<=room:=by unfold room;omega
 have l1:=yb b.aS.av;have hnt:=mJ (f:=Rw.enc) b.aS.dP;by_cases h0:((b.aS.f.x=0/\b.aS.f.y=0)/\b.aS.f.z=0/\b.aS.f.k=0)\/b.aS.dP=[]\/b.ready=true
 .have hd:yd b x y z=(b,8):=if_pos h0;rw[hd];by_cases hq1:b.aS.f.x=0/\b.aS.f.y=0/\b.aS.f.z=0/\b.aS.f.k=0
  .rcases uA b with hE | ⟨hE,hne⟩
   .simp[ia,KN,bY,hE,hq1,gl];exact cJ (b:=b) (by simp[bY,hE,hq1])
   .simp[ia,KN,bY,hE,hne,r1,l1,hq1,gl];exact cJ (b:=b) (by simp[bY,hE,hq1])
  .have hq:(b.aS.f.x=0->b.aS.f.y=0->b.aS.f.z=0->¬b.aS.f.k=0)=True:=eq_true λh1 h2 h3 h4=>hq1 ⟨h1,h2,h3,h4⟩
   have hq3:(b.aS.f.x=0/\b.aS.f.y=0/\b.aS.f.z=0/\b.aS.f.k=0)=False:=eq_false hq1;by_cases hq2:b.aS.dP=[]
   .rcases uA b with hE | ⟨hE,hne⟩
    .simp[ia,KN,bY,hE,hq,hq3,hq2,gl];exact cJ (b:=b) (by simp[bY,hE,hq2])
    .simp[ia,KN,bY,hE,hne,r1,l1,hq,hq3,hq2,gl];exact cJ (b:=b) (by simp[bY,hE,hq2])
   .have hr:b.ready=true:=by
     rcases h0 with h | h | h
     .exact absurd ⟨h.1.1,h.1.2,h.2.1,h.2.2⟩ hq1
     .exact absurd h hq2
     .exact h
    have hb:((b.aS.dP.length:Int) == 0)=false:=by have:=aI.2 hq2;rw[beq_eq_false_iff_ne];omega
    rcases uA b with hE | ⟨hE,hne⟩
    .simp[ia,KN,bY,hE,hq,hq3,hnt,hb,hr,gl];exact cJ (b:=b) (by simp[bY,hE,hr])
    .simp[ia,KN,bY,hE,hne,r1,l1,hq,hq3,hnt,hb,hr,gl];exact cJ (b:=b) (by simp[bY,hE,hr])
 have hq:(b.aS.f.x=0->b.aS.f.y=0->b.aS.f.z=0->¬b.aS.f.k=0)=True:=eq_true λh1 h2 h3 h4=>h0 (.inl ⟨⟨h1,h2⟩,h3,h4⟩)
 have hq3:(b.aS.f.x=0/\b.aS.f.y=0/\b.aS.f.z=0/\b.aS.f.k=0)=False:=eq_false λh=>h0 (.inl ⟨⟨h.1,h.2.1⟩,h.2.2.1,h.2.2.2⟩)
 have hb:((b.aS.dP.length:Int) == 0)=false:=by have:=aI.2 (show b.aS.dP≠[]from λh=>h0 (.inr (.inl h)));rw[beq_eq_false_iff_ne];omega
 have hq2:b.aS.dP≠[]:=λh=>h0 (.inr (.inl h))
 have hr:b.ready=false:=by
  cases h:b.ready with
  |false=>rfl
  |true=>exact absurd (.inr (.inr h)) h0
 have hw0:=hn hr;have hE:nl bH.enc b.aS.av=.bz:=by simp[nl,hw0]
 have hT:=jS (f:=Rw.enc) hq2;have hC:=λJ=>Sb (J:=J) (b:=(Df b x y z).aS) (wq:=.bz) (show b.aS.dP.length<=_ by omega) (show b.aS.av.length<=_ by omega) (by simp[Df,hw0])
 simp only[Df]at hC;cases hv:(Df b x y z).aS.valid
 .have hd:yd b x y z=(b,1):=by unfold yd;rw[if_neg h0,hv];rfl
  rw[hd];simp only[Df]at hv;rw[hv]at hC;simp[ia,KN,bY,hE,hT,hq,hq3,hb,hr,gl,hC];exact cJ (b:=b) (by simp[bY,hE,hT,hr])
 .have hd:yd b x y z=(Df b x y z,0):=by unfold yd;rw[if_neg h0,if_pos hv]
  rw[hd];simp only[Df]at hv;rw[hv]at hC;simp[ia,KN,bY,hE,hT,hq,hq3,hb,hr,gl,hC];exact EE (b:=Df b x y z) (by simp[bY,Df,hE,hT])
theorem ZA{b:Bk}{x y z:Int}(ht:b.aS.dP.length<=1000000)(hw:b.aS.av.length<=1000000)(hn:b.ready=true->b.aS.dP≠[])(hJ:J≠[]):
  Cl 63 [.agg (bY b),.str Ef,.bT 3 [iI x,iI y,iI z]] (gl (tF b x y z)) J:=by
 refine nR OV zQ.eq_1 rfl ?_;have⟨r1,r2,r3⟩:b.aS.av.length*24<=room/\(b.aS.av.length+1)*24<=room/\24<=room:=by unfold room;omega
 have l1:=yb b.aS.av;have l2:(fM b.aS.av bH.enc).take (b.aS.av.length*3)=fM b.aS.av bH.enc:=ah (by omega);have hnm:=mJ (f:=ec.enc) b.ai;by_cases h0:b.ready=true/\b.ai=[]
 case neg =>
  have hd:tF b x y z=(b,8):=if_neg h0;rw[hd];cases hr:b.ready
  .rcases uA b with hE | ⟨hE,hne⟩
   .simp[ia,Ef,bY,hE,hr,gl];exact cJ (b:=b) (by simp[bY,hE,hr])
   .simp[ia,Ef,bY,hE,hne,r1,l1,hr,gl];exact cJ (b:=b) (by simp[bY,hE,hr])
  .have hq:0<b.ai.length:=aI.2 λh=>h0 ⟨hr,h⟩
   rcases uA b with hE | ⟨hE,hne⟩
   .simp[ia,Ef,bY,hE,hr,hnm,hq,gl];exact cJ (b:=b) (by simp[bY,hE,hr])
   .simp[ia,Ef,bY,hE,hne,r1,l1,hr,hnm,hq,gl];exact cJ (b:=b) (by simp[bY,hE,hr])
 obtain⟨hr,hm⟩:=h0;have hT:=jS (f:=Rw.enc) (hn hr)
 try simp only[lF]at hT
 have hd0:tF b x y z=if(nP b x y z).aS.valid=true then(nP b x y z,0)else(b,1):=if_pos ⟨hr,hm⟩
 have hC:=λJ=>acr (J:=J) (b:=(nP b x y z).aS) (show b.aS.dP.length<=_ by omega) (by simp[nP];omega)
 try simp only[lF,Cl,bL]at hC
 simp only[nP,aV,aE,aY,oI,db,mY,da,bH.enc,cq]at hC;have hq:¬0<b.ai.length:=by rw[hm];simp
 have hTc:(lF b.aS.dP Rw.enc).clean=true:=by simp[D.clean,CW]
 try simp only[lF]at hTc
 have clB:∀x:bH,D.bf x.enc=true:=λ_=>by simp[D.clean]
 cases hv:(nP b x y z).aS.valid
 .rw[hd0,hv];simp only[nP]at hv;rw[hv]at hC;rcases uA b with hE | ⟨hE,hne⟩
  .have hw0:b.aS.av=[]:=by unfold nl at hE;split at hE<;>first | assumption | cases hE
   have hf:=o9 (f:=bH.enc) (w:=3) (λ_=>rfl) clB (l:=[bH.mk x y z]) (j:=0) (v:=0) (bs:=[.cells 0 [iI x,iI y,iI z]]) (J:=J) hJ rfl;simp[hw0]at hC;simp at hf;simp[ia,Ef,bY,hE,hT,hr,hm,r3,hTc,hf,hC,gl];exact cJ (b:=b) (by simp[bY,hE,hT,hr,hm])
  .have hf:=o9 (f:=bH.enc) (w:=3) (λ_=>rfl) clB (l:=b.aS.av++[bH.mk x y z]) (j:=0) (v:=1) (bs:=[.cells 1 (fM (b.aS.av++[bH.mk x y z]) bH.enc)]) (J:=J) hJ rfl;simp at hf;simp[ia,Ef,bY,hE,hT,hne,hr,hm,r1,r2,l1,l2,hTc,hf,hC,gl];exact cJ (b:=b) (by simp[bY,hE,hT,hr,hm])
 .rw[hd0,hv];simp only[nP]at hv;rw[hv]at hC;rcases uA b with hE | ⟨hE,hne⟩
  .have hw0:b.aS.av=[]:=by unfold nl at hE;split at hE<;>first | assumption | cases hE
   have hf:=o9 (f:=bH.enc) (w:=3) (λ_=>rfl) clB (l:=[bH.mk x y z]) (j:=0) (v:=0) (bs:=[.cells 0 [iI x,iI y,iI z]]) (J:=J) hJ rfl;simp[hw0]at hC;simp at hf;simp[ia,Ef,bY,hE,hT,hr,hm,r3,hTc,hf,hC,gl];exact EE (b:=nP b x y z) (by simp[bY,nP,nl,hr,hm,hw0,hn hr])
  .have hf:=o9 (f:=bH.enc) (w:=3) (λ_=>rfl) clB (l:=b.aS.av++[bH.mk x y z]) (j:=0) (v:=1) (bs:=[.cells 1 (fM (b.aS.av++[bH.mk x y z]) bH.enc)]) (J:=J) hJ rfl;simp at hf;simp[ia,Ef,bY,hE,hT,hne,hr,hm,r1,r2,l1,l2,hTc,hf,hC,gl];exact EE (b:=nP b x y z) (by simp[bY,nP,hT,HP,hr,hm])
theorem JW:∀{a c:List D},D.bf (a++c)=(D.bf a && D.bf c)
 |[],_=>rfl
 |d::a,c=>by simp only[cr,D.bf,JW (a:=a),Bool.and_assoc]
theorem TB{b b':Bk}{e:Int}{ms:List ec}{ws:List Dl}(v n n':Nat){X cs cs':List D}{bs:List Abs.aG}(hJ:J≠[])(h0:bs[0]?=some (.cells v cs))(h1:bs[1]?=some (.cells v cs'))(hX:X=(bY b).take 9 ++ .sl J.length 0 v 0 n 4::(((bY b).drop 10).take 9++[.sl J.length 1 v 0 n' 4]))
  (hn:ms.length=n) (hn':ws.length=n') (hcs:fM ms ec.enc=cs) (hcs':fM ws Dl.enc=cs') (hb:bY b'=(bY b).take 9 ++ .bT n cs::(((bY b).drop 10).take 9++[.bT n' cs'])):
  ∃s,cF (J.length-1) 16 (.cK [.agg X,iI e]) (bs::J)=(.cK [.agg (bY b'),iI e],s::J):=by
 subst hX hn hn' hcs hcs';have c1:=(vS (n:=9) (mo (b:=b))).1;have c2:=(vS (n:=9) (vS (n:=10) (mo (b:=b))).2).1;have h3:D.bf ((bY b).take 9 ++ .sl J.length 0 v 0 ms.length 4::(((bY b).drop 10).take 9++[.sl J.length 1 v 0 ws.length 4]))=false:=by simp[JW,D.clean]
 have k1:=ki (n:=14) (f:=ec.enc) (w:=4) (l:=ms) (j:=0) (v:=v) (bs:=bs) (by decide) (λ_=>rfl) clE hJ h0;have k2:=ki (n:=14) (f:=Dl.enc) (w:=4) (l:=ws) (j:=1) (v:=v) (bs:=bs.set 0 .dead) (by decide) (λ_=>rfl) adq hJ (by rw[List.getElem?_set_ne (by decide)];exact h1);rw[o4 (by simp[D.clean,h3]) (by omega),hb];simp only[jb,j9];rw[Ew h3 (by omega),DK (by omega) c1,k1];simp only;rw[DK (by omega) c2,k2];simp only[j9];rw[ek rfl (by omega)];exact⟨_,rfl⟩
theorem OP{b:Bk}{nm:List UInt8}{l:D}(hc1:l.calm=l)(hl:b.ai.length<=1000000):∀(k i:Nat),i+k=b.ai.length ->
  WL T [1,2,3,6,8] false nw [(1,.str nm),(2,l),(3,.own 0 (bY b)),(6,.own 0 zS),(8,iI i)] J
   (λx e J'=>J'=J/\if mu (b.ai.drop i) (λe=>e.m.name == nm)=true then x=.ret/\get e 6=.own 0 (bY b)/\get e 7=iI 6 else x=.exit 0/\get e 1=.str nm/\get e 2=l/\get e 3=.own 0 (bY b)/\get e 6=.own 0 zS)
 |0,i,hi=>by
  refine aA nw.eq_1 ?_;obtain rfl:i=b.ai.length:=by omega
  have h2:b.ai.drop b.ai.length=[]:=an (by omega);have hn:=mJ (f:=ec.enc) b.ai;rw[h2];simp[bY,hn,mu,hc1]
 |k+1,i,hi=>by
  refine aA nw.eq_1 ?_;have⟨h1,h1'⟩:i<b.ai.length/\(i:Int)<b.ai.length:=by omega
  obtain⟨e,he⟩:=gE h1;have hne:b.ai≠[]:=λh=>by rw[h]at h1;simp at h1
  have h2:=Ni he;simp only[ec.enc]at h2;have h4:=cg h1;have hn:=jS (f:=ec.enc) hne;have ih:=OP (nm:=nm) hc1 hl k (i+1) (by omega);rw[bx he,show mu (e::b.ai.drop (i+1)) (λe=>e.m.name == nm)=((e.m.name == nm) || mu (b.ai.drop (i+1)) λe=>e.m.name == nm)from rfl];cases hc:e.m.name == nm
  .simp[ia,bY,hn,h1',h2,h4,hc,hc1];exact WL.to ih (by simp[bY,hn]) rfl λx e J hh=>by simpa[bY,hn,hc]using hh
  .simp[ia,bY,hn,h1',h2,hc,zS]
theorem V0{b:Bk}{m:bZ}(hb:b.ready=true->b.aS.valid=true)(hl:b.ai.length<=1000000)(hw:b.eJ.length=b.ai.length)(hn:m.name.length<=1000000000)(hv:m.dz.length<=1000000000)(hJ:J≠[]):
  Cl 65 [.agg (bY b),.str m.name,lF m.dz aO] (gl (pY b m)) J:=by
 refine au ?_;have hnp:=mJ (f:=pE) b.aw;have hnm:=mJ (f:=ec.enc) b.ai;by_cases h0:b.ready=true/\b.aw=[]
 case neg =>
  have hd:pY b m=(b,8):=if_neg h0;rw[hd];cases hr:b.ready
  .simp[bY,hr,gl];exact cJ (b:=b) (by simp[bY,hr])
  .have hq:0<b.aw.length:=aI.2 λh=>h0 ⟨hr,h⟩
   simp[bY,hr,hnp,hq,gl];exact cJ (b:=b) (by simp[bY,hr])
 have hd:pY b m=if(mu b.ai λe=>e.m.name == m.name)=true then(b,6)else if b.ai.length<40 then(if Bd b.aS m=true then(zb b m,0)else(b,1))else(b,3):=by unfold pY;rw[if_pos h0]
 rw[hd];obtain⟨hr,hp⟩:=h0;have hq:¬0<b.aw.length:=by rw[hp];simp
 have hL:=OP (J:=[]::J) (b:=b) (nm:=m.name) (l:=lF m.dz aO) rfl hl b.ai.length 0 (by omega);simp[bY,hr,hnp,hq];refine WL.to hL (by simp[bY,zS,hr]) rfl ?_;rintro x e J' ⟨rfl,h⟩;rw[aC]at h;cases hc:mu b.ai λe=>e.m.name == m.name
 case true =>
  rw[hc]at h;simp at h;obtain⟨rfl,g6,g7⟩:=h;simp[g6,g7,gl,eS,eH];exact cJ (b:=b) rfl
 rw[hc]at h;simp at h;obtain⟨rfl,g1,g2,g3,g6⟩:=h;by_cases h1:b.ai.length<40
 case neg =>
  simp[g1,g2,g3,g6,bY,zS,hnm,show(40:Int)<=b.ai.length by omega,h1,gl];exact cJ (b:=b) rfl
 have h1':¬(40:Int)<=b.ai.length:=by omega
 have hbv:=Bv.of (hb hr);have ht:b.aS.dP≠[]:=λh=>by have:=hbv.dP;rw[h]at this;simp[fK,bC]at this
 have hT:=jS (f:=Rw.enc) ht;have hC:=λJ=>Vo (J:=J) (b:=b.aS) (m:=m) (wq:=nl bH.enc b.aS.av) hbv (by omega) (by omega) ku
 cases h2:fits b.aS m
 .have hBd:Bd b.aS m=false:=by simp[Bd,h2]
  rw[h2]at hC;simp[g1,g2,g3,g6,bY,zS,hnm,h1',h1,hT,hC,hBd,gl];exact cJ (b:=b) (by simp[bY,hT])
 .have hBd:Bd b.aS m=true:=by simp[Bd,h2,hb hr]
  rw[h2]at hC;have l1:=xK b.ai;have l2:=Hk b.eJ;have l3:(fM b.ai ec.enc).take (b.ai.length*4)=fM b.ai ec.enc:=ah (by omega);have l4:(fM b.eJ Dl.enc).take (b.eJ.length*4)=fM b.eJ Dl.enc:=ah (by omega);have⟨r1,r2,r3,r4,r5,r6⟩:b.ai.length*56<=room/\(b.ai.length+1)*56<=room/\b.eJ.length*32<=room/\(b.eJ.length+1)*32<=room/\56<=room/\32<=room:=by unfold room;omega
  by_cases hm:b.ai=[]
  .have hw0:b.eJ=[]:=bq.1 (by rw[hw,hm];rfl);simp[g1,g2,g3,g6,bY,zS,hT,hC,hBd,hm,hw0,FW,r5,r6,gl];exact TB (b:=b) (b':=zb b m) (ms:=[⟨m,true,0⟩]) (ws:=[⟨0,0,0,0⟩]) 0 1 1 hJ rfl rfl (by simp[bY,hT]) rfl rfl (by simp) (by simp) (by simp[bY,zb,hm,hw0,nl,ht])
  .have hwn:b.eJ≠[]:=λh=>by rw[h]at hw;exact hm (bq.1 hw.symm)
   have e1:=jS (f:=ec.enc) hm;have e2:=jS (f:=Dl.enc) hwn;simp[g1,g2,g3,g6,bY,zS,h1',h1,hT,hC,hBd,hm,hwn,e1,e2,l1,l2,l3,l4,r1,r2,r3,r4,gl];exact TB (b:=b) (b':=zb b m) (ms:=b.ai++[⟨m,true,0⟩]) (ws:=b.eJ++[⟨0,0,0,0⟩]) 1 (b.ai.length+1) (b.eJ.length+1) hJ rfl rfl (by simp[bY,hT]) (by simp) (by simp) (by simp) (by simp) (by simp[bY,zb,hT,HP])
theorem Wi{f:dD}{m:bZ}{x:pU}(hm:Fm f m)(hx:ZN f x):∀(k i:Nat) (acc:Int),i+k=x.bl.length -> -(i*100000000)<=acc/\acc<=i*100000000 ->
  WL T [2,3,4,5,6,11,12] false m9 [(2,iI x.kind),(3,lF x.bl aO),(4,lF x.wt aO),(5,.bg (fL f)),(6,.bg (mL m)),(11,iI acc),(12,iI i)] J
   (λx' e J'=>J'=J/\x'=.exit 0/\get e 11=iI (Qq m.dz (x.kind*f.size) acc (x.bl.drop i) (x.wt.drop i))):=by
 intro k;induction k with
 |zero =>
  intro i acc hi ha;refine aA m9.eq_1 ?_;have h1:¬i<x.bl.length:=by omega
  have h2:x.bl.drop i=[]:=an (by omega);simp[h1,h2,Qq]
 |succ k ih0 =>
  intro i acc hi ha;refine aA m9.eq_1 ?_;have h1:i<x.bl.length:=by omega
  have hlen:=hx.len;have h1':i<x.wt.length:=by omega
  obtain⟨b,hb⟩:=gE h1;obtain⟨w,hw⟩:=gE h1';obtain⟨q1,q2⟩:=BL hm.fv;obtain⟨z1,z2,z3,z4,z5⟩:=dD.nJ.1 hm.fv;obtain⟨s1,s2,s3⟩:=K1 hx.aaT hb hw;have hl64:=H6 hx.len hx.aaT (by omega);have h4:=cg h1;have h5:=bx hb;have h6:=bx hw;have h2:=gp hb;have h3:=gp hw;have k1:=hx.kind;have k2:0<=x.kind*f.size/\x.kind*f.size+f.size<=f.k*f.size:=by
   refine⟨bA k1.1 (by omega),?_⟩;have:=dR (show x.kind+1<=f.k by omega) (show 0<=f.size by omega);rw[Int.add_mul]at this;omega
  have hvl:=hm.len;obtain⟨j,hj⟩:∃j:Nat,x.kind*f.size+b=j:=⟨(x.kind*f.size+b).toNat,by omega⟩;have hj1:j<m.dz.length:=by omega
  obtain⟨v,hv⟩:=gE hj1;have hvb:=hm.ok v (aj hv);have h7:=gp hv;have hB:=λJ=>pk (J:=J) hm.fv
  have b1:=Ru (a:=w) (b:=v) (A:=1000) (B:=100000) (by omega) hvb (by omega);have w1:=cb (n:=x.kind*f.size);have w2:=cb (n:=(j:Int));have w3:=cb (n:=w*v);have w4:=cb (n:=acc+w*v);have ih:=ih0 (i+1) (acc+w*v) (by omega) (by omega);rw[h5,h6,Qq,hj];simp only[Int.toNat_natCast];simp[h1,h1',h2,h3,h4,hB,w1,w2,w3,w4,hj,hj1,h7];exact WL.to ih (by simp) rfl λx e J hh=>by simpa[hv]using hh
theorem acy{f:dD}{m:bZ}{x:pU}(hm:Fm f m)(hx:ZN f x):Cl 96 [.agg (fL f),.agg (mL m),.agg x.enc] (iI (zw f m x)) J:=by
 have hT:∀J,Cl 138 [.agg (fL f),.agg (mL m),iI x.kind,lF x.bl aO,lF x.wt aO] (iI (zw f m x)) J:=by
  intro J;refine au ?_;simp[];refine WL.to (Wi (J:=[]::J) hm hx x.bl.length 0 0 (by omega) (by simp)) (by simp) rfl ?_;rintro x' e J' ⟨rfl,rfl,g⟩;simp[g,zw]
 refine au ?_;simp only[pU.enc];simp[hT]
theorem Ws{ps:List (Int×Int)}(hps:ps.length<=1000000){nm:List UInt8}{k lo hi:Int}{C hd:List D}{atv:Int}(h3':hd.length=3):∀(m j:Nat),j+m=ps.length ->
  WL T [1,3,4,8,10,11] false pB [(1,.int .i64 atv),(3,.bT (ps.length*2+3) (hd++fM ps tw)),(4,.bg C),(8,.own 0 zS),(10,.own 0 [.str nm,.int .i64 k,.sl J.length 0 j 0 j 1,.sl J.length 1 j 0 j 1,.int .i64 lo,.int .i64 hi]),(11,.int .i64 (j*2+3))]
   ([.cells j (fM ((ps.take j).map (·.1)) aO),.cells j (fM ((ps.take j).map (·.2)) aO)]::J)
   (λx e J'=>x=.exit 0/\get e 1=.int .i64 atv/\get e 3=.bT (ps.length*2+3) (hd++fM ps tw)/\get e 4=.bg C/\get e 8=.own 0 zS/\get e 10=.own 0 [.str nm,.int .i64 k,.sl J.length 0 ps.length 0 ps.length 1,.sl J.length 1 ps.length 0 ps.length 1,.int .i64 lo,.int .i64 hi] /\
    J'=[.cells ps.length (fM (ps.map (·.1)) aO),.cells ps.length (fM (ps.map (·.2)) aO)]::J)
 |0,j,h=>by
  refine aA pB.eq_1 ?_;obtain rfl:j=ps.length:=by omega
  simp[-List.map_take]
 |m+1,j,h=>by
  refine aA pB.eq_1 ?_;have⟨h1,h2,h3,h0,h0'⟩:j<ps.length/\(j:Int)*2+3<(ps.length:Int)*2+3/\(j:Int)*2+3+1<(ps.length:Int)*2+3/\0<=(j:Int)*2+3/\0<=(j:Int)*2+3+1:=by omega
  obtain⟨p,hp⟩:=gE h1;have d0:=rD (f:=tw) (w:=2) (λ_=>rfl) hp;have d1:(hd++fM ps tw).drop (j*2+3)=.int .i64 p.1::.int .i64 p.2::(fM ps tw).drop (j*2+2):=by
   rw[List.drop_append,an (by omega),h3',show j*2+3-3=j*2 by omega,d0];rfl
  have d2:(hd++fM ps tw).drop (j*2+3+1)=.int .i64 p.2::(fM ps tw).drop (j*2+2):=by
   have:=congrArg (List.drop 1) d1;simpa[qD,dh]using this
  have⟨t1,t2⟩:((j:Int)*2+3).toNat=j*2+3/\((j:Int)*2+3+1).toNat=j*2+3+1:=by omega
  have w1:=cb (n:=(j:Int)*2+3+1);have w2:=cb (n:=(j:Int)*2+3+2);have hl:(ps.take j).length=j:=by simp[];omega
  have hr:(j+1)*8<=room:=by unfold room;omega
  have ha:=oE ((ps.take j).map (·.1));have hb:=oE ((ps.take j).map (·.2));simp only[bG,hl]at ha hb;have ta:(fM ((ps.take j).map (·.1)) aO).take j=fM ((ps.take j).map (·.1)) aO:=ah (by omega);have tb:(fM ((ps.take j).map (·.2)) aO).take j=fM ((ps.take j).map (·.2)) aO:=ah (by omega);have ih:=Ws hps (nm:=nm) (k:=k) (lo:=lo) (hi:=hi) (C:=C) (atv:=atv) h3' m (j+1) (by omega);have htk:ps.take (j+1)=ps.take j++[p]:=by rw[List.take_add_one,hp];rfl
  rw[htk,show((j+1:Nat):Int)*2+3=(j:Int)*2+3+2 by omega]at ih;simp[-List.map_take,h0,h0',h2,h3,t1,t2,d1,d2,w1,w2,hr,ha,hb,ta,tb];exact WL.to ih (by simp[]) (by simp[]) λx e J' hh=>hh
def iO(vs:List Int)(i m:Nat):List D:=fM (vs.take i++List.replicate m 0) aO
theorem S0{vs:List Int}{i m:Nat}{v:Int}(h:i+(m+1)=vs.length)(hv:vs[i]?=some v):
  (iO vs i (m+1)).length=vs.length/\(iO vs i (m+1)).take i++(iI v::(iO vs i (m+1)).drop (i+1))=iO vs (i+1) m:=by
 have hlen:(vs.take i++List.replicate (m+1) (0:Int)).length=vs.length:=by simp;omega
 have f1:=b8 (f:=aO) (w:=1) (λ_=>rfl) (vs.take i++List.replicate (m+1) (0:Int));have s1:∀{o:List Int} {i:Nat},i<o.length->(fM o aO).take i++(iI v::(fM o aO).drop (i+1))=fM (o.set i v) aO:=λh=>Go.Trem.aag h v
 have s1:=s1 (o:=vs.take i++List.replicate (m+1) (0:Int)) (i:=i) (by rw[hlen];omega);have s2:=Yr (acc:=vs.take i) (k:=m) (v:=v);rw[show(vs.take i).length=i by simp;omega]at s2;rw[s2]at s1;unfold iO;refine⟨by omega,?_⟩;rw[s1,List.take_add_one,hv];rfl
theorem LY{vs:List Int}:iO vs 0 vs.length=fM (List.range vs.length) λ_=>[iI 0]:=by
 rw[show(fM (List.range vs.length) λ_=>[iI 0])=fM (List.replicate vs.length (0:Int)) aO from Go.Trem.Va _];simp[iO]
theorem Pc{vs:List Int}:iO vs vs.length 0=fM vs aO:=by simp[iO]
theorem OO{b:Bk}{x:pU}{atv:Int}{L:D}(hL:L.calm=L)(hl:b.ai.length<=1000000)(hms:∀e∈b.ai,Fm b.aS.f e.m)(hx:ZN b.aS.f x):∀(m i:Nat),i+m=b.ai.length ->
  WL T [1,3,4,8,10,13,14] false ov [(1,iI atv),(3,L),(4,.bg (bY b)),(8,.own 0 zS),(10,.own 0 x.enc),(13,.sl J.length 2 0 0 b.ai.length 1),(14,iI i)]
   ([.dead,.dead,.cells 0 (iO (b.ai.map λe=>zw b.aS.f e.m x) i m)]::J)
   (λy e J'=>y=.exit 2/\get e 1=iI atv/\get e 3=L/\get e 4=.bg (bY b)/\get e 8=.own 0 zS/\get e 13=.sl J.length 2 0 0 b.ai.length 1/\J'=[.dead,.dead,.cells 0 (fM (b.ai.map λe=>zw b.aS.f e.m x) aO)]::J)
 |0,i,hi=>by
  refine aA ov.eq_1 ?_;obtain rfl:i=b.ai.length:=by omega
  have hn:=mJ (f:=ec.enc) b.ai;have hf:=Pc (vs:=b.ai.map λe=>zw b.aS.f e.m x);rw[bG]at hf;rw[hf];simp[bY,hn,hL]
 |m+1,i,hi=>by
  refine aA ov.eq_1 ?_;have⟨h1,h1'⟩:i<b.ai.length/\(i:Int)<b.ai.length:=by omega
  obtain⟨e,he⟩:=gE h1;have hne:b.ai≠[]:=λh=>by rw[h]at h1;simp at h1
  have h2:=Ni he;simp only[ec.enc]at h2;have h4:=cg h1;have hn:=jS (f:=ec.enc) hne;have ih:=OO hL hl hms hx (atv:=atv) m (i+1) (by omega);have hS:=λJ=>acy (J:=J) (hms e (aj he)) hx
  obtain⟨f1,f2⟩:=S0 (vs:=b.ai.map λe=>zw b.aS.f e.m x) (i:=i) (m:=m) (v:=zw b.aS.f e.m x) (by simp;omega) (by simp[he]);rw[bG]at f1;have hi1:i+1<=b.ai.length:=by omega
  simp only[pU.enc]at hS ih ⊢;simp[bY,hn,h1',h2,h4,hS,hL,f1,f2,hi1];exact WL.to ih (by simp[bY,hn]) (by simp) λx e J hh=>by simpa[bY,hn]using hh
theorem acN{b:Bk}{nm:List UInt8}{k lo hi:Int}{ps:List (Int×Int)}(hps:ps.length<=1000000)(hnm:nm.length<=1000000000)(hw:b.eJ.length=b.ai.length)(hml:b.ai.length<=40)(hf:b.ai≠[]->b.aS.f.valid=true)(hms:∀e∈b.ai,Fm b.aS.f e.m)(hJ:J≠[]):
  Cl 66 [.agg (bY b),iI b.at_,.str nm,.bT (ps.length*2+3) (iI k::iI lo::iI hi::fM ps tw)] (gl (CX b (eL nm k lo hi ps))) J:=by
 refine au ?_;have hn:=mJ (f:=ec.enc) b.ai;have hcl:=mo (b:=b);by_cases h0:b.ai=[]
 .have hd:CX b (eL nm k lo hi ps)=(b,8):=if_pos h0;have hE:nl ec.enc b.ai=.bz:=by simp[nl,h0]
  rw[hd];simp only[bY,hE]at hcl;simp[bY,hE,hcl,gl]
 have hE:=jS (f:=ec.enc) h0
 try simp only[lF]at hE
 have hfv:=hf h0;have hd:CX b (eL nm k lo hi ps)=if rK b.aS.f (eL nm k lo hi ps)=0 then(gU b lo hi λm=>zw b.aS.f m (eL nm k lo hi ps),0)else(b,rK b.aS.f (eL nm k lo hi ps)):=if_neg h0
 have hck:rK b.aS.f (eL nm k lo hi ps)=b.aS.f.measure (eL nm k lo hi ps):=if_pos hfv;rw[hck]at hd;rw[hd];have⟨q0,q1,q2⟩:(0:Int)<(ps.length:Int)*2+3/\(1:Int)<(ps.length:Int)*2+3/\(2:Int)<(ps.length:Int)*2+3:=by omega
 have hL:=Ws (J:=J) hps (nm:=nm) (k:=k) (lo:=lo) (hi:=hi) (C:=bY b) (atv:=b.at_) (hd:=[iI k,iI lo,iI hi]) rfl ps.length 0 (by omega);have hC:=λJ=>Oj (J:=J) (l:=[eL nm k lo hi ps]) hfv (by intro m hm;simp at hm;subst hm;exact⟨by simp[eL];omega,by simp[eL];omega⟩) (by simp)
 try simp only[lF,Cl,fL]at hC
 have hM1:b.aS.f.wC [eL nm k lo hi ps]=b.aS.f.measure (eL nm k lo hi ps):=by
  simp only[dD.wC,dD.yf];by_cases h:b.aS.f.measure (eL nm k lo hi ps)=0<;>simp[h]
 rw[hM1]at hC;have hq:¬((b.ai.length:Int)=0):=by have:=aI.2 h0;omega
 simp only[bY,hE]at hcl;simp[bY,hE,h0,q0,q1,q2];refine WL.to hL (by simp[bY,hE,zS]) (by simp) ?_;rintro x e J' ⟨rfl,g1,g3,g4,g8,g10,rfl⟩;have cli:∀x:Int,D.bf (aO x)=true:=λ_=>by simp[aO,D.clean]
 have f1:=o9 (f:=aO) (w:=1) (λ_=>rfl) cli (l:=ps.map (·.1)) (j:=0) (v:=ps.length) (bs:=[.cells ps.length (fM (ps.map (·.1)) aO),.cells ps.length (fM (ps.map (·.2)) aO)]) (J:=J) hJ rfl
 try simp only[]at f1
 have f2:=o9 (f:=aO) (w:=1) (λ_=>rfl) cli (l:=ps.map (·.2)) (j:=1) (v:=ps.length) (bs:=[.dead,.cells ps.length (fM (ps.map (·.2)) aO)]) (J:=J) hJ rfl
 try simp only[]at f2
 simp at f1 f2;simp[eL]at hC;by_cases h1:b.aS.f.measure (eL nm k lo hi ps)=0
 case neg =>
  rw[if_neg h1];have h1':=h1;simp only[eL]at h1';simp[g1,g3,g4,g8,g10,f1,f2,hC,bY,hE,zS,h1',gl];exact cJ (b:=b) (by simp[bY,hE])
 rw[if_pos h1];have hx:=ZN.of h1;have hLv:=OO (J:=J) (b:=b) (x:=eL nm k lo hi ps) (atv:=b.at_) (L:=.bT (ps.length*2+3) (iI k::iI lo::iI hi::fM ps tw)) rfl (by omega) hms hx b.ai.length 0 (by omega);have hS:=λJ hJ=>LD (J:=J) (b:=b) (lo:=lo) (hi:=hi) (val:=λm=>zw b.aS.f m (eL nm k lo hi ps)) (vs:=b.ai.map λe=>zw b.aS.f e.m (eL nm k lo hi ps)) h0 hw hml (by simp) (by
  intro i e v he hv;simp[he]at hv;subst hv;intro _;exact⟨rfl,λ_=>rfl⟩) hJ
 have hz:=LY (vs:=b.ai.map λe=>zw b.aS.f e.m (eL nm k lo hi ps));rw[bG]at hz;rw[hz]at hLv;have h1':=h1;simp only[eL]at h1';have r1:(b.ai.length:Int)*8<=room:=by unfold room;omega
 simp[g1,g3,g4,g8,g10,f1,f2,hC,bY,hE,h1',r1];refine WL.to hLv (by simp[bY,hE,eL]) (by simp) ?_;rintro x e J' ⟨rfl,g1,g3,g4,g8,g13,rfl⟩;have f3:=o9 (f:=aO) (w:=1) (λ_=>rfl) cli (l:=b.ai.map λe=>zw b.aS.f e.m (eL nm k lo hi ps)) (j:=2) (v:=0) (bs:=[.dead,.dead,.cells 0 (fM (b.ai.map λe=>zw b.aS.f e.m (eL nm k lo hi ps)) aO)]) (J:=J) hJ rfl;simp only[lF,Cl,bG]at f3 hS;simp[g1,g3,g4,g8,g13,f3,hS,q1,q2,eS,eH,CQ,xV,gl];exact cJ (b:=gU b lo hi λm=>zw b.aS.f m (eL nm k lo hi ps)) rfl
end
section
section
open Go Go.Abs Go.Trem
open Go.Book (nl)
variable {J:SK}
theorem WB{α:Type}{p:α->Bool}:dj [] p=true:=rfl
theorem WG{α:Type}{p:α->Bool}:mu [] p=false:=rfl
theorem Uh{α:Type}{x:α}{l:List α}{p:α->Bool}:mu (x::l) p=(p x || mu l p):=rfl
theorem Nw{α:Type}{f:α->List D}{w:Nat}(hw:∀x,(f x).length=w){l:List α}{i:Nat}{x:α}(h:l[i]?=some x):PA w (nl f l) (iI i)=some (.bg (f x)):=by
 have h1:i<l.length:=(aB.1 h).1;rw[jS (λhh=>by rw[hh]at h1;simp at h1)];simp[h1,bd hw h]
theorem Lv{a b c x y z u v w:Int}:Cl 195 [.agg [iI a,iI b,iI c],.agg [iI x,iI y,iI z],.agg [iI u,iI v,iI w]] (.bool (bC a x u && (bC b y v && bC c z w))) J:=by
 refine au ?_;cases hc1:bC a x u
 .simp[xE,hc1]
 cases hc2:bC b y v
 .simp[xE,hc1,hc2]
 simp[xE,hc1,hc2]
theorem TQ{r:cH}{s:pV}:Cl 158 [.agg r.enc,.agg s.enc] (.bool (r.Jb s)) J:=by
 refine au ?_;have ho:r.Jb s=(decide (r.least<=s.mag) && (bC s.p.x r.lo.x r.hi.x && (bC s.p.y r.lo.y r.hi.y && bC s.p.z r.lo.z r.hi.z))):=rfl;rw[ho];cases c:(bC s.p.x r.lo.x r.hi.x && (bC s.p.y r.lo.y r.hi.y && bC s.p.z r.lo.z r.hi.z))
 .simp[Lv,c]
 .by_cases h:r.least<=s.mag<;>simp[Lv,c,h]
theorem OI{r:cH}{l:List Ev}{i:Nat}{e0:Ev}(he:l[i]?=some e0)(hs:e0.sp.length<=9223372036854775807){now:Int}{all:Bool}{n:Int}:∀(m k:Nat) (a b:Bool),k+m=e0.sp.length ->
  WL T [1,2,3,4,9,10,11,12,13] false nq [(1,nl Ev.enc l),(2,iI now),(3,.bool all),(4,.bg r.enc),(9,iI n),(10,iI i),(11,.bool a),(12,.bool b),(13,iI k)] J
   (λx e J'=>x=.exit 2/\J'=J/\get e 1=nl Ev.enc l/\get e 2=iI now/\get e 3=.bool all/\get e 4=.bg r.enc/\get e 9=iI n/\get e 10=iI i/\get e 11=.bool (a || mu (e0.sp.drop k) r.Jb)/\get e 12=.bool (b && dj (e0.sp.drop k) r.Jb))
 |0,k,a,b,hk=>by
  refine aA nq.eq_1 ?_;have g1:i<l.length:=(aB.1 he).1;have a1:=Nw (f:=Ev.enc) (w:=2) (λ_=>rfl) he;have h1:¬k<e0.sp.length:=by omega
  have h2:e0.sp.drop k=[]:=by simp;omega
  simp[a1,h1,h2,WG,WB]
 |m+1,k,a,b,hk=>by
  refine aA nq.eq_1 ?_;have g1:i<l.length:=(aB.1 he).1;have a1:=Nw (f:=Ev.enc) (w:=2) (λ_=>rfl) he;have h1:k<e0.sp.length:=by omega
  obtain⟨x,hx⟩:=gE h1;have h2:=bd (f:=pV.enc) (w:=4) (λ_=>rfl) hx;have h6:=cg h1;have ih:=OI (now:=now) (all:=all) (n:=n) (r:=r) he hs m (k+1) (a || r.Jb x) (b && r.Jb x) (by omega);have hC:=λJ=>@TQ J r x
  simp only[cH.enc,pV.enc]at hC;rw[bx hx,Uh,Bi,<- Bool.or_assoc,<- Bool.and_assoc];cases a<;>cases b<;>cases c:r.Jb x<;>simp only[c]at hC ih<;>simp[a1,h1,h2,h6,hC]<;>exact(WL.to ih (by simp) rfl λx e J' hh=>by simpa[c]using hh)
def De(r:cH)(now:Int)(all:Bool)(e:Ev):Bool:=if all then mA r now e else tj r now e
theorem Sq{r:cH}(hr:r.ok=true){l:List Ev}(hl:l.length<=200)(hs:∀e∈l,e.sp.length<=2000){now:Int}(hn:bC now 0 1000000=true){all:Bool}:∀(m i:Nat) (n:Nat),i+m=l.length->n+m<=200 ->
  WL T [1,2,3,4,9,10] false nr [(1,nl Ev.enc l),(2,iI now),(3,.bool all),(4,.bg r.enc),(9,iI n),(10,iI i)] J
   (λx e J'=>x=.exit 0/\J'=J/\get e 4=.bg r.enc/\get e 9=iI (n+zz (De r now all) (l.drop i):Nat))
 |0,i,n,hi,hb=>by
  refine aA nr.eq_1 ?_;have h1:¬i<l.length:=by omega
  have h2:l.drop i=[]:=by simp;omega
  simp[h1,h2,zz]
 |m+1,i,n,hi,hb=>by
  refine aA nr.eq_1 ?_;have g1:i<l.length:=by omega
  obtain⟨e0,he⟩:=gE g1;have a1:=Nw (f:=Ev.enc) (w:=2) (λ_=>rfl) he;have hse:=hs e0 (aj he);have h6:=cg g1;have hr':=zl.1 hr;have hn':=aP.1 hn;have w2:=cb (n:=now-r.uY);have w3:=cb (n:=now-r.uY+1);have w4:=cb (n:=(n:Int)+1);have d1:zz (De r now all) (l.drop i)=zz (De r now all) (l.drop (i+1))+(if De r now all e0 then 1 else 0):=by rw[bx he];rfl
  have ih:=λn h=>Sq hr hl hs hn (all:=all) m (i+1) n (by omega) h
  have hact:r.act now e0=bC e0.tick (now-r.uY+1) now:=by
   unfold cH.act bC;congr 1
  have k1:∀u v:Nat,u+1+v=u+(v+1):=by intro u v;omega
  rw[d1];cases c1:bC e0.tick (now-r.uY+1) now
  .have e1:De r now all e0=false:=by simp[De,tj,mA,hact,c1]
   simp[g1,a1,h6,w2,w3,xE,c1];exact WL.to (ih n (by omega)) (by simp) rfl λx e J' hh=>by simpa[e1]using hh
  .have e1:De r now all e0=if all then dj e0.sp r.Jb else mu e0.sp r.Jb:=by simp[De,tj,mA,hact,c1]
   simp[g1,a1,w2,w3,xE,c1];refine WL.to (OI (J:=J) (now:=now) (all:=all) (n:=n) (r:=r) he (by omega) e0.sp.length 0 false true (by omega)) (by simp) rfl ?_;rintro x e J' ⟨rfl,rfl,f1,f2,f3,f4,f9,f10,f11,f12⟩;simp only[aC,Bool.false_or,Bool.true_and]at f11 f12;have ih0:=ih n (by omega);have ih1:=ih (n+1) (by omega);cases all
   .simp only[aD,if_false]at e1;cases c2:mu e0.sp r.Jb
    .rw[c2]at f11 e1;simp[f1,f2,f3,f4,f9,f10,f11,h6];exact WL.to ih0 (by simp) rfl λx e J' hh=>by simpa[e1]using hh
    .rw[c2]at f11 e1;simp[f1,f2,f3,f4,f9,f10,f11,h6,w4];exact WL.to ih1 (by simp) rfl λx e J' hh=>by simp only[k1]at hh;simpa[e1]using hh
   .simp only[if_true]at e1;cases c2:dj e0.sp r.Jb
    .rw[c2]at f12 e1;simp[f1,f2,f3,f4,f9,f10,f12,h6];exact WL.to ih0 (by simp) rfl λx e J' hh=>by simpa[e1]using hh
    .rw[c2]at f12 e1;simp[f1,f2,f3,f4,f9,f10,f12,h6,w4];exact WL.to ih1 (by simp) rfl λx e J' hh=>by simp only[k1]at hh;simpa[e1]using hh
theorem Sc{r:cH}(hr:r.ok=true){l:List Ev}(hl:l.length<=200)(hs:∀e∈l,e.sp.length<=2000){now:Int}(hn:bC now 0 1000000=true){all:Bool}:
  Cl 122 [.agg r.enc,nl Ev.enc l,iI now,.bool all] (.int .u8 (if r.count<=zz (De r now all) l then r.M9 else 0)) J:=by
 refine au ?_;simp[];refine WL.to (Sq (J:=[]::J) hr hl hs hn (all:=all) l.length 0 0 (by omega) (by omega)) (by simp) rfl ?_;rintro x e J' ⟨rfl,rfl,e4,e9⟩;simp only[aC,cq]at e9;by_cases c:r.count<=zz (De r now all) l<;>simp[e4,e9,c]
theorem Kw{f:cH->Ev->Bool}{l:List Ev}{r:cH}(hr:r.ok=true){a:Int}(ha:0<=a):max a (if r.count<=zz (f r) l then r.M9 else 0)=if r.count<=zz (f r) l then max a r.M9 else a:=by
 split
 .rfl
 .omega
theorem OF{R:List cH}(hR:R.length<=20)(hr:∀r∈R,r.ok=true){l:List Ev}(hl:l.length<=200)(hs:∀e∈l,e.sp.length<=2000){now:Int}(hn:bC now 0 1000000=true):∀(m i:Nat) (a b:Int),i+m=R.length->0<=a->0<=b ->
  WL T [0,1,2,8,9,10] false nk [(0,nl cH.enc R),(1,nl Ev.enc l),(2,iI now),(8,.int .u8 a),(9,.int .u8 b),(10,iI i)] J
   (λx e J'=>x=.exit 0/\J'=J/\get e 8=.int .u8 (vq (λr=>tj r now) l (R.drop i) a)/\get e 9=.int .u8 (vq (λr=>mA r now) l (R.drop i) b))
 |0,i,a,b,hi,ha,hb=>by
  refine aA nk.eq_1 ?_;have h1:¬i<R.length:=by omega
  have h2:R.drop i=[]:=by simp;omega
  simp[h1,h2,vq]
 |m+1,i,a,b,hi,ha,hb=>by
  refine aA nk.eq_1 ?_;have g1:i<R.length:=by omega
  obtain⟨r,hri⟩:=gE g1;have a1:=Nw (f:=cH.enc) (w:=10) (λ_=>rfl) hri;have hrr:=hr r (aj hri);have h6:=cg g1;have s0:=λJ=>@Sc J r hrr l hl hs now hn false
  have s1:=λJ=>@Sc J r hrr l hl hs now hn true
  have q0:De r now false=tj r now:=rfl;have q1:De r now true=mA r now:=rfl;rw[q0]at s0;rw[q1]at s1;simp only[cH.enc]at s0 s1;have m0:=Kw (f:=λr=>tj r now) (l:=l) hrr ha;have m1:=Kw (f:=λr=>mA r now) (l:=l) hrr hb;have hc:=(zl.1 hrr).2.2.2.2;have ih:=OF hR hr hl hs hn m (i+1) (if r.count<=zz (tj r now) l then max a r.M9 else a) (if r.count<=zz (mA r now) l then max b r.M9 else b) (by omega) (by split<;>omega) (by split<;>omega);rw[bx hri];simp[g1,a1,h6,s0,s1,m0,m1];exact WL.to ih (by simp) rfl λx e J' hh=>hh
theorem Vr{R:List cH}(hR:R.length<=20)(hr:∀r∈R,r.ok=true){l:List Ev}(hl:l.length<=200)(hs:∀e∈l,e.sp.length<=2000){now:Int}(hn:bC now 0 1000000=true):
  Cl 77 [nl cH.enc R,nl Ev.enc l,iI now] (.cK [.int .u8 (Mm R l now),.int .u8 (N9 R l now)]) J:=by
 refine au ?_;simp[];refine WL.to (OF (J:=[]::J) hR hr hl hs hn R.length 0 0 0 (by omega) (by omega) (by omega)) (by simp) rfl ?_;rintro x e J' ⟨rfl,rfl,e8,e9⟩;simp only[aC]at e8 e9;simp[e8,e9,Mm,N9]
end
end
section
open Go Go.Abs Go.Rock Go.Book
variable {J:SK}
structure Lit(b:Bk):Prop where
 rl:b.rules.length<=20
 rok:∀r∈b.rules,r.ok=true
 el:b.pZ.length<=200
 eok:∀e∈b.pZ,e.ok=true
 pl:b.aw.length<=200
theorem TP{b:Bk}(h:Lit b):Cl 47 [.agg (bY b)] (.int .u8 (eZ b)) J:=by
 refine au ?_;have hn:=mJ (f:=pE) b.aw;have hnow:Trem.bC b.aw.length 0 1000000=true:=by have:=h.pl;simp[Trem.bC];omega
 have hL:=λJ=>Vr (J:=J) h.rl h.rok h.el (λe he=>by have:=h.eok e he;simp only[Trem.Ev.ok,af,Trem.aP]at this;omega) hnow
 have hc:eZ b=Trem.Mm b.rules b.pZ b.aw.length:=by
  have h1:Trem.kZ b.rules b.pZ b.aw.length=0:=by
   have a1:=eP.2 h.rok;have a2:=eP.2 h.eok;have:=h.rl;have:=h.el;simp[Trem.kZ,a1,a2,hnow,show ¬20<b.rules.length by omega,show ¬200<b.pZ.length by omega]
  unfold eZ;rw[if_pos h1]
 rw[hc];have hcl:=mo (b:=b);simp only[bY]at hcl;simp[bY,hn,hL]
theorem OR{l:List Int}{jt:Int}(hk:0<=jt/\jt<=1000)(hl:l.length<=1000000)(hr:∀n∈l,-100000<=n/\n<=100000):∀(m i:Nat),i+m=l.length ->
  WL T [1,5,6,7] false nu [(1,.bT l.length (fM l aO)),(5,.int .i64 jt),(6,.sl J.length 0 i 0 i 1),(7,.int .i64 i)] ([.cells i (fM ((l.take i).map (jj jt)) aO)]::J)
   (λx e J'=>x=.exit 0/\get e 6=.sl J.length 0 l.length 0 l.length 1/\J'=[.cells l.length (fM (l.map (jj jt)) aO)]::J)
 |0,i,hi=>by
  refine aA nu.eq_1 ?_;obtain rfl:i=l.length:=by omega
  simp[-List.map_take]
 |m+1,i,hi=>by
  refine aA nu.eq_1 ?_;have h1:i<l.length:=by omega
  obtain⟨n,hn⟩:=gE h1;have h4:=cg h1;have a1:=bd (f:=aO) (w:=1) (λ_=>rfl) hn;simp only[aO,bS]at a1;have hb:=hr n (aj hn);have ih:=OR hk hl hr m (i+1) (by omega);rw[List.take_add_one,hn]at ih;have hl1:(l.take i).length=i:=by simp[];omega
  have ha:=oE ((l.take i).map (jj jt));simp only[bG,hl1]at ha;have ta:(fM ((l.take i).map (jj jt)) aO).take i=fM ((l.take i).map (jj jt)) aO:=ah (by omega);have hrm:(i+1)*8<=room:=by unfold room;omega
  by_cases hc:n<0
  .have b1:=Ru (a := -n) (b:=jt) (A:=100000) (B:=1000) (by omega) (by omega) (by omega);have b2:0 <= -n*jt:=bA (by omega) hk.1;have w1:=cb (n := -n);have w2:=cb (n := -n*jt);have t1:(-n*jt).tdiv 1000 = -n*jt / 1000:=aQ b2;have w3:=cb (n:=(-n*jt).tdiv 1000) (by rw[t1];omega);have w4:=cb (n := -(-n*jt).tdiv 1000) (by rw[t1];omega);have hrt:jj jt n = -(-n*jt).tdiv 1000:=if_pos hc;generalize hz:(-n*jt).tdiv 1000=z at *
   simp[-List.map_take,h1,a1,h4,hc,w1,w2,w3,w4,hrm,ha,ta,hz];exact WL.to ih (by simp[]) (by simp[hrt,aO]) λx e J' hh=>hh
  .have hrt:jj jt n=n:=if_neg hc;simp[-List.map_take,h1,a1,h4,hc,hrm,ha,ta];exact WL.to ih (by simp[]) (by simp[hrt,aO]) λx e J' hh=>hh
theorem TS{b:Bk}{l:List Int}(h:Lit b)(hk:Trem.fx b.k0 b.k1 b.k2=true)(hl:l.length<=1000000)(hr:∀n∈l,-100000<=n/\n<=100000)(hJ:J≠[]):
  Cl 100 [.agg (bY b),lF l aO] (.bT l.length (fM (l.map (jj (mH b))) aO)) J:=by
 refine au ?_;have hC:=λJ=>TP (J:=J) h
 have hcl:=mo (b:=b);simp only[Trem.fx,af,az]at hk;obtain⟨c1,c2⟩:=Er (b:=b);have hkp:0<=mH b/\mH b<=1000:=by unfold mH;split<;>(try split)<;>omega
 have hcell:List.take 1 (List.drop (eZ b).toNat [iI b.k0,iI b.k1,iI b.k2,nl pf.enc b.cI,nl JG.enc b.dk,D.bool b.ready,nl Dl.enc b.eJ])=[iI (mH b)]:=by
  unfold mH;have:eZ b=0\/eZ b=1\/eZ b=2:=by omega
  rcases this with h | h | h<;>rw[h]<;>rfl
 simp only[bY]at hcl hC;simp[bY,hC,c1,show eZ b<3 by omega,hcell];refine WL.to (OR (J:=J) hkp hl hr l.length 0 (by omega)) (by simp) (by simp) ?_;rintro x e J' ⟨rfl,g6,rfl⟩;have hk:=ki (n:=16) (f:=aO) (w:=1) (l:=l.map (jj (mH b))) (j:=0) (v:=l.length) (bs:=[.cells l.length (fM (l.map (jj (mH b))) aO)]) (by decide) (λ_=>rfl) (λx=>by simp[aO,D.clean]) hJ rfl;rw[bG]at hk;simp[g6,hk]
structure Kr(n:Nat)(b:Bk):Prop where
 kv:Kv n b
 rok:∀r∈b.rules,r.ok=true
theorem Kr.lit{n:Nat}{b:Bk}(h:Kr n b):Lit b:=⟨h.kv.rules,h.rok,h.kv.pZ,h.kv.KU,(lf h.kv.pl).1⟩
theorem Kr.valid{n:Nat}{b:Bk}(h:Kr n b)(hm:b.ai≠[]):b.aS.valid=true:=h.kv.ready (h.kv.ms hm)
theorem Ns{l:List ec}(h:cc l≠[]):l≠[]:=λh2=>h (by rw[h2];rfl)
theorem Mi{l:List ec}{m:bZ}(h:m∈gR l):∃e∈l,e.left=true/\e.m=m:=by
 obtain⟨e,he,rfl⟩:=bI.1 h;exact⟨e,(GS he).1,(GS he).2,rfl⟩
theorem FN{α β:Type}{f:α->Int}{g:β->α}:∀{l:List β},bU f (l.map g)=bU (λx=>f (g x)) l
 |[]=>rfl
 |x::l=>by simp only[aM,bU,FN (l:=l)]
theorem SF{b:Bk}{M:List bZ}{aw:List (List Int)}{R:List D}(hR:R=bY b)(ht:b.aS.dP≠[])(hM:∀m∈M,Bd b.aS m=true)(hl:M.length<=40)(hp:tf b.aS aw=0):∀(k i:Nat),i+k=M.length ->
  WL T [2,4,7,8,9] false nB [(2,.own 0 R),(4,.own 0 zS),(7,lF aw pE),(8,lF M bZ.enc),(9,iI i)] ([.dead]::J)
   (λx e J'=>J'=[.dead]::J/\if bU (λm=>lH b.aS m aw) (M.drop i)=0 then x=.exit 0/\get e 2=.own 0 R/\get e 4=.own 0 zS/\get e 7=lF aw pE
    else x=.ret/\get e 4=.own 0 R/\get e 5=iI (bU (λm=>lH b.aS m aw) (M.drop i)))
 |0,i,hi=>by
  refine aA nB.eq_1 ?_;obtain rfl:i=M.length:=by omega
  have h2:M.drop M.length=[]:=an (by omega);simp[h2,bU]
 |k+1,i,hi=>by
  refine aA nB.eq_1 ?_;have h1:i<M.length:=by omega
  obtain⟨m,hm⟩:=gE h1;have hBd:=hM m (aj hm);have a1:=bd (f:=bZ.enc) (w:=2) (λ_=>rfl) hm;have h4:=cg h1;have hT:=jS (f:=Rw.enc) ht;obtain⟨hp1,hp2⟩:=lf hp;have ih:=SF hR ht hM hl hp k (i+1) (by omega);rw[bx hm,bU];cases hrun:Rock.run b.aS m aw with
  |none =>
   have hE:lH b.aS m aw=9:=by simp[lH,hBd,hp,hrun]
   have hP:∀J,J≠[]->dr T (.call false 102 [.agg [iI b.aS.f.x,iI b.aS.f.y,iI b.aS.f.z,iI b.aS.f.k,lF b.aS.dP Rw.enc,iI b.aS.cA,iI b.aS.lift,iI b.aS.deep,nl bH.enc b.aS.av],.agg (mL m),lF aw pE] J)=_:=λJ hJ=>QF (J:=J) (Fv.of hBd) hp1 hp2 hJ hrun ku
   rw[hE];subst hR;simp[h1,a1,hT,hP,bY,zS]
  |some r =>
   obtain⟨ss,ys⟩:=r;have hE:lH b.aS m aw=0:=by simp[lH,hBd,hp,hrun]
   have hP:∀J,J≠[]->dr T (.call false 102 [.agg [iI b.aS.f.x,iI b.aS.f.y,iI b.aS.f.z,iI b.aS.f.k,lF b.aS.dP Rw.enc,iI b.aS.cA,iI b.aS.lift,iI b.aS.deep,nl bH.enc b.aS.av],.agg (mL m),lF aw pE] J)=_:=λJ hJ=>Jp (J:=J) (Fv.of hBd) hp1 hp2 hJ hrun ku
   rw[hE,if_pos rfl];subst hR;simp[h1,a1,h4,hT,hP,bY];exact WL.to ih (by simp[bY,hT]) rfl λx e J' hh=>by simpa[bY,hT]using hh
theorem aaF{b:Bk}{l:List Int}(hp:tf b.aS b.aw=0)(hn:b.aw.length<200)(hk:Trem.fx b.k0 b.k1 b.k2=true)(hl:l.length=b.aS.av.length)(hr:∀n∈l,-100000<=n/\n<=100000):tf b.aS (dC b l)=0:=by
 obtain⟨h1,h2⟩:=lf hp;simp only[Trem.fx,af,az]at hk;have hkp:0<=mH b/\mH b<=1000:=by unfold mH;split<;>(try split)<;>omega
 have key:∀r∈dC b l,pS b.aS r=0:=by
  intro r hr';rcases aT.1 hr' with h | h
  .have hv:=h2 r h;unfold pS;rw[if_pos hv.len,if_pos (eP.2 λx hx=>aP.2 (hv.ok x hx))]
  .simp only[List.mem_singleton]at h;subst h;unfold pS;rw[if_pos (by simpa using hl),if_pos];refine eP.2 λx hx=>aP.2 ?_
   obtain⟨n,hn,rfl⟩:=bI.1 hx;have hb:=hr n hn;unfold jj;split
   .have b2:0 <= -n*mH b:=bA (by omega) hkp.1;have b3 : -n*mH b<=100000*1000:=cp (by omega) hkp.2 hkp.1 (by omega);rw[aQ b2];omega
   .exact hb
 have h3:(dC b l).length=b.aw.length+1:=by simp[dC]
 unfold tf;rw[if_neg (by omega)];generalize dC b l=p at key;clear h3;induction p with
 |nil=>rfl
 |cons x p ih=>simp only[bU,key x (by simp)];exact ih λr h=>key r (by simp[h])
theorem Zy{n:Nat}{b:Bk}{l:List Int}(hK:Kr n b)(hl:l.length<=1000000)(hJ:J≠[]):
  Cl 67 [.agg (bY b),lF l aO] (gl (mz b l)) J:=by
 refine au ?_;have hS:=λJ=>MP (J:=J) (b:=b) hK.kv.ml
 try simp only[Cl]at hS
 have hnp:=mJ (f:=pE) b.aw;by_cases c1:cc b.ai=[]
 .have hd:mz b l=(b,8):=by unfold mz;rw[if_pos c1]
  rw[hd];simp[c1]at hS;simp only[bY]at hS;simp[bY,hS,gl];exact cJ (b:=b) rfl
 have hne:=Ns c1;have hv:=hK.valid hne;have ht:=vx (Bv.of hv).dP;have hT:=jS (f:=Rw.enc) ht
 try simp only[lF]at hT
 simp[c1]at hS;simp only[bY,hT]at hS;by_cases c2:b.aw.length<200
 case neg =>
  have hd:mz b l=(b,3):=by unfold mz;rw[if_neg c1,if_neg c2]
  rw[hd];simp[bY,hT,hS,gl,hnp,show(200:Int)<=b.aw.length by omega];exact cJ (b:=b) (by simp[bY,hT])
 have c2':¬(200:Int)<=b.aw.length:=by omega
 have hRt:=λJ=>TU (J:=J) (b:=b.aS) (l:=l) (wq:=nl bH.enc b.aS.av) (by omega) ku
 try simp only[lF,Cl]at hRt
 by_cases c3:pS b.aS l=0
 case neg =>
  have hd:mz b l=(b,pS b.aS l):=by
   unfold pS at *
   by_cases h1:l.length=b.aS.av.length
   .by_cases h2:dj l (λn=>bC n (-100000) 100000)=true
    .rw[if_pos h1,if_pos h2]at c3;exact absurd rfl c3
    .unfold mz;rw[if_neg c1,if_pos c2,if_pos h1,if_neg h2,if_pos h1,if_neg h2]
   .unfold mz;rw[if_neg c1,if_pos c2,if_neg h1,if_neg h1]
  rw[hd];simp[bY,hT,hS,gl,hnp,c2',hRt,c3];exact cJ (b:=b) (by simp[bY,hT])
 obtain⟨r1,r2⟩:=Rv.of c3;rw[c3]at hRt;have hp:=aaF hK.kv.pl c2 hK.kv.jt r1 r2;have hd:mz b l=if bU (λe=>lH b.aS e.m (dC b l)) (cc b.ai)=0 then(IM b (dC b l),0)else(b,bU (λe=>lH b.aS e.m (dC b l)) (cc b.ai)):=by
  unfold mz;rw[if_neg c1,if_pos c2,if_pos r1,if_pos (eP.2 λx hx=>aP.2 (r2 x hx))]
 rw[hd];have hRs:=λJ hJ=>TS (J:=J) (b:=b) (l:=l) hK.lit hK.kv.jt hl r2 hJ
 try simp only[lF,Cl]at hRs
 have hLf:=λJ hJ=>MM (J:=J) (b:=b) hK.kv.ml hJ
 try simp only[lF,Cl]at hLf
 simp only[bY,hT]at hRs hLf;have⟨q1,q2,q3⟩:b.aw.length*24<=room/\(b.aw.length+1)*24<=room/\24<=room:=by unfold room;omega
 have hpel:=KD b.aw;have htk:(fM b.aw pE).take b.aw.length=fM b.aw pE:=ah (by omega);have cle:∀x:List Int,D.bf (pE x)=true:=agB;have hL:=SF (J:=J) (b:=b) (M:=gR b.ai) (aw:=dC b l) (R:=bY b) rfl ht (by
  intro m hm;obtain⟨e,he,_,rfl⟩:=Mi hm;exact(hK.kv.fit e he).1) (by have:=Ku b.ai;have:=hK.kv.ml;omega) hp (gR b.ai).length 0 (by omega)
 have hnl:(dC b l).length=b.aw.length+1:=by simp[dC]
 have hfm:fM (dC b l) pE=fM b.aw pE++[.bT l.length (fM (l.map (jj (mH b))) aO)]:=by simp[dC,pE]
 have hz:bU (λm=>lH b.aS m (dC b l)) (gR b.ai)=bU (λe=>lH b.aS e.m (dC b l)) (cc b.ai):=FN
 try simp only[lF]at hL
 rw[aC,hz]at hL;generalize hF:bU (λe=>lH b.aS e.m (dC b l)) (cc b.ai)=F at hL ⊢;have hfr:=o9 (f:=pE) (w:=1) (λ_=>rfl) cle (l:=dC b l) (j:=0) (bs:=[.cells (if b.aw=[]then 0 else 1) (fM (dC b l) pE)]) (v:=if b.aw=[]then 0 else 1) (J:=J) hJ rfl;rw[hnl,hfm]at hL hfr;have hne0:dC b l≠[]:=λh=>by rw[h]at hnl;simp at hnl
 by_cases hm:b.aw=[]
 .have e1:nl pE b.aw=.bz:=by simp[nl,hm]
  simp only[e1]at hS hRs hLf hnp;rw[if_pos hm]at hfr;have hm0:b.aw.length=0:=by rw[hm];rfl
  simp only[hm,mY,aY,List.nil_append,cq]at hfr;simp[bY,hT,hS,gl,hnp,c2',hRt,e1,hRs,hLf,q3,hfr];rw[hm0,hm]at hL;refine WL.to hL (by simp[bY,hT,zS,hm,FW]) rfl ?_;rintro x e J' ⟨rfl,h⟩;by_cases hF0:F=0
  .rw[if_pos hF0]at h ⊢;obtain⟨rfl,g2,g4,g7⟩:=h;simp[g2,g4,g7,bY,zS];exact EE (b:=IM b (dC b l)) (by simp[bY,IM,jS hne0,hnl,hfm,hm])
  .rw[if_neg hF0]at h ⊢;obtain⟨rfl,g4,g5⟩:=h;simp[g4,g5,eS,eH];exact cJ (b:=b) rfl
 .have e1:=jS (f:=pE) hm
  try simp only[lF]at e1
  simp only[e1]at hS hRs hLf;rw[if_neg hm]at hfr;simp[bY,hT,hS,gl,c2',hRt,hm,e1,hRs,hLf,q1,q2,hpel,htk,hfr];refine WL.to hL (by simp[bY,hT,zS,e1]) rfl ?_;rintro x e J' ⟨rfl,h⟩;by_cases hF0:F=0
  .rw[if_pos hF0]at h ⊢;obtain⟨rfl,g2,g4,g7⟩:=h;simp[g2,g4,g7,bY,zS];exact EE (b:=IM b (dC b l)) (by simp[bY,IM,jS hne0,hnl,hfm])
  .rw[if_neg hF0]at h ⊢;obtain⟨rfl,g4,g5⟩:=h;simp[g4,g5,eS,eH];exact cJ (b:=b) rfl
theorem Vv{b:bV}{m:bZ}{r:RunT}{n:Nat}{x:tz}{wq:D}(h:Fv b m)(hr:LJ b n r.1 r.2)(hn:n<=200)(hx:Vc b n x)(hwq:wq.qY=lF b.av bH.enc):
  Cl 105 [.agg [iI b.f.x,iI b.f.y,iI b.f.z,iI b.f.k,lF b.dP Rw.enc,iI b.cA,iI b.lift,iI b.deep,wq],.agg (mL m),.agg [lF r.1 lq,lF r.2 lq],.agg x.enc] (iI (pa b m r x)) J:=by
 refine au ?_;have cls:∀l:List (List Rock.aG),D.bf (fM l lq)=true:=fB λx=>by simp[lq,D.clean,Hu]
 unfold pa;by_cases h1:x.jY=1
 .obtain⟨p1,p2,p3⟩:=hx.p h1;have hz:=h.bv.sz;obtain⟨s1,s2⟩:=Yh hr (t:=x.tick.toNat) (by omega);have hi:x.idx.toNat<b.n:=by unfold bV.size at p3;omega
  have hP:=λJ=>Jq (J:=J) h s2 hi
  rw[show((x.idx.toNat:Nat):Int)=x.idx by omega]at hP;have a1:=bd (f:=lq) (w:=1) (λ_=>rfl) s1;simp only[lq,bS]at a1;have hl:=hr.sl;have q1:x.tick<r.1.length:=by omega
  rw[s1,if_pos h1];simp[hwq,h1,a1,hP,p1.1,q1]
 .obtain⟨p1,p2,p3⟩:=hx.y h1;obtain⟨y1,y2⟩:=P5 hr (t:=x.tick.toNat-1) (by omega);have hl:=hr.yl;have hb:=TM y2 (w:=x.idx.toNat) (by omega);have a1:=bd (f:=lq) (w:=1) (λ_=>rfl) y1;simp only[lq,bS]at a1;have a2:=bd (f:=Rock.aG.enc) (w:=3) (λ_=>rfl) hb;have hy:=y2.ok _ (aj hb);have hyl:=y2.len;have⟨q1,q2⟩:x.tick-1<r.2.length/\x.idx<(rowAt r.2 (x.tick.toNat-1)).length:=by omega
  have q3:1<=x.tick:=p1.1;have t1:(x.tick-1).toNat=x.tick.toNat-1:=by omega
  have w1:=cb (n:=x.tick-1);rw[y1,if_neg h1];simp only[Option.getD_some];generalize aR (rowAt r.2 (x.tick.toNat-1)) x.idx.toNat=y at a2 hy ⊢;unfold aG.MK aG.F4;by_cases h2:x.jY=2
  .simp[hwq,h2,a1,a2,q1,q2,q3,p2,t1,w1]
  have hw:=hx.jY;by_cases h3:x.jY=4
  .simp[hwq,h3,a1,a2,q1,q2,q3,p2,t1,w1]
  have h4:x.jY=3:=by omega
  have hm:=hy.1;have hh:=hy.2.1;by_cases h5:y.m=0
  .simp[hwq,h4,h5,a1,a2,q1,q2,q3,p2,t1,w1]
  .have t2:y.h.tdiv y.m=y.h / y.m:=aQ hh.1;have w2:=cb (n:=y.h.tdiv y.m) (by
    rw[t2];have:=Int.ediv_nonneg hh.1 hm.1;have:=Int.ediv_le_self y.m hh.1;omega)
   simp[hwq,h4,h5,a1,a2,q1,q2,q3,p2,t1,w1,w2]
theorem Z9{ss ys:List (List Rock.aG)}{v v':Nat}(hJ:J≠[]):∃s,cF (J.length-1) 16 (.cK [.agg [.sl J.length 0 v 0 ss.length 1,.sl J.length 1 v' 0 ys.length 1],.bool true]) ([.cells v (fM ss lq),.cells v' (fM ys lq)]::J)=(.cK [.agg [lF ss lq,lF ys lq],.bool true],s::J):=by
 have c1:∀x:List Rock.aG,D.bf (lq x)=true:=λx=>by simp[lq,D.clean,Hu]
 have k1:=ki (n:=14) (f:=lq) (w:=1) (l:=ss) (j:=0) (v:=v) (bs:=[.cells v (fM ss lq),.cells v' (fM ys lq)]) (by decide) (λ_=>rfl) c1 hJ rfl;have k2:=ki (n:=14) (f:=lq) (w:=1) (l:=ys) (j:=1) (v:=v') (bs:=[.dead,.cells v' (fM ys lq)]) (by decide) (λ_=>rfl) c1 hJ rfl;simp only[List.set_cons_zero]at k1;rw[o4 (by simp) (by omega)];simp only[jb,j9];rw[Ew (by simp) (by omega)];simp only[jb,j9];rw[k1];simp only;rw[k2,ek (by rfl) (by omega)];exact⟨_,rfl⟩
theorem Vu{b:bV}{m:bZ}{aw:List (List Int)}(h:Fv b m)(hp:aw.length<=200)(hr:∀r∈aw,Rv b r)(hJ:J≠[]){ss ys:List (List Rock.aG)}(hrun:Rock.run b m aw=some (ss,ys)){wq:D}(hwq:wq.qY=lF b.av bH.enc):
  Cl 102 [.agg [iI b.f.x,iI b.f.y,iI b.f.z,iI b.f.k,lF b.dP Rw.enc,iI b.cA,iI b.lift,iI b.deep,wq],.agg (mL m),nl pE aw] (.cK [.agg [lF ss lq,lF ys lq],.bool true]) J:=by
 by_cases hz:aw=[]
 case neg=>rw[jS hz];exact Jp h hp hr hJ hrun hwq
 subst hz;cases hrun;refine au ?_;have hf:=λJ hJ=>Jr (J:=J) h hJ
 simp[hwq,FW,hf];refine aA lP.eq_1 ?_;simp;have hz:=Z9 (J:=J) (ss:=[bX b m]) (ys:=[]) (v:=0) (v':=0) hJ;simpa[lq,oJ]using hz
def wE(b:Bk)(x:tz)(e:ec):Int:=if e.left=true then(match Rock.run b.aS e.m b.aw with | some r=>pa b.aS e.m r x | none=>0)else 0
theorem SC{n:Nat}{b:Bk}{x:tz}{atv:Int}{L:D}{R:List D}(hR:R=bY b)(hL:L.calm=L)(hK:Kr n b)(ht:b.aS.dP≠[])(hx:Vc b.aS b.aw.length x):∀(m i:Nat),i+m=b.ai.length ->
  WL T [1,2,3,6,8,10,11] false nz [(1,iI atv),(2,L),(3,.bg R),(6,.own 0 zS),(8,.own 0 x.enc),(10,.sl J.length 0 0 0 b.ai.length 1),(11,iI i)]
   ([.cells 0 (iO (b.ai.map (wE b x)) i m)]::J)
   (λy e J'=>y=.exit 0/\get e 1=iI atv/\get e 2=L/\get e 3=.bg R/\get e 6=.own 0 zS/\get e 10=.sl J.length 0 0 0 b.ai.length 1/\J'=[.cells 0 (fM (b.ai.map (wE b x)) aO)]::J)
 |0,i,hi=>by
  refine aA nz.eq_1 ?_;obtain rfl:i=b.ai.length:=by omega
  have hn:=mJ (f:=ec.enc) b.ai;have hf:=Pc (vs:=b.ai.map (wE b x));rw[bG]at hf;rw[hf];subst hR;simp[bY,hn,hL]
 |m+1,i,hi=>by
  refine aA nz.eq_1 ?_;have h1:i<b.ai.length:=by omega
  have hml:=hK.kv.ml;have h1':(i:Int)<b.ai.length:=by omega
  obtain⟨e,he⟩:=gE h1;have hne:b.ai≠[]:=λh=>by rw[h]at h1;simp at h1
  have h2:=Ni he;have d1:=rD (f:=ec.enc) (w:=4) (λ_=>rfl) he;have d2:(fM b.ai ec.enc).drop (i*4+2)=.bool e.left::iI e.M7::(fM b.ai ec.enc).drop (i*4+4):=by
   have:=congrArg (List.drop 2) d1;simpa[dh]using this
  simp only[ec.enc]at h2;have h4:=cg h1;have hn:=jS (f:=ec.enc) hne;have hT:=jS (f:=Rw.enc) ht;have ih:=SC hR hL hK ht hx (atv:=atv) m (i+1) (by omega);obtain⟨f1,f2⟩:=S0 (vs:=b.ai.map (wE b x)) (i:=i) (m:=m) (v:=wE b x e) (by simp;omega) (by simp[he]);rw[bG]at f1;have hi1:i+1<=b.ai.length:=by omega
  have hem:=aj he;obtain⟨hp1,hp2⟩:=lf hK.kv.pl;simp only[tz.enc]at ih ⊢;cases hc:e.left
  .have hv:wE b x e=0:=by simp[wE,hc]
   have f3:iO (b.ai.map (wE b x)) i (m+1)=iO (b.ai.map (wE b x)) (i+1) m:=by
    unfold iO;rw[List.take_add_one,lR,he];simp[hv,List.replicate_succ]
   rw[f3];subst hR;simp[bY,hn,h1',h2,h4,hL,hc,hT];exact WL.to ih (by simp[bY,hn,hT]) rfl λx e J hh=>by simpa[bY,hn,hT]using hh
  .obtain⟨hBd,_,_⟩:=hK.kv.fit e hem;obtain⟨r,hrun⟩:=hK.kv.An e hem hc;obtain⟨ss,ys⟩:=r;have hv:wE b x e=pa b.aS e.m (ss,ys) x:=by simp[wE,hc,hrun]
   rw[hv]at f2;have hfv:=Fv.of hBd;have hP:∀J,J≠[]->dr T (.call false 102 [.agg [iI b.aS.f.x,iI b.aS.f.y,iI b.aS.f.z,iI b.aS.f.k,lF b.aS.dP Rw.enc,iI b.aS.cA,iI b.aS.lift,iI b.aS.deep,nl bH.enc b.aS.av],.agg (mL e.m),nl pE b.aw] J)=_:=λJ hJ=>Vu (J:=J) hfv hp1 hp2 hJ hrun ku
   have hRd:=λJ=>Vv (J:=J) (wq:=nl bH.enc b.aS.av) hfv (r:=(ss,ys)) (LJ.of hfv hp2 hrun) hp1 hx ku
   simp only[tz.enc]at hRd;subst hR;simp[bY,hn,h1',h2,h4,hL,hc,hT,hP,hRd,f1,f2,hi1];exact WL.to ih (by simp[bY,hn,hT]) (by simp) λx e J hh=>by simpa[bY,hn,hT]using hh
theorem Zt{n:Nat}{b:Bk}{w i lo hi:Int}(hK:Kr n b)(hJ:J≠[]):
  Cl 68 [.agg (bY b),iI b.at_,.bT 4 [iI w,iI i,iI lo,iI hi]] (gl (oL b ⟨b.aw.length,w,i,lo,hi⟩)) J:=by
 refine au ?_;have hS:=λJ=>MP (J:=J) (b:=b) hK.kv.ml
 try simp only[Cl]at hS
 have hnp:=mJ (f:=pE) b.aw;have hcl:=mo (b:=b);by_cases c1:cc b.ai=[]
 .have hd:oL b ⟨b.aw.length,w,i,lo,hi⟩=(b,8):=by unfold oL;rw[if_pos c1]
  rw[hd];simp[c1]at hS;simp only[bY]at hS hcl;simp[bY,hS,hcl,gl]
 have hne:=Ns c1;have hv:=hK.valid hne;have ht:=vx (Bv.of hv).dP;have hT:=jS (f:=Rw.enc) ht
 try simp only[lF]at hT
 have hE:=jS (f:=ec.enc) hne
 try simp only[lF]at hE
 simp[c1]at hS;simp only[bY,hT,hE]at hS hcl;cases c2:bC w 1 4
 .have hd:oL b ⟨b.aw.length,w,i,lo,hi⟩=(b,1):=by
   unfold oL;rw[if_neg c1];split
   .simp[eU,c2]
   .rfl
  rw[hd];simp[bY,hT,hE,hS,hcl,dt,c2,gl]
 have hw:=aP.1 c2;have hw8:bC w 0 255=true:=aP.2 (by omega);have w1:IntKind.u8.wrap w=w:=wu8 (by omega);have hC:=λJ=>MO (J:=J) (b:=b.aS) (n:=b.aw.length) (rd:=[⟨b.aw.length,w,i,lo,hi⟩]) (wq:=nl bH.enc b.aS.av) (Bv.of hv) (by simp) (by intro x hx;simp at hx;subst hx;simp only;omega) ku
 try simp only[lF,Cl]at hC
 rw[BP]at hC;simp only[aE,aY,db,mY,da,tz.enc,cq]at hC;have hd:oL b ⟨b.aw.length,w,i,lo,hi⟩=if eU b.aS b.aw.length ⟨b.aw.length,w,i,lo,hi⟩=0 then(gU b lo hi (sf b ⟨b.aw.length,w,i,lo,hi⟩),0)else(b,eU b.aS b.aw.length ⟨b.aw.length,w,i,lo,hi⟩):=by
  unfold oL;rw[if_neg c1,if_pos hw8]
 rw[hd];by_cases c3:eU b.aS b.aw.length ⟨b.aw.length,w,i,lo,hi⟩=0
 case neg =>
  rw[if_neg c3];simp[bY,hT,hE,hS,hcl,dt,c2,w1,hnp,hC,c3,gl]
 rw[if_pos c3];have hx:=Vc.of c3;have hLv:=SC (J:=J) (b:=b) (x:=⟨b.aw.length,w,i,lo,hi⟩) (atv:=b.at_) (L:=.bT 4 [iI w,iI i,iI lo,iI hi]) (R:=bY b) rfl rfl hK ht hx b.ai.length 0 (by omega);have hst:=λJ hJ=>LD (J:=J) (b:=b) (lo:=lo) (hi:=hi) (val:=sf b ⟨b.aw.length,w,i,lo,hi⟩) (vs:=b.ai.map (wE b ⟨b.aw.length,w,i,lo,hi⟩)) hne hK.kv.wl hK.kv.ml (by simp) (by
  intro j e v he hv hl;simp[he]at hv;subst hv;obtain⟨r,hrun⟩:=hK.kv.An e (aj he) hl;have h1:wE b ⟨b.aw.length,w,i,lo,hi⟩ e=pa b.aS e.m r ⟨b.aw.length,w,i,lo,hi⟩:=by simp[wE,hl,hrun]
  have h2:sf b ⟨b.aw.length,w,i,lo,hi⟩ e.m=Ls lo hi (pa b.aS e.m r ⟨b.aw.length,w,i,lo,hi⟩):=by simp[sf,hrun]
  rw[h1,h2];have he2:=hx.ends.2.1
  try simp only[]at he2
  try simp only at he2
  generalize pa b.aS e.m r ⟨b.aw.length,w,i,lo,hi⟩=v;unfold Ls;split
  .exact⟨rfl,λ_=>rfl⟩
  .have q1:bC v lo hi=true:=aP.2 (by omega);have q2:bC lo lo hi=true:=aP.2 (by omega);rw[q1,q2];exact⟨rfl,λh=>by cases h⟩) hJ
 have hz:=LY (vs:=b.ai.map (wE b ⟨b.aw.length,w,i,lo,hi⟩));rw[bG]at hz;rw[hz]at hLv;have hml:=hK.kv.ml;have r1:(b.ai.length:Int)*8<=room:=by unfold room;omega
 simp[bY,hT,hE,hS,dt,c2,w1,hnp,hC,c3,r1];refine WL.to hLv (by simp[bY,hT,hE,zS]) (by simp) ?_;rintro y e J' ⟨rfl,g1,g2,g3,g6,g10,rfl⟩;have cli:∀x:Int,D.bf (aO x)=true:=λ_=>by simp[aO,D.clean]
 have f3:=o9 (f:=aO) (w:=1) (λ_=>rfl) cli (l:=b.ai.map (wE b ⟨b.aw.length,w,i,lo,hi⟩)) (j:=0) (v:=0) (bs:=[.cells 0 (fM (b.ai.map (wE b ⟨b.aw.length,w,i,lo,hi⟩)) aO)]) (J:=J) hJ rfl;simp only[lF,Cl,bG]at f3 hst;simp[g1,g2,g3,g6,g10,f3,hst,eS,eH,CQ,xV,gl];exact cJ (b:=gU b lo hi (sf b ⟨b.aw.length,w,i,lo,hi⟩)) rfl
end
end Go.Proofs.YtpapbbojmclkgaaGreatDoor
