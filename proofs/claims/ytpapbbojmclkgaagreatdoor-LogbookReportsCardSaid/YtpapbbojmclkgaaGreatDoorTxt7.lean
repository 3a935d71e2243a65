import Derived.Test.YtpapbbojmclkgaaGreatDoorTxt6
set_option linter.all false
namespace Go.Proofs.YtpapbbojmclkgaaGreatDoor
section
open Go Go.Abs Go.Rock Go.Book
variable {J:SK}
theorem Y3{r:Trem.cH}:Cl 91 [.agg r.enc] (.bool r.ok) J:=by
 refine au ?_;cases hc1:Trem.uE r.lo r.hi
 .simp[LF,Trem.cH.ok,hc1]
 cases hc2:Trem.bC r.least 0 160
 .simp[LF,xz,Trem.cH.ok,hc1,hc2]
 cases hc3:Trem.bC r.uX 1 1000000
 .simp[LF,xz,Trem.cH.ok,hc1,hc2,hc3]
 cases hc4:Trem.bC r.count 1 200
 .simp[LF,xz,Trem.cH.ok,hc1,hc2,hc3,hc4]
 by_cases hc5:r.Ni=1
 rotate_left
 .simp[LF,xz,Trem.cH.ok,hc1,hc2,hc3,hc4,hc5]
 simp[LF,xz,Trem.cH.ok,hc1,hc2,hc3,hc4,hc5]
theorem Y2{k0 k1 k2:Int}:Cl 92 [.bA,.bA,.agg [iI k0,iI k1,iI k2],iI 0] (.bool (Trem.fw k0 k1 k2)) J:=by
 refine au ?_;have h0:Trem.bC 0 0 1000000000=true:=rfl;by_cases h1:1000<k0
 .have hk:Trem.fw k0 k1 k2=false:=by simp[Trem.fw];omega
  simp[xz,h0,h1,hk]
 by_cases h2:k2<0
 .have hk:Trem.fw k0 k1 k2=false:=by simp[Trem.fw];omega
  simp[xz,h0,h1,h2,hk]
 by_cases h3:k0<k1
 .have hk:Trem.fw k0 k1 k2=false:=by simp[Trem.fw];omega
  simp[xz,h0,h1,h2,h3,hk]
 by_cases h4:k1<k2
 .have hk:Trem.fw k0 k1 k2=false:=by simp[Trem.fw];omega
  simp[xz,h0,h1,h2,h3,h4,hk]
 simp[xz,h0,h1,h2,h3,h4];refine az pq.eq_1 ?_;simp[Trem.fw];omega
theorem ON{e:Trem.Ev}(hl:e.sp.length<=1000000):∀(k i:Nat),i+k=e.sp.length ->
  WL T [1,3] false iK [(1,.bg e.enc),(3,iI i)] J
   (λx e' J'=>J'=J/\if dh (e.sp.drop i) Trem.pV.ok=true then x=.exit 0/\get e' 1=.bg e.enc else x=.ret/\get e' 2=.bool false)
 |0,i,hi=>by
  refine az iK.eq_1 ?_;obtain rfl:i=e.sp.length:=by omega
  have h2:e.sp.drop e.sp.length=[]:=an (by omega);simp[h2,dh]
 |k+1,i,hi=>by
  refine az iK.eq_1 ?_;have h1:i<e.sp.length:=by omega
  obtain⟨s,hs⟩:=gE h1;have h2:=bd (f:=Trem.pV.enc) (w:=4) (λ_=>rfl) hs;have h4:=cg h1;have ih:=ON hl k (i+1) (by omega);rw[bw hs,show dh (s::e.sp.drop (i+1)) Trem.pV.ok=(s.ok && dh (e.sp.drop (i+1)) Trem.pV.ok)from rfl];cases c1:s.p.ok
  .simp[h1,h2,Io,c1,Trem.pV.ok]
  cases c2:Trem.bC s.mag 0 160
  .simp[h1,h2,Io,xz,c1,c2,Trem.pV.ok]
  simp[h1,h2,h4,Io,xz,c1,c2,Trem.pV.ok];exact WL.to ih (by simp) rfl λx e J' hh=>by simpa[c1,c2]using hh
theorem Vq{e:Trem.Ev}(hl:e.sp.length<=1000000):Cl 93 [.agg e.enc] (.bool e.ok) J:=by
 refine au ?_;simp;refine WL.to (ON hl e.sp.length 0 (by omega)) (by simp) rfl ?_;rintro x e' J' ⟨rfl,h⟩;rw[aB]at h;cases c0:dh e.sp Trem.pV.ok
 .rw[c0]at h;simp at h;obtain⟨rfl,g2⟩:=h;simp[g2,Trem.Ev.ok,c0]
 rw[c0]at h;simp at h;obtain⟨rfl,g1⟩:=h;cases c1:Trem.bC e.tick 0 1000000
 .simp[g1,xz,c1,Trem.Ev.ok]
 have hi:Trem.bC e.sp.length 1 2000=(decide ((1:Int)<=e.sp.length) && decide ((e.sp.length:Int)<=2000)):=rfl;by_cases c2:(1:Int)<=e.sp.length
 .by_cases c3:(e.sp.length:Int)<=2000
  .simp[g1,xz,c1,c2,c3,c0,Trem.Ev.ok,hi]
  .simp[g1,xz,c1,c2,c3,c0,Trem.Ev.ok,hi]
 .simp[g1,xz,c1,c2,c0,Trem.Ev.ok,hi]
def KX:List UInt8:=[114,117,108,101]
def Qj:List UInt8:=[107,101,101,112]
def KW:List UInt8:=[113,117,97,107,101]
theorem Zs{b:Bk}{x y z:Int}:Cl 64 [.agg (bR b),.str Qj,.bV 3 [iI x,iI y,iI z]] (gn (if Trem.fw x y z=true then(Kz b x y z,0)else(b,1))) J:=by
 refine au ?_;have hC:=λJ=>Y2 (J:=J) (k0:=x) (k1:=y) (k2:=z)
 cases h:Trem.fw x y z
 .rw[h]at hC;simp[fS,Qj,bR,hC,gn];exact⟨_,lf⟩
 .rw[h]at hC;simp[fS,Qj,bR,hC,gn];exact⟨_,lf (b:=Kz b x y z)⟩
theorem RR{x0 x1 x2 x3 x4 x5 x6 x7 x8 x9:Int}:Trem.cH.ok ⟨⟨x0,x1,x2⟩,⟨x3,x4,x5⟩,x6,x7,x8,max 0 (min x9 9)⟩=(bC x9 1 2 && Trem.cH.ok ⟨⟨x0,x1,x2⟩,⟨x3,x4,x5⟩,x6,x7,x8,x9⟩):=by
 rw[Bool.eq_iff_iff,af,Trem.zj,Trem.zj,aR];constructor
 .rintro⟨h1,h2,h3,h4,h5⟩;simp only at h5;exact⟨by omega,h1,h2,h3,h4,by simp only;omega⟩
 .rintro⟨h0,h1,h2,h3,h4,h5⟩;exact⟨h1,h2,h3,h4,by simp only;omega⟩
theorem Zv{b:Bk}{x0 x1 x2 x3 x4 x5 x6 x7 x8 x9:Int}(hb:b.rules.length<=1000000)(hJ:J≠[]):Cl 64 [.agg (bR b),.str KX,.bV 10 [iI x0,iI x1,iI x2,iI x3,iI x4,iI x5,iI x6,iI x7,iI x8,iI x9]] (gn (sn b ⟨⟨x0,x1,x2⟩,⟨x3,x4,x5⟩,x6,x7,x8,x9⟩ x9)) J:=by
 refine au ?_;have hn:=jW (f:=Trem.cH.enc) b.rules;by_cases h1:b.rules.length<20
 case neg =>
  have h1':(20:Int)<=b.rules.length:=by omega
  simp[fS,KX,bR,hn,h1',sn,h1,gn];exact⟨_,lf⟩
 have h1':¬(20:Int)<=b.rules.length:=by omega
 have hw:IntKind.u8.wrap (max 0 (min x9 9))=max 0 (min x9 9):=wu8 (by omega);have hC:=λJ=>Y3 (J:=J) (r:=⟨⟨x0,x1,x2⟩,⟨x3,x4,x5⟩,x6,x7,x8,max 0 (min x9 9)⟩)
 simp only[Trem.cH.enc,RR]at hC;by_cases h2:bC x9 1 2=true/\Trem.cH.ok ⟨⟨x0,x1,x2⟩,⟨x3,x4,x5⟩,x6,x7,x8,x9⟩=true
 case neg =>
  have hd:sn b ⟨⟨x0,x1,x2⟩,⟨x3,x4,x5⟩,x6,x7,x8,x9⟩ x9=(b,1):=by
   unfold sn;rw[if_pos h1];split
   .rw[if_neg λh=>h2 ⟨by assumption,h⟩]
   .rfl
  rw[hd];have h3:(bC x9 1 2 && Trem.cH.ok ⟨⟨x0,x1,x2⟩,⟨x3,x4,x5⟩,x6,x7,x8,x9⟩)=false:=by simpa using h2
  rw[h3]at hC;simp[fS,KX,bR,hn,h1',hw,hC,gn];exact⟨_,lf⟩
 have h3:1<=x9/\x9<=2:=aR.1 h2.1;rw[h2.1,h2.2,show max 0 (min x9 9)=x9 by omega]at hC;rw[show max 0 (min x9 9)=x9 by omega]at hw;have hm:max 0 (min x9 9)=x9:=by omega
 have l1:=Qf b.rules;have l2:(fM b.rules Trem.cH.enc).take (b.rules.length*10)=fM b.rules Trem.cH.enc:=ah (by omega);have⟨r1,r2,r3⟩:b.rules.length*80<=room/\(b.rules.length+1)*80<=room/\80<=room:=by unfold room;omega
 by_cases hm0:b.rules=[]
 .simp[fS,KX,bR,hm,hw,hC,sn,h2,gn,hm0,F3,r3];exact Eh (b:=b) (b':={b with rules:=[⟨⟨x0,x1,x2⟩,⟨x3,x4,x5⟩,x6,x7,x8,x9⟩] }) 11 10 (λ_=>rfl) adu [⟨⟨x0,x1,x2⟩,⟨x3,x4,x5⟩,x6,x7,x8,x9⟩] 0 0 1 hJ rfl rfl rfl (by simp) (by simp[bR,hm0,nl])
 .have e1:=jk (f:=Trem.cH.enc) hm0;simp[fS,KX,bR,h1,h1',hm,hw,hC,sn,h2,gn,hm0,e1,l1,l2,r1,r2];exact Eh (b:=b) (b':={b with rules:=b.rules++[⟨⟨x0,x1,x2⟩,⟨x3,x4,x5⟩,x6,x7,x8,x9⟩] }) 11 10 (λ_=>rfl) adu (b.rules++[⟨⟨x0,x1,x2⟩,⟨x3,x4,x5⟩,x6,x7,x8,x9⟩]) 0 1 (b.rules.length+1) hJ rfl rfl (by simp) (by simp) (by simp[bR,H2])
theorem OZ{A:List D}{sp:List Trem.pV}{tk:Int}(hl:sp.length<=1000000):∀(m j:Nat),j+m=sp.length ->
  WL T [2,3,6,10,11] false lY [(2,.bV (sp.length*4) (fM sp Trem.pV.enc)),(3,.own 0 A),(6,.own 0 zS),(10,.own 0 [iI tk,.sl J.length 0 j 0 j 4]),(11,iI (j*4))] ([.cells j (fM (sp.take j) Trem.pV.enc)]::J)
   (λx e J'=>x=.exit 1/\get e 3=.own 0 A/\get e 6=.own 0 zS/\get e 10=.own 0 [iI tk,.sl J.length 0 sp.length 0 sp.length 4]/\J'=[.cells sp.length (fM sp Trem.pV.enc)]::J)
 |0,j,h=>by
  refine az lY.eq_1 ?_;obtain rfl:j=sp.length:=by omega
  simp
 |m+1,j,h=>by
  refine az lY.eq_1 ?_;have h1:j<sp.length:=by omega
  obtain⟨p,hp⟩:=gE h1;have d0:=pP (f:=Trem.pV.enc) (w:=4) (λ_=>rfl) hp;have d1:=congrArg (List.drop 1) d0;have d2:=congrArg (List.drop 2) d0;have d3:=congrArg (List.drop 3) d0;simp[dc]at d1 d2 d3;have⟨h2,k1,k2,k3,n0,n1⟩:(j:Int)*4<(sp.length:Int)*4/\(j:Int)*4+1<(sp.length:Int)*4/\(j:Int)*4+2<(sp.length:Int)*4/\(j:Int)*4+3<(sp.length:Int)*4/\0<=(j:Int)*4/\0<=(j:Int)*4+1:=by omega
  have⟨n2,n3,t0,t1,t2,t3⟩:0<=(j:Int)*4+2/\0<=(j:Int)*4+3/\((j:Int)*4).toNat=j*4/\((j:Int)*4+1).toNat=j*4+1/\((j:Int)*4+2).toNat=j*4+2/\((j:Int)*4+3).toNat=j*4+3:=by omega
  have w1:=cb (n:=(j:Int)*4+1);have w2:=cb (n:=(j:Int)*4+2);have w3:=cb (n:=(j:Int)*4+3);have w4:=cb (n:=(j:Int)*4+4);have hl1:(sp.take j).length=j:=by simp;omega
  have hr:(j+1)*32<=room:=by unfold room;omega
  have ha:=Od (sp.take j);rw[hl1]at ha;have ta:(fM (sp.take j) Trem.pV.enc).take (j*4)=fM (sp.take j) Trem.pV.enc:=ah (by omega);have ih:=OZ (A:=A) (tk:=tk) hl m (j+1) (by omega);have htk:sp.take (j+1)=sp.take j++[p]:=by rw[List.take_add_one,hp];rfl
  rw[htk,show((j+1:Nat):Int)*4=(j:Int)*4+4 by omega]at ih;simp[h1,k1,k2,k3,n0,n1,n2,n3,t0,t1,t2,t3,d0,d1,d2,d3,w1,w2,w3,w4,hr,ha,ta];exact WL.to ih (by simp) (by simp) λx e J' hh=>hh
theorem V4{b:Bk}{sp:List Trem.pV}(hl:sp.length<=1000000)(hb:b.pY.length<=1000000)(hJ:J≠[]):Cl 64 [.agg (bR b),.str KW,.bV (sp.length*4) (fM sp Trem.pV.enc)] (gn (oU b sp)) J:=by
 refine au ?_;have hn:=jW (f:=Trem.Ev.enc) b.pY;have hnp:=jW (f:=pE) b.aw;by_cases h1:b.pY.length<200
 case neg =>
  have h1':(200:Int)<=b.pY.length:=by omega
  simp[fS,KW,bR,hn,h1',oU,h1,gn];exact⟨_,lf⟩
 have h1':¬(200:Int)<=b.pY.length:=by omega
 have hL:=OZ (J:=J) (A:=bR b) (sp:=sp) (tk:=b.aw.length) hl sp.length 0 (by omega);simp[fS,KW,bR,hn,h1',hnp];refine WL.to hL (by simp[bR,zS]) (by simp) ?_;rintro x e J' ⟨rfl,g2,g4,g6,rfl⟩;have hC:=λJ=>Vq (J:=J) (e:=⟨b.aw.length,sp⟩) hl
 simp only[Trem.Ev.enc]at hC;have hf:=qX (f:=Trem.pV.enc) (w:=4) (λ_=>rfl) (λ_=>by simp[D.clean]) (l:=sp) (j:=0) (v:=sp.length) (bs:=[Abs.aG.cells sp.length (fM sp Trem.pV.enc)]) (J:=J) hJ rfl;cases h2:Trem.Ev.ok ⟨b.aw.length,sp⟩
 .rw[h2]at hC;simp[g2,g4,g6,hf,hC,fR,eF,Er,As,oU,h1,h2,gn];exact⟨_,lf⟩
 .rw[h2]at hC;have l1:=Xd b.pY;have l2:(fM b.pY Trem.Ev.enc).take (b.pY.length*2)=fM b.pY Trem.Ev.enc:=ah (by omega);have⟨r1,r2,r3⟩:b.pY.length*32<=room/\(b.pY.length+1)*32<=room/\32<=room:=by unfold room;omega
  by_cases hm:b.pY=[]
  .simp[g2,g4,g6,hf,hC,bR,zS,oU,h2,gn,hm,F3,r3];exact Eh (b:=b) (b':=Ef b ⟨b.aw.length,sp⟩) 12 2 (λ_=>rfl) adt [⟨b.aw.length,sp⟩] 1 0 1 hJ rfl rfl rfl (by simp) (by simp[bR,Ef,hm,nl])
  .have e1:=jk (f:=Trem.Ev.enc) hm;simp[g2,g4,g6,hf,hC,bR,zS,oU,h1,h2,gn,hm,e1,l1,l2,r1,r2];exact Eh (b:=b) (b':=Ef b ⟨b.aw.length,sp⟩) 12 2 (λ_=>rfl) adt (b.pY++[⟨b.aw.length,sp⟩]) 1 1 (b.pY.length+1) hJ rfl rfl (by simp) (by simp) (by simp[bR,Ef,H2])
def Ej:List UInt8:=[102,105,101,108,100]
def Ia:List UInt8:=[116,97,98,108,101]
def KV:List UInt8:=[98,101,100]
def El:List UInt8:=[119,101,108,108]
theorem cK{b:Bk}{X:List D}{e:Int}{L:Nat}{S:SK}{s:List Abs.aG}(h:bR b=X):∃s',cI L 16 (.cN [.agg X,iI e]) (s::S)=(.cN [.agg X,iI e],s'::S):=by
 subst h;exact⟨_,lf⟩
theorem EL{b:Bk}{X:List D}{e:Int}{L:Nat}{S:SK}{s:List Abs.aG}(h:bR b=X):∃s',cI L 16 (.cN [.agg X,iI e]) (s::S)=(.cN [.agg (bR b),iI e],s'::S):=by
 subst h;exact⟨_,lf⟩
theorem uz(b:Bk):nl bG.enc b.aS.av=.bA\/nl bG.enc b.aS.av=lF b.aS.av bG.enc/\b.aS.av≠[]:=by
 by_cases h:b.aS.av=[]
 .exact .inl (by simp[nl,h])
 .exact .inr ⟨by simp[nl,h],h⟩
theorem VZ{b:Bk}{x y z k:Int}(hw:b.aS.av.length<=1000000)(hn:((b.aS.f.x=0/\b.aS.f.y=0)/\b.aS.f.z=0/\b.aS.f.k=0)->b.aS.av=[]):
  Cl 63 [.agg (bR b),.str Ej,.bV 4 [iI x,iI y,iI z,iI k]] (gn (Go.Book.nQ b x y z k)) J:=by
 refine au ?_;have hf:=λJ=>Oq (J:=J) (f:=⟨x,y,z,k⟩)
 have r1:b.aS.av.length*24<=room:=by unfold room;omega
 have l1:=xY b.aS.av;by_cases h0:(b.aS.f.x=0/\b.aS.f.y=0)/\b.aS.f.z=0/\b.aS.f.k=0
 case neg =>
  have hq:¬b.aS.f.x=0\/¬b.aS.f.y=0\/¬b.aS.f.z=0\/¬b.aS.f.k=0:=by omega
  have hd:Go.Book.nQ b x y z k=(b,8):=if_neg h0;rw[hd];rcases uz b with hE | ⟨hE,hne⟩
  .simp[fS,Ej,bR,hE,hq,gn];exact cK (b:=b) (by simp[bR,hE])
  .simp[fS,Ej,bR,hE,hne,r1,l1,hq,gn];exact cK (b:=b) (by simp[bR,hE])
 have hq:(¬b.aS.f.x=0\/¬b.aS.f.y=0\/¬b.aS.f.z=0\/¬b.aS.f.k=0)=False:=by simp;omega
 have hE:nl bG.enc b.aS.av=.bA:=by simp[nl,hn h0]
 by_cases h1:(dD.mk x y z k).valid=true/\4<=k
 .have hd:Go.Book.nQ b x y z k=({b with aS:={b.aS with f:=⟨x,y,z,k⟩ } },0):=by unfold Go.Book.nQ;rw[if_pos h0,if_pos h1]
  rw[hd];rw[h1.1]at hf;simp[fS,Ej,bR,hE,hq,gn,hf,show ¬k<4 by omega];exact cK (b:={b with aS:={b.aS with f:=⟨x,y,z,k⟩ } }) (by simp[bR,hE])
 have hd:Go.Book.nQ b x y z k=(b,1):=by unfold Go.Book.nQ;rw[if_pos h0,if_neg h1]
 rw[hd];cases h2:(dD.mk x y z k).valid
 .rw[h2]at hf;simp[fS,Ej,bR,hE,hq,gn,hf];exact cK (b:=b) (by simp[bR,hE])
 .rw[h2]at hf;have h3:k<4:=Int.not_le.1 λh=>h1 ⟨h2,h⟩
  simp[fS,Ej,bR,hE,hq,gn,hf,h3];exact cK (b:=b) (by simp[bR,hE])
def Qb(L:Nat):Nat->D
 |0 => .bA
 |j+1 => .sl L 0 j 0 (j+1) 5
def Lx(t:List Rw):Nat->List Abs.aG
 |0=>[]
 |j+1=>[.cells j (fM (t.take (j+1)) Rw.enc)]
def HC(b:Bk)(W:D):List D:=[iI b.aS.f.x,iI b.aS.f.y,iI b.aS.f.z,iI b.aS.f.k,W,iI b.aS.cC,iI b.aS.lift,iI b.aS.deep,.bA]
theorem O1{A:List D}{b:Bk}{t:List Rw}(hl:t.length<=1000000):∀(m j:Nat),j+m=t.length ->
  WL T [2,3,6,8,9] false ou [(2,.bV (t.length*5) (fM t Rw.enc)),(3,.own 0 A),(6,.own 0 zS),(8,.own 0 (HC b (Qb J.length j))),(9,iI (j*5))] (Lx t j::J)
   (λx e J'=>x=.exit 1/\get e 3=.own 0 A/\get e 6=.own 0 zS/\get e 8=.own 0 (HC b (Qb J.length t.length))/\J'=Lx t t.length::J)
 |0,j,h=>by
  refine az ou.eq_1 ?_;obtain rfl:j=t.length:=by omega
  simp[HC]
 |m+1,j,h=>by
  refine az ou.eq_1 ?_;have h1:j<t.length:=by omega
  obtain⟨p,hp⟩:=gE h1;have d0:=pP (f:=Rw.enc) (w:=5) (λ_=>rfl) hp;have d1:=congrArg (List.drop 1) d0;have d2:=congrArg (List.drop 2) d0;have d3:=congrArg (List.drop 3) d0;have d4:=congrArg (List.drop 4) d0;simp[dc]at d1 d2 d3 d4;have⟨h2,k1,k2,k3,k4,n0⟩:(j:Int)*5<(t.length:Int)*5/\(j:Int)*5+1<(t.length:Int)*5/\(j:Int)*5+2<(t.length:Int)*5/\(j:Int)*5+3<(t.length:Int)*5/\(j:Int)*5+4<(t.length:Int)*5/\0<=(j:Int)*5:=by omega
  have⟨n1,n2,n3,n4,t0,t1⟩:0<=(j:Int)*5+1/\0<=(j:Int)*5+2/\0<=(j:Int)*5+3/\0<=(j:Int)*5+4/\((j:Int)*5).toNat=j*5/\((j:Int)*5+1).toNat=j*5+1:=by omega
  have⟨t2,t3,t4⟩:((j:Int)*5+2).toNat=j*5+2/\((j:Int)*5+3).toNat=j*5+3/\((j:Int)*5+4).toNat=j*5+4:=by omega
  have w1:=cb (n:=(j:Int)*5+1);have w2:=cb (n:=(j:Int)*5+2);have w3:=cb (n:=(j:Int)*5+3);have w4:=cb (n:=(j:Int)*5+4);have w5:=cb (n:=(j:Int)*5+5);have ih:=O1 (A:=A) (b:=b) hl m (j+1) (by omega);have htk:t.take (j+1)=t.take j++[p]:=by rw[List.take_add_one,hp];rfl
  rw[show((j+1:Nat):Int)*5=(j:Int)*5+5 by omega]at ih;have hl1:(t.take j).length=j:=by simp;omega
  have ha:=N4 (t.take j);rw[hl1]at ha;have ta:(fM (t.take j) Rw.enc).take (j*5)=fM (t.take j) Rw.enc:=ah (by omega);have hr:(j+1)*40<=room:=by unfold room;omega
  have eN:Qb J.length (j+1)=.sl J.length 0 j 0 (j+1) 5:=rfl;have eG:Lx t (j+1)=[.cells j (fM (t.take j) Rw.enc++p.enc)]:=by simp[Lx,htk]
  rw[eN,eG]at ih;by_cases hz:j=0
  .have e1:Qb J.length j=.bA:=by rw[hz];rfl
   have e2:Lx t j=[]:=by rw[hz];rfl
   have e3:t.take j=[]:=by rw[hz];rfl
   rw[e3]at ih;simp[HC,e1,e2,h1,k1,k2,k3,k4,n0,n1,n2,n3,n4,t0,t1,t2,t3,t4,d0,d1,d2,d3,d4,w1,w2,w3,w4,w5,show 40<=room by unfold room;omega];exact WL.to ih (by simp[HC,hz]) (by simp[hz]) λx e J' hh=>by simpa[HC]using hh
  .have e0:j-1+1=j:=by omega
   have e1:Qb J.length j=.sl J.length 0 (j-1) 0 j 5:=by rw[<- e0];rfl
   have e2:Lx t j=[.cells (j-1) (fM (t.take j) Rw.enc)]:=by rw[<- e0];rfl
   simp[HC,e1,e2,h1,k1,k2,k3,k4,n0,n1,n2,n3,n4,t0,t1,t2,t3,t4,d0,d1,d2,d3,d4,w1,w2,w3,w4,w5,hr,ha,ta,e0];exact WL.to ih (by simp[HC]) (by simp) λx e J' hh=>by simpa[HC]using hh
theorem OA:Cl 89 [.bA] (.bool false) J:=by
 refine au ?_;simp;refine az kE.eq_1 ?_;simp[]
theorem V5{b:Bk}{t:List Rw}(hl:t.length<=1000000)(hw:b.aS.av.length<=1000000)(hn:b.aS.dP=[]->b.aS.av=[])(hJ:J≠[]):
  Cl 63 [.agg (bR b),.str Ia,.bV (t.length*5) (fM t Rw.enc)] (gn (lR b t)) J:=by
 refine au ?_;have r1:b.aS.av.length*24<=room:=by unfold room;omega
 have l1:=xY b.aS.av;have hnt:=jW (f:=Rw.enc) b.aS.dP;by_cases h0:b.aS.dP=[]
 case neg =>
  have hd:lR b t=(b,8):=if_neg h0;have hq:0<b.aS.dP.length:=aH.2 h0;rw[hd];rcases uz b with hE | ⟨hE,hne⟩
  .simp[fS,Ia,bR,hE,hq,gn,hnt];exact cK (b:=b) (by simp[bR,hE])
  .simp[fS,Ia,bR,hE,hne,r1,l1,hq,gn,hnt];exact cK (b:=b) (by simp[bR,hE])
 have hE:nl bG.enc b.aS.av=.bA:=by simp[nl,hn h0]
 have hT:nl Rw.enc b.aS.dP=.bA:=by simp[nl,h0]
 have hL:=O1 (J:=J) (A:=bR b) (b:=b) hl t.length 0 (by omega);simp[fS,Ia,bR,hE,hT];refine WL.to hL (by simp[bR,hE,hT,HC,zS,Qb]) (by simp[Lx]) ?_;rintro x e J' ⟨rfl,g3,g6,g8,rfl⟩;by_cases hz:t=[]
 .have hd:lR b t=(b,1):=by subst hz;simp[lR,h0,fK,bC]
  rw[hd];have e1:Qb J.length t.length=.bA:=by rw[hz];rfl
  have e2:Lx t t.length=[]:=by rw[hz];rfl
  rw[e1]at g8;simp[g3,g6,g8,e2,HC,OA,fR,eF,Er,As,gn];exact cK (b:=b) rfl
 .have e0:t.length-1+1=t.length:=by have:=aH.2 hz;omega
  have e1:Qb J.length t.length=.sl J.length 0 (t.length-1) 0 t.length 5:=by rw[<- e0];rfl
  have e2:Lx t t.length=[.cells (t.length-1) (fM t Rw.enc)]:=by rw[<- e0];simp[Lx,e0]
  have hf:=qX (f:=Rw.enc) (w:=5) (λ_=>rfl) (λ_=>by simp[D.clean]) (l:=t) (j:=0) (v:=t.length-1) (bs:=[Abs.aG.cells (t.length-1) (fM t Rw.enc)]) (J:=J) hJ rfl;have hC:=λJ=>Oz (J:=J) (t:=t) (by omega)
  rw[e1]at g8;cases h2:fK t
  .have hd:lR b t=(b,1):=by simp[lR,h0,h2]
   rw[hd];rw[h2]at hC;simp[g3,g6,g8,e2,hf,HC,hC,fR,eF,Er,As,gn];exact cK (b:=b) rfl
  .have hd:lR b t=(Ih b t,0):=by simp[lR,h0,h2]
   rw[hd];rw[h2]at hC;simp[g3,g6,g8,e2,hf,HC,hC,bR,hE,hT,zS,gn];exact EL (b:=Ih b t) (by simp[bR,Ih,hE,jk hz])
theorem acN{b:Bk}{x y z:Int}(ht:b.aS.dP.length<=1000000)(hw:b.aS.av.length<=1000000)(hn:b.ready=false->b.aS.av=[])(hJ:J≠[]):
  Cl 63 [.agg (bR b),.str KV,.bV 3 [iI x,iI y,iI z]] (gn (ya b x y z)) J:=by
 refine au ?_;have r1:b.aS.av.length*24<=room:=by unfold room;omega
 have l1:=xY b.aS.av;have hnt:=jW (f:=Rw.enc) b.aS.dP;by_cases h0:((b.aS.f.x=0/\b.aS.f.y=0)/\b.aS.f.z=0/\b.aS.f.k=0)\/b.aS.dP=[]\/b.ready=true
 .have hd:ya b x y z=(b,8):=if_pos h0;rw[hd];by_cases hq1:b.aS.f.x=0/\b.aS.f.y=0/\b.aS.f.z=0/\b.aS.f.k=0
  .rcases uz b with hE | ⟨hE,hne⟩
   .simp[fS,KV,bR,hE,hq1,gn];exact cK (b:=b) (by simp[bR,hE,hq1])
   .simp[fS,KV,bR,hE,hne,r1,l1,hq1,gn];exact cK (b:=b) (by simp[bR,hE,hq1])
  .have hq:(b.aS.f.x=0->b.aS.f.y=0->b.aS.f.z=0->¬b.aS.f.k=0)=True:=eq_true λh1 h2 h3 h4=>hq1 ⟨h1,h2,h3,h4⟩
   have hq3:(b.aS.f.x=0/\b.aS.f.y=0/\b.aS.f.z=0/\b.aS.f.k=0)=False:=eq_false hq1;by_cases hq2:b.aS.dP=[]
   .rcases uz b with hE | ⟨hE,hne⟩
    .simp[fS,KV,bR,hE,hq,hq3,hq2,gn];exact cK (b:=b) (by simp[bR,hE,hq2])
    .simp[fS,KV,bR,hE,hne,r1,l1,hq,hq3,hq2,gn];exact cK (b:=b) (by simp[bR,hE,hq2])
   .have hr:b.ready=true:=by
     rcases h0 with h | h | h
     .exact absurd ⟨h.1.1,h.1.2,h.2.1,h.2.2⟩ hq1
     .exact absurd h hq2
     .exact h
    have hb:((b.aS.dP.length:Int) == 0)=false:=by have:=aH.2 hq2;rw[beq_eq_false_iff_ne];omega
    rcases uz b with hE | ⟨hE,hne⟩
    .simp[fS,KV,bR,hE,hq,hq3,hnt,hb,hr,gn];exact cK (b:=b) (by simp[bR,hE,hr])
    .simp[fS,KV,bR,hE,hne,r1,l1,hq,hq3,hnt,hb,hr,gn];exact cK (b:=b) (by simp[bR,hE,hr])
 have hq:(b.aS.f.x=0->b.aS.f.y=0->b.aS.f.z=0->¬b.aS.f.k=0)=True:=eq_true λh1 h2 h3 h4=>h0 (.inl ⟨⟨h1,h2⟩,h3,h4⟩)
 have hq3:(b.aS.f.x=0/\b.aS.f.y=0/\b.aS.f.z=0/\b.aS.f.k=0)=False:=eq_false λh=>h0 (.inl ⟨⟨h.1,h.2.1⟩,h.2.2.1,h.2.2.2⟩)
 have hb:((b.aS.dP.length:Int) == 0)=false:=by have:=aH.2 (show b.aS.dP≠[]from λh=>h0 (.inr (.inl h)));rw[beq_eq_false_iff_ne];omega
 have hq2:b.aS.dP≠[]:=λh=>h0 (.inr (.inl h))
 have hr:b.ready=false:=by
  cases h:b.ready with
  |false=>rfl
  |true=>exact absurd (.inr (.inr h)) h0
 have hw0:=hn hr;have hE:nl bG.enc b.aS.av=.bA:=by simp[nl,hw0]
 have hT:=jk (f:=Rw.enc) hq2;have hC:=λJ=>Sh (J:=J) (b:=(Dg b x y z).aS) (wq:=.bA) (show b.aS.dP.length<=_ by omega) (show b.aS.av.length<=_ by omega) (by simp[Dg,hw0])
 simp only[Dg]at hC;cases hv:(Dg b x y z).aS.valid
 .have hd:ya b x y z=(b,1):=by unfold ya;rw[if_neg h0,hv];rfl
  rw[hd];simp only[Dg]at hv;rw[hv]at hC;simp[fS,KV,bR,hE,hT,hq,hq3,hb,hr,gn,hC];exact cK (b:=b) (by simp[bR,hE,hT,hr])
 .have hd:ya b x y z=(Dg b x y z,0):=by unfold ya;rw[if_neg h0,if_pos hv]
  rw[hd];simp only[Dg]at hv;rw[hv]at hC;simp[fS,KV,bR,hE,hT,hq,hq3,hb,hr,gn,hC];exact EL (b:=Dg b x y z) (by simp[bR,Dg,hE,hT])
theorem ZA{b:Bk}{x y z:Int}(ht:b.aS.dP.length<=1000000)(hw:b.aS.av.length<=1000000)(hn:b.ready=true->b.aS.dP≠[])(hJ:J≠[]):
  Cl 63 [.agg (bR b),.str El,.bV 3 [iI x,iI y,iI z]] (gn (tE b x y z)) J:=by
 refine oT O4 zO.eq_1 rfl ?_;have⟨r1,r2,r3⟩:b.aS.av.length*24<=room/\(b.aS.av.length+1)*24<=room/\24<=room:=by unfold room;omega
 have l1:=xY b.aS.av;have l2:(fM b.aS.av bG.enc).take (b.aS.av.length*3)=fM b.aS.av bG.enc:=ah (by omega);have hnm:=jW (f:=dY.enc) b.ai;by_cases h0:b.ready=true/\b.ai=[]
 case neg =>
  have hd:tE b x y z=(b,8):=if_neg h0;rw[hd];cases hr:b.ready
  .rcases uz b with hE | ⟨hE,hne⟩
   .simp[fS,El,bR,hE,hr,gn];exact cK (b:=b) (by simp[bR,hE,hr])
   .simp[fS,El,bR,hE,hne,r1,l1,hr,gn];exact cK (b:=b) (by simp[bR,hE,hr])
  .have hq:0<b.ai.length:=aH.2 λh=>h0 ⟨hr,h⟩
   rcases uz b with hE | ⟨hE,hne⟩
   .simp[fS,El,bR,hE,hr,hnm,hq,gn];exact cK (b:=b) (by simp[bR,hE,hr])
   .simp[fS,El,bR,hE,hne,r1,l1,hr,hnm,hq,gn];exact cK (b:=b) (by simp[bR,hE,hr])
 obtain⟨hr,hm⟩:=h0;have hT:=jk (f:=Rw.enc) (hn hr)
 try simp only[lF]at hT
 have hd0:tE b x y z=if(nO b x y z).aS.valid=true then(nO b x y z,0)else(b,1):=if_pos ⟨hr,hm⟩
 have hC:=λJ=>acv (J:=J) (b:=(nO b x y z).aS) (show b.aS.dP.length<=_ by omega) (by simp[nO];omega)
 try simp only[lF,Cl,bL]at hC
 simp only[nO,aT,aE,aY,oE,cV,mX,c9,bG.enc,cq]at hC;have hq:¬0<b.ai.length:=by rw[hm];simp
 have hTc:(lF b.aS.dP Rw.enc).clean=true:=by simp[D.clean,CW]
 try simp only[lF]at hTc
 have clB:∀x:bG,D.bf x.enc=true:=λ_=>by simp[D.clean]
 cases hv:(nO b x y z).aS.valid
 .rw[hd0,hv];simp only[nO]at hv;rw[hv]at hC;rcases uz b with hE | ⟨hE,hne⟩
  .have hw0:b.aS.av=[]:=by unfold nl at hE;split at hE<;>first | assumption | cases hE
   have hf:=qX (f:=bG.enc) (w:=3) (λ_=>rfl) clB (l:=[bG.mk x y z]) (j:=0) (v:=0) (bs:=[.cells 0 [iI x,iI y,iI z]]) (J:=J) hJ rfl;simp[hw0]at hC;simp at hf;simp[fS,El,bR,hE,hT,hr,hm,r3,hTc,hf,hC,gn];exact cK (b:=b) (by simp[bR,hE,hT,hr,hm])
  .have hf:=qX (f:=bG.enc) (w:=3) (λ_=>rfl) clB (l:=b.aS.av++[bG.mk x y z]) (j:=0) (v:=1) (bs:=[.cells 1 (fM (b.aS.av++[bG.mk x y z]) bG.enc)]) (J:=J) hJ rfl;simp at hf;simp[fS,El,bR,hE,hT,hne,hr,hm,r1,r2,l1,l2,hTc,hf,hC,gn];exact cK (b:=b) (by simp[bR,hE,hT,hr,hm])
 .rw[hd0,hv];simp only[nO]at hv;rw[hv]at hC;rcases uz b with hE | ⟨hE,hne⟩
  .have hw0:b.aS.av=[]:=by unfold nl at hE;split at hE<;>first | assumption | cases hE
   have hf:=qX (f:=bG.enc) (w:=3) (λ_=>rfl) clB (l:=[bG.mk x y z]) (j:=0) (v:=0) (bs:=[.cells 0 [iI x,iI y,iI z]]) (J:=J) hJ rfl;simp[hw0]at hC;simp at hf;simp[fS,El,bR,hE,hT,hr,hm,r3,hTc,hf,hC,gn];exact EL (b:=nO b x y z) (by simp[bR,nO,nl,hr,hm,hw0,hn hr])
  .have hf:=qX (f:=bG.enc) (w:=3) (λ_=>rfl) clB (l:=b.aS.av++[bG.mk x y z]) (j:=0) (v:=1) (bs:=[.cells 1 (fM (b.aS.av++[bG.mk x y z]) bG.enc)]) (J:=J) hJ rfl;simp at hf;simp[fS,El,bR,hE,hT,hne,hr,hm,r1,r2,l1,l2,hTc,hf,hC,gn];exact EL (b:=nO b x y z) (by simp[bR,nO,hT,H2,hr,hm])
theorem J3:∀{a c:List D},D.bf (a++c)=(D.bf a && D.bf c)
 |[],_=>rfl
 |d::a,c=>by simp only[cr,D.bf,J3 (a:=a),Bool.and_assoc]
theorem TE{b b':Bk}{e:Int}{ms:List dY}{ws:List Dn}(v n n':Nat){X cs cs':List D}{bs:List Abs.aG}(hJ:J≠[])(h0:bs[0]?=some (.cells v cs))(h1:bs[1]?=some (.cells v cs'))(hX:X=(bR b).take 9 ++ .sl J.length 0 v 0 n 4::(((bR b).drop 10).take 9++[.sl J.length 1 v 0 n' 4]))
  (hn:ms.length=n) (hn':ws.length=n') (hcs:fM ms dY.enc=cs) (hcs':fM ws Dn.enc=cs') (hb:bR b'=(bR b).take 9 ++ .bV n cs::(((bR b).drop 10).take 9++[.bV n' cs'])):
  ∃s,cI (J.length-1) 16 (.cN [.agg X,iI e]) (bs::J)=(.cN [.agg (bR b'),iI e],s::J):=by
 subst hX hn hn' hcs hcs';have c1:=(vO (n:=9) (mm (b:=b))).1;have c2:=(vO (n:=9) (vO (n:=10) (mm (b:=b))).2).1;have h3:D.bf ((bR b).take 9 ++ .sl J.length 0 v 0 ms.length 4::(((bR b).drop 10).take 9++[.sl J.length 1 v 0 ws.length 4]))=false:=by simp[J3,D.clean]
 have k1:=lD (n:=14) (f:=dY.enc) (w:=4) (l:=ms) (j:=0) (v:=v) (bs:=bs) (by decide) (λ_=>rfl) clE hJ h0;have k2:=lD (n:=14) (f:=Dn.enc) (w:=4) (l:=ws) (j:=1) (v:=v) (bs:=bs.set 0 .dead) (by decide) (λ_=>rfl) adx hJ (by rw[List.getElem?_set_ne (by decide)];exact h1);rw[pZ (by simp[D.clean,h3]) (by omega),hb];simp only[jP,kR];rw[EE h3 (by omega),DO (by omega) c1,k1];simp only;rw[DO (by omega) c2,k2];simp only[kR];rw[eL rfl (by omega)];exact⟨_,rfl⟩
theorem OY{b:Bk}{nm:List UInt8}{l:D}(hc1:l.calm=l)(hl:b.ai.length<=1000000):∀(k i:Nat),i+k=b.ai.length ->
  WL T [1,2,3,6,8] false nv [(1,.str nm),(2,l),(3,.own 0 (bR b)),(6,.own 0 zS),(8,iI i)] J
   (λx e J'=>J'=J/\if mu (b.ai.drop i) (λe=>e.m.name == nm)=true then x=.ret/\get e 6=.own 0 (bR b)/\get e 7=iI 6 else x=.exit 0/\get e 1=.str nm/\get e 2=l/\get e 3=.own 0 (bR b)/\get e 6=.own 0 zS)
 |0,i,hi=>by
  refine az nv.eq_1 ?_;obtain rfl:i=b.ai.length:=by omega
  have h2:b.ai.drop b.ai.length=[]:=an (by omega);have hn:=jW (f:=dY.enc) b.ai;rw[h2];simp[bR,hn,mu,hc1]
 |k+1,i,hi=>by
  refine az nv.eq_1 ?_;have⟨h1,h1'⟩:i<b.ai.length/\(i:Int)<b.ai.length:=by omega
  obtain⟨e,he⟩:=gE h1;have hne:b.ai≠[]:=λh=>by rw[h]at h1;simp at h1
  have h2:=Nq he;simp only[dY.enc]at h2;have h4:=cg h1;have hn:=jk (f:=dY.enc) hne;have ih:=OY (nm:=nm) hc1 hl k (i+1) (by omega);rw[bw he,show mu (e::b.ai.drop (i+1)) (λe=>e.m.name == nm)=((e.m.name == nm) || mu (b.ai.drop (i+1)) λe=>e.m.name == nm)from rfl];cases hc:e.m.name == nm
  .simp[fS,bR,hn,h1',h2,h4,hc,hc1];exact WL.to ih (by simp[bR,hn]) rfl λx e J hh=>by simpa[bR,hn,hc]using hh
  .simp[fS,bR,hn,h1',h2,hc,zS]
theorem V3{b:Bk}{m:b8}(hb:b.ready=true->b.aS.valid=true)(hl:b.ai.length<=1000000)(hw:b.eI.length=b.ai.length)(hn:m.name.length<=1000000000)(hv:m.du.length<=1000000000)(hJ:J≠[]):
  Cl 65 [.agg (bR b),.str m.name,lF m.du aP] (gn (pX b m)) J:=by
 refine au ?_;have hnp:=jW (f:=pE) b.aw;have hnm:=jW (f:=dY.enc) b.ai;by_cases h0:b.ready=true/\b.aw=[]
 case neg =>
  have hd:pX b m=(b,8):=if_neg h0;rw[hd];cases hr:b.ready
  .simp[bR,hr,gn];exact cK (b:=b) (by simp[bR,hr])
  .have hq:0<b.aw.length:=aH.2 λh=>h0 ⟨hr,h⟩
   simp[bR,hr,hnp,hq,gn];exact cK (b:=b) (by simp[bR,hr])
 have hd:pX b m=if(mu b.ai λe=>e.m.name == m.name)=true then(b,6)else if b.ai.length<40 then(if Bd b.aS m=true then(y9 b m,0)else(b,1))else(b,3):=by unfold pX;rw[if_pos h0]
 rw[hd];obtain⟨hr,hp⟩:=h0;have hq:¬0<b.aw.length:=by rw[hp];simp
 have hL:=OY (J:=[]::J) (b:=b) (nm:=m.name) (l:=lF m.du aP) rfl hl b.ai.length 0 (by omega);simp[bR,hr,hnp,hq];refine WL.to hL (by simp[bR,zS,hr]) rfl ?_;rintro x e J' ⟨rfl,h⟩;rw[aB]at h;cases hc:mu b.ai λe=>e.m.name == m.name
 case true =>
  rw[hc]at h;simp at h;obtain⟨rfl,g6,g7⟩:=h;simp[g6,g7,gn,fR,eF];exact cK (b:=b) rfl
 rw[hc]at h;simp at h;obtain⟨rfl,g1,g2,g3,g6⟩:=h;by_cases h1:b.ai.length<40
 case neg =>
  simp[g1,g2,g3,g6,bR,zS,hnm,show(40:Int)<=b.ai.length by omega,h1,gn];exact cK (b:=b) rfl
 have h1':¬(40:Int)<=b.ai.length:=by omega
 have hbv:=Bv.of (hb hr);have ht:b.aS.dP≠[]:=λh=>by have:=hbv.dP;rw[h]at this;simp[fK,bC]at this
 have hT:=jk (f:=Rw.enc) ht;have hC:=λJ=>Vr (J:=J) (b:=b.aS) (m:=m) (wq:=nl bG.enc b.aS.av) hbv (by omega) (by omega) kr
 cases h2:fits b.aS m
 .have hBd:Bd b.aS m=false:=by simp[Bd,h2]
  rw[h2]at hC;simp[g1,g2,g3,g6,bR,zS,hnm,h1',h1,hT,hC,hBd,gn];exact cK (b:=b) (by simp[bR,hT])
 .have hBd:Bd b.aS m=true:=by simp[Bd,h2,hb hr]
  rw[h2]at hC;have l1:=xF b.ai;have l2:=Hv b.eI;have l3:(fM b.ai dY.enc).take (b.ai.length*4)=fM b.ai dY.enc:=ah (by omega);have l4:(fM b.eI Dn.enc).take (b.eI.length*4)=fM b.eI Dn.enc:=ah (by omega);have⟨r1,r2,r3,r4,r5,r6⟩:b.ai.length*56<=room/\(b.ai.length+1)*56<=room/\b.eI.length*32<=room/\(b.eI.length+1)*32<=room/\56<=room/\32<=room:=by unfold room;omega
  by_cases hm:b.ai=[]
  .have hw0:b.eI=[]:=bu.1 (by rw[hw,hm];rfl);simp[g1,g2,g3,g6,bR,zS,hT,hC,hBd,hm,hw0,F3,r5,r6,gn];exact TE (b:=b) (b':=y9 b m) (ms:=[⟨m,true,0⟩]) (ws:=[⟨0,0,0,0⟩]) 0 1 1 hJ rfl rfl (by simp[bR,hT]) rfl rfl (by simp) (by simp) (by simp[bR,y9,hm,hw0,nl,ht])
  .have hwn:b.eI≠[]:=λh=>by rw[h]at hw;exact hm (bu.1 hw.symm)
   have e1:=jk (f:=dY.enc) hm;have e2:=jk (f:=Dn.enc) hwn;simp[g1,g2,g3,g6,bR,zS,h1',h1,hT,hC,hBd,hm,hwn,e1,e2,l1,l2,l3,l4,r1,r2,r3,r4,gn];exact TE (b:=b) (b':=y9 b m) (ms:=b.ai++[⟨m,true,0⟩]) (ws:=b.eI++[⟨0,0,0,0⟩]) 1 (b.ai.length+1) (b.eI.length+1) hJ rfl rfl (by simp[bR,hT]) (by simp) (by simp) (by simp) (by simp) (by simp[bR,y9,hT,H2])
theorem Wk{f:dD}{m:b8}{x:pU}(hm:Fm f m)(hx:ZN f x):∀(k i:Nat) (acc:Int),i+k=x.bl.length -> -(i*100000000)<=acc/\acc<=i*100000000 ->
  WL T [2,3,4,5,6,11,12] false m8 [(2,iI x.kind),(3,lF x.bl aP),(4,lF x.wt aP),(5,.bg (fL f)),(6,.bg (mL m)),(11,iI acc),(12,iI i)] J
   (λx' e J'=>J'=J/\x'=.exit 0/\get e 11=iI (Qy m.du (x.kind*f.size) acc (x.bl.drop i) (x.wt.drop i))):=by
 intro k;induction k with
 |zero =>
  intro i acc hi ha;refine az m8.eq_1 ?_;have h1:¬i<x.bl.length:=by omega
  have h2:x.bl.drop i=[]:=an (by omega);simp[h1,h2,Qy]
 |succ k ih0 =>
  intro i acc hi ha;refine az m8.eq_1 ?_;have h1:i<x.bl.length:=by omega
  have hlen:=hx.len;have h1':i<x.wt.length:=by omega
  obtain⟨b,hb⟩:=gE h1;obtain⟨w,hw⟩:=gE h1';obtain⟨q1,q2⟩:=BK hm.fv;obtain⟨z1,z2,z3,z4,z5⟩:=dD.nI.1 hm.fv;obtain⟨s1,s2,s3⟩:=Lc hx.aaU hb hw;have hl64:=Ig hx.len hx.aaU (by omega);have h4:=cg h1;have h5:=bw hb;have h6:=bw hw;have h2:=gq hb;have h3:=gq hw;have k1:=hx.kind;have k2:0<=x.kind*f.size/\x.kind*f.size+f.size<=f.k*f.size:=by
   refine⟨bz k1.1 (by omega),?_⟩;have:=dR (show x.kind+1<=f.k by omega) (show 0<=f.size by omega);rw[Int.add_mul]at this;omega
  have hvl:=hm.len;obtain⟨j,hj⟩:∃j:Nat,x.kind*f.size+b=j:=⟨(x.kind*f.size+b).toNat,by omega⟩;have hj1:j<m.du.length:=by omega
  obtain⟨v,hv⟩:=gE hj1;have hvb:=hm.ok v (aj hv);have h7:=gq hv;have hB:=λJ=>pc (J:=J) hm.fv
  have b1:=RF (a:=w) (b:=v) (A:=1000) (B:=100000) (by omega) hvb (by omega);have w1:=cb (n:=x.kind*f.size);have w2:=cb (n:=(j:Int));have w3:=cb (n:=w*v);have w4:=cb (n:=acc+w*v);have ih:=ih0 (i+1) (acc+w*v) (by omega) (by omega);rw[h5,h6,Qy,hj];simp only[Int.toNat_natCast];simp[h1,h1',h2,h3,h4,hB,w1,w2,w3,w4,hj,hj1,h7];exact WL.to ih (by simp) rfl λx e J hh=>by simpa[hv]using hh
theorem acB{f:dD}{m:b8}{x:pU}(hm:Fm f m)(hx:ZN f x):Cl 96 [.agg (fL f),.agg (mL m),.agg x.enc] (iI (zt f m x)) J:=by
 have hT:∀J,Cl 138 [.agg (fL f),.agg (mL m),iI x.kind,lF x.bl aP,lF x.wt aP] (iI (zt f m x)) J:=by
  intro J;refine au ?_;simp[];refine WL.to (Wk (J:=[]::J) hm hx x.bl.length 0 0 (by omega) (by simp)) (by simp) rfl ?_;rintro x' e J' ⟨rfl,rfl,g⟩;simp[g,zt]
 refine au ?_;simp only[pU.enc];simp[hT]
theorem Wu{ps:List (Int×Int)}(hps:ps.length<=1000000){nm:List UInt8}{k lo hi:Int}{C hd:List D}{atv:Int}(h3':hd.length=3):∀(m j:Nat),j+m=ps.length ->
  WL T [1,3,4,8,10,11] false pv [(1,.int .i64 atv),(3,.bV (ps.length*2+3) (hd++fM ps tu)),(4,.bg C),(8,.own 0 zS),(10,.own 0 [.str nm,.int .i64 k,.sl J.length 0 j 0 j 1,.sl J.length 1 j 0 j 1,.int .i64 lo,.int .i64 hi]),(11,.int .i64 (j*2+3))]
   ([.cells j (fM ((ps.take j).map (·.1)) aP),.cells j (fM ((ps.take j).map (·.2)) aP)]::J)
   (λx e J'=>x=.exit 0/\get e 1=.int .i64 atv/\get e 3=.bV (ps.length*2+3) (hd++fM ps tu)/\get e 4=.bg C/\get e 8=.own 0 zS/\get e 10=.own 0 [.str nm,.int .i64 k,.sl J.length 0 ps.length 0 ps.length 1,.sl J.length 1 ps.length 0 ps.length 1,.int .i64 lo,.int .i64 hi] /\
    J'=[.cells ps.length (fM (ps.map (·.1)) aP),.cells ps.length (fM (ps.map (·.2)) aP)]::J)
 |0,j,h=>by
  refine az pv.eq_1 ?_;obtain rfl:j=ps.length:=by omega
  simp[-List.map_take]
 |m+1,j,h=>by
  refine az pv.eq_1 ?_;have⟨h1,h2,h3,h0,h0'⟩:j<ps.length/\(j:Int)*2+3<(ps.length:Int)*2+3/\(j:Int)*2+3+1<(ps.length:Int)*2+3/\0<=(j:Int)*2+3/\0<=(j:Int)*2+3+1:=by omega
  obtain⟨p,hp⟩:=gE h1;have d0:=pP (f:=tu) (w:=2) (λ_=>rfl) hp;have d1:(hd++fM ps tu).drop (j*2+3)=.int .i64 p.1::.int .i64 p.2::(fM ps tu).drop (j*2+2):=by
   rw[List.drop_append,an (by omega),h3',show j*2+3-3=j*2 by omega,d0];rfl
  have d2:(hd++fM ps tu).drop (j*2+3+1)=.int .i64 p.2::(fM ps tu).drop (j*2+2):=by
   have:=congrArg (List.drop 1) d1;simpa[qG,dc]using this
  have⟨t1,t2⟩:((j:Int)*2+3).toNat=j*2+3/\((j:Int)*2+3+1).toNat=j*2+3+1:=by omega
  have w1:=cb (n:=(j:Int)*2+3+1);have w2:=cb (n:=(j:Int)*2+3+2);have hl:(ps.take j).length=j:=by simp[];omega
  have hr:(j+1)*8<=room:=by unfold room;omega
  have ha:=pO ((ps.take j).map (·.1));have hb:=pO ((ps.take j).map (·.2));simp only[bH,hl]at ha hb;have ta:(fM ((ps.take j).map (·.1)) aP).take j=fM ((ps.take j).map (·.1)) aP:=ah (by omega);have tb:(fM ((ps.take j).map (·.2)) aP).take j=fM ((ps.take j).map (·.2)) aP:=ah (by omega);have ih:=Wu hps (nm:=nm) (k:=k) (lo:=lo) (hi:=hi) (C:=C) (atv:=atv) h3' m (j+1) (by omega);have htk:ps.take (j+1)=ps.take j++[p]:=by rw[List.take_add_one,hp];rfl
  rw[htk,show((j+1:Nat):Int)*2+3=(j:Int)*2+3+2 by omega]at ih;simp[-List.map_take,h0,h0',h2,h3,t1,t2,d1,d2,w1,w2,hr,ha,hb,ta,tb];exact WL.to ih (by simp[]) (by simp[]) λx e J' hh=>hh
def iP(vs:List Int)(i m:Nat):List D:=fM (vs.take i++List.replicate m 0) aP
theorem S6{vs:List Int}{i m:Nat}{v:Int}(h:i+(m+1)=vs.length)(hv:vs[i]?=some v):
  (iP vs i (m+1)).length=vs.length/\(iP vs i (m+1)).take i++(iI v::(iP vs i (m+1)).drop (i+1))=iP vs (i+1) m:=by
 have hlen:(vs.take i++List.replicate (m+1) (0:Int)).length=vs.length:=by simp;omega
 have f1:=bZ (f:=aP) (w:=1) (λ_=>rfl) (vs.take i++List.replicate (m+1) (0:Int));have s1:∀{o:List Int} {i:Nat},i<o.length->(fM o aP).take i++(iI v::(fM o aP).drop (i+1))=fM (o.set i v) aP:=λh=>Go.Trem.aah h v
 have s1:=s1 (o:=vs.take i++List.replicate (m+1) (0:Int)) (i:=i) (by rw[hlen];omega);have s2:=Yu (acc:=vs.take i) (k:=m) (v:=v);rw[show(vs.take i).length=i by simp;omega]at s2;rw[s2]at s1;unfold iP;refine⟨by omega,?_⟩;rw[s1,List.take_add_one,hv];rfl
theorem Mf{vs:List Int}:iP vs 0 vs.length=fM (List.range vs.length) λ_=>[iI 0]:=by
 rw[show(fM (List.range vs.length) λ_=>[iI 0])=fM (List.replicate vs.length (0:Int)) aP from Go.Trem.Vf _];simp[iP]
theorem Pm{vs:List Int}:iP vs vs.length 0=fM vs aP:=by simp[iP]
theorem OX{b:Bk}{x:pU}{atv:Int}{L:D}(hL:L.calm=L)(hl:b.ai.length<=1000000)(hms:∀e∈b.ai,Fm b.aS.f e.m)(hx:ZN b.aS.f x):∀(m i:Nat),i+m=b.ai.length ->
  WL T [1,3,4,8,10,13,14] false ot [(1,iI atv),(3,L),(4,.bg (bR b)),(8,.own 0 zS),(10,.own 0 x.enc),(13,.sl J.length 2 0 0 b.ai.length 1),(14,iI i)]
   ([.dead,.dead,.cells 0 (iP (b.ai.map λe=>zt b.aS.f e.m x) i m)]::J)
   (λy e J'=>y=.exit 2/\get e 1=iI atv/\get e 3=L/\get e 4=.bg (bR b)/\get e 8=.own 0 zS/\get e 13=.sl J.length 2 0 0 b.ai.length 1/\J'=[.dead,.dead,.cells 0 (fM (b.ai.map λe=>zt b.aS.f e.m x) aP)]::J)
 |0,i,hi=>by
  refine az ot.eq_1 ?_;obtain rfl:i=b.ai.length:=by omega
  have hn:=jW (f:=dY.enc) b.ai;have hf:=Pm (vs:=b.ai.map λe=>zt b.aS.f e.m x);rw[bH]at hf;rw[hf];simp[bR,hn,hL]
 |m+1,i,hi=>by
  refine az ot.eq_1 ?_;have⟨h1,h1'⟩:i<b.ai.length/\(i:Int)<b.ai.length:=by omega
  obtain⟨e,he⟩:=gE h1;have hne:b.ai≠[]:=λh=>by rw[h]at h1;simp at h1
  have h2:=Nq he;simp only[dY.enc]at h2;have h4:=cg h1;have hn:=jk (f:=dY.enc) hne;have ih:=OX hL hl hms hx (atv:=atv) m (i+1) (by omega);have hS:=λJ=>acB (J:=J) (hms e (aj he)) hx
  obtain⟨f1,f2⟩:=S6 (vs:=b.ai.map λe=>zt b.aS.f e.m x) (i:=i) (m:=m) (v:=zt b.aS.f e.m x) (by simp;omega) (by simp[he]);rw[bH]at f1;have hi1:i+1<=b.ai.length:=by omega
  simp only[pU.enc]at hS ih ⊢;simp[bR,hn,h1',h2,h4,hS,hL,f1,f2,hi1];exact WL.to ih (by simp[bR,hn]) (by simp) λx e J hh=>by simpa[bR,hn]using hh
theorem acQ{b:Bk}{nm:List UInt8}{k lo hi:Int}{ps:List (Int×Int)}(hps:ps.length<=1000000)(hnm:nm.length<=1000000000)(hw:b.eI.length=b.ai.length)(hml:b.ai.length<=40)(hf:b.ai≠[]->b.aS.f.valid=true)(hms:∀e∈b.ai,Fm b.aS.f e.m)(hJ:J≠[]):
  Cl 66 [.agg (bR b),iI b.at_,.str nm,.bV (ps.length*2+3) (iI k::iI lo::iI hi::fM ps tu)] (gn (CX b (eM nm k lo hi ps))) J:=by
 refine au ?_;have hn:=jW (f:=dY.enc) b.ai;have hcl:=mm (b:=b);by_cases h0:b.ai=[]
 .have hd:CX b (eM nm k lo hi ps)=(b,8):=if_pos h0;have hE:nl dY.enc b.ai=.bA:=by simp[nl,h0]
  rw[hd];simp only[bR,hE]at hcl;simp[bR,hE,hcl,gn]
 have hE:=jk (f:=dY.enc) h0
 try simp only[lF]at hE
 have hfv:=hf h0;have hd:CX b (eM nm k lo hi ps)=if rL b.aS.f (eM nm k lo hi ps)=0 then(gW b lo hi λm=>zt b.aS.f m (eM nm k lo hi ps),0)else(b,rL b.aS.f (eM nm k lo hi ps)):=if_neg h0
 have hck:rL b.aS.f (eM nm k lo hi ps)=b.aS.f.measure (eM nm k lo hi ps):=if_pos hfv;rw[hck]at hd;rw[hd];have⟨q0,q1,q2⟩:(0:Int)<(ps.length:Int)*2+3/\(1:Int)<(ps.length:Int)*2+3/\(2:Int)<(ps.length:Int)*2+3:=by omega
 have hL:=Wu (J:=J) hps (nm:=nm) (k:=k) (lo:=lo) (hi:=hi) (C:=bR b) (atv:=b.at_) (hd:=[iI k,iI lo,iI hi]) rfl ps.length 0 (by omega);have hC:=λJ=>Ow (J:=J) (l:=[eM nm k lo hi ps]) hfv (by intro m hm;simp at hm;subst hm;exact⟨by simp[eM];omega,by simp[eM];omega⟩) (by simp)
 try simp only[lF,Cl,fL]at hC
 have hM1:b.aS.f.wy [eM nm k lo hi ps]=b.aS.f.measure (eM nm k lo hi ps):=by
  simp only[dD.wy,dD.yb];by_cases h:b.aS.f.measure (eM nm k lo hi ps)=0<;>simp[h]
 rw[hM1]at hC;have hq:¬((b.ai.length:Int)=0):=by have:=aH.2 h0;omega
 simp only[bR,hE]at hcl;simp[bR,hE,h0,q0,q1,q2];refine WL.to hL (by simp[bR,hE,zS]) (by simp) ?_;rintro x e J' ⟨rfl,g1,g3,g4,g8,g10,rfl⟩;have cli:∀x:Int,D.bf (aP x)=true:=λ_=>by simp[aP,D.clean]
 have f1:=qX (f:=aP) (w:=1) (λ_=>rfl) cli (l:=ps.map (·.1)) (j:=0) (v:=ps.length) (bs:=[.cells ps.length (fM (ps.map (·.1)) aP),.cells ps.length (fM (ps.map (·.2)) aP)]) (J:=J) hJ rfl
 try simp only[]at f1
 have f2:=qX (f:=aP) (w:=1) (λ_=>rfl) cli (l:=ps.map (·.2)) (j:=1) (v:=ps.length) (bs:=[.dead,.cells ps.length (fM (ps.map (·.2)) aP)]) (J:=J) hJ rfl
 try simp only[]at f2
 simp at f1 f2;simp[eM]at hC;by_cases h1:b.aS.f.measure (eM nm k lo hi ps)=0
 case neg =>
  rw[if_neg h1];have h1':=h1;simp only[eM]at h1';simp[g1,g3,g4,g8,g10,f1,f2,hC,bR,hE,zS,h1',gn];exact cK (b:=b) (by simp[bR,hE])
 rw[if_pos h1];have hx:=ZN.of h1;have hLv:=OX (J:=J) (b:=b) (x:=eM nm k lo hi ps) (atv:=b.at_) (L:=.bV (ps.length*2+3) (iI k::iI lo::iI hi::fM ps tu)) rfl (by omega) hms hx b.ai.length 0 (by omega);have hS:=λJ hJ=>LQ (J:=J) (b:=b) (lo:=lo) (hi:=hi) (val:=λm=>zt b.aS.f m (eM nm k lo hi ps)) (vs:=b.ai.map λe=>zt b.aS.f e.m (eM nm k lo hi ps)) h0 hw hml (by simp) (by
  intro i e v he hv;simp[he]at hv;subst hv;intro _;exact⟨rfl,λ_=>rfl⟩) hJ
 have hz:=Mf (vs:=b.ai.map λe=>zt b.aS.f e.m (eM nm k lo hi ps));rw[bH]at hz;rw[hz]at hLv;have h1':=h1;simp only[eM]at h1';have r1:(b.ai.length:Int)*8<=room:=by unfold room;omega
 simp[g1,g3,g4,g8,g10,f1,f2,hC,bR,hE,h1',r1];refine WL.to hLv (by simp[bR,hE,eM]) (by simp) ?_;rintro x e J' ⟨rfl,g1,g3,g4,g8,g13,rfl⟩;have f3:=qX (f:=aP) (w:=1) (λ_=>rfl) cli (l:=b.ai.map λe=>zt b.aS.f e.m (eM nm k lo hi ps)) (j:=2) (v:=0) (bs:=[.dead,.dead,.cells 0 (fM (b.ai.map λe=>zt b.aS.f e.m (eM nm k lo hi ps)) aP)]) (J:=J) hJ rfl;simp only[lF,Cl,bH]at f3 hS;simp[g1,g3,g4,g8,g13,f3,hS,q1,q2,fR,eF,Er,As,gn];exact cK (b:=gW b lo hi λm=>zt b.aS.f m (eM nm k lo hi ps)) rfl
end
section
section
open Go Go.Abs Go.Trem
open Go.Book (nl)
variable {J:SK}
theorem WH{α:Type}{p:α->Bool}:dh [] p=true:=rfl
theorem WJ{α:Type}{p:α->Bool}:mu [] p=false:=rfl
theorem Um{α:Type}{x:α}{l:List α}{p:α->Bool}:mu (x::l) p=(p x || mu l p):=rfl
theorem NF{α:Type}{f:α->List D}{w:Nat}(hw:∀x,(f x).length=w){l:List α}{i:Nat}{x:α}(h:l[i]?=some x):PJ w (nl f l) (iI i)=some (.bg (f x)):=by
 have h1:i<l.length:=(aC.1 h).1;rw[jk (λhh=>by rw[hh]at h1;simp at h1)];simp[h1,bd hw h]
theorem LH{a b c x y z u v w:Int}:Cl 195 [.agg [iI a,iI b,iI c],.agg [iI x,iI y,iI z],.agg [iI u,iI v,iI w]] (.bool (bC a x u && (bC b y v && bC c z w))) J:=by
 refine au ?_;cases hc1:bC a x u
 .simp[xz,hc1]
 cases hc2:bC b y v
 .simp[xz,hc1,hc2]
 simp[xz,hc1,hc2]
theorem TV{r:cH}{s:pV}:Cl 158 [.agg r.enc,.agg s.enc] (.bool (r.Jh s)) J:=by
 refine au ?_;have ho:r.Jh s=(decide (r.least<=s.mag) && (bC s.p.x r.lo.x r.hi.x && (bC s.p.y r.lo.y r.hi.y && bC s.p.z r.lo.z r.hi.z))):=rfl;rw[ho];cases c:(bC s.p.x r.lo.x r.hi.x && (bC s.p.y r.lo.y r.hi.y && bC s.p.z r.lo.z r.hi.z))
 .simp[LH,c]
 .by_cases h:r.least<=s.mag<;>simp[LH,c,h]
theorem OR{r:cH}{l:List Ev}{i:Nat}{e0:Ev}(he:l[i]?=some e0)(hs:e0.sp.length<=9223372036854775807){now:Int}{all:Bool}{n:Int}:∀(m k:Nat) (a b:Bool),k+m=e0.sp.length ->
  WL T [1,2,3,4,9,10,11,12,13] false nk [(1,nl Ev.enc l),(2,iI now),(3,.bool all),(4,.bg r.enc),(9,iI n),(10,iI i),(11,.bool a),(12,.bool b),(13,iI k)] J
   (λx e J'=>x=.exit 2/\J'=J/\get e 1=nl Ev.enc l/\get e 2=iI now/\get e 3=.bool all/\get e 4=.bg r.enc/\get e 9=iI n/\get e 10=iI i/\get e 11=.bool (a || mu (e0.sp.drop k) r.Jh)/\get e 12=.bool (b && dh (e0.sp.drop k) r.Jh))
 |0,k,a,b,hk=>by
  refine az nk.eq_1 ?_;have g1:i<l.length:=(aC.1 he).1;have a1:=NF (f:=Ev.enc) (w:=2) (λ_=>rfl) he;have h1:¬k<e0.sp.length:=by omega
  have h2:e0.sp.drop k=[]:=by simp;omega
  simp[a1,h1,h2,WJ,WH]
 |m+1,k,a,b,hk=>by
  refine az nk.eq_1 ?_;have g1:i<l.length:=(aC.1 he).1;have a1:=NF (f:=Ev.enc) (w:=2) (λ_=>rfl) he;have h1:k<e0.sp.length:=by omega
  obtain⟨x,hx⟩:=gE h1;have h2:=bd (f:=pV.enc) (w:=4) (λ_=>rfl) hx;have h6:=cg h1;have ih:=OR (now:=now) (all:=all) (n:=n) (r:=r) he hs m (k+1) (a || r.Jh x) (b && r.Jh x) (by omega);have hC:=λJ=>@TV J r x
  simp only[cH.enc,pV.enc]at hC;rw[bw hx,Um,Bg,<- Bool.or_assoc,<- Bool.and_assoc];cases a<;>cases b<;>cases c:r.Jh x<;>simp only[c]at hC ih<;>simp[a1,h1,h2,h6,hC]<;>exact(WL.to ih (by simp) rfl λx e J' hh=>by simpa[c]using hh)
def Df(r:cH)(now:Int)(all:Bool)(e:Ev):Bool:=if all then mA r now e else tj r now e
theorem Sy{r:cH}(hr:r.ok=true){l:List Ev}(hl:l.length<=200)(hs:∀e∈l,e.sp.length<=2000){now:Int}(hn:bC now 0 1000000=true){all:Bool}:∀(m i:Nat) (n:Nat),i+m=l.length->n+m<=200 ->
  WL T [1,2,3,4,9,10] false nq [(1,nl Ev.enc l),(2,iI now),(3,.bool all),(4,.bg r.enc),(9,iI n),(10,iI i)] J
   (λx e J'=>x=.exit 0/\J'=J/\get e 4=.bg r.enc/\get e 9=iI (n+zx (Df r now all) (l.drop i):Nat))
 |0,i,n,hi,hb=>by
  refine az nq.eq_1 ?_;have h1:¬i<l.length:=by omega
  have h2:l.drop i=[]:=by simp;omega
  simp[h1,h2,zx]
 |m+1,i,n,hi,hb=>by
  refine az nq.eq_1 ?_;have g1:i<l.length:=by omega
  obtain⟨e0,he⟩:=gE g1;have a1:=NF (f:=Ev.enc) (w:=2) (λ_=>rfl) he;have hse:=hs e0 (aj he);have h6:=cg g1;have hr':=zj.1 hr;have hn':=aR.1 hn;have w2:=cb (n:=now-r.uX);have w3:=cb (n:=now-r.uX+1);have w4:=cb (n:=(n:Int)+1);have d1:zx (Df r now all) (l.drop i)=zx (Df r now all) (l.drop (i+1))+(if Df r now all e0 then 1 else 0):=by rw[bw he];rfl
  have ih:=λn h=>Sy hr hl hs hn (all:=all) m (i+1) n (by omega) h
  have hact:r.act now e0=bC e0.tick (now-r.uX+1) now:=by
   unfold cH.act bC;congr 1
  have k1:∀u v:Nat,u+1+v=u+(v+1):=by intro u v;omega
  rw[d1];cases c1:bC e0.tick (now-r.uX+1) now
  .have e1:Df r now all e0=false:=by simp[Df,tj,mA,hact,c1]
   simp[g1,a1,h6,w2,w3,xz,c1];exact WL.to (ih n (by omega)) (by simp) rfl λx e J' hh=>by simpa[e1]using hh
  .have e1:Df r now all e0=if all then dh e0.sp r.Jh else mu e0.sp r.Jh:=by simp[Df,tj,mA,hact,c1]
   simp[g1,a1,w2,w3,xz,c1];refine WL.to (OR (J:=J) (now:=now) (all:=all) (n:=n) (r:=r) he (by omega) e0.sp.length 0 false true (by omega)) (by simp) rfl ?_;rintro x e J' ⟨rfl,rfl,f1,f2,f3,f4,f9,f10,f11,f12⟩;simp only[aB,Bool.false_or,Bool.true_and]at f11 f12;have ih0:=ih n (by omega);have ih1:=ih (n+1) (by omega);cases all
   .simp only[aD,if_false]at e1;cases c2:mu e0.sp r.Jh
    .rw[c2]at f11 e1;simp[f1,f2,f3,f4,f9,f10,f11,h6];exact WL.to ih0 (by simp) rfl λx e J' hh=>by simpa[e1]using hh
    .rw[c2]at f11 e1;simp[f1,f2,f3,f4,f9,f10,f11,h6,w4];exact WL.to ih1 (by simp) rfl λx e J' hh=>by simp only[k1]at hh;simpa[e1]using hh
   .simp only[if_true]at e1;cases c2:dh e0.sp r.Jh
    .rw[c2]at f12 e1;simp[f1,f2,f3,f4,f9,f10,f12,h6];exact WL.to ih0 (by simp) rfl λx e J' hh=>by simpa[e1]using hh
    .rw[c2]at f12 e1;simp[f1,f2,f3,f4,f9,f10,f12,h6,w4];exact WL.to ih1 (by simp) rfl λx e J' hh=>by simp only[k1]at hh;simpa[e1]using hh
theorem Si{r:cH}(hr:r.ok=true){l:List Ev}(hl:l.length<=200)(hs:∀e∈l,e.sp.length<=2000){now:Int}(hn:bC now 0 1000000=true){all:Bool}:
  Cl 122 [.agg r.enc,nl Ev.enc l,iI now,.bool all] (.int .u8 (if r.count<=zx (Df r now all) l then r.Ni else 0)) J:=by
 refine au ?_;simp[];refine WL.to (Sy (J:=[]::J) hr hl hs hn (all:=all) l.length 0 0 (by omega) (by omega)) (by simp) rfl ?_;rintro x e J' ⟨rfl,rfl,e4,e9⟩;simp only[aB,cq]at e9;by_cases c:r.count<=zx (Df r now all) l<;>simp[e4,e9,c]
theorem KD{f:cH->Ev->Bool}{l:List Ev}{r:cH}(hr:r.ok=true){a:Int}(ha:0<=a):max a (if r.count<=zx (f r) l then r.Ni else 0)=if r.count<=zx (f r) l then max a r.Ni else a:=by
 split
 .rfl
 .omega
theorem OO{R:List cH}(hR:R.length<=20)(hr:∀r∈R,r.ok=true){l:List Ev}(hl:l.length<=200)(hs:∀e∈l,e.sp.length<=2000){now:Int}(hn:bC now 0 1000000=true):∀(m i:Nat) (a b:Int),i+m=R.length->0<=a->0<=b ->
  WL T [0,1,2,8,9,10] false nj [(0,nl cH.enc R),(1,nl Ev.enc l),(2,iI now),(8,.int .u8 a),(9,.int .u8 b),(10,iI i)] J
   (λx e J'=>x=.exit 0/\J'=J/\get e 8=.int .u8 (vo (λr=>tj r now) l (R.drop i) a)/\get e 9=.int .u8 (vo (λr=>mA r now) l (R.drop i) b))
 |0,i,a,b,hi,ha,hb=>by
  refine az nj.eq_1 ?_;have h1:¬i<R.length:=by omega
  have h2:R.drop i=[]:=by simp;omega
  simp[h1,h2,vo]
 |m+1,i,a,b,hi,ha,hb=>by
  refine az nj.eq_1 ?_;have g1:i<R.length:=by omega
  obtain⟨r,hri⟩:=gE g1;have a1:=NF (f:=cH.enc) (w:=10) (λ_=>rfl) hri;have hrr:=hr r (aj hri);have h6:=cg g1;have s0:=λJ=>@Si J r hrr l hl hs now hn false
  have s1:=λJ=>@Si J r hrr l hl hs now hn true
  have q0:Df r now false=tj r now:=rfl;have q1:Df r now true=mA r now:=rfl;rw[q0]at s0;rw[q1]at s1;simp only[cH.enc]at s0 s1;have m0:=KD (f:=λr=>tj r now) (l:=l) hrr ha;have m1:=KD (f:=λr=>mA r now) (l:=l) hrr hb;have hc:=(zj.1 hrr).2.2.2.2;have ih:=OO hR hr hl hs hn m (i+1) (if r.count<=zx (tj r now) l then max a r.Ni else a) (if r.count<=zx (mA r now) l then max b r.Ni else b) (by omega) (by split<;>omega) (by split<;>omega);rw[bw hri];simp[g1,a1,h6,s0,s1,m0,m1];exact WL.to ih (by simp) rfl λx e J' hh=>hh
theorem Vu{R:List cH}(hR:R.length<=20)(hr:∀r∈R,r.ok=true){l:List Ev}(hl:l.length<=200)(hs:∀e∈l,e.sp.length<=2000){now:Int}(hn:bC now 0 1000000=true):
  Cl 77 [nl cH.enc R,nl Ev.enc l,iI now] (.cN [.int .u8 (MB R l now),.int .u8 (Oi R l now)]) J:=by
 refine au ?_;simp[];refine WL.to (OO (J:=[]::J) hR hr hl hs hn R.length 0 0 0 (by omega) (by omega) (by omega)) (by simp) rfl ?_;rintro x e J' ⟨rfl,rfl,e8,e9⟩;simp only[aB]at e8 e9;simp[e8,e9,MB,Oi]
end
end
section
open Go Go.Abs Go.Rock Go.Book
variable {J:SK}
structure Lit(b:Bk):Prop where
 rl:b.rules.length<=20
 rok:∀r∈b.rules,r.ok=true
 el:b.pY.length<=200
 eok:∀e∈b.pY,e.ok=true
 pl:b.aw.length<=200
theorem LG{b:Bk}(h:Lit b):Cl 47 [.agg (bR b)] (.int .u8 (eg b)) J:=by
 refine au ?_;have hn:=jW (f:=pE) b.aw;have hnow:Trem.bC b.aw.length 0 1000000=true:=by have:=h.pl;simp[Trem.bC];omega
 have hL:=λJ=>Vu (J:=J) h.rl h.rok h.el (λe he=>by have:=h.eok e he;simp only[Trem.Ev.ok,af,Trem.aR]at this;omega) hnow
 have hc:eg b=Trem.MB b.rules b.pY b.aw.length:=by
  have h1:Trem.kZ b.rules b.pY b.aw.length=0:=by
   have a1:=eQ.2 h.rok;have a2:=eQ.2 h.eok;have:=h.rl;have:=h.el;simp[Trem.kZ,a1,a2,hnow,show ¬20<b.rules.length by omega,show ¬200<b.pY.length by omega]
  unfold eg;rw[if_pos h1]
 rw[hc];have hcl:=mm (b:=b);simp only[bR]at hcl;simp[bR,hn,hL]
theorem O0{l:List Int}{jt:Int}(hk:0<=jt/\jt<=1000)(hl:l.length<=1000000)(hr:∀n∈l,-100000<=n/\n<=100000):∀(m i:Nat),i+m=l.length ->
  WL T [1,5,6,7] false nr [(1,.bV l.length (fM l aP)),(5,.int .i64 jt),(6,.sl J.length 0 i 0 i 1),(7,.int .i64 i)] ([.cells i (fM ((l.take i).map (ji jt)) aP)]::J)
   (λx e J'=>x=.exit 0/\get e 6=.sl J.length 0 l.length 0 l.length 1/\J'=[.cells l.length (fM (l.map (ji jt)) aP)]::J)
 |0,i,hi=>by
  refine az nr.eq_1 ?_;obtain rfl:i=l.length:=by omega
  simp[-List.map_take]
 |m+1,i,hi=>by
  refine az nr.eq_1 ?_;have h1:i<l.length:=by omega
  obtain⟨n,hn⟩:=gE h1;have h4:=cg h1;have a1:=bd (f:=aP) (w:=1) (λ_=>rfl) hn;simp only[aP,bX]at a1;have hb:=hr n (aj hn);have ih:=O0 hk hl hr m (i+1) (by omega);rw[List.take_add_one,hn]at ih;have hl1:(l.take i).length=i:=by simp[];omega
  have ha:=pO ((l.take i).map (ji jt));simp only[bH,hl1]at ha;have ta:(fM ((l.take i).map (ji jt)) aP).take i=fM ((l.take i).map (ji jt)) aP:=ah (by omega);have hrm:(i+1)*8<=room:=by unfold room;omega
  by_cases hc:n<0
  .have b1:=RF (a := -n) (b:=jt) (A:=100000) (B:=1000) (by omega) (by omega) (by omega);have b2:0 <= -n*jt:=bz (by omega) hk.1;have w1:=cb (n := -n);have w2:=cb (n := -n*jt);have t1:(-n*jt).tdiv 1000 = -n*jt / 1000:=aO b2;have w3:=cb (n:=(-n*jt).tdiv 1000) (by rw[t1];omega);have w4:=cb (n := -(-n*jt).tdiv 1000) (by rw[t1];omega);have hrt:ji jt n = -(-n*jt).tdiv 1000:=if_pos hc;generalize hz:(-n*jt).tdiv 1000=z at *
   simp[-List.map_take,h1,a1,h4,hc,w1,w2,w3,w4,hrm,ha,ta,hz];exact WL.to ih (by simp[]) (by simp[hrt,aP]) λx e J' hh=>hh
  .have hrt:ji jt n=n:=if_neg hc;simp[-List.map_take,h1,a1,h4,hc,hrm,ha,ta];exact WL.to ih (by simp[]) (by simp[hrt,aP]) λx e J' hh=>hh
theorem TX{b:Bk}{l:List Int}(h:Lit b)(hk:Trem.fw b.k0 b.k1 b.k2=true)(hl:l.length<=1000000)(hr:∀n∈l,-100000<=n/\n<=100000)(hJ:J≠[]):
  Cl 100 [.agg (bR b),lF l aP] (.bV l.length (fM (l.map (ji (mH b))) aP)) J:=by
 refine au ?_;have hC:=λJ=>LG (J:=J) h
 have hcl:=mm (b:=b);simp only[Trem.fw,af,aA]at hk;obtain⟨c1,c2⟩:=Bh (b:=b);have hkp:0<=mH b/\mH b<=1000:=by unfold mH;split<;>(try split)<;>omega
 have hcell:List.take 1 (List.drop (eg b).toNat [iI b.k0,iI b.k1,iI b.k2,nl o8.enc b.cJ,nl HA.enc b.cA,D.bool b.ready,nl Dn.enc b.eI])=[iI (mH b)]:=by
  unfold mH;have:eg b=0\/eg b=1\/eg b=2:=by omega
  rcases this with h | h | h<;>rw[h]<;>rfl
 simp only[bR]at hcl hC;simp[bR,hC,c1,show eg b<3 by omega,hcell];refine WL.to (O0 (J:=J) hkp hl hr l.length 0 (by omega)) (by simp) (by simp) ?_;rintro x e J' ⟨rfl,g6,rfl⟩;have hk:=lD (n:=16) (f:=aP) (w:=1) (l:=l.map (ji (mH b))) (j:=0) (v:=l.length) (bs:=[.cells l.length (fM (l.map (ji (mH b))) aP)]) (by decide) (λ_=>rfl) (λx=>by simp[aP,D.clean]) hJ rfl;rw[bH]at hk;simp[g6,hk]
structure Kr(n:Nat)(b:Bk):Prop where
 kv:Kv n b
 rok:∀r∈b.rules,r.ok=true
theorem Kr.lit{n:Nat}{b:Bk}(h:Kr n b):Lit b:=⟨h.kv.rules,h.rok,h.kv.pY,h.kv.K5,(jX h.kv.pl).1⟩
theorem Kr.valid{n:Nat}{b:Bk}(h:Kr n b)(hm:b.ai≠[]):b.aS.valid=true:=h.kv.ready (h.kv.ms hm)
theorem NA{l:List dY}(h:cc l≠[]):l≠[]:=λh2=>h (by rw[h2];rfl)
theorem Mw{l:List dY}{m:b8}(h:m∈gS l):∃e∈l,e.left=true/\e.m=m:=by
 obtain⟨e,he,rfl⟩:=bI.1 h;exact⟨e,(G7 he).1,(G7 he).2,rfl⟩
theorem FV{α β:Type}{f:α->Int}{g:β->α}:∀{l:List β},bT f (l.map g)=bT (λx=>f (g x)) l
 |[]=>rfl
 |x::l=>by simp only[aM,bT,FV (l:=l)]
theorem SL{b:Bk}{M:List b8}{aw:List (List Int)}{R:List D}(hR:R=bR b)(ht:b.aS.dP≠[])(hM:∀m∈M,Bd b.aS m=true)(hl:M.length<=40)(hp:tg b.aS aw=0):∀(k i:Nat),i+k=M.length ->
  WL T [2,4,7,8,9] false nA [(2,.own 0 R),(4,.own 0 zS),(7,lF aw pE),(8,lF M b8.enc),(9,iI i)] ([.dead]::J)
   (λx e J'=>J'=[.dead]::J/\if bT (λm=>lG b.aS m aw) (M.drop i)=0 then x=.exit 0/\get e 2=.own 0 R/\get e 4=.own 0 zS/\get e 7=lF aw pE
    else x=.ret/\get e 4=.own 0 R/\get e 5=iI (bT (λm=>lG b.aS m aw) (M.drop i)))
 |0,i,hi=>by
  refine az nA.eq_1 ?_;obtain rfl:i=M.length:=by omega
  have h2:M.drop M.length=[]:=an (by omega);simp[h2,bT]
 |k+1,i,hi=>by
  refine az nA.eq_1 ?_;have h1:i<M.length:=by omega
  obtain⟨m,hm⟩:=gE h1;have hBd:=hM m (aj hm);have a1:=bd (f:=b8.enc) (w:=2) (λ_=>rfl) hm;have h4:=cg h1;have hT:=jk (f:=Rw.enc) ht;obtain⟨hp1,hp2⟩:=jX hp;have ih:=SL hR ht hM hl hp k (i+1) (by omega);rw[bw hm,bT];cases hrun:Rock.run b.aS m aw with
  |none =>
   have hE:lG b.aS m aw=9:=by simp[lG,hBd,hp,hrun]
   have hP:∀J,J≠[]->dp T (.call false 102 [.agg [iI b.aS.f.x,iI b.aS.f.y,iI b.aS.f.z,iI b.aS.f.k,lF b.aS.dP Rw.enc,iI b.aS.cC,iI b.aS.lift,iI b.aS.deep,nl bG.enc b.aS.av],.agg (mL m),lF aw pE] J)=_:=λJ hJ=>QN (J:=J) (Fv.of hBd) hp1 hp2 hJ hrun kr
   rw[hE];subst hR;simp[h1,a1,hT,hP,bR,zS]
  |some r =>
   obtain⟨ss,ys⟩:=r;have hE:lG b.aS m aw=0:=by simp[lG,hBd,hp,hrun]
   have hP:∀J,J≠[]->dp T (.call false 102 [.agg [iI b.aS.f.x,iI b.aS.f.y,iI b.aS.f.z,iI b.aS.f.k,lF b.aS.dP Rw.enc,iI b.aS.cC,iI b.aS.lift,iI b.aS.deep,nl bG.enc b.aS.av],.agg (mL m),lF aw pE] J)=_:=λJ hJ=>Jx (J:=J) (Fv.of hBd) hp1 hp2 hJ hrun kr
   rw[hE,if_pos rfl];subst hR;simp[h1,a1,h4,hT,hP,bR];exact WL.to ih (by simp[bR,hT]) rfl λx e J' hh=>by simpa[bR,hT]using hh
theorem aaG{b:Bk}{l:List Int}(hp:tg b.aS b.aw=0)(hn:b.aw.length<200)(hk:Trem.fw b.k0 b.k1 b.k2=true)(hl:l.length=b.aS.av.length)(hr:∀n∈l,-100000<=n/\n<=100000):tg b.aS (dC b l)=0:=by
 obtain⟨h1,h2⟩:=jX hp;simp only[Trem.fw,af,aA]at hk;have hkp:0<=mH b/\mH b<=1000:=by unfold mH;split<;>(try split)<;>omega
 have key:∀r∈dC b l,pS b.aS r=0:=by
  intro r hr';rcases aU.1 hr' with h | h
  .have hv:=h2 r h;unfold pS;rw[if_pos hv.len,if_pos (eQ.2 λx hx=>aR.2 (hv.ok x hx))]
  .simp only[List.mem_singleton]at h;subst h;unfold pS;rw[if_pos (by simpa using hl),if_pos];refine eQ.2 λx hx=>aR.2 ?_
   obtain⟨n,hn,rfl⟩:=bI.1 hx;have hb:=hr n hn;unfold ji;split
   .have b2:0 <= -n*mH b:=bz (by omega) hkp.1;have b3 : -n*mH b<=100000*1000:=cn (by omega) hkp.2 hkp.1 (by omega);rw[aO b2];omega
   .exact hb
 have h3:(dC b l).length=b.aw.length+1:=by simp[dC]
 unfold tg;rw[if_neg (by omega)];generalize dC b l=p at key;clear h3;induction p with
 |nil=>rfl
 |cons x p ih=>simp only[bT,key x (by simp)];exact ih λr h=>key r (by simp[h])
theorem Zy{n:Nat}{b:Bk}{l:List Int}(hK:Kr n b)(hl:l.length<=1000000)(hJ:J≠[]):
  Cl 67 [.agg (bR b),lF l aP] (gn (mz b l)) J:=by
 refine au ?_;have hS:=λJ=>MZ (J:=J) (b:=b) hK.kv.ml
 try simp only[Cl]at hS
 have hnp:=jW (f:=pE) b.aw;by_cases c1:cc b.ai=[]
 .have hd:mz b l=(b,8):=by unfold mz;rw[if_pos c1]
  rw[hd];simp[c1]at hS;simp only[bR]at hS;simp[bR,hS,gn];exact cK (b:=b) rfl
 have hne:=NA c1;have hv:=hK.valid hne;have ht:=vv (Bv.of hv).dP;have hT:=jk (f:=Rw.enc) ht
 try simp only[lF]at hT
 simp[c1]at hS;simp only[bR,hT]at hS;by_cases c2:b.aw.length<200
 case neg =>
  have hd:mz b l=(b,3):=by unfold mz;rw[if_neg c1,if_neg c2]
  rw[hd];simp[bR,hT,hS,gn,hnp,show(200:Int)<=b.aw.length by omega];exact cK (b:=b) (by simp[bR,hT])
 have c2':¬(200:Int)<=b.aw.length:=by omega
 have hRt:=λJ=>TY (J:=J) (b:=b.aS) (l:=l) (wq:=nl bG.enc b.aS.av) (by omega) kr
 try simp only[lF,Cl]at hRt
 by_cases c3:pS b.aS l=0
 case neg =>
  have hd:mz b l=(b,pS b.aS l):=by
   unfold pS at *
   by_cases h1:l.length=b.aS.av.length
   .by_cases h2:dh l (λn=>bC n (-100000) 100000)=true
    .rw[if_pos h1,if_pos h2]at c3;exact absurd rfl c3
    .unfold mz;rw[if_neg c1,if_pos c2,if_pos h1,if_neg h2,if_pos h1,if_neg h2]
   .unfold mz;rw[if_neg c1,if_pos c2,if_neg h1,if_neg h1]
  rw[hd];simp[bR,hT,hS,gn,hnp,c2',hRt,c3];exact cK (b:=b) (by simp[bR,hT])
 obtain⟨r1,r2⟩:=Rv.of c3;rw[c3]at hRt;have hp:=aaG hK.kv.pl c2 hK.kv.jt r1 r2;have hd:mz b l=if bT (λe=>lG b.aS e.m (dC b l)) (cc b.ai)=0 then(IW b (dC b l),0)else(b,bT (λe=>lG b.aS e.m (dC b l)) (cc b.ai)):=by
  unfold mz;rw[if_neg c1,if_pos c2,if_pos r1,if_pos (eQ.2 λx hx=>aR.2 (r2 x hx))]
 rw[hd];have hRs:=λJ hJ=>TX (J:=J) (b:=b) (l:=l) hK.lit hK.kv.jt hl r2 hJ
 try simp only[lF,Cl]at hRs
 have hLf:=λJ hJ=>MW (J:=J) (b:=b) hK.kv.ml hJ
 try simp only[lF,Cl]at hLf
 simp only[bR,hT]at hRs hLf;have⟨q1,q2,q3⟩:b.aw.length*24<=room/\(b.aw.length+1)*24<=room/\24<=room:=by unfold room;omega
 have hpel:=KJ b.aw;have htk:(fM b.aw pE).take b.aw.length=fM b.aw pE:=ah (by omega);have cle:∀x:List Int,D.bf (pE x)=true:=agG;have hL:=SL (J:=J) (b:=b) (M:=gS b.ai) (aw:=dC b l) (R:=bR b) rfl ht (by
  intro m hm;obtain⟨e,he,_,rfl⟩:=Mw hm;exact(hK.kv.fit e he).1) (by have:=KC b.ai;have:=hK.kv.ml;omega) hp (gS b.ai).length 0 (by omega)
 have hnl:(dC b l).length=b.aw.length+1:=by simp[dC]
 have hfm:fM (dC b l) pE=fM b.aw pE++[.bV l.length (fM (l.map (ji (mH b))) aP)]:=by simp[dC,pE]
 have hz:bT (λm=>lG b.aS m (dC b l)) (gS b.ai)=bT (λe=>lG b.aS e.m (dC b l)) (cc b.ai):=FV
 try simp only[lF]at hL
 rw[aB,hz]at hL;generalize hF:bT (λe=>lG b.aS e.m (dC b l)) (cc b.ai)=F at hL ⊢;have hfr:=qX (f:=pE) (w:=1) (λ_=>rfl) cle (l:=dC b l) (j:=0) (bs:=[.cells (if b.aw=[]then 0 else 1) (fM (dC b l) pE)]) (v:=if b.aw=[]then 0 else 1) (J:=J) hJ rfl;rw[hnl,hfm]at hL hfr;have hne0:dC b l≠[]:=λh=>by rw[h]at hnl;simp at hnl
 by_cases hm:b.aw=[]
 .have e1:nl pE b.aw=.bA:=by simp[nl,hm]
  simp only[e1]at hS hRs hLf hnp;rw[if_pos hm]at hfr;have hm0:b.aw.length=0:=by rw[hm];rfl
  simp only[hm,mX,aY,List.nil_append,cq]at hfr;simp[bR,hT,hS,gn,hnp,c2',hRt,e1,hRs,hLf,q3,hfr];rw[hm0,hm]at hL;refine WL.to hL (by simp[bR,hT,zS,hm,F3]) rfl ?_;rintro x e J' ⟨rfl,h⟩;by_cases hF0:F=0
  .rw[if_pos hF0]at h ⊢;obtain⟨rfl,g2,g4,g7⟩:=h;simp[g2,g4,g7,bR,zS];exact EL (b:=IW b (dC b l)) (by simp[bR,IW,jk hne0,hnl,hfm,hm])
  .rw[if_neg hF0]at h ⊢;obtain⟨rfl,g4,g5⟩:=h;simp[g4,g5,fR,eF];exact cK (b:=b) rfl
 .have e1:=jk (f:=pE) hm
  try simp only[lF]at e1
  simp only[e1]at hS hRs hLf;rw[if_neg hm]at hfr;simp[bR,hT,hS,gn,c2',hRt,hm,e1,hRs,hLf,q1,q2,hpel,htk,hfr];refine WL.to hL (by simp[bR,hT,zS,e1]) rfl ?_;rintro x e J' ⟨rfl,h⟩;by_cases hF0:F=0
  .rw[if_pos hF0]at h ⊢;obtain⟨rfl,g2,g4,g7⟩:=h;simp[g2,g4,g7,bR,zS];exact EL (b:=IW b (dC b l)) (by simp[bR,IW,jk hne0,hnl,hfm])
  .rw[if_neg hF0]at h ⊢;obtain⟨rfl,g4,g5⟩:=h;simp[g4,g5,fR,eF];exact cK (b:=b) rfl
theorem Vy{b:bU}{m:b8}{r:RunT}{n:Nat}{x:tw}{wq:D}(h:Fv b m)(hr:LW b n r.1 r.2)(hn:n<=200)(hx:Vh b n x)(hwq:wq.rh=lF b.av bG.enc):
  Cl 105 [.agg [iI b.f.x,iI b.f.y,iI b.f.z,iI b.f.k,lF b.dP Rw.enc,iI b.cC,iI b.lift,iI b.deep,wq],.agg (mL m),.agg [lF r.1 ll,lF r.2 ll],.agg x.enc] (iI (o6 b m r x)) J:=by
 refine au ?_;have cls:∀l:List (List Rock.aG),D.bf (fM l ll)=true:=fA λx=>by simp[ll,D.clean,HG]
 unfold o6;by_cases h1:x.jY=1
 .obtain⟨p1,p2,p3⟩:=hx.p h1;have hz:=h.bv.sz;obtain⟨s1,s2⟩:=Yi hr (t:=x.tick.toNat) (by omega);have hi:x.idx.toNat<b.n:=by unfold bU.size at p3;omega
  have hP:=λJ=>Jy (J:=J) h s2 hi
  rw[show((x.idx.toNat:Nat):Int)=x.idx by omega]at hP;have a1:=bd (f:=ll) (w:=1) (λ_=>rfl) s1;simp only[ll,bX]at a1;have hl:=hr.sl;have q1:x.tick<r.1.length:=by omega
  rw[s1,if_pos h1];simp[hwq,h1,a1,hP,p1.1,q1]
 .obtain⟨p1,p2,p3⟩:=hx.y h1;obtain⟨y1,y2⟩:=Qc hr (t:=x.tick.toNat-1) (by omega);have hl:=hr.yl;have hb:=TQ y2 (w:=x.idx.toNat) (by omega);have a1:=bd (f:=ll) (w:=1) (λ_=>rfl) y1;simp only[ll,bX]at a1;have a2:=bd (f:=Rock.aG.enc) (w:=3) (λ_=>rfl) hb;have hy:=y2.ok _ (aj hb);have hyl:=y2.len;have⟨q1,q2⟩:x.tick-1<r.2.length/\x.idx<(rowAt r.2 (x.tick.toNat-1)).length:=by omega
  have q3:1<=x.tick:=p1.1;have t1:(x.tick-1).toNat=x.tick.toNat-1:=by omega
  have w1:=cb (n:=x.tick-1);rw[y1,if_neg h1];simp only[Option.getD_some];generalize aQ (rowAt r.2 (x.tick.toNat-1)) x.idx.toNat=y at a2 hy ⊢;unfold aG.MU aG.Gf;by_cases h2:x.jY=2
  .simp[hwq,h2,a1,a2,q1,q2,q3,p2,t1,w1]
  have hw:=hx.jY;by_cases h3:x.jY=4
  .simp[hwq,h3,a1,a2,q1,q2,q3,p2,t1,w1]
  have h4:x.jY=3:=by omega
  have hm:=hy.1;have hh:=hy.2.1;by_cases h5:y.m=0
  .simp[hwq,h4,h5,a1,a2,q1,q2,q3,p2,t1,w1]
  .have t2:y.h.tdiv y.m=y.h / y.m:=aO hh.1;have w2:=cb (n:=y.h.tdiv y.m) (by
    rw[t2];have:=Int.ediv_nonneg hh.1 hm.1;have:=Int.ediv_le_self y.m hh.1;omega)
   simp[hwq,h4,h5,a1,a2,q1,q2,q3,p2,t1,w1,w2]
theorem aaa{ss ys:List (List Rock.aG)}{v v':Nat}(hJ:J≠[]):∃s,cI (J.length-1) 16 (.cN [.agg [.sl J.length 0 v 0 ss.length 1,.sl J.length 1 v' 0 ys.length 1],.bool true]) ([.cells v (fM ss ll),.cells v' (fM ys ll)]::J)=(.cN [.agg [lF ss ll,lF ys ll],.bool true],s::J):=by
 have c1:∀x:List Rock.aG,D.bf (ll x)=true:=λx=>by simp[ll,D.clean,HG]
 have k1:=lD (n:=14) (f:=ll) (w:=1) (l:=ss) (j:=0) (v:=v) (bs:=[.cells v (fM ss ll),.cells v' (fM ys ll)]) (by decide) (λ_=>rfl) c1 hJ rfl;have k2:=lD (n:=14) (f:=ll) (w:=1) (l:=ys) (j:=1) (v:=v') (bs:=[.dead,.cells v' (fM ys ll)]) (by decide) (λ_=>rfl) c1 hJ rfl;simp only[List.set_cons_zero]at k1;rw[pZ (by simp) (by omega)];simp only[jP,kR];rw[EE (by simp) (by omega)];simp only[jP,kR];rw[k1];simp only;rw[k2,eL (by rfl) (by omega)];exact⟨_,rfl⟩
theorem Vx{b:bU}{m:b8}{aw:List (List Int)}(h:Fv b m)(hp:aw.length<=200)(hr:∀r∈aw,Rv b r)(hJ:J≠[]){ss ys:List (List Rock.aG)}(hrun:Rock.run b m aw=some (ss,ys)){wq:D}(hwq:wq.rh=lF b.av bG.enc):
  Cl 102 [.agg [iI b.f.x,iI b.f.y,iI b.f.z,iI b.f.k,lF b.dP Rw.enc,iI b.cC,iI b.lift,iI b.deep,wq],.agg (mL m),nl pE aw] (.cN [.agg [lF ss ll,lF ys ll],.bool true]) J:=by
 by_cases hz:aw=[]
 case neg=>rw[jk hz];exact Jx h hp hr hJ hrun hwq
 subst hz;cases hrun;refine au ?_;have hf:=λJ hJ=>Jz (J:=J) h hJ
 simp[hwq,F3,hf];refine az lO.eq_1 ?_;simp;have hz:=aaa (J:=J) (ss:=[bY b m]) (ys:=[]) (v:=0) (v':=0) hJ;simpa[ll,oF]using hz
def wA(b:Bk)(x:tw)(e:dY):Int:=if e.left=true then(match Rock.run b.aS e.m b.aw with | some r=>o6 b.aS e.m r x | none=>0)else 0
theorem SI{n:Nat}{b:Bk}{x:tw}{atv:Int}{L:D}{R:List D}(hR:R=bR b)(hL:L.calm=L)(hK:Kr n b)(ht:b.aS.dP≠[])(hx:Vh b.aS b.aw.length x):∀(m i:Nat),i+m=b.ai.length ->
  WL T [1,2,3,6,8,10,11] false nw [(1,iI atv),(2,L),(3,.bg R),(6,.own 0 zS),(8,.own 0 x.enc),(10,.sl J.length 0 0 0 b.ai.length 1),(11,iI i)]
   ([.cells 0 (iP (b.ai.map (wA b x)) i m)]::J)
   (λy e J'=>y=.exit 0/\get e 1=iI atv/\get e 2=L/\get e 3=.bg R/\get e 6=.own 0 zS/\get e 10=.sl J.length 0 0 0 b.ai.length 1/\J'=[.cells 0 (fM (b.ai.map (wA b x)) aP)]::J)
 |0,i,hi=>by
  refine az nw.eq_1 ?_;obtain rfl:i=b.ai.length:=by omega
  have hn:=jW (f:=dY.enc) b.ai;have hf:=Pm (vs:=b.ai.map (wA b x));rw[bH]at hf;rw[hf];subst hR;simp[bR,hn,hL]
 |m+1,i,hi=>by
  refine az nw.eq_1 ?_;have h1:i<b.ai.length:=by omega
  have hml:=hK.kv.ml;have h1':(i:Int)<b.ai.length:=by omega
  obtain⟨e,he⟩:=gE h1;have hne:b.ai≠[]:=λh=>by rw[h]at h1;simp at h1
  have h2:=Nq he;have d1:=pP (f:=dY.enc) (w:=4) (λ_=>rfl) he;have d2:(fM b.ai dY.enc).drop (i*4+2)=.bool e.left::iI e.L8::(fM b.ai dY.enc).drop (i*4+4):=by
   have:=congrArg (List.drop 2) d1;simpa[dc]using this
  simp only[dY.enc]at h2;have h4:=cg h1;have hn:=jk (f:=dY.enc) hne;have hT:=jk (f:=Rw.enc) ht;have ih:=SI hR hL hK ht hx (atv:=atv) m (i+1) (by omega);obtain⟨f1,f2⟩:=S6 (vs:=b.ai.map (wA b x)) (i:=i) (m:=m) (v:=wA b x e) (by simp;omega) (by simp[he]);rw[bH]at f1;have hi1:i+1<=b.ai.length:=by omega
  have hem:=aj he;obtain⟨hp1,hp2⟩:=jX hK.kv.pl;simp only[tw.enc]at ih ⊢;cases hc:e.left
  .have hv:wA b x e=0:=by simp[wA,hc]
   have f3:iP (b.ai.map (wA b x)) i (m+1)=iP (b.ai.map (wA b x)) (i+1) m:=by
    unfold iP;rw[List.take_add_one,lP,he];simp[hv,List.replicate_succ]
   rw[f3];subst hR;simp[bR,hn,h1',h2,h4,hL,hc,hT];exact WL.to ih (by simp[bR,hn,hT]) rfl λx e J hh=>by simpa[bR,hn,hT]using hh
  .obtain⟨hBd,_,_⟩:=hK.kv.fit e hem;obtain⟨r,hrun⟩:=hK.kv.Ak e hem hc;obtain⟨ss,ys⟩:=r;have hv:wA b x e=o6 b.aS e.m (ss,ys) x:=by simp[wA,hc,hrun]
   rw[hv]at f2;have hfv:=Fv.of hBd;have hP:∀J,J≠[]->dp T (.call false 102 [.agg [iI b.aS.f.x,iI b.aS.f.y,iI b.aS.f.z,iI b.aS.f.k,lF b.aS.dP Rw.enc,iI b.aS.cC,iI b.aS.lift,iI b.aS.deep,nl bG.enc b.aS.av],.agg (mL e.m),nl pE b.aw] J)=_:=λJ hJ=>Vx (J:=J) hfv hp1 hp2 hJ hrun kr
   have hRd:=λJ=>Vy (J:=J) (wq:=nl bG.enc b.aS.av) hfv (r:=(ss,ys)) (LW.of hfv hp2 hrun) hp1 hx kr
   simp only[tw.enc]at hRd;subst hR;simp[bR,hn,h1',h2,h4,hL,hc,hT,hP,hRd,f1,f2,hi1];exact WL.to ih (by simp[bR,hn,hT]) (by simp) λx e J hh=>by simpa[bR,hn,hT]using hh
theorem Zu{n:Nat}{b:Bk}{w i lo hi:Int}(hK:Kr n b)(hJ:J≠[]):
  Cl 68 [.agg (bR b),iI b.at_,.bV 4 [iI w,iI i,iI lo,iI hi]] (gn (oH b ⟨b.aw.length,w,i,lo,hi⟩)) J:=by
 refine au ?_;have hS:=λJ=>MZ (J:=J) (b:=b) hK.kv.ml
 try simp only[Cl]at hS
 have hnp:=jW (f:=pE) b.aw;have hcl:=mm (b:=b);by_cases c1:cc b.ai=[]
 .have hd:oH b ⟨b.aw.length,w,i,lo,hi⟩=(b,8):=by unfold oH;rw[if_pos c1]
  rw[hd];simp[c1]at hS;simp only[bR]at hS hcl;simp[bR,hS,hcl,gn]
 have hne:=NA c1;have hv:=hK.valid hne;have ht:=vv (Bv.of hv).dP;have hT:=jk (f:=Rw.enc) ht
 try simp only[lF]at hT
 have hE:=jk (f:=dY.enc) hne
 try simp only[lF]at hE
 simp[c1]at hS;simp only[bR,hT,hE]at hS hcl;cases c2:bC w 1 4
 .have hd:oH b ⟨b.aw.length,w,i,lo,hi⟩=(b,1):=by
   unfold oH;rw[if_neg c1];split
   .simp[eU,c2]
   .rfl
  rw[hd];simp[bR,hT,hE,hS,hcl,dq,c2,gn]
 have hw:=aR.1 c2;have hw8:bC w 0 255=true:=aR.2 (by omega);have w1:IntKind.u8.wrap w=w:=wu8 (by omega);have hC:=λJ=>MY (J:=J) (b:=b.aS) (n:=b.aw.length) (rd:=[⟨b.aw.length,w,i,lo,hi⟩]) (wq:=nl bG.enc b.aS.av) (Bv.of hv) (by simp) (by intro x hx;simp at hx;subst hx;simp only;omega) kr
 try simp only[lF,Cl]at hC
 rw[BO]at hC;simp only[aE,aY,cV,mX,c9,tw.enc,cq]at hC;have hd:oH b ⟨b.aw.length,w,i,lo,hi⟩=if eU b.aS b.aw.length ⟨b.aw.length,w,i,lo,hi⟩=0 then(gW b lo hi (sf b ⟨b.aw.length,w,i,lo,hi⟩),0)else(b,eU b.aS b.aw.length ⟨b.aw.length,w,i,lo,hi⟩):=by
  unfold oH;rw[if_neg c1,if_pos hw8]
 rw[hd];by_cases c3:eU b.aS b.aw.length ⟨b.aw.length,w,i,lo,hi⟩=0
 case neg =>
  rw[if_neg c3];simp[bR,hT,hE,hS,hcl,dq,c2,w1,hnp,hC,c3,gn]
 rw[if_pos c3];have hx:=Vh.of c3;have hLv:=SI (J:=J) (b:=b) (x:=⟨b.aw.length,w,i,lo,hi⟩) (atv:=b.at_) (L:=.bV 4 [iI w,iI i,iI lo,iI hi]) (R:=bR b) rfl rfl hK ht hx b.ai.length 0 (by omega);have hst:=λJ hJ=>LQ (J:=J) (b:=b) (lo:=lo) (hi:=hi) (val:=sf b ⟨b.aw.length,w,i,lo,hi⟩) (vs:=b.ai.map (wA b ⟨b.aw.length,w,i,lo,hi⟩)) hne hK.kv.wl hK.kv.ml (by simp) (by
  intro j e v he hv hl;simp[he]at hv;subst hv;obtain⟨r,hrun⟩:=hK.kv.Ak e (aj he) hl;have h1:wA b ⟨b.aw.length,w,i,lo,hi⟩ e=o6 b.aS e.m r ⟨b.aw.length,w,i,lo,hi⟩:=by simp[wA,hl,hrun]
  have h2:sf b ⟨b.aw.length,w,i,lo,hi⟩ e.m=LD lo hi (o6 b.aS e.m r ⟨b.aw.length,w,i,lo,hi⟩):=by simp[sf,hrun]
  rw[h1,h2];have he2:=hx.ends.2.1
  try simp only[]at he2
  try simp only at he2
  generalize o6 b.aS e.m r ⟨b.aw.length,w,i,lo,hi⟩=v;unfold LD;split
  .exact⟨rfl,λ_=>rfl⟩
  .have q1:bC v lo hi=true:=aR.2 (by omega);have q2:bC lo lo hi=true:=aR.2 (by omega);rw[q1,q2];exact⟨rfl,λh=>by cases h⟩) hJ
 have hz:=Mf (vs:=b.ai.map (wA b ⟨b.aw.length,w,i,lo,hi⟩));rw[bH]at hz;rw[hz]at hLv;have hml:=hK.kv.ml;have r1:(b.ai.length:Int)*8<=room:=by unfold room;omega
 simp[bR,hT,hE,hS,dq,c2,w1,hnp,hC,c3,r1];refine WL.to hLv (by simp[bR,hT,hE,zS]) (by simp) ?_;rintro y e J' ⟨rfl,g1,g2,g3,g6,g10,rfl⟩;have cli:∀x:Int,D.bf (aP x)=true:=λ_=>by simp[aP,D.clean]
 have f3:=qX (f:=aP) (w:=1) (λ_=>rfl) cli (l:=b.ai.map (wA b ⟨b.aw.length,w,i,lo,hi⟩)) (j:=0) (v:=0) (bs:=[.cells 0 (fM (b.ai.map (wA b ⟨b.aw.length,w,i,lo,hi⟩)) aP)]) (J:=J) hJ rfl;simp only[lF,Cl,bH]at f3 hst;simp[g1,g2,g3,g6,g10,f3,hst,fR,eF,Er,As,gn];exact cK (b:=gW b lo hi (sf b ⟨b.aw.length,w,i,lo,hi⟩)) rfl
end
end Go.Proofs.YtpapbbojmclkgaaGreatDoor
