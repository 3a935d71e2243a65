import Derived.Test.YtpapbbojmclkgaaGreatDoorTxt5
set_option linter.all false
set_option maxRecDepth 100000
namespace Go.Proofs.YtpapbbojmclkgaaGreatDoor
section
open Go Go.Abs Go.Rock Go.Book
variable {J:SK}
def Rr(b:Bk)(w price:Int)(ws:List Int):Bk:={b with cA:=b.cA++[⟨b.az.length,w,D2 ws,D1 ws,D2 ws*price,D1 ws*price⟩] }
def E3(b:Bk)(w lv u price:Int):Bool:=bF w 0 ((b.aR.aw.length:Int)-1) && (bF lv 0 ((b.aR.c9.length:Int)-1) && (bF u 0 ((b.cp.length:Int)-1) && bF price 0 1000))
def wx(b:Bk)(w lv u:Int):Int:=b8 (λe=>vp b w.toNat lv.toNat u.toNat e.m) (cj b.aj)
def pv(b:Bk)(w lv u:Int):List Int:=(cj b.aj).map λe=>pO b w.toNat lv.toNat u.toNat e.m
def ni(b:Bk)(w lv u price:Int):Bk×Int :=
 if cj b.aj=[]\/b.az=[]then(b,8)else if E3 b w lv u price=true then(if wx b w lv u=0 then(Rr b w price (pv b w lv u),0)else(b,wx b w lv u))else(b,2)
theorem UR(l:List GG):(fM l GG.enc).length=l.length*6:=bQ (f:=GG.enc) (w:=6) (λ_=>rfl) l
theorem JK{c d:Int}:∀{l:List Int} {a:Int},(c<=a/\a<=d)->(∀x∈l,c<=x/\x<=d)->c<=l.foldl min a/\l.foldl min a<=d
 |[],a,h,_=>h
 |x::l,a,h,hl=>by
  have h1:=hl x (by simp);exact JK (l:=l) (a:=min a x) (by omega) λy hy=>hl y (by simp[hy])
theorem JJ{c d:Int}:∀{l:List Int} {a:Int},(c<=a/\a<=d)->(∀x∈l,c<=x/\x<=d)->c<=l.foldl max a/\l.foldl max a<=d
 |[],a,h,_=>h
 |x::l,a,h,hl=>by
  have h1:=hl x (by simp);exact JJ (l:=l) (a:=max a x) (by omega) λy hy=>hl y (by simp[hy])
theorem Zh{c d:Int}{l:List Int}(h0:c<=0/\0<=d)(hl:∀x∈l,c<=x/\x<=d):(c<=D2 l/\D2 l<=d)/\(c<=D1 l/\D1 l<=d):=by
 cases l with
 |nil=>exact⟨h0,h0⟩
 |cons x l=>exact⟨JK (hl x (by simp)) λy hy=>hl y (by simp[hy]),JJ (hl x (by simp)) λy hy=>hl y (by simp[hy])⟩
theorem O8{b:Bk}{w lv u:Nat}{m:cg}(hu:u<b.cp.length)(huk:∀x∈b.cp,x.ok=true)(hE:vp b w lv u m=0):0<=pO b w lv u m/\pO b w lv u m<=1000000000:=by
 have hun:b.cp[u]?=some (xj b u):=by simp[xj,hu]
 have hok:=huk _ (ai hun);simp only[jD.ok,ah,aQ]at hok;have hs:=AD (by omega) hok.2.2;unfold vp at hE;unfold pO;cases hr:Rock.run b.aR m b.az with
 |none=>simp
 |some r =>
  rw[hr]at hE;simp only at hE ⊢;split at hE
  .unfold Le at hE;split at hE
   .rename_i hv;simp only[tV.valid,ah,aQ]at hv;have:=OO hs hv.1.1;omega
   .cases hE
  .cases hE
theorem abc{F:List Abs.aF}{b:Bk}{er:List Int}{nm:List UInt8}{w lv u price:Int}{b':Bk}{e:Int}(ht:fN b.aR.c9=true)(hml:b.aj.length<=40)(hok:∀e∈b.aj,Ok b.aR [e.m] b.az)(hrun:∀e∈b.aj,e.left=true->∃r,Rock.run b.aR e.m b.az=some r)(huk:∀x∈b.cp,x.ok=true)(hul:b.cp.length<=10)(hwl:b.aR.aw.length<=1000000)(hsl:b.cA.length<=1000000)(hd:ni b w lv u price=(b',e))(he:e=0):
  dt T (.call false 172 [.ref J.length 6 0 0,.str nm,.bZ 4 [iI w,iI lv,iI u,iI price]] (F::b.bD J.length er::J))=some (.val (.cQ []) (F::b'.bD J.length er::J)):=by
 refine fA rfl rfl rfl (by simp) ?_;unfold ni at hd;split at hd
 case isTrue=>cases hd;cases he
 rename_i c1;split at hd
 case isFalse=>cases hd;cases he
 rename_i c2;split at hd
 case isFalse=>cases hd;rename_i h;exact absurd he h
 rename_i c3;cases hd;have htl:b.aR.c9.length<=20:=by
  simp only[fN,ah]at ht;have:=aQ.1 ht.1;omega
 have c1a:cj b.aj≠[]:=λh=>c1 (.inl h)
 have c1b:b.az≠[]:=λh=>c1 (.inr h)
 have q1:0<(cj b.aj).length:=aH.2 c1a;have q2:0<b.az.length:=aH.2 c1b;have hLf:=λS=>Is (J:=J) (b:=b) (er:=er) (S:=S) (by omega)
 simp only[Bk.bD,Bk.cells]at hLf;have hc2:=c2;simp only[E3,ah]at hc2;obtain⟨k1,k2,k3,k4⟩:=hc2;have i1:=aQ.1 k1;have i2:=aQ.1 k2;have i3:=aQ.1 k3;have i4:=aQ.1 k4;obtain⟨w,rfl⟩:∃n:Nat,w=n:=⟨w.toNat,by omega⟩;obtain⟨lv,rfl⟩:∃n:Nat,lv=n:=⟨lv.toNat,by omega⟩;obtain⟨u,rfl⟩:∃n:Nat,u=n:=⟨u.toNat,by omega⟩;simp only[wx,pv,Int.toNat_natCast]at c3 ⊢;have w1:=cm (n:=(b.aR.aw.length:Int)-1);have w2:=cm (n:=(b.aR.c9.length:Int)-1);have w3:=cm (n:=(b.cp.length:Int)-1);have hL:=Sh (J:=J) (F:=F) (er:=er) (ls:=cj b.aj) (w:=w) (lv:=lv) (u:=u) (price:=price) ht (λe he=>hok e (cX.1 he).1) (λe he=>hrun e (cX.1 he).1 (cX.1 he).2) c1b (by have:=fD (λe:dU=>e.left) b.aj;simp only[cj];omega) (by omega) (by omega) (by omega) huk (cj b.aj).length 0 [] (by omega) rfl;rw[aC]at hL;simp[Bk.bD,Bk.cells,hLf,q1,q2,cV,eL,w1,w2,w3,k1,k2,k3,k4];refine WL.to hL (by simp) (by simp[Bk.bD,Bk.cells]) ?_;intro x e J' hq;simp only[Ic,if_pos c3,List.nil_append]at hq;obtain⟨rfl,g0,g7,g10,g11,rfl⟩:=hq;have hbs:∀x∈(cj b.aj).map (λe=>pO b w lv u e.m),0<=x/\x<=1000000000:=by
  intro x hx;simp only[bI]at hx;obtain⟨e,he,rfl⟩:=hx;exact O8 (by omega) huk (qq c3 e he)
 have hwl2:((cj b.aj).map (λe=>pO b w lv u e.m)).length=(cj b.aj).length:=by simp
 have hlm:(cj b.aj).length<=40:=by have:=fD (λe:dU=>e.left) b.aj;simp only[cj];omega
 generalize hws:(cj b.aj).map (λe=>pO b w lv u e.m)=ws at *
 have hwne:ws≠[]:=by intro hh;rw[hh]at hwl2;simp at hwl2;omega
 obtain⟨⟨m1,m2⟩,m3,m4⟩:=Zh (by omega) hbs;have hSp:=λJ=>aeA (J:=J) hwne (by omega)
 generalize hlo:D2 ws=lo at *
 generalize hhi:D1 ws=hi at *
 have p1:0<=lo*price:=bB m1 i4.1;have p2:lo*price<=1000000000*1000:=ct m2 i4.2 i4.1 (by omega);have p3:0<=hi*price:=bB m3 i4.1;have p4:hi*price<=1000000000*1000:=ct m4 i4.2 i4.1 (by omega);have w4:=cm (n:=lo*price);have w5:=cm (n:=hi*price);have hfr:∀S:SK,S.length=J.length+1+1->cH 0 16 (.sl (J.length+1+1) 0 ws.length 0 ws.length 1) ([.cells ws.length (fM ws aO)]::S)=(lF ws aO,[.dead]::S):=by
  intro S hS;have:=pM (f:=aO) (w:=1) (λ_=>rfl) (λ_=>by simp[D.clean]) (l:=ws) (j:=0) (v:=ws.length) (bs:=[Abs.aF.cells ws.length (fM ws aO)]) (J:=S) (by intro h;subst h;simp at hS) (by simp);rw[hS]at this;simpa using this
 have r2:(b.cA.length+1)*48<=room:=by unfold room;omega
 have r3:=UR b.cA;have r4:(fM b.cA GG.enc).take (b.cA.length*6)=fM b.cA GG.enc:=af (by omega);simp[g0,g7,g10,g11,hfr,hSp,Bk.bD,Bk.cells,w4,w5,r2,r3,r4,Rr,hlo,hhi]
theorem XC{F:List Abs.aF}{b:Bk}{er:List Int}{nm:List UInt8}{w lv u price:Int}{b':Bk}{e:Int}(ht:cj b.aj≠[]->fN b.aR.c9=true)(hml:b.aj.length<=40)(hok:∀e∈b.aj,Ok b.aR [e.m] b.az)(hrun:∀e∈b.aj,e.left=true->∃r,Rock.run b.aR e.m b.az=some r)(huk:∀x∈b.cp,x.ok=true)(hul:b.cp.length<=10)(hwl:b.aR.aw.length<=1000000)(hsl:b.cA.length<=1000000)(hd:ni b w lv u price=(b',e))(he:e≠0):
  dt T (.call false 172 [.ref J.length 6 0 0,.str nm,.bZ 4 [iI w,iI lv,iI u,iI price]] (F::b.bD J.length er::J))=some (.fw (rf e) (F::b.bD J.length er::J)):=by
 refine dZ rfl rfl rfl ?_;have hLf:=λS=>Is (J:=J) (b:=b) (er:=er) (S:=S) (by omega)
 simp only[Bk.bD,Bk.cells]at hLf;unfold ni at hd;split at hd
 case isTrue c1 =>
  cases hd;by_cases c1a:cj b.aj=[]
  .simp[Bk.bD,Bk.cells,hLf,c1a,dN,D.clean,rf]
  .have q1:0<(cj b.aj).length:=aH.2 c1a;have c1b:b.az=[]:=c1.resolve_left c1a;simp[Bk.bD,Bk.cells,hLf,q1,c1b,dN,D.clean,rf]
 rename_i c1;have c1a:cj b.aj≠[]:=λh=>c1 (.inl h)
 have c1b:b.az≠[]:=λh=>c1 (.inr h)
 have ht:=ht c1a;have htl:b.aR.c9.length<=20:=by
  simp only[fN,ah]at ht;have:=aQ.1 ht.1;omega
 have q1:0<(cj b.aj).length:=aH.2 c1a;have q2:0<b.az.length:=aH.2 c1b;have w1:=cm (n:=(b.aR.aw.length:Int)-1);have w2:=cm (n:=(b.aR.c9.length:Int)-1);have w3:=cm (n:=(b.cp.length:Int)-1);split at hd
 case isFalse c2 =>
  cases hd;simp only[E3]at c2;cases k1:bF w 0 ((b.aR.aw.length:Int)-1)
  .simp[Bk.bD,Bk.cells,hLf,q1,q2,cV,eL,w1,k1,dN,D.clean,rf]
  cases k2:bF lv 0 ((b.aR.c9.length:Int)-1)
  .simp[Bk.bD,Bk.cells,hLf,q1,q2,cV,eL,w1,w2,k1,k2,dN,D.clean,rf]
  cases k3:bF u 0 ((b.cp.length:Int)-1)
  .simp[Bk.bD,Bk.cells,hLf,q1,q2,cV,eL,w1,w2,w3,k1,k2,k3,dN,D.clean,rf]
  cases k4:bF price 0 1000
  .simp[Bk.bD,Bk.cells,hLf,q1,q2,cV,eL,w1,w2,w3,k1,k2,k3,k4,dN,D.clean,rf]
  .exact absurd (by simp[k1,k2,k3,k4]) c2
 rename_i c2;split at hd
 case isTrue=>cases hd;exact absurd rfl he
 rename_i c3;cases hd;have hc2:=c2;simp only[E3,ah]at hc2;obtain⟨k1,k2,k3,k4⟩:=hc2;have i1:=aQ.1 k1;have i2:=aQ.1 k2;have i3:=aQ.1 k3;obtain⟨w,rfl⟩:∃n:Nat,w=n:=⟨w.toNat,by omega⟩;obtain⟨lv,rfl⟩:∃n:Nat,lv=n:=⟨lv.toNat,by omega⟩;obtain⟨u,rfl⟩:∃n:Nat,u=n:=⟨u.toNat,by omega⟩;simp only[wx,Int.toNat_natCast]at c3 ⊢;have hL:=Sh (J:=J) (F:=F) (er:=er) (ls:=cj b.aj) (w:=w) (lv:=lv) (u:=u) (price:=price) ht (λe he=>hok e (cX.1 he).1) (λe he=>hrun e (cX.1 he).1 (cX.1 he).2) c1b (by have:=fD (λe:dU=>e.left) b.aj;simp only[cj];omega) (by omega) (by omega) (by omega) huk (cj b.aj).length 0 [] (by omega) rfl;rw[aC]at hL;simp[Bk.bD,Bk.cells,hLf,q1,q2,cV,eL,w1,w2,w3,k1,k2,k3,k4];refine WL.to hL (by simp) (by simp[Bk.bD,Bk.cells]) ?_;intro x e J' hq;simp only[Ic,if_neg c3]at hq;obtain⟨rfl,s,rfl⟩:=hq;simp[Bk.bD,Bk.cells,D.clean,rf]
def SC:List Int->List Rw
 |a::b::c::d::e::l=>⟨a,b,c,d,e⟩::SC l
 |_=>[]
def SB:List Int->List Trem.oc
 |a::b::c::d::l=>⟨⟨a,b,c⟩,d⟩::SB l
 |_=>[]
def IJ:List Int->List (Int×Int)
 |a::b::l=>(a,b)::IJ l
 |_=>[]
theorem Oz:∀(m:Nat) {l:List Int},l.length=m*5->fM (SC l) Rw.enc=fM l aO/\(SC l).length=m
 |0,l,h=>by
  have:l=[]:=bw.1 (by omega);subst this;exact⟨rfl,rfl⟩
 |m+1,l,h=>by
  match l,h with
  |a::b::c::d::e::l,h =>
   have ih:=Oz m (l:=l) (by simp at h;omega);simp[SC,ih.1,ih.2,aO]
  |[],h=>simp at h
  |[_],h=>simp at h;omega
  |[_,_],h=>simp at h;omega
  |[_,_,_],h=>simp at h;omega
  |[_,_,_,_],h=>simp at h;omega
theorem Oy:∀(m:Nat) {l:List Int},l.length=m*4->fM (SB l) Trem.oc.enc=fM l aO/\(SB l).length=m
 |0,l,h=>by
  have:l=[]:=bw.1 (by omega);subst this;exact⟨rfl,rfl⟩
 |m+1,l,h=>by
  match l,h with
  |a::b::c::d::l,h =>
   have ih:=Oy m (l:=l) (by simp at h;omega);simp[SB,ih.1,ih.2,aO]
  |[],h=>simp at h
  |[_],h=>simp at h;omega
  |[_,_],h=>simp at h;omega
  |[_,_,_],h=>simp at h;omega
theorem HP:∀(m:Nat) {l:List Int},l.length=m*2->fM (IJ l) tS=fM l aO/\(IJ l).length=m
 |0,l,h=>by
  have:l=[]:=bw.1 (by omega);subst this;exact⟨rfl,rfl⟩
 |m+1,l,h=>by
  match l,h with
  |a::b::l,h =>
   have ih:=HP m (l:=l) (by simp at h;omega);simp[IJ,ih.1,ih.2,aO,tS]
  |[],h=>simp at h
  |[_],h=>simp at h;omega
def Mf(p:Int×Int):Prt:=⟨p.1,p.2⟩
theorem UJ(l:List (Int×Int)):fM (l.map Mf) Prt.enc=fM l tS:=by
 induction l with
 |nil=>rfl
 |cons p l ih=>simp only[aM,di,ih];rfl
def ZR:List Int->Trem.cc
 |[x0,x1,x2,x3,x4,x5,x6,x7,x8,x9]=>⟨⟨x0,x1,x2⟩,⟨x3,x4,x5⟩,x6,x7,x8,x9⟩
 |_=>⟨⟨0,0,0⟩,⟨0,0,0⟩,0,0,0,0⟩
def jg(b:Bk)(k:Nat)(nm:List UInt8)(l:List Int):Bk×Int :=
 match k with
 |0=>match l with
  |[x,y,z,k]=>oq b x y z k
  |_=>(b,4)
 |1=>mc b (SC l)
 |2=>match l with
  |[x,y,z]=>yG b x y z
  |_=>(b,4)
 |3=>match l with
  |[x,y,z]=>ua b x y z
  |_=>(b,4)
 |4=>rp b ⟨nm,l⟩
 |5=>match l with
  |k::lo::hi::r=>DF b (eM nm k lo hi (IJ r))
  |_=>(b,4)
 |6=>sT b (ZR l) (ZR l).Oh
 |7=>match l with
  |[x,y,z]=>if Trem.fy x y z=true then(Ly b x y z,0)else(b,1)
  |_=>(b,4)
 |8=>pC b (SB l)
 |9=>mM b l
 |10=>match l with
  |[w,i,lo,hi]=>pa b ⟨b.az.length,w,i,lo,hi⟩
  |_=>(b,4)
 |11=>match l with
  |i::r=>tZ b ⟨i,(IJ r).map Mf⟩
  |_=>(b,4)
 |12=>match l with
  |[w,lv,u,p]=>ni b w lv u p
  |_=>(b,4)
 |_=>(b,4)
def nh(b:Bk)(n:Int)(s:List UInt8):Bk×Int:=match parse s with
 |some (w,nm,l)=>jg {b with at_:=n } w.k nm l
 |none=>(b,4)
structure Kv(n:Nat)(b:Bk):Prop where
 c9:b.aR.c9=[]\/fN b.aR.c9=true
 ready:b.ready=true->b.aR.valid=true
 aw:b.ready=false->b.aR.aw=[]
 ms:b.aj≠[]->b.ready=true
 ml:b.aj.length<=40
 wl:b.eg.length=b.aj.length
 fit:∀e∈b.aj,Bd b.aR e.m=true/\e.m.name.length<=1000000/\e.m.dh.length<=1000000
 pm:b.az≠[]->b.aj≠[]
 pl:tL b.aR b.az=0
 AQ:∀e∈b.aj,e.left=true->∃r,Rock.run b.aR e.m b.az=some r
 rules:b.rules.length<=20
 lL:b.lL.length<=200
 JU:∀e∈b.lL,e.ok=true
 jC:Trem.fy b.k0 b.k1 b.k2=true
 cp:b.cp.length<=10
 uok:∀u∈b.cp,u.ok=true
 cA:b.cA.length<=n
theorem Ko{t:List Rw}(h:t=[]\/fN t=true):t.length<=20:=by
 rcases h with rfl | h
 .simp
 .simp only[fN,ah]at h;have:=aQ.1 h.1;omega
theorem uT{t:List Rw}(h:fN t=true):t≠[]:=by
 intro hh;subst hh;simp[fN,bF]at h
theorem AO{s:List UInt8}{w:Wd}{nm:List UInt8}{l:List Int}(h:parse s=some (w,nm,l)):(∃a,yc a=some w)/\GO w l.length=true/\nm.length<=s.length/\l.length<=s.length+1:=by
 have hlen:=Dv 32 s;have hle:=Ie 32 s;unfold parse at h;cases hsp:dr 32 s with
 |nil=>exact absurd hsp (tO 32 s)
 |cons a all =>
 rw[hsp]at h hlen hle;simp only[aE]at hlen;simp only at h;cases hw:yc a with
 |none=>rw[hw]at h;cases h
 |some w0 =>
 rw[hw]at h;simp only at h;have key:∀nm0 (l0:List (List UInt8)),sc w0 nm0 l0=some (w,nm,l)->w0=w/\nm0=nm/\GO w l.length=true/\l.length=l0.length:=by
  intro nm0 l0 hp;unfold sc at hp;cases hm:m7 l0 with
  |none=>rw[hm]at hp;cases hp
  |some ns =>
   rw[hm]at hp;simp only[aI,ae,au]at hp;obtain⟨hf,rfl,rfl,rfl⟩:=hp;exact⟨rfl,rfl,hf,Cu hm⟩
 split at h
 .cases all with
  |nil=>cases h
  |cons n r =>
   obtain⟨rfl,rfl,h3,h4⟩:=key n r h;refine⟨⟨a,hw⟩,h3,hle n (by simp),?_⟩;simp at hlen;omega
 .obtain⟨rfl,rfl,h3,h4⟩:=key [] all h;exact⟨⟨a,hw⟩,h3,by simp,by omega⟩
def doR(F:List Abs.aF)(b:Bk)(er:List Int)(J:SK)(r:Bk×Int):R:=if r.2=0 then .val (.cQ []) (F::r.1.bD J.length er::J)else .fw (rf r.2) (F::b.bD J.length er::J)
theorem vy{F:List Abs.aF}{b:Bk}{er:List Int}{r:Bk×Int}{q:Q}(h1:∀b' e,r=(b',e)->e=0->dt T q=some (.val (.cQ []) (F::b'.bD J.length er::J)))(h2:∀b' e,r=(b',e)->e≠0->dt T q=some (.fw (rf e) (F::b.bD J.length er::J))):
  dt T q=some (doR F b er J r):=by
 obtain⟨b',e⟩:=r;unfold doR;by_cases he:e=0
 .rw[if_pos he];exact h1 b' e rfl he
 .rw[if_neg he];exact h2 b' e rfl he
theorem xz{l:List Int}{n:Nat}(h:l.length=n+1):∃a r,l=a::r/\r.length=n:=by
 cases l with
 |nil=>simp at h
 |cons a r=>exact⟨a,r,rfl,by simpa using h⟩
theorem Nt{l:List Int}(h:l.length=3):∃a0 a1 a2,l=[a0,a1,a2]:=by
 obtain⟨a0,r0,e0,h0⟩:=xz (n:=2) h;obtain⟨a1,r1,e1,h1⟩:=xz (n:=1) h0;obtain⟨a2,r2,e2,h2⟩:=xz (n:=0) h1;have e:=bw.1 h2;exact⟨a0,a1,a2,by rw[e0,e1,e2,e]⟩
theorem Nu{l:List Int}(h:l.length=4):∃a0 a1 a2 a3,l=[a0,a1,a2,a3]:=by
 obtain⟨a0,r0,e0,h0⟩:=xz (n:=3) h;obtain⟨a1,r1,e1,h1⟩:=xz (n:=2) h0;obtain⟨a2,r2,e2,h2⟩:=xz (n:=1) h1;obtain⟨a3,r3,e3,h3⟩:=xz (n:=0) h2;have e:=bw.1 h3;exact⟨a0,a1,a2,a3,by rw[e0,e1,e2,e3,e]⟩
theorem Y9{l:List Int}(h:l.length=10):∃a0 a1 a2 a3 a4 a5 a6 a7 a8 a9,l=[a0,a1,a2,a3,a4,a5,a6,a7,a8,a9]:=by
 obtain⟨a0,r0,e0,h0⟩:=xz (n:=9) h;obtain⟨a1,r1,e1,h1⟩:=xz (n:=8) h0;obtain⟨a2,r2,e2,h2⟩:=xz (n:=7) h1;obtain⟨a3,r3,e3,h3⟩:=xz (n:=6) h2;obtain⟨a4,r4,e4,h4⟩:=xz (n:=5) h3;obtain⟨a5,r5,e5,h5⟩:=xz (n:=4) h4;obtain⟨a6,r6,e6,h6⟩:=xz (n:=3) h5;obtain⟨a7,r7,e7,h7⟩:=xz (n:=2) h6;obtain⟨a8,r8,e8,h8⟩:=xz (n:=1) h7;obtain⟨a9,r9,e9,h9⟩:=xz (n:=0) h8;have e:=bw.1 h9;exact⟨a0,a1,a2,a3,a4,a5,a6,a7,a8,a9,by rw[e0,e1,e2,e3,e4,e5,e6,e7,e8,e9,e]⟩
theorem uq{w:Wd}{n:Nat}(h:GO w n=true)(hs:w.step=0):(n:Int)=w.least:=by
 simp only[GO,cn,ah,aB]at h;omega
theorem AG{w:Wd}{n:Nat}(h:GO w n=true)(hs:0<w.step)(hl:0<=w.least):w.least<=n/\((n:Int)-w.least)%w.step=0:=by
 simp only[GO,cn,ah,aB]at h;rcases h with h | ⟨h1,h2,h3⟩
 .refine⟨by omega,?_⟩;rw[h];simp
 .refine⟨by omega,?_⟩;rwa[Int.tmod_eq_emod_of_nonneg (by omega)]at h3
theorem Ok.one{b:bU}{m:cg}{az:List (List Int)}(hb:b.valid=true)(hf:Bd b m=true)(hp:tL b az=0)(hn:m.name.length<=1000000000):Ok b [m] az:=by
 have hbv:=Bv.of hb;have hfit:fits b m=true:=by simp only[Bd,ah]at hf;exact hf.2
 have hfv:=Fv.of hf;have hm:b.f.aj [m]=0:=by
  have h:=hfit;simp only[fits,ah,aB]at h;have h1:=h.1;unfold fW at h1;rw[if_pos hbv.fv]at h1;exact h1
 obtain⟨p1,p2⟩:=ju hp;exact⟨hbv,hb,by simp,hm,by simpa using hfit,by simpa using hfv,by intro x hx;simp at hx;subst hx;exact⟨hn,hfv.toMv.le.2⟩,hp,p1,p2⟩
theorem LF{b:bU}{m:cg}(hb:b.valid=true)(hf:Bd b m=true):b.f.model m=0:=by
 have hfit:fits b m=true:=by simp only[Bd,ah]at hf;exact hf.2
 rw[Ou (Bv.of hb),ah,aB]at hfit;exact hfit.1
theorem akO{F:List Abs.aF}{b:Bk}{er:List Int}{s:List UInt8}{w:Wd}{nm:List UInt8}{l:List Int}{n:Nat}(hK:Kv n b)(hn:n<=1000000)(hp:parse s=some (w,nm,l))(hs:s.length<=4000):
  dt T (.call false ((Nx[w.k]?).getD 0) [.ref J.length 6 0 0,.str nm,.bZ l.length (fM l aO)] (F::b.bD J.length er::J))=some (doR F b er J (jg b w.k nm l)):=by
 obtain⟨⟨a,ha⟩,hfit,hnm,hll⟩:=AO hp;have htl:=Ko hK.c9;have hv:b.ready=true->Bv b.aR:=λh=>Bv.of (hK.ready h)
 have hrt:b.ready=true->fN b.aR.c9=true:=λh=>(hv h).c9
 have hwl:b.aR.aw.length<=8:=by
  cases hr:b.ready with
  |true=>exact(hv hr).aw
  |false=>rw[hK.aw hr];simp
 have hmr:b.aj≠[]->fN b.aR.c9=true:=λh=>hrt (hK.ms h)
 have hlm:cj b.aj≠[]->b.aj≠[]:=λh hh=>h (by rw[hh];rfl)
 have hz:Sz b:=⟨by omega,by omega,λe he=>⟨by have:=(hK.fit e he).2.1;omega,by have:=(hK.fit e he).2.2;omega⟩⟩;have hplz:=ju hK.pl;have hbv:b.aj≠[]->b.aR.valid=true:=λh=>hK.ready (hK.ms h)
 have hne:∀e∈b.aj,b.aj≠[]:=λe he hh=>by rw[hh]at he;cases he
 have hok:∀e∈b.aj,Ok b.aR [e.m] b.az:=λe he=>Ok.one (hbv (hne e he)) (hK.fit e he).1 hK.pl (hz.ms e he).1
 have hfm:∀e∈b.aj,b.aR.f.model e.m=0:=λe he=>LF (hbv (hne e he)) (hK.fit e he).1
 have hsp:∀e∈b.lL,e.sp.length<=1000000:=λe he=>by
  have:=hK.JU e he;simp only[Trem.Ev.ok,ah]at this;have:=Trem.aQ.1 this.2.1;omega
 have h1:=Co ha;simp only[mJ,bx,au,List.not_mem_nil,or_false]at h1;rcases h1 with⟨_,rfl⟩ | ⟨_,rfl⟩ | ⟨_,rfl⟩ | ⟨_,rfl⟩ | ⟨_,rfl⟩ | ⟨_,rfl⟩ | ⟨_,rfl⟩ | ⟨_,rfl⟩ | ⟨_,rfl⟩ | ⟨_,rfl⟩ | ⟨_,rfl⟩ | ⟨_,rfl⟩ | ⟨_,rfl⟩
 .have hl:l.length=4:=by
   have h:(l.length:Int)=4:=uq hfit rfl;omega
  obtain⟨x,y,z,k,rfl⟩:=Nu hl;exact vy (λb' e hd he=>aaL hd he) (λb' e hd he=>Vj hd he)
 .have hl:=(AG hfit (by decide) (by decide)).2;simp only[Int.sub_zero]at hl;obtain⟨h5,h6⟩:=Oz (l.length / 5) (l:=l) (by omega);have hlen:(SC l).length*5=l.length:=by omega
  try simp only[]
  rw[<- h5,<- hlen];exact vy (λb' e hd he=>abd (by omega) hd he) (λb' e hd he=>Vu (by omega) hd he)
 .have hl:l.length=3:=by
   have h:(l.length:Int)=3:=uq hfit rfl;omega
  obtain⟨x,y,z,rfl⟩:=Nt hl;exact vy (λb' e hd he=>aei (by omega) (by omega) hd he) (λb' e hd he=>W6 (by omega) (by omega) hd he)
 .have hl:l.length=3:=by
   have h:(l.length:Int)=3:=uq hfit rfl;omega
  obtain⟨x,y,z,rfl⟩:=Nt hl;refine vy (λb' e hd he=>?_) (λb' e hd he=>XI (λh=>uT (hrt h)) (by omega) (by omega) hd he);have hr:b.ready=true:=by
   have hd2:ua b x y z=(b',e):=hd;unfold ua at hd2;split at hd2
   .rename_i h;exact h.1
   .cases hd2;cases he
  exact aeI (uT (hrt hr)) (by omega) (by omega) hd he
 .exact vy (λb' e hd he=>Xh (m:=⟨nm,l⟩) (by omega) (by omega) (by simp;omega) (by simp;omega) hK.wl hd he) (λb' e hd he=>Vm (m:=⟨nm,l⟩) (by omega) (by omega) (by simp;omega) (by simp;omega) hK.ml hd he)
 .obtain⟨hl1,hl2⟩:=AG hfit (by decide) (by decide);simp only at hl1 hl2;obtain⟨k,l,rfl,hl⟩:=xz (n:=l.length-1) (l:=l) (by omega);simp only[aE]at hl1 hl2 hll;obtain⟨lo,l,rfl,hl⟩:=xz (n:=l.length-1) (l:=l) (by omega);simp only[aE]at hl1 hl2 hll;obtain⟨hi,l,rfl,hl⟩:=xz (n:=l.length-1) (l:=l) (by omega);simp only[aE]at hl1 hl2 hll;obtain⟨h5,h6⟩:=HP (l.length / 2) (l:=l) (by omega);have hlen:(IJ l).length*2+3=l.length+1+1+1:=by omega
  simp only[di,aE,aO,cU]
  try simp only[lF]
  rw[<- h5,<- hlen];refine vy (λb' e hd he=>aep (by omega) (by omega) hK.wl hK.ml (λe he=>⟨hfm e he,hz.ms e he⟩) hd he) (λb' e hd he=>aaS (by omega) (by omega) hd he)
 .have hl:l.length=10:=by
   have h:(l.length:Int)=10:=uq hfit rfl;omega
  obtain⟨x0,x1,x2,x3,x4,x5,x6,x7,x8,x9,rfl⟩:=Y9 hl;exact vy (λb' e hd he=>aev hd he) (λb' e hd he=>Xz hd he)
 .have hl:l.length=3:=by
   have h:(l.length:Int)=3:=uq hfit rfl;omega
  obtain⟨x,y,z,rfl⟩:=Nt hl;refine vy (λb' e hd he=>?_) (λb' e hd he=>?_)
  .have hd2:(if Trem.fy x y z=true then(Ly b x y z,0)else(b,1))=(b',e):=hd;split at hd2
   .rename_i h;cases hd2;exact aem h
   .cases hd2;cases he
  .have hd2:(if Trem.fy x y z=true then(Ly b x y z,0)else(b,1))=(b',e):=hd;split at hd2
   .cases hd2;exact absurd rfl he
   .rename_i h;cases hd2;exact Xd (by simpa using h)
 .have hl:=(AG hfit (by decide) (by decide)).2;simp only[Int.sub_zero]at hl;obtain⟨h5,h6⟩:=Oy (l.length / 4) (l:=l) (by omega);have hlen:(SB l).length*4=l.length:=by omega
  try simp only[]
  rw[<- h5,<- hlen];exact vy (λb' e hd he=>aaU (by omega) hd he) (λb' e hd he=>Vp (by omega) hd he)
 .have hpl:∀r∈b.az,r.length<=1000000000:=λr hr=>by have:=(hplz.2 r hr).len;omega
  refine vy (λb' e hd he=>?_) (λb' e hd he=>XE (λh=>uT (hmr (hlm h))) hz (by omega) hK.ml (by have:=hK.rules;omega) (by have:=hK.lL;omega) hsp hK.jC hpl hd he);have hr:cj b.aj≠[]:=by
   have hd2:mM b l=(b',e):=hd;unfold mM at hd2;split at hd2
   .cases hd2;cases he
   .rename_i h;exact h
  exact abe (uT (hmr (hlm hr))) hz (by omega) hK.ml (by have:=hK.rules;omega) (by have:=hK.lL;omega) hsp hK.jC hpl hd he
 .have hl:l.length=4:=by
   have h:(l.length:Int)=4:=uq hfit rfl;omega
  obtain⟨w,i,lo,hi,rfl⟩:=Nu hl;refine vy (λb' e hd he=>?_) (λb' e hd he=>Xo (λh=>uT (hmr (hlm h))) hK.ml hok hd he);have hr:cj b.aj≠[]:=by
   have hd2:pa b ⟨b.az.length,w,i,lo,hi⟩=(b',e):=hd;unfold pa at hd2;split at hd2
   .cases hd2;cases he
   .rename_i h;exact h
  exact aaZ (uT (hmr (hlm hr))) hK.wl hK.ml hok hK.AQ hd he
 .obtain⟨hl1,hl2⟩:=AG hfit (by decide) (by decide);simp only at hl1 hl2;obtain⟨i,l,rfl,hl⟩:=xz (n:=l.length-1) (l:=l) (by omega);simp only[aE]at hl1 hl2 hll;obtain⟨h5,h6⟩:=HP (l.length / 2) (l:=l) (by omega);have hlen:((IJ l).map Mf).length*2+1=l.length+1:=by simp;omega
  simp only[di,aE,aO,cU];rw[<- h5,<- hlen,<- UJ];exact vy (λb' e hd he=>aeE (u:=⟨i,(IJ l).map Mf⟩) (by simp;omega) hd he) (λb' e hd he=>XF (u:=⟨i,(IJ l).map Mf⟩) (by simp;omega) hd he)
 .have hl:l.length=4:=by
   have h:(l.length:Int)=4:=uq hfit rfl;omega
  obtain⟨w,i,lo,hi,rfl⟩:=Nu hl;refine vy (λb' e hd he=>?_) (λb' e hd he=>XC (λh=>hmr (hlm h)) hK.ml hok hK.AQ hK.uok hK.cp (by omega) (by have:=hK.cA;omega) hd he);have hr:cj b.aj≠[]:=by
   have hd2:ni b w i lo hi=(b',e):=hd;unfold ni at hd2;split at hd2
   .cases hd2;cases he
   .rename_i h;exact λhh=>h (.inl hh)
  exact abc (hmr (hlm hr)) hK.ml hok hK.AQ hK.uok hK.cp (by omega) (by have:=hK.cA;omega) hd he
end
section
open Go Go.Abs Go.Rock Go.Book
theorem Kv.le{n m:Nat}{b:Bk}(h:Kv n b)(hn:n<=m):Kv m b:={h with cA:=jz h.cA hn }
theorem Kv.zero:Kv 0 iD:=by
 refine⟨.inl rfl,by simp[iD],λ_=>rfl,by simp[iD],by simp[iD],rfl,by simp[iD],by simp[iD],?_,by simp[iD],by simp[iD],by simp[iD],by simp[iD],by decide,by simp[iD],by simp[iD],by simp[iD]⟩;simp[iD,tL,b8]
theorem Fp{b:bU}:tL b []=0:=by simp[tL,b8]
theorem Ym{b:bU}(h:b.valid=true):b.c9≠[]/\¬((b.f.x=0/\b.f.y=0)/\b.f.z=0/\b.f.k=0):=by
 have hv:=Bv.of h;refine⟨uT hv.c9,λhh=>?_⟩;have:=hv.x;omega
theorem Kv.OI{n:Nat}{b:Bk}(h:Kv n b)(hm:b.aj=[]):b.az=[]:=by
 by_cases hp:b.az=[]
 .exact hp
 .exact absurd hm (h.pm hp)
theorem Kv.LH{n:Nat}{b:Bk}(h:Kv n b)(hr:b.ready=false):b.aj=[]:=by
 by_cases hp:b.aj=[]
 .exact hp
 .rw[h.ms hp]at hr;cases hr
theorem Kv.VD{n:Nat}{b:Bk}(h:Kv n b)(k:Int):Kv n {b with at_:=k }:={h with }
theorem acE{b:bU}{m:cg}:∃r,Rock.run b m []=some r:=⟨_,rfl⟩
theorem UY{b:Bk}{lo hi:Int}{val:cg->Int}{x:dU}(h:x∈(ig b lo hi val).aj):∃e∈b.aj,x.m=e.m/\(x.left=true->e.left=true):=by
 simp only[ig,Bk.gF,List.mem_mapIdx]at h;obtain⟨i,hi,rfl⟩:=h;refine⟨b.aj[i],List.getElem_mem hi,?_⟩;rw[if_pos hi];unfold Go.Book.cf;split<;>simp
theorem Kv.L9{n:Nat}{b:Bk}(h:Kv n b){lo hi:Int}{val:cg->Int}:Kv n (ig b lo hi val):=by
 have hl:(ig b lo hi val).aj.length=b.aj.length:=uS;have hn:(ig b lo hi val).aj=[]↔b.aj=[]:=by rw[<- bw,hl,bw]
 refine {c9:=h.c9,ready:=h.ready,aw:=h.aw,ms:=λhh=>h.ms (λh2=>hh (hn.2 h2)),ml:=by rw[hl];exact h.ml,wl:=by rw[hl,<- h.wl];exact wy,fit:=λx hx=>?_,pm:=λhh h2=>h.pm hh (hn.1 h2),pl:=h.pl,AQ:=λx hx hxl=>?_,rules:=h.rules,lL:=h.lL,JU:=h.JU,jC:=h.jC,cp:=h.cp,uok:=h.uok,cA:=h.cA }
 .obtain⟨e,he,h1,_⟩:=UY hx;rw[h1];exact h.fit e he
 .obtain⟨e,he,h1,h2⟩:=UY hx;rw[h1];exact h.AQ e he (h2 hxl)
theorem HV{l:List dU}{e:dU}(h:e∈cj l):e∈l/\e.left=true:=cX.1 h
theorem Kv.word{n:Nat}{b:Bk}(h:Kv n b){s:List UInt8}{w:Wd}{nm:List UInt8}{l:List Int}(hp:parse s=some (w,nm,l))(hs:s.length<=4000):Kv (n+1) (jg b w.k nm l).1:=by
 obtain⟨_,_,hnm,hll⟩:=AO hp;have h1:=h.le (Nat.le_succ n);generalize w.k=k;unfold jg;split
 ·
  split
  .unfold oq;split
   .rename_i hz;split
    .have hr:b.ready=false:=by
      cases hr:b.ready with
      |false=>rfl
      |true=>exact absurd hz (Ym (h.ready hr)).2
     have hm:=h.LH hr;have hpl:=h.OI hm;have hno:∀e,e∈b.aj->False:=by rw[hm];simp
     exact {h1 with c9:=h.c9,ready:=λhh=>(by rw[show b.ready=true from hh]at hr;cases hr),aw:=h.aw,fit:=λe he=>(hno e he).elim,pl:=by simp only[hpl];exact Fp,AQ:=λe he=>(hno e he).elim }
    .exact h1
   .exact h1
  .exact h1
 ·
  unfold mc;split
  .rename_i hz;split
   .rename_i ht;have hr:b.ready=false:=by
     cases hr:b.ready with
     |false=>rfl
     |true=>exact absurd hz (Ym (h.ready hr)).1
    have hm:=h.LH hr;have hpl:=h.OI hm;have hno:∀e,e∈b.aj->False:=by rw[hm];simp
    exact {h1 with c9:=.inr ht,ready:=λhh=>(by rw[show b.ready=true from hh]at hr;cases hr),aw:=h.aw,fit:=λe he=>(hno e he).elim,pl:=by simp only[Jd,hpl];exact Fp,AQ:=λe he=>(hno e he).elim }
   .exact h1
  .exact h1
 ·
  split
  .rename_i x y z;unfold yG;split
   .exact h1
   .rename_i hz;split
    .rename_i hv;have hr:b.ready=false:=by
      cases hr:b.ready with
      |false=>rfl
      |true=>exact absurd (.inr (.inr hr)) hz
     have hm:=h.LH hr;have hpl:=h.OI hm;have hno:∀e,e∈b.aj->False:=by rw[hm];simp
     exact {h1 with c9:=h.c9,ready:=λ_=>hv,aw:=λhh=>(by cases hh),ms:=λ_=>rfl,fit:=λe he=>(hno e he).elim,pl:=by simp only[DX,hpl];exact Fp,AQ:=λe he=>(hno e he).elim }
    .exact h1
  .exact h1
 ·
  split
  .rename_i x y z;unfold ua;split
   .rename_i hz;obtain⟨hr,hm⟩:=hz;split
    .rename_i hv;have hpl:=h.OI hm;have hno:∀e,e∈b.aj->False:=by rw[hm];simp
     exact {h1 with c9:=h.c9,ready:=λ_=>hv,aw:=λhh=>(by rw[show b.ready=false from hh]at hr;cases hr),fit:=λe he=>(hno e he).elim,pl:=by simp only[om,hpl];exact Fp,AQ:=λe he=>(hno e he).elim }
    .exact h1
   .exact h1
  .exact h1
 ·
  unfold rp;split
  .rename_i hz;obtain⟨hr,hpl⟩:=hz;split
   .exact h1
   .split
    .rename_i hml;split
     .rename_i hb;refine {h1 with ms:=λ_=>hr,ml:=by simp[zE];omega,wl:=by simp[zE,h.wl],fit:=λe he=>?_,pm:=λhh=>absurd hpl hh,AQ:=λe he hl=>?_ }
      .simp only[zE,aU,List.mem_singleton]at he;rcases he with he | rfl
       .exact h.fit e he
       .exact⟨hb,by simp;omega,by simp;omega⟩
      .simp only[zE];rw[hpl];exact acE
     .exact h1
    .exact h1
  .exact h1
 ·
  split
  .unfold DF;split
   .exact h1
   .split
    .exact h1.L9
    .exact h1
  .exact h1
 ·
  unfold sT;split
  .split
   .split
    .rename_i hl _ _;exact {h1 with rules:=by simp;omega }
    .exact h1
   .exact h1
  .exact h1
 ·
  split
  .split
   .rename_i hk;exact {h1 with jC:=hk }
   .exact h1
  .exact h1
 ·
  unfold pC;split
  .rename_i hl;split
   .rename_i ho;refine {h1 with lL:=by simp[EX];omega,JU:=λe he=>?_ };simp only[EX,aU,List.mem_singleton]at he;rcases he with he | rfl
    .exact h.JU e he
    .exact ho
   .exact h1
  .exact h1
 ·
  unfold mM;split
  .exact h1
  .rename_i hl;split
   .split
    .split
     .split
      .rename_i hf;obtain⟨e0,he0⟩:=List.exists_mem_of_ne_nil _ hl;have key:∀e∈cj b.aj,Bd b.aR e.m=true/\tL b.aR (dE b l)=0/\∃r,Rock.run b.aR e.m (dE b l)=some r:=by
        intro e he;have hz:=qq hf e he;have hb:=(h.fit e (HV he).1).1;simp only[lS,hb,if_true]at hz;split at hz
        .rename_i hq;cases hr:Rock.run b.aR e.m (dE b l)with
         |none=>rw[hr]at hz;cases hz
         |some r=>exact⟨hb,hq,r,rfl⟩
        .rename_i hq;exact absurd hz hq
       refine {h1 with pm:=λ_ hh=>?_,pl:=(key e0 he0).2.1,AQ:=λe he hel=>(key e (cX.2 ⟨he,hel⟩)).2.2 };have:=(HV he0).1;rw[show b.aj=[]from hh]at this;cases this
      .exact h1
     .exact h1
    .exact h1
   .exact h1
 ·
  split
  .unfold pa;split
   .exact h1
   .split
    .split
     .exact h1.L9
     .exact h1
    .exact h1
  .exact h1
 ·
  split
  .unfold tZ;split
   .rename_i hl;split
    .rename_i ho;refine {h1 with cp:=by simp[JV];omega,uok:=λu hu=>?_ };simp only[JV,aU,List.mem_singleton]at hu;rcases hu with hu | rfl
     .exact h.uok u hu
     .exact ho
    .exact h1
   .exact h1
  .exact h1
 ·
  split
  .unfold ni;split
   .exact h1
   .split
    .split
     .exact {h1 with cA:=by have:=h.cA;simp[Rr];omega }
     .exact h1
    .exact h1
  .exact h1
 .exact h1
theorem Kv.line{n:Nat}{b:Bk}(h:Kv n b){s:List UInt8}(hs:s.length<=4000){k:Int}:Kv (n+1) (nh b k s).1:=by
 unfold nh;split
 .rename_i w nm l hp;exact(h.VD k).word hp hs
 .exact h.le (Nat.le_succ n)
end
end Go.Proofs.YtpapbbojmclkgaaGreatDoor
namespace Go.Abs
variable {T:DB}
theorem Qh{f:Nat}{fn:Fn}{args:List D}{J J':SK}{d:D}{np:Nat}{res:List G5}{body A q:bV}{fo:bS}{bs:List bS}(hT:T f=some fn)(hf:fn=⟨np,res,body⟩)(hl:args.length=np)(hs:iJ body=some (A,fo,bs,q))(hlen:J'.length=J.length)
  (h:WC (dt T) A (lR 0 args) ([]::J) (toD T fo bs q J' res d)):
  dt T (.call false f args J)=some (.val d J'):=by
 subst hf;obtain⟨x,e1,J1,h1,rfl,x2,e2,J2,h2,th,h3,J3,h4,ds,h5,s,h6⟩:=h;rw[hlen]at h6;refine gZ ?_;have hn:bq (dt T) body (lR 0 args) ([]::J)=none:=AT hs h1;simp only[dH,hT,if_pos hl,aD,if_false,hn,hs,BY,h1,h2];have h4':∃dv,pU (dt T) (bC e1 fo) (bs.map (bC e1)) th J2=some (.val dv J3):=by
  unfold xo at h4;split at h4
  .rename_i h7;cases h4;exact⟨_,h7⟩
  .cases h4
 obtain⟨dv,h4'⟩:=h4';cases x2 with
 |exit i=>cases h3
 |normal=>cases h3;simp only[BZ,h4',vx,leave,h5,h6]
 |ret=>cases h3;simp only[BZ,h4',vx,leave,h5,h6]
 |fw d=>cases h3;simp only[BZ,h4',vx,leave,h5,h6]
end Go.Abs
namespace Go.Proofs.YtpapbbojmclkgaaGreatDoor
section
open Go Go.Abs Go.Rock Go.Book
variable {J:SK}
theorem abu{c:List D}:dt T (.Ag 84 [.ref J.length 0 0 0] none ([.cells 0 c]::J))=some (.val (.cQ []) ([.cells 0 c]::J)):=by
 refine D8 rfl rfl rfl (by simp[sf];exact⟨rfl,rfl⟩) ?_;simp
theorem Ua{e:Int}:dt T (.Ag 84 [.ref J.length 0 0 0] (some (rf e)) ([.cells 0 [iI 0]]::J))=some (.val (.cQ []) ([.cells 0 [iI e]]::J)):=by
 refine D8 rfl rfl rfl (by simp[sf];exact⟨rfl,rfl⟩) ?_;simp[rf]
theorem VM{b:Bk}{k:Nat}{nm:List UInt8}{l:List Int}(h:(jg b k nm l).2≠0):(jg b k nm l).1=b:=by
 unfold jg at h ⊢;split;all_goals
  simp only at h
  try unfold Go.Book.oq at *
  try unfold mc at *
  try unfold yG at *
  try unfold ua at *
  try unfold rp at *
  try unfold DF at *
  try unfold sT at *
  try unfold pC at *
  try unfold mM at *
  try unfold pa at *
  try unfold tZ at *
  try unfold ni at *
  (repeat' split)
  all_goals first | rfl | (simp_all)
theorem Xe{b:Bk}{er:List Int}{s:List UInt8}{n:Nat}{k:Int}(hK:Kv n b)(hn:n<=1000000)(hs:s.length<=4000):
  dt T (.call false 60 [.ref J.length 6 0 0,iI k,.str s] (b.bD J.length er::J))=some (.val (iI (nh b k s).2) ((nh b k s).1.bD J.length er::J)):=by
 refine Qh FE m8.eq_1 rfl rfl (by simp) ?_;cases hp:parse s with
 |none =>
  have hP:=λS=>R8 (J:=S) (s:=s) (by omega) hp
  have hX:xo T (.fn 84 [] [.ref (J.length+1) 0 0 0]) [] (some (rf 4)) ([.cells 0 [iI 0]]::b.bD J.length er::J)=some ([.cells 0 [iI 4]]::b.bD J.length er::J):=vw (Ua (J:=b.bD J.length er::J));have hd:nh b k s=(b,4):=by simp[nh,hp]
  rw[hd];simp only[Bk.bD,Bk.cells,rf]at hX hP;simp[toD,Bk.bD,Bk.cells];rw[BW gL.eq_1];simp[Qm,hP,hX]
 |some p =>
  obtain⟨w,nm,l⟩:=p;have hP:=λS hS=>Xm (J:=S) (s:=s) (by omega) hS hp
  have hD:=akO (J:=J) (F:=[.cells 0 [iI 0]]) (er:=er) (hK.VD k) hn hp hs;have hd:nh b k s=jg {b with at_:=k } w.k nm l:=by simp[nh,hp]
  rw[hd];have hno:=VM (b:={b with at_:=k }) (k:=w.k) (nm:=nm) (l:=l);generalize jg {b with at_:=k } w.k nm l=r at hD hno ⊢;obtain⟨b',e⟩:=r;have hwc:RR w=[.bool w.named,iI w.least,iI w.step,.fn ((Nx[w.k]?).getD 0) [] []]:=rfl;simp only[AP,hwc]at hP;by_cases he:e=0
  .subst he;have hX:xo T (.fn 84 [] [.ref (J.length+1) 0 0 0]) [] none ([.cells 0 [iI 0]]::b'.bD J.length er::J)=some ([.cells 0 [iI 0]]::b'.bD J.length er::J):=vw (abu (J:=b'.bD J.length er::J));simp only[doR,if_true]at hD;simp only[Bk.bD,Bk.cells]at hX hD;simp[toD,Bk.bD,Bk.cells];rw[BW gL.eq_1];simp[Qm,hP,hD,hX]
  .have hX:xo T (.fn 84 [] [.ref (J.length+1) 0 0 0]) [] (some (rf e)) ([.cells 0 [iI 0]]::(Bk.bD J.length {b with at_:=k } er)::J)=some ([.cells 0 [iI e]]::(Bk.bD J.length {b with at_:=k } er)::J):=vw (Ua (J:=(Bk.bD J.length {b with at_:=k } er)::J));simp only[doR,he,if_false]at hD;have hb':b'={b with at_:=k }:=hno he;subst hb';simp only[Bk.bD,Bk.cells,rf]at hX hD;simp[toD,Bk.bD,Bk.cells];rw[BW gL.eq_1];simp[Qm,hP,hD,hX]
def lC:Bk->Int->List (List UInt8)->Bk×List Int
 |b,_,[]=>(b,[])
 |b,k,s::l=>((lC (nh b k s).1 (k+1) l).1,(nh b k s).2::(lC (nh b k s).1 (k+1) l).2)
def ic(l:List (List UInt8)):Bk×List Int:=lC iD 0 l
theorem rF:∀{l:List (List UInt8)} {b:Bk} {k:Int},(lC b k l).2.length=l.length
 |[],_,_=>rfl
 |s::l,b,k=>by simp[lC,rF (l:=l)]
def okL(l:List (List UInt8)):Prop:=l.length<=100/\∀s∈l,s.length<=4000
theorem LS:∀{l:List (List UInt8)} {b:Bk} {k:Int} {n:Nat},Kv n b->(∀s∈l,s.length<=4000)->Kv (n+l.length) (lC b k l).1
 |[],b,k,n,h,_=>h
 |s::l,b,k,n,h,hs=>by
  have h1:=h.line (hs s (by simp)) (k:=k);have h2:=LS (l:=l) (k:=k+1) h1 λx hx=>hs x (by simp[hx])
  simp only[lC,aE];rwa[show n+(l.length+1)=n+1+l.length by omega]
theorem Sf{lines:List (List UInt8)}(hl:okL lines):∀(m i:Nat) (b:Bk) (er:List Int),i+m=lines.length->er.length=i->Kv i b ->
  WL T [4,5,12,13,14] false gg [(4,.ref J.length 6 0 0),(5,.sl J.length 7 i 0 i 1),(12,lF lines cf),(13,iI lines.length),(14,iI i)] (b.bD J.length er::J)
   (λx e J'=>x=.exit 0/\get e 4=.ref J.length 6 0 0/\get e 5=.sl J.length 7 lines.length 0 lines.length 1/\J'=(lC b i (lines.drop i)).1.bD J.length (er++(lC b i (lines.drop i)).2)::J)
 |0,i,b,er,hi,he,hK=>by
  refine av gg.eq_1 ?_;obtain rfl:i=lines.length:=by omega
  have h2:lines.drop lines.length=[]:=an (by omega);simp[h2,lC]
 |m+1,i,b,er,hi,he,hK=>by
  refine av gg.eq_1 ?_;have h1:i<lines.length:=by omega
  obtain⟨s,hs⟩:=gE h1;have a1:=aP (f:=cf) (w:=1) (λ_=>rfl) hs;simp only[cf,bJ]at a1;have h4:=bO h1 (by have:=hl.1;omega);have hsl:=hl.2 s (ai hs);have hn:=hl.1;have hC:=Xe (J:=J) (b:=b) (er:=er) (s:=s) (k:=i) hK (by omega) hsl;have hK':=hK.line hsl (k:=i);rw[bz hs];simp only[lC];generalize nh b i s=r at hC hK' ⊢;obtain⟨b',e⟩:=r;have ih:=Sf hl m (i+1) b' (er++[e]) (by omega) (by simp[he]) hK';have hel:=qY er;have het:(fM er aO).take i=fM er aO:=af (by omega);have hr:(i+1)*8<=room:=by unfold room;omega
  simp only[Bk.bD,Bk.cells,he]at hC;simp[h1,a1,h4,hC,Bk.bD,Bk.cells,hr,hel,het,he];refine WL.to ih (by simp) (by simp[Bk.bD,Bk.cells,he]) λx e' J' hh=>?_
  have e1:((i+1:Nat):Int)=(i:Int)+1:=by omega
  rw[e1]at hh;simpa[Bk.bD,Bk.cells]using hh
theorem NZ{lines:List (List UInt8)}(hl:okL lines):dt T (.call true 32 [lF lines cf] ([]::J)) =
  some (.val (.cQ [.ref J.length 6 0 0,.sl J.length 7 lines.length 0 lines.length 1]) ((ic lines).1.bD J.length (ic lines).2::J)):=by
 refine sF rfl rfl rfl ?_;have hL:=Sf (J:=J) hl lines.length 0 iD [] (by omega) rfl Kv.zero;rw[aC]at hL;simp;refine WL.to hL (by simp) (by simp[Bk.bD,Bk.cells,iD,nl]) ?_;rintro x e J' ⟨rfl,g4,g5,rfl⟩;simp[g4,g5,ic]
end
section
open Go Go.Abs Go.Rock
variable {J:SK}
theorem TZ{f:dF}{bl wt:List Int}(hf:f.valid=true)(hl:bl.length<=9223372036854775807)(hw:bl.length=wt.length):∀(k i:Nat) (last:Int),i+k=bl.length->(i=0->last = -1)->(∀j,i=j+1->bl[j]?=some last)->(-1<=last) ->
  WL T [2,3,4,9] false oR [(2,lF bl aO),(3,lF wt aO),(4,.aZ (fL f)),(9,iI i)] J
   (λx e J'=>J'=J/\if zX f.size last (bl.drop i) (wt.drop i)then x=.exit 0 else x=.ret/\get e 8=.bool false)
 |0,i,last,hi,_,_,_=>by
  refine av oR.eq_1 ?_;have h1:¬i<bl.length:=by omega
  have h2:bl.drop i=[]:=an (by omega);simp[h1,h2,zX]
 |k+1,i,last,hi,g0,g1,g2=>by
  refine av oR.eq_1 ?_;have⟨h1,h1'⟩:i<bl.length/\i<wt.length:=by omega
  obtain⟨q1,q2⟩:=Cs hf;obtain⟨b,hb⟩:=gE h1;obtain⟨w,hw'⟩:∃r,wt[i]?=some r:=⟨_,aK h1'⟩;have h2:=gw hb;have h3:=gw hw';have h4:=bO h1 hl;have h5:=bz hb;have h6:=bz hw';have hB:=λJ=>pR (J:=J) hf
  have w1:=cm (n:=f.size-1);have ih:=λg2=>TZ hf hl hw k (i+1) b (by omega) (by omega) (λj hj=>(show j=i by omega) ▸ hb) g2
  rw[h5,h6,zX];by_cases c0:b<0
  .have c1:bF b 0 (f.size-1)=false:=by simp[bF];omega
   simp[h1,h2,hB,rH,w1,c1,show ¬last<b by omega]
  by_cases c2:f.size<=b
  .have c1:bF b 0 (f.size-1)=false:=by simp[bF];omega
   simp[h1,h2,hB,rH,w1,c1,show ¬b<f.size by omega]
  have c1:bF b 0 (f.size-1)=true:=by simp[bF];omega
  have c3:b<f.size:=by omega
  by_cases ci:i=0
  .have:=g0 ci;subst ci;have c4:last<b:=by omega
   have h1z:0<bl.length:=h1;have h1z':0<wt.length:=h1';simp only[aC,Int.ofNat_zero]at h2 h3 h4;cases c5:bF w (-1000) 1000
   .simp[h1z,h1z',h2,h3,hB,rH,w1,c1,c3,c4,c5]
   .simp[h1z,h1z',h2,h3,hB,rH,w1,c1,c3,c4,c5];exact WL.to (ih (by omega)) (by simp) rfl λx e J hh=>by simpa[c4,c3]using hh
  .have hj:=g1 (i-1) (by omega);have h7:=gw hj;have e1:(((i:Int)-1))=((i-1:Nat):Int):=by omega
   have w2:=cm (n:=(((i-1:Nat):Nat):Int));have⟨h8,c6⟩:i-1<bl.length/\0<i:=by omega
   by_cases c4:b<=last
   .simp[h1,h2,h7,h8,hB,rH,w1,w2,e1,c1,c3,c4,c6,show ¬last<b by omega]
   .cases c5:bF w (-1000) 1000
    .simp[h1,h1',h2,h3,h7,h8,hB,rH,w1,w2,e1,c1,c3,c4,c5,c6,show last<b by omega]
    .simp[h1,h1',h2,h3,h4,h7,h8,hB,rH,w1,w2,e1,c1,c3,c4,c5,c6,show last<b by omega];exact WL.to (ih (by omega)) (by simp) rfl λx e J hh=>by simpa[show last<b by omega,c3]using hh
theorem aa7{f:dF}{k:Int}{bl wt:List Int}(hf:f.valid=true)(hl:bl.length<=9223372036854775807):
  Cl 175 [.agg (fL f),iI k,lF bl aO,lF wt aO] (.bool (E4 f k bl wt)) J:=by
 refine ar ?_;obtain⟨q1,q2,q3,q4,q5⟩:=dF.n9.1 hf;have w1:=cm (n:=f.k-1);unfold E4;cases c1:bF k 0 (f.k-1)
 .simp[rH,w1,c1]
 by_cases c2:1<=bl.length
 rotate_left
 .have:bl=[]:=bw.1 (by omega);subst this;simp[rH,w1,c1]
 have c2':¬(bl.length:Int)<1:=by omega
 have c2'':¬bl=[]:=λh=>by rw[h]at c2;simp at c2
 by_cases c3:bl.length=wt.length
 rotate_left
 .simp[rH,w1,c1,c2',c3,show ¬(bl.length:Int)=wt.length by omega]
 have c4:¬(wt.length:Int)<1:=by omega
 have c5:¬wt=[]:=λh=>by rw[h]at c3;simp at c3;exact c2'' c3
 simp[rH,w1,c1,c3,c4];refine WL.to (TZ (J:=[]::J) hf hl c3 bl.length 0 (-1) (by omega) (λ_=>rfl) (by omega) (by omega)) (by simp[c3]) rfl ?_;rintro x e J' ⟨rfl,h⟩;simp only[aC]at h;cases hc:zX f.size (-1) bl wt
 .simp[hc]at h;simp[h]
 .simp[hc]at h;simp[h];omega
theorem aa1{lo hi:Int}:Cl 176 [.agg [iI lo,iI hi]] (.bool (D9 lo hi)) J:=by
 refine ar ?_;unfold D9;by_cases c1 : -10000000000<=lo
 rotate_left
 .have:bF lo (-10000000000) 10000000000=false:=by simp[bF];omega
  simp[rH,this,c1]
 by_cases c2:lo<=hi
 .by_cases c3:hi<=10000000000
  .have e1:bF lo (-10000000000) 10000000000=true:=aQ.2 (by omega);have e2:bF hi (-10000000000) 10000000000=true:=aQ.2 (by omega);simp[rH,e1,e2,c1,c2,c3]
  .have e2:bF hi (-10000000000) 10000000000=false:=by simp[bF];omega
   cases e1:bF lo (-10000000000) 10000000000<;>simp[rH,e1,e2,c1,c2,c3]
 .cases e1:bF lo (-10000000000) 10000000000<;>cases e2:bF hi (-10000000000) 10000000000<;>simp[rH,e1,e2,c1,c2]
theorem RT{f:dF}{m:rm}(hf:f.valid=true)(hn:m.name.length<=9223372036854775807)(hl:m.bl.length<=9223372036854775807):
  Cl 137 [.agg (fL f),.agg m.enc] (iI (f.measure m)) J:=by
 refine ar ?_;have h1:=λJ=>J5 (J:=J) hn
 have h2:=λJ=>aa7 (J:=J) (k:=m.kind) (wt:=m.wt) hf hl
 unfold dF.measure;cases c1:named m.name
 .simp[h1,c1]
 cases c2:E4 f m.kind m.bl m.wt
 .simp[h1,h2,c1,c2]
 cases c3:D9 m.lo m.hi<;>simp[h1,h2,aa1,c1,c2,c3]
theorem MU{l:List rm}{m:rm}{i:Nat}{d2:D}(hd2:d2.strip=d2/\d2.calm=d2)(hm:l[i]?=some m)(hl:l.length<=9223372036854775807):∀(k j:Nat),j+k=i ->
  WL T [1,2,5,7] false fp [(1,lF l rm.enc),(2,d2),(5,iI i),(7,iI j)] J
   (λx e J'=>J'=J/\if(((l.take i).drop j).map rm.name).contains m.name then x=.ret/\get e 4=iI 6 else x=.exit 2/\get e 1=lF l rm.enc/\get e 2=d2/\get e 5=iI i)
 |0,j,hj=>by
  refine av fp.eq_1 ?_;obtain rfl:j=i:=by omega
  have h2:(l.take j).drop j=[]:=an (by rw[bY];omega);rw[h2];simp[hd2.2]
 |k+1,j,hj=>by
  refine av fp.eq_1 ?_;have h0:i<l.length:=(aA.1 hm).1;have⟨h1,h1'⟩:j<i/\j<l.length:=by omega
  obtain⟨r,hr⟩:∃r,l[j]?=some r:=gE (by omega);have h2:=Kj hr;have h3:=Kj hm;simp only[rm.enc]at h2 h3;have h4:=bO h1';have h5:(l.take i).drop j=r::(l.take i).drop (j+1):=bz (by rw[dp];simp[h1,hr]);have ih:=MU hd2 hm hl k (j+1) (by omega);rw[h5,aM];have hp:ia (.seq false) [.str r.name,.str m.name]=some (.bool (r.name == m.name)):=rfl;by_cases hc:r.name=m.name
  .rw[hc]at hp;simp[h0,h1,h1',h2,h3,hp,hc,hd2.2]
  .have hc':¬m.name=r.name:=λh=>hc h.symm
   have hb:(r.name == m.name)=false:=by simpa using hc
   rw[hb]at hp;simp[h0,h1,h1',h2,h3,h4,hp,hd2.2];exact WL.to ih (by simp) rfl λx e J' hh=>by simpa[hc']using hh
theorem Jm{f:dF}{l:List rm}(hf:f.valid=true)(hs:∀m∈l,m.name.length<=9223372036854775807/\m.bl.length<=9223372036854775807)(hl:l.length<=9223372036854775807):∀(k i:Nat),i+k=l.length ->
  WL T [1,2,5] false fq [(1,lF l rm.enc),(2,.aZ (fL f)),(5,iI i)] J
   (λx e J'=>J'=J/\if f.yH ((l.take i).map rm.name) (l.drop i)=0 then x=.exit 0 else x=.ret/\get e 4=iI (f.yH ((l.take i).map rm.name) (l.drop i)))
 |0,i,hi=>by
  refine av fq.eq_1 ?_;have h1:¬i<l.length:=by omega
  have h2:l.drop i=[]:=an (by omega);simp[h1,h2,dF.yH]
 |k+1,i,hi=>by
  refine av fq.eq_1 ?_;have h1:i<l.length:=by omega
  obtain⟨m,hm⟩:=gE h1;have h2:=Kj hm;have h4:=bO h1;have h5:=bz hm;obtain⟨hs1,hs2⟩:=hs m (ai hm);have hC:=λJ=>RT (J:=J) hf hs1 hs2
  simp only[rm.enc]at h2 hC;have ih:=Jm hf hs hl k (i+1) (by omega);have e1:(l.take (i+1)).map rm.name=(l.take i).map rm.name++[m.name]:=by rw[List.take_add_one,hm];simp
  rw[e1]at ih;rw[h5,dF.yH];by_cases hc1:f.measure m=0
  .simp[h1,h2,hC,hc1];refine WL.to (MU (d2:=.aZ (fL f)) ⟨rfl,rfl⟩ hm hl i 0 (by omega)) (by simp) rfl ?_;rintro x e J' ⟨rfl,h⟩;simp only[aC]at h;cases hc:((l.take i).map rm.name).contains m.name
   .rw[hc]at h;simp at h;obtain⟨rfl,g1,g2,g5⟩:=h;simp[g1,g2,g5,h4];have hc':¬m.name∈List.take i (List.map rm.name l):=by simpa using hc
    exact WL.to ih (by simp) rfl λx e J' hh=>by simpa[hc1,hc']using hh
   .rw[hc]at h;simp at h;have hc':m.name∈List.take i (List.map rm.name l):=by simpa using hc
    simp[h,hc1]
  .simp[h1,h2,hC,hc1]
theorem Ps{f:dF}{l:List rm}(hf:f.valid=true)(hs:∀m∈l,m.name.length<=9223372036854775807/\m.bl.length<=9223372036854775807)(hl:l.length<=9223372036854775807):
  Cl 95 [.agg (fL f),lF l rm.enc] (iI (f.xb l)) J:=by
 refine ar ?_;unfold dF.xb;by_cases h2:12<l.length
 .simp[h2,show(12:Int)<l.length by omega]
 rw[if_neg h2];simp[show ¬(12:Int)<l.length by omega];refine WL.to (Jm (J:=[]::J) hf hs hl l.length 0 (by omega)) (by simp) (by simp) ?_;rintro x e J' ⟨rfl,h⟩;simp only[aC,List.take_zero,b9]at h;by_cases hc:f.yH [] l=0
 .rw[if_pos hc]at h;subst h;simp[hc]
 .rw[if_neg hc]at h;obtain⟨rfl,h⟩:=h;simp[h]
theorem Jn{b:bU}{rd:List tU}{n:Nat}(h:Bv b)(hl:rd.length<=40)(hw:∀x∈rd,0<=x.ka/\x.ka<=255):∀(k i:Nat),i+k=rd.length ->
  WL T [1,2,3,7] false ft [(1,iI n),(2,lF rd tU.enc),(3,.aZ (bL b)),(7,iI i)] J
   (λx e J'=>J'=J/\if b8 (eU b n) (rd.drop i)=0 then x=.exit 0 else x=.ret/\get e 6=iI (b8 (eU b n) (rd.drop i)))
 |0,i,hi=>by
  refine av ft.eq_1 ?_;have h1:¬i<rd.length:=by omega
  have h2:rd.drop i=[]:=an (by omega);simp[h1,h2,b8]
 |k+1,i,hi=>by
  refine av ft.eq_1 ?_;have h1:i<rd.length:=by omega
  obtain⟨x,hx⟩:=gE h1;have h2:=OS hx;simp only[tU.enc]at h2;have h4:=bO h1;have h5:=bz hx;have hwx:=hw x (ai hx);have hz:=h.sz;have hn:=h.n;have hwl:=h.aw;have hS:=λJ=>pR (J:=J) h.fv
  have hsz:b.f.size=(b.n:Int):=hz;rw[hsz]at hS;have hsz':b.size=(b.n:Int):=hz;have w2:=cm (n:=(b.n:Int)-1);have w3:=cm (n:=(b.aw.length:Int)-1);have ih:=Jn (n:=n) h hl hw k (i+1) (by omega);rw[h5,b8];by_cases c0:x.ka<1
  .have c1:bF x.ka 1 4=false:=by simp[bF];omega
   have hE:eU b n x=1:=by simp[eU,c1]
   rw[hE];simp[h1,h2,c0]
  by_cases c0':4<x.ka
  .have c1:bF x.ka 1 4=false:=by simp[bF];omega
   have hE:eU b n x=1:=by simp[eU,c1]
   rw[hE];simp[h1,h2,c0,c0']
  have c1:bF x.ka 1 4=true:=aQ.2 (by omega);by_cases c2:x.lo < -10000000000
  .have hE:eU b n x=1:=by simp[eU,c1,c2]
   rw[hE];simp[h1,h2,c0,c0',c2]
  by_cases c3:x.hi<x.lo
  .have hE:eU b n x=1:=by simp[eU,c1,c2,c3]
   rw[hE];simp[h1,h2,c0,c0',c2,c3]
  by_cases c4:10000000000<x.hi
  .have hE:eU b n x=1:=by simp[eU,c1,c2,c3,c4]
   rw[hE];simp[h1,h2,c0,c0',c2,c3,c4]
  by_cases c5:x.ka=1
  .have c1':bF 1 1 4=true:=rfl;cases c6:bF x.tick 0 n
   .have hE:eU b n x=2:=by simp[eU,c1',c2,c3,c4,c5,c6]
    rw[hE];simp[h1,h2,c2,c3,c4,c5,c6,dw]
   .cases c7:bF x.idx 0 ((b.n:Int)-1)
    .have hE:eU b n x=2:=by simp[eU,c1',c2,c3,c4,c5,c6,c7,hsz']
     rw[hE];simp[h1,h2,c2,c3,c4,c5,c6,c7,dw,hS,w2]
    .have hE:eU b n x=0:=by simp[eU,c1',c2,c3,c4,c5,c6,c7,hsz']
     rw[hE];simp[h1,h2,h4,c2,c3,c4,c5,c6,c7,dw,hS,w2];exact WL.to ih (by simp) rfl λx e J hh=>by simpa using hh
  .have c8:1<x.ka:=by omega
   cases c6:bF x.tick 1 n
   .have hE:eU b n x=2:=by simp[eU,c1,c2,c3,c4,c5,c6]
    rw[hE];simp[h1,h2,c0,c0',c2,c3,c4,c5,c8,c6,dw]
   .cases c7:bF x.idx 0 ((b.aw.length:Int)-1)
    .have hE:eU b n x=2:=by simp[eU,c1,c2,c3,c4,c5,c6,c7]
     rw[hE];simp[h1,h2,c0,c0',c2,c3,c4,c5,c8,c6,c7,dw,w3]
    .have hE:eU b n x=0:=by simp[eU,c1,c2,c3,c4,c5,c6,c7]
     rw[hE];simp[h1,h2,h4,c0,c0',c2,c3,c4,c5,c8,c6,c7,dw,w3];exact WL.to ih (by simp) rfl λx e J hh=>by simpa using hh
theorem NW{b:bU}{rd:List tU}{n:Nat}(h:Bv b)(hl:rd.length<=9223372036854775807)(hw:∀x∈rd,0<=x.ka/\x.ka<=255){wq:D}(hwq:wq.rN=lF b.aw bA.enc):
  Cl 104 [.agg [iI b.f.x,iI b.f.y,iI b.f.z,iI b.f.k,lF b.c9 Rw.enc,iI b.cG,iI b.lift,iI b.deep,wq],iI n,lF rd tU.enc] (iI (vR b n rd)) J:=by
 refine ar ?_;unfold vR;by_cases h2:40<rd.length
 .simp[hwq,h2,show(40:Int)<rd.length by omega]
 rw[if_neg h2];simp[hwq,show ¬(40:Int)<rd.length by omega];refine WL.to (Jn (J:=[]::J) (n:=n) h (by omega) hw rd.length 0 (by omega)) (by simp) (by simp) ?_;rintro x e J' ⟨rfl,hh⟩;simp only[aC]at hh;by_cases hc:b8 (eU b n) rd=0
 .rw[if_pos hc]at hh;subst hh;simp[hc]
 .rw[if_neg hc]at hh;obtain⟨rfl,hh⟩:=hh;simp[hh]
end
section
open Go Go.Abs Go.Rock Go.Book
variable {J:SK}
def bW(b:Bk):List D:=[iI b.aR.f.x,iI b.aR.f.y,iI b.aR.f.z,iI b.aR.f.k,nl Rw.enc b.aR.c9,iI b.aR.cG,iI b.aR.lift,iI b.aR.deep,nl bA.enc b.aR.aw,
 nl dU.enc b.aj,nl pE b.az,nl Trem.cc.enc b.rules,nl Trem.Ev.enc b.lL,iI b.k0,iI b.k1,iI b.k2,nl jD.enc b.cp,nl GG.enc b.cA,.bool b.ready,nl DW.enc b.eg]
theorem sC{α:Type}{f:α->List D}(h:∀x,D.aW (f x)=true)(l:List α):(nl f l).clean=true:=by
 unfold nl;split
 .rfl
 .simp[D.clean,ef h l]
theorem fS{α:Type}{f:α->List D}(l:List α):V0 (nl f l)=some (iI l.length):=by
 unfold nl;split
 .rename_i h;rw[h];rfl
 .rfl
theorem fI{α:Type}{f:α->List D}{l:List α}(h:l≠[]):nl f l=lF l f:=by simp[nl,h]
theorem ES{α:Type}{f:α->List D}:nl f ([]:List α)=.bu:=rfl
theorem clE(x:dU):D.aW x.enc=true:=by simp[D.clean,kR]
theorem ae7(x:Trem.cc):D.aW x.enc=true:=by simp[D.clean]
theorem ae6(x:Trem.Ev):D.aW x.enc=true:=by simp[D.clean,ef (f:=Trem.oc.enc) (λ_=>by simp[D.clean])]
theorem ae9(x:jD):D.aW x.enc=true:=by simp[D.clean,ef (f:=Prt.enc) (λ_=>by simp[D.clean])]
theorem ae8(x:GG):D.aW x.enc=true:=by simp[D.clean]
theorem afa(x:DW):D.aW x.enc=true:=by simp[D.clean]
theorem aip(x:List Int):D.aW (pE x)=true:=by simp[pE,D.clean,kR]
theorem nlc{b:Bk}:(nl Rw.enc b.aR.c9).clean=true/\(nl bA.enc b.aR.aw).clean=true/\(nl dU.enc b.aj).clean=true/\(nl pE b.az).clean=true/\(nl Trem.cc.enc b.rules).clean=true/\(nl Trem.Ev.enc b.lL).clean=true/\(nl jD.enc b.cp).clean=true/\(nl GG.enc b.cA).clean=true/\(nl DW.enc b.eg).clean=true :=
 ⟨sC (λ_=>by simp[D.clean]) _,sC (λ_=>by simp[D.clean]) _,sC clE _,sC aip _,sC ae7 _,sC ae6 _,sC ae9 _,sC ae8 _,sC afa _⟩
theorem n8{b:Bk}:D.aW (bW b)=true:=by
 obtain⟨h1,h2,h3,h4,h5,h6,h7,h8,h9⟩:=nlc (b:=b);simp[bW,D.clean,h1,h2,h3,h4,h5,h6,h7,h8,h9]
theorem fT{b:Bk}:(bW b).length=20:=rfl
theorem eI{b:Bk}:(bW b).take 20=bW b:=rfl
def gY(l:List dU):List cg:=(cj l).map (·.m)
theorem SH{l:List dU}{i:Nat}{e:dU}(h:l[i]?=some e):gY (l.take (i+1))=if e.left=true then gY (l.take i)++[e.m]else gY (l.take i):=by
 rw[List.take_add_one,h];unfold gY cj;cases hl:e.left<;>simp[hl]
theorem LB(l:List dU):(gY l).length<=l.length:=by
 unfold gY cj;rw[bH];exact fD _ _
theorem Ot{l:List dU}{i:Nat}{e:dU}(h:l[i]?=some e):((fM l dU.enc).drop (i*4)).take 4=e.enc:=aP (f:=dU.enc) (w:=4) (λ_=>rfl) h
theorem TI{b:Bk}(hl:b.aj.length<=40):∀(k i:Nat),i+k=b.aj.length ->
  WL T [1,3,4] false oT [(1,.aZ (bW b)),(3,.sl J.length 0 (gY (b.aj.take i)).length 0 (gY (b.aj.take i)).length 2),(4,iI i)] ([.cells (gY (b.aj.take i)).length (fM (gY (b.aj.take i)) cg.enc)]::J)
   (λx e J'=>x=.exit 0/\get e 3=.sl J.length 0 (gY b.aj).length 0 (gY b.aj).length 2/\J'=[.cells (gY b.aj).length (fM (gY b.aj) cg.enc)]::J)
 |0,i,hi=>by
  refine av oT.eq_1 ?_;obtain rfl:i=b.aj.length:=by omega
  rw[af (aN _)];simp[bW]
 |k+1,i,hi=>by
  refine av oT.eq_1 ?_;have⟨h1,h1'⟩:i<b.aj.length/\(i:Int)<b.aj.length:=by omega
  obtain⟨e,he⟩:=gE h1;have hne:b.aj≠[]:=λh=>by rw[h]at h1;simp at h1
  have h2:=Ot he;simp only[dU.enc]at h2;have h4:=bO h1;have hn:=fI (f:=dU.enc) hne;have ih:=TI hl k (i+1) (by omega);rw[SH he]at ih;have a1:=LB (b.aj.take i);rw[bY]at a1;have a4:=ab7 (gY (b.aj.take i));cases hc:e.left
  .rw[hc]at ih h2;simp only[aD,if_false]at ih;simp[bW,hn,h1',h2,h4];exact WL.to ih (by simp[bW,hn]) rfl λx e J hh=>hh
  .rw[hc]at ih h2;simp only[if_true]at ih;have a6:(fM (gY (b.aj.take i)) cg.enc).take ((gY (b.aj.take i)).length*2)=fM (gY (b.aj.take i)) cg.enc:=af (by omega);have h7:((gY (b.aj.take i)).length+1)*40<=room:=by unfold room;omega
   generalize gY (b.aj.take i)=M at *
   simp[bW,hn,h1',h2,h4,a4,a6,h7];exact WL.to ih (by simp[bW,hn]) (by simp) λx e J hh=>hh
theorem NU{b:Bk}(hl:b.aj.length<=40)(hJ:J≠[]):Cl 101 [.agg (bW b)] (lF (gY b.aj) cg.enc) J:=by
 refine ar ?_;simp;refine WL.to (TI (J:=J) (b:=b) hl b.aj.length 0 (by omega)) (by simp[gY,cj]) (by simp[gY,cj]) ?_;rintro x e J' ⟨rfl,g3,rfl⟩;have hk:=gG (n:=16) (f:=cg.enc) (w:=2) (l:=gY b.aj) (j:=0) (v:=(gY b.aj).length) (bs:=[.cells (gY b.aj).length (fM (gY b.aj) cg.enc)]) (by decide) (λ_=>rfl) (λx=>by simp[D.clean,kR]) hJ rfl;simp[g3,hk]
theorem NX{b:Bk}(hl:b.aj.length<=40):Cl 98 [.agg (bW b)] (.bool (decide (cj b.aj≠[]))) J:=by
 refine ar ?_;have hL:=λJ hJ=>NU (J:=J) hl hJ
 try simp only[lF,Cl]at hL
 have hz:(gY b.aj).length=(cj b.aj).length:=by simp[gY]
 rw[hz]at hL;by_cases hc:cj b.aj=[]
 .have h0:(cj b.aj).length=0:=by rw[hc];rfl
  rw[h0]at hL;simp[hL,hc,fT,eI]
 .have h0:0<(cj b.aj).length:=aH.2 hc;have h0':(0:Int)<(cj b.aj).length:=by omega
  simp[hL,hc,h0,fT,eI]
def Kl(L:Nat)(b:Bk):List D:=[iI b.aR.f.x,iI b.aR.f.y,iI b.aR.f.z,iI b.aR.f.k,nl Rw.enc b.aR.c9,iI b.aR.cG,iI b.aR.lift,iI b.aR.deep,nl bA.enc b.aR.aw,
 .sl L 0 0 0 b.aj.length 4,nl pE b.az,nl Trem.cc.enc b.rules,nl Trem.Ev.enc b.lL,iI b.k0,iI b.k1,iI b.k2,nl jD.enc b.cp,nl GG.enc b.cA,.bool b.ready,.sl L 1 0 0 b.eg.length 4]
def RP(b:Bk):List Abs.aF:=[.cells 0 (fM b.aj dU.enc),.cells 0 (fM b.eg DW.enc)]
def zS:List D:=[iI 0,iI 0,iI 0,iI 0,.bu,iI 0,iI 0,iI 0,.bu,.bu,.bu,.bu,.bu,iI 0,iI 0,iI 0,.bu,.bu,.bool false,.bu]
theorem E6:zS.length=20:=rfl
theorem AX{l:List D}:l++zS.drop 20=l:=by simp[zS]
theorem acB{L:Nat}{b:Bk}:(Kl L b).length=20:=rfl
theorem ZQ{L:Nat}{b:Bk}:(Kl L b).take 20=Kl L b:=rfl
theorem Ew{l n:Nat}(hn:0<n):∀{pre:List D} {d:D} {post:List D} {S:SK},D.aW pre=true->cH.frzL (cH l n) (pre++d::post) S=(pre++(cH l n d S).1::(cH.frzL (cH l n) post (cH l n d S).2).1,(cH.frzL (cH l n) post (cH l n d S).2).2):=by
 intro pre d post S h;rw[Qz,Lq h hn];simp
theorem afr{b:Bk}(hm:b.aj≠[])(hw:b.eg≠[])(hJ:J≠[]):cH (J.length-1) 16 (.agg (Kl J.length b)) (RP b::J)=(.agg (bW b),[.dead,.dead]::J):=by
 obtain⟨h1,h2,h3,h4,h5,h6,h7,h8,h9⟩:=nlc (b:=b);have k1:=gG (n:=15) (f:=dU.enc) (w:=4) (l:=b.aj) (j:=0) (v:=0) (bs:=RP b) (by decide) (λ_=>rfl) clE hJ rfl;have k2:=gG (n:=15) (f:=DW.enc) (w:=4) (l:=b.eg) (j:=1) (v:=0) (bs:=[.dead,.cells 0 (fM b.eg DW.enc)]) (by decide) (λ_=>rfl) afa hJ rfl;rw[vW (by simp[Kl]) (by omega)];rw[show Kl J.length b=(Kl J.length b).take 9 ++ .sl J.length 0 0 0 b.aj.length 4::((Kl J.length b).drop 10).take 9++[.sl J.length 1 0 0 b.eg.length 4]from rfl,cS,cC];rw[Ew (by omega) (by simp[Kl,D.clean,h1,h2]),k1];simp only[RP,List.set_cons_zero];rw[Ew (by omega) (by simp[Kl,D.clean,h4,h5,h6,h7,h8]),k2];simp[Kl,bW,fI hm,fI hw]
def adu(lo hi:Int)(val:cg->Int)(e:dU)(v:Int):Prop:=e.left=true->bF v lo hi=bF (val e.m) lo hi/\(bF v lo hi=false->v=val e.m)
theorem MV{b:Bk}{lo hi:Int}{val:cg->Int}{vs:List Int}(hw:b.eg.length=b.aj.length)(hl:b.aj.length<=40)(hvl:vs.length=b.aj.length)
  (hv:∀(i:Nat) e v,b.aj[i]?=some e->vs[i]?=some v->adu lo hi val e v):∀(m i:Nat),i+m=b.aj.length ->
  WL T [1,2,3,4,5,10,11] false mq [(1,iI b.at_),(2,lF vs aO),(3,iI lo),(4,iI hi),(5,.own 0 (Kl J.length (b.gF lo hi val i))),(10,.own 0 zS),(11,iI i)] (RP (b.gF lo hi val i)::J)
   (λx e J'=>x=.exit 0/\get e 5=.own 0 (Kl J.length (ig b lo hi val))/\get e 10=.own 0 zS/\J'=RP (ig b lo hi val)::J)
 |0,i,h=>by
  refine av mq.eq_1 ?_;obtain rfl:i=b.aj.length:=by omega
  have hml:=uS (b:=b) (lo:=lo) (hi:=hi) (val:=val) (i:=b.aj.length);simp[Kl,RP,hml,ig,zS]
 |m+1,i,h=>by
  refine av mq.eq_1 ?_;have⟨h1,h1v⟩:i<b.aj.length/\i<vs.length:=by omega
  obtain⟨e,he⟩:=gE h1;obtain⟨v,hvi⟩:=gE h1v;have a1:=aP (f:=aO) (w:=1) (λ_=>rfl) hvi;simp only[aO,bJ]at a1;have hat:=U0 (lo:=lo) (hi:=hi) (val:=val) he;have hfl:=aP (f:=dU.enc) (w:=4) (λ_=>rfl) hat;have hml:=uS (b:=b) (lo:=lo) (hi:=hi) (val:=val) (i:=i);have hwl:=wy (b:=b) (lo:=lo) (hi:=hi) (val:=val) (i:=i);have h4:=bO h1;have ih:=MV hw hl hvl hv m (i+1) (by omega);have hd:=re (f:=dU.enc) (w:=4) (λ_=>rfl) hat;have hd2:(fM (b.gF lo hi val i).aj dU.enc).drop (i*4+2)=.bool e.left::iI e.Of::(fM (b.gF lo hi val i).aj dU.enc).drop (i*4+4):=by
   have:=congrArg (List.drop 2) hd;simpa[dn]using this
  have hlen:=yn (b.gF lo hi val i).aj;rw[hml]at hlen;have q:4<=b.aj.length*4-i*4:=by omega
  have hh:=hv i e v he hvi;cases hc1:e.left with
  |false =>
   have hst:isStr lo hi val e=false:=by simp[isStr,hc1]
   rw[FB he hst]at ih;simp[h1,Kl,RP,hml,hwl,hd2,h4,hc1];exact WL.to ih (by simp[Kl,hml,hwl]) (by simp[RP]) λx e J' hh=>by simpa[Kl,RP,uS,wy]using hh
  |true =>
   obtain⟨hi1,hi2⟩:=hh hc1;cases hc2:bF v lo hi with
   |true =>
    have hst:isStr lo hi val e=false:=by simp[isStr,<- hi1,hc2]
    rw[FB he hst]at ih;simp[h1,h1v,a1,Kl,RP,hml,hwl,hd2,h4,hc1,dw,hc2];exact WL.to ih (by simp[Kl,hml,hwl]) (by simp[RP]) λx e J' hh=>by simpa[Kl,RP,uS,wy]using hh
   |false =>
    have hst:isStr lo hi val e=true:=by simp[isStr,hc1,<- hi1,hc2]
    obtain⟨hn1,hn2⟩:=NP he hst hw;rw[<- hi2 hc2]at hn2;have⟨q2,q3⟩:i*4+2+1<=b.aj.length*4/\i*4+3+1<=b.aj.length*4:=by omega
    have p1:=Hc (f:=dU.enc) (w:=4) (k:=2) (v:=.bool false) (λ_=>rfl) (by omega) (x':=⟨e.m,false,e.Of⟩) hat rfl;have hat2:((b.gF lo hi val i).aj.set i ⟨e.m,false,e.Of⟩)[i]?=some ⟨e.m,false,e.Of⟩:=by simp[hml,h1]
    have p2:=Hc (f:=dU.enc) (w:=4) (k:=3) (v:=iI b.at_) (λ_=>rfl) (by omega) (x':=⟨e.m,false,b.at_⟩) hat2 rfl;rw[List.set_set]at p2;have hl2:=yn ((b.gF lo hi val i).aj.set i ⟨e.m,false,e.Of⟩);rw[List.length_set,hml]at hl2;have⟨h5,q5⟩:i<b.eg.length/\i*4+4<=b.eg.length*4:=by omega
    have hwe:=Io (b.gF lo hi val i).eg;rw[hwl]at hwe;have p3:=No (f:=DW.enc) (w:=4) (λ_=>rfl) (l:=(b.gF lo hi val i).eg) (i:=i) (x:=⟨b.at_,v,lo,hi⟩) (by omega);simp only[DW.enc,cC,List.nil_append]at p3;simp[h1,h1v,a1,Kl,RP,hml,hwl,hd2,hlen,h4,hc1,dw,hc2,q2,q3,p1,p2,hl2,h5,q5,hwe,p3];exact WL.to ih (by simp[Kl,hwl,hn1,hn2,hml]) (by simp[RP,hn1,hn2]) λx e J' hh=>by simpa[Kl,RP,uS,wy]using hh
theorem MR{b:Bk}{lo hi:Int}{val:cg->Int}{vs:List Int}(hm:b.aj≠[])(hw:b.eg.length=b.aj.length)(hl:b.aj.length<=40)(hvl:vs.length=b.aj.length)
  (hv:∀(i:Nat) e v,b.aj[i]?=some e->vs[i]?=some v->adu lo hi val e v) (hJ:J≠[]):
  Cl 97 [.agg (bW b),iI b.at_,lF vs aO,iI lo,iI hi] (.agg (bW (ig b lo hi val))) J:=by
 refine ar ?_;have hwn:b.eg≠[]:=λh=>by rw[h]at hw;exact hm (bw.1 hw.symm)
 have h:=MV (J:=J) hw hl hvl hv b.aj.length 0 (by omega);rw[NQ]at h;have e1:=fI (f:=dU.enc) hm;have e2:=fI (f:=DW.enc) hwn;have⟨r1,r2⟩:b.aj.length*56<=room/\b.eg.length*32<=room:=by unfold room;omega
 have l1:=yn b.aj;have l2:=Io b.eg;simp[bW,e1,e2,r1,r2,l1,l2,hm,hwn];refine WL.to h (by simp[Kl,zS]) (by simp[RP]) ?_;rintro x e J' ⟨rfl,g5,g10,rfl⟩;have hm':(ig b lo hi val).aj≠[]:=λh=>by have:=uS (b:=b) (lo:=lo) (hi:=hi) (val:=val) (i:=b.aj.length);unfold ig at h;rw[h]at this;exact hm (bw.1 this.symm)
 have hw':(ig b lo hi val).eg≠[]:=λh=>by have:=wy (b:=b) (lo:=lo) (hi:=hi) (val:=val) (i:=b.aj.length);unfold ig at h;rw[h]at this;exact hwn (bw.1 this.symm)
 have hf:=afr hm' hw' hJ;simp[g5,g10,E6,AX,acB,ZQ,hf];rfl
end
end Go.Proofs.YtpapbbojmclkgaaGreatDoor
namespace Go.Book
open Go Go.Abs Go.Rock
def Lm(l:List Prt)(i:Nat):Bool:=match l[i]? with
 |some p=>bF p.width 1 100000 && (bF p.lj 0 1000 && (i == 0 || decide (p.lj<=lu l i)))
 |none=>true
theorem YM{l:List Prt}:(∀j,j<l.length->Lm l j=true)↔∀j,j<l.length->Cn l j=true:=by
 have key:∀j p,l[j]?=some p->(Lm l j=true↔bF p.width 1 100000=true/\bF p.lj 0 1000=true/\(j=0\/p.lj<=lu l j)):=by
  intro j p h;simp[Lm,h]
 have key2:∀j p,l[j]?=some p->(Cn l j=true↔bF p.lj 0 (lu l j)=true/\bF p.width 1 100000=true):=by
  intro j p h;simp[Cn,h,Prt.ok]
 have get:∀j,j<l.length->∃p,l[j]?=some p:=λj h=>⟨_,aK h⟩
 have la:∀j p,l[j]?=some p->lu l (j+1)=p.lj:=λj p h=>by simp[lu,h]
 constructor
 .intro h j hj;obtain⟨p,hp⟩:=get j hj;obtain⟨h1,h2,h3⟩:=(key j p hp).1 (h j hj);rw[key2 j p hp];refine⟨?_,h1⟩;rw[aQ]at h2 ⊢;rcases h3 with h3 | h3
  .subst h3;simpa[lu]using h2
  .exact⟨h2.1,h3⟩
 .intro h j hj;obtain⟨p,hp⟩:=get j hj;obtain⟨h1,h2⟩:=(key2 j p hp).1 (h j hj);rw[key j p hp];rw[aQ]at h1;have hl:lu l j<=1000:=by
   clear h1 h2;induction j generalizing p with
   |zero=>simp[lu]
   |succ j ih =>
    obtain⟨q,hq⟩:=get j (by omega);have h1:=((key2 j q hq).1 (h j (by omega))).1;rw[aQ]at h1;have:=ih (by omega) q hq;rw[la j q hq];omega
  exact⟨h2,aQ.2 (by omega),.inr h1.2⟩
theorem aaf{u:jD}:u.ok=true↔(∀j,j<u.parts.length->Lm u.parts j=true)/\bF u.vo 0 5=true/\1<=u.parts.length/\u.parts.length<=8:=by
 rw[YM,<- Na,jD.ok,ah,ah,aQ (n:=(u.parts.length:Int))];constructor
 .rintro⟨h1,h2,h3⟩;exact⟨h3,h1,by omega⟩
 .rintro⟨h1,h2,h3⟩;exact⟨h2,by omega,h1⟩
end Go.Book
namespace Go.Proofs.YtpapbbojmclkgaaGreatDoor
open Go Go.Abs Go.Rock Go.Book
variable {J:SK}
theorem TL{u:jD}(hl:u.parts.length<=1000000):∀(k i:Nat),i+k=u.parts.length ->
  WL T [1,3] false kP [(1,.aZ u.enc),(3,iI i)] J
   (λx e J'=>J'=J/\((x=.exit 0/\get e 1=.aZ u.enc/\∀j,i<=j->j<u.parts.length->Lm u.parts j=true)\/(x=.ret/\get e 2=.bool false/\∃j,j<u.parts.length/\Lm u.parts j=false)))
 |0,i,hi=>by
  refine av kP.eq_1 ?_;obtain rfl:i=u.parts.length:=by omega
  simp;intro j h1 h2;omega
 |k+1,i,hi=>by
  refine av kP.eq_1 ?_;have h1:i<u.parts.length:=by omega
  obtain⟨p,hp⟩:=gE h1;have h2:=aP (f:=Prt.enc) (w:=2) (λ_=>rfl) hp;have h4:=bO h1;have ih:=TL hl k (i+1) (by omega);have step:Lm u.parts i=true->WL T [1,3] false kP [(1,.aZ u.enc),(3,iI (i+1:Nat))] J
   (λx e J'=>J'=J/\((x=.exit 0/\get e 1=.aZ u.enc/\∀j,i<=j->j<u.parts.length->Lm u.parts j=true)\/(x=.ret/\get e 2=.bool false/\∃j,j<u.parts.length/\Lm u.parts j=false))):=by
   intro hq;refine WL.to ih rfl rfl ?_;rintro x e J' ⟨h1,h2 | h2⟩
   .refine⟨h1,.inl ⟨h2.1,h2.2.1,λj hj hj2=>?_⟩⟩;by_cases hij:j=i
    .rw[hij];exact hq
    .exact h2.2.2 j (by omega) hj2
   .exact⟨h1,.inr h2⟩
  have hf:Lm u.parts i=(bF p.width 1 100000 && (bF p.lj 0 1000 && (i == 0 || decide (p.lj<=lu u.parts i)))):=by simp[Lm,hp]
  cases c1:bF p.width 1 100000
  .rw[c1]at hf;simp[h1,h2,c1,dw];exact⟨i,h1,by simpa using hf⟩
  cases c2:bF p.lj 0 1000
  .rw[c1,c2]at hf;simp[h1,h2,c1,c2,dw];exact⟨i,h1,by simpa using hf⟩
  simp only[jD.enc]at step;by_cases hz:i=0
  .have q1:¬0<i:=by omega
   simp[h1,h2,h4,c1,c2,dw,q1];exact WL.to (step (by rw[hf,c1,c2,hz];rfl)) (by simp) rfl λx e J' hh=>hh
  .obtain⟨q,hq⟩:∃q,u.parts[i-1]?=some q:=⟨_,aK (by omega)⟩;have d2:=aP (f:=Prt.enc) (w:=2) (λ_=>rfl) hq;have w1:=cm (n:=(i:Int)-1);have⟨e1,q1,q2,q3⟩:((i:Int)-1).toNat=i-1/\0<i/\1<=(i:Int)/\(i:Int)-1<u.parts.length:=by omega
   have hla:lu u.parts i=q.lj:=by
    obtain⟨m,rfl⟩:∃m,i=m+1:=⟨i-1,by omega⟩;simp at hq;simp[lu,hq]
   rw[hla,c1,c2]at hf;by_cases c3:p.lj<=q.lj
   .have c3':¬q.lj<p.lj:=by omega
    simp[h1,h2,h4,c1,c2,dw,d2,w1,e1,q1,q2,q3,c3'];refine WL.to (step (by simp[hf,c3])) (by simp) rfl λx e J' hh=>by simpa using hh
   .have c3':q.lj<p.lj:=by omega
    simp[h1,h2,c1,c2,dw,d2,w1,e1,q1,q2,q3,c3'];exact⟨i,h1,by simp[hf,c3,hz]⟩
theorem Ve{u:jD}(hl:u.parts.length<=1000000):Cl 106 [.agg u.enc] (.bool u.ok) J:=by
 refine ar ?_;simp;refine WL.to (TL hl u.parts.length 0 (by omega)) (by simp) rfl ?_;rintro x e J' ⟨rfl,⟨rfl,g1,h⟩ | ⟨rfl,g2,j,hj,h⟩⟩
 .have hu:u.ok=true↔bF u.vo 0 5=true/\1<=u.parts.length/\u.parts.length<=8:=by
   rw[aaf];exact⟨λh=>h.2,λhh=>⟨λj=>h j (by omega),hh⟩⟩
  cases c1:bF u.vo 0 5
  .have:u.ok=false:=by rw[c1]at hu;simpa using hu
   simp[g1,dw,c1,this]
  by_cases c2:1<=u.parts.length
  .have c2':(1:Int)<=u.parts.length:=by omega
   by_cases c3:u.parts.length<=8
   .have:u.ok=true:=hu.2 ⟨c1,c2,c3⟩;simp[g1,dw,c1,this,c2',show(u.parts.length:Int)<=8 by omega]
   .have:u.ok=false:=by cases hk:u.ok with
     |false=>rfl
     |true=>exact absurd (hu.1 hk).2.2 c3
    simp[g1,dw,c1,this,c2',show ¬(u.parts.length:Int)<=8 by omega]
  .have:u.ok=false:=by cases hk:u.ok with
     |false=>rfl
     |true=>exact absurd (hu.1 hk).2.1 c2
   simp[g1,dw,c1,this,show ¬(1:Int)<=u.parts.length by omega]
 .have:u.ok=false:=by cases hk:u.ok with
   |false=>rfl
   |true=>have:=(aaf.1 hk).1 j hj;rw[h]at this;cases this
  simp[g2,this]
def gr(r:Bk×Int):D:=.cQ [.agg (bW r.1),iI r.2]
theorem wE{n:Nat}:∀{l:List D},D.aW l=true->D.aW (l.take n)=true/\D.aW (l.drop n)=true:=by
 induction n with
 |zero=>intro l h;exact⟨rfl,h⟩
 |succ n ih =>
  intro l h;cases l with
  |nil=>exact⟨rfl,rfl⟩
  |cons d l =>
   simp only[D.aW,ah]at h;exact⟨by simp only[List.take_succ_cons,D.aW,h.1,(ih h.2).1];rfl,by simpa using(ih h.2).2⟩
theorem lB{b:Bk}{e:Int}{L:Nat}{S:SK}:cH L 16 (.cQ [.agg (bW b),iI e]) S=(.cQ [.agg (bW b),iI e],S):=de (by simp[D.clean,n8]) (by omega)
theorem agf{b:Bk}{e:Int}(k:Nat){α:Type}{f:α->List D}{w:Nat}(hw:∀x,(f x).length=w)(hc:∀x,D.aW (f x)=true){l:List α}{j v:Nat}{bs:List Abs.aF}(hJ:J≠[])(hj:bs[j]?=some (.cells v (fM l f))):
  cH (J.length-1) 16 (.cQ [.agg ((bW b).take k ++ .sl J.length j v 0 l.length w::(bW b).drop (k+1)),iI e]) (bs::J)=(.cQ [.agg ((bW b).take k++lF l f::(bW b).drop (k+1)),iI e],bs.set j .dead::J):=by
 have h1:=(wE (n:=k) (n8 (b:=b))).1;have h2:=(wE (n:=k+1) (n8 (b:=b))).2;have app:∀a c:List D,D.aW (a++c)=(D.aW a && D.aW c):=by
  intro a c;induction a with
  |nil=>rfl
  |cons d a ih=>simp[ih,Bool.and_assoc]
 have h3:D.aW ((bW b).take k ++ .sl J.length j v 0 l.length w::(bW b).drop (k+1))=false:=by simp[app,D.clean]
 rw[pG (by simp[D.clean,h3]) (by omega)];simp only[ff,gj];rw[vW h3 (by omega),Ew (by omega) h1,gG (by decide) hw hc hJ hj,Lq h2 (by omega),de rfl (by omega)]
theorem EZ{b b':Bk}{e:Int}(k:Nat){α:Type}{f:α->List D}(w:Nat)(hw:∀x,(f x).length=w)(hc:∀x,D.aW (f x)=true)(l:List α)(j v n:Nat){X cs:List D}{bs:List Abs.aF}(hJ:J≠[])(hj:bs[j]?=some (.cells v cs))(hX:X=(bW b).take k ++ .sl J.length j v 0 n w::(bW b).drop (k+1))(hn:l.length=n)(hcs:fM l f=cs)
  (hb:bW b'=(bW b).take k ++ .bZ n cs::(bW b).drop (k+1)):
  ∃s,cH (J.length-1) 16 (.cQ [.agg X,iI e]) (bs::J)=(.cQ [.agg (bW b'),iI e],s::J):=by
 subst hX hn hcs;rw[hb];exact⟨_,agf k hw hc hJ hj⟩
theorem IW{α:Type}{f:α->List D}(l:List α)(x:α):nl f (l++[x])=.bZ (l.length+1) (fM l f++f x):=by simp[nl]
theorem T2{A:List D}{u:jD}{hd:D}(hl:u.parts.length<=1000000):∀(m j:Nat),j+m=u.parts.length ->
  WL T [1,2,4,6,7] false oW [(1,.bZ (u.parts.length*2+1) (hd::fM u.parts Prt.enc)),(2,.own 0 A),(4,.own 0 zS),(6,.own 0 [iI u.vo,.sl J.length 0 j 0 j 2]),(7,iI (j*2+1))] ([.cells j (fM (u.parts.take j) Prt.enc)]::J)
   (λx e J'=>x=.exit 0/\get e 2=.own 0 A/\get e 4=.own 0 zS/\get e 6=.own 0 [iI u.vo,.sl J.length 0 u.parts.length 0 u.parts.length 2]/\J'=[.cells u.parts.length (fM u.parts Prt.enc)]::J)
 |0,j,h=>by
  refine av oW.eq_1 ?_;obtain rfl:j=u.parts.length:=by omega
  simp
 |m+1,j,h=>by
  refine av oW.eq_1 ?_;have h1:j<u.parts.length:=by omega
  obtain⟨p,hp⟩:=gE h1;have d1:=re (f:=Prt.enc) (w:=2) (λ_=>rfl) hp;have d2:(fM u.parts Prt.enc).drop (j*2+1)=iI p.lj::(fM u.parts Prt.enc).drop (j*2+2):=by
   have:=congrArg (List.drop 1) d1;simpa[dn]using this
  have⟨t1,t2,h2,h3,h0,h0'⟩:((j:Int)*2+1).toNat=j*2+1/\((j:Int)*2+1+1).toNat=j*2+1+1/\(j:Int)*2+1<(u.parts.length:Int)*2+1/\(j:Int)*2+1+1<(u.parts.length:Int)*2+1/\0<=(j:Int)*2+1/\0<=(j:Int)*2+1+1:=by omega
  have w1:=cm (n:=(j:Int)*2+1+1);have w2:=cm (n:=(j:Int)*2+1+2);have hl1:(u.parts.take j).length=j:=by simp;omega
  have hr:(j+1)*16<=room:=by unfold room;omega
  have ha:=Dn (u.parts.take j);rw[hl1]at ha;have ta:(fM (u.parts.take j) Prt.enc).take (j*2)=fM (u.parts.take j) Prt.enc:=af (by omega);have ih:=T2 (A:=A) (hd:=hd) hl m (j+1) (by omega);have htk:u.parts.take (j+1)=u.parts.take j++[p]:=by rw[List.take_add_one,hp];rfl
  rw[htk]at ih;have hj1:((j+1:Nat):Int)*2+1=(j:Int)*2+1+2:=by omega
  rw[hj1]at ih;simp[h2,h3,h0,h0',t1,t2,d1,d2,w1,w2,hr,ha,ta];exact WL.to ih (by simp) (by simp) λx e J' hh=>hh
theorem aa9{b:Bk}{u:jD}(hl:u.parts.length<=1000000)(hb:b.cp.length<=1000000)(hJ:J≠[]):Cl 69 [.agg (bW b),.bZ (u.parts.length*2+1) (iI u.vo::fM u.parts Prt.enc)] (gr (tZ b u)) J:=by
 refine ar ?_;have hn:=fS (f:=jD.enc) b.cp;have hc:=n8 (b:=b);by_cases h1:b.cp.length<10
 case neg =>
  have h1':(10:Int)<=b.cp.length:=by omega
  simp[bW,hn,h1',tZ,h1,gr];exact⟨_,lB⟩
 have h1':¬(10:Int)<=b.cp.length:=by omega
 have hL:=T2 (J:=J) (A:=bW b) (u:=u) (hd:=iI u.vo) hl u.parts.length 0 (by omega);have q0:(0:Int)<(u.parts.length:Int)*2+1:=by omega
 simp[bW,hn,h1',q0];refine WL.to hL (by simp[bW,zS]) (by simp) ?_;rintro x e J' ⟨rfl,g2,g4,g6,rfl⟩;have hC:=λJ=>Ve (J:=J) (u:=u) hl
 simp only[jD.enc]at hC;have hf:=pM (f:=Prt.enc) (w:=2) (λ_=>rfl) (λ_=>by simp[D.clean]) (l:=u.parts) (j:=0) (v:=u.parts.length) (bs:=[Abs.aF.cells u.parts.length (fM u.parts Prt.enc)]) (J:=J) hJ rfl;cases h2:u.ok
 .rw[h2]at hC;simp[g2,g4,g6,hf,hC,fT,eI,E6,AX,tZ,h1,h2,gr];exact⟨_,lB⟩
 .rw[h2]at hC;have l1:=Ii b.cp;have l2:(fM b.cp jD.enc).take (b.cp.length*2)=fM b.cp jD.enc:=af (by omega);have⟨r1,r2,r3⟩:b.cp.length*32<=room/\(b.cp.length+1)*32<=room/\32<=room:=by unfold room;omega
  by_cases hm:b.cp=[]
  .simp[g2,g4,g6,hf,hC,bW,zS,tZ,h2,gr,hm,ES,r3];exact EZ (b:=b) (b':=JV b u) 16 2 (λ_=>rfl) ae9 [u] 1 0 1 hJ rfl rfl rfl (by simp) (by simp[bW,JV,hm,nl])
  .have e1:=fI (f:=jD.enc) hm;simp[g2,g4,g6,hf,hC,bW,zS,tZ,h1,h2,gr,hm,e1,l1,l2,r1,r2];exact EZ (b:=b) (b':=JV b u) 16 2 (λ_=>rfl) ae9 (b.cp++[u]) 1 1 (b.cp.length+1) hJ rfl rfl (by simp) (by simp) (by simp[bW,JV,IW])
end Go.Proofs.YtpapbbojmclkgaaGreatDoor
