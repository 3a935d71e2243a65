import Derived.Test.YtpapbbojmclkgaaGreatDoorTxt5
set_option linter.all false
set_option maxRecDepth 100000
namespace Go.Proofs.YtpapbbojmclkgaaGreatDoor
section
open Go Go.Abs Go.Rock Go.Book
variable {J:SK}
def PD(b:Bk)(w price:Int)(ws:List Int):Bk:={b with fy:=b.fy++[⟨b.az.length,w,Et ws,Er ws,Et ws*price,Er ws*price⟩] }
def FJ(b:Bk)(w lv u price:Int):Bool:=bA w 0 ((b.aQ.av.length:Int)-1) && (bA lv 0 ((b.aQ.dL.length:Int)-1) && (bA u 0 ((b.cJ.length:Int)-1) && bA price 0 1000))
def vn(b:Bk)(w lv u:Int):Int:=bT (λe=>uH b w.toNat lv.toNat u.toNat e.m) (cc b.ah)
def wA(b:Bk)(w lv u:Int):List Int:=(cc b.ah).map λe=>oT b w.toNat lv.toNat u.toNat e.m
def mI(b:Bk)(w lv u price:Int):Bk×Int :=
 if cc b.ah=[]\/b.az=[]then(b,8)else if FJ b w lv u price=true then(if vn b w lv u=0 then(PD b w price (wA b w lv u),0)else(b,vn b w lv u))else(b,2)
theorem SW(l:List Oh):(fM l Oh.enc).length=l.length*6:=ch (f:=Oh.enc) (w:=6) (λ_=>rfl) l
theorem Ig{c d:Int}:∀{l:List Int} {a:Int},(c<=a/\a<=d)->(∀x∈l,c<=x/\x<=d)->c<=l.foldl min a/\l.foldl min a<=d
 |[],a,h,_=>h
 |x::l,a,h,hl=>by
  have h1:=hl x (by simp);exact Ig (l:=l) (a:=min a x) (by omega) λy hy=>hl y (by simp[hy])
theorem Ie{c d:Int}:∀{l:List Int} {a:Int},(c<=a/\a<=d)->(∀x∈l,c<=x/\x<=d)->c<=l.foldl max a/\l.foldl max a<=d
 |[],a,h,_=>h
 |x::l,a,h,hl=>by
  have h1:=hl x (by simp);exact Ie (l:=l) (a:=max a x) (by omega) λy hy=>hl y (by simp[hy])
theorem aa6{c d:Int}{l:List Int}(h0:c<=0/\0<=d)(hl:∀x∈l,c<=x/\x<=d):(c<=Et l/\Et l<=d)/\(c<=Er l/\Er l<=d):=by
 cases l with
 |nil=>exact⟨h0,h0⟩
 |cons x l=>exact⟨Ig (hl x (by simp)) λy hy=>hl y (by simp[hy]),Ie (hl x (by simp)) λy hy=>hl y (by simp[hy])⟩
theorem SX{b:Bk}{w lv u:Nat}{m:bV}(hu:u<b.cJ.length)(huk:∀x∈b.cJ,x.ok=true)(hE:uH b w lv u m=0):0<=oT b w lv u m/\oT b w lv u m<=1000000000:=by
 have hun:b.cJ[u]?=some (we b u):=by simp[we,hu]
 have hok:=huk _ (aj hun);simp only[oW.ok,af,aS]at hok;have hs:=zD (by omega) hok.2.2;unfold uH at hE;unfold oT;cases hr:Rock.run b.aQ m b.az with
 |none=>simp
 |some r =>
  rw[hr]at hE;simp only at hE ⊢;split at hE
  .unfold JM at hE;split at hE
   .rename_i hv;simp only[sU.valid,af,aS]at hv;have:=M6 hs hv.1.1;omega
   .cases hE
  .cases hE
theorem YU{F:List Abs.aD}{b:Bk}{er:List Int}{nm:List UInt8}{w lv u price:Int}{b':Bk}{e:Int}(ht:fO b.aQ.dL=true)(hml:b.ah.length<=40)(hok:∀e∈b.ah,Ok b.aQ [e.m] b.az)(hrun:∀e∈b.ah,e.left=true->∃r,Rock.run b.aQ e.m b.az=some r)(huk:∀x∈b.cJ,x.ok=true)(hul:b.cJ.length<=10)(hwl:b.aQ.av.length<=1000000)(hsl:b.fy.length<=1000000)(hd:mI b w lv u price=(b',e))(he:e=0):
  dj T (.call false jZ [.ref J.length 6 0 0,.str nm,.bY 4 [iI w,iI lv,iI u,iI price]] (F::b.bH J.length er::J))=some (.val (.cV []) (F::b'.bH J.length er::J)):=by
 refine fJ rfl rfl rfl (by simp) ?_;unfold mI at hd;split at hd
 case isTrue=>cases hd;cases he
 rename_i c1;split at hd
 case isFalse=>cases hd;cases he
 rename_i c2;split at hd
 case isFalse=>cases hd;rename_i h;exact absurd he h
 rename_i c3;cases hd;have htl:b.aQ.dL.length<=20:=by
  simp only[fO,af]at ht;have:=aS.1 ht.1;omega
 have c1a:cc b.ah≠[]:=λh=>c1 (.inl h)
 have c1b:b.az≠[]:=λh=>c1 (.inr h)
 have q1:0<(cc b.ah).length:=aG.2 c1a;have q2:0<b.az.length:=aG.2 c1b;have hLf:=λS=>GY (J:=J) (b:=b) (er:=er) (S:=S) (by omega)
 simp only[Bk.bH,Bk.cells]at hLf;have hc2:=c2;simp only[FJ,af]at hc2;obtain⟨k1,k2,k3,k4⟩:=hc2;have i1:=aS.1 k1;have i2:=aS.1 k2;have i3:=aS.1 k3;have i4:=aS.1 k4;obtain⟨w,rfl⟩:∃n:Nat,w=n:=⟨w.toNat,by omega⟩;obtain⟨lv,rfl⟩:∃n:Nat,lv=n:=⟨lv.toNat,by omega⟩;obtain⟨u,rfl⟩:∃n:Nat,u=n:=⟨u.toNat,by omega⟩;simp only[vn,wA,Int.toNat_natCast]at c3 ⊢;have w1:=cf (n:=(b.aQ.av.length:Int)-1) (by omega);have w2:=cf (n:=(b.aQ.dL.length:Int)-1) (by omega);have w3:=cf (n:=(b.cJ.length:Int)-1) (by omega);have hL:=Qm (J:=J) (F:=F) (er:=er) (ls:=cc b.ah) (w:=w) (lv:=lv) (u:=u) (price:=price) ht (λe he=>hok e (cM.1 he).1) (λe he=>hrun e (cM.1 he).1 (cM.1 he).2) c1b (by have:=fB (λe:dQ=>e.left) b.ah;simp only[cc];omega) (by omega) (by omega) (by omega) huk (cc b.ah).length 0 [] (by omega) rfl;rw[aE]at hL;simp[Bk.bH,Bk.cells,hLf,q1,q2,cK,eR,w1,w2,w3,k1,k2,k3,k4];refine WL.to hL (by simp) (by simp[Bk.bH,Bk.cells]) ?_;intro x e J' hq;simp only[GO,if_pos c3,List.nil_append]at hq;obtain⟨rfl,g0,g7,g10,g11,rfl⟩:=hq;have hbs:∀x∈(cc b.ah).map (λe=>oT b w lv u e.m),0<=x/\x<=1000000000:=by
  intro x hx;simp only[bJ]at hx;obtain⟨e,he,rfl⟩:=hx;exact SX (by omega) huk (sG c3 e he)
 have hwl2:((cc b.ah).map (λe=>oT b w lv u e.m)).length=(cc b.ah).length:=by simp
 have hlm:(cc b.ah).length<=40:=by have:=fB (λe:dQ=>e.left) b.ah;simp only[cc];omega
 generalize hws:(cc b.ah).map (λe=>oT b w lv u e.m)=ws at *
 have hwne:ws≠[]:=by intro hh;rw[hh]at hwl2;simp at hwl2;omega
 obtain⟨⟨m1,m2⟩,m3,m4⟩:=aa6 (by omega) hbs;have hSp:=λJ=>ab4 (J:=J) hwne (by omega)
 generalize hlo:Et ws=lo at *
 generalize hhi:Er ws=hi at *
 have p1:0<=lo*price:=bF m1 i4.1;have p2:lo*price<=1000000000*1000:=cH m2 i4.2 i4.1 (by omega);have p3:0<=hi*price:=bF m3 i4.1;have p4:hi*price<=1000000000*1000:=cH m4 i4.2 i4.1 (by omega);have w4:=cf (n:=lo*price) (by omega);have w5:=cf (n:=hi*price) (by omega);have hfr:∀S:SK,S.length=J.length+1+1->cG 0 16 (.sl (J.length+1+1) 0 ws.length 0 ws.length 1) ([.cells ws.length (fM ws aT)]::S)=(lF ws aT,[.dead]::S):=by
  intro S hS;have:=pV (f:=aT) (w:=1) (λ_=>rfl) (λ_=>by simp[D.clean]) (l:=ws) (j:=0) (v:=ws.length) (bs:=[Abs.aD.cells ws.length (fM ws aT)]) (J:=S) (by intro h;subst h;simp at hS) (by simp);rw[hS]at this;simpa using this
 have r2:(b.fy.length+1)*48<=room:=by unfold room;omega
 have r3:=SW b.fy;have r4:(fM b.fy Oh.enc).take (b.fy.length*6)=fM b.fy Oh.enc:=ai (by omega);simp[g0,g7,g10,g11,hfr,hSp,Bk.bH,Bk.cells,w4,w5,r2,r3,r4,PD,hlo,hhi]
theorem Vw{F:List Abs.aD}{b:Bk}{er:List Int}{nm:List UInt8}{w lv u price:Int}{b':Bk}{e:Int}(ht:cc b.ah≠[]->fO b.aQ.dL=true)(hml:b.ah.length<=40)(hok:∀e∈b.ah,Ok b.aQ [e.m] b.az)(hrun:∀e∈b.ah,e.left=true->∃r,Rock.run b.aQ e.m b.az=some r)(huk:∀x∈b.cJ,x.ok=true)(hul:b.cJ.length<=10)(hwl:b.aQ.av.length<=1000000)(hsl:b.fy.length<=1000000)(hd:mI b w lv u price=(b',e))(he:e≠0):
  dj T (.call false jZ [.ref J.length 6 0 0,.str nm,.bY 4 [iI w,iI lv,iI u,iI price]] (F::b.bH J.length er::J))=some (.ft (rf e) (F::b.bH J.length er::J)):=by
 refine dY rfl rfl rfl ?_;have hLf:=λS=>GY (J:=J) (b:=b) (er:=er) (S:=S) (by omega)
 simp only[Bk.bH,Bk.cells]at hLf;unfold mI at hd;split at hd
 case isTrue c1 =>
  cases hd;by_cases c1a:cc b.ah=[]
  .simp[Bk.bH,Bk.cells,hLf,c1a,dG,D.clean,rf]
  .have q1:0<(cc b.ah).length:=aG.2 c1a;have c1b:b.az=[]:=c1.resolve_left c1a;simp[Bk.bH,Bk.cells,hLf,q1,c1b,dG,D.clean,rf]
 rename_i c1;have c1a:cc b.ah≠[]:=λh=>c1 (.inl h)
 have c1b:b.az≠[]:=λh=>c1 (.inr h)
 have ht:=ht c1a;have htl:b.aQ.dL.length<=20:=by
  simp only[fO,af]at ht;have:=aS.1 ht.1;omega
 have q1:0<(cc b.ah).length:=aG.2 c1a;have q2:0<b.az.length:=aG.2 c1b;have w1:=cf (n:=(b.aQ.av.length:Int)-1) (by omega);have w2:=cf (n:=(b.aQ.dL.length:Int)-1) (by omega);have w3:=cf (n:=(b.cJ.length:Int)-1) (by omega);split at hd
 case isFalse c2 =>
  cases hd;simp only[FJ]at c2;cases k1:bA w 0 ((b.aQ.av.length:Int)-1)
  .simp[Bk.bH,Bk.cells,hLf,q1,q2,cK,eR,w1,k1,dG,D.clean,rf]
  cases k2:bA lv 0 ((b.aQ.dL.length:Int)-1)
  .simp[Bk.bH,Bk.cells,hLf,q1,q2,cK,eR,w1,w2,k1,k2,dG,D.clean,rf]
  cases k3:bA u 0 ((b.cJ.length:Int)-1)
  .simp[Bk.bH,Bk.cells,hLf,q1,q2,cK,eR,w1,w2,w3,k1,k2,k3,dG,D.clean,rf]
  cases k4:bA price 0 1000
  .simp[Bk.bH,Bk.cells,hLf,q1,q2,cK,eR,w1,w2,w3,k1,k2,k3,k4,dG,D.clean,rf]
  .exact absurd (by simp[k1,k2,k3,k4]) c2
 rename_i c2;split at hd
 case isTrue=>cases hd;exact absurd rfl he
 rename_i c3;cases hd;have hc2:=c2;simp only[FJ,af]at hc2;obtain⟨k1,k2,k3,k4⟩:=hc2;have i1:=aS.1 k1;have i2:=aS.1 k2;have i3:=aS.1 k3;obtain⟨w,rfl⟩:∃n:Nat,w=n:=⟨w.toNat,by omega⟩;obtain⟨lv,rfl⟩:∃n:Nat,lv=n:=⟨lv.toNat,by omega⟩;obtain⟨u,rfl⟩:∃n:Nat,u=n:=⟨u.toNat,by omega⟩;simp only[vn,Int.toNat_natCast]at c3 ⊢;have hL:=Qm (J:=J) (F:=F) (er:=er) (ls:=cc b.ah) (w:=w) (lv:=lv) (u:=u) (price:=price) ht (λe he=>hok e (cM.1 he).1) (λe he=>hrun e (cM.1 he).1 (cM.1 he).2) c1b (by have:=fB (λe:dQ=>e.left) b.ah;simp only[cc];omega) (by omega) (by omega) (by omega) huk (cc b.ah).length 0 [] (by omega) rfl;rw[aE]at hL;simp[Bk.bH,Bk.cells,hLf,q1,q2,cK,eR,w1,w2,w3,k1,k2,k3,k4];refine WL.to hL (by simp) (by simp[Bk.bH,Bk.cells]) ?_;intro x e J' hq;simp only[GO,if_neg c3]at hq;obtain⟨rfl,s,rfl⟩:=hq;simp[Bk.bH,Bk.cells,D.clean,rf]
def QE:List Int->List Rw
 |a::b::c::d::e::l=>⟨a,b,c,d,e⟩::QE l
 |_=>[]
def QD:List Int->List Trem.pH
 |a::b::c::d::l=>⟨⟨a,b,c⟩,d⟩::QD l
 |_=>[]
def Dq:List Int->List (Int×Int)
 |a::b::l=>(a,b)::Dq l
 |_=>[]
theorem MQ:∀(m:Nat) {l:List Int},l.length=m*5->fM (QE l) Rw.enc=fM l aT/\(QE l).length=m
 |0,l,h=>by
  have:l=[]:=bw.1 (by omega);subst this;exact⟨rfl,rfl⟩
 |m+1,l,h=>by
  match l,h with
  |a::b::c::d::e::l,h =>
   have ih:=MQ m (l:=l) (by simp at h;omega);simp[QE,ih.1,ih.2,aT]
  |[],h=>simp at h
  |[_],h=>simp at h;omega
  |[_,_],h=>simp at h;omega
  |[_,_,_],h=>simp at h;omega
  |[_,_,_,_],h=>simp at h;omega
theorem MP:∀(m:Nat) {l:List Int},l.length=m*4->fM (QD l) Trem.pH.enc=fM l aT/\(QD l).length=m
 |0,l,h=>by
  have:l=[]:=bw.1 (by omega);subst this;exact⟨rfl,rfl⟩
 |m+1,l,h=>by
  match l,h with
  |a::b::c::d::l,h =>
   have ih:=MP m (l:=l) (by simp at h;omega);simp[QD,ih.1,ih.2,aT]
  |[],h=>simp at h
  |[_],h=>simp at h;omega
  |[_,_],h=>simp at h;omega
  |[_,_,_],h=>simp at h;omega
theorem Gs:∀(m:Nat) {l:List Int},l.length=m*2->fM (Dq l) sQ=fM l aT/\(Dq l).length=m
 |0,l,h=>by
  have:l=[]:=bw.1 (by omega);subst this;exact⟨rfl,rfl⟩
 |m+1,l,h=>by
  match l,h with
  |a::b::l,h =>
   have ih:=Gs m (l:=l) (by simp at h;omega);simp[Dq,ih.1,ih.2,aT,sQ]
  |[],h=>simp at h
  |[_],h=>simp at h;omega
def KG(p:Int×Int):Prt:=⟨p.1,p.2⟩
theorem SO(l:List (Int×Int)):fM (l.map KG) Prt.enc=fM l sQ:=by
 induction l with
 |nil=>rfl
 |cons p l ih=>simp only[aN,eg,ih];rfl
def XB:List Int->Trem.cF
 |[x0,x1,x2,x3,x4,x5,x6,x7,x8,x9]=>⟨⟨x0,x1,x2⟩,⟨x3,x4,x5⟩,x6,x7,x8,x9⟩
 |_=>⟨⟨0,0,0⟩,⟨0,0,0⟩,0,0,0,0⟩
def ir(b:Bk)(k:Nat)(nm:List UInt8)(l:List Int):Bk×Int :=
 match k with
 |0=>match l with
  |[x,y,z,k]=>nF b x y z k
  |_=>(b,4)
 |1=>lE b (QE l)
 |2=>match l with
  |[x,y,z]=>xH b x y z
  |_=>(b,4)
 |3=>match l with
  |[x,y,z]=>tc b x y z
  |_=>(b,4)
 |4=>pJ b ⟨nm,l⟩
 |5=>match l with
  |k::lo::hi::r=>CA b (ed nm k lo hi (Dq r))
  |_=>(b,4)
 |6=>rO b (XB l) (XB l).MD
 |7=>match l with
  |[x,y,z]=>if Trem.fw x y z=true then(J4 b x y z,0)else(b,1)
  |_=>(b,4)
 |8=>oK b (QD l)
 |9=>mf b l
 |10=>match l with
  |[w,i,lo,hi]=>oz b ⟨b.az.length,w,i,lo,hi⟩
  |_=>(b,4)
 |11=>match l with
  |i::r=>sZ b ⟨i,(Dq r).map KG⟩
  |_=>(b,4)
 |12=>match l with
  |[w,lv,u,p]=>mI b w lv u p
  |_=>(b,4)
 |_=>(b,4)
def mc(b:Bk)(n:Int)(s:List UInt8):Bk×Int:=match parse s with
 |some (w,nm,l)=>ir {b with at_:=n } w.k nm l
 |none=>(b,4)
structure Kv(n:Nat)(b:Bk):Prop where
 dL:b.aQ.dL=[]\/fO b.aQ.dL=true
 ready:b.ready=true->b.aQ.valid=true
 av:b.ready=false->b.aQ.av=[]
 ms:b.ah≠[]->b.ready=true
 ml:b.ah.length<=40
 wl:b.dq.length=b.ah.length
 fit:∀e∈b.ah,Bd b.aQ e.m=true/\e.m.name.length<=1000000/\e.m.dn.length<=1000000
 pm:b.az≠[]->b.ah≠[]
 pl:sJ b.aQ b.az=0
 zR:∀e∈b.ah,e.left=true->∃r,Rock.run b.aQ e.m b.az=some r
 rules:b.rules.length<=20
 sV:b.sV.length<=200
 L8:∀e∈b.sV,e.ok=true
 jr:Trem.fw b.k0 b.k1 b.k2=true
 cJ:b.cJ.length<=10
 uok:∀u∈b.cJ,u.ok=true
 fy:b.fy.length<=n
theorem NA{t:List Rw}(h:t=[]\/fO t=true):t.length<=20:=by
 rcases h with rfl | h
 .simp
 .simp only[fO,af]at h;have:=aS.1 h.1;omega
theorem vd{t:List Rw}(h:fO t=true):t≠[]:=by
 intro hh;subst hh;simp[fO,bA]at h
theorem DJ{s:List UInt8}{w:Wd}{nm:List UInt8}{l:List Int}(h:parse s=some (w,nm,l)):(∃a,xc a=some w)/\Fq w l.length=true/\nm.length<=s.length/\l.length<=s.length+1:=by
 have hlen:=Cq 32 s;have hle:=GP 32 s;unfold parse at h;cases hsp:db 32 s with
 |nil=>exact absurd hsp (sN 32 s)
 |cons a all =>
 rw[hsp]at h hlen hle;simp only[aK]at hlen;simp only at h;cases hw:xc a with
 |none=>rw[hw]at h;cases h
 |some w0 =>
 rw[hw]at h;simp only at h;have key:∀nm0 (l0:List (List UInt8)),qY w0 nm0 l0=some (w,nm,l)->w0=w/\nm0=nm/\Fq w l.length=true/\l.length=l0.length:=by
  intro nm0 l0 hp;unfold qY at hp;cases hm:mD l0 with
  |none=>rw[hm]at hp;cases hp
  |some ns =>
   rw[hm]at hp;simp only[aH,ae,ar]at hp;obtain⟨hf,rfl,rfl,rfl⟩:=hp;exact⟨rfl,rfl,hf,Bt hm⟩
 split at h
 .cases all with
  |nil=>cases h
  |cons n r =>
   obtain⟨rfl,rfl,h3,h4⟩:=key n r h;refine⟨⟨a,hw⟩,h3,hle n (by simp),?_⟩;simp at hlen;omega
 .obtain⟨rfl,rfl,h3,h4⟩:=key [] all h;exact⟨⟨a,hw⟩,h3,by simp,by omega⟩
def doR(F:List Abs.aD)(b:Bk)(er:List Int)(J:SK)(r:Bk×Int):R:=if r.2=0 then .val (.cV []) (F::r.1.bH J.length er::J)else .ft (rf r.2) (F::b.bH J.length er::J)
theorem uO{F:List Abs.aD}{b:Bk}{er:List Int}{r:Bk×Int}{q:Q}(h1:∀b' e,r=(b',e)->e=0->dj T q=some (.val (.cV []) (F::b'.bH J.length er::J)))(h2:∀b' e,r=(b',e)->e≠0->dj T q=some (.ft (rf e) (F::b.bH J.length er::J))):
  dj T q=some (doR F b er J r):=by
 obtain⟨b',e⟩:=r;unfold doR;by_cases he:e=0
 .rw[if_pos he];exact h1 b' e rfl he
 .rw[if_neg he];exact h2 b' e rfl he
theorem wz{l:List Int}{n:Nat}(h:l.length=n+1):∃a r,l=a::r/\r.length=n:=by
 cases l with
 |nil=>simp at h
 |cons a r=>exact⟨a,r,rfl,by simpa using h⟩
theorem LM{l:List Int}(h:l.length=3):∃a0 a1 a2,l=[a0,a1,a2]:=by
 obtain⟨a0,r0,e0,h0⟩:=wz (n:=2) h;obtain⟨a1,r1,e1,h1⟩:=wz (n:=1) h0;obtain⟨a2,r2,e2,h2⟩:=wz (n:=0) h1;have e:=bw.1 h2;exact⟨a0,a1,a2,by rw[e0,e1,e2,e]⟩
theorem LN{l:List Int}(h:l.length=4):∃a0 a1 a2 a3,l=[a0,a1,a2,a3]:=by
 obtain⟨a0,r0,e0,h0⟩:=wz (n:=3) h;obtain⟨a1,r1,e1,h1⟩:=wz (n:=2) h0;obtain⟨a2,r2,e2,h2⟩:=wz (n:=1) h1;obtain⟨a3,r3,e3,h3⟩:=wz (n:=0) h2;have e:=bw.1 h3;exact⟨a0,a1,a2,a3,by rw[e0,e1,e2,e3,e]⟩
theorem WS{l:List Int}(h:l.length=10):∃a0 a1 a2 a3 a4 a5 a6 a7 a8 a9,l=[a0,a1,a2,a3,a4,a5,a6,a7,a8,a9]:=by
 obtain⟨a0,r0,e0,h0⟩:=wz (n:=9) h;obtain⟨a1,r1,e1,h1⟩:=wz (n:=8) h0;obtain⟨a2,r2,e2,h2⟩:=wz (n:=7) h1;obtain⟨a3,r3,e3,h3⟩:=wz (n:=6) h2;obtain⟨a4,r4,e4,h4⟩:=wz (n:=5) h3;obtain⟨a5,r5,e5,h5⟩:=wz (n:=4) h4;obtain⟨a6,r6,e6,h6⟩:=wz (n:=3) h5;obtain⟨a7,r7,e7,h7⟩:=wz (n:=2) h6;obtain⟨a8,r8,e8,h8⟩:=wz (n:=1) h7;obtain⟨a9,r9,e9,h9⟩:=wz (n:=0) h8;have e:=bw.1 h9;exact⟨a0,a1,a2,a3,a4,a5,a6,a7,a8,a9,by rw[e0,e1,e2,e3,e4,e5,e6,e7,e8,e9,e]⟩
theorem tz{w:Wd}{n:Nat}(h:Fq w n=true)(hs:w.step=0):(n:Int)=w.least:=by
 simp only[Fq,cg,af,aw]at h;omega
theorem zG{w:Wd}{n:Nat}(h:Fq w n=true)(hs:0<w.step)(hl:0<=w.least):w.least<=n/\((n:Int)-w.least)%w.step=0:=by
 simp only[Fq,cg,af,aw]at h;rcases h with h | ⟨h1,h2,h3⟩
 .refine⟨by omega,?_⟩;rw[h];simp
 .refine⟨by omega,?_⟩;rwa[Int.tmod_eq_emod_of_nonneg (by omega)]at h3
theorem Ok.one{b:bU}{m:bV}{az:List (List Int)}(hb:b.valid=true)(hf:Bd b m=true)(hp:sJ b az=0)(hn:m.name.length<=1000000000):Ok b [m] az:=by
 have hbv:=Bv.of hb;have hfit:fits b m=true:=by simp only[Bd,af]at hf;exact hf.2
 have hfv:=Fv.of hf;have hm:b.f.ah [m]=0:=by
  have h:=hfit;simp only[fits,af,aw]at h;have h1:=h.1;unfold fW at h1;rw[if_pos hbv.fv]at h1;exact h1
 obtain⟨p1,p2⟩:=nR hp;exact⟨hbv,hb,by simp,hm,by simpa using hfit,by simpa using hfv,by intro x hx;simp at hx;subst hx;exact⟨hn,hfv.toMv.le.2⟩,hp,p1,p2⟩
theorem Ka{b:bU}{m:bV}(hb:b.valid=true)(hf:Bd b m=true):b.f.model m=0:=by
 have hfit:fits b m=true:=by simp only[Bd,af]at hf;exact hf.2
 rw[ML (Bv.of hb),af,aw]at hfit;exact hfit.1
theorem aiu{F:List Abs.aD}{b:Bk}{er:List Int}{s:List UInt8}{w:Wd}{nm:List UInt8}{l:List Int}{n:Nat}(hK:Kv n b)(hn:n<=1000000)(hp:parse s=some (w,nm,l))(hs:s.length<=4000):
  dj T (.call false ((LQ[w.k]?).getD 0) [.ref J.length 6 0 0,.str nm,.bY l.length (fM l aT)] (F::b.bH J.length er::J))=some (doR F b er J (ir b w.k nm l)):=by
 obtain⟨⟨a,ha⟩,hfit,hnm,hll⟩:=DJ hp;have htl:=NA hK.dL;have hv:b.ready=true->Bv b.aQ:=λh=>Bv.of (hK.ready h)
 have hrt:b.ready=true->fO b.aQ.dL=true:=λh=>(hv h).dL
 have hwl:b.aQ.av.length<=8:=by
  cases hr:b.ready with
  |true=>exact(hv hr).av
  |false=>rw[hK.av hr];simp
 have hmr:b.ah≠[]->fO b.aQ.dL=true:=λh=>hrt (hK.ms h)
 have hlm:cc b.ah≠[]->b.ah≠[]:=λh hh=>h (by rw[hh];rfl)
 have hz:Sz b:=⟨by omega,by omega,λe he=>⟨by have:=(hK.fit e he).2.1;omega,by have:=(hK.fit e he).2.2;omega⟩⟩;have hplz:=nR hK.pl;have hbv:b.ah≠[]->b.aQ.valid=true:=λh=>hK.ready (hK.ms h)
 have hne:∀e∈b.ah,b.ah≠[]:=λe he hh=>by rw[hh]at he;cases he
 have hok:∀e∈b.ah,Ok b.aQ [e.m] b.az:=λe he=>Ok.one (hbv (hne e he)) (hK.fit e he).1 hK.pl (hz.ms e he).1
 have hfm:∀e∈b.ah,b.aQ.f.model e.m=0:=λe he=>Ka (hbv (hne e he)) (hK.fit e he).1
 have hsp:∀e∈b.sV,e.sp.length<=1000000:=λe he=>by
  have:=hK.L8 e he;simp only[Trem.Ev.ok,af]at this;have:=Trem.aS.1 this.2.1;omega
 have h1:=Bj ha;simp only[l8,bj,ar,List.not_mem_nil,or_false]at h1;rcases h1 with⟨_,rfl⟩ | ⟨_,rfl⟩ | ⟨_,rfl⟩ | ⟨_,rfl⟩ | ⟨_,rfl⟩ | ⟨_,rfl⟩ | ⟨_,rfl⟩ | ⟨_,rfl⟩ | ⟨_,rfl⟩ | ⟨_,rfl⟩ | ⟨_,rfl⟩ | ⟨_,rfl⟩ | ⟨_,rfl⟩
 .have hl:l.length=4:=by
   have h:(l.length:Int)=4:=tz hfit rfl;omega
  obtain⟨x,y,z,k,rfl⟩:=LN hl;exact uO (λb' e hd he=>Yr hd he) (λb' e hd he=>Tl hd he)
 .have hl:=(zG hfit (by decide) (by decide)).2;simp only[Int.sub_zero]at hl;obtain⟨h5,h6⟩:=MQ (l.length / 5) (l:=l) (by omega);have hlen:(QE l).length*5=l.length:=by omega
  try simp only[]
  rw[<- h5,<- hlen];exact uO (λb' e hd he=>YV (by omega) hd he) (λb' e hd he=>Tx (by omega) hd he)
 .have hl:l.length=3:=by
   have h:(l.length:Int)=3:=tz hfit rfl;omega
  obtain⟨x,y,z,rfl⟩:=LM hl;exact uO (λb' e hd he=>abN (by omega) (by omega) hd he) (λb' e hd he=>U4 (by omega) (by omega) hd he)
 .have hl:l.length=3:=by
   have h:(l.length:Int)=3:=tz hfit rfl;omega
  obtain⟨x,y,z,rfl⟩:=LM hl;refine uO (λb' e hd he=>?_) (λb' e hd he=>VB (λh=>vd (hrt h)) (by omega) (by omega) hd he);have hr:b.ready=true:=by
   have hd2:tc b x y z=(b',e):=hd;unfold tc at hd2;split at hd2
   .rename_i h;exact h.1
   .cases hd2;cases he
  exact aca (vd (hrt hr)) (by omega) (by omega) hd he
 .exact uO (λb' e hd he=>Vd (m:=⟨nm,l⟩) (by omega) (by omega) (by simp;omega) (by simp;omega) hK.wl hd he) (λb' e hd he=>To (m:=⟨nm,l⟩) (by omega) (by omega) (by simp;omega) (by simp;omega) hK.ml hd he)
 .obtain⟨hl1,hl2⟩:=zG hfit (by decide) (by decide);simp only at hl1 hl2;obtain⟨k,l,rfl,hl⟩:=wz (n:=l.length-1) (l:=l) (by omega);simp only[aK]at hl1 hl2 hll;obtain⟨lo,l,rfl,hl⟩:=wz (n:=l.length-1) (l:=l) (by omega);simp only[aK]at hl1 hl2 hll;obtain⟨hi,l,rfl,hl⟩:=wz (n:=l.length-1) (l:=l) (by omega);simp only[aK]at hl1 hl2 hll;obtain⟨h5,h6⟩:=Gs (l.length / 2) (l:=l) (by omega);have hlen:(Dq l).length*2+3=l.length+1+1+1:=by omega
  simp only[eg,aK,aT,dJ]
  try simp only[lF]
  rw[<- h5,<- hlen];refine uO (λb' e hd he=>abV (by omega) (by omega) hK.wl hK.ml (λe he=>⟨hfm e he,hz.ms e he⟩) hd he) (λb' e hd he=>YA (by omega) (by omega) hd he)
 .have hl:l.length=10:=by
   have h:(l.length:Int)=10:=tz hfit rfl;omega
  obtain⟨x0,x1,x2,x3,x4,x5,x6,x7,x8,x9,rfl⟩:=WS hl;exact uO (λb' e hd he=>ab1 hd he) (λb' e hd he=>Vt hd he)
 .have hl:l.length=3:=by
   have h:(l.length:Int)=3:=tz hfit rfl;omega
  obtain⟨x,y,z,rfl⟩:=LM hl;refine uO (λb' e hd he=>?_) (λb' e hd he=>?_)
  .have hd2:(if Trem.fw x y z=true then(J4 b x y z,0)else(b,1))=(b',e):=hd;split at hd2
   .rename_i h;cases hd2;exact abR h
   .cases hd2;cases he
  .have hd2:(if Trem.fw x y z=true then(J4 b x y z,0)else(b,1))=(b',e):=hd;split at hd2
   .cases hd2;exact absurd rfl he
   .rename_i h;cases hd2;exact Va (by simpa using h)
 .have hl:=(zG hfit (by decide) (by decide)).2;simp only[Int.sub_zero]at hl;obtain⟨h5,h6⟩:=MP (l.length / 4) (l:=l) (by omega);have hlen:(QD l).length*4=l.length:=by omega
  try simp only[]
  rw[<- h5,<- hlen];exact uO (λb' e hd he=>YC (by omega) hd he) (λb' e hd he=>Tr (by omega) hd he)
 .have hpl:∀r∈b.az,r.length<=1000000000:=λr hr=>by have:=(hplz.2 r hr).len;omega
  refine uO (λb' e hd he=>?_) (λb' e hd he=>Vx (λh=>vd (hmr (hlm h))) hz (by omega) hK.ml (by have:=hK.rules;omega) (by have:=hK.sV;omega) hsp hK.jr hpl hd he);have hr:cc b.ah≠[]:=by
   have hd2:mf b l=(b',e):=hd;unfold mf at hd2;split at hd2
   .cases hd2;cases he
   .rename_i h;exact h
  exact YW (vd (hmr (hlm hr))) hz (by omega) hK.ml (by have:=hK.rules;omega) (by have:=hK.sV;omega) hsp hK.jr hpl hd he
 .have hl:l.length=4:=by
   have h:(l.length:Int)=4:=tz hfit rfl;omega
  obtain⟨w,i,lo,hi,rfl⟩:=LN hl;refine uO (λb' e hd he=>?_) (λb' e hd he=>Vk (λh=>vd (hmr (hlm h))) hK.ml hok hd he);have hr:cc b.ah≠[]:=by
   have hd2:oz b ⟨b.az.length,w,i,lo,hi⟩=(b',e):=hd;unfold oz at hd2;split at hd2
   .cases hd2;cases he
   .rename_i h;exact h
  exact YH (vd (hmr (hlm hr))) hK.wl hK.ml hok hK.zR hd he
 .obtain⟨hl1,hl2⟩:=zG hfit (by decide) (by decide);simp only at hl1 hl2;obtain⟨i,l,rfl,hl⟩:=wz (n:=l.length-1) (l:=l) (by omega);simp only[aK]at hl1 hl2 hll;obtain⟨h5,h6⟩:=Gs (l.length / 2) (l:=l) (by omega);have hlen:((Dq l).map KG).length*2+1=l.length+1:=by simp;omega
  simp only[eg,aK,aT,dJ];rw[<- h5,<- hlen,<- SO];exact uO (λb' e hd he=>ab7 (u:=⟨i,(Dq l).map KG⟩) (by simp;omega) hd he) (λb' e hd he=>Vy (u:=⟨i,(Dq l).map KG⟩) (by simp;omega) hd he)
 .have hl:l.length=4:=by
   have h:(l.length:Int)=4:=tz hfit rfl;omega
  obtain⟨w,i,lo,hi,rfl⟩:=LN hl;refine uO (λb' e hd he=>?_) (λb' e hd he=>Vw (λh=>hmr (hlm h)) hK.ml hok hK.zR hK.uok hK.cJ (by omega) (by have:=hK.fy;omega) hd he);have hr:cc b.ah≠[]:=by
   have hd2:mI b w i lo hi=(b',e):=hd;unfold mI at hd2;split at hd2
   .cases hd2;cases he
   .rename_i h;exact λhh=>h (.inl hh)
  exact YU (hmr (hlm hr)) hK.ml hok hK.zR hK.uok hK.cJ (by omega) (by have:=hK.fy;omega) hd he
end
section
open Go Go.Abs Go.Rock Go.Book
theorem Kv.le{n m:Nat}{b:Bk}(h:Kv n b)(hn:n<=m):Kv m b:={h with fy:=jm h.fy hn }
theorem Kv.zero:Kv 0 kl:=by
 refine⟨.inl rfl,by simp[kl],λ_=>rfl,by simp[kl],by simp[kl],rfl,by simp[kl],by simp[kl],?_,by simp[kl],by simp[kl],by simp[kl],by simp[kl],by decide,by simp[kl],by simp[kl],by simp[kl]⟩;simp[kl,sJ,bT]
theorem Ed{b:bU}:sJ b []=0:=by simp[sJ,bT]
theorem MB{b:bU}(h:b.valid=true):b.dL≠[]/\¬((b.f.x=0/\b.f.y=0)/\b.f.z=0/\b.f.k=0):=by
 have hv:=Bv.of h;refine⟨vd hv.dL,λhh=>?_⟩;have:=hv.x;omega
theorem Kv.MZ{n:Nat}{b:Bk}(h:Kv n b)(hm:b.ah=[]):b.az=[]:=by
 by_cases hp:b.az=[]
 .exact hp
 .exact absurd hm (h.pm hp)
theorem Kv.Kd{n:Nat}{b:Bk}(h:Kv n b)(hr:b.ready=false):b.ah=[]:=by
 by_cases hp:b.ah=[]
 .exact hp
 .rw[h.ms hp]at hr;cases hr
theorem Kv.TE{n:Nat}{b:Bk}(h:Kv n b)(k:Int):Kv n {b with at_:=k }:={h with }
theorem aah{b:bU}{m:bV}:∃r,Rock.run b m []=some r:=⟨_,rfl⟩
theorem S5{b:Bk}{lo hi:Int}{val:bV->Int}{x:dQ}(h:x∈(ek b lo hi val).ah):∃e∈b.ah,x.m=e.m/\(x.left=true->e.left=true):=by
 simp only[ek,Bk.fT,List.mem_mapIdx]at h;obtain⟨i,hi,rfl⟩:=h;refine⟨b.ah[i],List.getElem_mem hi,?_⟩;rw[if_pos hi];unfold Go.Book.dP;split<;>simp
theorem Kv.KB{n:Nat}{b:Bk}(h:Kv n b){lo hi:Int}{val:bV->Int}:Kv n (ek b lo hi val):=by
 have hl:(ek b lo hi val).ah.length=b.ah.length:=ua;have hn:(ek b lo hi val).ah=[]↔b.ah=[]:=by rw[<- bw,hl,bw]
 refine {dL:=h.dL,ready:=h.ready,av:=h.av,ms:=λhh=>h.ms (λh2=>hh (hn.2 h2)),ml:=by rw[hl];exact h.ml,wl:=by rw[hl,<- h.wl];exact vo,fit:=λx hx=>?_,pm:=λhh h2=>h.pm hh (hn.1 h2),pl:=h.pl,zR:=λx hx hxl=>?_,rules:=h.rules,sV:=h.sV,L8:=h.L8,jr:=h.jr,cJ:=h.cJ,uok:=h.uok,fy:=h.fy }
 .obtain⟨e,he,h1,_⟩:=S5 hx;rw[h1];exact h.fit e he
 .obtain⟨e,he,h1,h2⟩:=S5 hx;rw[h1];exact h.zR e he (h2 hxl)
theorem Gz{l:List dQ}{e:dQ}(h:e∈cc l):e∈l/\e.left=true:=cM.1 h
theorem Kv.word{n:Nat}{b:Bk}(h:Kv n b){s:List UInt8}{w:Wd}{nm:List UInt8}{l:List Int}(hp:parse s=some (w,nm,l))(hs:s.length<=4000):Kv (n+1) (ir b w.k nm l).1:=by
 obtain⟨_,_,hnm,hll⟩:=DJ hp;have h1:=h.le (Nat.le_succ n);generalize w.k=k;unfold ir;split
 ·
  split
  .unfold nF;split
   .rename_i hz;split
    .have hr:b.ready=false:=by
      cases hr:b.ready with
      |false=>rfl
      |true=>exact absurd hz (MB (h.ready hr)).2
     have hm:=h.Kd hr;have hpl:=h.MZ hm;have hno:∀e,e∈b.ah->False:=by rw[hm];simp
     exact {h1 with dL:=h.dL,ready:=λhh=>(by rw[show b.ready=true from hh]at hr;cases hr),av:=h.av,fit:=λe he=>(hno e he).elim,pl:=by simp only[hpl];exact Ed,zR:=λe he=>(hno e he).elim }
    .exact h1
   .exact h1
  .exact h1
 ·
  unfold lE;split
  .rename_i hz;split
   .rename_i ht;have hr:b.ready=false:=by
     cases hr:b.ready with
     |false=>rfl
     |true=>exact absurd hz (MB (h.ready hr)).1
    have hm:=h.Kd hr;have hpl:=h.MZ hm;have hno:∀e,e∈b.ah->False:=by rw[hm];simp
    exact {h1 with dL:=.inr ht,ready:=λhh=>(by rw[show b.ready=true from hh]at hr;cases hr),av:=h.av,fit:=λe he=>(hno e he).elim,pl:=by simp only[HH,hpl];exact Ed,zR:=λe he=>(hno e he).elim }
   .exact h1
  .exact h1
 ·
  split
  .rename_i x y z;unfold xH;split
   .exact h1
   .rename_i hz;split
    .rename_i hv;have hr:b.ready=false:=by
      cases hr:b.ready with
      |false=>rfl
      |true=>exact absurd (.inr (.inr hr)) hz
     have hm:=h.Kd hr;have hpl:=h.MZ hm;have hno:∀e,e∈b.ah->False:=by rw[hm];simp
     exact {h1 with dL:=h.dL,ready:=λ_=>hv,av:=λhh=>(by cases hh),ms:=λ_=>rfl,fit:=λe he=>(hno e he).elim,pl:=by simp only[CU,hpl];exact Ed,zR:=λe he=>(hno e he).elim }
    .exact h1
  .exact h1
 ·
  split
  .rename_i x y z;unfold tc;split
   .rename_i hz;obtain⟨hr,hm⟩:=hz;split
    .rename_i hv;have hpl:=h.MZ hm;have hno:∀e,e∈b.ah->False:=by rw[hm];simp
     exact {h1 with dL:=h.dL,ready:=λ_=>hv,av:=λhh=>(by rw[show b.ready=false from hh]at hr;cases hr),fit:=λe he=>(hno e he).elim,pl:=by simp only[nD,hpl];exact Ed,zR:=λe he=>(hno e he).elim }
    .exact h1
   .exact h1
  .exact h1
 ·
  unfold pJ;split
  .rename_i hz;obtain⟨hr,hpl⟩:=hz;split
   .exact h1
   .split
    .rename_i hml;split
     .rename_i hb;refine {h1 with ms:=λ_=>hr,ml:=by simp[yI];omega,wl:=by simp[yI,h.wl],fit:=λe he=>?_,pm:=λhh=>absurd hpl hh,zR:=λe he hl=>?_ }
      .simp only[yI,aX,List.mem_singleton]at he;rcases he with he | rfl
       .exact h.fit e he
       .exact⟨hb,by simp;omega,by simp;omega⟩
      .simp only[yI];rw[hpl];exact aah
     .exact h1
    .exact h1
  .exact h1
 ·
  split
  .unfold CA;split
   .exact h1
   .split
    .exact h1.KB
    .exact h1
  .exact h1
 ·
  unfold rO;split
  .split
   .split
    .rename_i hl _ _;exact {h1 with rules:=by simp;omega }
    .exact h1
   .exact h1
  .exact h1
 ·
  split
  .split
   .rename_i hk;exact {h1 with jr:=hk }
   .exact h1
  .exact h1
 ·
  unfold oK;split
  .rename_i hl;split
   .rename_i ho;refine {h1 with sV:=by simp[DO];omega,L8:=λe he=>?_ };simp only[DO,aX,List.mem_singleton]at he;rcases he with he | rfl
    .exact h.L8 e he
    .exact ho
   .exact h1
  .exact h1
 ·
  unfold mf;split
  .exact h1
  .rename_i hl;split
   .split
    .split
     .split
      .rename_i hf;obtain⟨e0,he0⟩:=List.exists_mem_of_ne_nil _ hl;have key:∀e∈cc b.ah,Bd b.aQ e.m=true/\sJ b.aQ (dt b l)=0/\∃r,Rock.run b.aQ e.m (dt b l)=some r:=by
        intro e he;have hz:=sG hf e he;have hb:=(h.fit e (Gz he).1).1;simp only[lg,hb,if_true]at hz;split at hz
        .rename_i hq;cases hr:Rock.run b.aQ e.m (dt b l)with
         |none=>rw[hr]at hz;cases hz
         |some r=>exact⟨hb,hq,r,rfl⟩
        .rename_i hq;exact absurd hz hq
       refine {h1 with pm:=λ_ hh=>?_,pl:=(key e0 he0).2.1,zR:=λe he hel=>(key e (cM.2 ⟨he,hel⟩)).2.2 };have:=(Gz he0).1;rw[show b.ah=[]from hh]at this;cases this
      .exact h1
     .exact h1
    .exact h1
   .exact h1
 ·
  split
  .unfold oz;split
   .exact h1
   .split
    .split
     .exact h1.KB
     .exact h1
    .exact h1
  .exact h1
 ·
  split
  .unfold sZ;split
   .rename_i hl;split
    .rename_i ho;refine {h1 with cJ:=by simp[Is];omega,uok:=λu hu=>?_ };simp only[Is,aX,List.mem_singleton]at hu;rcases hu with hu | rfl
     .exact h.uok u hu
     .exact ho
    .exact h1
   .exact h1
  .exact h1
 ·
  split
  .unfold mI;split
   .exact h1
   .split
    .split
     .exact {h1 with fy:=by have:=h.fy;simp[PD];omega }
     .exact h1
    .exact h1
  .exact h1
 .exact h1
theorem Kv.line{n:Nat}{b:Bk}(h:Kv n b){s:List UInt8}(hs:s.length<=4000){k:Int}:Kv (n+1) (mc b k s).1:=by
 unfold mc;split
 .rename_i w nm l hp;exact(h.TE k).word hp hs
 .exact h.le (Nat.le_succ n)
end
end Go.Proofs.YtpapbbojmclkgaaGreatDoor
namespace Go.Abs
variable {T:Ad}
theorem Ou{f:Nat}{fn:Fn}{args:List D}{J J':SK}{d:D}{np:Nat}{res:List FO}{body A q:cb}{fo:bP}{bs:List bP}(hT:T f=some fn)(hf:fn=⟨np,res,body⟩)(hl:args.length=np)(hs:iB body=some (A,fo,bs,q))(hlen:J'.length=J.length)
  (h:WC (dj T) A (lZ 0 args) ([]::J) (toD T fo bs q J' res d)):
  dj T (.call false f args J)=some (.val d J'):=by
 subst hf;obtain⟨x,e1,J1,h1,rfl,x2,e2,J2,h2,th,h3,J3,h4,ds,h5,s,h6⟩:=h;rw[hlen]at h6;refine gn ?_;have hn:bq (dj T) body (lZ 0 args) ([]::J)=none:=zV hs h1;simp only[du,hT,if_pos hl,aC,if_false,hn,hs,AR,h1,h2];have h4':∃dv,o4 (dj T) (bz e1 fo) (bs.map (bz e1)) th J2=some (.val dv J3):=by
  unfold wk at h4;split at h4
  .rename_i h7;cases h4;exact⟨_,h7⟩
  .cases h4
 obtain⟨dv,h4'⟩:=h4';cases x2 with
 |exit i=>cases h3
 |normal=>cases h3;simp only[AT,h4',uN,leave,h5,h6]
 |ret=>cases h3;simp only[AT,h4',uN,leave,h5,h6]
 |ft d=>cases h3;simp only[AT,h4',uN,leave,h5,h6]
end Go.Abs
namespace Go.Proofs.YtpapbbojmclkgaaGreatDoor
section
open Go Go.Abs Go.Rock Go.Book
variable {J:SK}
theorem Zc{c:List D}:dj T (.zg ew [.ref J.length 0 0 0] none ([.cells 0 c]::J))=some (.val (.cV []) ([.cells 0 c]::J)):=by
 refine C0 rfl rfl rfl (by simp[ri];exact⟨rfl,rfl⟩) ?_;simp
theorem R6{e:Int}:dj T (.zg ew [.ref J.length 0 0 0] (some (rf e)) ([.cells 0 [iI 0]]::J))=some (.val (.cV []) ([.cells 0 [iI e]]::J)):=by
 refine C0 rfl rfl rfl (by simp[ri];exact⟨rfl,rfl⟩) ?_;simp[rf]
theorem TP{b:Bk}{k:Nat}{nm:List UInt8}{l:List Int}(h:(ir b k nm l).2≠0):(ir b k nm l).1=b:=by
 unfold ir at h ⊢;split;all_goals
  simp only at h
  try unfold Go.Book.nF at *
  try unfold lE at *
  try unfold xH at *
  try unfold tc at *
  try unfold pJ at *
  try unfold CA at *
  try unfold rO at *
  try unfold oK at *
  try unfold mf at *
  try unfold oz at *
  try unfold sZ at *
  try unfold mI at *
  repeat' split
  all_goals first | rfl | (simp_all)
theorem abS{b:Bk}{er:List Int}{s:List UInt8}{n:Nat}{k:Int}(hK:Kv n b)(hn:n<=1000000)(hs:s.length<=4000):
  dj T (.call false aR [.ref J.length 6 0 0,iI k,.str s] (b.bH J.length er::J))=some (.val (iI (mc b k s).2) ((mc b k s).1.bH J.length er::J)):=by
 refine Ou En mE.eq_1 rfl rfl (by simp) ?_;cases hp:parse s with
 |none =>
  have hP:=λS=>Qe (J:=S) (s:=s) (by omega) hp
  have hX:wk T (.fn ew [] [.ref (J.length+1) 0 0 0]) [] (some (rf 4)) ([.cells 0 [iI 0]]::b.bH J.length er::J)=some ([.cells 0 [iI 4]]::b.bH J.length er::J):=uL (R6 (J:=b.bH J.length er::J));have hd:mc b k s=(b,4):=by simp[mc,hp]
  rw[hd];simp only[Bk.bH,Bk.cells,rf]at hX hP;simp[toD,Bk.bH,Bk.cells];rw[AP gG.eq_1];simp[OF,hP,hX]
 |some p =>
  obtain⟨w,nm,l⟩:=p;have hP:=λS hS=>Vi (J:=S) (s:=s) (by omega) hS hp
  have hD:=aiu (J:=J) (F:=[.cells 0 [iI 0]]) (er:=er) (hK.TE k) hn hp hs;have hd:mc b k s=ir {b with at_:=k } w.k nm l:=by simp[mc,hp]
  rw[hd];have hno:=TP (b:={b with at_:=k }) (k:=w.k) (nm:=nm) (l:=l);generalize ir {b with at_:=k } w.k nm l=r at hD hno ⊢;obtain⟨b',e⟩:=r;have hwc:P0 w=[.bool w.named,iI w.least,iI w.step,.fn ((LQ[w.k]?).getD 0) [] []]:=rfl;simp only[zQ,hwc]at hP;by_cases he:e=0
  .subst he;have hX:wk T (.fn ew [] [.ref (J.length+1) 0 0 0]) [] none ([.cells 0 [iI 0]]::b'.bH J.length er::J)=some ([.cells 0 [iI 0]]::b'.bH J.length er::J):=uL (Zc (J:=b'.bH J.length er::J));simp only[doR,if_true]at hD;simp only[Bk.bH,Bk.cells]at hX hD;simp[toD,Bk.bH,Bk.cells];rw[AP gG.eq_1];simp[OF,hP,hD,hX]
  .have hX:wk T (.fn ew [] [.ref (J.length+1) 0 0 0]) [] (some (rf e)) ([.cells 0 [iI 0]]::(Bk.bH J.length {b with at_:=k } er)::J)=some ([.cells 0 [iI e]]::(Bk.bH J.length {b with at_:=k } er)::J):=uL (R6 (J:=(Bk.bH J.length {b with at_:=k } er)::J));simp only[doR,he,if_false]at hD;have hb':b'={b with at_:=k }:=hno he;subst hb';simp only[Bk.bH,Bk.cells,rf]at hX hD;simp[toD,Bk.bH,Bk.cells];rw[AP gG.eq_1];simp[OF,hP,hD,hX]
def kO:Bk->Int->List (List UInt8)->Bk×List Int
 |b,_,[]=>(b,[])
 |b,k,s::l=>((kO (mc b k s).1 (k+1) l).1,(mc b k s).2::(kO (mc b k s).1 (k+1) l).2)
def jK(l:List (List UInt8)):Bk×List Int:=kO kl 0 l
theorem LY:∀{l:List (List UInt8)} {b:Bk} {k:Int},(kO b k l).2.length=l.length
 |[],_,_=>rfl
 |s::l,b,k=>by simp[kO,LY (l:=l)]
def okL(l:List (List UInt8)):Prop:=l.length<=100/\∀s∈l,s.length<=4000
theorem GL:∀{l:List (List UInt8)} {b:Bk} {k:Int} {n:Nat},Kv n b->(∀s∈l,s.length<=4000)->Kv (n+l.length) (kO b k l).1
 |[],b,k,n,h,_=>h
 |s::l,b,k,n,h,hs=>by
  have h1:=h.line (hs s (by simp)) (k:=k);have h2:=GL (l:=l) (k:=k+1) h1 λx hx=>hs x (by simp[hx])
  simp only[kO,aK];rwa[show n+(l.length+1)=n+1+l.length by omega]
theorem VO{lines:List (List UInt8)}(hl:okL lines):∀(m i:Nat) (b:Bk) (er:List Int),i+m=lines.length->er.length=i->Kv i b ->
  WL T [4,5,12,13,14] false mN [(4,.ref J.length 6 0 0),(5,.sl J.length 7 i 0 i 1),(12,lF lines dP),(13,iI lines.length),(14,iI i)] (b.bH J.length er::J)
   (λx e J'=>x=.exit 0/\get e 4=.ref J.length 6 0 0/\get e 5=.sl J.length 7 lines.length 0 lines.length 1/\J'=(kO b i (lines.drop i)).1.bH J.length (er++(kO b i (lines.drop i)).2)::J)
 |0,i,b,er,hi,he,hK=>by
  refine aB mN.eq_1 ?_;obtain rfl:i=lines.length:=by omega
  have h2:lines.drop lines.length=[]:=an (by omega);simp[h2,kO]
 |m+1,i,b,er,hi,he,hK=>by
  refine aB mN.eq_1 ?_;have h1:i<lines.length:=by omega
  obtain⟨s,hs⟩:=gE h1;have a1:=bu (f:=dP) (w:=1) (λ_=>rfl) hs;simp only[dP,cp]at a1;have h4:=cr h1 (by have:=hl.1;omega);have hsl:=hl.2 s (aj hs);have hn:=hl.1;have hC:=abS (J:=J) (b:=b) (er:=er) (s:=s) (k:=i) hK (by omega) hsl;have hK':=hK.line hsl (k:=i);rw[bD hs];simp only[kO];generalize mc b i s=r at hC hK' ⊢;obtain⟨b',e⟩:=r;have ih:=VO hl m (i+1) b' (er++[e]) (by omega) (by simp[he]) hK';have hel:=tQ er;have het:(fM er aT).take i=fM er aT:=ai (by omega);have hr:(i+1)*8<=room:=by unfold room;omega
  simp only[Bk.bH,Bk.cells,he]at hC;simp[h1,a1,h4,hC,Bk.bH,Bk.cells,hr,hel,het,he];refine WL.to ih (by simp) (by simp[Bk.bH,Bk.cells,he]) λx e' J' hh=>?_
  have e1:((i+1:Nat):Int)=(i:Int)+1:=by omega
  rw[e1]at hh;simpa[Bk.bH,Bk.cells]using hh
theorem ab2{lines:List (List UInt8)}(hl:okL lines):dj T (.call true Ak [lF lines dP] ([]::J)) =
  some (.val (.cV [.ref J.length 6 0 0,.sl J.length 7 lines.length 0 lines.length 1]) ((jK lines).1.bH J.length (jK lines).2::J)):=by
 refine xk rfl rfl rfl ?_;have hL:=VO (J:=J) hl lines.length 0 kl [] (by omega) rfl Kv.zero;rw[aE]at hL;simp;refine WL.to hL (by simp) (by simp[Bk.bH,Bk.cells,kl,nl]) ?_;rintro x e J' ⟨rfl,g4,g5,rfl⟩;simp[g4,g5,jK]
end
section
open Go Go.Abs Go.Rock
variable {J:SK}
theorem RS{f:dw}{bl wt:List Int}(hf:f.valid=true)(hl:bl.length<=9223372036854775807)(hw:bl.length=wt.length):∀(k i:Nat) (last:Int),i+k=bl.length->(i=0->last = -1)->(∀j,i=j+1->bl[j]?=some last)->(-1<=last) ->
  WL T [2,3,4,9] false nZ [(2,lF bl aT),(3,lF wt aT),(4,.bf (fL f)),(9,iI i)] J
   (λx e J'=>J'=J/\if yX f.size last (bl.drop i) (wt.drop i)then x=.exit 0 else x=.ret/\get e 8=.bool false)
 |0,i,last,hi,_,_,_=>by
  refine aB nZ.eq_1 ?_;have h1:¬i<bl.length:=by omega
  have h2:bl.drop i=[]:=an (by omega);simp[h1,h2,yX]
 |k+1,i,last,hi,g0,g1,g2=>by
  refine aB nZ.eq_1 ?_;have⟨h1,h1'⟩:i<bl.length/\i<wt.length:=by omega
  obtain⟨q1,q2⟩:=Br hf;obtain⟨b,hb⟩:=gE h1;obtain⟨w,hw'⟩:∃r,wt[i]?=some r:=⟨_,aI h1'⟩;have h2:=gr hb;have h3:=gr hw';have h4:=cr h1 hl;have h5:=bD hb;have h6:=bD hw';have hB:=λJ=>oX (J:=J) hf
  have w1:=cf (n:=f.size-1) (by omega);have ih:=λg2=>RS hf hl hw k (i+1) b (by omega) (by omega) (λj hj=>(show j=i by omega) ▸ hb) g2
  rw[h5,h6,yX];by_cases c0:b<0
  .have c1:bA b 0 (f.size-1)=false:=by simp[bA];omega
   simp[h1,h2,hB,pR,w1,c1,show ¬last<b by omega]
  by_cases c2:f.size<=b
  .have c1:bA b 0 (f.size-1)=false:=by simp[bA];omega
   simp[h1,h2,hB,pR,w1,c1,show ¬b<f.size by omega]
  have c1:bA b 0 (f.size-1)=true:=by simp[bA];omega
  have c3:b<f.size:=by omega
  by_cases ci:i=0
  .have:=g0 ci;subst ci;have c4:last<b:=by omega
   have h1z:0<bl.length:=h1;have h1z':0<wt.length:=h1';simp only[aE,Int.ofNat_zero]at h2 h3 h4;cases c5:bA w (-1000) 1000
   .simp[h1z,h1z',h2,h3,hB,pR,w1,c1,c3,c4,c5]
   .simp[h1z,h1z',h2,h3,hB,pR,w1,c1,c3,c4,c5];exact WL.to (ih (by omega)) (by simp) rfl λx e J hh=>by simpa[c4,c3]using hh
  .have hj:=g1 (i-1) (by omega);have h7:=gr hj;have e1:(((i:Int)-1))=((i-1:Nat):Int):=by omega
   have w2:=cf (n:=(((i-1:Nat):Nat):Int)) (by omega);have⟨h8,c6⟩:i-1<bl.length/\0<i:=by omega
   by_cases c4:b<=last
   .simp[h1,h2,h7,h8,hB,pR,w1,w2,e1,c1,c3,c4,c6,show ¬last<b by omega]
   .cases c5:bA w (-1000) 1000
    .simp[h1,h1',h2,h3,h7,h8,hB,pR,w1,w2,e1,c1,c3,c4,c5,c6,show last<b by omega]
    .simp[h1,h1',h2,h3,h4,h7,h8,hB,pR,w1,w2,e1,c1,c3,c4,c5,c6,show last<b by omega];exact WL.to (ih (by omega)) (by simp) rfl λx e J hh=>by simpa[show last<b by omega,c3]using hh
theorem YP{f:dw}{k:Int}{bl wt:List Int}(hf:f.valid=true)(hl:bl.length<=9223372036854775807):
  Cl B5 [.agg (fL f),iI k,lF bl aT,lF wt aT] (.bool (DU f k bl wt)) J:=by
 refine au rfl rfl rfl ?_;obtain⟨q1,q2,q3,q4,q5⟩:=dw.nv.1 hf;have w1:=cf (n:=f.k-1) (by omega);unfold DU;cases c1:bA k 0 (f.k-1)
 .simp[pR,w1,c1]
 by_cases c2:1<=bl.length
 rotate_left
 .have:bl=[]:=bw.1 (by omega);subst this;simp[pR,w1,c1]
 have c2':¬(bl.length:Int)<1:=by omega
 have c2'':¬bl=[]:=λh=>by rw[h]at c2;simp at c2
 by_cases c3:bl.length=wt.length
 rotate_left
 .simp[pR,w1,c1,c2',c3,show ¬(bl.length:Int)=wt.length by omega]
 have c4:¬(wt.length:Int)<1:=by omega
 have c5:¬wt=[]:=λh=>by rw[h]at c3;simp at c3;exact c2'' c3
 simp[pR,w1,c1,c3,c4];refine WL.to (RS (J:=[]::J) hf hl c3 bl.length 0 (-1) (by omega) (λ_=>rfl) (by omega) (by omega)) (by simp[c3]) rfl ?_;rintro x e J' ⟨rfl,h⟩;simp only[aE]at h;cases hc:yX f.size (-1) bl wt
 .simp[hc]at h;simp[h]
 .simp[hc]at h;simp[h];omega
theorem YJ{lo hi:Int}:Cl BZ [.agg [iI lo,iI hi]] (.bool (C3 lo hi)) J:=by
 refine au rfl rfl rfl ?_;unfold C3;by_cases c1 : -10000000000<=lo
 rotate_left
 .have:bA lo (-10000000000) 10000000000=false:=by simp[bA];omega
  simp[pR,this,c1]
 by_cases c2:lo<=hi
 .by_cases c3:hi<=10000000000
  .have e1:bA lo (-10000000000) 10000000000=true:=aS.2 (by omega);have e2:bA hi (-10000000000) 10000000000=true:=aS.2 (by omega);simp[pR,e1,e2,c1,c2,c3]
  .have e2:bA hi (-10000000000) 10000000000=false:=by simp[bA];omega
   cases e1:bA lo (-10000000000) 10000000000<;>simp[pR,e1,e2,c1,c2,c3]
 .cases e1:bA lo (-10000000000) 10000000000<;>cases e2:bA hi (-10000000000) 10000000000<;>simp[pR,e1,e2,c1,c2]
theorem P4{f:dw}{m:pG}(hf:f.valid=true)(hn:m.name.length<=9223372036854775807)(hl:m.bl.length<=9223372036854775807):
  Cl pk [.agg (fL f),.agg m.enc] (iI (f.measure m)) J:=by
 refine au rfl rfl rfl ?_;have h1:=λJ=>IG (J:=J) hn
 have h2:=λJ=>YP (J:=J) (k:=m.kind) (wt:=m.wt) hf hl
 unfold dw.measure;cases c1:named m.name
 .simp[h1,c1]
 cases c2:DU f m.kind m.bl m.wt
 .simp[h1,h2,c1,c2]
 cases c3:C3 m.lo m.hi<;>simp[h1,h2,YJ,c1,c2,c3]
theorem Le{l:List pG}{m:pG}{i:Nat}{d2:D}(hd2:d2.strip=d2/\d2.calm=d2)(hm:l[i]?=some m)(hl:l.length<=9223372036854775807):∀(k j:Nat),j+k=i ->
  WL T [1,2,5,7] false fj [(1,lF l pG.enc),(2,d2),(5,iI i),(7,iI j)] J
   (λx e J'=>J'=J/\if(((l.take i).drop j).map pG.name).contains m.name then x=.ret/\get e 4=iI 6 else x=.exit 2/\get e 1=lF l pG.enc/\get e 2=d2/\get e 5=iI i)
 |0,j,hj=>by
  refine aB fj.eq_1 ?_;obtain rfl:j=i:=by omega
  have h2:(l.take j).drop j=[]:=an (by rw[dp];omega);rw[h2];simp[hd2.2]
 |k+1,j,hj=>by
  refine aB fj.eq_1 ?_;have h0:i<l.length:=(aA.1 hm).1;have⟨h1,h1'⟩:j<i/\j<l.length:=by omega
  obtain⟨r,hr⟩:∃r,l[j]?=some r:=gE (by omega);have h2:=IW hr;have h3:=IW hm;simp only[pG.enc]at h2 h3;have h4:=cr h1' (by omega);have h5:(l.take i).drop j=r::(l.take i).drop (j+1):=bD (by rw[c9];simp[h1,hr]);have ih:=Le hd2 hm hl k (j+1) (by omega);rw[h5,aN];have hp:gW (.seq false) [.str r.name,.str m.name]=some (.bool (r.name == m.name)):=rfl;by_cases hc:r.name=m.name
  .rw[hc]at hp;simp[h0,h1,h1',h2,h3,hp,hc,hd2.2]
  .have hc':¬m.name=r.name:=λh=>hc h.symm
   have hb:(r.name == m.name)=false:=by simpa using hc
   rw[hb]at hp;simp[h0,h1,h1',h2,h3,h4,hp,hd2.2];exact WL.to ih (by simp) rfl λx e J' hh=>by simpa[hc']using hh
theorem HQ{f:dw}{l:List pG}(hf:f.valid=true)(hs:∀m∈l,m.name.length<=9223372036854775807/\m.bl.length<=9223372036854775807)(hl:l.length<=9223372036854775807):∀(k i:Nat),i+k=l.length ->
  WL T [1,2,5] false fk [(1,lF l pG.enc),(2,.bf (fL f)),(5,iI i)] J
   (λx e J'=>J'=J/\if f.xI ((l.take i).map pG.name) (l.drop i)=0 then x=.exit 0 else x=.ret/\get e 4=iI (f.xI ((l.take i).map pG.name) (l.drop i)))
 |0,i,hi=>by
  refine aB fk.eq_1 ?_;have h1:¬i<l.length:=by omega
  have h2:l.drop i=[]:=an (by omega);simp[h1,h2,dw.xI]
 |k+1,i,hi=>by
  refine aB fk.eq_1 ?_;have h1:i<l.length:=by omega
  obtain⟨m,hm⟩:=gE h1;have h2:=IW hm;have h4:=cr h1 (by omega);have h5:=bD hm;obtain⟨hs1,hs2⟩:=hs m (aj hm);have hC:=λJ=>P4 (J:=J) hf hs1 hs2
  simp only[pG.enc]at h2 hC;have ih:=HQ hf hs hl k (i+1) (by omega);have e1:(l.take (i+1)).map pG.name=(l.take i).map pG.name++[m.name]:=by rw[List.take_add_one,hm];simp
  rw[e1]at ih;rw[h5,dw.xI];by_cases hc1:f.measure m=0
  .simp[h1,h2,hC,hc1];refine WL.to (Le (d2:=.bf (fL f)) ⟨rfl,rfl⟩ hm hl i 0 (by omega)) (by simp) rfl ?_;rintro x e J' ⟨rfl,h⟩;simp only[aE]at h;cases hc:((l.take i).map pG.name).contains m.name
   .rw[hc]at h;simp at h;obtain⟨rfl,g1,g2,g5⟩:=h;simp[g1,g2,g5,h4];have hc':¬m.name∈List.take i (List.map pG.name l):=by simpa using hc
    exact WL.to ih (by simp) rfl λx e J' hh=>by simpa[hc1,hc']using hh
   .rw[hc]at h;simp at h;have hc':m.name∈List.take i (List.map pG.name l):=by simpa using hc
    simp[h,hc1]
  .simp[h1,h2,hC,hc1]
theorem NJ{f:dw}{l:List pG}(hf:f.valid=true)(hs:∀m∈l,m.name.length<=9223372036854775807/\m.bl.length<=9223372036854775807)(hl:l.length<=9223372036854775807):
  Cl oF [.agg (fL f),lF l pG.enc] (iI (f.vW l)) J:=by
 refine au rfl rfl rfl ?_;unfold dw.vW;by_cases h2:12<l.length
 .simp[h2,show(12:Int)<l.length by omega]
 rw[if_neg h2];simp[show ¬(12:Int)<l.length by omega];refine WL.to (HQ (J:=[]::J) hf hs hl l.length 0 (by omega)) (by simp) (by simp) ?_;rintro x e J' ⟨rfl,h⟩;simp only[aE,List.take_zero,bW]at h;by_cases hc:f.xI [] l=0
 .rw[if_pos hc]at h;subst h;simp[hc]
 .rw[if_neg hc]at h;obtain⟨rfl,h⟩:=h;simp[h]
theorem HR{b:bU}{rd:List sT}{n:Nat}(h:Bv b)(hl:rd.length<=40)(hw:∀x∈rd,0<=x.jP/\x.jP<=255):∀(k i:Nat),i+k=rd.length ->
  WL T [1,2,3,7] false fm [(1,iI n),(2,lF rd sT.enc),(3,.bf (bL b)),(7,iI i)] J
   (λx e J'=>J'=J/\if bT (eI b n) (rd.drop i)=0 then x=.exit 0 else x=.ret/\get e 6=iI (bT (eI b n) (rd.drop i)))
 |0,i,hi=>by
  refine aB fm.eq_1 ?_;have h1:¬i<rd.length:=by omega
  have h2:rd.drop i=[]:=an (by omega);simp[h1,h2,bT]
 |k+1,i,hi=>by
  refine aB fm.eq_1 ?_;have h1:i<rd.length:=by omega
  obtain⟨x,hx⟩:=gE h1;have h2:=Na hx;simp only[sT.enc]at h2;have h4:=cr h1 (by omega);have h5:=bD hx;have hwx:=hw x (aj hx);have hz:=h.sz;have hn:=h.n;have hwl:=h.av;have hS:=λJ=>oX (J:=J) h.fv
  have hsz:b.f.size=(b.n:Int):=hz;rw[hsz]at hS;have hsz':b.size=(b.n:Int):=hz;have w2:=cf (n:=(b.n:Int)-1) (by omega);have w3:=cf (n:=(b.av.length:Int)-1) (by omega);have ih:=HR (n:=n) h hl hw k (i+1) (by omega);rw[h5,bT];by_cases c0:x.jP<1
  .have c1:bA x.jP 1 4=false:=by simp[bA];omega
   have hE:eI b n x=1:=by simp[eI,c1]
   rw[hE];simp[h1,h2,c0]
  by_cases c0':4<x.jP
  .have c1:bA x.jP 1 4=false:=by simp[bA];omega
   have hE:eI b n x=1:=by simp[eI,c1]
   rw[hE];simp[h1,h2,c0,c0']
  have c1:bA x.jP 1 4=true:=aS.2 (by omega);by_cases c2:x.lo < -10000000000
  .have hE:eI b n x=1:=by simp[eI,c1,c2]
   rw[hE];simp[h1,h2,c0,c0',c2]
  by_cases c3:x.hi<x.lo
  .have hE:eI b n x=1:=by simp[eI,c1,c2,c3]
   rw[hE];simp[h1,h2,c0,c0',c2,c3]
  by_cases c4:10000000000<x.hi
  .have hE:eI b n x=1:=by simp[eI,c1,c2,c3,c4]
   rw[hE];simp[h1,h2,c0,c0',c2,c3,c4]
  by_cases c5:x.jP=1
  .have c1':bA 1 1 4=true:=rfl;cases c6:bA x.tick 0 n
   .have hE:eI b n x=2:=by simp[eI,c1',c2,c3,c4,c5,c6]
    rw[hE];simp[h1,h2,c2,c3,c4,c5,c6,dh]
   .cases c7:bA x.idx 0 ((b.n:Int)-1)
    .have hE:eI b n x=2:=by simp[eI,c1',c2,c3,c4,c5,c6,c7,hsz']
     rw[hE];simp[h1,h2,c2,c3,c4,c5,c6,c7,dh,hS,w2]
    .have hE:eI b n x=0:=by simp[eI,c1',c2,c3,c4,c5,c6,c7,hsz']
     rw[hE];simp[h1,h2,h4,c2,c3,c4,c5,c6,c7,dh,hS,w2];exact WL.to ih (by simp) rfl λx e J hh=>by simpa using hh
  .have c8:1<x.jP:=by omega
   cases c6:bA x.tick 1 n
   .have hE:eI b n x=2:=by simp[eI,c1,c2,c3,c4,c5,c6]
    rw[hE];simp[h1,h2,c0,c0',c2,c3,c4,c5,c8,c6,dh]
   .cases c7:bA x.idx 0 ((b.av.length:Int)-1)
    .have hE:eI b n x=2:=by simp[eI,c1,c2,c3,c4,c5,c6,c7]
     rw[hE];simp[h1,h2,c0,c0',c2,c3,c4,c5,c8,c6,c7,dh,w3]
    .have hE:eI b n x=0:=by simp[eI,c1,c2,c3,c4,c5,c6,c7]
     rw[hE];simp[h1,h2,h4,c0,c0',c2,c3,c4,c5,c8,c6,c7,dh,w3];exact WL.to ih (by simp) rfl λx e J hh=>by simpa using hh
theorem Mi{b:bU}{rd:List sT}{n:Nat}(h:Bv b)(hl:rd.length<=9223372036854775807)(hw:∀x∈rd,0<=x.jP/\x.jP<=255){wq:D}(hwq:wq.pY=lF b.av bG.enc):
  Cl oG [.agg [iI b.f.x,iI b.f.y,iI b.f.z,iI b.f.k,lF b.dL Rw.enc,iI b.cz,iI b.lift,iI b.deep,wq],iI n,lF rd sT.enc] (iI (va b n rd)) J:=by
 refine au rfl rfl rfl ?_;unfold va;by_cases h2:40<rd.length
 .simp[hwq,h2,show(40:Int)<rd.length by omega]
 rw[if_neg h2];simp[hwq,show ¬(40:Int)<rd.length by omega];refine WL.to (HR (J:=[]::J) (n:=n) h (by omega) hw rd.length 0 (by omega)) (by simp) (by simp) ?_;rintro x e J' ⟨rfl,hh⟩;simp only[aE]at hh;by_cases hc:bT (eI b n) rd=0
 .rw[if_pos hc]at hh;subst hh;simp[hc]
 .rw[if_neg hc]at hh;obtain⟨rfl,hh⟩:=hh;simp[hh]
end
section
open Go Go.Abs Go.Rock Go.Book
variable {J:SK}
def bS(b:Bk):List D:=[iI b.aQ.f.x,iI b.aQ.f.y,iI b.aQ.f.z,iI b.aQ.f.k,nl Rw.enc b.aQ.dL,iI b.aQ.cz,iI b.aQ.lift,iI b.aQ.deep,nl bG.enc b.aQ.av,
 nl dQ.enc b.ah,nl pE b.az,nl Trem.cF.enc b.rules,nl Trem.Ev.enc b.sV,iI b.k0,iI b.k1,iI b.k2,nl oW.enc b.cJ,nl Oh.enc b.fy,.bool b.ready,nl Ae.enc b.dq]
theorem tS{α:Type}{f:α->List D}(h:∀x,D.bd (f x)=true)(l:List α):(nl f l).clean=true:=by
 unfold nl;split
 .rfl
 .simp[D.clean,fN h l]
theorem nr{α:Type}{f:α->List D}(l:List α):Ua (nl f l)=some (iI l.length):=by
 unfold nl;split
 .rename_i h;rw[h];rfl
 .rfl
theorem jj{α:Type}{f:α->List D}{l:List α}(h:l≠[]):nl f l=lF l f:=by simp[nl,h]
theorem FA{α:Type}{f:α->List D}:nl f ([]:List α)=.aW:=rfl
theorem clE(x:dQ):D.bd x.enc=true:=by simp[D.clean,ma]
theorem acB(x:Trem.cF):D.bd x.enc=true:=by simp[D.clean]
theorem acA(x:Trem.Ev):D.bd x.enc=true:=by simp[D.clean,fN (f:=Trem.pH.enc) (λ_=>by simp[D.clean])]
theorem acD(x:oW):D.bd x.enc=true:=by simp[D.clean,fN (f:=Prt.enc) (λ_=>by simp[D.clean])]
theorem acC(x:Oh):D.bd x.enc=true:=by simp[D.clean]
theorem acE(x:Ae):D.bd x.enc=true:=by simp[D.clean]
theorem afK(x:List Int):D.bd (pE x)=true:=by simp[pE,D.clean,ma]
theorem nlc{b:Bk}:(nl Rw.enc b.aQ.dL).clean=true/\(nl bG.enc b.aQ.av).clean=true/\(nl dQ.enc b.ah).clean=true/\(nl pE b.az).clean=true/\(nl Trem.cF.enc b.rules).clean=true/\(nl Trem.Ev.enc b.sV).clean=true/\(nl oW.enc b.cJ).clean=true/\(nl Oh.enc b.fy).clean=true/\(nl Ae.enc b.dq).clean=true :=
 ⟨tS (λ_=>by simp[D.clean]) _,tS (λ_=>by simp[D.clean]) _,tS clE _,tS afK _,tS acB _,tS acA _,tS acD _,tS acC _,tS acE _⟩
theorem nu{b:Bk}:D.bd (bS b)=true:=by
 obtain⟨h1,h2,h3,h4,h5,h6,h7,h8,h9⟩:=nlc (b:=b);simp[bS,D.clean,h1,h2,h3,h4,h5,h6,h7,h8,h9]
theorem fS{b:Bk}:(bS b).length=20:=rfl
theorem eL{b:Bk}:(bS b).take 20=bS b:=rfl
def gV(l:List dQ):List bV:=(cc l).map (·.m)
theorem QJ{l:List dQ}{i:Nat}{e:dQ}(h:l[i]?=some e):gV (l.take (i+1))=if e.left=true then gV (l.take i)++[e.m]else gV (l.take i):=by
 rw[List.take_add_one,h];unfold gV cc;cases hl:e.left<;>simp[hl]
theorem J7(l:List dQ):(gV l).length<=l.length:=by
 unfold gV cc;rw[bE];exact fB _ _
theorem JI{l:List dQ}{i:Nat}{e:dQ}(h:l[i]?=some e):((fM l dQ.enc).drop (i*4)).take 4=e.enc:=bu (f:=dQ.enc) (w:=4) (λ_=>rfl) h
theorem RE{b:Bk}(hl:b.ah.length<=40):∀(k i:Nat),i+k=b.ah.length ->
  WL T [1,3,4] false n9 [(1,.bf (bS b)),(3,.sl J.length 0 (gV (b.ah.take i)).length 0 (gV (b.ah.take i)).length 2),(4,iI i)] ([.cells (gV (b.ah.take i)).length (fM (gV (b.ah.take i)) bV.enc)]::J)
   (λx e J'=>x=.exit 0/\get e 3=.sl J.length 0 (gV b.ah).length 0 (gV b.ah).length 2/\J'=[.cells (gV b.ah).length (fM (gV b.ah) bV.enc)]::J)
 |0,i,hi=>by
  refine aB n9.eq_1 ?_;obtain rfl:i=b.ah.length:=by omega
  rw[ai (aL _)];simp[bS]
 |k+1,i,hi=>by
  refine aB n9.eq_1 ?_;have⟨h1,h1'⟩:i<b.ah.length/\(i:Int)<b.ah.length:=by omega
  obtain⟨e,he⟩:=gE h1;have hne:b.ah≠[]:=λh=>by rw[h]at h1;simp at h1
  have h2:=JI he;simp only[dQ.enc]at h2;have h4:=cr h1 (by omega);have hn:=jj (f:=dQ.enc) hne;have ih:=RE hl k (i+1) (by omega);rw[QJ he]at ih;have a1:=J7 (b.ah.take i);rw[dp]at a1;have a4:=ZN (gV (b.ah.take i));cases hc:e.left
  .rw[hc]at ih h2;simp only[aC,if_false]at ih;simp[bS,hn,h1',h2,h4];exact WL.to ih (by simp[bS,hn]) rfl λx e J hh=>hh
  .rw[hc]at ih h2;simp only[if_true]at ih;have a6:(fM (gV (b.ah.take i)) bV.enc).take ((gV (b.ah.take i)).length*2)=fM (gV (b.ah.take i)) bV.enc:=ai (by omega);have h7:((gV (b.ah.take i)).length+1)*40<=room:=by unfold room;omega
   generalize gV (b.ah.take i)=M at *
   simp[bS,hn,h1',h2,h4,a4,a6,h7];exact WL.to ih (by simp[bS,hn]) (by simp) λx e J hh=>hh
theorem Mg{b:Bk}(hl:b.ah.length<=40)(hJ:J≠[]):Cl Ca [.agg (bS b)] (lF (gV b.ah) bV.enc) J:=by
 refine au rfl rfl rfl ?_;simp;refine WL.to (RE (J:=J) (b:=b) hl b.ah.length 0 (by omega)) (by simp[gV,cc]) (by simp[gV,cc]) ?_;rintro x e J' ⟨rfl,g3,rfl⟩;have hk:=nB (n:=16) (f:=bV.enc) (w:=2) (l:=gV b.ah) (j:=0) (v:=(gV b.ah).length) (bs:=[.cells (gV b.ah).length (fM (gV b.ah) bV.enc)]) (by decide) (λ_=>rfl) (λx=>by simp[D.clean,ma]) hJ rfl;simp[g3,hk]
theorem Mj{b:Bk}(hl:b.ah.length<=40):Cl Cb [.agg (bS b)] (.bool (decide (cc b.ah≠[]))) J:=by
 refine au rfl rfl rfl ?_;have hL:=λJ hJ=>Mg (J:=J) hl hJ
 try simp only[lF,Cl]at hL
 have hz:(gV b.ah).length=(cc b.ah).length:=by simp[gV]
 rw[hz]at hL;by_cases hc:cc b.ah=[]
 .have h0:(cc b.ah).length=0:=by rw[hc];rfl
  rw[h0]at hL;simp[hL,hc,fS,eL]
 .have h0:0<(cc b.ah).length:=aG.2 hc;have h0':(0:Int)<(cc b.ah).length:=by omega
  simp[hL,hc,h0,fS,eL]
def IY(L:Nat)(b:Bk):List D:=[iI b.aQ.f.x,iI b.aQ.f.y,iI b.aQ.f.z,iI b.aQ.f.k,nl Rw.enc b.aQ.dL,iI b.aQ.cz,iI b.aQ.lift,iI b.aQ.deep,nl bG.enc b.aQ.av,
 .sl L 0 0 0 b.ah.length 4,nl pE b.az,nl Trem.cF.enc b.rules,nl Trem.Ev.enc b.sV,iI b.k0,iI b.k1,iI b.k2,nl oW.enc b.cJ,nl Oh.enc b.fy,.bool b.ready,.sl L 1 0 0 b.dq.length 4]
def PY(b:Bk):List Abs.aD:=[.cells 0 (fM b.ah dQ.enc),.cells 0 (fM b.dq Ae.enc)]
def zS:List D:=[iI 0,iI 0,iI 0,iI 0,.aW,iI 0,iI 0,iI 0,.aW,.aW,.aW,.aW,.aW,iI 0,iI 0,iI 0,.aW,.aW,.bool false,.aW]
theorem DW:zS.length=20:=rfl
theorem zZ{l:List D}:l++zS.drop 20=l:=by simp[zS]
theorem aae{L:Nat}{b:Bk}:(IY L b).length=20:=rfl
theorem XA{L:Nat}{b:Bk}:(IY L b).take 20=IY L b:=rfl
theorem Dn{l n:Nat}(hn:0<n):∀{pre:List D} {d:D} {post:List D} {S:SK},D.bd pre=true->cG.frzL (cG l n) (pre++d::post) S=(pre++(cG l n d S).1::(cG.frzL (cG l n) post (cG l n d S).2).1,(cG.frzL (cG l n) post (cG l n d S).2).2):=by
 intro pre d post S h;rw[OQ,JY h hn];simp
theorem acX{b:Bk}(hm:b.ah≠[])(hw:b.dq≠[])(hJ:J≠[]):cG (J.length-1) 16 (.agg (IY J.length b)) (PY b::J)=(.agg (bS b),[.dead,.dead]::J):=by
 obtain⟨h1,h2,h3,h4,h5,h6,h7,h8,h9⟩:=nlc (b:=b);have k1:=nB (n:=15) (f:=dQ.enc) (w:=4) (l:=b.ah) (j:=0) (v:=0) (bs:=PY b) (by decide) (λ_=>rfl) clE hJ rfl;have k2:=nB (n:=15) (f:=Ae.enc) (w:=4) (l:=b.dq) (j:=1) (v:=0) (bs:=[.dead,.cells 0 (fM b.dq Ae.enc)]) (by decide) (λ_=>rfl) acE hJ rfl;rw[D8 (by simp[IY]) (by omega)];rw[show IY J.length b=(IY J.length b).take 9 ++ .sl J.length 0 0 0 b.ah.length 4::((IY J.length b).drop 10).take 9++[.sl J.length 1 0 0 b.dq.length 4]from rfl,dS,cm];rw[Dn (by omega) (by simp[IY,D.clean,h1,h2]),k1];simp only[PY,List.set_cons_zero];rw[Dn (by omega) (by simp[IY,D.clean,h4,h5,h6,h7,h8]),k2];simp[IY,bS,jj hm,jj hw]
def aaZ(lo hi:Int)(val:bV->Int)(e:dQ)(v:Int):Prop:=e.left=true->bA v lo hi=bA (val e.m) lo hi/\(bA v lo hi=false->v=val e.m)
theorem Lf{b:Bk}{lo hi:Int}{val:bV->Int}{vs:List Int}(hw:b.dq.length=b.ah.length)(hl:b.ah.length<=40)(hvl:vs.length=b.ah.length)
  (hv:∀(i:Nat) e v,b.ah[i]?=some e->vs[i]?=some v->aaZ lo hi val e v):∀(m i:Nat),i+m=b.ah.length ->
  WL T [1,2,3,4,5,10,11] false lK [(1,iI b.at_),(2,lF vs aT),(3,iI lo),(4,iI hi),(5,.own 0 (IY J.length (b.fT lo hi val i))),(10,.own 0 zS),(11,iI i)] (PY (b.fT lo hi val i)::J)
   (λx e J'=>x=.exit 0/\get e 5=.own 0 (IY J.length (ek b lo hi val))/\get e 10=.own 0 zS/\J'=PY (ek b lo hi val)::J)
 |0,i,h=>by
  refine aB lK.eq_1 ?_;obtain rfl:i=b.ah.length:=by omega
  have hml:=ua (b:=b) (lo:=lo) (hi:=hi) (val:=val) (i:=b.ah.length);simp[IY,PY,hml,ek,zS]
 |m+1,i,h=>by
  refine aB lK.eq_1 ?_;have⟨h1,h1v⟩:i<b.ah.length/\i<vs.length:=by omega
  obtain⟨e,he⟩:=gE h1;obtain⟨v,hvi⟩:=gE h1v;have a1:=bu (f:=aT) (w:=1) (λ_=>rfl) hvi;simp only[aT,cp]at a1;have hat:=S7 (lo:=lo) (hi:=hi) (val:=val) he;have hfl:=bu (f:=dQ.enc) (w:=4) (λ_=>rfl) hat;have hml:=ua (b:=b) (lo:=lo) (hi:=hi) (val:=val) (i:=i);have hwl:=vo (b:=b) (lo:=lo) (hi:=hi) (val:=val) (i:=i);have h4:=cr h1 (by omega);have ih:=Lf hw hl hvl hv m (i+1) (by omega);have hd:=pA (f:=dQ.enc) (w:=4) (λ_=>rfl) hat;have hd2:(fM (b.fT lo hi val i).ah dQ.enc).drop (i*4+2)=.bool e.left::iI e.PV::(fM (b.fT lo hi val i).ah dQ.enc).drop (i*4+4):=by
   have:=congrArg (List.drop 2) hd;simpa[cS]using this
  have hlen:=xn (b.fT lo hi val i).ah;rw[hml]at hlen;have q:4<=b.ah.length*4-i*4:=by omega
  have hh:=hv i e v he hvi;cases hc1:e.left with
  |false =>
   have hst:isStr lo hi val e=false:=by simp[isStr,hc1]
   rw[El he hst]at ih;simp[h1,IY,PY,hml,hwl,hd2,h4,hc1];exact WL.to ih (by simp[IY,hml,hwl]) (by simp[PY]) λx e J' hh=>by simpa[IY,PY,ua,vo]using hh
  |true =>
   obtain⟨hi1,hi2⟩:=hh hc1;cases hc2:bA v lo hi with
   |true =>
    have hst:isStr lo hi val e=false:=by simp[isStr,<- hi1,hc2]
    rw[El he hst]at ih;simp[h1,h1v,a1,IY,PY,hml,hwl,hd2,h4,hc1,dh,hc2];exact WL.to ih (by simp[IY,hml,hwl]) (by simp[PY]) λx e J' hh=>by simpa[IY,PY,ua,vo]using hh
   |false =>
    have hst:isStr lo hi val e=true:=by simp[isStr,hc1,<- hi1,hc2]
    obtain⟨hn1,hn2⟩:=Ma he hst hw;rw[<- hi2 hc2]at hn2;have⟨q2,q3⟩:i*4+2+1<=b.ah.length*4/\i*4+3+1<=b.ah.length*4:=by omega
    have p1:=FU (f:=dQ.enc) (w:=4) (k:=2) (v:=.bool false) (λ_=>rfl) (by omega) (x':=⟨e.m,false,e.PV⟩) hat rfl;have hat2:((b.fT lo hi val i).ah.set i ⟨e.m,false,e.PV⟩)[i]?=some ⟨e.m,false,e.PV⟩:=by simp[hml,h1]
    have p2:=FU (f:=dQ.enc) (w:=4) (k:=3) (v:=iI b.at_) (λ_=>rfl) (by omega) (x':=⟨e.m,false,b.at_⟩) hat2 rfl;rw[List.set_set]at p2;have hl2:=xn ((b.fT lo hi val i).ah.set i ⟨e.m,false,e.PV⟩);rw[List.length_set,hml]at hl2;have⟨h5,q5⟩:i<b.dq.length/\i*4+4<=b.dq.length*4:=by omega
    have hwe:=Em (b.fT lo hi val i).dq;rw[hwl]at hwe;have p3:=LH (f:=Ae.enc) (w:=4) (λ_=>rfl) (l:=(b.fT lo hi val i).dq) (i:=i) (x:=⟨b.at_,v,lo,hi⟩) (by omega);simp only[Ae.enc,cm,List.nil_append]at p3;simp[h1,h1v,a1,IY,PY,hml,hwl,hd2,hlen,h4,hc1,dh,hc2,q2,q3,p1,p2,hl2,h5,q5,hwe,p3];exact WL.to ih (by simp[IY,hwl,hn1,hn2,hml]) (by simp[PY,hn1,hn2]) λx e J' hh=>by simpa[IY,PY,ua,vo]using hh
theorem Lc{b:Bk}{lo hi:Int}{val:bV->Int}{vs:List Int}(hm:b.ah≠[])(hw:b.dq.length=b.ah.length)(hl:b.ah.length<=40)(hvl:vs.length=b.ah.length)
  (hv:∀(i:Nat) e v,b.ah[i]?=some e->vs[i]?=some v->aaZ lo hi val e v) (hJ:J≠[]):
  Cl yD [.agg (bS b),iI b.at_,lF vs aT,iI lo,iI hi] (.agg (bS (ek b lo hi val))) J:=by
 refine au rfl rfl rfl ?_;have hwn:b.dq≠[]:=λh=>by rw[h]at hw;exact hm (bw.1 hw.symm)
 have h:=Lf (J:=J) hw hl hvl hv b.ah.length 0 (by omega);rw[Mb]at h;have e1:=jj (f:=dQ.enc) hm;have e2:=jj (f:=Ae.enc) hwn;have⟨r1,r2⟩:b.ah.length*56<=room/\b.dq.length*32<=room:=by unfold room;omega
 have l1:=xn b.ah;have l2:=Em b.dq;simp[bS,e1,e2,r1,r2,l1,l2,hm,hwn];refine WL.to h (by simp[IY,zS]) (by simp[PY]) ?_;rintro x e J' ⟨rfl,g5,g10,rfl⟩;have hm':(ek b lo hi val).ah≠[]:=λh=>by have:=ua (b:=b) (lo:=lo) (hi:=hi) (val:=val) (i:=b.ah.length);unfold ek at h;rw[h]at this;exact hm (bw.1 this.symm)
 have hw':(ek b lo hi val).dq≠[]:=λh=>by have:=vo (b:=b) (lo:=lo) (hi:=hi) (val:=val) (i:=b.ah.length);unfold ek at h;rw[h]at this;exact hwn (bw.1 this.symm)
 have hf:=acX hm' hw' hJ;simp[g5,g10,DW,zZ,aae,XA,hf];rfl
end
end Go.Proofs.YtpapbbojmclkgaaGreatDoor
namespace Go.Book
open Go Go.Abs Go.Rock
def JV(l:List Prt)(i:Nat):Bool:=match l[i]? with
 |some p=>bA p.width 1 100000 && (bA p.kG 0 1000 && (i == 0 || decide (p.kG<=kM l i)))
 |none=>true
theorem Wo{l:List Prt}:(∀j,j<l.length->JV l j=true)↔∀j,j<l.length->Bi l j=true:=by
 have key:∀j p,l[j]?=some p->(JV l j=true↔bA p.width 1 100000=true/\bA p.kG 0 1000=true/\(j=0\/p.kG<=kM l j)):=by
  intro j p h;simp[JV,h]
 have key2:∀j p,l[j]?=some p->(Bi l j=true↔bA p.kG 0 (kM l j)=true/\bA p.width 1 100000=true):=by
  intro j p h;simp[Bi,h,Prt.ok]
 have get:∀j,j<l.length->∃p,l[j]?=some p:=λj h=>⟨_,aI h⟩
 have la:∀j p,l[j]?=some p->kM l (j+1)=p.kG:=λj p h=>by simp[kM,h]
 constructor
 .intro h j hj;obtain⟨p,hp⟩:=get j hj;obtain⟨h1,h2,h3⟩:=(key j p hp).1 (h j hj);rw[key2 j p hp];refine⟨?_,h1⟩;rw[aS]at h2 ⊢;rcases h3 with h3 | h3
  .subst h3;simpa[kM]using h2
  .exact⟨h2.1,h3⟩
 .intro h j hj;obtain⟨p,hp⟩:=get j hj;obtain⟨h1,h2⟩:=(key2 j p hp).1 (h j hj);rw[key j p hp];rw[aS]at h1;have hl:kM l j<=1000:=by
   clear h1 h2;induction j generalizing p with
   |zero=>simp[kM]
   |succ j ih =>
    obtain⟨q,hq⟩:=get j (by omega);have h1:=((key2 j q hq).1 (h j (by omega))).1;rw[aS]at h1;have:=ih (by omega) q hq;rw[la j q hq];omega
  exact⟨h2,aS.2 (by omega),.inr h1.2⟩
theorem XZ{u:oW}:u.ok=true↔(∀j,j<u.parts.length->JV u.parts j=true)/\bA u.wZ 0 5=true/\1<=u.parts.length/\u.parts.length<=8:=by
 rw[Wo,<- Ls,oW.ok,af,af,aS (n:=(u.parts.length:Int))];constructor
 .rintro⟨h1,h2,h3⟩;exact⟨h3,h1,by omega⟩
 .rintro⟨h1,h2,h3⟩;exact⟨h2,by omega,h1⟩
end Go.Book
namespace Go.Proofs.YtpapbbojmclkgaaGreatDoor
open Go Go.Abs Go.Rock Go.Book
variable {J:SK}
theorem RH{u:oW}(hl:u.parts.length<=1000000):∀(k i:Nat),i+k=u.parts.length ->
  WL T [1,3] false kn [(1,.bf u.enc),(3,iI i)] J
   (λx e J'=>J'=J/\((x=.exit 0/\get e 1=.bf u.enc/\∀j,i<=j->j<u.parts.length->JV u.parts j=true)\/(x=.ret/\get e 2=.bool false/\∃j,j<u.parts.length/\JV u.parts j=false)))
 |0,i,hi=>by
  refine aB kn.eq_1 ?_;obtain rfl:i=u.parts.length:=by omega
  simp;intro j h1 h2;omega
 |k+1,i,hi=>by
  refine aB kn.eq_1 ?_;have h1:i<u.parts.length:=by omega
  obtain⟨p,hp⟩:=gE h1;have h2:=bu (f:=Prt.enc) (w:=2) (λ_=>rfl) hp;have h4:=cr h1 (by omega);have ih:=RH hl k (i+1) (by omega);have step:JV u.parts i=true->WL T [1,3] false kn [(1,.bf u.enc),(3,iI (i+1:Nat))] J
   (λx e J'=>J'=J/\((x=.exit 0/\get e 1=.bf u.enc/\∀j,i<=j->j<u.parts.length->JV u.parts j=true)\/(x=.ret/\get e 2=.bool false/\∃j,j<u.parts.length/\JV u.parts j=false))):=by
   intro hq;refine WL.to ih rfl rfl ?_;rintro x e J' ⟨h1,h2 | h2⟩
   .refine⟨h1,.inl ⟨h2.1,h2.2.1,λj hj hj2=>?_⟩⟩;by_cases hij:j=i
    .rw[hij];exact hq
    .exact h2.2.2 j (by omega) hj2
   .exact⟨h1,.inr h2⟩
  have hf:JV u.parts i=(bA p.width 1 100000 && (bA p.kG 0 1000 && (i == 0 || decide (p.kG<=kM u.parts i)))):=by simp[JV,hp]
  cases c1:bA p.width 1 100000
  .rw[c1]at hf;simp[h1,h2,c1,dh];exact⟨i,h1,by simpa using hf⟩
  cases c2:bA p.kG 0 1000
  .rw[c1,c2]at hf;simp[h1,h2,c1,c2,dh];exact⟨i,h1,by simpa using hf⟩
  simp only[oW.enc]at step;by_cases hz:i=0
  .have q1:¬0<i:=by omega
   simp[h1,h2,h4,c1,c2,dh,q1];exact WL.to (step (by rw[hf,c1,c2,hz];rfl)) (by simp) rfl λx e J' hh=>hh
  .obtain⟨q,hq⟩:∃q,u.parts[i-1]?=some q:=⟨_,aI (by omega)⟩;have d2:=bu (f:=Prt.enc) (w:=2) (λ_=>rfl) hq;have w1:=cf (n:=(i:Int)-1) (by omega);have⟨e1,q1,q2,q3⟩:((i:Int)-1).toNat=i-1/\0<i/\1<=(i:Int)/\(i:Int)-1<u.parts.length:=by omega
   have hla:kM u.parts i=q.kG:=by
    obtain⟨m,rfl⟩:∃m,i=m+1:=⟨i-1,by omega⟩;simp at hq;simp[kM,hq]
   rw[hla,c1,c2]at hf;by_cases c3:p.kG<=q.kG
   .have c3':¬q.kG<p.kG:=by omega
    simp[h1,h2,h4,c1,c2,dh,d2,w1,e1,q1,q2,q3,c3'];refine WL.to (step (by simp[hf,c3])) (by simp) rfl λx e J' hh=>by simpa using hh
   .have c3':q.kG<p.kG:=by omega
    simp[h1,h2,c1,c2,dh,d2,w1,e1,q1,q2,q3,c3'];exact⟨i,h1,by simp[hf,c3,hz]⟩
theorem Ti{u:oW}(hl:u.parts.length<=1000000):Cl Az [.agg u.enc] (.bool u.ok) J:=by
 refine au rfl rfl rfl ?_;simp;refine WL.to (RH hl u.parts.length 0 (by omega)) (by simp) rfl ?_;rintro x e J' ⟨rfl,⟨rfl,g1,h⟩ | ⟨rfl,g2,j,hj,h⟩⟩
 .have hu:u.ok=true↔bA u.wZ 0 5=true/\1<=u.parts.length/\u.parts.length<=8:=by
   rw[XZ];exact⟨λh=>h.2,λhh=>⟨λj=>h j (by omega),hh⟩⟩
  cases c1:bA u.wZ 0 5
  .have:u.ok=false:=by rw[c1]at hu;simpa using hu
   simp[g1,dh,c1,this]
  by_cases c2:1<=u.parts.length
  .have c2':(1:Int)<=u.parts.length:=by omega
   by_cases c3:u.parts.length<=8
   .have:u.ok=true:=hu.2 ⟨c1,c2,c3⟩;simp[g1,dh,c1,this,c2',show(u.parts.length:Int)<=8 by omega]
   .have:u.ok=false:=by cases hk:u.ok with
     |false=>rfl
     |true=>exact absurd (hu.1 hk).2.2 c3
    simp[g1,dh,c1,this,c2',show ¬(u.parts.length:Int)<=8 by omega]
  .have:u.ok=false:=by cases hk:u.ok with
     |false=>rfl
     |true=>exact absurd (hu.1 hk).2.1 c2
   simp[g1,dh,c1,this,show ¬(1:Int)<=u.parts.length by omega]
 .have:u.ok=false:=by cases hk:u.ok with
   |false=>rfl
   |true=>have:=(XZ.1 hk).1 j hj;rw[h]at this;cases this
  simp[g2,this]
def gp(r:Bk×Int):D:=.cV [.agg (bS r.1),iI r.2]
theorem vt{n:Nat}:∀{l:List D},D.bd l=true->D.bd (l.take n)=true/\D.bd (l.drop n)=true:=by
 induction n with
 |zero=>intro l h;exact⟨rfl,h⟩
 |succ n ih =>
  intro l h;cases l with
  |nil=>exact⟨rfl,rfl⟩
  |cons d l =>
   simp only[D.bd,af]at h;exact⟨by simp only[List.take_succ_cons,D.bd,h.1,(ih h.2).1];rfl,by simpa using(ih h.2).2⟩
theorem kN{b:Bk}{e:Int}{L:Nat}{S:SK}:cG L 16 (.cV [.agg (bS b),iI e]) S=(.cV [.agg (bS b),iI e],S):=eW (by simp[D.clean,nu]) (by omega)
theorem adQ{b:Bk}{e:Int}(k:Nat){α:Type}{f:α->List D}{w:Nat}(hw:∀x,(f x).length=w)(hc:∀x,D.bd (f x)=true){l:List α}{j v:Nat}{bs:List Abs.aD}(hJ:J≠[])(hj:bs[j]?=some (.cells v (fM l f))):
  cG (J.length-1) 16 (.cV [.agg ((bS b).take k ++ .sl J.length j v 0 l.length w::(bS b).drop (k+1)),iI e]) (bs::J)=(.cV [.agg ((bS b).take k++lF l f::(bS b).drop (k+1)),iI e],bs.set j .dead::J):=by
 have h1:=(vt (n:=k) (nu (b:=b))).1;have h2:=(vt (n:=k+1) (nu (b:=b))).2;have app:∀a c:List D,D.bd (a++c)=(D.bd a && D.bd c):=by
  intro a c;induction a with
  |nil=>rfl
  |cons d a ih=>simp[ih,Bool.and_assoc]
 have h3:D.bd ((bS b).take k ++ .sl J.length j v 0 l.length w::(bS b).drop (k+1))=false:=by simp[app,D.clean]
 rw[tA (by simp[D.clean,h3]) (by omega)];simp only[lA,nf];rw[D8 h3 (by omega),Dn (by omega) h1,nB (by decide) hw hc hJ hj,JY h2 (by omega),eW rfl (by omega)]
theorem DQ{b b':Bk}{e:Int}(k:Nat){α:Type}{f:α->List D}(w:Nat)(hw:∀x,(f x).length=w)(hc:∀x,D.bd (f x)=true)(l:List α)(j v n:Nat){X cs:List D}{bs:List Abs.aD}(hJ:J≠[])(hj:bs[j]?=some (.cells v cs))(hX:X=(bS b).take k ++ .sl J.length j v 0 n w::(bS b).drop (k+1))(hn:l.length=n)(hcs:fM l f=cs)
  (hb:bS b'=(bS b).take k ++ .bY n cs::(bS b).drop (k+1)):
  ∃s,cG (J.length-1) 16 (.cV [.agg X,iI e]) (bs::J)=(.cV [.agg (bS b'),iI e],s::J):=by
 subst hX hn hcs;rw[hb];exact⟨_,adQ k hw hc hJ hj⟩
theorem Hu{α:Type}{f:α->List D}(l:List α)(x:α):nl f (l++[x])=.bY (l.length+1) (fM l f++f x):=by simp[nl]
theorem RV{A:List D}{u:oW}{hd:D}(hl:u.parts.length<=1000000):∀(m j:Nat),j+m=u.parts.length ->
  WL T [1,2,4,6,7] false oe [(1,.bY (u.parts.length*2+1) (hd::fM u.parts Prt.enc)),(2,.own 0 A),(4,.own 0 zS),(6,.own 0 [iI u.wZ,.sl J.length 0 j 0 j 2]),(7,iI (j*2+1))] ([.cells j (fM (u.parts.take j) Prt.enc)]::J)
   (λx e J'=>x=.exit 0/\get e 2=.own 0 A/\get e 4=.own 0 zS/\get e 6=.own 0 [iI u.wZ,.sl J.length 0 u.parts.length 0 u.parts.length 2]/\J'=[.cells u.parts.length (fM u.parts Prt.enc)]::J)
 |0,j,h=>by
  refine aB oe.eq_1 ?_;obtain rfl:j=u.parts.length:=by omega
  simp
 |m+1,j,h=>by
  refine aB oe.eq_1 ?_;have h1:j<u.parts.length:=by omega
  obtain⟨p,hp⟩:=gE h1;have d1:=pA (f:=Prt.enc) (w:=2) (λ_=>rfl) hp;have d2:(fM u.parts Prt.enc).drop (j*2+1)=iI p.kG::(fM u.parts Prt.enc).drop (j*2+2):=by
   have:=congrArg (List.drop 1) d1;simpa[cS]using this
  have⟨t1,t2,h2,h3,h0,h0'⟩:((j:Int)*2+1).toNat=j*2+1/\((j:Int)*2+1+1).toNat=j*2+1+1/\(j:Int)*2+1<(u.parts.length:Int)*2+1/\(j:Int)*2+1+1<(u.parts.length:Int)*2+1/\0<=(j:Int)*2+1/\0<=(j:Int)*2+1+1:=by omega
  have w1:=cf (n:=(j:Int)*2+1+1) (by omega);have w2:=cf (n:=(j:Int)*2+1+2) (by omega);have hl1:(u.parts.take j).length=j:=by simp;omega
  have hr:(j+1)*16<=room:=by unfold room;omega
  have ha:=GJ (u.parts.take j);rw[hl1]at ha;have ta:(fM (u.parts.take j) Prt.enc).take (j*2)=fM (u.parts.take j) Prt.enc:=ai (by omega);have ih:=RV (A:=A) (hd:=hd) hl m (j+1) (by omega);have htk:u.parts.take (j+1)=u.parts.take j++[p]:=by rw[List.take_add_one,hp];rfl
  rw[htk]at ih;have hj1:((j+1:Nat):Int)*2+1=(j:Int)*2+1+2:=by omega
  rw[hj1]at ih;simp[h2,h3,h0,h0',t1,t2,d1,d2,w1,w2,hr,ha,ta];exact WL.to ih (by simp) (by simp) λx e J' hh=>hh
theorem YR{b:Bk}{u:oW}(hl:u.parts.length<=1000000)(hb:b.cJ.length<=1000000)(hJ:J≠[]):Cl xw [.agg (bS b),.bY (u.parts.length*2+1) (iI u.wZ::fM u.parts Prt.enc)] (gp (sZ b u)) J:=by
 refine au rfl rfl rfl ?_;have hn:=nr (f:=oW.enc) b.cJ;have hc:=nu (b:=b);by_cases h1:b.cJ.length<10
 case neg =>
  have h1':(10:Int)<=b.cJ.length:=by omega
  simp[bS,hn,h1',sZ,h1,gp];exact⟨_,kN⟩
 have h1':¬(10:Int)<=b.cJ.length:=by omega
 have hL:=RV (J:=J) (A:=bS b) (u:=u) (hd:=iI u.wZ) hl u.parts.length 0 (by omega);have q0:(0:Int)<(u.parts.length:Int)*2+1:=by omega
 simp[bS,hn,h1',q0];refine WL.to hL (by simp[bS,zS]) (by simp) ?_;rintro x e J' ⟨rfl,g2,g4,g6,rfl⟩;have hC:=λJ=>Ti (J:=J) (u:=u) hl
 simp only[oW.enc]at hC;have hf:=pV (f:=Prt.enc) (w:=2) (λ_=>rfl) (λ_=>by simp[D.clean]) (l:=u.parts) (j:=0) (v:=u.parts.length) (bs:=[Abs.aD.cells u.parts.length (fM u.parts Prt.enc)]) (J:=J) hJ rfl;cases h2:u.ok
 .rw[h2]at hC;simp[g2,g4,g6,hf,hC,fS,eL,DW,zZ,sZ,h1,h2,gp];exact⟨_,kN⟩
 .rw[h2]at hC;have l1:=I2 b.cJ;have l2:(fM b.cJ oW.enc).take (b.cJ.length*2)=fM b.cJ oW.enc:=ai (by omega);have⟨r1,r2,r3⟩:b.cJ.length*32<=room/\(b.cJ.length+1)*32<=room/\32<=room:=by unfold room;omega
  by_cases hm:b.cJ=[]
  .simp[g2,g4,g6,hf,hC,bS,zS,sZ,h2,gp,hm,FA,r3];exact DQ (b:=b) (b':=Is b u) 16 2 (λ_=>rfl) acD [u] 1 0 1 hJ rfl rfl rfl (by simp) (by simp[bS,Is,hm,nl])
  .have e1:=jj (f:=oW.enc) hm;simp[g2,g4,g6,hf,hC,bS,zS,sZ,h1,h2,gp,hm,e1,l1,l2,r1,r2];exact DQ (b:=b) (b':=Is b u) 16 2 (λ_=>rfl) acD (b.cJ++[u]) 1 1 (b.cJ.length+1) hJ rfl rfl (by simp) (by simp) (by simp[bS,Is,Hu])
end Go.Proofs.YtpapbbojmclkgaaGreatDoor
