import Derived.Test.YtpapbbojmclkgaaGreatDoorTxt5
set_option linter.all false
set_option maxRecDepth 100000
namespace Go.Proofs.YtpapbbojmclkgaaGreatDoor
section
open Go Go.Abs Go.Rock Go.Book
variable {J:SK}
def Qf(b:Bk)(w price:Int)(ws:List Int):Bk:={b with dk:=b.dk++[⟨b.aw.length,w,Di ws,Dh ws,Di ws*price,Dh ws*price⟩] }
def Eg(b:Bk)(w lv u price:Int):Bool:=bC w 0 ((b.aS.av.length:Int)-1) && (bC lv 0 ((b.aS.dP.length:Int)-1) && (bC u 0 ((b.cI.length:Int)-1) && bC price 0 1000))
def vN(b:Bk)(w lv u:Int):Int:=bU (λe=>uX b w.toNat lv.toNat u.toNat e.m) (cc b.ai)
def oU(b:Bk)(w lv u:Int):List Int:=(cc b.ai).map λe=>pc b w.toNat lv.toNat u.toNat e.m
def mX(b:Bk)(w lv u price:Int):Bk×Int :=
 if cc b.ai=[]\/b.aw=[]then(b,8)else if Eg b w lv u price=true then(if vN b w lv u=0 then(Qf b w price (oU b w lv u),0)else(b,vN b w lv u))else(b,2)
theorem TC(l:List JG):(fM l JG.enc).length=l.length*6:=b8 (f:=JG.enc) (w:=6) (λ_=>rfl) l
theorem IG{c d:Int}:∀{l:List Int} {a:Int},(c<=a/\a<=d)->(∀x∈l,c<=x/\x<=d)->c<=l.foldl min a/\l.foldl min a<=d
 |[],a,h,_=>h
 |x::l,a,h,hl=>by
  have h1:=hl x (by simp);exact IG (l:=l) (a:=min a x) (by omega) λy hy=>hl y (by simp[hy])
theorem IF{c d:Int}:∀{l:List Int} {a:Int},(c<=a/\a<=d)->(∀x∈l,c<=x/\x<=d)->c<=l.foldl max a/\l.foldl max a<=d
 |[],a,h,_=>h
 |x::l,a,h,hl=>by
  have h1:=hl x (by simp);exact IF (l:=l) (a:=max a x) (by omega) λy hy=>hl y (by simp[hy])
theorem XK{c d:Int}{l:List Int}(h0:c<=0/\0<=d)(hl:∀x∈l,c<=x/\x<=d):(c<=Di l/\Di l<=d)/\(c<=Dh l/\Dh l<=d):=by
 cases l with
 |nil=>exact⟨h0,h0⟩
 |cons x l=>exact⟨IG (hl x (by simp)) λy hy=>hl y (by simp[hy]),IF (hl x (by simp)) λy hy=>hl y (by simp[hy])⟩
theorem NZ{b:Bk}{w lv u:Nat}{m:bZ}(hu:u<b.cI.length)(huk:∀x∈b.cI,x.ok=true)(hE:uX b w lv u m=0):0<=pc b w lv u m/\pc b w lv u m<=1000000000:=by
 have hun:b.cI[u]?=some (wI b u):=by simp[wI,hu]
 have hok:=huk _ (aj hun);simp only[pf.ok,af,aP]at hok;have hs:=Aa (by omega) hok.2.2;unfold uX at hE;unfold pc;cases hr:Rock.run b.aS m b.aw with
 |none=>simp
 |some r =>
  rw[hr]at hE;simp only at hE ⊢;split at hE
  .unfold J8 at hE;split at hE
   .rename_i hv;simp only[tA.valid,af,aP]at hv;have:=ND hs hv.1.1;omega
   .cases hE
  .cases hE
theorem ZC{F:List Abs.aG}{b:Bk}{er:List Int}{nm:List UInt8}{w lv u price:Int}{b':Bk}{e:Int}(ht:fK b.aS.dP=true)(hml:b.ai.length<=40)(hok:∀e∈b.ai,Ok b.aS [e.m] b.aw)(hrun:∀e∈b.ai,e.left=true->∃r,Rock.run b.aS e.m b.aw=some r)(huk:∀x∈b.cI,x.ok=true)(hul:b.cI.length<=10)(hwl:b.aS.av.length<=1000000)(hsl:b.dk.length<=1000000)(hd:mX b w lv u price=(b',e))(he:e=0):
  dr T (.call false 172 [.ref J.length 6 0 0,.str nm,.bT 4 [iI w,iI lv,iI u,iI price]] (F::b.bF J.length er::J))=some (.val (.cK []) (F::b'.bF J.length er::J)):=by
 refine fy rfl rfl rfl (by simp) ?_;unfold mX at hd;split at hd
 case isTrue=>cases hd;cases he
 rename_i c1;split at hd
 case isFalse=>cases hd;cases he
 rename_i c2;split at hd
 case isFalse=>cases hd;rename_i h;exact absurd he h
 rename_i c3;cases hd;have htl:b.aS.dP.length<=20:=by
  simp only[fK,af]at ht;have:=aP.1 ht.1;omega
 have c1a:cc b.ai≠[]:=λh=>c1 (.inl h)
 have c1b:b.aw≠[]:=λh=>c1 (.inr h)
 have q1:0<(cc b.ai).length:=aI.2 c1a;have q2:0<b.aw.length:=aI.2 c1b;have hLf:=λS=>Hn (J:=J) (b:=b) (er:=er) (S:=S) (by omega)
 simp only[Bk.bF,Bk.cells]at hLf;have hc2:=c2;simp only[Eg,af]at hc2;obtain⟨k1,k2,k3,k4⟩:=hc2;have i1:=aP.1 k1;have i2:=aP.1 k2;have i3:=aP.1 k3;have i4:=aP.1 k4;obtain⟨w,rfl⟩:∃n:Nat,w=n:=⟨w.toNat,by omega⟩;obtain⟨lv,rfl⟩:∃n:Nat,lv=n:=⟨lv.toNat,by omega⟩;obtain⟨u,rfl⟩:∃n:Nat,u=n:=⟨u.toNat,by omega⟩;simp only[vN,oU,Int.toNat_natCast]at c3 ⊢;have w1:=cb (n:=(b.aS.av.length:Int)-1);have w2:=cb (n:=(b.aS.dP.length:Int)-1);have w3:=cb (n:=(b.cI.length:Int)-1);have hL:=QY (J:=J) (F:=F) (er:=er) (ls:=cc b.ai) (w:=w) (lv:=lv) (u:=u) (price:=price) ht (λe he=>hok e (cS.1 he).1) (λe he=>hrun e (cS.1 he).1 (cS.1 he).2) c1b (by have:=fD (λe:ec=>e.left) b.ai;simp only[cc];omega) (by omega) (by omega) (by omega) huk (cc b.ai).length 0 [] (by omega) rfl;rw[aC]at hL;simp[Bk.bF,Bk.cells,hLf,q1,q2,cQ,ej,w1,w2,w3,k1,k2,k3,k4];refine WL.to hL (by simp) (by simp[Bk.bF,Bk.cells]) ?_;intro x e J' hq;simp only[Hb,if_pos c3,List.nil_append]at hq;obtain⟨rfl,g0,g7,g10,g11,rfl⟩:=hq;have hbs:∀x∈(cc b.ai).map (λe=>pc b w lv u e.m),0<=x/\x<=1000000000:=by
  intro x hx;simp only[bI]at hx;obtain⟨e,he,rfl⟩:=hx;exact NZ (by omega) huk (pF c3 e he)
 have hwl2:((cc b.ai).map (λe=>pc b w lv u e.m)).length=(cc b.ai).length:=by simp
 have hlm:(cc b.ai).length<=40:=by have:=fD (λe:ec=>e.left) b.ai;simp only[cc];omega
 generalize hws:(cc b.ai).map (λe=>pc b w lv u e.m)=ws at *
 have hwne:ws≠[]:=by intro hh;rw[hh]at hwl2;simp at hwl2;omega
 obtain⟨⟨m1,m2⟩,m3,m4⟩:=XK (by omega) hbs;have hSp:=λJ=>acS (J:=J) hwne (by omega)
 generalize hlo:Di ws=lo at *
 generalize hhi:Dh ws=hi at *
 have p1:0<=lo*price:=bA m1 i4.1;have p2:lo*price<=1000000000*1000:=cp m2 i4.2 i4.1 (by omega);have p3:0<=hi*price:=bA m3 i4.1;have p4:hi*price<=1000000000*1000:=cp m4 i4.2 i4.1 (by omega);have w4:=cb (n:=lo*price);have w5:=cb (n:=hi*price);have hfr:∀S:SK,S.length=J.length+1+1->cF 0 16 (.sl (J.length+1+1) 0 ws.length 0 ws.length 1) ([.cells ws.length (fM ws aO)]::S)=(lF ws aO,[.dead]::S):=by
  intro S hS;have:=o9 (f:=aO) (w:=1) (λ_=>rfl) (λ_=>by simp[D.clean]) (l:=ws) (j:=0) (v:=ws.length) (bs:=[Abs.aG.cells ws.length (fM ws aO)]) (J:=S) (by intro h;subst h;simp at hS) (by simp);rw[hS]at this;simpa using this
 have r2:(b.dk.length+1)*48<=room:=by unfold room;omega
 have r3:=TC b.dk;have r4:(fM b.dk JG.enc).take (b.dk.length*6)=fM b.dk JG.enc:=ah (by omega);simp[g0,g7,g10,g11,hfr,hSp,Bk.bF,Bk.cells,w4,w5,r2,r3,r4,Qf,hlo,hhi]
theorem V8{F:List Abs.aG}{b:Bk}{er:List Int}{nm:List UInt8}{w lv u price:Int}{b':Bk}{e:Int}(ht:cc b.ai≠[]->fK b.aS.dP=true)(hml:b.ai.length<=40)(hok:∀e∈b.ai,Ok b.aS [e.m] b.aw)(hrun:∀e∈b.ai,e.left=true->∃r,Rock.run b.aS e.m b.aw=some r)(huk:∀x∈b.cI,x.ok=true)(hul:b.cI.length<=10)(hwl:b.aS.av.length<=1000000)(hsl:b.dk.length<=1000000)(hd:mX b w lv u price=(b',e))(he:e≠0):
  dr T (.call false 172 [.ref J.length 6 0 0,.str nm,.bT 4 [iI w,iI lv,iI u,iI price]] (F::b.bF J.length er::J))=some (.fu (rf e) (F::b.bF J.length er::J)):=by
 refine dX rfl rfl rfl ?_;have hLf:=λS=>Hn (J:=J) (b:=b) (er:=er) (S:=S) (by omega)
 simp only[Bk.bF,Bk.cells]at hLf;unfold mX at hd;split at hd
 case isTrue c1 =>
  cases hd;by_cases c1a:cc b.ai=[]
  .simp[Bk.bF,Bk.cells,hLf,c1a,dM,D.clean,rf]
  .have q1:0<(cc b.ai).length:=aI.2 c1a;have c1b:b.aw=[]:=c1.resolve_left c1a;simp[Bk.bF,Bk.cells,hLf,q1,c1b,dM,D.clean,rf]
 rename_i c1;have c1a:cc b.ai≠[]:=λh=>c1 (.inl h)
 have c1b:b.aw≠[]:=λh=>c1 (.inr h)
 have ht:=ht c1a;have htl:b.aS.dP.length<=20:=by
  simp only[fK,af]at ht;have:=aP.1 ht.1;omega
 have q1:0<(cc b.ai).length:=aI.2 c1a;have q2:0<b.aw.length:=aI.2 c1b;have w1:=cb (n:=(b.aS.av.length:Int)-1);have w2:=cb (n:=(b.aS.dP.length:Int)-1);have w3:=cb (n:=(b.cI.length:Int)-1);split at hd
 case isFalse c2 =>
  cases hd;simp only[Eg]at c2;cases k1:bC w 0 ((b.aS.av.length:Int)-1)
  .simp[Bk.bF,Bk.cells,hLf,q1,q2,cQ,ej,w1,k1,dM,D.clean,rf]
  cases k2:bC lv 0 ((b.aS.dP.length:Int)-1)
  .simp[Bk.bF,Bk.cells,hLf,q1,q2,cQ,ej,w1,w2,k1,k2,dM,D.clean,rf]
  cases k3:bC u 0 ((b.cI.length:Int)-1)
  .simp[Bk.bF,Bk.cells,hLf,q1,q2,cQ,ej,w1,w2,w3,k1,k2,k3,dM,D.clean,rf]
  cases k4:bC price 0 1000
  .simp[Bk.bF,Bk.cells,hLf,q1,q2,cQ,ej,w1,w2,w3,k1,k2,k3,k4,dM,D.clean,rf]
  .exact absurd (by simp[k1,k2,k3,k4]) c2
 rename_i c2;split at hd
 case isTrue=>cases hd;exact absurd rfl he
 rename_i c3;cases hd;have hc2:=c2;simp only[Eg,af]at hc2;obtain⟨k1,k2,k3,k4⟩:=hc2;have i1:=aP.1 k1;have i2:=aP.1 k2;have i3:=aP.1 k3;obtain⟨w,rfl⟩:∃n:Nat,w=n:=⟨w.toNat,by omega⟩;obtain⟨lv,rfl⟩:∃n:Nat,lv=n:=⟨lv.toNat,by omega⟩;obtain⟨u,rfl⟩:∃n:Nat,u=n:=⟨u.toNat,by omega⟩;simp only[vN,Int.toNat_natCast]at c3 ⊢;have hL:=QY (J:=J) (F:=F) (er:=er) (ls:=cc b.ai) (w:=w) (lv:=lv) (u:=u) (price:=price) ht (λe he=>hok e (cS.1 he).1) (λe he=>hrun e (cS.1 he).1 (cS.1 he).2) c1b (by have:=fD (λe:ec=>e.left) b.ai;simp only[cc];omega) (by omega) (by omega) (by omega) huk (cc b.ai).length 0 [] (by omega) rfl;rw[aC]at hL;simp[Bk.bF,Bk.cells,hLf,q1,q2,cQ,ej,w1,w2,w3,k1,k2,k3,k4];refine WL.to hL (by simp) (by simp[Bk.bF,Bk.cells]) ?_;intro x e J' hq;simp only[Hb,if_neg c3]at hq;obtain⟨rfl,s,rfl⟩:=hq;simp[Bk.bF,Bk.cells,D.clean,rf]
def Rh:List Int->List Rw
 |a::b::c::d::e::l=>⟨a,b,c,d,e⟩::Rh l
 |_=>[]
def Rf:List Int->List Trem.pV
 |a::b::c::d::l=>⟨⟨a,b,c⟩,d⟩::Rf l
 |_=>[]
def HE:List Int->List (Int×Int)
 |a::b::l=>(a,b)::HE l
 |_=>[]
theorem No:∀(m:Nat) {l:List Int},l.length=m*5->fM (Rh l) Rw.enc=fM l aO/\(Rh l).length=m
 |0,l,h=>by
  have:l=[]:=bq.1 (by omega);subst this;exact⟨rfl,rfl⟩
 |m+1,l,h=>by
  match l,h with
  |a::b::c::d::e::l,h =>
   have ih:=No m (l:=l) (by simp at h;omega);simp[Rh,ih.1,ih.2,aO]
  |[],h=>simp at h
  |[_],h=>simp at h;omega
  |[_,_],h=>simp at h;omega
  |[_,_,_],h=>simp at h;omega
  |[_,_,_,_],h=>simp at h;omega
theorem Nn:∀(m:Nat) {l:List Int},l.length=m*4->fM (Rf l) Trem.pV.enc=fM l aO/\(Rf l).length=m
 |0,l,h=>by
  have:l=[]:=bq.1 (by omega);subst this;exact⟨rfl,rfl⟩
 |m+1,l,h=>by
  match l,h with
  |a::b::c::d::l,h =>
   have ih:=Nn m (l:=l) (by simp at h;omega);simp[Rf,ih.1,ih.2,aO]
  |[],h=>simp at h
  |[_],h=>simp at h;omega
  |[_,_],h=>simp at h;omega
  |[_,_,_],h=>simp at h;omega
theorem GM:∀(m:Nat) {l:List Int},l.length=m*2->fM (HE l) tw=fM l aO/\(HE l).length=m
 |0,l,h=>by
  have:l=[]:=bq.1 (by omega);subst this;exact⟨rfl,rfl⟩
 |m+1,l,h=>by
  match l,h with
  |a::b::l,h =>
   have ih:=GM m (l:=l) (by simp at h;omega);simp[HE,ih.1,ih.2,aO,tw]
  |[],h=>simp at h
  |[_],h=>simp at h;omega
def K2(p:Int×Int):Prt:=⟨p.1,p.2⟩
theorem Tu(l:List (Int×Int)):fM (l.map K2) Prt.enc=fM l tw:=by
 induction l with
 |nil=>rfl
 |cons p l ih=>simp only[aM,db,ih];rfl
def Yk:List Int->Trem.cH
 |[x0,x1,x2,x3,x4,x5,x6,x7,x8,x9]=>⟨⟨x0,x1,x2⟩,⟨x3,x4,x5⟩,x6,x7,x8,x9⟩
 |_=>⟨⟨0,0,0⟩,⟨0,0,0⟩,0,0,0,0⟩
def iX(b:Bk)(k:Nat)(nm:List UInt8)(l:List Int):Bk×Int :=
 match k with
 |0=>match l with
  |[x,y,z,k]=>nS b x y z k
  |_=>(b,4)
 |1=>lT b (Rh l)
 |2=>match l with
  |[x,y,z]=>yd b x y z
  |_=>(b,4)
 |3=>match l with
  |[x,y,z]=>tF b x y z
  |_=>(b,4)
 |4=>pY b ⟨nm,l⟩
 |5=>match l with
  |k::lo::hi::r=>CX b (eL nm k lo hi (HE r))
  |_=>(b,4)
 |6=>sk b (Yk l) (Yk l).M9
 |7=>match l with
  |[x,y,z]=>if Trem.fx x y z=true then(Kq b x y z,0)else(b,1)
  |_=>(b,4)
 |8=>oX b (Rf l)
 |9=>mz b l
 |10=>match l with
  |[w,i,lo,hi]=>oL b ⟨b.aw.length,w,i,lo,hi⟩
  |_=>(b,4)
 |11=>match l with
  |i::r=>tE b ⟨i,(HE r).map K2⟩
  |_=>(b,4)
 |12=>match l with
  |[w,lv,u,p]=>mX b w lv u p
  |_=>(b,4)
 |_=>(b,4)
def mW(b:Bk)(n:Int)(s:List UInt8):Bk×Int:=match parse s with
 |some (w,nm,l)=>iX {b with at_:=n } w.k nm l
 |none=>(b,4)
structure Kv(n:Nat)(b:Bk):Prop where
 dP:b.aS.dP=[]\/fK b.aS.dP=true
 ready:b.ready=true->b.aS.valid=true
 av:b.ready=false->b.aS.av=[]
 ms:b.ai≠[]->b.ready=true
 ml:b.ai.length<=40
 wl:b.eJ.length=b.ai.length
 fit:∀e∈b.ai,Bd b.aS e.m=true/\e.m.name.length<=1000000/\e.m.dz.length<=1000000
 pm:b.aw≠[]->b.ai≠[]
 pl:tf b.aS b.aw=0
 An:∀e∈b.ai,e.left=true->∃r,Rock.run b.aS e.m b.aw=some r
 rules:b.rules.length<=20
 pZ:b.pZ.length<=200
 KU:∀e∈b.pZ,e.ok=true
 jt:Trem.fx b.k0 b.k1 b.k2=true
 cI:b.cI.length<=10
 uok:∀u∈b.cI,u.ok=true
 dk:b.dk.length<=n
theorem Oa{t:List Rw}(h:t=[]\/fK t=true):t.length<=20:=by
 rcases h with rfl | h
 .simp
 .simp only[fK,af]at h;have:=aP.1 h.1;omega
theorem vx{t:List Rw}(h:fK t=true):t≠[]:=by
 intro hh;subst hh;simp[fK,bC]at h
theorem Al{s:List UInt8}{w:Wd}{nm:List UInt8}{l:List Int}(h:parse s=some (w,nm,l)):(∃a,xC a=some w)/\FO w l.length=true/\nm.length<=s.length/\l.length<=s.length+1:=by
 have hlen:=CL 32 s;have hle:=Hc 32 s;unfold parse at h;cases hsp:dn 32 s with
 |nil=>exact absurd hsp (tn 32 s)
 |cons a all =>
 rw[hsp]at h hlen hle;simp only[aE]at hlen;simp only at h;cases hw:xC a with
 |none=>rw[hw]at h;cases h
 |some w0 =>
 rw[hw]at h;simp only at h;have key:∀nm0 (l0:List (List UInt8)),rF w0 nm0 l0=some (w,nm,l)->w0=w/\nm0=nm/\FO w l.length=true/\l.length=l0.length:=by
  intro nm0 l0 hp;unfold rF at hp;cases hm:mQ l0 with
  |none=>rw[hm]at hp;cases hp
  |some ns =>
   rw[hm]at hp;simp only[aJ,ae,ar]at hp;obtain⟨hf,rfl,rfl,rfl⟩:=hp;exact⟨rfl,rfl,hf,BN hm⟩
 split at h
 .cases all with
  |nil=>cases h
  |cons n r =>
   obtain⟨rfl,rfl,h3,h4⟩:=key n r h;refine⟨⟨a,hw⟩,h3,hle n (by simp),?_⟩;simp at hlen;omega
 .obtain⟨rfl,rfl,h3,h4⟩:=key [] all h;exact⟨⟨a,hw⟩,h3,by simp,by omega⟩
def doR(F:List Abs.aG)(b:Bk)(er:List Int)(J:SK)(r:Bk×Int):R:=if r.2=0 then .val (.cK []) (F::r.1.bF J.length er::J)else .fu (rf r.2) (F::b.bF J.length er::J)
theorem vb{F:List Abs.aG}{b:Bk}{er:List Int}{r:Bk×Int}{q:Q}(h1:∀b' e,r=(b',e)->e=0->dr T q=some (.val (.cK []) (F::b'.bF J.length er::J)))(h2:∀b' e,r=(b',e)->e≠0->dr T q=some (.fu (rf e) (F::b.bF J.length er::J))):
  dr T q=some (doR F b er J r):=by
 obtain⟨b',e⟩:=r;unfold doR;by_cases he:e=0
 .rw[if_pos he];exact h1 b' e rfl he
 .rw[if_neg he];exact h2 b' e rfl he
theorem wT{l:List Int}{n:Nat}(h:l.length=n+1):∃a r,l=a::r/\r.length=n:=by
 cases l with
 |nil=>simp at h
 |cons a r=>exact⟨a,r,rfl,by simpa using h⟩
theorem Mj{l:List Int}(h:l.length=3):∃a0 a1 a2,l=[a0,a1,a2]:=by
 obtain⟨a0,r0,e0,h0⟩:=wT (n:=2) h;obtain⟨a1,r1,e1,h1⟩:=wT (n:=1) h0;obtain⟨a2,r2,e2,h2⟩:=wT (n:=0) h1;have e:=bq.1 h2;exact⟨a0,a1,a2,by rw[e0,e1,e2,e]⟩
theorem Mk{l:List Int}(h:l.length=4):∃a0 a1 a2 a3,l=[a0,a1,a2,a3]:=by
 obtain⟨a0,r0,e0,h0⟩:=wT (n:=3) h;obtain⟨a1,r1,e1,h1⟩:=wT (n:=2) h0;obtain⟨a2,r2,e2,h2⟩:=wT (n:=1) h1;obtain⟨a3,r3,e3,h3⟩:=wT (n:=0) h2;have e:=bq.1 h3;exact⟨a0,a1,a2,a3,by rw[e0,e1,e2,e3,e]⟩
theorem XC{l:List Int}(h:l.length=10):∃a0 a1 a2 a3 a4 a5 a6 a7 a8 a9,l=[a0,a1,a2,a3,a4,a5,a6,a7,a8,a9]:=by
 obtain⟨a0,r0,e0,h0⟩:=wT (n:=9) h;obtain⟨a1,r1,e1,h1⟩:=wT (n:=8) h0;obtain⟨a2,r2,e2,h2⟩:=wT (n:=7) h1;obtain⟨a3,r3,e3,h3⟩:=wT (n:=6) h2;obtain⟨a4,r4,e4,h4⟩:=wT (n:=5) h3;obtain⟨a5,r5,e5,h5⟩:=wT (n:=4) h4;obtain⟨a6,r6,e6,h6⟩:=wT (n:=3) h5;obtain⟨a7,r7,e7,h7⟩:=wT (n:=2) h6;obtain⟨a8,r8,e8,h8⟩:=wT (n:=1) h7;obtain⟨a9,r9,e9,h9⟩:=wT (n:=0) h8;have e:=bq.1 h9;exact⟨a0,a1,a2,a3,a4,a5,a6,a7,a8,a9,by rw[e0,e1,e2,e3,e4,e5,e6,e7,e8,e9,e]⟩
theorem tT{w:Wd}{n:Nat}(h:FO w n=true)(hs:w.step=0):(n:Int)=w.least:=by
 simp only[FO,cj,af,az]at h;omega
theorem Ad{w:Wd}{n:Nat}(h:FO w n=true)(hs:0<w.step)(hl:0<=w.least):w.least<=n/\((n:Int)-w.least)%w.step=0:=by
 simp only[FO,cj,af,az]at h;rcases h with h | ⟨h1,h2,h3⟩
 .refine⟨by omega,?_⟩;rw[h];simp
 .refine⟨by omega,?_⟩;rwa[Int.tmod_eq_emod_of_nonneg (by omega)]at h3
theorem Ok.one{b:bV}{m:bZ}{aw:List (List Int)}(hb:b.valid=true)(hf:Bd b m=true)(hp:tf b aw=0)(hn:m.name.length<=1000000000):Ok b [m] aw:=by
 have hbv:=Bv.of hb;have hfit:fits b m=true:=by simp only[Bd,af]at hf;exact hf.2
 have hfv:=Fv.of hf;have hm:b.f.ai [m]=0:=by
  have h:=hfit;simp only[fits,af,az]at h;have h1:=h.1;unfold fU at h1;rw[if_pos hbv.fv]at h1;exact h1
 obtain⟨p1,p2⟩:=lf hp;exact⟨hbv,hb,by simp,hm,by simpa using hfit,by simpa using hfv,by intro x hx;simp at hx;subst hx;exact⟨hn,hfv.toMv.le.2⟩,hp,p1,p2⟩
theorem Kz{b:bV}{m:bZ}(hb:b.valid=true)(hf:Bd b m=true):b.f.model m=0:=by
 have hfit:fits b m=true:=by simp only[Bd,af]at hf;exact hf.2
 rw[Nj (Bv.of hb),af,az]at hfit;exact hfit.1
theorem ai0{F:List Abs.aG}{b:Bk}{er:List Int}{s:List UInt8}{w:Wd}{nm:List UInt8}{l:List Int}{n:Nat}(hK:Kv n b)(hn:n<=1000000)(hp:parse s=some (w,nm,l))(hs:s.length<=4000):
  dr T (.call false ((Mn[w.k]?).getD 0) [.ref J.length 6 0 0,.str nm,.bT l.length (fM l aO)] (F::b.bF J.length er::J))=some (doR F b er J (iX b w.k nm l)):=by
 obtain⟨⟨a,ha⟩,hfit,hnm,hll⟩:=Al hp;have htl:=Oa hK.dP;have hv:b.ready=true->Bv b.aS:=λh=>Bv.of (hK.ready h)
 have hrt:b.ready=true->fK b.aS.dP=true:=λh=>(hv h).dP
 have hwl:b.aS.av.length<=8:=by
  cases hr:b.ready with
  |true=>exact(hv hr).av
  |false=>rw[hK.av hr];simp
 have hmr:b.ai≠[]->fK b.aS.dP=true:=λh=>hrt (hK.ms h)
 have hlm:cc b.ai≠[]->b.ai≠[]:=λh hh=>h (by rw[hh];rfl)
 have hz:Sz b:=⟨by omega,by omega,λe he=>⟨by have:=(hK.fit e he).2.1;omega,by have:=(hK.fit e he).2.2;omega⟩⟩;have hplz:=lf hK.pl;have hbv:b.ai≠[]->b.aS.valid=true:=λh=>hK.ready (hK.ms h)
 have hne:∀e∈b.ai,b.ai≠[]:=λe he hh=>by rw[hh]at he;cases he
 have hok:∀e∈b.ai,Ok b.aS [e.m] b.aw:=λe he=>Ok.one (hbv (hne e he)) (hK.fit e he).1 hK.pl (hz.ms e he).1
 have hfm:∀e∈b.ai,b.aS.f.model e.m=0:=λe he=>Kz (hbv (hne e he)) (hK.fit e he).1
 have hsp:∀e∈b.pZ,e.sp.length<=1000000:=λe he=>by
  have:=hK.KU e he;simp only[Trem.Ev.ok,af]at this;have:=Trem.aP.1 this.2.1;omega
 have h1:=BG ha;simp only[mr,bw,ar,List.not_mem_nil,or_false]at h1;rcases h1 with⟨_,rfl⟩ | ⟨_,rfl⟩ | ⟨_,rfl⟩ | ⟨_,rfl⟩ | ⟨_,rfl⟩ | ⟨_,rfl⟩ | ⟨_,rfl⟩ | ⟨_,rfl⟩ | ⟨_,rfl⟩ | ⟨_,rfl⟩ | ⟨_,rfl⟩ | ⟨_,rfl⟩ | ⟨_,rfl⟩
 .have hl:l.length=4:=by
   have h:(l.length:Int)=4:=tT hfit rfl;omega
  obtain⟨x,y,z,k,rfl⟩:=Mk hl;exact vb (λb' e hd he=>Za hd he) (λb' e hd he=>T0 hd he)
 .have hl:=(Ad hfit (by decide) (by decide)).2;simp only[Int.sub_zero]at hl;obtain⟨h5,h6⟩:=No (l.length / 5) (l:=l) (by omega);have hlen:(Rh l).length*5=l.length:=by omega
  try simp only[]
  rw[<- h5,<- hlen];exact vb (λb' e hd he=>ZD (by omega) hd he) (λb' e hd he=>Ub (by omega) hd he)
 .have hl:l.length=3:=by
   have h:(l.length:Int)=3:=tT hfit rfl;omega
  obtain⟨x,y,z,rfl⟩:=Mj hl;exact vb (λb' e hd he=>acB (by omega) (by omega) hd he) (λb' e hd he=>VB (by omega) (by omega) hd he)
 .have hl:l.length=3:=by
   have h:(l.length:Int)=3:=tT hfit rfl;omega
  obtain⟨x,y,z,rfl⟩:=Mj hl;refine vb (λb' e hd he=>?_) (λb' e hd he=>We (λh=>vx (hrt h)) (by omega) (by omega) hd he);have hr:b.ready=true:=by
   have hd2:tF b x y z=(b',e):=hd;unfold tF at hd2;split at hd2
   .rename_i h;exact h.1
   .cases hd2;cases he
  exact acZ (vx (hrt hr)) (by omega) (by omega) hd he
 .exact vb (λb' e hd he=>VN (m:=⟨nm,l⟩) (by omega) (by omega) (by simp;omega) (by simp;omega) hK.wl hd he) (λb' e hd he=>T3 (m:=⟨nm,l⟩) (by omega) (by omega) (by simp;omega) (by simp;omega) hK.ml hd he)
 .obtain⟨hl1,hl2⟩:=Ad hfit (by decide) (by decide);simp only at hl1 hl2;obtain⟨k,l,rfl,hl⟩:=wT (n:=l.length-1) (l:=l) (by omega);simp only[aE]at hl1 hl2 hll;obtain⟨lo,l,rfl,hl⟩:=wT (n:=l.length-1) (l:=l) (by omega);simp only[aE]at hl1 hl2 hll;obtain⟨hi,l,rfl,hl⟩:=wT (n:=l.length-1) (l:=l) (by omega);simp only[aE]at hl1 hl2 hll;obtain⟨h5,h6⟩:=GM (l.length / 2) (l:=l) (by omega);have hlen:(HE l).length*2+3=l.length+1+1+1:=by omega
  simp only[db,aE,aO,dp]
  try simp only[lF]
  rw[<- h5,<- hlen];refine vb (λb' e hd he=>acI (by omega) (by omega) hK.wl hK.ml (λe he=>⟨hfm e he,hz.ms e he⟩) hd he) (λb' e hd he=>Zh (by omega) (by omega) hd he)
 .have hl:l.length=10:=by
   have h:(l.length:Int)=10:=tT hfit rfl;omega
  obtain⟨x0,x1,x2,x3,x4,x5,x6,x7,x8,x9,rfl⟩:=XC hl;exact vb (λb' e hd he=>acO hd he) (λb' e hd he=>V4 hd he)
 .have hl:l.length=3:=by
   have h:(l.length:Int)=3:=tT hfit rfl;omega
  obtain⟨x,y,z,rfl⟩:=Mj hl;refine vb (λb' e hd he=>?_) (λb' e hd he=>?_)
  .have hd2:(if Trem.fx x y z=true then(Kq b x y z,0)else(b,1))=(b',e):=hd;split at hd2
   .rename_i h;cases hd2;exact acF h
   .cases hd2;cases he
  .have hd2:(if Trem.fx x y z=true then(Kq b x y z,0)else(b,1))=(b',e):=hd;split at hd2
   .cases hd2;exact absurd rfl he
   .rename_i h;cases hd2;exact VJ (by simpa using h)
 .have hl:=(Ad hfit (by decide) (by decide)).2;simp only[Int.sub_zero]at hl;obtain⟨h5,h6⟩:=Nn (l.length / 4) (l:=l) (by omega);have hlen:(Rf l).length*4=l.length:=by omega
  try simp only[]
  rw[<- h5,<- hlen];exact vb (λb' e hd he=>Zj (by omega) hd he) (λb' e hd he=>T6 (by omega) hd he)
 .have hpl:∀r∈b.aw,r.length<=1000000000:=λr hr=>by have:=(hplz.2 r hr).len;omega
  refine vb (λb' e hd he=>?_) (λb' e hd he=>V9 (λh=>vx (hmr (hlm h))) hz (by omega) hK.ml (by have:=hK.rules;omega) (by have:=hK.pZ;omega) hsp hK.jt hpl hd he);have hr:cc b.ai≠[]:=by
   have hd2:mz b l=(b',e):=hd;unfold mz at hd2;split at hd2
   .cases hd2;cases he
   .rename_i h;exact h
  exact ZE (vx (hmr (hlm hr))) hz (by omega) hK.ml (by have:=hK.rules;omega) (by have:=hK.pZ;omega) hsp hK.jt hpl hd he
 .have hl:l.length=4:=by
   have h:(l.length:Int)=4:=tT hfit rfl;omega
  obtain⟨w,i,lo,hi,rfl⟩:=Mk hl;refine vb (λb' e hd he=>?_) (λb' e hd he=>VU (λh=>vx (hmr (hlm h))) hK.ml hok hd he);have hr:cc b.ai≠[]:=by
   have hd2:oL b ⟨b.aw.length,w,i,lo,hi⟩=(b',e):=hd;unfold oL at hd2;split at hd2
   .cases hd2;cases he
   .rename_i h;exact h
  exact Zo (vx (hmr (hlm hr))) hK.wl hK.ml hok hK.An hd he
 .obtain⟨hl1,hl2⟩:=Ad hfit (by decide) (by decide);simp only at hl1 hl2;obtain⟨i,l,rfl,hl⟩:=wT (n:=l.length-1) (l:=l) (by omega);simp only[aE]at hl1 hl2 hll;obtain⟨h5,h6⟩:=GM (l.length / 2) (l:=l) (by omega);have hlen:((HE l).map K2).length*2+1=l.length+1:=by simp;omega
  simp only[db,aE,aO,dp];rw[<- h5,<- hlen,<- Tu];exact vb (λb' e hd he=>acW (u:=⟨i,(HE l).map K2⟩) (by simp;omega) hd he) (λb' e hd he=>Wa (u:=⟨i,(HE l).map K2⟩) (by simp;omega) hd he)
 .have hl:l.length=4:=by
   have h:(l.length:Int)=4:=tT hfit rfl;omega
  obtain⟨w,i,lo,hi,rfl⟩:=Mk hl;refine vb (λb' e hd he=>?_) (λb' e hd he=>V8 (λh=>hmr (hlm h)) hK.ml hok hK.An hK.uok hK.cI (by omega) (by have:=hK.dk;omega) hd he);have hr:cc b.ai≠[]:=by
   have hd2:mX b w i lo hi=(b',e):=hd;unfold mX at hd2;split at hd2
   .cases hd2;cases he
   .rename_i h;exact λhh=>h (.inl hh)
  exact ZC (hmr (hlm hr)) hK.ml hok hK.An hK.uok hK.cI (by omega) (by have:=hK.dk;omega) hd he
end
section
open Go Go.Abs Go.Rock Go.Book
theorem Kv.le{n m:Nat}{b:Bk}(h:Kv n b)(hn:n<=m):Kv m b:={h with dk:=jn h.dk hn }
theorem Kv.zero:Kv 0 fN:=by
 refine⟨.inl rfl,by simp[fN],λ_=>rfl,by simp[fN],by simp[fN],rfl,by simp[fN],by simp[fN],?_,by simp[fN],by simp[fN],by simp[fN],by simp[fN],by decide,by simp[fN],by simp[fN],by simp[fN]⟩;simp[fN,tf,bU]
theorem EC{b:bV}:tf b []=0:=by simp[tf,bU]
theorem WJ{b:bV}(h:b.valid=true):b.dP≠[]/\¬((b.f.x=0/\b.f.y=0)/\b.f.z=0/\b.f.k=0):=by
 have hv:=Bv.of h;refine⟨vx hv.dP,λhh=>?_⟩;have:=hv.x;omega
theorem Kv.Nx{n:Nat}{b:Bk}(h:Kv n b)(hm:b.ai=[]):b.aw=[]:=by
 by_cases hp:b.aw=[]
 .exact hp
 .exact absurd hm (h.pm hp)
theorem Kv.KB{n:Nat}{b:Bk}(h:Kv n b)(hr:b.ready=false):b.ai=[]:=by
 by_cases hp:b.ai=[]
 .exact hp
 .rw[h.ms hp]at hr;cases hr
theorem Kv.Uj{n:Nat}{b:Bk}(h:Kv n b)(k:Int):Kv n {b with at_:=k }:={h with }
theorem aaY{b:bV}{m:bZ}:∃r,Rock.run b m []=some r:=⟨_,rfl⟩
theorem TI{b:Bk}{lo hi:Int}{val:bZ->Int}{x:ec}(h:x∈(gU b lo hi val).ai):∃e∈b.ai,x.m=e.m/\(x.left=true->e.left=true):=by
 simp only[gU,Bk.gw,List.mem_mapIdx]at h;obtain⟨i,hi,rfl⟩:=h;refine⟨b.ai[i],List.getElem_mem hi,?_⟩;rw[if_pos hi];unfold Go.Book.cm;split<;>simp
theorem Kv.KX{n:Nat}{b:Bk}(h:Kv n b){lo hi:Int}{val:bZ->Int}:Kv n (gU b lo hi val):=by
 have hl:(gU b lo hi val).ai.length=b.ai.length:=uz;have hn:(gU b lo hi val).ai=[]↔b.ai=[]:=by rw[<- bq,hl,bq]
 refine {dP:=h.dP,ready:=h.ready,av:=h.av,ms:=λhh=>h.ms (λh2=>hh (hn.2 h2)),ml:=by rw[hl];exact h.ml,wl:=by rw[hl,<- h.wl];exact vO,fit:=λx hx=>?_,pm:=λhh h2=>h.pm hh (hn.1 h2),pl:=h.pl,An:=λx hx hxl=>?_,rules:=h.rules,pZ:=h.pZ,KU:=h.KU,jt:=h.jt,cI:=h.cI,uok:=h.uok,dk:=h.dk }
 .obtain⟨e,he,h1,_⟩:=TI hx;rw[h1];exact h.fit e he
 .obtain⟨e,he,h1,h2⟩:=TI hx;rw[h1];exact h.An e he (h2 hxl)
theorem GS{l:List ec}{e:ec}(h:e∈cc l):e∈l/\e.left=true:=cS.1 h
theorem Kv.word{n:Nat}{b:Bk}(h:Kv n b){s:List UInt8}{w:Wd}{nm:List UInt8}{l:List Int}(hp:parse s=some (w,nm,l))(hs:s.length<=4000):Kv (n+1) (iX b w.k nm l).1:=by
 obtain⟨_,_,hnm,hll⟩:=Al hp;have h1:=h.le (Nat.le_succ n);generalize w.k=k;unfold iX;split
 ·
  split
  .unfold nS;split
   .rename_i hz;split
    .have hr:b.ready=false:=by
      cases hr:b.ready with
      |false=>rfl
      |true=>exact absurd hz (WJ (h.ready hr)).2
     have hm:=h.KB hr;have hpl:=h.Nx hm;have hno:∀e,e∈b.ai->False:=by rw[hm];simp
     exact {h1 with dP:=h.dP,ready:=λhh=>(by rw[show b.ready=true from hh]at hr;cases hr),av:=h.av,fit:=λe he=>(hno e he).elim,pl:=by simp only[hpl];exact EC,An:=λe he=>(hno e he).elim }
    .exact h1
   .exact h1
  .exact h1
 ·
  unfold lT;split
  .rename_i hz;split
   .rename_i ht;have hr:b.ready=false:=by
     cases hr:b.ready with
     |false=>rfl
     |true=>exact absurd hz (WJ (h.ready hr)).1
    have hm:=h.KB hr;have hpl:=h.Nx hm;have hno:∀e,e∈b.ai->False:=by rw[hm];simp
    exact {h1 with dP:=.inr ht,ready:=λhh=>(by rw[show b.ready=true from hh]at hr;cases hr),av:=h.av,fit:=λe he=>(hno e he).elim,pl:=by simp only[H7,hpl];exact EC,An:=λe he=>(hno e he).elim }
   .exact h1
  .exact h1
 ·
  split
  .rename_i x y z;unfold yd;split
   .exact h1
   .rename_i hz;split
    .rename_i hv;have hr:b.ready=false:=by
      cases hr:b.ready with
      |false=>rfl
      |true=>exact absurd (.inr (.inr hr)) hz
     have hm:=h.KB hr;have hpl:=h.Nx hm;have hno:∀e,e∈b.ai->False:=by rw[hm];simp
     exact {h1 with dP:=h.dP,ready:=λ_=>hv,av:=λhh=>(by cases hh),ms:=λ_=>rfl,fit:=λe he=>(hno e he).elim,pl:=by simp only[Df,hpl];exact EC,An:=λe he=>(hno e he).elim }
    .exact h1
  .exact h1
 ·
  split
  .rename_i x y z;unfold tF;split
   .rename_i hz;obtain⟨hr,hm⟩:=hz;split
    .rename_i hv;have hpl:=h.Nx hm;have hno:∀e,e∈b.ai->False:=by rw[hm];simp
     exact {h1 with dP:=h.dP,ready:=λ_=>hv,av:=λhh=>(by rw[show b.ready=false from hh]at hr;cases hr),fit:=λe he=>(hno e he).elim,pl:=by simp only[nP,hpl];exact EC,An:=λe he=>(hno e he).elim }
    .exact h1
   .exact h1
  .exact h1
 ·
  unfold pY;split
  .rename_i hz;obtain⟨hr,hpl⟩:=hz;split
   .exact h1
   .split
    .rename_i hml;split
     .rename_i hb;refine {h1 with ms:=λ_=>hr,ml:=by simp[zb];omega,wl:=by simp[zb,h.wl],fit:=λe he=>?_,pm:=λhh=>absurd hpl hh,An:=λe he hl=>?_ }
      .simp only[zb,aT,List.mem_singleton]at he;rcases he with he | rfl
       .exact h.fit e he
       .exact⟨hb,by simp;omega,by simp;omega⟩
      .simp only[zb];rw[hpl];exact aaY
     .exact h1
    .exact h1
  .exact h1
 ·
  split
  .unfold CX;split
   .exact h1
   .split
    .exact h1.KX
    .exact h1
  .exact h1
 ·
  unfold sk;split
  .split
   .split
    .rename_i hl _ _;exact {h1 with rules:=by simp;omega }
    .exact h1
   .exact h1
  .exact h1
 ·
  split
  .split
   .rename_i hk;exact {h1 with jt:=hk }
   .exact h1
  .exact h1
 ·
  unfold oX;split
  .rename_i hl;split
   .rename_i ho;refine {h1 with pZ:=by simp[Ea];omega,KU:=λe he=>?_ };simp only[Ea,aT,List.mem_singleton]at he;rcases he with he | rfl
    .exact h.KU e he
    .exact ho
   .exact h1
  .exact h1
 ·
  unfold mz;split
  .exact h1
  .rename_i hl;split
   .split
    .split
     .split
      .rename_i hf;obtain⟨e0,he0⟩:=List.exists_mem_of_ne_nil _ hl;have key:∀e∈cc b.ai,Bd b.aS e.m=true/\tf b.aS (dC b l)=0/\∃r,Rock.run b.aS e.m (dC b l)=some r:=by
        intro e he;have hz:=pF hf e he;have hb:=(h.fit e (GS he).1).1;simp only[lH,hb,if_true]at hz;split at hz
        .rename_i hq;cases hr:Rock.run b.aS e.m (dC b l)with
         |none=>rw[hr]at hz;cases hz
         |some r=>exact⟨hb,hq,r,rfl⟩
        .rename_i hq;exact absurd hz hq
       refine {h1 with pm:=λ_ hh=>?_,pl:=(key e0 he0).2.1,An:=λe he hel=>(key e (cS.2 ⟨he,hel⟩)).2.2 };have:=(GS he0).1;rw[show b.ai=[]from hh]at this;cases this
      .exact h1
     .exact h1
    .exact h1
   .exact h1
 ·
  split
  .unfold oL;split
   .exact h1
   .split
    .split
     .exact h1.KX
     .exact h1
    .exact h1
  .exact h1
 ·
  split
  .unfold tE;split
   .rename_i hl;split
    .rename_i ho;refine {h1 with cI:=by simp[IS];omega,uok:=λu hu=>?_ };simp only[IS,aT,List.mem_singleton]at hu;rcases hu with hu | rfl
     .exact h.uok u hu
     .exact ho
    .exact h1
   .exact h1
  .exact h1
 ·
  split
  .unfold mX;split
   .exact h1
   .split
    .split
     .exact {h1 with dk:=by have:=h.dk;simp[Qf];omega }
     .exact h1
    .exact h1
  .exact h1
 .exact h1
theorem Kv.line{n:Nat}{b:Bk}(h:Kv n b){s:List UInt8}(hs:s.length<=4000){k:Int}:Kv (n+1) (mW b k s).1:=by
 unfold mW;split
 .rename_i w nm l hp;exact(h.Uj k).word hp hs
 .exact h.le (Nat.le_succ n)
end
end Go.Proofs.YtpapbbojmclkgaaGreatDoor
namespace Go.Abs
variable {T:CT}
theorem O4{f:Nat}{fn:Fn}{args:List D}{J J':SK}{d:D}{np:Nat}{res:List F5}{body A q:b9}{fo:bP}{bs:List bP}(hT:T f=some fn)(hf:fn=⟨np,res,body⟩)(hl:args.length=np)(hs:iy body=some (A,fo,bs,q))(hlen:J'.length=J.length)
  (h:WC (dr T) A (lG 0 args) ([]::J) (toD T fo bs q J' res d)):
  dr T (.call false f args J)=some (.val d J'):=by
 subst hf;obtain⟨x,e1,J1,h1,rfl,x2,e2,J2,h2,th,h3,J3,h4,ds,h5,s,h6⟩:=h;rw[hlen]at h6;refine gS ?_;have hn:bu (dr T) body (lG 0 args) ([]::J)=none:=Aq hs h1;simp only[dF,hT,if_pos hl,aD,if_false,hn,hs,Bj,h1,h2];have h4':∃dv,pq (dr T) (bB e1 fo) (bs.map (bB e1)) th J2=some (.val dv J3):=by
  unfold wN at h4;split at h4
  .rename_i h7;cases h4;exact⟨_,h7⟩
  .cases h4
 obtain⟨dv,h4'⟩:=h4';cases x2 with
 |exit i=>cases h3
 |normal=>cases h3;simp only[Bl,h4',va,leave,h5,h6]
 |ret=>cases h3;simp only[Bl,h4',va,leave,h5,h6]
 |fu d=>cases h3;simp only[Bl,h4',va,leave,h5,h6]
end Go.Abs
namespace Go.Proofs.YtpapbbojmclkgaaGreatDoor
section
open Go Go.Abs Go.Rock Go.Book
variable {J:SK}
theorem ZT{c:List D}:dr T (.zG 84 [.ref J.length 0 0 0] none ([.cells 0 c]::J))=some (.val (.cK []) ([.cells 0 c]::J)):=by
 refine Dp rfl rfl rfl (by simp[rI];exact⟨rfl,rfl⟩) ?_;simp
theorem SP{e:Int}:dr T (.zG 84 [.ref J.length 0 0 0] (some (rf e)) ([.cells 0 [iI 0]]::J))=some (.val (.cK []) ([.cells 0 [iI e]]::J)):=by
 refine Dp rfl rfl rfl (by simp[rI];exact⟨rfl,rfl⟩) ?_;simp[rf]
theorem Us{b:Bk}{k:Nat}{nm:List UInt8}{l:List Int}(h:(iX b k nm l).2≠0):(iX b k nm l).1=b:=by
 unfold iX at h ⊢;split;all_goals
  simp only at h
  try unfold Go.Book.nS at *
  try unfold lT at *
  try unfold yd at *
  try unfold tF at *
  try unfold pY at *
  try unfold CX at *
  try unfold sk at *
  try unfold oX at *
  try unfold mz at *
  try unfold oL at *
  try unfold tE at *
  try unfold mX at *
  (repeat' split)
  all_goals first | rfl | (simp_all)
theorem VK{b:Bk}{er:List Int}{s:List UInt8}{n:Nat}{k:Int}(hK:Kv n b)(hn:n<=1000000)(hs:s.length<=4000):
  dr T (.call false 60 [.ref J.length 6 0 0,iI k,.str s] (b.bF J.length er::J))=some (.val (iI (mW b k s).2) ((mW b k s).1.bF J.length er::J)):=by
 refine O4 EN mR.eq_1 rfl rfl (by simp) ?_;cases hp:parse s with
 |none =>
  have hP:=λS=>QO (J:=S) (s:=s) (by omega) hp
  have hX:wN T (.fn 84 [] [.ref (J.length+1) 0 0 0]) [] (some (rf 4)) ([.cells 0 [iI 0]]::b.bF J.length er::J)=some ([.cells 0 [iI 4]]::b.bF J.length er::J):=u7 (SP (J:=b.bF J.length er::J));have hd:mW b k s=(b,4):=by simp[mW,hp]
  rw[hd];simp only[Bk.bF,Bk.cells,rf]at hX hP;simp[toD,Bk.bF,Bk.cells];rw[Bh gB.eq_1];simp[O9,hP,hX]
 |some p =>
  obtain⟨w,nm,l⟩:=p;have hP:=λS hS=>VS (J:=S) (s:=s) (by omega) hS hp
  have hD:=ai0 (J:=J) (F:=[.cells 0 [iI 0]]) (er:=er) (hK.Uj k) hn hp hs;have hd:mW b k s=iX {b with at_:=k } w.k nm l:=by simp[mW,hp]
  rw[hd];have hno:=Us (b:={b with at_:=k }) (k:=w.k) (nm:=nm) (l:=l);generalize iX {b with at_:=k } w.k nm l=r at hD hno ⊢;obtain⟨b',e⟩:=r;have hwc:QD w=[.bool w.named,iI w.least,iI w.step,.fn ((Mn[w.k]?).getD 0) [] []]:=rfl;simp only[Am,hwc]at hP;by_cases he:e=0
  .subst he;have hX:wN T (.fn 84 [] [.ref (J.length+1) 0 0 0]) [] none ([.cells 0 [iI 0]]::b'.bF J.length er::J)=some ([.cells 0 [iI 0]]::b'.bF J.length er::J):=u7 (ZT (J:=b'.bF J.length er::J));simp only[doR,if_true]at hD;simp only[Bk.bF,Bk.cells]at hX hD;simp[toD,Bk.bF,Bk.cells];rw[Bh gB.eq_1];simp[O9,hP,hD,hX]
  .have hX:wN T (.fn 84 [] [.ref (J.length+1) 0 0 0]) [] (some (rf e)) ([.cells 0 [iI 0]]::(Bk.bF J.length {b with at_:=k } er)::J)=some ([.cells 0 [iI e]]::(Bk.bF J.length {b with at_:=k } er)::J):=u7 (SP (J:=(Bk.bF J.length {b with at_:=k } er)::J));simp only[doR,he,if_false]at hD;have hb':b'={b with at_:=k }:=hno he;subst hb';simp only[Bk.bF,Bk.cells,rf]at hX hD;simp[toD,Bk.bF,Bk.cells];rw[Bh gB.eq_1];simp[O9,hP,hD,hX]
def lh:Bk->Int->List (List UInt8)->Bk×List Int
 |b,_,[]=>(b,[])
 |b,k,s::l=>((lh (mW b k s).1 (k+1) l).1,(mW b k s).2::(lh (mW b k s).1 (k+1) l).2)
def jM(l:List (List UInt8)):Bk×List Int:=lh fN 0 l
theorem tg:∀{l:List (List UInt8)} {b:Bk} {k:Int},(lh b k l).2.length=l.length
 |[],_,_=>rfl
 |s::l,b,k=>by simp[lh,tg (l:=l)]
def okL(l:List (List UInt8)):Prop:=l.length<=100/\∀s∈l,s.length<=4000
theorem KL:∀{l:List (List UInt8)} {b:Bk} {k:Int} {n:Nat},Kv n b->(∀s∈l,s.length<=4000)->Kv (n+l.length) (lh b k l).1
 |[],b,k,n,h,_=>h
 |s::l,b,k,n,h,hs=>by
  have h1:=h.line (hs s (by simp)) (k:=k);have h2:=KL (l:=l) (k:=k+1) h1 λx hx=>hs x (by simp[hx])
  simp only[lh,aE];rwa[show n+(l.length+1)=n+1+l.length by omega]
theorem QW{lines:List (List UInt8)}(hl:okL lines):∀(m i:Nat) (b:Bk) (er:List Int),i+m=lines.length->er.length=i->Kv i b ->
  WL T [4,5,12,13,14] false ga [(4,.ref J.length 6 0 0),(5,.sl J.length 7 i 0 i 1),(12,lF lines cm),(13,iI lines.length),(14,iI i)] (b.bF J.length er::J)
   (λx e J'=>x=.exit 0/\get e 4=.ref J.length 6 0 0/\get e 5=.sl J.length 7 lines.length 0 lines.length 1/\J'=(lh b i (lines.drop i)).1.bF J.length (er++(lh b i (lines.drop i)).2)::J)
 |0,i,b,er,hi,he,hK=>by
  refine aA ga.eq_1 ?_;obtain rfl:i=lines.length:=by omega
  have h2:lines.drop lines.length=[]:=an (by omega);simp[h2,lh]
 |m+1,i,b,er,hi,he,hK=>by
  refine aA ga.eq_1 ?_;have h1:i<lines.length:=by omega
  obtain⟨s,hs⟩:=gE h1;have a1:=bd (f:=cm) (w:=1) (λ_=>rfl) hs;simp only[cm,bS]at a1;have h4:=cg h1 (by have:=hl.1;omega);have hsl:=hl.2 s (aj hs);have hn:=hl.1;have hC:=VK (J:=J) (b:=b) (er:=er) (s:=s) (k:=i) hK (by omega) hsl;have hK':=hK.line hsl (k:=i);rw[bx hs];simp only[lh];generalize mW b i s=r at hC hK' ⊢;obtain⟨b',e⟩:=r;have ih:=QW hl m (i+1) b' (er++[e]) (by omega) (by simp[he]) hK';have hel:=oE er;have het:(fM er aO).take i=fM er aO:=ah (by omega);have hr:(i+1)*8<=room:=by unfold room;omega
  simp only[Bk.bF,Bk.cells,he]at hC;simp[h1,a1,h4,hC,Bk.bF,Bk.cells,hr,hel,het,he];refine WL.to ih (by simp) (by simp[Bk.bF,Bk.cells,he]) λx e' J' hh=>?_
  have e1:((i+1:Nat):Int)=(i:Int)+1:=by omega
  rw[e1]at hh;simpa[Bk.bF,Bk.cells]using hh
theorem V5{lines:List (List UInt8)}(hl:okL lines):dr T (.call true 32 [lF lines cm] ([]::J)) =
  some (.val (.cK [.ref J.length 6 0 0,.sl J.length 7 lines.length 0 lines.length 1]) ((jM lines).1.bF J.length (jM lines).2::J)):=by
 refine vy rfl rfl rfl ?_;have hL:=QW (J:=J) hl lines.length 0 fN [] (by omega) rfl Kv.zero;rw[aC]at hL;simp;refine WL.to hL (by simp) (by simp[Bk.bF,Bk.cells,fN,nl]) ?_;rintro x e J' ⟨rfl,g4,g5,rfl⟩;simp[g4,g5,jM]
end
section
open Go Go.Abs Go.Rock
variable {J:SK}
theorem SE{f:dD}{bl wt:List Int}(hf:f.valid=true)(hl:bl.length<=9223372036854775807)(hw:bl.length=wt.length):∀(k i:Nat) (last:Int),i+k=bl.length->(i=0->last = -1)->(∀j,i=j+1->bl[j]?=some last)->(-1<=last) ->
  WL T [2,3,4,9] false oq [(2,lF bl aO),(3,lF wt aO),(4,.bg (fL f)),(9,iI i)] J
   (λx e J'=>J'=J/\if zt f.size last (bl.drop i) (wt.drop i)then x=.exit 0 else x=.ret/\get e 8=.bool false)
 |0,i,last,hi,_,_,_=>by
  refine aA oq.eq_1 ?_;have h1:¬i<bl.length:=by omega
  have h2:bl.drop i=[]:=an (by omega);simp[h1,h2,zt]
 |k+1,i,last,hi,g0,g1,g2=>by
  refine aA oq.eq_1 ?_;have⟨h1,h1'⟩:i<bl.length/\i<wt.length:=by omega
  obtain⟨q1,q2⟩:=BL hf;obtain⟨b,hb⟩:=gE h1;obtain⟨w,hw'⟩:∃r,wt[i]?=some r:=⟨_,aH h1'⟩;have h2:=gp hb;have h3:=gp hw';have h4:=cg h1 hl;have h5:=bx hb;have h6:=bx hw';have hB:=λJ=>pk (J:=J) hf
  have w1:=cb (n:=f.size-1);have ih:=λg2=>SE hf hl hw k (i+1) b (by omega) (by omega) (λj hj=>(show j=i by omega) ▸ hb) g2
  rw[h5,h6,zt];by_cases c0:b<0
  .have c1:bC b 0 (f.size-1)=false:=by simp[bC];omega
   simp[h1,h2,hB,qI,w1,c1,show ¬last<b by omega]
  by_cases c2:f.size<=b
  .have c1:bC b 0 (f.size-1)=false:=by simp[bC];omega
   simp[h1,h2,hB,qI,w1,c1,show ¬b<f.size by omega]
  have c1:bC b 0 (f.size-1)=true:=by simp[bC];omega
  have c3:b<f.size:=by omega
  by_cases ci:i=0
  .have:=g0 ci;subst ci;have c4:last<b:=by omega
   have h1z:0<bl.length:=h1;have h1z':0<wt.length:=h1';simp only[aC,Int.ofNat_zero]at h2 h3 h4;cases c5:bC w (-1000) 1000
   .simp[h1z,h1z',h2,h3,hB,qI,w1,c1,c3,c4,c5]
   .simp[h1z,h1z',h2,h3,hB,qI,w1,c1,c3,c4,c5];exact WL.to (ih (by omega)) (by simp) rfl λx e J hh=>by simpa[c4,c3]using hh
  .have hj:=g1 (i-1) (by omega);have h7:=gp hj;have e1:(((i:Int)-1))=((i-1:Nat):Int):=by omega
   have w2:=cb (n:=(((i-1:Nat):Nat):Int));have⟨h8,c6⟩:i-1<bl.length/\0<i:=by omega
   by_cases c4:b<=last
   .simp[h1,h2,h7,h8,hB,qI,w1,w2,e1,c1,c3,c4,c6,show ¬last<b by omega]
   .cases c5:bC w (-1000) 1000
    .simp[h1,h1',h2,h3,h7,h8,hB,qI,w1,w2,e1,c1,c3,c4,c5,c6,show last<b by omega]
    .simp[h1,h1',h2,h3,h4,h7,h8,hB,qI,w1,w2,e1,c1,c3,c4,c5,c6,show last<b by omega];exact WL.to (ih (by omega)) (by simp) rfl λx e J hh=>by simpa[show last<b by omega,c3]using hh
theorem Zx{f:dD}{k:Int}{bl wt:List Int}(hf:f.valid=true)(hl:bl.length<=9223372036854775807):
  Cl 175 [.agg (fL f),iI k,lF bl aO,lF wt aO] (.bool (Eh f k bl wt)) J:=by
 refine au ?_;obtain⟨q1,q2,q3,q4,q5⟩:=dD.nJ.1 hf;have w1:=cb (n:=f.k-1);unfold Eh;cases c1:bC k 0 (f.k-1)
 .simp[qI,w1,c1]
 by_cases c2:1<=bl.length
 rotate_left
 .have:bl=[]:=bq.1 (by omega);subst this;simp[qI,w1,c1]
 have c2':¬(bl.length:Int)<1:=by omega
 have c2'':¬bl=[]:=λh=>by rw[h]at c2;simp at c2
 by_cases c3:bl.length=wt.length
 rotate_left
 .simp[qI,w1,c1,c2',c3,show ¬(bl.length:Int)=wt.length by omega]
 have c4:¬(wt.length:Int)<1:=by omega
 have c5:¬wt=[]:=λh=>by rw[h]at c3;simp at c3;exact c2'' c3
 simp[qI,w1,c1,c3,c4];refine WL.to (SE (J:=[]::J) hf hl c3 bl.length 0 (-1) (by omega) (λ_=>rfl) (by omega) (by omega)) (by simp[c3]) rfl ?_;rintro x e J' ⟨rfl,h⟩;simp only[aC]at h;cases hc:zt f.size (-1) bl wt
 .simp[hc]at h;simp[h]
 .simp[hc]at h;simp[h];omega
theorem Zq{lo hi:Int}:Cl 176 [.agg [iI lo,iI hi]] (.bool (Dq lo hi)) J:=by
 refine au ?_;unfold Dq;by_cases c1 : -10000000000<=lo
 rotate_left
 .have:bC lo (-10000000000) 10000000000=false:=by simp[bC];omega
  simp[qI,this,c1]
 by_cases c2:lo<=hi
 .by_cases c3:hi<=10000000000
  .have e1:bC lo (-10000000000) 10000000000=true:=aP.2 (by omega);have e2:bC hi (-10000000000) 10000000000=true:=aP.2 (by omega);simp[qI,e1,e2,c1,c2,c3]
  .have e2:bC hi (-10000000000) 10000000000=false:=by simp[bC];omega
   cases e1:bC lo (-10000000000) 10000000000<;>simp[qI,e1,e2,c1,c2,c3]
 .cases e1:bC lo (-10000000000) 10000000000<;>cases e2:bC hi (-10000000000) 10000000000<;>simp[qI,e1,e2,c1,c2]
theorem QE{f:dD}{m:pU}(hf:f.valid=true)(hn:m.name.length<=9223372036854775807)(hl:m.bl.length<=9223372036854775807):
  Cl 137 [.agg (fL f),.agg m.enc] (iI (f.measure m)) J:=by
 refine au ?_;have h1:=λJ=>I5 (J:=J) hn
 have h2:=λJ=>Zx (J:=J) (k:=m.kind) (wt:=m.wt) hf hl
 unfold dD.measure;cases c1:named m.name
 .simp[h1,c1]
 cases c2:Eh f m.kind m.bl m.wt
 .simp[h1,h2,c1,c2]
 cases c3:Dq m.lo m.hi<;>simp[h1,h2,Zq,c1,c2,c3]
theorem LG{l:List pU}{m:pU}{i:Nat}{d2:D}(hd2:d2.strip=d2/\d2.calm=d2)(hm:l[i]?=some m)(hl:l.length<=9223372036854775807):∀(k j:Nat),j+k=i ->
  WL T [1,2,5,7] false fm [(1,lF l pU.enc),(2,d2),(5,iI i),(7,iI j)] J
   (λx e J'=>J'=J/\if(((l.take i).drop j).map pU.name).contains m.name then x=.ret/\get e 4=iI 6 else x=.exit 2/\get e 1=lF l pU.enc/\get e 2=d2/\get e 5=iI i)
 |0,j,hj=>by
  refine aA fm.eq_1 ?_;obtain rfl:j=i:=by omega
  have h2:(l.take j).drop j=[]:=an (by rw[dA];omega);rw[h2];simp[hd2.2]
 |k+1,j,hj=>by
  refine aA fm.eq_1 ?_;have h0:i<l.length:=(aB.1 hm).1;have⟨h1,h1'⟩:j<i/\j<l.length:=by omega
  obtain⟨r,hr⟩:∃r,l[j]?=some r:=gE (by omega);have h2:=Jh hr;have h3:=Jh hm;simp only[pU.enc]at h2 h3;have h4:=cg h1';have h5:(l.take i).drop j=r::(l.take i).drop (j+1):=bx (by rw[di];simp[h1,hr]);have ih:=LG hd2 hm hl k (j+1) (by omega);rw[h5,aM];have hp:ia (.seq false) [.str r.name,.str m.name]=some (.bool (r.name == m.name)):=rfl;by_cases hc:r.name=m.name
  .rw[hc]at hp;simp[h0,h1,h1',h2,h3,hp,hc,hd2.2]
  .have hc':¬m.name=r.name:=λh=>hc h.symm
   have hb:(r.name == m.name)=false:=by simpa using hc
   rw[hb]at hp;simp[h0,h1,h1',h2,h3,h4,hp,hd2.2];exact WL.to ih (by simp) rfl λx e J' hh=>by simpa[hc']using hh
theorem Ii{f:dD}{l:List pU}(hf:f.valid=true)(hs:∀m∈l,m.name.length<=9223372036854775807/\m.bl.length<=9223372036854775807)(hl:l.length<=9223372036854775807):∀(k i:Nat),i+k=l.length ->
  WL T [1,2,5] false fp [(1,lF l pU.enc),(2,.bg (fL f)),(5,iI i)] J
   (λx e J'=>J'=J/\if f.yf ((l.take i).map pU.name) (l.drop i)=0 then x=.exit 0 else x=.ret/\get e 4=iI (f.yf ((l.take i).map pU.name) (l.drop i)))
 |0,i,hi=>by
  refine aA fp.eq_1 ?_;have h1:¬i<l.length:=by omega
  have h2:l.drop i=[]:=an (by omega);simp[h1,h2,dD.yf]
 |k+1,i,hi=>by
  refine aA fp.eq_1 ?_;have h1:i<l.length:=by omega
  obtain⟨m,hm⟩:=gE h1;have h2:=Jh hm;have h4:=cg h1;have h5:=bx hm;obtain⟨hs1,hs2⟩:=hs m (aj hm);have hC:=λJ=>QE (J:=J) hf hs1 hs2
  simp only[pU.enc]at h2 hC;have ih:=Ii hf hs hl k (i+1) (by omega);have e1:(l.take (i+1)).map pU.name=(l.take i).map pU.name++[m.name]:=by rw[List.take_add_one,hm];simp
  rw[e1]at ih;rw[h5,dD.yf];by_cases hc1:f.measure m=0
  .simp[h1,h2,hC,hc1];refine WL.to (LG (d2:=.bg (fL f)) ⟨rfl,rfl⟩ hm hl i 0 (by omega)) (by simp) rfl ?_;rintro x e J' ⟨rfl,h⟩;simp only[aC]at h;cases hc:((l.take i).map pU.name).contains m.name
   .rw[hc]at h;simp at h;obtain⟨rfl,g1,g2,g5⟩:=h;simp[g1,g2,g5,h4];have hc':¬m.name∈List.take i (List.map pU.name l):=by simpa using hc
    exact WL.to ih (by simp) rfl λx e J' hh=>by simpa[hc1,hc']using hh
   .rw[hc]at h;simp at h;have hc':m.name∈List.take i (List.map pU.name l):=by simpa using hc
    simp[h,hc1]
  .simp[h1,h2,hC,hc1]
theorem Oj{f:dD}{l:List pU}(hf:f.valid=true)(hs:∀m∈l,m.name.length<=9223372036854775807/\m.bl.length<=9223372036854775807)(hl:l.length<=9223372036854775807):
  Cl 95 [.agg (fL f),lF l pU.enc] (iI (f.wC l)) J:=by
 refine au ?_;unfold dD.wC;by_cases h2:12<l.length
 .simp[h2,show(12:Int)<l.length by omega]
 rw[if_neg h2];simp[show ¬(12:Int)<l.length by omega];refine WL.to (Ii (J:=[]::J) hf hs hl l.length 0 (by omega)) (by simp) (by simp) ?_;rintro x e J' ⟨rfl,h⟩;simp only[aC,List.take_zero,bW]at h;by_cases hc:f.yf [] l=0
 .rw[if_pos hc]at h;subst h;simp[hc]
 .rw[if_neg hc]at h;obtain⟨rfl,h⟩:=h;simp[h]
theorem Ij{b:bV}{rd:List tz}{n:Nat}(h:Bv b)(hl:rd.length<=40)(hw:∀x∈rd,0<=x.jY/\x.jY<=255):∀(k i:Nat),i+k=rd.length ->
  WL T [1,2,3,7] false fq [(1,iI n),(2,lF rd tz.enc),(3,.bg (bL b)),(7,iI i)] J
   (λx e J'=>J'=J/\if bU (eU b n) (rd.drop i)=0 then x=.exit 0 else x=.ret/\get e 6=iI (bU (eU b n) (rd.drop i)))
 |0,i,hi=>by
  refine aA fq.eq_1 ?_;have h1:¬i<rd.length:=by omega
  have h2:rd.drop i=[]:=an (by omega);simp[h1,h2,bU]
 |k+1,i,hi=>by
  refine aA fq.eq_1 ?_;have h1:i<rd.length:=by omega
  obtain⟨x,hx⟩:=gE h1;have h2:=NI hx;simp only[tz.enc]at h2;have h4:=cg h1;have h5:=bx hx;have hwx:=hw x (aj hx);have hz:=h.sz;have hn:=h.n;have hwl:=h.av;have hS:=λJ=>pk (J:=J) h.fv
  have hsz:b.f.size=(b.n:Int):=hz;rw[hsz]at hS;have hsz':b.size=(b.n:Int):=hz;have w2:=cb (n:=(b.n:Int)-1);have w3:=cb (n:=(b.av.length:Int)-1);have ih:=Ij (n:=n) h hl hw k (i+1) (by omega);rw[h5,bU];by_cases c0:x.jY<1
  .have c1:bC x.jY 1 4=false:=by simp[bC];omega
   have hE:eU b n x=1:=by simp[eU,c1]
   rw[hE];simp[h1,h2,c0]
  by_cases c0':4<x.jY
  .have c1:bC x.jY 1 4=false:=by simp[bC];omega
   have hE:eU b n x=1:=by simp[eU,c1]
   rw[hE];simp[h1,h2,c0,c0']
  have c1:bC x.jY 1 4=true:=aP.2 (by omega);by_cases c2:x.lo < -10000000000
  .have hE:eU b n x=1:=by simp[eU,c1,c2]
   rw[hE];simp[h1,h2,c0,c0',c2]
  by_cases c3:x.hi<x.lo
  .have hE:eU b n x=1:=by simp[eU,c1,c2,c3]
   rw[hE];simp[h1,h2,c0,c0',c2,c3]
  by_cases c4:10000000000<x.hi
  .have hE:eU b n x=1:=by simp[eU,c1,c2,c3,c4]
   rw[hE];simp[h1,h2,c0,c0',c2,c3,c4]
  by_cases c5:x.jY=1
  .have c1':bC 1 1 4=true:=rfl;cases c6:bC x.tick 0 n
   .have hE:eU b n x=2:=by simp[eU,c1',c2,c3,c4,c5,c6]
    rw[hE];simp[h1,h2,c2,c3,c4,c5,c6,dt]
   .cases c7:bC x.idx 0 ((b.n:Int)-1)
    .have hE:eU b n x=2:=by simp[eU,c1',c2,c3,c4,c5,c6,c7,hsz']
     rw[hE];simp[h1,h2,c2,c3,c4,c5,c6,c7,dt,hS,w2]
    .have hE:eU b n x=0:=by simp[eU,c1',c2,c3,c4,c5,c6,c7,hsz']
     rw[hE];simp[h1,h2,h4,c2,c3,c4,c5,c6,c7,dt,hS,w2];exact WL.to ih (by simp) rfl λx e J hh=>by simpa using hh
  .have c8:1<x.jY:=by omega
   cases c6:bC x.tick 1 n
   .have hE:eU b n x=2:=by simp[eU,c1,c2,c3,c4,c5,c6]
    rw[hE];simp[h1,h2,c0,c0',c2,c3,c4,c5,c8,c6,dt]
   .cases c7:bC x.idx 0 ((b.av.length:Int)-1)
    .have hE:eU b n x=2:=by simp[eU,c1,c2,c3,c4,c5,c6,c7]
     rw[hE];simp[h1,h2,c0,c0',c2,c3,c4,c5,c8,c6,c7,dt,w3]
    .have hE:eU b n x=0:=by simp[eU,c1,c2,c3,c4,c5,c6,c7]
     rw[hE];simp[h1,h2,h4,c0,c0',c2,c3,c4,c5,c8,c6,c7,dt,w3];exact WL.to ih (by simp) rfl λx e J hh=>by simpa using hh
theorem MO{b:bV}{rd:List tz}{n:Nat}(h:Bv b)(hl:rd.length<=9223372036854775807)(hw:∀x∈rd,0<=x.jY/\x.jY<=255){wq:D}(hwq:wq.qY=lF b.av bH.enc):
  Cl 104 [.agg [iI b.f.x,iI b.f.y,iI b.f.z,iI b.f.k,lF b.dP Rw.enc,iI b.cA,iI b.lift,iI b.deep,wq],iI n,lF rd tz.enc] (iI (vu b n rd)) J:=by
 refine au ?_;unfold vu;by_cases h2:40<rd.length
 .simp[hwq,h2,show(40:Int)<rd.length by omega]
 rw[if_neg h2];simp[hwq,show ¬(40:Int)<rd.length by omega];refine WL.to (Ij (J:=[]::J) (n:=n) h (by omega) hw rd.length 0 (by omega)) (by simp) (by simp) ?_;rintro x e J' ⟨rfl,hh⟩;simp only[aC]at hh;by_cases hc:bU (eU b n) rd=0
 .rw[if_pos hc]at hh;subst hh;simp[hc]
 .rw[if_neg hc]at hh;obtain⟨rfl,hh⟩:=hh;simp[hh]
end
section
open Go Go.Abs Go.Rock Go.Book
variable {J:SK}
def bY(b:Bk):List D:=[iI b.aS.f.x,iI b.aS.f.y,iI b.aS.f.z,iI b.aS.f.k,nl Rw.enc b.aS.dP,iI b.aS.cA,iI b.aS.lift,iI b.aS.deep,nl bH.enc b.aS.av,
 nl ec.enc b.ai,nl pE b.aw,nl Trem.cH.enc b.rules,nl Trem.Ev.enc b.pZ,iI b.k0,iI b.k1,iI b.k2,nl pf.enc b.cI,nl JG.enc b.dk,.bool b.ready,nl Dl.enc b.eJ]
theorem uk{α:Type}{f:α->List D}(h:∀x,D.bf (f x)=true)(l:List α):(nl f l).clean=true:=by
 unfold nl;split
 .rfl
 .simp[D.clean,fB h l]
theorem mJ{α:Type}{f:α->List D}(l:List α):UF (nl f l)=some (iI l.length):=by
 unfold nl;split
 .rename_i h;rw[h];rfl
 .rfl
theorem jS{α:Type}{f:α->List D}{l:List α}(h:l≠[]):nl f l=lF l f:=by simp[nl,h]
theorem FW{α:Type}{f:α->List D}:nl f ([]:List α)=.bz:=rfl
theorem clE(x:ec):D.bf x.enc=true:=by simp[D.clean,mw]
theorem adn(x:Trem.cH):D.bf x.enc=true:=by simp[D.clean]
theorem adm(x:Trem.Ev):D.bf x.enc=true:=by simp[D.clean,fB (f:=Trem.pV.enc) (λ_=>by simp[D.clean])]
theorem adp(x:pf):D.bf x.enc=true:=by simp[D.clean,fB (f:=Prt.enc) (λ_=>by simp[D.clean])]
theorem ado(x:JG):D.bf x.enc=true:=by simp[D.clean]
theorem adq(x:Dl):D.bf x.enc=true:=by simp[D.clean]
theorem agB(x:List Int):D.bf (pE x)=true:=by simp[pE,D.clean,mw]
theorem nlc{b:Bk}:(nl Rw.enc b.aS.dP).clean=true/\(nl bH.enc b.aS.av).clean=true/\(nl ec.enc b.ai).clean=true/\(nl pE b.aw).clean=true/\(nl Trem.cH.enc b.rules).clean=true/\(nl Trem.Ev.enc b.pZ).clean=true/\(nl pf.enc b.cI).clean=true/\(nl JG.enc b.dk).clean=true/\(nl Dl.enc b.eJ).clean=true :=
 ⟨uk (λ_=>by simp[D.clean]) _,uk (λ_=>by simp[D.clean]) _,uk clE _,uk agB _,uk adn _,uk adm _,uk adp _,uk ado _,uk adq _⟩
theorem mo{b:Bk}:D.bf (bY b)=true:=by
 obtain⟨h1,h2,h3,h4,h5,h6,h7,h8,h9⟩:=nlc (b:=b);simp[bY,D.clean,h1,h2,h3,h4,h5,h6,h7,h8,h9]
theorem eS{b:Bk}:(bY b).length=20:=rfl
theorem eH{b:Bk}:(bY b).take 20=bY b:=rfl
def gR(l:List ec):List bZ:=(cc l).map (·.m)
theorem Rm{l:List ec}{i:Nat}{e:ec}(h:l[i]?=some e):gR (l.take (i+1))=if e.left=true then gR (l.take i)++[e.m]else gR (l.take i):=by
 rw[List.take_add_one,h];unfold gR cc;cases hl:e.left<;>simp[hl]
theorem Ku(l:List ec):(gR l).length<=l.length:=by
 unfold gR cc;rw[bG];exact fD _ _
theorem Ni{l:List ec}{i:Nat}{e:ec}(h:l[i]?=some e):((fM l ec.enc).drop (i*4)).take 4=e.enc:=bd (f:=ec.enc) (w:=4) (λ_=>rfl) h
theorem So{b:Bk}(hl:b.ai.length<=40):∀(k i:Nat),i+k=b.ai.length ->
  WL T [1,3,4] false ou [(1,.bg (bY b)),(3,.sl J.length 0 (gR (b.ai.take i)).length 0 (gR (b.ai.take i)).length 2),(4,iI i)] ([.cells (gR (b.ai.take i)).length (fM (gR (b.ai.take i)) bZ.enc)]::J)
   (λx e J'=>x=.exit 0/\get e 3=.sl J.length 0 (gR b.ai).length 0 (gR b.ai).length 2/\J'=[.cells (gR b.ai).length (fM (gR b.ai) bZ.enc)]::J)
 |0,i,hi=>by
  refine aA ou.eq_1 ?_;obtain rfl:i=b.ai.length:=by omega
  rw[ah (aN _)];simp[bY]
 |k+1,i,hi=>by
  refine aA ou.eq_1 ?_;have⟨h1,h1'⟩:i<b.ai.length/\(i:Int)<b.ai.length:=by omega
  obtain⟨e,he⟩:=gE h1;have hne:b.ai≠[]:=λh=>by rw[h]at h1;simp at h1
  have h2:=Ni he;simp only[ec.enc]at h2;have h4:=cg h1;have hn:=jS (f:=ec.enc) hne;have ih:=So hl k (i+1) (by omega);rw[Rm he]at ih;have a1:=Ku (b.ai.take i);rw[dA]at a1;have a4:=aau (gR (b.ai.take i));cases hc:e.left
  .rw[hc]at ih h2;simp only[aD,if_false]at ih;simp[bY,hn,h1',h2,h4];exact WL.to ih (by simp[bY,hn]) rfl λx e J hh=>hh
  .rw[hc]at ih h2;simp only[if_true]at ih;have a6:(fM (gR (b.ai.take i)) bZ.enc).take ((gR (b.ai.take i)).length*2)=fM (gR (b.ai.take i)) bZ.enc:=ah (by omega);have h7:((gR (b.ai.take i)).length+1)*40<=room:=by unfold room;omega
   generalize gR (b.ai.take i)=M at *
   simp[bY,hn,h1',h2,h4,a4,a6,h7];exact WL.to ih (by simp[bY,hn]) (by simp) λx e J hh=>hh
theorem MM{b:Bk}(hl:b.ai.length<=40)(hJ:J≠[]):Cl 101 [.agg (bY b)] (lF (gR b.ai) bZ.enc) J:=by
 refine au ?_;simp;refine WL.to (So (J:=J) (b:=b) hl b.ai.length 0 (by omega)) (by simp[gR,cc]) (by simp[gR,cc]) ?_;rintro x e J' ⟨rfl,g3,rfl⟩;have hk:=ki (n:=16) (f:=bZ.enc) (w:=2) (l:=gR b.ai) (j:=0) (v:=(gR b.ai).length) (bs:=[.cells (gR b.ai).length (fM (gR b.ai) bZ.enc)]) (by decide) (λ_=>rfl) (λx=>by simp[D.clean,mw]) hJ rfl;simp[g3,hk]
theorem MP{b:Bk}(hl:b.ai.length<=40):Cl 98 [.agg (bY b)] (.bool (decide (cc b.ai≠[]))) J:=by
 refine au ?_;have hL:=λJ hJ=>MM (J:=J) hl hJ
 try simp only[lF,Cl]at hL
 have hz:(gR b.ai).length=(cc b.ai).length:=by simp[gR]
 rw[hz]at hL;by_cases hc:cc b.ai=[]
 .have h0:(cc b.ai).length=0:=by rw[hc];rfl
  rw[h0]at hL;simp[hL,hc,eS,eH]
 .have h0:0<(cc b.ai).length:=aI.2 hc;have h0':(0:Int)<(cc b.ai).length:=by omega
  simp[hL,hc,h0,eS,eH]
def Jj(L:Nat)(b:Bk):List D:=[iI b.aS.f.x,iI b.aS.f.y,iI b.aS.f.z,iI b.aS.f.k,nl Rw.enc b.aS.dP,iI b.aS.cA,iI b.aS.lift,iI b.aS.deep,nl bH.enc b.aS.av,
 .sl L 0 0 0 b.ai.length 4,nl pE b.aw,nl Trem.cH.enc b.rules,nl Trem.Ev.enc b.pZ,iI b.k0,iI b.k1,iI b.k2,nl pf.enc b.cI,nl JG.enc b.dk,.bool b.ready,.sl L 1 0 0 b.eJ.length 4]
def QB(b:Bk):List Abs.aG:=[.cells 0 (fM b.ai ec.enc),.cells 0 (fM b.eJ Dl.enc)]
def zS:List D:=[iI 0,iI 0,iI 0,iI 0,.bz,iI 0,iI 0,iI 0,.bz,.bz,.bz,.bz,.bz,iI 0,iI 0,iI 0,.bz,.bz,.bool false,.bz]
theorem CQ:zS.length=20:=rfl
theorem xV{l:List D}:l++zS.drop 20=l:=by simp[zS]
theorem aaV{L:Nat}{b:Bk}:(Jj L b).length=20:=rfl
theorem Yj{L:Nat}{b:Bk}:(Jj L b).take 20=Jj L b:=rfl
theorem DK{l n:Nat}(hn:0<n):∀{pre:List D} {d:D} {post:List D} {S:SK},D.bf pre=true->cF.frzL (cF l n) (pre++d::post) S=(pre++(cF l n d S).1::(cF.frzL (cF l n) post (cF l n d S).2).1,(cF.frzL (cF l n) post (cF l n d S).2).2):=by
 intro pre d post S h;rw[Pl,Kj h hn];simp
theorem adJ{b:Bk}(hm:b.ai≠[])(hw:b.eJ≠[])(hJ:J≠[]):cF (J.length-1) 16 (.agg (Jj J.length b)) (QB b::J)=(.agg (bY b),[.dead,.dead]::J):=by
 obtain⟨h1,h2,h3,h4,h5,h6,h7,h8,h9⟩:=nlc (b:=b);have k1:=ki (n:=15) (f:=ec.enc) (w:=4) (l:=b.ai) (j:=0) (v:=0) (bs:=QB b) (by decide) (λ_=>rfl) clE hJ rfl;have k2:=ki (n:=15) (f:=Dl.enc) (w:=4) (l:=b.eJ) (j:=1) (v:=0) (bs:=[.dead,.cells 0 (fM b.eJ Dl.enc)]) (by decide) (λ_=>rfl) adq hJ rfl;rw[Ew (by simp[Jj]) (by omega)];rw[show Jj J.length b=(Jj J.length b).take 9 ++ .sl J.length 0 0 0 b.ai.length 4::((Jj J.length b).drop 10).take 9++[.sl J.length 1 0 0 b.eJ.length 4]from rfl,cM,cr];rw[DK (by omega) (by simp[Jj,D.clean,h1,h2]),k1];simp only[QB,List.set_cons_zero];rw[DK (by omega) (by simp[Jj,D.clean,h4,h5,h6,h7,h8]),k2];simp[Jj,bY,jS hm,jS hw]
def abL(lo hi:Int)(val:bZ->Int)(e:ec)(v:Int):Prop:=e.left=true->bC v lo hi=bC (val e.m) lo hi/\(bC v lo hi=false->v=val e.m)
theorem LH{b:Bk}{lo hi:Int}{val:bZ->Int}{vs:List Int}(hw:b.eJ.length=b.ai.length)(hl:b.ai.length<=40)(hvl:vs.length=b.ai.length)
  (hv:∀(i:Nat) e v,b.ai[i]?=some e->vs[i]?=some v->abL lo hi val e v):∀(m i:Nat),i+m=b.ai.length ->
  WL T [1,2,3,4,5,10,11] false lY [(1,iI b.at_),(2,lF vs aO),(3,iI lo),(4,iI hi),(5,.own 0 (Jj J.length (b.gw lo hi val i))),(10,.own 0 zS),(11,iI i)] (QB (b.gw lo hi val i)::J)
   (λx e J'=>x=.exit 0/\get e 5=.own 0 (Jj J.length (gU b lo hi val))/\get e 10=.own 0 zS/\J'=QB (gU b lo hi val)::J)
 |0,i,h=>by
  refine aA lY.eq_1 ?_;obtain rfl:i=b.ai.length:=by omega
  have hml:=uz (b:=b) (lo:=lo) (hi:=hi) (val:=val) (i:=b.ai.length);simp[Jj,QB,hml,gU,zS]
 |m+1,i,h=>by
  refine aA lY.eq_1 ?_;have⟨h1,h1v⟩:i<b.ai.length/\i<vs.length:=by omega
  obtain⟨e,he⟩:=gE h1;obtain⟨v,hvi⟩:=gE h1v;have a1:=bd (f:=aO) (w:=1) (λ_=>rfl) hvi;simp only[aO,bS]at a1;have hat:=TK (lo:=lo) (hi:=hi) (val:=val) he;have hfl:=bd (f:=ec.enc) (w:=4) (λ_=>rfl) hat;have hml:=uz (b:=b) (lo:=lo) (hi:=hi) (val:=val) (i:=i);have hwl:=vO (b:=b) (lo:=lo) (hi:=hi) (val:=val) (i:=i);have h4:=cg h1;have ih:=LH hw hl hvl hv m (i+1) (by omega);have hd:=rD (f:=ec.enc) (w:=4) (λ_=>rfl) hat;have hd2:(fM (b.gw lo hi val i).ai ec.enc).drop (i*4+2)=.bool e.left::iI e.M7::(fM (b.gw lo hi val i).ai ec.enc).drop (i*4+4):=by
   have:=congrArg (List.drop 2) hd;simpa[dh]using this
  have hlen:=xK (b.gw lo hi val i).ai;rw[hml]at hlen;have q:4<=b.ai.length*4-i*4:=by omega
  have hh:=hv i e v he hvi;cases hc1:e.left with
  |false =>
   have hst:isStr lo hi val e=false:=by simp[isStr,hc1]
   rw[EL he hst]at ih;simp[h1,Jj,QB,hml,hwl,hd2,h4,hc1];exact WL.to ih (by simp[Jj,hml,hwl]) (by simp[QB]) λx e J' hh=>by simpa[Jj,QB,uz,vO]using hh
  |true =>
   obtain⟨hi1,hi2⟩:=hh hc1;cases hc2:bC v lo hi with
   |true =>
    have hst:isStr lo hi val e=false:=by simp[isStr,<- hi1,hc2]
    rw[EL he hst]at ih;simp[h1,h1v,a1,Jj,QB,hml,hwl,hd2,h4,hc1,dt,hc2];exact WL.to ih (by simp[Jj,hml,hwl]) (by simp[QB]) λx e J' hh=>by simpa[Jj,QB,uz,vO]using hh
   |false =>
    have hst:isStr lo hi val e=true:=by simp[isStr,hc1,<- hi1,hc2]
    obtain⟨hn1,hn2⟩:=MH he hst hw;rw[<- hi2 hc2]at hn2;have⟨q2,q3⟩:i*4+2+1<=b.ai.length*4/\i*4+3+1<=b.ai.length*4:=by omega
    have p1:=Gc (f:=ec.enc) (w:=4) (k:=2) (v:=.bool false) (λ_=>rfl) (by omega) (x':=⟨e.m,false,e.M7⟩) hat rfl;have hat2:((b.gw lo hi val i).ai.set i ⟨e.m,false,e.M7⟩)[i]?=some ⟨e.m,false,e.M7⟩:=by simp[hml,h1]
    have p2:=Gc (f:=ec.enc) (w:=4) (k:=3) (v:=iI b.at_) (λ_=>rfl) (by omega) (x':=⟨e.m,false,b.at_⟩) hat2 rfl;rw[List.set_set]at p2;have hl2:=xK ((b.gw lo hi val i).ai.set i ⟨e.m,false,e.M7⟩);rw[List.length_set,hml]at hl2;have⟨h5,q5⟩:i<b.eJ.length/\i*4+4<=b.eJ.length*4:=by omega
    have hwe:=Hk (b.gw lo hi val i).eJ;rw[hwl]at hwe;have p3:=Md (f:=Dl.enc) (w:=4) (λ_=>rfl) (l:=(b.gw lo hi val i).eJ) (i:=i) (x:=⟨b.at_,v,lo,hi⟩) (by omega);simp only[Dl.enc,cr,List.nil_append]at p3;simp[h1,h1v,a1,Jj,QB,hml,hwl,hd2,hlen,h4,hc1,dt,hc2,q2,q3,p1,p2,hl2,h5,q5,hwe,p3];exact WL.to ih (by simp[Jj,hwl,hn1,hn2,hml]) (by simp[QB,hn1,hn2]) λx e J' hh=>by simpa[Jj,QB,uz,vO]using hh
theorem LD{b:Bk}{lo hi:Int}{val:bZ->Int}{vs:List Int}(hm:b.ai≠[])(hw:b.eJ.length=b.ai.length)(hl:b.ai.length<=40)(hvl:vs.length=b.ai.length)
  (hv:∀(i:Nat) e v,b.ai[i]?=some e->vs[i]?=some v->abL lo hi val e v) (hJ:J≠[]):
  Cl 97 [.agg (bY b),iI b.at_,lF vs aO,iI lo,iI hi] (.agg (bY (gU b lo hi val))) J:=by
 refine au ?_;have hwn:b.eJ≠[]:=λh=>by rw[h]at hw;exact hm (bq.1 hw.symm)
 have h:=LH (J:=J) hw hl hvl hv b.ai.length 0 (by omega);rw[MI]at h;have e1:=jS (f:=ec.enc) hm;have e2:=jS (f:=Dl.enc) hwn;have⟨r1,r2⟩:b.ai.length*56<=room/\b.eJ.length*32<=room:=by unfold room;omega
 have l1:=xK b.ai;have l2:=Hk b.eJ;simp[bY,e1,e2,r1,r2,l1,l2,hm,hwn];refine WL.to h (by simp[Jj,zS]) (by simp[QB]) ?_;rintro x e J' ⟨rfl,g5,g10,rfl⟩;have hm':(gU b lo hi val).ai≠[]:=λh=>by have:=uz (b:=b) (lo:=lo) (hi:=hi) (val:=val) (i:=b.ai.length);unfold gU at h;rw[h]at this;exact hm (bq.1 this.symm)
 have hw':(gU b lo hi val).eJ≠[]:=λh=>by have:=vO (b:=b) (lo:=lo) (hi:=hi) (val:=val) (i:=b.ai.length);unfold gU at h;rw[h]at this;exact hwn (bq.1 this.symm)
 have hf:=adJ hm' hw' hJ;simp[g5,g10,CQ,xV,aaV,Yj,hf];rfl
end
end Go.Proofs.YtpapbbojmclkgaaGreatDoor
namespace Go.Book
open Go Go.Abs Go.Rock
def Kg(l:List Prt)(i:Nat):Bool:=match l[i]? with
 |some p=>bC p.width 1 100000 && (bC p.kS 0 1000 && (i == 0 || decide (p.kS<=kY l i)))
 |none=>true
theorem Xg{l:List Prt}:(∀j,j<l.length->Kg l j=true)↔∀j,j<l.length->BF l j=true:=by
 have key:∀j p,l[j]?=some p->(Kg l j=true↔bC p.width 1 100000=true/\bC p.kS 0 1000=true/\(j=0\/p.kS<=kY l j)):=by
  intro j p h;simp[Kg,h]
 have key2:∀j p,l[j]?=some p->(BF l j=true↔bC p.kS 0 (kY l j)=true/\bC p.width 1 100000=true):=by
  intro j p h;simp[BF,h,Prt.ok]
 have get:∀j,j<l.length->∃p,l[j]?=some p:=λj h=>⟨_,aH h⟩
 have la:∀j p,l[j]?=some p->kY l (j+1)=p.kS:=λj p h=>by simp[kY,h]
 constructor
 .intro h j hj;obtain⟨p,hp⟩:=get j hj;obtain⟨h1,h2,h3⟩:=(key j p hp).1 (h j hj);rw[key2 j p hp];refine⟨?_,h1⟩;rw[aP]at h2 ⊢;rcases h3 with h3 | h3
  .subst h3;simpa[kY]using h2
  .exact⟨h2.1,h3⟩
 .intro h j hj;obtain⟨p,hp⟩:=get j hj;obtain⟨h1,h2⟩:=(key2 j p hp).1 (h j hj);rw[key j p hp];rw[aP]at h1;have hl:kY l j<=1000:=by
   clear h1 h2;induction j generalizing p with
   |zero=>simp[kY]
   |succ j ih =>
    obtain⟨q,hq⟩:=get j (by omega);have h1:=((key2 j q hq).1 (h j (by omega))).1;rw[aP]at h1;have:=ih (by omega) q hq;rw[la j q hq];omega
  exact⟨h2,aP.2 (by omega),.inr h1.2⟩
theorem YJ{u:pf}:u.ok=true↔(∀j,j<u.parts.length->Kg u.parts j=true)/\bC u.xx 0 5=true/\1<=u.parts.length/\u.parts.length<=8:=by
 rw[Xg,<- LW,pf.ok,af,af,aP (n:=(u.parts.length:Int))];constructor
 .rintro⟨h1,h2,h3⟩;exact⟨h3,h1,by omega⟩
 .rintro⟨h1,h2,h3⟩;exact⟨h2,by omega,h1⟩
end Go.Book
namespace Go.Proofs.YtpapbbojmclkgaaGreatDoor
open Go Go.Abs Go.Rock Go.Book
variable {J:SK}
theorem Sr{u:pf}(hl:u.parts.length<=1000000):∀(k i:Nat),i+k=u.parts.length ->
  WL T [1,3] false kG [(1,.bg u.enc),(3,iI i)] J
   (λx e J'=>J'=J/\((x=.exit 0/\get e 1=.bg u.enc/\∀j,i<=j->j<u.parts.length->Kg u.parts j=true)\/(x=.ret/\get e 2=.bool false/\∃j,j<u.parts.length/\Kg u.parts j=false)))
 |0,i,hi=>by
  refine aA kG.eq_1 ?_;obtain rfl:i=u.parts.length:=by omega
  simp;intro j h1 h2;omega
 |k+1,i,hi=>by
  refine aA kG.eq_1 ?_;have h1:i<u.parts.length:=by omega
  obtain⟨p,hp⟩:=gE h1;have h2:=bd (f:=Prt.enc) (w:=2) (λ_=>rfl) hp;have h4:=cg h1;have ih:=Sr hl k (i+1) (by omega);have step:Kg u.parts i=true->WL T [1,3] false kG [(1,.bg u.enc),(3,iI (i+1:Nat))] J
   (λx e J'=>J'=J/\((x=.exit 0/\get e 1=.bg u.enc/\∀j,i<=j->j<u.parts.length->Kg u.parts j=true)\/(x=.ret/\get e 2=.bool false/\∃j,j<u.parts.length/\Kg u.parts j=false))):=by
   intro hq;refine WL.to ih rfl rfl ?_;rintro x e J' ⟨h1,h2 | h2⟩
   .refine⟨h1,.inl ⟨h2.1,h2.2.1,λj hj hj2=>?_⟩⟩;by_cases hij:j=i
    .rw[hij];exact hq
    .exact h2.2.2 j (by omega) hj2
   .exact⟨h1,.inr h2⟩
  have hf:Kg u.parts i=(bC p.width 1 100000 && (bC p.kS 0 1000 && (i == 0 || decide (p.kS<=kY u.parts i)))):=by simp[Kg,hp]
  cases c1:bC p.width 1 100000
  .rw[c1]at hf;simp[h1,h2,c1,dt];exact⟨i,h1,by simpa using hf⟩
  cases c2:bC p.kS 0 1000
  .rw[c1,c2]at hf;simp[h1,h2,c1,c2,dt];exact⟨i,h1,by simpa using hf⟩
  simp only[pf.enc]at step;by_cases hz:i=0
  .have q1:¬0<i:=by omega
   simp[h1,h2,h4,c1,c2,dt,q1];exact WL.to (step (by rw[hf,c1,c2,hz];rfl)) (by simp) rfl λx e J' hh=>hh
  .obtain⟨q,hq⟩:∃q,u.parts[i-1]?=some q:=⟨_,aH (by omega)⟩;have d2:=bd (f:=Prt.enc) (w:=2) (λ_=>rfl) hq;have w1:=cb (n:=(i:Int)-1);have⟨e1,q1,q2,q3⟩:((i:Int)-1).toNat=i-1/\0<i/\1<=(i:Int)/\(i:Int)-1<u.parts.length:=by omega
   have hla:kY u.parts i=q.kS:=by
    obtain⟨m,rfl⟩:∃m,i=m+1:=⟨i-1,by omega⟩;simp at hq;simp[kY,hq]
   rw[hla,c1,c2]at hf;by_cases c3:p.kS<=q.kS
   .have c3':¬q.kS<p.kS:=by omega
    simp[h1,h2,h4,c1,c2,dt,d2,w1,e1,q1,q2,q3,c3'];refine WL.to (step (by simp[hf,c3])) (by simp) rfl λx e J' hh=>by simpa using hh
   .have c3':q.kS<p.kS:=by omega
    simp[h1,h2,c1,c2,dt,d2,w1,e1,q1,q2,q3,c3'];exact⟨i,h1,by simp[hf,c3,hz]⟩
theorem TW{u:pf}(hl:u.parts.length<=1000000):Cl 106 [.agg u.enc] (.bool u.ok) J:=by
 refine au ?_;simp;refine WL.to (Sr hl u.parts.length 0 (by omega)) (by simp) rfl ?_;rintro x e J' ⟨rfl,⟨rfl,g1,h⟩ | ⟨rfl,g2,j,hj,h⟩⟩
 .have hu:u.ok=true↔bC u.xx 0 5=true/\1<=u.parts.length/\u.parts.length<=8:=by
   rw[YJ];exact⟨λh=>h.2,λhh=>⟨λj=>h j (by omega),hh⟩⟩
  cases c1:bC u.xx 0 5
  .have:u.ok=false:=by rw[c1]at hu;simpa using hu
   simp[g1,dt,c1,this]
  by_cases c2:1<=u.parts.length
  .have c2':(1:Int)<=u.parts.length:=by omega
   by_cases c3:u.parts.length<=8
   .have:u.ok=true:=hu.2 ⟨c1,c2,c3⟩;simp[g1,dt,c1,this,c2',show(u.parts.length:Int)<=8 by omega]
   .have:u.ok=false:=by cases hk:u.ok with
     |false=>rfl
     |true=>exact absurd (hu.1 hk).2.2 c3
    simp[g1,dt,c1,this,c2',show ¬(u.parts.length:Int)<=8 by omega]
  .have:u.ok=false:=by cases hk:u.ok with
     |false=>rfl
     |true=>exact absurd (hu.1 hk).2.1 c2
   simp[g1,dt,c1,this,show ¬(1:Int)<=u.parts.length by omega]
 .have:u.ok=false:=by cases hk:u.ok with
   |false=>rfl
   |true=>have:=(YJ.1 hk).1 j hj;rw[h]at this;cases this
  simp[g2,this]
def gl(r:Bk×Int):D:=.cK [.agg (bY r.1),iI r.2]
theorem vS{n:Nat}:∀{l:List D},D.bf l=true->D.bf (l.take n)=true/\D.bf (l.drop n)=true:=by
 induction n with
 |zero=>intro l h;exact⟨rfl,h⟩
 |succ n ih =>
  intro l h;cases l with
  |nil=>exact⟨rfl,rfl⟩
  |cons d l =>
   simp only[D.bf,af]at h;exact⟨by simp only[List.take_succ_cons,D.bf,h.1,(ih h.2).1];rfl,by simpa using(ih h.2).2⟩
theorem lg{b:Bk}{e:Int}{L:Nat}{S:SK}:cF L 16 (.cK [.agg (bY b),iI e]) S=(.cK [.agg (bY b),iI e],S):=ek (by simp[D.clean,mo]) (by omega)
theorem aey{b:Bk}{e:Int}(k:Nat){α:Type}{f:α->List D}{w:Nat}(hw:∀x,(f x).length=w)(hc:∀x,D.bf (f x)=true){l:List α}{j v:Nat}{bs:List Abs.aG}(hJ:J≠[])(hj:bs[j]?=some (.cells v (fM l f))):
  cF (J.length-1) 16 (.cK [.agg ((bY b).take k ++ .sl J.length j v 0 l.length w::(bY b).drop (k+1)),iI e]) (bs::J)=(.cK [.agg ((bY b).take k++lF l f::(bY b).drop (k+1)),iI e],bs.set j .dead::J):=by
 have h1:=(vS (n:=k) (mo (b:=b))).1;have h2:=(vS (n:=k+1) (mo (b:=b))).2;have app:∀a c:List D,D.bf (a++c)=(D.bf a && D.bf c):=by
  intro a c;induction a with
  |nil=>rfl
  |cons d a ih=>simp[ih,Bool.and_assoc]
 have h3:D.bf ((bY b).take k ++ .sl J.length j v 0 l.length w::(bY b).drop (k+1))=false:=by simp[app,D.clean]
 rw[o4 (by simp[D.clean,h3]) (by omega)];simp only[jb,j9];rw[Ew h3 (by omega),DK (by omega) h1,ki (by decide) hw hc hJ hj,Kj h2 (by omega),ek rfl (by omega)]
theorem Ec{b b':Bk}{e:Int}(k:Nat){α:Type}{f:α->List D}(w:Nat)(hw:∀x,(f x).length=w)(hc:∀x,D.bf (f x)=true)(l:List α)(j v n:Nat){X cs:List D}{bs:List Abs.aG}(hJ:J≠[])(hj:bs[j]?=some (.cells v cs))(hX:X=(bY b).take k ++ .sl J.length j v 0 n w::(bY b).drop (k+1))(hn:l.length=n)(hcs:fM l f=cs)
  (hb:bY b'=(bY b).take k ++ .bT n cs::(bY b).drop (k+1)):
  ∃s,cF (J.length-1) 16 (.cK [.agg X,iI e]) (bs::J)=(.cK [.agg (bY b'),iI e],s::J):=by
 subst hX hn hcs;rw[hb];exact⟨_,aey k hw hc hJ hj⟩
theorem HP{α:Type}{f:α->List D}(l:List α)(x:α):nl f (l++[x])=.bT (l.length+1) (fM l f++f x):=by simp[nl]
theorem SH{A:List D}{u:pf}{hd:D}(hl:u.parts.length<=1000000):∀(m j:Nat),j+m=u.parts.length ->
  WL T [1,2,4,6,7] false oz [(1,.bT (u.parts.length*2+1) (hd::fM u.parts Prt.enc)),(2,.own 0 A),(4,.own 0 zS),(6,.own 0 [iI u.xx,.sl J.length 0 j 0 j 2]),(7,iI (j*2+1))] ([.cells j (fM (u.parts.take j) Prt.enc)]::J)
   (λx e J'=>x=.exit 0/\get e 2=.own 0 A/\get e 4=.own 0 zS/\get e 6=.own 0 [iI u.xx,.sl J.length 0 u.parts.length 0 u.parts.length 2]/\J'=[.cells u.parts.length (fM u.parts Prt.enc)]::J)
 |0,j,h=>by
  refine aA oz.eq_1 ?_;obtain rfl:j=u.parts.length:=by omega
  simp
 |m+1,j,h=>by
  refine aA oz.eq_1 ?_;have h1:j<u.parts.length:=by omega
  obtain⟨p,hp⟩:=gE h1;have d1:=rD (f:=Prt.enc) (w:=2) (λ_=>rfl) hp;have d2:(fM u.parts Prt.enc).drop (j*2+1)=iI p.kS::(fM u.parts Prt.enc).drop (j*2+2):=by
   have:=congrArg (List.drop 1) d1;simpa[dh]using this
  have⟨t1,t2,h2,h3,h0,h0'⟩:((j:Int)*2+1).toNat=j*2+1/\((j:Int)*2+1+1).toNat=j*2+1+1/\(j:Int)*2+1<(u.parts.length:Int)*2+1/\(j:Int)*2+1+1<(u.parts.length:Int)*2+1/\0<=(j:Int)*2+1/\0<=(j:Int)*2+1+1:=by omega
  have w1:=cb (n:=(j:Int)*2+1+1);have w2:=cb (n:=(j:Int)*2+1+2);have hl1:(u.parts.take j).length=j:=by simp;omega
  have hr:(j+1)*16<=room:=by unfold room;omega
  have ha:=G3 (u.parts.take j);rw[hl1]at ha;have ta:(fM (u.parts.take j) Prt.enc).take (j*2)=fM (u.parts.take j) Prt.enc:=ah (by omega);have ih:=SH (A:=A) (hd:=hd) hl m (j+1) (by omega);have htk:u.parts.take (j+1)=u.parts.take j++[p]:=by rw[List.take_add_one,hp];rfl
  rw[htk]at ih;have hj1:((j+1:Nat):Int)*2+1=(j:Int)*2+1+2:=by omega
  rw[hj1]at ih;simp[h2,h3,h0,h0',t1,t2,d1,d2,w1,w2,hr,ha,ta];exact WL.to ih (by simp) (by simp) λx e J' hh=>hh
theorem Zz{b:Bk}{u:pf}(hl:u.parts.length<=1000000)(hb:b.cI.length<=1000000)(hJ:J≠[]):Cl 69 [.agg (bY b),.bT (u.parts.length*2+1) (iI u.xx::fM u.parts Prt.enc)] (gl (tE b u)) J:=by
 refine au ?_;have hn:=mJ (f:=pf.enc) b.cI;have hc:=mo (b:=b);by_cases h1:b.cI.length<10
 case neg =>
  have h1':(10:Int)<=b.cI.length:=by omega
  simp[bY,hn,h1',tE,h1,gl];exact⟨_,lg⟩
 have h1':¬(10:Int)<=b.cI.length:=by omega
 have hL:=SH (J:=J) (A:=bY b) (u:=u) (hd:=iI u.xx) hl u.parts.length 0 (by omega);have q0:(0:Int)<(u.parts.length:Int)*2+1:=by omega
 simp[bY,hn,h1',q0];refine WL.to hL (by simp[bY,zS]) (by simp) ?_;rintro x e J' ⟨rfl,g2,g4,g6,rfl⟩;have hC:=λJ=>TW (J:=J) (u:=u) hl
 simp only[pf.enc]at hC;have hf:=o9 (f:=Prt.enc) (w:=2) (λ_=>rfl) (λ_=>by simp[D.clean]) (l:=u.parts) (j:=0) (v:=u.parts.length) (bs:=[Abs.aG.cells u.parts.length (fM u.parts Prt.enc)]) (J:=J) hJ rfl;cases h2:u.ok
 .rw[h2]at hC;simp[g2,g4,g6,hf,hC,eS,eH,CQ,xV,tE,h1,h2,gl];exact⟨_,lg⟩
 .rw[h2]at hC;have l1:=Jm b.cI;have l2:(fM b.cI pf.enc).take (b.cI.length*2)=fM b.cI pf.enc:=ah (by omega);have⟨r1,r2,r3⟩:b.cI.length*32<=room/\(b.cI.length+1)*32<=room/\32<=room:=by unfold room;omega
  by_cases hm:b.cI=[]
  .simp[g2,g4,g6,hf,hC,bY,zS,tE,h2,gl,hm,FW,r3];exact Ec (b:=b) (b':=IS b u) 16 2 (λ_=>rfl) adp [u] 1 0 1 hJ rfl rfl rfl (by simp) (by simp[bY,IS,hm,nl])
  .have e1:=jS (f:=pf.enc) hm;simp[g2,g4,g6,hf,hC,bY,zS,tE,h1,h2,gl,hm,e1,l1,l2,r1,r2];exact Ec (b:=b) (b':=IS b u) 16 2 (λ_=>rfl) adp (b.cI++[u]) 1 1 (b.cI.length+1) hJ rfl rfl (by simp) (by simp) (by simp[bY,IS,HP])
end Go.Proofs.YtpapbbojmclkgaaGreatDoor
