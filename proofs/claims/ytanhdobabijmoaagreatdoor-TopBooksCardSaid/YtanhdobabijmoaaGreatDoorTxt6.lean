import Derived.Test.YtanhdobabijmoaaGreatDoorTxt5
set_option linter.all false
set_option maxRecDepth 100000
namespace Go.Proofs.YtanhdobabijmoaaGreatDoor
open List(length_flatMap map_take)
section
open Go Go.aA Go.aI Go.dk
variable {J:SK}
def Vr(b:Bk)(w price:Int)(ws:List Int):Bk:={b with l9:=b.l9++[⟨b.aD.length,w,NS ws,NQ ws,NS ws*price,NQ ws*price⟩] }
def L7(b:Bk)(w lv u price:Int):Bool:=cj w 0 ((b.bz.an.length:Int)-1) && (cj lv 0 ((b.bz.cn.length:Int)-1) && (cj u 0 ((b.ew.length:Int)-1) && cj price 0 1000))
def Hy(b:Bk)(w lv u:Int):Int:=cQ (λe=>CO b w.toNat lv.toNat u.toNat e.m) (cm b.aj)
def Vt(b:Bk)(w lv u:Int):List Int:=(cm b.aj).map λe=>yO b w.toNat lv.toNat u.toNat e.m
def yp(b:Bk)(w lv u price:Int):Bk×Int :=
 if cm b.aj=[]\/b.aD=[]then(b,8)else if L7 b w lv u price=true then(if Hy b w lv u=0 then(Vr b w price (Vt b w lv u),0)else(b,Hy b w lv u))else(b,2)
theorem Yh(l:List SQ):(l.flatMap SQ.enc).length=l.length*6:=bK (f:=SQ.enc) (w:=6) (λ_=>rfl) l
theorem GI{c d:Int}:∀{l:List Int} {a:Int},(c<=a/\a<=d)->(∀x∈l,c<=x/\x<=d)->c<=l.foldl min a/\l.foldl min a<=d
 |[],a,h,_=>h
 |x::l,a,h,hl=>by
  have h1:=hl x (by simp);exact GI (l:=l) (a:=min a x) (by omega) λy hy=>hl y (by simp[hy])
theorem GH{c d:Int}:∀{l:List Int} {a:Int},(c<=a/\a<=d)->(∀x∈l,c<=x/\x<=d)->c<=l.foldl max a/\l.foldl max a<=d
 |[],a,h,_=>h
 |x::l,a,h,hl=>by
  have h1:=hl x (by simp);exact GH (l:=l) (a:=max a x) (by omega) λy hy=>hl y (by simp[hy])
theorem adT{c d:Int}{l:List Int}(h0:c<=0/\0<=d)(hl:∀x∈l,c<=x/\x<=d):(c<=NS l/\NS l<=d)/\(c<=NQ l/\NQ l<=d):=by
 cases l with
 |nil=>exact⟨h0,h0⟩
 |cons x l=>exact⟨GI (hl x (by simp)) λy hy=>hl y (by simp[hy]),GH (hl x (by simp)) λy hy=>hl y (by simp[hy])⟩
theorem Yi{b:Bk}{w lv u:Nat}{m:bE}(hu:u<b.ew.length)(huk:∀x∈b.ew,x.ok=true)(hE:CO b w lv u m=0):0<=yO b w lv u m/\yO b w lv u m<=1000000000:=by
 have hun:b.ew[u]?=some (CP b u):=by simp[CP,hu]
 have hok:=huk _ (ai hun);simp only[yY.ok,ae,bk]at hok;have hs:=Cw (by omega) hok.2.2;unfold CO at hE;unfold yO;cases hr:aI.run b.bz m b.aD with
 |none=>simp
 |some r =>
  rw[hr]at hE;simp only at hE ⊢;split at hE
  .unfold M5 at hE;split at hE
   .rename_i hv;simp only[zN.valid,ae,bk]at hv;have:=Pm hs hv.1.1;omega
   .cases hE
  .cases hE
theorem Wv{F:List aA.aO}{b:Bk}{er:List Int}{nm:List UInt8}{w lv u price:Int}{b':Bk}{e:Int}(ht:jV b.bz.cn=true)(hml:b.aj.length<=40)(hok:∀e∈b.aj,Ok b.bz [e.m] b.aD)(hrun:∀e∈b.aj,e.left=true->∃r,aI.run b.bz e.m b.aD=some r)(huk:∀x∈b.ew,x.ok=true)(hul:b.ew.length<=10)(hwl:b.bz.an.length<=1000000)(hsl:b.l9.length<=1000000)(hd:yp b w lv u price=(b',e))(he:e=0):
  lim T (.call false 107 [.ref J.length 6 0 0,.str nm,.aJ 4 [.int .i64 w,.int .i64 lv,.int .i64 u,.int .i64 price]] (F::b.bB J.length er::J))=some (.val (.db []) (F::b'.bB J.length er::J)):=by
 refine dN xm j7.eq_1 rfl (by simp) ?_;unfold yp at hd;split at hd
 case isTrue=>cases hd;cases he
 rename_i c1;split at hd
 case isFalse=>cases hd;cases he
 rename_i c2;split at hd
 case isFalse=>cases hd;rename_i h;exact absurd he h
 rename_i c3;cases hd;have htl:b.bz.cn.length<=20:=by
  simp only[jV,ae]at ht;have:=bk.1 ht.1;omega
 have c1a:cm b.aj≠[]:=λh=>c1 (.inl h)
 have c1b:b.aD≠[]:=λh=>c1 (.inr h)
 have q1:0<(cm b.aj).length:=aN.2 c1a;have q2:0<b.aD.length:=aN.2 c1b;have hLf:=λS=>FH (J:=J) (b:=b) (er:=er) (S:=S) (by omega)
 simp only[Bk.bB,Bk.cells]at hLf;have hc2:=c2;simp only[L7,ae]at hc2;obtain⟨k1,k2,k3,k4⟩:=hc2;have i1:=bk.1 k1;have i2:=bk.1 k2;have i3:=bk.1 k3;have i4:=bk.1 k4;obtain⟨w,rfl⟩:∃n:Nat,w=n:=⟨w.toNat,by omega⟩;obtain⟨lv,rfl⟩:∃n:Nat,lv=n:=⟨lv.toNat,by omega⟩;obtain⟨u,rfl⟩:∃n:Nat,u=n:=⟨u.toNat,by omega⟩;simp only[Hy,Vt,Int.toNat_natCast]at c3 ⊢;have w1:IntKind.i64.wrap ((b.bz.an.length:Int)-1)=b.bz.an.length-1:=eQ;have w2:IntKind.i64.wrap ((b.bz.cn.length:Int)-1)=b.bz.cn.length-1:=eQ;have w3:IntKind.i64.wrap ((b.ew.length:Int)-1)=b.ew.length-1:=eQ;have hL:=OP (J:=J) (F:=F) (er:=er) (ls:=cm b.aj) (w:=w) (lv:=lv) (u:=u) (price:=price) ht (λe he=>hok e (cX.1 he).1) (λe he=>hrun e (cX.1 he).1 (cX.1 he).2) c1b (by have:=iI (λe:fK=>e.left) b.aj;simp only[cm];omega) (by omega) (by omega) (by omega) huk (cm b.aj).length 0 [] (by omega) rfl;rw[aP]at hL;simp[-length_flatMap,-map_take,Bk.bB,Bk.cells,hLf,q1,q2,cr,eA,w1,w2,w3,k1,k2,k3,k4];refine WL.to hL (by simp) (by simp[Bk.bB,Bk.cells]) ?_;intro x e J' hq;simp only[Ft,if_pos c3,List.nil_append]at hq;obtain⟨rfl,g0,g7,g10,g11,rfl⟩:=hq;have hbs:∀x∈(cm b.aj).map (λe=>yO b w lv u e.m),0<=x/\x<=1000000000:=by
  intro x hx;simp only[bN]at hx;obtain⟨e,he,rfl⟩:=hx;exact Yi (by omega) huk (wQ c3 e he)
 have hwl2:((cm b.aj).map (λe=>yO b w lv u e.m)).length=(cm b.aj).length:=by simp
 have hlm:(cm b.aj).length<=40:=by have:=iI (λe:fK=>e.left) b.aj;simp only[cm];omega
 generalize hws:(cm b.aj).map (λe=>yO b w lv u e.m)=ws at *
 have hwne:ws≠[]:=by intro hh;rw[hh]at hwl2;simp at hwl2;omega
 obtain⟨⟨m1,m2⟩,m3,m4⟩:=adT (by omega) hbs;have hSp:=λJ=>ZT (J:=J) hwne (by omega)
 generalize hlo:NS ws=lo at *
 generalize hhi:NQ ws=hi at *
 have p1:0<=lo*price:=cZ m1 i4.1;have p2:lo*price<=1000000000*1000:=kO m2 i4.2 i4.1 (by omega);have p3:0<=hi*price:=cZ m3 i4.1;have p4:hi*price<=1000000000*1000:=kO m4 i4.2 i4.1 (by omega);have w4:IntKind.i64.wrap (lo*price)=lo*price:=eQ;have w5:IntKind.i64.wrap (hi*price)=hi*price:=eQ;have hfr:∀S:SK,S.length=J.length+1+1->cC 0 16 (.sl (J.length+1+1) 0 ws.length 0 ws.length 1) ([.cells ws.length (ws.flatMap aM)]::S)=(.aJ ws.length (ws.flatMap aM),[.dead]::S):=by
  intro S hS;have:=DL (f:=aM) (w:=1) (λ_=>rfl) (λ_=>by simp[D.clean]) (l:=ws) (j:=0) (v:=ws.length) (bs:=[aA.aO.cells ws.length (ws.flatMap aM)]) (J:=S) (by intro h;subst h;simp at hS) (by simp);rw[hS]at this;simpa using this
 have r2:(b.l9.length+1)*48<=room:=by unfold room;omega
 have r3:=Yh b.l9;have r4:(b.l9.flatMap SQ.enc).take (b.l9.length*6)=b.l9.flatMap SQ.enc:=af (by omega);simp[-length_flatMap,-map_take,g0,g7,g10,g11,hfr,hSp,Bk.bB,Bk.cells,w4,w5,r2,r3,r4,Vr,bh,hlo,hhi]
theorem Tv{F:List aA.aO}{b:Bk}{er:List Int}{nm:List UInt8}{w lv u price:Int}{b':Bk}{e:Int}(ht:cm b.aj≠[]->jV b.bz.cn=true)(hml:b.aj.length<=40)(hok:∀e∈b.aj,Ok b.bz [e.m] b.aD)(hrun:∀e∈b.aj,e.left=true->∃r,aI.run b.bz e.m b.aD=some r)(huk:∀x∈b.ew,x.ok=true)(hul:b.ew.length<=10)(hwl:b.bz.an.length<=1000000)(hsl:b.l9.length<=1000000)(hd:yp b w lv u price=(b',e))(he:e≠0):
  lim T (.call false 107 [.ref J.length 6 0 0,.str nm,.aJ 4 [.int .i64 w,.int .i64 lv,.int .i64 u,.int .i64 price]] (F::b.bB J.length er::J))=some (.fp (rf e) (F::b.bB J.length er::J)):=by
 refine dM xm j7.eq_1 rfl ?_;have hLf:=λS=>FH (J:=J) (b:=b) (er:=er) (S:=S) (by omega)
 simp only[Bk.bB,Bk.cells]at hLf;unfold yp at hd;split at hd
 case isTrue c1 =>
  cases hd;by_cases c1a:cm b.aj=[]
  .simp[-length_flatMap,-map_take,Bk.bB,Bk.cells,hLf,c1a,dq,D.clean,rf]
  .have q1:0<(cm b.aj).length:=aN.2 c1a;have c1b:b.aD=[]:=c1.resolve_left c1a;simp[-length_flatMap,-map_take,Bk.bB,Bk.cells,hLf,q1,c1b,dq,D.clean,rf]
 rename_i c1;have c1a:cm b.aj≠[]:=λh=>c1 (.inl h)
 have c1b:b.aD≠[]:=λh=>c1 (.inr h)
 have ht:=ht c1a;have htl:b.bz.cn.length<=20:=by
  simp only[jV,ae]at ht;have:=bk.1 ht.1;omega
 have q1:0<(cm b.aj).length:=aN.2 c1a;have q2:0<b.aD.length:=aN.2 c1b;have w1:IntKind.i64.wrap ((b.bz.an.length:Int)-1)=b.bz.an.length-1:=eQ;have w2:IntKind.i64.wrap ((b.bz.cn.length:Int)-1)=b.bz.cn.length-1:=eQ;have w3:IntKind.i64.wrap ((b.ew.length:Int)-1)=b.ew.length-1:=eQ;split at hd
 case isFalse c2 =>
  cases hd;simp only[L7]at c2;cases k1:cj w 0 ((b.bz.an.length:Int)-1)
  .simp[-length_flatMap,-map_take,Bk.bB,Bk.cells,hLf,q1,q2,cr,eA,w1,w2,w3,k1,dq,D.clean,rf]
  cases k2:cj lv 0 ((b.bz.cn.length:Int)-1)
  .simp[-length_flatMap,-map_take,Bk.bB,Bk.cells,hLf,q1,q2,cr,eA,w1,w2,w3,k1,k2,dq,D.clean,rf]
  cases k3:cj u 0 ((b.ew.length:Int)-1)
  .simp[-length_flatMap,-map_take,Bk.bB,Bk.cells,hLf,q1,q2,cr,eA,w1,w2,w3,k1,k2,k3,dq,D.clean,rf]
  cases k4:cj price 0 1000
  .simp[-length_flatMap,-map_take,Bk.bB,Bk.cells,hLf,q1,q2,cr,eA,w1,w2,w3,k1,k2,k3,k4,dq,D.clean,rf]
  .exact absurd (by simp[k1,k2,k3,k4]) c2
 rename_i c2;split at hd
 case isTrue=>cases hd;exact absurd rfl he
 rename_i c3;cases hd;have hc2:=c2;simp only[L7,ae]at hc2;obtain⟨k1,k2,k3,k4⟩:=hc2;have i1:=bk.1 k1;have i2:=bk.1 k2;have i3:=bk.1 k3;obtain⟨w,rfl⟩:∃n:Nat,w=n:=⟨w.toNat,by omega⟩;obtain⟨lv,rfl⟩:∃n:Nat,lv=n:=⟨lv.toNat,by omega⟩;obtain⟨u,rfl⟩:∃n:Nat,u=n:=⟨u.toNat,by omega⟩;simp only[Hy,Int.toNat_natCast]at c3 ⊢;have hL:=OP (J:=J) (F:=F) (er:=er) (ls:=cm b.aj) (w:=w) (lv:=lv) (u:=u) (price:=price) ht (λe he=>hok e (cX.1 he).1) (λe he=>hrun e (cX.1 he).1 (cX.1 he).2) c1b (by have:=iI (λe:fK=>e.left) b.aj;simp only[cm];omega) (by omega) (by omega) (by omega) huk (cm b.aj).length 0 [] (by omega) rfl;rw[aP]at hL;simp[-length_flatMap,-map_take,Bk.bB,Bk.cells,hLf,q1,q2,cr,eA,w1,w2,w3,k1,k2,k3,k4];refine WL.to hL (by simp) (by simp[Bk.bB,Bk.cells]) ?_;intro x e J' hq;simp only[Ft,if_neg c3]at hq;obtain⟨rfl,s,rfl⟩:=hq;simp[Bk.bB,Bk.cells,D.clean,rf]
def R5:List Int->List Rw
 |a::b::c::d::e::l=>⟨a,b,c,d,e⟩::R5 l
 |_=>[]
def R4:List Int->List bW.xC
 |a::b::c::d::l=>⟨⟨a,b,c⟩,d⟩::R4 l
 |_=>[]
def yV:List Int->List (Int×Int)
 |a::b::l=>(a,b)::yV l
 |_=>[]
theorem QE:∀(m:Nat) {l:List Int},l.length=m*5->(R5 l).flatMap Rw.enc=l.flatMap aM/\(R5 l).length=m
 |0,l,h=>by
  have:l=[]:=bw.1 (by omega);subst this;exact⟨rfl,rfl⟩
 |m+1,l,h=>by
  match l,h with
  |a::b::c::d::e::l,h =>
   have ih:=QE m (l:=l) (by simp at h;omega);simp[R5,ih.1,ih.2,aM]
  |[],h=>simp at h
  |[_],h=>simp at h;omega
  |[_,_],h=>simp at h;omega
  |[_,_,_],h=>simp at h;omega
  |[_,_,_,_],h=>simp at h;omega
theorem QD:∀(m:Nat) {l:List Int},l.length=m*4->(R4 l).flatMap bW.xC.enc=l.flatMap aM/\(R4 l).length=m
 |0,l,h=>by
  have:l=[]:=bw.1 (by omega);subst this;exact⟨rfl,rfl⟩
 |m+1,l,h=>by
  match l,h with
  |a::b::c::d::l,h =>
   have ih:=QD m (l:=l) (by simp at h;omega);simp[R4,ih.1,ih.2,aM]
  |[],h=>simp at h
  |[_],h=>simp at h;omega
  |[_,_],h=>simp at h;omega
  |[_,_,_],h=>simp at h;omega
theorem Ht:∀(m:Nat) {l:List Int},l.length=m*2->(yV l).flatMap vg=l.flatMap aM/\(yV l).length=m
 |0,l,h=>by
  have:l=[]:=bw.1 (by omega);subst this;exact⟨rfl,rfl⟩
 |m+1,l,h=>by
  match l,h with
  |a::b::l,h =>
   have ih:=Ht m (l:=l) (by simp at h;omega);simp[yV,ih.1,ih.2,aM,vg]
  |[],h=>simp at h
  |[_],h=>simp at h;omega
def Ol(p:Int×Int):Prt:=⟨p.1,p.2⟩
theorem X2(l:List (Int×Int)):(l.map Ol).flatMap Prt.enc=l.flatMap vg:=by
 induction l with
 |nil=>rfl
 |cons p l ih=>simp only[aR,aS,ih];rfl
def Vj:List Int->bW.dP
 |[x0,x1,x2,x3,x4,x5,x6,x7,x8,x9]=>⟨⟨x0,x1,x2⟩,⟨x3,x4,x5⟩,x6,x7,x8,x9⟩
 |_=>⟨⟨0,0,0⟩,⟨0,0,0⟩,0,0,0,0⟩
def oR(b:Bk)(k:Nat)(nm:List UInt8)(l:List Int):Bk×Int :=
 match k with
 |0=>match l with
  |[x,y,z,k]=>xG b x y z k
  |_=>(b,4)
 |1=>xI b (R5 l)
 |2=>match l with
  |[x,y,z]=>EW b x y z
  |_=>(b,4)
 |3=>match l with
  |[x,y,z]=>yr b x y z
  |_=>(b,4)
 |4=>za b ⟨nm,l⟩
 |5=>match l with
  |k::lo::hi::r=>DI b (jH nm k lo hi (yV r))
  |_=>(b,4)
 |6=>Bc b (Vj l) (Vj l).RO
 |7=>match l with
  |[x,y,z]=>if bW.sc x y z=true then(NC b x y z,0)else(b,1)
  |_=>(b,4)
 |8=>xH b (R4 l)
 |9=>yq b l
 |10=>match l with
  |[w,i,lo,hi]=>yo b ⟨b.aD.length,w,i,lo,hi⟩
  |_=>(b,4)
 |11=>match l with
  |i::r=>Be b ⟨i,(yV r).map Ol⟩
  |_=>(b,4)
 |12=>match l with
  |[w,lv,u,p]=>yp b w lv u p
  |_=>(b,4)
 |_=>(b,4)
def qT(b:Bk)(n:Int)(s:List UInt8):Bk×Int:=match parse s with
 |some (w,nm,l)=>oR {b with at_:=n } w.k nm l
 |none=>(b,4)
structure Kv(n:Nat)(b:Bk):Prop where
 cn:b.bz.cn=[]\/jV b.bz.cn=true
 ready:b.ready=true->b.bz.valid=true
 an:b.ready=false->b.bz.an=[]
 ms:b.aj≠[]->b.ready=true
 ml:b.aj.length<=40
 wl:b.kN.length=b.aj.length
 fit:∀e∈b.aj,Bd b.bz e.m=true/\e.m.name.length<=1000000/\e.m.aU.length<=1000000
 pm:b.aD≠[]->b.aj≠[]
 pl:xu b.bz b.aD=0
 CL:∀e∈b.aj,e.left=true->∃r,aI.run b.bz e.m b.aD=some r
 rules:b.rules.length<=20
 Al:b.Al.length<=200
 Ob:∀e∈b.Al,e.ok=true
 keep:bW.sc b.k0 b.k1 b.k2=true
 ew:b.ew.length<=10
 uok:∀u∈b.ew,u.ok=true
 l9:b.l9.length<=n
theorem YC{t:List Rw}(h:t=[]\/jV t=true):t.length<=20:=by
 rcases h with rfl | h
 .simp
 .simp only[jV,ae]at h;have:=bk.1 h.1;omega
theorem Ey{t:List Rw}(h:jV t=true):t≠[]:=by
 intro hh;subst hh;simp[jV,cj]at h
theorem CG{s:List UInt8}{w:Wd}{nm:List UInt8}{l:List Int}(h:parse s=some (w,nm,l)):(∃a,yS a=some w)/\F6 w l.length=true/\nm.length<=s.length/\l.length<=s.length+1:=by
 have hlen:=BA 32 s;have hle:=Fw 32 s;unfold parse at h;cases hsp:bQ 32 s with
 |nil=>exact absurd hsp (vP 32 s)
 |cons a all =>
 rw[hsp]at h hlen hle;simp only[av]at hlen;simp only at h;cases hw:yS a with
 |none=>rw[hw]at h;cases h
 |some w0 =>
 rw[hw]at h;simp only at h;have key:∀nm0 (l0:List (List UInt8)),vd w0 nm0 l0=some (w,nm,l)->w0=w/\nm0=nm/\F6 w l.length=true/\l.length=l0.length:=by
  intro nm0 l0 hp;unfold vd at hp;cases hm:oN l0 with
  |none=>rw[hm]at hp;cases hp
  |some ns =>
   rw[hm]at hp;simp only[aB,ad,ak]at hp;obtain⟨hf,rfl,rfl,rfl⟩:=hp;exact⟨rfl,rfl,hf,Ax hm⟩
 split at h
 .cases all with
  |nil=>cases h
  |cons n r =>
   obtain⟨rfl,rfl,h3,h4⟩:=key n r h;refine⟨⟨a,hw⟩,h3,hle n (by simp),?_⟩;simp at hlen;omega
 .obtain⟨rfl,rfl,h3,h4⟩:=key [] all h;exact⟨⟨a,hw⟩,h3,by simp,by omega⟩
def doR(F:List aA.aO)(b:Bk)(er:List Int)(J:SK)(r:Bk×Int):R:=if r.2=0 then .val (.db []) (F::r.1.bB J.length er::J)else .fp (rf r.2) (F::b.bB J.length er::J)
theorem vF{F:List aA.aO}{b:Bk}{er:List Int}{r:Bk×Int}{q:Q}(h1:∀b' e,r=(b',e)->e=0->lim T q=some (.val (.db []) (F::b'.bB J.length er::J)))(h2:∀b' e,r=(b',e)->e≠0->lim T q=some (.fp (rf e) (F::b.bB J.length er::J))):
  lim T q=some (doR F b er J r):=by
 obtain⟨b',e⟩:=r;unfold doR;by_cases he:e=0
 .rw[if_pos he];exact h1 b' e rfl he
 .rw[if_neg he];exact h2 b' e rfl he
theorem zZ{l:List Int}{n:Nat}(h:l.length=n+1):∃a r,l=a::r/\r.length=n:=by
 cases l with
 |nil=>simp at h
 |cons a r=>exact⟨a,r,rfl,by simpa using h⟩
theorem UA{l:List Int}(h:l.length=3):∃a0 a1 a2,l=[a0,a1,a2]:=by
 obtain⟨a0,r0,e0,h0⟩:=zZ (n:=2) h;obtain⟨a1,r1,e1,h1⟩:=zZ (n:=1) h0;obtain⟨a2,r2,e2,h2⟩:=zZ (n:=0) h1;have e:=bw.1 h2;exact⟨a0,a1,a2,by rw[e0,e1,e2,e]⟩
theorem UB{l:List Int}(h:l.length=4):∃a0 a1 a2 a3,l=[a0,a1,a2,a3]:=by
 obtain⟨a0,r0,e0,h0⟩:=zZ (n:=3) h;obtain⟨a1,r1,e1,h1⟩:=zZ (n:=2) h0;obtain⟨a2,r2,e2,h2⟩:=zZ (n:=1) h1;obtain⟨a3,r3,e3,h3⟩:=zZ (n:=0) h2;have e:=bw.1 h3;exact⟨a0,a1,a2,a3,by rw[e0,e1,e2,e3,e]⟩
theorem aaF{l:List Int}(h:l.length=10):∃a0 a1 a2 a3 a4 a5 a6 a7 a8 a9,l=[a0,a1,a2,a3,a4,a5,a6,a7,a8,a9]:=by
 obtain⟨a0,r0,e0,h0⟩:=zZ (n:=9) h;obtain⟨a1,r1,e1,h1⟩:=zZ (n:=8) h0;obtain⟨a2,r2,e2,h2⟩:=zZ (n:=7) h1;obtain⟨a3,r3,e3,h3⟩:=zZ (n:=6) h2;obtain⟨a4,r4,e4,h4⟩:=zZ (n:=5) h3;obtain⟨a5,r5,e5,h5⟩:=zZ (n:=4) h4;obtain⟨a6,r6,e6,h6⟩:=zZ (n:=3) h5;obtain⟨a7,r7,e7,h7⟩:=zZ (n:=2) h6;obtain⟨a8,r8,e8,h8⟩:=zZ (n:=1) h7;obtain⟨a9,r9,e9,h9⟩:=zZ (n:=0) h8;have e:=bw.1 h9;exact⟨a0,a1,a2,a3,a4,a5,a6,a7,a8,a9,by rw[e0,e1,e2,e3,e4,e5,e6,e7,e8,e9,e]⟩
theorem Ee{w:Wd}{n:Nat}(h:F6 w n=true)(hs:w.step=0):(n:Int)=w.least:=by
 simp only[F6,bY,ae,au]at h;omega
theorem E1{w:Wd}{n:Nat}(h:F6 w n=true)(hs:0<w.step)(hl:0<=w.least):w.least<=n/\((n:Int)-w.least)%w.step=0:=by
 simp only[F6,bY,ae,au]at h;rcases h with h | ⟨h1,h2,h3⟩
 .refine⟨by omega,?_⟩;rw[h];simp
 .refine⟨by omega,?_⟩;rwa[Int.tmod_eq_emod_of_nonneg (by omega)]at h3
theorem Ok.one{b:cp}{m:bE}{aD:List (List Int)}(hb:b.valid=true)(hf:Bd b m=true)(hp:xu b aD=0)(hn:m.name.length<=1000000000):Ok b [m] aD:=by
 have hbv:=Bv.of hb;have hfit:fits b m=true:=by simp only[Bd,ae]at hf;exact hf.2
 have hfv:=Fv.of hf;have hm:b.f.aj [m]=0:=by
  have h:=hfit;simp only[fits,ae,au]at h;have h1:=h.1;unfold ed at h1;rw[if_pos hbv.fv]at h1;exact h1
 obtain⟨p1,p2⟩:=Br hp;exact⟨hbv,hb,by simp,hm,by simpa using hfit,by simpa using hfv,by intro x hx;simp at hx;subst hx;exact⟨hn,hfv.toMv.le.2⟩,hp,p1,p2⟩
theorem IS{b:cp}{m:bE}(hb:b.valid=true)(hf:Bd b m=true):b.f.model m=0:=by
 have hfit:fits b m=true:=by simp only[Bd,ae]at hf;exact hf.2
 rw[Qv (Bv.of hb),ae,au]at hfit;exact hfit.1
theorem afG{F:List aA.aO}{b:Bk}{er:List Int}{s:List UInt8}{w:Wd}{nm:List UInt8}{l:List Int}{n:Nat}(hK:Kv n b)(hn:n<=1000000)(hp:parse s=some (w,nm,l))(hs:s.length<=4000):
  lim T (.call false ((KH[w.k]?).getD 0) [.ref J.length 6 0 0,.str nm,.aJ l.length (l.flatMap aM)] (F::b.bB J.length er::J))=some (doR F b er J (oR b w.k nm l)):=by
 obtain⟨⟨a,ha⟩,hfit,hnm,hll⟩:=CG hp;have htl:=YC hK.cn;have hv:b.ready=true->Bv b.bz:=λh=>Bv.of (hK.ready h)
 have hrt:b.ready=true->jV b.bz.cn=true:=λh=>(hv h).cn
 have hwl:b.bz.an.length<=8:=by
  cases hr:b.ready with
  |true=>exact(hv hr).an
  |false=>rw[hK.an hr];simp
 have hmr:b.aj≠[]->jV b.bz.cn=true:=λh=>hrt (hK.ms h)
 have hlm:cm b.aj≠[]->b.aj≠[]:=λh hh=>h (by rw[hh];rfl)
 have hz:Sz b:=⟨by omega,by omega,λe he=>⟨by have:=(hK.fit e he).2.1;omega,by have:=(hK.fit e he).2.2;omega⟩⟩;have hplz:=Br hK.pl;have hbv:b.aj≠[]->b.bz.valid=true:=λh=>hK.ready (hK.ms h)
 have hne:∀e∈b.aj,b.aj≠[]:=λe he hh=>by rw[hh]at he;cases he
 have hok:∀e∈b.aj,Ok b.bz [e.m] b.aD:=λe he=>Ok.one (hbv (hne e he)) (hK.fit e he).1 hK.pl (hz.ms e he).1
 have hfm:∀e∈b.aj,b.bz.f.model e.m=0:=λe he=>IS (hbv (hne e he)) (hK.fit e he).1
 have hsp:∀e∈b.Al,e.sp.length<=1000000:=λe he=>by
  have:=hK.Ob e he;simp only[bW.Ev.ok,ae]at this;have:=bW.bk.1 this.2.1;omega
 have h1:=CZ ha;simp only[oP,aY,ak,List.not_mem_nil,or_false]at h1;rcases h1 with⟨_,rfl⟩ | ⟨_,rfl⟩ | ⟨_,rfl⟩ | ⟨_,rfl⟩ | ⟨_,rfl⟩ | ⟨_,rfl⟩ | ⟨_,rfl⟩ | ⟨_,rfl⟩ | ⟨_,rfl⟩ | ⟨_,rfl⟩ | ⟨_,rfl⟩ | ⟨_,rfl⟩ | ⟨_,rfl⟩
 .have hl:l.length=4:=by
   have h:(l.length:Int)=4:=Ee hfit rfl;omega
  obtain⟨x,y,z,k,rfl⟩:=UB hl;exact vF (λb' e hd he=>Wa hd he) (λb' e hd he=>Ro hd he)
 .have hl:=(E1 hfit (by decide) (by decide)).2;simp only[Int.sub_zero]at hl;obtain⟨h5,h6⟩:=QE (l.length / 5) (l:=l) (by omega);have hlen:(R5 l).length*5=l.length:=by omega
  rw[<- h5,<- hlen];exact vF (λb' e hd he=>Ww (by omega) hd he) (λb' e hd he=>RB (by omega) hd he)
 .have hl:l.length=3:=by
   have h:(l.length:Int)=3:=Ee hfit rfl;omega
  obtain⟨x,y,z,rfl⟩:=UA hl;exact vF (λb' e hd he=>ZF (by omega) (by omega) hd he) (λb' e hd he=>S5 (by omega) (by omega) hd he)
 .have hl:l.length=3:=by
   have h:(l.length:Int)=3:=Ee hfit rfl;omega
  obtain⟨x,y,z,rfl⟩:=UA hl;refine vF (λb' e hd he=>?_) (λb' e hd he=>TA (λh=>Ey (hrt h)) (by omega) (by omega) hd he);have hr:b.ready=true:=by
   have hd2:yr b x y z=(b',e):=hd;unfold yr at hd2;split at hd2
   .rename_i h;exact h.1
   .cases hd2;cases he
  exact ZZ (Ey (hrt hr)) (by omega) (by omega) hd he
 .exact vF (λb' e hd he=>Tg (m:=⟨nm,l⟩) (by omega) (by omega) (by simp;omega) (by simp;omega) hK.wl hd he) (λb' e hd he=>Rq (m:=⟨nm,l⟩) (by omega) (by omega) (by simp;omega) (by simp;omega) hK.ml hd he)
 .obtain⟨hl1,hl2⟩:=E1 hfit (by decide) (by decide);simp only at hl1 hl2;obtain⟨k,l,rfl,hl⟩:=zZ (n:=l.length-1) (l:=l) (by omega);simp only[av]at hl1 hl2 hll;obtain⟨lo,l,rfl,hl⟩:=zZ (n:=l.length-1) (l:=l) (by omega);simp only[av]at hl1 hl2 hll;obtain⟨hi,l,rfl,hl⟩:=zZ (n:=l.length-1) (l:=l) (by omega);simp only[av]at hl1 hl2 hll;obtain⟨h5,h6⟩:=Ht (l.length / 2) (l:=l) (by omega);have hlen:(yV l).length*2+3=l.length+1+1+1:=by omega
  simp only[aS,av,aM,cf];rw[<- h5,<- hlen];refine vF (λb' e hd he=>ZO (by omega) (by omega) hK.wl hK.ml (λe he=>⟨hfm e he,hz.ms e he⟩) hd he) (λb' e hd he=>Wj (by omega) (by omega) hd he)
 .have hl:l.length=10:=by
   have h:(l.length:Int)=10:=Ee hfit rfl;omega
  obtain⟨x0,x1,x2,x3,x4,x5,x6,x7,x8,x9,rfl⟩:=aaF hl;exact vF (λb' e hd he=>ZQ hd he) (λb' e hd he=>Tr hd he)
 .have hl:l.length=3:=by
   have h:(l.length:Int)=3:=Ee hfit rfl;omega
  obtain⟨x,y,z,rfl⟩:=UA hl;refine vF (λb' e hd he=>?_) (λb' e hd he=>?_)
  .have hd2:(if bW.sc x y z=true then(NC b x y z,0)else(b,1))=(b',e):=hd;split at hd2
   .rename_i h;cases hd2;exact ZL h
   .cases hd2;cases he
  .have hd2:(if bW.sc x y z=true then(NC b x y z,0)else(b,1))=(b',e):=hd;split at hd2
   .cases hd2;exact absurd rfl he
   .rename_i h;cases hd2;exact Tc (by simpa using h)
 .have hl:=(E1 hfit (by decide) (by decide)).2;simp only[Int.sub_zero]at hl;obtain⟨h5,h6⟩:=QD (l.length / 4) (l:=l) (by omega);have hlen:(R4 l).length*4=l.length:=by omega
  rw[<- h5,<- hlen];exact vF (λb' e hd he=>Wn (by omega) hd he) (λb' e hd he=>Ru (by omega) hd he)
 .have hpl:∀r∈b.aD,r.length<=1000000000:=λr hr=>by have:=(hplz.2 r hr).len;omega
  refine vF (λb' e hd he=>?_) (λb' e hd he=>Tw (λh=>Ey (hmr (hlm h))) hz (by omega) hK.ml (by have:=hK.rules;omega) (by have:=hK.Al;omega) hsp hK.keep hpl hd he);have hr:cm b.aj≠[]:=by
   have hd2:yq b l=(b',e):=hd;unfold yq at hd2;split at hd2
   .cases hd2;cases he
   .rename_i h;exact h
  exact Wx (Ey (hmr (hlm hr))) hz (by omega) hK.ml (by have:=hK.rules;omega) (by have:=hK.Al;omega) hsp hK.keep hpl hd he
 .have hl:l.length=4:=by
   have h:(l.length:Int)=4:=Ee hfit rfl;omega
  obtain⟨w,i,lo,hi,rfl⟩:=UB hl;refine vF (λb' e hd he=>?_) (λb' e hd he=>Tm (λh=>Ey (hmr (hlm h))) hK.ml hok hd he);have hr:cm b.aj≠[]:=by
   have hd2:yo b ⟨b.aD.length,w,i,lo,hi⟩=(b',e):=hd;unfold yo at hd2;split at hd2
   .cases hd2;cases he
   .rename_i h;exact h
  exact Wr (Ey (hmr (hlm hr))) hK.wl hK.ml hok hK.CL hd he
 .obtain⟨hl1,hl2⟩:=E1 hfit (by decide) (by decide);simp only at hl1 hl2;obtain⟨i,l,rfl,hl⟩:=zZ (n:=l.length-1) (l:=l) (by omega);simp only[av]at hl1 hl2 hll;obtain⟨h5,h6⟩:=Ht (l.length / 2) (l:=l) (by omega);have hlen:((yV l).map Ol).length*2+1=l.length+1:=by simp;omega
  simp only[aS,av,aM,cf];rw[<- h5,<- hlen,<- X2];exact vF (λb' e hd he=>ZW (u:=⟨i,(yV l).map Ol⟩) (by simp;omega) hd he) (λb' e hd he=>Tx (u:=⟨i,(yV l).map Ol⟩) (by simp;omega) hd he)
 .have hl:l.length=4:=by
   have h:(l.length:Int)=4:=Ee hfit rfl;omega
  obtain⟨w,i,lo,hi,rfl⟩:=UB hl;refine vF (λb' e hd he=>?_) (λb' e hd he=>Tv (λh=>hmr (hlm h)) hK.ml hok hK.CL hK.uok hK.ew (by omega) (by have:=hK.l9;omega) hd he);have hr:cm b.aj≠[]:=by
   have hd2:yp b w i lo hi=(b',e):=hd;unfold yp at hd2;split at hd2
   .cases hd2;cases he
   .rename_i h;exact λhh=>h (.inl hh)
  exact Wv (hmr (hlm hr)) hK.ml hok hK.CL hK.uok hK.ew (by omega) (by have:=hK.l9;omega) hd he
end
section
open Go Go.aA Go.aI Go.dk
theorem Kv.le{n m:Nat}{b:Bk}(h:Kv n b)(hn:n<=m):Kv m b:={h with l9:=gz h.l9 hn }
theorem Kv.zero:Kv 0 ma:=by
 refine⟨.inl rfl,by simp[ma],λ_=>rfl,by simp[ma],by simp[ma],rfl,by simp[ma],by simp[ma],?_,by simp[ma],by simp[ma],by simp[ma],by simp[ma],by decide,by simp[ma],by simp[ma],by simp[ma]⟩;simp[ma,xu,cQ]
theorem C9{b:cp}:xu b []=0:=by simp[xu,cQ]
theorem Lm{b:cp}(h:b.valid=true):b.cn≠[]/\¬((b.f.x=0/\b.f.y=0)/\b.f.z=0/\b.f.k=0):=by
 have hv:=Bv.of h;refine⟨Ey hv.cn,λhh=>?_⟩;have:=hv.x;omega
theorem Kv.LJ{n:Nat}{b:Bk}(h:Kv n b)(hm:b.aj=[]):b.aD=[]:=by
 by_cases hp:b.aD=[]
 .exact hp
 .exact absurd hm (h.pm hp)
theorem Kv.IU{n:Nat}{b:Bk}(h:Kv n b)(hr:b.ready=false):b.aj=[]:=by
 by_cases hp:b.aj=[]
 .exact hp
 .rw[h.ms hp]at hr;cases hr
theorem Kv.W3{n:Nat}{b:Bk}(h:Kv n b)(k:Int):Kv n {b with at_:=k }:={h with }
theorem Yg{b:cp}{m:bE}:∃r,aI.run b m []=some r:=⟨_,rfl⟩
theorem Rb{b:Bk}{lo hi:Int}{val:bE->Int}{x:fK}(h:x∈(gp b lo hi val).aj):∃e∈b.aj,x.m=e.m/\(x.left=true->e.left=true):=by
 simp only[gp,Bk.jd,List.mem_mapIdx]at h;obtain⟨i,hi,rfl⟩:=h;refine⟨b.aj[i],List.getElem_mem hi,?_⟩;rw[if_pos hi];unfold Go.dk.dc;split<;>simp
theorem Kv.Je{n:Nat}{b:Bk}(h:Kv n b){lo hi:Int}{val:bE->Int}:Kv n (gp b lo hi val):=by
 have hl:(gp b lo hi val).aj.length=b.aj.length:=Fy;have hn:(gp b lo hi val).aj=[]↔b.aj=[]:=by rw[<- bw,hl,bw]
 refine {cn:=h.cn,ready:=h.ready,an:=h.an,ms:=λhh=>h.ms (λh2=>hh (hn.2 h2)),ml:=by rw[hl];exact h.ml,wl:=by rw[hl,<- h.wl];exact Fz,fit:=λx hx=>?_,pm:=λhh h2=>h.pm hh (hn.1 h2),pl:=h.pl,CL:=λx hx hxl=>?_,rules:=h.rules,Al:=h.Al,Ob:=h.Ob,keep:=h.keep,ew:=h.ew,uok:=h.uok,l9:=h.l9 }
 .obtain⟨e,he,h1,_⟩:=Rb hx;rw[h1];exact h.fit e he
 .obtain⟨e,he,h1,h2⟩:=Rb hx;rw[h1];exact h.CL e he (h2 hxl)
theorem NL{l:List fK}{e:fK}(h:e∈cm l):e∈l/\e.left=true:=cX.1 h
theorem Kv.word{n:Nat}{b:Bk}(h:Kv n b){s:List UInt8}{w:Wd}{nm:List UInt8}{l:List Int}(hp:parse s=some (w,nm,l))(hs:s.length<=4000):Kv (n+1) (oR b w.k nm l).1:=by
 obtain⟨_,_,hnm,hll⟩:=CG hp;have h1:=h.le (Nat.le_succ n);generalize w.k=k;unfold oR;split
 ·
  split
  .unfold xG;split
   .rename_i hz;split
    .have hr:b.ready=false:=by
      cases hr:b.ready with
      |false=>rfl
      |true=>exact absurd hz (Lm (h.ready hr)).2
     have hm:=h.IU hr;have hpl:=h.LJ hm;have hno:∀e,e∈b.aj->False:=by rw[hm];simp
     exact {h1 with cn:=h.cn,ready:=λhh=>(by rw[show b.ready=true from hh]at hr;cases hr),an:=h.an,fit:=λe he=>(hno e he).elim,pl:=by simp only[hpl];exact C9,CL:=λe he=>(hno e he).elim }
    .exact h1
   .exact h1
  .exact h1
 ·
  unfold xI;split
  .rename_i hz;split
   .rename_i ht;have hr:b.ready=false:=by
     cases hr:b.ready with
     |false=>rfl
     |true=>exact absurd hz (Lm (h.ready hr)).1
    have hm:=h.IU hr;have hpl:=h.LJ hm;have hno:∀e,e∈b.aj->False:=by rw[hm];simp
    exact {h1 with cn:=.inr ht,ready:=λhh=>(by rw[show b.ready=true from hh]at hr;cases hr),an:=h.an,fit:=λe he=>(hno e he).elim,pl:=by simp only[PI,hpl];exact C9,CL:=λe he=>(hno e he).elim }
   .exact h1
  .exact h1
 ·
  split
  .rename_i x y z;unfold EW;split
   .exact h1
   .rename_i hz;split
    .rename_i hv;have hr:b.ready=false:=by
      cases hr:b.ready with
      |false=>rfl
      |true=>exact absurd (.inr (.inr hr)) hz
     have hm:=h.IU hr;have hpl:=h.LJ hm;have hno:∀e,e∈b.aj->False:=by rw[hm];simp
     exact {h1 with cn:=h.cn,ready:=λ_=>hv,an:=λhh=>(by cases hh),ms:=λ_=>rfl,fit:=λe he=>(hno e he).elim,pl:=by simp only[Ll,hpl];exact C9,CL:=λe he=>(hno e he).elim }
    .exact h1
  .exact h1
 ·
  split
  .rename_i x y z;unfold yr;split
   .rename_i hz;obtain⟨hr,hm⟩:=hz;split
    .rename_i hv;have hpl:=h.LJ hm;have hno:∀e,e∈b.aj->False:=by rw[hm];simp
     exact {h1 with cn:=h.cn,ready:=λ_=>hv,an:=λhh=>(by rw[show b.ready=false from hh]at hr;cases hr),fit:=λe he=>(hno e he).elim,pl:=by simp only[xx,hpl];exact C9,CL:=λe he=>(hno e he).elim }
    .exact h1
   .exact h1
  .exact h1
 ·
  unfold za;split
  .rename_i hz;obtain⟨hr,hpl⟩:=hz;split
   .exact h1
   .split
    .rename_i hml;split
     .rename_i hb;refine {h1 with ms:=λ_=>hr,ml:=by simp[Gd];omega,wl:=by simp[Gd,h.wl],fit:=λe he=>?_,pm:=λhh=>absurd hpl hh,CL:=λe he hl=>?_ }
      .simp only[Gd,ba,List.mem_singleton]at he;rcases he with he | rfl
       .exact h.fit e he
       .exact⟨hb,by simp;omega,by simp;omega⟩
      .simp only[Gd];rw[hpl];exact Yg
     .exact h1
    .exact h1
  .exact h1
 ·
  split
  .unfold DI;split
   .exact h1
   .split
    .exact h1.Je
    .exact h1
  .exact h1
 ·
  unfold Bc;split
  .split
   .split
    .rename_i hl _ _;exact {h1 with rules:=by simp;omega }
    .exact h1
   .exact h1
  .exact h1
 ·
  split
  .split
   .rename_i hk;exact {h1 with keep:=hk }
   .exact h1
  .exact h1
 ·
  unfold xH;split
  .rename_i hl;split
   .rename_i ho;refine {h1 with Al:=by simp[LS];omega,Ob:=λe he=>?_ };simp only[LS,ba,List.mem_singleton]at he;rcases he with he | rfl
    .exact h.Ob e he
    .exact ho
   .exact h1
  .exact h1
 ·
  unfold yq;split
  .exact h1
  .rename_i hl;split
   .split
    .split
     .split
      .rename_i hf;obtain⟨e0,he0⟩:=List.exists_mem_of_ne_nil _ hl;have key:∀e∈cm b.aj,Bd b.bz e.m=true/\xu b.bz (wY b l)=0/\∃r,aI.run b.bz e.m (wY b l)=some r:=by
        intro e he;have hz:=wQ hf e he;have hb:=(h.fit e (NL he).1).1;simp only[vf,hb,if_true]at hz;split at hz
        .rename_i hq;cases hr:aI.run b.bz e.m (wY b l)with
         |none=>rw[hr]at hz;cases hz
         |some r=>exact⟨hb,hq,r,rfl⟩
        .rename_i hq;exact absurd hz hq
       refine {h1 with pm:=λ_ hh=>?_,pl:=(key e0 he0).2.1,CL:=λe he hel=>(key e (cX.2 ⟨he,hel⟩)).2.2 };have:=(NL he0).1;rw[show b.aj=[]from hh]at this;cases this
      .exact h1
     .exact h1
    .exact h1
   .exact h1
 ·
  split
  .unfold yo;split
   .exact h1
   .split
    .split
     .exact h1.Je
     .exact h1
    .exact h1
  .exact h1
 ·
  split
  .unfold Be;split
   .rename_i hl;split
    .rename_i ho;refine {h1 with ew:=by simp[Ri];omega,uok:=λu hu=>?_ };simp only[Ri,ba,List.mem_singleton]at hu;rcases hu with hu | rfl
     .exact h.uok u hu
     .exact ho
    .exact h1
   .exact h1
  .exact h1
 ·
  split
  .unfold yp;split
   .exact h1
   .split
    .split
     .exact {h1 with l9:=by have:=h.l9;simp[Vr];omega }
     .exact h1
    .exact h1
  .exact h1
 .exact h1
theorem Kv.line{n:Nat}{b:Bk}(h:Kv n b){s:List UInt8}(hs:s.length<=4000){k:Int}:Kv (n+1) (qT b k s).1:=by
 unfold qT;split
 .rename_i w nm l hp;exact(h.W3 k).word hp hs
 .exact h.le (Nat.le_succ n)
end
end Go.Proofs.YtanhdobabijmoaaGreatDoor
namespace Go.aA
open List(length_flatMap map_take)
variable {T:BJ}
theorem MV{f:Nat}{fn:Fn}{args:List D}{J J':SK}{d:D}{np:Nat}{res:List Ez}{body A q:cc}{fo:bI}{bs:List bI}(hT:T f=some fn)(hf:fn=⟨np,res,body⟩)(hl:args.length=np)(hs:iE body=some (A,fo,bs,q))(hlen:J'.length=J.length)
  (h:WC (lim T) A (l8 0 args) ([]::J) (JU T fo bs q J' res d)):
  lim T (.call false f args J)=some (.val d J'):=by
 subst hf;obtain⟨x,e1,J1,h1,rfl,x2,e2,J2,h2,th,h3,J3,h4,ds,h5,s,h6⟩:=h;rw[hlen]at h6;refine gS ?_;have hn:bg (lim T) body (l8 0 args) ([]::J)=none:=zB hs h1;simp only[dh,hT,if_pos hl,az,if_false,hn,hs,Ah,h1,h2];have h4':∃dv,rN (lim T) (bu e1 fo) (bs.map (bu e1)) th J2=some (.val dv J3):=by
  unfold xf at h4;split at h4
  .rename_i h7;cases h4;exact⟨_,h7⟩
  .cases h4
 obtain⟨dv,h4'⟩:=h4';cases x2 with
 |exit i=>cases h3
 |normal=>cases h3;simp only[Ak,h4',vE,leave,h5,h6]
 |ret=>cases h3;simp only[Ak,h4',vE,leave,h5,h6]
 |fp d=>cases h3;simp only[Ak,h4',vE,leave,h5,h6]
end Go.aA
namespace Go.Proofs.YtanhdobabijmoaaGreatDoor
open List(length_flatMap map_take)
section
open Go Go.aA Go.aI Go.dk
variable {J:SK}
theorem WX{c:List D}:lim T (.yn 50 [.ref J.length 0 0 0] none ([.cells 0 c]::J))=some (.val (.db []) ([.cells 0 c]::J)):=by
 refine Ai vt iJ.eq_1 rfl (by simp[-length_flatMap,-map_take,rK];exact⟨rfl,rfl⟩) ?_;simp[-length_flatMap,-map_take]
theorem Qk{e:Int}:lim T (.yn 50 [.ref J.length 0 0 0] (some (rf e)) ([.cells 0 [.int .i64 0]]::J))=some (.val (.db []) ([.cells 0 [.int .i64 e]]::J)):=by
 refine Ai vt iJ.eq_1 rfl (by simp[-length_flatMap,-map_take,rK];exact⟨rfl,rfl⟩) ?_;simp[-length_flatMap,-map_take,rf]
theorem Kj{b:Bk}{k:Nat}{nm:List UInt8}{l:List Int}(h:(oR b k nm l).2≠0):(oR b k nm l).1=b:=by
 unfold oR at h ⊢;split;all_goals
  simp only at h
  try unfold Go.dk.xG at *
  try unfold xI at *
  try unfold EW at *
  try unfold yr at *
  try unfold za at *
  try unfold DI at *
  try unfold Bc at *
  try unfold xH at *
  try unfold yq at *
  try unfold yo at *
  try unfold Be at *
  try unfold yp at *
  repeat' split
  all_goals first | rfl | (simp_all)
theorem ZM{b:Bk}{er:List Int}{s:List UInt8}{n:Nat}{k:Int}(hK:Kv n b)(hn:n<=1000000)(hs:s.length<=4000):
  lim T (.call false 31 [.ref J.length 6 0 0,.int .i64 k,.str s] (b.bB J.length er::J))=some (.val (.int .i64 (qT b k s).2) ((qT b k s).1.bB J.length er::J)):=by
 refine MV Dn nK.eq_1 rfl rfl (by simp) ?_;cases hp:parse s with
 |none =>
  have hP:=λS=>OG (J:=S) (s:=s) (by omega) hp
  have hX:xf T (.fn 50 [] [.ref (J.length+1) 0 0 0]) [] (some (rf 4)) ([.cells 0 [.int .i64 0]]::b.bB J.length er::J)=some ([.cells 0 [.int .i64 4]]::b.bB J.length er::J):=uh (Qk (J:=b.bB J.length er::J));have hd:qT b k s=(b,4):=by simp[qT,hp]
  rw[hd];simp only[Bk.bB,Bk.cells,rf]at hX hP;simp[-length_flatMap,-map_take,JU,zV,Bk.bB,Bk.cells];rw[yZ gF.eq_1];simp[-length_flatMap,-map_take,JU,zV,Bk.bB,Bk.cells,hP,hX]
 |some p =>
  obtain⟨w,nm,l⟩:=p;have hP:=λS hS=>Tk (J:=S) (s:=s) (by omega) hS hp
  have hD:=afG (J:=J) (F:=[.cells 0 [.int .i64 0]]) (er:=er) (hK.W3 k) hn hp hs;have hd:qT b k s=oR {b with at_:=k } w.k nm l:=by simp[qT,hp]
  rw[hd];have hno:=Kj (b:={b with at_:=k }) (k:=w.k) (nm:=nm) (l:=l);generalize oR {b with at_:=k } w.k nm l=r at hD hno ⊢;obtain⟨b',e⟩:=r;have hwc:Ox w=[.bool w.named,.int .i64 w.least,.int .i64 w.step,.fn ((KH[w.k]?).getD 0) [] []]:=rfl;simp only[zx,hwc]at hP;by_cases he:e=0
  .subst he;have hX:xf T (.fn 50 [] [.ref (J.length+1) 0 0 0]) [] none ([.cells 0 [.int .i64 0]]::b'.bB J.length er::J)=some ([.cells 0 [.int .i64 0]]::b'.bB J.length er::J):=uh (WX (J:=b'.bB J.length er::J));simp only[doR,if_true]at hD;simp only[Bk.bB,Bk.cells]at hX hD;simp[-length_flatMap,-map_take,JU,zV,Bk.bB,Bk.cells];rw[yZ gF.eq_1];simp[-length_flatMap,-map_take,JU,zV,Bk.bB,Bk.cells,hP,hD,hX]
  .have hX:xf T (.fn 50 [] [.ref (J.length+1) 0 0 0]) [] (some (rf e)) ([.cells 0 [.int .i64 0]]::(Bk.bB J.length {b with at_:=k } er)::J)=some ([.cells 0 [.int .i64 e]]::(Bk.bB J.length {b with at_:=k } er)::J):=uh (Qk (J:=(Bk.bB J.length {b with at_:=k } er)::J));simp only[doR,he,if_false]at hD;have hb':b'={b with at_:=k }:=hno he;subst hb';simp only[Bk.bB,Bk.cells,rf]at hX hD;simp[-length_flatMap,-map_take,JU,zV,Bk.bB,Bk.cells];rw[yZ gF.eq_1];simp[-length_flatMap,-map_take,JU,zV,Bk.bB,Bk.cells,hP,hD,hX]
theorem MH{F:List aA.aO}{f:cU}{rest nm:List UInt8}{ln:Nat}{ms:List bE}(hd:∀m∈ms,m.name≠nm)(hl:ms.length<=40):∀(k i:Nat),i+k=ms.length ->
  WL T [0,1,15,16,17] false fV [(0,.ref J.length 5 0 0),(1,.str nm),(15,.sl J.length 4 ms.length 0 ms.length 2),(16,.int .i64 ms.length),(17,.int .i64 i)] ([]::F::Eo J.length f rest ln ms::J)
   (λx e J'=>x=.exit 0/\get e 0=.ref J.length 5 0 0/\get e 1=.str nm/\J'=[]::F::Eo J.length f rest ln ms::J)
 |0,i,hi=>by
  refine aH fV.eq_1 ?_;obtain rfl:i=ms.length:=by omega
  simp[-length_flatMap,-map_take]
 |k+1,i,hi=>by
  refine aH fV.eq_1 ?_;have h1:i<ms.length:=by omega
  obtain⟨m,hm⟩:=gE h1;have a1:=bX (f:=bE.enc) (w:=2) (λ_=>rfl) hm;have a2:=bK (f:=bE.enc) (w:=2) (λ_=>rfl) ms;have a3:2<=(ms.flatMap bE.enc).length-i*2:=by omega
  have h4:=dJ h1;have hne:(m.name == nm)=false:=by simpa using hd m (ai hm)
  have ih:=MH (F:=F) (f:=f) (rest:=rest) (ln:=ln) hd hl k (i+1) (by omega);simp only[bE.enc]at a1;simp only[Eo]at ih ⊢;simp[-length_flatMap,-map_take,lX,h1,a1,a3,h4,hne,uy];exact WL.to ih (by simp) (by simp) λx e J' hh=>hh
theorem Xm{S:SK}{L l v:Nat}(hS:S.length=L)(hl:l<L){vs:List Int}:
  cC l 16 (.sl L 0 v 0 vs.length 1) ([.cells v (vs.flatMap aM)]::S)=(.aJ vs.length (vs.flatMap aM),[.dead]::S):=by
 have h:=yB (l:=l) (n:=16) (l':=L) (i:=0) (v:=v) (off:=0) (m:=vs.length) (w:=1) (J:=[.cells v (vs.flatMap aM)]::S) (cs:=vs.flatMap aM) (by omega) (by simp[hS]) (by omega);have q1:=zq vs;have t1:(vs.flatMap aM).take vs.length=vs.flatMap aM:=af (by omega);simp[h,hS,t1,bh]
theorem Tq{F:List aA.aO}{f:cU}{ms:List bE}{m:bE}{tail:List UInt8}{ln x N:Nat}(hf:f.valid=true)(hx:(x:Int)=f.x)(hN:(N:Int)=f.k*f.y*f.z)(hN2:N<=384)(hnm:named m.name=true)(hv:m.aU.length=N*x)(h7:∀v∈m.aU,n7 v)
  (hd:∀e∈ms,e.name≠m.name) (hl:ms.length<40) (hbig:(sf x N m.aU++tail).length<=1000000) (hln:ln+N<=1000000):
  lim T (.call false 42 [.ref J.length 5 0 0,.str m.name] (F::Eo J.length f (sf x N m.aU++tail) ln ms::J))=some (.val (.db []) (F::Eo J.length f tail (ln+N) (ms++[m])::J)):=by
 obtain⟨f1,f2,f3,f4,f5⟩:=cU.mo.1 hf;have hx8:1<=x/\x<=8:=by omega
 have hvl:m.aU.length<=3072:=by
  rw[hv];have:=Nat.mul_le_mul hN2 hx8.2;omega
 refine dN Cd mB.eq_1 rfl (by simp) ?_;have hnl:=Au hnm;have hNm:=λJ=>EB (J:=J) (s:=m.name) (by omega)
 rw[hnm]at hNm;have hA:=MH (J:=J) (F:=F) (f:=f) (rest:=sf x N m.aU++tail) (ln:=ln) (nm:=m.name) (ms:=ms) hd (by omega) ms.length 0 (by omega);have hR:=P3 (J:=J) (F:=F) (ms:=ms) (nm:=m.name) (tail:=tail) hx hx8.1 hx8.2 hN2 N 0 m.aU [] ln (by omega) hv h7 (by simp;omega) hbig hln;have hl40:(ms.length:Int)<40:=by omega
 have hky : -9223372036854775808<=f.k*f.y/\f.k*f.y<=9223372036854775807:=by
  have:=NV (a:=f.k) (b:=f.y) (A:=6) (B:=8) (by omega) (by omega) (by omega) (by omega);have:=cZ (a:=f.k) (b:=f.y) (by omega) (by omega);omega
 have w1:=eQ (n:=f.k*f.y);have w2:IntKind.i64.wrap (f.k*f.y*f.z)=(N:Int):=by rw[<- hN];exact eQ
 simp only[Eo,List.nil_append]at hA hR ⊢;simp[-length_flatMap,-map_take,hNm,uy];refine WL.to hA (by simp) (by simp) ?_;rintro x1 e J' ⟨rfl,g0,g1,rfl⟩;simp[-length_flatMap,-map_take,g0,g1,hl40,uy,w1,w2];refine WL.to hR (by simp) (by simp) ?_;rintro x2 e J' ⟨rfl,g0,g6,rfl⟩;have hz:=λS hS=>Xm (S:=S) (L:=J.length+2) (l:=J.length) (v:=N) hS (by omega) (vs:=m.aU)
 have a2:=bK (f:=bE.enc) (w:=2) (λ_=>rfl) ms;have t2:(ms.flatMap bE.enc).take (ms.length*2)=ms.flatMap bE.enc:=af (by omega);have hroom:(ms.length+1)*40<=room:=by unfold room;omega
 simp[-length_flatMap,-map_take,g0,g6,hz,a2,t2,hroom]
structure Md(x N:Nat)(m:bE):Prop where
 nm:named m.name=true
 len:m.aU.length=N*x
 v7:∀v∈m.aU,n7 v
theorem P9{f:cU}{x N:Nat}(hf:f.valid=true)(hx:(x:Int)=f.x)(hN:(N:Int)=f.k*f.y*f.z)(hN2:N<=384){HA:Nat}(ht:0<HA)(ht2:HA<=40):∀(todo done:List bE) (ln:Nat),done.length+todo.length=HA->(∀m∈todo,Md x N m) ->
  (done++todo).Pairwise (λa b=>a.name≠b.name)->(tz x N todo++(jf AH [(HA:Int)]++[10])).length<=1000000->ln+todo.length*400<=100000 ->
  WL T [0] false fW [(0,.ref J.length 5 0 0)] ([]::Eo J.length f (tz x N todo++(jf AH [(HA:Int)]++[10])) ln done::J)
   (λx e J'=>x=.exit 0/\get e 0=.ref J.length 5 0 0/\∃ln',ln'<=1000000/\J'=[]::Eo J.length f [] ln' (done++todo)::J)
 |[],done,ln,hd,_,_,hbig,hln=>by
  refine aH fW.eq_1 ?_;simp only[aV,Nat.add_zero]at hd;subst hd;have h7:n7 (done.length:Int):=by unfold n7;omega
  have hp:eh AH [(done.length:Int)]=[AH,dp done.length]:=by simp[eh,AH]
  have hsp:bQ 32 (jf AH [(done.length:Int)])=[AH,dp done.length]:=by rw[Ej (by rw[hp];simp) (by decide),hp]
  have hcut:yk 10 (jf AH [(done.length:Int)]++[10])=(jf AH [(done.length:Int)],[],true):=IP (by decide);simp only[tz,List.nil_append]at hbig ⊢;have hbig':=hbig;simp only[aF,List.length_singleton]at hbig';have hW:=HM (J:=J) (F:=[]) (f:=f) (ms:=done) (ln:=ln) hcut hbig (by omega) (by omega);have hWh:=λJ=>Mu (J:=J) h7
  rw[hsp]at hW;have h1:(0:Int)<done.length:=by omega
  have h1':0<done.length:=by omega
  simp only[Eo,AH]at hW ⊢;push_cast at hW;simp[-length_flatMap,-map_take,lX,hW,hWh,uy,h1,h1'];exact⟨ln+1,by omega,by simp⟩
 |m::todo,done,ln,hd,hm,hpw,hbig,hln=>by
  refine aH fW.eq_1 ?_;simp only[av]at hd hln;have hmd:=hm m (by simp);have hin:tz x N (m::todo)++(jf AH [(HA:Int)]++[10])=kh [32] [BE,m.name]++10::(sf x N m.aU++(tz x N todo++(jf AH [(HA:Int)]++[10]))):=by simp[tz,NR]
  rw[hin]at hbig ⊢;have hbig':=hbig;simp only[aF,av,List.length_singleton]at hbig';have hW:=HM (J:=J) (F:=[]) (f:=f) (ms:=done) (ln:=ln) (Sj (r:=sf x N m.aU++(tz x N todo++(jf AH [(HA:Int)]++[10]))) hmd.nm) hbig (by omega) (by omega);rw[NT hmd.nm]at hW;have hne:∀e∈done,e.name≠m.name:=λe he=>by
   rw[List.pairwise_append]at hpw;exact hpw.2.2 e he m (by simp)
  have hM:=Tq (J:=J) (F:=[]) (f:=f) (ms:=done) (m:=m) (tail:=tz x N todo++(jf AH [(HA:Int)]++[10])) (ln:=ln+1) hf hx hN hN2 hmd.nm hmd.len hmd.v7 hne (by omega) (by simp only[aF,av,List.length_singleton];omega) (by omega);have ih:=P9 hf hx hN hN2 ht ht2 todo (done++[m]) (ln+1+N) (by simp;omega) (λe he=>hm e (by simp[he])) (by simpa using hpw) (by simp only[aF,av,List.length_singleton];omega) (by omega);have ea:done++[m]++todo=done++m::todo:=by simp
  rw[ea]at ih;simp only[Eo,BE]at hW hM ih ⊢;push_cast at hW hM ih;simp[-length_flatMap,-map_take,lX,hW,hM,uy];refine WL.to ih (by simp) (by simp) λx e J' hh=>by simpa using hh
theorem Wu{f:cU}{x N:Nat}{l:List bE}(hf:f.valid=true)(hx:(x:Int)=f.x)(hN:(N:Int)=f.k*f.y*f.z)(hN2:N<=384)(hl:0<l.length)(hl2:l.length<=40)(hm:∀m∈l,Md x N m)
  (hpw:l.Pairwise (λa b=>a.name≠b.name)) (hbig:(vm f x N l).length<=1000000):
  ∃ln',ln'<=1000000/\lim T (.call false 23 [.ref J.length 5 0 0] (Eo J.length ⟨0,0,0,0⟩ (vm f x N l) 0 []::J))=some (.val (.db []) (Eo J.length f [] ln' l::J)):=by
 have hL:=P9 (J:=J) hf hx hN hN2 hl hl2 l [] 1 (by simp) hm (by simpa using hpw) (by simp only[vm,aF,av]at hbig;simp only[aF];simp at hbig ⊢;omega) (by omega);obtain⟨f1,f2,f3,f4,f5⟩:=cU.mo.1 hf;have h7:∀n∈[f.x,f.y,f.z,f.k],n7 n:=by
  intro n hn;simp only[aY,List.not_mem_nil,or_false]at hn;unfold n7;rcases hn with rfl | rfl | rfl | rfl<;>omega
 have hp:eh uf [f.x,f.y,f.z,f.k]=[uf,dp f.x,dp f.y,dp f.z,dp f.k]:=by simp[eh,uf]
 have hsp:bQ 32 (jf uf [f.x,f.y,f.z,f.k])=[uf,dp f.x,dp f.y,dp f.z,dp f.k]:=by rw[Ej (by rw[hp];simp) (by decide),hp]
 have hcut:yk 10 (vm f x N l)=(jf uf [f.x,f.y,f.z,f.k],tz x N l++(jf AH [(l.length:Int)]++[10]),true):=IP (by decide);have hW:=HM (J:=J) (F:=[]) (f:=⟨0,0,0,0⟩) (ms:=[]) (ln:=0) hcut hbig (by simp only[vm,aF,av]at hbig;omega) (by omega);rw[hsp]at hW;have hNum:=λS hS=>J4 (J:=S) (l:=[f.x,f.y,f.z,f.k]) (by simp) h7 hS
 have hV:=λJ=>Mt (J:=J) (f:=f)
 rw[hf]at hV;simp only[aR,bV,av,aV,aS,bM,aM,cM,List.nil_append]at hNum;suffices h:WC (lim T) _ _ _ (λx e J'=>x=.normal/\∃ln',ln'<=1000000/\J'=[]::Eo J.length f [] ln' l::J)by
  obtain⟨x1,e1,J1,h1,rfl,ln',h2,rfl⟩:=h;refine⟨ln',h2,dN Dl nI.eq_1 rfl (by simp[Eo]) ⟨_,_,_,h1,?_⟩⟩;simp[M4]
 simp only[Eo,uf,aV,bM]at hW hL ⊢;push_cast at hW hL ⊢;simp[-length_flatMap,-map_take,lX,hW,hNum,hV,uy];refine WL.to hL (by simp) (by simp) ?_;rintro x1 e J' ⟨rfl,g0,ln',h2,rfl⟩;simp only[Eo,List.nil_append];simp[-length_flatMap,-map_take,lX,g0];exact⟨ln',h2,rfl⟩
def BQ(f:cU)(rest:List UInt8)(ln:Nat)(ms:List bE):List D:=[.int .i64 f.x,.int .i64 f.y,.int .i64 f.z,.int .i64 f.k,.str rest,.int .i64 ln,.aJ ms.length (ms.flatMap bE.enc)]
theorem Xk(hJ:J≠[]){e:Env}{f:cU}{rest:List UInt8}{ln:Nat}{ms:List bE}(hg:get e 6=.ref J.length 6 0 0):
  JG 6 e (Eo J.length f rest ln ms::J)=((6,.bq [.bq (BQ f rest ln ms)])::e,[.cells 0 [.int .i64 0,.int .i64 0,.int .i64 0,.int .i64 0],.cells 0 [.bP],.cells 0 [.int .i64 0],.cells 0 [.int .i64 0],.dead,.dead,.dead]::J):=by
 have h0:=aN.2 hJ;have hcl:D.bj (ms.flatMap bE.enc)=true:=cT (λx=>by simp[D.clean,bh]) _;have ha:=bK (f:=bE.enc) (w:=2) (λ_=>rfl) ms;have ht:(ms.flatMap bE.enc).take (ms.length*2)=ms.flatMap bE.enc:=af (by omega);have r5:mh J.length 5 0 (Eo J.length f rest ln ms::J)=(.bq (BQ f rest ln ms),[.cells 0 [.int .i64 0,.int .i64 0,.int .i64 0,.int .i64 0],.cells 0 [.bP],.cells 0 [.int .i64 0],.cells 0 [.int .i64 0],.dead,.dead,.cells 0 [.ref J.length 5 0 0]]::J):=by
  have hs:=λS hS=>yB (l:=0) (n:=16) (l':=J.length) (i:=4) (v:=ms.length) (off:=0) (m:=ms.length) (w:=2) (J:=S) (cs:=ms.flatMap bE.enc) (by omega) hS (by omega)
  simp[mh,Eo,BQ,deep,hs,ht,hcl]
 have r6:mh J.length 6 0 ([.cells 0 [.int .i64 0,.int .i64 0,.int .i64 0,.int .i64 0],.cells 0 [.bP],.cells 0 [.int .i64 0],.cells 0 [.int .i64 0],.dead,.dead,.cells 0 [.bq (BQ f rest ln ms)]]::J) =
   (.bq [.bq (BQ f rest ln ms)],[.cells 0 [.int .i64 0,.int .i64 0,.int .i64 0,.int .i64 0],.cells 0 [.bP],.cells 0 [.int .i64 0],.cells 0 [.int .i64 0],.dead,.dead,.dead]::J):=by
  simp[mh,BQ,deep,hcl,D.clean,D.xe]
 rw[Xi hg (l2:=J.length) (i2:=5) (u2:=0) (by simp[Eo]) (by rw[r5];simp) (by rw[r5];simp[D.clean,BQ,hcl])];rw[r5];have e6:aZ ([.cells 0 [.int .i64 0,.int .i64 0,.int .i64 0,.int .i64 0],.cells 0 [.bP],.cells 0 [.int .i64 0],.cells 0 [.int .i64 0],.dead,.dead,.cells 0 [.ref J.length 5 0 0]]::J) J.length 6 (.cells 0 [.bq (BQ f rest ln ms)]) =
  ([.cells 0 [.int .i64 0,.int .i64 0,.int .i64 0,.int .i64 0],.cells 0 [.bP],.cells 0 [.int .i64 0],.cells 0 [.int .i64 0],.dead,.dead,.cells 0 [.bq (BQ f rest ln ms)]]::J):=by simp
 rw[e6,r6]
theorem WY{a b c d e:D}{S:SK}:lim T (.yn 22 [a,b,c,d,e] none S)=some (.val (.db []) S):=by
 refine Ai HV uF.eq_1 rfl (by simp[-length_flatMap,-map_take,rK];exact⟨rfl,rfl⟩) ?_;simp[-length_flatMap,-map_take]
theorem ZB{f:cU}{x N:Nat}{l:List bE}(hf:f.valid=true)(hx:(x:Int)=f.x)(hN:(N:Int)=f.k*f.y*f.z)(hN2:N<=384)(hl:0<l.length)(hl2:l.length<=40)(hm:∀m∈l,Md x N m)
  (hpw:l.Pairwise (λa b=>a.name≠b.name)) (hbig:(vm f x N l).length<=200000) (hJ:J≠[]):
  lim T (.call false 9 [.str (vm f x N l)] J)=some (.val (.db [.agg [.int .i64 f.x,.int .i64 f.y,.int .i64 f.z,.int .i64 f.k],.aJ l.length (l.flatMap bE.enc),.int .i64 0,.int .i64 0]) J):=by
 refine Io Lb xJ.eq_1 rfl rfl ?_;obtain⟨ln',h2,hT⟩:=Wu (J:=J) hf hx hN hN2 hl hl2 hm hpw (by omega);have hb:¬(200000:Int)<(vm f x N l).length:=by omega
 have hb':¬200000<(vm f x N l).length:=by omega
 have hcl:D.bj (l.flatMap bE.enc)=true:=cT (λx=>by simp[D.clean,bh]) _;generalize vm f x N l=t at hT hb hb' ⊢;have hX:=λS=>uh (T:=T) (first:=[]) (cap:=[.ref J.length 6 0 0,.ref J.length 0 0 0,.ref J.length 1 0 0,.ref J.length 2 0 0,.ref J.length 3 0 0]) (args:=[]) (WY (a:=.ref J.length 6 0 0) (b:=.ref J.length 0 0 0) (c:=.ref J.length 1 0 0) (d:=.ref J.length 2 0 0) (e:=.ref J.length 3 0 0) (S:=S))
 simp only[Eo,aV,bM]at hT;push_cast at hT;simp[-length_flatMap,-map_take,lX,hb,hb',JU,zV];rw[yZ xg.eq_1];simp[-length_flatMap,-map_take,lX,JU,zV,hT];have hP:=λe hg=>Xk (J:=J) hJ (e:=e) (f:=f) (rest:=[]) (ln:=ln') (ms:=l) hg
 simp only[Eo,BQ]at hP;simp[-length_flatMap,-map_take,hP,hX,hcl,zV]
theorem XL{w:List UInt8}{l:List Int}{i:Nat}{x:Int}(h:l[i]?=some x):eh w (l.take (i+1))=eh w (l.take i)++[dp x]:=by
 simp[eh,List.take_add_one,h]
theorem NO{w:List UInt8}{l:List Int}(h:∀n∈l,n7 n)(hw:w.length<=7)(i:Nat):(kh [32] (eh w (l.take i))).length<=(l.length+1)*8:=by
 have h1:=AI (w:=w) (l:=l.take i) (λn hn=>h n (bR hn)) hw;have h2:(l.take i).length<=l.length:=by simp;omega
 have:=bU 8 (Nat.succ_le_succ h2);simp only[jf]at h1;omega
theorem Qd{w:List UInt8}{l:List Int}{y:D}(hy:y.calm=y)(hl:l.length<=1000)(h7:∀n∈l,n7 n)(hw:w.length<=7):∀(k i:Nat),i+k=l.length ->
  WL T [0,2,7,8,9] false iT [(0,.str (kh [32] (eh w (l.take i)))),(2,y),(7,.aJ l.length (l.flatMap aM)),(8,.int .i64 l.length),(9,.int .i64 i)] J
   (λx e J'=>J'=J/\x=.exit 0/\get e 0=.str (jf w l)/\get e 2=y)
 |0,i,hi=>by
  refine aH iT.eq_1 ?_;obtain rfl:i=l.length:=by omega
  simp[-length_flatMap,-map_take,hy,jf]
 |k+1,i,hi=>by
  refine aH iT.eq_1 ?_;have h1:i<l.length:=by omega
  obtain⟨x,hx⟩:=gE h1;have a1:=lU hx;have h4:=dJ h1;have hx7:=h7 x (ai hx);have hI:=λJ=>K1 (J:=J) (n:=x) (by unfold n7 at hx7;omega)
  have hxl:=CB hx7;have hb:=NO h7 hw i;have ih:=Qd (y:=y) hy hl h7 hw k (i+1) (by omega);rw[XL hx]at ih;have q1:(kh [32] (eh w (l.take i))).length<=10000:=by omega
  have q2:(kh [32] (eh w (l.take i))).length+1<=4611686018427387904:=by omega
  have q3:(kh [32] (eh w (l.take i))).length+(dp x).length<=4611686018427387904:=by omega
  have q4:(kh [32] (eh w (l.take i))).length+1+(dp x).length<=4611686018427387904:=by omega
  by_cases h0:0<i
  .have hp:eh w (l.take i)≠[]:=by
    intro h;have h5:(l.take i).length<=(eh w (l.take i)).length:=by simp only[eh,aF,cV];omega
    rw[h]at h5;simp only[fT,aV]at h5;omega
   rw[Kz hp]at ih;have h0':(0:Int)<i:=by omega
   simp[-length_flatMap,-map_take,lX,hy,h1,a1,h4,hI,q2,q4,h0,h0'];exact WL.to ih (by simp) rfl λx e J' hh=>hh
  .have h0':¬(0:Int)<i:=by omega
   have ht:l.take i=[]:=by rw[show i=0 by omega];rfl
   by_cases hw0:w=[]
   .have hp:eh w (l.take i)=[]:=by rw[ht,hw0];rfl
    rw[hp]at ih ⊢;have hj:kh [32] ([]++[dp x])=dp x:=by simp[kh]
    have hj0:kh [32] []=[]:=rfl;rw[hj]at ih;rw[hj0];have q5:(dp x).length<=4611686018427387904:=by omega
    simp[-length_flatMap,-map_take,lX,hy,h1,a1,h4,hI,q5,h0,h0'];exact WL.to ih (by simp) rfl λx e J' hh=>hh
   .have hp:eh w (l.take i)=[w]:=by rw[ht];simp[eh,hw0]
    have hne:(kh [32] (eh w (l.take i)) == [])=false:=by rw[hp];simp[kh,hw0]
    rw[Kz (by rw[hp];simp)]at ih;simp[-length_flatMap,-map_take,lX,hy,h1,a1,h4,hI,q2,q4,h0,h0',hne];exact WL.to ih (by simp) rfl λx e J' hh=>hh
def yi(bs:List UInt8):List aA.aO:=[.cells 2 [.int .i64 78,.int .i64 5,.str bs]]
theorem YJ{bs s:List UInt8}(hb:bs.length+s.length<=1000000):
  lim T (.call false 19 [.jm J.length 0,.str s] ([]::yi bs::J))=some (.val (.db [.int .i64 s.length,.oI]) ([]::yi (bs++s)::J)) :=
 wX wL wE (by simp[Bo,yi];omega)
theorem K3{bs w:List UInt8}{l:List Int}(hl:l.length<=1000)(h7:∀n∈l,n7 n)(hw:w.length<=7)(hb:bs.length<=900000):
  lim T (.call false 17 [.str w,.aJ l.length (l.flatMap aM),.jm J.length 0] (yi bs::J))=some (.val (.db []) (yi (bs++(jf w l++[10]))::J)):=by
 refine dN BI pP.eq_1 rfl (by simp) ?_;have hL:=Qd (J:=[]::yi bs::J) (w:=w) (l:=l) (y:=.jm J.length 0) rfl hl h7 hw l.length 0 (by omega);have h0:kh [32] (eh w (l.take 0))=w:=by
  by_cases h:w=[]<;>simp[eh,h,kh]
 rw[h0]at hL;have hll:=AI h7 hw;have q1:(jf w l).length+1<=4611686018427387904:=by omega
 have hP:=YJ (J:=J) (bs:=bs) (s:=jf w l++[10]) (by simp;omega);simp only[yi]at hP hL ⊢;simp[-length_flatMap,-map_take];refine WL.to hL (by simp) (by simp) ?_;rintro x e J' ⟨rfl,rfl,g0,g2⟩;simp[-length_flatMap,-map_take,lX,g0,g2,q1,hP]
theorem WE{bs w:List UInt8}(hw:w.length<=1000)(hb:bs.length<=900000):
  lim T (.call false 17 [.str w,.bP,.jm J.length 0] (yi bs::J))=some (.val (.db []) (yi (bs++(w++[10]))::J)):=by
 refine dN BI pP.eq_1 rfl (by simp) ?_;have q1:w.length+1<=4611686018427387904:=by omega
 have hP:=YJ (J:=J) (bs:=bs) (s:=w++[10]) (by simp;omega);simp only[yi]at hP ⊢;simp[-length_flatMap,-map_take];refine aH iT.eq_1 ?_;simp[-length_flatMap,-map_take,lX,q1,hP]
theorem Qf{f:cU}{l:List bE}{m:bE}{x:Nat}{q:Int}(hx:(x:Int)=f.x)(hx1:1<=x)(hx8:x<=8)(h7:∀v∈m.aU,n7 v):∀(n p:Nat) (bs:List UInt8),m.aU.length=p+n*x->m.aU.length<=3072->bs.length+n*100<=800000 ->
  WL T [1,2,7,8,10,11,30,31,32] false mz [(1,.aJ l.length (l.flatMap bE.enc)),(2,.bq [.int .i64 f.x,.int .i64 f.y,.int .i64 f.z,.int .i64 f.k]),(7,.jm J.length 0),(8,.fn 17 [] [.jm J.length 0]),(10,.own 0 [.str m.name,.aJ m.aU.length (m.aU.flatMap aM)]),(11,.int .i64 p),(30,.aJ l.length (l.flatMap bE.enc)),(31,.int .i64 l.length),(32,.int .i64 q)] (yi bs::J)
   (λy e J'=>y=.exit 2/\get e 1=.aJ l.length (l.flatMap bE.enc)/\get e 2=.bq [.int .i64 f.x,.int .i64 f.y,.int .i64 f.z,.int .i64 f.k]/\get e 7=.jm J.length 0/\get e 8=.fn 17 [] [.jm J.length 0]/\get e 30=.aJ l.length (l.flatMap bE.enc)/\get e 31=.int .i64 l.length/\get e 32=.int .i64 q/\J'=yi (bs++sf x n (m.aU.drop p))::J)
 |0,p,bs,hp,hv,hb=>by
  refine aH mz.eq_1 ?_;have h1:¬p<m.aU.length:=by omega
  have h1':¬(p:Int)<m.aU.length:=by omega
  simp[-length_flatMap,-map_take,h1,h1',sf]
 |n+1,p,bs,hp,hv,hb=>by
  refine aH mz.eq_1 ?_;rw[cq]at hp;have h1:p<m.aU.length:=by omega
  have h1':(p:Int)<m.aU.length:=by omega
  obtain⟨row,hrow⟩:∃row,row=(m.aU.drop p).take x:=⟨_,rfl⟩;have hrl:row.length=x:=by rw[hrow];simp;omega
  have hr7:∀v∈row,n7 v:=λv hv=>h7 v (ck (bR (hrow ▸ hv)))
  have hs:=Ny (l:=m.aU) (i:=p) (n:=x);rw[<- hrow]at hs;have hwl:=Ou hr7;have hW:=λS=>K3 (J:=S) (bs:=bs) (w:=[]) (l:=row) (by omega) hr7 (by simp) (by omega)
  have w1:IntKind.i64.wrap ((p:Int)+f.x)=(p+x:Nat):=by rw[<- hx];exact eQ
  have ih:=Qf (l:=l) (q:=q) hx hx1 hx8 h7 n (p+x) (bs++(jf [] row++[10])) (by omega) hv (by simp only[aF,List.length_singleton];omega);have e1:bs++(jf [] row++[10])++sf x n (m.aU.drop (p+x))=bs++sf x (n+1) (m.aU.drop p):=by
   simp[sf,hrow,fD]
  rw[e1]at ih;rw[hrl]at hW;have g1:(p:Int)<=((p+x:Nat):Int):=by omega
  have g2:((p+x:Nat):Int)<=m.aU.length:=by omega
  have g3:p+x<=m.aU.length:=by omega
  have g4:0<=((p+x:Nat):Int):=by omega
  simp only[yi]at hW ih ⊢;push_cast at ih w1 g1 g2 g4;have g5:((p:Int)+(x:Int)).toNat-p=x:=by omega
  simp[-length_flatMap,-map_take,h1,h1',w1,g1,g2,g3,g4,g5,hs,hW];exact WL.to ih (by simp) rfl λx e J' hh=>hh
theorem Qe{f:cU}{l:List bE}{x N:Nat}(hx:(x:Int)=f.x)(hx1:1<=x)(hx8:x<=8)(hN:N*x<=384)(hN2:N<=384)(hl:l.length<=40)(hm:∀m∈l,Md x N m):∀(k i:Nat) (bs:List UInt8),i+k=l.length->bs.length+k*4000<=200000 ->
  WL T [1,2,7,8,30,31,32] false mA [(1,.aJ l.length (l.flatMap bE.enc)),(2,.bq [.int .i64 f.x,.int .i64 f.y,.int .i64 f.z,.int .i64 f.k]),(7,.jm J.length 0),(8,.fn 17 [] [.jm J.length 0]),(30,.aJ l.length (l.flatMap bE.enc)),(31,.int .i64 l.length),(32,.int .i64 i)] (yi bs::J)
   (λy e J'=>y=.exit 0/\get e 1=.aJ l.length (l.flatMap bE.enc)/\get e 7=.jm J.length 0/\get e 8=.fn 17 [] [.jm J.length 0]/\J'=yi (bs++tz x N (l.drop i))::J)
 |0,i,bs,hi,hb=>by
  refine aH mA.eq_1 ?_;obtain rfl:i=l.length:=by omega
  simp[-length_flatMap,-map_take,tz]
 |k+1,i,bs,hi,hb=>by
  refine aH mA.eq_1 ?_;have h1:i<l.length:=by omega
  obtain⟨m,hmi⟩:=gE h1;have hmd:=hm m (ai hmi);have a1:=bX (f:=bE.enc) (w:=2) (λ_=>rfl) hmi;have a2:=bK (f:=bE.enc) (w:=2) (λ_=>rfl) l;have a3:2<=l.length*2-i*2:=by omega
  have h4:=dJ h1;have hnl:=Au hmd.nm;have hv:m.aU.length<=384:=by rw[hmd.len];exact hN
  have hd:l.drop i=m::l.drop (i+1):=by
   have:=aC h1;rw[hmi]at this;cases this;exact List.drop_eq_getElem_cons h1
  have hml:=Ot hmd.nm hmd.v7 hmd.len hx1;have hW:=λS=>WE (J:=S) (bs:=bs) (w:=109::111::100::101::108::32::m.name) (by simp;omega) (by omega)
  have q1:6+m.name.length<=4611686018427387904:=by omega
  have hRw:=Qf (J:=J) (f:=f) (l:=l) (m:=m) (x:=x) (q:=i) hx hx1 hx8 hmd.v7 N 0 (bs++(109::111::100::101::108::32::m.name++[10])) (by rw[hmd.len];omega) (by omega) (by simp;omega);have ih:=Qe hx hx1 hx8 hN hN2 hl hm k (i+1) (bs++NR x N m) (by omega) (by simp only[aF];omega);rw[hd];have e1:bs++NR x N m++tz x N (l.drop (i+1))=bs++tz x N (m::l.drop (i+1)):=by simp[tz]
  rw[e1]at ih;have e2:bs++(109::111::100::101::108::32::m.name++[10])++sf x N (m.aU.drop 0)=bs++NR x N m:=by simp[NR,kh,BE]
  rw[e2]at hRw;simp only[bE.enc]at a1;simp only[yi]at hW hRw ih ⊢;push_cast at hRw ih;simp[-length_flatMap,-map_take,lX,h1,a1,a2,a3,q1,hW];refine WL.to hRw (by simp) (by simp) ?_;rintro y e J' ⟨rfl,g1,g2,g7,g8,g30,g31,g32,rfl⟩;simp[-length_flatMap,-map_take,g1,g2,g7,g8,g30,g31,g32,h4];exact WL.to ih (by simp) rfl λx e J' hh=>hh
theorem agC{S:SK}{t e:Nat}:BO S (.JB t e) []=(fR S (.cells 2 [.int .i64 (t:Nat),.int .i64 (e:Nat),.str []])).map λx=>(.jm x.1 x.2.1,x.2.2):=rfl
theorem V3{f:cU}{l:List bE}{x N:Nat}(hf:f.valid=true)(hx:(x:Int)=f.x)(hN:N*x<=384)(hN2:N<=384)(hl:l.length<=40)(hm:∀m∈l,Md x N m)(hc:ed f l=0):
  lim T (.call false 8 [.agg [.int .i64 f.x,.int .i64 f.y,.int .i64 f.z,.int .i64 f.k],.aJ l.length (l.flatMap bE.enc)] J)=some (.val (.db [.str (vm f x N l),.int .i64 0]) J):=by
 refine aw Jp vU.eq_1 rfl ?_;obtain⟨f1,f2,f3,f4,f5⟩:=cU.mo.1 hf;have hsh:∀m∈l,m.name.length<=1000000000/\m.aU.length<=1000000000:=λm h=>by
  have h1:=Au (hm m h).nm;have h2:=(hm m h).len;omega
 have hCM:=λJ=>zH (J:=J) (f:=f) (l:=l) hsh (by omega)
 rw[hc]at hCM;have h7:∀n∈[f.x,f.y,f.z,f.k],n7 n:=by
  intro n hn;simp only[aY,List.not_mem_nil,or_false]at hn;unfold n7;rcases hn with rfl | rfl | rfl | rfl<;>omega
 have h7e:∀n∈[(l.length:Int)],n7 n:=by
  intro n hn;simp only[List.mem_singleton]at hn;unfold n7;omega
 have hx8:1<=x/\x<=8:=by omega
 have hF:=K3 (J:=J) (bs:=[]) (w:=uf) (l:=[f.x,f.y,f.z,f.k]) (by simp) h7 (by decide) (by simp);have hfl:=AI h7 (w:=uf) (by decide);have hM:=Qe (J:=J) hx hx8.1 hx8.2 hN hN2 hl hm l.length 0 (jf uf [f.x,f.y,f.z,f.k]++[10]) (by omega) (by simp only[aF,av,aV]at hfl ⊢;omega);have hml:=Gu (x:=x) (n:=N) (k:=384) (l:=l) (λm h=>⟨(hm m h).nm,(hm m h).v7,(hm m h).len⟩) hx8.1 hN;have hml2:=bU (30+384*9) hl;have hE:=K3 (J:=J) (bs:=jf uf [f.x,f.y,f.z,f.k]++[10]++tz x N l) (w:=AH) (l:=[(l.length:Int)]) (by simp) h7e (by decide) (by simp only[aF,av,aV]at hfl ⊢;omega);have ht:=K0 (f:=f) (x:=x) (n:=N) (l:=l) ⟨h7 _ (by simp),h7 _ (by simp),h7 _ (by simp),h7 _ (by simp)⟩ (λm h=>⟨(hm m h).nm,(hm m h).v7,(hm m h).len⟩) hx8.1 hN hl;have et:jf uf [f.x,f.y,f.z,f.k]++[10]++tz x N l++(jf AH [(l.length:Int)]++[10])=vm f x N l:=by simp[vm]
 rw[et]at hE;rw[aP]at hM;have hne:vm f x N l≠[]:=by
  intro h;have:=congrArg List.length h;simp[vm]at this
 generalize vm f x N l=t at hE ht hne ⊢;have hB1:lim T (.call false 20 [.jm J.length 0] (yi t::J))=some (.val (.int .i64 t.length) (yi t::J)) :=
  wX B5 BR (by simp[Bo,yi];omega)
 have hB2:lim T (.call false 21 [.jm J.length 0] (yi t::J))=some (.val (.str t) (yi t::J)) :=
  wX zR zK (by simp[Bo,yi,hne])
 have hbig:¬(200000:Int)<t.length:=by omega
 have hbig':¬200000<t.length:=by omega
 simp only[yi,uf,AH,List.nil_append,av,aV,aS,bM,aM,cM]at hF hM hE hB1 hB2 ⊢;push_cast at hF hM hE;simp[-length_flatMap,-map_take,lX,agC,hCM,hF];refine WL.to hM (by simp) (by simp) ?_;rintro y e J' ⟨rfl,g1,g7,g8,rfl⟩;simp[-length_flatMap,-map_take,g1,g7,g8];simp only[c8,cf,cM,List.nil_append]at hE ⊢;simp[-length_flatMap,-map_take,g7,hE,hB1,hB2,hbig,hbig']
def oH:Bk->Int->List (List UInt8)->Bk×List Int
 |b,_,[]=>(b,[])
 |b,k,s::l=>((oH (qT b k s).1 (k+1) l).1,(qT b k s).2::(oH (qT b k s).1 (k+1) l).2)
def cH(l:List (List UInt8)):Bk×List Int:=oH ma 0 l
theorem Dd:∀{l:List (List UInt8)} {b:Bk} {k:Int},(oH b k l).2.length=l.length
 |[],_,_=>rfl
 |s::l,b,k=>by simp[oH,Dd (l:=l)]
def okL(l:List (List UInt8)):Prop:=l.length<=100/\∀s∈l,s.length<=4000
theorem Fo:∀{l:List (List UInt8)} {b:Bk} {k:Int} {n:Nat},Kv n b->(∀s∈l,s.length<=4000)->Kv (n+l.length) (oH b k l).1
 |[],b,k,n,h,_=>h
 |s::l,b,k,n,h,hs=>by
  have h1:=h.line (hs s (by simp)) (k:=k);have h2:=Fo (l:=l) (k:=k+1) h1 λx hx=>hs x (by simp[hx])
  simp only[oH,av];rwa[show n+(l.length+1)=n+1+l.length by omega]
theorem TM{lines:List (List UInt8)}(hl:okL lines):∀(m i:Nat) (b:Bk) (er:List Int),i+m=lines.length->er.length=i->Kv i b ->
  WL T [4,5,12,13,14] false oq [(4,.ref J.length 6 0 0),(5,.sl J.length 7 i 0 i 1),(12,.aJ lines.length (lines.flatMap dc)),(13,.int .i64 lines.length),(14,.int .i64 i)] (b.bB J.length er::J)
   (λx e J'=>x=.exit 0/\get e 4=.ref J.length 6 0 0/\get e 5=.sl J.length 7 lines.length 0 lines.length 1/\J'=(oH b i (lines.drop i)).1.bB J.length (er++(oH b i (lines.drop i)).2)::J)
 |0,i,b,er,hi,he,hK=>by
  refine aH oq.eq_1 ?_;obtain rfl:i=lines.length:=by omega
  have h2:lines.drop lines.length=[]:=aE (by omega);simp[-length_flatMap,-map_take,h2,oH]
 |m+1,i,b,er,hi,he,hK=>by
  refine aH oq.eq_1 ?_;have h1:i<lines.length:=by omega
  obtain⟨s,hs⟩:=gE h1;have a1:=bX (f:=dc) (w:=1) (λ_=>rfl) hs;simp only[dc,ec]at a1;have h4:=dJ h1 (by have:=hl.1;omega);have hsl:=hl.2 s (ai hs);have hn:=hl.1;have hC:=ZM (J:=J) (b:=b) (er:=er) (s:=s) (k:=i) hK (by omega) hsl;have hK':=hK.line hsl (k:=i);rw[drop_at hs];simp only[oH];generalize qT b i s=r at hC hK' ⊢;obtain⟨b',e⟩:=r;have ih:=TM hl m (i+1) b' (er++[e]) (by omega) (by simp[he]) hK';have hel:=wU er;have het:(er.flatMap aM).take i=er.flatMap aM:=af (by omega);have hr:(i+1)*8<=room:=by unfold room;omega
  simp only[Bk.bB,Bk.cells,he]at hC;simp[-length_flatMap,-map_take,h1,a1,h4,hC,Bk.bB,Bk.cells,hr,hel,het,he];refine WL.to ih (by simp) (by simp[Bk.bB,Bk.cells,he]) λx e' J' hh=>?_
  have e1:((i+1:Nat):Int)=(i:Int)+1:=by omega
  rw[e1]at hh;simpa[Bk.bB,Bk.cells]using hh
theorem ZR{lines:List (List UInt8)}(hl:okL lines):lim T (.call true 15 [.aJ lines.length (lines.flatMap dc)] ([]::J)) =
  some (.val (.db [.ref J.length 6 0 0,.sl J.length 7 lines.length 0 lines.length 1]) ((cH lines).1.bB J.length (cH lines).2::J)):=by
 refine xE Ju vZ.eq_1 rfl ?_;have hL:=TM (J:=J) hl lines.length 0 ma [] (by omega) rfl Kv.zero;rw[aP]at hL;simp[-length_flatMap,-map_take];refine WL.to hL (by simp) (by simp[Bk.bB,Bk.cells,ma,nl]) ?_;rintro x e J' ⟨rfl,g4,g5,rfl⟩;simp[-length_flatMap,-map_take,g4,g5,cH]
end
section
open Go Go.aA Go.aI Go.dk
def z0(e:fK):fK:={e with W7:=0 }
def nmB(b:Bk):Bk:={b with aj:=b.aj.map z0,kN:=[],at_:=0 }
theorem aaG(l:List fK):(l.map z0).map z0=l.map z0:=by
 rw[List.map_map];rfl
theorem adW(b:Bk):nmB (nmB b)=nmB b:=by
 simp only[nmB,aaG]
def SmQ(x y:Bk×Int):Prop:=x.2=y.2/\nmB x.1=nmB y.1
theorem SmQ.ite{c:Prop}{_:Decidable c}{x y x' y':Bk×Int}(h1:c->SmQ x x')(h2:¬c->SmQ y y'):SmQ (if c then x else y) (if c then x' else y'):=by
 by_cases h:c
 .rw[if_pos h,if_pos h];exact h1 h
 .rw[if_neg h,if_neg h];exact h2 h
theorem SmQ.no(b:Bk)(e:Int):SmQ (b,e) (nmB b,e):=⟨rfl,(adW b).symm⟩
end
end Go.Proofs.YtanhdobabijmoaaGreatDoor
