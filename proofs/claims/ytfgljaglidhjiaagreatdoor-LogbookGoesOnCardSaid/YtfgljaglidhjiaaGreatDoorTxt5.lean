import Derived.Test.YtfgljaglidhjiaaGreatDoorTxt4
import Derived.Test.YtfgljaglidhjiaaGreatDoorTxt2
set_option linter.all false
namespace Go.Proofs.YtfgljaglidhjiaaGreatDoor
open List(length_flatMap map_take)
open Go Go.Abs Go.Rock Go.Book
variable {σ:SK}
theorem Tz{F:List Abs.aE}{b:Bk}{er:List Int}{nm:List UInt8}{l:List Int}{b':Bk}{e:Int}(ht:bV b.ar≠[]→b.bN.ct≠[])(hz:Sz b)(hll:l.length≤1000000)(hml:b.ar.length≤40)(h1:b.rules.length≤1000000)(h2:b.AZ.length≤1000000)(h3:∀e∈b.AZ,e.sp.length≤1000000)(hk:Trem.rQ b.k0 b.k1 b.k2=true)(hpl:∀l∈b.az,l.length≤1000000000)(hd:yV b l=(b',e))(he:e≠0):
  lim T (.call false gq [.ref σ.length 6 0 0,.str nm,.aH l.length (l.flatMap aY)] (F::b.bj σ.length er::σ))=some (.gf (rf e) (F::b.bj σ.length er::σ)):=by
 refine ep wB kX.eq_1 rfl ?_;have hLf:=fun S=>EJ (σ:=σ) (b:=b) (er:=er) (S:=S) (by omega)
 simp only[Bk.bj,Bk.cells]at hLf;unfold yV at hd;split at hd
 case isTrue c1 =>
  cases hd;simp[-length_flatMap,-map_take,Bk.bj,Bk.cells,hLf,c1,dK,D.clean,rf]
 rename_i c1;have ht:=ht c1;have q1:0<(bV b.ar).length:=aT.2 c1;split at hd
 case isFalse c2 =>
  cases hd;have q2:¬(b.az.length:Int)<200:=by omega
  simp[-length_flatMap,-map_take,Bk.bj,Bk.cells,hLf,q1,q2,cH,dK,D.clean,rf]
 rename_i c2;have q2:(b.az.length:Int)<200:=by omega
 split at hd
 case isFalse c3 =>
  cases hd;have q3:((l.length:Int) == (b.bN.an.length:Int))=false:=by simp;omega
  simp[-length_flatMap,-map_take,Bk.bj,Bk.cells,hLf,q1,q2,q3,cH,dK,D.clean,rf]
 rename_i c3;obtain⟨kp0,kp,hkp,hkp2,hkp3⟩:∃c kp:Int,wR b=c∧Dp b=kp∧((c=0∧kp=b.k0)∨(c=1∧kp=b.k1)∨(c=2∧kp=b.k2)):=by
  refine⟨_,_,rfl,rfl,?_⟩;have:=I3 (b:=b);unfold Dp;split
  ·rename_i h;exact .inl ⟨h,rfl⟩
  ·split
   ·rename_i h;exact .inr (.inl ⟨h,rfl⟩)
   ·refine .inr (.inr ⟨by omega,rfl⟩)
 have hkb:0≤kp∧kp≤1000:=by
  simp only[Trem.rQ,af,au]at hk;rcases hkp3 with⟨_,rfl⟩ | ⟨_,rfl⟩ | ⟨_,rfl⟩<;>omega
 have hC:=fun S=>KW (σ:=σ) (b:=b) (er:=er) (S:=S) h1 h2 h3
 have hR:=JO (σ:=F::b.bj σ.length er::σ) hkb hll (bp:=.ref σ.length 6 0 0) (X:=.aH (bV b.ar).length ((bV b.ar).flatMap mS.enc)) rfl rfl l.length 0 [] (by omega) rfl;rw[aO]at hR;rw[hkp]at hC;simp only[Bk.bj,Bk.cells]at hC;have hw:(b.bN.an.length:Int)=(l.length:Int):=by omega
 split at hd
 case isFalse c4 =>
  cases hd;have c4':¬ie l (fun n=>cT n (-100000) 100000)=true:=c4;rcases hkp3 with⟨rfl,e2⟩ | ⟨rfl,e2⟩ | ⟨rfl,e2⟩
  all_goals
   subst e2;simp[-length_flatMap,-map_take,Bk.bj,Bk.cells,hLf,q1,q2,hw,hC,cH];refine WL.to hR (by simp) (by simp[Bk.bj,Bk.cells]) ?_;intro x e σ' hq;simp only[Aq,if_neg c4']at hq;obtain⟨rfl,s,rfl⟩:=hq;simp[Bk.bj,Bk.cells,D.clean,rf]
 rename_i c4;split at hd
 case isTrue=>cases hd;exact absurd rfl he
 rename_i c5;cases hd;have hM:=fun S=>ri (σ:=S) c5
 have he':=c5;rcases hkp3 with⟨rfl,e2⟩ | ⟨rfl,e2⟩ | ⟨rfl,e2⟩
 all_goals
  subst e2;simp[-length_flatMap,-map_take,Bk.bj,Bk.cells,hLf,q1,q2,hw,hC,cH];refine WL.to hR (by simp) (by simp[Bk.bj,Bk.cells]) ?_;intro x e σ' hq;simp only[Aq,if_pos c4,List.nil_append]at hq;obtain⟨rfl,g0,g6,g8,rfl⟩:=hq;have hnp:qd b l=b.az++[l.map (tJ (Dp b))]:=rfl;rw[hkp2]at hnp;rw[hnp]at c5 ⊢;generalize hrs:l.map (tJ _)=rs at g8 c5 ⊢;have hrl:rs.length=l.length:=by rw[← hrs];simp
  have hroom:(b.az.length+1)*24≤room:=by unfold room;omega
  have h24:24≤room:=by unfold room;omega
  have hpel:=Ko b.az;have htk:(b.az.flatMap pE).take b.az.length=b.az.flatMap pE:=ai (by omega);have hfr:=fun S v hS=>Jc (S:=S) (L:=σ.length+1+1) (v:=v) (n:=b.az.length+1) hS (by omega) (az:=b.az) rfl (r:=rs) (M:=.cells 0 [])
  have hLp:=JN (σ:=σ) (b:=b) (er:=er) (ls:=bV b.ar) (az:=b.az++[rs]) ht hz (fun e he=>(dj.1 he).1) (by have:=jv (fun e:mS=>e.left) b.ar;simp only[bV];omega) (by simp;omega) (by
   intro r hr;rcases ba.1 hr with hr | hr
   ·exact hpl r hr
   ·simp at hr;subst hr;omega) (S:=[.dead,.cells 0 [],.dead]::F::b.bj σ.length er::σ) (by simp[gB]) (bV b.ar).length 0 (by omega)
  rw[aO]at hLp;have hcl:∀k,(D.aH k (b.az.flatMap pE++pE rs)).clean=true:=fun k=>by simp[CH,T3,pE,bw]
  have hcl0:∀k,(D.aH k (pE rs)).clean=true:=fun k=>by simp[pE,bw]
  have hnl2:=eL (f:=pE) (l:=b.az++[rs]) (by simp);simp only[bC,aG,bL,gh,aS,dP,eE]at hnl2;generalize herr:cN (fun e=>sY b.bN e.m (b.az++[rs])) (bV b.ar)=err at c5 ⊢;have hrc:(D.uH 311 (.agg [.int .i64 err])).clean=true:=rfl;by_cases hp0:b.az=[]
  ·have hnl:nl pE b.az=.aK:=by simp[nl,hp0]
   have hfr':=hfr;simp only[hp0,bL,dP,List.nil_append,cZ]at hfr';simp[-length_flatMap,-map_take,g0,g6,g8,Bk.bj,Bk.cells,hnl,GM,h24,hfr'];refine WL.to hLp (by simp[hp0]) (by simp[Bk.bj,Bk.cells,hnl]) ?_;rintro x e σ' ⟨rfl,hh⟩;rw[herr,if_neg c5]at hh;subst hh;simp[Bk.bj,Bk.cells,rf,hrc,hnl]
  ·simp[-length_flatMap,-map_take,g0,g6,g8,Bk.bj,Bk.cells,eL hp0,IM hp0 (by omega:b.az.length≤1000000),hroom,hpel,htk,hfr];refine WL.to hLp (by simp) (by simp[Bk.bj,Bk.cells,eL hp0]) ?_;rintro x e σ' ⟨rfl,hh⟩;rw[herr,if_neg c5]at hh;subst hh;simp[Bk.bj,Bk.cells,rf,hrc,eL hp0]
end Go.Proofs.YtfgljaglidhjiaaGreatDoor
set_option maxRecDepth 100000
namespace Go.Proofs.YtfgljaglidhjiaaGreatDoor
open List(length_flatMap map_take)
open Go Go.Abs Go.Rock
variable {σ:SK}
def AA(t:Int×Int×Int):List D:=[.int .i64 t.1,.int .i64 t.2.1,.int .i64 t.2.2]
theorem ahP(l:List (Int×Int×Int)):(l.flatMap AA).length=l.length*3:=bX (f:=AA) (w:=3) (fun _=>rfl) l
end Go.Proofs.YtfgljaglidhjiaaGreatDoor
set_option maxRecDepth 100000
namespace Go.Proofs.YtfgljaglidhjiaaGreatDoor
open List(length_flatMap map_take)
open Go Go.Abs Go.Rock
variable {σ:SK}
theorem RF{b:cz}{x:wO}{n:Nat}(h:Bv b)(hw:0≤x.rS∧x.rS≤255):
  lim T (.call false mu [.agg [.int .i64 b.f.x,.int .i64 b.f.y,.int .i64 b.f.z,.int .i64 b.f.k,.aH b.ct.length (b.ct.flatMap Rw.enc),.int .i64 b.bK,.int .i64 b.lift,.int .i64 b.deep,.aH b.an.length (b.an.flatMap bI.enc)],.agg x.enc,.int .i64 n] σ)=some (.val (.int .i64 (vX b n x)) σ):=by
 refine aw C0 po.eq_1 rfl ?_;have hs:=fun σ=>zg (σ:=σ) h
 have hz:=h.sz;have hn:=h.n;have hwl:=h.an;have w1:=fN (n:=x.rS) (by omega);have w2:=fN (n:=(b.n:Int)-1) (by omega);have w3:=fN (n:=(b.an.length:Int)-1) (by omega);unfold vX;cases c1:cT x.rS 1 4
 ·simp[-length_flatMap,-map_take,dO,w1,c1]
 by_cases c2:x.lo < -10000000000
 ·simp[-length_flatMap,-map_take,dO,w1,c1,c2]
 by_cases c3:x.hi<x.lo
 ·simp[-length_flatMap,-map_take,dO,w1,c1,c2,c3]
 by_cases c4:10000000000<x.hi
 ·simp[-length_flatMap,-map_take,dO,w1,c1,c2,c3,c4]
 have hsz:b.size=(b.n:Int):=hz;by_cases c5:x.rS=1
 ·cases c6:cT x.tick 0 n
  ·simp[-length_flatMap,-map_take,dO,w1,w2,show cT 1 1 4=true from rfl,c2,c3,c4,c5,c6,hs,cM,bu]
  ·cases c7:cT x.idx 0 ((b.n:Int)-1)<;>
    simp[-length_flatMap,-map_take,dO,w1,w2,show cT 1 1 4=true from rfl,c2,c3,c4,c5,c6,c7,hs,hsz,cM,bu]
 ·cases c6:cT x.tick 1 n
  ·simp[-length_flatMap,-map_take,dO,w1,w3,c1,c2,c3,c4,c5,c6,cM,bu]
  ·cases c7:cT x.idx 0 ((b.an.length:Int)-1)<;>
    simp[-length_flatMap,-map_take,dO,w1,w3,c1,c2,c3,c4,c5,c6,c7,cM,bu]
theorem agf{lo hi n:Int}(h1 : -10000000000≤lo∧lo≤10000000000)(h2 : -10000000000≤hi∧hi≤10000000000)(hn : -100000000000000≤n∧n≤100000000000000):
  lim T (.call false nR [.agg [.int .i64 lo,.int .i64 hi],.int .i64 n] σ)=some (.val (.int .i64 (BE lo hi n)) σ):=by
 refine aw DN ru.eq_1 rfl ?_;have w1:=fN (n:=n-hi) (by omega);have w2:=fN (n:=n-lo) (by omega);have w3:=fN (n:=max 0 (n-hi)+min 0 (n-lo)) (by omega);simp[-length_flatMap,-map_take,w1,w2,w3,BE]
theorem TB{y:Rock.aE}(h1:0≤y.m∧y.m≤1000000)(h2:0≤y.h∧y.h≤10000000000):lim T (.call false jd [.agg y.enc] σ)=some (.val (.int .i64 y.FC) σ):=by
 refine aw Co ot.eq_1 rfl ?_;unfold Rock.aE.FC;by_cases c:y.m=0
 ·simp[-length_flatMap,-map_take,c]
 ·have e:y.h.tdiv y.m=y.h / y.m:=bx h2.1;have b1:0≤y.h / y.m∧y.h / y.m≤y.h:=⟨Int.ediv_nonneg h2.1 h1.1,Int.ediv_le_self _ h2.1⟩;have w1:=fN (n:=y.h.tdiv y.m) (by omega);simp[-length_flatMap,-map_take,c,w1]
theorem JK:lim T (.call false uF [] σ)=some (.val (.agg [.iW,.iW,.fn kK [] [],.fn jd [] [],.fn jN [] []]) σ):=by
 refine aw JS wU.eq_1 rfl ?_;simp[-length_flatMap,-map_take]
theorem afF{y:Rock.aE}(h1:0≤y.m∧y.m≤1000000)(h2:0≤y.h∧y.h≤10000000000):0≤y.FC∧y.FC≤10000000000:=by
 unfold Rock.aE.FC;split
 ·omega
 ·rw[bx h2.1];have b1:0≤y.h / y.m∧y.h / y.m≤y.h:=⟨Int.ediv_nonneg h2.1 h1.1,Int.ediv_le_self _ h2.1⟩;omega
theorem Q6{b:cz}{m:cU}{r:RunT}{n:Nat}{x:wO}(h:Fv b m)(hr:La b n r.1 r.2)(hx:Rdv b n x):0≤vY b m r x∧vY b m r x≤1000000000000:=by
 unfold vY;split
 ·rename_i h1;obtain⟨p1,p2,p3⟩:=hx.p h1;have hz:=h.bv.sz;obtain⟨s1,s2⟩:=amS hr (t:=x.tick.toNat) (by omega);rw[s1];have:=Kq h s2 (i:=x.idx.toNat) (by unfold cz.size at p3;omega);simp only[ic];omega
 ·rename_i h1;obtain⟨p1,p2,p3⟩:=hx.y h1;obtain⟨y1,y2⟩:=afd hr (t:=x.tick.toNat-1) (by omega);have y3:=am5 y2 (w:=x.idx.toNat) (by omega);obtain⟨g1,g2,g3⟩:=y2.ok _ (aj y3);rw[y1];simp only[ic,Rock.aE.MO];have:=afF g1 g2;split
  ·omega
  ·split<;>omega
theorem agm{b:cz}{m:cU}{r:RunT}{n:Nat}{x:wO}(h:Fv b m)(hr:La b n r.1 r.2)(hx:Rdv b n x)(hn:n≤200):
  lim T (.call false lj [.agg [.int .i64 b.f.x,.int .i64 b.f.y,.int .i64 b.f.z,.int .i64 b.f.k,.aH b.ct.length (b.ct.flatMap Rw.enc),.int .i64 b.bK,.int .i64 b.lift,.int .i64 b.deep,.aH b.an.length (b.an.flatMap bI.enc),.str m.name,.aH m.bq.length (m.bq.flatMap aY)],.agg [.aH r.1.length (r.1.flatMap yB),.aH r.2.length (r.2.flatMap yB)],.agg x.enc] σ)=some (.val (.int .i64 (vY b m r x)) σ):=by
 refine aw Cs oz.eq_1 rfl ?_;unfold vY;have hsl:=hr.sl;have hyl:=hr.yl;by_cases h1:x.rS=1
 ·obtain⟨p1,p2,p3⟩:=hx.p h1;have hz:=h.bv.sz;obtain⟨s1,s2⟩:=amS hr (t:=x.tick.toNat) (by omega);have hP:=fun σ=>GQ (σ:=σ) h s2 (i:=x.idx.toNat) (by unfold cz.size at p3;omega)
  rw[eP p2]at hP;have a1:=afs s1;have e2:x.tick<((n:Int)+1):=by omega
  rw[s1];simp[-length_flatMap,-map_take,h1,hsl,p1.1,e2,a1,hP]
 ·obtain⟨p1,p2,p3⟩:=hx.y h1;obtain⟨y1,y2⟩:=afd hr (t:=x.tick.toNat-1) (by omega);have y3:=am5 y2 (w:=x.idx.toNat) (by omega);obtain⟨g1,g2,g3⟩:=y2.ok _ (aj y3);have a1:=afs y1;have a4:=bW (f:=aE.enc) (w:=3) (fun _=>rfl) y3;have hyw:=y2.len;have w1:=fN (n:=x.tick-1) (by omega);have e1:0≤x.tick-1:=by omega
  have e2:x.tick-1<(n:Int):=by omega
  have e3:(x.tick-1).toNat=x.tick.toNat-1:=by omega
  have hw:=hx.rS;rw[if_neg h1,y1];have hA:=fun σ=>agn (σ:=σ) (x:=bP (rowAt r.2 (x.tick.toNat-1)) x.idx.toNat)
  have hK:=fun σ=>TE (σ:=σ) (x:=bP (rowAt r.2 (x.tick.toNat-1)) x.idx.toNat)
  simp only[aE.enc]at hA hK;rcases(show x.rS=2∨x.rS=3∨x.rS=4 by omega)with h2 | h2 | h2
  ·simp[-length_flatMap,-map_take,h2,hyl,w1,p1.1,e1,e2,e3,a1,a4,JK,hA,hyw,p2,p3,Rock.aE.MO]
  ·have hW:=fun σ=>TB (σ:=σ) g1 g2
   simp only[aE.enc]at hW;simp[-length_flatMap,-map_take,h2,hyl,w1,p1.1,e1,e2,e3,a1,a4,JK,hW,hyw,p2,p3,Rock.aE.MO]
  ·simp[-length_flatMap,-map_take,h2,hyl,w1,p1.1,e1,e2,e3,a1,a4,JK,hK,hyw,p2,p3,Rock.aE.MO]
end Go.Proofs.YtfgljaglidhjiaaGreatDoor
set_option maxRecDepth 100000
namespace Go.Proofs.YtfgljaglidhjiaaGreatDoor
open List(length_flatMap map_take)
open Go Go.Abs Go.Rock
variable {σ:SK}
theorem Q5{l:List wO}{j:Nat}{m:wO}(h:l[j]?=some m):((l.flatMap wO.enc).drop (j*5)).take 5=m.enc :=
 bW (f:=wO.enc) (w:=5) (fun _=>rfl) h
theorem RM{A B:Abs.aE}:lim T (.yc fL [.ref σ.length 2 0 0] (some (.uH 262 (.agg []))) ([A,B,.cells 0 [.int .i64 0]]::σ))=some (.val (.dV []) ([A,B,.cells 0 [.int .i64 9]]::σ)):=by
 refine Bm yO qH.eq_1 rfl (by simp[-length_flatMap,-map_take,sJ];exact⟨rfl,rfl⟩) ?_;simp[-length_flatMap,-map_take]
theorem NB(l:List wO):D.bJ (l.flatMap wO.enc)=true:=iU (fun x=>by simp) l
theorem J3(l:List (List Int)):D.bJ (l.flatMap Gr)=true:=iU (fun x=>by simp[Gr,D.clean,bw]) l
theorem Bu{l0 L i w n:Nat}{S:SK}(hn:0<n)(h:¬L≤l0)(hc:cells? S L i 0=some []):cJ l0 n (.sl L i 0 0 0 w) S=(.aH 0 [],aV S L i .dead):=by
 rw[Dl h hc hn];simp
theorem QA{l0 L i w:Nat}{S:SK}(h:¬L≤l0)(hc:cells? S L i 0=some []):cJ l0 16 (.sl L i 0 0 0 w) S=(.aH 0 [],aV S L i .dead):=Bu (by omega) h hc
theorem TK{b:cz}{l:List cU}{az:List (List Int)}{rd:List wO}(h:Ok b l az)(hl:rd.length≤40)(hw:∀x∈rd,0≤x.rS∧x.rS≤255){A B:Abs.aE}:∀(k i:Nat),i+k=rd.length →
  WL T [1,2,3,4,8,9,10,32,33,34] true pv [(1,.aH l.length (l.flatMap cU.enc)),(2,.aH az.length (az.flatMap Gr)),(3,.aH rd.length (rd.flatMap wO.enc)),(4,.bB [.int .i64 b.f.x,.int .i64 b.f.y,.int .i64 b.f.z,.int .i64 b.f.k,.aH b.ct.length (b.ct.flatMap Rw.enc),.int .i64 b.bK,.int .i64 b.lift,.int .i64 b.deep,.aH b.an.length (b.an.flatMap bI.enc)]),(8,.sl σ.length 0 0 0 0 1),(9,.sl σ.length 1 0 0 0 3),(10,.ref σ.length 2 0 0),(32,.aH rd.length (rd.flatMap wO.enc)),(33,.int .i64 rd.length),(34,.int .i64 i)] ([A,B,.cells 0 [.int .i64 0]]::σ)
   (fun x e σ'=>if cN (vX b az.length) (rd.drop i)=0 then x=.exit 0∧σ'=[A,B,.cells 0 [.int .i64 0]]::σ∧get e 1=.aH l.length (l.flatMap cU.enc)∧get e 2=.aH az.length (az.flatMap Gr)∧get e 3=.aH rd.length (rd.flatMap wO.enc)∧get e 4=.bB [.int .i64 b.f.x,.int .i64 b.f.y,.int .i64 b.f.z,.int .i64 b.f.k,.aH b.ct.length (b.ct.flatMap Rw.enc),.int .i64 b.bK,.int .i64 b.lift,.int .i64 b.deep,.aH b.an.length (b.an.flatMap bI.enc)]∧get e 8=.sl σ.length 0 0 0 0 1∧get e 9=.sl σ.length 1 0 0 0 3∧get e 10=.ref σ.length 2 0 0
    else x=.ret∧get e 8=.aH 0 []∧get e 9=.aH 0 []∧get e 10=.ref σ.length 2 0 0∧σ'=[A,B,.cells 0 [.int .i64 (cN (vX b az.length) (rd.drop i))]]::σ):=by
 intro k;induction k with
 |zero =>
  intro i hi;refine DW pv.eq_1 ?_;have h1:¬i<rd.length:=by omega
  have h2:rd.drop i=[]:=aA (by omega);simp[-length_flatMap,-map_take,h1,h2,cN,NA,NB,cM,bu,J3]
 |succ k ih0 =>
  intro i hi;refine DW pv.eq_1 ?_;have h1:i<rd.length:=by omega
  obtain⟨x,hx⟩:=gE h1;have h2:=Q5 hx;have h4:=gN h1 (by omega);have h5:=cq hx;have hC:=fun σ=>RF (σ:=σ) (n:=az.length) h.bv (hw x (aj hx))
  simp only[wO.enc]at h2 hC;have ih:=ih0 (i+1) (by omega);rw[h5,cN];by_cases hc:vX b az.length x=0
  ·simp[-length_flatMap,-map_take,h1,h2,h4,hC,hc,NA,NB,cM,bu,J3];exact WL.to ih (by simp) (by simp) fun x e σ hh=>by simpa[hc]using hh
  ·simp[-length_flatMap,-map_take,h1,h2,h4,hC,hc,NA,NB,cM,bu,J3];have z:=QA (l0:=σ.length) (L:=σ.length+1) (i:=0) (w:=1) (S:=[.cells 0 [],.cells 0 []]::[A,B,.cells 0 [D.int .i64 (vX b (az.length:Int) x)]]::σ) (by omega) (by simp);simp at z;rw[z];simp only[];rw[QA (by omega) (by simp)];simp
end Go.Proofs.YtfgljaglidhjiaaGreatDoor
set_option maxRecDepth 100000
namespace Go.Proofs.YtfgljaglidhjiaaGreatDoor
open List(length_flatMap map_take)
open Go Go.Abs Go.Rock
variable {σ:SK}
abbrev Tri:=Int×Int×Int
def zF(i n:Nat):Nat→List Int→Nat×List Tri→Nat×List Tri
 |_,[],st=>st
 |k,v::vs,st=>zF i n (k+1) vs (if v≠0∧st.1=n then(k,st.2++[((i:Int),(k:Int),v)])else st)
theorem HY{i n:Nat}:∀(vs:List Int) (k:Nat) (st:Nat×List Tri),st.1≠n→zF i n k vs st=st
 |[],k,st,h=>rfl
 |v::vs,k,st,h=>by
  simp only[zF];rw[if_neg (fun hh=>h hh.2)];exact HY vs (k+1) st h
theorem Jx{i n:Nat}:∀(vs:List Int) (k:Nat) (st:Nat×List Tri),k+vs.length=n→(st.1≠n→st.1<n)→(zF i n k vs st).2.length≤st.2.length+1∧(zF i n k vs st).1≤n
 |[],k,st,h,hh=>by simp only[zF];exact⟨by omega,Classical.byContradiction fun h1=>by have:=hh (by omega);omega⟩
 |v::vs,k,st,h,hh=>by
  simp only[zF];simp only[aG]at h;by_cases hc:v≠0∧st.1=n
  ·rw[if_pos hc,HY vs (k+1) _ (by simp only;omega)];simp;omega
  ·rw[if_neg hc];exact Jx vs (k+1) st (by omega) hh
def CN(b:cz)(m:cU)(r:RunT)(rd:List wO):List Int:=rd.map fun x=>BE x.lo x.hi (vY b m r x)
theorem Jp(b:cz)(m:cU)(r:RunT)(rd:List wO):(CN b m r rd).length=rd.length:=by simp[CN]
theorem anE{b:cz}{l:List cU}{az:List (List Int)}{rd:List wO}{rs:List RunT}{m:cU}{r:RunT}{i:Nat}(h:Ok b l az)(hR:Rs b l az.length rs)(hl:rd.length≤40)(hx:∀x∈rd,Rdv b az.length x)(hm:l[i]?=some m)(hr:rs[i]?=some r){A B:Abs.aE}{L10:Nat}{s0:Nat}(hs0:s0≤100):
  ∀(k j:Nat) (st:Nat×List Tri),j+k=rd.length→st.1≤rd.length→st.2.length≤s0+j →
  WL T [3,4,8,9,10,15,16,17,18,51,52,53,60,61,62] false pw [(3,.aH rd.length (rd.flatMap wO.enc)),(4,.bB [.int .i64 b.f.x,.int .i64 b.f.y,.int .i64 b.f.z,.int .i64 b.f.k,.aH b.ct.length (b.ct.flatMap Rw.enc),.int .i64 b.bK,.int .i64 b.lift,.int .i64 b.deep,.aH b.an.length (b.an.flatMap bI.enc)]),(8,.sl σ.length 0 L10 0 L10 1),(9,.sl σ.length 1 st.2.length 0 st.2.length 3),(10,.ref σ.length 2 0 0),(15,.aH rs.length (rs.flatMap Dz)),(16,.int .i64 i),(17,.own 0 [.str m.name,.aH m.bq.length (m.bq.flatMap aY)]),(18,.int .i64 st.1),(51,.aH l.length (l.flatMap cU.enc)),(52,.int .i64 l.length),(53,.int .i64 i),(60,.aH rd.length (rd.flatMap wO.enc)),(61,.int .i64 rd.length),(62,.int .i64 j)]
   ([A,.cells st.2.length (st.2.flatMap AA),B]::σ)
   (fun x e σ'=>x=.exit 4∧∃st',st'=zF i rd.length j ((CN b m r rd).drop j) st∧get e 3=.aH rd.length (rd.flatMap wO.enc)∧get e 4=.bB [.int .i64 b.f.x,.int .i64 b.f.y,.int .i64 b.f.z,.int .i64 b.f.k,.aH b.ct.length (b.ct.flatMap Rw.enc),.int .i64 b.bK,.int .i64 b.lift,.int .i64 b.deep,.aH b.an.length (b.an.flatMap bI.enc)]∧get e 8=.sl σ.length 0 L10 0 L10 1∧get e 9=.sl σ.length 1 st'.2.length 0 st'.2.length 3∧get e 10=.ref σ.length 2 0 0∧get e 15=.aH rs.length (rs.flatMap Dz)∧get e 16=.int .i64 i∧get e 18=.int .i64 st'.1∧get e 51=.aH l.length (l.flatMap cU.enc)∧get e 52=.int .i64 l.length∧get e 53=.int .i64 i ∧
    σ'=[A,.cells st'.2.length (st'.2.flatMap AA),B]::σ):=by
 intro k;induction k with
 |zero =>
  intro j st hj h1 h2;refine aM pw.eq_1 ?_;have h3:¬j<rd.length:=by omega
  have h4:(CN b m r rd).drop j=[]:=aA (by rw[Jp];omega);simp[-length_flatMap,-map_take,h3,h4,zF]
 |succ k ih0 =>
  intro j st hj g1 g2;refine aM pw.eq_1 ?_;have h1:j<rd.length:=by omega
  obtain⟨x,hxj⟩:=gE h1;have hmm:=aj hm;have hrr:=hR.all r (aj hr);have hxv:=hx x (aj hxj);have h2:=Q5 hxj;have h4:=gN h1 (by omega);have hpl:=h.SD;have hi:i<rs.length:=(aB.1 hr).1;have hV:=fun σ=>agm (σ:=σ) (h.fv m hmm) hrr hxv hpl
  have hb:=Q6 (h.fv m hmm) hrr hxv;have hen:=hxv.ends;have hM:=fun σ=>agf (σ:=σ) (lo:=x.lo) (hi:=x.hi) (n:=vY b m r x) (by omega) (by omega) (by omega)
  have a1:=ahu hr;have e1:(CN b m r rd)[j]?=some (BE x.lo x.hi (vY b m r x)):=by simp[CN,hxj]
  have h5:=cq e1;simp only[wO.enc]at h2 hV;have a7:=ahP st.2;have a8:(st.2.flatMap AA).take (st.2.length*3)=st.2.flatMap AA:=ai (by omega);have h8:(st.2.length+1)*24≤room:=by unfold room;omega
  rw[h5,zF];generalize BE x.lo x.hi (vY b m r x)=v at *
  by_cases c1:v=0
  ·have ih:=ih0 (j+1) st (by omega) g1 (by omega);simp[-length_flatMap,-map_take,h1,h2,h4,hV,hM,hi,a1,c1,bw,I2,D.clean];exact WL.to ih (by simp) (by simp) fun x e σ hh=>by simpa[c1]using hh
  ·by_cases c2:st.1=rd.length
   ·have ih:=ih0 (j+1) (j,st.2++[((i:Int),(j:Int),v)]) (by omega) (by simp only;omega) (by simp;omega);simp[-length_flatMap,-map_take,h1,h2,h4,hV,hM,hi,a1,c1,c2,a7,a8,h8,bw,I2,D.clean];exact WL.to ih (by simp) (by simp[AA]) fun x e σ hh=>by simpa[c1,c2]using hh
   ·have ih:=ih0 (j+1) st (by omega) g1 (by omega);have c3:¬(st.1:Int)=rd.length:=by omega
    simp[-length_flatMap,-map_take,h1,h2,h4,hV,hM,hi,a1,c1,c2,c3,bw,I2,D.clean];exact WL.to ih (by simp) (by simp) fun x e σ hh=>by simpa[c2]using hh
end Go.Proofs.YtfgljaglidhjiaaGreatDoor
set_option maxRecDepth 100000
namespace Go.Proofs.YtfgljaglidhjiaaGreatDoor
open List(length_flatMap map_take)
open Go Go.Abs Go.Rock
variable {σ:SK}
def HT(b:cz)(rd:List wO):Nat→List (cU×RunT)→List Int×List Tri→List Int×List Tri
 |_,[],st=>st
 |i,p::t,st=>HT b rd (i+1) t (if(zF i rd.length 0 (CN b p.1 p.2 rd) (rd.length,st.2)).1=rd.length then st.1++[(i:Int)]else st.1,(zF i rd.length 0 (CN b p.1 p.2 rd) (rd.length,st.2)).2)
theorem anD{b:cz}{l:List cU}{az:List (List Int)}{rd:List wO}{rs:List RunT}(h:Ok b l az)(hR:Rs b l az.length rs)(hl:rd.length≤40)(hx:∀x∈rd,Rdv b az.length x){B:Abs.aE}:
  ∀(k i:Nat) (st:List Int×List Tri),i+k=l.length→st.1.length≤i→st.2.length≤i →
  WL T [3,4,8,9,10,15,51,52,53] false pz [(3,.aH rd.length (rd.flatMap wO.enc)),(4,.bB [.int .i64 b.f.x,.int .i64 b.f.y,.int .i64 b.f.z,.int .i64 b.f.k,.aH b.ct.length (b.ct.flatMap Rw.enc),.int .i64 b.bK,.int .i64 b.lift,.int .i64 b.deep,.aH b.an.length (b.an.flatMap bI.enc)]),(8,.sl σ.length 0 st.1.length 0 st.1.length 1),(9,.sl σ.length 1 st.2.length 0 st.2.length 3),(10,.ref σ.length 2 0 0),(15,.aH rs.length (rs.flatMap Dz)),(51,.aH l.length (l.flatMap cU.enc)),(52,.int .i64 l.length),(53,.int .i64 i)]
   ([.cells st.1.length (st.1.flatMap aY),.cells st.2.length (st.2.flatMap AA),B]::σ)
   (fun x e σ'=>x=.exit 2∧∃st',st'=HT b rd i ((l.zip rs).drop i) st∧get e 8=.sl σ.length 0 st'.1.length 0 st'.1.length 1∧get e 9=.sl σ.length 1 st'.2.length 0 st'.2.length 3∧get e 10=.ref σ.length 2 0 0 ∧
    σ'=[.cells st'.1.length (st'.1.flatMap aY),.cells st'.2.length (st'.2.flatMap AA),B]::σ):=by
 intro k;induction k with
 |zero =>
  intro i st hi g1 g2;refine aM pz.eq_1 ?_;have h1:¬i<l.length:=by omega
  have h2:(l.zip rs).drop i=[]:=aA (by rw[List.length_zip];omega);simp[-length_flatMap,-map_take,h1,h2,HT]
 |succ k ih0 =>
  intro i st hi g1 g2;refine aM pz.eq_1 ?_;have h1:i<l.length:=by omega
  have hlen:=hR.len;have hne:=hR.ne;obtain⟨m,hm⟩:=gE h1;obtain⟨r,hr⟩:∃r,rs[i]?=some r:=gE (by omega);have h2:=QS hm;have h4:=gN h1 (by omega);have hz:(l.zip rs)[i]?=some (m,r):=by simp[List.getElem?_zip_eq_some,hm,hr]
  have h5:=cq hz;have hsl:=Jx (i:=i) (CN b m r rd) 0 (rd.length,st.2) (n:=rd.length) (by rw[Jp];omega) (by simp);rw[h5,HT];simp[-length_flatMap,-map_take,h1,h2,bw,D.clean];refine WL.to (anE (σ:=σ) h hR hl hx hm hr (A:=.cells st.1.length (st.1.flatMap aY)) (B:=B) (L10:=st.1.length) (s0:=50) (by omega) rd.length 0 (rd.length,st.2) (by omega) (by simp) (by simp only;omega)) (by simp) (by simp) ?_;rintro x e σ' ⟨rfl,st',hst,q3,q4,q8,q9,q10,q15,q16,q18,q51,q52,q53,rfl⟩;rw[aO]at hst;rw[← hst];rw[← hst]at hsl;have a4:=QJ st.1;have a6:(st.1.flatMap aY).take st.1.length=st.1.flatMap aY:=ai (by omega);have h7:(st.1.length+1)*8≤room:=by unfold room;omega
  by_cases hc:st'.1=rd.length
  ·have ih:=ih0 (i+1) (st.1++[(i:Int)],st'.2) (by omega) (by simp;omega) (by simp only at hsl ⊢;omega);rw[if_pos hc];simp[-length_flatMap,-map_take,q3,q4,q8,q9,q10,q15,q16,q18,q51,q52,q53,hc,h4,a4,a6,h7];exact WL.to ih (by simp) (by simp) fun x e σ hh=>by simpa using hh
  ·have ih:=ih0 (i+1) (st.1,st'.2) (by omega) (by simp only;omega) (by simp only at hsl ⊢;omega);rw[if_neg hc];have hc':¬(st'.1:Int)=rd.length:=by omega
   simp[-length_flatMap,-map_take,q3,q4,q8,q9,q10,q15,q16,q18,q51,q52,q53,hc,hc',h4];exact WL.to ih (by simp) (by simp) fun x e σ hh=>by simpa using hh
def Oj(b:cz)(l:List cU)(az:List (List Int))(rd:List wO):D :=
 if xJ b az.length rd=0 then
  match xN b az l with
  |some rs => .dV [.aH (HT b rd 0 (l.zip rs) ([],[])).1.length ((HT b rd 0 (l.zip rs) ([],[])).1.flatMap aY),.aH (HT b rd 0 (l.zip rs) ([],[])).2.length ((HT b rd 0 (l.zip rs) ([],[])).2.flatMap AA),.int .i64 0]
  |none => .dV [.aH 0 [],.aH 0 [],.int .i64 9]
 else .dV [.aH 0 [],.aH 0 [],.int .i64 (xJ b az.length rd)]
theorem Fe{l0 a b:Nat}{k:Int}{A B:List D}{S S1 S2:SK}{d1 d2:D}(h1:cJ l0 15 d1 S=(.aH a A,S1))(h2:cJ l0 15 d2 S1=(.aH b B,S2)):cJ l0 16 (.dV [d1,d2,.int .i64 k]) S=(.dV [.aH a A,.aH b B,.int .i64 k],S2):=by
 by_cases hc:D.clean (.dV [d1,d2,.int .i64 k])=true
 ·rw[qQ hc (by omega)];simp only[D.clean,D.bJ,Bool.and_true,af]at hc;rw[qQ hc.1 (by omega)]at h1;rw[qQ hc.2 (by omega)]at h2;cases h1;cases h2;rfl
 ·rw[Ea (by simpa using hc) (by omega)];simp only[BZ,D7];rw[h1];simp only;rw[h2];simp only;rw[qQ (by rfl) (by omega)]
end Go.Proofs.YtfgljaglidhjiaaGreatDoor
set_option maxRecDepth 100000
namespace Go.Proofs.YtfgljaglidhjiaaGreatDoor
open List(length_flatMap map_take)
open Go Go.Abs Go.Rock Go.Book
variable {σ:SK}
theorem D9{α:Type}{f:α→List D}{l:List α}{v t:Nat}{e:Env}{S:SK}(h:Abs.get e v=nl f l):Abs.get (NJ v (nl f l) e S).1 t=if v=t then .aH l.length (l.flatMap f)else Abs.get e t:=by
 unfold nl at h ⊢;split at h
 ·rename_i hl;subst hl;simp
 ·rename_i hl;simp[hl];intro hh;subst hh;exact h
theorem GF{α:Type}{f:α→List D}{l:List α}{v:Nat}{e:Env}{S:SK}:(NJ v (nl f l) e S).2=S:=by
 unfold nl;split<;>simp
theorem M7{wq:D}{b:cz}{l:List cU}{az:List (List Int)}{rd:List wO}(hwq:wq.wQ=.aH b.an.length (b.an.flatMap bI.enc))(h:Ok b l az)(hl:rd.length≤1000000000)(hw:∀x∈rd,0≤x.rS∧x.rS≤255)(hσ:σ≠[]):
  lim T (.call false mw [.agg [.int .i64 b.f.x,.int .i64 b.f.y,.int .i64 b.f.z,.int .i64 b.f.k,.aH b.ct.length (b.ct.flatMap Rw.enc),.int .i64 b.bK,.int .i64 b.lift,.int .i64 b.deep,wq],.aH l.length (l.flatMap cU.enc),nl Gr az,.aH rd.length (rd.flatMap wO.enc)] σ)=some (.val (Oj b l az rd) σ):=by
 have h1:=fun σ=>age (σ:=σ) h
 unfold Oj;by_cases c0:40<rd.length
 ·have e1:xJ b az.length rd=3:=by simp[xJ,c0]
  rw[e1];refine aw xg oJ.eq_1 rfl ?_;simp[-length_flatMap,-map_take,hwq,D9,GF,h1,show(40:Int)<rd.length by omega,cM,bu];have hp:=aT.2 hσ;rw[Fe (Bu (by omega) (by omega) (by simp)) (Bu (by omega) (by omega) (by simp))];simp
 have e1:xJ b az.length rd=cN (vX b az.length) rd:=by simp[xJ,c0]
 rw[e1];have c0':¬(40:Int)<rd.length:=by omega
 have hL:=TK (σ:=σ) h (by omega) hw (A:=.cells 0 []) (B:=.cells 0 []) rd.length 0 (by omega);rw[aO]at hL;by_cases c1:cN (vX b az.length) rd=0
 ·rw[c1]at hL;rw[if_pos c1];have hx:∀x∈rd,Rdv b az.length x:=fun x hx=>Rdv.of (vQ c1 x hx)
  refine Ln xg oJ.eq_1 rfl rfl ?_;cases hrs:xN b az l with
  |none =>
   have h2:=fun σ=>Tv (σ:=σ) h hrs
   have hX:wh T (.fn fL [] []) [.ref σ.length 2 0 0] (some (.uH 262 (.agg []))) ([.cells 0 [],.cells 0 [],.cells 0 [.int .i64 0]]::σ)=some ([.cells 0 [],.cells 0 [],.cells 0 [.int .i64 9]]::σ):=vf RM;simp[-length_flatMap,-map_take,KL,AV,hwq,D9,GF,h1,c0',cM,bu];refine WL.to hL (by simp) (by simp) ?_;intro x e σ' hh;rw[if_pos rfl]at hh;obtain⟨rfl,rfl,g1,g2,g3,g4,g8,g9,g10⟩:=hh;simp[-length_flatMap,-map_take,KL,AV,g1,g2,g3,g4,g8,g9,g10,cM,bu];rw[xk tA.eq_1];simp[-length_flatMap,-map_take,KL,AV,g1,g2,g3,g4,g8,g9,g10,h2,hX,cM,bu,bw];have hp:=aT.2 hσ;rw[Fe (Bu (by omega) (by omega) (by simp)) (Bu (by omega) (by omega) (by simp))];simp
  |some rs =>
   have hR:=Rs.of h hrs;have h2:=fun σ hσ=>Tw (σ:=σ) h hσ hrs hR.len
   simp[-length_flatMap,-map_take,KL,AV,hwq,D9,GF,h1,c0',cM,bu];refine WL.to hL (by simp) (by simp) ?_;intro x e σ' hh;rw[if_pos rfl]at hh;obtain⟨rfl,rfl,g1,g2,g3,g4,g8,g9,g10⟩:=hh;simp[-length_flatMap,-map_take,KL,AV,g1,g2,g3,g4,g8,g9,g10,cM,bu];rw[xk tA.eq_1];simp[-length_flatMap,-map_take,KL,AV,g1,g2,g3,g4,g8,g9,g10,h2,cM,bu,bw];refine WL.to (anD (σ:=σ) h hR (by omega) hx (B:=.cells 0 [.int .i64 0]) l.length 0 ([],[]) (by omega) (by simp) (by simp)) (by simp) (by simp) ?_;rintro x e σ' ⟨rfl,st,hst,q8,q9,q10,rfl⟩;rw[aO]at hst;rw[← hst];have hX:wh T (.fn fL [] []) [.ref σ.length 2 0 0] none ([.cells st.1.length (st.1.flatMap aY),.cells st.2.length (st.2.flatMap AA),.cells 0 [.int .i64 0]]::σ)=some ([.cells st.1.length (st.1.flatMap aY),.cells st.2.length (st.2.flatMap AA),.cells 0 [.int .i64 0]]::σ):=vf He;simp[-length_flatMap,-map_take,KL,AV,q8,q9,q10,g10,hX];rw[Fe (wG (n:=15) (f:=aY) (w:=1) (l:=st.1) (by decide) (fun _=>rfl) (fun x=>by simp) hσ (by simp)) (wG (n:=15) (f:=AA) (w:=3) (l:=st.2) (by decide) (fun _=>rfl) (fun x=>by simp[AA]) hσ (by simp))];simp
 ·simp only[c1,if_false];refine aw xg oJ.eq_1 rfl ?_;simp[-length_flatMap,-map_take,hwq,D9,GF,h1,c0',cM,bu];refine WL.to hL (by simp) (by simp) ?_;intro x e σ' hh;rw[if_neg c1]at hh;obtain⟨rfl,g8,g9,g10,rfl⟩:=hh;simp[g8,g9,g10]
end Go.Proofs.YtfgljaglidhjiaaGreatDoor
namespace Go.Book
open List(length_flatMap map_take)
open Go Go.Abs Go.Rock
def MV(lo hi s:Int):Int:=if hi<s∨s<lo then s else lo
end Go.Book
namespace Go.Proofs.YtfgljaglidhjiaaGreatDoor
open List(length_flatMap map_take)
open Go Go.Abs Go.Rock Go.Book
variable {σ:SK}
def Ar(b:Bk)(x:wO)(m:cU):Int:=match Rock.run b.bN m b.az with
 |some r=>MV x.lo x.hi (vY b.bN m r x)
 |none=>x.lo
theorem Rl{b:cz}{m:cU}{az:List (List Int)}{x:wO}{r:RunT}(hr:xJ b az.length [x]=0)(hrun:Rock.run b m az=some r):
  ∃n A,Oj b [m] az [x]=.dV [.aH n A,.aH (if BE x.lo x.hi (vY b m r x)=0 then 0 else 1) (if BE x.lo x.hi (vY b m r x)=0 then []else AA (0,0,BE x.lo x.hi (vY b m r x))),.int .i64 0]∧D.bJ A=true:=by
 have h1:xN b az [m]=some [r]:=by simp[xN,hrun]
 refine⟨(HT b [x] 0 [(m,r)] ([],[])).1.length,(HT b [x] 0 [(m,r)] ([],[])).1.flatMap aY,?_,bw _⟩;unfold Oj;rw[if_pos hr,h1];by_cases hz:BE x.lo x.hi (vY b m r x)=0<;>simp[HT,zF,CN,hz]
theorem ahG{b:cz}{m:cU}{az:List (List Int)}{x:wO}(hr:xJ b az.length [x]≠0):Oj b [m] az [x]=.dV [.aH 0 [],.aH 0 [],.int .i64 (xJ b az.length [x])]:=by
 unfold Oj;rw[if_neg hr]
theorem B9{b:cz}{n:Int}{x:wO}:xJ b n [x]=vX b n x:=by
 simp only[xJ,aG,bL,cN];by_cases h:vX b n x=0<;>simp[h]
theorem CO{b:Bk}{m:cU}{x:wO}(ht:b.bN.ct≠[])(hok:Ok b.bN [m] b.az)(hw:0≤x.rS∧x.rS≤255)(hσ:σ≠[]):
  lim T (.call false mw [.agg [.int .i64 b.bN.f.x,.int .i64 b.bN.f.y,.int .i64 b.bN.f.z,.int .i64 b.bN.f.k,nl Rw.enc b.bN.ct,.int .i64 b.bN.bK,.int .i64 b.bN.lift,.int .i64 b.bN.deep,nl bI.enc b.bN.an],.aH 1 [.str m.name,.aH m.bq.length (m.bq.flatMap aY)],nl pE b.az,.aH 1 x.enc] σ)=some (.val (Oj b.bN [m] b.az [x]) σ):=by
 have h:=M7 (σ:=σ) (wq:=nl bI.enc b.bN.an) uJ hok (rd:=[x]) (by simp) (by intro y hy;simp at hy;subst hy;exact hw) hσ;rw[eL ht];simpa[NO]using h
theorem agc{F:List Abs.aE}{b:Bk}{er:List Int}{m:cU}{x:wO}{w:Int}{r:RunT}(ht:b.bN.ct≠[])(hok:Ok b.bN [m] b.az)(hw:0≤x.rS∧x.rS≤255)(hr:vX b.bN b.az.length x=0)(hrun:Rock.run b.bN m b.az=some r):
  lim T (.call false eV [.agg [.str m.name,.aH m.bq.length (m.bq.flatMap aY)],.bB [.ref σ.length 6 0 0],.ref (σ.length+1+1) 0 0 0,.bB [.aH 4 [.int .i64 w,.int .i64 x.idx,.int .i64 x.lo,.int .i64 x.hi]]] ([]::[.cells 0 x.enc]::F::b.bj σ.length er::σ))=some (.val (.int .i64 (Ar b x m)) ([]::[.cells 0 x.enc]::F::b.bj σ.length er::σ)):=by
 refine aw AQ mH.eq_1 rfl ?_;have hS:=fun S hS=>CO (σ:=S) ht hok hw hS
 obtain⟨n,A,h1,hA⟩:=Rl (b:=b.bN) (m:=m) (az:=b.az) (x:=x) (by rw[B9];exact hr) hrun;rw[h1]at hS;have hd:=Rdv.of hr;have hb:=Q6 (hok.fv m (by simp)) (La.of (hok.fv m (by simp)) hok.aQ hrun) hd;obtain⟨e1,e2,e3⟩:=hd.ends;have hv:Ar b x m=MV x.lo x.hi (vY b.bN m r x):=by simp[Ar,hrun]
 rw[hv];have hm:=NY (lo:=x.lo) (hi:=x.hi) (s:=vY b.bN m r x) e2;generalize vY b.bN m r x=s at *
 simp only[wO.enc]at hS ⊢;unfold aeU at hm;by_cases c1:x.hi<s
 ·rw[if_pos c1]at hm;have c2:¬s-x.hi=0:=by omega
  have c3:0<s-x.hi:=by omega
  have w1:IntKind.i64.wrap (x.hi+(s-x.hi))=s:=by rw[show x.hi+(s-x.hi)=s by omega];exact fN (by omega)
  have hq:MV x.lo x.hi s=s:=by simp[MV,c1]
  rw[hm]at hS;simp[-length_flatMap,-map_take,Bk.bj,Bk.cells,hS,c1,(show ¬s≤x.hi by omega),c2,c3,w1,hq,AA,hA]
 ·rw[if_neg c1]at hm;by_cases c4:s<x.lo
  ·rw[if_pos c4]at hm;have c2:¬s-x.lo=0:=by omega
   have c3:¬0<s-x.lo:=by omega
   have w1:IntKind.i64.wrap (x.lo+(s-x.lo))=s:=by rw[show x.lo+(s-x.lo)=s by omega];exact fN (by omega)
   have hq:MV x.lo x.hi s=s:=by simp[MV,c4]
   rw[hm]at hS;simp[-length_flatMap,-map_take,Bk.bj,Bk.cells,hS,(show ¬x.lo<s by omega),c2,c3,w1,hq,AA,hA]
  ·rw[if_neg c4]at hm;have hq:MV x.lo x.hi s=x.lo:=by simp[MV,c1,c4]
   rw[hm]at hS;simp[-length_flatMap,-map_take,Bk.bj,Bk.cells,hS,hq,hA]
def yT(b:Bk)(x:wO):Bk×Int :=
 if bV b.ar=[]then(b,8)else if cT x.rS 0 255=true then(if vX b.bN b.az.length x=0 then(tx b x.lo x.hi (Ar b x),0)else(b,vX b.bN b.az.length x))else(b,1)
theorem agd{F:List Abs.aE}{b:Bk}{er:List Int}{nm:List UInt8}{w i lo hi:Int}{b':Bk}{e:Int}(ht:b.bN.ct≠[])(hw:b.rT.length=b.ar.length)(hml:b.ar.length≤40)(hok:∀e∈b.ar,Ok b.bN [e.m] b.az)(hrun:∀e∈b.ar,e.left=true→∃r,Rock.run b.bN e.m b.az=some r)(hd:yT b ⟨b.az.length,w,i,lo,hi⟩=(b',e))(he:e=0):
  lim T (.call false gk [.ref σ.length 6 0 0,.str nm,.aH 4 [.int .i64 w,.int .i64 i,.int .i64 lo,.int .i64 hi]] (F::b.bj σ.length er::σ))=some (.val (.dV []) (F::b'.bj σ.length er::σ)):=by
 refine fQ wy kU.eq_1 rfl (by simp) ?_;unfold yT at hd;split at hd
 case isTrue=>cases hd;cases he
 rename_i c1;split at hd
 case isFalse=>cases hd;cases he
 rename_i c2;split at hd
 case isFalse=>cases hd;rename_i h;exact absurd he h
 rename_i c3;cases hd;have c2i:=bf.1 c2;have q1:0<(bV b.ar).length:=aT.2 c1;have hLf:=fun S=>EJ (σ:=σ) (b:=b) (er:=er) (S:=S) (by omega)
 obtain⟨e0,ls,hls⟩:∃e0 ls,bV b.ar=e0::ls:=by
  cases h:bV b.ar with
  |nil=>exact absurd h c1
  |cons a l=>exact⟨a,l,rfl⟩
 have he0:e0∈b.ar∧e0.left=true:=dj.1 (show e0∈bV b.ar by rw[hls];simp);obtain⟨r0,hr0⟩:=hrun e0 he0.1 he0.2;have w1:IntKind.u8.wrap w=w:=wu8 (by omega);have hS:=fun S hS=>CO (σ:=S) (x:=⟨b.az.length,w,i,lo,hi⟩) ht (hok e0 he0.1) (by simpa using c2i) hS
 obtain⟨n,A,h1,hA⟩:=Rl (b:=b.bN) (m:=e0.m) (az:=b.az) (x:=⟨b.az.length,w,i,lo,hi⟩) (by rw[B9];exact c3) hr0;rw[h1]at hS;have hst:=K6 (σ:=σ) (A:=[.cells 0 (wO.enc ⟨b.az.length,w,i,lo,hi⟩)]) (F:=F) (b:=b) (er:=er) (lo:=lo) (hi:=hi) (val:=Ar b ⟨b.az.length,w,i,lo,hi⟩) (fv:=.fn eV [] [.bB [.ref σ.length 6 0 0],.ref (σ.length+1+1) 0 0 0,.bB [.aH 4 [.int .i64 w,.int .i64 i,.int .i64 lo,.int .i64 hi]]]) rfl rfl hw hml (by
  intro k e he hl;obtain⟨r,hr⟩:=hrun e he hl;have h:=agc (σ:=σ) (F:=F) (er:=er) (b:=b.km lo hi (Ar b ⟨b.az.length,w,i,lo,hi⟩) k) (m:=e.m) (x:=⟨b.az.length,w,i,lo,hi⟩) (w:=w) ht (hok e he) (by simpa using c2i) c3 hr;rw[sK];have h':lim T (.call false eV ([]++[.agg [.str e.m.name,.aH e.m.bq.length (e.m.bq.flatMap aY)]]++[.bB [.ref σ.length 6 0 0],.ref (σ.length+1+1) 0 0 0,.bB [.aH 4 [.int .i64 w,.int .i64 i,.int .i64 lo,.int .i64 hi]]]) ([]::[.cells 0 (wO.enc ⟨b.az.length,w,i,lo,hi⟩)]::F::(b.km lo hi (Ar b ⟨b.az.length,w,i,lo,hi⟩) k).bj σ.length er::σ))=_:=h;rw[h'];rfl)
 rw[hls]at hLf;simp only[Bk.bj,Bk.cells,wO.enc]at hst hLf hS;have hcl:∀T,D.bJ (if T=0 then []else AA (0,0,T))=true:=fun T=>by split<;>simp[AA]
 simp[-length_flatMap,-map_take,Bk.bj,Bk.cells,hLf,cH,fk,c2,w1,hS,o7,hA,hcl,hst,bw]
theorem Tp{F:List Abs.aE}{b:Bk}{er:List Int}{nm:List UInt8}{w i lo hi:Int}{b':Bk}{e:Int}(ht:bV b.ar≠[]→b.bN.ct≠[])(hml:b.ar.length≤40)(hok:∀e∈b.ar,Ok b.bN [e.m] b.az)(hd:yT b ⟨b.az.length,w,i,lo,hi⟩=(b',e))(he:e≠0):
  lim T (.call false gk [.ref σ.length 6 0 0,.str nm,.aH 4 [.int .i64 w,.int .i64 i,.int .i64 lo,.int .i64 hi]] (F::b.bj σ.length er::σ))=some (.gf (rf e) (F::b.bj σ.length er::σ)):=by
 refine ep wy kU.eq_1 rfl ?_;have hLf:=fun S=>EJ (σ:=σ) (b:=b) (er:=er) (S:=S) (by omega)
 simp only[Bk.bj,Bk.cells]at hLf;unfold yT at hd;split at hd
 case isTrue c1 =>
  cases hd;simp[-length_flatMap,-map_take,Bk.bj,Bk.cells,hLf,c1,dK,D.clean,rf]
 rename_i c1;have ht:=ht c1;have q1:0<(bV b.ar).length:=aT.2 c1;split at hd
 case isFalse c2 =>
  cases hd;have c2':cT w 0 255=false:=by simpa using c2
  simp[-length_flatMap,-map_take,Bk.bj,Bk.cells,hLf,q1,fk,c2',cH,dK,D.clean,rf]
 rename_i c2;have c2i:=bf.1 c2;split at hd
 case isTrue=>cases hd;exact absurd rfl he
 rename_i c3;cases hd;obtain⟨e0,ls,hls⟩:∃e0 ls,bV b.ar=e0::ls:=by
  cases h:bV b.ar with
  |nil=>exact absurd h c1
  |cons a l=>exact⟨a,l,rfl⟩
 have he0:e0∈b.ar∧e0.left=true:=dj.1 (show e0∈bV b.ar by rw[hls];simp);have w1:IntKind.u8.wrap w=w:=wu8 (by omega);have hS:=fun S hS=>CO (σ:=S) (x:=⟨b.az.length,w,i,lo,hi⟩) ht (hok e0 he0.1) (by simpa using c2i) hS
 rw[ahG (by rw[B9];exact c3),B9]at hS;have hM:=fun σ=>ri (σ:=σ) c3
 generalize vX b.bN b.az.length ⟨b.az.length,w,i,lo,hi⟩=err at hS hM c3 he ⊢;have hrc:(D.uH 311 (.agg [.int .i64 err])).clean=true:=rfl;rw[hls]at hLf;simp only[wO.enc]at hS;simp[-length_flatMap,-map_take,Bk.bj,Bk.cells,hLf,cH,fk,c2,w1,hS,hM,bw,rf,hrc]
end Go.Proofs.YtfgljaglidhjiaaGreatDoor
namespace Go.Book
open List(length_flatMap map_take)
open Go Go.Abs Go.Rock
def Ny:List Prt→Int
 |[]=>0
 |p::l=>p.width+Ny l
def An:List Prt→Int→Int
 |[],_=>0
 |p::l,m=>p.wj*min m p.width+An l (m-min m p.width)
def Ju:List Prt→Int→Int
 |[],m=>m
 |p::l,m=>Ju l (m-min m p.width)
def DA(l:List Prt):Prop:=∀p∈l,(0≤p.wj∧p.wj≤1000)∧1≤p.width∧p.width≤100000
theorem Bs:∀{l:List Prt} {last:Int},last≤1000→yX last l=true→DA l
 |[],_,_,_=>by intro p hp;cases hp
 |q::l,last,hl,h=>by
  simp only[yX,Prt.ok,af,bf]at h;intro p hp;rcases bd.1 hp with rfl | hp
  ·omega
  ·exact Bs (by omega) h.2 p hp
theorem N6:∀{l:List Prt} {m:Int},DA l→0≤m→0≤An l m∧An l m≤1000*m
 |[],m,_,hm=>by simp[An];omega
 |p::l,m,h,hm=>by
  have h1:=h p (by simp);have h2:=N6 (l:=l) (m:=m-min m p.width) (fun q hq=>h q (by simp[hq])) (by omega);have h3:0≤p.wj*min m p.width:=fw h1.1.1 (by omega);have h4:p.wj*min m p.width≤1000*min m p.width:=fO h1.1.2 (by omega);simp only[An];omega
end Go.Book
namespace Go.Proofs.YtfgljaglidhjiaaGreatDoor
open List(length_flatMap map_take)
open Go Go.Abs Go.Rock Go.Book
variable {σ:SK}
theorem ahW{l:List Prt}(hs:DA l)(hl:l.length≤8):∀(m i:Nat) (out:Int),i+m=l.length→0≤out→out≤100000*i →
  WL T [2,6,7,8] false jY [(2,.int .i64 out),(6,.aH l.length (l.flatMap Prt.enc)),(7,.int .i64 l.length),(8,.int .i64 i)] σ
   (fun x e σ'=>x=.exit 0∧σ'=σ∧get e 2=.int .i64 (out+Ny (l.drop i)))
 |0,i,out,hi,h0,ho=>by
  refine aM jY.eq_1 ?_;have h1:¬i<l.length:=by omega
  have h2:l.drop i=[]:=aA (by omega);simp[-length_flatMap,-map_take,h1,h2,Ny]
 |m+1,i,out,hi,h0,ho=>by
  refine aM jY.eq_1 ?_;have h1:i<l.length:=by omega
  obtain⟨p,hp⟩:=gE h1;have hfl:=bW (f:=Prt.enc) (w:=2) (fun _=>rfl) hp;have hd:=cq hp;have h4:=gN h1 (by omega);have hb:=hs p (aj hp);have w1:IntKind.i64.wrap (out+p.width)=out+p.width:=fN (by omega);have ih:=ahW hs hl m (i+1) (out+p.width) (by omega) (by omega) (by omega);rw[hd,Ny];simp[-length_flatMap,-map_take,h1,hfl,h4,w1];exact WL.to ih (by simp) rfl fun x e σ' hh=>by simpa[Int.add_assoc]using hh
theorem Na{u:zm}(hs:DA u.parts)(hl:u.parts.length≤8):lim T (.call false jz [.agg u.enc] σ)=some (.val (.int .i64 (Ny u.parts)) σ):=by
 refine aw AS mJ.eq_1 rfl ?_;simp[-length_flatMap,-map_take,z6];refine WL.to (ahW (σ:=[]::σ) hs hl u.parts.length 0 0 (by omega) (by omega) (by omega)) (by simp) rfl ?_;rintro x e σ' ⟨rfl,rfl,g2⟩;simp[-length_flatMap,-map_take,g2]
def lpP(L:Nat):we:={state:=0,wv:=none,env:=[(4,.ref L 0 0 0)],params:=[10,11],zd:=mK,body:=mL }
def MH(σ:SK)(out mass:Int):SK:=[.cells 0 [.int .i64 out],.cells 0 [.int .i64 mass],.loop (lpP σ.length)]::σ
theorem agt{p:Prt}{out mass m:Int}(hp:(0≤p.wj∧p.wj≤1000)∧1≤p.width∧p.width≤100000)(hm:0≤m∧m≤1000000)(ho:0≤out∧out≤1000000000000):
  lim T (.round σ.length 2 [.agg p.enc,.int .i64 m] ([]::MH σ out mass))=some (.val (.bool true) ([]::MH σ (out+p.wj*m) mass)):=by
 have q1:0≤p.wj*m:=fw hp.1.1 hm.1;have q2:p.wj*m≤1000*1000000:=l8 hp.1.2 hm.2 hm.1 (by omega);have w1:IntKind.i64.wrap (p.wj*m)=p.wj*m:=fN (by omega);have w2:IntKind.i64.wrap (out+p.wj*m)=out+p.wj*m:=fN (by omega);refine Es (lp:=lpP σ.length) (by simp[MH]) rfl ?_;rw[show(lpP σ.length).zd=mK from rfl,mK.eq_1,show(lpP σ.length).body=mL from rfl];simp[-length_flatMap,-map_take,xk mL.eq_1,lpP,MH,Mj,w1,w2]
theorem TP{l:List Prt}(hs:DA l)(hl:l.length≤8):∀(k i:Nat) (out m:Int),i+k=l.length→0≤m→m≤1000000→0≤out→out≤1000000000*i →
  WL T [0,2,8,9,10] false lG [(0,.l7 σ.length 2),(2,.ref σ.length 1 0 0),(8,.aH l.length (l.flatMap Prt.enc)),(9,.int .i64 l.length),(10,.int .i64 i)] ([]::MH σ out m)
   (fun x e σ'=>x=.exit 0∧σ'=[]::MH σ (out+An (l.drop i) m) (Ju (l.drop i) m))
 |0,i,out,m,hi,hm,hm2,h0,ho=>by
  refine aM lG.eq_1 ?_;have h1:¬i<l.length:=by omega
  have h2:l.drop i=[]:=aA (by omega);simp[-length_flatMap,-map_take,h1,h2,An,Ju]
 |k+1,i,out,m,hi,hm,hm2,h0,ho=>by
  refine aM lG.eq_1 ?_;have h1:i<l.length:=by omega
  obtain⟨p,hp⟩:=gE h1;have hfl:=bW (f:=Prt.enc) (w:=2) (fun _=>rfl) hp;have hd:=cq hp;have h4:=gN h1 (by omega);have hb:=hs p (aj hp);have hmn:0≤min m p.width∧min m p.width≤m:=by omega
  have hR:=agt (σ:=σ) (p:=p) (out:=out) (mass:=m) (m:=min m p.width) hb (by omega) (by omega);have q1:0≤p.wj*min m p.width:=fw hb.1.1 hmn.1;have q2:p.wj*min m p.width≤1000*1000000:=l8 hb.1.2 (by omega) hmn.1 (by omega);have w1:IntKind.i64.wrap (m-min m p.width)=m-min m p.width:=fN (by omega);have ih:=TP hs hl k (i+1) (out+p.wj*min m p.width) (m-min m p.width) (by omega) (by omega) (by omega) (by omega) (by omega);rw[hd,An,Ju];simp only[MH,Prt.enc]at hR;simp[-length_flatMap,-map_take,h1,hfl,h4,MH,hR,w1];exact WL.to ih (by simp) (by simp[MH]) fun x e σ' hh=>by simpa[Int.add_assoc,MH]using hh
theorem ans{u:zm}{mass:Int}{bs:List Abs.aE}:lim T (.call true nP [.agg u.enc,.int .i64 mass] (bs::σ))=some (.val (.fn jc [] [.bB u.enc,.ref σ.length bs.length 0 0]) ((bs++[.cells 0 [.int .i64 mass]])::σ)):=by
 refine tc DK rn.eq_1 rfl ?_;simp[-length_flatMap,-map_take,z6]
theorem agl{u:zm}{out m:Int}(hs:DA u.parts)(hl:u.parts.length≤8)(hm:0≤m∧m≤1000000)(h0:0≤out∧out≤0):
  lim T (.call false jc [.l7 σ.length 2,.bB u.enc,.ref σ.length 1 0 0] (MH σ out m))=some (.val (.dV []) (MH σ (out+An u.parts m) (Ju u.parts m))):=by
 refine fQ Cn oo.eq_1 rfl (by simp[MH]) ?_;have h:=TP (σ:=σ) hs hl u.parts.length 0 out m (by omega) hm.1 hm.2 h0.1 (by omega);rw[aO]at h;simp[-length_flatMap,-map_take];refine WL.to h (by simp) (by simp) ?_;rintro x e σ' ⟨rfl,rfl⟩;simp
theorem af8{u:zm}{m:Int}(hs:DA u.parts)(hl:u.parts.length≤8)(hm:0≤m∧m≤1000000):
  lim T (.call false mr [.agg u.enc,.int .i64 m] σ)=some (.val (.int .i64 (An u.parts m)) σ):=by
 refine aw CW pg.eq_1 rfl ?_;have hU:=fun bs=>ans (σ:=σ) (u:=u) (mass:=m) (bs:=bs)
 have h1:=agl (σ:=σ) (u:=u) (out:=0) hs hl hm (by omega);simp only[zm.enc]at hU h1 ⊢;simp[-length_flatMap,-map_take,hU,z6];refine DU (d:=.dV []) (σ2:=MH σ (0+An u.parts m) (Ju u.parts m)) (lp:=lpP σ.length) (by simp;exact⟨rfl,rfl,rfl⟩) ?_ (by simp[MH]) (by simp[lpP]) ?_
 ·simpa[MH,lpP]using h1
 ·simp[-length_flatMap,-map_take,MH,lpP]
def LD(u:zm)(s:yL):Int:=if s.valid=true then(if Ny u.parts<s.m then 2 else if s.h<An u.parts s.m then 9 else 0)else 1
theorem Ic{s:yL}:lim T (.call false ll [.agg s.enc] σ)=some (.val (.int .i64 (if s.valid then 0 else 1)) σ):=by
 refine aw Cu oD.eq_1 rfl ?_;have h:=fun σ=>GS (σ:=σ) (x:=s)
 simp only[yL.enc]at h ⊢;cases hc:s.valid<;>rw[hc]at h<;>simp[-length_flatMap,-map_take,h]
theorem Tr{s:yL}:lim T (.call false nf [.agg s.enc] σ)=some (.val (.bool s.valid) σ):=by
 refine aw Ge tn.eq_1 rfl ?_;have h:=fun σ=>Ic (σ:=σ) (s:=s)
 simp only[yL.enc]at h ⊢;cases hc:s.valid<;>rw[hc]at h<;>simp[-length_flatMap,-map_take,h]
theorem Tt{s:yL}:lim T (.call false sW [.aH 1 s.enc] σ)=some (.val (.bool s.valid) σ):=by
 refine aw Im vA.eq_1 rfl ?_;have h:=fun σ=>zV (xo 4 yL.enc (fun _=>rfl)) (T:=T) (σ:=σ) (f:=j4) (g:=iO) (h:=eB) (i:=ft) (l:=[s]) (p:=yL.valid) (fv:=.fn nf [] []) rfl rfl rfl rfl (by simp) (rj.fn fun x _ σ=>Tr) rfl
 simp only[xo,List.length_singleton,aS,dP,eE,ie,jV,List.all_nil,Bool.and_true]at h;simp only[yL.enc]at h ⊢;simp[-length_flatMap,-map_take,h]
def agK(u:zm)(s:yL):D:=if LD u s=0 then .dV [.agg [.int .i64 s.m,.int .i64 (s.h-An u.parts s.m),.int .i64 s.s,.int .i64 s.g],.int .i64 (An u.parts s.m),.int .i64 0]else .dV [.agg [.int .i64 0,.int .i64 0,.int .i64 0,.int .i64 0],.int .i64 0,.int .i64 (LD u s)]
theorem S5{u:zm}{s:yL}(hu:u.ok=true):lim T (.call false rO [.agg u.enc,.agg s.enc] σ)=some (.val (agK u s) σ):=by
 refine aw G6 uk.eq_1 rfl ?_;have hok:=hu;simp only[zm.ok,af,bf]at hok;have hl:u.parts.length≤8:=by omega
 have hs:=Bs (by omega) hok.2.2;have hV:=fun σ=>K7 (σ:=σ) (u:=u) (by omega)
 have hR:=fun σ=>Tt (σ:=σ) (s:=s)
 have hC:=fun σ=>Na (σ:=σ) hs hl
 rw[hu]at hV;simp only[zm.enc,yL.enc]at hV hR hC ⊢;unfold agK LD;cases c1:s.valid
 ·rw[c1]at hR;simp[-length_flatMap,-map_take,hV,hR,z6]
 rw[c1]at hR;simp only[yL.valid,af,bf]at c1;by_cases c2:Ny u.parts<s.m
 ·simp[-length_flatMap,-map_take,hV,hR,hC,c2,z6]
 have hP:=fun σ=>af8 (σ:=σ) (m:=s.m) hs hl c1.1
 simp only[zm.enc]at hP;have hb:=N6 hs c1.1.1;by_cases c3:s.h<An u.parts s.m
 ·simp[-length_flatMap,-map_take,hV,hR,hC,hP,c2,c3,z6]
 have w1:IntKind.i64.wrap (s.h-An u.parts s.m)=s.h-An u.parts s.m:=fN (by omega);simp[-length_flatMap,-map_take,hV,hR,hC,hP,c2,c3,w1,z6]
theorem Rr{t:List Rw}(ht:kS t=true){i:Nat}{r:Rw}(hi:t[i]?=some r){x:yL}(hx:x.valid=false):
  lim T (.call false qX [.aH t.length (t.flatMap Rw.enc),.int .i64 i,.agg x.enc] σ)=some (.val (.dV [.agg (List.replicate 10 (.int .i64 0)),.int .i64 1]) σ):=by
 refine aw CG sU.eq_1 rfl ?_;have hl:t.length≤20:=by
  simp only[kS,af]at ht;have:=bf.1 ht.1;omega
 have hil:i<t.length:=(aB.1 hi).1;have h1:=fun σ=>CP (σ:=σ) (t:=t) (by omega)
 have h2:=fun σ=>ahU (σ:=σ) (t:=t) (n:=i) (by omega)
 have h3:=fun σ=>GS (σ:=σ) (x:=x)
 have hin:cT i 0 ((t.length:Int)-1)=true:=bf.2 (by omega);rw[hin]at h2;rw[hx]at h3;rw[ht]at h1;simp only[yL.enc]at h3;simp[-length_flatMap,-map_take,h1,h2,h3,List.replicate]
def Mk:List Int→Int
 |[]=>0
 |x::l=>l.foldl min x
def Mi:List Int→Int
 |[]=>0
 |x::l=>l.foldl max x
theorem ah0{l:List Int}(hl:l.length≤1000000):∀(m i:Nat) (a:Int),i+m=l.length →
  WL T [0,3,4] false oC [(0,.aH l.length (l.flatMap aY)),(3,.int .i64 a),(4,.int .i64 i)] σ (fun x e σ'=>x=.exit 0∧σ'=σ∧get e 3=.int .i64 ((l.drop i).foldl min a))
 |0,i,a,hi=>by
  refine aM oC.eq_1 ?_;have h1:¬i<l.length:=by omega
  have h2:l.drop i=[]:=aA (by omega);simp[-length_flatMap,-map_take,h1,h2]
 |m+1,i,a,hi=>by
  refine aM oC.eq_1 ?_;have h1:i<l.length:=by omega
  obtain⟨n,hn⟩:=gE h1;have a1:=rH hn;have h4:=gN h1 (by omega);rw[cq hn];simp[-length_flatMap,-map_take,h1,a1,h4];exact WL.to (ah0 hl m (i+1) (min a n) (by omega)) (by simp) rfl fun x e σ' hh=>by simpa using hh
theorem atw{l:List Int}(hne:l≠[])(hl:l.length≤1000000):lim T (.call false oR [.aH l.length (l.flatMap aY)] σ)=some (.val (.int .i64 (Mk l)) σ):=by
 refine aw EV sk.eq_1 rfl ?_;have h0:0<l.length:=aT.2 hne;obtain⟨x,r,rfl⟩:∃x r,l=x::r:=by
  cases l with
  |nil=>exact absurd rfl hne
  |cons x r=>exact⟨x,r,rfl⟩
 have h1:¬((r.length:Int)+1<1):=by omega
 have h2:(0:Int)<(r.length:Int)+1:=by omega
 simp[-length_flatMap,-map_take,h1,h2];refine WL.to (ah0 (σ:=[]::σ) hl r.length 1 x (by simp;omega)) (by simp) rfl ?_;rintro x e σ' ⟨rfl,rfl,g3⟩;simp[-length_flatMap,-map_take,g3,Mk]
theorem ahZ{l:List Int}(hl:l.length≤1000000):∀(m i:Nat) (a:Int),i+m=l.length →
  WL T [0,3,4] false oB [(0,.aH l.length (l.flatMap aY)),(3,.int .i64 a),(4,.int .i64 i)] σ (fun x e σ'=>x=.exit 0∧σ'=σ∧get e 3=.int .i64 ((l.drop i).foldl max a))
 |0,i,a,hi=>by
  refine aM oB.eq_1 ?_;have h1:¬i<l.length:=by omega
  have h2:l.drop i=[]:=aA (by omega);simp[-length_flatMap,-map_take,h1,h2]
 |m+1,i,a,hi=>by
  refine aM oB.eq_1 ?_;have h1:i<l.length:=by omega
  obtain⟨n,hn⟩:=gE h1;have a1:=rH hn;have h4:=gN h1 (by omega);rw[cq hn];simp[-length_flatMap,-map_take,h1,a1,h4];exact WL.to (ahZ hl m (i+1) (max a n) (by omega)) (by simp) rfl fun x e σ' hh=>by simpa using hh
theorem atv{l:List Int}(hne:l≠[])(hl:l.length≤1000000):lim T (.call false oQ [.aH l.length (l.flatMap aY)] σ)=some (.val (.int .i64 (Mi l)) σ):=by
 refine aw EU sj.eq_1 rfl ?_;have h0:0<l.length:=aT.2 hne;obtain⟨x,r,rfl⟩:∃x r,l=x::r:=by
  cases l with
  |nil=>exact absurd rfl hne
  |cons x r=>exact⟨x,r,rfl⟩
 have h1:¬((r.length:Int)+1<1):=by omega
 have h2:(0:Int)<(r.length:Int)+1:=by omega
 simp[-length_flatMap,-map_take,h1,h2];refine WL.to (ahZ (σ:=[]::σ) hl r.length 1 x (by simp;omega)) (by simp) rfl ?_;rintro x e σ' ⟨rfl,rfl,g3⟩;simp[-length_flatMap,-map_take,g3,Mi]
theorem anm{l:List Int}(hne:l≠[])(hl:l.length≤1000000):lim T (.call false rN [.aH l.length (l.flatMap aY)] σ)=some (.val (.agg [.int .i64 (Mk l),.int .i64 (Mi l)]) σ):=by
 refine aw G5 uj.eq_1 rfl ?_;have h1:=fun σ=>atw (σ:=σ) hne hl
 have h2:=fun σ=>atv (σ:=σ) hne hl
 simp[-length_flatMap,-map_take,h1,h2]
end Go.Proofs.YtfgljaglidhjiaaGreatDoor
set_option maxRecDepth 100000
namespace Go.Proofs.YtfgljaglidhjiaaGreatDoor
open List(length_flatMap map_take)
open Go Go.Abs Go.Rock Go.Book
variable {σ:SK}
def aw1:Rw:=⟨0,0,0,0,0⟩
def aw2:zm:=⟨0,[]⟩
def rowOf(b:Bk)(lv:Nat):Rw:=(b.bN.ct[lv]?).getD aw1
def BM(b:Bk)(u:Nat):zm:=(b.gA[u]?).getD aw2
def yo(b:Bk)(r:RunT)(w:Nat):yL:=⟨(bP (rowAt r.2 (b.az.length-1)) w).m,(bP (rowAt r.2 (b.az.length-1)) w).h,0,0⟩
def wY(r:Rw)(x:yL):yL:=⟨jk r x,asx r x,0,asw r x⟩
def BK(b:Bk)(w lv u:Nat)(m:cU):Int:=match Rock.run b.bN m b.az with
 |some r=>if(yo b r w).valid=true then LD (BM b u) (wY (rowOf b lv) (yo b r w))else 1
 |none=>9
def xO(b:Bk)(w lv u:Nat)(m:cU):Int:=match Rock.run b.bN m b.az with
 |some r=>An (BM b u).parts (wY (rowOf b lv) (yo b r w)).m
 |none=>0
def Ex(b:Bk)(σ:SK)(w lv u:Nat)(price:Int)(acc:List Int)(rest:List mS)(x:Abs.Exit)(e:Env)(σ':SK):Prop :=
 if cN (fun e=>BK b w lv u e.m) rest=0 then
  x=.exit 0∧get e 0=.ref (σ.length-1-1) 6 0 0∧get e 7=.int .i64 w∧get e 10=.int .i64 price∧get e 11=.sl σ.length 0 (acc++rest.map fun e=>xO b w lv u e.m).length 0 (acc++rest.map fun e=>xO b w lv u e.m).length 1 ∧
   σ'=[.cells (acc++rest.map fun e=>xO b w lv u e.m).length ((acc++rest.map fun e=>xO b w lv u e.m).flatMap aY)]::σ
 else x=.gf (rf (cN (fun e=>BK b w lv u e.m) rest))∧∃s,σ'=s::σ
theorem Ns{F:List Abs.aE}{b:Bk}{er:List Int}{ls:List mS}{w lv u:Nat}{price:Int}(ht:kS b.bN.ct=true)(hok:∀e∈ls,Ok b.bN [e.m] b.az)(hrun:∀e∈ls,∃r,Rock.run b.bN e.m b.az=some r)(hp:b.az≠[])(hl:ls.length≤1000000)
  (hw:w<b.bN.an.length) (hlv:lv<b.bN.ct.length) (hu:u<b.gA.length) (huk:∀x∈b.gA,x.ok=true):∀(m i:Nat) (acc:List Int),i+m=ls.length→acc.length=i →
  WL T [0,7,8,9,10,11,86,87,88] false kA [(0,.ref σ.length 6 0 0),(7,.int .i64 w),(8,.int .i64 lv),(9,.int .i64 u),(10,.int .i64 price),(11,.sl (F::b.bj σ.length er::σ).length 0 i 0 i 1),(86,.aH ls.length (ls.flatMap mS.enc)),(87,.int .i64 ls.length),(88,.int .i64 i)] ([.cells i (acc.flatMap aY)]::F::b.bj σ.length er::σ)
   (Ex b (F::b.bj σ.length er::σ) w lv u price acc (ls.drop i))
 |0,i,acc,hi,ha=>by
  refine aM kA.eq_1 ?_;obtain rfl:i=ls.length:=by omega
  have h5:ls.drop ls.length=[]:=aA (by omega);simp[-length_flatMap,-map_take,h5,Ex,ha,cN]
 |m+1,i,acc,hi,ha=>by
  refine aM kA.eq_1 ?_;have h1:i<ls.length:=by omega
  obtain⟨e,he⟩:=gE h1;have hem:=aj he;have hO:=hok e hem;obtain⟨r,hr⟩:=hrun e hem;have hfl:=bW (f:=mS.enc) (w:=4) (fun _=>rfl) he;have h4:=gN h1 (by omega);have htl:b.bN.ct.length≤20:=by
   simp only[kS,af]at ht;have:=bf.1 ht.1;omega
  have hE:sY b.bN e.m b.az=0:=by
   have hfit:=hO.fit e.m (by simp);simp[sY,Bd,hO.valid,hfit,hO.pl,hr]
  have hD:zC b.bN e.m b.az=.agg [.aH r.1.length (r.1.flatMap yB),.aH r.2.length (r.2.flatMap yB)]:=by
   obtain⟨r1,r2⟩:=r;simp[zC,hE,hr]
  have hsh:=hO.short e.m (by simp);have hP:=fun S hS=>S7 (σ:=S) (b:=b.bN) (m:=e.m) (az:=b.az) (wq:=nl bI.enc b.bN.an) uJ (by omega) (by have:=hO.bv.an;omega) (by omega) (by omega) (by have:=hO.SD;omega) (fun l hl=>by have:=(hO.aQ l hl).len;have:=hO.bv.an;omega) hS
  rw[hE,hD,NO]at hP;have htn:b.bN.ct≠[]:=by intro hh;rw[hh]at hlv;simp at hlv
  have hRun:=La.of (hO.fv e.m (by simp)) hO.aQ hr;have hpl:0<b.az.length:=aT.2 hp;have hpl2:=hO.SD;obtain⟨hrow,hY⟩:=afd hRun (t:=b.az.length-1) (by omega);have f1:=bW (f:=yB) (w:=1) (fun _=>rfl) hrow;rw[dM]at f1;have hyw:(rowAt r.2 (b.az.length-1))[w]?=some (bP (rowAt r.2 (b.az.length-1)) w):=by
   have:w<(rowAt r.2 (b.az.length-1)).length:=by rw[hY.len];exact hw
   simp[bP,this]
  have f2:=bW (f:=Rock.aE.enc) (w:=3) (fun _=>rfl) hyw;have hyl:=hY.len;have w1:IntKind.i64.wrap ((b.az.length:Int)-1)=b.az.length-1:=fN (by omega);have t1:((b.az.length:Int)-1).toNat=b.az.length-1:=by omega
  have q1:(1:Int)≤b.az.length:=by omega
  have q2:(b.az.length:Int)-1<r.2.length:=by rw[hRun.yl];omega
  have hrw:b.bN.ct[lv]?=some (rowOf b lv):=by simp[rowOf,hlv]
  have hun:b.gA[u]?=some (BM b u):=by simp[BM,hu]
  have f3:=bW (f:=zm.enc) (w:=2) (fun _=>rfl) hun;have hul:=Rn b.gA;have q3:2≤b.gA.length*2-u*2:=by omega
  have hX:=fun σ=>S5 (σ:=σ) (u:=BM b u) (s:=wY (rowOf b lv) (yo b r w)) (huk _ (aj hun))
  rw[cq he];have hs0:BK b w lv u e.m=if(yo b r w).valid=true then LD (BM b u) (wY (rowOf b lv) (yo b r w))else 1:=by simp[BK,hr]
  cases c1:(yo b r w).valid with
  |false =>
   have hF:=fun σ=>Rr (σ:=σ) ht hrw c1
   have hM:=fun σ=>ri (σ:=σ) (e:=1) (by decide)
   have hs1:BK b w lv u e.m=1:=by rw[hs0,c1];rfl
   simp only[yL.enc,yo,List.replicate]at hF;simp[-length_flatMap,-map_take,h1,hfl,h4,Bk.bj,Bk.cells,eL htn,eL hp,hP,o7,bw,f1,f2,w1,t1,q1,q2,hyl,hw,hF,hM,hs1,yB,Ex,cN]
  |true =>
   have hF:=fun σ=>afS (σ:=σ) ht hrw c1
   simp only[yL.enc,yo]at hF;have hs1:BK b w lv u e.m=LD (BM b u) (wY (rowOf b lv) (yo b r w)):=by rw[hs0,c1];rfl
   have hv1:xO b w lv u e.m=An (BM b u).parts (wY (rowOf b lv) (yo b r w)).m:=by simp[xO,hr]
   by_cases c2:LD (BM b u) (wY (rowOf b lv) (yo b r w))=0
   ·have hacc:=zx acc;have hta:(acc.flatMap aY).take i=acc.flatMap aY:=ai (by omega);have hroom:(i+1)*8≤room:=by unfold room;omega
    have ih:=Ns (F:=F) (er:=er) (price:=price) ht hok hrun hp hl hw hlv hu huk m (i+1) (acc++[xO b w lv u e.m]) (by omega) (by simp[ha]);have fin:∀x e' σ',Ex b (F::b.bj σ.length er::σ) w lv u price (acc++[xO b w lv u e.m]) (ls.drop (i+1)) x e' σ'→Ex b (F::b.bj σ.length er::σ) w lv u price acc (e::ls.drop (i+1)) x e' σ':=fun x e' σ' hh=>by
     have hz:BK b w lv u e.m=0:=by rw[hs1,c2]
     simp only[Ex,cN,hz,if_true,aL,dX,cG]at hh ⊢;exact hh
    unfold agK at hX;rw[if_pos c2,← hv1]at hX;simp only[zm.enc,yL.enc,wY,yo]at hX f3;simp[-length_flatMap,-map_take,h1,hfl,h4,Bk.bj,Bk.cells,eL htn,eL hp,hP,o7,bw,f1,f2,w1,t1,q1,q2,hyl,hw,hF,yB,parts,hu,f3,hul,q3,hX,hroom,hacc,hta,ha];exact WL.to ih (by simp) (by simp[Bk.bj,Bk.cells,eL htn,eL hp]) fin
   ·unfold agK at hX;rw[if_neg c2]at hX;have hM:=fun σ=>ri (σ:=σ) c2
    have hz:BK b w lv u e.m≠0:=by rw[hs1];exact c2
    rw[← hs1]at hX hM;simp only[zm.enc,yL.enc,wY,yo]at hX f3;simp[-length_flatMap,-map_take,h1,hfl,h4,Bk.bj,Bk.cells,eL htn,eL hp,hP,o7,bw,f1,f2,w1,t1,q1,q2,hyl,hw,hF,yB,parts,hu,f3,hul,q3,hX,hM,hz,Ex,cN]
def Ra(b:Bk)(w price:Int)(ws:List Int):Bk:={b with qB:=b.qB++[⟨b.az.length,w,Mk ws,Mi ws,Mk ws*price,Mi ws*price⟩] }
def KD(b:Bk)(w lv u price:Int):Bool:=cT w 0 ((b.bN.an.length:Int)-1) && (cT lv 0 ((b.bN.ct.length:Int)-1) && (cT u 0 ((b.gA.length:Int)-1) && cT price 0 1000))
def Au(b:Bk)(w lv u:Int):Int:=cN (fun e=>BK b w.toNat lv.toNat u.toNat e.m) (bV b.ar)
def H2(b:Bk)(w lv u:Int):List Int:=(bV b.ar).map fun e=>xO b w.toNat lv.toNat u.toNat e.m
def yU(b:Bk)(w lv u price:Int):Bk×Int :=
 if bV b.ar=[]∨b.az=[]then(b,8)else if KD b w lv u price=true then(if Au b w lv u=0 then(Ra b w price (H2 b w lv u),0)else(b,Au b w lv u))else(b,2)
theorem ahw(l:List Sal):(l.flatMap Sal.enc).length=l.length*6:=bX (f:=Sal.enc) (w:=6) (fun _=>rfl) l
theorem FY{c d:Int}:∀{l:List Int} {a:Int},(c≤a∧a≤d)→(∀x∈l,c≤x∧x≤d)→c≤l.foldl min a∧l.foldl min a≤d
 |[],a,h,_=>h
 |x::l,a,h,hl=>by
  have h1:=hl x (by simp);exact FY (l:=l) (a:=min a x) (by omega) fun y hy=>hl y (by simp[hy])
theorem FX{c d:Int}:∀{l:List Int} {a:Int},(c≤a∧a≤d)→(∀x∈l,c≤x∧x≤d)→c≤l.foldl max a∧l.foldl max a≤d
 |[],a,h,_=>h
 |x::l,a,h,hl=>by
  have h1:=hl x (by simp);exact FX (l:=l) (a:=max a x) (by omega) fun y hy=>hl y (by simp[hy])
theorem avI{c d:Int}{l:List Int}(h0:c≤0∧0≤d)(hl:∀x∈l,c≤x∧x≤d):(c≤Mk l∧Mk l≤d)∧(c≤Mi l∧Mi l≤d):=by
 cases l with
 |nil=>exact⟨h0,h0⟩
 |cons x l=>exact⟨FY (hl x (by simp)) fun y hy=>hl y (by simp[hy]),FX (hl x (by simp)) fun y hy=>hl y (by simp[hy])⟩
theorem ahx{b:Bk}{w lv u:Nat}{m:cU}(hu:u<b.gA.length)(huk:∀x∈b.gA,x.ok=true)(hE:BK b w lv u m=0):0≤xO b w lv u m∧xO b w lv u m≤1000000000:=by
 have hun:b.gA[u]?=some (BM b u):=by simp[BM,hu]
 have hok:=huk _ (aj hun);simp only[zm.ok,af,bf]at hok;have hs:=Bs (by omega) hok.2.2;unfold BK at hE;unfold xO;cases hr:Rock.run b.bN m b.az with
 |none=>simp
 |some r =>
  rw[hr]at hE;simp only at hE ⊢;split at hE
  ·unfold LD at hE;split at hE
   ·rename_i hv;simp only[yL.valid,af,bf]at hv;have:=N6 hs hv.1.1;omega
   ·cases hE
  ·cases hE
theorem agi{F:List Abs.aE}{b:Bk}{er:List Int}{nm:List UInt8}{w lv u price:Int}{b':Bk}{e:Int}(ht:kS b.bN.ct=true)(hml:b.ar.length≤40)(hok:∀e∈b.ar,Ok b.bN [e.m] b.az)(hrun:∀e∈b.ar,e.left=true→∃r,Rock.run b.bN e.m b.az=some r)(huk:∀x∈b.gA,x.ok=true)(hul:b.gA.length≤10)(hwl:b.bN.an.length≤1000000)(hsl:b.qB.length≤1000000)(hd:yU b w lv u price=(b',e))(he:e=0):
  lim T (.call false gp [.ref σ.length 6 0 0,.str nm,.aH 4 [.int .i64 w,.int .i64 lv,.int .i64 u,.int .i64 price]] (F::b.bj σ.length er::σ))=some (.val (.dV []) (F::b'.bj σ.length er::σ)):=by
 refine fQ wA kW.eq_1 rfl (by simp) ?_;unfold yU at hd;split at hd
 case isTrue=>cases hd;cases he
 rename_i c1;split at hd
 case isFalse=>cases hd;cases he
 rename_i c2;split at hd
 case isFalse=>cases hd;rename_i h;exact absurd he h
 rename_i c3;cases hd;have htl:b.bN.ct.length≤20:=by
  simp only[kS,af]at ht;have:=bf.1 ht.1;omega
 have c1a:bV b.ar≠[]:=fun h=>c1 (.inl h)
 have c1b:b.az≠[]:=fun h=>c1 (.inr h)
 have q1:0<(bV b.ar).length:=aT.2 c1a;have q2:0<b.az.length:=aT.2 c1b;have hLf:=fun S=>EJ (σ:=σ) (b:=b) (er:=er) (S:=S) (by omega)
 simp only[Bk.bj,Bk.cells]at hLf;have hc2:=c2;simp only[KD,af]at hc2;obtain⟨k1,k2,k3,k4⟩:=hc2;have i1:=bf.1 k1;have i2:=bf.1 k2;have i3:=bf.1 k3;have i4:=bf.1 k4;obtain⟨w,rfl⟩:∃n:Nat,w=n:=⟨w.toNat,by omega⟩;obtain⟨lv,rfl⟩:∃n:Nat,lv=n:=⟨lv.toNat,by omega⟩;obtain⟨u,rfl⟩:∃n:Nat,u=n:=⟨u.toNat,by omega⟩;simp only[Au,H2,Int.toNat_natCast]at c3 ⊢;have w1:IntKind.i64.wrap ((b.bN.an.length:Int)-1)=b.bN.an.length-1:=fN (by omega);have w2:IntKind.i64.wrap ((b.bN.ct.length:Int)-1)=b.bN.ct.length-1:=fN (by omega);have w3:IntKind.i64.wrap ((b.gA.length:Int)-1)=b.gA.length-1:=fN (by omega);have hL:=Ns (σ:=σ) (F:=F) (er:=er) (ls:=bV b.ar) (w:=w) (lv:=lv) (u:=u) (price:=price) ht (fun e he=>hok e (dj.1 he).1) (fun e he=>hrun e (dj.1 he).1 (dj.1 he).2) c1b (by have:=jv (fun e:mS=>e.left) b.ar;simp only[bV];omega) (by omega) (by omega) (by omega) huk (bV b.ar).length 0 [] (by omega) rfl;rw[aO]at hL;simp[-length_flatMap,-map_take,Bk.bj,Bk.cells,hLf,q1,q2,cH,fk,w1,w2,w3,k1,k2,k3,k4];refine WL.to hL (by simp) (by simp[Bk.bj,Bk.cells]) ?_;intro x e σ' hq;simp only[Ex,if_pos c3,List.nil_append]at hq;obtain⟨rfl,g0,g7,g10,g11,rfl⟩:=hq;have hbs:∀x∈(bV b.ar).map (fun e=>xO b w lv u e.m),0≤x∧x≤1000000000:=by
  intro x hx;simp only[bR]at hx;obtain⟨e,he,rfl⟩:=hx;exact ahx (by omega) huk (vQ c3 e he)
 have hwl2:((bV b.ar).map (fun e=>xO b w lv u e.m)).length=(bV b.ar).length:=by simp
 have hlm:(bV b.ar).length≤40:=by have:=jv (fun e:mS=>e.left) b.ar;simp only[bV];omega
 generalize hws:(bV b.ar).map (fun e=>xO b w lv u e.m)=ws at *
 have hwne:ws≠[]:=by intro hh;rw[hh]at hwl2;simp at hwl2;omega
 obtain⟨⟨m1,m2⟩,m3,m4⟩:=avI (by omega) hbs;have hSp:=fun σ=>anm (σ:=σ) hwne (by omega)
 generalize hlo:Mk ws=lo at *
 generalize hhi:Mi ws=hi at *
 have p1:0≤lo*price:=fw m1 i4.1;have p2:lo*price≤1000000000*1000:=l8 m2 i4.2 i4.1 (by omega);have p3:0≤hi*price:=fw m3 i4.1;have p4:hi*price≤1000000000*1000:=l8 m4 i4.2 i4.1 (by omega);have w4:IntKind.i64.wrap (lo*price)=lo*price:=fN (by omega);have w5:IntKind.i64.wrap (hi*price)=hi*price:=fN (by omega);have hfr:∀S:SK,S.length=σ.length+1+1→cJ 0 16 (.sl (σ.length+1+1) 0 ws.length 0 ws.length 1) ([.cells ws.length (ws.flatMap aY)]::S)=(.aH ws.length (ws.flatMap aY),[.dead]::S):=by
  intro S hS;have:=Eh (f:=aY) (w:=1) (fun _=>rfl) (fun _=>by simp[D.clean]) (l:=ws) (j:=0) (v:=ws.length) (bs:=[Abs.aE.cells ws.length (ws.flatMap aY)]) (σ:=S) (by intro h;subst h;simp at hS) (by simp);rw[hS]at this;simpa using this
 have r2:(b.qB.length+1)*48≤room:=by unfold room;omega
 have r3:=ahw b.qB;have r4:(b.qB.flatMap Sal.enc).take (b.qB.length*6)=b.qB.flatMap Sal.enc:=ai (by omega);simp[-length_flatMap,-map_take,g0,g7,g10,g11,hfr,hSp,Bk.bj,Bk.cells,w4,w5,r2,r3,r4,Ra,bw,hlo,hhi]
theorem Tx{F:List Abs.aE}{b:Bk}{er:List Int}{nm:List UInt8}{w lv u price:Int}{b':Bk}{e:Int}(ht:bV b.ar≠[]→kS b.bN.ct=true)(hml:b.ar.length≤40)(hok:∀e∈b.ar,Ok b.bN [e.m] b.az)(hrun:∀e∈b.ar,e.left=true→∃r,Rock.run b.bN e.m b.az=some r)(huk:∀x∈b.gA,x.ok=true)(hul:b.gA.length≤10)(hwl:b.bN.an.length≤1000000)(hsl:b.qB.length≤1000000)(hd:yU b w lv u price=(b',e))(he:e≠0):
  lim T (.call false gp [.ref σ.length 6 0 0,.str nm,.aH 4 [.int .i64 w,.int .i64 lv,.int .i64 u,.int .i64 price]] (F::b.bj σ.length er::σ))=some (.gf (rf e) (F::b.bj σ.length er::σ)):=by
 refine ep wA kW.eq_1 rfl ?_;have hLf:=fun S=>EJ (σ:=σ) (b:=b) (er:=er) (S:=S) (by omega)
 simp only[Bk.bj,Bk.cells]at hLf;unfold yU at hd;split at hd
 case isTrue c1 =>
  cases hd;by_cases c1a:bV b.ar=[]
  ·simp[-length_flatMap,-map_take,Bk.bj,Bk.cells,hLf,c1a,dK,D.clean,rf]
  ·have q1:0<(bV b.ar).length:=aT.2 c1a;have c1b:b.az=[]:=c1.resolve_left c1a;simp[-length_flatMap,-map_take,Bk.bj,Bk.cells,hLf,q1,c1b,dK,D.clean,rf]
 rename_i c1;have c1a:bV b.ar≠[]:=fun h=>c1 (.inl h)
 have c1b:b.az≠[]:=fun h=>c1 (.inr h)
 have ht:=ht c1a;have htl:b.bN.ct.length≤20:=by
  simp only[kS,af]at ht;have:=bf.1 ht.1;omega
 have q1:0<(bV b.ar).length:=aT.2 c1a;have q2:0<b.az.length:=aT.2 c1b;have w1:IntKind.i64.wrap ((b.bN.an.length:Int)-1)=b.bN.an.length-1:=fN (by omega);have w2:IntKind.i64.wrap ((b.bN.ct.length:Int)-1)=b.bN.ct.length-1:=fN (by omega);have w3:IntKind.i64.wrap ((b.gA.length:Int)-1)=b.gA.length-1:=fN (by omega);split at hd
 case isFalse c2 =>
  cases hd;simp only[KD]at c2;cases k1:cT w 0 ((b.bN.an.length:Int)-1)
  ·simp[-length_flatMap,-map_take,Bk.bj,Bk.cells,hLf,q1,q2,cH,fk,w1,w2,w3,k1,dK,D.clean,rf]
  cases k2:cT lv 0 ((b.bN.ct.length:Int)-1)
  ·simp[-length_flatMap,-map_take,Bk.bj,Bk.cells,hLf,q1,q2,cH,fk,w1,w2,w3,k1,k2,dK,D.clean,rf]
  cases k3:cT u 0 ((b.gA.length:Int)-1)
  ·simp[-length_flatMap,-map_take,Bk.bj,Bk.cells,hLf,q1,q2,cH,fk,w1,w2,w3,k1,k2,k3,dK,D.clean,rf]
  cases k4:cT price 0 1000
  ·simp[-length_flatMap,-map_take,Bk.bj,Bk.cells,hLf,q1,q2,cH,fk,w1,w2,w3,k1,k2,k3,k4,dK,D.clean,rf]
  ·exact absurd (by simp[k1,k2,k3,k4]) c2
 rename_i c2;split at hd
 case isTrue=>cases hd;exact absurd rfl he
 rename_i c3;cases hd;have hc2:=c2;simp only[KD,af]at hc2;obtain⟨k1,k2,k3,k4⟩:=hc2;have i1:=bf.1 k1;have i2:=bf.1 k2;have i3:=bf.1 k3;obtain⟨w,rfl⟩:∃n:Nat,w=n:=⟨w.toNat,by omega⟩;obtain⟨lv,rfl⟩:∃n:Nat,lv=n:=⟨lv.toNat,by omega⟩;obtain⟨u,rfl⟩:∃n:Nat,u=n:=⟨u.toNat,by omega⟩;simp only[Au,Int.toNat_natCast]at c3 ⊢;have hL:=Ns (σ:=σ) (F:=F) (er:=er) (ls:=bV b.ar) (w:=w) (lv:=lv) (u:=u) (price:=price) ht (fun e he=>hok e (dj.1 he).1) (fun e he=>hrun e (dj.1 he).1 (dj.1 he).2) c1b (by have:=jv (fun e:mS=>e.left) b.ar;simp only[bV];omega) (by omega) (by omega) (by omega) huk (bV b.ar).length 0 [] (by omega) rfl;rw[aO]at hL;simp[-length_flatMap,-map_take,Bk.bj,Bk.cells,hLf,q1,q2,cH,fk,w1,w2,w3,k1,k2,k3,k4];refine WL.to hL (by simp) (by simp[Bk.bj,Bk.cells]) ?_;intro x e σ' hq;simp only[Ex,if_neg c3]at hq;obtain⟨rfl,s,rfl⟩:=hq;simp[Bk.bj,Bk.cells,D.clean,rf]
def Si:List Int→List Rw
 |a::b::c::d::e::l=>⟨a,b,c,d,e⟩::Si l
 |_=>[]
def Sh:List Int→List Trem.xc
 |a::b::c::d::l=>⟨⟨a,b,c⟩,d⟩::Sh l
 |_=>[]
def Iw:List Int→List (Int×Int)
 |a::b::l=>(a,b)::Iw l
 |_=>[]
theorem QG:∀(m:Nat) {l:List Int},l.length=m*5→(Si l).flatMap Rw.enc=l.flatMap aY∧(Si l).length=m
 |0,l,h=>by
  have:l=[]:=bY.1 (by omega);subst this;exact⟨rfl,rfl⟩
 |m+1,l,h=>by
  match l,h with
  |a::b::c::d::e::l,h =>
   have ih:=QG m (l:=l) (by simp at h;omega);simp[Si,ih.1,ih.2,aY]
  |[],h=>simp at h
  |[_],h=>simp at h;omega
  |[_,_],h=>simp at h;omega
  |[_,_,_],h=>simp at h;omega
  |[_,_,_,_],h=>simp at h;omega
theorem QF:∀(m:Nat) {l:List Int},l.length=m*4→(Sh l).flatMap Trem.xc.enc=l.flatMap aY∧(Sh l).length=m
 |0,l,h=>by
  have:l=[]:=bY.1 (by omega);subst this;exact⟨rfl,rfl⟩
 |m+1,l,h=>by
  match l,h with
  |a::b::c::d::l,h =>
   have ih:=QF m (l:=l) (by simp at h;omega);simp[Sh,ih.1,ih.2,aY]
  |[],h=>simp at h
  |[_],h=>simp at h;omega
  |[_,_],h=>simp at h;omega
  |[_,_,_],h=>simp at h;omega
theorem Kd:∀(m:Nat) {l:List Int},l.length=m*2→(Iw l).flatMap za=l.flatMap aY∧(Iw l).length=m
 |0,l,h=>by
  have:l=[]:=bY.1 (by omega);subst this;exact⟨rfl,rfl⟩
 |m+1,l,h=>by
  match l,h with
  |a::b::l,h =>
   have ih:=Kd m (l:=l) (by simp at h;omega);simp[Iw,ih.1,ih.2,aY,za]
  |[],h=>simp at h
  |[_],h=>simp at h;omega
def MQ(p:Int×Int):Prt:=⟨p.1,p.2⟩
theorem ahj(l:List (Int×Int)):(l.map MQ).flatMap Prt.enc=l.flatMap za:=by
 induction l with
 |nil=>rfl
 |cons p l ih=>simp only[aL,aS,ih];rfl
def aff:List Int→Trem.eZ
 |[x0,x1,x2,x3,x4,x5,x6,x7,x8,x9]=>⟨⟨x0,x1,x2⟩,⟨x3,x4,x5⟩,x6,x7,x8,x9⟩
 |_=>⟨⟨0,0,0⟩,⟨0,0,0⟩,0,0,0,0⟩
def sG(b:Bk)(k:Nat)(nm:List UInt8)(l:List Int):Bk×Int :=
 match k with
 |0=>match l with
  |[x,y,z,k]=>z8 b x y z k
  |_=>(b,4)
 |1=>Ab b (Si l)
 |2=>match l with
  |[x,y,z]=>Hw b x y z
  |_=>(b,4)
 |3=>match l with
  |[x,y,z]=>yW b x y z
  |_=>(b,4)
 |4=>yd b ⟨nm,l⟩
 |5=>match l with
  |k::lo::hi::r=>FU b (sB nm k lo hi (Iw r))
  |_=>(b,4)
 |6=>Di b (aff l) (aff l).RX
 |7=>match l with
  |[x,y,z]=>if Trem.rQ x y z=true then(Ji b x y z,0)else(b,1)
  |_=>(b,4)
 |8=>Aa b (Sh l)
 |9=>yV b l
 |10=>match l with
  |[w,i,lo,hi]=>yT b ⟨b.az.length,w,i,lo,hi⟩
  |_=>(b,4)
 |11=>match l with
  |i::r=>Dj b ⟨i,(Iw r).map MQ⟩
  |_=>(b,4)
 |12=>match l with
  |[w,lv,u,p]=>yU b w lv u p
  |_=>(b,4)
 |_=>(b,4)
def j8(b:Bk)(n:Int)(s:List UInt8):Bk×Int:=match parse s with
 |some (w,nm,l)=>sG {b with at_:=n } w.k nm l
 |none=>(b,4)
structure Kv(n:Nat)(b:Bk):Prop where
 ct:b.bN.ct=[]∨kS b.bN.ct=true
 ready:b.ready=true→b.bN.valid=true
 an:b.ready=false→b.bN.an=[]
 ms:b.ar≠[]→b.ready=true
 ml:b.ar.length≤40
 wl:b.rT.length=b.ar.length
 fit:∀e∈b.ar,Bd b.bN e.m=true∧e.m.name.length≤1000000∧e.m.bq.length≤1000000
 pm:b.az≠[]→b.ar≠[]
 pl:wI b.bN b.az=0
 BG:∀e∈b.ar,e.left=true→∃r,Rock.run b.bN e.m b.az=some r
 rules:b.rules.length≤20
 AZ:b.AZ.length≤200
 MG:∀e∈b.AZ,e.ok=true
 keep:Trem.rQ b.k0 b.k1 b.k2=true
 gA:b.gA.length≤10
 uok:∀u∈b.gA,u.ok=true
 qB:b.qB.length≤n
theorem ahN{t:List Rw}(h:t=[]∨kS t=true):t.length≤20:=by
 rcases h with rfl | h
 ·simp
 ·simp only[kS,af]at h;have:=bf.1 h.1;omega
theorem DD{t:List Rw}(h:kS t=true):t≠[]:=by
 intro hh;subst hh;simp[kS,cT]at h
theorem F3{s:List UInt8}{w:Wd}{nm:List UInt8}{l:List Int}(h:parse s=some (w,nm,l)):(∃a,yH a=some w)∧HD w l.length=true∧nm.length≤s.length∧l.length≤s.length+1:=by
 have hlen:=Aw 32 s;have hle:=Ez 32 s;unfold parse at h;cases hsp:gY 32 s with
 |nil=>exact absurd hsp (Cf 32 s)
 |cons a all =>
 rw[hsp]at h hlen hle;simp only[aG]at hlen;simp only at h;cases hw:yH a with
 |none=>rw[hw]at h;cases h
 |some w0 =>
 rw[hw]at h;simp only at h;have key:∀nm0 (l0:List (List UInt8)),wu w0 nm0 l0=some (w,nm,l)→w0=w∧nm0=nm∧HD w l.length=true∧l.length=l0.length:=by
  intro nm0 l0 hp;unfold wu at hp;cases hm:yu l0 with
  |none=>rw[hm]at hp;cases hp
  |some ns =>
   rw[hm]at hp;simp only[aC,ae,ak]at hp;obtain⟨hf,rfl,rfl,rfl⟩:=hp;exact⟨rfl,rfl,hf,zB hm⟩
 split at h
 ·cases all with
  |nil=>cases h
  |cons n r =>
   obtain⟨rfl,rfl,h3,h4⟩:=key n r h;refine⟨⟨a,hw⟩,h3,hle n (by simp),?_⟩;simp at hlen;omega
 ·obtain⟨rfl,rfl,h3,h4⟩:=key [] all h;exact⟨⟨a,hw⟩,h3,by simp,by omega⟩
end Go.Proofs.YtfgljaglidhjiaaGreatDoor
