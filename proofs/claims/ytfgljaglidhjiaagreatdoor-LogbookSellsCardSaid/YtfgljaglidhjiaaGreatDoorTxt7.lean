import Derived.Test.YtfgljaglidhjiaaGreatDoorTxt6
import Derived.Test.YtfgljaglidhjiaaGreatDoorBase14
set_option linter.all false
set_option maxRecDepth 100000
namespace Go.Proofs.YtfgljaglidhjiaaGreatDoor
open List(length_flatMap map_take)
open Go Go.Abs Go.Rock Go.Book
variable {σ:SK}
theorem I5(hσ:σ≠[]){n:Nat}{c:Bk}(hK:Kv n c){l:List (List UInt8)}{er:List Int}{i w lv u:Nat}{p lo hi mlo mhi tk:Int}(hp:c.av≠[])(hw:w<c.bH.an.length)(hlv:lv<c.bH.ck.length)(hu:u<c.dU.length)
  (hE:∀e∈c.ar,e.left=true→xX c w lv u e.m=0) (hb:∀e∈c.ar,e.left=true→lo≤gF c w lv u e.m∧gF c w lv u e.m≤hi):∀(m k:Nat) (a z:Bool),k+m=c.ar.length →
  WL T [0,4,6,9,11,14,15,16,17] false jH [(0,.aH l.length (l.flatMap ez)),(4,.aH er.length (er.flatMap aT)),(6,.int .i64 i),(9,.aH 4 [.int .i64 w,.int .i64 lv,.int .i64 u,.int .i64 p]),(11,.own 0 (stB c)),(14,.own 0 [.int .i64 tk,.int .i64 w,.int .i64 lo,.int .i64 hi,.int .i64 mlo,.int .i64 mhi]),(15,.bool a),(16,.bool z),(17,.int .i64 k)] σ
   (fun x e σ'=>σ'=σ∧x=.exit 2∧get e 0=.aH l.length (l.flatMap ez)∧get e 4=.aH er.length (er.flatMap aT)∧get e 6=.int .i64 i ∧
    get e 15=.bool (a || lC (c.ar.drop k) fun e=>e.left && gF c w lv u e.m == lo)∧get e 16=.bool (z || lC (c.ar.drop k) fun e=>e.left && gF c w lv u e.m == hi))
 |0,k,a,z,hk=>by
  refine aN jH.eq_1 ?_;obtain rfl:k=c.ar.length:=by omega
  have h2:c.ar.drop c.ar.length=[]:=aA (by omega);simp[-length_flatMap,-map_take,stB,h2,lC]
 |m+1,k,a,z,hk=>by
  refine aN jH.eq_1 ?_;have h1:k<c.ar.length:=by omega
  obtain⟨e,he⟩:=gE h1;have hem:=ai he;have hml:=hK.ml;have h4:=gG h1 (by omega);have hfl:=bR (f:=mD.enc) (w:=4) (fun _=>rfl) he;have hfn:=bZ (f:=mD.enc) (w:=4) (fun _=>rfl) c.ar;have hdr:=Bi (f:=mD.enc) (w:=4) (fun _=>rfl) he;have hpl:0<c.av.length:=aK.2 hp;have hdp:=cS he;have en:nl pE c.av=.aH c.av.length (c.av.flatMap pE):=if_neg hp;have htn:c.bH.ck≠[]:=by intro hh;rw[hh]at hlv;simp at hlv
  have et:nl Rw.enc c.bH.ck=.aH c.bH.ck.length (c.bH.ck.flatMap Rw.enc):=if_neg htn;cases hl:e.left with
  |false =>
   have ih:=I5 (l:=l) (er:=er) (i:=i) (p:=p) (mlo:=mlo) (mhi:=mhi) (tk:=tk) hσ hK hp hw hlv hu hE hb m (k+1) a z (by omega);have q1:(lC (c.ar.drop k) fun e=>e.left && gF c w lv u e.m == lo)=lC (c.ar.drop (k+1)) fun e=>e.left && gF c w lv u e.m == lo:=by rw[hdp];simp[lC,hl]
   have q2:(lC (c.ar.drop k) fun e=>e.left && gF c w lv u e.m == hi)=lC (c.ar.drop (k+1)) fun e=>e.left && gF c w lv u e.m == hi:=by rw[hdp];simp[lC,hl]
   rw[q1,q2];simp only[stB,en,et,mD.enc,hl]at ih hfl ⊢;simp[-length_flatMap,-map_take,h1,hfl,h4];exact WL.to ih (by simp) (by simp) fun x e σ' hh=>hh
  |true =>
   have hO:=hK.oks hem;obtain⟨r,hr⟩:=hK.An e hem hl;have hz:=hE e hem hl;obtain⟨hb1,hb2⟩:=hb e hem hl;have ht:=hO.bv.ck;have htl:c.bH.ck.length≤20:=Qf hK.ck;have hPE:sj c.bH e.m c.av=0:=by
    have hfit:=hO.fit e.m (by simp);simp[sj,Bd,hO.valid,hfit,hO.pl,hr]
   have hD:xg c.bH e.m c.av=.agg [.aH r.1.length (r.1.flatMap wC),.aH r.2.length (r.2.flatMap wC)]:=by
    obtain⟨r1,r2⟩:=r;simp[xg,hPE,hr]
   have hsh:=hO.short e.m (by simp);have hP:=fun S hS=>L5 (σ:=S) (b:=c.bH) (m:=e.m) (av:=c.av) (wq:=nl bG.enc c.bH.an) sD (by omega) (by have:=hO.bv.an;omega) (by omega) (by omega) (by have:=hO.Ls;omega) (fun l hl=>by have:=(hO.aR l hl).len;have:=hO.bv.an;omega) hS
   rw[hPE,hD,Jv]at hP;have hRun:=J4.of (hO.fv e.m (by simp)) hO.aR hr;have hpl2:=hO.Ls;obtain⟨hrow,hY⟩:=P3 hRun (t:=c.av.length-1) (by omega);have f1:=bR (f:=wC) (w:=1) (fun _=>rfl) hrow;rw[dX]at f1;have hyw:(rowAt r.2 (c.av.length-1))[w]?=some (bQ (rowAt r.2 (c.av.length-1)) w):=by
    have:w<(rowAt r.2 (c.av.length-1)).length:=by rw[hY.len];exact hw
    simp[bQ,this]
   have f2:=bR (f:=Rock.aE.enc) (w:=3) (fun _=>rfl) hyw;have hyl:=hY.len;have w1:IntKind.i64.wrap ((c.av.length:Int)-1)=c.av.length-1:=fR (by omega);have t1:((c.av.length:Int)-1).toNat=c.av.length-1:=by omega
   have q1:(1:Int)≤c.av.length:=by omega
   have q2:(c.av.length:Int)-1<r.2.length:=by rw[hRun.yl];omega
   have q4:(r.2.length:Int)=c.av.length:=by rw[hRun.yl]
   have q5:(c.av.length:Int)-1<c.av.length:=by omega
   have q6:¬(c.bH.an.length:Int)≤w:=by omega
   have q7:¬(w:Int)<0:=by omega
   have hrw:c.bH.ck[lv]?=some (rowOf c lv):=by simp[rowOf,hlv]
   have hun:c.dU[u]?=some (xn c u):=by simp[xn,hu]
   have f3:=bR (f:=xx.enc) (w:=2) (fun _=>rfl) hun;have hul:=J1 c.dU;have q3:2≤c.dU.length*2-u*2:=by omega
   have hX:=fun σ=>J7 (σ:=σ) (u:=xn c u) (s:=sG (rowOf c lv) (tf c r w)) (hK.uok _ (ai hun))
   have hz2:=hz;unfold xX at hz2;rw[hr]at hz2;simp only at hz2;have hvl:(tf c r w).valid=true:=by
    by_cases h:(tf c r w).valid=true
    ·exact h
    ·rw[if_neg h]at hz2;cases hz2
   rw[if_pos hvl]at hz2;have hF:=fun σ=>Nn (σ:=σ) ht hrw hvl
   have hv1:gF c w lv u e.m=y8 (xn c u).parts (sG (rowOf c lv) (tf c r w)).m:=by simp[gF,hr]
   simp only[xr.enc,tf]at hF;unfold Ta at hX;rw[if_pos hz2,← hv1]at hX;simp only[xx.enc,xr.enc,sG,tf]at hX f3;obtain⟨v,hv⟩:∃v,v=gF c w lv u e.m:=⟨_,rfl⟩;have ih:=I5 (l:=l) (er:=er) (i:=i) (p:=p) (mlo:=mlo) (mhi:=mhi) (tk:=tk) hσ hK hp hw hlv hu hE hb m (k+1) (a || v == lo) (z || v == hi) (by omega);have p1:(a || lC (c.ar.drop k) fun e=>e.left && gF c w lv u e.m == lo)=((a || v == lo) || lC (c.ar.drop (k+1)) fun e=>e.left && gF c w lv u e.m == lo):=by rw[hdp,hv];simp[lC,hl,Bool.or_assoc]
   have p2:(z || lC (c.ar.drop k) fun e=>e.left && gF c w lv u e.m == hi)=((z || v == hi) || lC (c.ar.drop (k+1)) fun e=>e.left && gF c w lv u e.m == hi):=by rw[hdp,hv];simp[lC,hl,Bool.or_assoc]
   rw[p1,p2];rw[← hv]at hX hb1 hb2;have g1:¬v<lo:=by omega
   have g2:¬hi<v:=by omega
   simp only[stB,en,et,mD.enc,hl]at ih hfl ⊢;cases a<;>cases z<;>(simp[-length_flatMap,-map_take,h1,hfl,h4,hσ,hP,bq,f1,f2,w1,t1,q1,q2,q4,q5,q6,q7,hyl,hw,hF,wC,parts,hu,f3,hul,q3,hX,g1,g2];exact WL.to ih (by simp) (by simp) fun x e σ' hh=>hh)
end Go.Proofs.YtfgljaglidhjiaaGreatDoor
namespace Go.Proofs.YtfgljaglidhjiaaGreatDoor
open List(length_flatMap map_take)
open Go Go.Abs Go.Book
theorem agi{α:Type}{T:Ty}{w:Nat}{f:α→List D}{Q:α→Prop}(h:∀ds,T.has ds→∃a,ds=f a∧Q a){d:D}(hd:(Ty.slice w T).has [d]):
  ∃l:List α,d=.aH l.length (l.flatMap f)∧l.length≤maxLen∧∀a∈l,Q a:=by
 simp only[Ty.has,kz,and_true]at hd;obtain⟨xs,rfl,hl,hx⟩:=hd;have key:∀xs:List (List D),(∀x∈xs,x.length=w∧T.has x)→∃l:List α,xs.flatten=l.flatMap f∧l.length=xs.length∧∀a∈l,Q a:=by
  intro xs;induction xs with
  |nil=>intro _;exact⟨[],rfl,rfl,by simp⟩
  |cons x xs ih =>
   intro hx;obtain⟨l,h1,h2,h3⟩:=ih fun y hy=>hx y (by simp[hy])
   obtain⟨a,rfl,ha⟩:=h x (hx x (by simp)).2;exact⟨a::l,by simp[h1],by simp[h2],fun b hb=>by
    rcases aW.1 hb with rfl | hb
    ·exact ha
    ·exact h3 b hb⟩
 obtain⟨l,h1,h2,h3⟩:=key xs hx;exact⟨l,by rw[h1,h2],by omega,h3⟩
theorem agu{ds:List D}(h:Ty.str.has ds):∃s:List UInt8,ds=ez s∧s.length≤maxLen:=h
end Go.Proofs.YtfgljaglidhjiaaGreatDoor
set_option maxRecDepth 100000
namespace Go.Proofs.YtfgljaglidhjiaaGreatDoor
open List(length_flatMap map_take)
open Go Go.Abs Go.Rock Go.Book
variable {σ:SK}
set_option maxHeartbeats 4000000 in
theorem NC{l:List (List UInt8)}{er:List Int}(hk:Rp l)(her:er=(ub l).2)(hσ:σ≠[]):∀(m i:Nat),i+m=l.length →
  WL T [0,4,6] false jI [(0,.aH l.length (l.flatMap ez)),(4,.aH er.length (er.flatMap aT)),(6,.int .i64 i)] σ
   (fun x e σ'=>σ'=σ∧x=.exit 0)
 |0,i,hi=>by
  refine aN jI.eq_1 ?_;have h1:¬i<l.length:=by omega
  simp[-length_flatMap,-map_take,h1]
 |m+1,i,hi=>by
  refine aN jI.eq_1 ?_;have hll:=hk.1;have h1:i<l.length:=by omega
  have hel:er.length=l.length:=by rw[her];exact BS
  have h1':i<er.length:=by omega
  obtain⟨s,hs⟩:=gE h1;obtain⟨e,hee⟩:=gE h1';have a1:=bR (f:=ez) (w:=1) (fun _=>rfl) hs;have a2:=bR (f:=aT) (w:=1) (fun _=>rfl) hee;simp only[ez,aT,dX]at a1 a2;have h4:=gG h1 (by omega);have hsl:=hk.2 s (ai hs);have hP:=fun S hS=>ae7 (σ:=S) (s:=s) (by omega) hS
  have ih:=NC hk her hσ m (i+1) (by omega);have e1:((i+1:Nat):Int)=(i:Int)+1:=by omega
  have hc0:=her ▸ hee;rcases Rx (fun h=>(wd9 h).2) hs hc0 with⟨x,y,d,f,hr,hd,hc⟩ | ⟨w,nm,ns,hp,hw,rfl,hr⟩
  ·rw[hr]at hP;have fin:(f=true∧x=[115,101,108,108]∧¬e=0)∨(f=true∧¬x=[115,101,108,108])∨(f=false∧True):=by
    cases f
    ·exact .inr (.inr ⟨rfl,trivial⟩)
    ·by_cases hx:x=[115,101,108,108]
     ·exact .inl ⟨rfl,hx,hc rfl hx⟩
     ·exact .inr (.inl ⟨rfl,hx⟩)
   rcases hd with rfl | ⟨q,rfl⟩<;>rcases fin with⟨rfl,rfl,h0⟩ | ⟨rfl,h0⟩ | ⟨rfl,h0⟩
   all_goals
    simp[-length_flatMap,-map_take,sF,h1,h1',a1,a2,h4,hP,hσ,h0];exact WL.to ih (by simp) (by simp) fun x e σ' hh=>hh
  ·rw[hr]at hP;obtain⟨wi,lv,u,p,pre,c,hcr,rfl,hleft,hpl,hok,hse,hsal⟩:=aeo hs hc0 hp hw;have tk2:=agC (n:=i+1) hk;have tl2:(l.take (i+1)).length=i+1:=by simp;omega
   have hL2:=fun S hS=>Sb (σ:=S) (l:=l.take (i+1)) (by omega) hS
   have hR2:=fun S hS=>agG (σ:=S) tk2 hS
   have hKv:=Ly (l:=l.take (i+1)) (k:=0) Kv.zero tk2.2;rw[show(tg rO 0 (l.take (i+1))).1=c from hcr]at hKv;rw[tl2,← aex]at hL2 hR2;rw[hcr]at hR2;generalize (ub (l.take (i+1))).2=r2 at hR2;have hc2:=hok;simp only[E2,af]at hc2;obtain⟨k1,k2,k3,k4⟩:=hc2;have i1:=ba.1 k1;have i2:=ba.1 k2;have i3:=ba.1 k3;have i4:=ba.1 k4;obtain⟨wi,rfl⟩:∃n:Nat,wi=n:=⟨wi.toNat,by omega⟩;obtain⟨lv,rfl⟩:∃n:Nat,lv=n:=⟨lv.toNat,by omega⟩;obtain⟨u,rfl⟩:∃n:Nat,u=n:=⟨u.toNat,by omega⟩;simp only[BW,Br,Int.toNat_natCast]at hse hsal;have hul:=hKv.dU;have hbs:∀x∈(bS c.ar).map (fun e=>gF c wi lv u e.m),0≤x∧x≤1000000000:=by
    intro x hx;simp only[bK]at hx;obtain⟨e,he,rfl⟩:=hx;exact P5 (by omega) hKv.uok (qU hse e he)
   obtain⟨⟨s1,s2⟩,s3⟩:=aes (l:=(bS c.ar).map (fun e=>gF c wi lv u e.m)) (by simpa using hleft);have hE:∀e∈c.ar,e.left=true→xX c wi lv u e.m=0:=fun e he hl=>qU hse e (bY.2 ⟨he,hl⟩)
   have hB:∀e∈c.ar,e.left=true→Cm ((bS c.ar).map (fun e=>gF c wi lv u e.m))≤gF c wi lv u e.m∧gF c wi lv u e.m≤Ck ((bS c.ar).map (fun e=>gF c wi lv u e.m)) :=
    fun e he hl=>s3 _ (bK.2 ⟨e,bY.2 ⟨he,hl⟩,rfl⟩)
   have z1:lC c.ar (fun e=>e.left && gF c wi lv u e.m == Cm ((bS c.ar).map (fun e=>gF c wi lv u e.m)))=true:=by
    obtain⟨e,he,h⟩:=bK.1 s1;obtain⟨he,hl⟩:=bY.1 he;exact DE.2 ⟨e,he,by simp only[hl,h,Bool.true_and,beq_self_eq_true]⟩
   have z2:lC c.ar (fun e=>e.left && gF c wi lv u e.m == Ck ((bS c.ar).map (fun e=>gF c wi lv u e.m)))=true:=by
    obtain⟨e,he,h⟩:=bK.1 s2;obtain⟨he,hl⟩:=bY.1 he;exact DE.2 ⟨e,he,by simp only[hl,h,Bool.true_and,beq_self_eq_true]⟩
   have b1:=hbs _ s1;have b2:=hbs _ s2;generalize Cm ((bS c.ar).map (fun e=>gF c wi lv u e.m))=lo at *
   generalize Ck ((bS c.ar).map (fun e=>gF c wi lv u e.m))=hi' at *
   have p1:0≤lo*p:=dI b1.1 i4.1;have p2:lo*p≤1000000000*1000:=ic b1.2 i4.2 i4.1 (by omega);have p3:0≤hi'*p:=dI b2.1 i4.1;have p4:hi'*p≤1000000000*1000:=ic b2.2 i4.2 i4.1 (by omega);have w4:IntKind.i64.wrap (lo*p)=lo*p:=fR (by omega);have w5:IntKind.i64.wrap (hi'*p)=hi'*p:=fR (by omega);have hin:=I5 hσ hKv (l:=l) (er:=er) (i:=i) (p:=p) (lo:=lo) (hi:=hi') (mlo:=lo*p) (mhi:=hi'*p) (tk:=c.av.length) hpl (w:=wi) (lv:=lv) (u:=u) (by omega) (by omega) (by omega) hE hB c.ar.length 0 false false (by omega);rw[aO,z1,z2]at hin;have q1:0<c.av.length:=aK.2 hpl;have q2:c.jB.length=pre.length+1:=by rw[hsal];simp
   have q3:c.jB[pre.length]?=some ⟨c.av.length,wi,lo,hi',lo*p,hi'*p⟩:=by rw[hsal];simp
   have a3:=bR (f:=LU.enc) (w:=6) (fun _=>rfl) q3;have q4:=bZ (f:=LU.enc) (w:=6) (fun _=>rfl) c.jB;simp only[LU.enc]at a3;have hsb:=hKv.jB;rw[tl2]at hsb;have w6:IntKind.i64.wrap ((pre.length:Int)+1-1)=pre.length:=(fR (by omega)).trans (by omega);have w7:IntKind.i64.wrap (pre.length:Int)=pre.length:=fR (by omega);have il:(i:Int)≤l.length:=by omega
   have il2:(i:Int)+1≤l.length:=by omega
   have il0:(0:Int)≤(i:Int)+1:=by omega
   have il4:i+1≤l.length:=by omega
   have g1:¬(u:Int)<0:=by omega
   have g2:¬(c.dU.length:Int)≤u:=by omega
   have g3:pre.length<pre.length+1:=by omega
   have en:nl pE c.av=.aH c.av.length (c.av.flatMap pE):=if_neg hpl;have g4:¬c.av.length=0:=by omega
   simp only[stB,en,q2]at hR2 hin;have g5:(pre.length:Int)<(pre.length:Int)+1:=by omega
   have g7:¬(pre.length:Int)+1=0:=by omega
   have g6:6≤(c.jB.flatMap LU.enc).length-pre.length*6:=by omega
   simp[-length_flatMap,-map_take,sF,h1,h1',a1,a2,a3,h4,hP,hσ,hL2,hR2,il0,il,il2,il4,g1,g2,g3,g4,g5,g6,g7,w4,w5,w6,w7,hpl,q1,q2];refine WL.to hin (by simp) (by simp) ?_;rintro x e σ' ⟨rfl,rfl,g0,g4,g6,g15,g16⟩;simp[-length_flatMap,-map_take,h4,g0,g4,g6,g15,g16];exact WL.to ih (by simp) (by simp) fun x e σ' hh=>hh
theorem Q9{l:List (List UInt8)}(hl:l.length≤9223372036854775807):
  lim T (.call false jX [.aH l.length (l.flatMap ez)] [[]])=some (.val (.bool true) [[]]):=by
 obtain⟨v,hF,hv⟩:=asC (l:=l) (by omega) [[],[]];have hA:=aeV;refine az AJ mM.eq_1 rfl ?_;cases v
 ·simp[-length_flatMap,-map_take,hF,hA]
 have hl:l.length≤1000000000:=by have:=hv rfl;omega
 have hR:=Qx (σ:=[[],[]]) (l:=l) hl;cases hok:okB l
 ·rw[hok]at hR;simp[-length_flatMap,-map_take,hF,hR,hA]
 rw[hok]at hR;have hk:=PT.1 hok;have hL:=fun S hS=>Sb (σ:=S) (l:=l) hl hS
 have hRun:=fun S hS=>agG (σ:=S) hk hS
 have hel:(ub l).2.length=l.length:=BS;have hin:=NC (σ:=[[],[]]) hk rfl (by simp) l.length 0 (by omega);rw[hel]at hin;simp only[stB]at hRun;generalize (ub l).1=b at hRun;generalize (ub l).2=er at hRun hin;simp[-length_flatMap,-map_take,hF,hR,hL,hRun];refine WL.to hin (by simp) rfl ?_;rintro x e σ' ⟨rfl,rfl⟩;simp[-length_flatMap,-map_take,hA]
theorem FR(x0:D)(t0:(Ty.slice 1 .str).auW x0):∃σ',lim T (.call false jX [x0] [[]])=some (.val (.bool true) σ'):=by
 obtain⟨l,rfl,hl,_⟩:=agi (fun ds h=>agu h) t0;have hm:maxLen≤9223372036854775807:=by decide
 exact⟨_,Q9 (by omega)⟩
end Go.Proofs.YtfgljaglidhjiaaGreatDoor
