import Derived.Test.YtnlkaeapgmkbnaaDoorTxt0
import Derived.Test.YtnlkaeapgmkbnaaDoorBase14
set_option linter.all false
namespace Go.Proofs.YtnlkaeapgmkbnaaDoor
open List(length_flatMap map_take)
open Go Go.Abs Go.Rock
variable {σ:SK}
set_option maxHeartbeats 4000000 in
theorem vK{x y s n:Nat}{p u v:Int}(hn:1≤n∧n≤8)(hs:100≤s∧s≤1000)(hp:1≤p∧p<s)(ex:(x:Int)=u*s+p)(ey:(y:Int)=v*s+p)(hu:0≤u∧u≤8)(hv:0≤v∧v≤8)(hσ:σ≠[]):
  lim T (.call false gi [.agg [.int .i64 x,.int .i64 y,.int .i64 0,.ch n ((List.replicate n (s,0)).flatMap iu)],.int .i64 s] σ) =
   some (.val (.er [.ch (n+2) ((zr (n+2)).flatMap (iw u v)),.ch (n+2) ((zr (n+2)).flatMap (iw u v)),.int .i64 0]) σ):=by
 refine aX o8 iD.eq_1 rfl ?_;have hxb:x≤20000:=by
  have:=oz (a:=u) (b:=s) (A:=8) (B:=1000) hu.1 hu.2 (by omega) (by omega);omega
 have hyb:y≤20000:=by
  have:=oz (a:=v) (b:=s) (A:=8) (B:=1000) hv.1 hv.2 (by omega) (by omega);omega
 obtain⟨l,hl⟩:∃l,l=List.replicate n (s,0):=⟨_,rfl⟩;have hll:l.length=n:=by rw[hl];simp
 have hok:∀q∈l,nA q:=fun q hq=>by
  rw[hl]at hq;obtain rfl:=List.eq_of_mem_replicate hq;exact⟨⟨by simp;omega,by simp;omega⟩,by simp⟩
 have hV:=fun S=>s9 (σ:=S) (l:=l) hxb hyb (by omega) (by omega) hok
 have hM:=fun S hS=>re (σ:=S) (l:=l) hxb hyb (by omega) hok hS
 have hW:iR (s:Int) 100 1000=true:=nv (by omega) (by omega);have hL:=wQ (σ:=σ) (n:=n) (by omega) ⟨by omega,by omega⟩ hp ex ey hu hv hσ n 0 (by omega);have hR:=zn (σ:=σ) (u:=u) (v:=v) (N:=n+2) (M:=.cells 0 [.int .i64 x,.int .i64 y,.int .i64 0,.ch l.length (l.flatMap iu),.ch (l.length+1) ((jE (0,0) l).flatMap (j5 x y))]) ⟨by omega,by omega⟩ _ [] (by simp) (by simp) rfl;have hz:zk n=zr (n+2):=by unfold zk;rw[if_neg (by omega)]
 rw[← hl]at hL ⊢;rw[hz]at hL;rw[hll]at hV hM;simp only[wH,hll]at hM hR;simp[-length_flatMap,-map_take,hV,hM,jD,hW,iV,kA,pZ];refine WL.to hL (by simp) (by simp[sK,zk,rU,hll]) ?_;rintro x' e σ' ⟨rfl,g4,g5,g8,rfl⟩;have hfl:(rU u v (zr (n+2))).length=n+2:=by simp[rU,l8]
 simp[-length_flatMap,-map_take,g4,g5,g8,sK,pZ,mO,hfl];simp only[ur,oY,Gk,yr,En,bD,List.reverse_nil,aS,gr]at hR;refine⟨_,_,_,by simpa[hll]using hR,?_⟩;simp;generalize hM2:Abs.b8.cells 0 [.int .i64 x,.int .i64 y,.int .i64 0,.ch n (l.flatMap iu),.ch (n+1) ((jE (0,0) l).flatMap (j5 x y))]=M;have k1:=fun R=>sf (σ:=σ) (n:=15) (f:=iw u v) (w:=3) (by omega) (fun _=>rfl) (fun _=>by simp[D.clean]) (l:=zr (n+2)) (j:=0) (v:=n+2) (bs:=.cells (n+2) ((zr (n+2)).flatMap (iw u v))::R) hσ rfl
 have k2:=fun R=>sf (σ:=σ) (n:=15) (f:=iw u v) (w:=3) (by omega) (fun _=>rfl) (fun _=>by simp[D.clean]) (l:=zr (n+2)) (j:=1) (v:=n+2) (bs:=.dead::.cells (n+2) ((zr (n+2)).flatMap (iw u v))::R) hσ rfl
 simp only[l8,List.set_cons_zero,List.set_cons_succ]at k1 k2;have hi:∀(k:Int) (S:SK),bB (σ.length-1) 15 (.int .i64 k) S=(.int .i64 k,S):=fun k S=>mh (by rfl) (by omega)
 rw[vj (by simp[D.clean,D.bp]) (by omega)];simp only[nY,pH,Nat.reduceSub,k1,k2,hi];exact⟨_,rfl⟩
theorem EL{a:Int}:lim T (.call false dW [.int .i64 a] σ)=some (.val (.bool (iR a (-100000) 100000)) σ):=by
 refine aX nO gB.eq_1 rfl ?_;simp[-length_flatMap,-map_take,eS]
@[simp] def sU(f:iO)(u v:Int)(z:Nat):List D:=[.str ([108,111,103]++pJ z),.int .i64 0,.ch 1 [.int .i64 (zZ f u v z)],.ch 1 [.int .i64 1],.int .i64 0,.int .i64 0]
set_option maxHeartbeats 4000000 in
theorem Av{f:iO}{u v:Int}{n:Nat}(hf:f.valid=true)(hh:∀z:Nat,z<n→j2 f u v z=true)(hn:n≤8):∀(m i:Nat),i+m=n →
  WL T [1,2,3,4,6,7,17,70,71,72] false fk [(1,.str [108,111,103]),(2,.int .i64 0),(3,.int .i64 u),(4,.int .i64 v),(6,.int .i64 0),(7,.bE [.int .i64 f.x,.int .i64 f.y,.int .i64 f.z,.int .i64 f.k]),(17,.sl σ.length 0 i 0 i 6),(70,.ch n ((List.replicate n (0:Int)).flatMap mB)),(71,.int .i64 n),(72,.int .i64 i)]
   ([.cells i ((List.range i).flatMap (sU f u v))]::σ)
   (fun x e σ'=>x=.exit 1∧get e 17=.sl σ.length 0 n 0 n 6∧σ'=[.cells n ((List.range n).flatMap (sU f u v))]::σ)
 |0,i,hi=>by
  refine aE fk.eq_1 ?_;obtain rfl:i=n:=by omega
  simp[-length_flatMap,-map_take]
 |m+1,i,hi=>by
  refine aE fk.eq_1 ?_;have h1:i<n:=by omega
  have x1:(List.replicate n (0:Int))[i]?=some 0:=by simp[h1]
  have a1:=gY (f:=mB) (w:=1) (fun _=>rfl) x1;simp only[mB,tb]at a1;have hI:=fun S=>EH (σ:=S) (n:=(i:Int)) (by omega)
  have hN:=fun S=>sZ (σ:=S) hf (hh i h1)
  have h4:=rT h1 (by omega);have a4:=eI (f:=sU f u v) (w:=6) (fun _=>rfl) (List.range i);rw[List.length_range]at a4;have a5:((List.range i).flatMap (sU f u v)).take (i*6)=(List.range i).flatMap (sU f u v):=bh (by omega);have a6:i*6≤((List.range i).flatMap (sU f u v)).length:=by omega
  have hr:(i+1)*88≤room:=by unfold room;omega
  have c0:(i:Int)<n:=by omega
  have hlen:(pJ (i:Int)).length≤1:=by
   have h:i=0∨i=1∨i=2∨i=3∨i=4∨i=5∨i=6∨i=7:=by omega
   rcases h with rfl | rfl | rfl | rfl | rfl | rfl | rfl | rfl<;>decide
  have hl3:3+(pJ (i:Int)).length≤4611686018427387904:=by omega
  have ih:=Av hf hh hn m (i+1) (by omega);rw[List.range_succ]at ih;simp[-length_flatMap,-map_take,h1,c0,a1,hI,hN,h4,a5,a6,hr,so,hl3];exact WL.to ih (by simp) (by simp) fun x e σ' hh=>hh
set_option maxHeartbeats 4000000 in
theorem wI{f:iO}{u v:Int}{n:Nat}(hf:f.valid=true)(hn:(n:Int)=f.z)(hu:0≤u∧u<f.x)(hv:0≤v∧v<f.y)(hσ:σ≠[]):
  lim T (.call false gj [.agg [.int .i64 f.x,.int .i64 f.y,.int .i64 f.z,.int .i64 f.k],.str [108,111,103],.int .i64 0,.int .i64 u,.int .i64 v,.ch n ((List.replicate n (0:Int)).flatMap mB),.int .i64 0] σ) =
   some (.val (.er [.ch n ((List.range n).flatMap (sU f u v)),.int .i64 0]) σ):=by
 refine aX o9 iE.eq_1 rfl ?_;obtain⟨h1,h2,h3,h4,h5⟩:=iO.kQ.1 hf;have hV:=fun S=>sY (σ:=S) (f:=f)
 rw[hf]at hV;have hN:=fun S=>zl (σ:=S) (s:=[108,111,103]) (by simp)
 rw[show named [108,111,103]=true by decide]at hN;have hh:∀z:Nat,z<n→j2 f u v z=true:=fun z hz=>by
  simp only[j2,ah,gZ];omega
 have hH:=fun S=>Ar (σ:=S) (x:=u) (y:=v) (z:=0) hf
 rw[show j2 f u v 0=true from hh 0 (by omega)]at hH;have k1:iR 0 0 (f.k-1)=true:=gZ.2 (by omega);have k2:iR 0 0 100000=true:=by decide
 have w1:=fA (n:=f.k-1) (by omega);have hA:=fun S=>vM (σ:=S) (l:=List.replicate n 0) (p:=fun a=>iR a (-100000) 100000) (fv:=.fn dW [] []) (by simp;omega) (lD.fn fun x _ σ=>EL) rfl
 have hA2:ph (List.replicate n (0:Int)) (fun a=>iR a (-100000) 100000)=true:=by
  unfold ph;rw[b6];intro x hx;rw[List.eq_of_mem_replicate hx];decide
 rw[hA2,List.length_replicate]at hA;have c1:¬f.z<(n:Int):=by omega
 have c2:0<n:=by omega
 simp[-length_flatMap,-map_take,hV,hN,hH,eS,k1,k2,w1,hA,so,c1,c2];refine WL.to (Av (σ:=σ) hf hh (by omega) n 0 (by omega)) (by simp) (by simp) ?_;rintro x e σ' ⟨rfl,g,rfl⟩;simp[-length_flatMap,-map_take,g];have k1:=sf (σ:=σ) (n:=15) (f:=sU f u v) (w:=6) (by omega) (fun _=>rfl) (fun _=>by simp[D.clean,D.bp]) (l:=List.range n) (j:=0) (v:=n) (bs:=[.cells n ((List.range n).flatMap (sU f u v))]) hσ rfl;simp only[List.length_range,List.set_cons_zero]at k1;have hi:∀(k:Int) (S:SK),bB (σ.length-1) 15 (.int .i64 k) S=(.int .i64 k,S):=fun k S=>mh (by rfl) (by omega)
 rw[vj (by simp[D.clean,D.bp]) (by omega)];simp only[nY,pH,Nat.reduceSub,k1,hi];exact⟨_,rfl⟩
set_option maxHeartbeats 4000000 in
theorem H3(hσ:σ≠[]):lim T (.call false jG [] σ)=some (.val (.bool true) σ):=by
 refine aX vO mc.eq_1 rfl ?_;have hok:∀q∈[((5,2):Nat×Nat)],nA q:=fun q hq=>by simp at hq;subst hq;exact⟨⟨by omega,by omega⟩,by omega⟩
 have hV:=fun S=>s9 (σ:=S) (x:=0) (y:=0) (l:=[(5,2)]) (by omega) (by omega) (by simp) (by simp) hok
 have hM:=fun S hS=>re (σ:=S) (x:=0) (y:=0) (l:=[(5,2)]) (by omega) (by omega) (by simp) hok hS
 simp[wH,jE]at hV hM;have hS:∀S,S≠[]→lim T (.call false fx [.agg [.int .i64 0,.int .i64 0,.int .i64 0,.ch 1 [.int .i64 0,.int .i64 0,.int .i64 5,.int .i64 2]]] S) =
   some (.val (.er [.ch 2 [.int .i64 0,.int .i64 0,.int .i64 0,.int .i64 0,.int .i64 0,.int .i64 0,.int .i64 0,.int .i64 5,.int .i64 2,.int .i64 5],.int .i64 0]) S):=by
  intro S hS;refine aX oF gV.eq_1 rfl ?_;simp[-length_flatMap,-map_take,hV,hM,D.clean]
 simp[-length_flatMap,-map_take,hS]
def wD(n i:Nat):Nat:=if i≤n+1 then i-1 else n
set_option maxHeartbeats 4000000 in
theorem Au{f:iO}{u v:Int}{n kk:Nat}(hf:f.valid=true)(hn:(n:Int)=f.z)(hu:0≤u∧u<f.x)(hv:0≤v∧v<f.y){a b:D}(ha:a.calm=a∧a.strip=a)(hb:b.calm=b∧b.strip=b):∀(m i:Nat),i+m=n+2 →
  WL T [4,15,16,18,20,21,22,23] false eH [(4,.bE [.int .i64 f.x,.int .i64 f.y,.int .i64 f.z,.int .i64 f.k]),(15,a),(16,b),(18,.ch n ((List.range n).flatMap (sU f u v))),(20,.int .i64 kk),(21,.ch (n+2) ((zr (n+2)).flatMap (iw u v))),(22,.int .i64 (wD n i)),(23,.int .i64 i)] σ
   (fun x e σ'=>x=.exit 4∧σ'=σ∧get e 4=.bE [.int .i64 f.x,.int .i64 f.y,.int .i64 f.z,.int .i64 f.k]∧get e 15=a∧get e 16=b∧get e 18=.ch n ((List.range n).flatMap (sU f u v))∧get e 20=.int .i64 kk∧get e 22=.int .i64 n)
 |0,i,hi=>by
  refine aE eH.eq_1 ?_;obtain rfl:i=n+2:=by omega
  have hz:wD n (n+2)=n:=by unfold wD;rw[if_neg (by omega)]
  have c0:¬(n:Int)+2<n+2:=by omega
  simp[-length_flatMap,-map_take,hz,ha.1,ha.2,hb.1,hb.2]
 |m+1,i,hi=>by
  refine aE eH.eq_1 ?_;obtain⟨h1,h2,h3,h4,h5⟩:=iO.kQ.1 hf;have hi1:i<n+2:=by omega
  have c0:(i:Int)<n+2:=by omega
  have z1:=zc hi1;have a1:=gY (f:=iw u v) (w:=3) (fun _=>rfl) z1;simp only[iw]at a1;have a0:=uA (f:=iw u v) (w:=3) (fun _=>rfl) z1;simp only[iw,aY,aL]at a0;have a2:=eI (f:=iw u v) (w:=3) (fun _=>rfl) (zr (n+2));rw[l8]at a2;have a3:3≤((zr (n+2)).flatMap (iw u v)).length-i*3:=by omega
  have hw:IntKind.i64.wrap ((i:Int)+1)=((i+1:Nat):Int):=(fA (by omega)).trans (by omega);have hN:=fun S=>wK (σ:=S) (x:=u) (y:=v) (z:=(i:Int)-1) hf
  have hLF:=fun S=>sX (σ:=S) (f:=f)
  have ih:=Au hf hn hu hv ha hb (kk:=kk) m (i+1) (by omega);by_cases c1:1≤i∧i≤n
  ·have hh:j2 f u v ((i:Int)-1)=true:=by simp only[j2,ah,gZ];omega
   rw[hh]at hN;simp only[if_true]at hN;have e1:wD n i=i-1:=by unfold wD;rw[if_pos (by omega)]
   have e2:wD n (i+1)=i:=by unfold wD;rw[if_pos (by omega)];omega
   rw[e2]at ih;rw[e1];obtain⟨j,rfl⟩:∃j,i=j+1:=⟨i-1,by omega⟩;have x1:(List.range n)[j]?=some j:=List.getElem?_range (by omega);have b1:=gY (f:=sU f u v) (w:=6) (fun _=>rfl) x1;simp only[sU]at b1;have b0:=uA (f:=sU f u v) (w:=6) (fun _=>rfl) x1;simp only[sU,aY,aL]at b0;have b2:=eI (f:=sU f u v) (w:=6) (fun _=>rfl) (List.range n);rw[List.length_range]at b2;have hc:((j+1:Nat):Int)-1=(j:Int):=by omega
   rw[hc]at hN a1 a0;have e3:j+1-1=j:=by omega
   rw[e3];have d0:(j:Int)+1<n+2:=by omega
   have d6:(0:Int)≤(j:Int)+1:=by omega
   have d7:((j:Int)+1).toNat=j+1:=by omega
   have d1:j<n:=by omega
   have d2:(j:Int)<n:=by omega
   have d3:¬(j:Int)=f.z:=by omega
   have d4:3≤((zr (n+2)).flatMap (iw u v)).length-(j+1)*3:=a3;have d5:6≤((List.range n).flatMap (sU f u v)).length-j*6:=by omega
   have w1:IntKind.i64.wrap ((j:Int)+1)=j+1:=fA (by omega);have w2:IntKind.i64.wrap ((j:Int)+1+1)=j+1+1:=fA (by omega);simp[-length_flatMap,-map_take,d0,d6,d7,a0,a1,b0,b1,d1,d2,d3,d4,d5,w1,w2,hN,hLF,ha.1,ha.2,hb.1,hb.2];exact WL.to ih (by simp) rfl fun x e σ' hh=>hh
  ·have hh:j2 f u v ((i:Int)-1)=false:=by
    cases hq:j2 f u v ((i:Int)-1)
    ·rfl
    ·simp only[j2,ah,gZ]at hq;omega
   rw[hh]at hN;have e2:wD n (i+1)=wD n i:=by
    unfold wD;by_cases hi0:i=0
    ·subst hi0;rw[if_pos (by omega),if_pos (by omega)]
    ·rw[if_neg (by omega),if_pos (by omega)];omega
   rw[e2]at ih;generalize wD n i=zz at ih ⊢;simp[-length_flatMap,-map_take,c0,a0,a1,a3,hw,hN,hLF,ha.1,ha.2,hb.1,hb.2];exact WL.to ih (by simp) rfl fun x e σ' hh=>hh
set_option maxHeartbeats 4000000 in
theorem H7{f:iO}{u v:Int}{n:Nat}(hf:f.valid=true)(hn:(n:Int)=f.z)(hu:0≤u∧u<f.x)(hv:0≤v∧v<f.y):
  WL T [4,15,16,18,20] false dq [(4,.bE [.int .i64 f.x,.int .i64 f.y,.int .i64 f.z,.int .i64 f.k]),(15,.ch (n+2) ((zr (n+2)).flatMap (iw u v))),(16,.ch (n+2) ((zr (n+2)).flatMap (iw u v))),(18,.ch n ((List.range n).flatMap (sU f u v))),(20,.int .i64 0)] σ
   (fun x e σ'=>x=.exit 2∧σ'=σ):=by
 have hL:=fun kk=>Au (σ:=σ) (kk:=kk) (a:=.ch (n+2) ((zr (n+2)).flatMap (iw u v))) (b:=.ch (n+2) ((zr (n+2)).flatMap (iw u v))) hf hn hu hv ⟨rfl,rfl⟩ ⟨rfl,rfl⟩ (n+2) 0 (by omega)
 have hz:wD n 0=0:=by simp[wD]
 rw[hz]at hL;have d3:(n:Int)=f.z:=hn;refine aE dq.eq_1 ?_;simp[-length_flatMap,-map_take];refine WL.to (hL 0) (by simp) rfl ?_;rintro x e σ' ⟨rfl,rfl,g4,g15,g16,g18,g20,g22⟩;simp[-length_flatMap,-map_take,g4,g15,g16,g18,g20,g22,d3];refine aE dq.eq_1 ?_;simp[-length_flatMap,-map_take];refine WL.to (hL 1) (by simp) rfl ?_;rintro x e σ' ⟨rfl,rfl,g4,g15,g16,g18,g20,g22⟩;simp[-length_flatMap,-map_take,g4,g15,g16,g18,g20,g22,d3];refine aE dq.eq_1 ?_;simp[-length_flatMap,-map_take]
set_option maxHeartbeats 4000000 in
theorem uX{f:iO}{u v X Y:Int}{s n:Nat}(hn:(n:Int)=f.z)(h8:n≤8)(hs:s≤1000):∀(m k:Nat),k+m=n →
  WL T [4,9,10,11,12,13,14] false eG [(4,.bE [.int .i64 f.x,.int .i64 f.y,.int .i64 f.z,.int .i64 f.k]),(9,.int .i64 s),(10,.int .i64 u),(11,.int .i64 v),(12,.own 0 [.int .i64 X,.int .i64 Y,.int .i64 0,.sl σ.length 0 k 0 k 4]),(13,.sl σ.length 1 k 0 k 1),(14,.int .i64 k)]
   ([.cells k ((List.replicate k (s,0)).flatMap iu),.cells k ((List.replicate k (0:Int)).flatMap mB)]::σ)
   (fun x e σ'=>x=.exit 0∧get e 4=.bE [.int .i64 f.x,.int .i64 f.y,.int .i64 f.z,.int .i64 f.k]∧get e 9=.int .i64 s∧get e 10=.int .i64 u∧get e 11=.int .i64 v∧(∃t,get e 12=.own t [.int .i64 X,.int .i64 Y,.int .i64 0,.sl σ.length 0 n 0 n 4])∧get e 13=.sl σ.length 1 n 0 n 1 ∧
    σ'=[.cells n ((List.replicate n (s,0)).flatMap iu),.cells n ((List.replicate n (0:Int)).flatMap mB)]::σ)
 |0,k,hi=>by
  refine aE eG.eq_1 ?_;obtain rfl:k=n:=by omega
  simp[-length_flatMap,-map_take,hn]
 |m+1,k,hi=>by
  refine aE eG.eq_1 ?_;have h1:(k:Int)<f.z:=by omega
  have w1:IntKind.i64.wrap ((k:Int)+1)=k+1:=fA (by omega);have a1:=eI (f:=iu) (w:=4) (fun _=>rfl) (List.replicate k (s,0));have a2:=eI (f:=mB) (w:=1) (fun _=>rfl) (List.replicate k (0:Int));simp only[List.length_replicate]at a1 a2;have a3:((List.replicate k (s,0)).flatMap iu).take (k*4)=(List.replicate k (s,0)).flatMap iu:=bh (by omega);have a4:((List.replicate k (0:Int)).flatMap mB).take k=(List.replicate k (0:Int)).flatMap mB:=bh (by omega);have a5:k*4≤((List.replicate k (s,0)).flatMap iu).length:=by omega
  have a6:k≤((List.replicate k (0:Int)).flatMap mB).length:=by omega
  have r1:(k+1)*32≤room:=by unfold room;omega
  have r2:(k+1)*8≤room:=by unfold room;omega
  have ih:=uX (u:=u) (v:=v) (X:=X) (Y:=Y) hn h8 hs m (k+1) (by omega);rw[List.replicate_succ',List.replicate_succ']at ih;simp[-length_flatMap,-map_take,h1,w1,a3,a4,a5,a6,r1,r2];exact WL.to ih (by simp) (by simp) fun x e σ' hh=>hh
set_option maxHeartbeats 1000000 in
theorem tM{f:iO}{x y z:Nat}(hx:x≤255)(hy:y≤255)(hz:z≤65535):
  lim T (.call false eY [.agg [.int .i64 f.x,.int .i64 f.y,.int .i64 f.z,.int .i64 f.k],.int .u8 x,.int .u8 y,.int .u16 z] [[]])=some (.val (.bool true) [[]]):=by
 refine aX nP gD.eq_1 rfl ?_;have hD:=fun S hS=>H3 (σ:=S) hS
 have hF:=fun S=>wJ (σ:=S) (f:=f)
 cases hf:f.valid
 ·rw[hf]at hF;simp[-length_flatMap,-map_take,hF,hD]
 rw[hf]at hF;obtain⟨h1,h2,h3,h4,h5⟩:=iO.kQ.1 hf;obtain⟨s,hs⟩:∃s:Nat,s=100+z%901:=⟨_,rfl⟩;have hsb:100≤s∧s≤1000:=by omega
 obtain⟨u,hu⟩:∃u:Int,u=(x:Int)%f.x:=⟨_,rfl⟩;obtain⟨v,hv⟩:∃v:Int,v=(y:Int)%f.y:=⟨_,rfl⟩;have hub:0≤u∧u<f.x:=by rw[hu];exact⟨Int.emod_nonneg _ (by omega),Int.emod_lt_of_pos _ (by omega)⟩
 have hvb:0≤v∧v<f.y:=by rw[hv];exact⟨Int.emod_nonneg _ (by omega),Int.emod_lt_of_pos _ (by omega)⟩
 obtain⟨n,hn⟩:∃n:Nat,(n:Int)=f.z:=⟨f.z.toNat,by omega⟩;obtain⟨p,hp⟩:∃p:Nat,p=s / 2:=⟨_,rfl⟩;have hpb:1≤p∧p<s:=by omega
 have mu:=oz (a:=u) (b:=(s:Int)) (A:=8) (B:=1000) hub.1 (by omega) (by omega) (by omega);have mv:=oz (a:=v) (b:=(s:Int)) (A:=8) (B:=1000) hvb.1 (by omega) (by omega) (by omega);obtain⟨X,hX⟩:∃X:Nat,(X:Int)=u*s+p:=⟨(u*s+p).toNat,by omega⟩;obtain⟨Y,hY⟩:∃X:Nat,(X:Int)=v*s+p:=⟨(v*s+p).toNat,by omega⟩;have hC:=fun S hS=>vK (σ:=S) (x:=X) (y:=Y) (s:=s) (n:=n) (p:=p) (u:=u) (v:=v) (by omega) hsb (by omega) hX hY (by omega) (by omega) hS
 have hO:=fun S hS=>wI (σ:=S) (f:=f) (u:=u) (v:=v) (n:=n) hf hn hub hvb hS
 have hLF:=fun S=>sX (σ:=S) (f:=f)
 have w0:IntKind.i64.wrap (z:Int)=z:=fA (by omega);have w1:(z:Int).tmod 901=(z:Int)%901:=Int.tmod_eq_emod_of_nonneg (by omega);have w2:IntKind.i64.wrap (100+(z:Int)%901)=s:=(fA (by omega)).trans (by omega);have w3:IntKind.i64.wrap (x:Int)=x:=fA (by omega);have w4:IntKind.i64.wrap (y:Int)=y:=fA (by omega);have w5:(x:Int).tmod f.x=u:=by rw[Int.tmod_eq_emod_of_nonneg (by omega),hu]
 have w6:(y:Int).tmod f.y=v:=by rw[Int.tmod_eq_emod_of_nonneg (by omega),hv]
 have e1:¬f.x=0:=by omega
 have e2:¬f.y=0:=by omega
 have w7:IntKind.i64.wrap (u*s)=u*s:=fA (by omega);have w8:IntKind.i64.wrap (v*s)=v*s:=fA (by omega);have w9:(s:Int).tdiv 2=p:=by rw[jJ (by omega)];omega
 have w10:IntKind.i64.wrap (u*s+p)=X:=(fA (by omega)).trans hX.symm;have w11:IntKind.i64.wrap (v*s+p)=Y:=(fA (by omega)).trans hY.symm;have w12:IntKind.i64.wrap (p:Int)=p:=fA (by omega);have w13:IntKind.i64.wrap u=u:=fA (by omega);have w14:IntKind.i64.wrap v=v:=fA (by omega);have w15:IntKind.i64.wrap ((z:Int)%901)=(z:Int)%901:=fA (by omega);have hB:=uX (σ:=[[]]) (f:=f) (u:=u) (v:=v) (X:=X) (Y:=Y) (s:=s) hn (by omega) hsb.2 n 0 (by omega);simp[-length_flatMap,-map_take,hF,w0,w1,w2,w3,w4,w5,w6,e1,e2,w7,w8,w9,w10,w11,w12,w13,w14,w15];refine WL.to hB (by simp) (by simp) ?_;rintro x' e σ' ⟨rfl,g4,g9,g10,g11,⟨t,g12⟩,g13,rfl⟩;have cl1:D.bp ((List.replicate n (s,0)).flatMap iu)=true:=iV _;have cl2:D.bp ((List.replicate n (0:Int)).flatMap mB)=true:=oW (f:=mB) (fun _=>by simp[D.clean]) _;have k1:=oU (σ:=[[]]) (by simp) (bs:=[.cells n ((List.replicate n (s,0)).flatMap iu),.cells n ((List.replicate n (0:Int)).flatMap mB)]) (i:=0) (u:=n) (m:=n) (w:=4) rfl cl1 (by simp);have k2:=oU (σ:=[[]]) (by simp) (bs:=[.dead,.cells n ((List.replicate n (0:Int)).flatMap mB)]) (i:=1) (u:=n) (m:=n) (w:=1) rfl cl2 (by simp);simp only[aZ,bD,cn,List.set_cons_zero,List.set_cons_succ]at k1 k2;have d1:(n:Int)=f.z:=hn;have hT:=H7 (σ:=[[.dead,.dead],[]]) hf hn hub hvb;simp[-length_flatMap,-map_take,g4,g9,g10,g11,g12,g13,k1,k2,hC,hO,hLF,d1];refine WL.to hT (by simp) (by simp) ?_;rintro x' e σ' ⟨rfl,rfl⟩;simp[-length_flatMap,-map_take,hD]
theorem Gb{ds:List D}(h:(Ty.struct [.int .i64,.int .i64,.int .i64,.int .i64]).has ds):∃x:iO,ds=x.enc:=by
 obtain⟨_,_,rfl,⟨a,rfl,_⟩,_,_,rfl,⟨b,rfl,_⟩,_,_,rfl,⟨c,rfl,_⟩,_,_,rfl,⟨d,rfl,_⟩,rfl⟩:=h;exact⟨⟨a,b,c,d⟩,rfl⟩
theorem yZ{d:D}(h:(Ty.int .u8).uz d):∃n:Nat,d=.int .u8 n∧n≤255:=by
 obtain⟨n,h,hw⟩:=h;cases h;simp only[Lit.wf,ah,aq]at hw;have hw:0≤n∧n≤255:=hw;exact⟨n.toNat,by rw[mw hw.1],by omega⟩
theorem Ao{d:D}(h:(Ty.int .u16).uz d):∃n:Nat,d=.int .u16 n∧n≤65535:=by
 obtain⟨n,h,hw⟩:=h;cases h;simp only[Lit.wf,ah,aq]at hw;have hw:0≤n∧n≤65535:=hw;exact⟨n.toNat,by rw[mw hw.1],by omega⟩
theorem qY(x0 x1 x2 x3:D)(t0:(Ty.struct [.int .i64,.int .i64,.int .i64,.int .i64]).uz x0)(t1:(Ty.int .u8).uz x1)(t2:(Ty.int .u8).uz x2)(t3:(Ty.int .u16).uz x3):
  ∃σ',lim T (.call false eY [x0,x1,x2,x3] [[]])=some (.val (.bool true) σ'):=by
 obtain⟨ds,rfl,h⟩:=t0;obtain⟨f,rfl⟩:=Gb h;obtain⟨x,rfl,hx⟩:=yZ t1;obtain⟨y,rfl,hy⟩:=yZ t2;obtain⟨z,rfl,hz⟩:=Ao t3;exact⟨_,tM hx hy hz⟩
end Go.Proofs.YtnlkaeapgmkbnaaDoor
