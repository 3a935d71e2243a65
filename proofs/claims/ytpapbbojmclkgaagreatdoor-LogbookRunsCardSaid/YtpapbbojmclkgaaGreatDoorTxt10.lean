import Derived.Test.YtpapbbojmclkgaaGreatDoorTxt9
set_option linter.all false
set_option maxRecDepth 100000
namespace Go.Proofs.YtpapbbojmclkgaaGreatDoor
open Go Go.Abs Go.Rock Go.Book
variable {J:SK}
def zC:List D:=[iI 0,iI 0,iI 0,iI 0,.bu,iI 0,iI 0,iI 0,.bu,.bu,.bu,.bu,.bu,iI 0,iI 0,iI 0,.bu,.bu]
theorem aaJ:Cl 21 [.agg zC] (.bool true) [[],[]]:=wj.2 ⟨100,by kernel_rfl⟩
theorem aaD{lines:List (List UInt8)}(hl:lines.length<=1000000000)(hok:okB lines=false):Cl 19 [lF lines cf] (.cQ [.agg zC,.bu,iI 3]) J:=by
 refine ar ?_;have hC:=λS=>wz (J:=S) (l:=lines) hl
 simp only[hok]at hC;simp[hC,zC]
theorem aat{lines:List (List UInt8)}(hl:lines.length<=1000000000)(hok:okB lines=false):Cl 20 [lF lines cf] (.cQ [.bu,iI 3]) J:=by
 refine ar ?_;have hC:=λS=>wz (J:=S) (l:=lines) hl
 simp only[hok]at hC;simp[hC]
theorem P7{a:List (List UInt8)}(hl:a.length<=1000000000):∀(m i:Nat),i+m=a.length ->
  WL T [0,1,5] false nz [(0,lF a cf),(1,lF a cf),(5,iI i)] J (λx e J'=>J'=J/\x=.exit 0)
 |0,i,hi=>by
  refine av nz.eq_1 ?_;have h1:¬i<a.length:=by omega
  simp[h1]
 |m+1,i,hi=>by
  refine av nz.eq_1 ?_;have h1:i<a.length:=by omega
  obtain⟨x,hx⟩:=gE h1;have a1:=aP (f:=cf) (w:=1) (λ_=>rfl) hx;simp only[cf,bJ]at a1;have h4:=bO h1;simp[ia,h1,a1,h4];exact WL.to (P7 hl m (i+1) (by omega)) (by simp) rfl λx e J' hh=>hh
theorem XD{a:List (List UInt8)}(hl:a.length<=1000000000):Cl 23 [lF a cf,lF a cf] (.bool true) J:=by
 refine ar ?_;simp;refine WL.to (P7 (J:=[]::J) hl a.length 0 (by omega)) (by simp) rfl ?_;rintro x e J' ⟨rfl,rfl⟩;simp
theorem N6{lines:List (List UInt8)}{er:List Int}{A q:D}(hA:A=.bZ lines.length (fM er aO))(hq:q.calm=q)(hl:lines.length<=100)(he:er.length=lines.length):∀(m i:Nat) (acc:List (List UInt8)),i+m=lines.length->acc=yj (lines.take i) (er.take i) ->
  WL T [0,4,6,9,10,11] false fX [(0,lF lines cf),(4,A),(6,q),(9,A),(10,.sl J.length 0 acc.length 0 acc.length 1),(11,iI i)] ([.cells acc.length (fM acc cf)]::J)
   (λx e J'=>∃acc,acc=yj lines er/\x=.exit 0/\get e 6=q/\get e 10=.sl J.length 0 acc.length 0 acc.length 1/\J'=[.cells acc.length (fM acc cf)]::J)
 |0,i,acc,hi,ha=>by
  refine av fX.eq_1 ?_;subst hA;obtain rfl:i=lines.length:=by omega
  rw[List.take_length,<- he,List.take_length]at ha;subst ha;simp[hq]
 |m+1,i,acc,hi,ha=>by
  refine av fX.eq_1 ?_;subst hA;have⟨h1,h1'⟩:i<lines.length/\i<er.length:=by omega
  obtain⟨s,hs⟩:=gE h1;obtain⟨e,hee⟩:=gE h1';have a1:=aP (f:=cf) (w:=1) (λ_=>rfl) hs;have a2:=aP (f:=aO) (w:=1) (λ_=>rfl) hee;simp only[cf,aO,bJ]at a1 a2;have h4:=bO h1;have hsn:=KS hs hee;have hal:=Ka (l:=lines.take i) (r:=er.take i);rw[<- ha]at hal hsn;have hal2:acc.length<=100:=by simp at hal;omega
  have hfl:=bQ (f:=cf) (w:=1) (λ_=>rfl) acc;have tk:(fM acc cf).take acc.length=fM acc cf:=af (by omega);have hr:(acc.length+1)*16<=room:=by unfold room;omega
  have hg:acc.length<=(fM acc cf).length:=by omega
  by_cases hc:e=0
  .subst hc;rw[if_pos rfl]at hsn;simp[h1,a1,a2,h4,hr,hg,tk,hq];exact WL.to (N6 rfl hq hl he m (i+1) (acc++[s]) (by omega) hsn.symm) (by simp) (by simp) λx e J' hh=>hh
  .rw[if_neg hc,cM]at hsn;simp[h1,a2,h4,hc,hq];exact WL.to (N6 rfl hq hl he m (i+1) acc (by omega) hsn.symm) (by simp) rfl λx e J' hh=>hh
theorem Y6{l:List (List UInt8)}(hl:l.length<=9223372036854775807):
  Cl 6 [lF l cf] (.bool true) [[]]:=by
 obtain⟨v,hF,hv⟩:=ahL (l:=l) (by omega) [[],[]];have hA:=Pz [[],[]];have hAD:=Pz [[.dead],[]];refine ar ?_;cases v
 .simp[hF,hA]
 have hl:l.length<=1000000000:=by have:=hv rfl;omega
 have hR:=Vs (J:=[[],[]]) (l:=l) hl;have hL:=λS hS=>aen (J:=S) (l:=l) hl hS
 cases hok:okB l
 .rw[hok]at hR;have h1:=λJ=>aaD (J:=J) hl hok
  have h2:=λJ=>aat (J:=J) hl hok
  have h3:=aaJ;simp only[zC]at h1 h3;simp[hF,hL,h1,h2,h3,hR,hA]
 rw[hok]at hR;have hk:=Dm.1 hok;have hK:=Rk (l:=l) (k:=0) Kr.zero hk.2;have hz:=Szb.of hK (by have:=hk.1;omega);rw[show(lC iD 0 l).1=(ic l).1 from rfl]at hz;have hRun:=λS hS=>ahM (J:=S) (lines:=l) hk hS
 have hAcc:=λS hS=>RS (J:=S) (lines:=l) hk hS
 have hRef:=λS hS=>aeu (J:=S) (lines:=l) hk hS
 have hS:=λS hS=>aez (J:=S) hz hS
 have hlen:(ic l).2.length=l.length:=rF;generalize (ic l).1=b at hRun hRef hS;generalize (ic l).2=er at hRun hRef hAcc hlen;have hT:=λJ=>XD (J:=J) (a:=yj l er) (by have:=Ka (l:=l) (r:=er);omega)
 have hLo:=N6 (J:=[[]]) (lines:=l) (er:=er) (q:=lF (yj l er) cf) rfl rfl hk.1 hlen l.length 0 [] (by omega) (by simp[yj]);have hsl:(Fz b).length=18:=rfl;have hst:(Fz b).take 18=Fz b:=rfl;simp[hF,hL,hRun,hAcc,hRef,hR,hS,hsl,hst,fT,eI];refine WL.to hLo (by simp) (by simp) ?_;rintro x e J' ⟨acc,rfl,rfl,g6,g10,rfl⟩;have hf:=pM (f:=cf) (w:=1) (λ_=>rfl) (λ_=>by simp[cf]) (l:=yj l er) (j:=0) (v:=(yj l er).length) (bs:=[.cells (yj l er).length (fM (yj l er) cf)]) (J:=[[]]) (by simp) rfl;simp only[List.length_singleton]at hf g10;simp[g6,g10,hf,hT,hAD]
theorem Ls(x0:D)(t0:(Ty.slice 1 .str).aiM x0):∃J',dt T (.call false 6 [x0] [[]])=some (.val (.bool true) J'):=by
 obtain⟨l,rfl,hl,_⟩:=acA (λds h=>acN h) t0;have hm:maxLen<=9223372036854775807:=by decide
 exact⟨_,Y6 (by omega)⟩
end Go.Proofs.YtpapbbojmclkgaaGreatDoor
