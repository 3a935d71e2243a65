import Derived.Test.YtklfdfnoebnciaaGreatDoorBase3
import Derived.Laws.StructEq
set_option linter.all false
namespace Go.az
open Go
section ops
variable {P:Program} {CR:eJ} {base fb:Nat} {V:List Nat} {g:G} {J J':SK} {w:World} {B:Nat->Nat} {e:Env} {tmps:Array Value} {df:List Deferred}
 {d:D}
theorem aa0(hf:Fr fb V g w B e tmps)(hi:Inv CR base g J w){x:Operand}{X:bD}{t el:TypeId}{wd:Nat}{lo hi' mx:Option Operand}{Lo Hi Mx:Option bD}(hx:bC x=some X)
  (ht:P.underlying t=some (.slice el)) (hw:cH P el=some wd) (hlo:wP lo=some Lo) (hhi:wP hi'=some Hi) (hmx:wP mx=some Mx)
  (h:bG e J (.SL wd X Lo Hi Mx)=some (d,J')) (o:Oper) (ho:o.op=.slice t x lo hi' mx):ep P CR base g w B e (Act.mk tmps df).eval o d J':=by
 have hr:=hf.ba (df:=df) hx;have hrun:∀(a:Option Addr) (n cap l h m:Nat),(Act.mk tmps df).eval x=.slice a n cap ->
   (Instr.sliceBounds true n cap (lo.map (Act.mk tmps df).eval) (hi'.map (Act.mk tmps df).eval) (mx.map (Act.mk tmps df).eval)).run P w=.ok (l,h,m) w ->
   (execOp (Act.mk tmps df).eval o).run P w=.ok (.value (.slice (if m=l then a else a.map (·.add (l*wd))) (h-l) (m-l))) w:=by
  intro a n cap l h m he hb;simp[execOp,ho,Instr.sliceAt,bf ht,Instr.slice,he,hb,run_sizeOf hw]
 simp only[bG]at h;split at h
 .rename_i n cs hX;simp only[ab,aj]at h;obtain⟨⟨l,h'⟩,hb,rfl,rfl⟩:=h;rw[hX]at hr;generalize hcv:(Act.mk tmps df).eval x=cv at hr;cases hr with
  |yp =>
   obtain⟨m,h1,h2,h3,h4,h5⟩:=uz (P:=P) (w:=w) (df:=df) (isSlice:=true) hf hlo hhi hmx (aH 0) hb;refine .pure hi (hrun _ _ _ _ _ _ hcv h1) (ch.of ?_);obtain rfl:h'=0:=by omega
   obtain rfl:l=0:=by omega
   obtain rfl:m=0:=by omega
   simpa using bB.yp (g:=g)
  |aG _ _ a cap vs hn h2 h3 h4 =>
   obtain⟨m,h1,h2',h3',h4',h5'⟩:=uz (P:=P) (w:=w) (df:=df) (isSlice:=true) hf hlo hhi hmx hn hb;refine .pure hi (hrun _ _ _ _ _ _ hcv h1) (ch.of ?_);by_cases hml:m=l
   .rw[if_pos hml];obtain rfl:h'=l:=by omega
    simp only[Nat.sub_self];refine .aG _ _ a _ [] (by omega) (λ_ _ hh=>by simp at hh) (by simp) (by simpa using bA.nil)
   .rw[if_neg hml];simp only[aQ];by_cases hl:l*wd=0
    .rw[hl];have:a.add 0=a:=by simp[Addr.add]
     rw[this];refine .aG _ _ a _ (vs.take ((h'-l)*wd)) (by omega) (wS h2 _) (λhne=>h3 (by omega)) ?_;simpa using h4.take _
    .have ha:a.add (l*wd)=⟨a.block,a.off+l*wd,none⟩:=by
      unfold Addr.add;rw[if_neg hl]
     rw[ha];exact .aG _ _ _ _ ((vs.drop (l*wd)).take ((h'-l)*wd)) (by omega) (wS (yS h2 _) _) (λ_=>rfl) ((h4.drop _).take _)
 .rename_i l0 i0 v off n w' hX;split at h
  case isFalse=>cases h
  rename_i hw';subst hw';simp only[ab,aj]at h;obtain⟨⟨l,h'⟩,hb,rfl,rfl⟩:=h;rw[hX]at hr;generalize hcv:(Act.mk tmps df).eval x=cv at hr;cases hr with
  |sl _ _ _ _ _ _ a cap L k1 k2 hn k4 k5 k6 k7 =>
   obtain⟨m,h1,h2',h3',h4',h5'⟩:=uz (P:=P) (w:=w) (df:=df) (isSlice:=true) hf hlo hhi hmx hn.1 hb;refine .pure hi (hrun _ _ _ _ _ _ hcv h1) (ch.of ?_);by_cases hml:m=l
   .rw[if_pos hml];refine .sl _ _ _ _ _ _ a _ L k1 k2 (by omega) (λ_=>by omega) (λx hx hne=>k5 x hx (by omega)) (λ_ _ _ _ => .inr (by omega)) k7
   .rw[if_neg hml];refine .sl _ _ _ _ _ _ _ _ L k1 k2 (by omega) ?_ ?_ ?_ ?_
    .intro ha;have:a=none:=by cases a<;>simp_all
     have:=k4 this;omega
    .intro y hy hne;cases a with
     |none=>cases hy
     |some a =>
      simp only[aQ,ad]at hy;subst hy;unfold Addr.add;split
      .exact k5 a rfl (by omega)
      .rfl
    .intro cT bo sz hL;rcases k6 cT bo sz hL with⟨rfl,k8⟩ | k8
     .left
      refine⟨by simp[add_eq,dz],?_⟩;have:(m-l)*w'+l*w'=m*w':=by rw[<- iG];congr 1;omega
      have:m*w'<=cap*w':=ct _ h5';dsimp only;omega
     .omega
    .intro hL;rw[k7 hL];rfl
 .rename_i hX;simp only[ab,aj]at h;obtain⟨⟨l,h'⟩,hb,rfl,rfl⟩:=h;rw[hX]at hr;generalize hcv:(Act.mk tmps df).eval x=cv at hr;cases hr;obtain⟨m,h1,h2,h3,h4,h5⟩:=uz (P:=P) (w:=w) (df:=df) (isSlice:=true) hf hlo hhi hmx (aH 0) hb;refine .pure hi (hrun _ _ _ _ _ _ hcv h1) (ch.of ?_);obtain rfl:h'=0:=by omega
  obtain rfl:l=0:=by omega
  obtain rfl:m=0:=by omega
  exact bB.bN
 .cases h
theorem XY(hf:Fr fb V g w B e tmps)(hi:Inv CR base g J w){x:Operand}{X:bD}{t el:TypeId}{n wd:Nat}{lo hi':Option Operand}{Lo Hi:Option bD}(hx:bC x=some X)
  (ht:P.underlying t=some (.array n el)) (hw:cH P el=some wd) (hlo:wP lo=some Lo) (hhi:wP hi'=some Hi)
  (h:bG e J (.MB n wd X Lo Hi)=some (d,J')) (o:Oper) (ho:o.op=.slice t x lo hi' none):ep P CR base g w B e (Act.mk tmps df).eval o d J':=by
 have hr:=hf.ba (df:=df) hx;have hrun:∀(b o' l h m:Nat),(Act.mk tmps df).eval x=.pointer (some ⟨b,o',none⟩) ->
   (Instr.sliceBounds false n n (lo.map (Act.mk tmps df).eval) (hi'.map (Act.mk tmps df).eval) ((none:Option Operand).map (Act.mk tmps df).eval)).run P w=.ok (l,h,m) w ->
   (execOp (Act.mk tmps df).eval o).run P w=.ok (.value (.slice (some (if m=l then⟨b,o',none⟩else⟨b,o'+l*wd,none⟩)) (h-l) (m-l))) w:=by
  intro b o' l h m he hb;simp only[Option.map_none]at hb;simp[execOp,ho,Instr.sliceAt,bf ht,he,Instr.sureAddr,hb,run_sizeOf hw,add_eq]
 simp only[bG]at h;split at h
 .rename_i cs hX;simp only[ab,aj]at h;obtain⟨⟨l,h'⟩,hb,rfl,rfl⟩:=h;rw[hX]at hr;generalize hcv:(Act.mk tmps df).eval x=cv at hr;cases hr with
  |bu _ b o' vs k1 k2 =>
   obtain⟨m,h1,h2',h3',h4',h5'⟩:=uz (P:=P) (w:=w) (df:=df) (isSlice:=false) hf hlo hhi (mx:=none) rfl (aH n) hb;refine .pure hi (hrun _ _ _ _ _ hcv h1) (ch.of ?_);by_cases hml:m=l
   .rw[if_pos hml];obtain rfl:h'=l:=by omega
    simp only[Nat.sub_self];exact .aG _ _ _ _ [] (by omega) (λ_ _ hh=>by simp at hh) (λ_=>rfl) (by simpa using bA.nil)
   .rw[if_neg hml];exact .aG _ _ _ _ ((vs.drop (l*wd)).take ((h'-l)*wd)) (by omega) (wS (yS k1 _) _) (λ_=>rfl) ((k2.drop _).take _)
 .rename_i l0 i0 v off hX;split at h
  case h_2=>cases h
  rename_i cs hcs;split at h
  case isFalse=>cases h
  rename_i hlen;simp only[ab,aj]at h;obtain⟨⟨l,h'⟩,hb,rfl,rfl⟩:=h;rw[hX]at hr;generalize hcv:(Act.mk tmps df).eval x=cv at hr;cases hr with
  |ref _ _ _ _ b o1 L k1 k2 k3 k4 =>
   obtain⟨m,h1,h2',h3',h4',h5'⟩:=uz (P:=P) (w:=w) (df:=df) (isSlice:=false) hf hlo hhi (mx:=none) rfl (aH n) hb;refine .pure hi (hrun _ _ _ _ _ hcv h1) (ch.of ?_);refine .sl _ _ _ _ _ _ _ _ L k1 k2 (by omega) (λhh=>by cases hh) (λx hx _=>by cases hx;split<;>rfl) ?_ ?_
   .intro cT bo sz hL;obtain⟨rfl,rfl⟩:=k3 cT bo sz hL;by_cases hml:m=l
    .exact .inr (by omega)
    .left
     rw[if_neg hml];refine⟨by simp[dz],?_⟩;subst hL;unfold cells? at hcs;split at hcs
     case h_2=>cases hcs
     rename_i v' cs' hblk;split at hcs
     case isFalse=>cases hcs
     rename_i hv;subst hv;cases hcs;obtain⟨b0,hb0,hrel⟩:=hi.vQ _ _ _ k1;rw[hblk]at hb0;cases hb0;obtain⟨_,ca,el',hheap,hsz,hle,_⟩:=hrel;have:(m-l)*wd+l*wd=m*wd:=by rw[<- iG];congr 1;omega
     have:m*wd<=n*wd:=ct _ h5';dsimp only;omega
   .intro hL;exact absurd hL k4
 .cases h
end ops
theorem NZ(off:Nat):∀(l:List Value) (k:Nat) (a:Array Value),off+k+l.length<=a.size ->
  ((l.zipIdx k).foldl (λ(cs:Array Value) (p:Value×Nat)=>cs.setIfInBounds (off+p.2) p.1) a).toList=a.toList.take (off+k)++l++a.toList.drop (off+k+l.length)
 |[],k,a,h=>by simp
 |v::l,k,a,h=>by
  simp only[aF]at h;simp only[List.zipIdx_cons,List.foldl_cons];rw[NZ off l (k+1) _ (by simp;omega)];simp only[Array.toList_setIfInBounds,aF];have hlt:off+k<a.toList.length:=by simp;omega
  rw[show off+(k+1)=off+k+1 from by omega];have h1:(a.toList.set (off+k) v).take (off+k+1)=a.toList.take (off+k)++[v]:=by
   rw[List.take_succ_eq_append_getElem (by simpa using hlt)];simp[List.take_set_of_le]
  rw[h1,List.drop_set_of_lt (by omega)];simp only[oN,eG];rw[show off+k+1+l.length=off+k+(l.length+1)from by omega]
section
variable {base fb:Nat} {V:List Nat} {g:G} {w:World} {B:Nat->Nat} {e:Env} {tmps:Array Value} {df:List Deferred}
theorem Dj(hf:Fr fb V g w B e tmps){place:Nat->Option (Nat×Nat)}:∀{ps:List (Nat×Operand)} {parts:List (Nat×Nat×bD)} {cs ds:List D} {vs:Array Value},tO place ps=some parts ->
  bA g cs vs.toList->(∀x∈vs.toList,x.oneCell'=true)->rn e parts cs=some ds ->
  ∃vs',Instr.fill place vs (ps.map λp=>(p.1,(Act.mk tmps df).eval p.2))=some vs'/\bA g ds vs'.toList/\∀x∈vs'.toList,x.oneCell'=true
 |[],parts,cs,ds,vs,hp,hr,h1,hfill=>by
  simp only[tO,ad]at hp;subst hp;simp only[rn,ad]at hfill;subst hfill;exact⟨vs,rfl,hr,h1⟩
 |(i,x)::ps,parts,cs,ds,vs,hp,hr,h1,hfill=>by
  simp only[tO]at hp;split at hp
  case h_2=>cases hp
  rename_i o s y r' hpl hx hps;cases hp;simp only[rn]at hfill;split at hfill
  case h_2=>cases hfill
  rename_i p hcells;split at hfill
  case isFalse=>cases hfill
  rename_i hc;obtain⟨hlen,hle⟩:=hc;obtain⟨hrp,h1p⟩:=(hf.ba (df:=df) hx).cells hcells;have hsz:((Act.mk tmps df).eval x).cells.size=s:=by have:=hrp.length;simp at this;omega
  have hle':o+s<=vs.size:=by have:=hr.length;simp at this;omega
  have hset:=NZ o ((Act.mk tmps df).eval x).cells.toList 0 vs (by simp;omega);simp only[Nat.add_zero,Array.length_toList,hsz]at hset;obtain⟨vs',e1,e2,e3⟩:=Dj hf (vs:=(((Act.mk tmps df).eval x).cells.toList.zipIdx 0).foldl (λ(cs:Array Value) (p:Value×Nat)=>cs.setIfInBounds (o+p.2) p.1) vs) hps
   (by rw[hset];exact((hr.take o).append hrp).append (hr.drop (o+s))) (by
    rw[hset];intro z hz;simp only[aZ]at hz;rcases hz with(hz | hz) | hz
    .exact h1 z (db hz)
    .exact h1p z hz
    .exact h1 z (da hz)) hfill
  refine⟨vs',?_,e2,e3⟩;simp only[aN,Instr.fill,hpl,hsz];rw[if_neg (by simp;omega)];rw[<- e1];congr 1;rw[<- Array.foldl_toList];simp[Array.toList_zipIdx]
end
theorem Ed(z:Array Value)(hz:0<z.size):∀n,(List.range (n*z.size)).map (λi=>z[i%z.size]!)=(List.range n).flatMap λ_=>z.toList
 |0=>by simp
 |n+1=>by
  rw[List.range_succ,dE,<- Ed z hz n,iG,Nat.one_mul,List.range_add,List.map_append,List.map_map];congr 1;simp only[aT,cb,cC];apply List.ext_getElem (by simp);intro i h1 h2;simp only[List.getElem_map,List.getElem_range,Function.comp];have hi:i<z.size:=by simpa using h2
  have:(n*z.size+i)%z.size=i:=by rw[Nat.add_comm,Nat.add_mul_mod_self_right,Nat.mod_eq_of_lt hi]
  rw[this];simp[hi]
theorem Dv{α:Type}(z:List α):∀n:Nat,((List.range n).flatMap λ_=>z).length=n*z.length
 |0=>by simp
 |n+1=>by rw[List.range_succ,dE,bJ,Dv z n,iG];simp
theorem bA.flatMap{g:G}{z:List D}{v:List Value}(h:bA g z v):∀n:Nat,bA g ((List.range n).flatMap λ_=>z) ((List.range n).flatMap λ_=>v)
 |0=>by simpa using bA.nil
 |n+1=>by
  rw[List.range_succ,dE,dE];exact(bA.flatMap h n).append (by simpa using h)
section ops
variable {P:Program} {CR:eJ} {base fb:Nat} {V:List Nat} {g:G} {J J':SK} {w:World} {B:Nat->Nat} {e:Env} {tmps:Array Value} {df:List Deferred}
 {d:D}
theorem run_places(fs:List Field)(h:fs.all (λf=>(cH P f.type).isSome)=true):
  (fs.mapM (λf=>(do pure (f.offset,<- sizeOf f.type):Sem (Nat×Nat)))).run P w=.ok (fs.map λf=>(f.offset,(cH P f.type).getD 0)) w:=by
 induction fs with
 |nil=>simp
 |cons f fs ih =>
  simp only[iA,ae]at h;obtain⟨s,hs⟩:=cJ.1 h.1;rw[List.mapM_cons];simp only[Sem.run_bind,run_sizeOf hs,Result.andThen_ok,Sem.run_pure,ih h.2];simp[hs]
theorem Jz(hf:Fr fb V g w B e tmps)(hi:Inv CR base g J w){t:TypeId}{fs:Array Field}{z:List D}{ps:Array (Nat×Operand)}{parts:List (Nat×Nat×bD)}
  (ht:P.underlying t=some (.struct fs)) (hz:rA P t=some z) (hall:fs.toList.all (λf=>(cH P f.type).isSome)=true) (hp:tO (zq P fs) ps.toList=some parts)
  (h:bG e J (.IZ z parts)=some (d,J')) (o:Oper) (ho:o.op=.build t ps):ep P CR base g w B e (Act.mk tmps df).eval o d J':=by
 obtain⟨i,v,hinfo,hzero,hrz,h1⟩:=sW g hz;simp only[bG,aM,af]at h;obtain⟨cs,hcs,h⟩:=h;cases h;obtain⟨vs',e1,e2,e3⟩:=Dj (df:=df) hf hp hrz h1 hcs;have hplace:(λi=>(fs.toList.map λf=>(f.offset,(cH P f.type).getD 0)).toArray[i]?)=zq P fs:=by
  funext i
  simp only[zq,gL,oO,Array.getElem?_toList];cases hfi:fs[i]? with
  |none=>rfl
  |some f =>
   have hm:f∈fs.toList:=by
    rw[<- Array.getElem?_toList]at hfi;exact ai hfi
   obtain⟨s,hs⟩:=cJ.1 (gX.1 hall f hm);simp[hs]
 refine .pure hi (c:=.agg vs') ?_ (ch.of (.agg _ _ e2 e3));have hm:(fs.mapM (λf=>(do pure (f.offset,<- sizeOf f.type):Sem (Nat×Nat)))).run P w=.ok (fs.toList.map λf=>(f.offset,(cH P f.type).getD 0)).toArray w:=by
  rw[Array.mapM_eq_mapM_toList,Sem.run_map,run_places fs.toList hall];simp
 simp only[execOp,ho,Instr.build,Sem.run_bind,fK hinfo hzero,bf ht,Result.andThen_ok,hm];rw[hplace];simp only[Array.toList_map];rw[show(ps.toList.map λx=>match x with | (i,x)=>(i,(Act.mk tmps df).eval x))=ps.toList.map λp=>(p.1,(Act.mk tmps df).eval p.2)from rfl,e1];simp
theorem K4(hf:Fr fb V g w B e tmps)(hi:Inv CR base g J w){t el:TypeId}{n wd:Nat}{z:List D}{ps:Array (Nat×Operand)}{parts:List (Nat×Nat×bD)}
  (ht:P.underlying t=some (.array n el)) (hw:cH P el=some wd) (hz:rA P t=some z) (hp:tO (λi=>some (i*wd,wd)) ps.toList=some parts)
  (h:bG e J (.IZ z parts)=some (d,J')) (o:Oper) (ho:o.op=.build t ps):ep P CR base g w B e (Act.mk tmps df).eval o d J':=by
 obtain⟨i,v,hinfo,hzero,hrz,h1⟩:=sW g hz;simp only[bG,aM,af]at h;obtain⟨cs,hcs,h⟩:=h;cases h;obtain⟨vs',e1,e2,e3⟩:=Dj (df:=df) hf hp hrz h1 hcs;refine .pure hi (c:=.agg vs') ?_ (ch.of (.agg _ _ e2 e3));simp only[execOp,ho,Instr.build,Sem.run_bind,fK hinfo hzero,bf ht,Result.andThen_ok,run_sizeOf hw];simp only[Array.toList_map];rw[show(ps.toList.map λx=>match x with | (i,x)=>(i,(Act.mk tmps df).eval x))=ps.toList.map λp=>(p.1,(Act.mk tmps df).eval p.2)from rfl,e1];simp
theorem Jy(hf:Fr fb V g w B e tmps){t el:TypeId}{n wd:Nat}{z:List D}{ps:Array (Nat×Operand)}{parts:List (Nat×Nat×bD)}{cs:List D}
  (ht:P.underlying t=some (.slice el)) (hw:cH P el=some wd) (hz:rA P el=some z) (hpos:0<wd) (hzl:z.length=wd) (hbig:n*wd<=2^24)
  (hp:tO (λi=>some (i*wd,wd)) ps.toList=some parts) (hcs:rn e parts ((List.range n).flatMap λ_=>z)=some cs) (o:Oper) (ho:o.op=.buildSlice t n ps):
  ∃vs:Array Value,(execOp (Act.mk tmps df).eval o).run P w=.ok (.value (.slice (some ⟨w.heap.size,0,none⟩) n n)) (w.alloc (.cells vs el))/\bA g cs vs.toList/\(∀x∈vs.toList,x.oneCell'=true):=by
 obtain⟨i,v,hinfo,hzero,hrz,h1⟩:=sW g hz;have hvs:v.cells.size=wd:=by have:=hrz.length;simp at this;omega
 have hflat:=Ed v.cells (by omega) n;obtain⟨vs',e1,e2,e3⟩:=Dj (df:=df) hf (vs:=((List.range n).flatMap λ_=>v.cells.toList).toArray) hp (by simpa using hrz.flatMap n) (by
  intro x hx;simp only[List.mem_flatMap]at hx;obtain⟨_,_,hx⟩:=hx;exact h1 x hx) hcs
 refine⟨vs',?_,e2,e3⟩;have harr:(Array.range (n*wd)).map (λx=>v.cells[x%v.cells.size]!)=((List.range n).flatMap λ_=>v.cells.toList).toArray:=by
  rw[<- hflat,hvs];apply Array.ext';simp
 by_cases hn:n=0
 .subst hn;have e1':Instr.fill (λi=>some (i*wd,wd)) #[] (ps.toList.map λp=>(p.1,(Act.mk tmps df).eval p.2))=some vs':=by simpa using e1
  simp only[execOp,ho,Instr.buildSlice,Sem.run_bind,bf ht,Result.andThen_ok,run_sizeOf hw,Sem.run_ite];simp only[Nat.zero_mul];rw[if_neg (by omega)];simp only[Array.toList_map];rw[show(ps.toList.map λx=>match x with | (i,x)=>(i,(Act.mk tmps df).eval x))=ps.toList.map λp=>(p.1,(Act.mk tmps df).eval p.2)from rfl];simp[e1',newRow,Array.range]
 .have hne:n*wd≠0:=Nat.mul_ne_zero hn (by omega);simp only[execOp,ho,Instr.buildSlice,Sem.run_bind,bf ht,Result.andThen_ok,run_sizeOf hw,Sem.run_ite];rw[if_neg (by omega)];simp only[hne,if_false,Sem.run_bind,fK hinfo hzero,Result.andThen_ok,Sem.run_pure,harr];simp only[Array.toList_map];rw[show(ps.toList.map λx=>match x with | (i,x)=>(i,(Act.mk tmps df).eval x))=ps.toList.map λp=>(p.1,(Act.mk tmps df).eval p.2)from rfl,e1];simp[newRow]
theorem aaD(hf:Fr fb V g w B e tmps)(hi:Inv CR base g J w){t el:TypeId}{n wd:Nat}{z:List D}{ps:Array (Nat×Operand)}{parts:List (Nat×Nat×bD)}
  (ht:P.underlying t=some (.slice el)) (hw:cH P el=some wd) (hz:rA P el=some z) (hpos:0<wd) (hzl:z.length=wd) (hbig:n*wd<=2^24)
  (hp:tO (λi=>some (i*wd,wd)) ps.toList=some parts) (h:bG e J (.TE n wd ((List.range n).flatMap λ_=>z) parts)=some (d,J')) (o:Oper) (ho:o.op=.buildSlice t n ps):
  ep P CR base g w B e (Act.mk tmps df).eval o d J':=by
 simp only[bG,aM,af]at h;obtain⟨cs,hcs,h⟩:=h;cases h;obtain⟨vs,hrun,hr,h1⟩:=Jy (P:=P) (w:=w) (df:=df) hf ht hw hz hpos hzl hbig hp hcs o ho;obtain⟨i1,i2,i3⟩:=hi.En vs.toList vs el (λj y hy=>⟨by simpa using hy,h1 y (ai hy)⟩);exact .val _ hrun i2 i1 (.aG _ _ _ _ _ (aH _) i3 (λ_=>rfl) (hr.mono i2.le))
theorem aaE(hf:Fr fb V g w B e tmps)(hi:Inv CR base g J w){t el:TypeId}{n wd:Nat}{z:List D}{ps:Array (Nat×Operand)}{parts:List (Nat×Nat×bD)}
  (ht:P.underlying t=some (.slice el)) (hw:cH P el=some wd) (hz:rA P el=some z) (hpos:0<wd) (hzl:z.length=wd) (hbig:n*wd<=2^24)
  (hp:tO (λi=>some (i*wd,wd)) ps.toList=some parts) (h:bG e J (.QH n wd ((List.range n).flatMap λ_=>z) parts)=some (d,J')) (o:Oper) (ho:o.op=.buildSlice t n ps):
  ep P CR base g w B e (Act.mk tmps df).eval o d J':=by
 simp only[bG,aM,af]at h;obtain⟨cs,hcs,⟨l,i,J1⟩,hn,h⟩:=h;cases h;obtain⟨vs,hrun,hr,h1⟩:=Jy (P:=P) (w:=w) (df:=df) hf ht hw hz hpos hzl hbig hp hcs o ho;obtain⟨i1,i2⟩:=hi.yN hn vs.toList vs el hr (by simp) (λj y hy=>⟨by simpa using hy,h1 y (ai hy)⟩);refine .val _ hrun i2 i1 (.sl l i 0 0 n wd _ _ _ G.aE (aH _) ⟨aH _,by have:=Nat.le_mul_of_pos_right n hpos;omega⟩ (λhh=>by cases hh) (λx hx _=>by cases hx;rfl) ?_ (λhh=>by cases hh));intro cT bo sz hL;cases hL;refine .inl ⟨rfl,?_⟩;have hlen:cs.length=vs.size:=by have:=hr.length;simpa using this
 have hl2:∀{parts:List (Nat×Nat×bD)} {a b:List D},rn e parts a=some b->b.length=a.length:=by
  intro parts;induction parts with
  |nil=>intro a b hb;simp only[rn,ad]at hb;rw[hb]
  |cons q r ih =>
   intro a b hb;obtain⟨o1,s1,x1⟩:=q;simp only[rn]at hb;split at hb
   .rename_i p _;split at hb
    .rename_i hc;have:=ih hb;simp at this;omega
    .cases hb
   .cases hb
 have:=hl2 hcs;have h3:((List.range n).flatMap λ_=>z).length=n*wd:=by
  rw[Dv,hzl]
 omega
theorem aaV(hf:Fr fb V g w B e tmps)(hi:Inv CR base g J w){x y:Operand}{X Y:bD}{t el:TypeId}{wd bytes:Nat}{z:List D}(hx:bC x=some X)(hy:bC y=some Y)
  (ht:P.underlying t=some (.slice el)) (hw:cH P el=some wd) (hb:(P.info? el).map (·.bytes)=some bytes) (hz:rA P el=some z) (hpos:0<wd) (hbpos:0<bytes)
  (h:bG e J (.RB wd bytes z X Y)=some (d,J')) (o:Oper) (ho:o.op=.makeSlice t x y):ep P CR base g w B e (Act.mk tmps df).eval o d J':=by
 have hr:=hf.ba (df:=df) hx;have hr':=hf.ba (df:=df) hy;obtain⟨i0,v,hinfo,hzero,hrz,h1⟩:=sW g hz;simp only[bG]at h;split at h
 case h_2=>cases h
 rename_i n m hX hY;split at h
 case isFalse=>cases h
 rename_i hc;obtain⟨hn0,rfl,hroom,hzl⟩:=hc;rw[hX]at hr;rw[hY]at hr';have e1:=hr.dQ;have e2:=hr'.dQ;simp only[aM,af]at h;obtain⟨⟨l,i,J1⟩,hn,h⟩:=h;cases h;have hvs:v.cells.size=wd:=by have:=hrz.length;simp at this;omega
 have hbytes:i0.bytes=bytes:=by rw[hinfo]at hb;simpa using hb
 have hn63:n<2^63:=by
  have h1:n*1<=n*bytes:=Int.mul_le_mul_of_nonneg_left (by omega) hn0;simp only[room]at hroom;omega
 have hwrap:IntKind.i64.wrap n=n:=by
  simp only[IntKind.wrap,IntKind.bits,IntKind.signed];have:n%2^64=n:=Int.emod_eq_of_lt hn0 (by omega);simp only[this];rw[if_neg (by simp;omega)]
 have hflat:=Ed v.cells (by omega) n.toNat;have hrel:bA g ((List.range n.toNat).flatMap λ_=>z) (((List.range n.toNat).flatMap λ_=>v.cells.toList)):=hrz.flatMap _;obtain⟨i1,i2⟩:=hi.yN hn ((List.range n.toNat).flatMap λ_=>v.cells.toList) ((List.range n.toNat).flatMap λ_=>v.cells.toList).toArray el hrel (by simp) (λj y hy=>⟨by simpa using hy,by
  have hm:=ai hy;simp only[List.mem_flatMap]at hm;obtain⟨_,_,hm⟩:=hm;exact h1 y hm⟩)
 have hsz:((List.range n.toNat).flatMap λ_=>v.cells.toList).toArray.size=n.toNat*wd:=by
  rw[List.size_toArray,Dv];simp[hvs]
 refine .val (.slice (some ⟨w.heap.size,0,none⟩) n.toNat n.toNat) ?_ i2 i1 (.sl l i 0 0 _ wd _ _ _ G.aE (aH _) ⟨aH _,by omega⟩ (λhh=>by cases hh) (λx hx _=>by cases hx;rfl) ?_ (λhh=>by cases hh))
 .have hbn:(bytes:Int)*n<=2^47:=by rw[Int.mul_comm];simpa[room]using hroom
  have harr:(Array.range (n.toNat*wd)).map (λx=>v.cells[x%v.cells.size]!)=((List.range n.toNat).flatMap λ_=>v.cells.toList).toArray:=by
   rw[<- hflat,hvs];apply Array.ext';simp
  have htoo:(decide (n<0) || decide ((bytes:Int)*n>2^48))=false:=by simp;omega
  have hcond:¬(((decide (n<0) || decide ((bytes:Int)*n>2^48))=true\/n<0)\/n>n):=by rw[htoo];simp;omega
  simp only[execOp,ho,Instr.makeSlice,Sem.run_bind,bf ht,Result.andThen_ok,e1,e2,asInt,asIntOf,Sem.run_pure,run_typeInfo hinfo,hwrap,hbytes,Sem.run_ite];rw[htoo];simp only[ar,false_or,Bool.false_or];rw[if_neg (by simp;omega)];by_cases hz0:n.toNat=0
  .have:((List.range n.toNat).flatMap λ_=>v.cells.toList).toArray = #[]:=by rw[hz0];rfl
   rw[this];simp[run_askRoom,run_sizeOf hw,hz0,newRow,Go.Array.range_zero']
  .have hne:n.toNat*wd≠0:=Nat.mul_ne_zero hz0 (by omega);simp only[run_askRoom,Result.andThen_ok,run_sizeOf hw,hne,if_false,Sem.run_bind,fK hinfo hzero,Sem.run_pure,harr];simp[newRow]
 .intro cT bo sz hL;cases hL;exact .inl ⟨rfl,by rw[hsz];simp⟩
end ops
section
variable {CR:eJ} {base:Nat} {g:G} {J:SK} {w:World}
theorem Inv.kill(hi:Inv CR base g J w){l i v:Nat}{cs:List D}{L:Loc}(hL:g.loc l i=some L)(hb:dn J l i=some (.cells v cs))(hok:L.NO v):
  ∃g',Inv CR base g' (aR J l i .dead) w/\Ev g w g' w /\
   (L=.oG v/\cs=[]\/∃b o vs sz,L=.at b o v sz/\g'.row b o vs/\bA g cs vs):=by
 obtain⟨b0,hb0,hrel⟩:=hi.vQ l i L hL;rw[hb]at hb0;cases hb0;cases L with
 |dead=>exact hrel.elim
 |lp x=>exact hrel.elim
 |mp x=>exact hok.elim
 |it x=>exact hok.elim
 |ob x _=>exact hok.elim
 |oG v' =>
  obtain⟨rfl,rfl⟩:=hrel;have hle:g.le (g.cj l i .dead):=G.jg λL0 e=>by rw[hL]at e;cases e;simp[Loc.le]
  refine⟨g.cj l i .dead,hi.DM l i hle (λl' i' c=>dI c) (λl' i' c=>G.bz c) (λ_ _ _ _ _ _ _=>rfl) ?_ hi.oc ?_ ?_ (aH _) ⟨_,G.aE⟩ (λ_ _ _=>rfl),⟨hle,rfl,rfl,rfl,aH _,λ_ _ _=>rfl,?_,λb o v hv => .inl hv⟩,.inl ⟨rfl,rfl⟩⟩
  .intro L e;rw[G.aE]at e;cases e;exact⟨_,na hb,trivial⟩
  .intro l' i' L b e eb o;by_cases c:l'=l/\i'=i
   .obtain⟨rfl,rfl⟩:=c;rw[G.aE]at e;cases e;cases eb
   .rw[G.bz c]at e;exact hi.sep l' i' L b e eb o
  .intro L b e eb;rw[G.aE]at e;cases e;cases eb
  .intro b hb';obtain⟨l',i',L,e,eb⟩:=hb';by_cases c:l'=l/\i'=i
   .obtain⟨rfl,rfl⟩:=c;rw[G.aE]at e;cases e;cases eb
   .rw[G.bz c]at e;exact .inl ⟨l',i',L,e,eb⟩
 |«at» b o v' sz =>
  obtain⟨rfl,ca,el,hheap,hsz,hlen,vs,hr,hvs⟩:=hrel
  let g':G:=⟨λl' i'=>if l'=l/\i'=i then some .dead else g.loc l' i',λb' o'=>if b'=b then(if o<=o' then vs[o'-o]? else none)else g.oc b' o'⟩
  have hsame:g'.loc l i=some .dead:=by simp[g']
  have hother:∀l' i',¬(l'=l/\i'=i)->g'.loc l' i'=g.loc l' i':=λl' i' c=>by simp only[g'];rw[if_neg c]
  have hnob:∀o',g.oc b o'=none:=hi.sep l i _ b hL rfl;have hle:g.le g':=by
   refine⟨λl' i' L' e=>?_,λb' o' x e=>?_⟩
   .by_cases c:l'=l/\i'=i
    .obtain⟨rfl,rfl⟩:=c;rw[hL]at e;cases e;exact⟨.dead,hsame,by simp[Loc.le]⟩
    .exact⟨L',by rw[hother _ _ c];exact e,L'.le_refl⟩
   .have:b'≠b:=λh=>by subst h;rw[hnob]at e;cases e
    simp only[g'];rw[if_neg this];exact e
  refine⟨g',hi.DM l i hle (λl' i' c=>dI c) hother (λ_ _ _ _ _ _ _=>rfl) ?_ ?_ ?_ ?_ (aH _) ⟨.dead,by simp[g']⟩ (λ_ _ _=>rfl),⟨hle,rfl,rfl,rfl,aH _,λ_ _ _=>rfl,?_,?_⟩,.inr ⟨b,o,vs,sz,rfl,?_,hr⟩⟩
  .intro L e;rw[hsame]at e;cases e;exact⟨_,na hb,trivial⟩
  .intro b' o' x e;simp only[g']at e;split at e
   .rename_i hb';subst hb';split at e
    .rename_i hoo;obtain⟨h1,h2⟩:=hvs _ x e;rw[show o+(o'-o)=o' from by omega]at h1;exact⟨by simp only[World.cell?,hheap];simpa using h1,h2⟩
    .cases e
   .exact hi.oc b' o' x e
  .intro l' i' L' b' e eb o';by_cases c:l'=l/\i'=i
   .obtain⟨rfl,rfl⟩:=c;rw[hsame]at e;cases e;cases eb
   .rw[hother _ _ c]at e;have:b'≠b:=λh=>by subst h;exact c (hi.inj _ _ _ _ _ _ b' e hL eb rfl)
    simp only[g'];rw[if_neg this];exact hi.sep l' i' L' b' e eb o'
  .intro L b' e eb;rw[hsame]at e;cases e;cases eb
  .intro b' hb';obtain⟨l',i',L',e,eb⟩:=hb';by_cases c:l'=l/\i'=i
   .obtain⟨rfl,rfl⟩:=c;rw[hsame]at e;cases e;cases eb
   .rw[hother _ _ c]at e;exact .inl ⟨l',i',L',e,eb⟩
  .intro b' o' x e;simp only[g']at e;split at e
   .rename_i hb';subst hb';exact .inr (.inl ⟨l,i,_,hL,rfl⟩)
   .exact .inl e
  .intro j x hx;simp only[g',if_true];rw[if_pos (by omega),show o+j-o=j from by omega];exact hx
def UP(CR:eJ)(base:Nat)(f:D->SK->D×SK):Prop :=
 ∀(d:D) (J:SK) (g:G) (w:World) (c:Value),Inv CR base g J w->bB g d c ->
  ∃g',Inv CR base g' (f d J).2 w/\Ev g w g' w/\bB g' (f d J).1 c
theorem zr{f:D->SK->D×SK}(hf:UP CR base f):∀(ds:List D) (J:SK) (g:G) (w:World) (cs:List Value),Inv CR base g J w->bA g ds cs ->
  ∃g',Inv CR base g' (cn.frzL f ds J).2 w/\Ev g w g' w/\bA g' (cn.frzL f ds J).1 cs
 |[],J,g,w,cs,hi,hr=>by cases hr;exact⟨g,hi,Ev.refl g w,.nil⟩
 |d::ds,J,g,w,cs,hi,hr=>by
  cases hr with
  |cons _ c _ cs h1 h2 =>
   obtain⟨g1,i1,e1,r1⟩:=hf d J g w c hi h1;obtain⟨g2,i2,e2,r2⟩:=zr hf ds (f d J).2 g1 w cs i1 (h2.mono e1.le);exact⟨g2,i2,e1.trans e2,.cons _ _ _ _ (r1.mono e2.le) r2⟩
theorem yk(l:Nat):∀n,UP CR base (cn l n)
 |0,d,J,g,w,c,hi,hr=>⟨g,hi,Ev.refl g w,.undef c⟩
 |n+1,d,J,g,w,c,hi,hr=>by
  have ih:=zr (CR:=CR) (base:=base) (yk l n);simp only[cn];split
  .exact⟨g,hi,Ev.refl g w,hr⟩
  cases d with
  |agg ds =>
   cases hr with
   |agg _ cs hr h1 =>
    obtain⟨g',i1,e1,r1⟩:=ih ds J g w _ hi hr;exact⟨g',i1,e1,.agg _ cs r1 h1⟩
  |dj ds =>
   cases hr with
   |dj _ cs hr =>
    obtain⟨g',i1,e1,r1⟩:=ih ds J g w _ hi hr;exact⟨g',i1,e1,.dj _ cs r1⟩
  |bu ds =>
   cases hr with
   |bu _ b o vs h1 hr =>
    obtain⟨g',i1,e1,r1⟩:=ih ds J g w _ hi hr;exact⟨g',i1,e1,.bu _ b o vs (G.Er e1.le h1) r1⟩
  |aG m ds =>
   cases hr with
   |yp=>exact⟨g,by simpa[cn.frzL]using hi,Ev.refl g w,by simpa[cn.frzL]using bB.yp⟩
   |aG _ _ a cap vs hn h1 h2 hr =>
    obtain⟨g',i1,e1,r1⟩:=ih ds J g w _ hi hr;exact⟨g',i1,e1,.aG _ _ a cap vs hn (G.Er e1.le h1) h2 r1⟩
  |fn f a b =>
   cases hr with
   |fn _ _ _ a' b' h1 h2 =>
    obtain⟨g1,i1,e1,r1⟩:=ih a J g w _ hi h1;obtain⟨g2,i2,e2,r2⟩:=ih b _ g1 w _ i1 (h2.mono e1.le);exact⟨g2,i2,e1.trans e2,.fn f _ _ a' b' (r1.mono e2.le) r2⟩
  |ref l' i v off =>
   dsimp only;split
   .exact⟨g,hi,Ev.refl g w,hr⟩
   .exact⟨g,hi,Ev.refl g w,.undef c⟩
  |kJ l' i =>
   dsimp only;split
   .exact⟨g,hi,Ev.refl g w,hr⟩
   .exact⟨g,hi,Ev.refl g w,.undef c⟩
  |sl l' i v off m wd =>
   dsimp only;split
   .exact⟨g,hi,Ev.refl g w,hr⟩
   .split
    .rename_i cs hcs;cases hr with
     |sl _ _ _ _ _ _ a cap L h1 h2 h3 h4 h5 h6 h7 =>
      unfold cells? at hcs;split at hcs
      case h_2=>cases hcs
      rename_i v' cs' hblk;split at hcs
      case isFalse=>cases hcs
      rename_i hv;subst hv;cases hcs;obtain⟨g1,i1,e1,hk⟩:=hi.kill h1 hblk h2;rcases hk with⟨rfl,rfl⟩ | ⟨b,o,vs,sz,rfl,hrow,hrl⟩
      .obtain rfl:=h7 rfl;obtain rfl:=h4 rfl;obtain rfl:m=0:=by omega
       exact⟨g1,by simpa[cn.frzL]using i1,e1,by simpa[cn.frzL]using bB.yp⟩
      .obtain⟨g2,i2,e2,r2⟩:=ih ((cs.drop off).take (m*wd)) _ g1 w ((vs.drop off).take (m*wd)) i1 (((hrl.drop off).take _).mono e1.le);refine⟨g2,i2,e1.trans e2,?_⟩;rcases h6 b o sz rfl with⟨rfl,h8⟩ | rfl
       .exact .aG _ _ _ _ ((vs.drop off).take (m*wd)) h3.1 (G.Er e2.le (wS (yS hrow off) _)) (λ_=>rfl) r2
       .obtain rfl:m=0:=by omega
        cases a with
        |none=>simpa[cn.frzL]using bB.yp (g:=g2)
        |some a=>exact .aG _ _ a _ [] (aH _) (λ_ _ hh=>by simp at hh) (λhh=>absurd rfl hh) (by simpa[cn.frzL]using bA.nil)
    .exact⟨g,hi,Ev.refl g w,.undef c⟩
  |own s cs=>cases hr
  |vr x s off=>cases hr
  |emp=>cases hr
  |undef=>exact⟨g,hi,Ev.refl g w,.undef c⟩
  |bool b=>exact⟨g,hi,Ev.refl g w,.undef c⟩
  |int k m=>exact⟨g,hi,Ev.refl g w,.undef c⟩
  |str s=>exact⟨g,hi,Ev.refl g w,.undef c⟩
  |wN=>exact⟨g,hi,Ev.refl g w,.undef c⟩
  |bN=>exact⟨g,hi,Ev.refl g w,.undef c⟩
  |pR=>exact⟨g,hi,Ev.refl g w,.undef c⟩
  |tK t d=>exact⟨g,hi,Ev.refl g w,.undef c⟩
  |oD=>exact⟨g,hi,Ev.refl g w,.undef c⟩
end
section jF
variable {CR:eJ} {base:Nat}
theorem wM{w:World}:∀(nb:List (Nat×Nat)) (cs cs':List D) (J J':SK) (g:G) (vs:List Value),jF nb cs J=some (cs',J')->Inv CR base g J w->bA g cs vs ->
  ∃g',Inv CR base g' J' w/\Ev g w g' w/\bA g' cs' vs
 |[],cs,cs',J,J',g,vs,h,hi,hr=>by
  simp only[jF,ad,aj]at h;obtain⟨rfl,rfl⟩:=h;exact⟨g,hi,Ev.refl g w,hr⟩
 |(p,wd)::nb,cs,cs',J,J',g,vs,h,hi,hr=>by
  simp only[jF]at h;split at h
  .rename_i hp;simp only[aM,af]at h;obtain⟨⟨l,i,J1⟩,hn,h⟩:=h;obtain⟨i1,e1⟩:=hi.NI hn;have hr':bA (g.cj l i (.oG 0)) (cs.set p (.sl l i 0 0 0 wd)) vs:=by
    refine .W7 (by simp[hr.length]) λj d c hd hc=>?_
    rw[List.getElem?_set]at hd;split at hd
    .rename_i hpj;subst hpj;split at hd
     .cases hd;obtain⟨c',hc',hrc⟩:=hr.get hp;rw[hc]at hc';cases hc';cases hrc;exact .sl l i 0 0 0 wd none 0 (.oG 0) G.aE (aH _) (by omega) (λ_=>rfl) (λ_ hh=>by cases hh) (λ_ _ _ hh=>by cases hh) (λ_=>rfl)
     .cases hd
    .obtain⟨c',hc',hrc⟩:=hr.get hd;rw[hc]at hc';cases hc';exact hrc.mono e1.le
   obtain⟨g2,i2,e2,r2⟩:=wM nb _ _ _ _ _ vs h i1 hr';exact⟨g2,i2,e1.trans e2,r2⟩
  .exact wM nb _ _ _ _ _ vs h hi hr
theorem zA:∀(nb:List (Nat×Nat)) (cs cs':List D) (J J':SK),jF nb cs J=some (cs',J')->J'.length=J.length/\cs'.length=cs.length/\∀l i b,dn J l i=some b->dn J' l i=some b
 |[],cs,cs',J,J',h=>by
  simp only[jF,ad,aj]at h;obtain⟨rfl,rfl⟩:=h;exact⟨rfl,rfl,λ_ _ _ h=>h⟩
 |(p,wd)::nb,cs,cs',J,J',h=>by
  simp only[jF]at h;split at h
  .simp only[aM,af]at h;obtain⟨⟨l,i,J1⟩,hn,h⟩:=h;obtain⟨h1,h2,h3⟩:=zA nb _ _ _ _ h;obtain⟨k1,k2,k3,k4,_⟩:=iW hn;refine⟨h1.trans k4,by simpa using h2,λl' i' b hb=>h3 l' i' b ?_⟩;rw[k3 l' i' (λhc=>by obtain⟨rfl,rfl⟩:=hc;rw[k1]at hb;cases hb)];exact hb
  .exact zA nb _ _ _ _ h
theorem Kz(l:Nat):∀(n:Nat) (d:D) (J:SK),(cn l n d J).2.length=J.length/\∀l' i',l'<=l->dn (cn l n d J).2 l' i'=dn J l' i'
 |0,d,J=>⟨rfl,λ_ _ _=>rfl⟩
 |n+1,d,J=>by
  have ih:∀(ds:List D) (J:SK),(cn.frzL (cn l n) ds J).2.length=J.length/\∀l' i',l'<=l->dn (cn.frzL (cn l n) ds J).2 l' i'=dn J l' i':=by
   intro ds;induction ds with
   |nil=>intro J;exact⟨rfl,λ_ _ _=>rfl⟩
   |cons d ds ihd =>
    intro J;obtain⟨a1,a2⟩:=Kz l n d J;obtain⟨b1,b2⟩:=ihd (cn l n d J).2;exact⟨b1.trans a1,λl' i' h=>(b2 l' i' h).trans (a2 l' i' h)⟩
  simp only[cn];split
  .exact⟨rfl,λ_ _ _=>rfl⟩
  split
  .exact ih _ J
  .exact ih _ J
  .exact ih _ J
  .exact ih _ J
  .exact ih _ J
  .rename_i f a b _;obtain⟨a1,a2⟩:=ih a J;obtain⟨b1,b2⟩:=ih b (cn.frzL (cn l n) a J).2;exact⟨b1.trans a1,λl' i' h=>(b2 l' i' h).trans (a2 l' i' h)⟩
  .split<;>exact⟨rfl,λ_ _ _=>rfl⟩
  .split<;>exact⟨rfl,λ_ _ _=>rfl⟩
  .split
   .exact⟨rfl,λ_ _ _=>rfl⟩
   .rename_i hgt;split
    .rename_i cs _;obtain⟨a1,a2⟩:=ih ((cs.drop _).take _) (aR J _ _ .dead);refine⟨a1.trans dD,λl' i' h=>(a2 l' i' h).trans (dI λhc=>?_)⟩;omega
    .exact⟨rfl,λ_ _ _=>rfl⟩
  .exact⟨rfl,λ_ _ _=>rfl⟩
theorem H0(l n:Nat)(ds:List D)(J:SK):(cn.frzL (cn l n) ds J).2.length=J.length/\(cn.frzL (cn l n) ds J).1.length=ds.length/\∀l' i',l'<=l->dn (cn.frzL (cn l n) ds J).2 l' i'=dn J l' i':=by
 induction ds generalizing J with
 |nil=>exact⟨rfl,rfl,λ_ _ _=>rfl⟩
 |cons d ds ihd =>
  obtain⟨a1,a2⟩:=Kz l n d J;obtain⟨b1,b3,b2⟩:=ihd (cn l n d J).2;exact⟨b1.trans a1,by simp[cn.frzL,b3],λl' i' h=>(b2 l' i' h).trans (a2 l' i' h)⟩
end jF
theorem Ir{c c':Array Value}{bo off:Nat}{vs ps:List Value}(hvs:∀(j:Nat) x,vs[j]?=some x->c[bo+j]?=some x/\x.oneCell'=true)(h1:∀x∈ps,x.oneCell'=true)
  (hle:off+ps.length<=vs.length) (hc':∀j,c'[j]?=if bo+off<=j/\j<bo+off+ps.length then ps[j-(bo+off)]? else c[j]?):
  ∀(j:Nat) x,(vs.take off++ps++vs.drop (off+ps.length))[j]?=some x->c'[bo+j]?=some x/\x.oneCell'=true:=by
 intro j x hj;rw[hc'];have hlt:(vs.take off).length=off:=by simp;omega
 rw[oN,List.getElem?_append]at hj;split at hj
 .rename_i h;rw[dS]at hj;split at hj
  .rw[if_neg (by omega)];exact hvs j x hj
  .cases hj
 .rename_i h;rw[hlt]at hj h;rw[List.getElem?_append]at hj;split at hj
  .rename_i h2;rw[if_pos (by omega),show bo+j-(bo+off)=j-off from by omega];exact⟨hj,h1 x (ai hj)⟩
  .rename_i h2;rw[if_neg (by omega)];rw[gY]at hj;have:=hvs _ x hj;rwa[show off+ps.length+(j-off-ps.length)=j from by omega]at this
section ops
variable {P:Program} {CR:eJ} {base fb:Nat} {V:List Nat} {g:G} {J J':SK} {w:World} {B:Nat->Nat} {e:Env} {tmps:Array Value} {df:List Deferred}
 {d:D}
theorem Es{el:TypeId}{i:TypeInfo}{z:Value}(hi:P.info? el=some i)(hz:i.zero=some z):(Instr.alloc el true (.tuple #[])).run P w=.ok (.pointer (some ⟨w.heap.size,0,none⟩)) (w.alloc (.cells z.cells el)):=by
 simp[Instr.alloc,fK hi hz,newVar,newRow]
theorem aax(hi:Inv CR base g J w){el:TypeId}{z:List D}{nb:List (Nat×Nat)}{ρ:Operand->Value}(hz:rA P el=some z)
  (h:bG e J (.Ox nb z)=some (d,J')) (o:Oper) (ho:o.op=.alloc el):ep P CR base g w B e ρ o d J':=by
 obtain⟨i0,v,hinfo,hzero,hrz,h1⟩:=sW g hz;simp only[bG,aM,af]at h;obtain⟨⟨cs',J1⟩,hnb,⟨l,i,J2⟩,hn,h⟩:=h;cases h;obtain⟨g1,i1,e1,r1⟩:=wM nb _ _ _ _ g _ hnb hi hrz;obtain⟨i2,e2⟩:=i1.yN hn v.cells.toList v.cells el r1 (by simp) (λj y hy=>⟨by simpa using hy,h1 y (ai hy)⟩);exact .val (.pointer (some ⟨w.heap.size,0,none⟩)) (by simp[execOp,ho,Es hinfo hzero]) (e1.trans e2) i2 (.ref l i 0 0 _ _ _ G.aE (aH _) (λcT bo sz hh=>by cases hh;exact⟨rfl,rfl⟩) (by simp))
theorem aaF(hf:Fr fb V g w B e tmps)(hi:Inv CR base g J w){x:Operand}{X:bD}{t:TypeId}{nb:List (Nat×Nat)}(hx:bC x=some X)(h:bG e J (.SG nb X)=some (d,J'))(o:Oper)(ho:o.op=.box t x):
  ep P CR base g w B e (Act.mk tmps df).eval o d J':=by
 simp only[bG,aM,af]at h;obtain⟨cs,hcs,⟨cs',J1⟩,hnb,⟨l,i,J2⟩,hn,h⟩:=h;cases h;obtain⟨hr,h1⟩:=(hf.ba (df:=df) hx).cells hcs;obtain⟨g1,i1,e1,r1⟩:=wM nb _ _ _ _ g _ hnb hi hr;obtain⟨i2,e2⟩:=i1.yN hn ((Act.mk tmps df).eval x).cells.toList ((Act.mk tmps df).eval x).cells t r1 (by simp) (λj y hy=>⟨by simpa using hy,h1 y (ai hy)⟩);exact .val (.pointer (some ⟨w.heap.size,0,none⟩)) (by simp[execOp,ho,Instr.box,newVar,newRow]) (e1.trans e2) i2 (.ref l i 0 0 _ _ _ G.aE (aH _) (λcT bo sz hh=>by cases hh;exact⟨rfl,rfl⟩) (by simp))
theorem aa1(hf:Fr fb V g w B e tmps)(hi:Inv CR base g J w){x y:Operand}{X Y:bD}{t:TypeId}{nb:List (Nat×Nat)}{sz:Nat}(hx:bC x=some X)(hy:bC y=some Y)(hsz:cH P t=some sz)
  (h:bG e J (.st nb sz X Y)=some (d,J')) (o:Oper) (ho:o.op=.store t x y):ep P CR base g w B e (Act.mk tmps df).eval o d J':=by
 simp only[bG]at h;split at h
 case h_2=>cases h
 rename_i l i v off hX;split at h
 case h_2=>cases h
 rename_i cs hcs;split at h
 case h_2=>cases h
 rename_i p hcells;split at h
 case isFalse=>cases h
 rename_i hc;obtain⟨hplen,hle⟩:=hc;obtain⟨hrp,h1p⟩:=(hf.ba (df:=df) hy).cells hcells;have hrx:=hf.ba (df:=df) hx;rw[hX]at hrx;generalize hcv:(Act.mk tmps df).eval x=cv at hrx;cases hrx with
 |ref _ _ _ _ b o1 L k1 k2 k3 k4 =>
  unfold cells? at hcs;split at hcs
  case h_2=>cases hcs
  rename_i v' cs' hblk;split at hcs
  case isFalse=>cases hcs
  rename_i hv;subst hv;cases hcs;obtain⟨p',J1,g1,i1,e1,r1,hp'len,hblk1,rfl,rfl⟩:∃p' J1 g1,Inv CR base g1 J1 w/\Ev g w g1 w/\bA g1 p' ((Act.mk tmps df).eval y).cells.toList/\p'.length=p.length/\dn J1 l i=some (.cells v' cs) /\
    J'=aR J1 l i (.cells v' (cs.take off++p'++cs.drop (off+sz)))/\d=.undef:=by
   split at h
   .split at h
    .rename_i p' J1 hnb;cases h;obtain⟨g1,i1,e1,r1⟩:=wM nb _ _ _ _ g _ hnb hi hrp;obtain⟨_,k6,k7⟩:=zA nb _ _ _ _ hnb;exact⟨p',J1,g1,i1,e1,r1,k6,k7 _ _ _ hblk,rfl,rfl⟩
    .cases h
   .cases h;obtain⟨g1,i1,e1,r1⟩:=zr (CR:=CR) (base:=base) (yk l deep) p J g w _ hi hrp;obtain⟨_,k6,k7⟩:=H0 l deep p J;exact⟨_,_,g1,i1,e1,r1,k6,(k7 l i (aH _)).trans hblk,rfl,rfl⟩
  obtain⟨L1,hL1,hle1⟩:=e1.le.loc l i L k1;obtain⟨b1,hb1,hrel⟩:=i1.vQ l i L1 hL1;rw[hblk1]at hb1;cases hb1;cases L1 with
  |dead=>exact hrel.elim
  |lp z=>exact hrel.elim
  |mp z=>exact(Loc.wO k2 hle1).elim
  |it z=>exact(Loc.wO k2 hle1).elim
  |ob z _=>exact(Loc.wO k2 hle1).elim
  |oG v2 =>
   obtain⟨rfl,_⟩:=hrel;exact absurd (Loc.Bg k2 hle1 rfl) k4
  |«at» cT bo v2 bsz =>
   obtain⟨rfl,ca,el,hheap,hcsz,hlen,vs,hr,hvs⟩:=hrel;have hLeq:=Loc.back k2 hle1 rfl;obtain⟨rfl,rfl⟩:=k3 cT bo bsz hLeq;have hvl:=hr.length;have hpl:((Act.mk tmps df).eval y).cells.toList.length=sz:=by rw[<- r1.length,hp'len];exact hplen
   obtain⟨w',c',hrun,hb',hs',hc',hother,hsize,ho1,ho2,ho3⟩:=DF (P:=P) (t:=t) (w:=w) (b:=b) (o:=bo+off) (v:=(Act.mk tmps df).eval y) hsz (by simpa using hpl) h1p hheap (by omega);have hle2:g1.le (g1.cj l i (.at b bo v' bsz)):=G.jg λL0 e0=>by rw[hL1]at e0;cases e0;exact Loc.le_refl _
   obtain⟨i2,e2⟩:=i1.setCells (w':=w') (L:=.at b bo v' bsz) (v:=v') (ds:=cs.take off++p'++cs.drop (off+sz)) hL1 hblk1 (Loc.le_refl _)
    ⟨rfl,c',el,hb',by rw[hs',hcsz],by simp;omega,vs.take off++((Act.mk tmps df).eval y).cells.toList++vs.drop (off+sz),
     (((hr.take off).append r1).append (hr.drop _)).mono hle2,by
      have:=Ir (c:=ca) (c':=c') (bo:=bo) (off:=off) (vs:=vs) (ps:=((Act.mk tmps df).eval y).cells.toList) hvs h1p (by omega) (by rw[hpl];exact hc');rw[hpl]at this;exact this⟩
    (λb' hb' hne=>hother b' (λhh=>hne (by rw[hh];rfl))) ho1 ho2 ho3 (by omega) (λb' hb' => .inl hb')
   refine⟨.skip,Go.undef,_,w',?_,rfl,e1.trans e2,i2,.undef _⟩;simp[execOp,ho,Instr.storeAt,hcv,Instr.sureAddr,hrun]
end ops
end Go.az
