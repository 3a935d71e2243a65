import Derived.Test.YtpapbbojmclkgaaGreatDoorBase3
import Derived.Laws.StructEq
set_option linter.all false
namespace Go.aw
open Go
section ops
variable {P:Program} {CR:fw} {base fb:Nat} {V:List Nat} {g:G} {J J':SK} {w:World} {B:Nat->Nat} {e:Env} {tmps:Array Value} {df:List Deferred}
 {d:D}
theorem ajK(hf:Fr fb V g w B e tmps)(hi:Inv CR base g J w){x:Operand}{X:bU}{t el:TypeId}{wd:Nat}{lo hi' mx:Option Operand}{Lo Hi Mx:Option bU}(hx:bT x=some X)
  (ht:P.underlying t=some (.slice el)) (hw:dL P el=some wd) (hlo:zX lo=some Lo) (hhi:zX hi'=some Hi) (hmx:zX mx=some Mx)
  (h:bY e J (.W3 wd X Lo Hi Mx)=some (d,J')) (o:Oper) (ho:o.op=.slice t x lo hi' mx):fx P CR base g w B e (Act.mk tmps df).eval o d J':=by
 have hr:=hf.bG (df:=df) hx;have hrun:∀(a:Option Addr) (n cap l h m:Nat),(Act.mk tmps df).eval x=.slice a n cap ->
   (Instr.sliceBounds true n cap (lo.map (Act.mk tmps df).eval) (hi'.map (Act.mk tmps df).eval) (mx.map (Act.mk tmps df).eval)).run P w=.ok (l,h,m) w ->
   (execOp (Act.mk tmps df).eval o).run P w=.ok (.value (.slice (if m=l then a else a.map (·.add (l*wd))) (h-l) (m-l))) w:=by
  intro a n cap l h m he hb;simp[execOp,ho,Instr.sliceAt,bJ ht,Instr.slice,he,hb,run_sizeOf hw]
 simp only[bY]at h;split at h
 .rename_i n cs hX;simp only[ad,ak]at h;obtain⟨⟨l,h'⟩,hb,rfl,rfl⟩:=h;rw[hX]at hr;generalize hcv:(Act.mk tmps df).eval x=cv at hr;cases hr with
  |Aj =>
   obtain⟨m,h1,h2,h3,h4,h5⟩:=vM (P:=P) (w:=w) (df:=df) (isSlice:=true) hf hlo hhi hmx (aO 0) hb;refine .pure hi (hrun _ _ _ _ _ _ hcv h1) (de.of ?_);obtain rfl:h'=0:=by omega
   obtain rfl:l=0:=by omega
   obtain rfl:m=0:=by omega
   simpa using bW.Aj (g:=g)
  |bZ _ _ a cap vs hn h2 h3 h4 =>
   obtain⟨m,h1,h2',h3',h4',h5'⟩:=vM (P:=P) (w:=w) (df:=df) (isSlice:=true) hf hlo hhi hmx hn hb;refine .pure hi (hrun _ _ _ _ _ _ hcv h1) (de.of ?_);by_cases hml:m=l
   .rw[if_pos hml];obtain rfl:h'=l:=by omega
    simp only[Nat.sub_self];refine .bZ _ _ a _ [] (by omega) (λ_ _ hh=>by simp at hh) (by simp) (by simpa using bS.nil)
   .rw[if_neg hml];simp only[aZ];by_cases hl:l*wd=0
    .rw[hl];have:a.add 0=a:=by simp[Addr.add]
     rw[this];refine .bZ _ _ a _ (vs.take ((h'-l)*wd)) (by omega) (zY h2 _) (λhne=>h3 (by omega)) ?_;simpa using h4.take _
    .have ha:a.add (l*wd)=⟨a.block,a.off+l*wd,none⟩:=by
      unfold Addr.add;rw[if_neg hl]
     rw[ha];exact .bZ _ _ _ _ ((vs.drop (l*wd)).take ((h'-l)*wd)) (by omega) (zY (CH h2 _) _) (λ_=>rfl) ((h4.drop _).take _)
 .rename_i l0 i0 v off n w' hX;split at h
  case isFalse=>cases h
  rename_i hw';subst hw';simp only[ad,ak]at h;obtain⟨⟨l,h'⟩,hb,rfl,rfl⟩:=h;rw[hX]at hr;generalize hcv:(Act.mk tmps df).eval x=cv at hr;cases hr with
  |sl _ _ _ _ _ _ a cap L k1 k2 hn k4 k5 k6 k7 =>
   obtain⟨m,h1,h2',h3',h4',h5'⟩:=vM (P:=P) (w:=w) (df:=df) (isSlice:=true) hf hlo hhi hmx hn.1 hb;refine .pure hi (hrun _ _ _ _ _ _ hcv h1) (de.of ?_);by_cases hml:m=l
   .rw[if_pos hml];refine .sl _ _ _ _ _ _ a _ L k1 k2 (by omega) (λ_=>by omega) (λx hx hne=>k5 x hx (by omega)) (λ_ _ _ _ => .inr (by omega)) k7
   .rw[if_neg hml];refine .sl _ _ _ _ _ _ _ _ L k1 k2 (by omega) ?_ ?_ ?_ ?_
    .intro ha;have:a=none:=by cases a<;>simp_all
     have:=k4 this;omega
    .intro y hy hne;cases a with
     |none=>cases hy
     |some a =>
      simp only[aZ,ae]at hy;subst hy;unfold Addr.add;split
      .exact k5 a rfl (by omega)
      .rfl
    .intro dR bo sz hL;rcases k6 dR bo sz hL with⟨rfl,k8⟩ | k8
     .left
      refine⟨by simp[add_eq,dO],?_⟩;have:(m-l)*w'+l*w'=m*w':=by rw[<- gT];congr 1;omega
      have:m*w'<=cap*w':=dk _ h5';dsimp only;omega
     .omega
    .intro hL;rw[k7 hL];rfl
 .rename_i hX;simp only[ad,ak]at h;obtain⟨⟨l,h'⟩,hb,rfl,rfl⟩:=h;rw[hX]at hr;generalize hcv:(Act.mk tmps df).eval x=cv at hr;cases hr;obtain⟨m,h1,h2,h3,h4,h5⟩:=vM (P:=P) (w:=w) (df:=df) (isSlice:=true) hf hlo hhi hmx (aO 0) hb;refine .pure hi (hrun _ _ _ _ _ _ hcv h1) (de.of ?_);obtain rfl:h'=0:=by omega
  obtain rfl:l=0:=by omega
  obtain rfl:m=0:=by omega
  exact bW.bB
 .cases h
theorem agG(hf:Fr fb V g w B e tmps)(hi:Inv CR base g J w){x:Operand}{X:bU}{t el:TypeId}{n wd:Nat}{lo hi':Option Operand}{Lo Hi:Option bU}(hx:bT x=some X)
  (ht:P.underlying t=some (.array n el)) (hw:dL P el=some wd) (hlo:zX lo=some Lo) (hhi:zX hi'=some Hi)
  (h:bY e J (.Tj n wd X Lo Hi)=some (d,J')) (o:Oper) (ho:o.op=.slice t x lo hi' none):fx P CR base g w B e (Act.mk tmps df).eval o d J':=by
 have hr:=hf.bG (df:=df) hx;have hrun:∀(b o' l h m:Nat),(Act.mk tmps df).eval x=.pointer (some ⟨b,o',none⟩) ->
   (Instr.sliceBounds false n n (lo.map (Act.mk tmps df).eval) (hi'.map (Act.mk tmps df).eval) ((none:Option Operand).map (Act.mk tmps df).eval)).run P w=.ok (l,h,m) w ->
   (execOp (Act.mk tmps df).eval o).run P w=.ok (.value (.slice (some (if m=l then⟨b,o',none⟩else⟨b,o'+l*wd,none⟩)) (h-l) (m-l))) w:=by
  intro b o' l h m he hb;simp only[Option.map_none]at hb;simp[execOp,ho,Instr.sliceAt,bJ ht,he,Instr.sureAddr,hb,run_sizeOf hw,add_eq]
 simp only[bY]at h;split at h
 .rename_i cs hX;simp only[ad,ak]at h;obtain⟨⟨l,h'⟩,hb,rfl,rfl⟩:=h;rw[hX]at hr;generalize hcv:(Act.mk tmps df).eval x=cv at hr;cases hr with
  |bq _ b o' vs k1 k2 =>
   obtain⟨m,h1,h2',h3',h4',h5'⟩:=vM (P:=P) (w:=w) (df:=df) (isSlice:=false) hf hlo hhi (mx:=none) rfl (aO n) hb;refine .pure hi (hrun _ _ _ _ _ hcv h1) (de.of ?_);by_cases hml:m=l
   .rw[if_pos hml];obtain rfl:h'=l:=by omega
    simp only[Nat.sub_self];exact .bZ _ _ _ _ [] (by omega) (λ_ _ hh=>by simp at hh) (λ_=>rfl) (by simpa using bS.nil)
   .rw[if_neg hml];exact .bZ _ _ _ _ ((vs.drop (l*wd)).take ((h'-l)*wd)) (by omega) (zY (CH k1 _) _) (λ_=>rfl) ((k2.drop _).take _)
 .rename_i l0 i0 v off hX;split at h
  case h_2=>cases h
  rename_i cs hcs;split at h
  case isFalse=>cases h
  rename_i hlen;simp only[ad,ak]at h;obtain⟨⟨l,h'⟩,hb,rfl,rfl⟩:=h;rw[hX]at hr;generalize hcv:(Act.mk tmps df).eval x=cv at hr;cases hr with
  |ref _ _ _ _ b o1 L k1 k2 k3 k4 =>
   obtain⟨m,h1,h2',h3',h4',h5'⟩:=vM (P:=P) (w:=w) (df:=df) (isSlice:=false) hf hlo hhi (mx:=none) rfl (aO n) hb;refine .pure hi (hrun _ _ _ _ _ hcv h1) (de.of ?_);refine .sl _ _ _ _ _ _ _ _ L k1 k2 (by omega) (λhh=>by cases hh) (λx hx _=>by cases hx;split<;>rfl) ?_ ?_
   .intro dR bo sz hL;obtain⟨rfl,rfl⟩:=k3 dR bo sz hL;by_cases hml:m=l
    .exact .inr (by omega)
    .left
     rw[if_neg hml];refine⟨by simp[dO],?_⟩;subst hL;unfold cells? at hcs;split at hcs
     case h_2=>cases hcs
     rename_i v' cs' hblk;split at hcs
     case isFalse=>cases hcs
     rename_i hv;subst hv;cases hcs;obtain⟨b0,hb0,hrel⟩:=hi.yr _ _ _ k1;rw[hblk]at hb0;cases hb0;obtain⟨_,ca,el',hheap,hsz,hle,_⟩:=hrel;have:(m-l)*wd+l*wd=m*wd:=by rw[<- gT];congr 1;omega
     have:m*wd<=n*wd:=dk _ h5';dsimp only;omega
   .intro hL;exact absurd hL k4
 .cases h
end ops
theorem U8(off:Nat):∀(l:List Value) (k:Nat) (a:Array Value),off+k+l.length<=a.size ->
  ((l.zipIdx k).foldl (λ(cs:Array Value) (p:Value×Nat)=>cs.setIfInBounds (off+p.2) p.1) a).toList=a.toList.take (off+k)++l++a.toList.drop (off+k+l.length)
 |[],k,a,h=>by simp
 |v::l,k,a,h=>by
  simp only[aB]at h;simp only[List.zipIdx_cons,List.foldl_cons];rw[U8 off l (k+1) _ (by simp;omega)];simp only[Array.toList_setIfInBounds,aB];have hlt:off+k<a.toList.length:=by simp;omega
  rw[show off+(k+1)=off+k+1 from by omega];have h1:(a.toList.set (off+k) v).take (off+k+1)=a.toList.take (off+k)++[v]:=by
   rw[List.take_succ_eq_append_getElem (by simpa using hlt)];simp[List.take_set_of_le]
  rw[h1,List.drop_set_of_lt (by omega)];simp only[bX,cm];rw[show off+k+1+l.length=off+k+(l.length+1)from by omega]
section
variable {base fb:Nat} {V:List Nat} {g:G} {w:World} {B:Nat->Nat} {e:Env} {tmps:Array Value} {df:List Deferred}
theorem HF(hf:Fr fb V g w B e tmps){place:Nat->Option (Nat×Nat)}:∀{ps:List (Nat×Operand)} {parts:List (Nat×Nat×bU)} {cs ds:List D} {vs:Array Value},ud place ps=some parts ->
  bS g cs vs.toList->(∀x∈vs.toList,x.oneCell'=true)->iB e parts cs=some ds ->
  ∃vs',Instr.fill place vs (ps.map λp=>(p.1,(Act.mk tmps df).eval p.2))=some vs'/\bS g ds vs'.toList/\∀x∈vs'.toList,x.oneCell'=true
 |[],parts,cs,ds,vs,hp,hr,h1,hfill=>by
  simp only[ud,ae]at hp;subst hp;simp only[iB,ae]at hfill;subst hfill;exact⟨vs,rfl,hr,h1⟩
 |(i,x)::ps,parts,cs,ds,vs,hp,hr,h1,hfill=>by
  simp only[ud]at hp;split at hp
  case h_2=>cases hp
  rename_i o s y r' hpl hx hps;cases hp;simp only[iB]at hfill;split at hfill
  case h_2=>cases hfill
  rename_i p hcells;split at hfill
  case isFalse=>cases hfill
  rename_i hc;obtain⟨hlen,hle⟩:=hc;obtain⟨hrp,h1p⟩:=(hf.bG (df:=df) hx).cells hcells;have hsz:((Act.mk tmps df).eval x).cells.size=s:=by have:=hrp.length;simp at this;omega
  have hle':o+s<=vs.size:=by have:=hr.length;simp at this;omega
  have hset:=U8 o ((Act.mk tmps df).eval x).cells.toList 0 vs (by simp;omega);simp only[Nat.add_zero,Array.length_toList,hsz]at hset;obtain⟨vs',e1,e2,e3⟩:=HF hf (vs:=(((Act.mk tmps df).eval x).cells.toList.zipIdx 0).foldl (λ(cs:Array Value) (p:Value×Nat)=>cs.setIfInBounds (o+p.2) p.1) vs) hps
   (by rw[hset];exact((hr.take o).append hrp).append (hr.drop (o+s))) (by
    rw[hset];intro z hz;simp only[aU]at hz;rcases hz with(hz | hz) | hz
    .exact h1 z (dj hz)
    .exact h1p z hz
    .exact h1 z (dH hz)) hfill
  refine⟨vs',?_,e2,e3⟩;simp only[aL,Instr.fill,hpl,hsz];rw[if_neg (by simp;omega)];rw[<- e1];congr 1;rw[<- Array.foldl_toList];simp[Array.toList_zipIdx]
end
theorem II(z:Array Value)(hz:0<z.size):∀n,(List.range (n*z.size)).map (λi=>z[i%z.size]!)=fM (List.range n) λ_=>z.toList
 |0=>by simp
 |n+1=>by
  rw[List.range_succ,ln,<- II z hz n,gT,Nat.one_mul,List.range_add,List.map_append,List.map_map];congr 1;simp only[cT,mZ,dq];apply List.ext_getElem (by simp);intro i h1 h2;simp only[List.getElem_map,List.getElem_range,Function.comp];have hi:i<z.size:=by simpa using h2
  have:(n*z.size+i)%z.size=i:=by rw[Nat.add_comm,Nat.add_mul_mod_self_right,Nat.mod_eq_of_lt hi]
  rw[this];simp[hi]
theorem HV{α:Type}(z:List α):∀n:Nat,(fM (List.range n) λ_=>z).length=n*z.length
 |0=>by simp
 |n+1=>by rw[List.range_succ,ln,aP,HV z n,gT];simp
theorem bS.flatMap{g:G}{z:List D}{v:List Value}(h:bS g z v):∀n:Nat,bS g (fM (List.range n) λ_=>z) (fM (List.range n) λ_=>v)
 |0=>by simpa using bS.nil
 |n+1=>by
  rw[List.range_succ,ln,ln];exact(bS.flatMap h n).append (by simpa using h)
section ops
variable {P:Program} {CR:fw} {base fb:Nat} {V:List Nat} {g:G} {J J':SK} {w:World} {B:Nat->Nat} {e:Env} {tmps:Array Value} {df:List Deferred}
 {d:D}
theorem run_places(fs:List Field)(h:fs.all (λf=>(dL P f.type).isSome)=true):
  (fs.mapM (λf=>(do pure (f.offset,<- sizeOf f.type):Sem (Nat×Nat)))).run P w=.ok (fs.map λf=>(f.offset,(dL P f.type).getD 0)) w:=by
 induction fs with
 |nil=>simp
 |cons f fs ih =>
  simp only[jb,af]at h;obtain⟨s,hs⟩:=dP.1 h.1;rw[List.mapM_cons];simp only[Sem.run_bind,run_sizeOf hs,Result.andThen_ok,Sem.run_pure,ih h.2];simp[hs]
theorem O9(hf:Fr fb V g w B e tmps)(hi:Inv CR base g J w){t:TypeId}{fs:Array Field}{z:List D}{ps:Array (Nat×Operand)}{parts:List (Nat×Nat×bU)}
  (ht:P.underlying t=some (.struct fs)) (hz:pN P t=some z) (hall:fs.toList.all (λf=>(dL P f.type).isSome)=true) (hp:ud (C6 P fs) ps.toList=some parts)
  (h:bY e J (.Mp z parts)=some (d,J')) (o:Oper) (ho:o.op=.build t ps):fx P CR base g w B e (Act.mk tmps df).eval o d J':=by
 obtain⟨i,v,hinfo,hzero,hrz,h1⟩:=sQ g hz;simp only[bY,aX,aj]at h;obtain⟨cs,hcs,h⟩:=h;cases h;obtain⟨vs',e1,e2,e3⟩:=HF (df:=df) hf hp hrz h1 hcs;have hplace:(λi=>(fs.toList.map λf=>(f.offset,(dL P f.type).getD 0)).toArray[i]?)=C6 P fs:=by
  funext i
  simp only[C6,iu,lr,Array.getElem?_toList];cases hfi:fs[i]? with
  |none=>rfl
  |some f =>
   have hm:f∈fs.toList:=by
    rw[<- Array.getElem?_toList]at hfi;exact ah hfi
   obtain⟨s,hs⟩:=dP.1 (iK.1 hall f hm);simp[hs]
 refine .pure hi (c:=.agg vs') ?_ (de.of (.agg _ _ e2 e3));have hm:(fs.mapM (λf=>(do pure (f.offset,<- sizeOf f.type):Sem (Nat×Nat)))).run P w=.ok (fs.toList.map λf=>(f.offset,(dL P f.type).getD 0)).toArray w:=by
  rw[Array.mapM_eq_mapM_toList,Sem.run_map,run_places fs.toList hall];simp
 simp only[execOp,ho,Instr.build,Sem.run_bind,gv hinfo hzero,bJ ht,Result.andThen_ok,hm];rw[hplace];simp only[Array.toList_map];rw[show(ps.toList.map λx=>match x with | (i,x)=>(i,(Act.mk tmps df).eval x))=ps.toList.map λp=>(p.1,(Act.mk tmps df).eval p.2)from rfl,e1];simp
theorem RC(hf:Fr fb V g w B e tmps)(hi:Inv CR base g J w){t el:TypeId}{n wd:Nat}{z:List D}{ps:Array (Nat×Operand)}{parts:List (Nat×Nat×bU)}
  (ht:P.underlying t=some (.array n el)) (hw:dL P el=some wd) (hz:pN P t=some z) (hp:ud (λi=>some (i*wd,wd)) ps.toList=some parts)
  (h:bY e J (.Mp z parts)=some (d,J')) (o:Oper) (ho:o.op=.build t ps):fx P CR base g w B e (Act.mk tmps df).eval o d J':=by
 obtain⟨i,v,hinfo,hzero,hrz,h1⟩:=sQ g hz;simp only[bY,aX,aj]at h;obtain⟨cs,hcs,h⟩:=h;cases h;obtain⟨vs',e1,e2,e3⟩:=HF (df:=df) hf hp hrz h1 hcs;refine .pure hi (c:=.agg vs') ?_ (de.of (.agg _ _ e2 e3));simp only[execOp,ho,Instr.build,Sem.run_bind,gv hinfo hzero,bJ ht,Result.andThen_ok,run_sizeOf hw];simp only[Array.toList_map];rw[show(ps.toList.map λx=>match x with | (i,x)=>(i,(Act.mk tmps df).eval x))=ps.toList.map λp=>(p.1,(Act.mk tmps df).eval p.2)from rfl,e1];simp
theorem O7(hf:Fr fb V g w B e tmps){t el:TypeId}{n wd:Nat}{z:List D}{ps:Array (Nat×Operand)}{parts:List (Nat×Nat×bU)}{cs:List D}
  (ht:P.underlying t=some (.slice el)) (hw:dL P el=some wd) (hz:pN P el=some z) (hpos:0<wd) (hzl:z.length=wd) (hbig:n*wd<=2^24)
  (hp:ud (λi=>some (i*wd,wd)) ps.toList=some parts) (hcs:iB e parts (fM (List.range n) λ_=>z)=some cs) (o:Oper) (ho:o.op=.buildSlice t n ps):
  ∃vs:Array Value,(execOp (Act.mk tmps df).eval o).run P w=.ok (.value (.slice (some ⟨w.heap.size,0,none⟩) n n)) (w.alloc (.cells vs el))/\bS g cs vs.toList/\(∀x∈vs.toList,x.oneCell'=true):=by
 obtain⟨i,v,hinfo,hzero,hrz,h1⟩:=sQ g hz;have hvs:v.cells.size=wd:=by have:=hrz.length;simp at this;omega
 have hflat:=II v.cells (by omega) n;obtain⟨vs',e1,e2,e3⟩:=HF (df:=df) hf (vs:=(fM (List.range n) λ_=>v.cells.toList).toArray) hp (by simpa using hrz.flatMap n) (by
  intro x hx;simp only[IU]at hx;obtain⟨_,_,hx⟩:=hx;exact h1 x hx) hcs
 refine⟨vs',?_,e2,e3⟩;have harr:(Array.range (n*wd)).map (λx=>v.cells[x%v.cells.size]!)=(fM (List.range n) λ_=>v.cells.toList).toArray:=by
  rw[<- hflat,hvs];apply Array.ext';simp
 by_cases hn:n=0
 .subst hn;have e1':Instr.fill (λi=>some (i*wd,wd)) #[] (ps.toList.map λp=>(p.1,(Act.mk tmps df).eval p.2))=some vs':=by simpa using e1
  simp only[execOp,ho,Instr.buildSlice,Sem.run_bind,bJ ht,Result.andThen_ok,run_sizeOf hw,Sem.run_ite];simp only[Nat.zero_mul];rw[if_neg (by omega)];simp only[Array.toList_map];rw[show(ps.toList.map λx=>match x with | (i,x)=>(i,(Act.mk tmps df).eval x))=ps.toList.map λp=>(p.1,(Act.mk tmps df).eval p.2)from rfl];simp[e1',newRow,Array.range]
 .have hne:n*wd≠0:=Nat.mul_ne_zero hn (by omega);simp only[execOp,ho,Instr.buildSlice,Sem.run_bind,bJ ht,Result.andThen_ok,run_sizeOf hw,Sem.run_ite];rw[if_neg (by omega)];simp only[hne,if_false,Sem.run_bind,gv hinfo hzero,Result.andThen_ok,Sem.run_pure,harr];simp only[Array.toList_map];rw[show(ps.toList.map λx=>match x with | (i,x)=>(i,(Act.mk tmps df).eval x))=ps.toList.map λp=>(p.1,(Act.mk tmps df).eval p.2)from rfl,e1];simp[newRow]
theorem ajn(hf:Fr fb V g w B e tmps)(hi:Inv CR base g J w){t el:TypeId}{n wd:Nat}{z:List D}{ps:Array (Nat×Operand)}{parts:List (Nat×Nat×bU)}
  (ht:P.underlying t=some (.slice el)) (hw:dL P el=some wd) (hz:pN P el=some z) (hpos:0<wd) (hzl:z.length=wd) (hbig:n*wd<=2^24)
  (hp:ud (λi=>some (i*wd,wd)) ps.toList=some parts) (h:bY e J (.bsi n wd (fM (List.range n) λ_=>z) parts)=some (d,J')) (o:Oper) (ho:o.op=.buildSlice t n ps):
  fx P CR base g w B e (Act.mk tmps df).eval o d J':=by
 simp only[bY,aX,aj]at h;obtain⟨cs,hcs,h⟩:=h;cases h;obtain⟨vs,hrun,hr,h1⟩:=O7 (P:=P) (w:=w) (df:=df) hf ht hw hz hpos hzl hbig hp hcs o ho;obtain⟨i1,i2,i3⟩:=hi.IY vs.toList vs el (λj y hy=>⟨by simpa using hy,h1 y (ah hy)⟩);exact .val _ hrun i2 i1 (.bZ _ _ _ _ _ (aO _) i3 (λ_=>rfl) (hr.mono i2.le))
theorem ajo(hf:Fr fb V g w B e tmps)(hi:Inv CR base g J w){t el:TypeId}{n wd:Nat}{z:List D}{ps:Array (Nat×Operand)}{parts:List (Nat×Nat×bU)}
  (ht:P.underlying t=some (.slice el)) (hw:dL P el=some wd) (hz:pN P el=some z) (hpos:0<wd) (hzl:z.length=wd) (hbig:n*wd<=2^24)
  (hp:ud (λi=>some (i*wd,wd)) ps.toList=some parts) (h:bY e J (.YB n wd (fM (List.range n) λ_=>z) parts)=some (d,J')) (o:Oper) (ho:o.op=.buildSlice t n ps):
  fx P CR base g w B e (Act.mk tmps df).eval o d J':=by
 simp only[bY,aX,aj]at h;obtain⟨cs,hcs,⟨l,i,J1⟩,hn,h⟩:=h;cases h;obtain⟨vs,hrun,hr,h1⟩:=O7 (P:=P) (w:=w) (df:=df) hf ht hw hz hpos hzl hbig hp hcs o ho;obtain⟨i1,i2⟩:=hi.CA hn vs.toList vs el hr (by simp) (λj y hy=>⟨by simpa using hy,h1 y (ah hy)⟩);refine .val _ hrun i2 i1 (.sl l i 0 0 n wd _ _ _ G.aM (aO _) ⟨aO _,by have:=Nat.le_mul_of_pos_right n hpos;omega⟩ (λhh=>by cases hh) (λx hx _=>by cases hx;rfl) ?_ (λhh=>by cases hh));intro dR bo sz hL;cases hL;refine .inl ⟨rfl,?_⟩;have hlen:cs.length=vs.size:=by have:=hr.length;simpa using this
 have hl2:∀{parts:List (Nat×Nat×bU)} {a b:List D},iB e parts a=some b->b.length=a.length:=by
  intro parts;induction parts with
  |nil=>intro a b hb;simp only[iB,ae]at hb;rw[hb]
  |cons q r ih =>
   intro a b hb;obtain⟨o1,s1,x1⟩:=q;simp only[iB]at hb;split at hb
   .rename_i p _;split at hb
    .rename_i hc;have:=ih hb;simp at this;omega
    .cases hb
   .cases hb
 have:=hl2 hcs;have h3:(fM (List.range n) λ_=>z).length=n*wd:=by
  rw[HV,hzl]
 omega
theorem ajF(hf:Fr fb V g w B e tmps)(hi:Inv CR base g J w){x y:Operand}{X Y:bU}{t el:TypeId}{wd bytes:Nat}{z:List D}(hx:bT x=some X)(hy:bT y=some Y)
  (ht:P.underlying t=some (.slice el)) (hw:dL P el=some wd) (hb:(P.info? el).map (·.bytes)=some bytes) (hz:pN P el=some z) (hpos:0<wd) (hbpos:0<bytes)
  (h:bY e J (.mks wd bytes z X Y)=some (d,J')) (o:Oper) (ho:o.op=.makeSlice t x y):fx P CR base g w B e (Act.mk tmps df).eval o d J':=by
 have hr:=hf.bG (df:=df) hx;have hr':=hf.bG (df:=df) hy;obtain⟨i0,v,hinfo,hzero,hrz,h1⟩:=sQ g hz;simp only[bY]at h;split at h
 case h_2=>cases h
 rename_i n m hX hY;split at h
 case isFalse=>cases h
 rename_i hc;obtain⟨hn0,rfl,hroom,hzl⟩:=hc;rw[hX]at hr;rw[hY]at hr';have e1:=hr.fe;have e2:=hr'.fe;simp only[aX,aj]at h;obtain⟨⟨l,i,J1⟩,hn,h⟩:=h;cases h;have hvs:v.cells.size=wd:=by have:=hrz.length;simp at this;omega
 have hbytes:i0.bytes=bytes:=by rw[hinfo]at hb;simpa using hb
 have hn63:n<2^63:=by
  have h1:n*1<=n*bytes:=Int.mul_le_mul_of_nonneg_left (by omega) hn0;simp only[room]at hroom;omega
 have hwrap:IntKind.i64.wrap n=n:=by
  simp only[IntKind.wrap,IntKind.bits,IntKind.signed];have:n%2^64=n:=Int.emod_eq_of_lt hn0 (by omega);simp only[this];rw[if_neg (by simp;omega)]
 have hflat:=II v.cells (by omega) n.toNat;have hrel:bS g (fM (List.range n.toNat) λ_=>z) ((fM (List.range n.toNat) λ_=>v.cells.toList)):=hrz.flatMap _;obtain⟨i1,i2⟩:=hi.CA hn (fM (List.range n.toNat) λ_=>v.cells.toList) (fM (List.range n.toNat) λ_=>v.cells.toList).toArray el hrel (by simp) (λj y hy=>⟨by simpa using hy,by
  have hm:=ah hy;simp only[IU]at hm;obtain⟨_,_,hm⟩:=hm;exact h1 y hm⟩)
 have hsz:(fM (List.range n.toNat) λ_=>v.cells.toList).toArray.size=n.toNat*wd:=by
  rw[List.size_toArray,HV];simp[hvs]
 refine .val (.slice (some ⟨w.heap.size,0,none⟩) n.toNat n.toNat) ?_ i2 i1 (.sl l i 0 0 _ wd _ _ _ G.aM (aO _) ⟨aO _,by omega⟩ (λhh=>by cases hh) (λx hx _=>by cases hx;rfl) ?_ (λhh=>by cases hh))
 .have hbn:(bytes:Int)*n<=2^46:=by rw[Int.mul_comm];simpa[room]using hroom
  have harr:(Array.range (n.toNat*wd)).map (λx=>v.cells[x%v.cells.size]!)=(fM (List.range n.toNat) λ_=>v.cells.toList).toArray:=by
   rw[<- hflat,hvs];apply Array.ext';simp
  have htoo:(decide (n<0) || decide ((bytes:Int)*n>2^48))=false:=by simp;omega
  have hcond:¬(((decide (n<0) || decide ((bytes:Int)*n>2^48))=true\/n<0)\/n>n):=by rw[htoo];simp;omega
  simp only[execOp,ho,Instr.makeSlice,Sem.run_bind,bJ ht,Result.andThen_ok,e1,e2,asInt,asIntOf,Sem.run_pure,run_typeInfo hinfo,hwrap,hbytes,Sem.run_ite];rw[htoo];simp only[aC,false_or,Bool.false_or];rw[if_neg (by simp;omega)];by_cases hz0:n.toNat=0
  .have:(fM (List.range n.toNat) λ_=>v.cells.toList).toArray = #[]:=by rw[hz0];rfl
   rw[this];simp[run_askRoom,run_sizeOf hw,hz0,newRow,Go.Array.range_zero']
  .have hne:n.toNat*wd≠0:=Nat.mul_ne_zero hz0 (by omega);simp only[run_askRoom,Result.andThen_ok,run_sizeOf hw,hne,if_false,Sem.run_bind,gv hinfo hzero,Sem.run_pure,harr];simp[newRow]
 .intro dR bo sz hL;cases hL;exact .inl ⟨rfl,by rw[hsz];simp⟩
end ops
section
variable {CR:fw} {base:Nat} {g:G} {J:SK} {w:World}
theorem Inv.kill(hi:Inv CR base g J w){l i v:Nat}{cs:List D}{L:Loc}(hL:g.loc l i=some L)(hb:ef J l i=some (.cells v cs))(hok:L.UT v):
  ∃g',Inv CR base g' (bw J l i .dead) w/\Ev g w g' w /\
   (L=.nP v/\cs=[]\/∃b o vs sz,L=.at b o v sz/\g'.row b o vs/\bS g cs vs):=by
 obtain⟨b0,hb0,hrel⟩:=hi.yr l i L hL;rw[hb]at hb0;cases hb0;cases L with
 |dead=>exact hrel.elim
 |lp x=>exact hrel.elim
 |mp x=>exact hok.elim
 |it x=>exact hok.elim
 |ob x _=>exact hok.elim
 |nP v' =>
  obtain⟨rfl,rfl⟩:=hrel;have hle:g.le (g.dc l i .dead):=G.jF λL0 e=>by rw[hL]at e;cases e;simp[Loc.le]
  refine⟨g.dc l i .dead,hi.Ik l i hle (λl' i' c=>eO c) (λl' i' c=>G.bQ c) (λ_ _ _ _ _ _ _=>rfl) ?_ hi.nB ?_ ?_ (aO _) ⟨_,G.aM⟩ (λ_ _ _=>rfl),⟨hle,rfl,rfl,rfl,aO _,λ_ _ _=>rfl,?_,λb o v hv => .inl hv⟩,.inl ⟨rfl,rfl⟩⟩
  .intro L e;rw[G.aM]at e;cases e;exact⟨_,mR hb,trivial⟩
  .intro l' i' L b e eb o;by_cases c:l'=l/\i'=i
   .obtain⟨rfl,rfl⟩:=c;rw[G.aM]at e;cases e;cases eb
   .rw[G.bQ c]at e;exact hi.sep l' i' L b e eb o
  .intro L b e eb;rw[G.aM]at e;cases e;cases eb
  .intro b hb';obtain⟨l',i',L,e,eb⟩:=hb';by_cases c:l'=l/\i'=i
   .obtain⟨rfl,rfl⟩:=c;rw[G.aM]at e;cases e;cases eb
   .rw[G.bQ c]at e;exact .inl ⟨l',i',L,e,eb⟩
 |«at» b o v' sz =>
  obtain⟨rfl,ca,el,hheap,hsz,hlen,vs,hr,hvs⟩:=hrel
  let g':G:=⟨λl' i'=>if l'=l/\i'=i then some .dead else g.loc l' i',λb' o'=>if b'=b then(if o<=o' then vs[o'-o]? else none)else g.nB b' o'⟩
  have hsame:g'.loc l i=some .dead:=by simp[g']
  have hother:∀l' i',¬(l'=l/\i'=i)->g'.loc l' i'=g.loc l' i':=λl' i' c=>by simp only[g'];rw[if_neg c]
  have hnob:∀o',g.nB b o'=none:=hi.sep l i _ b hL rfl;have hle:g.le g':=by
   refine⟨λl' i' L' e=>?_,λb' o' x e=>?_⟩
   .by_cases c:l'=l/\i'=i
    .obtain⟨rfl,rfl⟩:=c;rw[hL]at e;cases e;exact⟨.dead,hsame,by simp[Loc.le]⟩
    .exact⟨L',by rw[hother _ _ c];exact e,L'.le_refl⟩
   .have:b'≠b:=λh=>by subst h;rw[hnob]at e;cases e
    simp only[g'];rw[if_neg this];exact e
  refine⟨g',hi.Ik l i hle (λl' i' c=>eO c) hother (λ_ _ _ _ _ _ _=>rfl) ?_ ?_ ?_ ?_ (aO _) ⟨.dead,by simp[g']⟩ (λ_ _ _=>rfl),⟨hle,rfl,rfl,rfl,aO _,λ_ _ _=>rfl,?_,?_⟩,.inr ⟨b,o,vs,sz,rfl,?_,hr⟩⟩
  .intro L e;rw[hsame]at e;cases e;exact⟨_,mR hb,trivial⟩
  .intro b' o' x e;simp only[g']at e;split at e
   .rename_i hb';subst hb';split at e
    .rename_i hoo;obtain⟨h1,h2⟩:=hvs _ x e;rw[show o+(o'-o)=o' from by omega]at h1;exact⟨by simp only[World.cell?,hheap];simpa using h1,h2⟩
    .cases e
   .exact hi.nB b' o' x e
  .intro l' i' L' b' e eb o';by_cases c:l'=l/\i'=i
   .obtain⟨rfl,rfl⟩:=c;rw[hsame]at e;cases e;cases eb
   .rw[hother _ _ c]at e;have:b'≠b:=λh=>by subst h;exact c (hi.inj _ _ _ _ _ _ b' e hL eb rfl)
    simp only[g'];rw[if_neg this];exact hi.sep l' i' L' b' e eb o'
  .intro L b' e eb;rw[hsame]at e;cases e;cases eb
  .intro b' hb';obtain⟨l',i',L',e,eb⟩:=hb';by_cases c:l'=l/\i'=i
   .obtain⟨rfl,rfl⟩:=c;rw[hsame]at e;cases e;cases eb
   .rw[hother _ _ c]at e;exact .inl ⟨l',i',L',e,eb⟩
  .intro b' o' x e;simp only[g']at e;split at e
   .rename_i hb';subst hb';exact .inr (.inl ⟨l,i,_,hL,rfl⟩)
   .exact .inl e
  .intro j x hx;simp only[g',if_true];rw[if_pos (by omega),show o+j-o=j from by omega];exact hx
def ade(CR:fw)(base:Nat)(f:D->SK->D×SK):Prop :=
 ∀(d:D) (J:SK) (g:G) (w:World) (c:Value),Inv CR base g J w->bW g d c ->
  ∃g',Inv CR base g' (f d J).2 w/\Ev g w g' w/\bW g' (f d J).1 c
theorem C8{f:D->SK->D×SK}(hf:ade CR base f):∀(ds:List D) (J:SK) (g:G) (w:World) (cs:List Value),Inv CR base g J w->bS g ds cs ->
  ∃g',Inv CR base g' (cK.frzL f ds J).2 w/\Ev g w g' w/\bS g' (cK.frzL f ds J).1 cs
 |[],J,g,w,cs,hi,hr=>by cases hr;exact⟨g,hi,Ev.refl g w,.nil⟩
 |d::ds,J,g,w,cs,hi,hr=>by
  cases hr with
  |cons _ c _ cs h1 h2 =>
   obtain⟨g1,i1,e1,r1⟩:=hf d J g w c hi h1;obtain⟨g2,i2,e2,r2⟩:=C8 hf ds (f d J).2 g1 w cs i1 (h2.mono e1.le);exact⟨g2,i2,e1.trans e2,.cons _ _ _ _ (r1.mono e2.le) r2⟩
theorem Bu(l:Nat):∀n,ade CR base (cK l n)
 |0,d,J,g,w,c,hi,hr=>⟨g,hi,Ev.refl g w,.undef c⟩
 |n+1,d,J,g,w,c,hi,hr=>by
  have ih:=C8 (CR:=CR) (base:=base) (Bu l n);simp only[cK];split
  .exact⟨g,hi,Ev.refl g w,hr⟩
  cases d with
  |agg ds =>
   cases hr with
   |agg _ cs hr h1 =>
    obtain⟨g',i1,e1,r1⟩:=ih ds J g w _ hi hr;exact⟨g',i1,e1,.agg _ cs r1 h1⟩
  |cS ds =>
   cases hr with
   |cS _ cs hr =>
    obtain⟨g',i1,e1,r1⟩:=ih ds J g w _ hi hr;exact⟨g',i1,e1,.cS _ cs r1⟩
  |bq ds =>
   cases hr with
   |bq _ b o vs h1 hr =>
    obtain⟨g',i1,e1,r1⟩:=ih ds J g w _ hi hr;exact⟨g',i1,e1,.bq _ b o vs (G.I3 e1.le h1) r1⟩
  |bZ m ds =>
   cases hr with
   |Aj=>exact⟨g,by simpa[cK.frzL]using hi,Ev.refl g w,by simpa[cK.frzL]using bW.Aj⟩
   |bZ _ _ a cap vs hn h1 h2 hr =>
    obtain⟨g',i1,e1,r1⟩:=ih ds J g w _ hi hr;exact⟨g',i1,e1,.bZ _ _ a cap vs hn (G.I3 e1.le h1) h2 r1⟩
  |fn f a b =>
   cases hr with
   |fn _ _ _ a' b' h1 h2 =>
    obtain⟨g1,i1,e1,r1⟩:=ih a J g w _ hi h1;obtain⟨g2,i2,e2,r2⟩:=ih b _ g1 w _ i1 (h2.mono e1.le);exact⟨g2,i2,e1.trans e2,.fn f _ _ a' b' (r1.mono e2.le) r2⟩
  |ref l' i v off =>
   dsimp only;split
   .exact⟨g,hi,Ev.refl g w,hr⟩
   .exact⟨g,hi,Ev.refl g w,.undef c⟩
  |jg l' i =>
   dsimp only;split
   .exact⟨g,hi,Ev.refl g w,hr⟩
   .exact⟨g,hi,Ev.refl g w,.undef c⟩
  |sl l' i v off m wd =>
   dsimp only;split
   .exact⟨g,hi,Ev.refl g w,hr⟩
   .split
    .rename_i cs hcs;cases hr with
     |sl _ _ _ _ _ _ a cap L h1 h2 h3 h4 h5 h6 h7 =>
      unfold cells? at hcs;split at hcs
      case h_2=>cases hcs
      rename_i v' cs' hblk;split at hcs
      case isFalse=>cases hcs
      rename_i hv;subst hv;cases hcs;obtain⟨g1,i1,e1,hk⟩:=hi.kill h1 hblk h2;rcases hk with⟨rfl,rfl⟩ | ⟨b,o,vs,sz,rfl,hrow,hrl⟩
      .obtain rfl:=h7 rfl;obtain rfl:=h4 rfl;obtain rfl:m=0:=by omega
       exact⟨g1,by simpa[cK.frzL]using i1,e1,by simpa[cK.frzL]using bW.Aj⟩
      .obtain⟨g2,i2,e2,r2⟩:=ih ((cs.drop off).take (m*wd)) _ g1 w ((vs.drop off).take (m*wd)) i1 (((hrl.drop off).take _).mono e1.le);refine⟨g2,i2,e1.trans e2,?_⟩;rcases h6 b o sz rfl with⟨rfl,h8⟩ | rfl
       .exact .bZ _ _ _ _ ((vs.drop off).take (m*wd)) h3.1 (G.I3 e2.le (zY (CH hrow off) _)) (λ_=>rfl) r2
       .obtain rfl:m=0:=by omega
        cases a with
        |none=>simpa[cK.frzL]using bW.Aj (g:=g2)
        |some a=>exact .bZ _ _ a _ [] (aO _) (λ_ _ hh=>by simp at hh) (λhh=>absurd rfl hh) (by simpa[cK.frzL]using bS.nil)
    .exact⟨g,hi,Ev.refl g w,.undef c⟩
  |own s cs=>cases hr
  |vr x s off=>cases hr
  |emp=>cases hr
  |undef=>exact⟨g,hi,Ev.refl g w,.undef c⟩
  |bool b=>exact⟨g,hi,Ev.refl g w,.undef c⟩
  |int k m=>exact⟨g,hi,Ev.refl g w,.undef c⟩
  |str s=>exact⟨g,hi,Ev.refl g w,.undef c⟩
  |zV=>exact⟨g,hi,Ev.refl g w,.undef c⟩
  |bB=>exact⟨g,hi,Ev.refl g w,.undef c⟩
  |pc=>exact⟨g,hi,Ev.refl g w,.undef c⟩
  |ua t d=>exact⟨g,hi,Ev.refl g w,.undef c⟩
  |mQ=>exact⟨g,hi,Ev.refl g w,.undef c⟩
end
section jT
variable {CR:fw} {base:Nat}
theorem zU{w:World}:∀(nb:List (Nat×Nat)) (cs cs':List D) (J J':SK) (g:G) (vs:List Value),jT nb cs J=some (cs',J')->Inv CR base g J w->bS g cs vs ->
  ∃g',Inv CR base g' J' w/\Ev g w g' w/\bS g' cs' vs
 |[],cs,cs',J,J',g,vs,h,hi,hr=>by
  simp only[jT,ae,ak]at h;obtain⟨rfl,rfl⟩:=h;exact⟨g,hi,Ev.refl g w,hr⟩
 |(p,wd)::nb,cs,cs',J,J',g,vs,h,hi,hr=>by
  simp only[jT]at h;split at h
  .rename_i hp;simp only[aX,aj]at h;obtain⟨⟨l,i,J1⟩,hn,h⟩:=h;obtain⟨i1,e1⟩:=hi.UP hn;have hr':bS (g.dc l i (.nP 0)) (cs.set p (.sl l i 0 0 0 wd)) vs:=by
    refine .afM (by simp[hr.length]) λj d c hd hc=>?_
    rw[List.getElem?_set]at hd;split at hd
    .rename_i hpj;subst hpj;split at hd
     .cases hd;obtain⟨c',hc',hrc⟩:=hr.get hp;rw[hc]at hc';cases hc';cases hrc;exact .sl l i 0 0 0 wd none 0 (.nP 0) G.aM (aO _) (by omega) (λ_=>rfl) (λ_ hh=>by cases hh) (λ_ _ _ hh=>by cases hh) (λ_=>rfl)
     .cases hd
    .obtain⟨c',hc',hrc⟩:=hr.get hd;rw[hc]at hc';cases hc';exact hrc.mono e1.le
   obtain⟨g2,i2,e2,r2⟩:=zU nb _ _ _ _ _ vs h i1 hr';exact⟨g2,i2,e1.trans e2,r2⟩
  .exact zU nb _ _ _ _ _ vs h hi hr
theorem Dt:∀(nb:List (Nat×Nat)) (cs cs':List D) (J J':SK),jT nb cs J=some (cs',J')->J'.length=J.length/\cs'.length=cs.length/\∀l i b,ef J l i=some b->ef J' l i=some b
 |[],cs,cs',J,J',h=>by
  simp only[jT,ae,ak]at h;obtain⟨rfl,rfl⟩:=h;exact⟨rfl,rfl,λ_ _ _ h=>h⟩
 |(p,wd)::nb,cs,cs',J,J',h=>by
  simp only[jT]at h;split at h
  .simp only[aX,aj]at h;obtain⟨⟨l,i,J1⟩,hn,h⟩:=h;obtain⟨h1,h2,h3⟩:=Dt nb _ _ _ _ h;obtain⟨k1,k2,k3,k4,_⟩:=jy hn;refine⟨h1.trans k4,by simpa using h2,λl' i' b hb=>h3 l' i' b ?_⟩;rw[k3 l' i' (λhc=>by obtain⟨rfl,rfl⟩:=hc;rw[k1]at hb;cases hb)];exact hb
  .exact Dt nb _ _ _ _ h
theorem QI(l:Nat):∀(n:Nat) (d:D) (J:SK),(cK l n d J).2.length=J.length/\∀l' i',l'<=l->ef (cK l n d J).2 l' i'=ef J l' i'
 |0,d,J=>⟨rfl,λ_ _ _=>rfl⟩
 |n+1,d,J=>by
  have ih:∀(ds:List D) (J:SK),(cK.frzL (cK l n) ds J).2.length=J.length/\∀l' i',l'<=l->ef (cK.frzL (cK l n) ds J).2 l' i'=ef J l' i':=by
   intro ds;induction ds with
   |nil=>intro J;exact⟨rfl,λ_ _ _=>rfl⟩
   |cons d ds ihd =>
    intro J;obtain⟨a1,a2⟩:=QI l n d J;obtain⟨b1,b2⟩:=ihd (cK l n d J).2;exact⟨b1.trans a1,λl' i' h=>(b2 l' i' h).trans (a2 l' i' h)⟩
  simp only[cK];split
  .exact⟨rfl,λ_ _ _=>rfl⟩
  split
  .exact ih _ J
  .exact ih _ J
  .exact ih _ J
  .exact ih _ J
  .exact ih _ J
  .rename_i f a b _;obtain⟨a1,a2⟩:=ih a J;obtain⟨b1,b2⟩:=ih b (cK.frzL (cK l n) a J).2;exact⟨b1.trans a1,λl' i' h=>(b2 l' i' h).trans (a2 l' i' h)⟩
  .split<;>exact⟨rfl,λ_ _ _=>rfl⟩
  .split<;>exact⟨rfl,λ_ _ _=>rfl⟩
  .split
   .exact⟨rfl,λ_ _ _=>rfl⟩
   .rename_i hgt;split
    .rename_i cs _;obtain⟨a1,a2⟩:=ih ((cs.drop _).take _) (bw J _ _ .dead);refine⟨a1.trans dS,λl' i' h=>(a2 l' i' h).trans (eO λhc=>?_)⟩;omega
    .exact⟨rfl,λ_ _ _=>rfl⟩
  .exact⟨rfl,λ_ _ _=>rfl⟩
theorem Nk(l n:Nat)(ds:List D)(J:SK):(cK.frzL (cK l n) ds J).2.length=J.length/\(cK.frzL (cK l n) ds J).1.length=ds.length/\∀l' i',l'<=l->ef (cK.frzL (cK l n) ds J).2 l' i'=ef J l' i':=by
 induction ds generalizing J with
 |nil=>exact⟨rfl,rfl,λ_ _ _=>rfl⟩
 |cons d ds ihd =>
  obtain⟨a1,a2⟩:=QI l n d J;obtain⟨b1,b3,b2⟩:=ihd (cK l n d J).2;exact⟨b1.trans a1,by simp[cK.frzL,b3],λl' i' h=>(b2 l' i' h).trans (a2 l' i' h)⟩
end jT
theorem I4{c c':Array Value}{bo off:Nat}{vs ps:List Value}(hvs:∀(j:Nat) x,vs[j]?=some x->c[bo+j]?=some x/\x.oneCell'=true)(h1:∀x∈ps,x.oneCell'=true)
  (hle:off+ps.length<=vs.length) (hc':∀j,c'[j]?=if bo+off<=j/\j<bo+off+ps.length then ps[j-(bo+off)]? else c[j]?):
  ∀(j:Nat) x,(vs.take off++ps++vs.drop (off+ps.length))[j]?=some x->c'[bo+j]?=some x/\x.oneCell'=true:=by
 intro j x hj;rw[hc'];have hlt:(vs.take off).length=off:=by simp;omega
 rw[bX,List.getElem?_append]at hj;split at hj
 .rename_i h;rw[dw]at hj;split at hj
  .rw[if_neg (by omega)];exact hvs j x hj
  .cases hj
 .rename_i h;rw[hlt]at hj h;rw[List.getElem?_append]at hj;split at hj
  .rename_i h2;rw[if_pos (by omega),show bo+j-(bo+off)=j-off from by omega];exact⟨hj,h1 x (ah hj)⟩
  .rename_i h2;rw[if_neg (by omega)];rw[dN]at hj;have:=hvs _ x hj;rwa[show off+ps.length+(j-off-ps.length)=j from by omega]at this
section ops
variable {P:Program} {CR:fw} {base fb:Nat} {V:List Nat} {g:G} {J J':SK} {w:World} {B:Nat->Nat} {e:Env} {tmps:Array Value} {df:List Deferred}
 {d:D}
theorem I5{el:TypeId}{i:TypeInfo}{z:Value}(hi:P.info? el=some i)(hz:i.zero=some z):(Instr.alloc el true (.tuple #[])).run P w=.ok (.pointer (some ⟨w.heap.size,0,none⟩)) (w.alloc (.cells z.cells el)):=by
 simp[Instr.alloc,gv hi hz,newVar,newRow]
theorem ajh(hi:Inv CR base g J w){el:TypeId}{z:List D}{nb:List (Nat×Nat)}{ρ:Operand->Value}(hz:pN P el=some z)
  (h:bY e J (.Un nb z)=some (d,J')) (o:Oper) (ho:o.op=.alloc el):fx P CR base g w B e ρ o d J':=by
 obtain⟨i0,v,hinfo,hzero,hrz,h1⟩:=sQ g hz;simp only[bY,aX,aj]at h;obtain⟨⟨cs',J1⟩,hnb,⟨l,i,J2⟩,hn,h⟩:=h;cases h;obtain⟨g1,i1,e1,r1⟩:=zU nb _ _ _ _ g _ hnb hi hrz;obtain⟨i2,e2⟩:=i1.CA hn v.cells.toList v.cells el r1 (by simp) (λj y hy=>⟨by simpa using hy,h1 y (ah hy)⟩);exact .val (.pointer (some ⟨w.heap.size,0,none⟩)) (by simp[execOp,ho,I5 hinfo hzero]) (e1.trans e2) i2 (.ref l i 0 0 _ _ _ G.aM (aO _) (λdR bo sz hh=>by cases hh;exact⟨rfl,rfl⟩) (by simp))
theorem ajp(hf:Fr fb V g w B e tmps)(hi:Inv CR base g J w){x:Operand}{X:bU}{t:TypeId}{nb:List (Nat×Nat)}(hx:bT x=some X)(h:bY e J (.bxn nb X)=some (d,J'))(o:Oper)(ho:o.op=.box t x):
  fx P CR base g w B e (Act.mk tmps df).eval o d J':=by
 simp only[bY,aX,aj]at h;obtain⟨cs,hcs,⟨cs',J1⟩,hnb,⟨l,i,J2⟩,hn,h⟩:=h;cases h;obtain⟨hr,h1⟩:=(hf.bG (df:=df) hx).cells hcs;obtain⟨g1,i1,e1,r1⟩:=zU nb _ _ _ _ g _ hnb hi hr;obtain⟨i2,e2⟩:=i1.CA hn ((Act.mk tmps df).eval x).cells.toList ((Act.mk tmps df).eval x).cells t r1 (by simp) (λj y hy=>⟨by simpa using hy,h1 y (ah hy)⟩);exact .val (.pointer (some ⟨w.heap.size,0,none⟩)) (by simp[execOp,ho,Instr.box,newVar,newRow]) (e1.trans e2) i2 (.ref l i 0 0 _ _ _ G.aM (aO _) (λdR bo sz hh=>by cases hh;exact⟨rfl,rfl⟩) (by simp))
theorem ajL(hf:Fr fb V g w B e tmps)(hi:Inv CR base g J w){x y:Operand}{X Y:bU}{t:TypeId}{nb:List (Nat×Nat)}{sz:Nat}(hx:bT x=some X)(hy:bT y=some Y)(hsz:dL P t=some sz)
  (h:bY e J (.st nb sz X Y)=some (d,J')) (o:Oper) (ho:o.op=.store t x y):fx P CR base g w B e (Act.mk tmps df).eval o d J':=by
 simp only[bY]at h;split at h
 case h_2=>cases h
 rename_i l i v off hX;split at h
 case h_2=>cases h
 rename_i cs hcs;split at h
 case h_2=>cases h
 rename_i p hcells;split at h
 case isFalse=>cases h
 rename_i hc;obtain⟨hplen,hle⟩:=hc;obtain⟨hrp,h1p⟩:=(hf.bG (df:=df) hy).cells hcells;have hrx:=hf.bG (df:=df) hx;rw[hX]at hrx;generalize hcv:(Act.mk tmps df).eval x=cv at hrx;cases hrx with
 |ref _ _ _ _ b o1 L k1 k2 k3 k4 =>
  unfold cells? at hcs;split at hcs
  case h_2=>cases hcs
  rename_i v' cs' hblk;split at hcs
  case isFalse=>cases hcs
  rename_i hv;subst hv;cases hcs;obtain⟨p',J1,g1,i1,e1,r1,hp'len,hblk1,rfl,rfl⟩:∃p' J1 g1,Inv CR base g1 J1 w/\Ev g w g1 w/\bS g1 p' ((Act.mk tmps df).eval y).cells.toList/\p'.length=p.length/\ef J1 l i=some (.cells v' cs) /\
    J'=bw J1 l i (.cells v' (cs.take off++p'++cs.drop (off+sz)))/\d=.undef:=by
   split at h
   .split at h
    .rename_i p' J1 hnb;cases h;obtain⟨g1,i1,e1,r1⟩:=zU nb _ _ _ _ g _ hnb hi hrp;obtain⟨_,k6,k7⟩:=Dt nb _ _ _ _ hnb;exact⟨p',J1,g1,i1,e1,r1,k6,k7 _ _ _ hblk,rfl,rfl⟩
    .cases h
   .cases h;obtain⟨g1,i1,e1,r1⟩:=C8 (CR:=CR) (base:=base) (Bu l deep) p J g w _ hi hrp;obtain⟨_,k6,k7⟩:=Nk l deep p J;exact⟨_,_,g1,i1,e1,r1,k6,(k7 l i (aO _)).trans hblk,rfl,rfl⟩
  obtain⟨L1,hL1,hle1⟩:=e1.le.loc l i L k1;obtain⟨b1,hb1,hrel⟩:=i1.yr l i L1 hL1;rw[hblk1]at hb1;cases hb1;cases L1 with
  |dead=>exact hrel.elim
  |lp z=>exact hrel.elim
  |mp z=>exact(Loc.zW k2 hle1).elim
  |it z=>exact(Loc.zW k2 hle1).elim
  |ob z _=>exact(Loc.zW k2 hle1).elim
  |nP v2 =>
   obtain⟨rfl,_⟩:=hrel;exact absurd (Loc.Fg k2 hle1 rfl) k4
  |«at» dR bo v2 bsz =>
   obtain⟨rfl,ca,el,hheap,hcsz,hlen,vs,hr,hvs⟩:=hrel;have hLeq:=Loc.back k2 hle1 rfl;obtain⟨rfl,rfl⟩:=k3 dR bo bsz hLeq;have hvl:=hr.length;have hpl:((Act.mk tmps df).eval y).cells.toList.length=sz:=by rw[<- r1.length,hp'len];exact hplen
   obtain⟨w',c',hrun,hb',hs',hc',hother,hsize,ho1,ho2,ho3⟩:=Ia (P:=P) (t:=t) (w:=w) (b:=b) (o:=bo+off) (v:=(Act.mk tmps df).eval y) hsz (by simpa using hpl) h1p hheap (by omega);have hle2:g1.le (g1.dc l i (.at b bo v' bsz)):=G.jF λL0 e0=>by rw[hL1]at e0;cases e0;exact Loc.le_refl _
   obtain⟨i2,e2⟩:=i1.setCells (w':=w') (L:=.at b bo v' bsz) (v:=v') (ds:=cs.take off++p'++cs.drop (off+sz)) hL1 hblk1 (Loc.le_refl _)
    ⟨rfl,c',el,hb',by rw[hs',hcsz],by simp;omega,vs.take off++((Act.mk tmps df).eval y).cells.toList++vs.drop (off+sz),
     (((hr.take off).append r1).append (hr.drop _)).mono hle2,by
      have:=I4 (c:=ca) (c':=c') (bo:=bo) (off:=off) (vs:=vs) (ps:=((Act.mk tmps df).eval y).cells.toList) hvs h1p (by omega) (by rw[hpl];exact hc');rw[hpl]at this;exact this⟩
    (λb' hb' hne=>hother b' (λhh=>hne (by rw[hh];rfl))) ho1 ho2 ho3 (by omega) (λb' hb' => .inl hb')
   refine⟨.skip,Go.undef,_,w',?_,rfl,e1.trans e2,i2,.undef _⟩;simp[execOp,ho,Instr.storeAt,hcv,Instr.sureAddr,hrun]
end ops
theorem Nm(n:Nat):∀(r c:Nat),c<=2*n+192->Builtin.growBy n r c<=2*n+192
 |0,c,h=>h
 |r+1,c,h=>by
  simp only[Builtin.growBy];split
  .exact h
  .exact Nm n r _ (by omega)
theorem nextslicecap_le{need cap:Nat}(h:cap<need):Builtin.nextslicecap need cap<=2*need+192:=by
 unfold Builtin.nextslicecap;split
 .omega
 .split
  .omega
  .exact Nm need 4 cap (by omega)
section ops
variable {P:Program} {CR:fw} {base fb:Nat} {V:List Nat} {g:G} {J J':SK} {w:World} {B:Nat->Nat} {e:Env} {tmps:Array Value} {df:List Deferred}
 {d:D}
theorem uh{wd n:Nat}{a:Option Addr}{cap:Nat}{vs:List Value}(hnil:a=none->n=0)(hlen:vs.length=n*wd)
  (hrd:∀x,a=some x->n≠0->x.spot=none/\Rd w x.block x.off vs) (w':World) (hw:w'.heap=w.heap):(Builtin.firstCells wd n (.slice a n cap)).run P w'=.ok vs.toArray w':=by
 cases a with
 |none =>
  obtain rfl:=hnil rfl;simp only[Nat.zero_mul,bg]at hlen;subst hlen;simp[Builtin.firstCells]
 |some x =>
  simp only[Builtin.firstCells];by_cases hn:n=0
  .subst hn;simp only[Nat.zero_mul,bg]at hlen;subst hlen;simp[loadCells,loadCellsFrom]
  .obtain⟨h1,h2⟩:=hrd x rfl hn;obtain⟨b,o,sp⟩:=x;simp only at h1;subst h1;rw[<- hlen];exact run_loadCells_list w' ⟨b,o,none⟩ vs (λj v hj=>by
    rw[add_eq];have:=h2 j v hj;simp only[World.cell?,hw]at this ⊢;exact this)
theorem IE(hi:Inv CR base g J w){wd:Nat}{dx:D}{c:Value}{m:Nat}{xs:List D}(hr:bW g dx c)(he:elems J wd dx=some (m,xs))(hns:∀s,dx ≠ .str s):
  ∃(a:Option Addr) (cap:Nat) (vs:List Value),c=.slice a m cap/\bS g xs vs/\(∀x∈vs,x.oneCell'=true)/\vs.length=m*wd/\(a=none->m=0)/\(∀x,a=some x->m≠0->x.spot=none/\Rd w x.block x.off vs):=by
 unfold elems at he;split at he
 .cases he;cases hr;exact⟨none,0,[],rfl,.nil,by simp,by simp,λ_=>rfl,λ_ hh=>by cases hh⟩
 .exact absurd rfl (hns _)
 .rename_i n cs;split at he
  case isFalse=>cases he
  rename_i hlen;cases he;cases hr with
  |Aj=>exact⟨none,0,[],rfl,.nil,by simp,by simp,λ_=>rfl,λ_ hh=>by cases hh⟩
  |bZ _ _ a cap vs hn h1 h2 h3 =>
   refine⟨some a,cap,vs,rfl,h3,λx hx=>?_,by rw[<- h3.length,hlen],λhh=>(by cases hh),λx hx hne=>?_⟩
   .obtain⟨j,hj⟩:=fW hx;exact(hi.nB _ _ _ (h1 j x hj)).2
   .cases hx;exact⟨h2 hne,λj y hy=>(hi.nB _ _ _ (h1 j y hy)).1⟩
 .rename_i l i v off n w';split at he
  case isFalse=>cases he
  rename_i hw';subst hw';split at he
  case h_2=>cases he
  rename_i cs hcs;split at he
  case isFalse=>cases he
  rename_i hle;cases he;cases hr with
  |sl _ _ _ _ _ _ a cap L k1 k2 k3 k4 k5 k6 k7 =>
   unfold cells? at hcs;split at hcs
   case h_2=>cases hcs
   rename_i v' cs' hblk;split at hcs
   case isFalse=>cases hcs
   rename_i hv;subst hv;cases hcs;obtain⟨b0,hb0,hrel⟩:=hi.yr _ _ _ k1;rw[hblk]at hb0;cases hb0;cases L with
   |dead=>exact hrel.elim
   |lp z=>exact hrel.elim
   |mp z=>exact k2.elim
   |it z=>exact k2.elim
   |ob z _=>exact k2.elim
   |nP v2 =>
    obtain⟨rfl,rfl⟩:=hrel;obtain rfl:=k7 rfl;obtain rfl:=k4 rfl;obtain rfl:m=0:=by omega
    exact⟨none,0,[],rfl,by simpa using bS.nil,by simp,by simp,λ_=>rfl,λ_ hh=>by cases hh⟩
   |«at» dR bo v2 bsz =>
    obtain⟨rfl,ca,el,hheap,hcsz,hlen,vs,hr,hvs⟩:=hrel;refine⟨a,cap,(vs.drop off).take (m*w'),rfl,(hr.drop off).take _,λx hx=>?_,?_,λhh=>?_,λx hx hne=>?_⟩
    .obtain⟨j,hj⟩:=fW (dH (dj hx));exact(hvs j x hj).2
    .have:=hr.length;simp;omega
    .have:=k4 hh;omega
    .rcases k6 dR bo bsz rfl with⟨rfl,k8⟩ | k8
     .cases hx;refine⟨rfl,Rd.take (Rd.drop (λj y hy=>?_) off) _⟩;simp only[World.cell?,hheap];simpa using(hvs j y hy).1
     .omega
 .cases he
theorem DB(g:G):∀(s:List UInt8),bS g (strCells s) (s.map λb => .int .u8 b.toNat)
 |[] => .nil
 |b::s => .cons _ _ _ _ (.int _ _) (DB g s)
theorem IF(hi:Inv CR base g J w){wd:Nat}{dx:D}{c:Value}{m:Nat}{xs:List D}(hr:bW g dx c)(he:elems J wd dx=some (m,xs)):
  ∃vs:List Value,bS g xs vs/\(∀x∈vs,x.oneCell'=true)/\vs.length=m*wd/\(∀w',(Builtin.lenOf c).run P w'=.ok m w')/\(∀w',w'.heap=w.heap->(Builtin.firstCells wd m c).run P w'=.ok vs.toArray w'):=by
 by_cases hs:∃s,dx=.str s
 .obtain⟨s,rfl⟩:=hs;simp only[elems]at he;split at he
  case isFalse=>cases he
  rename_i hw;subst hw;cases he;generalize hd:D.str s=dd at hr;cases hr<;>cases hd;rename_i b;refine⟨b.data.toList.map λu => .int .u8 u.toNat,DB g _,?_,by simp,λw'=>?_,λw' _=>?_⟩
  .intro x hx;obtain⟨u,_,rfl⟩:=bO.1 hx;rfl
  .have:b.data.toList.length=b.size:=by cases b;rfl
   simp[Builtin.lenOf,this]
  .have:b.extract 0 b.data.toList.length=b:=by cases b;simp[ByteArray.extract,ByteArray.copySlice,ByteArray.size]
   simp only[Builtin.firstCells,this,Sem.run_pure];congr 1;simp[<- fV]
 .obtain⟨a,cap,vs,hc,h1,h2,h3,h4,h5⟩:=IE hi hr he (λs hh=>hs ⟨s,hh⟩);exact⟨vs,h1,h2,h3,λw'=>by rw[hc];simp[Builtin.lenOf],λw' hw'=>by rw[hc];exact uh h4 h3 h5 w' hw'⟩
theorem run_append_grow{el t u:TypeId}{wd bytes n m cap:Nat}{a:Option Addr}{xv:Value}{z:List D}{old new:List Value}(ht:P.underlying t=some (.slice el))(hu:P.underlying u=some .string\/∃e2,P.underlying u=some (.slice e2))
  (hw:dL P el=some wd) (hb:(P.info? el).map (·.bytes)=some bytes) (hz:pN P el=some z) (hzl:z.length=wd) (hbpos:0<bytes) (hbl:bytes<=2^20) (hroom:(n+m)*bytes<=room)
  (hgrow:cap<n+m) (hold:∀w',w'.heap=w.heap->(Builtin.firstCells wd n (.slice a n cap)).run P w'=.ok old.toArray w')
  (hlenx:(Builtin.lenOf xv).run P w=.ok m w) (hnew:∀w',w'.heap=w.heap->(Builtin.firstCells wd m xv).run P w'=.ok new.toArray w') (g:G):
  ∃(newCap:Nat) (rest:List Value),(n+m<=newCap/\newCap<9223372036854775808)/\rest.length=(newCap-(n+m))*wd /\
   (Builtin.append_ #[t,u] 0 #[.slice a n cap,xv]).run P w=.ok (.slice (some ⟨w.heap.size,0,none⟩) (n+m) newCap) (w.drew.alloc (.cells (old++new++rest).toArray el)):=by
 obtain⟨i0,v,hinfo,hzero,hrz,h1⟩:=sQ g hz;have hbytes:i0.bytes=bytes:=by rw[hinfo]at hb;simpa using hb
 have hvs:v.cells.size=wd:=by have:=hrz.length;simp at this;omega
 have hcapq:Builtin.nextslicecap (n+m) cap*bytes<=2^48:=by
  have h2:=nextslicecap_le hgrow;have h3:Builtin.nextslicecap (n+m) cap*bytes<=(2*(n+m)+192)*bytes:=dk _ h2;have h4:(2*(n+m)+192)*bytes=2*((n+m)*bytes)+192*bytes:=by rw[gT,Nat.mul_assoc]
  simp only[room]at hroom;omega
 refine⟨(Question.appendCap (n+m) cap el).cut (w.tape w.drawn (.appendCap (n+m) cap el)),
  (Builtin.zeroCells v.cells ((Question.appendCap (n+m) cap el).cut (w.tape w.drawn (.appendCap (n+m) cap el))-(n+m))).toList,?_,?_,?_⟩
 .have hlt:n+m<9223372036854775808:=by
   have h5:(n+m)*1<=(n+m)*bytes:=Nat.mul_le_mul_left _ hbpos;simp only[room]at hroom;omega
  simp only[Question.cut];have:=Nat.mod_lt (w.tape w.drawn (.appendCap (n+m) cap el)) (y:=2^63-(n+m)) (by omega);omega
 .simp[Builtin.zeroCells,hvs]
 .have hq:(Question.appendCap (n+m) cap el).forced=false:=rfl;rcases hu with hu | ⟨e2,hu⟩
  all_goals
   simp only[Builtin.append_,iu,c9,List.getElem?_cons_succ,Sem.run_bind,bJ ht,bJ hu,Result.andThen_ok,run_sizeOf hw,Sem.run_pure,Sem.run_ite,aC,
    if_false,Bool.not_false,if_true,hlenx]
   rw[if_neg (by omega)];simp only[false_or,run_typeInfo hinfo,Result.andThen_ok,hbytes];rw[if_neg (by omega),if_neg (by omega)];simp only[run_choose,hq,aC,if_false,Result.andThen_ok,run_askRoom,World.drew_eq];rw[hold w.drew rfl];simp only[Result.andThen_ok];rw[hnew w.drew rfl];simp only[Result.andThen_ok,gv hinfo hzero,newRow,Sem.run_bind,run_newObj,Sem.run_pure];rw[show(old++new++(Builtin.zeroCells v.cells ((Question.appendCap (n+m) cap el).cut (w.tape w.drawn (.appendCap (n+m) cap el))-(n+m))).toList).toArray =
    old.toArray++new.toArray++Builtin.zeroCells v.cells ((Question.appendCap (n+m) cap el).cut (w.tape w.drawn (.appendCap (n+m) cap el))-(n+m))from by simp]
   rfl
theorem j7{ρ:Operand->Value}{x y:Operand}{args:Array Operand}{ts:Array TypeId}{t u:TypeId}(ha:args.toList=[x,y])(hts:ts.toList=[t,u])(o:Oper)
  (ho:o.op=.call {callee:=.builtin .append,args,argTypes:=ts }) (r:Result Value) (hr:(Builtin.append_ #[t,u] 0 #[ρ x,ρ y]).run P w=r):
  (execOp ρ o).run P w=r.andThen λv w' => .ok (.value v) w':=by
 obtain rfl:args = #[x,y]:=by rw[<- fV,ha]
 obtain rfl:ts = #[t,u]:=by rw[<- fV,hts]
 have:Builtin.append_ #[t,u] o.type #[ρ x,ρ y]=Builtin.append_ #[t,u] 0 #[ρ x,ρ y]:=rfl;simp only[execOp,ho,resolve,Sem.run_bind,Sem.run_pure,Result.andThen_ok,invoke,builtin];simp[this,hr]
theorem ajq(hf:Fr fb V g w B e tmps)(hi:Inv CR base g J w){x y:Operand}{Y:bU}{args:Array Operand}{ts:Array TypeId}{t u el:TypeId}{wd bytes:Nat}{z:List D}(hx:x=.const (.slice none 0 0))(hy:bT y=some Y)
  (ha:args.toList=[x,y]) (hts:ts.toList=[t,u]) (ht:P.underlying t=some (.slice el)) (hu:P.underlying u=some .string\/∃e2,P.underlying u=some (.slice e2))
  (hw:dL P el=some wd) (hb:(P.info? el).map (·.bytes)=some bytes) (hz:pN P el=some z) (hzl:z.length=wd) (hbpos:0<bytes) (hbl:bytes<=2^20)
  (h:bY e J (.cpi wd bytes Y)=some (d,J')) (o:Oper) (ho:o.op=.call {callee:=.builtin .append,args,argTypes:=ts }):fx P CR base g w B e (Act.mk tmps df).eval o d J':=by
 simp only[bY,aX,aj]at h;obtain⟨⟨m,xs⟩,he,h⟩:=h;dsimp only at h;split at h
 case isFalse=>cases h
 rename_i hroom;cases h;obtain⟨vs,hr,h1,hlen,hln,hfc⟩:=IF (P:=P) hi (hf.bG (df:=df) hy) he;have hx':(Act.mk tmps df).eval x=.slice none 0 0:=by subst hx;rfl
 by_cases hm:m=0
 .subst hm;have hvs:vs=[]:=by simpa using hlen
  subst hvs;cases hr;have hrun:(Builtin.append_ #[t,u] 0 #[(Act.mk tmps df).eval x,(Act.mk tmps df).eval y]).run P w=.ok (.slice none 0 0) w:=by
   rw[hx'];have hf0:=hfc w rfl;have hl0:=hln w;rcases hu with hu | ⟨e2,hu⟩<;>simp[Builtin.append_,bJ ht,bJ hu,run_sizeOf hw,hl0,hf0]
  have:=j7 ha hts o ho _ hrun;exact .pure hi (by simpa using this) (de.of .Aj)
 .have hroom':(0+m)*bytes<=room:=by simpa using hroom
  obtain⟨newCap,rest,k1,k2,k3⟩:=run_append_grow (P:=P) (w:=w) (a:=none) (cap:=0) (n:=0) (old:=[]) (new:=vs) (xv:=(Act.mk tmps df).eval y) ht hu hw hb hz hzl hbpos hbl hroom' (by omega)
   (λw' hw'=>by simp[Builtin.firstCells]) (hln _) hfc g
  rw[<- hx']at k3;have hrun:=j7 ha hts o ho _ k3;obtain⟨i1,e1,r1⟩:=(hi.heap (w1:=w.drew) rfl).IY vs (([]:List Value)++vs++rest).toArray el (λj y hy=>⟨by
   rw[iu,aV,eg (aA.1 hy).1];exact hy,h1 y (ah hy)⟩)
  refine .val (.slice (some ⟨w.heap.size,0,none⟩) (0+m) newCap) (by simpa using hrun) ((Ev.heap g (w:=w) (w1:=w.drew) rfl rfl rfl rfl).trans e1) i1 ?_;rw[cr];exact .bZ _ _ _ _ _ (by omega) r1 (λ_=>rfl) (hr.mono e1.le)
theorem ajm(hf:Fr fb V g w B e tmps)(hi:Inv CR base g J w){t el:TypeId}{wd:Nat}{z:List D}{ps:Array (Nat×Operand)}{parts:List (Nat×Nat×bU)}
  (ht:P.underlying t=some (.slice el)) (hw:dL P el=some wd) (hz:pN P el=some z) (hpos:0<wd) (hzl:z.length=wd) (hbig:0*wd<=2^24)
  (hp:ud (λi=>some (i*wd,wd)) ps.toList=some parts) (hpe:ps.toList=[]) (h:bY e J .bse=some (d,J')) (o:Oper) (ho:o.op=.buildSlice t 0 ps):
  fx P CR base g w B e (Act.mk tmps df).eval o d J':=by
 simp only[bY,ae,ak]at h;obtain⟨rfl,rfl⟩:=h;have hps:parts=[]:=by rw[hpe]at hp;simpa[ud]using hp.symm
 subst hps;obtain⟨vs,hrun,hr,h1⟩:=O7 (P:=P) (w:=w) (df:=df) (g:=g) hf ht hw hz hpos hzl hbig hp (cs:=fM (List.range 0) λ_=>z) rfl o ho;obtain⟨i1,i2,i3⟩:=hi.IY vs.toList vs el (λj y hy=>⟨by simpa using hy,h1 y (ah hy)⟩);exact .val _ hrun i2 i1 ⟨_,rfl⟩
theorem aji(hf:Fr fb V g w B e tmps)(hi:Inv CR base g J w){x y:Operand}{v:Nat}{Y:bU}{args:Array Operand}{ts:Array TypeId}{t u el:TypeId}{wd bytes:Nat}{z:List D}(hx:x=.tmp v)(hy:bT y=some Y)
  (ha:args.toList=[x,y]) (hts:ts.toList=[t,u]) (ht:P.underlying t=some (.slice el)) (hu:P.underlying u=some .string\/∃e2,P.underlying u=some (.slice e2))
  (hw:dL P el=some wd) (hb:(P.info? el).map (·.bytes)=some bytes) (hz:pN P el=some z) (hzl:z.length=wd) (hbpos:0<bytes) (hbl:bytes<=2^20)
  (h:bY e J (.ape wd bytes v Y)=some (d,J')) (o:Oper) (ho:o.op=.call {callee:=.builtin .append,args,argTypes:=ts }):fx P CR base g w B e (Act.mk tmps df).eval o d J':=by
 simp only[bY]at h;split at h
 case h_2=>cases h
 rename_i hev;simp only[aj]at h;obtain⟨⟨m,xs⟩,he,h⟩:=h;dsimp only at h;split at h
 case isFalse=>cases h
 rename_i hroom;cases h;obtain⟨vs,hr,h1,hlen,hln,hfc⟩:=IF (P:=P) hi (hf.bG (df:=df) hy) he;have hrel:=hf.rel v;rw[hev]at hrel;obtain⟨a0,ha0⟩:=hrel;have hx':(Act.mk tmps df).eval x=.slice a0 0 0:=by subst hx;exact ha0
 by_cases hm:m=0
 .subst hm;have hvs:vs=[]:=by simpa using hlen
  subst hvs;cases hr;have hrun:(Builtin.append_ #[t,u] 0 #[(Act.mk tmps df).eval x,(Act.mk tmps df).eval y]).run P w=.ok (.slice a0 0 0) w:=by
   rw[hx'];have hf0:=hfc w rfl;have hl0:=hln w;rcases hu with hu | ⟨e2,hu⟩<;>simp[Builtin.append_,bJ ht,bJ hu,run_sizeOf hw,hl0,hf0]<;>cases a0<;>simp[storeCells]
  have:=j7 ha hts o ho _ hrun;refine .pure hi (by simpa using this) (de.of ?_);cases a0 with
  |none=>exact .Aj
  |some a0=>exact .bZ 0 [] a0 0 [] (aO _) (λj v hv=>by simp at hv) (λhh=>absurd rfl hh) .nil
 .have hroom':(0+m)*bytes<=room:=by simpa using hroom
  obtain⟨newCap,rest,k1,k2,k3⟩:=run_append_grow (P:=P) (w:=w) (a:=a0) (cap:=0) (n:=0) (old:=[]) (new:=vs) (xv:=(Act.mk tmps df).eval y) ht hu hw hb hz hzl hbpos hbl hroom' (by omega)
   (λw' hw'=>uh (λ_=>rfl) (by simp) (λx hx hne=>absurd rfl hne) w' hw') (hln _) hfc g
  rw[<- hx']at k3;have hrun:=j7 ha hts o ho _ k3;obtain⟨i1,e1,r1⟩:=(hi.heap (w1:=w.drew) rfl).IY vs (([]:List Value)++vs++rest).toArray el (λj y hy=>⟨by
   rw[iu,aV,eg (aA.1 hy).1];exact hy,h1 y (ah hy)⟩)
  refine .val (.slice (some ⟨w.heap.size,0,none⟩) (0+m) newCap) (by simpa using hrun) ((Ev.heap g (w:=w) (w1:=w.drew) rfl rfl rfl rfl).trans e1) i1 ?_;rw[cr];exact .bZ _ _ _ _ _ (by omega) r1 (λ_=>rfl) (hr.mono e1.le)
theorem Z2(hf:Fr fb V g w B e tmps)(hi:Inv CR base g J w){x y:Operand}{X Y:bU}{args:Array Operand}{ts:Array TypeId}{t u el:TypeId}{wd bytes:Nat}{z:List D}(hx:bT x=some X)(hy:bT y=some Y)
  (ha:args.toList=[x,y]) (hts:ts.toList=[t,u]) (ht:P.underlying t=some (.slice el)) (hu:P.underlying u=some .string\/∃e2,P.underlying u=some (.slice e2))
  (hw:dL P el=some wd) (hb:(P.info? el).map (·.bytes)=some bytes) (hz:pN P el=some z) (hzl:z.length=wd) (hbpos:0<bytes) (hbl:bytes<=2^20)
  (h:bY e J (.app wd bytes X Y)=some (d,J')) (o:Oper) (ho:o.op=.call {callee:=.builtin .append,args,argTypes:=ts }):fx P CR base g w B e (Act.mk tmps df).eval o d J':=by
 simp only[bY,aX,aj]at h;obtain⟨⟨m,xs⟩,he,h⟩:=h;dsimp only at h;obtain⟨vs,hr,h1,hlen,hln,hfc⟩:=IF (P:=P) hi (hf.bG (df:=df) hy) he;have hrx:=hf.bG (df:=df) hx;split at h
 .rename_i hX;rw[hX]at hrx;split at h
  case isFalse=>cases h
  rename_i hroom;have hx':(Act.mk tmps df).eval x=.slice none 0 0:=by
   generalize (Act.mk tmps df).eval x=cv at hrx;cases hrx;rfl
  split at h
  .rename_i hm;cases h;subst hm;have hvs:vs=[]:=by simpa using hlen
   subst hvs;have hrun:(Builtin.append_ #[t,u] 0 #[(Act.mk tmps df).eval x,(Act.mk tmps df).eval y]).run P w=.ok (.slice none 0 0) w:=by
    rw[hx'];have hf0:=hfc w rfl;have hl0:=hln w;rcases hu with hu | ⟨e2,hu⟩<;>simp[Builtin.append_,bJ ht,bJ hu,run_sizeOf hw,hl0,hf0]
   have:=j7 ha hts o ho _ hrun;exact .pure hi (by simpa using this) (de.of .bB)
  .rename_i hm;simp only[aj]at h;obtain⟨⟨l,i,J1⟩,hn,h⟩:=h;cases h;have hroom':(0+m)*bytes<=room:=by simpa using hroom
   obtain⟨newCap,rest,k1,k2,k3⟩:=run_append_grow (P:=P) (w:=w) (a:=none) (cap:=0) (n:=0) (old:=[]) (new:=vs) (xv:=(Act.mk tmps df).eval y) ht hu hw hb hz hzl hbpos hbl hroom' (by omega)
    (λw' hw'=>by simp[Builtin.firstCells]) (hln _) hfc g
   rw[<- hx']at k3;have hrun:=j7 ha hts o ho _ k3;obtain⟨i1,e1⟩:=(hi.heap (w1:=w.drew) rfl).CA hn vs (([]:List Value)++vs++rest).toArray el hr (by simp) (λj y hy=>⟨by
    rw[iu,aV,eg (aA.1 hy).1];exact hy,h1 y (ah hy)⟩)
   refine .val (.slice (some ⟨w.heap.size,0,none⟩) (0+m) newCap) (by simpa using hrun) ((Ev.heap g (w:=w) (w1:=w.drew) rfl rfl rfl rfl).trans e1) i1 ?_;rw[cr];refine .sl l i 0 0 m wd _ _ _ G.aM (aO _) (by omega) (λhh=>by cases hh) (λx hx _=>by cases hx;rfl) ?_ (λhh=>by cases hh);intro dR bo sz hL;cases hL;refine .inl ⟨rfl,?_⟩;have:newCap*wd=m*wd+(newCap-(0+m))*wd:=by rw[<- gT];congr 1;omega
   simp;omega
 .rename_i l i v off n w' hX;rw[hX]at hrx;split at h
  case h_2=>cases h
  rename_i cs hcs;split at h
  case isFalse=>cases h
  rename_i hcond;obtain⟨hw',hle,hroom⟩:=hcond;subst hw';obtain⟨oa,ocap,ovs,hoc,hor,ho1,holen,honil,hord⟩:=IE hi hrx (wd:=w') (m:=n) (xs:=(cs.drop off).take (n*w')) (by simp[elems,hcs,hle]) (λs hh=>by cases hh);generalize hcv:(Act.mk tmps df).eval x=cv at hrx hoc;cases hrx with
  |sl _ _ _ _ _ _ sa scap L k1 k2 k3 k4 k5 k6 k7 =>
   simp only[Value.slice.injEq,true_and]at hoc;obtain⟨hoc1,hoc2⟩:=hoc;subst hoc1 hoc2;unfold cells? at hcs;split at hcs
   case h_2=>cases hcs
   rename_i v' cs' hblk;split at hcs
   case isFalse=>cases hcs
   rename_i hv;subst hv;cases hcs;obtain⟨xs',J1,g1,i1,e1,r1,hlen',hblk1,rfl,rfl⟩:∃xs' J1 g1,Inv CR base g1 J1 w/\Ev g w g1 w/\bS g1 xs' vs/\xs'.length=xs.length/\ef J1 l i=some (.cells v' cs) /\
     J'=bw J1 l i (.cells (v'+1) ((cs.drop off).take (n*w')++xs'))/\d=.sl l i (v'+1) 0 (n+m) w':=by
    split at h
    .cases h;exact⟨xs,J,g,hi,Ev.refl g w,hr,rfl,hblk,rfl,rfl⟩
    .cases h;obtain⟨g1,i1,e1,r1⟩:=C8 (CR:=CR) (base:=base) (Bu l deep) xs J g w _ hi hr;obtain⟨_,k8,k9⟩:=Nk l deep xs J;exact⟨_,_,g1,i1,e1,r1,k8,(k9 l i (aO _)).trans hblk,rfl,rfl⟩
   obtain⟨L1,hL1,hle1⟩:=e1.le.loc l i L k1;obtain⟨b1,hb1,hrel⟩:=i1.yr l i L1 hL1;rw[hblk1]at hb1;cases hb1;have hlx:(Builtin.lenOf ((Act.mk tmps df).eval y)).run P w=.ok m w:=hln w;have hnew:∀w1,w1.heap=w.heap->(Builtin.firstCells w' m ((Act.mk tmps df).eval y)).run P w1=.ok vs.toArray w1:=hfc;have hxl:xs'.length=m*w':=by rw[hlen',hr.length];exact hlen
   have hold:∀w1,w1.heap=w.heap->(Builtin.firstCells w' n (.slice sa n scap)).run P w1=.ok ovs.toArray w1:=λw1 hw1=>uh honil holen hord w1 hw1
   have hrcat:bS g1 ((cs.drop off).take (n*w')++xs') (ovs++vs):=(hor.mono e1.le).append r1;have h1cat:∀x∈ovs++vs,x.oneCell'=true:=λx hx=>by
    rcases aU.1 hx with hx | hx
    .exact ho1 x hx
    .exact h1 x hx
   have hnmw:(n+m)*w'=n*w'+m*w':=gT _ _ _;by_cases hgrow:scap<n+m
   ·
    obtain⟨newCap,rest,q1,q2,q3⟩:=run_append_grow (P:=P) (w:=w) (a:=sa) (cap:=scap) (n:=n) (old:=ovs) (new:=vs) (xv:=(Act.mk tmps df).eval y) ht hu hw hb hz hzl hbpos hbl hroom hgrow hold hlx hnew g;rw[<- hcv]at q3;have hrun:=j7 ha hts o ho _ q3;have hsize:((ovs++vs++rest).toArray).size=newCap*w':=by
     have:newCap*w'=(n+m)*w'+(newCap-(n+m))*w':=by rw[<- gT];congr 1;omega
     simp;omega
    have hver:L1.le (.at w.heap.size 0 (v'+1) (newCap*w')):=by
     cases L1 with
     |dead=>exact hrel.elim
     |lp z=>exact hrel.elim
     |mp z=>exact(Loc.zW k2 hle1).elim
     |it z=>exact(Loc.zW k2 hle1).elim
     |ob z _=>exact(Loc.zW k2 hle1).elim
     |nP v2=>obtain⟨rfl,_⟩:=hrel;simp only[Loc.le];exact .inr (.inr (.inl ⟨_,_,_,_,rfl,by omega⟩))
     |«at» dR bo v2 bsz=>obtain⟨rfl,_⟩:=hrel;simp only[Loc.le];exact .inr (.inr ⟨_,_,_,_,rfl,by omega⟩)
    have hle2:g1.le (g1.dc l i (.at w.heap.size 0 (v'+1) (newCap*w'))):=G.jF λL0 e0=>by rw[hL1]at e0;cases e0;exact hver
    obtain⟨i2,e2⟩:=i1.setCells (w':=w.drew.alloc (.cells (ovs++vs++rest).toArray el)) (L:=.at w.heap.size 0 (v'+1) (newCap*w')) (v:=v'+1) (ds:=(cs.drop off).take (n*w')++xs') hL1 hblk1 hver
     ⟨rfl,(ovs++vs++rest).toArray,el,sC (w:=w.drew),hsize,by
      have:newCap*w'=(n+m)*w'+(newCap-(n+m))*w':=by rw[<- gT];congr 1;omega
      rw[hrcat.length];simp;omega,ovs++vs,hrcat.mono hle2,λj x hx=>⟨by
       rw[iu,cr,eg (aA.1 hx).1];exact hx,h1cat x (ah hx)⟩⟩
     (λb' hb' hne=>alloc_old (w:=w.drew) hb') rfl rfl rfl (by simp) (λb' hb'=>by cases hb';exact .inr ⟨aO _,by simp⟩)
    refine .val (.slice (some ⟨w.heap.size,0,none⟩) (n+m) newCap) (by simpa using hrun) (e1.trans e2) i2 ?_;refine .sl l i _ _ _ _ _ _ _ G.aM (aO _) q1 (λhh=>by cases hh) (λx hx _=>by cases hx;rfl) ?_ (λhh=>by cases hh);intro dR bo sz hL;cases hL;exact .inl ⟨rfl,by omega⟩
   ·
    have hne:n+m<=scap:=by omega
    have hrun1:∀(w1:World),(match sa with | some a=>Builtin.firstCells 0 0 (.slice none 0 0) | none=>Builtin.firstCells 0 0 (.slice none 0 0)).run P w1=.ok #[] w1:=by
     intro w1;cases sa<;>simp[Builtin.firstCells]
    cases L1 with
    |dead=>exact hrel.elim
    |lp z=>exact hrel.elim
    |mp z=>exact(Loc.zW k2 hle1).elim
    |it z=>exact(Loc.zW k2 hle1).elim
    |ob z _=>exact(Loc.zW k2 hle1).elim
    |nP v2 =>
     obtain⟨rfl,rfl⟩:=hrel;obtain rfl:=k7 (Loc.Fg k2 hle1 rfl);obtain rfl:=k4 rfl;obtain rfl:n=0:=by omega
     obtain rfl:m=0:=by omega
     have hvs:vs=[]:=by simpa using hlen
     subst hvs;have hxs':xs'=[]:=by simpa using hxl
     subst hxs';have hrun:(Builtin.append_ #[t,u] 0 #[(Act.mk tmps df).eval x,(Act.mk tmps df).eval y]).run P w=.ok (.slice none 0 0) w:=by
      have:=hnew w rfl;rw[hcv];rcases hu with hu | ⟨e2,hu⟩<;>simp[Builtin.append_,bJ ht,bJ hu,run_sizeOf hw,hlx,this]
     have hrun:=j7 ha hts o ho _ hrun;have hver:Loc.le (.nP v') (.nP (v'+1)):=by simp only[Loc.le];exact .inr (.inr (.inr ⟨_,rfl,by omega⟩))
     obtain⟨i2,e2⟩:=i1.setCells (w':=w) (L:=.nP (v'+1)) (v:=v'+1) (ds:=(([]:List D).drop off).take (0*w')++[]) hL1 hblk1 hver ⟨rfl,by simp⟩ (λb' hb' hne=>rfl) rfl rfl rfl (aO _) (λb' hb'=>by cases hb');refine .val (.slice none 0 0) (by simpa using hrun) (e1.trans e2) i2 ?_;exact .sl l i _ _ _ _ none 0 _ G.aM (aO _) (by omega) (λ_=>rfl) (λ_ hh=>by cases hh) (λ_ _ _ hh=>by cases hh) (λ_=>rfl)
    |«at» dR bo v2 bsz =>
     obtain⟨rfl,ca,el',hheap,hcsz,hclen,cvs,hcr,hcvs⟩:=hrel;have hLeq:=Loc.back k2 hle1 rfl;have hcl:=hcr.length;have hofs:bo+off+(n*w')<=bsz:=by omega
     have hwr:∃w2 c2,(Builtin.append_ #[t,u] 0 #[(Act.mk tmps df).eval x,(Act.mk tmps df).eval y]).run P w=.ok (.slice sa (n+m) scap) w2/\w2.heap[dR]?=some (.cells c2 el' (0,0))/\c2.size=ca.size /\
       bo+off+(n+m)*w'<=bsz /\
       (∀j,c2[j]?=if bo+off+n*w'<=j/\j<bo+off+n*w'+vs.length then vs[j-(bo+off+n*w')]? else ca[j]?)/\(∀x,x≠dR->w2.heap[x]?=w.heap[x]?)/\w2.heap.size=w.heap.size /\
       w2.os=w.os/\w2.tape=w.tape/\w2.output=w.output:=by
      have hn2:=hnew w rfl;rcases k6 dR bo bsz hLeq with⟨rfl,k8⟩ | k8
      .have hcapw:(n+m)*w'<=scap*w':=dk _ hne;obtain⟨w2,c2,hrun,r2,r3,r4,r5⟩:=z6 (P:=P) (b:=dR) (el:=el') vs w (bo+off+n*w') 0 ca h1 hheap (by omega);refine⟨w2,c2,?_,r2,r3,by omega,by simpa using r4,r5⟩;rw[hcv];have hadd:Addr.add ⟨dR,bo+off,none⟩ (n*w')=⟨dR,bo+off+n*w',none⟩:=add_eq _ _ _;rcases hu with hu | ⟨e2,hu⟩<;>simp[Builtin.append_,bJ ht,bJ hu,run_sizeOf hw,hlx,hn2,hne,hadd,hrun]
      .obtain rfl:n=0:=by omega
       obtain rfl:m=0:=by omega
       have hvs:vs=[]:=by simpa using hlen
       subst hvs;refine⟨w,ca,?_,hheap,rfl,by omega,λj=>by rw[if_neg (by simp only[bd];omega)],λ_ _=>rfl,rfl,rfl,rfl,rfl⟩;rw[hcv];subst k8;have hst:∀(aa:Addr),(storeCells aa ([]:List Value) 0).run P w=.ok () w:=λaa=>by simp[storeCells]
       cases sa with
       |none=>rcases hu with hu | ⟨e2,hu⟩<;>simp[Builtin.append_,bJ ht,bJ hu,run_sizeOf hw,hlx,hn2]
       |some aa=>rcases hu with hu | ⟨e2,hu⟩<;>simp[Builtin.append_,bJ ht,bJ hu,run_sizeOf hw,hlx,hn2,hst]
     obtain⟨w2,c2,hrun,p1,p2,p3,p4,p5,p6,p7,p8,p9⟩:=hwr;have hrun:=j7 ha hts o ho _ hrun;have hver:Loc.le (.at dR bo v' bsz) (.at dR (bo+off) (v'+1) bsz):=by simp only[Loc.le];exact .inr (.inr ⟨_,_,_,_,rfl,by omega⟩)
     have hle2:g1.le (g1.dc l i (.at dR (bo+off) (v'+1) bsz)):=G.jF λL0 e0=>by rw[hL1]at e0;cases e0;exact hver
     have hcellsrel:bS g1 ((cs.drop off).take (n*w')++xs') ((cvs.drop off).take (n*w')++vs):=((hcr.drop off).take _).append r1;have hl1:((cvs.drop off).take (n*w')).length=n*w':=by simp;omega
     obtain⟨i2,e2⟩:=i1.setCells (w':=w2) (L:=.at dR (bo+off) (v'+1) bsz) (v:=v'+1) (ds:=(cs.drop off).take (n*w')++xs') hL1 hblk1 hver
      ⟨rfl,c2,el',p1,by rw[p2,hcsz],by rw[hcellsrel.length,aP,hl1,hlen];omega,(cvs.drop off).take (n*w')++vs,hcellsrel.mono hle2,λj x hx=>by
       rw[p4];rw[List.getElem?_append]at hx;split at hx
       .rename_i hj;rw[hl1]at hj;rw[if_neg (by omega)];rw[dw,if_pos hj,dN]at hx;have:=hcvs _ x hx;rwa[show bo+(off+j)=bo+off+j from by omega]at this
       .rename_i hj;rw[hl1]at hj hx;have hlt:=(aA.1 hx).1;rw[if_pos (by omega),show bo+off+j-(bo+off+n*w')=j-n*w' from by omega];exact⟨hx,h1 x (ah hx)⟩⟩
      (λb' hb' hne=>p5 b' (λhh=>hne (by rw[hh];rfl))) p7 p8 p9 (by omega) (λb' hb' => .inl hb')
     refine .val (.slice sa (n+m) scap) (by simpa using hrun) (e1.trans e2) i2 ?_;refine .sl l i _ _ _ _ _ _ _ G.aM (aO _) ⟨hne,k3.2⟩ k4 ?_ ?_ (λhh=>by cases hh)
     .intro x hx hne0;subst hx;rcases k6 dR bo bsz hLeq with⟨k9,_⟩ | k9
      .cases k9;rfl
      .omega
     .intro blk' bo' sz' hL;cases hL;rcases k6 dR bo bsz hLeq with⟨k9,k10⟩ | k9
      .exact .inl ⟨by rw[k9];simp,by omega⟩
      .exact .inr k9
 .cases h
theorem Pf{e:Env}{J:SK}{w bytes:Nat}{s x:bU}:bY e J (.app w bytes s x)=Oe e J w bytes s x:=rfl
theorem Yu{e:Env}{J J':SK}{d:D}{w bytes:Nat}{s x:bU}(h:Oe e J w bytes s x=some (d,J')):d=.bB\/∃l i v off n w,d=.sl l i v off n w:=by
 simp only[Oe,aX,aj]at h;obtain⟨⟨m,xs⟩,he,h⟩:=h;dsimp only at h;split at h
 .split at h
  case isFalse=>cases h
  split at h
  .cases h;exact .inl rfl
  .simp only[aj]at h;obtain⟨⟨l,i,J1⟩,hn,h⟩:=h;cases h;exact .inr ⟨_,_,_,_,_,_,rfl⟩
 .split at h
  case h_2=>cases h
  split at h
  case isFalse=>cases h
  split at h
  .cases h;exact .inr ⟨_,_,_,_,_,_,rfl⟩
  .cases h;exact .inr ⟨_,_,_,_,_,_,rfl⟩
 .cases h
theorem U9{e:Env}{J:SK}{os:List Nat}{w bytes:Nat}{s x:bU}{r:D×SK}(h:bY e J (.VP os w bytes s x)=some r):bY e J (.app w bytes s x)=some r:=by
 rw[Pf];simp only[bY]at h;split at h
 case h_2=>cases h
 split at h
 case isFalse=>cases h
 simp only[aj]at h;obtain⟨_,_,h⟩:=h;split at h
 .exact h
 .cases h
theorem ajj(hf:Fr fb V g w B e tmps)(hi:Inv CR base g J w){x y:Operand}{X Y:bU}{args:Array Operand}{ts:Array TypeId}{t u el:TypeId}{wd bytes:Nat}{z:List D}(hx:bT x=some X)(hy:bT y=some Y)
  (ha:args.toList=[x,y]) (hts:ts.toList=[t,u]) (ht:P.underlying t=some (.slice el)) (hu:P.underlying u=some .string\/∃e2,P.underlying u=some (.slice e2))
  (hw:dL P el=some wd) (hb:(P.info? el).map (·.bytes)=some bytes) (hz:pN P el=some z) (hzl:z.length=wd) (hbpos:0<bytes) (hbl:bytes<=2^20)
  (h:bY e J (.apz wd bytes X Y)=some (d,J')) (o:Oper) (ho:o.op=.call {callee:=.builtin .append,args,argTypes:=ts }):fx P CR base g w B e (Act.mk tmps df).eval o d J':=by
 simp only[bY,ad,Prod.exists]at h;obtain⟨d1,J1,h1,h2⟩:=h;have hv:=Yu h1;rw[<- Pf]at h1;obtain⟨v,c,g',w',k1,k2,k3,k4,k5⟩:=Z2 (df:=df) hf hi hx hy ha hts ht hu hw hb hz hzl hbpos hbl h1 o ho;have k6:bW g' d1 c:=by
  rcases hv with rfl | ⟨l,i,v,off,n,w,rfl⟩
  .exact k5
  .exact k5
 obtain⟨g2,i2,e2,r2⟩:=Bu (CR:=CR) (base:=base) 0 deep d1 J1 g' w' c k4 k6;rw[h2]at i2 r2;exact⟨v,c,g2,w',k1,k2,k3.trans e2,i2,de.of r2⟩
