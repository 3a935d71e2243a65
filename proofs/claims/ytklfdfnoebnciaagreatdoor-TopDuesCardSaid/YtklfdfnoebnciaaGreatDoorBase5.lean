import Derived.Test.YtklfdfnoebnciaaGreatDoorBase4
import Derived.Laws.Append
set_option linter.all false
namespace Go.az
open Go
section ops
variable {P:Program} {CR:eJ} {base fb:Nat} {V:List Nat} {g:G} {J J':SK} {w:World} {B:Nat->Nat} {e:Env} {tmps:Array Value} {df:List Deferred}
 {d:D}
theorem tR{wd n:Nat}{a:Option Addr}{cap:Nat}{vs:List Value}(hnil:a=none->n=0)(hlen:vs.length=n*wd)
  (hrd:∀x,a=some x->n≠0->x.spot=none/\Rd w x.block x.off vs) (w':World) (hw:w'.heap=w.heap):(Builtin.firstCells wd n (.slice a n cap)).run P w'=.ok vs.toArray w':=by
 cases a with
 |none =>
  obtain rfl:=hnil rfl;simp only[Nat.zero_mul,bR]at hlen;subst hlen;simp[Builtin.firstCells]
 |some x =>
  simp only[Builtin.firstCells];by_cases hn:n=0
  .subst hn;simp only[Nat.zero_mul,bR]at hlen;subst hlen;simp[loadCells,loadCellsFrom]
  .obtain⟨h1,h2⟩:=hrd x rfl hn;obtain⟨b,o,sp⟩:=x;simp only at h1;subst h1;rw[<- hlen];exact run_loadCells_list w' ⟨b,o,none⟩ vs (λj v hj=>by
    rw[add_eq];have:=h2 j v hj;simp only[World.cell?,hw]at this ⊢;exact this)
theorem D8(hi:Inv CR base g J w){wd:Nat}{dx:D}{c:Value}{m:Nat}{xs:List D}(hr:bB g dx c)(he:elems J wd dx=some (m,xs))(hns:∀s,dx ≠ .str s):
  ∃(a:Option Addr) (cap:Nat) (vs:List Value),c=.slice a m cap/\bA g xs vs/\(∀x∈vs,x.oneCell'=true)/\vs.length=m*wd/\(a=none->m=0)/\(∀x,a=some x->m≠0->x.spot=none/\Rd w x.block x.off vs):=by
 unfold elems at he;split at he
 .cases he;cases hr;exact⟨none,0,[],rfl,.nil,by simp,by simp,λ_=>rfl,λ_ hh=>by cases hh⟩
 .exact absurd rfl (hns _)
 .rename_i n cs;split at he
  case isFalse=>cases he
  rename_i hlen;cases he;cases hr with
  |yp=>exact⟨none,0,[],rfl,.nil,by simp,by simp,λ_=>rfl,λ_ hh=>by cases hh⟩
  |aG _ _ a cap vs hn h1 h2 h3 =>
   refine⟨some a,cap,vs,rfl,h3,λx hx=>?_,by rw[<- h3.length,hlen],λhh=>(by cases hh),λx hx hne=>?_⟩
   .obtain⟨j,hj⟩:=fh hx;exact(hi.oc _ _ _ (h1 j x hj)).2
   .cases hx;exact⟨h2 hne,λj y hy=>(hi.oc _ _ _ (h1 j y hy)).1⟩
 .rename_i l i v off n w';split at he
  case isFalse=>cases he
  rename_i hw';subst hw';split at he
  case h_2=>cases he
  rename_i cs hcs;split at he
  case isFalse=>cases he
  rename_i hle;cases he;cases hr with
  |sl _ _ _ _ _ _ a cap L k1 k2 k3 k4 k5 k6 k7 =>
   unfold cells? at hcs;split at hcs
   case h_2=>cases hcs
   rename_i v' cs' hblk;split at hcs
   case isFalse=>cases hcs
   rename_i hv;subst hv;cases hcs;obtain⟨b0,hb0,hrel⟩:=hi.vQ _ _ _ k1;rw[hblk]at hb0;cases hb0;cases L with
   |dead=>exact hrel.elim
   |lp z=>exact hrel.elim
   |mp z=>exact k2.elim
   |it z=>exact k2.elim
   |ob z _=>exact k2.elim
   |oG v2 =>
    obtain⟨rfl,rfl⟩:=hrel;obtain rfl:=k7 rfl;obtain rfl:=k4 rfl;obtain rfl:m=0:=by omega
    exact⟨none,0,[],rfl,by simpa using bA.nil,by simp,by simp,λ_=>rfl,λ_ hh=>by cases hh⟩
   |«at» cT bo v2 bsz =>
    obtain⟨rfl,ca,el,hheap,hcsz,hlen,vs,hr,hvs⟩:=hrel;refine⟨a,cap,(vs.drop off).take (m*w'),rfl,(hr.drop off).take _,λx hx=>?_,?_,λhh=>?_,λx hx hne=>?_⟩
    .obtain⟨j,hj⟩:=fh (da (db hx));exact(hvs j x hj).2
    .have:=hr.length;simp;omega
    .have:=k4 hh;omega
    .rcases k6 cT bo bsz rfl with⟨rfl,k8⟩ | k8
     .cases hx;refine⟨rfl,Rd.take (Rd.drop (λj y hy=>?_) off) _⟩;simp only[World.cell?,hheap];simpa using(hvs j y hy).1
     .omega
 .cases he
theorem zL(g:G):∀(s:List UInt8),bA g (strCells s) (s.map λb => .int .u8 b.toNat)
 |[] => .nil
 |b::s => .cons _ _ _ _ (.int _ _) (zL g s)
theorem D9(hi:Inv CR base g J w){wd:Nat}{dx:D}{c:Value}{m:Nat}{xs:List D}(hr:bB g dx c)(he:elems J wd dx=some (m,xs)):
  ∃vs:List Value,bA g xs vs/\(∀x∈vs,x.oneCell'=true)/\vs.length=m*wd/\(∀w',(Builtin.lenOf c).run P w'=.ok m w')/\(∀w',w'.heap=w.heap->(Builtin.firstCells wd m c).run P w'=.ok vs.toArray w'):=by
 by_cases hs:∃s,dx=.str s
 .obtain⟨s,rfl⟩:=hs;simp only[elems]at he;split at he
  case isFalse=>cases he
  rename_i hw;subst hw;cases he;generalize hd:D.str s=dd at hr;cases hr<;>cases hd;rename_i b;refine⟨b.data.toList.map λu => .int .u8 u.toNat,zL g _,?_,by simp,λw'=>?_,λw' _=>?_⟩
  .intro x hx;obtain⟨u,_,rfl⟩:=bO.1 hx;rfl
  .have:b.data.toList.length=b.size:=by cases b;rfl
   simp[Builtin.lenOf,this]
  .have:b.extract 0 b.data.toList.length=b:=by cases b;simp[ByteArray.extract,ByteArray.copySlice,ByteArray.size]
   simp only[Builtin.firstCells,this,Sem.run_pure];congr 1;simp[<- fe]
 .obtain⟨a,cap,vs,hc,h1,h2,h3,h4,h5⟩:=D8 hi hr he (λs hh=>hs ⟨s,hh⟩);exact⟨vs,h1,h2,h3,λw'=>by rw[hc];simp[Builtin.lenOf],λw' hw'=>by rw[hc];exact tR h4 h3 h5 w' hw'⟩
theorem run_append_grow{el t u:TypeId}{wd bytes n m cap:Nat}{a:Option Addr}{xv:Value}{z:List D}{old new:List Value}(ht:P.underlying t=some (.slice el))(hu:P.underlying u=some .string\/∃e2,P.underlying u=some (.slice e2))
  (hw:cH P el=some wd) (hb:(P.info? el).map (·.bytes)=some bytes) (hz:rA P el=some z) (hzl:z.length=wd) (hbpos:0<bytes) (hbl:bytes<=2^20) (hroom:(n+m)*bytes<=room)
  (hgrow:cap<n+m) (hold:∀w',w'.heap=w.heap->(Builtin.firstCells wd n (.slice a n cap)).run P w'=.ok old.toArray w')
  (hlenx:(Builtin.lenOf xv).run P w=.ok m w) (hnew:∀w',w'.heap=w.heap->(Builtin.firstCells wd m xv).run P w'=.ok new.toArray w') (g:G):
  ∃(newCap:Nat) (rest:List Value),(n+m<=newCap/\newCap<9223372036854775808)/\rest.length=(newCap-(n+m))*wd /\
   (Builtin.append_ #[t,u] 0 #[.slice a n cap,xv]).run P w=.ok (.slice (some ⟨w.heap.size,0,none⟩) (n+m) newCap) (w.drew.alloc (.cells (old++new++rest).toArray el)):=by
 obtain⟨i0,v,hinfo,hzero,hrz,h1⟩:=sW g hz;have hbytes:i0.bytes=bytes:=by rw[hinfo]at hb;simpa using hb
 have hvs:v.cells.size=wd:=by have:=hrz.length;simp at this;omega
 have hcapq:Builtin.nextslicecap (n+m) cap*bytes<=2^48:=by
  have h2:=nextslicecap_le hgrow;have h3:Builtin.nextslicecap (n+m) cap*bytes<=2*(n+m)*bytes:=ct _ h2;have h4:2*(n+m)*bytes=2*((n+m)*bytes):=Nat.mul_assoc _ _ _;simp only[room]at hroom;omega
 refine⟨(Question.appendCap (n+m) cap el).cut (w.tape w.drawn (.appendCap (n+m) cap el)),
  (Builtin.zeroCells v.cells ((Question.appendCap (n+m) cap el).cut (w.tape w.drawn (.appendCap (n+m) cap el))-(n+m))).toList,?_,?_,?_⟩
 .have hlt:n+m<9223372036854775808:=by
   have h5:(n+m)*1<=(n+m)*bytes:=Nat.mul_le_mul_left _ hbpos;simp only[room]at hroom;omega
  simp only[Question.cut];have:=Nat.mod_lt (w.tape w.drawn (.appendCap (n+m) cap el)) (y:=2^63-(n+m)) (by omega);omega
 .simp[Builtin.zeroCells,hvs]
 .have hq:(Question.appendCap (n+m) cap el).forced=false:=rfl;rcases hu with hu | ⟨e2,hu⟩
  all_goals
   simp only[Builtin.append_,gL,cc,List.getElem?_cons_succ,Sem.run_bind,bf ht,bf hu,Result.andThen_ok,run_sizeOf hw,Sem.run_pure,Sem.run_ite,ar,
    if_false,Bool.not_false,if_true,hlenx]
   rw[if_neg (by omega)];simp only[false_or,run_typeInfo hinfo,Result.andThen_ok,hbytes];rw[if_neg (by omega),if_neg (by omega)];simp only[run_choose,hq,ar,if_false,Result.andThen_ok,run_askRoom,World.drew_eq];rw[hold w.drew rfl];simp only[Result.andThen_ok];rw[hnew w.drew rfl];simp only[Result.andThen_ok,fK hinfo hzero,newRow,Sem.run_bind,run_newObj,Sem.run_pure];rw[show(old++new++(Builtin.zeroCells v.cells ((Question.appendCap (n+m) cap el).cut (w.tape w.drawn (.appendCap (n+m) cap el))-(n+m))).toList).toArray =
    old.toArray++new.toArray++Builtin.zeroCells v.cells ((Question.appendCap (n+m) cap el).cut (w.tape w.drawn (.appendCap (n+m) cap el))-(n+m))from by simp]
   rfl
theorem jS{ρ:Operand->Value}{x y:Operand}{args:Array Operand}{ts:Array TypeId}{t u:TypeId}(ha:args.toList=[x,y])(hts:ts.toList=[t,u])(o:Oper)
  (ho:o.op=.call {callee:=.builtin .append,args,argTypes:=ts }) (r:Result Value) (hr:(Builtin.append_ #[t,u] 0 #[ρ x,ρ y]).run P w=r):
  (execOp ρ o).run P w=r.andThen λv w' => .ok (.value v) w':=by
 obtain rfl:args = #[x,y]:=by rw[<- fe,ha]
 obtain rfl:ts = #[t,u]:=by rw[<- fe,hts]
 have:Builtin.append_ #[t,u] o.type #[ρ x,ρ y]=Builtin.append_ #[t,u] 0 #[ρ x,ρ y]:=rfl;simp only[execOp,ho,resolve,Sem.run_bind,Sem.run_pure,Result.andThen_ok,invoke,builtin];simp[this,hr]
theorem aaG(hf:Fr fb V g w B e tmps)(hi:Inv CR base g J w){x y:Operand}{Y:bD}{args:Array Operand}{ts:Array TypeId}{t u el:TypeId}{wd bytes:Nat}{z:List D}(hx:x=.const (.slice none 0 0))(hy:bC y=some Y)
  (ha:args.toList=[x,y]) (hts:ts.toList=[t,u]) (ht:P.underlying t=some (.slice el)) (hu:P.underlying u=some .string\/∃e2,P.underlying u=some (.slice e2))
  (hw:cH P el=some wd) (hb:(P.info? el).map (·.bytes)=some bytes) (hz:rA P el=some z) (hzl:z.length=wd) (hbpos:0<bytes) (hbl:bytes<=2^20)
  (h:bG e J (.Wt wd bytes Y)=some (d,J')) (o:Oper) (ho:o.op=.call {callee:=.builtin .append,args,argTypes:=ts }):ep P CR base g w B e (Act.mk tmps df).eval o d J':=by
 simp only[bG,aM,af]at h;obtain⟨⟨m,xs⟩,he,h⟩:=h;dsimp only at h;split at h
 case isFalse=>cases h
 rename_i hroom;cases h;obtain⟨vs,hr,h1,hlen,hln,hfc⟩:=D9 (P:=P) hi (hf.ba (df:=df) hy) he;have hx':(Act.mk tmps df).eval x=.slice none 0 0:=by subst hx;rfl
 by_cases hm:m=0
 .subst hm;have hvs:vs=[]:=by simpa using hlen
  subst hvs;cases hr;have hrun:(Builtin.append_ #[t,u] 0 #[(Act.mk tmps df).eval x,(Act.mk tmps df).eval y]).run P w=.ok (.slice none 0 0) w:=by
   rw[hx'];have hf0:=hfc w rfl;have hl0:=hln w;rcases hu with hu | ⟨e2,hu⟩<;>simp[Builtin.append_,bf ht,bf hu,run_sizeOf hw,hl0,hf0]
  have:=jS ha hts o ho _ hrun;exact .pure hi (by simpa using this) (ch.of .yp)
 .have hroom':(0+m)*bytes<=room:=by simpa using hroom
  obtain⟨newCap,rest,k1,k2,k3⟩:=run_append_grow (P:=P) (w:=w) (a:=none) (cap:=0) (n:=0) (old:=[]) (new:=vs) (xv:=(Act.mk tmps df).eval y) ht hu hw hb hz hzl hbpos hbl hroom' (by omega)
   (λw' hw'=>by simp[Builtin.firstCells]) (hln _) hfc g
  rw[<- hx']at k3;have hrun:=jS ha hts o ho _ k3;obtain⟨i1,e1,r1⟩:=(hi.heap (w1:=w.drew) rfl).En vs (([]:List Value)++vs++rest).toArray el (λj y hy=>⟨by
   rw[gL,aY,gH (aw.1 hy).1];exact hy,h1 y (ai hy)⟩)
  refine .val (.slice (some ⟨w.heap.size,0,none⟩) (0+m) newCap) (by simpa using hrun) ((Ev.heap g (w:=w) (w1:=w.drew) rfl rfl rfl rfl).trans e1) i1 ?_;rw[cr];exact .aG _ _ _ _ _ (by omega) r1 (λ_=>rfl) (hr.mono e1.le)
theorem aaC(hf:Fr fb V g w B e tmps)(hi:Inv CR base g J w){t el:TypeId}{wd:Nat}{z:List D}{ps:Array (Nat×Operand)}{parts:List (Nat×Nat×bD)}
  (ht:P.underlying t=some (.slice el)) (hw:cH P el=some wd) (hz:rA P el=some z) (hpos:0<wd) (hzl:z.length=wd) (hbig:0*wd<=2^24)
  (hp:tO (λi=>some (i*wd,wd)) ps.toList=some parts) (hpe:ps.toList=[]) (h:bG e J .Yi=some (d,J')) (o:Oper) (ho:o.op=.buildSlice t 0 ps):
  ep P CR base g w B e (Act.mk tmps df).eval o d J':=by
 simp only[bG,ad,aj]at h;obtain⟨rfl,rfl⟩:=h;have hps:parts=[]:=by rw[hpe]at hp;simpa[tO]using hp.symm
 subst hps;obtain⟨vs,hrun,hr,h1⟩:=Jy (P:=P) (w:=w) (df:=df) (g:=g) hf ht hw hz hpos hzl hbig hp (cs:=(List.range 0).flatMap λ_=>z) rfl o ho;obtain⟨i1,i2,i3⟩:=hi.En vs.toList vs el (λj y hy=>⟨by simpa using hy,h1 y (ai hy)⟩);exact .val _ hrun i2 i1 ⟨_,rfl⟩
theorem aay(hf:Fr fb V g w B e tmps)(hi:Inv CR base g J w){x y:Operand}{v:Nat}{Y:bD}{args:Array Operand}{ts:Array TypeId}{t u el:TypeId}{wd bytes:Nat}{z:List D}(hx:x=.tmp v)(hy:bC y=some Y)
  (ha:args.toList=[x,y]) (hts:ts.toList=[t,u]) (ht:P.underlying t=some (.slice el)) (hu:P.underlying u=some .string\/∃e2,P.underlying u=some (.slice e2))
  (hw:cH P el=some wd) (hb:(P.info? el).map (·.bytes)=some bytes) (hz:rA P el=some z) (hzl:z.length=wd) (hbpos:0<bytes) (hbl:bytes<=2^20)
  (h:bG e J (.Wn wd bytes v Y)=some (d,J')) (o:Oper) (ho:o.op=.call {callee:=.builtin .append,args,argTypes:=ts }):ep P CR base g w B e (Act.mk tmps df).eval o d J':=by
 simp only[bG]at h;split at h
 case h_2=>cases h
 rename_i hev;simp only[af]at h;obtain⟨⟨m,xs⟩,he,h⟩:=h;dsimp only at h;split at h
 case isFalse=>cases h
 rename_i hroom;cases h;obtain⟨vs,hr,h1,hlen,hln,hfc⟩:=D9 (P:=P) hi (hf.ba (df:=df) hy) he;have hrel:=hf.rel v;rw[hev]at hrel;obtain⟨a0,ha0⟩:=hrel;have hx':(Act.mk tmps df).eval x=.slice a0 0 0:=by subst hx;exact ha0
 by_cases hm:m=0
 .subst hm;have hvs:vs=[]:=by simpa using hlen
  subst hvs;cases hr;have hrun:(Builtin.append_ #[t,u] 0 #[(Act.mk tmps df).eval x,(Act.mk tmps df).eval y]).run P w=.ok (.slice a0 0 0) w:=by
   rw[hx'];have hf0:=hfc w rfl;have hl0:=hln w;rcases hu with hu | ⟨e2,hu⟩<;>simp[Builtin.append_,bf ht,bf hu,run_sizeOf hw,hl0,hf0]<;>cases a0<;>simp[storeCells]
  have:=jS ha hts o ho _ hrun;refine .pure hi (by simpa using this) (ch.of ?_);cases a0 with
  |none=>exact .yp
  |some a0=>exact .aG 0 [] a0 0 [] (aH _) (λj v hv=>by simp at hv) (λhh=>absurd rfl hh) .nil
 .have hroom':(0+m)*bytes<=room:=by simpa using hroom
  obtain⟨newCap,rest,k1,k2,k3⟩:=run_append_grow (P:=P) (w:=w) (a:=a0) (cap:=0) (n:=0) (old:=[]) (new:=vs) (xv:=(Act.mk tmps df).eval y) ht hu hw hb hz hzl hbpos hbl hroom' (by omega)
   (λw' hw'=>tR (λ_=>rfl) (by simp) (λx hx hne=>absurd rfl hne) w' hw') (hln _) hfc g
  rw[<- hx']at k3;have hrun:=jS ha hts o ho _ k3;obtain⟨i1,e1,r1⟩:=(hi.heap (w1:=w.drew) rfl).En vs (([]:List Value)++vs++rest).toArray el (λj y hy=>⟨by
   rw[gL,aY,gH (aw.1 hy).1];exact hy,h1 y (ai hy)⟩)
  refine .val (.slice (some ⟨w.heap.size,0,none⟩) (0+m) newCap) (by simpa using hrun) ((Ev.heap g (w:=w) (w1:=w.drew) rfl rfl rfl rfl).trans e1) i1 ?_;rw[cr];exact .aG _ _ _ _ _ (by omega) r1 (λ_=>rfl) (hr.mono e1.le)
theorem Sd(hf:Fr fb V g w B e tmps)(hi:Inv CR base g J w){x y:Operand}{X Y:bD}{args:Array Operand}{ts:Array TypeId}{t u el:TypeId}{wd bytes:Nat}{z:List D}(hx:bC x=some X)(hy:bC y=some Y)
  (ha:args.toList=[x,y]) (hts:ts.toList=[t,u]) (ht:P.underlying t=some (.slice el)) (hu:P.underlying u=some .string\/∃e2,P.underlying u=some (.slice e2))
  (hw:cH P el=some wd) (hb:(P.info? el).map (·.bytes)=some bytes) (hz:rA P el=some z) (hzl:z.length=wd) (hbpos:0<bytes) (hbl:bytes<=2^20)
  (h:bG e J (.app wd bytes X Y)=some (d,J')) (o:Oper) (ho:o.op=.call {callee:=.builtin .append,args,argTypes:=ts }):ep P CR base g w B e (Act.mk tmps df).eval o d J':=by
 simp only[bG,aM,af]at h;obtain⟨⟨m,xs⟩,he,h⟩:=h;dsimp only at h;obtain⟨vs,hr,h1,hlen,hln,hfc⟩:=D9 (P:=P) hi (hf.ba (df:=df) hy) he;have hrx:=hf.ba (df:=df) hx;split at h
 .rename_i hX;rw[hX]at hrx;split at h
  case isFalse=>cases h
  rename_i hroom;have hx':(Act.mk tmps df).eval x=.slice none 0 0:=by
   generalize (Act.mk tmps df).eval x=cv at hrx;cases hrx;rfl
  split at h
  .rename_i hm;cases h;subst hm;have hvs:vs=[]:=by simpa using hlen
   subst hvs;have hrun:(Builtin.append_ #[t,u] 0 #[(Act.mk tmps df).eval x,(Act.mk tmps df).eval y]).run P w=.ok (.slice none 0 0) w:=by
    rw[hx'];have hf0:=hfc w rfl;have hl0:=hln w;rcases hu with hu | ⟨e2,hu⟩<;>simp[Builtin.append_,bf ht,bf hu,run_sizeOf hw,hl0,hf0]
   have:=jS ha hts o ho _ hrun;exact .pure hi (by simpa using this) (ch.of .bN)
  .rename_i hm;simp only[af]at h;obtain⟨⟨l,i,J1⟩,hn,h⟩:=h;cases h;have hroom':(0+m)*bytes<=room:=by simpa using hroom
   obtain⟨newCap,rest,k1,k2,k3⟩:=run_append_grow (P:=P) (w:=w) (a:=none) (cap:=0) (n:=0) (old:=[]) (new:=vs) (xv:=(Act.mk tmps df).eval y) ht hu hw hb hz hzl hbpos hbl hroom' (by omega)
    (λw' hw'=>by simp[Builtin.firstCells]) (hln _) hfc g
   rw[<- hx']at k3;have hrun:=jS ha hts o ho _ k3;obtain⟨i1,e1⟩:=(hi.heap (w1:=w.drew) rfl).yN hn vs (([]:List Value)++vs++rest).toArray el hr (by simp) (λj y hy=>⟨by
    rw[gL,aY,gH (aw.1 hy).1];exact hy,h1 y (ai hy)⟩)
   refine .val (.slice (some ⟨w.heap.size,0,none⟩) (0+m) newCap) (by simpa using hrun) ((Ev.heap g (w:=w) (w1:=w.drew) rfl rfl rfl rfl).trans e1) i1 ?_;rw[cr];refine .sl l i 0 0 m wd _ _ _ G.aE (aH _) (by omega) (λhh=>by cases hh) (λx hx _=>by cases hx;rfl) ?_ (λhh=>by cases hh);intro cT bo sz hL;cases hL;refine .inl ⟨rfl,?_⟩;have:newCap*wd=m*wd+(newCap-(0+m))*wd:=by rw[<- iG];congr 1;omega
   simp;omega
 .rename_i l i v off n w' hX;rw[hX]at hrx;split at h
  case h_2=>cases h
  rename_i cs hcs;split at h
  case isFalse=>cases h
  rename_i hcond;obtain⟨hw',hle,hroom⟩:=hcond;subst hw';obtain⟨oa,ocap,ovs,hoc,hor,ho1,holen,honil,hord⟩:=D8 hi hrx (wd:=w') (m:=n) (xs:=(cs.drop off).take (n*w')) (by simp[elems,hcs,hle]) (λs hh=>by cases hh);generalize hcv:(Act.mk tmps df).eval x=cv at hrx hoc;cases hrx with
  |sl _ _ _ _ _ _ sa scap L k1 k2 k3 k4 k5 k6 k7 =>
   simp only[Value.slice.injEq,true_and]at hoc;obtain⟨hoc1,hoc2⟩:=hoc;subst hoc1 hoc2;unfold cells? at hcs;split at hcs
   case h_2=>cases hcs
   rename_i v' cs' hblk;split at hcs
   case isFalse=>cases hcs
   rename_i hv;subst hv;cases hcs;obtain⟨xs',J1,g1,i1,e1,r1,hlen',hblk1,rfl,rfl⟩:∃xs' J1 g1,Inv CR base g1 J1 w/\Ev g w g1 w/\bA g1 xs' vs/\xs'.length=xs.length/\dn J1 l i=some (.cells v' cs) /\
     J'=aR J1 l i (.cells (v'+1) ((cs.drop off).take (n*w')++xs'))/\d=.sl l i (v'+1) 0 (n+m) w':=by
    split at h
    .cases h;exact⟨xs,J,g,hi,Ev.refl g w,hr,rfl,hblk,rfl,rfl⟩
    .cases h;obtain⟨g1,i1,e1,r1⟩:=zr (CR:=CR) (base:=base) (yk l deep) xs J g w _ hi hr;obtain⟨_,k8,k9⟩:=H0 l deep xs J;exact⟨_,_,g1,i1,e1,r1,k8,(k9 l i (aH _)).trans hblk,rfl,rfl⟩
   obtain⟨L1,hL1,hle1⟩:=e1.le.loc l i L k1;obtain⟨b1,hb1,hrel⟩:=i1.vQ l i L1 hL1;rw[hblk1]at hb1;cases hb1;have hlx:(Builtin.lenOf ((Act.mk tmps df).eval y)).run P w=.ok m w:=hln w;have hnew:∀w1,w1.heap=w.heap->(Builtin.firstCells w' m ((Act.mk tmps df).eval y)).run P w1=.ok vs.toArray w1:=hfc;have hxl:xs'.length=m*w':=by rw[hlen',hr.length];exact hlen
   have hold:∀w1,w1.heap=w.heap->(Builtin.firstCells w' n (.slice sa n scap)).run P w1=.ok ovs.toArray w1:=λw1 hw1=>tR honil holen hord w1 hw1
   have hrcat:bA g1 ((cs.drop off).take (n*w')++xs') (ovs++vs):=(hor.mono e1.le).append r1;have h1cat:∀x∈ovs++vs,x.oneCell'=true:=λx hx=>by
    rcases aZ.1 hx with hx | hx
    .exact ho1 x hx
    .exact h1 x hx
   have hnmw:(n+m)*w'=n*w'+m*w':=iG _ _ _;by_cases hgrow:scap<n+m
   ·
    obtain⟨newCap,rest,q1,q2,q3⟩:=run_append_grow (P:=P) (w:=w) (a:=sa) (cap:=scap) (n:=n) (old:=ovs) (new:=vs) (xv:=(Act.mk tmps df).eval y) ht hu hw hb hz hzl hbpos hbl hroom hgrow hold hlx hnew g;rw[<- hcv]at q3;have hrun:=jS ha hts o ho _ q3;have hsize:((ovs++vs++rest).toArray).size=newCap*w':=by
     have:newCap*w'=(n+m)*w'+(newCap-(n+m))*w':=by rw[<- iG];congr 1;omega
     simp;omega
    have hver:L1.le (.at w.heap.size 0 (v'+1) (newCap*w')):=by
     cases L1 with
     |dead=>exact hrel.elim
     |lp z=>exact hrel.elim
     |mp z=>exact(Loc.wO k2 hle1).elim
     |it z=>exact(Loc.wO k2 hle1).elim
     |ob z _=>exact(Loc.wO k2 hle1).elim
     |oG v2=>obtain⟨rfl,_⟩:=hrel;simp only[Loc.le];exact .inr (.inr (.inl ⟨_,_,_,_,rfl,by omega⟩))
     |«at» cT bo v2 bsz=>obtain⟨rfl,_⟩:=hrel;simp only[Loc.le];exact .inr (.inr ⟨_,_,_,_,rfl,by omega⟩)
    have hle2:g1.le (g1.cj l i (.at w.heap.size 0 (v'+1) (newCap*w'))):=G.jg λL0 e0=>by rw[hL1]at e0;cases e0;exact hver
    obtain⟨i2,e2⟩:=i1.setCells (w':=w.drew.alloc (.cells (ovs++vs++rest).toArray el)) (L:=.at w.heap.size 0 (v'+1) (newCap*w')) (v:=v'+1) (ds:=(cs.drop off).take (n*w')++xs') hL1 hblk1 hver
     ⟨rfl,(ovs++vs++rest).toArray,el,sN (w:=w.drew),hsize,by
      have:newCap*w'=(n+m)*w'+(newCap-(n+m))*w':=by rw[<- iG];congr 1;omega
      rw[hrcat.length];simp;omega,ovs++vs,hrcat.mono hle2,λj x hx=>⟨by
       rw[gL,cr,gH (aw.1 hx).1];exact hx,h1cat x (ai hx)⟩⟩
     (λb' hb' hne=>alloc_old (w:=w.drew) hb') rfl rfl rfl (by simp) (λb' hb'=>by cases hb';exact .inr ⟨aH _,by simp⟩)
    refine .val (.slice (some ⟨w.heap.size,0,none⟩) (n+m) newCap) (by simpa using hrun) (e1.trans e2) i2 ?_;refine .sl l i _ _ _ _ _ _ _ G.aE (aH _) q1 (λhh=>by cases hh) (λx hx _=>by cases hx;rfl) ?_ (λhh=>by cases hh);intro cT bo sz hL;cases hL;exact .inl ⟨rfl,by omega⟩
   ·
    have hne:n+m<=scap:=by omega
    have hrun1:∀(w1:World),(match sa with | some a=>Builtin.firstCells 0 0 (.slice none 0 0) | none=>Builtin.firstCells 0 0 (.slice none 0 0)).run P w1=.ok #[] w1:=by
     intro w1;cases sa<;>simp[Builtin.firstCells]
    cases L1 with
    |dead=>exact hrel.elim
    |lp z=>exact hrel.elim
    |mp z=>exact(Loc.wO k2 hle1).elim
    |it z=>exact(Loc.wO k2 hle1).elim
    |ob z _=>exact(Loc.wO k2 hle1).elim
    |oG v2 =>
     obtain⟨rfl,rfl⟩:=hrel;obtain rfl:=k7 (Loc.Bg k2 hle1 rfl);obtain rfl:=k4 rfl;obtain rfl:n=0:=by omega
     obtain rfl:m=0:=by omega
     have hvs:vs=[]:=by simpa using hlen
     subst hvs;have hxs':xs'=[]:=by simpa using hxl
     subst hxs';have hrun:(Builtin.append_ #[t,u] 0 #[(Act.mk tmps df).eval x,(Act.mk tmps df).eval y]).run P w=.ok (.slice none 0 0) w:=by
      have:=hnew w rfl;rw[hcv];rcases hu with hu | ⟨e2,hu⟩<;>simp[Builtin.append_,bf ht,bf hu,run_sizeOf hw,hlx,this]
     have hrun:=jS ha hts o ho _ hrun;have hver:Loc.le (.oG v') (.oG (v'+1)):=by simp only[Loc.le];exact .inr (.inr (.inr ⟨_,rfl,by omega⟩))
     obtain⟨i2,e2⟩:=i1.setCells (w':=w) (L:=.oG (v'+1)) (v:=v'+1) (ds:=(([]:List D).drop off).take (0*w')++[]) hL1 hblk1 hver ⟨rfl,by simp⟩ (λb' hb' hne=>rfl) rfl rfl rfl (aH _) (λb' hb'=>by cases hb');refine .val (.slice none 0 0) (by simpa using hrun) (e1.trans e2) i2 ?_;exact .sl l i _ _ _ _ none 0 _ G.aE (aH _) (by omega) (λ_=>rfl) (λ_ hh=>by cases hh) (λ_ _ _ hh=>by cases hh) (λ_=>rfl)
    |«at» cT bo v2 bsz =>
     obtain⟨rfl,ca,el',hheap,hcsz,hclen,cvs,hcr,hcvs⟩:=hrel;have hLeq:=Loc.back k2 hle1 rfl;have hcl:=hcr.length;have hofs:bo+off+(n*w')<=bsz:=by omega
     have hwr:∃w2 c2,(Builtin.append_ #[t,u] 0 #[(Act.mk tmps df).eval x,(Act.mk tmps df).eval y]).run P w=.ok (.slice sa (n+m) scap) w2/\w2.heap[cT]?=some (.cells c2 el' (0,0))/\c2.size=ca.size /\
       bo+off+(n+m)*w'<=bsz /\
       (∀j,c2[j]?=if bo+off+n*w'<=j/\j<bo+off+n*w'+vs.length then vs[j-(bo+off+n*w')]? else ca[j]?)/\(∀x,x≠cT->w2.heap[x]?=w.heap[x]?)/\w2.heap.size=w.heap.size /\
       w2.os=w.os/\w2.tape=w.tape/\w2.output=w.output:=by
      have hn2:=hnew w rfl;rcases k6 cT bo bsz hLeq with⟨rfl,k8⟩ | k8
      .have hcapw:(n+m)*w'<=scap*w':=ct _ hne;obtain⟨w2,c2,hrun,r2,r3,r4,r5⟩:=wT (P:=P) (b:=cT) (el:=el') vs w (bo+off+n*w') 0 ca h1 hheap (by omega);refine⟨w2,c2,?_,r2,r3,by omega,by simpa using r4,r5⟩;rw[hcv];have hadd:Addr.add ⟨cT,bo+off,none⟩ (n*w')=⟨cT,bo+off+n*w',none⟩:=add_eq _ _ _;rcases hu with hu | ⟨e2,hu⟩<;>simp[Builtin.append_,bf ht,bf hu,run_sizeOf hw,hlx,hn2,hne,hadd,hrun]
      .obtain rfl:n=0:=by omega
       obtain rfl:m=0:=by omega
       have hvs:vs=[]:=by simpa using hlen
       subst hvs;refine⟨w,ca,?_,hheap,rfl,by omega,λj=>by rw[if_neg (by simp only[bj];omega)],λ_ _=>rfl,rfl,rfl,rfl,rfl⟩;rw[hcv];subst k8;have hst:∀(aa:Addr),(storeCells aa ([]:List Value) 0).run P w=.ok () w:=λaa=>by simp[storeCells]
       cases sa with
       |none=>rcases hu with hu | ⟨e2,hu⟩<;>simp[Builtin.append_,bf ht,bf hu,run_sizeOf hw,hlx,hn2]
       |some aa=>rcases hu with hu | ⟨e2,hu⟩<;>simp[Builtin.append_,bf ht,bf hu,run_sizeOf hw,hlx,hn2,hst]
     obtain⟨w2,c2,hrun,p1,p2,p3,p4,p5,p6,p7,p8,p9⟩:=hwr;have hrun:=jS ha hts o ho _ hrun;have hver:Loc.le (.at cT bo v' bsz) (.at cT (bo+off) (v'+1) bsz):=by simp only[Loc.le];exact .inr (.inr ⟨_,_,_,_,rfl,by omega⟩)
     have hle2:g1.le (g1.cj l i (.at cT (bo+off) (v'+1) bsz)):=G.jg λL0 e0=>by rw[hL1]at e0;cases e0;exact hver
     have hcellsrel:bA g1 ((cs.drop off).take (n*w')++xs') ((cvs.drop off).take (n*w')++vs):=((hcr.drop off).take _).append r1;have hl1:((cvs.drop off).take (n*w')).length=n*w':=by simp;omega
     obtain⟨i2,e2⟩:=i1.setCells (w':=w2) (L:=.at cT (bo+off) (v'+1) bsz) (v:=v'+1) (ds:=(cs.drop off).take (n*w')++xs') hL1 hblk1 hver
      ⟨rfl,c2,el',p1,by rw[p2,hcsz],by rw[hcellsrel.length,bJ,hl1,hlen];omega,(cvs.drop off).take (n*w')++vs,hcellsrel.mono hle2,λj x hx=>by
       rw[p4];rw[List.getElem?_append]at hx;split at hx
       .rename_i hj;rw[hl1]at hj;rw[if_neg (by omega)];rw[dS,if_pos hj,gY]at hx;have:=hcvs _ x hx;rwa[show bo+(off+j)=bo+off+j from by omega]at this
       .rename_i hj;rw[hl1]at hj hx;have hlt:=(aw.1 hx).1;rw[if_pos (by omega),show bo+off+j-(bo+off+n*w')=j-n*w' from by omega];exact⟨hx,h1 x (ai hx)⟩⟩
      (λb' hb' hne=>p5 b' (λhh=>hne (by rw[hh];rfl))) p7 p8 p9 (by omega) (λb' hb' => .inl hb')
     refine .val (.slice sa (n+m) scap) (by simpa using hrun) (e1.trans e2) i2 ?_;refine .sl l i _ _ _ _ _ _ _ G.aE (aH _) ⟨hne,k3.2⟩ k4 ?_ ?_ (λhh=>by cases hh)
     .intro x hx hne0;subst hx;rcases k6 cT bo bsz hLeq with⟨k9,_⟩ | k9
      .cases k9;rfl
      .omega
     .intro blk' bo' sz' hL;cases hL;rcases k6 cT bo bsz hLeq with⟨k9,k10⟩ | k9
      .exact .inl ⟨by rw[k9];simp,by omega⟩
      .exact .inr k9
 .cases h
theorem JE{e:Env}{J:SK}{w bytes:Nat}{s x:bD}:bG e J (.app w bytes s x)=IW e J w bytes s x:=rfl
theorem QD{e:Env}{J J':SK}{d:D}{w bytes:Nat}{s x:bD}(h:IW e J w bytes s x=some (d,J')):d=.bN\/∃l i v off n w,d=.sl l i v off n w:=by
 simp only[IW,aM,af]at h;obtain⟨⟨m,xs⟩,he,h⟩:=h;dsimp only at h;split at h
 .split at h
  case isFalse=>cases h
  split at h
  .cases h;exact .inl rfl
  .simp only[af]at h;obtain⟨⟨l,i,J1⟩,hn,h⟩:=h;cases h;exact .inr ⟨_,_,_,_,_,_,rfl⟩
 .split at h
  case h_2=>cases h
  split at h
  case isFalse=>cases h
  split at h
  .cases h;exact .inr ⟨_,_,_,_,_,_,rfl⟩
  .cases h;exact .inr ⟨_,_,_,_,_,_,rfl⟩
 .cases h
theorem N0{e:Env}{J:SK}{os:List Nat}{w bytes:Nat}{s x:bD}{r:D×SK}(h:bG e J (.Oy os w bytes s x)=some r):bG e J (.app w bytes s x)=some r:=by
 rw[JE];simp only[bG]at h;split at h
 case h_2=>cases h
 split at h
 case isFalse=>cases h
 simp only[af]at h;obtain⟨_,_,h⟩:=h;split at h
 .exact h
 .cases h
theorem aaz(hf:Fr fb V g w B e tmps)(hi:Inv CR base g J w){x y:Operand}{X Y:bD}{args:Array Operand}{ts:Array TypeId}{t u el:TypeId}{wd bytes:Nat}{z:List D}(hx:bC x=some X)(hy:bC y=some Y)
  (ha:args.toList=[x,y]) (hts:ts.toList=[t,u]) (ht:P.underlying t=some (.slice el)) (hu:P.underlying u=some .string\/∃e2,P.underlying u=some (.slice e2))
  (hw:cH P el=some wd) (hb:(P.info? el).map (·.bytes)=some bytes) (hz:rA P el=some z) (hzl:z.length=wd) (hbpos:0<bytes) (hbl:bytes<=2^20)
  (h:bG e J (.SF wd bytes X Y)=some (d,J')) (o:Oper) (ho:o.op=.call {callee:=.builtin .append,args,argTypes:=ts }):ep P CR base g w B e (Act.mk tmps df).eval o d J':=by
 simp only[bG,ab,Prod.exists]at h;obtain⟨d1,J1,h1,h2⟩:=h;have hv:=QD h1;rw[<- JE]at h1;obtain⟨v,c,g',w',k1,k2,k3,k4,k5⟩:=Sd (df:=df) hf hi hx hy ha hts ht hu hw hb hz hzl hbpos hbl h1 o ho;have k6:bB g' d1 c:=by
  rcases hv with rfl | ⟨l,i,v,off,n,w,rfl⟩
  .exact k5
  .exact k5
 obtain⟨g2,i2,e2,r2⟩:=yk (CR:=CR) (base:=base) 0 deep d1 J1 g' w' c k4 k6;rw[h2]at i2 r2;exact⟨v,c,g2,w',k1,k2,k3.trans e2,i2,ch.of r2⟩
end ops
end Go.az
