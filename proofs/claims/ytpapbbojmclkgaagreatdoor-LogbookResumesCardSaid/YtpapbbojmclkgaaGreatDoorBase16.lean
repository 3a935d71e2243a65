import Derived.Test.YtpapbbojmclkgaaGreatDoorBase15
import Derived.Shelf.Strings.BuilderK
set_option linter.all false
namespace Go.aw
open Go
open Go.RowKit Go.Shelf Go.Proofs
theorem abF{P:Program}(w:World)(t u ty e:TypeId)(i:TypeInfo)(ht:P.underlying t=some (.slice e))(hu:P.underlying u=some .string)(hi:P.info? e=some i)(hz:i.zero=some (.int .u8 0))
  (hsize:i.size=1) (hby:i.bytes=1) (v:Value) (n:Nat) (xs:List Value) (hown:w.ownsRowF 0 e 1 v n xs) (s:ByteArray) (hb:n+s.size<=140737488355328):
  ∃v' w',(Builtin.append_ #[t,u] ty #[v,.string s]).run P w=.ok v' w'/\w'.ownsRowF 0 e 1 v' (n+s.size) (xs++Lib.strCells s)/\w.grownBy w' v.ownBlock /\
   (∀k,v'.ownBlock=some k->v.ownBlock=some k\/(w.heap.size<=k/\k<w'.heap.size)):=by
 have h63:n+s.size<=maxLen:=by unfold maxLen;omega
 rcases hown.2 with⟨rfl,rfl⟩ | ⟨g,cap,cur,fz,rfl,_,hg,hfz,hnc,hcm,hcs,htake⟩
 .obtain⟨v',w',h1,h2,h3,_⟩:=Lib.run_append_own_string (P:=P) w w.heap.size t u ty e i ht hu hi hz hsize hby (.slice none 0 0) 0 xs ⟨hown.1,.inl ⟨rfl,rfl⟩⟩ s h63 hb (aO _);have h4:=World.ownsRowF_of h2;refine⟨v',w',h1,⟨h4.1,h4.2.imp id λ⟨q,c,cu,f,k1,k2,k3⟩=>⟨q,c,cu,f,k1,Nat.zero_le _,k3⟩⟩,h3,λk hk => .inr (h4.lt k hk)⟩
 .have hxl:xs.length=n:=by simpa using hown.1
  have hlen:(xs++Lib.strCells s).length=(n+s.size)*1:=by rw[aP,hxl,Lib.strCells_length,bR]
  by_cases hroom:n+s.size<=cap
  .have hcs':cur.size=cap:=by simpa using hcs
   have hr:=Lib.run_append_room_stringF (P:=P) w t u ty e i ht hu hi hsize g n cap cur fz hg (by simpa using hfz) s hroom (by omega);refine⟨_,_,hr,⟨hlen,.inr ⟨g,cap,_,fz,rfl,Nat.zero_le _,setRow_heap w g cur _ e _ hg,by omega,hroom,hcm,?_,?_⟩⟩,⟨rfl,rfl,rfl,by simp,λk _ hk=>setRow_other w g k _ (λe=>hk (by simp[Value.ownBlock,e]))⟩,λk hk => .inl hk⟩
   .simp only[List.size_toArray,aP,dp,List.length_drop,Array.length_toList,Lib.strCells_length];omega
   .have ht':cur.toList.take n=xs:=by simpa using htake
    rw[ht',<- hlen];exact List.take_left
  .have hr:=Lib.run_append_grow_string (P:=P) w t u ty e i (.int .u8 0) ht hu hi hz ⟨g,0,none⟩ n cap xs (by rw[hsize];simpa using hxl) (hown.cells (g:=g) rfl) s (by omega) (by omega) (by rw[hby];exact growslice_fits (by omega) (by omega));have hge:=grownCap_ge w (n+s.size) cap e;have hcm2:=grownCap_le_maxLen w (n+s.size) cap e h63;refine⟨_,_,hr,⟨hlen,.inr ⟨w.heap.size,_,_,(0,0),rfl,Nat.zero_le _,heap_alloc_new w.drew _,Nat.zero_le _,hge,hcm2,?_,?_⟩⟩,⟨rfl,rfl,rfl,by simp,λk hk _=>alloc_old (w:=w.drew) hk⟩,λk hk => .inr ?_⟩
   .have hz1:(Value.int IntKind.u8 0).cells.size=1:=rfl;simp only[Array.size_append,List.size_toArray,size_zeroCells,hz1,hxl,Lib.strCells_length];omega
   .simp only[Array.toList_append,bX];rw[<- bX,<- hlen];exact List.take_left
   .simp only[Value.ownBlock,ae]at hk;subst hk;exact⟨aO _,by simp⟩
theorem TF{P:Program}{w:World}{ops:Array Oper}{rest:List Oper}{o:Oper}{a:Act}{Q:Go.Exit->Act->World->Prop}(hgd:o.guard=none)(sl x:Operand)(t u:TypeId)
  (ho:o.op=.call {callee:=.builtin .append,args := #[sl,x],argTypes := #[t,u] }) (e:TypeId) (i:TypeInfo) (ht:P.underlying t=some (.slice e)) (hu:P.underlying u=some .string) (hi:P.info? e=some i) (hz:i.zero=some (.int .u8 0))
  (hsize:i.size=1) (hby:i.bytes=1) (v:Value) (n:Nat) (xs:List Value) (hs:a.eval sl=v) (hown:w.ownsRowF 0 e 1 v n xs) (s:ByteArray) (hx:a.eval x=.string s) (hb:n+s.size<=140737488355328)
  (h:∀v' w',w'.ownsRowF 0 e 1 v' (n+s.size) (xs++Lib.strCells s)->w.grownBy w' v.ownBlock->(∀k,v'.ownBlock=some k->v.ownBlock=some k\/(w.heap.size<=k/\k<w'.heap.size))->wpList P ops Q rest (a.put o.dst v') w'):wpList P ops Q (o::rest) a w:=by
 refine wpList_plain hgd λK hK=>?_
 obtain⟨v',w',hr,h2,h3,h4⟩:=abF (P:=P) w t u o.type e i ht hu hi hz hsize hby v n xs hown s hb;unfold Oper.wp execOp;simp only[ho,resolve,invoke,builtin,Sem.run_bind,Sem.run_pure,Result.andThen_ok,List.map_toArray,aL,cc,hs,hx,hr];exact hK _ _ (h v' w' h2 h3 h4)
structure FP(T e:TypeId)(b:Nat)(v:Value)(bs:List UInt8)(w:World):Prop where
 dR:∃p,w.heap[b]?=some (.cells #[p,v] T (0,0))/\(p=.pointer none\/p=.pointer (some ⟨b,0,none⟩))
 own:w.ownsRowF 0 e 1 v bs.length (bs.map λx => .int .u8 x.toNat)
 ne:v.ownBlock≠some b
structure Vj(w w':World)(b:Nat)(c:Option Nat):Prop where
 os:w'.os=w.os
 tape:w'.tape=w.tape
 output:w'.output=w.output
 size:w.heap.size<=w'.heap.size
 dR:∀k,k<w.heap.size->k≠b->c≠some k->w'.heap[k]?=w.heap[k]?
section
variable {P:Program} {ρ:Ren}
set_option maxHeartbeats 2000000 in
set_option maxRecDepth 100000 in
theorem al0(L:Lays.n166 P ρ)(X:Builder.Extra P ρ)(b:Nat)(v:Value)(bs:List UInt8)(s:ByteArray)(w:World)(h:FP (ρ.t 72) (ρ.t 5) b v bs w)(hlen:bs.length+s.size<=140737488355328):
  Calls P (ρ.f 166) #[.pointer (some ⟨b,0,none⟩),.string s] w λe w'=>e=.returned (.tuple #[.int .i64 s.size,.nilIface]) /\
   ∃v',FP (ρ.t 72) (ρ.t 5) b v' (bs++s.data.toList) w'/\Vj w w' b v.ownBlock/\(∀k,v'.ownBlock=some k->v.ownBlock=some k\/(w.heap.size<=k/\k<w'.heap.size)):=by
 obtain⟨i0,hi,hz0,hz1,hz2⟩:=info_parts X.infoByte;obtain⟨⟨p,hbk,hp⟩,hown,hne⟩:=h;have hcc:Calls P (ρ.f 240) #[.pointer (some ⟨b,0,none⟩)] w λe w'=>e=.returned (.tuple #[])/\w'.heap[b]?=some (.cells #[.pointer (some ⟨b,0,none⟩),v] (ρ.t 72) (0,0)) /\
   w'.ownsRowF 0 (ρ.t 5) 1 v bs.length (bs.map λx => .int .u8 x.toNat)/\Vj w w' b none/\w'.heap.size=w.heap.size:=by
  rcases hp with rfl | rfl
  .refine(Any.Builder_copyCheck_fresh {L with } X.toX72 b w (by simp[World.cell?,hbk]) (by simp[World.shape?,hbk]) (by simp[World.frozen?,hbk])).mono ?_;rintro e w' ⟨rfl,rfl⟩;refine⟨rfl,by simp[World.setCell,eI,hbk],?_,⟨rfl,rfl,rfl,by simp[World.setCell],λk _ hk _=>Below.heap_setCell _ _ _ _ (λe=>hk e)⟩,by simp[World.setCell]⟩;exact hown.kept (row:=some b) ⟨rfl,rfl,rfl,by simp[World.setCell],λk _ hk=>Below.heap_setCell _ _ _ _ (λe=>hk (by simp[e]))⟩ (.inr hne)
  .refine(Any.Builder_copyCheck_used {L with } X.toX72 b w (by simp[World.cell?,hbk])).mono ?_;rintro e w' ⟨rfl,rfl⟩;exact⟨rfl,hbk,hown,⟨rfl,rfl,rfl,aO _,λ_ _ _ _=>rfl⟩,rfl⟩
 have mixed:=L.mixed;have t72:=L.t72;have a72:=L.a72;have z72:=L.z72;have v72:=L.v72;have u72:=run_underlying L.t72;have t70:=L.t70;have a70:=L.a70;have z70:=L.z70;have v70:=L.v70;have u70:=run_underlying L.t70;have t37:=L.t37;have a37:=L.a37;have z37:=L.z37;have v37:=L.v37;have u37:=run_underlying L.t37;have t3:=L.t3;have a3:=L.a3;have z3:=L.z3;have v3:=L.v3;have u3:=run_underlying L.t3;have t9:=L.t9;have a9:=L.a9;have z9:=L.z9;have v9:=L.v9;have u9:=run_underlying L.t9;have t4:=L.t4;have a4:=L.a4;have z4:=L.z4;have v4:=L.v4;have u4:=run_underlying L.t4;have t164:=L.t164;have a164:=L.a164;have z164:=L.z164;have v164:=L.v164;have u164:=run_underlying L.t164;have t5:=X.t5;have a5:=X.a5;have z5:=X.z5;have v5:=X.v5;have u5:=run_underlying X.t5;have e240:∀args w,(callFunc (ρ.f 240) args).run P w=.ok (.enter (ρ.f 240) args) w:=enters_of L.f240 (by kernel_rfl) rfl
 go_enter L.f166,Body.n166_ntmps ρ
 go_wp2_with (go_at_fn (ρ.f 240);refine hcc.mono ?_)
 rintro e w1 ⟨rfl,hb1,hown1,hk1,hs1⟩;have c0:w1.cell? ⟨b,0,none⟩=some (.pointer (some ⟨b,0,none⟩)):=by rw[Lib.cell_of_heap hb1];rfl
 have c1:w1.cell? ⟨b,1,none⟩=some v:=by rw[Lib.cell_of_heap hb1];rfl
 go_wp2_with (at_builtin;refine TF rfl _ _ (ρ.t 37) (ρ.t 9) rfl (ρ.t 5) i0 L.t37 L.t9 hi hz0 hz1 hz2 _ _ _ rfl hown1 s rfl ?c4 ?_)
 case c4=>omega
 intro v' w2 hown2 hgrow hfr;have hlt:b<w1.heap.size:=(du.1 hb1).1;have hb2:w2.heap[b]?=some (.cells #[.pointer (some ⟨b,0,none⟩),v] (ρ.t 72) (0,0)):=by
  rw[hgrow.block b hlt (λe=>hne e.symm)];exact hb1
 have d0:w2.cell? ⟨b,0,none⟩=some (.pointer (some ⟨b,0,none⟩)):=by rw[Lib.cell_of_heap hb2];rfl
 have d1:w2.cell? ⟨b,1,none⟩=some v:=by rw[Lib.cell_of_heap hb2];rfl
 have f1:w2.frozen? ⟨b,1,none⟩=false:=Lib.frozen_of_heap hb2 1;obtain⟨ao,n',cap,rfl⟩:∃ao n' cap,v'=.slice ao n' cap:=by
  rcases hown2.2 with⟨hv,_⟩ | ⟨g,cap,cur,fz,hv,_⟩
  .exact⟨_,_,_,hv⟩
  .exact⟨_,_,_,hv⟩
 go_wp2
 go_ret2
 refine⟨rfl,.slice ao n' cap,⟨⟨.pointer (some ⟨b,0,none⟩),?_,.inr rfl⟩,?_,?_⟩,⟨?_,?_,?_,?_,λk hk h1 h2=>?_⟩,?_⟩
 .simp[World.setCell,eI,hb2]
 .have hne2:=Lib.ownBlock_neF hown2 hb2 X.neB5;have:=hown2.kept (w':=w2.setCell ⟨b,1,none⟩ (.slice ao n' cap)) (row:=some b) ⟨rfl,rfl,rfl,by simp[World.setCell],λk _ hk=>Below.heap_setCell _ _ _ _ (λe=>hk (by simp[e]))⟩ (.inr hne2);simpa[Lib.strCells]using this
 .exact Lib.ownBlock_neF hown2 hb2 X.neB5
 .exact hgrow.os.trans hk1.os
 .exact hgrow.tape.trans hk1.tape
 .exact hgrow.output.trans hk1.output
 .have:=hgrow.size;have:=hk1.size;simp[World.setCell];omega
 .rw[Below.heap_setCell _ _ _ _ (λe=>h1 e),hgrow.block k (by omega) (λe=>h2 e.symm),hk1.dR k hk h1 (by simp)]
 .intro k hk;rcases hfr k hk with h | h
  .exact .inl h
  .right;simpa[World.setCell]using h
set_option maxHeartbeats 1000000 in
set_option maxRecDepth 100000 in
theorem alC(L:Lays.n169 P ρ)(X:Builder.Extra P ρ)(b:Nat)(v:Value)(bs:List UInt8)(w:World)(h:FP (ρ.t 72) (ρ.t 5) b v bs w)(h0:bs≠[]):
  Calls P (ρ.f 169) #[.pointer (some ⟨b,0,none⟩)] w λe w'=>e=.returned (.string ⟨bs.toArray⟩)/\FP (ρ.t 72) (ρ.t 5) b v bs w'/\Vj w w' b v.ownBlock:=by
 obtain⟨⟨p,hbk,hp⟩,hown,hne⟩:=h;have hl0:bs.length≠0:=by simpa using h0
 obtain⟨g,cap,cur,fz,rfl,hbg,hg,hfz,hnc,hcm,hcs,htake⟩:∃g cap cur fz,v=.slice (some ⟨g,0,none⟩) bs.length cap/\0<=g/\w.heap[g]?=some (.cells cur (ρ.t 5) fz)/\fz.2<=bs.length*1/\bs.length<=cap/\cap<=maxLen/\cur.size=cap*1/\cur.toList.take (bs.length*1)=Lib.byteCells bs:=by
  rcases hown.2 with⟨_,hz⟩ | h
  .exact absurd hz hl0
  .exact h
 have c1:w.drew.cell? ⟨b,1,none⟩=some (.slice (some ⟨g,0,none⟩) bs.length cap):=by
  have:w.drew.heap[b]?=_:=hbk;rw[Lib.cell_of_heap this];rfl
 have hSD:(Builtin.unsafeSliceData_ #[(ρ.t 37)] (ρ.t 127) #[.slice (some ⟨g,0,none⟩) bs.length cap]).run P w.drew=.ok (.pointer (some ⟨g,0,none⟩)) w.drew :=
  Lib.run_unsafeSliceData_row _ _ _ _ _ _ (by omega)
 have hUS:(Builtin.unsafeString_ #[(ρ.t 127),(ρ.t 3)] (ρ.t 9) #[.pointer (some ⟨g,0,none⟩),.int .i64 bs.length]).run P w.drew=.ok (.string ⟨bs.toArray⟩) (w.drew.freeze ⟨g,0,none⟩ bs.length):=by
  refine Lib.run_unsafeString_row w.drew (ρ.t 127) (ρ.t 3) (ρ.t 9) (ρ.t 5) L.t127 X.cellsByte g cur.size (by have hg':w.drew.heap[g]?=some (.cells cur (ρ.t 5) fz):=hg;simp[World.shape?,hg']) bs h0 (by omega) (by unfold maxLen at hcm;omega) ?_;intro j x hx;exact hown.cells (g:=g) rfl j (.int .u8 x.toNat) (by simp[hx])
 have hA:Lib.BuilderAtF (ρ.t 72) (ρ.t 5) 0 b p (Lib.byteCells bs) w.drew:=⟨Nat.zero_le _,_,hbk,by rw[Lib.byteCells_length];exact hown,hne⟩;have hF:=hA.froze (g:=g) (cap:=cap) (by rw[Lib.byteCells_length];exact c1);rw[Lib.byteCells_length]at hF;obtain⟨_,v2,hb2,hown2,_⟩:=hF;have hgb:g≠b:=λe=>hne (by rw[e];rfl)
 have hfr:∀k,k≠g->(w.drew.freeze ⟨g,0,none⟩ bs.length).heap[k]?=w.heap[k]?:=λk hk=>by
  unfold World.freeze;split
  .rfl
  .simp only[eI];rw[if_neg (λe=>hk e.symm)];rfl
 have hv2:v2=.slice (some ⟨g,0,none⟩) bs.length cap:=by
  have:=hfr b (λe=>hgb e.symm);rw[hb2,hbk]at this;simpa using this
 subst hv2;have hfin:FP (ρ.t 72) (ρ.t 5) b (.slice (some ⟨g,0,none⟩) bs.length cap) bs (w.drew.freeze ⟨g,0,none⟩ bs.length):=⟨⟨p,hb2,hp⟩,by rw[Lib.byteCells_length]at hown2;exact hown2,hne⟩;have hbare:Vj w (w.drew.freeze ⟨g,0,none⟩ bs.length) b (some g):=by
  refine⟨?_,?_,?_,?_,λk _ _ h2=>hfr k (λe=>h2 (by rw[e]))⟩<;>unfold World.freeze<;>split<;>first | rfl | exact aO _ | simp
 have mixed:=L.mixed;have t72:=L.t72;have a72:=L.a72;have z72:=L.z72;have v72:=L.v72;have u72:=run_underlying L.t72;have t70:=L.t70;have a70:=L.a70;have z70:=L.z70;have v70:=L.v70;have u70:=run_underlying L.t70;have t37:=L.t37;have a37:=L.a37;have z37:=L.z37;have v37:=L.v37;have u37:=run_underlying L.t37;have t127:=L.t127;have a127:=L.a127;have z127:=L.z127;have v127:=L.v127;have u127:=run_underlying L.t127;have t3:=L.t3;have a3:=L.a3;have z3:=L.z3;have v3:=L.v3;have u3:=run_underlying L.t3;have t9:=L.t9;have a9:=L.a9;have z9:=L.z9;have v9:=L.v9;have u9:=run_underlying L.t9;have t5:=X.t5;have a5:=X.a5;have z5:=X.z5;have v5:=X.v5;have u5:=run_underlying X.t5
 go_enter L.f169,Body.n169_ntmps ρ
 go_wp2
 go_region_o
 all_goals (go_wp2;go_ret;exact⟨rfl,hfin,hbare⟩)
end
section
variable {P:Program} {CR:fw} {f:Nat} {J:SK}
theorem JU:∀{J:SK} {l:Nat} {s:List aF},eK J l=some s->gL J l s=J
 |[],_,_,h=>by cases h
 |s0::J,l,s,h=>by
  simp only[eK]at h;simp only[gL];split
  .rename_i e;rw[if_pos e]at h;cases h;rfl
  .rename_i e;rw[if_neg e]at h;rw[JU h]
theorem RF{J:SK}{l i:Nat}{b:aF}(h:ef J l i=some b):bw J l i b=J:=by
 unfold ef at h;unfold bw;cases hs:eK J l with
 |none=>rfl
 |some s =>
  rw[hs]at h;have h:s[i]?=some b:=h;dsimp only;have:s.set i b=s:=by
   obtain⟨h1,h2⟩:=aA.1 h;rw[<- h2,List.set_getElem_self]
  rw[this,JU hs]
theorem U2{g:G}{w:World}{base l i T e:Nat}{bs:List UInt8}{x:Value}(hi:Inv CR base g J w)(hc:cells? J l i 2=some [.int .i64 T,.int .i64 e,.str bs])(hx:bW g (.jg l i) x):
  ∃b v,x=.pointer (some ⟨b,0,none⟩)/\g.loc l i=some (.ob b v.ownBlock)/\FP T e b v bs w:=by
 have hblk:ef J l i=some (.cells 2 [.int .i64 T,.int .i64 e,.str bs]):=by
  unfold cells? at hc;split at hc
  .rename_i h;split at hc
   .rename_i hv;subst hv;cases hc;exact h
   .cases hc
  .cases hc
 have key:∀L,g.loc l i=some L->J0 CR g w (.cells 2 [.int .i64 T,.int .i64 e,.str bs]) L:=λL hL=>by
  obtain⟨b1,h1,h2⟩:=hi.yr l i L hL;rw[hblk]at h1;cases h1;exact h2
 cases hx with
 |jg _ _ b hL=>exact(key _ hL).elim
 |UM _ _ b hL=>have h:=(key _ hL).1;cases h
 |Za _ _ b L hL hd =>
  rcases hd with rfl | rfl
  .have h:=(key _ hL).1;cases h
  .exact(key _ hL).elim
 |VR _ _ b L hL hd =>
  rcases hd with⟨c,rfl⟩ | rfl
  .obtain⟨_,T',e',bs',p,s,h1,h2,h3,h4,h5,h6⟩:=key _ hL;simp only[fN,D.int.injEq,D.str.injEq,and_true,true_and]at h1;obtain⟨hT,he,rfl⟩:=h1;have⟨hT,he⟩:T=T'/\e=e':=by omega
   subst hT he;subst h5;exact⟨b,s,rfl,hL,⟨p,h2,h3⟩,h4,h6⟩
  .exact(key _ hL).elim
theorem ajX{T e:Nat}(hT:T<65536)(h0:∃F c,P.funcs[f]?=some F/\F.name ≠ "runtime.NumGoroutine" /\ F.body=some c)
  (h:∀(b:Nat) (v:Value) (bs:List UInt8) (s:ByteArray) (w:World),FP T e b v bs w->bs.length+s.size<=140737488355328 ->
   Calls P f #[.pointer (some ⟨b,0,none⟩),.string s] w λr w'=>r=.returned (.tuple #[.int .i64 s.size,.nilIface]) /\
    ∃v',FP T e b v' (bs++s.data.toList) w'/\Vj w w' b v.ownBlock/\(∀k,v'.ownBlock=some k->v.ownBlock=some k\/(w.heap.size<=k/\k<w'.heap.size))):yn P CR (7+16*(T+65536*e)) f:=by
 intro args J r hr;have⟨e1,e2,e3⟩:(7+16*(T+65536*e))%16=7/\(7+16*(T+65536*e)) / 16%65536=T/\(7+16*(T+65536*e)) / 16 / 65536=e:=by omega
 simp only[EU,e1,e2,e3]at hr;split at hr<;>try cases hr
 all_goals try omega
 rename_i l i s _;split at hr
 case h_2=>cases hr
 rename_i t ee bs hc;simp only[aI,ae]at hr;obtain⟨⟨rfl,rfl,hb⟩,rfl⟩:=hr;refine⟨_,_,rfl,h0,λbase g w vs hi hl hp hr=>?_⟩;obtain⟨x,y,rfl,hx,hy⟩:=O0 hr;obtain⟨s,rfl,rfl⟩:=Fy hy;obtain⟨b,v,rfl,hL,hB⟩:=U2 hi hc hx;have hblk:∃b0,ef J l i=some b0:=let ⟨b0,h1,_⟩:=hi.yr l i _ hL;⟨b0,h1⟩
 obtain⟨b0,hb0⟩:=hblk;refine⟨⟨dS,λh=>h.set λ_=>(by simp[aF.low,D.ll,D.low])⟩,(h b v bs s w hB (by simp at hb;omega)).mono ?_⟩;rintro r w' ⟨rfl,v',hB',hk,hfr⟩;obtain⟨⟨p,k1,k2⟩,k3,k4⟩:=hB';have hlen:(bs++s.data.toList).length=(bs++s.data.toList).length:=rfl;obtain⟨i2,e2⟩:=hi.setCells (w':=w') (L:=.ob b v'.ownBlock) (v:=2) (ds:=[.int .i64 T,.int .i64 e,.str (bs++s.data.toList)]) hL hb0 (.inl ⟨_,rfl⟩)
  ⟨rfl,T,e,_,p,v',rfl,k1,k2,k3,rfl,k4⟩ (λk hk1 hk2=>hk.dR k hk1 (λe=>hk2 (.inl e.symm)) (λe=>hk2 (.inr e))) hk.os hk.tape hk.output hk.size (λk hk1=>by
   rcases hk1 with rfl | hk1
   .exact .inl (.inl rfl)
   .rcases hfr k hk1 with h | h
    .exact .inl (.inr h)
    .exact .inr h)
 refine⟨_,_,rfl,e2,i2,?_⟩;refine .cS _ _ (.cons _ _ _ _ ?_ (.cons _ _ _ _ .mQ .nil));have:(s.data.toList.length:Int)=s.size:=by simp
 rw[this];exact .int _ _
theorem aij{T e:Nat}(hT:T<65536)(h0:∃F c,P.funcs[f]?=some F/\F.name ≠ "runtime.NumGoroutine" /\ F.body=some c)
  (h:∀(b:Nat) (v:Value) (bs:List UInt8) (w:World),FP T e b v bs w->bs≠[] ->
   Calls P f #[.pointer (some ⟨b,0,none⟩)] w λr w'=>r=.returned (.string ⟨bs.toArray⟩)/\FP T e b v bs w'/\Vj w w' b v.ownBlock):yn P CR (8+16*(T+65536*e)) f:=by
 intro args J r hr;have⟨e1,e2,e3⟩:(8+16*(T+65536*e))%16=8/\(8+16*(T+65536*e)) / 16%65536=T/\(8+16*(T+65536*e)) / 16 / 65536=e:=by omega
 simp only[EU,e1,e2,e3]at hr;split at hr<;>try cases hr
 all_goals try omega
 rename_i l i _;split at hr
 case h_2=>cases hr
 rename_i t ee bs hc;simp only[aI,ae]at hr;obtain⟨⟨rfl,rfl,hb⟩,rfl⟩:=hr;refine⟨_,_,rfl,h0,λbase g w vs hi hl hp hr=>⟨⟨rfl,λh=>h⟩,?_⟩⟩;obtain⟨x,rfl,hx⟩:=OZ hr;obtain⟨b,v,rfl,hL,hB⟩:=U2 hi hc hx;refine(h b v bs w hB hb).mono ?_;rintro r w' ⟨rfl,hB',hk⟩;obtain⟨⟨p,k1,k2⟩,k3,k4⟩:=hB';have hblk:ef J l i=some (.cells 2 [.int .i64 T,.int .i64 e,.str bs]):=by
  unfold cells? at hc;split at hc
  .rename_i h;split at hc
   .rename_i hv;subst hv;cases hc;exact h
   .cases hc
  .cases hc
 obtain⟨i2,e2⟩:=hi.setCells (w':=w') (L:=.ob b v.ownBlock) (v:=2) (ds:=[.int .i64 T,.int .i64 e,.str bs]) hL hblk (.inl ⟨_,rfl⟩)
  ⟨rfl,T,e,_,p,v,rfl,k1,k2,k3,rfl,k4⟩ (λk hk1 hk2=>hk.dR k hk1 (λe=>hk2 (.inl e.symm)) (λe=>hk2 (.inr e))) hk.os hk.tape hk.output hk.size (λk hk1 => .inl hk1)
 rw[RF hblk]at i2;exact⟨_,_,rfl,e2,i2,.str ⟨bs.toArray⟩⟩
