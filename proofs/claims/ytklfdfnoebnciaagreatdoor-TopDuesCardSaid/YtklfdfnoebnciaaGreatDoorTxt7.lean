import Derived.Test.YtklfdfnoebnciaaGreatDoorTxt6
import Derived.WalkKit
import Derived.ProofKit
import Derived.ShutString
import Derived.ChangeOld
import Derived.LaidMore
import Derived.Deep.DeepHandedRow
import Derived.MakeChecks
import Derived.SizedLaws
set_option linter.all false
namespace Go.Proofs.YtklfdfnoebnciaaGreatDoor.topDuesDone
open Go Go.az Go.ChangeShapes Go.WideShapes Go.ChangeAt Go.RowKit
theorem own:ownKnob Tryz.prog.godebug=none:=by kernel_rfl
theorem laidOut:laidOutB Tryz.prog=true:=by kernel_rfl
theorem ty0:Li Tryz.prog 20 22=some (.slice 1 .str):=by kernel_rfl
theorem ty1:Li Tryz.prog 20 25=some (.struct [(.int .i64),(.slice 2 (.struct [(.int .i64),(.int .i64)]))]):=by kernel_rfl
theorem ty2:Li Tryz.prog 20 26=some (.int .u16):=by kernel_rfl
theorem ty3:Li Tryz.prog 20 9=some .str:=by kernel_rfl
abbrev laid:=Rows.topDuesRow.laid
def i8(l:List Nat):Array Value:=(l.map λn:Nat=>Value.int .u8 n).toArray
def Mg:DataW Unit->List Nat
 |.agg l=>l.flatMap λ| .lit (.int .u8 n)=>[n.toNat] | .agg [.lit (.int .u8 n),.lit (.int .u8 m)]=>[n.toNat,m.toNat] | _=>[]
 |_=>[]
def ZI:DataW Unit->Value
 |.iface _ (.ptr (.agg [.lit (.string s)])) => .string ⟨s.toArray⟩
 |_ => .nilIface
noncomputable def hp:Array Obj :=
 ((((((((begin Tryz.prog (λ_ _=>0) default).world.heap.setIfInBounds 5 (.cells (Lib.pow10Tab.map (Value.int .u64)).toArray 323)).setIfInBounds 6 (.cells (i8 (Mg Rows.laid_math_bits_deBruijn32tab)) 342)).setIfInBounds 7 (.cells (i8 (Mg Rows.laid_math_bits_deBruijn64tab)) 343)).setIfInBounds 1 (.cells #[.iface 319 (.pointer (some ⟨13,0,none⟩))] 107)).setIfInBounds 2 (.cells #[.iface 319 (.pointer (some ⟨14,0,none⟩))] 107)).setIfInBounds 3 (.cells (i8 Go.Pinned.utf8FirstZ) 291)).setIfInBounds 4 (.cells (i8 (Mg Rows.laid_unicode_utf8_acceptRanges)) 294)).push (.cells #[ZI Rows.laid_strconv_ErrSyntax] 321)
noncomputable def w0(os:Os):World:={World.holding Tryz.prog os ⟨#[],#[],[]⟩with heap:=hp.push (.cells #[ZI Rows.laid_strconv_ErrRange] 321) }
theorem acS(os:Os)(args:Array Value):(DataW.laidRun Tryz.prog ((w0 os).forCall (λ_ _=>0) ⟨#[],args,[]⟩).memory 8 ((laid.filter λx=>x.2.handleName?.isNone).map (·.1))).map (·.1)=some (laid.filter λx=>x.2.handleName?.isNone):=by kernel_rfl
theorem QR(os:Os)(args:Array Value):laidMetH Tryz.prog laid ((w0 os).forCall (λ_ _=>0) ⟨#[],args,[]⟩).memory :=
 laidMetH_of_parts3 (fuel:=8) (laidMet_of_run' 8 (acS os args) (by as_aux_lemma=>kernel_rfl)) (by as_aux_lemma=>kernel_rfl) (by as_aux_lemma=>kernel_rfl)
theorem Jb{W:World}(hL:laidMetH Tryz.prog laid W)(hS:W.ShapedOpen Tryz.prog):∀b Q,V9 Tryz.prog b Q->∃c t v,W.heap[b]?=some (.cells c t (0,0))/\c[0]?=some v/\v.oneCell'=true/\Q (.cells c t (0,0)):=by
 rw[MakeChecks.laidMetH_plain _ _ _ (by kernel_rfl)]at hL;rintro b Q (⟨hn,rfl⟩ | ⟨hn,rfl⟩ | ⟨hn,rfl⟩ | ⟨hn,rfl⟩)
 .obtain rfl:=Option.some.inj ((show Tryz.prog.globalNamed "strconv.ErrSyntax" = some 1 from by kernel_rfl).symm.trans hn);exact Nq (t:=107) hL (.tail _ (.tail _ (.tail _ (.tail _ (.tail _ (.head _)))))) hn (by kernel_rfl) Tryz.underlying107
 .obtain rfl:=Option.some.inj ((show Tryz.prog.globalNamed "strconv.ErrRange" = some 2 from by kernel_rfl).symm.trans hn);exact Nq (t:=107) hL (.tail _ (.tail _ (.tail _ (.tail _ (.head _))))) hn (by kernel_rfl) Tryz.underlying107
 .obtain rfl:=Option.some.inj ((show Tryz.prog.globalNamed "internal/strconv.uint64pow10" = some 5 from by kernel_rfl).symm.trans hn);exact TP (t:=323) (e:=279) (k:=20) hL (.tail _ (.tail _ (.head _))) hn (by kernel_rfl) Tryz.underlying323 Tryz.underlying279 (by kernel_rfl) (by kernel_rfl)
 .obtain rfl:=Option.some.inj ((show Tryz.prog.globalNamed "internal/bytealg.MaxLen" = some 0 from by kernel_rfl).symm.trans hn);exact TO (t:=3) (zero := #[.int .i64 0]) hS (by decide) (by kernel_rfl) rfl (by kernel_rfl) (by kernel_rfl) Tryz.underlying3
set_option maxRecDepth 100000 in
theorem lifted(os:Os)(started:os.Started)(H:Type)(enc:TypeId×Value->H)(F:Stop.Interp):
  ReturnsInHanded {} Tryz.checked os 3 .any ((OpenSpec.ofChange Rows.topDuesSpec).preRow enc Tryz.prog Tryz.f3 Rows.topDuesRow.domain false laid) (((OpenSpec.ofChange Rows.topDuesSpec).at F).post enc Tryz.prog Tryz.f3 false true false false):=by
 refine returnsInHanded_of_row (C:=Tryz.checked) own started (by kernel_rfl) Tryz.func3 ?_ ?_
 .obtain⟨w,tape,i,h1,h2,h3,h4,⟨⟨h5,h6⟩,h7⟩,h8⟩:=ChangeSpec.witness_shaped (enc:=enc) (C:=Tryz.checked) (os:=os) (f:=3) (fn:=Tryz.f3) (s:=Rows.topDuesSpec) (conds:=Rows.topDuesRow.domain) (apart:=false) (X:=λw _=>laidMetH Tryz.prog laid w) false (w0 os) #[.slice none 0 0,.agg #[.int .i64 0,.slice none 0 0],.int .u16 0,.string ⟨#[]⟩] 8 rfl (World.shaped_of_RefB (by as_aux_lemma=>kernel_rfl) (by as_aux_lemma=>kernel_rfl)) (by as_aux_lemma=>kernel_rfl) (by as_aux_lemma=>kernel_rfl) (by as_aux_lemma=>kernel_rfl) (QR os _);exact⟨w,tape,i,h1,h2,h3,h4,⟨⟨h5,h6⟩,h7⟩,h8⟩
 intro W base args ds gs before hval0 hW _ _ hsz hL hS _;have hval:∀(j:Nat) t v,Tryz.f3.params[j]?=some t->args[j]?=some v->Value.okWide Tryz.prog W .any base t v:=hval0;have hW':=hW;obtain⟨p,q,hA0,hV,rfl,hfz,hnd⟩:=hW;have hA:DataW.TrodAll enc Tryz.prog W 0 (λ_=>true) true Tryz.f3.params.toList args.toList ds p:=hA0;rw[Tryz.params3]at hA hval;obtain⟨v0,vs0,d0,ds0,p0,q0,hargs,rfl,rfl,h0,r0⟩:=trodAll_cons hA;obtain⟨v1,vs1,d1,ds1,p1,q1,rfl,rfl,rfl,h1,r1⟩:=trodAll_cons r0;obtain⟨v2,vs2,d2,ds2,p2,q2,rfl,rfl,rfl,h2,r2⟩:=trodAll_cons r1;obtain⟨v3,vs3,d3,ds3,p3,q3,rfl,rfl,rfl,h3,r3⟩:=trodAll_cons r2;obtain⟨rfl,rfl,rfl⟩:=trodAll_nil r3;obtain rfl:args = #[v0,v1,v2,v3]:=by cases args;simp_all
 obtain⟨rfl,rfl⟩:=trodVars_none hV;have k0:=h0;have lt0:∀x∈p0,x.block<W.heap.size:=by obtain⟨m,hm⟩:=k0;exact DataW.trod_lt m _ _ _ hm
 obtain⟨x0,a0,t0⟩:=Dz ty0 (hval 0 22 v0 rfl rfl) h0;have k1:=h1;have lt1:∀x∈p1,x.block<W.heap.size:=by obtain⟨m,hm⟩:=k1;exact DataW.trod_lt m _ _ _ hm
 obtain⟨x1,a1,t1⟩:=Dz ty1 (hval 1 25 v1 rfl rfl) h1;have k2:=h2;have lt2:∀x∈p2,x.block<W.heap.size:=by obtain⟨m,hm⟩:=k2;exact DataW.trod_lt m _ _ _ hm
 obtain⟨x2,a2,t2⟩:=Dz ty2 (hval 2 26 v2 rfl rfl) h2;have k3:=h3;have lt3:∀x∈p3,x.block<W.heap.size:=by obtain⟨m,hm⟩:=k3;exact DataW.trod_lt m _ _ _ hm
 obtain⟨x3,a3,t3⟩:=Dz ty3 (hval 3 9 v3 rfl rfl) h3;obtain⟨J',hl⟩:=L9 x0 x1 x2 x3 t0 t1 t2 t3 (λn cs hx=>by
  subst hx;rcases O5 (t:=22) (e:=9) (by kernel_rfl) h0 a0 with rfl | ⟨el,re,rfl,rfl⟩
  .omega
  .have hh:=sized_slice (j:=0) (t:=22) (e:=9) hsz (by kernel_rfl) rfl (by kernel_rfl);rw[show Program.bytesOf Tryz.checked.prog 9=16 from by kernel_rfl]at hh;have h2:reachBytes=140737488351232:=rfl;omega)
 refine(Pz TT mixed hl (W:=W) (vs := #[v0,v1,v2,v3]) (Jb hL hS) (.cons _ _ _ _ a0 (.cons _ _ _ _ a1 (.cons _ _ _ _ a2 (.cons _ _ _ _ a3 .nil))))).mono λe W' ⟨he,bel⟩=>?_
 subst he;exact⟨_,rfl,_,_,_,[],_,[],hW',trodAll_mk1 (shut_bool (t:=4) (by kernel_rfl) _),(trodAll_cons_mk (Below.trod laidOut (by kernel_rfl) (of_decide_eq_true (by kernel_rfl)) k0 bel lt0) (trodAll_cons_mk (Below.trod laidOut (by kernel_rfl) (of_decide_eq_true (by kernel_rfl)) k1 bel lt1) (trodAll_cons_mk (Below.trod laidOut (by kernel_rfl) (of_decide_eq_true (by kernel_rfl)) k2 bel lt2) (trodAll_cons_mk (Below.trod laidOut (by kernel_rfl) (of_decide_eq_true (by kernel_rfl)) k3 bel lt3) (trodAll_mk0))))),rfl,bel.frame _,λh=>by cases h⟩
theorem acJ{a b:Bool}(h1:a=true)(h2:b=true):(a && b)=true:=by rw[h1,h2];rfl
theorem cW:Rows.topDuesRow.wf (OpenSpec.ofChange (OpenSpec.ofChange Rows.topDuesSpec).bare)=true:=by kernel_rfl
theorem cO:laidOutB Tryz.checked.prog=true:=laidOut
theorem cR:mapsRowed Tryz.checked.prog=true:=by kernel_rfl
theorem cB:((Rows.topDuesRow.inPlace == Tryz.checked.prog.inPlace 3) && (Rows.topDuesRow.unfollowed == Tryz.checked.prog.unfollowed 3) && (Rows.topDuesRow.recurses == Tryz.checked.prog.recurses 3) && (Rows.topDuesRow.named == Tryz.checked.prog.varsNamed 3))=true:=by kernel_rfl
theorem cE:Tryz.checked.prog.mayEnter=true:=by kernel_rfl
theorem cL:(Rows.topDuesRow.lifted == Tryz.checked.prog.liftsFinal)=true:=by kernel_rfl
theorem cP:((Rows.topDuesRow.plainKeys == Tryz.checked.prog.plainKeys) && Tryz.checked.prog.stopsHeard)=true:=by kernel_rfl
theorem closed:joinedFacts Tryz.checked.prog 3 Tryz.f3 (OpenSpec.ofChange Rows.topDuesSpec).bare Rows.topDuesRow=true:=by
 have hB:=cB;have hP:=cP;simp only[ae]at hB hP;obtain⟨⟨⟨b1,b2⟩,b3⟩,b4⟩:=hB;obtain⟨p1,p2⟩:=hP;unfold joinedFacts
 repeat' (with_reducible refine acJ ?_ ?_)
 all_goals first | with_reducible exact cW | with_reducible exact cO | with_reducible exact cR | with_reducible exact b1 | with_reducible exact b2 | with_reducible exact b3 | with_reducible exact b4 | with_reducible exact cE | with_reducible exact cL | with_reducible exact p1 | with_reducible exact p2 | skip
 all_goals as_aux_lemma=>kernel_rfl
theorem over:Rows.topDuesRow.holds Tryz.pinned (OpenSpec.ofChange Rows.topDuesSpec) :=
 OpenClaim.holds_of_cond 3 Tryz.f3 rfl rfl rfl rfl rfl rfl rfl ⟨rfl,rfl,rfl,rfl,rfl⟩ rfl rfl rfl rfl rfl (by as_aux_lemma=>kernel_rfl) Tryz.func3 closed
  (of_decide_eq_true (by kernel_rfl)) (by unfold Func.isWrapper;first | (rw[if_pos (by decide +kernel)];kernel_rfl) | (rw[if_neg (by decide +kernel)];exact⟨rfl,rfl⟩))
  (λos started H enc _ F=>by rw[OpenClaim.pre_eq_preRow];exact lifted os started H enc F)
end Go.Proofs.YtklfdfnoebnciaaGreatDoor.topDuesDone
