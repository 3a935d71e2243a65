import Derived.Test.YtpapbbojmclkgaaGreatDoorTxt10
import Derived.WalkKit
import Derived.ShutString
import Derived.ChangeOld
import Derived.LaidMore
import Derived.Deep.DeepHandedRow
import Derived.MakeChecks
set_option linter.all false
namespace Go.Proofs.YtpapbbojmclkgaaGreatDoor.logbookResumesDone
open Go Go.aw Go.ChangeShapes Go.WideShapes Go.ChangeAt Go.RowKit
theorem own:ownKnob Tryz.prog.godebug=none:=by kernel_rfl
theorem laidOut:laidOutB Tryz.prog=true:=by kernel_rfl
theorem ty0:TB Tryz.prog 20 86=some (.slice 1 (.int .u8)):=by kernel_rfl
theorem ty1:TB Tryz.prog 20 22=some (.slice 1 .str):=by kernel_rfl
abbrev laid:=Rows.logbookResumesRow.laid
def i8(l:List Nat):Array Value:=(l.map λn:Nat=>Value.int .u8 n).toArray
def SV:DataW Unit->List Nat
 |.agg l=>l.flatMap λ| .lit (.int .u8 n)=>[n.toNat] | .agg [.lit (.int .u8 n),.lit (.int .u8 m)]=>[n.toNat,m.toNat] | _=>[]
 |_=>[]
def aiv:DataW Unit->Value
 |.iface _ (.ptr (.agg [.lit (.string s)])) => .string ⟨s.toArray⟩
 |_ => .nilIface
noncomputable def hp:Array Obj :=
 ((((((((begin Tryz.prog (λ_ _=>0) default).world.heap.setIfInBounds 1 (.cells (Lib.pow10Tab.map (Value.int .u64)).toArray 309)).setIfInBounds 2 (.cells (i8 (SV Rows.laid_math_bits_deBruijn32tab)) 411)).setIfInBounds 3 (.cells (i8 (SV Rows.laid_math_bits_deBruijn64tab)) 412)).setIfInBounds 4 (.cells #[.iface 475 (.pointer (some ⟨13,0,none⟩))] 117)).setIfInBounds 5 (.cells #[.iface 475 (.pointer (some ⟨14,0,none⟩))] 117)).setIfInBounds 6 (.cells (i8 Go.Pinned.utf8FirstZ) 453)).setIfInBounds 7 (.cells (i8 (SV Rows.laid_unicode_utf8_acceptRanges)) 456)).push (.cells #[aiv Rows.laid_strconv_ErrSyntax] 477)
noncomputable def w0(os:Os):World:={World.holding Tryz.prog os ⟨#[],#[],[]⟩with heap:=hp.push (.cells #[aiv Rows.laid_strconv_ErrRange] 477) }
theorem alM(os:Os)(args:Array Value):(DataW.laidRun Tryz.prog ((w0 os).forCall (λ_ _=>0) ⟨#[],args,[]⟩).memory 8 ((laid.filter λx=>x.2.handleName?.isNone).map (·.1))).map (·.1)=some (laid.filter λx=>x.2.handleName?.isNone):=by kernel_rfl
theorem YO(os:Os)(args:Array Value):laidMetH Tryz.prog laid ((w0 os).forCall (λ_ _=>0) ⟨#[],args,[]⟩).memory :=
 laidMetH_of_parts3 (fuel:=8) (laidMet_of_run' 8 (alM os args) (by as_aux_lemma=>kernel_rfl)) (by as_aux_lemma=>kernel_rfl) (by as_aux_lemma=>kernel_rfl)
theorem OA{W:World}(hL:laidMetH Tryz.prog laid W)(hS:W.ShapedOpen Tryz.prog):∀b Q,aeN Tryz.prog b Q->∃c t v,W.heap[b]?=some (.cells c t (0,0))/\c[0]?=some v/\v.oneCell'=true/\Q (.cells c t (0,0)):=by
 rw[MakeChecks.laidMetH_plain _ _ _ (by kernel_rfl)]at hL;rintro b Q (⟨hn,rfl⟩ | ⟨hn,rfl⟩ | ⟨hn,rfl⟩ | ⟨hn,rfl⟩)
 .obtain rfl:=Option.some.inj ((show Tryz.prog.globalNamed "strconv.ErrSyntax" = some 4 from by kernel_rfl).symm.trans hn);exact UD (t:=117) hL (.tail _ (.tail _ (.tail _ (.tail _ (.tail _ (.head _)))))) hn (by kernel_rfl) Tryz.underlying117
 .obtain rfl:=Option.some.inj ((show Tryz.prog.globalNamed "strconv.ErrRange" = some 5 from by kernel_rfl).symm.trans hn);exact UD (t:=117) hL (.tail _ (.tail _ (.tail _ (.tail _ (.head _))))) hn (by kernel_rfl) Tryz.underlying117
 .obtain rfl:=Option.some.inj ((show Tryz.prog.globalNamed "internal/strconv.uint64pow10" = some 1 from by kernel_rfl).symm.trans hn);exact abY (t:=309) (e:=287) (k:=20) hL (.tail _ (.tail _ (.head _))) hn (by kernel_rfl) Tryz.underlying309 Tryz.underlying287 (by kernel_rfl) (by kernel_rfl)
 .obtain rfl:=Option.some.inj ((show Tryz.prog.globalNamed "internal/bytealg.MaxLen" = some 0 from by kernel_rfl).symm.trans hn);exact abX (t:=3) (zero := #[.int .i64 0]) hS (by decide) (by kernel_rfl) rfl (by kernel_rfl) (by kernel_rfl) Tryz.underlying3
set_option maxRecDepth 100000 in
theorem lifted(os:Os)(started:os.Started)(H:Type)(enc:TypeId×Value->H)(F:Stop.Interp):
  ReturnsInHanded {} Tryz.checked os 7 .any ((OpenSpec.ofChange Rows.logbookResumesSpec).preRow enc Tryz.prog Tryz.f7 Rows.logbookResumesRow.domain false laid) (((OpenSpec.ofChange Rows.logbookResumesSpec).at F).post enc Tryz.prog Tryz.f7 false true false false):=by
 refine returnsInHanded_of_row (C:=Tryz.checked) own started (by kernel_rfl) Tryz.func7 ?_ ?_
 .obtain⟨w,tape,i,h1,h2,h3,h4,⟨⟨h5,h6⟩,h7⟩,h8⟩:=ChangeSpec.witness_shaped (enc:=enc) (C:=Tryz.checked) (os:=os) (f:=7) (fn:=Tryz.f7) (s:=Rows.logbookResumesSpec) (conds:=Rows.logbookResumesRow.domain) (apart:=false) (X:=λw _=>laidMetH Tryz.prog laid w) false (w0 os) #[.slice none 0 0,.slice none 0 0] 8 rfl (World.shaped_of_RefB (by as_aux_lemma=>kernel_rfl) (by as_aux_lemma=>kernel_rfl)) (by as_aux_lemma=>kernel_rfl) (by as_aux_lemma=>kernel_rfl) (by as_aux_lemma=>kernel_rfl) (YO os _);exact⟨w,tape,i,h1,h2,h3,h4,⟨⟨h5,h6⟩,h7⟩,h8⟩
 intro W base args ds gs before hval0 hW _ _ _ hL hS _;have hval:∀(j:Nat) t v,Tryz.f7.params[j]?=some t->args[j]?=some v->Value.okWide Tryz.prog W .any base t v:=hval0;have hW':=hW;obtain⟨p,q,hA0,hV,rfl,hfz,hnd⟩:=hW;have hA:DataW.TrodAll enc Tryz.prog W 0 (λ_=>true) true Tryz.f7.params.toList args.toList ds p:=hA0;rw[Tryz.params7]at hA hval;obtain⟨v0,vs0,d0,ds0,p0,q0,hargs,rfl,rfl,h0,r0⟩:=trodAll_cons hA;obtain⟨v1,vs1,d1,ds1,p1,q1,rfl,rfl,rfl,h1,r1⟩:=trodAll_cons r0;obtain⟨rfl,rfl,rfl⟩:=trodAll_nil r1;obtain rfl:args = #[v0,v1]:=by cases args;simp_all
 obtain⟨rfl,rfl⟩:=trodVars_none hV;have k0:=h0;have lt0:∀x∈p0,x.block<W.heap.size:=by obtain⟨m,hm⟩:=k0;exact DataW.trod_lt m _ _ _ hm
 obtain⟨x0,a0,t0⟩:=Rb ty0 (hval 0 86 v0 rfl rfl) h0;have k1:=h1;have lt1:∀x∈p1,x.block<W.heap.size:=by obtain⟨m,hm⟩:=k1;exact DataW.trod_lt m _ _ _ hm
 obtain⟨x1,a1,t1⟩:=Rb ty1 (hval 1 22 v1 rfl rfl) h1;obtain⟨J',hl⟩:=HN x0 x1 t0 t1;refine(WN TT mixed hl (W:=W) (vs := #[v0,v1]) (OA hL hS) (.cons _ _ _ _ a0 (.cons _ _ _ _ a1 .nil))).mono λe W' ⟨he,bel⟩=>?_
 subst he;exact⟨_,rfl,_,_,_,[],_,[],hW',trodAll_mk1 (shut_bool (t:=4) (by kernel_rfl) _),(trodAll_cons_mk (Below.trod laidOut (by kernel_rfl) (of_decide_eq_true (by kernel_rfl)) k0 bel lt0) (trodAll_cons_mk (Below.trod laidOut (by kernel_rfl) (of_decide_eq_true (by kernel_rfl)) k1 bel lt1) (trodAll_mk0))),rfl,bel.frame _,λh=>by cases h⟩
theorem alA{a b:Bool}(h1:a=true)(h2:b=true):(a && b)=true:=by rw[h1,h2];rfl
theorem cW:Rows.logbookResumesRow.wf (OpenSpec.ofChange (OpenSpec.ofChange Rows.logbookResumesSpec).bare)=true:=by kernel_rfl
theorem cO:laidOutB Tryz.checked.prog=true:=laidOut
theorem cR:mapsRowed Tryz.checked.prog=true:=by kernel_rfl
theorem cB:((Rows.logbookResumesRow.inPlace == Tryz.checked.prog.inPlace 7) && (Rows.logbookResumesRow.unfollowed == Tryz.checked.prog.unfollowed 7) && (Rows.logbookResumesRow.recurses == Tryz.checked.prog.recurses 7) && (Rows.logbookResumesRow.named == Tryz.checked.prog.varsNamed 7))=true:=by kernel_rfl
theorem cE:Tryz.checked.prog.mayEnter=true:=by kernel_rfl
theorem cL:(Rows.logbookResumesRow.lifted == Tryz.checked.prog.liftsFinal)=true:=by kernel_rfl
theorem cP:((Rows.logbookResumesRow.plainKeys == Tryz.checked.prog.plainKeys) && Tryz.checked.prog.stopsHeard)=true:=by kernel_rfl
theorem closed:joinedFacts Tryz.checked.prog 7 Tryz.f7 (OpenSpec.ofChange Rows.logbookResumesSpec).bare Rows.logbookResumesRow=true:=by
 have hB:=cB;have hP:=cP;simp only[af]at hB hP;obtain⟨⟨⟨b1,b2⟩,b3⟩,b4⟩:=hB;obtain⟨p1,p2⟩:=hP;unfold joinedFacts
 repeat' (with_reducible refine alA ?_ ?_)
 all_goals first | with_reducible exact cW | with_reducible exact cO | with_reducible exact cR | with_reducible exact b1 | with_reducible exact b2 | with_reducible exact b3 | with_reducible exact b4 | with_reducible exact cE | with_reducible exact cL | with_reducible exact p1 | with_reducible exact p2 | skip
 all_goals as_aux_lemma=>kernel_rfl
theorem over:Rows.logbookResumesRow.holds Tryz.pinned (OpenSpec.ofChange Rows.logbookResumesSpec) :=
 OpenClaim.holds_of_cond 7 Tryz.f7 rfl rfl rfl rfl rfl rfl rfl ⟨rfl,rfl,rfl,rfl,rfl⟩ rfl rfl rfl rfl rfl (by as_aux_lemma=>kernel_rfl) Tryz.func7 closed
  (of_decide_eq_true (by kernel_rfl)) (by unfold Func.isWrapper;first | (rw[if_pos (by decide +kernel)];kernel_rfl) | (rw[if_neg (by decide +kernel)];exact⟨rfl,rfl⟩))
  (λos started H enc _ F=>by rw[OpenClaim.pre_eq_preRow];exact lifted os started H enc F)
