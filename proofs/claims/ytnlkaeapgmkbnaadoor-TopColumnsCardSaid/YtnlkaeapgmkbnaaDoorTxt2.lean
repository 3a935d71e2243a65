import Derived.Test.YtnlkaeapgmkbnaaDoorTxt1
import Derived.WalkKit
import Derived.ProofKit
import Derived.ShutString
import Derived.ChangeOld
import Derived.LaidMore
import Derived.Deep.DeepHandedRow
import Derived.MakeChecks
import Derived.Test.YtnlkaeapgmkbnaaDoorBase19
set_option linter.all false
namespace Go.Proofs.YtnlkaeapgmkbnaaDoor.topColumnsDone
open Go Go.Abs Go.ChangeShapes Go.WideShapes Go.ChangeAt Go.RowKit
theorem own:ownKnob Tryd.prog.godebug=none:=by kernel_rfl
theorem laidOut:laidOutB Tryd.prog=true:=by kernel_rfl
theorem OF:ua Tryd.prog 20 23=some (.struct [(.int .i64),(.int .i64),(.int .i64),(.int .i64)]):=by kernel_rfl
theorem OG:ua Tryd.prog 20 5=some (.int .u8):=by kernel_rfl
theorem OH:ua Tryd.prog 20 5=some (.int .u8):=by kernel_rfl
theorem OI:ua Tryd.prog 20 24=some (.int .u16):=by kernel_rfl
abbrev laid:=Rows.topColumnsRow.laid
def i8(l:List Nat):Array Value:=(l.map fun n:Nat=>Value.int .u8 n).toArray
def ym:DataW Unit→List Nat
 |.agg l=>l.flatMap fun | .lit (.int .u8 n)=>[n.toNat] | .agg [.lit (.int .u8 n),.lit (.int .u8 m)]=>[n.toNat,m.toNat] | _=>[]
 |_=>[]
noncomputable def hp:Array Obj :=
 ((((begin Tryd.prog (fun _ _=>0) default).world.heap.setIfInBounds 0 (.cells (Lib.pow10Tab.map (Value.int .u64)).toArray 123)).setIfInBounds 1 (.cells (i8 (ym Rows.laid_math_bits_deBruijn32tab)) 125)).setIfInBounds 2 (.cells (i8 (ym Rows.laid_math_bits_deBruijn64tab)) 126))
noncomputable def w0(os:Os):World:={World.holding Tryd.prog os ⟨#[],#[],[]⟩with heap:=hp }
theorem NF(os:Os)(args:Array Value):(DataW.laidRun Tryd.prog ((w0 os).forCall (fun _ _=>0) ⟨#[],args,[]⟩).memory 8 ((laid.filter fun x=>x.2.handleName?.isNone).map (·.1))).map (·.1)=some (laid.filter fun x=>x.2.handleName?.isNone):=by kernel_rfl
theorem xf(os:Os)(args:Array Value):laidMetH Tryd.prog laid ((w0 os).forCall (fun _ _=>0) ⟨#[],args,[]⟩).memory :=
 laidMetH_of_parts3 (fuel:=8) (laidMet_of_run' 8 (NF os args) (by as_aux_lemma=>kernel_rfl)) (by as_aux_lemma=>kernel_rfl) (by as_aux_lemma=>kernel_rfl)
theorem sT{W:World}(hL:laidMetH Tryd.prog laid W)(hS:W.ShapedOpen Tryd.prog):∀b Q,EV Tryd.prog b Q→∃c t v,W.heap[b]?=some (.cells c t (0,0))∧c[0]?=some v∧v.oneCell'=true∧Q (.cells c t (0,0)):=by
 rw[MakeChecks.laidMetH_plain _ _ _ (by kernel_rfl)]at hL;rintro b Q (⟨hn,rfl⟩ | ⟨hn,rfl⟩ | ⟨hn,rfl⟩ | ⟨hn,rfl⟩)
 ·exact absurd ((show Tryd.prog.globalNamed "strconv.ErrSyntax" = none from by kernel_rfl).symm.trans hn) (by simp)
 ·exact absurd ((show Tryd.prog.globalNamed "strconv.ErrRange" = none from by kernel_rfl).symm.trans hn) (by simp)
 ·obtain rfl:=Option.some.inj ((show Tryd.prog.globalNamed "internal/strconv.uint64pow10" = some 0 from by kernel_rfl).symm.trans hn);exact zJ (t:=123) (e:=104) (k:=20) hL (.tail _ (.tail _ (.head _))) hn (by kernel_rfl) Tryd.underlying123 Tryd.underlying104 (by kernel_rfl) (by kernel_rfl)
 ·exact absurd ((show Tryd.prog.globalNamed "internal/bytealg.MaxLen" = none from by kernel_rfl).symm.trans hn) (by simp)
set_option maxRecDepth 100000 in
theorem lifted(os:Os)(started:os.Started)(H:Type)(enc:TypeId×Value→H)(F:Stop.Interp):
  ReturnsInHanded {} Tryd.checked os 3 .any ((OpenSpec.ofChange Rows.topColumnsSpec).preRow enc Tryd.prog Tryd.f3 Rows.topColumnsRow.domain false laid) (((OpenSpec.ofChange Rows.topColumnsSpec).at F).post enc Tryd.prog Tryd.f3 false true false false):=by
 refine returnsInHanded_of_row (C:=Tryd.checked) own started (by kernel_rfl) Tryd.func3 ?_ ?_
 ·obtain⟨w,tape,i,h1,h2,h3,h4,⟨⟨h5,h6⟩,h7⟩,h8⟩:=ChangeSpec.witness_shaped (enc:=enc) (C:=Tryd.checked) (os:=os) (f:=3) (fn:=Tryd.f3) (s:=Rows.topColumnsSpec) (conds:=Rows.topColumnsRow.domain) (apart:=false) (X:=fun w _=>laidMetH Tryd.prog laid w) false (w0 os) #[.agg #[.int .i64 0,.int .i64 0,.int .i64 0,.int .i64 0],.int .u8 0,.int .u8 0,.int .u16 0] 8 rfl (World.shaped_of_RefB (by as_aux_lemma=>kernel_rfl) (by as_aux_lemma=>kernel_rfl)) (by as_aux_lemma=>kernel_rfl) (by as_aux_lemma=>kernel_rfl) (by as_aux_lemma=>kernel_rfl) (xf os _);exact⟨w,tape,i,h1,h2,h3,h4,⟨⟨h5,h6⟩,h7⟩,h8⟩
 intro W base args ds gs before hval0 hW _ _ _ hL hS _;have hval:∀(j:Nat) t v,Tryd.f3.params[j]?=some t→args[j]?=some v→Value.okWide Tryd.prog W .any base t v:=hval0;have hW':=hW;obtain⟨p,q,hA0,hV,rfl,hfz,hnd⟩:=hW;have hA:DataW.TrodAll enc Tryd.prog W 0 (fun _=>true) true Tryd.f3.params.toList args.toList ds p:=hA0;rw[Tryd.params3]at hA hval;obtain⟨v0,vs0,d0,ds0,p0,q0,hargs,rfl,rfl,h0,r0⟩:=trodAll_cons hA;obtain⟨v1,vs1,d1,ds1,p1,q1,rfl,rfl,rfl,h1,r1⟩:=trodAll_cons r0;obtain⟨v2,vs2,d2,ds2,p2,q2,rfl,rfl,rfl,h2,r2⟩:=trodAll_cons r1;obtain⟨v3,vs3,d3,ds3,p3,q3,rfl,rfl,rfl,h3,r3⟩:=trodAll_cons r2;obtain⟨rfl,rfl,rfl⟩:=trodAll_nil r3;obtain rfl:args = #[v0,v1,v2,v3]:=by cases args;simp_all
 obtain⟨rfl,rfl⟩:=trodVars_none hV;have k0:=h0;have lt0:∀x∈p0,x.block<W.heap.size:=by obtain⟨m,hm⟩:=k0;exact DataW.trod_lt m _ _ _ hm
 obtain⟨x0,a0,t0⟩:=nB OF (hval 0 23 v0 rfl rfl) h0;have k1:=h1;have lt1:∀x∈p1,x.block<W.heap.size:=by obtain⟨m,hm⟩:=k1;exact DataW.trod_lt m _ _ _ hm
 obtain⟨x1,a1,t1⟩:=nB OG (hval 1 5 v1 rfl rfl) h1;have k2:=h2;have lt2:∀x∈p2,x.block<W.heap.size:=by obtain⟨m,hm⟩:=k2;exact DataW.trod_lt m _ _ _ hm
 obtain⟨x2,a2,t2⟩:=nB OH (hval 2 5 v2 rfl rfl) h2;have k3:=h3;have lt3:∀x∈p3,x.block<W.heap.size:=by obtain⟨m,hm⟩:=k3;exact DataW.trod_lt m _ _ _ hm
 obtain⟨x3,a3,t3⟩:=nB OI (hval 3 24 v3 rfl rfl) h3;obtain⟨σ',hl⟩:=qY x0 x1 x2 x3 t0 t1 t2 t3;refine(wB TT mixed hl (W:=W) (vs := #[v0,v1,v2,v3]) (sT hL hS) (.cons _ _ _ _ a0 (.cons _ _ _ _ a1 (.cons _ _ _ _ a2 (.cons _ _ _ _ a3 .nil))))).mono fun e W' ⟨he,bel⟩=>?_
 subst he;exact⟨_,rfl,_,_,_,[],_,[],hW',trodAll_mk1 (shut_bool (t:=4) (by kernel_rfl) _),(trodAll_cons_mk (Below.trod laidOut (by kernel_rfl) (of_decide_eq_true (by kernel_rfl)) k0 bel lt0) (trodAll_cons_mk (Below.trod laidOut (by kernel_rfl) (of_decide_eq_true (by kernel_rfl)) k1 bel lt1) (trodAll_cons_mk (Below.trod laidOut (by kernel_rfl) (of_decide_eq_true (by kernel_rfl)) k2 bel lt2) (trodAll_cons_mk (Below.trod laidOut (by kernel_rfl) (of_decide_eq_true (by kernel_rfl)) k3 bel lt3) (trodAll_mk0))))),rfl,bel.frame _,fun h=>by cases h⟩
theorem Nt{a b:Bool}(h1:a=true)(h2:b=true):(a && b)=true:=by rw[h1,h2];rfl
theorem cW:Rows.topColumnsRow.wf (OpenSpec.ofChange (OpenSpec.ofChange Rows.topColumnsSpec).bare)=true:=by kernel_rfl
theorem cO:laidOutB Tryd.checked.prog=true:=laidOut
theorem cR:mapsRowed Tryd.checked.prog=true:=by kernel_rfl
theorem cB:((Rows.topColumnsRow.inPlace == Tryd.checked.prog.inPlace 3) && (Rows.topColumnsRow.unfollowed == Tryd.checked.prog.unfollowed 3) && (Rows.topColumnsRow.recurses == Tryd.checked.prog.recurses 3) && (Rows.topColumnsRow.named == Tryd.checked.prog.varsNamed 3))=true:=by kernel_rfl
theorem cE:Tryd.checked.prog.mayEnter=true:=by kernel_rfl
theorem cL:(Rows.topColumnsRow.lifted == Tryd.checked.prog.liftsFinal)=true:=by kernel_rfl
theorem cP:((Rows.topColumnsRow.plainKeys == Tryd.checked.prog.plainKeys) && Tryd.checked.prog.stopsHeard)=true:=by kernel_rfl
theorem closed:joinedFacts Tryd.checked.prog 3 Tryd.f3 (OpenSpec.ofChange Rows.topColumnsSpec).bare Rows.topColumnsRow=true:=by
 have hB:=cB;have hP:=cP;simp only[ah]at hB hP;obtain⟨⟨⟨b1,b2⟩,b3⟩,b4⟩:=hB;obtain⟨p1,p2⟩:=hP;unfold joinedFacts
 repeat' (with_reducible refine Nt ?_ ?_)
 all_goals first | with_reducible exact cW | with_reducible exact cO | with_reducible exact cR | with_reducible exact b1 | with_reducible exact b2 | with_reducible exact b3 | with_reducible exact b4 | with_reducible exact cE | with_reducible exact cL | with_reducible exact p1 | with_reducible exact p2 | skip
 all_goals as_aux_lemma=>kernel_rfl
theorem over:Rows.topColumnsRow.holds Tryd.pinned (OpenSpec.ofChange Rows.topColumnsSpec) :=
 OpenClaim.holds_of_cond 3 Tryd.f3 rfl rfl rfl rfl rfl rfl rfl ⟨rfl,rfl,rfl,rfl,rfl⟩ rfl rfl rfl rfl rfl (by as_aux_lemma=>kernel_rfl) Tryd.func3 closed
  (of_decide_eq_true (by kernel_rfl)) (by unfold Func.isWrapper;first | (rw[if_pos (by decide +kernel)];kernel_rfl) | (rw[if_neg (by decide +kernel)];exact⟨rfl,rfl⟩))
  (fun os started H enc _ F=>by rw[OpenClaim.pre_eq_preRow];exact lifted os started H enc F)
end Go.Proofs.YtnlkaeapgmkbnaaDoor.topColumnsDone
