import Derived.Test.YtklfdfnoebnciaaGreatDoorTxt6
import Derived.WalkKit
import Derived.ProofKit
import Derived.ShutString
import Derived.ChangeOld
import Derived.LaidMore
import Derived.Deep.DeepHandedRow
import Derived.MakeChecks
import Derived.Test.YtklfdfnoebnciaaGreatDoorBase19
set_option linter.all false
namespace Go.Proofs.YtklfdfnoebnciaaGreatDoor.topDuesDone
open Go Go.Abs Go.ChangeShapes Go.WideShapes Go.ChangeAt Go.RowKit
theorem own:ownKnob Tryz.prog.godebug=none:=by kernel_rfl
theorem laidOut:laidOutB Tryz.prog=true:=by kernel_rfl
theorem ty0:KZ Tryz.prog 20 22=some (.slice 1 .str):=by kernel_rfl
theorem ty1:KZ Tryz.prog 20 25=some (.struct [(.int .i64),(.slice 2 (.struct [(.int .i64),(.int .i64)]))]):=by kernel_rfl
theorem ty2:KZ Tryz.prog 20 26=some (.int .u16):=by kernel_rfl
theorem ty3:KZ Tryz.prog 20 9=some .str:=by kernel_rfl
abbrev laid:=Rows.topDuesUptoRow.laid
def i8(l:List Nat):Array Value:=(l.map fun n:Nat=>Value.int .u8 n).toArray
def LU:DataW Unit→List Nat
 |.agg l=>l.flatMap fun | .lit (.int .u8 n)=>[n.toNat] | .agg [.lit (.int .u8 n),.lit (.int .u8 m)]=>[n.toNat,m.toNat] | _=>[]
 |_=>[]
def aql:DataW Unit→Value
 |.iface _ (.ptr (.agg [.lit (.string s)])) => .string ⟨s.toArray⟩
 |_ => .nilIface
noncomputable def hp:Array Obj :=
 ((((((((begin Tryz.prog (fun _ _=>0) default).world.heap.setIfInBounds 5 (.cells (Lib.pow10Tab.map (Value.int .u64)).toArray 323)).setIfInBounds 6 (.cells (i8 (LU Rows.laid_math_bits_deBruijn32tab)) 342)).setIfInBounds 7 (.cells (i8 (LU Rows.laid_math_bits_deBruijn64tab)) 343)).setIfInBounds 1 (.cells #[.iface 319 (.pointer (some ⟨13,0,none⟩))] 107)).setIfInBounds 2 (.cells #[.iface 319 (.pointer (some ⟨14,0,none⟩))] 107)).setIfInBounds 3 (.cells (i8 Go.Pinned.utf8FirstZ) 291)).setIfInBounds 4 (.cells (i8 (LU Rows.laid_unicode_utf8_acceptRanges)) 294)).push (.cells #[aql Rows.laid_strconv_ErrSyntax] 321)
noncomputable def w0(os:Os):World:={World.holding Tryz.prog os ⟨#[],#[],[]⟩with heap:=hp.push (.cells #[aql Rows.laid_strconv_ErrRange] 321) }
theorem avr(os:Os)(args:Array Value):(DataW.laidRun Tryz.prog ((w0 os).forCall (fun _ _=>0) ⟨#[],args,[]⟩).memory 8 ((laid.filter fun x=>x.2.handleName?.isNone).map (·.1))).map (·.1)=some (laid.filter fun x=>x.2.handleName?.isNone):=by kernel_rfl
theorem Q9(os:Os)(args:Array Value):laidMetH Tryz.prog laid ((w0 os).forCall (fun _ _=>0) ⟨#[],args,[]⟩).memory :=
 laidMetH_of_parts3 (fuel:=8) (laidMet_of_run' 8 (avr os args) (by as_aux_lemma=>kernel_rfl)) (by as_aux_lemma=>kernel_rfl) (by as_aux_lemma=>kernel_rfl)
theorem Jt{W:World}(hL:laidMetH Tryz.prog laid W)(hS:W.ShapedOpen Tryz.prog):∀b Q,akj Tryz.prog b Q→∃c t v,W.heap[b]?=some (.cells c t (0,0))∧c[0]?=some v∧v.oneCell'=true∧Q (.cells c t (0,0)):=by
 rw[MakeChecks.laidMetH_plain _ _ _ (by kernel_rfl)]at hL;rintro b Q (⟨hn,rfl⟩ | ⟨hn,rfl⟩ | ⟨hn,rfl⟩ | ⟨hn,rfl⟩)
 ·obtain rfl:=Option.some.inj ((show Tryz.prog.globalNamed "strconv.ErrSyntax" = some 1 from by kernel_rfl).symm.trans hn);exact NN (t:=107) hL (.tail _ (.tail _ (.tail _ (.tail _ (.tail _ (.head _)))))) hn (by kernel_rfl) Tryz.underlying107
 ·obtain rfl:=Option.some.inj ((show Tryz.prog.globalNamed "strconv.ErrRange" = some 2 from by kernel_rfl).symm.trans hn);exact NN (t:=107) hL (.tail _ (.tail _ (.tail _ (.tail _ (.head _))))) hn (by kernel_rfl) Tryz.underlying107
 ·obtain rfl:=Option.some.inj ((show Tryz.prog.globalNamed "internal/strconv.uint64pow10" = some 5 from by kernel_rfl).symm.trans hn);exact acs (t:=323) (e:=279) (k:=20) hL (.tail _ (.tail _ (.head _))) hn (by kernel_rfl) Tryz.underlying323 Tryz.underlying279 (by kernel_rfl) (by kernel_rfl)
 ·obtain rfl:=Option.some.inj ((show Tryz.prog.globalNamed "internal/bytealg.MaxLen" = some 0 from by kernel_rfl).symm.trans hn);exact acr (t:=3) (zero := #[.int .i64 0]) hS (by decide) (by kernel_rfl) rfl (by kernel_rfl) (by kernel_rfl) Tryz.underlying3
theorem reads(os:Os){H:Type}(enc:TypeId×Value→H):∃x,DataW.whole enc Tryz.checked.prog ((w0 os).forCall (fun _ _=>0) ⟨#[],#[.slice none 0 0,.agg #[.int .i64 0,.slice none 0 0],.int .u16 0,.string ⟨#[]⟩],[]⟩).memory Tryz.f3.params.toList Rows.topDuesSpec.vars false [.slice none 0 0,.agg #[.int .i64 0,.slice none 0 0],.int .u16 0,.string ⟨#[]⟩] 8=some x∧Rows.uptoSmall H (x.1++x.2.1)=true :=
 ⟨([.nil,.agg [.lit (.int .i64 0),.nil],.lit (.int .u16 0),.lit (.string [])],[],[]),by kernel_rfl,by kernel_rfl⟩
theorem MZ{H:Type}:∀(l:List (DataW H)),l.length≤Rows.uptoBulkAll l
 |[]=>by simp[Rows.uptoBulkAll]
 |d::r=>by
  have h:=MZ r;have h1:1≤Rows.uptoBulk d:=by
   cases d with
   |lit l=>cases l<;>simp[Rows.uptoBulk]
   |_=>simp[Rows.uptoBulk]
  simp only[Rows.uptoBulkAll,aD];omega
theorem aqb{H:Type}{e r:List (DataW H)}{ds:List (DataW H)}(h:Rows.uptoSmall H (.slice e r::ds)=true):e.length≤1048576:=by
 have h:=of_decide_eq_true h;simp only[Rows.uptoBulkAll,Rows.uptoBulk]at h;have:=MZ e;omega
set_option maxRecDepth 100000 in
theorem lifted(os:Os)(started:os.Started)(H:Type)(enc:TypeId×Value→H)(F:Stop.Interp):
  ReturnsInHanded {} Tryz.checked os 3 .any ((Rows.OpenSpec.upto Rows.topDuesSpec).preRow enc Tryz.prog Tryz.f3 Rows.topDuesUptoRow.domain false laid) (((Rows.OpenSpec.upto Rows.topDuesSpec).at F).post enc Tryz.prog Tryz.f3 false true false false):=by
 refine returnsInHanded_of_row (C:=Tryz.checked) own started (by kernel_rfl) Tryz.func3 ?_ ?_
 ·have hok:Input.okWideB Tryz.checked.prog ((w0 os).forCall (fun _ _=>0) ⟨#[],#[.slice none 0 0,.agg #[.int .i64 0,.slice none 0 0],.int .u16 0,.string ⟨#[]⟩],[]⟩) 3 ⟨#[],#[.slice none 0 0,.agg #[.int .i64 0,.slice none 0 0],.int .u16 0,.string ⟨#[]⟩],[]⟩=true:=by as_aux_lemma=>kernel_rfl
  have hpre:(Rows.topDuesSpec).preB enc Tryz.checked.prog Tryz.f3 Rows.topDuesUptoRow.domain false ((w0 os).forCall (fun _ _=>0) ⟨#[],#[.slice none 0 0,.agg #[.int .i64 0,.slice none 0 0],.int .u16 0,.string ⟨#[]⟩],[]⟩).memory #[.slice none 0 0,.agg #[.int .i64 0,.slice none 0 0],.int .u16 0,.string ⟨#[]⟩] 8=true:=by as_aux_lemma=>kernel_rfl
  obtain⟨x,hx⟩:∃x,DataW.whole enc Tryz.checked.prog ((w0 os).forCall (fun _ _=>0) ⟨#[],#[.slice none 0 0,.agg #[.int .i64 0,.slice none 0 0],.int .u16 0,.string ⟨#[]⟩],[]⟩).memory Tryz.f3.params.toList Rows.topDuesSpec.vars false [.slice none 0 0,.agg #[.int .i64 0,.slice none 0 0],.int .u16 0,.string ⟨#[]⟩] 8=some x∧Rows.uptoSmall H (x.1++x.2.1)=true:=by
   as_aux_lemma =>
   exact reads os enc
  exact⟨w0 os,fun _ _=>0,⟨#[],#[.slice none 0 0,.agg #[.int .i64 0,.slice none 0 0],.int .u16 0,.string ⟨#[]⟩],[]⟩,rfl,World.shaped_of_RefB (by as_aux_lemma=>kernel_rfl) (by as_aux_lemma=>kernel_rfl),(Input.okWide_of_okWideB (base:=0) hok).1,(Input.okWide_of_okWideB hok).2,
   OpenSpec.preRow_of_cond 8 hx.1 (by kernel_rfl) (fun k hk=>by cases hk;exact hx.2) (by as_aux_lemma=>kernel_rfl) (Q9 os _),by
    simp only[Assume.holds];exact⟨by simp,by simp,fun _=>Modest.zero,by simp,by simp⟩⟩
 intro W base args ds gs before hval0 hW _ hcond _ hL hS _;have hcond:=hcond _ rfl;have hval:∀(j:Nat) t v,Tryz.f3.params[j]?=some t→args[j]?=some v→Value.okWide Tryz.prog W .any base t v:=hval0;have hW':=hW;obtain⟨p,q,hA0,hV,rfl,hfz,hnd⟩:=hW;have hA:DataW.TrodAll enc Tryz.prog W 0 (fun _=>true) true Tryz.f3.params.toList args.toList ds p:=hA0;rw[Tryz.params3]at hA hval;obtain⟨v0,vs0,d0,ds0,p0,q0,hargs,rfl,rfl,h0,r0⟩:=trodAll_cons hA;obtain⟨v1,vs1,d1,ds1,p1,q1,rfl,rfl,rfl,h1,r1⟩:=trodAll_cons r0;obtain⟨v2,vs2,d2,ds2,p2,q2,rfl,rfl,rfl,h2,r2⟩:=trodAll_cons r1;obtain⟨v3,vs3,d3,ds3,p3,q3,rfl,rfl,rfl,h3,r3⟩:=trodAll_cons r2;obtain⟨rfl,rfl,rfl⟩:=trodAll_nil r3;obtain rfl:args = #[v0,v1,v2,v3]:=by cases args;simp_all
 obtain⟨rfl,rfl⟩:=trodVars_none hV;have k0:=h0;have lt0:∀x∈p0,x.block<W.heap.size:=by obtain⟨m,hm⟩:=k0;exact DataW.trod_lt m _ _ _ hm
 obtain⟨x0,a0,t0⟩:=Dv ty0 (hval 0 22 v0 rfl rfl) h0;have k1:=h1;have lt1:∀x∈p1,x.block<W.heap.size:=by obtain⟨m,hm⟩:=k1;exact DataW.trod_lt m _ _ _ hm
 obtain⟨x1,a1,t1⟩:=Dv ty1 (hval 1 25 v1 rfl rfl) h1;have k2:=h2;have lt2:∀x∈p2,x.block<W.heap.size:=by obtain⟨m,hm⟩:=k2;exact DataW.trod_lt m _ _ _ hm
 obtain⟨x2,a2,t2⟩:=Dv ty2 (hval 2 26 v2 rfl rfl) h2;have k3:=h3;have lt3:∀x∈p3,x.block<W.heap.size:=by obtain⟨m,hm⟩:=k3;exact DataW.trod_lt m _ _ _ hm
 obtain⟨x3,a3,t3⟩:=Dv ty3 (hval 3 9 v3 rfl rfl) h3;obtain⟨σ',hl⟩:=LN x0 x1 x2 x3 t0 t1 t2 t3 (fun n cs hx=>by
  subst hx;rcases Pm (t:=22) (e:=9) (by kernel_rfl) h0 a0 with rfl | ⟨el,re,rfl,rfl⟩
  ·omega
  ·exact aqb hcond)
 refine(PO TT mixed hl (W:=W) (vs := #[v0,v1,v2,v3]) (Jt hL hS) (.cons _ _ _ _ a0 (.cons _ _ _ _ a1 (.cons _ _ _ _ a2 (.cons _ _ _ _ a3 .nil))))).mono fun e W' ⟨he,bel⟩=>?_
 subst he;exact⟨_,rfl,_,_,_,[],_,[],hW',trodAll_mk1 (shut_bool (t:=4) (by kernel_rfl) _),(trodAll_cons_mk (Below.trod laidOut (by kernel_rfl) (of_decide_eq_true (by kernel_rfl)) k0 bel lt0) (trodAll_cons_mk (Below.trod laidOut (by kernel_rfl) (of_decide_eq_true (by kernel_rfl)) k1 bel lt1) (trodAll_cons_mk (Below.trod laidOut (by kernel_rfl) (of_decide_eq_true (by kernel_rfl)) k2 bel lt2) (trodAll_cons_mk (Below.trod laidOut (by kernel_rfl) (of_decide_eq_true (by kernel_rfl)) k3 bel lt3) (trodAll_mk0))))),rfl,bel.frame _,fun h=>by cases h⟩
theorem avg{a b:Bool}(h1:a=true)(h2:b=true):(a && b)=true:=by rw[h1,h2];rfl
theorem cW:Rows.topDuesUptoRow.wf (OpenSpec.ofChange (Rows.OpenSpec.upto Rows.topDuesSpec).bare)=true:=by kernel_rfl
theorem cO:laidOutB Tryz.checked.prog=true:=laidOut
theorem cR:mapsRowed Tryz.checked.prog=true:=by kernel_rfl
theorem cB:((Rows.topDuesUptoRow.inPlace == Tryz.checked.prog.inPlace 3) && (Rows.topDuesUptoRow.unfollowed == Tryz.checked.prog.unfollowed 3) && (Rows.topDuesUptoRow.recurses == Tryz.checked.prog.recurses 3) && (Rows.topDuesUptoRow.named == Tryz.checked.prog.varsNamed 3))=true:=by kernel_rfl
theorem cE:Tryz.checked.prog.mayEnter=true:=by kernel_rfl
theorem cL:(Rows.topDuesUptoRow.lifted == Tryz.checked.prog.liftsFinal)=true:=by kernel_rfl
theorem cP:((Rows.topDuesUptoRow.plainKeys == Tryz.checked.prog.plainKeys) && Tryz.checked.prog.stopsHeard)=true:=by kernel_rfl
theorem closed:joinedFacts Tryz.checked.prog 3 Tryz.f3 (Rows.OpenSpec.upto Rows.topDuesSpec).bare Rows.topDuesUptoRow=true:=by
 have hB:=cB;have hP:=cP;simp only[ae]at hB hP;obtain⟨⟨⟨b1,b2⟩,b3⟩,b4⟩:=hB;obtain⟨p1,p2⟩:=hP;unfold joinedFacts
 repeat' (with_reducible refine avg ?_ ?_)
 all_goals first | with_reducible exact cW | with_reducible exact cO | with_reducible exact cR | with_reducible exact b1 | with_reducible exact b2 | with_reducible exact b3 | with_reducible exact b4 | with_reducible exact cE | with_reducible exact cL | with_reducible exact p1 | with_reducible exact p2 | skip
 all_goals as_aux_lemma=>kernel_rfl
theorem over:Rows.topDuesUptoRow.holds Tryz.pinned (Rows.OpenSpec.upto Rows.topDuesSpec) :=
 OpenClaim.holds_of_cond 3 Tryz.f3 rfl rfl rfl rfl rfl rfl rfl ⟨rfl,rfl,rfl,rfl,rfl⟩ rfl rfl rfl rfl rfl (by as_aux_lemma=>kernel_rfl) Tryz.func3 closed
  (of_decide_eq_true (by kernel_rfl)) (by unfold Func.isWrapper;first | (rw[if_pos (by decide +kernel)];kernel_rfl) | (rw[if_neg (by decide +kernel)];exact⟨rfl,rfl⟩))
  (fun os started H enc _ F=>by rw[OpenClaim.pre_eq_preRow];exact lifted os started H enc F)
end Go.Proofs.YtklfdfnoebnciaaGreatDoor.topDuesDone
