/- The law LogbookNames answers true, whatever its arguments, and each argument reads behind the call as it read before. -/
import Derived.Test.YtfgljaglidhjiaaGreatDoorTxt1
import Derived.Test.YtfgljaglidhjiaaGreatDoorRows
import Derived.WalkKit
import Derived.ProofKit
import Derived.OpenShut
import Derived.ShutString
import Derived.ChangeOld
import Derived.Below
import Derived.Carry
import Derived.LaidMore
import Derived.Deep.DeepHandedRow
import Derived.MakeChecks
import Derived.Test.YtfgljaglidhjiaaGreatDoorBase18
set_option linter.unusedVariables false
set_option linter.unusedSimpArgs false
namespace Go.Proofs.YtfgljaglidhjiaaGreatDoor.logbookNamesDone
open Go Go.Abs Go.ChangeShapes Go.WideShapes Go.ChangeAt Go.RowKit

theorem own : ownKnob Tryz.prog.godebug = none := by kernel_rfl
theorem laidOut : laidOutB Tryz.prog = true := by kernel_rfl

abbrev laid := Rows.logbookNamesRow.laid
def i8 (l : List Nat) : Array Value := (l.map fun n : Nat => Value.int .u8 n).toArray
def litsU8 : DataW Unit → List Nat
  | .agg l => l.flatMap fun | .lit (.int .u8 n) => [n.toNat] | .agg [.lit (.int .u8 n), .lit (.int .u8 m)] => [n.toNat, m.toNat] | _ => []
  | _ => []
def errS : DataW Unit → Value
  | .iface _ (.ptr (.agg [.lit (.string s)])) => .string ⟨s.toArray⟩
  | _ => .nilIface
noncomputable def hp : Array Obj :=
  ((((((((begin Tryz.prog (fun _ _ => 0) default).world.heap.setIfInBounds 1 (.cells (Lib.pow10Tab.map (Value.int .u64)).toArray 438)).setIfInBounds 2 (.cells (i8 (litsU8 Rows.laid_math_bits_deBruijn32tab)) 480)).setIfInBounds 3 (.cells (i8 (litsU8 Rows.laid_math_bits_deBruijn64tab)) 481)).setIfInBounds 4 (.cells #[.iface 497 (.pointer (some ⟨13, 0, none⟩))] 168)).setIfInBounds 5 (.cells #[.iface 497 (.pointer (some ⟨14, 0, none⟩))] 168)).setIfInBounds 6 (.cells (i8 Go.Pinned.utf8FirstZ) 489)).setIfInBounds 7 (.cells (i8 (litsU8 Rows.laid_unicode_utf8_acceptRanges)) 492)).push (.cells #[errS Rows.laid_strconv_ErrSyntax] 499)
noncomputable def w0 (os : Os) : World := { World.holding Tryz.prog os ⟨#[], #[], []⟩ with heap := hp.push (.cells #[errS Rows.laid_strconv_ErrRange] 499) }
theorem met1 (os : Os) (args : Array Value) : (DataW.laidRun Tryz.prog ((w0 os).forCall (fun _ _ => 0) ⟨#[], args, []⟩).memory 8 ((laid.filter fun x => x.2.handleName?.isNone).map (·.1))).map (·.1) = some (laid.filter fun x => x.2.handleName?.isNone) := by kernel_rfl
theorem door_met (os : Os) (args : Array Value) : laidMetH Tryz.prog laid ((w0 os).forCall (fun _ _ => 0) ⟨#[], args, []⟩).memory :=
  laidMetH_of_parts3 (fuel := 8) (laidMet_of_run' 8 (met1 os args) (by as_aux_lemma => kernel_rfl)) (by as_aux_lemma => kernel_rfl) (by as_aux_lemma => kernel_rfl)
theorem glb {W : World} (hL : laidMetH Tryz.prog laid W) (hS : W.ShapedOpen Tryz.prog) : ∀ b Q, GlbP Tryz.prog b Q → ∃ c t v, W.heap[b]? = some (.cells c t (0, 0)) ∧ c[0]? = some v ∧ v.oneCell' = true ∧ Q (.cells c t (0, 0)) := by
  rw [MakeChecks.laidMetH_plain _ _ _ (by kernel_rfl)] at hL
  rintro b Q (⟨hn, rfl⟩ | ⟨hn, rfl⟩ | ⟨hn, rfl⟩ | ⟨hn, rfl⟩)
  · obtain rfl := Option.some.inj ((show Tryz.prog.globalNamed "strconv.ErrSyntax" = some 4 from by kernel_rfl).symm.trans hn)
    exact glb_err (t := 168) hL (.tail _ (.tail _ (.tail _ (.tail _ (.tail _ (.head _)))))) hn (by kernel_rfl) Tryz.underlying168
  · obtain rfl := Option.some.inj ((show Tryz.prog.globalNamed "strconv.ErrRange" = some 5 from by kernel_rfl).symm.trans hn)
    exact glb_err (t := 168) hL (.tail _ (.tail _ (.tail _ (.tail _ (.head _))))) hn (by kernel_rfl) Tryz.underlying168
  · obtain rfl := Option.some.inj ((show Tryz.prog.globalNamed "internal/strconv.uint64pow10" = some 1 from by kernel_rfl).symm.trans hn)
    exact glb_tab (t := 438) (e := 406) (k := 20) hL (.tail _ (.tail _ (.head _))) hn (by kernel_rfl) Tryz.underlying438 Tryz.underlying406 (by kernel_rfl) (by kernel_rfl)
  · obtain rfl := Option.some.inj ((show Tryz.prog.globalNamed "internal/bytealg.MaxLen" = some 0 from by kernel_rfl).symm.trans hn)
    exact glb_max (t := 3) (zero := #[.int .i64 0]) hS (by decide) (by kernel_rfl) rfl (by kernel_rfl) (by kernel_rfl) Tryz.underlying3

set_option maxRecDepth 100000 in
theorem lifted (os : Os) (started : os.Started) (H : Type) (enc : TypeId × Value → H) (F : Stop.Interp) :
    ReturnsInHanded {} Tryz.checked os 13 .any ((OpenSpec.ofChange Rows.logbookNamesSpec).preRow enc Tryz.prog Tryz.f13 Rows.logbookNamesRow.domain false laid) (((OpenSpec.ofChange Rows.logbookNamesSpec).at F).post enc Tryz.prog Tryz.f13 false true false false) := by
  refine returnsInHanded_of_row (C := Tryz.checked) own started (by kernel_rfl) Tryz.func13 ?_ ?_
  · obtain ⟨w, tape, i, h1, h2, h3, h4, ⟨⟨h5, h6⟩, h7⟩, h8⟩ := ChangeSpec.witness_shaped (enc := enc) (C := Tryz.checked) (os := os) (f := 13) (fn := Tryz.f13) (s := Rows.logbookNamesSpec) (conds := Rows.logbookNamesRow.domain) (apart := false) (X := fun w _ => laidMetH Tryz.prog laid w) false (w0 os) #[] 8 rfl (World.shaped_of_RefB (by as_aux_lemma => kernel_rfl) (by as_aux_lemma => kernel_rfl)) (by as_aux_lemma => kernel_rfl) (by as_aux_lemma => kernel_rfl) (by as_aux_lemma => kernel_rfl) (door_met os _)
    exact ⟨w, tape, i, h1, h2, h3, h4, ⟨⟨h5, h6⟩, h7⟩, h8⟩
  intro W base args ds gs before hval0 hW _ _ _ hL hS _
  have hval : ∀ (j : Nat) t v, Tryz.f13.params[j]? = some t → args[j]? = some v → Value.okWide Tryz.prog W .any base t v := hval0
  have hW' := hW
  obtain ⟨p, q, hA0, hV, rfl, hfz, hnd⟩ := hW
  have hA : DataW.TrodAll enc Tryz.prog W 0 (fun _ => true) true Tryz.f13.params.toList args.toList ds p := hA0
  rw [Tryz.params13] at hA hval
  obtain ⟨rfl, rfl, rfl⟩ := trodAll_none hA
  obtain ⟨rfl, rfl⟩ := trodVars_none hV
  obtain ⟨σ', hl⟩ := go_LogbookNames  
  refine (top_calls TT mixed hl (W := W) (vs := #[]) (glb hL hS) (.nil)).mono fun e W' ⟨he, bel⟩ => ?_
  subst he
  exact ⟨_, rfl, _, _, _, [], _, [], hW', trodAll_mk1 (shut_bool (t := 4) (by kernel_rfl) _), (trodAll_mk0), rfl, bel.frame _, fun h => by cases h⟩

theorem band {a b : Bool} (h1 : a = true) (h2 : b = true) : (a && b) = true := by rw [h1, h2]; rfl
theorem cW : Rows.logbookNamesRow.wf (OpenSpec.ofChange (OpenSpec.ofChange Rows.logbookNamesSpec).bare) = true := by kernel_rfl
theorem cO : laidOutB Tryz.checked.prog = true := laidOut
theorem cR : mapsRowed Tryz.checked.prog = true := by kernel_rfl
theorem cB : ((Rows.logbookNamesRow.inPlace == Tryz.checked.prog.inPlace 13) && (Rows.logbookNamesRow.unfollowed == Tryz.checked.prog.unfollowed 13) && (Rows.logbookNamesRow.recurses == Tryz.checked.prog.recurses 13) && (Rows.logbookNamesRow.named == Tryz.checked.prog.varsNamed 13)) = true := by kernel_rfl
theorem cE : Tryz.checked.prog.mayEnter = true := by kernel_rfl
theorem cL : (Rows.logbookNamesRow.lifted == Tryz.checked.prog.liftsFinal) = true := by kernel_rfl
theorem cP : ((Rows.logbookNamesRow.plainKeys == Tryz.checked.prog.plainKeys) && Tryz.checked.prog.stopsHeard) = true := by kernel_rfl
theorem closed : joinedFacts Tryz.checked.prog 13 Tryz.f13 (OpenSpec.ofChange Rows.logbookNamesSpec).bare Rows.logbookNamesRow = true := by
  have hB := cB
  have hP := cP
  simp only [Bool.and_eq_true] at hB hP
  obtain ⟨⟨⟨b1, b2⟩, b3⟩, b4⟩ := hB
  obtain ⟨p1, p2⟩ := hP
  unfold joinedFacts
  repeat' (with_reducible refine band ?_ ?_)
  all_goals first | with_reducible exact cW | with_reducible exact cO | with_reducible exact cR | with_reducible exact b1 | with_reducible exact b2 | with_reducible exact b3 | with_reducible exact b4 | with_reducible exact cE | with_reducible exact cL | with_reducible exact p1 | with_reducible exact p2 | skip
  all_goals as_aux_lemma => kernel_rfl
theorem over : Rows.logbookNamesRow.holds Tryz.pinned (OpenSpec.ofChange Rows.logbookNamesSpec) :=
  OpenClaim.holds_of_cond 13 Tryz.f13 rfl rfl rfl rfl rfl rfl rfl ⟨rfl, rfl, rfl, rfl, rfl⟩ rfl rfl rfl rfl rfl (by as_aux_lemma => kernel_rfl) Tryz.func13 closed
    (of_decide_eq_true (by kernel_rfl)) (by unfold Func.isWrapper; first | (rw [if_pos (by decide +kernel)]; kernel_rfl) | (rw [if_neg (by decide +kernel)]; exact ⟨rfl, rfl⟩))
    (fun os started H enc _ F => by rw [OpenClaim.pre_eq_preRow]; exact lifted os started H enc F)

end Go.Proofs.YtfgljaglidhjiaaGreatDoor.logbookNamesDone

