/- The table of functions: all that it says is the program's. -/
import Derived.Test.YtcccafphhmcifaaF0
import Derived.Test.YtcccafphhmcifaaF1
import Derived.Test.YtcccafphhmcifaaF2
import Derived.Test.YtcccafphhmcifaaF3
import Derived.Test.YtcccafphhmcifaaF4
import Derived.Test.YtcccafphhmcifaaLays
import Derived.Test.YtcccafphhmcifaaBase2
set_option linter.unusedVariables false
set_option maxRecDepth 100000
namespace Go.Proofs.Ytcccafphhmcifaa
open Go Go.Abs
def tbl : List (Nat × Abs.Fn) := [(i_law11_LeaseSplits, f_law11_LeaseSplits), (i_law11_LeaseFair, f_law11_LeaseFair), (i_law11_LeaseEither, f_law11_LeaseEither), (i_law11_LeaseLeasts, f_law11_LeaseLeasts), (i_law11_LeaseWider, f_law11_LeaseWider), (i_law11_LeaseSafe, f_law11_LeaseSafe), (i_law11_LeaseMore, f_law11_LeaseMore), (i_law11_LeaseAll, f_law11_LeaseAll), (i_law11_wakes, f_law11_wakes), (i_lease_Split, f_lease_Split), (i_law11_list, f_law11_list), (i_ref11_In, f_ref11_In), (i_ref11_Weights, f_ref11_Weights), (i_law11_ints, f_law11_ints), (i_ref11_Split, f_ref11_Split), (i_ref11_RightProgramme, f_ref11_RightProgramme), (i_law11_Programme, f_law11_Programme), (i_lease_Drill, f_lease_Drill), (i_lease_Short, f_lease_Short), (i_lease_Least, f_lease_Least), (i_ref11_Least, f_ref11_Least), (i_law11_some, f_law11_some), (i_ref11_Springs, f_ref11_Springs), (i_ref11_Takes, f_ref11_Takes), (i_law11_Springs, f_law11_Springs), (i_lease_Behind, f_lease_Behind), (i_lease_Harmed, f_lease_Harmed), (i_law11_has, f_law11_has), (i_lease_Room, f_lease_Room), (i_lease_Royalty, f_lease_Royalty), (i_law11_Rule, f_law11_Rule), (i_ref11_RightRule, f_ref11_RightRule), (i_law11_few, f_law11_few), (i_ref11_Right, f_ref11_Right), (i_law11_Concession, f_law11_Concession), (i_lease_Divide, f_lease_Divide), (i_ref11_Both, f_ref11_Both), (i_lease_Due, f_lease_Due), (i_law11_tracts, f_law11_tracts), (i_law11_pool, f_law11_pool), (i_law11_drilled, f_law11_drilled), (i_lease_total, f_lease_total), (i_lease_within, f_lease_within), (i_lease_all_int, f_lease_all_int), (i_lease_sum, f_lease_sum), (i_lease_part, f_lease_part), (i_lease_ranked_lease_portion, f_lease_ranked_lease_portion), (i_lease_Split_1, f_lease_Split_1), (i_ref11_part, f_ref11_part), (i_lease_Programme_valid, f_lease_Programme_valid), (i_lease_work_table, f_lease_work_table), (i_lease_ladder_at, f_lease_ladder_at), (i_lease_Programme_meets, f_lease_Programme_meets), (i_lease_Year_cost, f_lease_Year_cost), (i_lease_Programme_after, f_lease_Programme_after), (i_lease_taking, f_lease_taking), (i_lease_Spring_behind, f_lease_Spring_behind), (i_lease_Rule_valid, f_lease_Rule_valid), (i_lease_Concession_valid, f_lease_Concession_valid), (i_lease_Concession_masses, f_lease_Concession_masses), (i_slices_Clone_int, f_slices_Clone_int), (i_lease_Concession_due, f_lease_Concession_due), (i_slices_ContainsFunc_int, f_slices_ContainsFunc_int), (i_lease_all_int_1, f_lease_all_int_1), (i_slices_SortStableFunc_int, f_slices_SortStableFunc_int), (i_lease_ranked_lease_portion_1, f_lease_ranked_lease_portion_1), (i_lease_all_lease_Year, f_lease_all_lease_Year), (i_lease_Programme_valid_1, f_lease_Programme_valid_1), (i_lease_work_ladders, f_lease_work_ladders), (i_slices_BinarySearchFunc_lease_ladder_lease_Rung_int, f_slices_BinarySearchFunc_lease_ladder_lease_Rung_int), (i_lease_ladder_at_1, f_lease_ladder_at_1), (i_lease_springs, f_lease_springs), (i_lease_taking_1, f_lease_taking_1), (i_lease_all_L_int, f_lease_all_L_int), (i_lease_Concession_valid_1, f_lease_Concession_valid_1), (i_lease_Concession_valid_1_1, f_lease_Concession_valid_1_1), (i_slices_IndexFunc_int, f_slices_IndexFunc_int), (i_slices_stableCmpFunc_int, f_slices_stableCmpFunc_int), (i_slices_ContainsFunc_lease_Year, f_slices_ContainsFunc_lease_Year), (i_lease_all_lease_Year_1, f_lease_all_lease_Year_1), (i_lease_work_ladders_1, f_lease_work_ladders_1), (i_lease_work_breaks, f_lease_work_breaks), (i_lease_work_least, f_lease_work_least), (i_lease_all_lease_Spring, f_lease_all_lease_Spring), (i_lease_springs_1, f_lease_springs_1), (i_lease_all_lease_Range, f_lease_all_lease_Range), (i_lease_springs_1_1, f_lease_springs_1_1), (i_slices_ContainsFunc_L_int, f_slices_ContainsFunc_L_int), (i_lease_all_L_int_1, f_lease_all_L_int_1), (i_slices_insertionSortCmpFunc_int, f_slices_insertionSortCmpFunc_int), (i_slices_symMergeCmpFunc_int, f_slices_symMergeCmpFunc_int), (i_slices_IndexFunc_lease_Year, f_slices_IndexFunc_lease_Year), (i_lease_work_breaks_1, f_lease_work_breaks_1), (i_slices_ContainsFunc_lease_Spring, f_slices_ContainsFunc_lease_Spring), (i_lease_all_lease_Spring_1, f_lease_all_lease_Spring_1), (i_slices_ContainsFunc_lease_Range, f_slices_ContainsFunc_lease_Range), (i_lease_all_lease_Range_1, f_lease_all_lease_Range_1), (i_slices_IndexFunc_L_int, f_slices_IndexFunc_L_int), (i_slices_rotateCmpFunc_int, f_slices_rotateCmpFunc_int), (i_slices_IndexFunc_lease_Spring, f_slices_IndexFunc_lease_Spring), (i_slices_IndexFunc_lease_Range, f_slices_IndexFunc_lease_Range), (i_slices_swapRangeCmpFunc_int, f_slices_swapRangeCmpFunc_int), (1000000 + i_slices_Sort_int, ⟨1, [], .exit 0⟩), (1000000 + i_slices_Compact_int, ⟨2, [], .exit 0⟩)]
def T : Tbl := fun f => (tbl.find? fun p => p.1 == f).map (·.2)
theorem T_law11_LeaseSplits : T i_law11_LeaseSplits = some f_law11_LeaseSplits := rfl
theorem T_law11_LeaseFair : T i_law11_LeaseFair = some f_law11_LeaseFair := rfl
theorem T_law11_LeaseEither : T i_law11_LeaseEither = some f_law11_LeaseEither := rfl
theorem T_law11_LeaseLeasts : T i_law11_LeaseLeasts = some f_law11_LeaseLeasts := rfl
theorem T_law11_LeaseWider : T i_law11_LeaseWider = some f_law11_LeaseWider := rfl
theorem T_law11_LeaseSafe : T i_law11_LeaseSafe = some f_law11_LeaseSafe := rfl
theorem T_law11_LeaseMore : T i_law11_LeaseMore = some f_law11_LeaseMore := rfl
theorem T_law11_LeaseAll : T i_law11_LeaseAll = some f_law11_LeaseAll := rfl
theorem T_law11_wakes : T i_law11_wakes = some f_law11_wakes := rfl
theorem T_lease_Split : T i_lease_Split = some f_lease_Split := rfl
theorem T_law11_list : T i_law11_list = some f_law11_list := rfl
theorem T_ref11_In : T i_ref11_In = some f_ref11_In := rfl
theorem T_ref11_Weights : T i_ref11_Weights = some f_ref11_Weights := rfl
theorem T_law11_ints : T i_law11_ints = some f_law11_ints := rfl
theorem T_ref11_Split : T i_ref11_Split = some f_ref11_Split := rfl
theorem T_ref11_RightProgramme : T i_ref11_RightProgramme = some f_ref11_RightProgramme := rfl
theorem T_law11_Programme : T i_law11_Programme = some f_law11_Programme := rfl
theorem T_lease_Drill : T i_lease_Drill = some f_lease_Drill := rfl
theorem T_lease_Short : T i_lease_Short = some f_lease_Short := rfl
theorem T_lease_Least : T i_lease_Least = some f_lease_Least := rfl
theorem T_ref11_Least : T i_ref11_Least = some f_ref11_Least := rfl
theorem T_law11_some : T i_law11_some = some f_law11_some := rfl
theorem T_ref11_Springs : T i_ref11_Springs = some f_ref11_Springs := rfl
theorem T_ref11_Takes : T i_ref11_Takes = some f_ref11_Takes := rfl
theorem T_law11_Springs : T i_law11_Springs = some f_law11_Springs := rfl
theorem T_lease_Behind : T i_lease_Behind = some f_lease_Behind := rfl
theorem T_lease_Harmed : T i_lease_Harmed = some f_lease_Harmed := rfl
theorem T_law11_has : T i_law11_has = some f_law11_has := rfl
theorem T_lease_Room : T i_lease_Room = some f_lease_Room := rfl
theorem T_lease_Royalty : T i_lease_Royalty = some f_lease_Royalty := rfl
theorem T_law11_Rule : T i_law11_Rule = some f_law11_Rule := rfl
theorem T_ref11_RightRule : T i_ref11_RightRule = some f_ref11_RightRule := rfl
theorem T_law11_few : T i_law11_few = some f_law11_few := rfl
theorem T_ref11_Right : T i_ref11_Right = some f_ref11_Right := rfl
theorem T_law11_Concession : T i_law11_Concession = some f_law11_Concession := rfl
theorem T_lease_Divide : T i_lease_Divide = some f_lease_Divide := rfl
theorem T_ref11_Both : T i_ref11_Both = some f_ref11_Both := rfl
theorem T_lease_Due : T i_lease_Due = some f_lease_Due := rfl
theorem T_law11_tracts : T i_law11_tracts = some f_law11_tracts := rfl
theorem T_law11_pool : T i_law11_pool = some f_law11_pool := rfl
theorem T_law11_drilled : T i_law11_drilled = some f_law11_drilled := rfl
theorem T_lease_total : T i_lease_total = some f_lease_total := rfl
theorem T_lease_within : T i_lease_within = some f_lease_within := rfl
theorem T_lease_all_int : T i_lease_all_int = some f_lease_all_int := rfl
theorem T_lease_sum : T i_lease_sum = some f_lease_sum := rfl
theorem T_lease_part : T i_lease_part = some f_lease_part := rfl
theorem T_lease_ranked_lease_portion : T i_lease_ranked_lease_portion = some f_lease_ranked_lease_portion := rfl
theorem T_lease_Split_1 : T i_lease_Split_1 = some f_lease_Split_1 := rfl
theorem T_ref11_part : T i_ref11_part = some f_ref11_part := rfl
theorem T_lease_Programme_valid : T i_lease_Programme_valid = some f_lease_Programme_valid := rfl
theorem T_lease_work_table : T i_lease_work_table = some f_lease_work_table := rfl
theorem T_lease_ladder_at : T i_lease_ladder_at = some f_lease_ladder_at := rfl
theorem T_lease_Programme_meets : T i_lease_Programme_meets = some f_lease_Programme_meets := rfl
theorem T_lease_Year_cost : T i_lease_Year_cost = some f_lease_Year_cost := rfl
theorem T_lease_Programme_after : T i_lease_Programme_after = some f_lease_Programme_after := rfl
theorem T_lease_taking : T i_lease_taking = some f_lease_taking := rfl
theorem T_lease_Spring_behind : T i_lease_Spring_behind = some f_lease_Spring_behind := rfl
theorem T_lease_Rule_valid : T i_lease_Rule_valid = some f_lease_Rule_valid := rfl
theorem T_lease_Concession_valid : T i_lease_Concession_valid = some f_lease_Concession_valid := rfl
theorem T_lease_Concession_masses : T i_lease_Concession_masses = some f_lease_Concession_masses := rfl
theorem T_slices_Clone_int : T i_slices_Clone_int = some f_slices_Clone_int := rfl
theorem T_lease_Concession_due : T i_lease_Concession_due = some f_lease_Concession_due := rfl
theorem T_slices_ContainsFunc_int : T i_slices_ContainsFunc_int = some f_slices_ContainsFunc_int := rfl
theorem T_lease_all_int_1 : T i_lease_all_int_1 = some f_lease_all_int_1 := rfl
theorem T_slices_SortStableFunc_int : T i_slices_SortStableFunc_int = some f_slices_SortStableFunc_int := rfl
theorem T_lease_ranked_lease_portion_1 : T i_lease_ranked_lease_portion_1 = some f_lease_ranked_lease_portion_1 := rfl
theorem T_lease_all_lease_Year : T i_lease_all_lease_Year = some f_lease_all_lease_Year := rfl
theorem T_lease_Programme_valid_1 : T i_lease_Programme_valid_1 = some f_lease_Programme_valid_1 := rfl
theorem T_lease_work_ladders : T i_lease_work_ladders = some f_lease_work_ladders := rfl
theorem T_slices_BinarySearchFunc_lease_ladder_lease_Rung_int : T i_slices_BinarySearchFunc_lease_ladder_lease_Rung_int = some f_slices_BinarySearchFunc_lease_ladder_lease_Rung_int := rfl
theorem T_lease_ladder_at_1 : T i_lease_ladder_at_1 = some f_lease_ladder_at_1 := rfl
theorem T_lease_springs : T i_lease_springs = some f_lease_springs := rfl
theorem T_lease_taking_1 : T i_lease_taking_1 = some f_lease_taking_1 := rfl
theorem T_lease_all_L_int : T i_lease_all_L_int = some f_lease_all_L_int := rfl
theorem T_lease_Concession_valid_1 : T i_lease_Concession_valid_1 = some f_lease_Concession_valid_1 := rfl
theorem T_lease_Concession_valid_1_1 : T i_lease_Concession_valid_1_1 = some f_lease_Concession_valid_1_1 := rfl
theorem T_slices_IndexFunc_int : T i_slices_IndexFunc_int = some f_slices_IndexFunc_int := rfl
theorem T_slices_stableCmpFunc_int : T i_slices_stableCmpFunc_int = some f_slices_stableCmpFunc_int := rfl
theorem T_slices_ContainsFunc_lease_Year : T i_slices_ContainsFunc_lease_Year = some f_slices_ContainsFunc_lease_Year := rfl
theorem T_lease_all_lease_Year_1 : T i_lease_all_lease_Year_1 = some f_lease_all_lease_Year_1 := rfl
theorem T_lease_work_ladders_1 : T i_lease_work_ladders_1 = some f_lease_work_ladders_1 := rfl
theorem T_lease_work_breaks : T i_lease_work_breaks = some f_lease_work_breaks := rfl
theorem T_lease_work_least : T i_lease_work_least = some f_lease_work_least := rfl
theorem T_lease_all_lease_Spring : T i_lease_all_lease_Spring = some f_lease_all_lease_Spring := rfl
theorem T_lease_springs_1 : T i_lease_springs_1 = some f_lease_springs_1 := rfl
theorem T_lease_all_lease_Range : T i_lease_all_lease_Range = some f_lease_all_lease_Range := rfl
theorem T_lease_springs_1_1 : T i_lease_springs_1_1 = some f_lease_springs_1_1 := rfl
theorem T_slices_ContainsFunc_L_int : T i_slices_ContainsFunc_L_int = some f_slices_ContainsFunc_L_int := rfl
theorem T_lease_all_L_int_1 : T i_lease_all_L_int_1 = some f_lease_all_L_int_1 := rfl
theorem T_slices_insertionSortCmpFunc_int : T i_slices_insertionSortCmpFunc_int = some f_slices_insertionSortCmpFunc_int := rfl
theorem T_slices_symMergeCmpFunc_int : T i_slices_symMergeCmpFunc_int = some f_slices_symMergeCmpFunc_int := rfl
theorem T_slices_IndexFunc_lease_Year : T i_slices_IndexFunc_lease_Year = some f_slices_IndexFunc_lease_Year := rfl
theorem T_lease_work_breaks_1 : T i_lease_work_breaks_1 = some f_lease_work_breaks_1 := rfl
theorem T_slices_ContainsFunc_lease_Spring : T i_slices_ContainsFunc_lease_Spring = some f_slices_ContainsFunc_lease_Spring := rfl
theorem T_lease_all_lease_Spring_1 : T i_lease_all_lease_Spring_1 = some f_lease_all_lease_Spring_1 := rfl
theorem T_slices_ContainsFunc_lease_Range : T i_slices_ContainsFunc_lease_Range = some f_slices_ContainsFunc_lease_Range := rfl
theorem T_lease_all_lease_Range_1 : T i_lease_all_lease_Range_1 = some f_lease_all_lease_Range_1 := rfl
theorem T_slices_IndexFunc_L_int : T i_slices_IndexFunc_L_int = some f_slices_IndexFunc_L_int := rfl
theorem T_slices_rotateCmpFunc_int : T i_slices_rotateCmpFunc_int = some f_slices_rotateCmpFunc_int := rfl
theorem T_slices_IndexFunc_lease_Spring : T i_slices_IndexFunc_lease_Spring = some f_slices_IndexFunc_lease_Spring := rfl
theorem T_slices_IndexFunc_lease_Range : T i_slices_IndexFunc_lease_Range = some f_slices_IndexFunc_lease_Range := rfl
theorem T_slices_swapRangeCmpFunc_int : T i_slices_swapRangeCmpFunc_int = some f_slices_swapRangeCmpFunc_int := rfl
theorem mixed : Try.prog.follows .mixedOrders = true := by kernel_rfl
theorem T_slices_Sort_int : T i_slices_Sort_int = none := rfl
theorem N_slices_Sort_int : T (1000000 + i_slices_Sort_int) = some ⟨1, [], .exit 0⟩ := rfl
theorem T_slices_Compact_int : T i_slices_Compact_int = none := rfl
theorem N_slices_Compact_int : T (1000000 + i_slices_Compact_int) = some ⟨2, [], .exit 0⟩ := rfl
def FOk (f : Nat) (fn : Abs.Fn) : Prop := if f < 1000000 then FnOk Try.prog f fn else fn.body = .exit 0 ∧ NatOk Try.prog fn.npar (f - 1000000)
theorem fok {f : Nat} {fn : Abs.Fn} (h : f < 1000000) (h' : FnOk Try.prog f fn) : FOk f fn := by unfold FOk; rw [if_pos h]; exact h'
theorem nok {k f : Nat} (h' : NatOk Try.prog k f) : FOk (1000000 + f) ⟨k, [], .exit 0⟩ := by unfold FOk; rw [if_neg (by omega), show 1000000 + f - 1000000 = f from by omega]; exact ⟨rfl, h'⟩
theorem F_law11_LeaseSplits : FOk i_law11_LeaseSplits f_law11_LeaseSplits := fok (by decide) ⟨Try.f3, _, a_law11_LeaseSplits, Try.func3, by decide, rfl, ok_law11_LeaseSplits⟩
theorem F_law11_LeaseFair : FOk i_law11_LeaseFair f_law11_LeaseFair := fok (by decide) ⟨Try.f4, _, a_law11_LeaseFair, Try.func4, by decide, rfl, ok_law11_LeaseFair⟩
theorem F_law11_LeaseEither : FOk i_law11_LeaseEither f_law11_LeaseEither := fok (by decide) ⟨Try.f5, _, a_law11_LeaseEither, Try.func5, by decide, rfl, ok_law11_LeaseEither⟩
theorem F_law11_LeaseLeasts : FOk i_law11_LeaseLeasts f_law11_LeaseLeasts := fok (by decide) ⟨Try.f6, _, a_law11_LeaseLeasts, Try.func6, by decide, rfl, ok_law11_LeaseLeasts⟩
theorem F_law11_LeaseWider : FOk i_law11_LeaseWider f_law11_LeaseWider := fok (by decide) ⟨Try.f7, _, a_law11_LeaseWider, Try.func7, by decide, rfl, ok_law11_LeaseWider⟩
theorem F_law11_LeaseSafe : FOk i_law11_LeaseSafe f_law11_LeaseSafe := fok (by decide) ⟨Try.f8, _, a_law11_LeaseSafe, Try.func8, by decide, rfl, ok_law11_LeaseSafe⟩
theorem F_law11_LeaseMore : FOk i_law11_LeaseMore f_law11_LeaseMore := fok (by decide) ⟨Try.f10, _, a_law11_LeaseMore, Try.func10, by decide, rfl, ok_law11_LeaseMore⟩
theorem F_law11_LeaseAll : FOk i_law11_LeaseAll f_law11_LeaseAll := fok (by decide) ⟨Try.f11, _, a_law11_LeaseAll, Try.func11, by decide, rfl, ok_law11_LeaseAll⟩
theorem F_law11_wakes : FOk i_law11_wakes f_law11_wakes := fok (by decide) ⟨Try.f12, _, a_law11_wakes, Try.func12, by decide, rfl, ok_law11_wakes⟩
theorem F_lease_Split : FOk i_lease_Split f_lease_Split := fok (by decide) ⟨Try.f13, _, a_lease_Split, Try.func13, by decide, rfl, ok_lease_Split⟩
theorem F_law11_list : FOk i_law11_list f_law11_list := fok (by decide) ⟨Try.f14, _, a_law11_list, Try.func14, by decide, rfl, ok_law11_list⟩
theorem F_ref11_In : FOk i_ref11_In f_ref11_In := fok (by decide) ⟨Try.f15, _, a_ref11_In, Try.func15, by decide, rfl, ok_ref11_In⟩
theorem F_ref11_Weights : FOk i_ref11_Weights f_ref11_Weights := fok (by decide) ⟨Try.f16, _, a_ref11_Weights, Try.func16, by decide, rfl, ok_ref11_Weights⟩
theorem F_law11_ints : FOk i_law11_ints f_law11_ints := fok (by decide) ⟨Try.f17, _, a_law11_ints, Try.func17, by decide, rfl, ok_law11_ints⟩
theorem F_ref11_Split : FOk i_ref11_Split f_ref11_Split := fok (by decide) ⟨Try.f18, _, a_ref11_Split, Try.func18, by decide, rfl, ok_ref11_Split⟩
theorem F_ref11_RightProgramme : FOk i_ref11_RightProgramme f_ref11_RightProgramme := fok (by decide) ⟨Try.f19, _, a_ref11_RightProgramme, Try.func19, by decide, rfl, ok_ref11_RightProgramme⟩
theorem F_law11_Programme : FOk i_law11_Programme f_law11_Programme := fok (by decide) ⟨Try.f20, _, a_law11_Programme, Try.func20, by decide, rfl, ok_law11_Programme⟩
theorem F_lease_Drill : FOk i_lease_Drill f_lease_Drill := fok (by decide) ⟨Try.f21, _, a_lease_Drill, Try.func21, by decide, rfl, ok_lease_Drill⟩
theorem F_lease_Short : FOk i_lease_Short f_lease_Short := fok (by decide) ⟨Try.f22, _, a_lease_Short, Try.func22, by decide, rfl, ok_lease_Short⟩
theorem F_lease_Least : FOk i_lease_Least f_lease_Least := fok (by decide) ⟨Try.f23, _, a_lease_Least, Try.func23, by decide, rfl, ok_lease_Least⟩
theorem F_ref11_Least : FOk i_ref11_Least f_ref11_Least := fok (by decide) ⟨Try.f24, _, a_ref11_Least, Try.func24, by decide, rfl, ok_ref11_Least⟩
theorem F_law11_some : FOk i_law11_some f_law11_some := fok (by decide) ⟨Try.f25, _, a_law11_some, Try.func25, by decide, rfl, ok_law11_some⟩
theorem F_ref11_Springs : FOk i_ref11_Springs f_ref11_Springs := fok (by decide) ⟨Try.f26, _, a_ref11_Springs, Try.func26, by decide, rfl, ok_ref11_Springs⟩
theorem F_ref11_Takes : FOk i_ref11_Takes f_ref11_Takes := fok (by decide) ⟨Try.f27, _, a_ref11_Takes, Try.func27, by decide, rfl, ok_ref11_Takes⟩
theorem F_law11_Springs : FOk i_law11_Springs f_law11_Springs := fok (by decide) ⟨Try.f28, _, a_law11_Springs, Try.func28, by decide, rfl, ok_law11_Springs⟩
theorem F_lease_Behind : FOk i_lease_Behind f_lease_Behind := fok (by decide) ⟨Try.f29, _, a_lease_Behind, Try.func29, by decide, rfl, ok_lease_Behind⟩
theorem F_lease_Harmed : FOk i_lease_Harmed f_lease_Harmed := fok (by decide) ⟨Try.f30, _, a_lease_Harmed, Try.func30, by decide, rfl, ok_lease_Harmed⟩
theorem F_law11_has : FOk i_law11_has f_law11_has := fok (by decide) ⟨Try.f31, _, a_law11_has, Try.func31, by decide, rfl, ok_law11_has⟩
theorem F_lease_Room : FOk i_lease_Room f_lease_Room := fok (by decide) ⟨Try.f32, _, a_lease_Room, Try.func32, by decide, rfl, ok_lease_Room⟩
theorem F_lease_Royalty : FOk i_lease_Royalty f_lease_Royalty := fok (by decide) ⟨Try.f33, _, a_lease_Royalty, Try.func33, by decide, rfl, ok_lease_Royalty⟩
theorem F_law11_Rule : FOk i_law11_Rule f_law11_Rule := fok (by decide) ⟨Try.f34, _, a_law11_Rule, Try.func34, by decide, rfl, ok_law11_Rule⟩
theorem F_ref11_RightRule : FOk i_ref11_RightRule f_ref11_RightRule := fok (by decide) ⟨Try.f35, _, a_ref11_RightRule, Try.func35, by decide, rfl, ok_ref11_RightRule⟩
theorem F_law11_few : FOk i_law11_few f_law11_few := fok (by decide) ⟨Try.f37, _, a_law11_few, Try.func37, by decide, rfl, ok_law11_few⟩
theorem F_ref11_Right : FOk i_ref11_Right f_ref11_Right := fok (by decide) ⟨Try.f38, _, a_ref11_Right, Try.func38, by decide, rfl, ok_ref11_Right⟩
theorem F_law11_Concession : FOk i_law11_Concession f_law11_Concession := fok (by decide) ⟨Try.f39, _, a_law11_Concession, Try.func39, by decide, rfl, ok_law11_Concession⟩
theorem F_lease_Divide : FOk i_lease_Divide f_lease_Divide := fok (by decide) ⟨Try.f40, _, a_lease_Divide, Try.func40, by decide, rfl, ok_lease_Divide⟩
theorem F_ref11_Both : FOk i_ref11_Both f_ref11_Both := fok (by decide) ⟨Try.f41, _, a_ref11_Both, Try.func41, by decide, rfl, ok_ref11_Both⟩
theorem F_lease_Due : FOk i_lease_Due f_lease_Due := fok (by decide) ⟨Try.f42, _, a_lease_Due, Try.func42, by decide, rfl, ok_lease_Due⟩
theorem F_law11_tracts : FOk i_law11_tracts f_law11_tracts := fok (by decide) ⟨Try.f43, _, a_law11_tracts, Try.func43, by decide, rfl, ok_law11_tracts⟩
theorem F_law11_pool : FOk i_law11_pool f_law11_pool := fok (by decide) ⟨Try.f44, _, a_law11_pool, Try.func44, by decide, rfl, ok_law11_pool⟩
theorem F_law11_drilled : FOk i_law11_drilled f_law11_drilled := fok (by decide) ⟨Try.f45, _, a_law11_drilled, Try.func45, by decide, rfl, ok_law11_drilled⟩
theorem F_lease_total : FOk i_lease_total f_lease_total := fok (by decide) ⟨Try.f46, _, a_lease_total, Try.func46, by decide, rfl, ok_lease_total⟩
theorem F_lease_within : FOk i_lease_within f_lease_within := fok (by decide) ⟨Try.f47, _, a_lease_within, Try.func47, by decide, rfl, ok_lease_within⟩
theorem F_lease_all_int : FOk i_lease_all_int f_lease_all_int := fok (by decide) ⟨Try.f48, _, a_lease_all_int, Try.func48, by decide, rfl, ok_lease_all_int⟩
theorem F_lease_sum : FOk i_lease_sum f_lease_sum := fok (by decide) ⟨Try.f49, _, a_lease_sum, Try.func49, by decide, rfl, ok_lease_sum⟩
theorem F_lease_part : FOk i_lease_part f_lease_part := fok (by decide) ⟨Try.f50, _, a_lease_part, Try.func50, by decide, rfl, ok_lease_part⟩
theorem F_lease_ranked_lease_portion : FOk i_lease_ranked_lease_portion f_lease_ranked_lease_portion := fok (by decide) ⟨Try.f51, _, a_lease_ranked_lease_portion, Try.func51, by decide, rfl, ok_lease_ranked_lease_portion⟩
theorem F_lease_Split_1 : FOk i_lease_Split_1 f_lease_Split_1 := fok (by decide) ⟨Try.f52, _, a_lease_Split_1, Try.func52, by decide, rfl, ok_lease_Split_1⟩
theorem F_ref11_part : FOk i_ref11_part f_ref11_part := fok (by decide) ⟨Try.f53, _, a_ref11_part, Try.func53, by decide, rfl, ok_ref11_part⟩
theorem F_lease_Programme_valid : FOk i_lease_Programme_valid f_lease_Programme_valid := fok (by decide) ⟨Try.f54, _, a_lease_Programme_valid, Try.func54, by decide, rfl, ok_lease_Programme_valid⟩
theorem F_lease_work_table : FOk i_lease_work_table f_lease_work_table := fok (by decide) ⟨Try.f55, _, a_lease_work_table, Try.func55, by decide, rfl, ok_lease_work_table⟩
theorem F_lease_ladder_at : FOk i_lease_ladder_at f_lease_ladder_at := fok (by decide) ⟨Try.f56, _, a_lease_ladder_at, Try.func56, by decide, rfl, ok_lease_ladder_at⟩
theorem F_lease_Programme_meets : FOk i_lease_Programme_meets f_lease_Programme_meets := fok (by decide) ⟨Try.f57, _, a_lease_Programme_meets, Try.func57, by decide, rfl, ok_lease_Programme_meets⟩
theorem F_lease_Year_cost : FOk i_lease_Year_cost f_lease_Year_cost := fok (by decide) ⟨Try.f58, _, a_lease_Year_cost, Try.func58, by decide, rfl, ok_lease_Year_cost⟩
theorem F_lease_Programme_after : FOk i_lease_Programme_after f_lease_Programme_after := fok (by decide) ⟨Try.f59, _, a_lease_Programme_after, Try.func59, by decide, rfl, ok_lease_Programme_after⟩
theorem F_lease_taking : FOk i_lease_taking f_lease_taking := fok (by decide) ⟨Try.f60, _, a_lease_taking, Try.func60, by decide, rfl, ok_lease_taking⟩
theorem F_lease_Spring_behind : FOk i_lease_Spring_behind f_lease_Spring_behind := fok (by decide) ⟨Try.f61, _, a_lease_Spring_behind, Try.func61, by decide, rfl, ok_lease_Spring_behind⟩
theorem F_lease_Rule_valid : FOk i_lease_Rule_valid f_lease_Rule_valid := fok (by decide) ⟨Try.f62, _, a_lease_Rule_valid, Try.func62, by decide, rfl, ok_lease_Rule_valid⟩
theorem F_lease_Concession_valid : FOk i_lease_Concession_valid f_lease_Concession_valid := fok (by decide) ⟨Try.f63, _, a_lease_Concession_valid, Try.func63, by decide, rfl, ok_lease_Concession_valid⟩
theorem F_lease_Concession_masses : FOk i_lease_Concession_masses f_lease_Concession_masses := fok (by decide) ⟨Try.f64, _, a_lease_Concession_masses, Try.func64, by decide, rfl, ok_lease_Concession_masses⟩
theorem F_slices_Clone_int : FOk i_slices_Clone_int f_slices_Clone_int := fok (by decide) ⟨Try.f65, _, a_slices_Clone_int, Try.func65, by decide, rfl, ok_slices_Clone_int⟩
theorem F_lease_Concession_due : FOk i_lease_Concession_due f_lease_Concession_due := fok (by decide) ⟨Try.f66, _, a_lease_Concession_due, Try.func66, by decide, rfl, ok_lease_Concession_due⟩
theorem F_slices_ContainsFunc_int : FOk i_slices_ContainsFunc_int f_slices_ContainsFunc_int := fok (by decide) ⟨Try.f67, _, a_slices_ContainsFunc_int, Try.func67, by decide, rfl, ok_slices_ContainsFunc_int⟩
theorem F_lease_all_int_1 : FOk i_lease_all_int_1 f_lease_all_int_1 := fok (by decide) ⟨Try.f68, _, a_lease_all_int_1, Try.func68, by decide, rfl, ok_lease_all_int_1⟩
theorem F_slices_SortStableFunc_int : FOk i_slices_SortStableFunc_int f_slices_SortStableFunc_int := fok (by decide) ⟨Try.f69, _, a_slices_SortStableFunc_int, Try.func69, by decide, rfl, ok_slices_SortStableFunc_int⟩
theorem F_lease_ranked_lease_portion_1 : FOk i_lease_ranked_lease_portion_1 f_lease_ranked_lease_portion_1 := fok (by decide) ⟨Try.f70, _, a_lease_ranked_lease_portion_1, Try.func70, by decide, rfl, ok_lease_ranked_lease_portion_1⟩
theorem F_lease_all_lease_Year : FOk i_lease_all_lease_Year f_lease_all_lease_Year := fok (by decide) ⟨Try.f71, _, a_lease_all_lease_Year, Try.func71, by decide, rfl, ok_lease_all_lease_Year⟩
theorem F_lease_Programme_valid_1 : FOk i_lease_Programme_valid_1 f_lease_Programme_valid_1 := fok (by decide) ⟨Try.f72, _, a_lease_Programme_valid_1, Try.func72, by decide, rfl, ok_lease_Programme_valid_1⟩
theorem F_lease_work_ladders : FOk i_lease_work_ladders f_lease_work_ladders := fok (by decide) ⟨Try.f73, _, a_lease_work_ladders, Try.func73, by decide, rfl, ok_lease_work_ladders⟩
theorem F_slices_BinarySearchFunc_lease_ladder_lease_Rung_int : FOk i_slices_BinarySearchFunc_lease_ladder_lease_Rung_int f_slices_BinarySearchFunc_lease_ladder_lease_Rung_int := fok (by decide) ⟨Try.f74, _, a_slices_BinarySearchFunc_lease_ladder_lease_Rung_int, Try.func74, by decide, rfl, ok_slices_BinarySearchFunc_lease_ladder_lease_Rung_int⟩
theorem F_lease_ladder_at_1 : FOk i_lease_ladder_at_1 f_lease_ladder_at_1 := fok (by decide) ⟨Try.f75, _, a_lease_ladder_at_1, Try.func75, by decide, rfl, ok_lease_ladder_at_1⟩
theorem F_lease_springs : FOk i_lease_springs f_lease_springs := fok (by decide) ⟨Try.f76, _, a_lease_springs, Try.func76, by decide, rfl, ok_lease_springs⟩
theorem F_lease_taking_1 : FOk i_lease_taking_1 f_lease_taking_1 := fok (by decide) ⟨Try.f77, _, a_lease_taking_1, Try.func77, by decide, rfl, ok_lease_taking_1⟩
theorem F_lease_all_L_int : FOk i_lease_all_L_int f_lease_all_L_int := fok (by decide) ⟨Try.f78, _, a_lease_all_L_int, Try.func78, by decide, rfl, ok_lease_all_L_int⟩
theorem F_lease_Concession_valid_1 : FOk i_lease_Concession_valid_1 f_lease_Concession_valid_1 := fok (by decide) ⟨Try.f79, _, a_lease_Concession_valid_1, Try.func79, by decide, rfl, ok_lease_Concession_valid_1⟩
theorem F_lease_Concession_valid_1_1 : FOk i_lease_Concession_valid_1_1 f_lease_Concession_valid_1_1 := fok (by decide) ⟨Try.f80, _, a_lease_Concession_valid_1_1, Try.func80, by decide, rfl, ok_lease_Concession_valid_1_1⟩
theorem F_slices_IndexFunc_int : FOk i_slices_IndexFunc_int f_slices_IndexFunc_int := fok (by decide) ⟨Try.f81, _, a_slices_IndexFunc_int, Try.func81, by decide, rfl, ok_slices_IndexFunc_int⟩
theorem F_slices_stableCmpFunc_int : FOk i_slices_stableCmpFunc_int f_slices_stableCmpFunc_int := fok (by decide) ⟨Try.f82, _, a_slices_stableCmpFunc_int, Try.func82, by decide, rfl, ok_slices_stableCmpFunc_int⟩
theorem F_slices_ContainsFunc_lease_Year : FOk i_slices_ContainsFunc_lease_Year f_slices_ContainsFunc_lease_Year := fok (by decide) ⟨Try.f83, _, a_slices_ContainsFunc_lease_Year, Try.func83, by decide, rfl, ok_slices_ContainsFunc_lease_Year⟩
theorem F_lease_all_lease_Year_1 : FOk i_lease_all_lease_Year_1 f_lease_all_lease_Year_1 := fok (by decide) ⟨Try.f84, _, a_lease_all_lease_Year_1, Try.func84, by decide, rfl, ok_lease_all_lease_Year_1⟩
theorem F_lease_work_ladders_1 : FOk i_lease_work_ladders_1 f_lease_work_ladders_1 := fok (by decide) ⟨Try.f85, _, a_lease_work_ladders_1, Try.func85, by decide, rfl, ok_lease_work_ladders_1⟩
theorem F_lease_work_breaks : FOk i_lease_work_breaks f_lease_work_breaks := fok (by decide) ⟨Try.f86, _, a_lease_work_breaks, Try.func86, by decide, rfl, ok_lease_work_breaks⟩
theorem F_lease_work_least : FOk i_lease_work_least f_lease_work_least := fok (by decide) ⟨Try.f87, _, a_lease_work_least, Try.func87, by decide, rfl, ok_lease_work_least⟩
theorem F_lease_all_lease_Spring : FOk i_lease_all_lease_Spring f_lease_all_lease_Spring := fok (by decide) ⟨Try.f88, _, a_lease_all_lease_Spring, Try.func88, by decide, rfl, ok_lease_all_lease_Spring⟩
theorem F_lease_springs_1 : FOk i_lease_springs_1 f_lease_springs_1 := fok (by decide) ⟨Try.f89, _, a_lease_springs_1, Try.func89, by decide, rfl, ok_lease_springs_1⟩
theorem F_lease_all_lease_Range : FOk i_lease_all_lease_Range f_lease_all_lease_Range := fok (by decide) ⟨Try.f90, _, a_lease_all_lease_Range, Try.func90, by decide, rfl, ok_lease_all_lease_Range⟩
theorem F_lease_springs_1_1 : FOk i_lease_springs_1_1 f_lease_springs_1_1 := fok (by decide) ⟨Try.f91, _, a_lease_springs_1_1, Try.func91, by decide, rfl, ok_lease_springs_1_1⟩
theorem F_slices_ContainsFunc_L_int : FOk i_slices_ContainsFunc_L_int f_slices_ContainsFunc_L_int := fok (by decide) ⟨Try.f92, _, a_slices_ContainsFunc_L_int, Try.func92, by decide, rfl, ok_slices_ContainsFunc_L_int⟩
theorem F_lease_all_L_int_1 : FOk i_lease_all_L_int_1 f_lease_all_L_int_1 := fok (by decide) ⟨Try.f93, _, a_lease_all_L_int_1, Try.func93, by decide, rfl, ok_lease_all_L_int_1⟩
theorem F_slices_insertionSortCmpFunc_int : FOk i_slices_insertionSortCmpFunc_int f_slices_insertionSortCmpFunc_int := fok (by decide) ⟨Try.f94, _, a_slices_insertionSortCmpFunc_int, Try.func94, by decide, rfl, ok_slices_insertionSortCmpFunc_int⟩
theorem F_slices_symMergeCmpFunc_int : FOk i_slices_symMergeCmpFunc_int f_slices_symMergeCmpFunc_int := fok (by decide) ⟨Try.f95, _, a_slices_symMergeCmpFunc_int, Try.func95, by decide, rfl, ok_slices_symMergeCmpFunc_int⟩
theorem F_slices_IndexFunc_lease_Year : FOk i_slices_IndexFunc_lease_Year f_slices_IndexFunc_lease_Year := fok (by decide) ⟨Try.f96, _, a_slices_IndexFunc_lease_Year, Try.func96, by decide, rfl, ok_slices_IndexFunc_lease_Year⟩
theorem F_lease_work_breaks_1 : FOk i_lease_work_breaks_1 f_lease_work_breaks_1 := fok (by decide) ⟨Try.f97, _, a_lease_work_breaks_1, Try.func97, by decide, rfl, ok_lease_work_breaks_1⟩
theorem F_slices_ContainsFunc_lease_Spring : FOk i_slices_ContainsFunc_lease_Spring f_slices_ContainsFunc_lease_Spring := fok (by decide) ⟨Try.f100, _, a_slices_ContainsFunc_lease_Spring, Try.func100, by decide, rfl, ok_slices_ContainsFunc_lease_Spring⟩
theorem F_lease_all_lease_Spring_1 : FOk i_lease_all_lease_Spring_1 f_lease_all_lease_Spring_1 := fok (by decide) ⟨Try.f101, _, a_lease_all_lease_Spring_1, Try.func101, by decide, rfl, ok_lease_all_lease_Spring_1⟩
theorem F_slices_ContainsFunc_lease_Range : FOk i_slices_ContainsFunc_lease_Range f_slices_ContainsFunc_lease_Range := fok (by decide) ⟨Try.f102, _, a_slices_ContainsFunc_lease_Range, Try.func102, by decide, rfl, ok_slices_ContainsFunc_lease_Range⟩
theorem F_lease_all_lease_Range_1 : FOk i_lease_all_lease_Range_1 f_lease_all_lease_Range_1 := fok (by decide) ⟨Try.f103, _, a_lease_all_lease_Range_1, Try.func103, by decide, rfl, ok_lease_all_lease_Range_1⟩
theorem F_slices_IndexFunc_L_int : FOk i_slices_IndexFunc_L_int f_slices_IndexFunc_L_int := fok (by decide) ⟨Try.f104, _, a_slices_IndexFunc_L_int, Try.func104, by decide, rfl, ok_slices_IndexFunc_L_int⟩
theorem F_slices_rotateCmpFunc_int : FOk i_slices_rotateCmpFunc_int f_slices_rotateCmpFunc_int := fok (by decide) ⟨Try.f105, _, a_slices_rotateCmpFunc_int, Try.func105, by decide, rfl, ok_slices_rotateCmpFunc_int⟩
theorem F_slices_IndexFunc_lease_Spring : FOk i_slices_IndexFunc_lease_Spring f_slices_IndexFunc_lease_Spring := fok (by decide) ⟨Try.f108, _, a_slices_IndexFunc_lease_Spring, Try.func108, by decide, rfl, ok_slices_IndexFunc_lease_Spring⟩
theorem F_slices_IndexFunc_lease_Range : FOk i_slices_IndexFunc_lease_Range f_slices_IndexFunc_lease_Range := fok (by decide) ⟨Try.f109, _, a_slices_IndexFunc_lease_Range, Try.func109, by decide, rfl, ok_slices_IndexFunc_lease_Range⟩
theorem F_slices_swapRangeCmpFunc_int : FOk i_slices_swapRangeCmpFunc_int f_slices_swapRangeCmpFunc_int := fok (by decide) ⟨Try.f110, _, a_slices_swapRangeCmpFunc_int, Try.func110, by decide, rfl, ok_slices_swapRangeCmpFunc_int⟩
theorem F_slices_Sort_int : FOk (1000000 + i_slices_Sort_int) ⟨1, [], .exit 0⟩ := nok nat_slices_Sort_int
theorem F_slices_Compact_int : FOk (1000000 + i_slices_Compact_int) ⟨2, [], .exit 0⟩ := nok nat_slices_Compact_int
theorem FAll : ∀ p ∈ tbl, FOk p.1 p.2 := by
  simp only [tbl, List.forall_mem_cons]
  exact ⟨F_law11_LeaseSplits, F_law11_LeaseFair, F_law11_LeaseEither, F_law11_LeaseLeasts, F_law11_LeaseWider, F_law11_LeaseSafe, F_law11_LeaseMore, F_law11_LeaseAll, F_law11_wakes, F_lease_Split, F_law11_list, F_ref11_In, F_ref11_Weights, F_law11_ints, F_ref11_Split, F_ref11_RightProgramme, F_law11_Programme, F_lease_Drill, F_lease_Short, F_lease_Least, F_ref11_Least, F_law11_some, F_ref11_Springs, F_ref11_Takes, F_law11_Springs, F_lease_Behind, F_lease_Harmed, F_law11_has, F_lease_Room, F_lease_Royalty, F_law11_Rule, F_ref11_RightRule, F_law11_few, F_ref11_Right, F_law11_Concession, F_lease_Divide, F_ref11_Both, F_lease_Due, F_law11_tracts, F_law11_pool, F_law11_drilled, F_lease_total, F_lease_within, F_lease_all_int, F_lease_sum, F_lease_part, F_lease_ranked_lease_portion, F_lease_Split_1, F_ref11_part, F_lease_Programme_valid, F_lease_work_table, F_lease_ladder_at, F_lease_Programme_meets, F_lease_Year_cost, F_lease_Programme_after, F_lease_taking, F_lease_Spring_behind, F_lease_Rule_valid, F_lease_Concession_valid, F_lease_Concession_masses, F_slices_Clone_int, F_lease_Concession_due, F_slices_ContainsFunc_int, F_lease_all_int_1, F_slices_SortStableFunc_int, F_lease_ranked_lease_portion_1, F_lease_all_lease_Year, F_lease_Programme_valid_1, F_lease_work_ladders, F_slices_BinarySearchFunc_lease_ladder_lease_Rung_int, F_lease_ladder_at_1, F_lease_springs, F_lease_taking_1, F_lease_all_L_int, F_lease_Concession_valid_1, F_lease_Concession_valid_1_1, F_slices_IndexFunc_int, F_slices_stableCmpFunc_int, F_slices_ContainsFunc_lease_Year, F_lease_all_lease_Year_1, F_lease_work_ladders_1, F_lease_work_breaks, F_lease_work_least, F_lease_all_lease_Spring, F_lease_springs_1, F_lease_all_lease_Range, F_lease_springs_1_1, F_slices_ContainsFunc_L_int, F_lease_all_L_int_1, F_slices_insertionSortCmpFunc_int, F_slices_symMergeCmpFunc_int, F_slices_IndexFunc_lease_Year, F_lease_work_breaks_1, F_slices_ContainsFunc_lease_Spring, F_lease_all_lease_Spring_1, F_slices_ContainsFunc_lease_Range, F_lease_all_lease_Range_1, F_slices_IndexFunc_L_int, F_slices_rotateCmpFunc_int, F_slices_IndexFunc_lease_Spring, F_slices_IndexFunc_lease_Range, F_slices_swapRangeCmpFunc_int, F_slices_Sort_int, F_slices_Compact_int, by simp⟩
theorem TT : TOk Try.prog T := by
  intro f fn h
  have h' : ∃ p, tbl.find? (fun p => p.1 == f) = some p ∧ p.2 = fn := by simpa [T] using h
  obtain ⟨p, h1, h2⟩ := h'
  have h3 := List.mem_of_find?_eq_some h1
  have h4 := List.find?_some h1
  have h6 := FAll p h3
  simp only [beq_iff_eq] at h4
  subst h2
  rw [← h4]
  exact h6
end Go.Proofs.Ytcccafphhmcifaa
