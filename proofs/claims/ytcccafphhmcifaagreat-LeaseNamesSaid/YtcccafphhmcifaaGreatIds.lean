/- The numbers of the functions of the program. -/
import Derived.Test.YtcccafphhmcifaaGreatBase2
import Derived.Test.YtcccafphhmcifaaGreatRows
set_option linter.unusedVariables false
set_option maxRecDepth 100000
namespace Go.Proofs.YtcccafphhmcifaaGreat
open Go Go.Abs
/-! The functions' numbers. -/
def i_law11_LeaseNames : Nat := 9
def i_law11_wakes : Nat := 11
def i_lease_Drill : Nat := 12
def i_law11_ints : Nat := 15
def i_lease_Behind : Nat := 20
def i_lease_Room : Nat := 24
def i_lease_CheckSprings : Nat := 27
def i_lease_Due : Nat := 30
def i_lease_Divide : Nat := 32
def i_lease_CheckConcession : Nat := 34
def i_lease_Outlook : Nat := 40
def i_lease_Short : Nat := 41
def i_lease_CheckProgramme : Nat := 42
def i_law11_tracts : Nat := 46
def i_lease_Split : Nat := 47
def i_lease_Royalty : Nat := 48
def i_law11_pool : Nat := 49
def i_law11_drilled : Nat := 50
def i_lease_Least : Nat := 51
def i_lease_Programme_valid : Nat := 53
def i_lease_work_table : Nat := 54
def i_lease_ladder_at : Nat := 55
def i_lease_Programme_meets : Nat := 56
def i_lease_Year_cost : Nat := 57
def i_lease_Programme_after : Nat := 58
def i_lease_taking : Nat := 61
def i_lease_Spring_behind : Nat := 62
def i_lease_within : Nat := 63
def i_lease_springs : Nat := 64
def i_lease_Concession_valid : Nat := 65
def i_lease_Concession_masses : Nat := 66
def i_lease_Concession_due : Nat := 67
def i_slices_Clone_int : Nat := 68
def i_lease_Programme_planned : Nat := 69
def i_lease_Programme_follow : Nat := 73
def i_lease_work_least : Nat := 75
def i_lease_Outlook_1 : Nat := 76
def i_lease_total : Nat := 77
def i_lease_all_int : Nat := 78
def i_lease_sum : Nat := 79
def i_lease_part : Nat := 80
def i_lease_ranked_lease_portion : Nat := 81
def i_lease_Split_1 : Nat := 82
def i_lease_Rule_valid : Nat := 83
def i_lease_all_lease_Year : Nat := 84
def i_lease_Programme_valid_1 : Nat := 85
def i_lease_work_ladders : Nat := 86
def i_slices_BinarySearchFunc_lease_ladder_lease_Rung_int : Nat := 87
def i_lease_ladder_at_1 : Nat := 88
def i_lease_taking_1 : Nat := 89
def i_lease_all_lease_Spring : Nat := 90
def i_lease_springs_1 : Nat := 91
def i_lease_all_lease_Range : Nat := 92
def i_lease_springs_1_1 : Nat := 93
def i_lease_all_intx : Nat := 94
def i_lease_Concession_valid_1 : Nat := 95
def i_lease_Concession_valid_1_1 : Nat := 96
def i_lease_Programme_planned_1 : Nat := 97
def i_slices_ContainsFunc_int : Nat := 100
def i_lease_all_int_1 : Nat := 101
def i_slices_SortStableFunc_int : Nat := 102
def i_lease_ranked_lease_portion_1 : Nat := 103
def i_slices_ContainsFunc_lease_Year : Nat := 104
def i_lease_all_lease_Year_1 : Nat := 105
def i_lease_work_ladders_1 : Nat := 106
def i_lease_work_breaks : Nat := 107
def i_slices_ContainsFunc_lease_Spring : Nat := 108
def i_lease_all_lease_Spring_1 : Nat := 109
def i_slices_ContainsFunc_lease_Range : Nat := 110
def i_lease_all_lease_Range_1 : Nat := 111
def i_slices_ContainsFunc_intx : Nat := 112
def i_lease_all_int_1x : Nat := 113
def i_slices_IndexFunc_int : Nat := 115
def i_slices_stableCmpFunc_int : Nat := 116
def i_slices_IndexFunc_lease_Year : Nat := 117
def i_lease_work_breaks_1 : Nat := 118
def i_slices_Sort_int : Nat := 119
def i_slices_Compact_int : Nat := 120
def i_slices_IndexFunc_lease_Spring : Nat := 121
def i_slices_IndexFunc_lease_Range : Nat := 122
def i_slices_IndexFunc_intx : Nat := 123
def i_slices_insertionSortCmpFunc_int : Nat := 124
def i_slices_symMergeCmpFunc_int : Nat := 125
def i_slices_rotateCmpFunc_int : Nat := 128
def i_slices_swapRangeCmpFunc_int : Nat := 140
end Go.Proofs.YtcccafphhmcifaaGreat
