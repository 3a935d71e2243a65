/- The numbers of the functions of the program. -/
import Derived.Test.YtcjjdaifpboaaaaBase2
import Derived.Test.YtcjjdaifpboaaaaRows
set_option linter.unusedVariables false
set_option maxRecDepth 100000
namespace Go.Proofs.Ytcjjdaifpboaaaa
open Go Go.Abs
/-! The functions' numbers. -/
def i_law04_TrialGroups : Nat := 15
def i_law04_TrialDivides : Nat := 16
def i_law04_wakes : Nat := 18
def i_trial_CheckTest : Nat := 19
def i_trial_Curves : Nat := 24
def i_law04_Range : Nat := 27
def i_ref04_In : Nat := 28
def i_ref04_Right : Nat := 29
def i_trial_Drawdown : Nat := 31
def i_ref04_SurveyFault : Nat := 32
def i_ref04_Clash : Nat := 33
def i_trial_Relations : Nat := 34
def i_law04_Survey : Nat := 35
def i_trial_Plan : Nat := 36
def i_law04_ints : Nat := 37
def i_trial_Fits : Nat := 48
def i_trial_Groups : Nat := 57
def i_law04_divided : Nat := 58
def i_trial_Clash : Nat := 60
def i_trial_CheckSurvey : Nat := 61
def i_ref04_Groups : Nat := 62
def i_ref04_Way : Nat := 63
def i_law04_well : Nat := 64
def i_law04_wells : Nat := 65
def i_trial_Range_right : Nat := 66
def i_trial_within : Nat := 67
def i_trial_Range_drops : Nat := 68
def i_trial_Curve_drop : Nat := 70
def i_trial_Test_sets : Nat := 71
def i_trial_span : Nat := 72
def i_trial_Test_drawdown : Nat := 75
def i_ref04_Against : Nat := 76
def i_trial_checked : Nat := 77
def i_trial_parted_relation : Nat := 78
def i_trial_Plan_1 : Nat := 79
def i_slices_ContainsFunc_int : Nat := 80
def i_trial_Plan_1_1 : Nat := 81
def i_trial_Plan_2 : Nat := 82
def i_trial_Plan_3 : Nat := 83
def i_trial_Test_rooms : Nat := 88
def i_trial_Survey_fits : Nat := 94
def i_ref04_Sure : Nat := 95
def i_trial_Range_less : Nat := 97
def i_trial_Survey_groups : Nat := 99
def i_slices_Clone_int : Nat := 100
def i_trial_parted_clash : Nat := 101
def i_trial_Survey_way : Nat := 102
def i_ref04_Far : Nat := 103
def i_ref04_beside : Nat := 104
def i_trial_Test_sets_1 : Nat := 105
def i_trial_meet : Nat := 106
def i_trial_Survey_apart : Nat := 108
def i_slices_IndexFunc_int : Nat := 109
def i_trial_Test_rooms_1 : Nat := 110
def i_trial_Test_rooms_1_1 : Nat := 111
def i_trial_Survey_joined : Nat := 112
def i_slices_IndexFunc_trial_Seen : Nat := 113
def i_trial_parted_clash_1 : Nat := 114
def i_trial_Survey_near : Nat := 115
def i_trial_Survey_way_1 : Nat := 116
def i_slices_Sort_int : Nat := 117
def i_slices_Compact_int : Nat := 118
end Go.Proofs.Ytcjjdaifpboaaaa
