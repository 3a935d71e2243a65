/- The code of functions of the program, in the small instruction set; each is what the translation makes of it. -/
import Derived.Test.YtcjjdaifpboaaaaIds
set_option linter.unusedVariables false
set_option maxRecDepth 100000
namespace Go.Proofs.Ytcjjdaifpboaaaa
open Go Go.Abs
/-! 17 fumarole/fumarolelaw04.TrialNames -/
def f_law04_TrialNames_r0 : List Abs.Op := [
  ⟨some 0, none, false, .mv (.c (.bool false))⟩]

def f_law04_TrialNames_r1 : List Abs.Op := [
  ⟨some 21, none, false, .call false (.c (.fn i_law04_well [] [])) []⟩,
  ⟨some 22, none, false, .call false (.c (.fn i_trial_Capacity [] [])) [(.t 21), (.c (.int .i64 50))]⟩,
  ⟨some 20, none, false, .mv (.t 22)⟩,
  ⟨some 23, none, false, .ext (.t 20) 0⟩,
  ⟨some 24, none, false, .ext (.t 20) 1⟩,
  ⟨some 25, none, false, .ext (.t 20) 2⟩,
  ⟨some 1, none, false, .mv (.t 23)⟩,
  ⟨some 2, none, false, .mv (.t 24)⟩,
  ⟨some 3, none, false, .mv (.t 25)⟩]

def f_law04_TrialNames_r2 : List Abs.Op := [
  ⟨some 27, none, false, .call false (.c (.fn i_law04_well [] [])) []⟩,
  ⟨some 28, none, false, .bsi 3 1 [(.int .i64 0), (.int .i64 0), (.int .i64 0)] [(0, 1, (.c (.int .i64 0))), (1, 1, (.c (.int .i64 10))), (2, 1, (.c (.int .i64 20)))]⟩,
  ⟨some 29, none, false, .call false (.c (.fn i_trial_Widest [] [])) [(.t 27), (.t 28)]⟩,
  ⟨some 26, none, false, .mv (.t 29)⟩,
  ⟨some 30, none, false, .ext (.t 26) 0⟩,
  ⟨some 31, none, false, .ext (.t 26) 1⟩,
  ⟨some 4, none, false, .mv (.t 30)⟩,
  ⟨some 5, none, false, .mv (.t 31)⟩]

def f_law04_TrialNames_r3 : List Abs.Op := [
  ⟨some 32, none, false, .mv (.t 3)⟩,
  ⟨some 33, none, false, .bin .neq (.t 32) (.c (.int .i64 0))⟩,
  ⟨some 34, none, false, .mv (.t 33)⟩,
  ⟨some 35, some (34, false), false, .mv (.t 5)⟩,
  ⟨some 36, some (34, false), false, .bin .neq (.t 35) (.c (.int .i64 0))⟩,
  ⟨some 37, none, false, .pick (.t 34) (.c (.bool true)) (.t 36)⟩,
  ⟨some 38, none, false, .mv (.t 37)⟩,
  ⟨some 39, some (38, false), false, .mv (.t 1)⟩,
  ⟨some 40, some (38, false), false, .bin .neq (.t 39) (.c (.int .i64 15))⟩,
  ⟨some 41, none, false, .pick (.t 38) (.c (.bool true)) (.t 40)⟩,
  ⟨some 42, none, false, .mv (.t 41)⟩,
  ⟨some 43, some (42, false), false, .mv (.t 2)⟩,
  ⟨some 44, some (42, false), false, .bin .neq (.t 43) (.c (.int .i64 24))⟩,
  ⟨some 45, none, false, .pick (.t 42) (.c (.bool true)) (.t 44)⟩,
  ⟨some 46, none, false, .mv (.t 45)⟩,
  ⟨some 47, some (46, false), false, .mv (.t 4)⟩,
  ⟨some 48, some (46, false), false, .bin .neq (.t 47) (.c (.int .i64 2))⟩,
  ⟨some 49, none, false, .pick (.t 46) (.c (.bool true)) (.t 48)⟩]

def f_law04_TrialNames_r4 : List Abs.Op := [
  ⟨some 0, none, false, .mv (.c (.bool false))⟩]

def f_law04_TrialNames_r5 : List Abs.Op := [
  ⟨some 50, none, false, .call true (.c (.fn i_law04_well [] [])) []⟩,
  ⟨some 6, none, false, .alcv [] [(.int .i64 0), (.int .i64 0), (.int .i64 0), (.int .i64 0), (.int .i64 0), (.int .i64 0), .nils]⟩,
  ⟨none, none, false, .stv 6 [(6, 3)] 7 6 (.t 50)⟩]

def f_law04_TrialNames_r6 : List Abs.Op := [
  ⟨some 51, none, false, .bld [(.int .i64 0), (.int .i64 0)] [(0, 1, (.c (.int .i64 2))), (1, 1, (.c (.int .i64 3)))]⟩,
  ⟨some 52, none, false, .bld [(.int .i64 0), (.int .i64 0)] []⟩,
  ⟨some 53, none, false, .fadr 2 (.t 6)⟩,
  ⟨none, none, false, .stv 6 [(4, 3)] 2 53 (.t 51)⟩,
  ⟨some 54, none, false, .fadr 4 (.t 6)⟩,
  ⟨none, none, false, .stv 6 [(2, 3)] 2 54 (.t 52)⟩]

def f_law04_TrialNames_r7 : List Abs.Op := [
  ⟨some 55, none, false, .fadr 6 (.t 6)⟩,
  ⟨some 56, none, false, .ldv 6 false 1 55⟩,
  ⟨some 57, none, false, .bld [(.int .i64 0), (.int .i64 0)] [(1, 1, (.c (.int .i64 9)))]⟩,
  ⟨some 58, none, false, .bld [(.int .i64 0), (.int .i64 0), (.int .i64 0)] [(0, 1, (.c (.int .i64 20))), (1, 2, (.t 57))]⟩,
  ⟨some 59, none, false, .bsi 1 3 [(.int .i64 0), (.int .i64 0), (.int .i64 0)] [(0, 3, (.t 58))]⟩,
  ⟨some 60, none, false, .app 3 24 (.t 56) (.t 59)⟩,
  ⟨some 61, none, false, .fadr 6 (.t 6)⟩,
  ⟨none, none, false, .stv 6 [(0, 3)] 1 61 (.t 60)⟩]

def f_law04_TrialNames_r8 : List Abs.Op := [
  ⟨some 63, none, false, .ldv 6 true 7 6⟩,
  ⟨some 64, none, false, .call false (.c (.fn i_trial_Conflicts [] [])) [(.t 63)]⟩,
  ⟨some 62, none, false, .mv (.t 64)⟩,
  ⟨some 65, none, false, .ext (.t 62) 0⟩,
  ⟨some 66, none, false, .ext (.t 62) 1⟩,
  ⟨some 7, none, false, .mv (.t 65)⟩,
  ⟨some 3, none, false, .mv (.t 66)⟩]

def f_law04_TrialNames_r9 : List Abs.Op := [
  ⟨some 68, none, false, .ldv 6 true 7 6⟩,
  ⟨some 69, none, false, .call false (.c (.fn i_trial_Blame [] [])) [(.t 68)]⟩,
  ⟨some 67, none, false, .mv (.t 69)⟩,
  ⟨some 70, none, false, .ext (.t 67) 0⟩,
  ⟨some 71, none, false, .ext (.t 67) 1⟩,
  ⟨some 8, none, false, .mv (.t 70)⟩,
  ⟨some 5, none, false, .mv (.t 71)⟩]

def f_law04_TrialNames_r10 : List Abs.Op := [
  ⟨some 73, none, false, .ldv 6 true 7 6⟩,
  ⟨some 74, none, false, .call false (.c (.fn i_trial_Curves [] [])) [(.t 73)]⟩,
  ⟨some 72, none, false, .mv (.t 74)⟩,
  ⟨some 75, none, false, .ext (.t 72) 0⟩,
  ⟨some 76, none, false, .ext (.t 72) 1⟩,
  ⟨some 77, none, false, .ext (.t 72) 2⟩,
  ⟨some 78, none, false, .ext (.t 72) 3⟩,
  ⟨some 79, none, false, .ext (.t 72) 4⟩,
  ⟨some 10, none, false, .alcv [] [(.int .i64 0), (.int .i64 0)]⟩,
  ⟨some 11, none, false, .alcv [] [(.int .i64 0), (.int .i64 0)]⟩,
  ⟨some 12, none, false, .alcv [] [(.int .i64 0), (.int .i64 0)]⟩,
  ⟨some 9, none, false, .mv (.t 75)⟩,
  ⟨none, none, false, .stv 10 [] 2 10 (.t 76)⟩,
  ⟨none, none, false, .stv 11 [] 2 11 (.t 77)⟩,
  ⟨none, none, false, .stv 12 [] 2 12 (.t 78)⟩,
  ⟨some 13, none, false, .mv (.t 79)⟩]

def f_law04_TrialNames_r11 : List Abs.Op := [
  ⟨some 80, none, true, .mv (.t 3)⟩,
  ⟨some 81, none, true, .bin .neq (.t 80) (.c (.int .i64 0))⟩,
  ⟨some 82, none, true, .mv (.t 81)⟩,
  ⟨some 83, some (82, false), true, .mv (.t 5)⟩,
  ⟨some 84, some (82, false), true, .bin .neq (.t 83) (.c (.int .i64 0))⟩,
  ⟨some 85, none, true, .pick (.t 82) (.c (.bool true)) (.t 84)⟩,
  ⟨some 86, none, true, .mv (.t 85)⟩,
  ⟨some 87, some (86, false), true, .mv (.t 13)⟩,
  ⟨some 88, some (86, false), true, .bin .neq (.t 87) (.c (.int .i64 7))⟩,
  ⟨some 89, none, true, .pick (.t 86) (.c (.bool true)) (.t 88)⟩,
  ⟨some 90, none, true, .mv (.t 89)⟩,
  ⟨some 91, some (90, false), true, .mv (.t 8)⟩,
  ⟨some 92, some (90, false), true, .bin .neq (.t 91) (.c (.int .i64 2))⟩,
  ⟨some 93, none, true, .pick (.t 90) (.c (.bool true)) (.t 92)⟩,
  ⟨some 94, none, true, .mv (.t 93)⟩,
  ⟨some 95, some (94, false), true, .mv (.t 7)⟩,
  ⟨some 96, some (94, false), true, .lenS (.t 95)⟩,
  ⟨some 97, some (94, false), true, .bin .neq (.t 96) (.c (.int .i64 2))⟩,
  ⟨some 98, none, true, .pick (.t 94) (.c (.bool true)) (.t 97)⟩,
  ⟨some 99, none, true, .mv (.t 98)⟩,
  ⟨some 100, some (99, false), true, .mv (.t 7)⟩,
  ⟨some 101, some (99, false), true, .idxS 2 (.t 100) (.c (.int .i64 0))⟩,
  ⟨some 102, some (99, false), true, .ld true 2 (.t 101)⟩,
  ⟨some 103, some (99, false), true, .bld [(.int .i64 0), (.int .i64 0)] [(0, 1, (.c (.int .i64 (-1)))), (1, 1, (.c (.int .i64 2)))]⟩,
  ⟨some 104, some (99, false), true, .eqv true [some .i64, some .i64] true (.t 102) (.t 103)⟩,
  ⟨some 105, none, true, .pick (.t 99) (.c (.bool true)) (.t 104)⟩,
  ⟨some 106, none, true, .mv (.t 105)⟩,
  ⟨some 107, some (106, false), true, .mv (.t 7)⟩,
  ⟨some 108, some (106, false), true, .idxS 2 (.t 107) (.c (.int .i64 1))⟩,
  ⟨some 109, some (106, false), true, .ld true 2 (.t 108)⟩,
  ⟨some 110, some (106, false), true, .mv (.t 7)⟩,
  ⟨some 111, some (106, false), true, .idxS 2 (.t 110) (.c (.int .i64 0))⟩,
  ⟨some 112, some (106, false), true, .ld true 2 (.t 111)⟩,
  ⟨some 113, some (106, false), true, .eqv true [some .i64, some .i64] true (.t 109) (.t 112)⟩,
  ⟨some 114, none, true, .pick (.t 106) (.c (.bool true)) (.t 113)⟩,
  ⟨some 115, none, true, .mv (.t 114)⟩,
  ⟨some 116, some (115, false), true, .ldv 6 true 7 6⟩,
  ⟨some 117, some (115, false), true, .mv (.t 7)⟩,
  ⟨some 118, some (115, false), true, .call false (.c (.fn i_trial_ProveNone [] [])) [(.t 116), (.t 117)]⟩,
  ⟨some 119, some (115, false), true, .un .not (.t 118)⟩,
  ⟨some 120, none, true, .pick (.t 115) (.c (.bool true)) (.t 119)⟩,
  ⟨some 121, none, true, .mv (.t 120)⟩,
  ⟨some 122, some (121, false), true, .ldv 6 true 7 6⟩,
  ⟨some 123, some (121, false), true, .bld [(.int .i64 0), (.int .i64 0)] [(0, 1, (.c (.int .i64 1))), (1, 1, (.c (.int .i64 2)))]⟩,
  ⟨some 124, some (121, false), true, .bld [(.int .i64 0), (.int .i64 0)] [(0, 1, (.c (.int .i64 0))), (1, 1, (.c (.int .i64 2)))]⟩,
  ⟨some 125, some (121, false), true, .bsi 2 2 [(.int .i64 0), (.int .i64 0), (.int .i64 0), (.int .i64 0)] [(0, 2, (.t 123)), (2, 2, (.t 124))]⟩,
  ⟨some 126, some (121, false), true, .call false (.c (.fn i_trial_ProveNone [] [])) [(.t 122), (.t 125)]⟩,
  ⟨some 127, some (121, false), true, .un .not (.t 126)⟩,
  ⟨some 128, none, true, .pick (.t 121) (.c (.bool true)) (.t 127)⟩,
  ⟨some 129, none, true, .mv (.t 128)⟩,
  ⟨some 130, some (129, false), true, .ldv 6 true 7 6⟩,
  ⟨some 131, some (129, false), true, .mv (.t 7)⟩,
  ⟨some 132, some (129, false), true, .slc 2 (.t 131) none (some (.c (.int .i64 1))) none⟩,
  ⟨some 133, some (129, false), true, .call false (.c (.fn i_trial_ProveNone [] [])) [(.t 130), (.t 132)]⟩,
  ⟨some 134, none, true, .pick (.t 129) (.c (.bool true)) (.t 133)⟩,
  ⟨some 135, none, true, .mv (.t 134)⟩,
  ⟨some 136, some (135, false), true, .ldv 6 true 7 6⟩,
  ⟨some 137, some (135, false), true, .bld [(.int .i64 0), (.int .i64 0)] [(0, 1, (.c (.int .i64 2))), (1, 1, (.c (.int .i64 1)))]⟩,
  ⟨some 138, some (135, false), true, .bld [(.int .i64 0), (.int .i64 0)] [(0, 1, (.c (.int .i64 1))), (1, 1, (.c (.int .i64 2)))]⟩,
  ⟨some 139, some (135, false), true, .bsi 2 2 [(.int .i64 0), (.int .i64 0), (.int .i64 0), (.int .i64 0)] [(0, 2, (.t 137)), (2, 2, (.t 138))]⟩,
  ⟨some 140, some (135, false), false, .call false (.c (.fn i_trial_ProveNone [] [])) [(.t 136), (.t 139)]⟩,
  ⟨some 141, none, false, .pick (.t 135) (.c (.bool true)) (.t 140)⟩]

def f_law04_TrialNames_r12 : List Abs.Op := [
  ⟨some 0, none, false, .mv (.c (.bool false))⟩]

def f_law04_TrialNames_r13 : List Abs.Op := [
  ⟨some 143, none, false, .call false (.c (.fn i_law04_wells [] [])) []⟩,
  ⟨some 144, none, false, .call false (.c (.fn i_trial_Relations [] [])) [(.t 143)]⟩,
  ⟨some 142, none, false, .mv (.t 144)⟩,
  ⟨some 145, none, false, .ext (.t 142) 0⟩,
  ⟨some 146, none, false, .ext (.t 142) 1⟩,
  ⟨some 14, none, false, .mv (.t 145)⟩,
  ⟨some 3, none, false, .mv (.t 146)⟩]

def f_law04_TrialNames_r14 : List Abs.Op := [
  ⟨some 148, none, false, .call false (.c (.fn i_law04_wells [] [])) []⟩,
  ⟨some 149, none, false, .bsi 4 1 [(.int .i64 0), (.int .i64 0), (.int .i64 0), (.int .i64 0)] [(0, 1, (.c (.int .i64 0))), (1, 1, (.c (.int .i64 0))), (2, 1, (.c (.int .i64 1))), (3, 1, (.c (.int .i64 1)))]⟩,
  ⟨some 150, none, false, .call false (.c (.fn i_trial_Pulse [] [])) [(.t 148), (.c (.int .i64 3)), (.t 149)]⟩,
  ⟨some 147, none, false, .mv (.t 150)⟩,
  ⟨some 151, none, false, .ext (.t 147) 0⟩,
  ⟨some 152, none, false, .ext (.t 147) 1⟩,
  ⟨some 15, none, false, .alcv [] [(.int .i64 0), (.int .i64 0), .nils]⟩,
  ⟨none, none, false, .stv 15 [] 3 15 (.t 151)⟩,
  ⟨some 5, none, false, .mv (.t 152)⟩]

def f_law04_TrialNames_r15 : List Abs.Op := [
  ⟨some 153, none, false, .mv (.t 3)⟩,
  ⟨some 154, none, false, .bin .neq (.t 153) (.c (.int .i64 0))⟩,
  ⟨some 155, none, false, .mv (.t 154)⟩,
  ⟨some 156, some (155, false), false, .mv (.t 5)⟩,
  ⟨some 157, some (155, false), false, .bin .neq (.t 156) (.c (.int .i64 0))⟩,
  ⟨some 158, none, false, .pick (.t 155) (.c (.bool true)) (.t 157)⟩,
  ⟨some 159, none, false, .mv (.t 158)⟩,
  ⟨some 160, some (159, false), false, .mv (.t 14)⟩,
  ⟨some 161, some (159, false), false, .lenS (.t 160)⟩,
  ⟨some 162, some (159, false), false, .bin .neq (.t 161) (.c (.int .i64 4))⟩,
  ⟨some 163, none, false, .pick (.t 159) (.c (.bool true)) (.t 162)⟩,
  ⟨some 164, none, false, .mv (.t 163)⟩,
  ⟨some 165, some (164, false), false, .mv (.t 14)⟩,
  ⟨some 166, some (164, false), false, .idxS 1 (.t 165) (.c (.int .i64 0))⟩,
  ⟨some 167, some (164, false), false, .ld false 1 (.t 166)⟩,
  ⟨some 168, some (164, false), false, .lenS (.t 167)⟩,
  ⟨some 169, some (164, false), false, .bin .neq (.t 168) (.c (.int .i64 4))⟩,
  ⟨some 170, none, false, .pick (.t 164) (.c (.bool true)) (.t 169)⟩,
  ⟨some 171, none, false, .mv (.t 170)⟩,
  ⟨some 172, some (171, false), false, .mv (.t 14)⟩,
  ⟨some 173, some (171, false), false, .idxS 1 (.t 172) (.c (.int .i64 0))⟩,
  ⟨some 174, some (171, false), false, .ld false 1 (.t 173)⟩,
  ⟨some 175, some (171, false), false, .idxS 1 (.t 174) (.c (.int .i64 2))⟩,
  ⟨some 176, some (171, false), false, .ld false 1 (.t 175)⟩,
  ⟨some 177, some (171, false), false, .bin .neq (.t 176) (.c (.int .u8 0))⟩,
  ⟨some 178, none, false, .pick (.t 171) (.c (.bool true)) (.t 177)⟩,
  ⟨some 179, none, false, .mv (.t 178)⟩,
  ⟨some 180, some (179, false), false, .mv (.t 14)⟩,
  ⟨some 181, some (179, false), false, .idxS 1 (.t 180) (.c (.int .i64 0))⟩,
  ⟨some 182, some (179, false), false, .ld false 1 (.t 181)⟩,
  ⟨some 183, some (179, false), false, .idxS 1 (.t 182) (.c (.int .i64 3))⟩,
  ⟨some 184, some (179, false), false, .ld false 1 (.t 183)⟩,
  ⟨some 185, some (179, false), false, .bin .neq (.t 184) (.c (.int .u8 1))⟩,
  ⟨some 186, none, false, .pick (.t 179) (.c (.bool true)) (.t 185)⟩,
  ⟨some 187, none, false, .mv (.t 186)⟩,
  ⟨some 188, some (187, false), false, .mv (.t 14)⟩,
  ⟨some 189, some (187, false), false, .idxS 1 (.t 188) (.c (.int .i64 0))⟩,
  ⟨some 190, some (187, false), false, .ld false 1 (.t 189)⟩,
  ⟨some 191, some (187, false), false, .idxS 1 (.t 190) (.c (.int .i64 1))⟩,
  ⟨some 192, some (187, false), false, .ld false 1 (.t 191)⟩,
  ⟨some 193, some (187, false), false, .bin .neq (.t 192) (.c (.int .u8 2))⟩,
  ⟨some 194, none, false, .pick (.t 187) (.c (.bool true)) (.t 193)⟩,
  ⟨some 195, none, false, .mv (.t 194)⟩,
  ⟨some 196, some (195, false), false, .fadr 2 (.t 15)⟩,
  ⟨some 197, some (195, false), false, .ldv 15 false 1 196⟩,
  ⟨some 198, some (195, false), false, .lenS (.t 197)⟩,
  ⟨some 199, some (195, false), false, .bin .neq (.t 198) (.c (.int .i64 6))⟩,
  ⟨some 200, none, false, .pick (.t 195) (.c (.bool true)) (.t 199)⟩,
  ⟨some 201, none, false, .mv (.t 200)⟩,
  ⟨some 202, some (201, false), false, .fadr 2 (.t 15)⟩,
  ⟨some 203, some (201, false), false, .ldv 15 false 1 202⟩,
  ⟨some 204, some (201, false), false, .idxS 4 (.t 203) (.c (.int .i64 5))⟩,
  ⟨some 205, some (201, false), false, .ld true 4 (.t 204)⟩,
  ⟨some 206, some (201, false), false, .bld [(.int .i64 0), (.int .i64 0)] [(0, 1, (.c (.int .i64 5))), (1, 1, (.c (.int .i64 5)))]⟩,
  ⟨some 207, some (201, false), false, .bld [(.int .i64 0), (.int .i64 0), (.int .i64 0), (.int .i64 0)] [(0, 1, (.c (.int .i64 3))), (1, 1, (.c (.int .i64 2))), (2, 2, (.t 206))]⟩,
  ⟨some 208, some (201, false), false, .eqv true [some .i64, some .i64, some .i64, some .i64] true (.t 205) (.t 207)⟩,
  ⟨some 209, none, false, .pick (.t 201) (.c (.bool true)) (.t 208)⟩,
  ⟨some 210, none, false, .mv (.t 209)⟩,
  ⟨some 211, some (210, false), false, .fadr 2 (.t 15)⟩,
  ⟨some 212, some (210, false), false, .ldv 15 false 1 211⟩,
  ⟨some 213, some (210, false), false, .idxS 4 (.t 212) (.c (.int .i64 4))⟩,
  ⟨some 214, some (210, false), false, .fadr 2 (.t 213)⟩,
  ⟨some 215, some (210, false), false, .ld true 2 (.t 214)⟩,
  ⟨some 216, some (210, false), false, .bld [(.int .i64 0), (.int .i64 0)] [(0, 1, (.c (.int .i64 4))), (1, 1, (.c (.int .i64 4)))]⟩,
  ⟨some 217, some (210, false), false, .eqv true [some .i64, some .i64] true (.t 215) (.t 216)⟩,
  ⟨some 218, none, false, .pick (.t 210) (.c (.bool true)) (.t 217)⟩]

def f_law04_TrialNames_r16 : List Abs.Op := [
  ⟨some 0, none, false, .mv (.c (.bool false))⟩]

def f_law04_TrialNames_r17 : List Abs.Op := [
  ⟨some 219, none, false, .call true (.c (.fn i_law04_wells [] [])) []⟩,
  ⟨some 16, none, false, .alcv [] [(.int .i64 0), (.int .i64 0), .nils]⟩,
  ⟨none, none, false, .stv 16 [(2, 4)] 3 16 (.t 219)⟩]

def f_law04_TrialNames_r18 : List Abs.Op := [
  ⟨some 220, none, false, .fadr 2 (.t 16)⟩,
  ⟨some 221, none, false, .ldv 16 false 1 220⟩,
  ⟨some 222, none, false, .bld [(.int .i64 0), (.int .i64 0)] [(0, 1, (.c (.int .i64 5))), (1, 1, (.c (.int .i64 5)))]⟩,
  ⟨some 223, none, false, .bld [(.int .i64 0), (.int .i64 0), (.int .i64 0), (.int .i64 0)] [(0, 1, (.c (.int .i64 2))), (1, 1, (.c (.int .i64 0))), (2, 2, (.t 222))]⟩,
  ⟨some 224, none, false, .bsi 1 4 [(.int .i64 0), (.int .i64 0), (.int .i64 0), (.int .i64 0)] [(0, 4, (.t 223))]⟩,
  ⟨some 225, none, false, .app 4 32 (.t 221) (.t 224)⟩,
  ⟨some 226, none, false, .fadr 2 (.t 16)⟩,
  ⟨none, none, false, .stv 16 [(0, 4)] 1 226 (.t 225)⟩]

def f_law04_TrialNames_r19 : List Abs.Op := [
  ⟨some 228, none, false, .ldv 16 true 3 16⟩,
  ⟨some 229, none, false, .call false (.c (.fn i_trial_Clash [] [])) [(.t 228)]⟩,
  ⟨some 227, none, false, .mv (.t 229)⟩,
  ⟨some 230, none, false, .ext (.t 227) 0⟩,
  ⟨some 231, none, false, .ext (.t 227) 1⟩,
  ⟨some 232, none, false, .ext (.t 227) 2⟩,
  ⟨some 8, none, false, .mv (.t 230)⟩,
  ⟨some 17, none, false, .mv (.t 231)⟩,
  ⟨some 3, none, false, .mv (.t 232)⟩]

def f_law04_TrialNames_r20 : List Abs.Op := [
  ⟨some 234, none, false, .ldv 16 true 3 16⟩,
  ⟨some 235, none, false, .call false (.c (.fn i_trial_Plan [] [])) [(.t 234)]⟩,
  ⟨some 233, none, false, .mv (.t 235)⟩,
  ⟨some 236, none, false, .ext (.t 233) 0⟩,
  ⟨some 237, none, false, .ext (.t 233) 1⟩,
  ⟨some 5, none, false, .mv (.t 237)⟩]

def f_law04_TrialNames_r21 : List Abs.Op := [
  ⟨some 239, none, false, .call false (.c (.fn i_law04_wells [] [])) []⟩,
  ⟨some 240, none, false, .call false (.c (.fn i_trial_Clash [] [])) [(.t 239)]⟩,
  ⟨some 238, none, false, .mv (.t 240)⟩,
  ⟨some 241, none, false, .ext (.t 238) 0⟩,
  ⟨some 242, none, false, .ext (.t 238) 1⟩,
  ⟨some 243, none, false, .ext (.t 238) 2⟩,
  ⟨some 13, none, false, .mv (.t 243)⟩]

def f_law04_TrialNames_r22 : List Abs.Op := [
  ⟨some 245, none, false, .call false (.c (.fn i_law04_wells [] [])) []⟩,
  ⟨some 246, none, false, .bsi 4 1 [(.int .i64 0), (.int .i64 0), (.int .i64 0), (.int .i64 0)] [(0, 1, (.c (.int .i64 0))), (1, 1, (.c (.int .i64 1))), (2, 1, (.c (.int .i64 2))), (3, 1, (.c (.int .i64 3)))]⟩,
  ⟨some 247, none, false, .call false (.c (.fn i_trial_Pulse [] [])) [(.t 245), (.c (.int .i64 3)), (.t 246)]⟩,
  ⟨some 244, none, false, .mv (.t 247)⟩,
  ⟨some 248, none, false, .ext (.t 244) 0⟩,
  ⟨some 249, none, false, .ext (.t 244) 1⟩,
  ⟨some 18, none, false, .alcv [] [(.int .i64 0), (.int .i64 0), .nils]⟩,
  ⟨none, none, false, .stv 18 [] 3 18 (.t 248)⟩,
  ⟨some 19, none, false, .mv (.t 249)⟩]

def f_law04_TrialNames_r23 : List Abs.Op := [
  ⟨some 250, none, false, .mv (.t 3)⟩,
  ⟨some 251, none, false, .bin .eql (.t 250) (.c (.int .i64 0))⟩,
  ⟨some 252, none, false, .mv (.t 251)⟩,
  ⟨some 253, some (252, true), false, .mv (.t 8)⟩,
  ⟨some 254, some (252, true), false, .bin .eql (.t 253) (.c (.int .i64 1))⟩,
  ⟨some 255, none, false, .pick (.t 252) (.t 254) (.c (.bool false))⟩,
  ⟨some 256, none, false, .mv (.t 255)⟩,
  ⟨some 257, some (256, true), false, .mv (.t 17)⟩,
  ⟨some 258, some (256, true), false, .bsi 3 1 [(.int .i64 0), (.int .i64 0), (.int .i64 0)] [(0, 1, (.c (.int .i64 1))), (1, 1, (.c (.int .i64 0))), (2, 1, (.c (.int .i64 2)))]⟩,
  ⟨some 259, some (256, true), false, .call false (.c (.fn i_law04_ints [] [])) [(.t 257), (.t 258)]⟩,
  ⟨some 260, none, false, .pick (.t 256) (.t 259) (.c (.bool false))⟩,
  ⟨some 261, none, false, .mv (.t 260)⟩,
  ⟨some 262, some (261, true), false, .mv (.t 5)⟩,
  ⟨some 263, some (261, true), false, .bin .eql (.t 262) (.c (.int .i64 9))⟩,
  ⟨some 264, none, false, .pick (.t 261) (.t 263) (.c (.bool false))⟩,
  ⟨some 265, none, false, .mv (.t 264)⟩,
  ⟨some 266, some (265, true), false, .mv (.t 13)⟩,
  ⟨some 267, some (265, true), false, .bin .eql (.t 266) (.c (.int .i64 7))⟩,
  ⟨some 268, none, false, .pick (.t 265) (.t 267) (.c (.bool false))⟩,
  ⟨some 269, none, false, .mv (.t 268)⟩,
  ⟨some 270, some (269, true), false, .mv (.t 19)⟩,
  ⟨some 271, some (269, true), false, .bin .eql (.t 270) (.c (.int .i64 9))⟩,
  ⟨some 272, none, false, .pick (.t 269) (.t 271) (.c (.bool false))⟩,
  ⟨some 273, none, false, .mv (.t 272)⟩,
  ⟨some 274, some (273, true), false, .bld [(.int .i64 0), (.int .i64 0), .nils] [(0, 1, (.c (.int .i64 11)))]⟩,
  ⟨some 275, some (273, true), false, .call false (.c (.fn i_trial_CheckSurvey [] [])) [(.t 274)]⟩,
  ⟨some 276, some (273, true), false, .bin .eql (.t 275) (.c (.int .i64 1))⟩,
  ⟨some 277, none, false, .pick (.t 273) (.t 276) (.c (.bool false))⟩,
  ⟨some 278, none, false, .mv (.t 277)⟩,
  ⟨some 279, some (278, true), false, .mks 3 24 [(.int .i64 0), (.int .i64 0), (.int .i64 0)] (.c (.int .i64 13)) (.c (.int .i64 13))⟩,
  ⟨some 280, some (278, true), false, .bld [(.int .i64 0), (.int .i64 0), (.int .i64 0), (.int .i64 0), (.int .i64 0), (.int .i64 0), .nils] [(6, 1, (.t 279))]⟩,
  ⟨some 281, some (278, true), false, .call false (.c (.fn i_trial_CheckTest [] [])) [(.t 280)]⟩,
  ⟨some 282, some (278, true), false, .bin .eql (.t 281) (.c (.int .i64 3))⟩,
  ⟨some 283, none, false, .pick (.t 278) (.t 282) (.c (.bool false))⟩,
  ⟨some 284, none, false, .mv (.t 283)⟩,
  ⟨some 285, some (284, true), false, .call false (.c (.fn i_law04_wakes [] [])) []⟩,
  ⟨some 286, none, false, .pick (.t 284) (.t 285) (.c (.bool false))⟩,
  ⟨some 0, none, false, .mv (.t 286)⟩]

def a_law04_TrialNames : Ann := ⟨[(23, [0]), (22, [3, 5, 8, 13, 17, 19]), (21, [3, 5, 8, 13, 17]), (20, [3, 5, 8, 17]), (19, [3, 8, 16, 17]), (18, [16]), (17, [16]), (16, [0]), (15, [218]), (14, [3, 5, 14, 15]), (13, [3, 14]), (12, [0]), (11, [141]), (10, [3, 5, 6, 7, 8, 13]), (9, [3, 5, 6, 7, 8]), (8, [3, 6, 7]), (7, [6]), (6, [6]), (5, [6]), (4, [0]), (3, [49]), (2, [1, 2, 3, 4, 5]), (1, [1, 2, 3]), (0, [])], [], [], [6, 10, 11, 12, 15, 16, 18], [6, 10, 11, 12, 15, 16, 18], [(5002, [(6, 3)]), (6003, [(4, 3)]), (6005, [(2, 3)]), (7007, [(0, 3)]), (17002, [(2, 4)]), (18007, [(0, 4)])], [5000, 17000], [(19, [16]), (8, [6])], [], []⟩
def f_law04_TrialNames : Abs.Fn := ⟨0, [.t 0],
  (.seq (.reg [] f_law04_TrialNames_r0) (.seq (.reg [1, 2, 3] f_law04_TrialNames_r1) (.seq (.reg [1, 2, 3, 4, 5] f_law04_TrialNames_r2) (.seq (.seq (.reg [49] f_law04_TrialNames_r3) (.ite (.t 49) (.seq (.reg [0] f_law04_TrialNames_r4) .ret) .nop)) (.seq (.reg [6] f_law04_TrialNames_r5) (.seq (.reg [6] f_law04_TrialNames_r6) (.seq (.reg [6] f_law04_TrialNames_r7) (.seq (.seq (.frz [6]) (.reg [3, 6, 7] f_law04_TrialNames_r8)) (.seq (.reg [3, 5, 6, 7, 8] f_law04_TrialNames_r9) (.seq (.reg [3, 5, 6, 7, 8, 13] f_law04_TrialNames_r10) (.seq (.seq (.reg [141] f_law04_TrialNames_r11) (.ite (.t 141) (.seq (.reg [0] f_law04_TrialNames_r12) .ret) .nop)) (.seq (.reg [3, 14] f_law04_TrialNames_r13) (.seq (.reg [3, 5, 14, 15] f_law04_TrialNames_r14) (.seq (.seq (.reg [218] f_law04_TrialNames_r15) (.ite (.t 218) (.seq (.reg [0] f_law04_TrialNames_r16) .ret) .nop)) (.seq (.reg [16] f_law04_TrialNames_r17) (.seq (.reg [16] f_law04_TrialNames_r18) (.seq (.seq (.frz [16]) (.reg [3, 8, 16, 17] f_law04_TrialNames_r19)) (.seq (.reg [3, 5, 8, 17] f_law04_TrialNames_r20) (.seq (.reg [3, 5, 8, 13, 17] f_law04_TrialNames_r21) (.seq (.reg [3, 5, 8, 13, 17, 19] f_law04_TrialNames_r22) (.seq (.reg [0] f_law04_TrialNames_r23) .ret)))))))))))))))))))))⟩

theorem e_law04_TrialNames_r0 : type_of% f_law04_TrialNames_r0.eq_1 := by_rfl f_law04_TrialNames_r0.eq_1
theorem e_law04_TrialNames_r1 : type_of% f_law04_TrialNames_r1.eq_1 := by_rfl f_law04_TrialNames_r1.eq_1
theorem e_law04_TrialNames_r2 : type_of% f_law04_TrialNames_r2.eq_1 := by_rfl f_law04_TrialNames_r2.eq_1
theorem e_law04_TrialNames_r3 : type_of% f_law04_TrialNames_r3.eq_1 := by_rfl f_law04_TrialNames_r3.eq_1
theorem e_law04_TrialNames_r4 : type_of% f_law04_TrialNames_r4.eq_1 := by_rfl f_law04_TrialNames_r4.eq_1
theorem e_law04_TrialNames_r5 : type_of% f_law04_TrialNames_r5.eq_1 := by_rfl f_law04_TrialNames_r5.eq_1
theorem e_law04_TrialNames_r6 : type_of% f_law04_TrialNames_r6.eq_1 := by_rfl f_law04_TrialNames_r6.eq_1
theorem e_law04_TrialNames_r7 : type_of% f_law04_TrialNames_r7.eq_1 := by_rfl f_law04_TrialNames_r7.eq_1
theorem e_law04_TrialNames_r8 : type_of% f_law04_TrialNames_r8.eq_1 := by_rfl f_law04_TrialNames_r8.eq_1
theorem e_law04_TrialNames_r9 : type_of% f_law04_TrialNames_r9.eq_1 := by_rfl f_law04_TrialNames_r9.eq_1
theorem e_law04_TrialNames_r10 : type_of% f_law04_TrialNames_r10.eq_1 := by_rfl f_law04_TrialNames_r10.eq_1
theorem e_law04_TrialNames_r11 : type_of% f_law04_TrialNames_r11.eq_1 := by_rfl f_law04_TrialNames_r11.eq_1
theorem e_law04_TrialNames_r12 : type_of% f_law04_TrialNames_r12.eq_1 := by_rfl f_law04_TrialNames_r12.eq_1
theorem e_law04_TrialNames_r13 : type_of% f_law04_TrialNames_r13.eq_1 := by_rfl f_law04_TrialNames_r13.eq_1
theorem e_law04_TrialNames_r14 : type_of% f_law04_TrialNames_r14.eq_1 := by_rfl f_law04_TrialNames_r14.eq_1
theorem e_law04_TrialNames_r15 : type_of% f_law04_TrialNames_r15.eq_1 := by_rfl f_law04_TrialNames_r15.eq_1
theorem e_law04_TrialNames_r16 : type_of% f_law04_TrialNames_r16.eq_1 := by_rfl f_law04_TrialNames_r16.eq_1
theorem e_law04_TrialNames_r17 : type_of% f_law04_TrialNames_r17.eq_1 := by_rfl f_law04_TrialNames_r17.eq_1
theorem e_law04_TrialNames_r18 : type_of% f_law04_TrialNames_r18.eq_1 := by_rfl f_law04_TrialNames_r18.eq_1
theorem e_law04_TrialNames_r19 : type_of% f_law04_TrialNames_r19.eq_1 := by_rfl f_law04_TrialNames_r19.eq_1
theorem e_law04_TrialNames_r20 : type_of% f_law04_TrialNames_r20.eq_1 := by_rfl f_law04_TrialNames_r20.eq_1
theorem e_law04_TrialNames_r21 : type_of% f_law04_TrialNames_r21.eq_1 := by_rfl f_law04_TrialNames_r21.eq_1
theorem e_law04_TrialNames_r22 : type_of% f_law04_TrialNames_r22.eq_1 := by_rfl f_law04_TrialNames_r22.eq_1
theorem e_law04_TrialNames_r23 : type_of% f_law04_TrialNames_r23.eq_1 := by_rfl f_law04_TrialNames_r23.eq_1
theorem e_law04_TrialNames : type_of% f_law04_TrialNames.eq_1 := by_rfl f_law04_TrialNames.eq_1
theorem ok_law04_TrialNames : fnC Try.prog a_law04_TrialNames Try.f17 = some f_law04_TrialNames := by kernel_rfl

/-! 18 fumarole/fumarolelaw04.wakes -/
def f_law04_wakes_r0 : List Abs.Op := [
  ⟨some 0, none, false, .mv (.c (.bool false))⟩]

def f_law04_wakes_r1 : List Abs.Op := [
  ⟨some 13, none, false, .call false (.c (.fn i_law04_well [] [])) []⟩,
  ⟨some 14, none, false, .call false (.c (.fn i_trial_Curves [] [])) [(.t 13)]⟩,
  ⟨some 12, none, false, .mv (.t 14)⟩,
  ⟨some 15, none, false, .ext (.t 12) 0⟩,
  ⟨some 16, none, false, .ext (.t 12) 1⟩,
  ⟨some 17, none, false, .ext (.t 12) 2⟩,
  ⟨some 18, none, false, .ext (.t 12) 3⟩,
  ⟨some 19, none, false, .ext (.t 12) 4⟩,
  ⟨some 2, none, false, .alcv [] [(.int .i64 0), (.int .i64 0)]⟩,
  ⟨some 3, none, false, .alcv [] [(.int .i64 0), (.int .i64 0)]⟩,
  ⟨some 4, none, false, .alcv [] [(.int .i64 0), (.int .i64 0)]⟩,
  ⟨some 1, none, false, .mv (.t 15)⟩,
  ⟨none, none, false, .stv 2 [] 2 2 (.t 16)⟩,
  ⟨none, none, false, .stv 3 [] 2 3 (.t 17)⟩,
  ⟨none, none, false, .stv 4 [] 2 4 (.t 18)⟩,
  ⟨some 5, none, false, .mv (.t 19)⟩]

def f_law04_wakes_r2 : List Abs.Op := [
  ⟨some 21, none, false, .call false (.c (.fn i_law04_well [] [])) []⟩,
  ⟨some 22, none, false, .call false (.c (.fn i_trial_Drawdown [] [])) [(.t 21), (.c (.int .i64 20))]⟩,
  ⟨some 20, none, false, .mv (.t 22)⟩,
  ⟨some 23, none, false, .ext (.t 20) 0⟩,
  ⟨some 24, none, false, .ext (.t 20) 1⟩,
  ⟨some 6, none, false, .alcv [] [(.int .i64 0), (.int .i64 0)]⟩,
  ⟨none, none, false, .stv 6 [] 2 6 (.t 23)⟩,
  ⟨some 7, none, false, .mv (.t 24)⟩]

def f_law04_wakes_r3 : List Abs.Op := [
  ⟨some 26, none, false, .call false (.c (.fn i_law04_wells [] [])) []⟩,
  ⟨some 27, none, false, .call false (.c (.fn i_trial_Groups [] [])) [(.t 26)]⟩,
  ⟨some 25, none, false, .mv (.t 27)⟩,
  ⟨some 28, none, false, .ext (.t 25) 0⟩,
  ⟨some 29, none, false, .ext (.t 25) 1⟩,
  ⟨some 8, none, false, .mv (.t 28)⟩,
  ⟨some 9, none, false, .mv (.t 29)⟩]

def f_law04_wakes_r4 : List Abs.Op := [
  ⟨some 31, none, false, .call false (.c (.fn i_law04_wells [] [])) []⟩,
  ⟨some 32, none, false, .call false (.c (.fn i_trial_Plan [] [])) [(.t 31)]⟩,
  ⟨some 30, none, false, .mv (.t 32)⟩,
  ⟨some 33, none, false, .ext (.t 30) 0⟩,
  ⟨some 34, none, false, .ext (.t 30) 1⟩,
  ⟨some 10, none, false, .mv (.t 33)⟩,
  ⟨some 11, none, false, .mv (.t 34)⟩]

def f_law04_wakes_r5 : List Abs.Op := [
  ⟨some 35, none, false, .mv (.t 5)⟩,
  ⟨some 36, none, false, .bin .eql (.t 35) (.c (.int .i64 0))⟩,
  ⟨some 37, none, false, .mv (.t 36)⟩,
  ⟨some 38, some (37, true), false, .mv (.t 7)⟩,
  ⟨some 39, some (37, true), false, .bin .eql (.t 38) (.c (.int .i64 0))⟩,
  ⟨some 40, none, false, .pick (.t 37) (.t 39) (.c (.bool false))⟩,
  ⟨some 41, none, false, .mv (.t 40)⟩,
  ⟨some 42, some (41, true), false, .mv (.t 9)⟩,
  ⟨some 43, some (41, true), false, .bin .eql (.t 42) (.c (.int .i64 0))⟩,
  ⟨some 44, none, false, .pick (.t 41) (.t 43) (.c (.bool false))⟩,
  ⟨some 45, none, false, .mv (.t 44)⟩,
  ⟨some 46, some (45, true), false, .mv (.t 11)⟩,
  ⟨some 47, some (45, true), false, .bin .eql (.t 46) (.c (.int .i64 0))⟩,
  ⟨some 48, none, false, .pick (.t 45) (.t 47) (.c (.bool false))⟩,
  ⟨some 49, none, false, .mv (.t 48)⟩,
  ⟨some 50, some (49, true), false, .mv (.t 1)⟩,
  ⟨some 51, some (49, true), false, .bin .eql (.t 50) (.c (.int .i64 4))⟩,
  ⟨some 52, none, false, .pick (.t 49) (.t 51) (.c (.bool false))⟩,
  ⟨some 53, none, false, .mv (.t 52)⟩,
  ⟨some 54, some (53, true), false, .ldv 2 true 2 2⟩,
  ⟨some 55, some (53, true), false, .bld [(.int .i64 0), (.int .i64 0)] [(0, 1, (.c (.int .i64 2))), (1, 1, (.c (.int .i64 3)))]⟩,
  ⟨some 56, some (53, true), false, .eqv true [some .i64, some .i64] false (.t 54) (.t 55)⟩,
  ⟨some 57, none, false, .pick (.t 53) (.t 56) (.c (.bool false))⟩,
  ⟨some 58, none, false, .mv (.t 57)⟩,
  ⟨some 59, some (58, true), false, .ldv 3 true 2 3⟩,
  ⟨some 60, some (58, true), false, .ldv 2 true 2 2⟩,
  ⟨some 61, some (58, true), false, .eqv true [some .i64, some .i64] false (.t 59) (.t 60)⟩,
  ⟨some 62, none, false, .pick (.t 58) (.t 61) (.c (.bool false))⟩,
  ⟨some 63, none, false, .mv (.t 62)⟩,
  ⟨some 64, some (63, true), false, .ldv 6 true 2 6⟩,
  ⟨some 65, some (63, true), false, .bld [(.int .i64 0), (.int .i64 0)] [(0, 1, (.c (.int .i64 42))), (1, 1, (.c (.int .i64 63)))]⟩,
  ⟨some 66, some (63, true), false, .eqv true [some .i64, some .i64] false (.t 64) (.t 65)⟩,
  ⟨some 67, none, false, .pick (.t 63) (.t 66) (.c (.bool false))⟩,
  ⟨some 68, none, false, .mv (.t 67)⟩,
  ⟨some 69, some (68, true), false, .mv (.t 8)⟩,
  ⟨some 70, some (68, true), false, .bsi 4 1 [(.int .i64 0), (.int .i64 0), (.int .i64 0), (.int .i64 0)] [(0, 1, (.c (.int .i64 0))), (1, 1, (.c (.int .i64 0))), (2, 1, (.c (.int .i64 2))), (3, 1, (.c (.int .i64 3)))]⟩,
  ⟨some 71, some (68, true), false, .call false (.c (.fn i_law04_ints [] [])) [(.t 69), (.t 70)]⟩,
  ⟨some 72, none, false, .pick (.t 68) (.t 71) (.c (.bool false))⟩,
  ⟨some 73, none, false, .mv (.t 72)⟩,
  ⟨some 74, some (73, true), false, .mv (.t 10)⟩,
  ⟨some 75, some (73, true), false, .bsi 1 1 [(.int .i64 0)] [(0, 1, (.c (.int .i64 3)))]⟩,
  ⟨some 76, some (73, true), false, .call false (.c (.fn i_law04_ints [] [])) [(.t 74), (.t 75)]⟩,
  ⟨some 77, none, false, .pick (.t 73) (.t 76) (.c (.bool false))⟩,
  ⟨some 0, none, false, .mv (.t 77)⟩]

def a_law04_wakes : Ann := ⟨[(5, [0]), (4, [1, 2, 3, 5, 6, 7, 8, 9, 10, 11]), (3, [1, 2, 3, 5, 6, 7, 8, 9]), (2, [1, 2, 3, 5, 6, 7]), (1, [1, 2, 3, 5]), (0, [])], [], [], [2, 3, 4, 6], [2, 3, 4, 6], [], [], [], [], []⟩
def f_law04_wakes : Abs.Fn := ⟨0, [.t 0],
  (.seq (.reg [] f_law04_wakes_r0) (.seq (.reg [1, 2, 3, 5] f_law04_wakes_r1) (.seq (.reg [1, 2, 3, 5, 6, 7] f_law04_wakes_r2) (.seq (.reg [1, 2, 3, 5, 6, 7, 8, 9] f_law04_wakes_r3) (.seq (.reg [1, 2, 3, 5, 6, 7, 8, 9, 10, 11] f_law04_wakes_r4) (.seq (.reg [0] f_law04_wakes_r5) .ret))))))⟩

theorem e_law04_wakes_r0 : type_of% f_law04_wakes_r0.eq_1 := by_rfl f_law04_wakes_r0.eq_1
theorem e_law04_wakes_r1 : type_of% f_law04_wakes_r1.eq_1 := by_rfl f_law04_wakes_r1.eq_1
theorem e_law04_wakes_r2 : type_of% f_law04_wakes_r2.eq_1 := by_rfl f_law04_wakes_r2.eq_1
theorem e_law04_wakes_r3 : type_of% f_law04_wakes_r3.eq_1 := by_rfl f_law04_wakes_r3.eq_1
theorem e_law04_wakes_r4 : type_of% f_law04_wakes_r4.eq_1 := by_rfl f_law04_wakes_r4.eq_1
theorem e_law04_wakes_r5 : type_of% f_law04_wakes_r5.eq_1 := by_rfl f_law04_wakes_r5.eq_1
theorem e_law04_wakes : type_of% f_law04_wakes.eq_1 := by_rfl f_law04_wakes.eq_1
theorem ok_law04_wakes : fnC Try.prog a_law04_wakes Try.f18 = some f_law04_wakes := by kernel_rfl

/-! 19 fumarole/trial.CheckTest -/
def f_trial_CheckTest_r0 : List Abs.Op := [
  ⟨some 1, none, false, .boxi (.t 0)⟩,
  ⟨some 2, none, false, .mv (.c (.int .i64 0))⟩]

def f_trial_CheckTest_r1 : List Abs.Op := [
  ⟨some 5, none, false, .fadr 6 (.t 1)⟩,
  ⟨some 6, none, false, .ld false 1 (.t 5)⟩,
  ⟨some 7, none, false, .lenS (.t 6)⟩,
  ⟨some 8, none, false, .bin .gtr (.t 7) (.c (.int .i64 12))⟩]

def f_trial_CheckTest_r2 : List Abs.Op := [
  ⟨some 2, none, false, .mv (.c (.int .i64 3))⟩]

def f_trial_CheckTest_r3 : List Abs.Op := [
  ⟨some 9, none, false, .fadr 0 (.t 1)⟩,
  ⟨some 10, none, false, .ld true 2 (.t 9)⟩,
  ⟨some 11, none, false, .call false (.c (.fn i_trial_Range_right [] [])) [(.t 10), (.c (.int .i64 0)), (.c (.int .i64 100000))]⟩,
  ⟨some 12, none, false, .un .not (.t 11)⟩,
  ⟨some 13, none, false, .mv (.t 12)⟩,
  ⟨some 14, some (13, false), false, .fadr 2 (.t 1)⟩,
  ⟨some 15, some (13, false), false, .ld true 2 (.t 14)⟩,
  ⟨some 16, some (13, false), false, .call false (.c (.fn i_trial_Range_right [] [])) [(.t 15), (.c (.int .i64 0)), (.c (.int .i64 10000))]⟩,
  ⟨some 17, some (13, false), false, .un .not (.t 16)⟩,
  ⟨some 18, none, false, .pick (.t 13) (.c (.bool true)) (.t 17)⟩,
  ⟨some 19, none, false, .mv (.t 18)⟩,
  ⟨some 20, some (19, false), false, .fadr 4 (.t 1)⟩,
  ⟨some 21, some (19, false), false, .ld true 2 (.t 20)⟩,
  ⟨some 22, some (19, false), false, .call false (.c (.fn i_trial_Range_right [] [])) [(.t 21), (.c (.int .i64 0)), (.c (.int .i64 1000))]⟩,
  ⟨some 23, some (19, false), false, .un .not (.t 22)⟩,
  ⟨some 24, none, false, .pick (.t 19) (.c (.bool true)) (.t 23)⟩,
  ⟨some 25, none, false, .mv (.t 24)⟩,
  ⟨some 26, some (25, false), false, .fadr 2 (.t 1)⟩,
  ⟨some 27, some (25, false), false, .fadr 1 (.t 26)⟩,
  ⟨some 28, some (25, false), false, .ld false 1 (.t 27)⟩,
  ⟨some 29, some (25, false), false, .fadr 2 (.t 1)⟩,
  ⟨some 30, some (25, false), false, .fadr 0 (.t 29)⟩,
  ⟨some 31, some (25, false), false, .ld false 1 (.t 30)⟩,
  ⟨some 32, some (25, false), false, .bin .sub (.t 28) (.t 31)⟩,
  ⟨some 33, some (25, false), false, .bin .geq (.t 32) (.c (.int .i64 40))⟩,
  ⟨some 34, none, false, .pick (.t 25) (.c (.bool true)) (.t 33)⟩,
  ⟨some 35, none, false, .mv (.t 34)⟩,
  ⟨some 36, some (35, false), false, .fadr 4 (.t 1)⟩,
  ⟨some 37, some (35, false), false, .fadr 1 (.t 36)⟩,
  ⟨some 38, some (35, false), false, .ld false 1 (.t 37)⟩,
  ⟨some 39, some (35, false), false, .fadr 4 (.t 1)⟩,
  ⟨some 40, some (35, false), false, .fadr 0 (.t 39)⟩,
  ⟨some 41, some (35, false), false, .ld false 1 (.t 40)⟩,
  ⟨some 42, some (35, false), false, .bin .sub (.t 38) (.t 41)⟩,
  ⟨some 43, some (35, false), false, .bin .geq (.t 42) (.c (.int .i64 40))⟩,
  ⟨some 44, none, false, .pick (.t 35) (.c (.bool true)) (.t 43)⟩]

def f_trial_CheckTest_r4 : List Abs.Op := [
  ⟨some 2, none, false, .mv (.c (.int .i64 1))⟩]

def f_trial_CheckTest_r5 : List Abs.Op := [
  ⟨some 45, none, false, .fadr 6 (.t 1)⟩,
  ⟨some 46, none, false, .ld false 1 (.t 45)⟩,
  ⟨some 47, none, false, .lenS (.t 46)⟩,
  ⟨some 48, none, false, .mv (.c (.int .i64 0))⟩]

def f_trial_CheckTest_r6 : List Abs.Op := [
  ⟨some 49, none, false, .bin .lss (.t 48) (.t 47)⟩]

def f_trial_CheckTest_r7 : List Abs.Op := [
  ⟨some 50, none, false, .idxS 3 (.t 46) (.t 48)⟩,
  ⟨some 51, none, false, .ld true 3 (.t 50)⟩,
  ⟨some 4, none, false, .alcv [] [(.int .i64 0), (.int .i64 0), (.int .i64 0)]⟩,
  ⟨none, none, false, .stv 4 [] 3 4 (.t 51)⟩]

def f_trial_CheckTest_r8 : List Abs.Op := [
  ⟨some 52, none, false, .fadr 0 (.t 4)⟩,
  ⟨some 53, none, false, .ldv 4 false 1 52⟩,
  ⟨some 54, none, false, .call false (.c (.fn i_trial_within [] [])) [(.t 53), (.c (.int .i64 0)), (.c (.int .i64 1000))]⟩,
  ⟨some 55, none, false, .un .not (.t 54)⟩,
  ⟨some 56, none, false, .mv (.t 55)⟩,
  ⟨some 57, some (56, false), false, .fadr 1 (.t 4)⟩,
  ⟨some 58, some (56, false), false, .ldv 4 true 2 57⟩,
  ⟨some 59, some (56, false), false, .call false (.c (.fn i_trial_Range_drops [] [])) [(.t 58)]⟩,
  ⟨some 60, some (56, false), false, .un .not (.t 59)⟩,
  ⟨some 61, none, false, .pick (.t 56) (.c (.bool true)) (.t 60)⟩]

def f_trial_CheckTest_r9 : List Abs.Op := [
  ⟨some 2, none, false, .mv (.c (.int .i64 1))⟩]

def f_trial_CheckTest_r10 : List Abs.Op := [
  ⟨some 62, none, false, .bin .add (.t 48) (.c (.int .i64 1))⟩,
  ⟨some 48, none, false, .mv (.t 62)⟩]

def f_trial_CheckTest_l11 : Abs.Cmd :=
  (.seq (.reg [46, 47, 48, 49] f_trial_CheckTest_r6) (.seq (.ite (.t 49) .nop (.exit 0)) (.seq (.blk 1 (.seq (.reg [4, 46, 47, 48] f_trial_CheckTest_r7) (.seq (.reg [46, 47, 48, 61] f_trial_CheckTest_r8) (.ite (.t 61) (.seq (.reg [2] f_trial_CheckTest_r9) .ret) .nop)))) (.reg [46, 47, 48] f_trial_CheckTest_r10))))

def f_trial_CheckTest_r12 : List Abs.Op := [
  ⟨some 2, none, false, .mv (.c (.int .i64 0))⟩]

def a_trial_CheckTest : Ann := ⟨[(11, [2]), (10, [46, 47, 48]), (9, [2]), (8, [46, 47, 48, 61]), (7, [4, 46, 47, 48]), (6, [46, 47, 48, 49]), (5, [46, 47, 48]), (4, [2]), (3, [1, 44]), (2, [2]), (1, [1, 8]), (0, [1])], [(0, [46, 47, 48])], [], [4], [4], [], [], [], [], []⟩
def f_trial_CheckTest : Abs.Fn := ⟨1, [.t 2],
  (.seq (.reg [1] f_trial_CheckTest_r0) (.seq (.seq (.reg [1, 8] f_trial_CheckTest_r1) (.ite (.t 8) (.seq (.reg [2] f_trial_CheckTest_r2) .ret) .nop)) (.seq (.seq (.reg [1, 44] f_trial_CheckTest_r3) (.ite (.t 44) (.seq (.reg [2] f_trial_CheckTest_r4) .ret) .nop)) (.seq (.seq (.reg [46, 47, 48] f_trial_CheckTest_r5) (.blk 0 (.loop [46, 47, 48] false f_trial_CheckTest_l11))) (.seq (.reg [2] f_trial_CheckTest_r12) .ret)))))⟩

theorem e_trial_CheckTest_r0 : type_of% f_trial_CheckTest_r0.eq_1 := by_rfl f_trial_CheckTest_r0.eq_1
theorem e_trial_CheckTest_r1 : type_of% f_trial_CheckTest_r1.eq_1 := by_rfl f_trial_CheckTest_r1.eq_1
theorem e_trial_CheckTest_r2 : type_of% f_trial_CheckTest_r2.eq_1 := by_rfl f_trial_CheckTest_r2.eq_1
theorem e_trial_CheckTest_r3 : type_of% f_trial_CheckTest_r3.eq_1 := by_rfl f_trial_CheckTest_r3.eq_1
theorem e_trial_CheckTest_r4 : type_of% f_trial_CheckTest_r4.eq_1 := by_rfl f_trial_CheckTest_r4.eq_1
theorem e_trial_CheckTest_r5 : type_of% f_trial_CheckTest_r5.eq_1 := by_rfl f_trial_CheckTest_r5.eq_1
theorem e_trial_CheckTest_r6 : type_of% f_trial_CheckTest_r6.eq_1 := by_rfl f_trial_CheckTest_r6.eq_1
theorem e_trial_CheckTest_r7 : type_of% f_trial_CheckTest_r7.eq_1 := by_rfl f_trial_CheckTest_r7.eq_1
theorem e_trial_CheckTest_r8 : type_of% f_trial_CheckTest_r8.eq_1 := by_rfl f_trial_CheckTest_r8.eq_1
theorem e_trial_CheckTest_r9 : type_of% f_trial_CheckTest_r9.eq_1 := by_rfl f_trial_CheckTest_r9.eq_1
theorem e_trial_CheckTest_r10 : type_of% f_trial_CheckTest_r10.eq_1 := by_rfl f_trial_CheckTest_r10.eq_1
theorem e_trial_CheckTest_l11 : type_of% f_trial_CheckTest_l11.eq_1 := by_rfl f_trial_CheckTest_l11.eq_1
theorem e_trial_CheckTest_r12 : type_of% f_trial_CheckTest_r12.eq_1 := by_rfl f_trial_CheckTest_r12.eq_1
theorem e_trial_CheckTest : type_of% f_trial_CheckTest.eq_1 := by_rfl f_trial_CheckTest.eq_1
theorem ok_trial_CheckTest : fnC Try.prog a_trial_CheckTest Try.f19 = some f_trial_CheckTest := by kernel_rfl

/-! 24 fumarole/trial.Curves -/
def f_trial_Curves_r0 : List Abs.Op := [
  ⟨some 1, none, false, .boxi (.t 0)⟩,
  ⟨some 2, none, false, .alc [] [(.int .i64 0)]⟩,
  ⟨some 3, none, false, .alc [] [(.int .i64 0), (.int .i64 0)]⟩,
  ⟨some 4, none, false, .alc [] [(.int .i64 0), (.int .i64 0)]⟩,
  ⟨some 5, none, false, .alc [] [(.int .i64 0), (.int .i64 0)]⟩,
  ⟨some 6, none, false, .mv (.c (.int .i64 0))⟩]

def f_trial_Curves_r1 : List Abs.Op := [
  ⟨some 12, none, false, .ldi true 7 (.t 1)⟩,
  ⟨some 13, none, false, .call false (.c (.fn i_trial_CheckTest [] [])) [(.t 12)]⟩,
  ⟨some 7, none, false, .mv (.t 13)⟩]

def f_trial_Curves_r2 : List Abs.Op := [
  ⟨some 14, none, false, .mv (.t 7)⟩,
  ⟨some 15, none, false, .bin .neq (.t 14) (.c (.int .i64 0))⟩]

def f_trial_Curves_r3 : List Abs.Op := [
  ⟨some 16, none, true, .ld true 2 (.t 3)⟩,
  ⟨some 17, none, true, .ld true 2 (.t 4)⟩,
  ⟨some 18, none, true, .ld true 2 (.t 5)⟩,
  ⟨some 19, none, true, .mv (.t 7)⟩,
  ⟨none, none, true, .stc [3, 4, 5] 1 (.t 2) (.c (.int .i64 0))⟩,
  ⟨none, none, true, .stc [4, 5, 2] 2 (.t 3) (.t 16)⟩,
  ⟨none, none, true, .stc [3, 5, 2] 2 (.t 4) (.t 17)⟩,
  ⟨none, none, true, .stc [3, 4, 2] 2 (.t 5) (.t 18)⟩,
  ⟨some 6, none, false, .mv (.t 19)⟩]

def f_trial_Curves_r4 : List Abs.Op := [
  ⟨some 20, none, false, .ldi true 7 (.t 1)⟩,
  ⟨some 21, none, false, .call true (.c (.fn i_trial_Test_sets [] [])) [(.t 20)]⟩]

def f_trial_Curves_r5 : List Abs.Op := [
  ⟨some 8, none, false, .alcv [] [(.int .i64 0), (.int .i64 0), (.int .i64 0)]⟩,
  ⟨none, none, false, .stv 8 [] 3 8 (.t 22)⟩]

def f_trial_Curves_r6 : List Abs.Op := [
  ⟨some 9, none, false, .alcv [] [(.int .i64 0), (.int .i64 0)]⟩,
  ⟨none, none, false, .stv 9 [] 2 9 (.t 23)⟩]

def f_trial_Curves_r7 : List Abs.Op := [
  ⟨some 24, none, true, .fadr 1 (.t 8)⟩,
  ⟨some 25, none, true, .ldv 8 false 1 24⟩,
  ⟨some 26, none, true, .fadr 1 (.t 8)⟩,
  ⟨some 27, none, true, .ldv 8 false 1 26⟩,
  ⟨some 28, none, true, .bld [(.int .i64 0), (.int .i64 0)] [(0, 1, (.t 25)), (1, 1, (.t 27))]⟩,
  ⟨some 29, none, true, .fadr 2 (.t 8)⟩,
  ⟨some 30, none, true, .ldv 8 false 1 29⟩,
  ⟨some 31, none, true, .fadr 2 (.t 8)⟩,
  ⟨some 32, none, true, .ldv 8 false 1 31⟩,
  ⟨some 33, none, true, .bld [(.int .i64 0), (.int .i64 0)] [(0, 1, (.t 30)), (1, 1, (.t 32))]⟩,
  ⟨some 10, none, true, .alcv [] [(.int .i64 0), (.int .i64 0)]⟩,
  ⟨some 11, none, true, .alcv [] [(.int .i64 0), (.int .i64 0)]⟩,
  ⟨none, none, true, .stv 10 [] 2 10 (.t 28)⟩,
  ⟨none, none, false, .stv 11 [] 2 11 (.t 33)⟩]

def f_trial_Curves_r8 : List Abs.Op := [
  ⟨some 34, none, false, .ld false 1 (.t 2)⟩,
  ⟨some 35, none, false, .bin .eql (.t 34) (.c (.int .i64 0))⟩]

def f_trial_Curves_r9 : List Abs.Op := [
  ⟨some 36, none, true, .ldv 9 true 2 9⟩,
  ⟨some 37, none, true, .ldv 10 true 2 10⟩,
  ⟨some 38, none, true, .ldv 11 true 2 11⟩,
  ⟨none, none, true, .stc [4, 5] 2 (.t 3) (.t 36)⟩,
  ⟨none, none, true, .stc [3, 5] 2 (.t 4) (.t 37)⟩,
  ⟨none, none, false, .stc [3, 4] 2 (.t 5) (.t 38)⟩]

def f_trial_Curves_r10 : List Abs.Op := [
  ⟨some 39, none, false, .ld false 1 (.t 2)⟩,
  ⟨some 40, none, false, .fadr 1 (.t 9)⟩,
  ⟨some 41, none, false, .ldv 9 false 1 40⟩,
  ⟨some 42, none, false, .fadr 0 (.t 9)⟩,
  ⟨some 43, none, false, .ldv 9 false 1 42⟩,
  ⟨some 44, none, false, .bin .sub (.t 41) (.t 43)⟩,
  ⟨some 45, none, false, .bin .add (.t 44) (.c (.int .i64 1))⟩,
  ⟨some 46, none, false, .bin .add (.t 39) (.t 45)⟩,
  ⟨none, none, false, .st [] 1 (.t 2) (.t 46)⟩]

def f_trial_Curves_r11 : List Abs.Op := [
  ⟨some 47, none, true, .ld true 2 (.t 3)⟩,
  ⟨some 48, none, true, .ldv 9 true 2 9⟩,
  ⟨some 49, none, true, .call false (.c (.fn i_trial_span [] [])) [(.t 47), (.t 48)]⟩,
  ⟨some 50, none, true, .ld true 2 (.t 4)⟩,
  ⟨some 51, none, true, .ldv 10 true 2 10⟩,
  ⟨some 52, none, true, .call false (.c (.fn i_trial_span [] [])) [(.t 50), (.t 51)]⟩,
  ⟨some 53, none, true, .ld true 2 (.t 5)⟩,
  ⟨some 54, none, true, .ldv 11 true 2 11⟩,
  ⟨some 55, none, false, .call false (.c (.fn i_trial_span [] [])) [(.t 53), (.t 54)]⟩,
  ⟨none, none, false, .stc [4, 5] 2 (.t 3) (.t 49)⟩,
  ⟨none, none, false, .stc [3, 5] 2 (.t 4) (.t 52)⟩,
  ⟨none, none, false, .stc [3, 4] 2 (.t 5) (.t 55)⟩]

def f_trial_Curves_a12 : Abs.Cmd :=
  (.seq (.reg [2, 3, 4, 5, 8, 23] f_trial_Curves_r5) (.reg [2, 3, 4, 5, 8, 9] f_trial_Curves_r6))

def f_trial_Curves_b12 : Abs.Cmd :=
  (.blk 1 (.seq (.reg [2, 3, 4, 5, 9, 10, 11] f_trial_Curves_r7) (.seq (.seq (.reg [2, 3, 4, 5, 9, 10, 11, 35] f_trial_Curves_r8) (.ite (.t 35) (.reg [2, 3, 4, 5, 9, 10, 11] f_trial_Curves_r9) .nop)) (.seq (.reg [3, 4, 5, 9, 10, 11] f_trial_Curves_r10) (.reg [] f_trial_Curves_r11)))))

def f_trial_Curves_r13 : List Abs.Op := [
  ⟨some 56, none, false, .ld false 1 (.t 2)⟩,
  ⟨some 57, none, false, .bin .eql (.t 56) (.c (.int .i64 0))⟩]

def f_trial_Curves_r14 : List Abs.Op := [
  ⟨some 58, none, true, .ld true 2 (.t 3)⟩,
  ⟨some 59, none, true, .ld true 2 (.t 4)⟩,
  ⟨some 60, none, true, .ld true 2 (.t 5)⟩,
  ⟨none, none, true, .stc [3, 4, 5] 1 (.t 2) (.c (.int .i64 0))⟩,
  ⟨none, none, true, .stc [4, 5, 2] 2 (.t 3) (.t 58)⟩,
  ⟨none, none, true, .stc [3, 5, 2] 2 (.t 4) (.t 59)⟩,
  ⟨none, none, false, .stc [3, 4, 2] 2 (.t 5) (.t 60)⟩,
  ⟨some 6, none, false, .mv (.c (.int .i64 7))⟩]

def f_trial_Curves_r15 : List Abs.Op := [
  ⟨some 61, none, true, .ld false 1 (.t 2)⟩,
  ⟨some 62, none, true, .ld true 2 (.t 3)⟩,
  ⟨some 63, none, true, .ld true 2 (.t 4)⟩,
  ⟨some 64, none, true, .ld true 2 (.t 5)⟩,
  ⟨none, none, true, .stc [3, 4, 5] 1 (.t 2) (.t 61)⟩,
  ⟨none, none, true, .stc [2, 4, 5] 2 (.t 3) (.t 62)⟩,
  ⟨none, none, true, .stc [2, 3, 5] 2 (.t 4) (.t 63)⟩,
  ⟨none, none, false, .stc [2, 3, 4] 2 (.t 5) (.t 64)⟩,
  ⟨some 6, none, false, .mv (.c (.int .i64 0))⟩]

def a_trial_Curves : Ann := ⟨[(14, [2, 3, 4, 5, 6]), (13, [2, 3, 4, 5, 6]), (12, [2, 3, 4, 5, 57]), (11, []), (10, [3, 4, 5, 9, 10, 11]), (9, [2, 3, 4, 5, 9, 10, 11]), (8, [2, 3, 4, 5, 9, 10, 11, 35]), (7, [2, 3, 4, 5, 9, 10, 11]), (6, [2, 3, 4, 5, 8, 9]), (5, [2, 3, 4, 5, 8, 23]), (4, [2, 3, 4, 5, 6, 21]), (3, [2, 3, 4, 5, 6]), (2, [1, 2, 3, 4, 5, 6, 7, 15]), (1, [1, 2, 3, 4, 5, 6, 7]), (0, [1, 2, 3, 4, 5, 6])], [(0, [2, 3, 4, 5, 6])], [], [2, 3, 4, 5, 8, 9, 10, 11], [8, 9, 10, 11], [], [4001], [], [1], [(3004, some [3, 4, 5]), (3005, some [4, 5, 2]), (3006, some [3, 5, 2]), (3007, some [3, 4, 2]), (9003, some [4, 5]), (9004, some [3, 5]), (9005, some [3, 4]), (11009, some [4, 5]), (11010, some [3, 5]), (11011, some [3, 4]), (13003, some [3, 4, 5]), (13004, some [4, 5, 2]), (13005, some [3, 5, 2]), (13006, some [3, 4, 2]), (14004, some [3, 4, 5]), (14005, some [2, 4, 5]), (14006, some [2, 3, 5]), (14007, some [2, 3, 4])]⟩
def f_trial_Curves : Abs.Fn := ⟨1, [.c 2 false 1, .c 3 true 2, .c 4 true 2, .c 5 true 2, .t 6],
  (.seq (.reg [1, 2, 3, 4, 5, 6] f_trial_Curves_r0) (.seq (.seq (.reg [1, 2, 3, 4, 5, 6, 7] f_trial_Curves_r1) (.seq (.reg [1, 2, 3, 4, 5, 6, 7, 15] f_trial_Curves_r2) (.ite (.t 15) (.seq (.reg [2, 3, 4, 5, 6] f_trial_Curves_r3) .ret) .nop))) (.seq (.seq (.reg [2, 3, 4, 5, 6, 21] f_trial_Curves_r4) (.blk 0 (.rngf [2, 3, 4, 5, 6] (.t 21) [22, 23] f_trial_Curves_a12 f_trial_Curves_b12))) (.seq (.seq (.reg [2, 3, 4, 5, 57] f_trial_Curves_r13) (.ite (.t 57) (.seq (.reg [2, 3, 4, 5, 6] f_trial_Curves_r14) .ret) .nop)) (.seq (.reg [2, 3, 4, 5, 6] f_trial_Curves_r15) .ret)))))⟩

theorem e_trial_Curves_r0 : type_of% f_trial_Curves_r0.eq_1 := by_rfl f_trial_Curves_r0.eq_1
theorem e_trial_Curves_r1 : type_of% f_trial_Curves_r1.eq_1 := by_rfl f_trial_Curves_r1.eq_1
theorem e_trial_Curves_r2 : type_of% f_trial_Curves_r2.eq_1 := by_rfl f_trial_Curves_r2.eq_1
theorem e_trial_Curves_r3 : type_of% f_trial_Curves_r3.eq_1 := by_rfl f_trial_Curves_r3.eq_1
theorem e_trial_Curves_r4 : type_of% f_trial_Curves_r4.eq_1 := by_rfl f_trial_Curves_r4.eq_1
theorem e_trial_Curves_r5 : type_of% f_trial_Curves_r5.eq_1 := by_rfl f_trial_Curves_r5.eq_1
theorem e_trial_Curves_r6 : type_of% f_trial_Curves_r6.eq_1 := by_rfl f_trial_Curves_r6.eq_1
theorem e_trial_Curves_r7 : type_of% f_trial_Curves_r7.eq_1 := by_rfl f_trial_Curves_r7.eq_1
theorem e_trial_Curves_r8 : type_of% f_trial_Curves_r8.eq_1 := by_rfl f_trial_Curves_r8.eq_1
theorem e_trial_Curves_r9 : type_of% f_trial_Curves_r9.eq_1 := by_rfl f_trial_Curves_r9.eq_1
theorem e_trial_Curves_r10 : type_of% f_trial_Curves_r10.eq_1 := by_rfl f_trial_Curves_r10.eq_1
theorem e_trial_Curves_r11 : type_of% f_trial_Curves_r11.eq_1 := by_rfl f_trial_Curves_r11.eq_1
theorem e_trial_Curves_a12 : type_of% f_trial_Curves_a12.eq_1 := by_rfl f_trial_Curves_a12.eq_1
theorem e_trial_Curves_b12 : type_of% f_trial_Curves_b12.eq_1 := by_rfl f_trial_Curves_b12.eq_1
theorem e_trial_Curves_r13 : type_of% f_trial_Curves_r13.eq_1 := by_rfl f_trial_Curves_r13.eq_1
theorem e_trial_Curves_r14 : type_of% f_trial_Curves_r14.eq_1 := by_rfl f_trial_Curves_r14.eq_1
theorem e_trial_Curves_r15 : type_of% f_trial_Curves_r15.eq_1 := by_rfl f_trial_Curves_r15.eq_1
theorem e_trial_Curves : type_of% f_trial_Curves.eq_1 := by_rfl f_trial_Curves.eq_1
theorem ok_trial_Curves : fnC Try.prog a_trial_Curves Try.f24 = some f_trial_Curves := by kernel_rfl

/-! 31 fumarole/trial.Drawdown -/
def f_trial_Drawdown_r0 : List Abs.Op := [
  ⟨some 2, none, false, .boxi (.t 0)⟩,
  ⟨some 4, none, false, .alcv [] [(.int .i64 0), (.int .i64 0)]⟩,
  ⟨some 5, none, false, .mv (.c (.int .i64 0))⟩]

def f_trial_Drawdown_r1 : List Abs.Op := [
  ⟨some 9, none, false, .ld true 7 (.t 2)⟩,
  ⟨some 10, none, false, .call false (.c (.fn i_trial_CheckTest [] [])) [(.t 9)]⟩,
  ⟨some 6, none, false, .mv (.t 10)⟩]

def f_trial_Drawdown_r2 : List Abs.Op := [
  ⟨some 11, none, false, .mv (.t 6)⟩,
  ⟨some 12, none, false, .bin .neq (.t 11) (.c (.int .i64 0))⟩]

def f_trial_Drawdown_r3 : List Abs.Op := [
  ⟨some 13, none, false, .bld [(.int .i64 0), (.int .i64 0)] []⟩,
  ⟨some 14, none, false, .mv (.t 6)⟩,
  ⟨none, none, false, .stv 4 [] 2 4 (.t 13)⟩,
  ⟨some 5, none, false, .mv (.t 14)⟩]

def f_trial_Drawdown_r4 : List Abs.Op := [
  ⟨some 15, none, false, .mv (.t 1)⟩,
  ⟨some 16, none, false, .call false (.c (.fn i_trial_within [] [])) [(.t 15), (.c (.int .i64 0)), (.c (.int .i64 1000))]⟩,
  ⟨some 17, none, false, .un .not (.t 16)⟩]

def f_trial_Drawdown_r5 : List Abs.Op := [
  ⟨some 18, none, false, .bld [(.int .i64 0), (.int .i64 0)] []⟩,
  ⟨none, none, false, .stv 4 [] 2 4 (.t 18)⟩,
  ⟨some 5, none, false, .mv (.c (.int .i64 2))⟩]

def f_trial_Drawdown_r6 : List Abs.Op := [
  ⟨some 20, none, false, .ld true 7 (.t 2)⟩,
  ⟨some 21, none, false, .mv (.t 1)⟩,
  ⟨some 22, none, false, .call false (.c (.fn i_trial_Test_drawdown [] [])) [(.t 20), (.t 21)]⟩,
  ⟨some 19, none, false, .mv (.t 22)⟩,
  ⟨some 23, none, false, .ext (.t 19) 0⟩,
  ⟨some 24, none, false, .ext (.t 19) 1⟩,
  ⟨some 7, none, false, .alcv [] [(.int .i64 0), (.int .i64 0)]⟩,
  ⟨none, none, false, .stv 7 [] 2 7 (.t 23)⟩,
  ⟨some 8, none, false, .mv (.t 24)⟩]

def f_trial_Drawdown_r7 : List Abs.Op := [
  ⟨some 25, none, false, .mv (.t 8)⟩,
  ⟨some 26, none, false, .un .not (.t 25)⟩]

def f_trial_Drawdown_r8 : List Abs.Op := [
  ⟨some 27, none, false, .bld [(.int .i64 0), (.int .i64 0)] []⟩,
  ⟨none, none, false, .stv 4 [] 2 4 (.t 27)⟩,
  ⟨some 5, none, false, .mv (.c (.int .i64 7))⟩]

def f_trial_Drawdown_r9 : List Abs.Op := [
  ⟨some 28, none, false, .ldv 7 true 2 7⟩,
  ⟨none, none, false, .stv 4 [] 2 4 (.t 28)⟩,
  ⟨some 5, none, false, .mv (.c (.int .i64 0))⟩]

def a_trial_Drawdown : Ann := ⟨[(9, [4, 5]), (8, [4, 5]), (7, [4, 7, 26]), (6, [4, 7, 8]), (5, [4, 5]), (4, [1, 2, 4, 17]), (3, [4, 5]), (2, [1, 2, 4, 6, 12]), (1, [1, 2, 4, 6]), (0, [1, 2, 4])], [], [], [4, 7], [4, 7], [], [], [], [], []⟩
def f_trial_Drawdown : Abs.Fn := ⟨2, [.v 4 true 2, .t 5],
  (.seq (.reg [1, 2, 4] f_trial_Drawdown_r0) (.seq (.seq (.reg [1, 2, 4, 6] f_trial_Drawdown_r1) (.seq (.reg [1, 2, 4, 6, 12] f_trial_Drawdown_r2) (.ite (.t 12) (.seq (.reg [4, 5] f_trial_Drawdown_r3) .ret) .nop))) (.seq (.seq (.reg [1, 2, 4, 17] f_trial_Drawdown_r4) (.ite (.t 17) (.seq (.reg [4, 5] f_trial_Drawdown_r5) .ret) .nop)) (.seq (.reg [4, 7, 8] f_trial_Drawdown_r6) (.seq (.seq (.reg [4, 7, 26] f_trial_Drawdown_r7) (.ite (.t 26) (.seq (.reg [4, 5] f_trial_Drawdown_r8) .ret) .nop)) (.seq (.reg [4, 5] f_trial_Drawdown_r9) .ret))))))⟩

theorem e_trial_Drawdown_r0 : type_of% f_trial_Drawdown_r0.eq_1 := by_rfl f_trial_Drawdown_r0.eq_1
theorem e_trial_Drawdown_r1 : type_of% f_trial_Drawdown_r1.eq_1 := by_rfl f_trial_Drawdown_r1.eq_1
theorem e_trial_Drawdown_r2 : type_of% f_trial_Drawdown_r2.eq_1 := by_rfl f_trial_Drawdown_r2.eq_1
theorem e_trial_Drawdown_r3 : type_of% f_trial_Drawdown_r3.eq_1 := by_rfl f_trial_Drawdown_r3.eq_1
theorem e_trial_Drawdown_r4 : type_of% f_trial_Drawdown_r4.eq_1 := by_rfl f_trial_Drawdown_r4.eq_1
theorem e_trial_Drawdown_r5 : type_of% f_trial_Drawdown_r5.eq_1 := by_rfl f_trial_Drawdown_r5.eq_1
theorem e_trial_Drawdown_r6 : type_of% f_trial_Drawdown_r6.eq_1 := by_rfl f_trial_Drawdown_r6.eq_1
theorem e_trial_Drawdown_r7 : type_of% f_trial_Drawdown_r7.eq_1 := by_rfl f_trial_Drawdown_r7.eq_1
theorem e_trial_Drawdown_r8 : type_of% f_trial_Drawdown_r8.eq_1 := by_rfl f_trial_Drawdown_r8.eq_1
theorem e_trial_Drawdown_r9 : type_of% f_trial_Drawdown_r9.eq_1 := by_rfl f_trial_Drawdown_r9.eq_1
theorem e_trial_Drawdown : type_of% f_trial_Drawdown.eq_1 := by_rfl f_trial_Drawdown.eq_1
theorem ok_trial_Drawdown : fnC Try.prog a_trial_Drawdown Try.f31 = some f_trial_Drawdown := by kernel_rfl

/-! 34 fumarole/trial.Relations -/
def f_trial_Relations_r0 : List Abs.Op := [
  ⟨some 1, none, false, .boxi (.t 0)⟩,
  ⟨some 2, none, false, .mv (.c .nils)⟩,
  ⟨some 3, none, false, .mv (.c (.int .i64 0))⟩]

def f_trial_Relations_r1 : List Abs.Op := [
  ⟨some 11, none, false, .ld true 3 (.t 1)⟩,
  ⟨some 12, none, false, .call false (.c (.fn i_trial_checked [] [])) [(.t 11)]⟩,
  ⟨some 10, none, false, .mv (.t 12)⟩,
  ⟨some 13, none, false, .ext (.t 10) 0⟩,
  ⟨some 14, none, false, .ext (.t 10) 1⟩,
  ⟨some 4, none, false, .alcv [] [(.int .i64 0), (.int .i64 0), .nils, (.int .i64 0), (.int .i64 0), (.int .i64 0), (.int .i64 0), (.int .i64 0), (.int .i64 0), (.int .i64 0), (.int .i64 0), (.int .i64 0), (.int .i64 0)]⟩,
  ⟨none, none, false, .stv 4 [] 13 4 (.t 13)⟩,
  ⟨some 5, none, false, .mv (.t 14)⟩]

def f_trial_Relations_r2 : List Abs.Op := [
  ⟨some 15, none, false, .mv (.t 5)⟩,
  ⟨some 16, none, false, .bin .neq (.t 15) (.c (.int .i64 0))⟩]

def f_trial_Relations_r3 : List Abs.Op := [
  ⟨some 17, none, false, .mv (.t 5)⟩,
  ⟨some 2, none, false, .mv (.c .nils)⟩,
  ⟨some 3, none, false, .mv (.t 17)⟩]

def f_trial_Relations_r4 : List Abs.Op := [
  ⟨some 6, none, false, .nilb 1⟩]

def f_trial_Relations_r5 : List Abs.Op := [
  ⟨some 18, none, false, .fadr 0 (.t 1)⟩,
  ⟨some 19, none, false, .ld false 1 (.t 18)⟩,
  ⟨some 20, none, false, .mv (.c (.int .i64 0))⟩]

def f_trial_Relations_r6 : List Abs.Op := [
  ⟨some 21, none, false, .bin .lss (.t 20) (.t 19)⟩]

def f_trial_Relations_r7 : List Abs.Op := [
  ⟨some 22, none, false, .mv (.t 20)⟩,
  ⟨some 7, none, false, .mv (.t 22)⟩]

def f_trial_Relations_r8 : List Abs.Op := [
  ⟨some 8, none, false, .nilb 1⟩]

def f_trial_Relations_r9 : List Abs.Op := [
  ⟨some 23, none, false, .fadr 0 (.t 1)⟩,
  ⟨some 24, none, false, .ld false 1 (.t 23)⟩,
  ⟨some 25, none, false, .mv (.c (.int .i64 0))⟩]

def f_trial_Relations_r10 : List Abs.Op := [
  ⟨some 26, none, false, .bin .lss (.t 25) (.t 24)⟩]

def f_trial_Relations_r11 : List Abs.Op := [
  ⟨some 27, none, false, .mv (.t 25)⟩,
  ⟨some 9, none, false, .mv (.t 27)⟩]

def f_trial_Relations_r12 : List Abs.Op := [
  ⟨some 28, none, false, .mv (.t 8)⟩,
  ⟨some 29, none, false, .ldv 4 true 13 4⟩,
  ⟨some 30, none, false, .mv (.t 7)⟩,
  ⟨some 31, none, false, .mv (.t 9)⟩,
  ⟨some 32, none, false, .call false (.c (.fn i_trial_parted_relation [] [])) [(.t 29), (.t 30), (.t 31)]⟩,
  ⟨some 33, none, false, .bsi 1 1 [(.int .u8 0)] [(0, 1, (.t 32))]⟩,
  ⟨some 34, none, false, .app 1 1 (.t 28) (.t 33)⟩,
  ⟨some 8, none, false, .mv (.t 34)⟩]

def f_trial_Relations_r13 : List Abs.Op := [
  ⟨some 35, none, false, .bin .add (.t 25) (.c (.int .i64 1))⟩,
  ⟨some 25, none, false, .mv (.t 35)⟩]

def f_trial_Relations_l14 : Abs.Cmd :=
  (.seq (.reg [1, 4, 6, 7, 8, 19, 20, 24, 25, 26] f_trial_Relations_r10) (.seq (.ite (.t 26) .nop (.exit 2)) (.seq (.blk 3 (.seq (.reg [1, 4, 6, 7, 8, 9, 19, 20, 24, 25] f_trial_Relations_r11) (.reg [1, 4, 6, 7, 8, 19, 20, 24, 25] f_trial_Relations_r12))) (.reg [1, 4, 6, 7, 8, 19, 20, 24, 25] f_trial_Relations_r13))))

def f_trial_Relations_r15 : List Abs.Op := [
  ⟨some 36, none, false, .mv (.t 6)⟩,
  ⟨some 37, none, false, .mv (.t 8)⟩,
  ⟨some 38, none, false, .bsi 1 1 [.nils] [(0, 1, (.t 37))]⟩,
  ⟨some 39, none, false, .app 1 24 (.t 36) (.t 38)⟩,
  ⟨some 6, none, false, .mv (.t 39)⟩]

def f_trial_Relations_r16 : List Abs.Op := [
  ⟨some 40, none, false, .bin .add (.t 20) (.c (.int .i64 1))⟩,
  ⟨some 20, none, false, .mv (.t 40)⟩]

def f_trial_Relations_l17 : Abs.Cmd :=
  (.seq (.reg [1, 4, 6, 19, 20, 21] f_trial_Relations_r6) (.seq (.ite (.t 21) .nop (.exit 0)) (.seq (.blk 1 (.seq (.reg [1, 4, 6, 7, 19, 20] f_trial_Relations_r7) (.seq (.reg [1, 4, 6, 7, 8, 19, 20] f_trial_Relations_r8) (.seq (.seq (.reg [1, 4, 6, 7, 8, 19, 20, 24, 25] f_trial_Relations_r9) (.blk 2 (.loop [1, 4, 6, 7, 8, 19, 20, 24, 25] false f_trial_Relations_l14))) (.reg [1, 4, 6, 19, 20] f_trial_Relations_r15))))) (.reg [1, 4, 6, 19, 20] f_trial_Relations_r16))))

def f_trial_Relations_r18 : List Abs.Op := [
  ⟨some 41, none, false, .mv (.t 6)⟩,
  ⟨some 2, none, false, .mv (.t 41)⟩,
  ⟨some 3, none, false, .mv (.c (.int .i64 0))⟩]

def a_trial_Relations : Ann := ⟨[(16, [2, 3]), (15, [1, 4, 6, 19, 20]), (14, [1, 4, 6, 19, 20]), (13, [1, 4, 6, 7, 8, 19, 20, 24, 25]), (12, [1, 4, 6, 7, 8, 19, 20, 24, 25]), (11, [1, 4, 6, 7, 8, 9, 19, 20, 24, 25]), (10, [1, 4, 6, 7, 8, 19, 20, 24, 25, 26]), (9, [1, 4, 6, 7, 8, 19, 20, 24, 25]), (8, [1, 4, 6, 7, 8, 19, 20]), (7, [1, 4, 6, 7, 19, 20]), (6, [1, 4, 6, 19, 20, 21]), (5, [1, 4, 6, 19, 20]), (4, [1, 4, 6]), (3, [2, 3]), (2, [1, 4, 5, 16]), (1, [1, 4, 5]), (0, [1])], [(2, [1, 4, 6, 7, 8, 19, 20, 24, 25]), (0, [1, 4, 6, 19, 20])], [0], [4, 6, 8], [4], [], [], [], [], []⟩
def f_trial_Relations : Abs.Fn := ⟨1, [.t 2, .t 3],
  (.seq (.reg [1] f_trial_Relations_r0) (.seq (.reg [1, 4, 5] f_trial_Relations_r1) (.seq (.seq (.reg [1, 4, 5, 16] f_trial_Relations_r2) (.ite (.t 16) (.seq (.reg [2, 3] f_trial_Relations_r3) .ret) .nop)) (.seq (.reg [1, 4, 6] f_trial_Relations_r4) (.seq (.seq (.reg [1, 4, 6, 19, 20] f_trial_Relations_r5) (.blk 0 (.loop [1, 4, 6, 19, 20] true f_trial_Relations_l17))) (.seq (.reg [2, 3] f_trial_Relations_r18) .ret))))))⟩

theorem e_trial_Relations_r0 : type_of% f_trial_Relations_r0.eq_1 := by_rfl f_trial_Relations_r0.eq_1
theorem e_trial_Relations_r1 : type_of% f_trial_Relations_r1.eq_1 := by_rfl f_trial_Relations_r1.eq_1
theorem e_trial_Relations_r2 : type_of% f_trial_Relations_r2.eq_1 := by_rfl f_trial_Relations_r2.eq_1
theorem e_trial_Relations_r3 : type_of% f_trial_Relations_r3.eq_1 := by_rfl f_trial_Relations_r3.eq_1
theorem e_trial_Relations_r4 : type_of% f_trial_Relations_r4.eq_1 := by_rfl f_trial_Relations_r4.eq_1
theorem e_trial_Relations_r5 : type_of% f_trial_Relations_r5.eq_1 := by_rfl f_trial_Relations_r5.eq_1
theorem e_trial_Relations_r6 : type_of% f_trial_Relations_r6.eq_1 := by_rfl f_trial_Relations_r6.eq_1
theorem e_trial_Relations_r7 : type_of% f_trial_Relations_r7.eq_1 := by_rfl f_trial_Relations_r7.eq_1
theorem e_trial_Relations_r8 : type_of% f_trial_Relations_r8.eq_1 := by_rfl f_trial_Relations_r8.eq_1
theorem e_trial_Relations_r9 : type_of% f_trial_Relations_r9.eq_1 := by_rfl f_trial_Relations_r9.eq_1
theorem e_trial_Relations_r10 : type_of% f_trial_Relations_r10.eq_1 := by_rfl f_trial_Relations_r10.eq_1
theorem e_trial_Relations_r11 : type_of% f_trial_Relations_r11.eq_1 := by_rfl f_trial_Relations_r11.eq_1
theorem e_trial_Relations_r12 : type_of% f_trial_Relations_r12.eq_1 := by_rfl f_trial_Relations_r12.eq_1
theorem e_trial_Relations_r13 : type_of% f_trial_Relations_r13.eq_1 := by_rfl f_trial_Relations_r13.eq_1
theorem e_trial_Relations_l14 : type_of% f_trial_Relations_l14.eq_1 := by_rfl f_trial_Relations_l14.eq_1
theorem e_trial_Relations_r15 : type_of% f_trial_Relations_r15.eq_1 := by_rfl f_trial_Relations_r15.eq_1
theorem e_trial_Relations_r16 : type_of% f_trial_Relations_r16.eq_1 := by_rfl f_trial_Relations_r16.eq_1
theorem e_trial_Relations_l17 : type_of% f_trial_Relations_l17.eq_1 := by_rfl f_trial_Relations_l17.eq_1
theorem e_trial_Relations_r18 : type_of% f_trial_Relations_r18.eq_1 := by_rfl f_trial_Relations_r18.eq_1
theorem e_trial_Relations : type_of% f_trial_Relations.eq_1 := by_rfl f_trial_Relations.eq_1
theorem ok_trial_Relations : fnC Try.prog a_trial_Relations Try.f34 = some f_trial_Relations := by kernel_rfl

/-! 36 fumarole/trial.Plan -/
def f_trial_Plan_r0 : List Abs.Op := [
  ⟨some 1, none, false, .boxi (.t 0)⟩,
  ⟨some 2, none, false, .mv (.c .nils)⟩,
  ⟨some 3, none, false, .mv (.c (.int .i64 0))⟩]

def f_trial_Plan_r1 : List Abs.Op := [
  ⟨some 12, none, false, .ld true 3 (.t 1)⟩,
  ⟨some 13, none, false, .call false (.c (.fn i_trial_checked [] [])) [(.t 12)]⟩,
  ⟨some 11, none, false, .mv (.t 13)⟩,
  ⟨some 14, none, false, .ext (.t 11) 0⟩,
  ⟨some 15, none, false, .ext (.t 11) 1⟩,
  ⟨some 4, none, false, .alc [] [(.int .i64 0), (.int .i64 0), .nils, (.int .i64 0), (.int .i64 0), (.int .i64 0), (.int .i64 0), (.int .i64 0), (.int .i64 0), (.int .i64 0), (.int .i64 0), (.int .i64 0), (.int .i64 0)]⟩,
  ⟨none, none, false, .st [] 13 (.t 4) (.t 14)⟩,
  ⟨some 5, none, false, .mv (.t 15)⟩]

def f_trial_Plan_r2 : List Abs.Op := [
  ⟨some 16, none, false, .mv (.t 5)⟩,
  ⟨some 17, none, false, .bin .neq (.t 16) (.c (.int .i64 0))⟩]

def f_trial_Plan_r3 : List Abs.Op := [
  ⟨some 18, none, false, .mv (.t 5)⟩,
  ⟨some 2, none, false, .mv (.c .nils)⟩,
  ⟨some 3, none, false, .mv (.t 18)⟩]

def f_trial_Plan_r4 : List Abs.Op := [
  ⟨some 6, none, false, .alc [(0, 1)] [.nils]⟩]

def f_trial_Plan_r5 : List Abs.Op := [
  ⟨some 19, none, false, .mkf i_trial_Plan_1 [] [(.t 6), (.t 4)]⟩,
  ⟨some 7, none, false, .alc [] [.nilf]⟩,
  ⟨none, none, false, .st [] 1 (.t 7) (.t 19)⟩]

def f_trial_Plan_r6 : List Abs.Op := [
  ⟨some 20, none, false, .mkf i_trial_Plan_2 [] [(.t 1), (.t 4), (.t 7)]⟩,
  ⟨some 8, none, false, .alc [] [.nilf]⟩,
  ⟨none, none, false, .st [] 1 (.t 8) (.t 20)⟩]

def f_trial_Plan_r7 : List Abs.Op := [
  ⟨some 9, none, false, .alc [] [.nilf]⟩]

def f_trial_Plan_r8 : List Abs.Op := [
  ⟨some 21, none, false, .mkf i_trial_Plan_3 [] [(.t 8), (.t 1), (.t 6), (.t 9)]⟩,
  ⟨none, none, false, .st [] 1 (.t 9) (.t 21)⟩]

def f_trial_Plan_r9 : List Abs.Op := [
  ⟨some 10, none, false, .mv (.c (.int .i64 0))⟩]

def f_trial_Plan_r10 : List Abs.Op := [
  ⟨some 22, none, false, .ld false 1 (.t 9)⟩,
  ⟨some 23, none, false, .mv (.t 10)⟩,
  ⟨some 24, none, false, .call false (.t 22) [(.c (.int .i64 0)), (.t 23)]⟩,
  ⟨some 25, none, false, .un .not (.t 24)⟩]

def f_trial_Plan_r11 : List Abs.Op := [
  ⟨some 26, none, false, .mv (.t 10)⟩,
  ⟨some 27, none, false, .bin .add (.t 26) (.c (.int .i64 1))⟩,
  ⟨some 10, none, false, .mv (.t 27)⟩]

def f_trial_Plan_l12 : Abs.Cmd :=
  (.seq (.seq (.reg [6, 9, 10, 25] f_trial_Plan_r10) (.ite (.t 25) .nop (.exit 0))) (.seq (.blk 1 .nop) (.reg [6, 9, 10] f_trial_Plan_r11)))

def f_trial_Plan_r13 : List Abs.Op := [
  ⟨some 28, none, false, .ld false 1 (.t 6)⟩,
  ⟨some 2, none, false, .mv (.t 28)⟩,
  ⟨some 3, none, false, .mv (.c (.int .i64 0))⟩]

def a_trial_Plan : Ann := ⟨[(12, [2, 3]), (11, [6, 9, 10]), (10, [6, 9, 10, 25]), (9, [6, 9, 10]), (8, [6, 9]), (7, [1, 6, 8, 9]), (6, [1, 6, 8]), (5, [1, 4, 6, 7]), (4, [1, 4, 6]), (3, [2, 3]), (2, [1, 4, 5, 17]), (1, [1, 4, 5]), (0, [1])], [(0, [6, 9, 10])], [], [4, 6, 7, 8, 9], [], [(4000, [(0, 1)])], [], [], [], []⟩
def f_trial_Plan : Abs.Fn := ⟨1, [.t 2, .t 3],
  (.seq (.reg [1] f_trial_Plan_r0) (.seq (.reg [1, 4, 5] f_trial_Plan_r1) (.seq (.seq (.reg [1, 4, 5, 17] f_trial_Plan_r2) (.ite (.t 17) (.seq (.reg [2, 3] f_trial_Plan_r3) .ret) .nop)) (.seq (.reg [1, 4, 6] f_trial_Plan_r4) (.seq (.reg [1, 4, 6, 7] f_trial_Plan_r5) (.seq (.reg [1, 6, 8] f_trial_Plan_r6) (.seq (.reg [1, 6, 8, 9] f_trial_Plan_r7) (.seq (.reg [6, 9] f_trial_Plan_r8) (.seq (.seq (.reg [6, 9, 10] f_trial_Plan_r9) (.blk 0 (.loop [6, 9, 10] false f_trial_Plan_l12))) (.seq (.reg [2, 3] f_trial_Plan_r13) .ret))))))))))⟩

theorem e_trial_Plan_r0 : type_of% f_trial_Plan_r0.eq_1 := by_rfl f_trial_Plan_r0.eq_1
theorem e_trial_Plan_r1 : type_of% f_trial_Plan_r1.eq_1 := by_rfl f_trial_Plan_r1.eq_1
theorem e_trial_Plan_r2 : type_of% f_trial_Plan_r2.eq_1 := by_rfl f_trial_Plan_r2.eq_1
theorem e_trial_Plan_r3 : type_of% f_trial_Plan_r3.eq_1 := by_rfl f_trial_Plan_r3.eq_1
theorem e_trial_Plan_r4 : type_of% f_trial_Plan_r4.eq_1 := by_rfl f_trial_Plan_r4.eq_1
theorem e_trial_Plan_r5 : type_of% f_trial_Plan_r5.eq_1 := by_rfl f_trial_Plan_r5.eq_1
theorem e_trial_Plan_r6 : type_of% f_trial_Plan_r6.eq_1 := by_rfl f_trial_Plan_r6.eq_1
theorem e_trial_Plan_r7 : type_of% f_trial_Plan_r7.eq_1 := by_rfl f_trial_Plan_r7.eq_1
theorem e_trial_Plan_r8 : type_of% f_trial_Plan_r8.eq_1 := by_rfl f_trial_Plan_r8.eq_1
theorem e_trial_Plan_r9 : type_of% f_trial_Plan_r9.eq_1 := by_rfl f_trial_Plan_r9.eq_1
theorem e_trial_Plan_r10 : type_of% f_trial_Plan_r10.eq_1 := by_rfl f_trial_Plan_r10.eq_1
theorem e_trial_Plan_r11 : type_of% f_trial_Plan_r11.eq_1 := by_rfl f_trial_Plan_r11.eq_1
theorem e_trial_Plan_l12 : type_of% f_trial_Plan_l12.eq_1 := by_rfl f_trial_Plan_l12.eq_1
theorem e_trial_Plan_r13 : type_of% f_trial_Plan_r13.eq_1 := by_rfl f_trial_Plan_r13.eq_1
theorem e_trial_Plan : type_of% f_trial_Plan.eq_1 := by_rfl f_trial_Plan.eq_1
theorem ok_trial_Plan : fnC Try.prog a_trial_Plan Try.f36 = some f_trial_Plan := by kernel_rfl

/-! 37 fumarole/fumarolelaw04.ints -/
def f_law04_ints_r0 : List Abs.Op := [
  ⟨some 4, none, false, .mv (.c (.bool false))⟩]

def f_law04_ints_r1 : List Abs.Op := [
  ⟨some 6, none, false, .mv (.t 0)⟩,
  ⟨some 7, none, false, .lenS (.t 6)⟩,
  ⟨some 8, none, false, .mv (.t 1)⟩,
  ⟨some 9, none, false, .lenS (.t 8)⟩,
  ⟨some 10, none, false, .bin .neq (.t 7) (.t 9)⟩]

def f_law04_ints_r2 : List Abs.Op := [
  ⟨some 4, none, false, .mv (.c (.bool false))⟩]

def f_law04_ints_r3 : List Abs.Op := [
  ⟨some 5, none, false, .mv (.c (.int .i64 0))⟩]

def f_law04_ints_r4 : List Abs.Op := [
  ⟨some 11, none, false, .mv (.t 5)⟩,
  ⟨some 12, none, false, .mv (.t 0)⟩,
  ⟨some 13, none, false, .lenS (.t 12)⟩,
  ⟨some 14, none, false, .bin .lss (.t 11) (.t 13)⟩]

def f_law04_ints_r5 : List Abs.Op := [
  ⟨some 17, none, true, .mv (.t 0)⟩,
  ⟨some 18, none, true, .mv (.t 5)⟩,
  ⟨some 19, none, true, .idxS 1 (.t 17) (.t 18)⟩,
  ⟨some 20, none, true, .ld false 1 (.t 19)⟩,
  ⟨some 21, none, true, .mv (.t 1)⟩,
  ⟨some 22, none, true, .mv (.t 5)⟩,
  ⟨some 23, none, true, .idxS 1 (.t 21) (.t 22)⟩,
  ⟨some 24, none, true, .ld false 1 (.t 23)⟩,
  ⟨some 25, none, false, .bin .neq (.t 20) (.t 24)⟩]

def f_law04_ints_r6 : List Abs.Op := [
  ⟨some 4, none, false, .mv (.c (.bool false))⟩]

def f_law04_ints_r7 : List Abs.Op := [
  ⟨some 15, none, false, .mv (.t 5)⟩,
  ⟨some 16, none, false, .bin .add (.t 15) (.c (.int .i64 1))⟩,
  ⟨some 5, none, false, .mv (.t 16)⟩]

def f_law04_ints_l8 : Abs.Cmd :=
  (.seq (.seq (.reg [0, 1, 5, 14] f_law04_ints_r4) (.ite (.t 14) .nop (.exit 0))) (.seq (.blk 1 (.seq (.reg [0, 1, 5, 25] f_law04_ints_r5) (.ite (.t 25) (.seq (.reg [4] f_law04_ints_r6) .ret) .nop))) (.reg [0, 1, 5] f_law04_ints_r7)))

def f_law04_ints_r9 : List Abs.Op := [
  ⟨some 4, none, false, .mv (.c (.bool true))⟩]

def a_law04_ints : Ann := ⟨[(8, [4]), (5, [0, 1, 5]), (7, [4]), (6, [0, 1, 5, 25]), (4, [0, 1, 5, 14]), (3, [0, 1, 5]), (2, [4]), (1, [0, 1, 10]), (0, [0, 1])], [(0, [0, 1, 5])], [], [], [], [], [], [], [], []⟩
def f_law04_ints : Abs.Fn := ⟨2, [.t 4],
  (.seq (.reg [0, 1] f_law04_ints_r0) (.seq (.seq (.reg [0, 1, 10] f_law04_ints_r1) (.ite (.t 10) (.seq (.reg [4] f_law04_ints_r2) .ret) .nop)) (.seq (.seq (.reg [0, 1, 5] f_law04_ints_r3) (.blk 0 (.loop [0, 1, 5] false f_law04_ints_l8))) (.seq (.reg [4] f_law04_ints_r9) .ret))))⟩

theorem e_law04_ints_r0 : type_of% f_law04_ints_r0.eq_1 := by_rfl f_law04_ints_r0.eq_1
theorem e_law04_ints_r1 : type_of% f_law04_ints_r1.eq_1 := by_rfl f_law04_ints_r1.eq_1
theorem e_law04_ints_r2 : type_of% f_law04_ints_r2.eq_1 := by_rfl f_law04_ints_r2.eq_1
theorem e_law04_ints_r3 : type_of% f_law04_ints_r3.eq_1 := by_rfl f_law04_ints_r3.eq_1
theorem e_law04_ints_r4 : type_of% f_law04_ints_r4.eq_1 := by_rfl f_law04_ints_r4.eq_1
theorem e_law04_ints_r5 : type_of% f_law04_ints_r5.eq_1 := by_rfl f_law04_ints_r5.eq_1
theorem e_law04_ints_r6 : type_of% f_law04_ints_r6.eq_1 := by_rfl f_law04_ints_r6.eq_1
theorem e_law04_ints_r7 : type_of% f_law04_ints_r7.eq_1 := by_rfl f_law04_ints_r7.eq_1
theorem e_law04_ints_l8 : type_of% f_law04_ints_l8.eq_1 := by_rfl f_law04_ints_l8.eq_1
theorem e_law04_ints_r9 : type_of% f_law04_ints_r9.eq_1 := by_rfl f_law04_ints_r9.eq_1
theorem e_law04_ints : type_of% f_law04_ints.eq_1 := by_rfl f_law04_ints.eq_1
theorem ok_law04_ints : fnC Try.prog a_law04_ints Try.f37 = some f_law04_ints := by kernel_rfl

/-! 41 fumarole/trial.ProveNone -/
def f_trial_ProveNone_r0 : List Abs.Op := [
  ⟨some 2, none, false, .boxi (.t 0)⟩,
  ⟨some 3, none, false, .boxi (.t 1)⟩,
  ⟨some 4, none, false, .alc [] [(.bool false)]⟩]

def f_trial_ProveNone_r1 : List Abs.Op := [
  ⟨some 10, none, false, .ld true 7 (.t 2)⟩,
  ⟨some 11, none, false, .call false (.c (.fn i_trial_CheckTest [] [])) [(.t 10)]⟩,
  ⟨some 12, none, false, .bin .neq (.t 11) (.c (.int .i64 0))⟩]

def f_trial_ProveNone_r2 : List Abs.Op := [
  ⟨none, none, false, .st [] 1 (.t 4) (.c (.bool false))⟩]

def f_trial_ProveNone_r3 : List Abs.Op := [
  ⟨some 5, none, false, .alc [] [(.int .i64 0)]⟩,
  ⟨none, none, false, .st [] 1 (.t 5) (.c (.int .i64 0))⟩]

def f_trial_ProveNone_r4 : List Abs.Op := [
  ⟨some 13, none, false, .ld true 7 (.t 2)⟩,
  ⟨some 14, none, false, .call true (.c (.fn i_trial_Test_rooms [] [])) [(.t 13)]⟩]

def f_trial_ProveNone_r5 : List Abs.Op := [
  ⟨some 7, none, false, .mv (.t 16)⟩]

def f_trial_ProveNone_r6 : List Abs.Op := [
  ⟨some 17, none, false, .ld false 1 (.t 5)⟩,
  ⟨some 18, none, false, .ld false 1 (.t 3)⟩,
  ⟨some 19, none, false, .lenS (.t 18)⟩,
  ⟨some 20, none, false, .bin .eql (.t 17) (.t 19)⟩]

def f_trial_ProveNone_r7 : List Abs.Op := [
  ⟨none, none, false, .st [] 1 (.t 4) (.c (.bool false))⟩]

def f_trial_ProveNone_r8 : List Abs.Op := [
  ⟨some 21, none, true, .ld false 1 (.t 3)⟩,
  ⟨some 22, none, true, .ld false 1 (.t 5)⟩,
  ⟨some 23, none, true, .idxS 2 (.t 21) (.t 22)⟩,
  ⟨some 24, none, true, .idxA 2 1 (.t 23) (.c (.int .i64 0))⟩,
  ⟨some 25, none, true, .ld false 1 (.t 24)⟩,
  ⟨some 26, none, true, .ld false 1 (.t 3)⟩,
  ⟨some 27, none, true, .ld false 1 (.t 5)⟩,
  ⟨some 28, none, true, .idxS 2 (.t 26) (.t 27)⟩,
  ⟨some 29, none, true, .idxA 2 1 (.t 28) (.c (.int .i64 1))⟩,
  ⟨some 30, none, true, .ld false 1 (.t 29)⟩,
  ⟨some 8, none, true, .mv (.t 25)⟩,
  ⟨some 9, none, false, .mv (.t 30)⟩]

def f_trial_ProveNone_r9 : List Abs.Op := [
  ⟨some 31, none, true, .mv (.t 8)⟩,
  ⟨some 32, none, true, .mv (.t 7)⟩,
  ⟨some 33, none, true, .lenS (.t 32)⟩,
  ⟨some 34, none, true, .bin .sub (.t 33) (.c (.int .i64 2))⟩,
  ⟨some 35, none, true, .call false (.c (.fn i_trial_within [] [])) [(.t 31), (.c (.int .i64 (-1))), (.t 34)]⟩,
  ⟨some 36, none, true, .un .not (.t 35)⟩,
  ⟨some 37, none, true, .mv (.t 36)⟩,
  ⟨some 38, some (37, false), true, .mv (.t 9)⟩,
  ⟨some 39, some (37, false), true, .mv (.t 7)⟩,
  ⟨some 40, some (37, false), true, .lenS (.t 39)⟩,
  ⟨some 41, some (37, false), true, .bin .sub (.t 40) (.c (.int .i64 2))⟩,
  ⟨some 42, some (37, false), true, .call false (.c (.fn i_trial_within [] [])) [(.t 38), (.c (.int .i64 (-1))), (.t 41)]⟩,
  ⟨some 43, some (37, false), true, .un .not (.t 42)⟩,
  ⟨some 44, none, true, .pick (.t 37) (.c (.bool true)) (.t 43)⟩,
  ⟨some 45, none, true, .mv (.t 44)⟩,
  ⟨some 46, some (45, false), true, .mv (.t 7)⟩,
  ⟨some 47, some (45, false), true, .mv (.t 8)⟩,
  ⟨some 48, some (45, false), true, .bin .add (.t 47) (.c (.int .i64 1))⟩,
  ⟨some 49, some (45, false), true, .idxS 2 (.t 46) (.t 48)⟩,
  ⟨some 50, some (45, false), true, .fadr 0 (.t 49)⟩,
  ⟨some 51, some (45, false), true, .ld false 1 (.t 50)⟩,
  ⟨some 52, some (45, false), true, .mv (.t 7)⟩,
  ⟨some 53, some (45, false), true, .mv (.t 9)⟩,
  ⟨some 54, some (45, false), true, .bin .add (.t 53) (.c (.int .i64 1))⟩,
  ⟨some 55, some (45, false), true, .idxS 2 (.t 52) (.t 54)⟩,
  ⟨some 56, some (45, false), true, .fadr 1 (.t 55)⟩,
  ⟨some 57, some (45, false), true, .ld false 1 (.t 56)⟩,
  ⟨some 58, some (45, false), false, .bin .leq (.t 51) (.t 57)⟩,
  ⟨some 59, none, false, .pick (.t 45) (.c (.bool true)) (.t 58)⟩]

def f_trial_ProveNone_r10 : List Abs.Op := [
  ⟨none, none, false, .st [] 1 (.t 4) (.c (.bool false))⟩]

def f_trial_ProveNone_r11 : List Abs.Op := [
  ⟨some 60, none, false, .ld false 1 (.t 5)⟩,
  ⟨some 61, none, false, .bin .add (.t 60) (.c (.int .i64 1))⟩,
  ⟨none, none, false, .st [] 1 (.t 5) (.t 61)⟩]

def f_trial_ProveNone_a12 : Abs.Cmd :=
  (.reg [3, 4, 5, 7] f_trial_ProveNone_r5)

def f_trial_ProveNone_b12 : Abs.Cmd :=
  (.blk 1 (.seq (.seq (.reg [3, 4, 5, 7, 20] f_trial_ProveNone_r6) (.ite (.t 20) (.seq (.reg [] f_trial_ProveNone_r7) .ret) .nop)) (.seq (.reg [4, 5, 7, 8, 9] f_trial_ProveNone_r8) (.seq (.seq (.reg [4, 5, 59] f_trial_ProveNone_r9) (.ite (.t 59) (.seq (.reg [] f_trial_ProveNone_r10) .ret) .nop)) (.reg [] f_trial_ProveNone_r11)))))

def f_trial_ProveNone_r13 : List Abs.Op := [
  ⟨some 62, none, false, .ld false 1 (.t 5)⟩,
  ⟨some 63, none, false, .ld false 1 (.t 3)⟩,
  ⟨some 64, none, false, .lenS (.t 63)⟩,
  ⟨some 65, none, false, .bin .eql (.t 62) (.t 64)⟩,
  ⟨none, none, false, .st [] 1 (.t 4) (.t 65)⟩]

def a_trial_ProveNone : Ann := ⟨[(12, [4]), (11, []), (10, []), (9, [4, 5, 59]), (8, [4, 5, 7, 8, 9]), (7, []), (6, [3, 4, 5, 7, 20]), (5, [3, 4, 5, 7]), (4, [3, 4, 5, 14]), (3, [2, 3, 4, 5]), (2, [4]), (1, [2, 3, 4, 12]), (0, [2, 3, 4])], [(0, [3, 4, 5])], [], [4, 5], [], [], [4001], [], [], []⟩
def f_trial_ProveNone : Abs.Fn := ⟨2, [.c 4 false 1],
  (.seq (.reg [2, 3, 4] f_trial_ProveNone_r0) (.seq (.seq (.reg [2, 3, 4, 12] f_trial_ProveNone_r1) (.ite (.t 12) (.seq (.reg [4] f_trial_ProveNone_r2) .ret) .nop)) (.seq (.reg [2, 3, 4, 5] f_trial_ProveNone_r3) (.seq (.seq (.reg [3, 4, 5, 14] f_trial_ProveNone_r4) (.blk 0 (.rngf [3, 4, 5] (.t 14) [15, 16] f_trial_ProveNone_a12 f_trial_ProveNone_b12))) (.seq (.reg [4] f_trial_ProveNone_r13) .ret)))))⟩

theorem e_trial_ProveNone_r0 : type_of% f_trial_ProveNone_r0.eq_1 := by_rfl f_trial_ProveNone_r0.eq_1
theorem e_trial_ProveNone_r1 : type_of% f_trial_ProveNone_r1.eq_1 := by_rfl f_trial_ProveNone_r1.eq_1
theorem e_trial_ProveNone_r2 : type_of% f_trial_ProveNone_r2.eq_1 := by_rfl f_trial_ProveNone_r2.eq_1
theorem e_trial_ProveNone_r3 : type_of% f_trial_ProveNone_r3.eq_1 := by_rfl f_trial_ProveNone_r3.eq_1
theorem e_trial_ProveNone_r4 : type_of% f_trial_ProveNone_r4.eq_1 := by_rfl f_trial_ProveNone_r4.eq_1
theorem e_trial_ProveNone_r5 : type_of% f_trial_ProveNone_r5.eq_1 := by_rfl f_trial_ProveNone_r5.eq_1
theorem e_trial_ProveNone_r6 : type_of% f_trial_ProveNone_r6.eq_1 := by_rfl f_trial_ProveNone_r6.eq_1
theorem e_trial_ProveNone_r7 : type_of% f_trial_ProveNone_r7.eq_1 := by_rfl f_trial_ProveNone_r7.eq_1
theorem e_trial_ProveNone_r8 : type_of% f_trial_ProveNone_r8.eq_1 := by_rfl f_trial_ProveNone_r8.eq_1
theorem e_trial_ProveNone_r9 : type_of% f_trial_ProveNone_r9.eq_1 := by_rfl f_trial_ProveNone_r9.eq_1
theorem e_trial_ProveNone_r10 : type_of% f_trial_ProveNone_r10.eq_1 := by_rfl f_trial_ProveNone_r10.eq_1
theorem e_trial_ProveNone_r11 : type_of% f_trial_ProveNone_r11.eq_1 := by_rfl f_trial_ProveNone_r11.eq_1
theorem e_trial_ProveNone_a12 : type_of% f_trial_ProveNone_a12.eq_1 := by_rfl f_trial_ProveNone_a12.eq_1
theorem e_trial_ProveNone_b12 : type_of% f_trial_ProveNone_b12.eq_1 := by_rfl f_trial_ProveNone_b12.eq_1
theorem e_trial_ProveNone_r13 : type_of% f_trial_ProveNone_r13.eq_1 := by_rfl f_trial_ProveNone_r13.eq_1
theorem e_trial_ProveNone : type_of% f_trial_ProveNone.eq_1 := by_rfl f_trial_ProveNone.eq_1
theorem ok_trial_ProveNone : fnC Try.prog a_trial_ProveNone Try.f41 = some f_trial_ProveNone := by kernel_rfl

/-! 43 fumarole/trial.Widest -/
def f_trial_Widest_r0 : List Abs.Op := [
  ⟨some 2, none, false, .boxi (.t 0)⟩,
  ⟨some 4, none, false, .mv (.c (.int .i64 0))⟩,
  ⟨some 5, none, false, .mv (.c (.int .i64 0))⟩]

def f_trial_Widest_r1 : List Abs.Op := [
  ⟨some 15, none, false, .ld true 7 (.t 2)⟩,
  ⟨some 16, none, false, .call false (.c (.fn i_trial_CheckTest [] [])) [(.t 15)]⟩,
  ⟨some 6, none, false, .mv (.t 16)⟩]

def f_trial_Widest_r2 : List Abs.Op := [
  ⟨some 17, none, false, .mv (.t 6)⟩,
  ⟨some 18, none, false, .bin .neq (.t 17) (.c (.int .i64 0))⟩]

def f_trial_Widest_r3 : List Abs.Op := [
  ⟨some 19, none, false, .mv (.t 6)⟩,
  ⟨some 4, none, false, .mv (.c (.int .i64 0))⟩,
  ⟨some 5, none, false, .mv (.t 19)⟩]

def f_trial_Widest_r4 : List Abs.Op := [
  ⟨some 20, none, false, .mv (.t 1)⟩,
  ⟨some 21, none, false, .lenS (.t 20)⟩,
  ⟨some 22, none, false, .call false (.c (.fn i_trial_within [] [])) [(.t 21), (.c (.int .i64 1)), (.c (.int .i64 12))]⟩,
  ⟨some 23, none, false, .un .not (.t 22)⟩]

def f_trial_Widest_r5 : List Abs.Op := [
  ⟨some 4, none, false, .mv (.c (.int .i64 0))⟩,
  ⟨some 5, none, false, .mv (.c (.int .i64 2))⟩]

def f_trial_Widest_r6 : List Abs.Op := [
  ⟨some 24, none, false, .mv (.t 1)⟩,
  ⟨some 25, none, false, .lenS (.t 24)⟩,
  ⟨some 26, none, false, .mv (.c (.int .i64 0))⟩]

def f_trial_Widest_r7 : List Abs.Op := [
  ⟨some 27, none, false, .bin .lss (.t 26) (.t 25)⟩]

def f_trial_Widest_r8 : List Abs.Op := [
  ⟨some 28, none, false, .idxS 1 (.t 24) (.t 26)⟩,
  ⟨some 29, none, false, .ld false 1 (.t 28)⟩,
  ⟨some 8, none, false, .mv (.t 29)⟩]

def f_trial_Widest_r9 : List Abs.Op := [
  ⟨some 30, none, false, .mv (.t 8)⟩,
  ⟨some 31, none, false, .call false (.c (.fn i_trial_within [] [])) [(.t 30), (.c (.int .i64 0)), (.c (.int .i64 1000))]⟩,
  ⟨some 32, none, false, .un .not (.t 31)⟩]

def f_trial_Widest_r10 : List Abs.Op := [
  ⟨some 4, none, false, .mv (.c (.int .i64 0))⟩,
  ⟨some 5, none, false, .mv (.c (.int .i64 2))⟩]

def f_trial_Widest_r11 : List Abs.Op := [
  ⟨some 33, none, false, .bin .add (.t 26) (.c (.int .i64 1))⟩,
  ⟨some 26, none, false, .mv (.t 33)⟩]

def f_trial_Widest_l12 : Abs.Cmd :=
  (.seq (.reg [1, 2, 24, 25, 26, 27] f_trial_Widest_r7) (.seq (.ite (.t 27) .nop (.exit 0)) (.seq (.blk 1 (.seq (.reg [1, 2, 8, 24, 25, 26] f_trial_Widest_r8) (.seq (.reg [1, 2, 24, 25, 26, 32] f_trial_Widest_r9) (.ite (.t 32) (.seq (.reg [4, 5] f_trial_Widest_r10) .ret) .nop)))) (.reg [1, 2, 24, 25, 26] f_trial_Widest_r11))))

def f_trial_Widest_r13 : List Abs.Op := [
  ⟨some 34, none, false, .ld true 7 (.t 2)⟩,
  ⟨some 35, none, false, .call false (.c (.fn i_trial_Test_none [] [])) [(.t 34)]⟩]

def f_trial_Widest_r14 : List Abs.Op := [
  ⟨some 4, none, false, .mv (.c (.int .i64 0))⟩,
  ⟨some 5, none, false, .mv (.c (.int .i64 7))⟩]

def f_trial_Widest_r15 : List Abs.Op := [
  ⟨some 9, none, false, .mv (.c (.int .i64 0))⟩,
  ⟨some 10, none, false, .mv (.c (.int .i64 (-1)))⟩]

def f_trial_Widest_r16 : List Abs.Op := [
  ⟨some 36, none, false, .mv (.t 1)⟩,
  ⟨some 37, none, false, .lenS (.t 36)⟩,
  ⟨some 38, none, false, .mv (.c (.int .i64 0))⟩]

def f_trial_Widest_r17 : List Abs.Op := [
  ⟨some 39, none, false, .bin .lss (.t 38) (.t 37)⟩]

def f_trial_Widest_r18 : List Abs.Op := [
  ⟨some 40, none, false, .mv (.t 38)⟩,
  ⟨some 41, none, false, .idxS 1 (.t 36) (.t 38)⟩,
  ⟨some 42, none, false, .ld false 1 (.t 41)⟩,
  ⟨some 11, none, false, .mv (.t 40)⟩,
  ⟨some 12, none, false, .mv (.t 42)⟩]

def f_trial_Widest_r19 : List Abs.Op := [
  ⟨some 44, none, false, .ld true 7 (.t 2)⟩,
  ⟨some 45, none, false, .mv (.t 12)⟩,
  ⟨some 46, none, false, .call false (.c (.fn i_trial_Test_drawdown [] [])) [(.t 44), (.t 45)]⟩,
  ⟨some 43, none, false, .mv (.t 46)⟩,
  ⟨some 47, none, false, .ext (.t 43) 0⟩,
  ⟨some 48, none, false, .ext (.t 43) 1⟩,
  ⟨some 13, none, false, .alcv [] [(.int .i64 0), (.int .i64 0)]⟩,
  ⟨none, none, false, .stv 13 [] 2 13 (.t 47)⟩,
  ⟨some 14, none, false, .mv (.t 48)⟩]

def f_trial_Widest_r20 : List Abs.Op := [
  ⟨some 49, none, false, .fadr 1 (.t 13)⟩,
  ⟨some 50, none, false, .ldv 13 false 1 49⟩,
  ⟨some 51, none, false, .fadr 0 (.t 13)⟩,
  ⟨some 52, none, false, .ldv 13 false 1 51⟩,
  ⟨some 53, none, false, .bin .sub (.t 50) (.t 52)⟩,
  ⟨some 54, none, false, .mv (.t 10)⟩,
  ⟨some 55, none, false, .bin .gtr (.t 53) (.t 54)⟩]

def f_trial_Widest_r21 : List Abs.Op := [
  ⟨some 56, none, true, .mv (.t 11)⟩,
  ⟨some 57, none, true, .fadr 1 (.t 13)⟩,
  ⟨some 58, none, true, .ldv 13 false 1 57⟩,
  ⟨some 59, none, true, .fadr 0 (.t 13)⟩,
  ⟨some 60, none, true, .ldv 13 false 1 59⟩,
  ⟨some 61, none, true, .bin .sub (.t 58) (.t 60)⟩,
  ⟨some 9, none, true, .mv (.t 56)⟩,
  ⟨some 10, none, false, .mv (.t 61)⟩]

def f_trial_Widest_r22 : List Abs.Op := [
  ⟨some 62, none, false, .bin .add (.t 38) (.c (.int .i64 1))⟩,
  ⟨some 38, none, false, .mv (.t 62)⟩]

def f_trial_Widest_l23 : Abs.Cmd :=
  (.seq (.reg [2, 9, 10, 36, 37, 38, 39] f_trial_Widest_r17) (.seq (.ite (.t 39) .nop (.exit 2)) (.seq (.blk 3 (.seq (.reg [2, 9, 10, 11, 12, 36, 37, 38] f_trial_Widest_r18) (.seq (.reg [2, 9, 10, 11, 13, 36, 37, 38] f_trial_Widest_r19) (.seq (.reg [2, 9, 10, 11, 13, 36, 37, 38, 55] f_trial_Widest_r20) (.ite (.t 55) (.reg [2, 9, 10, 36, 37, 38] f_trial_Widest_r21) .nop))))) (.reg [2, 9, 10, 36, 37, 38] f_trial_Widest_r22))))

def f_trial_Widest_r24 : List Abs.Op := [
  ⟨some 63, none, false, .mv (.t 9)⟩,
  ⟨some 4, none, false, .mv (.t 63)⟩,
  ⟨some 5, none, false, .mv (.c (.int .i64 0))⟩]

def a_trial_Widest : Ann := ⟨[(22, [4, 5]), (21, [2, 9, 10, 36, 37, 38]), (20, [2, 9, 10, 36, 37, 38]), (19, [2, 9, 10, 11, 13, 36, 37, 38, 55]), (18, [2, 9, 10, 11, 13, 36, 37, 38]), (17, [2, 9, 10, 11, 12, 36, 37, 38]), (16, [2, 9, 10, 36, 37, 38, 39]), (15, [2, 9, 10, 36, 37, 38]), (14, [1, 2, 9, 10]), (13, [4, 5]), (12, [1, 2, 35]), (11, [1, 2, 24, 25, 26]), (10, [4, 5]), (9, [1, 2, 24, 25, 26, 32]), (8, [1, 2, 8, 24, 25, 26]), (7, [1, 2, 24, 25, 26, 27]), (6, [1, 2, 24, 25, 26]), (5, [4, 5]), (4, [1, 2, 23]), (3, [4, 5]), (2, [1, 2, 6, 18]), (1, [1, 2, 6]), (0, [1, 2])], [(2, [2, 9, 10, 36, 37, 38]), (0, [1, 2, 24, 25, 26])], [], [13], [13], [], [], [], [], []⟩
def f_trial_Widest : Abs.Fn := ⟨2, [.t 4, .t 5],
  (.seq (.reg [1, 2] f_trial_Widest_r0) (.seq (.seq (.reg [1, 2, 6] f_trial_Widest_r1) (.seq (.reg [1, 2, 6, 18] f_trial_Widest_r2) (.ite (.t 18) (.seq (.reg [4, 5] f_trial_Widest_r3) .ret) .nop))) (.seq (.seq (.reg [1, 2, 23] f_trial_Widest_r4) (.ite (.t 23) (.seq (.reg [4, 5] f_trial_Widest_r5) .ret) .nop)) (.seq (.seq (.reg [1, 2, 24, 25, 26] f_trial_Widest_r6) (.blk 0 (.loop [1, 2, 24, 25, 26] false f_trial_Widest_l12))) (.seq (.seq (.reg [1, 2, 35] f_trial_Widest_r13) (.ite (.t 35) (.seq (.reg [4, 5] f_trial_Widest_r14) .ret) .nop)) (.seq (.reg [1, 2, 9, 10] f_trial_Widest_r15) (.seq (.seq (.reg [2, 9, 10, 36, 37, 38] f_trial_Widest_r16) (.blk 2 (.loop [2, 9, 10, 36, 37, 38] false f_trial_Widest_l23))) (.seq (.reg [4, 5] f_trial_Widest_r24) .ret))))))))⟩

theorem e_trial_Widest_r0 : type_of% f_trial_Widest_r0.eq_1 := by_rfl f_trial_Widest_r0.eq_1
theorem e_trial_Widest_r1 : type_of% f_trial_Widest_r1.eq_1 := by_rfl f_trial_Widest_r1.eq_1
theorem e_trial_Widest_r2 : type_of% f_trial_Widest_r2.eq_1 := by_rfl f_trial_Widest_r2.eq_1
theorem e_trial_Widest_r3 : type_of% f_trial_Widest_r3.eq_1 := by_rfl f_trial_Widest_r3.eq_1
theorem e_trial_Widest_r4 : type_of% f_trial_Widest_r4.eq_1 := by_rfl f_trial_Widest_r4.eq_1
theorem e_trial_Widest_r5 : type_of% f_trial_Widest_r5.eq_1 := by_rfl f_trial_Widest_r5.eq_1
theorem e_trial_Widest_r6 : type_of% f_trial_Widest_r6.eq_1 := by_rfl f_trial_Widest_r6.eq_1
theorem e_trial_Widest_r7 : type_of% f_trial_Widest_r7.eq_1 := by_rfl f_trial_Widest_r7.eq_1
theorem e_trial_Widest_r8 : type_of% f_trial_Widest_r8.eq_1 := by_rfl f_trial_Widest_r8.eq_1
theorem e_trial_Widest_r9 : type_of% f_trial_Widest_r9.eq_1 := by_rfl f_trial_Widest_r9.eq_1
theorem e_trial_Widest_r10 : type_of% f_trial_Widest_r10.eq_1 := by_rfl f_trial_Widest_r10.eq_1
theorem e_trial_Widest_r11 : type_of% f_trial_Widest_r11.eq_1 := by_rfl f_trial_Widest_r11.eq_1
theorem e_trial_Widest_l12 : type_of% f_trial_Widest_l12.eq_1 := by_rfl f_trial_Widest_l12.eq_1
theorem e_trial_Widest_r13 : type_of% f_trial_Widest_r13.eq_1 := by_rfl f_trial_Widest_r13.eq_1
theorem e_trial_Widest_r14 : type_of% f_trial_Widest_r14.eq_1 := by_rfl f_trial_Widest_r14.eq_1
theorem e_trial_Widest_r15 : type_of% f_trial_Widest_r15.eq_1 := by_rfl f_trial_Widest_r15.eq_1
theorem e_trial_Widest_r16 : type_of% f_trial_Widest_r16.eq_1 := by_rfl f_trial_Widest_r16.eq_1
theorem e_trial_Widest_r17 : type_of% f_trial_Widest_r17.eq_1 := by_rfl f_trial_Widest_r17.eq_1
theorem e_trial_Widest_r18 : type_of% f_trial_Widest_r18.eq_1 := by_rfl f_trial_Widest_r18.eq_1
theorem e_trial_Widest_r19 : type_of% f_trial_Widest_r19.eq_1 := by_rfl f_trial_Widest_r19.eq_1
theorem e_trial_Widest_r20 : type_of% f_trial_Widest_r20.eq_1 := by_rfl f_trial_Widest_r20.eq_1
theorem e_trial_Widest_r21 : type_of% f_trial_Widest_r21.eq_1 := by_rfl f_trial_Widest_r21.eq_1
theorem e_trial_Widest_r22 : type_of% f_trial_Widest_r22.eq_1 := by_rfl f_trial_Widest_r22.eq_1
theorem e_trial_Widest_l23 : type_of% f_trial_Widest_l23.eq_1 := by_rfl f_trial_Widest_l23.eq_1
theorem e_trial_Widest_r24 : type_of% f_trial_Widest_r24.eq_1 := by_rfl f_trial_Widest_r24.eq_1
theorem e_trial_Widest : type_of% f_trial_Widest.eq_1 := by_rfl f_trial_Widest.eq_1
theorem ok_trial_Widest : fnC Try.prog a_trial_Widest Try.f43 = some f_trial_Widest := by kernel_rfl

/-! 46 fumarole/trial.Capacity -/
def f_trial_Capacity_r0 : List Abs.Op := [
  ⟨some 2, none, false, .boxi (.t 0)⟩,
  ⟨some 3, none, false, .boxi (.t 1)⟩,
  ⟨some 4, none, false, .mv (.c (.int .i64 0))⟩,
  ⟨some 5, none, false, .mv (.c (.int .i64 0))⟩,
  ⟨some 6, none, false, .mv (.c (.int .i64 0))⟩]

def f_trial_Capacity_r1 : List Abs.Op := [
  ⟨some 9, none, false, .ld true 7 (.t 2)⟩,
  ⟨some 10, none, false, .call false (.c (.fn i_trial_CheckTest [] [])) [(.t 9)]⟩,
  ⟨some 7, none, false, .mv (.t 10)⟩]

def f_trial_Capacity_r2 : List Abs.Op := [
  ⟨some 11, none, false, .mv (.t 7)⟩,
  ⟨some 12, none, false, .bin .neq (.t 11) (.c (.int .i64 0))⟩]

def f_trial_Capacity_r3 : List Abs.Op := [
  ⟨some 13, none, false, .mv (.t 7)⟩,
  ⟨some 4, none, false, .mv (.c (.int .i64 0))⟩,
  ⟨some 5, none, false, .mv (.c (.int .i64 0))⟩,
  ⟨some 6, none, false, .mv (.t 13)⟩]

def f_trial_Capacity_r4 : List Abs.Op := [
  ⟨some 15, none, false, .ld false 1 (.t 3)⟩,
  ⟨some 16, none, false, .call false (.c (.fn i_trial_within [] [])) [(.t 15), (.c (.int .i64 (-2000000000))), (.c (.int .i64 2000000000))]⟩,
  ⟨some 17, none, false, .un .not (.t 16)⟩,
  ⟨some 14, none, false, .mv (.t 17)⟩]

def f_trial_Capacity_r5 : List Abs.Op := [
  ⟨some 4, none, false, .mv (.c (.int .i64 0))⟩,
  ⟨some 5, none, false, .mv (.c (.int .i64 0))⟩,
  ⟨some 6, none, false, .mv (.c (.int .i64 2))⟩]

def f_trial_Capacity_r6 : List Abs.Op := [
  ⟨some 19, none, false, .ld true 7 (.t 2)⟩,
  ⟨some 20, none, false, .call false (.c (.fn i_trial_Test_none [] [])) [(.t 19)]⟩,
  ⟨some 18, none, false, .mv (.t 20)⟩]

def f_trial_Capacity_r7 : List Abs.Op := [
  ⟨some 4, none, false, .mv (.c (.int .i64 0))⟩,
  ⟨some 5, none, false, .mv (.c (.int .i64 0))⟩,
  ⟨some 6, none, false, .mv (.c (.int .i64 7))⟩]

def f_trial_Capacity_r8 : List Abs.Op := [
  ⟨some 21, none, false, .mkf i_trial_Capacity_1 [] [(.t 2)]⟩,
  ⟨some 8, none, false, .mv (.t 21)⟩]

def f_trial_Capacity_r9 : List Abs.Op := [
  ⟨some 22, none, false, .mv (.t 8)⟩,
  ⟨some 23, none, false, .mkf i_trial_Capacity_2 [] [(.t 3)]⟩,
  ⟨some 24, none, false, .call false (.t 22) [(.t 23)]⟩,
  ⟨some 25, none, false, .mv (.t 8)⟩,
  ⟨some 26, none, false, .mkf i_trial_Capacity_3 [] [(.t 3)]⟩,
  ⟨some 27, none, false, .call false (.t 25) [(.t 26)]⟩,
  ⟨some 4, none, false, .mv (.t 24)⟩,
  ⟨some 5, none, false, .mv (.t 27)⟩,
  ⟨some 6, none, false, .mv (.c (.int .i64 0))⟩]

def a_trial_Capacity : Ann := ⟨[(9, [4, 5, 6]), (8, [3, 8]), (5, [4, 5, 6]), (7, [4, 5, 6]), (6, [2, 3, 18]), (4, [2, 3, 14]), (3, [4, 5, 6]), (2, [2, 3, 7, 12]), (1, [2, 3, 7]), (0, [2, 3])], [], [], [], [], [], [], [], [], []⟩
def f_trial_Capacity : Abs.Fn := ⟨2, [.t 4, .t 5, .t 6],
  (.seq (.reg [2, 3] f_trial_Capacity_r0) (.seq (.seq (.reg [2, 3, 7] f_trial_Capacity_r1) (.seq (.reg [2, 3, 7, 12] f_trial_Capacity_r2) (.ite (.t 12) (.seq (.reg [4, 5, 6] f_trial_Capacity_r3) .ret) .nop))) (.seq (.blk 0 (.seq (.reg [2, 3, 14] f_trial_Capacity_r4) (.ite (.t 14) (.seq (.reg [4, 5, 6] f_trial_Capacity_r5) .ret) (.seq (.reg [2, 3, 18] f_trial_Capacity_r6) (.ite (.t 18) (.seq (.reg [4, 5, 6] f_trial_Capacity_r7) .ret) .nop))))) (.seq (.reg [3, 8] f_trial_Capacity_r8) (.seq (.reg [4, 5, 6] f_trial_Capacity_r9) .ret)))))⟩

theorem e_trial_Capacity_r0 : type_of% f_trial_Capacity_r0.eq_1 := by_rfl f_trial_Capacity_r0.eq_1
theorem e_trial_Capacity_r1 : type_of% f_trial_Capacity_r1.eq_1 := by_rfl f_trial_Capacity_r1.eq_1
theorem e_trial_Capacity_r2 : type_of% f_trial_Capacity_r2.eq_1 := by_rfl f_trial_Capacity_r2.eq_1
theorem e_trial_Capacity_r3 : type_of% f_trial_Capacity_r3.eq_1 := by_rfl f_trial_Capacity_r3.eq_1
theorem e_trial_Capacity_r4 : type_of% f_trial_Capacity_r4.eq_1 := by_rfl f_trial_Capacity_r4.eq_1
theorem e_trial_Capacity_r5 : type_of% f_trial_Capacity_r5.eq_1 := by_rfl f_trial_Capacity_r5.eq_1
theorem e_trial_Capacity_r6 : type_of% f_trial_Capacity_r6.eq_1 := by_rfl f_trial_Capacity_r6.eq_1
theorem e_trial_Capacity_r7 : type_of% f_trial_Capacity_r7.eq_1 := by_rfl f_trial_Capacity_r7.eq_1
theorem e_trial_Capacity_r8 : type_of% f_trial_Capacity_r8.eq_1 := by_rfl f_trial_Capacity_r8.eq_1
theorem e_trial_Capacity_r9 : type_of% f_trial_Capacity_r9.eq_1 := by_rfl f_trial_Capacity_r9.eq_1
theorem e_trial_Capacity : type_of% f_trial_Capacity.eq_1 := by_rfl f_trial_Capacity.eq_1
theorem ok_trial_Capacity : fnC Try.prog a_trial_Capacity Try.f46 = some f_trial_Capacity := by kernel_rfl

/-! 50 fumarole/trial.Pulse -/
def f_trial_Pulse_r0 : List Abs.Op := [
  ⟨some 3, none, false, .boxi (.t 0)⟩,
  ⟨some 6, none, false, .alcv [] [(.int .i64 0), (.int .i64 0), .nils]⟩,
  ⟨some 7, none, false, .mv (.c (.int .i64 0))⟩]

def f_trial_Pulse_r1 : List Abs.Op := [
  ⟨some 12, none, false, .ldi true 3 (.t 3)⟩,
  ⟨some 13, none, false, .call false (.c (.fn i_trial_CheckSurvey [] [])) [(.t 12)]⟩,
  ⟨some 8, none, false, .mv (.t 13)⟩]

def f_trial_Pulse_r2 : List Abs.Op := [
  ⟨some 14, none, false, .mv (.t 8)⟩,
  ⟨some 15, none, false, .bin .neq (.t 14) (.c (.int .i64 0))⟩]

def f_trial_Pulse_r3 : List Abs.Op := [
  ⟨some 16, none, false, .bld [(.int .i64 0), (.int .i64 0), .nils] []⟩,
  ⟨some 17, none, false, .mv (.t 8)⟩,
  ⟨none, none, false, .stv 6 [] 3 6 (.t 16)⟩,
  ⟨some 7, none, false, .mv (.t 17)⟩]

def f_trial_Pulse_r4 : List Abs.Op := [
  ⟨some 18, none, false, .mv (.t 1)⟩,
  ⟨some 19, none, false, .fadr 0 (.t 3)⟩,
  ⟨some 20, none, false, .ldi false 1 (.t 19)⟩,
  ⟨some 21, none, false, .bin .sub (.t 20) (.c (.int .i64 1))⟩,
  ⟨some 22, none, false, .call false (.c (.fn i_trial_within [] [])) [(.t 18), (.c (.int .i64 0)), (.t 21)]⟩,
  ⟨some 23, none, false, .un .not (.t 22)⟩,
  ⟨some 24, none, false, .mv (.t 23)⟩,
  ⟨some 25, some (24, false), false, .mv (.t 2)⟩,
  ⟨some 26, some (24, false), false, .lenS (.t 25)⟩,
  ⟨some 27, some (24, false), false, .fadr 0 (.t 3)⟩,
  ⟨some 28, some (24, false), false, .ldi false 1 (.t 27)⟩,
  ⟨some 29, some (24, false), false, .bin .neq (.t 26) (.t 28)⟩,
  ⟨some 30, none, false, .pick (.t 24) (.c (.bool true)) (.t 29)⟩]

def f_trial_Pulse_r5 : List Abs.Op := [
  ⟨some 31, none, false, .bld [(.int .i64 0), (.int .i64 0), .nils] []⟩,
  ⟨none, none, false, .stv 6 [] 3 6 (.t 31)⟩,
  ⟨some 7, none, false, .mv (.c (.int .i64 2))⟩]

def f_trial_Pulse_r6 : List Abs.Op := [
  ⟨some 32, none, true, .fadr 0 (.t 3)⟩,
  ⟨some 33, none, true, .ldi false 1 (.t 32)⟩,
  ⟨some 34, none, true, .fadr 1 (.t 3)⟩,
  ⟨some 35, none, true, .ldi false 1 (.t 34)⟩,
  ⟨some 36, none, true, .fadr 2 (.t 3)⟩,
  ⟨some 37, none, true, .ldi false 1 (.t 36)⟩,
  ⟨some 38, none, false, .call true (.c (.fn i_slices_Clone_trial_Seen [] [])) [(.t 37)]⟩,
  ⟨some 39, none, true, .bld [(.int .i64 0), (.int .i64 0), .nils] [(0, 1, (.t 33)), (1, 1, (.t 35)), (2, 1, (.t 38))]⟩,
  ⟨some 9, none, true, .alcv [] [(.int .i64 0), (.int .i64 0), .nils]⟩,
  ⟨none, none, false, .stv 9 [(2, 4)] 3 9 (.t 39)⟩]

def f_trial_Pulse_r7 : List Abs.Op := [
  ⟨some 40, none, false, .mv (.t 2)⟩,
  ⟨some 41, none, false, .lenS (.t 40)⟩,
  ⟨some 42, none, false, .mv (.c (.int .i64 0))⟩]

def f_trial_Pulse_r8 : List Abs.Op := [
  ⟨some 43, none, false, .bin .lss (.t 42) (.t 41)⟩]

def f_trial_Pulse_r9 : List Abs.Op := [
  ⟨some 44, none, false, .mv (.t 42)⟩,
  ⟨some 10, none, false, .mv (.t 44)⟩]

def f_trial_Pulse_r10 : List Abs.Op := [
  ⟨some 45, none, false, .mv (.t 10)⟩,
  ⟨some 46, none, false, .mv (.t 1)⟩,
  ⟨some 47, none, false, .bin .eql (.t 45) (.t 46)⟩]

def f_trial_Pulse_r11 : List Abs.Op := [
  ⟨some 48, none, false, .fadr 1 (.t 3)⟩,
  ⟨some 49, none, false, .ldi false 1 (.t 48)⟩,
  ⟨some 50, none, false, .fadr 1 (.t 3)⟩,
  ⟨some 51, none, false, .ldi false 1 (.t 50)⟩,
  ⟨some 52, none, false, .bld [(.int .i64 0), (.int .i64 0)] [(0, 1, (.t 49)), (1, 1, (.t 51))]⟩,
  ⟨some 11, none, false, .alcv [] [(.int .i64 0), (.int .i64 0)]⟩,
  ⟨none, none, false, .stv 11 [] 2 11 (.t 52)⟩]

def f_trial_Pulse_r12 : List Abs.Op := [
  ⟨some 53, none, true, .mv (.t 2)⟩,
  ⟨some 54, none, true, .mv (.t 10)⟩,
  ⟨some 55, none, true, .idxS 1 (.t 53) (.t 54)⟩,
  ⟨some 56, none, true, .ld false 1 (.t 55)⟩,
  ⟨some 57, none, true, .mv (.t 2)⟩,
  ⟨some 58, none, true, .mv (.t 1)⟩,
  ⟨some 59, none, true, .idxS 1 (.t 57) (.t 58)⟩,
  ⟨some 60, none, true, .ld false 1 (.t 59)⟩,
  ⟨some 61, none, false, .bin .neq (.t 56) (.t 60)⟩]

def f_trial_Pulse_r13 : List Abs.Op := [
  ⟨some 62, none, false, .ldv 11 true 2 11⟩,
  ⟨some 63, none, false, .call false (.c (.fn i_trial_Range_less [] [])) [(.t 62), (.c (.int .i64 1))]⟩,
  ⟨none, none, false, .stv 11 [] 2 11 (.t 63)⟩]

def f_trial_Pulse_r14 : List Abs.Op := [
  ⟨some 64, none, false, .ldv 11 true 2 11⟩,
  ⟨some 65, none, false, .call false (.c (.fn i_trial_Range_drops [] [])) [(.t 64)]⟩,
  ⟨some 66, none, false, .un .not (.t 65)⟩]

def f_trial_Pulse_r15 : List Abs.Op := [
  ⟨some 67, none, false, .bld [(.int .i64 0), (.int .i64 0), .nils] []⟩,
  ⟨none, none, false, .stv 6 [] 3 6 (.t 67)⟩,
  ⟨some 7, none, false, .mv (.c (.int .i64 2))⟩]

def f_trial_Pulse_r16 : List Abs.Op := [
  ⟨some 68, none, false, .fadr 2 (.t 9)⟩,
  ⟨some 69, none, false, .ldv 9 false 1 68⟩,
  ⟨some 70, none, false, .mv (.t 1)⟩,
  ⟨some 71, none, false, .mv (.t 10)⟩,
  ⟨some 72, none, false, .ldv 11 true 2 11⟩,
  ⟨some 73, none, false, .bld [(.int .i64 0), (.int .i64 0), (.int .i64 0), (.int .i64 0)] [(0, 1, (.t 70)), (1, 1, (.t 71)), (2, 2, (.t 72))]⟩,
  ⟨some 74, none, false, .bsi 1 4 [(.int .i64 0), (.int .i64 0), (.int .i64 0), (.int .i64 0)] [(0, 4, (.t 73))]⟩,
  ⟨some 75, none, false, .app 4 32 (.t 69) (.t 74)⟩,
  ⟨some 76, none, false, .fadr 2 (.t 9)⟩,
  ⟨none, none, false, .stv 9 [(0, 4)] 1 76 (.t 75)⟩]

def f_trial_Pulse_r17 : List Abs.Op := [
  ⟨some 77, none, false, .bin .add (.t 42) (.c (.int .i64 1))⟩,
  ⟨some 42, none, false, .mv (.t 77)⟩]

def f_trial_Pulse_l18 : Abs.Cmd :=
  (.seq (.reg [1, 2, 3, 6, 9, 41, 42, 43] f_trial_Pulse_r8) (.seq (.ite (.t 43) .nop (.exit 0)) (.seq (.blk 1 (.seq (.reg [1, 2, 3, 6, 9, 10, 41, 42] f_trial_Pulse_r9) (.seq (.seq (.reg [1, 2, 3, 6, 9, 10, 41, 42, 47] f_trial_Pulse_r10) (.ite (.t 47) (.exit 1) .nop)) (.seq (.reg [1, 2, 3, 6, 9, 10, 11, 41, 42] f_trial_Pulse_r11) (.seq (.seq (.reg [1, 2, 3, 6, 9, 10, 11, 41, 42, 61] f_trial_Pulse_r12) (.ite (.t 61) (.reg [1, 2, 3, 6, 9, 10, 11, 41, 42] f_trial_Pulse_r13) .nop)) (.seq (.seq (.reg [1, 2, 3, 6, 9, 10, 11, 41, 42, 66] f_trial_Pulse_r14) (.ite (.t 66) (.seq (.reg [6, 7] f_trial_Pulse_r15) .ret) .nop)) (.reg [1, 2, 3, 6, 9, 41, 42] f_trial_Pulse_r16))))))) (.reg [1, 2, 3, 6, 9, 41, 42] f_trial_Pulse_r17))))

def f_trial_Pulse_r19 : List Abs.Op := [
  ⟨some 79, none, false, .ldi true 3 (.t 3)⟩,
  ⟨some 80, none, false, .mv (.t 2)⟩,
  ⟨some 81, none, false, .call false (.c (.fn i_trial_Survey_fits [] [])) [(.t 79), (.t 80)]⟩,
  ⟨some 82, none, false, .un .not (.t 81)⟩,
  ⟨some 78, none, false, .mv (.t 82)⟩]

def f_trial_Pulse_r20 : List Abs.Op := [
  ⟨some 83, none, false, .bld [(.int .i64 0), (.int .i64 0), .nils] []⟩,
  ⟨none, none, false, .stv 6 [] 3 6 (.t 83)⟩,
  ⟨some 7, none, false, .mv (.c (.int .i64 9))⟩]

def f_trial_Pulse_r21 : List Abs.Op := [
  ⟨some 85, none, false, .fadr 2 (.t 9)⟩,
  ⟨some 86, none, false, .ldv 9 false 1 85⟩,
  ⟨some 87, none, false, .lenS (.t 86)⟩,
  ⟨some 88, none, false, .bin .gtr (.t 87) (.c (.int .i64 60))⟩,
  ⟨some 84, none, false, .mv (.t 88)⟩]

def f_trial_Pulse_r22 : List Abs.Op := [
  ⟨some 89, none, false, .bld [(.int .i64 0), (.int .i64 0), .nils] []⟩,
  ⟨none, none, false, .stv 6 [] 3 6 (.t 89)⟩,
  ⟨some 7, none, false, .mv (.c (.int .i64 3))⟩]

def f_trial_Pulse_r23 : List Abs.Op := [
  ⟨some 90, none, false, .ldv 9 true 3 9⟩,
  ⟨none, none, false, .stv 6 [] 3 6 (.t 90)⟩,
  ⟨some 7, none, false, .mv (.c (.int .i64 0))⟩]

def a_trial_Pulse : Ann := ⟨[(22, [6, 7]), (19, [6, 7]), (21, [6, 7]), (20, [6, 9, 84]), (18, [6, 9, 78]), (17, [1, 2, 3, 6, 9, 41, 42]), (16, [1, 2, 3, 6, 9, 41, 42]), (15, [6, 7]), (14, [1, 2, 3, 6, 9, 10, 11, 41, 42, 66]), (13, [1, 2, 3, 6, 9, 10, 11, 41, 42]), (12, [1, 2, 3, 6, 9, 10, 11, 41, 42, 61]), (11, [1, 2, 3, 6, 9, 10, 11, 41, 42]), (10, [1, 2, 3, 6, 9, 10, 41, 42, 47]), (9, [1, 2, 3, 6, 9, 10, 41, 42]), (8, [1, 2, 3, 6, 9, 41, 42, 43]), (7, [1, 2, 3, 6, 9, 41, 42]), (6, [1, 2, 3, 6, 9]), (5, [6, 7]), (4, [1, 2, 3, 6, 30]), (3, [6, 7]), (2, [1, 2, 3, 6, 8, 15]), (1, [1, 2, 3, 6, 8]), (0, [1, 2, 3, 6])], [(0, [1, 2, 3, 6, 9, 41, 42])], [], [6, 9, 11], [6, 9, 11], [(6009, [(2, 4)]), (16009, [(0, 4)])], [6006], [], [3], []⟩
def f_trial_Pulse : Abs.Fn := ⟨3, [.v 6 true 3, .t 7],
  (.seq (.reg [1, 2, 3, 6] f_trial_Pulse_r0) (.seq (.seq (.reg [1, 2, 3, 6, 8] f_trial_Pulse_r1) (.seq (.reg [1, 2, 3, 6, 8, 15] f_trial_Pulse_r2) (.ite (.t 15) (.seq (.reg [6, 7] f_trial_Pulse_r3) .ret) .nop))) (.seq (.seq (.reg [1, 2, 3, 6, 30] f_trial_Pulse_r4) (.ite (.t 30) (.seq (.reg [6, 7] f_trial_Pulse_r5) .ret) .nop)) (.seq (.reg [1, 2, 3, 6, 9] f_trial_Pulse_r6) (.seq (.seq (.reg [1, 2, 3, 6, 9, 41, 42] f_trial_Pulse_r7) (.blk 0 (.loop [1, 2, 3, 6, 9, 41, 42] false f_trial_Pulse_l18))) (.seq (.blk 2 (.seq (.reg [6, 9, 78] f_trial_Pulse_r19) (.ite (.t 78) (.seq (.reg [6, 7] f_trial_Pulse_r20) .ret) (.seq (.reg [6, 9, 84] f_trial_Pulse_r21) (.ite (.t 84) (.seq (.reg [6, 7] f_trial_Pulse_r22) .ret) .nop))))) (.seq (.reg [6, 7] f_trial_Pulse_r23) .ret)))))))⟩

theorem e_trial_Pulse_r0 : type_of% f_trial_Pulse_r0.eq_1 := by_rfl f_trial_Pulse_r0.eq_1
theorem e_trial_Pulse_r1 : type_of% f_trial_Pulse_r1.eq_1 := by_rfl f_trial_Pulse_r1.eq_1
theorem e_trial_Pulse_r2 : type_of% f_trial_Pulse_r2.eq_1 := by_rfl f_trial_Pulse_r2.eq_1
theorem e_trial_Pulse_r3 : type_of% f_trial_Pulse_r3.eq_1 := by_rfl f_trial_Pulse_r3.eq_1
theorem e_trial_Pulse_r4 : type_of% f_trial_Pulse_r4.eq_1 := by_rfl f_trial_Pulse_r4.eq_1
theorem e_trial_Pulse_r5 : type_of% f_trial_Pulse_r5.eq_1 := by_rfl f_trial_Pulse_r5.eq_1
theorem e_trial_Pulse_r6 : type_of% f_trial_Pulse_r6.eq_1 := by_rfl f_trial_Pulse_r6.eq_1
theorem e_trial_Pulse_r7 : type_of% f_trial_Pulse_r7.eq_1 := by_rfl f_trial_Pulse_r7.eq_1
theorem e_trial_Pulse_r8 : type_of% f_trial_Pulse_r8.eq_1 := by_rfl f_trial_Pulse_r8.eq_1
theorem e_trial_Pulse_r9 : type_of% f_trial_Pulse_r9.eq_1 := by_rfl f_trial_Pulse_r9.eq_1
theorem e_trial_Pulse_r10 : type_of% f_trial_Pulse_r10.eq_1 := by_rfl f_trial_Pulse_r10.eq_1
theorem e_trial_Pulse_r11 : type_of% f_trial_Pulse_r11.eq_1 := by_rfl f_trial_Pulse_r11.eq_1
theorem e_trial_Pulse_r12 : type_of% f_trial_Pulse_r12.eq_1 := by_rfl f_trial_Pulse_r12.eq_1
theorem e_trial_Pulse_r13 : type_of% f_trial_Pulse_r13.eq_1 := by_rfl f_trial_Pulse_r13.eq_1
theorem e_trial_Pulse_r14 : type_of% f_trial_Pulse_r14.eq_1 := by_rfl f_trial_Pulse_r14.eq_1
theorem e_trial_Pulse_r15 : type_of% f_trial_Pulse_r15.eq_1 := by_rfl f_trial_Pulse_r15.eq_1
theorem e_trial_Pulse_r16 : type_of% f_trial_Pulse_r16.eq_1 := by_rfl f_trial_Pulse_r16.eq_1
theorem e_trial_Pulse_r17 : type_of% f_trial_Pulse_r17.eq_1 := by_rfl f_trial_Pulse_r17.eq_1
theorem e_trial_Pulse_l18 : type_of% f_trial_Pulse_l18.eq_1 := by_rfl f_trial_Pulse_l18.eq_1
theorem e_trial_Pulse_r19 : type_of% f_trial_Pulse_r19.eq_1 := by_rfl f_trial_Pulse_r19.eq_1
theorem e_trial_Pulse_r20 : type_of% f_trial_Pulse_r20.eq_1 := by_rfl f_trial_Pulse_r20.eq_1
theorem e_trial_Pulse_r21 : type_of% f_trial_Pulse_r21.eq_1 := by_rfl f_trial_Pulse_r21.eq_1
theorem e_trial_Pulse_r22 : type_of% f_trial_Pulse_r22.eq_1 := by_rfl f_trial_Pulse_r22.eq_1
theorem e_trial_Pulse_r23 : type_of% f_trial_Pulse_r23.eq_1 := by_rfl f_trial_Pulse_r23.eq_1
theorem e_trial_Pulse : type_of% f_trial_Pulse.eq_1 := by_rfl f_trial_Pulse.eq_1
theorem ok_trial_Pulse : fnC Try.prog a_trial_Pulse Try.f50 = some f_trial_Pulse := by kernel_rfl

/-! 54 fumarole/trial.Blame -/
def f_trial_Blame_r0 : List Abs.Op := [
  ⟨some 1, none, false, .boxi (.t 0)⟩,
  ⟨some 2, none, false, .mv (.c (.int .i64 0))⟩,
  ⟨some 3, none, false, .mv (.c (.int .i64 0))⟩]

def f_trial_Blame_r1 : List Abs.Op := [
  ⟨some 6, none, false, .ld true 7 (.t 1)⟩,
  ⟨some 7, none, false, .call false (.c (.fn i_trial_CheckTest [] [])) [(.t 6)]⟩,
  ⟨some 4, none, false, .mv (.t 7)⟩]

def f_trial_Blame_r2 : List Abs.Op := [
  ⟨some 8, none, false, .mv (.t 4)⟩,
  ⟨some 9, none, false, .bin .neq (.t 8) (.c (.int .i64 0))⟩]

def f_trial_Blame_r3 : List Abs.Op := [
  ⟨some 10, none, false, .mv (.t 4)⟩,
  ⟨some 2, none, false, .mv (.c (.int .i64 0))⟩,
  ⟨some 3, none, false, .mv (.t 10)⟩]

def f_trial_Blame_r4 : List Abs.Op := [
  ⟨some 11, none, false, .fadr 6 (.t 1)⟩,
  ⟨some 12, none, false, .ld false 1 (.t 11)⟩,
  ⟨some 13, none, false, .lenS (.t 12)⟩,
  ⟨some 14, none, false, .mv (.c (.int .i64 0))⟩]

def f_trial_Blame_r5 : List Abs.Op := [
  ⟨some 15, none, false, .bin .lss (.t 14) (.t 13)⟩]

def f_trial_Blame_r6 : List Abs.Op := [
  ⟨some 16, none, false, .mv (.t 14)⟩,
  ⟨some 5, none, false, .mv (.t 16)⟩]

def f_trial_Blame_r7 : List Abs.Op := [
  ⟨some 17, none, true, .fadr 0 (.t 1)⟩,
  ⟨some 18, none, true, .ld true 2 (.t 17)⟩,
  ⟨some 19, none, true, .fadr 2 (.t 1)⟩,
  ⟨some 20, none, true, .ld true 2 (.t 19)⟩,
  ⟨some 21, none, true, .fadr 4 (.t 1)⟩,
  ⟨some 22, none, true, .ld true 2 (.t 21)⟩,
  ⟨some 23, none, true, .fadr 6 (.t 1)⟩,
  ⟨some 24, none, true, .ld false 1 (.t 23)⟩,
  ⟨some 25, none, true, .mv (.t 5)⟩,
  ⟨some 26, none, true, .bin .add (.t 25) (.c (.int .i64 1))⟩,
  ⟨some 27, none, true, .slc 3 (.t 24) none (some (.t 26)) none⟩,
  ⟨some 28, none, false, .bld [(.int .i64 0), (.int .i64 0), (.int .i64 0), (.int .i64 0), (.int .i64 0), (.int .i64 0), .nils] [(0, 2, (.t 18)), (2, 2, (.t 20)), (4, 2, (.t 22)), (6, 1, (.t 27))]⟩,
  ⟨some 29, none, false, .call false (.c (.fn i_trial_Test_none [] [])) [(.t 28)]⟩]

def f_trial_Blame_r8 : List Abs.Op := [
  ⟨some 30, none, false, .mv (.t 5)⟩,
  ⟨some 2, none, false, .mv (.t 30)⟩,
  ⟨some 3, none, false, .mv (.c (.int .i64 0))⟩]

def f_trial_Blame_r9 : List Abs.Op := [
  ⟨some 31, none, false, .bin .add (.t 14) (.c (.int .i64 1))⟩,
  ⟨some 14, none, false, .mv (.t 31)⟩]

def f_trial_Blame_l10 : Abs.Cmd :=
  (.seq (.reg [1, 13, 14, 15] f_trial_Blame_r5) (.seq (.ite (.t 15) .nop (.exit 0)) (.seq (.blk 1 (.seq (.reg [1, 5, 13, 14] f_trial_Blame_r6) (.seq (.reg [1, 5, 13, 14, 29] f_trial_Blame_r7) (.ite (.t 29) (.seq (.reg [2, 3] f_trial_Blame_r8) .ret) .nop)))) (.reg [1, 13, 14] f_trial_Blame_r9))))

def f_trial_Blame_r11 : List Abs.Op := [
  ⟨some 2, none, false, .mv (.c (.int .i64 0))⟩,
  ⟨some 3, none, false, .mv (.c (.int .i64 7))⟩]

def a_trial_Blame : Ann := ⟨[(10, [2, 3]), (9, [1, 13, 14]), (8, [2, 3]), (7, [1, 5, 13, 14, 29]), (6, [1, 5, 13, 14]), (5, [1, 13, 14, 15]), (4, [1, 13, 14]), (3, [2, 3]), (2, [1, 4, 9]), (1, [1, 4]), (0, [1])], [(0, [1, 13, 14])], [], [], [], [], [], [], [], []⟩
def f_trial_Blame : Abs.Fn := ⟨1, [.t 2, .t 3],
  (.seq (.reg [1] f_trial_Blame_r0) (.seq (.seq (.reg [1, 4] f_trial_Blame_r1) (.seq (.reg [1, 4, 9] f_trial_Blame_r2) (.ite (.t 9) (.seq (.reg [2, 3] f_trial_Blame_r3) .ret) .nop))) (.seq (.seq (.reg [1, 13, 14] f_trial_Blame_r4) (.blk 0 (.loop [1, 13, 14] false f_trial_Blame_l10))) (.seq (.reg [2, 3] f_trial_Blame_r11) .ret))))⟩

theorem e_trial_Blame_r0 : type_of% f_trial_Blame_r0.eq_1 := by_rfl f_trial_Blame_r0.eq_1
theorem e_trial_Blame_r1 : type_of% f_trial_Blame_r1.eq_1 := by_rfl f_trial_Blame_r1.eq_1
theorem e_trial_Blame_r2 : type_of% f_trial_Blame_r2.eq_1 := by_rfl f_trial_Blame_r2.eq_1
theorem e_trial_Blame_r3 : type_of% f_trial_Blame_r3.eq_1 := by_rfl f_trial_Blame_r3.eq_1
theorem e_trial_Blame_r4 : type_of% f_trial_Blame_r4.eq_1 := by_rfl f_trial_Blame_r4.eq_1
theorem e_trial_Blame_r5 : type_of% f_trial_Blame_r5.eq_1 := by_rfl f_trial_Blame_r5.eq_1
theorem e_trial_Blame_r6 : type_of% f_trial_Blame_r6.eq_1 := by_rfl f_trial_Blame_r6.eq_1
theorem e_trial_Blame_r7 : type_of% f_trial_Blame_r7.eq_1 := by_rfl f_trial_Blame_r7.eq_1
theorem e_trial_Blame_r8 : type_of% f_trial_Blame_r8.eq_1 := by_rfl f_trial_Blame_r8.eq_1
theorem e_trial_Blame_r9 : type_of% f_trial_Blame_r9.eq_1 := by_rfl f_trial_Blame_r9.eq_1
theorem e_trial_Blame_l10 : type_of% f_trial_Blame_l10.eq_1 := by_rfl f_trial_Blame_l10.eq_1
theorem e_trial_Blame_r11 : type_of% f_trial_Blame_r11.eq_1 := by_rfl f_trial_Blame_r11.eq_1
theorem e_trial_Blame : type_of% f_trial_Blame.eq_1 := by_rfl f_trial_Blame.eq_1
theorem ok_trial_Blame : fnC Try.prog a_trial_Blame Try.f54 = some f_trial_Blame := by kernel_rfl

end Go.Proofs.Ytcjjdaifpboaaaa
