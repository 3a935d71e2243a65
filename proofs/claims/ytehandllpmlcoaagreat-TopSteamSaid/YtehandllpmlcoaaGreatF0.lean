/- The code of functions of the program, in the small instruction set; each is what the translation makes of it. -/
import Derived.Test.YtehandllpmlcoaaGreatIds
set_option linter.unusedVariables false
set_option maxRecDepth 100000
namespace Go.Proofs.YtehandllpmlcoaaGreat
open Go Go.Abs
/-! 3 fumarole/fumaroletop.TopSteam -/
def f3r0 : List Abs.Op := [
  ⟨some 4, none, false, .boxi (.t 0)⟩,
  ⟨some 8, none, false, .mv (.c (.bool false))⟩]

def f3r1 : List Abs.Op := [
  ⟨some 26, none, false, .ld true 9 (.t 4)⟩,
  ⟨some 27, none, false, .mv (.t 1)⟩,
  ⟨some 28, none, false, .mv (.t 2)⟩,
  ⟨some 29, none, false, .call false (.c (.fn i_top_run [] [])) [(.t 26), (.t 27), (.t 28)]⟩,
  ⟨some 30, none, false, .un .not (.t 29)⟩]

def f3r2 : List Abs.Op := [
  ⟨some 31, none, false, .call false (.c (.fn i_top_still [] [])) []⟩,
  ⟨some 8, none, false, .mv (.t 31)⟩]

def f3r3 : List Abs.Op := [
  ⟨some 32, none, true, .ld true 9 (.t 4)⟩,
  ⟨some 33, none, true, .call false (.c (.fn i_law05_Bed [] [])) [(.t 32)]⟩,
  ⟨some 34, none, true, .mv (.t 1)⟩,
  ⟨some 35, none, true, .call false (.c (.fn i_law02_Models [] [])) [(.t 34)]⟩,
  ⟨some 36, none, true, .mv (.t 3)⟩,
  ⟨some 37, none, true, .cvt .i64 (.t 36)⟩,
  ⟨some 38, none, true, .fadr 4 (.t 4)⟩,
  ⟨some 39, none, true, .ld false 1 (.t 38)⟩,
  ⟨some 40, none, true, .lenS (.t 39)⟩,
  ⟨some 41, none, true, .bin .rem (.t 37) (.t 40)⟩,
  ⟨some 9, none, true, .alcv [] [(.int .i64 0), (.int .i64 0), (.int .i64 0), (.int .i64 0), .nils, (.int .i64 0), (.int .i64 0), (.int .i64 0), .nils]⟩,
  ⟨none, none, true, .stv 9 [] 9 9 (.t 33)⟩,
  ⟨some 10, none, true, .mv (.t 35)⟩,
  ⟨some 11, none, false, .mv (.t 41)⟩]

def f3r4 : List Abs.Op := [
  ⟨some 43, none, true, .ldv 9 true 9 9⟩,
  ⟨some 44, none, true, .mv (.t 10)⟩,
  ⟨some 45, none, true, .mv (.t 2)⟩,
  ⟨some 46, none, true, .call false (.c (.fn i_law05_Plan [] [])) [(.t 45)]⟩,
  ⟨some 47, none, true, .call false (.c (.fn i_rock_Ahead [] [])) [(.t 43), (.t 44), (.t 46)]⟩,
  ⟨some 42, none, true, .mv (.t 47)⟩,
  ⟨some 48, none, true, .ext (.t 42) 0⟩,
  ⟨some 49, none, true, .ext (.t 42) 1⟩,
  ⟨some 12, none, true, .mv (.t 48)⟩,
  ⟨some 13, none, false, .mv (.t 49)⟩]

def f3r5 : List Abs.Op := [
  ⟨some 50, none, false, .mv (.t 13)⟩,
  ⟨some 51, none, false, .bin .neq (.t 50) (.c (.int .i64 0))⟩]

def f3r6 : List Abs.Op := [
  ⟨some 52, none, false, .mv (.t 13)⟩,
  ⟨some 53, none, false, .bin .eql (.t 52) (.c (.int .i64 9))⟩,
  ⟨some 54, none, false, .mv (.t 53)⟩,
  ⟨some 55, some (54, true), false, .call false (.c (.fn i_top_still [] [])) []⟩,
  ⟨some 56, none, false, .pick (.t 54) (.t 55) (.c (.bool false))⟩,
  ⟨some 8, none, false, .mv (.t 56)⟩]

def f3r7 : List Abs.Op := [
  ⟨some 14, none, false, .mv (.c (.int .i64 0))⟩]

def f3r8 : List Abs.Op := [
  ⟨some 57, none, false, .mv (.t 14)⟩,
  ⟨some 58, none, false, .mv (.t 10)⟩,
  ⟨some 59, none, false, .lenS (.t 58)⟩,
  ⟨some 60, none, false, .bin .lss (.t 57) (.t 59)⟩]

def f3r9 : List Abs.Op := [
  ⟨some 64, none, true, .ldv 9 true 9 9⟩,
  ⟨some 65, none, true, .mv (.t 10)⟩,
  ⟨some 66, none, true, .mv (.t 14)⟩,
  ⟨some 67, none, true, .idxS 2 (.t 65) (.t 66)⟩,
  ⟨some 68, none, true, .ld true 2 (.t 67)⟩,
  ⟨some 69, none, true, .mv (.t 2)⟩,
  ⟨some 70, none, true, .call false (.c (.fn i_law05_Plan [] [])) [(.t 69)]⟩,
  ⟨some 71, none, true, .call false (.c (.fn i_rock_Play [] [])) [(.t 64), (.t 68), (.t 70)]⟩,
  ⟨some 63, none, true, .mv (.t 71)⟩,
  ⟨some 72, none, true, .ext (.t 63) 0⟩,
  ⟨some 73, none, true, .ext (.t 63) 1⟩,
  ⟨some 15, none, true, .alcv [] [.nils, .nils]⟩,
  ⟨none, none, true, .stv 15 [] 2 15 (.t 72)⟩,
  ⟨some 16, none, false, .mv (.t 73)⟩]

def f3r10 : List Abs.Op := [
  ⟨some 74, none, false, .mv (.t 16)⟩,
  ⟨some 75, none, false, .bin .neq (.t 74) (.c (.int .i64 0))⟩,
  ⟨some 76, none, false, .mv (.t 75)⟩,
  ⟨some 77, some (76, false), false, .fadr 1 (.t 15)⟩,
  ⟨some 78, some (76, false), false, .ldv 15 false 1 77⟩,
  ⟨some 79, some (76, false), false, .lenS (.t 78)⟩,
  ⟨some 80, some (76, false), false, .mv (.t 2)⟩,
  ⟨some 81, some (76, false), false, .lenS (.t 80)⟩,
  ⟨some 82, some (76, false), false, .bin .neq (.t 79) (.t 81)⟩,
  ⟨some 83, none, false, .pick (.t 76) (.c (.bool true)) (.t 82)⟩,
  ⟨some 84, none, false, .mv (.t 83)⟩,
  ⟨some 85, some (84, false), false, .mv (.t 12)⟩,
  ⟨some 86, some (84, false), false, .lenS (.t 85)⟩,
  ⟨some 87, some (84, false), false, .mv (.t 2)⟩,
  ⟨some 88, some (84, false), false, .lenS (.t 87)⟩,
  ⟨some 89, some (84, false), false, .bin .neq (.t 86) (.t 88)⟩,
  ⟨some 90, none, false, .pick (.t 84) (.c (.bool true)) (.t 89)⟩]

def f3r11 : List Abs.Op := [
  ⟨some 8, none, false, .mv (.c (.bool false))⟩]

def f3r12 : List Abs.Op := [
  ⟨some 17, none, false, .mv (.c (.int .i64 0))⟩]

def f3r13 : List Abs.Op := [
  ⟨some 91, none, false, .mv (.t 17)⟩,
  ⟨some 92, none, false, .mv (.t 2)⟩,
  ⟨some 93, none, false, .lenS (.t 92)⟩,
  ⟨some 94, none, false, .bin .lss (.t 91) (.t 93)⟩]

def f3r14 : List Abs.Op := [
  ⟨some 97, none, true, .mv (.t 12)⟩,
  ⟨some 98, none, true, .mv (.t 17)⟩,
  ⟨some 99, none, true, .idxS 2 (.t 97) (.t 98)⟩,
  ⟨some 100, none, true, .fadr 0 (.t 99)⟩,
  ⟨some 101, none, true, .ld false 1 (.t 100)⟩,
  ⟨some 102, none, true, .lenS (.t 101)⟩,
  ⟨some 103, none, true, .fadr 8 (.t 4)⟩,
  ⟨some 104, none, true, .ld false 1 (.t 103)⟩,
  ⟨some 105, none, true, .lenS (.t 104)⟩,
  ⟨some 106, none, true, .bin .neq (.t 102) (.t 105)⟩,
  ⟨some 107, none, true, .mv (.t 106)⟩,
  ⟨some 108, some (107, false), true, .fadr 1 (.t 15)⟩,
  ⟨some 109, some (107, false), true, .ldv 15 false 1 108⟩,
  ⟨some 110, some (107, false), true, .mv (.t 17)⟩,
  ⟨some 111, some (107, false), true, .idxS 1 (.t 109) (.t 110)⟩,
  ⟨some 112, some (107, false), true, .ld false 1 (.t 111)⟩,
  ⟨some 113, some (107, false), true, .lenS (.t 112)⟩,
  ⟨some 114, some (107, false), true, .fadr 8 (.t 4)⟩,
  ⟨some 115, some (107, false), true, .ld false 1 (.t 114)⟩,
  ⟨some 116, some (107, false), true, .lenS (.t 115)⟩,
  ⟨some 117, some (107, false), false, .bin .neq (.t 113) (.t 116)⟩,
  ⟨some 118, none, false, .pick (.t 107) (.c (.bool true)) (.t 117)⟩]

def f3r15 : List Abs.Op := [
  ⟨some 8, none, false, .mv (.c (.bool false))⟩]

def f3r16 : List Abs.Op := [
  ⟨some 18, none, false, .mv (.c (.int .i64 0))⟩]

def f3r17 : List Abs.Op := [
  ⟨some 119, none, false, .mv (.t 18)⟩,
  ⟨some 120, none, false, .fadr 8 (.t 4)⟩,
  ⟨some 121, none, false, .ld false 1 (.t 120)⟩,
  ⟨some 122, none, false, .lenS (.t 121)⟩,
  ⟨some 123, none, false, .bin .lss (.t 119) (.t 122)⟩]

def f3r18 : List Abs.Op := [
  ⟨some 126, none, true, .mv (.t 12)⟩,
  ⟨some 127, none, true, .mv (.t 17)⟩,
  ⟨some 128, none, true, .idxS 2 (.t 126) (.t 127)⟩,
  ⟨some 129, none, true, .fadr 0 (.t 128)⟩,
  ⟨some 130, none, true, .ld false 1 (.t 129)⟩,
  ⟨some 131, none, true, .mv (.t 18)⟩,
  ⟨some 132, none, true, .idxS 6 (.t 130) (.t 131)⟩,
  ⟨some 133, none, true, .ld true 6 (.t 132)⟩,
  ⟨some 134, none, true, .fadr 1 (.t 15)⟩,
  ⟨some 135, none, true, .ldv 15 false 1 134⟩,
  ⟨some 136, none, true, .mv (.t 17)⟩,
  ⟨some 137, none, true, .idxS 1 (.t 135) (.t 136)⟩,
  ⟨some 138, none, true, .ld false 1 (.t 137)⟩,
  ⟨some 139, none, true, .mv (.t 18)⟩,
  ⟨some 140, none, true, .idxS 3 (.t 138) (.t 139)⟩,
  ⟨some 141, none, true, .ld true 3 (.t 140)⟩,
  ⟨some 19, none, true, .alcv [] [(.int .i64 0), (.int .i64 0), (.int .i64 0), (.int .i64 0), (.int .i64 0), (.int .i64 0)]⟩,
  ⟨some 20, none, true, .alcv [] [(.int .i64 0), (.int .i64 0), (.int .i64 0)]⟩,
  ⟨none, none, true, .stv 19 [] 6 19 (.t 133)⟩,
  ⟨none, none, false, .stv 20 [] 3 20 (.t 141)⟩]

def f3r19 : List Abs.Op := [
  ⟨some 142, none, false, .fadr 0 (.t 19)⟩,
  ⟨some 143, none, false, .fadr 0 (.t 142)⟩,
  ⟨some 144, none, false, .ldv 19 false 1 143⟩,
  ⟨some 145, none, false, .fadr 0 (.t 19)⟩,
  ⟨some 146, none, false, .fadr 1 (.t 145)⟩,
  ⟨some 147, none, false, .ldv 19 false 1 146⟩,
  ⟨some 148, none, false, .bin .neq (.t 144) (.t 147)⟩,
  ⟨some 149, none, false, .mv (.t 148)⟩,
  ⟨some 150, some (149, false), false, .fadr 2 (.t 19)⟩,
  ⟨some 151, some (149, false), false, .fadr 1 (.t 150)⟩,
  ⟨some 152, some (149, false), false, .ldv 19 false 1 151⟩,
  ⟨some 153, some (149, false), false, .fadr 0 (.t 19)⟩,
  ⟨some 154, some (149, false), false, .fadr 0 (.t 153)⟩,
  ⟨some 155, some (149, false), false, .ldv 19 false 1 154⟩,
  ⟨some 156, some (149, false), false, .bin .mul (.c (.int .i64 4000)) (.t 155)⟩,
  ⟨some 157, some (149, false), false, .bin .gtr (.t 152) (.t 156)⟩,
  ⟨some 158, none, false, .pick (.t 149) (.c (.bool true)) (.t 157)⟩]

def f3r20 : List Abs.Op := [
  ⟨some 160, none, false, .fadr 4 (.t 9)⟩,
  ⟨some 161, none, false, .ldv 9 false 1 160⟩,
  ⟨some 162, none, false, .mv (.t 11)⟩,
  ⟨some 163, none, false, .fadr 0 (.t 19)⟩,
  ⟨some 164, none, false, .fadr 0 (.t 163)⟩,
  ⟨some 165, none, false, .ldv 19 false 1 164⟩,
  ⟨some 166, none, false, .fadr 2 (.t 19)⟩,
  ⟨some 167, none, false, .fadr 0 (.t 166)⟩,
  ⟨some 168, none, false, .ldv 19 false 1 167⟩,
  ⟨some 169, none, false, .fadr 2 (.t 19)⟩,
  ⟨some 170, none, false, .fadr 1 (.t 169)⟩,
  ⟨some 171, none, false, .ldv 19 false 1 170⟩,
  ⟨some 172, none, false, .bld [(.int .i64 0), (.int .i64 0)] [(0, 1, (.t 168)), (1, 1, (.t 171))]⟩,
  ⟨some 173, none, false, .bld [(.int .i64 0), (.int .i64 0)] []⟩,
  ⟨some 174, none, false, .call false (.c (.fn i_steam_Bounds [] [])) [(.t 161), (.t 162), (.t 165), (.t 172), (.t 173)]⟩,
  ⟨some 159, none, false, .mv (.t 174)⟩,
  ⟨some 175, none, false, .ext (.t 159) 0⟩,
  ⟨some 176, none, false, .ext (.t 159) 1⟩,
  ⟨some 177, none, false, .ext (.t 159) 2⟩,
  ⟨some 21, none, false, .alcv [] [(.int .i64 0), (.int .i64 0)]⟩,
  ⟨some 22, none, false, .alcv [] [(.int .i64 0), (.int .i64 0)]⟩,
  ⟨none, none, false, .stv 21 [] 2 21 (.t 175)⟩,
  ⟨none, none, false, .stv 22 [] 2 22 (.t 176)⟩,
  ⟨some 23, none, false, .mv (.t 177)⟩]

def f3r21 : List Abs.Op := [
  ⟨some 179, none, false, .fadr 4 (.t 9)⟩,
  ⟨some 180, none, false, .ldv 9 false 1 179⟩,
  ⟨some 181, none, false, .mv (.t 11)⟩,
  ⟨some 182, none, false, .fadr 0 (.t 20)⟩,
  ⟨some 183, none, false, .ldv 20 false 1 182⟩,
  ⟨some 184, none, false, .fadr 1 (.t 20)⟩,
  ⟨some 185, none, false, .ldv 20 false 1 184⟩,
  ⟨some 186, none, false, .bld [(.int .i64 0), (.int .i64 0), (.int .i64 0), (.int .i64 0)] [(0, 1, (.t 183)), (1, 1, (.t 185))]⟩,
  ⟨some 187, none, false, .call false (.c (.fn i_steam_Flash [] [])) [(.t 180), (.t 181), (.t 186)]⟩,
  ⟨some 178, none, false, .mv (.t 187)⟩,
  ⟨some 188, none, false, .ext (.t 178) 0⟩,
  ⟨some 189, none, false, .ext (.t 178) 1⟩,
  ⟨some 24, none, false, .alcv [] [(.int .i64 0), (.int .i64 0), (.int .i64 0), (.int .i64 0), (.int .i64 0), (.int .i64 0), (.int .i64 0), (.int .i64 0), (.int .i64 0), (.int .i64 0)]⟩,
  ⟨none, none, false, .stv 24 [] 10 24 (.t 188)⟩,
  ⟨some 25, none, false, .mv (.t 189)⟩]

def f3r22 : List Abs.Op := [
  ⟨some 190, none, false, .mv (.t 23)⟩,
  ⟨some 191, none, false, .bin .neq (.t 190) (.c (.int .i64 0))⟩,
  ⟨some 192, none, false, .mv (.t 191)⟩,
  ⟨some 193, some (192, false), false, .mv (.t 25)⟩,
  ⟨some 194, some (192, false), false, .bin .neq (.t 193) (.c (.int .i64 0))⟩,
  ⟨some 195, none, false, .pick (.t 192) (.c (.bool true)) (.t 194)⟩,
  ⟨some 196, none, false, .mv (.t 195)⟩,
  ⟨some 197, some (196, false), false, .ldv 22 true 2 22⟩,
  ⟨some 198, some (196, false), false, .bld [(.int .i64 0), (.int .i64 0)] []⟩,
  ⟨some 199, some (196, false), false, .eqv true [some .i64, some .i64] true (.t 197) (.t 198)⟩,
  ⟨some 200, none, false, .pick (.t 196) (.c (.bool true)) (.t 199)⟩,
  ⟨some 201, none, false, .mv (.t 200)⟩,
  ⟨some 202, some (201, false), false, .fadr 0 (.t 24)⟩,
  ⟨some 203, some (201, false), false, .fadr 0 (.t 202)⟩,
  ⟨some 204, some (201, false), false, .ldv 24 false 1 203⟩,
  ⟨some 205, some (201, false), false, .fadr 0 (.t 21)⟩,
  ⟨some 206, some (201, false), false, .ldv 21 false 1 205⟩,
  ⟨some 207, some (201, false), false, .bin .lss (.t 204) (.t 206)⟩,
  ⟨some 208, none, false, .pick (.t 201) (.c (.bool true)) (.t 207)⟩,
  ⟨some 209, none, false, .mv (.t 208)⟩,
  ⟨some 210, some (209, false), false, .fadr 0 (.t 24)⟩,
  ⟨some 211, some (209, false), false, .fadr 0 (.t 210)⟩,
  ⟨some 212, some (209, false), false, .ldv 24 false 1 211⟩,
  ⟨some 213, some (209, false), false, .fadr 1 (.t 21)⟩,
  ⟨some 214, some (209, false), false, .ldv 21 false 1 213⟩,
  ⟨some 215, some (209, false), false, .bin .gtr (.t 212) (.t 214)⟩,
  ⟨some 216, none, false, .pick (.t 209) (.c (.bool true)) (.t 215)⟩]

def f3r23 : List Abs.Op := [
  ⟨some 8, none, false, .mv (.c (.bool false))⟩]

def f3r24 : List Abs.Op := [
  ⟨some 124, none, false, .mv (.t 18)⟩,
  ⟨some 125, none, false, .bin .add (.t 124) (.c (.int .i64 1))⟩,
  ⟨some 18, none, false, .mv (.t 125)⟩]

def f_top_TopSteam_l25 : Abs.Cmd :=
  (.seq (.seq (.reg [2, 4, 9, 10, 11, 12, 14, 15, 17, 18, 123] f3r17) (.ite (.t 123) .nop (.exit 4))) (.seq (.blk 5 (.seq (.reg [2, 4, 9, 10, 11, 12, 14, 15, 17, 18, 19, 20] f3r18) (.seq (.seq (.reg [2, 4, 9, 10, 11, 12, 14, 15, 17, 18, 19, 20, 158] f3r19) (.ite (.t 158) (.exit 5) .nop)) (.seq (.reg [2, 4, 9, 10, 11, 12, 14, 15, 17, 18, 20, 21, 22, 23] f3r20) (.seq (.reg [2, 4, 9, 10, 11, 12, 14, 15, 17, 18, 21, 22, 23, 24, 25] f3r21) (.seq (.reg [2, 4, 9, 10, 11, 12, 14, 15, 17, 18, 216] f3r22) (.ite (.t 216) (.seq (.reg [8] f3r23) .ret) .nop))))))) (.reg [2, 4, 9, 10, 11, 12, 14, 15, 17, 18] f3r24)))

def f3r26 : List Abs.Op := [
  ⟨some 95, none, false, .mv (.t 17)⟩,
  ⟨some 96, none, false, .bin .add (.t 95) (.c (.int .i64 1))⟩,
  ⟨some 17, none, false, .mv (.t 96)⟩]

def f_top_TopSteam_l27 : Abs.Cmd :=
  (.seq (.seq (.reg [2, 4, 9, 10, 11, 12, 14, 15, 17, 94] f3r13) (.ite (.t 94) .nop (.exit 2))) (.seq (.blk 3 (.seq (.seq (.reg [2, 4, 9, 10, 11, 12, 14, 15, 17, 118] f3r14) (.ite (.t 118) (.seq (.reg [8] f3r15) .ret) .nop)) (.seq (.reg [2, 4, 9, 10, 11, 12, 14, 15, 17, 18] f3r16) (.blk 4 (.loop [2, 4, 9, 10, 11, 12, 14, 15, 17, 18] false f_top_TopSteam_l25))))) (.reg [2, 4, 9, 10, 11, 12, 14, 15, 17] f3r26)))

def f3r28 : List Abs.Op := [
  ⟨some 61, none, false, .mv (.t 14)⟩,
  ⟨some 62, none, false, .bin .add (.t 61) (.c (.int .i64 1))⟩,
  ⟨some 14, none, false, .mv (.t 62)⟩]

def f_top_TopSteam_l29 : Abs.Cmd :=
  (.seq (.seq (.reg [2, 4, 9, 10, 11, 12, 14, 60] f3r8) (.ite (.t 60) .nop (.exit 0))) (.seq (.blk 1 (.seq (.reg [2, 4, 9, 10, 11, 12, 14, 15, 16] f3r9) (.seq (.seq (.reg [2, 4, 9, 10, 11, 12, 14, 15, 90] f3r10) (.ite (.t 90) (.seq (.reg [8] f3r11) .ret) .nop)) (.seq (.reg [2, 4, 9, 10, 11, 12, 14, 15, 17] f3r12) (.blk 2 (.loop [2, 4, 9, 10, 11, 12, 14, 15, 17] false f_top_TopSteam_l27)))))) (.reg [2, 4, 9, 10, 11, 12, 14] f3r28)))

def f3r30 : List Abs.Op := [
  ⟨some 217, none, false, .call false (.c (.fn i_top_still [] [])) []⟩,
  ⟨some 8, none, false, .mv (.t 217)⟩]

def a_top_TopSteam : Ann := ⟨[(27, [8]), (9, [2, 4, 9, 10, 11, 12, 14]), (15, [2, 4, 9, 10, 11, 12, 14, 15, 17]), (20, [2, 4, 9, 10, 11, 12, 14, 15, 17, 18]), (26, [8]), (25, [2, 4, 9, 10, 11, 12, 14, 15, 17, 18, 216]), (24, [2, 4, 9, 10, 11, 12, 14, 15, 17, 18, 21, 22, 23, 24, 25]), (23, [2, 4, 9, 10, 11, 12, 14, 15, 17, 18, 20, 21, 22, 23]), (22, [2, 4, 9, 10, 11, 12, 14, 15, 17, 18, 19, 20, 158]), (21, [2, 4, 9, 10, 11, 12, 14, 15, 17, 18, 19, 20]), (19, [2, 4, 9, 10, 11, 12, 14, 15, 17, 18, 123]), (18, [2, 4, 9, 10, 11, 12, 14, 15, 17, 18]), (17, [8]), (16, [2, 4, 9, 10, 11, 12, 14, 15, 17, 118]), (14, [2, 4, 9, 10, 11, 12, 14, 15, 17, 94]), (13, [2, 4, 9, 10, 11, 12, 14, 15, 17]), (12, [8]), (11, [2, 4, 9, 10, 11, 12, 14, 15, 90]), (10, [2, 4, 9, 10, 11, 12, 14, 15, 16]), (8, [2, 4, 9, 10, 11, 12, 14, 60]), (7, [2, 4, 9, 10, 11, 12, 14]), (6, [8]), (5, [2, 4, 9, 10, 11, 12, 13, 51]), (4, [2, 4, 9, 10, 11, 12, 13]), (3, [2, 4, 9, 10, 11]), (2, [8]), (1, [1, 2, 3, 4, 30]), (0, [1, 2, 3, 4])], [(4, [2, 4, 9, 10, 11, 12, 14, 15, 17, 18]), (2, [2, 4, 9, 10, 11, 12, 14, 15, 17]), (0, [2, 4, 9, 10, 11, 12, 14])], [], [9, 15, 19, 20, 21, 22, 24], [9, 15, 19, 20, 21, 22, 24], [], [], [], [], [], []⟩
def f_top_TopSteam : Abs.Fn := ⟨4, [.t 8],
  (.seq (.reg [1, 2, 3, 4] f3r0) (.seq (.seq (.reg [1, 2, 3, 4, 30] f3r1) (.ite (.t 30) (.seq (.reg [8] f3r2) .ret) .nop)) (.seq (.reg [2, 4, 9, 10, 11] f3r3) (.seq (.reg [2, 4, 9, 10, 11, 12, 13] f3r4) (.seq (.seq (.reg [2, 4, 9, 10, 11, 12, 13, 51] f3r5) (.ite (.t 51) (.seq (.reg [8] f3r6) .ret) .nop)) (.seq (.seq (.reg [2, 4, 9, 10, 11, 12, 14] f3r7) (.blk 0 (.loop [2, 4, 9, 10, 11, 12, 14] false f_top_TopSteam_l29))) (.seq (.reg [8] f3r30) .ret)))))))⟩

@[simp] theorem e3r0 : type_of% f3r0.eq_1 := by_rfl f3r0.eq_1
@[simp] theorem e3r1 : type_of% f3r1.eq_1 := by_rfl f3r1.eq_1
@[simp] theorem e3r2 : type_of% f3r2.eq_1 := by_rfl f3r2.eq_1
@[simp] theorem e3r3 : type_of% f3r3.eq_1 := by_rfl f3r3.eq_1
@[simp] theorem e3r4 : type_of% f3r4.eq_1 := by_rfl f3r4.eq_1
@[simp] theorem e3r5 : type_of% f3r5.eq_1 := by_rfl f3r5.eq_1
@[simp] theorem e3r6 : type_of% f3r6.eq_1 := by_rfl f3r6.eq_1
@[simp] theorem e3r7 : type_of% f3r7.eq_1 := by_rfl f3r7.eq_1
@[simp] theorem e3r8 : type_of% f3r8.eq_1 := by_rfl f3r8.eq_1
@[simp] theorem e3r9 : type_of% f3r9.eq_1 := by_rfl f3r9.eq_1
@[simp] theorem e3r10 : type_of% f3r10.eq_1 := by_rfl f3r10.eq_1
@[simp] theorem e3r11 : type_of% f3r11.eq_1 := by_rfl f3r11.eq_1
@[simp] theorem e3r12 : type_of% f3r12.eq_1 := by_rfl f3r12.eq_1
@[simp] theorem e3r13 : type_of% f3r13.eq_1 := by_rfl f3r13.eq_1
@[simp] theorem e3r14 : type_of% f3r14.eq_1 := by_rfl f3r14.eq_1
@[simp] theorem e3r15 : type_of% f3r15.eq_1 := by_rfl f3r15.eq_1
@[simp] theorem e3r16 : type_of% f3r16.eq_1 := by_rfl f3r16.eq_1
@[simp] theorem e3r17 : type_of% f3r17.eq_1 := by_rfl f3r17.eq_1
@[simp] theorem e3r18 : type_of% f3r18.eq_1 := by_rfl f3r18.eq_1
@[simp] theorem e3r19 : type_of% f3r19.eq_1 := by_rfl f3r19.eq_1
@[simp] theorem e3r20 : type_of% f3r20.eq_1 := by_rfl f3r20.eq_1
@[simp] theorem e3r21 : type_of% f3r21.eq_1 := by_rfl f3r21.eq_1
@[simp] theorem e3r22 : type_of% f3r22.eq_1 := by_rfl f3r22.eq_1
@[simp] theorem e3r23 : type_of% f3r23.eq_1 := by_rfl f3r23.eq_1
@[simp] theorem e3r24 : type_of% f3r24.eq_1 := by_rfl f3r24.eq_1
@[simp] theorem e3r26 : type_of% f3r26.eq_1 := by_rfl f3r26.eq_1
@[simp] theorem e3r28 : type_of% f3r28.eq_1 := by_rfl f3r28.eq_1
@[simp] theorem e3r30 : type_of% f3r30.eq_1 := by_rfl f3r30.eq_1
theorem e_top_TopSteam_l25 : type_of% f_top_TopSteam_l25.eq_1 := by_rfl f_top_TopSteam_l25.eq_1
theorem e_top_TopSteam_l27 : type_of% f_top_TopSteam_l27.eq_1 := by_rfl f_top_TopSteam_l27.eq_1
theorem e_top_TopSteam_l29 : type_of% f_top_TopSteam_l29.eq_1 := by_rfl f_top_TopSteam_l29.eq_1
theorem e_top_TopSteam : type_of% f_top_TopSteam.eq_1 := by_rfl f_top_TopSteam.eq_1
theorem ok_top_TopSteam : fnC Tryz.prog a_top_TopSteam Tryz.f3 = some f_top_TopSteam := by kernel_rfl

/-! 6 fumarole/fumaroletop.run -/
def f6r0 : List Abs.Op := [
  ⟨some 3, none, false, .boxi (.t 0)⟩,
  ⟨some 6, none, false, .mv (.c (.bool false))⟩]

def f6r1 : List Abs.Op := [
  ⟨some 7, none, false, .ld true 9 (.t 3)⟩,
  ⟨some 8, none, false, .call false (.c (.fn i_ref05_Right [] [])) [(.t 7)]⟩,
  ⟨some 9, none, false, .mv (.t 8)⟩,
  ⟨some 10, some (9, true), false, .mv (.t 1)⟩,
  ⟨some 11, some (9, true), false, .lenS (.t 10)⟩,
  ⟨some 12, some (9, true), false, .bin .leq (.t 11) (.c (.int .i64 4))⟩,
  ⟨some 13, none, false, .pick (.t 9) (.t 12) (.c (.bool false))⟩,
  ⟨some 14, none, false, .mv (.t 13)⟩,
  ⟨some 15, some (14, true), false, .ld true 9 (.t 3)⟩,
  ⟨some 16, some (14, true), false, .mv (.t 1)⟩,
  ⟨some 17, some (14, true), false, .call false (.c (.fn i_ref05_ModelsFault [] [])) [(.t 15), (.t 16)]⟩,
  ⟨some 18, some (14, true), false, .bin .eql (.t 17) (.c (.int .i64 0))⟩,
  ⟨some 19, none, false, .pick (.t 14) (.t 18) (.c (.bool false))⟩,
  ⟨some 20, none, false, .mv (.t 19)⟩,
  ⟨some 21, some (20, true), false, .mv (.t 2)⟩,
  ⟨some 22, some (20, true), false, .lenS (.t 21)⟩,
  ⟨some 23, some (20, true), false, .bin .leq (.t 22) (.c (.int .i64 6))⟩,
  ⟨some 24, none, false, .pick (.t 20) (.t 23) (.c (.bool false))⟩,
  ⟨some 25, none, false, .mv (.t 24)⟩,
  ⟨some 26, some (25, true), false, .ld true 9 (.t 3)⟩,
  ⟨some 27, some (25, true), false, .mv (.t 2)⟩,
  ⟨some 28, some (25, true), false, .call false (.c (.fn i_ref05_PlanFault [] [])) [(.t 26), (.t 27)]⟩,
  ⟨some 29, some (25, true), false, .bin .eql (.t 28) (.c (.int .i64 0))⟩,
  ⟨some 30, none, false, .pick (.t 25) (.t 29) (.c (.bool false))⟩,
  ⟨some 6, none, false, .mv (.t 30)⟩]

def a_top_run : Ann := ⟨[(1, [6]), (0, [1, 2, 3])], [], [], [], [], [], [], [], [], [], []⟩
def f_top_run : Abs.Fn := ⟨3, [.t 6],
  (.seq (.reg [1, 2, 3] f6r0) (.seq (.reg [6] f6r1) .ret))⟩

@[simp] theorem e6r0 : type_of% f6r0.eq_1 := by_rfl f6r0.eq_1
@[simp] theorem e6r1 : type_of% f6r1.eq_1 := by_rfl f6r1.eq_1
theorem e_top_run : type_of% f_top_run.eq_1 := by_rfl f_top_run.eq_1
theorem ok_top_run : fnC Tryz.prog a_top_run Tryz.f6 = some f_top_run := by kernel_rfl

/-! 7 fumarole/fumaroletop.still -/
def f7r0 : List Abs.Op := [
  ⟨some 0, none, false, .mv (.c (.bool false))⟩]

def f7r1 : List Abs.Op := [
  ⟨some 4, none, false, .bld [(.int .i64 0), (.int .i64 0), (.int .i64 0), (.int .i64 0)] [(0, 1, (.c (.int .i64 1))), (1, 1, (.c (.int .i64 1))), (2, 1, (.c (.int .i64 1))), (3, 1, (.c (.int .i64 4)))]⟩,
  ⟨some 5, none, false, .call false (.c (.fn i_law01_Three [] [])) []⟩,
  ⟨some 6, none, false, .bld [(.int .i64 0), (.int .i64 0), (.int .i64 0), (.int .i64 0), .nils, (.int .i64 0), (.int .i64 0), (.int .i64 0), .nils] [(0, 4, (.t 4)), (4, 1, (.t 5)), (5, 1, (.c (.int .i64 1)))]⟩,
  ⟨some 1, none, false, .alcv [] [(.int .i64 0), (.int .i64 0), (.int .i64 0), (.int .i64 0), .nils, (.int .i64 0), (.int .i64 0), (.int .i64 0), .nils]⟩,
  ⟨none, none, false, .stv 1 [] 9 1 (.t 6)⟩]

def f7r2 : List Abs.Op := [
  ⟨some 8, none, false, .ldv 1 true 9 1⟩,
  ⟨some 9, none, false, .bsi 4 1 [(.int .i64 0), (.int .i64 0), (.int .i64 0), (.int .i64 0)] [(0, 1, (.c (.int .i64 1000))), (1, 1, (.c (.int .i64 0))), (2, 1, (.c (.int .i64 2))), (3, 1, (.c (.int .i64 0)))]⟩,
  ⟨some 10, none, false, .bld [(.str []), .nils] [(0, 1, (.c (.str [109]))), (1, 1, (.t 9))]⟩,
  ⟨some 11, none, false, .bsi 0 1 [] []⟩,
  ⟨some 12, none, false, .bsi 1 1 [.nils] [(0, 1, (.t 11))]⟩,
  ⟨some 13, none, false, .call false (.c (.fn i_rock_Play [] [])) [(.t 8), (.t 10), (.t 12)]⟩,
  ⟨some 7, none, false, .mv (.t 13)⟩,
  ⟨some 14, none, false, .ext (.t 7) 0⟩,
  ⟨some 15, none, false, .ext (.t 7) 1⟩,
  ⟨some 2, none, false, .alcv [] [.nils, .nils]⟩,
  ⟨none, none, false, .stv 2 [] 2 2 (.t 14)⟩,
  ⟨some 3, none, false, .mv (.t 15)⟩]

def f7r3 : List Abs.Op := [
  ⟨some 16, none, false, .mv (.t 3)⟩,
  ⟨some 17, none, false, .bin .eql (.t 16) (.c (.int .i64 0))⟩,
  ⟨some 18, none, false, .mv (.t 17)⟩,
  ⟨some 19, some (18, true), false, .fadr 0 (.t 2)⟩,
  ⟨some 20, some (18, true), false, .ldv 2 false 1 19⟩,
  ⟨some 21, some (18, true), false, .lenS (.t 20)⟩,
  ⟨some 22, some (18, true), false, .bin .eql (.t 21) (.c (.int .i64 2))⟩,
  ⟨some 23, none, false, .pick (.t 18) (.t 22) (.c (.bool false))⟩,
  ⟨some 24, none, false, .mv (.t 23)⟩,
  ⟨some 25, some (24, true), false, .fadr 0 (.t 2)⟩,
  ⟨some 26, some (24, true), false, .ldv 2 false 1 25⟩,
  ⟨some 27, some (24, true), false, .idxS 1 (.t 26) (.c (.int .i64 1))⟩,
  ⟨some 28, some (24, true), false, .ld false 1 (.t 27)⟩,
  ⟨some 29, some (24, true), false, .lenS (.t 28)⟩,
  ⟨some 30, some (24, true), false, .bin .eql (.t 29) (.c (.int .i64 1))⟩,
  ⟨some 31, none, false, .pick (.t 24) (.t 30) (.c (.bool false))⟩,
  ⟨some 32, none, false, .mv (.t 31)⟩,
  ⟨some 33, some (32, true), false, .fadr 0 (.t 2)⟩,
  ⟨some 34, some (32, true), false, .ldv 2 false 1 33⟩,
  ⟨some 35, some (32, true), false, .idxS 1 (.t 34) (.c (.int .i64 1))⟩,
  ⟨some 36, some (32, true), false, .ld false 1 (.t 35)⟩,
  ⟨some 37, some (32, true), false, .idxS 3 (.t 36) (.c (.int .i64 0))⟩,
  ⟨some 38, some (32, true), false, .ld true 3 (.t 37)⟩,
  ⟨some 39, some (32, true), false, .bld [(.int .i64 0), (.int .i64 0), (.int .i64 0)] [(0, 1, (.c (.int .i64 1000))), (1, 1, (.c (.int .i64 2000)))]⟩,
  ⟨some 40, some (32, true), false, .eqv true [some .i64, some .i64, some .i64] false (.t 38) (.t 39)⟩,
  ⟨some 41, none, false, .pick (.t 32) (.t 40) (.c (.bool false))⟩,
  ⟨some 0, none, false, .mv (.t 41)⟩]

def a_top_still : Ann := ⟨[(3, [0]), (2, [2, 3]), (1, [1]), (0, [])], [], [], [1, 2], [1, 2], [], [], [], [], [], []⟩
def f_top_still : Abs.Fn := ⟨0, [.t 0],
  (.seq (.reg [] f7r0) (.seq (.reg [1] f7r1) (.seq (.reg [2, 3] f7r2) (.seq (.reg [0] f7r3) .ret))))⟩

@[simp] theorem e7r0 : type_of% f7r0.eq_1 := by_rfl f7r0.eq_1
@[simp] theorem e7r1 : type_of% f7r1.eq_1 := by_rfl f7r1.eq_1
@[simp] theorem e7r2 : type_of% f7r2.eq_1 := by_rfl f7r2.eq_1
@[simp] theorem e7r3 : type_of% f7r3.eq_1 := by_rfl f7r3.eq_1
theorem e_top_still : type_of% f_top_still.eq_1 := by_rfl f_top_still.eq_1
theorem ok_top_still : fnC Tryz.prog a_top_still Tryz.f7 = some f_top_still := by kernel_rfl

/-! 8 fumarole/fumarolelaw05.Bed -/
def f8r0 : List Abs.Op := [
  ⟨some 1, none, false, .boxi (.t 0)⟩,
  ⟨some 2, none, false, .alcv [] [(.int .i64 0), (.int .i64 0), (.int .i64 0), (.int .i64 0), .nils, (.int .i64 0), (.int .i64 0), (.int .i64 0), .nils]⟩]

def f8r1 : List Abs.Op := [
  ⟨some 5, none, true, .fadr 0 (.t 1)⟩,
  ⟨some 6, none, true, .ldi true 4 (.t 5)⟩,
  ⟨some 7, none, true, .call false (.c (.fn i_law02_Field [] [])) [(.t 6)]⟩,
  ⟨some 8, none, true, .fadr 4 (.t 1)⟩,
  ⟨some 9, none, true, .ldi false 1 (.t 8)⟩,
  ⟨some 10, none, false, .call true (.c (.fn i_law01_Table [] [])) [(.t 9)]⟩,
  ⟨some 11, none, true, .fadr 5 (.t 1)⟩,
  ⟨some 12, none, true, .ldi false 1 (.t 11)⟩,
  ⟨some 13, none, true, .fadr 6 (.t 1)⟩,
  ⟨some 14, none, true, .ldi false 1 (.t 13)⟩,
  ⟨some 15, none, true, .fadr 7 (.t 1)⟩,
  ⟨some 16, none, true, .ldi false 1 (.t 15)⟩,
  ⟨some 17, none, true, .bld [(.int .i64 0), (.int .i64 0), (.int .i64 0), (.int .i64 0), .nils, (.int .i64 0), (.int .i64 0), (.int .i64 0), .nils] [(0, 4, (.t 7)), (4, 1, (.t 10)), (5, 1, (.t 12)), (6, 1, (.t 14)), (7, 1, (.t 16))]⟩,
  ⟨some 3, none, true, .alcv [] [(.int .i64 0), (.int .i64 0), (.int .i64 0), (.int .i64 0), .nils, (.int .i64 0), (.int .i64 0), (.int .i64 0), .nils]⟩,
  ⟨none, none, false, .stv 3 [(8, 3)] 9 3 (.t 17)⟩]

def f8r2 : List Abs.Op := [
  ⟨some 4, none, false, .mv (.c (.int .i64 0))⟩]

def f8r3 : List Abs.Op := [
  ⟨some 18, none, false, .mv (.t 4)⟩,
  ⟨some 19, none, false, .fadr 8 (.t 1)⟩,
  ⟨some 20, none, false, .ldi false 1 (.t 19)⟩,
  ⟨some 21, none, false, .lenS (.t 20)⟩,
  ⟨some 22, none, false, .bin .lss (.t 18) (.t 21)⟩]

def f8r4 : List Abs.Op := [
  ⟨some 25, none, true, .fadr 8 (.t 3)⟩,
  ⟨some 26, none, true, .ldv 3 false 1 25⟩,
  ⟨some 27, none, true, .fadr 8 (.t 1)⟩,
  ⟨some 28, none, true, .ldi false 1 (.t 27)⟩,
  ⟨some 29, none, true, .mv (.t 4)⟩,
  ⟨some 30, none, true, .idxS 3 (.t 28) (.t 29)⟩,
  ⟨some 31, none, true, .fadr 0 (.t 30)⟩,
  ⟨some 32, none, true, .ld false 1 (.t 31)⟩,
  ⟨some 33, none, true, .fadr 8 (.t 1)⟩,
  ⟨some 34, none, true, .ldi false 1 (.t 33)⟩,
  ⟨some 35, none, true, .mv (.t 4)⟩,
  ⟨some 36, none, true, .idxS 3 (.t 34) (.t 35)⟩,
  ⟨some 37, none, true, .fadr 1 (.t 36)⟩,
  ⟨some 38, none, true, .ld false 1 (.t 37)⟩,
  ⟨some 39, none, true, .fadr 8 (.t 1)⟩,
  ⟨some 40, none, true, .ldi false 1 (.t 39)⟩,
  ⟨some 41, none, true, .mv (.t 4)⟩,
  ⟨some 42, none, true, .idxS 3 (.t 40) (.t 41)⟩,
  ⟨some 43, none, true, .fadr 2 (.t 42)⟩,
  ⟨some 44, none, true, .ld false 1 (.t 43)⟩,
  ⟨some 45, none, true, .bld [(.int .i64 0), (.int .i64 0), (.int .i64 0)] [(0, 1, (.t 32)), (1, 1, (.t 38)), (2, 1, (.t 44))]⟩,
  ⟨some 46, none, true, .bsi 1 3 [(.int .i64 0), (.int .i64 0), (.int .i64 0)] [(0, 3, (.t 45))]⟩,
  ⟨some 47, none, false, .app 3 24 (.t 26) (.t 46)⟩,
  ⟨some 48, none, false, .fadr 8 (.t 3)⟩,
  ⟨none, none, false, .stv 3 [(0, 3)] 1 48 (.t 47)⟩]

def f8r5 : List Abs.Op := [
  ⟨some 23, none, false, .mv (.t 4)⟩,
  ⟨some 24, none, false, .bin .add (.t 23) (.c (.int .i64 1))⟩,
  ⟨some 4, none, false, .mv (.t 24)⟩]

def f_law05_Bed_l6 : Abs.Cmd :=
  (.seq (.seq (.reg [1, 2, 3, 4, 22] f8r3) (.ite (.t 22) .nop (.exit 0))) (.seq (.blk 1 (.reg [1, 2, 3, 4] f8r4)) (.reg [1, 2, 3, 4] f8r5)))

def f8r7 : List Abs.Op := [
  ⟨some 49, none, false, .ldv 3 true 9 3⟩,
  ⟨none, none, false, .stv 2 [] 9 2 (.t 49)⟩]

def a_law05_Bed : Ann := ⟨[(6, [2]), (4, [1, 2, 3, 4]), (5, [1, 2, 3, 4]), (3, [1, 2, 3, 4, 22]), (2, [1, 2, 3, 4]), (1, [1, 2, 3]), (0, [1, 2])], [(0, [1, 2, 3, 4])], [], [2, 3], [2, 3], [(1014, [(8, 3)]), (5024, [(0, 3)])], [1005], [], [1], [], []⟩
def f_law05_Bed : Abs.Fn := ⟨1, [.v 2 true 9],
  (.seq (.reg [1, 2] f8r0) (.seq (.reg [1, 2, 3] f8r1) (.seq (.seq (.reg [1, 2, 3, 4] f8r2) (.blk 0 (.loop [1, 2, 3, 4] false f_law05_Bed_l6))) (.seq (.reg [2] f8r7) .ret))))⟩

@[simp] theorem e8r0 : type_of% f8r0.eq_1 := by_rfl f8r0.eq_1
@[simp] theorem e8r1 : type_of% f8r1.eq_1 := by_rfl f8r1.eq_1
@[simp] theorem e8r2 : type_of% f8r2.eq_1 := by_rfl f8r2.eq_1
@[simp] theorem e8r3 : type_of% f8r3.eq_1 := by_rfl f8r3.eq_1
@[simp] theorem e8r4 : type_of% f8r4.eq_1 := by_rfl f8r4.eq_1
@[simp] theorem e8r5 : type_of% f8r5.eq_1 := by_rfl f8r5.eq_1
@[simp] theorem e8r7 : type_of% f8r7.eq_1 := by_rfl f8r7.eq_1
theorem e_law05_Bed_l6 : type_of% f_law05_Bed_l6.eq_1 := by_rfl f_law05_Bed_l6.eq_1
theorem e_law05_Bed : type_of% f_law05_Bed.eq_1 := by_rfl f_law05_Bed.eq_1
theorem ok_law05_Bed : fnC Tryz.prog a_law05_Bed Tryz.f8 = some f_law05_Bed := by kernel_rfl

/-! 9 fumarole/fumarolelaw02.Models -/
def f9r0 : List Abs.Op := [
  ⟨some 2, none, false, .mv (.c .nils)⟩]

def f9r1 : List Abs.Op := [
  ⟨some 3, none, false, .nilb 2⟩]

def f9r2 : List Abs.Op := [
  ⟨some 4, none, false, .mv (.c (.int .i64 0))⟩]

def f9r3 : List Abs.Op := [
  ⟨some 5, none, false, .mv (.t 4)⟩,
  ⟨some 6, none, false, .mv (.t 0)⟩,
  ⟨some 7, none, false, .lenS (.t 6)⟩,
  ⟨some 8, none, false, .bin .lss (.t 5) (.t 7)⟩]

def f9r4 : List Abs.Op := [
  ⟨some 11, none, false, .mv (.t 3)⟩,
  ⟨some 12, none, false, .mv (.t 0)⟩,
  ⟨some 13, none, false, .mv (.t 4)⟩,
  ⟨some 14, none, false, .idxS 2 (.t 12) (.t 13)⟩,
  ⟨some 15, none, false, .ld true 2 (.t 14)⟩,
  ⟨some 16, none, false, .call false (.c (.fn i_law02_Model [] [])) [(.t 15)]⟩,
  ⟨some 17, none, false, .bsi 1 2 [(.str []), .nils] [(0, 2, (.t 16))]⟩,
  ⟨some 18, none, false, .app 2 40 (.t 11) (.t 17)⟩,
  ⟨some 3, none, false, .mv (.t 18)⟩]

def f9r5 : List Abs.Op := [
  ⟨some 9, none, false, .mv (.t 4)⟩,
  ⟨some 10, none, false, .bin .add (.t 9) (.c (.int .i64 1))⟩,
  ⟨some 4, none, false, .mv (.t 10)⟩]

def f_law02_Models_l6 : Abs.Cmd :=
  (.seq (.seq (.reg [0, 3, 4, 8] f9r3) (.ite (.t 8) .nop (.exit 0))) (.seq (.blk 1 (.reg [0, 3, 4] f9r4)) (.reg [0, 3, 4] f9r5)))

def f9r7 : List Abs.Op := [
  ⟨some 19, none, false, .mv (.t 3)⟩,
  ⟨some 2, none, false, .mv (.t 19)⟩]

def a_law02_Models : Ann := ⟨[(6, [2]), (4, [0, 3, 4]), (5, [0, 3, 4]), (3, [0, 3, 4, 8]), (2, [0, 3, 4]), (1, [0, 3]), (0, [0])], [(0, [0, 3, 4])], [], [3], [], [], [], [], [], [], []⟩
def f_law02_Models : Abs.Fn := ⟨1, [.t 2],
  (.seq (.reg [0] f9r0) (.seq (.reg [0, 3] f9r1) (.seq (.seq (.reg [0, 3, 4] f9r2) (.blk 0 (.loop [0, 3, 4] false f_law02_Models_l6))) (.seq (.reg [2] f9r7) .ret))))⟩

@[simp] theorem e9r0 : type_of% f9r0.eq_1 := by_rfl f9r0.eq_1
@[simp] theorem e9r1 : type_of% f9r1.eq_1 := by_rfl f9r1.eq_1
@[simp] theorem e9r2 : type_of% f9r2.eq_1 := by_rfl f9r2.eq_1
@[simp] theorem e9r3 : type_of% f9r3.eq_1 := by_rfl f9r3.eq_1
@[simp] theorem e9r4 : type_of% f9r4.eq_1 := by_rfl f9r4.eq_1
@[simp] theorem e9r5 : type_of% f9r5.eq_1 := by_rfl f9r5.eq_1
@[simp] theorem e9r7 : type_of% f9r7.eq_1 := by_rfl f9r7.eq_1
theorem e_law02_Models_l6 : type_of% f_law02_Models_l6.eq_1 := by_rfl f_law02_Models_l6.eq_1
theorem e_law02_Models : type_of% f_law02_Models.eq_1 := by_rfl f_law02_Models.eq_1
theorem ok_law02_Models : fnC Tryz.prog a_law02_Models Tryz.f9 = some f_law02_Models := by kernel_rfl

/-! 10 fumarole/rock.Ahead -/
def f10r0 : List Abs.Op := [
  ⟨some 3, none, false, .boxi (.t 0)⟩,
  ⟨some 6, none, false, .nilb 2⟩,
  ⟨some 7, none, false, .alc [] [(.int .i64 0)]⟩]

def f10r1 : List Abs.Op := [
  ⟨some 20, none, false, .ld true 9 (.t 3)⟩,
  ⟨some 21, none, false, .mv (.t 1)⟩,
  ⟨some 22, none, false, .mv (.t 2)⟩,
  ⟨some 23, none, false, .call false (.c (.fn i_rock_ready [] [])) [(.t 20), (.t 21), (.t 22)]⟩,
  ⟨some 8, none, false, .mv (.t 23)⟩]

def f10r2 : List Abs.Op := [
  ⟨some 24, none, false, .mv (.t 8)⟩,
  ⟨some 25, none, false, .bin .neq (.t 24) (.c (.int .i64 0))⟩]

def f10r3 : List Abs.Op := [
  ⟨some 26, none, false, .mv (.t 8)⟩,
  ⟨some 6, none, false, .nilb 2⟩,
  ⟨none, none, false, .st [] 1 (.t 7) (.t 26)⟩]

def f10r4 : List Abs.Op := [
  ⟨some 27, none, false, .ld true 9 (.t 3)⟩,
  ⟨some 28, none, false, .mv (.t 1)⟩,
  ⟨some 29, none, false, .mv (.t 2)⟩]

def f10r5 : List Abs.Op := [
  ⟨some 9, none, false, .mv (.t 30)⟩]

def f10r6 : List Abs.Op := [
  ⟨some 31, none, false, .mv (.t 2)⟩,
  ⟨some 32, none, false, .lenS (.t 31)⟩,
  ⟨some 33, none, false, .mv (.c (.int .i64 0))⟩]

def f10r7 : List Abs.Op := [
  ⟨some 34, none, false, .bin .lss (.t 33) (.t 32)⟩]

def f10r8 : List Abs.Op := [
  ⟨some 35, none, false, .mv (.t 33)⟩,
  ⟨some 10, none, false, .mv (.t 35)⟩]

def f10r9 : List Abs.Op := [
  ⟨some 11, none, false, .alcv [(0, 6), (1, 2)] [.nils, .nils]⟩]

def f10r10 : List Abs.Op := [
  ⟨some 36, none, false, .fadr 8 (.t 3)⟩,
  ⟨some 37, none, false, .ld false 1 (.t 36)⟩,
  ⟨some 38, none, false, .lenS (.t 37)⟩,
  ⟨some 39, none, false, .mv (.c (.int .i64 0))⟩]

def f10r11 : List Abs.Op := [
  ⟨some 40, none, false, .bin .lss (.t 39) (.t 38)⟩]

def f10r12 : List Abs.Op := [
  ⟨some 41, none, false, .mv (.t 39)⟩,
  ⟨some 12, none, false, .mv (.t 41)⟩]

def f10r13 : List Abs.Op := [
  ⟨some 13, none, false, .nilb 3⟩]

def f10r14 : List Abs.Op := [
  ⟨some 42, none, false, .mv (.t 9)⟩,
  ⟨some 43, none, false, .lenS (.t 42)⟩,
  ⟨some 44, none, false, .mv (.c (.int .i64 0))⟩]

def f10r15 : List Abs.Op := [
  ⟨some 45, none, false, .bin .lss (.t 44) (.t 43)⟩]

def f10r16 : List Abs.Op := [
  ⟨some 46, none, false, .idxS 2 (.t 42) (.t 44)⟩,
  ⟨some 47, none, false, .ld true 2 (.t 46)⟩,
  ⟨some 15, none, false, .alcv [] [.nils, .nils]⟩,
  ⟨none, none, false, .stv 15 [] 2 15 (.t 47)⟩]

def f10r17 : List Abs.Op := [
  ⟨some 48, none, false, .mv (.t 13)⟩,
  ⟨some 49, none, false, .fadr 1 (.t 15)⟩,
  ⟨some 50, none, false, .ldv 15 false 1 49⟩,
  ⟨some 51, none, false, .mv (.t 10)⟩,
  ⟨some 52, none, false, .idxS 1 (.t 50) (.t 51)⟩,
  ⟨some 53, none, false, .ld false 1 (.t 52)⟩,
  ⟨some 54, none, false, .mv (.t 12)⟩,
  ⟨some 55, none, false, .idxS 3 (.t 53) (.t 54)⟩,
  ⟨some 56, none, false, .ld true 3 (.t 55)⟩,
  ⟨some 57, none, false, .bsi 1 3 [(.int .i64 0), (.int .i64 0), (.int .i64 0)] [(0, 3, (.t 56))]⟩,
  ⟨some 58, none, false, .app 3 24 (.t 48) (.t 57)⟩,
  ⟨some 13, none, false, .mv (.t 58)⟩]

def f10r18 : List Abs.Op := [
  ⟨some 59, none, false, .bin .add (.t 44) (.c (.int .i64 1))⟩,
  ⟨some 44, none, false, .mv (.t 59)⟩]

def f_rock_Ahead_l19 : Abs.Cmd :=
  (.seq (.reg [1, 3, 6, 7, 9, 10, 11, 12, 13, 32, 33, 38, 39, 42, 43, 44, 45] f10r15) (.seq (.ite (.t 45) .nop (.exit 4)) (.seq (.blk 5 (.seq (.reg [1, 3, 6, 7, 9, 10, 11, 12, 13, 15, 32, 33, 38, 39, 42, 43, 44] f10r16) (.reg [1, 3, 6, 7, 9, 10, 11, 12, 13, 32, 33, 38, 39, 42, 43, 44] f10r17))) (.reg [1, 3, 6, 7, 9, 10, 11, 12, 13, 32, 33, 38, 39, 42, 43, 44] f10r18))))

def f10r20 : List Abs.Op := [
  ⟨some 60, none, true, .fadr 0 (.t 11)⟩,
  ⟨some 61, none, true, .ldv 11 false 1 60⟩,
  ⟨some 62, none, true, .mv (.t 13)⟩,
  ⟨some 63, none, true, .call false (.c (.fn i_rock_span_rock_Yield [] [])) [(.t 62), (.c (.fn i_rock_Yield_mass [] []))]⟩,
  ⟨some 64, none, true, .mv (.t 13)⟩,
  ⟨some 65, none, true, .call false (.c (.fn i_rock_span_rock_Yield [] [])) [(.t 64), (.c (.fn i_rock_Ahead_1 [] []))]⟩,
  ⟨some 66, none, true, .mv (.t 13)⟩,
  ⟨some 67, none, true, .call false (.c (.fn i_rock_span_rock_Yield [] [])) [(.t 66), (.c (.fn i_rock_Yield_stain [] []))]⟩,
  ⟨some 68, none, true, .bld [(.int .i64 0), (.int .i64 0), (.int .i64 0), (.int .i64 0), (.int .i64 0), (.int .i64 0)] [(0, 2, (.t 63)), (2, 2, (.t 65)), (4, 2, (.t 67))]⟩,
  ⟨some 69, none, true, .bsi 1 6 [(.int .i64 0), (.int .i64 0), (.int .i64 0), (.int .i64 0), (.int .i64 0), (.int .i64 0)] [(0, 6, (.t 68))]⟩,
  ⟨some 70, none, false, .app 6 48 (.t 61) (.t 69)⟩,
  ⟨some 71, none, false, .fadr 0 (.t 11)⟩,
  ⟨none, none, false, .stv 11 [(0, 6), (1, 2)] 1 71 (.t 70)⟩]

def f10r21 : List Abs.Op := [
  ⟨some 72, none, false, .bin .add (.t 39) (.c (.int .i64 1))⟩,
  ⟨some 39, none, false, .mv (.t 72)⟩]

def f_rock_Ahead_l22 : Abs.Cmd :=
  (.seq (.reg [1, 3, 6, 7, 9, 10, 11, 32, 33, 38, 39, 40] f10r11) (.seq (.ite (.t 40) .nop (.exit 2)) (.seq (.blk 3 (.seq (.reg [1, 3, 6, 7, 9, 10, 11, 12, 32, 33, 38, 39] f10r12) (.seq (.reg [1, 3, 6, 7, 9, 10, 11, 12, 13, 32, 33, 38, 39] f10r13) (.seq (.seq (.reg [1, 3, 6, 7, 9, 10, 11, 12, 13, 32, 33, 38, 39, 42, 43, 44] f10r14) (.blk 4 (.loop [1, 3, 6, 7, 9, 10, 11, 12, 13, 32, 33, 38, 39, 42, 43, 44] false f_rock_Ahead_l19))) (.seq (.frz [13]) (.reg [1, 3, 6, 7, 9, 10, 11, 32, 33, 38, 39] f10r20)))))) (.reg [1, 3, 6, 7, 9, 10, 11, 32, 33, 38, 39] f10r21))))

def f10r23 : List Abs.Op := [
  ⟨some 73, none, false, .ld true 9 (.t 3)⟩,
  ⟨some 74, none, false, .call false (.c (.fn i_rock_Bed_size [] [])) [(.t 73)]⟩,
  ⟨some 75, none, false, .mv (.c (.int .i64 0))⟩]

def f10r24 : List Abs.Op := [
  ⟨some 76, none, false, .bin .lss (.t 75) (.t 74)⟩]

def f10r25 : List Abs.Op := [
  ⟨some 77, none, false, .mv (.t 75)⟩,
  ⟨some 16, none, false, .mv (.t 77)⟩]

def f10r26 : List Abs.Op := [
  ⟨some 17, none, false, .nilb 1⟩]

def f10r27 : List Abs.Op := [
  ⟨some 78, none, false, .mv (.t 9)⟩,
  ⟨some 79, none, false, .lenS (.t 78)⟩,
  ⟨some 80, none, false, .mv (.c (.int .i64 0))⟩]

def f10r28 : List Abs.Op := [
  ⟨some 81, none, false, .bin .lss (.t 80) (.t 79)⟩]

def f10r29 : List Abs.Op := [
  ⟨some 82, none, false, .mv (.t 80)⟩,
  ⟨some 83, none, false, .idxS 2 (.t 78) (.t 80)⟩,
  ⟨some 84, none, false, .ld true 2 (.t 83)⟩,
  ⟨some 19, none, false, .alcv [] [.nils, .nils]⟩,
  ⟨some 18, none, false, .mv (.t 82)⟩,
  ⟨none, none, false, .stv 19 [] 2 19 (.t 84)⟩]

def f10r30 : List Abs.Op := [
  ⟨some 85, none, true, .mv (.t 17)⟩,
  ⟨some 86, none, true, .ld true 9 (.t 3)⟩,
  ⟨some 87, none, true, .mv (.t 1)⟩,
  ⟨some 88, none, true, .mv (.t 18)⟩,
  ⟨some 89, none, true, .idxS 2 (.t 87) (.t 88)⟩,
  ⟨some 90, none, true, .ld true 2 (.t 89)⟩,
  ⟨some 91, none, true, .bld [(.int .i64 0), (.int .i64 0), (.int .i64 0), (.int .i64 0), .nils, (.int .i64 0), (.int .i64 0), (.int .i64 0), .nils, (.str []), .nils] [(0, 9, (.t 86)), (9, 2, (.t 90))]⟩,
  ⟨some 92, none, true, .fadr 0 (.t 19)⟩,
  ⟨some 93, none, true, .ldv 19 false 1 92⟩,
  ⟨some 94, none, true, .mv (.t 10)⟩,
  ⟨some 95, none, true, .bin .add (.t 94) (.c (.int .i64 1))⟩,
  ⟨some 96, none, true, .idxS 1 (.t 93) (.t 95)⟩,
  ⟨some 97, none, true, .ld false 1 (.t 96)⟩,
  ⟨some 98, none, true, .mv (.t 16)⟩,
  ⟨some 99, none, true, .call false (.c (.fn i_rock_bedded_pressure [] [])) [(.t 91), (.t 97), (.t 98)]⟩,
  ⟨some 100, none, true, .bsi 1 1 [(.int .i64 0)] [(0, 1, (.t 99))]⟩,
  ⟨some 101, none, false, .app 1 8 (.t 85) (.t 100)⟩,
  ⟨some 17, none, false, .mv (.t 101)⟩]

def f10r31 : List Abs.Op := [
  ⟨some 102, none, false, .bin .add (.t 80) (.c (.int .i64 1))⟩,
  ⟨some 80, none, false, .mv (.t 102)⟩]

def f_rock_Ahead_l32 : Abs.Cmd :=
  (.seq (.reg [1, 3, 6, 7, 9, 10, 11, 16, 17, 32, 33, 74, 75, 78, 79, 80, 81] f10r28) (.seq (.ite (.t 81) .nop (.exit 8)) (.seq (.blk 9 (.seq (.reg [1, 3, 6, 7, 9, 10, 11, 16, 17, 18, 19, 32, 33, 74, 75, 78, 79, 80] f10r29) (.reg [1, 3, 6, 7, 9, 10, 11, 16, 17, 32, 33, 74, 75, 78, 79, 80] f10r30))) (.reg [1, 3, 6, 7, 9, 10, 11, 16, 17, 32, 33, 74, 75, 78, 79, 80] f10r31))))

def f10r33 : List Abs.Op := [
  ⟨some 103, none, true, .fadr 1 (.t 11)⟩,
  ⟨some 104, none, true, .ldv 11 false 1 103⟩,
  ⟨some 105, none, true, .mv (.t 17)⟩,
  ⟨some 106, none, true, .call false (.c (.fn i_rock_span_int [] [])) [(.t 105), (.c (.fn i_rock_Ahead_2 [] []))]⟩,
  ⟨some 107, none, true, .bsi 1 2 [(.int .i64 0), (.int .i64 0)] [(0, 2, (.t 106))]⟩,
  ⟨some 108, none, false, .app 2 16 (.t 104) (.t 107)⟩,
  ⟨some 109, none, false, .fadr 1 (.t 11)⟩,
  ⟨none, none, false, .stv 11 [(0, 2)] 1 109 (.t 108)⟩]

def f10r34 : List Abs.Op := [
  ⟨some 110, none, false, .bin .add (.t 75) (.c (.int .i64 1))⟩,
  ⟨some 75, none, false, .mv (.t 110)⟩]

def f_rock_Ahead_l35 : Abs.Cmd :=
  (.seq (.reg [1, 3, 6, 7, 9, 10, 11, 32, 33, 74, 75, 76] f10r24) (.seq (.ite (.t 76) .nop (.exit 6)) (.seq (.blk 7 (.seq (.reg [1, 3, 6, 7, 9, 10, 11, 16, 32, 33, 74, 75] f10r25) (.seq (.reg [1, 3, 6, 7, 9, 10, 11, 16, 17, 32, 33, 74, 75] f10r26) (.seq (.seq (.reg [1, 3, 6, 7, 9, 10, 11, 16, 17, 32, 33, 74, 75, 78, 79, 80] f10r27) (.blk 8 (.loop [1, 3, 6, 7, 9, 10, 11, 16, 17, 32, 33, 74, 75, 78, 79, 80] false f_rock_Ahead_l32))) (.seq (.frz [17]) (.reg [1, 3, 6, 7, 9, 10, 11, 32, 33, 74, 75] f10r33)))))) (.reg [1, 3, 6, 7, 9, 10, 11, 32, 33, 74, 75] f10r34))))

def f10r36 : List Abs.Op := [
  ⟨some 111, none, false, .mv (.t 6)⟩,
  ⟨some 112, none, false, .ldv 11 true 2 11⟩,
  ⟨some 113, none, false, .bsi 1 2 [.nils, .nils] [(0, 2, (.t 112))]⟩,
  ⟨some 114, none, false, .app 2 48 (.t 111) (.t 113)⟩,
  ⟨some 6, none, false, .mv (.t 114)⟩]

def f10r37 : List Abs.Op := [
  ⟨some 115, none, false, .bin .add (.t 33) (.c (.int .i64 1))⟩,
  ⟨some 33, none, false, .mv (.t 115)⟩]

def f_rock_Ahead_l38 : Abs.Cmd :=
  (.seq (.reg [1, 3, 6, 7, 9, 32, 33, 34] f10r7) (.seq (.ite (.t 34) .nop (.exit 0)) (.seq (.blk 1 (.seq (.reg [1, 3, 6, 7, 9, 10, 32, 33] f10r8) (.seq (.reg [1, 3, 6, 7, 9, 10, 11, 32, 33] f10r9) (.seq (.seq (.reg [1, 3, 6, 7, 9, 10, 11, 32, 33, 38, 39] f10r10) (.blk 2 (.loop [1, 3, 6, 7, 9, 10, 11, 32, 33, 38, 39] true f_rock_Ahead_l22))) (.seq (.seq (.reg [1, 3, 6, 7, 9, 10, 11, 32, 33, 74, 75] f10r23) (.blk 6 (.loop [1, 3, 6, 7, 9, 10, 11, 32, 33, 74, 75] true f_rock_Ahead_l35))) (.seq (.frz [11]) (.reg [1, 3, 6, 7, 9, 32, 33] f10r36))))))) (.reg [1, 3, 6, 7, 9, 32, 33] f10r37))))

def f10r39 : List Abs.Op := [
  ⟨some 116, none, false, .mv (.t 6)⟩,
  ⟨some 6, none, false, .mv (.t 116)⟩,
  ⟨none, none, false, .st [] 1 (.t 7) (.c (.int .i64 0))⟩]

def f_rock_Ahead_b40 : Abs.Cmd :=
  (.seq (.treg [1, 2, 3, 6, 7, 9] f10r4 ⟨some 30, none, false, .call false (.c (.fn i_rock_runs [] [])) [(.t 27), (.t 28), (.t 29)]⟩ f10r5) (.seq (.seq (.reg [1, 3, 6, 7, 9, 32, 33] f10r6) (.blk 0 (.loop [1, 3, 6, 7, 9, 32, 33] true f_rock_Ahead_l38))) (.seq (.reg [6, 7] f10r39) .ret)))

def a_rock_Ahead : Ann := ⟨[(34, [6, 7]), (33, [1, 3, 6, 7, 9, 32, 33]), (32, [1, 3, 6, 7, 9, 32, 33]), (31, [1, 3, 6, 7, 9, 10, 11, 32, 33, 74, 75]), (30, [1, 3, 6, 7, 9, 10, 11, 32, 33, 74, 75]), (29, [1, 3, 6, 7, 9, 10, 11, 16, 17, 32, 33, 74, 75, 78, 79, 80]), (28, [1, 3, 6, 7, 9, 10, 11, 16, 17, 32, 33, 74, 75, 78, 79, 80]), (27, [1, 3, 6, 7, 9, 10, 11, 16, 17, 18, 19, 32, 33, 74, 75, 78, 79, 80]), (26, [1, 3, 6, 7, 9, 10, 11, 16, 17, 32, 33, 74, 75, 78, 79, 80, 81]), (25, [1, 3, 6, 7, 9, 10, 11, 16, 17, 32, 33, 74, 75, 78, 79, 80]), (24, [1, 3, 6, 7, 9, 10, 11, 16, 17, 32, 33, 74, 75]), (23, [1, 3, 6, 7, 9, 10, 11, 16, 32, 33, 74, 75]), (22, [1, 3, 6, 7, 9, 10, 11, 32, 33, 74, 75, 76]), (21, [1, 3, 6, 7, 9, 10, 11, 32, 33, 74, 75]), (20, [1, 3, 6, 7, 9, 10, 11, 32, 33, 38, 39]), (19, [1, 3, 6, 7, 9, 10, 11, 32, 33, 38, 39]), (18, [1, 3, 6, 7, 9, 10, 11, 12, 13, 32, 33, 38, 39, 42, 43, 44]), (17, [1, 3, 6, 7, 9, 10, 11, 12, 13, 32, 33, 38, 39, 42, 43, 44]), (16, [1, 3, 6, 7, 9, 10, 11, 12, 13, 15, 32, 33, 38, 39, 42, 43, 44]), (15, [1, 3, 6, 7, 9, 10, 11, 12, 13, 32, 33, 38, 39, 42, 43, 44, 45]), (14, [1, 3, 6, 7, 9, 10, 11, 12, 13, 32, 33, 38, 39, 42, 43, 44]), (13, [1, 3, 6, 7, 9, 10, 11, 12, 13, 32, 33, 38, 39]), (12, [1, 3, 6, 7, 9, 10, 11, 12, 32, 33, 38, 39]), (11, [1, 3, 6, 7, 9, 10, 11, 32, 33, 38, 39, 40]), (10, [1, 3, 6, 7, 9, 10, 11, 32, 33, 38, 39]), (9, [1, 3, 6, 7, 9, 10, 11, 32, 33]), (8, [1, 3, 6, 7, 9, 10, 32, 33]), (7, [1, 3, 6, 7, 9, 32, 33, 34]), (6, [1, 3, 6, 7, 9, 32, 33]), (5, [1, 2, 3, 6, 7, 9]), (4, [1, 2, 3, 6, 7]), (3, [6, 7]), (2, [1, 2, 3, 6, 7, 8, 25]), (1, [1, 2, 3, 6, 7, 8]), (0, [1, 2, 3, 6, 7])], [(8, [1, 3, 6, 7, 9, 10, 11, 16, 17, 32, 33, 74, 75, 78, 79, 80]), (6, [1, 3, 6, 7, 9, 10, 11, 32, 33, 74, 75]), (4, [1, 3, 6, 7, 9, 10, 11, 12, 13, 32, 33, 38, 39, 42, 43, 44]), (2, [1, 3, 6, 7, 9, 10, 11, 32, 33, 38, 39]), (0, [1, 3, 6, 7, 9, 32, 33])], [2, 6, 0], [6, 7, 11, 13, 15, 17, 19], [11, 15, 19], [(9000, [(0, 6), (1, 2)]), (19012, [(0, 6), (1, 2)]), (30007, [(0, 2)])], [], [(30, [17]), (19, [13]), (32, [11])], [], [], [(5, some 3)]⟩
def f_rock_Ahead : Abs.Fn := ⟨3, [.t 6, .c 7 false 1],
  (.seq (.reg [1, 2, 3, 6, 7] f10r0) (.seq (.seq (.reg [1, 2, 3, 6, 7, 8] f10r1) (.seq (.reg [1, 2, 3, 6, 7, 8, 25] f10r2) (.ite (.t 25) (.seq (.reg [6, 7] f10r3) .ret) .nop))) (.dfr (.c (.fn i_rock_caught [] [])) [(.t 7)] f_rock_Ahead_b40)))⟩

@[simp] theorem e10r0 : type_of% f10r0.eq_1 := by_rfl f10r0.eq_1
@[simp] theorem e10r1 : type_of% f10r1.eq_1 := by_rfl f10r1.eq_1
@[simp] theorem e10r2 : type_of% f10r2.eq_1 := by_rfl f10r2.eq_1
@[simp] theorem e10r3 : type_of% f10r3.eq_1 := by_rfl f10r3.eq_1
@[simp] theorem e10r4 : type_of% f10r4.eq_1 := by_rfl f10r4.eq_1
@[simp] theorem e10r5 : type_of% f10r5.eq_1 := by_rfl f10r5.eq_1
@[simp] theorem e10r6 : type_of% f10r6.eq_1 := by_rfl f10r6.eq_1
@[simp] theorem e10r7 : type_of% f10r7.eq_1 := by_rfl f10r7.eq_1
@[simp] theorem e10r8 : type_of% f10r8.eq_1 := by_rfl f10r8.eq_1
@[simp] theorem e10r9 : type_of% f10r9.eq_1 := by_rfl f10r9.eq_1
@[simp] theorem e10r10 : type_of% f10r10.eq_1 := by_rfl f10r10.eq_1
@[simp] theorem e10r11 : type_of% f10r11.eq_1 := by_rfl f10r11.eq_1
@[simp] theorem e10r12 : type_of% f10r12.eq_1 := by_rfl f10r12.eq_1
@[simp] theorem e10r13 : type_of% f10r13.eq_1 := by_rfl f10r13.eq_1
@[simp] theorem e10r14 : type_of% f10r14.eq_1 := by_rfl f10r14.eq_1
@[simp] theorem e10r15 : type_of% f10r15.eq_1 := by_rfl f10r15.eq_1
@[simp] theorem e10r16 : type_of% f10r16.eq_1 := by_rfl f10r16.eq_1
@[simp] theorem e10r17 : type_of% f10r17.eq_1 := by_rfl f10r17.eq_1
@[simp] theorem e10r18 : type_of% f10r18.eq_1 := by_rfl f10r18.eq_1
@[simp] theorem e10r20 : type_of% f10r20.eq_1 := by_rfl f10r20.eq_1
@[simp] theorem e10r21 : type_of% f10r21.eq_1 := by_rfl f10r21.eq_1
@[simp] theorem e10r23 : type_of% f10r23.eq_1 := by_rfl f10r23.eq_1
@[simp] theorem e10r24 : type_of% f10r24.eq_1 := by_rfl f10r24.eq_1
@[simp] theorem e10r25 : type_of% f10r25.eq_1 := by_rfl f10r25.eq_1
@[simp] theorem e10r26 : type_of% f10r26.eq_1 := by_rfl f10r26.eq_1
@[simp] theorem e10r27 : type_of% f10r27.eq_1 := by_rfl f10r27.eq_1
@[simp] theorem e10r28 : type_of% f10r28.eq_1 := by_rfl f10r28.eq_1
@[simp] theorem e10r29 : type_of% f10r29.eq_1 := by_rfl f10r29.eq_1
@[simp] theorem e10r30 : type_of% f10r30.eq_1 := by_rfl f10r30.eq_1
@[simp] theorem e10r31 : type_of% f10r31.eq_1 := by_rfl f10r31.eq_1
@[simp] theorem e10r33 : type_of% f10r33.eq_1 := by_rfl f10r33.eq_1
@[simp] theorem e10r34 : type_of% f10r34.eq_1 := by_rfl f10r34.eq_1
@[simp] theorem e10r36 : type_of% f10r36.eq_1 := by_rfl f10r36.eq_1
@[simp] theorem e10r37 : type_of% f10r37.eq_1 := by_rfl f10r37.eq_1
@[simp] theorem e10r39 : type_of% f10r39.eq_1 := by_rfl f10r39.eq_1
theorem e_rock_Ahead_l19 : type_of% f_rock_Ahead_l19.eq_1 := by_rfl f_rock_Ahead_l19.eq_1
theorem e_rock_Ahead_l22 : type_of% f_rock_Ahead_l22.eq_1 := by_rfl f_rock_Ahead_l22.eq_1
theorem e_rock_Ahead_l32 : type_of% f_rock_Ahead_l32.eq_1 := by_rfl f_rock_Ahead_l32.eq_1
theorem e_rock_Ahead_l35 : type_of% f_rock_Ahead_l35.eq_1 := by_rfl f_rock_Ahead_l35.eq_1
theorem e_rock_Ahead_l38 : type_of% f_rock_Ahead_l38.eq_1 := by_rfl f_rock_Ahead_l38.eq_1
theorem e_rock_Ahead_b40 : type_of% f_rock_Ahead_b40.eq_1 := by_rfl f_rock_Ahead_b40.eq_1
theorem e_rock_Ahead : type_of% f_rock_Ahead.eq_1 := by_rfl f_rock_Ahead.eq_1
theorem ok_rock_Ahead : fnC Tryz.prog a_rock_Ahead Tryz.f10 = some f_rock_Ahead := by kernel_rfl

/-! 11 fumarole/fumarolelaw05.Plan -/
def f11r0 : List Abs.Op := [
  ⟨some 2, none, false, .mv (.c .nils)⟩]

def f11r1 : List Abs.Op := [
  ⟨some 3, none, false, .nilb 1⟩]

def f11r2 : List Abs.Op := [
  ⟨some 4, none, false, .mv (.c (.int .i64 0))⟩]

def f11r3 : List Abs.Op := [
  ⟨some 5, none, false, .mv (.t 4)⟩,
  ⟨some 6, none, false, .mv (.t 0)⟩,
  ⟨some 7, none, false, .lenS (.t 6)⟩,
  ⟨some 8, none, false, .bin .lss (.t 5) (.t 7)⟩]

def f11r4 : List Abs.Op := [
  ⟨some 11, none, false, .mv (.t 3)⟩,
  ⟨some 12, none, false, .mv (.t 0)⟩,
  ⟨some 13, none, false, .mv (.t 4)⟩,
  ⟨some 14, none, false, .idxS 1 (.t 12) (.t 13)⟩,
  ⟨some 15, none, false, .ld false 1 (.t 14)⟩,
  ⟨some 16, none, false, .app 1 8 (.c .nils) (.t 15)⟩,
  ⟨some 17, none, false, .bsi 1 1 [.nils] [(0, 1, (.t 16))]⟩,
  ⟨some 18, none, false, .app 1 24 (.t 11) (.t 17)⟩,
  ⟨some 3, none, false, .mv (.t 18)⟩]

def f11r5 : List Abs.Op := [
  ⟨some 9, none, false, .mv (.t 4)⟩,
  ⟨some 10, none, false, .bin .add (.t 9) (.c (.int .i64 1))⟩,
  ⟨some 4, none, false, .mv (.t 10)⟩]

def f_law05_Plan_l6 : Abs.Cmd :=
  (.seq (.seq (.reg [0, 3, 4, 8] f11r3) (.ite (.t 8) .nop (.exit 0))) (.seq (.blk 1 (.reg [0, 3, 4] f11r4)) (.reg [0, 3, 4] f11r5)))

def f11r7 : List Abs.Op := [
  ⟨some 19, none, false, .mv (.t 3)⟩,
  ⟨some 2, none, false, .mv (.t 19)⟩]

def a_law05_Plan : Ann := ⟨[(6, [2]), (4, [0, 3, 4]), (5, [0, 3, 4]), (3, [0, 3, 4, 8]), (2, [0, 3, 4]), (1, [0, 3]), (0, [0])], [(0, [0, 3, 4])], [], [3, 16], [], [], [], [], [], [], []⟩
def f_law05_Plan : Abs.Fn := ⟨1, [.t 2],
  (.seq (.reg [0] f11r0) (.seq (.reg [0, 3] f11r1) (.seq (.seq (.reg [0, 3, 4] f11r2) (.blk 0 (.loop [0, 3, 4] false f_law05_Plan_l6))) (.seq (.reg [2] f11r7) .ret))))⟩

@[simp] theorem e11r0 : type_of% f11r0.eq_1 := by_rfl f11r0.eq_1
@[simp] theorem e11r1 : type_of% f11r1.eq_1 := by_rfl f11r1.eq_1
@[simp] theorem e11r2 : type_of% f11r2.eq_1 := by_rfl f11r2.eq_1
@[simp] theorem e11r3 : type_of% f11r3.eq_1 := by_rfl f11r3.eq_1
@[simp] theorem e11r4 : type_of% f11r4.eq_1 := by_rfl f11r4.eq_1
@[simp] theorem e11r5 : type_of% f11r5.eq_1 := by_rfl f11r5.eq_1
@[simp] theorem e11r7 : type_of% f11r7.eq_1 := by_rfl f11r7.eq_1
theorem e_law05_Plan_l6 : type_of% f_law05_Plan_l6.eq_1 := by_rfl f_law05_Plan_l6.eq_1
theorem e_law05_Plan : type_of% f_law05_Plan.eq_1 := by_rfl f_law05_Plan.eq_1
theorem ok_law05_Plan : fnC Tryz.prog a_law05_Plan Tryz.f11 = some f_law05_Plan := by kernel_rfl

/-! 12 fumarole/rock.Play -/
def f12r0 : List Abs.Op := [
  ⟨some 3, none, false, .boxi (.t 0)⟩,
  ⟨some 4, none, false, .boxi (.t 1)⟩,
  ⟨some 6, none, false, .alcv [] [.nils, .nils]⟩,
  ⟨some 7, none, false, .alc [] [(.int .i64 0)]⟩]

def f12r1 : List Abs.Op := [
  ⟨some 10, none, false, .ld true 9 (.t 3)⟩,
  ⟨some 11, none, false, .ld true 2 (.t 4)⟩,
  ⟨some 12, none, false, .call false (.c (.fn i_rock_bed [] [])) [(.t 10), (.t 11)]⟩,
  ⟨some 9, none, false, .mv (.t 12)⟩,
  ⟨some 13, none, false, .ext (.t 9) 0⟩,
  ⟨some 14, none, false, .ext (.t 9) 1⟩,
  ⟨some 8, none, false, .alcv [] [(.int .i64 0), (.int .i64 0), (.int .i64 0), (.int .i64 0), .nils, (.int .i64 0), (.int .i64 0), (.int .i64 0), .nils, (.str []), .nils]⟩,
  ⟨none, none, false, .stv 8 [] 11 8 (.t 13)⟩,
  ⟨none, none, false, .st [] 1 (.t 7) (.t 14)⟩]

def f12r2 : List Abs.Op := [
  ⟨some 15, none, false, .ld false 1 (.t 7)⟩,
  ⟨some 16, none, false, .bin .eql (.t 15) (.c (.int .i64 0))⟩]

def f12r3 : List Abs.Op := [
  ⟨some 17, none, false, .ld true 9 (.t 3)⟩,
  ⟨some 18, none, false, .mv (.t 2)⟩,
  ⟨some 19, none, false, .call false (.c (.fn i_rock_Bed_plan [] [])) [(.t 17), (.t 18)]⟩,
  ⟨none, none, false, .st [] 1 (.t 7) (.t 19)⟩]

def f12r4 : List Abs.Op := [
  ⟨some 20, none, false, .ld false 1 (.t 7)⟩,
  ⟨some 21, none, false, .bin .neq (.t 20) (.c (.int .i64 0))⟩]

def f12r5 : List Abs.Op := [
  ⟨some 22, none, true, .bld [.nils, .nils] []⟩,
  ⟨some 23, none, true, .ld false 1 (.t 7)⟩,
  ⟨none, none, true, .stv 6 [] 2 6 (.t 22)⟩,
  ⟨none, none, false, .st [] 1 (.t 7) (.t 23)⟩]

def f12r6 : List Abs.Op := [
  ⟨some 24, none, false, .ldv 8 true 11 8⟩,
  ⟨some 25, none, false, .mv (.t 2)⟩]

def f12r7 : List Abs.Op := [
  ⟨none, none, false, .stv 6 [] 2 6 (.t 26)⟩,
  ⟨none, none, false, .st [] 1 (.t 7) (.c (.int .i64 0))⟩]

def f_rock_Play_b8 : Abs.Cmd :=
  (.seq (.treg [6, 7] f12r6 ⟨some 26, none, false, .call false (.c (.fn i_rock_bedded_run [] [])) [(.t 24), (.t 25)]⟩ f12r7) .ret)

def a_rock_Play : Ann := ⟨[(7, [6, 7]), (6, [2, 6, 7, 8]), (5, [6, 7]), (4, [2, 6, 7, 8, 21]), (3, [2, 6, 7, 8]), (2, [2, 3, 6, 7, 8, 16]), (1, [2, 3, 6, 7, 8]), (0, [2, 3, 4, 6, 7])], [], [], [6, 7, 8], [6, 8], [], [], [(0, [0])], [], [], [(7, some 2)]⟩
def f_rock_Play : Abs.Fn := ⟨3, [.v 6 true 2, .c 7 false 1],
  (.seq (.seq (.frz [0]) (.reg [2, 3, 4, 6, 7] f12r0)) (.seq (.reg [2, 3, 6, 7, 8] f12r1) (.seq (.seq (.reg [2, 3, 6, 7, 8, 16] f12r2) (.ite (.t 16) (.reg [2, 6, 7, 8] f12r3) .nop)) (.seq (.seq (.reg [2, 6, 7, 8, 21] f12r4) (.ite (.t 21) (.seq (.reg [6, 7] f12r5) .ret) .nop)) (.dfr (.c (.fn i_rock_caught [] [])) [(.t 7)] f_rock_Play_b8)))))⟩

@[simp] theorem e12r0 : type_of% f12r0.eq_1 := by_rfl f12r0.eq_1
@[simp] theorem e12r1 : type_of% f12r1.eq_1 := by_rfl f12r1.eq_1
@[simp] theorem e12r2 : type_of% f12r2.eq_1 := by_rfl f12r2.eq_1
@[simp] theorem e12r3 : type_of% f12r3.eq_1 := by_rfl f12r3.eq_1
@[simp] theorem e12r4 : type_of% f12r4.eq_1 := by_rfl f12r4.eq_1
@[simp] theorem e12r5 : type_of% f12r5.eq_1 := by_rfl f12r5.eq_1
@[simp] theorem e12r6 : type_of% f12r6.eq_1 := by_rfl f12r6.eq_1
@[simp] theorem e12r7 : type_of% f12r7.eq_1 := by_rfl f12r7.eq_1
theorem e_rock_Play_b8 : type_of% f_rock_Play_b8.eq_1 := by_rfl f_rock_Play_b8.eq_1
theorem e_rock_Play : type_of% f_rock_Play.eq_1 := by_rfl f_rock_Play.eq_1
theorem ok_rock_Play : fnC Tryz.prog a_rock_Play Tryz.f12 = some f_rock_Play := by kernel_rfl

/-! 13 fumarole/steam.Bounds -/
def f13r0 : List Abs.Op := [
  ⟨some 8, none, false, .boxi (.t 3)⟩,
  ⟨some 9, none, false, .boxi (.t 4)⟩,
  ⟨some 10, none, false, .alcv [] [(.int .i64 0), (.int .i64 0)]⟩,
  ⟨some 11, none, false, .alcv [] [(.int .i64 0), (.int .i64 0)]⟩,
  ⟨some 12, none, false, .mv (.c (.int .i64 0))⟩]

def f13r1 : List Abs.Op := [
  ⟨some 16, none, false, .mv (.t 0)⟩,
  ⟨some 17, none, false, .call false (.c (.fn i_steam_Table_valid [] [])) [(.t 16)]⟩,
  ⟨some 18, none, false, .un .not (.t 17)⟩,
  ⟨some 15, none, false, .mv (.t 18)⟩]

def f13r2 : List Abs.Op := [
  ⟨some 19, none, true, .ldv 10 true 2 10⟩,
  ⟨some 20, none, true, .ldv 11 true 2 11⟩,
  ⟨none, none, true, .stv 10 [] 2 10 (.t 19)⟩,
  ⟨none, none, false, .stv 11 [] 2 11 (.t 20)⟩,
  ⟨some 12, none, false, .mv (.c (.int .i64 1))⟩]

def f13r3 : List Abs.Op := [
  ⟨some 22, none, false, .mv (.t 0)⟩,
  ⟨some 23, none, false, .mv (.t 1)⟩,
  ⟨some 24, none, false, .call false (.c (.fn i_steam_Table_has [] [])) [(.t 22), (.t 23)]⟩,
  ⟨some 25, none, false, .un .not (.t 24)⟩,
  ⟨some 21, none, false, .mv (.t 25)⟩]

def f13r4 : List Abs.Op := [
  ⟨some 26, none, true, .ldv 10 true 2 10⟩,
  ⟨some 27, none, true, .ldv 11 true 2 11⟩,
  ⟨none, none, true, .stv 10 [] 2 10 (.t 26)⟩,
  ⟨none, none, false, .stv 11 [] 2 11 (.t 27)⟩,
  ⟨some 12, none, false, .mv (.c (.int .i64 2))⟩]

def f13r5 : List Abs.Op := [
  ⟨some 29, none, false, .mv (.t 2)⟩,
  ⟨some 30, none, false, .call false (.c (.fn i_steam_within [] [])) [(.t 29), (.c (.int .i64 0)), (.c (.int .i64 1000000))]⟩,
  ⟨some 31, none, false, .un .not (.t 30)⟩,
  ⟨some 32, none, false, .mv (.t 31)⟩,
  ⟨some 33, some (32, false), false, .ld true 2 (.t 8)⟩,
  ⟨some 34, some (32, false), false, .mv (.t 2)⟩,
  ⟨some 35, some (32, false), false, .bin .mul (.c (.int .i64 4000)) (.t 34)⟩,
  ⟨some 36, some (32, false), false, .call false (.c (.fn i_steam_Range_ends [] [])) [(.t 33), (.t 35)]⟩,
  ⟨some 37, some (32, false), false, .un .not (.t 36)⟩,
  ⟨some 38, none, false, .pick (.t 32) (.c (.bool true)) (.t 37)⟩,
  ⟨some 39, none, false, .mv (.t 38)⟩,
  ⟨some 40, some (39, false), false, .ld true 2 (.t 9)⟩,
  ⟨some 41, some (39, false), false, .mv (.t 2)⟩,
  ⟨some 42, some (39, false), false, .bin .mul (.c (.int .i64 10000)) (.t 41)⟩,
  ⟨some 43, some (39, false), false, .call false (.c (.fn i_steam_Range_ends [] [])) [(.t 40), (.t 42)]⟩,
  ⟨some 44, some (39, false), false, .un .not (.t 43)⟩,
  ⟨some 45, none, false, .pick (.t 39) (.c (.bool true)) (.t 44)⟩,
  ⟨some 28, none, false, .mv (.t 45)⟩]

def f13r6 : List Abs.Op := [
  ⟨some 46, none, true, .ldv 10 true 2 10⟩,
  ⟨some 47, none, true, .ldv 11 true 2 11⟩,
  ⟨none, none, true, .stv 10 [] 2 10 (.t 46)⟩,
  ⟨none, none, false, .stv 11 [] 2 11 (.t 47)⟩,
  ⟨some 12, none, false, .mv (.c (.int .i64 1))⟩]

def f13r7 : List Abs.Op := [
  ⟨some 48, none, true, .mv (.t 0)⟩,
  ⟨some 49, none, true, .mv (.t 1)⟩,
  ⟨some 50, none, true, .call false (.c (.fn i_steam_Table_at [] [])) [(.t 48), (.t 49)]⟩,
  ⟨some 51, none, true, .mv (.t 2)⟩,
  ⟨some 52, none, true, .fadr 0 (.t 8)⟩,
  ⟨some 53, none, true, .ld false 1 (.t 52)⟩,
  ⟨some 54, none, true, .fadr 0 (.t 9)⟩,
  ⟨some 55, none, true, .ld false 1 (.t 54)⟩,
  ⟨some 56, none, true, .bld [(.int .i64 0), (.int .i64 0), (.int .i64 0), (.int .i64 0)] [(0, 1, (.t 51)), (1, 1, (.t 53)), (2, 1, (.t 55))]⟩,
  ⟨some 57, none, true, .call false (.c (.fn i_steam_flash_of [] [])) [(.t 50), (.t 56)]⟩,
  ⟨some 13, none, true, .alcv [] [(.int .i64 0), (.int .i64 0), (.int .i64 0), (.int .i64 0), (.int .i64 0), (.int .i64 0), (.int .i64 0), (.int .i64 0), (.int .i64 0), (.int .i64 0)]⟩,
  ⟨none, none, false, .stv 13 [] 10 13 (.t 57)⟩]

def f13r8 : List Abs.Op := [
  ⟨some 58, none, true, .mv (.t 0)⟩,
  ⟨some 59, none, true, .mv (.t 1)⟩,
  ⟨some 60, none, true, .call false (.c (.fn i_steam_Table_at [] [])) [(.t 58), (.t 59)]⟩,
  ⟨some 61, none, true, .mv (.t 2)⟩,
  ⟨some 62, none, true, .fadr 1 (.t 8)⟩,
  ⟨some 63, none, true, .ld false 1 (.t 62)⟩,
  ⟨some 64, none, true, .fadr 1 (.t 9)⟩,
  ⟨some 65, none, true, .ld false 1 (.t 64)⟩,
  ⟨some 66, none, true, .bld [(.int .i64 0), (.int .i64 0), (.int .i64 0), (.int .i64 0)] [(0, 1, (.t 61)), (1, 1, (.t 63)), (2, 1, (.t 65))]⟩,
  ⟨some 67, none, true, .call false (.c (.fn i_steam_flash_of [] [])) [(.t 60), (.t 66)]⟩,
  ⟨some 14, none, true, .alcv [] [(.int .i64 0), (.int .i64 0), (.int .i64 0), (.int .i64 0), (.int .i64 0), (.int .i64 0), (.int .i64 0), (.int .i64 0), (.int .i64 0), (.int .i64 0)]⟩,
  ⟨none, none, false, .stv 14 [] 10 14 (.t 67)⟩]

def f13r9 : List Abs.Op := [
  ⟨some 68, none, true, .fadr 0 (.t 13)⟩,
  ⟨some 69, none, true, .fadr 0 (.t 68)⟩,
  ⟨some 70, none, true, .ldv 13 false 1 69⟩,
  ⟨some 71, none, true, .fadr 0 (.t 14)⟩,
  ⟨some 72, none, true, .fadr 0 (.t 71)⟩,
  ⟨some 73, none, true, .ldv 14 false 1 72⟩,
  ⟨some 74, none, true, .bld [(.int .i64 0), (.int .i64 0)] [(0, 1, (.t 70)), (1, 1, (.t 73))]⟩,
  ⟨some 75, none, true, .fadr 9 (.t 13)⟩,
  ⟨some 76, none, true, .ldv 13 false 1 75⟩,
  ⟨some 77, none, true, .fadr 9 (.t 14)⟩,
  ⟨some 78, none, true, .ldv 14 false 1 77⟩,
  ⟨some 79, none, true, .bld [(.int .i64 0), (.int .i64 0)] [(0, 1, (.t 76)), (1, 1, (.t 78))]⟩,
  ⟨none, none, true, .stv 10 [] 2 10 (.t 74)⟩,
  ⟨none, none, false, .stv 11 [] 2 11 (.t 79)⟩,
  ⟨some 12, none, false, .mv (.c (.int .i64 0))⟩]

def a_steam_Bounds : Ann := ⟨[(9, [10, 11, 12]), (8, [10, 11, 13, 14]), (7, [0, 1, 2, 8, 9, 10, 11, 13]), (2, [10, 11, 12]), (4, [10, 11, 12]), (6, [10, 11, 12]), (5, [0, 1, 2, 8, 9, 10, 11, 28]), (3, [0, 1, 2, 8, 9, 10, 11, 21]), (1, [0, 1, 2, 8, 9, 10, 11, 15]), (0, [0, 1, 2, 8, 9, 10, 11])], [], [], [10, 11, 13, 14], [10, 11, 13, 14], [], [], [], [], [], []⟩
def f_steam_Bounds : Abs.Fn := ⟨5, [.v 10 true 2, .v 11 true 2, .t 12],
  (.seq (.reg [0, 1, 2, 8, 9, 10, 11] f13r0) (.seq (.blk 0 (.seq (.reg [0, 1, 2, 8, 9, 10, 11, 15] f13r1) (.ite (.t 15) (.seq (.reg [10, 11, 12] f13r2) .ret) (.seq (.reg [0, 1, 2, 8, 9, 10, 11, 21] f13r3) (.ite (.t 21) (.seq (.reg [10, 11, 12] f13r4) .ret) (.seq (.reg [0, 1, 2, 8, 9, 10, 11, 28] f13r5) (.ite (.t 28) (.seq (.reg [10, 11, 12] f13r6) .ret) .nop))))))) (.seq (.reg [0, 1, 2, 8, 9, 10, 11, 13] f13r7) (.seq (.reg [10, 11, 13, 14] f13r8) (.seq (.reg [10, 11, 12] f13r9) .ret)))))⟩

@[simp] theorem e13r0 : type_of% f13r0.eq_1 := by_rfl f13r0.eq_1
@[simp] theorem e13r1 : type_of% f13r1.eq_1 := by_rfl f13r1.eq_1
@[simp] theorem e13r2 : type_of% f13r2.eq_1 := by_rfl f13r2.eq_1
@[simp] theorem e13r3 : type_of% f13r3.eq_1 := by_rfl f13r3.eq_1
@[simp] theorem e13r4 : type_of% f13r4.eq_1 := by_rfl f13r4.eq_1
@[simp] theorem e13r5 : type_of% f13r5.eq_1 := by_rfl f13r5.eq_1
@[simp] theorem e13r6 : type_of% f13r6.eq_1 := by_rfl f13r6.eq_1
@[simp] theorem e13r7 : type_of% f13r7.eq_1 := by_rfl f13r7.eq_1
@[simp] theorem e13r8 : type_of% f13r8.eq_1 := by_rfl f13r8.eq_1
@[simp] theorem e13r9 : type_of% f13r9.eq_1 := by_rfl f13r9.eq_1
theorem e_steam_Bounds : type_of% f_steam_Bounds.eq_1 := by_rfl f_steam_Bounds.eq_1
theorem ok_steam_Bounds : fnC Tryz.prog a_steam_Bounds Tryz.f13 = some f_steam_Bounds := by kernel_rfl

/-! 14 fumarole/steam.Flash -/
def f14r0 : List Abs.Op := [
  ⟨some 5, none, false, .boxi (.t 2)⟩,
  ⟨some 6, none, false, .alcv [] [(.int .i64 0), (.int .i64 0), (.int .i64 0), (.int .i64 0), (.int .i64 0), (.int .i64 0), (.int .i64 0), (.int .i64 0), (.int .i64 0), (.int .i64 0)]⟩,
  ⟨some 7, none, false, .mv (.c (.int .i64 0))⟩]

def f14r1 : List Abs.Op := [
  ⟨some 9, none, false, .mv (.t 0)⟩,
  ⟨some 10, none, false, .call false (.c (.fn i_steam_Table_valid [] [])) [(.t 9)]⟩,
  ⟨some 11, none, false, .un .not (.t 10)⟩,
  ⟨some 8, none, false, .mv (.t 11)⟩]

def f14r2 : List Abs.Op := [
  ⟨some 12, none, false, .bld [(.int .i64 0), (.int .i64 0), (.int .i64 0), (.int .i64 0), (.int .i64 0), (.int .i64 0), (.int .i64 0), (.int .i64 0), (.int .i64 0), (.int .i64 0)] []⟩,
  ⟨none, none, false, .stv 6 [] 10 6 (.t 12)⟩,
  ⟨some 7, none, false, .mv (.c (.int .i64 1))⟩]

def f14r3 : List Abs.Op := [
  ⟨some 14, none, false, .mv (.t 0)⟩,
  ⟨some 15, none, false, .mv (.t 1)⟩,
  ⟨some 16, none, false, .call false (.c (.fn i_steam_Table_has [] [])) [(.t 14), (.t 15)]⟩,
  ⟨some 17, none, false, .un .not (.t 16)⟩,
  ⟨some 13, none, false, .mv (.t 17)⟩]

def f14r4 : List Abs.Op := [
  ⟨some 18, none, false, .bld [(.int .i64 0), (.int .i64 0), (.int .i64 0), (.int .i64 0), (.int .i64 0), (.int .i64 0), (.int .i64 0), (.int .i64 0), (.int .i64 0), (.int .i64 0)] []⟩,
  ⟨none, none, false, .stv 6 [] 10 6 (.t 18)⟩,
  ⟨some 7, none, false, .mv (.c (.int .i64 2))⟩]

def f14r5 : List Abs.Op := [
  ⟨some 20, none, false, .ld true 4 (.t 5)⟩,
  ⟨some 21, none, false, .call false (.c (.fn i_steam_Stream_valid [] [])) [(.t 20)]⟩,
  ⟨some 22, none, false, .un .not (.t 21)⟩,
  ⟨some 19, none, false, .mv (.t 22)⟩]

def f14r6 : List Abs.Op := [
  ⟨some 23, none, false, .bld [(.int .i64 0), (.int .i64 0), (.int .i64 0), (.int .i64 0), (.int .i64 0), (.int .i64 0), (.int .i64 0), (.int .i64 0), (.int .i64 0), (.int .i64 0)] []⟩,
  ⟨none, none, false, .stv 6 [] 10 6 (.t 23)⟩,
  ⟨some 7, none, false, .mv (.c (.int .i64 1))⟩]

def f14r7 : List Abs.Op := [
  ⟨some 24, none, true, .mv (.t 0)⟩,
  ⟨some 25, none, true, .mv (.t 1)⟩,
  ⟨some 26, none, true, .call false (.c (.fn i_steam_Table_at [] [])) [(.t 24), (.t 25)]⟩,
  ⟨some 27, none, true, .ld true 4 (.t 5)⟩,
  ⟨some 28, none, false, .call false (.c (.fn i_steam_flash_of [] [])) [(.t 26), (.t 27)]⟩,
  ⟨none, none, false, .stv 6 [] 10 6 (.t 28)⟩,
  ⟨some 7, none, false, .mv (.c (.int .i64 0))⟩]

def a_steam_Flash : Ann := ⟨[(7, [6, 7]), (2, [6, 7]), (4, [6, 7]), (6, [6, 7]), (5, [0, 1, 5, 6, 19]), (3, [0, 1, 5, 6, 13]), (1, [0, 1, 5, 6, 8]), (0, [0, 1, 5, 6])], [], [], [6], [6], [], [], [], [], [], []⟩
def f_steam_Flash : Abs.Fn := ⟨3, [.v 6 true 10, .t 7],
  (.seq (.reg [0, 1, 5, 6] f14r0) (.seq (.blk 0 (.seq (.reg [0, 1, 5, 6, 8] f14r1) (.ite (.t 8) (.seq (.reg [6, 7] f14r2) .ret) (.seq (.reg [0, 1, 5, 6, 13] f14r3) (.ite (.t 13) (.seq (.reg [6, 7] f14r4) .ret) (.seq (.reg [0, 1, 5, 6, 19] f14r5) (.ite (.t 19) (.seq (.reg [6, 7] f14r6) .ret) .nop))))))) (.seq (.reg [6, 7] f14r7) .ret)))⟩

@[simp] theorem e14r0 : type_of% f14r0.eq_1 := by_rfl f14r0.eq_1
@[simp] theorem e14r1 : type_of% f14r1.eq_1 := by_rfl f14r1.eq_1
@[simp] theorem e14r2 : type_of% f14r2.eq_1 := by_rfl f14r2.eq_1
@[simp] theorem e14r3 : type_of% f14r3.eq_1 := by_rfl f14r3.eq_1
@[simp] theorem e14r4 : type_of% f14r4.eq_1 := by_rfl f14r4.eq_1
@[simp] theorem e14r5 : type_of% f14r5.eq_1 := by_rfl f14r5.eq_1
@[simp] theorem e14r6 : type_of% f14r6.eq_1 := by_rfl f14r6.eq_1
@[simp] theorem e14r7 : type_of% f14r7.eq_1 := by_rfl f14r7.eq_1
theorem e_steam_Flash : type_of% f_steam_Flash.eq_1 := by_rfl f_steam_Flash.eq_1
theorem ok_steam_Flash : fnC Tryz.prog a_steam_Flash Tryz.f14 = some f_steam_Flash := by kernel_rfl

/-! 17 fumarole/fumarolelaw02.Field -/
def f17r0 : List Abs.Op := [
  ⟨some 1, none, false, .boxi (.t 0)⟩,
  ⟨some 2, none, false, .alcv [] [(.int .i64 0), (.int .i64 0), (.int .i64 0), (.int .i64 0)]⟩]

def f17r1 : List Abs.Op := [
  ⟨some 3, none, false, .fadr 0 (.t 1)⟩,
  ⟨some 4, none, false, .ld false 1 (.t 3)⟩,
  ⟨some 5, none, false, .fadr 1 (.t 1)⟩,
  ⟨some 6, none, false, .ld false 1 (.t 5)⟩,
  ⟨some 7, none, false, .fadr 2 (.t 1)⟩,
  ⟨some 8, none, false, .ld false 1 (.t 7)⟩,
  ⟨some 9, none, false, .fadr 3 (.t 1)⟩,
  ⟨some 10, none, false, .ld false 1 (.t 9)⟩,
  ⟨some 11, none, false, .bld [(.int .i64 0), (.int .i64 0), (.int .i64 0), (.int .i64 0)] [(0, 1, (.t 4)), (1, 1, (.t 6)), (2, 1, (.t 8)), (3, 1, (.t 10))]⟩,
  ⟨none, none, false, .stv 2 [] 4 2 (.t 11)⟩]

def a_law02_Field : Ann := ⟨[(1, [2]), (0, [1, 2])], [], [], [2], [2], [], [], [], [], [], []⟩
def f_law02_Field : Abs.Fn := ⟨1, [.v 2 true 4],
  (.seq (.reg [1, 2] f17r0) (.seq (.reg [2] f17r1) .ret))⟩

@[simp] theorem e17r0 : type_of% f17r0.eq_1 := by_rfl f17r0.eq_1
@[simp] theorem e17r1 : type_of% f17r1.eq_1 := by_rfl f17r1.eq_1
theorem e_law02_Field : type_of% f_law02_Field.eq_1 := by_rfl f_law02_Field.eq_1
theorem ok_law02_Field : fnC Tryz.prog a_law02_Field Tryz.f17 = some f_law02_Field := by kernel_rfl

/-! 29 fumarole/fumarolelaw02.Model -/
def f29r0 : List Abs.Op := [
  ⟨some 1, none, false, .boxi (.t 0)⟩,
  ⟨some 2, none, false, .alcv [] [(.str []), .nils]⟩]

def f29r1 : List Abs.Op := [
  ⟨some 3, none, true, .fadr 0 (.t 1)⟩,
  ⟨some 4, none, true, .ldi false 1 (.t 3)⟩,
  ⟨some 5, none, true, .bsm 0 1 [] []⟩,
  ⟨some 6, none, true, .fadr 1 (.t 1)⟩,
  ⟨some 7, none, true, .ldi false 1 (.t 6)⟩,
  ⟨some 8, none, false, .apz 1 8 (.t 5) (.t 7)⟩,
  ⟨some 9, none, false, .bld [(.str []), .nils] [(0, 1, (.t 4)), (1, 1, (.t 8))]⟩,
  ⟨none, none, false, .stv 2 [] 2 2 (.t 9)⟩]

def a_law02_Model : Ann := ⟨[(1, [2]), (0, [1, 2])], [], [], [2, 5], [2], [], [1005], [], [1], [], []⟩
def f_law02_Model : Abs.Fn := ⟨1, [.v 2 true 2],
  (.seq (.reg [1, 2] f29r0) (.seq (.reg [2] f29r1) .ret))⟩

@[simp] theorem e29r0 : type_of% f29r0.eq_1 := by_rfl f29r0.eq_1
@[simp] theorem e29r1 : type_of% f29r1.eq_1 := by_rfl f29r1.eq_1
theorem e_law02_Model : type_of% f_law02_Model.eq_1 := by_rfl f_law02_Model.eq_1
theorem ok_law02_Model : fnC Tryz.prog a_law02_Model Tryz.f29 = some f_law02_Model := by kernel_rfl

/-! 30 fumarole/fumaroleref05.Right -/
def f30r0 : List Abs.Op := [
  ⟨some 1, none, false, .boxi (.t 0)⟩,
  ⟨some 2, none, false, .mv (.c (.bool false))⟩]

def f30r1 : List Abs.Op := [
  ⟨some 6, none, false, .fadr 0 (.t 1)⟩,
  ⟨some 7, none, false, .ld true 4 (.t 6)⟩,
  ⟨some 8, none, false, .call false (.c (.fn i_ref02_Right [] [])) [(.t 7)]⟩,
  ⟨some 9, none, false, .un .not (.t 8)⟩,
  ⟨some 10, none, false, .mv (.t 9)⟩,
  ⟨some 11, some (10, false), false, .fadr 0 (.t 1)⟩,
  ⟨some 12, some (10, false), false, .fadr 3 (.t 11)⟩,
  ⟨some 13, some (10, false), false, .ld false 1 (.t 12)⟩,
  ⟨some 14, some (10, false), false, .bin .lss (.t 13) (.c (.int .i64 4))⟩,
  ⟨some 15, none, false, .pick (.t 10) (.c (.bool true)) (.t 14)⟩,
  ⟨some 16, none, false, .mv (.t 15)⟩,
  ⟨some 17, some (16, false), false, .fadr 4 (.t 1)⟩,
  ⟨some 18, some (16, false), false, .ld false 1 (.t 17)⟩,
  ⟨some 19, some (16, false), false, .call false (.c (.fn i_ref01_Right [] [])) [(.t 18)]⟩,
  ⟨some 20, some (16, false), false, .un .not (.t 19)⟩,
  ⟨some 21, none, false, .pick (.t 16) (.c (.bool true)) (.t 20)⟩,
  ⟨some 22, none, false, .mv (.t 21)⟩,
  ⟨some 23, some (22, false), false, .fadr 5 (.t 1)⟩,
  ⟨some 24, some (22, false), false, .ld false 1 (.t 23)⟩,
  ⟨some 25, some (22, false), false, .call false (.c (.fn i_ref01_In [] [])) [(.t 24), (.c (.int .i64 1)), (.c (.int .i64 100000))]⟩,
  ⟨some 26, some (22, false), false, .un .not (.t 25)⟩,
  ⟨some 27, none, false, .pick (.t 22) (.c (.bool true)) (.t 26)⟩,
  ⟨some 28, none, false, .mv (.t 27)⟩,
  ⟨some 29, some (28, false), false, .fadr 6 (.t 1)⟩,
  ⟨some 30, some (28, false), false, .ld false 1 (.t 29)⟩,
  ⟨some 31, some (28, false), false, .call false (.c (.fn i_ref01_In [] [])) [(.t 30), (.c (.int .i64 0)), (.c (.int .i64 1000))]⟩,
  ⟨some 32, some (28, false), false, .un .not (.t 31)⟩,
  ⟨some 33, none, false, .pick (.t 28) (.c (.bool true)) (.t 32)⟩,
  ⟨some 34, none, false, .mv (.t 33)⟩,
  ⟨some 35, some (34, false), false, .fadr 7 (.t 1)⟩,
  ⟨some 36, some (34, false), false, .ld false 1 (.t 35)⟩,
  ⟨some 37, some (34, false), false, .call false (.c (.fn i_ref01_In [] [])) [(.t 36), (.c (.int .i64 0)), (.c (.int .i64 3000))]⟩,
  ⟨some 38, some (34, false), false, .un .not (.t 37)⟩,
  ⟨some 39, none, false, .pick (.t 34) (.c (.bool true)) (.t 38)⟩,
  ⟨some 40, none, false, .mv (.t 39)⟩,
  ⟨some 41, some (40, false), false, .fadr 8 (.t 1)⟩,
  ⟨some 42, some (40, false), false, .ld false 1 (.t 41)⟩,
  ⟨some 43, some (40, false), false, .lenS (.t 42)⟩,
  ⟨some 44, some (40, false), false, .bin .gtr (.t 43) (.c (.int .i64 8))⟩,
  ⟨some 45, none, false, .pick (.t 40) (.c (.bool true)) (.t 44)⟩]

def f30r2 : List Abs.Op := [
  ⟨some 2, none, false, .mv (.c (.bool false))⟩]

def f30r3 : List Abs.Op := [
  ⟨some 3, none, false, .mv (.c (.int .i64 0))⟩]

def f30r4 : List Abs.Op := [
  ⟨some 46, none, false, .mv (.t 3)⟩,
  ⟨some 47, none, false, .fadr 8 (.t 1)⟩,
  ⟨some 48, none, false, .ld false 1 (.t 47)⟩,
  ⟨some 49, none, false, .lenS (.t 48)⟩,
  ⟨some 50, none, false, .bin .lss (.t 46) (.t 49)⟩]

def f30r5 : List Abs.Op := [
  ⟨some 53, none, false, .fadr 8 (.t 1)⟩,
  ⟨some 54, none, false, .ld false 1 (.t 53)⟩,
  ⟨some 55, none, false, .mv (.t 3)⟩,
  ⟨some 56, none, false, .idxS 3 (.t 54) (.t 55)⟩,
  ⟨some 57, none, false, .ld true 3 (.t 56)⟩,
  ⟨some 4, none, false, .alcv [] [(.int .i64 0), (.int .i64 0), (.int .i64 0)]⟩,
  ⟨none, none, false, .stv 4 [] 3 4 (.t 57)⟩]

def f30r6 : List Abs.Op := [
  ⟨some 58, none, true, .fadr 0 (.t 4)⟩,
  ⟨some 59, none, true, .ldv 4 false 1 58⟩,
  ⟨some 60, none, true, .fadr 0 (.t 1)⟩,
  ⟨some 61, none, true, .ld true 4 (.t 60)⟩,
  ⟨some 62, none, true, .call false (.c (.fn i_ref02_Size [] [])) [(.t 61)]⟩,
  ⟨some 63, none, true, .bin .sub (.t 62) (.c (.int .i64 1))⟩,
  ⟨some 64, none, false, .call false (.c (.fn i_ref01_In [] [])) [(.t 59), (.c (.int .i64 0)), (.t 63)]⟩,
  ⟨some 65, none, false, .un .not (.t 64)⟩,
  ⟨some 66, none, false, .mv (.t 65)⟩,
  ⟨some 67, some (66, false), false, .fadr 1 (.t 4)⟩,
  ⟨some 68, some (66, false), false, .ldv 4 false 1 67⟩,
  ⟨some 69, some (66, false), false, .call false (.c (.fn i_ref01_In [] [])) [(.t 68), (.c (.int .i64 0)), (.c (.int .i64 3000))]⟩,
  ⟨some 70, some (66, false), false, .un .not (.t 69)⟩,
  ⟨some 71, none, false, .pick (.t 66) (.c (.bool true)) (.t 70)⟩,
  ⟨some 72, none, false, .mv (.t 71)⟩,
  ⟨some 73, some (72, false), false, .fadr 2 (.t 4)⟩,
  ⟨some 74, some (72, false), false, .ldv 4 false 1 73⟩,
  ⟨some 75, some (72, false), false, .call false (.c (.fn i_ref01_In [] [])) [(.t 74), (.c (.int .i64 0)), (.c (.int .i64 1000000))]⟩,
  ⟨some 76, some (72, false), false, .un .not (.t 75)⟩,
  ⟨some 77, none, false, .pick (.t 72) (.c (.bool true)) (.t 76)⟩]

def f30r7 : List Abs.Op := [
  ⟨some 2, none, false, .mv (.c (.bool false))⟩]

def f30r8 : List Abs.Op := [
  ⟨some 5, none, false, .mv (.c (.int .i64 0))⟩]

def f30r9 : List Abs.Op := [
  ⟨some 78, none, false, .mv (.t 5)⟩,
  ⟨some 79, none, false, .mv (.t 3)⟩,
  ⟨some 80, none, false, .bin .lss (.t 78) (.t 79)⟩]

def f30r10 : List Abs.Op := [
  ⟨some 83, none, true, .fadr 8 (.t 1)⟩,
  ⟨some 84, none, true, .ld false 1 (.t 83)⟩,
  ⟨some 85, none, true, .mv (.t 5)⟩,
  ⟨some 86, none, true, .idxS 3 (.t 84) (.t 85)⟩,
  ⟨some 87, none, true, .fadr 0 (.t 86)⟩,
  ⟨some 88, none, true, .ld false 1 (.t 87)⟩,
  ⟨some 89, none, true, .fadr 0 (.t 4)⟩,
  ⟨some 90, none, true, .ldv 4 false 1 89⟩,
  ⟨some 91, none, false, .bin .eql (.t 88) (.t 90)⟩]

def f30r11 : List Abs.Op := [
  ⟨some 2, none, false, .mv (.c (.bool false))⟩]

def f30r12 : List Abs.Op := [
  ⟨some 81, none, false, .mv (.t 5)⟩,
  ⟨some 82, none, false, .bin .add (.t 81) (.c (.int .i64 1))⟩,
  ⟨some 5, none, false, .mv (.t 82)⟩]

def f_ref05_Right_l13 : Abs.Cmd :=
  (.seq (.seq (.reg [1, 3, 4, 5, 80] f30r9) (.ite (.t 80) .nop (.exit 2))) (.seq (.blk 3 (.seq (.reg [1, 3, 4, 5, 91] f30r10) (.ite (.t 91) (.seq (.reg [2] f30r11) .ret) .nop))) (.reg [1, 3, 4, 5] f30r12)))

def f30r14 : List Abs.Op := [
  ⟨some 51, none, false, .mv (.t 3)⟩,
  ⟨some 52, none, false, .bin .add (.t 51) (.c (.int .i64 1))⟩,
  ⟨some 3, none, false, .mv (.t 52)⟩]

def f_ref05_Right_l15 : Abs.Cmd :=
  (.seq (.seq (.reg [1, 3, 50] f30r4) (.ite (.t 50) .nop (.exit 0))) (.seq (.blk 1 (.seq (.reg [1, 3, 4] f30r5) (.seq (.seq (.reg [1, 3, 4, 77] f30r6) (.ite (.t 77) (.seq (.reg [2] f30r7) .ret) .nop)) (.seq (.reg [1, 3, 4, 5] f30r8) (.blk 2 (.loop [1, 3, 4, 5] false f_ref05_Right_l13)))))) (.reg [1, 3] f30r14)))

def f30r16 : List Abs.Op := [
  ⟨some 2, none, false, .mv (.c (.bool true))⟩]

def a_ref05_Right : Ann := ⟨[(14, [2]), (5, [1, 3]), (11, [1, 3, 4, 5]), (13, [2]), (12, [1, 3, 4, 5, 91]), (10, [1, 3, 4, 5, 80]), (9, [1, 3, 4, 5]), (8, [2]), (7, [1, 3, 4, 77]), (6, [1, 3, 4]), (4, [1, 3, 50]), (3, [1, 3]), (2, [2]), (1, [1, 45]), (0, [1])], [(2, [1, 3, 4, 5]), (0, [1, 3])], [], [4], [4], [], [], [], [], [], []⟩
def f_ref05_Right : Abs.Fn := ⟨1, [.t 2],
  (.seq (.reg [1] f30r0) (.seq (.seq (.reg [1, 45] f30r1) (.ite (.t 45) (.seq (.reg [2] f30r2) .ret) .nop)) (.seq (.seq (.reg [1, 3] f30r3) (.blk 0 (.loop [1, 3] false f_ref05_Right_l15))) (.seq (.reg [2] f30r16) .ret))))⟩

@[simp] theorem e30r0 : type_of% f30r0.eq_1 := by_rfl f30r0.eq_1
@[simp] theorem e30r1 : type_of% f30r1.eq_1 := by_rfl f30r1.eq_1
@[simp] theorem e30r2 : type_of% f30r2.eq_1 := by_rfl f30r2.eq_1
@[simp] theorem e30r3 : type_of% f30r3.eq_1 := by_rfl f30r3.eq_1
@[simp] theorem e30r4 : type_of% f30r4.eq_1 := by_rfl f30r4.eq_1
@[simp] theorem e30r5 : type_of% f30r5.eq_1 := by_rfl f30r5.eq_1
@[simp] theorem e30r6 : type_of% f30r6.eq_1 := by_rfl f30r6.eq_1
@[simp] theorem e30r7 : type_of% f30r7.eq_1 := by_rfl f30r7.eq_1
@[simp] theorem e30r8 : type_of% f30r8.eq_1 := by_rfl f30r8.eq_1
@[simp] theorem e30r9 : type_of% f30r9.eq_1 := by_rfl f30r9.eq_1
@[simp] theorem e30r10 : type_of% f30r10.eq_1 := by_rfl f30r10.eq_1
@[simp] theorem e30r11 : type_of% f30r11.eq_1 := by_rfl f30r11.eq_1
@[simp] theorem e30r12 : type_of% f30r12.eq_1 := by_rfl f30r12.eq_1
@[simp] theorem e30r14 : type_of% f30r14.eq_1 := by_rfl f30r14.eq_1
@[simp] theorem e30r16 : type_of% f30r16.eq_1 := by_rfl f30r16.eq_1
theorem e_ref05_Right_l13 : type_of% f_ref05_Right_l13.eq_1 := by_rfl f_ref05_Right_l13.eq_1
theorem e_ref05_Right_l15 : type_of% f_ref05_Right_l15.eq_1 := by_rfl f_ref05_Right_l15.eq_1
theorem e_ref05_Right : type_of% f_ref05_Right.eq_1 := by_rfl f_ref05_Right.eq_1
theorem ok_ref05_Right : fnC Tryz.prog a_ref05_Right Tryz.f30 = some f_ref05_Right := by kernel_rfl

/-! 31 fumarole/fumaroleref05.ModelsFault -/
def f31r0 : List Abs.Op := [
  ⟨some 2, none, false, .boxi (.t 0)⟩,
  ⟨some 4, none, false, .mv (.c (.int .i64 0))⟩]

def f31r1 : List Abs.Op := [
  ⟨some 6, none, false, .mv (.t 1)⟩,
  ⟨some 7, none, false, .lenS (.t 6)⟩,
  ⟨some 8, none, false, .bin .lss (.t 7) (.c (.int .i64 1))⟩,
  ⟨some 9, none, false, .mv (.t 8)⟩,
  ⟨some 10, some (9, false), false, .mv (.t 1)⟩,
  ⟨some 11, some (9, false), false, .lenS (.t 10)⟩,
  ⟨some 12, some (9, false), false, .bin .gtr (.t 11) (.c (.int .i64 40))⟩,
  ⟨some 13, none, false, .pick (.t 9) (.c (.bool true)) (.t 12)⟩]

def f31r2 : List Abs.Op := [
  ⟨some 4, none, false, .mv (.c (.int .i64 3))⟩]

def f31r3 : List Abs.Op := [
  ⟨some 14, none, false, .fadr 0 (.t 2)⟩,
  ⟨some 15, none, false, .ld true 4 (.t 14)⟩,
  ⟨some 16, none, false, .mv (.t 1)⟩,
  ⟨some 17, none, false, .call false (.c (.fn i_ref02_ModelsFault [] [])) [(.t 15), (.t 16)]⟩,
  ⟨some 18, none, false, .bin .neq (.t 17) (.c (.int .i64 0))⟩]

def f31r4 : List Abs.Op := [
  ⟨some 4, none, false, .mv (.c (.int .i64 1))⟩]

def f31r5 : List Abs.Op := [
  ⟨some 5, none, false, .mv (.c (.int .i64 0))⟩]

def f31r6 : List Abs.Op := [
  ⟨some 19, none, false, .mv (.t 5)⟩,
  ⟨some 20, none, false, .mv (.t 1)⟩,
  ⟨some 21, none, false, .lenS (.t 20)⟩,
  ⟨some 22, none, false, .bin .lss (.t 19) (.t 21)⟩]

def f31r7 : List Abs.Op := [
  ⟨some 25, none, true, .ld true 9 (.t 2)⟩,
  ⟨some 26, none, true, .mv (.t 1)⟩,
  ⟨some 27, none, true, .mv (.t 5)⟩,
  ⟨some 28, none, true, .idxS 2 (.t 26) (.t 27)⟩,
  ⟨some 29, none, true, .ld true 2 (.t 28)⟩,
  ⟨some 30, none, false, .call false (.c (.fn i_ref05_Fits [] [])) [(.t 25), (.t 29)]⟩,
  ⟨some 31, none, false, .un .not (.t 30)⟩]

def f31r8 : List Abs.Op := [
  ⟨some 4, none, false, .mv (.c (.int .i64 1))⟩]

def f31r9 : List Abs.Op := [
  ⟨some 23, none, false, .mv (.t 5)⟩,
  ⟨some 24, none, false, .bin .add (.t 23) (.c (.int .i64 1))⟩,
  ⟨some 5, none, false, .mv (.t 24)⟩]

def f_ref05_ModelsFault_l10 : Abs.Cmd :=
  (.seq (.seq (.reg [1, 2, 5, 22] f31r6) (.ite (.t 22) .nop (.exit 0))) (.seq (.blk 1 (.seq (.reg [1, 2, 5, 31] f31r7) (.ite (.t 31) (.seq (.reg [4] f31r8) .ret) .nop))) (.reg [1, 2, 5] f31r9)))

def f31r11 : List Abs.Op := [
  ⟨some 4, none, false, .mv (.c (.int .i64 0))⟩]

def a_ref05_ModelsFault : Ann := ⟨[(10, [4]), (7, [1, 2, 5]), (9, [4]), (8, [1, 2, 5, 31]), (6, [1, 2, 5, 22]), (5, [1, 2, 5]), (4, [4]), (3, [1, 2, 18]), (2, [4]), (1, [1, 2, 13]), (0, [1, 2])], [(0, [1, 2, 5])], [], [], [], [], [], [], [], [], []⟩
def f_ref05_ModelsFault : Abs.Fn := ⟨2, [.t 4],
  (.seq (.reg [1, 2] f31r0) (.seq (.seq (.reg [1, 2, 13] f31r1) (.ite (.t 13) (.seq (.reg [4] f31r2) .ret) .nop)) (.seq (.seq (.reg [1, 2, 18] f31r3) (.ite (.t 18) (.seq (.reg [4] f31r4) .ret) .nop)) (.seq (.seq (.reg [1, 2, 5] f31r5) (.blk 0 (.loop [1, 2, 5] false f_ref05_ModelsFault_l10))) (.seq (.reg [4] f31r11) .ret)))))⟩

@[simp] theorem e31r0 : type_of% f31r0.eq_1 := by_rfl f31r0.eq_1
@[simp] theorem e31r1 : type_of% f31r1.eq_1 := by_rfl f31r1.eq_1
@[simp] theorem e31r2 : type_of% f31r2.eq_1 := by_rfl f31r2.eq_1
@[simp] theorem e31r3 : type_of% f31r3.eq_1 := by_rfl f31r3.eq_1
@[simp] theorem e31r4 : type_of% f31r4.eq_1 := by_rfl f31r4.eq_1
@[simp] theorem e31r5 : type_of% f31r5.eq_1 := by_rfl f31r5.eq_1
@[simp] theorem e31r6 : type_of% f31r6.eq_1 := by_rfl f31r6.eq_1
@[simp] theorem e31r7 : type_of% f31r7.eq_1 := by_rfl f31r7.eq_1
@[simp] theorem e31r8 : type_of% f31r8.eq_1 := by_rfl f31r8.eq_1
@[simp] theorem e31r9 : type_of% f31r9.eq_1 := by_rfl f31r9.eq_1
@[simp] theorem e31r11 : type_of% f31r11.eq_1 := by_rfl f31r11.eq_1
theorem e_ref05_ModelsFault_l10 : type_of% f_ref05_ModelsFault_l10.eq_1 := by_rfl f_ref05_ModelsFault_l10.eq_1
theorem e_ref05_ModelsFault : type_of% f_ref05_ModelsFault.eq_1 := by_rfl f_ref05_ModelsFault.eq_1
theorem ok_ref05_ModelsFault : fnC Tryz.prog a_ref05_ModelsFault Tryz.f31 = some f_ref05_ModelsFault := by kernel_rfl

/-! 32 fumarole/fumaroleref05.PlanFault -/
def f32r0 : List Abs.Op := [
  ⟨some 2, none, false, .boxi (.t 0)⟩,
  ⟨some 4, none, false, .mv (.c (.int .i64 0))⟩]

def f32r1 : List Abs.Op := [
  ⟨some 7, none, false, .mv (.t 1)⟩,
  ⟨some 8, none, false, .lenS (.t 7)⟩,
  ⟨some 9, none, false, .bin .gtr (.t 8) (.c (.int .i64 200))⟩]

def f32r2 : List Abs.Op := [
  ⟨some 4, none, false, .mv (.c (.int .i64 3))⟩]

def f32r3 : List Abs.Op := [
  ⟨some 5, none, false, .mv (.c (.int .i64 0))⟩]

def f32r4 : List Abs.Op := [
  ⟨some 10, none, false, .mv (.t 5)⟩,
  ⟨some 11, none, false, .mv (.t 1)⟩,
  ⟨some 12, none, false, .lenS (.t 11)⟩,
  ⟨some 13, none, false, .bin .lss (.t 10) (.t 12)⟩]

def f32r5 : List Abs.Op := [
  ⟨some 16, none, true, .ld true 9 (.t 2)⟩,
  ⟨some 17, none, true, .mv (.t 1)⟩,
  ⟨some 18, none, true, .mv (.t 5)⟩,
  ⟨some 19, none, true, .idxS 1 (.t 17) (.t 18)⟩,
  ⟨some 20, none, true, .ld false 1 (.t 19)⟩,
  ⟨some 21, none, false, .call false (.c (.fn i_ref05_RatesFault [] [])) [(.t 16), (.t 20)]⟩,
  ⟨some 6, none, false, .mv (.t 21)⟩]

def f32r6 : List Abs.Op := [
  ⟨some 22, none, false, .mv (.t 6)⟩,
  ⟨some 23, none, false, .bin .neq (.t 22) (.c (.int .i64 0))⟩]

def f32r7 : List Abs.Op := [
  ⟨some 24, none, false, .mv (.t 6)⟩,
  ⟨some 4, none, false, .mv (.t 24)⟩]

def f32r8 : List Abs.Op := [
  ⟨some 14, none, false, .mv (.t 5)⟩,
  ⟨some 15, none, false, .bin .add (.t 14) (.c (.int .i64 1))⟩,
  ⟨some 5, none, false, .mv (.t 15)⟩]

def f_ref05_PlanFault_l9 : Abs.Cmd :=
  (.seq (.seq (.reg [1, 2, 5, 13] f32r4) (.ite (.t 13) .nop (.exit 0))) (.seq (.blk 1 (.seq (.reg [1, 2, 5, 6] f32r5) (.seq (.reg [1, 2, 5, 6, 23] f32r6) (.ite (.t 23) (.seq (.reg [4] f32r7) .ret) .nop)))) (.reg [1, 2, 5] f32r8)))

def f32r10 : List Abs.Op := [
  ⟨some 4, none, false, .mv (.c (.int .i64 0))⟩]

def a_ref05_PlanFault : Ann := ⟨[(9, [4]), (5, [1, 2, 5]), (8, [4]), (7, [1, 2, 5, 6, 23]), (6, [1, 2, 5, 6]), (4, [1, 2, 5, 13]), (3, [1, 2, 5]), (2, [4]), (1, [1, 2, 9]), (0, [1, 2])], [(0, [1, 2, 5])], [], [], [], [], [], [], [], [], []⟩
def f_ref05_PlanFault : Abs.Fn := ⟨2, [.t 4],
  (.seq (.reg [1, 2] f32r0) (.seq (.seq (.reg [1, 2, 9] f32r1) (.ite (.t 9) (.seq (.reg [4] f32r2) .ret) .nop)) (.seq (.seq (.reg [1, 2, 5] f32r3) (.blk 0 (.loop [1, 2, 5] false f_ref05_PlanFault_l9))) (.seq (.reg [4] f32r10) .ret))))⟩

@[simp] theorem e32r0 : type_of% f32r0.eq_1 := by_rfl f32r0.eq_1
@[simp] theorem e32r1 : type_of% f32r1.eq_1 := by_rfl f32r1.eq_1
@[simp] theorem e32r2 : type_of% f32r2.eq_1 := by_rfl f32r2.eq_1
@[simp] theorem e32r3 : type_of% f32r3.eq_1 := by_rfl f32r3.eq_1
@[simp] theorem e32r4 : type_of% f32r4.eq_1 := by_rfl f32r4.eq_1
@[simp] theorem e32r5 : type_of% f32r5.eq_1 := by_rfl f32r5.eq_1
@[simp] theorem e32r6 : type_of% f32r6.eq_1 := by_rfl f32r6.eq_1
@[simp] theorem e32r7 : type_of% f32r7.eq_1 := by_rfl f32r7.eq_1
@[simp] theorem e32r8 : type_of% f32r8.eq_1 := by_rfl f32r8.eq_1
@[simp] theorem e32r10 : type_of% f32r10.eq_1 := by_rfl f32r10.eq_1
theorem e_ref05_PlanFault_l9 : type_of% f_ref05_PlanFault_l9.eq_1 := by_rfl f_ref05_PlanFault_l9.eq_1
theorem e_ref05_PlanFault : type_of% f_ref05_PlanFault.eq_1 := by_rfl f_ref05_PlanFault.eq_1
theorem ok_ref05_PlanFault : fnC Tryz.prog a_ref05_PlanFault Tryz.f32 = some f_ref05_PlanFault := by kernel_rfl

/-! 33 fumarole/fumarolelaw01.Three -/
def f33r0 : List Abs.Op := [
  ⟨some 0, none, false, .mv (.c .nils)⟩]

def f33r1 : List Abs.Op := [
  ⟨some 1, none, false, .bld [(.int .i64 0), (.int .i64 0), (.int .i64 0), (.int .i64 0), (.int .i64 0)] [(0, 1, (.c (.int .i64 100))), (1, 1, (.c (.int .i64 101))), (2, 1, (.c (.int .i64 419))), (3, 1, (.c (.int .i64 2676))), (4, 1, (.c (.int .i64 150)))]⟩,
  ⟨some 2, none, false, .bld [(.int .i64 0), (.int .i64 0), (.int .i64 0), (.int .i64 0), (.int .i64 0)] [(0, 1, (.c (.int .i64 150))), (1, 1, (.c (.int .i64 476))), (2, 1, (.c (.int .i64 632))), (3, 1, (.c (.int .i64 2746))), (4, 1, (.c (.int .i64 300)))]⟩,
  ⟨some 3, none, false, .bld [(.int .i64 0), (.int .i64 0), (.int .i64 0), (.int .i64 0), (.int .i64 0)] [(0, 1, (.c (.int .i64 200))), (1, 1, (.c (.int .i64 1555))), (2, 1, (.c (.int .i64 852))), (3, 1, (.c (.int .i64 2793))), (4, 1, (.c (.int .i64 600)))]⟩,
  ⟨some 4, none, false, .bsi 3 5 [(.int .i64 0), (.int .i64 0), (.int .i64 0), (.int .i64 0), (.int .i64 0), (.int .i64 0), (.int .i64 0), (.int .i64 0), (.int .i64 0), (.int .i64 0), (.int .i64 0), (.int .i64 0), (.int .i64 0), (.int .i64 0), (.int .i64 0)] [(0, 5, (.t 1)), (5, 5, (.t 2)), (10, 5, (.t 3))]⟩,
  ⟨some 0, none, false, .mv (.t 4)⟩]

def a_law01_Three : Ann := ⟨[(1, [0]), (0, [])], [], [], [], [], [], [], [], [], [], []⟩
def f_law01_Three : Abs.Fn := ⟨0, [.t 0],
  (.seq (.reg [] f33r0) (.seq (.reg [0] f33r1) .ret))⟩

@[simp] theorem e33r0 : type_of% f33r0.eq_1 := by_rfl f33r0.eq_1
@[simp] theorem e33r1 : type_of% f33r1.eq_1 := by_rfl f33r1.eq_1
theorem e_law01_Three : type_of% f_law01_Three.eq_1 := by_rfl f_law01_Three.eq_1
theorem ok_law01_Three : fnC Tryz.prog a_law01_Three Tryz.f33 = some f_law01_Three := by kernel_rfl

/-! 34 fumarole/fumarolelaw01.Table -/
def f34r0 : List Abs.Op := [
  ⟨some 2, none, false, .mv (.c .nils)⟩]

def f34r1 : List Abs.Op := [
  ⟨some 3, none, false, .nilb 5⟩]

def f34r2 : List Abs.Op := [
  ⟨some 4, none, false, .mv (.c (.int .i64 0))⟩]

def f34r3 : List Abs.Op := [
  ⟨some 5, none, false, .mv (.t 4)⟩,
  ⟨some 6, none, false, .mv (.t 0)⟩,
  ⟨some 7, none, false, .lenS (.t 6)⟩,
  ⟨some 8, none, false, .bin .lss (.t 5) (.t 7)⟩]

def f34r4 : List Abs.Op := [
  ⟨some 11, none, true, .mv (.t 3)⟩,
  ⟨some 12, none, true, .mv (.t 0)⟩,
  ⟨some 13, none, true, .mv (.t 4)⟩,
  ⟨some 14, none, true, .idxS 5 (.t 12) (.t 13)⟩,
  ⟨some 15, none, true, .fadr 0 (.t 14)⟩,
  ⟨some 16, none, true, .ld false 1 (.t 15)⟩,
  ⟨some 17, none, true, .mv (.t 0)⟩,
  ⟨some 18, none, true, .mv (.t 4)⟩,
  ⟨some 19, none, true, .idxS 5 (.t 17) (.t 18)⟩,
  ⟨some 20, none, true, .fadr 1 (.t 19)⟩,
  ⟨some 21, none, true, .ld false 1 (.t 20)⟩,
  ⟨some 22, none, true, .mv (.t 0)⟩,
  ⟨some 23, none, true, .mv (.t 4)⟩,
  ⟨some 24, none, true, .idxS 5 (.t 22) (.t 23)⟩,
  ⟨some 25, none, true, .fadr 2 (.t 24)⟩,
  ⟨some 26, none, true, .ld false 1 (.t 25)⟩,
  ⟨some 27, none, true, .mv (.t 0)⟩,
  ⟨some 28, none, true, .mv (.t 4)⟩,
  ⟨some 29, none, true, .idxS 5 (.t 27) (.t 28)⟩,
  ⟨some 30, none, true, .fadr 3 (.t 29)⟩,
  ⟨some 31, none, true, .ld false 1 (.t 30)⟩,
  ⟨some 32, none, true, .mv (.t 0)⟩,
  ⟨some 33, none, true, .mv (.t 4)⟩,
  ⟨some 34, none, true, .idxS 5 (.t 32) (.t 33)⟩,
  ⟨some 35, none, true, .fadr 4 (.t 34)⟩,
  ⟨some 36, none, true, .ld false 1 (.t 35)⟩,
  ⟨some 37, none, true, .bld [(.int .i64 0), (.int .i64 0), (.int .i64 0), (.int .i64 0), (.int .i64 0)] [(0, 1, (.t 16)), (1, 1, (.t 21)), (2, 1, (.t 26)), (3, 1, (.t 31)), (4, 1, (.t 36))]⟩,
  ⟨some 38, none, true, .bsi 1 5 [(.int .i64 0), (.int .i64 0), (.int .i64 0), (.int .i64 0), (.int .i64 0)] [(0, 5, (.t 37))]⟩,
  ⟨some 39, none, false, .app 5 40 (.t 11) (.t 38)⟩,
  ⟨some 3, none, false, .mv (.t 39)⟩]

def f34r5 : List Abs.Op := [
  ⟨some 9, none, false, .mv (.t 4)⟩,
  ⟨some 10, none, false, .bin .add (.t 9) (.c (.int .i64 1))⟩,
  ⟨some 4, none, false, .mv (.t 10)⟩]

def f_law01_Table_l6 : Abs.Cmd :=
  (.seq (.seq (.reg [0, 3, 4, 8] f34r3) (.ite (.t 8) .nop (.exit 0))) (.seq (.blk 1 (.reg [0, 3, 4] f34r4)) (.reg [0, 3, 4] f34r5)))

def f34r7 : List Abs.Op := [
  ⟨some 40, none, false, .mv (.t 3)⟩,
  ⟨some 2, none, false, .mv (.t 40)⟩]

def a_law01_Table : Ann := ⟨[(6, [2]), (4, [0, 3, 4]), (5, [0, 3, 4]), (3, [0, 3, 4, 8]), (2, [0, 3, 4]), (1, [0, 3]), (0, [0])], [(0, [0, 3, 4])], [], [3], [], [], [], [], [], [], []⟩
def f_law01_Table : Abs.Fn := ⟨1, [.t 2],
  (.seq (.reg [0] f34r0) (.seq (.reg [0, 3] f34r1) (.seq (.seq (.reg [0, 3, 4] f34r2) (.blk 0 (.loop [0, 3, 4] false f_law01_Table_l6))) (.seq (.reg [2] f34r7) .ret))))⟩

@[simp] theorem e34r0 : type_of% f34r0.eq_1 := by_rfl f34r0.eq_1
@[simp] theorem e34r1 : type_of% f34r1.eq_1 := by_rfl f34r1.eq_1
@[simp] theorem e34r2 : type_of% f34r2.eq_1 := by_rfl f34r2.eq_1
@[simp] theorem e34r3 : type_of% f34r3.eq_1 := by_rfl f34r3.eq_1
@[simp] theorem e34r4 : type_of% f34r4.eq_1 := by_rfl f34r4.eq_1
@[simp] theorem e34r5 : type_of% f34r5.eq_1 := by_rfl f34r5.eq_1
@[simp] theorem e34r7 : type_of% f34r7.eq_1 := by_rfl f34r7.eq_1
theorem e_law01_Table_l6 : type_of% f_law01_Table_l6.eq_1 := by_rfl f_law01_Table_l6.eq_1
theorem e_law01_Table : type_of% f_law01_Table.eq_1 := by_rfl f_law01_Table.eq_1
theorem ok_law01_Table : fnC Tryz.prog a_law01_Table Tryz.f34 = some f_law01_Table := by kernel_rfl

/-! 35 fumarole/rock.ready -/
def f35r0 : List Abs.Op := [
  ⟨some 3, none, false, .boxi (.t 0)⟩,
  ⟨some 6, none, false, .mv (.c (.int .i64 0))⟩]

def f35r1 : List Abs.Op := [
  ⟨some 8, none, false, .ld true 9 (.t 3)⟩,
  ⟨some 9, none, false, .call false (.c (.fn i_rock_Bed_valid [] [])) [(.t 8)]⟩,
  ⟨some 10, none, false, .un .not (.t 9)⟩,
  ⟨some 7, none, false, .mv (.t 10)⟩]

def f35r2 : List Abs.Op := [
  ⟨some 6, none, false, .mv (.c (.int .i64 1))⟩]

def f35r3 : List Abs.Op := [
  ⟨some 12, none, false, .mv (.t 1)⟩,
  ⟨some 13, none, false, .lenS (.t 12)⟩,
  ⟨some 14, none, false, .call false (.c (.fn i_rock_within [] [])) [(.t 13), (.c (.int .i64 1)), (.c (.int .i64 40))]⟩,
  ⟨some 15, none, false, .un .not (.t 14)⟩,
  ⟨some 11, none, false, .mv (.t 15)⟩]

def f35r4 : List Abs.Op := [
  ⟨some 6, none, false, .mv (.c (.int .i64 3))⟩]

def f35r5 : List Abs.Op := [
  ⟨some 17, none, false, .fadr 0 (.t 3)⟩,
  ⟨some 18, none, false, .ld true 4 (.t 17)⟩,
  ⟨some 19, none, false, .mv (.t 1)⟩,
  ⟨some 20, none, false, .call false (.c (.fn i_field_CheckModels [] [])) [(.t 18), (.t 19)]⟩,
  ⟨some 21, none, false, .bin .neq (.t 20) (.c (.int .i64 0))⟩,
  ⟨some 22, none, false, .mv (.t 21)⟩,
  ⟨some 23, some (22, false), false, .mv (.t 1)⟩,
  ⟨some 24, some (22, false), false, .mkf i_rock_ready_1 [] [(.t 3)]⟩,
  ⟨some 25, some (22, false), false, .call false (.c (.fn i_rock_all_field_Model [] [])) [(.t 23), (.t 24)]⟩,
  ⟨some 26, some (22, false), false, .un .not (.t 25)⟩,
  ⟨some 27, none, false, .pick (.t 22) (.c (.bool true)) (.t 26)⟩,
  ⟨some 16, none, false, .mv (.t 27)⟩]

def f35r6 : List Abs.Op := [
  ⟨some 6, none, false, .mv (.c (.int .i64 1))⟩]

def f35r7 : List Abs.Op := [
  ⟨some 28, none, false, .ld true 9 (.t 3)⟩,
  ⟨some 29, none, false, .mv (.t 2)⟩,
  ⟨some 30, none, false, .call false (.c (.fn i_rock_Bed_plan [] [])) [(.t 28), (.t 29)]⟩,
  ⟨some 6, none, false, .mv (.t 30)⟩]

def a_rock_ready : Ann := ⟨[(7, [6]), (2, [6]), (4, [6]), (6, [6]), (5, [2, 3, 16]), (3, [1, 2, 3, 11]), (1, [1, 2, 3, 7]), (0, [1, 2, 3])], [], [], [], [], [], [], [], [], [], []⟩
def f_rock_ready : Abs.Fn := ⟨3, [.t 6],
  (.seq (.reg [1, 2, 3] f35r0) (.seq (.blk 0 (.seq (.reg [1, 2, 3, 7] f35r1) (.ite (.t 7) (.seq (.reg [6] f35r2) .ret) (.seq (.reg [1, 2, 3, 11] f35r3) (.ite (.t 11) (.seq (.reg [6] f35r4) .ret) (.seq (.reg [2, 3, 16] f35r5) (.ite (.t 16) (.seq (.reg [6] f35r6) .ret) .nop))))))) (.seq (.reg [6] f35r7) .ret)))⟩

@[simp] theorem e35r0 : type_of% f35r0.eq_1 := by_rfl f35r0.eq_1
@[simp] theorem e35r1 : type_of% f35r1.eq_1 := by_rfl f35r1.eq_1
@[simp] theorem e35r2 : type_of% f35r2.eq_1 := by_rfl f35r2.eq_1
@[simp] theorem e35r3 : type_of% f35r3.eq_1 := by_rfl f35r3.eq_1
@[simp] theorem e35r4 : type_of% f35r4.eq_1 := by_rfl f35r4.eq_1
@[simp] theorem e35r5 : type_of% f35r5.eq_1 := by_rfl f35r5.eq_1
@[simp] theorem e35r6 : type_of% f35r6.eq_1 := by_rfl f35r6.eq_1
@[simp] theorem e35r7 : type_of% f35r7.eq_1 := by_rfl f35r7.eq_1
theorem e_rock_ready : type_of% f_rock_ready.eq_1 := by_rfl f_rock_ready.eq_1
theorem ok_rock_ready : fnC Tryz.prog a_rock_ready Tryz.f35 = some f_rock_ready := by kernel_rfl

/-! 36 fumarole/rock.caught -/
def f36r0 : List Abs.Op := [
  ⟨some 5, none, false, .rcv⟩]

def f36r1 : List Abs.Op := [
  ⟨some 7, none, false, .isi false (.t 5)⟩]

def f36r2 : List Abs.Op := [
  ⟨some 2, none, false, .mv (.t 5)⟩]

def f36r3 : List Abs.Op := [
  ⟨some 8, none, false, .tas 205 (some (.agg [])) (.t 5)⟩,
  ⟨some 9, none, false, .ext (.t 8) 1⟩,
  ⟨some 10, none, false, .ext (.t 8) 0⟩]

def f36r4 : List Abs.Op := [
  ⟨some 3, none, false, .alcv [] []⟩,
  ⟨none, none, false, .stv 3 [] 0 3 (.t 10)⟩]

def f36r5 : List Abs.Op := [
  ⟨some 11, none, false, .mv (.t 0)⟩,
  ⟨some 12, none, false, .nck (.t 11)⟩,
  ⟨none, none, false, .st [] 1 (.t 12) (.c (.int .i64 9))⟩]

def f36r6 : List Abs.Op := [
  ⟨some 4, none, false, .mv (.t 5)⟩]

def f36r7 : List Abs.Op := [
  ⟨some 6, none, false, .mv (.t 4)⟩]

def f36r8 : List Abs.Op := [
  ]

def a_rock_caught : Ann := ⟨[(4, []), (7, []), (6, [0]), (2, []), (1, [4]), (5, [0, 5, 9, 10]), (3, [0, 5, 7]), (0, [0, 5])], [], [], [0, 3], [3], [], [], [], [], [], [(2, some 1)]⟩
def f_rock_caught : Abs.Fn := ⟨1, [],
  (.seq (.reg [0, 5] f36r0) (.blk 0 (.seq (.reg [0, 5, 7] f36r1) (.ite (.t 7) (.reg [] f36r2) (.seq (.reg [0, 5, 9, 10] f36r3) (.ite (.t 9) (.seq (.reg [0] f36r4) (.reg [] f36r5)) (.seq (.reg [4] f36r6) (.treg [] f36r7 ⟨none, none, false, .pan (.t 6)⟩ f36r8))))))))⟩

@[simp] theorem e36r0 : type_of% f36r0.eq_1 := by_rfl f36r0.eq_1
@[simp] theorem e36r1 : type_of% f36r1.eq_1 := by_rfl f36r1.eq_1
@[simp] theorem e36r2 : type_of% f36r2.eq_1 := by_rfl f36r2.eq_1
@[simp] theorem e36r3 : type_of% f36r3.eq_1 := by_rfl f36r3.eq_1
@[simp] theorem e36r4 : type_of% f36r4.eq_1 := by_rfl f36r4.eq_1
@[simp] theorem e36r5 : type_of% f36r5.eq_1 := by_rfl f36r5.eq_1
@[simp] theorem e36r6 : type_of% f36r6.eq_1 := by_rfl f36r6.eq_1
@[simp] theorem e36r7 : type_of% f36r7.eq_1 := by_rfl f36r7.eq_1
@[simp] theorem e36r8 : type_of% f36r8.eq_1 := by_rfl f36r8.eq_1
theorem e_rock_caught : type_of% f_rock_caught.eq_1 := by_rfl f_rock_caught.eq_1
theorem ok_rock_caught : fnC Tryz.prog a_rock_caught Tryz.f36 = some f_rock_caught := by kernel_rfl

/-! 37 fumarole/rock.runs -/
def f37r0 : List Abs.Op := [
  ⟨some 3, none, false, .boxi (.t 0)⟩,
  ⟨some 6, none, false, .nilb 2⟩]

def f37r1 : List Abs.Op := [
  ⟨some 9, none, false, .mv (.t 1)⟩,
  ⟨some 10, none, false, .lenS (.t 9)⟩,
  ⟨some 11, none, false, .mv (.c (.int .i64 0))⟩]

def f37r2 : List Abs.Op := [
  ⟨some 12, none, false, .bin .lss (.t 11) (.t 10)⟩]

def f37r3 : List Abs.Op := [
  ⟨some 13, none, false, .idxS 2 (.t 9) (.t 11)⟩,
  ⟨some 14, none, false, .ld true 2 (.t 13)⟩,
  ⟨some 8, none, false, .alcv [] [(.str []), .nils]⟩,
  ⟨none, none, false, .stv 8 [] 2 8 (.t 14)⟩]

def f37r4 : List Abs.Op := [
  ⟨some 15, none, false, .mv (.t 6)⟩,
  ⟨some 16, none, false, .ld true 9 (.t 3)⟩,
  ⟨some 17, none, false, .ldv 8 true 2 8⟩,
  ⟨some 18, none, false, .bld [(.int .i64 0), (.int .i64 0), (.int .i64 0), (.int .i64 0), .nils, (.int .i64 0), (.int .i64 0), (.int .i64 0), .nils, (.str []), .nils] [(0, 9, (.t 16)), (9, 2, (.t 17))]⟩,
  ⟨some 19, none, false, .mv (.t 2)⟩]

def f37r5 : List Abs.Op := [
  ⟨some 21, none, false, .bsi 1 2 [.nils, .nils] [(0, 2, (.t 20))]⟩,
  ⟨some 22, none, false, .app 2 48 (.t 15) (.t 21)⟩,
  ⟨some 6, none, false, .mv (.t 22)⟩]

def f37r6 : List Abs.Op := [
  ⟨some 23, none, false, .bin .add (.t 11) (.c (.int .i64 1))⟩,
  ⟨some 11, none, false, .mv (.t 23)⟩]

def f_rock_runs_l7 : Abs.Cmd :=
  (.seq (.reg [2, 3, 6, 9, 10, 11, 12] f37r2) (.seq (.ite (.t 12) .nop (.exit 0)) (.seq (.blk 1 (.seq (.reg [2, 3, 6, 8, 9, 10, 11] f37r3) (.treg [2, 3, 6, 9, 10, 11] f37r4 ⟨some 20, none, false, .call false (.c (.fn i_rock_bedded_run [] [])) [(.t 18), (.t 19)]⟩ f37r5))) (.reg [2, 3, 6, 9, 10, 11] f37r6))))

def f37r8 : List Abs.Op := [
  ⟨some 24, none, false, .mv (.t 6)⟩,
  ⟨some 6, none, false, .mv (.t 24)⟩]

def a_rock_runs : Ann := ⟨[(6, [6]), (5, [2, 3, 6, 9, 10, 11]), (4, [2, 3, 6, 9, 10, 11]), (3, [2, 3, 6, 8, 9, 10, 11]), (2, [2, 3, 6, 9, 10, 11, 12]), (1, [2, 3, 6, 9, 10, 11]), (0, [1, 2, 3, 6])], [(0, [2, 3, 6, 9, 10, 11])], [], [6, 8], [8], [], [], [], [], [], [(4, some 5)]⟩
def f_rock_runs : Abs.Fn := ⟨3, [.t 6],
  (.seq (.reg [1, 2, 3, 6] f37r0) (.seq (.seq (.reg [2, 3, 6, 9, 10, 11] f37r1) (.blk 0 (.loop [2, 3, 6, 9, 10, 11] false f_rock_runs_l7))) (.seq (.reg [6] f37r8) .ret)))⟩

@[simp] theorem e37r0 : type_of% f37r0.eq_1 := by_rfl f37r0.eq_1
@[simp] theorem e37r1 : type_of% f37r1.eq_1 := by_rfl f37r1.eq_1
@[simp] theorem e37r2 : type_of% f37r2.eq_1 := by_rfl f37r2.eq_1
@[simp] theorem e37r3 : type_of% f37r3.eq_1 := by_rfl f37r3.eq_1
@[simp] theorem e37r4 : type_of% f37r4.eq_1 := by_rfl f37r4.eq_1
@[simp] theorem e37r5 : type_of% f37r5.eq_1 := by_rfl f37r5.eq_1
@[simp] theorem e37r6 : type_of% f37r6.eq_1 := by_rfl f37r6.eq_1
@[simp] theorem e37r8 : type_of% f37r8.eq_1 := by_rfl f37r8.eq_1
theorem e_rock_runs_l7 : type_of% f_rock_runs_l7.eq_1 := by_rfl f_rock_runs_l7.eq_1
theorem e_rock_runs : type_of% f_rock_runs.eq_1 := by_rfl f_rock_runs.eq_1
theorem ok_rock_runs : fnC Tryz.prog a_rock_runs Tryz.f37 = some f_rock_runs := by kernel_rfl

/-! 38 fumarole/rock.span[fumarole/rock.Yield] -/
def f38r0 : List Abs.Op := [
  ⟨some 4, none, false, .alcv [] [(.int .i64 0), (.int .i64 0)]⟩]

def f38r1 : List Abs.Op := [
  ⟨some 8, none, true, .mv (.t 1)⟩,
  ⟨some 9, none, true, .mv (.t 0)⟩,
  ⟨some 10, none, true, .idxS 3 (.t 9) (.c (.int .i64 0))⟩,
  ⟨some 11, none, true, .ld true 3 (.t 10)⟩,
  ⟨some 12, none, true, .call false (.t 8) [(.t 11)]⟩,
  ⟨some 13, none, true, .mv (.t 1)⟩,
  ⟨some 14, none, true, .mv (.t 0)⟩,
  ⟨some 15, none, true, .idxS 3 (.t 14) (.c (.int .i64 0))⟩,
  ⟨some 16, none, true, .ld true 3 (.t 15)⟩,
  ⟨some 17, none, true, .call false (.t 13) [(.t 16)]⟩,
  ⟨some 18, none, true, .bld [(.int .i64 0), (.int .i64 0)] [(0, 1, (.t 12)), (1, 1, (.t 17))]⟩,
  ⟨some 5, none, true, .alcv [] [(.int .i64 0), (.int .i64 0)]⟩,
  ⟨none, none, false, .stv 5 [] 2 5 (.t 18)⟩]

def f38r2 : List Abs.Op := [
  ⟨some 19, none, false, .mv (.t 0)⟩,
  ⟨some 20, none, false, .lenS (.t 19)⟩,
  ⟨some 21, none, false, .mv (.c (.int .i64 0))⟩]

def f38r3 : List Abs.Op := [
  ⟨some 22, none, false, .bin .lss (.t 21) (.t 20)⟩]

def f38r4 : List Abs.Op := [
  ⟨some 23, none, false, .idxS 3 (.t 19) (.t 21)⟩,
  ⟨some 24, none, false, .ld true 3 (.t 23)⟩,
  ⟨some 7, none, false, .alcv [] [(.int .i64 0), (.int .i64 0), (.int .i64 0)]⟩,
  ⟨none, none, false, .stv 7 [] 3 7 (.t 24)⟩]

def f38r5 : List Abs.Op := [
  ⟨some 25, none, true, .fadr 0 (.t 5)⟩,
  ⟨some 26, none, true, .ldv 5 false 1 25⟩,
  ⟨some 27, none, true, .mv (.t 1)⟩,
  ⟨some 28, none, true, .ldv 7 true 3 7⟩,
  ⟨some 29, none, true, .call false (.t 27) [(.t 28)]⟩,
  ⟨some 30, none, true, .mn (.t 26) (.t 29)⟩,
  ⟨some 31, none, true, .fadr 1 (.t 5)⟩,
  ⟨some 32, none, true, .ldv 5 false 1 31⟩,
  ⟨some 33, none, true, .mv (.t 1)⟩,
  ⟨some 34, none, true, .ldv 7 true 3 7⟩,
  ⟨some 35, none, true, .call false (.t 33) [(.t 34)]⟩,
  ⟨some 36, none, true, .mx (.t 32) (.t 35)⟩,
  ⟨some 37, none, false, .bld [(.int .i64 0), (.int .i64 0)] [(0, 1, (.t 30)), (1, 1, (.t 36))]⟩,
  ⟨none, none, false, .stv 5 [] 2 5 (.t 37)⟩]

def f38r6 : List Abs.Op := [
  ⟨some 38, none, false, .bin .add (.t 21) (.c (.int .i64 1))⟩,
  ⟨some 21, none, false, .mv (.t 38)⟩]

def f_rock_span_rock_Yield_l7 : Abs.Cmd :=
  (.seq (.reg [1, 4, 5, 19, 20, 21, 22] f38r3) (.seq (.ite (.t 22) .nop (.exit 0)) (.seq (.blk 1 (.seq (.reg [1, 4, 5, 7, 19, 20, 21] f38r4) (.reg [1, 4, 5, 19, 20, 21] f38r5))) (.reg [1, 4, 5, 19, 20, 21] f38r6))))

def f38r8 : List Abs.Op := [
  ⟨some 39, none, false, .ldv 5 true 2 5⟩,
  ⟨none, none, false, .stv 4 [] 2 4 (.t 39)⟩]

def a_rock_span_rock_Yield : Ann := ⟨[(7, [4]), (6, [1, 4, 5, 19, 20, 21]), (5, [1, 4, 5, 19, 20, 21]), (4, [1, 4, 5, 7, 19, 20, 21]), (3, [1, 4, 5, 19, 20, 21, 22]), (2, [1, 4, 5, 19, 20, 21]), (1, [0, 1, 4, 5]), (0, [0, 1, 4])], [(0, [1, 4, 5, 19, 20, 21])], [], [4, 5, 7], [4, 5, 7], [], [], [], [], [], []⟩
def f_rock_span_rock_Yield : Abs.Fn := ⟨2, [.v 4 true 2],
  (.seq (.reg [0, 1, 4] f38r0) (.seq (.reg [0, 1, 4, 5] f38r1) (.seq (.seq (.reg [1, 4, 5, 19, 20, 21] f38r2) (.blk 0 (.loop [1, 4, 5, 19, 20, 21] false f_rock_span_rock_Yield_l7))) (.seq (.reg [4] f38r8) .ret))))⟩

@[simp] theorem e38r0 : type_of% f38r0.eq_1 := by_rfl f38r0.eq_1
@[simp] theorem e38r1 : type_of% f38r1.eq_1 := by_rfl f38r1.eq_1
@[simp] theorem e38r2 : type_of% f38r2.eq_1 := by_rfl f38r2.eq_1
@[simp] theorem e38r3 : type_of% f38r3.eq_1 := by_rfl f38r3.eq_1
@[simp] theorem e38r4 : type_of% f38r4.eq_1 := by_rfl f38r4.eq_1
@[simp] theorem e38r5 : type_of% f38r5.eq_1 := by_rfl f38r5.eq_1
@[simp] theorem e38r6 : type_of% f38r6.eq_1 := by_rfl f38r6.eq_1
@[simp] theorem e38r8 : type_of% f38r8.eq_1 := by_rfl f38r8.eq_1
theorem e_rock_span_rock_Yield_l7 : type_of% f_rock_span_rock_Yield_l7.eq_1 := by_rfl f_rock_span_rock_Yield_l7.eq_1
theorem e_rock_span_rock_Yield : type_of% f_rock_span_rock_Yield.eq_1 := by_rfl f_rock_span_rock_Yield.eq_1
theorem ok_rock_span_rock_Yield : fnC Tryz.prog a_rock_span_rock_Yield Tryz.f38 = some f_rock_span_rock_Yield := by kernel_rfl

/-! 39 (fumarole/rock.Yield).mass -/
def f39r0 : List Abs.Op := [
  ⟨some 1, none, false, .boxi (.t 0)⟩,
  ⟨some 2, none, false, .mv (.c (.int .i64 0))⟩]

def f39r1 : List Abs.Op := [
  ⟨some 3, none, false, .fadr 0 (.t 1)⟩,
  ⟨some 4, none, false, .ld false 1 (.t 3)⟩,
  ⟨some 2, none, false, .mv (.t 4)⟩]

def a_rock_Yield_mass : Ann := ⟨[(1, [2]), (0, [1])], [], [], [], [], [], [], [], [], [], []⟩
def f_rock_Yield_mass : Abs.Fn := ⟨1, [.t 2],
  (.seq (.reg [1] f39r0) (.seq (.reg [2] f39r1) .ret))⟩

@[simp] theorem e39r0 : type_of% f39r0.eq_1 := by_rfl f39r0.eq_1
@[simp] theorem e39r1 : type_of% f39r1.eq_1 := by_rfl f39r1.eq_1
theorem e_rock_Yield_mass : type_of% f_rock_Yield_mass.eq_1 := by_rfl f_rock_Yield_mass.eq_1
theorem ok_rock_Yield_mass : fnC Tryz.prog a_rock_Yield_mass Tryz.f39 = some f_rock_Yield_mass := by kernel_rfl

/-! 40 fumarole/rock.Ahead$1 -/
def f40r0 : List Abs.Op := [
  ⟨some 1, none, false, .boxi (.t 0)⟩,
  ⟨some 2, none, false, .mv (.c (.int .i64 0))⟩]

def f40r1 : List Abs.Op := [
  ⟨some 3, none, false, .fadr 1 (.t 1)⟩,
  ⟨some 4, none, false, .ld false 1 (.t 3)⟩,
  ⟨some 2, none, false, .mv (.t 4)⟩]

def a_rock_Ahead_1 : Ann := ⟨[(1, [2]), (0, [1])], [], [], [], [], [], [], [], [], [], []⟩
def f_rock_Ahead_1 : Abs.Fn := ⟨1, [.t 2],
  (.seq (.reg [1] f40r0) (.seq (.reg [2] f40r1) .ret))⟩

@[simp] theorem e40r0 : type_of% f40r0.eq_1 := by_rfl f40r0.eq_1
@[simp] theorem e40r1 : type_of% f40r1.eq_1 := by_rfl f40r1.eq_1
theorem e_rock_Ahead_1 : type_of% f_rock_Ahead_1.eq_1 := by_rfl f_rock_Ahead_1.eq_1
theorem ok_rock_Ahead_1 : fnC Tryz.prog a_rock_Ahead_1 Tryz.f40 = some f_rock_Ahead_1 := by kernel_rfl

/-! 41 (fumarole/rock.Yield).stain -/
def f41r0 : List Abs.Op := [
  ⟨some 1, none, false, .boxi (.t 0)⟩,
  ⟨some 2, none, false, .mv (.c (.int .i64 0))⟩]

def f41r1 : List Abs.Op := [
  ⟨some 3, none, false, .fadr 2 (.t 1)⟩,
  ⟨some 4, none, false, .ld false 1 (.t 3)⟩,
  ⟨some 2, none, false, .mv (.t 4)⟩]

def a_rock_Yield_stain : Ann := ⟨[(1, [2]), (0, [1])], [], [], [], [], [], [], [], [], [], []⟩
def f_rock_Yield_stain : Abs.Fn := ⟨1, [.t 2],
  (.seq (.reg [1] f41r0) (.seq (.reg [2] f41r1) .ret))⟩

@[simp] theorem e41r0 : type_of% f41r0.eq_1 := by_rfl f41r0.eq_1
@[simp] theorem e41r1 : type_of% f41r1.eq_1 := by_rfl f41r1.eq_1
theorem e_rock_Yield_stain : type_of% f_rock_Yield_stain.eq_1 := by_rfl f_rock_Yield_stain.eq_1
theorem ok_rock_Yield_stain : fnC Tryz.prog a_rock_Yield_stain Tryz.f41 = some f_rock_Yield_stain := by kernel_rfl

/-! 42 (fumarole/rock.Bed).size -/
def f42r0 : List Abs.Op := [
  ⟨some 1, none, false, .boxi (.t 0)⟩,
  ⟨some 2, none, false, .mv (.c (.int .i64 0))⟩]

def f42r1 : List Abs.Op := [
  ⟨some 3, none, false, .fadr 0 (.t 1)⟩,
  ⟨some 4, none, false, .fadr 0 (.t 3)⟩,
  ⟨some 5, none, false, .ld false 1 (.t 4)⟩,
  ⟨some 6, none, false, .fadr 0 (.t 1)⟩,
  ⟨some 7, none, false, .fadr 1 (.t 6)⟩,
  ⟨some 8, none, false, .ld false 1 (.t 7)⟩,
  ⟨some 9, none, false, .bin .mul (.t 5) (.t 8)⟩,
  ⟨some 10, none, false, .fadr 0 (.t 1)⟩,
  ⟨some 11, none, false, .fadr 2 (.t 10)⟩,
  ⟨some 12, none, false, .ld false 1 (.t 11)⟩,
  ⟨some 13, none, false, .bin .mul (.t 9) (.t 12)⟩,
  ⟨some 2, none, false, .mv (.t 13)⟩]

def a_rock_Bed_size : Ann := ⟨[(1, [2]), (0, [1])], [], [], [], [], [], [], [], [], [], []⟩
def f_rock_Bed_size : Abs.Fn := ⟨1, [.t 2],
  (.seq (.reg [1] f42r0) (.seq (.reg [2] f42r1) .ret))⟩

@[simp] theorem e42r0 : type_of% f42r0.eq_1 := by_rfl f42r0.eq_1
@[simp] theorem e42r1 : type_of% f42r1.eq_1 := by_rfl f42r1.eq_1
theorem e_rock_Bed_size : type_of% f_rock_Bed_size.eq_1 := by_rfl f_rock_Bed_size.eq_1
theorem ok_rock_Bed_size : fnC Tryz.prog a_rock_Bed_size Tryz.f42 = some f_rock_Bed_size := by kernel_rfl

/-! 43 (fumarole/rock.bedded).pressure -/
def f43r0 : List Abs.Op := [
  ⟨some 3, none, false, .boxi (.t 0)⟩,
  ⟨some 6, none, false, .mv (.c (.int .i64 0))⟩]

def f43r1 : List Abs.Op := [
  ⟨some 10, none, true, .ld true 11 (.t 3)⟩,
  ⟨some 11, none, true, .mv (.t 2)⟩,
  ⟨some 12, none, true, .call false (.c (.fn i_rock_bedded_weight [] [])) [(.t 10), (.t 11)]⟩,
  ⟨some 13, none, true, .fadr 0 (.t 3)⟩,
  ⟨some 14, none, true, .fadr 5 (.t 13)⟩,
  ⟨some 15, none, true, .ld false 1 (.t 14)⟩,
  ⟨some 16, none, true, .mv (.t 1)⟩,
  ⟨some 17, none, true, .mv (.t 2)⟩,
  ⟨some 18, none, true, .idxS 3 (.t 16) (.t 17)⟩,
  ⟨some 19, none, true, .fadr 0 (.t 18)⟩,
  ⟨some 20, none, true, .ld false 1 (.t 19)⟩,
  ⟨some 21, none, true, .ld true 11 (.t 3)⟩,
  ⟨some 22, none, true, .mv (.t 2)⟩,
  ⟨some 23, none, true, .call false (.c (.fn i_rock_bedded_hold [] [])) [(.t 21), (.t 22)]⟩,
  ⟨some 24, none, true, .bin .sub (.t 20) (.t 23)⟩,
  ⟨some 25, none, true, .bin .mul (.t 15) (.t 24)⟩,
  ⟨some 26, none, true, .ld true 11 (.t 3)⟩,
  ⟨some 27, none, true, .mv (.t 2)⟩,
  ⟨some 28, none, true, .call false (.c (.fn i_rock_bedded_hold [] [])) [(.t 26), (.t 27)]⟩,
  ⟨some 29, none, false, .call false (.c (.fn i_rock_down [] [])) [(.t 25), (.t 28)]⟩,
  ⟨some 30, none, false, .bin .add (.t 12) (.t 29)⟩,
  ⟨some 31, none, false, .mx (.c (.int .i64 0)) (.t 30)⟩,
  ⟨some 7, none, false, .mv (.t 31)⟩]

def f43r2 : List Abs.Op := [
  ⟨some 32, none, false, .fadr 0 (.t 3)⟩,
  ⟨some 33, none, false, .fadr 4 (.t 32)⟩,
  ⟨some 34, none, false, .ld false 1 (.t 33)⟩,
  ⟨some 35, none, false, .lenS (.t 34)⟩,
  ⟨some 36, none, false, .mv (.c (.int .i64 0))⟩]

def f43r3 : List Abs.Op := [
  ⟨some 37, none, false, .bin .lss (.t 36) (.t 35)⟩]

def f43r4 : List Abs.Op := [
  ⟨some 38, none, false, .idxS 5 (.t 34) (.t 36)⟩,
  ⟨some 39, none, false, .ld true 5 (.t 38)⟩,
  ⟨some 9, none, false, .alcv [] [(.int .i64 0), (.int .i64 0), (.int .i64 0), (.int .i64 0), (.int .i64 0)]⟩,
  ⟨none, none, false, .stv 9 [] 5 9 (.t 39)⟩]

def f43r5 : List Abs.Op := [
  ⟨some 40, none, true, .fadr 2 (.t 9)⟩,
  ⟨some 41, none, true, .ldv 9 false 1 40⟩,
  ⟨some 42, none, true, .mv (.t 1)⟩,
  ⟨some 43, none, true, .mv (.t 2)⟩,
  ⟨some 44, none, true, .idxS 3 (.t 42) (.t 43)⟩,
  ⟨some 45, none, true, .fadr 0 (.t 44)⟩,
  ⟨some 46, none, true, .ld false 1 (.t 45)⟩,
  ⟨some 47, none, true, .bin .mul (.t 41) (.t 46)⟩,
  ⟨some 48, none, true, .mv (.t 1)⟩,
  ⟨some 49, none, true, .mv (.t 2)⟩,
  ⟨some 50, none, true, .idxS 3 (.t 48) (.t 49)⟩,
  ⟨some 51, none, true, .fadr 1 (.t 50)⟩,
  ⟨some 52, none, true, .ld false 1 (.t 51)⟩,
  ⟨some 53, none, false, .bin .leq (.t 47) (.t 52)⟩]

def f43r6 : List Abs.Op := [
  ⟨some 54, none, false, .mv (.t 7)⟩,
  ⟨some 55, none, false, .fadr 1 (.t 9)⟩,
  ⟨some 56, none, false, .ldv 9 false 1 55⟩,
  ⟨some 57, none, false, .mx (.t 54) (.t 56)⟩,
  ⟨some 7, none, false, .mv (.t 57)⟩]

def f43r7 : List Abs.Op := [
  ⟨some 58, none, false, .bin .add (.t 36) (.c (.int .i64 1))⟩,
  ⟨some 36, none, false, .mv (.t 58)⟩]

def f_rock_bedded_pressure_l8 : Abs.Cmd :=
  (.seq (.reg [1, 2, 7, 34, 35, 36, 37] f43r3) (.seq (.ite (.t 37) .nop (.exit 0)) (.seq (.blk 1 (.seq (.reg [1, 2, 7, 9, 34, 35, 36] f43r4) (.seq (.reg [1, 2, 7, 9, 34, 35, 36, 53] f43r5) (.ite (.t 53) (.reg [1, 2, 7, 34, 35, 36] f43r6) .nop)))) (.reg [1, 2, 7, 34, 35, 36] f43r7))))

def f43r9 : List Abs.Op := [
  ⟨some 59, none, false, .mv (.t 7)⟩,
  ⟨some 6, none, false, .mv (.t 59)⟩]

def a_rock_bedded_pressure : Ann := ⟨[(8, [6]), (7, [1, 2, 7, 34, 35, 36]), (6, [1, 2, 7, 34, 35, 36]), (5, [1, 2, 7, 9, 34, 35, 36, 53]), (4, [1, 2, 7, 9, 34, 35, 36]), (3, [1, 2, 7, 34, 35, 36, 37]), (2, [1, 2, 7, 34, 35, 36]), (1, [1, 2, 3, 7]), (0, [1, 2, 3])], [(0, [1, 2, 7, 34, 35, 36])], [], [9], [9], [], [], [], [], [], []⟩
def f_rock_bedded_pressure : Abs.Fn := ⟨3, [.t 6],
  (.seq (.reg [1, 2, 3] f43r0) (.seq (.reg [1, 2, 3, 7] f43r1) (.seq (.seq (.reg [1, 2, 7, 34, 35, 36] f43r2) (.blk 0 (.loop [1, 2, 7, 34, 35, 36] false f_rock_bedded_pressure_l8))) (.seq (.reg [6] f43r9) .ret))))⟩

@[simp] theorem e43r0 : type_of% f43r0.eq_1 := by_rfl f43r0.eq_1
@[simp] theorem e43r1 : type_of% f43r1.eq_1 := by_rfl f43r1.eq_1
@[simp] theorem e43r2 : type_of% f43r2.eq_1 := by_rfl f43r2.eq_1
@[simp] theorem e43r3 : type_of% f43r3.eq_1 := by_rfl f43r3.eq_1
@[simp] theorem e43r4 : type_of% f43r4.eq_1 := by_rfl f43r4.eq_1
@[simp] theorem e43r5 : type_of% f43r5.eq_1 := by_rfl f43r5.eq_1
@[simp] theorem e43r6 : type_of% f43r6.eq_1 := by_rfl f43r6.eq_1
@[simp] theorem e43r7 : type_of% f43r7.eq_1 := by_rfl f43r7.eq_1
@[simp] theorem e43r9 : type_of% f43r9.eq_1 := by_rfl f43r9.eq_1
theorem e_rock_bedded_pressure_l8 : type_of% f_rock_bedded_pressure_l8.eq_1 := by_rfl f_rock_bedded_pressure_l8.eq_1
theorem e_rock_bedded_pressure : type_of% f_rock_bedded_pressure.eq_1 := by_rfl f_rock_bedded_pressure.eq_1
theorem ok_rock_bedded_pressure : fnC Tryz.prog a_rock_bedded_pressure Tryz.f43 = some f_rock_bedded_pressure := by kernel_rfl

end Go.Proofs.YtehandllpmlcoaaGreat
