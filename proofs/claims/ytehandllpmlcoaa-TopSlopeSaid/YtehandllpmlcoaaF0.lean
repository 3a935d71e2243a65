/- The code of functions of the program, in the small instruction set; each is what the translation makes of it. -/
import Derived.Test.YtehandllpmlcoaaIds
set_option linter.unusedVariables false
set_option maxRecDepth 100000
namespace Go.Proofs.Ytehandllpmlcoaa
open Go Go.Abs
/-! 3 fumarole/fumaroletop.TopSlope -/
def f_top_TopSlope_r0 : List Abs.Op := [
  ⟨some 8, none, false, .mv (.c (.bool false))⟩]

def f_top_TopSlope_r1 : List Abs.Op := [
  ⟨some 26, none, false, .mv (.t 0)⟩,
  ⟨some 27, none, false, .cvt .i64 (.t 26)⟩,
  ⟨some 28, none, false, .bin .rem (.t 27) (.c (.int .i64 1001))⟩,
  ⟨some 29, none, false, .bin .add (.c (.int .i64 1000)) (.t 28)⟩,
  ⟨some 30, none, false, .mv (.t 1)⟩,
  ⟨some 31, none, false, .cvt .i64 (.t 30)⟩,
  ⟨some 32, none, false, .bin .rem (.t 31) (.c (.int .i64 50))⟩,
  ⟨some 33, none, false, .bin .add (.c (.int .i64 1)) (.t 32)⟩,
  ⟨some 9, none, false, .mv (.t 29)⟩,
  ⟨some 10, none, false, .mv (.t 33)⟩]

def f_top_TopSlope_r2 : List Abs.Op := [
  ⟨some 34, none, false, .mv (.t 2)⟩,
  ⟨some 35, none, false, .lenS (.t 34)⟩,
  ⟨some 36, none, false, .bin .lss (.t 35) (.c (.int .i64 1))⟩,
  ⟨some 37, none, false, .mv (.t 36)⟩,
  ⟨some 38, some (37, false), false, .mv (.t 2)⟩,
  ⟨some 39, some (37, false), false, .lenS (.t 38)⟩,
  ⟨some 40, some (37, false), false, .bin .gtr (.t 39) (.c (.int .i64 6))⟩,
  ⟨some 41, none, false, .pick (.t 37) (.c (.bool true)) (.t 40)⟩]

def f_top_TopSlope_r3 : List Abs.Op := [
  ⟨some 42, none, false, .call false (.c (.fn i_top_still [] [])) []⟩,
  ⟨some 8, none, false, .mv (.t 42)⟩]

def f_top_TopSlope_r4 : List Abs.Op := [
  ⟨some 44, none, false, .mv (.t 9)⟩,
  ⟨some 45, none, false, .mv (.t 10)⟩,
  ⟨some 46, none, false, .call false (.c (.fn i_top_alone [] [])) [(.t 44), (.t 45)]⟩,
  ⟨some 43, none, false, .mv (.t 46)⟩,
  ⟨some 47, none, false, .ext (.t 43) 0⟩,
  ⟨some 48, none, false, .ext (.t 43) 1⟩,
  ⟨some 11, none, false, .alcv [] [(.int .i64 0), (.int .i64 0), (.int .i64 0), (.int .i64 0), .nils, (.int .i64 0), (.int .i64 0), (.int .i64 0), .nils]⟩,
  ⟨some 12, none, false, .alcv [] [(.str []), .nils]⟩,
  ⟨none, none, false, .stv 11 [] 9 11 (.t 47)⟩,
  ⟨none, none, false, .stv 12 [] 2 12 (.t 48)⟩]

def f_top_TopSlope_r5 : List Abs.Op := [
  ⟨some 49, none, false, .bld [(.int .i64 0), (.int .i64 0)] [(1, 1, (.c (.int .i64 9)))]⟩,
  ⟨some 50, none, false, .mv (.t 10)⟩,
  ⟨some 51, none, false, .bin .sub (.t 50) (.c (.int .i64 9))⟩,
  ⟨some 52, none, false, .mx (.c (.int .i64 0)) (.t 51)⟩,
  ⟨some 53, none, false, .mv (.t 10)⟩,
  ⟨some 54, none, false, .bin .add (.t 53) (.c (.int .i64 9))⟩,
  ⟨some 55, none, false, .bld [(.int .i64 0), (.int .i64 0)] [(0, 1, (.t 52)), (1, 1, (.t 54))]⟩,
  ⟨some 56, none, false, .bld [(.int .i64 0), (.int .i64 0)] [(1, 1, (.c (.int .i64 2)))]⟩,
  ⟨some 57, none, false, .bld [(.int .i64 0), (.int .i64 0), (.int .i64 0), (.int .i64 0), (.int .i64 0), (.int .i64 0), .nils] [(0, 2, (.t 49)), (2, 2, (.t 55)), (4, 2, (.t 56))]⟩,
  ⟨some 13, none, false, .alcv [] [(.int .i64 0), (.int .i64 0), (.int .i64 0), (.int .i64 0), (.int .i64 0), (.int .i64 0), .nils]⟩,
  ⟨none, none, false, .stv 13 [(6, 3)] 7 13 (.t 57)⟩]

def f_top_TopSlope_r6 : List Abs.Op := [
  ⟨some 14, none, false, .nilb 1⟩]

def f_top_TopSlope_r7 : List Abs.Op := [
  ⟨some 15, none, false, .mv (.c (.int .i64 0))⟩]

def f_top_TopSlope_r8 : List Abs.Op := [
  ⟨some 58, none, false, .mv (.t 15)⟩,
  ⟨some 59, none, false, .mv (.t 2)⟩,
  ⟨some 60, none, false, .lenS (.t 59)⟩,
  ⟨some 61, none, false, .bin .leq (.t 58) (.t 60)⟩]

def f_top_TopSlope_r9 : List Abs.Op := [
  ⟨some 64, none, false, .mv (.t 3)⟩,
  ⟨some 65, none, false, .cvt .i64 (.t 64)⟩,
  ⟨some 66, none, false, .bin .rem (.t 65) (.c (.int .i64 1001))⟩,
  ⟨some 16, none, false, .mv (.t 66)⟩]

def f_top_TopSlope_r10 : List Abs.Op := [
  ⟨some 67, none, false, .mv (.t 15)⟩,
  ⟨some 68, none, false, .mv (.t 2)⟩,
  ⟨some 69, none, false, .lenS (.t 68)⟩,
  ⟨some 70, none, false, .bin .lss (.t 67) (.t 69)⟩]

def f_top_TopSlope_r11 : List Abs.Op := [
  ⟨some 71, none, false, .mv (.t 2)⟩,
  ⟨some 72, none, false, .mv (.t 15)⟩,
  ⟨some 73, none, false, .idxS 1 (.t 71) (.t 72)⟩,
  ⟨some 74, none, false, .ld false 1 (.t 73)⟩,
  ⟨some 75, none, false, .cvt .i64 (.t 74)⟩,
  ⟨some 76, none, false, .bin .rem (.t 75) (.c (.int .i64 1001))⟩,
  ⟨some 16, none, false, .mv (.t 76)⟩]

def f_top_TopSlope_r12 : List Abs.Op := [
  ⟨some 78, none, false, .ldv 11 true 9 11⟩,
  ⟨some 79, none, false, .ldv 12 true 2 12⟩,
  ⟨some 80, none, false, .bsi 1 1 [(.int .i64 0)] [(0, 1, (.c (.int .i64 (-10000))))]⟩,
  ⟨some 81, none, false, .mv (.t 16)⟩,
  ⟨some 82, none, false, .bsi 1 1 [(.int .i64 0)] [(0, 1, (.t 81))]⟩,
  ⟨some 83, none, false, .bsi 2 1 [.nils, .nils] [(0, 1, (.t 80)), (1, 1, (.t 82))]⟩,
  ⟨some 84, none, false, .call false (.c (.fn i_rock_Play [] [])) [(.t 78), (.t 79), (.t 83)]⟩,
  ⟨some 77, none, false, .mv (.t 84)⟩,
  ⟨some 85, none, false, .ext (.t 77) 0⟩,
  ⟨some 86, none, false, .ext (.t 77) 1⟩,
  ⟨some 17, none, false, .alcv [] [.nils, .nils]⟩,
  ⟨none, none, false, .stv 17 [] 2 17 (.t 85)⟩,
  ⟨some 18, none, false, .mv (.t 86)⟩]

def f_top_TopSlope_r13 : List Abs.Op := [
  ⟨some 87, none, false, .mv (.t 18)⟩,
  ⟨some 88, none, false, .bin .neq (.t 87) (.c (.int .i64 0))⟩,
  ⟨some 89, none, false, .mv (.t 88)⟩,
  ⟨some 90, some (89, false), false, .fadr 0 (.t 17)⟩,
  ⟨some 91, some (89, false), false, .ldv 17 false 1 90⟩,
  ⟨some 92, some (89, false), false, .lenS (.t 91)⟩,
  ⟨some 93, some (89, false), false, .bin .neq (.t 92) (.c (.int .i64 3))⟩,
  ⟨some 94, none, false, .pick (.t 89) (.c (.bool true)) (.t 93)⟩]

def f_top_TopSlope_r14 : List Abs.Op := [
  ⟨some 8, none, false, .mv (.c (.bool false))⟩]

def f_top_TopSlope_r15 : List Abs.Op := [
  ⟨some 96, none, true, .ldv 11 true 9 11⟩,
  ⟨some 97, none, true, .ldv 12 true 2 12⟩,
  ⟨some 98, none, true, .fadr 0 (.t 17)⟩,
  ⟨some 99, none, true, .ldv 17 false 1 98⟩,
  ⟨some 100, none, true, .idxS 1 (.t 99) (.c (.int .i64 1))⟩,
  ⟨some 101, none, true, .ld false 1 (.t 100)⟩,
  ⟨some 102, none, true, .call false (.c (.fn i_rock_Pressures [] [])) [(.t 96), (.t 97), (.t 101)]⟩,
  ⟨some 95, none, true, .mv (.t 102)⟩,
  ⟨some 103, none, true, .ext (.t 95) 0⟩,
  ⟨some 104, none, true, .ext (.t 95) 1⟩,
  ⟨some 19, none, true, .mv (.t 103)⟩,
  ⟨some 20, none, false, .mv (.t 104)⟩]

def f_top_TopSlope_r16 : List Abs.Op := [
  ⟨some 106, none, true, .ldv 11 true 9 11⟩,
  ⟨some 107, none, true, .ldv 12 true 2 12⟩,
  ⟨some 108, none, true, .fadr 0 (.t 17)⟩,
  ⟨some 109, none, true, .ldv 17 false 1 108⟩,
  ⟨some 110, none, true, .idxS 1 (.t 109) (.c (.int .i64 2))⟩,
  ⟨some 111, none, true, .ld false 1 (.t 110)⟩,
  ⟨some 112, none, true, .call false (.c (.fn i_rock_Pressures [] [])) [(.t 106), (.t 107), (.t 111)]⟩,
  ⟨some 105, none, true, .mv (.t 112)⟩,
  ⟨some 113, none, true, .ext (.t 105) 0⟩,
  ⟨some 114, none, true, .ext (.t 105) 1⟩,
  ⟨some 21, none, true, .mv (.t 113)⟩,
  ⟨some 22, none, false, .mv (.t 114)⟩]

def f_top_TopSlope_r17 : List Abs.Op := [
  ⟨some 115, none, false, .mv (.t 20)⟩,
  ⟨some 116, none, false, .bin .neq (.t 115) (.c (.int .i64 0))⟩,
  ⟨some 117, none, false, .mv (.t 116)⟩,
  ⟨some 118, some (117, false), false, .mv (.t 22)⟩,
  ⟨some 119, some (117, false), false, .bin .neq (.t 118) (.c (.int .i64 0))⟩,
  ⟨some 120, none, false, .pick (.t 117) (.c (.bool true)) (.t 119)⟩,
  ⟨some 121, none, false, .mv (.t 120)⟩,
  ⟨some 122, some (121, false), false, .mv (.t 19)⟩,
  ⟨some 123, some (121, false), false, .lenS (.t 122)⟩,
  ⟨some 124, some (121, false), false, .bin .neq (.t 123) (.c (.int .i64 1))⟩,
  ⟨some 125, none, false, .pick (.t 121) (.c (.bool true)) (.t 124)⟩,
  ⟨some 126, none, false, .mv (.t 125)⟩,
  ⟨some 127, some (126, false), false, .mv (.t 21)⟩,
  ⟨some 128, some (126, false), false, .lenS (.t 127)⟩,
  ⟨some 129, some (126, false), false, .bin .neq (.t 128) (.c (.int .i64 1))⟩,
  ⟨some 130, none, false, .pick (.t 126) (.c (.bool true)) (.t 129)⟩]

def f_top_TopSlope_r18 : List Abs.Op := [
  ⟨some 8, none, false, .mv (.c (.bool false))⟩]

def f_top_TopSlope_r19 : List Abs.Op := [
  ⟨some 131, none, true, .mv (.t 14)⟩,
  ⟨some 132, none, true, .mv (.t 19)⟩,
  ⟨some 133, none, true, .idxS 1 (.t 132) (.c (.int .i64 0))⟩,
  ⟨some 134, none, true, .ld false 1 (.t 133)⟩,
  ⟨some 135, none, true, .mv (.t 21)⟩,
  ⟨some 136, none, true, .idxS 1 (.t 135) (.c (.int .i64 0))⟩,
  ⟨some 137, none, true, .ld false 1 (.t 136)⟩,
  ⟨some 138, none, true, .bin .sub (.t 134) (.t 137)⟩,
  ⟨some 139, none, true, .bsi 1 1 [(.int .i64 0)] [(0, 1, (.t 138))]⟩,
  ⟨some 140, none, false, .app 1 8 (.t 131) (.t 139)⟩,
  ⟨some 14, none, false, .mv (.t 140)⟩]

def f_top_TopSlope_r20 : List Abs.Op := [
  ⟨some 141, none, false, .mv (.t 15)⟩,
  ⟨some 142, none, false, .mv (.t 2)⟩,
  ⟨some 143, none, false, .lenS (.t 142)⟩,
  ⟨some 144, none, false, .bin .lss (.t 141) (.t 143)⟩]

def f_top_TopSlope_r21 : List Abs.Op := [
  ⟨some 145, none, true, .fadr 6 (.t 13)⟩,
  ⟨some 146, none, true, .ldv 13 false 1 145⟩,
  ⟨some 147, none, true, .mv (.t 16)⟩,
  ⟨some 148, none, true, .mv (.t 19)⟩,
  ⟨some 149, none, true, .idxS 1 (.t 148) (.c (.int .i64 0))⟩,
  ⟨some 150, none, true, .ld false 1 (.t 149)⟩,
  ⟨some 151, none, true, .mv (.t 21)⟩,
  ⟨some 152, none, true, .idxS 1 (.t 151) (.c (.int .i64 0))⟩,
  ⟨some 153, none, true, .ld false 1 (.t 152)⟩,
  ⟨some 154, none, true, .bin .sub (.t 150) (.t 153)⟩,
  ⟨some 155, none, true, .mv (.t 19)⟩,
  ⟨some 156, none, true, .idxS 1 (.t 155) (.c (.int .i64 0))⟩,
  ⟨some 157, none, true, .ld false 1 (.t 156)⟩,
  ⟨some 158, none, true, .mv (.t 21)⟩,
  ⟨some 159, none, true, .idxS 1 (.t 158) (.c (.int .i64 0))⟩,
  ⟨some 160, none, true, .ld false 1 (.t 159)⟩,
  ⟨some 161, none, true, .bin .sub (.t 157) (.t 160)⟩,
  ⟨some 162, none, true, .bld [(.int .i64 0), (.int .i64 0)] [(0, 1, (.t 154)), (1, 1, (.t 161))]⟩,
  ⟨some 163, none, true, .bld [(.int .i64 0), (.int .i64 0), (.int .i64 0)] [(0, 1, (.t 147)), (1, 2, (.t 162))]⟩,
  ⟨some 164, none, true, .bsi 1 3 [(.int .i64 0), (.int .i64 0), (.int .i64 0)] [(0, 3, (.t 163))]⟩,
  ⟨some 165, none, false, .app 3 24 (.t 146) (.t 164)⟩,
  ⟨some 166, none, false, .fadr 6 (.t 13)⟩,
  ⟨none, none, false, .stv 13 [(0, 3)] 1 166 (.t 165)⟩]

def f_top_TopSlope_r22 : List Abs.Op := [
  ⟨some 62, none, false, .mv (.t 15)⟩,
  ⟨some 63, none, false, .bin .add (.t 62) (.c (.int .i64 1))⟩,
  ⟨some 15, none, false, .mv (.t 63)⟩]

def f_top_TopSlope_l23 : Abs.Cmd :=
  (.seq (.seq (.reg [2, 3, 10, 11, 12, 13, 14, 15, 61] f_top_TopSlope_r8) (.ite (.t 61) .nop (.exit 0))) (.seq (.blk 1 (.seq (.reg [2, 3, 10, 11, 12, 13, 14, 15, 16] f_top_TopSlope_r9) (.seq (.seq (.reg [2, 3, 10, 11, 12, 13, 14, 15, 16, 70] f_top_TopSlope_r10) (.ite (.t 70) (.reg [2, 3, 10, 11, 12, 13, 14, 15, 16] f_top_TopSlope_r11) .nop)) (.seq (.reg [2, 3, 10, 11, 12, 13, 14, 15, 16, 17, 18] f_top_TopSlope_r12) (.seq (.seq (.reg [2, 3, 10, 11, 12, 13, 14, 15, 16, 17, 94] f_top_TopSlope_r13) (.ite (.t 94) (.seq (.reg [8] f_top_TopSlope_r14) .ret) .nop)) (.seq (.reg [2, 3, 10, 11, 12, 13, 14, 15, 16, 17, 19, 20] f_top_TopSlope_r15) (.seq (.reg [2, 3, 10, 11, 12, 13, 14, 15, 16, 19, 20, 21, 22] f_top_TopSlope_r16) (.seq (.seq (.reg [2, 3, 10, 11, 12, 13, 14, 15, 16, 19, 21, 130] f_top_TopSlope_r17) (.ite (.t 130) (.seq (.reg [8] f_top_TopSlope_r18) .ret) .nop)) (.seq (.reg [2, 3, 10, 11, 12, 13, 14, 15, 16, 19, 21] f_top_TopSlope_r19) (.seq (.reg [2, 3, 10, 11, 12, 13, 14, 15, 16, 19, 21, 144] f_top_TopSlope_r20) (.ite (.t 144) (.reg [2, 3, 10, 11, 12, 13, 14, 15] f_top_TopSlope_r21) .nop))))))))))) (.reg [2, 3, 10, 11, 12, 13, 14, 15] f_top_TopSlope_r22)))

def f_top_TopSlope_r24 : List Abs.Op := [
  ⟨some 168, none, false, .ldv 13 true 7 13⟩,
  ⟨some 169, none, false, .mv (.t 3)⟩,
  ⟨some 170, none, false, .cvt .i64 (.t 169)⟩,
  ⟨some 171, none, false, .bin .rem (.t 170) (.c (.int .i64 1001))⟩,
  ⟨some 172, none, false, .call false (.c (.fn i_trial_Drawdown [] [])) [(.t 168), (.t 171)]⟩,
  ⟨some 167, none, false, .mv (.t 172)⟩,
  ⟨some 173, none, false, .ext (.t 167) 0⟩,
  ⟨some 174, none, false, .ext (.t 167) 1⟩,
  ⟨some 23, none, false, .alcv [] [(.int .i64 0), (.int .i64 0)]⟩,
  ⟨none, none, false, .stv 23 [] 2 23 (.t 173)⟩,
  ⟨some 24, none, false, .mv (.t 174)⟩]

def f_top_TopSlope_r25 : List Abs.Op := [
  ⟨some 175, none, false, .mv (.t 14)⟩,
  ⟨some 176, none, false, .mv (.t 2)⟩,
  ⟨some 177, none, false, .lenS (.t 176)⟩,
  ⟨some 178, none, false, .idxS 1 (.t 175) (.t 177)⟩,
  ⟨some 179, none, false, .ld false 1 (.t 178)⟩,
  ⟨some 25, none, false, .mv (.t 179)⟩]

def f_top_TopSlope_r26 : List Abs.Op := [
  ⟨some 180, none, false, .mv (.t 24)⟩,
  ⟨some 181, none, false, .bin .eql (.t 180) (.c (.int .i64 0))⟩,
  ⟨some 182, none, false, .mv (.t 181)⟩,
  ⟨some 183, some (182, true), false, .ldv 13 true 7 13⟩,
  ⟨some 184, some (182, true), false, .mv (.t 10)⟩,
  ⟨some 185, some (182, true), false, .bld [(.int .i64 0), (.int .i64 0), (.int .i64 0)] [(1, 1, (.t 184))]⟩,
  ⟨some 186, some (182, true), false, .call false (.c (.fn i_trial_Agrees [] [])) [(.t 183), (.t 185)]⟩,
  ⟨some 187, none, false, .pick (.t 182) (.t 186) (.c (.bool false))⟩,
  ⟨some 188, none, false, .mv (.t 187)⟩,
  ⟨some 189, some (188, true), false, .fadr 0 (.t 23)⟩,
  ⟨some 190, some (188, true), false, .ldv 23 false 1 189⟩,
  ⟨some 191, some (188, true), false, .mv (.t 25)⟩,
  ⟨some 192, some (188, true), false, .bin .leq (.t 190) (.t 191)⟩,
  ⟨some 193, none, false, .pick (.t 188) (.t 192) (.c (.bool false))⟩,
  ⟨some 194, none, false, .mv (.t 193)⟩,
  ⟨some 195, some (194, true), false, .mv (.t 25)⟩,
  ⟨some 196, some (194, true), false, .fadr 1 (.t 23)⟩,
  ⟨some 197, some (194, true), false, .ldv 23 false 1 196⟩,
  ⟨some 198, some (194, true), false, .bin .leq (.t 195) (.t 197)⟩,
  ⟨some 199, none, false, .pick (.t 194) (.t 198) (.c (.bool false))⟩,
  ⟨some 200, none, false, .mv (.t 199)⟩,
  ⟨some 201, some (200, true), false, .call false (.c (.fn i_top_still [] [])) []⟩,
  ⟨some 202, none, false, .pick (.t 200) (.t 201) (.c (.bool false))⟩,
  ⟨some 8, none, false, .mv (.t 202)⟩]

def a_top_TopSlope : Ann := ⟨[(25, [8]), (24, [10, 13, 23, 24, 25]), (23, [2, 10, 13, 14, 23, 24]), (9, [2, 3, 10, 11, 12, 13, 14, 15]), (22, [2, 3, 10, 11, 12, 13, 14, 15]), (21, [2, 3, 10, 11, 12, 13, 14, 15, 16, 19, 21, 144]), (20, [2, 3, 10, 11, 12, 13, 14, 15, 16, 19, 21]), (19, [8]), (18, [2, 3, 10, 11, 12, 13, 14, 15, 16, 19, 21, 130]), (17, [2, 3, 10, 11, 12, 13, 14, 15, 16, 19, 20, 21, 22]), (16, [2, 3, 10, 11, 12, 13, 14, 15, 16, 17, 19, 20]), (15, [8]), (14, [2, 3, 10, 11, 12, 13, 14, 15, 16, 17, 94]), (13, [2, 3, 10, 11, 12, 13, 14, 15, 16, 17, 18]), (12, [2, 3, 10, 11, 12, 13, 14, 15, 16]), (11, [2, 3, 10, 11, 12, 13, 14, 15, 16, 70]), (10, [2, 3, 10, 11, 12, 13, 14, 15, 16]), (8, [2, 3, 10, 11, 12, 13, 14, 15, 61]), (7, [2, 3, 10, 11, 12, 13, 14, 15]), (6, [2, 3, 10, 11, 12, 13, 14]), (5, [2, 3, 10, 11, 12, 13]), (4, [2, 3, 10, 11, 12]), (3, [8]), (2, [2, 3, 9, 10, 41]), (1, [2, 3, 9, 10]), (0, [0, 1, 2, 3])], [(0, [2, 3, 10, 11, 12, 13, 14, 15])], [], [11, 12, 13, 14, 17, 23], [11, 12, 13, 17, 23], [(5010, [(6, 3)]), (22022, [(0, 3)])], [], [(23, [13])], [], [], []⟩
def f_top_TopSlope : Abs.Fn := ⟨4, [.t 8],
  (.seq (.reg [0, 1, 2, 3] f_top_TopSlope_r0) (.seq (.reg [2, 3, 9, 10] f_top_TopSlope_r1) (.seq (.seq (.reg [2, 3, 9, 10, 41] f_top_TopSlope_r2) (.ite (.t 41) (.seq (.reg [8] f_top_TopSlope_r3) .ret) .nop)) (.seq (.reg [2, 3, 10, 11, 12] f_top_TopSlope_r4) (.seq (.reg [2, 3, 10, 11, 12, 13] f_top_TopSlope_r5) (.seq (.reg [2, 3, 10, 11, 12, 13, 14] f_top_TopSlope_r6) (.seq (.seq (.reg [2, 3, 10, 11, 12, 13, 14, 15] f_top_TopSlope_r7) (.blk 0 (.loop [2, 3, 10, 11, 12, 13, 14, 15] false f_top_TopSlope_l23))) (.seq (.seq (.frz [13]) (.reg [2, 10, 13, 14, 23, 24] f_top_TopSlope_r24)) (.seq (.reg [10, 13, 23, 24, 25] f_top_TopSlope_r25) (.seq (.reg [8] f_top_TopSlope_r26) .ret))))))))))⟩

@[simp] theorem e_top_TopSlope_r0 : type_of% f_top_TopSlope_r0.eq_1 := by_rfl f_top_TopSlope_r0.eq_1
@[simp] theorem e_top_TopSlope_r1 : type_of% f_top_TopSlope_r1.eq_1 := by_rfl f_top_TopSlope_r1.eq_1
@[simp] theorem e_top_TopSlope_r2 : type_of% f_top_TopSlope_r2.eq_1 := by_rfl f_top_TopSlope_r2.eq_1
@[simp] theorem e_top_TopSlope_r3 : type_of% f_top_TopSlope_r3.eq_1 := by_rfl f_top_TopSlope_r3.eq_1
@[simp] theorem e_top_TopSlope_r4 : type_of% f_top_TopSlope_r4.eq_1 := by_rfl f_top_TopSlope_r4.eq_1
@[simp] theorem e_top_TopSlope_r5 : type_of% f_top_TopSlope_r5.eq_1 := by_rfl f_top_TopSlope_r5.eq_1
@[simp] theorem e_top_TopSlope_r6 : type_of% f_top_TopSlope_r6.eq_1 := by_rfl f_top_TopSlope_r6.eq_1
@[simp] theorem e_top_TopSlope_r7 : type_of% f_top_TopSlope_r7.eq_1 := by_rfl f_top_TopSlope_r7.eq_1
@[simp] theorem e_top_TopSlope_r8 : type_of% f_top_TopSlope_r8.eq_1 := by_rfl f_top_TopSlope_r8.eq_1
@[simp] theorem e_top_TopSlope_r9 : type_of% f_top_TopSlope_r9.eq_1 := by_rfl f_top_TopSlope_r9.eq_1
@[simp] theorem e_top_TopSlope_r10 : type_of% f_top_TopSlope_r10.eq_1 := by_rfl f_top_TopSlope_r10.eq_1
@[simp] theorem e_top_TopSlope_r11 : type_of% f_top_TopSlope_r11.eq_1 := by_rfl f_top_TopSlope_r11.eq_1
@[simp] theorem e_top_TopSlope_r12 : type_of% f_top_TopSlope_r12.eq_1 := by_rfl f_top_TopSlope_r12.eq_1
@[simp] theorem e_top_TopSlope_r13 : type_of% f_top_TopSlope_r13.eq_1 := by_rfl f_top_TopSlope_r13.eq_1
@[simp] theorem e_top_TopSlope_r14 : type_of% f_top_TopSlope_r14.eq_1 := by_rfl f_top_TopSlope_r14.eq_1
@[simp] theorem e_top_TopSlope_r15 : type_of% f_top_TopSlope_r15.eq_1 := by_rfl f_top_TopSlope_r15.eq_1
@[simp] theorem e_top_TopSlope_r16 : type_of% f_top_TopSlope_r16.eq_1 := by_rfl f_top_TopSlope_r16.eq_1
@[simp] theorem e_top_TopSlope_r17 : type_of% f_top_TopSlope_r17.eq_1 := by_rfl f_top_TopSlope_r17.eq_1
@[simp] theorem e_top_TopSlope_r18 : type_of% f_top_TopSlope_r18.eq_1 := by_rfl f_top_TopSlope_r18.eq_1
@[simp] theorem e_top_TopSlope_r19 : type_of% f_top_TopSlope_r19.eq_1 := by_rfl f_top_TopSlope_r19.eq_1
@[simp] theorem e_top_TopSlope_r20 : type_of% f_top_TopSlope_r20.eq_1 := by_rfl f_top_TopSlope_r20.eq_1
@[simp] theorem e_top_TopSlope_r21 : type_of% f_top_TopSlope_r21.eq_1 := by_rfl f_top_TopSlope_r21.eq_1
@[simp] theorem e_top_TopSlope_r22 : type_of% f_top_TopSlope_r22.eq_1 := by_rfl f_top_TopSlope_r22.eq_1
theorem e_top_TopSlope_l23 : type_of% f_top_TopSlope_l23.eq_1 := by_rfl f_top_TopSlope_l23.eq_1
@[simp] theorem e_top_TopSlope_r24 : type_of% f_top_TopSlope_r24.eq_1 := by_rfl f_top_TopSlope_r24.eq_1
@[simp] theorem e_top_TopSlope_r25 : type_of% f_top_TopSlope_r25.eq_1 := by_rfl f_top_TopSlope_r25.eq_1
@[simp] theorem e_top_TopSlope_r26 : type_of% f_top_TopSlope_r26.eq_1 := by_rfl f_top_TopSlope_r26.eq_1
theorem e_top_TopSlope : type_of% f_top_TopSlope.eq_1 := by_rfl f_top_TopSlope.eq_1
theorem ok_top_TopSlope : fnC Try.prog a_top_TopSlope Try.f3 = some f_top_TopSlope := by kernel_rfl

/-! 5 fumarole/fumaroletop.still -/
def f_top_still_r0 : List Abs.Op := [
  ⟨some 0, none, false, .mv (.c (.bool false))⟩]

def f_top_still_r1 : List Abs.Op := [
  ⟨some 4, none, false, .bld [(.int .i64 0), (.int .i64 0), (.int .i64 0), (.int .i64 0)] [(0, 1, (.c (.int .i64 1))), (1, 1, (.c (.int .i64 1))), (2, 1, (.c (.int .i64 1))), (3, 1, (.c (.int .i64 4)))]⟩,
  ⟨some 5, none, false, .call false (.c (.fn i_law01_Three [] [])) []⟩,
  ⟨some 6, none, false, .bld [(.int .i64 0), (.int .i64 0), (.int .i64 0), (.int .i64 0), .nils, (.int .i64 0), (.int .i64 0), (.int .i64 0), .nils] [(0, 4, (.t 4)), (4, 1, (.t 5)), (5, 1, (.c (.int .i64 1)))]⟩,
  ⟨some 1, none, false, .alcv [] [(.int .i64 0), (.int .i64 0), (.int .i64 0), (.int .i64 0), .nils, (.int .i64 0), (.int .i64 0), (.int .i64 0), .nils]⟩,
  ⟨none, none, false, .stv 1 [] 9 1 (.t 6)⟩]

def f_top_still_r2 : List Abs.Op := [
  ⟨some 8, none, false, .ldv 1 true 9 1⟩,
  ⟨some 9, none, false, .bsi 4 1 [(.int .i64 0), (.int .i64 0), (.int .i64 0), (.int .i64 0)] [(0, 1, (.c (.int .i64 1000))), (1, 1, (.c (.int .i64 0))), (2, 1, (.c (.int .i64 2))), (3, 1, (.c (.int .i64 0)))]⟩,
  ⟨some 10, none, false, .bld [(.str []), .nils] [(0, 1, (.c (.str [109]))), (1, 1, (.t 9))]⟩,
  ⟨some 11, none, false, .bsi 0 1 [] []⟩,
  ⟨some 12, none, false, .bsi 1 1 [.nils] [(0, 1, (.t 11))]⟩,
  ⟨some 13, none, false, .call false (.c (.fn i_rock_Play [] [])) [(.t 8), (.t 10), (.t 12)]⟩,
  ⟨some 7, none, false, .mv (.t 13)⟩,
  ⟨some 14, none, false, .ext (.t 7) 0⟩,
  ⟨some 15, none, false, .ext (.t 7) 1⟩,
  ⟨some 2, none, false, .alcv [] [.nils, .nils]⟩,
  ⟨none, none, false, .stv 2 [] 2 2 (.t 14)⟩,
  ⟨some 3, none, false, .mv (.t 15)⟩]

def f_top_still_r3 : List Abs.Op := [
  ⟨some 16, none, false, .mv (.t 3)⟩,
  ⟨some 17, none, false, .bin .eql (.t 16) (.c (.int .i64 0))⟩,
  ⟨some 18, none, false, .mv (.t 17)⟩,
  ⟨some 19, some (18, true), false, .fadr 0 (.t 2)⟩,
  ⟨some 20, some (18, true), false, .ldv 2 false 1 19⟩,
  ⟨some 21, some (18, true), false, .lenS (.t 20)⟩,
  ⟨some 22, some (18, true), false, .bin .eql (.t 21) (.c (.int .i64 2))⟩,
  ⟨some 23, none, false, .pick (.t 18) (.t 22) (.c (.bool false))⟩,
  ⟨some 24, none, false, .mv (.t 23)⟩,
  ⟨some 25, some (24, true), false, .fadr 0 (.t 2)⟩,
  ⟨some 26, some (24, true), false, .ldv 2 false 1 25⟩,
  ⟨some 27, some (24, true), false, .idxS 1 (.t 26) (.c (.int .i64 1))⟩,
  ⟨some 28, some (24, true), false, .ld false 1 (.t 27)⟩,
  ⟨some 29, some (24, true), false, .lenS (.t 28)⟩,
  ⟨some 30, some (24, true), false, .bin .eql (.t 29) (.c (.int .i64 1))⟩,
  ⟨some 31, none, false, .pick (.t 24) (.t 30) (.c (.bool false))⟩,
  ⟨some 32, none, false, .mv (.t 31)⟩,
  ⟨some 33, some (32, true), false, .fadr 0 (.t 2)⟩,
  ⟨some 34, some (32, true), false, .ldv 2 false 1 33⟩,
  ⟨some 35, some (32, true), false, .idxS 1 (.t 34) (.c (.int .i64 1))⟩,
  ⟨some 36, some (32, true), false, .ld false 1 (.t 35)⟩,
  ⟨some 37, some (32, true), false, .idxS 3 (.t 36) (.c (.int .i64 0))⟩,
  ⟨some 38, some (32, true), false, .ld true 3 (.t 37)⟩,
  ⟨some 39, some (32, true), false, .bld [(.int .i64 0), (.int .i64 0), (.int .i64 0)] [(0, 1, (.c (.int .i64 1000))), (1, 1, (.c (.int .i64 2000)))]⟩,
  ⟨some 40, some (32, true), false, .eqv true [some .i64, some .i64, some .i64] false (.t 38) (.t 39)⟩,
  ⟨some 41, none, false, .pick (.t 32) (.t 40) (.c (.bool false))⟩,
  ⟨some 0, none, false, .mv (.t 41)⟩]

def a_top_still : Ann := ⟨[(3, [0]), (2, [2, 3]), (1, [1]), (0, [])], [], [], [1, 2], [1, 2], [], [], [], [], [], []⟩
def f_top_still : Abs.Fn := ⟨0, [.t 0],
  (.seq (.reg [] f_top_still_r0) (.seq (.reg [1] f_top_still_r1) (.seq (.reg [2, 3] f_top_still_r2) (.seq (.reg [0] f_top_still_r3) .ret))))⟩

@[simp] theorem e_top_still_r0 : type_of% f_top_still_r0.eq_1 := by_rfl f_top_still_r0.eq_1
@[simp] theorem e_top_still_r1 : type_of% f_top_still_r1.eq_1 := by_rfl f_top_still_r1.eq_1
@[simp] theorem e_top_still_r2 : type_of% f_top_still_r2.eq_1 := by_rfl f_top_still_r2.eq_1
@[simp] theorem e_top_still_r3 : type_of% f_top_still_r3.eq_1 := by_rfl f_top_still_r3.eq_1
theorem e_top_still : type_of% f_top_still.eq_1 := by_rfl f_top_still.eq_1
theorem ok_top_still : fnC Try.prog a_top_still Try.f5 = some f_top_still := by kernel_rfl

/-! 6 fumarole/fumaroletop.alone -/
def f_top_alone_r0 : List Abs.Op := [
  ⟨some 4, none, false, .alcv [] [(.int .i64 0), (.int .i64 0), (.int .i64 0), (.int .i64 0), .nils, (.int .i64 0), (.int .i64 0), (.int .i64 0), .nils]⟩,
  ⟨some 5, none, false, .alcv [] [(.str []), .nils]⟩]

def f_top_alone_r1 : List Abs.Op := [
  ⟨some 7, none, false, .bld [(.int .i64 0), (.int .i64 0), (.int .i64 0), (.int .i64 0)] [(0, 1, (.c (.int .i64 1))), (1, 1, (.c (.int .i64 1))), (2, 1, (.c (.int .i64 1))), (3, 1, (.c (.int .i64 4)))]⟩,
  ⟨some 8, none, false, .call false (.c (.fn i_law01_Three [] [])) []⟩,
  ⟨some 9, none, false, .mv (.t 1)⟩,
  ⟨some 10, none, false, .mv (.t 0)⟩,
  ⟨some 11, none, false, .bin .mul (.t 9) (.t 10)⟩,
  ⟨some 12, none, false, .bld [(.int .i64 0), (.int .i64 0), (.int .i64 0)] []⟩,
  ⟨some 13, none, false, .bsi 1 3 [(.int .i64 0), (.int .i64 0), (.int .i64 0)] [(0, 3, (.t 12))]⟩,
  ⟨some 14, none, false, .bld [(.int .i64 0), (.int .i64 0), (.int .i64 0), (.int .i64 0), .nils, (.int .i64 0), (.int .i64 0), (.int .i64 0), .nils] [(0, 4, (.t 7)), (4, 1, (.t 8)), (5, 1, (.t 11)), (8, 1, (.t 13))]⟩,
  ⟨some 6, none, false, .alcv [] [(.int .i64 0), (.int .i64 0), (.int .i64 0), (.int .i64 0), .nils, (.int .i64 0), (.int .i64 0), (.int .i64 0), .nils]⟩,
  ⟨none, none, false, .stv 6 [] 9 6 (.t 14)⟩]

def f_top_alone_r2 : List Abs.Op := [
  ⟨some 15, none, false, .ldv 6 true 9 6⟩,
  ⟨some 16, none, false, .mv (.t 0)⟩,
  ⟨some 17, none, false, .bsi 4 1 [(.int .i64 0), (.int .i64 0), (.int .i64 0), (.int .i64 0)] [(0, 1, (.t 16)), (1, 1, (.c (.int .i64 0))), (2, 1, (.c (.int .i64 0))), (3, 1, (.c (.int .i64 0)))]⟩,
  ⟨some 18, none, false, .bld [(.str []), .nils] [(0, 1, (.c (.str [109]))), (1, 1, (.t 17))]⟩,
  ⟨none, none, false, .stv 4 [] 9 4 (.t 15)⟩,
  ⟨none, none, false, .stv 5 [] 2 5 (.t 18)⟩]

def a_top_alone : Ann := ⟨[(2, [4, 5]), (1, [0, 4, 5, 6]), (0, [0, 1, 4, 5])], [], [], [4, 5, 6], [4, 5, 6], [], [], [], [], [], []⟩
def f_top_alone : Abs.Fn := ⟨2, [.v 4 true 9, .v 5 true 2],
  (.seq (.reg [0, 1, 4, 5] f_top_alone_r0) (.seq (.reg [0, 4, 5, 6] f_top_alone_r1) (.seq (.reg [4, 5] f_top_alone_r2) .ret)))⟩

@[simp] theorem e_top_alone_r0 : type_of% f_top_alone_r0.eq_1 := by_rfl f_top_alone_r0.eq_1
@[simp] theorem e_top_alone_r1 : type_of% f_top_alone_r1.eq_1 := by_rfl f_top_alone_r1.eq_1
@[simp] theorem e_top_alone_r2 : type_of% f_top_alone_r2.eq_1 := by_rfl f_top_alone_r2.eq_1
theorem e_top_alone : type_of% f_top_alone.eq_1 := by_rfl f_top_alone.eq_1
theorem ok_top_alone : fnC Try.prog a_top_alone Try.f6 = some f_top_alone := by kernel_rfl

/-! 7 fumarole/rock.Play -/
def f_rock_Play_r0 : List Abs.Op := [
  ⟨some 3, none, false, .boxi (.t 0)⟩,
  ⟨some 4, none, false, .boxi (.t 1)⟩,
  ⟨some 6, none, false, .alcv [] [.nils, .nils]⟩,
  ⟨some 7, none, false, .alc [] [(.int .i64 0)]⟩]

def f_rock_Play_r1 : List Abs.Op := [
  ⟨some 10, none, false, .ld true 9 (.t 3)⟩,
  ⟨some 11, none, false, .ld true 2 (.t 4)⟩,
  ⟨some 12, none, false, .call false (.c (.fn i_rock_bed [] [])) [(.t 10), (.t 11)]⟩,
  ⟨some 9, none, false, .mv (.t 12)⟩,
  ⟨some 13, none, false, .ext (.t 9) 0⟩,
  ⟨some 14, none, false, .ext (.t 9) 1⟩,
  ⟨some 8, none, false, .alcv [] [(.int .i64 0), (.int .i64 0), (.int .i64 0), (.int .i64 0), .nils, (.int .i64 0), (.int .i64 0), (.int .i64 0), .nils, (.str []), .nils]⟩,
  ⟨none, none, false, .stv 8 [] 11 8 (.t 13)⟩,
  ⟨none, none, false, .st [] 1 (.t 7) (.t 14)⟩]

def f_rock_Play_r2 : List Abs.Op := [
  ⟨some 15, none, false, .ld false 1 (.t 7)⟩,
  ⟨some 16, none, false, .bin .eql (.t 15) (.c (.int .i64 0))⟩]

def f_rock_Play_r3 : List Abs.Op := [
  ⟨some 17, none, false, .ld true 9 (.t 3)⟩,
  ⟨some 18, none, false, .mv (.t 2)⟩,
  ⟨some 19, none, false, .call false (.c (.fn i_rock_Bed_plan [] [])) [(.t 17), (.t 18)]⟩,
  ⟨none, none, false, .st [] 1 (.t 7) (.t 19)⟩]

def f_rock_Play_r4 : List Abs.Op := [
  ⟨some 20, none, false, .ld false 1 (.t 7)⟩,
  ⟨some 21, none, false, .bin .neq (.t 20) (.c (.int .i64 0))⟩]

def f_rock_Play_r5 : List Abs.Op := [
  ⟨some 22, none, true, .bld [.nils, .nils] []⟩,
  ⟨some 23, none, true, .ld false 1 (.t 7)⟩,
  ⟨none, none, true, .stv 6 [] 2 6 (.t 22)⟩,
  ⟨none, none, false, .st [] 1 (.t 7) (.t 23)⟩]

def f_rock_Play_r6 : List Abs.Op := [
  ⟨some 24, none, false, .ldv 8 true 11 8⟩,
  ⟨some 25, none, false, .mv (.t 2)⟩]

def f_rock_Play_r7 : List Abs.Op := [
  ⟨none, none, false, .stv 6 [] 2 6 (.t 26)⟩,
  ⟨none, none, false, .st [] 1 (.t 7) (.c (.int .i64 0))⟩]

def f_rock_Play_b8 : Abs.Cmd :=
  (.seq (.treg [6, 7] f_rock_Play_r6 ⟨some 26, none, false, .call false (.c (.fn i_rock_bedded_run [] [])) [(.t 24), (.t 25)]⟩ f_rock_Play_r7) .ret)

def a_rock_Play : Ann := ⟨[(7, [6, 7]), (6, [2, 6, 7, 8]), (5, [6, 7]), (4, [2, 6, 7, 8, 21]), (3, [2, 6, 7, 8]), (2, [2, 3, 6, 7, 8, 16]), (1, [2, 3, 6, 7, 8]), (0, [2, 3, 4, 6, 7])], [], [], [6, 7, 8], [6, 8], [], [], [], [], [], [(7, some 2)]⟩
def f_rock_Play : Abs.Fn := ⟨3, [.v 6 true 2, .c 7 false 1],
  (.seq (.reg [2, 3, 4, 6, 7] f_rock_Play_r0) (.seq (.reg [2, 3, 6, 7, 8] f_rock_Play_r1) (.seq (.seq (.reg [2, 3, 6, 7, 8, 16] f_rock_Play_r2) (.ite (.t 16) (.reg [2, 6, 7, 8] f_rock_Play_r3) .nop)) (.seq (.seq (.reg [2, 6, 7, 8, 21] f_rock_Play_r4) (.ite (.t 21) (.seq (.reg [6, 7] f_rock_Play_r5) .ret) .nop)) (.dfr (.c (.fn i_rock_caught [] [])) [(.t 7)] f_rock_Play_b8)))))⟩

@[simp] theorem e_rock_Play_r0 : type_of% f_rock_Play_r0.eq_1 := by_rfl f_rock_Play_r0.eq_1
@[simp] theorem e_rock_Play_r1 : type_of% f_rock_Play_r1.eq_1 := by_rfl f_rock_Play_r1.eq_1
@[simp] theorem e_rock_Play_r2 : type_of% f_rock_Play_r2.eq_1 := by_rfl f_rock_Play_r2.eq_1
@[simp] theorem e_rock_Play_r3 : type_of% f_rock_Play_r3.eq_1 := by_rfl f_rock_Play_r3.eq_1
@[simp] theorem e_rock_Play_r4 : type_of% f_rock_Play_r4.eq_1 := by_rfl f_rock_Play_r4.eq_1
@[simp] theorem e_rock_Play_r5 : type_of% f_rock_Play_r5.eq_1 := by_rfl f_rock_Play_r5.eq_1
@[simp] theorem e_rock_Play_r6 : type_of% f_rock_Play_r6.eq_1 := by_rfl f_rock_Play_r6.eq_1
@[simp] theorem e_rock_Play_r7 : type_of% f_rock_Play_r7.eq_1 := by_rfl f_rock_Play_r7.eq_1
theorem e_rock_Play_b8 : type_of% f_rock_Play_b8.eq_1 := by_rfl f_rock_Play_b8.eq_1
theorem e_rock_Play : type_of% f_rock_Play.eq_1 := by_rfl f_rock_Play.eq_1
theorem ok_rock_Play : fnC Try.prog a_rock_Play Try.f7 = some f_rock_Play := by kernel_rfl

/-! 8 fumarole/rock.Pressures -/
def f_rock_Pressures_r0 : List Abs.Op := [
  ⟨some 3, none, false, .boxi (.t 0)⟩,
  ⟨some 4, none, false, .boxi (.t 1)⟩,
  ⟨some 6, none, false, .mv (.c .nils)⟩,
  ⟨some 7, none, false, .mv (.c (.int .i64 0))⟩]

def f_rock_Pressures_r1 : List Abs.Op := [
  ⟨some 11, none, false, .ld true 9 (.t 3)⟩,
  ⟨some 12, none, false, .ld true 2 (.t 4)⟩,
  ⟨some 13, none, false, .call false (.c (.fn i_rock_bed [] [])) [(.t 11), (.t 12)]⟩,
  ⟨some 10, none, false, .mv (.t 13)⟩,
  ⟨some 14, none, false, .ext (.t 10) 0⟩,
  ⟨some 15, none, false, .ext (.t 10) 1⟩,
  ⟨some 8, none, false, .alcv [] [(.int .i64 0), (.int .i64 0), (.int .i64 0), (.int .i64 0), .nils, (.int .i64 0), (.int .i64 0), (.int .i64 0), .nils, (.str []), .nils]⟩,
  ⟨none, none, false, .stv 8 [] 11 8 (.t 14)⟩,
  ⟨some 9, none, false, .mv (.t 15)⟩]

def f_rock_Pressures_r2 : List Abs.Op := [
  ⟨some 16, none, false, .mv (.t 9)⟩,
  ⟨some 17, none, false, .bin .neq (.t 16) (.c (.int .i64 0))⟩,
  ⟨some 18, none, false, .mv (.t 17)⟩,
  ⟨some 19, some (18, false), false, .ldv 8 true 11 8⟩,
  ⟨some 20, some (18, false), false, .mv (.t 2)⟩,
  ⟨some 21, some (18, false), false, .call false (.c (.fn i_rock_bedded_state [] [])) [(.t 19), (.t 20)]⟩,
  ⟨some 22, some (18, false), false, .un .not (.t 21)⟩,
  ⟨some 23, none, false, .pick (.t 18) (.c (.bool true)) (.t 22)⟩]

def f_rock_Pressures_r3 : List Abs.Op := [
  ⟨some 6, none, false, .mv (.c .nils)⟩,
  ⟨some 7, none, false, .mv (.c (.int .i64 1))⟩]

def f_rock_Pressures_r4 : List Abs.Op := [
  ⟨some 24, none, false, .ldv 8 true 11 8⟩,
  ⟨some 25, none, false, .mv (.t 2)⟩,
  ⟨some 26, none, false, .call false (.c (.fn i_rock_bedded_pressures [] [])) [(.t 24), (.t 25)]⟩,
  ⟨some 6, none, false, .mv (.t 26)⟩,
  ⟨some 7, none, false, .mv (.c (.int .i64 0))⟩]

def a_rock_Pressures : Ann := ⟨[(4, [6, 7]), (3, [6, 7]), (2, [2, 8, 23]), (1, [2, 8, 9]), (0, [2, 3, 4])], [], [], [8], [8], [], [], [], [], [], []⟩
def f_rock_Pressures : Abs.Fn := ⟨3, [.t 6, .t 7],
  (.seq (.reg [2, 3, 4] f_rock_Pressures_r0) (.seq (.reg [2, 8, 9] f_rock_Pressures_r1) (.seq (.seq (.reg [2, 8, 23] f_rock_Pressures_r2) (.ite (.t 23) (.seq (.reg [6, 7] f_rock_Pressures_r3) .ret) .nop)) (.seq (.reg [6, 7] f_rock_Pressures_r4) .ret))))⟩

@[simp] theorem e_rock_Pressures_r0 : type_of% f_rock_Pressures_r0.eq_1 := by_rfl f_rock_Pressures_r0.eq_1
@[simp] theorem e_rock_Pressures_r1 : type_of% f_rock_Pressures_r1.eq_1 := by_rfl f_rock_Pressures_r1.eq_1
@[simp] theorem e_rock_Pressures_r2 : type_of% f_rock_Pressures_r2.eq_1 := by_rfl f_rock_Pressures_r2.eq_1
@[simp] theorem e_rock_Pressures_r3 : type_of% f_rock_Pressures_r3.eq_1 := by_rfl f_rock_Pressures_r3.eq_1
@[simp] theorem e_rock_Pressures_r4 : type_of% f_rock_Pressures_r4.eq_1 := by_rfl f_rock_Pressures_r4.eq_1
theorem e_rock_Pressures : type_of% f_rock_Pressures.eq_1 := by_rfl f_rock_Pressures.eq_1
theorem ok_rock_Pressures : fnC Try.prog a_rock_Pressures Try.f8 = some f_rock_Pressures := by kernel_rfl

/-! 9 fumarole/trial.Drawdown -/
def f_trial_Drawdown_r0 : List Abs.Op := [
  ⟨some 2, none, false, .boxi (.t 0)⟩,
  ⟨some 4, none, false, .alcv [] [(.int .i64 0), (.int .i64 0)]⟩,
  ⟨some 5, none, false, .mv (.c (.int .i64 0))⟩]

def f_trial_Drawdown_r1 : List Abs.Op := [
  ⟨some 9, none, false, .ld true 7 (.t 2)⟩,
  ⟨some 10, none, false, .call false (.c (.fn i_trial_CheckTest [] [])) [(.t 9)]⟩,
  ⟨some 6, none, false, .mv (.t 10)⟩]

def f_trial_Drawdown_r2 : List Abs.Op := [
  ⟨some 11, none, false, .mv (.t 6)⟩,
  ⟨some 12, none, false, .bin .neq (.t 11) (.c (.int .i64 0))⟩]

def f_trial_Drawdown_r3 : List Abs.Op := [
  ⟨some 13, none, false, .bld [(.int .i64 0), (.int .i64 0)] []⟩,
  ⟨some 14, none, false, .mv (.t 6)⟩,
  ⟨none, none, false, .stv 4 [] 2 4 (.t 13)⟩,
  ⟨some 5, none, false, .mv (.t 14)⟩]

def f_trial_Drawdown_r4 : List Abs.Op := [
  ⟨some 15, none, false, .mv (.t 1)⟩,
  ⟨some 16, none, false, .call false (.c (.fn i_trial_within [] [])) [(.t 15), (.c (.int .i64 0)), (.c (.int .i64 1000))]⟩,
  ⟨some 17, none, false, .un .not (.t 16)⟩]

def f_trial_Drawdown_r5 : List Abs.Op := [
  ⟨some 18, none, false, .bld [(.int .i64 0), (.int .i64 0)] []⟩,
  ⟨none, none, false, .stv 4 [] 2 4 (.t 18)⟩,
  ⟨some 5, none, false, .mv (.c (.int .i64 2))⟩]

def f_trial_Drawdown_r6 : List Abs.Op := [
  ⟨some 20, none, false, .ld true 7 (.t 2)⟩,
  ⟨some 21, none, false, .mv (.t 1)⟩,
  ⟨some 22, none, false, .call false (.c (.fn i_trial_Test_drawdown [] [])) [(.t 20), (.t 21)]⟩,
  ⟨some 19, none, false, .mv (.t 22)⟩,
  ⟨some 23, none, false, .ext (.t 19) 0⟩,
  ⟨some 24, none, false, .ext (.t 19) 1⟩,
  ⟨some 7, none, false, .alcv [] [(.int .i64 0), (.int .i64 0)]⟩,
  ⟨none, none, false, .stv 7 [] 2 7 (.t 23)⟩,
  ⟨some 8, none, false, .mv (.t 24)⟩]

def f_trial_Drawdown_r7 : List Abs.Op := [
  ⟨some 25, none, false, .mv (.t 8)⟩,
  ⟨some 26, none, false, .un .not (.t 25)⟩]

def f_trial_Drawdown_r8 : List Abs.Op := [
  ⟨some 27, none, false, .bld [(.int .i64 0), (.int .i64 0)] []⟩,
  ⟨none, none, false, .stv 4 [] 2 4 (.t 27)⟩,
  ⟨some 5, none, false, .mv (.c (.int .i64 7))⟩]

def f_trial_Drawdown_r9 : List Abs.Op := [
  ⟨some 28, none, false, .ldv 7 true 2 7⟩,
  ⟨none, none, false, .stv 4 [] 2 4 (.t 28)⟩,
  ⟨some 5, none, false, .mv (.c (.int .i64 0))⟩]

def a_trial_Drawdown : Ann := ⟨[(9, [4, 5]), (8, [4, 5]), (7, [4, 7, 26]), (6, [4, 7, 8]), (5, [4, 5]), (4, [1, 2, 4, 17]), (3, [4, 5]), (2, [1, 2, 4, 6, 12]), (1, [1, 2, 4, 6]), (0, [1, 2, 4])], [], [], [4, 7], [4, 7], [], [], [], [], [], []⟩
def f_trial_Drawdown : Abs.Fn := ⟨2, [.v 4 true 2, .t 5],
  (.seq (.reg [1, 2, 4] f_trial_Drawdown_r0) (.seq (.seq (.reg [1, 2, 4, 6] f_trial_Drawdown_r1) (.seq (.reg [1, 2, 4, 6, 12] f_trial_Drawdown_r2) (.ite (.t 12) (.seq (.reg [4, 5] f_trial_Drawdown_r3) .ret) .nop))) (.seq (.seq (.reg [1, 2, 4, 17] f_trial_Drawdown_r4) (.ite (.t 17) (.seq (.reg [4, 5] f_trial_Drawdown_r5) .ret) .nop)) (.seq (.reg [4, 7, 8] f_trial_Drawdown_r6) (.seq (.seq (.reg [4, 7, 26] f_trial_Drawdown_r7) (.ite (.t 26) (.seq (.reg [4, 5] f_trial_Drawdown_r8) .ret) .nop)) (.seq (.reg [4, 5] f_trial_Drawdown_r9) .ret))))))⟩

@[simp] theorem e_trial_Drawdown_r0 : type_of% f_trial_Drawdown_r0.eq_1 := by_rfl f_trial_Drawdown_r0.eq_1
@[simp] theorem e_trial_Drawdown_r1 : type_of% f_trial_Drawdown_r1.eq_1 := by_rfl f_trial_Drawdown_r1.eq_1
@[simp] theorem e_trial_Drawdown_r2 : type_of% f_trial_Drawdown_r2.eq_1 := by_rfl f_trial_Drawdown_r2.eq_1
@[simp] theorem e_trial_Drawdown_r3 : type_of% f_trial_Drawdown_r3.eq_1 := by_rfl f_trial_Drawdown_r3.eq_1
@[simp] theorem e_trial_Drawdown_r4 : type_of% f_trial_Drawdown_r4.eq_1 := by_rfl f_trial_Drawdown_r4.eq_1
@[simp] theorem e_trial_Drawdown_r5 : type_of% f_trial_Drawdown_r5.eq_1 := by_rfl f_trial_Drawdown_r5.eq_1
@[simp] theorem e_trial_Drawdown_r6 : type_of% f_trial_Drawdown_r6.eq_1 := by_rfl f_trial_Drawdown_r6.eq_1
@[simp] theorem e_trial_Drawdown_r7 : type_of% f_trial_Drawdown_r7.eq_1 := by_rfl f_trial_Drawdown_r7.eq_1
@[simp] theorem e_trial_Drawdown_r8 : type_of% f_trial_Drawdown_r8.eq_1 := by_rfl f_trial_Drawdown_r8.eq_1
@[simp] theorem e_trial_Drawdown_r9 : type_of% f_trial_Drawdown_r9.eq_1 := by_rfl f_trial_Drawdown_r9.eq_1
theorem e_trial_Drawdown : type_of% f_trial_Drawdown.eq_1 := by_rfl f_trial_Drawdown.eq_1
theorem ok_trial_Drawdown : fnC Try.prog a_trial_Drawdown Try.f9 = some f_trial_Drawdown := by kernel_rfl

/-! 10 fumarole/trial.Agrees -/
def f_trial_Agrees_r0 : List Abs.Op := [
  ⟨some 2, none, false, .boxi (.t 0)⟩,
  ⟨some 3, none, false, .boxi (.t 1)⟩,
  ⟨some 4, none, false, .mv (.c (.bool false))⟩]

def f_trial_Agrees_r1 : List Abs.Op := [
  ⟨some 7, none, false, .ld true 7 (.t 2)⟩,
  ⟨some 8, none, false, .call false (.c (.fn i_trial_CheckTest [] [])) [(.t 7)]⟩,
  ⟨some 9, none, false, .bin .neq (.t 8) (.c (.int .i64 0))⟩,
  ⟨some 10, none, false, .mv (.t 9)⟩,
  ⟨some 11, some (10, false), false, .fadr 0 (.t 2)⟩,
  ⟨some 12, some (10, false), false, .ld true 2 (.t 11)⟩,
  ⟨some 13, some (10, false), false, .fadr 0 (.t 3)⟩,
  ⟨some 14, some (10, false), false, .ld false 1 (.t 13)⟩,
  ⟨some 15, some (10, false), false, .call false (.c (.fn i_trial_Range_has [] [])) [(.t 12), (.t 14)]⟩,
  ⟨some 16, some (10, false), false, .un .not (.t 15)⟩,
  ⟨some 17, none, false, .pick (.t 10) (.c (.bool true)) (.t 16)⟩,
  ⟨some 18, none, false, .mv (.t 17)⟩,
  ⟨some 19, some (18, false), false, .fadr 2 (.t 2)⟩,
  ⟨some 20, some (18, false), false, .ld true 2 (.t 19)⟩,
  ⟨some 21, some (18, false), false, .fadr 1 (.t 3)⟩,
  ⟨some 22, some (18, false), false, .ld false 1 (.t 21)⟩,
  ⟨some 23, some (18, false), false, .call false (.c (.fn i_trial_Range_has [] [])) [(.t 20), (.t 22)]⟩,
  ⟨some 24, some (18, false), false, .un .not (.t 23)⟩,
  ⟨some 25, none, false, .pick (.t 18) (.c (.bool true)) (.t 24)⟩,
  ⟨some 26, none, false, .mv (.t 25)⟩,
  ⟨some 27, some (26, false), false, .fadr 4 (.t 2)⟩,
  ⟨some 28, some (26, false), false, .ld true 2 (.t 27)⟩,
  ⟨some 29, some (26, false), false, .fadr 2 (.t 3)⟩,
  ⟨some 30, some (26, false), false, .ld false 1 (.t 29)⟩,
  ⟨some 31, some (26, false), false, .call false (.c (.fn i_trial_Range_has [] [])) [(.t 28), (.t 30)]⟩,
  ⟨some 32, some (26, false), false, .un .not (.t 31)⟩,
  ⟨some 33, none, false, .pick (.t 26) (.c (.bool true)) (.t 32)⟩]

def f_trial_Agrees_r2 : List Abs.Op := [
  ⟨some 4, none, false, .mv (.c (.bool false))⟩]

def f_trial_Agrees_r3 : List Abs.Op := [
  ⟨some 34, none, false, .fadr 6 (.t 2)⟩,
  ⟨some 35, none, false, .ld false 1 (.t 34)⟩,
  ⟨some 36, none, false, .lenS (.t 35)⟩,
  ⟨some 37, none, false, .mv (.c (.int .i64 0))⟩]

def f_trial_Agrees_r4 : List Abs.Op := [
  ⟨some 38, none, false, .bin .lss (.t 37) (.t 36)⟩]

def f_trial_Agrees_r5 : List Abs.Op := [
  ⟨some 39, none, false, .idxS 3 (.t 35) (.t 37)⟩,
  ⟨some 40, none, false, .ld true 3 (.t 39)⟩,
  ⟨some 6, none, false, .alcv [] [(.int .i64 0), (.int .i64 0), (.int .i64 0)]⟩,
  ⟨none, none, false, .stv 6 [] 3 6 (.t 40)⟩]

def f_trial_Agrees_r6 : List Abs.Op := [
  ⟨some 41, none, true, .fadr 1 (.t 6)⟩,
  ⟨some 42, none, true, .ldv 6 true 2 41⟩,
  ⟨some 43, none, true, .ld true 3 (.t 3)⟩,
  ⟨some 44, none, true, .fadr 0 (.t 6)⟩,
  ⟨some 45, none, true, .ldv 6 false 1 44⟩,
  ⟨some 46, none, true, .call false (.c (.fn i_trial_Curve_drop [] [])) [(.t 43), (.t 45)]⟩,
  ⟨some 47, none, false, .call false (.c (.fn i_trial_Range_has [] [])) [(.t 42), (.t 46)]⟩,
  ⟨some 48, none, false, .un .not (.t 47)⟩]

def f_trial_Agrees_r7 : List Abs.Op := [
  ⟨some 4, none, false, .mv (.c (.bool false))⟩]

def f_trial_Agrees_r8 : List Abs.Op := [
  ⟨some 49, none, false, .bin .add (.t 37) (.c (.int .i64 1))⟩,
  ⟨some 37, none, false, .mv (.t 49)⟩]

def f_trial_Agrees_l9 : Abs.Cmd :=
  (.seq (.reg [3, 35, 36, 37, 38] f_trial_Agrees_r4) (.seq (.ite (.t 38) .nop (.exit 0)) (.seq (.blk 1 (.seq (.reg [3, 6, 35, 36, 37] f_trial_Agrees_r5) (.seq (.reg [3, 35, 36, 37, 48] f_trial_Agrees_r6) (.ite (.t 48) (.seq (.reg [4] f_trial_Agrees_r7) .ret) .nop)))) (.reg [3, 35, 36, 37] f_trial_Agrees_r8))))

def f_trial_Agrees_r10 : List Abs.Op := [
  ⟨some 4, none, false, .mv (.c (.bool true))⟩]

def a_trial_Agrees : Ann := ⟨[(9, [4]), (8, [3, 35, 36, 37]), (7, [4]), (6, [3, 35, 36, 37, 48]), (5, [3, 6, 35, 36, 37]), (4, [3, 35, 36, 37, 38]), (3, [3, 35, 36, 37]), (2, [4]), (1, [2, 3, 33]), (0, [2, 3])], [(0, [3, 35, 36, 37])], [], [6], [6], [], [], [], [], [], []⟩
def f_trial_Agrees : Abs.Fn := ⟨2, [.t 4],
  (.seq (.reg [2, 3] f_trial_Agrees_r0) (.seq (.seq (.reg [2, 3, 33] f_trial_Agrees_r1) (.ite (.t 33) (.seq (.reg [4] f_trial_Agrees_r2) .ret) .nop)) (.seq (.seq (.reg [3, 35, 36, 37] f_trial_Agrees_r3) (.blk 0 (.loop [3, 35, 36, 37] false f_trial_Agrees_l9))) (.seq (.reg [4] f_trial_Agrees_r10) .ret))))⟩

@[simp] theorem e_trial_Agrees_r0 : type_of% f_trial_Agrees_r0.eq_1 := by_rfl f_trial_Agrees_r0.eq_1
@[simp] theorem e_trial_Agrees_r1 : type_of% f_trial_Agrees_r1.eq_1 := by_rfl f_trial_Agrees_r1.eq_1
@[simp] theorem e_trial_Agrees_r2 : type_of% f_trial_Agrees_r2.eq_1 := by_rfl f_trial_Agrees_r2.eq_1
@[simp] theorem e_trial_Agrees_r3 : type_of% f_trial_Agrees_r3.eq_1 := by_rfl f_trial_Agrees_r3.eq_1
@[simp] theorem e_trial_Agrees_r4 : type_of% f_trial_Agrees_r4.eq_1 := by_rfl f_trial_Agrees_r4.eq_1
@[simp] theorem e_trial_Agrees_r5 : type_of% f_trial_Agrees_r5.eq_1 := by_rfl f_trial_Agrees_r5.eq_1
@[simp] theorem e_trial_Agrees_r6 : type_of% f_trial_Agrees_r6.eq_1 := by_rfl f_trial_Agrees_r6.eq_1
@[simp] theorem e_trial_Agrees_r7 : type_of% f_trial_Agrees_r7.eq_1 := by_rfl f_trial_Agrees_r7.eq_1
@[simp] theorem e_trial_Agrees_r8 : type_of% f_trial_Agrees_r8.eq_1 := by_rfl f_trial_Agrees_r8.eq_1
theorem e_trial_Agrees_l9 : type_of% f_trial_Agrees_l9.eq_1 := by_rfl f_trial_Agrees_l9.eq_1
@[simp] theorem e_trial_Agrees_r10 : type_of% f_trial_Agrees_r10.eq_1 := by_rfl f_trial_Agrees_r10.eq_1
theorem e_trial_Agrees : type_of% f_trial_Agrees.eq_1 := by_rfl f_trial_Agrees.eq_1
theorem ok_trial_Agrees : fnC Try.prog a_trial_Agrees Try.f10 = some f_trial_Agrees := by kernel_rfl

/-! 11 fumarole/fumarolelaw01.Three -/
def f_law01_Three_r0 : List Abs.Op := [
  ⟨some 0, none, false, .mv (.c .nils)⟩]

def f_law01_Three_r1 : List Abs.Op := [
  ⟨some 1, none, false, .bld [(.int .i64 0), (.int .i64 0), (.int .i64 0), (.int .i64 0), (.int .i64 0)] [(0, 1, (.c (.int .i64 100))), (1, 1, (.c (.int .i64 101))), (2, 1, (.c (.int .i64 419))), (3, 1, (.c (.int .i64 2676))), (4, 1, (.c (.int .i64 150)))]⟩,
  ⟨some 2, none, false, .bld [(.int .i64 0), (.int .i64 0), (.int .i64 0), (.int .i64 0), (.int .i64 0)] [(0, 1, (.c (.int .i64 150))), (1, 1, (.c (.int .i64 476))), (2, 1, (.c (.int .i64 632))), (3, 1, (.c (.int .i64 2746))), (4, 1, (.c (.int .i64 300)))]⟩,
  ⟨some 3, none, false, .bld [(.int .i64 0), (.int .i64 0), (.int .i64 0), (.int .i64 0), (.int .i64 0)] [(0, 1, (.c (.int .i64 200))), (1, 1, (.c (.int .i64 1555))), (2, 1, (.c (.int .i64 852))), (3, 1, (.c (.int .i64 2793))), (4, 1, (.c (.int .i64 600)))]⟩,
  ⟨some 4, none, false, .bsi 3 5 [(.int .i64 0), (.int .i64 0), (.int .i64 0), (.int .i64 0), (.int .i64 0), (.int .i64 0), (.int .i64 0), (.int .i64 0), (.int .i64 0), (.int .i64 0), (.int .i64 0), (.int .i64 0), (.int .i64 0), (.int .i64 0), (.int .i64 0)] [(0, 5, (.t 1)), (5, 5, (.t 2)), (10, 5, (.t 3))]⟩,
  ⟨some 0, none, false, .mv (.t 4)⟩]

def a_law01_Three : Ann := ⟨[(1, [0]), (0, [])], [], [], [], [], [], [], [], [], [], []⟩
def f_law01_Three : Abs.Fn := ⟨0, [.t 0],
  (.seq (.reg [] f_law01_Three_r0) (.seq (.reg [0] f_law01_Three_r1) .ret))⟩

@[simp] theorem e_law01_Three_r0 : type_of% f_law01_Three_r0.eq_1 := by_rfl f_law01_Three_r0.eq_1
@[simp] theorem e_law01_Three_r1 : type_of% f_law01_Three_r1.eq_1 := by_rfl f_law01_Three_r1.eq_1
theorem e_law01_Three : type_of% f_law01_Three.eq_1 := by_rfl f_law01_Three.eq_1
theorem ok_law01_Three : fnC Try.prog a_law01_Three Try.f11 = some f_law01_Three := by kernel_rfl

/-! 15 fumarole/rock.bed -/
def f_rock_bed_r0 : List Abs.Op := [
  ⟨some 2, none, false, .boxi (.t 0)⟩,
  ⟨some 3, none, false, .boxi (.t 1)⟩,
  ⟨some 4, none, false, .alcv [] [(.int .i64 0), (.int .i64 0), (.int .i64 0), (.int .i64 0), .nils, (.int .i64 0), (.int .i64 0), (.int .i64 0), .nils, (.str []), .nils]⟩,
  ⟨some 5, none, false, .mv (.c (.int .i64 0))⟩]

def f_rock_bed_r1 : List Abs.Op := [
  ⟨some 7, none, false, .ld true 9 (.t 2)⟩,
  ⟨some 8, none, false, .ld true 2 (.t 3)⟩,
  ⟨some 9, none, false, .bld [(.int .i64 0), (.int .i64 0), (.int .i64 0), (.int .i64 0), .nils, (.int .i64 0), (.int .i64 0), (.int .i64 0), .nils, (.str []), .nils] [(0, 9, (.t 7)), (9, 2, (.t 8))]⟩,
  ⟨some 6, none, false, .alcv [] [(.int .i64 0), (.int .i64 0), (.int .i64 0), (.int .i64 0), .nils, (.int .i64 0), (.int .i64 0), (.int .i64 0), .nils, (.str []), .nils]⟩,
  ⟨none, none, false, .stv 6 [] 11 6 (.t 9)⟩]

def f_rock_bed_r2 : List Abs.Op := [
  ⟨some 10, none, false, .ld true 9 (.t 2)⟩,
  ⟨some 11, none, false, .call false (.c (.fn i_rock_Bed_valid [] [])) [(.t 10)]⟩,
  ⟨some 12, none, false, .un .not (.t 11)⟩,
  ⟨some 13, none, false, .mv (.t 12)⟩,
  ⟨some 14, some (13, false), false, .ldv 6 true 11 6⟩,
  ⟨some 15, some (13, false), false, .call false (.c (.fn i_rock_bedded_fits [] [])) [(.t 14)]⟩,
  ⟨some 16, some (13, false), false, .un .not (.t 15)⟩,
  ⟨some 17, none, false, .pick (.t 13) (.c (.bool true)) (.t 16)⟩]

def f_rock_bed_r3 : List Abs.Op := [
  ⟨some 18, none, false, .bld [(.int .i64 0), (.int .i64 0), (.int .i64 0), (.int .i64 0), .nils, (.int .i64 0), (.int .i64 0), (.int .i64 0), .nils, (.str []), .nils] []⟩,
  ⟨none, none, false, .stv 4 [] 11 4 (.t 18)⟩,
  ⟨some 5, none, false, .mv (.c (.int .i64 1))⟩]

def f_rock_bed_r4 : List Abs.Op := [
  ⟨some 19, none, false, .ldv 6 true 11 6⟩,
  ⟨none, none, false, .stv 4 [] 11 4 (.t 19)⟩,
  ⟨some 5, none, false, .mv (.c (.int .i64 0))⟩]

def a_rock_bed : Ann := ⟨[(4, [4, 5]), (3, [4, 5]), (2, [4, 6, 17]), (1, [2, 4, 6]), (0, [2, 3, 4])], [], [], [4, 6], [4, 6], [], [], [], [], [], []⟩
def f_rock_bed : Abs.Fn := ⟨2, [.v 4 true 11, .t 5],
  (.seq (.reg [2, 3, 4] f_rock_bed_r0) (.seq (.reg [2, 4, 6] f_rock_bed_r1) (.seq (.seq (.reg [4, 6, 17] f_rock_bed_r2) (.ite (.t 17) (.seq (.reg [4, 5] f_rock_bed_r3) .ret) .nop)) (.seq (.reg [4, 5] f_rock_bed_r4) .ret))))⟩

@[simp] theorem e_rock_bed_r0 : type_of% f_rock_bed_r0.eq_1 := by_rfl f_rock_bed_r0.eq_1
@[simp] theorem e_rock_bed_r1 : type_of% f_rock_bed_r1.eq_1 := by_rfl f_rock_bed_r1.eq_1
@[simp] theorem e_rock_bed_r2 : type_of% f_rock_bed_r2.eq_1 := by_rfl f_rock_bed_r2.eq_1
@[simp] theorem e_rock_bed_r3 : type_of% f_rock_bed_r3.eq_1 := by_rfl f_rock_bed_r3.eq_1
@[simp] theorem e_rock_bed_r4 : type_of% f_rock_bed_r4.eq_1 := by_rfl f_rock_bed_r4.eq_1
theorem e_rock_bed : type_of% f_rock_bed.eq_1 := by_rfl f_rock_bed.eq_1
theorem ok_rock_bed : fnC Try.prog a_rock_bed Try.f15 = some f_rock_bed := by kernel_rfl

/-! 16 (fumarole/rock.Bed).plan -/
def f_rock_Bed_plan_r0 : List Abs.Op := [
  ⟨some 2, none, false, .boxi (.t 0)⟩,
  ⟨some 4, none, false, .mv (.c (.int .i64 0))⟩]

def f_rock_Bed_plan_r1 : List Abs.Op := [
  ⟨some 8, none, false, .mv (.t 1)⟩,
  ⟨some 9, none, false, .lenS (.t 8)⟩,
  ⟨some 10, none, false, .bin .gtr (.t 9) (.c (.int .i64 200))⟩]

def f_rock_Bed_plan_r2 : List Abs.Op := [
  ⟨some 4, none, false, .mv (.c (.int .i64 3))⟩]

def f_rock_Bed_plan_r3 : List Abs.Op := [
  ⟨some 11, none, false, .mv (.t 1)⟩,
  ⟨some 12, none, false, .lenS (.t 11)⟩,
  ⟨some 13, none, false, .mv (.c (.int .i64 0))⟩]

def f_rock_Bed_plan_r4 : List Abs.Op := [
  ⟨some 14, none, false, .bin .lss (.t 13) (.t 12)⟩]

def f_rock_Bed_plan_r5 : List Abs.Op := [
  ⟨some 15, none, false, .idxS 1 (.t 11) (.t 13)⟩,
  ⟨some 16, none, false, .ld false 1 (.t 15)⟩,
  ⟨some 6, none, false, .mv (.t 16)⟩]

def f_rock_Bed_plan_r6 : List Abs.Op := [
  ⟨some 17, none, false, .ld true 9 (.t 2)⟩,
  ⟨some 18, none, false, .mv (.t 6)⟩,
  ⟨some 19, none, false, .call false (.c (.fn i_rock_Bed_rates [] [])) [(.t 17), (.t 18)]⟩,
  ⟨some 7, none, false, .mv (.t 19)⟩]

def f_rock_Bed_plan_r7 : List Abs.Op := [
  ⟨some 20, none, false, .mv (.t 7)⟩,
  ⟨some 21, none, false, .bin .neq (.t 20) (.c (.int .i64 0))⟩]

def f_rock_Bed_plan_r8 : List Abs.Op := [
  ⟨some 22, none, false, .mv (.t 7)⟩,
  ⟨some 4, none, false, .mv (.t 22)⟩]

def f_rock_Bed_plan_r9 : List Abs.Op := [
  ⟨some 23, none, false, .bin .add (.t 13) (.c (.int .i64 1))⟩,
  ⟨some 13, none, false, .mv (.t 23)⟩]

def f_rock_Bed_plan_l10 : Abs.Cmd :=
  (.seq (.reg [2, 11, 12, 13, 14] f_rock_Bed_plan_r4) (.seq (.ite (.t 14) .nop (.exit 0)) (.seq (.blk 1 (.seq (.reg [2, 6, 11, 12, 13] f_rock_Bed_plan_r5) (.seq (.reg [2, 7, 11, 12, 13] f_rock_Bed_plan_r6) (.seq (.reg [2, 7, 11, 12, 13, 21] f_rock_Bed_plan_r7) (.ite (.t 21) (.seq (.reg [4] f_rock_Bed_plan_r8) .ret) .nop))))) (.reg [2, 11, 12, 13] f_rock_Bed_plan_r9))))

def f_rock_Bed_plan_r11 : List Abs.Op := [
  ⟨some 4, none, false, .mv (.c (.int .i64 0))⟩]

def a_rock_Bed_plan : Ann := ⟨[(10, [4]), (9, [2, 11, 12, 13]), (8, [4]), (7, [2, 7, 11, 12, 13, 21]), (6, [2, 7, 11, 12, 13]), (5, [2, 6, 11, 12, 13]), (4, [2, 11, 12, 13, 14]), (3, [2, 11, 12, 13]), (2, [4]), (1, [1, 2, 10]), (0, [1, 2])], [(0, [2, 11, 12, 13])], [], [], [], [], [], [], [], [], []⟩
def f_rock_Bed_plan : Abs.Fn := ⟨2, [.t 4],
  (.seq (.reg [1, 2] f_rock_Bed_plan_r0) (.seq (.seq (.reg [1, 2, 10] f_rock_Bed_plan_r1) (.ite (.t 10) (.seq (.reg [4] f_rock_Bed_plan_r2) .ret) .nop)) (.seq (.seq (.reg [2, 11, 12, 13] f_rock_Bed_plan_r3) (.blk 0 (.loop [2, 11, 12, 13] false f_rock_Bed_plan_l10))) (.seq (.reg [4] f_rock_Bed_plan_r11) .ret))))⟩

@[simp] theorem e_rock_Bed_plan_r0 : type_of% f_rock_Bed_plan_r0.eq_1 := by_rfl f_rock_Bed_plan_r0.eq_1
@[simp] theorem e_rock_Bed_plan_r1 : type_of% f_rock_Bed_plan_r1.eq_1 := by_rfl f_rock_Bed_plan_r1.eq_1
@[simp] theorem e_rock_Bed_plan_r2 : type_of% f_rock_Bed_plan_r2.eq_1 := by_rfl f_rock_Bed_plan_r2.eq_1
@[simp] theorem e_rock_Bed_plan_r3 : type_of% f_rock_Bed_plan_r3.eq_1 := by_rfl f_rock_Bed_plan_r3.eq_1
@[simp] theorem e_rock_Bed_plan_r4 : type_of% f_rock_Bed_plan_r4.eq_1 := by_rfl f_rock_Bed_plan_r4.eq_1
@[simp] theorem e_rock_Bed_plan_r5 : type_of% f_rock_Bed_plan_r5.eq_1 := by_rfl f_rock_Bed_plan_r5.eq_1
@[simp] theorem e_rock_Bed_plan_r6 : type_of% f_rock_Bed_plan_r6.eq_1 := by_rfl f_rock_Bed_plan_r6.eq_1
@[simp] theorem e_rock_Bed_plan_r7 : type_of% f_rock_Bed_plan_r7.eq_1 := by_rfl f_rock_Bed_plan_r7.eq_1
@[simp] theorem e_rock_Bed_plan_r8 : type_of% f_rock_Bed_plan_r8.eq_1 := by_rfl f_rock_Bed_plan_r8.eq_1
@[simp] theorem e_rock_Bed_plan_r9 : type_of% f_rock_Bed_plan_r9.eq_1 := by_rfl f_rock_Bed_plan_r9.eq_1
theorem e_rock_Bed_plan_l10 : type_of% f_rock_Bed_plan_l10.eq_1 := by_rfl f_rock_Bed_plan_l10.eq_1
@[simp] theorem e_rock_Bed_plan_r11 : type_of% f_rock_Bed_plan_r11.eq_1 := by_rfl f_rock_Bed_plan_r11.eq_1
theorem e_rock_Bed_plan : type_of% f_rock_Bed_plan.eq_1 := by_rfl f_rock_Bed_plan.eq_1
theorem ok_rock_Bed_plan : fnC Try.prog a_rock_Bed_plan Try.f16 = some f_rock_Bed_plan := by kernel_rfl

/-! 17 fumarole/rock.caught -/
def f_rock_caught_r0 : List Abs.Op := [
  ⟨some 5, none, false, .rcv⟩]

def f_rock_caught_r1 : List Abs.Op := [
  ⟨some 7, none, false, .isi false (.t 5)⟩]

def f_rock_caught_r2 : List Abs.Op := [
  ⟨some 2, none, false, .mv (.t 5)⟩]

def f_rock_caught_r3 : List Abs.Op := [
  ⟨some 8, none, false, .tas 107 (some (.agg [])) (.t 5)⟩,
  ⟨some 9, none, false, .ext (.t 8) 1⟩,
  ⟨some 10, none, false, .ext (.t 8) 0⟩]

def f_rock_caught_r4 : List Abs.Op := [
  ⟨some 3, none, false, .alcv [] []⟩,
  ⟨none, none, false, .stv 3 [] 0 3 (.t 10)⟩]

def f_rock_caught_r5 : List Abs.Op := [
  ⟨some 11, none, false, .mv (.t 0)⟩,
  ⟨some 12, none, false, .nck (.t 11)⟩,
  ⟨none, none, false, .st [] 1 (.t 12) (.c (.int .i64 9))⟩]

def f_rock_caught_r6 : List Abs.Op := [
  ⟨some 4, none, false, .mv (.t 5)⟩]

def f_rock_caught_r7 : List Abs.Op := [
  ⟨some 6, none, false, .mv (.t 4)⟩]

def f_rock_caught_r8 : List Abs.Op := [
  ]

def a_rock_caught : Ann := ⟨[(4, []), (7, []), (6, [0]), (2, []), (1, [4]), (5, [0, 5, 9, 10]), (3, [0, 5, 7]), (0, [0, 5])], [], [], [0, 3], [3], [], [], [], [], [], [(2, some 1)]⟩
def f_rock_caught : Abs.Fn := ⟨1, [],
  (.seq (.reg [0, 5] f_rock_caught_r0) (.blk 0 (.seq (.reg [0, 5, 7] f_rock_caught_r1) (.ite (.t 7) (.reg [] f_rock_caught_r2) (.seq (.reg [0, 5, 9, 10] f_rock_caught_r3) (.ite (.t 9) (.seq (.reg [0] f_rock_caught_r4) (.reg [] f_rock_caught_r5)) (.seq (.reg [4] f_rock_caught_r6) (.treg [] f_rock_caught_r7 ⟨none, none, false, .pan (.t 6)⟩ f_rock_caught_r8))))))))⟩

@[simp] theorem e_rock_caught_r0 : type_of% f_rock_caught_r0.eq_1 := by_rfl f_rock_caught_r0.eq_1
@[simp] theorem e_rock_caught_r1 : type_of% f_rock_caught_r1.eq_1 := by_rfl f_rock_caught_r1.eq_1
@[simp] theorem e_rock_caught_r2 : type_of% f_rock_caught_r2.eq_1 := by_rfl f_rock_caught_r2.eq_1
@[simp] theorem e_rock_caught_r3 : type_of% f_rock_caught_r3.eq_1 := by_rfl f_rock_caught_r3.eq_1
@[simp] theorem e_rock_caught_r4 : type_of% f_rock_caught_r4.eq_1 := by_rfl f_rock_caught_r4.eq_1
@[simp] theorem e_rock_caught_r5 : type_of% f_rock_caught_r5.eq_1 := by_rfl f_rock_caught_r5.eq_1
@[simp] theorem e_rock_caught_r6 : type_of% f_rock_caught_r6.eq_1 := by_rfl f_rock_caught_r6.eq_1
@[simp] theorem e_rock_caught_r7 : type_of% f_rock_caught_r7.eq_1 := by_rfl f_rock_caught_r7.eq_1
@[simp] theorem e_rock_caught_r8 : type_of% f_rock_caught_r8.eq_1 := by_rfl f_rock_caught_r8.eq_1
theorem e_rock_caught : type_of% f_rock_caught.eq_1 := by_rfl f_rock_caught.eq_1
theorem ok_rock_caught : fnC Try.prog a_rock_caught Try.f17 = some f_rock_caught := by kernel_rfl

/-! 18 (fumarole/rock.bedded).run -/
def f_rock_bedded_run_r0 : List Abs.Op := [
  ⟨some 2, none, false, .boxi (.t 0)⟩,
  ⟨some 4, none, false, .alcv [(0, 1), (1, 1)] [.nils, .nils]⟩]

def f_rock_bedded_run_r1 : List Abs.Op := [
  ⟨some 10, none, false, .ld true 11 (.t 2)⟩,
  ⟨some 11, none, false, .call false (.c (.fn i_rock_bedded_first [] [])) [(.t 10)]⟩,
  ⟨some 12, none, false, .bsm 1 1 [.nils] [(0, 1, (.t 11))]⟩,
  ⟨some 13, none, false, .fadr 0 (.t 4)⟩,
  ⟨none, none, false, .stv 4 [(0, 1), (1, 1)] 1 13 (.t 12)⟩]

def f_rock_bedded_run_r2 : List Abs.Op := [
  ⟨some 14, none, false, .mv (.t 1)⟩,
  ⟨some 15, none, false, .lenS (.t 14)⟩,
  ⟨some 16, none, false, .mv (.c (.int .i64 0))⟩]

def f_rock_bedded_run_r3 : List Abs.Op := [
  ⟨some 17, none, false, .bin .lss (.t 16) (.t 15)⟩]

def f_rock_bedded_run_r4 : List Abs.Op := [
  ⟨some 18, none, false, .mv (.t 16)⟩,
  ⟨some 19, none, false, .idxS 1 (.t 14) (.t 16)⟩,
  ⟨some 20, none, false, .ld false 1 (.t 19)⟩,
  ⟨some 5, none, false, .mv (.t 18)⟩,
  ⟨some 6, none, false, .mv (.t 20)⟩]

def f_rock_bedded_run_r5 : List Abs.Op := [
  ⟨some 22, none, true, .ld true 11 (.t 2)⟩,
  ⟨some 23, none, true, .fadr 0 (.t 4)⟩,
  ⟨some 24, none, true, .ldv 4 false 1 23⟩,
  ⟨some 25, none, true, .mv (.t 5)⟩,
  ⟨some 26, none, true, .idxS 1 (.t 24) (.t 25)⟩,
  ⟨some 27, none, true, .ld false 1 (.t 26)⟩,
  ⟨some 28, none, true, .mv (.t 6)⟩,
  ⟨some 29, none, true, .call false (.c (.fn i_rock_bedded_tick [] [])) [(.t 22), (.t 27), (.t 28)]⟩,
  ⟨some 21, none, true, .mv (.t 29)⟩,
  ⟨some 30, none, true, .ext (.t 21) 0⟩,
  ⟨some 31, none, true, .ext (.t 21) 1⟩,
  ⟨some 32, none, true, .ext (.t 21) 2⟩,
  ⟨some 7, none, true, .mv (.t 30)⟩,
  ⟨some 8, none, true, .mv (.t 31)⟩,
  ⟨some 9, none, false, .mv (.t 32)⟩]

def f_rock_bedded_run_r6 : List Abs.Op := [
  ⟨some 33, none, false, .mv (.t 9)⟩,
  ⟨some 34, none, false, .bin .neq (.t 33) (.c (.int .i64 0))⟩]

def f_rock_bedded_run_r7 : List Abs.Op := [
  ⟨some 35, none, false, .bld [] []⟩,
  ⟨some 36, none, false, .mki 107 (.t 35)⟩]

def f_rock_bedded_run_r8 : List Abs.Op := [
  ]

def f_rock_bedded_run_r9 : List Abs.Op := [
  ⟨some 37, none, true, .fadr 0 (.t 4)⟩,
  ⟨some 38, none, true, .ldv 4 false 1 37⟩,
  ⟨some 39, none, true, .mv (.t 7)⟩,
  ⟨some 40, none, true, .bsi 1 1 [.nils] [(0, 1, (.t 39))]⟩,
  ⟨some 41, none, true, .app 1 24 (.t 38) (.t 40)⟩,
  ⟨some 42, none, true, .fadr 1 (.t 4)⟩,
  ⟨some 43, none, true, .ldv 4 false 1 42⟩,
  ⟨some 44, none, true, .mv (.t 8)⟩,
  ⟨some 45, none, true, .bsi 1 1 [.nils] [(0, 1, (.t 44))]⟩,
  ⟨some 46, none, true, .app 1 24 (.t 43) (.t 45)⟩,
  ⟨some 47, none, true, .fadr 0 (.t 4)⟩,
  ⟨none, none, false, .stv 4 [(0, 1), (1, 1)] 1 47 (.t 41)⟩,
  ⟨some 48, none, false, .fadr 1 (.t 4)⟩,
  ⟨none, none, false, .stv 4 [(0, 1)] 1 48 (.t 46)⟩]

def f_rock_bedded_run_r10 : List Abs.Op := [
  ⟨some 49, none, false, .bin .add (.t 16) (.c (.int .i64 1))⟩,
  ⟨some 16, none, false, .mv (.t 49)⟩]

def f_rock_bedded_run_l11 : Abs.Cmd :=
  (.seq (.reg [2, 4, 14, 15, 16, 17] f_rock_bedded_run_r3) (.seq (.ite (.t 17) .nop (.exit 0)) (.seq (.blk 1 (.seq (.reg [2, 4, 5, 6, 14, 15, 16] f_rock_bedded_run_r4) (.seq (.reg [2, 4, 7, 8, 9, 14, 15, 16] f_rock_bedded_run_r5) (.seq (.seq (.reg [2, 4, 7, 8, 14, 15, 16, 34] f_rock_bedded_run_r6) (.ite (.t 34) (.treg [2, 4, 7, 8, 14, 15, 16] f_rock_bedded_run_r7 ⟨none, none, false, .pan (.t 36)⟩ f_rock_bedded_run_r8) .nop)) (.reg [2, 4, 14, 15, 16] f_rock_bedded_run_r9))))) (.reg [2, 4, 14, 15, 16] f_rock_bedded_run_r10))))

def f_rock_bedded_run_r12 : List Abs.Op := [
  ⟨some 50, none, false, .ldv 4 true 2 4⟩,
  ⟨none, none, false, .stv 4 [(0, 1), (1, 1)] 2 4 (.t 50)⟩]

def a_rock_bedded_run : Ann := ⟨[(10, [4]), (9, [2, 4, 14, 15, 16]), (8, [2, 4, 14, 15, 16]), (7, [2, 4, 7, 8, 14, 15, 16]), (6, [2, 4, 7, 8, 14, 15, 16, 34]), (5, [2, 4, 7, 8, 9, 14, 15, 16]), (4, [2, 4, 5, 6, 14, 15, 16]), (3, [2, 4, 14, 15, 16, 17]), (2, [2, 4, 14, 15, 16]), (1, [1, 2, 4]), (0, [1, 2, 4])], [(0, [2, 4, 14, 15, 16])], [], [4, 12], [4], [(1, [(0, 1), (1, 1)]), (1004, [(0, 1), (1, 1)]), (8011, [(0, 1), (1, 1)]), (8013, [(0, 1)]), (10001, [(0, 1), (1, 1)])], [], [], [], [], [(7, some 2)]⟩
def f_rock_bedded_run : Abs.Fn := ⟨2, [.v 4 true 2],
  (.seq (.reg [1, 2, 4] f_rock_bedded_run_r0) (.seq (.reg [1, 2, 4] f_rock_bedded_run_r1) (.seq (.seq (.reg [2, 4, 14, 15, 16] f_rock_bedded_run_r2) (.blk 0 (.loop [2, 4, 14, 15, 16] false f_rock_bedded_run_l11))) (.seq (.reg [4] f_rock_bedded_run_r12) .ret))))⟩

@[simp] theorem e_rock_bedded_run_r0 : type_of% f_rock_bedded_run_r0.eq_1 := by_rfl f_rock_bedded_run_r0.eq_1
@[simp] theorem e_rock_bedded_run_r1 : type_of% f_rock_bedded_run_r1.eq_1 := by_rfl f_rock_bedded_run_r1.eq_1
@[simp] theorem e_rock_bedded_run_r2 : type_of% f_rock_bedded_run_r2.eq_1 := by_rfl f_rock_bedded_run_r2.eq_1
@[simp] theorem e_rock_bedded_run_r3 : type_of% f_rock_bedded_run_r3.eq_1 := by_rfl f_rock_bedded_run_r3.eq_1
@[simp] theorem e_rock_bedded_run_r4 : type_of% f_rock_bedded_run_r4.eq_1 := by_rfl f_rock_bedded_run_r4.eq_1
@[simp] theorem e_rock_bedded_run_r5 : type_of% f_rock_bedded_run_r5.eq_1 := by_rfl f_rock_bedded_run_r5.eq_1
@[simp] theorem e_rock_bedded_run_r6 : type_of% f_rock_bedded_run_r6.eq_1 := by_rfl f_rock_bedded_run_r6.eq_1
@[simp] theorem e_rock_bedded_run_r7 : type_of% f_rock_bedded_run_r7.eq_1 := by_rfl f_rock_bedded_run_r7.eq_1
@[simp] theorem e_rock_bedded_run_r8 : type_of% f_rock_bedded_run_r8.eq_1 := by_rfl f_rock_bedded_run_r8.eq_1
@[simp] theorem e_rock_bedded_run_r9 : type_of% f_rock_bedded_run_r9.eq_1 := by_rfl f_rock_bedded_run_r9.eq_1
@[simp] theorem e_rock_bedded_run_r10 : type_of% f_rock_bedded_run_r10.eq_1 := by_rfl f_rock_bedded_run_r10.eq_1
theorem e_rock_bedded_run_l11 : type_of% f_rock_bedded_run_l11.eq_1 := by_rfl f_rock_bedded_run_l11.eq_1
@[simp] theorem e_rock_bedded_run_r12 : type_of% f_rock_bedded_run_r12.eq_1 := by_rfl f_rock_bedded_run_r12.eq_1
theorem e_rock_bedded_run : type_of% f_rock_bedded_run.eq_1 := by_rfl f_rock_bedded_run.eq_1
theorem ok_rock_bedded_run : fnC Try.prog a_rock_bedded_run Try.f18 = some f_rock_bedded_run := by kernel_rfl

/-! 19 (fumarole/rock.bedded).state -/
def f_rock_bedded_state_r0 : List Abs.Op := [
  ⟨some 2, none, false, .boxi (.t 0)⟩,
  ⟨some 4, none, false, .mv (.c (.bool false))⟩]

def f_rock_bedded_state_r1 : List Abs.Op := [
  ⟨some 5, none, false, .mv (.t 1)⟩,
  ⟨some 6, none, false, .lenS (.t 5)⟩,
  ⟨some 7, none, false, .fadr 0 (.t 2)⟩,
  ⟨some 8, none, false, .ld true 9 (.t 7)⟩,
  ⟨some 9, none, false, .call false (.c (.fn i_rock_Bed_size [] [])) [(.t 8)]⟩,
  ⟨some 10, none, false, .bin .eql (.t 6) (.t 9)⟩,
  ⟨some 11, none, false, .mv (.t 10)⟩,
  ⟨some 12, some (11, true), false, .mv (.t 1)⟩,
  ⟨some 13, some (11, true), false, .call false (.c (.fn i_rock_all_rock_Block [] [])) [(.t 12), (.c (.fn i_rock_Block_valid [] []))]⟩,
  ⟨some 14, none, false, .pick (.t 11) (.t 13) (.c (.bool false))⟩,
  ⟨some 4, none, false, .mv (.t 14)⟩]

def a_rock_bedded_state : Ann := ⟨[(1, [4]), (0, [1, 2])], [], [], [], [], [], [], [], [], [], []⟩
def f_rock_bedded_state : Abs.Fn := ⟨2, [.t 4],
  (.seq (.reg [1, 2] f_rock_bedded_state_r0) (.seq (.reg [4] f_rock_bedded_state_r1) .ret))⟩

@[simp] theorem e_rock_bedded_state_r0 : type_of% f_rock_bedded_state_r0.eq_1 := by_rfl f_rock_bedded_state_r0.eq_1
@[simp] theorem e_rock_bedded_state_r1 : type_of% f_rock_bedded_state_r1.eq_1 := by_rfl f_rock_bedded_state_r1.eq_1
theorem e_rock_bedded_state : type_of% f_rock_bedded_state.eq_1 := by_rfl f_rock_bedded_state.eq_1
theorem ok_rock_bedded_state : fnC Try.prog a_rock_bedded_state Try.f19 = some f_rock_bedded_state := by kernel_rfl

/-! 20 (fumarole/rock.bedded).pressures -/
def f_rock_bedded_pressures_r0 : List Abs.Op := [
  ⟨some 2, none, false, .boxi (.t 0)⟩,
  ⟨some 4, none, false, .nilb 1⟩]

def f_rock_bedded_pressures_r1 : List Abs.Op := [
  ⟨some 6, none, false, .mv (.t 1)⟩,
  ⟨some 7, none, false, .lenS (.t 6)⟩,
  ⟨some 8, none, false, .mv (.c (.int .i64 0))⟩]

def f_rock_bedded_pressures_r2 : List Abs.Op := [
  ⟨some 9, none, false, .bin .lss (.t 8) (.t 7)⟩]

def f_rock_bedded_pressures_r3 : List Abs.Op := [
  ⟨some 10, none, false, .mv (.t 8)⟩,
  ⟨some 5, none, false, .mv (.t 10)⟩]

def f_rock_bedded_pressures_r4 : List Abs.Op := [
  ⟨some 11, none, false, .mv (.t 4)⟩,
  ⟨some 12, none, false, .ld true 11 (.t 2)⟩,
  ⟨some 13, none, false, .mv (.t 1)⟩,
  ⟨some 14, none, false, .mv (.t 5)⟩,
  ⟨some 15, none, false, .call false (.c (.fn i_rock_bedded_pressure [] [])) [(.t 12), (.t 13), (.t 14)]⟩,
  ⟨some 16, none, false, .bsi 1 1 [(.int .i64 0)] [(0, 1, (.t 15))]⟩,
  ⟨some 17, none, false, .app 1 8 (.t 11) (.t 16)⟩,
  ⟨some 4, none, false, .mv (.t 17)⟩]

def f_rock_bedded_pressures_r5 : List Abs.Op := [
  ⟨some 18, none, false, .bin .add (.t 8) (.c (.int .i64 1))⟩,
  ⟨some 8, none, false, .mv (.t 18)⟩]

def f_rock_bedded_pressures_l6 : Abs.Cmd :=
  (.seq (.reg [1, 2, 4, 7, 8, 9] f_rock_bedded_pressures_r2) (.seq (.ite (.t 9) .nop (.exit 0)) (.seq (.blk 1 (.seq (.reg [1, 2, 4, 5, 7, 8] f_rock_bedded_pressures_r3) (.reg [1, 2, 4, 7, 8] f_rock_bedded_pressures_r4))) (.reg [1, 2, 4, 7, 8] f_rock_bedded_pressures_r5))))

def f_rock_bedded_pressures_r7 : List Abs.Op := [
  ⟨some 19, none, false, .mv (.t 4)⟩,
  ⟨some 4, none, false, .mv (.t 19)⟩]

def a_rock_bedded_pressures : Ann := ⟨[(6, [4]), (5, [1, 2, 4, 7, 8]), (4, [1, 2, 4, 7, 8]), (3, [1, 2, 4, 5, 7, 8]), (2, [1, 2, 4, 7, 8, 9]), (1, [1, 2, 4, 7, 8]), (0, [1, 2, 4])], [(0, [1, 2, 4, 7, 8])], [], [4], [], [], [], [], [], [], []⟩
def f_rock_bedded_pressures : Abs.Fn := ⟨2, [.t 4],
  (.seq (.reg [1, 2, 4] f_rock_bedded_pressures_r0) (.seq (.seq (.reg [1, 2, 4, 7, 8] f_rock_bedded_pressures_r1) (.blk 0 (.loop [1, 2, 4, 7, 8] false f_rock_bedded_pressures_l6))) (.seq (.reg [4] f_rock_bedded_pressures_r7) .ret)))⟩

@[simp] theorem e_rock_bedded_pressures_r0 : type_of% f_rock_bedded_pressures_r0.eq_1 := by_rfl f_rock_bedded_pressures_r0.eq_1
@[simp] theorem e_rock_bedded_pressures_r1 : type_of% f_rock_bedded_pressures_r1.eq_1 := by_rfl f_rock_bedded_pressures_r1.eq_1
@[simp] theorem e_rock_bedded_pressures_r2 : type_of% f_rock_bedded_pressures_r2.eq_1 := by_rfl f_rock_bedded_pressures_r2.eq_1
@[simp] theorem e_rock_bedded_pressures_r3 : type_of% f_rock_bedded_pressures_r3.eq_1 := by_rfl f_rock_bedded_pressures_r3.eq_1
@[simp] theorem e_rock_bedded_pressures_r4 : type_of% f_rock_bedded_pressures_r4.eq_1 := by_rfl f_rock_bedded_pressures_r4.eq_1
@[simp] theorem e_rock_bedded_pressures_r5 : type_of% f_rock_bedded_pressures_r5.eq_1 := by_rfl f_rock_bedded_pressures_r5.eq_1
theorem e_rock_bedded_pressures_l6 : type_of% f_rock_bedded_pressures_l6.eq_1 := by_rfl f_rock_bedded_pressures_l6.eq_1
@[simp] theorem e_rock_bedded_pressures_r7 : type_of% f_rock_bedded_pressures_r7.eq_1 := by_rfl f_rock_bedded_pressures_r7.eq_1
theorem e_rock_bedded_pressures : type_of% f_rock_bedded_pressures.eq_1 := by_rfl f_rock_bedded_pressures.eq_1
theorem ok_rock_bedded_pressures : fnC Try.prog a_rock_bedded_pressures Try.f20 = some f_rock_bedded_pressures := by kernel_rfl

/-! 21 fumarole/trial.CheckTest -/
def f_trial_CheckTest_r0 : List Abs.Op := [
  ⟨some 1, none, false, .boxi (.t 0)⟩,
  ⟨some 2, none, false, .mv (.c (.int .i64 0))⟩]

def f_trial_CheckTest_r1 : List Abs.Op := [
  ⟨some 5, none, false, .fadr 6 (.t 1)⟩,
  ⟨some 6, none, false, .ld false 1 (.t 5)⟩,
  ⟨some 7, none, false, .lenS (.t 6)⟩,
  ⟨some 8, none, false, .bin .gtr (.t 7) (.c (.int .i64 12))⟩]

def f_trial_CheckTest_r2 : List Abs.Op := [
  ⟨some 2, none, false, .mv (.c (.int .i64 3))⟩]

def f_trial_CheckTest_r3 : List Abs.Op := [
  ⟨some 9, none, false, .fadr 0 (.t 1)⟩,
  ⟨some 10, none, false, .ld true 2 (.t 9)⟩,
  ⟨some 11, none, false, .call false (.c (.fn i_trial_Range_right [] [])) [(.t 10), (.c (.int .i64 0)), (.c (.int .i64 100000))]⟩,
  ⟨some 12, none, false, .un .not (.t 11)⟩,
  ⟨some 13, none, false, .mv (.t 12)⟩,
  ⟨some 14, some (13, false), false, .fadr 2 (.t 1)⟩,
  ⟨some 15, some (13, false), false, .ld true 2 (.t 14)⟩,
  ⟨some 16, some (13, false), false, .call false (.c (.fn i_trial_Range_right [] [])) [(.t 15), (.c (.int .i64 0)), (.c (.int .i64 10000))]⟩,
  ⟨some 17, some (13, false), false, .un .not (.t 16)⟩,
  ⟨some 18, none, false, .pick (.t 13) (.c (.bool true)) (.t 17)⟩,
  ⟨some 19, none, false, .mv (.t 18)⟩,
  ⟨some 20, some (19, false), false, .fadr 4 (.t 1)⟩,
  ⟨some 21, some (19, false), false, .ld true 2 (.t 20)⟩,
  ⟨some 22, some (19, false), false, .call false (.c (.fn i_trial_Range_right [] [])) [(.t 21), (.c (.int .i64 0)), (.c (.int .i64 1000))]⟩,
  ⟨some 23, some (19, false), false, .un .not (.t 22)⟩,
  ⟨some 24, none, false, .pick (.t 19) (.c (.bool true)) (.t 23)⟩,
  ⟨some 25, none, false, .mv (.t 24)⟩,
  ⟨some 26, some (25, false), false, .fadr 2 (.t 1)⟩,
  ⟨some 27, some (25, false), false, .fadr 1 (.t 26)⟩,
  ⟨some 28, some (25, false), false, .ld false 1 (.t 27)⟩,
  ⟨some 29, some (25, false), false, .fadr 2 (.t 1)⟩,
  ⟨some 30, some (25, false), false, .fadr 0 (.t 29)⟩,
  ⟨some 31, some (25, false), false, .ld false 1 (.t 30)⟩,
  ⟨some 32, some (25, false), false, .bin .sub (.t 28) (.t 31)⟩,
  ⟨some 33, some (25, false), false, .bin .geq (.t 32) (.c (.int .i64 40))⟩,
  ⟨some 34, none, false, .pick (.t 25) (.c (.bool true)) (.t 33)⟩,
  ⟨some 35, none, false, .mv (.t 34)⟩,
  ⟨some 36, some (35, false), false, .fadr 4 (.t 1)⟩,
  ⟨some 37, some (35, false), false, .fadr 1 (.t 36)⟩,
  ⟨some 38, some (35, false), false, .ld false 1 (.t 37)⟩,
  ⟨some 39, some (35, false), false, .fadr 4 (.t 1)⟩,
  ⟨some 40, some (35, false), false, .fadr 0 (.t 39)⟩,
  ⟨some 41, some (35, false), false, .ld false 1 (.t 40)⟩,
  ⟨some 42, some (35, false), false, .bin .sub (.t 38) (.t 41)⟩,
  ⟨some 43, some (35, false), false, .bin .geq (.t 42) (.c (.int .i64 40))⟩,
  ⟨some 44, none, false, .pick (.t 35) (.c (.bool true)) (.t 43)⟩]

def f_trial_CheckTest_r4 : List Abs.Op := [
  ⟨some 2, none, false, .mv (.c (.int .i64 1))⟩]

def f_trial_CheckTest_r5 : List Abs.Op := [
  ⟨some 45, none, false, .fadr 6 (.t 1)⟩,
  ⟨some 46, none, false, .ld false 1 (.t 45)⟩,
  ⟨some 47, none, false, .lenS (.t 46)⟩,
  ⟨some 48, none, false, .mv (.c (.int .i64 0))⟩]

def f_trial_CheckTest_r6 : List Abs.Op := [
  ⟨some 49, none, false, .bin .lss (.t 48) (.t 47)⟩]

def f_trial_CheckTest_r7 : List Abs.Op := [
  ⟨some 50, none, false, .idxS 3 (.t 46) (.t 48)⟩,
  ⟨some 51, none, false, .ld true 3 (.t 50)⟩,
  ⟨some 4, none, false, .alcv [] [(.int .i64 0), (.int .i64 0), (.int .i64 0)]⟩,
  ⟨none, none, false, .stv 4 [] 3 4 (.t 51)⟩]

def f_trial_CheckTest_r8 : List Abs.Op := [
  ⟨some 52, none, false, .fadr 0 (.t 4)⟩,
  ⟨some 53, none, false, .ldv 4 false 1 52⟩,
  ⟨some 54, none, false, .call false (.c (.fn i_trial_within [] [])) [(.t 53), (.c (.int .i64 0)), (.c (.int .i64 1000))]⟩,
  ⟨some 55, none, false, .un .not (.t 54)⟩,
  ⟨some 56, none, false, .mv (.t 55)⟩,
  ⟨some 57, some (56, false), false, .fadr 1 (.t 4)⟩,
  ⟨some 58, some (56, false), false, .ldv 4 true 2 57⟩,
  ⟨some 59, some (56, false), false, .call false (.c (.fn i_trial_Range_drops [] [])) [(.t 58)]⟩,
  ⟨some 60, some (56, false), false, .un .not (.t 59)⟩,
  ⟨some 61, none, false, .pick (.t 56) (.c (.bool true)) (.t 60)⟩]

def f_trial_CheckTest_r9 : List Abs.Op := [
  ⟨some 2, none, false, .mv (.c (.int .i64 1))⟩]

def f_trial_CheckTest_r10 : List Abs.Op := [
  ⟨some 62, none, false, .bin .add (.t 48) (.c (.int .i64 1))⟩,
  ⟨some 48, none, false, .mv (.t 62)⟩]

def f_trial_CheckTest_l11 : Abs.Cmd :=
  (.seq (.reg [46, 47, 48, 49] f_trial_CheckTest_r6) (.seq (.ite (.t 49) .nop (.exit 0)) (.seq (.blk 1 (.seq (.reg [4, 46, 47, 48] f_trial_CheckTest_r7) (.seq (.reg [46, 47, 48, 61] f_trial_CheckTest_r8) (.ite (.t 61) (.seq (.reg [2] f_trial_CheckTest_r9) .ret) .nop)))) (.reg [46, 47, 48] f_trial_CheckTest_r10))))

def f_trial_CheckTest_r12 : List Abs.Op := [
  ⟨some 2, none, false, .mv (.c (.int .i64 0))⟩]

def a_trial_CheckTest : Ann := ⟨[(11, [2]), (10, [46, 47, 48]), (9, [2]), (8, [46, 47, 48, 61]), (7, [4, 46, 47, 48]), (6, [46, 47, 48, 49]), (5, [46, 47, 48]), (4, [2]), (3, [1, 44]), (2, [2]), (1, [1, 8]), (0, [1])], [(0, [46, 47, 48])], [], [4], [4], [], [], [], [], [], []⟩
def f_trial_CheckTest : Abs.Fn := ⟨1, [.t 2],
  (.seq (.reg [1] f_trial_CheckTest_r0) (.seq (.seq (.reg [1, 8] f_trial_CheckTest_r1) (.ite (.t 8) (.seq (.reg [2] f_trial_CheckTest_r2) .ret) .nop)) (.seq (.seq (.reg [1, 44] f_trial_CheckTest_r3) (.ite (.t 44) (.seq (.reg [2] f_trial_CheckTest_r4) .ret) .nop)) (.seq (.seq (.reg [46, 47, 48] f_trial_CheckTest_r5) (.blk 0 (.loop [46, 47, 48] false f_trial_CheckTest_l11))) (.seq (.reg [2] f_trial_CheckTest_r12) .ret)))))⟩

@[simp] theorem e_trial_CheckTest_r0 : type_of% f_trial_CheckTest_r0.eq_1 := by_rfl f_trial_CheckTest_r0.eq_1
@[simp] theorem e_trial_CheckTest_r1 : type_of% f_trial_CheckTest_r1.eq_1 := by_rfl f_trial_CheckTest_r1.eq_1
@[simp] theorem e_trial_CheckTest_r2 : type_of% f_trial_CheckTest_r2.eq_1 := by_rfl f_trial_CheckTest_r2.eq_1
@[simp] theorem e_trial_CheckTest_r3 : type_of% f_trial_CheckTest_r3.eq_1 := by_rfl f_trial_CheckTest_r3.eq_1
@[simp] theorem e_trial_CheckTest_r4 : type_of% f_trial_CheckTest_r4.eq_1 := by_rfl f_trial_CheckTest_r4.eq_1
@[simp] theorem e_trial_CheckTest_r5 : type_of% f_trial_CheckTest_r5.eq_1 := by_rfl f_trial_CheckTest_r5.eq_1
@[simp] theorem e_trial_CheckTest_r6 : type_of% f_trial_CheckTest_r6.eq_1 := by_rfl f_trial_CheckTest_r6.eq_1
@[simp] theorem e_trial_CheckTest_r7 : type_of% f_trial_CheckTest_r7.eq_1 := by_rfl f_trial_CheckTest_r7.eq_1
@[simp] theorem e_trial_CheckTest_r8 : type_of% f_trial_CheckTest_r8.eq_1 := by_rfl f_trial_CheckTest_r8.eq_1
@[simp] theorem e_trial_CheckTest_r9 : type_of% f_trial_CheckTest_r9.eq_1 := by_rfl f_trial_CheckTest_r9.eq_1
@[simp] theorem e_trial_CheckTest_r10 : type_of% f_trial_CheckTest_r10.eq_1 := by_rfl f_trial_CheckTest_r10.eq_1
theorem e_trial_CheckTest_l11 : type_of% f_trial_CheckTest_l11.eq_1 := by_rfl f_trial_CheckTest_l11.eq_1
@[simp] theorem e_trial_CheckTest_r12 : type_of% f_trial_CheckTest_r12.eq_1 := by_rfl f_trial_CheckTest_r12.eq_1
theorem e_trial_CheckTest : type_of% f_trial_CheckTest.eq_1 := by_rfl f_trial_CheckTest.eq_1
theorem ok_trial_CheckTest : fnC Try.prog a_trial_CheckTest Try.f21 = some f_trial_CheckTest := by kernel_rfl

/-! 22 fumarole/trial.within -/
def f_trial_within_r0 : List Abs.Op := [
  ⟨some 6, none, false, .mv (.c (.bool false))⟩]

def f_trial_within_r1 : List Abs.Op := [
  ⟨some 7, none, false, .mv (.t 1)⟩,
  ⟨some 8, none, false, .mv (.t 0)⟩,
  ⟨some 9, none, false, .bin .leq (.t 7) (.t 8)⟩,
  ⟨some 10, none, false, .mv (.t 9)⟩,
  ⟨some 11, some (10, true), false, .mv (.t 0)⟩,
  ⟨some 12, some (10, true), false, .mv (.t 2)⟩,
  ⟨some 13, some (10, true), false, .bin .leq (.t 11) (.t 12)⟩,
  ⟨some 14, none, false, .pick (.t 10) (.t 13) (.c (.bool false))⟩,
  ⟨some 6, none, false, .mv (.t 14)⟩]

def a_trial_within : Ann := ⟨[(1, [6]), (0, [0, 1, 2])], [], [], [], [], [], [], [], [], [], []⟩
def f_trial_within : Abs.Fn := ⟨3, [.t 6],
  (.seq (.reg [0, 1, 2] f_trial_within_r0) (.seq (.reg [6] f_trial_within_r1) .ret))⟩

@[simp] theorem e_trial_within_r0 : type_of% f_trial_within_r0.eq_1 := by_rfl f_trial_within_r0.eq_1
@[simp] theorem e_trial_within_r1 : type_of% f_trial_within_r1.eq_1 := by_rfl f_trial_within_r1.eq_1
theorem e_trial_within : type_of% f_trial_within.eq_1 := by_rfl f_trial_within.eq_1
theorem ok_trial_within : fnC Try.prog a_trial_within Try.f22 = some f_trial_within := by kernel_rfl

/-! 23 (fumarole/trial.Test).drawdown -/
def f_trial_Test_drawdown_r0 : List Abs.Op := [
  ⟨some 2, none, false, .boxi (.t 0)⟩,
  ⟨some 3, none, false, .boxi (.t 1)⟩,
  ⟨some 4, none, false, .alc [] [(.int .i64 0), (.int .i64 0)]⟩,
  ⟨some 5, none, false, .alc [] [(.bool false)]⟩]

def f_trial_Test_drawdown_r1 : List Abs.Op := [
  ⟨some 8, none, false, .ldi true 7 (.t 2)⟩,
  ⟨some 9, none, false, .call true (.c (.fn i_trial_Test_sets [] [])) [(.t 8)]⟩]

def f_trial_Test_drawdown_r2 : List Abs.Op := [
  ⟨some 6, none, false, .alcv [] [(.int .i64 0), (.int .i64 0), (.int .i64 0)]⟩,
  ⟨none, none, false, .stv 6 [] 3 6 (.t 10)⟩]

def f_trial_Test_drawdown_r3 : List Abs.Op := [
  ⟨some 7, none, false, .alcv [] [(.int .i64 0), (.int .i64 0)]⟩,
  ⟨none, none, false, .stv 7 [] 2 7 (.t 11)⟩]

def f_trial_Test_drawdown_r4 : List Abs.Op := [
  ⟨some 12, none, true, .ldv 7 true 2 7⟩,
  ⟨some 13, none, true, .ldv 6 true 3 6⟩,
  ⟨some 14, none, true, .ldi false 1 (.t 3)⟩,
  ⟨some 15, none, true, .call false (.c (.fn i_trial_Curve_drop [] [])) [(.t 13), (.t 14)]⟩,
  ⟨some 16, none, true, .un .neg (.t 15)⟩,
  ⟨some 17, none, false, .call false (.c (.fn i_trial_Range_less [] [])) [(.t 12), (.t 16)]⟩,
  ⟨none, none, false, .stv 7 [] 2 7 (.t 17)⟩]

def f_trial_Test_drawdown_r5 : List Abs.Op := [
  ⟨some 18, none, false, .ld false 1 (.t 5)⟩,
  ⟨some 19, none, false, .un .not (.t 18)⟩]

def f_trial_Test_drawdown_r6 : List Abs.Op := [
  ⟨some 20, none, false, .ldv 7 true 2 7⟩,
  ⟨none, none, false, .st [] 2 (.t 4) (.t 20)⟩,
  ⟨none, none, false, .st [] 1 (.t 5) (.c (.bool true))⟩]

def f_trial_Test_drawdown_r7 : List Abs.Op := [
  ⟨some 21, none, false, .ld true 2 (.t 4)⟩,
  ⟨some 22, none, false, .ldv 7 true 2 7⟩,
  ⟨some 23, none, false, .call false (.c (.fn i_trial_span [] [])) [(.t 21), (.t 22)]⟩,
  ⟨none, none, false, .st [] 2 (.t 4) (.t 23)⟩]

def f_trial_Test_drawdown_a8 : Abs.Cmd :=
  (.seq (.reg [3, 4, 5, 6, 11] f_trial_Test_drawdown_r2) (.reg [3, 4, 5, 6, 7] f_trial_Test_drawdown_r3))

def f_trial_Test_drawdown_b8 : Abs.Cmd :=
  (.blk 1 (.seq (.reg [4, 5, 7] f_trial_Test_drawdown_r4) (.seq (.seq (.reg [4, 5, 7, 19] f_trial_Test_drawdown_r5) (.ite (.t 19) (.reg [4, 7] f_trial_Test_drawdown_r6) .nop)) (.reg [] f_trial_Test_drawdown_r7))))

def f_trial_Test_drawdown_r9 : List Abs.Op := [
  ⟨some 24, none, true, .ld true 2 (.t 4)⟩,
  ⟨some 25, none, true, .ld false 1 (.t 5)⟩,
  ⟨none, none, true, .stc [5] 2 (.t 4) (.t 24)⟩,
  ⟨none, none, false, .stc [4] 1 (.t 5) (.t 25)⟩]

def a_trial_Test_drawdown : Ann := ⟨[(8, [4, 5]), (7, []), (6, [4, 7]), (5, [4, 5, 7, 19]), (4, [4, 5, 7]), (3, [3, 4, 5, 6, 7]), (2, [3, 4, 5, 6, 11]), (1, [3, 4, 5, 9]), (0, [2, 3, 4, 5])], [(0, [3, 4, 5])], [], [4, 5, 6, 7], [6, 7], [], [1001], [], [2, 3], [(8002, some [5]), (8003, some [4])], []⟩
def f_trial_Test_drawdown : Abs.Fn := ⟨2, [.c 4 true 2, .c 5 false 1],
  (.seq (.reg [2, 3, 4, 5] f_trial_Test_drawdown_r0) (.seq (.seq (.reg [3, 4, 5, 9] f_trial_Test_drawdown_r1) (.blk 0 (.rngf [3, 4, 5] (.t 9) [10, 11] f_trial_Test_drawdown_a8 f_trial_Test_drawdown_b8))) (.seq (.reg [4, 5] f_trial_Test_drawdown_r9) .ret)))⟩

@[simp] theorem e_trial_Test_drawdown_r0 : type_of% f_trial_Test_drawdown_r0.eq_1 := by_rfl f_trial_Test_drawdown_r0.eq_1
@[simp] theorem e_trial_Test_drawdown_r1 : type_of% f_trial_Test_drawdown_r1.eq_1 := by_rfl f_trial_Test_drawdown_r1.eq_1
@[simp] theorem e_trial_Test_drawdown_r2 : type_of% f_trial_Test_drawdown_r2.eq_1 := by_rfl f_trial_Test_drawdown_r2.eq_1
@[simp] theorem e_trial_Test_drawdown_r3 : type_of% f_trial_Test_drawdown_r3.eq_1 := by_rfl f_trial_Test_drawdown_r3.eq_1
@[simp] theorem e_trial_Test_drawdown_r4 : type_of% f_trial_Test_drawdown_r4.eq_1 := by_rfl f_trial_Test_drawdown_r4.eq_1
@[simp] theorem e_trial_Test_drawdown_r5 : type_of% f_trial_Test_drawdown_r5.eq_1 := by_rfl f_trial_Test_drawdown_r5.eq_1
@[simp] theorem e_trial_Test_drawdown_r6 : type_of% f_trial_Test_drawdown_r6.eq_1 := by_rfl f_trial_Test_drawdown_r6.eq_1
@[simp] theorem e_trial_Test_drawdown_r7 : type_of% f_trial_Test_drawdown_r7.eq_1 := by_rfl f_trial_Test_drawdown_r7.eq_1
theorem e_trial_Test_drawdown_a8 : type_of% f_trial_Test_drawdown_a8.eq_1 := by_rfl f_trial_Test_drawdown_a8.eq_1
theorem e_trial_Test_drawdown_b8 : type_of% f_trial_Test_drawdown_b8.eq_1 := by_rfl f_trial_Test_drawdown_b8.eq_1
@[simp] theorem e_trial_Test_drawdown_r9 : type_of% f_trial_Test_drawdown_r9.eq_1 := by_rfl f_trial_Test_drawdown_r9.eq_1
theorem e_trial_Test_drawdown : type_of% f_trial_Test_drawdown.eq_1 := by_rfl f_trial_Test_drawdown.eq_1
theorem ok_trial_Test_drawdown : fnC Try.prog a_trial_Test_drawdown Try.f23 = some f_trial_Test_drawdown := by kernel_rfl

/-! 24 (fumarole/trial.Range).has -/
def f_trial_Range_has_r0 : List Abs.Op := [
  ⟨some 2, none, false, .boxi (.t 0)⟩,
  ⟨some 4, none, false, .mv (.c (.bool false))⟩]

def f_trial_Range_has_r1 : List Abs.Op := [
  ⟨some 5, none, false, .mv (.t 1)⟩,
  ⟨some 6, none, false, .fadr 0 (.t 2)⟩,
  ⟨some 7, none, false, .ld false 1 (.t 6)⟩,
  ⟨some 8, none, false, .fadr 1 (.t 2)⟩,
  ⟨some 9, none, false, .ld false 1 (.t 8)⟩,
  ⟨some 10, none, false, .call false (.c (.fn i_trial_within [] [])) [(.t 5), (.t 7), (.t 9)]⟩,
  ⟨some 4, none, false, .mv (.t 10)⟩]

def a_trial_Range_has : Ann := ⟨[(1, [4]), (0, [1, 2])], [], [], [], [], [], [], [], [], [], []⟩
def f_trial_Range_has : Abs.Fn := ⟨2, [.t 4],
  (.seq (.reg [1, 2] f_trial_Range_has_r0) (.seq (.reg [4] f_trial_Range_has_r1) .ret))⟩

@[simp] theorem e_trial_Range_has_r0 : type_of% f_trial_Range_has_r0.eq_1 := by_rfl f_trial_Range_has_r0.eq_1
@[simp] theorem e_trial_Range_has_r1 : type_of% f_trial_Range_has_r1.eq_1 := by_rfl f_trial_Range_has_r1.eq_1
theorem e_trial_Range_has : type_of% f_trial_Range_has.eq_1 := by_rfl f_trial_Range_has.eq_1
theorem ok_trial_Range_has : fnC Try.prog a_trial_Range_has Try.f24 = some f_trial_Range_has := by kernel_rfl

/-! 25 (fumarole/trial.Curve).drop -/
def f_trial_Curve_drop_r0 : List Abs.Op := [
  ⟨some 2, none, false, .boxi (.t 0)⟩,
  ⟨some 4, none, false, .mv (.c (.int .i64 0))⟩]

def f_trial_Curve_drop_r1 : List Abs.Op := [
  ⟨some 5, none, false, .fadr 0 (.t 2)⟩,
  ⟨some 6, none, false, .ld false 1 (.t 5)⟩,
  ⟨some 7, none, false, .fadr 1 (.t 2)⟩,
  ⟨some 8, none, false, .ld false 1 (.t 7)⟩,
  ⟨some 9, none, false, .mv (.t 1)⟩,
  ⟨some 10, none, false, .bin .mul (.t 8) (.t 9)⟩,
  ⟨some 11, none, false, .bin .add (.t 6) (.t 10)⟩,
  ⟨some 12, none, false, .fadr 2 (.t 2)⟩,
  ⟨some 13, none, false, .ld false 1 (.t 12)⟩,
  ⟨some 14, none, false, .mv (.t 1)⟩,
  ⟨some 15, none, false, .bin .mul (.t 13) (.t 14)⟩,
  ⟨some 16, none, false, .mv (.t 1)⟩,
  ⟨some 17, none, false, .bin .mul (.t 15) (.t 16)⟩,
  ⟨some 18, none, false, .bin .add (.t 11) (.t 17)⟩,
  ⟨some 4, none, false, .mv (.t 18)⟩]

def a_trial_Curve_drop : Ann := ⟨[(1, [4]), (0, [1, 2])], [], [], [], [], [], [], [], [], [], []⟩
def f_trial_Curve_drop : Abs.Fn := ⟨2, [.t 4],
  (.seq (.reg [1, 2] f_trial_Curve_drop_r0) (.seq (.reg [4] f_trial_Curve_drop_r1) .ret))⟩

@[simp] theorem e_trial_Curve_drop_r0 : type_of% f_trial_Curve_drop_r0.eq_1 := by_rfl f_trial_Curve_drop_r0.eq_1
@[simp] theorem e_trial_Curve_drop_r1 : type_of% f_trial_Curve_drop_r1.eq_1 := by_rfl f_trial_Curve_drop_r1.eq_1
theorem e_trial_Curve_drop : type_of% f_trial_Curve_drop.eq_1 := by_rfl f_trial_Curve_drop.eq_1
theorem ok_trial_Curve_drop : fnC Try.prog a_trial_Curve_drop Try.f25 = some f_trial_Curve_drop := by kernel_rfl

/-! 30 (fumarole/rock.Bed).valid -/
def f_rock_Bed_valid_r0 : List Abs.Op := [
  ⟨some 1, none, false, .boxi (.t 0)⟩,
  ⟨some 2, none, false, .mv (.c (.bool false))⟩]

def f_rock_Bed_valid_r1 : List Abs.Op := [
  ⟨some 4, none, false, .fadr 0 (.t 1)⟩,
  ⟨some 5, none, false, .ld true 4 (.t 4)⟩,
  ⟨some 6, none, false, .call false (.c (.fn i_field_CheckField [] [])) [(.t 5)]⟩,
  ⟨some 7, none, false, .bin .neq (.t 6) (.c (.int .i64 0))⟩,
  ⟨some 8, none, false, .mv (.t 7)⟩,
  ⟨some 9, some (8, false), false, .fadr 0 (.t 1)⟩,
  ⟨some 10, some (8, false), false, .fadr 3 (.t 9)⟩,
  ⟨some 11, some (8, false), false, .ld false 1 (.t 10)⟩,
  ⟨some 12, some (8, false), false, .bin .lss (.t 11) (.c (.int .i64 4))⟩,
  ⟨some 13, none, false, .pick (.t 8) (.c (.bool true)) (.t 12)⟩,
  ⟨some 14, none, false, .mv (.t 13)⟩,
  ⟨some 15, some (14, false), false, .fadr 4 (.t 1)⟩,
  ⟨some 16, some (14, false), false, .ld false 1 (.t 15)⟩,
  ⟨some 17, some (14, false), false, .call false (.c (.fn i_steam_CheckTable [] [])) [(.t 16)]⟩,
  ⟨some 18, some (14, false), false, .bin .neq (.t 17) (.c (.int .i64 0))⟩,
  ⟨some 19, none, false, .pick (.t 14) (.c (.bool true)) (.t 18)⟩,
  ⟨some 20, none, false, .mv (.t 19)⟩,
  ⟨some 21, some (20, false), false, .fadr 5 (.t 1)⟩,
  ⟨some 22, some (20, false), false, .ld false 1 (.t 21)⟩,
  ⟨some 23, some (20, false), false, .call false (.c (.fn i_rock_within [] [])) [(.t 22), (.c (.int .i64 1)), (.c (.int .i64 100000))]⟩,
  ⟨some 24, some (20, false), false, .un .not (.t 23)⟩,
  ⟨some 25, none, false, .pick (.t 20) (.c (.bool true)) (.t 24)⟩,
  ⟨some 26, none, false, .mv (.t 25)⟩,
  ⟨some 27, some (26, false), false, .fadr 6 (.t 1)⟩,
  ⟨some 28, some (26, false), false, .ld false 1 (.t 27)⟩,
  ⟨some 29, some (26, false), false, .call false (.c (.fn i_rock_within [] [])) [(.t 28), (.c (.int .i64 0)), (.c (.int .i64 1000))]⟩,
  ⟨some 30, some (26, false), false, .un .not (.t 29)⟩,
  ⟨some 31, none, false, .pick (.t 26) (.c (.bool true)) (.t 30)⟩,
  ⟨some 32, none, false, .mv (.t 31)⟩,
  ⟨some 33, some (32, false), false, .fadr 7 (.t 1)⟩,
  ⟨some 34, some (32, false), false, .ld false 1 (.t 33)⟩,
  ⟨some 35, some (32, false), false, .call false (.c (.fn i_rock_within [] [])) [(.t 34), (.c (.int .i64 0)), (.c (.int .i64 3000))]⟩,
  ⟨some 36, some (32, false), false, .un .not (.t 35)⟩,
  ⟨some 37, none, false, .pick (.t 32) (.c (.bool true)) (.t 36)⟩,
  ⟨some 38, none, false, .mv (.t 37)⟩,
  ⟨some 39, some (38, false), false, .fadr 8 (.t 1)⟩,
  ⟨some 40, some (38, false), false, .ld false 1 (.t 39)⟩,
  ⟨some 41, some (38, false), false, .lenS (.t 40)⟩,
  ⟨some 42, some (38, false), false, .bin .gtr (.t 41) (.c (.int .i64 8))⟩,
  ⟨some 43, none, false, .pick (.t 38) (.c (.bool true)) (.t 42)⟩]

def f_rock_Bed_valid_r2 : List Abs.Op := [
  ⟨some 2, none, false, .mv (.c (.bool false))⟩]

def f_rock_Bed_valid_r3 : List Abs.Op := [
  ⟨some 44, none, false, .ld true 9 (.t 1)⟩,
  ⟨some 45, none, false, .call false (.c (.fn i_rock_Bed_size [] [])) [(.t 44)]⟩,
  ⟨some 46, none, false, .mks 1 1 [(.bool false)] (.t 45) (.t 45)⟩,
  ⟨some 3, none, false, .alc [] [.nils]⟩,
  ⟨none, none, false, .st [] 1 (.t 3) (.t 46)⟩]

def f_rock_Bed_valid_r4 : List Abs.Op := [
  ⟨some 47, none, false, .fadr 8 (.t 1)⟩,
  ⟨some 48, none, false, .ld false 1 (.t 47)⟩,
  ⟨some 49, none, false, .mkf i_rock_Bed_valid_1 [] [(.t 3)]⟩,
  ⟨some 50, none, false, .call false (.c (.fn i_rock_all_rock_Bore [] [])) [(.t 48), (.t 49)]⟩,
  ⟨some 2, none, false, .mv (.t 50)⟩]

def a_rock_Bed_valid : Ann := ⟨[(4, [2]), (3, [1, 3]), (2, [2]), (1, [1, 43]), (0, [1])], [], [], [3], [], [], [], [], [], [], []⟩
def f_rock_Bed_valid : Abs.Fn := ⟨1, [.t 2],
  (.seq (.reg [1] f_rock_Bed_valid_r0) (.seq (.seq (.reg [1, 43] f_rock_Bed_valid_r1) (.ite (.t 43) (.seq (.reg [2] f_rock_Bed_valid_r2) .ret) .nop)) (.seq (.reg [1, 3] f_rock_Bed_valid_r3) (.seq (.reg [2] f_rock_Bed_valid_r4) .ret))))⟩

@[simp] theorem e_rock_Bed_valid_r0 : type_of% f_rock_Bed_valid_r0.eq_1 := by_rfl f_rock_Bed_valid_r0.eq_1
@[simp] theorem e_rock_Bed_valid_r1 : type_of% f_rock_Bed_valid_r1.eq_1 := by_rfl f_rock_Bed_valid_r1.eq_1
@[simp] theorem e_rock_Bed_valid_r2 : type_of% f_rock_Bed_valid_r2.eq_1 := by_rfl f_rock_Bed_valid_r2.eq_1
@[simp] theorem e_rock_Bed_valid_r3 : type_of% f_rock_Bed_valid_r3.eq_1 := by_rfl f_rock_Bed_valid_r3.eq_1
@[simp] theorem e_rock_Bed_valid_r4 : type_of% f_rock_Bed_valid_r4.eq_1 := by_rfl f_rock_Bed_valid_r4.eq_1
theorem e_rock_Bed_valid : type_of% f_rock_Bed_valid.eq_1 := by_rfl f_rock_Bed_valid.eq_1
theorem ok_rock_Bed_valid : fnC Try.prog a_rock_Bed_valid Try.f30 = some f_rock_Bed_valid := by kernel_rfl

/-! 31 (fumarole/rock.bedded).fits -/
def f_rock_bedded_fits_r0 : List Abs.Op := [
  ⟨some 1, none, false, .boxi (.t 0)⟩,
  ⟨some 2, none, false, .mv (.c (.bool false))⟩]

def f_rock_bedded_fits_r1 : List Abs.Op := [
  ⟨some 5, none, false, .fadr 0 (.t 1)⟩,
  ⟨some 6, none, false, .fadr 0 (.t 5)⟩,
  ⟨some 7, none, false, .ld true 4 (.t 6)⟩,
  ⟨some 8, none, false, .fadr 9 (.t 1)⟩,
  ⟨some 9, none, false, .ld true 2 (.t 8)⟩,
  ⟨some 10, none, false, .bsi 1 2 [(.str []), .nils] [(0, 2, (.t 9))]⟩,
  ⟨some 11, none, false, .call false (.c (.fn i_field_CheckModels [] [])) [(.t 7), (.t 10)]⟩,
  ⟨some 12, none, false, .bin .neq (.t 11) (.c (.int .i64 0))⟩]

def f_rock_bedded_fits_r2 : List Abs.Op := [
  ⟨some 2, none, false, .mv (.c (.bool false))⟩]

def f_rock_bedded_fits_r3 : List Abs.Op := [
  ⟨some 13, none, false, .bld [(.int .i64 0), (.int .i64 0)] [(0, 1, (.c (.int .i64 1000))), (1, 1, (.c (.int .i64 100000)))]⟩,
  ⟨some 14, none, false, .bld [(.int .i64 0), (.int .i64 0)] [(0, 1, (.c (.int .i64 0))), (1, 1, (.c (.int .i64 1000)))]⟩,
  ⟨some 15, none, false, .bld [(.int .i64 0), (.int .i64 0)] [(0, 1, (.c (.int .i64 0))), (1, 1, (.c (.int .i64 3000)))]⟩,
  ⟨some 16, none, false, .bld [(.int .i64 0), (.int .i64 0)] [(0, 1, (.c (.int .i64 0))), (1, 1, (.c (.int .i64 1000)))]⟩,
  ⟨some 17, none, false, .bld [(.int .i64 0), (.int .i64 0), (.int .i64 0), (.int .i64 0), (.int .i64 0), (.int .i64 0), (.int .i64 0), (.int .i64 0)] [(0, 2, (.t 13)), (2, 2, (.t 14)), (4, 2, (.t 15)), (6, 2, (.t 16))]⟩,
  ⟨some 18, none, false, .mv (.c (.int .i64 0))⟩]

def f_rock_bedded_fits_r4 : List Abs.Op := [
  ⟨some 19, none, false, .bin .lss (.t 18) (.c (.int .i64 4))⟩]

def f_rock_bedded_fits_r5 : List Abs.Op := [
  ⟨some 20, none, false, .mv (.t 18)⟩,
  ⟨some 21, none, false, .idxV true 4 2 (.t 17) (.t 18)⟩,
  ⟨some 4, none, false, .alc [] [(.int .i64 0), (.int .i64 0)]⟩,
  ⟨some 3, none, false, .mv (.t 20)⟩,
  ⟨none, none, false, .st [] 2 (.t 4) (.t 21)⟩]

def f_rock_bedded_fits_r6 : List Abs.Op := [
  ⟨some 22, none, false, .ld true 11 (.t 1)⟩,
  ⟨some 23, none, false, .mv (.t 3)⟩,
  ⟨some 24, none, false, .call false (.c (.fn i_rock_bedded_kind [] [])) [(.t 22), (.t 23)]⟩,
  ⟨some 25, none, false, .mkf i_rock_bedded_fits_1 [] [(.t 4)]⟩,
  ⟨some 26, none, false, .call false (.c (.fn i_rock_all_int [] [])) [(.t 24), (.t 25)]⟩,
  ⟨some 27, none, false, .un .not (.t 26)⟩]

def f_rock_bedded_fits_r7 : List Abs.Op := [
  ⟨some 2, none, false, .mv (.c (.bool false))⟩]

def f_rock_bedded_fits_r8 : List Abs.Op := [
  ⟨some 28, none, false, .bin .add (.t 18) (.c (.int .i64 1))⟩,
  ⟨some 18, none, false, .mv (.t 28)⟩]

def f_rock_bedded_fits_l9 : Abs.Cmd :=
  (.seq (.reg [1, 17, 18, 19] f_rock_bedded_fits_r4) (.seq (.ite (.t 19) .nop (.exit 0)) (.seq (.blk 1 (.seq (.reg [1, 3, 4, 17, 18] f_rock_bedded_fits_r5) (.seq (.reg [1, 17, 18, 27] f_rock_bedded_fits_r6) (.ite (.t 27) (.seq (.reg [2] f_rock_bedded_fits_r7) .ret) .nop)))) (.reg [1, 17, 18] f_rock_bedded_fits_r8))))

def f_rock_bedded_fits_r10 : List Abs.Op := [
  ⟨some 2, none, false, .mv (.c (.bool true))⟩]

def a_rock_bedded_fits : Ann := ⟨[(9, [2]), (8, [1, 17, 18]), (7, [2]), (6, [1, 17, 18, 27]), (5, [1, 3, 4, 17, 18]), (4, [1, 17, 18, 19]), (3, [1, 17, 18]), (2, [2]), (1, [1, 12]), (0, [1])], [(0, [1, 17, 18])], [0], [4], [], [], [], [], [], [], []⟩
def f_rock_bedded_fits : Abs.Fn := ⟨1, [.t 2],
  (.seq (.reg [1] f_rock_bedded_fits_r0) (.seq (.seq (.reg [1, 12] f_rock_bedded_fits_r1) (.ite (.t 12) (.seq (.reg [2] f_rock_bedded_fits_r2) .ret) .nop)) (.seq (.seq (.reg [1, 17, 18] f_rock_bedded_fits_r3) (.blk 0 (.loop [1, 17, 18] true f_rock_bedded_fits_l9))) (.seq (.reg [2] f_rock_bedded_fits_r10) .ret))))⟩

@[simp] theorem e_rock_bedded_fits_r0 : type_of% f_rock_bedded_fits_r0.eq_1 := by_rfl f_rock_bedded_fits_r0.eq_1
@[simp] theorem e_rock_bedded_fits_r1 : type_of% f_rock_bedded_fits_r1.eq_1 := by_rfl f_rock_bedded_fits_r1.eq_1
@[simp] theorem e_rock_bedded_fits_r2 : type_of% f_rock_bedded_fits_r2.eq_1 := by_rfl f_rock_bedded_fits_r2.eq_1
@[simp] theorem e_rock_bedded_fits_r3 : type_of% f_rock_bedded_fits_r3.eq_1 := by_rfl f_rock_bedded_fits_r3.eq_1
@[simp] theorem e_rock_bedded_fits_r4 : type_of% f_rock_bedded_fits_r4.eq_1 := by_rfl f_rock_bedded_fits_r4.eq_1
@[simp] theorem e_rock_bedded_fits_r5 : type_of% f_rock_bedded_fits_r5.eq_1 := by_rfl f_rock_bedded_fits_r5.eq_1
@[simp] theorem e_rock_bedded_fits_r6 : type_of% f_rock_bedded_fits_r6.eq_1 := by_rfl f_rock_bedded_fits_r6.eq_1
@[simp] theorem e_rock_bedded_fits_r7 : type_of% f_rock_bedded_fits_r7.eq_1 := by_rfl f_rock_bedded_fits_r7.eq_1
@[simp] theorem e_rock_bedded_fits_r8 : type_of% f_rock_bedded_fits_r8.eq_1 := by_rfl f_rock_bedded_fits_r8.eq_1
theorem e_rock_bedded_fits_l9 : type_of% f_rock_bedded_fits_l9.eq_1 := by_rfl f_rock_bedded_fits_l9.eq_1
@[simp] theorem e_rock_bedded_fits_r10 : type_of% f_rock_bedded_fits_r10.eq_1 := by_rfl f_rock_bedded_fits_r10.eq_1
theorem e_rock_bedded_fits : type_of% f_rock_bedded_fits.eq_1 := by_rfl f_rock_bedded_fits.eq_1
theorem ok_rock_bedded_fits : fnC Try.prog a_rock_bedded_fits Try.f31 = some f_rock_bedded_fits := by kernel_rfl

/-! 32 (fumarole/rock.Bed).rates -/
def f_rock_Bed_rates_r0 : List Abs.Op := [
  ⟨some 2, none, false, .boxi (.t 0)⟩,
  ⟨some 4, none, false, .mv (.c (.int .i64 0))⟩]

def f_rock_Bed_rates_r1 : List Abs.Op := [
  ⟨some 6, none, false, .mv (.t 1)⟩,
  ⟨some 7, none, false, .lenS (.t 6)⟩,
  ⟨some 8, none, false, .fadr 8 (.t 2)⟩,
  ⟨some 9, none, false, .ld false 1 (.t 8)⟩,
  ⟨some 10, none, false, .lenS (.t 9)⟩,
  ⟨some 11, none, false, .bin .neq (.t 7) (.t 10)⟩,
  ⟨some 5, none, false, .mv (.t 11)⟩]

def f_rock_Bed_rates_r2 : List Abs.Op := [
  ⟨some 4, none, false, .mv (.c (.int .i64 1))⟩]

def f_rock_Bed_rates_r3 : List Abs.Op := [
  ⟨some 13, none, false, .mv (.t 1)⟩,
  ⟨some 14, none, false, .call false (.c (.fn i_rock_all_int [] [])) [(.t 13), (.c (.fn i_rock_Bed_rates_1 [] []))]⟩,
  ⟨some 15, none, false, .un .not (.t 14)⟩,
  ⟨some 12, none, false, .mv (.t 15)⟩]

def f_rock_Bed_rates_r4 : List Abs.Op := [
  ⟨some 4, none, false, .mv (.c (.int .i64 2))⟩]

def f_rock_Bed_rates_r5 : List Abs.Op := [
  ⟨some 4, none, false, .mv (.c (.int .i64 0))⟩]

def a_rock_Bed_rates : Ann := ⟨[(5, [4]), (2, [4]), (4, [4]), (3, [12]), (1, [1, 5]), (0, [1, 2])], [], [], [], [], [], [], [], [], [], []⟩
def f_rock_Bed_rates : Abs.Fn := ⟨2, [.t 4],
  (.seq (.reg [1, 2] f_rock_Bed_rates_r0) (.seq (.blk 0 (.seq (.reg [1, 5] f_rock_Bed_rates_r1) (.ite (.t 5) (.seq (.reg [4] f_rock_Bed_rates_r2) .ret) (.seq (.reg [12] f_rock_Bed_rates_r3) (.ite (.t 12) (.seq (.reg [4] f_rock_Bed_rates_r4) .ret) .nop))))) (.seq (.reg [4] f_rock_Bed_rates_r5) .ret)))⟩

@[simp] theorem e_rock_Bed_rates_r0 : type_of% f_rock_Bed_rates_r0.eq_1 := by_rfl f_rock_Bed_rates_r0.eq_1
@[simp] theorem e_rock_Bed_rates_r1 : type_of% f_rock_Bed_rates_r1.eq_1 := by_rfl f_rock_Bed_rates_r1.eq_1
@[simp] theorem e_rock_Bed_rates_r2 : type_of% f_rock_Bed_rates_r2.eq_1 := by_rfl f_rock_Bed_rates_r2.eq_1
@[simp] theorem e_rock_Bed_rates_r3 : type_of% f_rock_Bed_rates_r3.eq_1 := by_rfl f_rock_Bed_rates_r3.eq_1
@[simp] theorem e_rock_Bed_rates_r4 : type_of% f_rock_Bed_rates_r4.eq_1 := by_rfl f_rock_Bed_rates_r4.eq_1
@[simp] theorem e_rock_Bed_rates_r5 : type_of% f_rock_Bed_rates_r5.eq_1 := by_rfl f_rock_Bed_rates_r5.eq_1
theorem e_rock_Bed_rates : type_of% f_rock_Bed_rates.eq_1 := by_rfl f_rock_Bed_rates.eq_1
theorem ok_rock_Bed_rates : fnC Try.prog a_rock_Bed_rates Try.f32 = some f_rock_Bed_rates := by kernel_rfl

/-! 33 (fumarole/rock.bedded).first -/
def f_rock_bedded_first_r0 : List Abs.Op := [
  ⟨some 1, none, false, .boxi (.t 0)⟩,
  ⟨some 2, none, false, .nilb 3⟩]

def f_rock_bedded_first_r1 : List Abs.Op := [
  ⟨some 4, none, false, .fadr 0 (.t 1)⟩,
  ⟨some 5, none, false, .ld true 9 (.t 4)⟩,
  ⟨some 6, none, false, .call false (.c (.fn i_rock_Bed_size [] [])) [(.t 5)]⟩,
  ⟨some 7, none, false, .mv (.c (.int .i64 0))⟩]

def f_rock_bedded_first_r2 : List Abs.Op := [
  ⟨some 8, none, false, .bin .lss (.t 7) (.t 6)⟩]

def f_rock_bedded_first_r3 : List Abs.Op := [
  ⟨some 9, none, false, .mv (.t 7)⟩,
  ⟨some 3, none, false, .mv (.t 9)⟩]

def f_rock_bedded_first_r4 : List Abs.Op := [
  ⟨some 10, none, true, .mv (.t 2)⟩,
  ⟨some 11, none, true, .ld true 11 (.t 1)⟩,
  ⟨some 12, none, true, .mv (.t 3)⟩,
  ⟨some 13, none, true, .call false (.c (.fn i_rock_bedded_hold [] [])) [(.t 11), (.t 12)]⟩,
  ⟨some 14, none, true, .ld true 11 (.t 1)⟩,
  ⟨some 15, none, true, .mv (.t 3)⟩,
  ⟨some 16, none, true, .call false (.c (.fn i_rock_bedded_hold [] [])) [(.t 14), (.t 15)]⟩,
  ⟨some 17, none, true, .ld true 11 (.t 1)⟩,
  ⟨some 18, none, true, .mv (.t 3)⟩,
  ⟨some 19, none, true, .call false (.c (.fn i_rock_bedded_warm [] [])) [(.t 17), (.t 18)]⟩,
  ⟨some 20, none, true, .bin .mul (.t 16) (.t 19)⟩,
  ⟨some 21, none, true, .bld [(.int .i64 0), (.int .i64 0), (.int .i64 0)] [(0, 1, (.t 13)), (1, 1, (.t 20))]⟩,
  ⟨some 22, none, true, .bsi 1 3 [(.int .i64 0), (.int .i64 0), (.int .i64 0)] [(0, 3, (.t 21))]⟩,
  ⟨some 23, none, false, .app 3 24 (.t 10) (.t 22)⟩,
  ⟨some 2, none, false, .mv (.t 23)⟩]

def f_rock_bedded_first_r5 : List Abs.Op := [
  ⟨some 24, none, false, .bin .add (.t 7) (.c (.int .i64 1))⟩,
  ⟨some 7, none, false, .mv (.t 24)⟩]

def f_rock_bedded_first_l6 : Abs.Cmd :=
  (.seq (.reg [1, 2, 6, 7, 8] f_rock_bedded_first_r2) (.seq (.ite (.t 8) .nop (.exit 0)) (.seq (.blk 1 (.seq (.reg [1, 2, 3, 6, 7] f_rock_bedded_first_r3) (.reg [1, 2, 6, 7] f_rock_bedded_first_r4))) (.reg [1, 2, 6, 7] f_rock_bedded_first_r5))))

def f_rock_bedded_first_r7 : List Abs.Op := [
  ⟨some 25, none, false, .mv (.t 2)⟩,
  ⟨some 2, none, false, .mv (.t 25)⟩]

def a_rock_bedded_first : Ann := ⟨[(6, [2]), (5, [1, 2, 6, 7]), (4, [1, 2, 6, 7]), (3, [1, 2, 3, 6, 7]), (2, [1, 2, 6, 7, 8]), (1, [1, 2, 6, 7]), (0, [1, 2])], [(0, [1, 2, 6, 7])], [], [2], [], [], [], [], [], [], []⟩
def f_rock_bedded_first : Abs.Fn := ⟨1, [.t 2],
  (.seq (.reg [1, 2] f_rock_bedded_first_r0) (.seq (.seq (.reg [1, 2, 6, 7] f_rock_bedded_first_r1) (.blk 0 (.loop [1, 2, 6, 7] false f_rock_bedded_first_l6))) (.seq (.reg [2] f_rock_bedded_first_r7) .ret)))⟩

@[simp] theorem e_rock_bedded_first_r0 : type_of% f_rock_bedded_first_r0.eq_1 := by_rfl f_rock_bedded_first_r0.eq_1
@[simp] theorem e_rock_bedded_first_r1 : type_of% f_rock_bedded_first_r1.eq_1 := by_rfl f_rock_bedded_first_r1.eq_1
@[simp] theorem e_rock_bedded_first_r2 : type_of% f_rock_bedded_first_r2.eq_1 := by_rfl f_rock_bedded_first_r2.eq_1
@[simp] theorem e_rock_bedded_first_r3 : type_of% f_rock_bedded_first_r3.eq_1 := by_rfl f_rock_bedded_first_r3.eq_1
@[simp] theorem e_rock_bedded_first_r4 : type_of% f_rock_bedded_first_r4.eq_1 := by_rfl f_rock_bedded_first_r4.eq_1
@[simp] theorem e_rock_bedded_first_r5 : type_of% f_rock_bedded_first_r5.eq_1 := by_rfl f_rock_bedded_first_r5.eq_1
theorem e_rock_bedded_first_l6 : type_of% f_rock_bedded_first_l6.eq_1 := by_rfl f_rock_bedded_first_l6.eq_1
@[simp] theorem e_rock_bedded_first_r7 : type_of% f_rock_bedded_first_r7.eq_1 := by_rfl f_rock_bedded_first_r7.eq_1
theorem e_rock_bedded_first : type_of% f_rock_bedded_first.eq_1 := by_rfl f_rock_bedded_first.eq_1
theorem ok_rock_bedded_first : fnC Try.prog a_rock_bedded_first Try.f33 = some f_rock_bedded_first := by kernel_rfl

end Go.Proofs.Ytehandllpmlcoaa
