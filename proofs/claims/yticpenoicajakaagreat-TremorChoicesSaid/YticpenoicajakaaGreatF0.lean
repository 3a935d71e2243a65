/- The code of functions of the program, in the small instruction set; each is what the translation makes of it. -/
import Derived.Test.YticpenoicajakaaGreatIds
set_option linter.unusedVariables false
set_option maxRecDepth 100000
namespace Go.Proofs.YticpenoicajakaaGreat
open Go Go.Abs
/-! 3 fumarole/fumarolelaw09.TremorLights -/
def f_law09_TremorLights_r0 : List Abs.Op := [
  ⟨some 6, none, false, .mv (.c (.bool false))⟩]

def f_law09_TremorLights_r1 : List Abs.Op := [
  ⟨some 16, none, false, .mv (.t 0)⟩,
  ⟨some 17, none, false, .lenS (.t 16)⟩,
  ⟨some 18, none, false, .bin .gtr (.t 17) (.c (.int .i64 22))⟩,
  ⟨some 19, none, false, .mv (.t 18)⟩,
  ⟨some 20, some (19, false), false, .mv (.t 1)⟩,
  ⟨some 21, some (19, false), false, .lenS (.t 20)⟩,
  ⟨some 22, some (19, false), false, .bin .gtr (.t 21) (.c (.int .i64 30))⟩,
  ⟨some 23, some (19, false), false, .mv (.t 22)⟩,
  ⟨some 24, some (23, true), false, .mv (.t 1)⟩,
  ⟨some 25, some (23, true), false, .lenS (.t 24)⟩,
  ⟨some 26, some (23, true), false, .bin .leq (.t 25) (.c (.int .i64 200))⟩,
  ⟨some 27, some (19, false), false, .pick (.t 23) (.t 26) (.c (.bool false))⟩,
  ⟨some 28, none, false, .pick (.t 19) (.c (.bool true)) (.t 27)⟩,
  ⟨some 29, none, false, .mv (.t 28)⟩,
  ⟨some 30, some (29, false), false, .mv (.t 1)⟩,
  ⟨some 31, some (29, false), false, .lenS (.t 30)⟩,
  ⟨some 32, some (29, false), false, .bin .gtr (.t 31) (.c (.int .i64 202))⟩,
  ⟨some 33, none, false, .pick (.t 29) (.c (.bool true)) (.t 32)⟩]

def f_law09_TremorLights_r2 : List Abs.Op := [
  ⟨some 34, none, false, .call false (.c (.fn i_law09_awake [] [])) []⟩,
  ⟨some 6, none, false, .mv (.t 34)⟩]

def f_law09_TremorLights_r3 : List Abs.Op := [
  ⟨some 7, none, false, .mv (.c (.int .i64 0))⟩]

def f_law09_TremorLights_r4 : List Abs.Op := [
  ⟨some 35, none, false, .mv (.t 7)⟩,
  ⟨some 36, none, false, .mv (.t 1)⟩,
  ⟨some 37, none, false, .lenS (.t 36)⟩,
  ⟨some 38, none, false, .bin .lss (.t 35) (.t 37)⟩]

def f_law09_TremorLights_r5 : List Abs.Op := [
  ⟨some 41, none, false, .mv (.t 1)⟩,
  ⟨some 42, none, false, .mv (.t 7)⟩,
  ⟨some 43, none, false, .idxS 2 (.t 41) (.t 42)⟩,
  ⟨some 44, none, false, .fadr 1 (.t 43)⟩,
  ⟨some 45, none, false, .ld false 1 (.t 44)⟩,
  ⟨some 46, none, false, .lenS (.t 45)⟩,
  ⟨some 47, none, false, .bin .gtr (.t 46) (.c (.int .i64 20))⟩,
  ⟨some 48, none, false, .mv (.t 47)⟩,
  ⟨some 49, some (48, true), false, .mv (.t 1)⟩,
  ⟨some 50, some (48, true), false, .mv (.t 7)⟩,
  ⟨some 51, some (48, true), false, .idxS 2 (.t 49) (.t 50)⟩,
  ⟨some 52, some (48, true), false, .fadr 1 (.t 51)⟩,
  ⟨some 53, some (48, true), false, .ld false 1 (.t 52)⟩,
  ⟨some 54, some (48, true), false, .lenS (.t 53)⟩,
  ⟨some 55, some (48, true), false, .bin .leq (.t 54) (.c (.int .i64 2000))⟩,
  ⟨some 56, some (48, true), false, .mv (.t 55)⟩,
  ⟨some 57, some (56, false), false, .mv (.t 1)⟩,
  ⟨some 58, some (56, false), false, .mv (.t 7)⟩,
  ⟨some 59, some (56, false), false, .idxS 2 (.t 57) (.t 58)⟩,
  ⟨some 60, some (56, false), false, .fadr 1 (.t 59)⟩,
  ⟨some 61, some (56, false), false, .ld false 1 (.t 60)⟩,
  ⟨some 62, some (56, false), false, .lenS (.t 61)⟩,
  ⟨some 63, some (56, false), false, .bin .gtr (.t 62) (.c (.int .i64 2002))⟩,
  ⟨some 64, some (48, true), false, .pick (.t 56) (.c (.bool true)) (.t 63)⟩,
  ⟨some 65, some (48, true), false, .mv (.t 64)⟩,
  ⟨some 66, some (65, false), false, .mv (.t 1)⟩,
  ⟨some 67, some (65, false), false, .lenS (.t 66)⟩,
  ⟨some 68, some (65, false), false, .bin .gtr (.t 67) (.c (.int .i64 3))⟩,
  ⟨some 69, some (48, true), false, .pick (.t 65) (.c (.bool true)) (.t 68)⟩,
  ⟨some 70, none, false, .pick (.t 48) (.t 69) (.c (.bool false))⟩]

def f_law09_TremorLights_r6 : List Abs.Op := [
  ⟨some 71, none, false, .call false (.c (.fn i_law09_awake [] [])) []⟩,
  ⟨some 6, none, false, .mv (.t 71)⟩]

def f_law09_TremorLights_r7 : List Abs.Op := [
  ⟨some 39, none, false, .mv (.t 7)⟩,
  ⟨some 40, none, false, .bin .add (.t 39) (.c (.int .i64 1))⟩,
  ⟨some 7, none, false, .mv (.t 40)⟩]

def f_law09_TremorLights_l8 : Abs.Cmd :=
  (.seq (.seq (.reg [0, 1, 2, 7, 38] f_law09_TremorLights_r4) (.ite (.t 38) .nop (.exit 0))) (.seq (.blk 1 (.seq (.reg [0, 1, 2, 7, 70] f_law09_TremorLights_r5) (.ite (.t 70) (.seq (.reg [6] f_law09_TremorLights_r6) .ret) .nop))) (.reg [0, 1, 2, 7] f_law09_TremorLights_r7)))

def f_law09_TremorLights_r9 : List Abs.Op := [
  ⟨some 73, none, false, .mv (.t 0)⟩,
  ⟨some 74, none, false, .call false (.c (.fn i_law09_Rules [] [])) [(.t 73)]⟩,
  ⟨some 75, none, false, .mv (.t 1)⟩,
  ⟨some 76, none, false, .call false (.c (.fn i_law09_Events [] [])) [(.t 75)]⟩,
  ⟨some 77, none, false, .mv (.t 2)⟩,
  ⟨some 78, none, false, .call false (.c (.fn i_tremor_Light [] [])) [(.t 74), (.t 76), (.t 77)]⟩,
  ⟨some 72, none, false, .mv (.t 78)⟩,
  ⟨some 79, none, false, .ext (.t 72) 0⟩,
  ⟨some 80, none, false, .ext (.t 72) 1⟩,
  ⟨some 81, none, false, .ext (.t 72) 2⟩,
  ⟨some 8, none, false, .mv (.t 79)⟩,
  ⟨some 9, none, false, .mv (.t 80)⟩,
  ⟨some 10, none, false, .mv (.t 81)⟩]

def f_law09_TremorLights_r10 : List Abs.Op := [
  ⟨some 11, none, false, .mv (.c (.int .i64 0))⟩]

def f_law09_TremorLights_r11 : List Abs.Op := [
  ⟨some 82, none, false, .mv (.t 0)⟩,
  ⟨some 83, none, false, .lenS (.t 82)⟩,
  ⟨some 84, none, false, .bin .gtr (.t 83) (.c (.int .i64 20))⟩]

def f_law09_TremorLights_r12 : List Abs.Op := [
  ⟨some 11, none, false, .mv (.c (.int .i64 3))⟩]

def f_law09_TremorLights_r13 : List Abs.Op := [
  ⟨some 12, none, false, .mv (.c (.int .i64 0))⟩]

def f_law09_TremorLights_r14 : List Abs.Op := [
  ⟨some 85, none, false, .mv (.t 12)⟩,
  ⟨some 86, none, false, .mv (.t 0)⟩,
  ⟨some 87, none, false, .lenS (.t 86)⟩,
  ⟨some 88, none, false, .bin .lss (.t 85) (.t 87)⟩,
  ⟨some 89, none, false, .mv (.t 88)⟩,
  ⟨some 90, some (89, true), false, .mv (.t 11)⟩,
  ⟨some 91, some (89, true), false, .bin .eql (.t 90) (.c (.int .i64 0))⟩,
  ⟨some 92, none, false, .pick (.t 89) (.t 91) (.c (.bool false))⟩]

def f_law09_TremorLights_r15 : List Abs.Op := [
  ⟨some 95, none, false, .mv (.t 0)⟩,
  ⟨some 96, none, false, .mv (.t 12)⟩,
  ⟨some 97, none, false, .idxS 10 (.t 95) (.t 96)⟩,
  ⟨some 98, none, false, .ld true 10 (.t 97)⟩,
  ⟨some 99, none, false, .call false (.c (.fn i_ref09_RightRule [] [])) [(.t 98)]⟩,
  ⟨some 100, none, false, .un .not (.t 99)⟩]

def f_law09_TremorLights_r16 : List Abs.Op := [
  ⟨some 11, none, false, .mv (.c (.int .i64 1))⟩]

def f_law09_TremorLights_r17 : List Abs.Op := [
  ⟨some 93, none, false, .mv (.t 12)⟩,
  ⟨some 94, none, false, .bin .add (.t 93) (.c (.int .i64 1))⟩,
  ⟨some 12, none, false, .mv (.t 94)⟩]

def f_law09_TremorLights_l18 : Abs.Cmd :=
  (.seq (.seq (.reg [0, 1, 2, 8, 9, 10, 11, 12, 92] f_law09_TremorLights_r14) (.ite (.t 92) .nop (.exit 2))) (.seq (.blk 3 (.seq (.reg [0, 1, 2, 8, 9, 10, 11, 12, 100] f_law09_TremorLights_r15) (.ite (.t 100) (.reg [0, 1, 2, 8, 9, 10, 11, 12] f_law09_TremorLights_r16) .nop))) (.reg [0, 1, 2, 8, 9, 10, 11, 12] f_law09_TremorLights_r17)))

def f_law09_TremorLights_r19 : List Abs.Op := [
  ⟨some 101, none, false, .mv (.t 11)⟩,
  ⟨some 102, none, false, .bin .eql (.t 101) (.c (.int .i64 0))⟩,
  ⟨some 103, none, false, .mv (.t 102)⟩,
  ⟨some 104, some (103, true), false, .mv (.t 1)⟩,
  ⟨some 105, some (103, true), false, .lenS (.t 104)⟩,
  ⟨some 106, some (103, true), false, .bin .gtr (.t 105) (.c (.int .i64 200))⟩,
  ⟨some 107, none, false, .pick (.t 103) (.t 106) (.c (.bool false))⟩]

def f_law09_TremorLights_r20 : List Abs.Op := [
  ⟨some 11, none, false, .mv (.c (.int .i64 3))⟩]

def f_law09_TremorLights_r21 : List Abs.Op := [
  ⟨some 13, none, false, .mv (.c (.int .i64 0))⟩]

def f_law09_TremorLights_r22 : List Abs.Op := [
  ⟨some 108, none, false, .mv (.t 13)⟩,
  ⟨some 109, none, false, .mv (.t 1)⟩,
  ⟨some 110, none, false, .lenS (.t 109)⟩,
  ⟨some 111, none, false, .bin .lss (.t 108) (.t 110)⟩,
  ⟨some 112, none, false, .mv (.t 111)⟩,
  ⟨some 113, some (112, true), false, .mv (.t 11)⟩,
  ⟨some 114, some (112, true), false, .bin .eql (.t 113) (.c (.int .i64 0))⟩,
  ⟨some 115, none, false, .pick (.t 112) (.t 114) (.c (.bool false))⟩]

def f_law09_TremorLights_r23 : List Abs.Op := [
  ⟨some 118, none, false, .mv (.t 1)⟩,
  ⟨some 119, none, false, .mv (.t 13)⟩,
  ⟨some 120, none, false, .idxS 2 (.t 118) (.t 119)⟩,
  ⟨some 121, none, false, .ld true 2 (.t 120)⟩,
  ⟨some 122, none, false, .call false (.c (.fn i_ref09_RightEvent [] [])) [(.t 121)]⟩,
  ⟨some 123, none, false, .un .not (.t 122)⟩]

def f_law09_TremorLights_r24 : List Abs.Op := [
  ⟨some 11, none, false, .mv (.c (.int .i64 1))⟩]

def f_law09_TremorLights_r25 : List Abs.Op := [
  ⟨some 116, none, false, .mv (.t 13)⟩,
  ⟨some 117, none, false, .bin .add (.t 116) (.c (.int .i64 1))⟩,
  ⟨some 13, none, false, .mv (.t 117)⟩]

def f_law09_TremorLights_l26 : Abs.Cmd :=
  (.seq (.seq (.reg [0, 1, 2, 8, 9, 10, 11, 13, 115] f_law09_TremorLights_r22) (.ite (.t 115) .nop (.exit 4))) (.seq (.blk 5 (.seq (.reg [0, 1, 2, 8, 9, 10, 11, 13, 123] f_law09_TremorLights_r23) (.ite (.t 123) (.reg [0, 1, 2, 8, 9, 10, 11, 13] f_law09_TremorLights_r24) .nop))) (.reg [0, 1, 2, 8, 9, 10, 11, 13] f_law09_TremorLights_r25)))

def f_law09_TremorLights_r27 : List Abs.Op := [
  ⟨some 124, none, false, .mv (.t 11)⟩,
  ⟨some 125, none, false, .bin .eql (.t 124) (.c (.int .i64 0))⟩,
  ⟨some 126, none, false, .mv (.t 125)⟩,
  ⟨some 127, some (126, true), false, .mv (.t 2)⟩,
  ⟨some 128, some (126, true), false, .call false (.c (.fn i_ref09_In [] [])) [(.t 127), (.c (.int .i64 0)), (.c (.int .i64 1000000))]⟩,
  ⟨some 129, some (126, true), false, .un .not (.t 128)⟩,
  ⟨some 130, none, false, .pick (.t 126) (.t 129) (.c (.bool false))⟩]

def f_law09_TremorLights_r28 : List Abs.Op := [
  ⟨some 11, none, false, .mv (.c (.int .i64 2))⟩]

def f_law09_TremorLights_r29 : List Abs.Op := [
  ⟨some 131, none, false, .mv (.t 11)⟩,
  ⟨some 132, none, false, .bin .neq (.t 131) (.c (.int .i64 0))⟩]

def f_law09_TremorLights_r30 : List Abs.Op := [
  ⟨some 133, none, false, .mv (.t 10)⟩,
  ⟨some 134, none, false, .mv (.t 11)⟩,
  ⟨some 135, none, false, .bin .eql (.t 133) (.t 134)⟩,
  ⟨some 136, none, false, .mv (.t 135)⟩,
  ⟨some 137, some (136, true), false, .mv (.t 8)⟩,
  ⟨some 138, some (136, true), false, .bin .eql (.t 137) (.c (.int .u8 0))⟩,
  ⟨some 139, none, false, .pick (.t 136) (.t 138) (.c (.bool false))⟩,
  ⟨some 140, none, false, .mv (.t 139)⟩,
  ⟨some 141, some (140, true), false, .mv (.t 9)⟩,
  ⟨some 142, some (140, true), false, .bin .eql (.t 141) (.c (.int .u8 0))⟩,
  ⟨some 143, none, false, .pick (.t 140) (.t 142) (.c (.bool false))⟩,
  ⟨some 144, none, false, .mv (.t 143)⟩,
  ⟨some 145, some (144, true), false, .call false (.c (.fn i_law09_awake [] [])) []⟩,
  ⟨some 146, none, false, .pick (.t 144) (.t 145) (.c (.bool false))⟩,
  ⟨some 6, none, false, .mv (.t 146)⟩]

def f_law09_TremorLights_r31 : List Abs.Op := [
  ⟨some 148, none, false, .mv (.t 0)⟩,
  ⟨some 149, none, false, .mv (.t 1)⟩,
  ⟨some 150, none, false, .mv (.t 2)⟩,
  ⟨some 151, none, false, .call false (.c (.fn i_ref09_Light [] [])) [(.t 148), (.t 149), (.t 150)]⟩,
  ⟨some 147, none, false, .mv (.t 151)⟩,
  ⟨some 152, none, false, .ext (.t 147) 0⟩,
  ⟨some 153, none, false, .ext (.t 147) 1⟩,
  ⟨some 14, none, false, .mv (.t 152)⟩,
  ⟨some 15, none, false, .mv (.t 153)⟩]

def f_law09_TremorLights_r32 : List Abs.Op := [
  ⟨some 154, none, false, .mv (.t 10)⟩,
  ⟨some 155, none, false, .bin .eql (.t 154) (.c (.int .i64 0))⟩,
  ⟨some 156, none, false, .mv (.t 155)⟩,
  ⟨some 157, some (156, true), false, .mv (.t 8)⟩,
  ⟨some 158, some (156, true), false, .mv (.t 14)⟩,
  ⟨some 159, some (156, true), false, .bin .eql (.t 157) (.t 158)⟩,
  ⟨some 160, none, false, .pick (.t 156) (.t 159) (.c (.bool false))⟩,
  ⟨some 161, none, false, .mv (.t 160)⟩,
  ⟨some 162, some (161, true), false, .mv (.t 9)⟩,
  ⟨some 163, some (161, true), false, .mv (.t 15)⟩,
  ⟨some 164, some (161, true), false, .bin .eql (.t 162) (.t 163)⟩,
  ⟨some 165, none, false, .pick (.t 161) (.t 164) (.c (.bool false))⟩,
  ⟨some 166, none, false, .mv (.t 165)⟩,
  ⟨some 167, some (166, true), false, .call false (.c (.fn i_law09_awake [] [])) []⟩,
  ⟨some 168, none, false, .pick (.t 166) (.t 167) (.c (.bool false))⟩,
  ⟨some 6, none, false, .mv (.t 168)⟩]

def a_law09_TremorLights : Ann := ⟨[(29, [6]), (28, [8, 9, 10, 14, 15]), (27, [6]), (26, [0, 1, 2, 8, 9, 10, 11, 132]), (25, [0, 1, 2, 8, 9, 10, 11]), (24, [0, 1, 2, 8, 9, 10, 11, 130]), (21, [0, 1, 2, 8, 9, 10, 11, 13]), (23, [0, 1, 2, 8, 9, 10, 11, 13]), (22, [0, 1, 2, 8, 9, 10, 11, 13, 123]), (20, [0, 1, 2, 8, 9, 10, 11, 13, 115]), (19, [0, 1, 2, 8, 9, 10, 11, 13]), (18, [0, 1, 2, 8, 9, 10, 11]), (17, [0, 1, 2, 8, 9, 10, 11, 107]), (14, [0, 1, 2, 8, 9, 10, 11, 12]), (16, [0, 1, 2, 8, 9, 10, 11, 12]), (15, [0, 1, 2, 8, 9, 10, 11, 12, 100]), (13, [0, 1, 2, 8, 9, 10, 11, 12, 92]), (12, [0, 1, 2, 8, 9, 10, 11, 12]), (11, [0, 1, 2, 8, 9, 10, 11]), (10, [0, 1, 2, 8, 9, 10, 11, 84]), (9, [0, 1, 2, 8, 9, 10, 11]), (8, [0, 1, 2, 8, 9, 10]), (5, [0, 1, 2, 7]), (7, [6]), (6, [0, 1, 2, 7, 70]), (4, [0, 1, 2, 7, 38]), (3, [0, 1, 2, 7]), (2, [6]), (1, [0, 1, 2, 33]), (0, [0, 1, 2])], [(4, [0, 1, 2, 8, 9, 10, 11, 13]), (2, [0, 1, 2, 8, 9, 10, 11, 12]), (0, [0, 1, 2, 7])], [], [], [], [], [], [], []⟩
def f_law09_TremorLights : Abs.Fn := ⟨3, [.t 6],
  (.seq (.reg [0, 1, 2] f_law09_TremorLights_r0) (.seq (.seq (.reg [0, 1, 2, 33] f_law09_TremorLights_r1) (.ite (.t 33) (.seq (.reg [6] f_law09_TremorLights_r2) .ret) .nop)) (.seq (.seq (.reg [0, 1, 2, 7] f_law09_TremorLights_r3) (.blk 0 (.loop [0, 1, 2, 7] false f_law09_TremorLights_l8))) (.seq (.reg [0, 1, 2, 8, 9, 10] f_law09_TremorLights_r9) (.seq (.reg [0, 1, 2, 8, 9, 10, 11] f_law09_TremorLights_r10) (.seq (.seq (.reg [0, 1, 2, 8, 9, 10, 11, 84] f_law09_TremorLights_r11) (.ite (.t 84) (.reg [0, 1, 2, 8, 9, 10, 11] f_law09_TremorLights_r12) .nop)) (.seq (.seq (.reg [0, 1, 2, 8, 9, 10, 11, 12] f_law09_TremorLights_r13) (.blk 2 (.loop [0, 1, 2, 8, 9, 10, 11, 12] false f_law09_TremorLights_l18))) (.seq (.seq (.reg [0, 1, 2, 8, 9, 10, 11, 107] f_law09_TremorLights_r19) (.ite (.t 107) (.reg [0, 1, 2, 8, 9, 10, 11] f_law09_TremorLights_r20) .nop)) (.seq (.seq (.reg [0, 1, 2, 8, 9, 10, 11, 13] f_law09_TremorLights_r21) (.blk 4 (.loop [0, 1, 2, 8, 9, 10, 11, 13] false f_law09_TremorLights_l26))) (.seq (.seq (.reg [0, 1, 2, 8, 9, 10, 11, 130] f_law09_TremorLights_r27) (.ite (.t 130) (.reg [0, 1, 2, 8, 9, 10, 11] f_law09_TremorLights_r28) .nop)) (.seq (.seq (.reg [0, 1, 2, 8, 9, 10, 11, 132] f_law09_TremorLights_r29) (.ite (.t 132) (.seq (.reg [6] f_law09_TremorLights_r30) .ret) .nop)) (.seq (.reg [8, 9, 10, 14, 15] f_law09_TremorLights_r31) (.seq (.reg [6] f_law09_TremorLights_r32) .ret)))))))))))))⟩

theorem e_law09_TremorLights_r0 : type_of% f_law09_TremorLights_r0.eq_1 := by_rfl f_law09_TremorLights_r0.eq_1
theorem e_law09_TremorLights_r1 : type_of% f_law09_TremorLights_r1.eq_1 := by_rfl f_law09_TremorLights_r1.eq_1
theorem e_law09_TremorLights_r2 : type_of% f_law09_TremorLights_r2.eq_1 := by_rfl f_law09_TremorLights_r2.eq_1
theorem e_law09_TremorLights_r3 : type_of% f_law09_TremorLights_r3.eq_1 := by_rfl f_law09_TremorLights_r3.eq_1
theorem e_law09_TremorLights_r4 : type_of% f_law09_TremorLights_r4.eq_1 := by_rfl f_law09_TremorLights_r4.eq_1
theorem e_law09_TremorLights_r5 : type_of% f_law09_TremorLights_r5.eq_1 := by_rfl f_law09_TremorLights_r5.eq_1
theorem e_law09_TremorLights_r6 : type_of% f_law09_TremorLights_r6.eq_1 := by_rfl f_law09_TremorLights_r6.eq_1
theorem e_law09_TremorLights_r7 : type_of% f_law09_TremorLights_r7.eq_1 := by_rfl f_law09_TremorLights_r7.eq_1
theorem e_law09_TremorLights_l8 : type_of% f_law09_TremorLights_l8.eq_1 := by_rfl f_law09_TremorLights_l8.eq_1
theorem e_law09_TremorLights_r9 : type_of% f_law09_TremorLights_r9.eq_1 := by_rfl f_law09_TremorLights_r9.eq_1
theorem e_law09_TremorLights_r10 : type_of% f_law09_TremorLights_r10.eq_1 := by_rfl f_law09_TremorLights_r10.eq_1
theorem e_law09_TremorLights_r11 : type_of% f_law09_TremorLights_r11.eq_1 := by_rfl f_law09_TremorLights_r11.eq_1
theorem e_law09_TremorLights_r12 : type_of% f_law09_TremorLights_r12.eq_1 := by_rfl f_law09_TremorLights_r12.eq_1
theorem e_law09_TremorLights_r13 : type_of% f_law09_TremorLights_r13.eq_1 := by_rfl f_law09_TremorLights_r13.eq_1
theorem e_law09_TremorLights_r14 : type_of% f_law09_TremorLights_r14.eq_1 := by_rfl f_law09_TremorLights_r14.eq_1
theorem e_law09_TremorLights_r15 : type_of% f_law09_TremorLights_r15.eq_1 := by_rfl f_law09_TremorLights_r15.eq_1
theorem e_law09_TremorLights_r16 : type_of% f_law09_TremorLights_r16.eq_1 := by_rfl f_law09_TremorLights_r16.eq_1
theorem e_law09_TremorLights_r17 : type_of% f_law09_TremorLights_r17.eq_1 := by_rfl f_law09_TremorLights_r17.eq_1
theorem e_law09_TremorLights_l18 : type_of% f_law09_TremorLights_l18.eq_1 := by_rfl f_law09_TremorLights_l18.eq_1
theorem e_law09_TremorLights_r19 : type_of% f_law09_TremorLights_r19.eq_1 := by_rfl f_law09_TremorLights_r19.eq_1
theorem e_law09_TremorLights_r20 : type_of% f_law09_TremorLights_r20.eq_1 := by_rfl f_law09_TremorLights_r20.eq_1
theorem e_law09_TremorLights_r21 : type_of% f_law09_TremorLights_r21.eq_1 := by_rfl f_law09_TremorLights_r21.eq_1
theorem e_law09_TremorLights_r22 : type_of% f_law09_TremorLights_r22.eq_1 := by_rfl f_law09_TremorLights_r22.eq_1
theorem e_law09_TremorLights_r23 : type_of% f_law09_TremorLights_r23.eq_1 := by_rfl f_law09_TremorLights_r23.eq_1
theorem e_law09_TremorLights_r24 : type_of% f_law09_TremorLights_r24.eq_1 := by_rfl f_law09_TremorLights_r24.eq_1
theorem e_law09_TremorLights_r25 : type_of% f_law09_TremorLights_r25.eq_1 := by_rfl f_law09_TremorLights_r25.eq_1
theorem e_law09_TremorLights_l26 : type_of% f_law09_TremorLights_l26.eq_1 := by_rfl f_law09_TremorLights_l26.eq_1
theorem e_law09_TremorLights_r27 : type_of% f_law09_TremorLights_r27.eq_1 := by_rfl f_law09_TremorLights_r27.eq_1
theorem e_law09_TremorLights_r28 : type_of% f_law09_TremorLights_r28.eq_1 := by_rfl f_law09_TremorLights_r28.eq_1
theorem e_law09_TremorLights_r29 : type_of% f_law09_TremorLights_r29.eq_1 := by_rfl f_law09_TremorLights_r29.eq_1
theorem e_law09_TremorLights_r30 : type_of% f_law09_TremorLights_r30.eq_1 := by_rfl f_law09_TremorLights_r30.eq_1
theorem e_law09_TremorLights_r31 : type_of% f_law09_TremorLights_r31.eq_1 := by_rfl f_law09_TremorLights_r31.eq_1
theorem e_law09_TremorLights_r32 : type_of% f_law09_TremorLights_r32.eq_1 := by_rfl f_law09_TremorLights_r32.eq_1
theorem e_law09_TremorLights : type_of% f_law09_TremorLights.eq_1 := by_rfl f_law09_TremorLights.eq_1
theorem ok_law09_TremorLights : fnC Tryz.prog a_law09_TremorLights Tryz.f3 = some f_law09_TremorLights := by kernel_rfl

/-! 4 fumarole/fumarolelaw09.TremorChoices -/
def f_law09_TremorChoices_r0 : List Abs.Op := [
  ⟨some 9, none, false, .boxi (.t 4)⟩,
  ⟨some 10, none, false, .mv (.c (.bool false))⟩]

def f_law09_TremorChoices_r1 : List Abs.Op := [
  ⟨some 27, none, false, .mv (.t 0)⟩,
  ⟨some 28, none, false, .lenS (.t 27)⟩,
  ⟨some 29, none, false, .bin .gtr (.t 28) (.c (.int .i64 20))⟩,
  ⟨some 30, none, false, .mv (.t 29)⟩,
  ⟨some 31, some (30, false), false, .mv (.t 1)⟩,
  ⟨some 32, some (30, false), false, .lenS (.t 31)⟩,
  ⟨some 33, some (30, false), false, .bin .gtr (.t 32) (.c (.int .i64 30))⟩,
  ⟨some 34, none, false, .pick (.t 30) (.c (.bool true)) (.t 33)⟩,
  ⟨some 35, none, false, .mv (.t 34)⟩,
  ⟨some 36, some (35, false), false, .mv (.t 2)⟩,
  ⟨some 37, some (35, false), false, .call false (.c (.fn i_ref09_In [] [])) [(.t 36), (.c (.int .i64 0)), (.c (.int .i64 1000000))]⟩,
  ⟨some 38, some (35, false), false, .un .not (.t 37)⟩,
  ⟨some 39, none, false, .pick (.t 35) (.c (.bool true)) (.t 38)⟩,
  ⟨some 40, none, false, .mv (.t 39)⟩,
  ⟨some 41, some (40, false), false, .ldi true 2 (.t 9)⟩,
  ⟨some 42, some (40, false), false, .call false (.c (.fn i_ref09_RightEvent [] [])) [(.t 41)]⟩,
  ⟨some 43, some (40, false), false, .un .not (.t 42)⟩,
  ⟨some 44, none, false, .pick (.t 40) (.c (.bool true)) (.t 43)⟩,
  ⟨some 45, none, false, .mv (.t 44)⟩,
  ⟨some 46, some (45, false), false, .fadr 1 (.t 9)⟩,
  ⟨some 47, some (45, false), false, .ldi false 1 (.t 46)⟩,
  ⟨some 48, some (45, false), false, .lenS (.t 47)⟩,
  ⟨some 49, some (45, false), false, .bin .gtr (.t 48) (.c (.int .i64 20))⟩,
  ⟨some 50, none, false, .pick (.t 45) (.c (.bool true)) (.t 49)⟩]

def f_law09_TremorChoices_r2 : List Abs.Op := [
  ⟨some 51, none, false, .call false (.c (.fn i_law09_awake [] [])) []⟩,
  ⟨some 10, none, false, .mv (.t 51)⟩]

def f_law09_TremorChoices_r3 : List Abs.Op := [
  ⟨some 11, none, false, .mv (.c (.int .i64 0))⟩]

def f_law09_TremorChoices_r4 : List Abs.Op := [
  ⟨some 52, none, false, .mv (.t 11)⟩,
  ⟨some 53, none, false, .mv (.t 0)⟩,
  ⟨some 54, none, false, .lenS (.t 53)⟩,
  ⟨some 55, none, false, .bin .lss (.t 52) (.t 54)⟩]

def f_law09_TremorChoices_r5 : List Abs.Op := [
  ⟨some 58, none, false, .mv (.t 0)⟩,
  ⟨some 59, none, false, .mv (.t 11)⟩,
  ⟨some 60, none, false, .idxS 10 (.t 58) (.t 59)⟩,
  ⟨some 61, none, false, .ld true 10 (.t 60)⟩,
  ⟨some 62, none, false, .call false (.c (.fn i_ref09_RightRule [] [])) [(.t 61)]⟩,
  ⟨some 63, none, false, .un .not (.t 62)⟩]

def f_law09_TremorChoices_r6 : List Abs.Op := [
  ⟨some 64, none, false, .call false (.c (.fn i_law09_awake [] [])) []⟩,
  ⟨some 10, none, false, .mv (.t 64)⟩]

def f_law09_TremorChoices_r7 : List Abs.Op := [
  ⟨some 56, none, false, .mv (.t 11)⟩,
  ⟨some 57, none, false, .bin .add (.t 56) (.c (.int .i64 1))⟩,
  ⟨some 11, none, false, .mv (.t 57)⟩]

def f_law09_TremorChoices_l8 : Abs.Cmd :=
  (.seq (.seq (.reg [0, 1, 2, 3, 9, 11, 55] f_law09_TremorChoices_r4) (.ite (.t 55) .nop (.exit 0))) (.seq (.blk 1 (.seq (.reg [0, 1, 2, 3, 9, 11, 63] f_law09_TremorChoices_r5) (.ite (.t 63) (.seq (.reg [10] f_law09_TremorChoices_r6) .ret) .nop))) (.reg [0, 1, 2, 3, 9, 11] f_law09_TremorChoices_r7)))

def f_law09_TremorChoices_r9 : List Abs.Op := [
  ⟨some 12, none, false, .mv (.c (.int .i64 0))⟩]

def f_law09_TremorChoices_r10 : List Abs.Op := [
  ⟨some 65, none, false, .mv (.t 12)⟩,
  ⟨some 66, none, false, .mv (.t 1)⟩,
  ⟨some 67, none, false, .lenS (.t 66)⟩,
  ⟨some 68, none, false, .bin .lss (.t 65) (.t 67)⟩]

def f_law09_TremorChoices_r11 : List Abs.Op := [
  ⟨some 71, none, false, .mv (.t 1)⟩,
  ⟨some 72, none, false, .mv (.t 12)⟩,
  ⟨some 73, none, false, .idxS 2 (.t 71) (.t 72)⟩,
  ⟨some 74, none, false, .ld true 2 (.t 73)⟩,
  ⟨some 75, none, false, .call false (.c (.fn i_ref09_RightEvent [] [])) [(.t 74)]⟩,
  ⟨some 76, none, false, .un .not (.t 75)⟩,
  ⟨some 77, none, false, .mv (.t 76)⟩,
  ⟨some 78, some (77, false), false, .mv (.t 1)⟩,
  ⟨some 79, some (77, false), false, .mv (.t 12)⟩,
  ⟨some 80, some (77, false), false, .idxS 2 (.t 78) (.t 79)⟩,
  ⟨some 81, some (77, false), false, .fadr 1 (.t 80)⟩,
  ⟨some 82, some (77, false), false, .ld false 1 (.t 81)⟩,
  ⟨some 83, some (77, false), false, .lenS (.t 82)⟩,
  ⟨some 84, some (77, false), false, .bin .gtr (.t 83) (.c (.int .i64 20))⟩,
  ⟨some 85, none, false, .pick (.t 77) (.c (.bool true)) (.t 84)⟩]

def f_law09_TremorChoices_r12 : List Abs.Op := [
  ⟨some 86, none, false, .call false (.c (.fn i_law09_awake [] [])) []⟩,
  ⟨some 10, none, false, .mv (.t 86)⟩]

def f_law09_TremorChoices_r13 : List Abs.Op := [
  ⟨some 69, none, false, .mv (.t 12)⟩,
  ⟨some 70, none, false, .bin .add (.t 69) (.c (.int .i64 1))⟩,
  ⟨some 12, none, false, .mv (.t 70)⟩]

def f_law09_TremorChoices_l14 : Abs.Cmd :=
  (.seq (.seq (.reg [0, 1, 2, 3, 9, 12, 68] f_law09_TremorChoices_r10) (.ite (.t 68) .nop (.exit 2))) (.seq (.blk 3 (.seq (.reg [0, 1, 2, 3, 9, 12, 85] f_law09_TremorChoices_r11) (.ite (.t 85) (.seq (.reg [10] f_law09_TremorChoices_r12) .ret) .nop))) (.reg [0, 1, 2, 3, 9, 12] f_law09_TremorChoices_r13)))

def f_law09_TremorChoices_r15 : List Abs.Op := [
  ⟨some 88, none, false, .mv (.t 0)⟩,
  ⟨some 89, none, false, .call false (.c (.fn i_law09_Rules [] [])) [(.t 88)]⟩,
  ⟨some 90, none, false, .mv (.t 1)⟩,
  ⟨some 91, none, false, .call false (.c (.fn i_law09_Events [] [])) [(.t 90)]⟩,
  ⟨some 92, none, false, .mv (.t 2)⟩,
  ⟨some 93, none, false, .call false (.c (.fn i_tremor_Light [] [])) [(.t 89), (.t 91), (.t 92)]⟩,
  ⟨some 87, none, false, .mv (.t 93)⟩,
  ⟨some 94, none, false, .ext (.t 87) 0⟩,
  ⟨some 95, none, false, .ext (.t 87) 1⟩,
  ⟨some 96, none, false, .ext (.t 87) 2⟩,
  ⟨some 13, none, false, .mv (.t 94)⟩,
  ⟨some 14, none, false, .mv (.t 95)⟩,
  ⟨some 15, none, false, .mv (.t 96)⟩]

def f_law09_TremorChoices_r16 : List Abs.Op := [
  ⟨some 98, none, false, .mv (.t 0)⟩,
  ⟨some 99, none, false, .call false (.c (.fn i_law09_Rules [] [])) [(.t 98)]⟩,
  ⟨some 100, none, false, .mv (.t 1)⟩,
  ⟨some 101, none, false, .mv (.t 3)⟩,
  ⟨some 102, none, false, .call false (.c (.fn i_law09_chosen [] [])) [(.t 100), (.t 101), (.c .nilp)]⟩,
  ⟨some 103, none, false, .call false (.c (.fn i_law09_Events [] [])) [(.t 102)]⟩,
  ⟨some 104, none, false, .mv (.t 2)⟩,
  ⟨some 105, none, false, .call false (.c (.fn i_tremor_Light [] [])) [(.t 99), (.t 103), (.t 104)]⟩,
  ⟨some 97, none, false, .mv (.t 105)⟩,
  ⟨some 106, none, false, .ext (.t 97) 0⟩,
  ⟨some 107, none, false, .ext (.t 97) 1⟩,
  ⟨some 108, none, false, .ext (.t 97) 2⟩,
  ⟨some 16, none, false, .mv (.t 106)⟩,
  ⟨some 17, none, false, .mv (.t 107)⟩,
  ⟨some 18, none, false, .mv (.t 108)⟩]

def f_law09_TremorChoices_r17 : List Abs.Op := [
  ⟨some 109, none, false, .mv (.t 15)⟩,
  ⟨some 110, none, false, .bin .neq (.t 109) (.c (.int .i64 0))⟩,
  ⟨some 111, none, false, .mv (.t 110)⟩,
  ⟨some 112, some (111, false), false, .mv (.t 18)⟩,
  ⟨some 113, some (111, false), false, .bin .neq (.t 112) (.c (.int .i64 0))⟩,
  ⟨some 114, none, false, .pick (.t 111) (.c (.bool true)) (.t 113)⟩,
  ⟨some 115, none, false, .mv (.t 114)⟩,
  ⟨some 116, some (115, false), false, .mv (.t 16)⟩,
  ⟨some 117, some (115, false), false, .mv (.t 17)⟩,
  ⟨some 118, some (115, false), false, .bin .neq (.t 116) (.t 117)⟩,
  ⟨some 119, none, false, .pick (.t 115) (.c (.bool true)) (.t 118)⟩,
  ⟨some 120, none, false, .mv (.t 119)⟩,
  ⟨some 121, some (120, false), false, .mv (.t 16)⟩,
  ⟨some 122, some (120, false), false, .mv (.t 13)⟩,
  ⟨some 123, some (120, false), false, .bin .gtr (.t 121) (.t 122)⟩,
  ⟨some 124, none, false, .pick (.t 120) (.c (.bool true)) (.t 123)⟩,
  ⟨some 125, none, false, .mv (.t 124)⟩,
  ⟨some 126, some (125, false), false, .mv (.t 16)⟩,
  ⟨some 127, some (125, false), false, .mv (.t 14)⟩,
  ⟨some 128, some (125, false), false, .bin .lss (.t 126) (.t 127)⟩,
  ⟨some 129, none, false, .pick (.t 125) (.c (.bool true)) (.t 128)⟩]

def f_law09_TremorChoices_r18 : List Abs.Op := [
  ⟨some 10, none, false, .mv (.c (.bool false))⟩]

def f_law09_TremorChoices_r19 : List Abs.Op := [
  ⟨some 19, none, false, .mv (.c (.int .u8 0))⟩]

def f_law09_TremorChoices_r20 : List Abs.Op := [
  ⟨some 20, none, false, .mv (.c (.int .i64 0))⟩]

def f_law09_TremorChoices_r21 : List Abs.Op := [
  ⟨some 130, none, false, .mv (.t 20)⟩,
  ⟨some 131, none, false, .mv (.t 0)⟩,
  ⟨some 132, none, false, .lenS (.t 131)⟩,
  ⟨some 133, none, false, .bin .lss (.t 130) (.t 132)⟩]

def f_law09_TremorChoices_r22 : List Abs.Op := [
  ⟨some 137, none, true, .mv (.t 0)⟩,
  ⟨some 138, none, true, .call false (.c (.fn i_law09_Rules [] [])) [(.t 137)]⟩,
  ⟨some 139, none, true, .mv (.t 1)⟩,
  ⟨some 140, none, true, .mv (.t 3)⟩,
  ⟨some 141, none, true, .mv (.t 0)⟩,
  ⟨some 142, none, true, .mv (.t 20)⟩,
  ⟨some 143, none, true, .idxS 10 (.t 141) (.t 142)⟩,
  ⟨some 144, none, true, .call false (.c (.fn i_law09_chosen [] [])) [(.t 139), (.t 140), (.t 143)]⟩,
  ⟨some 145, none, true, .call false (.c (.fn i_law09_Events [] [])) [(.t 144)]⟩,
  ⟨some 146, none, true, .mv (.t 2)⟩,
  ⟨some 147, none, true, .call false (.c (.fn i_tremor_Light [] [])) [(.t 138), (.t 145), (.t 146)]⟩,
  ⟨some 136, none, true, .mv (.t 147)⟩,
  ⟨some 148, none, true, .ext (.t 136) 0⟩,
  ⟨some 149, none, true, .ext (.t 136) 1⟩,
  ⟨some 150, none, true, .ext (.t 136) 2⟩,
  ⟨some 21, none, true, .mv (.t 148)⟩,
  ⟨some 22, none, true, .mv (.t 149)⟩,
  ⟨some 23, none, false, .mv (.t 150)⟩]

def f_law09_TremorChoices_r23 : List Abs.Op := [
  ⟨some 151, none, false, .mv (.t 23)⟩,
  ⟨some 152, none, false, .bin .neq (.t 151) (.c (.int .i64 0))⟩,
  ⟨some 153, none, false, .mv (.t 152)⟩,
  ⟨some 154, some (153, false), false, .mv (.t 21)⟩,
  ⟨some 155, some (153, false), false, .mv (.t 13)⟩,
  ⟨some 156, some (153, false), false, .bin .gtr (.t 154) (.t 155)⟩,
  ⟨some 157, none, false, .pick (.t 153) (.c (.bool true)) (.t 156)⟩,
  ⟨some 158, none, false, .mv (.t 157)⟩,
  ⟨some 159, some (158, false), false, .mv (.t 21)⟩,
  ⟨some 160, some (158, false), false, .mv (.t 14)⟩,
  ⟨some 161, some (158, false), false, .bin .lss (.t 159) (.t 160)⟩,
  ⟨some 162, none, false, .pick (.t 158) (.c (.bool true)) (.t 161)⟩]

def f_law09_TremorChoices_r24 : List Abs.Op := [
  ⟨some 10, none, false, .mv (.c (.bool false))⟩]

def f_law09_TremorChoices_r25 : List Abs.Op := [
  ⟨some 163, none, false, .mv (.t 19)⟩,
  ⟨some 164, none, false, .mv (.t 21)⟩,
  ⟨some 165, none, false, .mx (.t 163) (.t 164)⟩,
  ⟨some 19, none, false, .mv (.t 165)⟩]

def f_law09_TremorChoices_r26 : List Abs.Op := [
  ⟨some 134, none, false, .mv (.t 20)⟩,
  ⟨some 135, none, false, .bin .add (.t 134) (.c (.int .i64 1))⟩,
  ⟨some 20, none, false, .mv (.t 135)⟩]

def f_law09_TremorChoices_l27 : Abs.Cmd :=
  (.seq (.seq (.reg [0, 1, 2, 3, 9, 13, 14, 19, 20, 133] f_law09_TremorChoices_r21) (.ite (.t 133) .nop (.exit 4))) (.seq (.blk 5 (.seq (.reg [0, 1, 2, 3, 9, 13, 14, 19, 20, 21, 23] f_law09_TremorChoices_r22) (.seq (.seq (.reg [0, 1, 2, 3, 9, 13, 14, 19, 20, 21, 162] f_law09_TremorChoices_r23) (.ite (.t 162) (.seq (.reg [10] f_law09_TremorChoices_r24) .ret) .nop)) (.reg [0, 1, 2, 3, 9, 13, 14, 19, 20] f_law09_TremorChoices_r25)))) (.reg [0, 1, 2, 3, 9, 13, 14, 19, 20] f_law09_TremorChoices_r26)))

def f_law09_TremorChoices_r28 : List Abs.Op := [
  ⟨some 166, none, false, .mv (.t 19)⟩,
  ⟨some 167, none, false, .mv (.t 13)⟩,
  ⟨some 168, none, false, .bin .neq (.t 166) (.t 167)⟩]

def f_law09_TremorChoices_r29 : List Abs.Op := [
  ⟨some 10, none, false, .mv (.c (.bool false))⟩]

def f_law09_TremorChoices_r30 : List Abs.Op := [
  ⟨some 170, none, true, .mv (.t 0)⟩,
  ⟨some 171, none, true, .call false (.c (.fn i_law09_Rules [] [])) [(.t 170)]⟩,
  ⟨some 172, none, true, .mv (.t 1)⟩,
  ⟨some 173, none, true, .app 2 32 (.c .nils) (.t 172)⟩,
  ⟨some 174, none, true, .ldi true 2 (.t 9)⟩,
  ⟨some 175, none, true, .bsi 1 2 [(.int .i64 0), .nils] [(0, 2, (.t 174))]⟩,
  ⟨some 176, none, true, .app 2 32 (.t 173) (.t 175)⟩,
  ⟨some 177, none, true, .call false (.c (.fn i_law09_Events [] [])) [(.t 176)]⟩,
  ⟨some 178, none, true, .mv (.t 2)⟩,
  ⟨some 179, none, true, .call false (.c (.fn i_tremor_Light [] [])) [(.t 171), (.t 177), (.t 178)]⟩,
  ⟨some 169, none, true, .mv (.t 179)⟩,
  ⟨some 180, none, true, .ext (.t 169) 0⟩,
  ⟨some 181, none, true, .ext (.t 169) 1⟩,
  ⟨some 182, none, true, .ext (.t 169) 2⟩,
  ⟨some 24, none, true, .mv (.t 180)⟩,
  ⟨some 25, none, true, .mv (.t 181)⟩,
  ⟨some 26, none, false, .mv (.t 182)⟩]

def f_law09_TremorChoices_r31 : List Abs.Op := [
  ⟨some 183, none, false, .mv (.t 26)⟩,
  ⟨some 184, none, false, .bin .eql (.t 183) (.c (.int .i64 0))⟩,
  ⟨some 185, none, false, .mv (.t 184)⟩,
  ⟨some 186, some (185, true), false, .mv (.t 24)⟩,
  ⟨some 187, some (185, true), false, .mv (.t 13)⟩,
  ⟨some 188, some (185, true), false, .bin .geq (.t 186) (.t 187)⟩,
  ⟨some 189, none, false, .pick (.t 185) (.t 188) (.c (.bool false))⟩,
  ⟨some 190, none, false, .mv (.t 189)⟩,
  ⟨some 191, some (190, true), false, .mv (.t 25)⟩,
  ⟨some 192, some (190, true), false, .mv (.t 14)⟩,
  ⟨some 193, some (190, true), false, .bin .geq (.t 191) (.t 192)⟩,
  ⟨some 194, none, false, .pick (.t 190) (.t 193) (.c (.bool false))⟩,
  ⟨some 195, none, false, .mv (.t 194)⟩,
  ⟨some 196, some (195, true), false, .call false (.c (.fn i_law09_awake [] [])) []⟩,
  ⟨some 197, none, false, .pick (.t 195) (.t 196) (.c (.bool false))⟩,
  ⟨some 10, none, false, .mv (.t 197)⟩]

def a_law09_TremorChoices : Ann := ⟨[(28, [10]), (27, [13, 14, 24, 25, 26]), (26, [10]), (25, [0, 1, 2, 9, 13, 14, 168]), (20, [0, 1, 2, 3, 9, 13, 14, 19, 20]), (24, [0, 1, 2, 3, 9, 13, 14, 19, 20]), (23, [10]), (22, [0, 1, 2, 3, 9, 13, 14, 19, 20, 21, 162]), (21, [0, 1, 2, 3, 9, 13, 14, 19, 20, 21, 23]), (19, [0, 1, 2, 3, 9, 13, 14, 19, 20, 133]), (18, [0, 1, 2, 3, 9, 13, 14, 19, 20]), (17, [0, 1, 2, 3, 9, 13, 14, 19]), (16, [10]), (15, [0, 1, 2, 3, 9, 13, 14, 129]), (14, [0, 1, 2, 3, 9, 13, 14, 15, 16, 17, 18]), (13, [0, 1, 2, 3, 9, 13, 14, 15]), (10, [0, 1, 2, 3, 9, 12]), (12, [10]), (11, [0, 1, 2, 3, 9, 12, 85]), (9, [0, 1, 2, 3, 9, 12, 68]), (8, [0, 1, 2, 3, 9, 12]), (5, [0, 1, 2, 3, 9, 11]), (7, [10]), (6, [0, 1, 2, 3, 9, 11, 63]), (4, [0, 1, 2, 3, 9, 11, 55]), (3, [0, 1, 2, 3, 9, 11]), (2, [10]), (1, [0, 1, 2, 3, 9, 50]), (0, [0, 1, 2, 3, 9])], [(4, [0, 1, 2, 3, 9, 13, 14, 19, 20]), (2, [0, 1, 2, 3, 9, 12]), (0, [0, 1, 2, 3, 9, 11])], [], [173], [], [], [], [], [9]⟩
def f_law09_TremorChoices : Abs.Fn := ⟨5, [.t 10],
  (.seq (.reg [0, 1, 2, 3, 9] f_law09_TremorChoices_r0) (.seq (.seq (.reg [0, 1, 2, 3, 9, 50] f_law09_TremorChoices_r1) (.ite (.t 50) (.seq (.reg [10] f_law09_TremorChoices_r2) .ret) .nop)) (.seq (.seq (.reg [0, 1, 2, 3, 9, 11] f_law09_TremorChoices_r3) (.blk 0 (.loop [0, 1, 2, 3, 9, 11] false f_law09_TremorChoices_l8))) (.seq (.seq (.reg [0, 1, 2, 3, 9, 12] f_law09_TremorChoices_r9) (.blk 2 (.loop [0, 1, 2, 3, 9, 12] false f_law09_TremorChoices_l14))) (.seq (.reg [0, 1, 2, 3, 9, 13, 14, 15] f_law09_TremorChoices_r15) (.seq (.reg [0, 1, 2, 3, 9, 13, 14, 15, 16, 17, 18] f_law09_TremorChoices_r16) (.seq (.seq (.reg [0, 1, 2, 3, 9, 13, 14, 129] f_law09_TremorChoices_r17) (.ite (.t 129) (.seq (.reg [10] f_law09_TremorChoices_r18) .ret) .nop)) (.seq (.reg [0, 1, 2, 3, 9, 13, 14, 19] f_law09_TremorChoices_r19) (.seq (.seq (.reg [0, 1, 2, 3, 9, 13, 14, 19, 20] f_law09_TremorChoices_r20) (.blk 4 (.loop [0, 1, 2, 3, 9, 13, 14, 19, 20] false f_law09_TremorChoices_l27))) (.seq (.seq (.reg [0, 1, 2, 9, 13, 14, 168] f_law09_TremorChoices_r28) (.ite (.t 168) (.seq (.reg [10] f_law09_TremorChoices_r29) .ret) .nop)) (.seq (.reg [13, 14, 24, 25, 26] f_law09_TremorChoices_r30) (.seq (.reg [10] f_law09_TremorChoices_r31) .ret))))))))))))⟩

theorem e_law09_TremorChoices_r0 : type_of% f_law09_TremorChoices_r0.eq_1 := by_rfl f_law09_TremorChoices_r0.eq_1
theorem e_law09_TremorChoices_r1 : type_of% f_law09_TremorChoices_r1.eq_1 := by_rfl f_law09_TremorChoices_r1.eq_1
theorem e_law09_TremorChoices_r2 : type_of% f_law09_TremorChoices_r2.eq_1 := by_rfl f_law09_TremorChoices_r2.eq_1
theorem e_law09_TremorChoices_r3 : type_of% f_law09_TremorChoices_r3.eq_1 := by_rfl f_law09_TremorChoices_r3.eq_1
theorem e_law09_TremorChoices_r4 : type_of% f_law09_TremorChoices_r4.eq_1 := by_rfl f_law09_TremorChoices_r4.eq_1
theorem e_law09_TremorChoices_r5 : type_of% f_law09_TremorChoices_r5.eq_1 := by_rfl f_law09_TremorChoices_r5.eq_1
theorem e_law09_TremorChoices_r6 : type_of% f_law09_TremorChoices_r6.eq_1 := by_rfl f_law09_TremorChoices_r6.eq_1
theorem e_law09_TremorChoices_r7 : type_of% f_law09_TremorChoices_r7.eq_1 := by_rfl f_law09_TremorChoices_r7.eq_1
theorem e_law09_TremorChoices_l8 : type_of% f_law09_TremorChoices_l8.eq_1 := by_rfl f_law09_TremorChoices_l8.eq_1
theorem e_law09_TremorChoices_r9 : type_of% f_law09_TremorChoices_r9.eq_1 := by_rfl f_law09_TremorChoices_r9.eq_1
theorem e_law09_TremorChoices_r10 : type_of% f_law09_TremorChoices_r10.eq_1 := by_rfl f_law09_TremorChoices_r10.eq_1
theorem e_law09_TremorChoices_r11 : type_of% f_law09_TremorChoices_r11.eq_1 := by_rfl f_law09_TremorChoices_r11.eq_1
theorem e_law09_TremorChoices_r12 : type_of% f_law09_TremorChoices_r12.eq_1 := by_rfl f_law09_TremorChoices_r12.eq_1
theorem e_law09_TremorChoices_r13 : type_of% f_law09_TremorChoices_r13.eq_1 := by_rfl f_law09_TremorChoices_r13.eq_1
theorem e_law09_TremorChoices_l14 : type_of% f_law09_TremorChoices_l14.eq_1 := by_rfl f_law09_TremorChoices_l14.eq_1
theorem e_law09_TremorChoices_r15 : type_of% f_law09_TremorChoices_r15.eq_1 := by_rfl f_law09_TremorChoices_r15.eq_1
theorem e_law09_TremorChoices_r16 : type_of% f_law09_TremorChoices_r16.eq_1 := by_rfl f_law09_TremorChoices_r16.eq_1
theorem e_law09_TremorChoices_r17 : type_of% f_law09_TremorChoices_r17.eq_1 := by_rfl f_law09_TremorChoices_r17.eq_1
theorem e_law09_TremorChoices_r18 : type_of% f_law09_TremorChoices_r18.eq_1 := by_rfl f_law09_TremorChoices_r18.eq_1
theorem e_law09_TremorChoices_r19 : type_of% f_law09_TremorChoices_r19.eq_1 := by_rfl f_law09_TremorChoices_r19.eq_1
theorem e_law09_TremorChoices_r20 : type_of% f_law09_TremorChoices_r20.eq_1 := by_rfl f_law09_TremorChoices_r20.eq_1
theorem e_law09_TremorChoices_r21 : type_of% f_law09_TremorChoices_r21.eq_1 := by_rfl f_law09_TremorChoices_r21.eq_1
theorem e_law09_TremorChoices_r22 : type_of% f_law09_TremorChoices_r22.eq_1 := by_rfl f_law09_TremorChoices_r22.eq_1
theorem e_law09_TremorChoices_r23 : type_of% f_law09_TremorChoices_r23.eq_1 := by_rfl f_law09_TremorChoices_r23.eq_1
theorem e_law09_TremorChoices_r24 : type_of% f_law09_TremorChoices_r24.eq_1 := by_rfl f_law09_TremorChoices_r24.eq_1
theorem e_law09_TremorChoices_r25 : type_of% f_law09_TremorChoices_r25.eq_1 := by_rfl f_law09_TremorChoices_r25.eq_1
theorem e_law09_TremorChoices_r26 : type_of% f_law09_TremorChoices_r26.eq_1 := by_rfl f_law09_TremorChoices_r26.eq_1
theorem e_law09_TremorChoices_l27 : type_of% f_law09_TremorChoices_l27.eq_1 := by_rfl f_law09_TremorChoices_l27.eq_1
theorem e_law09_TremorChoices_r28 : type_of% f_law09_TremorChoices_r28.eq_1 := by_rfl f_law09_TremorChoices_r28.eq_1
theorem e_law09_TremorChoices_r29 : type_of% f_law09_TremorChoices_r29.eq_1 := by_rfl f_law09_TremorChoices_r29.eq_1
theorem e_law09_TremorChoices_r30 : type_of% f_law09_TremorChoices_r30.eq_1 := by_rfl f_law09_TremorChoices_r30.eq_1
theorem e_law09_TremorChoices_r31 : type_of% f_law09_TremorChoices_r31.eq_1 := by_rfl f_law09_TremorChoices_r31.eq_1
theorem e_law09_TremorChoices : type_of% f_law09_TremorChoices.eq_1 := by_rfl f_law09_TremorChoices.eq_1
theorem ok_law09_TremorChoices : fnC Tryz.prog a_law09_TremorChoices Tryz.f4 = some f_law09_TremorChoices := by kernel_rfl

/-! 5 fumarole/fumarolelaw09.awake -/
def f_law09_awake_r0 : List Abs.Op := [
  ⟨some 0, none, false, .mv (.c (.bool false))⟩]

def f_law09_awake_r1 : List Abs.Op := [
  ⟨some 12, none, false, .call false (.c (.fn i_law09_Two [] [])) []⟩,
  ⟨some 13, none, false, .bld [(.int .i64 0), (.int .i64 0), (.int .i64 0)] [(0, 1, (.c (.int .i64 1000)))]⟩,
  ⟨some 14, none, false, .call false (.c (.fn i_tremor_Travel [] [])) [(.t 12), (.c (.int .i64 0)), (.c (.int .u8 0)), (.t 13)]⟩,
  ⟨some 11, none, false, .mv (.t 14)⟩,
  ⟨some 15, none, false, .ext (.t 11) 0⟩,
  ⟨some 16, none, false, .ext (.t 11) 1⟩,
  ⟨some 1, none, false, .alcv [] [(.int .i64 0), (.int .i64 0)]⟩,
  ⟨none, none, false, .stv 1 [] 2 1 (.t 15)⟩,
  ⟨some 2, none, false, .mv (.t 16)⟩]

def f_law09_awake_r2 : List Abs.Op := [
  ⟨some 18, none, false, .call false (.c (.fn i_law09_Two [] [])) []⟩,
  ⟨some 19, none, false, .call false (.c (.fn i_law09_Heard [] [])) []⟩,
  ⟨some 20, none, false, .call false (.c (.fn i_tremor_Locate [] [])) [(.t 18), (.t 19)]⟩,
  ⟨some 17, none, false, .mv (.t 20)⟩,
  ⟨some 21, none, false, .ext (.t 17) 0⟩,
  ⟨some 22, none, false, .ext (.t 17) 1⟩,
  ⟨some 3, none, false, .mv (.t 21)⟩,
  ⟨some 4, none, false, .mv (.t 22)⟩]

def f_law09_awake_r3 : List Abs.Op := [
  ⟨some 24, none, false, .call false (.c (.fn i_law09_Two [] [])) []⟩,
  ⟨some 25, none, false, .bsi 3 1 [(.int .i64 0), (.int .i64 0), (.int .i64 0)] [(0, 1, (.c (.int .i64 10))), (1, 1, (.c (.int .i64 100))), (2, 1, (.c (.int .i64 1000)))]⟩,
  ⟨some 26, none, false, .bld [(.int .i64 0), (.int .i64 0)] [(1, 1, (.c (.int .i64 5)))]⟩,
  ⟨some 27, none, false, .bld [(.int .i64 0), (.int .i64 0)] [(0, 1, (.c (.int .i64 900))), (1, 1, (.c (.int .i64 8)))]⟩,
  ⟨some 28, none, false, .bsi 2 2 [(.int .i64 0), (.int .i64 0), (.int .i64 0), (.int .i64 0)] [(0, 2, (.t 26)), (2, 2, (.t 27))]⟩,
  ⟨some 29, none, false, .bld [.nils, .nils] [(0, 1, (.t 25)), (1, 1, (.t 28))]⟩,
  ⟨some 30, none, false, .bld [(.int .i64 0), (.int .i64 0), (.int .i64 0)] [(0, 1, (.c (.int .i64 1000)))]⟩,
  ⟨some 31, none, false, .bld [(.int .i64 0), (.int .i64 0)] [(1, 1, (.c (.int .i64 500)))]⟩,
  ⟨some 32, none, false, .bsi 1 2 [(.int .i64 0), (.int .i64 0)] [(0, 2, (.t 31))]⟩,
  ⟨some 33, none, false, .call false (.c (.fn i_tremor_Magnitude [] [])) [(.t 24), (.t 29), (.t 30), (.t 32)]⟩,
  ⟨some 23, none, false, .mv (.t 33)⟩,
  ⟨some 34, none, false, .ext (.t 23) 0⟩,
  ⟨some 35, none, false, .ext (.t 23) 1⟩,
  ⟨some 5, none, false, .mv (.t 34)⟩,
  ⟨some 6, none, false, .mv (.t 35)⟩]

def f_law09_awake_r4 : List Abs.Op := [
  ⟨some 37, none, false, .bld [(.int .i64 0), (.int .i64 0), (.int .i64 0), (.int .i64 0), (.int .i64 0)] [(0, 1, (.c (.int .i64 1))), (1, 1, (.c (.int .i64 10))), (2, 1, (.c (.int .i64 1))), (3, 1, (.c (.int .i64 10))), (4, 1, (.c (.int .i64 20)))]⟩,
  ⟨some 38, none, false, .bsi 3 1 [(.bool false), (.bool false), (.bool false)] [(0, 1, (.c (.bool true))), (1, 1, (.c (.bool false))), (2, 1, (.c (.bool true)))]⟩,
  ⟨some 39, none, false, .call false (.c (.fn i_tremor_Capital [] [])) [(.t 37), (.t 38)]⟩,
  ⟨some 36, none, false, .mv (.t 39)⟩,
  ⟨some 40, none, false, .ext (.t 36) 0⟩,
  ⟨some 41, none, false, .ext (.t 36) 1⟩,
  ⟨some 7, none, false, .mv (.t 40)⟩,
  ⟨some 8, none, false, .mv (.t 41)⟩]

def f_law09_awake_r5 : List Abs.Op := [
  ⟨some 43, none, false, .bsi 4 1 [(.int .i64 0), (.int .i64 0), (.int .i64 0), (.int .i64 0)] [(0, 1, (.c (.int .i64 100))), (1, 1, (.c (.int .i64 100))), (2, 1, (.c (.int .i64 100))), (3, 1, (.c (.int .i64 100)))]⟩,
  ⟨some 44, none, false, .bsi 4 1 [(.int .u8 0), (.int .u8 0), (.int .u8 0), (.int .u8 0)] [(0, 1, (.c (.int .u8 0))), (1, 1, (.c (.int .u8 2))), (2, 1, (.c (.int .u8 0))), (3, 1, (.c (.int .u8 0)))]⟩,
  ⟨some 45, none, false, .bld [(.int .i64 0), (.int .i64 0), (.int .i64 0)] [(0, 1, (.c (.int .i64 1000))), (1, 1, (.c (.int .i64 500))), (2, 1, (.c (.int .i64 0)))]⟩,
  ⟨some 46, none, false, .call false (.c (.fn i_tremor_Inject [] [])) [(.t 43), (.t 44), (.t 45), (.c (.int .i64 30))]⟩,
  ⟨some 42, none, false, .mv (.t 46)⟩,
  ⟨some 47, none, false, .ext (.t 42) 0⟩,
  ⟨some 48, none, false, .ext (.t 42) 1⟩,
  ⟨some 9, none, false, .mv (.t 47)⟩,
  ⟨some 10, none, false, .mv (.t 48)⟩]

def f_law09_awake_r6 : List Abs.Op := [
  ⟨some 49, none, false, .mv (.t 2)⟩,
  ⟨some 50, none, false, .bin .eql (.t 49) (.c (.int .i64 0))⟩,
  ⟨some 51, none, false, .mv (.t 50)⟩,
  ⟨some 52, some (51, true), false, .ldv 1 true 2 1⟩,
  ⟨some 53, some (51, true), false, .bld [(.int .i64 0), (.int .i64 0)] [(0, 1, (.c (.int .i64 200))), (1, 1, (.c (.int .i64 221)))]⟩,
  ⟨some 54, some (51, true), false, .eqv true [some .i64, some .i64] false (.t 52) (.t 53)⟩,
  ⟨some 55, none, false, .pick (.t 51) (.t 54) (.c (.bool false))⟩,
  ⟨some 56, none, false, .mv (.t 55)⟩,
  ⟨some 57, some (56, true), false, .mv (.t 4)⟩,
  ⟨some 58, some (56, true), false, .bin .eql (.t 57) (.c (.int .i64 0))⟩,
  ⟨some 59, none, false, .pick (.t 56) (.t 58) (.c (.bool false))⟩,
  ⟨some 60, none, false, .mv (.t 59)⟩,
  ⟨some 61, some (60, true), false, .mv (.t 3)⟩,
  ⟨some 62, some (60, true), false, .bld [(.int .i64 0), (.int .i64 0), (.int .i64 0)] [(0, 1, (.c (.int .i64 1000)))]⟩,
  ⟨some 63, some (60, true), false, .bld [(.int .i64 0), (.int .i64 0)] [(0, 1, (.c (.int .i64 4969))), (1, 1, (.c (.int .i64 5010)))]⟩,
  ⟨some 64, some (60, true), false, .bld [(.int .i64 0), (.int .i64 0), (.int .i64 0), (.int .i64 0), (.int .i64 0)] [(0, 3, (.t 62)), (3, 2, (.t 63))]⟩,
  ⟨some 65, some (60, true), false, .bsi 1 5 [(.int .i64 0), (.int .i64 0), (.int .i64 0), (.int .i64 0), (.int .i64 0)] [(0, 5, (.t 64))]⟩,
  ⟨some 66, some (60, true), false, .call false (.c (.fn i_law09_located [] [])) [(.t 61), (.t 65)]⟩,
  ⟨some 67, none, false, .pick (.t 60) (.t 66) (.c (.bool false))⟩,
  ⟨some 68, none, false, .mv (.t 67)⟩,
  ⟨some 69, some (68, true), false, .mv (.t 6)⟩,
  ⟨some 70, some (68, true), false, .bin .eql (.t 69) (.c (.int .i64 0))⟩,
  ⟨some 71, none, false, .pick (.t 68) (.t 70) (.c (.bool false))⟩,
  ⟨some 72, none, false, .mv (.t 71)⟩,
  ⟨some 73, some (72, true), false, .mv (.t 5)⟩,
  ⟨some 74, some (72, true), false, .bin .eql (.t 73) (.c (.int .i64 10))⟩,
  ⟨some 75, none, false, .pick (.t 72) (.t 74) (.c (.bool false))⟩,
  ⟨some 76, none, false, .mv (.t 75)⟩,
  ⟨some 77, some (76, true), false, .mv (.t 8)⟩,
  ⟨some 78, some (76, true), false, .bin .eql (.t 77) (.c (.int .i64 0))⟩,
  ⟨some 79, none, false, .pick (.t 76) (.t 78) (.c (.bool false))⟩,
  ⟨some 80, none, false, .mv (.t 79)⟩,
  ⟨some 81, some (80, true), false, .mv (.t 7)⟩,
  ⟨some 82, some (80, true), false, .bsi 3 1 [(.int .i64 0), (.int .i64 0), (.int .i64 0)] [(0, 1, (.c (.int .i64 1900000))), (1, 1, (.c (.int .i64 1710000))), (2, 1, (.c (.int .i64 3249000)))]⟩,
  ⟨some 83, some (80, true), false, .call false (.c (.fn i_law09_ints [] [])) [(.t 81), (.t 82)]⟩,
  ⟨some 84, none, false, .pick (.t 80) (.t 83) (.c (.bool false))⟩,
  ⟨some 85, none, false, .mv (.t 84)⟩,
  ⟨some 86, some (85, true), false, .mv (.t 10)⟩,
  ⟨some 87, some (85, true), false, .bin .eql (.t 86) (.c (.int .i64 0))⟩,
  ⟨some 88, none, false, .pick (.t 85) (.t 87) (.c (.bool false))⟩,
  ⟨some 89, none, false, .mv (.t 88)⟩,
  ⟨some 90, some (89, true), false, .mv (.t 9)⟩,
  ⟨some 91, some (89, true), false, .bsi 4 1 [(.int .i64 0), (.int .i64 0), (.int .i64 0), (.int .i64 0)] [(0, 1, (.c (.int .i64 100))), (1, 1, (.c (.int .i64 0))), (2, 1, (.c (.int .i64 30))), (3, 1, (.c (.int .i64 60)))]⟩,
  ⟨some 92, some (89, true), false, .call false (.c (.fn i_law09_ints [] [])) [(.t 90), (.t 91)]⟩,
  ⟨some 93, none, false, .pick (.t 89) (.t 92) (.c (.bool false))⟩,
  ⟨some 0, none, false, .mv (.t 93)⟩]

def a_law09_awake : Ann := ⟨[(6, [0]), (5, [1, 2, 3, 4, 5, 6, 7, 8, 9, 10]), (4, [1, 2, 3, 4, 5, 6, 7, 8]), (3, [1, 2, 3, 4, 5, 6]), (2, [1, 2, 3, 4]), (1, [1, 2]), (0, [])], [], [], [1], [1], [], [], [], []⟩
def f_law09_awake : Abs.Fn := ⟨0, [.t 0],
  (.seq (.reg [] f_law09_awake_r0) (.seq (.reg [1, 2] f_law09_awake_r1) (.seq (.reg [1, 2, 3, 4] f_law09_awake_r2) (.seq (.reg [1, 2, 3, 4, 5, 6] f_law09_awake_r3) (.seq (.reg [1, 2, 3, 4, 5, 6, 7, 8] f_law09_awake_r4) (.seq (.reg [1, 2, 3, 4, 5, 6, 7, 8, 9, 10] f_law09_awake_r5) (.seq (.reg [0] f_law09_awake_r6) .ret)))))))⟩

theorem e_law09_awake_r0 : type_of% f_law09_awake_r0.eq_1 := by_rfl f_law09_awake_r0.eq_1
theorem e_law09_awake_r1 : type_of% f_law09_awake_r1.eq_1 := by_rfl f_law09_awake_r1.eq_1
theorem e_law09_awake_r2 : type_of% f_law09_awake_r2.eq_1 := by_rfl f_law09_awake_r2.eq_1
theorem e_law09_awake_r3 : type_of% f_law09_awake_r3.eq_1 := by_rfl f_law09_awake_r3.eq_1
theorem e_law09_awake_r4 : type_of% f_law09_awake_r4.eq_1 := by_rfl f_law09_awake_r4.eq_1
theorem e_law09_awake_r5 : type_of% f_law09_awake_r5.eq_1 := by_rfl f_law09_awake_r5.eq_1
theorem e_law09_awake_r6 : type_of% f_law09_awake_r6.eq_1 := by_rfl f_law09_awake_r6.eq_1
theorem e_law09_awake : type_of% f_law09_awake.eq_1 := by_rfl f_law09_awake.eq_1
theorem ok_law09_awake : fnC Tryz.prog a_law09_awake Tryz.f5 = some f_law09_awake := by kernel_rfl

/-! 6 fumarole/tremor.Light -/
def f_tremor_Light_r0 : List Abs.Op := [
  ⟨some 6, none, false, .mv (.c (.int .u8 0))⟩,
  ⟨some 7, none, false, .mv (.c (.int .u8 0))⟩,
  ⟨some 8, none, false, .mv (.c (.int .i64 0))⟩]

def f_tremor_Light_r1 : List Abs.Op := [
  ⟨some 17, none, false, .mv (.t 0)⟩,
  ⟨some 18, none, false, .lenS (.t 17)⟩,
  ⟨some 19, none, false, .bin .gtr (.t 18) (.c (.int .i64 20))⟩,
  ⟨some 16, none, false, .mv (.t 19)⟩]

def f_tremor_Light_r2 : List Abs.Op := [
  ⟨some 6, none, false, .mv (.c (.int .u8 0))⟩,
  ⟨some 7, none, false, .mv (.c (.int .u8 0))⟩,
  ⟨some 8, none, false, .mv (.c (.int .i64 3))⟩]

def f_tremor_Light_r3 : List Abs.Op := [
  ⟨some 21, none, false, .mv (.t 0)⟩,
  ⟨some 22, none, false, .call false (.c (.fn i_tremor_all_tremor_Rule [] [])) [(.t 21), (.c (.fn i_tremor_Rule_valid [] []))]⟩,
  ⟨some 23, none, false, .un .not (.t 22)⟩,
  ⟨some 20, none, false, .mv (.t 23)⟩]

def f_tremor_Light_r4 : List Abs.Op := [
  ⟨some 6, none, false, .mv (.c (.int .u8 0))⟩,
  ⟨some 7, none, false, .mv (.c (.int .u8 0))⟩,
  ⟨some 8, none, false, .mv (.c (.int .i64 1))⟩]

def f_tremor_Light_r5 : List Abs.Op := [
  ⟨some 25, none, false, .mv (.t 1)⟩,
  ⟨some 26, none, false, .lenS (.t 25)⟩,
  ⟨some 27, none, false, .bin .gtr (.t 26) (.c (.int .i64 200))⟩,
  ⟨some 24, none, false, .mv (.t 27)⟩]

def f_tremor_Light_r6 : List Abs.Op := [
  ⟨some 6, none, false, .mv (.c (.int .u8 0))⟩,
  ⟨some 7, none, false, .mv (.c (.int .u8 0))⟩,
  ⟨some 8, none, false, .mv (.c (.int .i64 3))⟩]

def f_tremor_Light_r7 : List Abs.Op := [
  ⟨some 29, none, false, .mv (.t 1)⟩,
  ⟨some 30, none, false, .call false (.c (.fn i_tremor_all_tremor_Event [] [])) [(.t 29), (.c (.fn i_tremor_Event_valid [] []))]⟩,
  ⟨some 31, none, false, .un .not (.t 30)⟩,
  ⟨some 28, none, false, .mv (.t 31)⟩]

def f_tremor_Light_r8 : List Abs.Op := [
  ⟨some 6, none, false, .mv (.c (.int .u8 0))⟩,
  ⟨some 7, none, false, .mv (.c (.int .u8 0))⟩,
  ⟨some 8, none, false, .mv (.c (.int .i64 1))⟩]

def f_tremor_Light_r9 : List Abs.Op := [
  ⟨some 33, none, false, .mv (.t 2)⟩,
  ⟨some 34, none, false, .call false (.c (.fn i_tremor_within [] [])) [(.t 33), (.c (.int .i64 0)), (.c (.int .i64 1000000))]⟩,
  ⟨some 35, none, false, .un .not (.t 34)⟩,
  ⟨some 32, none, false, .mv (.t 35)⟩]

def f_tremor_Light_r10 : List Abs.Op := [
  ⟨some 6, none, false, .mv (.c (.int .u8 0))⟩,
  ⟨some 7, none, false, .mv (.c (.int .u8 0))⟩,
  ⟨some 8, none, false, .mv (.c (.int .i64 2))⟩]

def f_tremor_Light_r11 : List Abs.Op := [
  ⟨some 36, none, false, .mv (.t 0)⟩,
  ⟨some 37, none, false, .lenS (.t 36)⟩,
  ⟨some 38, none, false, .mv (.c (.int .i64 0))⟩]

def f_tremor_Light_r12 : List Abs.Op := [
  ⟨some 39, none, false, .bin .lss (.t 38) (.t 37)⟩]

def f_tremor_Light_r13 : List Abs.Op := [
  ⟨some 40, none, false, .idxS 10 (.t 36) (.t 38)⟩,
  ⟨some 41, none, false, .ld true 10 (.t 40)⟩,
  ⟨some 10, none, false, .alcv [] [(.int .i64 0), (.int .i64 0), (.int .i64 0), (.int .i64 0), (.int .i64 0), (.int .i64 0), (.int .i64 0), (.int .i64 0), (.int .i64 0), (.int .u8 0)]⟩,
  ⟨none, none, false, .stv 10 [] 10 10 (.t 41)⟩]

def f_tremor_Light_r14 : List Abs.Op := [
  ⟨some 11, none, false, .mv (.c (.int .i64 0))⟩,
  ⟨some 12, none, false, .mv (.c (.int .i64 0))⟩]

def f_tremor_Light_r15 : List Abs.Op := [
  ⟨some 42, none, false, .ldv 10 true 10 10⟩,
  ⟨some 43, none, false, .mkf i_tremor_Rule_counts [(.t 42)] []⟩,
  ⟨some 13, none, false, .mv (.t 43)⟩]

def f_tremor_Light_r16 : List Abs.Op := [
  ⟨some 44, none, false, .mv (.t 1)⟩,
  ⟨some 45, none, false, .lenS (.t 44)⟩,
  ⟨some 46, none, false, .mv (.c (.int .i64 0))⟩]

def f_tremor_Light_r17 : List Abs.Op := [
  ⟨some 47, none, false, .bin .lss (.t 46) (.t 45)⟩]

def f_tremor_Light_r18 : List Abs.Op := [
  ⟨some 48, none, false, .idxS 2 (.t 44) (.t 46)⟩,
  ⟨some 49, none, false, .ld true 2 (.t 48)⟩,
  ⟨some 15, none, false, .alcv [] [(.int .i64 0), .nils]⟩,
  ⟨none, none, false, .stv 15 [] 2 15 (.t 49)⟩]

def f_tremor_Light_r19 : List Abs.Op := [
  ⟨some 50, none, false, .fadr 0 (.t 15)⟩,
  ⟨some 51, none, false, .ldv 15 false 1 50⟩,
  ⟨some 52, none, false, .mv (.t 2)⟩,
  ⟨some 53, none, false, .bin .gtr (.t 51) (.t 52)⟩,
  ⟨some 54, none, false, .mv (.t 53)⟩,
  ⟨some 55, some (54, false), false, .fadr 0 (.t 15)⟩,
  ⟨some 56, some (54, false), false, .ldv 15 false 1 55⟩,
  ⟨some 57, some (54, false), false, .mv (.t 2)⟩,
  ⟨some 58, some (54, false), false, .fadr 7 (.t 10)⟩,
  ⟨some 59, some (54, false), false, .ldv 10 false 1 58⟩,
  ⟨some 60, some (54, false), false, .bin .sub (.t 57) (.t 59)⟩,
  ⟨some 61, some (54, false), false, .bin .leq (.t 56) (.t 60)⟩,
  ⟨some 62, none, false, .pick (.t 54) (.c (.bool true)) (.t 61)⟩]

def f_tremor_Light_r20 : List Abs.Op := [
  ⟨some 63, none, false, .fadr 1 (.t 15)⟩,
  ⟨some 64, none, false, .ldv 15 false 1 63⟩,
  ⟨some 65, none, false, .mv (.t 13)⟩,
  ⟨some 66, none, false, .call false (.c (.fn i_slices_ContainsFunc_tremor_Spot [] [])) [(.t 64), (.t 65)]⟩]

def f_tremor_Light_r21 : List Abs.Op := [
  ⟨some 67, none, false, .mv (.t 11)⟩,
  ⟨some 68, none, false, .bin .add (.t 67) (.c (.int .i64 1))⟩,
  ⟨some 11, none, false, .mv (.t 68)⟩]

def f_tremor_Light_r22 : List Abs.Op := [
  ⟨some 69, none, false, .fadr 1 (.t 15)⟩,
  ⟨some 70, none, false, .ldv 15 false 1 69⟩,
  ⟨some 71, none, false, .mv (.t 13)⟩,
  ⟨some 72, none, false, .call false (.c (.fn i_tremor_all_tremor_Spot [] [])) [(.t 70), (.t 71)]⟩]

def f_tremor_Light_r23 : List Abs.Op := [
  ⟨some 73, none, false, .mv (.t 12)⟩,
  ⟨some 74, none, false, .bin .add (.t 73) (.c (.int .i64 1))⟩,
  ⟨some 12, none, false, .mv (.t 74)⟩]

def f_tremor_Light_r24 : List Abs.Op := [
  ⟨some 75, none, false, .bin .add (.t 46) (.c (.int .i64 1))⟩,
  ⟨some 46, none, false, .mv (.t 75)⟩]

def f_tremor_Light_l25 : Abs.Cmd :=
  (.seq (.reg [1, 2, 6, 7, 10, 11, 12, 13, 36, 37, 38, 44, 45, 46, 47] f_tremor_Light_r17) (.seq (.ite (.t 47) .nop (.exit 3)) (.seq (.blk 4 (.seq (.reg [1, 2, 6, 7, 10, 11, 12, 13, 15, 36, 37, 38, 44, 45, 46] f_tremor_Light_r18) (.seq (.seq (.reg [1, 2, 6, 7, 10, 11, 12, 13, 15, 36, 37, 38, 44, 45, 46, 62] f_tremor_Light_r19) (.ite (.t 62) (.exit 4) .nop)) (.seq (.seq (.reg [1, 2, 6, 7, 10, 11, 12, 13, 15, 36, 37, 38, 44, 45, 46, 66] f_tremor_Light_r20) (.ite (.t 66) (.reg [1, 2, 6, 7, 10, 11, 12, 13, 15, 36, 37, 38, 44, 45, 46] f_tremor_Light_r21) .nop)) (.seq (.reg [1, 2, 6, 7, 10, 11, 12, 13, 36, 37, 38, 44, 45, 46, 72] f_tremor_Light_r22) (.ite (.t 72) (.reg [1, 2, 6, 7, 10, 11, 12, 13, 36, 37, 38, 44, 45, 46] f_tremor_Light_r23) .nop)))))) (.reg [1, 2, 6, 7, 10, 11, 12, 13, 36, 37, 38, 44, 45, 46] f_tremor_Light_r24))))

def f_tremor_Light_r26 : List Abs.Op := [
  ⟨some 76, none, false, .mv (.t 11)⟩,
  ⟨some 77, none, false, .fadr 8 (.t 10)⟩,
  ⟨some 78, none, false, .ldv 10 false 1 77⟩,
  ⟨some 79, none, false, .bin .geq (.t 76) (.t 78)⟩]

def f_tremor_Light_r27 : List Abs.Op := [
  ⟨some 80, none, false, .mv (.t 6)⟩,
  ⟨some 81, none, false, .fadr 9 (.t 10)⟩,
  ⟨some 82, none, false, .ldv 10 false 1 81⟩,
  ⟨some 83, none, false, .mx (.t 80) (.t 82)⟩,
  ⟨some 6, none, false, .mv (.t 83)⟩]

def f_tremor_Light_r28 : List Abs.Op := [
  ⟨some 84, none, false, .mv (.t 12)⟩,
  ⟨some 85, none, false, .fadr 8 (.t 10)⟩,
  ⟨some 86, none, false, .ldv 10 false 1 85⟩,
  ⟨some 87, none, false, .bin .geq (.t 84) (.t 86)⟩]

def f_tremor_Light_r29 : List Abs.Op := [
  ⟨some 88, none, false, .mv (.t 7)⟩,
  ⟨some 89, none, false, .fadr 9 (.t 10)⟩,
  ⟨some 90, none, false, .ldv 10 false 1 89⟩,
  ⟨some 91, none, false, .mx (.t 88) (.t 90)⟩,
  ⟨some 7, none, false, .mv (.t 91)⟩]

def f_tremor_Light_r30 : List Abs.Op := [
  ⟨some 92, none, false, .bin .add (.t 38) (.c (.int .i64 1))⟩,
  ⟨some 38, none, false, .mv (.t 92)⟩]

def f_tremor_Light_l31 : Abs.Cmd :=
  (.seq (.reg [1, 2, 6, 7, 36, 37, 38, 39] f_tremor_Light_r12) (.seq (.ite (.t 39) .nop (.exit 1)) (.seq (.blk 2 (.seq (.reg [1, 2, 6, 7, 10, 36, 37, 38] f_tremor_Light_r13) (.seq (.reg [1, 2, 6, 7, 10, 11, 12, 36, 37, 38] f_tremor_Light_r14) (.seq (.reg [1, 2, 6, 7, 10, 11, 12, 13, 36, 37, 38] f_tremor_Light_r15) (.seq (.seq (.reg [1, 2, 6, 7, 10, 11, 12, 13, 36, 37, 38, 44, 45, 46] f_tremor_Light_r16) (.blk 3 (.loop [1, 2, 6, 7, 10, 11, 12, 13, 36, 37, 38, 44, 45, 46] false f_tremor_Light_l25))) (.seq (.seq (.reg [1, 2, 6, 7, 10, 12, 36, 37, 38, 79] f_tremor_Light_r26) (.ite (.t 79) (.reg [1, 2, 6, 7, 10, 12, 36, 37, 38] f_tremor_Light_r27) .nop)) (.seq (.reg [1, 2, 6, 7, 10, 36, 37, 38, 87] f_tremor_Light_r28) (.ite (.t 87) (.reg [1, 2, 6, 7, 36, 37, 38] f_tremor_Light_r29) .nop)))))))) (.reg [1, 2, 6, 7, 36, 37, 38] f_tremor_Light_r30))))

def f_tremor_Light_r32 : List Abs.Op := [
  ⟨some 93, none, false, .mv (.t 6)⟩,
  ⟨some 94, none, false, .mv (.t 7)⟩,
  ⟨some 6, none, false, .mv (.t 93)⟩,
  ⟨some 7, none, false, .mv (.t 94)⟩,
  ⟨some 8, none, false, .mv (.c (.int .i64 0))⟩]

def a_tremor_Light : Ann := ⟨[(30, [6, 7, 8]), (29, [1, 2, 6, 7, 36, 37, 38]), (28, [1, 2, 6, 7, 36, 37, 38]), (27, [1, 2, 6, 7, 10, 36, 37, 38, 87]), (26, [1, 2, 6, 7, 10, 12, 36, 37, 38]), (25, [1, 2, 6, 7, 10, 12, 36, 37, 38, 79]), (24, [1, 2, 6, 7, 10, 11, 12, 13, 36, 37, 38, 44, 45, 46]), (23, [1, 2, 6, 7, 10, 11, 12, 13, 36, 37, 38, 44, 45, 46]), (22, [1, 2, 6, 7, 10, 11, 12, 13, 36, 37, 38, 44, 45, 46, 72]), (21, [1, 2, 6, 7, 10, 11, 12, 13, 15, 36, 37, 38, 44, 45, 46]), (20, [1, 2, 6, 7, 10, 11, 12, 13, 15, 36, 37, 38, 44, 45, 46, 66]), (19, [1, 2, 6, 7, 10, 11, 12, 13, 15, 36, 37, 38, 44, 45, 46, 62]), (18, [1, 2, 6, 7, 10, 11, 12, 13, 15, 36, 37, 38, 44, 45, 46]), (17, [1, 2, 6, 7, 10, 11, 12, 13, 36, 37, 38, 44, 45, 46, 47]), (16, [1, 2, 6, 7, 10, 11, 12, 13, 36, 37, 38, 44, 45, 46]), (15, [1, 2, 6, 7, 10, 11, 12, 13, 36, 37, 38]), (14, [1, 2, 6, 7, 10, 11, 12, 36, 37, 38]), (13, [1, 2, 6, 7, 10, 36, 37, 38]), (12, [1, 2, 6, 7, 36, 37, 38, 39]), (11, [1, 2, 6, 7, 36, 37, 38]), (2, [6, 7, 8]), (4, [6, 7, 8]), (6, [6, 7, 8]), (8, [6, 7, 8]), (10, [6, 7, 8]), (9, [0, 1, 2, 6, 7, 32]), (7, [0, 1, 2, 6, 7, 28]), (5, [0, 1, 2, 6, 7, 24]), (3, [0, 1, 2, 6, 7, 20]), (1, [0, 1, 2, 6, 7, 16]), (0, [0, 1, 2, 6, 7])], [(3, [1, 2, 6, 7, 10, 11, 12, 13, 36, 37, 38, 44, 45, 46]), (1, [1, 2, 6, 7, 36, 37, 38])], [], [10, 15], [10, 15], [], [], [], []⟩
def f_tremor_Light : Abs.Fn := ⟨3, [.t 6, .t 7, .t 8],
  (.seq (.reg [0, 1, 2, 6, 7] f_tremor_Light_r0) (.seq (.blk 0 (.seq (.reg [0, 1, 2, 6, 7, 16] f_tremor_Light_r1) (.ite (.t 16) (.seq (.reg [6, 7, 8] f_tremor_Light_r2) .ret) (.seq (.reg [0, 1, 2, 6, 7, 20] f_tremor_Light_r3) (.ite (.t 20) (.seq (.reg [6, 7, 8] f_tremor_Light_r4) .ret) (.seq (.reg [0, 1, 2, 6, 7, 24] f_tremor_Light_r5) (.ite (.t 24) (.seq (.reg [6, 7, 8] f_tremor_Light_r6) .ret) (.seq (.reg [0, 1, 2, 6, 7, 28] f_tremor_Light_r7) (.ite (.t 28) (.seq (.reg [6, 7, 8] f_tremor_Light_r8) .ret) (.seq (.reg [0, 1, 2, 6, 7, 32] f_tremor_Light_r9) (.ite (.t 32) (.seq (.reg [6, 7, 8] f_tremor_Light_r10) .ret) .nop))))))))))) (.seq (.seq (.reg [1, 2, 6, 7, 36, 37, 38] f_tremor_Light_r11) (.blk 1 (.loop [1, 2, 6, 7, 36, 37, 38] false f_tremor_Light_l31))) (.seq (.reg [6, 7, 8] f_tremor_Light_r32) .ret))))⟩

theorem e_tremor_Light_r0 : type_of% f_tremor_Light_r0.eq_1 := by_rfl f_tremor_Light_r0.eq_1
theorem e_tremor_Light_r1 : type_of% f_tremor_Light_r1.eq_1 := by_rfl f_tremor_Light_r1.eq_1
theorem e_tremor_Light_r2 : type_of% f_tremor_Light_r2.eq_1 := by_rfl f_tremor_Light_r2.eq_1
theorem e_tremor_Light_r3 : type_of% f_tremor_Light_r3.eq_1 := by_rfl f_tremor_Light_r3.eq_1
theorem e_tremor_Light_r4 : type_of% f_tremor_Light_r4.eq_1 := by_rfl f_tremor_Light_r4.eq_1
theorem e_tremor_Light_r5 : type_of% f_tremor_Light_r5.eq_1 := by_rfl f_tremor_Light_r5.eq_1
theorem e_tremor_Light_r6 : type_of% f_tremor_Light_r6.eq_1 := by_rfl f_tremor_Light_r6.eq_1
theorem e_tremor_Light_r7 : type_of% f_tremor_Light_r7.eq_1 := by_rfl f_tremor_Light_r7.eq_1
theorem e_tremor_Light_r8 : type_of% f_tremor_Light_r8.eq_1 := by_rfl f_tremor_Light_r8.eq_1
theorem e_tremor_Light_r9 : type_of% f_tremor_Light_r9.eq_1 := by_rfl f_tremor_Light_r9.eq_1
theorem e_tremor_Light_r10 : type_of% f_tremor_Light_r10.eq_1 := by_rfl f_tremor_Light_r10.eq_1
theorem e_tremor_Light_r11 : type_of% f_tremor_Light_r11.eq_1 := by_rfl f_tremor_Light_r11.eq_1
theorem e_tremor_Light_r12 : type_of% f_tremor_Light_r12.eq_1 := by_rfl f_tremor_Light_r12.eq_1
theorem e_tremor_Light_r13 : type_of% f_tremor_Light_r13.eq_1 := by_rfl f_tremor_Light_r13.eq_1
theorem e_tremor_Light_r14 : type_of% f_tremor_Light_r14.eq_1 := by_rfl f_tremor_Light_r14.eq_1
theorem e_tremor_Light_r15 : type_of% f_tremor_Light_r15.eq_1 := by_rfl f_tremor_Light_r15.eq_1
theorem e_tremor_Light_r16 : type_of% f_tremor_Light_r16.eq_1 := by_rfl f_tremor_Light_r16.eq_1
theorem e_tremor_Light_r17 : type_of% f_tremor_Light_r17.eq_1 := by_rfl f_tremor_Light_r17.eq_1
theorem e_tremor_Light_r18 : type_of% f_tremor_Light_r18.eq_1 := by_rfl f_tremor_Light_r18.eq_1
theorem e_tremor_Light_r19 : type_of% f_tremor_Light_r19.eq_1 := by_rfl f_tremor_Light_r19.eq_1
theorem e_tremor_Light_r20 : type_of% f_tremor_Light_r20.eq_1 := by_rfl f_tremor_Light_r20.eq_1
theorem e_tremor_Light_r21 : type_of% f_tremor_Light_r21.eq_1 := by_rfl f_tremor_Light_r21.eq_1
theorem e_tremor_Light_r22 : type_of% f_tremor_Light_r22.eq_1 := by_rfl f_tremor_Light_r22.eq_1
theorem e_tremor_Light_r23 : type_of% f_tremor_Light_r23.eq_1 := by_rfl f_tremor_Light_r23.eq_1
theorem e_tremor_Light_r24 : type_of% f_tremor_Light_r24.eq_1 := by_rfl f_tremor_Light_r24.eq_1
theorem e_tremor_Light_l25 : type_of% f_tremor_Light_l25.eq_1 := by_rfl f_tremor_Light_l25.eq_1
theorem e_tremor_Light_r26 : type_of% f_tremor_Light_r26.eq_1 := by_rfl f_tremor_Light_r26.eq_1
theorem e_tremor_Light_r27 : type_of% f_tremor_Light_r27.eq_1 := by_rfl f_tremor_Light_r27.eq_1
theorem e_tremor_Light_r28 : type_of% f_tremor_Light_r28.eq_1 := by_rfl f_tremor_Light_r28.eq_1
theorem e_tremor_Light_r29 : type_of% f_tremor_Light_r29.eq_1 := by_rfl f_tremor_Light_r29.eq_1
theorem e_tremor_Light_r30 : type_of% f_tremor_Light_r30.eq_1 := by_rfl f_tremor_Light_r30.eq_1
theorem e_tremor_Light_l31 : type_of% f_tremor_Light_l31.eq_1 := by_rfl f_tremor_Light_l31.eq_1
theorem e_tremor_Light_r32 : type_of% f_tremor_Light_r32.eq_1 := by_rfl f_tremor_Light_r32.eq_1
theorem e_tremor_Light : type_of% f_tremor_Light.eq_1 := by_rfl f_tremor_Light.eq_1
theorem ok_tremor_Light : fnC Tryz.prog a_tremor_Light Tryz.f6 = some f_tremor_Light := by kernel_rfl

/-! 7 fumarole/fumarolelaw09.Rules -/
def f_law09_Rules_r0 : List Abs.Op := [
  ⟨some 2, none, false, .mv (.c .nils)⟩]

def f_law09_Rules_r1 : List Abs.Op := [
  ⟨some 3, none, false, .nilb 10⟩]

def f_law09_Rules_r2 : List Abs.Op := [
  ⟨some 4, none, false, .mv (.c (.int .i64 0))⟩]

def f_law09_Rules_r3 : List Abs.Op := [
  ⟨some 5, none, false, .mv (.t 4)⟩,
  ⟨some 6, none, false, .mv (.t 0)⟩,
  ⟨some 7, none, false, .lenS (.t 6)⟩,
  ⟨some 8, none, false, .bin .lss (.t 5) (.t 7)⟩]

def f_law09_Rules_r4 : List Abs.Op := [
  ⟨some 11, none, true, .mv (.t 3)⟩,
  ⟨some 12, none, true, .mv (.t 0)⟩,
  ⟨some 13, none, true, .mv (.t 4)⟩,
  ⟨some 14, none, true, .idxS 10 (.t 12) (.t 13)⟩,
  ⟨some 15, none, true, .fadr 0 (.t 14)⟩,
  ⟨some 16, none, true, .ld true 3 (.t 15)⟩,
  ⟨some 17, none, true, .call false (.c (.fn i_law09_Point [] [])) [(.t 16)]⟩,
  ⟨some 18, none, true, .mv (.t 0)⟩,
  ⟨some 19, none, true, .mv (.t 4)⟩,
  ⟨some 20, none, true, .idxS 10 (.t 18) (.t 19)⟩,
  ⟨some 21, none, true, .fadr 3 (.t 20)⟩,
  ⟨some 22, none, true, .ld true 3 (.t 21)⟩,
  ⟨some 23, none, true, .call false (.c (.fn i_law09_Point [] [])) [(.t 22)]⟩,
  ⟨some 24, none, true, .mv (.t 0)⟩,
  ⟨some 25, none, true, .mv (.t 4)⟩,
  ⟨some 26, none, true, .idxS 10 (.t 24) (.t 25)⟩,
  ⟨some 27, none, true, .fadr 6 (.t 26)⟩,
  ⟨some 28, none, true, .ld false 1 (.t 27)⟩,
  ⟨some 29, none, true, .mv (.t 0)⟩,
  ⟨some 30, none, true, .mv (.t 4)⟩,
  ⟨some 31, none, true, .idxS 10 (.t 29) (.t 30)⟩,
  ⟨some 32, none, true, .fadr 7 (.t 31)⟩,
  ⟨some 33, none, true, .ld false 1 (.t 32)⟩,
  ⟨some 34, none, true, .mv (.t 0)⟩,
  ⟨some 35, none, true, .mv (.t 4)⟩,
  ⟨some 36, none, true, .idxS 10 (.t 34) (.t 35)⟩,
  ⟨some 37, none, true, .fadr 8 (.t 36)⟩,
  ⟨some 38, none, true, .ld false 1 (.t 37)⟩,
  ⟨some 39, none, true, .mv (.t 0)⟩,
  ⟨some 40, none, true, .mv (.t 4)⟩,
  ⟨some 41, none, true, .idxS 10 (.t 39) (.t 40)⟩,
  ⟨some 42, none, true, .fadr 9 (.t 41)⟩,
  ⟨some 43, none, true, .ld false 1 (.t 42)⟩,
  ⟨some 44, none, true, .bld [(.int .i64 0), (.int .i64 0), (.int .i64 0), (.int .i64 0), (.int .i64 0), (.int .i64 0), (.int .i64 0), (.int .i64 0), (.int .i64 0), (.int .u8 0)] [(0, 3, (.t 17)), (3, 3, (.t 23)), (6, 1, (.t 28)), (7, 1, (.t 33)), (8, 1, (.t 38)), (9, 1, (.t 43))]⟩,
  ⟨some 45, none, true, .bsi 1 10 [(.int .i64 0), (.int .i64 0), (.int .i64 0), (.int .i64 0), (.int .i64 0), (.int .i64 0), (.int .i64 0), (.int .i64 0), (.int .i64 0), (.int .u8 0)] [(0, 10, (.t 44))]⟩,
  ⟨some 46, none, false, .app 10 80 (.t 11) (.t 45)⟩,
  ⟨some 3, none, false, .mv (.t 46)⟩]

def f_law09_Rules_r5 : List Abs.Op := [
  ⟨some 9, none, false, .mv (.t 4)⟩,
  ⟨some 10, none, false, .bin .add (.t 9) (.c (.int .i64 1))⟩,
  ⟨some 4, none, false, .mv (.t 10)⟩]

def f_law09_Rules_l6 : Abs.Cmd :=
  (.seq (.seq (.reg [0, 3, 4, 8] f_law09_Rules_r3) (.ite (.t 8) .nop (.exit 0))) (.seq (.blk 1 (.reg [0, 3, 4] f_law09_Rules_r4)) (.reg [0, 3, 4] f_law09_Rules_r5)))

def f_law09_Rules_r7 : List Abs.Op := [
  ⟨some 47, none, false, .mv (.t 3)⟩,
  ⟨some 2, none, false, .mv (.t 47)⟩]

def a_law09_Rules : Ann := ⟨[(6, [2]), (4, [0, 3, 4]), (5, [0, 3, 4]), (3, [0, 3, 4, 8]), (2, [0, 3, 4]), (1, [0, 3]), (0, [0])], [(0, [0, 3, 4])], [], [3], [], [], [], [], []⟩
def f_law09_Rules : Abs.Fn := ⟨1, [.t 2],
  (.seq (.reg [0] f_law09_Rules_r0) (.seq (.reg [0, 3] f_law09_Rules_r1) (.seq (.seq (.reg [0, 3, 4] f_law09_Rules_r2) (.blk 0 (.loop [0, 3, 4] false f_law09_Rules_l6))) (.seq (.reg [2] f_law09_Rules_r7) .ret))))⟩

theorem e_law09_Rules_r0 : type_of% f_law09_Rules_r0.eq_1 := by_rfl f_law09_Rules_r0.eq_1
theorem e_law09_Rules_r1 : type_of% f_law09_Rules_r1.eq_1 := by_rfl f_law09_Rules_r1.eq_1
theorem e_law09_Rules_r2 : type_of% f_law09_Rules_r2.eq_1 := by_rfl f_law09_Rules_r2.eq_1
theorem e_law09_Rules_r3 : type_of% f_law09_Rules_r3.eq_1 := by_rfl f_law09_Rules_r3.eq_1
theorem e_law09_Rules_r4 : type_of% f_law09_Rules_r4.eq_1 := by_rfl f_law09_Rules_r4.eq_1
theorem e_law09_Rules_r5 : type_of% f_law09_Rules_r5.eq_1 := by_rfl f_law09_Rules_r5.eq_1
theorem e_law09_Rules_l6 : type_of% f_law09_Rules_l6.eq_1 := by_rfl f_law09_Rules_l6.eq_1
theorem e_law09_Rules_r7 : type_of% f_law09_Rules_r7.eq_1 := by_rfl f_law09_Rules_r7.eq_1
theorem e_law09_Rules : type_of% f_law09_Rules.eq_1 := by_rfl f_law09_Rules.eq_1
theorem ok_law09_Rules : fnC Tryz.prog a_law09_Rules Tryz.f7 = some f_law09_Rules := by kernel_rfl

/-! 8 fumarole/fumarolelaw09.Events -/
def f_law09_Events_r0 : List Abs.Op := [
  ⟨some 2, none, false, .mv (.c .nils)⟩]

def f_law09_Events_r1 : List Abs.Op := [
  ⟨some 3, none, false, .nilb 2⟩]

def f_law09_Events_r2 : List Abs.Op := [
  ⟨some 4, none, false, .mv (.c (.int .i64 0))⟩]

def f_law09_Events_r3 : List Abs.Op := [
  ⟨some 7, none, false, .mv (.t 4)⟩,
  ⟨some 8, none, false, .mv (.t 0)⟩,
  ⟨some 9, none, false, .lenS (.t 8)⟩,
  ⟨some 10, none, false, .bin .lss (.t 7) (.t 9)⟩]

def f_law09_Events_r4 : List Abs.Op := [
  ⟨some 13, none, false, .mv (.t 0)⟩,
  ⟨some 14, none, false, .mv (.t 4)⟩,
  ⟨some 15, none, false, .idxS 2 (.t 13) (.t 14)⟩,
  ⟨some 16, none, false, .fadr 0 (.t 15)⟩,
  ⟨some 17, none, false, .ld false 1 (.t 16)⟩,
  ⟨some 18, none, false, .bld [(.int .i64 0), .nils] [(0, 1, (.t 17))]⟩,
  ⟨some 5, none, false, .alcv [] [(.int .i64 0), .nils]⟩,
  ⟨none, none, false, .stv 5 [(1, 4)] 2 5 (.t 18)⟩]

def f_law09_Events_r5 : List Abs.Op := [
  ⟨some 6, none, false, .mv (.c (.int .i64 0))⟩]

def f_law09_Events_r6 : List Abs.Op := [
  ⟨some 19, none, false, .mv (.t 6)⟩,
  ⟨some 20, none, false, .mv (.t 0)⟩,
  ⟨some 21, none, false, .mv (.t 4)⟩,
  ⟨some 22, none, false, .idxS 2 (.t 20) (.t 21)⟩,
  ⟨some 23, none, false, .fadr 1 (.t 22)⟩,
  ⟨some 24, none, false, .ld false 1 (.t 23)⟩,
  ⟨some 25, none, false, .lenS (.t 24)⟩,
  ⟨some 26, none, false, .bin .lss (.t 19) (.t 25)⟩]

def f_law09_Events_r7 : List Abs.Op := [
  ⟨some 29, none, true, .fadr 1 (.t 5)⟩,
  ⟨some 30, none, true, .ldv 5 false 1 29⟩,
  ⟨some 31, none, true, .mv (.t 0)⟩,
  ⟨some 32, none, true, .mv (.t 4)⟩,
  ⟨some 33, none, true, .idxS 2 (.t 31) (.t 32)⟩,
  ⟨some 34, none, true, .fadr 1 (.t 33)⟩,
  ⟨some 35, none, true, .ld false 1 (.t 34)⟩,
  ⟨some 36, none, true, .mv (.t 6)⟩,
  ⟨some 37, none, true, .idxS 4 (.t 35) (.t 36)⟩,
  ⟨some 38, none, true, .fadr 0 (.t 37)⟩,
  ⟨some 39, none, true, .ld true 3 (.t 38)⟩,
  ⟨some 40, none, true, .call false (.c (.fn i_law09_Point [] [])) [(.t 39)]⟩,
  ⟨some 41, none, true, .mv (.t 0)⟩,
  ⟨some 42, none, true, .mv (.t 4)⟩,
  ⟨some 43, none, true, .idxS 2 (.t 41) (.t 42)⟩,
  ⟨some 44, none, true, .fadr 1 (.t 43)⟩,
  ⟨some 45, none, true, .ld false 1 (.t 44)⟩,
  ⟨some 46, none, true, .mv (.t 6)⟩,
  ⟨some 47, none, true, .idxS 4 (.t 45) (.t 46)⟩,
  ⟨some 48, none, true, .fadr 3 (.t 47)⟩,
  ⟨some 49, none, true, .ld false 1 (.t 48)⟩,
  ⟨some 50, none, true, .bld [(.int .i64 0), (.int .i64 0), (.int .i64 0), (.int .i64 0)] [(0, 3, (.t 40)), (3, 1, (.t 49))]⟩,
  ⟨some 51, none, true, .bsi 1 4 [(.int .i64 0), (.int .i64 0), (.int .i64 0), (.int .i64 0)] [(0, 4, (.t 50))]⟩,
  ⟨some 52, none, false, .app 4 32 (.t 30) (.t 51)⟩,
  ⟨some 53, none, false, .fadr 1 (.t 5)⟩,
  ⟨none, none, false, .stv 5 [(0, 4)] 1 53 (.t 52)⟩]

def f_law09_Events_r8 : List Abs.Op := [
  ⟨some 27, none, false, .mv (.t 6)⟩,
  ⟨some 28, none, false, .bin .add (.t 27) (.c (.int .i64 1))⟩,
  ⟨some 6, none, false, .mv (.t 28)⟩]

def f_law09_Events_l9 : Abs.Cmd :=
  (.seq (.seq (.reg [0, 3, 4, 5, 6, 26] f_law09_Events_r6) (.ite (.t 26) .nop (.exit 2))) (.seq (.blk 3 (.reg [0, 3, 4, 5, 6] f_law09_Events_r7)) (.reg [0, 3, 4, 5, 6] f_law09_Events_r8)))

def f_law09_Events_r10 : List Abs.Op := [
  ⟨some 54, none, false, .mv (.t 3)⟩,
  ⟨some 55, none, false, .ldv 5 true 2 5⟩,
  ⟨some 56, none, false, .bsi 1 2 [(.int .i64 0), .nils] [(0, 2, (.t 55))]⟩,
  ⟨some 57, none, false, .app 2 32 (.t 54) (.t 56)⟩,
  ⟨some 3, none, false, .mv (.t 57)⟩]

def f_law09_Events_r11 : List Abs.Op := [
  ⟨some 11, none, false, .mv (.t 4)⟩,
  ⟨some 12, none, false, .bin .add (.t 11) (.c (.int .i64 1))⟩,
  ⟨some 4, none, false, .mv (.t 12)⟩]

def f_law09_Events_l12 : Abs.Cmd :=
  (.seq (.seq (.reg [0, 3, 4, 10] f_law09_Events_r3) (.ite (.t 10) .nop (.exit 0))) (.seq (.blk 1 (.seq (.reg [0, 3, 4, 5] f_law09_Events_r4) (.seq (.seq (.reg [0, 3, 4, 5, 6] f_law09_Events_r5) (.blk 2 (.loop [0, 3, 4, 5, 6] false f_law09_Events_l9))) (.reg [0, 3, 4] f_law09_Events_r10)))) (.reg [0, 3, 4] f_law09_Events_r11)))

def f_law09_Events_r13 : List Abs.Op := [
  ⟨some 58, none, false, .mv (.t 3)⟩,
  ⟨some 2, none, false, .mv (.t 58)⟩]

def a_law09_Events : Ann := ⟨[(11, [2]), (4, [0, 3, 4]), (10, [0, 3, 4]), (8, [0, 3, 4, 5, 6]), (9, [0, 3, 4, 5, 6]), (7, [0, 3, 4, 5, 6, 26]), (6, [0, 3, 4, 5, 6]), (5, [0, 3, 4, 5]), (3, [0, 3, 4, 10]), (2, [0, 3, 4]), (1, [0, 3]), (0, [0])], [(2, [0, 3, 4, 5, 6]), (0, [0, 3, 4])], [], [3, 5], [5], [(5007, [(1, 4)]), (9025, [(0, 4)])], [], [], []⟩
def f_law09_Events : Abs.Fn := ⟨1, [.t 2],
  (.seq (.reg [0] f_law09_Events_r0) (.seq (.reg [0, 3] f_law09_Events_r1) (.seq (.seq (.reg [0, 3, 4] f_law09_Events_r2) (.blk 0 (.loop [0, 3, 4] false f_law09_Events_l12))) (.seq (.reg [2] f_law09_Events_r13) .ret))))⟩

theorem e_law09_Events_r0 : type_of% f_law09_Events_r0.eq_1 := by_rfl f_law09_Events_r0.eq_1
theorem e_law09_Events_r1 : type_of% f_law09_Events_r1.eq_1 := by_rfl f_law09_Events_r1.eq_1
theorem e_law09_Events_r2 : type_of% f_law09_Events_r2.eq_1 := by_rfl f_law09_Events_r2.eq_1
theorem e_law09_Events_r3 : type_of% f_law09_Events_r3.eq_1 := by_rfl f_law09_Events_r3.eq_1
theorem e_law09_Events_r4 : type_of% f_law09_Events_r4.eq_1 := by_rfl f_law09_Events_r4.eq_1
theorem e_law09_Events_r5 : type_of% f_law09_Events_r5.eq_1 := by_rfl f_law09_Events_r5.eq_1
theorem e_law09_Events_r6 : type_of% f_law09_Events_r6.eq_1 := by_rfl f_law09_Events_r6.eq_1
theorem e_law09_Events_r7 : type_of% f_law09_Events_r7.eq_1 := by_rfl f_law09_Events_r7.eq_1
theorem e_law09_Events_r8 : type_of% f_law09_Events_r8.eq_1 := by_rfl f_law09_Events_r8.eq_1
theorem e_law09_Events_l9 : type_of% f_law09_Events_l9.eq_1 := by_rfl f_law09_Events_l9.eq_1
theorem e_law09_Events_r10 : type_of% f_law09_Events_r10.eq_1 := by_rfl f_law09_Events_r10.eq_1
theorem e_law09_Events_r11 : type_of% f_law09_Events_r11.eq_1 := by_rfl f_law09_Events_r11.eq_1
theorem e_law09_Events_l12 : type_of% f_law09_Events_l12.eq_1 := by_rfl f_law09_Events_l12.eq_1
theorem e_law09_Events_r13 : type_of% f_law09_Events_r13.eq_1 := by_rfl f_law09_Events_r13.eq_1
theorem e_law09_Events : type_of% f_law09_Events.eq_1 := by_rfl f_law09_Events.eq_1
theorem ok_law09_Events : fnC Tryz.prog a_law09_Events Tryz.f8 = some f_law09_Events := by kernel_rfl

/-! 9 fumarole/fumaroleref09.RightRule -/
def f_ref09_RightRule_r0 : List Abs.Op := [
  ⟨some 1, none, false, .boxi (.t 0)⟩,
  ⟨some 2, none, false, .mv (.c (.bool false))⟩]

def f_ref09_RightRule_r1 : List Abs.Op := [
  ⟨some 3, none, false, .fadr 0 (.t 1)⟩,
  ⟨some 4, none, false, .ld true 3 (.t 3)⟩,
  ⟨some 5, none, false, .fadr 3 (.t 1)⟩,
  ⟨some 6, none, false, .ld true 3 (.t 5)⟩,
  ⟨some 7, none, false, .call false (.c (.fn i_ref09_Box [] [])) [(.t 4), (.t 6)]⟩,
  ⟨some 8, none, false, .mv (.t 7)⟩,
  ⟨some 9, some (8, true), false, .fadr 6 (.t 1)⟩,
  ⟨some 10, some (8, true), false, .ld false 1 (.t 9)⟩,
  ⟨some 11, some (8, true), false, .call false (.c (.fn i_ref09_In [] [])) [(.t 10), (.c (.int .i64 0)), (.c (.int .i64 160))]⟩,
  ⟨some 12, none, false, .pick (.t 8) (.t 11) (.c (.bool false))⟩,
  ⟨some 13, none, false, .mv (.t 12)⟩,
  ⟨some 14, some (13, true), false, .fadr 7 (.t 1)⟩,
  ⟨some 15, some (13, true), false, .ld false 1 (.t 14)⟩,
  ⟨some 16, some (13, true), false, .call false (.c (.fn i_ref09_In [] [])) [(.t 15), (.c (.int .i64 1)), (.c (.int .i64 1000000))]⟩,
  ⟨some 17, none, false, .pick (.t 13) (.t 16) (.c (.bool false))⟩,
  ⟨some 18, none, false, .mv (.t 17)⟩,
  ⟨some 19, some (18, true), false, .fadr 8 (.t 1)⟩,
  ⟨some 20, some (18, true), false, .ld false 1 (.t 19)⟩,
  ⟨some 21, some (18, true), false, .call false (.c (.fn i_ref09_In [] [])) [(.t 20), (.c (.int .i64 1)), (.c (.int .i64 200))]⟩,
  ⟨some 22, none, false, .pick (.t 18) (.t 21) (.c (.bool false))⟩,
  ⟨some 23, none, false, .mv (.t 22)⟩,
  ⟨some 24, some (23, true), false, .fadr 9 (.t 1)⟩,
  ⟨some 25, some (23, true), false, .ld false 1 (.t 24)⟩,
  ⟨some 26, some (23, true), false, .bin .eql (.t 25) (.c (.int .u8 1))⟩,
  ⟨some 27, some (23, true), false, .mv (.t 26)⟩,
  ⟨some 28, some (27, false), false, .fadr 9 (.t 1)⟩,
  ⟨some 29, some (27, false), false, .ld false 1 (.t 28)⟩,
  ⟨some 30, some (27, false), false, .bin .eql (.t 29) (.c (.int .u8 2))⟩,
  ⟨some 31, some (23, true), false, .pick (.t 27) (.c (.bool true)) (.t 30)⟩,
  ⟨some 32, none, false, .pick (.t 23) (.t 31) (.c (.bool false))⟩,
  ⟨some 2, none, false, .mv (.t 32)⟩]

def a_ref09_RightRule : Ann := ⟨[(1, [2]), (0, [1])], [], [], [], [], [], [], [], []⟩
def f_ref09_RightRule : Abs.Fn := ⟨1, [.t 2],
  (.seq (.reg [1] f_ref09_RightRule_r0) (.seq (.reg [2] f_ref09_RightRule_r1) .ret))⟩

theorem e_ref09_RightRule_r0 : type_of% f_ref09_RightRule_r0.eq_1 := by_rfl f_ref09_RightRule_r0.eq_1
theorem e_ref09_RightRule_r1 : type_of% f_ref09_RightRule_r1.eq_1 := by_rfl f_ref09_RightRule_r1.eq_1
theorem e_ref09_RightRule : type_of% f_ref09_RightRule.eq_1 := by_rfl f_ref09_RightRule.eq_1
theorem ok_ref09_RightRule : fnC Tryz.prog a_ref09_RightRule Tryz.f9 = some f_ref09_RightRule := by kernel_rfl

/-! 10 fumarole/fumaroleref09.RightEvent -/
def f_ref09_RightEvent_r0 : List Abs.Op := [
  ⟨some 1, none, false, .boxi (.t 0)⟩,
  ⟨some 2, none, false, .mv (.c (.bool false))⟩]

def f_ref09_RightEvent_r1 : List Abs.Op := [
  ⟨some 3, none, false, .mv (.c (.int .i64 0))⟩]

def f_ref09_RightEvent_r2 : List Abs.Op := [
  ⟨some 4, none, false, .mv (.t 3)⟩,
  ⟨some 5, none, false, .fadr 1 (.t 1)⟩,
  ⟨some 6, none, false, .ld false 1 (.t 5)⟩,
  ⟨some 7, none, false, .lenS (.t 6)⟩,
  ⟨some 8, none, false, .bin .lss (.t 4) (.t 7)⟩]

def f_ref09_RightEvent_r3 : List Abs.Op := [
  ⟨some 11, none, false, .fadr 1 (.t 1)⟩,
  ⟨some 12, none, false, .ld false 1 (.t 11)⟩,
  ⟨some 13, none, false, .mv (.t 3)⟩,
  ⟨some 14, none, false, .idxS 4 (.t 12) (.t 13)⟩,
  ⟨some 15, none, false, .fadr 0 (.t 14)⟩,
  ⟨some 16, none, false, .ld true 3 (.t 15)⟩,
  ⟨some 17, none, false, .call false (.c (.fn i_ref09_Dot [] [])) [(.t 16)]⟩,
  ⟨some 18, none, false, .un .not (.t 17)⟩,
  ⟨some 19, none, false, .mv (.t 18)⟩,
  ⟨some 20, some (19, false), false, .fadr 1 (.t 1)⟩,
  ⟨some 21, some (19, false), false, .ld false 1 (.t 20)⟩,
  ⟨some 22, some (19, false), false, .mv (.t 3)⟩,
  ⟨some 23, some (19, false), false, .idxS 4 (.t 21) (.t 22)⟩,
  ⟨some 24, some (19, false), false, .fadr 3 (.t 23)⟩,
  ⟨some 25, some (19, false), false, .ld false 1 (.t 24)⟩,
  ⟨some 26, some (19, false), false, .call false (.c (.fn i_ref09_In [] [])) [(.t 25), (.c (.int .i64 0)), (.c (.int .i64 160))]⟩,
  ⟨some 27, some (19, false), false, .un .not (.t 26)⟩,
  ⟨some 28, none, false, .pick (.t 19) (.c (.bool true)) (.t 27)⟩]

def f_ref09_RightEvent_r4 : List Abs.Op := [
  ⟨some 2, none, false, .mv (.c (.bool false))⟩]

def f_ref09_RightEvent_r5 : List Abs.Op := [
  ⟨some 9, none, false, .mv (.t 3)⟩,
  ⟨some 10, none, false, .bin .add (.t 9) (.c (.int .i64 1))⟩,
  ⟨some 3, none, false, .mv (.t 10)⟩]

def f_ref09_RightEvent_l6 : Abs.Cmd :=
  (.seq (.seq (.reg [1, 3, 8] f_ref09_RightEvent_r2) (.ite (.t 8) .nop (.exit 0))) (.seq (.blk 1 (.seq (.reg [1, 3, 28] f_ref09_RightEvent_r3) (.ite (.t 28) (.seq (.reg [2] f_ref09_RightEvent_r4) .ret) .nop))) (.reg [1, 3] f_ref09_RightEvent_r5)))

def f_ref09_RightEvent_r7 : List Abs.Op := [
  ⟨some 29, none, false, .fadr 0 (.t 1)⟩,
  ⟨some 30, none, false, .ld false 1 (.t 29)⟩,
  ⟨some 31, none, false, .call false (.c (.fn i_ref09_In [] [])) [(.t 30), (.c (.int .i64 0)), (.c (.int .i64 1000000))]⟩,
  ⟨some 32, none, false, .mv (.t 31)⟩,
  ⟨some 33, some (32, true), false, .fadr 1 (.t 1)⟩,
  ⟨some 34, some (32, true), false, .ld false 1 (.t 33)⟩,
  ⟨some 35, some (32, true), false, .lenS (.t 34)⟩,
  ⟨some 36, some (32, true), false, .bin .geq (.t 35) (.c (.int .i64 1))⟩,
  ⟨some 37, none, false, .pick (.t 32) (.t 36) (.c (.bool false))⟩,
  ⟨some 38, none, false, .mv (.t 37)⟩,
  ⟨some 39, some (38, true), false, .fadr 1 (.t 1)⟩,
  ⟨some 40, some (38, true), false, .ld false 1 (.t 39)⟩,
  ⟨some 41, some (38, true), false, .lenS (.t 40)⟩,
  ⟨some 42, some (38, true), false, .bin .leq (.t 41) (.c (.int .i64 2000))⟩,
  ⟨some 43, none, false, .pick (.t 38) (.t 42) (.c (.bool false))⟩,
  ⟨some 2, none, false, .mv (.t 43)⟩]

def a_ref09_RightEvent : Ann := ⟨[(6, [2]), (3, [1, 3]), (5, [2]), (4, [1, 3, 28]), (2, [1, 3, 8]), (1, [1, 3]), (0, [1])], [(0, [1, 3])], [], [], [], [], [], [], []⟩
def f_ref09_RightEvent : Abs.Fn := ⟨1, [.t 2],
  (.seq (.reg [1] f_ref09_RightEvent_r0) (.seq (.seq (.reg [1, 3] f_ref09_RightEvent_r1) (.blk 0 (.loop [1, 3] false f_ref09_RightEvent_l6))) (.seq (.reg [2] f_ref09_RightEvent_r7) .ret)))⟩

theorem e_ref09_RightEvent_r0 : type_of% f_ref09_RightEvent_r0.eq_1 := by_rfl f_ref09_RightEvent_r0.eq_1
theorem e_ref09_RightEvent_r1 : type_of% f_ref09_RightEvent_r1.eq_1 := by_rfl f_ref09_RightEvent_r1.eq_1
theorem e_ref09_RightEvent_r2 : type_of% f_ref09_RightEvent_r2.eq_1 := by_rfl f_ref09_RightEvent_r2.eq_1
theorem e_ref09_RightEvent_r3 : type_of% f_ref09_RightEvent_r3.eq_1 := by_rfl f_ref09_RightEvent_r3.eq_1
theorem e_ref09_RightEvent_r4 : type_of% f_ref09_RightEvent_r4.eq_1 := by_rfl f_ref09_RightEvent_r4.eq_1
theorem e_ref09_RightEvent_r5 : type_of% f_ref09_RightEvent_r5.eq_1 := by_rfl f_ref09_RightEvent_r5.eq_1
theorem e_ref09_RightEvent_l6 : type_of% f_ref09_RightEvent_l6.eq_1 := by_rfl f_ref09_RightEvent_l6.eq_1
theorem e_ref09_RightEvent_r7 : type_of% f_ref09_RightEvent_r7.eq_1 := by_rfl f_ref09_RightEvent_r7.eq_1
theorem e_ref09_RightEvent : type_of% f_ref09_RightEvent.eq_1 := by_rfl f_ref09_RightEvent.eq_1
theorem ok_ref09_RightEvent : fnC Tryz.prog a_ref09_RightEvent Tryz.f10 = some f_ref09_RightEvent := by kernel_rfl

/-! 11 fumarole/fumaroleref09.In -/
def f_ref09_In_r0 : List Abs.Op := [
  ⟨some 6, none, false, .mv (.c (.bool false))⟩]

def f_ref09_In_r1 : List Abs.Op := [
  ⟨some 7, none, false, .mv (.t 0)⟩,
  ⟨some 8, none, false, .mv (.t 1)⟩,
  ⟨some 9, none, false, .bin .geq (.t 7) (.t 8)⟩,
  ⟨some 10, none, false, .mv (.t 9)⟩,
  ⟨some 11, some (10, true), false, .mv (.t 0)⟩,
  ⟨some 12, some (10, true), false, .mv (.t 2)⟩,
  ⟨some 13, some (10, true), false, .bin .leq (.t 11) (.t 12)⟩,
  ⟨some 14, none, false, .pick (.t 10) (.t 13) (.c (.bool false))⟩,
  ⟨some 6, none, false, .mv (.t 14)⟩]

def a_ref09_In : Ann := ⟨[(1, [6]), (0, [0, 1, 2])], [], [], [], [], [], [], [], []⟩
def f_ref09_In : Abs.Fn := ⟨3, [.t 6],
  (.seq (.reg [0, 1, 2] f_ref09_In_r0) (.seq (.reg [6] f_ref09_In_r1) .ret))⟩

theorem e_ref09_In_r0 : type_of% f_ref09_In_r0.eq_1 := by_rfl f_ref09_In_r0.eq_1
theorem e_ref09_In_r1 : type_of% f_ref09_In_r1.eq_1 := by_rfl f_ref09_In_r1.eq_1
theorem e_ref09_In : type_of% f_ref09_In.eq_1 := by_rfl f_ref09_In.eq_1
theorem ok_ref09_In : fnC Tryz.prog a_ref09_In Tryz.f11 = some f_ref09_In := by kernel_rfl

/-! 12 fumarole/fumaroleref09.Light -/
def f_ref09_Light_r0 : List Abs.Op := [
  ⟨some 6, none, false, .mv (.c (.int .u8 0))⟩,
  ⟨some 7, none, false, .mv (.c (.int .u8 0))⟩]

def f_ref09_Light_r1 : List Abs.Op := [
  ⟨some 8, none, false, .mv (.c (.int .u8 0))⟩,
  ⟨some 9, none, false, .mv (.c (.int .u8 0))⟩]

def f_ref09_Light_r2 : List Abs.Op := [
  ⟨some 10, none, false, .mv (.c (.int .i64 0))⟩]

def f_ref09_Light_r3 : List Abs.Op := [
  ⟨some 11, none, false, .mv (.t 10)⟩,
  ⟨some 12, none, false, .mv (.t 0)⟩,
  ⟨some 13, none, false, .lenS (.t 12)⟩,
  ⟨some 14, none, false, .bin .lss (.t 11) (.t 13)⟩]

def f_ref09_Light_r4 : List Abs.Op := [
  ⟨some 17, none, true, .mv (.t 8)⟩,
  ⟨some 18, none, true, .mv (.t 0)⟩,
  ⟨some 19, none, true, .mv (.t 10)⟩,
  ⟨some 20, none, true, .idxS 10 (.t 18) (.t 19)⟩,
  ⟨some 21, none, true, .ld true 10 (.t 20)⟩,
  ⟨some 22, none, true, .mv (.t 1)⟩,
  ⟨some 23, none, true, .mv (.t 2)⟩,
  ⟨some 24, none, true, .call false (.c (.fn i_ref09_Says [] [])) [(.t 21), (.t 22), (.t 23), (.c (.bool false))]⟩,
  ⟨some 25, none, true, .mx (.t 17) (.t 24)⟩,
  ⟨some 26, none, true, .mv (.t 9)⟩,
  ⟨some 27, none, true, .mv (.t 0)⟩,
  ⟨some 28, none, true, .mv (.t 10)⟩,
  ⟨some 29, none, true, .idxS 10 (.t 27) (.t 28)⟩,
  ⟨some 30, none, true, .ld true 10 (.t 29)⟩,
  ⟨some 31, none, true, .mv (.t 1)⟩,
  ⟨some 32, none, true, .mv (.t 2)⟩,
  ⟨some 33, none, true, .call false (.c (.fn i_ref09_Says [] [])) [(.t 30), (.t 31), (.t 32), (.c (.bool true))]⟩,
  ⟨some 34, none, true, .mx (.t 26) (.t 33)⟩,
  ⟨some 8, none, true, .mv (.t 25)⟩,
  ⟨some 9, none, false, .mv (.t 34)⟩]

def f_ref09_Light_r5 : List Abs.Op := [
  ⟨some 15, none, false, .mv (.t 10)⟩,
  ⟨some 16, none, false, .bin .add (.t 15) (.c (.int .i64 1))⟩,
  ⟨some 10, none, false, .mv (.t 16)⟩]

def f_ref09_Light_l6 : Abs.Cmd :=
  (.seq (.seq (.reg [0, 1, 2, 8, 9, 10, 14] f_ref09_Light_r3) (.ite (.t 14) .nop (.exit 0))) (.seq (.blk 1 (.reg [0, 1, 2, 8, 9, 10] f_ref09_Light_r4)) (.reg [0, 1, 2, 8, 9, 10] f_ref09_Light_r5)))

def f_ref09_Light_r7 : List Abs.Op := [
  ⟨some 35, none, false, .mv (.t 8)⟩,
  ⟨some 36, none, false, .mv (.t 9)⟩,
  ⟨some 6, none, false, .mv (.t 35)⟩,
  ⟨some 7, none, false, .mv (.t 36)⟩]

def a_ref09_Light : Ann := ⟨[(6, [6, 7]), (4, [0, 1, 2, 8, 9, 10]), (5, [0, 1, 2, 8, 9, 10]), (3, [0, 1, 2, 8, 9, 10, 14]), (2, [0, 1, 2, 8, 9, 10]), (1, [0, 1, 2, 8, 9]), (0, [0, 1, 2])], [(0, [0, 1, 2, 8, 9, 10])], [], [], [], [], [], [], []⟩
def f_ref09_Light : Abs.Fn := ⟨3, [.t 6, .t 7],
  (.seq (.reg [0, 1, 2] f_ref09_Light_r0) (.seq (.reg [0, 1, 2, 8, 9] f_ref09_Light_r1) (.seq (.seq (.reg [0, 1, 2, 8, 9, 10] f_ref09_Light_r2) (.blk 0 (.loop [0, 1, 2, 8, 9, 10] false f_ref09_Light_l6))) (.seq (.reg [6, 7] f_ref09_Light_r7) .ret))))⟩

theorem e_ref09_Light_r0 : type_of% f_ref09_Light_r0.eq_1 := by_rfl f_ref09_Light_r0.eq_1
theorem e_ref09_Light_r1 : type_of% f_ref09_Light_r1.eq_1 := by_rfl f_ref09_Light_r1.eq_1
theorem e_ref09_Light_r2 : type_of% f_ref09_Light_r2.eq_1 := by_rfl f_ref09_Light_r2.eq_1
theorem e_ref09_Light_r3 : type_of% f_ref09_Light_r3.eq_1 := by_rfl f_ref09_Light_r3.eq_1
theorem e_ref09_Light_r4 : type_of% f_ref09_Light_r4.eq_1 := by_rfl f_ref09_Light_r4.eq_1
theorem e_ref09_Light_r5 : type_of% f_ref09_Light_r5.eq_1 := by_rfl f_ref09_Light_r5.eq_1
theorem e_ref09_Light_l6 : type_of% f_ref09_Light_l6.eq_1 := by_rfl f_ref09_Light_l6.eq_1
theorem e_ref09_Light_r7 : type_of% f_ref09_Light_r7.eq_1 := by_rfl f_ref09_Light_r7.eq_1
theorem e_ref09_Light : type_of% f_ref09_Light.eq_1 := by_rfl f_ref09_Light.eq_1
theorem ok_ref09_Light : fnC Tryz.prog a_ref09_Light Tryz.f12 = some f_ref09_Light := by kernel_rfl

/-! 13 fumarole/fumarolelaw09.chosen -/
def f_law09_chosen_r0 : List Abs.Op := [
  ⟨some 6, none, false, .mv (.c .nils)⟩]

def f_law09_chosen_r1 : List Abs.Op := [
  ⟨some 7, none, false, .nilb 2⟩]

def f_law09_chosen_r2 : List Abs.Op := [
  ⟨some 8, none, false, .mv (.c (.int .i64 0))⟩]

def f_law09_chosen_r3 : List Abs.Op := [
  ⟨some 11, none, false, .mv (.t 8)⟩,
  ⟨some 12, none, false, .mv (.t 0)⟩,
  ⟨some 13, none, false, .lenS (.t 12)⟩,
  ⟨some 14, none, false, .bin .lss (.t 11) (.t 13)⟩]

def f_law09_chosen_r4 : List Abs.Op := [
  ⟨some 17, none, true, .mv (.t 1)⟩,
  ⟨some 18, none, true, .mv (.t 8)⟩,
  ⟨some 19, none, true, .call false (.c (.fn i_law09_word [] [])) [(.t 17), (.t 18)]⟩,
  ⟨some 20, none, true, .mv (.t 0)⟩,
  ⟨some 21, none, true, .mv (.t 8)⟩,
  ⟨some 22, none, true, .idxS 2 (.t 20) (.t 21)⟩,
  ⟨some 23, none, true, .fadr 1 (.t 22)⟩,
  ⟨some 24, none, true, .ld false 1 (.t 23)⟩,
  ⟨some 25, none, true, .lenS (.t 24)⟩,
  ⟨some 26, none, false, .bin .rem (.t 19) (.t 25)⟩,
  ⟨some 9, none, false, .mv (.t 26)⟩]

def f_law09_chosen_r5 : List Abs.Op := [
  ⟨some 10, none, false, .mv (.c (.int .i64 0))⟩]

def f_law09_chosen_r6 : List Abs.Op := [
  ⟨some 27, none, false, .mv (.t 2)⟩,
  ⟨some 28, none, false, .isn true true (.t 27)⟩,
  ⟨some 29, none, false, .mv (.t 28)⟩,
  ⟨some 30, some (29, true), false, .mv (.t 10)⟩,
  ⟨some 31, some (29, true), false, .mv (.t 0)⟩,
  ⟨some 32, some (29, true), false, .mv (.t 8)⟩,
  ⟨some 33, some (29, true), false, .idxS 2 (.t 31) (.t 32)⟩,
  ⟨some 34, some (29, true), false, .fadr 1 (.t 33)⟩,
  ⟨some 35, some (29, true), false, .ld false 1 (.t 34)⟩,
  ⟨some 36, some (29, true), false, .lenS (.t 35)⟩,
  ⟨some 37, some (29, true), false, .bin .lss (.t 30) (.t 36)⟩,
  ⟨some 38, none, false, .pick (.t 29) (.t 37) (.c (.bool false))⟩]

def f_law09_chosen_r7 : List Abs.Op := [
  ⟨some 41, none, true, .mv (.t 2)⟩,
  ⟨some 42, none, true, .nck (.t 41)⟩,
  ⟨some 43, none, true, .ld true 10 (.t 42)⟩,
  ⟨some 44, none, true, .mv (.t 0)⟩,
  ⟨some 45, none, true, .mv (.t 8)⟩,
  ⟨some 46, none, true, .idxS 2 (.t 44) (.t 45)⟩,
  ⟨some 47, none, true, .fadr 1 (.t 46)⟩,
  ⟨some 48, none, true, .ld false 1 (.t 47)⟩,
  ⟨some 49, none, true, .mv (.t 10)⟩,
  ⟨some 50, none, true, .idxS 4 (.t 48) (.t 49)⟩,
  ⟨some 51, none, true, .ld true 4 (.t 50)⟩,
  ⟨some 52, none, false, .call false (.c (.fn i_ref09_Counts [] [])) [(.t 43), (.t 51)]⟩]

def f_law09_chosen_r8 : List Abs.Op := [
  ⟨some 53, none, false, .mv (.t 10)⟩,
  ⟨some 9, none, false, .mv (.t 53)⟩]

def f_law09_chosen_r9 : List Abs.Op := [
  ⟨some 39, none, false, .mv (.t 10)⟩,
  ⟨some 40, none, false, .bin .add (.t 39) (.c (.int .i64 1))⟩,
  ⟨some 10, none, false, .mv (.t 40)⟩]

def f_law09_chosen_l10 : Abs.Cmd :=
  (.seq (.seq (.reg [0, 1, 2, 7, 8, 9, 10, 38] f_law09_chosen_r6) (.ite (.t 38) .nop (.exit 2))) (.seq (.blk 3 (.seq (.reg [0, 1, 2, 7, 8, 9, 10, 52] f_law09_chosen_r7) (.ite (.t 52) (.reg [0, 1, 2, 7, 8, 9, 10] f_law09_chosen_r8) .nop))) (.reg [0, 1, 2, 7, 8, 9, 10] f_law09_chosen_r9)))

def f_law09_chosen_r11 : List Abs.Op := [
  ⟨some 54, none, true, .mv (.t 7)⟩,
  ⟨some 55, none, true, .mv (.t 0)⟩,
  ⟨some 56, none, true, .mv (.t 8)⟩,
  ⟨some 57, none, true, .idxS 2 (.t 55) (.t 56)⟩,
  ⟨some 58, none, true, .fadr 0 (.t 57)⟩,
  ⟨some 59, none, true, .ld false 1 (.t 58)⟩,
  ⟨some 60, none, true, .mv (.t 0)⟩,
  ⟨some 61, none, true, .mv (.t 8)⟩,
  ⟨some 62, none, true, .idxS 2 (.t 60) (.t 61)⟩,
  ⟨some 63, none, true, .fadr 1 (.t 62)⟩,
  ⟨some 64, none, true, .ld false 1 (.t 63)⟩,
  ⟨some 65, none, true, .mv (.t 9)⟩,
  ⟨some 66, none, true, .mv (.t 9)⟩,
  ⟨some 67, none, true, .bin .add (.t 66) (.c (.int .i64 1))⟩,
  ⟨some 68, none, true, .slc 4 (.t 64) (some (.t 65)) (some (.t 67)) none⟩,
  ⟨some 69, none, true, .bld [(.int .i64 0), .nils] [(0, 1, (.t 59)), (1, 1, (.t 68))]⟩,
  ⟨some 70, none, true, .bsi 1 2 [(.int .i64 0), .nils] [(0, 2, (.t 69))]⟩,
  ⟨some 71, none, false, .app 2 32 (.t 54) (.t 70)⟩,
  ⟨some 7, none, false, .mv (.t 71)⟩]

def f_law09_chosen_r12 : List Abs.Op := [
  ⟨some 15, none, false, .mv (.t 8)⟩,
  ⟨some 16, none, false, .bin .add (.t 15) (.c (.int .i64 1))⟩,
  ⟨some 8, none, false, .mv (.t 16)⟩]

def f_law09_chosen_l13 : Abs.Cmd :=
  (.seq (.seq (.reg [0, 1, 2, 7, 8, 14] f_law09_chosen_r3) (.ite (.t 14) .nop (.exit 0))) (.seq (.blk 1 (.seq (.reg [0, 1, 2, 7, 8, 9] f_law09_chosen_r4) (.seq (.seq (.reg [0, 1, 2, 7, 8, 9, 10] f_law09_chosen_r5) (.blk 2 (.loop [0, 1, 2, 7, 8, 9, 10] false f_law09_chosen_l10))) (.reg [0, 1, 2, 7, 8] f_law09_chosen_r11)))) (.reg [0, 1, 2, 7, 8] f_law09_chosen_r12)))

def f_law09_chosen_r14 : List Abs.Op := [
  ⟨some 72, none, false, .mv (.t 7)⟩,
  ⟨some 6, none, false, .mv (.t 72)⟩]

def a_law09_chosen : Ann := ⟨[(12, [6]), (4, [0, 1, 2, 7, 8]), (11, [0, 1, 2, 7, 8]), (8, [0, 1, 2, 7, 8, 9, 10]), (10, [0, 1, 2, 7, 8, 9, 10]), (9, [0, 1, 2, 7, 8, 9, 10, 52]), (7, [0, 1, 2, 7, 8, 9, 10, 38]), (6, [0, 1, 2, 7, 8, 9, 10]), (5, [0, 1, 2, 7, 8, 9]), (3, [0, 1, 2, 7, 8, 14]), (2, [0, 1, 2, 7, 8]), (1, [0, 1, 2, 7]), (0, [0, 1, 2])], [(2, [0, 1, 2, 7, 8, 9, 10]), (0, [0, 1, 2, 7, 8])], [], [7], [], [], [], [], []⟩
def f_law09_chosen : Abs.Fn := ⟨3, [.t 6],
  (.seq (.reg [0, 1, 2] f_law09_chosen_r0) (.seq (.reg [0, 1, 2, 7] f_law09_chosen_r1) (.seq (.seq (.reg [0, 1, 2, 7, 8] f_law09_chosen_r2) (.blk 0 (.loop [0, 1, 2, 7, 8] false f_law09_chosen_l13))) (.seq (.reg [6] f_law09_chosen_r14) .ret))))⟩

theorem e_law09_chosen_r0 : type_of% f_law09_chosen_r0.eq_1 := by_rfl f_law09_chosen_r0.eq_1
theorem e_law09_chosen_r1 : type_of% f_law09_chosen_r1.eq_1 := by_rfl f_law09_chosen_r1.eq_1
theorem e_law09_chosen_r2 : type_of% f_law09_chosen_r2.eq_1 := by_rfl f_law09_chosen_r2.eq_1
theorem e_law09_chosen_r3 : type_of% f_law09_chosen_r3.eq_1 := by_rfl f_law09_chosen_r3.eq_1
theorem e_law09_chosen_r4 : type_of% f_law09_chosen_r4.eq_1 := by_rfl f_law09_chosen_r4.eq_1
theorem e_law09_chosen_r5 : type_of% f_law09_chosen_r5.eq_1 := by_rfl f_law09_chosen_r5.eq_1
theorem e_law09_chosen_r6 : type_of% f_law09_chosen_r6.eq_1 := by_rfl f_law09_chosen_r6.eq_1
theorem e_law09_chosen_r7 : type_of% f_law09_chosen_r7.eq_1 := by_rfl f_law09_chosen_r7.eq_1
theorem e_law09_chosen_r8 : type_of% f_law09_chosen_r8.eq_1 := by_rfl f_law09_chosen_r8.eq_1
theorem e_law09_chosen_r9 : type_of% f_law09_chosen_r9.eq_1 := by_rfl f_law09_chosen_r9.eq_1
theorem e_law09_chosen_l10 : type_of% f_law09_chosen_l10.eq_1 := by_rfl f_law09_chosen_l10.eq_1
theorem e_law09_chosen_r11 : type_of% f_law09_chosen_r11.eq_1 := by_rfl f_law09_chosen_r11.eq_1
theorem e_law09_chosen_r12 : type_of% f_law09_chosen_r12.eq_1 := by_rfl f_law09_chosen_r12.eq_1
theorem e_law09_chosen_l13 : type_of% f_law09_chosen_l13.eq_1 := by_rfl f_law09_chosen_l13.eq_1
theorem e_law09_chosen_r14 : type_of% f_law09_chosen_r14.eq_1 := by_rfl f_law09_chosen_r14.eq_1
theorem e_law09_chosen : type_of% f_law09_chosen.eq_1 := by_rfl f_law09_chosen.eq_1
theorem ok_law09_chosen : fnC Tryz.prog a_law09_chosen Tryz.f13 = some f_law09_chosen := by kernel_rfl

/-! 14 fumarole/tremor.Travel -/
def f_tremor_Travel_r0 : List Abs.Op := [
  ⟨some 4, none, false, .boxi (.t 0)⟩,
  ⟨some 7, none, false, .boxi (.t 3)⟩,
  ⟨some 8, none, false, .alcv [] [(.int .i64 0), (.int .i64 0)]⟩,
  ⟨some 9, none, false, .mv (.c (.int .i64 0))⟩]

def f_tremor_Travel_r1 : List Abs.Op := [
  ⟨some 11, none, false, .ld true 12 (.t 4)⟩,
  ⟨some 12, none, false, .call false (.c (.fn i_tremor_Net_valid [] [])) [(.t 11)]⟩,
  ⟨some 13, none, false, .un .not (.t 12)⟩,
  ⟨some 10, none, false, .mv (.t 13)⟩]

def f_tremor_Travel_r2 : List Abs.Op := [
  ⟨some 14, none, false, .bld [(.int .i64 0), (.int .i64 0)] []⟩,
  ⟨none, none, false, .stv 8 [] 2 8 (.t 14)⟩,
  ⟨some 9, none, false, .mv (.c (.int .i64 1))⟩]

def f_tremor_Travel_r3 : List Abs.Op := [
  ⟨some 16, none, false, .ld true 12 (.t 4)⟩,
  ⟨some 17, none, false, .mv (.t 1)⟩,
  ⟨some 18, none, false, .call false (.c (.fn i_tremor_Net_has [] [])) [(.t 16), (.t 17)]⟩,
  ⟨some 19, none, false, .un .not (.t 18)⟩,
  ⟨some 20, none, false, .mv (.t 19)⟩,
  ⟨some 21, some (20, false), false, .mv (.t 2)⟩,
  ⟨some 22, some (20, false), false, .cvt .i64 (.t 21)⟩,
  ⟨some 23, some (20, false), false, .bin .geq (.t 22) (.c (.int .i64 2))⟩,
  ⟨some 24, none, false, .pick (.t 20) (.c (.bool true)) (.t 23)⟩,
  ⟨some 15, none, false, .mv (.t 24)⟩]

def f_tremor_Travel_r4 : List Abs.Op := [
  ⟨some 25, none, false, .bld [(.int .i64 0), (.int .i64 0)] []⟩,
  ⟨none, none, false, .stv 8 [] 2 8 (.t 25)⟩,
  ⟨some 9, none, false, .mv (.c (.int .i64 2))⟩]

def f_tremor_Travel_r5 : List Abs.Op := [
  ⟨some 27, none, false, .ld true 3 (.t 7)⟩,
  ⟨some 28, none, false, .call false (.c (.fn i_tremor_Point_valid [] [])) [(.t 27)]⟩,
  ⟨some 29, none, false, .un .not (.t 28)⟩,
  ⟨some 26, none, false, .mv (.t 29)⟩]

def f_tremor_Travel_r6 : List Abs.Op := [
  ⟨some 30, none, false, .bld [(.int .i64 0), (.int .i64 0)] []⟩,
  ⟨none, none, false, .stv 8 [] 2 8 (.t 30)⟩,
  ⟨some 9, none, false, .mv (.c (.int .i64 1))⟩]

def f_tremor_Travel_r7 : List Abs.Op := [
  ⟨some 31, none, false, .ld true 12 (.t 4)⟩,
  ⟨some 32, none, false, .mv (.t 1)⟩,
  ⟨some 33, none, false, .mv (.t 2)⟩,
  ⟨some 34, none, false, .ld true 3 (.t 7)⟩,
  ⟨some 35, none, false, .call false (.c (.fn i_tremor_Net_travel [] [])) [(.t 31), (.t 32), (.t 33), (.t 34)]⟩,
  ⟨none, none, false, .stv 8 [] 2 8 (.t 35)⟩,
  ⟨some 9, none, false, .mv (.c (.int .i64 0))⟩]

def a_tremor_Travel : Ann := ⟨[(7, [8, 9]), (2, [8, 9]), (4, [8, 9]), (6, [8, 9]), (5, [1, 2, 4, 7, 8, 26]), (3, [1, 2, 4, 7, 8, 15]), (1, [1, 2, 4, 7, 8, 10]), (0, [1, 2, 4, 7, 8])], [], [], [8], [8], [], [], [], []⟩
def f_tremor_Travel : Abs.Fn := ⟨4, [.v 8 true 2, .t 9],
  (.seq (.reg [1, 2, 4, 7, 8] f_tremor_Travel_r0) (.seq (.blk 0 (.seq (.reg [1, 2, 4, 7, 8, 10] f_tremor_Travel_r1) (.ite (.t 10) (.seq (.reg [8, 9] f_tremor_Travel_r2) .ret) (.seq (.reg [1, 2, 4, 7, 8, 15] f_tremor_Travel_r3) (.ite (.t 15) (.seq (.reg [8, 9] f_tremor_Travel_r4) .ret) (.seq (.reg [1, 2, 4, 7, 8, 26] f_tremor_Travel_r5) (.ite (.t 26) (.seq (.reg [8, 9] f_tremor_Travel_r6) .ret) .nop))))))) (.seq (.reg [8, 9] f_tremor_Travel_r7) .ret)))⟩

theorem e_tremor_Travel_r0 : type_of% f_tremor_Travel_r0.eq_1 := by_rfl f_tremor_Travel_r0.eq_1
theorem e_tremor_Travel_r1 : type_of% f_tremor_Travel_r1.eq_1 := by_rfl f_tremor_Travel_r1.eq_1
theorem e_tremor_Travel_r2 : type_of% f_tremor_Travel_r2.eq_1 := by_rfl f_tremor_Travel_r2.eq_1
theorem e_tremor_Travel_r3 : type_of% f_tremor_Travel_r3.eq_1 := by_rfl f_tremor_Travel_r3.eq_1
theorem e_tremor_Travel_r4 : type_of% f_tremor_Travel_r4.eq_1 := by_rfl f_tremor_Travel_r4.eq_1
theorem e_tremor_Travel_r5 : type_of% f_tremor_Travel_r5.eq_1 := by_rfl f_tremor_Travel_r5.eq_1
theorem e_tremor_Travel_r6 : type_of% f_tremor_Travel_r6.eq_1 := by_rfl f_tremor_Travel_r6.eq_1
theorem e_tremor_Travel_r7 : type_of% f_tremor_Travel_r7.eq_1 := by_rfl f_tremor_Travel_r7.eq_1
theorem e_tremor_Travel : type_of% f_tremor_Travel.eq_1 := by_rfl f_tremor_Travel.eq_1
theorem ok_tremor_Travel : fnC Tryz.prog a_tremor_Travel Tryz.f14 = some f_tremor_Travel := by kernel_rfl

/-! 15 fumarole/fumarolelaw09.Two -/
def f_law09_Two_r0 : List Abs.Op := [
  ⟨some 0, none, false, .alcv [] [.nils, (.int .i64 0), (.int .i64 0), (.int .i64 0), (.int .i64 0), (.int .i64 0), (.int .i64 0), (.int .i64 0), (.int .i64 0), (.int .i64 0), (.int .i64 0), (.int .i64 0)]⟩]

def f_law09_Two_r1 : List Abs.Op := [
  ⟨some 1, none, false, .bld [(.int .i64 0), (.int .i64 0), (.int .i64 0), (.int .i64 0)] [(3, 1, (.c (.int .i64 10)))]⟩,
  ⟨some 2, none, false, .bld [(.int .i64 0), (.int .i64 0), (.int .i64 0)] [(0, 1, (.c (.int .i64 3000)))]⟩,
  ⟨some 3, none, false, .bld [(.int .i64 0), (.int .i64 0), (.int .i64 0), (.int .i64 0)] [(0, 3, (.t 2)), (3, 1, (.c (.int .i64 10)))]⟩,
  ⟨some 4, none, false, .bsi 2 4 [(.int .i64 0), (.int .i64 0), (.int .i64 0), (.int .i64 0), (.int .i64 0), (.int .i64 0), (.int .i64 0), (.int .i64 0)] [(0, 4, (.t 1)), (4, 4, (.t 3))]⟩,
  ⟨some 5, none, false, .bld [(.int .i64 0), (.int .i64 0)] [(0, 1, (.c (.int .i64 200))), (1, 1, (.c (.int .i64 220)))]⟩,
  ⟨some 6, none, false, .bld [(.int .i64 0), (.int .i64 0)] [(0, 1, (.c (.int .i64 350))), (1, 1, (.c (.int .i64 400)))]⟩,
  ⟨some 7, none, false, .bld [(.int .i64 0), (.int .i64 0), (.int .i64 0), (.int .i64 0)] [(0, 2, (.t 5)), (2, 2, (.t 6))]⟩,
  ⟨some 8, none, false, .bld [(.int .i64 0), (.int .i64 0), (.int .i64 0)] [(0, 1, (.c (.int .i64 3000)))]⟩,
  ⟨some 9, none, false, .bld [.nils, (.int .i64 0), (.int .i64 0), (.int .i64 0), (.int .i64 0), (.int .i64 0), (.int .i64 0), (.int .i64 0), (.int .i64 0), (.int .i64 0), (.int .i64 0), (.int .i64 0)] [(0, 1, (.t 4)), (1, 4, (.t 7)), (8, 3, (.t 8)), (11, 1, (.c (.int .i64 1000)))]⟩,
  ⟨none, none, false, .stv 0 [] 12 0 (.t 9)⟩]

def a_law09_Two : Ann := ⟨[(1, [0]), (0, [0])], [], [], [0], [0], [], [], [], []⟩
def f_law09_Two : Abs.Fn := ⟨0, [.v 0 true 12],
  (.seq (.reg [0] f_law09_Two_r0) (.seq (.reg [0] f_law09_Two_r1) .ret))⟩

theorem e_law09_Two_r0 : type_of% f_law09_Two_r0.eq_1 := by_rfl f_law09_Two_r0.eq_1
theorem e_law09_Two_r1 : type_of% f_law09_Two_r1.eq_1 := by_rfl f_law09_Two_r1.eq_1
theorem e_law09_Two : type_of% f_law09_Two.eq_1 := by_rfl f_law09_Two.eq_1
theorem ok_law09_Two : fnC Tryz.prog a_law09_Two Tryz.f15 = some f_law09_Two := by kernel_rfl

/-! 16 fumarole/tremor.Locate -/
def f_tremor_Locate_r0 : List Abs.Op := [
  ⟨some 2, none, false, .boxi (.t 0)⟩,
  ⟨some 4, none, false, .mv (.c .nils)⟩,
  ⟨some 5, none, false, .mv (.c (.int .i64 0))⟩]

def f_tremor_Locate_r1 : List Abs.Op := [
  ⟨some 9, none, false, .ld true 12 (.t 2)⟩,
  ⟨some 10, none, false, .mv (.t 1)⟩,
  ⟨some 11, none, false, .bld [.nils, (.int .i64 0), (.int .i64 0), (.int .i64 0), (.int .i64 0), (.int .i64 0), (.int .i64 0), (.int .i64 0), (.int .i64 0), (.int .i64 0), (.int .i64 0), (.int .i64 0), .nils] [(0, 12, (.t 9)), (12, 1, (.t 10))]⟩,
  ⟨some 6, none, false, .alcv [] [.nils, (.int .i64 0), (.int .i64 0), (.int .i64 0), (.int .i64 0), (.int .i64 0), (.int .i64 0), (.int .i64 0), (.int .i64 0), (.int .i64 0), (.int .i64 0), (.int .i64 0), .nils]⟩,
  ⟨none, none, false, .stv 6 [] 13 6 (.t 11)⟩]

def f_tremor_Locate_r2 : List Abs.Op := [
  ⟨some 12, none, false, .ldv 6 true 13 6⟩,
  ⟨some 13, none, false, .call false (.c (.fn i_tremor_heard_check [] [])) [(.t 12)]⟩,
  ⟨some 7, none, false, .mv (.t 13)⟩]

def f_tremor_Locate_r3 : List Abs.Op := [
  ⟨some 14, none, false, .mv (.t 7)⟩,
  ⟨some 15, none, false, .bin .neq (.t 14) (.c (.int .i64 0))⟩]

def f_tremor_Locate_r4 : List Abs.Op := [
  ⟨some 16, none, false, .mv (.t 7)⟩,
  ⟨some 4, none, false, .mv (.c .nils)⟩,
  ⟨some 5, none, false, .mv (.t 16)⟩]

def f_tremor_Locate_r5 : List Abs.Op := [
  ⟨some 17, none, false, .ldv 6 true 13 6⟩,
  ⟨some 18, none, false, .mv (.t 1)⟩,
  ⟨some 19, none, false, .lenS (.t 18)⟩,
  ⟨some 20, none, false, .call false (.c (.fn i_tremor_heard_located [] [])) [(.t 17), (.t 19)]⟩,
  ⟨some 8, none, false, .mv (.t 20)⟩]

def f_tremor_Locate_r6 : List Abs.Op := [
  ⟨some 21, none, false, .mv (.t 8)⟩,
  ⟨some 22, none, false, .lenS (.t 21)⟩,
  ⟨some 23, none, false, .bin .eql (.t 22) (.c (.int .i64 0))⟩]

def f_tremor_Locate_r7 : List Abs.Op := [
  ⟨some 4, none, false, .mv (.c .nils)⟩,
  ⟨some 5, none, false, .mv (.c (.int .i64 7))⟩]

def f_tremor_Locate_r8 : List Abs.Op := [
  ⟨some 24, none, false, .mv (.t 8)⟩,
  ⟨some 4, none, false, .mv (.t 24)⟩,
  ⟨some 5, none, false, .mv (.c (.int .i64 0))⟩]

def a_tremor_Locate : Ann := ⟨[(8, [4, 5]), (7, [4, 5]), (6, [8, 23]), (5, [8]), (4, [4, 5]), (3, [1, 6, 7, 15]), (2, [1, 6, 7]), (1, [1, 6]), (0, [1, 2])], [], [], [6], [6], [], [], [], []⟩
def f_tremor_Locate : Abs.Fn := ⟨2, [.t 4, .t 5],
  (.seq (.reg [1, 2] f_tremor_Locate_r0) (.seq (.reg [1, 6] f_tremor_Locate_r1) (.seq (.seq (.reg [1, 6, 7] f_tremor_Locate_r2) (.seq (.reg [1, 6, 7, 15] f_tremor_Locate_r3) (.ite (.t 15) (.seq (.reg [4, 5] f_tremor_Locate_r4) .ret) .nop))) (.seq (.reg [8] f_tremor_Locate_r5) (.seq (.seq (.reg [8, 23] f_tremor_Locate_r6) (.ite (.t 23) (.seq (.reg [4, 5] f_tremor_Locate_r7) .ret) .nop)) (.seq (.reg [4, 5] f_tremor_Locate_r8) .ret))))))⟩

theorem e_tremor_Locate_r0 : type_of% f_tremor_Locate_r0.eq_1 := by_rfl f_tremor_Locate_r0.eq_1
theorem e_tremor_Locate_r1 : type_of% f_tremor_Locate_r1.eq_1 := by_rfl f_tremor_Locate_r1.eq_1
theorem e_tremor_Locate_r2 : type_of% f_tremor_Locate_r2.eq_1 := by_rfl f_tremor_Locate_r2.eq_1
theorem e_tremor_Locate_r3 : type_of% f_tremor_Locate_r3.eq_1 := by_rfl f_tremor_Locate_r3.eq_1
theorem e_tremor_Locate_r4 : type_of% f_tremor_Locate_r4.eq_1 := by_rfl f_tremor_Locate_r4.eq_1
theorem e_tremor_Locate_r5 : type_of% f_tremor_Locate_r5.eq_1 := by_rfl f_tremor_Locate_r5.eq_1
theorem e_tremor_Locate_r6 : type_of% f_tremor_Locate_r6.eq_1 := by_rfl f_tremor_Locate_r6.eq_1
theorem e_tremor_Locate_r7 : type_of% f_tremor_Locate_r7.eq_1 := by_rfl f_tremor_Locate_r7.eq_1
theorem e_tremor_Locate_r8 : type_of% f_tremor_Locate_r8.eq_1 := by_rfl f_tremor_Locate_r8.eq_1
theorem e_tremor_Locate : type_of% f_tremor_Locate.eq_1 := by_rfl f_tremor_Locate.eq_1
theorem ok_tremor_Locate : fnC Tryz.prog a_tremor_Locate Tryz.f16 = some f_tremor_Locate := by kernel_rfl

/-! 17 fumarole/fumarolelaw09.Heard -/
def f_law09_Heard_r0 : List Abs.Op := [
  ⟨some 0, none, false, .mv (.c .nils)⟩]

def f_law09_Heard_r1 : List Abs.Op := [
  ⟨some 1, none, false, .bld [(.int .i64 0), (.int .i64 0)] [(0, 1, (.c (.int .i64 5200))), (1, 1, (.c (.int .i64 5200)))]⟩,
  ⟨some 2, none, false, .bld [(.int .i64 0), (.int .u8 0), (.int .i64 0), (.int .i64 0)] [(2, 2, (.t 1))]⟩,
  ⟨some 3, none, false, .bld [(.int .i64 0), (.int .i64 0)] [(0, 1, (.c (.int .i64 5400))), (1, 1, (.c (.int .i64 5410)))]⟩,
  ⟨some 4, none, false, .bld [(.int .i64 0), (.int .u8 0), (.int .i64 0), (.int .i64 0)] [(0, 1, (.c (.int .i64 1))), (2, 2, (.t 3))]⟩,
  ⟨some 5, none, false, .bsi 2 4 [(.int .i64 0), (.int .u8 0), (.int .i64 0), (.int .i64 0), (.int .i64 0), (.int .u8 0), (.int .i64 0), (.int .i64 0)] [(0, 4, (.t 2)), (4, 4, (.t 4))]⟩,
  ⟨some 0, none, false, .mv (.t 5)⟩]

def a_law09_Heard : Ann := ⟨[(1, [0]), (0, [])], [], [], [], [], [], [], [], []⟩
def f_law09_Heard : Abs.Fn := ⟨0, [.t 0],
  (.seq (.reg [] f_law09_Heard_r0) (.seq (.reg [0] f_law09_Heard_r1) .ret))⟩

theorem e_law09_Heard_r0 : type_of% f_law09_Heard_r0.eq_1 := by_rfl f_law09_Heard_r0.eq_1
theorem e_law09_Heard_r1 : type_of% f_law09_Heard_r1.eq_1 := by_rfl f_law09_Heard_r1.eq_1
theorem e_law09_Heard : type_of% f_law09_Heard.eq_1 := by_rfl f_law09_Heard.eq_1
theorem ok_law09_Heard : fnC Tryz.prog a_law09_Heard Tryz.f17 = some f_law09_Heard := by kernel_rfl

/-! 18 fumarole/tremor.Magnitude -/
def f_tremor_Magnitude_r0 : List Abs.Op := [
  ⟨some 4, none, false, .boxi (.t 0)⟩,
  ⟨some 5, none, false, .boxi (.t 1)⟩,
  ⟨some 6, none, false, .boxi (.t 2)⟩,
  ⟨some 8, none, false, .mv (.c (.int .i64 0))⟩,
  ⟨some 9, none, false, .mv (.c (.int .i64 0))⟩]

def f_tremor_Magnitude_r1 : List Abs.Op := [
  ⟨some 13, none, false, .ld true 12 (.t 4)⟩,
  ⟨some 14, none, false, .call false (.c (.fn i_tremor_Net_valid [] [])) [(.t 13)]⟩,
  ⟨some 15, none, false, .un .not (.t 14)⟩,
  ⟨some 16, none, false, .mv (.t 15)⟩,
  ⟨some 17, some (16, false), false, .ld true 2 (.t 5)⟩,
  ⟨some 18, some (16, false), false, .call false (.c (.fn i_tremor_Scale_valid [] [])) [(.t 17)]⟩,
  ⟨some 19, some (16, false), false, .un .not (.t 18)⟩,
  ⟨some 20, none, false, .pick (.t 16) (.c (.bool true)) (.t 19)⟩,
  ⟨some 21, none, false, .mv (.t 20)⟩,
  ⟨some 22, some (21, false), false, .ld true 3 (.t 6)⟩,
  ⟨some 23, some (21, false), false, .call false (.c (.fn i_tremor_Point_valid [] [])) [(.t 22)]⟩,
  ⟨some 24, some (21, false), false, .un .not (.t 23)⟩,
  ⟨some 25, none, false, .pick (.t 21) (.c (.bool true)) (.t 24)⟩,
  ⟨some 26, none, false, .mv (.t 25)⟩,
  ⟨some 27, some (26, false), false, .mv (.t 3)⟩,
  ⟨some 28, some (26, false), false, .lenS (.t 27)⟩,
  ⟨some 29, some (26, false), false, .call false (.c (.fn i_tremor_within [] [])) [(.t 28), (.c (.int .i64 1)), (.c (.int .i64 12))]⟩,
  ⟨some 30, some (26, false), false, .un .not (.t 29)⟩,
  ⟨some 31, none, false, .pick (.t 26) (.c (.bool true)) (.t 30)⟩,
  ⟨some 32, none, false, .mv (.t 31)⟩,
  ⟨some 33, some (32, false), false, .mv (.t 3)⟩,
  ⟨some 34, some (32, false), false, .mkf i_tremor_Magnitude_1 [] [(.t 4)]⟩,
  ⟨some 35, some (32, false), false, .call false (.c (.fn i_tremor_all_tremor_Reading [] [])) [(.t 33), (.t 34)]⟩,
  ⟨some 36, some (32, false), false, .un .not (.t 35)⟩,
  ⟨some 37, none, false, .pick (.t 32) (.c (.bool true)) (.t 36)⟩]

def f_tremor_Magnitude_r2 : List Abs.Op := [
  ⟨some 8, none, false, .mv (.c (.int .i64 0))⟩,
  ⟨some 9, none, false, .mv (.c (.int .i64 1))⟩]

def f_tremor_Magnitude_r3 : List Abs.Op := [
  ⟨some 10, none, false, .mv (.c (.int .i64 0))⟩]

def f_tremor_Magnitude_r4 : List Abs.Op := [
  ⟨some 38, none, false, .mv (.t 3)⟩,
  ⟨some 39, none, false, .lenS (.t 38)⟩,
  ⟨some 40, none, false, .mv (.c (.int .i64 0))⟩]

def f_tremor_Magnitude_r5 : List Abs.Op := [
  ⟨some 41, none, false, .bin .lss (.t 40) (.t 39)⟩]

def f_tremor_Magnitude_r6 : List Abs.Op := [
  ⟨some 42, none, false, .idxS 2 (.t 38) (.t 40)⟩,
  ⟨some 43, none, false, .ld true 2 (.t 42)⟩,
  ⟨some 12, none, false, .alcv [] [(.int .i64 0), (.int .i64 0)]⟩,
  ⟨none, none, false, .stv 12 [] 2 12 (.t 43)⟩]

def f_tremor_Magnitude_r7 : List Abs.Op := [
  ⟨some 44, none, true, .mv (.t 10)⟩,
  ⟨some 45, none, true, .ld true 2 (.t 5)⟩,
  ⟨some 46, none, true, .fadr 1 (.t 12)⟩,
  ⟨some 47, none, true, .ldv 12 false 1 46⟩,
  ⟨some 48, none, true, .fadr 0 (.t 4)⟩,
  ⟨some 49, none, true, .ld false 1 (.t 48)⟩,
  ⟨some 50, none, true, .fadr 0 (.t 12)⟩,
  ⟨some 51, none, true, .ldv 12 false 1 50⟩,
  ⟨some 52, none, true, .idxS 4 (.t 49) (.t 51)⟩,
  ⟨some 53, none, true, .fadr 0 (.t 52)⟩,
  ⟨some 54, none, true, .ld true 3 (.t 53)⟩,
  ⟨some 55, none, true, .ld true 3 (.t 6)⟩,
  ⟨some 56, none, true, .call false (.c (.fn i_tremor_Point_far [] [])) [(.t 54), (.t 55)]⟩,
  ⟨some 57, none, true, .call false (.c (.fn i_tremor_Scale_of [] [])) [(.t 45), (.t 47), (.t 56)]⟩,
  ⟨some 58, none, false, .bin .add (.t 44) (.t 57)⟩,
  ⟨some 10, none, false, .mv (.t 58)⟩]

def f_tremor_Magnitude_r8 : List Abs.Op := [
  ⟨some 59, none, false, .bin .add (.t 40) (.c (.int .i64 1))⟩,
  ⟨some 40, none, false, .mv (.t 59)⟩]

def f_tremor_Magnitude_l9 : Abs.Cmd :=
  (.seq (.reg [3, 4, 5, 6, 10, 38, 39, 40, 41] f_tremor_Magnitude_r5) (.seq (.ite (.t 41) .nop (.exit 0)) (.seq (.blk 1 (.seq (.reg [3, 4, 5, 6, 10, 12, 38, 39, 40] f_tremor_Magnitude_r6) (.reg [3, 4, 5, 6, 10, 38, 39, 40] f_tremor_Magnitude_r7))) (.reg [3, 4, 5, 6, 10, 38, 39, 40] f_tremor_Magnitude_r8))))

def f_tremor_Magnitude_r10 : List Abs.Op := [
  ⟨some 60, none, false, .mv (.t 10)⟩,
  ⟨some 61, none, false, .mv (.t 3)⟩,
  ⟨some 62, none, false, .lenS (.t 61)⟩,
  ⟨some 63, none, false, .bin .quo (.t 60) (.t 62)⟩,
  ⟨some 8, none, false, .mv (.t 63)⟩,
  ⟨some 9, none, false, .mv (.c (.int .i64 0))⟩]

def a_tremor_Magnitude : Ann := ⟨[(9, [8, 9]), (8, [3, 4, 5, 6, 10, 38, 39, 40]), (7, [3, 4, 5, 6, 10, 38, 39, 40]), (6, [3, 4, 5, 6, 10, 12, 38, 39, 40]), (5, [3, 4, 5, 6, 10, 38, 39, 40, 41]), (4, [3, 4, 5, 6, 10, 38, 39, 40]), (3, [3, 4, 5, 6, 10]), (2, [8, 9]), (1, [3, 4, 5, 6, 37]), (0, [3, 4, 5, 6])], [(0, [3, 4, 5, 6, 10, 38, 39, 40])], [], [12], [12], [], [], [], []⟩
def f_tremor_Magnitude : Abs.Fn := ⟨4, [.t 8, .t 9],
  (.seq (.reg [3, 4, 5, 6] f_tremor_Magnitude_r0) (.seq (.seq (.reg [3, 4, 5, 6, 37] f_tremor_Magnitude_r1) (.ite (.t 37) (.seq (.reg [8, 9] f_tremor_Magnitude_r2) .ret) .nop)) (.seq (.reg [3, 4, 5, 6, 10] f_tremor_Magnitude_r3) (.seq (.seq (.reg [3, 4, 5, 6, 10, 38, 39, 40] f_tremor_Magnitude_r4) (.blk 0 (.loop [3, 4, 5, 6, 10, 38, 39, 40] false f_tremor_Magnitude_l9))) (.seq (.reg [8, 9] f_tremor_Magnitude_r10) .ret)))))⟩

theorem e_tremor_Magnitude_r0 : type_of% f_tremor_Magnitude_r0.eq_1 := by_rfl f_tremor_Magnitude_r0.eq_1
theorem e_tremor_Magnitude_r1 : type_of% f_tremor_Magnitude_r1.eq_1 := by_rfl f_tremor_Magnitude_r1.eq_1
theorem e_tremor_Magnitude_r2 : type_of% f_tremor_Magnitude_r2.eq_1 := by_rfl f_tremor_Magnitude_r2.eq_1
theorem e_tremor_Magnitude_r3 : type_of% f_tremor_Magnitude_r3.eq_1 := by_rfl f_tremor_Magnitude_r3.eq_1
theorem e_tremor_Magnitude_r4 : type_of% f_tremor_Magnitude_r4.eq_1 := by_rfl f_tremor_Magnitude_r4.eq_1
theorem e_tremor_Magnitude_r5 : type_of% f_tremor_Magnitude_r5.eq_1 := by_rfl f_tremor_Magnitude_r5.eq_1
theorem e_tremor_Magnitude_r6 : type_of% f_tremor_Magnitude_r6.eq_1 := by_rfl f_tremor_Magnitude_r6.eq_1
theorem e_tremor_Magnitude_r7 : type_of% f_tremor_Magnitude_r7.eq_1 := by_rfl f_tremor_Magnitude_r7.eq_1
theorem e_tremor_Magnitude_r8 : type_of% f_tremor_Magnitude_r8.eq_1 := by_rfl f_tremor_Magnitude_r8.eq_1
theorem e_tremor_Magnitude_l9 : type_of% f_tremor_Magnitude_l9.eq_1 := by_rfl f_tremor_Magnitude_l9.eq_1
theorem e_tremor_Magnitude_r10 : type_of% f_tremor_Magnitude_r10.eq_1 := by_rfl f_tremor_Magnitude_r10.eq_1
theorem e_tremor_Magnitude : type_of% f_tremor_Magnitude.eq_1 := by_rfl f_tremor_Magnitude.eq_1
theorem ok_tremor_Magnitude : fnC Tryz.prog a_tremor_Magnitude Tryz.f18 = some f_tremor_Magnitude := by kernel_rfl

end Go.Proofs.YticpenoicajakaaGreat
