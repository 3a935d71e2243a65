/- The code of functions of the program, in the small instruction set; each is what the translation makes of it. -/
import Derived.Test.YtehandllpmlcoaaIds
set_option linter.unusedVariables false
set_option maxRecDepth 100000
namespace Go.Proofs.Ytehandllpmlcoaa
open Go Go.Abs
/-! 4 fumarole/fumaroletop.TopParts -/
def f4r0 : List Abs.Op := [
  ⟨some 6, none, false, .mv (.c (.bool false))⟩]

def f4r1 : List Abs.Op := [
  ⟨some 35, none, false, .mv (.t 0)⟩,
  ⟨some 36, none, false, .lenS (.t 35)⟩,
  ⟨some 7, none, false, .mv (.t 36)⟩]

def f4r2 : List Abs.Op := [
  ⟨some 37, none, false, .mv (.t 7)⟩,
  ⟨some 38, none, false, .bin .lss (.t 37) (.c (.int .i64 1))⟩,
  ⟨some 39, none, false, .mv (.t 38)⟩,
  ⟨some 40, some (39, false), false, .mv (.t 7)⟩,
  ⟨some 41, some (39, false), false, .bin .gtr (.t 40) (.c (.int .i64 8))⟩,
  ⟨some 42, none, false, .pick (.t 39) (.c (.bool true)) (.t 41)⟩,
  ⟨some 43, none, false, .mv (.t 42)⟩,
  ⟨some 44, some (43, false), false, .mv (.t 1)⟩,
  ⟨some 45, some (43, false), false, .lenS (.t 44)⟩,
  ⟨some 46, some (43, false), false, .bin .gtr (.t 45) (.c (.int .i64 4))⟩,
  ⟨some 47, none, false, .pick (.t 43) (.c (.bool true)) (.t 46)⟩]

def f4r3 : List Abs.Op := [
  ⟨some 48, none, false, .call false (.c (.fn i_top_still [] [])) []⟩,
  ⟨some 6, none, false, .mv (.t 48)⟩]

def f4r4 : List Abs.Op := [
  ⟨some 49, none, false, .mv (.t 7)⟩,
  ⟨some 50, none, false, .bld [(.int .i64 0), (.int .i64 0), (.int .i64 0), (.int .i64 0)] [(0, 1, (.t 49)), (1, 1, (.c (.int .i64 1))), (2, 1, (.c (.int .i64 1))), (3, 1, (.c (.int .i64 4)))]⟩,
  ⟨some 51, none, false, .call true (.c (.fn i_law01_Three [] [])) []⟩,
  ⟨some 52, none, false, .bld [(.int .i64 0), (.int .i64 0), (.int .i64 0), (.int .i64 0), .nils, (.int .i64 0), (.int .i64 0), (.int .i64 0), .nils] [(0, 4, (.t 50)), (4, 1, (.t 51)), (5, 1, (.c (.int .i64 10000)))]⟩,
  ⟨some 8, none, false, .alcv [] [(.int .i64 0), (.int .i64 0), (.int .i64 0), (.int .i64 0), .nils, (.int .i64 0), (.int .i64 0), (.int .i64 0), .nils]⟩,
  ⟨none, none, false, .stv 8 [(8, 3)] 9 8 (.t 52)⟩]

def f4r5 : List Abs.Op := [
  ⟨some 53, none, false, .bld [(.str []), .nils] [(0, 1, (.c (.str [109])))]⟩,
  ⟨some 9, none, false, .alcv [] [(.str []), .nils]⟩,
  ⟨none, none, false, .stv 9 [(1, 1)] 2 9 (.t 53)⟩]

def f4r6 : List Abs.Op := [
  ⟨some 10, none, false, .mv (.c (.int .i64 0))⟩]

def f4r7 : List Abs.Op := [
  ⟨some 54, none, false, .mv (.t 10)⟩,
  ⟨some 55, none, false, .bin .lss (.t 54) (.c (.int .i64 4))⟩]

def f4r8 : List Abs.Op := [
  ⟨some 11, none, false, .mv (.c (.int .i64 0))⟩]

def f4r9 : List Abs.Op := [
  ⟨some 58, none, false, .mv (.t 11)⟩,
  ⟨some 59, none, false, .mv (.t 7)⟩,
  ⟨some 60, none, false, .bin .lss (.t 58) (.t 59)⟩]

def f4r10 : List Abs.Op := [
  ⟨some 12, none, false, .mv (.c (.int .i64 0))⟩]

def f4r11 : List Abs.Op := [
  ⟨some 63, none, false, .mv (.t 10)⟩,
  ⟨some 64, none, false, .bin .eql (.t 63) (.c (.int .i64 0))⟩]

def f4r12 : List Abs.Op := [
  ⟨some 12, none, false, .mv (.c (.int .i64 2000))⟩]

def f4r13 : List Abs.Op := [
  ⟨some 65, none, false, .mv (.t 10)⟩,
  ⟨some 66, none, false, .bin .eql (.t 65) (.c (.int .i64 1))⟩,
  ⟨some 67, none, false, .mv (.t 66)⟩,
  ⟨some 68, some (67, true), false, .mv (.t 0)⟩,
  ⟨some 69, some (67, true), false, .mv (.t 11)⟩,
  ⟨some 70, some (67, true), false, .idxS 1 (.t 68) (.t 69)⟩,
  ⟨some 71, some (67, true), false, .ld false 1 (.t 70)⟩,
  ⟨some 72, some (67, true), false, .bin .rem (.t 71) (.c (.int .u8 3))⟩,
  ⟨some 73, some (67, true), false, .bin .gtr (.t 72) (.c (.int .u8 0))⟩,
  ⟨some 74, none, false, .pick (.t 67) (.t 73) (.c (.bool false))⟩]

def f4r14 : List Abs.Op := [
  ⟨some 75, none, false, .mv (.t 0)⟩,
  ⟨some 76, none, false, .mv (.t 11)⟩,
  ⟨some 77, none, false, .idxS 1 (.t 75) (.t 76)⟩,
  ⟨some 78, none, false, .ld false 1 (.t 77)⟩,
  ⟨some 79, none, false, .cvt .i64 (.t 78)⟩,
  ⟨some 80, none, false, .bin .mul (.c (.int .i64 3)) (.t 79)⟩,
  ⟨some 81, none, false, .bin .add (.c (.int .i64 200)) (.t 80)⟩,
  ⟨some 12, none, false, .mv (.t 81)⟩]

def f4r15 : List Abs.Op := [
  ⟨some 82, none, false, .fadr 1 (.t 9)⟩,
  ⟨some 83, none, false, .ldv 9 false 1 82⟩,
  ⟨some 84, none, false, .mv (.t 12)⟩,
  ⟨some 85, none, false, .bsi 1 1 [(.int .i64 0)] [(0, 1, (.t 84))]⟩,
  ⟨some 86, none, false, .app 1 8 (.t 83) (.t 85)⟩,
  ⟨some 87, none, false, .fadr 1 (.t 9)⟩,
  ⟨none, none, false, .stv 9 [(0, 1)] 1 87 (.t 86)⟩]

def f4r16 : List Abs.Op := [
  ⟨some 61, none, false, .mv (.t 11)⟩,
  ⟨some 62, none, false, .bin .add (.t 61) (.c (.int .i64 1))⟩,
  ⟨some 11, none, false, .mv (.t 62)⟩]

def f_top_TopParts_l17 : Abs.Cmd :=
  (.seq (.seq (.reg [0, 1, 2, 7, 8, 9, 10, 11, 60] f4r9) (.ite (.t 60) .nop (.exit 2))) (.seq (.blk 3 (.seq (.reg [0, 1, 2, 7, 8, 9, 10, 11, 12] f4r10) (.seq (.seq (.reg [0, 1, 2, 7, 8, 9, 10, 11, 12, 64] f4r11) (.ite (.t 64) (.reg [0, 1, 2, 7, 8, 9, 10, 11, 12] f4r12) .nop)) (.seq (.seq (.reg [0, 1, 2, 7, 8, 9, 10, 11, 12, 74] f4r13) (.ite (.t 74) (.reg [0, 1, 2, 7, 8, 9, 10, 11, 12] f4r14) .nop)) (.reg [0, 1, 2, 7, 8, 9, 10, 11] f4r15))))) (.reg [0, 1, 2, 7, 8, 9, 10, 11] f4r16)))

def f4r18 : List Abs.Op := [
  ⟨some 56, none, false, .mv (.t 10)⟩,
  ⟨some 57, none, false, .bin .add (.t 56) (.c (.int .i64 1))⟩,
  ⟨some 10, none, false, .mv (.t 57)⟩]

def f_top_TopParts_l19 : Abs.Cmd :=
  (.seq (.seq (.reg [0, 1, 2, 7, 8, 9, 10, 55] f4r7) (.ite (.t 55) .nop (.exit 0))) (.seq (.blk 1 (.seq (.reg [0, 1, 2, 7, 8, 9, 10, 11] f4r8) (.blk 2 (.loop [0, 1, 2, 7, 8, 9, 10, 11] false f_top_TopParts_l17)))) (.reg [0, 1, 2, 7, 8, 9, 10] f4r18)))

def f4r20 : List Abs.Op := [
  ⟨some 88, none, false, .mv (.t 7)⟩,
  ⟨some 89, none, false, .mks 1 8 [(.int .i64 0)] (.t 88) (.t 88)⟩,
  ⟨some 13, none, false, .mv (.t 89)⟩]

def f4r21 : List Abs.Op := [
  ⟨some 14, none, false, .mv (.c (.int .i64 0))⟩]

def f4r22 : List Abs.Op := [
  ⟨some 90, none, false, .mv (.t 14)⟩,
  ⟨some 91, none, false, .mv (.t 7)⟩,
  ⟨some 92, none, false, .bin .lss (.t 90) (.t 91)⟩]

def f4r23 : List Abs.Op := [
  ⟨some 95, none, false, .fadr 8 (.t 8)⟩,
  ⟨some 96, none, false, .ldv 8 false 1 95⟩,
  ⟨some 97, none, false, .mv (.t 14)⟩,
  ⟨some 98, none, false, .bld [(.int .i64 0), (.int .i64 0), (.int .i64 0)] [(0, 1, (.t 97))]⟩,
  ⟨some 99, none, false, .bsi 1 3 [(.int .i64 0), (.int .i64 0), (.int .i64 0)] [(0, 3, (.t 98))]⟩,
  ⟨some 100, none, false, .app 3 24 (.t 96) (.t 99)⟩,
  ⟨some 101, none, false, .fadr 8 (.t 8)⟩,
  ⟨none, none, false, .stv 8 [(0, 3)] 1 101 (.t 100)⟩]

def f4r24 : List Abs.Op := [
  ⟨some 102, none, false, .mv (.t 14)⟩,
  ⟨some 103, none, false, .bin .gtr (.t 102) (.c (.int .i64 0))⟩]

def f4r25 : List Abs.Op := [
  ⟨some 104, none, false, .mv (.t 13)⟩,
  ⟨some 105, none, false, .mv (.t 14)⟩,
  ⟨some 106, none, false, .mv (.t 13)⟩,
  ⟨some 107, none, false, .mv (.t 14)⟩,
  ⟨some 108, none, false, .bin .sub (.t 107) (.c (.int .i64 1))⟩,
  ⟨some 109, none, false, .idxS 1 (.t 106) (.t 108)⟩,
  ⟨some 110, none, false, .ld false 1 (.t 109)⟩,
  ⟨some 111, none, false, .idxS 1 (.t 104) (.t 105)⟩,
  ⟨none, none, false, .st [] 1 (.t 111) (.t 110)⟩]

def f4r26 : List Abs.Op := [
  ⟨some 112, none, false, .mv (.t 0)⟩,
  ⟨some 113, none, false, .mv (.t 14)⟩,
  ⟨some 114, none, false, .idxS 1 (.t 112) (.t 113)⟩,
  ⟨some 115, none, false, .ld false 1 (.t 114)⟩,
  ⟨some 116, none, false, .bin .rem (.t 115) (.c (.int .u8 3))⟩,
  ⟨some 117, none, false, .bin .eql (.t 116) (.c (.int .u8 0))⟩,
  ⟨some 118, none, false, .mv (.t 117)⟩,
  ⟨some 119, some (118, false), false, .mv (.t 0)⟩,
  ⟨some 120, some (118, false), false, .mv (.t 14)⟩,
  ⟨some 121, some (118, false), false, .bin .sub (.t 120) (.c (.int .i64 1))⟩,
  ⟨some 122, some (118, false), false, .idxS 1 (.t 119) (.t 121)⟩,
  ⟨some 123, some (118, false), false, .ld false 1 (.t 122)⟩,
  ⟨some 124, some (118, false), false, .bin .rem (.t 123) (.c (.int .u8 3))⟩,
  ⟨some 125, some (118, false), false, .bin .eql (.t 124) (.c (.int .u8 0))⟩,
  ⟨some 126, none, false, .pick (.t 118) (.c (.bool true)) (.t 125)⟩]

def f4r27 : List Abs.Op := [
  ⟨some 127, none, false, .mv (.t 13)⟩,
  ⟨some 128, none, false, .mv (.t 14)⟩,
  ⟨some 129, none, false, .idxS 1 (.t 127) (.t 128)⟩,
  ⟨some 130, none, false, .ld false 1 (.t 129)⟩,
  ⟨some 131, none, false, .bin .add (.t 130) (.c (.int .i64 1))⟩,
  ⟨some 132, none, false, .idxS 1 (.t 127) (.t 128)⟩,
  ⟨none, none, false, .st [] 1 (.t 132) (.t 131)⟩]

def f4r28 : List Abs.Op := [
  ⟨some 93, none, false, .mv (.t 14)⟩,
  ⟨some 94, none, false, .bin .add (.t 93) (.c (.int .i64 1))⟩,
  ⟨some 14, none, false, .mv (.t 94)⟩]

def f_top_TopParts_l29 : Abs.Cmd :=
  (.seq (.seq (.reg [0, 1, 2, 7, 8, 9, 13, 14, 92] f4r22) (.ite (.t 92) .nop (.exit 4))) (.seq (.blk 5 (.seq (.reg [0, 1, 2, 7, 8, 9, 13, 14] f4r23) (.seq (.reg [0, 1, 2, 7, 8, 9, 13, 14, 103] f4r24) (.ite (.t 103) (.seq (.reg [0, 1, 2, 7, 8, 9, 13, 14] f4r25) (.seq (.reg [0, 1, 2, 7, 8, 9, 13, 14, 126] f4r26) (.ite (.t 126) (.reg [0, 1, 2, 7, 8, 9, 13, 14] f4r27) .nop))) .nop)))) (.reg [0, 1, 2, 7, 8, 9, 13, 14] f4r28)))

def f4r30 : List Abs.Op := [
  ⟨some 15, none, false, .nilb 1⟩]

def f4r31 : List Abs.Op := [
  ⟨some 16, none, false, .mv (.c (.int .i64 0))⟩]

def f4r32 : List Abs.Op := [
  ⟨some 133, none, false, .mv (.t 16)⟩,
  ⟨some 134, none, false, .mv (.t 2)⟩,
  ⟨some 135, none, false, .cvt .i64 (.t 134)⟩,
  ⟨some 136, none, false, .bin .rem (.t 135) (.c (.int .i64 6))⟩,
  ⟨some 137, none, false, .bin .leq (.t 133) (.t 136)⟩]

def f4r33 : List Abs.Op := [
  ⟨some 140, none, false, .mv (.t 15)⟩,
  ⟨some 141, none, false, .mv (.t 7)⟩,
  ⟨some 142, none, false, .mks 1 8 [(.int .i64 0)] (.t 141) (.t 141)⟩,
  ⟨some 143, none, false, .bsi 1 1 [.nils] [(0, 1, (.t 142))]⟩,
  ⟨some 144, none, false, .app 1 24 (.t 140) (.t 143)⟩,
  ⟨some 15, none, false, .mv (.t 144)⟩]

def f4r34 : List Abs.Op := [
  ⟨some 138, none, false, .mv (.t 16)⟩,
  ⟨some 139, none, false, .bin .add (.t 138) (.c (.int .i64 1))⟩,
  ⟨some 16, none, false, .mv (.t 139)⟩]

def f_top_TopParts_l35 : Abs.Cmd :=
  (.seq (.seq (.reg [1, 2, 7, 8, 9, 13, 15, 16, 137] f4r32) (.ite (.t 137) .nop (.exit 6))) (.seq (.blk 7 (.reg [1, 2, 7, 8, 9, 13, 15, 16] f4r33)) (.reg [1, 2, 7, 8, 9, 13, 15, 16] f4r34)))

def f4r36 : List Abs.Op := [
  ⟨some 146, none, true, .ldv 8 true 9 8⟩,
  ⟨some 147, none, true, .ldv 9 true 2 9⟩,
  ⟨some 148, none, true, .mv (.t 15)⟩,
  ⟨some 149, none, true, .call false (.c (.fn i_law05_Plan [] [])) [(.t 148)]⟩,
  ⟨some 150, none, true, .call false (.c (.fn i_rock_Play [] [])) [(.t 146), (.t 147), (.t 149)]⟩,
  ⟨some 145, none, true, .mv (.t 150)⟩,
  ⟨some 151, none, true, .ext (.t 145) 0⟩,
  ⟨some 152, none, true, .ext (.t 145) 1⟩,
  ⟨some 17, none, true, .alcv [] [.nils, .nils]⟩,
  ⟨none, none, true, .stv 17 [] 2 17 (.t 151)⟩,
  ⟨some 18, none, false, .mv (.t 152)⟩]

def f4r37 : List Abs.Op := [
  ⟨some 153, none, false, .mv (.t 18)⟩,
  ⟨some 154, none, false, .bin .neq (.t 153) (.c (.int .i64 0))⟩,
  ⟨some 155, none, false, .mv (.t 154)⟩,
  ⟨some 156, some (155, false), false, .fadr 0 (.t 17)⟩,
  ⟨some 157, some (155, false), false, .ldv 17 false 1 156⟩,
  ⟨some 158, some (155, false), false, .lenS (.t 157)⟩,
  ⟨some 159, some (155, false), false, .mv (.t 15)⟩,
  ⟨some 160, some (155, false), false, .lenS (.t 159)⟩,
  ⟨some 161, some (155, false), false, .bin .add (.t 160) (.c (.int .i64 1))⟩,
  ⟨some 162, some (155, false), false, .bin .neq (.t 158) (.t 161)⟩,
  ⟨some 163, none, false, .pick (.t 155) (.c (.bool true)) (.t 162)⟩]

def f4r38 : List Abs.Op := [
  ⟨some 6, none, false, .mv (.c (.bool false))⟩]

def f4r39 : List Abs.Op := [
  ⟨some 165, none, true, .ldv 8 true 9 8⟩,
  ⟨some 166, none, true, .ldv 9 true 2 9⟩,
  ⟨some 167, none, true, .fadr 0 (.t 17)⟩,
  ⟨some 168, none, true, .ldv 17 false 1 167⟩,
  ⟨some 169, none, true, .mv (.t 15)⟩,
  ⟨some 170, none, true, .lenS (.t 169)⟩,
  ⟨some 171, none, true, .idxS 1 (.t 168) (.t 170)⟩,
  ⟨some 172, none, true, .ld false 1 (.t 171)⟩,
  ⟨some 173, none, true, .call false (.c (.fn i_rock_Pressures [] [])) [(.t 165), (.t 166), (.t 172)]⟩,
  ⟨some 164, none, true, .mv (.t 173)⟩,
  ⟨some 174, none, true, .ext (.t 164) 0⟩,
  ⟨some 175, none, true, .ext (.t 164) 1⟩,
  ⟨some 19, none, true, .mv (.t 174)⟩,
  ⟨some 20, none, false, .mv (.t 175)⟩]

def f4r40 : List Abs.Op := [
  ⟨some 176, none, false, .mv (.t 20)⟩,
  ⟨some 177, none, false, .bin .neq (.t 176) (.c (.int .i64 0))⟩,
  ⟨some 178, none, false, .mv (.t 177)⟩,
  ⟨some 179, some (178, false), false, .mv (.t 19)⟩,
  ⟨some 180, some (178, false), false, .lenS (.t 179)⟩,
  ⟨some 181, some (178, false), false, .mv (.t 7)⟩,
  ⟨some 182, some (178, false), false, .bin .neq (.t 180) (.t 181)⟩,
  ⟨some 183, none, false, .pick (.t 178) (.c (.bool true)) (.t 182)⟩]

def f4r41 : List Abs.Op := [
  ⟨some 6, none, false, .mv (.c (.bool false))⟩]

def f4r42 : List Abs.Op := [
  ⟨some 184, none, false, .mv (.t 7)⟩,
  ⟨some 185, none, false, .bld [(.int .i64 0), (.int .i64 0), .nils] [(0, 1, (.t 184)), (1, 1, (.c (.int .i64 1)))]⟩,
  ⟨some 21, none, false, .alcv [] [(.int .i64 0), (.int .i64 0), .nils]⟩,
  ⟨none, none, false, .stv 21 [(2, 4)] 3 21 (.t 185)⟩]

def f4r43 : List Abs.Op := [
  ⟨some 22, none, false, .mv (.c (.int .i64 0))⟩]

def f4r44 : List Abs.Op := [
  ⟨some 186, none, false, .mv (.t 22)⟩,
  ⟨some 187, none, false, .mv (.t 1)⟩,
  ⟨some 188, none, false, .lenS (.t 187)⟩,
  ⟨some 189, none, false, .bin .lss (.t 186) (.t 188)⟩]

def f4r45 : List Abs.Op := [
  ⟨some 192, none, false, .mv (.t 1)⟩,
  ⟨some 193, none, false, .mv (.t 22)⟩,
  ⟨some 194, none, false, .idxS 1 (.t 192) (.t 193)⟩,
  ⟨some 195, none, false, .ld false 1 (.t 194)⟩,
  ⟨some 196, none, false, .cvt .i64 (.t 195)⟩,
  ⟨some 197, none, false, .mv (.t 7)⟩,
  ⟨some 198, none, false, .bin .rem (.t 196) (.t 197)⟩,
  ⟨some 23, none, false, .mv (.t 198)⟩]

def f4r46 : List Abs.Op := [
  ⟨some 199, none, false, .mv (.t 15)⟩,
  ⟨some 200, none, false, .call true (.c (.fn i_law05_Plan [] [])) [(.t 199)]⟩,
  ⟨some 24, none, false, .mv (.t 200)⟩]

def f4r47 : List Abs.Op := [
  ⟨some 201, none, false, .mv (.t 24)⟩,
  ⟨some 202, none, false, .idxS 1 (.t 201) (.c (.int .i64 0))⟩,
  ⟨some 203, none, false, .ld false 1 (.t 202)⟩,
  ⟨some 204, none, false, .mv (.t 23)⟩,
  ⟨some 205, none, false, .idxS 1 (.t 203) (.t 204)⟩,
  ⟨none, none, false, .st [] 1 (.t 205) (.c (.int .i64 (-2000)))⟩]

def f4r48 : List Abs.Op := [
  ⟨some 207, none, false, .ldv 8 true 9 8⟩,
  ⟨some 208, none, false, .ldv 9 true 2 9⟩,
  ⟨some 209, none, false, .mv (.t 24)⟩,
  ⟨some 210, none, false, .call false (.c (.fn i_rock_Play [] [])) [(.t 207), (.t 208), (.t 209)]⟩,
  ⟨some 206, none, false, .mv (.t 210)⟩,
  ⟨some 211, none, false, .ext (.t 206) 0⟩,
  ⟨some 212, none, false, .ext (.t 206) 1⟩,
  ⟨some 25, none, false, .alcv [] [.nils, .nils]⟩,
  ⟨none, none, false, .stv 25 [] 2 25 (.t 211)⟩,
  ⟨some 26, none, false, .mv (.t 212)⟩]

def f4r49 : List Abs.Op := [
  ⟨some 213, none, false, .mv (.t 26)⟩,
  ⟨some 214, none, false, .bin .neq (.t 213) (.c (.int .i64 0))⟩,
  ⟨some 215, none, false, .mv (.t 214)⟩,
  ⟨some 216, some (215, false), false, .fadr 0 (.t 25)⟩,
  ⟨some 217, some (215, false), false, .ldv 25 false 1 216⟩,
  ⟨some 218, some (215, false), false, .lenS (.t 217)⟩,
  ⟨some 219, some (215, false), false, .mv (.t 24)⟩,
  ⟨some 220, some (215, false), false, .lenS (.t 219)⟩,
  ⟨some 221, some (215, false), false, .bin .add (.t 220) (.c (.int .i64 1))⟩,
  ⟨some 222, some (215, false), false, .bin .neq (.t 218) (.t 221)⟩,
  ⟨some 223, none, false, .pick (.t 215) (.c (.bool true)) (.t 222)⟩]

def f4r50 : List Abs.Op := [
  ⟨some 6, none, false, .mv (.c (.bool false))⟩]

def f4r51 : List Abs.Op := [
  ⟨some 225, none, true, .ldv 8 true 9 8⟩,
  ⟨some 226, none, true, .ldv 9 true 2 9⟩,
  ⟨some 227, none, true, .fadr 0 (.t 25)⟩,
  ⟨some 228, none, true, .ldv 25 false 1 227⟩,
  ⟨some 229, none, true, .mv (.t 24)⟩,
  ⟨some 230, none, true, .lenS (.t 229)⟩,
  ⟨some 231, none, true, .idxS 1 (.t 228) (.t 230)⟩,
  ⟨some 232, none, true, .ld false 1 (.t 231)⟩,
  ⟨some 233, none, true, .call false (.c (.fn i_rock_Pressures [] [])) [(.t 225), (.t 226), (.t 232)]⟩,
  ⟨some 224, none, true, .mv (.t 233)⟩,
  ⟨some 234, none, true, .ext (.t 224) 0⟩,
  ⟨some 235, none, true, .ext (.t 224) 1⟩,
  ⟨some 27, none, true, .mv (.t 234)⟩,
  ⟨some 28, none, false, .mv (.t 235)⟩]

def f4r52 : List Abs.Op := [
  ⟨some 236, none, false, .mv (.t 28)⟩,
  ⟨some 237, none, false, .bin .neq (.t 236) (.c (.int .i64 0))⟩,
  ⟨some 238, none, false, .mv (.t 237)⟩,
  ⟨some 239, some (238, false), false, .mv (.t 27)⟩,
  ⟨some 240, some (238, false), false, .lenS (.t 239)⟩,
  ⟨some 241, some (238, false), false, .mv (.t 7)⟩,
  ⟨some 242, some (238, false), false, .bin .neq (.t 240) (.t 241)⟩,
  ⟨some 243, none, false, .pick (.t 238) (.c (.bool true)) (.t 242)⟩]

def f4r53 : List Abs.Op := [
  ⟨some 6, none, false, .mv (.c (.bool false))⟩]

def f4r54 : List Abs.Op := [
  ⟨some 29, none, false, .mv (.c (.int .i64 0))⟩]

def f4r55 : List Abs.Op := [
  ⟨some 244, none, false, .mv (.t 29)⟩,
  ⟨some 245, none, false, .mv (.t 7)⟩,
  ⟨some 246, none, false, .bin .lss (.t 244) (.t 245)⟩]

def f4r56 : List Abs.Op := [
  ⟨some 249, none, true, .mv (.t 27)⟩,
  ⟨some 250, none, true, .mv (.t 29)⟩,
  ⟨some 251, none, true, .idxS 1 (.t 249) (.t 250)⟩,
  ⟨some 252, none, true, .ld false 1 (.t 251)⟩,
  ⟨some 253, none, true, .mv (.t 19)⟩,
  ⟨some 254, none, true, .mv (.t 29)⟩,
  ⟨some 255, none, true, .idxS 1 (.t 253) (.t 254)⟩,
  ⟨some 256, none, true, .ld false 1 (.t 255)⟩,
  ⟨some 257, none, true, .bin .sub (.t 252) (.t 256)⟩,
  ⟨some 258, none, true, .mv (.t 19)⟩,
  ⟨some 259, none, true, .mv (.t 29)⟩,
  ⟨some 260, none, true, .idxS 1 (.t 258) (.t 259)⟩,
  ⟨some 261, none, true, .ld false 1 (.t 260)⟩,
  ⟨some 262, none, true, .mv (.t 27)⟩,
  ⟨some 263, none, true, .mv (.t 29)⟩,
  ⟨some 264, none, true, .idxS 1 (.t 262) (.t 263)⟩,
  ⟨some 265, none, true, .ld false 1 (.t 264)⟩,
  ⟨some 266, none, true, .bin .sub (.t 261) (.t 265)⟩,
  ⟨some 267, none, false, .mx (.t 257) (.t 266)⟩,
  ⟨some 30, none, false, .mv (.t 267)⟩]

def f4r57 : List Abs.Op := [
  ⟨some 268, none, false, .mv (.t 29)⟩,
  ⟨some 269, none, false, .mv (.t 23)⟩,
  ⟨some 270, none, false, .bin .neq (.t 268) (.t 269)⟩,
  ⟨some 271, none, false, .mv (.t 270)⟩,
  ⟨some 272, some (271, true), false, .mv (.t 30)⟩,
  ⟨some 273, some (271, true), false, .bin .gtr (.t 272) (.c (.int .i64 0))⟩,
  ⟨some 274, none, false, .pick (.t 271) (.t 273) (.c (.bool false))⟩]

def f4r58 : List Abs.Op := [
  ⟨some 275, none, false, .fadr 2 (.t 21)⟩,
  ⟨some 276, none, false, .ldv 21 false 1 275⟩,
  ⟨some 277, none, false, .mv (.t 23)⟩,
  ⟨some 278, none, false, .mv (.t 29)⟩,
  ⟨some 279, none, false, .mv (.t 30)⟩,
  ⟨some 280, none, false, .mv (.t 30)⟩,
  ⟨some 281, none, false, .bld [(.int .i64 0), (.int .i64 0)] [(0, 1, (.t 279)), (1, 1, (.t 280))]⟩,
  ⟨some 282, none, false, .bld [(.int .i64 0), (.int .i64 0), (.int .i64 0), (.int .i64 0)] [(0, 1, (.t 277)), (1, 1, (.t 278)), (2, 2, (.t 281))]⟩,
  ⟨some 283, none, false, .bsi 1 4 [(.int .i64 0), (.int .i64 0), (.int .i64 0), (.int .i64 0)] [(0, 4, (.t 282))]⟩,
  ⟨some 284, none, false, .app 4 32 (.t 276) (.t 283)⟩,
  ⟨some 285, none, false, .fadr 2 (.t 21)⟩,
  ⟨none, none, false, .stv 21 [(0, 4)] 1 285 (.t 284)⟩]

def f4r59 : List Abs.Op := [
  ⟨some 247, none, false, .mv (.t 29)⟩,
  ⟨some 248, none, false, .bin .add (.t 247) (.c (.int .i64 1))⟩,
  ⟨some 29, none, false, .mv (.t 248)⟩]

def f_top_TopParts_l60 : Abs.Cmd :=
  (.seq (.seq (.reg [1, 7, 8, 9, 13, 15, 19, 21, 22, 23, 27, 29, 246] f4r55) (.ite (.t 246) .nop (.exit 10))) (.seq (.blk 11 (.seq (.reg [1, 7, 8, 9, 13, 15, 19, 21, 22, 23, 27, 29, 30] f4r56) (.seq (.reg [1, 7, 8, 9, 13, 15, 19, 21, 22, 23, 27, 29, 30, 274] f4r57) (.ite (.t 274) (.reg [1, 7, 8, 9, 13, 15, 19, 21, 22, 23, 27, 29] f4r58) .nop)))) (.reg [1, 7, 8, 9, 13, 15, 19, 21, 22, 23, 27, 29] f4r59)))

def f4r61 : List Abs.Op := [
  ⟨some 190, none, false, .mv (.t 22)⟩,
  ⟨some 191, none, false, .bin .add (.t 190) (.c (.int .i64 1))⟩,
  ⟨some 22, none, false, .mv (.t 191)⟩]

def f_top_TopParts_l62 : Abs.Cmd :=
  (.seq (.seq (.reg [1, 7, 8, 9, 13, 15, 19, 21, 22, 189] f4r44) (.ite (.t 189) .nop (.exit 8))) (.seq (.blk 9 (.seq (.reg [1, 7, 8, 9, 13, 15, 19, 21, 22, 23] f4r45) (.seq (.reg [1, 7, 8, 9, 13, 15, 19, 21, 22, 23, 24] f4r46) (.seq (.reg [1, 7, 8, 9, 13, 15, 19, 21, 22, 23, 24] f4r47) (.seq (.seq (.frz [24]) (.reg [1, 7, 8, 9, 13, 15, 19, 21, 22, 23, 24, 25, 26] f4r48)) (.seq (.seq (.reg [1, 7, 8, 9, 13, 15, 19, 21, 22, 23, 24, 25, 223] f4r49) (.ite (.t 223) (.seq (.reg [6] f4r50) .ret) .nop)) (.seq (.reg [1, 7, 8, 9, 13, 15, 19, 21, 22, 23, 27, 28] f4r51) (.seq (.seq (.reg [1, 7, 8, 9, 13, 15, 19, 21, 22, 23, 27, 243] f4r52) (.ite (.t 243) (.seq (.reg [6] f4r53) .ret) .nop)) (.seq (.reg [1, 7, 8, 9, 13, 15, 19, 21, 22, 23, 27, 29] f4r54) (.blk 10 (.loop [1, 7, 8, 9, 13, 15, 19, 21, 22, 23, 27, 29] false f_top_TopParts_l60))))))))))) (.reg [1, 7, 8, 9, 13, 15, 19, 21, 22] f4r61)))

def f4r63 : List Abs.Op := [
  ⟨some 286, none, false, .ldv 21 true 3 21⟩,
  ⟨some 287, none, false, .mv (.t 13)⟩,
  ⟨some 288, none, false, .call false (.c (.fn i_trial_Fits [] [])) [(.t 286), (.t 287)]⟩,
  ⟨some 289, none, false, .un .not (.t 288)⟩]

def f4r64 : List Abs.Op := [
  ⟨some 6, none, false, .mv (.c (.bool false))⟩]

def f4r65 : List Abs.Op := [
  ⟨some 291, none, false, .ldv 21 true 3 21⟩,
  ⟨some 292, none, false, .call false (.c (.fn i_trial_Relations [] [])) [(.t 291)]⟩,
  ⟨some 290, none, false, .mv (.t 292)⟩,
  ⟨some 293, none, false, .ext (.t 290) 0⟩,
  ⟨some 294, none, false, .ext (.t 290) 1⟩,
  ⟨some 31, none, false, .mv (.t 293)⟩,
  ⟨some 32, none, false, .mv (.t 294)⟩]

def f4r66 : List Abs.Op := [
  ⟨some 295, none, false, .mv (.t 32)⟩,
  ⟨some 296, none, false, .bin .neq (.t 295) (.c (.int .i64 0))⟩,
  ⟨some 297, none, false, .mv (.t 296)⟩,
  ⟨some 298, some (297, false), false, .mv (.t 31)⟩,
  ⟨some 299, some (297, false), false, .lenS (.t 298)⟩,
  ⟨some 300, some (297, false), false, .mv (.t 7)⟩,
  ⟨some 301, some (297, false), false, .bin .neq (.t 299) (.t 300)⟩,
  ⟨some 302, none, false, .pick (.t 297) (.c (.bool true)) (.t 301)⟩]

def f4r67 : List Abs.Op := [
  ⟨some 6, none, false, .mv (.c (.bool false))⟩]

def f4r68 : List Abs.Op := [
  ⟨some 33, none, false, .mv (.c (.int .i64 0))⟩]

def f4r69 : List Abs.Op := [
  ⟨some 303, none, false, .mv (.t 33)⟩,
  ⟨some 304, none, false, .mv (.t 7)⟩,
  ⟨some 305, none, false, .bin .lss (.t 303) (.t 304)⟩]

def f4r70 : List Abs.Op := [
  ⟨some 308, none, false, .mv (.t 31)⟩,
  ⟨some 309, none, false, .mv (.t 33)⟩,
  ⟨some 310, none, false, .idxS 1 (.t 308) (.t 309)⟩,
  ⟨some 311, none, false, .ld false 1 (.t 310)⟩,
  ⟨some 312, none, false, .lenS (.t 311)⟩,
  ⟨some 313, none, false, .mv (.t 7)⟩,
  ⟨some 314, none, false, .bin .neq (.t 312) (.t 313)⟩]

def f4r71 : List Abs.Op := [
  ⟨some 6, none, false, .mv (.c (.bool false))⟩]

def f4r72 : List Abs.Op := [
  ⟨some 34, none, false, .mv (.c (.int .i64 0))⟩]

def f4r73 : List Abs.Op := [
  ⟨some 315, none, false, .mv (.t 34)⟩,
  ⟨some 316, none, false, .mv (.t 7)⟩,
  ⟨some 317, none, false, .bin .lss (.t 315) (.t 316)⟩]

def f4r74 : List Abs.Op := [
  ⟨some 320, none, true, .mv (.t 31)⟩,
  ⟨some 321, none, true, .mv (.t 33)⟩,
  ⟨some 322, none, true, .idxS 1 (.t 320) (.t 321)⟩,
  ⟨some 323, none, true, .ld false 1 (.t 322)⟩,
  ⟨some 324, none, true, .mv (.t 34)⟩,
  ⟨some 325, none, true, .idxS 1 (.t 323) (.t 324)⟩,
  ⟨some 326, none, true, .ld false 1 (.t 325)⟩,
  ⟨some 327, none, true, .bin .eql (.t 326) (.c (.int .u8 2))⟩,
  ⟨some 328, none, true, .mv (.t 327)⟩,
  ⟨some 329, some (328, true), true, .mv (.t 13)⟩,
  ⟨some 330, some (328, true), true, .mv (.t 33)⟩,
  ⟨some 331, some (328, true), true, .idxS 1 (.t 329) (.t 330)⟩,
  ⟨some 332, some (328, true), true, .ld false 1 (.t 331)⟩,
  ⟨some 333, some (328, true), true, .mv (.t 13)⟩,
  ⟨some 334, some (328, true), true, .mv (.t 34)⟩,
  ⟨some 335, some (328, true), true, .idxS 1 (.t 333) (.t 334)⟩,
  ⟨some 336, some (328, true), true, .ld false 1 (.t 335)⟩,
  ⟨some 337, some (328, true), true, .bin .neq (.t 332) (.t 336)⟩,
  ⟨some 338, none, true, .pick (.t 328) (.t 337) (.c (.bool false))⟩,
  ⟨some 339, none, true, .mv (.t 338)⟩,
  ⟨some 340, some (339, false), true, .mv (.t 31)⟩,
  ⟨some 341, some (339, false), true, .mv (.t 33)⟩,
  ⟨some 342, some (339, false), true, .idxS 1 (.t 340) (.t 341)⟩,
  ⟨some 343, some (339, false), true, .ld false 1 (.t 342)⟩,
  ⟨some 344, some (339, false), true, .mv (.t 34)⟩,
  ⟨some 345, some (339, false), false, .idxS 1 (.t 343) (.t 344)⟩,
  ⟨some 346, some (339, false), false, .ld false 1 (.t 345)⟩,
  ⟨some 347, some (339, false), false, .bin .eql (.t 346) (.c (.int .u8 0))⟩,
  ⟨some 348, none, false, .pick (.t 339) (.c (.bool true)) (.t 347)⟩]

def f4r75 : List Abs.Op := [
  ⟨some 6, none, false, .mv (.c (.bool false))⟩]

def f4r76 : List Abs.Op := [
  ⟨some 318, none, false, .mv (.t 34)⟩,
  ⟨some 319, none, false, .bin .add (.t 318) (.c (.int .i64 1))⟩,
  ⟨some 34, none, false, .mv (.t 319)⟩]

def f_top_TopParts_l77 : Abs.Cmd :=
  (.seq (.seq (.reg [7, 13, 31, 33, 34, 317] f4r73) (.ite (.t 317) .nop (.exit 14))) (.seq (.blk 15 (.seq (.reg [7, 13, 31, 33, 34, 348] f4r74) (.ite (.t 348) (.seq (.reg [6] f4r75) .ret) .nop))) (.reg [7, 13, 31, 33, 34] f4r76)))

def f4r78 : List Abs.Op := [
  ⟨some 306, none, false, .mv (.t 33)⟩,
  ⟨some 307, none, false, .bin .add (.t 306) (.c (.int .i64 1))⟩,
  ⟨some 33, none, false, .mv (.t 307)⟩]

def f_top_TopParts_l79 : Abs.Cmd :=
  (.seq (.seq (.reg [7, 13, 31, 33, 305] f4r69) (.ite (.t 305) .nop (.exit 12))) (.seq (.blk 13 (.seq (.seq (.reg [7, 13, 31, 33, 314] f4r70) (.ite (.t 314) (.seq (.reg [6] f4r71) .ret) .nop)) (.seq (.reg [7, 13, 31, 33, 34] f4r72) (.blk 14 (.loop [7, 13, 31, 33, 34] false f_top_TopParts_l77))))) (.reg [7, 13, 31, 33] f4r78)))

def f4r80 : List Abs.Op := [
  ⟨some 349, none, false, .call false (.c (.fn i_top_still [] [])) []⟩,
  ⟨some 6, none, false, .mv (.t 349)⟩]

def a_top_TopParts : Ann := ⟨[(72, [6]), (64, [7, 13, 31, 33]), (69, [7, 13, 31, 33, 34]), (71, [6]), (70, [7, 13, 31, 33, 34, 348]), (68, [7, 13, 31, 33, 34, 317]), (67, [7, 13, 31, 33, 34]), (66, [6]), (65, [7, 13, 31, 33, 314]), (63, [7, 13, 31, 33, 305]), (62, [7, 13, 31, 33]), (61, [6]), (60, [7, 13, 31, 302]), (59, [7, 13, 31, 32]), (58, [6]), (57, [7, 13, 21, 289]), (41, [1, 7, 8, 9, 13, 15, 19, 21, 22]), (53, [1, 7, 8, 9, 13, 15, 19, 21, 22, 23, 27, 29]), (56, [1, 7, 8, 9, 13, 15, 19, 21, 22, 23, 27, 29]), (55, [1, 7, 8, 9, 13, 15, 19, 21, 22, 23, 27, 29, 30, 274]), (54, [1, 7, 8, 9, 13, 15, 19, 21, 22, 23, 27, 29, 30]), (52, [1, 7, 8, 9, 13, 15, 19, 21, 22, 23, 27, 29, 246]), (51, [1, 7, 8, 9, 13, 15, 19, 21, 22, 23, 27, 29]), (50, [6]), (49, [1, 7, 8, 9, 13, 15, 19, 21, 22, 23, 27, 243]), (48, [1, 7, 8, 9, 13, 15, 19, 21, 22, 23, 27, 28]), (47, [6]), (46, [1, 7, 8, 9, 13, 15, 19, 21, 22, 23, 24, 25, 223]), (45, [1, 7, 8, 9, 13, 15, 19, 21, 22, 23, 24, 25, 26]), (44, [1, 7, 8, 9, 13, 15, 19, 21, 22, 23, 24]), (43, [1, 7, 8, 9, 13, 15, 19, 21, 22, 23, 24]), (42, [1, 7, 8, 9, 13, 15, 19, 21, 22, 23]), (40, [1, 7, 8, 9, 13, 15, 19, 21, 22, 189]), (39, [1, 7, 8, 9, 13, 15, 19, 21, 22]), (38, [1, 7, 8, 9, 13, 15, 19, 21]), (37, [6]), (36, [1, 7, 8, 9, 13, 15, 19, 183]), (35, [1, 7, 8, 9, 13, 15, 19, 20]), (34, [6]), (33, [1, 7, 8, 9, 13, 15, 17, 163]), (32, [1, 7, 8, 9, 13, 15, 17, 18]), (30, [1, 2, 7, 8, 9, 13, 15, 16]), (31, [1, 2, 7, 8, 9, 13, 15, 16]), (29, [1, 2, 7, 8, 9, 13, 15, 16, 137]), (28, [1, 2, 7, 8, 9, 13, 15, 16]), (27, [1, 2, 7, 8, 9, 13, 15]), (21, [0, 1, 2, 7, 8, 9, 13, 14]), (26, [0, 1, 2, 7, 8, 9, 13, 14]), (25, [0, 1, 2, 7, 8, 9, 13, 14, 126]), (24, [0, 1, 2, 7, 8, 9, 13, 14]), (23, [0, 1, 2, 7, 8, 9, 13, 14, 103]), (22, [0, 1, 2, 7, 8, 9, 13, 14]), (20, [0, 1, 2, 7, 8, 9, 13, 14, 92]), (19, [0, 1, 2, 7, 8, 9, 13, 14]), (18, [0, 1, 2, 7, 8, 9, 13]), (8, [0, 1, 2, 7, 8, 9, 10]), (11, [0, 1, 2, 7, 8, 9, 10, 11]), (17, [0, 1, 2, 7, 8, 9, 10, 11]), (16, [0, 1, 2, 7, 8, 9, 10, 11, 12]), (15, [0, 1, 2, 7, 8, 9, 10, 11, 12, 74]), (14, [0, 1, 2, 7, 8, 9, 10, 11, 12]), (13, [0, 1, 2, 7, 8, 9, 10, 11, 12, 64]), (12, [0, 1, 2, 7, 8, 9, 10, 11, 12]), (10, [0, 1, 2, 7, 8, 9, 10, 11, 60]), (9, [0, 1, 2, 7, 8, 9, 10, 11]), (7, [0, 1, 2, 7, 8, 9, 10, 55]), (6, [0, 1, 2, 7, 8, 9, 10]), (5, [0, 1, 2, 7, 8, 9]), (4, [0, 1, 2, 7, 8]), (3, [6]), (2, [0, 1, 2, 7, 47]), (1, [0, 1, 2, 7]), (0, [0, 1, 2])], [(14, [7, 13, 31, 33, 34]), (12, [7, 13, 31, 33]), (10, [1, 7, 8, 9, 13, 15, 19, 21, 22, 23, 27, 29]), (8, [1, 7, 8, 9, 13, 15, 19, 21, 22]), (6, [1, 2, 7, 8, 9, 13, 15, 16]), (4, [0, 1, 2, 7, 8, 9, 13, 14]), (2, [0, 1, 2, 7, 8, 9, 10, 11]), (0, [0, 1, 2, 7, 8, 9, 10])], [6, 8], [8, 9, 15, 17, 21, 25], [8, 9, 17, 21, 25], [(4005, [(8, 3)]), (5002, [(1, 1)]), (17006, [(0, 1)]), (22007, [(0, 3)]), (38003, [(2, 4)]), (56011, [(0, 4)])], [4002, 43001], [(57, [21]), (45, [24]), (32, [15]), (27, [8, 13]), (18, [9])], [], [], []⟩
def f_top_TopParts : Abs.Fn := ⟨3, [.t 6],
  (.seq (.reg [0, 1, 2] f4r0) (.seq (.reg [0, 1, 2, 7] f4r1) (.seq (.seq (.reg [0, 1, 2, 7, 47] f4r2) (.ite (.t 47) (.seq (.reg [6] f4r3) .ret) .nop)) (.seq (.reg [0, 1, 2, 7, 8] f4r4) (.seq (.reg [0, 1, 2, 7, 8, 9] f4r5) (.seq (.seq (.reg [0, 1, 2, 7, 8, 9, 10] f4r6) (.blk 0 (.loop [0, 1, 2, 7, 8, 9, 10] false f_top_TopParts_l19))) (.seq (.seq (.frz [9]) (.reg [0, 1, 2, 7, 8, 9, 13] f4r20)) (.seq (.seq (.reg [0, 1, 2, 7, 8, 9, 13, 14] f4r21) (.blk 4 (.loop [0, 1, 2, 7, 8, 9, 13, 14] false f_top_TopParts_l29))) (.seq (.seq (.frz [8, 13]) (.reg [1, 2, 7, 8, 9, 13, 15] f4r30)) (.seq (.seq (.reg [1, 2, 7, 8, 9, 13, 15, 16] f4r31) (.blk 6 (.loop [1, 2, 7, 8, 9, 13, 15, 16] true f_top_TopParts_l35))) (.seq (.seq (.frz [15]) (.reg [1, 7, 8, 9, 13, 15, 17, 18] f4r36)) (.seq (.seq (.reg [1, 7, 8, 9, 13, 15, 17, 163] f4r37) (.ite (.t 163) (.seq (.reg [6] f4r38) .ret) .nop)) (.seq (.reg [1, 7, 8, 9, 13, 15, 19, 20] f4r39) (.seq (.seq (.reg [1, 7, 8, 9, 13, 15, 19, 183] f4r40) (.ite (.t 183) (.seq (.reg [6] f4r41) .ret) .nop)) (.seq (.reg [1, 7, 8, 9, 13, 15, 19, 21] f4r42) (.seq (.seq (.reg [1, 7, 8, 9, 13, 15, 19, 21, 22] f4r43) (.blk 8 (.loop [1, 7, 8, 9, 13, 15, 19, 21, 22] true f_top_TopParts_l62))) (.seq (.seq (.seq (.frz [21]) (.reg [7, 13, 21, 289] f4r63)) (.ite (.t 289) (.seq (.reg [6] f4r64) .ret) .nop)) (.seq (.reg [7, 13, 31, 32] f4r65) (.seq (.seq (.reg [7, 13, 31, 302] f4r66) (.ite (.t 302) (.seq (.reg [6] f4r67) .ret) .nop)) (.seq (.seq (.reg [7, 13, 31, 33] f4r68) (.blk 12 (.loop [7, 13, 31, 33] false f_top_TopParts_l79))) (.seq (.reg [6] f4r80) .ret)))))))))))))))))))))⟩

@[simp] theorem e4r0 : type_of% f4r0.eq_1 := by_rfl f4r0.eq_1
@[simp] theorem e4r1 : type_of% f4r1.eq_1 := by_rfl f4r1.eq_1
@[simp] theorem e4r2 : type_of% f4r2.eq_1 := by_rfl f4r2.eq_1
@[simp] theorem e4r3 : type_of% f4r3.eq_1 := by_rfl f4r3.eq_1
@[simp] theorem e4r4 : type_of% f4r4.eq_1 := by_rfl f4r4.eq_1
@[simp] theorem e4r5 : type_of% f4r5.eq_1 := by_rfl f4r5.eq_1
@[simp] theorem e4r6 : type_of% f4r6.eq_1 := by_rfl f4r6.eq_1
@[simp] theorem e4r7 : type_of% f4r7.eq_1 := by_rfl f4r7.eq_1
@[simp] theorem e4r8 : type_of% f4r8.eq_1 := by_rfl f4r8.eq_1
@[simp] theorem e4r9 : type_of% f4r9.eq_1 := by_rfl f4r9.eq_1
@[simp] theorem e4r10 : type_of% f4r10.eq_1 := by_rfl f4r10.eq_1
@[simp] theorem e4r11 : type_of% f4r11.eq_1 := by_rfl f4r11.eq_1
@[simp] theorem e4r12 : type_of% f4r12.eq_1 := by_rfl f4r12.eq_1
@[simp] theorem e4r13 : type_of% f4r13.eq_1 := by_rfl f4r13.eq_1
@[simp] theorem e4r14 : type_of% f4r14.eq_1 := by_rfl f4r14.eq_1
@[simp] theorem e4r15 : type_of% f4r15.eq_1 := by_rfl f4r15.eq_1
@[simp] theorem e4r16 : type_of% f4r16.eq_1 := by_rfl f4r16.eq_1
@[simp] theorem e4r18 : type_of% f4r18.eq_1 := by_rfl f4r18.eq_1
@[simp] theorem e4r20 : type_of% f4r20.eq_1 := by_rfl f4r20.eq_1
@[simp] theorem e4r21 : type_of% f4r21.eq_1 := by_rfl f4r21.eq_1
@[simp] theorem e4r22 : type_of% f4r22.eq_1 := by_rfl f4r22.eq_1
@[simp] theorem e4r23 : type_of% f4r23.eq_1 := by_rfl f4r23.eq_1
@[simp] theorem e4r24 : type_of% f4r24.eq_1 := by_rfl f4r24.eq_1
@[simp] theorem e4r25 : type_of% f4r25.eq_1 := by_rfl f4r25.eq_1
@[simp] theorem e4r26 : type_of% f4r26.eq_1 := by_rfl f4r26.eq_1
@[simp] theorem e4r27 : type_of% f4r27.eq_1 := by_rfl f4r27.eq_1
@[simp] theorem e4r28 : type_of% f4r28.eq_1 := by_rfl f4r28.eq_1
@[simp] theorem e4r30 : type_of% f4r30.eq_1 := by_rfl f4r30.eq_1
@[simp] theorem e4r31 : type_of% f4r31.eq_1 := by_rfl f4r31.eq_1
@[simp] theorem e4r32 : type_of% f4r32.eq_1 := by_rfl f4r32.eq_1
@[simp] theorem e4r33 : type_of% f4r33.eq_1 := by_rfl f4r33.eq_1
@[simp] theorem e4r34 : type_of% f4r34.eq_1 := by_rfl f4r34.eq_1
@[simp] theorem e4r36 : type_of% f4r36.eq_1 := by_rfl f4r36.eq_1
@[simp] theorem e4r37 : type_of% f4r37.eq_1 := by_rfl f4r37.eq_1
@[simp] theorem e4r38 : type_of% f4r38.eq_1 := by_rfl f4r38.eq_1
@[simp] theorem e4r39 : type_of% f4r39.eq_1 := by_rfl f4r39.eq_1
@[simp] theorem e4r40 : type_of% f4r40.eq_1 := by_rfl f4r40.eq_1
@[simp] theorem e4r41 : type_of% f4r41.eq_1 := by_rfl f4r41.eq_1
@[simp] theorem e4r42 : type_of% f4r42.eq_1 := by_rfl f4r42.eq_1
@[simp] theorem e4r43 : type_of% f4r43.eq_1 := by_rfl f4r43.eq_1
@[simp] theorem e4r44 : type_of% f4r44.eq_1 := by_rfl f4r44.eq_1
@[simp] theorem e4r45 : type_of% f4r45.eq_1 := by_rfl f4r45.eq_1
@[simp] theorem e4r46 : type_of% f4r46.eq_1 := by_rfl f4r46.eq_1
@[simp] theorem e4r47 : type_of% f4r47.eq_1 := by_rfl f4r47.eq_1
@[simp] theorem e4r48 : type_of% f4r48.eq_1 := by_rfl f4r48.eq_1
@[simp] theorem e4r49 : type_of% f4r49.eq_1 := by_rfl f4r49.eq_1
@[simp] theorem e4r50 : type_of% f4r50.eq_1 := by_rfl f4r50.eq_1
@[simp] theorem e4r51 : type_of% f4r51.eq_1 := by_rfl f4r51.eq_1
@[simp] theorem e4r52 : type_of% f4r52.eq_1 := by_rfl f4r52.eq_1
@[simp] theorem e4r53 : type_of% f4r53.eq_1 := by_rfl f4r53.eq_1
@[simp] theorem e4r54 : type_of% f4r54.eq_1 := by_rfl f4r54.eq_1
@[simp] theorem e4r55 : type_of% f4r55.eq_1 := by_rfl f4r55.eq_1
@[simp] theorem e4r56 : type_of% f4r56.eq_1 := by_rfl f4r56.eq_1
@[simp] theorem e4r57 : type_of% f4r57.eq_1 := by_rfl f4r57.eq_1
@[simp] theorem e4r58 : type_of% f4r58.eq_1 := by_rfl f4r58.eq_1
@[simp] theorem e4r59 : type_of% f4r59.eq_1 := by_rfl f4r59.eq_1
@[simp] theorem e4r61 : type_of% f4r61.eq_1 := by_rfl f4r61.eq_1
@[simp] theorem e4r63 : type_of% f4r63.eq_1 := by_rfl f4r63.eq_1
@[simp] theorem e4r64 : type_of% f4r64.eq_1 := by_rfl f4r64.eq_1
@[simp] theorem e4r65 : type_of% f4r65.eq_1 := by_rfl f4r65.eq_1
@[simp] theorem e4r66 : type_of% f4r66.eq_1 := by_rfl f4r66.eq_1
@[simp] theorem e4r67 : type_of% f4r67.eq_1 := by_rfl f4r67.eq_1
@[simp] theorem e4r68 : type_of% f4r68.eq_1 := by_rfl f4r68.eq_1
@[simp] theorem e4r69 : type_of% f4r69.eq_1 := by_rfl f4r69.eq_1
@[simp] theorem e4r70 : type_of% f4r70.eq_1 := by_rfl f4r70.eq_1
@[simp] theorem e4r71 : type_of% f4r71.eq_1 := by_rfl f4r71.eq_1
@[simp] theorem e4r72 : type_of% f4r72.eq_1 := by_rfl f4r72.eq_1
@[simp] theorem e4r73 : type_of% f4r73.eq_1 := by_rfl f4r73.eq_1
@[simp] theorem e4r74 : type_of% f4r74.eq_1 := by_rfl f4r74.eq_1
@[simp] theorem e4r75 : type_of% f4r75.eq_1 := by_rfl f4r75.eq_1
@[simp] theorem e4r76 : type_of% f4r76.eq_1 := by_rfl f4r76.eq_1
@[simp] theorem e4r78 : type_of% f4r78.eq_1 := by_rfl f4r78.eq_1
@[simp] theorem e4r80 : type_of% f4r80.eq_1 := by_rfl f4r80.eq_1
theorem e_top_TopParts_l17 : type_of% f_top_TopParts_l17.eq_1 := by_rfl f_top_TopParts_l17.eq_1
theorem e_top_TopParts_l19 : type_of% f_top_TopParts_l19.eq_1 := by_rfl f_top_TopParts_l19.eq_1
theorem e_top_TopParts_l29 : type_of% f_top_TopParts_l29.eq_1 := by_rfl f_top_TopParts_l29.eq_1
theorem e_top_TopParts_l35 : type_of% f_top_TopParts_l35.eq_1 := by_rfl f_top_TopParts_l35.eq_1
theorem e_top_TopParts_l60 : type_of% f_top_TopParts_l60.eq_1 := by_rfl f_top_TopParts_l60.eq_1
theorem e_top_TopParts_l62 : type_of% f_top_TopParts_l62.eq_1 := by_rfl f_top_TopParts_l62.eq_1
theorem e_top_TopParts_l77 : type_of% f_top_TopParts_l77.eq_1 := by_rfl f_top_TopParts_l77.eq_1
theorem e_top_TopParts_l79 : type_of% f_top_TopParts_l79.eq_1 := by_rfl f_top_TopParts_l79.eq_1
theorem e_top_TopParts : type_of% f_top_TopParts.eq_1 := by_rfl f_top_TopParts.eq_1
theorem ok_top_TopParts : fnC Try.prog a_top_TopParts Try.f4 = some f_top_TopParts := by kernel_rfl

/-! 5 fumarole/fumaroletop.still -/
def f5r0 : List Abs.Op := [
  ⟨some 0, none, false, .mv (.c (.bool false))⟩]

def f5r1 : List Abs.Op := [
  ⟨some 4, none, false, .bld [(.int .i64 0), (.int .i64 0), (.int .i64 0), (.int .i64 0)] [(0, 1, (.c (.int .i64 1))), (1, 1, (.c (.int .i64 1))), (2, 1, (.c (.int .i64 1))), (3, 1, (.c (.int .i64 4)))]⟩,
  ⟨some 5, none, false, .call false (.c (.fn i_law01_Three [] [])) []⟩,
  ⟨some 6, none, false, .bld [(.int .i64 0), (.int .i64 0), (.int .i64 0), (.int .i64 0), .nils, (.int .i64 0), (.int .i64 0), (.int .i64 0), .nils] [(0, 4, (.t 4)), (4, 1, (.t 5)), (5, 1, (.c (.int .i64 1)))]⟩,
  ⟨some 1, none, false, .alcv [] [(.int .i64 0), (.int .i64 0), (.int .i64 0), (.int .i64 0), .nils, (.int .i64 0), (.int .i64 0), (.int .i64 0), .nils]⟩,
  ⟨none, none, false, .stv 1 [] 9 1 (.t 6)⟩]

def f5r2 : List Abs.Op := [
  ⟨some 8, none, false, .ldv 1 true 9 1⟩,
  ⟨some 9, none, false, .bsi 4 1 [(.int .i64 0), (.int .i64 0), (.int .i64 0), (.int .i64 0)] [(0, 1, (.c (.int .i64 1000))), (1, 1, (.c (.int .i64 0))), (2, 1, (.c (.int .i64 2))), (3, 1, (.c (.int .i64 0)))]⟩,
  ⟨some 10, none, false, .bld [(.str []), .nils] [(0, 1, (.c (.str [109]))), (1, 1, (.t 9))]⟩,
  ⟨some 11, none, false, .bsi 0 1 [] []⟩,
  ⟨some 12, none, false, .bsi 1 1 [.nils] [(0, 1, (.t 11))]⟩,
  ⟨some 13, none, false, .call false (.c (.fn i_rock_Play [] [])) [(.t 8), (.t 10), (.t 12)]⟩,
  ⟨some 7, none, false, .mv (.t 13)⟩,
  ⟨some 14, none, false, .ext (.t 7) 0⟩,
  ⟨some 15, none, false, .ext (.t 7) 1⟩,
  ⟨some 2, none, false, .alcv [] [.nils, .nils]⟩,
  ⟨none, none, false, .stv 2 [] 2 2 (.t 14)⟩,
  ⟨some 3, none, false, .mv (.t 15)⟩]

def f5r3 : List Abs.Op := [
  ⟨some 16, none, false, .mv (.t 3)⟩,
  ⟨some 17, none, false, .bin .eql (.t 16) (.c (.int .i64 0))⟩,
  ⟨some 18, none, false, .mv (.t 17)⟩,
  ⟨some 19, some (18, true), false, .fadr 0 (.t 2)⟩,
  ⟨some 20, some (18, true), false, .ldv 2 false 1 19⟩,
  ⟨some 21, some (18, true), false, .lenS (.t 20)⟩,
  ⟨some 22, some (18, true), false, .bin .eql (.t 21) (.c (.int .i64 2))⟩,
  ⟨some 23, none, false, .pick (.t 18) (.t 22) (.c (.bool false))⟩,
  ⟨some 24, none, false, .mv (.t 23)⟩,
  ⟨some 25, some (24, true), false, .fadr 0 (.t 2)⟩,
  ⟨some 26, some (24, true), false, .ldv 2 false 1 25⟩,
  ⟨some 27, some (24, true), false, .idxS 1 (.t 26) (.c (.int .i64 1))⟩,
  ⟨some 28, some (24, true), false, .ld false 1 (.t 27)⟩,
  ⟨some 29, some (24, true), false, .lenS (.t 28)⟩,
  ⟨some 30, some (24, true), false, .bin .eql (.t 29) (.c (.int .i64 1))⟩,
  ⟨some 31, none, false, .pick (.t 24) (.t 30) (.c (.bool false))⟩,
  ⟨some 32, none, false, .mv (.t 31)⟩,
  ⟨some 33, some (32, true), false, .fadr 0 (.t 2)⟩,
  ⟨some 34, some (32, true), false, .ldv 2 false 1 33⟩,
  ⟨some 35, some (32, true), false, .idxS 1 (.t 34) (.c (.int .i64 1))⟩,
  ⟨some 36, some (32, true), false, .ld false 1 (.t 35)⟩,
  ⟨some 37, some (32, true), false, .idxS 3 (.t 36) (.c (.int .i64 0))⟩,
  ⟨some 38, some (32, true), false, .ld true 3 (.t 37)⟩,
  ⟨some 39, some (32, true), false, .bld [(.int .i64 0), (.int .i64 0), (.int .i64 0)] [(0, 1, (.c (.int .i64 1000))), (1, 1, (.c (.int .i64 2000)))]⟩,
  ⟨some 40, some (32, true), false, .eqv true [some .i64, some .i64, some .i64] false (.t 38) (.t 39)⟩,
  ⟨some 41, none, false, .pick (.t 32) (.t 40) (.c (.bool false))⟩,
  ⟨some 0, none, false, .mv (.t 41)⟩]

def a_top_still : Ann := ⟨[(3, [0]), (2, [2, 3]), (1, [1]), (0, [])], [], [], [1, 2], [1, 2], [], [], [], [], [], []⟩
def f_top_still : Abs.Fn := ⟨0, [.t 0],
  (.seq (.reg [] f5r0) (.seq (.reg [1] f5r1) (.seq (.reg [2, 3] f5r2) (.seq (.reg [0] f5r3) .ret))))⟩

@[simp] theorem e5r0 : type_of% f5r0.eq_1 := by_rfl f5r0.eq_1
@[simp] theorem e5r1 : type_of% f5r1.eq_1 := by_rfl f5r1.eq_1
@[simp] theorem e5r2 : type_of% f5r2.eq_1 := by_rfl f5r2.eq_1
@[simp] theorem e5r3 : type_of% f5r3.eq_1 := by_rfl f5r3.eq_1
theorem e_top_still : type_of% f_top_still.eq_1 := by_rfl f_top_still.eq_1
theorem ok_top_still : fnC Try.prog a_top_still Try.f5 = some f_top_still := by kernel_rfl

/-! 7 fumarole/rock.Play -/
def f7r0 : List Abs.Op := [
  ⟨some 3, none, false, .boxi (.t 0)⟩,
  ⟨some 4, none, false, .boxi (.t 1)⟩,
  ⟨some 6, none, false, .alcv [] [.nils, .nils]⟩,
  ⟨some 7, none, false, .alc [] [(.int .i64 0)]⟩]

def f7r1 : List Abs.Op := [
  ⟨some 10, none, false, .ld true 9 (.t 3)⟩,
  ⟨some 11, none, false, .ld true 2 (.t 4)⟩,
  ⟨some 12, none, false, .call false (.c (.fn i_rock_bed [] [])) [(.t 10), (.t 11)]⟩,
  ⟨some 9, none, false, .mv (.t 12)⟩,
  ⟨some 13, none, false, .ext (.t 9) 0⟩,
  ⟨some 14, none, false, .ext (.t 9) 1⟩,
  ⟨some 8, none, false, .alcv [] [(.int .i64 0), (.int .i64 0), (.int .i64 0), (.int .i64 0), .nils, (.int .i64 0), (.int .i64 0), (.int .i64 0), .nils, (.str []), .nils]⟩,
  ⟨none, none, false, .stv 8 [] 11 8 (.t 13)⟩,
  ⟨none, none, false, .st [] 1 (.t 7) (.t 14)⟩]

def f7r2 : List Abs.Op := [
  ⟨some 15, none, false, .ld false 1 (.t 7)⟩,
  ⟨some 16, none, false, .bin .eql (.t 15) (.c (.int .i64 0))⟩]

def f7r3 : List Abs.Op := [
  ⟨some 17, none, false, .ld true 9 (.t 3)⟩,
  ⟨some 18, none, false, .mv (.t 2)⟩,
  ⟨some 19, none, false, .call false (.c (.fn i_rock_Bed_plan [] [])) [(.t 17), (.t 18)]⟩,
  ⟨none, none, false, .st [] 1 (.t 7) (.t 19)⟩]

def f7r4 : List Abs.Op := [
  ⟨some 20, none, false, .ld false 1 (.t 7)⟩,
  ⟨some 21, none, false, .bin .neq (.t 20) (.c (.int .i64 0))⟩]

def f7r5 : List Abs.Op := [
  ⟨some 22, none, true, .bld [.nils, .nils] []⟩,
  ⟨some 23, none, true, .ld false 1 (.t 7)⟩,
  ⟨none, none, true, .stv 6 [] 2 6 (.t 22)⟩,
  ⟨none, none, false, .st [] 1 (.t 7) (.t 23)⟩]

def f7r6 : List Abs.Op := [
  ⟨some 24, none, false, .ldv 8 true 11 8⟩,
  ⟨some 25, none, false, .mv (.t 2)⟩]

def f7r7 : List Abs.Op := [
  ⟨none, none, false, .stv 6 [] 2 6 (.t 26)⟩,
  ⟨none, none, false, .st [] 1 (.t 7) (.c (.int .i64 0))⟩]

def f_rock_Play_b8 : Abs.Cmd :=
  (.seq (.treg [6, 7] f7r6 ⟨some 26, none, false, .call false (.c (.fn i_rock_bedded_run [] [])) [(.t 24), (.t 25)]⟩ f7r7) .ret)

def a_rock_Play : Ann := ⟨[(7, [6, 7]), (6, [2, 6, 7, 8]), (5, [6, 7]), (4, [2, 6, 7, 8, 21]), (3, [2, 6, 7, 8]), (2, [2, 3, 6, 7, 8, 16]), (1, [2, 3, 6, 7, 8]), (0, [2, 3, 4, 6, 7])], [], [], [6, 7, 8], [6, 8], [], [], [], [], [], [(7, some 2)]⟩
def f_rock_Play : Abs.Fn := ⟨3, [.v 6 true 2, .c 7 false 1],
  (.seq (.reg [2, 3, 4, 6, 7] f7r0) (.seq (.reg [2, 3, 6, 7, 8] f7r1) (.seq (.seq (.reg [2, 3, 6, 7, 8, 16] f7r2) (.ite (.t 16) (.reg [2, 6, 7, 8] f7r3) .nop)) (.seq (.seq (.reg [2, 6, 7, 8, 21] f7r4) (.ite (.t 21) (.seq (.reg [6, 7] f7r5) .ret) .nop)) (.dfr (.c (.fn i_rock_caught [] [])) [(.t 7)] f_rock_Play_b8)))))⟩

@[simp] theorem e7r0 : type_of% f7r0.eq_1 := by_rfl f7r0.eq_1
@[simp] theorem e7r1 : type_of% f7r1.eq_1 := by_rfl f7r1.eq_1
@[simp] theorem e7r2 : type_of% f7r2.eq_1 := by_rfl f7r2.eq_1
@[simp] theorem e7r3 : type_of% f7r3.eq_1 := by_rfl f7r3.eq_1
@[simp] theorem e7r4 : type_of% f7r4.eq_1 := by_rfl f7r4.eq_1
@[simp] theorem e7r5 : type_of% f7r5.eq_1 := by_rfl f7r5.eq_1
@[simp] theorem e7r6 : type_of% f7r6.eq_1 := by_rfl f7r6.eq_1
@[simp] theorem e7r7 : type_of% f7r7.eq_1 := by_rfl f7r7.eq_1
theorem e_rock_Play_b8 : type_of% f_rock_Play_b8.eq_1 := by_rfl f_rock_Play_b8.eq_1
theorem e_rock_Play : type_of% f_rock_Play.eq_1 := by_rfl f_rock_Play.eq_1
theorem ok_rock_Play : fnC Try.prog a_rock_Play Try.f7 = some f_rock_Play := by kernel_rfl

/-! 8 fumarole/rock.Pressures -/
def f8r0 : List Abs.Op := [
  ⟨some 3, none, false, .boxi (.t 0)⟩,
  ⟨some 4, none, false, .boxi (.t 1)⟩,
  ⟨some 6, none, false, .mv (.c .nils)⟩,
  ⟨some 7, none, false, .mv (.c (.int .i64 0))⟩]

def f8r1 : List Abs.Op := [
  ⟨some 11, none, false, .ld true 9 (.t 3)⟩,
  ⟨some 12, none, false, .ld true 2 (.t 4)⟩,
  ⟨some 13, none, false, .call false (.c (.fn i_rock_bed [] [])) [(.t 11), (.t 12)]⟩,
  ⟨some 10, none, false, .mv (.t 13)⟩,
  ⟨some 14, none, false, .ext (.t 10) 0⟩,
  ⟨some 15, none, false, .ext (.t 10) 1⟩,
  ⟨some 8, none, false, .alcv [] [(.int .i64 0), (.int .i64 0), (.int .i64 0), (.int .i64 0), .nils, (.int .i64 0), (.int .i64 0), (.int .i64 0), .nils, (.str []), .nils]⟩,
  ⟨none, none, false, .stv 8 [] 11 8 (.t 14)⟩,
  ⟨some 9, none, false, .mv (.t 15)⟩]

def f8r2 : List Abs.Op := [
  ⟨some 16, none, false, .mv (.t 9)⟩,
  ⟨some 17, none, false, .bin .neq (.t 16) (.c (.int .i64 0))⟩,
  ⟨some 18, none, false, .mv (.t 17)⟩,
  ⟨some 19, some (18, false), false, .ldv 8 true 11 8⟩,
  ⟨some 20, some (18, false), false, .mv (.t 2)⟩,
  ⟨some 21, some (18, false), false, .call false (.c (.fn i_rock_bedded_state [] [])) [(.t 19), (.t 20)]⟩,
  ⟨some 22, some (18, false), false, .un .not (.t 21)⟩,
  ⟨some 23, none, false, .pick (.t 18) (.c (.bool true)) (.t 22)⟩]

def f8r3 : List Abs.Op := [
  ⟨some 6, none, false, .mv (.c .nils)⟩,
  ⟨some 7, none, false, .mv (.c (.int .i64 1))⟩]

def f8r4 : List Abs.Op := [
  ⟨some 24, none, false, .ldv 8 true 11 8⟩,
  ⟨some 25, none, false, .mv (.t 2)⟩,
  ⟨some 26, none, false, .call false (.c (.fn i_rock_bedded_pressures [] [])) [(.t 24), (.t 25)]⟩,
  ⟨some 6, none, false, .mv (.t 26)⟩,
  ⟨some 7, none, false, .mv (.c (.int .i64 0))⟩]

def a_rock_Pressures : Ann := ⟨[(4, [6, 7]), (3, [6, 7]), (2, [2, 8, 23]), (1, [2, 8, 9]), (0, [2, 3, 4])], [], [], [8], [8], [], [], [], [], [], []⟩
def f_rock_Pressures : Abs.Fn := ⟨3, [.t 6, .t 7],
  (.seq (.reg [2, 3, 4] f8r0) (.seq (.reg [2, 8, 9] f8r1) (.seq (.seq (.reg [2, 8, 23] f8r2) (.ite (.t 23) (.seq (.reg [6, 7] f8r3) .ret) .nop)) (.seq (.reg [6, 7] f8r4) .ret))))⟩

@[simp] theorem e8r0 : type_of% f8r0.eq_1 := by_rfl f8r0.eq_1
@[simp] theorem e8r1 : type_of% f8r1.eq_1 := by_rfl f8r1.eq_1
@[simp] theorem e8r2 : type_of% f8r2.eq_1 := by_rfl f8r2.eq_1
@[simp] theorem e8r3 : type_of% f8r3.eq_1 := by_rfl f8r3.eq_1
@[simp] theorem e8r4 : type_of% f8r4.eq_1 := by_rfl f8r4.eq_1
theorem e_rock_Pressures : type_of% f_rock_Pressures.eq_1 := by_rfl f_rock_Pressures.eq_1
theorem ok_rock_Pressures : fnC Try.prog a_rock_Pressures Try.f8 = some f_rock_Pressures := by kernel_rfl

/-! 11 fumarole/fumarolelaw01.Three -/
def f11r0 : List Abs.Op := [
  ⟨some 0, none, false, .mv (.c .nils)⟩]

def f11r1 : List Abs.Op := [
  ⟨some 1, none, false, .bld [(.int .i64 0), (.int .i64 0), (.int .i64 0), (.int .i64 0), (.int .i64 0)] [(0, 1, (.c (.int .i64 100))), (1, 1, (.c (.int .i64 101))), (2, 1, (.c (.int .i64 419))), (3, 1, (.c (.int .i64 2676))), (4, 1, (.c (.int .i64 150)))]⟩,
  ⟨some 2, none, false, .bld [(.int .i64 0), (.int .i64 0), (.int .i64 0), (.int .i64 0), (.int .i64 0)] [(0, 1, (.c (.int .i64 150))), (1, 1, (.c (.int .i64 476))), (2, 1, (.c (.int .i64 632))), (3, 1, (.c (.int .i64 2746))), (4, 1, (.c (.int .i64 300)))]⟩,
  ⟨some 3, none, false, .bld [(.int .i64 0), (.int .i64 0), (.int .i64 0), (.int .i64 0), (.int .i64 0)] [(0, 1, (.c (.int .i64 200))), (1, 1, (.c (.int .i64 1555))), (2, 1, (.c (.int .i64 852))), (3, 1, (.c (.int .i64 2793))), (4, 1, (.c (.int .i64 600)))]⟩,
  ⟨some 4, none, false, .bsi 3 5 [(.int .i64 0), (.int .i64 0), (.int .i64 0), (.int .i64 0), (.int .i64 0), (.int .i64 0), (.int .i64 0), (.int .i64 0), (.int .i64 0), (.int .i64 0), (.int .i64 0), (.int .i64 0), (.int .i64 0), (.int .i64 0), (.int .i64 0)] [(0, 5, (.t 1)), (5, 5, (.t 2)), (10, 5, (.t 3))]⟩,
  ⟨some 0, none, false, .mv (.t 4)⟩]

def a_law01_Three : Ann := ⟨[(1, [0]), (0, [])], [], [], [], [], [], [], [], [], [], []⟩
def f_law01_Three : Abs.Fn := ⟨0, [.t 0],
  (.seq (.reg [] f11r0) (.seq (.reg [0] f11r1) .ret))⟩

@[simp] theorem e11r0 : type_of% f11r0.eq_1 := by_rfl f11r0.eq_1
@[simp] theorem e11r1 : type_of% f11r1.eq_1 := by_rfl f11r1.eq_1
theorem e_law01_Three : type_of% f_law01_Three.eq_1 := by_rfl f_law01_Three.eq_1
theorem ok_law01_Three : fnC Try.prog a_law01_Three Try.f11 = some f_law01_Three := by kernel_rfl

/-! 12 fumarole/fumarolelaw05.Plan -/
def f12r0 : List Abs.Op := [
  ⟨some 2, none, false, .nilb 1⟩]

def f12r1 : List Abs.Op := [
  ⟨some 3, none, false, .nilb 1⟩]

def f12r2 : List Abs.Op := [
  ⟨some 4, none, false, .mv (.c (.int .i64 0))⟩]

def f12r3 : List Abs.Op := [
  ⟨some 5, none, false, .mv (.t 4)⟩,
  ⟨some 6, none, false, .mv (.t 0)⟩,
  ⟨some 7, none, false, .lenS (.t 6)⟩,
  ⟨some 8, none, false, .bin .lss (.t 5) (.t 7)⟩]

def f12r4 : List Abs.Op := [
  ⟨some 11, none, false, .mv (.t 3)⟩,
  ⟨some 12, none, false, .mv (.t 0)⟩,
  ⟨some 13, none, false, .mv (.t 4)⟩,
  ⟨some 14, none, false, .idxS 1 (.t 12) (.t 13)⟩,
  ⟨some 15, none, false, .ld false 1 (.t 14)⟩,
  ⟨some 16, none, false, .app 1 8 (.c .nils) (.t 15)⟩,
  ⟨some 17, none, false, .bsi 1 1 [.nils] [(0, 1, (.t 16))]⟩,
  ⟨some 18, none, false, .app 1 24 (.t 11) (.t 17)⟩,
  ⟨some 3, none, false, .mv (.t 18)⟩]

def f12r5 : List Abs.Op := [
  ⟨some 9, none, false, .mv (.t 4)⟩,
  ⟨some 10, none, false, .bin .add (.t 9) (.c (.int .i64 1))⟩,
  ⟨some 4, none, false, .mv (.t 10)⟩]

def f_law05_Plan_l6 : Abs.Cmd :=
  (.seq (.seq (.reg [0, 3, 4, 8] f12r3) (.ite (.t 8) .nop (.exit 0))) (.seq (.blk 1 (.reg [0, 3, 4] f12r4)) (.reg [0, 3, 4] f12r5)))

def f12r7 : List Abs.Op := [
  ⟨some 19, none, false, .mv (.t 3)⟩,
  ⟨some 2, none, false, .mv (.t 19)⟩]

def a_law05_Plan : Ann := ⟨[(6, [2]), (4, [0, 3, 4]), (5, [0, 3, 4]), (3, [0, 3, 4, 8]), (2, [0, 3, 4]), (1, [0, 3]), (0, [0])], [(0, [0, 3, 4])], [], [2, 3, 16], [], [], [], [], [], [], []⟩
def f_law05_Plan : Abs.Fn := ⟨1, [.t 2],
  (.seq (.reg [0] f12r0) (.seq (.reg [0, 3] f12r1) (.seq (.seq (.reg [0, 3, 4] f12r2) (.blk 0 (.loop [0, 3, 4] false f_law05_Plan_l6))) (.seq (.reg [2] f12r7) .ret))))⟩

@[simp] theorem e12r0 : type_of% f12r0.eq_1 := by_rfl f12r0.eq_1
@[simp] theorem e12r1 : type_of% f12r1.eq_1 := by_rfl f12r1.eq_1
@[simp] theorem e12r2 : type_of% f12r2.eq_1 := by_rfl f12r2.eq_1
@[simp] theorem e12r3 : type_of% f12r3.eq_1 := by_rfl f12r3.eq_1
@[simp] theorem e12r4 : type_of% f12r4.eq_1 := by_rfl f12r4.eq_1
@[simp] theorem e12r5 : type_of% f12r5.eq_1 := by_rfl f12r5.eq_1
@[simp] theorem e12r7 : type_of% f12r7.eq_1 := by_rfl f12r7.eq_1
theorem e_law05_Plan_l6 : type_of% f_law05_Plan_l6.eq_1 := by_rfl f_law05_Plan_l6.eq_1
theorem e_law05_Plan : type_of% f_law05_Plan.eq_1 := by_rfl f_law05_Plan.eq_1
theorem ok_law05_Plan : fnC Try.prog a_law05_Plan Try.f12 = some f_law05_Plan := by kernel_rfl

/-! 13 fumarole/trial.Fits -/
def f13r0 : List Abs.Op := [
  ⟨some 2, none, false, .boxi (.t 0)⟩,
  ⟨some 4, none, false, .mv (.c (.bool false))⟩]

def f13r1 : List Abs.Op := [
  ⟨some 5, none, false, .ld true 3 (.t 2)⟩,
  ⟨some 6, none, false, .call false (.c (.fn i_trial_CheckSurvey [] [])) [(.t 5)]⟩,
  ⟨some 7, none, false, .bin .eql (.t 6) (.c (.int .i64 0))⟩,
  ⟨some 8, none, false, .mv (.t 7)⟩,
  ⟨some 9, some (8, true), false, .mv (.t 1)⟩,
  ⟨some 10, some (8, true), false, .lenS (.t 9)⟩,
  ⟨some 11, some (8, true), false, .fadr 0 (.t 2)⟩,
  ⟨some 12, some (8, true), false, .ld false 1 (.t 11)⟩,
  ⟨some 13, some (8, true), false, .bin .eql (.t 10) (.t 12)⟩,
  ⟨some 14, none, false, .pick (.t 8) (.t 13) (.c (.bool false))⟩,
  ⟨some 15, none, false, .mv (.t 14)⟩,
  ⟨some 16, some (15, true), false, .ld true 3 (.t 2)⟩,
  ⟨some 17, some (15, true), false, .mv (.t 1)⟩,
  ⟨some 18, some (15, true), false, .call false (.c (.fn i_trial_Survey_fits [] [])) [(.t 16), (.t 17)]⟩,
  ⟨some 19, none, false, .pick (.t 15) (.t 18) (.c (.bool false))⟩,
  ⟨some 4, none, false, .mv (.t 19)⟩]

def a_trial_Fits : Ann := ⟨[(1, [4]), (0, [1, 2])], [], [], [], [], [], [], [], [], [], []⟩
def f_trial_Fits : Abs.Fn := ⟨2, [.t 4],
  (.seq (.reg [1, 2] f13r0) (.seq (.reg [4] f13r1) .ret))⟩

@[simp] theorem e13r0 : type_of% f13r0.eq_1 := by_rfl f13r0.eq_1
@[simp] theorem e13r1 : type_of% f13r1.eq_1 := by_rfl f13r1.eq_1
theorem e_trial_Fits : type_of% f_trial_Fits.eq_1 := by_rfl f_trial_Fits.eq_1
theorem ok_trial_Fits : fnC Try.prog a_trial_Fits Try.f13 = some f_trial_Fits := by kernel_rfl

/-! 14 fumarole/trial.Relations -/
def f14r0 : List Abs.Op := [
  ⟨some 1, none, false, .boxi (.t 0)⟩,
  ⟨some 2, none, false, .mv (.c .nils)⟩,
  ⟨some 3, none, false, .mv (.c (.int .i64 0))⟩]

def f14r1 : List Abs.Op := [
  ⟨some 11, none, false, .ld true 3 (.t 1)⟩,
  ⟨some 12, none, false, .call false (.c (.fn i_trial_checked [] [])) [(.t 11)]⟩,
  ⟨some 10, none, false, .mv (.t 12)⟩,
  ⟨some 13, none, false, .ext (.t 10) 0⟩,
  ⟨some 14, none, false, .ext (.t 10) 1⟩,
  ⟨some 4, none, false, .alcv [] [(.int .i64 0), (.int .i64 0), .nils, (.int .i64 0), (.int .i64 0), (.int .i64 0), (.int .i64 0), (.int .i64 0), (.int .i64 0), (.int .i64 0), (.int .i64 0), (.int .i64 0), (.int .i64 0)]⟩,
  ⟨none, none, false, .stv 4 [] 13 4 (.t 13)⟩,
  ⟨some 5, none, false, .mv (.t 14)⟩]

def f14r2 : List Abs.Op := [
  ⟨some 15, none, false, .mv (.t 5)⟩,
  ⟨some 16, none, false, .bin .neq (.t 15) (.c (.int .i64 0))⟩]

def f14r3 : List Abs.Op := [
  ⟨some 17, none, false, .mv (.t 5)⟩,
  ⟨some 2, none, false, .mv (.c .nils)⟩,
  ⟨some 3, none, false, .mv (.t 17)⟩]

def f14r4 : List Abs.Op := [
  ⟨some 6, none, false, .nilb 1⟩]

def f14r5 : List Abs.Op := [
  ⟨some 18, none, false, .fadr 0 (.t 1)⟩,
  ⟨some 19, none, false, .ld false 1 (.t 18)⟩,
  ⟨some 20, none, false, .mv (.c (.int .i64 0))⟩]

def f14r6 : List Abs.Op := [
  ⟨some 21, none, false, .bin .lss (.t 20) (.t 19)⟩]

def f14r7 : List Abs.Op := [
  ⟨some 22, none, false, .mv (.t 20)⟩,
  ⟨some 7, none, false, .mv (.t 22)⟩]

def f14r8 : List Abs.Op := [
  ⟨some 8, none, false, .nilb 1⟩]

def f14r9 : List Abs.Op := [
  ⟨some 23, none, false, .fadr 0 (.t 1)⟩,
  ⟨some 24, none, false, .ld false 1 (.t 23)⟩,
  ⟨some 25, none, false, .mv (.c (.int .i64 0))⟩]

def f14r10 : List Abs.Op := [
  ⟨some 26, none, false, .bin .lss (.t 25) (.t 24)⟩]

def f14r11 : List Abs.Op := [
  ⟨some 27, none, false, .mv (.t 25)⟩,
  ⟨some 9, none, false, .mv (.t 27)⟩]

def f14r12 : List Abs.Op := [
  ⟨some 28, none, false, .mv (.t 8)⟩,
  ⟨some 29, none, false, .ldv 4 true 13 4⟩,
  ⟨some 30, none, false, .mv (.t 7)⟩,
  ⟨some 31, none, false, .mv (.t 9)⟩,
  ⟨some 32, none, false, .call false (.c (.fn i_trial_parted_relation [] [])) [(.t 29), (.t 30), (.t 31)]⟩,
  ⟨some 33, none, false, .bsi 1 1 [(.int .u8 0)] [(0, 1, (.t 32))]⟩,
  ⟨some 34, none, false, .app 1 1 (.t 28) (.t 33)⟩,
  ⟨some 8, none, false, .mv (.t 34)⟩]

def f14r13 : List Abs.Op := [
  ⟨some 35, none, false, .bin .add (.t 25) (.c (.int .i64 1))⟩,
  ⟨some 25, none, false, .mv (.t 35)⟩]

def f_trial_Relations_l14 : Abs.Cmd :=
  (.seq (.reg [1, 4, 6, 7, 8, 19, 20, 24, 25, 26] f14r10) (.seq (.ite (.t 26) .nop (.exit 2)) (.seq (.blk 3 (.seq (.reg [1, 4, 6, 7, 8, 9, 19, 20, 24, 25] f14r11) (.reg [1, 4, 6, 7, 8, 19, 20, 24, 25] f14r12))) (.reg [1, 4, 6, 7, 8, 19, 20, 24, 25] f14r13))))

def f14r15 : List Abs.Op := [
  ⟨some 36, none, false, .mv (.t 6)⟩,
  ⟨some 37, none, false, .mv (.t 8)⟩,
  ⟨some 38, none, false, .bsi 1 1 [.nils] [(0, 1, (.t 37))]⟩,
  ⟨some 39, none, false, .app 1 24 (.t 36) (.t 38)⟩,
  ⟨some 6, none, false, .mv (.t 39)⟩]

def f14r16 : List Abs.Op := [
  ⟨some 40, none, false, .bin .add (.t 20) (.c (.int .i64 1))⟩,
  ⟨some 20, none, false, .mv (.t 40)⟩]

def f_trial_Relations_l17 : Abs.Cmd :=
  (.seq (.reg [1, 4, 6, 19, 20, 21] f14r6) (.seq (.ite (.t 21) .nop (.exit 0)) (.seq (.blk 1 (.seq (.reg [1, 4, 6, 7, 19, 20] f14r7) (.seq (.reg [1, 4, 6, 7, 8, 19, 20] f14r8) (.seq (.seq (.reg [1, 4, 6, 7, 8, 19, 20, 24, 25] f14r9) (.blk 2 (.loop [1, 4, 6, 7, 8, 19, 20, 24, 25] false f_trial_Relations_l14))) (.reg [1, 4, 6, 19, 20] f14r15))))) (.reg [1, 4, 6, 19, 20] f14r16))))

def f14r18 : List Abs.Op := [
  ⟨some 41, none, false, .mv (.t 6)⟩,
  ⟨some 2, none, false, .mv (.t 41)⟩,
  ⟨some 3, none, false, .mv (.c (.int .i64 0))⟩]

def a_trial_Relations : Ann := ⟨[(16, [2, 3]), (15, [1, 4, 6, 19, 20]), (14, [1, 4, 6, 19, 20]), (13, [1, 4, 6, 7, 8, 19, 20, 24, 25]), (12, [1, 4, 6, 7, 8, 19, 20, 24, 25]), (11, [1, 4, 6, 7, 8, 9, 19, 20, 24, 25]), (10, [1, 4, 6, 7, 8, 19, 20, 24, 25, 26]), (9, [1, 4, 6, 7, 8, 19, 20, 24, 25]), (8, [1, 4, 6, 7, 8, 19, 20]), (7, [1, 4, 6, 7, 19, 20]), (6, [1, 4, 6, 19, 20, 21]), (5, [1, 4, 6, 19, 20]), (4, [1, 4, 6]), (3, [2, 3]), (2, [1, 4, 5, 16]), (1, [1, 4, 5]), (0, [1])], [(2, [1, 4, 6, 7, 8, 19, 20, 24, 25]), (0, [1, 4, 6, 19, 20])], [0], [4, 6, 8], [4], [], [], [], [], [], []⟩
def f_trial_Relations : Abs.Fn := ⟨1, [.t 2, .t 3],
  (.seq (.reg [1] f14r0) (.seq (.reg [1, 4, 5] f14r1) (.seq (.seq (.reg [1, 4, 5, 16] f14r2) (.ite (.t 16) (.seq (.reg [2, 3] f14r3) .ret) .nop)) (.seq (.reg [1, 4, 6] f14r4) (.seq (.seq (.reg [1, 4, 6, 19, 20] f14r5) (.blk 0 (.loop [1, 4, 6, 19, 20] true f_trial_Relations_l17))) (.seq (.reg [2, 3] f14r18) .ret))))))⟩

@[simp] theorem e14r0 : type_of% f14r0.eq_1 := by_rfl f14r0.eq_1
@[simp] theorem e14r1 : type_of% f14r1.eq_1 := by_rfl f14r1.eq_1
@[simp] theorem e14r2 : type_of% f14r2.eq_1 := by_rfl f14r2.eq_1
@[simp] theorem e14r3 : type_of% f14r3.eq_1 := by_rfl f14r3.eq_1
@[simp] theorem e14r4 : type_of% f14r4.eq_1 := by_rfl f14r4.eq_1
@[simp] theorem e14r5 : type_of% f14r5.eq_1 := by_rfl f14r5.eq_1
@[simp] theorem e14r6 : type_of% f14r6.eq_1 := by_rfl f14r6.eq_1
@[simp] theorem e14r7 : type_of% f14r7.eq_1 := by_rfl f14r7.eq_1
@[simp] theorem e14r8 : type_of% f14r8.eq_1 := by_rfl f14r8.eq_1
@[simp] theorem e14r9 : type_of% f14r9.eq_1 := by_rfl f14r9.eq_1
@[simp] theorem e14r10 : type_of% f14r10.eq_1 := by_rfl f14r10.eq_1
@[simp] theorem e14r11 : type_of% f14r11.eq_1 := by_rfl f14r11.eq_1
@[simp] theorem e14r12 : type_of% f14r12.eq_1 := by_rfl f14r12.eq_1
@[simp] theorem e14r13 : type_of% f14r13.eq_1 := by_rfl f14r13.eq_1
@[simp] theorem e14r15 : type_of% f14r15.eq_1 := by_rfl f14r15.eq_1
@[simp] theorem e14r16 : type_of% f14r16.eq_1 := by_rfl f14r16.eq_1
@[simp] theorem e14r18 : type_of% f14r18.eq_1 := by_rfl f14r18.eq_1
theorem e_trial_Relations_l14 : type_of% f_trial_Relations_l14.eq_1 := by_rfl f_trial_Relations_l14.eq_1
theorem e_trial_Relations_l17 : type_of% f_trial_Relations_l17.eq_1 := by_rfl f_trial_Relations_l17.eq_1
theorem e_trial_Relations : type_of% f_trial_Relations.eq_1 := by_rfl f_trial_Relations.eq_1
theorem ok_trial_Relations : fnC Try.prog a_trial_Relations Try.f14 = some f_trial_Relations := by kernel_rfl

/-! 15 fumarole/rock.bed -/
def f15r0 : List Abs.Op := [
  ⟨some 2, none, false, .boxi (.t 0)⟩,
  ⟨some 3, none, false, .boxi (.t 1)⟩,
  ⟨some 4, none, false, .alcv [] [(.int .i64 0), (.int .i64 0), (.int .i64 0), (.int .i64 0), .nils, (.int .i64 0), (.int .i64 0), (.int .i64 0), .nils, (.str []), .nils]⟩,
  ⟨some 5, none, false, .mv (.c (.int .i64 0))⟩]

def f15r1 : List Abs.Op := [
  ⟨some 7, none, false, .ld true 9 (.t 2)⟩,
  ⟨some 8, none, false, .ld true 2 (.t 3)⟩,
  ⟨some 9, none, false, .bld [(.int .i64 0), (.int .i64 0), (.int .i64 0), (.int .i64 0), .nils, (.int .i64 0), (.int .i64 0), (.int .i64 0), .nils, (.str []), .nils] [(0, 9, (.t 7)), (9, 2, (.t 8))]⟩,
  ⟨some 6, none, false, .alcv [] [(.int .i64 0), (.int .i64 0), (.int .i64 0), (.int .i64 0), .nils, (.int .i64 0), (.int .i64 0), (.int .i64 0), .nils, (.str []), .nils]⟩,
  ⟨none, none, false, .stv 6 [] 11 6 (.t 9)⟩]

def f15r2 : List Abs.Op := [
  ⟨some 10, none, false, .ld true 9 (.t 2)⟩,
  ⟨some 11, none, false, .call false (.c (.fn i_rock_Bed_valid [] [])) [(.t 10)]⟩,
  ⟨some 12, none, false, .un .not (.t 11)⟩,
  ⟨some 13, none, false, .mv (.t 12)⟩,
  ⟨some 14, some (13, false), false, .ldv 6 true 11 6⟩,
  ⟨some 15, some (13, false), false, .call false (.c (.fn i_rock_bedded_fits [] [])) [(.t 14)]⟩,
  ⟨some 16, some (13, false), false, .un .not (.t 15)⟩,
  ⟨some 17, none, false, .pick (.t 13) (.c (.bool true)) (.t 16)⟩]

def f15r3 : List Abs.Op := [
  ⟨some 18, none, false, .bld [(.int .i64 0), (.int .i64 0), (.int .i64 0), (.int .i64 0), .nils, (.int .i64 0), (.int .i64 0), (.int .i64 0), .nils, (.str []), .nils] []⟩,
  ⟨none, none, false, .stv 4 [] 11 4 (.t 18)⟩,
  ⟨some 5, none, false, .mv (.c (.int .i64 1))⟩]

def f15r4 : List Abs.Op := [
  ⟨some 19, none, false, .ldv 6 true 11 6⟩,
  ⟨none, none, false, .stv 4 [] 11 4 (.t 19)⟩,
  ⟨some 5, none, false, .mv (.c (.int .i64 0))⟩]

def a_rock_bed : Ann := ⟨[(4, [4, 5]), (3, [4, 5]), (2, [4, 6, 17]), (1, [2, 4, 6]), (0, [2, 3, 4])], [], [], [4, 6], [4, 6], [], [], [], [], [], []⟩
def f_rock_bed : Abs.Fn := ⟨2, [.v 4 true 11, .t 5],
  (.seq (.reg [2, 3, 4] f15r0) (.seq (.reg [2, 4, 6] f15r1) (.seq (.seq (.reg [4, 6, 17] f15r2) (.ite (.t 17) (.seq (.reg [4, 5] f15r3) .ret) .nop)) (.seq (.reg [4, 5] f15r4) .ret))))⟩

@[simp] theorem e15r0 : type_of% f15r0.eq_1 := by_rfl f15r0.eq_1
@[simp] theorem e15r1 : type_of% f15r1.eq_1 := by_rfl f15r1.eq_1
@[simp] theorem e15r2 : type_of% f15r2.eq_1 := by_rfl f15r2.eq_1
@[simp] theorem e15r3 : type_of% f15r3.eq_1 := by_rfl f15r3.eq_1
@[simp] theorem e15r4 : type_of% f15r4.eq_1 := by_rfl f15r4.eq_1
theorem e_rock_bed : type_of% f_rock_bed.eq_1 := by_rfl f_rock_bed.eq_1
theorem ok_rock_bed : fnC Try.prog a_rock_bed Try.f15 = some f_rock_bed := by kernel_rfl

/-! 16 (fumarole/rock.Bed).plan -/
def f16r0 : List Abs.Op := [
  ⟨some 2, none, false, .boxi (.t 0)⟩,
  ⟨some 4, none, false, .mv (.c (.int .i64 0))⟩]

def f16r1 : List Abs.Op := [
  ⟨some 8, none, false, .mv (.t 1)⟩,
  ⟨some 9, none, false, .lenS (.t 8)⟩,
  ⟨some 10, none, false, .bin .gtr (.t 9) (.c (.int .i64 200))⟩]

def f16r2 : List Abs.Op := [
  ⟨some 4, none, false, .mv (.c (.int .i64 3))⟩]

def f16r3 : List Abs.Op := [
  ⟨some 11, none, false, .mv (.t 1)⟩,
  ⟨some 12, none, false, .lenS (.t 11)⟩,
  ⟨some 13, none, false, .mv (.c (.int .i64 0))⟩]

def f16r4 : List Abs.Op := [
  ⟨some 14, none, false, .bin .lss (.t 13) (.t 12)⟩]

def f16r5 : List Abs.Op := [
  ⟨some 15, none, false, .idxS 1 (.t 11) (.t 13)⟩,
  ⟨some 16, none, false, .ld false 1 (.t 15)⟩,
  ⟨some 6, none, false, .mv (.t 16)⟩]

def f16r6 : List Abs.Op := [
  ⟨some 17, none, false, .ld true 9 (.t 2)⟩,
  ⟨some 18, none, false, .mv (.t 6)⟩,
  ⟨some 19, none, false, .call false (.c (.fn i_rock_Bed_rates [] [])) [(.t 17), (.t 18)]⟩,
  ⟨some 7, none, false, .mv (.t 19)⟩]

def f16r7 : List Abs.Op := [
  ⟨some 20, none, false, .mv (.t 7)⟩,
  ⟨some 21, none, false, .bin .neq (.t 20) (.c (.int .i64 0))⟩]

def f16r8 : List Abs.Op := [
  ⟨some 22, none, false, .mv (.t 7)⟩,
  ⟨some 4, none, false, .mv (.t 22)⟩]

def f16r9 : List Abs.Op := [
  ⟨some 23, none, false, .bin .add (.t 13) (.c (.int .i64 1))⟩,
  ⟨some 13, none, false, .mv (.t 23)⟩]

def f_rock_Bed_plan_l10 : Abs.Cmd :=
  (.seq (.reg [2, 11, 12, 13, 14] f16r4) (.seq (.ite (.t 14) .nop (.exit 0)) (.seq (.blk 1 (.seq (.reg [2, 6, 11, 12, 13] f16r5) (.seq (.reg [2, 7, 11, 12, 13] f16r6) (.seq (.reg [2, 7, 11, 12, 13, 21] f16r7) (.ite (.t 21) (.seq (.reg [4] f16r8) .ret) .nop))))) (.reg [2, 11, 12, 13] f16r9))))

def f16r11 : List Abs.Op := [
  ⟨some 4, none, false, .mv (.c (.int .i64 0))⟩]

def a_rock_Bed_plan : Ann := ⟨[(10, [4]), (9, [2, 11, 12, 13]), (8, [4]), (7, [2, 7, 11, 12, 13, 21]), (6, [2, 7, 11, 12, 13]), (5, [2, 6, 11, 12, 13]), (4, [2, 11, 12, 13, 14]), (3, [2, 11, 12, 13]), (2, [4]), (1, [1, 2, 10]), (0, [1, 2])], [(0, [2, 11, 12, 13])], [], [], [], [], [], [], [], [], []⟩
def f_rock_Bed_plan : Abs.Fn := ⟨2, [.t 4],
  (.seq (.reg [1, 2] f16r0) (.seq (.seq (.reg [1, 2, 10] f16r1) (.ite (.t 10) (.seq (.reg [4] f16r2) .ret) .nop)) (.seq (.seq (.reg [2, 11, 12, 13] f16r3) (.blk 0 (.loop [2, 11, 12, 13] false f_rock_Bed_plan_l10))) (.seq (.reg [4] f16r11) .ret))))⟩

@[simp] theorem e16r0 : type_of% f16r0.eq_1 := by_rfl f16r0.eq_1
@[simp] theorem e16r1 : type_of% f16r1.eq_1 := by_rfl f16r1.eq_1
@[simp] theorem e16r2 : type_of% f16r2.eq_1 := by_rfl f16r2.eq_1
@[simp] theorem e16r3 : type_of% f16r3.eq_1 := by_rfl f16r3.eq_1
@[simp] theorem e16r4 : type_of% f16r4.eq_1 := by_rfl f16r4.eq_1
@[simp] theorem e16r5 : type_of% f16r5.eq_1 := by_rfl f16r5.eq_1
@[simp] theorem e16r6 : type_of% f16r6.eq_1 := by_rfl f16r6.eq_1
@[simp] theorem e16r7 : type_of% f16r7.eq_1 := by_rfl f16r7.eq_1
@[simp] theorem e16r8 : type_of% f16r8.eq_1 := by_rfl f16r8.eq_1
@[simp] theorem e16r9 : type_of% f16r9.eq_1 := by_rfl f16r9.eq_1
@[simp] theorem e16r11 : type_of% f16r11.eq_1 := by_rfl f16r11.eq_1
theorem e_rock_Bed_plan_l10 : type_of% f_rock_Bed_plan_l10.eq_1 := by_rfl f_rock_Bed_plan_l10.eq_1
theorem e_rock_Bed_plan : type_of% f_rock_Bed_plan.eq_1 := by_rfl f_rock_Bed_plan.eq_1
theorem ok_rock_Bed_plan : fnC Try.prog a_rock_Bed_plan Try.f16 = some f_rock_Bed_plan := by kernel_rfl

/-! 17 fumarole/rock.caught -/
def f17r0 : List Abs.Op := [
  ⟨some 5, none, false, .rcv⟩]

def f17r1 : List Abs.Op := [
  ⟨some 7, none, false, .isi false (.t 5)⟩]

def f17r2 : List Abs.Op := [
  ⟨some 2, none, false, .mv (.t 5)⟩]

def f17r3 : List Abs.Op := [
  ⟨some 8, none, false, .tas 107 (some (.agg [])) (.t 5)⟩,
  ⟨some 9, none, false, .ext (.t 8) 1⟩,
  ⟨some 10, none, false, .ext (.t 8) 0⟩]

def f17r4 : List Abs.Op := [
  ⟨some 3, none, false, .alcv [] []⟩,
  ⟨none, none, false, .stv 3 [] 0 3 (.t 10)⟩]

def f17r5 : List Abs.Op := [
  ⟨some 11, none, false, .mv (.t 0)⟩,
  ⟨some 12, none, false, .nck (.t 11)⟩,
  ⟨none, none, false, .st [] 1 (.t 12) (.c (.int .i64 9))⟩]

def f17r6 : List Abs.Op := [
  ⟨some 4, none, false, .mv (.t 5)⟩]

def f17r7 : List Abs.Op := [
  ⟨some 6, none, false, .mv (.t 4)⟩]

def f17r8 : List Abs.Op := [
  ]

def a_rock_caught : Ann := ⟨[(4, []), (7, []), (6, [0]), (2, []), (1, [4]), (5, [0, 5, 9, 10]), (3, [0, 5, 7]), (0, [0, 5])], [], [], [0, 3], [3], [], [], [], [], [], [(2, some 1)]⟩
def f_rock_caught : Abs.Fn := ⟨1, [],
  (.seq (.reg [0, 5] f17r0) (.blk 0 (.seq (.reg [0, 5, 7] f17r1) (.ite (.t 7) (.reg [] f17r2) (.seq (.reg [0, 5, 9, 10] f17r3) (.ite (.t 9) (.seq (.reg [0] f17r4) (.reg [] f17r5)) (.seq (.reg [4] f17r6) (.treg [] f17r7 ⟨none, none, false, .pan (.t 6)⟩ f17r8))))))))⟩

@[simp] theorem e17r0 : type_of% f17r0.eq_1 := by_rfl f17r0.eq_1
@[simp] theorem e17r1 : type_of% f17r1.eq_1 := by_rfl f17r1.eq_1
@[simp] theorem e17r2 : type_of% f17r2.eq_1 := by_rfl f17r2.eq_1
@[simp] theorem e17r3 : type_of% f17r3.eq_1 := by_rfl f17r3.eq_1
@[simp] theorem e17r4 : type_of% f17r4.eq_1 := by_rfl f17r4.eq_1
@[simp] theorem e17r5 : type_of% f17r5.eq_1 := by_rfl f17r5.eq_1
@[simp] theorem e17r6 : type_of% f17r6.eq_1 := by_rfl f17r6.eq_1
@[simp] theorem e17r7 : type_of% f17r7.eq_1 := by_rfl f17r7.eq_1
@[simp] theorem e17r8 : type_of% f17r8.eq_1 := by_rfl f17r8.eq_1
theorem e_rock_caught : type_of% f_rock_caught.eq_1 := by_rfl f_rock_caught.eq_1
theorem ok_rock_caught : fnC Try.prog a_rock_caught Try.f17 = some f_rock_caught := by kernel_rfl

/-! 18 (fumarole/rock.bedded).run -/
def f18r0 : List Abs.Op := [
  ⟨some 2, none, false, .boxi (.t 0)⟩,
  ⟨some 4, none, false, .alcv [(0, 1), (1, 1)] [.nils, .nils]⟩]

def f18r1 : List Abs.Op := [
  ⟨some 10, none, false, .ld true 11 (.t 2)⟩,
  ⟨some 11, none, false, .call false (.c (.fn i_rock_bedded_first [] [])) [(.t 10)]⟩,
  ⟨some 12, none, false, .bsm 1 1 [.nils] [(0, 1, (.t 11))]⟩,
  ⟨some 13, none, false, .fadr 0 (.t 4)⟩,
  ⟨none, none, false, .stv 4 [(0, 1), (1, 1)] 1 13 (.t 12)⟩]

def f18r2 : List Abs.Op := [
  ⟨some 14, none, false, .mv (.t 1)⟩,
  ⟨some 15, none, false, .lenS (.t 14)⟩,
  ⟨some 16, none, false, .mv (.c (.int .i64 0))⟩]

def f18r3 : List Abs.Op := [
  ⟨some 17, none, false, .bin .lss (.t 16) (.t 15)⟩]

def f18r4 : List Abs.Op := [
  ⟨some 18, none, false, .mv (.t 16)⟩,
  ⟨some 19, none, false, .idxS 1 (.t 14) (.t 16)⟩,
  ⟨some 20, none, false, .ld false 1 (.t 19)⟩,
  ⟨some 5, none, false, .mv (.t 18)⟩,
  ⟨some 6, none, false, .mv (.t 20)⟩]

def f18r5 : List Abs.Op := [
  ⟨some 22, none, true, .ld true 11 (.t 2)⟩,
  ⟨some 23, none, true, .fadr 0 (.t 4)⟩,
  ⟨some 24, none, true, .ldv 4 false 1 23⟩,
  ⟨some 25, none, true, .mv (.t 5)⟩,
  ⟨some 26, none, true, .idxS 1 (.t 24) (.t 25)⟩,
  ⟨some 27, none, true, .ld false 1 (.t 26)⟩,
  ⟨some 28, none, true, .mv (.t 6)⟩,
  ⟨some 29, none, true, .call false (.c (.fn i_rock_bedded_tick [] [])) [(.t 22), (.t 27), (.t 28)]⟩,
  ⟨some 21, none, true, .mv (.t 29)⟩,
  ⟨some 30, none, true, .ext (.t 21) 0⟩,
  ⟨some 31, none, true, .ext (.t 21) 1⟩,
  ⟨some 32, none, true, .ext (.t 21) 2⟩,
  ⟨some 7, none, true, .mv (.t 30)⟩,
  ⟨some 8, none, true, .mv (.t 31)⟩,
  ⟨some 9, none, false, .mv (.t 32)⟩]

def f18r6 : List Abs.Op := [
  ⟨some 33, none, false, .mv (.t 9)⟩,
  ⟨some 34, none, false, .bin .neq (.t 33) (.c (.int .i64 0))⟩]

def f18r7 : List Abs.Op := [
  ⟨some 35, none, false, .bld [] []⟩,
  ⟨some 36, none, false, .mki 107 (.t 35)⟩]

def f18r8 : List Abs.Op := [
  ]

def f18r9 : List Abs.Op := [
  ⟨some 37, none, true, .fadr 0 (.t 4)⟩,
  ⟨some 38, none, true, .ldv 4 false 1 37⟩,
  ⟨some 39, none, true, .mv (.t 7)⟩,
  ⟨some 40, none, true, .bsi 1 1 [.nils] [(0, 1, (.t 39))]⟩,
  ⟨some 41, none, true, .app 1 24 (.t 38) (.t 40)⟩,
  ⟨some 42, none, true, .fadr 1 (.t 4)⟩,
  ⟨some 43, none, true, .ldv 4 false 1 42⟩,
  ⟨some 44, none, true, .mv (.t 8)⟩,
  ⟨some 45, none, true, .bsi 1 1 [.nils] [(0, 1, (.t 44))]⟩,
  ⟨some 46, none, true, .app 1 24 (.t 43) (.t 45)⟩,
  ⟨some 47, none, true, .fadr 0 (.t 4)⟩,
  ⟨none, none, false, .stv 4 [(0, 1), (1, 1)] 1 47 (.t 41)⟩,
  ⟨some 48, none, false, .fadr 1 (.t 4)⟩,
  ⟨none, none, false, .stv 4 [(0, 1)] 1 48 (.t 46)⟩]

def f18r10 : List Abs.Op := [
  ⟨some 49, none, false, .bin .add (.t 16) (.c (.int .i64 1))⟩,
  ⟨some 16, none, false, .mv (.t 49)⟩]

def f_rock_bedded_run_l11 : Abs.Cmd :=
  (.seq (.reg [2, 4, 14, 15, 16, 17] f18r3) (.seq (.ite (.t 17) .nop (.exit 0)) (.seq (.blk 1 (.seq (.reg [2, 4, 5, 6, 14, 15, 16] f18r4) (.seq (.reg [2, 4, 7, 8, 9, 14, 15, 16] f18r5) (.seq (.seq (.reg [2, 4, 7, 8, 14, 15, 16, 34] f18r6) (.ite (.t 34) (.treg [2, 4, 7, 8, 14, 15, 16] f18r7 ⟨none, none, false, .pan (.t 36)⟩ f18r8) .nop)) (.reg [2, 4, 14, 15, 16] f18r9))))) (.reg [2, 4, 14, 15, 16] f18r10))))

def f18r12 : List Abs.Op := [
  ⟨some 50, none, false, .ldv 4 true 2 4⟩,
  ⟨none, none, false, .stv 4 [(0, 1), (1, 1)] 2 4 (.t 50)⟩]

def a_rock_bedded_run : Ann := ⟨[(10, [4]), (9, [2, 4, 14, 15, 16]), (8, [2, 4, 14, 15, 16]), (7, [2, 4, 7, 8, 14, 15, 16]), (6, [2, 4, 7, 8, 14, 15, 16, 34]), (5, [2, 4, 7, 8, 9, 14, 15, 16]), (4, [2, 4, 5, 6, 14, 15, 16]), (3, [2, 4, 14, 15, 16, 17]), (2, [2, 4, 14, 15, 16]), (1, [1, 2, 4]), (0, [1, 2, 4])], [(0, [2, 4, 14, 15, 16])], [], [4, 12], [4], [(1, [(0, 1), (1, 1)]), (1004, [(0, 1), (1, 1)]), (8011, [(0, 1), (1, 1)]), (8013, [(0, 1)]), (10001, [(0, 1), (1, 1)])], [], [], [], [], [(7, some 2)]⟩
def f_rock_bedded_run : Abs.Fn := ⟨2, [.v 4 true 2],
  (.seq (.reg [1, 2, 4] f18r0) (.seq (.reg [1, 2, 4] f18r1) (.seq (.seq (.reg [2, 4, 14, 15, 16] f18r2) (.blk 0 (.loop [2, 4, 14, 15, 16] false f_rock_bedded_run_l11))) (.seq (.reg [4] f18r12) .ret))))⟩

@[simp] theorem e18r0 : type_of% f18r0.eq_1 := by_rfl f18r0.eq_1
@[simp] theorem e18r1 : type_of% f18r1.eq_1 := by_rfl f18r1.eq_1
@[simp] theorem e18r2 : type_of% f18r2.eq_1 := by_rfl f18r2.eq_1
@[simp] theorem e18r3 : type_of% f18r3.eq_1 := by_rfl f18r3.eq_1
@[simp] theorem e18r4 : type_of% f18r4.eq_1 := by_rfl f18r4.eq_1
@[simp] theorem e18r5 : type_of% f18r5.eq_1 := by_rfl f18r5.eq_1
@[simp] theorem e18r6 : type_of% f18r6.eq_1 := by_rfl f18r6.eq_1
@[simp] theorem e18r7 : type_of% f18r7.eq_1 := by_rfl f18r7.eq_1
@[simp] theorem e18r8 : type_of% f18r8.eq_1 := by_rfl f18r8.eq_1
@[simp] theorem e18r9 : type_of% f18r9.eq_1 := by_rfl f18r9.eq_1
@[simp] theorem e18r10 : type_of% f18r10.eq_1 := by_rfl f18r10.eq_1
@[simp] theorem e18r12 : type_of% f18r12.eq_1 := by_rfl f18r12.eq_1
theorem e_rock_bedded_run_l11 : type_of% f_rock_bedded_run_l11.eq_1 := by_rfl f_rock_bedded_run_l11.eq_1
theorem e_rock_bedded_run : type_of% f_rock_bedded_run.eq_1 := by_rfl f_rock_bedded_run.eq_1
theorem ok_rock_bedded_run : fnC Try.prog a_rock_bedded_run Try.f18 = some f_rock_bedded_run := by kernel_rfl

/-! 19 (fumarole/rock.bedded).state -/
def f19r0 : List Abs.Op := [
  ⟨some 2, none, false, .boxi (.t 0)⟩,
  ⟨some 4, none, false, .mv (.c (.bool false))⟩]

def f19r1 : List Abs.Op := [
  ⟨some 5, none, false, .mv (.t 1)⟩,
  ⟨some 6, none, false, .lenS (.t 5)⟩,
  ⟨some 7, none, false, .fadr 0 (.t 2)⟩,
  ⟨some 8, none, false, .ld true 9 (.t 7)⟩,
  ⟨some 9, none, false, .call false (.c (.fn i_rock_Bed_size [] [])) [(.t 8)]⟩,
  ⟨some 10, none, false, .bin .eql (.t 6) (.t 9)⟩,
  ⟨some 11, none, false, .mv (.t 10)⟩,
  ⟨some 12, some (11, true), false, .mv (.t 1)⟩,
  ⟨some 13, some (11, true), false, .call false (.c (.fn i_rock_all_rock_Block [] [])) [(.t 12), (.c (.fn i_rock_Block_valid [] []))]⟩,
  ⟨some 14, none, false, .pick (.t 11) (.t 13) (.c (.bool false))⟩,
  ⟨some 4, none, false, .mv (.t 14)⟩]

def a_rock_bedded_state : Ann := ⟨[(1, [4]), (0, [1, 2])], [], [], [], [], [], [], [], [], [], []⟩
def f_rock_bedded_state : Abs.Fn := ⟨2, [.t 4],
  (.seq (.reg [1, 2] f19r0) (.seq (.reg [4] f19r1) .ret))⟩

@[simp] theorem e19r0 : type_of% f19r0.eq_1 := by_rfl f19r0.eq_1
@[simp] theorem e19r1 : type_of% f19r1.eq_1 := by_rfl f19r1.eq_1
theorem e_rock_bedded_state : type_of% f_rock_bedded_state.eq_1 := by_rfl f_rock_bedded_state.eq_1
theorem ok_rock_bedded_state : fnC Try.prog a_rock_bedded_state Try.f19 = some f_rock_bedded_state := by kernel_rfl

/-! 20 (fumarole/rock.bedded).pressures -/
def f20r0 : List Abs.Op := [
  ⟨some 2, none, false, .boxi (.t 0)⟩,
  ⟨some 4, none, false, .nilb 1⟩]

def f20r1 : List Abs.Op := [
  ⟨some 6, none, false, .mv (.t 1)⟩,
  ⟨some 7, none, false, .lenS (.t 6)⟩,
  ⟨some 8, none, false, .mv (.c (.int .i64 0))⟩]

def f20r2 : List Abs.Op := [
  ⟨some 9, none, false, .bin .lss (.t 8) (.t 7)⟩]

def f20r3 : List Abs.Op := [
  ⟨some 10, none, false, .mv (.t 8)⟩,
  ⟨some 5, none, false, .mv (.t 10)⟩]

def f20r4 : List Abs.Op := [
  ⟨some 11, none, false, .mv (.t 4)⟩,
  ⟨some 12, none, false, .ld true 11 (.t 2)⟩,
  ⟨some 13, none, false, .mv (.t 1)⟩,
  ⟨some 14, none, false, .mv (.t 5)⟩,
  ⟨some 15, none, false, .call false (.c (.fn i_rock_bedded_pressure [] [])) [(.t 12), (.t 13), (.t 14)]⟩,
  ⟨some 16, none, false, .bsi 1 1 [(.int .i64 0)] [(0, 1, (.t 15))]⟩,
  ⟨some 17, none, false, .app 1 8 (.t 11) (.t 16)⟩,
  ⟨some 4, none, false, .mv (.t 17)⟩]

def f20r5 : List Abs.Op := [
  ⟨some 18, none, false, .bin .add (.t 8) (.c (.int .i64 1))⟩,
  ⟨some 8, none, false, .mv (.t 18)⟩]

def f_rock_bedded_pressures_l6 : Abs.Cmd :=
  (.seq (.reg [1, 2, 4, 7, 8, 9] f20r2) (.seq (.ite (.t 9) .nop (.exit 0)) (.seq (.blk 1 (.seq (.reg [1, 2, 4, 5, 7, 8] f20r3) (.reg [1, 2, 4, 7, 8] f20r4))) (.reg [1, 2, 4, 7, 8] f20r5))))

def f20r7 : List Abs.Op := [
  ⟨some 19, none, false, .mv (.t 4)⟩,
  ⟨some 4, none, false, .mv (.t 19)⟩]

def a_rock_bedded_pressures : Ann := ⟨[(6, [4]), (5, [1, 2, 4, 7, 8]), (4, [1, 2, 4, 7, 8]), (3, [1, 2, 4, 5, 7, 8]), (2, [1, 2, 4, 7, 8, 9]), (1, [1, 2, 4, 7, 8]), (0, [1, 2, 4])], [(0, [1, 2, 4, 7, 8])], [], [4], [], [], [], [], [], [], []⟩
def f_rock_bedded_pressures : Abs.Fn := ⟨2, [.t 4],
  (.seq (.reg [1, 2, 4] f20r0) (.seq (.seq (.reg [1, 2, 4, 7, 8] f20r1) (.blk 0 (.loop [1, 2, 4, 7, 8] false f_rock_bedded_pressures_l6))) (.seq (.reg [4] f20r7) .ret)))⟩

@[simp] theorem e20r0 : type_of% f20r0.eq_1 := by_rfl f20r0.eq_1
@[simp] theorem e20r1 : type_of% f20r1.eq_1 := by_rfl f20r1.eq_1
@[simp] theorem e20r2 : type_of% f20r2.eq_1 := by_rfl f20r2.eq_1
@[simp] theorem e20r3 : type_of% f20r3.eq_1 := by_rfl f20r3.eq_1
@[simp] theorem e20r4 : type_of% f20r4.eq_1 := by_rfl f20r4.eq_1
@[simp] theorem e20r5 : type_of% f20r5.eq_1 := by_rfl f20r5.eq_1
@[simp] theorem e20r7 : type_of% f20r7.eq_1 := by_rfl f20r7.eq_1
theorem e_rock_bedded_pressures_l6 : type_of% f_rock_bedded_pressures_l6.eq_1 := by_rfl f_rock_bedded_pressures_l6.eq_1
theorem e_rock_bedded_pressures : type_of% f_rock_bedded_pressures.eq_1 := by_rfl f_rock_bedded_pressures.eq_1
theorem ok_rock_bedded_pressures : fnC Try.prog a_rock_bedded_pressures Try.f20 = some f_rock_bedded_pressures := by kernel_rfl

/-! 22 fumarole/trial.within -/
def f22r0 : List Abs.Op := [
  ⟨some 6, none, false, .mv (.c (.bool false))⟩]

def f22r1 : List Abs.Op := [
  ⟨some 7, none, false, .mv (.t 1)⟩,
  ⟨some 8, none, false, .mv (.t 0)⟩,
  ⟨some 9, none, false, .bin .leq (.t 7) (.t 8)⟩,
  ⟨some 10, none, false, .mv (.t 9)⟩,
  ⟨some 11, some (10, true), false, .mv (.t 0)⟩,
  ⟨some 12, some (10, true), false, .mv (.t 2)⟩,
  ⟨some 13, some (10, true), false, .bin .leq (.t 11) (.t 12)⟩,
  ⟨some 14, none, false, .pick (.t 10) (.t 13) (.c (.bool false))⟩,
  ⟨some 6, none, false, .mv (.t 14)⟩]

def a_trial_within : Ann := ⟨[(1, [6]), (0, [0, 1, 2])], [], [], [], [], [], [], [], [], [], []⟩
def f_trial_within : Abs.Fn := ⟨3, [.t 6],
  (.seq (.reg [0, 1, 2] f22r0) (.seq (.reg [6] f22r1) .ret))⟩

@[simp] theorem e22r0 : type_of% f22r0.eq_1 := by_rfl f22r0.eq_1
@[simp] theorem e22r1 : type_of% f22r1.eq_1 := by_rfl f22r1.eq_1
theorem e_trial_within : type_of% f_trial_within.eq_1 := by_rfl f_trial_within.eq_1
theorem ok_trial_within : fnC Try.prog a_trial_within Try.f22 = some f_trial_within := by kernel_rfl

/-! 26 fumarole/trial.CheckSurvey -/
def f26r0 : List Abs.Op := [
  ⟨some 1, none, false, .boxi (.t 0)⟩,
  ⟨some 2, none, false, .mv (.c (.int .i64 0))⟩]

def f26r1 : List Abs.Op := [
  ⟨some 5, none, false, .fadr 2 (.t 1)⟩,
  ⟨some 6, none, false, .ld false 1 (.t 5)⟩,
  ⟨some 7, none, false, .lenS (.t 6)⟩,
  ⟨some 8, none, false, .bin .gtr (.t 7) (.c (.int .i64 60))⟩]

def f26r2 : List Abs.Op := [
  ⟨some 2, none, false, .mv (.c (.int .i64 3))⟩]

def f26r3 : List Abs.Op := [
  ⟨some 9, none, false, .fadr 0 (.t 1)⟩,
  ⟨some 10, none, false, .ld false 1 (.t 9)⟩,
  ⟨some 11, none, false, .call false (.c (.fn i_trial_within [] [])) [(.t 10), (.c (.int .i64 1)), (.c (.int .i64 10))]⟩,
  ⟨some 12, none, false, .un .not (.t 11)⟩,
  ⟨some 13, none, false, .mv (.t 12)⟩,
  ⟨some 14, some (13, false), false, .fadr 1 (.t 1)⟩,
  ⟨some 15, some (13, false), false, .ld false 1 (.t 14)⟩,
  ⟨some 16, some (13, false), false, .call false (.c (.fn i_trial_within [] [])) [(.t 15), (.c (.int .i64 (-2000000000))), (.c (.int .i64 2000000000))]⟩,
  ⟨some 17, some (13, false), false, .un .not (.t 16)⟩,
  ⟨some 18, none, false, .pick (.t 13) (.c (.bool true)) (.t 17)⟩]

def f26r4 : List Abs.Op := [
  ⟨some 2, none, false, .mv (.c (.int .i64 1))⟩]

def f26r5 : List Abs.Op := [
  ⟨some 19, none, false, .fadr 2 (.t 1)⟩,
  ⟨some 20, none, false, .ld false 1 (.t 19)⟩,
  ⟨some 21, none, false, .lenS (.t 20)⟩,
  ⟨some 22, none, false, .mv (.c (.int .i64 0))⟩]

def f26r6 : List Abs.Op := [
  ⟨some 23, none, false, .bin .lss (.t 22) (.t 21)⟩]

def f26r7 : List Abs.Op := [
  ⟨some 24, none, false, .idxS 4 (.t 20) (.t 22)⟩,
  ⟨some 25, none, false, .ld true 4 (.t 24)⟩,
  ⟨some 4, none, false, .alcv [] [(.int .i64 0), (.int .i64 0), (.int .i64 0), (.int .i64 0)]⟩,
  ⟨none, none, false, .stv 4 [] 4 4 (.t 25)⟩]

def f26r8 : List Abs.Op := [
  ⟨some 26, none, false, .fadr 0 (.t 4)⟩,
  ⟨some 27, none, false, .ldv 4 false 1 26⟩,
  ⟨some 28, none, false, .fadr 0 (.t 1)⟩,
  ⟨some 29, none, false, .ld false 1 (.t 28)⟩,
  ⟨some 30, none, false, .bin .sub (.t 29) (.c (.int .i64 1))⟩,
  ⟨some 31, none, false, .call false (.c (.fn i_trial_within [] [])) [(.t 27), (.c (.int .i64 0)), (.t 30)]⟩,
  ⟨some 32, none, false, .un .not (.t 31)⟩,
  ⟨some 33, none, false, .mv (.t 32)⟩,
  ⟨some 34, some (33, false), false, .fadr 1 (.t 4)⟩,
  ⟨some 35, some (33, false), false, .ldv 4 false 1 34⟩,
  ⟨some 36, some (33, false), false, .fadr 0 (.t 1)⟩,
  ⟨some 37, some (33, false), false, .ld false 1 (.t 36)⟩,
  ⟨some 38, some (33, false), false, .bin .sub (.t 37) (.c (.int .i64 1))⟩,
  ⟨some 39, some (33, false), false, .call false (.c (.fn i_trial_within [] [])) [(.t 35), (.c (.int .i64 0)), (.t 38)]⟩,
  ⟨some 40, some (33, false), false, .un .not (.t 39)⟩,
  ⟨some 41, none, false, .pick (.t 33) (.c (.bool true)) (.t 40)⟩,
  ⟨some 42, none, false, .mv (.t 41)⟩,
  ⟨some 43, some (42, false), false, .fadr 0 (.t 4)⟩,
  ⟨some 44, some (42, false), false, .ldv 4 false 1 43⟩,
  ⟨some 45, some (42, false), false, .fadr 1 (.t 4)⟩,
  ⟨some 46, some (42, false), false, .ldv 4 false 1 45⟩,
  ⟨some 47, some (42, false), false, .bin .eql (.t 44) (.t 46)⟩,
  ⟨some 48, none, false, .pick (.t 42) (.c (.bool true)) (.t 47)⟩,
  ⟨some 49, none, false, .mv (.t 48)⟩,
  ⟨some 50, some (49, false), false, .fadr 2 (.t 4)⟩,
  ⟨some 51, some (49, false), false, .ldv 4 true 2 50⟩,
  ⟨some 52, some (49, false), false, .call false (.c (.fn i_trial_Range_drops [] [])) [(.t 51)]⟩,
  ⟨some 53, some (49, false), false, .un .not (.t 52)⟩,
  ⟨some 54, none, false, .pick (.t 49) (.c (.bool true)) (.t 53)⟩]

def f26r9 : List Abs.Op := [
  ⟨some 2, none, false, .mv (.c (.int .i64 1))⟩]

def f26r10 : List Abs.Op := [
  ⟨some 55, none, false, .bin .add (.t 22) (.c (.int .i64 1))⟩,
  ⟨some 22, none, false, .mv (.t 55)⟩]

def f_trial_CheckSurvey_l11 : Abs.Cmd :=
  (.seq (.reg [1, 20, 21, 22, 23] f26r6) (.seq (.ite (.t 23) .nop (.exit 0)) (.seq (.blk 1 (.seq (.reg [1, 4, 20, 21, 22] f26r7) (.seq (.reg [1, 20, 21, 22, 54] f26r8) (.ite (.t 54) (.seq (.reg [2] f26r9) .ret) .nop)))) (.reg [1, 20, 21, 22] f26r10))))

def f26r12 : List Abs.Op := [
  ⟨some 2, none, false, .mv (.c (.int .i64 0))⟩]

def a_trial_CheckSurvey : Ann := ⟨[(11, [2]), (10, [1, 20, 21, 22]), (9, [2]), (8, [1, 20, 21, 22, 54]), (7, [1, 4, 20, 21, 22]), (6, [1, 20, 21, 22, 23]), (5, [1, 20, 21, 22]), (4, [2]), (3, [1, 18]), (2, [2]), (1, [1, 8]), (0, [1])], [(0, [1, 20, 21, 22])], [], [4], [4], [], [], [], [], [], []⟩
def f_trial_CheckSurvey : Abs.Fn := ⟨1, [.t 2],
  (.seq (.reg [1] f26r0) (.seq (.seq (.reg [1, 8] f26r1) (.ite (.t 8) (.seq (.reg [2] f26r2) .ret) .nop)) (.seq (.seq (.reg [1, 18] f26r3) (.ite (.t 18) (.seq (.reg [2] f26r4) .ret) .nop)) (.seq (.seq (.reg [1, 20, 21, 22] f26r5) (.blk 0 (.loop [1, 20, 21, 22] false f_trial_CheckSurvey_l11))) (.seq (.reg [2] f26r12) .ret)))))⟩

@[simp] theorem e26r0 : type_of% f26r0.eq_1 := by_rfl f26r0.eq_1
@[simp] theorem e26r1 : type_of% f26r1.eq_1 := by_rfl f26r1.eq_1
@[simp] theorem e26r2 : type_of% f26r2.eq_1 := by_rfl f26r2.eq_1
@[simp] theorem e26r3 : type_of% f26r3.eq_1 := by_rfl f26r3.eq_1
@[simp] theorem e26r4 : type_of% f26r4.eq_1 := by_rfl f26r4.eq_1
@[simp] theorem e26r5 : type_of% f26r5.eq_1 := by_rfl f26r5.eq_1
@[simp] theorem e26r6 : type_of% f26r6.eq_1 := by_rfl f26r6.eq_1
@[simp] theorem e26r7 : type_of% f26r7.eq_1 := by_rfl f26r7.eq_1
@[simp] theorem e26r8 : type_of% f26r8.eq_1 := by_rfl f26r8.eq_1
@[simp] theorem e26r9 : type_of% f26r9.eq_1 := by_rfl f26r9.eq_1
@[simp] theorem e26r10 : type_of% f26r10.eq_1 := by_rfl f26r10.eq_1
@[simp] theorem e26r12 : type_of% f26r12.eq_1 := by_rfl f26r12.eq_1
theorem e_trial_CheckSurvey_l11 : type_of% f_trial_CheckSurvey_l11.eq_1 := by_rfl f_trial_CheckSurvey_l11.eq_1
theorem e_trial_CheckSurvey : type_of% f_trial_CheckSurvey.eq_1 := by_rfl f_trial_CheckSurvey.eq_1
theorem ok_trial_CheckSurvey : fnC Try.prog a_trial_CheckSurvey Try.f26 = some f_trial_CheckSurvey := by kernel_rfl

/-! 27 (fumarole/trial.Survey).fits -/
def f27r0 : List Abs.Op := [
  ⟨some 2, none, false, .boxi (.t 0)⟩,
  ⟨some 4, none, false, .mv (.c (.bool false))⟩]

def f27r1 : List Abs.Op := [
  ⟨some 8, none, false, .fadr 2 (.t 2)⟩,
  ⟨some 9, none, false, .ld false 1 (.t 8)⟩,
  ⟨some 10, none, false, .lenS (.t 9)⟩,
  ⟨some 11, none, false, .mv (.c (.int .i64 0))⟩]

def f27r2 : List Abs.Op := [
  ⟨some 12, none, false, .bin .lss (.t 11) (.t 10)⟩]

def f27r3 : List Abs.Op := [
  ⟨some 13, none, false, .idxS 4 (.t 9) (.t 11)⟩,
  ⟨some 14, none, false, .ld true 4 (.t 13)⟩,
  ⟨some 6, none, false, .alcv [] [(.int .i64 0), (.int .i64 0), (.int .i64 0), (.int .i64 0)]⟩,
  ⟨none, none, false, .stv 6 [] 4 6 (.t 14)⟩]

def f27r4 : List Abs.Op := [
  ⟨some 15, none, true, .mv (.t 1)⟩,
  ⟨some 16, none, true, .fadr 0 (.t 6)⟩,
  ⟨some 17, none, true, .ldv 6 false 1 16⟩,
  ⟨some 18, none, true, .idxS 1 (.t 15) (.t 17)⟩,
  ⟨some 19, none, true, .ld false 1 (.t 18)⟩,
  ⟨some 20, none, true, .mv (.t 1)⟩,
  ⟨some 21, none, true, .fadr 1 (.t 6)⟩,
  ⟨some 22, none, true, .ldv 6 false 1 21⟩,
  ⟨some 23, none, true, .idxS 1 (.t 20) (.t 22)⟩,
  ⟨some 24, none, true, .ld false 1 (.t 23)⟩,
  ⟨some 25, none, false, .bin .eql (.t 19) (.t 24)⟩,
  ⟨some 7, none, false, .mv (.t 25)⟩]

def f27r5 : List Abs.Op := [
  ⟨some 26, none, false, .ld true 3 (.t 2)⟩,
  ⟨some 27, none, false, .ldv 6 true 4 6⟩,
  ⟨some 28, none, false, .call false (.c (.fn i_trial_Survey_joined [] [])) [(.t 26), (.t 27)]⟩,
  ⟨some 29, none, false, .mv (.t 28)⟩,
  ⟨some 30, some (29, true), false, .mv (.t 7)⟩,
  ⟨some 31, some (29, true), false, .un .not (.t 30)⟩,
  ⟨some 32, none, false, .pick (.t 29) (.t 31) (.c (.bool false))⟩,
  ⟨some 33, none, false, .mv (.t 32)⟩,
  ⟨some 34, some (33, false), false, .ld true 3 (.t 2)⟩,
  ⟨some 35, some (33, false), false, .ldv 6 true 4 6⟩,
  ⟨some 36, some (33, false), false, .call false (.c (.fn i_trial_Survey_apart [] [])) [(.t 34), (.t 35)]⟩,
  ⟨some 37, some (33, false), false, .mv (.t 36)⟩,
  ⟨some 38, some (37, true), false, .mv (.t 7)⟩,
  ⟨some 39, some (33, false), false, .pick (.t 37) (.t 38) (.c (.bool false))⟩,
  ⟨some 40, none, false, .pick (.t 33) (.c (.bool true)) (.t 39)⟩]

def f27r6 : List Abs.Op := [
  ⟨some 4, none, false, .mv (.c (.bool false))⟩]

def f27r7 : List Abs.Op := [
  ⟨some 41, none, false, .bin .add (.t 11) (.c (.int .i64 1))⟩,
  ⟨some 11, none, false, .mv (.t 41)⟩]

def f_trial_Survey_fits_l8 : Abs.Cmd :=
  (.seq (.reg [1, 2, 9, 10, 11, 12] f27r2) (.seq (.ite (.t 12) .nop (.exit 0)) (.seq (.blk 1 (.seq (.reg [1, 2, 6, 9, 10, 11] f27r3) (.seq (.reg [1, 2, 6, 7, 9, 10, 11] f27r4) (.seq (.reg [1, 2, 9, 10, 11, 40] f27r5) (.ite (.t 40) (.seq (.reg [4] f27r6) .ret) .nop))))) (.reg [1, 2, 9, 10, 11] f27r7))))

def f27r9 : List Abs.Op := [
  ⟨some 4, none, false, .mv (.c (.bool true))⟩]

def a_trial_Survey_fits : Ann := ⟨[(8, [4]), (7, [1, 2, 9, 10, 11]), (6, [4]), (5, [1, 2, 9, 10, 11, 40]), (4, [1, 2, 6, 7, 9, 10, 11]), (3, [1, 2, 6, 9, 10, 11]), (2, [1, 2, 9, 10, 11, 12]), (1, [1, 2, 9, 10, 11]), (0, [1, 2])], [(0, [1, 2, 9, 10, 11])], [], [6], [6], [], [], [], [], [], []⟩
def f_trial_Survey_fits : Abs.Fn := ⟨2, [.t 4],
  (.seq (.reg [1, 2] f27r0) (.seq (.seq (.reg [1, 2, 9, 10, 11] f27r1) (.blk 0 (.loop [1, 2, 9, 10, 11] false f_trial_Survey_fits_l8))) (.seq (.reg [4] f27r9) .ret)))⟩

@[simp] theorem e27r0 : type_of% f27r0.eq_1 := by_rfl f27r0.eq_1
@[simp] theorem e27r1 : type_of% f27r1.eq_1 := by_rfl f27r1.eq_1
@[simp] theorem e27r2 : type_of% f27r2.eq_1 := by_rfl f27r2.eq_1
@[simp] theorem e27r3 : type_of% f27r3.eq_1 := by_rfl f27r3.eq_1
@[simp] theorem e27r4 : type_of% f27r4.eq_1 := by_rfl f27r4.eq_1
@[simp] theorem e27r5 : type_of% f27r5.eq_1 := by_rfl f27r5.eq_1
@[simp] theorem e27r6 : type_of% f27r6.eq_1 := by_rfl f27r6.eq_1
@[simp] theorem e27r7 : type_of% f27r7.eq_1 := by_rfl f27r7.eq_1
@[simp] theorem e27r9 : type_of% f27r9.eq_1 := by_rfl f27r9.eq_1
theorem e_trial_Survey_fits_l8 : type_of% f_trial_Survey_fits_l8.eq_1 := by_rfl f_trial_Survey_fits_l8.eq_1
theorem e_trial_Survey_fits : type_of% f_trial_Survey_fits.eq_1 := by_rfl f_trial_Survey_fits.eq_1
theorem ok_trial_Survey_fits : fnC Try.prog a_trial_Survey_fits Try.f27 = some f_trial_Survey_fits := by kernel_rfl

/-! 28 fumarole/trial.checked -/
def f28r0 : List Abs.Op := [
  ⟨some 1, none, false, .boxi (.t 0)⟩,
  ⟨some 2, none, false, .alcv [] [(.int .i64 0), (.int .i64 0), .nils, (.int .i64 0), (.int .i64 0), (.int .i64 0), (.int .i64 0), (.int .i64 0), (.int .i64 0), (.int .i64 0), (.int .i64 0), (.int .i64 0), (.int .i64 0)]⟩,
  ⟨some 3, none, false, .mv (.c (.int .i64 0))⟩]

def f28r1 : List Abs.Op := [
  ⟨some 6, none, false, .ld true 3 (.t 1)⟩,
  ⟨some 7, none, false, .call false (.c (.fn i_trial_CheckSurvey [] [])) [(.t 6)]⟩,
  ⟨some 4, none, false, .mv (.t 7)⟩]

def f28r2 : List Abs.Op := [
  ⟨some 8, none, false, .mv (.t 4)⟩,
  ⟨some 9, none, false, .bin .neq (.t 8) (.c (.int .i64 0))⟩]

def f28r3 : List Abs.Op := [
  ⟨some 10, none, false, .bld [(.int .i64 0), (.int .i64 0), .nils, (.int .i64 0), (.int .i64 0), (.int .i64 0), (.int .i64 0), (.int .i64 0), (.int .i64 0), (.int .i64 0), (.int .i64 0), (.int .i64 0), (.int .i64 0)] []⟩,
  ⟨some 11, none, false, .mv (.t 4)⟩,
  ⟨none, none, false, .stv 2 [] 13 2 (.t 10)⟩,
  ⟨some 3, none, false, .mv (.t 11)⟩]

def f28r4 : List Abs.Op := [
  ⟨some 12, none, false, .ld true 3 (.t 1)⟩,
  ⟨some 13, none, false, .call false (.c (.fn i_trial_Survey_groups [] [])) [(.t 12)]⟩,
  ⟨some 5, none, false, .alcv [] [(.int .i64 0), (.int .i64 0), .nils, (.int .i64 0), (.int .i64 0), (.int .i64 0), (.int .i64 0), (.int .i64 0), (.int .i64 0), (.int .i64 0), (.int .i64 0), (.int .i64 0), (.int .i64 0)]⟩,
  ⟨none, none, false, .stv 5 [] 13 5 (.t 13)⟩]

def f28r5 : List Abs.Op := [
  ⟨some 14, none, false, .ldv 5 true 13 5⟩,
  ⟨some 15, none, false, .call false (.c (.fn i_trial_parted_clash [] [])) [(.t 14)]⟩,
  ⟨some 16, none, false, .bin .geq (.t 15) (.c (.int .i64 0))⟩]

def f28r6 : List Abs.Op := [
  ⟨some 17, none, false, .bld [(.int .i64 0), (.int .i64 0), .nils, (.int .i64 0), (.int .i64 0), (.int .i64 0), (.int .i64 0), (.int .i64 0), (.int .i64 0), (.int .i64 0), (.int .i64 0), (.int .i64 0), (.int .i64 0)] []⟩,
  ⟨none, none, false, .stv 2 [] 13 2 (.t 17)⟩,
  ⟨some 3, none, false, .mv (.c (.int .i64 9))⟩]

def f28r7 : List Abs.Op := [
  ⟨some 18, none, false, .ldv 5 true 13 5⟩,
  ⟨none, none, false, .stv 2 [] 13 2 (.t 18)⟩,
  ⟨some 3, none, false, .mv (.c (.int .i64 0))⟩]

def a_trial_checked : Ann := ⟨[(7, [2, 3]), (6, [2, 3]), (5, [2, 5, 16]), (4, [2, 5]), (3, [2, 3]), (2, [1, 2, 4, 9]), (1, [1, 2, 4]), (0, [1, 2])], [], [], [2, 5], [2, 5], [], [], [], [], [], []⟩
def f_trial_checked : Abs.Fn := ⟨1, [.v 2 true 13, .t 3],
  (.seq (.reg [1, 2] f28r0) (.seq (.seq (.reg [1, 2, 4] f28r1) (.seq (.reg [1, 2, 4, 9] f28r2) (.ite (.t 9) (.seq (.reg [2, 3] f28r3) .ret) .nop))) (.seq (.reg [2, 5] f28r4) (.seq (.seq (.reg [2, 5, 16] f28r5) (.ite (.t 16) (.seq (.reg [2, 3] f28r6) .ret) .nop)) (.seq (.reg [2, 3] f28r7) .ret)))))⟩

@[simp] theorem e28r0 : type_of% f28r0.eq_1 := by_rfl f28r0.eq_1
@[simp] theorem e28r1 : type_of% f28r1.eq_1 := by_rfl f28r1.eq_1
@[simp] theorem e28r2 : type_of% f28r2.eq_1 := by_rfl f28r2.eq_1
@[simp] theorem e28r3 : type_of% f28r3.eq_1 := by_rfl f28r3.eq_1
@[simp] theorem e28r4 : type_of% f28r4.eq_1 := by_rfl f28r4.eq_1
@[simp] theorem e28r5 : type_of% f28r5.eq_1 := by_rfl f28r5.eq_1
@[simp] theorem e28r6 : type_of% f28r6.eq_1 := by_rfl f28r6.eq_1
@[simp] theorem e28r7 : type_of% f28r7.eq_1 := by_rfl f28r7.eq_1
theorem e_trial_checked : type_of% f_trial_checked.eq_1 := by_rfl f_trial_checked.eq_1
theorem ok_trial_checked : fnC Try.prog a_trial_checked Try.f28 = some f_trial_checked := by kernel_rfl

/-! 29 (fumarole/trial.parted).relation -/
def f29r0 : List Abs.Op := [
  ⟨some 3, none, false, .boxi (.t 0)⟩,
  ⟨some 6, none, false, .mv (.c (.int .u8 0))⟩]

def f29r1 : List Abs.Op := [
  ⟨some 11, none, true, .mv (.t 1)⟩,
  ⟨some 12, none, true, .fadr 3 (.t 3)⟩,
  ⟨some 13, none, true, .idxA 10 1 (.t 12) (.t 11)⟩,
  ⟨some 14, none, true, .ld false 1 (.t 13)⟩,
  ⟨some 15, none, true, .mv (.t 2)⟩,
  ⟨some 16, none, true, .fadr 3 (.t 3)⟩,
  ⟨some 17, none, true, .idxA 10 1 (.t 16) (.t 15)⟩,
  ⟨some 18, none, true, .ld false 1 (.t 17)⟩,
  ⟨some 19, none, false, .bin .eql (.t 14) (.t 18)⟩]

def f29r2 : List Abs.Op := [
  ⟨some 6, none, false, .mv (.c (.int .u8 2))⟩]

def f29r3 : List Abs.Op := [
  ⟨some 20, none, false, .fadr 0 (.t 3)⟩,
  ⟨some 21, none, false, .fadr 2 (.t 20)⟩,
  ⟨some 22, none, false, .ld false 1 (.t 21)⟩,
  ⟨some 23, none, false, .lenS (.t 22)⟩,
  ⟨some 24, none, false, .mv (.c (.int .i64 0))⟩]

def f29r4 : List Abs.Op := [
  ⟨some 25, none, false, .bin .lss (.t 24) (.t 23)⟩]

def f29r5 : List Abs.Op := [
  ⟨some 26, none, false, .idxS 4 (.t 22) (.t 24)⟩,
  ⟨some 27, none, false, .ld true 4 (.t 26)⟩,
  ⟨some 8, none, false, .alcv [] [(.int .i64 0), (.int .i64 0), (.int .i64 0), (.int .i64 0)]⟩,
  ⟨none, none, false, .stv 8 [] 4 8 (.t 27)⟩]

def f29r6 : List Abs.Op := [
  ⟨some 28, none, true, .fadr 0 (.t 8)⟩,
  ⟨some 29, none, true, .ldv 8 false 1 28⟩,
  ⟨some 30, none, true, .fadr 3 (.t 3)⟩,
  ⟨some 31, none, true, .idxA 10 1 (.t 30) (.t 29)⟩,
  ⟨some 32, none, true, .ld false 1 (.t 31)⟩,
  ⟨some 33, none, true, .fadr 1 (.t 8)⟩,
  ⟨some 34, none, true, .ldv 8 false 1 33⟩,
  ⟨some 35, none, true, .fadr 3 (.t 3)⟩,
  ⟨some 36, none, true, .idxA 10 1 (.t 35) (.t 34)⟩,
  ⟨some 37, none, true, .ld false 1 (.t 36)⟩,
  ⟨some 9, none, true, .mv (.t 32)⟩,
  ⟨some 10, none, false, .mv (.t 37)⟩]

def f29r7 : List Abs.Op := [
  ⟨some 38, none, false, .fadr 0 (.t 3)⟩,
  ⟨some 39, none, false, .ld true 3 (.t 38)⟩,
  ⟨some 40, none, false, .ldv 8 true 4 8⟩,
  ⟨some 41, none, false, .call false (.c (.fn i_trial_Survey_apart [] [])) [(.t 39), (.t 40)]⟩,
  ⟨some 42, none, false, .mv (.t 41)⟩,
  ⟨some 43, some (42, true), false, .mv (.t 9)⟩,
  ⟨some 44, some (42, true), false, .mv (.t 1)⟩,
  ⟨some 45, some (42, true), false, .fadr 3 (.t 3)⟩,
  ⟨some 46, some (42, true), false, .idxA 10 1 (.t 45) (.t 44)⟩,
  ⟨some 47, some (42, true), false, .ld false 1 (.t 46)⟩,
  ⟨some 48, some (42, true), false, .bin .eql (.t 43) (.t 47)⟩,
  ⟨some 49, some (42, true), false, .mv (.t 48)⟩,
  ⟨some 50, some (49, true), false, .mv (.t 10)⟩,
  ⟨some 51, some (49, true), false, .mv (.t 2)⟩,
  ⟨some 52, some (49, true), false, .fadr 3 (.t 3)⟩,
  ⟨some 53, some (49, true), false, .idxA 10 1 (.t 52) (.t 51)⟩,
  ⟨some 54, some (49, true), false, .ld false 1 (.t 53)⟩,
  ⟨some 55, some (49, true), false, .bin .eql (.t 50) (.t 54)⟩,
  ⟨some 56, some (42, true), false, .pick (.t 49) (.t 55) (.c (.bool false))⟩,
  ⟨some 57, some (42, true), false, .mv (.t 56)⟩,
  ⟨some 58, some (57, false), false, .mv (.t 9)⟩,
  ⟨some 59, some (57, false), false, .mv (.t 2)⟩,
  ⟨some 60, some (57, false), false, .fadr 3 (.t 3)⟩,
  ⟨some 61, some (57, false), false, .idxA 10 1 (.t 60) (.t 59)⟩,
  ⟨some 62, some (57, false), false, .ld false 1 (.t 61)⟩,
  ⟨some 63, some (57, false), false, .bin .eql (.t 58) (.t 62)⟩,
  ⟨some 64, some (57, false), false, .mv (.t 63)⟩,
  ⟨some 65, some (64, true), false, .mv (.t 10)⟩,
  ⟨some 66, some (64, true), false, .mv (.t 1)⟩,
  ⟨some 67, some (64, true), false, .fadr 3 (.t 3)⟩,
  ⟨some 68, some (64, true), false, .idxA 10 1 (.t 67) (.t 66)⟩,
  ⟨some 69, some (64, true), false, .ld false 1 (.t 68)⟩,
  ⟨some 70, some (64, true), false, .bin .eql (.t 65) (.t 69)⟩,
  ⟨some 71, some (57, false), false, .pick (.t 64) (.t 70) (.c (.bool false))⟩,
  ⟨some 72, some (42, true), false, .pick (.t 57) (.c (.bool true)) (.t 71)⟩,
  ⟨some 73, none, false, .pick (.t 42) (.t 72) (.c (.bool false))⟩]

def f29r8 : List Abs.Op := [
  ⟨some 6, none, false, .mv (.c (.int .u8 0))⟩]

def f29r9 : List Abs.Op := [
  ⟨some 74, none, false, .bin .add (.t 24) (.c (.int .i64 1))⟩,
  ⟨some 24, none, false, .mv (.t 74)⟩]

def f_trial_parted_relation_l10 : Abs.Cmd :=
  (.seq (.reg [1, 2, 3, 22, 23, 24, 25] f29r4) (.seq (.ite (.t 25) .nop (.exit 0)) (.seq (.blk 1 (.seq (.reg [1, 2, 3, 8, 22, 23, 24] f29r5) (.seq (.reg [1, 2, 3, 8, 9, 10, 22, 23, 24] f29r6) (.seq (.reg [1, 2, 3, 22, 23, 24, 73] f29r7) (.ite (.t 73) (.seq (.reg [6] f29r8) .ret) .nop))))) (.reg [1, 2, 3, 22, 23, 24] f29r9))))

def f29r11 : List Abs.Op := [
  ⟨some 6, none, false, .mv (.c (.int .u8 1))⟩]

def a_trial_parted_relation : Ann := ⟨[(10, [6]), (9, [1, 2, 3, 22, 23, 24]), (8, [6]), (7, [1, 2, 3, 22, 23, 24, 73]), (6, [1, 2, 3, 8, 9, 10, 22, 23, 24]), (5, [1, 2, 3, 8, 22, 23, 24]), (4, [1, 2, 3, 22, 23, 24, 25]), (3, [1, 2, 3, 22, 23, 24]), (2, [6]), (1, [1, 2, 3, 19]), (0, [1, 2, 3])], [(0, [1, 2, 3, 22, 23, 24])], [], [8], [8], [], [], [], [], [], []⟩
def f_trial_parted_relation : Abs.Fn := ⟨3, [.t 6],
  (.seq (.reg [1, 2, 3] f29r0) (.seq (.seq (.reg [1, 2, 3, 19] f29r1) (.ite (.t 19) (.seq (.reg [6] f29r2) .ret) .nop)) (.seq (.seq (.reg [1, 2, 3, 22, 23, 24] f29r3) (.blk 0 (.loop [1, 2, 3, 22, 23, 24] false f_trial_parted_relation_l10))) (.seq (.reg [6] f29r11) .ret))))⟩

@[simp] theorem e29r0 : type_of% f29r0.eq_1 := by_rfl f29r0.eq_1
@[simp] theorem e29r1 : type_of% f29r1.eq_1 := by_rfl f29r1.eq_1
@[simp] theorem e29r2 : type_of% f29r2.eq_1 := by_rfl f29r2.eq_1
@[simp] theorem e29r3 : type_of% f29r3.eq_1 := by_rfl f29r3.eq_1
@[simp] theorem e29r4 : type_of% f29r4.eq_1 := by_rfl f29r4.eq_1
@[simp] theorem e29r5 : type_of% f29r5.eq_1 := by_rfl f29r5.eq_1
@[simp] theorem e29r6 : type_of% f29r6.eq_1 := by_rfl f29r6.eq_1
@[simp] theorem e29r7 : type_of% f29r7.eq_1 := by_rfl f29r7.eq_1
@[simp] theorem e29r8 : type_of% f29r8.eq_1 := by_rfl f29r8.eq_1
@[simp] theorem e29r9 : type_of% f29r9.eq_1 := by_rfl f29r9.eq_1
@[simp] theorem e29r11 : type_of% f29r11.eq_1 := by_rfl f29r11.eq_1
theorem e_trial_parted_relation_l10 : type_of% f_trial_parted_relation_l10.eq_1 := by_rfl f_trial_parted_relation_l10.eq_1
theorem e_trial_parted_relation : type_of% f_trial_parted_relation.eq_1 := by_rfl f_trial_parted_relation.eq_1
theorem ok_trial_parted_relation : fnC Try.prog a_trial_parted_relation Try.f29 = some f_trial_parted_relation := by kernel_rfl

/-! 30 (fumarole/rock.Bed).valid -/
def f30r0 : List Abs.Op := [
  ⟨some 1, none, false, .boxi (.t 0)⟩,
  ⟨some 2, none, false, .mv (.c (.bool false))⟩]

def f30r1 : List Abs.Op := [
  ⟨some 4, none, false, .fadr 0 (.t 1)⟩,
  ⟨some 5, none, false, .ld true 4 (.t 4)⟩,
  ⟨some 6, none, false, .call false (.c (.fn i_field_CheckField [] [])) [(.t 5)]⟩,
  ⟨some 7, none, false, .bin .neq (.t 6) (.c (.int .i64 0))⟩,
  ⟨some 8, none, false, .mv (.t 7)⟩,
  ⟨some 9, some (8, false), false, .fadr 0 (.t 1)⟩,
  ⟨some 10, some (8, false), false, .fadr 3 (.t 9)⟩,
  ⟨some 11, some (8, false), false, .ld false 1 (.t 10)⟩,
  ⟨some 12, some (8, false), false, .bin .lss (.t 11) (.c (.int .i64 4))⟩,
  ⟨some 13, none, false, .pick (.t 8) (.c (.bool true)) (.t 12)⟩,
  ⟨some 14, none, false, .mv (.t 13)⟩,
  ⟨some 15, some (14, false), false, .fadr 4 (.t 1)⟩,
  ⟨some 16, some (14, false), false, .ld false 1 (.t 15)⟩,
  ⟨some 17, some (14, false), false, .call false (.c (.fn i_steam_CheckTable [] [])) [(.t 16)]⟩,
  ⟨some 18, some (14, false), false, .bin .neq (.t 17) (.c (.int .i64 0))⟩,
  ⟨some 19, none, false, .pick (.t 14) (.c (.bool true)) (.t 18)⟩,
  ⟨some 20, none, false, .mv (.t 19)⟩,
  ⟨some 21, some (20, false), false, .fadr 5 (.t 1)⟩,
  ⟨some 22, some (20, false), false, .ld false 1 (.t 21)⟩,
  ⟨some 23, some (20, false), false, .call false (.c (.fn i_rock_within [] [])) [(.t 22), (.c (.int .i64 1)), (.c (.int .i64 100000))]⟩,
  ⟨some 24, some (20, false), false, .un .not (.t 23)⟩,
  ⟨some 25, none, false, .pick (.t 20) (.c (.bool true)) (.t 24)⟩,
  ⟨some 26, none, false, .mv (.t 25)⟩,
  ⟨some 27, some (26, false), false, .fadr 6 (.t 1)⟩,
  ⟨some 28, some (26, false), false, .ld false 1 (.t 27)⟩,
  ⟨some 29, some (26, false), false, .call false (.c (.fn i_rock_within [] [])) [(.t 28), (.c (.int .i64 0)), (.c (.int .i64 1000))]⟩,
  ⟨some 30, some (26, false), false, .un .not (.t 29)⟩,
  ⟨some 31, none, false, .pick (.t 26) (.c (.bool true)) (.t 30)⟩,
  ⟨some 32, none, false, .mv (.t 31)⟩,
  ⟨some 33, some (32, false), false, .fadr 7 (.t 1)⟩,
  ⟨some 34, some (32, false), false, .ld false 1 (.t 33)⟩,
  ⟨some 35, some (32, false), false, .call false (.c (.fn i_rock_within [] [])) [(.t 34), (.c (.int .i64 0)), (.c (.int .i64 3000))]⟩,
  ⟨some 36, some (32, false), false, .un .not (.t 35)⟩,
  ⟨some 37, none, false, .pick (.t 32) (.c (.bool true)) (.t 36)⟩,
  ⟨some 38, none, false, .mv (.t 37)⟩,
  ⟨some 39, some (38, false), false, .fadr 8 (.t 1)⟩,
  ⟨some 40, some (38, false), false, .ld false 1 (.t 39)⟩,
  ⟨some 41, some (38, false), false, .lenS (.t 40)⟩,
  ⟨some 42, some (38, false), false, .bin .gtr (.t 41) (.c (.int .i64 8))⟩,
  ⟨some 43, none, false, .pick (.t 38) (.c (.bool true)) (.t 42)⟩]

def f30r2 : List Abs.Op := [
  ⟨some 2, none, false, .mv (.c (.bool false))⟩]

def f30r3 : List Abs.Op := [
  ⟨some 44, none, false, .ld true 9 (.t 1)⟩,
  ⟨some 45, none, false, .call false (.c (.fn i_rock_Bed_size [] [])) [(.t 44)]⟩,
  ⟨some 46, none, false, .mks 1 1 [(.bool false)] (.t 45) (.t 45)⟩,
  ⟨some 3, none, false, .alc [] [.nils]⟩,
  ⟨none, none, false, .st [] 1 (.t 3) (.t 46)⟩]

def f30r4 : List Abs.Op := [
  ⟨some 47, none, false, .fadr 8 (.t 1)⟩,
  ⟨some 48, none, false, .ld false 1 (.t 47)⟩,
  ⟨some 49, none, false, .mkf i_rock_Bed_valid_1 [] [(.t 3)]⟩,
  ⟨some 50, none, false, .call false (.c (.fn i_rock_all_rock_Bore [] [])) [(.t 48), (.t 49)]⟩,
  ⟨some 2, none, false, .mv (.t 50)⟩]

def a_rock_Bed_valid : Ann := ⟨[(4, [2]), (3, [1, 3]), (2, [2]), (1, [1, 43]), (0, [1])], [], [], [3], [], [], [], [], [], [], []⟩
def f_rock_Bed_valid : Abs.Fn := ⟨1, [.t 2],
  (.seq (.reg [1] f30r0) (.seq (.seq (.reg [1, 43] f30r1) (.ite (.t 43) (.seq (.reg [2] f30r2) .ret) .nop)) (.seq (.reg [1, 3] f30r3) (.seq (.reg [2] f30r4) .ret))))⟩

@[simp] theorem e30r0 : type_of% f30r0.eq_1 := by_rfl f30r0.eq_1
@[simp] theorem e30r1 : type_of% f30r1.eq_1 := by_rfl f30r1.eq_1
@[simp] theorem e30r2 : type_of% f30r2.eq_1 := by_rfl f30r2.eq_1
@[simp] theorem e30r3 : type_of% f30r3.eq_1 := by_rfl f30r3.eq_1
@[simp] theorem e30r4 : type_of% f30r4.eq_1 := by_rfl f30r4.eq_1
theorem e_rock_Bed_valid : type_of% f_rock_Bed_valid.eq_1 := by_rfl f_rock_Bed_valid.eq_1
theorem ok_rock_Bed_valid : fnC Try.prog a_rock_Bed_valid Try.f30 = some f_rock_Bed_valid := by kernel_rfl

/-! 31 (fumarole/rock.bedded).fits -/
def f31r0 : List Abs.Op := [
  ⟨some 1, none, false, .boxi (.t 0)⟩,
  ⟨some 2, none, false, .mv (.c (.bool false))⟩]

def f31r1 : List Abs.Op := [
  ⟨some 5, none, false, .fadr 0 (.t 1)⟩,
  ⟨some 6, none, false, .fadr 0 (.t 5)⟩,
  ⟨some 7, none, false, .ld true 4 (.t 6)⟩,
  ⟨some 8, none, false, .fadr 9 (.t 1)⟩,
  ⟨some 9, none, false, .ld true 2 (.t 8)⟩,
  ⟨some 10, none, false, .bsi 1 2 [(.str []), .nils] [(0, 2, (.t 9))]⟩,
  ⟨some 11, none, false, .call false (.c (.fn i_field_CheckModels [] [])) [(.t 7), (.t 10)]⟩,
  ⟨some 12, none, false, .bin .neq (.t 11) (.c (.int .i64 0))⟩]

def f31r2 : List Abs.Op := [
  ⟨some 2, none, false, .mv (.c (.bool false))⟩]

def f31r3 : List Abs.Op := [
  ⟨some 13, none, false, .bld [(.int .i64 0), (.int .i64 0)] [(0, 1, (.c (.int .i64 1000))), (1, 1, (.c (.int .i64 100000)))]⟩,
  ⟨some 14, none, false, .bld [(.int .i64 0), (.int .i64 0)] [(0, 1, (.c (.int .i64 0))), (1, 1, (.c (.int .i64 1000)))]⟩,
  ⟨some 15, none, false, .bld [(.int .i64 0), (.int .i64 0)] [(0, 1, (.c (.int .i64 0))), (1, 1, (.c (.int .i64 3000)))]⟩,
  ⟨some 16, none, false, .bld [(.int .i64 0), (.int .i64 0)] [(0, 1, (.c (.int .i64 0))), (1, 1, (.c (.int .i64 1000)))]⟩,
  ⟨some 17, none, false, .bld [(.int .i64 0), (.int .i64 0), (.int .i64 0), (.int .i64 0), (.int .i64 0), (.int .i64 0), (.int .i64 0), (.int .i64 0)] [(0, 2, (.t 13)), (2, 2, (.t 14)), (4, 2, (.t 15)), (6, 2, (.t 16))]⟩,
  ⟨some 18, none, false, .mv (.c (.int .i64 0))⟩]

def f31r4 : List Abs.Op := [
  ⟨some 19, none, false, .bin .lss (.t 18) (.c (.int .i64 4))⟩]

def f31r5 : List Abs.Op := [
  ⟨some 20, none, false, .mv (.t 18)⟩,
  ⟨some 21, none, false, .idxV true 4 2 (.t 17) (.t 18)⟩,
  ⟨some 4, none, false, .alc [] [(.int .i64 0), (.int .i64 0)]⟩,
  ⟨some 3, none, false, .mv (.t 20)⟩,
  ⟨none, none, false, .st [] 2 (.t 4) (.t 21)⟩]

def f31r6 : List Abs.Op := [
  ⟨some 22, none, false, .ld true 11 (.t 1)⟩,
  ⟨some 23, none, false, .mv (.t 3)⟩,
  ⟨some 24, none, false, .call false (.c (.fn i_rock_bedded_kind [] [])) [(.t 22), (.t 23)]⟩,
  ⟨some 25, none, false, .mkf i_rock_bedded_fits_1 [] [(.t 4)]⟩,
  ⟨some 26, none, false, .call false (.c (.fn i_rock_all_int [] [])) [(.t 24), (.t 25)]⟩,
  ⟨some 27, none, false, .un .not (.t 26)⟩]

def f31r7 : List Abs.Op := [
  ⟨some 2, none, false, .mv (.c (.bool false))⟩]

def f31r8 : List Abs.Op := [
  ⟨some 28, none, false, .bin .add (.t 18) (.c (.int .i64 1))⟩,
  ⟨some 18, none, false, .mv (.t 28)⟩]

def f_rock_bedded_fits_l9 : Abs.Cmd :=
  (.seq (.reg [1, 17, 18, 19] f31r4) (.seq (.ite (.t 19) .nop (.exit 0)) (.seq (.blk 1 (.seq (.reg [1, 3, 4, 17, 18] f31r5) (.seq (.reg [1, 17, 18, 27] f31r6) (.ite (.t 27) (.seq (.reg [2] f31r7) .ret) .nop)))) (.reg [1, 17, 18] f31r8))))

def f31r10 : List Abs.Op := [
  ⟨some 2, none, false, .mv (.c (.bool true))⟩]

def a_rock_bedded_fits : Ann := ⟨[(9, [2]), (8, [1, 17, 18]), (7, [2]), (6, [1, 17, 18, 27]), (5, [1, 3, 4, 17, 18]), (4, [1, 17, 18, 19]), (3, [1, 17, 18]), (2, [2]), (1, [1, 12]), (0, [1])], [(0, [1, 17, 18])], [0], [4], [], [], [], [], [], [], []⟩
def f_rock_bedded_fits : Abs.Fn := ⟨1, [.t 2],
  (.seq (.reg [1] f31r0) (.seq (.seq (.reg [1, 12] f31r1) (.ite (.t 12) (.seq (.reg [2] f31r2) .ret) .nop)) (.seq (.seq (.reg [1, 17, 18] f31r3) (.blk 0 (.loop [1, 17, 18] true f_rock_bedded_fits_l9))) (.seq (.reg [2] f31r10) .ret))))⟩

@[simp] theorem e31r0 : type_of% f31r0.eq_1 := by_rfl f31r0.eq_1
@[simp] theorem e31r1 : type_of% f31r1.eq_1 := by_rfl f31r1.eq_1
@[simp] theorem e31r2 : type_of% f31r2.eq_1 := by_rfl f31r2.eq_1
@[simp] theorem e31r3 : type_of% f31r3.eq_1 := by_rfl f31r3.eq_1
@[simp] theorem e31r4 : type_of% f31r4.eq_1 := by_rfl f31r4.eq_1
@[simp] theorem e31r5 : type_of% f31r5.eq_1 := by_rfl f31r5.eq_1
@[simp] theorem e31r6 : type_of% f31r6.eq_1 := by_rfl f31r6.eq_1
@[simp] theorem e31r7 : type_of% f31r7.eq_1 := by_rfl f31r7.eq_1
@[simp] theorem e31r8 : type_of% f31r8.eq_1 := by_rfl f31r8.eq_1
@[simp] theorem e31r10 : type_of% f31r10.eq_1 := by_rfl f31r10.eq_1
theorem e_rock_bedded_fits_l9 : type_of% f_rock_bedded_fits_l9.eq_1 := by_rfl f_rock_bedded_fits_l9.eq_1
theorem e_rock_bedded_fits : type_of% f_rock_bedded_fits.eq_1 := by_rfl f_rock_bedded_fits.eq_1
theorem ok_rock_bedded_fits : fnC Try.prog a_rock_bedded_fits Try.f31 = some f_rock_bedded_fits := by kernel_rfl

/-! 32 (fumarole/rock.Bed).rates -/
def f32r0 : List Abs.Op := [
  ⟨some 2, none, false, .boxi (.t 0)⟩,
  ⟨some 4, none, false, .mv (.c (.int .i64 0))⟩]

def f32r1 : List Abs.Op := [
  ⟨some 6, none, false, .mv (.t 1)⟩,
  ⟨some 7, none, false, .lenS (.t 6)⟩,
  ⟨some 8, none, false, .fadr 8 (.t 2)⟩,
  ⟨some 9, none, false, .ld false 1 (.t 8)⟩,
  ⟨some 10, none, false, .lenS (.t 9)⟩,
  ⟨some 11, none, false, .bin .neq (.t 7) (.t 10)⟩,
  ⟨some 5, none, false, .mv (.t 11)⟩]

def f32r2 : List Abs.Op := [
  ⟨some 4, none, false, .mv (.c (.int .i64 1))⟩]

def f32r3 : List Abs.Op := [
  ⟨some 13, none, false, .mv (.t 1)⟩,
  ⟨some 14, none, false, .call false (.c (.fn i_rock_all_int [] [])) [(.t 13), (.c (.fn i_rock_Bed_rates_1 [] []))]⟩,
  ⟨some 15, none, false, .un .not (.t 14)⟩,
  ⟨some 12, none, false, .mv (.t 15)⟩]

def f32r4 : List Abs.Op := [
  ⟨some 4, none, false, .mv (.c (.int .i64 2))⟩]

def f32r5 : List Abs.Op := [
  ⟨some 4, none, false, .mv (.c (.int .i64 0))⟩]

def a_rock_Bed_rates : Ann := ⟨[(5, [4]), (2, [4]), (4, [4]), (3, [12]), (1, [1, 5]), (0, [1, 2])], [], [], [], [], [], [], [], [], [], []⟩
def f_rock_Bed_rates : Abs.Fn := ⟨2, [.t 4],
  (.seq (.reg [1, 2] f32r0) (.seq (.blk 0 (.seq (.reg [1, 5] f32r1) (.ite (.t 5) (.seq (.reg [4] f32r2) .ret) (.seq (.reg [12] f32r3) (.ite (.t 12) (.seq (.reg [4] f32r4) .ret) .nop))))) (.seq (.reg [4] f32r5) .ret)))⟩

@[simp] theorem e32r0 : type_of% f32r0.eq_1 := by_rfl f32r0.eq_1
@[simp] theorem e32r1 : type_of% f32r1.eq_1 := by_rfl f32r1.eq_1
@[simp] theorem e32r2 : type_of% f32r2.eq_1 := by_rfl f32r2.eq_1
@[simp] theorem e32r3 : type_of% f32r3.eq_1 := by_rfl f32r3.eq_1
@[simp] theorem e32r4 : type_of% f32r4.eq_1 := by_rfl f32r4.eq_1
@[simp] theorem e32r5 : type_of% f32r5.eq_1 := by_rfl f32r5.eq_1
theorem e_rock_Bed_rates : type_of% f_rock_Bed_rates.eq_1 := by_rfl f_rock_Bed_rates.eq_1
theorem ok_rock_Bed_rates : fnC Try.prog a_rock_Bed_rates Try.f32 = some f_rock_Bed_rates := by kernel_rfl

end Go.Proofs.Ytehandllpmlcoaa
