/- The code of functions of the program, in the small instruction set; each is what the translation makes of it. -/
import Derived.Test.YtcccafphhmcifaaGreatIds
set_option linter.unusedVariables false
set_option maxRecDepth 100000
namespace Go.Proofs.YtcccafphhmcifaaGreat
open Go Go.Abs
/-! 125 slices.symMergeCmpFunc[int] -/
def f_slices_symMergeCmpFunc_int_r0 : List Abs.Op := [
  ⟨some 25, none, false, .mv (.t 2)⟩,
  ⟨some 26, none, false, .mv (.t 1)⟩,
  ⟨some 27, none, false, .bin .sub (.t 25) (.t 26)⟩,
  ⟨some 28, none, false, .bin .eql (.t 27) (.c (.int .i64 1))⟩]

def f_slices_symMergeCmpFunc_int_r1 : List Abs.Op := [
  ⟨some 29, none, false, .mv (.t 2)⟩,
  ⟨some 10, none, false, .mv (.t 29)⟩]

def f_slices_symMergeCmpFunc_int_r2 : List Abs.Op := [
  ⟨some 30, none, false, .mv (.t 3)⟩,
  ⟨some 11, none, false, .mv (.t 30)⟩]

def f_slices_symMergeCmpFunc_int_r3 : List Abs.Op := [
  ⟨some 31, none, false, .mv (.t 10)⟩,
  ⟨some 32, none, false, .mv (.t 11)⟩,
  ⟨some 33, none, false, .bin .lss (.t 31) (.t 32)⟩]

def f_slices_symMergeCmpFunc_int_r4 : List Abs.Op := [
  ⟨some 34, none, false, .mv (.t 10)⟩,
  ⟨some 35, none, false, .mv (.t 11)⟩,
  ⟨some 36, none, false, .bin .add (.t 34) (.t 35)⟩,
  ⟨some 37, none, false, .cvt .u64 (.t 36)⟩,
  ⟨some 38, none, false, .bin .shr (.t 37) (.c (.int .u64 1))⟩,
  ⟨some 39, none, false, .cvt .i64 (.t 38)⟩,
  ⟨some 12, none, false, .mv (.t 39)⟩]

def f_slices_symMergeCmpFunc_int_r5 : List Abs.Op := [
  ⟨some 40, none, true, .mv (.t 4)⟩,
  ⟨some 41, none, true, .mv (.t 0)⟩,
  ⟨some 42, none, true, .mv (.t 12)⟩,
  ⟨some 43, none, true, .idxS 1 (.t 41) (.t 42)⟩,
  ⟨some 44, none, true, .ld false 1 (.t 43)⟩,
  ⟨some 45, none, true, .mv (.t 0)⟩,
  ⟨some 46, none, true, .mv (.t 1)⟩,
  ⟨some 47, none, true, .idxS 1 (.t 45) (.t 46)⟩,
  ⟨some 48, none, true, .ld false 1 (.t 47)⟩,
  ⟨some 49, none, false, .call false (.t 40) [(.t 44), (.t 48)]⟩,
  ⟨some 50, none, false, .bin .lss (.t 49) (.c (.int .i64 0))⟩]

def f_slices_symMergeCmpFunc_int_r6 : List Abs.Op := [
  ⟨some 51, none, false, .mv (.t 12)⟩,
  ⟨some 52, none, false, .bin .add (.t 51) (.c (.int .i64 1))⟩,
  ⟨some 10, none, false, .mv (.t 52)⟩]

def f_slices_symMergeCmpFunc_int_r7 : List Abs.Op := [
  ⟨some 53, none, false, .mv (.t 12)⟩,
  ⟨some 11, none, false, .mv (.t 53)⟩]

def f_slices_symMergeCmpFunc_int_l8 : Abs.Cmd :=
  (.seq (.seq (.reg [0, 1, 4, 10, 11, 33] f_slices_symMergeCmpFunc_int_r3) (.ite (.t 33) .nop (.exit 0))) (.blk 1 (.seq (.reg [0, 1, 4, 10, 11, 12] f_slices_symMergeCmpFunc_int_r4) (.seq (.reg [0, 1, 4, 10, 11, 12, 50] f_slices_symMergeCmpFunc_int_r5) (.ite (.t 50) (.reg [0, 1, 4, 10, 11] f_slices_symMergeCmpFunc_int_r6) (.reg [0, 1, 4, 10, 11] f_slices_symMergeCmpFunc_int_r7))))))

def f_slices_symMergeCmpFunc_int_r9 : List Abs.Op := [
  ⟨some 54, none, false, .mv (.t 1)⟩,
  ⟨some 13, none, false, .mv (.t 54)⟩]

def f_slices_symMergeCmpFunc_int_r10 : List Abs.Op := [
  ⟨some 55, none, false, .mv (.t 13)⟩,
  ⟨some 56, none, false, .mv (.t 10)⟩,
  ⟨some 57, none, false, .bin .sub (.t 56) (.c (.int .i64 1))⟩,
  ⟨some 58, none, false, .bin .lss (.t 55) (.t 57)⟩]

def f_slices_symMergeCmpFunc_int_r11 : List Abs.Op := [
  ⟨some 61, none, true, .mv (.t 0)⟩,
  ⟨some 62, none, true, .mv (.t 13)⟩,
  ⟨some 63, none, true, .mv (.t 0)⟩,
  ⟨some 64, none, true, .mv (.t 13)⟩,
  ⟨some 65, none, true, .bin .add (.t 64) (.c (.int .i64 1))⟩,
  ⟨some 66, none, true, .mv (.t 0)⟩,
  ⟨some 67, none, true, .mv (.t 13)⟩,
  ⟨some 68, none, true, .bin .add (.t 67) (.c (.int .i64 1))⟩,
  ⟨some 69, none, true, .idxS 1 (.t 66) (.t 68)⟩,
  ⟨some 70, none, true, .ld false 1 (.t 69)⟩,
  ⟨some 71, none, true, .mv (.t 0)⟩,
  ⟨some 72, none, true, .mv (.t 13)⟩,
  ⟨some 73, none, true, .idxS 1 (.t 71) (.t 72)⟩,
  ⟨some 74, none, true, .ld false 1 (.t 73)⟩,
  ⟨some 75, none, true, .idxS 1 (.t 61) (.t 62)⟩,
  ⟨none, none, true, .st [] 1 (.t 75) (.t 70)⟩,
  ⟨some 76, none, false, .idxS 1 (.t 63) (.t 65)⟩,
  ⟨none, none, false, .st [] 1 (.t 76) (.t 74)⟩]

def f_slices_symMergeCmpFunc_int_r12 : List Abs.Op := [
  ⟨some 59, none, false, .mv (.t 13)⟩,
  ⟨some 60, none, false, .bin .add (.t 59) (.c (.int .i64 1))⟩,
  ⟨some 13, none, false, .mv (.t 60)⟩]

def f_slices_symMergeCmpFunc_int_l13 : Abs.Cmd :=
  (.seq (.seq (.reg [0, 10, 13, 58] f_slices_symMergeCmpFunc_int_r10) (.ite (.t 58) .nop (.exit 2))) (.seq (.blk 3 (.reg [0, 10, 13] f_slices_symMergeCmpFunc_int_r11)) (.reg [0, 10, 13] f_slices_symMergeCmpFunc_int_r12)))

def f_slices_symMergeCmpFunc_int_r14 : List Abs.Op := [
  ⟨some 77, none, false, .mv (.t 3)⟩,
  ⟨some 78, none, false, .mv (.t 2)⟩,
  ⟨some 79, none, false, .bin .sub (.t 77) (.t 78)⟩,
  ⟨some 80, none, false, .bin .eql (.t 79) (.c (.int .i64 1))⟩]

def f_slices_symMergeCmpFunc_int_r15 : List Abs.Op := [
  ⟨some 81, none, false, .mv (.t 1)⟩,
  ⟨some 14, none, false, .mv (.t 81)⟩]

def f_slices_symMergeCmpFunc_int_r16 : List Abs.Op := [
  ⟨some 82, none, false, .mv (.t 2)⟩,
  ⟨some 15, none, false, .mv (.t 82)⟩]

def f_slices_symMergeCmpFunc_int_r17 : List Abs.Op := [
  ⟨some 83, none, false, .mv (.t 14)⟩,
  ⟨some 84, none, false, .mv (.t 15)⟩,
  ⟨some 85, none, false, .bin .lss (.t 83) (.t 84)⟩]

def f_slices_symMergeCmpFunc_int_r18 : List Abs.Op := [
  ⟨some 86, none, false, .mv (.t 14)⟩,
  ⟨some 87, none, false, .mv (.t 15)⟩,
  ⟨some 88, none, false, .bin .add (.t 86) (.t 87)⟩,
  ⟨some 89, none, false, .cvt .u64 (.t 88)⟩,
  ⟨some 90, none, false, .bin .shr (.t 89) (.c (.int .u64 1))⟩,
  ⟨some 91, none, false, .cvt .i64 (.t 90)⟩,
  ⟨some 16, none, false, .mv (.t 91)⟩]

def f_slices_symMergeCmpFunc_int_r19 : List Abs.Op := [
  ⟨some 92, none, true, .mv (.t 4)⟩,
  ⟨some 93, none, true, .mv (.t 0)⟩,
  ⟨some 94, none, true, .mv (.t 2)⟩,
  ⟨some 95, none, true, .idxS 1 (.t 93) (.t 94)⟩,
  ⟨some 96, none, true, .ld false 1 (.t 95)⟩,
  ⟨some 97, none, true, .mv (.t 0)⟩,
  ⟨some 98, none, true, .mv (.t 16)⟩,
  ⟨some 99, none, true, .idxS 1 (.t 97) (.t 98)⟩,
  ⟨some 100, none, true, .ld false 1 (.t 99)⟩,
  ⟨some 101, none, false, .call false (.t 92) [(.t 96), (.t 100)]⟩,
  ⟨some 102, none, false, .bin .lss (.t 101) (.c (.int .i64 0))⟩,
  ⟨some 103, none, false, .un .not (.t 102)⟩]

def f_slices_symMergeCmpFunc_int_r20 : List Abs.Op := [
  ⟨some 104, none, false, .mv (.t 16)⟩,
  ⟨some 105, none, false, .bin .add (.t 104) (.c (.int .i64 1))⟩,
  ⟨some 14, none, false, .mv (.t 105)⟩]

def f_slices_symMergeCmpFunc_int_r21 : List Abs.Op := [
  ⟨some 106, none, false, .mv (.t 16)⟩,
  ⟨some 15, none, false, .mv (.t 106)⟩]

def f_slices_symMergeCmpFunc_int_l22 : Abs.Cmd :=
  (.seq (.seq (.reg [0, 2, 4, 14, 15, 85] f_slices_symMergeCmpFunc_int_r17) (.ite (.t 85) .nop (.exit 4))) (.blk 5 (.seq (.reg [0, 2, 4, 14, 15, 16] f_slices_symMergeCmpFunc_int_r18) (.seq (.reg [0, 2, 4, 14, 15, 16, 103] f_slices_symMergeCmpFunc_int_r19) (.ite (.t 103) (.reg [0, 2, 4, 14, 15] f_slices_symMergeCmpFunc_int_r20) (.reg [0, 2, 4, 14, 15] f_slices_symMergeCmpFunc_int_r21))))))

def f_slices_symMergeCmpFunc_int_r23 : List Abs.Op := [
  ⟨some 107, none, false, .mv (.t 2)⟩,
  ⟨some 17, none, false, .mv (.t 107)⟩]

def f_slices_symMergeCmpFunc_int_r24 : List Abs.Op := [
  ⟨some 108, none, false, .mv (.t 17)⟩,
  ⟨some 109, none, false, .mv (.t 14)⟩,
  ⟨some 110, none, false, .bin .gtr (.t 108) (.t 109)⟩]

def f_slices_symMergeCmpFunc_int_r25 : List Abs.Op := [
  ⟨some 113, none, true, .mv (.t 0)⟩,
  ⟨some 114, none, true, .mv (.t 17)⟩,
  ⟨some 115, none, true, .mv (.t 0)⟩,
  ⟨some 116, none, true, .mv (.t 17)⟩,
  ⟨some 117, none, true, .bin .sub (.t 116) (.c (.int .i64 1))⟩,
  ⟨some 118, none, true, .mv (.t 0)⟩,
  ⟨some 119, none, true, .mv (.t 17)⟩,
  ⟨some 120, none, true, .bin .sub (.t 119) (.c (.int .i64 1))⟩,
  ⟨some 121, none, true, .idxS 1 (.t 118) (.t 120)⟩,
  ⟨some 122, none, true, .ld false 1 (.t 121)⟩,
  ⟨some 123, none, true, .mv (.t 0)⟩,
  ⟨some 124, none, true, .mv (.t 17)⟩,
  ⟨some 125, none, true, .idxS 1 (.t 123) (.t 124)⟩,
  ⟨some 126, none, true, .ld false 1 (.t 125)⟩,
  ⟨some 127, none, true, .idxS 1 (.t 113) (.t 114)⟩,
  ⟨none, none, true, .st [] 1 (.t 127) (.t 122)⟩,
  ⟨some 128, none, false, .idxS 1 (.t 115) (.t 117)⟩,
  ⟨none, none, false, .st [] 1 (.t 128) (.t 126)⟩]

def f_slices_symMergeCmpFunc_int_r26 : List Abs.Op := [
  ⟨some 111, none, false, .mv (.t 17)⟩,
  ⟨some 112, none, false, .bin .sub (.t 111) (.c (.int .i64 1))⟩,
  ⟨some 17, none, false, .mv (.t 112)⟩]

def f_slices_symMergeCmpFunc_int_l27 : Abs.Cmd :=
  (.seq (.seq (.reg [0, 14, 17, 110] f_slices_symMergeCmpFunc_int_r24) (.ite (.t 110) .nop (.exit 6))) (.seq (.blk 7 (.reg [0, 14, 17] f_slices_symMergeCmpFunc_int_r25)) (.reg [0, 14, 17] f_slices_symMergeCmpFunc_int_r26)))

def f_slices_symMergeCmpFunc_int_r28 : List Abs.Op := [
  ⟨some 129, none, false, .mv (.t 1)⟩,
  ⟨some 130, none, false, .mv (.t 3)⟩,
  ⟨some 131, none, false, .bin .add (.t 129) (.t 130)⟩,
  ⟨some 132, none, false, .cvt .u64 (.t 131)⟩,
  ⟨some 133, none, false, .bin .shr (.t 132) (.c (.int .u64 1))⟩,
  ⟨some 134, none, false, .cvt .i64 (.t 133)⟩,
  ⟨some 18, none, false, .mv (.t 134)⟩]

def f_slices_symMergeCmpFunc_int_r29 : List Abs.Op := [
  ⟨some 135, none, false, .mv (.t 18)⟩,
  ⟨some 136, none, false, .mv (.t 2)⟩,
  ⟨some 137, none, false, .bin .add (.t 135) (.t 136)⟩,
  ⟨some 19, none, false, .mv (.t 137)⟩]

def f_slices_symMergeCmpFunc_int_r30 : List Abs.Op := [
  ⟨some 20, none, false, .mv (.c (.int .i64 0))⟩,
  ⟨some 21, none, false, .mv (.c (.int .i64 0))⟩]

def f_slices_symMergeCmpFunc_int_r31 : List Abs.Op := [
  ⟨some 138, none, false, .mv (.t 2)⟩,
  ⟨some 139, none, false, .mv (.t 18)⟩,
  ⟨some 140, none, false, .bin .gtr (.t 138) (.t 139)⟩]

def f_slices_symMergeCmpFunc_int_r32 : List Abs.Op := [
  ⟨some 141, none, false, .mv (.t 19)⟩,
  ⟨some 142, none, false, .mv (.t 3)⟩,
  ⟨some 143, none, false, .bin .sub (.t 141) (.t 142)⟩,
  ⟨some 20, none, false, .mv (.t 143)⟩]

def f_slices_symMergeCmpFunc_int_r33 : List Abs.Op := [
  ⟨some 144, none, false, .mv (.t 18)⟩,
  ⟨some 21, none, false, .mv (.t 144)⟩]

def f_slices_symMergeCmpFunc_int_r34 : List Abs.Op := [
  ⟨some 145, none, false, .mv (.t 1)⟩,
  ⟨some 20, none, false, .mv (.t 145)⟩]

def f_slices_symMergeCmpFunc_int_r35 : List Abs.Op := [
  ⟨some 146, none, false, .mv (.t 2)⟩,
  ⟨some 21, none, false, .mv (.t 146)⟩]

def f_slices_symMergeCmpFunc_int_r36 : List Abs.Op := [
  ⟨some 147, none, false, .mv (.t 19)⟩,
  ⟨some 148, none, false, .bin .sub (.t 147) (.c (.int .i64 1))⟩,
  ⟨some 22, none, false, .mv (.t 148)⟩]

def f_slices_symMergeCmpFunc_int_r37 : List Abs.Op := [
  ⟨some 149, none, false, .mv (.t 20)⟩,
  ⟨some 150, none, false, .mv (.t 21)⟩,
  ⟨some 151, none, false, .bin .lss (.t 149) (.t 150)⟩]

def f_slices_symMergeCmpFunc_int_r38 : List Abs.Op := [
  ⟨some 152, none, false, .mv (.t 20)⟩,
  ⟨some 153, none, false, .mv (.t 21)⟩,
  ⟨some 154, none, false, .bin .add (.t 152) (.t 153)⟩,
  ⟨some 155, none, false, .cvt .u64 (.t 154)⟩,
  ⟨some 156, none, false, .bin .shr (.t 155) (.c (.int .u64 1))⟩,
  ⟨some 157, none, false, .cvt .i64 (.t 156)⟩,
  ⟨some 23, none, false, .mv (.t 157)⟩]

def f_slices_symMergeCmpFunc_int_r39 : List Abs.Op := [
  ⟨some 158, none, true, .mv (.t 4)⟩,
  ⟨some 159, none, true, .mv (.t 0)⟩,
  ⟨some 160, none, true, .mv (.t 22)⟩,
  ⟨some 161, none, true, .mv (.t 23)⟩,
  ⟨some 162, none, true, .bin .sub (.t 160) (.t 161)⟩,
  ⟨some 163, none, true, .idxS 1 (.t 159) (.t 162)⟩,
  ⟨some 164, none, true, .ld false 1 (.t 163)⟩,
  ⟨some 165, none, true, .mv (.t 0)⟩,
  ⟨some 166, none, true, .mv (.t 23)⟩,
  ⟨some 167, none, true, .idxS 1 (.t 165) (.t 166)⟩,
  ⟨some 168, none, true, .ld false 1 (.t 167)⟩,
  ⟨some 169, none, false, .call false (.t 158) [(.t 164), (.t 168)]⟩,
  ⟨some 170, none, false, .bin .lss (.t 169) (.c (.int .i64 0))⟩,
  ⟨some 171, none, false, .un .not (.t 170)⟩]

def f_slices_symMergeCmpFunc_int_r40 : List Abs.Op := [
  ⟨some 172, none, false, .mv (.t 23)⟩,
  ⟨some 173, none, false, .bin .add (.t 172) (.c (.int .i64 1))⟩,
  ⟨some 20, none, false, .mv (.t 173)⟩]

def f_slices_symMergeCmpFunc_int_r41 : List Abs.Op := [
  ⟨some 174, none, false, .mv (.t 23)⟩,
  ⟨some 21, none, false, .mv (.t 174)⟩]

def f_slices_symMergeCmpFunc_int_l42 : Abs.Cmd :=
  (.seq (.seq (.reg [0, 1, 2, 3, 4, 18, 19, 20, 21, 22, 151] f_slices_symMergeCmpFunc_int_r37) (.ite (.t 151) .nop (.exit 8))) (.blk 9 (.seq (.reg [0, 1, 2, 3, 4, 18, 19, 20, 21, 22, 23] f_slices_symMergeCmpFunc_int_r38) (.seq (.reg [0, 1, 2, 3, 4, 18, 19, 20, 21, 22, 23, 171] f_slices_symMergeCmpFunc_int_r39) (.ite (.t 171) (.reg [0, 1, 2, 3, 4, 18, 19, 20, 21, 22] f_slices_symMergeCmpFunc_int_r40) (.reg [0, 1, 2, 3, 4, 18, 19, 20, 21, 22] f_slices_symMergeCmpFunc_int_r41))))))

def f_slices_symMergeCmpFunc_int_r43 : List Abs.Op := [
  ⟨some 175, none, false, .mv (.t 19)⟩,
  ⟨some 176, none, false, .mv (.t 20)⟩,
  ⟨some 177, none, false, .bin .sub (.t 175) (.t 176)⟩,
  ⟨some 24, none, false, .mv (.t 177)⟩]

def f_slices_symMergeCmpFunc_int_r44 : List Abs.Op := [
  ⟨some 178, none, false, .mv (.t 20)⟩,
  ⟨some 179, none, false, .mv (.t 2)⟩,
  ⟨some 180, none, false, .bin .lss (.t 178) (.t 179)⟩,
  ⟨some 181, none, false, .mv (.t 180)⟩,
  ⟨some 182, some (181, true), false, .mv (.t 2)⟩,
  ⟨some 183, some (181, true), false, .mv (.t 24)⟩,
  ⟨some 184, some (181, true), false, .bin .lss (.t 182) (.t 183)⟩,
  ⟨some 185, none, false, .pick (.t 181) (.t 184) (.c (.bool false))⟩]

def f_slices_symMergeCmpFunc_int_r45 : List Abs.Op := [
  ⟨some 186, none, false, .mv (.t 0)⟩,
  ⟨some 187, none, false, .mv (.t 20)⟩,
  ⟨some 188, none, false, .mv (.t 2)⟩,
  ⟨some 189, none, false, .mv (.t 24)⟩,
  ⟨some 190, none, false, .mv (.t 4)⟩,
  ⟨some 191, none, false, .call false (.c (.fn i_slices_rotateCmpFunc_int [] [])) [(.t 186), (.t 187), (.t 188), (.t 189), (.t 190)]⟩]

def f_slices_symMergeCmpFunc_int_r46 : List Abs.Op := [
  ⟨some 192, none, false, .mv (.t 1)⟩,
  ⟨some 193, none, false, .mv (.t 20)⟩,
  ⟨some 194, none, false, .bin .lss (.t 192) (.t 193)⟩,
  ⟨some 195, none, false, .mv (.t 194)⟩,
  ⟨some 196, some (195, true), false, .mv (.t 20)⟩,
  ⟨some 197, some (195, true), false, .mv (.t 18)⟩,
  ⟨some 198, some (195, true), false, .bin .lss (.t 196) (.t 197)⟩,
  ⟨some 199, none, false, .pick (.t 195) (.t 198) (.c (.bool false))⟩]

def f_slices_symMergeCmpFunc_int_r47 : List Abs.Op := [
  ⟨some 200, none, false, .mv (.t 0)⟩,
  ⟨some 201, none, false, .mv (.t 1)⟩,
  ⟨some 202, none, false, .mv (.t 20)⟩,
  ⟨some 203, none, false, .mv (.t 18)⟩,
  ⟨some 204, none, false, .mv (.t 4)⟩,
  ⟨some 205, none, false, .call false (.c (.fn i_slices_symMergeCmpFunc_int [] [])) [(.t 200), (.t 201), (.t 202), (.t 203), (.t 204)]⟩]

def f_slices_symMergeCmpFunc_int_r48 : List Abs.Op := [
  ⟨some 206, none, false, .mv (.t 18)⟩,
  ⟨some 207, none, false, .mv (.t 24)⟩,
  ⟨some 208, none, false, .bin .lss (.t 206) (.t 207)⟩,
  ⟨some 209, none, false, .mv (.t 208)⟩,
  ⟨some 210, some (209, true), false, .mv (.t 24)⟩,
  ⟨some 211, some (209, true), false, .mv (.t 3)⟩,
  ⟨some 212, some (209, true), false, .bin .lss (.t 210) (.t 211)⟩,
  ⟨some 213, none, false, .pick (.t 209) (.t 212) (.c (.bool false))⟩]

def f_slices_symMergeCmpFunc_int_r49 : List Abs.Op := [
  ⟨some 214, none, false, .mv (.t 0)⟩,
  ⟨some 215, none, false, .mv (.t 18)⟩,
  ⟨some 216, none, false, .mv (.t 24)⟩,
  ⟨some 217, none, false, .mv (.t 3)⟩,
  ⟨some 218, none, false, .mv (.t 4)⟩,
  ⟨some 219, none, false, .call false (.c (.fn i_slices_symMergeCmpFunc_int [] [])) [(.t 214), (.t 215), (.t 216), (.t 217), (.t 218)]⟩]

def a_slices_symMergeCmpFunc_int : Ann := ⟨[(44, []), (43, [0, 3, 4, 18, 24, 213]), (42, [0, 3, 4, 18, 24]), (41, [0, 1, 3, 4, 18, 20, 24, 199]), (40, [0, 1, 3, 4, 18, 20, 24]), (39, [0, 1, 2, 3, 4, 18, 20, 24, 185]), (38, [0, 1, 2, 3, 4, 18, 20, 24]), (36, [0, 1, 2, 3, 4, 18, 19, 20, 21, 22]), (37, [0, 1, 2, 3, 4, 18, 19, 20, 21, 22]), (35, [0, 1, 2, 3, 4, 18, 19, 20, 21, 22, 23, 171]), (34, [0, 1, 2, 3, 4, 18, 19, 20, 21, 22, 23]), (33, [0, 1, 2, 3, 4, 18, 19, 20, 21, 22, 151]), (32, [0, 1, 2, 3, 4, 18, 19, 20, 21, 22]), (29, [0, 1, 2, 3, 4, 18, 19, 20, 21]), (28, [0, 1, 2, 3, 4, 18, 19, 20]), (31, [0, 1, 2, 3, 4, 18, 19, 20, 21]), (30, [0, 1, 2, 3, 4, 18, 19, 20]), (27, [0, 1, 2, 3, 4, 18, 19, 140]), (26, [0, 1, 2, 3, 4, 18, 19]), (25, [0, 1, 2, 3, 4, 18, 19]), (24, [0, 1, 2, 3, 4, 18]), (22, [0, 14, 17]), (23, [0, 14, 17]), (21, [0, 14, 17, 110]), (20, [0, 14, 17]), (18, [0, 2, 4, 14, 15]), (19, [0, 2, 4, 14, 15]), (17, [0, 2, 4, 14, 15, 16, 103]), (16, [0, 2, 4, 14, 15, 16]), (15, [0, 2, 4, 14, 15, 85]), (14, [0, 2, 4, 14, 15]), (13, [0, 2, 4, 14]), (12, [0, 1, 2, 3, 4, 80]), (10, [0, 10, 13]), (11, [0, 10, 13]), (9, [0, 10, 13, 58]), (8, [0, 10, 13]), (6, [0, 1, 4, 10, 11]), (7, [0, 1, 4, 10, 11]), (5, [0, 1, 4, 10, 11, 12, 50]), (4, [0, 1, 4, 10, 11, 12]), (3, [0, 1, 4, 10, 11, 33]), (2, [0, 1, 4, 10, 11]), (1, [0, 1, 3, 4, 10]), (0, [0, 1, 2, 3, 4, 28])], [(8, [0, 1, 2, 3, 4, 18, 19, 20, 21, 22]), (6, [0, 14, 17]), (4, [0, 2, 4, 14, 15]), (2, [0, 10, 13]), (0, [0, 1, 4, 10, 11])], [], [], [], [], [], [], [], []⟩
def f_slices_symMergeCmpFunc_int : Abs.Fn := ⟨5, [],
  (.seq (.seq (.reg [0, 1, 2, 3, 4, 28] f_slices_symMergeCmpFunc_int_r0) (.ite (.t 28) (.seq (.reg [0, 1, 3, 4, 10] f_slices_symMergeCmpFunc_int_r1) (.seq (.reg [0, 1, 4, 10, 11] f_slices_symMergeCmpFunc_int_r2) (.seq (.blk 0 (.loop [0, 1, 4, 10, 11] false f_slices_symMergeCmpFunc_int_l8)) (.seq (.seq (.reg [0, 10, 13] f_slices_symMergeCmpFunc_int_r9) (.blk 2 (.loop [0, 10, 13] false f_slices_symMergeCmpFunc_int_l13))) .ret)))) .nop)) (.seq (.seq (.reg [0, 1, 2, 3, 4, 80] f_slices_symMergeCmpFunc_int_r14) (.ite (.t 80) (.seq (.reg [0, 2, 4, 14] f_slices_symMergeCmpFunc_int_r15) (.seq (.reg [0, 2, 4, 14, 15] f_slices_symMergeCmpFunc_int_r16) (.seq (.blk 4 (.loop [0, 2, 4, 14, 15] false f_slices_symMergeCmpFunc_int_l22)) (.seq (.seq (.reg [0, 14, 17] f_slices_symMergeCmpFunc_int_r23) (.blk 6 (.loop [0, 14, 17] false f_slices_symMergeCmpFunc_int_l27))) .ret)))) .nop)) (.seq (.reg [0, 1, 2, 3, 4, 18] f_slices_symMergeCmpFunc_int_r28) (.seq (.reg [0, 1, 2, 3, 4, 18, 19] f_slices_symMergeCmpFunc_int_r29) (.seq (.reg [0, 1, 2, 3, 4, 18, 19] f_slices_symMergeCmpFunc_int_r30) (.seq (.seq (.reg [0, 1, 2, 3, 4, 18, 19, 140] f_slices_symMergeCmpFunc_int_r31) (.ite (.t 140) (.seq (.reg [0, 1, 2, 3, 4, 18, 19, 20] f_slices_symMergeCmpFunc_int_r32) (.reg [0, 1, 2, 3, 4, 18, 19, 20, 21] f_slices_symMergeCmpFunc_int_r33)) (.seq (.reg [0, 1, 2, 3, 4, 18, 19, 20] f_slices_symMergeCmpFunc_int_r34) (.reg [0, 1, 2, 3, 4, 18, 19, 20, 21] f_slices_symMergeCmpFunc_int_r35)))) (.seq (.reg [0, 1, 2, 3, 4, 18, 19, 20, 21, 22] f_slices_symMergeCmpFunc_int_r36) (.seq (.blk 8 (.loop [0, 1, 2, 3, 4, 18, 19, 20, 21, 22] false f_slices_symMergeCmpFunc_int_l42)) (.seq (.reg [0, 1, 2, 3, 4, 18, 20, 24] f_slices_symMergeCmpFunc_int_r43) (.seq (.seq (.reg [0, 1, 2, 3, 4, 18, 20, 24, 185] f_slices_symMergeCmpFunc_int_r44) (.ite (.t 185) (.reg [0, 1, 3, 4, 18, 20, 24] f_slices_symMergeCmpFunc_int_r45) .nop)) (.seq (.seq (.reg [0, 1, 3, 4, 18, 20, 24, 199] f_slices_symMergeCmpFunc_int_r46) (.ite (.t 199) (.reg [0, 3, 4, 18, 24] f_slices_symMergeCmpFunc_int_r47) .nop)) (.seq (.reg [0, 3, 4, 18, 24, 213] f_slices_symMergeCmpFunc_int_r48) (.ite (.t 213) (.reg [] f_slices_symMergeCmpFunc_int_r49) .nop)))))))))))))⟩

theorem e_slices_symMergeCmpFunc_int_r0 : type_of% f_slices_symMergeCmpFunc_int_r0.eq_1 := by_rfl f_slices_symMergeCmpFunc_int_r0.eq_1
theorem e_slices_symMergeCmpFunc_int_r1 : type_of% f_slices_symMergeCmpFunc_int_r1.eq_1 := by_rfl f_slices_symMergeCmpFunc_int_r1.eq_1
theorem e_slices_symMergeCmpFunc_int_r2 : type_of% f_slices_symMergeCmpFunc_int_r2.eq_1 := by_rfl f_slices_symMergeCmpFunc_int_r2.eq_1
theorem e_slices_symMergeCmpFunc_int_r3 : type_of% f_slices_symMergeCmpFunc_int_r3.eq_1 := by_rfl f_slices_symMergeCmpFunc_int_r3.eq_1
theorem e_slices_symMergeCmpFunc_int_r4 : type_of% f_slices_symMergeCmpFunc_int_r4.eq_1 := by_rfl f_slices_symMergeCmpFunc_int_r4.eq_1
theorem e_slices_symMergeCmpFunc_int_r5 : type_of% f_slices_symMergeCmpFunc_int_r5.eq_1 := by_rfl f_slices_symMergeCmpFunc_int_r5.eq_1
theorem e_slices_symMergeCmpFunc_int_r6 : type_of% f_slices_symMergeCmpFunc_int_r6.eq_1 := by_rfl f_slices_symMergeCmpFunc_int_r6.eq_1
theorem e_slices_symMergeCmpFunc_int_r7 : type_of% f_slices_symMergeCmpFunc_int_r7.eq_1 := by_rfl f_slices_symMergeCmpFunc_int_r7.eq_1
theorem e_slices_symMergeCmpFunc_int_l8 : type_of% f_slices_symMergeCmpFunc_int_l8.eq_1 := by_rfl f_slices_symMergeCmpFunc_int_l8.eq_1
theorem e_slices_symMergeCmpFunc_int_r9 : type_of% f_slices_symMergeCmpFunc_int_r9.eq_1 := by_rfl f_slices_symMergeCmpFunc_int_r9.eq_1
theorem e_slices_symMergeCmpFunc_int_r10 : type_of% f_slices_symMergeCmpFunc_int_r10.eq_1 := by_rfl f_slices_symMergeCmpFunc_int_r10.eq_1
theorem e_slices_symMergeCmpFunc_int_r11 : type_of% f_slices_symMergeCmpFunc_int_r11.eq_1 := by_rfl f_slices_symMergeCmpFunc_int_r11.eq_1
theorem e_slices_symMergeCmpFunc_int_r12 : type_of% f_slices_symMergeCmpFunc_int_r12.eq_1 := by_rfl f_slices_symMergeCmpFunc_int_r12.eq_1
theorem e_slices_symMergeCmpFunc_int_l13 : type_of% f_slices_symMergeCmpFunc_int_l13.eq_1 := by_rfl f_slices_symMergeCmpFunc_int_l13.eq_1
theorem e_slices_symMergeCmpFunc_int_r14 : type_of% f_slices_symMergeCmpFunc_int_r14.eq_1 := by_rfl f_slices_symMergeCmpFunc_int_r14.eq_1
theorem e_slices_symMergeCmpFunc_int_r15 : type_of% f_slices_symMergeCmpFunc_int_r15.eq_1 := by_rfl f_slices_symMergeCmpFunc_int_r15.eq_1
theorem e_slices_symMergeCmpFunc_int_r16 : type_of% f_slices_symMergeCmpFunc_int_r16.eq_1 := by_rfl f_slices_symMergeCmpFunc_int_r16.eq_1
theorem e_slices_symMergeCmpFunc_int_r17 : type_of% f_slices_symMergeCmpFunc_int_r17.eq_1 := by_rfl f_slices_symMergeCmpFunc_int_r17.eq_1
theorem e_slices_symMergeCmpFunc_int_r18 : type_of% f_slices_symMergeCmpFunc_int_r18.eq_1 := by_rfl f_slices_symMergeCmpFunc_int_r18.eq_1
theorem e_slices_symMergeCmpFunc_int_r19 : type_of% f_slices_symMergeCmpFunc_int_r19.eq_1 := by_rfl f_slices_symMergeCmpFunc_int_r19.eq_1
theorem e_slices_symMergeCmpFunc_int_r20 : type_of% f_slices_symMergeCmpFunc_int_r20.eq_1 := by_rfl f_slices_symMergeCmpFunc_int_r20.eq_1
theorem e_slices_symMergeCmpFunc_int_r21 : type_of% f_slices_symMergeCmpFunc_int_r21.eq_1 := by_rfl f_slices_symMergeCmpFunc_int_r21.eq_1
theorem e_slices_symMergeCmpFunc_int_l22 : type_of% f_slices_symMergeCmpFunc_int_l22.eq_1 := by_rfl f_slices_symMergeCmpFunc_int_l22.eq_1
theorem e_slices_symMergeCmpFunc_int_r23 : type_of% f_slices_symMergeCmpFunc_int_r23.eq_1 := by_rfl f_slices_symMergeCmpFunc_int_r23.eq_1
theorem e_slices_symMergeCmpFunc_int_r24 : type_of% f_slices_symMergeCmpFunc_int_r24.eq_1 := by_rfl f_slices_symMergeCmpFunc_int_r24.eq_1
theorem e_slices_symMergeCmpFunc_int_r25 : type_of% f_slices_symMergeCmpFunc_int_r25.eq_1 := by_rfl f_slices_symMergeCmpFunc_int_r25.eq_1
theorem e_slices_symMergeCmpFunc_int_r26 : type_of% f_slices_symMergeCmpFunc_int_r26.eq_1 := by_rfl f_slices_symMergeCmpFunc_int_r26.eq_1
theorem e_slices_symMergeCmpFunc_int_l27 : type_of% f_slices_symMergeCmpFunc_int_l27.eq_1 := by_rfl f_slices_symMergeCmpFunc_int_l27.eq_1
theorem e_slices_symMergeCmpFunc_int_r28 : type_of% f_slices_symMergeCmpFunc_int_r28.eq_1 := by_rfl f_slices_symMergeCmpFunc_int_r28.eq_1
theorem e_slices_symMergeCmpFunc_int_r29 : type_of% f_slices_symMergeCmpFunc_int_r29.eq_1 := by_rfl f_slices_symMergeCmpFunc_int_r29.eq_1
theorem e_slices_symMergeCmpFunc_int_r30 : type_of% f_slices_symMergeCmpFunc_int_r30.eq_1 := by_rfl f_slices_symMergeCmpFunc_int_r30.eq_1
theorem e_slices_symMergeCmpFunc_int_r31 : type_of% f_slices_symMergeCmpFunc_int_r31.eq_1 := by_rfl f_slices_symMergeCmpFunc_int_r31.eq_1
theorem e_slices_symMergeCmpFunc_int_r32 : type_of% f_slices_symMergeCmpFunc_int_r32.eq_1 := by_rfl f_slices_symMergeCmpFunc_int_r32.eq_1
theorem e_slices_symMergeCmpFunc_int_r33 : type_of% f_slices_symMergeCmpFunc_int_r33.eq_1 := by_rfl f_slices_symMergeCmpFunc_int_r33.eq_1
theorem e_slices_symMergeCmpFunc_int_r34 : type_of% f_slices_symMergeCmpFunc_int_r34.eq_1 := by_rfl f_slices_symMergeCmpFunc_int_r34.eq_1
theorem e_slices_symMergeCmpFunc_int_r35 : type_of% f_slices_symMergeCmpFunc_int_r35.eq_1 := by_rfl f_slices_symMergeCmpFunc_int_r35.eq_1
theorem e_slices_symMergeCmpFunc_int_r36 : type_of% f_slices_symMergeCmpFunc_int_r36.eq_1 := by_rfl f_slices_symMergeCmpFunc_int_r36.eq_1
theorem e_slices_symMergeCmpFunc_int_r37 : type_of% f_slices_symMergeCmpFunc_int_r37.eq_1 := by_rfl f_slices_symMergeCmpFunc_int_r37.eq_1
theorem e_slices_symMergeCmpFunc_int_r38 : type_of% f_slices_symMergeCmpFunc_int_r38.eq_1 := by_rfl f_slices_symMergeCmpFunc_int_r38.eq_1
theorem e_slices_symMergeCmpFunc_int_r39 : type_of% f_slices_symMergeCmpFunc_int_r39.eq_1 := by_rfl f_slices_symMergeCmpFunc_int_r39.eq_1
theorem e_slices_symMergeCmpFunc_int_r40 : type_of% f_slices_symMergeCmpFunc_int_r40.eq_1 := by_rfl f_slices_symMergeCmpFunc_int_r40.eq_1
theorem e_slices_symMergeCmpFunc_int_r41 : type_of% f_slices_symMergeCmpFunc_int_r41.eq_1 := by_rfl f_slices_symMergeCmpFunc_int_r41.eq_1
theorem e_slices_symMergeCmpFunc_int_l42 : type_of% f_slices_symMergeCmpFunc_int_l42.eq_1 := by_rfl f_slices_symMergeCmpFunc_int_l42.eq_1
theorem e_slices_symMergeCmpFunc_int_r43 : type_of% f_slices_symMergeCmpFunc_int_r43.eq_1 := by_rfl f_slices_symMergeCmpFunc_int_r43.eq_1
theorem e_slices_symMergeCmpFunc_int_r44 : type_of% f_slices_symMergeCmpFunc_int_r44.eq_1 := by_rfl f_slices_symMergeCmpFunc_int_r44.eq_1
theorem e_slices_symMergeCmpFunc_int_r45 : type_of% f_slices_symMergeCmpFunc_int_r45.eq_1 := by_rfl f_slices_symMergeCmpFunc_int_r45.eq_1
theorem e_slices_symMergeCmpFunc_int_r46 : type_of% f_slices_symMergeCmpFunc_int_r46.eq_1 := by_rfl f_slices_symMergeCmpFunc_int_r46.eq_1
theorem e_slices_symMergeCmpFunc_int_r47 : type_of% f_slices_symMergeCmpFunc_int_r47.eq_1 := by_rfl f_slices_symMergeCmpFunc_int_r47.eq_1
theorem e_slices_symMergeCmpFunc_int_r48 : type_of% f_slices_symMergeCmpFunc_int_r48.eq_1 := by_rfl f_slices_symMergeCmpFunc_int_r48.eq_1
theorem e_slices_symMergeCmpFunc_int_r49 : type_of% f_slices_symMergeCmpFunc_int_r49.eq_1 := by_rfl f_slices_symMergeCmpFunc_int_r49.eq_1
theorem e_slices_symMergeCmpFunc_int : type_of% f_slices_symMergeCmpFunc_int.eq_1 := by_rfl f_slices_symMergeCmpFunc_int.eq_1
theorem ok_slices_symMergeCmpFunc_int : fnC Tryz.prog a_slices_symMergeCmpFunc_int Tryz.f125 = some f_slices_symMergeCmpFunc_int := by kernel_rfl

/-! 128 slices.rotateCmpFunc[int] -/
def f_slices_rotateCmpFunc_int_r0 : List Abs.Op := [
  ⟨some 12, none, false, .mv (.t 2)⟩,
  ⟨some 13, none, false, .mv (.t 1)⟩,
  ⟨some 14, none, false, .bin .sub (.t 12) (.t 13)⟩,
  ⟨some 10, none, false, .mv (.t 14)⟩]

def f_slices_rotateCmpFunc_int_r1 : List Abs.Op := [
  ⟨some 15, none, false, .mv (.t 3)⟩,
  ⟨some 16, none, false, .mv (.t 2)⟩,
  ⟨some 17, none, false, .bin .sub (.t 15) (.t 16)⟩,
  ⟨some 11, none, false, .mv (.t 17)⟩]

def f_slices_rotateCmpFunc_int_r2 : List Abs.Op := [
  ⟨some 18, none, false, .mv (.t 10)⟩,
  ⟨some 19, none, false, .mv (.t 11)⟩,
  ⟨some 20, none, false, .bin .neq (.t 18) (.t 19)⟩]

def f_slices_rotateCmpFunc_int_r3 : List Abs.Op := [
  ⟨some 21, none, false, .mv (.t 10)⟩,
  ⟨some 22, none, false, .mv (.t 11)⟩,
  ⟨some 23, none, false, .bin .gtr (.t 21) (.t 22)⟩]

def f_slices_rotateCmpFunc_int_r4 : List Abs.Op := [
  ⟨some 24, none, false, .mv (.t 0)⟩,
  ⟨some 25, none, false, .mv (.t 2)⟩,
  ⟨some 26, none, false, .mv (.t 10)⟩,
  ⟨some 27, none, false, .bin .sub (.t 25) (.t 26)⟩,
  ⟨some 28, none, false, .mv (.t 2)⟩,
  ⟨some 29, none, false, .mv (.t 11)⟩,
  ⟨some 30, none, false, .mv (.t 4)⟩,
  ⟨some 31, none, false, .call false (.c (.fn i_slices_swapRangeCmpFunc_int [] [])) [(.t 24), (.t 27), (.t 28), (.t 29), (.t 30)]⟩]

def f_slices_rotateCmpFunc_int_r5 : List Abs.Op := [
  ⟨some 32, none, false, .mv (.t 10)⟩,
  ⟨some 33, none, false, .mv (.t 11)⟩,
  ⟨some 34, none, false, .bin .sub (.t 32) (.t 33)⟩,
  ⟨some 10, none, false, .mv (.t 34)⟩]

def f_slices_rotateCmpFunc_int_r6 : List Abs.Op := [
  ⟨some 35, none, false, .mv (.t 0)⟩,
  ⟨some 36, none, false, .mv (.t 2)⟩,
  ⟨some 37, none, false, .mv (.t 10)⟩,
  ⟨some 38, none, false, .bin .sub (.t 36) (.t 37)⟩,
  ⟨some 39, none, false, .mv (.t 2)⟩,
  ⟨some 40, none, false, .mv (.t 11)⟩,
  ⟨some 41, none, false, .bin .add (.t 39) (.t 40)⟩,
  ⟨some 42, none, false, .mv (.t 10)⟩,
  ⟨some 43, none, false, .bin .sub (.t 41) (.t 42)⟩,
  ⟨some 44, none, false, .mv (.t 10)⟩,
  ⟨some 45, none, false, .mv (.t 4)⟩,
  ⟨some 46, none, false, .call false (.c (.fn i_slices_swapRangeCmpFunc_int [] [])) [(.t 35), (.t 38), (.t 43), (.t 44), (.t 45)]⟩]

def f_slices_rotateCmpFunc_int_r7 : List Abs.Op := [
  ⟨some 47, none, false, .mv (.t 11)⟩,
  ⟨some 48, none, false, .mv (.t 10)⟩,
  ⟨some 49, none, false, .bin .sub (.t 47) (.t 48)⟩,
  ⟨some 11, none, false, .mv (.t 49)⟩]

def f_slices_rotateCmpFunc_int_l8 : Abs.Cmd :=
  (.seq (.seq (.reg [0, 2, 4, 10, 11, 20] f_slices_rotateCmpFunc_int_r2) (.ite (.t 20) .nop (.exit 0))) (.blk 1 (.seq (.reg [0, 2, 4, 10, 11, 23] f_slices_rotateCmpFunc_int_r3) (.ite (.t 23) (.seq (.reg [0, 2, 4, 10, 11] f_slices_rotateCmpFunc_int_r4) (.reg [0, 2, 4, 10, 11] f_slices_rotateCmpFunc_int_r5)) (.seq (.reg [0, 2, 4, 10, 11] f_slices_rotateCmpFunc_int_r6) (.reg [0, 2, 4, 10, 11] f_slices_rotateCmpFunc_int_r7))))))

def f_slices_rotateCmpFunc_int_r9 : List Abs.Op := [
  ⟨some 50, none, false, .mv (.t 0)⟩,
  ⟨some 51, none, false, .mv (.t 2)⟩,
  ⟨some 52, none, false, .mv (.t 10)⟩,
  ⟨some 53, none, false, .bin .sub (.t 51) (.t 52)⟩,
  ⟨some 54, none, false, .mv (.t 2)⟩,
  ⟨some 55, none, false, .mv (.t 10)⟩,
  ⟨some 56, none, false, .mv (.t 4)⟩,
  ⟨some 57, none, false, .call false (.c (.fn i_slices_swapRangeCmpFunc_int [] [])) [(.t 50), (.t 53), (.t 54), (.t 55), (.t 56)]⟩]

def a_slices_rotateCmpFunc_int : Ann := ⟨[(8, []), (5, [0, 2, 4, 10, 11]), (4, [0, 2, 4, 10, 11]), (7, [0, 2, 4, 10, 11]), (6, [0, 2, 4, 10, 11]), (3, [0, 2, 4, 10, 11, 23]), (2, [0, 2, 4, 10, 11, 20]), (1, [0, 2, 4, 10, 11]), (0, [0, 2, 3, 4, 10])], [(0, [0, 2, 4, 10, 11])], [], [], [], [], [], [], [], []⟩
def f_slices_rotateCmpFunc_int : Abs.Fn := ⟨5, [],
  (.seq (.reg [0, 2, 3, 4, 10] f_slices_rotateCmpFunc_int_r0) (.seq (.reg [0, 2, 4, 10, 11] f_slices_rotateCmpFunc_int_r1) (.seq (.blk 0 (.loop [0, 2, 4, 10, 11] false f_slices_rotateCmpFunc_int_l8)) (.reg [] f_slices_rotateCmpFunc_int_r9))))⟩

theorem e_slices_rotateCmpFunc_int_r0 : type_of% f_slices_rotateCmpFunc_int_r0.eq_1 := by_rfl f_slices_rotateCmpFunc_int_r0.eq_1
theorem e_slices_rotateCmpFunc_int_r1 : type_of% f_slices_rotateCmpFunc_int_r1.eq_1 := by_rfl f_slices_rotateCmpFunc_int_r1.eq_1
theorem e_slices_rotateCmpFunc_int_r2 : type_of% f_slices_rotateCmpFunc_int_r2.eq_1 := by_rfl f_slices_rotateCmpFunc_int_r2.eq_1
theorem e_slices_rotateCmpFunc_int_r3 : type_of% f_slices_rotateCmpFunc_int_r3.eq_1 := by_rfl f_slices_rotateCmpFunc_int_r3.eq_1
theorem e_slices_rotateCmpFunc_int_r4 : type_of% f_slices_rotateCmpFunc_int_r4.eq_1 := by_rfl f_slices_rotateCmpFunc_int_r4.eq_1
theorem e_slices_rotateCmpFunc_int_r5 : type_of% f_slices_rotateCmpFunc_int_r5.eq_1 := by_rfl f_slices_rotateCmpFunc_int_r5.eq_1
theorem e_slices_rotateCmpFunc_int_r6 : type_of% f_slices_rotateCmpFunc_int_r6.eq_1 := by_rfl f_slices_rotateCmpFunc_int_r6.eq_1
theorem e_slices_rotateCmpFunc_int_r7 : type_of% f_slices_rotateCmpFunc_int_r7.eq_1 := by_rfl f_slices_rotateCmpFunc_int_r7.eq_1
theorem e_slices_rotateCmpFunc_int_l8 : type_of% f_slices_rotateCmpFunc_int_l8.eq_1 := by_rfl f_slices_rotateCmpFunc_int_l8.eq_1
theorem e_slices_rotateCmpFunc_int_r9 : type_of% f_slices_rotateCmpFunc_int_r9.eq_1 := by_rfl f_slices_rotateCmpFunc_int_r9.eq_1
theorem e_slices_rotateCmpFunc_int : type_of% f_slices_rotateCmpFunc_int.eq_1 := by_rfl f_slices_rotateCmpFunc_int.eq_1
theorem ok_slices_rotateCmpFunc_int : fnC Tryz.prog a_slices_rotateCmpFunc_int Tryz.f128 = some f_slices_rotateCmpFunc_int := by kernel_rfl

/-! 140 slices.swapRangeCmpFunc[int] -/
def f_slices_swapRangeCmpFunc_int_r0 : List Abs.Op := [
  ⟨some 10, none, false, .mv (.c (.int .i64 0))⟩]

def f_slices_swapRangeCmpFunc_int_r1 : List Abs.Op := [
  ⟨some 11, none, false, .mv (.t 10)⟩,
  ⟨some 12, none, false, .mv (.t 3)⟩,
  ⟨some 13, none, false, .bin .lss (.t 11) (.t 12)⟩]

def f_slices_swapRangeCmpFunc_int_r2 : List Abs.Op := [
  ⟨some 16, none, true, .mv (.t 0)⟩,
  ⟨some 17, none, true, .mv (.t 1)⟩,
  ⟨some 18, none, true, .mv (.t 10)⟩,
  ⟨some 19, none, true, .bin .add (.t 17) (.t 18)⟩,
  ⟨some 20, none, true, .mv (.t 0)⟩,
  ⟨some 21, none, true, .mv (.t 2)⟩,
  ⟨some 22, none, true, .mv (.t 10)⟩,
  ⟨some 23, none, true, .bin .add (.t 21) (.t 22)⟩,
  ⟨some 24, none, true, .mv (.t 0)⟩,
  ⟨some 25, none, true, .mv (.t 2)⟩,
  ⟨some 26, none, true, .mv (.t 10)⟩,
  ⟨some 27, none, true, .bin .add (.t 25) (.t 26)⟩,
  ⟨some 28, none, true, .idxS 1 (.t 24) (.t 27)⟩,
  ⟨some 29, none, true, .ld false 1 (.t 28)⟩,
  ⟨some 30, none, true, .mv (.t 0)⟩,
  ⟨some 31, none, true, .mv (.t 1)⟩,
  ⟨some 32, none, true, .mv (.t 10)⟩,
  ⟨some 33, none, true, .bin .add (.t 31) (.t 32)⟩,
  ⟨some 34, none, true, .idxS 1 (.t 30) (.t 33)⟩,
  ⟨some 35, none, true, .ld false 1 (.t 34)⟩,
  ⟨some 36, none, true, .idxS 1 (.t 16) (.t 19)⟩,
  ⟨none, none, true, .st [] 1 (.t 36) (.t 29)⟩,
  ⟨some 37, none, false, .idxS 1 (.t 20) (.t 23)⟩,
  ⟨none, none, false, .st [] 1 (.t 37) (.t 35)⟩]

def f_slices_swapRangeCmpFunc_int_r3 : List Abs.Op := [
  ⟨some 14, none, false, .mv (.t 10)⟩,
  ⟨some 15, none, false, .bin .add (.t 14) (.c (.int .i64 1))⟩,
  ⟨some 10, none, false, .mv (.t 15)⟩]

def f_slices_swapRangeCmpFunc_int_l4 : Abs.Cmd :=
  (.seq (.seq (.reg [0, 1, 2, 3, 10, 13] f_slices_swapRangeCmpFunc_int_r1) (.ite (.t 13) .nop (.exit 0))) (.seq (.blk 1 (.reg [0, 1, 2, 3, 10] f_slices_swapRangeCmpFunc_int_r2)) (.reg [0, 1, 2, 3, 10] f_slices_swapRangeCmpFunc_int_r3)))

def a_slices_swapRangeCmpFunc_int : Ann := ⟨[(2, [0, 1, 2, 3, 10]), (3, [0, 1, 2, 3, 10]), (1, [0, 1, 2, 3, 10, 13]), (0, [0, 1, 2, 3, 10])], [(0, [0, 1, 2, 3, 10])], [], [], [], [], [], [], [], []⟩
def f_slices_swapRangeCmpFunc_int : Abs.Fn := ⟨5, [],
  (.seq (.reg [0, 1, 2, 3, 10] f_slices_swapRangeCmpFunc_int_r0) (.blk 0 (.loop [0, 1, 2, 3, 10] false f_slices_swapRangeCmpFunc_int_l4)))⟩

theorem e_slices_swapRangeCmpFunc_int_r0 : type_of% f_slices_swapRangeCmpFunc_int_r0.eq_1 := by_rfl f_slices_swapRangeCmpFunc_int_r0.eq_1
theorem e_slices_swapRangeCmpFunc_int_r1 : type_of% f_slices_swapRangeCmpFunc_int_r1.eq_1 := by_rfl f_slices_swapRangeCmpFunc_int_r1.eq_1
theorem e_slices_swapRangeCmpFunc_int_r2 : type_of% f_slices_swapRangeCmpFunc_int_r2.eq_1 := by_rfl f_slices_swapRangeCmpFunc_int_r2.eq_1
theorem e_slices_swapRangeCmpFunc_int_r3 : type_of% f_slices_swapRangeCmpFunc_int_r3.eq_1 := by_rfl f_slices_swapRangeCmpFunc_int_r3.eq_1
theorem e_slices_swapRangeCmpFunc_int_l4 : type_of% f_slices_swapRangeCmpFunc_int_l4.eq_1 := by_rfl f_slices_swapRangeCmpFunc_int_l4.eq_1
theorem e_slices_swapRangeCmpFunc_int : type_of% f_slices_swapRangeCmpFunc_int.eq_1 := by_rfl f_slices_swapRangeCmpFunc_int.eq_1
theorem ok_slices_swapRangeCmpFunc_int : fnC Tryz.prog a_slices_swapRangeCmpFunc_int Tryz.f140 = some f_slices_swapRangeCmpFunc_int := by kernel_rfl

end Go.Proofs.YtcccafphhmcifaaGreat
