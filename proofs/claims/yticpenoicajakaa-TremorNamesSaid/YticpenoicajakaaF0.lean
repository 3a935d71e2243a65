/- The code of functions of the program, in the small instruction set; each is what the translation makes of it. -/
import Derived.Test.YticpenoicajakaaIds
set_option linter.unusedVariables false
set_option maxRecDepth 100000
namespace Go.Proofs.Yticpenoicajakaa
open Go Go.Abs
/-! 14 fumarole/fumarolelaw09.TremorNames -/
def f_law09_TremorNames_r0 : List Abs.Op := [
  ⟨some 0, none, false, .mv (.c (.bool false))⟩]

def f_law09_TremorNames_r1 : List Abs.Op := [
  ⟨some 29, none, false, .call true (.c (.fn i_law09_Heard [] [])) []⟩,
  ⟨some 30, none, false, .bld [(.int .i64 0), (.int .i64 0)] [(0, 1, (.c (.int .i64 9000))), (1, 1, (.c (.int .i64 9000)))]⟩,
  ⟨some 31, none, false, .bld [(.int .i64 0), (.int .u8 0), (.int .i64 0), (.int .i64 0)] [(1, 1, (.c (.int .u8 1))), (2, 2, (.t 30))]⟩,
  ⟨some 32, none, false, .bsi 1 4 [(.int .i64 0), (.int .u8 0), (.int .i64 0), (.int .i64 0)] [(0, 4, (.t 31))]⟩,
  ⟨some 33, none, false, .app 4 32 (.t 29) (.t 32)⟩,
  ⟨some 1, none, false, .mv (.t 33)⟩]

def f_law09_TremorNames_r2 : List Abs.Op := [
  ⟨some 35, none, false, .call false (.c (.fn i_law09_Two [] [])) []⟩,
  ⟨some 36, none, false, .mv (.t 1)⟩,
  ⟨some 37, none, false, .call false (.c (.fn i_tremor_Blame [] [])) [(.t 35), (.t 36)]⟩,
  ⟨some 34, none, false, .mv (.t 37)⟩,
  ⟨some 38, none, false, .ext (.t 34) 0⟩,
  ⟨some 39, none, false, .ext (.t 34) 1⟩,
  ⟨some 2, none, false, .mv (.t 38)⟩,
  ⟨some 3, none, false, .mv (.t 39)⟩]

def f_law09_TremorNames_r3 : List Abs.Op := [
  ⟨some 41, none, false, .call false (.c (.fn i_law09_Two [] [])) []⟩,
  ⟨some 42, none, false, .mv (.t 1)⟩,
  ⟨some 43, none, false, .call false (.c (.fn i_tremor_Reasons [] [])) [(.t 41), (.t 42)]⟩,
  ⟨some 40, none, false, .mv (.t 43)⟩,
  ⟨some 44, none, false, .ext (.t 40) 0⟩,
  ⟨some 45, none, false, .ext (.t 40) 1⟩,
  ⟨some 4, none, false, .mv (.t 44)⟩,
  ⟨some 5, none, false, .mv (.t 45)⟩]

def f_law09_TremorNames_r4 : List Abs.Op := [
  ⟨some 46, none, false, .bld [(.int .i64 0), (.int .i64 0), (.int .i64 0)] [(0, 1, (.c (.int .i64 1500)))]⟩,
  ⟨some 47, none, false, .bld [(.int .i64 0), (.int .i64 0), (.int .i64 0), (.int .i64 0), (.int .i64 0), (.int .i64 0), (.int .i64 0), (.int .i64 0), (.int .i64 0), (.int .u8 0)] [(3, 3, (.t 46)), (6, 1, (.c (.int .i64 20))), (7, 1, (.c (.int .i64 10))), (8, 1, (.c (.int .i64 1))), (9, 1, (.c (.int .u8 2)))]⟩,
  ⟨some 48, none, false, .bsi 1 10 [(.int .i64 0), (.int .i64 0), (.int .i64 0), (.int .i64 0), (.int .i64 0), (.int .i64 0), (.int .i64 0), (.int .i64 0), (.int .i64 0), (.int .u8 0)] [(0, 10, (.t 47))]⟩,
  ⟨some 6, none, false, .mv (.t 48)⟩]

def f_law09_TremorNames_r5 : List Abs.Op := [
  ⟨some 50, none, false, .mv (.t 6)⟩,
  ⟨some 51, none, false, .bld [(.int .i64 0), (.int .i64 0), (.int .i64 0)] [(0, 1, (.c (.int .i64 1000)))]⟩,
  ⟨some 52, none, false, .bld [(.int .i64 0), (.int .i64 0), (.int .i64 0), (.int .i64 0)] [(0, 3, (.t 51)), (3, 1, (.c (.int .i64 25)))]⟩,
  ⟨some 53, none, false, .bld [(.int .i64 0), (.int .i64 0), (.int .i64 0)] [(0, 1, (.c (.int .i64 2000)))]⟩,
  ⟨some 54, none, false, .bld [(.int .i64 0), (.int .i64 0), (.int .i64 0), (.int .i64 0)] [(0, 3, (.t 53)), (3, 1, (.c (.int .i64 25)))]⟩,
  ⟨some 55, none, false, .bsi 2 4 [(.int .i64 0), (.int .i64 0), (.int .i64 0), (.int .i64 0), (.int .i64 0), (.int .i64 0), (.int .i64 0), (.int .i64 0)] [(0, 4, (.t 52)), (4, 4, (.t 54))]⟩,
  ⟨some 56, none, false, .bld [(.int .i64 0), .nils] [(0, 1, (.c (.int .i64 5))), (1, 1, (.t 55))]⟩,
  ⟨some 57, none, false, .bsi 1 2 [(.int .i64 0), .nils] [(0, 2, (.t 56))]⟩,
  ⟨some 58, none, false, .call false (.c (.fn i_tremor_Light [] [])) [(.t 50), (.t 57), (.c (.int .i64 12))]⟩,
  ⟨some 49, none, false, .mv (.t 58)⟩,
  ⟨some 59, none, false, .ext (.t 49) 0⟩,
  ⟨some 60, none, false, .ext (.t 49) 1⟩,
  ⟨some 61, none, false, .ext (.t 49) 2⟩,
  ⟨some 7, none, false, .mv (.t 59)⟩,
  ⟨some 8, none, false, .mv (.t 60)⟩,
  ⟨some 9, none, false, .mv (.t 61)⟩]

def f_law09_TremorNames_r6 : List Abs.Op := [
  ⟨some 62, none, false, .mv (.t 3)⟩,
  ⟨some 63, none, false, .bin .neq (.t 62) (.c (.int .i64 0))⟩,
  ⟨some 64, none, false, .mv (.t 63)⟩,
  ⟨some 65, some (64, false), false, .mv (.t 2)⟩,
  ⟨some 66, some (64, false), false, .bin .neq (.t 65) (.c (.int .i64 2))⟩,
  ⟨some 67, none, false, .pick (.t 64) (.c (.bool true)) (.t 66)⟩,
  ⟨some 68, none, false, .mv (.t 67)⟩,
  ⟨some 69, some (68, false), false, .mv (.t 5)⟩,
  ⟨some 70, some (68, false), false, .bin .neq (.t 69) (.c (.int .i64 0))⟩,
  ⟨some 71, none, false, .pick (.t 68) (.c (.bool true)) (.t 70)⟩,
  ⟨some 72, none, false, .mv (.t 71)⟩,
  ⟨some 73, some (72, false), false, .mv (.t 4)⟩,
  ⟨some 74, some (72, false), false, .lenS (.t 73)⟩,
  ⟨some 75, some (72, false), false, .bin .neq (.t 74) (.c (.int .i64 4))⟩,
  ⟨some 76, none, false, .pick (.t 72) (.c (.bool true)) (.t 75)⟩,
  ⟨some 77, none, false, .mv (.t 76)⟩,
  ⟨some 78, some (77, false), false, .call false (.c (.fn i_law09_Two [] [])) []⟩,
  ⟨some 79, some (77, false), false, .mv (.t 1)⟩,
  ⟨some 80, some (77, false), false, .mv (.t 4)⟩,
  ⟨some 81, some (77, false), false, .call false (.c (.fn i_tremor_ProveNone [] [])) [(.t 78), (.t 79), (.t 80)]⟩,
  ⟨some 82, some (77, false), false, .un .not (.t 81)⟩,
  ⟨some 83, none, false, .pick (.t 77) (.c (.bool true)) (.t 82)⟩,
  ⟨some 84, none, false, .mv (.t 83)⟩,
  ⟨some 85, some (84, false), false, .call false (.c (.fn i_law09_Two [] [])) []⟩,
  ⟨some 86, some (84, false), false, .call false (.c (.fn i_law09_Heard [] [])) []⟩,
  ⟨some 87, some (84, false), false, .mv (.t 4)⟩,
  ⟨some 88, some (84, false), false, .call false (.c (.fn i_tremor_ProveNone [] [])) [(.t 85), (.t 86), (.t 87)]⟩,
  ⟨some 89, none, false, .pick (.t 84) (.c (.bool true)) (.t 88)⟩,
  ⟨some 90, none, false, .mv (.t 89)⟩,
  ⟨some 91, some (90, false), false, .mv (.t 9)⟩,
  ⟨some 92, some (90, false), false, .bin .neq (.t 91) (.c (.int .i64 0))⟩,
  ⟨some 93, none, false, .pick (.t 90) (.c (.bool true)) (.t 92)⟩,
  ⟨some 94, none, false, .mv (.t 93)⟩,
  ⟨some 95, some (94, false), false, .mv (.t 7)⟩,
  ⟨some 96, some (94, false), false, .bin .neq (.t 95) (.c (.int .u8 2))⟩,
  ⟨some 97, none, false, .pick (.t 94) (.c (.bool true)) (.t 96)⟩,
  ⟨some 98, none, false, .mv (.t 97)⟩,
  ⟨some 99, some (98, false), false, .mv (.t 8)⟩,
  ⟨some 100, some (98, false), false, .bin .neq (.t 99) (.c (.int .u8 0))⟩,
  ⟨some 101, none, false, .pick (.t 98) (.c (.bool true)) (.t 100)⟩]

def f_law09_TremorNames_r7 : List Abs.Op := [
  ⟨some 0, none, false, .mv (.c (.bool false))⟩]

def f_law09_TremorNames_r8 : List Abs.Op := [
  ⟨some 103, none, false, .call false (.c (.fn i_law09_Two [] [])) []⟩,
  ⟨some 104, none, false, .mv (.t 1)⟩,
  ⟨some 105, none, false, .call false (.c (.fn i_tremor_Locate [] [])) [(.t 103), (.t 104)]⟩,
  ⟨some 102, none, false, .mv (.t 105)⟩,
  ⟨some 106, none, false, .ext (.t 102) 0⟩,
  ⟨some 107, none, false, .ext (.t 102) 1⟩,
  ⟨some 10, none, false, .mv (.t 106)⟩,
  ⟨some 11, none, false, .mv (.t 107)⟩]

def f_law09_TremorNames_r9 : List Abs.Op := [
  ⟨some 109, none, false, .call false (.c (.fn i_law09_Two [] [])) []⟩,
  ⟨some 110, none, false, .call false (.c (.fn i_tremor_Locate [] [])) [(.t 109), (.c .nils)]⟩,
  ⟨some 108, none, false, .mv (.t 110)⟩,
  ⟨some 111, none, false, .ext (.t 108) 0⟩,
  ⟨some 112, none, false, .ext (.t 108) 1⟩,
  ⟨some 12, none, false, .mv (.t 111)⟩,
  ⟨some 13, none, false, .mv (.t 112)⟩]

def f_law09_TremorNames_r10 : List Abs.Op := [
  ⟨some 114, none, false, .call false (.c (.fn i_law09_Two [] [])) []⟩,
  ⟨some 115, none, false, .call false (.c (.fn i_law09_Heard [] [])) []⟩,
  ⟨some 116, none, false, .call false (.c (.fn i_tremor_Reasons [] [])) [(.t 114), (.t 115)]⟩,
  ⟨some 113, none, false, .mv (.t 116)⟩,
  ⟨some 117, none, false, .ext (.t 113) 0⟩,
  ⟨some 118, none, false, .ext (.t 113) 1⟩,
  ⟨some 14, none, false, .mv (.t 117)⟩,
  ⟨some 15, none, false, .mv (.t 118)⟩]

def f_law09_TremorNames_r11 : List Abs.Op := [
  ⟨some 120, none, false, .call false (.c (.fn i_law09_Two [] [])) []⟩,
  ⟨some 121, none, false, .bld [(.int .i64 0), (.int .i64 0), (.int .i64 0)] []⟩,
  ⟨some 122, none, false, .call false (.c (.fn i_tremor_Travel [] [])) [(.t 120), (.c (.int .i64 2)), (.c (.int .u8 0)), (.t 121)]⟩,
  ⟨some 119, none, false, .mv (.t 122)⟩,
  ⟨some 123, none, false, .ext (.t 119) 0⟩,
  ⟨some 124, none, false, .ext (.t 119) 1⟩,
  ⟨some 16, none, false, .alcv [] [(.int .i64 0), (.int .i64 0)]⟩,
  ⟨none, none, false, .stv 16 [] 2 16 (.t 123)⟩,
  ⟨some 17, none, false, .mv (.t 124)⟩]

def f_law09_TremorNames_r12 : List Abs.Op := [
  ⟨some 126, none, false, .call false (.c (.fn i_law09_Two [] [])) []⟩,
  ⟨some 127, none, false, .bld [(.int .i64 0), (.int .i64 0), (.int .i64 0)] [(0, 1, (.c (.int .i64 20001)))]⟩,
  ⟨some 128, none, false, .call false (.c (.fn i_tremor_Travel [] [])) [(.t 126), (.c (.int .i64 1)), (.c (.int .u8 0)), (.t 127)]⟩,
  ⟨some 125, none, false, .mv (.t 128)⟩,
  ⟨some 129, none, false, .ext (.t 125) 0⟩,
  ⟨some 130, none, false, .ext (.t 125) 1⟩,
  ⟨some 18, none, false, .alcv [] [(.int .i64 0), (.int .i64 0)]⟩,
  ⟨none, none, false, .stv 18 [] 2 18 (.t 129)⟩,
  ⟨some 19, none, false, .mv (.t 130)⟩]

def f_law09_TremorNames_r13 : List Abs.Op := [
  ⟨some 132, none, false, .bld [(.int .i64 0), (.int .i64 0), (.int .i64 0), (.int .i64 0), (.int .i64 0)] [(0, 1, (.c (.int .i64 1))), (1, 1, (.c (.int .i64 10))), (2, 1, (.c (.int .i64 1))), (3, 1, (.c (.int .i64 10))), (4, 1, (.c (.int .i64 20)))]⟩,
  ⟨some 133, none, false, .bsi 1 1 [(.bool false)] [(0, 1, (.c (.bool true)))]⟩,
  ⟨some 134, none, false, .call false (.c (.fn i_tremor_Won [] [])) [(.t 132), (.t 133)]⟩,
  ⟨some 131, none, false, .mv (.t 134)⟩,
  ⟨some 135, none, false, .ext (.t 131) 0⟩,
  ⟨some 136, none, false, .ext (.t 131) 1⟩,
  ⟨some 20, none, false, .mv (.t 135)⟩,
  ⟨some 21, none, false, .mv (.t 136)⟩]

def f_law09_TremorNames_r14 : List Abs.Op := [
  ⟨some 138, none, false, .bld [(.int .i64 0), (.int .i64 0), (.int .i64 0), (.int .i64 0), (.int .i64 0)] [(0, 1, (.c (.int .i64 1))), (1, 1, (.c (.int .i64 10))), (2, 1, (.c (.int .i64 1))), (3, 1, (.c (.int .i64 1))), (4, 1, (.c (.int .i64 10)))]⟩,
  ⟨some 139, none, false, .bsi 1 1 [(.bool false)] [(0, 1, (.c (.bool true)))]⟩,
  ⟨some 140, none, false, .call false (.c (.fn i_tremor_Won [] [])) [(.t 138), (.t 139)]⟩,
  ⟨some 137, none, false, .mv (.t 140)⟩,
  ⟨some 141, none, false, .ext (.t 137) 0⟩,
  ⟨some 142, none, false, .ext (.t 137) 1⟩,
  ⟨some 22, none, false, .mv (.t 141)⟩,
  ⟨some 23, none, false, .mv (.t 142)⟩]

def f_law09_TremorNames_r15 : List Abs.Op := [
  ⟨some 144, none, false, .call false (.c (.fn i_tremor_Light [] [])) [(.c .nils), (.c .nils), (.c (.int .i64 (-1)))]⟩,
  ⟨some 143, none, false, .mv (.t 144)⟩,
  ⟨some 145, none, false, .ext (.t 143) 0⟩,
  ⟨some 146, none, false, .ext (.t 143) 1⟩,
  ⟨some 147, none, false, .ext (.t 143) 2⟩,
  ⟨some 24, none, false, .mv (.t 145)⟩,
  ⟨some 25, none, false, .mv (.t 146)⟩,
  ⟨some 26, none, false, .mv (.t 147)⟩]

def f_law09_TremorNames_r16 : List Abs.Op := [
  ⟨some 149, none, false, .bsi 1 1 [(.int .i64 0)] [(0, 1, (.c (.int .i64 1)))]⟩,
  ⟨some 150, none, false, .bld [(.int .i64 0), (.int .i64 0), (.int .i64 0)] []⟩,
  ⟨some 151, none, false, .call false (.c (.fn i_tremor_Inject [] [])) [(.t 149), (.c .nils), (.t 150), (.c (.int .i64 0))]⟩,
  ⟨some 148, none, false, .mv (.t 151)⟩,
  ⟨some 152, none, false, .ext (.t 148) 0⟩,
  ⟨some 153, none, false, .ext (.t 148) 1⟩,
  ⟨some 27, none, false, .mv (.t 152)⟩,
  ⟨some 28, none, false, .mv (.t 153)⟩]

def f_law09_TremorNames_r17 : List Abs.Op := [
  ⟨some 154, none, false, .mv (.t 11)⟩,
  ⟨some 155, none, false, .bin .eql (.t 154) (.c (.int .i64 7))⟩,
  ⟨some 156, none, false, .mv (.t 155)⟩,
  ⟨some 157, some (156, true), false, .mv (.t 13)⟩,
  ⟨some 158, some (156, true), false, .bin .eql (.t 157) (.c (.int .i64 1))⟩,
  ⟨some 159, none, false, .pick (.t 156) (.t 158) (.c (.bool false))⟩,
  ⟨some 160, none, false, .mv (.t 159)⟩,
  ⟨some 161, some (160, true), false, .mv (.t 15)⟩,
  ⟨some 162, some (160, true), false, .bin .eql (.t 161) (.c (.int .i64 7))⟩,
  ⟨some 163, none, false, .pick (.t 160) (.t 162) (.c (.bool false))⟩,
  ⟨some 164, none, false, .mv (.t 163)⟩,
  ⟨some 165, some (164, true), false, .mv (.t 17)⟩,
  ⟨some 166, some (164, true), false, .bin .eql (.t 165) (.c (.int .i64 2))⟩,
  ⟨some 167, none, false, .pick (.t 164) (.t 166) (.c (.bool false))⟩,
  ⟨some 168, none, false, .mv (.t 167)⟩,
  ⟨some 169, some (168, true), false, .mv (.t 19)⟩,
  ⟨some 170, some (168, true), false, .bin .eql (.t 169) (.c (.int .i64 1))⟩,
  ⟨some 171, none, false, .pick (.t 168) (.t 170) (.c (.bool false))⟩,
  ⟨some 172, none, false, .mv (.t 171)⟩,
  ⟨some 173, some (172, true), false, .mv (.t 21)⟩,
  ⟨some 174, some (172, true), false, .bin .eql (.t 173) (.c (.int .i64 7))⟩,
  ⟨some 175, none, false, .pick (.t 172) (.t 174) (.c (.bool false))⟩,
  ⟨some 176, none, false, .mv (.t 175)⟩,
  ⟨some 177, some (176, true), false, .mv (.t 23)⟩,
  ⟨some 178, some (176, true), false, .bin .eql (.t 177) (.c (.int .i64 0))⟩,
  ⟨some 179, none, false, .pick (.t 176) (.t 178) (.c (.bool false))⟩,
  ⟨some 180, none, false, .mv (.t 179)⟩,
  ⟨some 181, some (180, true), false, .mv (.t 22)⟩,
  ⟨some 182, some (180, true), false, .bin .eql (.t 181) (.c (.int .i64 0))⟩,
  ⟨some 183, none, false, .pick (.t 180) (.t 182) (.c (.bool false))⟩,
  ⟨some 184, none, false, .mv (.t 183)⟩,
  ⟨some 185, some (184, true), false, .mv (.t 26)⟩,
  ⟨some 186, some (184, true), false, .bin .eql (.t 185) (.c (.int .i64 2))⟩,
  ⟨some 187, none, false, .pick (.t 184) (.t 186) (.c (.bool false))⟩,
  ⟨some 188, none, false, .mv (.t 187)⟩,
  ⟨some 189, some (188, true), false, .mv (.t 28)⟩,
  ⟨some 190, some (188, true), false, .bin .eql (.t 189) (.c (.int .i64 1))⟩,
  ⟨some 191, none, false, .pick (.t 188) (.t 190) (.c (.bool false))⟩,
  ⟨some 192, none, false, .mv (.t 191)⟩,
  ⟨some 193, some (192, true), false, .bld [.nils, (.int .i64 0), (.int .i64 0), (.int .i64 0), (.int .i64 0), (.int .i64 0), (.int .i64 0), (.int .i64 0), (.int .i64 0), (.int .i64 0), (.int .i64 0), (.int .i64 0)] []⟩,
  ⟨some 194, some (192, true), false, .call false (.c (.fn i_tremor_CheckNet [] [])) [(.t 193)]⟩,
  ⟨some 195, some (192, true), false, .bin .eql (.t 194) (.c (.int .i64 1))⟩,
  ⟨some 196, none, false, .pick (.t 192) (.t 195) (.c (.bool false))⟩,
  ⟨some 197, none, false, .mv (.t 196)⟩,
  ⟨some 198, some (197, true), false, .call false (.c (.fn i_law09_awake [] [])) []⟩,
  ⟨some 199, none, false, .pick (.t 197) (.t 198) (.c (.bool false))⟩,
  ⟨some 0, none, false, .mv (.t 199)⟩]

def a_law09_TremorNames : Ann := ⟨[(17, [0]), (16, [11, 13, 15, 17, 19, 21, 22, 23, 26, 28]), (15, [11, 13, 15, 17, 19, 21, 22, 23, 26]), (14, [11, 13, 15, 17, 19, 21, 22, 23]), (13, [11, 13, 15, 17, 19, 21]), (12, [11, 13, 15, 17, 19]), (11, [11, 13, 15, 17]), (10, [11, 13, 15]), (9, [11, 13]), (8, [11]), (7, [0]), (6, [1, 101]), (5, [1, 2, 3, 4, 5, 7, 8, 9]), (4, [1, 2, 3, 4, 5, 6]), (3, [1, 2, 3, 4, 5]), (2, [1, 2, 3]), (1, [1]), (0, [])], [], [], [16, 18], [16, 18], [], [1000], [(2, [1])]⟩
def f_law09_TremorNames : Abs.Fn := ⟨0, [.t 0],
  (.seq (.reg [] f_law09_TremorNames_r0) (.seq (.reg [1] f_law09_TremorNames_r1) (.seq (.seq (.frz [1]) (.reg [1, 2, 3] f_law09_TremorNames_r2)) (.seq (.reg [1, 2, 3, 4, 5] f_law09_TremorNames_r3) (.seq (.reg [1, 2, 3, 4, 5, 6] f_law09_TremorNames_r4) (.seq (.reg [1, 2, 3, 4, 5, 7, 8, 9] f_law09_TremorNames_r5) (.seq (.seq (.reg [1, 101] f_law09_TremorNames_r6) (.ite (.t 101) (.seq (.reg [0] f_law09_TremorNames_r7) .ret) .nop)) (.seq (.reg [11] f_law09_TremorNames_r8) (.seq (.reg [11, 13] f_law09_TremorNames_r9) (.seq (.reg [11, 13, 15] f_law09_TremorNames_r10) (.seq (.reg [11, 13, 15, 17] f_law09_TremorNames_r11) (.seq (.reg [11, 13, 15, 17, 19] f_law09_TremorNames_r12) (.seq (.reg [11, 13, 15, 17, 19, 21] f_law09_TremorNames_r13) (.seq (.reg [11, 13, 15, 17, 19, 21, 22, 23] f_law09_TremorNames_r14) (.seq (.reg [11, 13, 15, 17, 19, 21, 22, 23, 26] f_law09_TremorNames_r15) (.seq (.reg [11, 13, 15, 17, 19, 21, 22, 23, 26, 28] f_law09_TremorNames_r16) (.seq (.reg [0] f_law09_TremorNames_r17) .ret)))))))))))))))))⟩

theorem e_law09_TremorNames_r0 : type_of% f_law09_TremorNames_r0.eq_1 := by_rfl f_law09_TremorNames_r0.eq_1
theorem e_law09_TremorNames_r1 : type_of% f_law09_TremorNames_r1.eq_1 := by_rfl f_law09_TremorNames_r1.eq_1
theorem e_law09_TremorNames_r2 : type_of% f_law09_TremorNames_r2.eq_1 := by_rfl f_law09_TremorNames_r2.eq_1
theorem e_law09_TremorNames_r3 : type_of% f_law09_TremorNames_r3.eq_1 := by_rfl f_law09_TremorNames_r3.eq_1
theorem e_law09_TremorNames_r4 : type_of% f_law09_TremorNames_r4.eq_1 := by_rfl f_law09_TremorNames_r4.eq_1
theorem e_law09_TremorNames_r5 : type_of% f_law09_TremorNames_r5.eq_1 := by_rfl f_law09_TremorNames_r5.eq_1
theorem e_law09_TremorNames_r6 : type_of% f_law09_TremorNames_r6.eq_1 := by_rfl f_law09_TremorNames_r6.eq_1
theorem e_law09_TremorNames_r7 : type_of% f_law09_TremorNames_r7.eq_1 := by_rfl f_law09_TremorNames_r7.eq_1
theorem e_law09_TremorNames_r8 : type_of% f_law09_TremorNames_r8.eq_1 := by_rfl f_law09_TremorNames_r8.eq_1
theorem e_law09_TremorNames_r9 : type_of% f_law09_TremorNames_r9.eq_1 := by_rfl f_law09_TremorNames_r9.eq_1
theorem e_law09_TremorNames_r10 : type_of% f_law09_TremorNames_r10.eq_1 := by_rfl f_law09_TremorNames_r10.eq_1
theorem e_law09_TremorNames_r11 : type_of% f_law09_TremorNames_r11.eq_1 := by_rfl f_law09_TremorNames_r11.eq_1
theorem e_law09_TremorNames_r12 : type_of% f_law09_TremorNames_r12.eq_1 := by_rfl f_law09_TremorNames_r12.eq_1
theorem e_law09_TremorNames_r13 : type_of% f_law09_TremorNames_r13.eq_1 := by_rfl f_law09_TremorNames_r13.eq_1
theorem e_law09_TremorNames_r14 : type_of% f_law09_TremorNames_r14.eq_1 := by_rfl f_law09_TremorNames_r14.eq_1
theorem e_law09_TremorNames_r15 : type_of% f_law09_TremorNames_r15.eq_1 := by_rfl f_law09_TremorNames_r15.eq_1
theorem e_law09_TremorNames_r16 : type_of% f_law09_TremorNames_r16.eq_1 := by_rfl f_law09_TremorNames_r16.eq_1
theorem e_law09_TremorNames_r17 : type_of% f_law09_TremorNames_r17.eq_1 := by_rfl f_law09_TremorNames_r17.eq_1
theorem e_law09_TremorNames : type_of% f_law09_TremorNames.eq_1 := by_rfl f_law09_TremorNames.eq_1
theorem ok_law09_TremorNames : fnC Try.prog a_law09_TremorNames Try.f14 = some f_law09_TremorNames := by kernel_rfl

/-! 16 fumarole/fumarolelaw09.awake -/
def f_law09_awake_r0 : List Abs.Op := [
  ⟨some 0, none, false, .mv (.c (.bool false))⟩]

def f_law09_awake_r1 : List Abs.Op := [
  ⟨some 12, none, false, .call false (.c (.fn i_law09_Two [] [])) []⟩,
  ⟨some 13, none, false, .bld [(.int .i64 0), (.int .i64 0), (.int .i64 0)] [(0, 1, (.c (.int .i64 1000)))]⟩,
  ⟨some 14, none, false, .call false (.c (.fn i_tremor_Travel [] [])) [(.t 12), (.c (.int .i64 0)), (.c (.int .u8 0)), (.t 13)]⟩,
  ⟨some 11, none, false, .mv (.t 14)⟩,
  ⟨some 15, none, false, .ext (.t 11) 0⟩,
  ⟨some 16, none, false, .ext (.t 11) 1⟩,
  ⟨some 1, none, false, .alcv [] [(.int .i64 0), (.int .i64 0)]⟩,
  ⟨none, none, false, .stv 1 [] 2 1 (.t 15)⟩,
  ⟨some 2, none, false, .mv (.t 16)⟩]

def f_law09_awake_r2 : List Abs.Op := [
  ⟨some 18, none, false, .call false (.c (.fn i_law09_Two [] [])) []⟩,
  ⟨some 19, none, false, .call false (.c (.fn i_law09_Heard [] [])) []⟩,
  ⟨some 20, none, false, .call false (.c (.fn i_tremor_Locate [] [])) [(.t 18), (.t 19)]⟩,
  ⟨some 17, none, false, .mv (.t 20)⟩,
  ⟨some 21, none, false, .ext (.t 17) 0⟩,
  ⟨some 22, none, false, .ext (.t 17) 1⟩,
  ⟨some 3, none, false, .mv (.t 21)⟩,
  ⟨some 4, none, false, .mv (.t 22)⟩]

def f_law09_awake_r3 : List Abs.Op := [
  ⟨some 24, none, false, .call false (.c (.fn i_law09_Two [] [])) []⟩,
  ⟨some 25, none, false, .bsi 3 1 [(.int .i64 0), (.int .i64 0), (.int .i64 0)] [(0, 1, (.c (.int .i64 10))), (1, 1, (.c (.int .i64 100))), (2, 1, (.c (.int .i64 1000)))]⟩,
  ⟨some 26, none, false, .bld [(.int .i64 0), (.int .i64 0)] [(1, 1, (.c (.int .i64 5)))]⟩,
  ⟨some 27, none, false, .bld [(.int .i64 0), (.int .i64 0)] [(0, 1, (.c (.int .i64 900))), (1, 1, (.c (.int .i64 8)))]⟩,
  ⟨some 28, none, false, .bsi 2 2 [(.int .i64 0), (.int .i64 0), (.int .i64 0), (.int .i64 0)] [(0, 2, (.t 26)), (2, 2, (.t 27))]⟩,
  ⟨some 29, none, false, .bld [.nils, .nils] [(0, 1, (.t 25)), (1, 1, (.t 28))]⟩,
  ⟨some 30, none, false, .bld [(.int .i64 0), (.int .i64 0), (.int .i64 0)] [(0, 1, (.c (.int .i64 1000)))]⟩,
  ⟨some 31, none, false, .bld [(.int .i64 0), (.int .i64 0)] [(1, 1, (.c (.int .i64 500)))]⟩,
  ⟨some 32, none, false, .bsi 1 2 [(.int .i64 0), (.int .i64 0)] [(0, 2, (.t 31))]⟩,
  ⟨some 33, none, false, .call false (.c (.fn i_tremor_Magnitude [] [])) [(.t 24), (.t 29), (.t 30), (.t 32)]⟩,
  ⟨some 23, none, false, .mv (.t 33)⟩,
  ⟨some 34, none, false, .ext (.t 23) 0⟩,
  ⟨some 35, none, false, .ext (.t 23) 1⟩,
  ⟨some 5, none, false, .mv (.t 34)⟩,
  ⟨some 6, none, false, .mv (.t 35)⟩]

def f_law09_awake_r4 : List Abs.Op := [
  ⟨some 37, none, false, .bld [(.int .i64 0), (.int .i64 0), (.int .i64 0), (.int .i64 0), (.int .i64 0)] [(0, 1, (.c (.int .i64 1))), (1, 1, (.c (.int .i64 10))), (2, 1, (.c (.int .i64 1))), (3, 1, (.c (.int .i64 10))), (4, 1, (.c (.int .i64 20)))]⟩,
  ⟨some 38, none, false, .bsi 3 1 [(.bool false), (.bool false), (.bool false)] [(0, 1, (.c (.bool true))), (1, 1, (.c (.bool false))), (2, 1, (.c (.bool true)))]⟩,
  ⟨some 39, none, false, .call false (.c (.fn i_tremor_Capital [] [])) [(.t 37), (.t 38)]⟩,
  ⟨some 36, none, false, .mv (.t 39)⟩,
  ⟨some 40, none, false, .ext (.t 36) 0⟩,
  ⟨some 41, none, false, .ext (.t 36) 1⟩,
  ⟨some 7, none, false, .mv (.t 40)⟩,
  ⟨some 8, none, false, .mv (.t 41)⟩]

def f_law09_awake_r5 : List Abs.Op := [
  ⟨some 43, none, false, .bsi 4 1 [(.int .i64 0), (.int .i64 0), (.int .i64 0), (.int .i64 0)] [(0, 1, (.c (.int .i64 100))), (1, 1, (.c (.int .i64 100))), (2, 1, (.c (.int .i64 100))), (3, 1, (.c (.int .i64 100)))]⟩,
  ⟨some 44, none, false, .bsi 4 1 [(.int .u8 0), (.int .u8 0), (.int .u8 0), (.int .u8 0)] [(0, 1, (.c (.int .u8 0))), (1, 1, (.c (.int .u8 2))), (2, 1, (.c (.int .u8 0))), (3, 1, (.c (.int .u8 0)))]⟩,
  ⟨some 45, none, false, .bld [(.int .i64 0), (.int .i64 0), (.int .i64 0)] [(0, 1, (.c (.int .i64 1000))), (1, 1, (.c (.int .i64 500))), (2, 1, (.c (.int .i64 0)))]⟩,
  ⟨some 46, none, false, .call false (.c (.fn i_tremor_Inject [] [])) [(.t 43), (.t 44), (.t 45), (.c (.int .i64 30))]⟩,
  ⟨some 42, none, false, .mv (.t 46)⟩,
  ⟨some 47, none, false, .ext (.t 42) 0⟩,
  ⟨some 48, none, false, .ext (.t 42) 1⟩,
  ⟨some 9, none, false, .mv (.t 47)⟩,
  ⟨some 10, none, false, .mv (.t 48)⟩]

def f_law09_awake_r6 : List Abs.Op := [
  ⟨some 49, none, false, .mv (.t 2)⟩,
  ⟨some 50, none, false, .bin .eql (.t 49) (.c (.int .i64 0))⟩,
  ⟨some 51, none, false, .mv (.t 50)⟩,
  ⟨some 52, some (51, true), false, .ldv 1 true 2 1⟩,
  ⟨some 53, some (51, true), false, .bld [(.int .i64 0), (.int .i64 0)] [(0, 1, (.c (.int .i64 200))), (1, 1, (.c (.int .i64 221)))]⟩,
  ⟨some 54, some (51, true), false, .eqv true [some .i64, some .i64] false (.t 52) (.t 53)⟩,
  ⟨some 55, none, false, .pick (.t 51) (.t 54) (.c (.bool false))⟩,
  ⟨some 56, none, false, .mv (.t 55)⟩,
  ⟨some 57, some (56, true), false, .mv (.t 4)⟩,
  ⟨some 58, some (56, true), false, .bin .eql (.t 57) (.c (.int .i64 0))⟩,
  ⟨some 59, none, false, .pick (.t 56) (.t 58) (.c (.bool false))⟩,
  ⟨some 60, none, false, .mv (.t 59)⟩,
  ⟨some 61, some (60, true), false, .mv (.t 3)⟩,
  ⟨some 62, some (60, true), false, .bld [(.int .i64 0), (.int .i64 0), (.int .i64 0)] [(0, 1, (.c (.int .i64 1000)))]⟩,
  ⟨some 63, some (60, true), false, .bld [(.int .i64 0), (.int .i64 0)] [(0, 1, (.c (.int .i64 4969))), (1, 1, (.c (.int .i64 5010)))]⟩,
  ⟨some 64, some (60, true), false, .bld [(.int .i64 0), (.int .i64 0), (.int .i64 0), (.int .i64 0), (.int .i64 0)] [(0, 3, (.t 62)), (3, 2, (.t 63))]⟩,
  ⟨some 65, some (60, true), false, .bsi 1 5 [(.int .i64 0), (.int .i64 0), (.int .i64 0), (.int .i64 0), (.int .i64 0)] [(0, 5, (.t 64))]⟩,
  ⟨some 66, some (60, true), false, .call false (.c (.fn i_law09_located [] [])) [(.t 61), (.t 65)]⟩,
  ⟨some 67, none, false, .pick (.t 60) (.t 66) (.c (.bool false))⟩,
  ⟨some 68, none, false, .mv (.t 67)⟩,
  ⟨some 69, some (68, true), false, .mv (.t 6)⟩,
  ⟨some 70, some (68, true), false, .bin .eql (.t 69) (.c (.int .i64 0))⟩,
  ⟨some 71, none, false, .pick (.t 68) (.t 70) (.c (.bool false))⟩,
  ⟨some 72, none, false, .mv (.t 71)⟩,
  ⟨some 73, some (72, true), false, .mv (.t 5)⟩,
  ⟨some 74, some (72, true), false, .bin .eql (.t 73) (.c (.int .i64 10))⟩,
  ⟨some 75, none, false, .pick (.t 72) (.t 74) (.c (.bool false))⟩,
  ⟨some 76, none, false, .mv (.t 75)⟩,
  ⟨some 77, some (76, true), false, .mv (.t 8)⟩,
  ⟨some 78, some (76, true), false, .bin .eql (.t 77) (.c (.int .i64 0))⟩,
  ⟨some 79, none, false, .pick (.t 76) (.t 78) (.c (.bool false))⟩,
  ⟨some 80, none, false, .mv (.t 79)⟩,
  ⟨some 81, some (80, true), false, .mv (.t 7)⟩,
  ⟨some 82, some (80, true), false, .bsi 3 1 [(.int .i64 0), (.int .i64 0), (.int .i64 0)] [(0, 1, (.c (.int .i64 1900000))), (1, 1, (.c (.int .i64 1710000))), (2, 1, (.c (.int .i64 3249000)))]⟩,
  ⟨some 83, some (80, true), false, .call false (.c (.fn i_law09_ints [] [])) [(.t 81), (.t 82)]⟩,
  ⟨some 84, none, false, .pick (.t 80) (.t 83) (.c (.bool false))⟩,
  ⟨some 85, none, false, .mv (.t 84)⟩,
  ⟨some 86, some (85, true), false, .mv (.t 10)⟩,
  ⟨some 87, some (85, true), false, .bin .eql (.t 86) (.c (.int .i64 0))⟩,
  ⟨some 88, none, false, .pick (.t 85) (.t 87) (.c (.bool false))⟩,
  ⟨some 89, none, false, .mv (.t 88)⟩,
  ⟨some 90, some (89, true), false, .mv (.t 9)⟩,
  ⟨some 91, some (89, true), false, .bsi 4 1 [(.int .i64 0), (.int .i64 0), (.int .i64 0), (.int .i64 0)] [(0, 1, (.c (.int .i64 100))), (1, 1, (.c (.int .i64 0))), (2, 1, (.c (.int .i64 30))), (3, 1, (.c (.int .i64 60)))]⟩,
  ⟨some 92, some (89, true), false, .call false (.c (.fn i_law09_ints [] [])) [(.t 90), (.t 91)]⟩,
  ⟨some 93, none, false, .pick (.t 89) (.t 92) (.c (.bool false))⟩,
  ⟨some 0, none, false, .mv (.t 93)⟩]

def a_law09_awake : Ann := ⟨[(6, [0]), (5, [1, 2, 3, 4, 5, 6, 7, 8, 9, 10]), (4, [1, 2, 3, 4, 5, 6, 7, 8]), (3, [1, 2, 3, 4, 5, 6]), (2, [1, 2, 3, 4]), (1, [1, 2]), (0, [])], [], [], [1], [1], [], [], []⟩
def f_law09_awake : Abs.Fn := ⟨0, [.t 0],
  (.seq (.reg [] f_law09_awake_r0) (.seq (.reg [1, 2] f_law09_awake_r1) (.seq (.reg [1, 2, 3, 4] f_law09_awake_r2) (.seq (.reg [1, 2, 3, 4, 5, 6] f_law09_awake_r3) (.seq (.reg [1, 2, 3, 4, 5, 6, 7, 8] f_law09_awake_r4) (.seq (.reg [1, 2, 3, 4, 5, 6, 7, 8, 9, 10] f_law09_awake_r5) (.seq (.reg [0] f_law09_awake_r6) .ret)))))))⟩

theorem e_law09_awake_r0 : type_of% f_law09_awake_r0.eq_1 := by_rfl f_law09_awake_r0.eq_1
theorem e_law09_awake_r1 : type_of% f_law09_awake_r1.eq_1 := by_rfl f_law09_awake_r1.eq_1
theorem e_law09_awake_r2 : type_of% f_law09_awake_r2.eq_1 := by_rfl f_law09_awake_r2.eq_1
theorem e_law09_awake_r3 : type_of% f_law09_awake_r3.eq_1 := by_rfl f_law09_awake_r3.eq_1
theorem e_law09_awake_r4 : type_of% f_law09_awake_r4.eq_1 := by_rfl f_law09_awake_r4.eq_1
theorem e_law09_awake_r5 : type_of% f_law09_awake_r5.eq_1 := by_rfl f_law09_awake_r5.eq_1
theorem e_law09_awake_r6 : type_of% f_law09_awake_r6.eq_1 := by_rfl f_law09_awake_r6.eq_1
theorem e_law09_awake : type_of% f_law09_awake.eq_1 := by_rfl f_law09_awake.eq_1
theorem ok_law09_awake : fnC Try.prog a_law09_awake Try.f16 = some f_law09_awake := by kernel_rfl

/-! 17 fumarole/tremor.Locate -/
def f_tremor_Locate_r0 : List Abs.Op := [
  ⟨some 2, none, false, .boxi (.t 0)⟩,
  ⟨some 4, none, false, .mv (.c .nils)⟩,
  ⟨some 5, none, false, .mv (.c (.int .i64 0))⟩]

def f_tremor_Locate_r1 : List Abs.Op := [
  ⟨some 9, none, false, .ld true 12 (.t 2)⟩,
  ⟨some 10, none, false, .mv (.t 1)⟩,
  ⟨some 11, none, false, .bld [.nils, (.int .i64 0), (.int .i64 0), (.int .i64 0), (.int .i64 0), (.int .i64 0), (.int .i64 0), (.int .i64 0), (.int .i64 0), (.int .i64 0), (.int .i64 0), (.int .i64 0), .nils] [(0, 12, (.t 9)), (12, 1, (.t 10))]⟩,
  ⟨some 6, none, false, .alcv [] [.nils, (.int .i64 0), (.int .i64 0), (.int .i64 0), (.int .i64 0), (.int .i64 0), (.int .i64 0), (.int .i64 0), (.int .i64 0), (.int .i64 0), (.int .i64 0), (.int .i64 0), .nils]⟩,
  ⟨none, none, false, .stv 6 [] 13 6 (.t 11)⟩]

def f_tremor_Locate_r2 : List Abs.Op := [
  ⟨some 12, none, false, .ldv 6 true 13 6⟩,
  ⟨some 13, none, false, .call false (.c (.fn i_tremor_heard_check [] [])) [(.t 12)]⟩,
  ⟨some 7, none, false, .mv (.t 13)⟩]

def f_tremor_Locate_r3 : List Abs.Op := [
  ⟨some 14, none, false, .mv (.t 7)⟩,
  ⟨some 15, none, false, .bin .neq (.t 14) (.c (.int .i64 0))⟩]

def f_tremor_Locate_r4 : List Abs.Op := [
  ⟨some 16, none, false, .mv (.t 7)⟩,
  ⟨some 4, none, false, .mv (.c .nils)⟩,
  ⟨some 5, none, false, .mv (.t 16)⟩]

def f_tremor_Locate_r5 : List Abs.Op := [
  ⟨some 17, none, false, .ldv 6 true 13 6⟩,
  ⟨some 18, none, false, .mv (.t 1)⟩,
  ⟨some 19, none, false, .lenS (.t 18)⟩,
  ⟨some 20, none, false, .call false (.c (.fn i_tremor_heard_located [] [])) [(.t 17), (.t 19)]⟩,
  ⟨some 8, none, false, .mv (.t 20)⟩]

def f_tremor_Locate_r6 : List Abs.Op := [
  ⟨some 21, none, false, .mv (.t 8)⟩,
  ⟨some 22, none, false, .lenS (.t 21)⟩,
  ⟨some 23, none, false, .bin .eql (.t 22) (.c (.int .i64 0))⟩]

def f_tremor_Locate_r7 : List Abs.Op := [
  ⟨some 4, none, false, .mv (.c .nils)⟩,
  ⟨some 5, none, false, .mv (.c (.int .i64 7))⟩]

def f_tremor_Locate_r8 : List Abs.Op := [
  ⟨some 24, none, false, .mv (.t 8)⟩,
  ⟨some 4, none, false, .mv (.t 24)⟩,
  ⟨some 5, none, false, .mv (.c (.int .i64 0))⟩]

def a_tremor_Locate : Ann := ⟨[(8, [4, 5]), (7, [4, 5]), (6, [8, 23]), (5, [8]), (4, [4, 5]), (3, [1, 6, 7, 15]), (2, [1, 6, 7]), (1, [1, 6]), (0, [1, 2])], [], [], [6], [6], [], [], []⟩
def f_tremor_Locate : Abs.Fn := ⟨2, [.t 4, .t 5],
  (.seq (.reg [1, 2] f_tremor_Locate_r0) (.seq (.reg [1, 6] f_tremor_Locate_r1) (.seq (.seq (.reg [1, 6, 7] f_tremor_Locate_r2) (.seq (.reg [1, 6, 7, 15] f_tremor_Locate_r3) (.ite (.t 15) (.seq (.reg [4, 5] f_tremor_Locate_r4) .ret) .nop))) (.seq (.reg [8] f_tremor_Locate_r5) (.seq (.seq (.reg [8, 23] f_tremor_Locate_r6) (.ite (.t 23) (.seq (.reg [4, 5] f_tremor_Locate_r7) .ret) .nop)) (.seq (.reg [4, 5] f_tremor_Locate_r8) .ret))))))⟩

theorem e_tremor_Locate_r0 : type_of% f_tremor_Locate_r0.eq_1 := by_rfl f_tremor_Locate_r0.eq_1
theorem e_tremor_Locate_r1 : type_of% f_tremor_Locate_r1.eq_1 := by_rfl f_tremor_Locate_r1.eq_1
theorem e_tremor_Locate_r2 : type_of% f_tremor_Locate_r2.eq_1 := by_rfl f_tremor_Locate_r2.eq_1
theorem e_tremor_Locate_r3 : type_of% f_tremor_Locate_r3.eq_1 := by_rfl f_tremor_Locate_r3.eq_1
theorem e_tremor_Locate_r4 : type_of% f_tremor_Locate_r4.eq_1 := by_rfl f_tremor_Locate_r4.eq_1
theorem e_tremor_Locate_r5 : type_of% f_tremor_Locate_r5.eq_1 := by_rfl f_tremor_Locate_r5.eq_1
theorem e_tremor_Locate_r6 : type_of% f_tremor_Locate_r6.eq_1 := by_rfl f_tremor_Locate_r6.eq_1
theorem e_tremor_Locate_r7 : type_of% f_tremor_Locate_r7.eq_1 := by_rfl f_tremor_Locate_r7.eq_1
theorem e_tremor_Locate_r8 : type_of% f_tremor_Locate_r8.eq_1 := by_rfl f_tremor_Locate_r8.eq_1
theorem e_tremor_Locate : type_of% f_tremor_Locate.eq_1 := by_rfl f_tremor_Locate.eq_1
theorem ok_tremor_Locate : fnC Try.prog a_tremor_Locate Try.f17 = some f_tremor_Locate := by kernel_rfl

/-! 22 fumarole/fumarolelaw09.located -/
def f_law09_located_r0 : List Abs.Op := [
  ⟨some 4, none, false, .mv (.c (.bool false))⟩]

def f_law09_located_r1 : List Abs.Op := [
  ⟨some 6, none, false, .mv (.t 0)⟩,
  ⟨some 7, none, false, .lenS (.t 6)⟩,
  ⟨some 8, none, false, .mv (.t 1)⟩,
  ⟨some 9, none, false, .lenS (.t 8)⟩,
  ⟨some 10, none, false, .bin .neq (.t 7) (.t 9)⟩]

def f_law09_located_r2 : List Abs.Op := [
  ⟨some 4, none, false, .mv (.c (.bool false))⟩]

def f_law09_located_r3 : List Abs.Op := [
  ⟨some 5, none, false, .mv (.c (.int .i64 0))⟩]

def f_law09_located_r4 : List Abs.Op := [
  ⟨some 11, none, false, .mv (.t 5)⟩,
  ⟨some 12, none, false, .mv (.t 0)⟩,
  ⟨some 13, none, false, .lenS (.t 12)⟩,
  ⟨some 14, none, false, .bin .lss (.t 11) (.t 13)⟩]

def f_law09_located_r5 : List Abs.Op := [
  ⟨some 17, none, true, .mv (.t 0)⟩,
  ⟨some 18, none, true, .mv (.t 5)⟩,
  ⟨some 19, none, true, .idxS 5 (.t 17) (.t 18)⟩,
  ⟨some 20, none, true, .ld true 5 (.t 19)⟩,
  ⟨some 21, none, true, .mv (.t 1)⟩,
  ⟨some 22, none, true, .mv (.t 5)⟩,
  ⟨some 23, none, true, .idxS 5 (.t 21) (.t 22)⟩,
  ⟨some 24, none, true, .fadr 0 (.t 23)⟩,
  ⟨some 25, none, true, .ld true 3 (.t 24)⟩,
  ⟨some 26, none, true, .call false (.c (.fn i_law09_Point [] [])) [(.t 25)]⟩,
  ⟨some 27, none, true, .mv (.t 1)⟩,
  ⟨some 28, none, true, .mv (.t 5)⟩,
  ⟨some 29, none, true, .idxS 5 (.t 27) (.t 28)⟩,
  ⟨some 30, none, true, .fadr 3 (.t 29)⟩,
  ⟨some 31, none, true, .ld true 2 (.t 30)⟩,
  ⟨some 32, none, true, .call false (.c (.fn i_law09_Range [] [])) [(.t 31)]⟩,
  ⟨some 33, none, true, .bld [(.int .i64 0), (.int .i64 0), (.int .i64 0), (.int .i64 0), (.int .i64 0)] [(0, 3, (.t 26)), (3, 2, (.t 32))]⟩,
  ⟨some 34, none, false, .eqv true [some .i64, some .i64, some .i64, some .i64, some .i64] true (.t 20) (.t 33)⟩]

def f_law09_located_r6 : List Abs.Op := [
  ⟨some 4, none, false, .mv (.c (.bool false))⟩]

def f_law09_located_r7 : List Abs.Op := [
  ⟨some 15, none, false, .mv (.t 5)⟩,
  ⟨some 16, none, false, .bin .add (.t 15) (.c (.int .i64 1))⟩,
  ⟨some 5, none, false, .mv (.t 16)⟩]

def f_law09_located_l8 : Abs.Cmd :=
  (.seq (.seq (.reg [0, 1, 5, 14] f_law09_located_r4) (.ite (.t 14) .nop (.exit 0))) (.seq (.blk 1 (.seq (.reg [0, 1, 5, 34] f_law09_located_r5) (.ite (.t 34) (.seq (.reg [4] f_law09_located_r6) .ret) .nop))) (.reg [0, 1, 5] f_law09_located_r7)))

def f_law09_located_r9 : List Abs.Op := [
  ⟨some 4, none, false, .mv (.c (.bool true))⟩]

def a_law09_located : Ann := ⟨[(8, [4]), (5, [0, 1, 5]), (7, [4]), (6, [0, 1, 5, 34]), (4, [0, 1, 5, 14]), (3, [0, 1, 5]), (2, [4]), (1, [0, 1, 10]), (0, [0, 1])], [(0, [0, 1, 5])], [], [], [], [], [], []⟩
def f_law09_located : Abs.Fn := ⟨2, [.t 4],
  (.seq (.reg [0, 1] f_law09_located_r0) (.seq (.seq (.reg [0, 1, 10] f_law09_located_r1) (.ite (.t 10) (.seq (.reg [4] f_law09_located_r2) .ret) .nop)) (.seq (.seq (.reg [0, 1, 5] f_law09_located_r3) (.blk 0 (.loop [0, 1, 5] false f_law09_located_l8))) (.seq (.reg [4] f_law09_located_r9) .ret))))⟩

theorem e_law09_located_r0 : type_of% f_law09_located_r0.eq_1 := by_rfl f_law09_located_r0.eq_1
theorem e_law09_located_r1 : type_of% f_law09_located_r1.eq_1 := by_rfl f_law09_located_r1.eq_1
theorem e_law09_located_r2 : type_of% f_law09_located_r2.eq_1 := by_rfl f_law09_located_r2.eq_1
theorem e_law09_located_r3 : type_of% f_law09_located_r3.eq_1 := by_rfl f_law09_located_r3.eq_1
theorem e_law09_located_r4 : type_of% f_law09_located_r4.eq_1 := by_rfl f_law09_located_r4.eq_1
theorem e_law09_located_r5 : type_of% f_law09_located_r5.eq_1 := by_rfl f_law09_located_r5.eq_1
theorem e_law09_located_r6 : type_of% f_law09_located_r6.eq_1 := by_rfl f_law09_located_r6.eq_1
theorem e_law09_located_r7 : type_of% f_law09_located_r7.eq_1 := by_rfl f_law09_located_r7.eq_1
theorem e_law09_located_l8 : type_of% f_law09_located_l8.eq_1 := by_rfl f_law09_located_l8.eq_1
theorem e_law09_located_r9 : type_of% f_law09_located_r9.eq_1 := by_rfl f_law09_located_r9.eq_1
theorem e_law09_located : type_of% f_law09_located.eq_1 := by_rfl f_law09_located.eq_1
theorem ok_law09_located : fnC Try.prog a_law09_located Try.f22 = some f_law09_located := by kernel_rfl

/-! 23 fumarole/tremor.Magnitude -/
def f_tremor_Magnitude_r0 : List Abs.Op := [
  ⟨some 4, none, false, .boxi (.t 0)⟩,
  ⟨some 5, none, false, .boxi (.t 1)⟩,
  ⟨some 6, none, false, .boxi (.t 2)⟩,
  ⟨some 8, none, false, .mv (.c (.int .i64 0))⟩,
  ⟨some 9, none, false, .mv (.c (.int .i64 0))⟩]

def f_tremor_Magnitude_r1 : List Abs.Op := [
  ⟨some 13, none, false, .ld true 12 (.t 4)⟩,
  ⟨some 14, none, false, .call false (.c (.fn i_tremor_Net_valid [] [])) [(.t 13)]⟩,
  ⟨some 15, none, false, .un .not (.t 14)⟩,
  ⟨some 16, none, false, .mv (.t 15)⟩,
  ⟨some 17, some (16, false), false, .ld true 2 (.t 5)⟩,
  ⟨some 18, some (16, false), false, .call false (.c (.fn i_tremor_Scale_valid [] [])) [(.t 17)]⟩,
  ⟨some 19, some (16, false), false, .un .not (.t 18)⟩,
  ⟨some 20, none, false, .pick (.t 16) (.c (.bool true)) (.t 19)⟩,
  ⟨some 21, none, false, .mv (.t 20)⟩,
  ⟨some 22, some (21, false), false, .ld true 3 (.t 6)⟩,
  ⟨some 23, some (21, false), false, .call false (.c (.fn i_tremor_Point_valid [] [])) [(.t 22)]⟩,
  ⟨some 24, some (21, false), false, .un .not (.t 23)⟩,
  ⟨some 25, none, false, .pick (.t 21) (.c (.bool true)) (.t 24)⟩,
  ⟨some 26, none, false, .mv (.t 25)⟩,
  ⟨some 27, some (26, false), false, .mv (.t 3)⟩,
  ⟨some 28, some (26, false), false, .lenS (.t 27)⟩,
  ⟨some 29, some (26, false), false, .call false (.c (.fn i_tremor_within [] [])) [(.t 28), (.c (.int .i64 1)), (.c (.int .i64 12))]⟩,
  ⟨some 30, some (26, false), false, .un .not (.t 29)⟩,
  ⟨some 31, none, false, .pick (.t 26) (.c (.bool true)) (.t 30)⟩,
  ⟨some 32, none, false, .mv (.t 31)⟩,
  ⟨some 33, some (32, false), false, .mv (.t 3)⟩,
  ⟨some 34, some (32, false), false, .mkf i_tremor_Magnitude_1 [] [(.t 4)]⟩,
  ⟨some 35, some (32, false), false, .call false (.c (.fn i_tremor_all_tremor_Reading [] [])) [(.t 33), (.t 34)]⟩,
  ⟨some 36, some (32, false), false, .un .not (.t 35)⟩,
  ⟨some 37, none, false, .pick (.t 32) (.c (.bool true)) (.t 36)⟩]

def f_tremor_Magnitude_r2 : List Abs.Op := [
  ⟨some 8, none, false, .mv (.c (.int .i64 0))⟩,
  ⟨some 9, none, false, .mv (.c (.int .i64 1))⟩]

def f_tremor_Magnitude_r3 : List Abs.Op := [
  ⟨some 10, none, false, .mv (.c (.int .i64 0))⟩]

def f_tremor_Magnitude_r4 : List Abs.Op := [
  ⟨some 38, none, false, .mv (.t 3)⟩,
  ⟨some 39, none, false, .lenS (.t 38)⟩,
  ⟨some 40, none, false, .mv (.c (.int .i64 0))⟩]

def f_tremor_Magnitude_r5 : List Abs.Op := [
  ⟨some 41, none, false, .bin .lss (.t 40) (.t 39)⟩]

def f_tremor_Magnitude_r6 : List Abs.Op := [
  ⟨some 42, none, false, .idxS 2 (.t 38) (.t 40)⟩,
  ⟨some 43, none, false, .ld true 2 (.t 42)⟩,
  ⟨some 12, none, false, .alcv [] [(.int .i64 0), (.int .i64 0)]⟩,
  ⟨none, none, false, .stv 12 [] 2 12 (.t 43)⟩]

def f_tremor_Magnitude_r7 : List Abs.Op := [
  ⟨some 44, none, true, .mv (.t 10)⟩,
  ⟨some 45, none, true, .ld true 2 (.t 5)⟩,
  ⟨some 46, none, true, .fadr 1 (.t 12)⟩,
  ⟨some 47, none, true, .ldv 12 false 1 46⟩,
  ⟨some 48, none, true, .fadr 0 (.t 4)⟩,
  ⟨some 49, none, true, .ld false 1 (.t 48)⟩,
  ⟨some 50, none, true, .fadr 0 (.t 12)⟩,
  ⟨some 51, none, true, .ldv 12 false 1 50⟩,
  ⟨some 52, none, true, .idxS 4 (.t 49) (.t 51)⟩,
  ⟨some 53, none, true, .fadr 0 (.t 52)⟩,
  ⟨some 54, none, true, .ld true 3 (.t 53)⟩,
  ⟨some 55, none, true, .ld true 3 (.t 6)⟩,
  ⟨some 56, none, true, .call false (.c (.fn i_tremor_Point_far [] [])) [(.t 54), (.t 55)]⟩,
  ⟨some 57, none, true, .call false (.c (.fn i_tremor_Scale_of [] [])) [(.t 45), (.t 47), (.t 56)]⟩,
  ⟨some 58, none, false, .bin .add (.t 44) (.t 57)⟩,
  ⟨some 10, none, false, .mv (.t 58)⟩]

def f_tremor_Magnitude_r8 : List Abs.Op := [
  ⟨some 59, none, false, .bin .add (.t 40) (.c (.int .i64 1))⟩,
  ⟨some 40, none, false, .mv (.t 59)⟩]

def f_tremor_Magnitude_l9 : Abs.Cmd :=
  (.seq (.reg [3, 4, 5, 6, 10, 38, 39, 40, 41] f_tremor_Magnitude_r5) (.seq (.ite (.t 41) .nop (.exit 0)) (.seq (.blk 1 (.seq (.reg [3, 4, 5, 6, 10, 12, 38, 39, 40] f_tremor_Magnitude_r6) (.reg [3, 4, 5, 6, 10, 38, 39, 40] f_tremor_Magnitude_r7))) (.reg [3, 4, 5, 6, 10, 38, 39, 40] f_tremor_Magnitude_r8))))

def f_tremor_Magnitude_r10 : List Abs.Op := [
  ⟨some 60, none, false, .mv (.t 10)⟩,
  ⟨some 61, none, false, .mv (.t 3)⟩,
  ⟨some 62, none, false, .lenS (.t 61)⟩,
  ⟨some 63, none, false, .bin .quo (.t 60) (.t 62)⟩,
  ⟨some 8, none, false, .mv (.t 63)⟩,
  ⟨some 9, none, false, .mv (.c (.int .i64 0))⟩]

def a_tremor_Magnitude : Ann := ⟨[(9, [8, 9]), (8, [3, 4, 5, 6, 10, 38, 39, 40]), (7, [3, 4, 5, 6, 10, 38, 39, 40]), (6, [3, 4, 5, 6, 10, 12, 38, 39, 40]), (5, [3, 4, 5, 6, 10, 38, 39, 40, 41]), (4, [3, 4, 5, 6, 10, 38, 39, 40]), (3, [3, 4, 5, 6, 10]), (2, [8, 9]), (1, [3, 4, 5, 6, 37]), (0, [3, 4, 5, 6])], [(0, [3, 4, 5, 6, 10, 38, 39, 40])], [], [12], [12], [], [], []⟩
def f_tremor_Magnitude : Abs.Fn := ⟨4, [.t 8, .t 9],
  (.seq (.reg [3, 4, 5, 6] f_tremor_Magnitude_r0) (.seq (.seq (.reg [3, 4, 5, 6, 37] f_tremor_Magnitude_r1) (.ite (.t 37) (.seq (.reg [8, 9] f_tremor_Magnitude_r2) .ret) .nop)) (.seq (.reg [3, 4, 5, 6, 10] f_tremor_Magnitude_r3) (.seq (.seq (.reg [3, 4, 5, 6, 10, 38, 39, 40] f_tremor_Magnitude_r4) (.blk 0 (.loop [3, 4, 5, 6, 10, 38, 39, 40] false f_tremor_Magnitude_l9))) (.seq (.reg [8, 9] f_tremor_Magnitude_r10) .ret)))))⟩

theorem e_tremor_Magnitude_r0 : type_of% f_tremor_Magnitude_r0.eq_1 := by_rfl f_tremor_Magnitude_r0.eq_1
theorem e_tremor_Magnitude_r1 : type_of% f_tremor_Magnitude_r1.eq_1 := by_rfl f_tremor_Magnitude_r1.eq_1
theorem e_tremor_Magnitude_r2 : type_of% f_tremor_Magnitude_r2.eq_1 := by_rfl f_tremor_Magnitude_r2.eq_1
theorem e_tremor_Magnitude_r3 : type_of% f_tremor_Magnitude_r3.eq_1 := by_rfl f_tremor_Magnitude_r3.eq_1
theorem e_tremor_Magnitude_r4 : type_of% f_tremor_Magnitude_r4.eq_1 := by_rfl f_tremor_Magnitude_r4.eq_1
theorem e_tremor_Magnitude_r5 : type_of% f_tremor_Magnitude_r5.eq_1 := by_rfl f_tremor_Magnitude_r5.eq_1
theorem e_tremor_Magnitude_r6 : type_of% f_tremor_Magnitude_r6.eq_1 := by_rfl f_tremor_Magnitude_r6.eq_1
theorem e_tremor_Magnitude_r7 : type_of% f_tremor_Magnitude_r7.eq_1 := by_rfl f_tremor_Magnitude_r7.eq_1
theorem e_tremor_Magnitude_r8 : type_of% f_tremor_Magnitude_r8.eq_1 := by_rfl f_tremor_Magnitude_r8.eq_1
theorem e_tremor_Magnitude_l9 : type_of% f_tremor_Magnitude_l9.eq_1 := by_rfl f_tremor_Magnitude_l9.eq_1
theorem e_tremor_Magnitude_r10 : type_of% f_tremor_Magnitude_r10.eq_1 := by_rfl f_tremor_Magnitude_r10.eq_1
theorem e_tremor_Magnitude : type_of% f_tremor_Magnitude.eq_1 := by_rfl f_tremor_Magnitude.eq_1
theorem ok_tremor_Magnitude : fnC Try.prog a_tremor_Magnitude Try.f23 = some f_tremor_Magnitude := by kernel_rfl

/-! 25 fumarole/fumarolelaw09.Point -/
def f_law09_Point_r0 : List Abs.Op := [
  ⟨some 1, none, false, .boxi (.t 0)⟩,
  ⟨some 2, none, false, .alcv [] [(.int .i64 0), (.int .i64 0), (.int .i64 0)]⟩]

def f_law09_Point_r1 : List Abs.Op := [
  ⟨some 3, none, false, .fadr 0 (.t 1)⟩,
  ⟨some 4, none, false, .ld false 1 (.t 3)⟩,
  ⟨some 5, none, false, .fadr 1 (.t 1)⟩,
  ⟨some 6, none, false, .ld false 1 (.t 5)⟩,
  ⟨some 7, none, false, .fadr 2 (.t 1)⟩,
  ⟨some 8, none, false, .ld false 1 (.t 7)⟩,
  ⟨some 9, none, false, .bld [(.int .i64 0), (.int .i64 0), (.int .i64 0)] [(0, 1, (.t 4)), (1, 1, (.t 6)), (2, 1, (.t 8))]⟩,
  ⟨none, none, false, .stv 2 [] 3 2 (.t 9)⟩]

def a_law09_Point : Ann := ⟨[(1, [2]), (0, [1, 2])], [], [], [2], [2], [], [], []⟩
def f_law09_Point : Abs.Fn := ⟨1, [.v 2 true 3],
  (.seq (.reg [1, 2] f_law09_Point_r0) (.seq (.reg [2] f_law09_Point_r1) .ret))⟩

theorem e_law09_Point_r0 : type_of% f_law09_Point_r0.eq_1 := by_rfl f_law09_Point_r0.eq_1
theorem e_law09_Point_r1 : type_of% f_law09_Point_r1.eq_1 := by_rfl f_law09_Point_r1.eq_1
theorem e_law09_Point : type_of% f_law09_Point.eq_1 := by_rfl f_law09_Point.eq_1
theorem ok_law09_Point : fnC Try.prog a_law09_Point Try.f25 = some f_law09_Point := by kernel_rfl

/-! 32 fumarole/tremor.Inject -/
def f_tremor_Inject_r0 : List Abs.Op := [
  ⟨some 6, none, false, .boxi (.t 2)⟩,
  ⟨some 8, none, false, .mv (.c .nils)⟩,
  ⟨some 9, none, false, .mv (.c (.int .i64 0))⟩]

def f_tremor_Inject_r1 : List Abs.Op := [
  ⟨some 10, none, false, .mv (.c (.fn i_tremor_Inject_1 [] []))⟩]

def f_tremor_Inject_r2 : List Abs.Op := [
  ⟨some 15, none, false, .mv (.t 0)⟩,
  ⟨some 16, none, false, .lenS (.t 15)⟩,
  ⟨some 17, none, false, .bin .gtr (.t 16) (.c (.int .i64 500))⟩,
  ⟨some 14, none, false, .mv (.t 17)⟩]

def f_tremor_Inject_r3 : List Abs.Op := [
  ⟨some 8, none, false, .mv (.c .nils)⟩,
  ⟨some 9, none, false, .mv (.c (.int .i64 3))⟩]

def f_tremor_Inject_r4 : List Abs.Op := [
  ⟨some 19, none, false, .mv (.t 0)⟩,
  ⟨some 20, none, false, .mv (.t 10)⟩,
  ⟨some 21, none, false, .call false (.c (.fn i_tremor_all_int [] [])) [(.t 19), (.t 20)]⟩,
  ⟨some 22, none, false, .un .not (.t 21)⟩,
  ⟨some 23, none, false, .mv (.t 22)⟩,
  ⟨some 24, some (23, false), false, .mv (.t 1)⟩,
  ⟨some 25, some (23, false), false, .lenS (.t 24)⟩,
  ⟨some 26, some (23, false), false, .mv (.t 0)⟩,
  ⟨some 27, some (23, false), false, .lenS (.t 26)⟩,
  ⟨some 28, some (23, false), false, .bin .neq (.t 25) (.t 27)⟩,
  ⟨some 29, none, false, .pick (.t 23) (.c (.bool true)) (.t 28)⟩,
  ⟨some 30, none, false, .mv (.t 29)⟩,
  ⟨some 31, some (30, false), false, .mv (.t 1)⟩,
  ⟨some 32, some (30, false), false, .call false (.c (.fn i_tremor_all_uint8 [] [])) [(.t 31), (.c (.fn i_tremor_Inject_2 [] []))]⟩,
  ⟨some 33, some (30, false), false, .un .not (.t 32)⟩,
  ⟨some 34, none, false, .pick (.t 30) (.c (.bool true)) (.t 33)⟩,
  ⟨some 35, none, false, .mv (.t 34)⟩,
  ⟨some 36, some (35, false), false, .mv (.t 10)⟩,
  ⟨some 37, some (35, false), false, .mv (.t 3)⟩,
  ⟨some 38, some (35, false), false, .call false (.t 36) [(.t 37)]⟩,
  ⟨some 39, some (35, false), false, .un .not (.t 38)⟩,
  ⟨some 40, none, false, .pick (.t 35) (.c (.bool true)) (.t 39)⟩,
  ⟨some 18, none, false, .mv (.t 40)⟩]

def f_tremor_Inject_r5 : List Abs.Op := [
  ⟨some 8, none, false, .mv (.c .nils)⟩,
  ⟨some 9, none, false, .mv (.c (.int .i64 1))⟩]

def f_tremor_Inject_r6 : List Abs.Op := [
  ⟨some 42, none, false, .idxA 3 1 (.t 6) (.c (.int .u8 0))⟩,
  ⟨some 43, none, false, .ld false 1 (.t 42)⟩,
  ⟨some 44, none, false, .bin .gtr (.t 43) (.c (.int .i64 1000))⟩,
  ⟨some 45, none, false, .mv (.t 44)⟩,
  ⟨some 46, some (45, false), false, .idxA 3 1 (.t 6) (.c (.int .u8 1))⟩,
  ⟨some 47, some (45, false), false, .ld false 1 (.t 46)⟩,
  ⟨some 48, some (45, false), false, .idxA 3 1 (.t 6) (.c (.int .u8 0))⟩,
  ⟨some 49, some (45, false), false, .ld false 1 (.t 48)⟩,
  ⟨some 50, some (45, false), false, .bin .gtr (.t 47) (.t 49)⟩,
  ⟨some 51, none, false, .pick (.t 45) (.c (.bool true)) (.t 50)⟩,
  ⟨some 52, none, false, .mv (.t 51)⟩,
  ⟨some 53, some (52, false), false, .idxA 3 1 (.t 6) (.c (.int .u8 2))⟩,
  ⟨some 54, some (52, false), false, .ld false 1 (.t 53)⟩,
  ⟨some 55, some (52, false), false, .idxA 3 1 (.t 6) (.c (.int .u8 1))⟩,
  ⟨some 56, some (52, false), false, .ld false 1 (.t 55)⟩,
  ⟨some 57, some (52, false), false, .bin .gtr (.t 54) (.t 56)⟩,
  ⟨some 58, none, false, .pick (.t 52) (.c (.bool true)) (.t 57)⟩,
  ⟨some 59, none, false, .mv (.t 58)⟩,
  ⟨some 60, some (59, false), false, .idxA 3 1 (.t 6) (.c (.int .u8 2))⟩,
  ⟨some 61, some (59, false), false, .ld false 1 (.t 60)⟩,
  ⟨some 62, some (59, false), false, .bin .lss (.t 61) (.c (.int .i64 0))⟩,
  ⟨some 63, none, false, .pick (.t 59) (.c (.bool true)) (.t 62)⟩,
  ⟨some 41, none, false, .mv (.t 63)⟩]

def f_tremor_Inject_r7 : List Abs.Op := [
  ⟨some 8, none, false, .mv (.c .nils)⟩,
  ⟨some 9, none, false, .mv (.c (.int .i64 1))⟩]

def f_tremor_Inject_r8 : List Abs.Op := [
  ⟨some 64, none, false, .mv (.t 0)⟩,
  ⟨some 65, none, false, .lenS (.t 64)⟩,
  ⟨some 66, none, false, .mks 1 8 [(.int .i64 0)] (.t 65) (.t 65)⟩,
  ⟨some 11, none, false, .mv (.t 66)⟩]

def f_tremor_Inject_r9 : List Abs.Op := [
  ⟨some 67, none, false, .mv (.t 0)⟩,
  ⟨some 68, none, false, .lenS (.t 67)⟩,
  ⟨some 69, none, false, .mv (.c (.int .i64 0))⟩]

def f_tremor_Inject_r10 : List Abs.Op := [
  ⟨some 70, none, false, .bin .lss (.t 69) (.t 68)⟩]

def f_tremor_Inject_r11 : List Abs.Op := [
  ⟨some 71, none, false, .mv (.t 69)⟩,
  ⟨some 72, none, false, .idxS 1 (.t 67) (.t 69)⟩,
  ⟨some 73, none, false, .ld false 1 (.t 72)⟩,
  ⟨some 12, none, false, .mv (.t 71)⟩,
  ⟨some 13, none, false, .mv (.t 73)⟩]

def f_tremor_Inject_r12 : List Abs.Op := [
  ⟨some 74, none, false, .mv (.t 11)⟩,
  ⟨some 75, none, false, .mv (.t 12)⟩,
  ⟨some 76, none, false, .mv (.t 13)⟩,
  ⟨some 77, none, false, .mv (.t 1)⟩,
  ⟨some 78, none, false, .mv (.t 12)⟩,
  ⟨some 79, none, false, .idxS 1 (.t 77) (.t 78)⟩,
  ⟨some 80, none, false, .ld false 1 (.t 79)⟩,
  ⟨some 81, none, false, .idxA 3 1 (.t 6) (.t 80)⟩,
  ⟨some 82, none, false, .ld false 1 (.t 81)⟩,
  ⟨some 83, none, false, .bin .mul (.t 76) (.t 82)⟩,
  ⟨some 84, none, false, .bin .quo (.t 83) (.c (.int .i64 1000))⟩,
  ⟨some 85, none, false, .idxS 1 (.t 74) (.t 75)⟩,
  ⟨none, none, false, .st [] 1 (.t 85) (.t 84)⟩]

def f_tremor_Inject_r13 : List Abs.Op := [
  ⟨some 86, none, false, .mv (.t 12)⟩,
  ⟨some 87, none, false, .bin .gtr (.t 86) (.c (.int .i64 0))⟩]

def f_tremor_Inject_r14 : List Abs.Op := [
  ⟨some 88, none, true, .mv (.t 11)⟩,
  ⟨some 89, none, true, .mv (.t 12)⟩,
  ⟨some 90, none, true, .mv (.t 11)⟩,
  ⟨some 91, none, true, .mv (.t 12)⟩,
  ⟨some 92, none, true, .idxS 1 (.t 90) (.t 91)⟩,
  ⟨some 93, none, true, .ld false 1 (.t 92)⟩,
  ⟨some 94, none, true, .mv (.t 11)⟩,
  ⟨some 95, none, true, .mv (.t 12)⟩,
  ⟨some 96, none, true, .bin .sub (.t 95) (.c (.int .i64 1))⟩,
  ⟨some 97, none, true, .idxS 1 (.t 94) (.t 96)⟩,
  ⟨some 98, none, true, .ld false 1 (.t 97)⟩,
  ⟨some 99, none, true, .mv (.t 3)⟩,
  ⟨some 100, none, true, .bin .add (.t 98) (.t 99)⟩,
  ⟨some 101, none, true, .mn (.t 93) (.t 100)⟩,
  ⟨some 102, none, false, .idxS 1 (.t 88) (.t 89)⟩,
  ⟨none, none, false, .st [] 1 (.t 102) (.t 101)⟩]

def f_tremor_Inject_r15 : List Abs.Op := [
  ⟨some 103, none, false, .bin .add (.t 69) (.c (.int .i64 1))⟩,
  ⟨some 69, none, false, .mv (.t 103)⟩]

def f_tremor_Inject_l16 : Abs.Cmd :=
  (.seq (.reg [1, 3, 6, 11, 67, 68, 69, 70] f_tremor_Inject_r10) (.seq (.ite (.t 70) .nop (.exit 1)) (.seq (.blk 2 (.seq (.reg [1, 3, 6, 11, 12, 13, 67, 68, 69] f_tremor_Inject_r11) (.seq (.reg [1, 3, 6, 11, 12, 67, 68, 69] f_tremor_Inject_r12) (.seq (.reg [1, 3, 6, 11, 12, 67, 68, 69, 87] f_tremor_Inject_r13) (.ite (.t 87) (.reg [1, 3, 6, 11, 67, 68, 69] f_tremor_Inject_r14) .nop))))) (.reg [1, 3, 6, 11, 67, 68, 69] f_tremor_Inject_r15))))

def f_tremor_Inject_r17 : List Abs.Op := [
  ⟨some 104, none, false, .mv (.t 11)⟩,
  ⟨some 8, none, false, .mv (.t 104)⟩,
  ⟨some 9, none, false, .mv (.c (.int .i64 0))⟩]

def a_tremor_Inject : Ann := ⟨[(16, [8, 9]), (15, [1, 3, 6, 11, 67, 68, 69]), (14, [1, 3, 6, 11, 67, 68, 69]), (13, [1, 3, 6, 11, 12, 67, 68, 69, 87]), (12, [1, 3, 6, 11, 12, 67, 68, 69]), (11, [1, 3, 6, 11, 12, 13, 67, 68, 69]), (10, [1, 3, 6, 11, 67, 68, 69, 70]), (9, [1, 3, 6, 11, 67, 68, 69]), (8, [0, 1, 3, 6, 11]), (3, [8, 9]), (5, [8, 9]), (7, [8, 9]), (6, [0, 1, 3, 6, 41]), (4, [0, 1, 3, 6, 18]), (2, [0, 1, 3, 6, 10, 14]), (1, [0, 1, 3, 6, 10]), (0, [0, 1, 3, 6])], [(1, [1, 3, 6, 11, 67, 68, 69])], [], [], [], [], [], []⟩
def f_tremor_Inject : Abs.Fn := ⟨4, [.t 8, .t 9],
  (.seq (.reg [0, 1, 3, 6] f_tremor_Inject_r0) (.seq (.reg [0, 1, 3, 6, 10] f_tremor_Inject_r1) (.seq (.blk 0 (.seq (.reg [0, 1, 3, 6, 10, 14] f_tremor_Inject_r2) (.ite (.t 14) (.seq (.reg [8, 9] f_tremor_Inject_r3) .ret) (.seq (.reg [0, 1, 3, 6, 18] f_tremor_Inject_r4) (.ite (.t 18) (.seq (.reg [8, 9] f_tremor_Inject_r5) .ret) (.seq (.reg [0, 1, 3, 6, 41] f_tremor_Inject_r6) (.ite (.t 41) (.seq (.reg [8, 9] f_tremor_Inject_r7) .ret) .nop))))))) (.seq (.reg [0, 1, 3, 6, 11] f_tremor_Inject_r8) (.seq (.seq (.reg [1, 3, 6, 11, 67, 68, 69] f_tremor_Inject_r9) (.blk 1 (.loop [1, 3, 6, 11, 67, 68, 69] false f_tremor_Inject_l16))) (.seq (.reg [8, 9] f_tremor_Inject_r17) .ret))))))⟩

theorem e_tremor_Inject_r0 : type_of% f_tremor_Inject_r0.eq_1 := by_rfl f_tremor_Inject_r0.eq_1
theorem e_tremor_Inject_r1 : type_of% f_tremor_Inject_r1.eq_1 := by_rfl f_tremor_Inject_r1.eq_1
theorem e_tremor_Inject_r2 : type_of% f_tremor_Inject_r2.eq_1 := by_rfl f_tremor_Inject_r2.eq_1
theorem e_tremor_Inject_r3 : type_of% f_tremor_Inject_r3.eq_1 := by_rfl f_tremor_Inject_r3.eq_1
theorem e_tremor_Inject_r4 : type_of% f_tremor_Inject_r4.eq_1 := by_rfl f_tremor_Inject_r4.eq_1
theorem e_tremor_Inject_r5 : type_of% f_tremor_Inject_r5.eq_1 := by_rfl f_tremor_Inject_r5.eq_1
theorem e_tremor_Inject_r6 : type_of% f_tremor_Inject_r6.eq_1 := by_rfl f_tremor_Inject_r6.eq_1
theorem e_tremor_Inject_r7 : type_of% f_tremor_Inject_r7.eq_1 := by_rfl f_tremor_Inject_r7.eq_1
theorem e_tremor_Inject_r8 : type_of% f_tremor_Inject_r8.eq_1 := by_rfl f_tremor_Inject_r8.eq_1
theorem e_tremor_Inject_r9 : type_of% f_tremor_Inject_r9.eq_1 := by_rfl f_tremor_Inject_r9.eq_1
theorem e_tremor_Inject_r10 : type_of% f_tremor_Inject_r10.eq_1 := by_rfl f_tremor_Inject_r10.eq_1
theorem e_tremor_Inject_r11 : type_of% f_tremor_Inject_r11.eq_1 := by_rfl f_tremor_Inject_r11.eq_1
theorem e_tremor_Inject_r12 : type_of% f_tremor_Inject_r12.eq_1 := by_rfl f_tremor_Inject_r12.eq_1
theorem e_tremor_Inject_r13 : type_of% f_tremor_Inject_r13.eq_1 := by_rfl f_tremor_Inject_r13.eq_1
theorem e_tremor_Inject_r14 : type_of% f_tremor_Inject_r14.eq_1 := by_rfl f_tremor_Inject_r14.eq_1
theorem e_tremor_Inject_r15 : type_of% f_tremor_Inject_r15.eq_1 := by_rfl f_tremor_Inject_r15.eq_1
theorem e_tremor_Inject_l16 : type_of% f_tremor_Inject_l16.eq_1 := by_rfl f_tremor_Inject_l16.eq_1
theorem e_tremor_Inject_r17 : type_of% f_tremor_Inject_r17.eq_1 := by_rfl f_tremor_Inject_r17.eq_1
theorem e_tremor_Inject : type_of% f_tremor_Inject.eq_1 := by_rfl f_tremor_Inject.eq_1
theorem ok_tremor_Inject : fnC Try.prog a_tremor_Inject Try.f32 = some f_tremor_Inject := by kernel_rfl

/-! 34 fumarole/fumarolelaw09.ints -/
def f_law09_ints_r0 : List Abs.Op := [
  ⟨some 4, none, false, .mv (.c (.bool false))⟩]

def f_law09_ints_r1 : List Abs.Op := [
  ⟨some 6, none, false, .mv (.t 0)⟩,
  ⟨some 7, none, false, .lenS (.t 6)⟩,
  ⟨some 8, none, false, .mv (.t 1)⟩,
  ⟨some 9, none, false, .lenS (.t 8)⟩,
  ⟨some 10, none, false, .bin .neq (.t 7) (.t 9)⟩]

def f_law09_ints_r2 : List Abs.Op := [
  ⟨some 4, none, false, .mv (.c (.bool false))⟩]

def f_law09_ints_r3 : List Abs.Op := [
  ⟨some 5, none, false, .mv (.c (.int .i64 0))⟩]

def f_law09_ints_r4 : List Abs.Op := [
  ⟨some 11, none, false, .mv (.t 5)⟩,
  ⟨some 12, none, false, .mv (.t 0)⟩,
  ⟨some 13, none, false, .lenS (.t 12)⟩,
  ⟨some 14, none, false, .bin .lss (.t 11) (.t 13)⟩]

def f_law09_ints_r5 : List Abs.Op := [
  ⟨some 17, none, true, .mv (.t 0)⟩,
  ⟨some 18, none, true, .mv (.t 5)⟩,
  ⟨some 19, none, true, .idxS 1 (.t 17) (.t 18)⟩,
  ⟨some 20, none, true, .ld false 1 (.t 19)⟩,
  ⟨some 21, none, true, .mv (.t 1)⟩,
  ⟨some 22, none, true, .mv (.t 5)⟩,
  ⟨some 23, none, true, .idxS 1 (.t 21) (.t 22)⟩,
  ⟨some 24, none, true, .ld false 1 (.t 23)⟩,
  ⟨some 25, none, false, .bin .neq (.t 20) (.t 24)⟩]

def f_law09_ints_r6 : List Abs.Op := [
  ⟨some 4, none, false, .mv (.c (.bool false))⟩]

def f_law09_ints_r7 : List Abs.Op := [
  ⟨some 15, none, false, .mv (.t 5)⟩,
  ⟨some 16, none, false, .bin .add (.t 15) (.c (.int .i64 1))⟩,
  ⟨some 5, none, false, .mv (.t 16)⟩]

def f_law09_ints_l8 : Abs.Cmd :=
  (.seq (.seq (.reg [0, 1, 5, 14] f_law09_ints_r4) (.ite (.t 14) .nop (.exit 0))) (.seq (.blk 1 (.seq (.reg [0, 1, 5, 25] f_law09_ints_r5) (.ite (.t 25) (.seq (.reg [4] f_law09_ints_r6) .ret) .nop))) (.reg [0, 1, 5] f_law09_ints_r7)))

def f_law09_ints_r9 : List Abs.Op := [
  ⟨some 4, none, false, .mv (.c (.bool true))⟩]

def a_law09_ints : Ann := ⟨[(8, [4]), (5, [0, 1, 5]), (7, [4]), (6, [0, 1, 5, 25]), (4, [0, 1, 5, 14]), (3, [0, 1, 5]), (2, [4]), (1, [0, 1, 10]), (0, [0, 1])], [(0, [0, 1, 5])], [], [], [], [], [], []⟩
def f_law09_ints : Abs.Fn := ⟨2, [.t 4],
  (.seq (.reg [0, 1] f_law09_ints_r0) (.seq (.seq (.reg [0, 1, 10] f_law09_ints_r1) (.ite (.t 10) (.seq (.reg [4] f_law09_ints_r2) .ret) .nop)) (.seq (.seq (.reg [0, 1, 5] f_law09_ints_r3) (.blk 0 (.loop [0, 1, 5] false f_law09_ints_l8))) (.seq (.reg [4] f_law09_ints_r9) .ret))))⟩

theorem e_law09_ints_r0 : type_of% f_law09_ints_r0.eq_1 := by_rfl f_law09_ints_r0.eq_1
theorem e_law09_ints_r1 : type_of% f_law09_ints_r1.eq_1 := by_rfl f_law09_ints_r1.eq_1
theorem e_law09_ints_r2 : type_of% f_law09_ints_r2.eq_1 := by_rfl f_law09_ints_r2.eq_1
theorem e_law09_ints_r3 : type_of% f_law09_ints_r3.eq_1 := by_rfl f_law09_ints_r3.eq_1
theorem e_law09_ints_r4 : type_of% f_law09_ints_r4.eq_1 := by_rfl f_law09_ints_r4.eq_1
theorem e_law09_ints_r5 : type_of% f_law09_ints_r5.eq_1 := by_rfl f_law09_ints_r5.eq_1
theorem e_law09_ints_r6 : type_of% f_law09_ints_r6.eq_1 := by_rfl f_law09_ints_r6.eq_1
theorem e_law09_ints_r7 : type_of% f_law09_ints_r7.eq_1 := by_rfl f_law09_ints_r7.eq_1
theorem e_law09_ints_l8 : type_of% f_law09_ints_l8.eq_1 := by_rfl f_law09_ints_l8.eq_1
theorem e_law09_ints_r9 : type_of% f_law09_ints_r9.eq_1 := by_rfl f_law09_ints_r9.eq_1
theorem e_law09_ints : type_of% f_law09_ints.eq_1 := by_rfl f_law09_ints.eq_1
theorem ok_law09_ints : fnC Try.prog a_law09_ints Try.f34 = some f_law09_ints := by kernel_rfl

/-! 40 fumarole/tremor.Travel -/
def f_tremor_Travel_r0 : List Abs.Op := [
  ⟨some 4, none, false, .boxi (.t 0)⟩,
  ⟨some 7, none, false, .boxi (.t 3)⟩,
  ⟨some 8, none, false, .alcv [] [(.int .i64 0), (.int .i64 0)]⟩,
  ⟨some 9, none, false, .mv (.c (.int .i64 0))⟩]

def f_tremor_Travel_r1 : List Abs.Op := [
  ⟨some 11, none, false, .ld true 12 (.t 4)⟩,
  ⟨some 12, none, false, .call false (.c (.fn i_tremor_Net_valid [] [])) [(.t 11)]⟩,
  ⟨some 13, none, false, .un .not (.t 12)⟩,
  ⟨some 10, none, false, .mv (.t 13)⟩]

def f_tremor_Travel_r2 : List Abs.Op := [
  ⟨some 14, none, false, .bld [(.int .i64 0), (.int .i64 0)] []⟩,
  ⟨none, none, false, .stv 8 [] 2 8 (.t 14)⟩,
  ⟨some 9, none, false, .mv (.c (.int .i64 1))⟩]

def f_tremor_Travel_r3 : List Abs.Op := [
  ⟨some 16, none, false, .ld true 12 (.t 4)⟩,
  ⟨some 17, none, false, .mv (.t 1)⟩,
  ⟨some 18, none, false, .call false (.c (.fn i_tremor_Net_has [] [])) [(.t 16), (.t 17)]⟩,
  ⟨some 19, none, false, .un .not (.t 18)⟩,
  ⟨some 20, none, false, .mv (.t 19)⟩,
  ⟨some 21, some (20, false), false, .mv (.t 2)⟩,
  ⟨some 22, some (20, false), false, .cvt .i64 (.t 21)⟩,
  ⟨some 23, some (20, false), false, .bin .geq (.t 22) (.c (.int .i64 2))⟩,
  ⟨some 24, none, false, .pick (.t 20) (.c (.bool true)) (.t 23)⟩,
  ⟨some 15, none, false, .mv (.t 24)⟩]

def f_tremor_Travel_r4 : List Abs.Op := [
  ⟨some 25, none, false, .bld [(.int .i64 0), (.int .i64 0)] []⟩,
  ⟨none, none, false, .stv 8 [] 2 8 (.t 25)⟩,
  ⟨some 9, none, false, .mv (.c (.int .i64 2))⟩]

def f_tremor_Travel_r5 : List Abs.Op := [
  ⟨some 27, none, false, .ld true 3 (.t 7)⟩,
  ⟨some 28, none, false, .call false (.c (.fn i_tremor_Point_valid [] [])) [(.t 27)]⟩,
  ⟨some 29, none, false, .un .not (.t 28)⟩,
  ⟨some 26, none, false, .mv (.t 29)⟩]

def f_tremor_Travel_r6 : List Abs.Op := [
  ⟨some 30, none, false, .bld [(.int .i64 0), (.int .i64 0)] []⟩,
  ⟨none, none, false, .stv 8 [] 2 8 (.t 30)⟩,
  ⟨some 9, none, false, .mv (.c (.int .i64 1))⟩]

def f_tremor_Travel_r7 : List Abs.Op := [
  ⟨some 31, none, false, .ld true 12 (.t 4)⟩,
  ⟨some 32, none, false, .mv (.t 1)⟩,
  ⟨some 33, none, false, .mv (.t 2)⟩,
  ⟨some 34, none, false, .ld true 3 (.t 7)⟩,
  ⟨some 35, none, false, .call false (.c (.fn i_tremor_Net_travel [] [])) [(.t 31), (.t 32), (.t 33), (.t 34)]⟩,
  ⟨none, none, false, .stv 8 [] 2 8 (.t 35)⟩,
  ⟨some 9, none, false, .mv (.c (.int .i64 0))⟩]

def a_tremor_Travel : Ann := ⟨[(7, [8, 9]), (2, [8, 9]), (4, [8, 9]), (6, [8, 9]), (5, [1, 2, 4, 7, 8, 26]), (3, [1, 2, 4, 7, 8, 15]), (1, [1, 2, 4, 7, 8, 10]), (0, [1, 2, 4, 7, 8])], [], [], [8], [8], [], [], []⟩
def f_tremor_Travel : Abs.Fn := ⟨4, [.v 8 true 2, .t 9],
  (.seq (.reg [1, 2, 4, 7, 8] f_tremor_Travel_r0) (.seq (.blk 0 (.seq (.reg [1, 2, 4, 7, 8, 10] f_tremor_Travel_r1) (.ite (.t 10) (.seq (.reg [8, 9] f_tremor_Travel_r2) .ret) (.seq (.reg [1, 2, 4, 7, 8, 15] f_tremor_Travel_r3) (.ite (.t 15) (.seq (.reg [8, 9] f_tremor_Travel_r4) .ret) (.seq (.reg [1, 2, 4, 7, 8, 26] f_tremor_Travel_r5) (.ite (.t 26) (.seq (.reg [8, 9] f_tremor_Travel_r6) .ret) .nop))))))) (.seq (.reg [8, 9] f_tremor_Travel_r7) .ret)))⟩

theorem e_tremor_Travel_r0 : type_of% f_tremor_Travel_r0.eq_1 := by_rfl f_tremor_Travel_r0.eq_1
theorem e_tremor_Travel_r1 : type_of% f_tremor_Travel_r1.eq_1 := by_rfl f_tremor_Travel_r1.eq_1
theorem e_tremor_Travel_r2 : type_of% f_tremor_Travel_r2.eq_1 := by_rfl f_tremor_Travel_r2.eq_1
theorem e_tremor_Travel_r3 : type_of% f_tremor_Travel_r3.eq_1 := by_rfl f_tremor_Travel_r3.eq_1
theorem e_tremor_Travel_r4 : type_of% f_tremor_Travel_r4.eq_1 := by_rfl f_tremor_Travel_r4.eq_1
theorem e_tremor_Travel_r5 : type_of% f_tremor_Travel_r5.eq_1 := by_rfl f_tremor_Travel_r5.eq_1
theorem e_tremor_Travel_r6 : type_of% f_tremor_Travel_r6.eq_1 := by_rfl f_tremor_Travel_r6.eq_1
theorem e_tremor_Travel_r7 : type_of% f_tremor_Travel_r7.eq_1 := by_rfl f_tremor_Travel_r7.eq_1
theorem e_tremor_Travel : type_of% f_tremor_Travel.eq_1 := by_rfl f_tremor_Travel.eq_1
theorem ok_tremor_Travel : fnC Try.prog a_tremor_Travel Try.f40 = some f_tremor_Travel := by kernel_rfl

/-! 41 fumarole/tremor.CheckNet -/
def f_tremor_CheckNet_r0 : List Abs.Op := [
  ⟨some 1, none, false, .boxi (.t 0)⟩,
  ⟨some 2, none, false, .mv (.c (.int .i64 0))⟩]

def f_tremor_CheckNet_r1 : List Abs.Op := [
  ⟨some 3, none, false, .ld true 12 (.t 1)⟩,
  ⟨some 4, none, false, .call false (.c (.fn i_tremor_Net_valid [] [])) [(.t 3)]⟩,
  ⟨some 5, none, false, .un .not (.t 4)⟩]

def f_tremor_CheckNet_r2 : List Abs.Op := [
  ⟨some 2, none, false, .mv (.c (.int .i64 1))⟩]

def f_tremor_CheckNet_r3 : List Abs.Op := [
  ⟨some 2, none, false, .mv (.c (.int .i64 0))⟩]

def a_tremor_CheckNet : Ann := ⟨[(3, [2]), (2, [2]), (1, [5]), (0, [1])], [], [], [], [], [], [], []⟩
def f_tremor_CheckNet : Abs.Fn := ⟨1, [.t 2],
  (.seq (.reg [1] f_tremor_CheckNet_r0) (.seq (.seq (.reg [5] f_tremor_CheckNet_r1) (.ite (.t 5) (.seq (.reg [2] f_tremor_CheckNet_r2) .ret) .nop)) (.seq (.reg [2] f_tremor_CheckNet_r3) .ret)))⟩

theorem e_tremor_CheckNet_r0 : type_of% f_tremor_CheckNet_r0.eq_1 := by_rfl f_tremor_CheckNet_r0.eq_1
theorem e_tremor_CheckNet_r1 : type_of% f_tremor_CheckNet_r1.eq_1 := by_rfl f_tremor_CheckNet_r1.eq_1
theorem e_tremor_CheckNet_r2 : type_of% f_tremor_CheckNet_r2.eq_1 := by_rfl f_tremor_CheckNet_r2.eq_1
theorem e_tremor_CheckNet_r3 : type_of% f_tremor_CheckNet_r3.eq_1 := by_rfl f_tremor_CheckNet_r3.eq_1
theorem e_tremor_CheckNet : type_of% f_tremor_CheckNet.eq_1 := by_rfl f_tremor_CheckNet.eq_1
theorem ok_tremor_CheckNet : fnC Try.prog a_tremor_CheckNet Try.f41 = some f_tremor_CheckNet := by kernel_rfl

/-! 42 fumarole/fumarolelaw09.Range -/
def f_law09_Range_r0 : List Abs.Op := [
  ⟨some 1, none, false, .boxi (.t 0)⟩,
  ⟨some 2, none, false, .alcv [] [(.int .i64 0), (.int .i64 0)]⟩]

def f_law09_Range_r1 : List Abs.Op := [
  ⟨some 3, none, false, .fadr 0 (.t 1)⟩,
  ⟨some 4, none, false, .ld false 1 (.t 3)⟩,
  ⟨some 5, none, false, .fadr 1 (.t 1)⟩,
  ⟨some 6, none, false, .ld false 1 (.t 5)⟩,
  ⟨some 7, none, false, .bld [(.int .i64 0), (.int .i64 0)] [(0, 1, (.t 4)), (1, 1, (.t 6))]⟩,
  ⟨none, none, false, .stv 2 [] 2 2 (.t 7)⟩]

def a_law09_Range : Ann := ⟨[(1, [2]), (0, [1, 2])], [], [], [2], [2], [], [], []⟩
def f_law09_Range : Abs.Fn := ⟨1, [.v 2 true 2],
  (.seq (.reg [1, 2] f_law09_Range_r0) (.seq (.reg [2] f_law09_Range_r1) .ret))⟩

theorem e_law09_Range_r0 : type_of% f_law09_Range_r0.eq_1 := by_rfl f_law09_Range_r0.eq_1
theorem e_law09_Range_r1 : type_of% f_law09_Range_r1.eq_1 := by_rfl f_law09_Range_r1.eq_1
theorem e_law09_Range : type_of% f_law09_Range.eq_1 := by_rfl f_law09_Range.eq_1
theorem ok_law09_Range : fnC Try.prog a_law09_Range Try.f42 = some f_law09_Range := by kernel_rfl

/-! 44 fumarole/tremor.Capital -/
def f_tremor_Capital_r0 : List Abs.Op := [
  ⟨some 2, none, false, .boxi (.t 0)⟩,
  ⟨some 4, none, false, .mv (.c .nils)⟩,
  ⟨some 5, none, false, .mv (.c (.int .i64 0))⟩]

def f_tremor_Capital_r1 : List Abs.Op := [
  ⟨some 11, none, false, .ld true 5 (.t 2)⟩,
  ⟨some 12, none, false, .call false (.c (.fn i_tremor_Bet_valid [] [])) [(.t 11)]⟩,
  ⟨some 13, none, false, .un .not (.t 12)⟩,
  ⟨some 10, none, false, .mv (.t 13)⟩]

def f_tremor_Capital_r2 : List Abs.Op := [
  ⟨some 4, none, false, .mv (.c .nils)⟩,
  ⟨some 5, none, false, .mv (.c (.int .i64 1))⟩]

def f_tremor_Capital_r3 : List Abs.Op := [
  ⟨some 15, none, false, .mv (.t 1)⟩,
  ⟨some 16, none, false, .lenS (.t 15)⟩,
  ⟨some 17, none, false, .bin .gtr (.t 16) (.c (.int .i64 2000))⟩,
  ⟨some 14, none, false, .mv (.t 17)⟩]

def f_tremor_Capital_r4 : List Abs.Op := [
  ⟨some 4, none, false, .mv (.c .nils)⟩,
  ⟨some 5, none, false, .mv (.c (.int .i64 3))⟩]

def f_tremor_Capital_r5 : List Abs.Op := [
  ⟨some 6, none, false, .nilb 1⟩]

def f_tremor_Capital_r6 : List Abs.Op := [
  ⟨some 18, none, false, .ld true 5 (.t 2)⟩,
  ⟨some 19, none, false, .call true (.c (.fn i_tremor_Bet_going [] [])) [(.t 18)]⟩,
  ⟨some 7, none, false, .mv (.t 19)⟩]

def f_tremor_Capital_r7 : List Abs.Op := [
  ⟨some 20, none, false, .mv (.t 1)⟩,
  ⟨some 21, none, false, .lenS (.t 20)⟩,
  ⟨some 22, none, false, .mv (.c (.int .i64 0))⟩]

def f_tremor_Capital_r8 : List Abs.Op := [
  ⟨some 23, none, false, .bin .lss (.t 22) (.t 21)⟩]

def f_tremor_Capital_r9 : List Abs.Op := [
  ⟨some 24, none, false, .idxS 1 (.t 20) (.t 22)⟩,
  ⟨some 25, none, false, .ld false 1 (.t 24)⟩,
  ⟨some 9, none, false, .mv (.t 25)⟩]

def f_tremor_Capital_r10 : List Abs.Op := [
  ⟨some 26, none, false, .mv (.t 6)⟩,
  ⟨some 27, none, false, .mv (.t 7)⟩,
  ⟨some 28, none, false, .mv (.t 9)⟩,
  ⟨some 29, none, false, .call false (.t 27) [(.t 28)]⟩,
  ⟨some 30, none, false, .bsi 1 1 [(.int .i64 0)] [(0, 1, (.t 29))]⟩,
  ⟨some 31, none, false, .app 1 8 (.t 26) (.t 30)⟩,
  ⟨some 6, none, false, .mv (.t 31)⟩]

def f_tremor_Capital_r11 : List Abs.Op := [
  ⟨some 32, none, false, .bin .add (.t 22) (.c (.int .i64 1))⟩,
  ⟨some 22, none, false, .mv (.t 32)⟩]

def f_tremor_Capital_l12 : Abs.Cmd :=
  (.seq (.reg [6, 7, 20, 21, 22, 23] f_tremor_Capital_r8) (.seq (.ite (.t 23) .nop (.exit 1)) (.seq (.blk 2 (.seq (.reg [6, 7, 9, 20, 21, 22] f_tremor_Capital_r9) (.reg [6, 7, 20, 21, 22] f_tremor_Capital_r10))) (.reg [6, 7, 20, 21, 22] f_tremor_Capital_r11))))

def f_tremor_Capital_r13 : List Abs.Op := [
  ⟨some 33, none, false, .mv (.t 6)⟩,
  ⟨some 4, none, false, .mv (.t 33)⟩,
  ⟨some 5, none, false, .mv (.c (.int .i64 0))⟩]

def a_tremor_Capital : Ann := ⟨[(12, [4, 5]), (11, [6, 7, 20, 21, 22]), (10, [6, 7, 20, 21, 22]), (9, [6, 7, 9, 20, 21, 22]), (8, [6, 7, 20, 21, 22, 23]), (7, [6, 7, 20, 21, 22]), (6, [1, 6, 7]), (5, [1, 2, 6]), (2, [4, 5]), (4, [4, 5]), (3, [1, 2, 14]), (1, [1, 2, 10]), (0, [1, 2])], [(1, [6, 7, 20, 21, 22])], [], [6], [], [], [6001], []⟩
def f_tremor_Capital : Abs.Fn := ⟨2, [.t 4, .t 5],
  (.seq (.reg [1, 2] f_tremor_Capital_r0) (.seq (.blk 0 (.seq (.reg [1, 2, 10] f_tremor_Capital_r1) (.ite (.t 10) (.seq (.reg [4, 5] f_tremor_Capital_r2) .ret) (.seq (.reg [1, 2, 14] f_tremor_Capital_r3) (.ite (.t 14) (.seq (.reg [4, 5] f_tremor_Capital_r4) .ret) .nop))))) (.seq (.reg [1, 2, 6] f_tremor_Capital_r5) (.seq (.reg [1, 6, 7] f_tremor_Capital_r6) (.seq (.seq (.reg [6, 7, 20, 21, 22] f_tremor_Capital_r7) (.blk 1 (.loop [6, 7, 20, 21, 22] false f_tremor_Capital_l12))) (.seq (.reg [4, 5] f_tremor_Capital_r13) .ret))))))⟩

theorem e_tremor_Capital_r0 : type_of% f_tremor_Capital_r0.eq_1 := by_rfl f_tremor_Capital_r0.eq_1
theorem e_tremor_Capital_r1 : type_of% f_tremor_Capital_r1.eq_1 := by_rfl f_tremor_Capital_r1.eq_1
theorem e_tremor_Capital_r2 : type_of% f_tremor_Capital_r2.eq_1 := by_rfl f_tremor_Capital_r2.eq_1
theorem e_tremor_Capital_r3 : type_of% f_tremor_Capital_r3.eq_1 := by_rfl f_tremor_Capital_r3.eq_1
theorem e_tremor_Capital_r4 : type_of% f_tremor_Capital_r4.eq_1 := by_rfl f_tremor_Capital_r4.eq_1
theorem e_tremor_Capital_r5 : type_of% f_tremor_Capital_r5.eq_1 := by_rfl f_tremor_Capital_r5.eq_1
theorem e_tremor_Capital_r6 : type_of% f_tremor_Capital_r6.eq_1 := by_rfl f_tremor_Capital_r6.eq_1
theorem e_tremor_Capital_r7 : type_of% f_tremor_Capital_r7.eq_1 := by_rfl f_tremor_Capital_r7.eq_1
theorem e_tremor_Capital_r8 : type_of% f_tremor_Capital_r8.eq_1 := by_rfl f_tremor_Capital_r8.eq_1
theorem e_tremor_Capital_r9 : type_of% f_tremor_Capital_r9.eq_1 := by_rfl f_tremor_Capital_r9.eq_1
theorem e_tremor_Capital_r10 : type_of% f_tremor_Capital_r10.eq_1 := by_rfl f_tremor_Capital_r10.eq_1
theorem e_tremor_Capital_r11 : type_of% f_tremor_Capital_r11.eq_1 := by_rfl f_tremor_Capital_r11.eq_1
theorem e_tremor_Capital_l12 : type_of% f_tremor_Capital_l12.eq_1 := by_rfl f_tremor_Capital_l12.eq_1
theorem e_tremor_Capital_r13 : type_of% f_tremor_Capital_r13.eq_1 := by_rfl f_tremor_Capital_r13.eq_1
theorem e_tremor_Capital : type_of% f_tremor_Capital.eq_1 := by_rfl f_tremor_Capital.eq_1
theorem ok_tremor_Capital : fnC Try.prog a_tremor_Capital Try.f44 = some f_tremor_Capital := by kernel_rfl

/-! 46 fumarole/tremor.Won -/
def f_tremor_Won_r0 : List Abs.Op := [
  ⟨some 2, none, false, .boxi (.t 0)⟩,
  ⟨some 4, none, false, .mv (.c (.int .i64 0))⟩,
  ⟨some 5, none, false, .mv (.c (.int .i64 0))⟩]

def f_tremor_Won_r1 : List Abs.Op := [
  ⟨some 10, none, false, .ld true 5 (.t 2)⟩,
  ⟨some 11, none, false, .mv (.t 1)⟩,
  ⟨some 12, none, false, .call false (.c (.fn i_tremor_Capital [] [])) [(.t 10), (.t 11)]⟩,
  ⟨some 9, none, false, .mv (.t 12)⟩,
  ⟨some 13, none, false, .ext (.t 9) 0⟩,
  ⟨some 14, none, false, .ext (.t 9) 1⟩,
  ⟨some 6, none, false, .mv (.t 13)⟩,
  ⟨some 7, none, false, .mv (.t 14)⟩]

def f_tremor_Won_r2 : List Abs.Op := [
  ⟨some 15, none, false, .mv (.t 7)⟩,
  ⟨some 16, none, false, .bin .neq (.t 15) (.c (.int .i64 0))⟩]

def f_tremor_Won_r3 : List Abs.Op := [
  ⟨some 17, none, false, .mv (.t 7)⟩,
  ⟨some 4, none, false, .mv (.c (.int .i64 0))⟩,
  ⟨some 5, none, false, .mv (.t 17)⟩]

def f_tremor_Won_r4 : List Abs.Op := [
  ⟨some 18, none, false, .mv (.t 6)⟩,
  ⟨some 19, none, false, .mkf i_tremor_Won_1 [] [(.t 2)]⟩,
  ⟨some 20, none, false, .call false (.c (.fn i_slices_IndexFunc_int [] [])) [(.t 18), (.t 19)]⟩,
  ⟨some 8, none, false, .mv (.t 20)⟩]

def f_tremor_Won_r5 : List Abs.Op := [
  ⟨some 21, none, false, .mv (.t 8)⟩,
  ⟨some 22, none, false, .bin .geq (.t 21) (.c (.int .i64 0))⟩]

def f_tremor_Won_r6 : List Abs.Op := [
  ⟨some 23, none, false, .mv (.t 8)⟩,
  ⟨some 4, none, false, .mv (.t 23)⟩,
  ⟨some 5, none, false, .mv (.c (.int .i64 0))⟩]

def f_tremor_Won_r7 : List Abs.Op := [
  ⟨some 4, none, false, .mv (.c (.int .i64 0))⟩,
  ⟨some 5, none, false, .mv (.c (.int .i64 7))⟩]

def a_tremor_Won : Ann := ⟨[(7, [4, 5]), (6, [4, 5]), (5, [8, 22]), (4, [8]), (3, [4, 5]), (2, [2, 6, 7, 16]), (1, [2, 6, 7]), (0, [1, 2])], [], [], [], [], [], [], []⟩
def f_tremor_Won : Abs.Fn := ⟨2, [.t 4, .t 5],
  (.seq (.reg [1, 2] f_tremor_Won_r0) (.seq (.reg [2, 6, 7] f_tremor_Won_r1) (.seq (.seq (.reg [2, 6, 7, 16] f_tremor_Won_r2) (.ite (.t 16) (.seq (.reg [4, 5] f_tremor_Won_r3) .ret) .nop)) (.seq (.seq (.reg [8] f_tremor_Won_r4) (.seq (.reg [8, 22] f_tremor_Won_r5) (.ite (.t 22) (.seq (.reg [4, 5] f_tremor_Won_r6) .ret) .nop))) (.seq (.reg [4, 5] f_tremor_Won_r7) .ret)))))⟩

theorem e_tremor_Won_r0 : type_of% f_tremor_Won_r0.eq_1 := by_rfl f_tremor_Won_r0.eq_1
theorem e_tremor_Won_r1 : type_of% f_tremor_Won_r1.eq_1 := by_rfl f_tremor_Won_r1.eq_1
theorem e_tremor_Won_r2 : type_of% f_tremor_Won_r2.eq_1 := by_rfl f_tremor_Won_r2.eq_1
theorem e_tremor_Won_r3 : type_of% f_tremor_Won_r3.eq_1 := by_rfl f_tremor_Won_r3.eq_1
theorem e_tremor_Won_r4 : type_of% f_tremor_Won_r4.eq_1 := by_rfl f_tremor_Won_r4.eq_1
theorem e_tremor_Won_r5 : type_of% f_tremor_Won_r5.eq_1 := by_rfl f_tremor_Won_r5.eq_1
theorem e_tremor_Won_r6 : type_of% f_tremor_Won_r6.eq_1 := by_rfl f_tremor_Won_r6.eq_1
theorem e_tremor_Won_r7 : type_of% f_tremor_Won_r7.eq_1 := by_rfl f_tremor_Won_r7.eq_1
theorem e_tremor_Won : type_of% f_tremor_Won.eq_1 := by_rfl f_tremor_Won.eq_1
theorem ok_tremor_Won : fnC Try.prog a_tremor_Won Try.f46 = some f_tremor_Won := by kernel_rfl

/-! 49 fumarole/tremor.Reasons -/
def f_tremor_Reasons_r0 : List Abs.Op := [
  ⟨some 2, none, false, .boxi (.t 0)⟩,
  ⟨some 3, none, false, .boxi (.t 1)⟩,
  ⟨some 4, none, false, .alc [] [.nils]⟩,
  ⟨some 5, none, false, .alc [] [(.int .i64 0)]⟩]

def f_tremor_Reasons_r1 : List Abs.Op := [
  ⟨some 15, none, false, .ld true 12 (.t 2)⟩,
  ⟨some 16, none, false, .ld false 1 (.t 3)⟩,
  ⟨some 17, none, false, .bld [.nils, (.int .i64 0), (.int .i64 0), (.int .i64 0), (.int .i64 0), (.int .i64 0), (.int .i64 0), (.int .i64 0), (.int .i64 0), (.int .i64 0), (.int .i64 0), (.int .i64 0), .nils] [(0, 12, (.t 15)), (12, 1, (.t 16))]⟩,
  ⟨some 6, none, false, .alc [] [.nils, (.int .i64 0), (.int .i64 0), (.int .i64 0), (.int .i64 0), (.int .i64 0), (.int .i64 0), (.int .i64 0), (.int .i64 0), (.int .i64 0), (.int .i64 0), (.int .i64 0), .nils]⟩,
  ⟨none, none, false, .st [] 13 (.t 6) (.t 17)⟩]

def f_tremor_Reasons_r2 : List Abs.Op := [
  ⟨some 18, none, false, .ld true 13 (.t 6)⟩,
  ⟨some 19, none, false, .call false (.c (.fn i_tremor_heard_check [] [])) [(.t 18)]⟩,
  ⟨some 7, none, false, .mv (.t 19)⟩]

def f_tremor_Reasons_r3 : List Abs.Op := [
  ⟨some 20, none, false, .mv (.t 7)⟩,
  ⟨some 21, none, false, .bin .neq (.t 20) (.c (.int .i64 0))⟩]

def f_tremor_Reasons_r4 : List Abs.Op := [
  ⟨some 22, none, false, .mv (.t 7)⟩,
  ⟨none, none, false, .st [] 1 (.t 4) (.c .nils)⟩,
  ⟨none, none, false, .st [] 1 (.t 5) (.t 22)⟩]

def f_tremor_Reasons_r5 : List Abs.Op := [
  ⟨some 8, none, false, .alc [(0, 2)] [.nils]⟩]

def f_tremor_Reasons_r6 : List Abs.Op := [
  ⟨some 23, none, false, .fadr 0 (.t 6)⟩,
  ⟨some 24, none, false, .ld true 12 (.t 23)⟩,
  ⟨some 25, none, false, .call false (.c (.fn i_tremor_Net_lattice [] [])) [(.t 24)]⟩]

def f_tremor_Reasons_r7 : List Abs.Op := [
  ⟨some 9, none, false, .alcv [] [(.int .i64 0), (.int .i64 0), (.int .i64 0)]⟩,
  ⟨none, none, false, .stv 9 [] 3 9 (.t 26)⟩]

def f_tremor_Reasons_r8 : List Abs.Op := [
  ⟨some 27, none, false, .ld true 13 (.t 6)⟩,
  ⟨some 28, none, false, .ldv 9 true 3 9⟩,
  ⟨some 29, none, false, .ld false 1 (.t 3)⟩,
  ⟨some 30, none, false, .lenS (.t 29)⟩,
  ⟨some 31, none, false, .call false (.c (.fn i_tremor_heard_spans [] [])) [(.t 27), (.t 28), (.t 30)]⟩,
  ⟨some 10, none, false, .mv (.t 31)⟩]

def f_tremor_Reasons_r9 : List Abs.Op := [
  ⟨some 33, none, false, .mv (.t 10)⟩,
  ⟨some 34, none, false, .call false (.c (.fn i_tremor_common [] [])) [(.t 33)]⟩,
  ⟨some 32, none, false, .mv (.t 34)⟩,
  ⟨some 35, none, false, .ext (.t 32) 0⟩,
  ⟨some 36, none, false, .ext (.t 32) 1⟩,
  ⟨some 11, none, false, .alc [] [(.int .i64 0), (.int .i64 0)]⟩,
  ⟨none, none, false, .st [] 2 (.t 11) (.t 35)⟩,
  ⟨some 12, none, false, .mv (.t 36)⟩]

def f_tremor_Reasons_r10 : List Abs.Op := [
  ⟨some 37, none, false, .mv (.t 12)⟩]

def f_tremor_Reasons_r11 : List Abs.Op := [
  ⟨none, none, false, .st [] 1 (.t 4) (.c .nils)⟩,
  ⟨none, none, false, .st [] 1 (.t 5) (.c (.int .i64 7))⟩]

def f_tremor_Reasons_r12 : List Abs.Op := [
  ⟨some 38, none, false, .mv (.t 10)⟩,
  ⟨some 39, none, false, .mkf i_tremor_Reasons_1 [] [(.t 11)]⟩,
  ⟨some 40, none, false, .call false (.c (.fn i_slices_IndexFunc_tremor_Range [] [])) [(.t 38), (.t 39)]⟩,
  ⟨some 13, none, false, .mv (.t 40)⟩]

def f_tremor_Reasons_r13 : List Abs.Op := [
  ⟨some 41, none, false, .mv (.t 10)⟩,
  ⟨some 42, none, false, .mkf i_tremor_Reasons_2 [] [(.t 11)]⟩,
  ⟨some 43, none, false, .call false (.c (.fn i_slices_IndexFunc_tremor_Range [] [])) [(.t 41), (.t 42)]⟩,
  ⟨some 14, none, false, .mv (.t 43)⟩]

def f_tremor_Reasons_r14 : List Abs.Op := [
  ⟨some 44, none, false, .ld false 1 (.t 8)⟩,
  ⟨some 45, none, false, .mv (.t 13)⟩,
  ⟨some 46, none, false, .mv (.t 14)⟩,
  ⟨some 47, none, false, .bld [(.int .i64 0), (.int .i64 0)] [(0, 1, (.t 45)), (1, 1, (.t 46))]⟩,
  ⟨some 48, none, false, .bsi 1 2 [(.int .i64 0), (.int .i64 0)] [(0, 2, (.t 47))]⟩,
  ⟨some 49, none, false, .app 2 16 (.t 44) (.t 48)⟩,
  ⟨none, none, false, .st [(0, 2)] 1 (.t 8) (.t 49)⟩]

def f_tremor_Reasons_a15 : Abs.Cmd :=
  (.reg [3, 4, 5, 6, 8, 9] f_tremor_Reasons_r7)

def f_tremor_Reasons_b15 : Abs.Cmd :=
  (.blk 1 (.seq (.reg [4, 5, 8, 10] f_tremor_Reasons_r8) (.seq (.reg [4, 5, 8, 10, 11, 12] f_tremor_Reasons_r9) (.seq (.seq (.reg [4, 5, 8, 10, 11, 37] f_tremor_Reasons_r10) (.ite (.t 37) (.seq (.reg [] f_tremor_Reasons_r11) .ret) .nop)) (.seq (.reg [8, 10, 11, 13] f_tremor_Reasons_r12) (.seq (.reg [8, 13, 14] f_tremor_Reasons_r13) (.reg [] f_tremor_Reasons_r14)))))))

def f_tremor_Reasons_r16 : List Abs.Op := [
  ⟨some 50, none, false, .ld false 1 (.t 8)⟩,
  ⟨none, none, false, .st [] 1 (.t 4) (.t 50)⟩,
  ⟨none, none, false, .st [] 1 (.t 5) (.c (.int .i64 0))⟩]

def a_tremor_Reasons : Ann := ⟨[(15, [4, 5]), (14, []), (13, [8, 13, 14]), (12, [8, 10, 11, 13]), (11, []), (10, [4, 5, 8, 10, 11, 37]), (9, [4, 5, 8, 10, 11, 12]), (8, [4, 5, 8, 10]), (7, [3, 4, 5, 6, 8, 9]), (6, [3, 4, 5, 6, 8, 25]), (5, [3, 4, 5, 6, 8]), (4, [4, 5]), (3, [3, 4, 5, 6, 7, 21]), (2, [3, 4, 5, 6, 7]), (1, [3, 4, 5, 6]), (0, [2, 3, 4, 5])], [(0, [3, 4, 5, 6, 8])], [], [4, 5, 6, 8, 9, 11], [9], [(5000, [(0, 2)]), (14006, [(0, 2)])], [], []⟩
def f_tremor_Reasons : Abs.Fn := ⟨2, [.c 4 false 1, .c 5 false 1],
  (.seq (.reg [2, 3, 4, 5] f_tremor_Reasons_r0) (.seq (.reg [3, 4, 5, 6] f_tremor_Reasons_r1) (.seq (.seq (.reg [3, 4, 5, 6, 7] f_tremor_Reasons_r2) (.seq (.reg [3, 4, 5, 6, 7, 21] f_tremor_Reasons_r3) (.ite (.t 21) (.seq (.reg [4, 5] f_tremor_Reasons_r4) .ret) .nop))) (.seq (.reg [3, 4, 5, 6, 8] f_tremor_Reasons_r5) (.seq (.seq (.reg [3, 4, 5, 6, 8, 25] f_tremor_Reasons_r6) (.blk 0 (.rngf [3, 4, 5, 6, 8] (.t 25) [26] f_tremor_Reasons_a15 f_tremor_Reasons_b15))) (.seq (.reg [4, 5] f_tremor_Reasons_r16) .ret))))))⟩

theorem e_tremor_Reasons_r0 : type_of% f_tremor_Reasons_r0.eq_1 := by_rfl f_tremor_Reasons_r0.eq_1
theorem e_tremor_Reasons_r1 : type_of% f_tremor_Reasons_r1.eq_1 := by_rfl f_tremor_Reasons_r1.eq_1
theorem e_tremor_Reasons_r2 : type_of% f_tremor_Reasons_r2.eq_1 := by_rfl f_tremor_Reasons_r2.eq_1
theorem e_tremor_Reasons_r3 : type_of% f_tremor_Reasons_r3.eq_1 := by_rfl f_tremor_Reasons_r3.eq_1
theorem e_tremor_Reasons_r4 : type_of% f_tremor_Reasons_r4.eq_1 := by_rfl f_tremor_Reasons_r4.eq_1
theorem e_tremor_Reasons_r5 : type_of% f_tremor_Reasons_r5.eq_1 := by_rfl f_tremor_Reasons_r5.eq_1
theorem e_tremor_Reasons_r6 : type_of% f_tremor_Reasons_r6.eq_1 := by_rfl f_tremor_Reasons_r6.eq_1
theorem e_tremor_Reasons_r7 : type_of% f_tremor_Reasons_r7.eq_1 := by_rfl f_tremor_Reasons_r7.eq_1
theorem e_tremor_Reasons_r8 : type_of% f_tremor_Reasons_r8.eq_1 := by_rfl f_tremor_Reasons_r8.eq_1
theorem e_tremor_Reasons_r9 : type_of% f_tremor_Reasons_r9.eq_1 := by_rfl f_tremor_Reasons_r9.eq_1
theorem e_tremor_Reasons_r10 : type_of% f_tremor_Reasons_r10.eq_1 := by_rfl f_tremor_Reasons_r10.eq_1
theorem e_tremor_Reasons_r11 : type_of% f_tremor_Reasons_r11.eq_1 := by_rfl f_tremor_Reasons_r11.eq_1
theorem e_tremor_Reasons_r12 : type_of% f_tremor_Reasons_r12.eq_1 := by_rfl f_tremor_Reasons_r12.eq_1
theorem e_tremor_Reasons_r13 : type_of% f_tremor_Reasons_r13.eq_1 := by_rfl f_tremor_Reasons_r13.eq_1
theorem e_tremor_Reasons_r14 : type_of% f_tremor_Reasons_r14.eq_1 := by_rfl f_tremor_Reasons_r14.eq_1
theorem e_tremor_Reasons_a15 : type_of% f_tremor_Reasons_a15.eq_1 := by_rfl f_tremor_Reasons_a15.eq_1
theorem e_tremor_Reasons_b15 : type_of% f_tremor_Reasons_b15.eq_1 := by_rfl f_tremor_Reasons_b15.eq_1
theorem e_tremor_Reasons_r16 : type_of% f_tremor_Reasons_r16.eq_1 := by_rfl f_tremor_Reasons_r16.eq_1
theorem e_tremor_Reasons : type_of% f_tremor_Reasons.eq_1 := by_rfl f_tremor_Reasons.eq_1
theorem ok_tremor_Reasons : fnC Try.prog a_tremor_Reasons Try.f49 = some f_tremor_Reasons := by kernel_rfl

/-! 50 fumarole/tremor.ProveNone -/
def f_tremor_ProveNone_r0 : List Abs.Op := [
  ⟨some 3, none, false, .boxi (.t 0)⟩,
  ⟨some 4, none, false, .boxi (.t 1)⟩,
  ⟨some 5, none, false, .boxi (.t 2)⟩,
  ⟨some 6, none, false, .alc [] [(.bool false)]⟩]

def f_tremor_ProveNone_r1 : List Abs.Op := [
  ⟨some 12, none, false, .ld true 12 (.t 3)⟩,
  ⟨some 13, none, false, .ld false 1 (.t 4)⟩,
  ⟨some 14, none, false, .bld [.nils, (.int .i64 0), (.int .i64 0), (.int .i64 0), (.int .i64 0), (.int .i64 0), (.int .i64 0), (.int .i64 0), (.int .i64 0), (.int .i64 0), (.int .i64 0), (.int .i64 0), .nils] [(0, 12, (.t 12)), (12, 1, (.t 13))]⟩,
  ⟨some 7, none, false, .alc [] [.nils, (.int .i64 0), (.int .i64 0), (.int .i64 0), (.int .i64 0), (.int .i64 0), (.int .i64 0), (.int .i64 0), (.int .i64 0), (.int .i64 0), (.int .i64 0), (.int .i64 0), .nils]⟩,
  ⟨none, none, false, .st [] 13 (.t 7) (.t 14)⟩]

def f_tremor_ProveNone_r2 : List Abs.Op := [
  ⟨some 15, none, false, .ld true 13 (.t 7)⟩,
  ⟨some 16, none, false, .call false (.c (.fn i_tremor_heard_check [] [])) [(.t 15)]⟩,
  ⟨some 17, none, false, .bin .neq (.t 16) (.c (.int .i64 0))⟩]

def f_tremor_ProveNone_r3 : List Abs.Op := [
  ⟨none, none, false, .st [] 1 (.t 6) (.c (.bool false))⟩]

def f_tremor_ProveNone_r4 : List Abs.Op := [
  ⟨some 8, none, false, .alc [] [(.int .i64 0)]⟩,
  ⟨none, none, false, .st [] 1 (.t 8) (.c (.int .i64 0))⟩]

def f_tremor_ProveNone_r5 : List Abs.Op := [
  ⟨some 18, none, false, .fadr 0 (.t 7)⟩,
  ⟨some 19, none, false, .ld true 12 (.t 18)⟩,
  ⟨some 20, none, false, .call false (.c (.fn i_tremor_Net_lattice [] [])) [(.t 19)]⟩]

def f_tremor_ProveNone_r6 : List Abs.Op := [
  ⟨some 9, none, false, .alcv [] [(.int .i64 0), (.int .i64 0), (.int .i64 0)]⟩,
  ⟨none, none, false, .stv 9 [] 3 9 (.t 21)⟩]

def f_tremor_ProveNone_r7 : List Abs.Op := [
  ⟨some 22, none, false, .ld false 1 (.t 8)⟩,
  ⟨some 23, none, false, .ld false 1 (.t 5)⟩,
  ⟨some 24, none, false, .lenS (.t 23)⟩,
  ⟨some 25, none, false, .bin .eql (.t 22) (.t 24)⟩]

def f_tremor_ProveNone_r8 : List Abs.Op := [
  ⟨none, none, false, .st [] 1 (.t 6) (.c (.bool false))⟩]

def f_tremor_ProveNone_r9 : List Abs.Op := [
  ⟨some 26, none, true, .ld false 1 (.t 5)⟩,
  ⟨some 27, none, true, .ld false 1 (.t 8)⟩,
  ⟨some 28, none, true, .idxS 2 (.t 26) (.t 27)⟩,
  ⟨some 29, none, true, .fadr 0 (.t 28)⟩,
  ⟨some 30, none, true, .ld false 1 (.t 29)⟩,
  ⟨some 31, none, true, .ld false 1 (.t 5)⟩,
  ⟨some 32, none, true, .ld false 1 (.t 8)⟩,
  ⟨some 33, none, true, .idxS 2 (.t 31) (.t 32)⟩,
  ⟨some 34, none, true, .fadr 1 (.t 33)⟩,
  ⟨some 35, none, true, .ld false 1 (.t 34)⟩,
  ⟨some 10, none, true, .mv (.t 30)⟩,
  ⟨some 11, none, false, .mv (.t 35)⟩]

def f_tremor_ProveNone_r10 : List Abs.Op := [
  ⟨some 36, none, true, .mv (.t 10)⟩,
  ⟨some 37, none, true, .ld false 1 (.t 4)⟩,
  ⟨some 38, none, true, .lenS (.t 37)⟩,
  ⟨some 39, none, true, .bin .sub (.t 38) (.c (.int .i64 1))⟩,
  ⟨some 40, none, true, .call false (.c (.fn i_tremor_within [] [])) [(.t 36), (.c (.int .i64 0)), (.t 39)]⟩,
  ⟨some 41, none, true, .un .not (.t 40)⟩,
  ⟨some 42, none, true, .mv (.t 41)⟩,
  ⟨some 43, some (42, false), true, .mv (.t 11)⟩,
  ⟨some 44, some (42, false), true, .ld false 1 (.t 4)⟩,
  ⟨some 45, some (42, false), true, .lenS (.t 44)⟩,
  ⟨some 46, some (42, false), true, .bin .sub (.t 45) (.c (.int .i64 1))⟩,
  ⟨some 47, some (42, false), true, .call false (.c (.fn i_tremor_within [] [])) [(.t 43), (.c (.int .i64 0)), (.t 46)]⟩,
  ⟨some 48, some (42, false), true, .un .not (.t 47)⟩,
  ⟨some 49, none, true, .pick (.t 42) (.c (.bool true)) (.t 48)⟩,
  ⟨some 50, none, true, .mv (.t 49)⟩,
  ⟨some 51, some (50, false), true, .ld true 13 (.t 7)⟩,
  ⟨some 52, some (50, false), true, .ldv 9 true 3 9⟩,
  ⟨some 53, some (50, false), true, .mv (.t 10)⟩,
  ⟨some 54, some (50, false), true, .call false (.c (.fn i_tremor_heard_span [] [])) [(.t 51), (.t 52), (.t 53)]⟩,
  ⟨some 55, some (50, false), true, .fld false 0 1 (.t 54)⟩,
  ⟨some 56, some (50, false), true, .ld true 13 (.t 7)⟩,
  ⟨some 57, some (50, false), true, .ldv 9 true 3 9⟩,
  ⟨some 58, some (50, false), true, .mv (.t 11)⟩,
  ⟨some 59, some (50, false), true, .call false (.c (.fn i_tremor_heard_span [] [])) [(.t 56), (.t 57), (.t 58)]⟩,
  ⟨some 60, some (50, false), true, .fld false 1 1 (.t 59)⟩,
  ⟨some 61, some (50, false), false, .bin .leq (.t 55) (.t 60)⟩,
  ⟨some 62, none, false, .pick (.t 50) (.c (.bool true)) (.t 61)⟩]

def f_tremor_ProveNone_r11 : List Abs.Op := [
  ⟨none, none, false, .st [] 1 (.t 6) (.c (.bool false))⟩]

def f_tremor_ProveNone_r12 : List Abs.Op := [
  ⟨some 63, none, false, .ld false 1 (.t 8)⟩,
  ⟨some 64, none, false, .bin .add (.t 63) (.c (.int .i64 1))⟩,
  ⟨none, none, false, .st [] 1 (.t 8) (.t 64)⟩]

def f_tremor_ProveNone_a13 : Abs.Cmd :=
  (.reg [4, 5, 6, 7, 8, 9] f_tremor_ProveNone_r6)

def f_tremor_ProveNone_b13 : Abs.Cmd :=
  (.blk 1 (.seq (.seq (.reg [4, 5, 6, 7, 8, 9, 25] f_tremor_ProveNone_r7) (.ite (.t 25) (.seq (.reg [] f_tremor_ProveNone_r8) .ret) .nop)) (.seq (.reg [4, 6, 7, 8, 9, 10, 11] f_tremor_ProveNone_r9) (.seq (.seq (.reg [6, 8, 62] f_tremor_ProveNone_r10) (.ite (.t 62) (.seq (.reg [] f_tremor_ProveNone_r11) .ret) .nop)) (.reg [] f_tremor_ProveNone_r12)))))

def f_tremor_ProveNone_r14 : List Abs.Op := [
  ⟨some 65, none, false, .ld false 1 (.t 8)⟩,
  ⟨some 66, none, false, .ld false 1 (.t 5)⟩,
  ⟨some 67, none, false, .lenS (.t 66)⟩,
  ⟨some 68, none, false, .bin .eql (.t 65) (.t 67)⟩,
  ⟨none, none, false, .st [] 1 (.t 6) (.t 68)⟩]

def a_tremor_ProveNone : Ann := ⟨[(13, [6]), (12, []), (11, []), (10, [6, 8, 62]), (9, [4, 6, 7, 8, 9, 10, 11]), (8, []), (7, [4, 5, 6, 7, 8, 9, 25]), (6, [4, 5, 6, 7, 8, 9]), (5, [4, 5, 6, 7, 8, 20]), (4, [4, 5, 6, 7, 8]), (3, [6]), (2, [4, 5, 6, 7, 17]), (1, [4, 5, 6, 7]), (0, [3, 4, 5, 6])], [(0, [4, 5, 6, 7, 8])], [], [6, 7, 8, 9], [9], [], [], []⟩
def f_tremor_ProveNone : Abs.Fn := ⟨3, [.c 6 false 1],
  (.seq (.reg [3, 4, 5, 6] f_tremor_ProveNone_r0) (.seq (.reg [4, 5, 6, 7] f_tremor_ProveNone_r1) (.seq (.seq (.reg [4, 5, 6, 7, 17] f_tremor_ProveNone_r2) (.ite (.t 17) (.seq (.reg [6] f_tremor_ProveNone_r3) .ret) .nop)) (.seq (.reg [4, 5, 6, 7, 8] f_tremor_ProveNone_r4) (.seq (.seq (.reg [4, 5, 6, 7, 8, 20] f_tremor_ProveNone_r5) (.blk 0 (.rngf [4, 5, 6, 7, 8] (.t 20) [21] f_tremor_ProveNone_a13 f_tremor_ProveNone_b13))) (.seq (.reg [6] f_tremor_ProveNone_r14) .ret))))))⟩

theorem e_tremor_ProveNone_r0 : type_of% f_tremor_ProveNone_r0.eq_1 := by_rfl f_tremor_ProveNone_r0.eq_1
theorem e_tremor_ProveNone_r1 : type_of% f_tremor_ProveNone_r1.eq_1 := by_rfl f_tremor_ProveNone_r1.eq_1
theorem e_tremor_ProveNone_r2 : type_of% f_tremor_ProveNone_r2.eq_1 := by_rfl f_tremor_ProveNone_r2.eq_1
theorem e_tremor_ProveNone_r3 : type_of% f_tremor_ProveNone_r3.eq_1 := by_rfl f_tremor_ProveNone_r3.eq_1
theorem e_tremor_ProveNone_r4 : type_of% f_tremor_ProveNone_r4.eq_1 := by_rfl f_tremor_ProveNone_r4.eq_1
theorem e_tremor_ProveNone_r5 : type_of% f_tremor_ProveNone_r5.eq_1 := by_rfl f_tremor_ProveNone_r5.eq_1
theorem e_tremor_ProveNone_r6 : type_of% f_tremor_ProveNone_r6.eq_1 := by_rfl f_tremor_ProveNone_r6.eq_1
theorem e_tremor_ProveNone_r7 : type_of% f_tremor_ProveNone_r7.eq_1 := by_rfl f_tremor_ProveNone_r7.eq_1
theorem e_tremor_ProveNone_r8 : type_of% f_tremor_ProveNone_r8.eq_1 := by_rfl f_tremor_ProveNone_r8.eq_1
theorem e_tremor_ProveNone_r9 : type_of% f_tremor_ProveNone_r9.eq_1 := by_rfl f_tremor_ProveNone_r9.eq_1
theorem e_tremor_ProveNone_r10 : type_of% f_tremor_ProveNone_r10.eq_1 := by_rfl f_tremor_ProveNone_r10.eq_1
theorem e_tremor_ProveNone_r11 : type_of% f_tremor_ProveNone_r11.eq_1 := by_rfl f_tremor_ProveNone_r11.eq_1
theorem e_tremor_ProveNone_r12 : type_of% f_tremor_ProveNone_r12.eq_1 := by_rfl f_tremor_ProveNone_r12.eq_1
theorem e_tremor_ProveNone_a13 : type_of% f_tremor_ProveNone_a13.eq_1 := by_rfl f_tremor_ProveNone_a13.eq_1
theorem e_tremor_ProveNone_b13 : type_of% f_tremor_ProveNone_b13.eq_1 := by_rfl f_tremor_ProveNone_b13.eq_1
theorem e_tremor_ProveNone_r14 : type_of% f_tremor_ProveNone_r14.eq_1 := by_rfl f_tremor_ProveNone_r14.eq_1
theorem e_tremor_ProveNone : type_of% f_tremor_ProveNone.eq_1 := by_rfl f_tremor_ProveNone.eq_1
theorem ok_tremor_ProveNone : fnC Try.prog a_tremor_ProveNone Try.f50 = some f_tremor_ProveNone := by kernel_rfl

/-! 52 fumarole/tremor.Blame -/
def f_tremor_Blame_r0 : List Abs.Op := [
  ⟨some 2, none, false, .boxi (.t 0)⟩,
  ⟨some 4, none, false, .mv (.c (.int .i64 0))⟩,
  ⟨some 5, none, false, .mv (.c (.int .i64 0))⟩]

def f_tremor_Blame_r1 : List Abs.Op := [
  ⟨some 9, none, false, .ld true 12 (.t 2)⟩,
  ⟨some 10, none, false, .mv (.t 1)⟩,
  ⟨some 11, none, false, .bld [.nils, (.int .i64 0), (.int .i64 0), (.int .i64 0), (.int .i64 0), (.int .i64 0), (.int .i64 0), (.int .i64 0), (.int .i64 0), (.int .i64 0), (.int .i64 0), (.int .i64 0), .nils] [(0, 12, (.t 9)), (12, 1, (.t 10))]⟩,
  ⟨some 6, none, false, .alcv [] [.nils, (.int .i64 0), (.int .i64 0), (.int .i64 0), (.int .i64 0), (.int .i64 0), (.int .i64 0), (.int .i64 0), (.int .i64 0), (.int .i64 0), (.int .i64 0), (.int .i64 0), .nils]⟩,
  ⟨none, none, false, .stv 6 [] 13 6 (.t 11)⟩]

def f_tremor_Blame_r2 : List Abs.Op := [
  ⟨some 12, none, false, .ldv 6 true 13 6⟩,
  ⟨some 13, none, false, .call false (.c (.fn i_tremor_heard_check [] [])) [(.t 12)]⟩,
  ⟨some 7, none, false, .mv (.t 13)⟩]

def f_tremor_Blame_r3 : List Abs.Op := [
  ⟨some 14, none, false, .mv (.t 7)⟩,
  ⟨some 15, none, false, .bin .neq (.t 14) (.c (.int .i64 0))⟩]

def f_tremor_Blame_r4 : List Abs.Op := [
  ⟨some 16, none, false, .mv (.t 7)⟩,
  ⟨some 4, none, false, .mv (.c (.int .i64 0))⟩,
  ⟨some 5, none, false, .mv (.t 16)⟩]

def f_tremor_Blame_r5 : List Abs.Op := [
  ⟨some 17, none, false, .mv (.t 1)⟩,
  ⟨some 18, none, false, .lenS (.t 17)⟩,
  ⟨some 19, none, false, .mv (.c (.int .i64 0))⟩]

def f_tremor_Blame_r6 : List Abs.Op := [
  ⟨some 20, none, false, .bin .lss (.t 19) (.t 18)⟩]

def f_tremor_Blame_r7 : List Abs.Op := [
  ⟨some 21, none, false, .mv (.t 19)⟩,
  ⟨some 8, none, false, .mv (.t 21)⟩]

def f_tremor_Blame_r8 : List Abs.Op := [
  ⟨some 22, none, false, .ldv 6 true 13 6⟩,
  ⟨some 23, none, false, .mv (.t 8)⟩,
  ⟨some 24, none, false, .bin .add (.t 23) (.c (.int .i64 1))⟩,
  ⟨some 25, none, false, .call false (.c (.fn i_tremor_heard_located [] [])) [(.t 22), (.t 24)]⟩,
  ⟨some 26, none, false, .lenS (.t 25)⟩,
  ⟨some 27, none, false, .bin .eql (.t 26) (.c (.int .i64 0))⟩]

def f_tremor_Blame_r9 : List Abs.Op := [
  ⟨some 28, none, false, .mv (.t 8)⟩,
  ⟨some 4, none, false, .mv (.t 28)⟩,
  ⟨some 5, none, false, .mv (.c (.int .i64 0))⟩]

def f_tremor_Blame_r10 : List Abs.Op := [
  ⟨some 29, none, false, .bin .add (.t 19) (.c (.int .i64 1))⟩,
  ⟨some 19, none, false, .mv (.t 29)⟩]

def f_tremor_Blame_l11 : Abs.Cmd :=
  (.seq (.reg [6, 18, 19, 20] f_tremor_Blame_r6) (.seq (.ite (.t 20) .nop (.exit 0)) (.seq (.blk 1 (.seq (.reg [6, 8, 18, 19] f_tremor_Blame_r7) (.seq (.reg [6, 8, 18, 19, 27] f_tremor_Blame_r8) (.ite (.t 27) (.seq (.reg [4, 5] f_tremor_Blame_r9) .ret) .nop)))) (.reg [6, 18, 19] f_tremor_Blame_r10))))

def f_tremor_Blame_r12 : List Abs.Op := [
  ⟨some 4, none, false, .mv (.c (.int .i64 0))⟩,
  ⟨some 5, none, false, .mv (.c (.int .i64 7))⟩]

def a_tremor_Blame : Ann := ⟨[(11, [4, 5]), (10, [6, 18, 19]), (9, [4, 5]), (8, [6, 8, 18, 19, 27]), (7, [6, 8, 18, 19]), (6, [6, 18, 19, 20]), (5, [6, 18, 19]), (4, [4, 5]), (3, [1, 6, 7, 15]), (2, [1, 6, 7]), (1, [1, 6]), (0, [1, 2])], [(0, [6, 18, 19])], [], [6], [6], [], [], []⟩
def f_tremor_Blame : Abs.Fn := ⟨2, [.t 4, .t 5],
  (.seq (.reg [1, 2] f_tremor_Blame_r0) (.seq (.reg [1, 6] f_tremor_Blame_r1) (.seq (.seq (.reg [1, 6, 7] f_tremor_Blame_r2) (.seq (.reg [1, 6, 7, 15] f_tremor_Blame_r3) (.ite (.t 15) (.seq (.reg [4, 5] f_tremor_Blame_r4) .ret) .nop))) (.seq (.seq (.reg [6, 18, 19] f_tremor_Blame_r5) (.blk 0 (.loop [6, 18, 19] false f_tremor_Blame_l11))) (.seq (.reg [4, 5] f_tremor_Blame_r12) .ret)))))⟩

theorem e_tremor_Blame_r0 : type_of% f_tremor_Blame_r0.eq_1 := by_rfl f_tremor_Blame_r0.eq_1
theorem e_tremor_Blame_r1 : type_of% f_tremor_Blame_r1.eq_1 := by_rfl f_tremor_Blame_r1.eq_1
theorem e_tremor_Blame_r2 : type_of% f_tremor_Blame_r2.eq_1 := by_rfl f_tremor_Blame_r2.eq_1
theorem e_tremor_Blame_r3 : type_of% f_tremor_Blame_r3.eq_1 := by_rfl f_tremor_Blame_r3.eq_1
theorem e_tremor_Blame_r4 : type_of% f_tremor_Blame_r4.eq_1 := by_rfl f_tremor_Blame_r4.eq_1
theorem e_tremor_Blame_r5 : type_of% f_tremor_Blame_r5.eq_1 := by_rfl f_tremor_Blame_r5.eq_1
theorem e_tremor_Blame_r6 : type_of% f_tremor_Blame_r6.eq_1 := by_rfl f_tremor_Blame_r6.eq_1
theorem e_tremor_Blame_r7 : type_of% f_tremor_Blame_r7.eq_1 := by_rfl f_tremor_Blame_r7.eq_1
theorem e_tremor_Blame_r8 : type_of% f_tremor_Blame_r8.eq_1 := by_rfl f_tremor_Blame_r8.eq_1
theorem e_tremor_Blame_r9 : type_of% f_tremor_Blame_r9.eq_1 := by_rfl f_tremor_Blame_r9.eq_1
theorem e_tremor_Blame_r10 : type_of% f_tremor_Blame_r10.eq_1 := by_rfl f_tremor_Blame_r10.eq_1
theorem e_tremor_Blame_l11 : type_of% f_tremor_Blame_l11.eq_1 := by_rfl f_tremor_Blame_l11.eq_1
theorem e_tremor_Blame_r12 : type_of% f_tremor_Blame_r12.eq_1 := by_rfl f_tremor_Blame_r12.eq_1
theorem e_tremor_Blame : type_of% f_tremor_Blame.eq_1 := by_rfl f_tremor_Blame.eq_1
theorem ok_tremor_Blame : fnC Try.prog a_tremor_Blame Try.f52 = some f_tremor_Blame := by kernel_rfl

/-! 54 fumarole/fumarolelaw09.Heard -/
def f_law09_Heard_r0 : List Abs.Op := [
  ⟨some 0, none, false, .nilb 4⟩]

def f_law09_Heard_r1 : List Abs.Op := [
  ⟨some 1, none, false, .bld [(.int .i64 0), (.int .i64 0)] [(0, 1, (.c (.int .i64 5200))), (1, 1, (.c (.int .i64 5200)))]⟩,
  ⟨some 2, none, false, .bld [(.int .i64 0), (.int .u8 0), (.int .i64 0), (.int .i64 0)] [(2, 2, (.t 1))]⟩,
  ⟨some 3, none, false, .bld [(.int .i64 0), (.int .i64 0)] [(0, 1, (.c (.int .i64 5400))), (1, 1, (.c (.int .i64 5410)))]⟩,
  ⟨some 4, none, false, .bld [(.int .i64 0), (.int .u8 0), (.int .i64 0), (.int .i64 0)] [(0, 1, (.c (.int .i64 1))), (2, 2, (.t 3))]⟩,
  ⟨some 5, none, false, .bsm 2 4 [(.int .i64 0), (.int .u8 0), (.int .i64 0), (.int .i64 0), (.int .i64 0), (.int .u8 0), (.int .i64 0), (.int .i64 0)] [(0, 4, (.t 2)), (4, 4, (.t 4))]⟩,
  ⟨some 0, none, false, .mv (.t 5)⟩]

def a_law09_Heard : Ann := ⟨[(1, [0]), (0, [])], [], [], [0, 5], [], [], [], []⟩
def f_law09_Heard : Abs.Fn := ⟨0, [.t 0],
  (.seq (.reg [] f_law09_Heard_r0) (.seq (.reg [0] f_law09_Heard_r1) .ret))⟩

theorem e_law09_Heard_r0 : type_of% f_law09_Heard_r0.eq_1 := by_rfl f_law09_Heard_r0.eq_1
theorem e_law09_Heard_r1 : type_of% f_law09_Heard_r1.eq_1 := by_rfl f_law09_Heard_r1.eq_1
theorem e_law09_Heard : type_of% f_law09_Heard.eq_1 := by_rfl f_law09_Heard.eq_1
theorem ok_law09_Heard : fnC Try.prog a_law09_Heard Try.f54 = some f_law09_Heard := by kernel_rfl

/-! 55 fumarole/fumarolelaw09.Two -/
def f_law09_Two_r0 : List Abs.Op := [
  ⟨some 0, none, false, .alcv [] [.nils, (.int .i64 0), (.int .i64 0), (.int .i64 0), (.int .i64 0), (.int .i64 0), (.int .i64 0), (.int .i64 0), (.int .i64 0), (.int .i64 0), (.int .i64 0), (.int .i64 0)]⟩]

def f_law09_Two_r1 : List Abs.Op := [
  ⟨some 1, none, false, .bld [(.int .i64 0), (.int .i64 0), (.int .i64 0), (.int .i64 0)] [(3, 1, (.c (.int .i64 10)))]⟩,
  ⟨some 2, none, false, .bld [(.int .i64 0), (.int .i64 0), (.int .i64 0)] [(0, 1, (.c (.int .i64 3000)))]⟩,
  ⟨some 3, none, false, .bld [(.int .i64 0), (.int .i64 0), (.int .i64 0), (.int .i64 0)] [(0, 3, (.t 2)), (3, 1, (.c (.int .i64 10)))]⟩,
  ⟨some 4, none, false, .bsi 2 4 [(.int .i64 0), (.int .i64 0), (.int .i64 0), (.int .i64 0), (.int .i64 0), (.int .i64 0), (.int .i64 0), (.int .i64 0)] [(0, 4, (.t 1)), (4, 4, (.t 3))]⟩,
  ⟨some 5, none, false, .bld [(.int .i64 0), (.int .i64 0)] [(0, 1, (.c (.int .i64 200))), (1, 1, (.c (.int .i64 220)))]⟩,
  ⟨some 6, none, false, .bld [(.int .i64 0), (.int .i64 0)] [(0, 1, (.c (.int .i64 350))), (1, 1, (.c (.int .i64 400)))]⟩,
  ⟨some 7, none, false, .bld [(.int .i64 0), (.int .i64 0), (.int .i64 0), (.int .i64 0)] [(0, 2, (.t 5)), (2, 2, (.t 6))]⟩,
  ⟨some 8, none, false, .bld [(.int .i64 0), (.int .i64 0), (.int .i64 0)] [(0, 1, (.c (.int .i64 3000)))]⟩,
  ⟨some 9, none, false, .bld [.nils, (.int .i64 0), (.int .i64 0), (.int .i64 0), (.int .i64 0), (.int .i64 0), (.int .i64 0), (.int .i64 0), (.int .i64 0), (.int .i64 0), (.int .i64 0), (.int .i64 0)] [(0, 1, (.t 4)), (1, 4, (.t 7)), (8, 3, (.t 8)), (11, 1, (.c (.int .i64 1000)))]⟩,
  ⟨none, none, false, .stv 0 [] 12 0 (.t 9)⟩]

def a_law09_Two : Ann := ⟨[(1, [0]), (0, [0])], [], [], [0], [0], [], [], []⟩
def f_law09_Two : Abs.Fn := ⟨0, [.v 0 true 12],
  (.seq (.reg [0] f_law09_Two_r0) (.seq (.reg [0] f_law09_Two_r1) .ret))⟩

theorem e_law09_Two_r0 : type_of% f_law09_Two_r0.eq_1 := by_rfl f_law09_Two_r0.eq_1
theorem e_law09_Two_r1 : type_of% f_law09_Two_r1.eq_1 := by_rfl f_law09_Two_r1.eq_1
theorem e_law09_Two : type_of% f_law09_Two.eq_1 := by_rfl f_law09_Two.eq_1
theorem ok_law09_Two : fnC Try.prog a_law09_Two Try.f55 = some f_law09_Two := by kernel_rfl

end Go.Proofs.Yticpenoicajakaa
