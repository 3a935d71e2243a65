/- The code of functions of the program, in the small instruction set; each is what the translation makes of it. -/
import Derived.Test.YtcccafphhmcifaaGreatIds
set_option linter.unusedVariables false
set_option maxRecDepth 100000
namespace Go.Proofs.YtcccafphhmcifaaGreat
open Go Go.Abs
/-! 9 fumarole/fumarolelaw11.LeaseNames -/
def f_law11_LeaseNames_r0 : List Abs.Op := [
  ⟨some 0, none, false, .mv (.c (.bool false))⟩]

def f_law11_LeaseNames_r1 : List Abs.Op := [
  ⟨some 19, none, false, .call false (.c (.fn i_law11_tracts [] [])) []⟩,
  ⟨some 20, none, false, .bsi 2 1 [(.int .i64 0), (.int .i64 0)] [(0, 1, (.c (.int .i64 10))), (1, 1, (.c (.int .i64 0)))]⟩,
  ⟨some 21, none, false, .bsi 2 1 [(.int .i64 0), (.int .i64 0)] [(0, 1, (.c (.int .i64 0))), (1, 1, (.c (.int .i64 7)))]⟩,
  ⟨some 22, none, false, .call false (.c (.fn i_lease_Divide [] [])) [(.t 19), (.t 20), (.t 21)]⟩,
  ⟨some 18, none, false, .mv (.t 22)⟩,
  ⟨some 23, none, false, .ext (.t 18) 0⟩,
  ⟨some 24, none, false, .ext (.t 18) 1⟩,
  ⟨some 25, none, false, .ext (.t 18) 2⟩,
  ⟨some 1, none, false, .mv (.t 23)⟩,
  ⟨some 2, none, false, .mv (.t 24)⟩,
  ⟨some 3, none, false, .mv (.t 25)⟩]

def f_law11_LeaseNames_r2 : List Abs.Op := [
  ⟨some 27, none, false, .bsi 3 1 [(.int .i64 0), (.int .i64 0), (.int .i64 0)] [(0, 1, (.c (.int .i64 0))), (1, 1, (.c (.int .i64 5))), (2, 1, (.c (.int .i64 2)))]⟩,
  ⟨some 28, none, false, .call false (.c (.fn i_lease_Split [] [])) [(.c (.int .i64 7)), (.t 27)]⟩,
  ⟨some 26, none, false, .mv (.t 28)⟩,
  ⟨some 29, none, false, .ext (.t 26) 0⟩,
  ⟨some 30, none, false, .ext (.t 26) 1⟩,
  ⟨some 4, none, false, .mv (.t 29)⟩,
  ⟨some 5, none, false, .mv (.t 30)⟩]

def f_law11_LeaseNames_r3 : List Abs.Op := [
  ⟨some 32, none, false, .bld [(.int .i64 0), (.int .i64 0)] [(0, 1, (.c (.int .i64 1000))), (1, 1, (.c (.int .i64 100)))]⟩,
  ⟨some 33, none, false, .bld [(.int .i64 0), (.int .i64 0)] [(0, 1, (.c (.int .i64 3000))), (1, 1, (.c (.int .i64 200)))]⟩,
  ⟨some 34, none, false, .bsi 2 2 [(.int .i64 0), (.int .i64 0), (.int .i64 0), (.int .i64 0)] [(0, 2, (.t 32)), (2, 2, (.t 33))]⟩,
  ⟨some 35, none, false, .bld [(.int .i64 0), .nils] [(0, 1, (.c (.int .i64 5))), (1, 1, (.t 34))]⟩,
  ⟨some 36, none, false, .call false (.c (.fn i_lease_Royalty [] [])) [(.t 35), (.c (.int .i64 2500)), (.c (.int .i64 40))]⟩,
  ⟨some 31, none, false, .mv (.t 36)⟩,
  ⟨some 37, none, false, .ext (.t 31) 0⟩,
  ⟨some 38, none, false, .ext (.t 31) 1⟩,
  ⟨some 6, none, false, .mv (.t 37)⟩,
  ⟨some 7, none, false, .mv (.t 38)⟩]

def f_law11_LeaseNames_r4 : List Abs.Op := [
  ⟨some 40, none, false, .call false (.c (.fn i_law11_pool [] [])) []⟩,
  ⟨some 41, none, false, .bsi 2 1 [(.int .i64 0), (.int .i64 0)] [(0, 1, (.c (.int .i64 4))), (1, 1, (.c (.int .i64 10)))]⟩,
  ⟨some 42, none, false, .call false (.c (.fn i_lease_Behind [] [])) [(.t 40), (.t 41)]⟩,
  ⟨some 39, none, false, .mv (.t 42)⟩,
  ⟨some 43, none, false, .ext (.t 39) 0⟩,
  ⟨some 44, none, false, .ext (.t 39) 1⟩,
  ⟨some 8, none, false, .mv (.t 43)⟩,
  ⟨some 9, none, false, .mv (.t 44)⟩]

def f_law11_LeaseNames_r5 : List Abs.Op := [
  ⟨some 46, none, false, .call false (.c (.fn i_law11_pool [] [])) []⟩,
  ⟨some 47, none, false, .bsi 2 1 [(.int .i64 0), (.int .i64 0)] [(0, 1, (.c (.int .i64 4))), (1, 1, (.c (.int .i64 10)))]⟩,
  ⟨some 48, none, false, .call false (.c (.fn i_lease_Room [] [])) [(.t 46), (.t 47), (.c (.int .i64 0))]⟩,
  ⟨some 45, none, false, .mv (.t 48)⟩,
  ⟨some 49, none, false, .ext (.t 45) 0⟩,
  ⟨some 50, none, false, .ext (.t 45) 1⟩,
  ⟨some 10, none, false, .mv (.t 49)⟩,
  ⟨some 11, none, false, .mv (.t 50)⟩]

def f_law11_LeaseNames_r6 : List Abs.Op := [
  ⟨some 51, none, false, .mv (.t 3)⟩,
  ⟨some 52, none, false, .bin .neq (.t 51) (.c (.int .i64 0))⟩,
  ⟨some 53, none, false, .mv (.t 52)⟩,
  ⟨some 54, some (53, false), false, .mv (.t 5)⟩,
  ⟨some 55, some (53, false), false, .bin .neq (.t 54) (.c (.int .i64 0))⟩,
  ⟨some 56, none, false, .pick (.t 53) (.c (.bool true)) (.t 55)⟩,
  ⟨some 57, none, false, .mv (.t 56)⟩,
  ⟨some 58, some (57, false), false, .mv (.t 7)⟩,
  ⟨some 59, some (57, false), false, .bin .neq (.t 58) (.c (.int .i64 0))⟩,
  ⟨some 60, none, false, .pick (.t 57) (.c (.bool true)) (.t 59)⟩,
  ⟨some 61, none, false, .mv (.t 60)⟩,
  ⟨some 62, some (61, false), false, .mv (.t 9)⟩,
  ⟨some 63, some (61, false), false, .bin .neq (.t 62) (.c (.int .i64 0))⟩,
  ⟨some 64, none, false, .pick (.t 61) (.c (.bool true)) (.t 63)⟩,
  ⟨some 65, none, false, .mv (.t 64)⟩,
  ⟨some 66, some (65, false), false, .mv (.t 11)⟩,
  ⟨some 67, some (65, false), false, .bin .neq (.t 66) (.c (.int .i64 0))⟩,
  ⟨some 68, none, false, .pick (.t 65) (.c (.bool true)) (.t 67)⟩,
  ⟨some 69, none, false, .mv (.t 68)⟩,
  ⟨some 70, some (69, false), false, .mv (.t 1)⟩,
  ⟨some 71, some (69, false), false, .bsi 3 1 [(.int .i64 0), (.int .i64 0), (.int .i64 0)] [(0, 1, (.c (.int .i64 3))), (1, 1, (.c (.int .i64 0))), (2, 1, (.c (.int .i64 1)))]⟩,
  ⟨some 72, some (69, false), false, .call false (.c (.fn i_law11_ints [] [])) [(.t 70), (.t 71)]⟩,
  ⟨some 73, some (69, false), false, .un .not (.t 72)⟩,
  ⟨some 74, none, false, .pick (.t 69) (.c (.bool true)) (.t 73)⟩,
  ⟨some 75, none, false, .mv (.t 74)⟩,
  ⟨some 76, some (75, false), false, .mv (.t 2)⟩,
  ⟨some 77, some (75, false), false, .bin .neq (.t 76) (.c (.int .i64 3))⟩,
  ⟨some 78, none, false, .pick (.t 75) (.c (.bool true)) (.t 77)⟩,
  ⟨some 79, none, false, .mv (.t 78)⟩,
  ⟨some 80, some (79, false), false, .mv (.t 4)⟩,
  ⟨some 81, some (79, false), false, .bsi 3 1 [(.int .i64 0), (.int .i64 0), (.int .i64 0)] [(0, 1, (.c (.int .i64 0))), (1, 1, (.c (.int .i64 5))), (2, 1, (.c (.int .i64 2)))]⟩,
  ⟨some 82, some (79, false), false, .call false (.c (.fn i_law11_ints [] [])) [(.t 80), (.t 81)]⟩,
  ⟨some 83, some (79, false), false, .un .not (.t 82)⟩,
  ⟨some 84, none, false, .pick (.t 79) (.c (.bool true)) (.t 83)⟩,
  ⟨some 85, none, false, .mv (.t 84)⟩,
  ⟨some 86, some (85, false), false, .mv (.t 6)⟩,
  ⟨some 87, some (85, false), false, .bin .neq (.t 86) (.c (.int .i64 16))⟩,
  ⟨some 88, none, false, .pick (.t 85) (.c (.bool true)) (.t 87)⟩,
  ⟨some 89, none, false, .mv (.t 88)⟩,
  ⟨some 90, some (89, false), false, .mv (.t 8)⟩,
  ⟨some 91, some (89, false), false, .lenS (.t 90)⟩,
  ⟨some 92, some (89, false), false, .bin .neq (.t 91) (.c (.int .i64 1))⟩,
  ⟨some 93, none, false, .pick (.t 89) (.c (.bool true)) (.t 92)⟩,
  ⟨some 94, none, false, .mv (.t 93)⟩,
  ⟨some 95, some (94, false), false, .mv (.t 8)⟩,
  ⟨some 96, some (94, false), false, .idxS 2 (.t 95) (.c (.int .i64 0))⟩,
  ⟨some 97, some (94, false), false, .ld true 2 (.t 96)⟩,
  ⟨some 98, some (94, false), false, .bld [(.int .i64 0), (.int .i64 0)] [(0, 1, (.c (.int .i64 8700))), (1, 1, (.c (.int .i64 9600)))]⟩,
  ⟨some 99, some (94, false), false, .eqv true [some .i64, some .i64] true (.t 97) (.t 98)⟩,
  ⟨some 100, none, false, .pick (.t 94) (.c (.bool true)) (.t 99)⟩,
  ⟨some 101, none, false, .mv (.t 100)⟩,
  ⟨some 102, some (101, false), false, .mv (.t 10)⟩,
  ⟨some 103, some (101, false), false, .bin .neq (.t 102) (.c (.int .i64 3))⟩,
  ⟨some 104, none, false, .pick (.t 101) (.c (.bool true)) (.t 103)⟩]

def f_law11_LeaseNames_r7 : List Abs.Op := [
  ⟨some 0, none, false, .mv (.c (.bool false))⟩]

def f_law11_LeaseNames_r8 : List Abs.Op := [
  ⟨some 106, none, false, .call false (.c (.fn i_law11_drilled [] [])) []⟩,
  ⟨some 107, none, false, .bsi 3 1 [(.int .i64 0), (.int .i64 0), (.int .i64 0)] [(0, 1, (.c (.int .i64 1))), (1, 1, (.c (.int .i64 0))), (2, 1, (.c (.int .i64 1)))]⟩,
  ⟨some 108, none, false, .call false (.c (.fn i_lease_Outlook [] [])) [(.t 106), (.t 107)]⟩,
  ⟨some 105, none, false, .mv (.t 108)⟩,
  ⟨some 109, none, false, .ext (.t 105) 0⟩,
  ⟨some 110, none, false, .ext (.t 105) 1⟩,
  ⟨some 111, none, false, .ext (.t 105) 2⟩,
  ⟨some 12, none, false, .mv (.t 109)⟩,
  ⟨some 13, none, false, .mv (.t 110)⟩,
  ⟨some 3, none, false, .mv (.t 111)⟩]

def f_law11_LeaseNames_r9 : List Abs.Op := [
  ⟨some 113, none, false, .call false (.c (.fn i_law11_drilled [] [])) []⟩,
  ⟨some 114, none, false, .call false (.c (.fn i_lease_Least [] [])) [(.t 113), (.c (.int .i64 2)), (.c (.int .i64 12))]⟩,
  ⟨some 112, none, false, .mv (.t 114)⟩,
  ⟨some 115, none, false, .ext (.t 112) 0⟩,
  ⟨some 116, none, false, .ext (.t 112) 1⟩,
  ⟨some 14, none, false, .mv (.t 115)⟩,
  ⟨some 5, none, false, .mv (.t 116)⟩]

def f_law11_LeaseNames_r10 : List Abs.Op := [
  ⟨some 118, none, false, .call false (.c (.fn i_law11_drilled [] [])) []⟩,
  ⟨some 119, none, false, .call false (.c (.fn i_lease_Least [] [])) [(.t 118), (.c (.int .i64 2)), (.c (.int .i64 15))]⟩,
  ⟨some 117, none, false, .mv (.t 119)⟩,
  ⟨some 120, none, false, .ext (.t 117) 0⟩,
  ⟨some 121, none, false, .ext (.t 117) 1⟩,
  ⟨some 15, none, false, .mv (.t 120)⟩,
  ⟨some 7, none, false, .mv (.t 121)⟩]

def f_law11_LeaseNames_r11 : List Abs.Op := [
  ⟨some 122, none, false, .call false (.c (.fn i_law11_drilled [] [])) []⟩,
  ⟨some 16, none, false, .alcv [] [(.int .i64 0), (.int .i64 0), (.int .i64 0), (.int .i64 0), .nils]⟩,
  ⟨none, none, false, .stv 16 [] 5 16 (.t 122)⟩]

def f_law11_LeaseNames_r12 : List Abs.Op := [
  ⟨some 123, none, false, .fadr 3 (.t 16)⟩,
  ⟨none, none, false, .stv 16 [] 1 123 (.c (.int .i64 0))⟩]

def f_law11_LeaseNames_r13 : List Abs.Op := [
  ⟨some 125, none, false, .ldv 16 true 5 16⟩,
  ⟨some 126, none, false, .call false (.c (.fn i_lease_Short [] [])) [(.t 125)]⟩,
  ⟨some 124, none, false, .mv (.t 126)⟩,
  ⟨some 127, none, false, .ext (.t 124) 0⟩,
  ⟨some 128, none, false, .ext (.t 124) 1⟩,
  ⟨some 17, none, false, .mv (.t 127)⟩,
  ⟨some 9, none, false, .mv (.t 128)⟩]

def f_law11_LeaseNames_r14 : List Abs.Op := [
  ⟨some 130, none, false, .ldv 16 true 5 16⟩,
  ⟨some 131, none, false, .call false (.c (.fn i_lease_Drill [] [])) [(.t 130)]⟩,
  ⟨some 129, none, false, .mv (.t 131)⟩,
  ⟨some 132, none, false, .ext (.t 129) 0⟩,
  ⟨some 133, none, false, .ext (.t 129) 1⟩,
  ⟨some 134, none, false, .ext (.t 129) 2⟩,
  ⟨some 135, none, false, .ext (.t 129) 3⟩,
  ⟨some 11, none, false, .mv (.t 135)⟩]

def f_law11_LeaseNames_r15 : List Abs.Op := [
  ⟨some 136, none, false, .mv (.t 3)⟩,
  ⟨some 137, none, false, .bin .neq (.t 136) (.c (.int .i64 0))⟩,
  ⟨some 138, none, false, .mv (.t 137)⟩,
  ⟨some 139, some (138, false), false, .mv (.t 5)⟩,
  ⟨some 140, some (138, false), false, .bin .neq (.t 139) (.c (.int .i64 0))⟩,
  ⟨some 141, none, false, .pick (.t 138) (.c (.bool true)) (.t 140)⟩,
  ⟨some 142, none, false, .mv (.t 141)⟩,
  ⟨some 143, some (142, false), false, .mv (.t 7)⟩,
  ⟨some 144, some (142, false), false, .bin .neq (.t 143) (.c (.int .i64 0))⟩,
  ⟨some 145, none, false, .pick (.t 142) (.c (.bool true)) (.t 144)⟩,
  ⟨some 146, none, false, .mv (.t 145)⟩,
  ⟨some 147, some (146, false), false, .mv (.t 9)⟩,
  ⟨some 148, some (146, false), false, .bin .neq (.t 147) (.c (.int .i64 0))⟩,
  ⟨some 149, none, false, .pick (.t 146) (.c (.bool true)) (.t 148)⟩,
  ⟨some 150, none, false, .mv (.t 149)⟩,
  ⟨some 151, some (150, false), false, .mv (.t 11)⟩,
  ⟨some 152, some (150, false), false, .bin .neq (.t 151) (.c (.int .i64 7))⟩,
  ⟨some 153, none, false, .pick (.t 150) (.c (.bool true)) (.t 152)⟩,
  ⟨some 154, none, false, .mv (.t 153)⟩,
  ⟨some 155, some (154, false), false, .mv (.t 12)⟩,
  ⟨some 156, some (154, false), false, .bsi 3 1 [(.int .i64 0), (.int .i64 0), (.int .i64 0)] [(0, 1, (.c (.int .i64 16))), (1, 1, (.c (.int .i64 14))), (2, 1, (.c (.int .i64 18)))]⟩,
  ⟨some 157, some (154, false), false, .call false (.c (.fn i_law11_ints [] [])) [(.t 155), (.t 156)]⟩,
  ⟨some 158, some (154, false), false, .un .not (.t 157)⟩,
  ⟨some 159, none, false, .pick (.t 154) (.c (.bool true)) (.t 158)⟩,
  ⟨some 160, none, false, .mv (.t 159)⟩,
  ⟨some 161, some (160, false), false, .mv (.t 13)⟩,
  ⟨some 162, some (160, false), false, .bin .neq (.t 161) (.c (.int .i64 14))⟩,
  ⟨some 163, none, false, .pick (.t 160) (.c (.bool true)) (.t 162)⟩,
  ⟨some 164, none, false, .mv (.t 163)⟩,
  ⟨some 165, some (164, false), false, .mv (.t 14)⟩,
  ⟨some 166, some (164, false), false, .bin .neq (.t 165) (.c (.int .i64 9))⟩,
  ⟨some 167, none, false, .pick (.t 164) (.c (.bool true)) (.t 166)⟩,
  ⟨some 168, none, false, .mv (.t 167)⟩,
  ⟨some 169, some (168, false), false, .mv (.t 15)⟩,
  ⟨some 170, some (168, false), false, .bin .neq (.t 169) (.c (.int .i64 0))⟩,
  ⟨some 171, none, false, .pick (.t 168) (.c (.bool true)) (.t 170)⟩,
  ⟨some 172, none, false, .mv (.t 171)⟩,
  ⟨some 173, some (172, false), false, .mv (.t 17)⟩,
  ⟨some 174, some (172, false), false, .bin .neq (.t 173) (.c (.int .i64 0))⟩,
  ⟨some 175, none, false, .pick (.t 172) (.c (.bool true)) (.t 174)⟩]

def f_law11_LeaseNames_r16 : List Abs.Op := [
  ⟨some 0, none, false, .mv (.c (.bool false))⟩]

def f_law11_LeaseNames_r17 : List Abs.Op := [
  ⟨some 177, none, false, .call false (.c (.fn i_law11_drilled [] [])) []⟩,
  ⟨some 178, none, false, .bsi 3 1 [(.int .i64 0), (.int .i64 0), (.int .i64 0)] [(0, 1, (.c (.int .i64 0))), (1, 1, (.c (.int .i64 0))), (2, 1, (.c (.int .i64 0)))]⟩,
  ⟨some 179, none, false, .call false (.c (.fn i_lease_Outlook [] [])) [(.t 177), (.t 178)]⟩,
  ⟨some 176, none, false, .mv (.t 179)⟩,
  ⟨some 180, none, false, .ext (.t 176) 0⟩,
  ⟨some 181, none, false, .ext (.t 176) 1⟩,
  ⟨some 182, none, false, .ext (.t 176) 2⟩,
  ⟨some 3, none, false, .mv (.t 182)⟩]

def f_law11_LeaseNames_r18 : List Abs.Op := [
  ⟨some 184, none, false, .bsi 2 1 [(.int .i64 0), (.int .i64 0)] [(0, 1, (.c (.int .i64 0))), (1, 1, (.c (.int .i64 0)))]⟩,
  ⟨some 185, none, false, .call false (.c (.fn i_lease_Split [] [])) [(.c (.int .i64 5)), (.t 184)]⟩,
  ⟨some 183, none, false, .mv (.t 185)⟩,
  ⟨some 186, none, false, .ext (.t 183) 0⟩,
  ⟨some 187, none, false, .ext (.t 183) 1⟩,
  ⟨some 5, none, false, .mv (.t 187)⟩]

def f_law11_LeaseNames_r19 : List Abs.Op := [
  ⟨some 189, none, false, .call false (.c (.fn i_law11_pool [] [])) []⟩,
  ⟨some 190, none, false, .bsi 2 1 [(.int .i64 0), (.int .i64 0)] [(0, 1, (.c (.int .i64 11))), (1, 1, (.c (.int .i64 0)))]⟩,
  ⟨some 191, none, false, .call false (.c (.fn i_lease_Room [] [])) [(.t 189), (.t 190), (.c (.int .i64 0))]⟩,
  ⟨some 188, none, false, .mv (.t 191)⟩,
  ⟨some 192, none, false, .ext (.t 188) 0⟩,
  ⟨some 193, none, false, .ext (.t 188) 1⟩,
  ⟨some 7, none, false, .mv (.t 193)⟩]

def f_law11_LeaseNames_r20 : List Abs.Op := [
  ⟨some 195, none, false, .call false (.c (.fn i_law11_drilled [] [])) []⟩,
  ⟨some 196, none, false, .call false (.c (.fn i_lease_Short [] [])) [(.t 195)]⟩,
  ⟨some 194, none, false, .mv (.t 196)⟩,
  ⟨some 197, none, false, .ext (.t 194) 0⟩,
  ⟨some 198, none, false, .ext (.t 194) 1⟩,
  ⟨some 9, none, false, .mv (.t 198)⟩]

def f_law11_LeaseNames_r21 : List Abs.Op := [
  ⟨some 199, none, false, .mv (.t 3)⟩,
  ⟨some 200, none, false, .bin .eql (.t 199) (.c (.int .i64 9))⟩,
  ⟨some 201, none, false, .mv (.t 200)⟩,
  ⟨some 202, some (201, true), false, .mv (.t 5)⟩,
  ⟨some 203, some (201, true), false, .bin .eql (.t 202) (.c (.int .i64 1))⟩,
  ⟨some 204, none, false, .pick (.t 201) (.t 203) (.c (.bool false))⟩,
  ⟨some 205, none, false, .mv (.t 204)⟩,
  ⟨some 206, some (205, true), false, .mv (.t 7)⟩,
  ⟨some 207, some (205, true), false, .bin .eql (.t 206) (.c (.int .i64 9))⟩,
  ⟨some 208, none, false, .pick (.t 205) (.t 207) (.c (.bool false))⟩,
  ⟨some 209, none, false, .mv (.t 208)⟩,
  ⟨some 210, some (209, true), false, .mv (.t 9)⟩,
  ⟨some 211, some (209, true), false, .bin .eql (.t 210) (.c (.int .i64 7))⟩,
  ⟨some 212, none, false, .pick (.t 209) (.t 211) (.c (.bool false))⟩,
  ⟨some 213, none, false, .mv (.t 212)⟩,
  ⟨some 214, some (213, true), false, .bsi 1 1 [(.int .i64 0)] [(0, 1, (.c (.int .i64 1001)))]⟩,
  ⟨some 215, some (213, true), false, .bsi 1 1 [.nils] [(0, 1, (.t 214))]⟩,
  ⟨some 216, some (213, true), false, .bld [(.int .i64 0), .nils] [(0, 1, (.c (.int .i64 1))), (1, 1, (.t 215))]⟩,
  ⟨some 217, some (213, true), false, .call false (.c (.fn i_lease_CheckConcession [] [])) [(.t 216)]⟩,
  ⟨some 218, some (213, true), false, .bin .eql (.t 217) (.c (.int .i64 1))⟩,
  ⟨some 219, none, false, .pick (.t 213) (.t 218) (.c (.bool false))⟩,
  ⟨some 220, none, false, .mv (.t 219)⟩,
  ⟨some 221, some (220, true), false, .bld [(.int .i64 0), (.int .i64 0), (.int .i64 0), (.int .i64 0), .nils] []⟩,
  ⟨some 222, some (220, true), false, .call false (.c (.fn i_lease_CheckProgramme [] [])) [(.t 221)]⟩,
  ⟨some 223, some (220, true), false, .bin .eql (.t 222) (.c (.int .i64 1))⟩,
  ⟨some 224, none, false, .pick (.t 220) (.t 223) (.c (.bool false))⟩,
  ⟨some 225, none, false, .mv (.t 224)⟩,
  ⟨some 226, some (225, true), false, .call false (.c (.fn i_lease_CheckSprings [] [])) [(.c .nils)]⟩,
  ⟨some 227, some (225, true), false, .bin .eql (.t 226) (.c (.int .i64 1))⟩,
  ⟨some 228, none, false, .pick (.t 225) (.t 227) (.c (.bool false))⟩,
  ⟨some 229, none, false, .mv (.t 228)⟩,
  ⟨some 230, some (229, true), false, .call false (.c (.fn i_law11_wakes [] [])) []⟩,
  ⟨some 231, none, false, .pick (.t 229) (.t 230) (.c (.bool false))⟩,
  ⟨some 0, none, false, .mv (.t 231)⟩]

def a_law11_LeaseNames : Ann := ⟨[(21, [0]), (20, [3, 5, 7, 9]), (19, [3, 5, 7]), (18, [3, 5]), (17, [3]), (16, [0]), (15, [175]), (14, [3, 5, 7, 9, 11, 12, 13, 14, 15, 17]), (13, [3, 5, 7, 9, 12, 13, 14, 15, 16, 17]), (12, [3, 5, 7, 12, 13, 14, 15, 16]), (11, [3, 5, 7, 12, 13, 14, 15, 16]), (10, [3, 5, 7, 12, 13, 14, 15]), (9, [3, 5, 12, 13, 14]), (8, [3, 12, 13]), (7, [0]), (6, [104]), (5, [1, 2, 3, 4, 5, 6, 7, 8, 9, 10, 11]), (4, [1, 2, 3, 4, 5, 6, 7, 8, 9]), (3, [1, 2, 3, 4, 5, 6, 7]), (2, [1, 2, 3, 4, 5]), (1, [1, 2, 3]), (0, [])], [], [], [16], [16], [], [], [], [], []⟩
def f_law11_LeaseNames : Abs.Fn := ⟨0, [.t 0],
  (.seq (.reg [] f_law11_LeaseNames_r0) (.seq (.reg [1, 2, 3] f_law11_LeaseNames_r1) (.seq (.reg [1, 2, 3, 4, 5] f_law11_LeaseNames_r2) (.seq (.reg [1, 2, 3, 4, 5, 6, 7] f_law11_LeaseNames_r3) (.seq (.reg [1, 2, 3, 4, 5, 6, 7, 8, 9] f_law11_LeaseNames_r4) (.seq (.reg [1, 2, 3, 4, 5, 6, 7, 8, 9, 10, 11] f_law11_LeaseNames_r5) (.seq (.seq (.reg [104] f_law11_LeaseNames_r6) (.ite (.t 104) (.seq (.reg [0] f_law11_LeaseNames_r7) .ret) .nop)) (.seq (.reg [3, 12, 13] f_law11_LeaseNames_r8) (.seq (.reg [3, 5, 12, 13, 14] f_law11_LeaseNames_r9) (.seq (.reg [3, 5, 7, 12, 13, 14, 15] f_law11_LeaseNames_r10) (.seq (.reg [3, 5, 7, 12, 13, 14, 15, 16] f_law11_LeaseNames_r11) (.seq (.reg [3, 5, 7, 12, 13, 14, 15, 16] f_law11_LeaseNames_r12) (.seq (.reg [3, 5, 7, 9, 12, 13, 14, 15, 16, 17] f_law11_LeaseNames_r13) (.seq (.reg [3, 5, 7, 9, 11, 12, 13, 14, 15, 17] f_law11_LeaseNames_r14) (.seq (.seq (.reg [175] f_law11_LeaseNames_r15) (.ite (.t 175) (.seq (.reg [0] f_law11_LeaseNames_r16) .ret) .nop)) (.seq (.reg [3] f_law11_LeaseNames_r17) (.seq (.reg [3, 5] f_law11_LeaseNames_r18) (.seq (.reg [3, 5, 7] f_law11_LeaseNames_r19) (.seq (.reg [3, 5, 7, 9] f_law11_LeaseNames_r20) (.seq (.reg [0] f_law11_LeaseNames_r21) .ret))))))))))))))))))))⟩

theorem e_law11_LeaseNames_r0 : type_of% f_law11_LeaseNames_r0.eq_1 := by_rfl f_law11_LeaseNames_r0.eq_1
theorem e_law11_LeaseNames_r1 : type_of% f_law11_LeaseNames_r1.eq_1 := by_rfl f_law11_LeaseNames_r1.eq_1
theorem e_law11_LeaseNames_r2 : type_of% f_law11_LeaseNames_r2.eq_1 := by_rfl f_law11_LeaseNames_r2.eq_1
theorem e_law11_LeaseNames_r3 : type_of% f_law11_LeaseNames_r3.eq_1 := by_rfl f_law11_LeaseNames_r3.eq_1
theorem e_law11_LeaseNames_r4 : type_of% f_law11_LeaseNames_r4.eq_1 := by_rfl f_law11_LeaseNames_r4.eq_1
theorem e_law11_LeaseNames_r5 : type_of% f_law11_LeaseNames_r5.eq_1 := by_rfl f_law11_LeaseNames_r5.eq_1
theorem e_law11_LeaseNames_r6 : type_of% f_law11_LeaseNames_r6.eq_1 := by_rfl f_law11_LeaseNames_r6.eq_1
theorem e_law11_LeaseNames_r7 : type_of% f_law11_LeaseNames_r7.eq_1 := by_rfl f_law11_LeaseNames_r7.eq_1
theorem e_law11_LeaseNames_r8 : type_of% f_law11_LeaseNames_r8.eq_1 := by_rfl f_law11_LeaseNames_r8.eq_1
theorem e_law11_LeaseNames_r9 : type_of% f_law11_LeaseNames_r9.eq_1 := by_rfl f_law11_LeaseNames_r9.eq_1
theorem e_law11_LeaseNames_r10 : type_of% f_law11_LeaseNames_r10.eq_1 := by_rfl f_law11_LeaseNames_r10.eq_1
theorem e_law11_LeaseNames_r11 : type_of% f_law11_LeaseNames_r11.eq_1 := by_rfl f_law11_LeaseNames_r11.eq_1
theorem e_law11_LeaseNames_r12 : type_of% f_law11_LeaseNames_r12.eq_1 := by_rfl f_law11_LeaseNames_r12.eq_1
theorem e_law11_LeaseNames_r13 : type_of% f_law11_LeaseNames_r13.eq_1 := by_rfl f_law11_LeaseNames_r13.eq_1
theorem e_law11_LeaseNames_r14 : type_of% f_law11_LeaseNames_r14.eq_1 := by_rfl f_law11_LeaseNames_r14.eq_1
theorem e_law11_LeaseNames_r15 : type_of% f_law11_LeaseNames_r15.eq_1 := by_rfl f_law11_LeaseNames_r15.eq_1
theorem e_law11_LeaseNames_r16 : type_of% f_law11_LeaseNames_r16.eq_1 := by_rfl f_law11_LeaseNames_r16.eq_1
theorem e_law11_LeaseNames_r17 : type_of% f_law11_LeaseNames_r17.eq_1 := by_rfl f_law11_LeaseNames_r17.eq_1
theorem e_law11_LeaseNames_r18 : type_of% f_law11_LeaseNames_r18.eq_1 := by_rfl f_law11_LeaseNames_r18.eq_1
theorem e_law11_LeaseNames_r19 : type_of% f_law11_LeaseNames_r19.eq_1 := by_rfl f_law11_LeaseNames_r19.eq_1
theorem e_law11_LeaseNames_r20 : type_of% f_law11_LeaseNames_r20.eq_1 := by_rfl f_law11_LeaseNames_r20.eq_1
theorem e_law11_LeaseNames_r21 : type_of% f_law11_LeaseNames_r21.eq_1 := by_rfl f_law11_LeaseNames_r21.eq_1
theorem e_law11_LeaseNames : type_of% f_law11_LeaseNames.eq_1 := by_rfl f_law11_LeaseNames.eq_1
theorem ok_law11_LeaseNames : fnC Tryz.prog a_law11_LeaseNames Tryz.f9 = some f_law11_LeaseNames := by kernel_rfl

/-! 11 fumarole/fumarolelaw11.wakes -/
def f_law11_wakes_r0 : List Abs.Op := [
  ⟨some 0, none, false, .mv (.c (.bool false))⟩]

def f_law11_wakes_r1 : List Abs.Op := [
  ⟨some 13, none, false, .call false (.c (.fn i_law11_tracts [] [])) []⟩,
  ⟨some 14, none, false, .bsi 2 1 [(.int .i64 0), (.int .i64 0)] [(0, 1, (.c (.int .i64 10))), (1, 1, (.c (.int .i64 7)))]⟩,
  ⟨some 15, none, false, .call false (.c (.fn i_lease_Due [] [])) [(.t 13), (.t 14)]⟩,
  ⟨some 12, none, false, .mv (.t 15)⟩,
  ⟨some 16, none, false, .ext (.t 12) 0⟩,
  ⟨some 17, none, false, .ext (.t 12) 1⟩,
  ⟨some 18, none, false, .ext (.t 12) 2⟩,
  ⟨some 1, none, false, .mv (.t 16)⟩,
  ⟨some 2, none, false, .mv (.t 17)⟩,
  ⟨some 3, none, false, .mv (.t 18)⟩]

def f_law11_wakes_r2 : List Abs.Op := [
  ⟨some 20, none, false, .bsi 3 1 [(.int .i64 0), (.int .i64 0), (.int .i64 0)] [(0, 1, (.c (.int .i64 1))), (1, 1, (.c (.int .i64 1))), (2, 1, (.c (.int .i64 1)))]⟩,
  ⟨some 21, none, false, .call false (.c (.fn i_lease_Split [] [])) [(.c (.int .i64 10)), (.t 20)]⟩,
  ⟨some 19, none, false, .mv (.t 21)⟩,
  ⟨some 22, none, false, .ext (.t 19) 0⟩,
  ⟨some 23, none, false, .ext (.t 19) 1⟩,
  ⟨some 4, none, false, .mv (.t 22)⟩,
  ⟨some 5, none, false, .mv (.t 23)⟩]

def f_law11_wakes_r3 : List Abs.Op := [
  ⟨some 25, none, false, .call false (.c (.fn i_law11_pool [] [])) []⟩,
  ⟨some 26, none, false, .bsi 2 1 [(.int .i64 0), (.int .i64 0)] [(0, 1, (.c (.int .i64 4))), (1, 1, (.c (.int .i64 10)))]⟩,
  ⟨some 27, none, false, .call false (.c (.fn i_lease_Room [] [])) [(.t 25), (.t 26), (.c (.int .i64 1))]⟩,
  ⟨some 24, none, false, .mv (.t 27)⟩,
  ⟨some 28, none, false, .ext (.t 24) 0⟩,
  ⟨some 29, none, false, .ext (.t 24) 1⟩,
  ⟨some 6, none, false, .mv (.t 28)⟩,
  ⟨some 7, none, false, .mv (.t 29)⟩]

def f_law11_wakes_r4 : List Abs.Op := [
  ⟨some 31, none, false, .call false (.c (.fn i_law11_drilled [] [])) []⟩,
  ⟨some 32, none, false, .call false (.c (.fn i_lease_Drill [] [])) [(.t 31)]⟩,
  ⟨some 30, none, false, .mv (.t 32)⟩,
  ⟨some 33, none, false, .ext (.t 30) 0⟩,
  ⟨some 34, none, false, .ext (.t 30) 1⟩,
  ⟨some 35, none, false, .ext (.t 30) 2⟩,
  ⟨some 36, none, false, .ext (.t 30) 3⟩,
  ⟨some 8, none, false, .mv (.t 33)⟩,
  ⟨some 9, none, false, .mv (.t 34)⟩,
  ⟨some 10, none, false, .mv (.t 35)⟩,
  ⟨some 11, none, false, .mv (.t 36)⟩]

def f_law11_wakes_r5 : List Abs.Op := [
  ⟨some 37, none, false, .mv (.t 3)⟩,
  ⟨some 38, none, false, .bin .eql (.t 37) (.c (.int .i64 0))⟩,
  ⟨some 39, none, false, .mv (.t 38)⟩,
  ⟨some 40, some (39, true), false, .mv (.t 5)⟩,
  ⟨some 41, some (39, true), false, .bin .eql (.t 40) (.c (.int .i64 0))⟩,
  ⟨some 42, none, false, .pick (.t 39) (.t 41) (.c (.bool false))⟩,
  ⟨some 43, none, false, .mv (.t 42)⟩,
  ⟨some 44, some (43, true), false, .mv (.t 7)⟩,
  ⟨some 45, some (43, true), false, .bin .eql (.t 44) (.c (.int .i64 0))⟩,
  ⟨some 46, none, false, .pick (.t 43) (.t 45) (.c (.bool false))⟩,
  ⟨some 47, none, false, .mv (.t 46)⟩,
  ⟨some 48, some (47, true), false, .mv (.t 11)⟩,
  ⟨some 49, some (47, true), false, .bin .eql (.t 48) (.c (.int .i64 0))⟩,
  ⟨some 50, none, false, .pick (.t 47) (.t 49) (.c (.bool false))⟩,
  ⟨some 51, none, false, .mv (.t 50)⟩,
  ⟨some 52, some (51, true), false, .mv (.t 1)⟩,
  ⟨some 53, some (51, true), false, .bsi 3 1 [(.int .i64 0), (.int .i64 0), (.int .i64 0)] [(0, 1, (.c (.int .i64 6))), (1, 1, (.c (.int .i64 6))), (2, 1, (.c (.int .i64 1)))]⟩,
  ⟨some 54, some (51, true), false, .call false (.c (.fn i_law11_ints [] [])) [(.t 52), (.t 53)]⟩,
  ⟨some 55, none, false, .pick (.t 51) (.t 54) (.c (.bool false))⟩,
  ⟨some 56, none, false, .mv (.t 55)⟩,
  ⟨some 57, some (56, true), false, .mv (.t 2)⟩,
  ⟨some 58, some (56, true), false, .bin .eql (.t 57) (.c (.int .i64 4))⟩,
  ⟨some 59, none, false, .pick (.t 56) (.t 58) (.c (.bool false))⟩,
  ⟨some 60, none, false, .mv (.t 59)⟩,
  ⟨some 61, some (60, true), false, .mv (.t 4)⟩,
  ⟨some 62, some (60, true), false, .bsi 3 1 [(.int .i64 0), (.int .i64 0), (.int .i64 0)] [(0, 1, (.c (.int .i64 4))), (1, 1, (.c (.int .i64 3))), (2, 1, (.c (.int .i64 3)))]⟩,
  ⟨some 63, some (60, true), false, .call false (.c (.fn i_law11_ints [] [])) [(.t 61), (.t 62)]⟩,
  ⟨some 64, none, false, .pick (.t 60) (.t 63) (.c (.bool false))⟩,
  ⟨some 65, none, false, .mv (.t 64)⟩,
  ⟨some 66, some (65, true), false, .mv (.t 6)⟩,
  ⟨some 67, some (65, true), false, .bin .eql (.t 66) (.c (.int .i64 14))⟩,
  ⟨some 68, none, false, .pick (.t 65) (.t 67) (.c (.bool false))⟩,
  ⟨some 69, none, false, .mv (.t 68)⟩,
  ⟨some 70, some (69, true), false, .mv (.t 8)⟩,
  ⟨some 71, some (69, true), false, .bsi 3 1 [(.int .i64 0), (.int .i64 0), (.int .i64 0)] [(0, 1, (.c (.int .i64 1))), (1, 1, (.c (.int .i64 1))), (2, 1, (.c (.int .i64 0)))]⟩,
  ⟨some 72, some (69, true), false, .call false (.c (.fn i_law11_ints [] [])) [(.t 70), (.t 71)]⟩,
  ⟨some 73, none, false, .pick (.t 69) (.t 72) (.c (.bool false))⟩,
  ⟨some 74, none, false, .mv (.t 73)⟩,
  ⟨some 75, some (74, true), false, .mv (.t 9)⟩,
  ⟨some 76, some (74, true), false, .bin .eql (.t 75) (.c (.int .i64 9))⟩,
  ⟨some 77, none, false, .pick (.t 74) (.t 76) (.c (.bool false))⟩,
  ⟨some 0, none, false, .mv (.t 77)⟩]

def a_law11_wakes : Ann := ⟨[(5, [0]), (4, [1, 2, 3, 4, 5, 6, 7, 8, 9, 11]), (3, [1, 2, 3, 4, 5, 6, 7]), (2, [1, 2, 3, 4, 5]), (1, [1, 2, 3]), (0, [])], [], [], [], [], [], [], [], [], []⟩
def f_law11_wakes : Abs.Fn := ⟨0, [.t 0],
  (.seq (.reg [] f_law11_wakes_r0) (.seq (.reg [1, 2, 3] f_law11_wakes_r1) (.seq (.reg [1, 2, 3, 4, 5] f_law11_wakes_r2) (.seq (.reg [1, 2, 3, 4, 5, 6, 7] f_law11_wakes_r3) (.seq (.reg [1, 2, 3, 4, 5, 6, 7, 8, 9, 11] f_law11_wakes_r4) (.seq (.reg [0] f_law11_wakes_r5) .ret))))))⟩

theorem e_law11_wakes_r0 : type_of% f_law11_wakes_r0.eq_1 := by_rfl f_law11_wakes_r0.eq_1
theorem e_law11_wakes_r1 : type_of% f_law11_wakes_r1.eq_1 := by_rfl f_law11_wakes_r1.eq_1
theorem e_law11_wakes_r2 : type_of% f_law11_wakes_r2.eq_1 := by_rfl f_law11_wakes_r2.eq_1
theorem e_law11_wakes_r3 : type_of% f_law11_wakes_r3.eq_1 := by_rfl f_law11_wakes_r3.eq_1
theorem e_law11_wakes_r4 : type_of% f_law11_wakes_r4.eq_1 := by_rfl f_law11_wakes_r4.eq_1
theorem e_law11_wakes_r5 : type_of% f_law11_wakes_r5.eq_1 := by_rfl f_law11_wakes_r5.eq_1
theorem e_law11_wakes : type_of% f_law11_wakes.eq_1 := by_rfl f_law11_wakes.eq_1
theorem ok_law11_wakes : fnC Tryz.prog a_law11_wakes Tryz.f11 = some f_law11_wakes := by kernel_rfl

/-! 12 fumarole/lease.Drill -/
def f_lease_Drill_r0 : List Abs.Op := [
  ⟨some 1, none, false, .boxi (.t 0)⟩,
  ⟨some 2, none, false, .nilb 1⟩,
  ⟨some 3, none, false, .mv (.c (.int .i64 0))⟩,
  ⟨some 4, none, false, .nilb 1⟩,
  ⟨some 5, none, false, .mv (.c (.int .i64 0))⟩]

def f_lease_Drill_r1 : List Abs.Op := [
  ⟨some 15, none, false, .ld true 5 (.t 1)⟩,
  ⟨some 16, none, false, .call false (.c (.fn i_lease_Programme_valid [] [])) [(.t 15)]⟩,
  ⟨some 17, none, false, .un .not (.t 16)⟩]

def f_lease_Drill_r2 : List Abs.Op := [
  ⟨some 2, none, false, .nilb 1⟩,
  ⟨some 3, none, false, .mv (.c (.int .i64 0))⟩,
  ⟨some 4, none, false, .nilb 1⟩,
  ⟨some 5, none, false, .mv (.c (.int .i64 1))⟩]

def f_lease_Drill_r3 : List Abs.Op := [
  ⟨some 18, none, false, .ld true 5 (.t 1)⟩,
  ⟨some 19, none, false, .bld [(.int .i64 0), (.int .i64 0), (.int .i64 0), (.int .i64 0), .nils] [(0, 5, (.t 18))]⟩,
  ⟨some 6, none, false, .alcv [] [(.int .i64 0), (.int .i64 0), (.int .i64 0), (.int .i64 0), .nils]⟩,
  ⟨none, none, false, .stv 6 [] 5 6 (.t 19)⟩]

def f_lease_Drill_r4 : List Abs.Op := [
  ⟨some 20, none, false, .ldv 6 true 5 6⟩,
  ⟨some 21, none, false, .call false (.c (.fn i_lease_work_table [] [])) [(.t 20)]⟩,
  ⟨some 7, none, false, .mv (.t 21)⟩]

def f_lease_Drill_r5 : List Abs.Op := [
  ⟨some 22, none, true, .mv (.t 7)⟩,
  ⟨some 23, none, true, .idxS 1 (.t 22) (.c (.int .i64 0))⟩,
  ⟨some 24, none, true, .ld false 1 (.t 23)⟩,
  ⟨some 25, none, true, .fadr 0 (.t 1)⟩,
  ⟨some 26, none, true, .ld false 1 (.t 25)⟩,
  ⟨some 27, none, false, .call false (.c (.fn i_lease_ladder_at [] [])) [(.t 24), (.t 26)]⟩,
  ⟨some 3, none, false, .mv (.t 27)⟩]

def f_lease_Drill_r6 : List Abs.Op := [
  ⟨some 28, none, false, .mv (.t 3)⟩,
  ⟨some 29, none, false, .bin .eql (.t 28) (.c (.int .i64 1000000000000))⟩]

def f_lease_Drill_r7 : List Abs.Op := [
  ⟨some 2, none, false, .nilb 1⟩,
  ⟨some 3, none, false, .mv (.c (.int .i64 0))⟩,
  ⟨some 4, none, false, .nilb 1⟩,
  ⟨some 5, none, false, .mv (.c (.int .i64 7))⟩]

def f_lease_Drill_r8 : List Abs.Op := [
  ⟨some 30, none, false, .fadr 0 (.t 1)⟩,
  ⟨some 31, none, false, .ld false 1 (.t 30)⟩,
  ⟨some 8, none, false, .mv (.t 31)⟩]

def f_lease_Drill_r9 : List Abs.Op := [
  ⟨some 32, none, false, .fadr 4 (.t 1)⟩,
  ⟨some 33, none, false, .ld false 1 (.t 32)⟩,
  ⟨some 34, none, false, .lenS (.t 33)⟩,
  ⟨some 35, none, false, .mv (.c (.int .i64 0))⟩]

def f_lease_Drill_r10 : List Abs.Op := [
  ⟨some 36, none, false, .bin .lss (.t 35) (.t 34)⟩]

def f_lease_Drill_r11 : List Abs.Op := [
  ⟨some 37, none, false, .mv (.t 35)⟩,
  ⟨some 9, none, false, .mv (.t 37)⟩]

def f_lease_Drill_r12 : List Abs.Op := [
  ⟨some 38, none, false, .bld [(.int .i64 0), (.int .i64 0)] [(0, 1, (.c (.int .i64 100000000))), (1, 1, (.c (.int .i64 0)))]⟩,
  ⟨some 39, none, false, .bsi 1 2 [(.int .i64 0), (.int .i64 0)] [(0, 2, (.t 38))]⟩,
  ⟨some 10, none, false, .mv (.t 39)⟩]

def f_lease_Drill_r13 : List Abs.Op := [
  ⟨some 40, none, false, .mv (.t 9)⟩,
  ⟨some 41, none, false, .bin .add (.t 40) (.c (.int .i64 1))⟩,
  ⟨some 42, none, false, .mv (.t 7)⟩,
  ⟨some 43, none, false, .lenS (.t 42)⟩,
  ⟨some 44, none, false, .bin .lss (.t 41) (.t 43)⟩]

def f_lease_Drill_r14 : List Abs.Op := [
  ⟨some 45, none, false, .mv (.t 7)⟩,
  ⟨some 46, none, false, .mv (.t 9)⟩,
  ⟨some 47, none, false, .bin .add (.t 46) (.c (.int .i64 1))⟩,
  ⟨some 48, none, false, .idxS 1 (.t 45) (.t 47)⟩,
  ⟨some 49, none, false, .ld false 1 (.t 48)⟩,
  ⟨some 10, none, false, .mv (.t 49)⟩]

def f_lease_Drill_r15 : List Abs.Op := [
  ⟨some 50, none, false, .mv (.t 7)⟩,
  ⟨some 51, none, false, .mv (.t 9)⟩,
  ⟨some 52, none, false, .idxS 1 (.t 50) (.t 51)⟩,
  ⟨some 53, none, false, .ld false 1 (.t 52)⟩,
  ⟨some 54, none, false, .mv (.t 8)⟩,
  ⟨some 55, none, false, .call false (.c (.fn i_lease_ladder_at [] [])) [(.t 53), (.t 54)]⟩,
  ⟨some 11, none, false, .mv (.t 55)⟩]

def f_lease_Drill_r16 : List Abs.Op := [
  ⟨some 12, none, false, .mv (.c (.int .i64 0))⟩]

def f_lease_Drill_r17 : List Abs.Op := [
  ⟨some 56, none, true, .fadr 0 (.t 6)⟩,
  ⟨some 57, none, true, .ldv 6 true 5 56⟩,
  ⟨some 58, none, true, .mv (.t 9)⟩,
  ⟨some 59, none, true, .mv (.t 8)⟩,
  ⟨some 60, none, true, .mv (.t 12)⟩,
  ⟨some 61, none, true, .call false (.c (.fn i_lease_Programme_meets [] [])) [(.t 57), (.t 58), (.t 59), (.t 60)]⟩,
  ⟨some 62, none, true, .un .not (.t 61)⟩,
  ⟨some 63, none, true, .mv (.t 62)⟩,
  ⟨some 64, some (63, false), true, .fadr 0 (.t 6)⟩,
  ⟨some 65, some (63, false), true, .fadr 4 (.t 64)⟩,
  ⟨some 66, some (63, false), true, .ldv 6 false 1 65⟩,
  ⟨some 67, some (63, false), true, .mv (.t 9)⟩,
  ⟨some 68, some (63, false), true, .idxS 2 (.t 66) (.t 67)⟩,
  ⟨some 69, some (63, false), true, .ld true 2 (.t 68)⟩,
  ⟨some 70, some (63, false), true, .mv (.t 12)⟩,
  ⟨some 71, some (63, false), true, .call false (.c (.fn i_lease_Year_cost [] [])) [(.t 69), (.t 70)]⟩,
  ⟨some 72, some (63, false), true, .mv (.t 10)⟩,
  ⟨some 73, some (63, false), true, .fadr 0 (.t 6)⟩,
  ⟨some 74, some (63, false), true, .ldv 6 true 5 73⟩,
  ⟨some 75, some (63, false), true, .mv (.t 8)⟩,
  ⟨some 76, some (63, false), true, .mv (.t 12)⟩,
  ⟨some 77, some (63, false), true, .call false (.c (.fn i_lease_Programme_after [] [])) [(.t 74), (.t 75), (.t 76)]⟩,
  ⟨some 78, some (63, false), true, .call false (.c (.fn i_lease_ladder_at [] [])) [(.t 72), (.t 77)]⟩,
  ⟨some 79, some (63, false), true, .bin .add (.t 71) (.t 78)⟩,
  ⟨some 80, some (63, false), true, .mv (.t 11)⟩,
  ⟨some 81, some (63, false), false, .bin .neq (.t 79) (.t 80)⟩,
  ⟨some 82, none, false, .pick (.t 63) (.c (.bool true)) (.t 81)⟩]

def f_lease_Drill_r18 : List Abs.Op := [
  ⟨some 83, none, false, .mv (.t 12)⟩,
  ⟨some 84, none, false, .bin .add (.t 83) (.c (.int .i64 1))⟩,
  ⟨some 12, none, false, .mv (.t 84)⟩]

def f_lease_Drill_l19 : Abs.Cmd :=
  (.seq (.seq (.reg [2, 3, 4, 6, 7, 8, 9, 10, 11, 12, 34, 35, 82] f_lease_Drill_r17) (.ite (.t 82) .nop (.exit 2))) (.blk 3 (.reg [2, 3, 4, 6, 7, 8, 9, 10, 11, 12, 34, 35] f_lease_Drill_r18)))

def f_lease_Drill_r20 : List Abs.Op := [
  ⟨some 85, none, true, .mv (.t 2)⟩,
  ⟨some 86, none, true, .mv (.t 12)⟩,
  ⟨some 87, none, true, .bsi 1 1 [(.int .i64 0)] [(0, 1, (.t 86))]⟩,
  ⟨some 88, none, true, .app 1 8 (.t 85) (.t 87)⟩,
  ⟨some 89, none, true, .fadr 0 (.t 6)⟩,
  ⟨some 90, none, true, .ldv 6 true 5 89⟩,
  ⟨some 91, none, true, .mv (.t 8)⟩,
  ⟨some 92, none, true, .mv (.t 12)⟩,
  ⟨some 93, none, false, .call false (.c (.fn i_lease_Programme_after [] [])) [(.t 90), (.t 91), (.t 92)]⟩,
  ⟨some 2, none, false, .mv (.t 88)⟩,
  ⟨some 8, none, false, .mv (.t 93)⟩]

def f_lease_Drill_r21 : List Abs.Op := [
  ⟨some 94, none, false, .bin .add (.t 35) (.c (.int .i64 1))⟩,
  ⟨some 35, none, false, .mv (.t 94)⟩]

def f_lease_Drill_l22 : Abs.Cmd :=
  (.seq (.reg [2, 3, 4, 6, 7, 8, 34, 35, 36] f_lease_Drill_r10) (.seq (.ite (.t 36) .nop (.exit 0)) (.seq (.blk 1 (.seq (.reg [2, 3, 4, 6, 7, 8, 9, 34, 35] f_lease_Drill_r11) (.seq (.reg [2, 3, 4, 6, 7, 8, 9, 10, 34, 35] f_lease_Drill_r12) (.seq (.seq (.reg [2, 3, 4, 6, 7, 8, 9, 10, 34, 35, 44] f_lease_Drill_r13) (.ite (.t 44) (.reg [2, 3, 4, 6, 7, 8, 9, 10, 34, 35] f_lease_Drill_r14) .nop)) (.seq (.reg [2, 3, 4, 6, 7, 8, 9, 10, 11, 34, 35] f_lease_Drill_r15) (.seq (.reg [2, 3, 4, 6, 7, 8, 9, 10, 11, 12, 34, 35] f_lease_Drill_r16) (.seq (.blk 2 (.loop [2, 3, 4, 6, 7, 8, 9, 10, 11, 12, 34, 35] false f_lease_Drill_l19)) (.reg [2, 3, 4, 6, 7, 8, 34, 35] f_lease_Drill_r20)))))))) (.reg [2, 3, 4, 6, 7, 8, 34, 35] f_lease_Drill_r21))))

def f_lease_Drill_r23 : List Abs.Op := [
  ⟨some 95, none, false, .mv (.t 7)⟩,
  ⟨some 96, none, false, .lenS (.t 95)⟩,
  ⟨some 97, none, false, .mv (.c (.int .i64 0))⟩]

def f_lease_Drill_r24 : List Abs.Op := [
  ⟨some 98, none, false, .bin .lss (.t 97) (.t 96)⟩]

def f_lease_Drill_r25 : List Abs.Op := [
  ⟨some 99, none, false, .idxS 1 (.t 95) (.t 97)⟩,
  ⟨some 100, none, false, .ld false 1 (.t 99)⟩,
  ⟨some 14, none, false, .mv (.t 100)⟩]

def f_lease_Drill_r26 : List Abs.Op := [
  ⟨some 101, none, false, .mv (.t 4)⟩,
  ⟨some 102, none, false, .mv (.t 14)⟩,
  ⟨some 103, none, false, .bsi 1 1 [.nils] [(0, 1, (.t 102))]⟩,
  ⟨some 104, none, false, .app 1 24 (.t 101) (.t 103)⟩,
  ⟨some 4, none, false, .mv (.t 104)⟩]

def f_lease_Drill_r27 : List Abs.Op := [
  ⟨some 105, none, false, .bin .add (.t 97) (.c (.int .i64 1))⟩,
  ⟨some 97, none, false, .mv (.t 105)⟩]

def f_lease_Drill_l28 : Abs.Cmd :=
  (.seq (.reg [2, 3, 4, 95, 96, 97, 98] f_lease_Drill_r24) (.seq (.ite (.t 98) .nop (.exit 4)) (.seq (.blk 5 (.seq (.reg [2, 3, 4, 14, 95, 96, 97] f_lease_Drill_r25) (.reg [2, 3, 4, 95, 96, 97] f_lease_Drill_r26))) (.reg [2, 3, 4, 95, 96, 97] f_lease_Drill_r27))))

def f_lease_Drill_r29 : List Abs.Op := [
  ⟨some 106, none, false, .mv (.t 2)⟩,
  ⟨some 107, none, false, .mv (.t 3)⟩,
  ⟨some 108, none, false, .mv (.t 4)⟩,
  ⟨some 2, none, false, .mv (.t 106)⟩,
  ⟨some 3, none, false, .mv (.t 107)⟩,
  ⟨some 4, none, false, .mv (.t 108)⟩,
  ⟨some 5, none, false, .mv (.c (.int .i64 0))⟩]

def a_lease_Drill : Ann := ⟨[(26, [2, 3, 4, 5]), (25, [2, 3, 4, 95, 96, 97]), (24, [2, 3, 4, 95, 96, 97]), (23, [2, 3, 4, 14, 95, 96, 97]), (22, [2, 3, 4, 95, 96, 97, 98]), (21, [2, 3, 4, 95, 96, 97]), (20, [2, 3, 4, 6, 7, 8, 34, 35]), (19, [2, 3, 4, 6, 7, 8, 34, 35]), (18, [2, 3, 4, 6, 7, 8, 9, 10, 11, 12, 34, 35]), (17, [2, 3, 4, 6, 7, 8, 9, 10, 11, 12, 34, 35, 82]), (16, [2, 3, 4, 6, 7, 8, 9, 10, 11, 12, 34, 35]), (15, [2, 3, 4, 6, 7, 8, 9, 10, 11, 34, 35]), (14, [2, 3, 4, 6, 7, 8, 9, 10, 34, 35]), (13, [2, 3, 4, 6, 7, 8, 9, 10, 34, 35, 44]), (12, [2, 3, 4, 6, 7, 8, 9, 10, 34, 35]), (11, [2, 3, 4, 6, 7, 8, 9, 34, 35]), (10, [2, 3, 4, 6, 7, 8, 34, 35, 36]), (9, [2, 3, 4, 6, 7, 8, 34, 35]), (8, [1, 2, 3, 4, 6, 7, 8]), (7, [2, 3, 4, 5]), (6, [1, 2, 3, 4, 6, 7, 29]), (5, [1, 2, 3, 4, 6, 7]), (4, [1, 2, 4, 6, 7]), (3, [1, 2, 4, 6]), (2, [2, 3, 4, 5]), (1, [1, 2, 4, 17]), (0, [1, 2, 4])], [(4, [2, 3, 4, 95, 96, 97]), (2, [2, 3, 4, 6, 7, 8, 9, 10, 11, 12, 34, 35]), (0, [2, 3, 4, 6, 7, 8, 34, 35])], [], [2, 4, 6], [6], [], [], [], [], []⟩
def f_lease_Drill : Abs.Fn := ⟨1, [.t 2, .t 3, .t 4, .t 5],
  (.seq (.reg [1, 2, 4] f_lease_Drill_r0) (.seq (.seq (.reg [1, 2, 4, 17] f_lease_Drill_r1) (.ite (.t 17) (.seq (.reg [2, 3, 4, 5] f_lease_Drill_r2) .ret) .nop)) (.seq (.reg [1, 2, 4, 6] f_lease_Drill_r3) (.seq (.reg [1, 2, 4, 6, 7] f_lease_Drill_r4) (.seq (.reg [1, 2, 3, 4, 6, 7] f_lease_Drill_r5) (.seq (.seq (.reg [1, 2, 3, 4, 6, 7, 29] f_lease_Drill_r6) (.ite (.t 29) (.seq (.reg [2, 3, 4, 5] f_lease_Drill_r7) .ret) .nop)) (.seq (.reg [1, 2, 3, 4, 6, 7, 8] f_lease_Drill_r8) (.seq (.seq (.reg [2, 3, 4, 6, 7, 8, 34, 35] f_lease_Drill_r9) (.blk 0 (.loop [2, 3, 4, 6, 7, 8, 34, 35] false f_lease_Drill_l22))) (.seq (.seq (.reg [2, 3, 4, 95, 96, 97] f_lease_Drill_r23) (.blk 4 (.loop [2, 3, 4, 95, 96, 97] false f_lease_Drill_l28))) (.seq (.reg [2, 3, 4, 5] f_lease_Drill_r29) .ret))))))))))⟩

theorem e_lease_Drill_r0 : type_of% f_lease_Drill_r0.eq_1 := by_rfl f_lease_Drill_r0.eq_1
theorem e_lease_Drill_r1 : type_of% f_lease_Drill_r1.eq_1 := by_rfl f_lease_Drill_r1.eq_1
theorem e_lease_Drill_r2 : type_of% f_lease_Drill_r2.eq_1 := by_rfl f_lease_Drill_r2.eq_1
theorem e_lease_Drill_r3 : type_of% f_lease_Drill_r3.eq_1 := by_rfl f_lease_Drill_r3.eq_1
theorem e_lease_Drill_r4 : type_of% f_lease_Drill_r4.eq_1 := by_rfl f_lease_Drill_r4.eq_1
theorem e_lease_Drill_r5 : type_of% f_lease_Drill_r5.eq_1 := by_rfl f_lease_Drill_r5.eq_1
theorem e_lease_Drill_r6 : type_of% f_lease_Drill_r6.eq_1 := by_rfl f_lease_Drill_r6.eq_1
theorem e_lease_Drill_r7 : type_of% f_lease_Drill_r7.eq_1 := by_rfl f_lease_Drill_r7.eq_1
theorem e_lease_Drill_r8 : type_of% f_lease_Drill_r8.eq_1 := by_rfl f_lease_Drill_r8.eq_1
theorem e_lease_Drill_r9 : type_of% f_lease_Drill_r9.eq_1 := by_rfl f_lease_Drill_r9.eq_1
theorem e_lease_Drill_r10 : type_of% f_lease_Drill_r10.eq_1 := by_rfl f_lease_Drill_r10.eq_1
theorem e_lease_Drill_r11 : type_of% f_lease_Drill_r11.eq_1 := by_rfl f_lease_Drill_r11.eq_1
theorem e_lease_Drill_r12 : type_of% f_lease_Drill_r12.eq_1 := by_rfl f_lease_Drill_r12.eq_1
theorem e_lease_Drill_r13 : type_of% f_lease_Drill_r13.eq_1 := by_rfl f_lease_Drill_r13.eq_1
theorem e_lease_Drill_r14 : type_of% f_lease_Drill_r14.eq_1 := by_rfl f_lease_Drill_r14.eq_1
theorem e_lease_Drill_r15 : type_of% f_lease_Drill_r15.eq_1 := by_rfl f_lease_Drill_r15.eq_1
theorem e_lease_Drill_r16 : type_of% f_lease_Drill_r16.eq_1 := by_rfl f_lease_Drill_r16.eq_1
theorem e_lease_Drill_r17 : type_of% f_lease_Drill_r17.eq_1 := by_rfl f_lease_Drill_r17.eq_1
theorem e_lease_Drill_r18 : type_of% f_lease_Drill_r18.eq_1 := by_rfl f_lease_Drill_r18.eq_1
theorem e_lease_Drill_l19 : type_of% f_lease_Drill_l19.eq_1 := by_rfl f_lease_Drill_l19.eq_1
theorem e_lease_Drill_r20 : type_of% f_lease_Drill_r20.eq_1 := by_rfl f_lease_Drill_r20.eq_1
theorem e_lease_Drill_r21 : type_of% f_lease_Drill_r21.eq_1 := by_rfl f_lease_Drill_r21.eq_1
theorem e_lease_Drill_l22 : type_of% f_lease_Drill_l22.eq_1 := by_rfl f_lease_Drill_l22.eq_1
theorem e_lease_Drill_r23 : type_of% f_lease_Drill_r23.eq_1 := by_rfl f_lease_Drill_r23.eq_1
theorem e_lease_Drill_r24 : type_of% f_lease_Drill_r24.eq_1 := by_rfl f_lease_Drill_r24.eq_1
theorem e_lease_Drill_r25 : type_of% f_lease_Drill_r25.eq_1 := by_rfl f_lease_Drill_r25.eq_1
theorem e_lease_Drill_r26 : type_of% f_lease_Drill_r26.eq_1 := by_rfl f_lease_Drill_r26.eq_1
theorem e_lease_Drill_r27 : type_of% f_lease_Drill_r27.eq_1 := by_rfl f_lease_Drill_r27.eq_1
theorem e_lease_Drill_l28 : type_of% f_lease_Drill_l28.eq_1 := by_rfl f_lease_Drill_l28.eq_1
theorem e_lease_Drill_r29 : type_of% f_lease_Drill_r29.eq_1 := by_rfl f_lease_Drill_r29.eq_1
theorem e_lease_Drill : type_of% f_lease_Drill.eq_1 := by_rfl f_lease_Drill.eq_1
theorem ok_lease_Drill : fnC Tryz.prog a_lease_Drill Tryz.f12 = some f_lease_Drill := by kernel_rfl

/-! 15 fumarole/fumarolelaw11.ints -/
def f_law11_ints_r0 : List Abs.Op := [
  ⟨some 4, none, false, .mv (.c (.bool false))⟩]

def f_law11_ints_r1 : List Abs.Op := [
  ⟨some 6, none, false, .mv (.t 0)⟩,
  ⟨some 7, none, false, .lenS (.t 6)⟩,
  ⟨some 8, none, false, .mv (.t 1)⟩,
  ⟨some 9, none, false, .lenS (.t 8)⟩,
  ⟨some 10, none, false, .bin .neq (.t 7) (.t 9)⟩]

def f_law11_ints_r2 : List Abs.Op := [
  ⟨some 4, none, false, .mv (.c (.bool false))⟩]

def f_law11_ints_r3 : List Abs.Op := [
  ⟨some 5, none, false, .mv (.c (.int .i64 0))⟩]

def f_law11_ints_r4 : List Abs.Op := [
  ⟨some 11, none, false, .mv (.t 5)⟩,
  ⟨some 12, none, false, .mv (.t 0)⟩,
  ⟨some 13, none, false, .lenS (.t 12)⟩,
  ⟨some 14, none, false, .bin .lss (.t 11) (.t 13)⟩]

def f_law11_ints_r5 : List Abs.Op := [
  ⟨some 17, none, true, .mv (.t 0)⟩,
  ⟨some 18, none, true, .mv (.t 5)⟩,
  ⟨some 19, none, true, .idxS 1 (.t 17) (.t 18)⟩,
  ⟨some 20, none, true, .ld false 1 (.t 19)⟩,
  ⟨some 21, none, true, .mv (.t 1)⟩,
  ⟨some 22, none, true, .mv (.t 5)⟩,
  ⟨some 23, none, true, .idxS 1 (.t 21) (.t 22)⟩,
  ⟨some 24, none, true, .ld false 1 (.t 23)⟩,
  ⟨some 25, none, false, .bin .neq (.t 20) (.t 24)⟩]

def f_law11_ints_r6 : List Abs.Op := [
  ⟨some 4, none, false, .mv (.c (.bool false))⟩]

def f_law11_ints_r7 : List Abs.Op := [
  ⟨some 15, none, false, .mv (.t 5)⟩,
  ⟨some 16, none, false, .bin .add (.t 15) (.c (.int .i64 1))⟩,
  ⟨some 5, none, false, .mv (.t 16)⟩]

def f_law11_ints_l8 : Abs.Cmd :=
  (.seq (.seq (.reg [0, 1, 5, 14] f_law11_ints_r4) (.ite (.t 14) .nop (.exit 0))) (.seq (.blk 1 (.seq (.reg [0, 1, 5, 25] f_law11_ints_r5) (.ite (.t 25) (.seq (.reg [4] f_law11_ints_r6) .ret) .nop))) (.reg [0, 1, 5] f_law11_ints_r7)))

def f_law11_ints_r9 : List Abs.Op := [
  ⟨some 4, none, false, .mv (.c (.bool true))⟩]

def a_law11_ints : Ann := ⟨[(8, [4]), (5, [0, 1, 5]), (7, [4]), (6, [0, 1, 5, 25]), (4, [0, 1, 5, 14]), (3, [0, 1, 5]), (2, [4]), (1, [0, 1, 10]), (0, [0, 1])], [(0, [0, 1, 5])], [], [], [], [], [], [], [], []⟩
def f_law11_ints : Abs.Fn := ⟨2, [.t 4],
  (.seq (.reg [0, 1] f_law11_ints_r0) (.seq (.seq (.reg [0, 1, 10] f_law11_ints_r1) (.ite (.t 10) (.seq (.reg [4] f_law11_ints_r2) .ret) .nop)) (.seq (.seq (.reg [0, 1, 5] f_law11_ints_r3) (.blk 0 (.loop [0, 1, 5] false f_law11_ints_l8))) (.seq (.reg [4] f_law11_ints_r9) .ret))))⟩

theorem e_law11_ints_r0 : type_of% f_law11_ints_r0.eq_1 := by_rfl f_law11_ints_r0.eq_1
theorem e_law11_ints_r1 : type_of% f_law11_ints_r1.eq_1 := by_rfl f_law11_ints_r1.eq_1
theorem e_law11_ints_r2 : type_of% f_law11_ints_r2.eq_1 := by_rfl f_law11_ints_r2.eq_1
theorem e_law11_ints_r3 : type_of% f_law11_ints_r3.eq_1 := by_rfl f_law11_ints_r3.eq_1
theorem e_law11_ints_r4 : type_of% f_law11_ints_r4.eq_1 := by_rfl f_law11_ints_r4.eq_1
theorem e_law11_ints_r5 : type_of% f_law11_ints_r5.eq_1 := by_rfl f_law11_ints_r5.eq_1
theorem e_law11_ints_r6 : type_of% f_law11_ints_r6.eq_1 := by_rfl f_law11_ints_r6.eq_1
theorem e_law11_ints_r7 : type_of% f_law11_ints_r7.eq_1 := by_rfl f_law11_ints_r7.eq_1
theorem e_law11_ints_l8 : type_of% f_law11_ints_l8.eq_1 := by_rfl f_law11_ints_l8.eq_1
theorem e_law11_ints_r9 : type_of% f_law11_ints_r9.eq_1 := by_rfl f_law11_ints_r9.eq_1
theorem e_law11_ints : type_of% f_law11_ints.eq_1 := by_rfl f_law11_ints.eq_1
theorem ok_law11_ints : fnC Tryz.prog a_law11_ints Tryz.f15 = some f_law11_ints := by kernel_rfl

/-! 20 fumarole/lease.Behind -/
def f_lease_Behind_r0 : List Abs.Op := [
  ⟨some 4, none, false, .mv (.c .nils)⟩,
  ⟨some 5, none, false, .mv (.c (.int .i64 0))⟩]

def f_lease_Behind_r1 : List Abs.Op := [
  ⟨some 10, none, false, .mv (.t 0)⟩,
  ⟨some 11, none, false, .mv (.t 1)⟩,
  ⟨some 12, none, false, .call false (.c (.fn i_lease_taking [] [])) [(.t 10), (.t 11)]⟩,
  ⟨some 6, none, false, .mv (.t 12)⟩]

def f_lease_Behind_r2 : List Abs.Op := [
  ⟨some 13, none, false, .mv (.t 6)⟩,
  ⟨some 14, none, false, .bin .neq (.t 13) (.c (.int .i64 0))⟩]

def f_lease_Behind_r3 : List Abs.Op := [
  ⟨some 15, none, false, .mv (.t 6)⟩,
  ⟨some 4, none, false, .mv (.c .nils)⟩,
  ⟨some 5, none, false, .mv (.t 15)⟩]

def f_lease_Behind_r4 : List Abs.Op := [
  ⟨some 7, none, false, .nilb 2⟩]

def f_lease_Behind_r5 : List Abs.Op := [
  ⟨some 16, none, false, .mv (.t 0)⟩,
  ⟨some 17, none, false, .lenS (.t 16)⟩,
  ⟨some 18, none, false, .mv (.c (.int .i64 0))⟩]

def f_lease_Behind_r6 : List Abs.Op := [
  ⟨some 19, none, false, .bin .lss (.t 18) (.t 17)⟩]

def f_lease_Behind_r7 : List Abs.Op := [
  ⟨some 20, none, false, .idxS 3 (.t 16) (.t 18)⟩,
  ⟨some 21, none, false, .ld true 3 (.t 20)⟩,
  ⟨some 9, none, false, .alcv [] [(.int .i64 0), (.int .i64 0), .nils]⟩,
  ⟨none, none, false, .stv 9 [] 3 9 (.t 21)⟩]

def f_lease_Behind_r8 : List Abs.Op := [
  ⟨some 22, none, false, .mv (.t 7)⟩,
  ⟨some 23, none, false, .ldv 9 true 3 9⟩,
  ⟨some 24, none, false, .mv (.t 1)⟩,
  ⟨some 25, none, false, .call false (.c (.fn i_lease_Spring_behind [] [])) [(.t 23), (.t 24)]⟩,
  ⟨some 26, none, false, .bsi 1 2 [(.int .i64 0), (.int .i64 0)] [(0, 2, (.t 25))]⟩,
  ⟨some 27, none, false, .app 2 16 (.t 22) (.t 26)⟩,
  ⟨some 7, none, false, .mv (.t 27)⟩]

def f_lease_Behind_r9 : List Abs.Op := [
  ⟨some 28, none, false, .bin .add (.t 18) (.c (.int .i64 1))⟩,
  ⟨some 18, none, false, .mv (.t 28)⟩]

def f_lease_Behind_l10 : Abs.Cmd :=
  (.seq (.reg [1, 7, 16, 17, 18, 19] f_lease_Behind_r6) (.seq (.ite (.t 19) .nop (.exit 0)) (.seq (.blk 1 (.seq (.reg [1, 7, 9, 16, 17, 18] f_lease_Behind_r7) (.reg [1, 7, 16, 17, 18] f_lease_Behind_r8))) (.reg [1, 7, 16, 17, 18] f_lease_Behind_r9))))

def f_lease_Behind_r11 : List Abs.Op := [
  ⟨some 29, none, false, .mv (.t 7)⟩,
  ⟨some 4, none, false, .mv (.t 29)⟩,
  ⟨some 5, none, false, .mv (.c (.int .i64 0))⟩]

def a_lease_Behind : Ann := ⟨[(10, [4, 5]), (9, [1, 7, 16, 17, 18]), (8, [1, 7, 16, 17, 18]), (7, [1, 7, 9, 16, 17, 18]), (6, [1, 7, 16, 17, 18, 19]), (5, [1, 7, 16, 17, 18]), (4, [0, 1, 7]), (3, [4, 5]), (2, [0, 1, 6, 14]), (1, [0, 1, 6]), (0, [0, 1])], [(0, [1, 7, 16, 17, 18])], [], [7, 9], [9], [], [], [], [], []⟩
def f_lease_Behind : Abs.Fn := ⟨2, [.t 4, .t 5],
  (.seq (.reg [0, 1] f_lease_Behind_r0) (.seq (.seq (.reg [0, 1, 6] f_lease_Behind_r1) (.seq (.reg [0, 1, 6, 14] f_lease_Behind_r2) (.ite (.t 14) (.seq (.reg [4, 5] f_lease_Behind_r3) .ret) .nop))) (.seq (.reg [0, 1, 7] f_lease_Behind_r4) (.seq (.seq (.reg [1, 7, 16, 17, 18] f_lease_Behind_r5) (.blk 0 (.loop [1, 7, 16, 17, 18] false f_lease_Behind_l10))) (.seq (.reg [4, 5] f_lease_Behind_r11) .ret)))))⟩

theorem e_lease_Behind_r0 : type_of% f_lease_Behind_r0.eq_1 := by_rfl f_lease_Behind_r0.eq_1
theorem e_lease_Behind_r1 : type_of% f_lease_Behind_r1.eq_1 := by_rfl f_lease_Behind_r1.eq_1
theorem e_lease_Behind_r2 : type_of% f_lease_Behind_r2.eq_1 := by_rfl f_lease_Behind_r2.eq_1
theorem e_lease_Behind_r3 : type_of% f_lease_Behind_r3.eq_1 := by_rfl f_lease_Behind_r3.eq_1
theorem e_lease_Behind_r4 : type_of% f_lease_Behind_r4.eq_1 := by_rfl f_lease_Behind_r4.eq_1
theorem e_lease_Behind_r5 : type_of% f_lease_Behind_r5.eq_1 := by_rfl f_lease_Behind_r5.eq_1
theorem e_lease_Behind_r6 : type_of% f_lease_Behind_r6.eq_1 := by_rfl f_lease_Behind_r6.eq_1
theorem e_lease_Behind_r7 : type_of% f_lease_Behind_r7.eq_1 := by_rfl f_lease_Behind_r7.eq_1
theorem e_lease_Behind_r8 : type_of% f_lease_Behind_r8.eq_1 := by_rfl f_lease_Behind_r8.eq_1
theorem e_lease_Behind_r9 : type_of% f_lease_Behind_r9.eq_1 := by_rfl f_lease_Behind_r9.eq_1
theorem e_lease_Behind_l10 : type_of% f_lease_Behind_l10.eq_1 := by_rfl f_lease_Behind_l10.eq_1
theorem e_lease_Behind_r11 : type_of% f_lease_Behind_r11.eq_1 := by_rfl f_lease_Behind_r11.eq_1
theorem e_lease_Behind : type_of% f_lease_Behind.eq_1 := by_rfl f_lease_Behind.eq_1
theorem ok_lease_Behind : fnC Tryz.prog a_lease_Behind Tryz.f20 = some f_lease_Behind := by kernel_rfl

/-! 24 fumarole/lease.Room -/
def f_lease_Room_r0 : List Abs.Op := [
  ⟨some 6, none, false, .mv (.c (.int .i64 0))⟩,
  ⟨some 7, none, false, .mv (.c (.int .i64 0))⟩]

def f_lease_Room_r1 : List Abs.Op := [
  ⟨some 14, none, false, .mv (.t 0)⟩,
  ⟨some 15, none, false, .mv (.t 1)⟩,
  ⟨some 16, none, false, .call false (.c (.fn i_lease_taking [] [])) [(.t 14), (.t 15)]⟩,
  ⟨some 8, none, false, .mv (.t 16)⟩]

def f_lease_Room_r2 : List Abs.Op := [
  ⟨some 17, none, false, .mv (.t 8)⟩,
  ⟨some 18, none, false, .bin .neq (.t 17) (.c (.int .i64 0))⟩]

def f_lease_Room_r3 : List Abs.Op := [
  ⟨some 19, none, false, .mv (.t 8)⟩,
  ⟨some 6, none, false, .mv (.c (.int .i64 0))⟩,
  ⟨some 7, none, false, .mv (.t 19)⟩]

def f_lease_Room_r4 : List Abs.Op := [
  ⟨some 20, none, false, .mv (.t 2)⟩,
  ⟨some 21, none, false, .mv (.t 1)⟩,
  ⟨some 22, none, false, .lenS (.t 21)⟩,
  ⟨some 23, none, false, .bin .sub (.t 22) (.c (.int .i64 1))⟩,
  ⟨some 24, none, false, .call false (.c (.fn i_lease_within [] [])) [(.t 20), (.c (.int .i64 0)), (.t 23)]⟩,
  ⟨some 25, none, false, .un .not (.t 24)⟩]

def f_lease_Room_r5 : List Abs.Op := [
  ⟨some 6, none, false, .mv (.c (.int .i64 0))⟩,
  ⟨some 7, none, false, .mv (.c (.int .i64 2))⟩]

def f_lease_Room_r6 : List Abs.Op := [
  ⟨some 26, none, false, .mv (.t 1)⟩,
  ⟨some 27, none, false, .mv (.t 2)⟩,
  ⟨some 28, none, false, .idxS 1 (.t 26) (.t 27)⟩,
  ⟨some 29, none, false, .ld false 1 (.t 28)⟩,
  ⟨some 30, none, false, .bin .sub (.c (.int .i64 1000000)) (.t 29)⟩,
  ⟨some 9, none, false, .mv (.t 30)⟩]

def f_lease_Room_r7 : List Abs.Op := [
  ⟨some 31, none, false, .mv (.t 0)⟩,
  ⟨some 32, none, false, .lenS (.t 31)⟩,
  ⟨some 33, none, false, .mv (.c (.int .i64 0))⟩]

def f_lease_Room_r8 : List Abs.Op := [
  ⟨some 34, none, false, .bin .lss (.t 33) (.t 32)⟩]

def f_lease_Room_r9 : List Abs.Op := [
  ⟨some 35, none, false, .idxS 3 (.t 31) (.t 33)⟩,
  ⟨some 36, none, false, .ld true 3 (.t 35)⟩,
  ⟨some 11, none, false, .alcv [] [(.int .i64 0), (.int .i64 0), .nils]⟩,
  ⟨none, none, false, .stv 11 [] 3 11 (.t 36)⟩]

def f_lease_Room_r10 : List Abs.Op := [
  ⟨some 37, none, true, .ldv 11 true 3 11⟩,
  ⟨some 38, none, true, .mv (.t 1)⟩,
  ⟨some 39, none, true, .call false (.c (.fn i_lease_Spring_behind [] [])) [(.t 37), (.t 38)]⟩,
  ⟨some 40, none, true, .fld false 0 1 (.t 39)⟩,
  ⟨some 41, none, true, .fadr 1 (.t 11)⟩,
  ⟨some 42, none, true, .ldv 11 false 1 41⟩,
  ⟨some 43, none, true, .bin .mul (.c (.int .i64 1000)) (.t 42)⟩,
  ⟨some 44, none, false, .bin .sub (.t 40) (.t 43)⟩,
  ⟨some 12, none, false, .mv (.t 44)⟩]

def f_lease_Room_r11 : List Abs.Op := [
  ⟨some 45, none, false, .mv (.t 12)⟩,
  ⟨some 46, none, false, .bin .lss (.t 45) (.c (.int .i64 0))⟩]

def f_lease_Room_r12 : List Abs.Op := [
  ⟨some 6, none, false, .mv (.c (.int .i64 0))⟩,
  ⟨some 7, none, false, .mv (.c (.int .i64 9))⟩]

def f_lease_Room_r13 : List Abs.Op := [
  ⟨some 47, none, false, .fadr 2 (.t 11)⟩,
  ⟨some 48, none, false, .ldv 11 false 1 47⟩,
  ⟨some 49, none, false, .mv (.t 2)⟩,
  ⟨some 50, none, false, .idxS 2 (.t 48) (.t 49)⟩,
  ⟨some 51, none, false, .fadr 1 (.t 50)⟩,
  ⟨some 52, none, false, .ld false 1 (.t 51)⟩,
  ⟨some 13, none, false, .mv (.t 52)⟩]

def f_lease_Room_r14 : List Abs.Op := [
  ⟨some 53, none, false, .mv (.t 13)⟩,
  ⟨some 54, none, false, .bin .gtr (.t 53) (.c (.int .i64 0))⟩]

def f_lease_Room_r15 : List Abs.Op := [
  ⟨some 55, none, false, .mv (.t 9)⟩,
  ⟨some 56, none, false, .mv (.t 12)⟩,
  ⟨some 57, none, false, .mv (.t 13)⟩,
  ⟨some 58, none, false, .bin .quo (.t 56) (.t 57)⟩,
  ⟨some 59, none, false, .mn (.t 55) (.t 58)⟩,
  ⟨some 9, none, false, .mv (.t 59)⟩]

def f_lease_Room_r16 : List Abs.Op := [
  ⟨some 60, none, false, .bin .add (.t 33) (.c (.int .i64 1))⟩,
  ⟨some 33, none, false, .mv (.t 60)⟩]

def f_lease_Room_l17 : Abs.Cmd :=
  (.seq (.reg [1, 2, 9, 31, 32, 33, 34] f_lease_Room_r8) (.seq (.ite (.t 34) .nop (.exit 0)) (.seq (.blk 1 (.seq (.reg [1, 2, 9, 11, 31, 32, 33] f_lease_Room_r9) (.seq (.reg [1, 2, 9, 11, 12, 31, 32, 33] f_lease_Room_r10) (.seq (.seq (.reg [1, 2, 9, 11, 12, 31, 32, 33, 46] f_lease_Room_r11) (.ite (.t 46) (.seq (.reg [6, 7] f_lease_Room_r12) .ret) .nop)) (.seq (.reg [1, 2, 9, 12, 13, 31, 32, 33] f_lease_Room_r13) (.seq (.reg [1, 2, 9, 12, 13, 31, 32, 33, 54] f_lease_Room_r14) (.ite (.t 54) (.reg [1, 2, 9, 31, 32, 33] f_lease_Room_r15) .nop))))))) (.reg [1, 2, 9, 31, 32, 33] f_lease_Room_r16))))

def f_lease_Room_r18 : List Abs.Op := [
  ⟨some 61, none, false, .mv (.t 9)⟩,
  ⟨some 6, none, false, .mv (.t 61)⟩,
  ⟨some 7, none, false, .mv (.c (.int .i64 0))⟩]

def a_lease_Room : Ann := ⟨[(17, [6, 7]), (16, [1, 2, 9, 31, 32, 33]), (15, [1, 2, 9, 31, 32, 33]), (14, [1, 2, 9, 12, 13, 31, 32, 33, 54]), (13, [1, 2, 9, 12, 13, 31, 32, 33]), (12, [6, 7]), (11, [1, 2, 9, 11, 12, 31, 32, 33, 46]), (10, [1, 2, 9, 11, 12, 31, 32, 33]), (9, [1, 2, 9, 11, 31, 32, 33]), (8, [1, 2, 9, 31, 32, 33, 34]), (7, [1, 2, 9, 31, 32, 33]), (6, [0, 1, 2, 9]), (5, [6, 7]), (4, [0, 1, 2, 25]), (3, [6, 7]), (2, [0, 1, 2, 8, 18]), (1, [0, 1, 2, 8]), (0, [0, 1, 2])], [(0, [1, 2, 9, 31, 32, 33])], [], [11], [11], [], [], [], [], []⟩
def f_lease_Room : Abs.Fn := ⟨3, [.t 6, .t 7],
  (.seq (.reg [0, 1, 2] f_lease_Room_r0) (.seq (.seq (.reg [0, 1, 2, 8] f_lease_Room_r1) (.seq (.reg [0, 1, 2, 8, 18] f_lease_Room_r2) (.ite (.t 18) (.seq (.reg [6, 7] f_lease_Room_r3) .ret) .nop))) (.seq (.seq (.reg [0, 1, 2, 25] f_lease_Room_r4) (.ite (.t 25) (.seq (.reg [6, 7] f_lease_Room_r5) .ret) .nop)) (.seq (.reg [0, 1, 2, 9] f_lease_Room_r6) (.seq (.seq (.reg [1, 2, 9, 31, 32, 33] f_lease_Room_r7) (.blk 0 (.loop [1, 2, 9, 31, 32, 33] false f_lease_Room_l17))) (.seq (.reg [6, 7] f_lease_Room_r18) .ret))))))⟩

theorem e_lease_Room_r0 : type_of% f_lease_Room_r0.eq_1 := by_rfl f_lease_Room_r0.eq_1
theorem e_lease_Room_r1 : type_of% f_lease_Room_r1.eq_1 := by_rfl f_lease_Room_r1.eq_1
theorem e_lease_Room_r2 : type_of% f_lease_Room_r2.eq_1 := by_rfl f_lease_Room_r2.eq_1
theorem e_lease_Room_r3 : type_of% f_lease_Room_r3.eq_1 := by_rfl f_lease_Room_r3.eq_1
theorem e_lease_Room_r4 : type_of% f_lease_Room_r4.eq_1 := by_rfl f_lease_Room_r4.eq_1
theorem e_lease_Room_r5 : type_of% f_lease_Room_r5.eq_1 := by_rfl f_lease_Room_r5.eq_1
theorem e_lease_Room_r6 : type_of% f_lease_Room_r6.eq_1 := by_rfl f_lease_Room_r6.eq_1
theorem e_lease_Room_r7 : type_of% f_lease_Room_r7.eq_1 := by_rfl f_lease_Room_r7.eq_1
theorem e_lease_Room_r8 : type_of% f_lease_Room_r8.eq_1 := by_rfl f_lease_Room_r8.eq_1
theorem e_lease_Room_r9 : type_of% f_lease_Room_r9.eq_1 := by_rfl f_lease_Room_r9.eq_1
theorem e_lease_Room_r10 : type_of% f_lease_Room_r10.eq_1 := by_rfl f_lease_Room_r10.eq_1
theorem e_lease_Room_r11 : type_of% f_lease_Room_r11.eq_1 := by_rfl f_lease_Room_r11.eq_1
theorem e_lease_Room_r12 : type_of% f_lease_Room_r12.eq_1 := by_rfl f_lease_Room_r12.eq_1
theorem e_lease_Room_r13 : type_of% f_lease_Room_r13.eq_1 := by_rfl f_lease_Room_r13.eq_1
theorem e_lease_Room_r14 : type_of% f_lease_Room_r14.eq_1 := by_rfl f_lease_Room_r14.eq_1
theorem e_lease_Room_r15 : type_of% f_lease_Room_r15.eq_1 := by_rfl f_lease_Room_r15.eq_1
theorem e_lease_Room_r16 : type_of% f_lease_Room_r16.eq_1 := by_rfl f_lease_Room_r16.eq_1
theorem e_lease_Room_l17 : type_of% f_lease_Room_l17.eq_1 := by_rfl f_lease_Room_l17.eq_1
theorem e_lease_Room_r18 : type_of% f_lease_Room_r18.eq_1 := by_rfl f_lease_Room_r18.eq_1
theorem e_lease_Room : type_of% f_lease_Room.eq_1 := by_rfl f_lease_Room.eq_1
theorem ok_lease_Room : fnC Tryz.prog a_lease_Room Tryz.f24 = some f_lease_Room := by kernel_rfl

/-! 27 fumarole/lease.CheckSprings -/
def f_lease_CheckSprings_r0 : List Abs.Op := [
  ⟨some 2, none, false, .mv (.c (.int .i64 0))⟩]

def f_lease_CheckSprings_r1 : List Abs.Op := [
  ⟨some 3, none, false, .mv (.t 0)⟩,
  ⟨some 4, none, false, .call false (.c (.fn i_lease_springs [] [])) [(.t 3)]⟩,
  ⟨some 5, none, false, .un .not (.t 4)⟩]

def f_lease_CheckSprings_r2 : List Abs.Op := [
  ⟨some 2, none, false, .mv (.c (.int .i64 1))⟩]

def f_lease_CheckSprings_r3 : List Abs.Op := [
  ⟨some 2, none, false, .mv (.c (.int .i64 0))⟩]

def a_lease_CheckSprings : Ann := ⟨[(3, [2]), (2, [2]), (1, [5]), (0, [0])], [], [], [], [], [], [], [], [], []⟩
def f_lease_CheckSprings : Abs.Fn := ⟨1, [.t 2],
  (.seq (.reg [0] f_lease_CheckSprings_r0) (.seq (.seq (.reg [5] f_lease_CheckSprings_r1) (.ite (.t 5) (.seq (.reg [2] f_lease_CheckSprings_r2) .ret) .nop)) (.seq (.reg [2] f_lease_CheckSprings_r3) .ret)))⟩

theorem e_lease_CheckSprings_r0 : type_of% f_lease_CheckSprings_r0.eq_1 := by_rfl f_lease_CheckSprings_r0.eq_1
theorem e_lease_CheckSprings_r1 : type_of% f_lease_CheckSprings_r1.eq_1 := by_rfl f_lease_CheckSprings_r1.eq_1
theorem e_lease_CheckSprings_r2 : type_of% f_lease_CheckSprings_r2.eq_1 := by_rfl f_lease_CheckSprings_r2.eq_1
theorem e_lease_CheckSprings_r3 : type_of% f_lease_CheckSprings_r3.eq_1 := by_rfl f_lease_CheckSprings_r3.eq_1
theorem e_lease_CheckSprings : type_of% f_lease_CheckSprings.eq_1 := by_rfl f_lease_CheckSprings.eq_1
theorem ok_lease_CheckSprings : fnC Tryz.prog a_lease_CheckSprings Tryz.f27 = some f_lease_CheckSprings := by kernel_rfl

/-! 30 fumarole/lease.Due -/
def f_lease_Due_r0 : List Abs.Op := [
  ⟨some 2, none, false, .boxi (.t 0)⟩,
  ⟨some 4, none, false, .mv (.c .nils)⟩,
  ⟨some 5, none, false, .mv (.c (.int .i64 0))⟩,
  ⟨some 6, none, false, .mv (.c (.int .i64 0))⟩]

def f_lease_Due_r1 : List Abs.Op := [
  ⟨some 8, none, false, .ld true 2 (.t 2)⟩,
  ⟨some 9, none, false, .call false (.c (.fn i_lease_Concession_valid [] [])) [(.t 8)]⟩,
  ⟨some 10, none, false, .un .not (.t 9)⟩,
  ⟨some 7, none, false, .mv (.t 10)⟩]

def f_lease_Due_r2 : List Abs.Op := [
  ⟨some 4, none, false, .mv (.c .nils)⟩,
  ⟨some 5, none, false, .mv (.c (.int .i64 0))⟩,
  ⟨some 6, none, false, .mv (.c (.int .i64 1))⟩]

def f_lease_Due_r3 : List Abs.Op := [
  ⟨some 12, none, false, .ld true 2 (.t 2)⟩,
  ⟨some 13, none, false, .mv (.t 1)⟩,
  ⟨some 14, none, false, .call false (.c (.fn i_lease_Concession_masses [] [])) [(.t 12), (.t 13)]⟩,
  ⟨some 15, none, false, .un .not (.t 14)⟩,
  ⟨some 11, none, false, .mv (.t 15)⟩]

def f_lease_Due_r4 : List Abs.Op := [
  ⟨some 4, none, false, .mv (.c .nils)⟩,
  ⟨some 5, none, false, .mv (.c (.int .i64 0))⟩,
  ⟨some 6, none, false, .mv (.c (.int .i64 2))⟩]

def f_lease_Due_r5 : List Abs.Op := [
  ⟨some 17, none, false, .ld true 2 (.t 2)⟩,
  ⟨some 18, none, false, .mv (.t 1)⟩,
  ⟨some 19, none, false, .call false (.c (.fn i_lease_Concession_due [] [])) [(.t 17), (.t 18)]⟩,
  ⟨some 16, none, false, .mv (.t 19)⟩,
  ⟨some 20, none, false, .ext (.t 16) 0⟩,
  ⟨some 21, none, false, .ext (.t 16) 1⟩,
  ⟨some 4, none, false, .mv (.t 20)⟩,
  ⟨some 5, none, false, .mv (.t 21)⟩]

def f_lease_Due_r6 : List Abs.Op := [
  ⟨some 22, none, false, .mv (.t 4)⟩,
  ⟨some 23, none, false, .mv (.t 5)⟩,
  ⟨some 4, none, false, .mv (.t 22)⟩,
  ⟨some 5, none, false, .mv (.t 23)⟩,
  ⟨some 6, none, false, .mv (.c (.int .i64 0))⟩]

def a_lease_Due : Ann := ⟨[(6, [4, 5, 6]), (5, [4, 5]), (2, [4, 5, 6]), (4, [4, 5, 6]), (3, [1, 2, 11]), (1, [1, 2, 7]), (0, [1, 2])], [], [], [], [], [], [], [], [], []⟩
def f_lease_Due : Abs.Fn := ⟨2, [.t 4, .t 5, .t 6],
  (.seq (.reg [1, 2] f_lease_Due_r0) (.seq (.blk 0 (.seq (.reg [1, 2, 7] f_lease_Due_r1) (.ite (.t 7) (.seq (.reg [4, 5, 6] f_lease_Due_r2) .ret) (.seq (.reg [1, 2, 11] f_lease_Due_r3) (.ite (.t 11) (.seq (.reg [4, 5, 6] f_lease_Due_r4) .ret) .nop))))) (.seq (.reg [4, 5] f_lease_Due_r5) (.seq (.reg [4, 5, 6] f_lease_Due_r6) .ret))))⟩

theorem e_lease_Due_r0 : type_of% f_lease_Due_r0.eq_1 := by_rfl f_lease_Due_r0.eq_1
theorem e_lease_Due_r1 : type_of% f_lease_Due_r1.eq_1 := by_rfl f_lease_Due_r1.eq_1
theorem e_lease_Due_r2 : type_of% f_lease_Due_r2.eq_1 := by_rfl f_lease_Due_r2.eq_1
theorem e_lease_Due_r3 : type_of% f_lease_Due_r3.eq_1 := by_rfl f_lease_Due_r3.eq_1
theorem e_lease_Due_r4 : type_of% f_lease_Due_r4.eq_1 := by_rfl f_lease_Due_r4.eq_1
theorem e_lease_Due_r5 : type_of% f_lease_Due_r5.eq_1 := by_rfl f_lease_Due_r5.eq_1
theorem e_lease_Due_r6 : type_of% f_lease_Due_r6.eq_1 := by_rfl f_lease_Due_r6.eq_1
theorem e_lease_Due : type_of% f_lease_Due.eq_1 := by_rfl f_lease_Due.eq_1
theorem ok_lease_Due : fnC Tryz.prog a_lease_Due Tryz.f30 = some f_lease_Due := by kernel_rfl

/-! 32 fumarole/lease.Divide -/
def f_lease_Divide_r0 : List Abs.Op := [
  ⟨some 3, none, false, .boxi (.t 0)⟩,
  ⟨some 6, none, false, .mv (.c .nils)⟩,
  ⟨some 7, none, false, .mv (.c (.int .i64 0))⟩,
  ⟨some 8, none, false, .mv (.c (.int .i64 0))⟩]

def f_lease_Divide_r1 : List Abs.Op := [
  ⟨some 15, none, false, .ld true 2 (.t 3)⟩,
  ⟨some 16, none, false, .call false (.c (.fn i_lease_Concession_valid [] [])) [(.t 15)]⟩,
  ⟨some 17, none, false, .un .not (.t 16)⟩,
  ⟨some 14, none, false, .mv (.t 17)⟩]

def f_lease_Divide_r2 : List Abs.Op := [
  ⟨some 6, none, false, .mv (.c .nils)⟩,
  ⟨some 7, none, false, .mv (.c (.int .i64 0))⟩,
  ⟨some 8, none, false, .mv (.c (.int .i64 1))⟩]

def f_lease_Divide_r3 : List Abs.Op := [
  ⟨some 19, none, false, .ld true 2 (.t 3)⟩,
  ⟨some 20, none, false, .mv (.t 1)⟩,
  ⟨some 21, none, false, .call false (.c (.fn i_lease_Concession_masses [] [])) [(.t 19), (.t 20)]⟩,
  ⟨some 22, none, false, .un .not (.t 21)⟩,
  ⟨some 23, none, false, .mv (.t 22)⟩,
  ⟨some 24, some (23, false), false, .ld true 2 (.t 3)⟩,
  ⟨some 25, some (23, false), false, .mv (.t 2)⟩,
  ⟨some 26, some (23, false), false, .call false (.c (.fn i_lease_Concession_masses [] [])) [(.t 24), (.t 25)]⟩,
  ⟨some 27, some (23, false), false, .un .not (.t 26)⟩,
  ⟨some 28, none, false, .pick (.t 23) (.c (.bool true)) (.t 27)⟩,
  ⟨some 18, none, false, .mv (.t 28)⟩]

def f_lease_Divide_r4 : List Abs.Op := [
  ⟨some 6, none, false, .mv (.c .nils)⟩,
  ⟨some 7, none, false, .mv (.c (.int .i64 0))⟩,
  ⟨some 8, none, false, .mv (.c (.int .i64 2))⟩]

def f_lease_Divide_r5 : List Abs.Op := [
  ⟨some 29, none, false, .mv (.t 1)⟩,
  ⟨some 30, none, false, .call true (.c (.fn i_slices_Clone_int [] [])) [(.t 29)]⟩,
  ⟨some 9, none, false, .mv (.t 30)⟩]

def f_lease_Divide_r6 : List Abs.Op := [
  ⟨some 31, none, false, .mv (.t 9)⟩,
  ⟨some 32, none, false, .lenS (.t 31)⟩,
  ⟨some 33, none, false, .mv (.c (.int .i64 0))⟩]

def f_lease_Divide_r7 : List Abs.Op := [
  ⟨some 34, none, false, .bin .lss (.t 33) (.t 32)⟩]

def f_lease_Divide_r8 : List Abs.Op := [
  ⟨some 35, none, false, .mv (.t 33)⟩,
  ⟨some 10, none, false, .mv (.t 35)⟩]

def f_lease_Divide_r9 : List Abs.Op := [
  ⟨some 36, none, true, .mv (.t 9)⟩,
  ⟨some 37, none, true, .mv (.t 10)⟩,
  ⟨some 38, none, true, .idxS 1 (.t 36) (.t 37)⟩,
  ⟨some 39, none, true, .ld false 1 (.t 38)⟩,
  ⟨some 40, none, true, .mv (.t 2)⟩,
  ⟨some 41, none, true, .mv (.t 10)⟩,
  ⟨some 42, none, true, .idxS 1 (.t 40) (.t 41)⟩,
  ⟨some 43, none, true, .ld false 1 (.t 42)⟩,
  ⟨some 44, none, false, .bin .add (.t 39) (.t 43)⟩,
  ⟨some 45, none, false, .idxS 1 (.t 36) (.t 37)⟩,
  ⟨none, none, false, .st [] 1 (.t 45) (.t 44)⟩]

def f_lease_Divide_r10 : List Abs.Op := [
  ⟨some 46, none, false, .bin .add (.t 33) (.c (.int .i64 1))⟩,
  ⟨some 33, none, false, .mv (.t 46)⟩]

def f_lease_Divide_l11 : Abs.Cmd :=
  (.seq (.reg [1, 2, 3, 9, 32, 33, 34] f_lease_Divide_r7) (.seq (.ite (.t 34) .nop (.exit 1)) (.seq (.blk 2 (.seq (.reg [1, 2, 3, 9, 10, 32, 33] f_lease_Divide_r8) (.reg [1, 2, 3, 9, 32, 33] f_lease_Divide_r9))) (.reg [1, 2, 3, 9, 32, 33] f_lease_Divide_r10))))

def f_lease_Divide_r12 : List Abs.Op := [
  ⟨some 47, none, false, .ld true 2 (.t 3)⟩,
  ⟨some 48, none, false, .mv (.t 9)⟩,
  ⟨some 49, none, false, .call false (.c (.fn i_lease_Concession_masses [] [])) [(.t 47), (.t 48)]⟩,
  ⟨some 50, none, false, .un .not (.t 49)⟩]

def f_lease_Divide_r13 : List Abs.Op := [
  ⟨some 6, none, false, .mv (.c .nils)⟩,
  ⟨some 7, none, false, .mv (.c (.int .i64 0))⟩,
  ⟨some 8, none, false, .mv (.c (.int .i64 2))⟩]

def f_lease_Divide_r14 : List Abs.Op := [
  ⟨some 52, none, false, .ld true 2 (.t 3)⟩,
  ⟨some 53, none, false, .mv (.t 9)⟩,
  ⟨some 54, none, false, .call true (.c (.fn i_lease_Concession_due [] [])) [(.t 52), (.t 53)]⟩,
  ⟨some 51, none, false, .mv (.t 54)⟩,
  ⟨some 55, none, false, .ext (.t 51) 0⟩,
  ⟨some 56, none, false, .ext (.t 51) 1⟩,
  ⟨some 6, none, false, .mv (.t 55)⟩,
  ⟨some 7, none, false, .mv (.t 56)⟩]

def f_lease_Divide_r15 : List Abs.Op := [
  ⟨some 58, none, false, .ld true 2 (.t 3)⟩,
  ⟨some 59, none, false, .mv (.t 1)⟩,
  ⟨some 60, none, false, .call false (.c (.fn i_lease_Concession_due [] [])) [(.t 58), (.t 59)]⟩,
  ⟨some 57, none, false, .mv (.t 60)⟩,
  ⟨some 61, none, false, .ext (.t 57) 0⟩,
  ⟨some 62, none, false, .ext (.t 57) 1⟩,
  ⟨some 11, none, false, .mv (.t 61)⟩,
  ⟨some 12, none, false, .mv (.t 62)⟩]

def f_lease_Divide_r16 : List Abs.Op := [
  ⟨some 63, none, false, .mv (.t 6)⟩,
  ⟨some 64, none, false, .lenS (.t 63)⟩,
  ⟨some 65, none, false, .mv (.c (.int .i64 0))⟩]

def f_lease_Divide_r17 : List Abs.Op := [
  ⟨some 66, none, false, .bin .lss (.t 65) (.t 64)⟩]

def f_lease_Divide_r18 : List Abs.Op := [
  ⟨some 67, none, false, .mv (.t 65)⟩,
  ⟨some 13, none, false, .mv (.t 67)⟩]

def f_lease_Divide_r19 : List Abs.Op := [
  ⟨some 68, none, true, .mv (.t 6)⟩,
  ⟨some 69, none, true, .mv (.t 13)⟩,
  ⟨some 70, none, true, .idxS 1 (.t 68) (.t 69)⟩,
  ⟨some 71, none, true, .ld false 1 (.t 70)⟩,
  ⟨some 72, none, true, .mv (.t 11)⟩,
  ⟨some 73, none, true, .mv (.t 13)⟩,
  ⟨some 74, none, true, .idxS 1 (.t 72) (.t 73)⟩,
  ⟨some 75, none, true, .ld false 1 (.t 74)⟩,
  ⟨some 76, none, false, .bin .sub (.t 71) (.t 75)⟩,
  ⟨some 77, none, false, .idxS 1 (.t 68) (.t 69)⟩,
  ⟨none, none, false, .st [] 1 (.t 77) (.t 76)⟩]

def f_lease_Divide_r20 : List Abs.Op := [
  ⟨some 78, none, false, .bin .add (.t 65) (.c (.int .i64 1))⟩,
  ⟨some 65, none, false, .mv (.t 78)⟩]

def f_lease_Divide_l21 : Abs.Cmd :=
  (.seq (.reg [6, 7, 11, 12, 64, 65, 66] f_lease_Divide_r17) (.seq (.ite (.t 66) .nop (.exit 3)) (.seq (.blk 4 (.seq (.reg [6, 7, 11, 12, 13, 64, 65] f_lease_Divide_r18) (.reg [6, 7, 11, 12, 64, 65] f_lease_Divide_r19))) (.reg [6, 7, 11, 12, 64, 65] f_lease_Divide_r20))))

def f_lease_Divide_r22 : List Abs.Op := [
  ⟨some 79, none, false, .mv (.t 6)⟩,
  ⟨some 80, none, false, .mv (.t 7)⟩,
  ⟨some 81, none, false, .mv (.t 12)⟩,
  ⟨some 82, none, false, .bin .sub (.t 80) (.t 81)⟩,
  ⟨some 6, none, false, .mv (.t 79)⟩,
  ⟨some 7, none, false, .mv (.t 82)⟩,
  ⟨some 8, none, false, .mv (.c (.int .i64 0))⟩]

def a_lease_Divide : Ann := ⟨[(20, [6, 7, 8]), (19, [6, 7, 11, 12, 64, 65]), (18, [6, 7, 11, 12, 64, 65]), (17, [6, 7, 11, 12, 13, 64, 65]), (16, [6, 7, 11, 12, 64, 65, 66]), (15, [6, 7, 11, 12, 64, 65]), (14, [6, 7, 11, 12]), (13, [1, 3, 6, 7]), (12, [6, 7, 8]), (11, [1, 3, 9, 50]), (10, [1, 2, 3, 9, 32, 33]), (9, [1, 2, 3, 9, 32, 33]), (8, [1, 2, 3, 9, 10, 32, 33]), (7, [1, 2, 3, 9, 32, 33, 34]), (6, [1, 2, 3, 9, 32, 33]), (5, [1, 2, 3, 9]), (2, [6, 7, 8]), (4, [6, 7, 8]), (3, [1, 2, 3, 18]), (1, [1, 2, 3, 14]), (0, [1, 2, 3])], [(3, [6, 7, 11, 12, 64, 65]), (1, [1, 2, 3, 9, 32, 33])], [], [], [], [], [5001, 13002], [(11, [9])], [], []⟩
def f_lease_Divide : Abs.Fn := ⟨3, [.t 6, .t 7, .t 8],
  (.seq (.reg [1, 2, 3] f_lease_Divide_r0) (.seq (.blk 0 (.seq (.reg [1, 2, 3, 14] f_lease_Divide_r1) (.ite (.t 14) (.seq (.reg [6, 7, 8] f_lease_Divide_r2) .ret) (.seq (.reg [1, 2, 3, 18] f_lease_Divide_r3) (.ite (.t 18) (.seq (.reg [6, 7, 8] f_lease_Divide_r4) .ret) .nop))))) (.seq (.reg [1, 2, 3, 9] f_lease_Divide_r5) (.seq (.seq (.reg [1, 2, 3, 9, 32, 33] f_lease_Divide_r6) (.blk 1 (.loop [1, 2, 3, 9, 32, 33] false f_lease_Divide_l11))) (.seq (.seq (.seq (.frz [9]) (.reg [1, 3, 9, 50] f_lease_Divide_r12)) (.ite (.t 50) (.seq (.reg [6, 7, 8] f_lease_Divide_r13) .ret) .nop)) (.seq (.reg [1, 3, 6, 7] f_lease_Divide_r14) (.seq (.reg [6, 7, 11, 12] f_lease_Divide_r15) (.seq (.seq (.reg [6, 7, 11, 12, 64, 65] f_lease_Divide_r16) (.blk 3 (.loop [6, 7, 11, 12, 64, 65] false f_lease_Divide_l21))) (.seq (.reg [6, 7, 8] f_lease_Divide_r22) .ret)))))))))⟩

theorem e_lease_Divide_r0 : type_of% f_lease_Divide_r0.eq_1 := by_rfl f_lease_Divide_r0.eq_1
theorem e_lease_Divide_r1 : type_of% f_lease_Divide_r1.eq_1 := by_rfl f_lease_Divide_r1.eq_1
theorem e_lease_Divide_r2 : type_of% f_lease_Divide_r2.eq_1 := by_rfl f_lease_Divide_r2.eq_1
theorem e_lease_Divide_r3 : type_of% f_lease_Divide_r3.eq_1 := by_rfl f_lease_Divide_r3.eq_1
theorem e_lease_Divide_r4 : type_of% f_lease_Divide_r4.eq_1 := by_rfl f_lease_Divide_r4.eq_1
theorem e_lease_Divide_r5 : type_of% f_lease_Divide_r5.eq_1 := by_rfl f_lease_Divide_r5.eq_1
theorem e_lease_Divide_r6 : type_of% f_lease_Divide_r6.eq_1 := by_rfl f_lease_Divide_r6.eq_1
theorem e_lease_Divide_r7 : type_of% f_lease_Divide_r7.eq_1 := by_rfl f_lease_Divide_r7.eq_1
theorem e_lease_Divide_r8 : type_of% f_lease_Divide_r8.eq_1 := by_rfl f_lease_Divide_r8.eq_1
theorem e_lease_Divide_r9 : type_of% f_lease_Divide_r9.eq_1 := by_rfl f_lease_Divide_r9.eq_1
theorem e_lease_Divide_r10 : type_of% f_lease_Divide_r10.eq_1 := by_rfl f_lease_Divide_r10.eq_1
theorem e_lease_Divide_l11 : type_of% f_lease_Divide_l11.eq_1 := by_rfl f_lease_Divide_l11.eq_1
theorem e_lease_Divide_r12 : type_of% f_lease_Divide_r12.eq_1 := by_rfl f_lease_Divide_r12.eq_1
theorem e_lease_Divide_r13 : type_of% f_lease_Divide_r13.eq_1 := by_rfl f_lease_Divide_r13.eq_1
theorem e_lease_Divide_r14 : type_of% f_lease_Divide_r14.eq_1 := by_rfl f_lease_Divide_r14.eq_1
theorem e_lease_Divide_r15 : type_of% f_lease_Divide_r15.eq_1 := by_rfl f_lease_Divide_r15.eq_1
theorem e_lease_Divide_r16 : type_of% f_lease_Divide_r16.eq_1 := by_rfl f_lease_Divide_r16.eq_1
theorem e_lease_Divide_r17 : type_of% f_lease_Divide_r17.eq_1 := by_rfl f_lease_Divide_r17.eq_1
theorem e_lease_Divide_r18 : type_of% f_lease_Divide_r18.eq_1 := by_rfl f_lease_Divide_r18.eq_1
theorem e_lease_Divide_r19 : type_of% f_lease_Divide_r19.eq_1 := by_rfl f_lease_Divide_r19.eq_1
theorem e_lease_Divide_r20 : type_of% f_lease_Divide_r20.eq_1 := by_rfl f_lease_Divide_r20.eq_1
theorem e_lease_Divide_l21 : type_of% f_lease_Divide_l21.eq_1 := by_rfl f_lease_Divide_l21.eq_1
theorem e_lease_Divide_r22 : type_of% f_lease_Divide_r22.eq_1 := by_rfl f_lease_Divide_r22.eq_1
theorem e_lease_Divide : type_of% f_lease_Divide.eq_1 := by_rfl f_lease_Divide.eq_1
theorem ok_lease_Divide : fnC Tryz.prog a_lease_Divide Tryz.f32 = some f_lease_Divide := by kernel_rfl

/-! 34 fumarole/lease.CheckConcession -/
def f_lease_CheckConcession_r0 : List Abs.Op := [
  ⟨some 1, none, false, .boxi (.t 0)⟩,
  ⟨some 2, none, false, .mv (.c (.int .i64 0))⟩]

def f_lease_CheckConcession_r1 : List Abs.Op := [
  ⟨some 3, none, false, .ld true 2 (.t 1)⟩,
  ⟨some 4, none, false, .call false (.c (.fn i_lease_Concession_valid [] [])) [(.t 3)]⟩,
  ⟨some 5, none, false, .un .not (.t 4)⟩]

def f_lease_CheckConcession_r2 : List Abs.Op := [
  ⟨some 2, none, false, .mv (.c (.int .i64 1))⟩]

def f_lease_CheckConcession_r3 : List Abs.Op := [
  ⟨some 2, none, false, .mv (.c (.int .i64 0))⟩]

def a_lease_CheckConcession : Ann := ⟨[(3, [2]), (2, [2]), (1, [5]), (0, [1])], [], [], [], [], [], [], [], [], []⟩
def f_lease_CheckConcession : Abs.Fn := ⟨1, [.t 2],
  (.seq (.reg [1] f_lease_CheckConcession_r0) (.seq (.seq (.reg [5] f_lease_CheckConcession_r1) (.ite (.t 5) (.seq (.reg [2] f_lease_CheckConcession_r2) .ret) .nop)) (.seq (.reg [2] f_lease_CheckConcession_r3) .ret)))⟩

theorem e_lease_CheckConcession_r0 : type_of% f_lease_CheckConcession_r0.eq_1 := by_rfl f_lease_CheckConcession_r0.eq_1
theorem e_lease_CheckConcession_r1 : type_of% f_lease_CheckConcession_r1.eq_1 := by_rfl f_lease_CheckConcession_r1.eq_1
theorem e_lease_CheckConcession_r2 : type_of% f_lease_CheckConcession_r2.eq_1 := by_rfl f_lease_CheckConcession_r2.eq_1
theorem e_lease_CheckConcession_r3 : type_of% f_lease_CheckConcession_r3.eq_1 := by_rfl f_lease_CheckConcession_r3.eq_1
theorem e_lease_CheckConcession : type_of% f_lease_CheckConcession.eq_1 := by_rfl f_lease_CheckConcession.eq_1
theorem ok_lease_CheckConcession : fnC Tryz.prog a_lease_CheckConcession Tryz.f34 = some f_lease_CheckConcession := by kernel_rfl

/-! 40 fumarole/lease.Outlook -/
def f_lease_Outlook_r0 : List Abs.Op := [
  ⟨some 2, none, false, .boxi (.t 0)⟩,
  ⟨some 4, none, false, .alc [(0, 1)] [.nils]⟩,
  ⟨some 5, none, false, .mv (.c (.int .i64 0))⟩,
  ⟨some 6, none, false, .mv (.c (.int .i64 0))⟩]

def f_lease_Outlook_r1 : List Abs.Op := [
  ⟨some 9, none, false, .ld true 5 (.t 2)⟩,
  ⟨some 10, none, false, .call false (.c (.fn i_lease_Programme_valid [] [])) [(.t 9)]⟩,
  ⟨some 11, none, false, .un .not (.t 10)⟩,
  ⟨some 8, none, false, .mv (.t 11)⟩]

def f_lease_Outlook_r2 : List Abs.Op := [
  ⟨none, none, false, .st [(0, 1)] 1 (.t 4) (.c .nils)⟩,
  ⟨some 5, none, false, .mv (.c (.int .i64 0))⟩,
  ⟨some 6, none, false, .mv (.c (.int .i64 1))⟩]

def f_lease_Outlook_r3 : List Abs.Op := [
  ⟨some 13, none, false, .ld true 5 (.t 2)⟩,
  ⟨some 14, none, false, .mv (.t 1)⟩,
  ⟨some 15, none, false, .call false (.c (.fn i_lease_Programme_planned [] [])) [(.t 13), (.t 14)]⟩,
  ⟨some 16, none, false, .un .not (.t 15)⟩,
  ⟨some 12, none, false, .mv (.t 16)⟩]

def f_lease_Outlook_r4 : List Abs.Op := [
  ⟨none, none, false, .st [(0, 1)] 1 (.t 4) (.c .nils)⟩,
  ⟨some 5, none, false, .mv (.c (.int .i64 0))⟩,
  ⟨some 6, none, false, .mv (.c (.int .i64 2))⟩]

def f_lease_Outlook_r5 : List Abs.Op := [
  ⟨some 18, none, false, .ld true 5 (.t 2)⟩,
  ⟨some 19, none, false, .mv (.t 1)⟩,
  ⟨some 20, none, false, .mkf i_lease_Outlook_1 [] [(.t 4)]⟩,
  ⟨some 21, none, false, .call false (.c (.fn i_lease_Programme_follow [] [])) [(.t 18), (.t 19), (.t 20)]⟩,
  ⟨some 17, none, false, .mv (.t 21)⟩,
  ⟨some 22, none, false, .ext (.t 17) 0⟩,
  ⟨some 23, none, false, .ext (.t 17) 1⟩,
  ⟨some 5, none, false, .mv (.t 22)⟩,
  ⟨some 7, none, false, .mv (.t 23)⟩]

def f_lease_Outlook_r6 : List Abs.Op := [
  ⟨some 24, none, false, .mv (.t 7)⟩,
  ⟨some 25, none, false, .un .not (.t 24)⟩]

def f_lease_Outlook_r7 : List Abs.Op := [
  ⟨none, none, false, .st [(0, 1)] 1 (.t 4) (.c .nils)⟩,
  ⟨some 5, none, false, .mv (.c (.int .i64 0))⟩,
  ⟨some 6, none, false, .mv (.c (.int .i64 9))⟩]

def f_lease_Outlook_r8 : List Abs.Op := [
  ⟨some 26, none, false, .ld false 1 (.t 4)⟩,
  ⟨some 27, none, false, .mv (.t 5)⟩,
  ⟨none, none, false, .st [(0, 1)] 1 (.t 4) (.t 26)⟩,
  ⟨some 5, none, false, .mv (.t 27)⟩,
  ⟨some 6, none, false, .mv (.c (.int .i64 0))⟩]

def a_lease_Outlook : Ann := ⟨[(8, [4, 5, 6]), (7, [4, 5, 6]), (6, [4, 5, 25]), (5, [4, 5, 7]), (2, [4, 5, 6]), (4, [4, 5, 6]), (3, [1, 2, 4, 12]), (1, [1, 2, 4, 8]), (0, [1, 2, 4])], [], [], [4], [], [(1, [(0, 1)]), (2000, [(0, 1)]), (4000, [(0, 1)]), (7000, [(0, 1)]), (8002, [(0, 1)])], [], [], [], []⟩
def f_lease_Outlook : Abs.Fn := ⟨2, [.c 4 false 1, .t 5, .t 6],
  (.seq (.reg [1, 2, 4] f_lease_Outlook_r0) (.seq (.blk 0 (.seq (.reg [1, 2, 4, 8] f_lease_Outlook_r1) (.ite (.t 8) (.seq (.reg [4, 5, 6] f_lease_Outlook_r2) .ret) (.seq (.reg [1, 2, 4, 12] f_lease_Outlook_r3) (.ite (.t 12) (.seq (.reg [4, 5, 6] f_lease_Outlook_r4) .ret) .nop))))) (.seq (.reg [4, 5, 7] f_lease_Outlook_r5) (.seq (.seq (.reg [4, 5, 25] f_lease_Outlook_r6) (.ite (.t 25) (.seq (.reg [4, 5, 6] f_lease_Outlook_r7) .ret) .nop)) (.seq (.reg [4, 5, 6] f_lease_Outlook_r8) .ret)))))⟩

theorem e_lease_Outlook_r0 : type_of% f_lease_Outlook_r0.eq_1 := by_rfl f_lease_Outlook_r0.eq_1
theorem e_lease_Outlook_r1 : type_of% f_lease_Outlook_r1.eq_1 := by_rfl f_lease_Outlook_r1.eq_1
theorem e_lease_Outlook_r2 : type_of% f_lease_Outlook_r2.eq_1 := by_rfl f_lease_Outlook_r2.eq_1
theorem e_lease_Outlook_r3 : type_of% f_lease_Outlook_r3.eq_1 := by_rfl f_lease_Outlook_r3.eq_1
theorem e_lease_Outlook_r4 : type_of% f_lease_Outlook_r4.eq_1 := by_rfl f_lease_Outlook_r4.eq_1
theorem e_lease_Outlook_r5 : type_of% f_lease_Outlook_r5.eq_1 := by_rfl f_lease_Outlook_r5.eq_1
theorem e_lease_Outlook_r6 : type_of% f_lease_Outlook_r6.eq_1 := by_rfl f_lease_Outlook_r6.eq_1
theorem e_lease_Outlook_r7 : type_of% f_lease_Outlook_r7.eq_1 := by_rfl f_lease_Outlook_r7.eq_1
theorem e_lease_Outlook_r8 : type_of% f_lease_Outlook_r8.eq_1 := by_rfl f_lease_Outlook_r8.eq_1
theorem e_lease_Outlook : type_of% f_lease_Outlook.eq_1 := by_rfl f_lease_Outlook.eq_1
theorem ok_lease_Outlook : fnC Tryz.prog a_lease_Outlook Tryz.f40 = some f_lease_Outlook := by kernel_rfl

/-! 41 fumarole/lease.Short -/
def f_lease_Short_r0 : List Abs.Op := [
  ⟨some 1, none, false, .boxi (.t 0)⟩,
  ⟨some 2, none, false, .mv (.c (.int .i64 0))⟩,
  ⟨some 3, none, false, .mv (.c (.int .i64 0))⟩]

def f_lease_Short_r1 : List Abs.Op := [
  ⟨some 6, none, false, .ld true 5 (.t 1)⟩,
  ⟨some 7, none, false, .call false (.c (.fn i_lease_Programme_valid [] [])) [(.t 6)]⟩,
  ⟨some 8, none, false, .un .not (.t 7)⟩]

def f_lease_Short_r2 : List Abs.Op := [
  ⟨some 2, none, false, .mv (.c (.int .i64 0))⟩,
  ⟨some 3, none, false, .mv (.c (.int .i64 1))⟩]

def f_lease_Short_r3 : List Abs.Op := [
  ⟨some 9, none, false, .fadr 0 (.t 1)⟩,
  ⟨some 10, none, false, .ld false 1 (.t 9)⟩,
  ⟨some 4, none, false, .mv (.t 10)⟩]

def f_lease_Short_r4 : List Abs.Op := [
  ⟨some 11, none, false, .fadr 4 (.t 1)⟩,
  ⟨some 12, none, false, .ld false 1 (.t 11)⟩,
  ⟨some 13, none, false, .lenS (.t 12)⟩,
  ⟨some 14, none, false, .mv (.c (.int .i64 0))⟩]

def f_lease_Short_r5 : List Abs.Op := [
  ⟨some 15, none, false, .bin .lss (.t 14) (.t 13)⟩]

def f_lease_Short_r6 : List Abs.Op := [
  ⟨some 16, none, false, .mv (.t 14)⟩,
  ⟨some 5, none, false, .mv (.t 16)⟩]

def f_lease_Short_r7 : List Abs.Op := [
  ⟨some 17, none, false, .ld true 5 (.t 1)⟩,
  ⟨some 18, none, false, .mv (.t 5)⟩,
  ⟨some 19, none, false, .mv (.t 4)⟩,
  ⟨some 20, none, false, .fadr 3 (.t 1)⟩,
  ⟨some 21, none, false, .ld false 1 (.t 20)⟩,
  ⟨some 22, none, false, .call false (.c (.fn i_lease_Programme_meets [] [])) [(.t 17), (.t 18), (.t 19), (.t 21)]⟩,
  ⟨some 23, none, false, .un .not (.t 22)⟩]

def f_lease_Short_r8 : List Abs.Op := [
  ⟨some 24, none, false, .mv (.t 5)⟩,
  ⟨some 2, none, false, .mv (.t 24)⟩,
  ⟨some 3, none, false, .mv (.c (.int .i64 0))⟩]

def f_lease_Short_r9 : List Abs.Op := [
  ⟨some 25, none, false, .ld true 5 (.t 1)⟩,
  ⟨some 26, none, false, .mv (.t 4)⟩,
  ⟨some 27, none, false, .fadr 3 (.t 1)⟩,
  ⟨some 28, none, false, .ld false 1 (.t 27)⟩,
  ⟨some 29, none, false, .call false (.c (.fn i_lease_Programme_after [] [])) [(.t 25), (.t 26), (.t 28)]⟩,
  ⟨some 4, none, false, .mv (.t 29)⟩]

def f_lease_Short_r10 : List Abs.Op := [
  ⟨some 30, none, false, .bin .add (.t 14) (.c (.int .i64 1))⟩,
  ⟨some 14, none, false, .mv (.t 30)⟩]

def f_lease_Short_l11 : Abs.Cmd :=
  (.seq (.reg [1, 4, 13, 14, 15] f_lease_Short_r5) (.seq (.ite (.t 15) .nop (.exit 0)) (.seq (.blk 1 (.seq (.reg [1, 4, 5, 13, 14] f_lease_Short_r6) (.seq (.seq (.reg [1, 4, 5, 13, 14, 23] f_lease_Short_r7) (.ite (.t 23) (.seq (.reg [2, 3] f_lease_Short_r8) .ret) .nop)) (.reg [1, 4, 13, 14] f_lease_Short_r9)))) (.reg [1, 4, 13, 14] f_lease_Short_r10))))

def f_lease_Short_r12 : List Abs.Op := [
  ⟨some 2, none, false, .mv (.c (.int .i64 0))⟩,
  ⟨some 3, none, false, .mv (.c (.int .i64 7))⟩]

def a_lease_Short : Ann := ⟨[(11, [2, 3]), (10, [1, 4, 13, 14]), (9, [1, 4, 13, 14]), (8, [2, 3]), (7, [1, 4, 5, 13, 14, 23]), (6, [1, 4, 5, 13, 14]), (5, [1, 4, 13, 14, 15]), (4, [1, 4, 13, 14]), (3, [1, 4]), (2, [2, 3]), (1, [1, 8]), (0, [1])], [(0, [1, 4, 13, 14])], [], [], [], [], [], [], [], []⟩
def f_lease_Short : Abs.Fn := ⟨1, [.t 2, .t 3],
  (.seq (.reg [1] f_lease_Short_r0) (.seq (.seq (.reg [1, 8] f_lease_Short_r1) (.ite (.t 8) (.seq (.reg [2, 3] f_lease_Short_r2) .ret) .nop)) (.seq (.reg [1, 4] f_lease_Short_r3) (.seq (.seq (.reg [1, 4, 13, 14] f_lease_Short_r4) (.blk 0 (.loop [1, 4, 13, 14] false f_lease_Short_l11))) (.seq (.reg [2, 3] f_lease_Short_r12) .ret)))))⟩

theorem e_lease_Short_r0 : type_of% f_lease_Short_r0.eq_1 := by_rfl f_lease_Short_r0.eq_1
theorem e_lease_Short_r1 : type_of% f_lease_Short_r1.eq_1 := by_rfl f_lease_Short_r1.eq_1
theorem e_lease_Short_r2 : type_of% f_lease_Short_r2.eq_1 := by_rfl f_lease_Short_r2.eq_1
theorem e_lease_Short_r3 : type_of% f_lease_Short_r3.eq_1 := by_rfl f_lease_Short_r3.eq_1
theorem e_lease_Short_r4 : type_of% f_lease_Short_r4.eq_1 := by_rfl f_lease_Short_r4.eq_1
theorem e_lease_Short_r5 : type_of% f_lease_Short_r5.eq_1 := by_rfl f_lease_Short_r5.eq_1
theorem e_lease_Short_r6 : type_of% f_lease_Short_r6.eq_1 := by_rfl f_lease_Short_r6.eq_1
theorem e_lease_Short_r7 : type_of% f_lease_Short_r7.eq_1 := by_rfl f_lease_Short_r7.eq_1
theorem e_lease_Short_r8 : type_of% f_lease_Short_r8.eq_1 := by_rfl f_lease_Short_r8.eq_1
theorem e_lease_Short_r9 : type_of% f_lease_Short_r9.eq_1 := by_rfl f_lease_Short_r9.eq_1
theorem e_lease_Short_r10 : type_of% f_lease_Short_r10.eq_1 := by_rfl f_lease_Short_r10.eq_1
theorem e_lease_Short_l11 : type_of% f_lease_Short_l11.eq_1 := by_rfl f_lease_Short_l11.eq_1
theorem e_lease_Short_r12 : type_of% f_lease_Short_r12.eq_1 := by_rfl f_lease_Short_r12.eq_1
theorem e_lease_Short : type_of% f_lease_Short.eq_1 := by_rfl f_lease_Short.eq_1
theorem ok_lease_Short : fnC Tryz.prog a_lease_Short Tryz.f41 = some f_lease_Short := by kernel_rfl

/-! 42 fumarole/lease.CheckProgramme -/
def f_lease_CheckProgramme_r0 : List Abs.Op := [
  ⟨some 1, none, false, .boxi (.t 0)⟩,
  ⟨some 2, none, false, .mv (.c (.int .i64 0))⟩]

def f_lease_CheckProgramme_r1 : List Abs.Op := [
  ⟨some 3, none, false, .ld true 5 (.t 1)⟩,
  ⟨some 4, none, false, .call false (.c (.fn i_lease_Programme_valid [] [])) [(.t 3)]⟩,
  ⟨some 5, none, false, .un .not (.t 4)⟩]

def f_lease_CheckProgramme_r2 : List Abs.Op := [
  ⟨some 2, none, false, .mv (.c (.int .i64 1))⟩]

def f_lease_CheckProgramme_r3 : List Abs.Op := [
  ⟨some 2, none, false, .mv (.c (.int .i64 0))⟩]

def a_lease_CheckProgramme : Ann := ⟨[(3, [2]), (2, [2]), (1, [5]), (0, [1])], [], [], [], [], [], [], [], [], []⟩
def f_lease_CheckProgramme : Abs.Fn := ⟨1, [.t 2],
  (.seq (.reg [1] f_lease_CheckProgramme_r0) (.seq (.seq (.reg [5] f_lease_CheckProgramme_r1) (.ite (.t 5) (.seq (.reg [2] f_lease_CheckProgramme_r2) .ret) .nop)) (.seq (.reg [2] f_lease_CheckProgramme_r3) .ret)))⟩

theorem e_lease_CheckProgramme_r0 : type_of% f_lease_CheckProgramme_r0.eq_1 := by_rfl f_lease_CheckProgramme_r0.eq_1
theorem e_lease_CheckProgramme_r1 : type_of% f_lease_CheckProgramme_r1.eq_1 := by_rfl f_lease_CheckProgramme_r1.eq_1
theorem e_lease_CheckProgramme_r2 : type_of% f_lease_CheckProgramme_r2.eq_1 := by_rfl f_lease_CheckProgramme_r2.eq_1
theorem e_lease_CheckProgramme_r3 : type_of% f_lease_CheckProgramme_r3.eq_1 := by_rfl f_lease_CheckProgramme_r3.eq_1
theorem e_lease_CheckProgramme : type_of% f_lease_CheckProgramme.eq_1 := by_rfl f_lease_CheckProgramme.eq_1
theorem ok_lease_CheckProgramme : fnC Tryz.prog a_lease_CheckProgramme Tryz.f42 = some f_lease_CheckProgramme := by kernel_rfl

/-! 46 fumarole/fumarolelaw11.tracts -/
def f_law11_tracts_r0 : List Abs.Op := [
  ⟨some 0, none, false, .alcv [] [(.int .i64 0), .nils]⟩]

def f_law11_tracts_r1 : List Abs.Op := [
  ⟨some 1, none, false, .bsi 3 1 [(.int .i64 0), (.int .i64 0), (.int .i64 0)] [(0, 1, (.c (.int .i64 333))), (1, 1, (.c (.int .i64 667))), (2, 1, (.c (.int .i64 0)))]⟩,
  ⟨some 2, none, false, .bsi 3 1 [(.int .i64 0), (.int .i64 0), (.int .i64 0)] [(0, 1, (.c (.int .i64 500))), (1, 1, (.c (.int .i64 0))), (2, 1, (.c (.int .i64 250)))]⟩,
  ⟨some 3, none, false, .bsi 2 1 [.nils, .nils] [(0, 1, (.t 1)), (1, 1, (.t 2))]⟩,
  ⟨some 4, none, false, .bld [(.int .i64 0), .nils] [(0, 1, (.c (.int .i64 3))), (1, 1, (.t 3))]⟩,
  ⟨none, none, false, .stv 0 [] 2 0 (.t 4)⟩]

def a_law11_tracts : Ann := ⟨[(1, [0]), (0, [0])], [], [], [0], [0], [], [], [], [], []⟩
def f_law11_tracts : Abs.Fn := ⟨0, [.v 0 true 2],
  (.seq (.reg [0] f_law11_tracts_r0) (.seq (.reg [0] f_law11_tracts_r1) .ret))⟩

theorem e_law11_tracts_r0 : type_of% f_law11_tracts_r0.eq_1 := by_rfl f_law11_tracts_r0.eq_1
theorem e_law11_tracts_r1 : type_of% f_law11_tracts_r1.eq_1 := by_rfl f_law11_tracts_r1.eq_1
theorem e_law11_tracts : type_of% f_law11_tracts.eq_1 := by_rfl f_law11_tracts.eq_1
theorem ok_law11_tracts : fnC Tryz.prog a_law11_tracts Tryz.f46 = some f_law11_tracts := by kernel_rfl

/-! 47 fumarole/lease.Split -/
def f_lease_Split_r0 : List Abs.Op := [
  ⟨some 4, none, false, .mv (.c .nils)⟩,
  ⟨some 5, none, false, .mv (.c (.int .i64 0))⟩]

def f_lease_Split_r1 : List Abs.Op := [
  ⟨some 17, none, false, .mv (.t 0)⟩,
  ⟨some 18, none, false, .call false (.c (.fn i_lease_total [] [])) [(.t 17)]⟩,
  ⟨some 19, none, false, .un .not (.t 18)⟩]

def f_lease_Split_r2 : List Abs.Op := [
  ⟨some 4, none, false, .mv (.c .nils)⟩,
  ⟨some 5, none, false, .mv (.c (.int .i64 2))⟩]

def f_lease_Split_r3 : List Abs.Op := [
  ⟨some 6, none, false, .mv (.c (.int .i64 0))⟩]

def f_lease_Split_r4 : List Abs.Op := [
  ⟨some 20, none, false, .mv (.t 1)⟩,
  ⟨some 21, none, false, .lenS (.t 20)⟩,
  ⟨some 22, none, false, .call false (.c (.fn i_lease_within [] [])) [(.t 21), (.c (.int .i64 1)), (.c (.int .i64 8))]⟩,
  ⟨some 23, none, false, .un .not (.t 22)⟩,
  ⟨some 24, none, false, .mv (.t 23)⟩,
  ⟨some 25, some (24, false), false, .mv (.t 1)⟩,
  ⟨some 26, some (24, false), false, .call false (.c (.fn i_lease_all_int [] [])) [(.t 25), (.c (.fn i_lease_total [] []))]⟩,
  ⟨some 27, some (24, false), false, .un .not (.t 26)⟩,
  ⟨some 28, none, false, .pick (.t 24) (.c (.bool true)) (.t 27)⟩,
  ⟨some 29, none, false, .mv (.t 28)⟩,
  ⟨some 30, some (29, false), false, .mv (.t 1)⟩,
  ⟨some 31, some (29, false), false, .call false (.c (.fn i_lease_sum [] [])) [(.t 30)]⟩,
  ⟨some 32, some (29, false), false, .bin .eql (.t 31) (.c (.int .i64 0))⟩,
  ⟨some 33, none, false, .pick (.t 29) (.c (.bool true)) (.t 32)⟩]

def f_lease_Split_r5 : List Abs.Op := [
  ⟨some 4, none, false, .mv (.c .nils)⟩,
  ⟨some 5, none, false, .mv (.c (.int .i64 1))⟩]

def f_lease_Split_r6 : List Abs.Op := [
  ⟨some 34, none, false, .mv (.t 1)⟩,
  ⟨some 35, none, false, .call false (.c (.fn i_lease_sum [] [])) [(.t 34)]⟩,
  ⟨some 6, none, false, .mv (.t 35)⟩]

def f_lease_Split_r7 : List Abs.Op := [
  ⟨some 7, none, false, .nilb 2⟩]

def f_lease_Split_r8 : List Abs.Op := [
  ⟨some 36, none, false, .mv (.t 0)⟩,
  ⟨some 8, none, false, .mv (.t 36)⟩]

def f_lease_Split_r9 : List Abs.Op := [
  ⟨some 37, none, false, .mv (.t 1)⟩,
  ⟨some 38, none, false, .lenS (.t 37)⟩,
  ⟨some 39, none, false, .mv (.c (.int .i64 0))⟩]

def f_lease_Split_r10 : List Abs.Op := [
  ⟨some 40, none, false, .bin .lss (.t 39) (.t 38)⟩]

def f_lease_Split_r11 : List Abs.Op := [
  ⟨some 41, none, false, .idxS 1 (.t 37) (.t 39)⟩,
  ⟨some 42, none, false, .ld false 1 (.t 41)⟩,
  ⟨some 10, none, false, .mv (.t 42)⟩]

def f_lease_Split_r12 : List Abs.Op := [
  ⟨some 43, none, false, .mv (.t 0)⟩,
  ⟨some 44, none, false, .mv (.t 10)⟩,
  ⟨some 45, none, false, .mv (.t 6)⟩,
  ⟨some 46, none, false, .call false (.c (.fn i_lease_part [] [])) [(.t 43), (.t 44), (.t 45)]⟩,
  ⟨some 11, none, false, .alcv [] [(.int .i64 0), (.int .i64 0)]⟩,
  ⟨none, none, false, .stv 11 [] 2 11 (.t 46)⟩]

def f_lease_Split_r13 : List Abs.Op := [
  ⟨some 47, none, true, .mv (.t 7)⟩,
  ⟨some 48, none, true, .ldv 11 true 2 11⟩,
  ⟨some 49, none, true, .bsi 1 2 [(.int .i64 0), (.int .i64 0)] [(0, 2, (.t 48))]⟩,
  ⟨some 50, none, true, .app 2 16 (.t 47) (.t 49)⟩,
  ⟨some 51, none, true, .mv (.t 8)⟩,
  ⟨some 52, none, true, .fadr 0 (.t 11)⟩,
  ⟨some 53, none, true, .ldv 11 false 1 52⟩,
  ⟨some 54, none, true, .bin .sub (.t 51) (.t 53)⟩,
  ⟨some 7, none, true, .mv (.t 50)⟩,
  ⟨some 8, none, false, .mv (.t 54)⟩]

def f_lease_Split_r14 : List Abs.Op := [
  ⟨some 55, none, false, .bin .add (.t 39) (.c (.int .i64 1))⟩,
  ⟨some 39, none, false, .mv (.t 55)⟩]

def f_lease_Split_l15 : Abs.Cmd :=
  (.seq (.reg [0, 1, 6, 7, 8, 37, 38, 39, 40] f_lease_Split_r10) (.seq (.ite (.t 40) .nop (.exit 0)) (.seq (.blk 1 (.seq (.reg [0, 1, 6, 7, 8, 10, 37, 38, 39] f_lease_Split_r11) (.seq (.reg [0, 1, 6, 7, 8, 11, 37, 38, 39] f_lease_Split_r12) (.reg [0, 1, 6, 7, 8, 37, 38, 39] f_lease_Split_r13)))) (.reg [0, 1, 6, 7, 8, 37, 38, 39] f_lease_Split_r14))))

def f_lease_Split_r16 : List Abs.Op := [
  ⟨some 56, none, false, .mv (.t 1)⟩,
  ⟨some 57, none, false, .lenS (.t 56)⟩,
  ⟨some 58, none, false, .mks 1 8 [(.int .i64 0)] (.t 57) (.t 57)⟩,
  ⟨some 12, none, false, .mv (.t 58)⟩]

def f_lease_Split_r17 : List Abs.Op := [
  ⟨some 59, none, false, .mv (.t 7)⟩,
  ⟨some 60, none, false, .lenS (.t 59)⟩,
  ⟨some 61, none, false, .mv (.c (.int .i64 0))⟩]

def f_lease_Split_r18 : List Abs.Op := [
  ⟨some 62, none, false, .bin .lss (.t 61) (.t 60)⟩]

def f_lease_Split_r19 : List Abs.Op := [
  ⟨some 63, none, false, .mv (.t 61)⟩,
  ⟨some 64, none, false, .idxS 2 (.t 59) (.t 61)⟩,
  ⟨some 65, none, false, .ld true 2 (.t 64)⟩,
  ⟨some 14, none, false, .alcv [] [(.int .i64 0), (.int .i64 0)]⟩,
  ⟨some 13, none, false, .mv (.t 63)⟩,
  ⟨none, none, false, .stv 14 [] 2 14 (.t 65)⟩]

def f_lease_Split_r20 : List Abs.Op := [
  ⟨some 66, none, false, .mv (.t 12)⟩,
  ⟨some 67, none, false, .mv (.t 13)⟩,
  ⟨some 68, none, false, .fadr 0 (.t 14)⟩,
  ⟨some 69, none, false, .ldv 14 false 1 68⟩,
  ⟨some 70, none, false, .idxS 1 (.t 66) (.t 67)⟩,
  ⟨none, none, false, .st [] 1 (.t 70) (.t 69)⟩]

def f_lease_Split_r21 : List Abs.Op := [
  ⟨some 71, none, false, .bin .add (.t 61) (.c (.int .i64 1))⟩,
  ⟨some 61, none, false, .mv (.t 71)⟩]

def f_lease_Split_l22 : Abs.Cmd :=
  (.seq (.reg [7, 8, 12, 59, 60, 61, 62] f_lease_Split_r18) (.seq (.ite (.t 62) .nop (.exit 2)) (.seq (.blk 3 (.seq (.reg [7, 8, 12, 13, 14, 59, 60, 61] f_lease_Split_r19) (.reg [7, 8, 12, 59, 60, 61] f_lease_Split_r20))) (.reg [7, 8, 12, 59, 60, 61] f_lease_Split_r21))))

def f_lease_Split_r23 : List Abs.Op := [
  ⟨some 72, none, false, .mv (.t 7)⟩,
  ⟨some 73, none, false, .call false (.c (.fn i_lease_ranked_lease_portion [] [])) [(.t 72), (.c (.fn i_lease_Split_1 [] []))]⟩,
  ⟨some 74, none, false, .mv (.t 8)⟩,
  ⟨some 75, none, false, .slc 1 (.t 73) none (some (.t 74)) none⟩,
  ⟨some 76, none, false, .lenS (.t 75)⟩,
  ⟨some 77, none, false, .mv (.c (.int .i64 0))⟩]

def f_lease_Split_r24 : List Abs.Op := [
  ⟨some 78, none, false, .bin .lss (.t 77) (.t 76)⟩]

def f_lease_Split_r25 : List Abs.Op := [
  ⟨some 79, none, false, .idxS 1 (.t 75) (.t 77)⟩,
  ⟨some 80, none, false, .ld false 1 (.t 79)⟩,
  ⟨some 16, none, false, .mv (.t 80)⟩]

def f_lease_Split_r26 : List Abs.Op := [
  ⟨some 81, none, false, .mv (.t 12)⟩,
  ⟨some 82, none, false, .mv (.t 16)⟩,
  ⟨some 83, none, false, .idxS 1 (.t 81) (.t 82)⟩,
  ⟨some 84, none, false, .ld false 1 (.t 83)⟩,
  ⟨some 85, none, false, .bin .add (.t 84) (.c (.int .i64 1))⟩,
  ⟨some 86, none, false, .idxS 1 (.t 81) (.t 82)⟩,
  ⟨none, none, false, .st [] 1 (.t 86) (.t 85)⟩]

def f_lease_Split_r27 : List Abs.Op := [
  ⟨some 87, none, false, .bin .add (.t 77) (.c (.int .i64 1))⟩,
  ⟨some 77, none, false, .mv (.t 87)⟩]

def f_lease_Split_l28 : Abs.Cmd :=
  (.seq (.reg [12, 75, 76, 77, 78] f_lease_Split_r24) (.seq (.ite (.t 78) .nop (.exit 4)) (.seq (.blk 5 (.seq (.reg [12, 16, 75, 76, 77] f_lease_Split_r25) (.reg [12, 75, 76, 77] f_lease_Split_r26))) (.reg [12, 75, 76, 77] f_lease_Split_r27))))

def f_lease_Split_r29 : List Abs.Op := [
  ⟨some 88, none, false, .mv (.t 12)⟩,
  ⟨some 4, none, false, .mv (.t 88)⟩,
  ⟨some 5, none, false, .mv (.c (.int .i64 0))⟩]

def a_lease_Split : Ann := ⟨[(26, [4, 5]), (25, [12, 75, 76, 77]), (24, [12, 75, 76, 77]), (23, [12, 16, 75, 76, 77]), (22, [12, 75, 76, 77, 78]), (21, [12, 75, 76, 77]), (20, [7, 8, 12, 59, 60, 61]), (19, [7, 8, 12, 59, 60, 61]), (18, [7, 8, 12, 13, 14, 59, 60, 61]), (17, [7, 8, 12, 59, 60, 61, 62]), (16, [7, 8, 12, 59, 60, 61]), (15, [7, 8, 12]), (14, [0, 1, 6, 7, 8, 37, 38, 39]), (13, [0, 1, 6, 7, 8, 37, 38, 39]), (12, [0, 1, 6, 7, 8, 11, 37, 38, 39]), (11, [0, 1, 6, 7, 8, 10, 37, 38, 39]), (10, [0, 1, 6, 7, 8, 37, 38, 39, 40]), (9, [0, 1, 6, 7, 8, 37, 38, 39]), (8, [0, 1, 6, 7, 8]), (7, [0, 1, 6, 7]), (6, [0, 1, 6]), (5, [4, 5]), (4, [0, 1, 33]), (3, [0, 1]), (2, [4, 5]), (1, [0, 1, 19]), (0, [0, 1])], [(4, [12, 75, 76, 77]), (2, [7, 8, 12, 59, 60, 61]), (0, [0, 1, 6, 7, 8, 37, 38, 39])], [], [7, 11, 14], [11, 14], [], [], [(15, [7])], [], []⟩
def f_lease_Split : Abs.Fn := ⟨2, [.t 4, .t 5],
  (.seq (.reg [0, 1] f_lease_Split_r0) (.seq (.seq (.reg [0, 1, 19] f_lease_Split_r1) (.ite (.t 19) (.seq (.reg [4, 5] f_lease_Split_r2) .ret) .nop)) (.seq (.reg [0, 1] f_lease_Split_r3) (.seq (.seq (.reg [0, 1, 33] f_lease_Split_r4) (.ite (.t 33) (.seq (.reg [4, 5] f_lease_Split_r5) .ret) .nop)) (.seq (.reg [0, 1, 6] f_lease_Split_r6) (.seq (.reg [0, 1, 6, 7] f_lease_Split_r7) (.seq (.reg [0, 1, 6, 7, 8] f_lease_Split_r8) (.seq (.seq (.reg [0, 1, 6, 7, 8, 37, 38, 39] f_lease_Split_r9) (.blk 0 (.loop [0, 1, 6, 7, 8, 37, 38, 39] false f_lease_Split_l15))) (.seq (.seq (.frz [7]) (.reg [7, 8, 12] f_lease_Split_r16)) (.seq (.seq (.reg [7, 8, 12, 59, 60, 61] f_lease_Split_r17) (.blk 2 (.loop [7, 8, 12, 59, 60, 61] false f_lease_Split_l22))) (.seq (.seq (.reg [12, 75, 76, 77] f_lease_Split_r23) (.blk 4 (.loop [12, 75, 76, 77] false f_lease_Split_l28))) (.seq (.reg [4, 5] f_lease_Split_r29) .ret))))))))))))⟩

theorem e_lease_Split_r0 : type_of% f_lease_Split_r0.eq_1 := by_rfl f_lease_Split_r0.eq_1
theorem e_lease_Split_r1 : type_of% f_lease_Split_r1.eq_1 := by_rfl f_lease_Split_r1.eq_1
theorem e_lease_Split_r2 : type_of% f_lease_Split_r2.eq_1 := by_rfl f_lease_Split_r2.eq_1
theorem e_lease_Split_r3 : type_of% f_lease_Split_r3.eq_1 := by_rfl f_lease_Split_r3.eq_1
theorem e_lease_Split_r4 : type_of% f_lease_Split_r4.eq_1 := by_rfl f_lease_Split_r4.eq_1
theorem e_lease_Split_r5 : type_of% f_lease_Split_r5.eq_1 := by_rfl f_lease_Split_r5.eq_1
theorem e_lease_Split_r6 : type_of% f_lease_Split_r6.eq_1 := by_rfl f_lease_Split_r6.eq_1
theorem e_lease_Split_r7 : type_of% f_lease_Split_r7.eq_1 := by_rfl f_lease_Split_r7.eq_1
theorem e_lease_Split_r8 : type_of% f_lease_Split_r8.eq_1 := by_rfl f_lease_Split_r8.eq_1
theorem e_lease_Split_r9 : type_of% f_lease_Split_r9.eq_1 := by_rfl f_lease_Split_r9.eq_1
theorem e_lease_Split_r10 : type_of% f_lease_Split_r10.eq_1 := by_rfl f_lease_Split_r10.eq_1
theorem e_lease_Split_r11 : type_of% f_lease_Split_r11.eq_1 := by_rfl f_lease_Split_r11.eq_1
theorem e_lease_Split_r12 : type_of% f_lease_Split_r12.eq_1 := by_rfl f_lease_Split_r12.eq_1
theorem e_lease_Split_r13 : type_of% f_lease_Split_r13.eq_1 := by_rfl f_lease_Split_r13.eq_1
theorem e_lease_Split_r14 : type_of% f_lease_Split_r14.eq_1 := by_rfl f_lease_Split_r14.eq_1
theorem e_lease_Split_l15 : type_of% f_lease_Split_l15.eq_1 := by_rfl f_lease_Split_l15.eq_1
theorem e_lease_Split_r16 : type_of% f_lease_Split_r16.eq_1 := by_rfl f_lease_Split_r16.eq_1
theorem e_lease_Split_r17 : type_of% f_lease_Split_r17.eq_1 := by_rfl f_lease_Split_r17.eq_1
theorem e_lease_Split_r18 : type_of% f_lease_Split_r18.eq_1 := by_rfl f_lease_Split_r18.eq_1
theorem e_lease_Split_r19 : type_of% f_lease_Split_r19.eq_1 := by_rfl f_lease_Split_r19.eq_1
theorem e_lease_Split_r20 : type_of% f_lease_Split_r20.eq_1 := by_rfl f_lease_Split_r20.eq_1
theorem e_lease_Split_r21 : type_of% f_lease_Split_r21.eq_1 := by_rfl f_lease_Split_r21.eq_1
theorem e_lease_Split_l22 : type_of% f_lease_Split_l22.eq_1 := by_rfl f_lease_Split_l22.eq_1
theorem e_lease_Split_r23 : type_of% f_lease_Split_r23.eq_1 := by_rfl f_lease_Split_r23.eq_1
theorem e_lease_Split_r24 : type_of% f_lease_Split_r24.eq_1 := by_rfl f_lease_Split_r24.eq_1
theorem e_lease_Split_r25 : type_of% f_lease_Split_r25.eq_1 := by_rfl f_lease_Split_r25.eq_1
theorem e_lease_Split_r26 : type_of% f_lease_Split_r26.eq_1 := by_rfl f_lease_Split_r26.eq_1
theorem e_lease_Split_r27 : type_of% f_lease_Split_r27.eq_1 := by_rfl f_lease_Split_r27.eq_1
theorem e_lease_Split_l28 : type_of% f_lease_Split_l28.eq_1 := by_rfl f_lease_Split_l28.eq_1
theorem e_lease_Split_r29 : type_of% f_lease_Split_r29.eq_1 := by_rfl f_lease_Split_r29.eq_1
theorem e_lease_Split : type_of% f_lease_Split.eq_1 := by_rfl f_lease_Split.eq_1
theorem ok_lease_Split : fnC Tryz.prog a_lease_Split Tryz.f47 = some f_lease_Split := by kernel_rfl

/-! 48 fumarole/lease.Royalty -/
def f_lease_Royalty_r0 : List Abs.Op := [
  ⟨some 3, none, false, .boxi (.t 0)⟩,
  ⟨some 6, none, false, .mv (.c (.int .i64 0))⟩,
  ⟨some 7, none, false, .mv (.c (.int .i64 0))⟩]

def f_lease_Royalty_r1 : List Abs.Op := [
  ⟨some 14, none, false, .ld true 2 (.t 3)⟩,
  ⟨some 15, none, false, .call false (.c (.fn i_lease_Rule_valid [] [])) [(.t 14)]⟩,
  ⟨some 16, none, false, .un .not (.t 15)⟩,
  ⟨some 13, none, false, .mv (.t 16)⟩]

def f_lease_Royalty_r2 : List Abs.Op := [
  ⟨some 6, none, false, .mv (.c (.int .i64 0))⟩,
  ⟨some 7, none, false, .mv (.c (.int .i64 1))⟩]

def f_lease_Royalty_r3 : List Abs.Op := [
  ⟨some 18, none, false, .mv (.t 1)⟩,
  ⟨some 19, none, false, .call false (.c (.fn i_lease_total [] [])) [(.t 18)]⟩,
  ⟨some 20, none, false, .un .not (.t 19)⟩,
  ⟨some 21, none, false, .mv (.t 20)⟩,
  ⟨some 22, some (21, false), false, .mv (.t 2)⟩,
  ⟨some 23, some (21, false), false, .call false (.c (.fn i_lease_within [] [])) [(.t 22), (.c (.int .i64 0)), (.c (.int .i64 1000))]⟩,
  ⟨some 24, some (21, false), false, .un .not (.t 23)⟩,
  ⟨some 25, none, false, .pick (.t 21) (.c (.bool true)) (.t 24)⟩,
  ⟨some 17, none, false, .mv (.t 25)⟩]

def f_lease_Royalty_r4 : List Abs.Op := [
  ⟨some 6, none, false, .mv (.c (.int .i64 0))⟩,
  ⟨some 7, none, false, .mv (.c (.int .i64 2))⟩]

def f_lease_Royalty_r5 : List Abs.Op := [
  ⟨some 8, none, false, .mv (.c (.int .i64 0))⟩,
  ⟨some 9, none, false, .mv (.c (.int .i64 0))⟩]

def f_lease_Royalty_r6 : List Abs.Op := [
  ⟨some 26, none, false, .fadr 1 (.t 3)⟩,
  ⟨some 27, none, false, .ld false 1 (.t 26)⟩,
  ⟨some 28, none, false, .lenS (.t 27)⟩,
  ⟨some 29, none, false, .mv (.c (.int .i64 0))⟩]

def f_lease_Royalty_r7 : List Abs.Op := [
  ⟨some 30, none, false, .bin .lss (.t 29) (.t 28)⟩]

def f_lease_Royalty_r8 : List Abs.Op := [
  ⟨some 31, none, false, .mv (.t 29)⟩,
  ⟨some 32, none, false, .idxS 2 (.t 27) (.t 29)⟩,
  ⟨some 33, none, false, .ld true 2 (.t 32)⟩,
  ⟨some 11, none, false, .alcv [] [(.int .i64 0), (.int .i64 0)]⟩,
  ⟨some 10, none, false, .mv (.t 31)⟩,
  ⟨none, none, false, .stv 11 [] 2 11 (.t 33)⟩]

def f_lease_Royalty_r9 : List Abs.Op := [
  ⟨some 34, none, false, .fadr 0 (.t 11)⟩,
  ⟨some 35, none, false, .ldv 11 false 1 34⟩,
  ⟨some 36, none, false, .mv (.t 1)⟩,
  ⟨some 37, none, false, .mn (.t 35) (.t 36)⟩,
  ⟨some 12, none, false, .mv (.t 37)⟩]

def f_lease_Royalty_r10 : List Abs.Op := [
  ⟨some 38, none, false, .mv (.t 10)⟩,
  ⟨some 39, none, false, .fadr 1 (.t 3)⟩,
  ⟨some 40, none, false, .ld false 1 (.t 39)⟩,
  ⟨some 41, none, false, .lenS (.t 40)⟩,
  ⟨some 42, none, false, .bin .sub (.t 41) (.c (.int .i64 1))⟩,
  ⟨some 43, none, false, .bin .eql (.t 38) (.t 42)⟩]

def f_lease_Royalty_r11 : List Abs.Op := [
  ⟨some 44, none, false, .mv (.t 1)⟩,
  ⟨some 12, none, false, .mv (.t 44)⟩]

def f_lease_Royalty_r12 : List Abs.Op := [
  ⟨some 45, none, false, .mv (.t 8)⟩,
  ⟨some 46, none, false, .mv (.t 12)⟩,
  ⟨some 47, none, false, .mv (.t 9)⟩,
  ⟨some 48, none, false, .bin .sub (.t 46) (.t 47)⟩,
  ⟨some 49, none, false, .mx (.c (.int .i64 0)) (.t 48)⟩,
  ⟨some 50, none, false, .fadr 1 (.t 11)⟩,
  ⟨some 51, none, false, .ldv 11 false 1 50⟩,
  ⟨some 52, none, false, .bin .mul (.t 49) (.t 51)⟩,
  ⟨some 53, none, false, .bin .add (.t 45) (.t 52)⟩,
  ⟨some 8, none, false, .mv (.t 53)⟩]

def f_lease_Royalty_r13 : List Abs.Op := [
  ⟨some 54, none, false, .mv (.t 9)⟩,
  ⟨some 55, none, false, .mv (.t 12)⟩,
  ⟨some 56, none, false, .mx (.t 54) (.t 55)⟩,
  ⟨some 9, none, false, .mv (.t 56)⟩]

def f_lease_Royalty_r14 : List Abs.Op := [
  ⟨some 57, none, false, .bin .add (.t 29) (.c (.int .i64 1))⟩,
  ⟨some 29, none, false, .mv (.t 57)⟩]

def f_lease_Royalty_l15 : Abs.Cmd :=
  (.seq (.reg [1, 2, 3, 8, 9, 27, 28, 29, 30] f_lease_Royalty_r7) (.seq (.ite (.t 30) .nop (.exit 1)) (.seq (.blk 2 (.seq (.reg [1, 2, 3, 8, 9, 10, 11, 27, 28, 29] f_lease_Royalty_r8) (.seq (.reg [1, 2, 3, 8, 9, 10, 11, 12, 27, 28, 29] f_lease_Royalty_r9) (.seq (.seq (.reg [1, 2, 3, 8, 9, 11, 12, 27, 28, 29, 43] f_lease_Royalty_r10) (.ite (.t 43) (.reg [1, 2, 3, 8, 9, 11, 12, 27, 28, 29] f_lease_Royalty_r11) .nop)) (.seq (.reg [1, 2, 3, 8, 9, 12, 27, 28, 29] f_lease_Royalty_r12) (.reg [1, 2, 3, 8, 9, 27, 28, 29] f_lease_Royalty_r13)))))) (.reg [1, 2, 3, 8, 9, 27, 28, 29] f_lease_Royalty_r14))))

def f_lease_Royalty_r16 : List Abs.Op := [
  ⟨some 58, none, false, .fadr 0 (.t 3)⟩,
  ⟨some 59, none, false, .ld false 1 (.t 58)⟩,
  ⟨some 60, none, false, .mv (.t 8)⟩,
  ⟨some 61, none, false, .mv (.t 2)⟩,
  ⟨some 62, none, false, .bin .mul (.t 60) (.t 61)⟩,
  ⟨some 63, none, false, .bin .quo (.t 62) (.c (.int .i64 1000000))⟩,
  ⟨some 64, none, false, .mx (.t 59) (.t 63)⟩,
  ⟨some 6, none, false, .mv (.t 64)⟩,
  ⟨some 7, none, false, .mv (.c (.int .i64 0))⟩]

def a_lease_Royalty : Ann := ⟨[(15, [6, 7]), (14, [1, 2, 3, 8, 9, 27, 28, 29]), (13, [1, 2, 3, 8, 9, 27, 28, 29]), (12, [1, 2, 3, 8, 9, 12, 27, 28, 29]), (11, [1, 2, 3, 8, 9, 11, 12, 27, 28, 29]), (10, [1, 2, 3, 8, 9, 11, 12, 27, 28, 29, 43]), (9, [1, 2, 3, 8, 9, 10, 11, 12, 27, 28, 29]), (8, [1, 2, 3, 8, 9, 10, 11, 27, 28, 29]), (7, [1, 2, 3, 8, 9, 27, 28, 29, 30]), (6, [1, 2, 3, 8, 9, 27, 28, 29]), (5, [1, 2, 3, 8, 9]), (2, [6, 7]), (4, [6, 7]), (3, [1, 2, 3, 17]), (1, [1, 2, 3, 13]), (0, [1, 2, 3])], [(1, [1, 2, 3, 8, 9, 27, 28, 29])], [], [11], [11], [], [], [], [], []⟩
def f_lease_Royalty : Abs.Fn := ⟨3, [.t 6, .t 7],
  (.seq (.reg [1, 2, 3] f_lease_Royalty_r0) (.seq (.blk 0 (.seq (.reg [1, 2, 3, 13] f_lease_Royalty_r1) (.ite (.t 13) (.seq (.reg [6, 7] f_lease_Royalty_r2) .ret) (.seq (.reg [1, 2, 3, 17] f_lease_Royalty_r3) (.ite (.t 17) (.seq (.reg [6, 7] f_lease_Royalty_r4) .ret) .nop))))) (.seq (.reg [1, 2, 3, 8, 9] f_lease_Royalty_r5) (.seq (.seq (.reg [1, 2, 3, 8, 9, 27, 28, 29] f_lease_Royalty_r6) (.blk 1 (.loop [1, 2, 3, 8, 9, 27, 28, 29] false f_lease_Royalty_l15))) (.seq (.reg [6, 7] f_lease_Royalty_r16) .ret)))))⟩

theorem e_lease_Royalty_r0 : type_of% f_lease_Royalty_r0.eq_1 := by_rfl f_lease_Royalty_r0.eq_1
theorem e_lease_Royalty_r1 : type_of% f_lease_Royalty_r1.eq_1 := by_rfl f_lease_Royalty_r1.eq_1
theorem e_lease_Royalty_r2 : type_of% f_lease_Royalty_r2.eq_1 := by_rfl f_lease_Royalty_r2.eq_1
theorem e_lease_Royalty_r3 : type_of% f_lease_Royalty_r3.eq_1 := by_rfl f_lease_Royalty_r3.eq_1
theorem e_lease_Royalty_r4 : type_of% f_lease_Royalty_r4.eq_1 := by_rfl f_lease_Royalty_r4.eq_1
theorem e_lease_Royalty_r5 : type_of% f_lease_Royalty_r5.eq_1 := by_rfl f_lease_Royalty_r5.eq_1
theorem e_lease_Royalty_r6 : type_of% f_lease_Royalty_r6.eq_1 := by_rfl f_lease_Royalty_r6.eq_1
theorem e_lease_Royalty_r7 : type_of% f_lease_Royalty_r7.eq_1 := by_rfl f_lease_Royalty_r7.eq_1
theorem e_lease_Royalty_r8 : type_of% f_lease_Royalty_r8.eq_1 := by_rfl f_lease_Royalty_r8.eq_1
theorem e_lease_Royalty_r9 : type_of% f_lease_Royalty_r9.eq_1 := by_rfl f_lease_Royalty_r9.eq_1
theorem e_lease_Royalty_r10 : type_of% f_lease_Royalty_r10.eq_1 := by_rfl f_lease_Royalty_r10.eq_1
theorem e_lease_Royalty_r11 : type_of% f_lease_Royalty_r11.eq_1 := by_rfl f_lease_Royalty_r11.eq_1
theorem e_lease_Royalty_r12 : type_of% f_lease_Royalty_r12.eq_1 := by_rfl f_lease_Royalty_r12.eq_1
theorem e_lease_Royalty_r13 : type_of% f_lease_Royalty_r13.eq_1 := by_rfl f_lease_Royalty_r13.eq_1
theorem e_lease_Royalty_r14 : type_of% f_lease_Royalty_r14.eq_1 := by_rfl f_lease_Royalty_r14.eq_1
theorem e_lease_Royalty_l15 : type_of% f_lease_Royalty_l15.eq_1 := by_rfl f_lease_Royalty_l15.eq_1
theorem e_lease_Royalty_r16 : type_of% f_lease_Royalty_r16.eq_1 := by_rfl f_lease_Royalty_r16.eq_1
theorem e_lease_Royalty : type_of% f_lease_Royalty.eq_1 := by_rfl f_lease_Royalty.eq_1
theorem ok_lease_Royalty : fnC Tryz.prog a_lease_Royalty Tryz.f48 = some f_lease_Royalty := by kernel_rfl

/-! 49 fumarole/fumarolelaw11.pool -/
def f_law11_pool_r0 : List Abs.Op := [
  ⟨some 0, none, false, .mv (.c .nils)⟩]

def f_law11_pool_r1 : List Abs.Op := [
  ⟨some 1, none, false, .bld [(.int .i64 0), (.int .i64 0)] [(0, 1, (.c (.int .i64 100))), (1, 1, (.c (.int .i64 200)))]⟩,
  ⟨some 2, none, false, .bld [(.int .i64 0), (.int .i64 0)] [(1, 1, (.c (.int .i64 50)))]⟩,
  ⟨some 3, none, false, .bsi 2 2 [(.int .i64 0), (.int .i64 0), (.int .i64 0), (.int .i64 0)] [(0, 2, (.t 1)), (2, 2, (.t 2))]⟩,
  ⟨some 4, none, false, .bld [(.int .i64 0), (.int .i64 0), .nils] [(0, 1, (.c (.int .i64 10))), (1, 1, (.c (.int .i64 8))), (2, 1, (.t 3))]⟩,
  ⟨some 5, none, false, .bsi 1 3 [(.int .i64 0), (.int .i64 0), .nils] [(0, 3, (.t 4))]⟩,
  ⟨some 0, none, false, .mv (.t 5)⟩]

def a_law11_pool : Ann := ⟨[(1, [0]), (0, [])], [], [], [], [], [], [], [], [], []⟩
def f_law11_pool : Abs.Fn := ⟨0, [.t 0],
  (.seq (.reg [] f_law11_pool_r0) (.seq (.reg [0] f_law11_pool_r1) .ret))⟩

theorem e_law11_pool_r0 : type_of% f_law11_pool_r0.eq_1 := by_rfl f_law11_pool_r0.eq_1
theorem e_law11_pool_r1 : type_of% f_law11_pool_r1.eq_1 := by_rfl f_law11_pool_r1.eq_1
theorem e_law11_pool : type_of% f_law11_pool.eq_1 := by_rfl f_law11_pool.eq_1
theorem ok_law11_pool : fnC Tryz.prog a_law11_pool Tryz.f49 = some f_law11_pool := by kernel_rfl

/-! 50 fumarole/fumarolelaw11.drilled -/
def f_law11_drilled_r0 : List Abs.Op := [
  ⟨some 0, none, false, .alcv [] [(.int .i64 0), (.int .i64 0), (.int .i64 0), (.int .i64 0), .nils]⟩]

def f_law11_drilled_r1 : List Abs.Op := [
  ⟨some 1, none, false, .bld [(.int .i64 0), (.int .i64 0)] [(0, 1, (.c (.int .i64 12))), (1, 1, (.c (.int .i64 5)))]⟩,
  ⟨some 2, none, false, .bld [(.int .i64 0), (.int .i64 0)] [(0, 1, (.c (.int .i64 14))), (1, 1, (.c (.int .i64 4)))]⟩,
  ⟨some 3, none, false, .bld [(.int .i64 0), (.int .i64 0)] [(0, 1, (.c (.int .i64 15))), (1, 1, (.c (.int .i64 9)))]⟩,
  ⟨some 4, none, false, .bsi 3 2 [(.int .i64 0), (.int .i64 0), (.int .i64 0), (.int .i64 0), (.int .i64 0), (.int .i64 0)] [(0, 2, (.t 1)), (2, 2, (.t 2)), (4, 2, (.t 3))]⟩,
  ⟨some 5, none, false, .bld [(.int .i64 0), (.int .i64 0), (.int .i64 0), (.int .i64 0), .nils] [(0, 1, (.c (.int .i64 10))), (1, 1, (.c (.int .i64 6))), (2, 1, (.c (.int .i64 900))), (3, 1, (.c (.int .i64 2))), (4, 1, (.t 4))]⟩,
  ⟨none, none, false, .stv 0 [] 5 0 (.t 5)⟩]

def a_law11_drilled : Ann := ⟨[(1, [0]), (0, [0])], [], [], [0], [0], [], [], [], [], []⟩
def f_law11_drilled : Abs.Fn := ⟨0, [.v 0 true 5],
  (.seq (.reg [0] f_law11_drilled_r0) (.seq (.reg [0] f_law11_drilled_r1) .ret))⟩

theorem e_law11_drilled_r0 : type_of% f_law11_drilled_r0.eq_1 := by_rfl f_law11_drilled_r0.eq_1
theorem e_law11_drilled_r1 : type_of% f_law11_drilled_r1.eq_1 := by_rfl f_law11_drilled_r1.eq_1
theorem e_law11_drilled : type_of% f_law11_drilled.eq_1 := by_rfl f_law11_drilled.eq_1
theorem ok_law11_drilled : fnC Tryz.prog a_law11_drilled Tryz.f50 = some f_law11_drilled := by kernel_rfl

end Go.Proofs.YtcccafphhmcifaaGreat
