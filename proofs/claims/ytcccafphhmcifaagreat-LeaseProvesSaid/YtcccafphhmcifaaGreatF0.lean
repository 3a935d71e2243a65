/- The code of functions of the program, in the small instruction set; each is what the translation makes of it. -/
import Derived.Test.YtcccafphhmcifaaGreatIds
set_option linter.unusedVariables false
set_option maxRecDepth 100000
namespace Go.Proofs.YtcccafphhmcifaaGreat
open Go Go.Abs
/-! 6 fumarole/fumarolelaw11.LeaseProves -/
def f_law11_LeaseProves_r0 : List Abs.Op := [
  ⟨some 7, none, false, .boxi (.t 0)⟩,
  ⟨some 14, none, false, .mv (.c (.bool false))⟩]

def f_law11_LeaseProves_r1 : List Abs.Op := [
  ⟨some 25, none, false, .fadr 4 (.t 7)⟩,
  ⟨some 26, none, false, .ld false 1 (.t 25)⟩,
  ⟨some 27, none, false, .lenS (.t 26)⟩,
  ⟨some 28, none, false, .bin .gtr (.t 27) (.c (.int .i64 6))⟩,
  ⟨some 29, none, false, .mv (.t 28)⟩,
  ⟨some 30, some (29, false), false, .mv (.t 1)⟩,
  ⟨some 31, some (29, false), false, .lenS (.t 30)⟩,
  ⟨some 32, some (29, false), false, .bin .gtr (.t 31) (.c (.int .i64 12))⟩,
  ⟨some 33, none, false, .pick (.t 29) (.c (.bool true)) (.t 32)⟩,
  ⟨some 34, none, false, .mv (.t 33)⟩,
  ⟨some 35, some (34, false), false, .mv (.t 2)⟩,
  ⟨some 36, some (34, false), false, .lenS (.t 35)⟩,
  ⟨some 37, some (34, false), false, .bin .gtr (.t 36) (.c (.int .i64 12))⟩,
  ⟨some 38, none, false, .pick (.t 34) (.c (.bool true)) (.t 37)⟩]

def f_law11_LeaseProves_r2 : List Abs.Op := [
  ⟨some 39, none, false, .call false (.c (.fn i_law11_wakes [] [])) []⟩,
  ⟨some 14, none, false, .mv (.t 39)⟩]

def f_law11_LeaseProves_r3 : List Abs.Op := [
  ⟨some 15, none, false, .mv (.c (.int .i64 0))⟩]

def f_law11_LeaseProves_r4 : List Abs.Op := [
  ⟨some 40, none, false, .mv (.t 15)⟩,
  ⟨some 41, none, false, .mv (.t 2)⟩,
  ⟨some 42, none, false, .lenS (.t 41)⟩,
  ⟨some 43, none, false, .bin .lss (.t 40) (.t 42)⟩]

def f_law11_LeaseProves_r5 : List Abs.Op := [
  ⟨some 46, none, false, .mv (.t 2)⟩,
  ⟨some 47, none, false, .mv (.t 15)⟩,
  ⟨some 48, none, false, .idxS 1 (.t 46) (.t 47)⟩,
  ⟨some 49, none, false, .ld false 1 (.t 48)⟩,
  ⟨some 50, none, false, .lenS (.t 49)⟩,
  ⟨some 51, none, false, .bin .gtr (.t 50) (.c (.int .i64 60))⟩]

def f_law11_LeaseProves_r6 : List Abs.Op := [
  ⟨some 52, none, false, .call false (.c (.fn i_law11_wakes [] [])) []⟩,
  ⟨some 14, none, false, .mv (.t 52)⟩]

def f_law11_LeaseProves_r7 : List Abs.Op := [
  ⟨some 44, none, false, .mv (.t 15)⟩,
  ⟨some 45, none, false, .bin .add (.t 44) (.c (.int .i64 1))⟩,
  ⟨some 15, none, false, .mv (.t 45)⟩]

def f_law11_LeaseProves_l8 : Abs.Cmd :=
  (.seq (.seq (.reg [1, 2, 3, 4, 5, 6, 7, 15, 43] f_law11_LeaseProves_r4) (.ite (.t 43) .nop (.exit 0))) (.seq (.blk 1 (.seq (.reg [1, 2, 3, 4, 5, 6, 7, 15, 51] f_law11_LeaseProves_r5) (.ite (.t 51) (.seq (.reg [14] f_law11_LeaseProves_r6) .ret) .nop))) (.reg [1, 2, 3, 4, 5, 6, 7, 15] f_law11_LeaseProves_r7)))

def f_law11_LeaseProves_r9 : List Abs.Op := [
  ⟨some 53, none, false, .ld true 5 (.t 7)⟩,
  ⟨some 54, none, false, .call false (.c (.fn i_ref11_RightProgramme [] [])) [(.t 53)]⟩,
  ⟨some 16, none, false, .mv (.t 54)⟩]

def f_law11_LeaseProves_r10 : List Abs.Op := [
  ⟨some 55, none, false, .mv (.t 1)⟩,
  ⟨some 56, none, false, .call true (.c (.fn i_law11_list [] [])) [(.t 55)]⟩,
  ⟨some 57, none, false, .mv (.t 2)⟩,
  ⟨some 58, none, false, .call true (.c (.fn i_law11_table [] [])) [(.t 57)]⟩,
  ⟨some 17, none, false, .mv (.t 56)⟩,
  ⟨some 18, none, false, .mv (.t 58)⟩]

def f_law11_LeaseProves_r11 : List Abs.Op := [
  ⟨some 59, none, false, .mv (.t 3)⟩,
  ⟨some 60, none, false, .mv (.t 59)⟩,
  ⟨some 61, some (60, true), false, .mv (.t 16)⟩,
  ⟨some 62, none, false, .pick (.t 60) (.t 61) (.c (.bool false))⟩]

def f_law11_LeaseProves_r12 : List Abs.Op := [
  ⟨some 64, none, false, .ld true 5 (.t 7)⟩,
  ⟨some 65, none, false, .call false (.c (.fn i_law11_Programme [] [])) [(.t 64)]⟩,
  ⟨some 66, none, false, .call true (.c (.fn i_lease_Drill [] [])) [(.t 65)]⟩,
  ⟨some 63, none, false, .mv (.t 66)⟩,
  ⟨some 67, none, false, .ext (.t 63) 0⟩,
  ⟨some 68, none, false, .ext (.t 63) 1⟩,
  ⟨some 69, none, false, .ext (.t 63) 2⟩,
  ⟨some 70, none, false, .ext (.t 63) 3⟩,
  ⟨some 19, none, false, .mv (.t 67)⟩,
  ⟨some 20, none, false, .mv (.t 68)⟩,
  ⟨some 21, none, false, .mv (.t 69)⟩,
  ⟨some 22, none, false, .mv (.t 70)⟩]

def f_law11_LeaseProves_r13 : List Abs.Op := [
  ⟨some 71, none, false, .mv (.t 22)⟩,
  ⟨some 72, none, false, .bin .neq (.t 71) (.c (.int .i64 0))⟩]

def f_law11_LeaseProves_r14 : List Abs.Op := [
  ⟨some 73, none, false, .mv (.t 22)⟩,
  ⟨some 74, none, false, .bin .eql (.t 73) (.c (.int .i64 7))⟩,
  ⟨some 75, none, false, .mv (.t 74)⟩,
  ⟨some 76, some (75, true), false, .call false (.c (.fn i_law11_wakes [] [])) []⟩,
  ⟨some 77, none, false, .pick (.t 75) (.t 76) (.c (.bool false))⟩,
  ⟨some 14, none, false, .mv (.t 77)⟩]

def f_law11_LeaseProves_r15 : List Abs.Op := [
  ⟨some 78, none, false, .mv (.t 19)⟩,
  ⟨some 79, none, false, .lenS (.t 78)⟩,
  ⟨some 80, none, false, .fadr 4 (.t 7)⟩,
  ⟨some 81, none, false, .ld false 1 (.t 80)⟩,
  ⟨some 82, none, false, .lenS (.t 81)⟩,
  ⟨some 83, none, false, .bin .neq (.t 79) (.t 82)⟩,
  ⟨some 84, none, false, .mv (.t 83)⟩,
  ⟨some 85, some (84, false), false, .mv (.t 21)⟩,
  ⟨some 86, some (84, false), false, .lenS (.t 85)⟩,
  ⟨some 87, some (84, false), false, .fadr 4 (.t 7)⟩,
  ⟨some 88, some (84, false), false, .ld false 1 (.t 87)⟩,
  ⟨some 89, some (84, false), false, .lenS (.t 88)⟩,
  ⟨some 90, some (84, false), false, .bin .neq (.t 86) (.t 89)⟩,
  ⟨some 91, none, false, .pick (.t 84) (.c (.bool true)) (.t 90)⟩]

def f_law11_LeaseProves_r16 : List Abs.Op := [
  ⟨some 14, none, false, .mv (.c (.bool false))⟩]

def f_law11_LeaseProves_r17 : List Abs.Op := [
  ⟨some 92, none, false, .mv (.t 19)⟩,
  ⟨some 93, none, false, .mv (.t 21)⟩,
  ⟨some 94, none, false, .call false (.c (.fn i_law11_back [] [])) [(.t 93)]⟩,
  ⟨some 95, none, false, .call true (.c (.fn i_law11_table [] [])) [(.t 94)]⟩,
  ⟨some 17, none, false, .mv (.t 92)⟩,
  ⟨some 18, none, false, .mv (.t 95)⟩]

def f_law11_LeaseProves_r18 : List Abs.Op := [
  ⟨some 96, none, false, .mv (.t 4)⟩,
  ⟨some 97, none, false, .cvt .i64 (.t 96)⟩,
  ⟨some 98, none, false, .mv (.t 18)⟩,
  ⟨some 99, none, false, .lenS (.t 98)⟩,
  ⟨some 100, none, false, .bin .rem (.t 97) (.t 99)⟩,
  ⟨some 23, none, false, .mv (.t 100)⟩]

def f_law11_LeaseProves_r19 : List Abs.Op := [
  ⟨some 101, none, false, .mv (.t 18)⟩,
  ⟨some 102, none, false, .mv (.t 23)⟩,
  ⟨some 103, none, false, .idxS 1 (.t 101) (.t 102)⟩,
  ⟨some 104, none, false, .ld false 1 (.t 103)⟩,
  ⟨some 105, none, false, .lenS (.t 104)⟩,
  ⟨some 106, none, false, .bin .eql (.t 105) (.c (.int .i64 0))⟩]

def f_law11_LeaseProves_r20 : List Abs.Op := [
  ⟨some 14, none, false, .mv (.c (.bool false))⟩]

def f_law11_LeaseProves_r21 : List Abs.Op := [
  ⟨some 107, none, false, .mv (.t 5)⟩,
  ⟨some 108, none, false, .cvt .i64 (.t 107)⟩,
  ⟨some 109, none, false, .mv (.t 18)⟩,
  ⟨some 110, none, false, .mv (.t 23)⟩,
  ⟨some 111, none, false, .idxS 1 (.t 109) (.t 110)⟩,
  ⟨some 112, none, false, .ld false 1 (.t 111)⟩,
  ⟨some 113, none, false, .lenS (.t 112)⟩,
  ⟨some 114, none, false, .bin .rem (.t 108) (.t 113)⟩,
  ⟨some 24, none, false, .mv (.t 114)⟩]

def f_law11_LeaseProves_r22 : List Abs.Op := [
  ⟨some 115, none, false, .mv (.t 6)⟩,
  ⟨some 116, none, false, .cvt .i64 (.t 115)⟩,
  ⟨some 117, none, false, .bin .rem (.t 116) (.c (.int .i64 3))⟩]

def f_law11_LeaseProves_r23 : List Abs.Op := [
  ⟨some 128, none, false, .bin .eql (.t 117) (.c (.int .i64 0))⟩,
  ⟨some 127, none, false, .mv (.t 128)⟩]

def f_law11_LeaseProves_r24 : List Abs.Op := [
  ⟨some 129, none, false, .mv (.t 18)⟩,
  ⟨some 130, none, false, .mv (.t 23)⟩,
  ⟨some 131, none, false, .idxS 1 (.t 129) (.t 130)⟩,
  ⟨some 132, none, false, .ld false 1 (.t 131)⟩,
  ⟨some 133, none, false, .mv (.t 24)⟩,
  ⟨some 134, none, false, .idxS 2 (.t 132) (.t 133)⟩,
  ⟨some 135, none, false, .fadr 1 (.t 134)⟩,
  ⟨some 136, none, false, .ld false 1 (.t 135)⟩,
  ⟨some 137, none, false, .mv (.t 6)⟩,
  ⟨some 138, none, false, .cvt .i64 (.t 137)⟩,
  ⟨some 139, none, false, .bin .quo (.t 138) (.c (.int .i64 3))⟩,
  ⟨some 140, none, false, .bin .add (.t 136) (.t 139)⟩,
  ⟨some 141, none, false, .idxS 2 (.t 132) (.t 133)⟩,
  ⟨some 142, none, false, .fadr 1 (.t 141)⟩,
  ⟨none, none, false, .st [] 1 (.t 142) (.t 140)⟩]

def f_law11_LeaseProves_r25 : List Abs.Op := [
  ⟨some 144, none, false, .bin .eql (.t 117) (.c (.int .i64 1))⟩,
  ⟨some 143, none, false, .mv (.t 144)⟩]

def f_law11_LeaseProves_r26 : List Abs.Op := [
  ⟨some 145, none, false, .mv (.t 18)⟩,
  ⟨some 146, none, false, .mv (.t 23)⟩,
  ⟨some 147, none, false, .idxS 1 (.t 145) (.t 146)⟩,
  ⟨some 148, none, false, .ld false 1 (.t 147)⟩,
  ⟨some 149, none, false, .mv (.t 24)⟩,
  ⟨some 150, none, false, .idxS 2 (.t 148) (.t 149)⟩,
  ⟨some 151, none, false, .fadr 0 (.t 150)⟩,
  ⟨some 152, none, false, .ld false 1 (.t 151)⟩,
  ⟨some 153, none, false, .mv (.t 6)⟩,
  ⟨some 154, none, false, .cvt .i64 (.t 153)⟩,
  ⟨some 155, none, false, .bin .quo (.t 154) (.c (.int .i64 3))⟩,
  ⟨some 156, none, false, .bin .add (.t 152) (.t 155)⟩,
  ⟨some 157, none, false, .idxS 2 (.t 148) (.t 149)⟩,
  ⟨some 158, none, false, .fadr 0 (.t 157)⟩,
  ⟨none, none, false, .st [] 1 (.t 158) (.t 156)⟩]

def f_law11_LeaseProves_r27 : List Abs.Op := [
  ⟨some 118, none, false, .mv (.t 17)⟩,
  ⟨some 119, none, false, .mv (.t 23)⟩,
  ⟨some 120, none, false, .idxS 1 (.t 118) (.t 119)⟩,
  ⟨some 121, none, false, .ld false 1 (.t 120)⟩,
  ⟨some 122, none, false, .mv (.t 6)⟩,
  ⟨some 123, none, false, .cvt .i64 (.t 122)⟩,
  ⟨some 124, none, false, .bin .rem (.t 123) (.c (.int .i64 2))⟩,
  ⟨some 125, none, false, .bin .add (.t 121) (.t 124)⟩,
  ⟨some 126, none, false, .idxS 1 (.t 118) (.t 119)⟩,
  ⟨none, none, false, .st [] 1 (.t 126) (.t 125)⟩]

def f_law11_LeaseProves_r28 : List Abs.Op := [
  ⟨some 159, none, true, .ld true 5 (.t 7)⟩,
  ⟨some 160, none, true, .call false (.c (.fn i_law11_Programme [] [])) [(.t 159)]⟩,
  ⟨some 161, none, true, .mv (.t 17)⟩,
  ⟨some 162, none, true, .call false (.c (.fn i_law11_list [] [])) [(.t 161)]⟩,
  ⟨some 163, none, true, .mv (.t 18)⟩,
  ⟨some 164, none, true, .call false (.c (.fn i_law11_back [] [])) [(.t 163)]⟩,
  ⟨some 165, none, true, .call false (.c (.fn i_law11_table [] [])) [(.t 164)]⟩,
  ⟨some 166, none, true, .call false (.c (.fn i_lease_ProveDrill [] [])) [(.t 160), (.t 162), (.t 165)]⟩,
  ⟨some 167, none, true, .mv (.t 16)⟩,
  ⟨some 168, none, true, .mv (.t 167)⟩,
  ⟨some 169, some (168, true), true, .ld true 5 (.t 7)⟩,
  ⟨some 170, some (168, true), true, .mv (.t 17)⟩,
  ⟨some 171, some (168, true), true, .mv (.t 18)⟩,
  ⟨some 172, some (168, true), true, .call false (.c (.fn i_law11_back [] [])) [(.t 171)]⟩,
  ⟨some 173, some (168, true), false, .call false (.c (.fn i_ref11_Shows [] [])) [(.t 169), (.t 170), (.t 172)]⟩,
  ⟨some 174, none, false, .pick (.t 168) (.t 173) (.c (.bool false))⟩,
  ⟨some 175, none, false, .eqv false [none] false (.t 166) (.t 174)⟩,
  ⟨some 176, none, false, .mv (.t 175)⟩,
  ⟨some 177, some (176, true), false, .call false (.c (.fn i_law11_wakes [] [])) []⟩,
  ⟨some 178, none, false, .pick (.t 176) (.t 177) (.c (.bool false))⟩,
  ⟨some 14, none, false, .mv (.t 178)⟩]

def a_law11_LeaseProves : Ann := ⟨[(27, [14]), (24, [7, 16, 17, 18]), (26, [7, 16, 17, 18]), (22, [7, 16, 17, 18]), (25, [6, 7, 16, 17, 18, 23, 24, 143]), (23, [6, 7, 16, 17, 18, 23, 24, 117, 127]), (21, [6, 7, 16, 17, 18, 23, 24, 117]), (20, [6, 7, 16, 17, 18, 23, 24]), (19, [14]), (18, [5, 6, 7, 16, 17, 18, 23, 106]), (17, [5, 6, 7, 16, 17, 18, 23]), (16, [4, 5, 6, 7, 16, 17, 18]), (15, [14]), (14, [4, 5, 6, 7, 16, 19, 21, 91]), (13, [14]), (12, [4, 5, 6, 7, 16, 19, 21, 22, 72]), (11, [4, 5, 6, 7, 16, 19, 21, 22]), (10, [4, 5, 6, 7, 16, 17, 18, 62]), (9, [3, 4, 5, 6, 7, 16, 17, 18]), (8, [1, 2, 3, 4, 5, 6, 7, 16]), (5, [1, 2, 3, 4, 5, 6, 7, 15]), (7, [14]), (6, [1, 2, 3, 4, 5, 6, 7, 15, 51]), (4, [1, 2, 3, 4, 5, 6, 7, 15, 43]), (3, [1, 2, 3, 4, 5, 6, 7, 15]), (2, [14]), (1, [1, 2, 3, 4, 5, 6, 7, 38]), (0, [1, 2, 3, 4, 5, 6, 7])], [(0, [1, 2, 3, 4, 5, 6, 7, 15])], [], [], [], [], [9001, 9003, 16003, 11002], [(16, [21]), (27, [17, 18])], [], []⟩
def f_law11_LeaseProves : Abs.Fn := ⟨7, [.t 14],
  (.seq (.reg [1, 2, 3, 4, 5, 6, 7] f_law11_LeaseProves_r0) (.seq (.seq (.reg [1, 2, 3, 4, 5, 6, 7, 38] f_law11_LeaseProves_r1) (.ite (.t 38) (.seq (.reg [14] f_law11_LeaseProves_r2) .ret) .nop)) (.seq (.seq (.reg [1, 2, 3, 4, 5, 6, 7, 15] f_law11_LeaseProves_r3) (.blk 0 (.loop [1, 2, 3, 4, 5, 6, 7, 15] false f_law11_LeaseProves_l8))) (.seq (.reg [1, 2, 3, 4, 5, 6, 7, 16] f_law11_LeaseProves_r9) (.seq (.reg [3, 4, 5, 6, 7, 16, 17, 18] f_law11_LeaseProves_r10) (.seq (.seq (.reg [4, 5, 6, 7, 16, 17, 18, 62] f_law11_LeaseProves_r11) (.ite (.t 62) (.seq (.reg [4, 5, 6, 7, 16, 19, 21, 22] f_law11_LeaseProves_r12) (.seq (.seq (.reg [4, 5, 6, 7, 16, 19, 21, 22, 72] f_law11_LeaseProves_r13) (.ite (.t 72) (.seq (.reg [14] f_law11_LeaseProves_r14) .ret) .nop)) (.seq (.seq (.reg [4, 5, 6, 7, 16, 19, 21, 91] f_law11_LeaseProves_r15) (.ite (.t 91) (.seq (.reg [14] f_law11_LeaseProves_r16) .ret) .nop)) (.seq (.seq (.frz [21]) (.reg [4, 5, 6, 7, 16, 17, 18] f_law11_LeaseProves_r17)) (.seq (.reg [5, 6, 7, 16, 17, 18, 23] f_law11_LeaseProves_r18) (.seq (.seq (.reg [5, 6, 7, 16, 17, 18, 23, 106] f_law11_LeaseProves_r19) (.ite (.t 106) (.seq (.reg [14] f_law11_LeaseProves_r20) .ret) .nop)) (.seq (.reg [6, 7, 16, 17, 18, 23, 24] f_law11_LeaseProves_r21) (.seq (.reg [6, 7, 16, 17, 18, 23, 24, 117] f_law11_LeaseProves_r22) (.blk 2 (.seq (.reg [6, 7, 16, 17, 18, 23, 24, 117, 127] f_law11_LeaseProves_r23) (.ite (.t 127) (.reg [7, 16, 17, 18] f_law11_LeaseProves_r24) (.seq (.reg [6, 7, 16, 17, 18, 23, 24, 143] f_law11_LeaseProves_r25) (.ite (.t 143) (.reg [7, 16, 17, 18] f_law11_LeaseProves_r26) (.reg [7, 16, 17, 18] f_law11_LeaseProves_r27)))))))))))))) .nop)) (.seq (.seq (.frz [17, 18]) (.reg [14] f_law11_LeaseProves_r28)) .ret)))))))⟩

theorem e_law11_LeaseProves_r0 : type_of% f_law11_LeaseProves_r0.eq_1 := by_rfl f_law11_LeaseProves_r0.eq_1
theorem e_law11_LeaseProves_r1 : type_of% f_law11_LeaseProves_r1.eq_1 := by_rfl f_law11_LeaseProves_r1.eq_1
theorem e_law11_LeaseProves_r2 : type_of% f_law11_LeaseProves_r2.eq_1 := by_rfl f_law11_LeaseProves_r2.eq_1
theorem e_law11_LeaseProves_r3 : type_of% f_law11_LeaseProves_r3.eq_1 := by_rfl f_law11_LeaseProves_r3.eq_1
theorem e_law11_LeaseProves_r4 : type_of% f_law11_LeaseProves_r4.eq_1 := by_rfl f_law11_LeaseProves_r4.eq_1
theorem e_law11_LeaseProves_r5 : type_of% f_law11_LeaseProves_r5.eq_1 := by_rfl f_law11_LeaseProves_r5.eq_1
theorem e_law11_LeaseProves_r6 : type_of% f_law11_LeaseProves_r6.eq_1 := by_rfl f_law11_LeaseProves_r6.eq_1
theorem e_law11_LeaseProves_r7 : type_of% f_law11_LeaseProves_r7.eq_1 := by_rfl f_law11_LeaseProves_r7.eq_1
theorem e_law11_LeaseProves_l8 : type_of% f_law11_LeaseProves_l8.eq_1 := by_rfl f_law11_LeaseProves_l8.eq_1
theorem e_law11_LeaseProves_r9 : type_of% f_law11_LeaseProves_r9.eq_1 := by_rfl f_law11_LeaseProves_r9.eq_1
theorem e_law11_LeaseProves_r10 : type_of% f_law11_LeaseProves_r10.eq_1 := by_rfl f_law11_LeaseProves_r10.eq_1
theorem e_law11_LeaseProves_r11 : type_of% f_law11_LeaseProves_r11.eq_1 := by_rfl f_law11_LeaseProves_r11.eq_1
theorem e_law11_LeaseProves_r12 : type_of% f_law11_LeaseProves_r12.eq_1 := by_rfl f_law11_LeaseProves_r12.eq_1
theorem e_law11_LeaseProves_r13 : type_of% f_law11_LeaseProves_r13.eq_1 := by_rfl f_law11_LeaseProves_r13.eq_1
theorem e_law11_LeaseProves_r14 : type_of% f_law11_LeaseProves_r14.eq_1 := by_rfl f_law11_LeaseProves_r14.eq_1
theorem e_law11_LeaseProves_r15 : type_of% f_law11_LeaseProves_r15.eq_1 := by_rfl f_law11_LeaseProves_r15.eq_1
theorem e_law11_LeaseProves_r16 : type_of% f_law11_LeaseProves_r16.eq_1 := by_rfl f_law11_LeaseProves_r16.eq_1
theorem e_law11_LeaseProves_r17 : type_of% f_law11_LeaseProves_r17.eq_1 := by_rfl f_law11_LeaseProves_r17.eq_1
theorem e_law11_LeaseProves_r18 : type_of% f_law11_LeaseProves_r18.eq_1 := by_rfl f_law11_LeaseProves_r18.eq_1
theorem e_law11_LeaseProves_r19 : type_of% f_law11_LeaseProves_r19.eq_1 := by_rfl f_law11_LeaseProves_r19.eq_1
theorem e_law11_LeaseProves_r20 : type_of% f_law11_LeaseProves_r20.eq_1 := by_rfl f_law11_LeaseProves_r20.eq_1
theorem e_law11_LeaseProves_r21 : type_of% f_law11_LeaseProves_r21.eq_1 := by_rfl f_law11_LeaseProves_r21.eq_1
theorem e_law11_LeaseProves_r22 : type_of% f_law11_LeaseProves_r22.eq_1 := by_rfl f_law11_LeaseProves_r22.eq_1
theorem e_law11_LeaseProves_r23 : type_of% f_law11_LeaseProves_r23.eq_1 := by_rfl f_law11_LeaseProves_r23.eq_1
theorem e_law11_LeaseProves_r24 : type_of% f_law11_LeaseProves_r24.eq_1 := by_rfl f_law11_LeaseProves_r24.eq_1
theorem e_law11_LeaseProves_r25 : type_of% f_law11_LeaseProves_r25.eq_1 := by_rfl f_law11_LeaseProves_r25.eq_1
theorem e_law11_LeaseProves_r26 : type_of% f_law11_LeaseProves_r26.eq_1 := by_rfl f_law11_LeaseProves_r26.eq_1
theorem e_law11_LeaseProves_r27 : type_of% f_law11_LeaseProves_r27.eq_1 := by_rfl f_law11_LeaseProves_r27.eq_1
theorem e_law11_LeaseProves_r28 : type_of% f_law11_LeaseProves_r28.eq_1 := by_rfl f_law11_LeaseProves_r28.eq_1
theorem e_law11_LeaseProves : type_of% f_law11_LeaseProves.eq_1 := by_rfl f_law11_LeaseProves.eq_1
theorem ok_law11_LeaseProves : fnC Tryz.prog a_law11_LeaseProves Tryz.f6 = some f_law11_LeaseProves := by kernel_rfl

/-! 10 fumarole/fumaroleref11.RightProgramme -/
def f_ref11_RightProgramme_r0 : List Abs.Op := [
  ⟨some 1, none, false, .boxi (.t 0)⟩,
  ⟨some 2, none, false, .mv (.c (.bool false))⟩]

def f_ref11_RightProgramme_r1 : List Abs.Op := [
  ⟨some 4, none, false, .fadr 0 (.t 1)⟩,
  ⟨some 5, none, false, .ld false 1 (.t 4)⟩,
  ⟨some 6, none, false, .call false (.c (.fn i_ref11_In [] [])) [(.t 5), (.c (.int .i64 0)), (.c (.int .i64 1000000))]⟩,
  ⟨some 7, none, false, .un .not (.t 6)⟩,
  ⟨some 8, none, false, .mv (.t 7)⟩,
  ⟨some 9, some (8, false), false, .fadr 1 (.t 1)⟩,
  ⟨some 10, some (8, false), false, .ld false 1 (.t 9)⟩,
  ⟨some 11, some (8, false), false, .call false (.c (.fn i_ref11_In [] [])) [(.t 10), (.c (.int .i64 1)), (.c (.int .i64 1000000))]⟩,
  ⟨some 12, some (8, false), false, .un .not (.t 11)⟩,
  ⟨some 13, none, false, .pick (.t 8) (.c (.bool true)) (.t 12)⟩,
  ⟨some 14, none, false, .mv (.t 13)⟩,
  ⟨some 15, some (14, false), false, .fadr 2 (.t 1)⟩,
  ⟨some 16, some (14, false), false, .ld false 1 (.t 15)⟩,
  ⟨some 17, some (14, false), false, .call false (.c (.fn i_ref11_In [] [])) [(.t 16), (.c (.int .i64 0)), (.c (.int .i64 1000))]⟩,
  ⟨some 18, some (14, false), false, .un .not (.t 17)⟩,
  ⟨some 19, none, false, .pick (.t 14) (.c (.bool true)) (.t 18)⟩,
  ⟨some 20, none, false, .mv (.t 19)⟩,
  ⟨some 21, some (20, false), false, .fadr 3 (.t 1)⟩,
  ⟨some 22, some (20, false), false, .ld false 1 (.t 21)⟩,
  ⟨some 23, some (20, false), false, .call false (.c (.fn i_ref11_In [] [])) [(.t 22), (.c (.int .i64 0)), (.c (.int .i64 3))]⟩,
  ⟨some 24, some (20, false), false, .un .not (.t 23)⟩,
  ⟨some 25, none, false, .pick (.t 20) (.c (.bool true)) (.t 24)⟩,
  ⟨some 26, none, false, .mv (.t 25)⟩,
  ⟨some 27, some (26, false), false, .fadr 4 (.t 1)⟩,
  ⟨some 28, some (26, false), false, .ld false 1 (.t 27)⟩,
  ⟨some 29, some (26, false), false, .lenS (.t 28)⟩,
  ⟨some 30, some (26, false), false, .call false (.c (.fn i_ref11_In [] [])) [(.t 29), (.c (.int .i64 1)), (.c (.int .i64 8))]⟩,
  ⟨some 31, some (26, false), false, .un .not (.t 30)⟩,
  ⟨some 32, none, false, .pick (.t 26) (.c (.bool true)) (.t 31)⟩]

def f_ref11_RightProgramme_r2 : List Abs.Op := [
  ⟨some 2, none, false, .mv (.c (.bool false))⟩]

def f_ref11_RightProgramme_r3 : List Abs.Op := [
  ⟨some 3, none, false, .mv (.c (.int .i64 0))⟩]

def f_ref11_RightProgramme_r4 : List Abs.Op := [
  ⟨some 33, none, false, .mv (.t 3)⟩,
  ⟨some 34, none, false, .fadr 4 (.t 1)⟩,
  ⟨some 35, none, false, .ld false 1 (.t 34)⟩,
  ⟨some 36, none, false, .lenS (.t 35)⟩,
  ⟨some 37, none, false, .bin .lss (.t 33) (.t 36)⟩]

def f_ref11_RightProgramme_r5 : List Abs.Op := [
  ⟨some 40, none, false, .fadr 4 (.t 1)⟩,
  ⟨some 41, none, false, .ld false 1 (.t 40)⟩,
  ⟨some 42, none, false, .mv (.t 3)⟩,
  ⟨some 43, none, false, .idxS 2 (.t 41) (.t 42)⟩,
  ⟨some 44, none, false, .fadr 0 (.t 43)⟩,
  ⟨some 45, none, false, .ld false 1 (.t 44)⟩,
  ⟨some 46, none, false, .call false (.c (.fn i_ref11_In [] [])) [(.t 45), (.c (.int .i64 0)), (.c (.int .i64 30000000))]⟩,
  ⟨some 47, none, false, .un .not (.t 46)⟩,
  ⟨some 48, none, false, .mv (.t 47)⟩,
  ⟨some 49, some (48, false), false, .fadr 4 (.t 1)⟩,
  ⟨some 50, some (48, false), false, .ld false 1 (.t 49)⟩,
  ⟨some 51, some (48, false), false, .mv (.t 3)⟩,
  ⟨some 52, some (48, false), false, .idxS 2 (.t 50) (.t 51)⟩,
  ⟨some 53, some (48, false), false, .fadr 1 (.t 52)⟩,
  ⟨some 54, some (48, false), false, .ld false 1 (.t 53)⟩,
  ⟨some 55, some (48, false), false, .call false (.c (.fn i_ref11_In [] [])) [(.t 54), (.c (.int .i64 0)), (.c (.int .i64 1000000))]⟩,
  ⟨some 56, some (48, false), false, .un .not (.t 55)⟩,
  ⟨some 57, none, false, .pick (.t 48) (.c (.bool true)) (.t 56)⟩]

def f_ref11_RightProgramme_r6 : List Abs.Op := [
  ⟨some 2, none, false, .mv (.c (.bool false))⟩]

def f_ref11_RightProgramme_r7 : List Abs.Op := [
  ⟨some 38, none, false, .mv (.t 3)⟩,
  ⟨some 39, none, false, .bin .add (.t 38) (.c (.int .i64 1))⟩,
  ⟨some 3, none, false, .mv (.t 39)⟩]

def f_ref11_RightProgramme_l8 : Abs.Cmd :=
  (.seq (.seq (.reg [1, 3, 37] f_ref11_RightProgramme_r4) (.ite (.t 37) .nop (.exit 0))) (.seq (.blk 1 (.seq (.reg [1, 3, 57] f_ref11_RightProgramme_r5) (.ite (.t 57) (.seq (.reg [2] f_ref11_RightProgramme_r6) .ret) .nop))) (.reg [1, 3] f_ref11_RightProgramme_r7)))

def f_ref11_RightProgramme_r9 : List Abs.Op := [
  ⟨some 2, none, false, .mv (.c (.bool true))⟩]

def a_ref11_RightProgramme : Ann := ⟨[(8, [2]), (5, [1, 3]), (7, [2]), (6, [1, 3, 57]), (4, [1, 3, 37]), (3, [1, 3]), (2, [2]), (1, [1, 32]), (0, [1])], [(0, [1, 3])], [], [], [], [], [], [], [], []⟩
def f_ref11_RightProgramme : Abs.Fn := ⟨1, [.t 2],
  (.seq (.reg [1] f_ref11_RightProgramme_r0) (.seq (.seq (.reg [1, 32] f_ref11_RightProgramme_r1) (.ite (.t 32) (.seq (.reg [2] f_ref11_RightProgramme_r2) .ret) .nop)) (.seq (.seq (.reg [1, 3] f_ref11_RightProgramme_r3) (.blk 0 (.loop [1, 3] false f_ref11_RightProgramme_l8))) (.seq (.reg [2] f_ref11_RightProgramme_r9) .ret))))⟩

theorem e_ref11_RightProgramme_r0 : type_of% f_ref11_RightProgramme_r0.eq_1 := by_rfl f_ref11_RightProgramme_r0.eq_1
theorem e_ref11_RightProgramme_r1 : type_of% f_ref11_RightProgramme_r1.eq_1 := by_rfl f_ref11_RightProgramme_r1.eq_1
theorem e_ref11_RightProgramme_r2 : type_of% f_ref11_RightProgramme_r2.eq_1 := by_rfl f_ref11_RightProgramme_r2.eq_1
theorem e_ref11_RightProgramme_r3 : type_of% f_ref11_RightProgramme_r3.eq_1 := by_rfl f_ref11_RightProgramme_r3.eq_1
theorem e_ref11_RightProgramme_r4 : type_of% f_ref11_RightProgramme_r4.eq_1 := by_rfl f_ref11_RightProgramme_r4.eq_1
theorem e_ref11_RightProgramme_r5 : type_of% f_ref11_RightProgramme_r5.eq_1 := by_rfl f_ref11_RightProgramme_r5.eq_1
theorem e_ref11_RightProgramme_r6 : type_of% f_ref11_RightProgramme_r6.eq_1 := by_rfl f_ref11_RightProgramme_r6.eq_1
theorem e_ref11_RightProgramme_r7 : type_of% f_ref11_RightProgramme_r7.eq_1 := by_rfl f_ref11_RightProgramme_r7.eq_1
theorem e_ref11_RightProgramme_l8 : type_of% f_ref11_RightProgramme_l8.eq_1 := by_rfl f_ref11_RightProgramme_l8.eq_1
theorem e_ref11_RightProgramme_r9 : type_of% f_ref11_RightProgramme_r9.eq_1 := by_rfl f_ref11_RightProgramme_r9.eq_1
theorem e_ref11_RightProgramme : type_of% f_ref11_RightProgramme.eq_1 := by_rfl f_ref11_RightProgramme.eq_1
theorem ok_ref11_RightProgramme : fnC Tryz.prog a_ref11_RightProgramme Tryz.f10 = some f_ref11_RightProgramme := by kernel_rfl

/-! 11 fumarole/fumarolelaw11.wakes -/
def f_law11_wakes_r0 : List Abs.Op := [
  ⟨some 0, none, false, .mv (.c (.bool false))⟩]

def f_law11_wakes_r1 : List Abs.Op := [
  ⟨some 13, none, false, .call false (.c (.fn i_law11_tracts [] [])) []⟩,
  ⟨some 14, none, false, .bsi 2 1 [(.int .i64 0), (.int .i64 0)] [(0, 1, (.c (.int .i64 10))), (1, 1, (.c (.int .i64 7)))]⟩,
  ⟨some 15, none, false, .call false (.c (.fn i_lease_Due [] [])) [(.t 13), (.t 14)]⟩,
  ⟨some 12, none, false, .mv (.t 15)⟩,
  ⟨some 16, none, false, .ext (.t 12) 0⟩,
  ⟨some 17, none, false, .ext (.t 12) 1⟩,
  ⟨some 18, none, false, .ext (.t 12) 2⟩,
  ⟨some 1, none, false, .mv (.t 16)⟩,
  ⟨some 2, none, false, .mv (.t 17)⟩,
  ⟨some 3, none, false, .mv (.t 18)⟩]

def f_law11_wakes_r2 : List Abs.Op := [
  ⟨some 20, none, false, .bsi 3 1 [(.int .i64 0), (.int .i64 0), (.int .i64 0)] [(0, 1, (.c (.int .i64 1))), (1, 1, (.c (.int .i64 1))), (2, 1, (.c (.int .i64 1)))]⟩,
  ⟨some 21, none, false, .call false (.c (.fn i_lease_Split [] [])) [(.c (.int .i64 10)), (.t 20)]⟩,
  ⟨some 19, none, false, .mv (.t 21)⟩,
  ⟨some 22, none, false, .ext (.t 19) 0⟩,
  ⟨some 23, none, false, .ext (.t 19) 1⟩,
  ⟨some 4, none, false, .mv (.t 22)⟩,
  ⟨some 5, none, false, .mv (.t 23)⟩]

def f_law11_wakes_r3 : List Abs.Op := [
  ⟨some 25, none, false, .call false (.c (.fn i_law11_pool [] [])) []⟩,
  ⟨some 26, none, false, .bsi 2 1 [(.int .i64 0), (.int .i64 0)] [(0, 1, (.c (.int .i64 4))), (1, 1, (.c (.int .i64 10)))]⟩,
  ⟨some 27, none, false, .call false (.c (.fn i_lease_Room [] [])) [(.t 25), (.t 26), (.c (.int .i64 1))]⟩,
  ⟨some 24, none, false, .mv (.t 27)⟩,
  ⟨some 28, none, false, .ext (.t 24) 0⟩,
  ⟨some 29, none, false, .ext (.t 24) 1⟩,
  ⟨some 6, none, false, .mv (.t 28)⟩,
  ⟨some 7, none, false, .mv (.t 29)⟩]

def f_law11_wakes_r4 : List Abs.Op := [
  ⟨some 31, none, false, .call false (.c (.fn i_law11_drilled [] [])) []⟩,
  ⟨some 32, none, false, .call false (.c (.fn i_lease_Drill [] [])) [(.t 31)]⟩,
  ⟨some 30, none, false, .mv (.t 32)⟩,
  ⟨some 33, none, false, .ext (.t 30) 0⟩,
  ⟨some 34, none, false, .ext (.t 30) 1⟩,
  ⟨some 35, none, false, .ext (.t 30) 2⟩,
  ⟨some 36, none, false, .ext (.t 30) 3⟩,
  ⟨some 8, none, false, .mv (.t 33)⟩,
  ⟨some 9, none, false, .mv (.t 34)⟩,
  ⟨some 10, none, false, .mv (.t 35)⟩,
  ⟨some 11, none, false, .mv (.t 36)⟩]

def f_law11_wakes_r5 : List Abs.Op := [
  ⟨some 37, none, false, .mv (.t 3)⟩,
  ⟨some 38, none, false, .bin .eql (.t 37) (.c (.int .i64 0))⟩,
  ⟨some 39, none, false, .mv (.t 38)⟩,
  ⟨some 40, some (39, true), false, .mv (.t 5)⟩,
  ⟨some 41, some (39, true), false, .bin .eql (.t 40) (.c (.int .i64 0))⟩,
  ⟨some 42, none, false, .pick (.t 39) (.t 41) (.c (.bool false))⟩,
  ⟨some 43, none, false, .mv (.t 42)⟩,
  ⟨some 44, some (43, true), false, .mv (.t 7)⟩,
  ⟨some 45, some (43, true), false, .bin .eql (.t 44) (.c (.int .i64 0))⟩,
  ⟨some 46, none, false, .pick (.t 43) (.t 45) (.c (.bool false))⟩,
  ⟨some 47, none, false, .mv (.t 46)⟩,
  ⟨some 48, some (47, true), false, .mv (.t 11)⟩,
  ⟨some 49, some (47, true), false, .bin .eql (.t 48) (.c (.int .i64 0))⟩,
  ⟨some 50, none, false, .pick (.t 47) (.t 49) (.c (.bool false))⟩,
  ⟨some 51, none, false, .mv (.t 50)⟩,
  ⟨some 52, some (51, true), false, .mv (.t 1)⟩,
  ⟨some 53, some (51, true), false, .bsi 3 1 [(.int .i64 0), (.int .i64 0), (.int .i64 0)] [(0, 1, (.c (.int .i64 6))), (1, 1, (.c (.int .i64 6))), (2, 1, (.c (.int .i64 1)))]⟩,
  ⟨some 54, some (51, true), false, .call false (.c (.fn i_law11_ints [] [])) [(.t 52), (.t 53)]⟩,
  ⟨some 55, none, false, .pick (.t 51) (.t 54) (.c (.bool false))⟩,
  ⟨some 56, none, false, .mv (.t 55)⟩,
  ⟨some 57, some (56, true), false, .mv (.t 2)⟩,
  ⟨some 58, some (56, true), false, .bin .eql (.t 57) (.c (.int .i64 4))⟩,
  ⟨some 59, none, false, .pick (.t 56) (.t 58) (.c (.bool false))⟩,
  ⟨some 60, none, false, .mv (.t 59)⟩,
  ⟨some 61, some (60, true), false, .mv (.t 4)⟩,
  ⟨some 62, some (60, true), false, .bsi 3 1 [(.int .i64 0), (.int .i64 0), (.int .i64 0)] [(0, 1, (.c (.int .i64 4))), (1, 1, (.c (.int .i64 3))), (2, 1, (.c (.int .i64 3)))]⟩,
  ⟨some 63, some (60, true), false, .call false (.c (.fn i_law11_ints [] [])) [(.t 61), (.t 62)]⟩,
  ⟨some 64, none, false, .pick (.t 60) (.t 63) (.c (.bool false))⟩,
  ⟨some 65, none, false, .mv (.t 64)⟩,
  ⟨some 66, some (65, true), false, .mv (.t 6)⟩,
  ⟨some 67, some (65, true), false, .bin .eql (.t 66) (.c (.int .i64 14))⟩,
  ⟨some 68, none, false, .pick (.t 65) (.t 67) (.c (.bool false))⟩,
  ⟨some 69, none, false, .mv (.t 68)⟩,
  ⟨some 70, some (69, true), false, .mv (.t 8)⟩,
  ⟨some 71, some (69, true), false, .bsi 3 1 [(.int .i64 0), (.int .i64 0), (.int .i64 0)] [(0, 1, (.c (.int .i64 1))), (1, 1, (.c (.int .i64 1))), (2, 1, (.c (.int .i64 0)))]⟩,
  ⟨some 72, some (69, true), false, .call false (.c (.fn i_law11_ints [] [])) [(.t 70), (.t 71)]⟩,
  ⟨some 73, none, false, .pick (.t 69) (.t 72) (.c (.bool false))⟩,
  ⟨some 74, none, false, .mv (.t 73)⟩,
  ⟨some 75, some (74, true), false, .mv (.t 9)⟩,
  ⟨some 76, some (74, true), false, .bin .eql (.t 75) (.c (.int .i64 9))⟩,
  ⟨some 77, none, false, .pick (.t 74) (.t 76) (.c (.bool false))⟩,
  ⟨some 0, none, false, .mv (.t 77)⟩]

def a_law11_wakes : Ann := ⟨[(5, [0]), (4, [1, 2, 3, 4, 5, 6, 7, 8, 9, 11]), (3, [1, 2, 3, 4, 5, 6, 7]), (2, [1, 2, 3, 4, 5]), (1, [1, 2, 3]), (0, [])], [], [], [], [], [], [], [], [], []⟩
def f_law11_wakes : Abs.Fn := ⟨0, [.t 0],
  (.seq (.reg [] f_law11_wakes_r0) (.seq (.reg [1, 2, 3] f_law11_wakes_r1) (.seq (.reg [1, 2, 3, 4, 5] f_law11_wakes_r2) (.seq (.reg [1, 2, 3, 4, 5, 6, 7] f_law11_wakes_r3) (.seq (.reg [1, 2, 3, 4, 5, 6, 7, 8, 9, 11] f_law11_wakes_r4) (.seq (.reg [0] f_law11_wakes_r5) .ret))))))⟩

theorem e_law11_wakes_r0 : type_of% f_law11_wakes_r0.eq_1 := by_rfl f_law11_wakes_r0.eq_1
theorem e_law11_wakes_r1 : type_of% f_law11_wakes_r1.eq_1 := by_rfl f_law11_wakes_r1.eq_1
theorem e_law11_wakes_r2 : type_of% f_law11_wakes_r2.eq_1 := by_rfl f_law11_wakes_r2.eq_1
theorem e_law11_wakes_r3 : type_of% f_law11_wakes_r3.eq_1 := by_rfl f_law11_wakes_r3.eq_1
theorem e_law11_wakes_r4 : type_of% f_law11_wakes_r4.eq_1 := by_rfl f_law11_wakes_r4.eq_1
theorem e_law11_wakes_r5 : type_of% f_law11_wakes_r5.eq_1 := by_rfl f_law11_wakes_r5.eq_1
theorem e_law11_wakes : type_of% f_law11_wakes.eq_1 := by_rfl f_law11_wakes.eq_1
theorem ok_law11_wakes : fnC Tryz.prog a_law11_wakes Tryz.f11 = some f_law11_wakes := by kernel_rfl

/-! 12 fumarole/lease.Drill -/
def f_lease_Drill_r0 : List Abs.Op := [
  ⟨some 1, none, false, .boxi (.t 0)⟩,
  ⟨some 2, none, false, .nilb 1⟩,
  ⟨some 3, none, false, .mv (.c (.int .i64 0))⟩,
  ⟨some 4, none, false, .nilb 1⟩,
  ⟨some 5, none, false, .mv (.c (.int .i64 0))⟩]

def f_lease_Drill_r1 : List Abs.Op := [
  ⟨some 15, none, false, .ld true 5 (.t 1)⟩,
  ⟨some 16, none, false, .call false (.c (.fn i_lease_Programme_valid [] [])) [(.t 15)]⟩,
  ⟨some 17, none, false, .un .not (.t 16)⟩]

def f_lease_Drill_r2 : List Abs.Op := [
  ⟨some 2, none, false, .nilb 1⟩,
  ⟨some 3, none, false, .mv (.c (.int .i64 0))⟩,
  ⟨some 4, none, false, .nilb 1⟩,
  ⟨some 5, none, false, .mv (.c (.int .i64 1))⟩]

def f_lease_Drill_r3 : List Abs.Op := [
  ⟨some 18, none, false, .ld true 5 (.t 1)⟩,
  ⟨some 19, none, false, .bld [(.int .i64 0), (.int .i64 0), (.int .i64 0), (.int .i64 0), .nils] [(0, 5, (.t 18))]⟩,
  ⟨some 6, none, false, .alcv [] [(.int .i64 0), (.int .i64 0), (.int .i64 0), (.int .i64 0), .nils]⟩,
  ⟨none, none, false, .stv 6 [] 5 6 (.t 19)⟩]

def f_lease_Drill_r4 : List Abs.Op := [
  ⟨some 20, none, false, .ldv 6 true 5 6⟩,
  ⟨some 21, none, false, .call false (.c (.fn i_lease_work_table [] [])) [(.t 20)]⟩,
  ⟨some 7, none, false, .mv (.t 21)⟩]

def f_lease_Drill_r5 : List Abs.Op := [
  ⟨some 22, none, true, .mv (.t 7)⟩,
  ⟨some 23, none, true, .idxS 1 (.t 22) (.c (.int .i64 0))⟩,
  ⟨some 24, none, true, .ld false 1 (.t 23)⟩,
  ⟨some 25, none, true, .fadr 0 (.t 1)⟩,
  ⟨some 26, none, true, .ld false 1 (.t 25)⟩,
  ⟨some 27, none, false, .call false (.c (.fn i_lease_ladder_at [] [])) [(.t 24), (.t 26)]⟩,
  ⟨some 3, none, false, .mv (.t 27)⟩]

def f_lease_Drill_r6 : List Abs.Op := [
  ⟨some 28, none, false, .mv (.t 3)⟩,
  ⟨some 29, none, false, .bin .eql (.t 28) (.c (.int .i64 1000000000000))⟩]

def f_lease_Drill_r7 : List Abs.Op := [
  ⟨some 2, none, false, .nilb 1⟩,
  ⟨some 3, none, false, .mv (.c (.int .i64 0))⟩,
  ⟨some 4, none, false, .nilb 1⟩,
  ⟨some 5, none, false, .mv (.c (.int .i64 7))⟩]

def f_lease_Drill_r8 : List Abs.Op := [
  ⟨some 30, none, false, .fadr 0 (.t 1)⟩,
  ⟨some 31, none, false, .ld false 1 (.t 30)⟩,
  ⟨some 8, none, false, .mv (.t 31)⟩]

def f_lease_Drill_r9 : List Abs.Op := [
  ⟨some 32, none, false, .fadr 4 (.t 1)⟩,
  ⟨some 33, none, false, .ld false 1 (.t 32)⟩,
  ⟨some 34, none, false, .lenS (.t 33)⟩,
  ⟨some 35, none, false, .mv (.c (.int .i64 0))⟩]

def f_lease_Drill_r10 : List Abs.Op := [
  ⟨some 36, none, false, .bin .lss (.t 35) (.t 34)⟩]

def f_lease_Drill_r11 : List Abs.Op := [
  ⟨some 37, none, false, .mv (.t 35)⟩,
  ⟨some 9, none, false, .mv (.t 37)⟩]

def f_lease_Drill_r12 : List Abs.Op := [
  ⟨some 38, none, false, .bld [(.int .i64 0), (.int .i64 0)] [(0, 1, (.c (.int .i64 100000000))), (1, 1, (.c (.int .i64 0)))]⟩,
  ⟨some 39, none, false, .bsi 1 2 [(.int .i64 0), (.int .i64 0)] [(0, 2, (.t 38))]⟩,
  ⟨some 10, none, false, .mv (.t 39)⟩]

def f_lease_Drill_r13 : List Abs.Op := [
  ⟨some 40, none, false, .mv (.t 9)⟩,
  ⟨some 41, none, false, .bin .add (.t 40) (.c (.int .i64 1))⟩,
  ⟨some 42, none, false, .mv (.t 7)⟩,
  ⟨some 43, none, false, .lenS (.t 42)⟩,
  ⟨some 44, none, false, .bin .lss (.t 41) (.t 43)⟩]

def f_lease_Drill_r14 : List Abs.Op := [
  ⟨some 45, none, false, .mv (.t 7)⟩,
  ⟨some 46, none, false, .mv (.t 9)⟩,
  ⟨some 47, none, false, .bin .add (.t 46) (.c (.int .i64 1))⟩,
  ⟨some 48, none, false, .idxS 1 (.t 45) (.t 47)⟩,
  ⟨some 49, none, false, .ld false 1 (.t 48)⟩,
  ⟨some 10, none, false, .mv (.t 49)⟩]

def f_lease_Drill_r15 : List Abs.Op := [
  ⟨some 50, none, false, .mv (.t 7)⟩,
  ⟨some 51, none, false, .mv (.t 9)⟩,
  ⟨some 52, none, false, .idxS 1 (.t 50) (.t 51)⟩,
  ⟨some 53, none, false, .ld false 1 (.t 52)⟩,
  ⟨some 54, none, false, .mv (.t 8)⟩,
  ⟨some 55, none, false, .call false (.c (.fn i_lease_ladder_at [] [])) [(.t 53), (.t 54)]⟩,
  ⟨some 11, none, false, .mv (.t 55)⟩]

def f_lease_Drill_r16 : List Abs.Op := [
  ⟨some 12, none, false, .mv (.c (.int .i64 0))⟩]

def f_lease_Drill_r17 : List Abs.Op := [
  ⟨some 56, none, true, .fadr 0 (.t 6)⟩,
  ⟨some 57, none, true, .ldv 6 true 5 56⟩,
  ⟨some 58, none, true, .mv (.t 9)⟩,
  ⟨some 59, none, true, .mv (.t 8)⟩,
  ⟨some 60, none, true, .mv (.t 12)⟩,
  ⟨some 61, none, true, .call false (.c (.fn i_lease_Programme_meets [] [])) [(.t 57), (.t 58), (.t 59), (.t 60)]⟩,
  ⟨some 62, none, true, .un .not (.t 61)⟩,
  ⟨some 63, none, true, .mv (.t 62)⟩,
  ⟨some 64, some (63, false), true, .fadr 0 (.t 6)⟩,
  ⟨some 65, some (63, false), true, .fadr 4 (.t 64)⟩,
  ⟨some 66, some (63, false), true, .ldv 6 false 1 65⟩,
  ⟨some 67, some (63, false), true, .mv (.t 9)⟩,
  ⟨some 68, some (63, false), true, .idxS 2 (.t 66) (.t 67)⟩,
  ⟨some 69, some (63, false), true, .ld true 2 (.t 68)⟩,
  ⟨some 70, some (63, false), true, .mv (.t 12)⟩,
  ⟨some 71, some (63, false), true, .call false (.c (.fn i_lease_Year_cost [] [])) [(.t 69), (.t 70)]⟩,
  ⟨some 72, some (63, false), true, .mv (.t 10)⟩,
  ⟨some 73, some (63, false), true, .fadr 0 (.t 6)⟩,
  ⟨some 74, some (63, false), true, .ldv 6 true 5 73⟩,
  ⟨some 75, some (63, false), true, .mv (.t 8)⟩,
  ⟨some 76, some (63, false), true, .mv (.t 12)⟩,
  ⟨some 77, some (63, false), true, .call false (.c (.fn i_lease_Programme_after [] [])) [(.t 74), (.t 75), (.t 76)]⟩,
  ⟨some 78, some (63, false), true, .call false (.c (.fn i_lease_ladder_at [] [])) [(.t 72), (.t 77)]⟩,
  ⟨some 79, some (63, false), true, .bin .add (.t 71) (.t 78)⟩,
  ⟨some 80, some (63, false), true, .mv (.t 11)⟩,
  ⟨some 81, some (63, false), false, .bin .neq (.t 79) (.t 80)⟩,
  ⟨some 82, none, false, .pick (.t 63) (.c (.bool true)) (.t 81)⟩]

def f_lease_Drill_r18 : List Abs.Op := [
  ⟨some 83, none, false, .mv (.t 12)⟩,
  ⟨some 84, none, false, .bin .add (.t 83) (.c (.int .i64 1))⟩,
  ⟨some 12, none, false, .mv (.t 84)⟩]

def f_lease_Drill_l19 : Abs.Cmd :=
  (.seq (.seq (.reg [2, 3, 4, 6, 7, 8, 9, 10, 11, 12, 34, 35, 82] f_lease_Drill_r17) (.ite (.t 82) .nop (.exit 2))) (.blk 3 (.reg [2, 3, 4, 6, 7, 8, 9, 10, 11, 12, 34, 35] f_lease_Drill_r18)))

def f_lease_Drill_r20 : List Abs.Op := [
  ⟨some 85, none, true, .mv (.t 2)⟩,
  ⟨some 86, none, true, .mv (.t 12)⟩,
  ⟨some 87, none, true, .bsi 1 1 [(.int .i64 0)] [(0, 1, (.t 86))]⟩,
  ⟨some 88, none, true, .app 1 8 (.t 85) (.t 87)⟩,
  ⟨some 89, none, true, .fadr 0 (.t 6)⟩,
  ⟨some 90, none, true, .ldv 6 true 5 89⟩,
  ⟨some 91, none, true, .mv (.t 8)⟩,
  ⟨some 92, none, true, .mv (.t 12)⟩,
  ⟨some 93, none, false, .call false (.c (.fn i_lease_Programme_after [] [])) [(.t 90), (.t 91), (.t 92)]⟩,
  ⟨some 2, none, false, .mv (.t 88)⟩,
  ⟨some 8, none, false, .mv (.t 93)⟩]

def f_lease_Drill_r21 : List Abs.Op := [
  ⟨some 94, none, false, .bin .add (.t 35) (.c (.int .i64 1))⟩,
  ⟨some 35, none, false, .mv (.t 94)⟩]

def f_lease_Drill_l22 : Abs.Cmd :=
  (.seq (.reg [2, 3, 4, 6, 7, 8, 34, 35, 36] f_lease_Drill_r10) (.seq (.ite (.t 36) .nop (.exit 0)) (.seq (.blk 1 (.seq (.reg [2, 3, 4, 6, 7, 8, 9, 34, 35] f_lease_Drill_r11) (.seq (.reg [2, 3, 4, 6, 7, 8, 9, 10, 34, 35] f_lease_Drill_r12) (.seq (.seq (.reg [2, 3, 4, 6, 7, 8, 9, 10, 34, 35, 44] f_lease_Drill_r13) (.ite (.t 44) (.reg [2, 3, 4, 6, 7, 8, 9, 10, 34, 35] f_lease_Drill_r14) .nop)) (.seq (.reg [2, 3, 4, 6, 7, 8, 9, 10, 11, 34, 35] f_lease_Drill_r15) (.seq (.reg [2, 3, 4, 6, 7, 8, 9, 10, 11, 12, 34, 35] f_lease_Drill_r16) (.seq (.blk 2 (.loop [2, 3, 4, 6, 7, 8, 9, 10, 11, 12, 34, 35] false f_lease_Drill_l19)) (.reg [2, 3, 4, 6, 7, 8, 34, 35] f_lease_Drill_r20)))))))) (.reg [2, 3, 4, 6, 7, 8, 34, 35] f_lease_Drill_r21))))

def f_lease_Drill_r23 : List Abs.Op := [
  ⟨some 95, none, false, .mv (.t 7)⟩,
  ⟨some 96, none, false, .lenS (.t 95)⟩,
  ⟨some 97, none, false, .mv (.c (.int .i64 0))⟩]

def f_lease_Drill_r24 : List Abs.Op := [
  ⟨some 98, none, false, .bin .lss (.t 97) (.t 96)⟩]

def f_lease_Drill_r25 : List Abs.Op := [
  ⟨some 99, none, false, .idxS 1 (.t 95) (.t 97)⟩,
  ⟨some 100, none, false, .ld false 1 (.t 99)⟩,
  ⟨some 14, none, false, .mv (.t 100)⟩]

def f_lease_Drill_r26 : List Abs.Op := [
  ⟨some 101, none, false, .mv (.t 4)⟩,
  ⟨some 102, none, false, .mv (.t 14)⟩,
  ⟨some 103, none, false, .bsi 1 1 [.nils] [(0, 1, (.t 102))]⟩,
  ⟨some 104, none, false, .app 1 24 (.t 101) (.t 103)⟩,
  ⟨some 4, none, false, .mv (.t 104)⟩]

def f_lease_Drill_r27 : List Abs.Op := [
  ⟨some 105, none, false, .bin .add (.t 97) (.c (.int .i64 1))⟩,
  ⟨some 97, none, false, .mv (.t 105)⟩]

def f_lease_Drill_l28 : Abs.Cmd :=
  (.seq (.reg [2, 3, 4, 95, 96, 97, 98] f_lease_Drill_r24) (.seq (.ite (.t 98) .nop (.exit 4)) (.seq (.blk 5 (.seq (.reg [2, 3, 4, 14, 95, 96, 97] f_lease_Drill_r25) (.reg [2, 3, 4, 95, 96, 97] f_lease_Drill_r26))) (.reg [2, 3, 4, 95, 96, 97] f_lease_Drill_r27))))

def f_lease_Drill_r29 : List Abs.Op := [
  ⟨some 106, none, false, .mv (.t 2)⟩,
  ⟨some 107, none, false, .mv (.t 3)⟩,
  ⟨some 108, none, false, .mv (.t 4)⟩,
  ⟨some 2, none, false, .mv (.t 106)⟩,
  ⟨some 3, none, false, .mv (.t 107)⟩,
  ⟨some 4, none, false, .mv (.t 108)⟩,
  ⟨some 5, none, false, .mv (.c (.int .i64 0))⟩]

def a_lease_Drill : Ann := ⟨[(26, [2, 3, 4, 5]), (25, [2, 3, 4, 95, 96, 97]), (24, [2, 3, 4, 95, 96, 97]), (23, [2, 3, 4, 14, 95, 96, 97]), (22, [2, 3, 4, 95, 96, 97, 98]), (21, [2, 3, 4, 95, 96, 97]), (20, [2, 3, 4, 6, 7, 8, 34, 35]), (19, [2, 3, 4, 6, 7, 8, 34, 35]), (18, [2, 3, 4, 6, 7, 8, 9, 10, 11, 12, 34, 35]), (17, [2, 3, 4, 6, 7, 8, 9, 10, 11, 12, 34, 35, 82]), (16, [2, 3, 4, 6, 7, 8, 9, 10, 11, 12, 34, 35]), (15, [2, 3, 4, 6, 7, 8, 9, 10, 11, 34, 35]), (14, [2, 3, 4, 6, 7, 8, 9, 10, 34, 35]), (13, [2, 3, 4, 6, 7, 8, 9, 10, 34, 35, 44]), (12, [2, 3, 4, 6, 7, 8, 9, 10, 34, 35]), (11, [2, 3, 4, 6, 7, 8, 9, 34, 35]), (10, [2, 3, 4, 6, 7, 8, 34, 35, 36]), (9, [2, 3, 4, 6, 7, 8, 34, 35]), (8, [1, 2, 3, 4, 6, 7, 8]), (7, [2, 3, 4, 5]), (6, [1, 2, 3, 4, 6, 7, 29]), (5, [1, 2, 3, 4, 6, 7]), (4, [1, 2, 4, 6, 7]), (3, [1, 2, 4, 6]), (2, [2, 3, 4, 5]), (1, [1, 2, 4, 17]), (0, [1, 2, 4])], [(4, [2, 3, 4, 95, 96, 97]), (2, [2, 3, 4, 6, 7, 8, 9, 10, 11, 12, 34, 35]), (0, [2, 3, 4, 6, 7, 8, 34, 35])], [], [2, 4, 6], [6], [], [], [], [], []⟩
def f_lease_Drill : Abs.Fn := ⟨1, [.t 2, .t 3, .t 4, .t 5],
  (.seq (.reg [1, 2, 4] f_lease_Drill_r0) (.seq (.seq (.reg [1, 2, 4, 17] f_lease_Drill_r1) (.ite (.t 17) (.seq (.reg [2, 3, 4, 5] f_lease_Drill_r2) .ret) .nop)) (.seq (.reg [1, 2, 4, 6] f_lease_Drill_r3) (.seq (.reg [1, 2, 4, 6, 7] f_lease_Drill_r4) (.seq (.reg [1, 2, 3, 4, 6, 7] f_lease_Drill_r5) (.seq (.seq (.reg [1, 2, 3, 4, 6, 7, 29] f_lease_Drill_r6) (.ite (.t 29) (.seq (.reg [2, 3, 4, 5] f_lease_Drill_r7) .ret) .nop)) (.seq (.reg [1, 2, 3, 4, 6, 7, 8] f_lease_Drill_r8) (.seq (.seq (.reg [2, 3, 4, 6, 7, 8, 34, 35] f_lease_Drill_r9) (.blk 0 (.loop [2, 3, 4, 6, 7, 8, 34, 35] false f_lease_Drill_l22))) (.seq (.seq (.reg [2, 3, 4, 95, 96, 97] f_lease_Drill_r23) (.blk 4 (.loop [2, 3, 4, 95, 96, 97] false f_lease_Drill_l28))) (.seq (.reg [2, 3, 4, 5] f_lease_Drill_r29) .ret))))))))))⟩

theorem e_lease_Drill_r0 : type_of% f_lease_Drill_r0.eq_1 := by_rfl f_lease_Drill_r0.eq_1
theorem e_lease_Drill_r1 : type_of% f_lease_Drill_r1.eq_1 := by_rfl f_lease_Drill_r1.eq_1
theorem e_lease_Drill_r2 : type_of% f_lease_Drill_r2.eq_1 := by_rfl f_lease_Drill_r2.eq_1
theorem e_lease_Drill_r3 : type_of% f_lease_Drill_r3.eq_1 := by_rfl f_lease_Drill_r3.eq_1
theorem e_lease_Drill_r4 : type_of% f_lease_Drill_r4.eq_1 := by_rfl f_lease_Drill_r4.eq_1
theorem e_lease_Drill_r5 : type_of% f_lease_Drill_r5.eq_1 := by_rfl f_lease_Drill_r5.eq_1
theorem e_lease_Drill_r6 : type_of% f_lease_Drill_r6.eq_1 := by_rfl f_lease_Drill_r6.eq_1
theorem e_lease_Drill_r7 : type_of% f_lease_Drill_r7.eq_1 := by_rfl f_lease_Drill_r7.eq_1
theorem e_lease_Drill_r8 : type_of% f_lease_Drill_r8.eq_1 := by_rfl f_lease_Drill_r8.eq_1
theorem e_lease_Drill_r9 : type_of% f_lease_Drill_r9.eq_1 := by_rfl f_lease_Drill_r9.eq_1
theorem e_lease_Drill_r10 : type_of% f_lease_Drill_r10.eq_1 := by_rfl f_lease_Drill_r10.eq_1
theorem e_lease_Drill_r11 : type_of% f_lease_Drill_r11.eq_1 := by_rfl f_lease_Drill_r11.eq_1
theorem e_lease_Drill_r12 : type_of% f_lease_Drill_r12.eq_1 := by_rfl f_lease_Drill_r12.eq_1
theorem e_lease_Drill_r13 : type_of% f_lease_Drill_r13.eq_1 := by_rfl f_lease_Drill_r13.eq_1
theorem e_lease_Drill_r14 : type_of% f_lease_Drill_r14.eq_1 := by_rfl f_lease_Drill_r14.eq_1
theorem e_lease_Drill_r15 : type_of% f_lease_Drill_r15.eq_1 := by_rfl f_lease_Drill_r15.eq_1
theorem e_lease_Drill_r16 : type_of% f_lease_Drill_r16.eq_1 := by_rfl f_lease_Drill_r16.eq_1
theorem e_lease_Drill_r17 : type_of% f_lease_Drill_r17.eq_1 := by_rfl f_lease_Drill_r17.eq_1
theorem e_lease_Drill_r18 : type_of% f_lease_Drill_r18.eq_1 := by_rfl f_lease_Drill_r18.eq_1
theorem e_lease_Drill_l19 : type_of% f_lease_Drill_l19.eq_1 := by_rfl f_lease_Drill_l19.eq_1
theorem e_lease_Drill_r20 : type_of% f_lease_Drill_r20.eq_1 := by_rfl f_lease_Drill_r20.eq_1
theorem e_lease_Drill_r21 : type_of% f_lease_Drill_r21.eq_1 := by_rfl f_lease_Drill_r21.eq_1
theorem e_lease_Drill_l22 : type_of% f_lease_Drill_l22.eq_1 := by_rfl f_lease_Drill_l22.eq_1
theorem e_lease_Drill_r23 : type_of% f_lease_Drill_r23.eq_1 := by_rfl f_lease_Drill_r23.eq_1
theorem e_lease_Drill_r24 : type_of% f_lease_Drill_r24.eq_1 := by_rfl f_lease_Drill_r24.eq_1
theorem e_lease_Drill_r25 : type_of% f_lease_Drill_r25.eq_1 := by_rfl f_lease_Drill_r25.eq_1
theorem e_lease_Drill_r26 : type_of% f_lease_Drill_r26.eq_1 := by_rfl f_lease_Drill_r26.eq_1
theorem e_lease_Drill_r27 : type_of% f_lease_Drill_r27.eq_1 := by_rfl f_lease_Drill_r27.eq_1
theorem e_lease_Drill_l28 : type_of% f_lease_Drill_l28.eq_1 := by_rfl f_lease_Drill_l28.eq_1
theorem e_lease_Drill_r29 : type_of% f_lease_Drill_r29.eq_1 := by_rfl f_lease_Drill_r29.eq_1
theorem e_lease_Drill : type_of% f_lease_Drill.eq_1 := by_rfl f_lease_Drill.eq_1
theorem ok_lease_Drill : fnC Tryz.prog a_lease_Drill Tryz.f12 = some f_lease_Drill := by kernel_rfl

/-! 13 fumarole/fumarolelaw11.Programme -/
def f_law11_Programme_r0 : List Abs.Op := [
  ⟨some 1, none, false, .boxi (.t 0)⟩,
  ⟨some 2, none, false, .alcv [] [(.int .i64 0), (.int .i64 0), (.int .i64 0), (.int .i64 0), .nils]⟩]

def f_law11_Programme_r1 : List Abs.Op := [
  ⟨some 5, none, false, .fadr 0 (.t 1)⟩,
  ⟨some 6, none, false, .ld false 1 (.t 5)⟩,
  ⟨some 7, none, false, .fadr 1 (.t 1)⟩,
  ⟨some 8, none, false, .ld false 1 (.t 7)⟩,
  ⟨some 9, none, false, .fadr 2 (.t 1)⟩,
  ⟨some 10, none, false, .ld false 1 (.t 9)⟩,
  ⟨some 11, none, false, .fadr 3 (.t 1)⟩,
  ⟨some 12, none, false, .ld false 1 (.t 11)⟩,
  ⟨some 13, none, false, .bld [(.int .i64 0), (.int .i64 0), (.int .i64 0), (.int .i64 0), .nils] [(0, 1, (.t 6)), (1, 1, (.t 8)), (2, 1, (.t 10)), (3, 1, (.t 12))]⟩,
  ⟨some 3, none, false, .alcv [] [(.int .i64 0), (.int .i64 0), (.int .i64 0), (.int .i64 0), .nils]⟩,
  ⟨none, none, false, .stv 3 [(4, 2)] 5 3 (.t 13)⟩]

def f_law11_Programme_r2 : List Abs.Op := [
  ⟨some 4, none, false, .mv (.c (.int .i64 0))⟩]

def f_law11_Programme_r3 : List Abs.Op := [
  ⟨some 14, none, false, .mv (.t 4)⟩,
  ⟨some 15, none, false, .fadr 4 (.t 1)⟩,
  ⟨some 16, none, false, .ld false 1 (.t 15)⟩,
  ⟨some 17, none, false, .lenS (.t 16)⟩,
  ⟨some 18, none, false, .bin .lss (.t 14) (.t 17)⟩]

def f_law11_Programme_r4 : List Abs.Op := [
  ⟨some 21, none, true, .fadr 4 (.t 3)⟩,
  ⟨some 22, none, true, .ldv 3 false 1 21⟩,
  ⟨some 23, none, true, .fadr 4 (.t 1)⟩,
  ⟨some 24, none, true, .ld false 1 (.t 23)⟩,
  ⟨some 25, none, true, .mv (.t 4)⟩,
  ⟨some 26, none, true, .idxS 2 (.t 24) (.t 25)⟩,
  ⟨some 27, none, true, .fadr 0 (.t 26)⟩,
  ⟨some 28, none, true, .ld false 1 (.t 27)⟩,
  ⟨some 29, none, true, .fadr 4 (.t 1)⟩,
  ⟨some 30, none, true, .ld false 1 (.t 29)⟩,
  ⟨some 31, none, true, .mv (.t 4)⟩,
  ⟨some 32, none, true, .idxS 2 (.t 30) (.t 31)⟩,
  ⟨some 33, none, true, .fadr 1 (.t 32)⟩,
  ⟨some 34, none, true, .ld false 1 (.t 33)⟩,
  ⟨some 35, none, true, .bld [(.int .i64 0), (.int .i64 0)] [(0, 1, (.t 28)), (1, 1, (.t 34))]⟩,
  ⟨some 36, none, true, .bsi 1 2 [(.int .i64 0), (.int .i64 0)] [(0, 2, (.t 35))]⟩,
  ⟨some 37, none, false, .app 2 16 (.t 22) (.t 36)⟩,
  ⟨some 38, none, false, .fadr 4 (.t 3)⟩,
  ⟨none, none, false, .stv 3 [(0, 2)] 1 38 (.t 37)⟩]

def f_law11_Programme_r5 : List Abs.Op := [
  ⟨some 19, none, false, .mv (.t 4)⟩,
  ⟨some 20, none, false, .bin .add (.t 19) (.c (.int .i64 1))⟩,
  ⟨some 4, none, false, .mv (.t 20)⟩]

def f_law11_Programme_l6 : Abs.Cmd :=
  (.seq (.seq (.reg [1, 2, 3, 4, 18] f_law11_Programme_r3) (.ite (.t 18) .nop (.exit 0))) (.seq (.blk 1 (.reg [1, 2, 3, 4] f_law11_Programme_r4)) (.reg [1, 2, 3, 4] f_law11_Programme_r5)))

def f_law11_Programme_r7 : List Abs.Op := [
  ⟨some 39, none, false, .ldv 3 true 5 3⟩,
  ⟨none, none, false, .stv 2 [] 5 2 (.t 39)⟩]

def a_law11_Programme : Ann := ⟨[(6, [2]), (4, [1, 2, 3, 4]), (5, [1, 2, 3, 4]), (3, [1, 2, 3, 4, 18]), (2, [1, 2, 3, 4]), (1, [1, 2, 3]), (0, [1, 2])], [(0, [1, 2, 3, 4])], [], [2, 3], [2, 3], [(1010, [(4, 2)]), (5018, [(0, 2)])], [], [], [], []⟩
def f_law11_Programme : Abs.Fn := ⟨1, [.v 2 true 5],
  (.seq (.reg [1, 2] f_law11_Programme_r0) (.seq (.reg [1, 2, 3] f_law11_Programme_r1) (.seq (.seq (.reg [1, 2, 3, 4] f_law11_Programme_r2) (.blk 0 (.loop [1, 2, 3, 4] false f_law11_Programme_l6))) (.seq (.reg [2] f_law11_Programme_r7) .ret))))⟩

theorem e_law11_Programme_r0 : type_of% f_law11_Programme_r0.eq_1 := by_rfl f_law11_Programme_r0.eq_1
theorem e_law11_Programme_r1 : type_of% f_law11_Programme_r1.eq_1 := by_rfl f_law11_Programme_r1.eq_1
theorem e_law11_Programme_r2 : type_of% f_law11_Programme_r2.eq_1 := by_rfl f_law11_Programme_r2.eq_1
theorem e_law11_Programme_r3 : type_of% f_law11_Programme_r3.eq_1 := by_rfl f_law11_Programme_r3.eq_1
theorem e_law11_Programme_r4 : type_of% f_law11_Programme_r4.eq_1 := by_rfl f_law11_Programme_r4.eq_1
theorem e_law11_Programme_r5 : type_of% f_law11_Programme_r5.eq_1 := by_rfl f_law11_Programme_r5.eq_1
theorem e_law11_Programme_l6 : type_of% f_law11_Programme_l6.eq_1 := by_rfl f_law11_Programme_l6.eq_1
theorem e_law11_Programme_r7 : type_of% f_law11_Programme_r7.eq_1 := by_rfl f_law11_Programme_r7.eq_1
theorem e_law11_Programme : type_of% f_law11_Programme.eq_1 := by_rfl f_law11_Programme.eq_1
theorem ok_law11_Programme : fnC Tryz.prog a_law11_Programme Tryz.f13 = some f_law11_Programme := by kernel_rfl

/-! 15 fumarole/fumarolelaw11.ints -/
def f_law11_ints_r0 : List Abs.Op := [
  ⟨some 4, none, false, .mv (.c (.bool false))⟩]

def f_law11_ints_r1 : List Abs.Op := [
  ⟨some 6, none, false, .mv (.t 0)⟩,
  ⟨some 7, none, false, .lenS (.t 6)⟩,
  ⟨some 8, none, false, .mv (.t 1)⟩,
  ⟨some 9, none, false, .lenS (.t 8)⟩,
  ⟨some 10, none, false, .bin .neq (.t 7) (.t 9)⟩]

def f_law11_ints_r2 : List Abs.Op := [
  ⟨some 4, none, false, .mv (.c (.bool false))⟩]

def f_law11_ints_r3 : List Abs.Op := [
  ⟨some 5, none, false, .mv (.c (.int .i64 0))⟩]

def f_law11_ints_r4 : List Abs.Op := [
  ⟨some 11, none, false, .mv (.t 5)⟩,
  ⟨some 12, none, false, .mv (.t 0)⟩,
  ⟨some 13, none, false, .lenS (.t 12)⟩,
  ⟨some 14, none, false, .bin .lss (.t 11) (.t 13)⟩]

def f_law11_ints_r5 : List Abs.Op := [
  ⟨some 17, none, true, .mv (.t 0)⟩,
  ⟨some 18, none, true, .mv (.t 5)⟩,
  ⟨some 19, none, true, .idxS 1 (.t 17) (.t 18)⟩,
  ⟨some 20, none, true, .ld false 1 (.t 19)⟩,
  ⟨some 21, none, true, .mv (.t 1)⟩,
  ⟨some 22, none, true, .mv (.t 5)⟩,
  ⟨some 23, none, true, .idxS 1 (.t 21) (.t 22)⟩,
  ⟨some 24, none, true, .ld false 1 (.t 23)⟩,
  ⟨some 25, none, false, .bin .neq (.t 20) (.t 24)⟩]

def f_law11_ints_r6 : List Abs.Op := [
  ⟨some 4, none, false, .mv (.c (.bool false))⟩]

def f_law11_ints_r7 : List Abs.Op := [
  ⟨some 15, none, false, .mv (.t 5)⟩,
  ⟨some 16, none, false, .bin .add (.t 15) (.c (.int .i64 1))⟩,
  ⟨some 5, none, false, .mv (.t 16)⟩]

def f_law11_ints_l8 : Abs.Cmd :=
  (.seq (.seq (.reg [0, 1, 5, 14] f_law11_ints_r4) (.ite (.t 14) .nop (.exit 0))) (.seq (.blk 1 (.seq (.reg [0, 1, 5, 25] f_law11_ints_r5) (.ite (.t 25) (.seq (.reg [4] f_law11_ints_r6) .ret) .nop))) (.reg [0, 1, 5] f_law11_ints_r7)))

def f_law11_ints_r9 : List Abs.Op := [
  ⟨some 4, none, false, .mv (.c (.bool true))⟩]

def a_law11_ints : Ann := ⟨[(8, [4]), (5, [0, 1, 5]), (7, [4]), (6, [0, 1, 5, 25]), (4, [0, 1, 5, 14]), (3, [0, 1, 5]), (2, [4]), (1, [0, 1, 10]), (0, [0, 1])], [(0, [0, 1, 5])], [], [], [], [], [], [], [], []⟩
def f_law11_ints : Abs.Fn := ⟨2, [.t 4],
  (.seq (.reg [0, 1] f_law11_ints_r0) (.seq (.seq (.reg [0, 1, 10] f_law11_ints_r1) (.ite (.t 10) (.seq (.reg [4] f_law11_ints_r2) .ret) .nop)) (.seq (.seq (.reg [0, 1, 5] f_law11_ints_r3) (.blk 0 (.loop [0, 1, 5] false f_law11_ints_l8))) (.seq (.reg [4] f_law11_ints_r9) .ret))))⟩

theorem e_law11_ints_r0 : type_of% f_law11_ints_r0.eq_1 := by_rfl f_law11_ints_r0.eq_1
theorem e_law11_ints_r1 : type_of% f_law11_ints_r1.eq_1 := by_rfl f_law11_ints_r1.eq_1
theorem e_law11_ints_r2 : type_of% f_law11_ints_r2.eq_1 := by_rfl f_law11_ints_r2.eq_1
theorem e_law11_ints_r3 : type_of% f_law11_ints_r3.eq_1 := by_rfl f_law11_ints_r3.eq_1
theorem e_law11_ints_r4 : type_of% f_law11_ints_r4.eq_1 := by_rfl f_law11_ints_r4.eq_1
theorem e_law11_ints_r5 : type_of% f_law11_ints_r5.eq_1 := by_rfl f_law11_ints_r5.eq_1
theorem e_law11_ints_r6 : type_of% f_law11_ints_r6.eq_1 := by_rfl f_law11_ints_r6.eq_1
theorem e_law11_ints_r7 : type_of% f_law11_ints_r7.eq_1 := by_rfl f_law11_ints_r7.eq_1
theorem e_law11_ints_l8 : type_of% f_law11_ints_l8.eq_1 := by_rfl f_law11_ints_l8.eq_1
theorem e_law11_ints_r9 : type_of% f_law11_ints_r9.eq_1 := by_rfl f_law11_ints_r9.eq_1
theorem e_law11_ints : type_of% f_law11_ints.eq_1 := by_rfl f_law11_ints.eq_1
theorem ok_law11_ints : fnC Tryz.prog a_law11_ints Tryz.f15 = some f_law11_ints := by kernel_rfl

/-! 17 fumarole/fumaroleref11.Shows -/
def f_ref11_Shows_r0 : List Abs.Op := [
  ⟨some 3, none, false, .boxi (.t 0)⟩,
  ⟨some 6, none, false, .mv (.c (.bool false))⟩]

def f_ref11_Shows_r1 : List Abs.Op := [
  ⟨some 10, none, false, .ld true 5 (.t 3)⟩,
  ⟨some 11, none, false, .mv (.t 1)⟩,
  ⟨some 12, none, false, .call false (.c (.fn i_ref11_Numbers [] [])) [(.t 10), (.t 11)]⟩,
  ⟨some 13, none, false, .un .not (.t 12)⟩,
  ⟨some 14, none, false, .mv (.t 13)⟩,
  ⟨some 15, some (14, false), false, .ld true 5 (.t 3)⟩,
  ⟨some 16, some (14, false), false, .mv (.t 2)⟩,
  ⟨some 17, some (14, false), false, .call false (.c (.fn i_ref11_RightTable [] [])) [(.t 15), (.t 16)]⟩,
  ⟨some 18, some (14, false), false, .un .not (.t 17)⟩,
  ⟨some 19, none, false, .pick (.t 14) (.c (.bool true)) (.t 18)⟩]

def f_ref11_Shows_r2 : List Abs.Op := [
  ⟨some 6, none, false, .mv (.c (.bool false))⟩]

def f_ref11_Shows_r3 : List Abs.Op := [
  ⟨some 21, none, false, .ld true 5 (.t 3)⟩,
  ⟨some 22, none, false, .mv (.t 1)⟩,
  ⟨some 23, none, false, .call false (.c (.fn i_ref11_Outlook [] [])) [(.t 21), (.t 22)]⟩,
  ⟨some 20, none, false, .mv (.t 23)⟩,
  ⟨some 24, none, false, .ext (.t 20) 0⟩,
  ⟨some 25, none, false, .ext (.t 20) 1⟩,
  ⟨some 26, none, false, .ext (.t 20) 2⟩,
  ⟨some 7, none, false, .mv (.t 24)⟩,
  ⟨some 8, none, false, .mv (.t 25)⟩,
  ⟨some 9, none, false, .mv (.t 26)⟩]

def f_ref11_Shows_r4 : List Abs.Op := [
  ⟨some 27, none, true, .mv (.t 9)⟩,
  ⟨some 28, none, true, .mv (.t 27)⟩,
  ⟨some 29, some (28, true), true, .mv (.t 2)⟩,
  ⟨some 30, some (28, true), true, .idxS 1 (.t 29) (.c (.int .i64 0))⟩,
  ⟨some 31, some (28, true), true, .ld false 1 (.t 30)⟩,
  ⟨some 32, some (28, true), true, .fadr 0 (.t 3)⟩,
  ⟨some 33, some (28, true), true, .ld false 1 (.t 32)⟩,
  ⟨some 34, some (28, true), true, .call false (.c (.fn i_ref11_Cost [] [])) [(.t 31), (.t 33)]⟩,
  ⟨some 35, some (28, true), true, .mv (.t 8)⟩,
  ⟨some 36, some (28, true), false, .bin .eql (.t 34) (.t 35)⟩,
  ⟨some 37, none, false, .pick (.t 28) (.t 36) (.c (.bool false))⟩,
  ⟨some 6, none, false, .mv (.t 37)⟩]

def a_ref11_Shows : Ann := ⟨[(4, [6]), (3, [2, 3, 8, 9]), (2, [6]), (1, [1, 2, 3, 19]), (0, [1, 2, 3])], [], [], [], [], [], [], [], [], []⟩
def f_ref11_Shows : Abs.Fn := ⟨3, [.t 6],
  (.seq (.reg [1, 2, 3] f_ref11_Shows_r0) (.seq (.seq (.reg [1, 2, 3, 19] f_ref11_Shows_r1) (.ite (.t 19) (.seq (.reg [6] f_ref11_Shows_r2) .ret) .nop)) (.seq (.reg [2, 3, 8, 9] f_ref11_Shows_r3) (.seq (.reg [6] f_ref11_Shows_r4) .ret))))⟩

theorem e_ref11_Shows_r0 : type_of% f_ref11_Shows_r0.eq_1 := by_rfl f_ref11_Shows_r0.eq_1
theorem e_ref11_Shows_r1 : type_of% f_ref11_Shows_r1.eq_1 := by_rfl f_ref11_Shows_r1.eq_1
theorem e_ref11_Shows_r2 : type_of% f_ref11_Shows_r2.eq_1 := by_rfl f_ref11_Shows_r2.eq_1
theorem e_ref11_Shows_r3 : type_of% f_ref11_Shows_r3.eq_1 := by_rfl f_ref11_Shows_r3.eq_1
theorem e_ref11_Shows_r4 : type_of% f_ref11_Shows_r4.eq_1 := by_rfl f_ref11_Shows_r4.eq_1
theorem e_ref11_Shows : type_of% f_ref11_Shows.eq_1 := by_rfl f_ref11_Shows.eq_1
theorem ok_ref11_Shows : fnC Tryz.prog a_ref11_Shows Tryz.f17 = some f_ref11_Shows := by kernel_rfl

/-! 18 fumarole/fumarolelaw11.back -/
def f_law11_back_r0 : List Abs.Op := [
  ⟨some 2, none, false, .mv (.c .nils)⟩]

def f_law11_back_r1 : List Abs.Op := [
  ⟨some 3, none, false, .nilb 1⟩]

def f_law11_back_r2 : List Abs.Op := [
  ⟨some 4, none, false, .mv (.c (.int .i64 0))⟩]

def f_law11_back_r3 : List Abs.Op := [
  ⟨some 7, none, false, .mv (.t 4)⟩,
  ⟨some 8, none, false, .mv (.t 0)⟩,
  ⟨some 9, none, false, .lenS (.t 8)⟩,
  ⟨some 10, none, false, .bin .lss (.t 7) (.t 9)⟩]

def f_law11_back_r4 : List Abs.Op := [
  ⟨some 5, none, false, .nilb 2⟩]

def f_law11_back_r5 : List Abs.Op := [
  ⟨some 6, none, false, .mv (.c (.int .i64 0))⟩]

def f_law11_back_r6 : List Abs.Op := [
  ⟨some 13, none, false, .mv (.t 6)⟩,
  ⟨some 14, none, false, .mv (.t 0)⟩,
  ⟨some 15, none, false, .mv (.t 4)⟩,
  ⟨some 16, none, false, .idxS 1 (.t 14) (.t 15)⟩,
  ⟨some 17, none, false, .ld false 1 (.t 16)⟩,
  ⟨some 18, none, false, .lenS (.t 17)⟩,
  ⟨some 19, none, false, .bin .lss (.t 13) (.t 18)⟩]

def f_law11_back_r7 : List Abs.Op := [
  ⟨some 22, none, true, .mv (.t 5)⟩,
  ⟨some 23, none, true, .mv (.t 0)⟩,
  ⟨some 24, none, true, .mv (.t 4)⟩,
  ⟨some 25, none, true, .idxS 1 (.t 23) (.t 24)⟩,
  ⟨some 26, none, true, .ld false 1 (.t 25)⟩,
  ⟨some 27, none, true, .mv (.t 6)⟩,
  ⟨some 28, none, true, .idxS 2 (.t 26) (.t 27)⟩,
  ⟨some 29, none, true, .fadr 0 (.t 28)⟩,
  ⟨some 30, none, true, .ld false 1 (.t 29)⟩,
  ⟨some 31, none, true, .mv (.t 0)⟩,
  ⟨some 32, none, true, .mv (.t 4)⟩,
  ⟨some 33, none, true, .idxS 1 (.t 31) (.t 32)⟩,
  ⟨some 34, none, true, .ld false 1 (.t 33)⟩,
  ⟨some 35, none, true, .mv (.t 6)⟩,
  ⟨some 36, none, true, .idxS 2 (.t 34) (.t 35)⟩,
  ⟨some 37, none, true, .fadr 1 (.t 36)⟩,
  ⟨some 38, none, true, .ld false 1 (.t 37)⟩,
  ⟨some 39, none, true, .bld [(.int .i64 0), (.int .i64 0)] [(0, 1, (.t 30)), (1, 1, (.t 38))]⟩,
  ⟨some 40, none, true, .bsi 1 2 [(.int .i64 0), (.int .i64 0)] [(0, 2, (.t 39))]⟩,
  ⟨some 41, none, false, .app 2 16 (.t 22) (.t 40)⟩,
  ⟨some 5, none, false, .mv (.t 41)⟩]

def f_law11_back_r8 : List Abs.Op := [
  ⟨some 20, none, false, .mv (.t 6)⟩,
  ⟨some 21, none, false, .bin .add (.t 20) (.c (.int .i64 1))⟩,
  ⟨some 6, none, false, .mv (.t 21)⟩]

def f_law11_back_l9 : Abs.Cmd :=
  (.seq (.seq (.reg [0, 3, 4, 5, 6, 19] f_law11_back_r6) (.ite (.t 19) .nop (.exit 2))) (.seq (.blk 3 (.reg [0, 3, 4, 5, 6] f_law11_back_r7)) (.reg [0, 3, 4, 5, 6] f_law11_back_r8)))

def f_law11_back_r10 : List Abs.Op := [
  ⟨some 42, none, false, .mv (.t 3)⟩,
  ⟨some 43, none, false, .mv (.t 5)⟩,
  ⟨some 44, none, false, .bsi 1 1 [.nils] [(0, 1, (.t 43))]⟩,
  ⟨some 45, none, false, .app 1 24 (.t 42) (.t 44)⟩,
  ⟨some 3, none, false, .mv (.t 45)⟩]

def f_law11_back_r11 : List Abs.Op := [
  ⟨some 11, none, false, .mv (.t 4)⟩,
  ⟨some 12, none, false, .bin .add (.t 11) (.c (.int .i64 1))⟩,
  ⟨some 4, none, false, .mv (.t 12)⟩]

def f_law11_back_l12 : Abs.Cmd :=
  (.seq (.seq (.reg [0, 3, 4, 10] f_law11_back_r3) (.ite (.t 10) .nop (.exit 0))) (.seq (.blk 1 (.seq (.reg [0, 3, 4, 5] f_law11_back_r4) (.seq (.seq (.reg [0, 3, 4, 5, 6] f_law11_back_r5) (.blk 2 (.loop [0, 3, 4, 5, 6] false f_law11_back_l9))) (.reg [0, 3, 4] f_law11_back_r10)))) (.reg [0, 3, 4] f_law11_back_r11)))

def f_law11_back_r13 : List Abs.Op := [
  ⟨some 46, none, false, .mv (.t 3)⟩,
  ⟨some 2, none, false, .mv (.t 46)⟩]

def a_law11_back : Ann := ⟨[(11, [2]), (4, [0, 3, 4]), (10, [0, 3, 4]), (8, [0, 3, 4, 5, 6]), (9, [0, 3, 4, 5, 6]), (7, [0, 3, 4, 5, 6, 19]), (6, [0, 3, 4, 5, 6]), (5, [0, 3, 4, 5]), (3, [0, 3, 4, 10]), (2, [0, 3, 4]), (1, [0, 3]), (0, [0])], [(2, [0, 3, 4, 5, 6]), (0, [0, 3, 4])], [0], [3, 5], [], [], [], [], [], []⟩
def f_law11_back : Abs.Fn := ⟨1, [.t 2],
  (.seq (.reg [0] f_law11_back_r0) (.seq (.reg [0, 3] f_law11_back_r1) (.seq (.seq (.reg [0, 3, 4] f_law11_back_r2) (.blk 0 (.loop [0, 3, 4] true f_law11_back_l12))) (.seq (.reg [2] f_law11_back_r13) .ret))))⟩

theorem e_law11_back_r0 : type_of% f_law11_back_r0.eq_1 := by_rfl f_law11_back_r0.eq_1
theorem e_law11_back_r1 : type_of% f_law11_back_r1.eq_1 := by_rfl f_law11_back_r1.eq_1
theorem e_law11_back_r2 : type_of% f_law11_back_r2.eq_1 := by_rfl f_law11_back_r2.eq_1
theorem e_law11_back_r3 : type_of% f_law11_back_r3.eq_1 := by_rfl f_law11_back_r3.eq_1
theorem e_law11_back_r4 : type_of% f_law11_back_r4.eq_1 := by_rfl f_law11_back_r4.eq_1
theorem e_law11_back_r5 : type_of% f_law11_back_r5.eq_1 := by_rfl f_law11_back_r5.eq_1
theorem e_law11_back_r6 : type_of% f_law11_back_r6.eq_1 := by_rfl f_law11_back_r6.eq_1
theorem e_law11_back_r7 : type_of% f_law11_back_r7.eq_1 := by_rfl f_law11_back_r7.eq_1
theorem e_law11_back_r8 : type_of% f_law11_back_r8.eq_1 := by_rfl f_law11_back_r8.eq_1
theorem e_law11_back_l9 : type_of% f_law11_back_l9.eq_1 := by_rfl f_law11_back_l9.eq_1
theorem e_law11_back_r10 : type_of% f_law11_back_r10.eq_1 := by_rfl f_law11_back_r10.eq_1
theorem e_law11_back_r11 : type_of% f_law11_back_r11.eq_1 := by_rfl f_law11_back_r11.eq_1
theorem e_law11_back_l12 : type_of% f_law11_back_l12.eq_1 := by_rfl f_law11_back_l12.eq_1
theorem e_law11_back_r13 : type_of% f_law11_back_r13.eq_1 := by_rfl f_law11_back_r13.eq_1
theorem e_law11_back : type_of% f_law11_back.eq_1 := by_rfl f_law11_back.eq_1
theorem ok_law11_back : fnC Tryz.prog a_law11_back Tryz.f18 = some f_law11_back := by kernel_rfl

/-! 22 fumarole/fumarolelaw11.list -/
def f_law11_list_r0 : List Abs.Op := [
  ⟨some 2, none, false, .mv (.c .nils)⟩]

def f_law11_list_r1 : List Abs.Op := [
  ⟨some 3, none, false, .bsm 0 1 [] []⟩,
  ⟨some 4, none, false, .mv (.t 0)⟩,
  ⟨some 5, none, false, .app 1 8 (.t 3) (.t 4)⟩,
  ⟨some 2, none, false, .mv (.t 5)⟩]

def a_law11_list : Ann := ⟨[(1, [2]), (0, [0])], [], [], [3], [], [], [], [], [], []⟩
def f_law11_list : Abs.Fn := ⟨1, [.t 2],
  (.seq (.reg [0] f_law11_list_r0) (.seq (.reg [2] f_law11_list_r1) .ret))⟩

theorem e_law11_list_r0 : type_of% f_law11_list_r0.eq_1 := by_rfl f_law11_list_r0.eq_1
theorem e_law11_list_r1 : type_of% f_law11_list_r1.eq_1 := by_rfl f_law11_list_r1.eq_1
theorem e_law11_list : type_of% f_law11_list.eq_1 := by_rfl f_law11_list.eq_1
theorem ok_law11_list : fnC Tryz.prog a_law11_list Tryz.f22 = some f_law11_list := by kernel_rfl

/-! 24 fumarole/lease.Room -/
def f_lease_Room_r0 : List Abs.Op := [
  ⟨some 6, none, false, .mv (.c (.int .i64 0))⟩,
  ⟨some 7, none, false, .mv (.c (.int .i64 0))⟩]

def f_lease_Room_r1 : List Abs.Op := [
  ⟨some 14, none, false, .mv (.t 0)⟩,
  ⟨some 15, none, false, .mv (.t 1)⟩,
  ⟨some 16, none, false, .call false (.c (.fn i_lease_taking [] [])) [(.t 14), (.t 15)]⟩,
  ⟨some 8, none, false, .mv (.t 16)⟩]

def f_lease_Room_r2 : List Abs.Op := [
  ⟨some 17, none, false, .mv (.t 8)⟩,
  ⟨some 18, none, false, .bin .neq (.t 17) (.c (.int .i64 0))⟩]

def f_lease_Room_r3 : List Abs.Op := [
  ⟨some 19, none, false, .mv (.t 8)⟩,
  ⟨some 6, none, false, .mv (.c (.int .i64 0))⟩,
  ⟨some 7, none, false, .mv (.t 19)⟩]

def f_lease_Room_r4 : List Abs.Op := [
  ⟨some 20, none, false, .mv (.t 2)⟩,
  ⟨some 21, none, false, .mv (.t 1)⟩,
  ⟨some 22, none, false, .lenS (.t 21)⟩,
  ⟨some 23, none, false, .bin .sub (.t 22) (.c (.int .i64 1))⟩,
  ⟨some 24, none, false, .call false (.c (.fn i_lease_within [] [])) [(.t 20), (.c (.int .i64 0)), (.t 23)]⟩,
  ⟨some 25, none, false, .un .not (.t 24)⟩]

def f_lease_Room_r5 : List Abs.Op := [
  ⟨some 6, none, false, .mv (.c (.int .i64 0))⟩,
  ⟨some 7, none, false, .mv (.c (.int .i64 2))⟩]

def f_lease_Room_r6 : List Abs.Op := [
  ⟨some 26, none, false, .mv (.t 1)⟩,
  ⟨some 27, none, false, .mv (.t 2)⟩,
  ⟨some 28, none, false, .idxS 1 (.t 26) (.t 27)⟩,
  ⟨some 29, none, false, .ld false 1 (.t 28)⟩,
  ⟨some 30, none, false, .bin .sub (.c (.int .i64 1000000)) (.t 29)⟩,
  ⟨some 9, none, false, .mv (.t 30)⟩]

def f_lease_Room_r7 : List Abs.Op := [
  ⟨some 31, none, false, .mv (.t 0)⟩,
  ⟨some 32, none, false, .lenS (.t 31)⟩,
  ⟨some 33, none, false, .mv (.c (.int .i64 0))⟩]

def f_lease_Room_r8 : List Abs.Op := [
  ⟨some 34, none, false, .bin .lss (.t 33) (.t 32)⟩]

def f_lease_Room_r9 : List Abs.Op := [
  ⟨some 35, none, false, .idxS 3 (.t 31) (.t 33)⟩,
  ⟨some 36, none, false, .ld true 3 (.t 35)⟩,
  ⟨some 11, none, false, .alcv [] [(.int .i64 0), (.int .i64 0), .nils]⟩,
  ⟨none, none, false, .stv 11 [] 3 11 (.t 36)⟩]

def f_lease_Room_r10 : List Abs.Op := [
  ⟨some 37, none, true, .ldv 11 true 3 11⟩,
  ⟨some 38, none, true, .mv (.t 1)⟩,
  ⟨some 39, none, true, .call false (.c (.fn i_lease_Spring_behind [] [])) [(.t 37), (.t 38)]⟩,
  ⟨some 40, none, true, .fld false 0 1 (.t 39)⟩,
  ⟨some 41, none, true, .fadr 1 (.t 11)⟩,
  ⟨some 42, none, true, .ldv 11 false 1 41⟩,
  ⟨some 43, none, true, .bin .mul (.c (.int .i64 1000)) (.t 42)⟩,
  ⟨some 44, none, false, .bin .sub (.t 40) (.t 43)⟩,
  ⟨some 12, none, false, .mv (.t 44)⟩]

def f_lease_Room_r11 : List Abs.Op := [
  ⟨some 45, none, false, .mv (.t 12)⟩,
  ⟨some 46, none, false, .bin .lss (.t 45) (.c (.int .i64 0))⟩]

def f_lease_Room_r12 : List Abs.Op := [
  ⟨some 6, none, false, .mv (.c (.int .i64 0))⟩,
  ⟨some 7, none, false, .mv (.c (.int .i64 9))⟩]

def f_lease_Room_r13 : List Abs.Op := [
  ⟨some 47, none, false, .fadr 2 (.t 11)⟩,
  ⟨some 48, none, false, .ldv 11 false 1 47⟩,
  ⟨some 49, none, false, .mv (.t 2)⟩,
  ⟨some 50, none, false, .idxS 2 (.t 48) (.t 49)⟩,
  ⟨some 51, none, false, .fadr 1 (.t 50)⟩,
  ⟨some 52, none, false, .ld false 1 (.t 51)⟩,
  ⟨some 13, none, false, .mv (.t 52)⟩]

def f_lease_Room_r14 : List Abs.Op := [
  ⟨some 53, none, false, .mv (.t 13)⟩,
  ⟨some 54, none, false, .bin .gtr (.t 53) (.c (.int .i64 0))⟩]

def f_lease_Room_r15 : List Abs.Op := [
  ⟨some 55, none, false, .mv (.t 9)⟩,
  ⟨some 56, none, false, .mv (.t 12)⟩,
  ⟨some 57, none, false, .mv (.t 13)⟩,
  ⟨some 58, none, false, .bin .quo (.t 56) (.t 57)⟩,
  ⟨some 59, none, false, .mn (.t 55) (.t 58)⟩,
  ⟨some 9, none, false, .mv (.t 59)⟩]

def f_lease_Room_r16 : List Abs.Op := [
  ⟨some 60, none, false, .bin .add (.t 33) (.c (.int .i64 1))⟩,
  ⟨some 33, none, false, .mv (.t 60)⟩]

def f_lease_Room_l17 : Abs.Cmd :=
  (.seq (.reg [1, 2, 9, 31, 32, 33, 34] f_lease_Room_r8) (.seq (.ite (.t 34) .nop (.exit 0)) (.seq (.blk 1 (.seq (.reg [1, 2, 9, 11, 31, 32, 33] f_lease_Room_r9) (.seq (.reg [1, 2, 9, 11, 12, 31, 32, 33] f_lease_Room_r10) (.seq (.seq (.reg [1, 2, 9, 11, 12, 31, 32, 33, 46] f_lease_Room_r11) (.ite (.t 46) (.seq (.reg [6, 7] f_lease_Room_r12) .ret) .nop)) (.seq (.reg [1, 2, 9, 12, 13, 31, 32, 33] f_lease_Room_r13) (.seq (.reg [1, 2, 9, 12, 13, 31, 32, 33, 54] f_lease_Room_r14) (.ite (.t 54) (.reg [1, 2, 9, 31, 32, 33] f_lease_Room_r15) .nop))))))) (.reg [1, 2, 9, 31, 32, 33] f_lease_Room_r16))))

def f_lease_Room_r18 : List Abs.Op := [
  ⟨some 61, none, false, .mv (.t 9)⟩,
  ⟨some 6, none, false, .mv (.t 61)⟩,
  ⟨some 7, none, false, .mv (.c (.int .i64 0))⟩]

def a_lease_Room : Ann := ⟨[(17, [6, 7]), (16, [1, 2, 9, 31, 32, 33]), (15, [1, 2, 9, 31, 32, 33]), (14, [1, 2, 9, 12, 13, 31, 32, 33, 54]), (13, [1, 2, 9, 12, 13, 31, 32, 33]), (12, [6, 7]), (11, [1, 2, 9, 11, 12, 31, 32, 33, 46]), (10, [1, 2, 9, 11, 12, 31, 32, 33]), (9, [1, 2, 9, 11, 31, 32, 33]), (8, [1, 2, 9, 31, 32, 33, 34]), (7, [1, 2, 9, 31, 32, 33]), (6, [0, 1, 2, 9]), (5, [6, 7]), (4, [0, 1, 2, 25]), (3, [6, 7]), (2, [0, 1, 2, 8, 18]), (1, [0, 1, 2, 8]), (0, [0, 1, 2])], [(0, [1, 2, 9, 31, 32, 33])], [], [11], [11], [], [], [], [], []⟩
def f_lease_Room : Abs.Fn := ⟨3, [.t 6, .t 7],
  (.seq (.reg [0, 1, 2] f_lease_Room_r0) (.seq (.seq (.reg [0, 1, 2, 8] f_lease_Room_r1) (.seq (.reg [0, 1, 2, 8, 18] f_lease_Room_r2) (.ite (.t 18) (.seq (.reg [6, 7] f_lease_Room_r3) .ret) .nop))) (.seq (.seq (.reg [0, 1, 2, 25] f_lease_Room_r4) (.ite (.t 25) (.seq (.reg [6, 7] f_lease_Room_r5) .ret) .nop)) (.seq (.reg [0, 1, 2, 9] f_lease_Room_r6) (.seq (.seq (.reg [1, 2, 9, 31, 32, 33] f_lease_Room_r7) (.blk 0 (.loop [1, 2, 9, 31, 32, 33] false f_lease_Room_l17))) (.seq (.reg [6, 7] f_lease_Room_r18) .ret))))))⟩

theorem e_lease_Room_r0 : type_of% f_lease_Room_r0.eq_1 := by_rfl f_lease_Room_r0.eq_1
theorem e_lease_Room_r1 : type_of% f_lease_Room_r1.eq_1 := by_rfl f_lease_Room_r1.eq_1
theorem e_lease_Room_r2 : type_of% f_lease_Room_r2.eq_1 := by_rfl f_lease_Room_r2.eq_1
theorem e_lease_Room_r3 : type_of% f_lease_Room_r3.eq_1 := by_rfl f_lease_Room_r3.eq_1
theorem e_lease_Room_r4 : type_of% f_lease_Room_r4.eq_1 := by_rfl f_lease_Room_r4.eq_1
theorem e_lease_Room_r5 : type_of% f_lease_Room_r5.eq_1 := by_rfl f_lease_Room_r5.eq_1
theorem e_lease_Room_r6 : type_of% f_lease_Room_r6.eq_1 := by_rfl f_lease_Room_r6.eq_1
theorem e_lease_Room_r7 : type_of% f_lease_Room_r7.eq_1 := by_rfl f_lease_Room_r7.eq_1
theorem e_lease_Room_r8 : type_of% f_lease_Room_r8.eq_1 := by_rfl f_lease_Room_r8.eq_1
theorem e_lease_Room_r9 : type_of% f_lease_Room_r9.eq_1 := by_rfl f_lease_Room_r9.eq_1
theorem e_lease_Room_r10 : type_of% f_lease_Room_r10.eq_1 := by_rfl f_lease_Room_r10.eq_1
theorem e_lease_Room_r11 : type_of% f_lease_Room_r11.eq_1 := by_rfl f_lease_Room_r11.eq_1
theorem e_lease_Room_r12 : type_of% f_lease_Room_r12.eq_1 := by_rfl f_lease_Room_r12.eq_1
theorem e_lease_Room_r13 : type_of% f_lease_Room_r13.eq_1 := by_rfl f_lease_Room_r13.eq_1
theorem e_lease_Room_r14 : type_of% f_lease_Room_r14.eq_1 := by_rfl f_lease_Room_r14.eq_1
theorem e_lease_Room_r15 : type_of% f_lease_Room_r15.eq_1 := by_rfl f_lease_Room_r15.eq_1
theorem e_lease_Room_r16 : type_of% f_lease_Room_r16.eq_1 := by_rfl f_lease_Room_r16.eq_1
theorem e_lease_Room_l17 : type_of% f_lease_Room_l17.eq_1 := by_rfl f_lease_Room_l17.eq_1
theorem e_lease_Room_r18 : type_of% f_lease_Room_r18.eq_1 := by_rfl f_lease_Room_r18.eq_1
theorem e_lease_Room : type_of% f_lease_Room.eq_1 := by_rfl f_lease_Room.eq_1
theorem ok_lease_Room : fnC Tryz.prog a_lease_Room Tryz.f24 = some f_lease_Room := by kernel_rfl

/-! 30 fumarole/lease.Due -/
def f_lease_Due_r0 : List Abs.Op := [
  ⟨some 2, none, false, .boxi (.t 0)⟩,
  ⟨some 4, none, false, .mv (.c .nils)⟩,
  ⟨some 5, none, false, .mv (.c (.int .i64 0))⟩,
  ⟨some 6, none, false, .mv (.c (.int .i64 0))⟩]

def f_lease_Due_r1 : List Abs.Op := [
  ⟨some 8, none, false, .ld true 2 (.t 2)⟩,
  ⟨some 9, none, false, .call false (.c (.fn i_lease_Concession_valid [] [])) [(.t 8)]⟩,
  ⟨some 10, none, false, .un .not (.t 9)⟩,
  ⟨some 7, none, false, .mv (.t 10)⟩]

def f_lease_Due_r2 : List Abs.Op := [
  ⟨some 4, none, false, .mv (.c .nils)⟩,
  ⟨some 5, none, false, .mv (.c (.int .i64 0))⟩,
  ⟨some 6, none, false, .mv (.c (.int .i64 1))⟩]

def f_lease_Due_r3 : List Abs.Op := [
  ⟨some 12, none, false, .ld true 2 (.t 2)⟩,
  ⟨some 13, none, false, .mv (.t 1)⟩,
  ⟨some 14, none, false, .call false (.c (.fn i_lease_Concession_masses [] [])) [(.t 12), (.t 13)]⟩,
  ⟨some 15, none, false, .un .not (.t 14)⟩,
  ⟨some 11, none, false, .mv (.t 15)⟩]

def f_lease_Due_r4 : List Abs.Op := [
  ⟨some 4, none, false, .mv (.c .nils)⟩,
  ⟨some 5, none, false, .mv (.c (.int .i64 0))⟩,
  ⟨some 6, none, false, .mv (.c (.int .i64 2))⟩]

def f_lease_Due_r5 : List Abs.Op := [
  ⟨some 17, none, false, .ld true 2 (.t 2)⟩,
  ⟨some 18, none, false, .mv (.t 1)⟩,
  ⟨some 19, none, false, .call false (.c (.fn i_lease_Concession_due [] [])) [(.t 17), (.t 18)]⟩,
  ⟨some 16, none, false, .mv (.t 19)⟩,
  ⟨some 20, none, false, .ext (.t 16) 0⟩,
  ⟨some 21, none, false, .ext (.t 16) 1⟩,
  ⟨some 4, none, false, .mv (.t 20)⟩,
  ⟨some 5, none, false, .mv (.t 21)⟩]

def f_lease_Due_r6 : List Abs.Op := [
  ⟨some 22, none, false, .mv (.t 4)⟩,
  ⟨some 23, none, false, .mv (.t 5)⟩,
  ⟨some 4, none, false, .mv (.t 22)⟩,
  ⟨some 5, none, false, .mv (.t 23)⟩,
  ⟨some 6, none, false, .mv (.c (.int .i64 0))⟩]

def a_lease_Due : Ann := ⟨[(6, [4, 5, 6]), (5, [4, 5]), (2, [4, 5, 6]), (4, [4, 5, 6]), (3, [1, 2, 11]), (1, [1, 2, 7]), (0, [1, 2])], [], [], [], [], [], [], [], [], []⟩
def f_lease_Due : Abs.Fn := ⟨2, [.t 4, .t 5, .t 6],
  (.seq (.reg [1, 2] f_lease_Due_r0) (.seq (.blk 0 (.seq (.reg [1, 2, 7] f_lease_Due_r1) (.ite (.t 7) (.seq (.reg [4, 5, 6] f_lease_Due_r2) .ret) (.seq (.reg [1, 2, 11] f_lease_Due_r3) (.ite (.t 11) (.seq (.reg [4, 5, 6] f_lease_Due_r4) .ret) .nop))))) (.seq (.reg [4, 5] f_lease_Due_r5) (.seq (.reg [4, 5, 6] f_lease_Due_r6) .ret))))⟩

theorem e_lease_Due_r0 : type_of% f_lease_Due_r0.eq_1 := by_rfl f_lease_Due_r0.eq_1
theorem e_lease_Due_r1 : type_of% f_lease_Due_r1.eq_1 := by_rfl f_lease_Due_r1.eq_1
theorem e_lease_Due_r2 : type_of% f_lease_Due_r2.eq_1 := by_rfl f_lease_Due_r2.eq_1
theorem e_lease_Due_r3 : type_of% f_lease_Due_r3.eq_1 := by_rfl f_lease_Due_r3.eq_1
theorem e_lease_Due_r4 : type_of% f_lease_Due_r4.eq_1 := by_rfl f_lease_Due_r4.eq_1
theorem e_lease_Due_r5 : type_of% f_lease_Due_r5.eq_1 := by_rfl f_lease_Due_r5.eq_1
theorem e_lease_Due_r6 : type_of% f_lease_Due_r6.eq_1 := by_rfl f_lease_Due_r6.eq_1
theorem e_lease_Due : type_of% f_lease_Due.eq_1 := by_rfl f_lease_Due.eq_1
theorem ok_lease_Due : fnC Tryz.prog a_lease_Due Tryz.f30 = some f_lease_Due := by kernel_rfl

/-! 38 fumarole/fumarolelaw11.table -/
def f_law11_table_r0 : List Abs.Op := [
  ⟨some 2, none, false, .mv (.c .nils)⟩]

def f_law11_table_r1 : List Abs.Op := [
  ⟨some 3, none, false, .nilb 1⟩]

def f_law11_table_r2 : List Abs.Op := [
  ⟨some 4, none, false, .mv (.c (.int .i64 0))⟩]

def f_law11_table_r3 : List Abs.Op := [
  ⟨some 7, none, false, .mv (.t 4)⟩,
  ⟨some 8, none, false, .mv (.t 0)⟩,
  ⟨some 9, none, false, .lenS (.t 8)⟩,
  ⟨some 10, none, false, .bin .lss (.t 7) (.t 9)⟩]

def f_law11_table_r4 : List Abs.Op := [
  ⟨some 5, none, false, .nilb 2⟩]

def f_law11_table_r5 : List Abs.Op := [
  ⟨some 6, none, false, .mv (.c (.int .i64 0))⟩]

def f_law11_table_r6 : List Abs.Op := [
  ⟨some 13, none, false, .mv (.t 6)⟩,
  ⟨some 14, none, false, .mv (.t 0)⟩,
  ⟨some 15, none, false, .mv (.t 4)⟩,
  ⟨some 16, none, false, .idxS 1 (.t 14) (.t 15)⟩,
  ⟨some 17, none, false, .ld false 1 (.t 16)⟩,
  ⟨some 18, none, false, .lenS (.t 17)⟩,
  ⟨some 19, none, false, .bin .lss (.t 13) (.t 18)⟩]

def f_law11_table_r7 : List Abs.Op := [
  ⟨some 22, none, true, .mv (.t 5)⟩,
  ⟨some 23, none, true, .mv (.t 0)⟩,
  ⟨some 24, none, true, .mv (.t 4)⟩,
  ⟨some 25, none, true, .idxS 1 (.t 23) (.t 24)⟩,
  ⟨some 26, none, true, .ld false 1 (.t 25)⟩,
  ⟨some 27, none, true, .mv (.t 6)⟩,
  ⟨some 28, none, true, .idxS 2 (.t 26) (.t 27)⟩,
  ⟨some 29, none, true, .fadr 0 (.t 28)⟩,
  ⟨some 30, none, true, .ld false 1 (.t 29)⟩,
  ⟨some 31, none, true, .mv (.t 0)⟩,
  ⟨some 32, none, true, .mv (.t 4)⟩,
  ⟨some 33, none, true, .idxS 1 (.t 31) (.t 32)⟩,
  ⟨some 34, none, true, .ld false 1 (.t 33)⟩,
  ⟨some 35, none, true, .mv (.t 6)⟩,
  ⟨some 36, none, true, .idxS 2 (.t 34) (.t 35)⟩,
  ⟨some 37, none, true, .fadr 1 (.t 36)⟩,
  ⟨some 38, none, true, .ld false 1 (.t 37)⟩,
  ⟨some 39, none, true, .bld [(.int .i64 0), (.int .i64 0)] [(0, 1, (.t 30)), (1, 1, (.t 38))]⟩,
  ⟨some 40, none, true, .bsi 1 2 [(.int .i64 0), (.int .i64 0)] [(0, 2, (.t 39))]⟩,
  ⟨some 41, none, false, .app 2 16 (.t 22) (.t 40)⟩,
  ⟨some 5, none, false, .mv (.t 41)⟩]

def f_law11_table_r8 : List Abs.Op := [
  ⟨some 20, none, false, .mv (.t 6)⟩,
  ⟨some 21, none, false, .bin .add (.t 20) (.c (.int .i64 1))⟩,
  ⟨some 6, none, false, .mv (.t 21)⟩]

def f_law11_table_l9 : Abs.Cmd :=
  (.seq (.seq (.reg [0, 3, 4, 5, 6, 19] f_law11_table_r6) (.ite (.t 19) .nop (.exit 2))) (.seq (.blk 3 (.reg [0, 3, 4, 5, 6] f_law11_table_r7)) (.reg [0, 3, 4, 5, 6] f_law11_table_r8)))

def f_law11_table_r10 : List Abs.Op := [
  ⟨some 42, none, false, .mv (.t 3)⟩,
  ⟨some 43, none, false, .mv (.t 5)⟩,
  ⟨some 44, none, false, .bsi 1 1 [.nils] [(0, 1, (.t 43))]⟩,
  ⟨some 45, none, false, .app 1 24 (.t 42) (.t 44)⟩,
  ⟨some 3, none, false, .mv (.t 45)⟩]

def f_law11_table_r11 : List Abs.Op := [
  ⟨some 11, none, false, .mv (.t 4)⟩,
  ⟨some 12, none, false, .bin .add (.t 11) (.c (.int .i64 1))⟩,
  ⟨some 4, none, false, .mv (.t 12)⟩]

def f_law11_table_l12 : Abs.Cmd :=
  (.seq (.seq (.reg [0, 3, 4, 10] f_law11_table_r3) (.ite (.t 10) .nop (.exit 0))) (.seq (.blk 1 (.seq (.reg [0, 3, 4, 5] f_law11_table_r4) (.seq (.seq (.reg [0, 3, 4, 5, 6] f_law11_table_r5) (.blk 2 (.loop [0, 3, 4, 5, 6] false f_law11_table_l9))) (.reg [0, 3, 4] f_law11_table_r10)))) (.reg [0, 3, 4] f_law11_table_r11)))

def f_law11_table_r13 : List Abs.Op := [
  ⟨some 46, none, false, .mv (.t 3)⟩,
  ⟨some 2, none, false, .mv (.t 46)⟩]

def a_law11_table : Ann := ⟨[(11, [2]), (4, [0, 3, 4]), (10, [0, 3, 4]), (8, [0, 3, 4, 5, 6]), (9, [0, 3, 4, 5, 6]), (7, [0, 3, 4, 5, 6, 19]), (6, [0, 3, 4, 5, 6]), (5, [0, 3, 4, 5]), (3, [0, 3, 4, 10]), (2, [0, 3, 4]), (1, [0, 3]), (0, [0])], [(2, [0, 3, 4, 5, 6]), (0, [0, 3, 4])], [], [3, 5], [], [], [], [], [], []⟩
def f_law11_table : Abs.Fn := ⟨1, [.t 2],
  (.seq (.reg [0] f_law11_table_r0) (.seq (.reg [0, 3] f_law11_table_r1) (.seq (.seq (.reg [0, 3, 4] f_law11_table_r2) (.blk 0 (.loop [0, 3, 4] false f_law11_table_l12))) (.seq (.reg [2] f_law11_table_r13) .ret))))⟩

theorem e_law11_table_r0 : type_of% f_law11_table_r0.eq_1 := by_rfl f_law11_table_r0.eq_1
theorem e_law11_table_r1 : type_of% f_law11_table_r1.eq_1 := by_rfl f_law11_table_r1.eq_1
theorem e_law11_table_r2 : type_of% f_law11_table_r2.eq_1 := by_rfl f_law11_table_r2.eq_1
theorem e_law11_table_r3 : type_of% f_law11_table_r3.eq_1 := by_rfl f_law11_table_r3.eq_1
theorem e_law11_table_r4 : type_of% f_law11_table_r4.eq_1 := by_rfl f_law11_table_r4.eq_1
theorem e_law11_table_r5 : type_of% f_law11_table_r5.eq_1 := by_rfl f_law11_table_r5.eq_1
theorem e_law11_table_r6 : type_of% f_law11_table_r6.eq_1 := by_rfl f_law11_table_r6.eq_1
theorem e_law11_table_r7 : type_of% f_law11_table_r7.eq_1 := by_rfl f_law11_table_r7.eq_1
theorem e_law11_table_r8 : type_of% f_law11_table_r8.eq_1 := by_rfl f_law11_table_r8.eq_1
theorem e_law11_table_l9 : type_of% f_law11_table_l9.eq_1 := by_rfl f_law11_table_l9.eq_1
theorem e_law11_table_r10 : type_of% f_law11_table_r10.eq_1 := by_rfl f_law11_table_r10.eq_1
theorem e_law11_table_r11 : type_of% f_law11_table_r11.eq_1 := by_rfl f_law11_table_r11.eq_1
theorem e_law11_table_l12 : type_of% f_law11_table_l12.eq_1 := by_rfl f_law11_table_l12.eq_1
theorem e_law11_table_r13 : type_of% f_law11_table_r13.eq_1 := by_rfl f_law11_table_r13.eq_1
theorem e_law11_table : type_of% f_law11_table.eq_1 := by_rfl f_law11_table.eq_1
theorem ok_law11_table : fnC Tryz.prog a_law11_table Tryz.f38 = some f_law11_table := by kernel_rfl

/-! 39 fumarole/lease.ProveDrill -/
def f_lease_ProveDrill_r0 : List Abs.Op := [
  ⟨some 3, none, false, .boxi (.t 0)⟩,
  ⟨some 6, none, false, .mv (.c (.bool false))⟩]

def f_lease_ProveDrill_r1 : List Abs.Op := [
  ⟨some 15, none, false, .ld true 5 (.t 3)⟩,
  ⟨some 16, none, false, .call false (.c (.fn i_lease_Programme_valid [] [])) [(.t 15)]⟩,
  ⟨some 17, none, false, .un .not (.t 16)⟩,
  ⟨some 18, none, false, .mv (.t 17)⟩,
  ⟨some 19, some (18, false), false, .ld true 5 (.t 3)⟩,
  ⟨some 20, some (18, false), false, .mv (.t 1)⟩,
  ⟨some 21, some (18, false), false, .call false (.c (.fn i_lease_Programme_planned [] [])) [(.t 19), (.t 20)]⟩,
  ⟨some 22, some (18, false), false, .un .not (.t 21)⟩,
  ⟨some 23, none, false, .pick (.t 18) (.c (.bool true)) (.t 22)⟩,
  ⟨some 24, none, false, .mv (.t 23)⟩,
  ⟨some 25, some (24, false), false, .mv (.t 2)⟩,
  ⟨some 26, some (24, false), false, .lenS (.t 25)⟩,
  ⟨some 27, some (24, false), false, .fadr 4 (.t 3)⟩,
  ⟨some 28, some (24, false), false, .ld false 1 (.t 27)⟩,
  ⟨some 29, some (24, false), false, .lenS (.t 28)⟩,
  ⟨some 30, some (24, false), false, .bin .neq (.t 26) (.t 29)⟩,
  ⟨some 31, none, false, .pick (.t 24) (.c (.bool true)) (.t 30)⟩,
  ⟨some 32, none, false, .mv (.t 31)⟩,
  ⟨some 33, some (32, false), false, .mv (.t 2)⟩,
  ⟨some 34, some (32, false), false, .call false (.c (.fn i_lease_all_L_lease_Rung [] [])) [(.t 33), (.c (.fn i_lease_ProveDrill_1 [] []))]⟩,
  ⟨some 35, some (32, false), false, .un .not (.t 34)⟩,
  ⟨some 36, none, false, .pick (.t 32) (.c (.bool true)) (.t 35)⟩]

def f_lease_ProveDrill_r2 : List Abs.Op := [
  ⟨some 6, none, false, .mv (.c (.bool false))⟩]

def f_lease_ProveDrill_r3 : List Abs.Op := [
  ⟨some 38, none, false, .ld true 5 (.t 3)⟩,
  ⟨some 39, none, false, .mv (.t 1)⟩,
  ⟨some 40, none, false, .call false (.c (.fn i_lease_Programme_follow [] [])) [(.t 38), (.t 39), (.c (.fn i_lease_ProveDrill_2 [] []))]⟩,
  ⟨some 37, none, false, .mv (.t 40)⟩,
  ⟨some 41, none, false, .ext (.t 37) 0⟩,
  ⟨some 42, none, false, .ext (.t 37) 1⟩,
  ⟨some 7, none, false, .mv (.t 41)⟩,
  ⟨some 8, none, false, .mv (.t 42)⟩]

def f_lease_ProveDrill_r4 : List Abs.Op := [
  ⟨some 43, none, true, .mv (.t 8)⟩,
  ⟨some 44, none, true, .un .not (.t 43)⟩,
  ⟨some 45, none, true, .mv (.t 44)⟩,
  ⟨some 46, some (45, false), true, .mv (.t 2)⟩,
  ⟨some 47, some (45, false), true, .idxS 1 (.t 46) (.c (.int .i64 0))⟩,
  ⟨some 48, some (45, false), true, .ld false 1 (.t 47)⟩,
  ⟨some 49, some (45, false), true, .fadr 0 (.t 3)⟩,
  ⟨some 50, some (45, false), true, .ld false 1 (.t 49)⟩,
  ⟨some 51, some (45, false), true, .call false (.c (.fn i_lease_ladder_at [] [])) [(.t 48), (.t 50)]⟩,
  ⟨some 52, some (45, false), true, .mv (.t 7)⟩,
  ⟨some 53, some (45, false), false, .bin .neq (.t 51) (.t 52)⟩,
  ⟨some 54, none, false, .pick (.t 45) (.c (.bool true)) (.t 53)⟩]

def f_lease_ProveDrill_r5 : List Abs.Op := [
  ⟨some 6, none, false, .mv (.c (.bool false))⟩]

def f_lease_ProveDrill_r6 : List Abs.Op := [
  ⟨some 55, none, false, .ld true 5 (.t 3)⟩,
  ⟨some 56, none, false, .bld [(.int .i64 0), (.int .i64 0), (.int .i64 0), (.int .i64 0), .nils] [(0, 5, (.t 55))]⟩,
  ⟨some 9, none, false, .alcv [] [(.int .i64 0), (.int .i64 0), (.int .i64 0), (.int .i64 0), .nils]⟩,
  ⟨none, none, false, .stv 9 [] 5 9 (.t 56)⟩]

def f_lease_ProveDrill_r7 : List Abs.Op := [
  ⟨some 57, none, false, .mv (.t 2)⟩,
  ⟨some 58, none, false, .lenS (.t 57)⟩,
  ⟨some 59, none, false, .mv (.c (.int .i64 0))⟩]

def f_lease_ProveDrill_r8 : List Abs.Op := [
  ⟨some 60, none, false, .bin .lss (.t 59) (.t 58)⟩]

def f_lease_ProveDrill_r9 : List Abs.Op := [
  ⟨some 61, none, false, .mv (.t 59)⟩,
  ⟨some 62, none, false, .idxS 1 (.t 57) (.t 59)⟩,
  ⟨some 63, none, false, .ld false 1 (.t 62)⟩,
  ⟨some 10, none, false, .mv (.t 61)⟩,
  ⟨some 11, none, false, .mv (.t 63)⟩]

def f_lease_ProveDrill_r10 : List Abs.Op := [
  ⟨some 64, none, false, .bld [(.int .i64 0), (.int .i64 0)] [(0, 1, (.c (.int .i64 100000000))), (1, 1, (.c (.int .i64 0)))]⟩,
  ⟨some 65, none, false, .bsi 1 2 [(.int .i64 0), (.int .i64 0)] [(0, 2, (.t 64))]⟩,
  ⟨some 12, none, false, .mv (.t 65)⟩]

def f_lease_ProveDrill_r11 : List Abs.Op := [
  ⟨some 66, none, false, .mv (.t 10)⟩,
  ⟨some 67, none, false, .bin .add (.t 66) (.c (.int .i64 1))⟩,
  ⟨some 68, none, false, .mv (.t 2)⟩,
  ⟨some 69, none, false, .lenS (.t 68)⟩,
  ⟨some 70, none, false, .bin .lss (.t 67) (.t 69)⟩]

def f_lease_ProveDrill_r12 : List Abs.Op := [
  ⟨some 71, none, false, .mv (.t 2)⟩,
  ⟨some 72, none, false, .mv (.t 10)⟩,
  ⟨some 73, none, false, .bin .add (.t 72) (.c (.int .i64 1))⟩,
  ⟨some 74, none, false, .idxS 1 (.t 71) (.t 73)⟩,
  ⟨some 75, none, false, .ld false 1 (.t 74)⟩,
  ⟨some 12, none, false, .mv (.t 75)⟩]

def f_lease_ProveDrill_r13 : List Abs.Op := [
  ⟨some 76, none, false, .mv (.t 11)⟩,
  ⟨some 77, none, false, .lenS (.t 76)⟩,
  ⟨some 78, none, false, .mv (.c (.int .i64 0))⟩]

def f_lease_ProveDrill_r14 : List Abs.Op := [
  ⟨some 79, none, false, .bin .lss (.t 78) (.t 77)⟩]

def f_lease_ProveDrill_r15 : List Abs.Op := [
  ⟨some 80, none, false, .idxS 2 (.t 76) (.t 78)⟩,
  ⟨some 81, none, false, .ld true 2 (.t 80)⟩,
  ⟨some 14, none, false, .alcv [] [(.int .i64 0), (.int .i64 0)]⟩,
  ⟨none, none, false, .stv 14 [] 2 14 (.t 81)⟩]

def f_lease_ProveDrill_r16 : List Abs.Op := [
  ⟨some 82, none, true, .fadr 1 (.t 14)⟩,
  ⟨some 83, none, true, .ldv 14 false 1 82⟩,
  ⟨some 84, none, true, .ldv 9 true 5 9⟩,
  ⟨some 85, none, true, .mv (.t 10)⟩,
  ⟨some 86, none, true, .fadr 0 (.t 14)⟩,
  ⟨some 87, none, true, .ldv 14 false 1 86⟩,
  ⟨some 88, none, true, .mv (.t 12)⟩,
  ⟨some 89, none, true, .call false (.c (.fn i_lease_work_least [] [])) [(.t 84), (.t 85), (.t 87), (.t 88)]⟩,
  ⟨some 90, none, false, .bin .gtr (.t 83) (.t 89)⟩]

def f_lease_ProveDrill_r17 : List Abs.Op := [
  ⟨some 6, none, false, .mv (.c (.bool false))⟩]

def f_lease_ProveDrill_r18 : List Abs.Op := [
  ⟨some 91, none, false, .bin .add (.t 78) (.c (.int .i64 1))⟩,
  ⟨some 78, none, false, .mv (.t 91)⟩]

def f_lease_ProveDrill_l19 : Abs.Cmd :=
  (.seq (.reg [2, 9, 10, 12, 57, 58, 59, 76, 77, 78, 79] f_lease_ProveDrill_r14) (.seq (.ite (.t 79) .nop (.exit 2)) (.seq (.blk 3 (.seq (.reg [2, 9, 10, 12, 14, 57, 58, 59, 76, 77, 78] f_lease_ProveDrill_r15) (.seq (.reg [2, 9, 10, 12, 57, 58, 59, 76, 77, 78, 90] f_lease_ProveDrill_r16) (.ite (.t 90) (.seq (.reg [6] f_lease_ProveDrill_r17) .ret) .nop)))) (.reg [2, 9, 10, 12, 57, 58, 59, 76, 77, 78] f_lease_ProveDrill_r18))))

def f_lease_ProveDrill_r20 : List Abs.Op := [
  ⟨some 92, none, false, .bin .add (.t 59) (.c (.int .i64 1))⟩,
  ⟨some 59, none, false, .mv (.t 92)⟩]

def f_lease_ProveDrill_l21 : Abs.Cmd :=
  (.seq (.reg [2, 9, 57, 58, 59, 60] f_lease_ProveDrill_r8) (.seq (.ite (.t 60) .nop (.exit 0)) (.seq (.blk 1 (.seq (.reg [2, 9, 10, 11, 57, 58, 59] f_lease_ProveDrill_r9) (.seq (.reg [2, 9, 10, 11, 12, 57, 58, 59] f_lease_ProveDrill_r10) (.seq (.seq (.reg [2, 9, 10, 11, 12, 57, 58, 59, 70] f_lease_ProveDrill_r11) (.ite (.t 70) (.reg [2, 9, 10, 11, 12, 57, 58, 59] f_lease_ProveDrill_r12) .nop)) (.seq (.reg [2, 9, 10, 12, 57, 58, 59, 76, 77, 78] f_lease_ProveDrill_r13) (.blk 2 (.loop [2, 9, 10, 12, 57, 58, 59, 76, 77, 78] false f_lease_ProveDrill_l19))))))) (.reg [2, 9, 57, 58, 59] f_lease_ProveDrill_r20))))

def f_lease_ProveDrill_r22 : List Abs.Op := [
  ⟨some 6, none, false, .mv (.c (.bool true))⟩]

def a_lease_ProveDrill : Ann := ⟨[(20, [6]), (19, [2, 9, 57, 58, 59]), (18, [2, 9, 10, 12, 57, 58, 59, 76, 77, 78]), (17, [6]), (16, [2, 9, 10, 12, 57, 58, 59, 76, 77, 78, 90]), (15, [2, 9, 10, 12, 14, 57, 58, 59, 76, 77, 78]), (14, [2, 9, 10, 12, 57, 58, 59, 76, 77, 78, 79]), (13, [2, 9, 10, 12, 57, 58, 59, 76, 77, 78]), (12, [2, 9, 10, 11, 12, 57, 58, 59]), (11, [2, 9, 10, 11, 12, 57, 58, 59, 70]), (10, [2, 9, 10, 11, 12, 57, 58, 59]), (9, [2, 9, 10, 11, 57, 58, 59]), (8, [2, 9, 57, 58, 59, 60]), (7, [2, 9, 57, 58, 59]), (6, [2, 9]), (5, [6]), (4, [2, 3, 54]), (3, [2, 3, 7, 8]), (2, [6]), (1, [1, 2, 3, 36]), (0, [1, 2, 3])], [(2, [2, 9, 10, 12, 57, 58, 59, 76, 77, 78]), (0, [2, 9, 57, 58, 59])], [], [9, 14], [9, 14], [], [], [], [], []⟩
def f_lease_ProveDrill : Abs.Fn := ⟨3, [.t 6],
  (.seq (.reg [1, 2, 3] f_lease_ProveDrill_r0) (.seq (.seq (.reg [1, 2, 3, 36] f_lease_ProveDrill_r1) (.ite (.t 36) (.seq (.reg [6] f_lease_ProveDrill_r2) .ret) .nop)) (.seq (.reg [2, 3, 7, 8] f_lease_ProveDrill_r3) (.seq (.seq (.reg [2, 3, 54] f_lease_ProveDrill_r4) (.ite (.t 54) (.seq (.reg [6] f_lease_ProveDrill_r5) .ret) .nop)) (.seq (.reg [2, 9] f_lease_ProveDrill_r6) (.seq (.seq (.reg [2, 9, 57, 58, 59] f_lease_ProveDrill_r7) (.blk 0 (.loop [2, 9, 57, 58, 59] false f_lease_ProveDrill_l21))) (.seq (.reg [6] f_lease_ProveDrill_r22) .ret)))))))⟩

theorem e_lease_ProveDrill_r0 : type_of% f_lease_ProveDrill_r0.eq_1 := by_rfl f_lease_ProveDrill_r0.eq_1
theorem e_lease_ProveDrill_r1 : type_of% f_lease_ProveDrill_r1.eq_1 := by_rfl f_lease_ProveDrill_r1.eq_1
theorem e_lease_ProveDrill_r2 : type_of% f_lease_ProveDrill_r2.eq_1 := by_rfl f_lease_ProveDrill_r2.eq_1
theorem e_lease_ProveDrill_r3 : type_of% f_lease_ProveDrill_r3.eq_1 := by_rfl f_lease_ProveDrill_r3.eq_1
theorem e_lease_ProveDrill_r4 : type_of% f_lease_ProveDrill_r4.eq_1 := by_rfl f_lease_ProveDrill_r4.eq_1
theorem e_lease_ProveDrill_r5 : type_of% f_lease_ProveDrill_r5.eq_1 := by_rfl f_lease_ProveDrill_r5.eq_1
theorem e_lease_ProveDrill_r6 : type_of% f_lease_ProveDrill_r6.eq_1 := by_rfl f_lease_ProveDrill_r6.eq_1
theorem e_lease_ProveDrill_r7 : type_of% f_lease_ProveDrill_r7.eq_1 := by_rfl f_lease_ProveDrill_r7.eq_1
theorem e_lease_ProveDrill_r8 : type_of% f_lease_ProveDrill_r8.eq_1 := by_rfl f_lease_ProveDrill_r8.eq_1
theorem e_lease_ProveDrill_r9 : type_of% f_lease_ProveDrill_r9.eq_1 := by_rfl f_lease_ProveDrill_r9.eq_1
theorem e_lease_ProveDrill_r10 : type_of% f_lease_ProveDrill_r10.eq_1 := by_rfl f_lease_ProveDrill_r10.eq_1
theorem e_lease_ProveDrill_r11 : type_of% f_lease_ProveDrill_r11.eq_1 := by_rfl f_lease_ProveDrill_r11.eq_1
theorem e_lease_ProveDrill_r12 : type_of% f_lease_ProveDrill_r12.eq_1 := by_rfl f_lease_ProveDrill_r12.eq_1
theorem e_lease_ProveDrill_r13 : type_of% f_lease_ProveDrill_r13.eq_1 := by_rfl f_lease_ProveDrill_r13.eq_1
theorem e_lease_ProveDrill_r14 : type_of% f_lease_ProveDrill_r14.eq_1 := by_rfl f_lease_ProveDrill_r14.eq_1
theorem e_lease_ProveDrill_r15 : type_of% f_lease_ProveDrill_r15.eq_1 := by_rfl f_lease_ProveDrill_r15.eq_1
theorem e_lease_ProveDrill_r16 : type_of% f_lease_ProveDrill_r16.eq_1 := by_rfl f_lease_ProveDrill_r16.eq_1
theorem e_lease_ProveDrill_r17 : type_of% f_lease_ProveDrill_r17.eq_1 := by_rfl f_lease_ProveDrill_r17.eq_1
theorem e_lease_ProveDrill_r18 : type_of% f_lease_ProveDrill_r18.eq_1 := by_rfl f_lease_ProveDrill_r18.eq_1
theorem e_lease_ProveDrill_l19 : type_of% f_lease_ProveDrill_l19.eq_1 := by_rfl f_lease_ProveDrill_l19.eq_1
theorem e_lease_ProveDrill_r20 : type_of% f_lease_ProveDrill_r20.eq_1 := by_rfl f_lease_ProveDrill_r20.eq_1
theorem e_lease_ProveDrill_l21 : type_of% f_lease_ProveDrill_l21.eq_1 := by_rfl f_lease_ProveDrill_l21.eq_1
theorem e_lease_ProveDrill_r22 : type_of% f_lease_ProveDrill_r22.eq_1 := by_rfl f_lease_ProveDrill_r22.eq_1
theorem e_lease_ProveDrill : type_of% f_lease_ProveDrill.eq_1 := by_rfl f_lease_ProveDrill.eq_1
theorem ok_lease_ProveDrill : fnC Tryz.prog a_lease_ProveDrill Tryz.f39 = some f_lease_ProveDrill := by kernel_rfl

/-! 44 fumarole/fumaroleref11.Numbers -/
def f_ref11_Numbers_r0 : List Abs.Op := [
  ⟨some 2, none, false, .boxi (.t 0)⟩,
  ⟨some 4, none, false, .mv (.c (.bool false))⟩]

def f_ref11_Numbers_r1 : List Abs.Op := [
  ⟨some 5, none, false, .mv (.c (.int .i64 0))⟩]

def f_ref11_Numbers_r2 : List Abs.Op := [
  ⟨some 6, none, false, .mv (.t 5)⟩,
  ⟨some 7, none, false, .mv (.t 1)⟩,
  ⟨some 8, none, false, .lenS (.t 7)⟩,
  ⟨some 9, none, false, .bin .lss (.t 6) (.t 8)⟩]

def f_ref11_Numbers_r3 : List Abs.Op := [
  ⟨some 12, none, true, .mv (.t 1)⟩,
  ⟨some 13, none, true, .mv (.t 5)⟩,
  ⟨some 14, none, true, .idxS 1 (.t 12) (.t 13)⟩,
  ⟨some 15, none, true, .ld false 1 (.t 14)⟩,
  ⟨some 16, none, true, .fadr 3 (.t 2)⟩,
  ⟨some 17, none, true, .ld false 1 (.t 16)⟩,
  ⟨some 18, none, false, .call false (.c (.fn i_ref11_In [] [])) [(.t 15), (.c (.int .i64 0)), (.t 17)]⟩,
  ⟨some 19, none, false, .un .not (.t 18)⟩]

def f_ref11_Numbers_r4 : List Abs.Op := [
  ⟨some 4, none, false, .mv (.c (.bool false))⟩]

def f_ref11_Numbers_r5 : List Abs.Op := [
  ⟨some 10, none, false, .mv (.t 5)⟩,
  ⟨some 11, none, false, .bin .add (.t 10) (.c (.int .i64 1))⟩,
  ⟨some 5, none, false, .mv (.t 11)⟩]

def f_ref11_Numbers_l6 : Abs.Cmd :=
  (.seq (.seq (.reg [1, 2, 5, 9] f_ref11_Numbers_r2) (.ite (.t 9) .nop (.exit 0))) (.seq (.blk 1 (.seq (.reg [1, 2, 5, 19] f_ref11_Numbers_r3) (.ite (.t 19) (.seq (.reg [4] f_ref11_Numbers_r4) .ret) .nop))) (.reg [1, 2, 5] f_ref11_Numbers_r5)))

def f_ref11_Numbers_r7 : List Abs.Op := [
  ⟨some 20, none, false, .mv (.t 1)⟩,
  ⟨some 21, none, false, .lenS (.t 20)⟩,
  ⟨some 22, none, false, .fadr 4 (.t 2)⟩,
  ⟨some 23, none, false, .ld false 1 (.t 22)⟩,
  ⟨some 24, none, false, .lenS (.t 23)⟩,
  ⟨some 25, none, false, .bin .eql (.t 21) (.t 24)⟩,
  ⟨some 4, none, false, .mv (.t 25)⟩]

def a_ref11_Numbers : Ann := ⟨[(6, [4]), (3, [1, 2, 5]), (5, [4]), (4, [1, 2, 5, 19]), (2, [1, 2, 5, 9]), (1, [1, 2, 5]), (0, [1, 2])], [(0, [1, 2, 5])], [], [], [], [], [], [], [], []⟩
def f_ref11_Numbers : Abs.Fn := ⟨2, [.t 4],
  (.seq (.reg [1, 2] f_ref11_Numbers_r0) (.seq (.seq (.reg [1, 2, 5] f_ref11_Numbers_r1) (.blk 0 (.loop [1, 2, 5] false f_ref11_Numbers_l6))) (.seq (.reg [4] f_ref11_Numbers_r7) .ret)))⟩

theorem e_ref11_Numbers_r0 : type_of% f_ref11_Numbers_r0.eq_1 := by_rfl f_ref11_Numbers_r0.eq_1
theorem e_ref11_Numbers_r1 : type_of% f_ref11_Numbers_r1.eq_1 := by_rfl f_ref11_Numbers_r1.eq_1
theorem e_ref11_Numbers_r2 : type_of% f_ref11_Numbers_r2.eq_1 := by_rfl f_ref11_Numbers_r2.eq_1
theorem e_ref11_Numbers_r3 : type_of% f_ref11_Numbers_r3.eq_1 := by_rfl f_ref11_Numbers_r3.eq_1
theorem e_ref11_Numbers_r4 : type_of% f_ref11_Numbers_r4.eq_1 := by_rfl f_ref11_Numbers_r4.eq_1
theorem e_ref11_Numbers_r5 : type_of% f_ref11_Numbers_r5.eq_1 := by_rfl f_ref11_Numbers_r5.eq_1
theorem e_ref11_Numbers_l6 : type_of% f_ref11_Numbers_l6.eq_1 := by_rfl f_ref11_Numbers_l6.eq_1
theorem e_ref11_Numbers_r7 : type_of% f_ref11_Numbers_r7.eq_1 := by_rfl f_ref11_Numbers_r7.eq_1
theorem e_ref11_Numbers : type_of% f_ref11_Numbers.eq_1 := by_rfl f_ref11_Numbers.eq_1
theorem ok_ref11_Numbers : fnC Tryz.prog a_ref11_Numbers Tryz.f44 = some f_ref11_Numbers := by kernel_rfl

/-! 45 fumarole/fumaroleref11.Outlook -/
def f_ref11_Outlook_r0 : List Abs.Op := [
  ⟨some 2, none, false, .boxi (.t 0)⟩,
  ⟨some 4, none, false, .mv (.c .nils)⟩,
  ⟨some 5, none, false, .mv (.c (.int .i64 0))⟩,
  ⟨some 6, none, false, .mv (.c (.bool false))⟩]

def f_ref11_Outlook_r1 : List Abs.Op := [
  ⟨some 7, none, false, .nilb 1⟩]

def f_ref11_Outlook_r2 : List Abs.Op := [
  ⟨some 12, none, false, .fadr 0 (.t 2)⟩,
  ⟨some 13, none, false, .ld false 1 (.t 12)⟩,
  ⟨some 8, none, false, .mv (.t 13)⟩,
  ⟨some 9, none, false, .mv (.c (.int .i64 0))⟩]

def f_ref11_Outlook_r3 : List Abs.Op := [
  ⟨some 10, none, false, .mv (.c (.int .i64 0))⟩]

def f_ref11_Outlook_r4 : List Abs.Op := [
  ⟨some 14, none, false, .mv (.t 10)⟩,
  ⟨some 15, none, false, .mv (.t 1)⟩,
  ⟨some 16, none, false, .lenS (.t 15)⟩,
  ⟨some 17, none, false, .bin .lss (.t 14) (.t 16)⟩]

def f_ref11_Outlook_r5 : List Abs.Op := [
  ⟨some 20, none, true, .mv (.t 8)⟩,
  ⟨some 21, none, true, .mv (.t 1)⟩,
  ⟨some 22, none, true, .mv (.t 10)⟩,
  ⟨some 23, none, true, .idxS 1 (.t 21) (.t 22)⟩,
  ⟨some 24, none, true, .ld false 1 (.t 23)⟩,
  ⟨some 25, none, true, .fadr 1 (.t 2)⟩,
  ⟨some 26, none, true, .ld false 1 (.t 25)⟩,
  ⟨some 27, none, true, .bin .mul (.t 24) (.t 26)⟩,
  ⟨some 28, none, false, .bin .add (.t 20) (.t 27)⟩,
  ⟨some 11, none, false, .mv (.t 28)⟩]

def f_ref11_Outlook_r6 : List Abs.Op := [
  ⟨some 29, none, false, .mv (.t 11)⟩,
  ⟨some 30, none, false, .fadr 4 (.t 2)⟩,
  ⟨some 31, none, false, .ld false 1 (.t 30)⟩,
  ⟨some 32, none, false, .mv (.t 10)⟩,
  ⟨some 33, none, false, .idxS 2 (.t 31) (.t 32)⟩,
  ⟨some 34, none, false, .fadr 0 (.t 33)⟩,
  ⟨some 35, none, false, .ld false 1 (.t 34)⟩,
  ⟨some 36, none, false, .bin .lss (.t 29) (.t 35)⟩]

def f_ref11_Outlook_r7 : List Abs.Op := [
  ⟨some 4, none, false, .mv (.c .nils)⟩,
  ⟨some 5, none, false, .mv (.c (.int .i64 0))⟩,
  ⟨some 6, none, false, .mv (.c (.bool false))⟩]

def f_ref11_Outlook_r8 : List Abs.Op := [
  ⟨some 37, none, false, .mv (.t 7)⟩,
  ⟨some 38, none, false, .mv (.t 11)⟩,
  ⟨some 39, none, false, .bsi 1 1 [(.int .i64 0)] [(0, 1, (.t 38))]⟩,
  ⟨some 40, none, false, .app 1 8 (.t 37) (.t 39)⟩,
  ⟨some 7, none, false, .mv (.t 40)⟩]

def f_ref11_Outlook_r9 : List Abs.Op := [
  ⟨some 41, none, true, .mv (.t 9)⟩,
  ⟨some 42, none, true, .mv (.t 1)⟩,
  ⟨some 43, none, true, .mv (.t 10)⟩,
  ⟨some 44, none, true, .idxS 1 (.t 42) (.t 43)⟩,
  ⟨some 45, none, true, .ld false 1 (.t 44)⟩,
  ⟨some 46, none, true, .fadr 4 (.t 2)⟩,
  ⟨some 47, none, true, .ld false 1 (.t 46)⟩,
  ⟨some 48, none, true, .mv (.t 10)⟩,
  ⟨some 49, none, true, .idxS 2 (.t 47) (.t 48)⟩,
  ⟨some 50, none, true, .fadr 1 (.t 49)⟩,
  ⟨some 51, none, true, .ld false 1 (.t 50)⟩,
  ⟨some 52, none, true, .bin .mul (.t 45) (.t 51)⟩,
  ⟨some 53, none, false, .bin .add (.t 41) (.t 52)⟩,
  ⟨some 9, none, false, .mv (.t 53)⟩]

def f_ref11_Outlook_r10 : List Abs.Op := [
  ⟨some 54, none, false, .mv (.t 11)⟩,
  ⟨some 55, none, false, .fadr 2 (.t 2)⟩,
  ⟨some 56, none, false, .ld false 1 (.t 55)⟩,
  ⟨some 57, none, false, .bin .mul (.t 54) (.t 56)⟩,
  ⟨some 58, none, false, .bin .quo (.t 57) (.c (.int .i64 1000))⟩,
  ⟨some 8, none, false, .mv (.t 58)⟩]

def f_ref11_Outlook_r11 : List Abs.Op := [
  ⟨some 18, none, false, .mv (.t 10)⟩,
  ⟨some 19, none, false, .bin .add (.t 18) (.c (.int .i64 1))⟩,
  ⟨some 10, none, false, .mv (.t 19)⟩]

def f_ref11_Outlook_l12 : Abs.Cmd :=
  (.seq (.seq (.reg [1, 2, 7, 8, 9, 10, 17] f_ref11_Outlook_r4) (.ite (.t 17) .nop (.exit 0))) (.seq (.blk 1 (.seq (.reg [1, 2, 7, 9, 10, 11] f_ref11_Outlook_r5) (.seq (.seq (.reg [1, 2, 7, 9, 10, 11, 36] f_ref11_Outlook_r6) (.ite (.t 36) (.seq (.reg [4, 5, 6] f_ref11_Outlook_r7) .ret) .nop)) (.seq (.reg [1, 2, 7, 9, 10, 11] f_ref11_Outlook_r8) (.seq (.reg [1, 2, 7, 9, 10, 11] f_ref11_Outlook_r9) (.reg [1, 2, 7, 8, 9, 10] f_ref11_Outlook_r10)))))) (.reg [1, 2, 7, 8, 9, 10] f_ref11_Outlook_r11)))

def f_ref11_Outlook_r13 : List Abs.Op := [
  ⟨some 59, none, false, .mv (.t 7)⟩,
  ⟨some 60, none, false, .mv (.t 9)⟩,
  ⟨some 4, none, false, .mv (.t 59)⟩,
  ⟨some 5, none, false, .mv (.t 60)⟩,
  ⟨some 6, none, false, .mv (.c (.bool true))⟩]

def a_ref11_Outlook : Ann := ⟨[(12, [4, 5, 6]), (5, [1, 2, 7, 8, 9, 10]), (11, [1, 2, 7, 8, 9, 10]), (10, [1, 2, 7, 9, 10, 11]), (9, [1, 2, 7, 9, 10, 11]), (8, [4, 5, 6]), (7, [1, 2, 7, 9, 10, 11, 36]), (6, [1, 2, 7, 9, 10, 11]), (4, [1, 2, 7, 8, 9, 10, 17]), (3, [1, 2, 7, 8, 9, 10]), (2, [1, 2, 7, 8, 9]), (1, [1, 2, 7]), (0, [1, 2])], [(0, [1, 2, 7, 8, 9, 10])], [], [7], [], [], [], [], [], []⟩
def f_ref11_Outlook : Abs.Fn := ⟨2, [.t 4, .t 5, .t 6],
  (.seq (.reg [1, 2] f_ref11_Outlook_r0) (.seq (.reg [1, 2, 7] f_ref11_Outlook_r1) (.seq (.reg [1, 2, 7, 8, 9] f_ref11_Outlook_r2) (.seq (.seq (.reg [1, 2, 7, 8, 9, 10] f_ref11_Outlook_r3) (.blk 0 (.loop [1, 2, 7, 8, 9, 10] false f_ref11_Outlook_l12))) (.seq (.reg [4, 5, 6] f_ref11_Outlook_r13) .ret)))))⟩

theorem e_ref11_Outlook_r0 : type_of% f_ref11_Outlook_r0.eq_1 := by_rfl f_ref11_Outlook_r0.eq_1
theorem e_ref11_Outlook_r1 : type_of% f_ref11_Outlook_r1.eq_1 := by_rfl f_ref11_Outlook_r1.eq_1
theorem e_ref11_Outlook_r2 : type_of% f_ref11_Outlook_r2.eq_1 := by_rfl f_ref11_Outlook_r2.eq_1
theorem e_ref11_Outlook_r3 : type_of% f_ref11_Outlook_r3.eq_1 := by_rfl f_ref11_Outlook_r3.eq_1
theorem e_ref11_Outlook_r4 : type_of% f_ref11_Outlook_r4.eq_1 := by_rfl f_ref11_Outlook_r4.eq_1
theorem e_ref11_Outlook_r5 : type_of% f_ref11_Outlook_r5.eq_1 := by_rfl f_ref11_Outlook_r5.eq_1
theorem e_ref11_Outlook_r6 : type_of% f_ref11_Outlook_r6.eq_1 := by_rfl f_ref11_Outlook_r6.eq_1
theorem e_ref11_Outlook_r7 : type_of% f_ref11_Outlook_r7.eq_1 := by_rfl f_ref11_Outlook_r7.eq_1
theorem e_ref11_Outlook_r8 : type_of% f_ref11_Outlook_r8.eq_1 := by_rfl f_ref11_Outlook_r8.eq_1
theorem e_ref11_Outlook_r9 : type_of% f_ref11_Outlook_r9.eq_1 := by_rfl f_ref11_Outlook_r9.eq_1
theorem e_ref11_Outlook_r10 : type_of% f_ref11_Outlook_r10.eq_1 := by_rfl f_ref11_Outlook_r10.eq_1
theorem e_ref11_Outlook_r11 : type_of% f_ref11_Outlook_r11.eq_1 := by_rfl f_ref11_Outlook_r11.eq_1
theorem e_ref11_Outlook_l12 : type_of% f_ref11_Outlook_l12.eq_1 := by_rfl f_ref11_Outlook_l12.eq_1
theorem e_ref11_Outlook_r13 : type_of% f_ref11_Outlook_r13.eq_1 := by_rfl f_ref11_Outlook_r13.eq_1
theorem e_ref11_Outlook : type_of% f_ref11_Outlook.eq_1 := by_rfl f_ref11_Outlook.eq_1
theorem ok_ref11_Outlook : fnC Tryz.prog a_ref11_Outlook Tryz.f45 = some f_ref11_Outlook := by kernel_rfl

/-! 46 fumarole/fumarolelaw11.tracts -/
def f_law11_tracts_r0 : List Abs.Op := [
  ⟨some 0, none, false, .alcv [] [(.int .i64 0), .nils]⟩]

def f_law11_tracts_r1 : List Abs.Op := [
  ⟨some 1, none, false, .bsi 3 1 [(.int .i64 0), (.int .i64 0), (.int .i64 0)] [(0, 1, (.c (.int .i64 333))), (1, 1, (.c (.int .i64 667))), (2, 1, (.c (.int .i64 0)))]⟩,
  ⟨some 2, none, false, .bsi 3 1 [(.int .i64 0), (.int .i64 0), (.int .i64 0)] [(0, 1, (.c (.int .i64 500))), (1, 1, (.c (.int .i64 0))), (2, 1, (.c (.int .i64 250)))]⟩,
  ⟨some 3, none, false, .bsi 2 1 [.nils, .nils] [(0, 1, (.t 1)), (1, 1, (.t 2))]⟩,
  ⟨some 4, none, false, .bld [(.int .i64 0), .nils] [(0, 1, (.c (.int .i64 3))), (1, 1, (.t 3))]⟩,
  ⟨none, none, false, .stv 0 [] 2 0 (.t 4)⟩]

def a_law11_tracts : Ann := ⟨[(1, [0]), (0, [0])], [], [], [0], [0], [], [], [], [], []⟩
def f_law11_tracts : Abs.Fn := ⟨0, [.v 0 true 2],
  (.seq (.reg [0] f_law11_tracts_r0) (.seq (.reg [0] f_law11_tracts_r1) .ret))⟩

theorem e_law11_tracts_r0 : type_of% f_law11_tracts_r0.eq_1 := by_rfl f_law11_tracts_r0.eq_1
theorem e_law11_tracts_r1 : type_of% f_law11_tracts_r1.eq_1 := by_rfl f_law11_tracts_r1.eq_1
theorem e_law11_tracts : type_of% f_law11_tracts.eq_1 := by_rfl f_law11_tracts.eq_1
theorem ok_law11_tracts : fnC Tryz.prog a_law11_tracts Tryz.f46 = some f_law11_tracts := by kernel_rfl

end Go.Proofs.YtcccafphhmcifaaGreat
