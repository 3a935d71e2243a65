/- The code of functions of the program, in the small instruction set; each is what the translation makes of it. -/
import Derived.Test.YtfgljaglidhjiaaGreatDoorIds
set_option linter.unusedVariables false
set_option linter.unusedSimpArgs false
set_option maxRecDepth 100000
namespace Go.Proofs.YtfgljaglidhjiaaGreatDoor
open Go Go.Abs
/-! 299 (*fumarole/logbook.book).unit -/
def f299r0 : List Abs.Op := [qm 7 0, qo 8 (.nck (.t 7)), qf 9 0 8, qf 10 16 9, ql 11 1 10, qe 12 11, qn 13 .lss 12 10]
def f299r1 : List Abs.Op := []
def f299r2 : List Abs.Op := [qm 15 2, qo 16 (.idxS 1 (.t 15) (.c (.int .i64 0))), ql 17 1 16, qo 18 (.bld [(.int .i64 0), .nils] [(0, 1, (.t 17))]), qo 6 (.alcv [] [(.int .i64 0), .nils]), ⟨none, none, false, .stv 6 [(1, 2)] 2 6 (.t 18)⟩]
def f299r3 : List Abs.Op := [qm 19 2, qo 20 (.slc 1 (.t 19) (some (.c (.int .i64 1))) none none), qm 2 20]
def f299r4 : List Abs.Op := [qm 21 2, qe 22 21, qn 23 .gtr 22 0]
def f299r5 : List Abs.Op := [qF 26 1 6, qV 27 6 1 26, qM 28 2, qO 29 (.idxS 1 (.t 28) (.c (.int .i64 0))), qL 30 1 29, qM 31 2, qO 32 (.idxS 1 (.t 31) (.c (.int .i64 1))), qL 33 1 32, qO 34 (.bld [(.int .i64 0), (.int .i64 0)] [(0, 1, (.t 30)), (1, 1, (.t 33))]), qO 35 (.bsi 1 2 [(.int .i64 0), (.int .i64 0)] [(0, 2, (.t 34))]), qy 36 2 16 27 35, qf 37 1 6, ⟨none, none, false, .stv 6 [(0, 2)] 1 37 (.t 36)⟩]
def f299r6 : List Abs.Op := [qm 24 2, qo 25 (.slc 1 (.t 24) (some (.c (.int .i64 2))) none none), qm 2 25]
def f_logbook_book_unit_l7 : Abs.Cmd :=
  (.seq (.seq (.reg [0, 2, 6, 23] f299r4) (.ite (.t 23) .nop (.exit 0))) (.seq (.blk 1 (.reg [0, 2, 6] f299r5)) (.reg [0, 2, 6] f299r6)))

def f299r8 : List Abs.Op := [qw 38 6 2 6, qc 39 i_plant_CheckUnit [38]]
def f299r9 : List Abs.Op := []
def f299r10 : List Abs.Op := [qM 41 0, qM 42 0, qO 43 (.nck (.t 42)), qF 44 0 43, qF 45 16 44, qL 46 1 45, qW 47 6 2 6, qO 48 (.bsi 1 2 [(.int .i64 0), .nils] [(0, 2, (.t 47))]), qO 49 (.app 2 32 (.t 46) (.t 48)), qo 50 (.nck (.t 41)), qf 51 0 50, qf 52 16 51, ⟨none, none, false, .st [(0, 2)] 1 (.t 52) (.t 49)⟩]
def a_logbook_book_unit : Ann := ⟨[(7, []), (6, [0, 6]), (4, [0, 2, 6]), (5, [0, 2, 6]), (3, [0, 2, 6, 23]), (2, [0, 2, 6]), (1, [0, 2, 6]), (0, [0, 2])], [(0, [0, 2, 6])], [], [0, 6], [6], [(1005, [(1, 2)]), (5012, [(0, 2)]), (7012, [(0, 2)])], [], [(6, [6, 1000006]), (6, [6])], [], [], [(0, some 7), (6, some 2)]⟩
def f_logbook_book_unit : Abs.Fn := ⟨3, [],
  (.seq (.treg [0, 2] f299r0 ⟨some 14, none, false, .call false (.c (.fn i_logbook_ask [] [])) [(.t 13), (.c (.int .i64 3))]⟩ f299r1) (.seq (.reg [0, 2, 6] f299r2) (.seq (.seq (.reg [0, 2, 6] f299r3) (.blk 0 (.loop [0, 2, 6] false f_logbook_book_unit_l7))) (.seq (.seq (.frz [6, 1000006]) (.treg [0, 6] f299r8 ⟨some 40, none, false, .call false (.c (.fn i_logbook_must [] [])) [(.t 39)]⟩ f299r9)) (.reg [] f299r10)))))⟩
theorem e_logbook_book_unit_l7 : type_of% f_logbook_book_unit_l7.eq_1 := by_rfl f_logbook_book_unit_l7.eq_1
theorem e_logbook_book_unit : type_of% f_logbook_book_unit.eq_1 := by_rfl f_logbook_book_unit.eq_1
theorem ok_logbook_book_unit : fnC Tryz.prog a_logbook_book_unit Tryz.f299 = some f_logbook_book_unit := by kernel_rfl

/-! 300 (*fumarole/logbook.book).sell -/
def f300r0 : List Abs.Op := [qm 21 0, qc 22 i_logbook_book_left [21], qm 6 22]
def f300r1 : List Abs.Op := [qm 23 6, qe 24 23, qn 25 .gtr 24 0, qm 26 25, qg 26 true (qm 27 0), qg 26 true (qo 28 (.nck (.t 27))), qg 26 true (qf 29 0 28), qg 26 true (qf 30 10 29), qg 26 true (ql 31 1 30), qg 26 true (qe 32 31), qg 26 true (qn 33 .gtr 32 0), qp 34 26 33]
def f300r2 : List Abs.Op := []
def f300r3 : List Abs.Op := [qM 36 2, qO 37 (.idxS 1 (.t 36) (.c (.int .i64 0))), qL 38 1 37, qM 39 2, qO 40 (.idxS 1 (.t 39) (.c (.int .i64 1))), qL 41 1 40, qM 42 2, qO 43 (.idxS 1 (.t 42) (.c (.int .i64 2))), qL 44 1 43, qM 45 2, qO 46 (.idxS 1 (.t 45) (.c (.int .i64 3))), qL 47 1 46, qM 7 38, qM 8 41, qM 9 44, qm 10 47]
def f300r4 : List Abs.Op := [qm 48 7, qm 49 0, qo 50 (.nck (.t 49)), qf 51 0 50, qf 52 0 51, qf 53 8 52, ql 54 1 53, qe 55 54, qn 56 .sub 55 1, qo 57 (.call false (.c (.fn i_logbook_within [] [])) [(.t 48), (.c (.int .i64 0)), (.t 56)]), qm 58 57, qg 58 true (qm 59 8), qg 58 true (qm 60 0), qg 58 true (qo 61 (.nck (.t 60))), qg 58 true (qf 62 0 61), qg 58 true (qf 63 0 62), qg 58 true (qf 64 4 63), qg 58 true (ql 65 1 64), qg 58 true (qe 66 65), qg 58 true (qn 67 .sub 66 1), qg 58 true (qo 68 (.call false (.c (.fn i_logbook_within [] [])) [(.t 59), (.c (.int .i64 0)), (.t 67)])), qp 69 58 68, qm 70 69, qg 70 true (qm 71 9), qg 70 true (qm 72 0), qg 70 true (qo 73 (.nck (.t 72))), qg 70 true (qf 74 0 73), qg 70 true (qf 75 16 74), qg 70 true (ql 76 1 75), qg 70 true (qe 77 76), qg 70 true (qn 78 .sub 77 1), qg 70 true (qo 79 (.call false (.c (.fn i_logbook_within [] [])) [(.t 71), (.c (.int .i64 0)), (.t 78)])), qp 80 70 79, qm 81 80, qg 81 true (qm 82 10), qg 81 true (qo 83 (.call false (.c (.fn i_logbook_within [] [])) [(.t 82), (.c (.int .i64 0)), (.c (.int .i64 1000))])), qp 84 81 83]
def f300r5 : List Abs.Op := []
def f300r6 : List Abs.Op := [qo 11 (.nilb 1)]
def f300r7 : List Abs.Op := [qm 86 6, qe 87 86, qi 88 0]
def f300r8 : List Abs.Op := [qk 89 .lss 88 87]
def f300r9 : List Abs.Op := [qj 90 4 86 88, qa 91 4 90, qo 13 (.alcv [] [(.str []), .nils, (.bool false), (.int .i64 0)]), qs 13 4 13 91]
def f300r10 : List Abs.Op := [qM 93 0, qO 94 (.nck (.t 93)), qF 95 0 94, qF 96 0 95, qA 97 9 96, qF 98 0 13, qW 99 13 2 98, qM 100 0, qO 101 (.nck (.t 100)), qF 102 0 101, qF 103 10 102, qL 104 1 103, qC 105 i_rock_Play [97, 99, 104], qM 92 105, qZ 106 92 0, qZ 107 92 1, qO 14 (.alcv [] [.nils, .nils]), qS 14 2 14 106, qm 15 107]
def f300r11 : List Abs.Op := [qm 108 15]
def f300r12 : List Abs.Op := []
def f300r13 : List Abs.Op := [qF 110 1 14, qV 111 14 1 110, qM 112 0, qO 113 (.nck (.t 112)), qF 114 0 113, qF 115 10 114, qL 116 1 115, qE 117 116, qN 118 .sub 117 1, qJ 119 1 111 118, qL 120 1 119, qM 121 7, qJ 122 3 120 121, qA 123 3 122, qO 16 (.alcv [] [(.int .i64 0), (.int .i64 0), (.int .i64 0)]), qs 16 3 16 123]
def f300r14 : List Abs.Op := [qM 125 0, qO 126 (.nck (.t 125)), qF 127 0 126, qF 128 0 127, qF 129 4 128, qL 130 1 129, qM 131 8, qF 132 0 16, qV 133 16 1 132, qF 134 1 16, qV 135 16 1 134, qO 136 (.bld [(.int .i64 0), (.int .i64 0), (.int .i64 0), (.int .i64 0)] [(0, 1, (.t 133)), (1, 1, (.t 135))]), qC 137 i_steam_Flash [130, 131, 136], qM 124 137, qZ 138 124 0, qZ 139 124 1, qO 17 (.alcv [] [(.int .i64 0), (.int .i64 0), (.int .i64 0), (.int .i64 0), (.int .i64 0), (.int .i64 0), (.int .i64 0), (.int .i64 0), (.int .i64 0), (.int .i64 0)]), qS 17 10 17 138, qm 15 139]
def f300r15 : List Abs.Op := [qm 140 15]
def f300r16 : List Abs.Op := []
def f300r17 : List Abs.Op := [qM 143 0, qO 144 (.nck (.t 143)), qF 145 0 144, qF 146 16 145, qL 147 1 146, qM 148 9, qJ 149 2 147 148, qA 150 2 149, qF 151 0 17, qW 152 17 4 151, qC 153 i_plant_Expand [150, 152], qM 142 153, qZ 154 142 0, qZ 155 142 1, qZ 156 142 2, qO 18 (.alcv [] [(.int .i64 0), (.int .i64 0), (.int .i64 0), (.int .i64 0)]), qS 18 4 18 154, qM 19 155, qm 15 156]
def f300r18 : List Abs.Op := [qm 157 15]
def f300r19 : List Abs.Op := []
def f300r20 : List Abs.Op := [qm 159 11, qm 160 19, qo 161 (.bsi 1 1 [(.int .i64 0)] [(0, 1, (.t 160))]), qy 162 1 8 159 161, qm 11 162]
def f300r21 : List Abs.Op := [qn 163 .add 88 1, qm 88 163]
def f_logbook_book_sell_l22 : Abs.Cmd :=
  (.seq (.reg [0, 7, 8, 9, 10, 11, 86, 87, 88, 89] f300r8) (.seq (.ite (.t 89) .nop (.exit 0)) (.seq (.blk 1 (.seq (.reg [0, 7, 8, 9, 10, 11, 13, 86, 87, 88] f300r9) (.seq (.reg [0, 7, 8, 9, 10, 11, 14, 15, 86, 87, 88] f300r10) (.seq (.treg [0, 7, 8, 9, 10, 11, 14, 86, 87, 88] f300r11 ⟨some 109, none, false, .call false (.c (.fn i_logbook_must [] [])) [(.t 108)]⟩ f300r12) (.seq (.reg [0, 7, 8, 9, 10, 11, 16, 86, 87, 88] f300r13) (.seq (.reg [0, 7, 8, 9, 10, 11, 15, 17, 86, 87, 88] f300r14) (.seq (.treg [0, 7, 8, 9, 10, 11, 17, 86, 87, 88] f300r15 ⟨some 141, none, false, .call false (.c (.fn i_logbook_must [] [])) [(.t 140)]⟩ f300r16) (.seq (.reg [0, 7, 8, 9, 10, 11, 15, 19, 86, 87, 88] f300r17) (.seq (.treg [0, 7, 8, 9, 10, 11, 19, 86, 87, 88] f300r18 ⟨some 158, none, false, .call false (.c (.fn i_logbook_must [] [])) [(.t 157)]⟩ f300r19) (.reg [0, 7, 8, 9, 10, 11, 86, 87, 88] f300r20)))))))))) (.reg [0, 7, 8, 9, 10, 11, 86, 87, 88] f300r21))))

def f300r23 : List Abs.Op := [qm 164 11, qc 165 i_logbook_span [164], qo 20 (.alcv [] [(.int .i64 0), (.int .i64 0)]), qs 20 2 20 165]
def f300r24 : List Abs.Op := [qM 166 0, qM 167 0, qO 168 (.nck (.t 167)), qF 169 0 168, qF 170 17 169, qL 171 1 170, qM 172 0, qO 173 (.nck (.t 172)), qF 174 0 173, qF 175 10 174, qL 176 1 175, qE 177 176, qM 178 7, qW 179 20 2 20, qF 180 0 20, qV 181 20 1 180, qM 182 10, qK 183 .mul 181 182, qF 184 1 20, qV 185 20 1 184, qM 186 10, qK 187 .mul 185 186, qO 188 (.bld [(.int .i64 0), (.int .i64 0)] [(0, 1, (.t 183)), (1, 1, (.t 187))]), qO 189 (.bld [(.int .i64 0), (.int .i64 0), (.int .i64 0), (.int .i64 0), (.int .i64 0), (.int .i64 0)] [(0, 1, (.t 177)), (1, 1, (.t 178)), (2, 2, (.t 179)), (4, 2, (.t 188))]), qO 190 (.bsi 1 6 [(.int .i64 0), (.int .i64 0), (.int .i64 0), (.int .i64 0), (.int .i64 0), (.int .i64 0)] [(0, 6, (.t 189))]), qO 191 (.app 6 48 (.t 171) (.t 190)), qo 192 (.nck (.t 166)), qf 193 0 192, qf 194 17 193, ⟨none, none, false, .st [(0, 6)] 1 (.t 194) (.t 191)⟩]
def a_logbook_book_sell : Ann := ⟨[(18, []), (17, [0, 7, 10, 20]), (16, [0, 7, 8, 9, 10, 11, 86, 87, 88]), (15, [0, 7, 8, 9, 10, 11, 86, 87, 88]), (14, [0, 7, 8, 9, 10, 11, 19, 86, 87, 88]), (13, [0, 7, 8, 9, 10, 11, 15, 19, 86, 87, 88]), (12, [0, 7, 8, 9, 10, 11, 17, 86, 87, 88]), (11, [0, 7, 8, 9, 10, 11, 15, 17, 86, 87, 88]), (10, [0, 7, 8, 9, 10, 11, 16, 86, 87, 88]), (9, [0, 7, 8, 9, 10, 11, 14, 86, 87, 88]), (8, [0, 7, 8, 9, 10, 11, 14, 15, 86, 87, 88]), (7, [0, 7, 8, 9, 10, 11, 13, 86, 87, 88]), (6, [0, 7, 8, 9, 10, 11, 86, 87, 88, 89]), (5, [0, 7, 8, 9, 10, 11, 86, 87, 88]), (4, [0, 6, 7, 8, 9, 10, 11]), (3, [0, 6, 7, 8, 9, 10]), (2, [0, 6, 7, 8, 9, 10]), (1, [0, 2, 6]), (0, [0, 2, 6])], [(0, [0, 7, 8, 9, 10, 11, 86, 87, 88])], [], [0, 11, 13, 14, 16, 17, 18, 20], [13, 14, 16, 17, 18, 20], [(18029, [(0, 6)])], [], [(17, [11])], [], [], [(1, some 12), (3, some 37), (9, some 1), (12, some 1), (14, some 1)]⟩
def f_logbook_book_sell : Abs.Fn := ⟨3, [],
  (.seq (.reg [0, 2, 6] f300r0) (.seq (.treg [0, 2, 6] f300r1 ⟨some 35, none, false, .call false (.c (.fn i_logbook_ask [] [])) [(.t 34), (.c (.int .i64 8))]⟩ f300r2) (.seq (.reg [0, 6, 7, 8, 9, 10] f300r3) (.seq (.treg [0, 6, 7, 8, 9, 10] f300r4 ⟨some 85, none, false, .call false (.c (.fn i_logbook_ask [] [])) [(.t 84), (.c (.int .i64 2))]⟩ f300r5) (.seq (.reg [0, 6, 7, 8, 9, 10, 11] f300r6) (.seq (.seq (.reg [0, 7, 8, 9, 10, 11, 86, 87, 88] f300r7) (.blk 0 (.loop [0, 7, 8, 9, 10, 11, 86, 87, 88] false f_logbook_book_sell_l22))) (.seq (.seq (.frz [11]) (.reg [0, 7, 10, 20] f300r23)) (.reg [] f300r24))))))))⟩
theorem e_logbook_book_sell_l22 : type_of% f_logbook_book_sell_l22.eq_1 := by_rfl f_logbook_book_sell_l22.eq_1
theorem e_logbook_book_sell : type_of% f_logbook_book_sell.eq_1 := by_rfl f_logbook_book_sell.eq_1
theorem ok_logbook_book_sell : fnC Tryz.prog a_logbook_book_sell Tryz.f300 = some f_logbook_book_sell := by kernel_rfl

/-! 320 slices.IndexFunc[[]fumarole/rock.Bore,fumarole/rock.Bore] -/
def f320r0 : List Abs.Op := [qi 4 0]
def f320r1 : List Abs.Op := [qm 6 0, qe 7 6, qi 8 0]
def f320r2 : List Abs.Op := [qk 9 .lss 8 7]
def f320r3 : List Abs.Op := [qm 10 8, qm 5 10]
def f320r4 : List Abs.Op := [qm 11 1, qm 12 0, qm 13 5, qj 14 3 12 13, qa 15 3 14, qo 16 (.call false (.t 11) [(.t 15)])]
def f320r5 : List Abs.Op := [qm 17 5, qm 4 17]
def f320r6 : List Abs.Op := [qn 18 .add 8 1, qm 8 18]
def f_slices_IndexFunc_rock_Bore_l7 : Abs.Cmd :=
  (.seq (.reg [0, 1, 7, 8, 9] f320r2) (.seq (.ite (.t 9) .nop (.exit 0)) (.seq (.blk 1 (.seq (.reg [0, 1, 5, 7, 8] f320r3) (.seq (.reg [0, 1, 5, 7, 8, 16] f320r4) (.ite (.t 16) (.seq (.reg [4] f320r5) .ret) .nop)))) (.reg [0, 1, 7, 8] f320r6))))

def f320r8 : List Abs.Op := [qi 4 (-1)]
def a_slices_IndexFunc_rock_Bore : Ann := ⟨[(7, [4]), (6, [0, 1, 7, 8]), (5, [4]), (4, [0, 1, 5, 7, 8, 16]), (3, [0, 1, 5, 7, 8]), (2, [0, 1, 7, 8, 9]), (1, [0, 1, 7, 8]), (0, [0, 1])], [(0, [0, 1, 7, 8])], [], [], [], [], [], [], [], [], []⟩
def f_slices_IndexFunc_rock_Bore : Abs.Fn := ⟨2, [.t 4],
  (.seq (.reg [0, 1] f320r0) (.seq (.seq (.reg [0, 1, 7, 8] f320r1) (.blk 0 (.loop [0, 1, 7, 8] false f_slices_IndexFunc_rock_Bore_l7))) (.seq (.reg [4] f320r8) .ret)))⟩
theorem e_slices_IndexFunc_rock_Bore_l7 : type_of% f_slices_IndexFunc_rock_Bore_l7.eq_1 := by_rfl f_slices_IndexFunc_rock_Bore_l7.eq_1
theorem e_slices_IndexFunc_rock_Bore : type_of% f_slices_IndexFunc_rock_Bore.eq_1 := by_rfl f_slices_IndexFunc_rock_Bore.eq_1
theorem ok_slices_IndexFunc_rock_Bore : fnC Tryz.prog a_slices_IndexFunc_rock_Bore Tryz.f320 = some f_slices_IndexFunc_rock_Bore := by kernel_rfl

/-! 321 (fumarole/rock.Bed).links$1 -/
def f321r0 : List Abs.Op := [qF 6 0 1, qF 7 0 6, qL 8 1 7, qF 9 0 1, qF 10 1 9, qL 11 1 10, qM 3 8, qm 4 11]
def f321r1 : List Abs.Op := [qa 12 9 1, qc 13 i_rock_Bed_size [12], qi 14 0]
def f321r2 : List Abs.Op := [qk 15 .lss 14 13]
def f321r3 : List Abs.Op := [qm 16 14, qm 5 16]
def f321r4 : List Abs.Op := [qm 17 5, qn 18 .add 17 1, qm 19 3, qk 20 .rem 18 19, qn 21 .neq 20 0, qm 22 21, qg 22 true (qm 23 0), qg 22 true (qm 24 5), qg 22 true (qm 25 5), qg 22 true (qn 26 .add 25 1), qg 22 true (qo 27 (.bld [(.int .i64 0), (.int .i64 0)] [(0, 1, (.t 24)), (1, 1, (.t 26))])), qg 22 true (qo 28 (.call false (.t 23) [(.t 27)])), qg 22 true (qu 29 28), qp 30 22 29]
def f321r5 : List Abs.Op := [qm 31 5, qm 32 3, qk 33 .quo 31 32, qm 34 4, qk 35 .rem 33 34, qm 36 4, qn 37 .sub 36 1, qk 38 .neq 35 37, qm 39 38, qg 39 true (qm 40 0), qg 39 true (qm 41 5), qg 39 true (qm 42 5), qg 39 true (qm 43 3), qg 39 true (qk 44 .add 42 43), qg 39 true (qo 45 (.bld [(.int .i64 0), (.int .i64 0)] [(0, 1, (.t 41)), (1, 1, (.t 44))])), qg 39 true (qo 46 (.call false (.t 40) [(.t 45)])), qg 39 true (qu 47 46), qp 48 39 47]
def f321r6 : List Abs.Op := [qm 49 5, qm 50 3, qm 51 4, qk 52 .mul 50 51, qk 53 .add 49 52, qa 54 9 1, qc 55 i_rock_Bed_size [54], qk 56 .lss 53 55, qm 57 56, qg 57 true (qm 58 0), qg 57 true (qm 59 5), qg 57 true (qm 60 5), qg 57 true (qm 61 3), qg 57 true (qm 62 4), qg 57 true (qk 63 .mul 61 62), qg 57 true (qk 64 .add 60 63), qg 57 true (qo 65 (.bld [(.int .i64 0), (.int .i64 0)] [(0, 1, (.t 59)), (1, 1, (.t 64))])), qg 57 true (qo 66 (.call false (.t 58) [(.t 65)])), qg 57 true (qu 67 66), qp 68 57 67]
def f321r7 : List Abs.Op := [qn 69 .add 14 1, qm 14 69]
def f_rock_Bed_links_1_l8 : Abs.Cmd :=
  (.seq (.reg [0, 1, 3, 4, 13, 14, 15] f321r2) (.seq (.ite (.t 15) .nop (.exit 0)) (.seq (.blk 1 (.seq (.reg [0, 1, 3, 4, 5, 13, 14] f321r3) (.seq (.seq (.reg [0, 1, 3, 4, 5, 13, 14, 30] f321r4) (.ite (.t 30) .ret .nop)) (.seq (.seq (.reg [0, 1, 3, 4, 5, 13, 14, 48] f321r5) (.ite (.t 48) .ret .nop)) (.seq (.reg [0, 1, 3, 4, 13, 14, 68] f321r6) (.ite (.t 68) .ret .nop)))))) (.reg [0, 1, 3, 4, 13, 14] f321r7))))

def a_rock_Bed_links_1 : Ann := ⟨[(7, [0, 1, 3, 4, 13, 14]), (6, [0, 1, 3, 4, 13, 14, 68]), (5, [0, 1, 3, 4, 5, 13, 14, 48]), (4, [0, 1, 3, 4, 5, 13, 14, 30]), (3, [0, 1, 3, 4, 5, 13, 14]), (2, [0, 1, 3, 4, 13, 14, 15]), (1, [0, 1, 3, 4, 13, 14]), (0, [0, 1, 3, 4])], [(0, [0, 1, 3, 4, 13, 14])], [], [], [], [], [], [], [], [], []⟩
def f_rock_Bed_links_1 : Abs.Fn := ⟨2, [],
  (.seq (.reg [0, 1, 3, 4] f321r0) (.seq (.reg [0, 1, 3, 4, 13, 14] f321r1) (.blk 0 (.loop [0, 1, 3, 4, 13, 14] false f_rock_Bed_links_1_l8))))⟩
theorem e_rock_Bed_links_1_l8 : type_of% f_rock_Bed_links_1_l8.eq_1 := by_rfl f_rock_Bed_links_1_l8.eq_1
theorem e_rock_Bed_links_1 : type_of% f_rock_Bed_links_1.eq_1 := by_rfl f_rock_Bed_links_1.eq_1
theorem ok_rock_Bed_links_1 : fnC Tryz.prog a_rock_Bed_links_1 Tryz.f321 = some f_rock_Bed_links_1 := by kernel_rfl

/-! 322 slices.ContainsFunc[[]fumarole/rock.Block,fumarole/rock.Block] -/
def f322r0 : List Abs.Op := [qb 4 false]
def f322r1 : List Abs.Op := [qm 5 0, qm 6 1, qc 7 i_slices_IndexFunc_rock_Block [5, 6], qn 8 .geq 7 0, qm 4 8]
def a_slices_ContainsFunc_rock_Block : Ann := ⟨[(1, [4]), (0, [0, 1])], [], [], [], [], [], [], [], [], [], []⟩
def f_slices_ContainsFunc_rock_Block : Abs.Fn := ⟨2, [.t 4],
  (.seq (.reg [0, 1] f322r0) (.seq (.reg [4] f322r1) .ret))⟩
theorem e_slices_ContainsFunc_rock_Block : type_of% f_slices_ContainsFunc_rock_Block.eq_1 := by_rfl f_slices_ContainsFunc_rock_Block.eq_1
theorem ok_slices_ContainsFunc_rock_Block : fnC Tryz.prog a_slices_ContainsFunc_rock_Block Tryz.f322 = some f_slices_ContainsFunc_rock_Block := by kernel_rfl

/-! 323 fumarole/rock.all[fumarole/rock.Block]$1 -/
def f323r0 : List Abs.Op := [qx 2 0, qb 3 false]
def f323r1 : List Abs.Op := [ql 4 1 1, qa 5 3 2, qo 6 (.call false (.t 4) [(.t 5)]), qu 7 6, qm 3 7]
def a_rock_all_rock_Block_1 : Ann := ⟨[(1, [3]), (0, [1, 2])], [], [], [], [], [], [], [], [], [], []⟩
def f_rock_all_rock_Block_1 : Abs.Fn := ⟨2, [.t 3],
  (.seq (.reg [1, 2] f323r0) (.seq (.reg [3] f323r1) .ret))⟩
theorem e_rock_all_rock_Block_1 : type_of% f_rock_all_rock_Block_1.eq_1 := by_rfl f_rock_all_rock_Block_1.eq_1
theorem ok_rock_all_rock_Block_1 : fnC Tryz.prog a_rock_all_rock_Block_1 Tryz.f323 = some f_rock_all_rock_Block_1 := by kernel_rfl

/-! 327 fumarole/logbook.must -/
def f327r0 : List Abs.Op := [qm 2 0, qn 3 .eql 2 0, qm 4 0]
def f327r1 : List Abs.Op := []
def a_logbook_must : Ann := ⟨[(0, [])], [], [], [], [], [], [], [], [], [], [(0, some 3)]⟩
def f_logbook_must : Abs.Fn := ⟨1, [],
  (.treg [] f327r0 ⟨some 5, none, false, .call false (.c (.fn i_logbook_ask [] [])) [(.t 3), (.t 4)]⟩ f327r1)⟩
theorem e_logbook_must : type_of% f_logbook_must.eq_1 := by_rfl f_logbook_must.eq_1
theorem ok_logbook_must : fnC Tryz.prog a_logbook_must Tryz.f327 = some f_logbook_must := by kernel_rfl

/-! 328 fumarole/rock.CheckBed -/
def f328r0 : List Abs.Op := [qx 1 0, qi 2 0]
def f328r1 : List Abs.Op := [qa 3 9 1, qc 4 i_rock_Bed_valid [3], qu 5 4]
def f328r2 : List Abs.Op := [qi 2 1]
def f328r3 : List Abs.Op := [qi 2 0]
def a_rock_CheckBed : Ann := ⟨[(3, [2]), (2, [2]), (1, [5]), (0, [1])], [], [], [], [], [], [], [(0, [0])], [], [], []⟩
def f_rock_CheckBed : Abs.Fn := ⟨1, [.t 2],
  (.seq (.seq (.frz [0]) (.reg [1] f328r0)) (.seq (.seq (.reg [5] f328r1) (.ite (.t 5) (.seq (.reg [2] f328r2) .ret) .nop)) (.seq (.reg [2] f328r3) .ret)))⟩
theorem e_rock_CheckBed : type_of% f_rock_CheckBed.eq_1 := by_rfl f_rock_CheckBed.eq_1
theorem ok_rock_CheckBed : fnC Tryz.prog a_rock_CheckBed Tryz.f328 = some f_rock_CheckBed := by kernel_rfl

/-! 329 slices.Clone[[]fumarole/rock.Bore,fumarole/rock.Bore] -/
def f329r0 : List Abs.Op := [qo 2 (.nilb 3)]
def f329r1 : List Abs.Op := [qm 3 0, qo 4 (.isn false false (.t 3))]
def f329r2 : List Abs.Op := [qo 2 (.nilb 3)]
def f329r3 : List Abs.Op := [qo 5 (.bsm 0 3 [] []), qm 6 0, qy 7 3 24 5 6, qm 2 7]
def a_slices_Clone_rock_Bore : Ann := ⟨[(3, [2]), (2, [2]), (1, [0, 4]), (0, [0])], [], [], [2, 5], [], [], [], [], [], [], []⟩
def f_slices_Clone_rock_Bore : Abs.Fn := ⟨1, [.t 2],
  (.seq (.reg [0] f329r0) (.seq (.seq (.reg [0, 4] f329r1) (.ite (.t 4) (.seq (.reg [2] f329r2) .ret) .nop)) (.seq (.reg [2] f329r3) .ret)))⟩
theorem e_slices_Clone_rock_Bore : type_of% f_slices_Clone_rock_Bore.eq_1 := by_rfl f_slices_Clone_rock_Bore.eq_1
theorem ok_slices_Clone_rock_Bore : fnC Tryz.prog a_slices_Clone_rock_Bore Tryz.f329 = some f_slices_Clone_rock_Bore := by kernel_rfl

/-! 330 slices.ContainsFunc[[]fumarole/logbook.Entry,fumarole/logbook.Entry] -/
def f330r0 : List Abs.Op := [qb 4 false]
def f330r1 : List Abs.Op := [qm 5 0, qm 6 1, qc 7 i_slices_IndexFunc_logbook_Entry [5, 6], qn 8 .geq 7 0, qm 4 8]
def a_slices_ContainsFunc_logbook_Entry : Ann := ⟨[(1, [4]), (0, [0, 1])], [], [], [], [], [], [], [], [], [], []⟩
def f_slices_ContainsFunc_logbook_Entry : Abs.Fn := ⟨2, [.t 4],
  (.seq (.reg [0, 1] f330r0) (.seq (.reg [4] f330r1) .ret))⟩
theorem e_slices_ContainsFunc_logbook_Entry : type_of% f_slices_ContainsFunc_logbook_Entry.eq_1 := by_rfl f_slices_ContainsFunc_logbook_Entry.eq_1
theorem ok_slices_ContainsFunc_logbook_Entry : fnC Tryz.prog a_slices_ContainsFunc_logbook_Entry Tryz.f330 = some f_slices_ContainsFunc_logbook_Entry := by kernel_rfl

/-! 331 (*fumarole/logbook.book).model$1 -/
def f331r0 : List Abs.Op := [qx 2 0, qb 3 false]
def f331r1 : List Abs.Op := [qf 4 0 2, qf 5 0 4, ql 6 1 5, ql 7 1 1, qo 8 (.pur (.seq false) [(.t 6), (.t 7)]), qm 3 8]
def a_logbook_book_model_1 : Ann := ⟨[(1, [3]), (0, [1, 2])], [], [], [], [], [], [], [], [], [], []⟩
def f_logbook_book_model_1 : Abs.Fn := ⟨2, [.t 3],
  (.seq (.reg [1, 2] f331r0) (.seq (.reg [3] f331r1) .ret))⟩
theorem e_logbook_book_model_1 : type_of% f_logbook_book_model_1.eq_1 := by_rfl f_logbook_book_model_1.eq_1
theorem ok_logbook_book_model_1 : fnC Tryz.prog a_logbook_book_model_1 Tryz.f331 = some f_logbook_book_model_1 := by kernel_rfl

/-! 332 fumarole/rock.Start -/
def f332r0 : List Abs.Op := [qx 2 0, qx 3 1, qo 4 (.mv (.c .nils)), qi 5 0]
def f332r1 : List Abs.Op := [qa 9 9 2, qa 10 2 3, qc 11 i_rock_bed [9, 10], qm 8 11, qz 12 8 0, qz 13 8 1, qo 6 (.alcv [] [(.int .i64 0), (.int .i64 0), (.int .i64 0), (.int .i64 0), .nils, (.int .i64 0), (.int .i64 0), (.int .i64 0), .nils, (.str []), .nils]), qs 6 11 6 12, qm 7 13]
def f332r2 : List Abs.Op := [qm 14 7, qn 15 .neq 14 0]
def f332r3 : List Abs.Op := [qm 16 7, qo 4 (.mv (.c .nils)), qm 5 16]
def f332r4 : List Abs.Op := [qw 17 6 11 6, qc 18 i_rock_bedded_first [17], qm 4 18, qi 5 0]
def a_rock_Start : Ann := ⟨[(4, [4, 5]), (3, [4, 5]), (2, [6, 7, 15]), (1, [6, 7]), (0, [2, 3])], [], [], [6], [6], [], [], [(0, [0])], [], [], []⟩
def f_rock_Start : Abs.Fn := ⟨2, [.t 4, .t 5],
  (.seq (.seq (.frz [0]) (.reg [2, 3] f332r0)) (.seq (.reg [6, 7] f332r1) (.seq (.seq (.reg [6, 7, 15] f332r2) (.ite (.t 15) (.seq (.reg [4, 5] f332r3) .ret) .nop)) (.seq (.reg [4, 5] f332r4) .ret))))⟩
theorem e_rock_Start : type_of% f_rock_Start.eq_1 := by_rfl f_rock_Start.eq_1
theorem ok_rock_Start : fnC Tryz.prog a_rock_Start Tryz.f332 = some f_rock_Start := by kernel_rfl

/-! 333 fumarole/field.CheckMeasures -/
def f333r0 : List Abs.Op := [qx 2 0, qx 3 1, qi 4 0]
def f333r1 : List Abs.Op := [qa 5 4 2, qo 6 (.mkf i_field_Field_shape [(.t 5)] []), qo 7 (.mkf i_field_CheckMeasures_1 [] [(.t 2), (.t 3)]), qo 8 (.bsi 2 1 [.nilf, .nilf] [(0, 1, (.t 6)), (1, 1, (.t 7))]), qc 9 i_field_first [8], qm 4 9]
def a_field_CheckMeasures : Ann := ⟨[(1, [4]), (0, [2, 3])], [], [], [], [], [], [], [], [], [], []⟩
def f_field_CheckMeasures : Abs.Fn := ⟨2, [.t 4],
  (.seq (.reg [2, 3] f333r0) (.seq (.reg [4] f333r1) .ret))⟩
theorem e_field_CheckMeasures : type_of% f_field_CheckMeasures.eq_1 := by_rfl f_field_CheckMeasures.eq_1
theorem ok_field_CheckMeasures : fnC Tryz.prog a_field_CheckMeasures Tryz.f333 = some f_field_CheckMeasures := by kernel_rfl

/-! 334 (*fumarole/logbook.book).strike -/
def f334r0 : List Abs.Op := [qx 4 1]
def f334r1 : List Abs.Op := [qm 9 0, qo 10 (.nck (.t 9)), qf 11 0 10, qf 12 9 11, ql 13 1 12, qe 14 13, qi 15 0]
def f334r2 : List Abs.Op := [qk 16 .lss 15 14]
def f334r3 : List Abs.Op := [qm 17 15, qj 18 4 13 15, qa 19 4 18, qo 7 (.alcv [] [(.str []), .nils, (.bool false), (.int .i64 0)]), qm 6 17, qs 7 4 7 19]
def f334r4 : List Abs.Op := [qf 20 2 7, qv 21 7 1 20, qu 22 21]
def f334r5 : List Abs.Op := [qm 23 2, qf 24 0 7, qw 25 7 2 24, qo 26 (.call false (.t 23) [(.t 25)]), qm 8 26]
def f334r6 : List Abs.Op := [qm 27 8, qf 28 0 4, ql 29 1 28, qf 30 1 4, ql 31 1 30, qc 32 i_logbook_within [27, 29, 31], qu 33 32]
def f334r7 : List Abs.Op := [qM 34 0, qO 35 (.nck (.t 34)), qF 36 0 35, qF 37 9 36, qL 38 1 37, qM 39 6, qM 40 0, qO 41 (.nck (.t 40)), qF 42 0 41, qF 43 9 42, qL 44 1 43, qM 45 6, qM 46 0, qO 47 (.nck (.t 46)), qF 48 20 47, qL 49 1 48, qJ 50 4 38 39, qF 51 2 50, ⟨none, none, true, .st [] 1 (.t 51) (.c (.bool false))⟩, qj 52 4 44 45, qf 53 3 52, qt 1 53 49]
def f334r8 : List Abs.Op := [qM 54 0, qO 55 (.nck (.t 54)), qF 56 19 55, qL 57 1 56, qM 58 6, qM 59 0, qO 60 (.nck (.t 59)), qF 61 20 60, qL 62 1 61, qM 63 8, qF 64 0 4, qL 65 1 64, qF 66 1 4, qL 67 1 66, qO 68 (.bld [(.int .i64 0), (.int .i64 0), (.int .i64 0), (.int .i64 0)] [(0, 1, (.t 62)), (1, 1, (.t 63)), (2, 1, (.t 65)), (3, 1, (.t 67))]), qj 69 4 57 58, qt 4 69 68]
def f334r9 : List Abs.Op := [qn 70 .add 15 1, qm 15 70]
def f_logbook_book_strike_l10 : Abs.Cmd :=
  (.seq (.reg [0, 2, 4, 13, 14, 15, 16] f334r2) (.seq (.ite (.t 16) .nop (.exit 0)) (.seq (.blk 1 (.seq (.reg [0, 2, 4, 6, 7, 13, 14, 15] f334r3) (.seq (.seq (.reg [0, 2, 4, 6, 7, 13, 14, 15, 22] f334r4) (.ite (.t 22) (.exit 1) .nop)) (.seq (.reg [0, 2, 4, 6, 8, 13, 14, 15] f334r5) (.seq (.reg [0, 2, 4, 6, 8, 13, 14, 15, 33] f334r6) (.ite (.t 33) (.seq (.reg [0, 2, 4, 6, 8, 13, 14, 15] f334r7) (.reg [0, 2, 4, 13, 14, 15] f334r8)) .nop)))))) (.reg [0, 2, 4, 13, 14, 15] f334r9))))

def a_logbook_book_strike : Ann := ⟨[(9, [0, 2, 4, 13, 14, 15]), (8, [0, 2, 4, 13, 14, 15]), (7, [0, 2, 4, 6, 8, 13, 14, 15]), (6, [0, 2, 4, 6, 8, 13, 14, 15, 33]), (5, [0, 2, 4, 6, 8, 13, 14, 15]), (4, [0, 2, 4, 6, 7, 13, 14, 15, 22]), (3, [0, 2, 4, 6, 7, 13, 14, 15]), (2, [0, 2, 4, 13, 14, 15, 16]), (1, [0, 2, 4, 13, 14, 15]), (0, [0, 2, 4])], [(0, [0, 2, 4, 13, 14, 15])], [], [7], [7], [], [], [], [], [], []⟩
def f_logbook_book_strike : Abs.Fn := ⟨3, [],
  (.seq (.reg [0, 2, 4] f334r0) (.seq (.reg [0, 2, 4, 13, 14, 15] f334r1) (.blk 0 (.loop [0, 2, 4, 13, 14, 15] false f_logbook_book_strike_l10))))⟩
theorem e_logbook_book_strike_l10 : type_of% f_logbook_book_strike_l10.eq_1 := by_rfl f_logbook_book_strike_l10.eq_1
theorem e_logbook_book_strike : type_of% f_logbook_book_strike.eq_1 := by_rfl f_logbook_book_strike.eq_1
theorem ok_logbook_book_strike : fnC Tryz.prog a_logbook_book_strike Tryz.f334 = some f_logbook_book_strike := by kernel_rfl

/-! 335 (*fumarole/logbook.book).log$1 -/
def f335r0 : List Abs.Op := [qx 3 0, qi 4 0]
def f335r1 : List Abs.Op := [qL 8 1 1, qO 9 (.nck (.t 8)), qF 10 0 9, qF 11 0 10, qF 12 0 11, qA 13 4 12, qA 14 2 3, qA 15 6 2, qC 16 i_field_Sum [13, 14, 15], qM 7 16, qZ 17 7 0, qZ 18 7 1, qM 5 17, qm 6 18]
def f335r2 : List Abs.Op := [qm 19 5, qm 4 19]
def a_logbook_book_log_1 : Ann := ⟨[(2, [4]), (1, [5]), (0, [1, 2, 3])], [], [], [], [], [], [], [], [], [], []⟩
def f_logbook_book_log_1 : Abs.Fn := ⟨3, [.t 4],
  (.seq (.reg [1, 2, 3] f335r0) (.seq (.reg [5] f335r1) (.seq (.reg [4] f335r2) .ret)))⟩
theorem e_logbook_book_log_1 : type_of% f_logbook_book_log_1.eq_1 := by_rfl f_logbook_book_log_1.eq_1
theorem ok_logbook_book_log_1 : fnC Tryz.prog a_logbook_book_log_1 Tryz.f335 = some f_logbook_book_log_1 := by kernel_rfl

/-! 336 fumarole/tremor.Inject -/
def f336r0 : List Abs.Op := [qx 6 2, qo 8 (.mv (.c .nils)), qi 9 0]
def f336r1 : List Abs.Op := [qo 10 (.mv (.c (.fn i_tremor_Inject_1 [] [])))]
def f336r2 : List Abs.Op := [qm 15 0, qe 16 15, qn 17 .gtr 16 500, qm 14 17]
def f336r3 : List Abs.Op := [qo 8 (.mv (.c .nils)), qi 9 3]
def f336r4 : List Abs.Op := [qm 19 0, qm 20 10, qc 21 i_tremor_all_int [19, 20], qu 22 21, qm 23 22, qg 23 false (qm 24 1), qg 23 false (qe 25 24), qg 23 false (qm 26 0), qg 23 false (qe 27 26), qg 23 false (qk 28 .neq 25 27), qP 29 23 28, qm 30 29, qg 30 false (qm 31 1), qg 30 false (qo 32 (.call false (.c (.fn i_tremor_all_uint8 [] [])) [(.t 31), (.c (.fn i_tremor_Inject_2 [] []))])), qg 30 false (qu 33 32), qP 34 30 33, qm 35 34, qg 35 false (qm 36 10), qg 35 false (qm 37 3), qg 35 false (qo 38 (.call false (.t 36) [(.t 37)])), qg 35 false (qu 39 38), qP 40 35 39, qm 18 40]
def f336r5 : List Abs.Op := [qo 8 (.mv (.c .nils)), qi 9 1]
def f336r6 : List Abs.Op := [qo 42 (.idxA 3 1 (.t 6) (.c (.int .u8 0))), ql 43 1 42, qn 44 .gtr 43 1000, qm 45 44, qg 45 false (qo 46 (.idxA 3 1 (.t 6) (.c (.int .u8 1)))), qg 45 false (ql 47 1 46), qg 45 false (qo 48 (.idxA 3 1 (.t 6) (.c (.int .u8 0)))), qg 45 false (ql 49 1 48), qg 45 false (qk 50 .gtr 47 49), qP 51 45 50, qm 52 51, qg 52 false (qo 53 (.idxA 3 1 (.t 6) (.c (.int .u8 2)))), qg 52 false (ql 54 1 53), qg 52 false (qo 55 (.idxA 3 1 (.t 6) (.c (.int .u8 1)))), qg 52 false (ql 56 1 55), qg 52 false (qk 57 .gtr 54 56), qP 58 52 57, qm 59 58, qg 59 false (qo 60 (.idxA 3 1 (.t 6) (.c (.int .u8 2)))), qg 59 false (ql 61 1 60), qg 59 false (qn 62 .lss 61 0), qP 63 59 62, qm 41 63]
def f336r7 : List Abs.Op := [qo 8 (.mv (.c .nils)), qi 9 1]
def f336r8 : List Abs.Op := [qm 64 0, qe 65 64, qo 66 (.mks 1 8 [(.int .i64 0)] (.t 65) (.t 65)), qm 11 66]
def f336r9 : List Abs.Op := [qm 67 0, qe 68 67, qi 69 0]
def f336r10 : List Abs.Op := [qk 70 .lss 69 68]
def f336r11 : List Abs.Op := [qm 71 69, qj 72 1 67 69, ql 73 1 72, qm 12 71, qm 13 73]
def f336r12 : List Abs.Op := [qm 74 11, qm 75 12, qm 76 13, qm 77 1, qm 78 12, qj 79 1 77 78, ql 80 1 79, qo 81 (.idxA 3 1 (.t 6) (.t 80)), ql 82 1 81, qk 83 .mul 76 82, qn 84 .quo 83 1000, qj 85 1 74 75, qt 1 85 84]
def f336r13 : List Abs.Op := [qm 86 12, qn 87 .gtr 86 0]
def f336r14 : List Abs.Op := [qM 88 11, qM 89 12, qM 90 11, qM 91 12, qJ 92 1 90 91, qL 93 1 92, qM 94 11, qM 95 12, qN 96 .sub 95 1, qJ 97 1 94 96, qL 98 1 97, qM 99 3, qK 100 .add 98 99, qO 101 (.mn (.t 93) (.t 100)), qj 102 1 88 89, qt 1 102 101]
def f336r15 : List Abs.Op := [qn 103 .add 69 1, qm 69 103]
def f_tremor_Inject_l16 : Abs.Cmd :=
  (.seq (.reg [1, 3, 6, 11, 67, 68, 69, 70] f336r10) (.seq (.ite (.t 70) .nop (.exit 1)) (.seq (.blk 2 (.seq (.reg [1, 3, 6, 11, 12, 13, 67, 68, 69] f336r11) (.seq (.reg [1, 3, 6, 11, 12, 67, 68, 69] f336r12) (.seq (.reg [1, 3, 6, 11, 12, 67, 68, 69, 87] f336r13) (.ite (.t 87) (.reg [1, 3, 6, 11, 67, 68, 69] f336r14) .nop))))) (.reg [1, 3, 6, 11, 67, 68, 69] f336r15))))

def f336r17 : List Abs.Op := [qm 104 11, qm 8 104, qi 9 0]
def a_tremor_Inject : Ann := ⟨[(16, [8, 9]), (15, [1, 3, 6, 11, 67, 68, 69]), (14, [1, 3, 6, 11, 67, 68, 69]), (13, [1, 3, 6, 11, 12, 67, 68, 69, 87]), (12, [1, 3, 6, 11, 12, 67, 68, 69]), (11, [1, 3, 6, 11, 12, 13, 67, 68, 69]), (10, [1, 3, 6, 11, 67, 68, 69, 70]), (9, [1, 3, 6, 11, 67, 68, 69]), (8, [0, 1, 3, 6, 11]), (3, [8, 9]), (5, [8, 9]), (7, [8, 9]), (6, [0, 1, 3, 6, 41]), (4, [0, 1, 3, 6, 18]), (2, [0, 1, 3, 6, 10, 14]), (1, [0, 1, 3, 6, 10]), (0, [0, 1, 3, 6])], [(1, [1, 3, 6, 11, 67, 68, 69])], [], [], [], [], [], [], [], [], []⟩
def f_tremor_Inject : Abs.Fn := ⟨4, [.t 8, .t 9],
  (.seq (.reg [0, 1, 3, 6] f336r0) (.seq (.reg [0, 1, 3, 6, 10] f336r1) (.seq (.blk 0 (.seq (.reg [0, 1, 3, 6, 10, 14] f336r2) (.ite (.t 14) (.seq (.reg [8, 9] f336r3) .ret) (.seq (.reg [0, 1, 3, 6, 18] f336r4) (.ite (.t 18) (.seq (.reg [8, 9] f336r5) .ret) (.seq (.reg [0, 1, 3, 6, 41] f336r6) (.ite (.t 41) (.seq (.reg [8, 9] f336r7) .ret) .nop))))))) (.seq (.reg [0, 1, 3, 6, 11] f336r8) (.seq (.seq (.reg [1, 3, 6, 11, 67, 68, 69] f336r9) (.blk 1 (.loop [1, 3, 6, 11, 67, 68, 69] false f_tremor_Inject_l16))) (.seq (.reg [8, 9] f336r17) .ret))))))⟩
theorem e_tremor_Inject_l16 : type_of% f_tremor_Inject_l16.eq_1 := by_rfl f_tremor_Inject_l16.eq_1
theorem e_tremor_Inject : type_of% f_tremor_Inject.eq_1 := by_rfl f_tremor_Inject.eq_1
theorem ok_tremor_Inject : fnC Tryz.prog a_tremor_Inject Tryz.f336 = some f_tremor_Inject := by kernel_rfl

/-! 337 (*fumarole/logbook.book).left -/
def f337r0 : List Abs.Op := [qo 2 (.mv (.c .nils))]
def f337r1 : List Abs.Op := [qm 3 0, qo 4 (.nck (.t 3)), qf 5 0 4, qf 6 9 5, ql 7 1 6, qo 8 (.call false (.c (.fn i_logbook_filter_logbook_Entry [] [])) [(.t 7), (.c (.fn i_logbook_book_left_1 [] []))]), qm 2 8]
def a_logbook_book_left : Ann := ⟨[(1, [2]), (0, [0])], [], [], [], [], [], [], [], [], [], []⟩
def f_logbook_book_left : Abs.Fn := ⟨1, [.t 2],
  (.seq (.reg [0] f337r0) (.seq (.reg [2] f337r1) .ret))⟩
theorem e_logbook_book_left : type_of% f_logbook_book_left.eq_1 := by_rfl f_logbook_book_left.eq_1
theorem ok_logbook_book_left : fnC Tryz.prog a_logbook_book_left Tryz.f337 = some f_logbook_book_left := by kernel_rfl

/-! 338 slices.Clone[[][]int,[]int] -/
def f338r0 : List Abs.Op := [qo 2 (.nilb 1)]
def f338r1 : List Abs.Op := [qm 3 0, qo 4 (.isn false false (.t 3))]
def f338r2 : List Abs.Op := [qo 2 (.nilb 1)]
def f338r3 : List Abs.Op := [qo 5 (.bsm 0 1 [] []), qm 6 0, qy 7 1 24 5 6, qm 2 7]
def a_slices_Clone_L_int : Ann := ⟨[(3, [2]), (2, [2]), (1, [0, 4]), (0, [0])], [], [], [2, 5], [], [], [], [], [], [], []⟩
def f_slices_Clone_L_int : Abs.Fn := ⟨1, [.t 2],
  (.seq (.reg [0] f338r0) (.seq (.seq (.reg [0, 4] f338r1) (.ite (.t 4) (.seq (.reg [2] f338r2) .ret) .nop)) (.seq (.reg [2] f338r3) .ret)))⟩
theorem e_slices_Clone_L_int : type_of% f_slices_Clone_L_int.eq_1 := by_rfl f_slices_Clone_L_int.eq_1
theorem ok_slices_Clone_L_int : fnC Tryz.prog a_slices_Clone_L_int Tryz.f338 = some f_slices_Clone_L_int := by kernel_rfl

/-! 339 (*fumarole/logbook.book).read$1 -/
def f339r0 : List Abs.Op := [qx 4 0, qi 5 0]
def f339r1 : List Abs.Op := [qL 10 1 1, qO 11 (.nck (.t 10)), qF 12 0 11, qF 13 0 12, qA 14 9 13, qA 15 2 4, qO 16 (.bsi 1 2 [(.str []), .nils] [(0, 2, (.t 15))]), qL 17 1 1, qO 18 (.nck (.t 17)), qF 19 0 18, qF 20 10 19, qL 21 1 20, qA 22 5 2, qO 23 (.bsi 1 5 [(.int .i64 0), (.int .u8 0), (.int .i64 0), (.int .i64 0), (.int .i64 0)] [(0, 5, (.t 22))]), qC 24 i_rock_Strikes [14, 16, 21, 23], qM 9 24, qZ 25 9 0, qZ 26 9 1, qZ 27 9 2, qM 6 25, qM 7 26, qm 8 27]
def f339r2 : List Abs.Op := [qm 29 7, qe 30 29, qn 31 .eql 30 0, qm 28 31]
def f339r3 : List Abs.Op := [ql 32 1 3, qo 33 (.idxS 1 (.t 32) (.c (.int .i64 2))), ql 34 1 33, qm 5 34]
def f339r4 : List Abs.Op := [qm 36 7, qo 37 (.idxS 3 (.t 36) (.c (.int .i64 0))), qf 38 2 37, ql 39 1 38, qn 40 .gtr 39 0, qm 35 40]
def f339r5 : List Abs.Op := [qL 41 1 3, qO 42 (.idxS 1 (.t 41) (.c (.int .i64 3))), qL 43 1 42, qM 44 7, qO 45 (.idxS 3 (.t 44) (.c (.int .i64 0))), qF 46 2 45, qL 47 1 46, qk 48 .add 43 47, qm 5 48]
def f339r6 : List Abs.Op := [qL 49 1 3, qO 50 (.idxS 1 (.t 49) (.c (.int .i64 2))), qL 51 1 50, qM 52 7, qO 53 (.idxS 3 (.t 52) (.c (.int .i64 0))), qF 54 2 53, qL 55 1 54, qk 56 .add 51 55, qm 5 56]
def a_logbook_book_read_1 : Ann := ⟨[(6, [5]), (3, [5]), (5, [5]), (4, [3, 7, 35]), (2, [3, 7, 28]), (1, [3, 7]), (0, [1, 2, 3, 4])], [], [], [], [], [], [], [], [], [], []⟩
def f_logbook_book_read_1 : Abs.Fn := ⟨4, [.t 5],
  (.seq (.reg [1, 2, 3, 4] f339r0) (.seq (.reg [3, 7] f339r1) (.seq (.blk 0 (.seq (.reg [3, 7, 28] f339r2) (.ite (.t 28) (.seq (.reg [5] f339r3) .ret) (.seq (.reg [3, 7, 35] f339r4) (.ite (.t 35) (.seq (.reg [5] f339r5) .ret) .nop))))) (.seq (.reg [5] f339r6) .ret))))⟩
theorem e_logbook_book_read_1 : type_of% f_logbook_book_read_1.eq_1 := by_rfl f_logbook_book_read_1.eq_1
theorem ok_logbook_book_read_1 : fnC Tryz.prog a_logbook_book_read_1 Tryz.f339 = some f_logbook_book_read_1 := by kernel_rfl

/-! 340 fumarole/plant.CheckUnit -/
def f340r0 : List Abs.Op := [qx 1 0, qi 2 0]
def f340r1 : List Abs.Op := [qa 3 2 1, qc 4 i_plant_Unit_valid [3], qu 5 4]
def f340r2 : List Abs.Op := [qi 2 1]
def f340r3 : List Abs.Op := [qi 2 0]
def a_plant_CheckUnit : Ann := ⟨[(3, [2]), (2, [2]), (1, [5]), (0, [1])], [], [], [], [], [], [], [], [], [], []⟩
def f_plant_CheckUnit : Abs.Fn := ⟨1, [.t 2],
  (.seq (.reg [1] f340r0) (.seq (.seq (.reg [5] f340r1) (.ite (.t 5) (.seq (.reg [2] f340r2) .ret) .nop)) (.seq (.reg [2] f340r3) .ret)))⟩
theorem e_plant_CheckUnit : type_of% f_plant_CheckUnit.eq_1 := by_rfl f_plant_CheckUnit.eq_1
theorem ok_plant_CheckUnit : fnC Tryz.prog a_plant_CheckUnit Tryz.f340 = some f_plant_CheckUnit := by kernel_rfl

/-! 341 fumarole/logbook.span -/
def f341r0 : List Abs.Op := [qo 2 (.alcv [] [(.int .i64 0), (.int .i64 0)])]
def f341r1 : List Abs.Op := [qm 3 0, qc 4 i_slices_Min_int [3], qm 5 0, qc 6 i_slices_Max_int [5], qo 7 (.bld [(.int .i64 0), (.int .i64 0)] [(0, 1, (.t 4)), (1, 1, (.t 6))]), qs 2 2 2 7]
def a_logbook_span : Ann := ⟨[(1, [2]), (0, [0, 2])], [], [], [2], [2], [], [], [], [], [], []⟩
def f_logbook_span : Abs.Fn := ⟨1, [.v 2 true 2],
  (.seq (.reg [0, 2] f341r0) (.seq (.reg [2] f341r1) .ret))⟩
theorem e_logbook_span : type_of% f_logbook_span.eq_1 := by_rfl f_logbook_span.eq_1
theorem ok_logbook_span : fnC Tryz.prog a_logbook_span Tryz.f341 = some f_logbook_span := by kernel_rfl

/-! 347 slices.IndexFunc[[]fumarole/rock.Block,fumarole/rock.Block] -/
def f347r0 : List Abs.Op := [qi 4 0]
def f347r1 : List Abs.Op := [qm 6 0, qe 7 6, qi 8 0]
def f347r2 : List Abs.Op := [qk 9 .lss 8 7]
def f347r3 : List Abs.Op := [qm 10 8, qm 5 10]
def f347r4 : List Abs.Op := [qm 11 1, qm 12 0, qm 13 5, qj 14 3 12 13, qa 15 3 14, qo 16 (.call false (.t 11) [(.t 15)])]
def f347r5 : List Abs.Op := [qm 17 5, qm 4 17]
def f347r6 : List Abs.Op := [qn 18 .add 8 1, qm 8 18]
def f_slices_IndexFunc_rock_Block_l7 : Abs.Cmd :=
  (.seq (.reg [0, 1, 7, 8, 9] f347r2) (.seq (.ite (.t 9) .nop (.exit 0)) (.seq (.blk 1 (.seq (.reg [0, 1, 5, 7, 8] f347r3) (.seq (.reg [0, 1, 5, 7, 8, 16] f347r4) (.ite (.t 16) (.seq (.reg [4] f347r5) .ret) .nop)))) (.reg [0, 1, 7, 8] f347r6))))

def f347r8 : List Abs.Op := [qi 4 (-1)]
def a_slices_IndexFunc_rock_Block : Ann := ⟨[(7, [4]), (6, [0, 1, 7, 8]), (5, [4]), (4, [0, 1, 5, 7, 8, 16]), (3, [0, 1, 5, 7, 8]), (2, [0, 1, 7, 8, 9]), (1, [0, 1, 7, 8]), (0, [0, 1])], [(0, [0, 1, 7, 8])], [], [], [], [], [], [], [], [], []⟩
def f_slices_IndexFunc_rock_Block : Abs.Fn := ⟨2, [.t 4],
  (.seq (.reg [0, 1] f347r0) (.seq (.seq (.reg [0, 1, 7, 8] f347r1) (.blk 0 (.loop [0, 1, 7, 8] false f_slices_IndexFunc_rock_Block_l7))) (.seq (.reg [4] f347r8) .ret)))⟩
theorem e_slices_IndexFunc_rock_Block_l7 : type_of% f_slices_IndexFunc_rock_Block_l7.eq_1 := by_rfl f_slices_IndexFunc_rock_Block_l7.eq_1
theorem e_slices_IndexFunc_rock_Block : type_of% f_slices_IndexFunc_rock_Block.eq_1 := by_rfl f_slices_IndexFunc_rock_Block.eq_1
theorem ok_slices_IndexFunc_rock_Block : fnC Tryz.prog a_slices_IndexFunc_rock_Block Tryz.f347 = some f_slices_IndexFunc_rock_Block := by kernel_rfl

/-! 352 fumarole/field.CheckMeasures$1 -/
def f352r0 : List Abs.Op := [qi 2 0]
def f352r1 : List Abs.Op := [qa 3 4 0, ql 4 1 1, qc 5 i_field_Field_measures [3, 4], qm 2 5]
def a_field_CheckMeasures_1 : Ann := ⟨[(1, [2]), (0, [0, 1])], [], [], [], [], [], [], [], [], [], []⟩
def f_field_CheckMeasures_1 : Abs.Fn := ⟨2, [.t 2],
  (.seq (.reg [0, 1] f352r0) (.seq (.reg [2] f352r1) .ret))⟩
theorem e_field_CheckMeasures_1 : type_of% f_field_CheckMeasures_1.eq_1 := by_rfl f_field_CheckMeasures_1.eq_1
theorem ok_field_CheckMeasures_1 : fnC Tryz.prog a_field_CheckMeasures_1 Tryz.f352 = some f_field_CheckMeasures_1 := by kernel_rfl

/-! 353 (fumarole/field.Field).measures -/
def f353r0 : List Abs.Op := [qx 2 0, qi 4 0]
def f353r1 : List Abs.Op := [qm 5 1, qe 6 5, qn 7 .gtr 6 12]
def f353r2 : List Abs.Op := [qi 4 3]
def f353r3 : List Abs.Op := [qm 8 1, qo 9 (.mkf i_field_Field_measures_1 [] [(.t 2)]), qc 10 i_field_each_field_Measure [8, 9], qm 4 10]
def a_field_Field_measures : Ann := ⟨[(3, [4]), (2, [4]), (1, [1, 2, 7]), (0, [1, 2])], [], [], [], [], [], [], [], [], [], []⟩
def f_field_Field_measures : Abs.Fn := ⟨2, [.t 4],
  (.seq (.reg [1, 2] f353r0) (.seq (.seq (.reg [1, 2, 7] f353r1) (.ite (.t 7) (.seq (.reg [4] f353r2) .ret) .nop)) (.seq (.reg [4] f353r3) .ret)))⟩
theorem e_field_Field_measures : type_of% f_field_Field_measures.eq_1 := by_rfl f_field_Field_measures.eq_1
theorem ok_field_Field_measures : fnC Tryz.prog a_field_Field_measures Tryz.f353 = some f_field_Field_measures := by kernel_rfl

/-! 354 fumarole/tremor.Inject$1 -/
def f354r0 : List Abs.Op := [qb 2 false]
def f354r1 : List Abs.Op := [qm 3 0, qo 4 (.call false (.c (.fn i_tremor_within [] [])) [(.t 3), (.c (.int .i64 0)), (.c (.int .i64 1000000000))]), qm 2 4]
def a_tremor_Inject_1 : Ann := ⟨[(1, [2]), (0, [0])], [], [], [], [], [], [], [], [], [], []⟩
def f_tremor_Inject_1 : Abs.Fn := ⟨1, [.t 2],
  (.seq (.reg [0] f354r0) (.seq (.reg [2] f354r1) .ret))⟩
theorem e_tremor_Inject_1 : type_of% f_tremor_Inject_1.eq_1 := by_rfl f_tremor_Inject_1.eq_1
theorem ok_tremor_Inject_1 : fnC Tryz.prog a_tremor_Inject_1 Tryz.f354 = some f_tremor_Inject_1 := by kernel_rfl

/-! 355 fumarole/tremor.all[uint8] -/
def f355r0 : List Abs.Op := [qx 3 1, qb 4 false]
def f355r1 : List Abs.Op := [qm 5 0, qo 6 (.mkf i_tremor_all_uint8_1 [] [(.t 3)]), qc 7 i_slices_ContainsFunc_uint8 [5, 6], qu 8 7, qm 4 8]
def a_tremor_all_uint8 : Ann := ⟨[(1, [4]), (0, [0, 3])], [], [], [], [], [], [], [], [], [], []⟩
def f_tremor_all_uint8 : Abs.Fn := ⟨2, [.t 4],
  (.seq (.reg [0, 3] f355r0) (.seq (.reg [4] f355r1) .ret))⟩
theorem e_tremor_all_uint8 : type_of% f_tremor_all_uint8.eq_1 := by_rfl f_tremor_all_uint8.eq_1
theorem ok_tremor_all_uint8 : fnC Tryz.prog a_tremor_all_uint8 Tryz.f355 = some f_tremor_all_uint8 := by kernel_rfl

/-! 356 fumarole/tremor.Inject$2 -/
def f356r0 : List Abs.Op := [qb 2 false]
def f356r1 : List Abs.Op := [qm 3 0, qo 4 (.bin .leq (.t 3) (.c (.int .u8 2))), qm 2 4]
def a_tremor_Inject_2 : Ann := ⟨[(1, [2]), (0, [0])], [], [], [], [], [], [], [], [], [], []⟩
def f_tremor_Inject_2 : Abs.Fn := ⟨1, [.t 2],
  (.seq (.reg [0] f356r0) (.seq (.reg [2] f356r1) .ret))⟩
theorem e_tremor_Inject_2 : type_of% f_tremor_Inject_2.eq_1 := by_rfl f_tremor_Inject_2.eq_1
theorem ok_tremor_Inject_2 : fnC Tryz.prog a_tremor_Inject_2 Tryz.f356 = some f_tremor_Inject_2 := by kernel_rfl

/-! 357 fumarole/logbook.filter[fumarole/logbook.Entry] -/
def f357r0 : List Abs.Op := [qo 4 (.nilb 4)]
def f357r1 : List Abs.Op := [qm 7 0, qe 8 7, qi 9 0]
def f357r2 : List Abs.Op := [qk 10 .lss 9 8]
def f357r3 : List Abs.Op := [qj 11 4 7 9, qa 12 4 11, qo 6 (.alcv [] [(.str []), .nils, (.bool false), (.int .i64 0)]), qs 6 4 6 12]
def f357r4 : List Abs.Op := [qm 13 1, qw 14 6 4 6, qo 15 (.call false (.t 13) [(.t 14)])]
def f357r5 : List Abs.Op := [qm 16 4, qw 17 6 4 6, qo 18 (.bsi 1 4 [(.str []), .nils, (.bool false), (.int .i64 0)] [(0, 4, (.t 17))]), qy 19 4 56 16 18, qm 4 19]
def f357r6 : List Abs.Op := [qn 20 .add 9 1, qm 9 20]
def f_logbook_filter_logbook_Entry_l7 : Abs.Cmd :=
  (.seq (.reg [1, 4, 7, 8, 9, 10] f357r2) (.seq (.ite (.t 10) .nop (.exit 0)) (.seq (.blk 1 (.seq (.reg [1, 4, 6, 7, 8, 9] f357r3) (.seq (.reg [1, 4, 6, 7, 8, 9, 15] f357r4) (.ite (.t 15) (.reg [1, 4, 7, 8, 9] f357r5) .nop)))) (.reg [1, 4, 7, 8, 9] f357r6))))

def f357r8 : List Abs.Op := [qm 21 4, qm 4 21]
def a_logbook_filter_logbook_Entry : Ann := ⟨[(7, [4]), (6, [1, 4, 7, 8, 9]), (5, [1, 4, 7, 8, 9]), (4, [1, 4, 6, 7, 8, 9, 15]), (3, [1, 4, 6, 7, 8, 9]), (2, [1, 4, 7, 8, 9, 10]), (1, [1, 4, 7, 8, 9]), (0, [0, 1, 4])], [(0, [1, 4, 7, 8, 9])], [], [4, 6], [6], [], [], [], [], [], []⟩
def f_logbook_filter_logbook_Entry : Abs.Fn := ⟨2, [.t 4],
  (.seq (.reg [0, 1, 4] f357r0) (.seq (.seq (.reg [1, 4, 7, 8, 9] f357r1) (.blk 0 (.loop [1, 4, 7, 8, 9] false f_logbook_filter_logbook_Entry_l7))) (.seq (.reg [4] f357r8) .ret)))⟩
theorem e_logbook_filter_logbook_Entry_l7 : type_of% f_logbook_filter_logbook_Entry_l7.eq_1 := by_rfl f_logbook_filter_logbook_Entry_l7.eq_1
theorem e_logbook_filter_logbook_Entry : type_of% f_logbook_filter_logbook_Entry.eq_1 := by_rfl f_logbook_filter_logbook_Entry.eq_1
theorem ok_logbook_filter_logbook_Entry : fnC Tryz.prog a_logbook_filter_logbook_Entry Tryz.f357 = some f_logbook_filter_logbook_Entry := by kernel_rfl

/-! 358 (*fumarole/logbook.book).left$1 -/
def f358r0 : List Abs.Op := [qx 1 0, qb 2 false]
def f358r1 : List Abs.Op := [qf 3 2 1, ql 4 1 3, qm 2 4]
def a_logbook_book_left_1 : Ann := ⟨[(1, [2]), (0, [1])], [], [], [], [], [], [], [], [], [], []⟩
def f_logbook_book_left_1 : Abs.Fn := ⟨1, [.t 2],
  (.seq (.reg [1] f358r0) (.seq (.reg [2] f358r1) .ret))⟩
theorem e_logbook_book_left_1 : type_of% f_logbook_book_left_1.eq_1 := by_rfl f_logbook_book_left_1.eq_1
theorem ok_logbook_book_left_1 : fnC Tryz.prog a_logbook_book_left_1 Tryz.f358 = some f_logbook_book_left_1 := by kernel_rfl

/-! 359 slices.Min[[]int,int] -/
def f359r0 : List Abs.Op := [qi 2 0]
def f359r1 : List Abs.Op := [qm 5 0, qe 6 5, qn 7 .lss 6 1]
def f359r2 : List Abs.Op := [qo 8 (.mki 9 (.c (.str [115, 108, 105, 99, 101, 115, 46, 77, 105, 110, 58, 32, 101, 109, 112, 116, 121, 32, 108, 105, 115, 116])))]
def f359r3 : List Abs.Op := []
def f359r4 : List Abs.Op := [qm 9 0, qo 10 (.idxS 1 (.t 9) (.c (.int .i64 0))), ql 11 1 10, qm 3 11]
def f359r5 : List Abs.Op := [qi 4 1]
def f359r6 : List Abs.Op := [qm 12 4, qm 13 0, qe 14 13, qk 15 .lss 12 14]
def f359r7 : List Abs.Op := [qm 18 3, qm 19 0, qm 20 4, qj 21 1 19 20, ql 22 1 21, qo 23 (.mn (.t 18) (.t 22)), qm 3 23]
def f359r8 : List Abs.Op := [qm 16 4, qn 17 .add 16 1, qm 4 17]
def f_slices_Min_int_l9 : Abs.Cmd :=
  (.seq (.seq (.reg [0, 3, 4, 15] f359r6) (.ite (.t 15) .nop (.exit 0))) (.seq (.blk 1 (.reg [0, 3, 4] f359r7)) (.reg [0, 3, 4] f359r8)))

def f359r10 : List Abs.Op := [qm 24 3, qm 2 24]
def a_slices_Min_int : Ann := ⟨[(8, [2]), (6, [0, 3, 4]), (7, [0, 3, 4]), (5, [0, 3, 4, 15]), (4, [0, 3, 4]), (3, [0, 3]), (2, [0]), (1, [0, 7]), (0, [0])], [(0, [0, 3, 4])], [], [], [], [], [], [], [], [], [(2, some 1)]⟩
def f_slices_Min_int : Abs.Fn := ⟨1, [.t 2],
  (.seq (.reg [0] f359r0) (.seq (.seq (.reg [0, 7] f359r1) (.ite (.t 7) (.treg [0] f359r2 ⟨none, none, false, .pan (.t 8)⟩ f359r3) .nop)) (.seq (.reg [0, 3] f359r4) (.seq (.seq (.reg [0, 3, 4] f359r5) (.blk 0 (.loop [0, 3, 4] false f_slices_Min_int_l9))) (.seq (.reg [2] f359r10) .ret)))))⟩
theorem e_slices_Min_int_l9 : type_of% f_slices_Min_int_l9.eq_1 := by_rfl f_slices_Min_int_l9.eq_1
theorem e_slices_Min_int : type_of% f_slices_Min_int.eq_1 := by_rfl f_slices_Min_int.eq_1
theorem ok_slices_Min_int : fnC Tryz.prog a_slices_Min_int Tryz.f359 = some f_slices_Min_int := by kernel_rfl

/-! 360 slices.Max[[]int,int] -/
def f360r0 : List Abs.Op := [qi 2 0]
def f360r1 : List Abs.Op := [qm 5 0, qe 6 5, qn 7 .lss 6 1]
def f360r2 : List Abs.Op := [qo 8 (.mki 9 (.c (.str [115, 108, 105, 99, 101, 115, 46, 77, 97, 120, 58, 32, 101, 109, 112, 116, 121, 32, 108, 105, 115, 116])))]
def f360r3 : List Abs.Op := []
def f360r4 : List Abs.Op := [qm 9 0, qo 10 (.idxS 1 (.t 9) (.c (.int .i64 0))), ql 11 1 10, qm 3 11]
def f360r5 : List Abs.Op := [qi 4 1]
def f360r6 : List Abs.Op := [qm 12 4, qm 13 0, qe 14 13, qk 15 .lss 12 14]
def f360r7 : List Abs.Op := [qm 18 3, qm 19 0, qm 20 4, qj 21 1 19 20, ql 22 1 21, qo 23 (.mx (.t 18) (.t 22)), qm 3 23]
def f360r8 : List Abs.Op := [qm 16 4, qn 17 .add 16 1, qm 4 17]
def f_slices_Max_int_l9 : Abs.Cmd :=
  (.seq (.seq (.reg [0, 3, 4, 15] f360r6) (.ite (.t 15) .nop (.exit 0))) (.seq (.blk 1 (.reg [0, 3, 4] f360r7)) (.reg [0, 3, 4] f360r8)))

def f360r10 : List Abs.Op := [qm 24 3, qm 2 24]
def a_slices_Max_int : Ann := ⟨[(8, [2]), (6, [0, 3, 4]), (7, [0, 3, 4]), (5, [0, 3, 4, 15]), (4, [0, 3, 4]), (3, [0, 3]), (2, [0]), (1, [0, 7]), (0, [0])], [(0, [0, 3, 4])], [], [], [], [], [], [], [], [], [(2, some 1)]⟩
def f_slices_Max_int : Abs.Fn := ⟨1, [.t 2],
  (.seq (.reg [0] f360r0) (.seq (.seq (.reg [0, 7] f360r1) (.ite (.t 7) (.treg [0] f360r2 ⟨none, none, false, .pan (.t 8)⟩ f360r3) .nop)) (.seq (.reg [0, 3] f360r4) (.seq (.seq (.reg [0, 3, 4] f360r5) (.blk 0 (.loop [0, 3, 4] false f_slices_Max_int_l9))) (.seq (.reg [2] f360r10) .ret)))))⟩
theorem e_slices_Max_int_l9 : type_of% f_slices_Max_int_l9.eq_1 := by_rfl f_slices_Max_int_l9.eq_1
theorem e_slices_Max_int : type_of% f_slices_Max_int.eq_1 := by_rfl f_slices_Max_int.eq_1
theorem ok_slices_Max_int : fnC Tryz.prog a_slices_Max_int Tryz.f360 = some f_slices_Max_int := by kernel_rfl

/-! 371 fumarole/field.each[fumarole/field.Measure] -/
def f371r0 : List Abs.Op := [qi 4 0]
def f371r1 : List Abs.Op := [qo 10 (.mp (.make) []), qm 5 10]
def f371r2 : List Abs.Op := [qm 11 0, qe 12 11, qi 13 0]
def f371r3 : List Abs.Op := [qk 14 .lss 13 12]
def f371r4 : List Abs.Op := [qj 15 6 11 13, qa 16 6 15, qo 7 (.alcv [] [(.str []), (.int .i64 0), .nils, .nils, (.int .i64 0), (.int .i64 0)]), qs 7 6 7 16]
def f371r5 : List Abs.Op := [qm 18 1, qw 19 7 6 7, qo 20 (.call false (.t 18) [(.t 19)]), qm 17 20, qz 21 17 0, qz 22 17 1, qm 8 21, qm 9 22]
def f371r6 : List Abs.Op := [qm 23 9, qn 24 .neq 23 0]
def f371r7 : List Abs.Op := [qm 25 9, qm 4 25]
def f371r8 : List Abs.Op := [qm 26 5, qm 27 8, qo 28 (.mp (.get none (.bool false) false) [(.t 26), (.t 27)])]
def f371r9 : List Abs.Op := [qi 4 6]
def f371r10 : List Abs.Op := [qm 29 5, qm 30 8, ⟨none, none, false, .mp (.put none) [(.t 29), (.t 30), (.c (.bool true))]⟩]
def f371r11 : List Abs.Op := [qn 31 .add 13 1, qm 13 31]
def f_field_each_field_Measure_l12 : Abs.Cmd :=
  (.seq (.reg [1, 5, 11, 12, 13, 14] f371r3) (.seq (.ite (.t 14) .nop (.exit 0)) (.seq (.blk 1 (.seq (.reg [1, 5, 7, 11, 12, 13] f371r4) (.seq (.reg [1, 5, 8, 9, 11, 12, 13] f371r5) (.seq (.seq (.reg [1, 5, 8, 9, 11, 12, 13, 24] f371r6) (.ite (.t 24) (.seq (.reg [4] f371r7) .ret) .nop)) (.seq (.seq (.reg [1, 5, 8, 11, 12, 13, 28] f371r8) (.ite (.t 28) (.seq (.reg [4] f371r9) .ret) .nop)) (.reg [1, 5, 11, 12, 13] f371r10)))))) (.reg [1, 5, 11, 12, 13] f371r11))))

def f371r13 : List Abs.Op := [qi 4 0]
def a_field_each_field_Measure : Ann := ⟨[(12, [4]), (11, [1, 5, 11, 12, 13]), (10, [1, 5, 11, 12, 13]), (9, [4]), (8, [1, 5, 8, 11, 12, 13, 28]), (7, [4]), (6, [1, 5, 8, 9, 11, 12, 13, 24]), (5, [1, 5, 8, 9, 11, 12, 13]), (4, [1, 5, 7, 11, 12, 13]), (3, [1, 5, 11, 12, 13, 14]), (2, [1, 5, 11, 12, 13]), (1, [0, 1, 5]), (0, [0, 1])], [(0, [1, 5, 11, 12, 13])], [], [7], [7], [], [], [], [], [], []⟩
def f_field_each_field_Measure : Abs.Fn := ⟨2, [.t 4],
  (.seq (.reg [0, 1] f371r0) (.seq (.reg [0, 1, 5] f371r1) (.seq (.seq (.reg [1, 5, 11, 12, 13] f371r2) (.blk 0 (.loop [1, 5, 11, 12, 13] false f_field_each_field_Measure_l12))) (.seq (.reg [4] f371r13) .ret))))⟩
theorem e_field_each_field_Measure_l12 : type_of% f_field_each_field_Measure_l12.eq_1 := by_rfl f_field_each_field_Measure_l12.eq_1
theorem e_field_each_field_Measure : type_of% f_field_each_field_Measure.eq_1 := by_rfl f_field_each_field_Measure.eq_1
theorem ok_field_each_field_Measure : fnC Tryz.prog a_field_each_field_Measure Tryz.f371 = some f_field_each_field_Measure := by kernel_rfl

/-! 372 (fumarole/field.Field).measures$1 -/
def f372r0 : List Abs.Op := [qx 2 0, qo 3 (.mv (.c (.str []))), qi 4 0]
def f372r1 : List Abs.Op := [qF 5 0 2, qL 6 1 5, qA 7 4 1, qA 8 6 2, qC 9 i_field_Field_measure [7, 8], qm 3 6, qm 4 9]
def a_field_Field_measures_1 : Ann := ⟨[(1, [3, 4]), (0, [1, 2])], [], [], [], [], [], [], [], [], [], []⟩
def f_field_Field_measures_1 : Abs.Fn := ⟨2, [.t 3, .t 4],
  (.seq (.reg [1, 2] f372r0) (.seq (.reg [3, 4] f372r1) .ret))⟩
theorem e_field_Field_measures_1 : type_of% f_field_Field_measures_1.eq_1 := by_rfl f_field_Field_measures_1.eq_1
theorem ok_field_Field_measures_1 : fnC Tryz.prog a_field_Field_measures_1 Tryz.f372 = some f_field_Field_measures_1 := by kernel_rfl

/-! 373 slices.ContainsFunc[[]uint8,uint8] -/
def f373r0 : List Abs.Op := [qb 4 false]
def f373r1 : List Abs.Op := [qm 5 0, qm 6 1, qc 7 i_slices_IndexFunc_uint8 [5, 6], qn 8 .geq 7 0, qm 4 8]
def a_slices_ContainsFunc_uint8 : Ann := ⟨[(1, [4]), (0, [0, 1])], [], [], [], [], [], [], [], [], [], []⟩
def f_slices_ContainsFunc_uint8 : Abs.Fn := ⟨2, [.t 4],
  (.seq (.reg [0, 1] f373r0) (.seq (.reg [4] f373r1) .ret))⟩
theorem e_slices_ContainsFunc_uint8 : type_of% f_slices_ContainsFunc_uint8.eq_1 := by_rfl f_slices_ContainsFunc_uint8.eq_1
theorem ok_slices_ContainsFunc_uint8 : fnC Tryz.prog a_slices_ContainsFunc_uint8 Tryz.f373 = some f_slices_ContainsFunc_uint8 := by kernel_rfl

/-! 374 fumarole/tremor.all[uint8]$1 -/
def f374r0 : List Abs.Op := [qb 3 false]
def f374r1 : List Abs.Op := [ql 4 1 1, qm 5 0, qo 6 (.call false (.t 4) [(.t 5)]), qu 7 6, qm 3 7]
def a_tremor_all_uint8_1 : Ann := ⟨[(1, [3]), (0, [0, 1])], [], [], [], [], [], [], [], [], [], []⟩
def f_tremor_all_uint8_1 : Abs.Fn := ⟨2, [.t 3],
  (.seq (.reg [0, 1] f374r0) (.seq (.reg [3] f374r1) .ret))⟩
theorem e_tremor_all_uint8_1 : type_of% f_tremor_all_uint8_1.eq_1 := by_rfl f_tremor_all_uint8_1.eq_1
theorem ok_tremor_all_uint8_1 : fnC Tryz.prog a_tremor_all_uint8_1 Tryz.f374 = some f_tremor_all_uint8_1 := by kernel_rfl

/-! 380 slices.IndexFunc[[]uint8,uint8] -/
def f380r0 : List Abs.Op := [qi 4 0]
def f380r1 : List Abs.Op := [qm 6 0, qe 7 6, qi 8 0]
def f380r2 : List Abs.Op := [qk 9 .lss 8 7]
def f380r3 : List Abs.Op := [qm 10 8, qm 5 10]
def f380r4 : List Abs.Op := [qm 11 1, qm 12 0, qm 13 5, qj 14 1 12 13, ql 15 1 14, qo 16 (.call false (.t 11) [(.t 15)])]
def f380r5 : List Abs.Op := [qm 17 5, qm 4 17]
def f380r6 : List Abs.Op := [qn 18 .add 8 1, qm 8 18]
def f_slices_IndexFunc_uint8_l7 : Abs.Cmd :=
  (.seq (.reg [0, 1, 7, 8, 9] f380r2) (.seq (.ite (.t 9) .nop (.exit 0)) (.seq (.blk 1 (.seq (.reg [0, 1, 5, 7, 8] f380r3) (.seq (.reg [0, 1, 5, 7, 8, 16] f380r4) (.ite (.t 16) (.seq (.reg [4] f380r5) .ret) .nop)))) (.reg [0, 1, 7, 8] f380r6))))

def f380r8 : List Abs.Op := [qi 4 (-1)]
def a_slices_IndexFunc_uint8 : Ann := ⟨[(7, [4]), (6, [0, 1, 7, 8]), (5, [4]), (4, [0, 1, 5, 7, 8, 16]), (3, [0, 1, 5, 7, 8]), (2, [0, 1, 7, 8, 9]), (1, [0, 1, 7, 8]), (0, [0, 1])], [(0, [0, 1, 7, 8])], [], [], [], [], [], [], [], [], []⟩
def f_slices_IndexFunc_uint8 : Abs.Fn := ⟨2, [.t 4],
  (.seq (.reg [0, 1] f380r0) (.seq (.seq (.reg [0, 1, 7, 8] f380r1) (.blk 0 (.loop [0, 1, 7, 8] false f_slices_IndexFunc_uint8_l7))) (.seq (.reg [4] f380r8) .ret)))⟩
theorem e_slices_IndexFunc_uint8_l7 : type_of% f_slices_IndexFunc_uint8_l7.eq_1 := by_rfl f_slices_IndexFunc_uint8_l7.eq_1
theorem e_slices_IndexFunc_uint8 : type_of% f_slices_IndexFunc_uint8.eq_1 := by_rfl f_slices_IndexFunc_uint8.eq_1
theorem ok_slices_IndexFunc_uint8 : fnC Tryz.prog a_slices_IndexFunc_uint8 Tryz.f380 = some f_slices_IndexFunc_uint8 := by kernel_rfl

end Go.Proofs.YtfgljaglidhjiaaGreatDoor
