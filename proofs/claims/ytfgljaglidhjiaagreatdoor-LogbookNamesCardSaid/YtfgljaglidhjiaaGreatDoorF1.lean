/- The code of functions of the program, in the small instruction set; each is what the translation makes of it. -/
import Derived.Test.YtfgljaglidhjiaaGreatDoorIds
set_option linter.unusedVariables false
set_option linter.unusedSimpArgs false
set_option maxRecDepth 100000
namespace Go.Proofs.YtfgljaglidhjiaaGreatDoor
open Go Go.Abs
/-! 91 (fumarole/rock.Bed).plan -/
def f91r0 : List Abs.Op := [qx 2 0, qi 4 0]
def f91r1 : List Abs.Op := [qm 8 1, qe 9 8, qn 10 .gtr 9 200]
def f91r2 : List Abs.Op := [qi 4 3]
def f91r3 : List Abs.Op := [qm 11 1, qe 12 11, qi 13 0]
def f91r4 : List Abs.Op := [qk 14 .lss 13 12]
def f91r5 : List Abs.Op := [qj 15 1 11 13, ql 16 1 15, qm 6 16]
def f91r6 : List Abs.Op := [qa 17 9 2, qm 18 6, qc 19 i_rock_Bed_rates [17, 18], qm 7 19]
def f91r7 : List Abs.Op := [qm 20 7, qn 21 .neq 20 0]
def f91r8 : List Abs.Op := [qm 22 7, qm 4 22]
def f91r9 : List Abs.Op := [qn 23 .add 13 1, qm 13 23]
def f_rock_Bed_plan_l10 : Abs.Cmd :=
  (.seq (.reg [2, 11, 12, 13, 14] f91r4) (.seq (.ite (.t 14) .nop (.exit 0)) (.seq (.blk 1 (.seq (.reg [2, 6, 11, 12, 13] f91r5) (.seq (.reg [2, 7, 11, 12, 13] f91r6) (.seq (.reg [2, 7, 11, 12, 13, 21] f91r7) (.ite (.t 21) (.seq (.reg [4] f91r8) .ret) .nop))))) (.reg [2, 11, 12, 13] f91r9))))

def f91r11 : List Abs.Op := [qi 4 0]
def a_rock_Bed_plan : Ann := ⟨[(10, [4]), (9, [2, 11, 12, 13]), (8, [4]), (7, [2, 7, 11, 12, 13, 21]), (6, [2, 7, 11, 12, 13]), (5, [2, 6, 11, 12, 13]), (4, [2, 11, 12, 13, 14]), (3, [2, 11, 12, 13]), (2, [4]), (1, [1, 2, 10]), (0, [1, 2])], [(0, [2, 11, 12, 13])], [], [], [], [], [], [], [], [], []⟩
def f_rock_Bed_plan : Abs.Fn := ⟨2, [.t 4],
  (.seq (.reg [1, 2] f91r0) (.seq (.seq (.reg [1, 2, 10] f91r1) (.ite (.t 10) (.seq (.reg [4] f91r2) .ret) .nop)) (.seq (.seq (.reg [2, 11, 12, 13] f91r3) (.blk 0 (.loop [2, 11, 12, 13] false f_rock_Bed_plan_l10))) (.seq (.reg [4] f91r11) .ret))))⟩
theorem e_rock_Bed_plan_l10 : type_of% f_rock_Bed_plan_l10.eq_1 := by_rfl f_rock_Bed_plan_l10.eq_1
theorem e_rock_Bed_plan : type_of% f_rock_Bed_plan.eq_1 := by_rfl f_rock_Bed_plan.eq_1
theorem ok_rock_Bed_plan : fnC Tryz.prog a_rock_Bed_plan Tryz.f91 = some f_rock_Bed_plan := by kernel_rfl

/-! 92 (fumarole/rock.bedded).run -/
def f92r0 : List Abs.Op := [qx 2 0, qo 4 (.alcv [(0, 1), (1, 1)] [.nils, .nils])]
def f92r1 : List Abs.Op := [qa 10 11 2, qc 11 i_rock_bedded_first [10], qo 12 (.bsm 1 1 [.nils] [(0, 1, (.t 11))]), qf 13 0 4, ⟨none, none, false, .stv 4 [(0, 1), (1, 1)] 1 13 (.t 12)⟩]
def f92r2 : List Abs.Op := [qm 14 1, qe 15 14, qi 16 0]
def f92r3 : List Abs.Op := [qk 17 .lss 16 15]
def f92r4 : List Abs.Op := [qm 18 16, qj 19 1 14 16, ql 20 1 19, qm 5 18, qm 6 20]
def f92r5 : List Abs.Op := [qA 22 11 2, qF 23 0 4, qV 24 4 1 23, qM 25 5, qJ 26 1 24 25, qL 27 1 26, qM 28 6, qC 29 i_rock_bedded_tick [22, 27, 28], qM 21 29, qZ 30 21 0, qZ 31 21 1, qZ 32 21 2, qM 7 30, qM 8 31, qm 9 32]
def f92r6 : List Abs.Op := [qm 33 9, qn 34 .neq 33 0]
def f92r7 : List Abs.Op := [qo 35 (.bld [] []), qo 36 (.mki 262 (.t 35))]
def f92r8 : List Abs.Op := []
def f92r9 : List Abs.Op := [qF 37 0 4, qV 38 4 1 37, qM 39 7, qO 40 (.bsi 1 1 [.nils] [(0, 1, (.t 39))]), qO 41 (.app 1 24 (.t 38) (.t 40)), qF 42 1 4, qV 43 4 1 42, qM 44 8, qO 45 (.bsi 1 1 [.nils] [(0, 1, (.t 44))]), qO 46 (.app 1 24 (.t 43) (.t 45)), qF 47 0 4, ⟨none, none, false, .stv 4 [(0, 1), (1, 1)] 1 47 (.t 41)⟩, qf 48 1 4, ⟨none, none, false, .stv 4 [(0, 1)] 1 48 (.t 46)⟩]
def f92r10 : List Abs.Op := [qn 49 .add 16 1, qm 16 49]
def f_rock_bedded_run_l11 : Abs.Cmd :=
  (.seq (.reg [2, 4, 14, 15, 16, 17] f92r3) (.seq (.ite (.t 17) .nop (.exit 0)) (.seq (.blk 1 (.seq (.reg [2, 4, 5, 6, 14, 15, 16] f92r4) (.seq (.reg [2, 4, 7, 8, 9, 14, 15, 16] f92r5) (.seq (.seq (.reg [2, 4, 7, 8, 14, 15, 16, 34] f92r6) (.ite (.t 34) (.treg [2, 4, 7, 8, 14, 15, 16] f92r7 ⟨none, none, false, .pan (.t 36)⟩ f92r8) .nop)) (.reg [2, 4, 14, 15, 16] f92r9))))) (.reg [2, 4, 14, 15, 16] f92r10))))

def f92r12 : List Abs.Op := [qw 50 4 2 4, ⟨none, none, false, .stv 4 [(0, 1), (1, 1)] 2 4 (.t 50)⟩]
def a_rock_bedded_run : Ann := ⟨[(10, [4]), (9, [2, 4, 14, 15, 16]), (8, [2, 4, 14, 15, 16]), (7, [2, 4, 7, 8, 14, 15, 16]), (6, [2, 4, 7, 8, 14, 15, 16, 34]), (5, [2, 4, 7, 8, 9, 14, 15, 16]), (4, [2, 4, 5, 6, 14, 15, 16]), (3, [2, 4, 14, 15, 16, 17]), (2, [2, 4, 14, 15, 16]), (1, [1, 2, 4]), (0, [1, 2, 4])], [(0, [2, 4, 14, 15, 16])], [], [4, 12], [4], [(1, [(0, 1), (1, 1)]), (1004, [(0, 1), (1, 1)]), (8011, [(0, 1), (1, 1)]), (8013, [(0, 1)]), (10001, [(0, 1), (1, 1)])], [], [], [], [], [(7, some 2)]⟩
def f_rock_bedded_run : Abs.Fn := ⟨2, [.v 4 true 2],
  (.seq (.reg [1, 2, 4] f92r0) (.seq (.reg [1, 2, 4] f92r1) (.seq (.seq (.reg [2, 4, 14, 15, 16] f92r2) (.blk 0 (.loop [2, 4, 14, 15, 16] false f_rock_bedded_run_l11))) (.seq (.reg [4] f92r12) .ret))))⟩
theorem e_rock_bedded_run_l11 : type_of% f_rock_bedded_run_l11.eq_1 := by_rfl f_rock_bedded_run_l11.eq_1
theorem e_rock_bedded_run : type_of% f_rock_bedded_run.eq_1 := by_rfl f_rock_bedded_run.eq_1
theorem ok_rock_bedded_run : fnC Tryz.prog a_rock_bedded_run Tryz.f92 = some f_rock_bedded_run := by kernel_rfl

/-! 93 (fumarole/steam.Table).valid -/
def f93r0 : List Abs.Op := [qb 2 false]
def f93r1 : List Abs.Op := [qm 6 0, qe 7 6, qo 8 (.call false (.c (.fn i_steam_within [] [])) [(.t 7), (.c (.int .i64 2)), (.c (.int .i64 20))]), qu 9 8, qm 10 9, qg 10 false (qm 11 0), qg 10 false (qo 12 (.call false (.c (.fn i_steam_all_steam_Row [] [])) [(.t 11), (.c (.fn i_steam_Row_alone [] []))])), qg 10 false (qu 13 12), qP 14 10 13]
def f93r2 : List Abs.Op := [qb 2 false]
def f93r3 : List Abs.Op := [qm 15 0, qo 16 (.slc 5 (.t 15) (some (.c (.int .i64 1))) none none), qe 17 16, qi 18 0]
def f93r4 : List Abs.Op := [qk 19 .lss 18 17]
def f93r5 : List Abs.Op := [qm 20 18, qj 21 5 16 18, qa 22 5 21, qo 4 (.alcv [] [(.int .i64 0), (.int .i64 0), (.int .i64 0), (.int .i64 0), (.int .i64 0)]), qm 3 20, qs 4 5 4 22]
def f93r6 : List Abs.Op := [qm 23 0, qm 24 3, qj 25 5 23 24, qa 26 5 25, qo 5 (.alcv [] [(.int .i64 0), (.int .i64 0), (.int .i64 0), (.int .i64 0), (.int .i64 0)]), qs 5 5 5 26]
def f93r7 : List Abs.Op := [qf 27 0 4, qv 28 4 1 27, qf 29 0 5, qv 30 5 1 29, qk 31 .leq 28 30, qm 32 31, qg 32 false (qf 33 1 4), qg 32 false (qv 34 4 1 33), qg 32 false (qf 35 1 5), qg 32 false (qv 36 5 1 35), qg 32 false (qk 37 .leq 34 36), qP 38 32 37, qm 39 38, qg 39 false (qf 40 2 4), qg 39 false (qv 41 4 1 40), qg 39 false (qf 42 2 5), qg 39 false (qv 43 5 1 42), qg 39 false (qk 44 .leq 41 43), qP 45 39 44, qm 46 45, qg 46 false (qf 47 4 4), qg 46 false (qv 48 4 1 47), qg 46 false (qf 49 4 5), qg 46 false (qv 50 5 1 49), qg 46 false (qk 51 .lss 48 50), qP 52 46 51]
def f93r8 : List Abs.Op := [qb 2 false]
def f93r9 : List Abs.Op := [qn 53 .add 18 1, qm 18 53]
def f_steam_Table_valid_l10 : Abs.Cmd :=
  (.seq (.reg [0, 16, 17, 18, 19] f93r4) (.seq (.ite (.t 19) .nop (.exit 0)) (.seq (.blk 1 (.seq (.reg [0, 3, 4, 16, 17, 18] f93r5) (.seq (.reg [0, 4, 5, 16, 17, 18] f93r6) (.seq (.reg [0, 16, 17, 18, 52] f93r7) (.ite (.t 52) (.seq (.reg [2] f93r8) .ret) .nop))))) (.reg [0, 16, 17, 18] f93r9))))

def f93r11 : List Abs.Op := [qb 2 true]
def a_steam_Table_valid : Ann := ⟨[(10, [2]), (9, [0, 16, 17, 18]), (8, [2]), (7, [0, 16, 17, 18, 52]), (6, [0, 4, 5, 16, 17, 18]), (5, [0, 3, 4, 16, 17, 18]), (4, [0, 16, 17, 18, 19]), (3, [0, 16, 17, 18]), (2, [2]), (1, [0, 14]), (0, [0])], [(0, [0, 16, 17, 18])], [], [4, 5], [4, 5], [], [], [], [], [], []⟩
def f_steam_Table_valid : Abs.Fn := ⟨1, [.t 2],
  (.seq (.reg [0] f93r0) (.seq (.seq (.reg [0, 14] f93r1) (.ite (.t 14) (.seq (.reg [2] f93r2) .ret) .nop)) (.seq (.seq (.reg [0, 16, 17, 18] f93r3) (.blk 0 (.loop [0, 16, 17, 18] false f_steam_Table_valid_l10))) (.seq (.reg [2] f93r11) .ret))))⟩
theorem e_steam_Table_valid_l10 : type_of% f_steam_Table_valid_l10.eq_1 := by_rfl f_steam_Table_valid_l10.eq_1
theorem e_steam_Table_valid : type_of% f_steam_Table_valid.eq_1 := by_rfl f_steam_Table_valid.eq_1
theorem ok_steam_Table_valid : fnC Tryz.prog a_steam_Table_valid Tryz.f93 = some f_steam_Table_valid := by kernel_rfl

/-! 94 (fumarole/steam.Table).has -/
def f94r0 : List Abs.Op := [qb 4 false]
def f94r1 : List Abs.Op := [qm 5 1, qm 6 0, qe 7 6, qn 8 .sub 7 1, qo 9 (.call false (.c (.fn i_steam_within [] [])) [(.t 5), (.c (.int .i64 0)), (.t 8)]), qm 4 9]
def a_steam_Table_has : Ann := ⟨[(1, [4]), (0, [0, 1])], [], [], [], [], [], [], [], [], [], []⟩
def f_steam_Table_has : Abs.Fn := ⟨2, [.t 4],
  (.seq (.reg [0, 1] f94r0) (.seq (.reg [4] f94r1) .ret))⟩
theorem e_steam_Table_has : type_of% f_steam_Table_has.eq_1 := by_rfl f_steam_Table_has.eq_1
theorem ok_steam_Table_has : fnC Tryz.prog a_steam_Table_has Tryz.f94 = some f_steam_Table_has := by kernel_rfl

/-! 95 (fumarole/steam.Stream).valid -/
def f95r0 : List Abs.Op := [qx 1 0, qb 2 false]
def f95r1 : List Abs.Op := [qf 3 0 1, ql 4 1 3, qo 5 (.call false (.c (.fn i_steam_within [] [])) [(.t 4), (.c (.int .i64 0)), (.c (.int .i64 1000000))]), qm 6 5, qg 6 true (qf 7 1 1), qg 6 true (ql 8 1 7), qg 6 true (qf 9 0 1), qg 6 true (ql 10 1 9), qg 6 true (qo 11 (.bin .mul (.c (.int .i64 4000)) (.t 10))), qg 6 true (qo 12 (.call false (.c (.fn i_steam_within [] [])) [(.t 8), (.c (.int .i64 0)), (.t 11)])), qp 13 6 12, qm 14 13, qg 14 true (qf 15 2 1), qg 14 true (ql 16 1 15), qg 14 true (qf 17 0 1), qg 14 true (ql 18 1 17), qg 14 true (qo 19 (.bin .mul (.c (.int .i64 10000)) (.t 18))), qg 14 true (qo 20 (.call false (.c (.fn i_steam_within [] [])) [(.t 16), (.c (.int .i64 0)), (.t 19)])), qp 21 14 20, qm 22 21, qg 22 true (qf 23 3 1), qg 22 true (ql 24 1 23), qg 22 true (qo 25 (.call false (.c (.fn i_steam_within [] [])) [(.t 24), (.c (.int .i64 0)), (.c (.int .i64 1000000000))])), qp 26 22 25, qm 2 26]
def a_steam_Stream_valid : Ann := ⟨[(1, [2]), (0, [1])], [], [], [], [], [], [], [], [], [], []⟩
def f_steam_Stream_valid : Abs.Fn := ⟨1, [.t 2],
  (.seq (.reg [1] f95r0) (.seq (.reg [2] f95r1) .ret))⟩
theorem e_steam_Stream_valid : type_of% f_steam_Stream_valid.eq_1 := by_rfl f_steam_Stream_valid.eq_1
theorem ok_steam_Stream_valid : fnC Tryz.prog a_steam_Stream_valid Tryz.f95 = some f_steam_Stream_valid := by kernel_rfl

/-! 96 (fumarole/steam.Table).at -/
def f96r0 : List Abs.Op := [qo 4 (.alcv [] [(.int .i64 0), (.int .i64 0), (.int .i64 0), (.int .i64 0), (.int .i64 0)])]
def f96r1 : List Abs.Op := [qm 5 0, qm 6 1, qj 7 5 5 6, qa 8 5 7, qo 9 (.bld [(.int .i64 0), (.int .i64 0), (.int .i64 0), (.int .i64 0), (.int .i64 0)] [(0, 5, (.t 8))]), qs 4 5 4 9]
def a_steam_Table_at : Ann := ⟨[(1, [4]), (0, [0, 1, 4])], [], [], [4], [4], [], [], [], [], [], []⟩
def f_steam_Table_at : Abs.Fn := ⟨2, [.v 4 true 5],
  (.seq (.reg [0, 1, 4] f96r0) (.seq (.reg [4] f96r1) .ret))⟩
theorem e_steam_Table_at : type_of% f_steam_Table_at.eq_1 := by_rfl f_steam_Table_at.eq_1
theorem ok_steam_Table_at : fnC Tryz.prog a_steam_Table_at Tryz.f96 = some f_steam_Table_at := by kernel_rfl

/-! 97 (fumarole/steam.flash).of -/
def f97r0 : List Abs.Op := [qx 2 0, qx 3 1, qo 4 (.alcv [] [(.int .i64 0), (.int .i64 0), (.int .i64 0), (.int .i64 0), (.int .i64 0), (.int .i64 0), (.int .i64 0), (.int .i64 0), (.int .i64 0), (.int .i64 0)])]
def f97r1 : List Abs.Op := [qa 7 5 2, qa 8 4 3, qc 9 i_steam_flash_steam [7, 8], qm 5 9]
def f97r2 : List Abs.Op := [qm 35 5, qn 36 .eql 35 0, qm 34 36]
def f97r3 : List Abs.Op := [qa 37 4 3, qf 38 4 4, qs 4 4 38 37]
def f97r4 : List Abs.Op := [qm 40 5, qf 41 0 3, ql 42 1 41, qk 43 .eql 40 42, qm 39 43]
def f97r5 : List Abs.Op := [qm 44 5, qf 45 1 3, ql 46 1 45, qf 47 3 3, ql 48 1 47, qo 49 (.bld [(.int .i64 0), (.int .i64 0), (.int .i64 0), (.int .i64 0)] [(0, 1, (.t 44)), (1, 1, (.t 46)), (3, 1, (.t 48))]), qf 50 0 4, qs 4 4 50 49]
def f97r6 : List Abs.Op := [qm 10 5, qm 11 5, qf 12 0 2, qf 13 3 12, ql 14 1 13, qk 15 .mul 11 14, qf 16 3 3, ql 17 1 16, qo 18 (.bld [(.int .i64 0), (.int .i64 0), (.int .i64 0), (.int .i64 0)] [(0, 1, (.t 10)), (1, 1, (.t 15)), (3, 1, (.t 17))]), qf 19 0 4, qs 4 4 19 18]
def f97r7 : List Abs.Op := [qf 20 0 3, ql 21 1 20, qm 22 5, qk 23 .sub 21 22, qf 24 1 3, ql 25 1 24, qm 26 5, qf 27 0 2, qf 28 3 27, ql 29 1 28, qk 30 .mul 26 29, qk 31 .sub 25 30, qo 32 (.bld [(.int .i64 0), (.int .i64 0), (.int .i64 0), (.int .i64 0)] [(0, 1, (.t 23)), (1, 1, (.t 31))]), qf 33 4 4, qs 4 4 33 32]
def f97r8 : List Abs.Op := [qf 51 2 3, ql 52 1 51, qf 53 4 4, qf 54 0 53, qv 55 4 1 54, qf 56 0 2, qf 57 4 56, ql 58 1 57, qk 59 .mul 55 58, qo 60 (.mn (.t 52) (.t 59)), qm 6 60]
def f97r9 : List Abs.Op := [qM 61 6, qF 62 2 3, qL 63 1 62, qM 64 6, qK 65 .sub 63 64, qF 66 4 4, qF 67 2 66, qS 4 1 67 61, qf 68 9 4, qs 4 1 68 65]
def f97r10 : List Abs.Op := [qf 69 4 4, qf 70 0 69, qv 71 4 1 70, qn 72 .gtr 71 0]
def f97r11 : List Abs.Op := [qf 73 4 4, qf 74 1 73, qv 75 4 1 74, qf 76 4 4, qf 77 0 76, qv 78 4 1 77, qf 79 0 2, qf 80 2 79, ql 81 1 80, qk 82 .mul 78 81, qk 83 .sub 75 82, qo 84 (.mx (.c (.int .i64 0)) (.t 83)), qf 85 8 4, qs 4 1 85 84]
def f97r12 : List Abs.Op := [qw 86 4 10 4, qs 4 10 4 86]
def a_steam_flash_of : Ann := ⟨[(12, [4]), (11, [4]), (10, [2, 4, 72]), (9, [2, 4]), (8, [2, 3, 4, 6]), (5, [2, 3, 4]), (7, [2, 3, 4]), (3, [2, 3, 4]), (2, [2, 3, 4, 5]), (6, [2, 3, 4, 5, 39]), (4, [2, 3, 4, 5, 34]), (1, [2, 3, 4, 5]), (0, [2, 3, 4])], [], [], [4], [4], [], [], [], [], [], []⟩
def f_steam_flash_of : Abs.Fn := ⟨2, [.v 4 true 10],
  (.seq (.reg [2, 3, 4] f97r0) (.seq (.reg [2, 3, 4, 5] f97r1) (.seq (.blk 0 (.seq (.reg [2, 3, 4, 5, 34] f97r2) (.ite (.t 34) (.reg [2, 3, 4] f97r3) (.seq (.reg [2, 3, 4, 5, 39] f97r4) (.ite (.t 39) (.reg [2, 3, 4] f97r5) (.seq (.reg [2, 3, 4, 5] f97r6) (.reg [2, 3, 4] f97r7))))))) (.seq (.reg [2, 3, 4, 6] f97r8) (.seq (.reg [2, 4] f97r9) (.seq (.seq (.reg [2, 4, 72] f97r10) (.ite (.t 72) (.reg [4] f97r11) .nop)) (.seq (.reg [4] f97r12) .ret)))))))⟩
theorem e_steam_flash_of : type_of% f_steam_flash_of.eq_1 := by_rfl f_steam_flash_of.eq_1
theorem ok_steam_flash_of : fnC Tryz.prog a_steam_flash_of Tryz.f97 = some f_steam_flash_of := by kernel_rfl

/-! 98 (fumarole/plant.Unit).valid -/
def f98r0 : List Abs.Op := [qx 1 0, qb 2 false]
def f98r1 : List Abs.Op := [qo 3 (.alc [] [(.int .i64 0)]), ⟨none, none, false, .st [] 1 (.t 3) (.c (.int .i64 1000))⟩]
def f98r2 : List Abs.Op := [qf 4 0 1, ql 5 1 4, qo 6 (.call false (.c (.fn i_plant_within [] [])) [(.t 5), (.c (.int .i64 0)), (.c (.int .i64 5))]), qm 7 6, qg 7 true (qf 8 1 1), qg 7 true (ql 9 1 8), qg 7 true (qe 10 9), qg 7 true (qo 11 (.call false (.c (.fn i_plant_within [] [])) [(.t 10), (.c (.int .i64 1)), (.c (.int .i64 8))])), qp 12 7 11, qm 13 12, qg 13 true (qf 14 1 1), qg 13 true (ql 15 1 14), qg 13 true (qo 16 (.mkf i_plant_Unit_valid_1 [] [(.t 3)])), qg 13 true (qc 17 i_plant_all_plant_Part [15, 16]), qp 18 13 17, qm 2 18]
def a_plant_Unit_valid : Ann := ⟨[(2, [2]), (1, [1, 3]), (0, [1])], [], [], [3], [], [], [], [], [], [], []⟩
def f_plant_Unit_valid : Abs.Fn := ⟨1, [.t 2],
  (.seq (.reg [1] f98r0) (.seq (.reg [1, 3] f98r1) (.seq (.reg [2] f98r2) .ret)))⟩
theorem e_plant_Unit_valid : type_of% f_plant_Unit_valid.eq_1 := by_rfl f_plant_Unit_valid.eq_1
theorem ok_plant_Unit_valid : fnC Tryz.prog a_plant_Unit_valid Tryz.f98 = some f_plant_Unit_valid := by kernel_rfl

/-! 99 fumarole/plant.right -/
def f99r0 : List Abs.Op := [qb 2 false]
def f99r1 : List Abs.Op := [qm 3 0, qo 4 (.call false (.c (.fn i_plant_all_steam_Stream [] [])) [(.t 3), (.c (.fn i_plant_right_1 [] []))]), qm 2 4]
def a_plant_right : Ann := ⟨[(1, [2]), (0, [0])], [], [], [], [], [], [], [], [], [], []⟩
def f_plant_right : Abs.Fn := ⟨1, [.t 2],
  (.seq (.reg [0] f99r0) (.seq (.reg [2] f99r1) .ret))⟩
theorem e_plant_right : type_of% f_plant_right.eq_1 := by_rfl f_plant_right.eq_1
theorem ok_plant_right : fnC Tryz.prog a_plant_right Tryz.f99 = some f_plant_right := by kernel_rfl

/-! 100 (fumarole/plant.Unit).capacity -/
def f100r0 : List Abs.Op := [qx 1 0, qi 2 0]
def f100r1 : List Abs.Op := [qf 5 1 1, ql 6 1 5, qe 7 6, qi 8 0]
def f100r2 : List Abs.Op := [qk 9 .lss 8 7]
def f100r3 : List Abs.Op := [qj 10 2 6 8, qa 11 2 10, qo 4 (.alcv [] [(.int .i64 0), (.int .i64 0)]), qs 4 2 4 11]
def f100r4 : List Abs.Op := [qm 12 2, qf 13 0 4, qv 14 4 1 13, qk 15 .add 12 14, qm 2 15]
def f100r5 : List Abs.Op := [qn 16 .add 8 1, qm 8 16]
def f_plant_Unit_capacity_l6 : Abs.Cmd :=
  (.seq (.reg [2, 6, 7, 8, 9] f100r2) (.seq (.ite (.t 9) .nop (.exit 0)) (.seq (.blk 1 (.seq (.reg [2, 4, 6, 7, 8] f100r3) (.reg [2, 6, 7, 8] f100r4))) (.reg [2, 6, 7, 8] f100r5))))

def f100r7 : List Abs.Op := [qm 17 2, qm 2 17]
def a_plant_Unit_capacity : Ann := ⟨[(6, [2]), (5, [2, 6, 7, 8]), (4, [2, 6, 7, 8]), (3, [2, 4, 6, 7, 8]), (2, [2, 6, 7, 8, 9]), (1, [2, 6, 7, 8]), (0, [1, 2])], [(0, [2, 6, 7, 8])], [], [4], [4], [], [], [], [], [], []⟩
def f_plant_Unit_capacity : Abs.Fn := ⟨1, [.t 2],
  (.seq (.reg [1, 2] f100r0) (.seq (.seq (.reg [2, 6, 7, 8] f100r1) (.blk 0 (.loop [2, 6, 7, 8] false f_plant_Unit_capacity_l6))) (.seq (.reg [2] f100r7) .ret)))⟩
theorem e_plant_Unit_capacity_l6 : type_of% f_plant_Unit_capacity_l6.eq_1 := by_rfl f_plant_Unit_capacity_l6.eq_1
theorem e_plant_Unit_capacity : type_of% f_plant_Unit_capacity.eq_1 := by_rfl f_plant_Unit_capacity.eq_1
theorem ok_plant_Unit_capacity : fnC Tryz.prog a_plant_Unit_capacity Tryz.f100 = some f_plant_Unit_capacity := by kernel_rfl

/-! 101 (fumarole/plant.Unit).power -/
def f101r0 : List Abs.Op := [qx 2 0, qo 4 (.alc [] [(.int .i64 0)])]
def f101r1 : List Abs.Op := [qa 7 2 2, qm 8 1, qo 9 (.call true (.c (.fn i_plant_Unit_used [] [])) [(.t 7), (.t 8)])]
def f101r2 : List Abs.Op := [qo 5 (.alcv [] [(.int .i64 0), (.int .i64 0)]), qs 5 2 5 10]
def f101r3 : List Abs.Op := [qm 6 11]
def f101r4 : List Abs.Op := [ql 12 1 4, qf 13 1 5, qv 14 5 1 13, qm 15 6, qk 16 .mul 14 15, qk 17 .add 12 16, qt 1 4 17]
def f_plant_Unit_power_a5 : Abs.Cmd :=
  (.seq (.reg [4, 5, 11] f101r2) (.reg [4, 5, 6] f101r3))

def f_plant_Unit_power_b5 : Abs.Cmd :=
  (.blk 1 (.reg [] f101r4))

def f101r6 : List Abs.Op := [ql 18 1 4, qt 1 4 18]
def a_plant_Unit_power : Ann := ⟨[(5, [4]), (4, []), (3, [4, 5, 6]), (2, [4, 5, 11]), (1, [4, 9]), (0, [1, 2, 4])], [(0, [4])], [], [4, 5], [5], [], [1002], [], [], [], []⟩
def f_plant_Unit_power : Abs.Fn := ⟨2, [.c 4 false 1],
  (.seq (.reg [1, 2, 4] f101r0) (.seq (.seq (.reg [4, 9] f101r1) (.blk 0 (.rngf [4] (.t 9) [10, 11] f_plant_Unit_power_a5 f_plant_Unit_power_b5))) (.seq (.reg [4] f101r6) .ret)))⟩
theorem e_plant_Unit_power_a5 : type_of% f_plant_Unit_power_a5.eq_1 := by_rfl f_plant_Unit_power_a5.eq_1
theorem e_plant_Unit_power_b5 : type_of% f_plant_Unit_power_b5.eq_1 := by_rfl f_plant_Unit_power_b5.eq_1
theorem e_plant_Unit_power : type_of% f_plant_Unit_power.eq_1 := by_rfl f_plant_Unit_power.eq_1
theorem ok_plant_Unit_power : fnC Tryz.prog a_plant_Unit_power Tryz.f101 = some f_plant_Unit_power := by kernel_rfl

/-! 110 fumarole/logbook.written -/
def f110r0 : List Abs.Op := [qo 2 (.nilb 1)]
def f110r1 : List Abs.Op := [qm 5 0, qe 6 5, qi 7 0]
def f110r2 : List Abs.Op := [qk 8 .lss 7 6]
def f110r3 : List Abs.Op := [qj 9 1 5 7, ql 10 1 9, qm 4 10]
def f110r4 : List Abs.Op := [qm 11 2, qm 12 4, qc 13 i_logbook_record [12], qy 14 1 1 11 13, qm 2 14]
def f110r5 : List Abs.Op := [qn 15 .add 7 1, qm 7 15]
def f_logbook_written_l6 : Abs.Cmd :=
  (.seq (.reg [2, 5, 6, 7, 8] f110r2) (.seq (.ite (.t 8) .nop (.exit 0)) (.seq (.blk 1 (.seq (.reg [2, 4, 5, 6, 7] f110r3) (.reg [2, 5, 6, 7] f110r4))) (.reg [2, 5, 6, 7] f110r5))))

def f110r7 : List Abs.Op := [qm 16 2, qm 2 16]
def a_logbook_written : Ann := ⟨[(6, [2]), (5, [2, 5, 6, 7]), (4, [2, 5, 6, 7]), (3, [2, 4, 5, 6, 7]), (2, [2, 5, 6, 7, 8]), (1, [2, 5, 6, 7]), (0, [0, 2])], [(0, [2, 5, 6, 7])], [], [2], [], [], [], [], [], [], []⟩
def f_logbook_written : Abs.Fn := ⟨1, [.t 2],
  (.seq (.reg [0, 2] f110r0) (.seq (.seq (.reg [2, 5, 6, 7] f110r1) (.blk 0 (.loop [2, 5, 6, 7] false f_logbook_written_l6))) (.seq (.reg [2] f110r7) .ret)))⟩
theorem e_logbook_written_l6 : type_of% f_logbook_written_l6.eq_1 := by_rfl f_logbook_written_l6.eq_1
theorem e_logbook_written : type_of% f_logbook_written.eq_1 := by_rfl f_logbook_written.eq_1
theorem ok_logbook_written : fnC Tryz.prog a_logbook_written Tryz.f110 = some f_logbook_written := by kernel_rfl

/-! 111 fumarole/logbook.records -/
def f111r0 : List Abs.Op := [qx 1 0, qo 2 (.mv (.c .nilf))]
def f111r1 : List Abs.Op := [qo 3 (.mkf i_logbook_records_1 [] [(.t 1)]), qm 2 3]
def a_logbook_records : Ann := ⟨[(1, [2]), (0, [1])], [], [], [], [], [], [], [], [], [], []⟩
def f_logbook_records : Abs.Fn := ⟨1, [.t 2],
  (.seq (.reg [1] f111r0) (.seq (.reg [2] f111r1) .ret))⟩
theorem e_logbook_records : type_of% f_logbook_records.eq_1 := by_rfl f_logbook_records.eq_1
theorem ok_logbook_records : fnC Tryz.prog a_logbook_records Tryz.f111 = some f_logbook_records := by kernel_rfl

/-! 113 (*fumarole/logbook.book).line -/
def f113r0 : List Abs.Op := [qo 6 (.alc [] [(.int .i64 0)])]
def f113r1 : List Abs.Op := [qo 10 (.mkf i_logbook_book_line_1 [] [(.t 6)])]
def f113r2 : List Abs.Op := [qm 12 2]
def f113r3 : List Abs.Op := [qm 11 13, qz 14 11 0, qz 15 11 1, qz 16 11 2, qo 7 (.alcv [] [(.bool false), (.int .i64 0), (.int .i64 0), .nilf]), qs 7 4 7 14, qm 8 15, qm 9 16]
def f113r4 : List Abs.Op := [qm 17 0, qm 18 1, qo 19 (.nck (.t 17)), qf 20 20 19, qt 1 20 18]
def f113r5 : List Abs.Op := [qf 21 3 7, qv 22 7 1 21, qm 23 0, qm 24 8, qm 25 9]
def f113r6 : List Abs.Op := []
def f113r7 : List Abs.Op := [⟨none, none, false, .st [] 1 (.t 6) (.c (.int .i64 0))⟩]
def f_logbook_book_line_b8 : Abs.Cmd :=
  (.seq (.treg [0, 1, 6, 7, 8, 9] f113r2 ⟨some 13, none, false, .call false (.c (.fn i_logbook_parsed [] [])) [(.t 12)]⟩ f113r3) (.seq (.reg [0, 6, 7, 8, 9] f113r4) (.seq (.treg [6] f113r5 ⟨some 26, none, false, .call false (.t 22) [(.t 23), (.t 24), (.t 25)]⟩ f113r6) (.seq (.reg [6] f113r7) .ret))))

def a_logbook_book_line : Ann := ⟨[(5, [6]), (4, [6]), (3, [0, 6, 7, 8, 9]), (2, [0, 1, 6, 7, 8, 9]), (1, [0, 1, 2, 6]), (0, [0, 1, 2, 6])], [], [], [0, 6, 7], [7], [], [], [], [], [], [(2, some 1), (4, some 5)]⟩
def f_logbook_book_line : Abs.Fn := ⟨3, [.c 6 false 1],
  (.seq (.reg [0, 1, 2, 6] f113r0) (.seq (.reg [10, 0, 1, 2, 6] f113r1) (.dfr (.t 10) [] f_logbook_book_line_b8)))⟩
theorem e_logbook_book_line_b8 : type_of% f_logbook_book_line_b8.eq_1 := by_rfl f_logbook_book_line_b8.eq_1
theorem e_logbook_book_line : type_of% f_logbook_book_line.eq_1 := by_rfl f_logbook_book_line.eq_1
theorem ok_logbook_book_line : fnC Tryz.prog a_logbook_book_line Tryz.f113 = some f_logbook_book_line := by kernel_rfl

/-! 122 slices.ContainsFunc[[]string,string] -/
def f122r0 : List Abs.Op := [qb 4 false]
def f122r1 : List Abs.Op := [qm 5 0, qm 6 1, qc 7 i_slices_IndexFunc_string [5, 6], qn 8 .geq 7 0, qm 4 8]
def a_slices_ContainsFunc_string : Ann := ⟨[(1, [4]), (0, [0, 1])], [], [], [], [], [], [], [], [], [], []⟩
def f_slices_ContainsFunc_string : Abs.Fn := ⟨2, [.t 4],
  (.seq (.reg [0, 1] f122r0) (.seq (.reg [4] f122r1) .ret))⟩
theorem e_slices_ContainsFunc_string : type_of% f_slices_ContainsFunc_string.eq_1 := by_rfl f_slices_ContainsFunc_string.eq_1
theorem ok_slices_ContainsFunc_string : fnC Tryz.prog a_slices_ContainsFunc_string Tryz.f122 = some f_slices_ContainsFunc_string := by kernel_rfl

/-! 123 fumarole/logbook.check$1 -/
def f123r0 : List Abs.Op := [qb 2 false]
def f123r1 : List Abs.Op := [qm 3 0, qo 4 (.pur (.slen) [(.t 3)]), qn 5 .gtr 4 4000, qm 2 5]
def a_logbook_check_1 : Ann := ⟨[(1, [2]), (0, [0])], [], [], [], [], [], [], [], [], [], []⟩
def f_logbook_check_1 : Abs.Fn := ⟨1, [.t 2],
  (.seq (.reg [0] f123r0) (.seq (.reg [2] f123r1) .ret))⟩
theorem e_logbook_check_1 : type_of% f_logbook_check_1.eq_1 := by_rfl f_logbook_check_1.eq_1
theorem ok_logbook_check_1 : fnC Tryz.prog a_logbook_check_1 Tryz.f123 = some f_logbook_check_1 := by kernel_rfl

/-! 128 (fumarole/field.Field).valid -/
def f128r0 : List Abs.Op := [qx 1 0, qb 2 false]
def f128r1 : List Abs.Op := [qf 3 0 1, ql 4 1 3, qo 5 (.call false (.c (.fn i_field_within [] [])) [(.t 4), (.c (.int .i64 1)), (.c (.int .i64 8))]), qm 6 5, qg 6 true (qf 7 1 1), qg 6 true (ql 8 1 7), qg 6 true (qo 9 (.call false (.c (.fn i_field_within [] [])) [(.t 8), (.c (.int .i64 1)), (.c (.int .i64 8))])), qp 10 6 9, qm 11 10, qg 11 true (qf 12 2 1), qg 11 true (ql 13 1 12), qg 11 true (qo 14 (.call false (.c (.fn i_field_within [] [])) [(.t 13), (.c (.int .i64 1)), (.c (.int .i64 8))])), qp 15 11 14, qm 16 15, qg 16 true (qa 17 4 1), qg 16 true (qc 18 i_field_Field_blocks [17]), qg 16 true (qn 19 .leq 18 64), qp 20 16 19, qm 21 20, qg 21 true (qf 22 3 1), qg 21 true (ql 23 1 22), qg 21 true (qo 24 (.call false (.c (.fn i_field_within [] [])) [(.t 23), (.c (.int .i64 1)), (.c (.int .i64 6))])), qp 25 21 24, qm 2 25]
def a_field_Field_valid : Ann := ⟨[(1, [2]), (0, [1])], [], [], [], [], [], [], [], [], [], []⟩
def f_field_Field_valid : Abs.Fn := ⟨1, [.t 2],
  (.seq (.reg [1] f128r0) (.seq (.reg [2] f128r1) .ret))⟩
theorem e_field_Field_valid : type_of% f_field_Field_valid.eq_1 := by_rfl f_field_Field_valid.eq_1
theorem ok_field_Field_valid : fnC Tryz.prog a_field_Field_valid Tryz.f128 = some f_field_Field_valid := by kernel_rfl

/-! 129 fumarole/field.named -/
def f129r0 : List Abs.Op := [qb 2 false]
def f129r1 : List Abs.Op := [qm 5 0, qo 6 (.pur (.slen) [(.t 5)]), qi 7 0]
def f129r2 : List Abs.Op := [qk 8 .lss 7 6]
def f129r3 : List Abs.Op := [qm 9 7, qm 3 9]
def f129r4 : List Abs.Op := [qm 10 0, qm 11 3, qo 12 (.pur (.sidx) [(.t 10), (.t 11)]), qo 13 (.bin .geq (.t 12) (.c (.int .u8 97))), qm 14 13, qg 14 true (qm 15 0), qg 14 true (qm 16 3), qg 14 true (qo 17 (.pur (.sidx) [(.t 15), (.t 16)])), qg 14 true (qo 18 (.bin .leq (.t 17) (.c (.int .u8 122)))), qp 19 14 18, qm 4 19]
def f129r5 : List Abs.Op := [qm 20 4, qu 21 20, qm 22 21, qg 22 true (qm 23 3), qg 22 true (qn 24 .eql 23 0), qg 22 true (qm 25 24), qg 25 false (qm 26 0), qg 25 false (qm 27 3), qg 25 false (qo 28 (.pur (.sidx) [(.t 26), (.t 27)])), qg 25 false (qo 29 (.bin .lss (.t 28) (.c (.int .u8 48)))), qg 22 true (qP 30 25 29), qg 22 true (qm 31 30), qg 31 false (qm 32 0), qg 31 false (qm 33 3), qg 31 false (qo 34 (.pur (.sidx) [(.t 32), (.t 33)])), qg 31 false (qo 35 (.bin .gtr (.t 34) (.c (.int .u8 57)))), qg 22 true (qP 36 31 35), qp 37 22 36]
def f129r6 : List Abs.Op := [qb 2 false]
def f129r7 : List Abs.Op := [qn 38 .add 7 1, qm 7 38]
def f_field_named_l8 : Abs.Cmd :=
  (.seq (.reg [0, 6, 7, 8] f129r2) (.seq (.ite (.t 8) .nop (.exit 0)) (.seq (.blk 1 (.seq (.reg [0, 3, 6, 7] f129r3) (.seq (.reg [0, 3, 4, 6, 7] f129r4) (.seq (.reg [0, 6, 7, 37] f129r5) (.ite (.t 37) (.seq (.reg [2] f129r6) .ret) .nop))))) (.reg [0, 6, 7] f129r7))))

def f129r9 : List Abs.Op := [qm 39 0, qo 40 (.pur (.slen) [(.t 39)]), qo 41 (.call false (.c (.fn i_field_within [] [])) [(.t 40), (.c (.int .i64 1)), (.c (.int .i64 16))]), qm 2 41]
def a_field_named : Ann := ⟨[(8, [2]), (7, [0, 6, 7]), (6, [2]), (5, [0, 6, 7, 37]), (4, [0, 3, 4, 6, 7]), (3, [0, 3, 6, 7]), (2, [0, 6, 7, 8]), (1, [0, 6, 7]), (0, [0])], [(0, [0, 6, 7])], [], [], [], [], [], [], [], [], []⟩
def f_field_named : Abs.Fn := ⟨1, [.t 2],
  (.seq (.reg [0] f129r0) (.seq (.seq (.reg [0, 6, 7] f129r1) (.blk 0 (.loop [0, 6, 7] false f_field_named_l8))) (.seq (.reg [2] f129r9) .ret)))⟩
theorem e_field_named_l8 : type_of% f_field_named_l8.eq_1 := by_rfl f_field_named_l8.eq_1
theorem e_field_named : type_of% f_field_named.eq_1 := by_rfl f_field_named.eq_1
theorem ok_field_named : fnC Tryz.prog a_field_named Tryz.f129 = some f_field_named := by kernel_rfl

/-! 130 (fumarole/field.Field).blocks -/
def f130r0 : List Abs.Op := [qx 1 0, qi 2 0]
def f130r1 : List Abs.Op := [qf 3 0 1, ql 4 1 3, qf 5 1 1, ql 6 1 5, qk 7 .mul 4 6, qf 8 2 1, ql 9 1 8, qk 10 .mul 7 9, qm 2 10]
def a_field_Field_blocks : Ann := ⟨[(1, [2]), (0, [1])], [], [], [], [], [], [], [], [], [], []⟩
def f_field_Field_blocks : Abs.Fn := ⟨1, [.t 2],
  (.seq (.reg [1] f130r0) (.seq (.reg [2] f130r1) .ret))⟩
theorem e_field_Field_blocks : type_of% f_field_Field_blocks.eq_1 := by_rfl f_field_Field_blocks.eq_1
theorem ok_field_Field_blocks : fnC Tryz.prog a_field_Field_blocks Tryz.f130 = some f_field_Field_blocks := by kernel_rfl

/-! 131 fumarole/field.all[int] -/
def f131r0 : List Abs.Op := [qx 3 1, qb 4 false]
def f131r1 : List Abs.Op := [qm 5 0, qo 6 (.mkf i_field_all_int_1 [] [(.t 3)]), qc 7 i_slices_ContainsFunc_int [5, 6], qu 8 7, qm 4 8]
def a_field_all_int : Ann := ⟨[(1, [4]), (0, [0, 3])], [], [], [], [], [], [], [], [], [], []⟩
def f_field_all_int : Abs.Fn := ⟨2, [.t 4],
  (.seq (.reg [0, 3] f131r0) (.seq (.reg [4] f131r1) .ret))⟩
theorem e_field_all_int : type_of% f_field_all_int.eq_1 := by_rfl f_field_all_int.eq_1
theorem ok_field_all_int : fnC Tryz.prog a_field_all_int Tryz.f131 = some f_field_all_int := by kernel_rfl

/-! 132 (fumarole/field.Field).model$1 -/
def f132r0 : List Abs.Op := [qb 2 false]
def f132r1 : List Abs.Op := [qm 3 0, qo 4 (.call false (.c (.fn i_field_within [] [])) [(.t 3), (.c (.int .i64 (-100000))), (.c (.int .i64 100000))]), qm 2 4]
def a_field_Field_model_1 : Ann := ⟨[(1, [2]), (0, [0])], [], [], [], [], [], [], [], [], [], []⟩
def f_field_Field_model_1 : Abs.Fn := ⟨1, [.t 2],
  (.seq (.reg [0] f132r0) (.seq (.reg [2] f132r1) .ret))⟩
theorem e_field_Field_model_1 : type_of% f_field_Field_model_1.eq_1 := by_rfl f_field_Field_model_1.eq_1
theorem ok_field_Field_model_1 : fnC Tryz.prog a_field_Field_model_1 Tryz.f132 = some f_field_Field_model_1 := by kernel_rfl

/-! 133 fumarole/field.within -/
def f133r0 : List Abs.Op := [qb 6 false]
def f133r1 : List Abs.Op := [qm 7 1, qm 8 0, qk 9 .leq 7 8, qm 10 9, qg 10 true (qm 11 0), qg 10 true (qm 12 2), qg 10 true (qk 13 .leq 11 12), qp 14 10 13, qm 6 14]
def a_field_within : Ann := ⟨[(1, [6]), (0, [0, 1, 2])], [], [], [], [], [], [], [], [], [], []⟩
def f_field_within : Abs.Fn := ⟨3, [.t 6],
  (.seq (.reg [0, 1, 2] f133r0) (.seq (.reg [6] f133r1) .ret))⟩
theorem e_field_within : type_of% f_field_within.eq_1 := by_rfl f_field_within.eq_1
theorem ok_field_within : fnC Tryz.prog a_field_within Tryz.f133 = some f_field_within := by kernel_rfl

/-! 134 (fumarole/field.Field).sums -/
def f134r0 : List Abs.Op := [qx 4 0, qb 8 false]
def f134r1 : List Abs.Op := [qm 12 1, qf 13 3 4, ql 14 1 13, qn 15 .sub 14 1, qo 16 (.call false (.c (.fn i_field_within [] [])) [(.t 12), (.c (.int .i64 0)), (.t 15)]), qu 17 16, qm 18 17, qg 18 false (qm 19 2), qg 18 false (qe 20 19), qg 18 false (qn 21 .lss 20 1), qP 22 18 21, qm 23 22, qg 23 false (qm 24 2), qg 23 false (qe 25 24), qg 23 false (qm 26 3), qg 23 false (qe 27 26), qg 23 false (qk 28 .neq 25 27), qP 29 23 28]
def f134r2 : List Abs.Op := [qb 8 false]
def f134r3 : List Abs.Op := [qi 9 (-1)]
def f134r4 : List Abs.Op := [qm 30 2, qe 31 30, qi 32 0]
def f134r5 : List Abs.Op := [qk 33 .lss 32 31]
def f134r6 : List Abs.Op := [qm 34 32, qj 35 1 30 32, ql 36 1 35, qm 10 34, qm 11 36]
def f134r7 : List Abs.Op := [qm 37 11, qm 38 9, qk 39 .leq 37 38, qm 40 39, qg 40 false (qm 41 11), qg 40 false (qa 42 4 4), qg 40 false (qc 43 i_field_Field_blocks [42]), qg 40 false (qk 44 .geq 41 43), qP 45 40 44, qm 46 45, qg 46 false (qm 47 3), qg 46 false (qm 48 10), qg 46 false (qj 49 1 47 48), qg 46 false (ql 50 1 49), qg 46 false (qo 51 (.call false (.c (.fn i_field_within [] [])) [(.t 50), (.c (.int .i64 (-1000))), (.c (.int .i64 1000))])), qg 46 false (qu 52 51), qP 53 46 52]
def f134r8 : List Abs.Op := [qb 8 false]
def f134r9 : List Abs.Op := [qm 54 11, qm 9 54]
def f134r10 : List Abs.Op := [qn 55 .add 32 1, qm 32 55]
def f_field_Field_sums_l11 : Abs.Cmd :=
  (.seq (.reg [3, 4, 9, 30, 31, 32, 33] f134r5) (.seq (.ite (.t 33) .nop (.exit 0)) (.seq (.blk 1 (.seq (.reg [3, 4, 9, 10, 11, 30, 31, 32] f134r6) (.seq (.seq (.reg [3, 4, 11, 30, 31, 32, 53] f134r7) (.ite (.t 53) (.seq (.reg [8] f134r8) .ret) .nop)) (.reg [3, 4, 9, 30, 31, 32] f134r9)))) (.reg [3, 4, 9, 30, 31, 32] f134r10))))

def f134r12 : List Abs.Op := [qb 8 true]
def a_field_Field_sums : Ann := ⟨[(11, [8]), (10, [3, 4, 9, 30, 31, 32]), (9, [3, 4, 9, 30, 31, 32]), (8, [8]), (7, [3, 4, 11, 30, 31, 32, 53]), (6, [3, 4, 9, 10, 11, 30, 31, 32]), (5, [3, 4, 9, 30, 31, 32, 33]), (4, [3, 4, 9, 30, 31, 32]), (3, [2, 3, 4, 9]), (2, [8]), (1, [2, 3, 4, 29]), (0, [1, 2, 3, 4])], [(0, [3, 4, 9, 30, 31, 32])], [], [], [], [], [], [], [], [], []⟩
def f_field_Field_sums : Abs.Fn := ⟨4, [.t 8],
  (.seq (.reg [1, 2, 3, 4] f134r0) (.seq (.seq (.reg [2, 3, 4, 29] f134r1) (.ite (.t 29) (.seq (.reg [8] f134r2) .ret) .nop)) (.seq (.reg [2, 3, 4, 9] f134r3) (.seq (.seq (.reg [3, 4, 9, 30, 31, 32] f134r4) (.blk 0 (.loop [3, 4, 9, 30, 31, 32] false f_field_Field_sums_l11))) (.seq (.reg [8] f134r12) .ret)))))⟩
theorem e_field_Field_sums_l11 : type_of% f_field_Field_sums_l11.eq_1 := by_rfl f_field_Field_sums_l11.eq_1
theorem e_field_Field_sums : type_of% f_field_Field_sums.eq_1 := by_rfl f_field_Field_sums.eq_1
theorem ok_field_Field_sums : fnC Tryz.prog a_field_Field_sums Tryz.f134 = some f_field_Field_sums := by kernel_rfl

/-! 135 (fumarole/field.Range).ends -/
def f135r0 : List Abs.Op := [qx 1 0, qb 2 false]
def f135r1 : List Abs.Op := [qf 3 0 1, ql 4 1 3, qo 5 (.bin .leq (.c (.int .i64 (-10000000000))) (.t 4)), qm 6 5, qg 6 true (qf 7 0 1), qg 6 true (ql 8 1 7), qg 6 true (qf 9 1 1), qg 6 true (ql 10 1 9), qg 6 true (qk 11 .leq 8 10), qp 12 6 11, qm 13 12, qg 13 true (qf 14 1 1), qg 13 true (ql 15 1 14), qg 13 true (qn 16 .leq 15 10000000000), qp 17 13 16, qm 2 17]
def a_field_Range_ends : Ann := ⟨[(1, [2]), (0, [1])], [], [], [], [], [], [], [], [], [], []⟩
def f_field_Range_ends : Abs.Fn := ⟨1, [.t 2],
  (.seq (.reg [1] f135r0) (.seq (.reg [2] f135r1) .ret))⟩
theorem e_field_Range_ends : type_of% f_field_Range_ends.eq_1 := by_rfl f_field_Range_ends.eq_1
theorem ok_field_Range_ends : fnC Tryz.prog a_field_Range_ends Tryz.f135 = some f_field_Range_ends := by kernel_rfl

/-! 136 (fumarole/field.scale).of -/
def f136r0 : List Abs.Op := [qx 2 0, qx 3 1, qi 4 0]
def f136r1 : List Abs.Op := [qf 7 5 2, ql 8 1 7, qe 9 8, qi 10 0]
def f136r2 : List Abs.Op := [qk 11 .lss 10 9]
def f136r3 : List Abs.Op := [qm 12 10, qj 13 1 8 10, ql 14 1 13, qm 5 12, qm 6 14]
def f136r4 : List Abs.Op := [qM 15 4, qF 16 6 2, qL 17 1 16, qM 18 5, qJ 19 1 17 18, qL 20 1 19, qF 21 1 3, qL 22 1 21, qF 23 4 2, qL 24 1 23, qF 25 0 2, qA 26 4 25, qC 27 i_field_Field_blocks [26], qK 28 .mul 24 27, qM 29 6, qK 30 .add 28 29, qJ 31 1 22 30, qL 32 1 31, qK 33 .mul 20 32, qk 34 .add 15 33, qm 4 34]
def f136r5 : List Abs.Op := [qn 35 .add 10 1, qm 10 35]
def f_field_scale_of_l6 : Abs.Cmd :=
  (.seq (.reg [2, 3, 4, 8, 9, 10, 11] f136r2) (.seq (.ite (.t 11) .nop (.exit 0)) (.seq (.blk 1 (.seq (.reg [2, 3, 4, 5, 6, 8, 9, 10] f136r3) (.reg [2, 3, 4, 8, 9, 10] f136r4))) (.reg [2, 3, 4, 8, 9, 10] f136r5))))

def f136r7 : List Abs.Op := [qm 36 4, qm 4 36]
def a_field_scale_of : Ann := ⟨[(6, [4]), (5, [2, 3, 4, 8, 9, 10]), (4, [2, 3, 4, 8, 9, 10]), (3, [2, 3, 4, 5, 6, 8, 9, 10]), (2, [2, 3, 4, 8, 9, 10, 11]), (1, [2, 3, 4, 8, 9, 10]), (0, [2, 3, 4])], [(0, [2, 3, 4, 8, 9, 10])], [], [], [], [], [], [], [], [], []⟩
def f_field_scale_of : Abs.Fn := ⟨2, [.t 4],
  (.seq (.reg [2, 3, 4] f136r0) (.seq (.seq (.reg [2, 3, 4, 8, 9, 10] f136r1) (.blk 0 (.loop [2, 3, 4, 8, 9, 10] false f_field_scale_of_l6))) (.seq (.reg [4] f136r7) .ret)))⟩
theorem e_field_scale_of_l6 : type_of% f_field_scale_of_l6.eq_1 := by_rfl f_field_scale_of_l6.eq_1
theorem e_field_scale_of : type_of% f_field_scale_of.eq_1 := by_rfl f_field_scale_of.eq_1
theorem ok_field_scale_of : fnC Tryz.prog a_field_scale_of Tryz.f136 = some f_field_scale_of := by kernel_rfl

/-! 137 (fumarole/rock.Bed).valid -/
def f137r0 : List Abs.Op := [qx 1 0, qb 2 false]
def f137r1 : List Abs.Op := [qf 4 0 1, qa 5 4 4, qc 6 i_field_CheckField [5], qn 7 .neq 6 0, qm 8 7, qg 8 false (qf 9 0 1), qg 8 false (qf 10 3 9), qg 8 false (ql 11 1 10), qg 8 false (qn 12 .lss 11 4), qP 13 8 12, qm 14 13, qg 14 false (qf 15 4 1), qg 14 false (ql 16 1 15), qg 14 false (qc 17 i_steam_CheckTable [16]), qg 14 false (qn 18 .neq 17 0), qP 19 14 18, qm 20 19, qg 20 false (qf 21 5 1), qg 20 false (ql 22 1 21), qg 20 false (qo 23 (.call false (.c (.fn i_rock_within [] [])) [(.t 22), (.c (.int .i64 1)), (.c (.int .i64 100000))])), qg 20 false (qu 24 23), qP 25 20 24, qm 26 25, qg 26 false (qf 27 6 1), qg 26 false (ql 28 1 27), qg 26 false (qo 29 (.call false (.c (.fn i_rock_within [] [])) [(.t 28), (.c (.int .i64 0)), (.c (.int .i64 1000))])), qg 26 false (qu 30 29), qP 31 26 30, qm 32 31, qg 32 false (qf 33 7 1), qg 32 false (ql 34 1 33), qg 32 false (qo 35 (.call false (.c (.fn i_rock_within [] [])) [(.t 34), (.c (.int .i64 0)), (.c (.int .i64 3000))])), qg 32 false (qu 36 35), qP 37 32 36, qm 38 37, qg 38 false (qf 39 8 1), qg 38 false (ql 40 1 39), qg 38 false (qe 41 40), qg 38 false (qn 42 .gtr 41 8), qP 43 38 42]
def f137r2 : List Abs.Op := [qb 2 false]
def f137r3 : List Abs.Op := [qa 44 9 1, qc 45 i_rock_Bed_size [44], qo 46 (.mks 1 1 [(.bool false)] (.t 45) (.t 45)), qo 3 (.alc [] [.nils]), qt 1 3 46]
def f137r4 : List Abs.Op := [qf 47 8 1, ql 48 1 47, qo 49 (.mkf i_rock_Bed_valid_1 [] [(.t 3)]), qc 50 i_rock_all_rock_Bore [48, 49], qm 2 50]
def a_rock_Bed_valid : Ann := ⟨[(4, [2]), (3, [1, 3]), (2, [2]), (1, [1, 43]), (0, [1])], [], [], [3], [], [], [], [], [], [], []⟩
def f_rock_Bed_valid : Abs.Fn := ⟨1, [.t 2],
  (.seq (.reg [1] f137r0) (.seq (.seq (.reg [1, 43] f137r1) (.ite (.t 43) (.seq (.reg [2] f137r2) .ret) .nop)) (.seq (.reg [1, 3] f137r3) (.seq (.reg [2] f137r4) .ret))))⟩
theorem e_rock_Bed_valid : type_of% f_rock_Bed_valid.eq_1 := by_rfl f_rock_Bed_valid.eq_1
theorem ok_rock_Bed_valid : fnC Tryz.prog a_rock_Bed_valid Tryz.f137 = some f_rock_Bed_valid := by kernel_rfl

/-! 138 fumarole/rock.within -/
def f138r0 : List Abs.Op := [qb 6 false]
def f138r1 : List Abs.Op := [qm 7 1, qm 8 0, qk 9 .leq 7 8, qm 10 9, qg 10 true (qm 11 0), qg 10 true (qm 12 2), qg 10 true (qk 13 .leq 11 12), qp 14 10 13, qm 6 14]
def a_rock_within : Ann := ⟨[(1, [6]), (0, [0, 1, 2])], [], [], [], [], [], [], [], [], [], []⟩
def f_rock_within : Abs.Fn := ⟨3, [.t 6],
  (.seq (.reg [0, 1, 2] f138r0) (.seq (.reg [6] f138r1) .ret))⟩
theorem e_rock_within : type_of% f_rock_within.eq_1 := by_rfl f_rock_within.eq_1
theorem ok_rock_within : fnC Tryz.prog a_rock_within Tryz.f138 = some f_rock_within := by kernel_rfl

/-! 139 fumarole/field.CheckModels -/
def f139r0 : List Abs.Op := [qx 2 0, qx 3 1, qi 4 0]
def f139r1 : List Abs.Op := [qa 5 4 2, qo 6 (.mkf i_field_Field_shape [(.t 5)] []), qo 7 (.mkf i_field_CheckModels_1 [] [(.t 2), (.t 3)]), qo 8 (.bsi 2 1 [.nilf, .nilf] [(0, 1, (.t 6)), (1, 1, (.t 7))]), qc 9 i_field_first [8], qm 4 9]
def a_field_CheckModels : Ann := ⟨[(1, [4]), (0, [2, 3])], [], [], [], [], [], [], [], [], [], []⟩
def f_field_CheckModels : Abs.Fn := ⟨2, [.t 4],
  (.seq (.reg [2, 3] f139r0) (.seq (.reg [4] f139r1) .ret))⟩
theorem e_field_CheckModels : type_of% f_field_CheckModels.eq_1 := by_rfl f_field_CheckModels.eq_1
theorem ok_field_CheckModels : fnC Tryz.prog a_field_CheckModels Tryz.f139 = some f_field_CheckModels := by kernel_rfl

/-! 140 fumarole/rock.all[fumarole/field.Model] -/
def f140r0 : List Abs.Op := [qx 3 1, qb 4 false]
def f140r1 : List Abs.Op := [qm 5 0, qo 6 (.mkf i_rock_all_field_Model_1 [] [(.t 3)]), qc 7 i_slices_ContainsFunc_field_Model [5, 6], qu 8 7, qm 4 8]
def a_rock_all_field_Model : Ann := ⟨[(1, [4]), (0, [0, 3])], [], [], [], [], [], [], [], [], [], []⟩
def f_rock_all_field_Model : Abs.Fn := ⟨2, [.t 4],
  (.seq (.reg [0, 3] f140r0) (.seq (.reg [4] f140r1) .ret))⟩
theorem e_rock_all_field_Model : type_of% f_rock_all_field_Model.eq_1 := by_rfl f_rock_all_field_Model.eq_1
theorem ok_rock_all_field_Model : fnC Tryz.prog a_rock_all_field_Model Tryz.f140 = some f_rock_all_field_Model := by kernel_rfl

/-! 141 fumarole/rock.ready$1 -/
def f141r0 : List Abs.Op := [qx 2 0, qb 3 false]
def f141r1 : List Abs.Op := [qa 4 9 1, qa 5 2 2, qo 6 (.bld [(.int .i64 0), (.int .i64 0), (.int .i64 0), (.int .i64 0), .nils, (.int .i64 0), (.int .i64 0), (.int .i64 0), .nils, (.str []), .nils] [(0, 9, (.t 4)), (9, 2, (.t 5))]), qc 7 i_rock_bedded_fits [6], qm 3 7]
def a_rock_ready_1 : Ann := ⟨[(1, [3]), (0, [1, 2])], [], [], [], [], [], [], [], [], [], []⟩
def f_rock_ready_1 : Abs.Fn := ⟨2, [.t 3],
  (.seq (.reg [1, 2] f141r0) (.seq (.reg [3] f141r1) .ret))⟩
theorem e_rock_ready_1 : type_of% f_rock_ready_1.eq_1 := by_rfl f_rock_ready_1.eq_1
theorem ok_rock_ready_1 : fnC Tryz.prog a_rock_ready_1 Tryz.f141 = some f_rock_ready_1 := by kernel_rfl

/-! 142 (fumarole/rock.bedded).fits -/
def f142r0 : List Abs.Op := [qx 1 0, qb 2 false]
def f142r1 : List Abs.Op := [qf 5 0 1, qf 6 0 5, qa 7 4 6, qf 8 9 1, qa 9 2 8, qo 10 (.bsi 1 2 [(.str []), .nils] [(0, 2, (.t 9))]), qc 11 i_field_CheckModels [7, 10], qn 12 .neq 11 0]
def f142r2 : List Abs.Op := [qb 2 false]
def f142r3 : List Abs.Op := [qo 13 (.bld [(.int .i64 0), (.int .i64 0)] [(0, 1, (.c (.int .i64 1000))), (1, 1, (.c (.int .i64 100000)))]), qo 14 (.bld [(.int .i64 0), (.int .i64 0)] [(0, 1, (.c (.int .i64 0))), (1, 1, (.c (.int .i64 1000)))]), qo 15 (.bld [(.int .i64 0), (.int .i64 0)] [(0, 1, (.c (.int .i64 0))), (1, 1, (.c (.int .i64 3000)))]), qo 16 (.bld [(.int .i64 0), (.int .i64 0)] [(0, 1, (.c (.int .i64 0))), (1, 1, (.c (.int .i64 1000)))]), qo 17 (.bld [(.int .i64 0), (.int .i64 0), (.int .i64 0), (.int .i64 0), (.int .i64 0), (.int .i64 0), (.int .i64 0), (.int .i64 0)] [(0, 2, (.t 13)), (2, 2, (.t 14)), (4, 2, (.t 15)), (6, 2, (.t 16))]), qi 18 0]
def f142r4 : List Abs.Op := [qn 19 .lss 18 4]
def f142r5 : List Abs.Op := [qm 20 18, qo 21 (.idxV true 4 2 (.t 17) (.t 18)), qo 4 (.alc [] [(.int .i64 0), (.int .i64 0)]), qm 3 20, qt 2 4 21]
def f142r6 : List Abs.Op := [qa 22 11 1, qm 23 3, qc 24 i_rock_bedded_kind [22, 23], qo 25 (.mkf i_rock_bedded_fits_1 [] [(.t 4)]), qc 26 i_rock_all_int [24, 25], qu 27 26]
def f142r7 : List Abs.Op := [qb 2 false]
def f142r8 : List Abs.Op := [qn 28 .add 18 1, qm 18 28]
def f_rock_bedded_fits_l9 : Abs.Cmd :=
  (.seq (.reg [1, 17, 18, 19] f142r4) (.seq (.ite (.t 19) .nop (.exit 0)) (.seq (.blk 1 (.seq (.reg [1, 3, 4, 17, 18] f142r5) (.seq (.reg [1, 17, 18, 27] f142r6) (.ite (.t 27) (.seq (.reg [2] f142r7) .ret) .nop)))) (.reg [1, 17, 18] f142r8))))

def f142r10 : List Abs.Op := [qb 2 true]
def a_rock_bedded_fits : Ann := ⟨[(9, [2]), (8, [1, 17, 18]), (7, [2]), (6, [1, 17, 18, 27]), (5, [1, 3, 4, 17, 18]), (4, [1, 17, 18, 19]), (3, [1, 17, 18]), (2, [2]), (1, [1, 12]), (0, [1])], [(0, [1, 17, 18])], [0], [4], [], [], [], [], [], [], []⟩
def f_rock_bedded_fits : Abs.Fn := ⟨1, [.t 2],
  (.seq (.reg [1] f142r0) (.seq (.seq (.reg [1, 12] f142r1) (.ite (.t 12) (.seq (.reg [2] f142r2) .ret) .nop)) (.seq (.seq (.reg [1, 17, 18] f142r3) (.blk 0 (.loop [1, 17, 18] true f_rock_bedded_fits_l9))) (.seq (.reg [2] f142r10) .ret))))⟩
theorem e_rock_bedded_fits_l9 : type_of% f_rock_bedded_fits_l9.eq_1 := by_rfl f_rock_bedded_fits_l9.eq_1
theorem e_rock_bedded_fits : type_of% f_rock_bedded_fits.eq_1 := by_rfl f_rock_bedded_fits.eq_1
theorem ok_rock_bedded_fits : fnC Tryz.prog a_rock_bedded_fits Tryz.f142 = some f_rock_bedded_fits := by kernel_rfl

/-! 143 (fumarole/rock.Bed).size -/
def f143r0 : List Abs.Op := [qx 1 0, qi 2 0]
def f143r1 : List Abs.Op := [qf 3 0 1, qf 4 0 3, ql 5 1 4, qf 6 0 1, qf 7 1 6, ql 8 1 7, qk 9 .mul 5 8, qf 10 0 1, qf 11 2 10, ql 12 1 11, qk 13 .mul 9 12, qm 2 13]
def a_rock_Bed_size : Ann := ⟨[(1, [2]), (0, [1])], [], [], [], [], [], [], [], [], [], []⟩
def f_rock_Bed_size : Abs.Fn := ⟨1, [.t 2],
  (.seq (.reg [1] f143r0) (.seq (.reg [2] f143r1) .ret))⟩
theorem e_rock_Bed_size : type_of% f_rock_Bed_size.eq_1 := by_rfl f_rock_Bed_size.eq_1
theorem ok_rock_Bed_size : fnC Tryz.prog a_rock_Bed_size Tryz.f143 = some f_rock_Bed_size := by kernel_rfl

/-! 144 (fumarole/rock.bedded).pressure -/
def f144r0 : List Abs.Op := [qx 3 0, qi 6 0]
def f144r1 : List Abs.Op := [qA 10 11 3, qM 11 2, qC 12 i_rock_bedded_weight [10, 11], qF 13 0 3, qF 14 5 13, qL 15 1 14, qM 16 1, qM 17 2, qJ 18 3 16 17, qF 19 0 18, qL 20 1 19, qA 21 11 3, qM 22 2, qC 23 i_rock_bedded_hold [21, 22], qK 24 .sub 20 23, qK 25 .mul 15 24, qA 26 11 3, qM 27 2, qC 28 i_rock_bedded_hold [26, 27], qc 29 i_rock_down [25, 28], qk 30 .add 12 29, qo 31 (.mx (.c (.int .i64 0)) (.t 30)), qm 7 31]
def f144r2 : List Abs.Op := [qf 32 0 3, qf 33 4 32, ql 34 1 33, qe 35 34, qi 36 0]
def f144r3 : List Abs.Op := [qk 37 .lss 36 35]
def f144r4 : List Abs.Op := [qj 38 5 34 36, qa 39 5 38, qo 9 (.alcv [] [(.int .i64 0), (.int .i64 0), (.int .i64 0), (.int .i64 0), (.int .i64 0)]), qs 9 5 9 39]
def f144r5 : List Abs.Op := [qF 40 2 9, qV 41 9 1 40, qM 42 1, qM 43 2, qJ 44 3 42 43, qF 45 0 44, qL 46 1 45, qK 47 .mul 41 46, qM 48 1, qM 49 2, qJ 50 3 48 49, qF 51 1 50, qL 52 1 51, qk 53 .leq 47 52]
def f144r6 : List Abs.Op := [qm 54 7, qf 55 1 9, qv 56 9 1 55, qo 57 (.mx (.t 54) (.t 56)), qm 7 57]
def f144r7 : List Abs.Op := [qn 58 .add 36 1, qm 36 58]
def f_rock_bedded_pressure_l8 : Abs.Cmd :=
  (.seq (.reg [1, 2, 7, 34, 35, 36, 37] f144r3) (.seq (.ite (.t 37) .nop (.exit 0)) (.seq (.blk 1 (.seq (.reg [1, 2, 7, 9, 34, 35, 36] f144r4) (.seq (.reg [1, 2, 7, 9, 34, 35, 36, 53] f144r5) (.ite (.t 53) (.reg [1, 2, 7, 34, 35, 36] f144r6) .nop)))) (.reg [1, 2, 7, 34, 35, 36] f144r7))))

def f144r9 : List Abs.Op := [qm 59 7, qm 6 59]
def a_rock_bedded_pressure : Ann := ⟨[(8, [6]), (7, [1, 2, 7, 34, 35, 36]), (6, [1, 2, 7, 34, 35, 36]), (5, [1, 2, 7, 9, 34, 35, 36, 53]), (4, [1, 2, 7, 9, 34, 35, 36]), (3, [1, 2, 7, 34, 35, 36, 37]), (2, [1, 2, 7, 34, 35, 36]), (1, [1, 2, 3, 7]), (0, [1, 2, 3])], [(0, [1, 2, 7, 34, 35, 36])], [], [9], [9], [], [], [], [], [], []⟩
def f_rock_bedded_pressure : Abs.Fn := ⟨3, [.t 6],
  (.seq (.reg [1, 2, 3] f144r0) (.seq (.reg [1, 2, 3, 7] f144r1) (.seq (.seq (.reg [1, 2, 7, 34, 35, 36] f144r2) (.blk 0 (.loop [1, 2, 7, 34, 35, 36] false f_rock_bedded_pressure_l8))) (.seq (.reg [6] f144r9) .ret))))⟩
theorem e_rock_bedded_pressure_l8 : type_of% f_rock_bedded_pressure_l8.eq_1 := by_rfl f_rock_bedded_pressure_l8.eq_1
theorem e_rock_bedded_pressure : type_of% f_rock_bedded_pressure.eq_1 := by_rfl f_rock_bedded_pressure.eq_1
theorem ok_rock_bedded_pressure : fnC Tryz.prog a_rock_bedded_pressure Tryz.f144 = some f_rock_bedded_pressure := by kernel_rfl

/-! 145 fumarole/rock.tells -/
def f145r0 : List Abs.Op := [qo 0 (.alcv [] [.nilf, .nilf, .nilf, .nilf, .nilf])]
def f145r1 : List Abs.Op := [qo 1 (.bld [.nilf, .nilf, .nilf, .nilf, .nilf] [(2, 1, (.c (.fn i_rock_Yield_mass [] []))), (3, 1, (.c (.fn i_rock_Yield_warmth [] []))), (4, 1, (.c (.fn i_rock_Yield_stain [] [])))]), qs 0 5 0 1]
def a_rock_tells : Ann := ⟨[(1, [0]), (0, [0])], [], [], [0], [0], [], [], [], [], [], []⟩
def f_rock_tells : Abs.Fn := ⟨0, [.v 0 true 5],
  (.seq (.reg [0] f145r0) (.seq (.reg [0] f145r1) .ret))⟩
theorem e_rock_tells : type_of% f_rock_tells.eq_1 := by_rfl f_rock_tells.eq_1
theorem ok_rock_tells : fnC Tryz.prog a_rock_tells Tryz.f145 = some f_rock_tells := by kernel_rfl

/-! 146 slices.ContainsFunc[[]fumarole/tremor.Rule,fumarole/tremor.Rule] -/
def f146r0 : List Abs.Op := [qb 4 false]
def f146r1 : List Abs.Op := [qm 5 0, qm 6 1, qc 7 i_slices_IndexFunc_tremor_Rule [5, 6], qn 8 .geq 7 0, qm 4 8]
def a_slices_ContainsFunc_tremor_Rule : Ann := ⟨[(1, [4]), (0, [0, 1])], [], [], [], [], [], [], [], [], [], []⟩
def f_slices_ContainsFunc_tremor_Rule : Abs.Fn := ⟨2, [.t 4],
  (.seq (.reg [0, 1] f146r0) (.seq (.reg [4] f146r1) .ret))⟩
theorem e_slices_ContainsFunc_tremor_Rule : type_of% f_slices_ContainsFunc_tremor_Rule.eq_1 := by_rfl f_slices_ContainsFunc_tremor_Rule.eq_1
theorem ok_slices_ContainsFunc_tremor_Rule : fnC Tryz.prog a_slices_ContainsFunc_tremor_Rule Tryz.f146 = some f_slices_ContainsFunc_tremor_Rule := by kernel_rfl

/-! 147 fumarole/tremor.all[fumarole/tremor.Rule]$1 -/
def f147r0 : List Abs.Op := [qx 2 0, qb 3 false]
def f147r1 : List Abs.Op := [ql 4 1 1, qa 5 10 2, qo 6 (.call false (.t 4) [(.t 5)]), qu 7 6, qm 3 7]
def a_tremor_all_tremor_Rule_1 : Ann := ⟨[(1, [3]), (0, [1, 2])], [], [], [], [], [], [], [], [], [], []⟩
def f_tremor_all_tremor_Rule_1 : Abs.Fn := ⟨2, [.t 3],
  (.seq (.reg [1, 2] f147r0) (.seq (.reg [3] f147r1) .ret))⟩
theorem e_tremor_all_tremor_Rule_1 : type_of% f_tremor_all_tremor_Rule_1.eq_1 := by_rfl f_tremor_all_tremor_Rule_1.eq_1
theorem ok_tremor_all_tremor_Rule_1 : fnC Tryz.prog a_tremor_all_tremor_Rule_1 Tryz.f147 = some f_tremor_all_tremor_Rule_1 := by kernel_rfl

/-! 148 fumarole/tremor.box -/
def f148r0 : List Abs.Op := [qx 2 0, qx 3 1, qb 4 false]
def f148r1 : List Abs.Op := [qa 5 3 2, qc 6 i_tremor_Point_valid [5], qm 7 6, qg 7 true (qa 8 3 3), qg 7 true (qc 9 i_tremor_Point_valid [8]), qp 10 7 9, qm 11 10, qg 11 true (qf 12 0 2), qg 11 true (ql 13 1 12), qg 11 true (qf 14 0 3), qg 11 true (ql 15 1 14), qg 11 true (qk 16 .leq 13 15), qp 17 11 16, qm 18 17, qg 18 true (qf 19 1 2), qg 18 true (ql 20 1 19), qg 18 true (qf 21 1 3), qg 18 true (ql 22 1 21), qg 18 true (qk 23 .leq 20 22), qp 24 18 23, qm 25 24, qg 25 true (qf 26 2 2), qg 25 true (ql 27 1 26), qg 25 true (qf 28 2 3), qg 25 true (ql 29 1 28), qg 25 true (qk 30 .leq 27 29), qp 31 25 30, qm 4 31]
def a_tremor_box : Ann := ⟨[(1, [4]), (0, [2, 3])], [], [], [], [], [], [], [], [], [], []⟩
def f_tremor_box : Abs.Fn := ⟨2, [.t 4],
  (.seq (.reg [2, 3] f148r0) (.seq (.reg [4] f148r1) .ret))⟩
theorem e_tremor_box : type_of% f_tremor_box.eq_1 := by_rfl f_tremor_box.eq_1
theorem ok_tremor_box : fnC Tryz.prog a_tremor_box Tryz.f148 = some f_tremor_box := by kernel_rfl

/-! 149 slices.ContainsFunc[[]fumarole/tremor.Event,fumarole/tremor.Event] -/
def f149r0 : List Abs.Op := [qb 4 false]
def f149r1 : List Abs.Op := [qm 5 0, qm 6 1, qc 7 i_slices_IndexFunc_tremor_Event [5, 6], qn 8 .geq 7 0, qm 4 8]
def a_slices_ContainsFunc_tremor_Event : Ann := ⟨[(1, [4]), (0, [0, 1])], [], [], [], [], [], [], [], [], [], []⟩
def f_slices_ContainsFunc_tremor_Event : Abs.Fn := ⟨2, [.t 4],
  (.seq (.reg [0, 1] f149r0) (.seq (.reg [4] f149r1) .ret))⟩
theorem e_slices_ContainsFunc_tremor_Event : type_of% f_slices_ContainsFunc_tremor_Event.eq_1 := by_rfl f_slices_ContainsFunc_tremor_Event.eq_1
theorem ok_slices_ContainsFunc_tremor_Event : fnC Tryz.prog a_slices_ContainsFunc_tremor_Event Tryz.f149 = some f_slices_ContainsFunc_tremor_Event := by kernel_rfl

/-! 150 fumarole/tremor.all[fumarole/tremor.Event]$1 -/
def f150r0 : List Abs.Op := [qx 2 0, qb 3 false]
def f150r1 : List Abs.Op := [ql 4 1 1, qa 5 2 2, qo 6 (.call false (.t 4) [(.t 5)]), qu 7 6, qm 3 7]
def a_tremor_all_tremor_Event_1 : Ann := ⟨[(1, [3]), (0, [1, 2])], [], [], [], [], [], [], [], [], [], []⟩
def f_tremor_all_tremor_Event_1 : Abs.Fn := ⟨2, [.t 3],
  (.seq (.reg [1, 2] f150r0) (.seq (.reg [3] f150r1) .ret))⟩
theorem e_tremor_all_tremor_Event_1 : type_of% f_tremor_all_tremor_Event_1.eq_1 := by_rfl f_tremor_all_tremor_Event_1.eq_1
theorem ok_tremor_all_tremor_Event_1 : fnC Tryz.prog a_tremor_all_tremor_Event_1 Tryz.f150 = some f_tremor_all_tremor_Event_1 := by kernel_rfl

/-! 151 (fumarole/tremor.Event).valid$1 -/
def f151r0 : List Abs.Op := [qx 1 0, qb 2 false]
def f151r1 : List Abs.Op := [qf 3 0 1, qa 4 3 3, qc 5 i_tremor_Point_valid [4], qm 6 5, qg 6 true (qf 7 3 1), qg 6 true (ql 8 1 7), qg 6 true (qo 9 (.call false (.c (.fn i_tremor_within [] [])) [(.t 8), (.c (.int .i64 0)), (.c (.int .i64 160))])), qp 10 6 9, qm 2 10]
def a_tremor_Event_valid_1 : Ann := ⟨[(1, [2]), (0, [1])], [], [], [], [], [], [], [], [], [], []⟩
def f_tremor_Event_valid_1 : Abs.Fn := ⟨1, [.t 2],
  (.seq (.reg [1] f151r0) (.seq (.reg [2] f151r1) .ret))⟩
theorem e_tremor_Event_valid_1 : type_of% f_tremor_Event_valid_1.eq_1 := by_rfl f_tremor_Event_valid_1.eq_1
theorem ok_tremor_Event_valid_1 : fnC Tryz.prog a_tremor_Event_valid_1 Tryz.f151 = some f_tremor_Event_valid_1 := by kernel_rfl

/-! 152 (fumarole/tremor.Point).valid -/
def f152r0 : List Abs.Op := [qx 1 0, qb 2 false]
def f152r1 : List Abs.Op := [qf 3 0 1, ql 4 1 3, qf 5 1 1, ql 6 1 5, qf 7 2 1, ql 8 1 7, qo 9 (.bsi 3 1 [(.int .i64 0), (.int .i64 0), (.int .i64 0)] [(0, 1, (.t 4)), (1, 1, (.t 6)), (2, 1, (.t 8))]), qo 10 (.call false (.c (.fn i_tremor_all_int [] [])) [(.t 9), (.c (.fn i_tremor_Point_valid_1 [] []))]), qm 2 10]
def a_tremor_Point_valid : Ann := ⟨[(1, [2]), (0, [1])], [], [], [], [], [], [], [], [], [], []⟩
def f_tremor_Point_valid : Abs.Fn := ⟨1, [.t 2],
  (.seq (.reg [1] f152r0) (.seq (.reg [2] f152r1) .ret))⟩
theorem e_tremor_Point_valid : type_of% f_tremor_Point_valid.eq_1 := by_rfl f_tremor_Point_valid.eq_1
theorem ok_tremor_Point_valid : fnC Tryz.prog a_tremor_Point_valid Tryz.f152 = some f_tremor_Point_valid := by kernel_rfl

/-! 153 slices.IndexFunc[[]fumarole/tremor.Spot,fumarole/tremor.Spot] -/
def f153r0 : List Abs.Op := [qi 4 0]
def f153r1 : List Abs.Op := [qm 6 0, qe 7 6, qi 8 0]
def f153r2 : List Abs.Op := [qk 9 .lss 8 7]
def f153r3 : List Abs.Op := [qm 10 8, qm 5 10]
def f153r4 : List Abs.Op := [qm 11 1, qm 12 0, qm 13 5, qj 14 4 12 13, qa 15 4 14, qo 16 (.call false (.t 11) [(.t 15)])]
def f153r5 : List Abs.Op := [qm 17 5, qm 4 17]
def f153r6 : List Abs.Op := [qn 18 .add 8 1, qm 8 18]
def f_slices_IndexFunc_tremor_Spot_l7 : Abs.Cmd :=
  (.seq (.reg [0, 1, 7, 8, 9] f153r2) (.seq (.ite (.t 9) .nop (.exit 0)) (.seq (.blk 1 (.seq (.reg [0, 1, 5, 7, 8] f153r3) (.seq (.reg [0, 1, 5, 7, 8, 16] f153r4) (.ite (.t 16) (.seq (.reg [4] f153r5) .ret) .nop)))) (.reg [0, 1, 7, 8] f153r6))))

def f153r8 : List Abs.Op := [qi 4 (-1)]
def a_slices_IndexFunc_tremor_Spot : Ann := ⟨[(7, [4]), (6, [0, 1, 7, 8]), (5, [4]), (4, [0, 1, 5, 7, 8, 16]), (3, [0, 1, 5, 7, 8]), (2, [0, 1, 7, 8, 9]), (1, [0, 1, 7, 8]), (0, [0, 1])], [(0, [0, 1, 7, 8])], [], [], [], [], [], [], [], [], []⟩
def f_slices_IndexFunc_tremor_Spot : Abs.Fn := ⟨2, [.t 4],
  (.seq (.reg [0, 1] f153r0) (.seq (.seq (.reg [0, 1, 7, 8] f153r1) (.blk 0 (.loop [0, 1, 7, 8] false f_slices_IndexFunc_tremor_Spot_l7))) (.seq (.reg [4] f153r8) .ret)))⟩
theorem e_slices_IndexFunc_tremor_Spot_l7 : type_of% f_slices_IndexFunc_tremor_Spot_l7.eq_1 := by_rfl f_slices_IndexFunc_tremor_Spot_l7.eq_1
theorem e_slices_IndexFunc_tremor_Spot : type_of% f_slices_IndexFunc_tremor_Spot.eq_1 := by_rfl f_slices_IndexFunc_tremor_Spot.eq_1
theorem ok_slices_IndexFunc_tremor_Spot : fnC Tryz.prog a_slices_IndexFunc_tremor_Spot Tryz.f153 = some f_slices_IndexFunc_tremor_Spot := by kernel_rfl

/-! 154 fumarole/tremor.all[fumarole/tremor.Spot]$1 -/
def f154r0 : List Abs.Op := [qx 2 0, qb 3 false]
def f154r1 : List Abs.Op := [ql 4 1 1, qa 5 4 2, qo 6 (.call false (.t 4) [(.t 5)]), qu 7 6, qm 3 7]
def a_tremor_all_tremor_Spot_1 : Ann := ⟨[(1, [3]), (0, [1, 2])], [], [], [], [], [], [], [], [], [], []⟩
def f_tremor_all_tremor_Spot_1 : Abs.Fn := ⟨2, [.t 3],
  (.seq (.reg [1, 2] f154r0) (.seq (.reg [3] f154r1) .ret))⟩
theorem e_tremor_all_tremor_Spot_1 : type_of% f_tremor_all_tremor_Spot_1.eq_1 := by_rfl f_tremor_all_tremor_Spot_1.eq_1
theorem ok_tremor_all_tremor_Spot_1 : fnC Tryz.prog a_tremor_all_tremor_Spot_1 Tryz.f154 = some f_tremor_all_tremor_Spot_1 := by kernel_rfl

/-! 155 (fumarole/rock.Bed).rates -/
def f155r0 : List Abs.Op := [qx 2 0, qi 4 0]
def f155r1 : List Abs.Op := [qm 6 1, qe 7 6, qf 8 8 2, ql 9 1 8, qe 10 9, qk 11 .neq 7 10, qm 5 11]
def f155r2 : List Abs.Op := [qi 4 1]
def f155r3 : List Abs.Op := [qm 13 1, qo 14 (.call false (.c (.fn i_rock_all_int [] [])) [(.t 13), (.c (.fn i_rock_Bed_rates_1 [] []))]), qu 15 14, qm 12 15]
def f155r4 : List Abs.Op := [qi 4 2]
def f155r5 : List Abs.Op := [qi 4 0]
def a_rock_Bed_rates : Ann := ⟨[(5, [4]), (2, [4]), (4, [4]), (3, [12]), (1, [1, 5]), (0, [1, 2])], [], [], [], [], [], [], [], [], [], []⟩
def f_rock_Bed_rates : Abs.Fn := ⟨2, [.t 4],
  (.seq (.reg [1, 2] f155r0) (.seq (.blk 0 (.seq (.reg [1, 5] f155r1) (.ite (.t 5) (.seq (.reg [4] f155r2) .ret) (.seq (.reg [12] f155r3) (.ite (.t 12) (.seq (.reg [4] f155r4) .ret) .nop))))) (.seq (.reg [4] f155r5) .ret)))⟩
theorem e_rock_Bed_rates : type_of% f_rock_Bed_rates.eq_1 := by_rfl f_rock_Bed_rates.eq_1
theorem ok_rock_Bed_rates : fnC Tryz.prog a_rock_Bed_rates Tryz.f155 = some f_rock_Bed_rates := by kernel_rfl

/-! 156 (fumarole/rock.bedded).first -/
def f156r0 : List Abs.Op := [qx 1 0, qo 2 (.nilb 3)]
def f156r1 : List Abs.Op := [qf 4 0 1, qa 5 9 4, qc 6 i_rock_Bed_size [5], qi 7 0]
def f156r2 : List Abs.Op := [qk 8 .lss 7 6]
def f156r3 : List Abs.Op := [qm 9 7, qm 3 9]
def f156r4 : List Abs.Op := [qM 10 2, qA 11 11 1, qM 12 3, qC 13 i_rock_bedded_hold [11, 12], qA 14 11 1, qM 15 3, qC 16 i_rock_bedded_hold [14, 15], qA 17 11 1, qM 18 3, qC 19 i_rock_bedded_warm [17, 18], qK 20 .mul 16 19, qO 21 (.bld [(.int .i64 0), (.int .i64 0), (.int .i64 0)] [(0, 1, (.t 13)), (1, 1, (.t 20))]), qO 22 (.bsi 1 3 [(.int .i64 0), (.int .i64 0), (.int .i64 0)] [(0, 3, (.t 21))]), qy 23 3 24 10 22, qm 2 23]
def f156r5 : List Abs.Op := [qn 24 .add 7 1, qm 7 24]
def f_rock_bedded_first_l6 : Abs.Cmd :=
  (.seq (.reg [1, 2, 6, 7, 8] f156r2) (.seq (.ite (.t 8) .nop (.exit 0)) (.seq (.blk 1 (.seq (.reg [1, 2, 3, 6, 7] f156r3) (.reg [1, 2, 6, 7] f156r4))) (.reg [1, 2, 6, 7] f156r5))))

def f156r7 : List Abs.Op := [qm 25 2, qm 2 25]
def a_rock_bedded_first : Ann := ⟨[(6, [2]), (5, [1, 2, 6, 7]), (4, [1, 2, 6, 7]), (3, [1, 2, 3, 6, 7]), (2, [1, 2, 6, 7, 8]), (1, [1, 2, 6, 7]), (0, [1, 2])], [(0, [1, 2, 6, 7])], [], [2], [], [], [], [], [], [], []⟩
def f_rock_bedded_first : Abs.Fn := ⟨1, [.t 2],
  (.seq (.reg [1, 2] f156r0) (.seq (.seq (.reg [1, 2, 6, 7] f156r1) (.blk 0 (.loop [1, 2, 6, 7] false f_rock_bedded_first_l6))) (.seq (.reg [2] f156r7) .ret)))⟩
theorem e_rock_bedded_first_l6 : type_of% f_rock_bedded_first_l6.eq_1 := by_rfl f_rock_bedded_first_l6.eq_1
theorem e_rock_bedded_first : type_of% f_rock_bedded_first.eq_1 := by_rfl f_rock_bedded_first.eq_1
theorem ok_rock_bedded_first : fnC Tryz.prog a_rock_bedded_first Tryz.f156 = some f_rock_bedded_first := by kernel_rfl

/-! 157 (fumarole/rock.bedded).tick -/
def f157r0 : List Abs.Op := [qx 3 0, qo 6 (.mv (.c .nils)), qo 7 (.mv (.c .nils)), qi 8 0]
def f157r1 : List Abs.Op := [qm 18 1, qo 19 (.call true (.c (.fn i_slices_Clone_rock_State_rock_Block [] [])) [(.t 18)]), qm 9 19]
def f157r2 : List Abs.Op := [qa 20 11 3, qm 21 1, qo 22 (.call true (.c (.fn i_rock_bedded_flows [] [])) [(.t 20), (.t 21)]), qo 23 (.mp (.rng) [(.t 22)])]
def f157r3 : List Abs.Op := [qo 26 (.mp (.ent) [(.t 23)]), qz 27 26 0, qz 28 26 1, qo 10 (.alcv [] [(.int .i64 0), (.int .i64 0)]), qo 11 (.alcv [] [(.int .i64 0), (.int .i64 0), (.int .i64 0)]), qs 10 2 10 27, qs 11 3 11 28]
def f157r4 : List Abs.Op := [qM 29 9, qF 30 0 10, qV 31 10 1 30, qJ 32 3 29 31, qW 33 11 3 11, qo 34 (.call false (.c (.fn i_rock_Block_move [] [])) [(.t 32), (.t 33), (.c (.int .i64 (-1)))])]
def f157r5 : List Abs.Op := [qM 35 9, qF 36 1 10, qV 37 10 1 36, qJ 38 3 35 37, qW 39 11 3 11, qo 40 (.call false (.c (.fn i_rock_Block_move [] [])) [(.t 38), (.t 39), (.c (.int .i64 1))])]
def f_rock_bedded_tick_l6 : Abs.Cmd :=
  (.seq (.ite (.t 25) .nop (.exit 0)) (.blk 1 (.seq (.reg [1, 2, 3, 9, 10, 11, 23] f157r3) (.seq (.reg [1, 2, 3, 9, 10, 11, 23] f157r4) (.reg [1, 2, 3, 9, 23] f157r5)))))

def f157r7 : List Abs.Op := [qo 12 (.nilb 3)]
def f157r8 : List Abs.Op := [qm 41 2, qe 42 41, qi 43 0]
def f157r9 : List Abs.Op := [qk 44 .lss 43 42]
def f157r10 : List Abs.Op := [qm 45 43, qj 46 1 41 43, ql 47 1 46, qm 13 45, qm 14 47]
def f157r11 : List Abs.Op := [qf 48 0 3, qf 49 8 48, ql 50 1 49, qm 51 13, qj 52 3 50 51, qf 53 0 52, ql 54 1 53, qm 15 54]
def f157r12 : List Abs.Op := [qo 16 (.alcv [] [(.int .i64 0), (.int .i64 0), (.int .i64 0)])]
def f157r13 : List Abs.Op := [qm 55 14, qn 56 .lss 55 0]
def f157r14 : List Abs.Op := [qM 57 9, qM 58 15, qJ 59 3 57 58, qF 60 0 3, qF 61 8 60, qL 62 1 61, qM 63 13, qJ 64 3 62 63, qA 65 3 64, qM 66 14, qC 67 i_rock_Bore_given [65, 66], qo 68 (.call false (.c (.fn i_rock_Block_move [] [])) [(.t 59), (.t 67), (.c (.int .i64 1))])]
def f157r15 : List Abs.Op := [qM 69 1, qM 70 15, qJ 71 3 69 70, qA 72 3 71, qM 73 14, qM 74 1, qM 75 15, qJ 76 3 74 75, qF 77 0 76, qL 78 1 77, qN 79 .quo 78 8, qO 80 (.mn (.t 73) (.t 79)), qc 81 i_rock_Block_out [72, 80], qs 16 3 16 81]
def f157r16 : List Abs.Op := [qM 82 9, qM 83 15, qJ 84 3 82 83, qW 85 16 3 16, qo 86 (.call false (.c (.fn i_rock_Block_move [] [])) [(.t 84), (.t 85), (.c (.int .i64 (-1)))])]
def f157r17 : List Abs.Op := [qm 87 12, qw 88 16 3 16, qo 89 (.bsi 1 3 [(.int .i64 0), (.int .i64 0), (.int .i64 0)] [(0, 3, (.t 88))]), qy 90 3 24 87 89, qm 12 90]
def f157r18 : List Abs.Op := [qn 91 .add 43 1, qm 43 91]
def f_rock_bedded_tick_l19 : Abs.Cmd :=
  (.seq (.reg [1, 3, 9, 12, 41, 42, 43, 44] f157r9) (.seq (.ite (.t 44) .nop (.exit 2)) (.seq (.blk 3 (.seq (.reg [1, 3, 9, 12, 13, 14, 41, 42, 43] f157r10) (.seq (.reg [1, 3, 9, 12, 13, 14, 15, 41, 42, 43] f157r11) (.seq (.reg [1, 3, 9, 12, 13, 14, 15, 16, 41, 42, 43] f157r12) (.seq (.seq (.reg [1, 3, 9, 12, 13, 14, 15, 16, 41, 42, 43, 56] f157r13) (.ite (.t 56) (.reg [1, 3, 9, 12, 16, 41, 42, 43] f157r14) (.seq (.reg [1, 3, 9, 12, 15, 16, 41, 42, 43] f157r15) (.reg [1, 3, 9, 12, 16, 41, 42, 43] f157r16)))) (.reg [1, 3, 9, 12, 41, 42, 43] f157r17)))))) (.reg [1, 3, 9, 12, 41, 42, 43] f157r18))))

def f157r20 : List Abs.Op := [qm 92 9, qe 93 92, qi 94 0]
def f157r21 : List Abs.Op := [qk 95 .lss 94 93]
def f157r22 : List Abs.Op := [qm 96 94, qm 17 96]
def f157r23 : List Abs.Op := [qM 97 9, qM 98 17, qJ 99 3 97 98, qA 100 11 3, qM 101 17, qC 102 i_rock_bedded_fed [100, 101], qo 103 (.call false (.c (.fn i_rock_Block_move [] [])) [(.t 99), (.t 102), (.c (.int .i64 1))])]
def f157r24 : List Abs.Op := [qn 104 .add 94 1, qm 94 104]
def f_rock_bedded_tick_l25 : Abs.Cmd :=
  (.seq (.reg [3, 9, 12, 93, 94, 95] f157r21) (.seq (.ite (.t 95) .nop (.exit 4)) (.seq (.blk 5 (.seq (.reg [3, 9, 12, 17, 93, 94] f157r22) (.reg [3, 9, 12, 93, 94] f157r23))) (.reg [3, 9, 12, 93, 94] f157r24))))

def f157r26 : List Abs.Op := [qa 105 11 3, qm 106 9, qc 107 i_rock_bedded_state [105, 106], qu 108 107]
def f157r27 : List Abs.Op := [qo 6 (.mv (.c .nils)), qo 7 (.mv (.c .nils)), qi 8 9]
def f157r28 : List Abs.Op := [qm 109 9, qm 110 12, qm 6 109, qm 7 110, qi 8 0]
def f_rock_bedded_tick_l29 : Abs.Cmd :=
  (.seq (.reg [1, 2, 3, 9, 12] f157r7) (.seq (.seq (.reg [1, 3, 9, 12, 41, 42, 43] f157r8) (.blk 2 (.loop [1, 3, 9, 12, 41, 42, 43] false f_rock_bedded_tick_l19))) (.seq (.seq (.reg [3, 9, 12, 93, 94] f157r20) (.blk 4 (.loop [3, 9, 12, 93, 94] false f_rock_bedded_tick_l25))) (.seq (.seq (.reg [9, 12, 108] f157r26) (.ite (.t 108) (.seq (.reg [6, 7, 8] f157r27) .ret) .nop)) (.seq (.reg [6, 7, 8] f157r28) .ret)))))

def a_rock_bedded_tick : Ann := ⟨[(26, [6, 7, 8]), (25, [6, 7, 8]), (24, [9, 12, 108]), (23, [3, 9, 12, 93, 94]), (22, [3, 9, 12, 93, 94]), (21, [3, 9, 12, 17, 93, 94]), (20, [3, 9, 12, 93, 94, 95]), (19, [3, 9, 12, 93, 94]), (18, [1, 3, 9, 12, 41, 42, 43]), (17, [1, 3, 9, 12, 41, 42, 43]), (14, [1, 3, 9, 12, 16, 41, 42, 43]), (16, [1, 3, 9, 12, 16, 41, 42, 43]), (15, [1, 3, 9, 12, 15, 16, 41, 42, 43]), (13, [1, 3, 9, 12, 13, 14, 15, 16, 41, 42, 43, 56]), (12, [1, 3, 9, 12, 13, 14, 15, 16, 41, 42, 43]), (11, [1, 3, 9, 12, 13, 14, 15, 41, 42, 43]), (10, [1, 3, 9, 12, 13, 14, 41, 42, 43]), (9, [1, 3, 9, 12, 41, 42, 43, 44]), (8, [1, 3, 9, 12, 41, 42, 43]), (7, [1, 2, 3, 9, 12]), (6, [1, 2, 3, 9, 23]), (5, [1, 2, 3, 9, 10, 11, 23]), (4, [1, 2, 3, 9, 10, 11, 23]), (3, [1, 2, 3, 9, 23, 25]), (2, [1, 2, 3, 9, 23]), (1, [1, 2, 3, 9]), (0, [1, 2, 3])], [(4, [3, 9, 12, 93, 94]), (2, [1, 3, 9, 12, 41, 42, 43]), (0, [1, 2, 3, 9, 23])], [], [10, 11, 12, 16], [10, 11, 16], [], [2002, 1001], [], [], [], []⟩
def f_rock_bedded_tick : Abs.Fn := ⟨3, [.t 6, .t 7, .t 8],
  (.seq (.reg [1, 2, 3] f157r0) (.seq (.reg [1, 2, 3, 9] f157r1) (.seq (.reg [1, 2, 3, 9, 23] f157r2) (.mloop [1, 2, 3, 9, 23] (.t 23) 24 25 0 f_rock_bedded_tick_l6 f_rock_bedded_tick_l29))))⟩
theorem e_rock_bedded_tick_l6 : type_of% f_rock_bedded_tick_l6.eq_1 := by_rfl f_rock_bedded_tick_l6.eq_1
theorem e_rock_bedded_tick_l19 : type_of% f_rock_bedded_tick_l19.eq_1 := by_rfl f_rock_bedded_tick_l19.eq_1
theorem e_rock_bedded_tick_l25 : type_of% f_rock_bedded_tick_l25.eq_1 := by_rfl f_rock_bedded_tick_l25.eq_1
theorem e_rock_bedded_tick_l29 : type_of% f_rock_bedded_tick_l29.eq_1 := by_rfl f_rock_bedded_tick_l29.eq_1
theorem e_rock_bedded_tick : type_of% f_rock_bedded_tick.eq_1 := by_rfl f_rock_bedded_tick.eq_1
theorem ok_rock_bedded_tick : fnC Tryz.prog a_rock_bedded_tick Tryz.f157 = some f_rock_bedded_tick := by kernel_rfl

/-! 158 fumarole/steam.within -/
def f158r0 : List Abs.Op := [qb 6 false]
def f158r1 : List Abs.Op := [qm 7 1, qm 8 0, qk 9 .leq 7 8, qm 10 9, qg 10 true (qm 11 0), qg 10 true (qm 12 2), qg 10 true (qk 13 .leq 11 12), qp 14 10 13, qm 6 14]
def a_steam_within : Ann := ⟨[(1, [6]), (0, [0, 1, 2])], [], [], [], [], [], [], [], [], [], []⟩
def f_steam_within : Abs.Fn := ⟨3, [.t 6],
  (.seq (.reg [0, 1, 2] f158r0) (.seq (.reg [6] f158r1) .ret))⟩
theorem e_steam_within : type_of% f_steam_within.eq_1 := by_rfl f_steam_within.eq_1
theorem ok_steam_within : fnC Tryz.prog a_steam_within Tryz.f158 = some f_steam_within := by kernel_rfl

/-! 159 fumarole/steam.all[fumarole/steam.Row] -/
def f159r0 : List Abs.Op := [qx 3 1, qb 4 false]
def f159r1 : List Abs.Op := [qm 5 0, qo 6 (.mkf i_steam_all_steam_Row_1 [] [(.t 3)]), qc 7 i_slices_ContainsFunc_steam_Row [5, 6], qu 8 7, qm 4 8]
def a_steam_all_steam_Row : Ann := ⟨[(1, [4]), (0, [0, 3])], [], [], [], [], [], [], [], [], [], []⟩
def f_steam_all_steam_Row : Abs.Fn := ⟨2, [.t 4],
  (.seq (.reg [0, 3] f159r0) (.seq (.reg [4] f159r1) .ret))⟩
theorem e_steam_all_steam_Row : type_of% f_steam_all_steam_Row.eq_1 := by_rfl f_steam_all_steam_Row.eq_1
theorem ok_steam_all_steam_Row : fnC Tryz.prog a_steam_all_steam_Row Tryz.f159 = some f_steam_all_steam_Row := by kernel_rfl

/-! 160 (fumarole/steam.Row).alone -/
def f160r0 : List Abs.Op := [qx 1 0, qb 2 false]
def f160r1 : List Abs.Op := [qf 3 0 1, ql 4 1 3, qo 5 (.call false (.c (.fn i_steam_within [] [])) [(.t 4), (.c (.int .i64 0)), (.c (.int .i64 400))]), qm 6 5, qg 6 true (qf 7 1 1), qg 6 true (ql 8 1 7), qg 6 true (qo 9 (.call false (.c (.fn i_steam_within [] [])) [(.t 8), (.c (.int .i64 1)), (.c (.int .i64 10000))])), qp 10 6 9, qm 11 10, qg 11 true (qf 12 2 1), qg 11 true (ql 13 1 12), qg 11 true (qo 14 (.call false (.c (.fn i_steam_within [] [])) [(.t 13), (.c (.int .i64 0)), (.c (.int .i64 4000))])), qp 15 11 14, qm 16 15, qg 16 true (qf 17 4 1), qg 16 true (ql 18 1 17), qg 16 true (qo 19 (.call false (.c (.fn i_steam_within [] [])) [(.t 18), (.c (.int .i64 0)), (.c (.int .i64 2000))])), qp 20 16 19, qm 21 20, qg 21 true (qf 22 2 1), qg 21 true (ql 23 1 22), qg 21 true (qf 24 3 1), qg 21 true (ql 25 1 24), qg 21 true (qk 26 .lss 23 25), qp 27 21 26, qm 28 27, qg 28 true (qf 29 3 1), qg 28 true (ql 30 1 29), qg 28 true (qn 31 .leq 30 4000), qp 32 28 31, qm 2 32]
def a_steam_Row_alone : Ann := ⟨[(1, [2]), (0, [1])], [], [], [], [], [], [], [], [], [], []⟩
def f_steam_Row_alone : Abs.Fn := ⟨1, [.t 2],
  (.seq (.reg [1] f160r0) (.seq (.reg [2] f160r1) .ret))⟩
theorem e_steam_Row_alone : type_of% f_steam_Row_alone.eq_1 := by_rfl f_steam_Row_alone.eq_1
theorem ok_steam_Row_alone : fnC Tryz.prog a_steam_Row_alone Tryz.f160 = some f_steam_Row_alone := by kernel_rfl

/-! 161 (fumarole/steam.flash).steam -/
def f161r0 : List Abs.Op := [qx 2 0, qx 3 1, qi 4 0]
def f161r1 : List Abs.Op := [qf 6 1 3, ql 7 1 6, qf 8 0 3, ql 9 1 8, qf 10 0 2, qf 11 2 10, ql 12 1 11, qk 13 .mul 9 12, qk 14 .sub 7 13, qm 5 14]
def f161r2 : List Abs.Op := [qm 16 5, qn 17 .leq 16 0, qm 15 17]
def f161r3 : List Abs.Op := [qi 4 0]
def f161r4 : List Abs.Op := [qf 19 1 3, ql 20 1 19, qf 21 0 3, ql 22 1 21, qf 23 0 2, qf 24 3 23, ql 25 1 24, qk 26 .mul 22 25, qk 27 .geq 20 26, qm 18 27]
def f161r5 : List Abs.Op := [qf 28 0 3, ql 29 1 28, qm 4 29]
def f161r6 : List Abs.Op := [qm 30 5, qf 31 0 2, qf 32 3 31, ql 33 1 32, qf 34 0 2, qf 35 2 34, ql 36 1 35, qk 37 .sub 33 36, qk 38 .quo 30 37, qm 4 38]
def a_steam_flash_steam : Ann := ⟨[(6, [4]), (3, [4]), (5, [4]), (4, [2, 3, 5, 18]), (2, [2, 3, 5, 15]), (1, [2, 3, 5]), (0, [2, 3])], [], [], [], [], [], [], [], [], [], []⟩
def f_steam_flash_steam : Abs.Fn := ⟨2, [.t 4],
  (.seq (.reg [2, 3] f161r0) (.seq (.reg [2, 3, 5] f161r1) (.seq (.blk 0 (.seq (.reg [2, 3, 5, 15] f161r2) (.ite (.t 15) (.seq (.reg [4] f161r3) .ret) (.seq (.reg [2, 3, 5, 18] f161r4) (.ite (.t 18) (.seq (.reg [4] f161r5) .ret) .nop))))) (.seq (.reg [4] f161r6) .ret))))⟩
theorem e_steam_flash_steam : type_of% f_steam_flash_steam.eq_1 := by_rfl f_steam_flash_steam.eq_1
theorem ok_steam_flash_steam : fnC Tryz.prog a_steam_flash_steam Tryz.f161 = some f_steam_flash_steam := by kernel_rfl

/-! 162 fumarole/plant.within -/
def f162r0 : List Abs.Op := [qb 6 false]
def f162r1 : List Abs.Op := [qm 7 1, qm 8 0, qk 9 .leq 7 8, qm 10 9, qg 10 true (qm 11 0), qg 10 true (qm 12 2), qg 10 true (qk 13 .leq 11 12), qp 14 10 13, qm 6 14]
def a_plant_within : Ann := ⟨[(1, [6]), (0, [0, 1, 2])], [], [], [], [], [], [], [], [], [], []⟩
def f_plant_within : Abs.Fn := ⟨3, [.t 6],
  (.seq (.reg [0, 1, 2] f162r0) (.seq (.reg [6] f162r1) .ret))⟩
theorem e_plant_within : type_of% f_plant_within.eq_1 := by_rfl f_plant_within.eq_1
theorem ok_plant_within : fnC Tryz.prog a_plant_within Tryz.f162 = some f_plant_within := by kernel_rfl

/-! 163 fumarole/plant.all[fumarole/plant.Part] -/
def f163r0 : List Abs.Op := [qx 3 1, qb 4 false]
def f163r1 : List Abs.Op := [qm 5 0, qo 6 (.mkf i_plant_all_plant_Part_1 [] [(.t 3)]), qc 7 i_slices_ContainsFunc_plant_Part [5, 6], qu 8 7, qm 4 8]
def a_plant_all_plant_Part : Ann := ⟨[(1, [4]), (0, [0, 3])], [], [], [], [], [], [], [], [], [], []⟩
def f_plant_all_plant_Part : Abs.Fn := ⟨2, [.t 4],
  (.seq (.reg [0, 3] f163r0) (.seq (.reg [4] f163r1) .ret))⟩
theorem e_plant_all_plant_Part : type_of% f_plant_all_plant_Part.eq_1 := by_rfl f_plant_all_plant_Part.eq_1
theorem ok_plant_all_plant_Part : fnC Tryz.prog a_plant_all_plant_Part Tryz.f163 = some f_plant_all_plant_Part := by kernel_rfl

/-! 164 (fumarole/plant.Unit).valid$1 -/
def f164r0 : List Abs.Op := [qx 2 0, qb 3 false]
def f164r1 : List Abs.Op := [qf 5 1 2, ql 6 1 5, ql 7 1 1, qo 8 (.call false (.c (.fn i_plant_within [] [])) [(.t 6), (.c (.int .i64 0)), (.t 7)]), qm 4 8]
def f164r2 : List Abs.Op := [qf 9 1 2, ql 10 1 9, qt 1 1 10]
def f164r3 : List Abs.Op := [qm 11 4, qm 12 11, qg 12 true (qf 13 0 2), qg 12 true (ql 14 1 13), qg 12 true (qo 15 (.call false (.c (.fn i_plant_within [] [])) [(.t 14), (.c (.int .i64 1)), (.c (.int .i64 100000))])), qp 16 12 15, qm 3 16]
def a_plant_Unit_valid_1 : Ann := ⟨[(3, [3]), (2, [2, 4]), (1, [1, 2, 4]), (0, [1, 2])], [], [], [1], [], [], [], [], [], [], []⟩
def f_plant_Unit_valid_1 : Abs.Fn := ⟨2, [.t 3],
  (.seq (.reg [1, 2] f164r0) (.seq (.reg [1, 2, 4] f164r1) (.seq (.reg [2, 4] f164r2) (.seq (.reg [3] f164r3) .ret))))⟩
theorem e_plant_Unit_valid_1 : type_of% f_plant_Unit_valid_1.eq_1 := by_rfl f_plant_Unit_valid_1.eq_1
theorem ok_plant_Unit_valid_1 : fnC Tryz.prog a_plant_Unit_valid_1 Tryz.f164 = some f_plant_Unit_valid_1 := by kernel_rfl

/-! 165 fumarole/plant.all[fumarole/steam.Stream] -/
def f165r0 : List Abs.Op := [qx 3 1, qb 4 false]
def f165r1 : List Abs.Op := [qm 5 0, qo 6 (.mkf i_plant_all_steam_Stream_1 [] [(.t 3)]), qc 7 i_slices_ContainsFunc_steam_Stream [5, 6], qu 8 7, qm 4 8]
def a_plant_all_steam_Stream : Ann := ⟨[(1, [4]), (0, [0, 3])], [], [], [], [], [], [], [], [], [], []⟩
def f_plant_all_steam_Stream : Abs.Fn := ⟨2, [.t 4],
  (.seq (.reg [0, 3] f165r0) (.seq (.reg [4] f165r1) .ret))⟩
theorem e_plant_all_steam_Stream : type_of% f_plant_all_steam_Stream.eq_1 := by_rfl f_plant_all_steam_Stream.eq_1
theorem ok_plant_all_steam_Stream : fnC Tryz.prog a_plant_all_steam_Stream Tryz.f165 = some f_plant_all_steam_Stream := by kernel_rfl

/-! 166 fumarole/plant.right$1 -/
def f166r0 : List Abs.Op := [qx 1 0, qb 2 false]
def f166r1 : List Abs.Op := [qa 3 4 1, qc 4 i_steam_CheckStream [3], qn 5 .eql 4 0, qm 2 5]
def a_plant_right_1 : Ann := ⟨[(1, [2]), (0, [1])], [], [], [], [], [], [], [], [], [], []⟩
def f_plant_right_1 : Abs.Fn := ⟨1, [.t 2],
  (.seq (.reg [1] f166r0) (.seq (.reg [2] f166r1) .ret))⟩
theorem e_plant_right_1 : type_of% f_plant_right_1.eq_1 := by_rfl f_plant_right_1.eq_1
theorem ok_plant_right_1 : fnC Tryz.prog a_plant_right_1 Tryz.f166 = some f_plant_right_1 := by kernel_rfl

/-! 167 fumarole/steam.CheckStream -/
def f167r0 : List Abs.Op := [qx 1 0, qi 2 0]
def f167r1 : List Abs.Op := [qa 3 4 1, qc 4 i_steam_Stream_valid [3], qu 5 4]
def f167r2 : List Abs.Op := [qi 2 1]
def f167r3 : List Abs.Op := [qi 2 0]
def a_steam_CheckStream : Ann := ⟨[(3, [2]), (2, [2]), (1, [5]), (0, [1])], [], [], [], [], [], [], [], [], [], []⟩
def f_steam_CheckStream : Abs.Fn := ⟨1, [.t 2],
  (.seq (.reg [1] f167r0) (.seq (.seq (.reg [5] f167r1) (.ite (.t 5) (.seq (.reg [2] f167r2) .ret) .nop)) (.seq (.reg [2] f167r3) .ret)))⟩
theorem e_steam_CheckStream : type_of% f_steam_CheckStream.eq_1 := by_rfl f_steam_CheckStream.eq_1
theorem ok_steam_CheckStream : fnC Tryz.prog a_steam_CheckStream Tryz.f167 = some f_steam_CheckStream := by kernel_rfl

/-! 168 (fumarole/plant.Unit).used -/
def f168r0 : List Abs.Op := [qx 2 0, qo 3 (.boxm (.t 1)), qo 4 (.mv (.c .nilf))]
def f168r1 : List Abs.Op := [qo 5 (.mkf i_plant_Unit_used_1 [] [(.t 2), (.t 3)]), qm 4 5]
def a_plant_Unit_used : Ann := ⟨[(1, [4]), (0, [2, 3])], [], [], [3], [], [], [], [], [], [], []⟩
def f_plant_Unit_used : Abs.Fn := ⟨2, [.t 4],
  (.seq (.reg [2, 3] f168r0) (.seq (.reg [4] f168r1) .ret))⟩
theorem e_plant_Unit_used : type_of% f_plant_Unit_used.eq_1 := by_rfl f_plant_Unit_used.eq_1
theorem ok_plant_Unit_used : fnC Tryz.prog a_plant_Unit_used Tryz.f168 = some f_plant_Unit_used := by kernel_rfl

/-! 173 fumarole/logbook.record -/
def f173r0 : List Abs.Op := [qo 2 (.mv (.c .nils))]
def f173r1 : List Abs.Op := [qm 7 0, qo 8 (.pur (.slen) [(.t 7)]), qo 9 (.bin .shr (.t 8) (.c (.int .u64 8))), qo 10 (.cvt .u8 (.t 9)), qm 11 0, qo 12 (.pur (.slen) [(.t 11)]), qo 13 (.cvt .u8 (.t 12)), qm 14 0, qc 15 i_logbook_sum [14], qm 3 10, qm 4 13, qm 5 15]
def f173r2 : List Abs.Op := [qm 16 3, qm 17 4, qm 18 3, qo 19 (.un .xor (.t 18)), qm 20 4, qo 21 (.un .xor (.t 20)), qo 22 (.bsm 4 1 [(.int .u8 0), (.int .u8 0), (.int .u8 0), (.int .u8 0)] [(0, 1, (.t 16)), (1, 1, (.t 17)), (2, 1, (.t 19)), (3, 1, (.t 21))]), qm 23 0, qy 24 1 1 22 23, qm 6 24]
def f173r3 : List Abs.Op := [qm 25 6, qm 26 5, qo 27 (.bin .shr (.t 26) (.c (.int .u64 8))), qo 28 (.cvt .u8 (.t 27)), qm 29 5, qo 30 (.cvt .u8 (.t 29)), qo 31 (.bsi 2 1 [(.int .u8 0), (.int .u8 0)] [(0, 1, (.t 28)), (1, 1, (.t 30))]), qy 32 1 1 25 31, qm 2 32]
def a_logbook_record : Ann := ⟨[(3, [2]), (2, [5, 6]), (1, [0, 3, 4, 5]), (0, [0])], [], [], [22], [], [], [], [], [], [], []⟩
def f_logbook_record : Abs.Fn := ⟨1, [.t 2],
  (.seq (.reg [0] f173r0) (.seq (.reg [0, 3, 4, 5] f173r1) (.seq (.reg [5, 6] f173r2) (.seq (.reg [2] f173r3) .ret))))⟩
theorem e_logbook_record : type_of% f_logbook_record.eq_1 := by_rfl f_logbook_record.eq_1
theorem ok_logbook_record : fnC Tryz.prog a_logbook_record Tryz.f173 = some f_logbook_record := by kernel_rfl

/-! 174 fumarole/logbook.records$1 -/
def f174r0 : List Abs.Op := [qi 3 0]
def f174r1 : List Abs.Op := [ql 7 1 1, qe 8 7, qm 9 3, qk 10 .sub 8 9, qn 11 .geq 10 6]
def f174r2 : List Abs.Op := [qL 12 1 1, qM 13 3, qJ 14 1 12 13, qL 15 1 14, qO 16 (.cvt .i64 (.t 15)), qO 17 (.bin .shl (.t 16) (.c (.int .u64 8))), qL 18 1 1, qM 19 3, qN 20 .add 19 1, qJ 21 1 18 20, qL 22 1 21, qO 23 (.cvt .i64 (.t 22)), qk 24 .or 17 23, qm 4 24]
def f174r3 : List Abs.Op := [qm 25 3, qn 26 .add 25 4, qm 27 4, qk 28 .add 26 27, qn 29 .add 28 2, qm 5 29]
def f174r4 : List Abs.Op := [qm 30 4, qn 31 .gtr 30 4000, qm 32 31, qg 32 false (qm 33 5), qg 32 false (ql 34 1 1), qg 32 false (qe 35 34), qg 32 false (qk 36 .gtr 33 35), qP 37 32 36]
def f174r5 : List Abs.Op := [ql 38 1 1, qm 39 3, qn 40 .add 39 4, qm 41 5, qn 42 .sub 41 2, qo 43 (.slc 1 (.t 38) (some (.t 40)) (some (.t 42)) none), qo 44 (.me (.b2s) [(.t 43)]), qm 6 44]
def f174r6 : List Abs.Op := [qM 45 6, qC 46 i_logbook_record [45], qL 47 1 1, qM 48 3, qM 49 5, qO 50 (.slc 1 (.t 47) (some (.t 48)) (some (.t 49)) none), qC 51 i_slices_Equal_byte [46, 50], qO 52 (.un .not (.t 51)), qM 53 52, qg 53 false (qM 54 0), qg 53 false (qM 55 5), qg 53 false (qM 56 6), qg 53 false (qo 57 (.call false (.t 54) [(.t 55), (.t 56)])), qg 53 false (qu 58 57), qP 59 53 58]
def f174r7 : List Abs.Op := [qm 60 5, qm 3 60]
def f_logbook_records_1_l8 : Abs.Cmd :=
  (.seq (.seq (.reg [0, 1, 3, 11] f174r1) (.ite (.t 11) .nop (.exit 0))) (.blk 1 (.seq (.reg [0, 1, 3, 4] f174r2) (.seq (.reg [0, 1, 3, 4, 5] f174r3) (.seq (.seq (.reg [0, 1, 3, 5, 37] f174r4) (.ite (.t 37) .ret .nop)) (.seq (.reg [0, 1, 3, 5, 6] f174r5) (.seq (.seq (.reg [0, 1, 5, 59] f174r6) (.ite (.t 59) .ret .nop)) (.reg [0, 1, 3] f174r7))))))))

def a_logbook_records_1 : Ann := ⟨[(7, [0, 1, 3]), (6, [0, 1, 5, 59]), (5, [0, 1, 3, 5, 6]), (4, [0, 1, 3, 5, 37]), (3, [0, 1, 3, 4, 5]), (2, [0, 1, 3, 4]), (1, [0, 1, 3, 11]), (0, [0, 1, 3])], [(0, [0, 1, 3])], [], [], [], [], [], [], [], [], []⟩
def f_logbook_records_1 : Abs.Fn := ⟨2, [],
  (.seq (.reg [0, 1, 3] f174r0) (.blk 0 (.loop [0, 1, 3] false f_logbook_records_1_l8)))⟩
theorem e_logbook_records_1_l8 : type_of% f_logbook_records_1_l8.eq_1 := by_rfl f_logbook_records_1_l8.eq_1
theorem e_logbook_records_1 : type_of% f_logbook_records_1.eq_1 := by_rfl f_logbook_records_1.eq_1
theorem ok_logbook_records_1 : fnC Tryz.prog a_logbook_records_1 Tryz.f174 = some f_logbook_records_1 := by kernel_rfl

/-! 175 slices.Equal[[]byte,byte] -/
def f175r0 : List Abs.Op := [qb 4 false]
def f175r1 : List Abs.Op := [qm 6 0, qe 7 6, qm 8 1, qe 9 8, qk 10 .neq 7 9]
def f175r2 : List Abs.Op := [qb 4 false]
def f175r3 : List Abs.Op := [qm 11 0, qe 12 11, qi 13 0]
def f175r4 : List Abs.Op := [qk 14 .lss 13 12]
def f175r5 : List Abs.Op := [qm 15 13, qm 5 15]
def f175r6 : List Abs.Op := [qM 16 0, qM 17 5, qJ 18 1 16 17, qL 19 1 18, qM 20 1, qM 21 5, qJ 22 1 20 21, qL 23 1 22, qk 24 .neq 19 23]
def f175r7 : List Abs.Op := [qb 4 false]
def f175r8 : List Abs.Op := [qn 25 .add 13 1, qm 13 25]
def f_slices_Equal_byte_l9 : Abs.Cmd :=
  (.seq (.reg [0, 1, 12, 13, 14] f175r4) (.seq (.ite (.t 14) .nop (.exit 0)) (.seq (.blk 1 (.seq (.reg [0, 1, 5, 12, 13] f175r5) (.seq (.reg [0, 1, 12, 13, 24] f175r6) (.ite (.t 24) (.seq (.reg [4] f175r7) .ret) .nop)))) (.reg [0, 1, 12, 13] f175r8))))

def f175r10 : List Abs.Op := [qb 4 true]
def a_slices_Equal_byte : Ann := ⟨[(9, [4]), (8, [0, 1, 12, 13]), (7, [4]), (6, [0, 1, 12, 13, 24]), (5, [0, 1, 5, 12, 13]), (4, [0, 1, 12, 13, 14]), (3, [0, 1, 12, 13]), (2, [4]), (1, [0, 1, 10]), (0, [0, 1])], [(0, [0, 1, 12, 13])], [], [], [], [], [], [], [], [], []⟩
def f_slices_Equal_byte : Abs.Fn := ⟨2, [.t 4],
  (.seq (.reg [0, 1] f175r0) (.seq (.seq (.reg [0, 1, 10] f175r1) (.ite (.t 10) (.seq (.reg [4] f175r2) .ret) .nop)) (.seq (.seq (.reg [0, 1, 12, 13] f175r3) (.blk 0 (.loop [0, 1, 12, 13] false f_slices_Equal_byte_l9))) (.seq (.reg [4] f175r10) .ret))))⟩
theorem e_slices_Equal_byte_l9 : type_of% f_slices_Equal_byte_l9.eq_1 := by_rfl f_slices_Equal_byte_l9.eq_1
theorem e_slices_Equal_byte : type_of% f_slices_Equal_byte.eq_1 := by_rfl f_slices_Equal_byte.eq_1
theorem ok_slices_Equal_byte : fnC Tryz.prog a_slices_Equal_byte Tryz.f175 = some f_slices_Equal_byte := by kernel_rfl

/-! 177 (*fumarole/logbook.book).line$1 -/
def f177r0 : List Abs.Op := [qo 4 (.rcv)]
def f177r1 : List Abs.Op := [qo 6 (.isi false (.t 4))]
def f177r2 : List Abs.Op := [qm 1 4]
def f177r3 : List Abs.Op := [qo 7 (.tas 311 (some (.agg [(.int .i64 0)])) (.t 4)), qz 8 7 1, qz 9 7 0]
def f177r4 : List Abs.Op := [qo 2 (.alcv [] [(.int .i64 0)]), qs 2 1 2 9]
def f177r5 : List Abs.Op := [qf 10 0 2, qv 11 2 1 10, qt 1 0 11]
def f177r6 : List Abs.Op := [qm 3 4]
def f177r7 : List Abs.Op := [qm 5 3]
def f177r8 : List Abs.Op := []
def a_logbook_book_line_1 : Ann := ⟨[(4, []), (7, []), (6, [0, 2]), (2, []), (1, [3]), (5, [0, 4, 8, 9]), (3, [0, 4, 6]), (0, [0, 4])], [], [], [0, 2], [2], [], [], [], [], [], [(2, some 1)]⟩
def f_logbook_book_line_1 : Abs.Fn := ⟨1, [],
  (.seq (.reg [0, 4] f177r0) (.blk 0 (.seq (.reg [0, 4, 6] f177r1) (.ite (.t 6) (.reg [] f177r2) (.seq (.reg [0, 4, 8, 9] f177r3) (.ite (.t 8) (.seq (.reg [0, 2] f177r4) (.reg [] f177r5)) (.seq (.reg [3] f177r6) (.treg [] f177r7 ⟨none, none, false, .pan (.t 5)⟩ f177r8))))))))⟩
theorem e_logbook_book_line_1 : type_of% f_logbook_book_line_1.eq_1 := by_rfl f_logbook_book_line_1.eq_1
theorem ok_logbook_book_line_1 : fnC Tryz.prog a_logbook_book_line_1 Tryz.f177 = some f_logbook_book_line_1 := by kernel_rfl

/-! 178 fumarole/logbook.parsed -/
def f178r0 : List Abs.Op := [qo 2 (.alcv [] [(.bool false), (.int .i64 0), (.int .i64 0), .nilf]), qo 3 (.mv (.c (.str []))), qo 4 (.nilb 1)]
def f178r1 : List Abs.Op := [qm 10 0, qo 11 (.call false (.c (.fn i_strings_Split [] [])) [(.t 10), (.c (.str [32]))]), qm 5 11]
def f178r2 : List Abs.Op := [qo 13 (.call true (.c (.fn i_logbook_words [] [])) []), qM 14 5, qO 15 (.idxS 1 (.t 14) (.c (.int .i64 0))), qO 16 (.ldi false 1 (.t 15)), qO 17 (.mp (.get none (.agg [(.bool false), (.int .i64 0), (.int .i64 0), .nilf]) true) [(.t 13), (.t 16)]), qM 12 17, qZ 18 12 0, qZ 19 12 1, qS 2 4 2 18, qm 6 19]
def f178r3 : List Abs.Op := [qm 20 6]
def f178r4 : List Abs.Op := []
def f178r5 : List Abs.Op := [qm 22 5, qo 23 (.slc 1 (.t 22) (some (.c (.int .i64 1))) none none), qm 5 23]
def f178r6 : List Abs.Op := [qf 24 0 2, qv 25 2 1 24]
def f178r7 : List Abs.Op := [qm 26 5, qe 27 26, qn 28 .gtr 27 0]
def f178r8 : List Abs.Op := []
def f178r9 : List Abs.Op := [qM 30 5, qO 31 (.idxS 1 (.t 30) (.c (.int .i64 0))), qL 32 1 31, qM 33 5, qO 34 (.slc 1 (.t 33) (some (.c (.int .i64 1))) none none), qM 3 32, qm 5 34]
def f178r10 : List Abs.Op := [qm 35 5, qe 36 35, qi 37 0]
def f178r11 : List Abs.Op := [qk 38 .lss 37 36]
def f178r12 : List Abs.Op := [qj 39 1 35 37, ql 40 1 39, qm 8 40]
def f178r13 : List Abs.Op := [qm 41 4, qm 42 8]
def f178r14 : List Abs.Op := [qo 44 (.bsi 1 1 [(.int .i64 0)] [(0, 1, (.t 43))]), qy 45 1 8 41 44, qm 4 45]
def f178r15 : List Abs.Op := [qn 46 .add 37 1, qm 37 46]
def f_logbook_parsed_l16 : Abs.Cmd :=
  (.seq (.reg [2, 3, 4, 35, 36, 37, 38] f178r11) (.seq (.ite (.t 38) .nop (.exit 0)) (.seq (.blk 1 (.seq (.reg [2, 3, 4, 8, 35, 36, 37] f178r12) (.treg [2, 3, 4, 35, 36, 37] f178r13 ⟨some 43, none, false, .call false (.c (.fn i_logbook_number [] [])) [(.t 42)]⟩ f178r14))) (.reg [2, 3, 4, 35, 36, 37] f178r15))))

def f178r17 : List Abs.Op := [qm 47 4, qe 48 47, qf 49 1 2, qv 50 2 1 49, qk 51 .sub 48 50, qm 9 51]
def f178r18 : List Abs.Op := [qm 52 9, qn 53 .eql 52 0, qm 54 53, qg 54 false (qm 55 9), qg 54 false (qn 56 .gtr 55 0), qg 54 false (qm 57 56), qg 57 true (qf 58 2 2), qg 57 true (qv 59 2 1 58), qg 57 true (qn 60 .gtr 59 0), qg 54 false (qp 61 57 60), qg 54 false (qm 62 61), qg 62 true (qm 63 9), qg 62 true (qf 64 2 2), qg 62 true (qv 65 2 1 64), qg 62 true (qk 66 .rem 63 65), qg 62 true (qn 67 .eql 66 0), qg 54 false (qp 68 62 67), qP 69 54 68]
def f178r19 : List Abs.Op := []
def f178r20 : List Abs.Op := [qw 71 2 4 2, qm 72 3, qm 73 4, qs 2 4 2 71, qm 3 72, qm 4 73]
def a_logbook_parsed : Ann := ⟨[(15, [2, 3, 4]), (14, [2, 3, 4]), (13, [2, 3, 4, 9]), (12, [2, 3, 4, 35, 36, 37]), (11, [2, 3, 4, 35, 36, 37]), (10, [2, 3, 4, 8, 35, 36, 37]), (9, [2, 3, 4, 35, 36, 37, 38]), (8, [2, 3, 4, 35, 36, 37]), (7, [2, 3, 4, 5]), (6, [2, 4, 5]), (5, [2, 3, 4, 5, 25]), (4, [2, 3, 4, 5]), (3, [2, 3, 4, 5]), (2, [2, 3, 4, 5, 6]), (1, [2, 3, 4, 5]), (0, [0, 2, 3, 4])], [(0, [2, 3, 4, 35, 36, 37])], [], [2, 4], [2], [], [2000], [], [14], [], [(3, some 1), (6, some 3), (11, some 2), (14, some 18)]⟩
def f_logbook_parsed : Abs.Fn := ⟨1, [.v 2 true 4, .t 3, .t 4],
  (.seq (.reg [0, 2, 3, 4] f178r0) (.seq (.reg [2, 3, 4, 5] f178r1) (.seq (.reg [2, 3, 4, 5, 6] f178r2) (.seq (.treg [2, 3, 4, 5] f178r3 ⟨some 21, none, false, .call false (.c (.fn i_logbook_ask [] [])) [(.t 20), (.c (.int .i64 4))]⟩ f178r4) (.seq (.reg [2, 3, 4, 5] f178r5) (.seq (.seq (.reg [2, 3, 4, 5, 25] f178r6) (.ite (.t 25) (.seq (.treg [2, 4, 5] f178r7 ⟨some 29, none, false, .call false (.c (.fn i_logbook_ask [] [])) [(.t 28), (.c (.int .i64 4))]⟩ f178r8) (.reg [2, 3, 4, 5] f178r9)) .nop)) (.seq (.seq (.reg [2, 3, 4, 35, 36, 37] f178r10) (.blk 0 (.loop [2, 3, 4, 35, 36, 37] false f_logbook_parsed_l16))) (.seq (.reg [2, 3, 4, 9] f178r17) (.seq (.treg [2, 3, 4] f178r18 ⟨some 70, none, false, .call false (.c (.fn i_logbook_ask [] [])) [(.t 69), (.c (.int .i64 4))]⟩ f178r19) (.seq (.reg [2, 3, 4] f178r20) .ret))))))))))⟩
theorem e_logbook_parsed_l16 : type_of% f_logbook_parsed_l16.eq_1 := by_rfl f_logbook_parsed_l16.eq_1
theorem e_logbook_parsed : type_of% f_logbook_parsed.eq_1 := by_rfl f_logbook_parsed.eq_1
theorem ok_logbook_parsed : fnC Tryz.prog a_logbook_parsed Tryz.f178 = some f_logbook_parsed := by kernel_rfl

/-! 201 slices.IndexFunc[[]string,string] -/
def f201r0 : List Abs.Op := [qi 4 0]
def f201r1 : List Abs.Op := [qm 6 0, qe 7 6, qi 8 0]
def f201r2 : List Abs.Op := [qk 9 .lss 8 7]
def f201r3 : List Abs.Op := [qm 10 8, qm 5 10]
def f201r4 : List Abs.Op := [qm 11 1, qm 12 0, qm 13 5, qj 14 1 12 13, ql 15 1 14, qo 16 (.call false (.t 11) [(.t 15)])]
def f201r5 : List Abs.Op := [qm 17 5, qm 4 17]
def f201r6 : List Abs.Op := [qn 18 .add 8 1, qm 8 18]
def f_slices_IndexFunc_string_l7 : Abs.Cmd :=
  (.seq (.reg [0, 1, 7, 8, 9] f201r2) (.seq (.ite (.t 9) .nop (.exit 0)) (.seq (.blk 1 (.seq (.reg [0, 1, 5, 7, 8] f201r3) (.seq (.reg [0, 1, 5, 7, 8, 16] f201r4) (.ite (.t 16) (.seq (.reg [4] f201r5) .ret) .nop)))) (.reg [0, 1, 7, 8] f201r6))))

def f201r8 : List Abs.Op := [qi 4 (-1)]
def a_slices_IndexFunc_string : Ann := ⟨[(7, [4]), (6, [0, 1, 7, 8]), (5, [4]), (4, [0, 1, 5, 7, 8, 16]), (3, [0, 1, 5, 7, 8]), (2, [0, 1, 7, 8, 9]), (1, [0, 1, 7, 8]), (0, [0, 1])], [(0, [0, 1, 7, 8])], [], [], [], [], [], [], [], [], []⟩
def f_slices_IndexFunc_string : Abs.Fn := ⟨2, [.t 4],
  (.seq (.reg [0, 1] f201r0) (.seq (.seq (.reg [0, 1, 7, 8] f201r1) (.blk 0 (.loop [0, 1, 7, 8] false f_slices_IndexFunc_string_l7))) (.seq (.reg [4] f201r8) .ret)))⟩
theorem e_slices_IndexFunc_string_l7 : type_of% f_slices_IndexFunc_string_l7.eq_1 := by_rfl f_slices_IndexFunc_string_l7.eq_1
theorem e_slices_IndexFunc_string : type_of% f_slices_IndexFunc_string.eq_1 := by_rfl f_slices_IndexFunc_string.eq_1
theorem ok_slices_IndexFunc_string : fnC Tryz.prog a_slices_IndexFunc_string Tryz.f201 = some f_slices_IndexFunc_string := by kernel_rfl

/-! 206 slices.ContainsFunc[[]int,int] -/
def f206r0 : List Abs.Op := [qb 4 false]
def f206r1 : List Abs.Op := [qm 5 0, qm 6 1, qc 7 i_slices_IndexFunc_int [5, 6], qn 8 .geq 7 0, qm 4 8]
def a_slices_ContainsFunc_int : Ann := ⟨[(1, [4]), (0, [0, 1])], [], [], [], [], [], [], [], [], [], []⟩
def f_slices_ContainsFunc_int : Abs.Fn := ⟨2, [.t 4],
  (.seq (.reg [0, 1] f206r0) (.seq (.reg [4] f206r1) .ret))⟩
theorem e_slices_ContainsFunc_int : type_of% f_slices_ContainsFunc_int.eq_1 := by_rfl f_slices_ContainsFunc_int.eq_1
theorem ok_slices_ContainsFunc_int : fnC Tryz.prog a_slices_ContainsFunc_int Tryz.f206 = some f_slices_ContainsFunc_int := by kernel_rfl

/-! 207 fumarole/field.all[int]$1 -/
def f207r0 : List Abs.Op := [qb 3 false]
def f207r1 : List Abs.Op := [ql 4 1 1, qm 5 0, qo 6 (.call false (.t 4) [(.t 5)]), qu 7 6, qm 3 7]
def a_field_all_int_1 : Ann := ⟨[(1, [3]), (0, [0, 1])], [], [], [], [], [], [], [], [], [], []⟩
def f_field_all_int_1 : Abs.Fn := ⟨2, [.t 3],
  (.seq (.reg [0, 1] f207r0) (.seq (.reg [3] f207r1) .ret))⟩
theorem e_field_all_int_1 : type_of% f_field_all_int_1.eq_1 := by_rfl f_field_all_int_1.eq_1
theorem ok_field_all_int_1 : fnC Tryz.prog a_field_all_int_1 Tryz.f207 = some f_field_all_int_1 := by kernel_rfl

/-! 208 fumarole/field.CheckField -/
def f208r0 : List Abs.Op := [qx 1 0, qi 2 0]
def f208r1 : List Abs.Op := [qa 3 4 1, qc 4 i_field_Field_shape [3], qm 2 4]
def a_field_CheckField : Ann := ⟨[(1, [2]), (0, [1])], [], [], [], [], [], [], [], [], [], []⟩
def f_field_CheckField : Abs.Fn := ⟨1, [.t 2],
  (.seq (.reg [1] f208r0) (.seq (.reg [2] f208r1) .ret))⟩
theorem e_field_CheckField : type_of% f_field_CheckField.eq_1 := by_rfl f_field_CheckField.eq_1
theorem ok_field_CheckField : fnC Tryz.prog a_field_CheckField Tryz.f208 = some f_field_CheckField := by kernel_rfl

/-! 209 fumarole/steam.CheckTable -/
def f209r0 : List Abs.Op := [qi 2 0]
def f209r1 : List Abs.Op := [qm 3 0, qc 4 i_steam_Table_valid [3], qu 5 4]
def f209r2 : List Abs.Op := [qi 2 1]
def f209r3 : List Abs.Op := [qi 2 0]
def a_steam_CheckTable : Ann := ⟨[(3, [2]), (2, [2]), (1, [5]), (0, [0])], [], [], [], [], [], [], [], [], [], []⟩
def f_steam_CheckTable : Abs.Fn := ⟨1, [.t 2],
  (.seq (.reg [0] f209r0) (.seq (.seq (.reg [5] f209r1) (.ite (.t 5) (.seq (.reg [2] f209r2) .ret) .nop)) (.seq (.reg [2] f209r3) .ret)))⟩
theorem e_steam_CheckTable : type_of% f_steam_CheckTable.eq_1 := by_rfl f_steam_CheckTable.eq_1
theorem ok_steam_CheckTable : fnC Tryz.prog a_steam_CheckTable Tryz.f209 = some f_steam_CheckTable := by kernel_rfl

/-! 210 fumarole/rock.all[fumarole/rock.Bore] -/
def f210r0 : List Abs.Op := [qx 3 1, qb 4 false]
def f210r1 : List Abs.Op := [qm 5 0, qo 6 (.mkf i_rock_all_rock_Bore_1 [] [(.t 3)]), qc 7 i_slices_ContainsFunc_rock_Bore [5, 6], qu 8 7, qm 4 8]
def a_rock_all_rock_Bore : Ann := ⟨[(1, [4]), (0, [0, 3])], [], [], [], [], [], [], [], [], [], []⟩
def f_rock_all_rock_Bore : Abs.Fn := ⟨2, [.t 4],
  (.seq (.reg [0, 3] f210r0) (.seq (.reg [4] f210r1) .ret))⟩
theorem e_rock_all_rock_Bore : type_of% f_rock_all_rock_Bore.eq_1 := by_rfl f_rock_all_rock_Bore.eq_1
theorem ok_rock_all_rock_Bore : fnC Tryz.prog a_rock_all_rock_Bore Tryz.f210 = some f_rock_all_rock_Bore := by kernel_rfl

/-! 211 (fumarole/rock.Bed).valid$1 -/
def f211r0 : List Abs.Op := [qx 2 0, qb 3 false]
def f211r1 : List Abs.Op := [qf 4 0 2, ql 5 1 4, ql 6 1 1, qe 7 6, qn 8 .sub 7 1, qo 9 (.call false (.c (.fn i_rock_within [] [])) [(.t 5), (.c (.int .i64 0)), (.t 8)]), qu 10 9, qm 11 10, qg 11 false (ql 12 1 1), qg 11 false (qf 13 0 2), qg 11 false (ql 14 1 13), qg 11 false (qj 15 1 12 14), qg 11 false (ql 16 1 15), qP 17 11 16]
def f211r2 : List Abs.Op := [qb 3 false]
def f211r3 : List Abs.Op := [ql 18 1 1, qf 19 0 2, ql 20 1 19, qj 21 1 18 20, ⟨none, none, false, .st [] 1 (.t 21) (.c (.bool true))⟩]
def f211r4 : List Abs.Op := [qf 22 1 2, ql 23 1 22, qo 24 (.call false (.c (.fn i_rock_within [] [])) [(.t 23), (.c (.int .i64 0)), (.c (.int .i64 3000))]), qm 25 24, qg 25 true (qf 26 2 2), qg 25 true (ql 27 1 26), qg 25 true (qo 28 (.call false (.c (.fn i_rock_within [] [])) [(.t 27), (.c (.int .i64 0)), (.c (.int .i64 1000000))])), qp 29 25 28, qm 3 29]
def a_rock_Bed_valid_1 : Ann := ⟨[(4, [3]), (3, [2]), (2, [3]), (1, [1, 2, 17]), (0, [1, 2])], [], [], [], [], [], [], [], [], [], []⟩
def f_rock_Bed_valid_1 : Abs.Fn := ⟨2, [.t 3],
  (.seq (.reg [1, 2] f211r0) (.seq (.seq (.reg [1, 2, 17] f211r1) (.ite (.t 17) (.seq (.reg [3] f211r2) .ret) .nop)) (.seq (.reg [2] f211r3) (.seq (.reg [3] f211r4) .ret))))⟩
theorem e_rock_Bed_valid_1 : type_of% f_rock_Bed_valid_1.eq_1 := by_rfl f_rock_Bed_valid_1.eq_1
theorem ok_rock_Bed_valid_1 : fnC Tryz.prog a_rock_Bed_valid_1 Tryz.f211 = some f_rock_Bed_valid_1 := by kernel_rfl

end Go.Proofs.YtfgljaglidhjiaaGreatDoor
