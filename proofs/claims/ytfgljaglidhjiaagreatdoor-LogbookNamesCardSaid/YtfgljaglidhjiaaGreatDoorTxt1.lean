/- What functions of the program answer, and what follows; part 1. -/
import Derived.Test.YtfgljaglidhjiaaGreatDoorTxt0
import Derived.ProofKit
/-
  Lines, part 1.
-/
set_option linter.unusedVariables false
set_option maxRecDepth 1000000
namespace Go.Proofs.YtfgljaglidhjiaaGreatDoor
open Go Go.Abs
theorem wk0 : wm0.Ok T := lim_iff.2 ⟨300, by kernel_rfl⟩
theorem wk8 : wm8.Ok T := lim_iff.2 ⟨300, by kernel_rfl⟩
theorem wk16 : wm16.Ok T := lim_iff.2 ⟨300, by kernel_rfl⟩
theorem wk24 : wm24.Ok T := lim_iff.2 ⟨300, by kernel_rfl⟩
theorem wk32 : wm32.Ok T := lim_iff.2 ⟨300, by kernel_rfl⟩
theorem wk40 : wm40.Ok T := lim_iff.2 ⟨300, by kernel_rfl⟩
theorem wk48 : wm48.Ok T := lim_iff.2 ⟨300, by kernel_rfl⟩
theorem wk56 : wm56.Ok T := lim_iff.2 ⟨300, by kernel_rfl⟩
theorem wk64 : wm64.Ok T := lim_iff.2 ⟨300, by kernel_rfl⟩
end Go.Proofs.YtfgljaglidhjiaaGreatDoor

/-
  Lines, part 2.
-/
set_option linter.unusedVariables false
set_option maxRecDepth 1000000
namespace Go.Proofs.YtfgljaglidhjiaaGreatDoor
open Go Go.Abs
theorem wk1 : wm1.Ok T := lim_iff.2 ⟨300, by kernel_rfl⟩
theorem wk9 : wm9.Ok T := lim_iff.2 ⟨300, by kernel_rfl⟩
theorem wk17 : wm17.Ok T := lim_iff.2 ⟨300, by kernel_rfl⟩
theorem wk25 : wm25.Ok T := lim_iff.2 ⟨300, by kernel_rfl⟩
theorem wk33 : wm33.Ok T := lim_iff.2 ⟨300, by kernel_rfl⟩
theorem wk41 : wm41.Ok T := lim_iff.2 ⟨300, by kernel_rfl⟩
theorem wk49 : wm49.Ok T := lim_iff.2 ⟨300, by kernel_rfl⟩
theorem wk57 : wm57.Ok T := lim_iff.2 ⟨300, by kernel_rfl⟩
end Go.Proofs.YtfgljaglidhjiaaGreatDoor

/-
  Lines, part 3.
-/
set_option linter.unusedVariables false
set_option maxRecDepth 1000000
namespace Go.Proofs.YtfgljaglidhjiaaGreatDoor
open Go Go.Abs
theorem wk2 : wm2.Ok T := lim_iff.2 ⟨300, by kernel_rfl⟩
theorem wk10 : wm10.Ok T := lim_iff.2 ⟨300, by kernel_rfl⟩
theorem wk18 : wm18.Ok T := lim_iff.2 ⟨300, by kernel_rfl⟩
theorem wk26 : wm26.Ok T := lim_iff.2 ⟨300, by kernel_rfl⟩
theorem wk34 : wm34.Ok T := lim_iff.2 ⟨300, by kernel_rfl⟩
theorem wk42 : wm42.Ok T := lim_iff.2 ⟨300, by kernel_rfl⟩
theorem wk50 : wm50.Ok T := lim_iff.2 ⟨300, by kernel_rfl⟩
theorem wk58 : wm58.Ok T := lim_iff.2 ⟨300, by kernel_rfl⟩
end Go.Proofs.YtfgljaglidhjiaaGreatDoor

/-
  Lines, part 4.
-/
set_option linter.unusedVariables false
set_option maxRecDepth 1000000
namespace Go.Proofs.YtfgljaglidhjiaaGreatDoor
open Go Go.Abs
theorem wk3 : wm3.Ok T := lim_iff.2 ⟨300, by kernel_rfl⟩
theorem wk11 : wm11.Ok T := lim_iff.2 ⟨300, by kernel_rfl⟩
theorem wk19 : wm19.Ok T := lim_iff.2 ⟨300, by kernel_rfl⟩
theorem wk27 : wm27.Ok T := lim_iff.2 ⟨300, by kernel_rfl⟩
theorem wk35 : wm35.Ok T := lim_iff.2 ⟨300, by kernel_rfl⟩
theorem wk43 : wm43.Ok T := lim_iff.2 ⟨300, by kernel_rfl⟩
theorem wk51 : wm51.Ok T := lim_iff.2 ⟨300, by kernel_rfl⟩
theorem wk59 : wm59.Ok T := lim_iff.2 ⟨300, by kernel_rfl⟩
end Go.Proofs.YtfgljaglidhjiaaGreatDoor

/-
  Lines, part 5.
-/
set_option linter.unusedVariables false
set_option maxRecDepth 1000000
namespace Go.Proofs.YtfgljaglidhjiaaGreatDoor
open Go Go.Abs
theorem wk4 : wm4.Ok T := lim_iff.2 ⟨300, by kernel_rfl⟩
theorem wk12 : wm12.Ok T := lim_iff.2 ⟨300, by kernel_rfl⟩
theorem wk20 : wm20.Ok T := lim_iff.2 ⟨300, by kernel_rfl⟩
theorem wk28 : wm28.Ok T := lim_iff.2 ⟨300, by kernel_rfl⟩
theorem wk36 : wm36.Ok T := lim_iff.2 ⟨300, by kernel_rfl⟩
theorem wk44 : wm44.Ok T := lim_iff.2 ⟨300, by kernel_rfl⟩
theorem wk52 : wm52.Ok T := lim_iff.2 ⟨300, by kernel_rfl⟩
theorem wk60 : wm60.Ok T := lim_iff.2 ⟨300, by kernel_rfl⟩
end Go.Proofs.YtfgljaglidhjiaaGreatDoor

/-
  Lines, part 6.
-/
set_option linter.unusedVariables false
set_option maxRecDepth 1000000
namespace Go.Proofs.YtfgljaglidhjiaaGreatDoor
open Go Go.Abs
theorem wk5 : wm5.Ok T := lim_iff.2 ⟨300, by kernel_rfl⟩
theorem wk13 : wm13.Ok T := lim_iff.2 ⟨300, by kernel_rfl⟩
theorem wk21 : wm21.Ok T := lim_iff.2 ⟨300, by kernel_rfl⟩
theorem wk29 : wm29.Ok T := lim_iff.2 ⟨300, by kernel_rfl⟩
theorem wk37 : wm37.Ok T := lim_iff.2 ⟨300, by kernel_rfl⟩
theorem wk45 : wm45.Ok T := lim_iff.2 ⟨300, by kernel_rfl⟩
theorem wk53 : wm53.Ok T := lim_iff.2 ⟨300, by kernel_rfl⟩
theorem wk61 : wm61.Ok T := lim_iff.2 ⟨300, by kernel_rfl⟩
end Go.Proofs.YtfgljaglidhjiaaGreatDoor

/-
  Lines, part 7.
-/
set_option linter.unusedVariables false
set_option maxRecDepth 1000000
namespace Go.Proofs.YtfgljaglidhjiaaGreatDoor
open Go Go.Abs
theorem wk6 : wm6.Ok T := lim_iff.2 ⟨300, by kernel_rfl⟩
theorem wk14 : wm14.Ok T := lim_iff.2 ⟨300, by kernel_rfl⟩
theorem wk22 : wm22.Ok T := lim_iff.2 ⟨300, by kernel_rfl⟩
theorem wk30 : wm30.Ok T := lim_iff.2 ⟨300, by kernel_rfl⟩
theorem wk38 : wm38.Ok T := lim_iff.2 ⟨300, by kernel_rfl⟩
theorem wk46 : wm46.Ok T := lim_iff.2 ⟨300, by kernel_rfl⟩
theorem wk54 : wm54.Ok T := lim_iff.2 ⟨300, by kernel_rfl⟩
theorem wk62 : wm62.Ok T := lim_iff.2 ⟨300, by kernel_rfl⟩
end Go.Proofs.YtfgljaglidhjiaaGreatDoor

/-
  Lines, part 8.
-/
set_option linter.unusedVariables false
set_option maxRecDepth 1000000
namespace Go.Proofs.YtfgljaglidhjiaaGreatDoor
open Go Go.Abs
theorem wk7 : wm7.Ok T := lim_iff.2 ⟨300, by kernel_rfl⟩
theorem wk15 : wm15.Ok T := lim_iff.2 ⟨300, by kernel_rfl⟩
theorem wk23 : wm23.Ok T := lim_iff.2 ⟨300, by kernel_rfl⟩
theorem wk31 : wm31.Ok T := lim_iff.2 ⟨300, by kernel_rfl⟩
theorem wk39 : wm39.Ok T := lim_iff.2 ⟨300, by kernel_rfl⟩
theorem wk47 : wm47.Ok T := lim_iff.2 ⟨300, by kernel_rfl⟩
theorem wk55 : wm55.Ok T := lim_iff.2 ⟨300, by kernel_rfl⟩
theorem wk63 : wm63.Ok T := lim_iff.2 ⟨300, by kernel_rfl⟩
end Go.Proofs.YtfgljaglidhjiaaGreatDoor

/-
  The whole law.
-/
set_option linter.unusedVariables false
set_option maxRecDepth 1000000
namespace Go.Proofs.YtfgljaglidhjiaaGreatDoor
open Go Go.Abs
def mDay : List Memo := [wm0, wm1, wm2, wm3, wm4, wm5, wm6, wm7, wm8, wm9, wm10, wm11, wm12, wm13, wm14, wm15, wm16, wm17, wm18, wm19, wm20, wm21, wm22, wm23, wm24, wm25, wm26, wm27, wm28, wm29, wm30, wm31, wm32, wm33, wm34, wm35, wm36, wm37, wm38, wm39, wm40, wm41, wm42, wm43, wm44, wm45, wm46, wm47, wm48, wm49, wm50, wm51, wm52, wm53, wm54, wm55, wm56, wm57, wm58, wm59, wm60, wm61, wm62, wm63, wm64]
theorem mDay_ok : ∀ m ∈ mDay, m.Ok T := by
  simp only [mDay, List.mem_cons, List.not_mem_nil, or_false, forall_eq_or_imp, forall_eq]
  exact ⟨wk0, wk1, wk2, wk3, wk4, wk5, wk6, wk7, wk8, wk9, wk10, wk11, wk12, wk13, wk14, wk15, wk16, wk17, wk18, wk19, wk20, wk21, wk22, wk23, wk24, wk25, wk26, wk27, wk28, wk29, wk30, wk31, wk32, wk33, wk34, wk35, wk36, wk37, wk38, wk39, wk40, wk41, wk42, wk43, wk44, wk45, wk46, wk47, wk48, wk49, wk50, wk51, wk52, wk53, wk54, wk55, wk56, wk57, wk58, wk59, wk60, wk61, wk62, wk63, wk64⟩
theorem it_LogbookNames : itM T mDay 120 (.call false i_law12_LogbookNames [] [[]]) = some (.val (.bool true) [[]]) := by kernel_rfl
theorem go_LogbookNames : ∃ σ', lim T (.call false i_law12_LogbookNames [] [[]]) = some (.val (.bool true) σ') := ⟨_, itM_lim mDay_ok it_LogbookNames⟩
end Go.Proofs.YtfgljaglidhjiaaGreatDoor
