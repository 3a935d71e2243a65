/- What functions of the program answer, and what follows; part 3. -/
import Derived.Test.YtfgljaglidhjiaaGreatDoorTxt2
import Derived.ProofKit
import Derived.Test.YtfgljaglidhjiaaGreatDoorTxt1
import Derived.Test.YtfgljaglidhjiaaGreatDoorBase4
/-
  The day's lines, part 2.
-/
set_option linter.unusedVariables false
set_option maxRecDepth 1000000
namespace Go.Proofs.YtfgljaglidhjiaaGreatDoor
open Go Go.Abs
theorem wk1 : (wm1 [] []).Ok T := lim_iff.2 ⟨300, by kernel_rfl⟩
theorem wk6 : (wm6 [] []).Ok T := lim_iff.2 ⟨300, by kernel_rfl⟩
theorem wk11 : (wm11 [] []).Ok T := lim_iff.2 ⟨300, by kernel_rfl⟩
theorem wk16 : (wm16 [] []).Ok T := lim_iff.2 ⟨300, by kernel_rfl⟩
theorem wk21 : (wm21 [] []).Ok T := lim_iff.2 ⟨300, by kernel_rfl⟩
end Go.Proofs.YtfgljaglidhjiaaGreatDoor

/-
  The day's lines, part 3.
-/
set_option linter.unusedVariables false
set_option maxRecDepth 1000000
namespace Go.Proofs.YtfgljaglidhjiaaGreatDoor
open Go Go.Abs
theorem wk2 : (wm2 [] []).Ok T := lim_iff.2 ⟨300, by kernel_rfl⟩
theorem wk7 : (wm7 [] []).Ok T := lim_iff.2 ⟨300, by kernel_rfl⟩
theorem wk12 : (wm12 [] []).Ok T := lim_iff.2 ⟨300, by kernel_rfl⟩
theorem wk17 : (wm17 [] []).Ok T := lim_iff.2 ⟨300, by kernel_rfl⟩
theorem wk22 : (wm22 [] []).Ok T := lim_iff.2 ⟨300, by kernel_rfl⟩
end Go.Proofs.YtfgljaglidhjiaaGreatDoor

/-
  The day's lines, part 4.
-/
set_option linter.unusedVariables false
set_option maxRecDepth 1000000
namespace Go.Proofs.YtfgljaglidhjiaaGreatDoor
open Go Go.Abs
theorem wk3 : (wm3 [] []).Ok T := lim_iff.2 ⟨300, by kernel_rfl⟩
theorem wk8 : (wm8 [] []).Ok T := lim_iff.2 ⟨300, by kernel_rfl⟩
theorem wk13 : (wm13 [] []).Ok T := lim_iff.2 ⟨300, by kernel_rfl⟩
theorem wk18 : (wm18 [] []).Ok T := lim_iff.2 ⟨300, by kernel_rfl⟩
theorem wk23 : (wm23 [] []).Ok T := lim_iff.2 ⟨300, by kernel_rfl⟩
end Go.Proofs.YtfgljaglidhjiaaGreatDoor

/-
  The day's lines, part 5.
-/
set_option linter.unusedVariables false
set_option maxRecDepth 1000000
namespace Go.Proofs.YtfgljaglidhjiaaGreatDoor
open Go Go.Abs
theorem wk4 : (wm4 [] []).Ok T := lim_iff.2 ⟨300, by kernel_rfl⟩
theorem wk9 : (wm9 [] []).Ok T := lim_iff.2 ⟨300, by kernel_rfl⟩
theorem wk14 : (wm14 [] []).Ok T := lim_iff.2 ⟨300, by kernel_rfl⟩
theorem wk19 : (wm19 [] []).Ok T := lim_iff.2 ⟨300, by kernel_rfl⟩
theorem wk24 : (wm24 [] []).Ok T := lim_iff.2 ⟨300, by kernel_rfl⟩
end Go.Proofs.YtfgljaglidhjiaaGreatDoor

/-
  A day.
-/
set_option linter.unusedVariables false
set_option maxRecDepth 1000000
namespace Go.Proofs.YtfgljaglidhjiaaGreatDoor
open Go Go.Abs
def mDay : List Memo := [wm0 [] [], wm1 [] [], wm2 [] [], wm3 [] [], wm4 [] [], wm5 [] [], wm6 [] [], wm7 [] [], wm8 [] [], wm9 [] [], wm10 [] [], wm11 [] [], wm12 [] [], wm13 [] [], wm14 [] [], wm15 [] [], wm16 [] [], wm17 [] [], wm18 [] [], wm19 [] [], wm20 [] [], wm21 [] [], wm22 [] [], wm23 [] [], wm24 [] []]
theorem mDay_ok : ∀ m ∈ mDay, m.Ok T := by
  simp only [mDay, List.mem_cons, List.not_mem_nil, or_false, forall_eq_or_imp, forall_eq]
  exact ⟨wk0, wk1, wk2, wk3, wk4, wk5, wk6, wk7, wk8, wk9, wk10, wk11, wk12, wk13, wk14, wk15, wk16, wk17, wk18, wk19, wk20, wk21, wk22, wk23, wk24⟩
theorem it_awake : itM T mDay 120 (.call false i_law12_awake [] [[], []]) = some (.val (.bool true) [[], []]) := by kernel_rfl
theorem C_awake : lim T (.call false i_law12_awake [] [[], []]) = some (.val (.bool true) [[], []]) := itM_lim mDay_ok it_awake
end Go.Proofs.YtfgljaglidhjiaaGreatDoor

/-
  LogbookWrites.
-/
set_option linter.unusedVariables false
set_option linter.unusedSimpArgs false
namespace Go.Proofs.YtfgljaglidhjiaaGreatDoor
open Go Go.Abs Go.Book
variable {σ : Stack}

theorem L_sumW {l : List (List UInt8)} {b : List UInt8} (hl : l.length ≤ 9223372036854775807) : ∀ (m i : Nat) (z : Int), i + m = l.length →
    WL T [0, 1, 5, 6] false f_law12_LogbookWrites_l6 [(0, .lst l.length (l.flatMap strE)), (1, .lst b.length (b.flatMap bE)), (5, .int .i64 z), (6, .int .i64 i)] σ
      (fun x e σ' => σ' = σ ∧ x = .exit 0 ∧ get e 0 = .lst l.length (l.flatMap strE) ∧ get e 1 = .lst b.length (b.flatMap bE) ∧ ∃ z, get e 5 = .int .i64 z)
  | 0, i, z, hi => by
    refine WL_step e_law12_LogbookWrites_l6 ?_
    obtain rfl : i = l.length := by omega
    simp [-List.length_flatMap, -List.map_take, eF]
  | m + 1, i, z, hi => by
    refine WL_step e_law12_LogbookWrites_l6 ?_
    have h1 : i < l.length := by omega
    obtain ⟨s, hs⟩ : ∃ s, l[i]? = some s := ⟨_, List.getElem?_eq_getElem h1⟩
    have a1 := flat_at (f := strE) (w := 1) (fun _ => rfl) hs
    simp only [strE, Nat.mul_one] at a1
    have h4 := wnext h1 (by omega)
    simp [-List.length_flatMap, -List.map_take, eF, puD, h1, a1, h4]
    exact WL.to (L_sumW (b := b) hl m (i + 1) (IntKind.i64.wrap (z + s.length)) (by omega)) (by simp) rfl fun x e σ' hh => by simpa using hh
theorem recov_le : ∀ {n : Nat} {b : List UInt8}, (recov n b).length ≤ n
  | 0, b => by simp [recov]
  | n + 1, b => by
    unfold recov
    split
    · rename_i s r _
      have := recov_le (n := n) (b := r)
      simp; omega
    · simp
theorem law_Writes {l : List (List UInt8)} {b : List UInt8} (hl : l.length ≤ 9223372036854775807) (hb : b.length ≤ 9223372036854775807) :
    lim T (.call false i_law12_LogbookWrites [.lst l.length (l.flatMap strE), .lst b.length (b.flatMap bE)] [[]]) = some (.val (.bool true) [[]]) := by
  refine call_of T_law12_LogbookWrites e_law12_LogbookWrites rfl ?_
  have hA := C_awake
  simp [-List.length_flatMap, -List.map_take, eF]
  refine WL.to (L_sumW (b := b) (σ := [[], []]) hl l.length 0 0 (by omega)) (by simp) rfl ?_
  rintro x e σ' ⟨rfl, rfl, g0, g1, z, g5⟩
  by_cases h1 : l.length ≤ 103
  · have h1' : ¬ (103 : Int) < l.length := by omega
    by_cases h2 : 9000 < z
    · simp [-List.length_flatMap, -List.map_take, eF, g0, g1, g5, h1', h2, hA]
    · by_cases h3 : b.length ≤ 9000
      · have h3' : ¬ (9000 : Int) < b.length := by omega
        have hbr : b.length ≤ room := by unfold room; omega
        have hrl : (recov 100 b).length ≤ 1000000000 := by have := recov_le (n := 100) (b := b); omega
        have hL := fun S hS => C_list (σ := S) (l := l) (by omega) hS
        have hW := fun S hS => C_Write (σ := S) (l := l) (by omega) hS
        have hR := fun S hS => C_Recover (σ := S) (b := b) (by omega) hS
        have hK := fun S => C_right12 (σ := S) (l := l) (by omega)
        have hR' := fun S hS => C_recover12 (σ := S) (b := b) (by omega) hS
        have hT := fun S => C_texts (σ := S) (a := recov 100 b) (b := recov 100 b) hrl
        cases hc : okB l
        · simp only [hc] at hW hK
          simp [-List.length_flatMap, -List.map_take, eF, g0, g1, g5, h1', h2, h3', hbr, hL, hW, hR, hK, hR', hT, hA, meD, be_bytes, be_len]
        · have hB := fun S => C_book12 (σ := S) (okB_iff.1 hc)
          simp only [hc] at hW hK
          simp [-List.length_flatMap, -List.map_take, eF, g0, g1, g5, h1', h2, h3', hbr, hL, hW, hR, hK, hR', hT, hA, hB, meD, puD, be_bytes, be_len]
      · have h3' : (9000 : Int) < b.length := by omega
        simp [-List.length_flatMap, -List.map_take, eF, g0, g1, g5, h1', h2, h3', hA]
  · have h1' : (103 : Int) < l.length := by omega
    simp [-List.length_flatMap, -List.map_take, eF, g0, g1, g5, h1', hA]
end Go.Proofs.YtfgljaglidhjiaaGreatDoor

/-
  Arguments of a law's types.
-/
set_option linter.unusedVariables false
set_option linter.unusedSimpArgs false
namespace Go.Proofs.YtfgljaglidhjiaaGreatDoor
open Go Go.Abs Go.Book

theorem rows_of {α : Type} {T : Ty} {w : Nat} {f : α → List D} {Q : α → Prop} (h : ∀ ds, T.has ds → ∃ a, ds = f a ∧ Q a) {d : D} (hd : (Ty.slice w T).has [d]) :
    ∃ l : List α, d = .lst l.length (l.flatMap f) ∧ l.length ≤ maxLen ∧ ∀ a ∈ l, Q a := by
  simp only [Ty.has, List.cons.injEq, and_true] at hd
  obtain ⟨xs, rfl, hl, hx⟩ := hd
  have key : ∀ xs : List (List D), (∀ x ∈ xs, x.length = w ∧ T.has x) → ∃ l : List α, xs.flatten = l.flatMap f ∧ l.length = xs.length ∧ ∀ a ∈ l, Q a := by
    intro xs
    induction xs with
    | nil => intro _; exact ⟨[], rfl, rfl, by simp⟩
    | cons x xs ih =>
      intro hx
      obtain ⟨l, h1, h2, h3⟩ := ih fun y hy => hx y (by simp [hy])
      obtain ⟨a, rfl, ha⟩ := h x (hx x (by simp)).2
      exact ⟨a :: l, by simp [h1], by simp [h2], fun b hb => by
        rcases List.mem_cons.1 hb with rfl | hb
        · exact ha
        · exact h3 b hb⟩
  obtain ⟨l, h1, h2, h3⟩ := key xs hx
  exact ⟨l, by rw [h1, h2], by omega, h3⟩
theorem strE_of {ds : List D} (h : Ty.str.has ds) : ∃ s : List UInt8, ds = strE s ∧ s.length ≤ maxLen := h
end Go.Proofs.YtfgljaglidhjiaaGreatDoor

/-
  LogbookWrites at arguments of its types.
-/
set_option linter.unusedVariables false
set_option linter.unusedSimpArgs false
namespace Go.Proofs.YtfgljaglidhjiaaGreatDoor
open Go Go.Abs Go.Book
variable {σ : Stack}

theorem wf_u8 {n : Int} (h : (Lit.int .u8 n).wf = true) : 0 ≤ n ∧ n ≤ 255 := by
  simp only [Lit.wf, Bool.and_eq_true, decide_eq_true_eq] at h
  exact h
theorem bE_of {ds : List D} (h : (Ty.int .u8).has ds) : ∃ b : UInt8, ds = bE b ∧ True := by
  obtain ⟨n, rfl, hw⟩ := h
  have := wf_u8 hw
  refine ⟨UInt8.ofNat n.toNat, ?_, trivial⟩
  simp [bE]
  omega
theorem go_LogbookWrites (x0 x1 : D) (t0 : (Ty.slice 1 .str).hasV x0) (t1 : (Ty.slice 1 (.int .u8)).hasV x1) : ∃ σ', lim T (.call false i_law12_LogbookWrites [x0, x1] [[]]) = some (.val (.bool true) σ') := by
  obtain ⟨l, rfl, hl, _⟩ := rows_of (fun ds h => strE_of h) t0
  obtain ⟨b, rfl, hb, _⟩ := rows_of (fun ds h => bE_of h) t1
  have hm : maxLen ≤ 9223372036854775807 := by decide
  exact ⟨_, law_Writes (by omega) (by omega)⟩
end Go.Proofs.YtfgljaglidhjiaaGreatDoor
