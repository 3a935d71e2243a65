/- What functions of the program answer, and what follows; part 2. -/
import Derived.Test.YtfgljaglidhjiaaGreatDoorTxt1
import Derived.Test.YtfgljaglidhjiaaGreatDoorBase4
import Derived.Test.YtfgljaglidhjiaaGreatDoorTab
import Derived.ProofKit
/-
  The reference's Recover.
-/
set_option linter.unusedVariables false
set_option linter.unusedSimpArgs false
namespace Go.Proofs.YtfgljaglidhjiaaGreatDoor
open Go Go.Abs Go.Book
variable {σ : Stack}

theorem step_at {b : List UInt8} {k : Nat} {x y : UInt8} (hx : b[k]? = some x) (hy : b[k + 1]? = some y) : stepF (b.drop k) =
    if x.toNat * 256 + y.toNat ≤ 4000 ∧ x.toNat * 256 + y.toNat + 6 ≤ b.length - k then
      (if recF ((b.drop (k + 4)).take (x.toNat * 256 + y.toNat)) = (b.drop k).take (x.toNat * 256 + y.toNat + 6) then some ((b.drop (k + 4)).take (x.toNat * 256 + y.toNat), b.drop (k + (x.toNat * 256 + y.toNat) + 6)) else none)
    else none := by
  have hdr : b.drop k = x :: y :: b.drop (k + 2) := by rw [drop_at hx, drop_at hy]
  have hdl : (b.drop k).length = b.length - k := by simp
  have e4 : (b.drop k).drop 4 = b.drop (k + 4) := by rw [List.drop_drop]
  have e5 : (b.drop k).drop (x.toNat * 256 + y.toNat + 6) = b.drop (k + (x.toNat * 256 + y.toNat) + 6) := by rw [List.drop_drop]; congr 1
  unfold stepF
  split
  · rename_i x' y' r' hq
    rw [hdr] at hq
    cases hq
    rw [hdl, e4, e5]
    by_cases hc : x.toNat * 256 + y.toNat ≤ 4000 ∧ x.toNat * 256 + y.toNat + 6 ≤ b.length - k
    · rw [if_pos hc, if_pos ⟨by omega, hc⟩]
    · rw [if_neg hc, if_neg (fun h => hc h.2)]
  · rename_i hno
    exact absurd hdr (hno _ _ _)
set_option maxHeartbeats 4000000 in
theorem L_rec12 {b : List UInt8} (hb : b.length ≤ 1000000) : ∀ (m k : Nat) (ls : List (List UInt8)), (b.drop k).length ≤ m → k ≤ b.length → ls.length ≤ 100 →
    WL T [0, 4, 5] false f_ref12_Recover_l10 [(0, .str b), (4, .sl σ.length 0 ls.length 0 ls.length 1), (5, .int .i64 k)] ([.cells ls.length (ls.flatMap strE)] :: σ)
      (fun x e σ' => ∃ more, more = recov (100 - ls.length) (b.drop k) ∧ x = .exit 0 ∧ get e 4 = .sl σ.length 0 (ls ++ more).length 0 (ls ++ more).length 1 ∧ get e 5 = .int .i64 (k + (bookF more).length : Nat) ∧
        σ' = [.cells (ls ++ more).length ((ls ++ more).flatMap strE)] :: σ) := by
  intro m
  induction m with
  | zero =>
    intro k ls hm hk hl
    refine WL_step e_ref12_Recover_l10 ?_
    have h0 : ¬ (k : Int) + 4 ≤ b.length := by simp at hm; omega
    have u1 : IntKind.i64.wrap ((k : Int) + 4) = k + 4 := w64 (by omega)
    have hs := recov_no (n := 100 - ls.length) (stepF_no (t := b.drop k) (by omega))
    by_cases c0 : ls.length < 100
    · have c0' : (ls.length : Int) < 100 := by omega
      simp [-List.length_flatMap, -List.map_take, eF, puD, c0, c0', u1, h0, hs, bookF]
    · have c0' : ¬ (ls.length : Int) < 100 := by omega
      simp [-List.length_flatMap, -List.map_take, eF, puD, c0, c0', hs, bookF]
  | succ m ih =>
    intro k ls hm hk hl
    refine WL_step e_ref12_Recover_l10 ?_
    have u1 : IntKind.i64.wrap ((k : Int) + 4) = k + 4 := w64 (by omega)
    by_cases c0 : ls.length < 100
    · have c0' : (ls.length : Int) < 100 := by omega
      by_cases c1 : k + 4 ≤ b.length
      · have h1 : (k : Int) + 4 ≤ (b.length : Int) := by omega
        have hk0 : k < b.length := by omega
        have hk1 : k + 1 < b.length := by omega
        obtain ⟨x, hx⟩ : ∃ x, b[k]? = some x := ⟨_, List.getElem?_eq_getElem hk0⟩
        obtain ⟨y, hy⟩ : ∃ y, b[k + 1]? = some y := ⟨_, List.getElem?_eq_getElem hk1⟩
        have gx : b[k] = x := by have := List.getElem?_eq_getElem hk0; rw [hx] at this; cases this; rfl
        have gy : b[k + 1] = y := by have := List.getElem?_eq_getElem hk1; rw [hy] at this; cases this; rfl
        have hxl := be_lt x
        have hyl := be_lt y
        have hstep := step_at hx hy
        have v1 : IntKind.i64.wrap (x.toNat : Int) = x.toNat := w64 (by omega)
        have v2 : IntKind.i64.wrap (y.toNat : Int) = y.toNat := w64 (by omega)
        have v3 : IntKind.i64.wrap (256 * (x.toNat : Int)) = 256 * x.toNat := w64 (by omega)
        have v4 : IntKind.i64.wrap (256 * (x.toNat : Int) + y.toNat) = ((x.toNat * 256 + y.toNat : Nat) : Int) := (w64 (by omega)).trans (by omega)
        obtain ⟨n, hn⟩ : ∃ n, n = x.toNat * 256 + y.toNat := ⟨_, rfl⟩
        rw [← hn] at v4 hstep
        have u2 : IntKind.i64.wrap ((k : Int) + 1) = k + 1 := w64 (by omega)
        have t2 : ((k : Int) + 1).toNat = k + 1 := by omega
        have z1 : 0 ≤ (k : Int) + 1 := by omega
        have z2 : (k : Int) + 1 < b.length := by omega
        have u3 : IntKind.i64.wrap ((k : Int) + 6) = k + 6 := w64 (by omega)
        have u4 : IntKind.i64.wrap ((k : Int) + 6 + n) = k + 6 + n := w64 (by omega)
        have u5 : IntKind.i64.wrap ((k : Int) + 4 + n) = k + 4 + n := w64 (by omega)
        have u6 : IntKind.i64.wrap (6 + (n : Int)) = 6 + n := w64 (by omega)
        have u7 : IntKind.i64.wrap ((k : Int) + (6 + n)) = k + (6 + n) := w64 (by omega)
        by_cases c2 : n ≤ 4000
        · have c2' : ¬ (4000 : Int) < n := by omega
          have c2'' : (n : Int) ≤ 4000 := by omega
          by_cases c3 : n + 6 ≤ b.length - k
          · have c3' : ¬ (b.length : Int) < (k : Int) + 6 + n := by omega
            rw [if_pos ⟨c2, c3⟩] at hstep
            have s1 : ((k : Int) + 4).toNat = k + 4 := by omega
            have s2 : ((k : Int) + 4 + n).toNat = k + 4 + n := by omega
            have s3 : ((k : Int) + 6 + n).toNat = k + 6 + n := by omega
            have s4 : (0 : Int) ≤ (k : Int) + 4 := by omega
            have s5 : (k : Int) + 4 ≤ (k : Int) + 4 + n := by omega
            have s6 : (k : Int) + 4 + n ≤ b.length := by omega
            have s7 : (k : Int) ≤ (k : Int) + 6 + n := by omega
            have s8 : (k : Int) + 6 + n ≤ b.length := by omega
            have d1 : k + 4 + n - (k + 4) = n := by omega
            have d2 : k + 6 + n - k = n + 6 := by omega
            have d3 : (b.take (k + 4 + n)).drop (k + 4) = (b.drop (k + 4)).take n := by rw [List.drop_take, d1]
            have d4 : (b.take (k + 6 + n)).drop k = (b.drop k).take (n + 6) := by rw [List.drop_take, d2]
            obtain ⟨line, hline⟩ : ∃ l, l = (b.drop (k + 4)).take n := ⟨_, rfl⟩
            rw [← hline] at hstep d3
            have hll : line.length = n := by rw [hline]; simp; omega
            have hC := fun S => C_record12 (σ := S) (s := line) (by omega)
            by_cases c4 : recF line = (b.drop k).take (n + 6)
            · rw [if_pos c4] at hstep
              have hz : recov (100 - ls.length) (b.drop k) = line :: recov (100 - (ls ++ [line]).length) (b.drop (k + n + 6)) := by
                have hx : 100 - ls.length = (100 - (ls ++ [line]).length) + 1 := by simp; omega
                rw [hx, recov, hstep]
              rw [hz]
              have ih' := ih (k + n + 6) (ls ++ [line]) (by simp only [List.length_drop] at hm ⊢; omega) (by omega) (by simp; omega)
              have ek : ((k + n + 6 : Nat) : Int) = (k : Int) + (6 + n) := by omega
              rw [ek] at ih'
              have hr : (ls.length + 1) * 16 ≤ room := by unfold room; omega
              have hfl := flat_len (f := strE) (w := 1) (fun _ => rfl) ls
              have hq : ls.length ≤ (ls.flatMap strE).length := by omega
              have tk : (ls.flatMap strE).take ls.length = ls.flatMap strE := List.take_of_length_le (by omega)
              simp [-List.length_flatMap, -List.map_take, eF, puD, c0, c0', u1, h1, hk0, hk1, gx, gy, v1, v2, v3, v4, u2, t2, z1, z2, u3, u4, u5, u6, u7, c2', c2'', c3', s1, s2, s3, s4, s5, s6, s7, s8, d3, d4, d1, d2, ← hline, hC, c4, hr, tk, hq]
              refine WL.to ih' ?_ ?_ ?_
              · simp
              · simp
              · intro x e σ' hh
                obtain ⟨more, hm, hh1, hh2, hh3, hh4⟩ := hh
                subst hm
                generalize recov (100 - (ls ++ [line]).length) (b.drop (k + n + 6)) = more at hh2 hh3 hh4 ⊢
                have e1 : k + n + 6 + (bookF more).length = k + (bookF (line :: more)).length := by
                  simp only [bookF, List.flatMap_cons, List.length_append, recF_len, hll]; omega
                rw [e1] at hh3
                simp only [List.append_assoc, List.singleton_append] at hh2 hh4
                exact ⟨_, rfl, hh1, hh2, hh3, hh4⟩
            · rw [if_neg c4] at hstep
              have c4' : (recF line == (b.drop k).take (n + 6)) = false := by simpa using c4
              simp [-List.length_flatMap, -List.map_take, eF, puD, c0, c0', u1, h1, hk0, hk1, gx, gy, v1, v2, v3, v4, u2, t2, z1, z2, u3, u4, u5, u6, u7, c2', c2'', c3', s1, s2, s3, s4, s5, s6, s7, s8, d3, d4, d1, d2, ← hline, hC, c4, c4', recov_no hstep, bookF]
          · have c3' : (b.length : Int) < (k : Int) + 6 + n := by omega
            rw [if_neg (fun h => c3 h.2)] at hstep
            simp [-List.length_flatMap, -List.map_take, eF, puD, c0, c0', u1, h1, hk0, hk1, gx, gy, v1, v2, v3, v4, u2, t2, z1, z2, u3, u4, c2', c2'', c3', recov_no hstep, bookF]
        · have c2' : (4000 : Int) < n := by omega
          have c2'' : ¬ (n : Int) ≤ 4000 := by omega
          rw [if_neg (fun h => c2 h.1)] at hstep
          simp [-List.length_flatMap, -List.map_take, eF, puD, c0, c0', u1, h1, hk0, hk1, gx, gy, v1, v2, v3, v4, u2, t2, z1, z2, c2', c2'', recov_no hstep, bookF]
      · have h0 : ¬ (k : Int) + 4 ≤ b.length := by omega
        have hs := recov_no (n := 100 - ls.length) (stepF_no (t := b.drop k) (by simp; omega))
        simp [-List.length_flatMap, -List.map_take, eF, puD, c0, c0', u1, h0, hs, bookF]
    · have c0' : ¬ (ls.length : Int) < 100 := by omega
      have hz : recov (100 - ls.length) (b.drop k) = [] := by rw [show 100 - ls.length = 0 by omega]; rfl
      rw [hz]
      simp [-List.length_flatMap, -List.map_take, eF, puD, c0, c0', bookF]
theorem C_recover12 {b : List UInt8} (hb : b.length ≤ 1000000) (hσ : σ ≠ []) :
    lim T (.call false i_ref12_Recover [.str b] σ) = some (.val (.tup [.lst (recov 100 b).length ((recov 100 b).flatMap strE), .int .i64 ((bookF (recov 100 b)).length : Nat)]) σ) := by
  refine call_of T_ref12_Recover e_ref12_Recover rfl ?_
  have hL := L_rec12 (σ := σ) hb b.length 0 [] (by simp) (by omega) (by simp)
  simp [-List.length_flatMap, -List.map_take, eF]
  refine WL.to hL (by simp) (by simp) ?_
  rintro x e σ' ⟨more, hm, rfl, g4, g5, rfl⟩
  simp only [List.drop_zero, List.length_nil, Nat.sub_zero, List.nil_append, Nat.zero_add] at g4 g5 hm
  subst hm
  simp [-List.length_flatMap, -List.map_take, eF, g4, g5]
  exact ⟨_, frz_pair (k_out (n := 15) (f := strE) (w := 1) (l := recov 100 b) (by decide) (fun _ => rfl) (fun _ => by simp [strE]) hσ (by simp))⟩
end Go.Proofs.YtfgljaglidhjiaaGreatDoor

/-
  The day's stores.
-/
set_option linter.unusedVariables false
set_option maxRecDepth 1000000
namespace Go.Proofs.YtfgljaglidhjiaaGreatDoor
open Go Go.Abs
def qI (n : Int) : D := .int .i64 n
def b0 : Blk := .cells 0 [(qI 0), (qI 0), (qI 0), (qI 0), .nils, (qI 0), (qI 0), (qI 0), .nils, (.sl 3 0 0 0 0 4), .nils, (.sl 3 1 0 0 0 10), (.sl 3 2 0 0 0 2), (qI 1000), (qI 500), (qI 0), (.sl 3 3 0 0 0 2), (.sl 3 4 0 0 0 6), (.bool false), (.sl 3 5 0 0 0 4), (qI 0)]
def b1 : Blk := .cells 0 [(qI 2), (qI 1), (qI 1), (qI 4), .nils, (qI 0), (qI 0), (qI 0), .nils, (.sl 3 0 0 0 0 4), .nils, (.sl 3 1 0 0 0 10), (.sl 3 2 0 0 0 2), (qI 1000), (qI 500), (qI 0), (.sl 3 3 0 0 0 2), (.sl 3 4 0 0 0 6), (.bool false), (.sl 3 5 0 0 0 4), (qI 0)]
def b2 : Blk := .cells 0 [(qI 2), (qI 1), (qI 1), (qI 4), (.lst 3 [(qI 100), (qI 101), (qI 419), (qI 2676), (qI 150), (qI 150), (qI 476), (qI 632), (qI 2746), (qI 300), (qI 200), (qI 1555), (qI 852), (qI 2793), (qI 600)]), (qI 0), (qI 0), (qI 0), .nils, (.sl 3 0 0 0 0 4), .nils, (.sl 3 1 0 0 0 10), (.sl 3 2 0 0 0 2), (qI 1000), (qI 500), (qI 0), (.sl 3 3 0 0 0 2), (.sl 3 4 0 0 0 6), (.bool false), (.sl 3 5 0 0 0 4), (qI 1)]
def b3 : Blk := .cells 0 [(qI 2), (qI 1), (qI 1), (qI 4), (.lst 3 [(qI 100), (qI 101), (qI 419), (qI 2676), (qI 150), (qI 150), (qI 476), (qI 632), (qI 2746), (qI 300), (qI 200), (qI 1555), (qI 852), (qI 2793), (qI 600)]), (qI 1000), (qI 0), (qI 800), .nils, (.sl 3 0 0 0 0 4), .nils, (.sl 3 1 0 0 0 10), (.sl 3 2 0 0 0 2), (qI 1000), (qI 500), (qI 0), (.sl 3 3 0 0 0 2), (.sl 3 4 0 0 0 6), (.bool true), (.sl 3 5 0 0 0 4), (qI 2)]
def b4 : Blk := .cells 3 [(qI 0), (qI 0), (qI 0)]
def b5 : Blk := .cells 0 [(qI 2), (qI 1), (qI 1), (qI 4), (.lst 3 [(qI 100), (qI 101), (qI 419), (qI 2676), (qI 150), (qI 150), (qI 476), (qI 632), (qI 2746), (qI 300), (qI 200), (qI 1555), (qI 852), (qI 2793), (qI 600)]), (qI 1000), (qI 0), (qI 800), (.lst 1 [(qI 0), (qI 500), (qI 5)]), (.sl 3 0 0 0 0 4), .nils, (.sl 3 1 0 0 0 10), (.sl 3 2 0 0 0 2), (qI 1000), (qI 500), (qI 0), (.sl 3 3 0 0 0 2), (.sl 3 4 0 0 0 6), (.bool true), (.sl 3 5 0 0 0 4), (qI 3)]
def b6 : Blk := .cells 4 [(qI 0), (qI 0), (qI 0), (qI 0)]
def b7 : Blk := .cells 1 [(.str [97]), (.lst 8 [(qI 8000), (qI 8000), (qI 500), (qI 400), (qI 900), (qI 400), (qI 0), (qI 10)]), (.bool true), (qI 0)]
def b8 : Blk := .cells 1 [(qI 0), (qI 0), (qI 0), (qI 0)]
def b9 : Blk := .cells 0 [(qI 2), (qI 1), (qI 1), (qI 4), (.lst 3 [(qI 100), (qI 101), (qI 419), (qI 2676), (qI 150), (qI 150), (qI 476), (qI 632), (qI 2746), (qI 300), (qI 200), (qI 1555), (qI 852), (qI 2793), (qI 600)]), (qI 1000), (qI 0), (qI 800), (.lst 1 [(qI 0), (qI 500), (qI 5)]), (.sl 3 0 1 0 1 4), .nils, (.sl 3 1 0 0 0 10), (.sl 3 2 0 0 0 2), (qI 1000), (qI 500), (qI 0), (.sl 3 3 0 0 0 2), (.sl 3 4 0 0 0 6), (.bool true), (.sl 3 5 1 0 1 4), (qI 4)]
def b10 : Blk := .cells 5 [(qI 0), (qI 0), (qI 0), (qI 0), (qI 0)]
def b11 : Blk := .cells 2 [(.str [97]), (.lst 8 [(qI 8000), (qI 8000), (qI 500), (qI 400), (qI 900), (qI 400), (qI 0), (qI 10)]), (.bool true), (qI 0), (.str [98]), (.lst 8 [(qI 8000), (qI 8000), (qI 500), (qI 400), (qI 900), (qI 500), (qI 0), (qI 10)]), (.bool true), (qI 0)]
def b12 : Blk := .cells 2 [(qI 0), (qI 0), (qI 0), (qI 0), (qI 0), (qI 0), (qI 0), (qI 0)]
def b13 : Blk := .cells 0 [(qI 2), (qI 1), (qI 1), (qI 4), (.lst 3 [(qI 100), (qI 101), (qI 419), (qI 2676), (qI 150), (qI 150), (qI 476), (qI 632), (qI 2746), (qI 300), (qI 200), (qI 1555), (qI 852), (qI 2793), (qI 600)]), (qI 1000), (qI 0), (qI 800), (.lst 1 [(qI 0), (qI 500), (qI 5)]), (.sl 3 0 2 0 2 4), .nils, (.sl 3 1 0 0 0 10), (.sl 3 2 0 0 0 2), (qI 1000), (qI 500), (qI 0), (.sl 3 3 0 0 0 2), (.sl 3 4 0 0 0 6), (.bool true), (.sl 3 5 2 0 2 4), (qI 5)]
def b14 : Blk := .cells 6 [(qI 0), (qI 0), (qI 0), (qI 0), (qI 0), (qI 0)]
def b15 : Blk := .cells 2 [(.str [97]), (.lst 8 [(qI 8000), (qI 8000), (qI 500), (qI 400), (qI 900), (qI 400), (qI 0), (qI 10)]), (.bool true), (qI 0), (.str [98]), (.lst 8 [(qI 8000), (qI 8000), (qI 500), (qI 400), (qI 900), (qI 500), (qI 0), (qI 10)]), (.bool false), (qI 6)]
def b16 : Blk := .cells 2 [(qI 0), (qI 0), (qI 0), (qI 0), (qI 6), (qI 500), (qI 390), (qI 410)]
def b17 : Blk := .cells 0 [(qI 2), (qI 1), (qI 1), (qI 4), (.lst 3 [(qI 100), (qI 101), (qI 419), (qI 2676), (qI 150), (qI 150), (qI 476), (qI 632), (qI 2746), (qI 300), (qI 200), (qI 1555), (qI 852), (qI 2793), (qI 600)]), (qI 1000), (qI 0), (qI 800), (.lst 1 [(qI 0), (qI 500), (qI 5)]), (.sl 3 0 2 0 2 4), .nils, (.sl 3 1 0 0 0 10), (.sl 3 2 0 0 0 2), (qI 1000), (qI 500), (qI 0), (.sl 3 3 0 0 0 2), (.sl 3 4 0 0 0 6), (.bool true), (.sl 3 5 2 0 2 4), (qI 6)]
def b18 : Blk := .cells 7 [(qI 0), (qI 0), (qI 0), (qI 0), (qI 0), (qI 0), (qI 0)]
def b19 : Blk := .cells 1 [(qI 0), (qI 0), (qI 0), (qI 9), (qI 9), (qI 9), (qI 20), (qI 5), (qI 1), (.int .u8 (1))]
def b20 : Blk := .cells 0 [(qI 2), (qI 1), (qI 1), (qI 4), (.lst 3 [(qI 100), (qI 101), (qI 419), (qI 2676), (qI 150), (qI 150), (qI 476), (qI 632), (qI 2746), (qI 300), (qI 200), (qI 1555), (qI 852), (qI 2793), (qI 600)]), (qI 1000), (qI 0), (qI 800), (.lst 1 [(qI 0), (qI 500), (qI 5)]), (.sl 3 0 2 0 2 4), .nils, (.sl 3 1 1 0 1 10), (.sl 3 2 0 0 0 2), (qI 1000), (qI 500), (qI 0), (.sl 3 3 0 0 0 2), (.sl 3 4 0 0 0 6), (.bool true), (.sl 3 5 2 0 2 4), (qI 7)]
def b21 : Blk := .cells 8 [(qI 0), (qI 0), (qI 0), (qI 0), (qI 0), (qI 0), (qI 0), (qI 0)]
def b22 : Blk := .cells 1 [(qI 0), (.lst 1 [(qI 1), (qI 1), (qI 1), (qI 25)])]
def b23 : Blk := .cells 0 [(qI 2), (qI 1), (qI 1), (qI 4), (.lst 3 [(qI 100), (qI 101), (qI 419), (qI 2676), (qI 150), (qI 150), (qI 476), (qI 632), (qI 2746), (qI 300), (qI 200), (qI 1555), (qI 852), (qI 2793), (qI 600)]), (qI 1000), (qI 0), (qI 800), (.lst 1 [(qI 0), (qI 500), (qI 5)]), (.sl 3 0 2 0 2 4), .nils, (.sl 3 1 1 0 1 10), (.sl 3 2 1 0 1 2), (qI 1000), (qI 500), (qI 0), (.sl 3 3 0 0 0 2), (.sl 3 4 0 0 0 6), (.bool true), (.sl 3 5 2 0 2 4), (qI 8)]
def b24 : Blk := .cells 9 [(qI 0), (qI 0), (qI 0), (qI 0), (qI 0), (qI 0), (qI 0), (qI 0), (qI 0)]
def b25 : Blk := .cells 0 [(qI 2), (qI 1), (qI 1), (qI 4), (.lst 3 [(qI 100), (qI 101), (qI 419), (qI 2676), (qI 150), (qI 150), (qI 476), (qI 632), (qI 2746), (qI 300), (qI 200), (qI 1555), (qI 852), (qI 2793), (qI 600)]), (qI 1000), (qI 0), (qI 800), (.lst 1 [(qI 0), (qI 500), (qI 5)]), (.sl 3 0 2 0 2 4), (.lst 1 [(.lst 1 [(qI (-50))])]), (.sl 3 1 1 0 1 10), (.sl 3 2 1 0 1 2), (qI 1000), (qI 500), (qI 0), (.sl 3 3 0 0 0 2), (.sl 3 4 0 0 0 6), (.bool true), (.sl 3 5 2 0 2 4), (qI 9)]
def b26 : Blk := .cells 10 [(qI 0), (qI 0), (qI 0), (qI 0), (qI 0), (qI 0), (qI 0), (qI 0), (qI 0), (qI 0)]
def b27 : Blk := .cells 0 [(qI 2), (qI 1), (qI 1), (qI 4), (.lst 3 [(qI 100), (qI 101), (qI 419), (qI 2676), (qI 150), (qI 150), (qI 476), (qI 632), (qI 2746), (qI 300), (qI 200), (qI 1555), (qI 852), (qI 2793), (qI 600)]), (qI 1000), (qI 0), (qI 800), (.lst 1 [(qI 0), (qI 500), (qI 5)]), (.sl 3 0 2 0 2 4), (.lst 2 [(.lst 1 [(qI (-50))]), (.lst 1 [(qI 50)])]), (.sl 3 1 1 0 1 10), (.sl 3 2 1 0 1 2), (qI 1000), (qI 500), (qI 0), (.sl 3 3 0 0 0 2), (.sl 3 4 0 0 0 6), (.bool true), (.sl 3 5 2 0 2 4), (qI 10)]
def b28 : Blk := .cells 11 [(qI 0), (qI 0), (qI 0), (qI 0), (qI 0), (qI 0), (qI 0), (qI 0), (qI 0), (qI 0), (qI 0)]
def b29 : Blk := .cells 1 [(qI 0), (.lst 1 [(qI 100), (qI 400)])]
def b30 : Blk := .cells 0 [(qI 2), (qI 1), (qI 1), (qI 4), (.lst 3 [(qI 100), (qI 101), (qI 419), (qI 2676), (qI 150), (qI 150), (qI 476), (qI 632), (qI 2746), (qI 300), (qI 200), (qI 1555), (qI 852), (qI 2793), (qI 600)]), (qI 1000), (qI 0), (qI 800), (.lst 1 [(qI 0), (qI 500), (qI 5)]), (.sl 3 0 2 0 2 4), (.lst 2 [(.lst 1 [(qI (-50))]), (.lst 1 [(qI 50)])]), (.sl 3 1 1 0 1 10), (.sl 3 2 1 0 1 2), (qI 1000), (qI 500), (qI 0), (.sl 3 3 1 0 1 2), (.sl 3 4 0 0 0 6), (.bool true), (.sl 3 5 2 0 2 4), (qI 11)]
def b31 : Blk := .cells 12 [(qI 0), (qI 0), (qI 0), (qI 0), (qI 0), (qI 0), (qI 0), (qI 0), (qI 0), (qI 0), (qI 0), (qI 0)]
def b32 : Blk := .cells 1 [(qI 2), (qI 0), (qI 4000), (qI 4000), (qI 12000), (qI 12000)]
def b33 : Blk := .cells 0 [(qI 2), (qI 1), (qI 1), (qI 4), (.lst 3 [(qI 100), (qI 101), (qI 419), (qI 2676), (qI 150), (qI 150), (qI 476), (qI 632), (qI 2746), (qI 300), (qI 200), (qI 1555), (qI 852), (qI 2793), (qI 600)]), (qI 1000), (qI 0), (qI 800), (.lst 1 [(qI 0), (qI 500), (qI 5)]), (.sl 3 0 2 0 2 4), (.lst 2 [(.lst 1 [(qI (-50))]), (.lst 1 [(qI 50)])]), (.sl 3 1 1 0 1 10), (.sl 3 2 1 0 1 2), (qI 1000), (qI 500), (qI 0), (.sl 3 3 1 0 1 2), (.sl 3 4 1 0 1 6), (.bool true), (.sl 3 5 2 0 2 4), (qI 12)]
def b34 : Blk := .cells 13 [(qI 0), (qI 0), (qI 0), (qI 0), (qI 0), (qI 0), (qI 0), (qI 0), (qI 0), (qI 0), (qI 0), (qI 0), (qI 0)]
def b35 : Blk := .cells 1 [(.str [102, 105, 101, 108, 100, 32, 50, 32, 49, 32, 49, 32, 52]), (.str [116, 97, 98, 108, 101, 32, 49, 48, 48, 32, 49, 48, 49, 32, 52, 49, 57, 32, 50, 54, 55, 54, 32, 49, 53, 48, 32, 49, 53, 48, 32, 52, 55, 54, 32, 54, 51, 50, 32, 50, 55, 52, 54, 32, 51, 48, 48, 32, 50, 48, 48, 32, 49, 53, 53, 53, 32, 56, 53, 50, 32, 50, 55, 57, 51, 32, 54, 48, 48]), (.str [98, 101, 100, 32, 49, 48, 48, 48, 32, 48, 32, 56, 48, 48]), (.str [109, 111, 100, 101, 108, 32, 97, 32, 56, 48, 48, 48, 32, 56, 48, 48, 48, 32, 53, 48, 48, 32, 52, 48, 48, 32, 57, 48, 48, 32, 52, 48, 48, 32, 48, 32, 49, 48]), (.str [109, 111, 100, 101, 108, 32, 98, 32, 56, 48, 48, 48, 32, 56, 48, 48, 48, 32, 53, 48, 48, 32, 52, 48, 48, 32, 57, 48, 48, 32, 53, 48, 48, 32, 48, 32, 49, 48]), (.str [108, 111, 103, 32, 116, 49, 32, 50, 32, 51, 57, 48, 32, 52, 49, 48, 32, 49, 32, 49]), (.str [114, 117, 108, 101, 32, 48, 32, 48, 32, 48, 32, 57, 32, 57, 32, 57, 32, 50, 48, 32, 53, 32, 49, 32, 49]), (.str [113, 117, 97, 107, 101, 32, 49, 32, 49, 32, 49, 32, 50, 53]), (.str [116, 105, 99, 107, 32, 45, 49, 48, 48]), (.str [116, 105, 99, 107, 32, 53, 48]), (.str [117, 110, 105, 116, 32, 48, 32, 49, 48, 48, 32, 52, 48, 48]), (.str [115, 101, 108, 108, 32, 48, 32, 48, 32, 48, 32, 51]), (.str [])]
def b36 : Blk := .cells 0 [(qI 0), (qI 0), (qI 0), (qI 0), .nils, (qI 0), (qI 0), (qI 0), .nils, (.sl 3 9 0 0 0 4), .nils, (.sl 3 10 0 0 0 10), (.sl 3 11 0 0 0 2), (qI 1000), (qI 500), (qI 0), (.sl 3 12 0 0 0 2), (.sl 3 13 0 0 0 6), (.bool false), (.sl 3 14 0 0 0 4), (qI 0)]
def b37 : Blk := .cells 0 [(qI 2), (qI 1), (qI 1), (qI 4), .nils, (qI 0), (qI 0), (qI 0), .nils, (.sl 3 9 0 0 0 4), .nils, (.sl 3 10 0 0 0 10), (.sl 3 11 0 0 0 2), (qI 1000), (qI 500), (qI 0), (.sl 3 12 0 0 0 2), (.sl 3 13 0 0 0 6), (.bool false), (.sl 3 14 0 0 0 4), (qI 0)]
def b38 : Blk := .cells 0 [(qI 2), (qI 1), (qI 1), (qI 4), (.lst 3 [(qI 100), (qI 101), (qI 419), (qI 2676), (qI 150), (qI 150), (qI 476), (qI 632), (qI 2746), (qI 300), (qI 200), (qI 1555), (qI 852), (qI 2793), (qI 600)]), (qI 0), (qI 0), (qI 0), .nils, (.sl 3 9 0 0 0 4), .nils, (.sl 3 10 0 0 0 10), (.sl 3 11 0 0 0 2), (qI 1000), (qI 500), (qI 0), (.sl 3 12 0 0 0 2), (.sl 3 13 0 0 0 6), (.bool false), (.sl 3 14 0 0 0 4), (qI 1)]
def b39 : Blk := .cells 0 [(qI 2), (qI 1), (qI 1), (qI 4), (.lst 3 [(qI 100), (qI 101), (qI 419), (qI 2676), (qI 150), (qI 150), (qI 476), (qI 632), (qI 2746), (qI 300), (qI 200), (qI 1555), (qI 852), (qI 2793), (qI 600)]), (qI 1000), (qI 0), (qI 800), .nils, (.sl 3 9 0 0 0 4), .nils, (.sl 3 10 0 0 0 10), (.sl 3 11 0 0 0 2), (qI 1000), (qI 500), (qI 0), (.sl 3 12 0 0 0 2), (.sl 3 13 0 0 0 6), (.bool true), (.sl 3 14 0 0 0 4), (qI 2)]
def b40 : Blk := .cells 0 [(qI 2), (qI 1), (qI 1), (qI 4), (.lst 3 [(qI 100), (qI 101), (qI 419), (qI 2676), (qI 150), (qI 150), (qI 476), (qI 632), (qI 2746), (qI 300), (qI 200), (qI 1555), (qI 852), (qI 2793), (qI 600)]), (qI 1000), (qI 0), (qI 800), .nils, (.sl 3 9 1 0 1 4), .nils, (.sl 3 10 0 0 0 10), (.sl 3 11 0 0 0 2), (qI 1000), (qI 500), (qI 0), (.sl 3 12 0 0 0 2), (.sl 3 13 0 0 0 6), (.bool true), (.sl 3 14 1 0 1 4), (qI 3)]
def b41 : Blk := .cells 0 [(qI 2), (qI 1), (qI 1), (qI 4), (.lst 3 [(qI 100), (qI 101), (qI 419), (qI 2676), (qI 150), (qI 150), (qI 476), (qI 632), (qI 2746), (qI 300), (qI 200), (qI 1555), (qI 852), (qI 2793), (qI 600)]), (qI 1000), (qI 0), (qI 800), .nils, (.sl 3 9 2 0 2 4), .nils, (.sl 3 10 0 0 0 10), (.sl 3 11 0 0 0 2), (qI 1000), (qI 500), (qI 0), (.sl 3 12 0 0 0 2), (.sl 3 13 0 0 0 6), (.bool true), (.sl 3 14 2 0 2 4), (qI 4)]
def b42 : Blk := .cells 2 [(.str [97]), (.lst 8 [(qI 8000), (qI 8000), (qI 500), (qI 400), (qI 900), (qI 400), (qI 0), (qI 10)]), (.bool true), (qI 0), (.str [98]), (.lst 8 [(qI 8000), (qI 8000), (qI 500), (qI 400), (qI 900), (qI 500), (qI 0), (qI 10)]), (.bool false), (qI 5)]
def b43 : Blk := .cells 2 [(qI 0), (qI 0), (qI 0), (qI 0), (qI 5), (qI 500), (qI 390), (qI 410)]
def b44 : Blk := .cells 0 [(qI 2), (qI 1), (qI 1), (qI 4), (.lst 3 [(qI 100), (qI 101), (qI 419), (qI 2676), (qI 150), (qI 150), (qI 476), (qI 632), (qI 2746), (qI 300), (qI 200), (qI 1555), (qI 852), (qI 2793), (qI 600)]), (qI 1000), (qI 0), (qI 800), .nils, (.sl 3 9 2 0 2 4), .nils, (.sl 3 10 0 0 0 10), (.sl 3 11 0 0 0 2), (qI 1000), (qI 500), (qI 0), (.sl 3 12 0 0 0 2), (.sl 3 13 0 0 0 6), (.bool true), (.sl 3 14 2 0 2 4), (qI 5)]
def b45 : Blk := .cells 0 [(qI 2), (qI 1), (qI 1), (qI 4), (.lst 3 [(qI 100), (qI 101), (qI 419), (qI 2676), (qI 150), (qI 150), (qI 476), (qI 632), (qI 2746), (qI 300), (qI 200), (qI 1555), (qI 852), (qI 2793), (qI 600)]), (qI 1000), (qI 0), (qI 800), .nils, (.sl 3 9 2 0 2 4), .nils, (.sl 3 10 1 0 1 10), (.sl 3 11 0 0 0 2), (qI 1000), (qI 500), (qI 0), (.sl 3 12 0 0 0 2), (.sl 3 13 0 0 0 6), (.bool true), (.sl 3 14 2 0 2 4), (qI 6)]
def b46 : Blk := .cells 0 [(qI 2), (qI 1), (qI 1), (qI 4), (.lst 3 [(qI 100), (qI 101), (qI 419), (qI 2676), (qI 150), (qI 150), (qI 476), (qI 632), (qI 2746), (qI 300), (qI 200), (qI 1555), (qI 852), (qI 2793), (qI 600)]), (qI 1000), (qI 0), (qI 800), .nils, (.sl 3 9 2 0 2 4), .nils, (.sl 3 10 1 0 1 10), (.sl 3 11 1 0 1 2), (qI 1000), (qI 500), (qI 0), (.sl 3 12 0 0 0 2), (.sl 3 13 0 0 0 6), (.bool true), (.sl 3 14 2 0 2 4), (qI 7)]
def b47 : Blk := .cells 0 [(qI 2), (qI 1), (qI 1), (qI 4), (.lst 3 [(qI 100), (qI 101), (qI 419), (qI 2676), (qI 150), (qI 150), (qI 476), (qI 632), (qI 2746), (qI 300), (qI 200), (qI 1555), (qI 852), (qI 2793), (qI 600)]), (qI 1000), (qI 0), (qI 800), .nils, (.sl 3 9 2 0 2 4), .nils, (.sl 3 10 1 0 1 10), (.sl 3 11 1 0 1 2), (qI 1000), (qI 500), (qI 0), (.sl 3 12 0 0 0 2), (.sl 3 13 0 0 0 6), (.bool true), (.sl 3 14 2 0 2 4), (qI 8)]
def b48 : Blk := .cells 9 [(qI 0), (qI 0), (qI 0), (qI 0), (qI 0), (qI 0), (qI 0), (qI 0), (qI 1)]
def b49 : Blk := .cells 0 [(qI 2), (qI 1), (qI 1), (qI 4), (.lst 3 [(qI 100), (qI 101), (qI 419), (qI 2676), (qI 150), (qI 150), (qI 476), (qI 632), (qI 2746), (qI 300), (qI 200), (qI 1555), (qI 852), (qI 2793), (qI 600)]), (qI 1000), (qI 0), (qI 800), .nils, (.sl 3 9 2 0 2 4), .nils, (.sl 3 10 1 0 1 10), (.sl 3 11 1 0 1 2), (qI 1000), (qI 500), (qI 0), (.sl 3 12 0 0 0 2), (.sl 3 13 0 0 0 6), (.bool true), (.sl 3 14 2 0 2 4), (qI 9)]
def b50 : Blk := .cells 10 [(qI 0), (qI 0), (qI 0), (qI 0), (qI 0), (qI 0), (qI 0), (qI 0), (qI 1), (qI 1)]
def b51 : Blk := .cells 0 [(qI 2), (qI 1), (qI 1), (qI 4), (.lst 3 [(qI 100), (qI 101), (qI 419), (qI 2676), (qI 150), (qI 150), (qI 476), (qI 632), (qI 2746), (qI 300), (qI 200), (qI 1555), (qI 852), (qI 2793), (qI 600)]), (qI 1000), (qI 0), (qI 800), .nils, (.sl 3 9 2 0 2 4), .nils, (.sl 3 10 1 0 1 10), (.sl 3 11 1 0 1 2), (qI 1000), (qI 500), (qI 0), (.sl 3 12 1 0 1 2), (.sl 3 13 0 0 0 6), (.bool true), (.sl 3 14 2 0 2 4), (qI 10)]
def b52 : Blk := .cells 11 [(qI 0), (qI 0), (qI 0), (qI 0), (qI 0), (qI 0), (qI 0), (qI 0), (qI 1), (qI 1), (qI 0)]
def b53 : Blk := .cells 0 [(qI 2), (qI 1), (qI 1), (qI 4), (.lst 3 [(qI 100), (qI 101), (qI 419), (qI 2676), (qI 150), (qI 150), (qI 476), (qI 632), (qI 2746), (qI 300), (qI 200), (qI 1555), (qI 852), (qI 2793), (qI 600)]), (qI 1000), (qI 0), (qI 800), .nils, (.sl 3 9 2 0 2 4), .nils, (.sl 3 10 1 0 1 10), (.sl 3 11 1 0 1 2), (qI 1000), (qI 500), (qI 0), (.sl 3 12 1 0 1 2), (.sl 3 13 0 0 0 6), (.bool true), (.sl 3 14 2 0 2 4), (qI 11)]
def s0 (F G : List Blk) : Stack := [[.cells 0 [], .cells 0 [], .cells 0 [], .cells 0 [], .cells 0 [], .cells 0 [], b0, .cells 0 []], [], F, G]
def s1 (F G : List Blk) : Stack := [[.cells 0 [], .cells 0 [], .cells 0 [], .cells 0 [], .cells 0 [], .cells 0 [], b1, .cells 0 []], [], F, G]
def s2 (F G : List Blk) : Stack := [[.cells 0 [], .cells 0 [], .cells 0 [], .cells 0 [], .cells 0 [], .cells 0 [], b1, .cells 1 [(qI 0)]], [], F, G]
def s3 (F G : List Blk) : Stack := [[.cells 0 [], .cells 0 [], .cells 0 [], .cells 0 [], .cells 0 [], .cells 0 [], b2, .cells 1 [(qI 0)]], [], F, G]
def s4 (F G : List Blk) : Stack := [[.cells 0 [], .cells 0 [], .cells 0 [], .cells 0 [], .cells 0 [], .cells 0 [], b2, .cells 2 [(qI 0), (qI 0)]], [], F, G]
def s5 (F G : List Blk) : Stack := [[.cells 0 [], .cells 0 [], .cells 0 [], .cells 0 [], .cells 0 [], .cells 0 [], b3, .cells 2 [(qI 0), (qI 0)]], [], F, G]
def s6 (F G : List Blk) : Stack := [[.cells 0 [], .cells 0 [], .cells 0 [], .cells 0 [], .cells 0 [], .cells 0 [], b3, b4], [], F, G]
def s7 (F G : List Blk) : Stack := [[.cells 0 [], .cells 0 [], .cells 0 [], .cells 0 [], .cells 0 [], .cells 0 [], b5, b4], [], F, G]
def s8 (F G : List Blk) : Stack := [[.cells 0 [], .cells 0 [], .cells 0 [], .cells 0 [], .cells 0 [], .cells 0 [], b5, b6], [], F, G]
def s9 (F G : List Blk) : Stack := [[b7, .cells 0 [], .cells 0 [], .cells 0 [], .cells 0 [], b8, b9, b6], [], F, G]
def s10 (F G : List Blk) : Stack := [[b7, .cells 0 [], .cells 0 [], .cells 0 [], .cells 0 [], b8, b9, b10], [], F, G]
def s11 (F G : List Blk) : Stack := [[b11, .cells 0 [], .cells 0 [], .cells 0 [], .cells 0 [], b12, b13, b10], [], F, G]
def s12 (F G : List Blk) : Stack := [[b11, .cells 0 [], .cells 0 [], .cells 0 [], .cells 0 [], b12, b13, b14], [], F, G]
def s13 (F G : List Blk) : Stack := [[b15, .cells 0 [], .cells 0 [], .cells 0 [], .cells 0 [], b16, b17, b14], [], F, G]
def s14 (F G : List Blk) : Stack := [[b15, .cells 0 [], .cells 0 [], .cells 0 [], .cells 0 [], b16, b17, b18], [], F, G]
def s15 (F G : List Blk) : Stack := [[b15, b19, .cells 0 [], .cells 0 [], .cells 0 [], b16, b20, b18], [], F, G]
def s16 (F G : List Blk) : Stack := [[b15, b19, .cells 0 [], .cells 0 [], .cells 0 [], b16, b20, b21], [], F, G]
def s17 (F G : List Blk) : Stack := [[b15, b19, b22, .cells 0 [], .cells 0 [], b16, b23, b21], [], F, G]
def s18 (F G : List Blk) : Stack := [[b15, b19, b22, .cells 0 [], .cells 0 [], b16, b23, b24], [], F, G]
def s19 (F G : List Blk) : Stack := [[b15, b19, b22, .cells 0 [], .cells 0 [], b16, b25, b24], [], F, G]
def s20 (F G : List Blk) : Stack := [[b15, b19, b22, .cells 0 [], .cells 0 [], b16, b25, b26], [], F, G]
def s21 (F G : List Blk) : Stack := [[b15, b19, b22, .cells 0 [], .cells 0 [], b16, b27, b26], [], F, G]
def s22 (F G : List Blk) : Stack := [[b15, b19, b22, .cells 0 [], .cells 0 [], b16, b27, b28], [], F, G]
def s23 (F G : List Blk) : Stack := [[b15, b19, b22, b29, .cells 0 [], b16, b30, b28], [], F, G]
def s24 (F G : List Blk) : Stack := [[b15, b19, b22, b29, .cells 0 [], b16, b30, b31], [], F, G]
def s25 (F G : List Blk) : Stack := [[b15, b19, b22, b29, b32, b16, b33, b31], [], F, G]
def s26 (F G : List Blk) : Stack := [[b15, b19, b22, b29, b32, b16, b33, b34, b35, .cells 0 [], .cells 0 [], .cells 0 [], .cells 0 [], .cells 0 [], .cells 0 [], b36, .cells 0 []], [], F, G]
def s27 (F G : List Blk) : Stack := [[b15, b19, b22, b29, b32, b16, b33, b34, b35, .cells 0 [], .cells 0 [], .cells 0 [], .cells 0 [], .cells 0 [], .cells 0 [], b37, .cells 0 []], [], F, G]
def s28 (F G : List Blk) : Stack := [[b15, b19, b22, b29, b32, b16, b33, b34, b35, .cells 0 [], .cells 0 [], .cells 0 [], .cells 0 [], .cells 0 [], .cells 0 [], b37, .cells 1 [(qI 0)]], [], F, G]
def s29 (F G : List Blk) : Stack := [[b15, b19, b22, b29, b32, b16, b33, b34, b35, .cells 0 [], .cells 0 [], .cells 0 [], .cells 0 [], .cells 0 [], .cells 0 [], b38, .cells 1 [(qI 0)]], [], F, G]
def s30 (F G : List Blk) : Stack := [[b15, b19, b22, b29, b32, b16, b33, b34, b35, .cells 0 [], .cells 0 [], .cells 0 [], .cells 0 [], .cells 0 [], .cells 0 [], b38, .cells 2 [(qI 0), (qI 0)]], [], F, G]
def s31 (F G : List Blk) : Stack := [[b15, b19, b22, b29, b32, b16, b33, b34, b35, .cells 0 [], .cells 0 [], .cells 0 [], .cells 0 [], .cells 0 [], .cells 0 [], b39, .cells 2 [(qI 0), (qI 0)]], [], F, G]
def s32 (F G : List Blk) : Stack := [[b15, b19, b22, b29, b32, b16, b33, b34, b35, .cells 0 [], .cells 0 [], .cells 0 [], .cells 0 [], .cells 0 [], .cells 0 [], b39, b4], [], F, G]
def s33 (F G : List Blk) : Stack := [[b15, b19, b22, b29, b32, b16, b33, b34, b35, b7, .cells 0 [], .cells 0 [], .cells 0 [], .cells 0 [], b8, b40, b4], [], F, G]
def s34 (F G : List Blk) : Stack := [[b15, b19, b22, b29, b32, b16, b33, b34, b35, b7, .cells 0 [], .cells 0 [], .cells 0 [], .cells 0 [], b8, b40, b6], [], F, G]
def s35 (F G : List Blk) : Stack := [[b15, b19, b22, b29, b32, b16, b33, b34, b35, b11, .cells 0 [], .cells 0 [], .cells 0 [], .cells 0 [], b12, b41, b6], [], F, G]
def s36 (F G : List Blk) : Stack := [[b15, b19, b22, b29, b32, b16, b33, b34, b35, b11, .cells 0 [], .cells 0 [], .cells 0 [], .cells 0 [], b12, b41, b10], [], F, G]
def s37 (F G : List Blk) : Stack := [[b15, b19, b22, b29, b32, b16, b33, b34, b35, b42, .cells 0 [], .cells 0 [], .cells 0 [], .cells 0 [], b43, b44, b10], [], F, G]
def s38 (F G : List Blk) : Stack := [[b15, b19, b22, b29, b32, b16, b33, b34, b35, b42, .cells 0 [], .cells 0 [], .cells 0 [], .cells 0 [], b43, b44, b14], [], F, G]
def s39 (F G : List Blk) : Stack := [[b15, b19, b22, b29, b32, b16, b33, b34, b35, b42, b19, .cells 0 [], .cells 0 [], .cells 0 [], b43, b45, b14], [], F, G]
def s40 (F G : List Blk) : Stack := [[b15, b19, b22, b29, b32, b16, b33, b34, b35, b42, b19, .cells 0 [], .cells 0 [], .cells 0 [], b43, b45, b18], [], F, G]
def s41 (F G : List Blk) : Stack := [[b15, b19, b22, b29, b32, b16, b33, b34, b35, b42, b19, b22, .cells 0 [], .cells 0 [], b43, b46, b18], [], F, G]
def s42 (F G : List Blk) : Stack := [[b15, b19, b22, b29, b32, b16, b33, b34, b35, b42, b19, b22, .cells 0 [], .cells 0 [], b43, b46, b21], [], F, G]
def s43 (F G : List Blk) : Stack := [[b15, b19, b22, b29, b32, b16, b33, b34, b35, b42, b19, b22, .cells 0 [], .cells 0 [], b43, b47, b21], [], F, G]
def s44 (F G : List Blk) : Stack := [[b15, b19, b22, b29, b32, b16, b33, b34, b35, b42, b19, b22, .cells 0 [], .cells 0 [], b43, b47, b48], [], F, G]
def s45 (F G : List Blk) : Stack := [[b15, b19, b22, b29, b32, b16, b33, b34, b35, b42, b19, b22, .cells 0 [], .cells 0 [], b43, b49, b48], [], F, G]
def s46 (F G : List Blk) : Stack := [[b15, b19, b22, b29, b32, b16, b33, b34, b35, b42, b19, b22, .cells 0 [], .cells 0 [], b43, b49, b50], [], F, G]
def s47 (F G : List Blk) : Stack := [[b15, b19, b22, b29, b32, b16, b33, b34, b35, b42, b19, b22, b29, .cells 0 [], b43, b51, b50], [], F, G]
def s48 (F G : List Blk) : Stack := [[b15, b19, b22, b29, b32, b16, b33, b34, b35, b42, b19, b22, b29, .cells 0 [], b43, b51, b52], [], F, G]
def s49 (F G : List Blk) : Stack := [[b15, b19, b22, b29, b32, b16, b33, b34, b35, b42, b19, b22, b29, .cells 0 [], b43, b53, b52], [], F, G]
def wm0 (F G : List Blk) : Memo := ⟨i_logbook_book_line, [(.ref 3 6 0 0), (qI 0), (.str [102, 105, 101, 108, 100, 32, 50, 32, 49, 32, 49, 32, 52])], s0 F G, (qI 0), s1 F G⟩
def wm1 (F G : List Blk) : Memo := ⟨i_logbook_book_line, [(.ref 3 6 0 0), (qI 1), (.str [116, 97, 98, 108, 101, 32, 49, 48, 48, 32, 49, 48, 49, 32, 52, 49, 57, 32, 50, 54, 55, 54, 32, 49, 53, 48, 32, 49, 53, 48, 32, 52, 55, 54, 32, 54, 51, 50, 32, 50, 55, 52, 54, 32, 51, 48, 48, 32, 50, 48, 48, 32, 49, 53, 53, 53, 32, 56, 53, 50, 32, 50, 55, 57, 51, 32, 54, 48, 48])], s2 F G, (qI 0), s3 F G⟩
def wm2 (F G : List Blk) : Memo := ⟨i_logbook_book_line, [(.ref 3 6 0 0), (qI 2), (.str [98, 101, 100, 32, 49, 48, 48, 48, 32, 48, 32, 56, 48, 48])], s4 F G, (qI 0), s5 F G⟩
def wm3 (F G : List Blk) : Memo := ⟨i_logbook_book_line, [(.ref 3 6 0 0), (qI 3), (.str [119, 101, 108, 108, 32, 48, 32, 53, 48, 48, 32, 53])], s6 F G, (qI 0), s7 F G⟩
def wm4 (F G : List Blk) : Memo := ⟨i_logbook_book_line, [(.ref 3 6 0 0), (qI 4), (.str [109, 111, 100, 101, 108, 32, 97, 32, 56, 48, 48, 48, 32, 56, 48, 48, 48, 32, 53, 48, 48, 32, 52, 48, 48, 32, 57, 48, 48, 32, 52, 48, 48, 32, 48, 32, 49, 48])], s8 F G, (qI 0), s9 F G⟩
def wm5 (F G : List Blk) : Memo := ⟨i_logbook_book_line, [(.ref 3 6 0 0), (qI 5), (.str [109, 111, 100, 101, 108, 32, 98, 32, 56, 48, 48, 48, 32, 56, 48, 48, 48, 32, 53, 48, 48, 32, 52, 48, 48, 32, 57, 48, 48, 32, 53, 48, 48, 32, 48, 32, 49, 48])], s10 F G, (qI 0), s11 F G⟩
def wm6 (F G : List Blk) : Memo := ⟨i_logbook_book_line, [(.ref 3 6 0 0), (qI 6), (.str [108, 111, 103, 32, 116, 49, 32, 50, 32, 51, 57, 48, 32, 52, 49, 48, 32, 49, 32, 49])], s12 F G, (qI 0), s13 F G⟩
def wm7 (F G : List Blk) : Memo := ⟨i_logbook_book_line, [(.ref 3 6 0 0), (qI 7), (.str [114, 117, 108, 101, 32, 48, 32, 48, 32, 48, 32, 57, 32, 57, 32, 57, 32, 50, 48, 32, 53, 32, 49, 32, 49])], s14 F G, (qI 0), s15 F G⟩
def wm8 (F G : List Blk) : Memo := ⟨i_logbook_book_line, [(.ref 3 6 0 0), (qI 8), (.str [113, 117, 97, 107, 101, 32, 49, 32, 49, 32, 49, 32, 50, 53])], s16 F G, (qI 0), s17 F G⟩
def wm9 (F G : List Blk) : Memo := ⟨i_logbook_book_line, [(.ref 3 6 0 0), (qI 9), (.str [116, 105, 99, 107, 32, 45, 49, 48, 48])], s18 F G, (qI 0), s19 F G⟩
def wm10 (F G : List Blk) : Memo := ⟨i_logbook_book_line, [(.ref 3 6 0 0), (qI 10), (.str [116, 105, 99, 107, 32, 53, 48])], s20 F G, (qI 0), s21 F G⟩
def wm11 (F G : List Blk) : Memo := ⟨i_logbook_book_line, [(.ref 3 6 0 0), (qI 11), (.str [117, 110, 105, 116, 32, 48, 32, 49, 48, 48, 32, 52, 48, 48])], s22 F G, (qI 0), s23 F G⟩
def wm12 (F G : List Blk) : Memo := ⟨i_logbook_book_line, [(.ref 3 6 0 0), (qI 12), (.str [115, 101, 108, 108, 32, 48, 32, 48, 32, 48, 32, 51])], s24 F G, (qI 0), s25 F G⟩
def wm13 (F G : List Blk) : Memo := ⟨i_logbook_book_line, [(.ref 3 15 0 0), (qI 0), (.str [102, 105, 101, 108, 100, 32, 50, 32, 49, 32, 49, 32, 52])], s26 F G, (qI 0), s27 F G⟩
def wm14 (F G : List Blk) : Memo := ⟨i_logbook_book_line, [(.ref 3 15 0 0), (qI 1), (.str [116, 97, 98, 108, 101, 32, 49, 48, 48, 32, 49, 48, 49, 32, 52, 49, 57, 32, 50, 54, 55, 54, 32, 49, 53, 48, 32, 49, 53, 48, 32, 52, 55, 54, 32, 54, 51, 50, 32, 50, 55, 52, 54, 32, 51, 48, 48, 32, 50, 48, 48, 32, 49, 53, 53, 53, 32, 56, 53, 50, 32, 50, 55, 57, 51, 32, 54, 48, 48])], s28 F G, (qI 0), s29 F G⟩
def wm15 (F G : List Blk) : Memo := ⟨i_logbook_book_line, [(.ref 3 15 0 0), (qI 2), (.str [98, 101, 100, 32, 49, 48, 48, 48, 32, 48, 32, 56, 48, 48])], s30 F G, (qI 0), s31 F G⟩
def wm16 (F G : List Blk) : Memo := ⟨i_logbook_book_line, [(.ref 3 15 0 0), (qI 3), (.str [109, 111, 100, 101, 108, 32, 97, 32, 56, 48, 48, 48, 32, 56, 48, 48, 48, 32, 53, 48, 48, 32, 52, 48, 48, 32, 57, 48, 48, 32, 52, 48, 48, 32, 48, 32, 49, 48])], s32 F G, (qI 0), s33 F G⟩
def wm17 (F G : List Blk) : Memo := ⟨i_logbook_book_line, [(.ref 3 15 0 0), (qI 4), (.str [109, 111, 100, 101, 108, 32, 98, 32, 56, 48, 48, 48, 32, 56, 48, 48, 48, 32, 53, 48, 48, 32, 52, 48, 48, 32, 57, 48, 48, 32, 53, 48, 48, 32, 48, 32, 49, 48])], s34 F G, (qI 0), s35 F G⟩
def wm18 (F G : List Blk) : Memo := ⟨i_logbook_book_line, [(.ref 3 15 0 0), (qI 5), (.str [108, 111, 103, 32, 116, 49, 32, 50, 32, 51, 57, 48, 32, 52, 49, 48, 32, 49, 32, 49])], s36 F G, (qI 0), s37 F G⟩
def wm19 (F G : List Blk) : Memo := ⟨i_logbook_book_line, [(.ref 3 15 0 0), (qI 6), (.str [114, 117, 108, 101, 32, 48, 32, 48, 32, 48, 32, 57, 32, 57, 32, 57, 32, 50, 48, 32, 53, 32, 49, 32, 49])], s38 F G, (qI 0), s39 F G⟩
def wm20 (F G : List Blk) : Memo := ⟨i_logbook_book_line, [(.ref 3 15 0 0), (qI 7), (.str [113, 117, 97, 107, 101, 32, 49, 32, 49, 32, 49, 32, 50, 53])], s40 F G, (qI 0), s41 F G⟩
def wm21 (F G : List Blk) : Memo := ⟨i_logbook_book_line, [(.ref 3 15 0 0), (qI 8), (.str [116, 105, 99, 107, 32, 45, 49, 48, 48])], s42 F G, (qI 1), s43 F G⟩
def wm22 (F G : List Blk) : Memo := ⟨i_logbook_book_line, [(.ref 3 15 0 0), (qI 9), (.str [116, 105, 99, 107, 32, 53, 48])], s44 F G, (qI 1), s45 F G⟩
def wm23 (F G : List Blk) : Memo := ⟨i_logbook_book_line, [(.ref 3 15 0 0), (qI 10), (.str [117, 110, 105, 116, 32, 48, 32, 49, 48, 48, 32, 52, 48, 48])], s46 F G, (qI 0), s47 F G⟩
def wm24 (F G : List Blk) : Memo := ⟨i_logbook_book_line, [(.ref 3 15 0 0), (qI 11), (.str [115, 101, 108, 108, 32, 48, 32, 48, 32, 48, 32, 51])], s48 F G, (qI 8), s49 F G⟩
end Go.Proofs.YtfgljaglidhjiaaGreatDoor

/-
  The day's lines, part 1.
-/
set_option linter.unusedVariables false
set_option maxRecDepth 1000000
namespace Go.Proofs.YtfgljaglidhjiaaGreatDoor
open Go Go.Abs
theorem wk0 : (wm0 [] []).Ok T := lim_iff.2 ⟨300, by kernel_rfl⟩
theorem wk5 : (wm5 [] []).Ok T := lim_iff.2 ⟨300, by kernel_rfl⟩
theorem wk10 : (wm10 [] []).Ok T := lim_iff.2 ⟨300, by kernel_rfl⟩
theorem wk15 : (wm15 [] []).Ok T := lim_iff.2 ⟨300, by kernel_rfl⟩
theorem wk20 : (wm20 [] []).Ok T := lim_iff.2 ⟨300, by kernel_rfl⟩
end Go.Proofs.YtfgljaglidhjiaaGreatDoor
