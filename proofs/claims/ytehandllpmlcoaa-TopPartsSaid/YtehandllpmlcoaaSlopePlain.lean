/-
  A block whose pressure rises evenly: plain Lean.
-/
import Derived.Test.YtehandllpmlcoaaRockSpec
set_option linter.unusedVariables false
set_option linter.unusedSimpArgs false
namespace Go.Rock
open Go Go.Abs

def three : List Rw := [⟨100, 101, 419, 2676, 150⟩, ⟨150, 476, 632, 2746, 300⟩, ⟨200, 1555, 852, 2793, 600⟩]
def stillB : Bed := ⟨⟨1, 1, 1, 4⟩, three, 1, 0, 0, []⟩
def stillM : Mdl := ⟨[109], [1000, 0, 2, 0]⟩
theorem still_bd : Bd stillB stillM = true := by decide
theorem still_plan : planE stillB [[]] = 0 := by decide
theorem still_run : run stillB stillM [[]] = some ([[⟨1000, 2000, 0⟩], [⟨1000, 2000, 0⟩]], [[]]) := by rfl
def aloneB (h k : Int) : Bed := ⟨⟨1, 1, 1, 4⟩, three, k * h, 0, 0, [⟨0, 0, 0⟩]⟩
def aloneM (h : Int) : Mdl := ⟨[109], [h, 0, 0, 0]⟩
theorem three_ok : tabOk three = true := by decide
theorem alone_bd {h k : Int} (hh : 1000 ≤ h ∧ h ≤ 2000) (hk : 1 ≤ k ∧ k ≤ 50) : Bd (aloneB h k) (aloneM h) = true := by
  have h1 : 1 ≤ k * h ∧ k * h ≤ 100000 := by
    have := Int.mul_le_mul hk.2 hh.2 (by omega) (by omega)
    have := Int.mul_le_mul hk.1 hh.1 (by omega) (by omega)
    omega
  have e1 : inn (k * h) 1 100000 = true := inn_iff.2 h1
  have e2 : inn h 1000 100000 = true := inn_iff.2 ⟨by omega, by omega⟩
  have e3 : inn h (-100000) 100000 = true := inn_iff.2 ⟨by omega, by omega⟩
  have e4 : named [109] = true := by decide
  have e5 : Fld.valid ⟨1, 1, 1, 4⟩ = true := by decide
  have e6 : Fld.size ⟨1, 1, 1, 4⟩ = 1 := by decide
  simp [Bd, Bed.valid, Bed.ok1, aloneB, aloneM, e1, three_ok, e5, wellsOk, Bore.ok, Bed.size, e6, fits, checkModels, Fld.models, Fld.each, Fld.model, e4, allB, e3, kindL, Bed.n, e2]
  decide
theorem alone_plan {h k q : Int} (hq : 0 ≤ q ∧ q ≤ 1000) : planE (aloneB h k) [[-10000], [q]] = 0 := by
  have e1 : inn q (-100000) 100000 = true := inn_iff.2 ⟨by omega, by omega⟩
  have e2 : inn (-10000) (-100000) 100000 = true := by decide
  simp [planE, firstE, ratesE, aloneB, allB, e1, e2]
theorem alone_run {h k q : Int} (hh : 1000 ≤ h ∧ h ≤ 2000) (hq : 0 ≤ q ∧ q ≤ 1000) :
    run (aloneB h k) (aloneM h) [[-10000], [q]] = some ([[⟨h, 0, 0⟩], [⟨h + 10000, 0, 0⟩], [⟨h + 10000 - q, 0, 0⟩]], [[⟨0, 0, 0⟩], [⟨q, 0, 0⟩]]) := by
  have hl : links (aloneB h k) = [] := by simp [links, Bed.n, Bed.size, Fld.size, aloneB, linksAt, List.range_succ, Nat.mod_one]
  have hn : (aloneB h k).n = 1 := rfl
  have hf : ∀ s, flows (aloneB h k) (aloneM h) s = [] := fun s => by simp [flows, hl]
  have h0 : firstSt (aloneB h k) (aloneM h) = [⟨h, 0, 0⟩] := by
    simp [firstSt, hn, hold, warm, kindAt, aloneM]
  have hsz : (aloneB h k).size = 1 := rfl
  have t1 : tick (aloneB h k) (aloneM h) [⟨h, 0, 0⟩] [-10000] = some ([⟨h + 10000, 0, 0⟩], [⟨0, 0, 0⟩]) := by
    have hN : nextSt (aloneB h k) (aloneM h) [⟨h, 0, 0⟩] [-10000] = [⟨h + 10000, 0, 0⟩] := by
      simp only [nextSt, hf, List.foldl_nil]
      simp [aloneB, wellMove, moveAt, blkAt, Blk.move, Bore.given, fed, feed, kindAt, aloneM, List.range_succ, Bed.n, Bed.size, Fld.size]
    have hS : stateOk (aloneB h k) [⟨h + 10000, 0, 0⟩] = true := by
      simp [stateOk, hsz, allB, Blk.valid, inn]; omega
    simp only [tick, hN, hS, if_true]
    simp [yieldsOf, aloneB, wellYield]
  have hd : (h + 10000).tdiv 8 = (h + 10000) / 8 := Int.tdiv_eq_ediv_of_nonneg (by omega)
  have hm : min q ((h + 10000).tdiv 8) = q := by rw [hd]; omega
  have hq0 : ¬ q < 0 := by omega
  have hz : ∀ a : Int, (0 : Int).tdiv a = 0 := fun a => Int.zero_tdiv a
  have t2 : tick (aloneB h k) (aloneM h) [⟨h + 10000, 0, 0⟩] [q] = some ([⟨h + 10000 - q, 0, 0⟩], [⟨q, 0, 0⟩]) := by
    have hN : nextSt (aloneB h k) (aloneM h) [⟨h + 10000, 0, 0⟩] [q] = [⟨h + 10000 - q, 0, 0⟩] := by
      simp only [nextSt, hf, List.foldl_nil]
      simp [aloneB, wellMove, wellYield, moveAt, blkAt, Blk.move, Blk.out, hq0, hm, fed, feed, kindAt, aloneM, List.range_succ, Bed.n, Bed.size, Fld.size]
      omega
    have hS : stateOk (aloneB h k) [⟨h + 10000 - q, 0, 0⟩] = true := by
      simp [stateOk, hsz, allB, Blk.valid, inn]; omega
    simp only [tick, hN, hS, if_true]
    simp [yieldsOf, aloneB, wellYield, hq0, blkAt, Blk.out, hm]
  simp only [run, h0, runFrom, t1, t2]
  rfl
theorem alone_press {h k x : Int} (hh : 1000 ≤ h ∧ h ≤ 2000) (hx : 1 ≤ x) : pressures (aloneB h k) (aloneM h) [⟨x, 0, 0⟩] = [max 0 (k * (x - h))] := by
  have e1 : down (k * h * (x - h)) h = k * (x - h) := by
    unfold down
    rw [Int.mul_right_comm]
    exact Int.mul_ediv_cancel _ (by omega)
  have e2 : ¬ 419 * x ≤ 0 := by omega
  have e3 : ¬ 632 * x ≤ 0 := by omega
  have e4 : ¬ 852 * x ≤ 0 := by omega
  have e5 : weight (aloneB h k) 0 = 0 := by simp [weight, aloneB]
  have e6 : hold (aloneB h k) (aloneM h) 0 = h := by simp [hold, kindAt, aloneM]
  simp only [pressures, List.length_singleton, List.range_one, List.map_cons, List.map_nil, pressure, e5, e6]
  simp [aloneB, three, pressStep, blkAt, e1, e2, e3, e4]
theorem alone_ok {h k x : Int} (hx : 1 ≤ x ∧ x ≤ 1000000) : stateOk (aloneB h k) [⟨x, 0, 0⟩] = true := by
  have hsz : (aloneB h k).size = 1 := rfl
  simp [stateOk, hsz, allB, Blk.valid, inn]; omega
end Go.Rock
