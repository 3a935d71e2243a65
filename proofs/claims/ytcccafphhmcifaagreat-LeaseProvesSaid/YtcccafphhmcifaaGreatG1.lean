/-
  Springs of layer 11: what is valid, flows, harm, room, of the program.
-/
import Derived.Test.YtcccafphhmcifaaGreatD2
import Derived.Test.YtcccafphhmcifaaGreatSpringSpec
set_option linter.unusedVariables false
set_option linter.unusedSimpArgs false
namespace Go.Proofs.YtcccafphhmcifaaGreat
open Go Go.Abs Go.Lease
variable {σ : Stack}

@[simp] def spsD (l : List Sp) : D := .lst l.length (l.flatMap Sp.enc)
@[simp] theorem cs {l : List Sp} : D.cleanL (l.flatMap Sp.enc) = true := k_clean (fun x => by simp [k_clean]) _
@[simp] theorem cg {l : List Rg} : D.cleanL (l.flatMap Rg.enc) = true := k_clean (fun x => by simp) _
theorem sp_at {l : List Sp} {i : Nat} {s : Sp} (hx : l[i]? = some s) : ((l.flatMap Sp.enc).drop (i * 3)).take 3 = [.int .i64 s.flow, .int .i64 s.least, .lst s.l.length (s.l.flatMap Rg.enc)] := by
  have := flat_at (f := Sp.enc) (w := 3) (fun _ => rfl) hx
  simpa using this
theorem rg_at {l : List Rg} {i : Nat} {r : Rg} (hx : l[i]? = some r) : ((l.flatMap Rg.enc).drop (i * 2)).take 2 = [.int .i64 r.lo, .int .i64 r.hi] := by
  have := flat_at (f := Rg.enc) (w := 2) (fun _ => rfl) hx
  simpa using this
theorem sp_hd {l : List Sp} (h : 1 ≤ (l.length : Int)) : ∃ s0 l', l = s0 :: l' ∧ (l.flatMap Sp.enc).take 3 = [.int .i64 s0.flow, .int .i64 s0.least, .lst s0.l.length (s0.l.flatMap Rg.enc)] ∧ wid l = s0.l.length := by
  cases l with
  | nil => simp at h
  | cons s l => exact ⟨s, l, rfl, by simp, rfl⟩
theorem C_sp11 {r : Rg} : lim T (.call false i_lease_springs_1_1 [.agg [.int .i64 r.lo, .int .i64 r.hi]] σ) = some (.val (.bool (rgOk r)) σ) := by
  refine call_of T_lease_springs_1_1 e_lease_springs_1_1 rfl ?_
  by_cases h1 : 0 ≤ r.lo <;> by_cases h2 : r.lo ≤ r.hi <;> simp [-List.length_flatMap, -List.map_take, e_lease_springs_1_1_r0, e_lease_springs_1_1_r1, h1, h2, rgOk]
def eltRg : Elt Rg := eltAgg 2 Rg.enc fun _ => rfl
def eltSp : Elt Sp := eltAgg 3 Sp.enc fun _ => rfl
def Some15 (l : List Sp) : Prop := l.length ≤ 15 ∧ ∀ s ∈ l, s.l.length ≤ 25
theorem C_sp1 {l : List Sp} (hl : 1 ≤ (l.length : Int)) {s : Sp} (hs : s.l.length ≤ 25) : lim T (.call false i_lease_springs_1 [.agg [.int .i64 s.flow, .int .i64 s.least, .lst s.l.length (s.l.flatMap Rg.enc)], .cref [.lst l.length (l.flatMap Sp.enc)]] σ) = some (.val (.bool (spOk (wid l) s)) σ) := by
  refine call_of T_lease_springs_1 e_lease_springs_1 rfl ?_
  obtain ⟨s0, l', rfl, h0, hw⟩ := sp_hd hl
  generalize hL : s0 :: l' = l at *
  have hA := fun σ => all_of (σ := σ) eltRg T_lease_all_lease_Range T_lease_all_lease_Range_1 T_slices_ContainsFunc_lease_Range T_slices_IndexFunc_lease_Range (l := s.l) (p := rgOk) (fv := .fn i_lease_springs_1_1 [] []) (by omega) (.fn fun r _ σ => C_sp11) rfl
  have hE : eltRg.enc = Rg.enc := rfl
  rw [hE] at hA
  have hl' : 0 < l.length := by omega
  cases h1 : inn s.flow 0 1000000000
  · simp [-List.length_flatMap, -List.map_take, e_lease_springs_1_r0, e_lease_springs_1_r1, D_within, h1, spOk]
  cases h2 : inn s.least 0 1000000000
  · simp [-List.length_flatMap, -List.map_take, e_lease_springs_1_r0, e_lease_springs_1_r1, D_within, h1, h2, spOk]
  by_cases h3 : s.l.length = s0.l.length
  · simp [-List.length_flatMap, -List.map_take, e_lease_springs_1_r0, e_lease_springs_1_r1, D_within, h1, h2, h0, hl', hw, spOk, ← h3, hA]
  · have h4 : ¬ (s.l.length : Int) = s0.l.length := by omega
    simp [-List.length_flatMap, -List.map_take, e_lease_springs_1_r0, e_lease_springs_1_r1, D_within, h1, h2, h3, h4, h0, hl', hw, spOk]
theorem C_springs {l : List Sp} (hc : Some15 l) : lim T (.call false i_lease_springs [spsD l] σ) = some (.val (.bool (spsOk l)) σ) := by
  refine call_of T_lease_springs e_lease_springs rfl ?_
  cases h1 : inn l.length 1 10
  · simp [-List.length_flatMap, -List.map_take, e_lease_springs_r0, e_lease_springs_r1, e_lease_springs_r2, e_lease_springs_r3, D_within, h1, spsOk]
  have hi := inn_iff.1 h1
  have hA := fun σ => all_of (σ := σ) eltSp T_lease_all_lease_Spring T_lease_all_lease_Spring_1 T_slices_ContainsFunc_lease_Spring T_slices_IndexFunc_lease_Spring (l := l) (p := spOk (wid l)) (fv := .fn i_lease_springs_1 [] [.cref [.lst l.length (l.flatMap Sp.enc)]]) (by have := hc.1; omega) (.fn fun s hs σ => C_sp1 hi.1 (hc.2 s hs)) rfl
  have hE : eltSp.enc = Sp.enc := rfl
  rw [hE] at hA
  obtain ⟨s0, l', hL, h0, hw⟩ := sp_hd hi.1
  have hl' : 0 < l.length := by omega
  cases h2 : inn (wid l) 1 20
  · rw [hw] at h2
    simp [-List.length_flatMap, -List.map_take, e_lease_springs_r0, e_lease_springs_r1, e_lease_springs_r2, e_lease_springs_r3, D_within, h1, h2, h0, hl', hw, spsOk]
  · rw [hw] at h2
    simp [-List.length_flatMap, -List.map_take, e_lease_springs_r0, e_lease_springs_r1, e_lease_springs_r2, e_lease_springs_r3, D_within, h1, h2, h0, hl', hA, hw, spsOk]
theorem C_taking1 {n : Int} : lim T (.call false i_lease_taking_1 [.int .i64 n] σ) = some (.val (.bool (inn n 0 1000000)) σ) := by
  refine call_of T_lease_taking_1 e_lease_taking_1 rfl ?_
  simp [-List.length_flatMap, -List.map_take, e_lease_taking_1_r0, e_lease_taking_1_r1, D_within]
def takE (l : List Sp) (ts : List Int) : Int := if spsOk l then (if tkOk l ts then 0 else 2) else 1
theorem C_taking {l : List Sp} (hc : Some15 l) {ts : List Int} (ht : ts.length ≤ 1000) : lim T (.call false i_lease_taking [spsD l, .lst ts.length (ts.flatMap intE)] σ) = some (.val (.int .i64 (takE l ts)) σ) := by
  refine call_of T_lease_taking e_lease_taking rfl ?_
  have hS := fun σ => C_springs (σ := σ) hc
  simp only [spsD] at hS
  unfold takE
  cases h1 : spsOk l
  · simp [-List.length_flatMap, -List.map_take, e_lease_taking_r0, e_lease_taking_r1, e_lease_taking_r2, e_lease_taking_r3, e_lease_taking_r4, e_lease_taking_r5, hS, h1]
  have hs1 := spsOk_iff.1 h1
  obtain ⟨s0, l', hL, h0, hw⟩ := sp_hd hs1.1.1
  have hl' : 0 < l.length := by omega
  have hA := fun σ => D_allint (σ := σ) (l := ts) (p := fun n => inn n 0 1000000) (fv := .fn i_lease_taking_1 [] []) (by omega) (.fn fun n _ σ => C_taking1) rfl
  by_cases h2 : ts.length = s0.l.length
  · cases h3 : allB ts (fun n => inn n 0 1000000)
    · simp [-List.length_flatMap, -List.map_take, e_lease_taking_r0, e_lease_taking_r1, e_lease_taking_r2, e_lease_taking_r3, e_lease_taking_r4, e_lease_taking_r5, hS, h1, hl', h0, ← h2, hA, h3, tkOk, hw]
    · simp [-List.length_flatMap, -List.map_take, e_lease_taking_r0, e_lease_taking_r1, e_lease_taking_r2, e_lease_taking_r3, e_lease_taking_r4, e_lease_taking_r5, hS, h1, hl', h0, ← h2, hA, h3, tkOk, hw]
  · have h3 : ¬ (ts.length : Int) = s0.l.length := by omega
    simp [-List.length_flatMap, -List.map_take, e_lease_taking_r0, e_lease_taking_r1, e_lease_taking_r2, e_lease_taking_r3, e_lease_taking_r4, e_lease_taking_r5, hS, h1, hl', h0, h2, h3, tkOk, hw]

/-! ### Flows -/

theorem L_behind {s : Sp} {ts : List Int} (hl : ts.length = s.l.length) (h20 : ts.length ≤ 20) (ht : ∀ t ∈ ts, 0 ≤ t ∧ t ≤ 1000000) (hr : ∀ r ∈ s.l, 0 ≤ r.lo ∧ r.lo ≤ r.hi ∧ r.hi ≤ 1000) : ∀ (m i : Nat) (lo hi : Int), i + m = ts.length → -1000000000 * i ≤ lo → lo ≤ 1000000000000 → -1000000000 * i ≤ hi → hi ≤ 1000000000000 →
    WL T [2, 4, 5, 15, 16, 17] false f_lease_Spring_behind_l7 [(2, .cref [.int .i64 s.flow, .int .i64 s.least, .lst s.l.length (s.l.flatMap Rg.enc)]), (4, .own 0 [.int .i64 0, .int .i64 0]), (5, .own 0 [.int .i64 lo, .int .i64 hi]), (15, .lst ts.length (ts.flatMap intE)), (16, .int .i64 ts.length), (17, .int .i64 i)] σ
      (fun x e σ' => σ' = σ ∧ x = .exit 0 ∧ get e 4 = .own 0 [.int .i64 0, .int .i64 0] ∧ get e 5 = .own 0 [.int .i64 (loF (ts.drop i) (s.l.drop i) lo), .int .i64 (hiF (ts.drop i) (s.l.drop i) hi)])
  | 0, i, lo, hi, hi', _, _, _, _ => by
    refine WL_step e_lease_Spring_behind_l7 ?_
    have h1 : ¬ i < ts.length := by omega
    have h2 : ts.drop i = [] := List.drop_eq_nil_of_le (by omega)
    rw [h2]
    simp [-List.length_flatMap, -List.map_take, e_lease_Spring_behind_r0, e_lease_Spring_behind_r1, e_lease_Spring_behind_r2, e_lease_Spring_behind_r3, e_lease_Spring_behind_r4, e_lease_Spring_behind_r5, e_lease_Spring_behind_r6, e_lease_Spring_behind_r8, h1, loF, hiF]
  | m + 1, i, lo, hi, hi', l0, l1, h0, h1' => by
    refine WL_step e_lease_Spring_behind_l7 ?_
    have h1 : i < ts.length := by omega
    have h2 : i < s.l.length := by omega
    obtain ⟨t, hx⟩ : ∃ x, ts[i]? = some x := ⟨_, List.getElem?_eq_getElem h1⟩
    obtain ⟨r, hy⟩ : ∃ x, s.l[i]? = some x := ⟨_, List.getElem?_eq_getElem h2⟩
    have htb := ht t (List.mem_of_getElem? hx)
    have hrb := hr r (List.mem_of_getElem? hy)
    have a1 := int_at hx
    have a2 := rg_at hy
    have m1 := mulT htb (r := r.hi) (by omega)
    have m2 := mulT htb (r := r.lo) (by omega)
    have w1 := wnext h1 (by omega)
    have w2 := w64 (n := t * r.hi) (by omega)
    have w3 := w64 (n := lo - t * r.hi) (by omega)
    have w4 := w64 (n := t * r.lo) (by omega)
    have w5 := w64 (n := hi - t * r.lo) (by omega)
    have ih := L_behind hl h20 ht hr m (i + 1) (lo - t * r.hi) (hi - t * r.lo) (by omega) (by omega) (by omega) (by omega) (by omega)
    rw [dropS hx, dropS hy]
    simp [-List.length_flatMap, -List.map_take, e_lease_Spring_behind_r0, e_lease_Spring_behind_r1, e_lease_Spring_behind_r2, e_lease_Spring_behind_r3, e_lease_Spring_behind_r4, e_lease_Spring_behind_r5, e_lease_Spring_behind_r6, e_lease_Spring_behind_r8, h1, h2, a1, a2, w1, w2, w3, w4, w5]
    exact WL.to ih (by simp) rfl fun x e σ hh => by simpa [loF, hiF] using hh
theorem C_behind {l : List Sp} (h1 : spsOk l = true) {ts : List Int} (h2 : tkOk l ts = true) {s : Sp} (hs : s ∈ l) : lim T (.call false i_lease_Spring_behind [.agg [.int .i64 s.flow, .int .i64 s.least, .lst s.l.length (s.l.flatMap Rg.enc)], .lst ts.length (ts.flatMap intE)] σ) = some (.val (.agg [.int .i64 (behLo s ts), .int .i64 (behHi s ts)]) σ) := by
  refine call_of T_lease_Spring_behind e_lease_Spring_behind rfl ?_
  have hs1 := spsOk_iff.1 h1
  have ht1 := tkOk_iff.1 h2
  have hk := spOk_iff.1 (hs1.2.2 s hs)
  have w1 := w64 (n := 1000 * s.flow) (by omega)
  simp [-List.length_flatMap, -List.map_take, e_lease_Spring_behind_r0, e_lease_Spring_behind_r1, e_lease_Spring_behind_r2, e_lease_Spring_behind_r3, e_lease_Spring_behind_r4, e_lease_Spring_behind_r5, e_lease_Spring_behind_r6, e_lease_Spring_behind_r8, w1]
  refine WL.to (L_behind (σ := [] :: σ) (by omega) (by omega) ht1.2 hk.2.2.2 ts.length 0 (1000 * s.flow) (1000 * s.flow) (by omega) (by omega) (by omega) (by omega) (by omega)) (by simp) rfl ?_
  rintro x e σ' ⟨rfl, rfl, g4, g5⟩
  simp [-List.length_flatMap, -List.map_take, e_lease_Spring_behind_r8, g4, g5, behLo, behHi]
end Go.Proofs.YtcccafphhmcifaaGreat
