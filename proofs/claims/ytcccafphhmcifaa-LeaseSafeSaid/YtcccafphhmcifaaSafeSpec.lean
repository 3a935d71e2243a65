/-
  Layer 11 in plain Lean: what pulls may be; what the room does. No program in sight.
-/
import Derived.Test.YtcccafphhmcifaaSpringSpec
set_option linter.unusedVariables false
set_option linter.unusedSimpArgs false
namespace Go.Lease
open Go Go.Abs

@[simp] def u16E (n : Int) : List D := [.int .u16 n]
def pullF (qs : List Int) (i k : Nat) (r : Rg) : Int := r.lo + qs.getD ((i + k) % qs.length) 0 % (r.hi - r.lo + 1)
def qL (qs : List Int) (i : Nat) (s : Sp) : List Int := s.l.mapIdx fun k r => pullF qs i k r
theorem pull_in {qs : List Int} {i k : Nat} {r : Rg} (h : r.lo ≤ r.hi) : r.lo ≤ pullF qs i k r ∧ pullF qs i k r ≤ r.hi := by
  unfold pullF
  have h1 := Int.emod_nonneg (qs.getD ((i + k) % qs.length) 0) (show r.hi - r.lo + 1 ≠ 0 by omega)
  have h2 := Int.emod_lt_of_pos (qs.getD ((i + k) % qs.length) 0) (show 0 < r.hi - r.lo + 1 by omega)
  omega
theorem qL_len {qs : List Int} {i : Nat} {s : Sp} : (qL qs i s).length = s.l.length := by simp [qL]
theorem qL_get {qs : List Int} {i k : Nat} {s : Sp} {r : Rg} (h : s.l[k]? = some r) : (qL qs i s)[k]? = some (pullF qs i k r) := by simp [qL, h]
/-- A flow lies within its range. -/
theorem flow_beh {l : List Sp} {ts : List Int} (h1 : spsOk l = true) (h2 : tkOk l ts = true) {s : Sp} (hs : s ∈ l) (qs : List Int) (i : Nat) : behLo s ts ≤ flowF ts (qL qs i s) (1000 * s.flow) ∧ flowF ts (qL qs i s) (1000 * s.flow) ≤ behHi s ts := by
  have hs1 := spsOk_iff.1 h1
  have ht1 := tkOk_iff.1 h2
  have hk := spOk_iff.1 (hs1.2.2 s hs)
  refine flow_in ts s.l (qL qs i s) _ _ _ (fun t ht => (ht1.2 t ht).1) (by omega) qL_len (fun k r q hr hq => ?_) (Int.le_refl _) (Int.le_refl _)
  rw [qL_get hr] at hq
  cases hq
  exact pull_in (hk.2.2.2 r (List.mem_of_getElem? hr)).2.1
theorem set_ok {l : List Sp} {ts : List Int} (h2 : tkOk l ts = true) {n : Nat} {x : Int} (hx : 0 ≤ x ∧ x ≤ 1000000) : tkOk l (ts.set n x) = true := by
  have ht1 := tkOk_iff.1 h2
  refine tkOk_iff.2 ⟨by simpa using ht1.1, fun y hy => ?_⟩
  rcases List.mem_or_eq_of_mem_set hy with h | h
  · exact ht1.2 y h
  · omega
theorem room_bd {l : List Sp} {ts : List Int} {n : Nat} {a : Int} (ha : 0 ≤ a) (hno : ∀ s ∈ l, harmP ts s = false) : 0 ≤ roomF ts n l a ∧ roomF ts n l a ≤ a := by
  refine ⟨?_, (roomF_le l a).1⟩
  rcases roomF_is (ts := ts) (k := n) l a with h | ⟨s, hs, h3, h4⟩
  · omega
  · rw [h4]
    have := hno s hs
    simp only [harmP, decide_eq_false_iff_not] at this
    exact Int.ediv_nonneg (by omega) (by omega)
/-- With the room taken nothing is harmed. -/
theorem room_safe {l : List Sp} {ts : List Int} (h1 : spsOk l = true) (h2 : tkOk l ts = true) {n : Nat} {t a : Int} (ht : ts[n]? = some t) (ha : 0 ≤ a) (hno : ∀ s ∈ l, harmP ts s = false) : ∀ s ∈ l, harmP (ts.set n (t + roomF ts n l a)) s = false := by
  intro s hs
  have hs1 := spsOk_iff.1 h1
  have ht1 := tkOk_iff.1 h2
  have hk := spOk_iff.1 (hs1.2.2 s hs)
  have hn : n < ts.length := (List.getElem?_eq_some_iff.1 ht).1
  obtain ⟨r, hr⟩ : ∃ r, s.l[n]? = some r := ⟨_, List.getElem?_eq_getElem (by omega)⟩
  have hrb := hk.2.2.2 r (List.mem_of_getElem? hr)
  have h3 := hno s hs
  have h4 := room_bd (n := n) ha hno
  simp only [harmP, decide_eq_false_iff_not] at h3 ⊢
  have h5 : behLo s (ts.set n (t + roomF ts n l a)) = behLo s ts - roomF ts n l a * r.hi := loF_set ts s.l n t _ r _ ht hr
  rw [h5]
  have hg : s.l.getD n ⟨0, 0⟩ = r := by rw [List.getD_eq_getElem?_getD, hr]; rfl
  by_cases h6 : 0 < r.hi
  · have h7 := (roomF_le (ts := ts) (k := n) l a).2 s hs (by rw [hg]; exact h6)
    rw [hg] at h7
    have h8 := Int.mul_le_of_le_ediv h6 h7
    omega
  · have h7 : r.hi = 0 := by omega
    rw [h7]
    omega
/-- With one kilogram more one is, if it may be taken. -/
theorem room_full {l : List Sp} {ts : List Int} (h1 : spsOk l = true) (h2 : tkOk l ts = true) {n : Nat} {t a : Int} (ht : ts[n]? = some t) (hne : roomF ts n l a ≠ a) : ∃ s ∈ l, harmP (ts.set n (t + (roomF ts n l a + 1))) s = true := by
  have hs1 := spsOk_iff.1 h1
  have ht1 := tkOk_iff.1 h2
  have hn : n < ts.length := (List.getElem?_eq_some_iff.1 ht).1
  rcases roomF_is (ts := ts) (k := n) l a with h | ⟨s, hs, h3, h4⟩
  · exact absurd h hne
  · have hk := spOk_iff.1 (hs1.2.2 s hs)
    obtain ⟨r, hr⟩ : ∃ r, s.l[n]? = some r := ⟨_, List.getElem?_eq_getElem (by omega)⟩
    have hg : s.l.getD n ⟨0, 0⟩ = r := by rw [List.getD_eq_getElem?_getD, hr]; rfl
    rw [hg] at h3 h4
    refine ⟨s, hs, ?_⟩
    have h5 : behLo s (ts.set n (t + (roomF ts n l a + 1))) = behLo s ts - (roomF ts n l a + 1) * r.hi := loF_set ts s.l n t _ r _ ht hr
    simp only [harmP, decide_eq_true_eq]
    rw [h5]
    have h6 := Int.lt_ediv_add_one_mul_self (behLo s ts - 1000 * s.least) h3
    rw [← h4] at h6
    omega
end Go.Lease
