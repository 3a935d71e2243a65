/-
  The law LeaseSafe answers true.
-/
import Derived.Test.YtcccafphhmcifaaG4
import Derived.Test.YtcccafphhmcifaaSafeSpec
import Derived.Test.YtcccafphhmcifaaW
import Derived.Test.YtcccafphhmcifaaW5
import Derived.Test.YtcccafphhmcifaaTremTyK
set_option linter.unusedVariables false
set_option linter.unusedSimpArgs false
namespace Go.Proofs.Ytcccafphhmcifaa
open Go Go.Abs Go.Lease
variable {σ : Stack}

theorem u16_at {l : List Int} {i : Nat} {x : Int} (hx : l[i]? = some x) : ((l.flatMap u16E).drop i).take 1 = [.int .u16 x] := by
  have := flat_at (f := u16E) (w := 1) (fun _ => rfl) hx
  simpa using this
theorem L_has {l : List Int} {n : Int} (hl : l.length ≤ 9223372036854775807) : ∀ (m i : Nat), i + m = l.length →
    WL T [0, 1, 5] false f_law11_has_l6 [(0, .lst l.length (l.flatMap intE)), (1, .int .i64 n), (5, .int .i64 i)] σ
      (fun x e σ' => σ' = σ ∧ if n ∈ l.drop i then x = .ret ∧ get e 4 = .bool true else x = .exit 0)
  | 0, i, hi => by
    refine WL_step e_law11_has_l6 ?_
    have h1 : ¬ i < l.length := by omega
    have h2 : l.drop i = [] := List.drop_eq_nil_of_le (by omega)
    rw [h2]
    simp [-List.length_flatMap, -List.map_take, e_law11_has_r0, e_law11_has_r1, e_law11_has_r2, e_law11_has_r3, e_law11_has_r4, e_law11_has_r5, e_law11_has_r7, h1]
  | m + 1, i, hi => by
    refine WL_step e_law11_has_l6 ?_
    have h1 : i < l.length := by omega
    obtain ⟨x, hx⟩ : ∃ x, l[i]? = some x := ⟨_, List.getElem?_eq_getElem h1⟩
    have a1 := int_at hx
    have w1 := wnext h1 hl
    have ih := L_has (n := n) hl m (i + 1) (by omega)
    rw [dropS hx]
    by_cases h2 : x = n
    · subst h2
      simp [-List.length_flatMap, -List.map_take, e_law11_has_r0, e_law11_has_r1, e_law11_has_r2, e_law11_has_r3, e_law11_has_r4, e_law11_has_r5, e_law11_has_r7, h1, a1, w1]
    · have h3 : ¬ n = x := fun h => h2 h.symm
      simp [-List.length_flatMap, -List.map_take, e_law11_has_r0, e_law11_has_r1, e_law11_has_r2, e_law11_has_r3, e_law11_has_r4, e_law11_has_r5, e_law11_has_r7, h1, a1, w1, h2]
      exact WL.to ih (by simp) rfl fun x e σ hh => by simpa [h3] using hh
theorem C_has {l : List Int} {n : Int} (hl : l.length ≤ 9223372036854775807) : lim T (.call false i_law11_has [.lst l.length (l.flatMap intE), .int .i64 n] σ) = some (.val (.bool (decide (n ∈ l))) σ) := by
  refine call_of T_law11_has e_law11_has rfl ?_
  simp [-List.length_flatMap, -List.map_take, e_law11_has_r0, e_law11_has_r1, e_law11_has_r2, e_law11_has_r3, e_law11_has_r4, e_law11_has_r5, e_law11_has_r7]
  refine WL.to (L_has (σ := [] :: σ) (n := n) hl l.length 0 (by omega)) (by simp) rfl ?_
  rintro x e σ' ⟨rfl, hh⟩
  rw [List.drop_zero] at hh
  by_cases h : n ∈ l
  · rw [if_pos h] at hh
    obtain ⟨rfl, g4⟩ := hh
    simp [g4, h]
  · rw [if_neg h] at hh
    subst hh
    simp [-List.length_flatMap, -List.map_take, e_law11_has_r7, h]
theorem C_listK {l : List Int} (hl : l.length ≤ 100000) {bs : List Blk} : lim T (.call true i_law11_list [.lst l.length (l.flatMap intE)] (bs :: σ)) = some (.val (.sl σ.length (bs.length + 1) 1 0 l.length 1) ((bs ++ [.cells 0 [], .cells 1 (l.flatMap intE)]) :: σ)) := by
  refine call_kp T_law11_list e_law11_list rfl ?_
  have h5 := flat_len (f := intE) (w := 1) (fun _ => rfl) l
  rw [Nat.mul_one] at h5
  have h6 : l.length * 8 ≤ room := by unfold room; omega
  simp [-List.length_flatMap, -List.map_take, e_law11_list_r0, e_law11_list_r1, h5, h6]
theorem C_listT {l : List Int} {A : Blk} {u : Nat} (hl : l.length ≤ 100000) (hσ : σ ≠ []) : lim T (.call false i_law11_list [.sl σ.length 1 u 0 l.length 1] ([A, .cells u (l.flatMap intE)] :: σ)) = some (.val (.lst l.length (l.flatMap intE)) ([A, .cells u (l.flatMap intE)] :: σ)) := by
  refine call_of T_law11_list e_law11_list rfl ?_
  have h5 := flat_len (f := intE) (w := 1) (fun _ => rfl) l
  rw [Nat.mul_one] at h5
  have h6 : l.length * 8 ≤ room := by unfold room; omega
  have h8 : (l.flatMap intE).take l.length = l.flatMap intE := List.take_of_length_le (by omega)
  simp [-List.length_flatMap, -List.map_take, e_law11_list_r0, e_law11_list_r1, h5, h6, h8]
  have := out_at (σ := [A, .cells u (l.flatMap intE)] :: σ) (n := 16) (f := intE) (w := 1) (by decide) (fun _ => rfl) (fun x => by simp) (l := l) (j := 1) (v := 1) (bs := [.cells 0 [], .cells 1 (l.flatMap intE)]) (by simp) rfl
  simp at this
  simp [this]
/-- One flow. -/
theorem L_flow {l : List Sp} {ts : List Int} (h1 : spsOk l = true) (h2 : tkOk l ts = true) {qs : List Int} (hq0 : 0 < qs.length) (hql : qs.length ≤ 9223372036854775807) (hq : ∀ q ∈ qs, 0 ≤ q ∧ q ≤ 65535) {j : Nat} {s : Sp} (hx : l[j]? = some s) {d2 d9 d10 d12 d13 : D} (s2 : d2.calm = d2) (s9 : d9.calm = d9) (s10 : d10.calm = d10) (s12 : d12.calm = d12) (s13 : d13.calm = d13) : ∀ (m k : Nat) (a : Int), k + m = ts.length → -1000000000 * k ≤ a → a ≤ 1000000000000 →
    WL T [0, 1, 2, 3, 9, 10, 12, 13, 15, 16, 17] false f_law11_LeaseSafe_l16 [(0, spsD l), (1, .lst ts.length (ts.flatMap intE)), (2, d2), (3, .lst qs.length (qs.flatMap u16E)), (9, d9), (10, d10), (12, d12), (13, d13), (15, .int .i64 j), (16, .int .i64 a), (17, .int .i64 k)] σ
      (fun x e σ' => σ' = σ ∧ x = .exit 2 ∧ get e 0 = spsD l ∧ get e 1 = .lst ts.length (ts.flatMap intE) ∧ get e 2 = d2 ∧ get e 3 = .lst qs.length (qs.flatMap u16E) ∧ get e 9 = d9 ∧ get e 10 = d10 ∧ get e 12 = d12 ∧ get e 13 = d13 ∧ get e 15 = .int .i64 j ∧ get e 16 = .int .i64 (flowF (ts.drop k) ((qL qs j s).drop k) a))
  | 0, k, a, hi, _, _ => by
    refine WL_step e_law11_LeaseSafe_l16 ?_
    have g1 : ¬ k < ts.length := by omega
    have g2 : ts.drop k = [] := List.drop_eq_nil_of_le (by omega)
    rw [g2]
    simp [-List.length_flatMap, -List.map_take, e_law11_LeaseSafe_r0, e_law11_LeaseSafe_r1, e_law11_LeaseSafe_r2, e_law11_LeaseSafe_r3, e_law11_LeaseSafe_r4, e_law11_LeaseSafe_r5, e_law11_LeaseSafe_r6, e_law11_LeaseSafe_r7, e_law11_LeaseSafe_r8, e_law11_LeaseSafe_r9, e_law11_LeaseSafe_r10, e_law11_LeaseSafe_r11, e_law11_LeaseSafe_r12, e_law11_LeaseSafe_r13, e_law11_LeaseSafe_r14, e_law11_LeaseSafe_r15, e_law11_LeaseSafe_r17, e_law11_LeaseSafe_r18, e_law11_LeaseSafe_r19, e_law11_LeaseSafe_r21, e_law11_LeaseSafe_r22, e_law11_LeaseSafe_r23, e_law11_LeaseSafe_r24, e_law11_LeaseSafe_r25, e_law11_LeaseSafe_r26, e_law11_LeaseSafe_r27, e_law11_LeaseSafe_r28, e_law11_LeaseSafe_r29, e_law11_LeaseSafe_r30, e_law11_LeaseSafe_r31, e_law11_LeaseSafe_r32, e_law11_LeaseSafe_r33, e_law11_LeaseSafe_r34, e_law11_LeaseSafe_r35, e_law11_LeaseSafe_r36, g1, s2, s9, s10, s12, s13, flowF]
  | m + 1, k, a, hi, b0, b1 => by
    refine WL_step e_law11_LeaseSafe_l16 ?_
    have hs1 := spsOk_iff.1 h1
    have ht1 := tkOk_iff.1 h2
    have hk := spOk_iff.1 (hs1.2.2 s (List.mem_of_getElem? hx))
    have gj : j < l.length := (List.getElem?_eq_some_iff.1 hx).1
    have g1 : k < ts.length := by omega
    have g2 : k < s.l.length := by omega
    obtain ⟨t, ht⟩ : ∃ x, ts[k]? = some x := ⟨_, List.getElem?_eq_getElem g1⟩
    obtain ⟨r, hr⟩ : ∃ x, s.l[k]? = some x := ⟨_, List.getElem?_eq_getElem g2⟩
    have htb := ht1.2 t (List.mem_of_getElem? ht)
    have hrb := hk.2.2.2 r (List.mem_of_getElem? hr)
    have a1 := sp_at hx
    have a2 := int_at ht
    have a3 := rg_at hr
    have hp : (j + k) % qs.length < qs.length := Nat.mod_lt _ hq0
    obtain ⟨q, hqx⟩ : ∃ x, qs[(j + k) % qs.length]? = some x := ⟨_, List.getElem?_eq_getElem hp⟩
    have hqb := hq q (List.mem_of_getElem? hqx)
    have a4 := u16_at hqx
    have w0 := w64 (n := (j : Int) + k) (by omega)
    have w1 : ((j : Int) + k).tmod qs.length = (((j + k) % qs.length : Nat) : Int) := by
      rw [Int.tmod_eq_emod_of_nonneg (by omega)]; push_cast; rfl
    have w2 : ¬ ((qs.length : Int) = 0) := by omega
    have w3 := w64 (n := q) (by omega)
    have w4 := w64 (n := r.hi - r.lo) (by omega)
    have w5 := w64 (n := r.hi - r.lo + 1) (by omega)
    have w6 : ¬ (r.hi - r.lo + 1 = 0) := by omega
    have w7 : q.tmod (r.hi - r.lo + 1) = q % (r.hi - r.lo + 1) := Int.tmod_eq_emod_of_nonneg hqb.1
    have hpi := pull_in (qs := qs) (i := j) (k := k) hrb.2.1
    have hpe : r.lo + q % (r.hi - r.lo + 1) = pullF qs j k r := by unfold pullF; rw [getD_of hqx]
    have hqn : ¬ qs = [] := by rintro rfl; simp at hq0
    generalize (j + k) % qs.length = p at *
    have w8 := w64 (n := pullF qs j k r) (by omega)
    have hm := mulT htb (r := pullF qs j k r) (by omega)
    have w9 := w64 (n := t * pullF qs j k r) (by omega)
    have w10 := w64 (n := a - t * pullF qs j k r) (by omega)
    have w11 := wnext g1 (by omega)
    have ih := L_flow h1 h2 hq0 hql hq hx s2 s9 s10 s12 s13 m (k + 1) (a - t * pullF qs j k r) (by omega) (by omega) (by omega)
    have hqd : (qL qs j s).drop k = pullF qs j k r :: (qL qs j s).drop (k + 1) := dropS (qL_get hr)
    rw [dropS ht, hqd]
    simp [-List.length_flatMap, -List.map_take, e_law11_LeaseSafe_r0, e_law11_LeaseSafe_r1, e_law11_LeaseSafe_r2, e_law11_LeaseSafe_r3, e_law11_LeaseSafe_r4, e_law11_LeaseSafe_r5, e_law11_LeaseSafe_r6, e_law11_LeaseSafe_r7, e_law11_LeaseSafe_r8, e_law11_LeaseSafe_r9, e_law11_LeaseSafe_r10, e_law11_LeaseSafe_r11, e_law11_LeaseSafe_r12, e_law11_LeaseSafe_r13, e_law11_LeaseSafe_r14, e_law11_LeaseSafe_r15, e_law11_LeaseSafe_r17, e_law11_LeaseSafe_r18, e_law11_LeaseSafe_r19, e_law11_LeaseSafe_r21, e_law11_LeaseSafe_r22, e_law11_LeaseSafe_r23, e_law11_LeaseSafe_r24, e_law11_LeaseSafe_r25, e_law11_LeaseSafe_r26, e_law11_LeaseSafe_r27, e_law11_LeaseSafe_r28, e_law11_LeaseSafe_r29, e_law11_LeaseSafe_r30, e_law11_LeaseSafe_r31, e_law11_LeaseSafe_r32, e_law11_LeaseSafe_r33, e_law11_LeaseSafe_r34, e_law11_LeaseSafe_r35, e_law11_LeaseSafe_r36, gj, g1, g2, a1, a2, a3, a4, hp, hqn, w0, w1, w2, w3, w4, w5, w6, w7, w8, w9, w10, w11, hpe, s2, s9, s10, s12, s13]
    exact WL.to ih (by simp) rfl fun x e σ hh => by simpa [flowF] using hh
theorem rm_at {l : List Sp} {ts : List Int} {j : Nat} {s : Sp} (hx : l[j]? = some s) : (((l.map (beh ts)).flatMap Rg.enc).drop (j * 2)).take 2 = [.int .i64 (behLo s ts), .int .i64 (behHi s ts)] := by
  have := rg_at (l := l.map (beh ts)) (i := j) (r := beh ts s) (by simp [hx])
  simpa [beh] using this
theorem which_at {p : Sp → Bool} {l : List Sp} {j : Nat} {s : Sp} (hx : l[j]? = some s) : decide ((j : Int) ∈ whichF p 0 l) = p s := by
  rw [Bool.eq_iff_iff, decide_eq_true_eq, which_mem]
  constructor
  · rintro ⟨k, s', h1, h2, h3⟩
    have : k = j := by omega
    subst this
    rw [hx] at h1
    cases h1
    exact h2
  · intro h
    exact ⟨j, s, hx, h, by simp⟩
/-- All flows. -/
theorem L_flows {l : List Sp} {ts : List Int} (h1 : spsOk l = true) (h2 : tkOk l ts = true) {qs : List Int} (hq0 : 0 < qs.length) (hql : qs.length ≤ 9223372036854775807) (hq : ∀ q ∈ qs, 0 ≤ q ∧ q ≤ 65535) {d2 d9 : D} (s2 : d2.calm = d2) (s9 : d9.calm = d9) : ∀ (m j : Nat), j + m = l.length →
    WL T [0, 1, 2, 3, 9, 10, 12, 13, 15] false f_law11_LeaseSafe_l20 [(0, spsD l), (1, .lst ts.length (ts.flatMap intE)), (2, d2), (3, .lst qs.length (qs.flatMap u16E)), (9, d9), (10, .lst (l.map (beh ts)).length ((l.map (beh ts)).flatMap Rg.enc)), (12, .lst (whichF (harmP ts) 0 l).length ((whichF (harmP ts) 0 l).flatMap intE)), (13, .lst (whichF (harmS ts) 0 l).length ((whichF (harmS ts) 0 l).flatMap intE)), (15, .int .i64 j)] σ
      (fun x e σ' => σ' = σ ∧ x = .exit 0 ∧ get e 1 = .lst ts.length (ts.flatMap intE) ∧ get e 2 = d2 ∧ get e 9 = d9 ∧ get e 12 = .lst (whichF (harmP ts) 0 l).length ((whichF (harmP ts) 0 l).flatMap intE))
  | 0, j, hi => by
    refine WL_step e_law11_LeaseSafe_l20 ?_
    have g1 : ¬ j < l.length := by omega
    simp [-List.length_flatMap, -List.map_take, e_law11_LeaseSafe_r0, e_law11_LeaseSafe_r1, e_law11_LeaseSafe_r2, e_law11_LeaseSafe_r3, e_law11_LeaseSafe_r4, e_law11_LeaseSafe_r5, e_law11_LeaseSafe_r6, e_law11_LeaseSafe_r7, e_law11_LeaseSafe_r8, e_law11_LeaseSafe_r9, e_law11_LeaseSafe_r10, e_law11_LeaseSafe_r11, e_law11_LeaseSafe_r12, e_law11_LeaseSafe_r13, e_law11_LeaseSafe_r14, e_law11_LeaseSafe_r15, e_law11_LeaseSafe_r17, e_law11_LeaseSafe_r18, e_law11_LeaseSafe_r19, e_law11_LeaseSafe_r21, e_law11_LeaseSafe_r22, e_law11_LeaseSafe_r23, e_law11_LeaseSafe_r24, e_law11_LeaseSafe_r25, e_law11_LeaseSafe_r26, e_law11_LeaseSafe_r27, e_law11_LeaseSafe_r28, e_law11_LeaseSafe_r29, e_law11_LeaseSafe_r30, e_law11_LeaseSafe_r31, e_law11_LeaseSafe_r32, e_law11_LeaseSafe_r33, e_law11_LeaseSafe_r34, e_law11_LeaseSafe_r35, e_law11_LeaseSafe_r36, g1, s2, s9]
  | m + 1, j, hi => by
    refine WL_step e_law11_LeaseSafe_l20 ?_
    have hs1 := spsOk_iff.1 h1
    have ht1 := tkOk_iff.1 h2
    have g1 : j < l.length := by omega
    obtain ⟨s, hx⟩ : ∃ x, l[j]? = some x := ⟨_, List.getElem?_eq_getElem g1⟩
    have hk := spOk_iff.1 (hs1.2.2 s (List.mem_of_getElem? hx))
    have a1 := sp_at hx
    have a2 := rm_at (ts := ts) hx
    have w1 := wnext g1 (by omega)
    have w2 := w64 (n := 1000 * s.flow) (by omega)
    have w3 := w64 (n := 1000 * s.least) (by omega)
    have ih := L_flows h1 h2 hq0 hql hq s2 s9 m (j + 1) (by omega)
    have hpl := which_len (harmP ts) l 0
    have hsl := which_len (harmS ts) l 0
    have hHP := fun σ => C_has (σ := σ) (l := whichF (harmP ts) 0 l) (n := j) (by omega)
    have hHS := fun σ => C_has (σ := σ) (l := whichF (harmS ts) 0 l) (n := j) (by omega)
    rw [which_at hx] at hHP hHS
    have hfl := flow_beh h1 h2 (List.mem_of_getElem? hx) qs j
    simp [-List.length_flatMap, -List.map_take, e_law11_LeaseSafe_r0, e_law11_LeaseSafe_r1, e_law11_LeaseSafe_r2, e_law11_LeaseSafe_r3, e_law11_LeaseSafe_r4, e_law11_LeaseSafe_r5, e_law11_LeaseSafe_r6, e_law11_LeaseSafe_r7, e_law11_LeaseSafe_r8, e_law11_LeaseSafe_r9, e_law11_LeaseSafe_r10, e_law11_LeaseSafe_r11, e_law11_LeaseSafe_r12, e_law11_LeaseSafe_r13, e_law11_LeaseSafe_r14, e_law11_LeaseSafe_r15, e_law11_LeaseSafe_r17, e_law11_LeaseSafe_r18, e_law11_LeaseSafe_r19, e_law11_LeaseSafe_r21, e_law11_LeaseSafe_r22, e_law11_LeaseSafe_r23, e_law11_LeaseSafe_r24, e_law11_LeaseSafe_r25, e_law11_LeaseSafe_r26, e_law11_LeaseSafe_r27, e_law11_LeaseSafe_r28, e_law11_LeaseSafe_r29, e_law11_LeaseSafe_r30, e_law11_LeaseSafe_r31, e_law11_LeaseSafe_r32, e_law11_LeaseSafe_r33, e_law11_LeaseSafe_r34, e_law11_LeaseSafe_r35, e_law11_LeaseSafe_r36, g1, a1, w2]
    refine WL.to (L_flow (σ := σ) h1 h2 hq0 hql hq hx (d2 := d2) (d9 := d9) (d10 := .lst (l.map (beh ts)).length ((l.map (beh ts)).flatMap Rg.enc)) (d12 := .lst (whichF (harmP ts) 0 l).length ((whichF (harmP ts) 0 l).flatMap intE)) (d13 := .lst (whichF (harmS ts) 0 l).length ((whichF (harmS ts) 0 l).flatMap intE)) s2 s9 rfl rfl rfl ts.length 0 (1000 * s.flow) (by omega) (by omega) (by omega)) (by simp [s2, s9]) rfl ?_
    rintro x e σ' ⟨rfl, rfl, q0, q1, q2, q3, q9, q10, q12, q13, q15, q16⟩
    rw [List.drop_zero, List.drop_zero] at q16
    generalize flowF ts (qL qs j s) (1000 * s.flow) = fl at *
    have f1 : ¬ fl < behLo s ts := by omega
    have f2 : ¬ behHi s ts < fl := by omega
    cases cP : harmP ts s
    · have e1 : ¬ behLo s ts < 1000 * s.least := by simpa [harmP] using cP
      have cS : harmS ts s = false := by simp only [harmS, decide_eq_false_iff_not]; omega
      have f3 : ¬ fl < 1000 * s.least := by omega
      rw [cP] at hHP
      rw [cS] at hHS
      simp [-List.length_flatMap, -List.map_take, e_law11_LeaseSafe_r17, e_law11_LeaseSafe_r19, q0, q1, q2, q3, q9, q10, q12, q13, q15, q16, g1, a1, a2, w1, w3, f1, f2, f3, hHP, hHS]
      exact WL.to ih (by simp [s2, s9]) rfl fun x e σ hh => hh
    · cases cS : harmS ts s
      · rw [cP] at hHP
        rw [cS] at hHS
        simp [-List.length_flatMap, -List.map_take, e_law11_LeaseSafe_r17, e_law11_LeaseSafe_r19, q0, q1, q2, q3, q9, q10, q12, q13, q15, q16, g1, a1, a2, w1, w3, f1, f2, hHP, hHS]
        exact WL.to ih (by simp [s2, s9]) rfl fun x e σ hh => hh
      · have e1 : behHi s ts < 1000 * s.least := by simpa [harmS] using cS
        have f3 : fl < 1000 * s.least := by omega
        have f4 : ¬ 1000 * s.least ≤ fl := by omega
        rw [cP] at hHP
        rw [cS] at hHS
        simp [-List.length_flatMap, -List.map_take, e_law11_LeaseSafe_r17, e_law11_LeaseSafe_r19, q0, q1, q2, q3, q9, q10, q12, q13, q15, q16, g1, a1, a2, w1, w3, f1, f2, f3, f4, hHP, hHS]
        exact WL.to ih (by simp [s2, s9]) rfl fun x e σ hh => hh
theorem law_Safe {l : List Sp} (hcl : l.length ≤ 9223372036854775807) {ts : List Int} {k : Int} (hk : 0 ≤ k ∧ k ≤ 255) {qs : List Int} (hql : qs.length ≤ 9223372036854775807) (hq : ∀ q ∈ qs, 0 ≤ q ∧ q ≤ 65535) : lim T (.call false i_law11_LeaseSafe [spsD l, .lst ts.length (ts.flatMap intE), .int .u8 k, .lst qs.length (qs.flatMap u16E)] [[]]) = some (.val (.bool true) [[]]) := by
  refine call_of T_law11_LeaseSafe e_law11_LeaseSafe rfl ?_
  have hF := fun σ => C_some (σ := σ) hcl
  simp only [spsD] at hF
  cases f1 : someB l
  · simp [-List.length_flatMap, -List.map_take, e_law11_LeaseSafe_r0, e_law11_LeaseSafe_r1, e_law11_LeaseSafe_r2, e_law11_LeaseSafe_r3, e_law11_LeaseSafe_r4, e_law11_LeaseSafe_r5, e_law11_LeaseSafe_r6, e_law11_LeaseSafe_r7, e_law11_LeaseSafe_r8, e_law11_LeaseSafe_r9, e_law11_LeaseSafe_r10, e_law11_LeaseSafe_r11, e_law11_LeaseSafe_r12, e_law11_LeaseSafe_r13, e_law11_LeaseSafe_r14, e_law11_LeaseSafe_r15, e_law11_LeaseSafe_r17, e_law11_LeaseSafe_r18, e_law11_LeaseSafe_r19, e_law11_LeaseSafe_r21, e_law11_LeaseSafe_r22, e_law11_LeaseSafe_r23, e_law11_LeaseSafe_r24, e_law11_LeaseSafe_r25, e_law11_LeaseSafe_r26, e_law11_LeaseSafe_r27, e_law11_LeaseSafe_r28, e_law11_LeaseSafe_r29, e_law11_LeaseSafe_r30, e_law11_LeaseSafe_r31, e_law11_LeaseSafe_r32, e_law11_LeaseSafe_r33, e_law11_LeaseSafe_r34, e_law11_LeaseSafe_r35, e_law11_LeaseSafe_r36, hF, f1, C_wakes]
  by_cases hb : ts.length ≤ 30
  rotate_left
  · have h1 : (30 : Int) < ts.length := by omega
    simp [-List.length_flatMap, -List.map_take, e_law11_LeaseSafe_r0, e_law11_LeaseSafe_r1, e_law11_LeaseSafe_r2, e_law11_LeaseSafe_r3, e_law11_LeaseSafe_r4, e_law11_LeaseSafe_r5, e_law11_LeaseSafe_r6, e_law11_LeaseSafe_r7, e_law11_LeaseSafe_r8, e_law11_LeaseSafe_r9, e_law11_LeaseSafe_r10, e_law11_LeaseSafe_r11, e_law11_LeaseSafe_r12, e_law11_LeaseSafe_r13, e_law11_LeaseSafe_r14, e_law11_LeaseSafe_r15, e_law11_LeaseSafe_r17, e_law11_LeaseSafe_r18, e_law11_LeaseSafe_r19, e_law11_LeaseSafe_r21, e_law11_LeaseSafe_r22, e_law11_LeaseSafe_r23, e_law11_LeaseSafe_r24, e_law11_LeaseSafe_r25, e_law11_LeaseSafe_r26, e_law11_LeaseSafe_r27, e_law11_LeaseSafe_r28, e_law11_LeaseSafe_r29, e_law11_LeaseSafe_r30, e_law11_LeaseSafe_r31, e_law11_LeaseSafe_r32, e_law11_LeaseSafe_r33, e_law11_LeaseSafe_r34, e_law11_LeaseSafe_r35, e_law11_LeaseSafe_r36, hF, f1, h1, C_wakes]
  have hb1 : ¬ (30 : Int) < ts.length := by omega
  have hc := someB_iff.1 f1
  have hS := fun σ => C_RSprings (σ := σ) hc
  simp only [spsD] at hS
  cases c1 : spsOk l
  · simp [-List.length_flatMap, -List.map_take, e_law11_LeaseSafe_r0, e_law11_LeaseSafe_r1, e_law11_LeaseSafe_r2, e_law11_LeaseSafe_r3, e_law11_LeaseSafe_r4, e_law11_LeaseSafe_r5, e_law11_LeaseSafe_r6, e_law11_LeaseSafe_r7, e_law11_LeaseSafe_r8, e_law11_LeaseSafe_r9, e_law11_LeaseSafe_r10, e_law11_LeaseSafe_r11, e_law11_LeaseSafe_r12, e_law11_LeaseSafe_r13, e_law11_LeaseSafe_r14, e_law11_LeaseSafe_r15, e_law11_LeaseSafe_r17, e_law11_LeaseSafe_r18, e_law11_LeaseSafe_r19, e_law11_LeaseSafe_r21, e_law11_LeaseSafe_r22, e_law11_LeaseSafe_r23, e_law11_LeaseSafe_r24, e_law11_LeaseSafe_r25, e_law11_LeaseSafe_r26, e_law11_LeaseSafe_r27, e_law11_LeaseSafe_r28, e_law11_LeaseSafe_r29, e_law11_LeaseSafe_r30, e_law11_LeaseSafe_r31, e_law11_LeaseSafe_r32, e_law11_LeaseSafe_r33, e_law11_LeaseSafe_r34, e_law11_LeaseSafe_r35, e_law11_LeaseSafe_r36, hF, f1, hb1, hS, c1, C_wakes]
  have hT := fun σ => C_Takes (σ := σ) c1 (ts := ts) (by omega)
  simp only [spsD] at hT
  cases c2 : tkOk l ts
  · simp [-List.length_flatMap, -List.map_take, e_law11_LeaseSafe_r0, e_law11_LeaseSafe_r1, e_law11_LeaseSafe_r2, e_law11_LeaseSafe_r3, e_law11_LeaseSafe_r4, e_law11_LeaseSafe_r5, e_law11_LeaseSafe_r6, e_law11_LeaseSafe_r7, e_law11_LeaseSafe_r8, e_law11_LeaseSafe_r9, e_law11_LeaseSafe_r10, e_law11_LeaseSafe_r11, e_law11_LeaseSafe_r12, e_law11_LeaseSafe_r13, e_law11_LeaseSafe_r14, e_law11_LeaseSafe_r15, e_law11_LeaseSafe_r17, e_law11_LeaseSafe_r18, e_law11_LeaseSafe_r19, e_law11_LeaseSafe_r21, e_law11_LeaseSafe_r22, e_law11_LeaseSafe_r23, e_law11_LeaseSafe_r24, e_law11_LeaseSafe_r25, e_law11_LeaseSafe_r26, e_law11_LeaseSafe_r27, e_law11_LeaseSafe_r28, e_law11_LeaseSafe_r29, e_law11_LeaseSafe_r30, e_law11_LeaseSafe_r31, e_law11_LeaseSafe_r32, e_law11_LeaseSafe_r33, e_law11_LeaseSafe_r34, e_law11_LeaseSafe_r35, e_law11_LeaseSafe_r36, hF, f1, hb1, hS, c1, hT, c2, C_wakes]
  by_cases hq0 : qs.length = 0
  · have hq1 : qs = [] := List.length_eq_zero_iff.1 hq0
    simp [-List.length_flatMap, -List.map_take, e_law11_LeaseSafe_r0, e_law11_LeaseSafe_r1, e_law11_LeaseSafe_r2, e_law11_LeaseSafe_r3, e_law11_LeaseSafe_r4, e_law11_LeaseSafe_r5, e_law11_LeaseSafe_r6, e_law11_LeaseSafe_r7, e_law11_LeaseSafe_r8, e_law11_LeaseSafe_r9, e_law11_LeaseSafe_r10, e_law11_LeaseSafe_r11, e_law11_LeaseSafe_r12, e_law11_LeaseSafe_r13, e_law11_LeaseSafe_r14, e_law11_LeaseSafe_r15, e_law11_LeaseSafe_r17, e_law11_LeaseSafe_r18, e_law11_LeaseSafe_r19, e_law11_LeaseSafe_r21, e_law11_LeaseSafe_r22, e_law11_LeaseSafe_r23, e_law11_LeaseSafe_r24, e_law11_LeaseSafe_r25, e_law11_LeaseSafe_r26, e_law11_LeaseSafe_r27, e_law11_LeaseSafe_r28, e_law11_LeaseSafe_r29, e_law11_LeaseSafe_r30, e_law11_LeaseSafe_r31, e_law11_LeaseSafe_r32, e_law11_LeaseSafe_r33, e_law11_LeaseSafe_r34, e_law11_LeaseSafe_r35, e_law11_LeaseSafe_r36, hF, f1, hb1, hS, c1, hT, c2, hq1, C_wakes]
  have hq1 : ¬ qs = [] := by rintro rfl; simp at hq0
  have hC := fun σ (hσ : σ ≠ []) => C_Springs (σ := σ) hc hσ
  have hl := fun σ (hσ : σ ≠ []) => C_list (σ := σ) (l := ts) (by omega) hσ
  have hB := fun σ (hσ : σ ≠ []) => C_Behind (σ := σ) hc (ts := ts) (by omega) hσ
  have hH := fun σ (hσ : σ ≠ []) => C_Harmed (σ := σ) hc (ts := ts) (by omega) hσ
  have hs1 := spsOk_iff.1 c1
  have ht1 := tkOk_iff.1 c2
  have e1 : takE l ts = 0 := by simp [takE, c1, c2]
  simp only [e1, if_true, spsD] at hC hB hH
  simp [-List.length_flatMap, -List.map_take, e_law11_LeaseSafe_r0, e_law11_LeaseSafe_r1, e_law11_LeaseSafe_r2, e_law11_LeaseSafe_r3, e_law11_LeaseSafe_r4, e_law11_LeaseSafe_r5, e_law11_LeaseSafe_r6, e_law11_LeaseSafe_r7, e_law11_LeaseSafe_r8, e_law11_LeaseSafe_r9, e_law11_LeaseSafe_r10, e_law11_LeaseSafe_r11, e_law11_LeaseSafe_r12, e_law11_LeaseSafe_r13, e_law11_LeaseSafe_r14, e_law11_LeaseSafe_r15, e_law11_LeaseSafe_r17, e_law11_LeaseSafe_r18, e_law11_LeaseSafe_r19, e_law11_LeaseSafe_r21, e_law11_LeaseSafe_r22, e_law11_LeaseSafe_r23, e_law11_LeaseSafe_r24, e_law11_LeaseSafe_r25, e_law11_LeaseSafe_r26, e_law11_LeaseSafe_r27, e_law11_LeaseSafe_r28, e_law11_LeaseSafe_r29, e_law11_LeaseSafe_r30, e_law11_LeaseSafe_r31, e_law11_LeaseSafe_r32, e_law11_LeaseSafe_r33, e_law11_LeaseSafe_r34, e_law11_LeaseSafe_r35, e_law11_LeaseSafe_r36, hF, f1, hb1, hS, c1, hT, c2, hq1, hC, hl, hB, hH]
  refine WL.to (L_flows (σ := [[], []]) c1 c2 (by omega) hql hq (d2 := .int .u8 k) (d9 := spsD l) rfl rfl l.length 0 (by omega)) (by simp) rfl ?_
  rintro x e σ' ⟨rfl, rfl, g1, g2, g9, g12⟩
  -- the tract
  obtain ⟨n, hn⟩ : ∃ n : Nat, k.tmod ts.length = n := ⟨(k.tmod ts.length).toNat, by
    have := Int.tmod_nonneg (ts.length : Int) hk.1
    omega⟩
  have hnl : n < ts.length := by
    have := Int.tmod_lt_of_pos k (show (0 : Int) < ts.length by omega)
    omega
  have wk := w64 (n := k) (by omega)
  have wz : ¬ ts = [] := by rintro rfl; simp at hnl
  obtain ⟨t, ht⟩ : ∃ x, ts[n]? = some x := ⟨_, List.getElem?_eq_getElem hnl⟩
  have htb := ht1.2 t (List.mem_of_getElem? ht)
  have hte := (List.getElem?_eq_some_iff.1 ht).2
  have hR := fun σ => C_Room (σ := σ) hc (ts := ts) (by omega) (k := n)
  unfold roomD at hR
  simp only [e1, if_true, Int.toNat_natCast, getD_of ht, if_pos (show 0 ≤ (n : Int) ∧ (n : Int) < ts.length by omega), spsD] at hR
  have a1 := int_at ht
  cases hA : anyB l (harmP ts)
  rotate_left
  · obtain ⟨s, hs, hps⟩ := anyB_iff.1 hA
    have hP0 : ¬ whichF (harmP ts) 0 l = [] := fun h => by rw [which_nil.1 h s hs] at hps; cases hps
    have hP1 : 0 < (whichF (harmP ts) 0 l).length := List.length_pos_iff.2 hP0
    simp only [hA, if_true] at hR
    simp [-List.length_flatMap, -List.map_take, e_law11_LeaseSafe_r21, e_law11_LeaseSafe_r22, e_law11_LeaseSafe_r23, e_law11_LeaseSafe_r24, g1, g2, g9, g12, hn, hnl, wk, wz, hl, hR, hP1, C_wakes]
  have hno : ∀ s ∈ l, harmP ts s = false := fun s hs => by
    cases h : harmP ts s
    · rfl
    · have : anyB l (harmP ts) = true := anyB_iff.2 ⟨s, hs, h⟩
      rw [hA] at this; cases this
  have hP0 : whichF (harmP ts) 0 l = [] := which_nil.2 hno
  simp only [hA, Bool.false_eq_true, if_false] at hR
  have hrb := room_bd (ts := ts) (n := n) (l := l) (a := 1000000 - t) (by omega) hno
  have hsafe := room_safe c1 c2 ht (a := 1000000 - t) (by omega) hno
  have hfull := room_full c1 c2 ht (a := 1000000 - t)
  generalize roomF ts n l (1000000 - t) = ro at *
  have u1 : ¬ ro < 0 := by omega
  have u2 : ¬ 1000000 < t + ro := by omega
  have u3 := w64 (n := t + ro) (by omega)
  have hK := C_listK (σ := [[]]) (l := ts) (by omega) (bs := [])
  have hL1 := C_listT (σ := [[]]) (l := ts.set n (t + ro)) (A := .cells 0 []) (u := 1) (by simp; omega) (by simp)
  have k1 : tkOk l (ts.set n (t + ro)) = true := set_ok c2 (by omega)
  have hH1 := fun σ (hσ : σ ≠ []) => C_Harmed (σ := σ) hc (ts := ts.set n (t + ro)) (by simp; omega) hσ
  have z1 : takE l (ts.set n (t + ro)) = 0 := by simp [takE, c1, k1]
  have z2 : whichF (harmP (ts.set n (t + ro))) 0 l = [] := which_nil.2 hsafe
  simp only [z1, z2, if_true, spsD, List.length_set] at hH1 hL1
  have f1 := flat_len (f := intE) (w := 1) (fun _ => rfl) ts
  rw [Nat.mul_one] at f1
  have f2 : (ts.flatMap intE).drop n = .int .i64 t :: (ts.flatMap intE).drop (n + 1) := by
    have := k_drop (f := intE) (w := 1) (fun _ => rfl) ht
    simpa using this
  have f3 : (ts.flatMap intE).take n ++ .int .i64 (t + ro) :: (ts.flatMap intE).drop (n + 1) = (ts.set n (t + ro)).flatMap intE := by
    have := k_set (f := intE) (w := 1) (l := ts) (i := n) (x := t + ro) (fun _ => rfl) hnl
    simpa using this
  have f4 : n + 1 ≤ ts.length := by omega
  have f5 : (ts.set n (t + ro))[n]? = some (t + ro) := by simp [hnl]
  have f6 := int_at f5
  have f7 : ((ts.set n (t + ro)).flatMap intE).drop n = .int .i64 (t + ro) :: ((ts.set n (t + ro)).flatMap intE).drop (n + 1) := by
    have := k_drop (f := intE) (w := 1) (fun _ => rfl) f5
    simpa using this
  have f8 := flat_len (f := intE) (w := 1) (fun _ => rfl) (ts.set n (t + ro))
  rw [Nat.mul_one, List.length_set] at f8
  have hz := fun (q : List Int) => k_frz (f := intE) (w := 1) (fun _ => rfl) (fun x => by simp) (l := q) (j := 1) (v := 1) (bs := [.cells 0 [], .cells 1 (q.flatMap intE)]) (σ := [[]]) (by simp) rfl
  simp only [List.length_cons, List.length_nil, Nat.zero_add, List.nil_append, List.set_cons_zero, List.set_cons_succ] at hz hK hL1
  have hz1 := hz (ts.set n (t + ro))
  rw [List.length_set] at hz1
  have hfull' : t + ro ≠ 1000000 → ∃ s ∈ l, harmP (ts.set n (t + ro + 1)) s = true := fun h => by
    rw [show t + ro + 1 = t + (ro + 1) by omega]
    exact hfull (by omega)
  clear hfull hsafe
  generalize htr : t + ro = tr at *
  by_cases hfin : tr = 1000000
  · subst hfin
    simp [-List.length_flatMap, -List.map_take, e_law11_LeaseSafe_r21, e_law11_LeaseSafe_r22, e_law11_LeaseSafe_r23, e_law11_LeaseSafe_r25, e_law11_LeaseSafe_r27, e_law11_LeaseSafe_r28, e_law11_LeaseSafe_r29, e_law11_LeaseSafe_r30, e_law11_LeaseSafe_r32, e_law11_LeaseSafe_r33, g1, g2, g9, g12, hn, hnl, wk, wz, hl, hR, hP0, u1, u2, u3, a1, hK, hL1, hH1, f1, f2, f3, f4, f6, f7, f8, hz1, htr, C_wakesC]
  · obtain ⟨s, hs, hps⟩ := hfull' hfin
    have u4 := w64 (n := tr + 1) (by omega)
    have k2 : tkOk l (ts.set n (tr + 1)) = true := set_ok c2 (by omega)
    have hH2 := fun σ (hσ : σ ≠ []) => C_Harmed (σ := σ) hc (ts := ts.set n (tr + 1)) (by simp; omega) hσ
    have z3 : takE l (ts.set n (tr + 1)) = 0 := by simp [takE, c1, k2]
    have hP2 : ¬ whichF (harmP (ts.set n (tr + 1))) 0 l = [] := fun h => by rw [which_nil.1 h s hs] at hps; cases hps
    have hP3 : 0 < (whichF (harmP (ts.set n (tr + 1))) 0 l).length := List.length_pos_iff.2 hP2
    simp only [z3, if_true, spsD, List.length_set] at hH2
    have f9 : ((ts.set n tr).flatMap intE).take n ++ .int .i64 (tr + 1) :: ((ts.set n tr).flatMap intE).drop (n + 1) = (ts.set n (tr + 1)).flatMap intE := by
      have := k_set (f := intE) (w := 1) (l := ts.set n tr) (i := n) (x := tr + 1) (fun _ => rfl) (by simpa using hnl)
      rw [List.set_set] at this
      simpa using this
    have hz2 := hz (ts.set n (tr + 1))
    have hL2 := fun σ (hσ : σ ≠ []) => C_list (σ := σ) (l := ts.set n (tr + 1)) (by simp; omega) hσ
    rw [List.length_set] at hz2
    simp only [List.length_set] at hL2
    simp [-List.length_flatMap, -List.map_take, e_law11_LeaseSafe_r21, e_law11_LeaseSafe_r22, e_law11_LeaseSafe_r23, e_law11_LeaseSafe_r25, e_law11_LeaseSafe_r27, e_law11_LeaseSafe_r28, e_law11_LeaseSafe_r29, e_law11_LeaseSafe_r30, e_law11_LeaseSafe_r32, e_law11_LeaseSafe_r34, e_law11_LeaseSafe_r35, e_law11_LeaseSafe_r36, g1, g2, g9, g12, hn, hnl, wk, wz, hl, hR, hP0, u1, u2, u3, u4, a1, hK, hL1, hH1, f1, f2, f3, f4, f6, f7, f8, f9, hz2, hL2, hH2, hP3, htr, hfin, C_wakesC]
theorem rows_i64 {ds : List D} (h : (Ty.int .i64).has ds) : ∃ x : Int, ds = intE x ∧ (-9223372036854775808 ≤ x ∧ x ≤ 9223372036854775807) := by
  obtain ⟨n, rfl, hw⟩ := h
  exact ⟨n, rfl, wf_i64 hw⟩
theorem rows_u16 {ds : List D} (h : (Ty.int .u16).has ds) : ∃ x : Int, ds = u16E x ∧ (0 ≤ x ∧ x ≤ 65535) := by
  obtain ⟨n, rfl, hw⟩ := h
  exact ⟨n, rfl, wf_u16 hw⟩
theorem rg_of {ds : List D} (h : (Ty.struct [.int .i64, .int .i64]).has ds) : ∃ x : Rg, ds = x.enc ∧ True := by
  obtain ⟨_, _, rfl, ⟨f, rfl, _⟩, _, _, rfl, ⟨t, rfl, _⟩, rfl⟩ := h
  exact ⟨⟨f, t⟩, rfl, trivial⟩
theorem sp_of {ds : List D} (h : (Ty.struct [.int .i64, .int .i64, .slice 2 (.struct [.int .i64, .int .i64])]).has ds) : ∃ x : Sp, ds = x.enc ∧ True := by
  obtain ⟨_, _, rfl, ⟨f, rfl, _⟩, _, _, rfl, ⟨t, rfl, _⟩, _, _, rfl, hs, rfl⟩ := h
  obtain ⟨d, rfl⟩ := slice_one hs
  obtain ⟨l, rfl, _, _⟩ := rows_of (fun ds h => rg_of h) hs
  exact ⟨⟨f, t, l⟩, rfl, trivial⟩
theorem go_LeaseSafe (x0 x1 x2 x3 : D) (t0 : (Ty.slice 3 (.struct [.int .i64, .int .i64, .slice 2 (.struct [.int .i64, .int .i64])])).hasV x0) (t1 : (Ty.slice 1 (.int .i64)).hasV x1) (t2 : (Ty.int .u8).hasV x2) (t3 : (Ty.slice 1 (.int .u16)).hasV x3) :
    ∃ σ', lim T (.call false i_law11_LeaseSafe [x0, x1, x2, x3] [[]]) = some (.val (.bool true) σ') := by
  obtain ⟨l, rfl, hl, _⟩ := rows_of (fun ds h => sp_of h) t0
  obtain ⟨ts, rfl, _, _⟩ := rows_of (fun ds h => rows_i64 h) t1
  obtain ⟨k, rfl, hk⟩ := u8_of t2
  obtain ⟨qs, rfl, hql, hq⟩ := rows_of (fun ds h => rows_u16 h) t3
  exact ⟨_, law_Safe (by unfold maxLen at hl; omega) hk (by unfold maxLen at hql; omega) hq⟩
end Go.Proofs.Ytcccafphhmcifaa
