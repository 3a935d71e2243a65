/-
  Springs of layer 11: the law's own loop.
-/
import Derived.Test.YtcccafphhmcifaaGreatG4
set_option linter.unusedVariables false
set_option linter.unusedSimpArgs false
namespace Go.Proofs.YtcccafphhmcifaaGreat
open Go Go.Abs Go.Lease
variable {σ : Stack}

theorem C_checkS {l : List Sp} (hc : Some15 l) : lim T (.call false i_lease_CheckSprings [spsD l] σ) = some (.val (.int .i64 (if spsOk l then 0 else 1)) σ) := by
  refine call_of T_lease_CheckSprings e_lease_CheckSprings rfl ?_
  have hV := fun σ => C_springs (σ := σ) hc
  simp only [spsD] at hV
  cases h1 : spsOk l
  · simp [-List.length_flatMap, -List.map_take, e_lease_CheckSprings_r0, e_lease_CheckSprings_r1, e_lease_CheckSprings_r2, e_lease_CheckSprings_r3, hV, h1]
  · simp [-List.length_flatMap, -List.map_take, e_lease_CheckSprings_r0, e_lease_CheckSprings_r1, e_lease_CheckSprings_r2, e_lease_CheckSprings_r3, hV, h1]
theorem L_behR {s : Sp} {ts : List Int} (hl : ts.length = s.l.length) (h20 : ts.length ≤ 20) (ht : ∀ t ∈ ts, 0 ≤ t ∧ t ≤ 1000000) (hr : ∀ r ∈ s.l, 0 ≤ r.lo ∧ r.lo ≤ r.hi ∧ r.hi ≤ 1000) : ∀ (m i : Nat) (lo hi : Int), i + m = ts.length → -1000000000 * i ≤ lo → lo ≤ 1000000000000 → -1000000000 * i ≤ hi → hi ≤ 1000000000000 →
    WL T [1, 2, 4, 5, 6] false f_ref11_Behind_l6 [(1, .lst ts.length (ts.flatMap intE)), (2, .cref [.int .i64 s.flow, .int .i64 s.least, .lst s.l.length (s.l.flatMap Rg.enc)]), (4, .own 0 [.int .i64 0, .int .i64 0]), (5, .own 0 [.int .i64 lo, .int .i64 hi]), (6, .int .i64 i)] σ
      (fun x e σ' => σ' = σ ∧ x = .exit 0 ∧ get e 4 = .own 0 [.int .i64 0, .int .i64 0] ∧ get e 5 = .own 0 [.int .i64 (loF (ts.drop i) (s.l.drop i) lo), .int .i64 (hiF (ts.drop i) (s.l.drop i) hi)])
  | 0, i, lo, hi, hi', _, _, _, _ => by
    refine WL_step e_ref11_Behind_l6 ?_
    have h1 : ¬ i < ts.length := by omega
    have h2 : ts.drop i = [] := List.drop_eq_nil_of_le (by omega)
    rw [h2]
    simp [-List.length_flatMap, -List.map_take, e_ref11_Behind_r0, e_ref11_Behind_r1, e_ref11_Behind_r2, e_ref11_Behind_r3, e_ref11_Behind_r4, e_ref11_Behind_r5, e_ref11_Behind_r7, h1, loF, hiF]
  | m + 1, i, lo, hi, hi', l0, l1, h0, h1' => by
    refine WL_step e_ref11_Behind_l6 ?_
    have h1 : i < ts.length := by omega
    have h2 : i < s.l.length := by omega
    obtain ⟨t, hx⟩ : ∃ x, ts[i]? = some x := ⟨_, List.getElem?_eq_getElem h1⟩
    obtain ⟨r, hy⟩ : ∃ x, s.l[i]? = some x := ⟨_, List.getElem?_eq_getElem h2⟩
    have htb := ht t (List.mem_of_getElem? hx)
    have hrb := hr r (List.mem_of_getElem? hy)
    have a1 := int_at hx
    have a2 := rg_at hy
    have m1 := mulT htb (r := r.hi) (by omega)
    have m2 := mulT htb (r := r.lo) (by omega)
    have w1 := wnext h1 (by omega)
    have w2 := w64 (n := t * r.hi) (by omega)
    have w3 := w64 (n := lo - t * r.hi) (by omega)
    have w4 := w64 (n := t * r.lo) (by omega)
    have w5 := w64 (n := hi - t * r.lo) (by omega)
    have ih := L_behR hl h20 ht hr m (i + 1) (lo - t * r.hi) (hi - t * r.lo) (by omega) (by omega) (by omega) (by omega) (by omega)
    rw [dropS hx, dropS hy]
    simp [-List.length_flatMap, -List.map_take, e_ref11_Behind_r0, e_ref11_Behind_r1, e_ref11_Behind_r2, e_ref11_Behind_r3, e_ref11_Behind_r4, e_ref11_Behind_r5, e_ref11_Behind_r7, h1, h2, a1, a2, w1, w2, w3, w4, w5]
    exact WL.to ih (by simp) rfl fun x e σ hh => by simpa [loF, hiF] using hh
theorem C_behR {l : List Sp} (h1 : spsOk l = true) {ts : List Int} (h2 : tkOk l ts = true) {s : Sp} (hs : s ∈ l) : lim T (.call false i_ref11_Behind [.agg [.int .i64 s.flow, .int .i64 s.least, .lst s.l.length (s.l.flatMap Rg.enc)], .lst ts.length (ts.flatMap intE)] σ) = some (.val (.agg [.int .i64 (behLo s ts), .int .i64 (behHi s ts)]) σ) := by
  refine call_of T_ref11_Behind e_ref11_Behind rfl ?_
  have hs1 := spsOk_iff.1 h1
  have ht1 := tkOk_iff.1 h2
  have hk := spOk_iff.1 (hs1.2.2 s hs)
  have w1 := w64 (n := 1000 * s.flow) (by omega)
  simp [-List.length_flatMap, -List.map_take, e_ref11_Behind_r0, e_ref11_Behind_r1, e_ref11_Behind_r2, e_ref11_Behind_r3, e_ref11_Behind_r4, e_ref11_Behind_r5, e_ref11_Behind_r7, w1]
  refine WL.to (L_behR (σ := [] :: σ) (by omega) (by omega) ht1.2 hk.2.2.2 ts.length 0 (1000 * s.flow) (1000 * s.flow) (by omega) (by omega) (by omega) (by omega) (by omega)) (by simp) rfl ?_
  rintro x e σ' ⟨rfl, rfl, g4, g5⟩
  simp [-List.length_flatMap, -List.map_take, e_ref11_Behind_r7, g4, g5, behLo, behHi]

/-! ### The law's loop -/

def rmS (ts : List Int) (k : Int) (a : Int) (s : Sp) : Int := if (0 ≤ k ∧ k < ts.length) ∧ 0 < (s.l.getD k.toNat ⟨0, 0⟩).hi then min a ((behLo s ts - 1000 * s.least).tdiv (s.l.getD k.toNat ⟨0, 0⟩).hi) else a
def rmL (ts : List Int) (k : Int) : List Sp → Int → Int
  | [], a => a
  | s :: l, a => rmL ts k l (rmS ts k a s)
theorem rmL_room {ts : List Int} {k : Nat} (hk : k < ts.length) : ∀ (l : List Sp) (a : Int), (∀ s ∈ l, harmP ts s = false) → rmL ts k l a = roomF ts k l a
  | [], a, _ => rfl
  | s :: l, a, h => by
    have h1 := h s (by simp)
    have h2 : ¬ behLo s ts < 1000 * s.least := by simpa [harmP] using h1
    rw [rmL, roomF, rmL_room hk l _ fun x hx => h x (by simp [hx])]
    congr 1
    unfold rmS
    simp only [Int.toNat_natCast]
    have h3 : (0 ≤ (k : Int) ∧ (k : Int) < ts.length) := by omega
    by_cases h4 : 0 < (s.l.getD k ⟨0, 0⟩).hi
    · rw [if_pos ⟨h3, h4⟩, if_pos h4, Int.tdiv_eq_ediv_of_nonneg (by omega)]
    · rw [if_neg (fun h => h4 h.2), if_neg h4]
theorem rmL_out {ts : List Int} {k : Int} (hk : ¬ (0 ≤ k ∧ k < ts.length)) : ∀ (l : List Sp) (a : Int), rmL ts k l a = a
  | [], a => rfl
  | s :: l, a => by
    rw [rmL, rmL_out hk l]
    unfold rmS
    rw [if_neg (fun h => hk h.1)]
theorem tdiv_bd {x h : Int} (hh : 0 < h) : (0 ≤ x → 0 ≤ x.tdiv h ∧ x.tdiv h ≤ x) ∧ (x ≤ 0 → x ≤ x.tdiv h ∧ x.tdiv h ≤ 0) := by
  constructor
  · intro h0
    rw [Int.tdiv_eq_ediv_of_nonneg h0]
    exact ⟨Int.ediv_nonneg h0 (by omega), Int.ediv_le_self _ h0⟩
  · intro h0
    have h1 : x.tdiv h = -((-x) / h) := by rw [← Int.tdiv_eq_ediv_of_nonneg (show 0 ≤ -x by omega), Int.neg_tdiv, Int.neg_neg]
    have h2 := Int.ediv_nonneg (show 0 ≤ -x by omega) (show 0 ≤ h by omega)
    have h3 := Int.ediv_le_self (a := -x) h (by omega)
    omega
theorem rm_at {l : List Sp} {ts : List Int} {j : Nat} {s : Sp} (hx : l[j]? = some s) : (((l.map (beh ts)).flatMap Rg.enc).drop (j * 2)).take 2 = [.int .i64 (behLo s ts), .int .i64 (behHi s ts)] := by
  have := rg_at (l := l.map (beh ts)) (i := j) (r := beh ts s) (by simp [hx])
  simpa [beh] using this
/-- The loop, with so many springs to come. -/
def PL (σ : Stack) (l : List Sp) (ts : List Int) (k : Int) (d9 d10 d12 d13 : D) (m : Nat) : Prop := ∀ (j v w : Nat) (a : Int), j + m = l.length → -10000000000000 ≤ a → a ≤ 1000000 →
    WL T [0, 1, 2, 7, 9, 10, 12, 13, 15, 16, 17, 18] false f_law11_LeaseSprings_l33 [(0, spsD l), (1, .lst ts.length (ts.flatMap intE)), (2, .int .i64 k), (7, .lst (l.map (beh ts)).length ((l.map (beh ts)).flatMap Rg.enc)), (9, d9), (10, d10), (12, d12), (13, d13), (15, .sl σ.length 0 v 0 (whichF (harmP ts) 0 (l.take j)).length 1), (16, .sl σ.length 1 w 0 (whichF (harmS ts) 0 (l.take j)).length 1), (17, .int .i64 a), (18, .int .i64 j)]
      ([.cells v ((whichF (harmP ts) 0 (l.take j)).flatMap intE), .cells w ((whichF (harmS ts) 0 (l.take j)).flatMap intE)] :: σ)
      (fun x e σ' => ∃ v w, x = .exit 0 ∧ get e 1 = .lst ts.length (ts.flatMap intE) ∧ get e 2 = .int .i64 k ∧ get e 9 = d9 ∧ get e 10 = d10 ∧ get e 12 = d12 ∧ get e 13 = d13 ∧ get e 15 = .sl σ.length 0 v 0 (whichF (harmP ts) 0 l).length 1 ∧ get e 16 = .sl σ.length 1 w 0 (whichF (harmS ts) 0 l).length 1 ∧ get e 17 = .int .i64 (rmL ts k (l.drop j) a) ∧ σ' = [.cells v ((whichF (harmP ts) 0 l).flatMap intE), .cells w ((whichF (harmS ts) 0 l).flatMap intE)] :: σ)
theorem L_law0 {l : List Sp} {ts : List Int} {k : Int} {d9 d10 d12 d13 : D} (s9 : d9.calm = d9) (s10 : d10.calm = d10) (s12 : d12.calm = d12) (s13 : d13.calm = d13) : PL σ l ts k d9 d10 d12 d13 0 := by
  intro j v w a hi _ _
  refine WL_step e_law11_LeaseSprings_l33 ?_
  have g1 : ¬ j < l.length := by omega
  have g2 : l.take j = l := List.take_of_length_le (by omega)
  have g3 : l.drop j = [] := List.drop_eq_nil_of_le (by omega)
  rw [g2, g3]
  simp [-List.length_flatMap, -List.map_take, e_law11_LeaseSprings_r0, e_law11_LeaseSprings_r1, e_law11_LeaseSprings_r2, e_law11_LeaseSprings_r3, e_law11_LeaseSprings_r4, e_law11_LeaseSprings_r5, e_law11_LeaseSprings_r6, e_law11_LeaseSprings_r7, e_law11_LeaseSprings_r8, e_law11_LeaseSprings_r9, e_law11_LeaseSprings_r10, e_law11_LeaseSprings_r11, e_law11_LeaseSprings_r12, e_law11_LeaseSprings_r13, e_law11_LeaseSprings_r14, e_law11_LeaseSprings_r15, e_law11_LeaseSprings_r16, e_law11_LeaseSprings_r17, e_law11_LeaseSprings_r18, e_law11_LeaseSprings_r19, e_law11_LeaseSprings_r20, e_law11_LeaseSprings_r21, e_law11_LeaseSprings_r22, e_law11_LeaseSprings_r23, e_law11_LeaseSprings_r24, e_law11_LeaseSprings_r25, e_law11_LeaseSprings_r26, e_law11_LeaseSprings_r27, e_law11_LeaseSprings_r28, e_law11_LeaseSprings_r29, e_law11_LeaseSprings_r30, e_law11_LeaseSprings_r31, e_law11_LeaseSprings_r32, e_law11_LeaseSprings_r34, e_law11_LeaseSprings_r35, e_law11_LeaseSprings_r36, e_law11_LeaseSprings_r37, e_law11_LeaseSprings_r38, e_law11_LeaseSprings_r39, e_law11_LeaseSprings_r40, g1, s9, s10, s12, s13, rmL]
theorem L_law11neg {l : List Sp} (h1 : spsOk l = true) {ts : List Int} (h2 : tkOk l ts = true) {k : Int} {d9 d10 d12 d13 : D} (s9 : d9.calm = d9) (s10 : d10.calm = d10) (s12 : d12.calm = d12) (s13 : d13.calm = d13) {m : Nat} (IH : PL σ l ts k d9 d10 d12 d13 m) {j v w : Nat} {a : Int} (hi : j + (m + 1) = l.length) (b0 : -10000000000000 ≤ a) (b1 : a ≤ 1000000) {s : Sp} (hx : l[j]? = some s) (c1 : behLo s ts < 1000 * s.least) (c2 : behHi s ts < 1000 * s.least) (kq : ¬ 0 ≤ k) :
    WL T [0, 1, 2, 7, 9, 10, 12, 13, 15, 16, 17, 18] false f_law11_LeaseSprings_l33 [(0, spsD l), (1, .lst ts.length (ts.flatMap intE)), (2, .int .i64 k), (7, .lst (l.map (beh ts)).length ((l.map (beh ts)).flatMap Rg.enc)), (9, d9), (10, d10), (12, d12), (13, d13), (15, .sl σ.length 0 v 0 (whichF (harmP ts) 0 (l.take j)).length 1), (16, .sl σ.length 1 w 0 (whichF (harmS ts) 0 (l.take j)).length 1), (17, .int .i64 a), (18, .int .i64 j)]
      ([.cells v ((whichF (harmP ts) 0 (l.take j)).flatMap intE), .cells w ((whichF (harmS ts) 0 (l.take j)).flatMap intE)] :: σ)
      (fun x e σ' => ∃ v w, x = .exit 0 ∧ get e 1 = .lst ts.length (ts.flatMap intE) ∧ get e 2 = .int .i64 k ∧ get e 9 = d9 ∧ get e 10 = d10 ∧ get e 12 = d12 ∧ get e 13 = d13 ∧ get e 15 = .sl σ.length 0 v 0 (whichF (harmP ts) 0 l).length 1 ∧ get e 16 = .sl σ.length 1 w 0 (whichF (harmS ts) 0 l).length 1 ∧ get e 17 = .int .i64 (rmL ts k (l.drop j) a) ∧ σ' = [.cells v ((whichF (harmP ts) 0 l).flatMap intE), .cells w ((whichF (harmS ts) 0 l).flatMap intE)] :: σ) := by
    refine WL_step e_law11_LeaseSprings_l33 ?_
    have hs1 := spsOk_iff.1 h1
    have ht1 := tkOk_iff.1 h2
    have g1 : j < l.length := by omega
    have hB := fun σ => C_behR (σ := σ) h1 h2 (List.mem_of_getElem? hx)
    have hk := spOk_iff.1 (hs1.2.2 s (List.mem_of_getElem? hx))
    have hbd := loF_bd ts s.l (1000 * s.flow) ht1.2 hk.2.2.2
    have hbd' : -1000000000000 ≤ behLo s ts ∧ behLo s ts ≤ 1000000000000 := by unfold behLo; omega
    have a1 := sp_at hx
    have a2 := rm_at (ts := ts) hx
    have hP := which_snoc (p := harmP ts) hx
    have hS := which_snoc (p := harmS ts) hx
    have lP := which_len (harmP ts) (l.take j) 0
    have lS := which_len (harmS ts) (l.take j) 0
    have ih := fun v w a h h' => IH (j + 1) v w a (by omega) h h'
    have wj := w64 (n := (j : Int)) (by omega)
    have w1 := wnext g1 (by omega)
    have w2 := w64 (n := 1000 * s.least) (by omega)
    have w3 := w64 (n := behLo s ts - 1000 * s.least) (by omega)
    rw [dropS hx, rmL]
    have hrm : rmS ts k a s = rmS ts k a s := rfl
    conv at hrm => rhs; unfold rmS
    generalize rmS ts k a s = a' at *
    simp only [List.length_take] at lP lS
    generalize whichF (harmP ts) 0 (l.take (j + 1)) = P' at *
    generalize whichF (harmS ts) 0 (l.take (j + 1)) = S' at *
    generalize whichF (harmP ts) 0 (l.take j) = P at *
    generalize whichF (harmS ts) 0 (l.take j) = S at *
    have p3 := flat_len (f := intE) (w := 1) (fun _ => rfl) P
    have s3 := flat_len (f := intE) (w := 1) (fun _ => rfl) S
    rw [Nat.mul_one] at p3 s3
    have p5 : (P.flatMap intE).take P.length = P.flatMap intE := List.take_of_length_le (by omega)
    have s5 : (S.flatMap intE).take S.length = S.flatMap intE := List.take_of_length_le (by omega)
    have p7 : (P.length + 1) * 8 ≤ room := by unfold room; omega
    have s7 : (S.length + 1) * 8 ≤ room := by unfold room; omega
    have d1 : harmP ts s = true := by simp [harmP, c1]
    rw [d1, if_pos rfl] at hP
    have d2 : harmS ts s = true := by simp [harmS, c2]
    rw [d2, if_pos rfl] at hS
    subst hP hS
    have k0 := kq
    rw [if_neg (by omega)] at hrm
    subst hrm
    have hb0 := b0
    have hb1 := b1
    simp [-List.length_flatMap, -List.map_take, e_law11_LeaseSprings_r0, e_law11_LeaseSprings_r1, e_law11_LeaseSprings_r2, e_law11_LeaseSprings_r3, e_law11_LeaseSprings_r4, e_law11_LeaseSprings_r5, e_law11_LeaseSprings_r6, e_law11_LeaseSprings_r7, e_law11_LeaseSprings_r8, e_law11_LeaseSprings_r9, e_law11_LeaseSprings_r10, e_law11_LeaseSprings_r11, e_law11_LeaseSprings_r12, e_law11_LeaseSprings_r13, e_law11_LeaseSprings_r14, e_law11_LeaseSprings_r15, e_law11_LeaseSprings_r16, e_law11_LeaseSprings_r17, e_law11_LeaseSprings_r18, e_law11_LeaseSprings_r19, e_law11_LeaseSprings_r20, e_law11_LeaseSprings_r21, e_law11_LeaseSprings_r22, e_law11_LeaseSprings_r23, e_law11_LeaseSprings_r24, e_law11_LeaseSprings_r25, e_law11_LeaseSprings_r26, e_law11_LeaseSprings_r27, e_law11_LeaseSprings_r28, e_law11_LeaseSprings_r29, e_law11_LeaseSprings_r30, e_law11_LeaseSprings_r31, e_law11_LeaseSprings_r32, e_law11_LeaseSprings_r34, e_law11_LeaseSprings_r35, e_law11_LeaseSprings_r36, e_law11_LeaseSprings_r37, e_law11_LeaseSprings_r38, e_law11_LeaseSprings_r39, e_law11_LeaseSprings_r40, g1, a1, a2, hB, w1, w2, w3, wj, c1, c2, p3, p5, p7, s3, s5, s7, s9, s10, s12, s13, k0]
    refine WL.to (ih (v + 1) (w + 1) _ hb0 hb1) (by simp) (by simp) fun x e σ hh => hh
theorem L_law11bey {l : List Sp} (h1 : spsOk l = true) {ts : List Int} (h2 : tkOk l ts = true) {k : Int} {d9 d10 d12 d13 : D} (s9 : d9.calm = d9) (s10 : d10.calm = d10) (s12 : d12.calm = d12) (s13 : d13.calm = d13) {m : Nat} (IH : PL σ l ts k d9 d10 d12 d13 m) {j v w : Nat} {a : Int} (hi : j + (m + 1) = l.length) (b0 : -10000000000000 ≤ a) (b1 : a ≤ 1000000) {s : Sp} (hx : l[j]? = some s) (c1 : behLo s ts < 1000 * s.least) (c2 : behHi s ts < 1000 * s.least) (kq : 0 ≤ k ∧ ¬ k < ts.length) :
    WL T [0, 1, 2, 7, 9, 10, 12, 13, 15, 16, 17, 18] false f_law11_LeaseSprings_l33 [(0, spsD l), (1, .lst ts.length (ts.flatMap intE)), (2, .int .i64 k), (7, .lst (l.map (beh ts)).length ((l.map (beh ts)).flatMap Rg.enc)), (9, d9), (10, d10), (12, d12), (13, d13), (15, .sl σ.length 0 v 0 (whichF (harmP ts) 0 (l.take j)).length 1), (16, .sl σ.length 1 w 0 (whichF (harmS ts) 0 (l.take j)).length 1), (17, .int .i64 a), (18, .int .i64 j)]
      ([.cells v ((whichF (harmP ts) 0 (l.take j)).flatMap intE), .cells w ((whichF (harmS ts) 0 (l.take j)).flatMap intE)] :: σ)
      (fun x e σ' => ∃ v w, x = .exit 0 ∧ get e 1 = .lst ts.length (ts.flatMap intE) ∧ get e 2 = .int .i64 k ∧ get e 9 = d9 ∧ get e 10 = d10 ∧ get e 12 = d12 ∧ get e 13 = d13 ∧ get e 15 = .sl σ.length 0 v 0 (whichF (harmP ts) 0 l).length 1 ∧ get e 16 = .sl σ.length 1 w 0 (whichF (harmS ts) 0 l).length 1 ∧ get e 17 = .int .i64 (rmL ts k (l.drop j) a) ∧ σ' = [.cells v ((whichF (harmP ts) 0 l).flatMap intE), .cells w ((whichF (harmS ts) 0 l).flatMap intE)] :: σ) := by
    refine WL_step e_law11_LeaseSprings_l33 ?_
    have hs1 := spsOk_iff.1 h1
    have ht1 := tkOk_iff.1 h2
    have g1 : j < l.length := by omega
    have hB := fun σ => C_behR (σ := σ) h1 h2 (List.mem_of_getElem? hx)
    have hk := spOk_iff.1 (hs1.2.2 s (List.mem_of_getElem? hx))
    have hbd := loF_bd ts s.l (1000 * s.flow) ht1.2 hk.2.2.2
    have hbd' : -1000000000000 ≤ behLo s ts ∧ behLo s ts ≤ 1000000000000 := by unfold behLo; omega
    have a1 := sp_at hx
    have a2 := rm_at (ts := ts) hx
    have hP := which_snoc (p := harmP ts) hx
    have hS := which_snoc (p := harmS ts) hx
    have lP := which_len (harmP ts) (l.take j) 0
    have lS := which_len (harmS ts) (l.take j) 0
    have ih := fun v w a h h' => IH (j + 1) v w a (by omega) h h'
    have wj := w64 (n := (j : Int)) (by omega)
    have w1 := wnext g1 (by omega)
    have w2 := w64 (n := 1000 * s.least) (by omega)
    have w3 := w64 (n := behLo s ts - 1000 * s.least) (by omega)
    rw [dropS hx, rmL]
    have hrm : rmS ts k a s = rmS ts k a s := rfl
    conv at hrm => rhs; unfold rmS
    generalize rmS ts k a s = a' at *
    simp only [List.length_take] at lP lS
    generalize whichF (harmP ts) 0 (l.take (j + 1)) = P' at *
    generalize whichF (harmS ts) 0 (l.take (j + 1)) = S' at *
    generalize whichF (harmP ts) 0 (l.take j) = P at *
    generalize whichF (harmS ts) 0 (l.take j) = S at *
    have p3 := flat_len (f := intE) (w := 1) (fun _ => rfl) P
    have s3 := flat_len (f := intE) (w := 1) (fun _ => rfl) S
    rw [Nat.mul_one] at p3 s3
    have p5 : (P.flatMap intE).take P.length = P.flatMap intE := List.take_of_length_le (by omega)
    have s5 : (S.flatMap intE).take S.length = S.flatMap intE := List.take_of_length_le (by omega)
    have p7 : (P.length + 1) * 8 ≤ room := by unfold room; omega
    have s7 : (S.length + 1) * 8 ≤ room := by unfold room; omega
    have d1 : harmP ts s = true := by simp [harmP, c1]
    rw [d1, if_pos rfl] at hP
    have d2 : harmS ts s = true := by simp [harmS, c2]
    rw [d2, if_pos rfl] at hS
    subst hP hS
    have k0 := kq.1
    have k1 := kq.2
    rw [if_neg (by omega)] at hrm
    subst hrm
    have hb0 := b0
    have hb1 := b1
    simp [-List.length_flatMap, -List.map_take, e_law11_LeaseSprings_r0, e_law11_LeaseSprings_r1, e_law11_LeaseSprings_r2, e_law11_LeaseSprings_r3, e_law11_LeaseSprings_r4, e_law11_LeaseSprings_r5, e_law11_LeaseSprings_r6, e_law11_LeaseSprings_r7, e_law11_LeaseSprings_r8, e_law11_LeaseSprings_r9, e_law11_LeaseSprings_r10, e_law11_LeaseSprings_r11, e_law11_LeaseSprings_r12, e_law11_LeaseSprings_r13, e_law11_LeaseSprings_r14, e_law11_LeaseSprings_r15, e_law11_LeaseSprings_r16, e_law11_LeaseSprings_r17, e_law11_LeaseSprings_r18, e_law11_LeaseSprings_r19, e_law11_LeaseSprings_r20, e_law11_LeaseSprings_r21, e_law11_LeaseSprings_r22, e_law11_LeaseSprings_r23, e_law11_LeaseSprings_r24, e_law11_LeaseSprings_r25, e_law11_LeaseSprings_r26, e_law11_LeaseSprings_r27, e_law11_LeaseSprings_r28, e_law11_LeaseSprings_r29, e_law11_LeaseSprings_r30, e_law11_LeaseSprings_r31, e_law11_LeaseSprings_r32, e_law11_LeaseSprings_r34, e_law11_LeaseSprings_r35, e_law11_LeaseSprings_r36, e_law11_LeaseSprings_r37, e_law11_LeaseSprings_r38, e_law11_LeaseSprings_r39, e_law11_LeaseSprings_r40, g1, a1, a2, hB, w1, w2, w3, wj, c1, c2, p3, p5, p7, s3, s5, s7, s9, s10, s12, s13, k0, k1]
    refine WL.to (ih (v + 1) (w + 1) _ hb0 hb1) (by simp) (by simp) fun x e σ hh => hh
theorem L_law11pull {l : List Sp} (h1 : spsOk l = true) {ts : List Int} (h2 : tkOk l ts = true) {k : Int} {d9 d10 d12 d13 : D} (s9 : d9.calm = d9) (s10 : d10.calm = d10) (s12 : d12.calm = d12) (s13 : d13.calm = d13) {m : Nat} (IH : PL σ l ts k d9 d10 d12 d13 m) {j v w : Nat} {a : Int} (hi : j + (m + 1) = l.length) (b0 : -10000000000000 ≤ a) (b1 : a ≤ 1000000) {s : Sp} (hx : l[j]? = some s) (c1 : behLo s ts < 1000 * s.least) (c2 : behHi s ts < 1000 * s.least) (kq : (0 ≤ k ∧ k < ts.length) ∧ 0 < (s.l.getD k.toNat ⟨0, 0⟩).hi) :
    WL T [0, 1, 2, 7, 9, 10, 12, 13, 15, 16, 17, 18] false f_law11_LeaseSprings_l33 [(0, spsD l), (1, .lst ts.length (ts.flatMap intE)), (2, .int .i64 k), (7, .lst (l.map (beh ts)).length ((l.map (beh ts)).flatMap Rg.enc)), (9, d9), (10, d10), (12, d12), (13, d13), (15, .sl σ.length 0 v 0 (whichF (harmP ts) 0 (l.take j)).length 1), (16, .sl σ.length 1 w 0 (whichF (harmS ts) 0 (l.take j)).length 1), (17, .int .i64 a), (18, .int .i64 j)]
      ([.cells v ((whichF (harmP ts) 0 (l.take j)).flatMap intE), .cells w ((whichF (harmS ts) 0 (l.take j)).flatMap intE)] :: σ)
      (fun x e σ' => ∃ v w, x = .exit 0 ∧ get e 1 = .lst ts.length (ts.flatMap intE) ∧ get e 2 = .int .i64 k ∧ get e 9 = d9 ∧ get e 10 = d10 ∧ get e 12 = d12 ∧ get e 13 = d13 ∧ get e 15 = .sl σ.length 0 v 0 (whichF (harmP ts) 0 l).length 1 ∧ get e 16 = .sl σ.length 1 w 0 (whichF (harmS ts) 0 l).length 1 ∧ get e 17 = .int .i64 (rmL ts k (l.drop j) a) ∧ σ' = [.cells v ((whichF (harmP ts) 0 l).flatMap intE), .cells w ((whichF (harmS ts) 0 l).flatMap intE)] :: σ) := by
    refine WL_step e_law11_LeaseSprings_l33 ?_
    have hs1 := spsOk_iff.1 h1
    have ht1 := tkOk_iff.1 h2
    have g1 : j < l.length := by omega
    have hB := fun σ => C_behR (σ := σ) h1 h2 (List.mem_of_getElem? hx)
    have hk := spOk_iff.1 (hs1.2.2 s (List.mem_of_getElem? hx))
    have hbd := loF_bd ts s.l (1000 * s.flow) ht1.2 hk.2.2.2
    have hbd' : -1000000000000 ≤ behLo s ts ∧ behLo s ts ≤ 1000000000000 := by unfold behLo; omega
    have a1 := sp_at hx
    have a2 := rm_at (ts := ts) hx
    have hP := which_snoc (p := harmP ts) hx
    have hS := which_snoc (p := harmS ts) hx
    have lP := which_len (harmP ts) (l.take j) 0
    have lS := which_len (harmS ts) (l.take j) 0
    have ih := fun v w a h h' => IH (j + 1) v w a (by omega) h h'
    have wj := w64 (n := (j : Int)) (by omega)
    have w1 := wnext g1 (by omega)
    have w2 := w64 (n := 1000 * s.least) (by omega)
    have w3 := w64 (n := behLo s ts - 1000 * s.least) (by omega)
    rw [dropS hx, rmL]
    have hrm : rmS ts k a s = rmS ts k a s := rfl
    conv at hrm => rhs; unfold rmS
    generalize rmS ts k a s = a' at *
    simp only [List.length_take] at lP lS
    generalize whichF (harmP ts) 0 (l.take (j + 1)) = P' at *
    generalize whichF (harmS ts) 0 (l.take (j + 1)) = S' at *
    generalize whichF (harmP ts) 0 (l.take j) = P at *
    generalize whichF (harmS ts) 0 (l.take j) = S at *
    have p3 := flat_len (f := intE) (w := 1) (fun _ => rfl) P
    have s3 := flat_len (f := intE) (w := 1) (fun _ => rfl) S
    rw [Nat.mul_one] at p3 s3
    have p5 : (P.flatMap intE).take P.length = P.flatMap intE := List.take_of_length_le (by omega)
    have s5 : (S.flatMap intE).take S.length = S.flatMap intE := List.take_of_length_le (by omega)
    have p7 : (P.length + 1) * 8 ≤ room := by unfold room; omega
    have s7 : (S.length + 1) * 8 ≤ room := by unfold room; omega
    have d1 : harmP ts s = true := by simp [harmP, c1]
    rw [d1, if_pos rfl] at hP
    have d2 : harmS ts s = true := by simp [harmS, c2]
    rw [d2, if_pos rfl] at hS
    subst hP hS
    obtain ⟨n, rfl⟩ : ∃ n : Nat, k = n := ⟨k.toNat, by omega⟩
    have y1 : n < s.l.length := by omega
    obtain ⟨r, hy⟩ : ∃ x, s.l[n]? = some x := ⟨_, List.getElem?_eq_getElem y1⟩
    have y2 := rg_at hy
    have hrb := hk.2.2.2 r (List.mem_of_getElem? hy)
    rw [Int.toNat_natCast, rgD_of hy] at hrm kq
    have k1 : n < ts.length := by omega
    have y3 := kq.2
    rw [if_pos kq] at hrm
    have tb := tdiv_bd (x := behLo s ts - 1000 * s.least) y3
    have t4 : ¬ r.hi = 0 := by omega
    generalize htd : (behLo s ts - 1000 * s.least).tdiv r.hi = td at *
    have hb0 : -10000000000000 ≤ a' := by omega
    have hb1 : a' ≤ 1000000 := by omega
    have t5 := htd
    have t6 := w64 (n := td) (by omega)
    subst hrm
    simp [-List.length_flatMap, -List.map_take, e_law11_LeaseSprings_r0, e_law11_LeaseSprings_r1, e_law11_LeaseSprings_r2, e_law11_LeaseSprings_r3, e_law11_LeaseSprings_r4, e_law11_LeaseSprings_r5, e_law11_LeaseSprings_r6, e_law11_LeaseSprings_r7, e_law11_LeaseSprings_r8, e_law11_LeaseSprings_r9, e_law11_LeaseSprings_r10, e_law11_LeaseSprings_r11, e_law11_LeaseSprings_r12, e_law11_LeaseSprings_r13, e_law11_LeaseSprings_r14, e_law11_LeaseSprings_r15, e_law11_LeaseSprings_r16, e_law11_LeaseSprings_r17, e_law11_LeaseSprings_r18, e_law11_LeaseSprings_r19, e_law11_LeaseSprings_r20, e_law11_LeaseSprings_r21, e_law11_LeaseSprings_r22, e_law11_LeaseSprings_r23, e_law11_LeaseSprings_r24, e_law11_LeaseSprings_r25, e_law11_LeaseSprings_r26, e_law11_LeaseSprings_r27, e_law11_LeaseSprings_r28, e_law11_LeaseSprings_r29, e_law11_LeaseSprings_r30, e_law11_LeaseSprings_r31, e_law11_LeaseSprings_r32, e_law11_LeaseSprings_r34, e_law11_LeaseSprings_r35, e_law11_LeaseSprings_r36, e_law11_LeaseSprings_r37, e_law11_LeaseSprings_r38, e_law11_LeaseSprings_r39, e_law11_LeaseSprings_r40, g1, a1, a2, hB, w1, w2, w3, wj, c1, c2, p3, p5, p7, s3, s5, s7, s9, s10, s12, s13, k1, y1, y2, y3, t4, t5, t6]
    refine WL.to (ih (v + 1) (w + 1) _ hb0 hb1) (by simp) (by simp) fun x e σ hh => hh
theorem L_law11none {l : List Sp} (h1 : spsOk l = true) {ts : List Int} (h2 : tkOk l ts = true) {k : Int} {d9 d10 d12 d13 : D} (s9 : d9.calm = d9) (s10 : d10.calm = d10) (s12 : d12.calm = d12) (s13 : d13.calm = d13) {m : Nat} (IH : PL σ l ts k d9 d10 d12 d13 m) {j v w : Nat} {a : Int} (hi : j + (m + 1) = l.length) (b0 : -10000000000000 ≤ a) (b1 : a ≤ 1000000) {s : Sp} (hx : l[j]? = some s) (c1 : behLo s ts < 1000 * s.least) (c2 : behHi s ts < 1000 * s.least) (kq : (0 ≤ k ∧ k < ts.length) ∧ ¬ 0 < (s.l.getD k.toNat ⟨0, 0⟩).hi) :
    WL T [0, 1, 2, 7, 9, 10, 12, 13, 15, 16, 17, 18] false f_law11_LeaseSprings_l33 [(0, spsD l), (1, .lst ts.length (ts.flatMap intE)), (2, .int .i64 k), (7, .lst (l.map (beh ts)).length ((l.map (beh ts)).flatMap Rg.enc)), (9, d9), (10, d10), (12, d12), (13, d13), (15, .sl σ.length 0 v 0 (whichF (harmP ts) 0 (l.take j)).length 1), (16, .sl σ.length 1 w 0 (whichF (harmS ts) 0 (l.take j)).length 1), (17, .int .i64 a), (18, .int .i64 j)]
      ([.cells v ((whichF (harmP ts) 0 (l.take j)).flatMap intE), .cells w ((whichF (harmS ts) 0 (l.take j)).flatMap intE)] :: σ)
      (fun x e σ' => ∃ v w, x = .exit 0 ∧ get e 1 = .lst ts.length (ts.flatMap intE) ∧ get e 2 = .int .i64 k ∧ get e 9 = d9 ∧ get e 10 = d10 ∧ get e 12 = d12 ∧ get e 13 = d13 ∧ get e 15 = .sl σ.length 0 v 0 (whichF (harmP ts) 0 l).length 1 ∧ get e 16 = .sl σ.length 1 w 0 (whichF (harmS ts) 0 l).length 1 ∧ get e 17 = .int .i64 (rmL ts k (l.drop j) a) ∧ σ' = [.cells v ((whichF (harmP ts) 0 l).flatMap intE), .cells w ((whichF (harmS ts) 0 l).flatMap intE)] :: σ) := by
    refine WL_step e_law11_LeaseSprings_l33 ?_
    have hs1 := spsOk_iff.1 h1
    have ht1 := tkOk_iff.1 h2
    have g1 : j < l.length := by omega
    have hB := fun σ => C_behR (σ := σ) h1 h2 (List.mem_of_getElem? hx)
    have hk := spOk_iff.1 (hs1.2.2 s (List.mem_of_getElem? hx))
    have hbd := loF_bd ts s.l (1000 * s.flow) ht1.2 hk.2.2.2
    have hbd' : -1000000000000 ≤ behLo s ts ∧ behLo s ts ≤ 1000000000000 := by unfold behLo; omega
    have a1 := sp_at hx
    have a2 := rm_at (ts := ts) hx
    have hP := which_snoc (p := harmP ts) hx
    have hS := which_snoc (p := harmS ts) hx
    have lP := which_len (harmP ts) (l.take j) 0
    have lS := which_len (harmS ts) (l.take j) 0
    have ih := fun v w a h h' => IH (j + 1) v w a (by omega) h h'
    have wj := w64 (n := (j : Int)) (by omega)
    have w1 := wnext g1 (by omega)
    have w2 := w64 (n := 1000 * s.least) (by omega)
    have w3 := w64 (n := behLo s ts - 1000 * s.least) (by omega)
    rw [dropS hx, rmL]
    have hrm : rmS ts k a s = rmS ts k a s := rfl
    conv at hrm => rhs; unfold rmS
    generalize rmS ts k a s = a' at *
    simp only [List.length_take] at lP lS
    generalize whichF (harmP ts) 0 (l.take (j + 1)) = P' at *
    generalize whichF (harmS ts) 0 (l.take (j + 1)) = S' at *
    generalize whichF (harmP ts) 0 (l.take j) = P at *
    generalize whichF (harmS ts) 0 (l.take j) = S at *
    have p3 := flat_len (f := intE) (w := 1) (fun _ => rfl) P
    have s3 := flat_len (f := intE) (w := 1) (fun _ => rfl) S
    rw [Nat.mul_one] at p3 s3
    have p5 : (P.flatMap intE).take P.length = P.flatMap intE := List.take_of_length_le (by omega)
    have s5 : (S.flatMap intE).take S.length = S.flatMap intE := List.take_of_length_le (by omega)
    have p7 : (P.length + 1) * 8 ≤ room := by unfold room; omega
    have s7 : (S.length + 1) * 8 ≤ room := by unfold room; omega
    have d1 : harmP ts s = true := by simp [harmP, c1]
    rw [d1, if_pos rfl] at hP
    have d2 : harmS ts s = true := by simp [harmS, c2]
    rw [d2, if_pos rfl] at hS
    subst hP hS
    obtain ⟨n, rfl⟩ : ∃ n : Nat, k = n := ⟨k.toNat, by omega⟩
    have y1 : n < s.l.length := by omega
    obtain ⟨r, hy⟩ : ∃ x, s.l[n]? = some x := ⟨_, List.getElem?_eq_getElem y1⟩
    have y2 := rg_at hy
    have hrb := hk.2.2.2 r (List.mem_of_getElem? hy)
    rw [Int.toNat_natCast, rgD_of hy] at hrm kq
    have k1 : n < ts.length := by omega
    have y3 := kq.2
    rw [if_neg (by omega)] at hrm
    subst hrm
    have hb0 := b0
    have hb1 := b1
    simp [-List.length_flatMap, -List.map_take, e_law11_LeaseSprings_r0, e_law11_LeaseSprings_r1, e_law11_LeaseSprings_r2, e_law11_LeaseSprings_r3, e_law11_LeaseSprings_r4, e_law11_LeaseSprings_r5, e_law11_LeaseSprings_r6, e_law11_LeaseSprings_r7, e_law11_LeaseSprings_r8, e_law11_LeaseSprings_r9, e_law11_LeaseSprings_r10, e_law11_LeaseSprings_r11, e_law11_LeaseSprings_r12, e_law11_LeaseSprings_r13, e_law11_LeaseSprings_r14, e_law11_LeaseSprings_r15, e_law11_LeaseSprings_r16, e_law11_LeaseSprings_r17, e_law11_LeaseSprings_r18, e_law11_LeaseSprings_r19, e_law11_LeaseSprings_r20, e_law11_LeaseSprings_r21, e_law11_LeaseSprings_r22, e_law11_LeaseSprings_r23, e_law11_LeaseSprings_r24, e_law11_LeaseSprings_r25, e_law11_LeaseSprings_r26, e_law11_LeaseSprings_r27, e_law11_LeaseSprings_r28, e_law11_LeaseSprings_r29, e_law11_LeaseSprings_r30, e_law11_LeaseSprings_r31, e_law11_LeaseSprings_r32, e_law11_LeaseSprings_r34, e_law11_LeaseSprings_r35, e_law11_LeaseSprings_r36, e_law11_LeaseSprings_r37, e_law11_LeaseSprings_r38, e_law11_LeaseSprings_r39, e_law11_LeaseSprings_r40, g1, a1, a2, hB, w1, w2, w3, wj, c1, c2, p3, p5, p7, s3, s5, s7, s9, s10, s12, s13, k1, y1, y2, y3]
    refine WL.to (ih (v + 1) (w + 1) _ hb0 hb1) (by simp) (by simp) fun x e σ hh => hh
theorem L_law10neg {l : List Sp} (h1 : spsOk l = true) {ts : List Int} (h2 : tkOk l ts = true) {k : Int} {d9 d10 d12 d13 : D} (s9 : d9.calm = d9) (s10 : d10.calm = d10) (s12 : d12.calm = d12) (s13 : d13.calm = d13) {m : Nat} (IH : PL σ l ts k d9 d10 d12 d13 m) {j v w : Nat} {a : Int} (hi : j + (m + 1) = l.length) (b0 : -10000000000000 ≤ a) (b1 : a ≤ 1000000) {s : Sp} (hx : l[j]? = some s) (c1 : behLo s ts < 1000 * s.least) (c2 : ¬ behHi s ts < 1000 * s.least) (kq : ¬ 0 ≤ k) :
    WL T [0, 1, 2, 7, 9, 10, 12, 13, 15, 16, 17, 18] false f_law11_LeaseSprings_l33 [(0, spsD l), (1, .lst ts.length (ts.flatMap intE)), (2, .int .i64 k), (7, .lst (l.map (beh ts)).length ((l.map (beh ts)).flatMap Rg.enc)), (9, d9), (10, d10), (12, d12), (13, d13), (15, .sl σ.length 0 v 0 (whichF (harmP ts) 0 (l.take j)).length 1), (16, .sl σ.length 1 w 0 (whichF (harmS ts) 0 (l.take j)).length 1), (17, .int .i64 a), (18, .int .i64 j)]
      ([.cells v ((whichF (harmP ts) 0 (l.take j)).flatMap intE), .cells w ((whichF (harmS ts) 0 (l.take j)).flatMap intE)] :: σ)
      (fun x e σ' => ∃ v w, x = .exit 0 ∧ get e 1 = .lst ts.length (ts.flatMap intE) ∧ get e 2 = .int .i64 k ∧ get e 9 = d9 ∧ get e 10 = d10 ∧ get e 12 = d12 ∧ get e 13 = d13 ∧ get e 15 = .sl σ.length 0 v 0 (whichF (harmP ts) 0 l).length 1 ∧ get e 16 = .sl σ.length 1 w 0 (whichF (harmS ts) 0 l).length 1 ∧ get e 17 = .int .i64 (rmL ts k (l.drop j) a) ∧ σ' = [.cells v ((whichF (harmP ts) 0 l).flatMap intE), .cells w ((whichF (harmS ts) 0 l).flatMap intE)] :: σ) := by
    refine WL_step e_law11_LeaseSprings_l33 ?_
    have hs1 := spsOk_iff.1 h1
    have ht1 := tkOk_iff.1 h2
    have g1 : j < l.length := by omega
    have hB := fun σ => C_behR (σ := σ) h1 h2 (List.mem_of_getElem? hx)
    have hk := spOk_iff.1 (hs1.2.2 s (List.mem_of_getElem? hx))
    have hbd := loF_bd ts s.l (1000 * s.flow) ht1.2 hk.2.2.2
    have hbd' : -1000000000000 ≤ behLo s ts ∧ behLo s ts ≤ 1000000000000 := by unfold behLo; omega
    have a1 := sp_at hx
    have a2 := rm_at (ts := ts) hx
    have hP := which_snoc (p := harmP ts) hx
    have hS := which_snoc (p := harmS ts) hx
    have lP := which_len (harmP ts) (l.take j) 0
    have lS := which_len (harmS ts) (l.take j) 0
    have ih := fun v w a h h' => IH (j + 1) v w a (by omega) h h'
    have wj := w64 (n := (j : Int)) (by omega)
    have w1 := wnext g1 (by omega)
    have w2 := w64 (n := 1000 * s.least) (by omega)
    have w3 := w64 (n := behLo s ts - 1000 * s.least) (by omega)
    rw [dropS hx, rmL]
    have hrm : rmS ts k a s = rmS ts k a s := rfl
    conv at hrm => rhs; unfold rmS
    generalize rmS ts k a s = a' at *
    simp only [List.length_take] at lP lS
    generalize whichF (harmP ts) 0 (l.take (j + 1)) = P' at *
    generalize whichF (harmS ts) 0 (l.take (j + 1)) = S' at *
    generalize whichF (harmP ts) 0 (l.take j) = P at *
    generalize whichF (harmS ts) 0 (l.take j) = S at *
    have p3 := flat_len (f := intE) (w := 1) (fun _ => rfl) P
    have s3 := flat_len (f := intE) (w := 1) (fun _ => rfl) S
    rw [Nat.mul_one] at p3 s3
    have p5 : (P.flatMap intE).take P.length = P.flatMap intE := List.take_of_length_le (by omega)
    have s5 : (S.flatMap intE).take S.length = S.flatMap intE := List.take_of_length_le (by omega)
    have p7 : (P.length + 1) * 8 ≤ room := by unfold room; omega
    have s7 : (S.length + 1) * 8 ≤ room := by unfold room; omega
    have d1 : harmP ts s = true := by simp [harmP, c1]
    rw [d1, if_pos rfl] at hP
    have d2 : harmS ts s = false := by simp [harmS]; omega
    rw [d2] at hS
    simp only [Bool.false_eq_true, if_false, List.append_nil] at hS
    subst hP hS
    have k0 := kq
    rw [if_neg (by omega)] at hrm
    subst hrm
    have hb0 := b0
    have hb1 := b1
    simp [-List.length_flatMap, -List.map_take, e_law11_LeaseSprings_r0, e_law11_LeaseSprings_r1, e_law11_LeaseSprings_r2, e_law11_LeaseSprings_r3, e_law11_LeaseSprings_r4, e_law11_LeaseSprings_r5, e_law11_LeaseSprings_r6, e_law11_LeaseSprings_r7, e_law11_LeaseSprings_r8, e_law11_LeaseSprings_r9, e_law11_LeaseSprings_r10, e_law11_LeaseSprings_r11, e_law11_LeaseSprings_r12, e_law11_LeaseSprings_r13, e_law11_LeaseSprings_r14, e_law11_LeaseSprings_r15, e_law11_LeaseSprings_r16, e_law11_LeaseSprings_r17, e_law11_LeaseSprings_r18, e_law11_LeaseSprings_r19, e_law11_LeaseSprings_r20, e_law11_LeaseSprings_r21, e_law11_LeaseSprings_r22, e_law11_LeaseSprings_r23, e_law11_LeaseSprings_r24, e_law11_LeaseSprings_r25, e_law11_LeaseSprings_r26, e_law11_LeaseSprings_r27, e_law11_LeaseSprings_r28, e_law11_LeaseSprings_r29, e_law11_LeaseSprings_r30, e_law11_LeaseSprings_r31, e_law11_LeaseSprings_r32, e_law11_LeaseSprings_r34, e_law11_LeaseSprings_r35, e_law11_LeaseSprings_r36, e_law11_LeaseSprings_r37, e_law11_LeaseSprings_r38, e_law11_LeaseSprings_r39, e_law11_LeaseSprings_r40, g1, a1, a2, hB, w1, w2, w3, wj, c1, c2, p3, p5, p7, s3, s5, s7, s9, s10, s12, s13, k0]
    refine WL.to (ih (v + 1) w _ hb0 hb1) (by simp) (by simp) fun x e σ hh => hh
theorem L_law10bey {l : List Sp} (h1 : spsOk l = true) {ts : List Int} (h2 : tkOk l ts = true) {k : Int} {d9 d10 d12 d13 : D} (s9 : d9.calm = d9) (s10 : d10.calm = d10) (s12 : d12.calm = d12) (s13 : d13.calm = d13) {m : Nat} (IH : PL σ l ts k d9 d10 d12 d13 m) {j v w : Nat} {a : Int} (hi : j + (m + 1) = l.length) (b0 : -10000000000000 ≤ a) (b1 : a ≤ 1000000) {s : Sp} (hx : l[j]? = some s) (c1 : behLo s ts < 1000 * s.least) (c2 : ¬ behHi s ts < 1000 * s.least) (kq : 0 ≤ k ∧ ¬ k < ts.length) :
    WL T [0, 1, 2, 7, 9, 10, 12, 13, 15, 16, 17, 18] false f_law11_LeaseSprings_l33 [(0, spsD l), (1, .lst ts.length (ts.flatMap intE)), (2, .int .i64 k), (7, .lst (l.map (beh ts)).length ((l.map (beh ts)).flatMap Rg.enc)), (9, d9), (10, d10), (12, d12), (13, d13), (15, .sl σ.length 0 v 0 (whichF (harmP ts) 0 (l.take j)).length 1), (16, .sl σ.length 1 w 0 (whichF (harmS ts) 0 (l.take j)).length 1), (17, .int .i64 a), (18, .int .i64 j)]
      ([.cells v ((whichF (harmP ts) 0 (l.take j)).flatMap intE), .cells w ((whichF (harmS ts) 0 (l.take j)).flatMap intE)] :: σ)
      (fun x e σ' => ∃ v w, x = .exit 0 ∧ get e 1 = .lst ts.length (ts.flatMap intE) ∧ get e 2 = .int .i64 k ∧ get e 9 = d9 ∧ get e 10 = d10 ∧ get e 12 = d12 ∧ get e 13 = d13 ∧ get e 15 = .sl σ.length 0 v 0 (whichF (harmP ts) 0 l).length 1 ∧ get e 16 = .sl σ.length 1 w 0 (whichF (harmS ts) 0 l).length 1 ∧ get e 17 = .int .i64 (rmL ts k (l.drop j) a) ∧ σ' = [.cells v ((whichF (harmP ts) 0 l).flatMap intE), .cells w ((whichF (harmS ts) 0 l).flatMap intE)] :: σ) := by
    refine WL_step e_law11_LeaseSprings_l33 ?_
    have hs1 := spsOk_iff.1 h1
    have ht1 := tkOk_iff.1 h2
    have g1 : j < l.length := by omega
    have hB := fun σ => C_behR (σ := σ) h1 h2 (List.mem_of_getElem? hx)
    have hk := spOk_iff.1 (hs1.2.2 s (List.mem_of_getElem? hx))
    have hbd := loF_bd ts s.l (1000 * s.flow) ht1.2 hk.2.2.2
    have hbd' : -1000000000000 ≤ behLo s ts ∧ behLo s ts ≤ 1000000000000 := by unfold behLo; omega
    have a1 := sp_at hx
    have a2 := rm_at (ts := ts) hx
    have hP := which_snoc (p := harmP ts) hx
    have hS := which_snoc (p := harmS ts) hx
    have lP := which_len (harmP ts) (l.take j) 0
    have lS := which_len (harmS ts) (l.take j) 0
    have ih := fun v w a h h' => IH (j + 1) v w a (by omega) h h'
    have wj := w64 (n := (j : Int)) (by omega)
    have w1 := wnext g1 (by omega)
    have w2 := w64 (n := 1000 * s.least) (by omega)
    have w3 := w64 (n := behLo s ts - 1000 * s.least) (by omega)
    rw [dropS hx, rmL]
    have hrm : rmS ts k a s = rmS ts k a s := rfl
    conv at hrm => rhs; unfold rmS
    generalize rmS ts k a s = a' at *
    simp only [List.length_take] at lP lS
    generalize whichF (harmP ts) 0 (l.take (j + 1)) = P' at *
    generalize whichF (harmS ts) 0 (l.take (j + 1)) = S' at *
    generalize whichF (harmP ts) 0 (l.take j) = P at *
    generalize whichF (harmS ts) 0 (l.take j) = S at *
    have p3 := flat_len (f := intE) (w := 1) (fun _ => rfl) P
    have s3 := flat_len (f := intE) (w := 1) (fun _ => rfl) S
    rw [Nat.mul_one] at p3 s3
    have p5 : (P.flatMap intE).take P.length = P.flatMap intE := List.take_of_length_le (by omega)
    have s5 : (S.flatMap intE).take S.length = S.flatMap intE := List.take_of_length_le (by omega)
    have p7 : (P.length + 1) * 8 ≤ room := by unfold room; omega
    have s7 : (S.length + 1) * 8 ≤ room := by unfold room; omega
    have d1 : harmP ts s = true := by simp [harmP, c1]
    rw [d1, if_pos rfl] at hP
    have d2 : harmS ts s = false := by simp [harmS]; omega
    rw [d2] at hS
    simp only [Bool.false_eq_true, if_false, List.append_nil] at hS
    subst hP hS
    have k0 := kq.1
    have k1 := kq.2
    rw [if_neg (by omega)] at hrm
    subst hrm
    have hb0 := b0
    have hb1 := b1
    simp [-List.length_flatMap, -List.map_take, e_law11_LeaseSprings_r0, e_law11_LeaseSprings_r1, e_law11_LeaseSprings_r2, e_law11_LeaseSprings_r3, e_law11_LeaseSprings_r4, e_law11_LeaseSprings_r5, e_law11_LeaseSprings_r6, e_law11_LeaseSprings_r7, e_law11_LeaseSprings_r8, e_law11_LeaseSprings_r9, e_law11_LeaseSprings_r10, e_law11_LeaseSprings_r11, e_law11_LeaseSprings_r12, e_law11_LeaseSprings_r13, e_law11_LeaseSprings_r14, e_law11_LeaseSprings_r15, e_law11_LeaseSprings_r16, e_law11_LeaseSprings_r17, e_law11_LeaseSprings_r18, e_law11_LeaseSprings_r19, e_law11_LeaseSprings_r20, e_law11_LeaseSprings_r21, e_law11_LeaseSprings_r22, e_law11_LeaseSprings_r23, e_law11_LeaseSprings_r24, e_law11_LeaseSprings_r25, e_law11_LeaseSprings_r26, e_law11_LeaseSprings_r27, e_law11_LeaseSprings_r28, e_law11_LeaseSprings_r29, e_law11_LeaseSprings_r30, e_law11_LeaseSprings_r31, e_law11_LeaseSprings_r32, e_law11_LeaseSprings_r34, e_law11_LeaseSprings_r35, e_law11_LeaseSprings_r36, e_law11_LeaseSprings_r37, e_law11_LeaseSprings_r38, e_law11_LeaseSprings_r39, e_law11_LeaseSprings_r40, g1, a1, a2, hB, w1, w2, w3, wj, c1, c2, p3, p5, p7, s3, s5, s7, s9, s10, s12, s13, k0, k1]
    refine WL.to (ih (v + 1) w _ hb0 hb1) (by simp) (by simp) fun x e σ hh => hh
theorem L_law10pull {l : List Sp} (h1 : spsOk l = true) {ts : List Int} (h2 : tkOk l ts = true) {k : Int} {d9 d10 d12 d13 : D} (s9 : d9.calm = d9) (s10 : d10.calm = d10) (s12 : d12.calm = d12) (s13 : d13.calm = d13) {m : Nat} (IH : PL σ l ts k d9 d10 d12 d13 m) {j v w : Nat} {a : Int} (hi : j + (m + 1) = l.length) (b0 : -10000000000000 ≤ a) (b1 : a ≤ 1000000) {s : Sp} (hx : l[j]? = some s) (c1 : behLo s ts < 1000 * s.least) (c2 : ¬ behHi s ts < 1000 * s.least) (kq : (0 ≤ k ∧ k < ts.length) ∧ 0 < (s.l.getD k.toNat ⟨0, 0⟩).hi) :
    WL T [0, 1, 2, 7, 9, 10, 12, 13, 15, 16, 17, 18] false f_law11_LeaseSprings_l33 [(0, spsD l), (1, .lst ts.length (ts.flatMap intE)), (2, .int .i64 k), (7, .lst (l.map (beh ts)).length ((l.map (beh ts)).flatMap Rg.enc)), (9, d9), (10, d10), (12, d12), (13, d13), (15, .sl σ.length 0 v 0 (whichF (harmP ts) 0 (l.take j)).length 1), (16, .sl σ.length 1 w 0 (whichF (harmS ts) 0 (l.take j)).length 1), (17, .int .i64 a), (18, .int .i64 j)]
      ([.cells v ((whichF (harmP ts) 0 (l.take j)).flatMap intE), .cells w ((whichF (harmS ts) 0 (l.take j)).flatMap intE)] :: σ)
      (fun x e σ' => ∃ v w, x = .exit 0 ∧ get e 1 = .lst ts.length (ts.flatMap intE) ∧ get e 2 = .int .i64 k ∧ get e 9 = d9 ∧ get e 10 = d10 ∧ get e 12 = d12 ∧ get e 13 = d13 ∧ get e 15 = .sl σ.length 0 v 0 (whichF (harmP ts) 0 l).length 1 ∧ get e 16 = .sl σ.length 1 w 0 (whichF (harmS ts) 0 l).length 1 ∧ get e 17 = .int .i64 (rmL ts k (l.drop j) a) ∧ σ' = [.cells v ((whichF (harmP ts) 0 l).flatMap intE), .cells w ((whichF (harmS ts) 0 l).flatMap intE)] :: σ) := by
    refine WL_step e_law11_LeaseSprings_l33 ?_
    have hs1 := spsOk_iff.1 h1
    have ht1 := tkOk_iff.1 h2
    have g1 : j < l.length := by omega
    have hB := fun σ => C_behR (σ := σ) h1 h2 (List.mem_of_getElem? hx)
    have hk := spOk_iff.1 (hs1.2.2 s (List.mem_of_getElem? hx))
    have hbd := loF_bd ts s.l (1000 * s.flow) ht1.2 hk.2.2.2
    have hbd' : -1000000000000 ≤ behLo s ts ∧ behLo s ts ≤ 1000000000000 := by unfold behLo; omega
    have a1 := sp_at hx
    have a2 := rm_at (ts := ts) hx
    have hP := which_snoc (p := harmP ts) hx
    have hS := which_snoc (p := harmS ts) hx
    have lP := which_len (harmP ts) (l.take j) 0
    have lS := which_len (harmS ts) (l.take j) 0
    have ih := fun v w a h h' => IH (j + 1) v w a (by omega) h h'
    have wj := w64 (n := (j : Int)) (by omega)
    have w1 := wnext g1 (by omega)
    have w2 := w64 (n := 1000 * s.least) (by omega)
    have w3 := w64 (n := behLo s ts - 1000 * s.least) (by omega)
    rw [dropS hx, rmL]
    have hrm : rmS ts k a s = rmS ts k a s := rfl
    conv at hrm => rhs; unfold rmS
    generalize rmS ts k a s = a' at *
    simp only [List.length_take] at lP lS
    generalize whichF (harmP ts) 0 (l.take (j + 1)) = P' at *
    generalize whichF (harmS ts) 0 (l.take (j + 1)) = S' at *
    generalize whichF (harmP ts) 0 (l.take j) = P at *
    generalize whichF (harmS ts) 0 (l.take j) = S at *
    have p3 := flat_len (f := intE) (w := 1) (fun _ => rfl) P
    have s3 := flat_len (f := intE) (w := 1) (fun _ => rfl) S
    rw [Nat.mul_one] at p3 s3
    have p5 : (P.flatMap intE).take P.length = P.flatMap intE := List.take_of_length_le (by omega)
    have s5 : (S.flatMap intE).take S.length = S.flatMap intE := List.take_of_length_le (by omega)
    have p7 : (P.length + 1) * 8 ≤ room := by unfold room; omega
    have s7 : (S.length + 1) * 8 ≤ room := by unfold room; omega
    have d1 : harmP ts s = true := by simp [harmP, c1]
    rw [d1, if_pos rfl] at hP
    have d2 : harmS ts s = false := by simp [harmS]; omega
    rw [d2] at hS
    simp only [Bool.false_eq_true, if_false, List.append_nil] at hS
    subst hP hS
    obtain ⟨n, rfl⟩ : ∃ n : Nat, k = n := ⟨k.toNat, by omega⟩
    have y1 : n < s.l.length := by omega
    obtain ⟨r, hy⟩ : ∃ x, s.l[n]? = some x := ⟨_, List.getElem?_eq_getElem y1⟩
    have y2 := rg_at hy
    have hrb := hk.2.2.2 r (List.mem_of_getElem? hy)
    rw [Int.toNat_natCast, rgD_of hy] at hrm kq
    have k1 : n < ts.length := by omega
    have y3 := kq.2
    rw [if_pos kq] at hrm
    have tb := tdiv_bd (x := behLo s ts - 1000 * s.least) y3
    have t4 : ¬ r.hi = 0 := by omega
    generalize htd : (behLo s ts - 1000 * s.least).tdiv r.hi = td at *
    have hb0 : -10000000000000 ≤ a' := by omega
    have hb1 : a' ≤ 1000000 := by omega
    have t5 := htd
    have t6 := w64 (n := td) (by omega)
    subst hrm
    simp [-List.length_flatMap, -List.map_take, e_law11_LeaseSprings_r0, e_law11_LeaseSprings_r1, e_law11_LeaseSprings_r2, e_law11_LeaseSprings_r3, e_law11_LeaseSprings_r4, e_law11_LeaseSprings_r5, e_law11_LeaseSprings_r6, e_law11_LeaseSprings_r7, e_law11_LeaseSprings_r8, e_law11_LeaseSprings_r9, e_law11_LeaseSprings_r10, e_law11_LeaseSprings_r11, e_law11_LeaseSprings_r12, e_law11_LeaseSprings_r13, e_law11_LeaseSprings_r14, e_law11_LeaseSprings_r15, e_law11_LeaseSprings_r16, e_law11_LeaseSprings_r17, e_law11_LeaseSprings_r18, e_law11_LeaseSprings_r19, e_law11_LeaseSprings_r20, e_law11_LeaseSprings_r21, e_law11_LeaseSprings_r22, e_law11_LeaseSprings_r23, e_law11_LeaseSprings_r24, e_law11_LeaseSprings_r25, e_law11_LeaseSprings_r26, e_law11_LeaseSprings_r27, e_law11_LeaseSprings_r28, e_law11_LeaseSprings_r29, e_law11_LeaseSprings_r30, e_law11_LeaseSprings_r31, e_law11_LeaseSprings_r32, e_law11_LeaseSprings_r34, e_law11_LeaseSprings_r35, e_law11_LeaseSprings_r36, e_law11_LeaseSprings_r37, e_law11_LeaseSprings_r38, e_law11_LeaseSprings_r39, e_law11_LeaseSprings_r40, g1, a1, a2, hB, w1, w2, w3, wj, c1, c2, p3, p5, p7, s3, s5, s7, s9, s10, s12, s13, k1, y1, y2, y3, t4, t5, t6]
    refine WL.to (ih (v + 1) w _ hb0 hb1) (by simp) (by simp) fun x e σ hh => hh
theorem L_law10none {l : List Sp} (h1 : spsOk l = true) {ts : List Int} (h2 : tkOk l ts = true) {k : Int} {d9 d10 d12 d13 : D} (s9 : d9.calm = d9) (s10 : d10.calm = d10) (s12 : d12.calm = d12) (s13 : d13.calm = d13) {m : Nat} (IH : PL σ l ts k d9 d10 d12 d13 m) {j v w : Nat} {a : Int} (hi : j + (m + 1) = l.length) (b0 : -10000000000000 ≤ a) (b1 : a ≤ 1000000) {s : Sp} (hx : l[j]? = some s) (c1 : behLo s ts < 1000 * s.least) (c2 : ¬ behHi s ts < 1000 * s.least) (kq : (0 ≤ k ∧ k < ts.length) ∧ ¬ 0 < (s.l.getD k.toNat ⟨0, 0⟩).hi) :
    WL T [0, 1, 2, 7, 9, 10, 12, 13, 15, 16, 17, 18] false f_law11_LeaseSprings_l33 [(0, spsD l), (1, .lst ts.length (ts.flatMap intE)), (2, .int .i64 k), (7, .lst (l.map (beh ts)).length ((l.map (beh ts)).flatMap Rg.enc)), (9, d9), (10, d10), (12, d12), (13, d13), (15, .sl σ.length 0 v 0 (whichF (harmP ts) 0 (l.take j)).length 1), (16, .sl σ.length 1 w 0 (whichF (harmS ts) 0 (l.take j)).length 1), (17, .int .i64 a), (18, .int .i64 j)]
      ([.cells v ((whichF (harmP ts) 0 (l.take j)).flatMap intE), .cells w ((whichF (harmS ts) 0 (l.take j)).flatMap intE)] :: σ)
      (fun x e σ' => ∃ v w, x = .exit 0 ∧ get e 1 = .lst ts.length (ts.flatMap intE) ∧ get e 2 = .int .i64 k ∧ get e 9 = d9 ∧ get e 10 = d10 ∧ get e 12 = d12 ∧ get e 13 = d13 ∧ get e 15 = .sl σ.length 0 v 0 (whichF (harmP ts) 0 l).length 1 ∧ get e 16 = .sl σ.length 1 w 0 (whichF (harmS ts) 0 l).length 1 ∧ get e 17 = .int .i64 (rmL ts k (l.drop j) a) ∧ σ' = [.cells v ((whichF (harmP ts) 0 l).flatMap intE), .cells w ((whichF (harmS ts) 0 l).flatMap intE)] :: σ) := by
    refine WL_step e_law11_LeaseSprings_l33 ?_
    have hs1 := spsOk_iff.1 h1
    have ht1 := tkOk_iff.1 h2
    have g1 : j < l.length := by omega
    have hB := fun σ => C_behR (σ := σ) h1 h2 (List.mem_of_getElem? hx)
    have hk := spOk_iff.1 (hs1.2.2 s (List.mem_of_getElem? hx))
    have hbd := loF_bd ts s.l (1000 * s.flow) ht1.2 hk.2.2.2
    have hbd' : -1000000000000 ≤ behLo s ts ∧ behLo s ts ≤ 1000000000000 := by unfold behLo; omega
    have a1 := sp_at hx
    have a2 := rm_at (ts := ts) hx
    have hP := which_snoc (p := harmP ts) hx
    have hS := which_snoc (p := harmS ts) hx
    have lP := which_len (harmP ts) (l.take j) 0
    have lS := which_len (harmS ts) (l.take j) 0
    have ih := fun v w a h h' => IH (j + 1) v w a (by omega) h h'
    have wj := w64 (n := (j : Int)) (by omega)
    have w1 := wnext g1 (by omega)
    have w2 := w64 (n := 1000 * s.least) (by omega)
    have w3 := w64 (n := behLo s ts - 1000 * s.least) (by omega)
    rw [dropS hx, rmL]
    have hrm : rmS ts k a s = rmS ts k a s := rfl
    conv at hrm => rhs; unfold rmS
    generalize rmS ts k a s = a' at *
    simp only [List.length_take] at lP lS
    generalize whichF (harmP ts) 0 (l.take (j + 1)) = P' at *
    generalize whichF (harmS ts) 0 (l.take (j + 1)) = S' at *
    generalize whichF (harmP ts) 0 (l.take j) = P at *
    generalize whichF (harmS ts) 0 (l.take j) = S at *
    have p3 := flat_len (f := intE) (w := 1) (fun _ => rfl) P
    have s3 := flat_len (f := intE) (w := 1) (fun _ => rfl) S
    rw [Nat.mul_one] at p3 s3
    have p5 : (P.flatMap intE).take P.length = P.flatMap intE := List.take_of_length_le (by omega)
    have s5 : (S.flatMap intE).take S.length = S.flatMap intE := List.take_of_length_le (by omega)
    have p7 : (P.length + 1) * 8 ≤ room := by unfold room; omega
    have s7 : (S.length + 1) * 8 ≤ room := by unfold room; omega
    have d1 : harmP ts s = true := by simp [harmP, c1]
    rw [d1, if_pos rfl] at hP
    have d2 : harmS ts s = false := by simp [harmS]; omega
    rw [d2] at hS
    simp only [Bool.false_eq_true, if_false, List.append_nil] at hS
    subst hP hS
    obtain ⟨n, rfl⟩ : ∃ n : Nat, k = n := ⟨k.toNat, by omega⟩
    have y1 : n < s.l.length := by omega
    obtain ⟨r, hy⟩ : ∃ x, s.l[n]? = some x := ⟨_, List.getElem?_eq_getElem y1⟩
    have y2 := rg_at hy
    have hrb := hk.2.2.2 r (List.mem_of_getElem? hy)
    rw [Int.toNat_natCast, rgD_of hy] at hrm kq
    have k1 : n < ts.length := by omega
    have y3 := kq.2
    rw [if_neg (by omega)] at hrm
    subst hrm
    have hb0 := b0
    have hb1 := b1
    simp [-List.length_flatMap, -List.map_take, e_law11_LeaseSprings_r0, e_law11_LeaseSprings_r1, e_law11_LeaseSprings_r2, e_law11_LeaseSprings_r3, e_law11_LeaseSprings_r4, e_law11_LeaseSprings_r5, e_law11_LeaseSprings_r6, e_law11_LeaseSprings_r7, e_law11_LeaseSprings_r8, e_law11_LeaseSprings_r9, e_law11_LeaseSprings_r10, e_law11_LeaseSprings_r11, e_law11_LeaseSprings_r12, e_law11_LeaseSprings_r13, e_law11_LeaseSprings_r14, e_law11_LeaseSprings_r15, e_law11_LeaseSprings_r16, e_law11_LeaseSprings_r17, e_law11_LeaseSprings_r18, e_law11_LeaseSprings_r19, e_law11_LeaseSprings_r20, e_law11_LeaseSprings_r21, e_law11_LeaseSprings_r22, e_law11_LeaseSprings_r23, e_law11_LeaseSprings_r24, e_law11_LeaseSprings_r25, e_law11_LeaseSprings_r26, e_law11_LeaseSprings_r27, e_law11_LeaseSprings_r28, e_law11_LeaseSprings_r29, e_law11_LeaseSprings_r30, e_law11_LeaseSprings_r31, e_law11_LeaseSprings_r32, e_law11_LeaseSprings_r34, e_law11_LeaseSprings_r35, e_law11_LeaseSprings_r36, e_law11_LeaseSprings_r37, e_law11_LeaseSprings_r38, e_law11_LeaseSprings_r39, e_law11_LeaseSprings_r40, g1, a1, a2, hB, w1, w2, w3, wj, c1, c2, p3, p5, p7, s3, s5, s7, s9, s10, s12, s13, k1, y1, y2, y3]
    refine WL.to (ih (v + 1) w _ hb0 hb1) (by simp) (by simp) fun x e σ hh => hh
theorem L_law01neg {l : List Sp} (h1 : spsOk l = true) {ts : List Int} (h2 : tkOk l ts = true) {k : Int} {d9 d10 d12 d13 : D} (s9 : d9.calm = d9) (s10 : d10.calm = d10) (s12 : d12.calm = d12) (s13 : d13.calm = d13) {m : Nat} (IH : PL σ l ts k d9 d10 d12 d13 m) {j v w : Nat} {a : Int} (hi : j + (m + 1) = l.length) (b0 : -10000000000000 ≤ a) (b1 : a ≤ 1000000) {s : Sp} (hx : l[j]? = some s) (c1 : ¬ behLo s ts < 1000 * s.least) (c2 : behHi s ts < 1000 * s.least) (kq : ¬ 0 ≤ k) :
    WL T [0, 1, 2, 7, 9, 10, 12, 13, 15, 16, 17, 18] false f_law11_LeaseSprings_l33 [(0, spsD l), (1, .lst ts.length (ts.flatMap intE)), (2, .int .i64 k), (7, .lst (l.map (beh ts)).length ((l.map (beh ts)).flatMap Rg.enc)), (9, d9), (10, d10), (12, d12), (13, d13), (15, .sl σ.length 0 v 0 (whichF (harmP ts) 0 (l.take j)).length 1), (16, .sl σ.length 1 w 0 (whichF (harmS ts) 0 (l.take j)).length 1), (17, .int .i64 a), (18, .int .i64 j)]
      ([.cells v ((whichF (harmP ts) 0 (l.take j)).flatMap intE), .cells w ((whichF (harmS ts) 0 (l.take j)).flatMap intE)] :: σ)
      (fun x e σ' => ∃ v w, x = .exit 0 ∧ get e 1 = .lst ts.length (ts.flatMap intE) ∧ get e 2 = .int .i64 k ∧ get e 9 = d9 ∧ get e 10 = d10 ∧ get e 12 = d12 ∧ get e 13 = d13 ∧ get e 15 = .sl σ.length 0 v 0 (whichF (harmP ts) 0 l).length 1 ∧ get e 16 = .sl σ.length 1 w 0 (whichF (harmS ts) 0 l).length 1 ∧ get e 17 = .int .i64 (rmL ts k (l.drop j) a) ∧ σ' = [.cells v ((whichF (harmP ts) 0 l).flatMap intE), .cells w ((whichF (harmS ts) 0 l).flatMap intE)] :: σ) := by
    refine WL_step e_law11_LeaseSprings_l33 ?_
    have hs1 := spsOk_iff.1 h1
    have ht1 := tkOk_iff.1 h2
    have g1 : j < l.length := by omega
    have hB := fun σ => C_behR (σ := σ) h1 h2 (List.mem_of_getElem? hx)
    have hk := spOk_iff.1 (hs1.2.2 s (List.mem_of_getElem? hx))
    have hbd := loF_bd ts s.l (1000 * s.flow) ht1.2 hk.2.2.2
    have hbd' : -1000000000000 ≤ behLo s ts ∧ behLo s ts ≤ 1000000000000 := by unfold behLo; omega
    have a1 := sp_at hx
    have a2 := rm_at (ts := ts) hx
    have hP := which_snoc (p := harmP ts) hx
    have hS := which_snoc (p := harmS ts) hx
    have lP := which_len (harmP ts) (l.take j) 0
    have lS := which_len (harmS ts) (l.take j) 0
    have ih := fun v w a h h' => IH (j + 1) v w a (by omega) h h'
    have wj := w64 (n := (j : Int)) (by omega)
    have w1 := wnext g1 (by omega)
    have w2 := w64 (n := 1000 * s.least) (by omega)
    have w3 := w64 (n := behLo s ts - 1000 * s.least) (by omega)
    rw [dropS hx, rmL]
    have hrm : rmS ts k a s = rmS ts k a s := rfl
    conv at hrm => rhs; unfold rmS
    generalize rmS ts k a s = a' at *
    simp only [List.length_take] at lP lS
    generalize whichF (harmP ts) 0 (l.take (j + 1)) = P' at *
    generalize whichF (harmS ts) 0 (l.take (j + 1)) = S' at *
    generalize whichF (harmP ts) 0 (l.take j) = P at *
    generalize whichF (harmS ts) 0 (l.take j) = S at *
    have p3 := flat_len (f := intE) (w := 1) (fun _ => rfl) P
    have s3 := flat_len (f := intE) (w := 1) (fun _ => rfl) S
    rw [Nat.mul_one] at p3 s3
    have p5 : (P.flatMap intE).take P.length = P.flatMap intE := List.take_of_length_le (by omega)
    have s5 : (S.flatMap intE).take S.length = S.flatMap intE := List.take_of_length_le (by omega)
    have p7 : (P.length + 1) * 8 ≤ room := by unfold room; omega
    have s7 : (S.length + 1) * 8 ≤ room := by unfold room; omega
    have d1 : harmP ts s = false := by simp [harmP]; omega
    rw [d1] at hP
    simp only [Bool.false_eq_true, if_false, List.append_nil] at hP
    have d2 : harmS ts s = true := by simp [harmS, c2]
    rw [d2, if_pos rfl] at hS
    subst hP hS
    have k0 := kq
    rw [if_neg (by omega)] at hrm
    subst hrm
    have hb0 := b0
    have hb1 := b1
    simp [-List.length_flatMap, -List.map_take, e_law11_LeaseSprings_r0, e_law11_LeaseSprings_r1, e_law11_LeaseSprings_r2, e_law11_LeaseSprings_r3, e_law11_LeaseSprings_r4, e_law11_LeaseSprings_r5, e_law11_LeaseSprings_r6, e_law11_LeaseSprings_r7, e_law11_LeaseSprings_r8, e_law11_LeaseSprings_r9, e_law11_LeaseSprings_r10, e_law11_LeaseSprings_r11, e_law11_LeaseSprings_r12, e_law11_LeaseSprings_r13, e_law11_LeaseSprings_r14, e_law11_LeaseSprings_r15, e_law11_LeaseSprings_r16, e_law11_LeaseSprings_r17, e_law11_LeaseSprings_r18, e_law11_LeaseSprings_r19, e_law11_LeaseSprings_r20, e_law11_LeaseSprings_r21, e_law11_LeaseSprings_r22, e_law11_LeaseSprings_r23, e_law11_LeaseSprings_r24, e_law11_LeaseSprings_r25, e_law11_LeaseSprings_r26, e_law11_LeaseSprings_r27, e_law11_LeaseSprings_r28, e_law11_LeaseSprings_r29, e_law11_LeaseSprings_r30, e_law11_LeaseSprings_r31, e_law11_LeaseSprings_r32, e_law11_LeaseSprings_r34, e_law11_LeaseSprings_r35, e_law11_LeaseSprings_r36, e_law11_LeaseSprings_r37, e_law11_LeaseSprings_r38, e_law11_LeaseSprings_r39, e_law11_LeaseSprings_r40, g1, a1, a2, hB, w1, w2, w3, wj, c1, c2, p3, p5, p7, s3, s5, s7, s9, s10, s12, s13, k0]
    refine WL.to (ih v (w + 1) _ hb0 hb1) (by simp) (by simp) fun x e σ hh => hh
theorem L_law01bey {l : List Sp} (h1 : spsOk l = true) {ts : List Int} (h2 : tkOk l ts = true) {k : Int} {d9 d10 d12 d13 : D} (s9 : d9.calm = d9) (s10 : d10.calm = d10) (s12 : d12.calm = d12) (s13 : d13.calm = d13) {m : Nat} (IH : PL σ l ts k d9 d10 d12 d13 m) {j v w : Nat} {a : Int} (hi : j + (m + 1) = l.length) (b0 : -10000000000000 ≤ a) (b1 : a ≤ 1000000) {s : Sp} (hx : l[j]? = some s) (c1 : ¬ behLo s ts < 1000 * s.least) (c2 : behHi s ts < 1000 * s.least) (kq : 0 ≤ k ∧ ¬ k < ts.length) :
    WL T [0, 1, 2, 7, 9, 10, 12, 13, 15, 16, 17, 18] false f_law11_LeaseSprings_l33 [(0, spsD l), (1, .lst ts.length (ts.flatMap intE)), (2, .int .i64 k), (7, .lst (l.map (beh ts)).length ((l.map (beh ts)).flatMap Rg.enc)), (9, d9), (10, d10), (12, d12), (13, d13), (15, .sl σ.length 0 v 0 (whichF (harmP ts) 0 (l.take j)).length 1), (16, .sl σ.length 1 w 0 (whichF (harmS ts) 0 (l.take j)).length 1), (17, .int .i64 a), (18, .int .i64 j)]
      ([.cells v ((whichF (harmP ts) 0 (l.take j)).flatMap intE), .cells w ((whichF (harmS ts) 0 (l.take j)).flatMap intE)] :: σ)
      (fun x e σ' => ∃ v w, x = .exit 0 ∧ get e 1 = .lst ts.length (ts.flatMap intE) ∧ get e 2 = .int .i64 k ∧ get e 9 = d9 ∧ get e 10 = d10 ∧ get e 12 = d12 ∧ get e 13 = d13 ∧ get e 15 = .sl σ.length 0 v 0 (whichF (harmP ts) 0 l).length 1 ∧ get e 16 = .sl σ.length 1 w 0 (whichF (harmS ts) 0 l).length 1 ∧ get e 17 = .int .i64 (rmL ts k (l.drop j) a) ∧ σ' = [.cells v ((whichF (harmP ts) 0 l).flatMap intE), .cells w ((whichF (harmS ts) 0 l).flatMap intE)] :: σ) := by
    refine WL_step e_law11_LeaseSprings_l33 ?_
    have hs1 := spsOk_iff.1 h1
    have ht1 := tkOk_iff.1 h2
    have g1 : j < l.length := by omega
    have hB := fun σ => C_behR (σ := σ) h1 h2 (List.mem_of_getElem? hx)
    have hk := spOk_iff.1 (hs1.2.2 s (List.mem_of_getElem? hx))
    have hbd := loF_bd ts s.l (1000 * s.flow) ht1.2 hk.2.2.2
    have hbd' : -1000000000000 ≤ behLo s ts ∧ behLo s ts ≤ 1000000000000 := by unfold behLo; omega
    have a1 := sp_at hx
    have a2 := rm_at (ts := ts) hx
    have hP := which_snoc (p := harmP ts) hx
    have hS := which_snoc (p := harmS ts) hx
    have lP := which_len (harmP ts) (l.take j) 0
    have lS := which_len (harmS ts) (l.take j) 0
    have ih := fun v w a h h' => IH (j + 1) v w a (by omega) h h'
    have wj := w64 (n := (j : Int)) (by omega)
    have w1 := wnext g1 (by omega)
    have w2 := w64 (n := 1000 * s.least) (by omega)
    have w3 := w64 (n := behLo s ts - 1000 * s.least) (by omega)
    rw [dropS hx, rmL]
    have hrm : rmS ts k a s = rmS ts k a s := rfl
    conv at hrm => rhs; unfold rmS
    generalize rmS ts k a s = a' at *
    simp only [List.length_take] at lP lS
    generalize whichF (harmP ts) 0 (l.take (j + 1)) = P' at *
    generalize whichF (harmS ts) 0 (l.take (j + 1)) = S' at *
    generalize whichF (harmP ts) 0 (l.take j) = P at *
    generalize whichF (harmS ts) 0 (l.take j) = S at *
    have p3 := flat_len (f := intE) (w := 1) (fun _ => rfl) P
    have s3 := flat_len (f := intE) (w := 1) (fun _ => rfl) S
    rw [Nat.mul_one] at p3 s3
    have p5 : (P.flatMap intE).take P.length = P.flatMap intE := List.take_of_length_le (by omega)
    have s5 : (S.flatMap intE).take S.length = S.flatMap intE := List.take_of_length_le (by omega)
    have p7 : (P.length + 1) * 8 ≤ room := by unfold room; omega
    have s7 : (S.length + 1) * 8 ≤ room := by unfold room; omega
    have d1 : harmP ts s = false := by simp [harmP]; omega
    rw [d1] at hP
    simp only [Bool.false_eq_true, if_false, List.append_nil] at hP
    have d2 : harmS ts s = true := by simp [harmS, c2]
    rw [d2, if_pos rfl] at hS
    subst hP hS
    have k0 := kq.1
    have k1 := kq.2
    rw [if_neg (by omega)] at hrm
    subst hrm
    have hb0 := b0
    have hb1 := b1
    simp [-List.length_flatMap, -List.map_take, e_law11_LeaseSprings_r0, e_law11_LeaseSprings_r1, e_law11_LeaseSprings_r2, e_law11_LeaseSprings_r3, e_law11_LeaseSprings_r4, e_law11_LeaseSprings_r5, e_law11_LeaseSprings_r6, e_law11_LeaseSprings_r7, e_law11_LeaseSprings_r8, e_law11_LeaseSprings_r9, e_law11_LeaseSprings_r10, e_law11_LeaseSprings_r11, e_law11_LeaseSprings_r12, e_law11_LeaseSprings_r13, e_law11_LeaseSprings_r14, e_law11_LeaseSprings_r15, e_law11_LeaseSprings_r16, e_law11_LeaseSprings_r17, e_law11_LeaseSprings_r18, e_law11_LeaseSprings_r19, e_law11_LeaseSprings_r20, e_law11_LeaseSprings_r21, e_law11_LeaseSprings_r22, e_law11_LeaseSprings_r23, e_law11_LeaseSprings_r24, e_law11_LeaseSprings_r25, e_law11_LeaseSprings_r26, e_law11_LeaseSprings_r27, e_law11_LeaseSprings_r28, e_law11_LeaseSprings_r29, e_law11_LeaseSprings_r30, e_law11_LeaseSprings_r31, e_law11_LeaseSprings_r32, e_law11_LeaseSprings_r34, e_law11_LeaseSprings_r35, e_law11_LeaseSprings_r36, e_law11_LeaseSprings_r37, e_law11_LeaseSprings_r38, e_law11_LeaseSprings_r39, e_law11_LeaseSprings_r40, g1, a1, a2, hB, w1, w2, w3, wj, c1, c2, p3, p5, p7, s3, s5, s7, s9, s10, s12, s13, k0, k1]
    refine WL.to (ih v (w + 1) _ hb0 hb1) (by simp) (by simp) fun x e σ hh => hh
theorem L_law01pull {l : List Sp} (h1 : spsOk l = true) {ts : List Int} (h2 : tkOk l ts = true) {k : Int} {d9 d10 d12 d13 : D} (s9 : d9.calm = d9) (s10 : d10.calm = d10) (s12 : d12.calm = d12) (s13 : d13.calm = d13) {m : Nat} (IH : PL σ l ts k d9 d10 d12 d13 m) {j v w : Nat} {a : Int} (hi : j + (m + 1) = l.length) (b0 : -10000000000000 ≤ a) (b1 : a ≤ 1000000) {s : Sp} (hx : l[j]? = some s) (c1 : ¬ behLo s ts < 1000 * s.least) (c2 : behHi s ts < 1000 * s.least) (kq : (0 ≤ k ∧ k < ts.length) ∧ 0 < (s.l.getD k.toNat ⟨0, 0⟩).hi) :
    WL T [0, 1, 2, 7, 9, 10, 12, 13, 15, 16, 17, 18] false f_law11_LeaseSprings_l33 [(0, spsD l), (1, .lst ts.length (ts.flatMap intE)), (2, .int .i64 k), (7, .lst (l.map (beh ts)).length ((l.map (beh ts)).flatMap Rg.enc)), (9, d9), (10, d10), (12, d12), (13, d13), (15, .sl σ.length 0 v 0 (whichF (harmP ts) 0 (l.take j)).length 1), (16, .sl σ.length 1 w 0 (whichF (harmS ts) 0 (l.take j)).length 1), (17, .int .i64 a), (18, .int .i64 j)]
      ([.cells v ((whichF (harmP ts) 0 (l.take j)).flatMap intE), .cells w ((whichF (harmS ts) 0 (l.take j)).flatMap intE)] :: σ)
      (fun x e σ' => ∃ v w, x = .exit 0 ∧ get e 1 = .lst ts.length (ts.flatMap intE) ∧ get e 2 = .int .i64 k ∧ get e 9 = d9 ∧ get e 10 = d10 ∧ get e 12 = d12 ∧ get e 13 = d13 ∧ get e 15 = .sl σ.length 0 v 0 (whichF (harmP ts) 0 l).length 1 ∧ get e 16 = .sl σ.length 1 w 0 (whichF (harmS ts) 0 l).length 1 ∧ get e 17 = .int .i64 (rmL ts k (l.drop j) a) ∧ σ' = [.cells v ((whichF (harmP ts) 0 l).flatMap intE), .cells w ((whichF (harmS ts) 0 l).flatMap intE)] :: σ) := by
    refine WL_step e_law11_LeaseSprings_l33 ?_
    have hs1 := spsOk_iff.1 h1
    have ht1 := tkOk_iff.1 h2
    have g1 : j < l.length := by omega
    have hB := fun σ => C_behR (σ := σ) h1 h2 (List.mem_of_getElem? hx)
    have hk := spOk_iff.1 (hs1.2.2 s (List.mem_of_getElem? hx))
    have hbd := loF_bd ts s.l (1000 * s.flow) ht1.2 hk.2.2.2
    have hbd' : -1000000000000 ≤ behLo s ts ∧ behLo s ts ≤ 1000000000000 := by unfold behLo; omega
    have a1 := sp_at hx
    have a2 := rm_at (ts := ts) hx
    have hP := which_snoc (p := harmP ts) hx
    have hS := which_snoc (p := harmS ts) hx
    have lP := which_len (harmP ts) (l.take j) 0
    have lS := which_len (harmS ts) (l.take j) 0
    have ih := fun v w a h h' => IH (j + 1) v w a (by omega) h h'
    have wj := w64 (n := (j : Int)) (by omega)
    have w1 := wnext g1 (by omega)
    have w2 := w64 (n := 1000 * s.least) (by omega)
    have w3 := w64 (n := behLo s ts - 1000 * s.least) (by omega)
    rw [dropS hx, rmL]
    have hrm : rmS ts k a s = rmS ts k a s := rfl
    conv at hrm => rhs; unfold rmS
    generalize rmS ts k a s = a' at *
    simp only [List.length_take] at lP lS
    generalize whichF (harmP ts) 0 (l.take (j + 1)) = P' at *
    generalize whichF (harmS ts) 0 (l.take (j + 1)) = S' at *
    generalize whichF (harmP ts) 0 (l.take j) = P at *
    generalize whichF (harmS ts) 0 (l.take j) = S at *
    have p3 := flat_len (f := intE) (w := 1) (fun _ => rfl) P
    have s3 := flat_len (f := intE) (w := 1) (fun _ => rfl) S
    rw [Nat.mul_one] at p3 s3
    have p5 : (P.flatMap intE).take P.length = P.flatMap intE := List.take_of_length_le (by omega)
    have s5 : (S.flatMap intE).take S.length = S.flatMap intE := List.take_of_length_le (by omega)
    have p7 : (P.length + 1) * 8 ≤ room := by unfold room; omega
    have s7 : (S.length + 1) * 8 ≤ room := by unfold room; omega
    have d1 : harmP ts s = false := by simp [harmP]; omega
    rw [d1] at hP
    simp only [Bool.false_eq_true, if_false, List.append_nil] at hP
    have d2 : harmS ts s = true := by simp [harmS, c2]
    rw [d2, if_pos rfl] at hS
    subst hP hS
    obtain ⟨n, rfl⟩ : ∃ n : Nat, k = n := ⟨k.toNat, by omega⟩
    have y1 : n < s.l.length := by omega
    obtain ⟨r, hy⟩ : ∃ x, s.l[n]? = some x := ⟨_, List.getElem?_eq_getElem y1⟩
    have y2 := rg_at hy
    have hrb := hk.2.2.2 r (List.mem_of_getElem? hy)
    rw [Int.toNat_natCast, rgD_of hy] at hrm kq
    have k1 : n < ts.length := by omega
    have y3 := kq.2
    rw [if_pos kq] at hrm
    have tb := tdiv_bd (x := behLo s ts - 1000 * s.least) y3
    have t4 : ¬ r.hi = 0 := by omega
    generalize htd : (behLo s ts - 1000 * s.least).tdiv r.hi = td at *
    have hb0 : -10000000000000 ≤ a' := by omega
    have hb1 : a' ≤ 1000000 := by omega
    have t5 := htd
    have t6 := w64 (n := td) (by omega)
    subst hrm
    simp [-List.length_flatMap, -List.map_take, e_law11_LeaseSprings_r0, e_law11_LeaseSprings_r1, e_law11_LeaseSprings_r2, e_law11_LeaseSprings_r3, e_law11_LeaseSprings_r4, e_law11_LeaseSprings_r5, e_law11_LeaseSprings_r6, e_law11_LeaseSprings_r7, e_law11_LeaseSprings_r8, e_law11_LeaseSprings_r9, e_law11_LeaseSprings_r10, e_law11_LeaseSprings_r11, e_law11_LeaseSprings_r12, e_law11_LeaseSprings_r13, e_law11_LeaseSprings_r14, e_law11_LeaseSprings_r15, e_law11_LeaseSprings_r16, e_law11_LeaseSprings_r17, e_law11_LeaseSprings_r18, e_law11_LeaseSprings_r19, e_law11_LeaseSprings_r20, e_law11_LeaseSprings_r21, e_law11_LeaseSprings_r22, e_law11_LeaseSprings_r23, e_law11_LeaseSprings_r24, e_law11_LeaseSprings_r25, e_law11_LeaseSprings_r26, e_law11_LeaseSprings_r27, e_law11_LeaseSprings_r28, e_law11_LeaseSprings_r29, e_law11_LeaseSprings_r30, e_law11_LeaseSprings_r31, e_law11_LeaseSprings_r32, e_law11_LeaseSprings_r34, e_law11_LeaseSprings_r35, e_law11_LeaseSprings_r36, e_law11_LeaseSprings_r37, e_law11_LeaseSprings_r38, e_law11_LeaseSprings_r39, e_law11_LeaseSprings_r40, g1, a1, a2, hB, w1, w2, w3, wj, c1, c2, p3, p5, p7, s3, s5, s7, s9, s10, s12, s13, k1, y1, y2, y3, t4, t5, t6]
    refine WL.to (ih v (w + 1) _ hb0 hb1) (by simp) (by simp) fun x e σ hh => hh
theorem L_law01none {l : List Sp} (h1 : spsOk l = true) {ts : List Int} (h2 : tkOk l ts = true) {k : Int} {d9 d10 d12 d13 : D} (s9 : d9.calm = d9) (s10 : d10.calm = d10) (s12 : d12.calm = d12) (s13 : d13.calm = d13) {m : Nat} (IH : PL σ l ts k d9 d10 d12 d13 m) {j v w : Nat} {a : Int} (hi : j + (m + 1) = l.length) (b0 : -10000000000000 ≤ a) (b1 : a ≤ 1000000) {s : Sp} (hx : l[j]? = some s) (c1 : ¬ behLo s ts < 1000 * s.least) (c2 : behHi s ts < 1000 * s.least) (kq : (0 ≤ k ∧ k < ts.length) ∧ ¬ 0 < (s.l.getD k.toNat ⟨0, 0⟩).hi) :
    WL T [0, 1, 2, 7, 9, 10, 12, 13, 15, 16, 17, 18] false f_law11_LeaseSprings_l33 [(0, spsD l), (1, .lst ts.length (ts.flatMap intE)), (2, .int .i64 k), (7, .lst (l.map (beh ts)).length ((l.map (beh ts)).flatMap Rg.enc)), (9, d9), (10, d10), (12, d12), (13, d13), (15, .sl σ.length 0 v 0 (whichF (harmP ts) 0 (l.take j)).length 1), (16, .sl σ.length 1 w 0 (whichF (harmS ts) 0 (l.take j)).length 1), (17, .int .i64 a), (18, .int .i64 j)]
      ([.cells v ((whichF (harmP ts) 0 (l.take j)).flatMap intE), .cells w ((whichF (harmS ts) 0 (l.take j)).flatMap intE)] :: σ)
      (fun x e σ' => ∃ v w, x = .exit 0 ∧ get e 1 = .lst ts.length (ts.flatMap intE) ∧ get e 2 = .int .i64 k ∧ get e 9 = d9 ∧ get e 10 = d10 ∧ get e 12 = d12 ∧ get e 13 = d13 ∧ get e 15 = .sl σ.length 0 v 0 (whichF (harmP ts) 0 l).length 1 ∧ get e 16 = .sl σ.length 1 w 0 (whichF (harmS ts) 0 l).length 1 ∧ get e 17 = .int .i64 (rmL ts k (l.drop j) a) ∧ σ' = [.cells v ((whichF (harmP ts) 0 l).flatMap intE), .cells w ((whichF (harmS ts) 0 l).flatMap intE)] :: σ) := by
    refine WL_step e_law11_LeaseSprings_l33 ?_
    have hs1 := spsOk_iff.1 h1
    have ht1 := tkOk_iff.1 h2
    have g1 : j < l.length := by omega
    have hB := fun σ => C_behR (σ := σ) h1 h2 (List.mem_of_getElem? hx)
    have hk := spOk_iff.1 (hs1.2.2 s (List.mem_of_getElem? hx))
    have hbd := loF_bd ts s.l (1000 * s.flow) ht1.2 hk.2.2.2
    have hbd' : -1000000000000 ≤ behLo s ts ∧ behLo s ts ≤ 1000000000000 := by unfold behLo; omega
    have a1 := sp_at hx
    have a2 := rm_at (ts := ts) hx
    have hP := which_snoc (p := harmP ts) hx
    have hS := which_snoc (p := harmS ts) hx
    have lP := which_len (harmP ts) (l.take j) 0
    have lS := which_len (harmS ts) (l.take j) 0
    have ih := fun v w a h h' => IH (j + 1) v w a (by omega) h h'
    have wj := w64 (n := (j : Int)) (by omega)
    have w1 := wnext g1 (by omega)
    have w2 := w64 (n := 1000 * s.least) (by omega)
    have w3 := w64 (n := behLo s ts - 1000 * s.least) (by omega)
    rw [dropS hx, rmL]
    have hrm : rmS ts k a s = rmS ts k a s := rfl
    conv at hrm => rhs; unfold rmS
    generalize rmS ts k a s = a' at *
    simp only [List.length_take] at lP lS
    generalize whichF (harmP ts) 0 (l.take (j + 1)) = P' at *
    generalize whichF (harmS ts) 0 (l.take (j + 1)) = S' at *
    generalize whichF (harmP ts) 0 (l.take j) = P at *
    generalize whichF (harmS ts) 0 (l.take j) = S at *
    have p3 := flat_len (f := intE) (w := 1) (fun _ => rfl) P
    have s3 := flat_len (f := intE) (w := 1) (fun _ => rfl) S
    rw [Nat.mul_one] at p3 s3
    have p5 : (P.flatMap intE).take P.length = P.flatMap intE := List.take_of_length_le (by omega)
    have s5 : (S.flatMap intE).take S.length = S.flatMap intE := List.take_of_length_le (by omega)
    have p7 : (P.length + 1) * 8 ≤ room := by unfold room; omega
    have s7 : (S.length + 1) * 8 ≤ room := by unfold room; omega
    have d1 : harmP ts s = false := by simp [harmP]; omega
    rw [d1] at hP
    simp only [Bool.false_eq_true, if_false, List.append_nil] at hP
    have d2 : harmS ts s = true := by simp [harmS, c2]
    rw [d2, if_pos rfl] at hS
    subst hP hS
    obtain ⟨n, rfl⟩ : ∃ n : Nat, k = n := ⟨k.toNat, by omega⟩
    have y1 : n < s.l.length := by omega
    obtain ⟨r, hy⟩ : ∃ x, s.l[n]? = some x := ⟨_, List.getElem?_eq_getElem y1⟩
    have y2 := rg_at hy
    have hrb := hk.2.2.2 r (List.mem_of_getElem? hy)
    rw [Int.toNat_natCast, rgD_of hy] at hrm kq
    have k1 : n < ts.length := by omega
    have y3 := kq.2
    rw [if_neg (by omega)] at hrm
    subst hrm
    have hb0 := b0
    have hb1 := b1
    simp [-List.length_flatMap, -List.map_take, e_law11_LeaseSprings_r0, e_law11_LeaseSprings_r1, e_law11_LeaseSprings_r2, e_law11_LeaseSprings_r3, e_law11_LeaseSprings_r4, e_law11_LeaseSprings_r5, e_law11_LeaseSprings_r6, e_law11_LeaseSprings_r7, e_law11_LeaseSprings_r8, e_law11_LeaseSprings_r9, e_law11_LeaseSprings_r10, e_law11_LeaseSprings_r11, e_law11_LeaseSprings_r12, e_law11_LeaseSprings_r13, e_law11_LeaseSprings_r14, e_law11_LeaseSprings_r15, e_law11_LeaseSprings_r16, e_law11_LeaseSprings_r17, e_law11_LeaseSprings_r18, e_law11_LeaseSprings_r19, e_law11_LeaseSprings_r20, e_law11_LeaseSprings_r21, e_law11_LeaseSprings_r22, e_law11_LeaseSprings_r23, e_law11_LeaseSprings_r24, e_law11_LeaseSprings_r25, e_law11_LeaseSprings_r26, e_law11_LeaseSprings_r27, e_law11_LeaseSprings_r28, e_law11_LeaseSprings_r29, e_law11_LeaseSprings_r30, e_law11_LeaseSprings_r31, e_law11_LeaseSprings_r32, e_law11_LeaseSprings_r34, e_law11_LeaseSprings_r35, e_law11_LeaseSprings_r36, e_law11_LeaseSprings_r37, e_law11_LeaseSprings_r38, e_law11_LeaseSprings_r39, e_law11_LeaseSprings_r40, g1, a1, a2, hB, w1, w2, w3, wj, c1, c2, p3, p5, p7, s3, s5, s7, s9, s10, s12, s13, k1, y1, y2, y3]
    refine WL.to (ih v (w + 1) _ hb0 hb1) (by simp) (by simp) fun x e σ hh => hh
theorem L_law00neg {l : List Sp} (h1 : spsOk l = true) {ts : List Int} (h2 : tkOk l ts = true) {k : Int} {d9 d10 d12 d13 : D} (s9 : d9.calm = d9) (s10 : d10.calm = d10) (s12 : d12.calm = d12) (s13 : d13.calm = d13) {m : Nat} (IH : PL σ l ts k d9 d10 d12 d13 m) {j v w : Nat} {a : Int} (hi : j + (m + 1) = l.length) (b0 : -10000000000000 ≤ a) (b1 : a ≤ 1000000) {s : Sp} (hx : l[j]? = some s) (c1 : ¬ behLo s ts < 1000 * s.least) (c2 : ¬ behHi s ts < 1000 * s.least) (kq : ¬ 0 ≤ k) :
    WL T [0, 1, 2, 7, 9, 10, 12, 13, 15, 16, 17, 18] false f_law11_LeaseSprings_l33 [(0, spsD l), (1, .lst ts.length (ts.flatMap intE)), (2, .int .i64 k), (7, .lst (l.map (beh ts)).length ((l.map (beh ts)).flatMap Rg.enc)), (9, d9), (10, d10), (12, d12), (13, d13), (15, .sl σ.length 0 v 0 (whichF (harmP ts) 0 (l.take j)).length 1), (16, .sl σ.length 1 w 0 (whichF (harmS ts) 0 (l.take j)).length 1), (17, .int .i64 a), (18, .int .i64 j)]
      ([.cells v ((whichF (harmP ts) 0 (l.take j)).flatMap intE), .cells w ((whichF (harmS ts) 0 (l.take j)).flatMap intE)] :: σ)
      (fun x e σ' => ∃ v w, x = .exit 0 ∧ get e 1 = .lst ts.length (ts.flatMap intE) ∧ get e 2 = .int .i64 k ∧ get e 9 = d9 ∧ get e 10 = d10 ∧ get e 12 = d12 ∧ get e 13 = d13 ∧ get e 15 = .sl σ.length 0 v 0 (whichF (harmP ts) 0 l).length 1 ∧ get e 16 = .sl σ.length 1 w 0 (whichF (harmS ts) 0 l).length 1 ∧ get e 17 = .int .i64 (rmL ts k (l.drop j) a) ∧ σ' = [.cells v ((whichF (harmP ts) 0 l).flatMap intE), .cells w ((whichF (harmS ts) 0 l).flatMap intE)] :: σ) := by
    refine WL_step e_law11_LeaseSprings_l33 ?_
    have hs1 := spsOk_iff.1 h1
    have ht1 := tkOk_iff.1 h2
    have g1 : j < l.length := by omega
    have hB := fun σ => C_behR (σ := σ) h1 h2 (List.mem_of_getElem? hx)
    have hk := spOk_iff.1 (hs1.2.2 s (List.mem_of_getElem? hx))
    have hbd := loF_bd ts s.l (1000 * s.flow) ht1.2 hk.2.2.2
    have hbd' : -1000000000000 ≤ behLo s ts ∧ behLo s ts ≤ 1000000000000 := by unfold behLo; omega
    have a1 := sp_at hx
    have a2 := rm_at (ts := ts) hx
    have hP := which_snoc (p := harmP ts) hx
    have hS := which_snoc (p := harmS ts) hx
    have lP := which_len (harmP ts) (l.take j) 0
    have lS := which_len (harmS ts) (l.take j) 0
    have ih := fun v w a h h' => IH (j + 1) v w a (by omega) h h'
    have wj := w64 (n := (j : Int)) (by omega)
    have w1 := wnext g1 (by omega)
    have w2 := w64 (n := 1000 * s.least) (by omega)
    have w3 := w64 (n := behLo s ts - 1000 * s.least) (by omega)
    rw [dropS hx, rmL]
    have hrm : rmS ts k a s = rmS ts k a s := rfl
    conv at hrm => rhs; unfold rmS
    generalize rmS ts k a s = a' at *
    simp only [List.length_take] at lP lS
    generalize whichF (harmP ts) 0 (l.take (j + 1)) = P' at *
    generalize whichF (harmS ts) 0 (l.take (j + 1)) = S' at *
    generalize whichF (harmP ts) 0 (l.take j) = P at *
    generalize whichF (harmS ts) 0 (l.take j) = S at *
    have p3 := flat_len (f := intE) (w := 1) (fun _ => rfl) P
    have s3 := flat_len (f := intE) (w := 1) (fun _ => rfl) S
    rw [Nat.mul_one] at p3 s3
    have p5 : (P.flatMap intE).take P.length = P.flatMap intE := List.take_of_length_le (by omega)
    have s5 : (S.flatMap intE).take S.length = S.flatMap intE := List.take_of_length_le (by omega)
    have p7 : (P.length + 1) * 8 ≤ room := by unfold room; omega
    have s7 : (S.length + 1) * 8 ≤ room := by unfold room; omega
    have d1 : harmP ts s = false := by simp [harmP]; omega
    rw [d1] at hP
    simp only [Bool.false_eq_true, if_false, List.append_nil] at hP
    have d2 : harmS ts s = false := by simp [harmS]; omega
    rw [d2] at hS
    simp only [Bool.false_eq_true, if_false, List.append_nil] at hS
    subst hP hS
    have k0 := kq
    rw [if_neg (by omega)] at hrm
    subst hrm
    have hb0 := b0
    have hb1 := b1
    simp [-List.length_flatMap, -List.map_take, e_law11_LeaseSprings_r0, e_law11_LeaseSprings_r1, e_law11_LeaseSprings_r2, e_law11_LeaseSprings_r3, e_law11_LeaseSprings_r4, e_law11_LeaseSprings_r5, e_law11_LeaseSprings_r6, e_law11_LeaseSprings_r7, e_law11_LeaseSprings_r8, e_law11_LeaseSprings_r9, e_law11_LeaseSprings_r10, e_law11_LeaseSprings_r11, e_law11_LeaseSprings_r12, e_law11_LeaseSprings_r13, e_law11_LeaseSprings_r14, e_law11_LeaseSprings_r15, e_law11_LeaseSprings_r16, e_law11_LeaseSprings_r17, e_law11_LeaseSprings_r18, e_law11_LeaseSprings_r19, e_law11_LeaseSprings_r20, e_law11_LeaseSprings_r21, e_law11_LeaseSprings_r22, e_law11_LeaseSprings_r23, e_law11_LeaseSprings_r24, e_law11_LeaseSprings_r25, e_law11_LeaseSprings_r26, e_law11_LeaseSprings_r27, e_law11_LeaseSprings_r28, e_law11_LeaseSprings_r29, e_law11_LeaseSprings_r30, e_law11_LeaseSprings_r31, e_law11_LeaseSprings_r32, e_law11_LeaseSprings_r34, e_law11_LeaseSprings_r35, e_law11_LeaseSprings_r36, e_law11_LeaseSprings_r37, e_law11_LeaseSprings_r38, e_law11_LeaseSprings_r39, e_law11_LeaseSprings_r40, g1, a1, a2, hB, w1, w2, w3, wj, c1, c2, p3, p5, p7, s3, s5, s7, s9, s10, s12, s13, k0]
    refine WL.to (ih v w _ hb0 hb1) (by simp) (by simp) fun x e σ hh => hh
theorem L_law00bey {l : List Sp} (h1 : spsOk l = true) {ts : List Int} (h2 : tkOk l ts = true) {k : Int} {d9 d10 d12 d13 : D} (s9 : d9.calm = d9) (s10 : d10.calm = d10) (s12 : d12.calm = d12) (s13 : d13.calm = d13) {m : Nat} (IH : PL σ l ts k d9 d10 d12 d13 m) {j v w : Nat} {a : Int} (hi : j + (m + 1) = l.length) (b0 : -10000000000000 ≤ a) (b1 : a ≤ 1000000) {s : Sp} (hx : l[j]? = some s) (c1 : ¬ behLo s ts < 1000 * s.least) (c2 : ¬ behHi s ts < 1000 * s.least) (kq : 0 ≤ k ∧ ¬ k < ts.length) :
    WL T [0, 1, 2, 7, 9, 10, 12, 13, 15, 16, 17, 18] false f_law11_LeaseSprings_l33 [(0, spsD l), (1, .lst ts.length (ts.flatMap intE)), (2, .int .i64 k), (7, .lst (l.map (beh ts)).length ((l.map (beh ts)).flatMap Rg.enc)), (9, d9), (10, d10), (12, d12), (13, d13), (15, .sl σ.length 0 v 0 (whichF (harmP ts) 0 (l.take j)).length 1), (16, .sl σ.length 1 w 0 (whichF (harmS ts) 0 (l.take j)).length 1), (17, .int .i64 a), (18, .int .i64 j)]
      ([.cells v ((whichF (harmP ts) 0 (l.take j)).flatMap intE), .cells w ((whichF (harmS ts) 0 (l.take j)).flatMap intE)] :: σ)
      (fun x e σ' => ∃ v w, x = .exit 0 ∧ get e 1 = .lst ts.length (ts.flatMap intE) ∧ get e 2 = .int .i64 k ∧ get e 9 = d9 ∧ get e 10 = d10 ∧ get e 12 = d12 ∧ get e 13 = d13 ∧ get e 15 = .sl σ.length 0 v 0 (whichF (harmP ts) 0 l).length 1 ∧ get e 16 = .sl σ.length 1 w 0 (whichF (harmS ts) 0 l).length 1 ∧ get e 17 = .int .i64 (rmL ts k (l.drop j) a) ∧ σ' = [.cells v ((whichF (harmP ts) 0 l).flatMap intE), .cells w ((whichF (harmS ts) 0 l).flatMap intE)] :: σ) := by
    refine WL_step e_law11_LeaseSprings_l33 ?_
    have hs1 := spsOk_iff.1 h1
    have ht1 := tkOk_iff.1 h2
    have g1 : j < l.length := by omega
    have hB := fun σ => C_behR (σ := σ) h1 h2 (List.mem_of_getElem? hx)
    have hk := spOk_iff.1 (hs1.2.2 s (List.mem_of_getElem? hx))
    have hbd := loF_bd ts s.l (1000 * s.flow) ht1.2 hk.2.2.2
    have hbd' : -1000000000000 ≤ behLo s ts ∧ behLo s ts ≤ 1000000000000 := by unfold behLo; omega
    have a1 := sp_at hx
    have a2 := rm_at (ts := ts) hx
    have hP := which_snoc (p := harmP ts) hx
    have hS := which_snoc (p := harmS ts) hx
    have lP := which_len (harmP ts) (l.take j) 0
    have lS := which_len (harmS ts) (l.take j) 0
    have ih := fun v w a h h' => IH (j + 1) v w a (by omega) h h'
    have wj := w64 (n := (j : Int)) (by omega)
    have w1 := wnext g1 (by omega)
    have w2 := w64 (n := 1000 * s.least) (by omega)
    have w3 := w64 (n := behLo s ts - 1000 * s.least) (by omega)
    rw [dropS hx, rmL]
    have hrm : rmS ts k a s = rmS ts k a s := rfl
    conv at hrm => rhs; unfold rmS
    generalize rmS ts k a s = a' at *
    simp only [List.length_take] at lP lS
    generalize whichF (harmP ts) 0 (l.take (j + 1)) = P' at *
    generalize whichF (harmS ts) 0 (l.take (j + 1)) = S' at *
    generalize whichF (harmP ts) 0 (l.take j) = P at *
    generalize whichF (harmS ts) 0 (l.take j) = S at *
    have p3 := flat_len (f := intE) (w := 1) (fun _ => rfl) P
    have s3 := flat_len (f := intE) (w := 1) (fun _ => rfl) S
    rw [Nat.mul_one] at p3 s3
    have p5 : (P.flatMap intE).take P.length = P.flatMap intE := List.take_of_length_le (by omega)
    have s5 : (S.flatMap intE).take S.length = S.flatMap intE := List.take_of_length_le (by omega)
    have p7 : (P.length + 1) * 8 ≤ room := by unfold room; omega
    have s7 : (S.length + 1) * 8 ≤ room := by unfold room; omega
    have d1 : harmP ts s = false := by simp [harmP]; omega
    rw [d1] at hP
    simp only [Bool.false_eq_true, if_false, List.append_nil] at hP
    have d2 : harmS ts s = false := by simp [harmS]; omega
    rw [d2] at hS
    simp only [Bool.false_eq_true, if_false, List.append_nil] at hS
    subst hP hS
    have k0 := kq.1
    have k1 := kq.2
    rw [if_neg (by omega)] at hrm
    subst hrm
    have hb0 := b0
    have hb1 := b1
    simp [-List.length_flatMap, -List.map_take, e_law11_LeaseSprings_r0, e_law11_LeaseSprings_r1, e_law11_LeaseSprings_r2, e_law11_LeaseSprings_r3, e_law11_LeaseSprings_r4, e_law11_LeaseSprings_r5, e_law11_LeaseSprings_r6, e_law11_LeaseSprings_r7, e_law11_LeaseSprings_r8, e_law11_LeaseSprings_r9, e_law11_LeaseSprings_r10, e_law11_LeaseSprings_r11, e_law11_LeaseSprings_r12, e_law11_LeaseSprings_r13, e_law11_LeaseSprings_r14, e_law11_LeaseSprings_r15, e_law11_LeaseSprings_r16, e_law11_LeaseSprings_r17, e_law11_LeaseSprings_r18, e_law11_LeaseSprings_r19, e_law11_LeaseSprings_r20, e_law11_LeaseSprings_r21, e_law11_LeaseSprings_r22, e_law11_LeaseSprings_r23, e_law11_LeaseSprings_r24, e_law11_LeaseSprings_r25, e_law11_LeaseSprings_r26, e_law11_LeaseSprings_r27, e_law11_LeaseSprings_r28, e_law11_LeaseSprings_r29, e_law11_LeaseSprings_r30, e_law11_LeaseSprings_r31, e_law11_LeaseSprings_r32, e_law11_LeaseSprings_r34, e_law11_LeaseSprings_r35, e_law11_LeaseSprings_r36, e_law11_LeaseSprings_r37, e_law11_LeaseSprings_r38, e_law11_LeaseSprings_r39, e_law11_LeaseSprings_r40, g1, a1, a2, hB, w1, w2, w3, wj, c1, c2, p3, p5, p7, s3, s5, s7, s9, s10, s12, s13, k0, k1]
    refine WL.to (ih v w _ hb0 hb1) (by simp) (by simp) fun x e σ hh => hh
theorem L_law00pull {l : List Sp} (h1 : spsOk l = true) {ts : List Int} (h2 : tkOk l ts = true) {k : Int} {d9 d10 d12 d13 : D} (s9 : d9.calm = d9) (s10 : d10.calm = d10) (s12 : d12.calm = d12) (s13 : d13.calm = d13) {m : Nat} (IH : PL σ l ts k d9 d10 d12 d13 m) {j v w : Nat} {a : Int} (hi : j + (m + 1) = l.length) (b0 : -10000000000000 ≤ a) (b1 : a ≤ 1000000) {s : Sp} (hx : l[j]? = some s) (c1 : ¬ behLo s ts < 1000 * s.least) (c2 : ¬ behHi s ts < 1000 * s.least) (kq : (0 ≤ k ∧ k < ts.length) ∧ 0 < (s.l.getD k.toNat ⟨0, 0⟩).hi) :
    WL T [0, 1, 2, 7, 9, 10, 12, 13, 15, 16, 17, 18] false f_law11_LeaseSprings_l33 [(0, spsD l), (1, .lst ts.length (ts.flatMap intE)), (2, .int .i64 k), (7, .lst (l.map (beh ts)).length ((l.map (beh ts)).flatMap Rg.enc)), (9, d9), (10, d10), (12, d12), (13, d13), (15, .sl σ.length 0 v 0 (whichF (harmP ts) 0 (l.take j)).length 1), (16, .sl σ.length 1 w 0 (whichF (harmS ts) 0 (l.take j)).length 1), (17, .int .i64 a), (18, .int .i64 j)]
      ([.cells v ((whichF (harmP ts) 0 (l.take j)).flatMap intE), .cells w ((whichF (harmS ts) 0 (l.take j)).flatMap intE)] :: σ)
      (fun x e σ' => ∃ v w, x = .exit 0 ∧ get e 1 = .lst ts.length (ts.flatMap intE) ∧ get e 2 = .int .i64 k ∧ get e 9 = d9 ∧ get e 10 = d10 ∧ get e 12 = d12 ∧ get e 13 = d13 ∧ get e 15 = .sl σ.length 0 v 0 (whichF (harmP ts) 0 l).length 1 ∧ get e 16 = .sl σ.length 1 w 0 (whichF (harmS ts) 0 l).length 1 ∧ get e 17 = .int .i64 (rmL ts k (l.drop j) a) ∧ σ' = [.cells v ((whichF (harmP ts) 0 l).flatMap intE), .cells w ((whichF (harmS ts) 0 l).flatMap intE)] :: σ) := by
    refine WL_step e_law11_LeaseSprings_l33 ?_
    have hs1 := spsOk_iff.1 h1
    have ht1 := tkOk_iff.1 h2
    have g1 : j < l.length := by omega
    have hB := fun σ => C_behR (σ := σ) h1 h2 (List.mem_of_getElem? hx)
    have hk := spOk_iff.1 (hs1.2.2 s (List.mem_of_getElem? hx))
    have hbd := loF_bd ts s.l (1000 * s.flow) ht1.2 hk.2.2.2
    have hbd' : -1000000000000 ≤ behLo s ts ∧ behLo s ts ≤ 1000000000000 := by unfold behLo; omega
    have a1 := sp_at hx
    have a2 := rm_at (ts := ts) hx
    have hP := which_snoc (p := harmP ts) hx
    have hS := which_snoc (p := harmS ts) hx
    have lP := which_len (harmP ts) (l.take j) 0
    have lS := which_len (harmS ts) (l.take j) 0
    have ih := fun v w a h h' => IH (j + 1) v w a (by omega) h h'
    have wj := w64 (n := (j : Int)) (by omega)
    have w1 := wnext g1 (by omega)
    have w2 := w64 (n := 1000 * s.least) (by omega)
    have w3 := w64 (n := behLo s ts - 1000 * s.least) (by omega)
    rw [dropS hx, rmL]
    have hrm : rmS ts k a s = rmS ts k a s := rfl
    conv at hrm => rhs; unfold rmS
    generalize rmS ts k a s = a' at *
    simp only [List.length_take] at lP lS
    generalize whichF (harmP ts) 0 (l.take (j + 1)) = P' at *
    generalize whichF (harmS ts) 0 (l.take (j + 1)) = S' at *
    generalize whichF (harmP ts) 0 (l.take j) = P at *
    generalize whichF (harmS ts) 0 (l.take j) = S at *
    have p3 := flat_len (f := intE) (w := 1) (fun _ => rfl) P
    have s3 := flat_len (f := intE) (w := 1) (fun _ => rfl) S
    rw [Nat.mul_one] at p3 s3
    have p5 : (P.flatMap intE).take P.length = P.flatMap intE := List.take_of_length_le (by omega)
    have s5 : (S.flatMap intE).take S.length = S.flatMap intE := List.take_of_length_le (by omega)
    have p7 : (P.length + 1) * 8 ≤ room := by unfold room; omega
    have s7 : (S.length + 1) * 8 ≤ room := by unfold room; omega
    have d1 : harmP ts s = false := by simp [harmP]; omega
    rw [d1] at hP
    simp only [Bool.false_eq_true, if_false, List.append_nil] at hP
    have d2 : harmS ts s = false := by simp [harmS]; omega
    rw [d2] at hS
    simp only [Bool.false_eq_true, if_false, List.append_nil] at hS
    subst hP hS
    obtain ⟨n, rfl⟩ : ∃ n : Nat, k = n := ⟨k.toNat, by omega⟩
    have y1 : n < s.l.length := by omega
    obtain ⟨r, hy⟩ : ∃ x, s.l[n]? = some x := ⟨_, List.getElem?_eq_getElem y1⟩
    have y2 := rg_at hy
    have hrb := hk.2.2.2 r (List.mem_of_getElem? hy)
    rw [Int.toNat_natCast, rgD_of hy] at hrm kq
    have k1 : n < ts.length := by omega
    have y3 := kq.2
    rw [if_pos kq] at hrm
    have tb := tdiv_bd (x := behLo s ts - 1000 * s.least) y3
    have t4 : ¬ r.hi = 0 := by omega
    generalize htd : (behLo s ts - 1000 * s.least).tdiv r.hi = td at *
    have hb0 : -10000000000000 ≤ a' := by omega
    have hb1 : a' ≤ 1000000 := by omega
    have t5 := htd
    have t6 := w64 (n := td) (by omega)
    subst hrm
    simp [-List.length_flatMap, -List.map_take, e_law11_LeaseSprings_r0, e_law11_LeaseSprings_r1, e_law11_LeaseSprings_r2, e_law11_LeaseSprings_r3, e_law11_LeaseSprings_r4, e_law11_LeaseSprings_r5, e_law11_LeaseSprings_r6, e_law11_LeaseSprings_r7, e_law11_LeaseSprings_r8, e_law11_LeaseSprings_r9, e_law11_LeaseSprings_r10, e_law11_LeaseSprings_r11, e_law11_LeaseSprings_r12, e_law11_LeaseSprings_r13, e_law11_LeaseSprings_r14, e_law11_LeaseSprings_r15, e_law11_LeaseSprings_r16, e_law11_LeaseSprings_r17, e_law11_LeaseSprings_r18, e_law11_LeaseSprings_r19, e_law11_LeaseSprings_r20, e_law11_LeaseSprings_r21, e_law11_LeaseSprings_r22, e_law11_LeaseSprings_r23, e_law11_LeaseSprings_r24, e_law11_LeaseSprings_r25, e_law11_LeaseSprings_r26, e_law11_LeaseSprings_r27, e_law11_LeaseSprings_r28, e_law11_LeaseSprings_r29, e_law11_LeaseSprings_r30, e_law11_LeaseSprings_r31, e_law11_LeaseSprings_r32, e_law11_LeaseSprings_r34, e_law11_LeaseSprings_r35, e_law11_LeaseSprings_r36, e_law11_LeaseSprings_r37, e_law11_LeaseSprings_r38, e_law11_LeaseSprings_r39, e_law11_LeaseSprings_r40, g1, a1, a2, hB, w1, w2, w3, wj, c1, c2, p3, p5, p7, s3, s5, s7, s9, s10, s12, s13, k1, y1, y2, y3, t4, t5, t6]
    refine WL.to (ih v w _ hb0 hb1) (by simp) (by simp) fun x e σ hh => hh
theorem L_law00none {l : List Sp} (h1 : spsOk l = true) {ts : List Int} (h2 : tkOk l ts = true) {k : Int} {d9 d10 d12 d13 : D} (s9 : d9.calm = d9) (s10 : d10.calm = d10) (s12 : d12.calm = d12) (s13 : d13.calm = d13) {m : Nat} (IH : PL σ l ts k d9 d10 d12 d13 m) {j v w : Nat} {a : Int} (hi : j + (m + 1) = l.length) (b0 : -10000000000000 ≤ a) (b1 : a ≤ 1000000) {s : Sp} (hx : l[j]? = some s) (c1 : ¬ behLo s ts < 1000 * s.least) (c2 : ¬ behHi s ts < 1000 * s.least) (kq : (0 ≤ k ∧ k < ts.length) ∧ ¬ 0 < (s.l.getD k.toNat ⟨0, 0⟩).hi) :
    WL T [0, 1, 2, 7, 9, 10, 12, 13, 15, 16, 17, 18] false f_law11_LeaseSprings_l33 [(0, spsD l), (1, .lst ts.length (ts.flatMap intE)), (2, .int .i64 k), (7, .lst (l.map (beh ts)).length ((l.map (beh ts)).flatMap Rg.enc)), (9, d9), (10, d10), (12, d12), (13, d13), (15, .sl σ.length 0 v 0 (whichF (harmP ts) 0 (l.take j)).length 1), (16, .sl σ.length 1 w 0 (whichF (harmS ts) 0 (l.take j)).length 1), (17, .int .i64 a), (18, .int .i64 j)]
      ([.cells v ((whichF (harmP ts) 0 (l.take j)).flatMap intE), .cells w ((whichF (harmS ts) 0 (l.take j)).flatMap intE)] :: σ)
      (fun x e σ' => ∃ v w, x = .exit 0 ∧ get e 1 = .lst ts.length (ts.flatMap intE) ∧ get e 2 = .int .i64 k ∧ get e 9 = d9 ∧ get e 10 = d10 ∧ get e 12 = d12 ∧ get e 13 = d13 ∧ get e 15 = .sl σ.length 0 v 0 (whichF (harmP ts) 0 l).length 1 ∧ get e 16 = .sl σ.length 1 w 0 (whichF (harmS ts) 0 l).length 1 ∧ get e 17 = .int .i64 (rmL ts k (l.drop j) a) ∧ σ' = [.cells v ((whichF (harmP ts) 0 l).flatMap intE), .cells w ((whichF (harmS ts) 0 l).flatMap intE)] :: σ) := by
    refine WL_step e_law11_LeaseSprings_l33 ?_
    have hs1 := spsOk_iff.1 h1
    have ht1 := tkOk_iff.1 h2
    have g1 : j < l.length := by omega
    have hB := fun σ => C_behR (σ := σ) h1 h2 (List.mem_of_getElem? hx)
    have hk := spOk_iff.1 (hs1.2.2 s (List.mem_of_getElem? hx))
    have hbd := loF_bd ts s.l (1000 * s.flow) ht1.2 hk.2.2.2
    have hbd' : -1000000000000 ≤ behLo s ts ∧ behLo s ts ≤ 1000000000000 := by unfold behLo; omega
    have a1 := sp_at hx
    have a2 := rm_at (ts := ts) hx
    have hP := which_snoc (p := harmP ts) hx
    have hS := which_snoc (p := harmS ts) hx
    have lP := which_len (harmP ts) (l.take j) 0
    have lS := which_len (harmS ts) (l.take j) 0
    have ih := fun v w a h h' => IH (j + 1) v w a (by omega) h h'
    have wj := w64 (n := (j : Int)) (by omega)
    have w1 := wnext g1 (by omega)
    have w2 := w64 (n := 1000 * s.least) (by omega)
    have w3 := w64 (n := behLo s ts - 1000 * s.least) (by omega)
    rw [dropS hx, rmL]
    have hrm : rmS ts k a s = rmS ts k a s := rfl
    conv at hrm => rhs; unfold rmS
    generalize rmS ts k a s = a' at *
    simp only [List.length_take] at lP lS
    generalize whichF (harmP ts) 0 (l.take (j + 1)) = P' at *
    generalize whichF (harmS ts) 0 (l.take (j + 1)) = S' at *
    generalize whichF (harmP ts) 0 (l.take j) = P at *
    generalize whichF (harmS ts) 0 (l.take j) = S at *
    have p3 := flat_len (f := intE) (w := 1) (fun _ => rfl) P
    have s3 := flat_len (f := intE) (w := 1) (fun _ => rfl) S
    rw [Nat.mul_one] at p3 s3
    have p5 : (P.flatMap intE).take P.length = P.flatMap intE := List.take_of_length_le (by omega)
    have s5 : (S.flatMap intE).take S.length = S.flatMap intE := List.take_of_length_le (by omega)
    have p7 : (P.length + 1) * 8 ≤ room := by unfold room; omega
    have s7 : (S.length + 1) * 8 ≤ room := by unfold room; omega
    have d1 : harmP ts s = false := by simp [harmP]; omega
    rw [d1] at hP
    simp only [Bool.false_eq_true, if_false, List.append_nil] at hP
    have d2 : harmS ts s = false := by simp [harmS]; omega
    rw [d2] at hS
    simp only [Bool.false_eq_true, if_false, List.append_nil] at hS
    subst hP hS
    obtain ⟨n, rfl⟩ : ∃ n : Nat, k = n := ⟨k.toNat, by omega⟩
    have y1 : n < s.l.length := by omega
    obtain ⟨r, hy⟩ : ∃ x, s.l[n]? = some x := ⟨_, List.getElem?_eq_getElem y1⟩
    have y2 := rg_at hy
    have hrb := hk.2.2.2 r (List.mem_of_getElem? hy)
    rw [Int.toNat_natCast, rgD_of hy] at hrm kq
    have k1 : n < ts.length := by omega
    have y3 := kq.2
    rw [if_neg (by omega)] at hrm
    subst hrm
    have hb0 := b0
    have hb1 := b1
    simp [-List.length_flatMap, -List.map_take, e_law11_LeaseSprings_r0, e_law11_LeaseSprings_r1, e_law11_LeaseSprings_r2, e_law11_LeaseSprings_r3, e_law11_LeaseSprings_r4, e_law11_LeaseSprings_r5, e_law11_LeaseSprings_r6, e_law11_LeaseSprings_r7, e_law11_LeaseSprings_r8, e_law11_LeaseSprings_r9, e_law11_LeaseSprings_r10, e_law11_LeaseSprings_r11, e_law11_LeaseSprings_r12, e_law11_LeaseSprings_r13, e_law11_LeaseSprings_r14, e_law11_LeaseSprings_r15, e_law11_LeaseSprings_r16, e_law11_LeaseSprings_r17, e_law11_LeaseSprings_r18, e_law11_LeaseSprings_r19, e_law11_LeaseSprings_r20, e_law11_LeaseSprings_r21, e_law11_LeaseSprings_r22, e_law11_LeaseSprings_r23, e_law11_LeaseSprings_r24, e_law11_LeaseSprings_r25, e_law11_LeaseSprings_r26, e_law11_LeaseSprings_r27, e_law11_LeaseSprings_r28, e_law11_LeaseSprings_r29, e_law11_LeaseSprings_r30, e_law11_LeaseSprings_r31, e_law11_LeaseSprings_r32, e_law11_LeaseSprings_r34, e_law11_LeaseSprings_r35, e_law11_LeaseSprings_r36, e_law11_LeaseSprings_r37, e_law11_LeaseSprings_r38, e_law11_LeaseSprings_r39, e_law11_LeaseSprings_r40, g1, a1, a2, hB, w1, w2, w3, wj, c1, c2, p3, p5, p7, s3, s5, s7, s9, s10, s12, s13, k1, y1, y2, y3]
    refine WL.to (ih v w _ hb0 hb1) (by simp) (by simp) fun x e σ hh => hh
theorem L_law {l : List Sp} (h1 : spsOk l = true) {ts : List Int} (h2 : tkOk l ts = true) {k : Int} {d9 d10 d12 d13 : D} (s9 : d9.calm = d9) (s10 : d10.calm = d10) (s12 : d12.calm = d12) (s13 : d13.calm = d13) : ∀ m, PL σ l ts k d9 d10 d12 d13 m
  | 0 => L_law0 s9 s10 s12 s13
  | m + 1 => by
    have IH := L_law h1 h2 (k := k) s9 s10 s12 s13 m
    intro j v w a hi b0 b1
    obtain ⟨s, hx⟩ : ∃ x, l[j]? = some x := ⟨_, List.getElem?_eq_getElem (show j < l.length by omega)⟩
    have kc : ¬ 0 ≤ k ∨ (0 ≤ k ∧ ¬ k < ts.length) ∨ ((0 ≤ k ∧ k < ts.length) ∧ 0 < (s.l.getD k.toNat ⟨0, 0⟩).hi) ∨ ((0 ≤ k ∧ k < ts.length) ∧ ¬ 0 < (s.l.getD k.toNat ⟨0, 0⟩).hi) := by omega
    by_cases c1 : behLo s ts < 1000 * s.least
    · by_cases c2 : behHi s ts < 1000 * s.least
      · rcases kc with q | q | q | q
        · exact L_law11neg h1 h2 s9 s10 s12 s13 IH hi b0 b1 hx c1 c2 q
        · exact L_law11bey h1 h2 s9 s10 s12 s13 IH hi b0 b1 hx c1 c2 q
        · exact L_law11pull h1 h2 s9 s10 s12 s13 IH hi b0 b1 hx c1 c2 q
        · exact L_law11none h1 h2 s9 s10 s12 s13 IH hi b0 b1 hx c1 c2 q
      · rcases kc with q | q | q | q
        · exact L_law10neg h1 h2 s9 s10 s12 s13 IH hi b0 b1 hx c1 c2 q
        · exact L_law10bey h1 h2 s9 s10 s12 s13 IH hi b0 b1 hx c1 c2 q
        · exact L_law10pull h1 h2 s9 s10 s12 s13 IH hi b0 b1 hx c1 c2 q
        · exact L_law10none h1 h2 s9 s10 s12 s13 IH hi b0 b1 hx c1 c2 q
    · by_cases c2 : behHi s ts < 1000 * s.least
      · rcases kc with q | q | q | q
        · exact L_law01neg h1 h2 s9 s10 s12 s13 IH hi b0 b1 hx c1 c2 q
        · exact L_law01bey h1 h2 s9 s10 s12 s13 IH hi b0 b1 hx c1 c2 q
        · exact L_law01pull h1 h2 s9 s10 s12 s13 IH hi b0 b1 hx c1 c2 q
        · exact L_law01none h1 h2 s9 s10 s12 s13 IH hi b0 b1 hx c1 c2 q
      · rcases kc with q | q | q | q
        · exact L_law00neg h1 h2 s9 s10 s12 s13 IH hi b0 b1 hx c1 c2 q
        · exact L_law00bey h1 h2 s9 s10 s12 s13 IH hi b0 b1 hx c1 c2 q
        · exact L_law00pull h1 h2 s9 s10 s12 s13 IH hi b0 b1 hx c1 c2 q
        · exact L_law00none h1 h2 s9 s10 s12 s13 IH hi b0 b1 hx c1 c2 q
end Go.Proofs.YtcccafphhmcifaaGreat
