/-
  The law TremorLouder answers true.
-/
import Derived.Test.YticpenoicajakaaLawSizes
import Derived.Test.YticpenoicajakaaBase2
set_option linter.unusedVariables false
set_option linter.unusedSimpArgs false
namespace Go.Trem
open Go Go.Abs

theorem lvl_mono {l : List Int} {a b : Int} (h : a ≤ b) : lvl l a ≤ lvl l b := by
  unfold lvl
  induction l with
  | nil => simp
  | cons x l ih =>
    by_cases hx : x ≤ a
    · have : x ≤ b := by omega
      simp [List.takeWhile_cons, hx, this]
      exact ih
    · simp [List.takeWhile_cons, hx]

theorem mag1_mono {s : Scale} {a b d : Int} (h : a ≤ b) : mag1 s a d ≤ mag1 s b d := by
  have := lvl_mono (l := s.levels) h
  unfold mag1
  omega

theorem sum_acc {n : Net} {s : Scale} {p : Pt} : ∀ (l : List Reading) (acc : Int), l.foldl (fun acc r => acc + magOf n s p r) acc = acc + magSum n s p l := by
  intro l
  induction l with
  | nil => intro acc; simp [magSum]
  | cons r l ih =>
    intro acc
    have h1 := ih (acc + magOf n s p r)
    have h2 := ih (0 + magOf n s p r)
    simp only [magSum, List.foldl_cons] at h1 h2 ⊢
    rw [h1, h2]
    omega
theorem sum_cons {n : Net} {s : Scale} {p : Pt} (r : Reading) (l : List Reading) : magSum n s p (r :: l) = magOf n s p r + magSum n s p l := by
  have := sum_acc (n := n) (s := s) (p := p) l (0 + magOf n s p r)
  simp only [magSum, List.foldl_cons] at this ⊢
  omega

def lowF (n : Net) (s : Scale) (p : Pt) : List Reading → Int → Int
  | [], a => a
  | r :: l, a => lowF n s p l (min a (magOf n s p r))
def highF (n : Net) (s : Scale) (p : Pt) : List Reading → Int → Int
  | [], a => a
  | r :: l, a => highF n s p l (max a (magOf n s p r))

theorem low_le {n : Net} {s : Scale} {p : Pt} : ∀ (l : List Reading) (a : Int), lowF n s p l a ≤ a ∧ lowF n s p l a * l.length ≤ magSum n s p l
  | [], a => ⟨Int.le_refl _, by simp [lowF, magSum]⟩
  | r :: l, a => by
    obtain ⟨h1, h2⟩ := low_le (n := n) (s := s) (p := p) l (min a (magOf n s p r))
    rw [sum_cons]
    simp only [lowF, List.length_cons]
    refine ⟨by omega, ?_⟩
    push_cast
    rw [Int.mul_add]
    omega
theorem high_ge {n : Net} {s : Scale} {p : Pt} : ∀ (l : List Reading) (a : Int), a ≤ highF n s p l a ∧ magSum n s p l ≤ highF n s p l a * l.length
  | [], a => ⟨Int.le_refl _, by simp [highF, magSum]⟩
  | r :: l, a => by
    obtain ⟨h1, h2⟩ := high_ge (n := n) (s := s) (p := p) l (max a (magOf n s p r))
    rw [sum_cons]
    simp only [highF, List.length_cons]
    refine ⟨by omega, ?_⟩
    push_cast
    rw [Int.mul_add]
    omega
theorem sum_set {n : Net} {s : Scale} {p : Pt} {r' : Reading} : ∀ {l : List Reading} {k : Nat} {r : Reading}, l[k]? = some r → magOf n s p r ≤ magOf n s p r' → magSum n s p l ≤ magSum n s p (l.set k r')
  | [], k, r, h, _ => by simp at h
  | a :: l, 0, r, h, hm => by
    simp at h; subst h
    simp only [List.set_cons_zero, sum_cons]
    omega
  | a :: l, k + 1, r, h, hm => by
    have := sum_set (l := l) (k := k) (r := r) (r' := r') (by simpa using h) hm
    simp only [List.set_cons_succ, sum_cons]
    omega
end Go.Trem
namespace Go.Proofs.Yticpenoicajakaa
open Go Go.Abs Go.Trem
variable {σ : Stack}

theorem L_loud {n : Net} {s : Scale} {p : Pt} {l : List Reading} {at_ more m0 : Int} (h : magOk n s p l = true) (hσ : σ ≠ []) : ∀ (m i : Nat) (lo hi : Int), i + m = l.length →
    WL T [3, 4, 5, 6, 7, 8, 13, 15, 16, 17] false f_law09_TremorLouder_l14 [(3, .lst l.length (l.flatMap Reading.enc)), (4, .int .u8 at_), (5, .int .u32 more), (6, .cref n.enc), (7, .cref s.enc), (8, .cref p.enc), (13, .int .i64 m0), (15, .int .i64 lo), (16, .int .i64 hi), (17, .int .i64 i)] σ
      (fun x e σ' => x = .exit 0 ∧ σ' = σ ∧ get e 3 = .lst l.length (l.flatMap Reading.enc) ∧ get e 4 = .int .u8 at_ ∧ get e 5 = .int .u32 more ∧ get e 6 = .cref n.enc ∧ get e 7 = .cref s.enc ∧ get e 8 = .cref p.enc ∧ get e 13 = .int .i64 m0 ∧
        get e 15 = .int .i64 (lowF n s p (l.drop i) lo) ∧ get e 16 = .int .i64 (highF n s p (l.drop i) hi))
  | 0, i, lo, hi, hi' => by
    refine WL_step e_law09_TremorLouder_l14 ?_
    have h1 : ¬ i < l.length := by omega
    have h2 : l.drop i = [] := by simp; omega
    simp [-List.length_flatMap, -List.map_take, e_law09_TremorLouder_r0, e_law09_TremorLouder_r1, e_law09_TremorLouder_r2, e_law09_TremorLouder_r3, e_law09_TremorLouder_r4, e_law09_TremorLouder_r5, e_law09_TremorLouder_r6, e_law09_TremorLouder_r7, e_law09_TremorLouder_r8, e_law09_TremorLouder_r9, e_law09_TremorLouder_r10, e_law09_TremorLouder_r11, e_law09_TremorLouder_r12, e_law09_TremorLouder_r13, e_law09_TremorLouder_r15, e_law09_TremorLouder_r16, e_law09_TremorLouder_r17, e_law09_TremorLouder_r18, e_law09_TremorLouder_r19, h1, h2, lowF, highF]
  | m + 1, i, lo, hi, hi' => by
    refine WL_step e_law09_TremorLouder_l14 ?_
    have hk := h
    simp only [magOk, Bool.and_eq_true, inn_iff] at hk
    obtain ⟨k1, k2, k3, k4, k5⟩ := hk
    have g1 : i < l.length := by omega
    obtain ⟨r, hr⟩ : ∃ x, l[i]? = some x := ⟨_, List.getElem?_eq_getElem g1⟩
    have a1 := flat_at (f := Reading.enc) (w := 2) (fun _ => rfl) hr
    have w1 := wnext g1 (by omega)
    have hns : n.st.length ≤ 100000 := by have := k1; simp [Net.ok, Net.pre] at this; have := this.1.1; rw [inn_iff] at this; omega
    have hsc := k2
    simp only [Scale.ok, Bool.and_eq_true, inn_iff] at hsc
    have h1 := fun σ (hσ : σ ≠ []) => @C_Net σ n hns hσ
    have h2 := fun σ (hσ : σ ≠ []) => @C_ScaleL σ s (by omega) (by omega) hσ
    have h3 := fun σ (hσ : σ ≠ []) => @C_ReadL σ [r] (by simp) hσ
    have h4 := fun σ => @C_Magnitude σ n s p.x p.y p.z [r] (by omega) (by omega) (by omega) (by simp)
    have hk1 : magOk n s p [r] = true := by
      have hr' := allB_iff.1 k5 r (List.mem_of_getElem? hr)
      simp only [magOk, k1, k2, k3, Bool.true_and]
      have : allB [r] (Reading.ok n) = Reading.ok n r := by simp [allB]
      rw [this, hr']
      rfl
    have hm1 : magSum n s p [r] / (([r] : List Reading).length : Int) = magOf n s p r := by
      rw [sum_cons]
      simp [magSum]
    simp only [Pt.eta, hk1, if_true, hm1] at h4
    simp at h3 h4
    have ih := L_loud (at_ := at_) (more := more) (m0 := m0) h hσ m (i + 1) (min lo (magOf n s p r)) (max hi (magOf n s p r)) (by omega)
    have w2 : ((i : Int) + 1).toNat = i + 1 := by omega
    have w3 : (i : Int) + 1 ≤ l.length := by omega
    have w4 : (i : Int) ≤ (i : Int) + 1 := by omega
    have w5 : i + 1 ≤ l.length := by omega
    have w6 : (0 : Int) ≤ (i : Int) + 1 := by omega
    simp at a1
    simp [-List.length_flatMap, -List.map_take, e_law09_TremorLouder_r0, e_law09_TremorLouder_r1, e_law09_TremorLouder_r2, e_law09_TremorLouder_r3, e_law09_TremorLouder_r4, e_law09_TremorLouder_r5, e_law09_TremorLouder_r6, e_law09_TremorLouder_r7, e_law09_TremorLouder_r8, e_law09_TremorLouder_r9, e_law09_TremorLouder_r10, e_law09_TremorLouder_r11, e_law09_TremorLouder_r12, e_law09_TremorLouder_r13, e_law09_TremorLouder_r15, e_law09_TremorLouder_r16, e_law09_TremorLouder_r17, e_law09_TremorLouder_r18, e_law09_TremorLouder_r19, g1, a1, w1, w2, w3, w4, w5, w6, h1, h2, h3, h4, C_Point, hσ]
    refine WL.to ih (by simp) rfl fun x e σ' hh => ?_
    rw [drop_at hr]
    simpa [lowF, highF] using hh

theorem law_Louder {n : Net} {s : Scale} {x y z : Int} {l : List Reading} {at_ more : Int} (ha : 0 ≤ at_ ∧ at_ ≤ 255) (hm : 0 ≤ more ∧ more ≤ 4294967295) (hn : n.st.length ≤ 9223372036854775807) (hs : s.levels.length ≤ 9223372036854775807) (hr : s.rows.length ≤ 9223372036854775807) (hl : l.length ≤ 9223372036854775807) (hσ : σ ≠ []) :
    lim T (.call false i_law09_TremorLouder [.agg [.lst n.st.length (n.st.flatMap Stn.enc), .int .i64 n.s0.lo, .int .i64 n.s0.hi, .int .i64 n.s1.lo, .int .i64 n.s1.hi, .int .i64 n.low.x, .int .i64 n.low.y, .int .i64 n.low.z, .int .i64 n.high.x, .int .i64 n.high.y, .int .i64 n.high.z, .int .i64 n.step], .agg [.lst s.levels.length (s.levels.flatMap intE), .lst s.rows.length (s.rows.flatMap FarRow.enc)], .agg [.int .i64 x, .int .i64 y, .int .i64 z], .lst l.length (l.flatMap Reading.enc), .int .u8 at_, .int .u32 more] σ) = some (.val (.bool true) σ) := by
  refine call_of T_law09_TremorLouder e_law09_TremorLouder rfl ?_
  have h4 := fun σ => @C_Magnitude σ n s x y z l hn hs hr hl
  have h5 := fun σ => @C_Right σ n hn
  have h6 := fun σ => @C_RightScale σ s hs hr
  have h7 := fun σ => @C_ReadR σ n l hl hn
  have ho : magOk n s ⟨x, y, z⟩ l = (n.ok && (s.ok && (Pt.ok ⟨x, y, z⟩ && (inn l.length 1 12 && allB l (Reading.ok n))))) := rfl
  cases c1 : n.ok
  · simp [-List.length_flatMap, -List.map_take, e_law09_TremorLouder_r0, e_law09_TremorLouder_r1, e_law09_TremorLouder_r2, e_law09_TremorLouder_r3, e_law09_TremorLouder_r4, e_law09_TremorLouder_r5, e_law09_TremorLouder_r6, e_law09_TremorLouder_r7, e_law09_TremorLouder_r8, e_law09_TremorLouder_r9, e_law09_TremorLouder_r10, e_law09_TremorLouder_r11, e_law09_TremorLouder_r12, e_law09_TremorLouder_r13, e_law09_TremorLouder_r15, e_law09_TremorLouder_r16, e_law09_TremorLouder_r17, e_law09_TremorLouder_r18, e_law09_TremorLouder_r19, h5, c1, C_awake]
  cases c2 : s.ok
  · simp [-List.length_flatMap, -List.map_take, e_law09_TremorLouder_r0, e_law09_TremorLouder_r1, e_law09_TremorLouder_r2, e_law09_TremorLouder_r3, e_law09_TremorLouder_r4, e_law09_TremorLouder_r5, e_law09_TremorLouder_r6, e_law09_TremorLouder_r7, e_law09_TremorLouder_r8, e_law09_TremorLouder_r9, e_law09_TremorLouder_r10, e_law09_TremorLouder_r11, e_law09_TremorLouder_r12, e_law09_TremorLouder_r13, e_law09_TremorLouder_r15, e_law09_TremorLouder_r16, e_law09_TremorLouder_r17, e_law09_TremorLouder_r18, e_law09_TremorLouder_r19, h5, c1, h6, c2, C_awake]
  cases c3 : Pt.ok ⟨x, y, z⟩
  · simp [-List.length_flatMap, -List.map_take, e_law09_TremorLouder_r0, e_law09_TremorLouder_r1, e_law09_TremorLouder_r2, e_law09_TremorLouder_r3, e_law09_TremorLouder_r4, e_law09_TremorLouder_r5, e_law09_TremorLouder_r6, e_law09_TremorLouder_r7, e_law09_TremorLouder_r8, e_law09_TremorLouder_r9, e_law09_TremorLouder_r10, e_law09_TremorLouder_r11, e_law09_TremorLouder_r12, e_law09_TremorLouder_r13, e_law09_TremorLouder_r15, e_law09_TremorLouder_r16, e_law09_TremorLouder_r17, e_law09_TremorLouder_r18, e_law09_TremorLouder_r19, h5, c1, h6, c2, C_Dot, c3, C_awake]
  cases c4 : (inn l.length 1 12 && allB l (Reading.ok n))
  · simp [-List.length_flatMap, -List.map_take, e_law09_TremorLouder_r0, e_law09_TremorLouder_r1, e_law09_TremorLouder_r2, e_law09_TremorLouder_r3, e_law09_TremorLouder_r4, e_law09_TremorLouder_r5, e_law09_TremorLouder_r6, e_law09_TremorLouder_r7, e_law09_TremorLouder_r8, e_law09_TremorLouder_r9, e_law09_TremorLouder_r10, e_law09_TremorLouder_r11, e_law09_TremorLouder_r12, e_law09_TremorLouder_r13, e_law09_TremorLouder_r15, e_law09_TremorLouder_r16, e_law09_TremorLouder_r17, e_law09_TremorLouder_r18, e_law09_TremorLouder_r19, h5, c1, h6, c2, C_Dot, c3, h7, c4, C_awake]
  have hk : magOk n s ⟨x, y, z⟩ l = true := by rw [ho, c1, c2, c3, c4]; rfl
  have hk0 := hk
  simp only [magOk, Bool.and_eq_true, inn_iff] at hk
  obtain ⟨k1, k2, k3, k4, k5⟩ := hk
  have hns : n.st.length ≤ 100000 := by have := k1; simp [Net.ok, Net.pre] at this; have := this.1.1; rw [inn_iff] at this; omega
  have hsc := k2
  simp only [Scale.ok, Bool.and_eq_true, inn_iff] at hsc
  have h1 := fun σ (hσ : σ ≠ []) => @C_Net σ n hns hσ
  have h2 := fun σ (hσ : σ ≠ []) => @C_ScaleL σ s (by omega) (by omega) hσ
  have h3 := fun σ (hσ : σ ≠ []) => @C_ReadL σ l (by omega) hσ
  simp only [hk0, if_true] at h4
  simp [-List.length_flatMap, -List.map_take, e_law09_TremorLouder_r0, e_law09_TremorLouder_r1, e_law09_TremorLouder_r2, e_law09_TremorLouder_r3, e_law09_TremorLouder_r4, e_law09_TremorLouder_r5, e_law09_TremorLouder_r6, e_law09_TremorLouder_r7, e_law09_TremorLouder_r8, e_law09_TremorLouder_r9, e_law09_TremorLouder_r10, e_law09_TremorLouder_r11, e_law09_TremorLouder_r12, e_law09_TremorLouder_r13, e_law09_TremorLouder_r15, e_law09_TremorLouder_r16, e_law09_TremorLouder_r17, e_law09_TremorLouder_r18, e_law09_TremorLouder_r19, h5, c1, h6, c2, C_Dot, c3, h7, c4, h1, h2, h3, h4, C_Point]
  refine WL.to (L_loud (σ := [] :: σ) (n := n) (s := s) (p := ⟨x, y, z⟩) (l := l) (at_ := at_) (more := more) (m0 := magSum n s ⟨x, y, z⟩ l / l.length) hk0 (by simp) l.length 0 1000 (-1) (by omega)) (by simp) rfl ?_
  rintro x' e σ' ⟨rfl, rfl, e3, e4, e5, e6, e7, e8, e13, e15, e16⟩
  simp only [List.drop_zero] at e15 e16
  -- the place
  obtain ⟨k, hk1, hk2⟩ : ∃ k : Nat, at_.tmod l.length = k ∧ k < l.length := by
    have h0 : 0 ≤ at_.tmod l.length := Int.tmod_nonneg _ ha.1
    have : at_.tmod l.length < l.length := Int.tmod_lt_of_pos _ (by omega)
    exact ⟨(at_.tmod l.length).toNat, by omega, by omega⟩
  obtain ⟨r, hrk⟩ : ∃ x, l[k]? = some x := ⟨_, List.getElem?_eq_getElem hk2⟩
  have hrok := allB_iff.1 k5 r (List.mem_of_getElem? hrk)
  have hrok' := hrok
  simp only [Reading.ok, Bool.and_eq_true, inn_iff] at hrok'
  let r' : Reading := ⟨r.st, min 1000000000 (r.amt + more)⟩
  have hr'ok : Reading.ok n r' = true := by
    simp only [Reading.ok, Bool.and_eq_true, inn_iff, r']
    omega
  have hset := k_set (f := Reading.enc) (w := 2) (fun _ => rfl) (l := l) (i := k) (x := r') hk2
  have hdr := k_drop (f := Reading.enc) (w := 2) (fun _ => rfl) hrk
  have hd1 : (l.flatMap Reading.enc).drop (k * 2 + 1) = .int .i64 r.amt :: (l.flatMap Reading.enc).drop (k * 2 + 2) := by
    rw [← List.drop_drop, hdr]; rfl
  have ht1 : (l.flatMap Reading.enc).take (k * 2 + 1) = (l.flatMap Reading.enc).take (k * 2) ++ [.int .i64 r.st] := by
    rw [List.take_add, hdr]; rfl
  have hset' : (l.flatMap Reading.enc).take (k * 2 + 1) ++ (.int .i64 (min 1000000000 (r.amt + more)) :: (l.flatMap Reading.enc).drop (k * 2 + 2)) = (l.set k r').flatMap Reading.enc := by
    rw [ht1, ← hset]; simp [r']
  have hk2' : magOk n s ⟨x, y, z⟩ (l.set k r') = true := by
    simp only [magOk, k1, k2, k3, Bool.true_and, List.length_set, Bool.and_eq_true, inn_iff]
    refine ⟨k4, allB_iff.2 fun q hq => ?_⟩
    rcases List.mem_or_eq_of_mem_set hq with hq | rfl
    · exact allB_iff.1 k5 q hq
    · exact hr'ok
  have h3' := fun σ (hσ : σ ≠ []) => @C_ReadL σ (l.set k r') (by simp; omega) hσ
  have h4' := fun σ => @C_Magnitude σ n s x y z (l.set k r') hn hs hr (by simp; omega)
  have hfz := fun σ (hσ : σ ≠ []) => @k_frz _ Reading.enc 2 (fun _ => rfl) (fun x => by simp) (l.set k r') 0 0 [.cells 0 ((l.set k r').flatMap Reading.enc)] σ hσ rfl
  simp only [hk2', if_true, List.length_set] at h3' h4' hfz
  have hlen := flat_len (f := Reading.enc) (w := 2) (fun _ => rfl) l
  have hw1 := w64 (n := at_) (by omega)
  have hw2 := w64 (n := more) (by omega)
  have hw3 := w64 (n := r.amt + more) (by omega)
  have hne : (l.length : Int) ≠ 0 := by omega
  have hne' : l.length ≠ 0 := by omega
  have hne2 : l ≠ [] := by intro h; simp [h] at hne'
  have hroom : l.length * 16 ≤ room := by unfold room; omega
  have g1 : 1 ≤ l.length * 2 - (k * 2 + 1) := by omega
  have g2 : k * 2 + 1 + 1 ≤ l.length * 2 := by omega
  have g3 : k * 2 + 2 ≤ l.length * 2 := by omega
  have hlow := low_le (n := n) (s := s) (p := ⟨x, y, z⟩) l 1000
  have hhigh := high_ge (n := n) (s := s) (p := ⟨x, y, z⟩) l (-1)
  have hsum := sum_set (n := n) (s := s) (p := ⟨x, y, z⟩) (r' := r') hrk (mag1_mono (by simp only [r']; omega))
  have q1 : lowF n s ⟨x, y, z⟩ l 1000 ≤ magSum n s ⟨x, y, z⟩ l / l.length := (Int.le_ediv_iff_mul_le (by omega)).2 hlow.2
  have q2 : magSum n s ⟨x, y, z⟩ l / l.length ≤ highF n s ⟨x, y, z⟩ l (-1) := by
    have := Int.ediv_le_ediv (c := (l.length : Int)) (by omega) hhigh.2
    rwa [Int.mul_ediv_cancel _ hne] at this
  have q3 : magSum n s ⟨x, y, z⟩ l / l.length ≤ magSum n s ⟨x, y, z⟩ (l.set k r') / l.length := Int.ediv_le_ediv (by omega) hsum
  simp [-List.length_flatMap, -List.map_take, e_law09_TremorLouder_r15, e_law09_TremorLouder_r16, e_law09_TremorLouder_r17, e_law09_TremorLouder_r18, e_law09_TremorLouder_r19, e3, e4, e5, e6, e7, e8, e13, e15, e16, hlen, hroom, hne, hne', hne2, hw1, hk1, hk2, hd1, hw2, hw3, hset', g1, g2, g3, hfz, hσ, h1, h2, h3', h4', C_Point, q1, q2, q3, C_awake]

theorem go_TremorLouder (x0 x1 x2 x3 x4 x5 : D) (t0 : tyNet.hasV x0) (t1 : tyScale.hasV x1) (t2 : tyPt.hasV x2) (t3 : (Ty.slice 2 tyRg).hasV x3) (t4 : (Ty.int .u8).hasV x4) (t5 : (Ty.int .u32).hasV x5) :
    ∃ σ', lim T (.call false i_law09_TremorLouder [x0, x1, x2, x3, x4, x5] [[]]) = some (.val (.bool true) σ') := by
  obtain ⟨n, rfl, hn⟩ := net_of t0
  obtain ⟨s, rfl, hs, hr, _⟩ := scale_of t1
  obtain ⟨p, rfl, _⟩ := pt_ofV t2
  obtain ⟨l, rfl, hl, _⟩ := rows_of (fun ds h => reading_of h) t3
  obtain ⟨a, rfl, ha⟩ := u8_of t4
  obtain ⟨m, rfl, hm⟩ := u32_of t5
  exact ⟨_, law_Louder ha hm (by unfold maxLen at *; omega) (by unfold maxLen at *; omega) (by unfold maxLen at *; omega) (by unfold maxLen at *; omega) (by simp)⟩
end Go.Proofs.Yticpenoicajakaa
