/-
  The law TremorEases answers true.
-/
import Derived.Test.YticpenoicajakaaLawInjects
import Derived.Test.YticpenoicajakaaBase2
set_option linter.unusedVariables false
set_option linter.unusedSimpArgs false
namespace Go.Trem
open Go Go.Abs

/-- Pointwise lower colours. -/
def easier : List Int → List Int → Prop
  | [], [] => True
  | c :: cs, d :: ds => d ≤ c ∧ 0 ≤ d ∧ easier cs ds
  | _, _ => False

def qle : Option Int → Option Int → Prop
  | none, none => True
  | some a, some b => a ≤ b ∧ 0 ≤ a
  | _, _ => False

theorem keep_le {k0 k1 k2 c d : Int} (h : keepOk k0 k1 k2 = true) (hc : c ≤ 2) (hd : 0 ≤ d) (hdc : d ≤ c) : keepOf k0 k1 k2 c ≤ keepOf k0 k1 k2 d ∧ 0 ≤ keepOf k0 k1 k2 c ∧ keepOf k0 k1 k2 d ≤ 1000 := by
  simp only [keepOk, Bool.and_eq_true, decide_eq_true_eq] at h
  unfold keepOf
  split <;> split <;> (try split) <;> (try split) <;> omega

theorem part_le {p k : Int} (hp : 0 ≤ p) (hk : 0 ≤ k) (hk1 : k ≤ 1000) : 0 ≤ p * k / 1000 ∧ p * k / 1000 ≤ p := by
  have h1 : p * k ≤ p * 1000 := Int.mul_le_mul_of_nonneg_left hk1 hp
  have h2 : 0 ≤ p * k := Int.mul_nonneg hp hk
  omega
theorem part_mono {p k k' : Int} (hp : 0 ≤ p) (hk : k ≤ k') : p * k / 1000 ≤ p * k' / 1000 := by
  have h1 : p * k ≤ p * k' := Int.mul_le_mul_of_nonneg_left hk hp
  omega

theorem inj_ease {k0 k1 k2 ramp : Int} (hk : keepOk k0 k1 k2 = true) (hr : 0 ≤ ramp) : ∀ (ps cs ds : List Int) (q q' : Option Int), cs.length = ps.length → easier cs ds → (∀ p ∈ ps, 0 ≤ p) → (∀ c ∈ cs, c ≤ 2) → qle q q' →
    ∀ (i : Nat) (x y p c : Int), (injL (keepOf k0 k1 k2) ramp ps cs q)[i]? = some x → (injL (keepOf k0 k1 k2) ramp ps ds q')[i]? = some y → ps[i]? = some p → cs[i]? = some c →
      0 ≤ x ∧ x ≤ p ∧ x ≤ y ∧ (c = 2 → k2 = 0 → x = 0)
  | [], cs, ds, q, q', hl, he, hp, hc, hq, i, x, y, p, c, h1, h2, h3, h4 => by simp at h3
  | p0 :: ps, [], ds, q, q', hl, he, hp, hc, hq, i, x, y, p, c, h1, h2, h3, h4 => by simp at hl
  | p0 :: ps, c0 :: cs, [], q, q', hl, he, hp, hc, hq, i, x, y, p, c, h1, h2, h3, h4 => he.elim
  | p0 :: ps, c0 :: cs, d0 :: ds, q, q', hl, he, hp, hc, hq, i, x, y, p, c, h1, h2, h3, h4 => by
    obtain ⟨e1, e2, e3⟩ := he
    have hp0 := hp p0 (by simp)
    have hc0 := hc c0 (by simp)
    obtain ⟨a1, a2, a3⟩ := keep_le hk hc0 e2 e1
    have b1 := part_le hp0 a2 (by omega)
    have b2 := part_mono hp0 a1
    have b3 : c0 = 2 → k2 = 0 → p0 * keepOf k0 k1 k2 c0 / 1000 = 0 := by
      intro h h'
      subst h h'
      simp [keepOf]
    have hl' : cs.length = ps.length := by simpa using hl
    have hp' : ∀ p ∈ ps, 0 ≤ p := fun p h => hp p (by simp [h])
    have hc' : ∀ c ∈ cs, c ≤ 2 := fun c h => hc c (by simp [h])
    match q, q', hq with
    | none, none, _ =>
      simp only [injL] at h1 h2
      cases i with
      | zero =>
        simp at h1 h2 h3 h4
        subst h1 h2 h3 h4
        exact ⟨b1.1, b1.2, b2, b3⟩
      | succ i =>
        simp only [List.getElem?_cons_succ] at h1 h2 h3 h4
        exact inj_ease hk hr ps cs ds (some _) (some _) hl' e3 hp' hc' (And.intro b2 b1.1) i x y p c h1 h2 h3 h4
    | some a, some b, hq =>
      obtain ⟨g1, g2⟩ := hq
      simp only [injL] at h1 h2
      cases i with
      | zero =>
        simp at h1 h2 h3 h4
        subst h1 h2 h3 h4
        exact ⟨by omega, by omega, by omega, fun h h' => by have := b3 h h'; omega⟩
      | succ i =>
        simp only [List.getElem?_cons_succ] at h1 h2 h3 h4
        exact inj_ease hk hr ps cs ds (some _) (some _) hl' e3 hp' hc' (And.intro (by omega) (by omega)) i x y p c h1 h2 h3 h4

theorem inj_ramp {k : Int → Int} {ramp : Int} : ∀ (ps cs : List Int) (q : Option Int) (i : Nat) (x z : Int), (injL k ramp ps cs q)[i + 1]? = some x → (injL k ramp ps cs q)[i]? = some z → x ≤ z + ramp
  | [], cs, q, i, x, z, h1, h2 => by cases cs <;> cases q <;> simp [injL] at h1
  | p :: ps, [], q, i, x, z, h1, h2 => by cases q <;> simp [injL] at h1
  | p :: ps, c :: cs, q, i, x, z, h1, h2 => by
    have key : ∀ a, injL k ramp (p :: ps) (c :: cs) q = a :: injL k ramp ps cs (some a) → x ≤ z + ramp := by
      intro a ha
      rw [ha] at h1 h2
      cases i with
      | zero =>
        simp only [Nat.zero_add, List.getElem?_cons_succ, List.getElem?_cons_zero, Option.some.injEq] at h1 h2
        subst h2
        match ps, cs with
        | [], _ => simp [injL] at h1
        | _ :: _, [] => simp [injL] at h1
        | p1 :: ps, c1 :: cs => simp [injL] at h1; omega
      | succ i =>
        simp only [List.getElem?_cons_succ] at h1 h2
        exact inj_ramp ps cs _ i x z h1 h2
    cases q with
    | none => exact key _ rfl
    | some q => exact key _ rfl

theorem easier_set : ∀ {cs : List Int} {k : Nat} {c : Int}, (∀ c ∈ cs, 0 ≤ c) → cs[k]? = some c → 0 < c → easier cs (cs.set k (c - 1))
  | [], k, c, _, h, _ => by simp at h
  | a :: cs, 0, c, h0, h, hc => by
    simp at h; subst h
    refine ⟨by omega, by omega, ?_⟩
    have : ∀ cs : List Int, (∀ c ∈ cs, 0 ≤ c) → easier cs cs := by
      intro cs
      induction cs with
      | nil => intro _; trivial
      | cons a cs ih => intro h; exact ⟨Int.le_refl _, h a (by simp), ih fun c hc => h c (by simp [hc])⟩
    exact this cs fun c hc => h0 c (by simp [hc])
  | a :: cs, k + 1, c, h0, h, hc => by
    refine ⟨Int.le_refl _, h0 a (by simp), ?_⟩
    exact easier_set (fun c hc => h0 c (by simp [hc])) (by simpa using h) hc
theorem easier_self : ∀ (cs : List Int), (∀ c ∈ cs, 0 ≤ c) → easier cs cs
  | [], _ => trivial
  | a :: cs, h => ⟨Int.le_refl _, h a (by simp), easier_self cs fun c hc => h c (by simp [hc])⟩
theorem easier_ok {plan : List Int} {k0 k1 k2 ramp : Int} {cs ds : List Int} (h : planOk plan cs k0 k1 k2 ramp = true) (he : easier cs ds) : planOk plan ds k0 k1 k2 ramp = true ∧ ∀ c ∈ ds, 0 ≤ c := by
  have key : ∀ (cs ds : List Int), easier cs ds → ds.length = cs.length ∧ ((∀ c ∈ cs, c ≤ 2) → ∀ c ∈ ds, c ≤ 2) ∧ ∀ c ∈ ds, 0 ≤ c := by
    intro cs
    induction cs with
    | nil => intro ds he; cases ds <;> simp [easier] at he ⊢
    | cons c cs ih =>
      intro ds he
      cases ds with
      | nil => exact he.elim
      | cons d ds =>
        obtain ⟨e1, e2, e3⟩ := he
        obtain ⟨i1, i2, i3⟩ := ih ds e3
        refine ⟨by simp [i1], fun h x hx => ?_, fun x hx => ?_⟩
        · rcases List.mem_cons.1 hx with rfl | hx
          · have := h c (by simp); omega
          · exact i2 (fun y hy => h y (by simp [hy])) x hx
        · rcases List.mem_cons.1 hx with rfl | hx
          · exact e2
          · exact i3 x hx
  obtain ⟨h1, h2, h3⟩ := key cs ds he
  refine ⟨?_, h3⟩
  simp only [planOk, Bool.and_eq_true, decide_eq_true_eq, allB_iff] at h ⊢
  exact ⟨h.1, by omega, h2 h.2.2.1, h.2.2.2⟩
end Go.Trem
namespace Go.Proofs.Yticpenoicajakaa
open Go Go.Abs Go.Trem
variable {σ : Stack}

set_option maxRecDepth 10000 in
theorem L_eases {plan cols l m : List Int} {k0 k1 k2 ramp : Int} (hlen : plan.length ≤ 60) (h1 : cols.length = plan.length) (h2 : l.length = plan.length) (h3 : m.length = plan.length) (hr : 0 ≤ ramp ∧ ramp ≤ 1000000000) (hb : ∀ p ∈ plan, p ≤ 1000000000)
    (hx : ∀ (i : Nat) (x y p c : Int), l[i]? = some x → m[i]? = some y → plan[i]? = some p → cols[i]? = some c → 0 ≤ x ∧ x ≤ p ∧ x ≤ y ∧ (c = 2 → k2 = 0 → x = 0))
    (hz : ∀ (i : Nat) (x z : Int), l[i + 1]? = some x → l[i]? = some z → x ≤ z + ramp) : ∀ (j i : Nat), i + j = plan.length →
    WL T [0, 1, 3, 7, 11, 15, 17] false f_law09_TremorEases_l16 [(0, .lst plan.length (plan.flatMap intE)), (1, .lst plan.length (cols.flatMap u8E)), (3, .int .i64 ramp), (7, .cref [.int .i64 k0, .int .i64 k1, .int .i64 k2]),
        (11, .lst plan.length (l.flatMap intE)), (15, .lst plan.length (m.flatMap intE)), (17, .int .i64 i)] σ
      (fun x e σ' => σ' = σ ∧ x = .exit 0)
  | 0, i, hi => by
    refine WL_step e_law09_TremorEases_l16 ?_
    have h1 : ¬ i < plan.length := by omega
    simp [-List.length_flatMap, -List.map_take, e_law09_TremorEases_r0, e_law09_TremorEases_r1, e_law09_TremorEases_r2, e_law09_TremorEases_r3, e_law09_TremorEases_r4, e_law09_TremorEases_r5, e_law09_TremorEases_r6, e_law09_TremorEases_r7, e_law09_TremorEases_r8, e_law09_TremorEases_r9, e_law09_TremorEases_r10, e_law09_TremorEases_r11, e_law09_TremorEases_r12, e_law09_TremorEases_r13, e_law09_TremorEases_r14, e_law09_TremorEases_r15, e_law09_TremorEases_r17, h1]
  | j + 1, i, hi => by
    refine WL_step e_law09_TremorEases_l16 ?_
    have ih := L_eases (k0 := k0) (k1 := k1) (k2 := k2) hlen h1 h2 h3 hr hb hx hz j (i + 1) (by omega)
    have g1 : i < plan.length := by omega
    obtain ⟨p, hp⟩ : ∃ x, plan[i]? = some x := ⟨_, List.getElem?_eq_getElem g1⟩
    obtain ⟨c, hc⟩ : ∃ x, cols[i]? = some x := ⟨_, List.getElem?_eq_getElem (by omega)⟩
    obtain ⟨x, hxx⟩ : ∃ x, l[i]? = some x := ⟨_, List.getElem?_eq_getElem (by omega)⟩
    obtain ⟨y, hy⟩ : ∃ x, m[i]? = some x := ⟨_, List.getElem?_eq_getElem (by omega)⟩
    have a1 := flat_at (f := intE) (w := 1) (fun _ => rfl) hp
    have a2 := flat_at (f := u8E) (w := 1) (fun _ => rfl) hc
    have a3 := flat_at (f := intE) (w := 1) (fun _ => rfl) hxx
    have a4 := flat_at (f := intE) (w := 1) (fun _ => rfl) hy
    simp only [Nat.mul_one] at a1 a2 a3 a4
    have w1 := wnext g1 (by omega)
    obtain ⟨b1, b2, b3, b4⟩ := hx i x y p c hxx hy hp hc
    have b1' : ¬ x < 0 := by omega
    have b2' : ¬ p < x := by omega
    have b3' : ¬ y < x := by omega
    have hbp := hb p (List.mem_of_getElem? hp)
    have fin : WL T [0, 1, 3, 7, 11, 15, 17] false f_law09_TremorEases_l16 [(0, .lst plan.length (plan.flatMap intE)), (1, .lst plan.length (cols.flatMap u8E)), (3, .int .i64 ramp), (7, .cref [.int .i64 k0, .int .i64 k1, .int .i64 k2]),
        (11, .lst plan.length (l.flatMap intE)), (15, .lst plan.length (m.flatMap intE)), (17, .int .i64 ((i + 1 : Nat) : Int))] σ (fun x e σ' => σ' = σ ∧ x = .exit 0) := ih
    by_cases c0 : i = 0
    · subst c0
      have hnil : plan ≠ [] := by intro h; simp [h] at g1
      simp only [List.drop_zero] at a1 a2 a3 a4
      by_cases c2 : c = 2
      · subst c2
        by_cases c3 : k2 = 0
        · have := b4 rfl c3
          subst c3 this
          simp [-List.length_flatMap, -List.map_take, e_law09_TremorEases_r0, e_law09_TremorEases_r1, e_law09_TremorEases_r2, e_law09_TremorEases_r3, e_law09_TremorEases_r4, e_law09_TremorEases_r5, e_law09_TremorEases_r6, e_law09_TremorEases_r7, e_law09_TremorEases_r8, e_law09_TremorEases_r9, e_law09_TremorEases_r10, e_law09_TremorEases_r11, e_law09_TremorEases_r12, e_law09_TremorEases_r13, e_law09_TremorEases_r14, e_law09_TremorEases_r15, e_law09_TremorEases_r17, g1, hnil, a1, a2, a3, a4, b1', b2', b3', w1]
          exact WL.to fin (by simp) rfl fun x e σ' hh => hh
        · simp [-List.length_flatMap, -List.map_take, e_law09_TremorEases_r0, e_law09_TremorEases_r1, e_law09_TremorEases_r2, e_law09_TremorEases_r3, e_law09_TremorEases_r4, e_law09_TremorEases_r5, e_law09_TremorEases_r6, e_law09_TremorEases_r7, e_law09_TremorEases_r8, e_law09_TremorEases_r9, e_law09_TremorEases_r10, e_law09_TremorEases_r11, e_law09_TremorEases_r12, e_law09_TremorEases_r13, e_law09_TremorEases_r14, e_law09_TremorEases_r15, e_law09_TremorEases_r17, g1, hnil, a1, a2, a3, a4, b1', b2', b3', c3, w1]
          exact WL.to fin (by simp) rfl fun x e σ' hh => hh
      · simp [-List.length_flatMap, -List.map_take, e_law09_TremorEases_r0, e_law09_TremorEases_r1, e_law09_TremorEases_r2, e_law09_TremorEases_r3, e_law09_TremorEases_r4, e_law09_TremorEases_r5, e_law09_TremorEases_r6, e_law09_TremorEases_r7, e_law09_TremorEases_r8, e_law09_TremorEases_r9, e_law09_TremorEases_r10, e_law09_TremorEases_r11, e_law09_TremorEases_r12, e_law09_TremorEases_r13, e_law09_TremorEases_r14, e_law09_TremorEases_r15, e_law09_TremorEases_r17, g1, hnil, a1, a2, a3, a4, b1', b2', b3', c2, w1]
        exact WL.to fin (by simp) rfl fun x e σ' hh => hh
    · have c0' : 0 < i := by omega
      obtain ⟨z, hzz⟩ : ∃ x, l[i - 1]? = some x := ⟨_, List.getElem?_eq_getElem (by omega)⟩
      have a5 := flat_at (f := intE) (w := 1) (fun _ => rfl) hzz
      simp only [Nat.mul_one] at a5
      obtain ⟨p', hp'⟩ : ∃ x, plan[i - 1]? = some x := ⟨_, List.getElem?_eq_getElem (by omega)⟩
      obtain ⟨c', hc'⟩ : ∃ x, cols[i - 1]? = some x := ⟨_, List.getElem?_eq_getElem (by omega)⟩
      obtain ⟨y', hy'⟩ : ∃ x, m[i - 1]? = some x := ⟨_, List.getElem?_eq_getElem (by omega)⟩
      have b5 := hx (i - 1) z y' p' c' hzz hy' hp' hc'
      have hbp' := hb p' (List.mem_of_getElem? hp')
      have b6 := hz (i - 1) x z (by rw [show i - 1 + 1 = i by omega]; exact hxx) hzz
      have b6' : ¬ z + ramp < x := by omega
      have w2 := w64 (n := (i : Int) - 1) (by omega)
      have w3 : ((i : Int) - 1).toNat = i - 1 := by omega
      have w4 : (0 : Int) ≤ (i : Int) - 1 := by omega
      have w4' : (1 : Int) ≤ (i : Int) := by omega
      have w5 : (i : Int) - 1 < plan.length := by omega
      have w6 := w64 (n := z + ramp) (by omega)
      by_cases c2 : c = 2
      · subst c2
        by_cases c3 : k2 = 0
        · have := b4 rfl c3
          subst c3 this
          simp [-List.length_flatMap, -List.map_take, e_law09_TremorEases_r0, e_law09_TremorEases_r1, e_law09_TremorEases_r2, e_law09_TremorEases_r3, e_law09_TremorEases_r4, e_law09_TremorEases_r5, e_law09_TremorEases_r6, e_law09_TremorEases_r7, e_law09_TremorEases_r8, e_law09_TremorEases_r9, e_law09_TremorEases_r10, e_law09_TremorEases_r11, e_law09_TremorEases_r12, e_law09_TremorEases_r13, e_law09_TremorEases_r14, e_law09_TremorEases_r15, e_law09_TremorEases_r17, g1, a1, a2, a3, a4, a5, b1', b2', b3', b6', c0', w1, w2, w3, w4, w4', w5, w6]
          exact WL.to fin (by simp) rfl fun x e σ' hh => hh
        · simp [-List.length_flatMap, -List.map_take, e_law09_TremorEases_r0, e_law09_TremorEases_r1, e_law09_TremorEases_r2, e_law09_TremorEases_r3, e_law09_TremorEases_r4, e_law09_TremorEases_r5, e_law09_TremorEases_r6, e_law09_TremorEases_r7, e_law09_TremorEases_r8, e_law09_TremorEases_r9, e_law09_TremorEases_r10, e_law09_TremorEases_r11, e_law09_TremorEases_r12, e_law09_TremorEases_r13, e_law09_TremorEases_r14, e_law09_TremorEases_r15, e_law09_TremorEases_r17, g1, a1, a2, a3, a4, a5, b1', b2', b3', b6', c0', w1, w2, w3, w4, w4', w5, w6, c3]
          exact WL.to fin (by simp) rfl fun x e σ' hh => hh
      · simp [-List.length_flatMap, -List.map_take, e_law09_TremorEases_r0, e_law09_TremorEases_r1, e_law09_TremorEases_r2, e_law09_TremorEases_r3, e_law09_TremorEases_r4, e_law09_TremorEases_r5, e_law09_TremorEases_r6, e_law09_TremorEases_r7, e_law09_TremorEases_r8, e_law09_TremorEases_r9, e_law09_TremorEases_r10, e_law09_TremorEases_r11, e_law09_TremorEases_r12, e_law09_TremorEases_r13, e_law09_TremorEases_r14, e_law09_TremorEases_r15, e_law09_TremorEases_r17, g1, a1, a2, a3, a4, a5, b1', b2', b3', b6', c0', w1, w2, w3, w4, w4', w5, w6, c2]
        exact WL.to fin (by simp) rfl fun x e σ' hh => hh

theorem law_Eases {plan cols : List Int} {k0 k1 k2 ramp a : Int} (hc0 : ∀ c ∈ cols, 0 ≤ c) (ha : 0 ≤ a ∧ a ≤ 255) (hpl : plan.length ≤ 9223372036854775807) (hσ : σ ≠ []) :
    lim T (.call false i_law09_TremorEases [.lst plan.length (plan.flatMap intE), .lst cols.length (cols.flatMap u8E), .agg [.int .i64 k0, .int .i64 k1, .int .i64 k2], .int .i64 ramp, .int .u8 a] σ) = some (.val (.bool true) σ) := by
  refine call_of T_law09_TremorEases e_law09_TremorEases rfl ?_
  have hR := fun σ => @C_RightPlan σ plan cols k0 k1 k2 ramp hpl
  by_cases a1 : plan.length < 1
  · have a1' : (plan.length : Int) < 1 := by omega
    simp [-List.length_flatMap, -List.map_take, e_law09_TremorEases_r0, e_law09_TremorEases_r1, e_law09_TremorEases_r2, e_law09_TremorEases_r3, e_law09_TremorEases_r4, e_law09_TremorEases_r5, e_law09_TremorEases_r6, e_law09_TremorEases_r7, e_law09_TremorEases_r8, e_law09_TremorEases_r9, e_law09_TremorEases_r10, e_law09_TremorEases_r11, e_law09_TremorEases_r12, e_law09_TremorEases_r13, e_law09_TremorEases_r14, e_law09_TremorEases_r15, e_law09_TremorEases_r17, a1', C_awake]
  have a1' : ¬ (plan.length : Int) < 1 := by omega
  by_cases a2 : 60 < plan.length
  · have a2' : (60 : Int) < plan.length := by omega
    simp [-List.length_flatMap, -List.map_take, e_law09_TremorEases_r0, e_law09_TremorEases_r1, e_law09_TremorEases_r2, e_law09_TremorEases_r3, e_law09_TremorEases_r4, e_law09_TremorEases_r5, e_law09_TremorEases_r6, e_law09_TremorEases_r7, e_law09_TremorEases_r8, e_law09_TremorEases_r9, e_law09_TremorEases_r10, e_law09_TremorEases_r11, e_law09_TremorEases_r12, e_law09_TremorEases_r13, e_law09_TremorEases_r14, e_law09_TremorEases_r15, e_law09_TremorEases_r17, a1', a2', C_awake]
  have a2' : ¬ (60 : Int) < plan.length := by omega
  cases c1 : planOk plan cols k0 k1 k2 ramp
  · simp [-List.length_flatMap, -List.map_take, e_law09_TremorEases_r0, e_law09_TremorEases_r1, e_law09_TremorEases_r2, e_law09_TremorEases_r3, e_law09_TremorEases_r4, e_law09_TremorEases_r5, e_law09_TremorEases_r6, e_law09_TremorEases_r7, e_law09_TremorEases_r8, e_law09_TremorEases_r9, e_law09_TremorEases_r10, e_law09_TremorEases_r11, e_law09_TremorEases_r12, e_law09_TremorEases_r13, e_law09_TremorEases_r14, e_law09_TremorEases_r15, e_law09_TremorEases_r17, a1', a2', hR, c1, C_awake]
  have hk := c1
  simp only [planOk, Bool.and_eq_true, decide_eq_true_eq, allB_iff, amtOk, inn_iff] at hk
  obtain ⟨k1', hlen, k3', k4', k5'⟩ := hk
  have r1 : plan.length * 8 ≤ room := by unfold room; omega
  have r2 : cols.length ≤ room := by unfold room; omega
  have r2' : plan.length ≤ room := by unfold room; omega
  have l1 := flat_len (f := intE) (w := 1) (fun _ => rfl) plan
  have l2 := flat_len (f := u8E) (w := 1) (fun _ => rfl) cols
  simp only [Nat.mul_one] at l1 l2
  have hP := fun σ (hσ : σ ≠ []) => @C_Inject σ plan cols k0 k1 k2 ramp (by omega) (by omega) hc0 hσ
  have c0 : ¬ 500 < plan.length := by omega
  simp only [c0, c1, if_true, if_false] at hP hR
  -- the place
  obtain ⟨k, hk1, hk2⟩ : ∃ k : Nat, a.tmod plan.length = k ∧ k < plan.length := by
    refine ⟨(a.tmod plan.length).toNat, ?_, ?_⟩
    · have : 0 ≤ a.tmod plan.length := Int.tmod_nonneg _ ha.1
      omega
    · have h0 : 0 ≤ a.tmod plan.length := Int.tmod_nonneg _ ha.1
      have : a.tmod plan.length < plan.length := Int.tmod_lt_of_pos _ (by omega)
      omega
  have hw := w64 (n := a) (by omega)
  have hne : (plan.length : Int) ≠ 0 := by omega
  have hne' : plan.length ≠ 0 := by omega
  have hne2 : plan ≠ [] := by intro h; simp [h] at hne'
  obtain ⟨c, hc⟩ : ∃ x, cols[k]? = some x := ⟨_, List.getElem?_eq_getElem (by omega)⟩
  have b1 := flat_at (f := u8E) (w := 1) (fun _ => rfl) hc
  simp only [Nat.mul_one] at b1
  have hc00 := hc0 c (List.mem_of_getElem? hc)
  have hc2 := k3' c (List.mem_of_getElem? hc)
  have hil : (injOf plan cols k0 k1 k2 ramp).length = plan.length := injL_len _ _ _ hlen
  have fin : ∀ ds, easier cols ds → ds.length = plan.length → ∀ σ : Stack,
      WL T [0, 1, 3, 7, 11, 15, 17] false f_law09_TremorEases_l16 [(0, .lst plan.length (plan.flatMap intE)), (1, .lst plan.length (cols.flatMap u8E)), (3, .int .i64 ramp), (7, .cref [.int .i64 k0, .int .i64 k1, .int .i64 k2]),
        (11, .lst plan.length ((injOf plan cols k0 k1 k2 ramp).flatMap intE)), (15, .lst plan.length ((injOf plan ds k0 k1 k2 ramp).flatMap intE)), (17, .int .i64 ((0 : Nat) : Int))] σ
      (fun x e σ' => σ' = σ ∧ x = .exit 0) := by
    intro ds he hd σ
    refine L_eases (by omega) hlen hil (injL_len _ _ _ hd) k4' (fun p hp => (k1' p hp).2) ?_ ?_ plan.length 0 (by omega)
    · exact inj_ease k5' k4'.1 plan cols ds none none hlen he (fun p hp => (k1' p hp).1) k3' trivial
    · exact inj_ramp plan cols none
  have hu := fun cs => @k_clean _ u8E (fun x => by simp) cs
  by_cases hc1 : 0 < c
  · have he := easier_set hc0 hc hc1
    obtain ⟨o1, o2⟩ := easier_ok c1 he
    have hP2 := fun σ (hσ : σ ≠ []) => @C_Inject σ plan (cols.set k (c - 1)) k0 k1 k2 ramp (by omega) (by simp; omega) o2 hσ
    simp only [c0, o1, if_true, if_false, List.length_set] at hP2
    have hil2 : (injOf plan (cols.set k (c - 1)) k0 k1 k2 ramp).length = plan.length := injL_len _ _ _ (by simp [hlen])
    have hset := k_set (f := u8E) (w := 1) (fun _ => rfl) (l := cols) (i := k) (x := c - 1) (by omega)
    simp only [Nat.mul_one, u8E, List.cons_append, List.nil_append] at hset
    have hwu := wu8 (n := c - 1) (by omega)
    have hfz := fun σ (hσ : σ ≠ []) => @k_frz _ u8E 1 (fun _ => rfl) (fun x => by simp) (cols.set k (c - 1)) 0 0 [.cells 0 ((cols.set k (c - 1)).flatMap u8E)] σ hσ rfl
    rw [hil, hlen] at hP
    rw [hil2, hlen] at hP2
    rw [hlen] at hR
    simp only [List.length_set, hlen] at hfz
    rw [hlen] at l2
    have g1 : 1 ≤ plan.length - k := by omega
    have g2 : 0 < plan.length - k := by omega
    have g3 : k + 1 ≤ plan.length := by omega
    have b2 := k_drop (f := u8E) (w := 1) (fun _ => rfl) hc
    simp only [Nat.mul_one, u8E, List.cons_append, List.nil_append] at b2
    simp only [u8E] at hset hfz b1 l2 hR hP hP2
    simp [-List.length_flatMap, -List.map_take, e_law09_TremorEases_r0, e_law09_TremorEases_r1, e_law09_TremorEases_r2, e_law09_TremorEases_r3, e_law09_TremorEases_r4, e_law09_TremorEases_r5, e_law09_TremorEases_r6, e_law09_TremorEases_r7, e_law09_TremorEases_r8, e_law09_TremorEases_r9, e_law09_TremorEases_r10, e_law09_TremorEases_r11, e_law09_TremorEases_r12, e_law09_TremorEases_r13, e_law09_TremorEases_r14, e_law09_TremorEases_r15, e_law09_TremorEases_r17, a1', a2', hR, r1, r2', l1, l2, hlen, hP, hw, hk1, hk2, hne, hne', hne2, b2, hc1, hwu, hset, g1, g2, g3, hfz, hσ, hP2]
    refine WL.to (fin _ he (by simp [hlen]) _) (by simp) rfl ?_
    rintro x e σ' ⟨rfl, rfl⟩
    simp [-List.length_flatMap, -List.map_take, e_law09_TremorEases_r17, C_awake]
  · have he := easier_self cols hc0
    have hfz := fun σ (hσ : σ ≠ []) => @k_frz _ u8E 1 (fun _ => rfl) (fun x => by simp) cols 0 0 [.cells 0 (cols.flatMap u8E)] σ hσ rfl
    rw [hil, hlen] at hP
    rw [hlen] at hR
    simp only [hlen] at hfz
    rw [hlen] at l2
    have g1 : 1 ≤ plan.length - k := by omega
    have g2 : 0 < plan.length - k := by omega
    have b2 := k_drop (f := u8E) (w := 1) (fun _ => rfl) hc
    simp only [Nat.mul_one, u8E, List.cons_append, List.nil_append] at b2
    simp only [u8E] at hfz b1 l2 hR hP
    simp [-List.length_flatMap, -List.map_take, e_law09_TremorEases_r0, e_law09_TremorEases_r1, e_law09_TremorEases_r2, e_law09_TremorEases_r3, e_law09_TremorEases_r4, e_law09_TremorEases_r5, e_law09_TremorEases_r6, e_law09_TremorEases_r7, e_law09_TremorEases_r8, e_law09_TremorEases_r9, e_law09_TremorEases_r10, e_law09_TremorEases_r11, e_law09_TremorEases_r12, e_law09_TremorEases_r13, e_law09_TremorEases_r14, e_law09_TremorEases_r15, e_law09_TremorEases_r17, a1', a2', hR, r1, r2', l1, l2, hlen, hP, hw, hk1, hk2, hne, hne', hne2, b2, hc1, g1, g2, hfz, hσ]
    refine WL.to (fin _ he hlen _) (by simp) rfl ?_
    rintro x e σ' ⟨rfl, rfl⟩
    simp [-List.length_flatMap, -List.map_take, e_law09_TremorEases_r17, C_awake]

theorem go_TremorEases (x0 x1 x2 x3 x4 : D) (t0 : (Ty.slice 1 tyI).hasV x0) (t1 : (Ty.slice 1 (.int .u8)).hasV x1) (t2 : (Ty.arr 3 tyI).hasV x2) (t3 : tyI.hasV x3) (t4 : (Ty.int .u8).hasV x4) :
    ∃ σ', lim T (.call false i_law09_TremorEases [x0, x1, x2, x3, x4] [[]]) = some (.val (.bool true) σ') := by
  obtain ⟨l, rfl, hl, _⟩ := rows_of (fun ds h => int_of h) t0
  obtain ⟨c, rfl, _, hc⟩ := rows_of (fun ds h => u8e_of h) t1
  obtain ⟨k0, k1, k2, rfl, _⟩ := arr3_of t2
  obtain ⟨r, rfl, _⟩ := i64_of t3
  obtain ⟨a, rfl, ha⟩ := u8_of t4
  exact ⟨_, law_Eases (fun a ha => (hc a ha).1) ha (by unfold maxLen at *; omega) (by simp)⟩
end Go.Proofs.Yticpenoicajakaa
