/-
  Plain law: a curve that agrees lies in the ranges; with fewer steps no range is narrower; the steps that a curve made.
-/
import Derived.Test.YtehandllpmlcoaaTrialSpec
set_option linter.unusedVariables false
set_option linter.unusedSimpArgs false
namespace Go.Trial
open Go Go.Abs

theorem mlo {n : Int} : ∀ (l : List Rg) (r : Rg), (l.foldl meet r).lo ≤ n ↔ r.lo ≤ n ∧ ∀ x ∈ l, x.lo ≤ n
  | [], r => by simp
  | y :: l, r => by
    simp only [List.foldl_cons, mlo l, List.mem_cons, forall_eq_or_imp]
    have e : (meet r y).lo = max r.lo y.lo := rfl
    rw [e]
    constructor
    · rintro ⟨h1, h2⟩; exact ⟨by omega, by omega, h2⟩
    · rintro ⟨h1, h2, h3⟩; exact ⟨by omega, h3⟩
theorem mhi {n : Int} : ∀ (l : List Rg) (r : Rg), n ≤ (l.foldl meet r).hi ↔ n ≤ r.hi ∧ ∀ x ∈ l, n ≤ x.hi
  | [], r => by simp
  | y :: l, r => by
    simp only [List.foldl_cons, mhi l, List.mem_cons, forall_eq_or_imp]
    have e : (meet r y).hi = min r.hi y.hi := rfl
    rw [e]
    constructor
    · rintro ⟨h1, h2⟩; exact ⟨by omega, by omega, h2⟩
    · rintro ⟨h1, h2, h3⟩; exact ⟨by omega, h3⟩

/-- Does a curve agree? -/
structure Agr (t : Test) (x : Cv) : Prop where
  a : t.a.lo ≤ x.a ∧ x.a ≤ t.a.hi
  b : t.b.lo ≤ x.b ∧ x.b ≤ t.b.hi
  c : t.c.lo ≤ x.c ∧ x.c ≤ t.c.hi
  s : ∀ s ∈ t.st, s.d.lo ≤ Cv.drop x s.q ∧ Cv.drop x s.q ≤ s.d.hi
theorem agr_in {t : Test} {x : Cv} (h : Agr t x) : (setOf t x.b x.c).lo ≤ x.a ∧ x.a ≤ (setOf t x.b x.c).hi := by
  unfold setOf
  rw [mlo, mhi]
  refine ⟨⟨h.a.1, fun r hr => ?_⟩, h.a.2, fun r hr => ?_⟩
  all_goals
    simp only [List.mem_map] at hr
    obtain ⟨s, hs, rfl⟩ := hr
    have := h.s s hs
    simp only [rmS, Rg.less, Cv.drop] at this ⊢
    omega
theorem agr_mem {t : Test} {x : Cv} (h : Agr t x) : ((⟨0, x.b, x.c⟩, setOf t x.b x.c) : Cv × Rg) ∈ sets t := by
  have h1 := agr_in h
  refine mem_sets ?_ (by omega)
  simp only [pairs, List.mem_flatMap, List.mem_map]
  exact ⟨x.b, mem_upto h.b.1 h.b.2, x.c, mem_upto h.c.1 h.c.2, rfl⟩
theorem many_pos : ∀ {l : List (Cv × Rg)}, (∀ x ∈ l, x.2.lo ≤ x.2.hi) → 0 ≤ manyOf l ∧ (l ≠ [] → 1 ≤ manyOf l)
  | [], _ => by simp [manyOf]
  | x :: l, h => by
    have ih := many_pos (l := l) fun y hy => h y (by simp [hy])
    have h1 := h x (by simp)
    simp only [manyOf]
    exact ⟨by omega, fun _ => by omega⟩
theorem agr_many {t : Test} {x : Cv} (h : Agr t x) : 1 ≤ manyOf (sets t) :=
  (many_pos fun y hy => (sets_mem hy).2.2.2).2 (List.ne_nil_of_mem (agr_mem h))
theorem agr_a {t : Test} {x : Cv} (h : Agr t x) : (aOf (sets t)).lo ≤ x.a ∧ x.a ≤ (aOf (sets t)).hi := by
  have h1 := spanL_mem (List.mem_map_of_mem (f := fun y : Cv × Rg => y.2) (agr_mem h))
  have h2 := agr_in h
  unfold aOf
  dsimp only at h1
  omega
theorem agr_b {t : Test} {x : Cv} (h : Agr t x) : (bOf (sets t)).lo ≤ x.b ∧ x.b ≤ (bOf (sets t)).hi :=
  spanL_mem (List.mem_map_of_mem (f := fun y : Cv × Rg => (⟨y.1.b, y.1.b⟩ : Rg)) (agr_mem h))
theorem agr_c {t : Test} {x : Cv} (h : Agr t x) : (cOf (sets t)).lo ≤ x.c ∧ x.c ≤ (cOf (sets t)).hi :=
  spanL_mem (List.mem_map_of_mem (f := fun y : Cv × Rg => (⟨y.1.c, y.1.c⟩ : Rg)) (agr_mem h))
theorem agr_d {t : Test} {x : Cv} (h : Agr t x) (q : Int) : (dOf q (sets t)).lo ≤ Cv.drop x q ∧ Cv.drop x q ≤ (dOf q (sets t)).hi := by
  have h1 := spanL_mem (List.mem_map_of_mem (f := shift q) (agr_mem h))
  have h2 := agr_in h
  unfold dOf
  have e : shift q ((⟨0, x.b, x.c⟩, setOf t x.b x.c) : Cv × Rg) = ⟨Cv.drop ⟨(setOf t x.b x.c).lo, x.b, x.c⟩ q, Cv.drop ⟨(setOf t x.b x.c).hi, x.b, x.c⟩ q⟩ := rfl
  rw [e] at h1
  generalize spanL ((sets t).map (shift q)) = S at *
  simp only [Cv.drop] at h1 ⊢
  omega

/-! ### Fewer steps -/

structure Fewer (t' t : Test) : Prop where
  a : t'.a = t.a
  b : t'.b = t.b
  c : t'.c = t.c
  s : ∀ s ∈ t'.st, s ∈ t.st
theorem set_wider {t' t : Test} (h : Fewer t' t) (b c : Int) : (setOf t' b c).lo ≤ (setOf t b c).lo ∧ (setOf t b c).hi ≤ (setOf t' b c).hi := by
  have h1 := (mlo (t.st.map (rmS b c)) t.a).1 (Int.le_refl _)
  have h2 := (mhi (t.st.map (rmS b c)) t.a).1 (Int.le_refl _)
  have hm : ∀ r ∈ t'.st.map (rmS b c), r ∈ t.st.map (rmS b c) := fun r hr => by
    simp only [List.mem_map] at hr ⊢
    obtain ⟨s, hs, rfl⟩ := hr
    exact ⟨s, h.s s hs, rfl⟩
  unfold setOf
  rw [mlo, mhi, h.a]
  exact ⟨⟨h1.1, fun r hr => h1.2 r (hm r hr)⟩, h2.1, fun r hr => h2.2 r (hm r hr)⟩
theorem few_pairs {t' t : Test} (h : Fewer t' t) : pairs t' = pairs t := by unfold pairs; rw [h.b, h.c]
theorem many_wider {t' t : Test} (h : Fewer t' t) : ∀ ps : List (Int × Int), manyOf (ps.filterMap (setAt t)) ≤ manyOf (ps.filterMap (setAt t'))
  | [] => by simp
  | p :: ps => by
    have ih := many_wider h ps
    have hw := set_wider h p.1 p.2
    simp only [List.filterMap_cons, setAt, Rg.ne, decide_eq_true_eq]
    by_cases h1 : (setOf t p.1 p.2).lo ≤ (setOf t p.1 p.2).hi
    · have h2 : (setOf t' p.1 p.2).lo ≤ (setOf t' p.1 p.2).hi := by omega
      simp only [h1, h2, if_true, manyOf]
      omega
    · by_cases h2 : (setOf t' p.1 p.2).lo ≤ (setOf t' p.1 p.2).hi
      · simp only [h1, h2, if_true, if_false, manyOf]
        omega
      · simp only [h1, h2, if_false]
        exact ih
theorem sets_cov {t' t : Test} (h : Fewer t' t) {x : Cv × Rg} (hx : x ∈ sets t) : ∃ y ∈ sets t', y.1 = x.1 ∧ y.2.lo ≤ x.2.lo ∧ x.2.hi ≤ y.2.hi := by
  obtain ⟨h1, h2, h3, h4⟩ := sets_mem hx
  have hw := set_wider h x.1.b x.1.c
  rw [h3] at h4
  refine ⟨(⟨0, x.1.b, x.1.c⟩, setOf t' x.1.b x.1.c), mem_sets (by rw [few_pairs h]; exact h2) (by omega), ?_, by rw [h3]; exact hw.1, by rw [h3]; exact hw.2⟩
  obtain ⟨⟨a, b, c⟩, r⟩ := x
  dsimp only at h1 ⊢
  rw [h1]
theorem spanL_cov {l l' : List Rg} (hne : l ≠ []) (h : ∀ r ∈ l, ∃ r' ∈ l', r'.lo ≤ r.lo ∧ r.hi ≤ r'.hi) : (spanL l').lo ≤ (spanL l).lo ∧ (spanL l).hi ≤ (spanL l').hi := by
  obtain ⟨r, hr, e1⟩ := spanL_lo hne
  obtain ⟨s, hs, e2⟩ := spanL_hi hne
  obtain ⟨r', hr', h1⟩ := h r hr
  obtain ⟨s', hs', h2⟩ := h s hs
  have h3 := spanL_mem hr'
  have h4 := spanL_mem hs'
  omega
theorem map_cov {t' t : Test} (h : Fewer t' t) (hne : sets t ≠ []) {f : Cv × Rg → Rg} (hf : ∀ x y : Cv × Rg, y.1 = x.1 → y.2.lo ≤ x.2.lo → x.2.hi ≤ y.2.hi → (f y).lo ≤ (f x).lo ∧ (f x).hi ≤ (f y).hi) :
    (spanL ((sets t').map f)).lo ≤ (spanL ((sets t).map f)).lo ∧ (spanL ((sets t).map f)).hi ≤ (spanL ((sets t').map f)).hi := by
  refine spanL_cov (by simpa using hne) fun r hr => ?_
  simp only [List.mem_map] at hr
  obtain ⟨x, hx, rfl⟩ := hr
  obtain ⟨y, hy, h1, h2, h3⟩ := sets_cov h hx
  exact ⟨f y, List.mem_map_of_mem hy, hf x y h1 h2 h3⟩
theorem a_wider {t' t : Test} (h : Fewer t' t) (hne : sets t ≠ []) : (aOf (sets t')).lo ≤ (aOf (sets t)).lo ∧ (aOf (sets t)).hi ≤ (aOf (sets t')).hi :=
  map_cov h hne fun x y h1 h2 h3 => ⟨h2, h3⟩
theorem b_wider {t' t : Test} (h : Fewer t' t) (hne : sets t ≠ []) : (bOf (sets t')).lo ≤ (bOf (sets t)).lo ∧ (bOf (sets t)).hi ≤ (bOf (sets t')).hi :=
  map_cov h hne fun x y h1 h2 h3 => by rw [h1]; exact ⟨Int.le_refl _, Int.le_refl _⟩
theorem c_wider {t' t : Test} (h : Fewer t' t) (hne : sets t ≠ []) : (cOf (sets t')).lo ≤ (cOf (sets t)).lo ∧ (cOf (sets t)).hi ≤ (cOf (sets t')).hi :=
  map_cov h hne fun x y h1 h2 h3 => by rw [h1]; exact ⟨Int.le_refl _, Int.le_refl _⟩
theorem d_wider {t' t : Test} (h : Fewer t' t) (hne : sets t ≠ []) (q : Int) : (dOf q (sets t')).lo ≤ (dOf q (sets t)).lo ∧ (dOf q (sets t)).hi ≤ (dOf q (sets t')).hi :=
  map_cov h hne fun x y h1 h2 h3 => by
    simp only [shift, Cv.drop]
    rw [h1]
    omega
theorem few_ne {t' t : Test} (h : Fewer t' t) (hne : sets t ≠ []) : sets t' ≠ [] := by
  obtain ⟨x, hx⟩ := List.exists_mem_of_ne_nil _ hne
  obtain ⟨y, hy, _⟩ := sets_cov h hx
  exact List.ne_nil_of_mem hy
theorem few_fault {t' t : Test} (h : Fewer t' t) (hl : t'.st.length ≤ t.st.length) (h0 : fault t = 0) : fault t' = 0 := by
  unfold fault at h0 ⊢
  split at h0
  · cases h0
  rename_i h1
  split at h0
  · rename_i h2
    rw [if_neg (by omega)]
    simp only [Bool.and_eq_true, boxOk, h.a, h.b, h.c, allB_iff] at h2 ⊢
    rw [if_pos ⟨h2.1, fun s hs => h2.2 s (h.s s hs)⟩]
  · cases h0

/-! ### The steps that a curve made -/

def ktS (x : Cv) (s : Step) : Step := ⟨s.q, ⟨Cv.drop x s.q - s.d.lo, Cv.drop x s.q + s.d.hi⟩⟩
def kt (t : Test) (x : Cv) : Test := ⟨t.a, t.b, t.c, t.st.map (ktS x)⟩
structure Made (t : Test) (x : Cv) : Prop where
  n : t.st.length ≤ 12
  box : boxOk t = true
  a : t.a.lo ≤ x.a ∧ x.a ≤ t.a.hi
  b : t.b.lo ≤ x.b ∧ x.b ≤ t.b.hi
  c : t.c.lo ≤ x.c ∧ x.c ≤ t.c.hi
  s : ∀ s ∈ t.st, (0 ≤ s.q ∧ s.q ≤ 1000) ∧ (0 ≤ s.d.lo ∧ s.d.lo ≤ 1000) ∧ 0 ≤ s.d.hi ∧ s.d.hi ≤ 1000
theorem made_box {t : Test} {x : Cv} (h : Made t x) : (0 ≤ x.a ∧ x.a ≤ 100000) ∧ (0 ≤ x.b ∧ x.b ≤ 10000) ∧ 0 ≤ x.c ∧ x.c ≤ 1000 := by
  have h1 := h.box
  simp only [boxOk, Rg.right, Bool.and_eq_true, decide_eq_true_eq] at h1
  have h2 := h.a; have h3 := h.b; have h4 := h.c
  omega
theorem made_drop {t : Test} {x : Cv} (h : Made t x) {q : Int} (hq : 0 ≤ q ∧ q ≤ 1000) : 0 ≤ Cv.drop x q ∧ Cv.drop x q ≤ 1010100000 := by
  obtain ⟨h1, h2, h3⟩ := made_box h
  have := drop_bound h1 h2 h3 hq
  exact this.2.2.2
theorem made_fault {t : Test} {x : Cv} (h : Made t x) : fault (kt t x) = 0 := by
  unfold fault
  have h1 : ¬ 12 < (kt t x).st.length := by have := h.n; simp only [kt, List.length_map]; omega
  rw [if_neg h1]
  have h2 : boxOk (kt t x) = true := h.box
  have h3 : allB (kt t x).st Step.ok = true := by
    rw [allB_iff]
    intro s hs
    simp only [kt, List.mem_map] at hs
    obtain ⟨s, hs, rfl⟩ := hs
    have h4 := h.s s hs
    have h5 := made_drop h h4.1
    show Step.ok ⟨s.q, ⟨Cv.drop x s.q - s.d.lo, Cv.drop x s.q + s.d.hi⟩⟩ = true
    simp only [Step.ok, Rg.drops, Rg.right, Bool.and_eq_true, inn_iff, decide_eq_true_eq]
    exact ⟨h4.1, by omega, by omega, by omega⟩
  rw [h2, h3]
  rfl
theorem made_agr {t : Test} {x : Cv} (h : Made t x) : Agr (kt t x) x :=
  ⟨h.a, h.b, h.c, fun s hs => by
    simp only [kt, List.mem_map] at hs
    obtain ⟨s, hs, rfl⟩ := hs
    have h4 := h.s s hs
    simp only [ktS]
    omega⟩
end Go.Trial
