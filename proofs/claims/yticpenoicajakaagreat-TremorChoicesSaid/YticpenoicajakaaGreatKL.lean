/-
  Lights: of the program.
-/
import Derived.Test.YticpenoicajakaaGreatK12
set_option linter.unusedVariables false
set_option linter.unusedSimpArgs false
namespace Go.Trem
open Go Go.Abs

structure Spt where
  p : Pt
  mag : Int
structure Ev where
  tick : Int
  sp : List Spt
structure Rule where
  lo : Pt
  hi : Pt
  least : Int
  ticks : Int
  count : Int
  col : Int
@[simp] theorem Spt.eta (p : Spt) : Spt.mk p.p p.mag = p := rfl
@[simp] theorem Ev.eta (p : Ev) : Ev.mk p.tick p.sp = p := rfl
@[simp] theorem Rule.eta (p : Rule) : Rule.mk p.lo p.hi p.least p.ticks p.count p.col = p := rfl
@[simp] def Spt.enc (s : Spt) : List D := [.int .i64 s.p.x, .int .i64 s.p.y, .int .i64 s.p.z, .int .i64 s.mag]
@[simp] def Ev.enc (e : Ev) : List D := [.int .i64 e.tick, .lst e.sp.length (e.sp.flatMap Spt.enc)]
@[simp] def Rule.enc (r : Rule) : List D := [.int .i64 r.lo.x, .int .i64 r.lo.y, .int .i64 r.lo.z, .int .i64 r.hi.x, .int .i64 r.hi.y, .int .i64 r.hi.z, .int .i64 r.least, .int .i64 r.ticks, .int .i64 r.count, .int .u8 r.col]
def eltSpt : Elt Spt := eltAgg 4 Spt.enc fun _ => rfl
def eltEv : Elt Ev := eltAgg 2 Ev.enc fun _ => rfl
def eltRule : Elt Rule := eltAgg 10 Rule.enc fun _ => rfl

def Rule.cnt (r : Rule) (s : Spt) : Bool := decide (r.least ≤ s.mag) && (inn s.p.x r.lo.x r.hi.x && (inn s.p.y r.lo.y r.hi.y && inn s.p.z r.lo.z r.hi.z))
def Rule.ok (r : Rule) : Bool := boxOk r.lo r.hi && (inn r.least 0 160 && (inn r.ticks 1 1000000 && (inn r.count 1 200 && (r.col == 1 || r.col == 2))))
def Spt.ok (s : Spt) : Bool := s.p.ok && inn s.mag 0 160
def Ev.ok (e : Ev) : Bool := inn e.tick 0 1000000 && (inn e.sp.length 1 2000 && allB e.sp Spt.ok)
def Rule.act (r : Rule) (now : Int) (e : Ev) : Bool := decide (now - r.ticks < e.tick) && decide (e.tick ≤ now)
def cntE (f : Ev → Bool) : List Ev → Nat
  | [] => 0
  | e :: l => cntE f l + (if f e then 1 else 0)
def someE (r : Rule) (now : Int) (e : Ev) : Bool := r.act now e && anyB e.sp r.cnt
def everyE (r : Rule) (now : Int) (e : Ev) : Bool := r.act now e && allB e.sp r.cnt
def lightF (f : Rule → Ev → Bool) (l : List Ev) : List Rule → Int → Int
  | [], a => a
  | r :: R, a => lightF f l R (if r.count ≤ cntE (f r) l then max a r.col else a)
def mayOf (R : List Rule) (l : List Ev) (now : Int) : Int := lightF (fun r => someE r now) l R 0
def sureOf (R : List Rule) (l : List Ev) (now : Int) : Int := lightF (fun r => everyE r now) l R 0
def lightErr (R : List Rule) (l : List Ev) (now : Int) : Int :=
  if 20 < R.length then 3 else if allB R Rule.ok = false then 1 else if 200 < l.length then 3 else if allB l Ev.ok = false then 1 else if inn now 0 1000000 = false then 2 else 0
theorem cntE_le (f : Ev → Bool) : ∀ l, cntE f l ≤ l.length
  | [] => Nat.le_refl _
  | e :: l => by have := cntE_le f l; simp only [cntE, List.length_cons]; split <;> omega
theorem rule_iff {r : Rule} : r.ok = true ↔ boxOk r.lo r.hi = true ∧ (0 ≤ r.least ∧ r.least ≤ 160) ∧ (1 ≤ r.ticks ∧ r.ticks ≤ 1000000) ∧ (1 ≤ r.count ∧ r.count ≤ 200) ∧ (r.col = 1 ∨ r.col = 2) := by
  simp only [Rule.ok, Bool.and_eq_true, inn_iff, Bool.or_eq_true, beq_iff_eq]
end Go.Trem
namespace Go.Proofs.YticpenoicajakaaGreat
open Go Go.Abs Go.Trem
variable {σ : Stack}

theorem C_counts {r : Rule} {s : Spt} : lim T (.call false i_tremor_Rule_counts [.agg r.enc, .agg s.enc] σ) = some (.val (.bool (r.cnt s)) σ) := by
  refine call_of T_tremor_Rule_counts e_tremor_Rule_counts rfl ?_
  by_cases hc1 : r.least ≤ s.mag
  rotate_left
  · simp [-List.length_flatMap, -List.map_take, e_tremor_Rule_counts_r0, e_tremor_Rule_counts_r1, e_tremor_Rule_counts_r2, C_within, Rule.cnt, hc1]
  cases hc2 : inn s.p.x r.lo.x r.hi.x
  · simp [-List.length_flatMap, -List.map_take, e_tremor_Rule_counts_r0, e_tremor_Rule_counts_r1, e_tremor_Rule_counts_r2, C_within, Rule.cnt, hc1, hc2]
  cases hc3 : inn s.p.y r.lo.y r.hi.y
  · simp [-List.length_flatMap, -List.map_take, e_tremor_Rule_counts_r0, e_tremor_Rule_counts_r1, e_tremor_Rule_counts_r2, C_within, Rule.cnt, hc1, hc2, hc3]
  simp [-List.length_flatMap, -List.map_take, e_tremor_Rule_counts_r0, e_tremor_Rule_counts_r1, e_tremor_Rule_counts_r2, C_within, Rule.cnt, hc1, hc2, hc3]

theorem C_rvalid {r : Rule} : lim T (.call false i_tremor_Rule_valid [.agg r.enc] σ) = some (.val (.bool r.ok) σ) := by
  refine call_of T_tremor_Rule_valid e_tremor_Rule_valid rfl ?_
  cases hc1 : boxOk r.lo r.hi
  · simp [-List.length_flatMap, -List.map_take, e_tremor_Rule_valid_r0, e_tremor_Rule_valid_r1, C_within, C_box, Rule.ok, hc1]
  cases hc2 : inn r.least 0 160
  · simp [-List.length_flatMap, -List.map_take, e_tremor_Rule_valid_r0, e_tremor_Rule_valid_r1, C_within, C_box, Rule.ok, hc1, hc2]
  cases hc3 : inn r.ticks 1 1000000
  · simp [-List.length_flatMap, -List.map_take, e_tremor_Rule_valid_r0, e_tremor_Rule_valid_r1, C_within, C_box, Rule.ok, hc1, hc2, hc3]
  cases hc4 : inn r.count 1 200
  · simp [-List.length_flatMap, -List.map_take, e_tremor_Rule_valid_r0, e_tremor_Rule_valid_r1, C_within, C_box, Rule.ok, hc1, hc2, hc3, hc4]
  by_cases hc5 : r.col = 1
  rotate_left
  · simp [-List.length_flatMap, -List.map_take, e_tremor_Rule_valid_r0, e_tremor_Rule_valid_r1, C_within, C_box, Rule.ok, hc1, hc2, hc3, hc4, hc5]
  simp [-List.length_flatMap, -List.map_take, e_tremor_Rule_valid_r0, e_tremor_Rule_valid_r1, C_within, C_box, Rule.ok, hc1, hc2, hc3, hc4, hc5]

theorem C_ev1 {s : Spt} : lim T (.call false i_tremor_Event_valid_1 [.agg s.enc] σ) = some (.val (.bool s.ok) σ) := by
  refine call_of T_tremor_Event_valid_1 e_tremor_Event_valid_1 rfl ?_
  cases hc1 : Pt.ok s.p
  · simp [-List.length_flatMap, -List.map_take, e_tremor_Event_valid_1_r0, e_tremor_Event_valid_1_r1, C_within, C_pvalid, Spt.ok, hc1]
  simp [-List.length_flatMap, -List.map_take, e_tremor_Event_valid_1_r0, e_tremor_Event_valid_1_r1, C_within, C_pvalid, Spt.ok, hc1]

theorem C_all_spt {l : List Spt} {p : Spt → Bool} {fv : D} (ht : Tests T fv eltSpt.val p l) (hc : fv.cells = some [fv]) (hl : l.length ≤ 9223372036854775807) :
    lim T (.call false i_tremor_all_tremor_Spot [.lst l.length (l.flatMap Spt.enc), fv] σ) = some (.val (.bool (allB l p)) σ) :=
  all_of eltSpt T_tremor_all_tremor_Spot T_tremor_all_tremor_Spot_1 T_slices_ContainsFunc_tremor_Spot T_slices_IndexFunc_tremor_Spot hl ht hc

theorem C_evalid {e : Ev} (hl : e.sp.length ≤ 9223372036854775807) : lim T (.call false i_tremor_Event_valid [.agg e.enc] σ) = some (.val (.bool e.ok) σ) := by
  refine call_of T_tremor_Event_valid e_tremor_Event_valid rfl ?_
  have ha := fun σ => @C_all_spt σ e.sp Spt.ok (.fn i_tremor_Event_valid_1 [] []) (.fn fun s _ σ => C_ev1) rfl hl
  cases hc1 : inn e.tick 0 1000000
  · simp [-List.length_flatMap, -List.map_take, e_tremor_Event_valid_r0, e_tremor_Event_valid_r1, C_within, ha, Ev.ok, hc1]
  cases hc2 : inn e.sp.length 1 2000
  · simp [-List.length_flatMap, -List.map_take, e_tremor_Event_valid_r0, e_tremor_Event_valid_r1, C_within, ha, Ev.ok, hc1, hc2]
  simp [-List.length_flatMap, -List.map_take, e_tremor_Event_valid_r0, e_tremor_Event_valid_r1, C_within, ha, Ev.ok, hc1, hc2]

theorem C_all_rule {R : List Rule} (hl : R.length ≤ 9223372036854775807) :
    lim T (.call false i_tremor_all_tremor_Rule [.lst R.length (R.flatMap Rule.enc), .fn i_tremor_Rule_valid [] []] σ) = some (.val (.bool (allB R Rule.ok)) σ) :=
  all_of eltRule T_tremor_all_tremor_Rule T_tremor_all_tremor_Rule_1 T_slices_ContainsFunc_tremor_Rule T_slices_IndexFunc_tremor_Rule hl (.fn fun r _ σ => C_rvalid) rfl
theorem C_all_ev {l : List Ev} (hl : l.length ≤ 9223372036854775807) (hs : ∀ e ∈ l, e.sp.length ≤ 9223372036854775807) :
    lim T (.call false i_tremor_all_tremor_Event [.lst l.length (l.flatMap Ev.enc), .fn i_tremor_Event_valid [] []] σ) = some (.val (.bool (allB l Ev.ok)) σ) :=
  all_of eltEv T_tremor_all_tremor_Event T_tremor_all_tremor_Event_1 T_slices_ContainsFunc_tremor_Event T_slices_IndexFunc_tremor_Event hl (.fn fun r hr σ => C_evalid (hs r hr)) rfl

theorem L_ev {R : List Rule} {l : List Ev} {now may sure : Int} {j : Nat} {r : Rule} (hl : l.length ≤ 200) (hs : ∀ e ∈ l, e.sp.length ≤ 2000) (hr : r.ok = true) (hn : inn now 0 1000000 = true) : ∀ (m i : Nat) (a b : Nat), i + m = l.length → a + m ≤ 200 → b + m ≤ 200 →
    WL T [1, 2, 6, 7, 10, 11, 12, 13, 36, 37, 38, 44, 45, 46] false f_tremor_Light_l25 [(1, .lst l.length (l.flatMap Ev.enc)), (2, .int .i64 now), (6, .int .u8 may), (7, .int .u8 sure), (10, .own 0 r.enc), (11, .int .i64 a), (12, .int .i64 b), (13, .fn i_tremor_Rule_counts [.agg r.enc] []),
        (36, .lst R.length (R.flatMap Rule.enc)), (37, .int .i64 R.length), (38, .int .i64 j), (44, .lst l.length (l.flatMap Ev.enc)), (45, .int .i64 l.length), (46, .int .i64 i)] σ
      (fun x e σ' => x = .exit 3 ∧ σ' = σ ∧ get e 1 = .lst l.length (l.flatMap Ev.enc) ∧ get e 2 = .int .i64 now ∧ get e 6 = .int .u8 may ∧ get e 7 = .int .u8 sure ∧ get e 10 = .own 0 r.enc ∧ get e 11 = .int .i64 (a + cntE (someE r now) (l.drop i) : Nat) ∧ get e 12 = .int .i64 (b + cntE (everyE r now) (l.drop i) : Nat) ∧
        get e 36 = .lst R.length (R.flatMap Rule.enc) ∧ get e 37 = .int .i64 R.length ∧ get e 38 = .int .i64 j)
  | 0, i, a, b, hi, ha, hb => by
    refine WL_step e_tremor_Light_l25 ?_
    have h1 : ¬ i < l.length := by omega
    have h2 : l.drop i = [] := by simp; omega
    simp [-List.length_flatMap, -List.map_take, e_tremor_Light_r0, e_tremor_Light_r1, e_tremor_Light_r2, e_tremor_Light_r3, e_tremor_Light_r4, e_tremor_Light_r5, e_tremor_Light_r6, e_tremor_Light_r7, e_tremor_Light_r8, e_tremor_Light_r9, e_tremor_Light_r10, e_tremor_Light_r11, e_tremor_Light_r12, e_tremor_Light_r13, e_tremor_Light_r14, e_tremor_Light_r15, e_tremor_Light_r16, e_tremor_Light_r17, e_tremor_Light_r18, e_tremor_Light_r19, e_tremor_Light_r20, e_tremor_Light_r21, e_tremor_Light_r22, e_tremor_Light_r23, e_tremor_Light_r24, e_tremor_Light_r26, e_tremor_Light_r27, e_tremor_Light_r28, e_tremor_Light_r29, e_tremor_Light_r30, e_tremor_Light_r32, h1, h2, cntE]
  | m + 1, i, a, b, hi, ha, hb => by
    refine WL_step e_tremor_Light_l25 ?_
    have g1 : i < l.length := by omega
    obtain ⟨e, he⟩ : ∃ x, l[i]? = some x := ⟨_, List.getElem?_eq_getElem g1⟩
    have a1 := flat_at (f := Ev.enc) (w := 2) (fun _ => rfl) he
    have w1 := wnext g1 (by omega)
    have hr' := rule_iff.1 hr
    have hn' := inn_iff.1 hn
    have hse := hs e (List.mem_of_getElem? he)
    have w2 := w64 (n := now - r.ticks) (by omega)
    have w3 := w64 (n := (a : Int) + 1) (by omega)
    have w4 := w64 (n := (b : Int) + 1) (by omega)
    have hC : ∀ σ, lim T (.call false i_slices_ContainsFunc_tremor_Spot [.lst e.sp.length (e.sp.flatMap Spt.enc), .fn i_tremor_Rule_counts [.agg r.enc] []] σ) = some (.val (.bool (anyB e.sp r.cnt)) σ) := fun σ =>
      contains_of eltSpt T_slices_ContainsFunc_tremor_Spot T_slices_IndexFunc_tremor_Spot (by omega) (.fn fun s _ σ => C_counts)
    have hA := fun σ => @C_all_spt σ e.sp r.cnt (.fn i_tremor_Rule_counts [.agg r.enc] []) (.fn fun s _ σ => C_counts) rfl (by omega)
    simp only [Rule.enc] at hC hA
    have d1 : cntE (someE r now) (l.drop i) = cntE (someE r now) (l.drop (i + 1)) + (if someE r now e then 1 else 0) := by rw [drop_at he]; rfl
    have d2 : cntE (everyE r now) (l.drop i) = cntE (everyE r now) (l.drop (i + 1)) + (if everyE r now e then 1 else 0) := by rw [drop_at he]; rfl
    have ih := fun a b => L_ev (R := R) (may := may) (sure := sure) (j := j) hl hs hr hn m (i + 1) a b (by omega)
    rw [d1, d2]
    by_cases c1 : now < e.tick
    · have e1 : someE r now e = false := by simp [someE, Rule.act]; omega
      have e2 : everyE r now e = false := by simp [everyE, Rule.act]; omega
      simp [-List.length_flatMap, -List.map_take, e_tremor_Light_r0, e_tremor_Light_r1, e_tremor_Light_r2, e_tremor_Light_r3, e_tremor_Light_r4, e_tremor_Light_r5, e_tremor_Light_r6, e_tremor_Light_r7, e_tremor_Light_r8, e_tremor_Light_r9, e_tremor_Light_r10, e_tremor_Light_r11, e_tremor_Light_r12, e_tremor_Light_r13, e_tremor_Light_r14, e_tremor_Light_r15, e_tremor_Light_r16, e_tremor_Light_r17, e_tremor_Light_r18, e_tremor_Light_r19, e_tremor_Light_r20, e_tremor_Light_r21, e_tremor_Light_r22, e_tremor_Light_r23, e_tremor_Light_r24, e_tremor_Light_r26, e_tremor_Light_r27, e_tremor_Light_r28, e_tremor_Light_r29, e_tremor_Light_r30, e_tremor_Light_r32, g1, a1, w1, c1, e1, e2]
      exact WL.to (ih a b (by omega) (by omega)) (by simp) rfl fun x e σ' hh => by simpa [e1, e2] using hh
    by_cases c2 : e.tick ≤ now - r.ticks
    · have e1 : someE r now e = false := by simp [someE, Rule.act]; omega
      have e2 : everyE r now e = false := by simp [everyE, Rule.act]; omega
      simp [-List.length_flatMap, -List.map_take, e_tremor_Light_r0, e_tremor_Light_r1, e_tremor_Light_r2, e_tremor_Light_r3, e_tremor_Light_r4, e_tremor_Light_r5, e_tremor_Light_r6, e_tremor_Light_r7, e_tremor_Light_r8, e_tremor_Light_r9, e_tremor_Light_r10, e_tremor_Light_r11, e_tremor_Light_r12, e_tremor_Light_r13, e_tremor_Light_r14, e_tremor_Light_r15, e_tremor_Light_r16, e_tremor_Light_r17, e_tremor_Light_r18, e_tremor_Light_r19, e_tremor_Light_r20, e_tremor_Light_r21, e_tremor_Light_r22, e_tremor_Light_r23, e_tremor_Light_r24, e_tremor_Light_r26, e_tremor_Light_r27, e_tremor_Light_r28, e_tremor_Light_r29, e_tremor_Light_r30, e_tremor_Light_r32, g1, a1, w1, w2, c1, c2, e1, e2]
      exact WL.to (ih a b (by omega) (by omega)) (by simp) rfl fun x e σ' hh => by simpa [e1, e2] using hh
    have act : r.act now e = true := by simp [Rule.act]; omega
    have e1 : someE r now e = anyB e.sp r.cnt := by simp [someE, act]
    have e2 : everyE r now e = allB e.sp r.cnt := by simp [everyE, act]
    rw [e1, e2]
    have k1 : ∀ u v : Nat, u + 1 + v = u + (v + 1) := by intro u v; omega
    cases c3 : anyB e.sp r.cnt <;> cases c4 : allB e.sp r.cnt <;> simp only [c3, c4] at hC hA
    · simp [-List.length_flatMap, -List.map_take, e_tremor_Light_r0, e_tremor_Light_r1, e_tremor_Light_r2, e_tremor_Light_r3, e_tremor_Light_r4, e_tremor_Light_r5, e_tremor_Light_r6, e_tremor_Light_r7, e_tremor_Light_r8, e_tremor_Light_r9, e_tremor_Light_r10, e_tremor_Light_r11, e_tremor_Light_r12, e_tremor_Light_r13, e_tremor_Light_r14, e_tremor_Light_r15, e_tremor_Light_r16, e_tremor_Light_r17, e_tremor_Light_r18, e_tremor_Light_r19, e_tremor_Light_r20, e_tremor_Light_r21, e_tremor_Light_r22, e_tremor_Light_r23, e_tremor_Light_r24, e_tremor_Light_r26, e_tremor_Light_r27, e_tremor_Light_r28, e_tremor_Light_r29, e_tremor_Light_r30, e_tremor_Light_r32, g1, a1, w1, w2, c1, c2, hC, hA]
      exact WL.to (ih a b (by omega) (by omega)) (by simp) rfl fun x e σ' hh => by simpa [c3, c4] using hh
    · simp [-List.length_flatMap, -List.map_take, e_tremor_Light_r0, e_tremor_Light_r1, e_tremor_Light_r2, e_tremor_Light_r3, e_tremor_Light_r4, e_tremor_Light_r5, e_tremor_Light_r6, e_tremor_Light_r7, e_tremor_Light_r8, e_tremor_Light_r9, e_tremor_Light_r10, e_tremor_Light_r11, e_tremor_Light_r12, e_tremor_Light_r13, e_tremor_Light_r14, e_tremor_Light_r15, e_tremor_Light_r16, e_tremor_Light_r17, e_tremor_Light_r18, e_tremor_Light_r19, e_tremor_Light_r20, e_tremor_Light_r21, e_tremor_Light_r22, e_tremor_Light_r23, e_tremor_Light_r24, e_tremor_Light_r26, e_tremor_Light_r27, e_tremor_Light_r28, e_tremor_Light_r29, e_tremor_Light_r30, e_tremor_Light_r32, g1, a1, w1, w2, w4, c1, c2, hC, hA]
      exact WL.to (ih a (b + 1) (by omega) (by omega)) (by simp) rfl fun x e σ' hh => by simp only [k1] at hh; simpa [c3, c4] using hh
    · simp [-List.length_flatMap, -List.map_take, e_tremor_Light_r0, e_tremor_Light_r1, e_tremor_Light_r2, e_tremor_Light_r3, e_tremor_Light_r4, e_tremor_Light_r5, e_tremor_Light_r6, e_tremor_Light_r7, e_tremor_Light_r8, e_tremor_Light_r9, e_tremor_Light_r10, e_tremor_Light_r11, e_tremor_Light_r12, e_tremor_Light_r13, e_tremor_Light_r14, e_tremor_Light_r15, e_tremor_Light_r16, e_tremor_Light_r17, e_tremor_Light_r18, e_tremor_Light_r19, e_tremor_Light_r20, e_tremor_Light_r21, e_tremor_Light_r22, e_tremor_Light_r23, e_tremor_Light_r24, e_tremor_Light_r26, e_tremor_Light_r27, e_tremor_Light_r28, e_tremor_Light_r29, e_tremor_Light_r30, e_tremor_Light_r32, g1, a1, w1, w2, w3, c1, c2, hC, hA]
      exact WL.to (ih (a + 1) b (by omega) (by omega)) (by simp) rfl fun x e σ' hh => by simp only [k1] at hh; simpa [c3, c4] using hh
    · simp [-List.length_flatMap, -List.map_take, e_tremor_Light_r0, e_tremor_Light_r1, e_tremor_Light_r2, e_tremor_Light_r3, e_tremor_Light_r4, e_tremor_Light_r5, e_tremor_Light_r6, e_tremor_Light_r7, e_tremor_Light_r8, e_tremor_Light_r9, e_tremor_Light_r10, e_tremor_Light_r11, e_tremor_Light_r12, e_tremor_Light_r13, e_tremor_Light_r14, e_tremor_Light_r15, e_tremor_Light_r16, e_tremor_Light_r17, e_tremor_Light_r18, e_tremor_Light_r19, e_tremor_Light_r20, e_tremor_Light_r21, e_tremor_Light_r22, e_tremor_Light_r23, e_tremor_Light_r24, e_tremor_Light_r26, e_tremor_Light_r27, e_tremor_Light_r28, e_tremor_Light_r29, e_tremor_Light_r30, e_tremor_Light_r32, g1, a1, w1, w2, w3, w4, c1, c2, hC, hA]
      exact WL.to (ih (a + 1) (b + 1) (by omega) (by omega)) (by simp) rfl fun x e σ' hh => by simp only [k1] at hh; simpa [c3, c4] using hh

theorem L_rule {R : List Rule} {l : List Ev} {now : Int} (hR : R.length ≤ 20) (hl : l.length ≤ 200) (hs : ∀ e ∈ l, e.sp.length ≤ 2000) (hr : ∀ r ∈ R, r.ok = true) (hn : inn now 0 1000000 = true) : ∀ (m j : Nat) (may sure : Int), j + m = R.length →
    WL T [1, 2, 6, 7, 36, 37, 38] false f_tremor_Light_l31 [(1, .lst l.length (l.flatMap Ev.enc)), (2, .int .i64 now), (6, .int .u8 may), (7, .int .u8 sure), (36, .lst R.length (R.flatMap Rule.enc)), (37, .int .i64 R.length), (38, .int .i64 j)] σ
      (fun x e σ' => x = .exit 1 ∧ σ' = σ ∧ get e 6 = .int .u8 (lightF (fun r => someE r now) l (R.drop j) may) ∧ get e 7 = .int .u8 (lightF (fun r => everyE r now) l (R.drop j) sure))
  | 0, j, may, sure, hj => by
    refine WL_step e_tremor_Light_l31 ?_
    have h1 : ¬ j < R.length := by omega
    have h2 : R.drop j = [] := by simp; omega
    simp [-List.length_flatMap, -List.map_take, e_tremor_Light_r0, e_tremor_Light_r1, e_tremor_Light_r2, e_tremor_Light_r3, e_tremor_Light_r4, e_tremor_Light_r5, e_tremor_Light_r6, e_tremor_Light_r7, e_tremor_Light_r8, e_tremor_Light_r9, e_tremor_Light_r10, e_tremor_Light_r11, e_tremor_Light_r12, e_tremor_Light_r13, e_tremor_Light_r14, e_tremor_Light_r15, e_tremor_Light_r16, e_tremor_Light_r17, e_tremor_Light_r18, e_tremor_Light_r19, e_tremor_Light_r20, e_tremor_Light_r21, e_tremor_Light_r22, e_tremor_Light_r23, e_tremor_Light_r24, e_tremor_Light_r26, e_tremor_Light_r27, e_tremor_Light_r28, e_tremor_Light_r29, e_tremor_Light_r30, e_tremor_Light_r32, h1, h2, lightF]
  | m + 1, j, may, sure, hj => by
    refine WL_step e_tremor_Light_l31 ?_
    have g1 : j < R.length := by omega
    obtain ⟨r, hrj⟩ : ∃ x, R[j]? = some x := ⟨_, List.getElem?_eq_getElem g1⟩
    have a1 := flat_at (f := Rule.enc) (w := 10) (fun _ => rfl) hrj
    have w1 := wnext g1 (by omega)
    have hrr := hr r (List.mem_of_getElem? hrj)
    have ih := fun may sure => L_rule hR hl hs hr hn m (j + 1) may sure (by omega)
    rw [drop_at hrj]
    simp [-List.length_flatMap, -List.map_take, e_tremor_Light_r0, e_tremor_Light_r1, e_tremor_Light_r2, e_tremor_Light_r3, e_tremor_Light_r4, e_tremor_Light_r5, e_tremor_Light_r6, e_tremor_Light_r7, e_tremor_Light_r8, e_tremor_Light_r9, e_tremor_Light_r10, e_tremor_Light_r11, e_tremor_Light_r12, e_tremor_Light_r13, e_tremor_Light_r14, e_tremor_Light_r15, e_tremor_Light_r16, e_tremor_Light_r17, e_tremor_Light_r18, e_tremor_Light_r19, e_tremor_Light_r20, e_tremor_Light_r21, e_tremor_Light_r22, e_tremor_Light_r23, e_tremor_Light_r24, e_tremor_Light_r26, e_tremor_Light_r27, e_tremor_Light_r28, e_tremor_Light_r29, e_tremor_Light_r30, e_tremor_Light_r32, g1, a1]
    refine WL.to (L_ev (σ := σ) (R := R) (l := l) (now := now) (may := may) (sure := sure) (j := j) hl hs hrr hn l.length 0 0 0 (by omega) (by omega) (by omega)) (by simp) rfl ?_
    rintro x e σ' ⟨rfl, rfl, e1, e2, e6, e7, e10, e11, e12, e36, e37, e38⟩
    simp only [List.drop_zero, Nat.zero_add] at e11 e12
    simp only [lightF]
    by_cases c1 : r.count ≤ cntE (someE r now) l
    · by_cases c2 : r.count ≤ cntE (everyE r now) l
      · simp [-List.length_flatMap, -List.map_take, e_tremor_Light_r26, e_tremor_Light_r27, e_tremor_Light_r28, e_tremor_Light_r29, e_tremor_Light_r30, e1, e2, e6, e7, e10, e11, e12, e36, e37, e38, c1, c2, w1]
        exact WL.to (ih (max may r.col) (max sure r.col)) (by simp) rfl fun x e σ' hh => by simpa [c1, c2] using hh
      · simp [-List.length_flatMap, -List.map_take, e_tremor_Light_r26, e_tremor_Light_r27, e_tremor_Light_r28, e_tremor_Light_r29, e_tremor_Light_r30, e1, e2, e6, e7, e10, e11, e12, e36, e37, e38, c1, c2, w1]
        exact WL.to (ih (max may r.col) sure) (by simp) rfl fun x e σ' hh => by simpa [c1, c2] using hh
    · by_cases c2 : r.count ≤ cntE (everyE r now) l
      · simp [-List.length_flatMap, -List.map_take, e_tremor_Light_r26, e_tremor_Light_r27, e_tremor_Light_r28, e_tremor_Light_r29, e_tremor_Light_r30, e1, e2, e6, e7, e10, e11, e12, e36, e37, e38, c1, c2, w1]
        exact WL.to (ih may (max sure r.col)) (by simp) rfl fun x e σ' hh => by simpa [c1, c2] using hh
      · simp [-List.length_flatMap, -List.map_take, e_tremor_Light_r26, e_tremor_Light_r27, e_tremor_Light_r28, e_tremor_Light_r29, e_tremor_Light_r30, e1, e2, e6, e7, e10, e11, e12, e36, e37, e38, c1, c2, w1]
        exact WL.to (ih may sure) (by simp) rfl fun x e σ' hh => by simpa [c1, c2] using hh

theorem C_Light {R : List Rule} {l : List Ev} {now : Int} (hR : R.length ≤ 9223372036854775807) (hl : l.length ≤ 9223372036854775807) (hs : ∀ e ∈ l, e.sp.length ≤ 9223372036854775807) :
    lim T (.call false i_tremor_Light [.lst R.length (R.flatMap Rule.enc), .lst l.length (l.flatMap Ev.enc), .int .i64 now] σ) =
      some (.val (if lightErr R l now = 0 then .tup [.int .u8 (mayOf R l now), .int .u8 (sureOf R l now), .int .i64 0] else .tup [.int .u8 0, .int .u8 0, .int .i64 (lightErr R l now)]) σ) := by
  refine call_of T_tremor_Light e_tremor_Light rfl ?_
  have hAR := fun σ => @C_all_rule σ R hR
  have hAE := fun σ => @C_all_ev σ l hl hs
  by_cases c1 : 20 < R.length
  · have c1' : (20 : Int) < R.length := by omega
    simp [-List.length_flatMap, -List.map_take, e_tremor_Light_r0, e_tremor_Light_r1, e_tremor_Light_r2, e_tremor_Light_r3, e_tremor_Light_r4, e_tremor_Light_r5, e_tremor_Light_r6, e_tremor_Light_r7, e_tremor_Light_r8, e_tremor_Light_r9, e_tremor_Light_r10, e_tremor_Light_r11, e_tremor_Light_r12, e_tremor_Light_r13, e_tremor_Light_r14, e_tremor_Light_r15, e_tremor_Light_r16, e_tremor_Light_r17, e_tremor_Light_r18, e_tremor_Light_r19, e_tremor_Light_r20, e_tremor_Light_r21, e_tremor_Light_r22, e_tremor_Light_r23, e_tremor_Light_r24, e_tremor_Light_r26, e_tremor_Light_r27, e_tremor_Light_r28, e_tremor_Light_r29, e_tremor_Light_r30, e_tremor_Light_r32, lightErr, c1, c1']
  have c1' : ¬ (20 : Int) < R.length := by omega
  cases c2 : allB R Rule.ok
  · simp [-List.length_flatMap, -List.map_take, e_tremor_Light_r0, e_tremor_Light_r1, e_tremor_Light_r2, e_tremor_Light_r3, e_tremor_Light_r4, e_tremor_Light_r5, e_tremor_Light_r6, e_tremor_Light_r7, e_tremor_Light_r8, e_tremor_Light_r9, e_tremor_Light_r10, e_tremor_Light_r11, e_tremor_Light_r12, e_tremor_Light_r13, e_tremor_Light_r14, e_tremor_Light_r15, e_tremor_Light_r16, e_tremor_Light_r17, e_tremor_Light_r18, e_tremor_Light_r19, e_tremor_Light_r20, e_tremor_Light_r21, e_tremor_Light_r22, e_tremor_Light_r23, e_tremor_Light_r24, e_tremor_Light_r26, e_tremor_Light_r27, e_tremor_Light_r28, e_tremor_Light_r29, e_tremor_Light_r30, e_tremor_Light_r32, lightErr, c1, c1', hAR, c2]
  by_cases c3 : 200 < l.length
  · have c3' : (200 : Int) < l.length := by omega
    simp [-List.length_flatMap, -List.map_take, e_tremor_Light_r0, e_tremor_Light_r1, e_tremor_Light_r2, e_tremor_Light_r3, e_tremor_Light_r4, e_tremor_Light_r5, e_tremor_Light_r6, e_tremor_Light_r7, e_tremor_Light_r8, e_tremor_Light_r9, e_tremor_Light_r10, e_tremor_Light_r11, e_tremor_Light_r12, e_tremor_Light_r13, e_tremor_Light_r14, e_tremor_Light_r15, e_tremor_Light_r16, e_tremor_Light_r17, e_tremor_Light_r18, e_tremor_Light_r19, e_tremor_Light_r20, e_tremor_Light_r21, e_tremor_Light_r22, e_tremor_Light_r23, e_tremor_Light_r24, e_tremor_Light_r26, e_tremor_Light_r27, e_tremor_Light_r28, e_tremor_Light_r29, e_tremor_Light_r30, e_tremor_Light_r32, lightErr, c1, c1', hAR, c2, c3, c3']
  have c3' : ¬ (200 : Int) < l.length := by omega
  cases c4 : allB l Ev.ok
  · simp [-List.length_flatMap, -List.map_take, e_tremor_Light_r0, e_tremor_Light_r1, e_tremor_Light_r2, e_tremor_Light_r3, e_tremor_Light_r4, e_tremor_Light_r5, e_tremor_Light_r6, e_tremor_Light_r7, e_tremor_Light_r8, e_tremor_Light_r9, e_tremor_Light_r10, e_tremor_Light_r11, e_tremor_Light_r12, e_tremor_Light_r13, e_tremor_Light_r14, e_tremor_Light_r15, e_tremor_Light_r16, e_tremor_Light_r17, e_tremor_Light_r18, e_tremor_Light_r19, e_tremor_Light_r20, e_tremor_Light_r21, e_tremor_Light_r22, e_tremor_Light_r23, e_tremor_Light_r24, e_tremor_Light_r26, e_tremor_Light_r27, e_tremor_Light_r28, e_tremor_Light_r29, e_tremor_Light_r30, e_tremor_Light_r32, lightErr, c1, c1', hAR, c2, c3, c3', hAE, c4]
  cases c5 : inn now 0 1000000
  · simp [-List.length_flatMap, -List.map_take, e_tremor_Light_r0, e_tremor_Light_r1, e_tremor_Light_r2, e_tremor_Light_r3, e_tremor_Light_r4, e_tremor_Light_r5, e_tremor_Light_r6, e_tremor_Light_r7, e_tremor_Light_r8, e_tremor_Light_r9, e_tremor_Light_r10, e_tremor_Light_r11, e_tremor_Light_r12, e_tremor_Light_r13, e_tremor_Light_r14, e_tremor_Light_r15, e_tremor_Light_r16, e_tremor_Light_r17, e_tremor_Light_r18, e_tremor_Light_r19, e_tremor_Light_r20, e_tremor_Light_r21, e_tremor_Light_r22, e_tremor_Light_r23, e_tremor_Light_r24, e_tremor_Light_r26, e_tremor_Light_r27, e_tremor_Light_r28, e_tremor_Light_r29, e_tremor_Light_r30, e_tremor_Light_r32, lightErr, c1, c1', hAR, c2, c3, c3', hAE, c4, C_within, c5]
  have he : lightErr R l now = 0 := by simp [lightErr, c1, c2, c3, c4, c5]
  rw [if_pos he]
  simp [-List.length_flatMap, -List.map_take, e_tremor_Light_r0, e_tremor_Light_r1, e_tremor_Light_r2, e_tremor_Light_r3, e_tremor_Light_r4, e_tremor_Light_r5, e_tremor_Light_r6, e_tremor_Light_r7, e_tremor_Light_r8, e_tremor_Light_r9, e_tremor_Light_r10, e_tremor_Light_r11, e_tremor_Light_r12, e_tremor_Light_r13, e_tremor_Light_r14, e_tremor_Light_r15, e_tremor_Light_r16, e_tremor_Light_r17, e_tremor_Light_r18, e_tremor_Light_r19, e_tremor_Light_r20, e_tremor_Light_r21, e_tremor_Light_r22, e_tremor_Light_r23, e_tremor_Light_r24, e_tremor_Light_r26, e_tremor_Light_r27, e_tremor_Light_r28, e_tremor_Light_r29, e_tremor_Light_r30, e_tremor_Light_r32, c1', hAR, c2, c3', hAE, c4, C_within, c5]
  refine WL.to (L_rule (σ := [] :: σ) (R := R) (l := l) (now := now) (by omega) (by omega) ?_ (allB_iff.1 c2) c5 R.length 0 0 0 (by omega)) (by simp) rfl ?_
  · intro e he
    have := allB_iff.1 c4 e he
    simp only [Ev.ok, Bool.and_eq_true, inn_iff] at this
    omega
  · rintro x e σ' ⟨rfl, rfl, e6, e7⟩
    simp [-List.length_flatMap, -List.map_take, e_tremor_Light_r32, e6, e7, mayOf, sureOf]
end Go.Proofs.YticpenoicajakaaGreat
