/-
  The law TremorChoices answers true.
-/
import Derived.Test.YticpenoicajakaaGreatLawLights
set_option linter.unusedVariables false
set_option linter.unusedSimpArgs false
namespace Go.Trem
open Go Go.Abs

def wordOf (l : List Int) (k : Int) : Int := if l.length = 0 then 0 else l.getD (k.tmod l.length).toNat 0
theorem word_bound {l : List Int} (h : ∀ x ∈ l, 0 ≤ x ∧ x ≤ 65535) {k : Int} (hk : 0 ≤ k) : 0 ≤ wordOf l k ∧ wordOf l k ≤ 65535 := by
  unfold wordOf
  split
  · omega
  · rename_i h0
    have h00 : 0 < (l.length : Int) := Int.natCast_pos.2 (Nat.pos_of_ne_zero h0)
    have h1 : k.tmod l.length < l.length := Int.tmod_lt_of_pos _ h00
    have h2 : 0 ≤ k.tmod l.length := Int.tmod_nonneg _ hk
    have h3 : (k.tmod l.length).toNat < l.length := by omega
    have : l.getD (k.tmod l.length).toNat 0 = l[(k.tmod l.length).toNat] := by simp [List.getD, h3]
    rw [this]
    exact h _ (List.getElem_mem _)
theorem tmod_in {a b : Int} (h : 0 ≤ a) (hb : 0 < b) : 0 ≤ a.tmod b ∧ a.tmod b < b := ⟨Int.tmod_nonneg _ h, Int.tmod_lt_of_pos _ hb⟩


/-- The last place with a property, else k. -/
def lastFrom (f : Spt → Bool) : List Spt → Nat → Nat → Nat
  | [], _, k => k
  | s :: t, j, k => lastFrom f t (j + 1) (if f s then j else k)
theorem lastFrom_spec (f : Spt → Bool) (sp : List Spt) : ∀ (l : List Spt) (j k : Nat), sp.drop j = l → k < sp.length →
    lastFrom f l j k < sp.length ∧ ((anyB l f = true ∨ (∃ s, sp[k]? = some s ∧ f s = true)) → ∃ s, sp[lastFrom f l j k]? = some s ∧ f s = true)
  | [], j, k, hd, hk => ⟨hk, fun h => by
      rcases h with h | h
      · cases h
      · exact h⟩
  | s :: l, j, k, hd, hk => by
    have hj : sp[j]? = some s := by
      have : (sp.drop j)[0]? = some s := by rw [hd]; rfl
      simpa using this
    have hd' : sp.drop (j + 1) = l := by
      have := congrArg List.tail hd
      simpa [List.tail_drop] using this
    have hjl : j < sp.length := (List.getElem?_eq_some_iff.1 hj).1
    simp only [lastFrom]
    cases hf : f s
    · simp only [Bool.false_eq_true, if_false]
      obtain ⟨h1, h2⟩ := lastFrom_spec f sp l (j + 1) k hd' hk
      refine ⟨h1, fun h => h2 ?_⟩
      rw [anyB_cons, hf, Bool.false_or] at h
      exact h
    · simp only [if_true]
      obtain ⟨h1, h2⟩ := lastFrom_spec f sp l (j + 1) j hd' hjl
      exact ⟨h1, fun _ => h2 (.inr ⟨s, hj, hf⟩)⟩

def kOf (ws : List Int) (ro : Option Rule) (i : Nat) (e : Ev) : Nat :=
  match ro with
  | none => ((wordOf ws i).tmod e.sp.length).toNat
  | some r => lastFrom r.cnt e.sp 0 ((wordOf ws i).tmod e.sp.length).toNat
def chEv (ws : List Int) (ro : Option Rule) (i : Nat) (e : Ev) : Ev := ⟨e.tick, [e.sp.getD (kOf ws ro i e) ⟨⟨0, 0, 0⟩, 0⟩]⟩
def chL (ws : List Int) (ro : Option Rule) : Nat → List Ev → List Ev
  | _, [] => []
  | i, e :: es => chEv ws ro i e :: chL ws ro (i + 1) es
theorem chL_len (ws : List Int) (ro : Option Rule) : ∀ (es : List Ev) (i : Nat), (chL ws ro i es).length = es.length
  | [], i => rfl
  | e :: es, i => by simp [chL, chL_len ws ro es]

theorem k0_lt {ws : List Int} (hw : ∀ x ∈ ws, 0 ≤ x ∧ x ≤ 65535) {i : Nat} {e : Ev} (h : 1 ≤ e.sp.length) : ((wordOf ws i).tmod e.sp.length).toNat < e.sp.length ∧ 0 ≤ (wordOf ws i).tmod e.sp.length := by
  have h1 := word_bound hw (k := (i : Int)) (by omega)
  have h2 := tmod_in (a := wordOf ws i) (b := (e.sp.length : Int)) h1.1 (by omega)
  omega
theorem kOf_lt {ws : List Int} (hw : ∀ x ∈ ws, 0 ≤ x ∧ x ≤ 65535) {ro : Option Rule} {i : Nat} {e : Ev} (h : 1 ≤ e.sp.length) : kOf ws ro i e < e.sp.length := by
  have h0 := (k0_lt hw (i := i) h).1
  cases ro with
  | none => exact h0
  | some r => exact (lastFrom_spec r.cnt e.sp e.sp 0 _ rfl h0).1

/-- What a choice says of an event. -/
structure Chosen (c e : Ev) : Prop where
  tick : c.tick = e.tick
  one : ∃ s, c.sp = [s] ∧ s ∈ e.sp
theorem ch_chosen {ws : List Int} (hw : ∀ x ∈ ws, 0 ≤ x ∧ x ≤ 65535) {ro : Option Rule} {i : Nat} {e : Ev} (h : 1 ≤ e.sp.length) : Chosen (chEv ws ro i e) e := by
  have hk := kOf_lt hw (ro := ro) (i := i) h
  refine ⟨rfl, e.sp.getD (kOf ws ro i e) ⟨⟨0, 0, 0⟩, 0⟩, rfl, ?_⟩
  have : e.sp.getD (kOf ws ro i e) ⟨⟨0, 0, 0⟩, 0⟩ = e.sp[kOf ws ro i e] := by simp [List.getD, hk]
  rw [this]
  exact List.getElem_mem _
theorem act_eq {c e : Ev} (h : Chosen c e) (r : Rule) (now : Int) : r.act now c = r.act now e := by simp [Rule.act, h.tick]
theorem ch_some {c e : Ev} (h : Chosen c e) {r : Rule} {now : Int} (hs : someE r now c = true) : someE r now e = true := by
  obtain ⟨s, h1, h2⟩ := h.one
  simp only [someE, Bool.and_eq_true, act_eq h, h1, anyB_iff] at hs ⊢
  obtain ⟨h3, x, hx, h4⟩ := hs
  simp at hx
  subst hx
  exact ⟨h3, x, h2, h4⟩
theorem ch_every {c e : Ev} (h : Chosen c e) {r : Rule} {now : Int} (hs : everyE r now e = true) : someE r now c = true := by
  obtain ⟨s, h1, h2⟩ := h.one
  simp only [someE, everyE, Bool.and_eq_true, act_eq h, h1, anyB_iff, allB_iff] at hs ⊢
  exact ⟨hs.1, s, by simp, hs.2 s h2⟩
theorem ch_same {c e : Ev} (h : Chosen c e) (r : Rule) (now : Int) : everyE r now c = someE r now c := by
  obtain ⟨s, h1, h2⟩ := h.one
  simp [someE, everyE, h1, anyB, allB]
theorem ch_hit {ws : List Int} (hw : ∀ x ∈ ws, 0 ≤ x ∧ x ≤ 65535) {r : Rule} {i : Nat} {e : Ev} (h : 1 ≤ e.sp.length) {now : Int} (hs : someE r now e = true) : someE r now (chEv ws (some r) i e) = true := by
  simp only [someE, Bool.and_eq_true] at hs ⊢
  obtain ⟨h1, h2⟩ := hs
  refine ⟨by rw [act_eq (ch_chosen hw h)]; exact h1, ?_⟩
  obtain ⟨s, h3, h4⟩ := (lastFrom_spec r.cnt e.sp e.sp 0 _ rfl (k0_lt hw (i := i) h).1).2 (.inl h2)
  have : e.sp.getD (kOf ws (some r) i e) ⟨⟨0, 0, 0⟩, 0⟩ = s := by simp only [kOf]; simp [List.getD, h3]
  rw [anyB_iff]
  exact ⟨s, by simp only [chEv, this]; simp, h4⟩
theorem cnt_le {f g : Ev → Bool} {ws : List Int} {ro : Option Rule} : ∀ (es : List Ev) (i : Nat), (∀ i, ∀ e ∈ es, f (chEv ws ro i e) = true → g e = true) → cntE f (chL ws ro i es) ≤ cntE g es
  | [], i, h => Nat.le_refl _
  | e :: es, i, h => by
    have ih := cnt_le es (i + 1) fun i x hx => h i x (by simp [hx])
    have := h i e (by simp)
    simp only [chL, cntE]
    cases hf : f (chEv ws ro i e)
    · simp; omega
    · simp [this hf]; omega
theorem cnt_ge {f g : Ev → Bool} {ws : List Int} {ro : Option Rule} : ∀ (es : List Ev) (i : Nat), (∀ i, ∀ e ∈ es, g e = true → f (chEv ws ro i e) = true) → cntE g es ≤ cntE f (chL ws ro i es)
  | [], i, h => Nat.le_refl _
  | e :: es, i, h => by
    have ih := cnt_ge es (i + 1) fun i x hx => h i x (by simp [hx])
    have := h i e (by simp)
    simp only [chL, cntE]
    cases hg : g e
    · simp; omega
    · simp [this hg]; omega
theorem cnt_app {f : Ev → Bool} (m : Ev) : ∀ l, cntE f l ≤ cntE f (l ++ [m])
  | [] => by simp [cntE]
  | e :: l => by have := cnt_app (f := f) m l; simp only [List.cons_append, cntE]; omega
theorem light_le {f g : Rule → Ev → Bool} {l l' : List Ev} : ∀ (R : List Rule) (a b : Int), (∀ r ∈ R, 0 ≤ r.col ∧ cntE (f r) l ≤ cntE (g r) l') → a ≤ b → lightF f l R a ≤ lightF g l' R b
  | [], a, b, h, hab => hab
  | r :: R, a, b, h, hab => by
    have h1 := h r (by simp)
    simp only [lightF]
    refine light_le R _ _ (fun x hx => h x (by simp [hx])) ?_
    by_cases c1 : r.count ≤ cntE (f r) l
    · have c2 : r.count ≤ cntE (g r) l' := by omega
      rw [if_pos c1, if_pos c2]; omega
    · rw [if_neg c1]
      split <;> omega
theorem light_start {f : Rule → Ev → Bool} {l : List Ev} : ∀ (R : List Rule) (a : Int), a ≤ lightF f l R a
  | [], a => Int.le_refl _
  | r :: R, a => by
    simp only [lightF]
    by_cases c : r.count ≤ cntE (f r) l
    · rw [if_pos c]
      have := light_start (f := f) (l := l) R (max a r.col)
      omega
    · rw [if_neg c]
      exact light_start (f := f) (l := l) R a
theorem light_ge {f : Rule → Ev → Bool} {l : List Ev} {r : Rule} : ∀ (R : List Rule) (a : Int), r ∈ R → r.count ≤ cntE (f r) l → r.col ≤ lightF f l R a
  | [], a, h, _ => by simp at h
  | x :: R, a, h, hc => by
    simp only [lightF]
    rcases List.mem_cons.1 h with rfl | h
    · rw [if_pos hc]
      have := light_start (f := f) (l := l) R (max a r.col)
      omega
    · exact light_ge R _ h hc
theorem light_at {f : Rule → Ev → Bool} {l : List Ev} : ∀ (R : List Rule) (a : Int), lightF f l R a = a ∨ ∃ r ∈ R, r.count ≤ cntE (f r) l ∧ lightF f l R a = r.col
  | [], a => .inl rfl
  | x :: R, a => by
    simp only [lightF]
    rcases light_at (f := f) (l := l) R (if x.count ≤ cntE (f x) l then max a x.col else a) with h | ⟨r, hr, h1, h2⟩
    · by_cases c : x.count ≤ cntE (f x) l
      · rw [if_pos c] at h ⊢
        rcases Int.le_total x.col a with g | g
        · left; omega
        · right; exact ⟨x, by simp, c, by omega⟩
      · rw [if_neg c] at h ⊢
        exact .inl h
    · exact .inr ⟨r, by simp [hr], h1, h2⟩
theorem same_light {f g : Rule → Ev → Bool} {l : List Ev} : ∀ (R : List Rule) (a : Int), (∀ r ∈ R, cntE (f r) l = cntE (g r) l) → lightF f l R a = lightF g l R a
  | [], a, h => rfl
  | r :: R, a, h => by
    simp only [lightF, h r (by simp)]
    exact same_light R _ fun x hx => h x (by simp [hx])
theorem cnt_same {ws : List Int} {ro : Option Rule} {f g : Ev → Bool} : ∀ (es : List Ev) (i : Nat), (∀ i, ∀ e ∈ es, f (chEv ws ro i e) = g (chEv ws ro i e)) → cntE f (chL ws ro i es) = cntE g (chL ws ro i es)
  | [], i, h => rfl
  | e :: es, i, h => by
    simp only [chL, cntE, h i e (by simp), cnt_same es (i + 1) fun i x hx => h i x (by simp [hx])]
end Go.Trem
namespace Go.Proofs.YticpenoicajakaaGreat
open Go Go.Abs Go.Trem
variable {σ : Stack}

theorem C_word {l : List Int} (hl : l.length ≤ 9223372036854775807) (h : ∀ x ∈ l, 0 ≤ x ∧ x ≤ 65535) {k : Int} (hk : 0 ≤ k) :
    lim T (.call false i_law09_word [.lst l.length (l.flatMap u16E), .int .i64 k] σ) = some (.val (.int .i64 (wordOf l k)) σ) := by
  refine call_of T_law09_word e_law09_word rfl ?_
  by_cases h0 : l.length = 0
  · have : l = [] := List.eq_nil_of_length_eq_zero h0
    subst this
    simp [-List.length_flatMap, -List.map_take, e_law09_word_r0, e_law09_word_r1, e_law09_word_r2, e_law09_word_r3, wordOf]
  have hne : l ≠ [] := by intro h; simp [h] at h0
  obtain ⟨h1, h2⟩ := tmod_in hk (show 0 < (l.length : Int) by omega)
  have h0' : (l.length : Int) ≠ 0 := by omega
  have h3 : (k.tmod l.length).toNat < l.length := by omega
  obtain ⟨x, hx⟩ : ∃ x, l[(k.tmod l.length).toNat]? = some x := ⟨_, List.getElem?_eq_getElem h3⟩
  have a1 := flat_at (f := u16E) (w := 1) (fun _ => rfl) hx
  have hb := h x (List.mem_of_getElem? hx)
  have w1 := w64 (n := x) (by omega)
  have hv : wordOf l k = x := by simp [wordOf, h0, List.getD, hx, hne]
  rw [hv]
  simp only [Nat.mul_one] at a1
  simp [-List.length_flatMap, -List.map_take, e_law09_word_r0, e_law09_word_r1, e_law09_word_r2, e_law09_word_r3, h0, h0', hne, h1, h2, h3, a1, w1]


def rD : Option Rule → D
  | none => .nilp
  | some r => .cref r.enc
@[simp] theorem rD_strip (ro : Option Rule) : (rD ro).strip = rD ro := by cases ro <;> rfl
@[simp] theorem rD_calm (ro : Option Rule) : (rD ro).calm = rD ro := by cases ro <;> rfl

theorem chL_get {ws : List Int} {ro : Option Rule} : ∀ (es : List Ev) (j i : Nat) (e : Ev), es[i]? = some e → (chL ws ro j es)[i]? = some (chEv ws ro (j + i) e)
  | [], j, i, e, h => by simp at h
  | x :: es, j, 0, e, h => by simp at h; subst h; simp [chL]
  | x :: es, j, i + 1, e, h => by
    have := chL_get (ws := ws) (ro := ro) es (j + 1) i e (by simpa using h)
    simp only [chL, List.getElem?_cons_succ, this]
    rw [show j + 1 + i = j + (i + 1) by omega]

theorem L_last {l : List Ev} {ws : List Int} {r : Rule} {i v L : Nat} {e0 : Ev} (he : l[i]? = some e0) (hs : e0.sp.length ≤ 2000) : ∀ (m j k : Nat), j + m = e0.sp.length →
    WL T [0, 1, 2, 7, 8, 9, 10] false f_law09_chosen_l10 [(0, .lst l.length (l.flatMap Ev.enc)), (1, .lst ws.length (ws.flatMap u16E)), (2, .cref r.enc), (7, .sl L 0 v 0 v 2), (8, .int .i64 i), (9, .int .i64 k), (10, .int .i64 j)] σ
      (fun x e σ' => x = .exit 2 ∧ σ' = σ ∧ get e 0 = .lst l.length (l.flatMap Ev.enc) ∧ get e 1 = .lst ws.length (ws.flatMap u16E) ∧ get e 2 = .cref r.enc ∧ get e 7 = .sl L 0 v 0 v 2 ∧ get e 8 = .int .i64 i ∧ get e 9 = .int .i64 (lastFrom r.cnt (e0.sp.drop j) j k : Nat))
  | 0, j, k, hj => by
    refine WL_step e_law09_chosen_l10 ?_
    have g1 : i < l.length := (List.getElem?_eq_some_iff.1 he).1
    have a1 := flat_at (f := Ev.enc) (w := 2) (fun _ => rfl) he
    have h1 : ¬ j < e0.sp.length := by omega
    have h2 : e0.sp.drop j = [] := by simp; omega
    simp [-List.length_flatMap, -List.map_take, e_law09_chosen_r0, e_law09_chosen_r1, e_law09_chosen_r2, e_law09_chosen_r3, e_law09_chosen_r4, e_law09_chosen_r5, e_law09_chosen_r6, e_law09_chosen_r7, e_law09_chosen_r8, e_law09_chosen_r9, e_law09_chosen_r11, e_law09_chosen_r12, e_law09_chosen_r14, g1, a1, h1, h2, lastFrom]
  | m + 1, j, k, hj => by
    refine WL_step e_law09_chosen_l10 ?_
    have g1 : i < l.length := (List.getElem?_eq_some_iff.1 he).1
    have a1 := flat_at (f := Ev.enc) (w := 2) (fun _ => rfl) he
    have h1 : j < e0.sp.length := by omega
    obtain ⟨x, hx⟩ : ∃ x, e0.sp[j]? = some x := ⟨_, List.getElem?_eq_getElem h1⟩
    have h2 := flat_at (f := Spt.enc) (w := 4) (fun _ => rfl) hx
    have h6 := wnext h1 (by omega)
    have hC := fun σ => @C_Counts σ r x
    simp only [Rule.enc, Spt.enc] at hC
    have ih := fun k => L_last (ws := ws) (r := r) (v := v) (L := L) he hs m (j + 1) k (by omega)
    rw [drop_at hx]
    simp only [lastFrom]
    cases c : r.cnt x <;> simp only [c] at hC
    · simp [-List.length_flatMap, -List.map_take, e_law09_chosen_r0, e_law09_chosen_r1, e_law09_chosen_r2, e_law09_chosen_r3, e_law09_chosen_r4, e_law09_chosen_r5, e_law09_chosen_r6, e_law09_chosen_r7, e_law09_chosen_r8, e_law09_chosen_r9, e_law09_chosen_r11, e_law09_chosen_r12, e_law09_chosen_r14, g1, a1, h1, h2, h6, hC]
      exact WL.to (ih k) (by simp) rfl fun x e σ' hh => by simpa [c] using hh
    · simp [-List.length_flatMap, -List.map_take, e_law09_chosen_r0, e_law09_chosen_r1, e_law09_chosen_r2, e_law09_chosen_r3, e_law09_chosen_r4, e_law09_chosen_r5, e_law09_chosen_r6, e_law09_chosen_r7, e_law09_chosen_r8, e_law09_chosen_r9, e_law09_chosen_r11, e_law09_chosen_r12, e_law09_chosen_r14, g1, a1, h1, h2, h6, hC]
      exact WL.to (ih j) (by simp) rfl fun x e σ' hh => by simpa [c] using hh

theorem L_last0 {l : List Ev} {ws : List Int} {i v L : Nat} {k : Int} :
    WL T [0, 1, 2, 7, 8, 9, 10] false f_law09_chosen_l10 [(0, .lst l.length (l.flatMap Ev.enc)), (1, .lst ws.length (ws.flatMap u16E)), (2, .nilp), (7, .sl L 0 v 0 v 2), (8, .int .i64 i), (9, .int .i64 k), (10, .int .i64 0)] σ
      (fun x e σ' => x = .exit 2 ∧ σ' = σ ∧ get e 0 = .lst l.length (l.flatMap Ev.enc) ∧ get e 1 = .lst ws.length (ws.flatMap u16E) ∧ get e 2 = .nilp ∧ get e 7 = .sl L 0 v 0 v 2 ∧ get e 8 = .int .i64 i ∧ get e 9 = .int .i64 k) := by
  refine WL_step e_law09_chosen_l10 ?_
  simp [-List.length_flatMap, -List.map_take, e_law09_chosen_r0, e_law09_chosen_r1, e_law09_chosen_r2, e_law09_chosen_r3, e_law09_chosen_r4, e_law09_chosen_r5, e_law09_chosen_r6, e_law09_chosen_r7, e_law09_chosen_r8, e_law09_chosen_r9, e_law09_chosen_r11, e_law09_chosen_r12, e_law09_chosen_r14]

theorem L_chosen {l : List Ev} {ws : List Int} {ro : Option Rule} (hl : l.length ≤ 1000) (hs : ∀ e ∈ l, 1 ≤ e.sp.length ∧ e.sp.length ≤ 2000) (hwl : ws.length ≤ 9223372036854775807) (hw : ∀ x ∈ ws, 0 ≤ x ∧ x ≤ 65535) : ∀ (m i : Nat), i + m = l.length →
    WL T [0, 1, 2, 7, 8] false f_law09_chosen_l13 [(0, .lst l.length (l.flatMap Ev.enc)), (1, .lst ws.length (ws.flatMap u16E)), (2, rD ro), (7, .sl σ.length 0 i 0 i 2), (8, .int .i64 i)] ([.cells i (((chL ws ro 0 l).take i).flatMap Ev.enc)] :: σ)
      (fun x e σ' => x = .exit 0 ∧ get e 7 = .sl σ.length 0 l.length 0 l.length 2 ∧ σ' = [.cells l.length ((chL ws ro 0 l).flatMap Ev.enc)] :: σ)
  | 0, i, hi => by
    refine WL_step e_law09_chosen_l13 ?_
    have h2 : i = l.length := by omega
    have h3 : (chL ws ro 0 l).take i = chL ws ro 0 l := List.take_of_length_le (by rw [chL_len]; omega)
    subst h2
    simp [-List.length_flatMap, -List.map_take, e_law09_chosen_r0, e_law09_chosen_r1, e_law09_chosen_r2, e_law09_chosen_r3, e_law09_chosen_r4, e_law09_chosen_r5, e_law09_chosen_r6, e_law09_chosen_r7, e_law09_chosen_r8, e_law09_chosen_r9, e_law09_chosen_r11, e_law09_chosen_r12, e_law09_chosen_r14, h3]
  | m + 1, i, hi => by
    refine WL_step e_law09_chosen_l13 ?_
    have g1 : i < l.length := by omega
    obtain ⟨e0, he⟩ : ∃ x, l[i]? = some x := ⟨_, List.getElem?_eq_getElem g1⟩
    have a1 := flat_at (f := Ev.enc) (w := 2) (fun _ => rfl) he
    have hse := hs e0 (List.mem_of_getElem? he)
    have hx := chL_get (ws := ws) (ro := ro) l 0 i e0 he
    rw [Nat.zero_add] at hx
    have h3 := flat_take (f := Ev.enc) (w := 2) (fun _ => rfl) (l := chL ws ro 0 l) (i := i) (by rw [chL_len]; omega)
    have h4 := flat_snoc (f := Ev.enc) hx
    have h5 := flat_len (f := Ev.enc) (w := 2) (fun _ => rfl) ((chL ws ro 0 l).take i)
    have h8 : ((chL ws ro 0 l).take i).length = i := by rw [List.length_take, chL_len]; omega
    rw [h8] at h5
    have h6 := wnext g1 (by omega)
    have h7 : (i + 1) * 32 ≤ room := by unfold room; omega
    have hW := fun σ => @C_word σ ws hwl hw (i : Int) (by omega)
    have hb := word_bound hw (k := (i : Int)) (by omega)
    have hk0 := k0_lt hw (i := i) hse.1
    have z1 : (e0.sp.length : Int) ≠ 0 := by omega
    have z2 : e0.sp ≠ [] := by intro h; rw [h] at hse; simp at hse
    have hkk := kOf_lt hw (ro := ro) (i := i) hse.1
    obtain ⟨s, hsk⟩ : ∃ x, e0.sp[kOf ws ro i e0]? = some x := ⟨_, List.getElem?_eq_getElem hkk⟩
    have b1 := flat_at (f := Spt.enc) (w := 4) (fun _ => rfl) hsk
    have hce : chEv ws ro i e0 = ⟨e0.tick, [s]⟩ := by simp [chEv, List.getD, hsk]
    rw [hce] at h4
    have ih := L_chosen (ro := ro) hl hs hwl hw m (i + 1) (by omega)
    obtain ⟨k0, hk0'⟩ : ∃ k : Nat, (wordOf ws i).tmod e0.sp.length = k := ⟨((wordOf ws i).tmod e0.sp.length).toNat, by omega⟩
    have w1 := w64 (n := ((kOf ws ro i e0 : Nat) : Int) + 1) (by omega)
    have w2 : (0 : Int) ≤ ((kOf ws ro i e0 : Nat) : Int) + 1 := by omega
    have w3 : kOf ws ro i e0 + 1 ≤ e0.sp.length := by omega
    have w4 : (((kOf ws ro i e0 : Nat) : Int) + 1).toNat = kOf ws ro i e0 + 1 := by omega
    have w5 : ((kOf ws ro i e0 : Nat) : Int) + 1 ≤ e0.sp.length := by omega
    have w6 : kOf ws ro i e0 ≤ kOf ws ro i e0 + 1 := by omega
    simp [-List.length_flatMap, -List.map_take, e_law09_chosen_r0, e_law09_chosen_r1, e_law09_chosen_r2, e_law09_chosen_r3, e_law09_chosen_r4, e_law09_chosen_r5, e_law09_chosen_r6, e_law09_chosen_r7, e_law09_chosen_r8, e_law09_chosen_r9, e_law09_chosen_r11, e_law09_chosen_r12, e_law09_chosen_r14, g1, a1, hW, z1, z2, hk0']
    cases ro with
    | none =>
      have hk1 : kOf ws none i e0 = k0 := by simp [kOf, hk0']
      rw [hk1] at w1 w2 w3 w4 w5 w6 b1
      refine WL.to (L_last0 (l := l) (ws := ws) (i := i) (v := i) (L := σ.length) (k := k0)) (by simp [rD]) rfl ?_
      rintro x e σ' ⟨rfl, rfl, e0', e1, e2, e7, e8, e9⟩
      simp [-List.length_flatMap, -List.map_take, e_law09_chosen_r11, e_law09_chosen_r12, e0', e1, e2, e7, e8, e9, g1, a1, w1, w2, w3, w4, w5, w6, b1, h3, h5, h6, h7]
      refine WL.to ih (by simp [rD]) (by simp [← h4]) fun x e σ hh => hh
    | some r =>
      have hk1 : kOf ws (some r) i e0 = lastFrom r.cnt e0.sp 0 k0 := by simp [kOf, hk0']
      refine WL.to (L_last (ws := ws) (v := i) (L := σ.length) (r := r) he hse.2 e0.sp.length 0 k0 (by omega)) (by simp [rD]) rfl ?_
      rintro x e σ' ⟨rfl, rfl, e0', e1, e2, e7, e8, e9⟩
      rw [List.drop_zero, ← hk1] at e9
      simp only [Rule.enc] at e2
      simp [-List.length_flatMap, -List.map_take, e_law09_chosen_r11, e_law09_chosen_r12, e0', e1, e2, e7, e8, e9, g1, a1, w1, w2, w3, w4, w5, w6, b1, h3, h5, h6, h7]
      refine WL.to ih (by simp [rD]) (by simp [← h4]) fun x e σ hh => hh

theorem C_chosen {l : List Ev} {ws : List Int} {ro : Option Rule} (hl : l.length ≤ 1000) (hs : ∀ e ∈ l, 1 ≤ e.sp.length ∧ e.sp.length ≤ 2000) (hwl : ws.length ≤ 9223372036854775807) (hw : ∀ x ∈ ws, 0 ≤ x ∧ x ≤ 65535) (hσ : σ ≠ []) :
    lim T (.call false i_law09_chosen [.lst l.length (l.flatMap Ev.enc), .lst ws.length (ws.flatMap u16E), rD ro] σ) = some (.val (.lst (chL ws ro 0 l).length ((chL ws ro 0 l).flatMap Ev.enc)) σ) := by
  refine call_of T_law09_chosen e_law09_chosen rfl ?_
  simp [-List.length_flatMap, -List.map_take, e_law09_chosen_r0, e_law09_chosen_r1, e_law09_chosen_r2, e_law09_chosen_r3, e_law09_chosen_r4, e_law09_chosen_r5, e_law09_chosen_r6, e_law09_chosen_r7, e_law09_chosen_r8, e_law09_chosen_r9, e_law09_chosen_r11, e_law09_chosen_r12, e_law09_chosen_r14]
  refine WL.to (L_chosen (σ := σ) (ro := ro) hl hs hwl hw l.length 0 (by omega)) (by simp) (by simp) ?_
  rintro x e σ' ⟨rfl, h2, rfl⟩
  rw [← chL_len ws ro l 0] at h2 ⊢
  simp [-List.length_flatMap, -List.map_take, h2, e_law09_chosen_r14]
  have hcl : ∀ x : Ev, D.cleanL (Ev.enc x) = true := fun x => by simp [k_clean (f := Spt.enc) (fun x => by simp)]
  rw [k_out (f := Ev.enc) (fun _ => rfl) hcl hσ rfl]
  simp

/-! The conversion of a list of events that is being built. -/
theorem L_spotsS {l : List Ev} (hl : l.length ≤ 100000) {i : Nat} {e0 : Ev} (he : l[i]? = some e0) (hs : e0.sp.length ≤ 100000) {B : List Blk} (hB : B.length = i + 1) {v u : Nat} : ∀ (m k : Nat), k + m = e0.sp.length →
    WL T [0, 3, 4, 5, 6] false f_law09_Events_l9 [(0, .sl σ.length 0 u 0 l.length 2), (3, .sl (σ.length + 1) 0 v 0 v 2), (4, .int .i64 i), (5, .own 0 [.int .i64 e0.tick, .sl (σ.length + 1) (i + 1) k 0 k 4]), (6, .int .i64 k)] ((B ++ [.cells k ((e0.sp.take k).flatMap Spt.enc)]) :: [.cells u (l.flatMap Ev.enc)] :: σ)
      (fun x e σ' => x = .exit 2 ∧ get e 0 = .sl σ.length 0 u 0 l.length 2 ∧ get e 3 = .sl (σ.length + 1) 0 v 0 v 2 ∧ get e 4 = .int .i64 i ∧ get e 5 = .own 0 [.int .i64 e0.tick, .sl (σ.length + 1) (i + 1) e0.sp.length 0 e0.sp.length 4] ∧ σ' = (B ++ [.cells e0.sp.length (e0.sp.flatMap Spt.enc)]) :: [.cells u (l.flatMap Ev.enc)] :: σ)
  | 0, k, hk => by
    refine WL_step e_law09_Events_l9 ?_
    have g1 : i < l.length := (List.getElem?_eq_some_iff.1 he).1
    have a1 := k_drop (f := Ev.enc) (w := 2) (fun _ => rfl) he
    have a2 : (l.flatMap Ev.enc).drop (i * 2 + 1) = .lst e0.sp.length (e0.sp.flatMap Spt.enc) :: (l.flatMap Ev.enc).drop (i * 2 + 2) := by rw [← List.drop_drop, a1]; rfl
    have h2 : k = e0.sp.length := by omega
    have g2 := flat_len (f := Ev.enc) (w := 2) (fun _ => rfl) l
    have g3 : 1 ≤ l.length * 2 - (i * 2 + 1) := by omega
    subst h2
    simp [-List.length_flatMap, -List.map_take, e_law09_Events_r0, e_law09_Events_r1, e_law09_Events_r2, e_law09_Events_r3, e_law09_Events_r4, e_law09_Events_r5, e_law09_Events_r6, e_law09_Events_r7, e_law09_Events_r8, e_law09_Events_r10, e_law09_Events_r11, e_law09_Events_r13, g1, a2, g2, g3]
  | m + 1, k, hk => by
    refine WL_step e_law09_Events_l9 ?_
    have g1 : i < l.length := (List.getElem?_eq_some_iff.1 he).1
    have a1 := k_drop (f := Ev.enc) (w := 2) (fun _ => rfl) he
    have a2 : (l.flatMap Ev.enc).drop (i * 2 + 1) = .lst e0.sp.length (e0.sp.flatMap Spt.enc) :: (l.flatMap Ev.enc).drop (i * 2 + 2) := by rw [← List.drop_drop, a1]; rfl
    have g2 := flat_len (f := Ev.enc) (w := 2) (fun _ => rfl) l
    have g3 : 1 ≤ l.length * 2 - (i * 2 + 1) := by omega
    have h1 : k < e0.sp.length := by omega
    obtain ⟨x, hx⟩ : ∃ x, e0.sp[k]? = some x := ⟨_, List.getElem?_eq_getElem h1⟩
    have h2 := flat_at (f := Spt.enc) (w := 4) (fun _ => rfl) hx
    have h3 := flat_take (f := Spt.enc) (w := 4) (fun _ => rfl) (Nat.le_of_lt h1)
    have h4 := flat_snoc (f := Spt.enc) hx
    have h5 := flat_len (f := Spt.enc) (w := 4) (fun _ => rfl) (e0.sp.take k)
    have h6 := wnext h1 (by omega)
    have h7 : (k + 1) * 32 ≤ room := by unfold room; omega
    have h8 : min k e0.sp.length = k := by omega
    have ih := L_spotsS hl he hs hB (v := v) (u := u) m (k + 1) (by omega)
    have q1 : ∀ c : Blk, (B ++ [c])[i + 1]? = some c := fun c => by rw [← hB]; simp
    have q2 : ∀ c c' : Blk, (B ++ [c]).set (i + 1) c' = B ++ [c'] := fun c c' => by rw [← hB]; simp
    simp [-List.length_flatMap, -List.map_take, e_law09_Events_r0, e_law09_Events_r1, e_law09_Events_r2, e_law09_Events_r3, e_law09_Events_r4, e_law09_Events_r5, e_law09_Events_r6, e_law09_Events_r7, e_law09_Events_r8, e_law09_Events_r10, e_law09_Events_r11, e_law09_Events_r13, g1, a2, g2, g3, h1, h2, h3, h5, h6, h7, h8, C_Point, q1, q2]
    refine WL.to ih (by simp) (by simp [← h4]) fun x e σ hh => hh

theorem L_eventsS {l : List Ev} (hl : l.length ≤ 100000) (hs : ∀ e ∈ l, e.sp.length ≤ 100000) {u : Nat} : ∀ (m i : Nat), i + m = l.length →
    WL T [0, 3, 4] false f_law09_Events_l12 [(0, .sl σ.length 0 u 0 l.length 2), (3, .sl (σ.length + 1) 0 i 0 i 2), (4, .int .i64 i)] ((.cells i (evRows (σ.length + 1) 0 (l.take i)) :: evBlks (l.take i)) :: [.cells u (l.flatMap Ev.enc)] :: σ)
      (fun x e σ' => x = .exit 0 ∧ get e 3 = .sl (σ.length + 1) 0 l.length 0 l.length 2 ∧ σ' = (.cells l.length (evRows (σ.length + 1) 0 l) :: evBlks l) :: [.cells u (l.flatMap Ev.enc)] :: σ)
  | 0, i, hi => by
    refine WL_step e_law09_Events_l12 ?_
    have h2 : i = l.length := by omega
    subst h2
    simp [-List.length_flatMap, -List.map_take, e_law09_Events_r0, e_law09_Events_r1, e_law09_Events_r2, e_law09_Events_r3, e_law09_Events_r4, e_law09_Events_r5, e_law09_Events_r6, e_law09_Events_r7, e_law09_Events_r8, e_law09_Events_r10, e_law09_Events_r11, e_law09_Events_r13]
  | m + 1, i, hi => by
    refine WL_step e_law09_Events_l12 ?_
    have g1 : i < l.length := by omega
    obtain ⟨e0, he⟩ : ∃ x, l[i]? = some x := ⟨_, List.getElem?_eq_getElem g1⟩
    have a1 := k_drop (f := Ev.enc) (w := 2) (fun _ => rfl) he
    have a2 : (l.flatMap Ev.enc).drop (i * 2) = .int .i64 e0.tick :: .lst e0.sp.length (e0.sp.flatMap Spt.enc) :: (l.flatMap Ev.enc).drop (i * 2 + 2) := by rw [a1]; rfl
    have g2 := flat_len (f := Ev.enc) (w := 2) (fun _ => rfl) l
    have g3 : 1 ≤ l.length * 2 - i * 2 := by omega
    have hse := hs e0 (List.mem_of_getElem? he)
    have hlen : (l.take i).length = i := by simp; omega
    have hbl : (evBlks (l.take i)).length = i := by rw [evBlks_len, hlen]
    have hta : l.take (i + 1) = l.take i ++ [e0] := by rw [List.take_add_one, he]; rfl
    have ih := L_eventsS hl hs (u := u) m (i + 1) (by omega)
    rw [hta, evRows_snoc, evBlks_snoc, hlen, Nat.zero_add] at ih
    have h6 := wnext g1 (by omega)
    have h7 : (i + 1) * 32 ≤ room := by unfold room; omega
    have h3 := evRows_len (σ.length + 1) 0 (l.take i)
    rw [hlen] at h3
    have h3' : (evRows (σ.length + 1) 0 (l.take i)).take (i * 2) = evRows (σ.length + 1) 0 (l.take i) := List.take_of_length_le (by omega)
    simp [-List.length_flatMap, -List.map_take, e_law09_Events_r0, e_law09_Events_r1, e_law09_Events_r2, e_law09_Events_r3, e_law09_Events_r4, e_law09_Events_r5, e_law09_Events_r6, e_law09_Events_r7, e_law09_Events_r8, e_law09_Events_r10, e_law09_Events_r11, e_law09_Events_r13, g1, a2, g2, g3, hbl]
    refine WL.to (L_spotsS (σ := σ) hl he hse (B := .cells i (evRows (σ.length + 1) 0 (l.take i)) :: evBlks (l.take i)) (by simp [hbl]) (v := i) (u := u) e0.sp.length 0 (by omega)) (by simp) (by simp) ?_
    rintro x e σ' ⟨rfl, e1, e3, e4, e5, rfl⟩
    simp [-List.length_flatMap, -List.map_take, e_law09_Events_r10, e_law09_Events_r11, e1, e3, e4, e5, h3, h3', h6, h7]
    refine WL.to ih (by simp) (by simp) fun x e σ hh => hh

theorem C_EventsS {l : List Ev} (hl : l.length ≤ 100000) (hs : ∀ e ∈ l, e.sp.length ≤ 100000) {u : Nat} :
    lim T (.call false i_law09_Events [.sl σ.length 0 u 0 l.length 2] ([.cells u (l.flatMap Ev.enc)] :: σ)) = some (.val (.lst l.length (l.flatMap Ev.enc)) ([.cells u (l.flatMap Ev.enc)] :: σ)) := by
  refine call_of T_law09_Events e_law09_Events rfl ?_
  simp [-List.length_flatMap, -List.map_take, e_law09_Events_r0, e_law09_Events_r1, e_law09_Events_r2, e_law09_Events_r3, e_law09_Events_r4, e_law09_Events_r5, e_law09_Events_r6, e_law09_Events_r7, e_law09_Events_r8, e_law09_Events_r10, e_law09_Events_r11, e_law09_Events_r13]
  refine WL.to (L_eventsS (σ := σ) hl hs (u := u) l.length 0 (by omega)) (by simp) (by simp [evRows, evBlks]) ?_
  rintro x e σ' ⟨rfl, h2, rfl⟩
  simp [-List.length_flatMap, -List.map_take, h2, e_law09_Events_r13]
  have h3 : ¬ σ.length + 1 ≤ σ.length := by omega
  have h4 := evRows_len (σ.length + 1) 0 l
  have hf := frz_evs (σ := [.cells u (l.flatMap Ev.enc)] :: σ) (l := σ.length) (n := 13) (by simp) l 0 [.dead] rfl
  rw [frz_sl h3 (cs := evRows (σ.length + 1) 0 l) (by simp) (by omega)]
  have h5 : (evRows (σ.length + 1) 0 l).take (l.length * 2) = evRows (σ.length + 1) 0 l := List.take_of_length_le (by omega)
  simp only [List.cons_append, List.nil_append, List.length_cons] at hf
  simp [h5, hf]

theorem L_c8 {R : List Rule} {l : List Ev} {now : Int} {ws : List Int} {more : Ev} (hR : R.length ≤ 1000) (hσ : σ ≠ []) : ∀ (m i : Nat), i + m = R.length →
    WL T [0, 1, 2, 3, 9, 11] false f_law09_TremorChoices_l8 [(0, .lst R.length (R.flatMap Rule.enc)), (1, .lst l.length (l.flatMap Ev.enc)), (2, .int .i64 now), (3, .lst ws.length (ws.flatMap u16E)), (9, .cref more.enc), (11, .int .i64 i)] σ
      (fun x e σ' => σ' = σ ∧ if allB (R.drop i) Rule.ok then x = .exit 0 ∧ get e 0 = .lst R.length (R.flatMap Rule.enc) ∧ get e 1 = .lst l.length (l.flatMap Ev.enc) ∧ get e 2 = .int .i64 now ∧ get e 3 = .lst ws.length (ws.flatMap u16E) ∧ get e 9 = .cref more.enc else x = .ret ∧ get e 10 = .bool true)
  | 0, i, hi => by
    refine WL_step e_law09_TremorChoices_l8 ?_
    have h1 : ¬ i < R.length := by omega
    have h2 : R.drop i = [] := by simp; omega
    simp [-List.length_flatMap, -List.map_take, e_law09_TremorChoices_r0, e_law09_TremorChoices_r1, e_law09_TremorChoices_r2, e_law09_TremorChoices_r3, e_law09_TremorChoices_r4, e_law09_TremorChoices_r5, e_law09_TremorChoices_r6, e_law09_TremorChoices_r7, e_law09_TremorChoices_r9, e_law09_TremorChoices_r10, e_law09_TremorChoices_r11, e_law09_TremorChoices_r12, e_law09_TremorChoices_r13, e_law09_TremorChoices_r15, e_law09_TremorChoices_r16, e_law09_TremorChoices_r17, e_law09_TremorChoices_r18, e_law09_TremorChoices_r19, e_law09_TremorChoices_r20, e_law09_TremorChoices_r21, e_law09_TremorChoices_r22, e_law09_TremorChoices_r23, e_law09_TremorChoices_r24, e_law09_TremorChoices_r25, e_law09_TremorChoices_r26, e_law09_TremorChoices_r28, e_law09_TremorChoices_r29, e_law09_TremorChoices_r30, e_law09_TremorChoices_r31, h1, h2, allB_nil]
  | m + 1, i, hi => by
    refine WL_step e_law09_TremorChoices_l8 ?_
    have g1 : i < R.length := by omega
    obtain ⟨r, hr⟩ : ∃ x, R[i]? = some x := ⟨_, List.getElem?_eq_getElem g1⟩
    have a1 := flat_at (f := Rule.enc) (w := 10) (fun _ => rfl) hr
    have h6 := wnext g1 (by omega)
    have hC := fun σ => @C_RightRule σ r
    simp only [Rule.enc] at hC
    have ih := L_c8 (l := l) (now := now) (ws := ws) (more := more) hR hσ m (i + 1) (by omega)
    rw [drop_at hr, allB_cons]
    cases c1 : r.ok <;> simp only [c1] at hC
    · simp [-List.length_flatMap, -List.map_take, e_law09_TremorChoices_r0, e_law09_TremorChoices_r1, e_law09_TremorChoices_r2, e_law09_TremorChoices_r3, e_law09_TremorChoices_r4, e_law09_TremorChoices_r5, e_law09_TremorChoices_r6, e_law09_TremorChoices_r7, e_law09_TremorChoices_r9, e_law09_TremorChoices_r10, e_law09_TremorChoices_r11, e_law09_TremorChoices_r12, e_law09_TremorChoices_r13, e_law09_TremorChoices_r15, e_law09_TremorChoices_r16, e_law09_TremorChoices_r17, e_law09_TremorChoices_r18, e_law09_TremorChoices_r19, e_law09_TremorChoices_r20, e_law09_TremorChoices_r21, e_law09_TremorChoices_r22, e_law09_TremorChoices_r23, e_law09_TremorChoices_r24, e_law09_TremorChoices_r25, e_law09_TremorChoices_r26, e_law09_TremorChoices_r28, e_law09_TremorChoices_r29, e_law09_TremorChoices_r30, e_law09_TremorChoices_r31, g1, a1, hC, C_awake, hσ]
    · simp [-List.length_flatMap, -List.map_take, e_law09_TremorChoices_r0, e_law09_TremorChoices_r1, e_law09_TremorChoices_r2, e_law09_TremorChoices_r3, e_law09_TremorChoices_r4, e_law09_TremorChoices_r5, e_law09_TremorChoices_r6, e_law09_TremorChoices_r7, e_law09_TremorChoices_r9, e_law09_TremorChoices_r10, e_law09_TremorChoices_r11, e_law09_TremorChoices_r12, e_law09_TremorChoices_r13, e_law09_TremorChoices_r15, e_law09_TremorChoices_r16, e_law09_TremorChoices_r17, e_law09_TremorChoices_r18, e_law09_TremorChoices_r19, e_law09_TremorChoices_r20, e_law09_TremorChoices_r21, e_law09_TremorChoices_r22, e_law09_TremorChoices_r23, e_law09_TremorChoices_r24, e_law09_TremorChoices_r25, e_law09_TremorChoices_r26, e_law09_TremorChoices_r28, e_law09_TremorChoices_r29, e_law09_TremorChoices_r30, e_law09_TremorChoices_r31, g1, a1, h6, hC]
      exact WL.to ih (by simp) rfl fun x e σ' hh => hh

def okE (e : Ev) : Bool := e.ok && decide (e.sp.length ≤ 20)
theorem L_c14 {R : List Rule} {l : List Ev} {now : Int} {ws : List Int} {more : Ev} (hl : l.length ≤ 1000) (hs : ∀ e ∈ l, e.sp.length ≤ 9223372036854775807) (hσ : σ ≠ []) : ∀ (m i : Nat), i + m = l.length →
    WL T [0, 1, 2, 3, 9, 12] false f_law09_TremorChoices_l14 [(0, .lst R.length (R.flatMap Rule.enc)), (1, .lst l.length (l.flatMap Ev.enc)), (2, .int .i64 now), (3, .lst ws.length (ws.flatMap u16E)), (9, .cref more.enc), (12, .int .i64 i)] σ
      (fun x e σ' => σ' = σ ∧ if allB (l.drop i) okE then x = .exit 2 ∧ get e 0 = .lst R.length (R.flatMap Rule.enc) ∧ get e 1 = .lst l.length (l.flatMap Ev.enc) ∧ get e 2 = .int .i64 now ∧ get e 3 = .lst ws.length (ws.flatMap u16E) ∧ get e 9 = .cref more.enc else x = .ret ∧ get e 10 = .bool true)
  | 0, i, hi => by
    refine WL_step e_law09_TremorChoices_l14 ?_
    have h1 : ¬ i < l.length := by omega
    have h2 : l.drop i = [] := by simp; omega
    simp [-List.length_flatMap, -List.map_take, e_law09_TremorChoices_r0, e_law09_TremorChoices_r1, e_law09_TremorChoices_r2, e_law09_TremorChoices_r3, e_law09_TremorChoices_r4, e_law09_TremorChoices_r5, e_law09_TremorChoices_r6, e_law09_TremorChoices_r7, e_law09_TremorChoices_r9, e_law09_TremorChoices_r10, e_law09_TremorChoices_r11, e_law09_TremorChoices_r12, e_law09_TremorChoices_r13, e_law09_TremorChoices_r15, e_law09_TremorChoices_r16, e_law09_TremorChoices_r17, e_law09_TremorChoices_r18, e_law09_TremorChoices_r19, e_law09_TremorChoices_r20, e_law09_TremorChoices_r21, e_law09_TremorChoices_r22, e_law09_TremorChoices_r23, e_law09_TremorChoices_r24, e_law09_TremorChoices_r25, e_law09_TremorChoices_r26, e_law09_TremorChoices_r28, e_law09_TremorChoices_r29, e_law09_TremorChoices_r30, e_law09_TremorChoices_r31, h1, h2, allB_nil]
  | m + 1, i, hi => by
    refine WL_step e_law09_TremorChoices_l14 ?_
    have g1 : i < l.length := by omega
    obtain ⟨r, hr⟩ : ∃ x, l[i]? = some x := ⟨_, List.getElem?_eq_getElem g1⟩
    have a1 := flat_at (f := Ev.enc) (w := 2) (fun _ => rfl) hr
    have h6 := wnext g1 (by omega)
    have hC := fun σ => @C_RightEvent σ r (hs r (List.mem_of_getElem? hr))
    simp only [Ev.enc] at hC
    have ih := L_c14 (R := R) (now := now) (ws := ws) (more := more) hl hs hσ m (i + 1) (by omega)
    rw [drop_at hr, allB_cons]
    cases c1 : r.ok <;> simp only [c1] at hC
    · have e1 : okE r = false := by simp [okE, c1]
      simp [-List.length_flatMap, -List.map_take, e_law09_TremorChoices_r0, e_law09_TremorChoices_r1, e_law09_TremorChoices_r2, e_law09_TremorChoices_r3, e_law09_TremorChoices_r4, e_law09_TremorChoices_r5, e_law09_TremorChoices_r6, e_law09_TremorChoices_r7, e_law09_TremorChoices_r9, e_law09_TremorChoices_r10, e_law09_TremorChoices_r11, e_law09_TremorChoices_r12, e_law09_TremorChoices_r13, e_law09_TremorChoices_r15, e_law09_TremorChoices_r16, e_law09_TremorChoices_r17, e_law09_TremorChoices_r18, e_law09_TremorChoices_r19, e_law09_TremorChoices_r20, e_law09_TremorChoices_r21, e_law09_TremorChoices_r22, e_law09_TremorChoices_r23, e_law09_TremorChoices_r24, e_law09_TremorChoices_r25, e_law09_TremorChoices_r26, e_law09_TremorChoices_r28, e_law09_TremorChoices_r29, e_law09_TremorChoices_r30, e_law09_TremorChoices_r31, g1, a1, hC, C_awake, hσ, e1]
    by_cases c2 : (20 : Int) < r.sp.length
    · have e1 : okE r = false := by simp [okE, c1]; omega
      simp [-List.length_flatMap, -List.map_take, e_law09_TremorChoices_r0, e_law09_TremorChoices_r1, e_law09_TremorChoices_r2, e_law09_TremorChoices_r3, e_law09_TremorChoices_r4, e_law09_TremorChoices_r5, e_law09_TremorChoices_r6, e_law09_TremorChoices_r7, e_law09_TremorChoices_r9, e_law09_TremorChoices_r10, e_law09_TremorChoices_r11, e_law09_TremorChoices_r12, e_law09_TremorChoices_r13, e_law09_TremorChoices_r15, e_law09_TremorChoices_r16, e_law09_TremorChoices_r17, e_law09_TremorChoices_r18, e_law09_TremorChoices_r19, e_law09_TremorChoices_r20, e_law09_TremorChoices_r21, e_law09_TremorChoices_r22, e_law09_TremorChoices_r23, e_law09_TremorChoices_r24, e_law09_TremorChoices_r25, e_law09_TremorChoices_r26, e_law09_TremorChoices_r28, e_law09_TremorChoices_r29, e_law09_TremorChoices_r30, e_law09_TremorChoices_r31, g1, a1, hC, C_awake, hσ, e1, c2]
    · have e1 : okE r = true := by simp [okE, c1]; omega
      simp [-List.length_flatMap, -List.map_take, e_law09_TremorChoices_r0, e_law09_TremorChoices_r1, e_law09_TremorChoices_r2, e_law09_TremorChoices_r3, e_law09_TremorChoices_r4, e_law09_TremorChoices_r5, e_law09_TremorChoices_r6, e_law09_TremorChoices_r7, e_law09_TremorChoices_r9, e_law09_TremorChoices_r10, e_law09_TremorChoices_r11, e_law09_TremorChoices_r12, e_law09_TremorChoices_r13, e_law09_TremorChoices_r15, e_law09_TremorChoices_r16, e_law09_TremorChoices_r17, e_law09_TremorChoices_r18, e_law09_TremorChoices_r19, e_law09_TremorChoices_r20, e_law09_TremorChoices_r21, e_law09_TremorChoices_r22, e_law09_TremorChoices_r23, e_law09_TremorChoices_r24, e_law09_TremorChoices_r25, e_law09_TremorChoices_r26, e_law09_TremorChoices_r28, e_law09_TremorChoices_r29, e_law09_TremorChoices_r30, e_law09_TremorChoices_r31, g1, a1, h6, hC, c2]
      exact WL.to ih (by simp) rfl fun x e σ' hh => by simpa [e1] using hh

/-- All that a choice needs. -/
structure Fit (R : List Rule) (l : List Ev) (now : Int) (ws : List Int) : Prop where
  R20 : R.length ≤ 20
  Rok : allB R Rule.ok = true
  l30 : l.length ≤ 31
  lok : allB l Ev.ok = true
  now : inn now 0 1000000 = true
  wl : ws.length ≤ 9223372036854775807
  w : ∀ x ∈ ws, 0 ≤ x ∧ x ≤ 65535
theorem Fit.sp {R : List Rule} {l : List Ev} {now : Int} {ws : List Int} (h : Fit R l now ws) : ∀ e ∈ l, 1 ≤ e.sp.length ∧ e.sp.length ≤ 2000 := by
  intro e he
  have := allB_iff.1 h.lok e he
  simp only [Ev.ok, Bool.and_eq_true, inn_iff] at this
  omega
theorem Fit.err {R : List Rule} {l : List Ev} {now : Int} {ws : List Int} (h : Fit R l now ws) : lightErr R l now = 0 := by
  have h1 := h.R20
  have h2 := h.l30
  have c1 : ¬ 20 < R.length := by omega
  have c2 : ¬ 200 < l.length := by omega
  simp [lightErr, c1, c2, h.Rok, h.lok, h.now]
theorem ch_ok {ws : List Int} (hw : ∀ x ∈ ws, 0 ≤ x ∧ x ≤ 65535) {ro : Option Rule} : ∀ (es : List Ev) (i : Nat), allB es Ev.ok = true → allB (chL ws ro i es) Ev.ok = true
  | [], i, h => rfl
  | e :: es, i, h => by
    rw [allB_cons, Bool.and_eq_true] at h
    simp only [chL]
    rw [allB_cons, ch_ok hw es (i + 1) h.2, Bool.and_true]
    have he := h.1
    simp only [Ev.ok, Bool.and_eq_true, inn_iff] at he
    obtain ⟨s, h1, h2⟩ := (ch_chosen hw (ro := ro) (i := i) (e := e) (by omega)).one
    have h3 := allB_iff.1 he.2.2 s h2
    simp only [Ev.ok, Bool.and_eq_true, inn_iff, h1]
    exact ⟨he.1, by simp, by simp [allB, h3]⟩
theorem Fit.ch {R : List Rule} {l : List Ev} {now : Int} {ws : List Int} (h : Fit R l now ws) (ro : Option Rule) : Fit R (chL ws ro 0 l) now ws :=
  ⟨h.R20, h.Rok, by rw [chL_len]; exact h.l30, ch_ok h.w l 0 h.lok, h.now, h.wl, h.w⟩
theorem Fit.col {R : List Rule} {l : List Ev} {now : Int} {ws : List Int} (h : Fit R l now ws) : ∀ r ∈ R, 0 ≤ r.col := by
  intro r hr
  have := (rule_iff.1 (allB_iff.1 h.Rok r hr)).2.2.2.2
  omega
theorem Fit.le {R : List Rule} {l : List Ev} {now : Int} {ws : List Int} (h : Fit R l now ws) (ro : Option Rule) :
    mayOf R (chL ws ro 0 l) now ≤ mayOf R l now ∧ sureOf R l now ≤ mayOf R (chL ws ro 0 l) now ∧ mayOf R (chL ws ro 0 l) now = sureOf R (chL ws ro 0 l) now := by
  refine ⟨light_le R 0 0 (fun r hr => ⟨h.col r hr, cnt_le l 0 fun i e he hs => ?_⟩) (Int.le_refl _), light_le R 0 0 (fun r hr => ⟨h.col r hr, cnt_ge l 0 fun i e he hs => ?_⟩) (Int.le_refl _), same_light R 0 fun r hr => cnt_same l 0 fun i e he => ?_⟩
  · exact ch_some (ch_chosen h.w (h.sp e he).1) hs
  · exact ch_every (ch_chosen h.w (h.sp e he).1) hs
  · exact (ch_same (ch_chosen h.w (h.sp e he).1) r now).symm
def bestF (R : List Rule) (l : List Ev) (now : Int) (ws : List Int) : List Rule → Int → Int
  | [], b => b
  | r :: t, b => bestF R l now ws t (max b (mayOf R (chL ws (some r) 0 l) now))
theorem bestF_le {R : List Rule} {l : List Ev} {now : Int} {ws : List Int} (h : Fit R l now ws) : ∀ (t : List Rule) (b : Int), b ≤ mayOf R l now → bestF R l now ws t b ≤ mayOf R l now
  | [], b, hb => hb
  | r :: t, b, hb => by
    have := (h.le (some r)).1
    exact bestF_le h t _ (by omega)
theorem bestF_start {R : List Rule} {l : List Ev} {now : Int} {ws : List Int} : ∀ (t : List Rule) (b : Int), b ≤ bestF R l now ws t b
  | [], b => Int.le_refl _
  | r :: t, b => by
    have := bestF_start (R := R) (l := l) (now := now) (ws := ws) t (max b (mayOf R (chL ws (some r) 0 l) now))
    simp only [bestF]
    omega
theorem bestF_ge {R : List Rule} {l : List Ev} {now : Int} {ws : List Int} {r : Rule} : ∀ (t : List Rule) (b : Int), r ∈ t → mayOf R (chL ws (some r) 0 l) now ≤ bestF R l now ws t b
  | [], b, h => by simp at h
  | x :: t, b, h => by
    simp only [bestF]
    rcases List.mem_cons.1 h with rfl | h
    · have := bestF_start (R := R) (l := l) (now := now) (ws := ws) t (max b (mayOf R (chL ws (some r) 0 l) now))
      omega
    · exact bestF_ge t _ h
theorem best_eq {R : List Rule} {l : List Ev} {now : Int} {ws : List Int} (h : Fit R l now ws) : bestF R l now ws R 0 = mayOf R l now := by
  have h0 : 0 ≤ mayOf R l now := light_start R 0
  have h1 := bestF_le h R 0 h0
  have h2 : mayOf R l now ≤ bestF R l now ws R 0 := by
    rcases light_at (f := fun r => someE r now) (l := l) R 0 with g | ⟨r, hr, hc, g⟩
    · have := bestF_start (R := R) (l := l) (now := now) (ws := ws) R 0
      unfold mayOf
      omega
    · have k1 : cntE (someE r now) l ≤ cntE (someE r now) (chL ws (some r) 0 l) := cnt_ge l 0 fun i e he hs => ch_hit h.w (h.sp e he).1 hs
      have k2 := light_ge (f := fun r => someE r now) (l := chL ws (some r) 0 l) R 0 hr (by omega)
      have k3 := bestF_ge (R := R) (l := l) (now := now) (ws := ws) R 0 hr
      unfold mayOf at k3 ⊢
      omega
  omega

theorem L_c27 {R : List Rule} {l : List Ev} {now : Int} {ws : List Int} {more : Ev} (h : Fit R l now ws) (hσ : σ ≠ []) : ∀ (m i : Nat) (b : Int), i + m = R.length →
    WL T [0, 1, 2, 3, 9, 13, 14, 19, 20] false f_law09_TremorChoices_l27 [(0, .lst R.length (R.flatMap Rule.enc)), (1, .lst l.length (l.flatMap Ev.enc)), (2, .int .i64 now), (3, .lst ws.length (ws.flatMap u16E)), (9, .cref more.enc), (13, .int .u8 (mayOf R l now)), (14, .int .u8 (sureOf R l now)), (19, .int .u8 b), (20, .int .i64 i)] σ
      (fun x e σ' => x = .exit 4 ∧ σ' = σ ∧ get e 0 = .lst R.length (R.flatMap Rule.enc) ∧ get e 1 = .lst l.length (l.flatMap Ev.enc) ∧ get e 2 = .int .i64 now ∧ get e 9 = .cref more.enc ∧ get e 13 = .int .u8 (mayOf R l now) ∧ get e 14 = .int .u8 (sureOf R l now) ∧ get e 19 = .int .u8 (bestF R l now ws (R.drop i) b))
  | 0, i, b, hi => by
    refine WL_step e_law09_TremorChoices_l27 ?_
    have h1 : ¬ i < R.length := by omega
    have h2 : R.drop i = [] := by simp; omega
    simp [-List.length_flatMap, -List.map_take, e_law09_TremorChoices_r0, e_law09_TremorChoices_r1, e_law09_TremorChoices_r2, e_law09_TremorChoices_r3, e_law09_TremorChoices_r4, e_law09_TremorChoices_r5, e_law09_TremorChoices_r6, e_law09_TremorChoices_r7, e_law09_TremorChoices_r9, e_law09_TremorChoices_r10, e_law09_TremorChoices_r11, e_law09_TremorChoices_r12, e_law09_TremorChoices_r13, e_law09_TremorChoices_r15, e_law09_TremorChoices_r16, e_law09_TremorChoices_r17, e_law09_TremorChoices_r18, e_law09_TremorChoices_r19, e_law09_TremorChoices_r20, e_law09_TremorChoices_r21, e_law09_TremorChoices_r22, e_law09_TremorChoices_r23, e_law09_TremorChoices_r24, e_law09_TremorChoices_r25, e_law09_TremorChoices_r26, e_law09_TremorChoices_r28, e_law09_TremorChoices_r29, e_law09_TremorChoices_r30, e_law09_TremorChoices_r31, h1, h2, bestF]
  | m + 1, i, b, hi => by
    refine WL_step e_law09_TremorChoices_l27 ?_
    have g1 : i < R.length := by omega
    obtain ⟨r, hr⟩ : ∃ x, R[i]? = some x := ⟨_, List.getElem?_eq_getElem g1⟩
    have a1 := flat_at (f := Rule.enc) (w := 10) (fun _ => rfl) hr
    have q1 := h.R20
    have q2 := h.l30
    have h6 := wnext g1 (by omega)
    have hC := fun σ (hσ : σ ≠ []) => @C_chosen σ l ws (some r) (by omega) h.sp h.wl h.w hσ
    have hf := h.ch (some r)
    have hE := fun σ (hσ : σ ≠ []) => @C_EventsL σ (chL ws (some r) 0 l) (by rw [chL_len]; omega) (fun e he => by have := hf.sp e he; omega) hσ
    have hRu := fun σ (hσ : σ ≠ []) => @C_RulesL σ R (by omega) hσ
    have hL := fun σ => @C_Light σ R (chL ws (some r) 0 l) now (by omega) (by rw [chL_len]; omega) (fun e he => by have := hf.sp e he; omega)
    rw [hf.err] at hL
    simp only [rD, Rule.enc] at hC
    simp at hL
    obtain ⟨l1, l2, l3⟩ := h.le (some r)
    have l1' : ¬ mayOf R l now < mayOf R (chL ws (some r) 0 l) now := by omega
    have l2' : ¬ mayOf R (chL ws (some r) 0 l) now < sureOf R l now := by omega
    have ih := fun b => L_c27 (more := more) h hσ m (i + 1) b (by omega)
    rw [drop_at hr]
    simp only [bestF]
    simp [-List.length_flatMap, -List.map_take, e_law09_TremorChoices_r0, e_law09_TremorChoices_r1, e_law09_TremorChoices_r2, e_law09_TremorChoices_r3, e_law09_TremorChoices_r4, e_law09_TremorChoices_r5, e_law09_TremorChoices_r6, e_law09_TremorChoices_r7, e_law09_TremorChoices_r9, e_law09_TremorChoices_r10, e_law09_TremorChoices_r11, e_law09_TremorChoices_r12, e_law09_TremorChoices_r13, e_law09_TremorChoices_r15, e_law09_TremorChoices_r16, e_law09_TremorChoices_r17, e_law09_TremorChoices_r18, e_law09_TremorChoices_r19, e_law09_TremorChoices_r20, e_law09_TremorChoices_r21, e_law09_TremorChoices_r22, e_law09_TremorChoices_r23, e_law09_TremorChoices_r24, e_law09_TremorChoices_r25, e_law09_TremorChoices_r26, e_law09_TremorChoices_r28, e_law09_TremorChoices_r29, e_law09_TremorChoices_r30, e_law09_TremorChoices_r31, g1, a1, h6, hRu, hC, hE, hL, hσ, l1', l2']
    exact WL.to (ih (max b (mayOf R (chL ws (some r) 0 l) now))) (by simp) rfl fun x e σ' hh => hh

theorem law_Choices {R : List Rule} {l : List Ev} {now : Int} {ws : List Int} {more : Ev} (hR : R.length ≤ 9223372036854775807) (hl : l.length ≤ 9223372036854775807) (hs : ∀ e ∈ l, e.sp.length ≤ 9223372036854775807) (hm : more.sp.length ≤ 9223372036854775807)
    (hwl : ws.length ≤ 9223372036854775807) (hw : ∀ x ∈ ws, 0 ≤ x ∧ x ≤ 65535) (hσ : σ ≠ []) :
    lim T (.call false i_law09_TremorChoices [.lst R.length (R.flatMap Rule.enc), .lst l.length (l.flatMap Ev.enc), .int .i64 now, .lst ws.length (ws.flatMap u16E), .agg more.enc] σ) = some (.val (.bool true) σ) := by
  refine call_of T_law09_TremorChoices e_law09_TremorChoices rfl ?_
  by_cases a1 : (20 : Int) < R.length
  · simp [-List.length_flatMap, -List.map_take, e_law09_TremorChoices_r0, e_law09_TremorChoices_r1, e_law09_TremorChoices_r2, e_law09_TremorChoices_r3, e_law09_TremorChoices_r4, e_law09_TremorChoices_r5, e_law09_TremorChoices_r6, e_law09_TremorChoices_r7, e_law09_TremorChoices_r9, e_law09_TremorChoices_r10, e_law09_TremorChoices_r11, e_law09_TremorChoices_r12, e_law09_TremorChoices_r13, e_law09_TremorChoices_r15, e_law09_TremorChoices_r16, e_law09_TremorChoices_r17, e_law09_TremorChoices_r18, e_law09_TremorChoices_r19, e_law09_TremorChoices_r20, e_law09_TremorChoices_r21, e_law09_TremorChoices_r22, e_law09_TremorChoices_r23, e_law09_TremorChoices_r24, e_law09_TremorChoices_r25, e_law09_TremorChoices_r26, e_law09_TremorChoices_r28, e_law09_TremorChoices_r29, e_law09_TremorChoices_r30, e_law09_TremorChoices_r31, a1, C_awake]
  by_cases a2 : (30 : Int) < l.length
  · simp [-List.length_flatMap, -List.map_take, e_law09_TremorChoices_r0, e_law09_TremorChoices_r1, e_law09_TremorChoices_r2, e_law09_TremorChoices_r3, e_law09_TremorChoices_r4, e_law09_TremorChoices_r5, e_law09_TremorChoices_r6, e_law09_TremorChoices_r7, e_law09_TremorChoices_r9, e_law09_TremorChoices_r10, e_law09_TremorChoices_r11, e_law09_TremorChoices_r12, e_law09_TremorChoices_r13, e_law09_TremorChoices_r15, e_law09_TremorChoices_r16, e_law09_TremorChoices_r17, e_law09_TremorChoices_r18, e_law09_TremorChoices_r19, e_law09_TremorChoices_r20, e_law09_TremorChoices_r21, e_law09_TremorChoices_r22, e_law09_TremorChoices_r23, e_law09_TremorChoices_r24, e_law09_TremorChoices_r25, e_law09_TremorChoices_r26, e_law09_TremorChoices_r28, e_law09_TremorChoices_r29, e_law09_TremorChoices_r30, e_law09_TremorChoices_r31, a1, a2, C_awake]
  cases a3 : inn now 0 1000000
  · simp [-List.length_flatMap, -List.map_take, e_law09_TremorChoices_r0, e_law09_TremorChoices_r1, e_law09_TremorChoices_r2, e_law09_TremorChoices_r3, e_law09_TremorChoices_r4, e_law09_TremorChoices_r5, e_law09_TremorChoices_r6, e_law09_TremorChoices_r7, e_law09_TremorChoices_r9, e_law09_TremorChoices_r10, e_law09_TremorChoices_r11, e_law09_TremorChoices_r12, e_law09_TremorChoices_r13, e_law09_TremorChoices_r15, e_law09_TremorChoices_r16, e_law09_TremorChoices_r17, e_law09_TremorChoices_r18, e_law09_TremorChoices_r19, e_law09_TremorChoices_r20, e_law09_TremorChoices_r21, e_law09_TremorChoices_r22, e_law09_TremorChoices_r23, e_law09_TremorChoices_r24, e_law09_TremorChoices_r25, e_law09_TremorChoices_r26, e_law09_TremorChoices_r28, e_law09_TremorChoices_r29, e_law09_TremorChoices_r30, e_law09_TremorChoices_r31, a1, a2, C_In, a3, C_awake]
  have hRm := fun σ => @C_RightEvent σ more hm
  simp only [Ev.enc] at hRm
  cases a4 : more.ok <;> simp only [a4] at hRm
  · simp [-List.length_flatMap, -List.map_take, e_law09_TremorChoices_r0, e_law09_TremorChoices_r1, e_law09_TremorChoices_r2, e_law09_TremorChoices_r3, e_law09_TremorChoices_r4, e_law09_TremorChoices_r5, e_law09_TremorChoices_r6, e_law09_TremorChoices_r7, e_law09_TremorChoices_r9, e_law09_TremorChoices_r10, e_law09_TremorChoices_r11, e_law09_TremorChoices_r12, e_law09_TremorChoices_r13, e_law09_TremorChoices_r15, e_law09_TremorChoices_r16, e_law09_TremorChoices_r17, e_law09_TremorChoices_r18, e_law09_TremorChoices_r19, e_law09_TremorChoices_r20, e_law09_TremorChoices_r21, e_law09_TremorChoices_r22, e_law09_TremorChoices_r23, e_law09_TremorChoices_r24, e_law09_TremorChoices_r25, e_law09_TremorChoices_r26, e_law09_TremorChoices_r28, e_law09_TremorChoices_r29, e_law09_TremorChoices_r30, e_law09_TremorChoices_r31, a1, a2, C_In, a3, hRm, C_awake]
  by_cases a5 : (20 : Int) < more.sp.length
  · simp [-List.length_flatMap, -List.map_take, e_law09_TremorChoices_r0, e_law09_TremorChoices_r1, e_law09_TremorChoices_r2, e_law09_TremorChoices_r3, e_law09_TremorChoices_r4, e_law09_TremorChoices_r5, e_law09_TremorChoices_r6, e_law09_TremorChoices_r7, e_law09_TremorChoices_r9, e_law09_TremorChoices_r10, e_law09_TremorChoices_r11, e_law09_TremorChoices_r12, e_law09_TremorChoices_r13, e_law09_TremorChoices_r15, e_law09_TremorChoices_r16, e_law09_TremorChoices_r17, e_law09_TremorChoices_r18, e_law09_TremorChoices_r19, e_law09_TremorChoices_r20, e_law09_TremorChoices_r21, e_law09_TremorChoices_r22, e_law09_TremorChoices_r23, e_law09_TremorChoices_r24, e_law09_TremorChoices_r25, e_law09_TremorChoices_r26, e_law09_TremorChoices_r28, e_law09_TremorChoices_r29, e_law09_TremorChoices_r30, e_law09_TremorChoices_r31, a1, a2, C_In, a3, hRm, a5, C_awake]
  simp [-List.length_flatMap, -List.map_take, e_law09_TremorChoices_r0, e_law09_TremorChoices_r1, e_law09_TremorChoices_r2, e_law09_TremorChoices_r3, e_law09_TremorChoices_r4, e_law09_TremorChoices_r5, e_law09_TremorChoices_r6, e_law09_TremorChoices_r7, e_law09_TremorChoices_r9, e_law09_TremorChoices_r10, e_law09_TremorChoices_r11, e_law09_TremorChoices_r12, e_law09_TremorChoices_r13, e_law09_TremorChoices_r15, e_law09_TremorChoices_r16, e_law09_TremorChoices_r17, e_law09_TremorChoices_r18, e_law09_TremorChoices_r19, e_law09_TremorChoices_r20, e_law09_TremorChoices_r21, e_law09_TremorChoices_r22, e_law09_TremorChoices_r23, e_law09_TremorChoices_r24, e_law09_TremorChoices_r25, e_law09_TremorChoices_r26, e_law09_TremorChoices_r28, e_law09_TremorChoices_r29, e_law09_TremorChoices_r30, e_law09_TremorChoices_r31, a1, a2, C_In, a3, hRm, a5]
  refine WL.to (L_c8 (σ := [] :: σ) (R := R) (l := l) (now := now) (ws := ws) (more := more) (by omega) (by simp) R.length 0 (by omega)) (by simp) rfl ?_
  rintro x e σ' ⟨rfl, h⟩
  simp only [List.drop_zero] at h
  cases c1 : allB R Rule.ok
  · rw [c1] at h
    obtain ⟨rfl, h⟩ := h
    simp [h]
  rw [c1] at h
  simp at h
  obtain ⟨rfl, e0, e1, e2, e3, e9⟩ := h
  simp [-List.length_flatMap, -List.map_take, e_law09_TremorChoices_r9, e0, e1, e2, e3, e9]
  refine WL.to (L_c14 (R := R) (l := l) (now := now) (ws := ws) (more := more) (by omega) hs (by simp) l.length 0 (by omega)) (by simp) rfl ?_
  rintro x e σ'' ⟨rfl, h⟩
  simp only [List.drop_zero] at h
  cases c2 : allB l okE
  · rw [c2] at h
    obtain ⟨rfl, h⟩ := h
    simp [h]
  rw [c2] at h
  simp at h
  obtain ⟨rfl, e0, e1, e2, e3, e9⟩ := h
  have hok : allB l Ev.ok = true := allB_iff.2 fun e he => by
    have := allB_iff.1 c2 e he
    simp only [okE, Bool.and_eq_true] at this
    exact this.1
  have hfit : Fit R l now ws := ⟨by omega, c1, by omega, hok, a3, hwl, hw⟩
  have hf0 := hfit.ch none
  have hRu := fun σ (hσ : σ ≠ []) => @C_RulesL σ R (by omega) hσ
  have hEv := fun σ (hσ : σ ≠ []) => @C_EventsL σ l (by omega) (fun e he => by have := hfit.sp e he; omega) hσ
  have hE0 := fun σ (hσ : σ ≠ []) => @C_EventsL σ (chL ws none 0 l) (by rw [chL_len]; omega) (fun e he => by have := hf0.sp e he; omega) hσ
  have hC0 := fun σ (hσ : σ ≠ []) => @C_chosen σ l ws none (by omega) hfit.sp hwl hw hσ
  have hL := fun σ => @C_Light σ R l now (by omega) (by omega) hs
  have hL0 := fun σ => @C_Light σ R (chL ws none 0 l) now (by omega) (by rw [chL_len]; omega) (fun e he => by have := hf0.sp e he; omega)
  rw [hfit.err] at hL
  rw [hf0.err] at hL0
  simp only [rD] at hC0
  simp at hL hL0
  obtain ⟨l1, l2, l3⟩ := hfit.le none
  have l1' : ¬ mayOf R l now < sureOf R (chL ws none 0 l) now := by omega
  have l2' : ¬ sureOf R (chL ws none 0 l) now < sureOf R l now := by omega
  rw [l3] at hL0
  simp [-List.length_flatMap, -List.map_take, e_law09_TremorChoices_r15, e_law09_TremorChoices_r16, e_law09_TremorChoices_r17, e_law09_TremorChoices_r19, e_law09_TremorChoices_r20, e0, e1, e2, e3, e9, hRu, hEv, hE0, hC0, hL, hL0, l1', l2']
  refine WL.to (L_c27 (more := more) hfit (by simp) R.length 0 0 (by omega)) (by simp) rfl ?_
  rintro x e σ3 ⟨rfl, rfl, e0, e1, e2, e9, e13, e14, e19⟩
  rw [List.drop_zero, best_eq hfit] at e19
  -- one event more
  have hf2 : Fit R (l ++ [more]) now ws := ⟨by omega, c1, by simp; omega, allB_iff.2 fun e he => by
    rcases List.mem_append.1 he with he | he
    · exact allB_iff.1 hok e he
    · simp at he; subst he; exact a4, a3, hwl, hw⟩
  have hES := fun σ u => @C_EventsS σ (l ++ [more]) (by simp; omega) (fun e he => by have := hf2.sp e he; omega) u
  have hL2 := fun σ => @C_Light σ R (l ++ [more]) now (by omega) (by simp; omega) (fun e he => by have := hf2.sp e he; omega)
  rw [hf2.err] at hL2
  simp at hL2
  have m1 : mayOf R l now ≤ mayOf R (l ++ [more]) now := light_le R 0 0 (fun r hr => ⟨hfit.col r hr, cnt_app more l⟩) (Int.le_refl _)
  have m2 : sureOf R l now ≤ sureOf R (l ++ [more]) now := light_le R 0 0 (fun r hr => ⟨hfit.col r hr, cnt_app more l⟩) (Int.le_refl _)
  by_cases hnil : l = []
  · subst hnil
    have r1 : 32 ≤ room := by unfold room; omega
    simp at hES hL2 m1 m2
    simp [-List.length_flatMap, -List.map_take, e_law09_TremorChoices_r28, e_law09_TremorChoices_r29, e_law09_TremorChoices_r30, e_law09_TremorChoices_r31, e0, e1, e2, e9, e13, e14, e19, hRu, r1, hES, hL2, m1, m2, C_awake]
  · have hlen := flat_len (f := Ev.enc) (w := 2) (fun _ => rfl) l
    have hself := k_self (f := Ev.enc) (w := 2) (fun _ => rfl) l
    have r1 : l.length * 32 ≤ room := by unfold room; omega
    have r2 : (l.length + 1) * 32 ≤ room := by unfold room; omega
    have hn0 : l.length ≠ 0 := fun h => hnil (List.eq_nil_of_length_eq_zero h)
    simp at hES hL2
    simp [-List.length_flatMap, -List.map_take, e_law09_TremorChoices_r28, e_law09_TremorChoices_r29, e_law09_TremorChoices_r30, e_law09_TremorChoices_r31, e0, e1, e2, e9, e13, e14, e19, hRu, hlen, hself, r1, r2, hnil, hn0, hES, hL2, m1, m2, C_awake]

theorem go_TremorChoices (x0 x1 x2 x3 x4 : D) (t0 : (Ty.slice 10 tyRule).hasV x0) (t1 : (Ty.slice 2 tyEv).hasV x1) (t2 : tyI.hasV x2) (t3 : (Ty.slice 1 (.int .u16)).hasV x3) (t4 : tyEv.hasV x4) :
    ∃ σ', lim T (.call false i_law09_TremorChoices [x0, x1, x2, x3, x4] [[]]) = some (.val (.bool true) σ') := by
  obtain ⟨R, rfl, hR, _⟩ := rows_of (fun ds h => rule_of h) t0
  obtain ⟨l, rfl, hl, hs⟩ := rows_of (fun ds h => ev_of h) t1
  obtain ⟨n, rfl, _⟩ := i64_of t2
  obtain ⟨w, rfl, hwl, hw⟩ := rows_of (fun ds h => u16e_of h) t3
  obtain ⟨ds, rfl, h4⟩ := t4
  obtain ⟨more, rfl, hm⟩ := ev_of h4
  exact ⟨_, law_Choices (by unfold maxLen at *; omega) (by unfold maxLen at *; omega) (fun e he => by have := hs e he; unfold maxLen at *; omega) (by unfold maxLen at *; omega) (by unfold maxLen at *; omega) hw (by simp)⟩
end Go.Proofs.YticpenoicajakaaGreat
