/-
  The loops of the law TremorReasons.
-/
import Derived.Test.YticpenoicajakaaKB
set_option linter.unusedVariables false
set_option linter.unusedSimpArgs false
namespace Go.Proofs.Yticpenoicajakaa
open Go Go.Abs Go.Trem
variable {σ : Stack}

theorem allB_all {α : Type} {p : α → Bool} : ∀ {l : List α}, allB l p = true ↔ ∀ x ∈ l, p x = true
  | [] => by simp [allB]
  | a :: l => by
    have hb : allB (a :: l) p = (p a && allB l p) := rfl
    rw [hb, Bool.and_eq_true, allB_all (l := l)]
    simp

theorem noneB_take {n : Net} {l : List Pick} {k : Nat} (hk1 : 1 ≤ k) (hk : k ≤ l.length) (h : noneB n (l.take k) = true) : noneB n l = true := by
  unfold noneB at *
  rw [allB_all] at *
  intro p hp
  have h1 := h p hp
  cases hc : (origin n l p).ne
  · rfl
  · have h3 : (origin n l p).lo ≤ (origin n l p).hi := by simpa [Rg.ne] using hc
    obtain ⟨x, hx, hx1⟩ := origin_lo (n := n) (l := l.take k) (p := p) (by simp; omega)
    obtain ⟨y, hy, hy1⟩ := origin_hi (n := n) (l := l.take k) (p := p) (by simp; omega)
    simp only [List.mem_map] at hx hy
    obtain ⟨a, ha, rfl⟩ := hx
    obtain ⟨b, hb, rfl⟩ := hy
    have h4 := origin_all (n := n) (p := p) (List.mem_of_mem_take ha)
    have h5 := origin_all (n := n) (p := p) (List.mem_of_mem_take hb)
    have h6 : (span n a p).lo = (origin n (l.take k) p).lo := beq_iff_eq.1 hx1
    have h7 : (span n b p).hi = (origin n (l.take k) p).hi := beq_iff_eq.1 hy1
    simp [Rg.ne] at h1
    omega

theorem blame_ne {n : Net} {l : List Pick} (hl1 : 1 ≤ l.length) (h : noneB n l = false) : blame n l = -1 := by
  rcases blame_spec (n := n) (l := l) l.length 0 (by omega) with ⟨h1, _⟩ | ⟨k, h1, h2, h3, h4, h5⟩
  · exact h1
  · rw [located_none] at h4
    have := noneB_take (by omega) (by omega) h4
    rw [h] at this; cases this

theorem blame_at {n : Net} {l : List Pick} (hl1 : 1 ≤ l.length) (h : noneB n l = true) : ∃ k : Nat, blame n l = k ∧ k < l.length ∧ (located n (l.take (k + 1))).length = 0 ∧ ∀ j, j < k → (located n (l.take (j + 1))).length ≠ 0 := by
  rcases blame_spec (n := n) (l := l) l.length 0 (by omega) with ⟨_, h1⟩ | ⟨k, h1, h2, h3, h4, h5⟩
  · have := h1 (l.length - 1) (by omega) (by omega)
    rw [show l.length - 1 + 1 = l.length by omega, List.take_length] at this
    exact absurd (located_none.2 h) this
  · exact ⟨k, h1, h3, h4, fun j hj => h5 j (by omega) hj⟩

/-- The loop that tries the pairs. -/
theorem L_prv {n : Net} {l : List Pick} (h : Hd n l) {ps : List Pt} {qs : List Pair} (hps : ∀ p ∈ ps, p.ok = true) (hlen : ps.length ≤ 100000) : ∀ (m i : Nat) (b : Bool), i + m = ps.length → (b = true → qs.length = ps.length) →
    WL T [1, 2, 7, 20, 23, 24] false f_law09_TremorReasons_l34 [(1, .lst l.length (l.flatMap Pick.enc)), (2, .lst qs.length (qs.flatMap Pair.enc)), (7, .cref n.enc), (20, .lst ps.length (ps.flatMap Pt.enc)), (23, .bool b), (24, .int .i64 i)] σ
      (fun x e σ' => σ' = σ ∧ x = .exit 4 ∧ get e 23 = .bool (b && prvL n l (ps.drop i) (qs.drop i)) ∧ get e 1 = .lst l.length (l.flatMap Pick.enc) ∧ get e 2 = .lst qs.length (qs.flatMap Pair.enc) ∧ get e 7 = .cref n.enc)
  | 0, i, b, hi, hb => by
    refine WL_step e_law09_TremorReasons_l34 ?_
    have h1 : ¬ i < ps.length := by omega
    have h2 : ps.drop i = [] := by simp; omega
    have h3 : (b && prvL n l (ps.drop i) (qs.drop i)) = b := by
      cases b
      · rfl
      · have h4 : qs.drop i = [] := by have := hb rfl; simp; omega
        rw [h2, h4]; rfl
    rw [h3]
    simp [-List.length_flatMap, -List.map_take, e_law09_TremorReasons_r0, e_law09_TremorReasons_r1, e_law09_TremorReasons_r2, e_law09_TremorReasons_r3, e_law09_TremorReasons_r4, e_law09_TremorReasons_r5, e_law09_TremorReasons_r6, e_law09_TremorReasons_r7, e_law09_TremorReasons_r8, e_law09_TremorReasons_r9, e_law09_TremorReasons_r10, e_law09_TremorReasons_r11, e_law09_TremorReasons_r12, e_law09_TremorReasons_r13, e_law09_TremorReasons_r14, e_law09_TremorReasons_r15, e_law09_TremorReasons_r16, e_law09_TremorReasons_r17, e_law09_TremorReasons_r18, e_law09_TremorReasons_r20, e_law09_TremorReasons_r21, e_law09_TremorReasons_r22, e_law09_TremorReasons_r23, e_law09_TremorReasons_r24, e_law09_TremorReasons_r25, e_law09_TremorReasons_r27, e_law09_TremorReasons_r28, e_law09_TremorReasons_r29, e_law09_TremorReasons_r30, e_law09_TremorReasons_r31, e_law09_TremorReasons_r32, e_law09_TremorReasons_r33, e_law09_TremorReasons_r35, h1]
  | m + 1, i, false, hi, hb => by
    refine WL_step e_law09_TremorReasons_l34 ?_
    have h1 : i < ps.length := by omega
    simp [-List.length_flatMap, -List.map_take, e_law09_TremorReasons_r0, e_law09_TremorReasons_r1, e_law09_TremorReasons_r2, e_law09_TremorReasons_r3, e_law09_TremorReasons_r4, e_law09_TremorReasons_r5, e_law09_TremorReasons_r6, e_law09_TremorReasons_r7, e_law09_TremorReasons_r8, e_law09_TremorReasons_r9, e_law09_TremorReasons_r10, e_law09_TremorReasons_r11, e_law09_TremorReasons_r12, e_law09_TremorReasons_r13, e_law09_TremorReasons_r14, e_law09_TremorReasons_r15, e_law09_TremorReasons_r16, e_law09_TremorReasons_r17, e_law09_TremorReasons_r18, e_law09_TremorReasons_r20, e_law09_TremorReasons_r21, e_law09_TremorReasons_r22, e_law09_TremorReasons_r23, e_law09_TremorReasons_r24, e_law09_TremorReasons_r25, e_law09_TremorReasons_r27, e_law09_TremorReasons_r28, e_law09_TremorReasons_r29, e_law09_TremorReasons_r30, e_law09_TremorReasons_r31, e_law09_TremorReasons_r32, e_law09_TremorReasons_r33, e_law09_TremorReasons_r35, h1]
  | m + 1, i, true, hi, hb => by
    refine WL_step e_law09_TremorReasons_l34 ?_
    have h1 : i < ps.length := by omega
    have hq := hb rfl
    obtain ⟨p, hp⟩ : ∃ x, ps[i]? = some x := ⟨_, List.getElem?_eq_getElem h1⟩
    obtain ⟨q, hqq⟩ : ∃ x, qs[i]? = some x := ⟨_, List.getElem?_eq_getElem (by omega)⟩
    have h2 := flat_at (f := Pt.enc) (w := 3) (fun _ => rfl) hp
    have h3 := flat_at (f := Pair.enc) (w := 2) (fun _ => rfl) hqq
    have h4 := wnext h1 (by omega)
    have h5 := fun σ => @C_ReasonR σ n l h p.x p.y p.z (hps p (List.mem_of_getElem? hp)) q.fst q.thn
    have h6 : i < qs.length := by omega
    have ih := L_prv h hps hlen m (i + 1) (prv n l p q) (by omega) (fun _ => hq)
    have h7 : prvL n l (ps.drop i) (qs.drop i) = (prv n l p q && prvL n l (ps.drop (i + 1)) (qs.drop (i + 1))) := by
      rw [drop_at hp, drop_at hqq]; rfl
    rw [h7]
    simp only [Pt.eta, show (⟨q.fst, q.thn⟩ : Pair) = q from rfl] at h5
    simp [-List.length_flatMap, -List.map_take, e_law09_TremorReasons_r0, e_law09_TremorReasons_r1, e_law09_TremorReasons_r2, e_law09_TremorReasons_r3, e_law09_TremorReasons_r4, e_law09_TremorReasons_r5, e_law09_TremorReasons_r6, e_law09_TremorReasons_r7, e_law09_TremorReasons_r8, e_law09_TremorReasons_r9, e_law09_TremorReasons_r10, e_law09_TremorReasons_r11, e_law09_TremorReasons_r12, e_law09_TremorReasons_r13, e_law09_TremorReasons_r14, e_law09_TremorReasons_r15, e_law09_TremorReasons_r16, e_law09_TremorReasons_r17, e_law09_TremorReasons_r18, e_law09_TremorReasons_r20, e_law09_TremorReasons_r21, e_law09_TremorReasons_r22, e_law09_TremorReasons_r23, e_law09_TremorReasons_r24, e_law09_TremorReasons_r25, e_law09_TremorReasons_r27, e_law09_TremorReasons_r28, e_law09_TremorReasons_r29, e_law09_TremorReasons_r30, e_law09_TremorReasons_r31, e_law09_TremorReasons_r32, e_law09_TremorReasons_r33, e_law09_TremorReasons_r35, h1, h2, h3, h4, h5, h6]
    refine WL.to ih (by simp) rfl fun x e σ' hh => by simpa using hh

theorem L_prvS {n : Net} {l : List Pick} (h : Hd n l) {ps : List Pt} {qs : List Pair} (hps : ∀ p ∈ ps, p.ok = true) (hlen : ps.length ≤ 100000) : ∀ (m i : Nat) (b : Bool), i + m = ps.length → (b = true → qs.length = ps.length) →
    WL T [1, 2, 7, 20, 23, 24] false f_law09_TremorReasons_l34 [(1, .lst l.length (l.flatMap Pick.enc)), (2, .sl σ.length 0 qs.length 0 qs.length 2), (7, .cref n.enc), (20, .lst ps.length (ps.flatMap Pt.enc)), (23, .bool b), (24, .int .i64 i)] ([.cells qs.length (qs.flatMap Pair.enc)] :: σ)
      (fun x e σ' => σ' = [.cells qs.length (qs.flatMap Pair.enc)] :: σ ∧ x = .exit 4 ∧ get e 23 = .bool (b && prvL n l (ps.drop i) (qs.drop i)) ∧ get e 1 = .lst l.length (l.flatMap Pick.enc) ∧ get e 2 = .sl σ.length 0 qs.length 0 qs.length 2 ∧ get e 7 = .cref n.enc)
  | 0, i, b, hi, hb => by
    refine WL_step e_law09_TremorReasons_l34 ?_
    have h1 : ¬ i < ps.length := by omega
    have h2 : ps.drop i = [] := by simp; omega
    have h3 : (b && prvL n l (ps.drop i) (qs.drop i)) = b := by
      cases b
      · rfl
      · have h4 : qs.drop i = [] := by have := hb rfl; simp; omega
        rw [h2, h4]; rfl
    rw [h3]
    simp [-List.length_flatMap, -List.map_take, e_law09_TremorReasons_r0, e_law09_TremorReasons_r1, e_law09_TremorReasons_r2, e_law09_TremorReasons_r3, e_law09_TremorReasons_r4, e_law09_TremorReasons_r5, e_law09_TremorReasons_r6, e_law09_TremorReasons_r7, e_law09_TremorReasons_r8, e_law09_TremorReasons_r9, e_law09_TremorReasons_r10, e_law09_TremorReasons_r11, e_law09_TremorReasons_r12, e_law09_TremorReasons_r13, e_law09_TremorReasons_r14, e_law09_TremorReasons_r15, e_law09_TremorReasons_r16, e_law09_TremorReasons_r17, e_law09_TremorReasons_r18, e_law09_TremorReasons_r20, e_law09_TremorReasons_r21, e_law09_TremorReasons_r22, e_law09_TremorReasons_r23, e_law09_TremorReasons_r24, e_law09_TremorReasons_r25, e_law09_TremorReasons_r27, e_law09_TremorReasons_r28, e_law09_TremorReasons_r29, e_law09_TremorReasons_r30, e_law09_TremorReasons_r31, e_law09_TremorReasons_r32, e_law09_TremorReasons_r33, e_law09_TremorReasons_r35, h1]
  | m + 1, i, false, hi, hb => by
    refine WL_step e_law09_TremorReasons_l34 ?_
    have h1 : i < ps.length := by omega
    simp [-List.length_flatMap, -List.map_take, e_law09_TremorReasons_r0, e_law09_TremorReasons_r1, e_law09_TremorReasons_r2, e_law09_TremorReasons_r3, e_law09_TremorReasons_r4, e_law09_TremorReasons_r5, e_law09_TremorReasons_r6, e_law09_TremorReasons_r7, e_law09_TremorReasons_r8, e_law09_TremorReasons_r9, e_law09_TremorReasons_r10, e_law09_TremorReasons_r11, e_law09_TremorReasons_r12, e_law09_TremorReasons_r13, e_law09_TremorReasons_r14, e_law09_TremorReasons_r15, e_law09_TremorReasons_r16, e_law09_TremorReasons_r17, e_law09_TremorReasons_r18, e_law09_TremorReasons_r20, e_law09_TremorReasons_r21, e_law09_TremorReasons_r22, e_law09_TremorReasons_r23, e_law09_TremorReasons_r24, e_law09_TremorReasons_r25, e_law09_TremorReasons_r27, e_law09_TremorReasons_r28, e_law09_TremorReasons_r29, e_law09_TremorReasons_r30, e_law09_TremorReasons_r31, e_law09_TremorReasons_r32, e_law09_TremorReasons_r33, e_law09_TremorReasons_r35, h1]
  | m + 1, i, true, hi, hb => by
    refine WL_step e_law09_TremorReasons_l34 ?_
    have h1 : i < ps.length := by omega
    have hq := hb rfl
    obtain ⟨p, hp⟩ : ∃ x, ps[i]? = some x := ⟨_, List.getElem?_eq_getElem h1⟩
    obtain ⟨q, hqq⟩ : ∃ x, qs[i]? = some x := ⟨_, List.getElem?_eq_getElem (by omega)⟩
    have h2 := flat_at (f := Pt.enc) (w := 3) (fun _ => rfl) hp
    have h3 := flat_at (f := Pair.enc) (w := 2) (fun _ => rfl) hqq
    have h4 := wnext h1 (by omega)
    have h5 := fun σ => @C_ReasonR σ n l h p.x p.y p.z (hps p (List.mem_of_getElem? hp)) q.fst q.thn
    have h6 : i < qs.length := by omega
    have ih := L_prvS h hps hlen m (i + 1) (prv n l p q) (by omega) (fun _ => hq)
    have h7 : prvL n l (ps.drop i) (qs.drop i) = (prv n l p q && prvL n l (ps.drop (i + 1)) (qs.drop (i + 1))) := by
      rw [drop_at hp, drop_at hqq]; rfl
    rw [h7]
    simp only [Pt.eta, show (⟨q.fst, q.thn⟩ : Pair) = q from rfl] at h5
    have h8 := flat_len (f := Pair.enc) (w := 2) (fun _ => rfl) qs
    have h9 : 2 ≤ qs.length * 2 - i * 2 := by omega
    simp [-List.length_flatMap, -List.map_take, e_law09_TremorReasons_r0, e_law09_TremorReasons_r1, e_law09_TremorReasons_r2, e_law09_TremorReasons_r3, e_law09_TremorReasons_r4, e_law09_TremorReasons_r5, e_law09_TremorReasons_r6, e_law09_TremorReasons_r7, e_law09_TremorReasons_r8, e_law09_TremorReasons_r9, e_law09_TremorReasons_r10, e_law09_TremorReasons_r11, e_law09_TremorReasons_r12, e_law09_TremorReasons_r13, e_law09_TremorReasons_r14, e_law09_TremorReasons_r15, e_law09_TremorReasons_r16, e_law09_TremorReasons_r17, e_law09_TremorReasons_r18, e_law09_TremorReasons_r20, e_law09_TremorReasons_r21, e_law09_TremorReasons_r22, e_law09_TremorReasons_r23, e_law09_TremorReasons_r24, e_law09_TremorReasons_r25, e_law09_TremorReasons_r27, e_law09_TremorReasons_r28, e_law09_TremorReasons_r29, e_law09_TremorReasons_r30, e_law09_TremorReasons_r31, e_law09_TremorReasons_r32, e_law09_TremorReasons_r33, e_law09_TremorReasons_r35, h1, h2, h3, h4, h5, h6, h8, h9]
    refine WL.to ih (by simp) (by simp) fun x e σ' hh => ?_
    simpa using hh

/-- The loop that tries the reasons given. -/
theorem L_tried {n : Net} {l : List Pick} (h : Hd n l) {ps : List Pt} {qs rs : List Pair} {own : Bool} {at_ first thn : Int} (hps : ∀ p ∈ ps, p.ok = true) (hlen : ps.length ≤ 100000) (hrs : rs.length = ps.length) : ∀ (m i : Nat), i + m = ps.length → prvL n l (ps.drop i) (rs.drop i) = true →
    WL T [1, 2, 3, 4, 5, 6, 7, 15, 20, 21] false f_law09_TremorReasons_l19 [(1, .lst l.length (l.flatMap Pick.enc)), (2, .lst qs.length (qs.flatMap Pair.enc)), (3, .bool own), (4, .int .i64 at_), (5, .int .i64 first), (6, .int .i64 thn), (7, .cref n.enc), (15, .lst rs.length (rs.flatMap Pair.enc)), (20, .lst ps.length (ps.flatMap Pt.enc)), (21, .int .i64 i)] σ
      (fun x e σ' => σ' = σ ∧ x = .exit 0 ∧ get e 1 = .lst l.length (l.flatMap Pick.enc) ∧ get e 2 = .lst qs.length (qs.flatMap Pair.enc) ∧ get e 3 = .bool own ∧ get e 4 = .int .i64 at_ ∧ get e 5 = .int .i64 first ∧ get e 6 = .int .i64 thn ∧
        get e 7 = .cref n.enc ∧ get e 15 = .lst rs.length (rs.flatMap Pair.enc) ∧ get e 20 = .lst ps.length (ps.flatMap Pt.enc))
  | 0, i, hi, hb => by
    refine WL_step e_law09_TremorReasons_l19 ?_
    have h1 : ¬ i < rs.length := by omega
    simp [-List.length_flatMap, -List.map_take, e_law09_TremorReasons_r0, e_law09_TremorReasons_r1, e_law09_TremorReasons_r2, e_law09_TremorReasons_r3, e_law09_TremorReasons_r4, e_law09_TremorReasons_r5, e_law09_TremorReasons_r6, e_law09_TremorReasons_r7, e_law09_TremorReasons_r8, e_law09_TremorReasons_r9, e_law09_TremorReasons_r10, e_law09_TremorReasons_r11, e_law09_TremorReasons_r12, e_law09_TremorReasons_r13, e_law09_TremorReasons_r14, e_law09_TremorReasons_r15, e_law09_TremorReasons_r16, e_law09_TremorReasons_r17, e_law09_TremorReasons_r18, e_law09_TremorReasons_r20, e_law09_TremorReasons_r21, e_law09_TremorReasons_r22, e_law09_TremorReasons_r23, e_law09_TremorReasons_r24, e_law09_TremorReasons_r25, e_law09_TremorReasons_r27, e_law09_TremorReasons_r28, e_law09_TremorReasons_r29, e_law09_TremorReasons_r30, e_law09_TremorReasons_r31, e_law09_TremorReasons_r32, e_law09_TremorReasons_r33, e_law09_TremorReasons_r35, h1]
  | m + 1, i, hi, hb => by
    refine WL_step e_law09_TremorReasons_l19 ?_
    have h1 : i < ps.length := by omega
    obtain ⟨p, hp⟩ : ∃ x, ps[i]? = some x := ⟨_, List.getElem?_eq_getElem h1⟩
    obtain ⟨q, hqq⟩ : ∃ x, rs[i]? = some x := ⟨_, List.getElem?_eq_getElem (by omega)⟩
    have h2 := flat_at (f := Pt.enc) (w := 3) (fun _ => rfl) hp
    have h3 := flat_at (f := Pair.enc) (w := 2) (fun _ => rfl) hqq
    have h4 := wnext h1 (by omega)
    have h5 := fun σ => @C_ReasonR σ n l h p.x p.y p.z (hps p (List.mem_of_getElem? hp)) q.fst q.thn
    have h6 : i < rs.length := by omega
    have h7 : prvL n l (ps.drop i) (rs.drop i) = (prv n l p q && prvL n l (ps.drop (i + 1)) (rs.drop (i + 1))) := by
      rw [drop_at hp, drop_at hqq]; rfl
    rw [h7, Bool.and_eq_true] at hb
    have ih := L_tried (own := own) (qs := qs) (at_ := at_) (first := first) (thn := thn) h hps hlen hrs m (i + 1) (by omega) hb.2
    simp only [Pt.eta, show (⟨q.fst, q.thn⟩ : Pair) = q from rfl, hb.1] at h5
    simp [-List.length_flatMap, -List.map_take, e_law09_TremorReasons_r0, e_law09_TremorReasons_r1, e_law09_TremorReasons_r2, e_law09_TremorReasons_r3, e_law09_TremorReasons_r4, e_law09_TremorReasons_r5, e_law09_TremorReasons_r6, e_law09_TremorReasons_r7, e_law09_TremorReasons_r8, e_law09_TremorReasons_r9, e_law09_TremorReasons_r10, e_law09_TremorReasons_r11, e_law09_TremorReasons_r12, e_law09_TremorReasons_r13, e_law09_TremorReasons_r14, e_law09_TremorReasons_r15, e_law09_TremorReasons_r16, e_law09_TremorReasons_r17, e_law09_TremorReasons_r18, e_law09_TremorReasons_r20, e_law09_TremorReasons_r21, e_law09_TremorReasons_r22, e_law09_TremorReasons_r23, e_law09_TremorReasons_r24, e_law09_TremorReasons_r25, e_law09_TremorReasons_r27, e_law09_TremorReasons_r28, e_law09_TremorReasons_r29, e_law09_TremorReasons_r30, e_law09_TremorReasons_r31, e_law09_TremorReasons_r32, e_law09_TremorReasons_r33, e_law09_TremorReasons_r35, h1, h2, h3, h4, h5, h6]
    refine WL.to ih (by simp) rfl fun x e σ' hh => by simpa using hh

/-- The loop that copies the reasons. -/
theorem L_copied {n : Net} {l : List Pick} {ps : List Pt} {rs : List Pair} {at_ first thn : Int} (hlen : rs.length ≤ 100000) : ∀ (m i : Nat), i + m = rs.length →
    WL T [1, 2, 4, 5, 6, 7, 15, 20, 22] false f_law09_TremorReasons_l26 [(1, .lst l.length (l.flatMap Pick.enc)), (2, .sl σ.length 0 i 0 i 2), (4, .int .i64 at_), (5, .int .i64 first), (6, .int .i64 thn), (7, .cref n.enc), (15, .lst rs.length (rs.flatMap Pair.enc)), (20, .lst ps.length (ps.flatMap Pt.enc)), (22, .int .i64 i)] ([.cells i ((rs.take i).flatMap Pair.enc)] :: σ)
      (fun x e σ' => σ' = [.cells rs.length (rs.flatMap Pair.enc)] :: σ ∧ x = .exit 2 ∧ get e 1 = .lst l.length (l.flatMap Pick.enc) ∧ get e 2 = .sl σ.length 0 rs.length 0 rs.length 2 ∧ get e 4 = .int .i64 at_ ∧ get e 5 = .int .i64 first ∧ get e 6 = .int .i64 thn ∧
        get e 7 = .cref n.enc ∧ get e 20 = .lst ps.length (ps.flatMap Pt.enc))
  | 0, i, hi => by
    refine WL_step e_law09_TremorReasons_l26 ?_
    have h1 : ¬ i < rs.length := by omega
    have h2 : i = rs.length := by omega
    subst h2
    simp [-List.length_flatMap, -List.map_take, e_law09_TremorReasons_r0, e_law09_TremorReasons_r1, e_law09_TremorReasons_r2, e_law09_TremorReasons_r3, e_law09_TremorReasons_r4, e_law09_TremorReasons_r5, e_law09_TremorReasons_r6, e_law09_TremorReasons_r7, e_law09_TremorReasons_r8, e_law09_TremorReasons_r9, e_law09_TremorReasons_r10, e_law09_TremorReasons_r11, e_law09_TremorReasons_r12, e_law09_TremorReasons_r13, e_law09_TremorReasons_r14, e_law09_TremorReasons_r15, e_law09_TremorReasons_r16, e_law09_TremorReasons_r17, e_law09_TremorReasons_r18, e_law09_TremorReasons_r20, e_law09_TremorReasons_r21, e_law09_TremorReasons_r22, e_law09_TremorReasons_r23, e_law09_TremorReasons_r24, e_law09_TremorReasons_r25, e_law09_TremorReasons_r27, e_law09_TremorReasons_r28, e_law09_TremorReasons_r29, e_law09_TremorReasons_r30, e_law09_TremorReasons_r31, e_law09_TremorReasons_r32, e_law09_TremorReasons_r33, e_law09_TremorReasons_r35]
  | m + 1, i, hi => by
    refine WL_step e_law09_TremorReasons_l26 ?_
    have h1 : i < rs.length := by omega
    obtain ⟨x, hx⟩ : ∃ x, rs[i]? = some x := ⟨_, List.getElem?_eq_getElem h1⟩
    have h2 := flat_at (f := Pair.enc) (w := 2) (fun _ => rfl) hx
    have h3 := flat_take (f := Pair.enc) (w := 2) (fun _ => rfl) (Nat.le_of_lt h1)
    have h4 := flat_snoc (f := Pair.enc) hx
    have h5 := flat_len (f := Pair.enc) (w := 2) (fun _ => rfl) (rs.take i)
    have h6 := wnext h1 (by omega)
    have h7 : (i + 1) * 16 ≤ room := by unfold room; omega
    have h8 : min i rs.length = i := by omega
    have ih := L_copied (n := n) (l := l) (ps := ps) (at_ := at_) (first := first) (thn := thn) hlen m (i + 1) (by omega)
    simp [-List.length_flatMap, -List.map_take, e_law09_TremorReasons_r0, e_law09_TremorReasons_r1, e_law09_TremorReasons_r2, e_law09_TremorReasons_r3, e_law09_TremorReasons_r4, e_law09_TremorReasons_r5, e_law09_TremorReasons_r6, e_law09_TremorReasons_r7, e_law09_TremorReasons_r8, e_law09_TremorReasons_r9, e_law09_TremorReasons_r10, e_law09_TremorReasons_r11, e_law09_TremorReasons_r12, e_law09_TremorReasons_r13, e_law09_TremorReasons_r14, e_law09_TremorReasons_r15, e_law09_TremorReasons_r16, e_law09_TremorReasons_r17, e_law09_TremorReasons_r18, e_law09_TremorReasons_r20, e_law09_TremorReasons_r21, e_law09_TremorReasons_r22, e_law09_TremorReasons_r23, e_law09_TremorReasons_r24, e_law09_TremorReasons_r25, e_law09_TremorReasons_r27, e_law09_TremorReasons_r28, e_law09_TremorReasons_r29, e_law09_TremorReasons_r30, e_law09_TremorReasons_r31, e_law09_TremorReasons_r32, e_law09_TremorReasons_r33, e_law09_TremorReasons_r35, h1, h2, h3, h5, h6, h7, h8]
    refine WL.to ih (by simp) (by simp [← h4]) fun x e σ hh => by simpa using hh

theorem L_PairsS {l : List Pair} (hl : l.length ≤ 100000) : ∀ (m i : Nat), i + m = l.length →
    WL T [0, 3, 4] false f_law09_Pairs_l6 [(0, .sl σ.length 0 l.length 0 l.length 2), (3, .sl (σ.length + 1) 0 i 0 i 2), (4, .int .i64 i)] ([.cells i ((l.take i).flatMap Pair.enc)] :: [.cells l.length (l.flatMap Pair.enc)] :: σ)
      (fun x e σ' => x = .exit 0 ∧ get e 3 = .sl (σ.length + 1) 0 l.length 0 l.length 2 ∧ σ' = [.cells l.length (l.flatMap Pair.enc)] :: [.cells l.length (l.flatMap Pair.enc)] :: σ)
  | 0, i, hi => by
    refine WL_step e_law09_Pairs_l6 ?_
    have h1 : ¬ i < l.length := by omega
    have h2 : i = l.length := by omega
    subst h2
    simp [-List.length_flatMap, -List.map_take, e_law09_Pairs_r0, e_law09_Pairs_r1, e_law09_Pairs_r2, e_law09_Pairs_r3, e_law09_Pairs_r4, e_law09_Pairs_r5, e_law09_Pairs_r7]
  | m + 1, i, hi => by
    refine WL_step e_law09_Pairs_l6 ?_
    have h1 : i < l.length := by omega
    obtain ⟨x, hx⟩ : ∃ x, l[i]? = some x := ⟨_, List.getElem?_eq_getElem h1⟩
    have h2 := flat_at (f := Pair.enc) (w := 2) (fun _ => rfl) hx
    have h2a : l[i].enc = x.enc := by rw [(List.getElem?_eq_some_iff.1 hx).2]
    have h3 := flat_take (f := Pair.enc) (w := 2) (fun _ => rfl) (Nat.le_of_lt h1)
    have h4 := flat_snoc (f := Pair.enc) hx
    have h5 := flat_len (f := Pair.enc) (w := 2) (fun _ => rfl) (l.take i)
    have h6 := wnext h1 (by omega)
    have h7 : (i + 1) * 16 ≤ room := by unfold room; omega
    have h8 : min i l.length = i := by omega
    have h9 := flat_len (f := Pair.enc) (w := 2) (fun _ => rfl) l
    have hc : (l.flatMap Pair.enc).drop (i * 2) = .int .i64 x.fst :: .int .i64 x.thn :: (l.flatMap Pair.enc).drop (i * 2 + 2) := by
      rw [← List.take_append_drop 2 ((l.flatMap Pair.enc).drop (i * 2)), h2, List.drop_drop]; rfl
    have hd : (l.flatMap Pair.enc).drop (i * 2 + 1) = .int .i64 x.thn :: (l.flatMap Pair.enc).drop (i * 2 + 2) := by
      rw [← List.drop_drop, hc]; rfl
    have ih := L_PairsS hl m (i + 1) (by omega)
    simp [-List.length_flatMap, -List.map_take, e_law09_Pairs_r0, e_law09_Pairs_r1, e_law09_Pairs_r2, e_law09_Pairs_r3, e_law09_Pairs_r4, e_law09_Pairs_r5, e_law09_Pairs_r7, h1, h2, h3, h5, h6, h7, h8, h9, hc, hd]
    refine WL.to ih (by simp) (by simp [← h4]) fun x e σ hh => hh

theorem C_PairsS {l : List Pair} (hl : l.length ≤ 100000) :
    lim T (.call false i_law09_Pairs [.sl σ.length 0 l.length 0 l.length 2] ([.cells l.length (l.flatMap Pair.enc)] :: σ)) = some (.val (.lst l.length (l.flatMap Pair.enc)) ([.cells l.length (l.flatMap Pair.enc)] :: σ)) := by
  refine call_of T_law09_Pairs e_law09_Pairs rfl ?_
  simp [-List.length_flatMap, -List.map_take, e_law09_Pairs_r0, e_law09_Pairs_r1, e_law09_Pairs_r2, e_law09_Pairs_r3, e_law09_Pairs_r4, e_law09_Pairs_r5, e_law09_Pairs_r7]
  refine WL.to (L_PairsS (σ := σ) hl l.length 0 (by omega)) (by simp) (by simp) ?_
  rintro x e σ' ⟨rfl, h2, rfl⟩
  simp [-List.length_flatMap, -List.map_take, h2, e_law09_Pairs_r7]
  have hf := frz_out (σ := [.cells l.length (l.flatMap Pair.enc)] :: σ) (f := Pair.enc) (w := 2) (l := l) (j := 0) (v := l.length) (bs := [.cells l.length (l.flatMap Pair.enc)]) (fun _ => rfl) (fun x => by simp) (by simp) rfl
  simp only [List.length_cons, Nat.add_sub_cancel] at hf
  exact ⟨_, hf⟩

theorem flat_set {α : Type} {f : α → List D} {w : Nat} (hw : ∀ x, (f x).length = w) : ∀ {l : List α} {i : Nat} {x : α}, i < l.length → (l.flatMap f).take (i * w) ++ (f x ++ (l.flatMap f).drop (i * w + w)) = (l.set i x).flatMap f
  | [], i, x, h => by simp at h
  | a :: l, 0, x, h => by
    have h1 := hw a
    simp only [Nat.zero_mul, List.take_zero, List.nil_append, List.flatMap_cons, List.set_cons_zero, Nat.zero_add]
    rw [← h1, List.drop_left]
  | a :: l, i + 1, x, h => by
    have h1 := hw a
    have ih := flat_set (l := l) (i := i) (x := x) hw (by simpa using h)
    simp only [List.flatMap_cons, List.set_cons_succ]
    rw [← ih, show (i + 1) * w = w + i * w by rw [Nat.succ_mul]; omega, ← h1, List.take_length_add_append, List.append_assoc, show (f a).length + i * (f a).length + (f a).length = (f a).length + (i * (f a).length + (f a).length) by omega, List.drop_length_add_append]
end Go.Proofs.Yticpenoicajakaa
