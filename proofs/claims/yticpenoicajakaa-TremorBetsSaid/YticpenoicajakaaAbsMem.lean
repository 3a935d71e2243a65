/-
  Reading and writing rows of cells in the model's memory; the model's small questions on types.
-/
import Derived.Test.YticpenoicajakaaAbsRel
import Derived.Test.YticpenoicajakaaAbsComp
import Derived.Laws.Cells
namespace Go.Abs
open Go

/-- A row of cells reads so. -/
def Rd (w : World) (b o : Nat) (vs : List Value) : Prop := ∀ (j : Nat) x, vs[j]? = some x → w.cell? ⟨b, o + j, none⟩ = some x

theorem Rd.take {w : World} {b o : Nat} {vs : List Value} (h : Rd w b o vs) (n : Nat) : Rd w b o (vs.take n) := fun j x e => h j x (by
  rw [List.getElem?_take] at e; split at e <;> simp_all)

theorem Rd.drop {w : World} {b o : Nat} {vs : List Value} (h : Rd w b o vs) (n : Nat) : Rd w b (o + n) (vs.drop n) := fun j x e => by
  have := h (n + j) x (by rw [List.getElem?_drop] at e; exact e)
  rw [show o + n + j = o + (n + j) from by omega]; exact this

theorem add_eq (b o n : Nat) : Addr.add ⟨b, o, none⟩ n = ⟨b, o + n, none⟩ := by
  unfold Addr.add; split
  · subst_vars; rfl
  · rfl

section types
variable {P : Program} {t : TypeId}
theorem run_typeInfo {i : TypeInfo} (h : P.info? t = some i) (w : World) : (typeInfo t).run P w = .ok i w := by
  simp [typeInfo, h]
theorem run_sizeOf {s : Nat} (h : sizeC P t = some s) (w : World) : (sizeOf t).run P w = .ok s w := by
  simp only [sizeC, Option.map_eq_some_iff] at h
  obtain ⟨i, hi, rfl⟩ := h
  simp [sizeOf, run_typeInfo hi]
theorem run_under {d : TypeDesc} (h : P.underlying t = some d) (w : World) : (underlying t).run P w = .ok d w := by
  simp [underlying, h]
theorem run_isAgg {b : Bool} (h : aggC P t = some b) (w : World) : (isAgg t).run P w = .ok b w := by
  unfold aggC at h
  cases hu : P.underlying t with
  | none => simp [hu] at h
  | some d =>
    rw [hu] at h
    simp only [isAgg, Sem.run_bind, run_under hu, Result.andThen_ok]
    cases d <;> simp_all
theorem run_zeroValue {z : Value} {i : TypeInfo} (h : P.info? t = some i) (hz : i.zero = some z) (w : World) : (zeroValue t).run P w = .ok z w := by
  simp [zeroValue, run_typeInfo h, hz]
end types

theorem valD_rel (g : G) {v : Value} {d : D} (h : valD v = some d) : RelV g d v ∧ v.oneCell' = true := by
  unfold valD at h
  split at h <;> first | (cases h; exact ⟨by constructor, rfl⟩) | cases h

theorem cellsD_rel (g : G) {vs : List Value} {ds : List D} (h : cellsD vs = some ds) : RelL g ds vs ∧ ∀ x ∈ vs, x.oneCell' = true := by
  induction vs generalizing ds with
  | nil => simp only [cellsD, Option.some.injEq] at h; subst h; exact ⟨.nil, by simp⟩
  | cons v vs ih =>
    simp only [cellsD] at h
    split at h
    · rename_i d ds' h1 h2
      cases h
      obtain ⟨h3, h4⟩ := ih h2
      obtain ⟨h5, h6⟩ := valD_rel g h1
      exact ⟨.cons _ _ _ _ h5 h3, by simp only [List.mem_cons]; rintro x (rfl | hx); exact h6; exact h4 x hx⟩
    · cases h

theorem constD_rel (g : G) {v : Value} {d : D} (h : constD v = some d) : RelV g d v := by
  unfold constD at h
  split at h
  · rename_i cs
    simp only [Option.map_eq_some_iff] at h
    obtain ⟨ds, h1, rfl⟩ := h
    obtain ⟨h2, h3⟩ := cellsD_rel g h1
    exact .agg ds cs h2 h3
  · exact (valD_rel g h).1

theorem zeroC_rel {P : Program} {t : TypeId} (g : G) {z : List D} (h : zeroC P t = some z) : ∃ i v, P.info? t = some i ∧ i.zero = some v ∧ RelL g z v.cells.toList ∧ ∀ x ∈ v.cells.toList, x.oneCell' = true := by
  unfold zeroC at h
  split at h
  · rename_i i hi
    split at h
    · rename_i v hv
      obtain ⟨h2, h3⟩ := cellsD_rel g h
      exact ⟨i, v, hi, hv, h2, h3⟩
    · cases h
  · cases h

/-- A variable is read: its cells, or the one. -/
theorem run_loadVar {P : Program} {t : TypeId} {w : World} {b o sz : Nat} {ag : Bool} {vs : List Value} (hag : aggC P t = some ag) (hsz : sizeC P t = some sz) (hone : (ag || sz == 1) = true)
    (hr : Rd w b o vs) (hlen : sz ≤ vs.length) :
    ∃ v, (loadVar t ⟨b, o, none⟩).run P w = .ok v w ∧ (if ag then v = .agg (vs.take sz).toArray else ∃ x r, vs = x :: r ∧ v = x) := by
  cases ag with
  | true =>
    have h1 : (loadCells ⟨b, o, none⟩ sz).run P w = .ok (vs.take sz).toArray w := by
      have := run_loadCells_list (P := P) w ⟨b, o, none⟩ (vs.take sz) (fun j v e => by rw [add_eq]; exact hr.take sz j v e)
      rwa [List.length_take, Nat.min_eq_left hlen] at this
    exact ⟨_, by simp [loadVar, run_isAgg hag, run_sizeOf hsz, h1], rfl⟩
  | false =>
    simp only [Bool.false_or, beq_iff_eq] at hone
    subst hone
    cases vs with
    | nil => simp at hlen
    | cons x r =>
      have := hr 0 x rfl
      exact ⟨x, by simp only [Nat.add_zero] at this; simp [loadVar, run_isAgg hag, this], x, r, rfl, rfl⟩

/-- A row is written. -/
theorem run_storeCells {P : Program} {b : Nat} {el : TypeId} : ∀ (ps : List Value) (w : World) (o i : Nat) (c : Array Value), (∀ x ∈ ps, x.oneCell' = true) →
    w.heap[b]? = some (.cells c el (0, 0)) → o + i + ps.length ≤ c.size →
    ∃ w' c', (storeCells ⟨b, o, none⟩ ps i).run P w = .ok () w' ∧ w'.heap[b]? = some (.cells c' el (0, 0)) ∧ c'.size = c.size ∧
      (∀ j, c'[j]? = if o + i ≤ j ∧ j < o + i + ps.length then ps[j - (o + i)]? else c[j]?) ∧
      (∀ x, x ≠ b → w'.heap[x]? = w.heap[x]?) ∧ w'.heap.size = w.heap.size ∧ w'.os = w.os ∧ w'.tape = w.tape ∧ w'.output = w.output
  | [], w, o, i, c, _, hb, _ => ⟨w, c, by simp [storeCells], hb, rfl, fun j => by rw [if_neg (by simp only [List.length_nil]; omega)], fun _ _ => rfl, rfl, rfl, rfl, rfl⟩
  | p :: ps, w, o, i, c, h1, hb, hl => by
    simp only [List.length_cons] at hl
    have hp := h1 p (by simp)
    have hcell : w.cell? ⟨b, o + i, none⟩ = some (c[o + i]'(by omega)) := by
      simp only [World.cell?, hb]; simp
    have hfz : w.frozen? ⟨b, o + i, none⟩ = false := by simp [World.frozen?, hb]
    have hb1 : (w.setCell ⟨b, o + i, none⟩ p).heap[b]? = some (.cells (c.setIfInBounds (o + i) p) el (0, 0)) := by
      simp [World.setCell, Array.getElem?_modify, hb]
    obtain ⟨w', c', hrun, hb', hs, hc, ho, hsz, e1, e2, e3⟩ := run_storeCells ps (w.setCell ⟨b, o + i, none⟩ p) o (i + 1) (c.setIfInBounds (o + i) p) (fun x hx => h1 x (by simp [hx])) hb1 (by simp; omega)
    refine ⟨w', c', ?_, hb', by simpa using hs, ?_, ?_, by simpa using hsz, e1, e2, e3⟩
    · simp only [storeCells, Sem.run_bind, add_eq, run_store P w _ p .plain hp, hcell, hfz]
      simpa using hrun
    · intro j
      rw [hc j]
      by_cases hj : j = o + i
      · subst hj
        rw [if_neg (by omega), if_pos (by simp)]
        rw [Array.getElem?_setIfInBounds_self_of_lt (by omega)]; simp
      · by_cases hj2 : o + (i + 1) ≤ j ∧ j < o + (i + 1) + ps.length
        · rw [if_pos hj2, if_pos (by simp; omega)]
          rw [show j - (o + i) = (j - (o + (i + 1))) + 1 from by omega]
          simp
        · rw [if_neg hj2, if_neg (by simp; omega)]
          rw [Array.getElem?_setIfInBounds_ne (by omega)]
    · intro x hx
      rw [ho x hx]
      simp only [World.setCell, Array.getElem?_modify]
      rw [if_neg (by simpa using fun e => hx e.symm)]

theorem run_storeVar {P : Program} {t : TypeId} {w : World} {b o sz : Nat} {el : TypeId} {c : Array Value} {v : Value} (hsz : sizeC P t = some sz) (hv : v.cells.size = sz)
    (h1 : ∀ x ∈ v.cells.toList, x.oneCell' = true) (hb : w.heap[b]? = some (.cells c el (0, 0))) (hl : o + sz ≤ c.size) :
    ∃ w' c', (storeVar t ⟨b, o, none⟩ v).run P w = .ok () w' ∧ w'.heap[b]? = some (.cells c' el (0, 0)) ∧ c'.size = c.size ∧
      (∀ j, c'[j]? = if o ≤ j ∧ j < o + sz then v.cells.toList[j - o]? else c[j]?) ∧
      (∀ x, x ≠ b → w'.heap[x]? = w.heap[x]?) ∧ w'.heap.size = w.heap.size ∧ w'.os = w.os ∧ w'.tape = w.tape ∧ w'.output = w.output := by
  obtain ⟨w', c', hrun, rest⟩ := run_storeCells (P := P) (b := b) (el := el) v.cells.toList w o 0 c h1 hb (by simp [hv]; omega)
  refine ⟨w', c', ?_, ?_⟩
  · simp only [storeVar, Sem.run_bind, run_sizeOf hsz, Result.andThen_ok, hv]
    simpa using hrun
  · simpa [hv] using rest

end Go.Abs
