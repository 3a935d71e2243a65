/-
  What is moved, in any order: plain Lean.
-/
import Derived.Test.YtehandllpmlcoaaGreatR12
set_option linter.unusedVariables false
set_option linter.unusedSimpArgs false
namespace Go.Proofs.YtehandllpmlcoaaGreat
open Go Go.Abs Go.Rock

/-- A state's numbers are small. -/
def bnd (N : Int) (s : List Rock.Blk) : Prop := ∀ x ∈ s, sm x N
theorem sm_mono {x : Rock.Blk} {N M : Int} (h : sm x N) (hN : N ≤ M) : sm x M := by
  obtain ⟨h1, h2, h3⟩ := h
  exact ⟨⟨by omega, by omega⟩, ⟨by omega, by omega⟩, ⟨by omega, by omega⟩⟩
theorem bnd_at {N : Int} {s : List Rock.Blk} (h : bnd N s) {i : Nat} (hi : i < s.length) : s[i]? = some (blkAt s i) ∧ sm (blkAt s i) N := by
  have h2 : s[i]? = some (blkAt s i) := by simp [blkAt, hi]
  exact ⟨h2, h _ (List.mem_of_getElem? h2)⟩
theorem move_len {s : List Rock.Blk} {i : Nat} {o : Rock.Blk} {sign : Int} : (moveAt s i o sign).length = s.length := by simp [moveAt]
theorem move_bnd {N M : Int} {s : List Rock.Blk} (h : bnd N s) {i : Nat} {o : Rock.Blk} {sign : Int} (ho : sm o M) (hs : sign = 1 ∨ sign = -1) (hM : 0 ≤ M) : bnd (N + M) (moveAt s i o sign) := by
  intro x hx
  unfold moveAt at hx
  by_cases hi : i < s.length
  · rcases List.mem_or_eq_of_mem_set hx with hx | rfl
    · exact sm_mono (h x hx) (by omega)
    · obtain ⟨a1, a2, a3⟩ := (bnd_at h hi).2
      obtain ⟨b1, b2, b3⟩ := ho
      rcases hs with rfl | rfl
      · exact ⟨⟨by simp only [Rock.Blk.move]; omega, by simp only [Rock.Blk.move]; omega⟩, ⟨by simp only [Rock.Blk.move]; omega, by simp only [Rock.Blk.move]; omega⟩, ⟨by simp only [Rock.Blk.move]; omega, by simp only [Rock.Blk.move]; omega⟩⟩
      · exact ⟨⟨by simp only [Rock.Blk.move]; omega, by simp only [Rock.Blk.move]; omega⟩, ⟨by simp only [Rock.Blk.move]; omega, by simp only [Rock.Blk.move]; omega⟩, ⟨by simp only [Rock.Blk.move]; omega, by simp only [Rock.Blk.move]; omega⟩⟩
  · rw [List.set_eq_of_length_le (by omega)] at hx
    exact sm_mono (h x hx) (by omega)
theorem move_comm {s : List Rock.Blk} {i j : Nat} {o p : Rock.Blk} {a c : Int} : moveAt (moveAt s i o a) j p c = moveAt (moveAt s j p c) i o a := by
  by_cases hij : i = j
  · subst hij
    by_cases hi : i < s.length
    · simp only [moveAt, blkAt, List.getElem?_set_self hi, Option.getD_some, List.set_set, Rock.Blk.move]
      congr 2 <;> omega
    · simp only [moveAt, List.set_eq_of_length_le (show s.length ≤ i by omega)]
  · have hji : ¬ j = i := fun h => hij h.symm
    simp only [moveAt, blkAt, List.getElem?_set_ne hij, List.getElem?_set_ne hji]
    rw [List.set_comm _ _ hij]
theorem flow_comm {s : List Rock.Blk} {e f : (Nat × Nat) × Rock.Blk} : flowMove (flowMove s e) f = flowMove (flowMove s f) e := by
  unfold flowMove
  rw [move_comm (i := e.1.2) (j := f.1.1), move_comm (i := e.1.1) (j := f.1.1), move_comm (i := e.1.2) (j := f.1.2), move_comm (i := e.1.1) (j := f.1.2)]
theorem flow_len {s : List Rock.Blk} {e : (Nat × Nat) × Rock.Blk} : (flowMove s e).length = s.length := by simp [flowMove, move_len]

/-- A step of the range over the flows. -/
def stp (es : List ((Nat × Nat) × Rock.Blk)) (s : List Rock.Blk) (j : Nat) : List Rock.Blk := match es[j]? with | some e => flowMove s e | none => s
theorem stp_comm {es : List ((Nat × Nat) × Rock.Blk)} {s : List Rock.Blk} {i j : Nat} : stp es (stp es s i) j = stp es (stp es s j) i := by
  unfold stp
  cases es[i]? <;> cases es[j]? <;> simp [flow_comm]
theorem stp_len {es : List ((Nat × Nat) × Rock.Blk)} {s : List Rock.Blk} {j : Nat} : (stp es s j).length = s.length := by
  unfold stp; split <;> simp [flow_len]
theorem stp_range : ∀ (es : List ((Nat × Nat) × Rock.Blk)) (s : List Rock.Blk) (n : Nat), n ≤ es.length → (List.range n).foldl (stp es) s = (es.take n).foldl flowMove s
  | es, s, 0, _ => by simp
  | es, s, n + 1, h => by
    obtain ⟨e, he⟩ : ∃ e, es[n]? = some e := ⟨_, List.getElem?_eq_getElem (by omega)⟩
    rw [List.range_succ, List.foldl_append, stp_range es s n (by omega), List.take_add_one, he, List.foldl_append]
    simp [stp, he]
theorem stp_all {es : List ((Nat × Nat) × Rock.Blk)} {s : List Rock.Blk} {js : List Nat} (hd : js.Nodup) (hm : ∀ j, j ∈ js ↔ j < es.length) : js.foldl (stp es) s = es.foldl flowMove s := by
  have hp : js.Perm (List.range es.length) := (List.perm_ext_iff_of_nodup hd List.nodup_range).2 fun a => by simp [hm]
  rw [hp.foldl_eq' (fun x _ y _ z => stp_comm), stp_range es s es.length (Nat.le_refl _), List.take_of_length_le (Nat.le_refl _)]

/-! ### Bounds of the flows -/
theorem links_len {b : Bed} : (links b).length ≤ 3 * b.n := by
  have key : ∀ l : List Nat, (l.flatMap (linksAt b)).length ≤ 3 * l.length := by
    intro l
    induction l with
    | nil => simp
    | cons i l ih =>
      rw [List.flatMap_cons, List.length_append, List.length_cons]
      have : (linksAt b i).length ≤ 3 := by
        unfold linksAt
        simp only [List.length_append]
        split <;> split <;> split <;> simp
      omega
  have := key (List.range b.n)
  rw [List.length_range] at this
  exact this
theorem links_in {b : Bed} (h : Bv b) {l : Nat × Nat} (hl : l ∈ links b) : l.1 < b.n ∧ l.2 < b.n := by
  obtain ⟨hnn, X1, Y1⟩ := h.nat
  obtain ⟨i, hi, hh⟩ := List.mem_flatMap.1 hl
  have h1 : i < b.n := by simpa using hi
  unfold linksAt at hh
  simp only [List.mem_append] at hh
  rcases hh with hh | hh | hh
  · split at hh
    · rename_i hc
      simp at hh; subst hh
      exact ⟨h1, link1 (W := b.f.y.toNat * b.f.z.toNat) (by rw [hnn, Nat.mul_assoc]) h1 hc⟩
    · cases hh
  · split at hh
    · rename_i hc
      simp at hh; subst hh
      exact ⟨h1, link2 (Z := b.f.z.toNat) X1 Y1 hnn h1 hc⟩
    · cases hh
  · split at hh
    · rename_i hc
      simp at hh; subst hh
      exact ⟨h1, hc⟩
    · cases hh
/-- An entry of the flows: two blocks, and little. -/
def Flw (b : Bed) (e : (Nat × Nat) × Rock.Blk) : Prop := (e.1.1 < b.n ∧ e.1.2 < b.n) ∧ sm e.2 1000000000000
theorem out_sm {x : Rock.Blk} {q : Int} (hm : 1 ≤ x.m ∧ x.m ≤ 1000000) (hh : 0 ≤ x.h ∧ x.h ≤ 10000000000) (hk : 0 ≤ x.k ∧ x.k ≤ 1000000000000) (hq : 0 ≤ q ∧ q ≤ x.m) : sm (x.out q) 1000000000000 := by
  have b3 := out_b hm.1 hh hq
  have b4 := out_b hm.1 hk hq
  exact ⟨⟨by simp only [Rock.Blk.out]; omega, by simp only [Rock.Blk.out]; omega⟩, ⟨by simp only [Rock.Blk.out]; omega, by simp only [Rock.Blk.out]; omega⟩, ⟨by simp only [Rock.Blk.out]; omega, by simp only [Rock.Blk.out]; omega⟩⟩
theorem flowAt_ok {b : Bed} {m : Mdl} {s : List Rock.Blk} (hs : Sv b s) {p : List Int} {l : Nat × Nat} (h1 : l.1 < b.n) (h2 : l.2 < b.n) {e : (Nat × Nat) × Rock.Blk} (he : flowAt b m s p l = some e) : Flw b e := by
  unfold flowAt at he
  simp only at he
  generalize hd : (p[l.1]?).getD 0 - weight b l.1 - (p[l.2]?).getD 0 + weight b l.2 = d at he
  generalize hl' : (if d < 0 then (l.2, l.1) else l) = l' at he
  generalize hd' : (if d < 0 then -d else d) = d' at he
  have hll : l'.1 < b.n ∧ l'.2 < b.n := by
    rw [← hl']; split <;> exact ⟨by assumption, by assumption⟩
  obtain ⟨_, m1, m2, m3⟩ := hs.at hll.1
  split at he
  · rename_i hq
    simp only [Option.some.injEq] at he
    subst he
    have d2 := Int.tdiv_eq_ediv_of_nonneg (b := 8) (show 0 ≤ (blkAt s l'.1).m by omega)
    exact ⟨hll, out_sm m1 m2 m3 ⟨by omega, by rw [d2]; omega⟩⟩
  · cases he
theorem putL_ok {b : Bed} {es : List ((Nat × Nat) × Rock.Blk)} {k : Nat × Nat} {o : Rock.Blk} (h : ∀ e ∈ es, Flw b e) (ho : Flw b (k, o)) : (∀ e ∈ putL es k o, Flw b e) ∧ (putL es k o).length ≤ es.length + 1 := by
  unfold putL
  split
  · constructor
    · intro e he
      rcases List.mem_or_eq_of_mem_set he with he | rfl
      · exact h e he
      · exact ho
    · simp
  · constructor
    · intro e he
      rcases List.mem_append.1 he with he | he
      · exact h e he
      · simp at he; subst he; exact ho
    · simp
theorem flows_ok {b : Bed} {m : Mdl} {s : List Rock.Blk} (h : Bv b) (hs : Sv b s) : (∀ e ∈ flows b m s, Flw b e) ∧ (flows b m s).length ≤ 192 := by
  have key : ∀ (ls : List (Nat × Nat)) (es : List ((Nat × Nat) × Rock.Blk)), (∀ l ∈ ls, l.1 < b.n ∧ l.2 < b.n) → (∀ e ∈ es, Flw b e) → (∀ e ∈ ls.foldl (flowStep b m s (pressures b m s)) es, Flw b e) ∧ (ls.foldl (flowStep b m s (pressures b m s)) es).length ≤ es.length + ls.length := by
    intro ls
    induction ls with
    | nil => intro es _ h; exact ⟨h, by simp⟩
    | cons l ls ih =>
      intro es hl he
      have hl0 := hl l (by simp)
      simp only [List.foldl_cons]
      have h1 : (∀ e ∈ flowStep b m s (pressures b m s) es l, Flw b e) ∧ (flowStep b m s (pressures b m s) es l).length ≤ es.length + 1 := by
        unfold flowStep
        split
        · rename_i e hfe
          exact putL_ok he (flowAt_ok hs hl0.1 hl0.2 hfe)
        · exact ⟨he, by omega⟩
      obtain ⟨h2, h3⟩ := ih _ (fun l hh => hl l (by simp [hh])) h1.1
      exact ⟨h2, by simp only [List.length_cons]; omega⟩
  obtain ⟨h1, h2⟩ := key (links b) [] (fun l hl => links_in h hl) (by simp)
  have := @links_len b
  have hn := h.n
  exact ⟨h1, by simp only [List.length_nil] at h2; unfold flows; omega⟩
theorem flow_bnd {b : Bed} {N : Int} {s : List Rock.Blk} {e : (Nat × Nat) × Rock.Blk} (h : bnd N s) (he : Flw b e) : bnd (N + 2000000000000) (flowMove s e) := by
  have h1 := move_bnd (i := e.1.1) (sign := -1) h he.2 (.inr rfl) (by omega)
  have h2 := move_bnd (i := e.1.2) (sign := 1) h1 he.2 (.inl rfl) (by omega)
  unfold flowMove
  rw [show N + 2000000000000 = N + 1000000000000 + 1000000000000 by omega]
  exact h2
theorem stp_bnd {b : Bed} {es : List ((Nat × Nat) × Rock.Blk)} (hes : ∀ e ∈ es, Flw b e) : ∀ (js : List Nat) (s : List Rock.Blk) (N : Int), bnd N s → bnd (N + 2000000000000 * js.length) (js.foldr (fun j s => stp es s j) s)
  | [], s, N, h => by simpa using h
  | j :: js, s, N, h => by
    have ih := stp_bnd hes js s N h
    simp only [List.foldr_cons, List.length_cons]
    generalize js.foldr (fun j s => stp es s j) s = s1 at *
    unfold stp
    split
    · rename_i e he
      have := flow_bnd ih (hes e (List.mem_of_getElem? he))
      intro x hx
      exact sm_mono (this x hx) (by push_cast; omega)
    · intro x hx
      exact sm_mono (ih x hx) (by push_cast; omega)
theorem Sv.bnd {b : Bed} {s : List Rock.Blk} (h : Sv b s) : bnd 1000000000000 s := by
  intro x hx
  obtain ⟨h1, h2, h3⟩ := Blk.ok_iff.1 (h.ok x hx)
  exact ⟨⟨by omega, by omega⟩, ⟨by omega, by omega⟩, ⟨by omega, by omega⟩⟩
end Go.Proofs.YtehandllpmlcoaaGreat
