/-
  In whatever order a region that draws goes: the interpreter's answer is the same.
-/
import Derived.Test.YticpenoicajakaaAbsDraw
import Derived.Test.YticpenoicajakaaAbsOp2
import Derived.Orders
set_option linter.unusedVariables false
set_option linter.unusedSimpArgs false
namespace Go.Abs
open Go

/-- An order of a row of operations, of which those that come early stand still and do not clash with what they are overtaken by. -/
inductive Sched : List (Nat × Op) → List Nat → List Op → Prop
  | nil : Sched [] [] []
  | cons {pre post : List (Nat × Op)} {i : Nat} {x : Op} {is : List Nat} {ys : List Op} : (∀ p ∈ pre, p.2.still = true ∧ p.2.clash x = false) → (pre = [] ∨ x.still = true) →
      Sched (pre ++ post) is ys → Sched (pre ++ (i, x) :: post) (i :: is) (x :: ys)

theorem sched_aops {O : Oracle} {R : List (Nat × Op)} {is : List Nat} {ys : List Op} (h : Sched R is ys) : ∀ {e e2 : Env} {σ σ2 : Stack}, aops O (R.map (·.2)) e σ = some (e2, σ2) →
    ∃ e2', aops O ys e σ = some (e2', σ2) ∧ EqE e2 e2' := by
  induction h with
  | nil => intro e e2 σ σ2 h; exact ⟨e2, h, .refl _⟩
  | cons hp hx _ ih =>
    rename_i pre post i x is ys _
    intro e e2 σ σ2 h
    have h1 : ∃ e3, aops O (x :: ((pre ++ post).map (·.2))) e σ = some (e3, σ2) ∧ EqE e2 e3 := by
      simp only [List.map_append, List.map_cons] at h ⊢
      rcases hx with rfl | hx
      · exact ⟨e2, by simpa using h, .refl _⟩
      · exact front_ok hx (fun z hz => by obtain ⟨p, hp', rfl⟩ := List.mem_map.1 hz; exact hp p hp') h
    obtain ⟨e3, h1, h2⟩ := h1
    rw [aops_cons] at h1
    simp only [Option.bind_eq_some_iff, Prod.exists] at h1
    obtain ⟨e4, σ4, h3, h4⟩ := h1
    obtain ⟨e5, h5, h6⟩ := ih h4
    exact ⟨e5, by rw [aops_cons, h3]; exact h5, h2.trans h6⟩

theorem sched_all {R : List (Nat × Op)} {is : List Nat} {ys : List Op} (h : Sched R is ys) {S : Nat → Op → Prop} : (∀ p ∈ R, S p.1 p.2) → All2 S is ys := by
  induction h with
  | nil => intro _; exact .nil
  | cons hp hx _ ih =>
    intro hS
    exact .cons (hS (_, _) (by simp)) (ih fun p hp => hS p (by simp only [List.mem_append, List.mem_cons] at hp ⊢; rcases hp with h | h <;> simp [h]))

/-! ### What must run before -/

def bitsOf (acc : List Nat) (o : Oper) : Nat := o.after.toList.foldl (fun s e => if Region.binds .any e then s ||| 2 ^ e.on ||| acc.getD e.on 0 else s) 0

theorem foldl_bits (acc : List Nat) : ∀ (l : List Edge) (s j : Nat), (l.foldl (fun s e => if Region.binds .any e then s ||| 2 ^ e.on ||| acc.getD e.on 0 else s) s).testBit j = true ↔
    s.testBit j = true ∨ ∃ e ∈ l, Region.binds .any e = true ∧ (e.on = j ∨ (acc.getD e.on 0).testBit j = true)
  | [], s, j => by simp
  | e :: l, s, j => by
    simp only [List.foldl_cons]
    rw [foldl_bits acc l]
    by_cases hb : Region.binds .any e = true
    · simp only [hb, if_true, Nat.testBit_or, Bool.or_eq_true, Nat.testBit_two_pow, decide_eq_true_eq, List.mem_cons, exists_eq_or_imp, true_and]
      grind
    · simp only [hb, List.mem_cons, exists_eq_or_imp, false_and, false_or]
      simp

theorem bitsOf_iff {acc : List Nat} {o : Oper} {j : Nat} : (bitsOf acc o).testBit j = true ↔ ∃ e ∈ o.after.toList, Region.binds .any e = true ∧ (e.on = j ∨ (acc.getD e.on 0).testBit j = true) := by
  unfold bitsOf
  rw [foldl_bits]
  simp

theorem befores_spec : ∀ (l : List Oper) (acc : List Nat), ∃ ext, befores l acc = acc ++ ext ∧ ext.length = l.length ∧
    ∀ k o, l[k]? = some o → ext[k]? = some (bitsOf ((befores l acc).take (acc.length + k)) o)
  | [], acc => ⟨[], by simp [befores], rfl, fun k o h => by simp at h⟩
  | o :: l, acc => by
    obtain ⟨ext, h1, h2, h3⟩ := befores_spec l (acc ++ [bitsOf acc o])
    have h0 : befores (o :: l) acc = befores l (acc ++ [bitsOf acc o]) := rfl
    refine ⟨bitsOf acc o :: ext, by rw [h0, h1]; simp, by simp [h2], fun k o' hk => ?_⟩
    cases k with
    | zero =>
      simp only [List.getElem?_cons_zero, Option.some.injEq] at hk
      subst hk
      rw [h0, h1]
      simp
    | succ k =>
      simp only [List.getElem?_cons_succ] at hk ⊢
      rw [h3 k o' hk, h0]
      simp [Nat.add_assoc, Nat.add_comm 1 k]

theorem befores_at {ops : List Oper} {i : Nat} {o : Oper} (h : ops[i]? = some o) {j : Nat} (hj : ((befores ops []).getD i 0).testBit j = true) :
    ∃ e ∈ o.after.toList, Region.binds .any e = true ∧ (e.on = j ∨ ((befores ops []).getD e.on 0).testBit j = true) := by
  obtain ⟨ext, h1, h2, h3⟩ := befores_spec ops []
  have h4 := h3 i o h
  simp only [List.length_nil, Nat.zero_add] at h4
  simp only [List.nil_append] at h1
  rw [h1] at hj h4 ⊢
  rw [List.getD_eq_getElem?_getD, h4] at hj
  simp only [Option.getD_some] at hj
  obtain ⟨e, he, hb, hc⟩ := bitsOf_iff.1 hj
  refine ⟨e, he, hb, hc.imp id fun hc => ?_⟩
  rw [List.getD_eq_getElem?_getD] at hc ⊢
  rw [List.getElem?_take] at hc
  split at hc
  · exact hc
  · simp at hc

theorem tail_bits {bs : List Nat} : ∀ {n j : Nat}, tailOf.go bs n ≤ j → j < n → bs.getD j 0 = 2 ^ j - 1
  | 0, j, h, hj => by omega
  | n + 1, j, h, hj => by
    simp only [tailOf.go] at h
    split at h
    · rename_i hb
      by_cases hjn : j = n
      · subst hjn; exact hb
      · exact tail_bits h (by omega)
    · omega

theorem after_ok {bs : List Nat} {i : Nat} {o : Op} : ∀ {l : List Op} {j : Nat}, calmC.after bs i j o l = true → ∀ k p, l[k]? = some p → o.clash p = false ∨ (bs.getD (j + k) 0).testBit i = true
  | [], j, h, k, p, hk => by simp at hk
  | q :: l, j, h, k, p, hk => by
    simp only [calmC.after, Bool.and_eq_true, Bool.or_eq_true, Bool.not_eq_true'] at h
    cases k with
    | zero => simp only [List.getElem?_cons_zero, Option.some.injEq] at hk; subst hk; simpa using h.1
    | succ k =>
      have := after_ok h.2 k p (by simpa using hk)
      rwa [show j + 1 + k = j + (k + 1) from by omega] at this

theorem calm_ok {bs : List Nat} : ∀ {l : List Op} {i : Nat}, calmC bs i l = true → ∀ k p, l[k]? = some p → p.k.calm = true ∧ ∀ m q, l[m]? = some q → k < m → p.clash q = false ∨ (bs.getD (i + m) 0).testBit (i + k) = true
  | [], i, h, k, p, hk => by simp at hk
  | o :: l, i, h, k, p, hk => by
    simp only [calmC, Bool.and_eq_true] at h
    obtain ⟨⟨h1, h2⟩, h3⟩ := h
    cases k with
    | zero =>
      simp only [List.getElem?_cons_zero, Option.some.injEq] at hk; subst hk
      refine ⟨h1, fun m q hm hlt => ?_⟩
      cases m with
      | zero => omega
      | succ m =>
        have := after_ok h2 m q (by simpa using hm)
        rwa [show i + 1 + m = i + (m + 1) from by omega] at this
    | succ k =>
      obtain ⟨h4, h5⟩ := calm_ok h3 k p (by simpa using hk)
      refine ⟨h4, fun m q hm hlt => ?_⟩
      cases m with
      | zero => omega
      | succ m =>
        have := h5 m q (by simpa using hm) (by omega)
        rwa [show i + 1 + m = i + (m + 1) from by omega, show i + 1 + k = i + (k + 1) from by omega] at this

theorem edges_ok : ∀ {l : List Oper} {i : Nat}, edgesOk i l = true → ∀ k o, l[k]? = some o → ∀ e ∈ o.after.toList, Region.binds .any e = true → e.on < i + k
  | [], i, h, k, o, hk => by simp at hk
  | o :: l, i, h, k, o', hk => by
    simp only [edgesOk, Bool.and_eq_true, List.all_eq_true] at h
    cases k with
    | zero =>
      simp only [List.getElem?_cons_zero, Option.some.injEq] at hk; subst hk
      intro e he hb
      have := h.1 e he
      simpa [hb] using this
    | succ k =>
      intro e he hb
      have := edges_ok h.2 k o' (by simpa using hk) e he hb
      omega


/-! ### The machine's orders -/

def unl (n : Nat) (listed : Array Bool) : List Nat := (List.range n).filter fun i => !listed.getD i true

theorem split_at {l : List Nat} {i : Nat} (hn : l.Pairwise (· < ·)) (hi : i ∈ l) : ∃ pre post, l = pre ++ i :: post ∧ l.filter (fun j => decide (j ≠ i)) = pre ++ post ∧ ∀ p ∈ pre, p < i := by
  obtain ⟨pre, post, rfl⟩ := List.append_of_mem hi
  rw [List.pairwise_append] at hn
  obtain ⟨h1, h2, h3⟩ := hn
  rw [List.pairwise_cons] at h2
  refine ⟨pre, post, rfl, ?_, fun p hp => h3 p hp i (by simp)⟩
  rw [List.filter_append, List.filter_cons]
  simp only [ne_eq, not_true, decide_false, Bool.false_eq_true, if_false]
  rw [List.filter_eq_self.2, List.filter_eq_self.2]
  · intro a ha; have := h2.1 a ha; simp; omega
  · intro a ha; have := h3 a ha i (by simp); simp; omega

theorem getD_tf {listed : Array Bool} {i : Nat} (h : i < listed.size) : listed.getD i true = listed.getD i false := by
  simp [Array.getD_eq_getD_getElem?, h]

theorem lin_sched {ops : Array Oper} {xs : List Op} (hlen : xs.length = ops.size) (hcalm : calmC (befores ops.toList []) 0 (xs.take (tailOf (befores ops.toList []))) = true)
    (hntr : ∀ i x, xs[i]? = some x → i < tailOf (befores ops.toList []) → x.ntr = true) (hedges : edgesOk 0 ops.toList = true) : ∀ (fuel t : Nat) (listed : Array Bool), listed.size = ops.size →
    (∀ i, listed.getD i false = true → ∀ j, ((befores ops.toList []).getD i 0).testBit j = true → listed.getD j false = true) → (unl ops.size listed).length ≤ fuel →
    ∃ ys, Sched ((unl ops.size listed).map fun i => (i, (xs[i]?).getD default)) (Region.linearise.go .any ops fuel t listed []) ys
  | 0, t, listed, hs, hcl, hf => by
    have : unl ops.size listed = [] := by simpa using hf
    exact ⟨[], by rw [this]; exact .nil⟩
  | fuel + 1, t, listed, hs, hcl, hf => by
    have hbl : (befores ops.toList []).length = ops.size := by
      obtain ⟨ext, h1, h2, _⟩ := befores_spec ops.toList []
      rw [h1]; simpa using h2
    have hsorted : (unl ops.size listed).Pairwise (· < ·) := List.Pairwise.filter _ List.pairwise_lt_range
    have hmemU : ∀ i, i ∈ unl ops.size listed ↔ i < ops.size ∧ listed.getD i false = false := by
      intro i
      simp only [unl, List.mem_filter, List.mem_range, Bool.not_eq_true']
      constructor
      · rintro ⟨h1, h2⟩; exact ⟨h1, by rw [← getD_tf (by omega)]; exact h2⟩
      · rintro ⟨h1, h2⟩; exact ⟨h1, by rw [getD_tf (by omega)]; exact h2⟩
    have hgo : Region.linearise.go .any ops (fuel + 1) t listed [] = match (Region.ready .any ops listed)[t % (Region.ready .any ops listed).length]? with
        | some i => Region.linearise.go .any ops fuel (t / (Region.ready .any ops listed).length) (listed.setIfInBounds i true) [i]
        | none => [] := rfl
    rw [hgo]
    cases hU : unl ops.size listed with
    | nil =>
      have hr : Region.ready .any ops listed = [] := by
        rw [List.eq_nil_iff_forall_not_mem]
        intro j hj
        rw [mem_ready] at hj
        obtain ⟨h0, o, ho, _⟩ := hj
        have hlt := (Array.getElem?_eq_some_iff.1 ho).1
        have : j ∈ unl ops.size listed := (hmemU j).2 ⟨hlt, by rw [← getD_tf (by omega)]; exact h0⟩
        rw [hU] at this; cases this
      rw [hr]
      exact ⟨[], .nil⟩
    | cons i0 U' =>
      have hi0 := (hmemU i0).1 (by rw [hU]; simp)
      have hready0 : i0 ∈ Region.ready .any ops listed := by
        rw [mem_ready]
        refine ⟨by rw [getD_tf (by omega)]; exact hi0.2, ops[i0]'hi0.1, by simp, fun e he hb => ?_⟩
        have hlt := edges_ok hedges i0 (ops[i0]'hi0.1) (by simp [hi0.1]) e (by simpa using he) hb
        cases hl : listed.getD e.on false with
        | true => rfl
        | false =>
          have : e.on ∈ unl ops.size listed := (hmemU _).2 ⟨by omega, hl⟩
          rw [hU] at this
          rw [hU, List.pairwise_cons] at hsorted
          rcases List.mem_cons.1 this with h | h
          · omega
          · have := hsorted.1 _ h; omega
      have hpos : 0 < (Region.ready .any ops listed).length := List.length_pos_of_mem hready0
      have hlt := Nat.mod_lt t hpos
      rw [List.getElem?_eq_getElem hlt]
      dsimp only
      generalize hie : (Region.ready .any ops listed)[t % (Region.ready .any ops listed).length] = i
      have hi : i ∈ Region.ready .any ops listed := by rw [← hie]; exact List.getElem_mem hlt
      rw [mem_ready] at hi
      obtain ⟨h0, o, ho, hall⟩ := hi
      have hin := (Array.getElem?_eq_some_iff.1 ho).1
      have hiU : i ∈ unl ops.size listed := (hmemU i).2 ⟨hin, by rw [← getD_tf (by omega)]; exact h0⟩
      have hbits : ∀ j, ((befores ops.toList []).getD i 0).testBit j = true → listed.getD j false = true := by
        intro j hj
        obtain ⟨e, he, hb, hc⟩ := befores_at (ops := ops.toList) (i := i) (o := o) (by simpa using ho) hj
        have hl := hall e (by simpa using he) hb
        rcases hc with rfl | hc
        · exact hl
        · exact hcl _ hl _ hc
      obtain ⟨pre, post, hsp, hfl, hlt'⟩ := split_at hsorted hiU
      have hU2 : unl ops.size (listed.setIfInBounds i true) = pre ++ post := by
        rw [← hfl]
        simp only [unl, List.filter_filter]
        apply List.filter_congr
        intro j hj
        by_cases hji : j = i
        · subst hji; simp [show j < listed.size from by omega]
        · rw [getD_set_ne true (Ne.symm hji)]; simp [hji]
      have hcl2 : ∀ i', (listed.setIfInBounds i true).getD i' false = true → ∀ j, ((befores ops.toList []).getD i' 0).testBit j = true → (listed.setIfInBounds i true).getD j false = true := by
        intro i' hi' j hj
        by_cases hii : i' = i
        · subst hii; exact getD_set_true (hbits j hj)
        · rw [getD_set_ne false (Ne.symm hii)] at hi'; exact getD_set_true (hcl i' hi' j hj)
      obtain ⟨ys, hys⟩ := lin_sched hlen hcalm hntr hedges fuel (t / (Region.ready .any ops listed).length) (listed.setIfInBounds i true) (by simpa using hs) hcl2 (by
        have : (unl ops.size listed).length = (pre ++ i :: post).length := by rw [hsp]
        rw [hU2]; simp at this ⊢; omega)
      rw [linearise_go_acc]
      refine ⟨(xs[i]?).getD default :: ys, ?_⟩
      rw [← hU, hsp]
      simp only [List.map_append, List.map_cons, List.reverse_cons, List.reverse_nil, List.nil_append, List.singleton_append]
      have hxi : ∃ x, xs[i]? = some x := ⟨xs[i]'(by omega), by simp [show i < xs.length from by omega]⟩
      obtain ⟨x, hx⟩ := hxi
      have hpre : ∀ p ∈ pre, i < tailOf (befores ops.toList []) := by
        intro p hp
        rcases Nat.lt_or_ge i (tailOf (befores ops.toList [])) with h | h
        · exact h
        · have hb := tail_bits (bs := befores ops.toList []) (n := (befores ops.toList []).length) h (by omega)
          have hpU := (hmemU p).1 (by rw [hsp]; simp [hp])
          have := hbits p (by rw [hb, Nat.testBit_two_pow_sub_one]; simpa using hlt' p hp)
          rw [this] at hpU; cases hpU.2
      have hstill : ∀ j y, xs[j]? = some y → j < tailOf (befores ops.toList []) → y.still = true := by
        intro j y hy hj
        have := (calm_ok hcalm j y (by rw [List.getElem?_take, if_pos hj]; exact hy)).1
        simp [Op.still, this, hntr j y hy hj]
      refine .cons ?_ ?_ ?_
      · intro p hp
        obtain ⟨j, hj, rfl⟩ := List.mem_map.1 hp
        have hjn := (hmemU j).1 (by rw [hsp]; simp [hj])
        have hjx : xs[j]? = some (xs[j]'(by omega)) := by simp [show j < xs.length from by omega]
        have hit := hpre j hj
        have hji := hlt' j hj
        rw [hx, hjx]
        simp only [Option.getD_some]
        refine ⟨hstill j _ hjx (by omega), ?_⟩
        rcases (calm_ok hcalm j _ (by rw [List.getElem?_take, if_pos (by omega)]; exact hjx)).2 i x (by rw [List.getElem?_take, if_pos hit]; exact hx) hji with h | h
        · exact h
        · simp only [Nat.zero_add] at h
          have := hbits j h
          rw [this] at hjn; cases hjn.2
      · rw [hx]
        cases pre with
        | nil => exact .inl rfl
        | cons p pre => exact .inr (by simpa using hstill i x hx (hpre p (by simp)))
      · rw [hU2] at hys
        simpa using hys

end Go.Abs
