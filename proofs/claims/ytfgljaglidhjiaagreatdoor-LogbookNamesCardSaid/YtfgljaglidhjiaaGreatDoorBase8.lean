/- The interpreter, part 8: proved sound against the model. -/
import Derived.Test.YtfgljaglidhjiaaGreatDoorBase7
import Derived.Test.YtfgljaglidhjiaaGreatDoorBase5
import Derived.MapKept
import Derived.WideKeyRuns
import Derived.Maps.RangeRun
import Derived.Laws.Build
import Derived.Test.YtfgljaglidhjiaaGreatDoorBase4
import Derived.Test.YtfgljaglidhjiaaGreatDoorBase6
/-
  Operations on maps.
-/
set_option linter.unusedVariables false
set_option linter.unusedSimpArgs false
namespace Go.Abs
open Go

theorem mapD_inv {σ : Stack} {d : D} {l i : Nat} {es : List D} (h : mapD σ d = some (l, i, es)) : d = .yld l i ∧ cells? σ l i 0 = some es := by
  unfold mapD at h
  split at h
  · simp only [Option.map_eq_some_iff, Prod.mk.injEq] at h
    obtain ⟨cs, h1, rfl, rfl, rfl⟩ := h
    exact ⟨rfl, h1⟩
  · cases h
theorem findK_mem {ky : Ky} {k : D} : ∀ {es : List D} {j : Nat} {v : D}, findK ky k es = some (some (j, v)) → ∃ k', es[j]? = some (.tup [k', v]) ∧ keyQ ky k k' = some true
  | [], j, v, h => by simp [findK] at h
  | x :: es, j, v, h => by
    unfold findK at h
    split at h
    · rename_i heq; cases heq
    · rename_i k' v' es' heq
      cases heq
      split at h
      · rename_i hq
        cases h
        exact ⟨k', rfl, hq⟩
      · simp only [Option.map_eq_some_iff] at h
        obtain ⟨x1, h1, x2, rfl, h2⟩ := h
        cases h2
        obtain ⟨j0, v0⟩ := x2
        obtain ⟨k0, h3, h4⟩ := findK_mem h1
        exact ⟨k0, by simpa using h3, h4⟩
      · cases h
    · cases h
section
variable {P : Program} {g : G} {w : World}

theorem eqK_same : ∀ {ks : List (Option IntKind)} {p q : List D}, eqK ks p q = some true → p = q
  | [], p, q, h => by obtain ⟨rfl, rfl, _⟩ := eqK_nil h; rfl
  | some k :: ks, p, q, h => by
    obtain ⟨a, x, c, y, b0, rfl, rfl, h0, hb⟩ := eqK_some h
    simp only [Bool.true_eq, Bool.and_eq_true, beq_iff_eq] at hb
    obtain ⟨rfl, rfl⟩ := hb
    rw [eqK_same h0]
  | none :: ks, p, q, h => by
    obtain ⟨a, x, c, y, b0, rfl, rfl, h0, hb⟩ := eqK_none h
    simp only [Bool.true_eq, Bool.and_eq_true, beq_iff_eq] at hb
    obtain ⟨rfl, rfl⟩ := hb
    rw [eqK_same h0]
theorem eqK_vals (n : Nat) : ∀ {ks : List (Option IntKind)} {p q : List D} {b : Bool}, eqK ks p q = some b → ∀ {xs ys : List Value}, RelL g p xs → RelL g p ys → xs = ys ∧ (xs.zip ys).all (fun z => Instr.sameBits n z.1 z.2) = true
  | [], p, q, b, h, xs, ys, hx, hy => by
    obtain ⟨rfl, rfl, _⟩ := eqK_nil h
    cases hx; cases hy; exact ⟨rfl, rfl⟩
  | some k :: ks, p, q, b, h, xs, ys, hx, hy => by
    obtain ⟨a, x, c, y, b0, rfl, rfl, h0, hb⟩ := eqK_some h
    cases hx with
    | cons _ v1 _ vs1 h1 h2 =>
      cases hy with
      | cons _ v2 _ vs2 h3 h4 =>
        obtain rfl := h1.int_inv
        obtain rfl := h3.int_inv
        obtain ⟨h5, h6⟩ := eqK_vals n h0 h2 h4
        subst h5
        exact ⟨rfl, by simp only [List.zip_cons_cons, List.all_cons, h6, Instr.sameBits, BEq.rfl, Bool.and_self]⟩
  | none :: ks, p, q, b, h, xs, ys, hx, hy => by
    obtain ⟨a, x, c, y, b0, rfl, rfl, h0, hb⟩ := eqK_none h
    cases hx with
    | cons _ v1 _ vs1 h1 h2 =>
      cases hy with
      | cons _ v2 _ vs2 h3 h4 =>
        obtain rfl := h1.bool_inv
        obtain rfl := h3.bool_inv
        obtain ⟨h5, h6⟩ := eqK_vals n h0 h2 h4
        subst h5
        exact ⟨rfl, by simp only [List.zip_cons_cons, List.all_cons, h6, Instr.sameBits, BEq.rfl, Bool.and_self]⟩
theorem ba_inj {a b : ByteArray} (h : a.data.toList = b.data.toList) : a = b := by
  apply ByteArray.ext
  exact Array.toList_inj.1 h

theorem key_same {ky : Ky} {a b : D} {x y : Value} (h : keyQ ky a b = some true) (hx : RelV g a x) (hy : RelV g b y) : x = y ∧ Instr.sameBits 10000 y x = true := by
  unfold keyQ at h
  split at h
  · split at h
    · rename_i s1 s2
      simp only [Option.some.injEq, beq_iff_eq] at h
      subst h
      obtain ⟨b1, rfl, h1⟩ := hx.str_inv
      obtain ⟨b2, rfl, h2⟩ := hy.str_inv
      obtain rfl := ba_inj (h1.trans h2.symm)
      exact ⟨rfl, by rw [Instr.sameBits, beq_toListBytes]; exact beq_self_eq_true _⟩
    · cases h
  · rename_i ag ks
    split at h
    · rename_i p q hp hq
      obtain rfl := eqK_same h
      have h1 := row_rel hx hp
      have h2 := row_rel hy hq
      cases ag with
      | true =>
        simp only [IsRow, if_true] at h1 h2
        obtain ⟨xs, rfl, h3, _⟩ := h1
        obtain ⟨ys, rfl, h4, _⟩ := h2
        obtain ⟨h5, h6⟩ := eqK_vals 9999 h h4 h3
        obtain rfl := Array.toList_inj.1 h5
        exact ⟨rfl, by simp only [Instr.sameBits, BEq.rfl, Bool.true_and]; exact h6⟩
      | false =>
        simp only [IsRow, Bool.false_eq_true, if_false] at h1 h2
        obtain ⟨h5, h6⟩ := eqK_vals 10000 h h2 h1
        simp only [List.cons.injEq, and_true] at h5
        subst h5
        exact ⟨rfl, by simpa using h6⟩
    · cases h

theorem keyC_inv {t : TypeId} {ky : Ky} (h : keyC P t = some ky) : (P.underlying t = some .string ∧ ky = none) ∨ (∃ k, P.underlying t = some (.int k) ∧ ky = some (false, [some k])) ∨
    ∃ fs ks, P.underlying t = some (.struct fs) ∧ kindsC P 20 t = some ks ∧ ky = some (true, ks) ∧ fs.toList.all (fun f => match P.underlying f.type with | some (.int _) => true | some .bool => true | _ => false) = true := by
  unfold keyC at h
  split at h
  · rename_i hu; cases h; exact .inl ⟨hu, rfl⟩
  · rename_i k hu; cases h; exact .inr (.inl ⟨k, hu, rfl⟩)
  · rename_i fs hu
    split at h
    · rename_i hall
      obtain ⟨ks, hks, rfl⟩ := Option.map_eq_some_iff.1 h
      exact .inr (.inr ⟨fs, ks, hu, hks, rfl, hall⟩)
    · cases h
  · cases h

theorem key_equal {t : TypeId} {ky : Ky} (hk : keyC P t = some ky) {a b : D} {c : Bool} {x y : Value} (h : keyQ ky a b = some c) (hx : RelV g a x) (hy : RelV g b y) : (Op.equal t x y).run P w = .ok c w := by
  have key : ∀ ag ks, kindsC P 20 t = some ks → aggC P t = some ag → keyQ (some (ag, ks)) a b = some c → (Op.equal t x y).run P w = .ok c w := by
    intro ag ks hks hag hq
    simp only [keyQ] at hq
    split at hq
    case h_2 => cases hq
    rename_i p q hp hq2
    obtain ⟨ag', hag', _, hEq⟩ := kinds_ok (P := P) (g := g) (w := w) 20 t ks hks
    rw [hag] at hag'; cases hag'
    exact hEq 10000 (by omega) p q x y c (row_rel hx hp) (row_rel hy hq2) hq
  rcases keyC_inv hk with ⟨hu, rfl⟩ | ⟨k, hu, rfl⟩ | ⟨fs, ks, hu, hks, rfl, _⟩
  · simp only [keyQ] at h
    split at h
    case h_2 => cases h
    rename_i s1 s2
    cases h
    obtain ⟨b1, rfl, h1⟩ := hx.str_inv
    obtain ⟨b2, rfl, h2⟩ := hy.str_inv
    have := run_equalIn_string (P := P) w 9999 t b1 b2 hu
    simp only [Op.equal, Op.maxDepth]
    rw [this, ByteArray.toList_eq, ByteArray.toList_eq, h1, h2]
  · exact key false [some k] (by simp [kindsC, hu]) (by simp [aggC, hu]) h
  · exact key true ks hks (by simp [aggC, hu]) h

def Found (ents : List MapEntry) (r : Option (Nat × D)) (g : G) (o : Option (Nat × Value)) (i : Nat) : Prop :=
  match r with
  | none => o = none
  | some (j, v) => ∃ e, ents[j]? = some e ∧ o = some (i + j, e.val) ∧ RelV g v e.val

theorem tup_two {k v : D} {a b : Value} (h : RelV g (.tup [k, v]) (.tuple #[a, b])) : RelV g k a ∧ RelV g v b := by
  cases h with
  | tup _ _ hr =>
    cases hr with
    | cons _ _ _ _ h1 h2 => cases h2 with | cons _ _ _ _ h3 h4 => exact ⟨h1, h3⟩

theorem asking_run {t : TypeId} {ky : Ky} (hk : keyC P t = some ky) {k : D} {x : Value} (hx : RelV g k x) : ∀ (es : List D) (ents : List MapEntry) (r : Option (Nat × D)) (i : Nat), RelL g es (ents.map fun e => .tuple #[e.key, e.val]) → findK ky k es = some r →
    ∃ o, (Instr.findAsking t x ents i).run P w = .ok o w ∧ Found ents r g o i
  | [], ents, r, i, hr, h => by
    cases ents with
    | nil => simp only [findK, Option.some.injEq] at h; subst h; exact ⟨none, by simp [Instr.findAsking], rfl⟩
    | cons e ents => cases hr
  | d :: es, ents, r, i, hr, h => by
    cases ents with
    | nil => cases hr
    | cons e ents =>
      rw [List.map_cons] at hr
      cases hr with
      | cons _ _ _ _ hr1 hr2 =>
      unfold findK at h
      split at h
      · rename_i heq; cases heq
      · rename_i k' v es' heq
        cases heq
        obtain ⟨hk1, hv1⟩ := tup_two hr1
        split at h
        · rename_i hq
          cases h
          have he := key_equal (w := w) hk hq hx hk1
          refine ⟨some (i, e.val), by simp [Instr.findAsking, he], e, rfl, by simp, hv1⟩
        · rename_i hq
          simp only [Option.map_eq_some_iff] at h
          obtain ⟨r1, h1, rfl⟩ := h
          have he := key_equal (w := w) hk hq hx hk1
          obtain ⟨o, ho, hf⟩ := asking_run hk hx es ents r1 (i + 1) hr2 h1
          refine ⟨o, by simp [Instr.findAsking, he, ho], ?_⟩
          cases r1 with
          | none => exact hf
          | some y =>
            obtain ⟨e1, h3, h4, h5⟩ := hf
            exact ⟨e1, by simpa using h3, by rw [h4]; congr 2; omega, h5⟩
        · cases h
      · cases h

theorem now_run {t : TypeId} {ky : Ky} {dsc : TypeDesc} {k : D} {x : Value} (hs : ∀ k' y c, keyQ ky k k' = some c → RelV g k' y → Instr.sameNow dsc x y = some c) : ∀ (es : List D) (ents : List MapEntry) (r : Option (Nat × D)) (i : Nat), RelL g es (ents.map fun e => .tuple #[e.key, e.val]) → findK ky k es = some r →
    ∃ o, Instr.findNow dsc x ents i = some o ∧ Found ents r g o i
  | [], ents, r, i, hr, h => by
    cases ents with
    | nil => simp only [findK, Option.some.injEq] at h; subst h; exact ⟨none, by simp [Instr.findNow], rfl⟩
    | cons e ents => cases hr
  | d :: es, ents, r, i, hr, h => by
    cases ents with
    | nil => cases hr
    | cons e ents =>
      rw [List.map_cons] at hr
      cases hr with
      | cons _ _ _ _ hr1 hr2 =>
      unfold findK at h
      split at h
      · rename_i heq; cases heq
      · rename_i k' v es' heq
        cases heq
        obtain ⟨hk1, hv1⟩ := tup_two hr1
        split at h
        · rename_i hq
          cases h
          exact ⟨some (i, e.val), by simp [Instr.findNow, hs _ _ _ hq hk1], e, rfl, by simp, hv1⟩
        · rename_i hq
          simp only [Option.map_eq_some_iff] at h
          obtain ⟨r1, h1, rfl⟩ := h
          obtain ⟨o, ho, hf⟩ := now_run (t := t) hs es ents r1 (i + 1) hr2 h1
          refine ⟨o, by simp [Instr.findNow, hs _ _ _ hq hk1, ho], ?_⟩
          cases r1 with
          | none => exact hf
          | some y =>
            obtain ⟨e1, h3, h4, h5⟩ := hf
            exact ⟨e1, by simpa using h3, by rw [h4]; congr 2; omega, h5⟩
        · cases h
      · cases h

theorem findKey_run {t : TypeId} {ky : Ky} (hk : keyC P t = some ky) {k : D} {x : Value} (hx : RelV g k x) {es : List D} {ents : List MapEntry} {r : Option (Nat × D)} (hr : RelL g es (ents.map fun e => .tuple #[e.key, e.val])) (h : findK ky k es = some r)
    (hself : (keyQ ky k k).isSome = true) : ∃ o, (Instr.findKey t x ents).run P w = .ok o w ∧ Found ents r g o 0 := by
  rcases keyC_inv hk with ⟨hu, rfl⟩ | ⟨kk, hu, rfl⟩ | ⟨fs, ks, hu, hks, rfl, _⟩
  · obtain ⟨o, h1, h2⟩ := now_run (t := t) (ky := none) (k := k) (x := x) (dsc := .string) (fun k' y c hq hy => by
      simp only [keyQ] at hq
      split at hq
      case h_2 => cases hq
      cases hq
      obtain ⟨b1, rfl, h1⟩ := hx.str_inv
      obtain ⟨b2, rfl, h2⟩ := hy.str_inv
      simp only [Instr.sameNow]
      rw [beq_toListBytes, ByteArray.toList_eq, ByteArray.toList_eq, h1, h2]) es ents r 0 hr h
    exact ⟨o, MapKept.run_findKey hu h1, h2⟩
  · obtain ⟨o, h1, h2⟩ := now_run (t := t) (ky := some (false, [some kk])) (k := k) (x := x) (dsc := .int kk) (fun k' y c hq hy => by
      simp only [keyQ] at hq
      split at hq
      case h_2 => cases hq
      rename_i p q hp hq2
      have hx1 := row_rel hx hp
      have hy1 := row_rel hy hq2
      simp only [IsRow, Bool.false_eq_true, if_false] at hx1 hy1
      obtain ⟨a, xs, b, ys, b0, rfl, rfl, h0, rfl⟩ := eqK_some hq
      obtain ⟨rfl, rfl, rfl⟩ := eqK_nil h0
      cases hx1 with
      | cons _ _ _ _ g1 _ =>
        cases hy1 with
        | cons _ _ _ _ g2 _ =>
          obtain rfl := g1.int_inv
          obtain rfl := g2.int_inv
          simp [Instr.sameNow]) es ents r 0 hr h
    exact ⟨o, MapKept.run_findKey hu h1, h2⟩
  · obtain ⟨o, h1, h2⟩ := asking_run (w := w) hk hx es ents r 0 hr h
    refine ⟨o, ?_, h2⟩
    rw [run_findKey_eq w (by simp [hu])]
    exact h1

theorem checkFields_run (em : Bool) {xs : Array Value} {p : List D} (hx : RelL g p xs.toList) (h1x : ∀ y ∈ xs.toList, y.oneCell' = true) :
    ∀ (fs : List Field) (o : Nat) (ks : List (Option IntKind)) (q : List D) (b : Bool), kindsC.kindsF P (kindsC P 19) o fs = some ks → fs.all (fun f => match P.underlying f.type with | some (.int _) => true | some .bool => true | _ => false) = true →
      eqK ks (p.drop o) q = some b →
      (forIn (m := Sem) fs PUnit.unit fun f _ => do
        if f.name ≠ "_" then Instr.checkKey em 9999 f.type (← part f.type xs f.offset)
        pure (ForInStep.yield PUnit.unit)).run P w = .ok PUnit.unit w
  | [], o, ks, q, b, hk, ha, he => by simp
  | f :: fs, o, ks, q, b, hk, ha, he => by
    simp only [kindsC.kindsF] at hk
    split at hk
    case h_2 => cases hk
    rename_i k1 hk1
    split at hk
    case isFalse => cases hk
    rename_i hc
    obtain ⟨hname, hoff, hsz, hpos⟩ := hc
    simp only [Option.map_eq_some_iff] at hk
    obtain ⟨k2, hk2, rfl⟩ := hk
    simp only [List.all_cons, Bool.and_eq_true] at ha
    obtain ⟨l1, l2⟩ := eqK_len _ _ _ _ he
    obtain ⟨b1, b2, e1, e2, rfl⟩ := eqK_append _ _ _ _ _ he
    simp only [List.length_append, List.length_drop] at l1 l2
    have ih := checkFields_run em hx h1x fs (o + k1.length) k2 (q.drop k1.length) b2 hk2 ha.2 (by simpa [List.drop_drop] using e2)
    have one : ∃ a, (part f.type xs o).run P w = .ok a w ∧ (Instr.checkKey em 9999 f.type a).run P w = .ok () w := by
      have h0 := ha.1
      split at h0
      · rename_i k hu
        have hk1' : k1 = [some k] := by simp [kindsC, hu] at hk1; exact hk1.symm
        subst hk1'
        obtain ⟨a, hpa, hra⟩ := part_at (P := P) (w := w) (ag := false) (n := 1) (o := o) (by simp [aggC, hu]) hsz (fun _ => rfl) hx h1x (by simp only [List.length_cons, List.length_nil] at l1 ⊢; omega)
        simp only [IsRow, Bool.false_eq_true, if_false] at hra
        obtain ⟨a0, x0, c0, y0, b0, e3, _, _, _⟩ := eqK_some e1
        simp only [List.length_cons, List.length_nil, Nat.zero_add] at e3
        rw [e3] at hra
        cases hra with
        | cons _ _ _ _ g1 g2 =>
          obtain rfl := g1.int_inv
          exact ⟨_, hpa, MapKept.run_checkKey (d := .int k) hu (by simp [MapKept.IsKey]) em 9998⟩
      · rename_i hu
        have hk1' : k1 = [none] := by simp [kindsC, hu] at hk1; exact hk1.symm
        subst hk1'
        obtain ⟨a, hpa, hra⟩ := part_at (P := P) (w := w) (ag := false) (n := 1) (o := o) (by simp [aggC, hu]) hsz (fun _ => rfl) hx h1x (by simp only [List.length_cons, List.length_nil] at l1 ⊢; omega)
        simp only [IsRow, Bool.false_eq_true, if_false] at hra
        obtain ⟨a0, x0, c0, y0, b0, e3, _, _, _⟩ := eqK_none e1
        simp only [List.length_cons, List.length_nil, Nat.zero_add] at e3
        rw [e3] at hra
        cases hra with
        | cons _ _ _ _ g1 g2 =>
          obtain rfl := g1.bool_inv
          exact ⟨_, hpa, MapKept.run_checkKey (d := .bool) hu (by simp [MapKept.IsKey]) em 9998⟩
      · cases h0
    obtain ⟨a, h1, h2⟩ := one
    rw [List.forIn_cons]
    rw [hoff]
    simp only [hname, ne_eq, not_false_eq_true, if_true, Sem.run_bind, h1, h2, Result.andThen_ok, Sem.run_pure]
    exact ih

theorem checkKey_run {t : TypeId} {ky : Ky} (hk : keyC P t = some ky) {k : D} {x : Value} (hx : RelV g k x) (hself : (keyQ ky k k).isSome = true) (em : Bool) : (Instr.checkKey em 10000 t x).run P w = .ok () w := by
  rcases keyC_inv hk with ⟨hu, rfl⟩ | ⟨kk, hu, rfl⟩ | ⟨fs, ks, hu, hks, rfl, hall⟩
  · refine MapKept.run_checkKey (d := .string) hu ?_ em 9999
    obtain ⟨c, hc⟩ := Option.isSome_iff_exists.1 hself
    simp only [keyQ] at hc
    split at hc
    case h_2 => cases hc
    obtain ⟨b1, rfl, h1⟩ := hx.str_inv
    simp [MapKept.IsKey]
  · refine MapKept.run_checkKey (d := .int kk) hu ?_ em 9999
    obtain ⟨c, hc⟩ := Option.isSome_iff_exists.1 hself
    simp only [keyQ] at hc
    split at hc
    case h_2 => cases hc
    rename_i p q hp hq2
    have hx1 := row_rel hx hp
    simp only [IsRow, Bool.false_eq_true, if_false] at hx1
    obtain ⟨a, xs, b, ys, b0, rfl, _, h0, rfl⟩ := eqK_some hc
    obtain ⟨rfl, _, rfl⟩ := eqK_nil h0
    cases hx1 with
    | cons _ _ _ _ g1 _ =>
      obtain rfl := g1.int_inv
      simp [MapKept.IsKey]
  · obtain ⟨c, hc⟩ := Option.isSome_iff_exists.1 hself
    simp only [keyQ] at hc
    split at hc
    case h_2 => cases hc
    rename_i p q hp hq2
    have hx1 := row_rel hx hp
    simp only [IsRow, if_true] at hx1
    obtain ⟨xs, rfl, hxr, h1x⟩ := hx1
    have hks' : kindsC.kindsF P (kindsC P 19) 0 fs.toList = some ks := by
      have := hks
      rw [kindsC, hu] at this
      dsimp only at this
      split at this
      · cases this
      · exact this
    have hrun := checkFields_run (P := P) (w := w) em hxr h1x fs.toList 0 ks q c hks' hall (by simpa using hc)
    rw [show (10000 : Nat) = 9999 + 1 from rfl, Instr.checkKey]
    simp only [Sem.run_bind, run_underlying hu, Result.andThen_ok]
    rw [← Array.forIn_toList]
    simp at hrun ⊢
    rw [hrun]
    rfl
end

section
variable {P : Program} {CR : CRel} {base fb : Nat} {V : List Nat} {g : G} {σ σ' : Stack} {w : World} {B : Nat → Nat} {e : Env} {tmps : Array Value} {df : List Deferred} {d : D}

theorem Inv.newMap (hi : Inv CR base g σ w) {l i : Nat} (hn : newBlk σ (.cells 0 []) = some (l, i, σ')) :
    Inv CR base (g.setLoc l i (.mp w.heap.size)) σ' (w.alloc (.map #[] 0)) ∧ Ev g w (g.setLoc l i (.mp w.heap.size)) (w.alloc (.map #[] 0)) := by
  obtain ⟨h1, h2, h3, _, _⟩ := newBlk_spec hn
  have hnone := hi.none_of h1
  have hle : g.le (g.setLoc l i (.mp w.heap.size)) := G.le_setLoc fun L0 e => by rw [hnone] at e; cases e
  refine ⟨hi.turn l i hle h3 (fun l' i' c => G.setLoc_other c) (fun l' i' L b c e eb => alloc_old (hi.lo l' i' L b e eb).2) ?_ ?_ ?_ ?_ (by simp) ⟨_, G.setLoc_same⟩ (fun b v hb => alloc_old (hi.imm_lt hb)), ⟨hle, rfl, rfl, rfl, by simp, fun b hb _ => alloc_old hb, ?_, fun b o v hv => .inl hv⟩⟩
  · intro L e
    rw [G.setLoc_same] at e; cases e
    exact ⟨_, h2, rfl, #[], 0, alloc_new, .nil, by simp [MapOk]⟩
  · intro b o v e
    obtain ⟨h1, h2⟩ := hi.imm b o v e
    exact ⟨(cell?_congr (alloc_old (hi.imm_lt e))).trans h1, h2⟩
  · intro l' i' L b e eb o
    by_cases c : l' = l ∧ i' = i
    · obtain ⟨rfl, rfl⟩ := c
      rw [G.setLoc_same] at e; cases e; cases eb
      cases e' : (g.setLoc l' i' (.mp w.heap.size)).imm w.heap.size o with
      | none => rfl
      | some v => have := hi.imm_lt (b := w.heap.size) (o := o) (v := v) e'; omega
    · rw [G.setLoc_other c] at e; exact hi.sep l' i' L b e eb o
  · intro L b e eb
    rw [G.setLoc_same] at e; cases e; cases eb
    refine ⟨hi.ge, by simp, fun l' i' L' c e' eb' => ?_⟩
    have := (hi.lo l' i' L' _ e' eb').2; omega
  · intro b hb
    obtain ⟨l', i', L, e, eb⟩ := hb
    by_cases c : l' = l ∧ i' = i
    · obtain ⟨rfl, rfl⟩ := c
      rw [G.setLoc_same] at e; cases e; cases eb; exact .inr (Nat.le_refl _)
    · rw [G.setLoc_other c] at e; exact .inl ⟨l', i', L, e, eb⟩

theorem Inv.newBld (hi : Inv CR base g σ w) {l i T ee : Nat} (hn : newBlk σ (.cells 2 [.int .i64 (T : Nat), .int .i64 (ee : Nat), .str []]) = some (l, i, σ')) :
    Inv CR base (g.setLoc l i (.ob w.heap.size none)) σ' (w.alloc (.cells #[.pointer none, .slice none 0 0] T)) ∧ Ev g w (g.setLoc l i (.ob w.heap.size none)) (w.alloc (.cells #[.pointer none, .slice none 0 0] T)) := by
  obtain ⟨h1, h2, h3, _, _⟩ := newBlk_spec hn
  have hnone := hi.none_of h1
  have hle : g.le (g.setLoc l i (.ob w.heap.size none)) := G.le_setLoc fun L0 e => by rw [hnone] at e; cases e
  have hown : ∀ b, (Loc.ob w.heap.size none).owns b → w.heap.size = b := fun b h => by
    rcases h with h | h
    · exact h
    · cases h
  refine ⟨hi.turn l i hle h3 (fun l' i' c => G.setLoc_other c) (fun l' i' L b c e eb => alloc_old (hi.lo l' i' L b e eb).2) ?_ ?_ ?_ ?_ (by simp) ⟨_, G.setLoc_same⟩ (fun b v hb => alloc_old (hi.imm_lt hb)), ⟨hle, rfl, rfl, rfl, by simp, fun b hb _ => alloc_old hb, ?_, fun b o v hv => .inl hv⟩⟩
  · intro L e
    rw [G.setLoc_same] at e; cases e
    exact ⟨_, h2, rfl, T, ee, [], .pointer none, .slice none 0 0, rfl, alloc_new, .inl rfl, World.ownsRowF_nil _ _ _ _, rfl, by simp⟩
  · intro b o v e
    obtain ⟨h1, h2⟩ := hi.imm b o v e
    exact ⟨(cell?_congr (alloc_old (hi.imm_lt e))).trans h1, h2⟩
  · intro l' i' L b e eb o
    by_cases c : l' = l ∧ i' = i
    · obtain ⟨rfl, rfl⟩ := c
      rw [G.setLoc_same] at e; cases e; obtain rfl := hown b eb
      cases e' : (g.setLoc l' i' (.ob w.heap.size none)).imm w.heap.size o with
      | none => rfl
      | some v => have := hi.imm_lt (b := w.heap.size) (o := o) (v := v) e'; omega
    · rw [G.setLoc_other c] at e; exact hi.sep l' i' L b e eb o
  · intro L b e eb
    rw [G.setLoc_same] at e; cases e; obtain rfl := hown b eb
    refine ⟨hi.ge, by simp, fun l' i' L' c e' eb' => ?_⟩
    have := (hi.lo l' i' L' _ e' eb').2; omega
  · intro b hb
    obtain ⟨l', i', L, e, eb⟩ := hb
    by_cases c : l' = l ∧ i' = i
    · obtain ⟨rfl, rfl⟩ := c
      rw [G.setLoc_same] at e; cases e; obtain rfl := hown b eb; exact .inr (Nat.le_refl _)
    · rw [G.setLoc_other c] at e; exact .inl ⟨l', i', L, e, eb⟩

theorem Inv.setMap (hi : Inv CR base g σ w) {l i b : Nat} {b0 : Blk} {es : List D} (hL : g.loc l i = some (.mp b)) (hb : blk? σ l i = some b0) {ents : Array MapEntry} {clock : Nat}
    (hr : RelL g es (ents.toList.map fun e => .tuple #[e.key, e.val])) (hm : MapOk ents.toList clock) {w' : World} (hw : w' = { w with heap := w.heap.setIfInBounds b (.map ents clock) }) :
    Inv CR base (g.setLoc l i (.mp b)) (setBlk σ l i (.cells 0 es)) w' ∧ Ev g w (g.setLoc l i (.mp b)) w' := by
  subst hw
  have hlt := (hi.lo l i _ b hL rfl).2
  have hle : g.le (g.setLoc l i (.mp b)) := G.le_setLoc fun L0 e => by rw [hL] at e; cases e; exact Loc.le_refl _
  refine hi.setCells hL hb (Loc.le_refl _) ⟨rfl, ents, clock, by simp [hlt], hr.mono hle, hm⟩ (fun b' hb' hne => ?_) rfl rfl rfl (by simp) (fun b' hb' => .inl hb')
  have : b ≠ b' := fun hh => hne (by rw [hh]; rfl)
  simp [this]

theorem mapD_rel (hi : Inv CR base g σ w) {m : D} {c : Value} (hr : RelV g m c) {l i : Nat} {es : List D} (h : mapD σ m = some (l, i, es)) :
    ∃ b ents clock v, c = .map (some b) ∧ g.loc l i = some (.mp b) ∧ blk? σ l i = some (.cells v es) ∧ w.heap[b]? = some (.map ents clock) ∧ RelL g es (ents.toList.map fun e => .tuple #[e.key, e.val]) ∧ MapOk ents.toList clock := by
  obtain ⟨rfl, hcs⟩ := mapD_inv h
  unfold cells? at hcs
  split at hcs
  case h_2 => cases hcs
  rename_i v' cs' hblk
  split at hcs
  case isFalse => cases hcs
  cases hcs
  cases hr with
  | yld _ _ b hl =>
    obtain ⟨b0, hb0, hrel⟩ := hi.dom l i _ hl
    rw [hblk] at hb0; cases hb0
    exact hrel.elim
  | mpv _ _ b hl =>
    obtain ⟨b0, hb0, hrel⟩ := hi.dom l i _ hl
    rw [hblk] at hb0; cases hb0
    obtain ⟨_, ents, clock, h1, h2, h3⟩ := hrel
    exact ⟨b, ents, clock, v', rfl, hl, hblk, h1, h2, h3⟩
  | itv _ _ b L hl hc =>
    obtain ⟨b0, hb0, hrel⟩ := hi.dom l i _ hl
    rw [hblk] at hb0; cases hb0
    rcases hc with rfl | rfl
    · rename_i hv0
      obtain ⟨hv1, _⟩ := hrel
      omega
    · exact hrel.elim
  | bdv _ _ b L hl hc =>
    obtain ⟨b0, hb0, hrel⟩ := hi.dom l i _ hl
    rw [hblk] at hb0; cases hb0
    rcases hc with ⟨c, rfl⟩ | rfl
    · rename_i hv0
      obtain ⟨hv1, _⟩ := hrel
      omega
    · exact hrel.elim

theorem s_mkm (hi : Inv CR base g σ w) {t : TypeId} {ρ : Operand → Value} (h : sop e σ (.mp .make []) = some (d, σ')) (o : Oper) (ho : o.op = .makeMap t none) : Does P CR base g w B e ρ o d σ' := by
  simp only [sop, List.map_nil, mpD, Option.map_eq_some_iff, Prod.mk.injEq, Prod.exists] at h
  obtain ⟨l, i, σ1, hn, rfl, rfl⟩ := h
  obtain ⟨i1, e1⟩ := hi.newMap hn
  exact .val (.map (some w.heap.size)) (by
    have hrun : (Instr.makeMap t none).run P w = .ok (.map (some w.heap.size)) (w.alloc (.map #[] 0)) := rfl
    simp only [execOp, ho, Option.map_none, Sem.run_bind, hrun, Result.andThen_ok, Sem.run_pure]) e1 i1 (.mpv l i _ G.setLoc_same)

theorem s_mkb (hi : Inv CR base g σ w) {el ee : TypeId} {ρ : Operand → Value} (hz : zeroC P el = some [.nilp, .nils])
    (h : sop e σ (.mp (.bld el ee) []) = some (d, σ')) (o : Oper) (ho : o.op = .alloc el) : Does P CR base g w B e ρ o d σ' := by
  obtain ⟨i0, v, hinfo, hzero, hrz, h1⟩ := zeroC_rel g hz
  simp only [sop, List.map_nil, mpD, Option.map_eq_some_iff, Prod.mk.injEq, Prod.exists] at h
  obtain ⟨l, i, σ1, hn, rfl, rfl⟩ := h
  obtain ⟨i1, e1⟩ := hi.newBld hn
  have hv : v.cells = #[.pointer none, .slice none 0 0] := by
    generalize v.cells = a at hrz
    obtain ⟨a⟩ := a
    dsimp only at hrz
    cases hrz with
    | cons _ c _ cs k1 k2 =>
      cases k2 with
      | cons _ c2 _ cs2 k3 k4 =>
        cases k4
        cases k1
        cases k3
        rfl
  have hrun := run_alloc (w := w) hinfo hzero
  rw [hv] at hrun
  exact .val (.pointer (some ⟨w.heap.size, 0, none⟩)) (by simp [execOp, ho, hrun]) e1 i1 (.bdv l i _ _ G.setLoc_same (.inl ⟨_, rfl⟩))

theorem s_mkm2 (hi : Inv CR base g σ w) {t kt et : TypeId} {ik : IntKind} {n : Int} (h : sop e σ (.mp .make []) = some (d, σ')) (ht : P.underlying t = some (.map kt et)) (o : Oper) (ho : o.op = .makeMap t (some (.const (.int ik n)))) : Does P CR base g w B e (Act.mk tmps df).eval o d σ' := by
  simp only [sop, List.map_nil, mpD, Option.map_eq_some_iff, Prod.mk.injEq, Prod.exists] at h
  obtain ⟨l, i, σ1, hn, rfl, rfl⟩ := h
  obtain ⟨i1, e1⟩ := hi.newMap hn
  exact .val (.map (some w.heap.size)) (by
    have hrun : (Instr.makeMap t (some (.int ik n))).run P w = .ok (.map (some w.heap.size)) (w.alloc (.map #[] 0)) := by
      simp only [Instr.makeMap, Sem.run_bind, run_under ht, Result.andThen_ok]; rfl
    have hev : (Act.mk tmps df).eval (.const (.int ik n)) = .int ik n := rfl
    simp only [execOp, ho, Option.map_some, hev, Sem.run_bind, hrun, Result.andThen_ok, Sem.run_pure]) e1 i1 (.mpv l i _ G.setLoc_same)

theorem s_mlen (hf : Fr fb V g w B e tmps) (hi : Inv CR base g σ w) {x : Operand} {X : Opd} {t kt et : TypeId} {args : Array Operand} {ts : Array TypeId} {r : List Operand} {tr : List TypeId} (hx : opdC x = some X)
    (ht : P.underlying t = some (.map kt et)) (ha : args.toList = x :: r) (hts : ts.toList = t :: tr)
    (h : sop e σ (.mp .len [X]) = some (d, σ')) (o : Oper) (ho : o.op = .call { callee := .builtin .len, args, argTypes := ts }) : Does P CR base g w B e (Act.mk tmps df).eval o d σ' := by
  have hr := hf.opd (df := df) hx
  obtain rfl : args = (x :: r).toArray := by rw [← ha]
  obtain rfl : ts = (t :: tr).toArray := by rw [← hts]
  simp only [sop, List.map_cons, List.map_nil, mpD, Option.map_eq_some_iff, Prod.mk.injEq, Prod.exists] at h
  obtain ⟨l, i, es, hm, rfl, rfl⟩ := h
  obtain ⟨b, ents, clock, v, hc, hl, hblk, hheap, hrel, hok⟩ := mapD_rel hi hr hm
  have hlen := hrel.length
  simp only [List.length_map, Array.length_toList] at hlen
  refine .pure hi (c := .int .i64 ents.size) ?_ (by rw [hlen]; exact RelT.of (.int _ _))
  simp [execOp, ho, resolve, invoke, builtin, Builtin.len_, hc, run_under ht, goInt, MapKept.run_getObj_map hheap]

theorem zvC_rel {t : TypeId} {z : D} (g : G) (h : zvC P t = some z) : ∃ i v, P.info? t = some i ∧ i.zero = some v ∧ RelV g z v := by
  unfold zvC at h
  split at h
  · rename_i i hi
    split at h
    · rename_i v hv
      exact ⟨i, v, hi, hv, constD_rel g h⟩
    · cases h
  · cases h

theorem s_mget (hf : Fr fb V g w B e tmps) (hi : Inv CR base g σ w) {x y : Operand} {X Y : Opd} {t kt et : TypeId} {ky : Ky} {z : D} {ok : Bool} (hx : opdC x = some X) (hy : opdC y = some Y)
    (ht : P.underlying t = some (.map kt et)) (hk : keyC P kt = some ky) (hz : zvC P et = some z)
    (h : sop e σ (.mp (.get ky z ok) [X, Y]) = some (d, σ')) (o : Oper) (ho : o.op = .lookup t x y ok) : Does P CR base g w B e (Act.mk tmps df).eval o d σ' := by
  have hr := hf.opd (df := df) hx
  have hr' := hf.opd (df := df) hy
  simp only [sop, List.map_cons, List.map_nil, mpD] at h
  split at h
  case h_2 => cases h
  rename_i l i es hm
  split at h
  case isFalse => cases h
  rename_i hself
  obtain ⟨b, ents, clock, v, hc, hl, hblk, hheap, hrel, hok⟩ := mapD_rel hi hr hm
  have hck := checkKey_run (w := w) hk hr' hself ents.isEmpty
  obtain ⟨iz, zv, hz1, hz2, hz3⟩ := zvC_rel g hz
  split at h
  · rename_i j v1 hfk
    cases h
    obtain ⟨o1, ho1, e1, _, rfl, hv1⟩ := findKey_run (w := w) hk hr' hrel hfk hself
    cases ok
    · refine .pure hi (c := e1.val) ?_ (RelT.of (by simpa using hv1))
      simp [execOp, ho, Instr.lookup, run_under ht, hc, MapKept.run_getObj_map hheap, hck, ho1]
    · refine .pure hi (c := .tuple #[e1.val, .bool true]) ?_ (RelT.of (by simpa using RelV.tup _ #[e1.val, .bool true] (.cons _ _ _ _ hv1 (.cons _ _ _ _ (.bool true) .nil))))
      simp [execOp, ho, Instr.lookup, run_under ht, hc, MapKept.run_getObj_map hheap, hck, ho1]
  · rename_i hfk
    cases h
    obtain ⟨o1, ho1, hf1⟩ := findKey_run (w := w) hk hr' hrel hfk hself
    obtain rfl : o1 = none := hf1
    cases ok
    · refine .pure hi (c := zv) ?_ (RelT.of (by simpa using hz3))
      simp [execOp, ho, Instr.lookup, run_under ht, hc, MapKept.run_getObj_map hheap, hck, ho1, run_zeroValue hz1 hz2]
    · refine .pure hi (c := .tuple #[zv, .bool false]) ?_ (RelT.of (by simpa using RelV.tup _ #[zv, .bool false] (.cons _ _ _ _ hz3 (.cons _ _ _ _ (.bool false) .nil))))
      simp [execOp, ho, Instr.lookup, run_under ht, hc, MapKept.run_getObj_map hheap, hck, ho1, run_zeroValue hz1 hz2]
  · cases h

theorem RelL.set {g : G} : ∀ {ds : List D} {cs : List Value} {j : Nat} {d : D} {c : Value}, RelL g ds cs → RelV g d c → RelL g (ds.set j d) (cs.set j c)
  | [], [], _, _, _, _, _ => by simpa using RelL.nil
  | _ :: _, _ :: _, 0, _, _, .cons _ _ _ _ h1 h2, h => .cons _ _ _ _ h h2
  | _ :: _, _ :: _, j + 1, _, _, .cons _ _ _ _ h1 h2, h => .cons _ _ _ _ h1 (h2.set h)

theorem s_mput (hf : Fr fb V g w B e tmps) (hi : Inv CR base g σ w) {x y u : Operand} {X Y U : Opd} {t kt et : TypeId} {ky : Ky} (hx : opdC x = some X) (hy : opdC y = some Y) (hu : opdC u = some U)
    (ht : P.underlying t = some (.map kt et)) (hk : keyC P kt = some ky)
    (h : sop e σ (.mp (.put ky) [X, Y, U]) = some (d, σ')) (o : Oper) (ho : o.op = .mapUpdate t x y u ∨ o.op = .insert t x y u) : Does P CR base g w B e (Act.mk tmps df).eval o d σ' := by
  have hr := hf.opd (df := df) hx
  have hr' := hf.opd (df := df) hy
  have hru := hf.opd (df := df) hu
  simp only [sop, List.map_cons, List.map_nil, mpD] at h
  split at h
  case h_2 => cases h
  rename_i l i es hm
  split at h
  case isFalse => cases h
  rename_i hself
  obtain ⟨b, ents, clock, v, hc, hl, hblk, hheap, hrel, hok⟩ := mapD_rel hi hr hm
  have hck := checkKey_run (w := w) hk hr' hself.1 false
  generalize hkv : (Act.mk tmps df).eval y = kv at *
  generalize huv : (Act.mk tmps df).eval u = uv at *
  have hnew : RelV g (.tup [opd e Y, opd e U]) (.tuple #[kv, uv]) := .tup _ _ (.cons _ _ _ _ hr' (.cons _ _ _ _ hru .nil))
  split at h
  · rename_i j v1 hfk
    cases h
    obtain ⟨o1, ho1, e1, he1, rfl, hv1⟩ := findKey_run (w := w) hk hr' hrel hfk hself.1
    obtain ⟨k', hk', hkq⟩ := findK_mem hfk
    have hj : ents[j]? = some e1 := by simpa using he1
    have hold : RelV g k' e1.key := by
      obtain ⟨c0, hc0, hr0⟩ := hrel.get hk'
      rw [List.getElem?_map, he1] at hc0
      cases hc0
      exact (tup_two hr0).1
    obtain ⟨hsame, hbits⟩ := key_same hkq hr' hold
    have hlist : (ents.modify j fun e => { e with key := kv, val := uv }).toList = ents.toList.set j { e1 with key := kv, val := uv } := by
      rw [Array.toList_modify]
      apply List.ext_getElem?
      intro n
      rw [List.getElem?_modify, List.getElem?_set]
      by_cases hn : j = n
      · subst hn
        have hlt := (List.getElem?_eq_some_iff.1 he1).1
        have hlt2 : j < ents.size := by simpa using hlt
        have hje : ents[j] = e1 := (Array.getElem?_eq_some_iff.1 hj).2
        simp [he1, hlt2, hje]
      · simp [hn]
    obtain ⟨i1, ev1⟩ := hi.setMap (es := es.set j (.tup [opd e Y, opd e U])) (ents := ents.modify j fun e => { e with key := kv, val := uv }) (clock := clock) (w' := { w with heap := w.heap.setIfInBounds b (.map (ents.modify j fun e => { e with key := kv, val := uv }) clock) }) hl hblk (by
        rw [hlist, List.map_set]; exact hrel.set hnew) (by
        have hlt := (List.getElem?_eq_some_iff.1 he1)
        rw [hlist]
        refine ⟨?_, by rw [List.length_set]; exact hok.2⟩
        rw [List.map_set, List.length_set]
        have : (ents.toList.map (·.born)).set j e1.born = ents.toList.map (·.born) := by
          apply List.ext_getElem?
          intro n
          rw [List.getElem?_set]
          by_cases hn : j = n
          · subst hn
            have hlt2 : j < ents.size := by simpa using hlt.1
            have hje : ents[j] = e1 := (Array.getElem?_eq_some_iff.1 hj).2
            simp [he1, hlt2, hje]
          · simp [hn]
        rw [this]; exact hok.1) rfl
    refine ⟨.skip, Go.undef, _, _, ?_, rfl, ev1, i1, .undef _⟩
    have hkts : ∀ w : World, (Instr.keyThatStays e1.key kv).run P w = .ok kv w := fun w => by simp [Instr.keyThatStays, hbits]
    rcases ho with ho | ho <;> simp [execOp, ho, Instr.mapUpdate, run_under ht, hc, hkv, huv, MapKept.run_getObj_map hheap, hck, ho1, hj, hkts, MapKept.run_setObj_map _ hheap]
  · rename_i hfk
    cases h
    obtain ⟨o1, ho1, hf1⟩ := findKey_run (w := w) hk hr' hrel hfk hself.1
    obtain rfl : o1 = none := hf1
    obtain ⟨i1, ev1⟩ := hi.setMap (es := es ++ [.tup [opd e Y, opd e U]]) (ents := ents.push { key := kv, val := uv, born := clock }) (clock := clock + 1) (w' := { w with heap := w.heap.setIfInBounds b (.map (ents.push { key := kv, val := uv, born := clock }) (clock + 1)) }) hl hblk (by
        rw [Array.toList_push, List.map_append]; exact hrel.append (.cons _ _ _ _ hnew .nil)) (by
        rw [Array.toList_push]
        have h2 := hok.2
        refine ⟨?_, by simp only [List.length_append, List.length_cons, List.length_nil]; omega⟩
        rw [List.map_append, hok.1, List.length_append, List.length_cons, List.length_nil, Nat.zero_add, List.range_succ]
        simp only [List.map_cons, List.map_nil, h2]) rfl
    refine ⟨.skip, Go.undef, _, _, ?_, rfl, ev1, i1, .undef _⟩
    rcases ho with ho | ho <;> simp [execOp, ho, Instr.mapUpdate, run_under ht, hc, hkv, huv, MapKept.run_getObj_map hheap, hck, ho1, MapKept.run_setObj_map _ hheap]
  · cases h

theorem Inv.newIter (hi : Inv CR base g σ w) {l i lm im bm n : Nat} (hn : newBlk σ (.cells 1 [.yld lm im, .int .i64 (n : Nat)]) = some (l, i, σ')) (hm : g.loc lm im = some (.mp bm)) :
    Inv CR base (g.setLoc l i (.it w.heap.size)) σ' (w.alloc (.mapIter (some bm) n #[] n)) ∧ Ev g w (g.setLoc l i (.it w.heap.size)) (w.alloc (.mapIter (some bm) n #[] n)) := by
  obtain ⟨h1, h2, h3, _, _⟩ := newBlk_spec hn
  have hnone := hi.none_of h1
  have hle : g.le (g.setLoc l i (.it w.heap.size)) := G.le_setLoc fun L0 e => by rw [hnone] at e; cases e
  refine ⟨hi.turn l i hle h3 (fun l' i' c => G.setLoc_other c) (fun l' i' L b c e eb => alloc_old (hi.lo l' i' L b e eb).2) ?_ ?_ ?_ ?_ (by simp) ⟨_, G.setLoc_same⟩ (fun b v hb => alloc_old (hi.imm_lt hb)), ⟨hle, rfl, rfl, rfl, by simp, fun b hb _ => alloc_old hb, ?_, fun b o v hv => .inl hv⟩⟩
  · intro L e
    rw [G.setLoc_same] at e; cases e
    have hm2 : (g.setLoc l i (.it w.heap.size)).loc lm im = some (.mp bm) := by
      rw [G.setLoc_other fun hh => by rw [hh.1, hh.2, hnone] at hm; cases hm]
      exact hm
    exact ⟨_, h2, rfl, lm, im, bm, n, [], rfl, hm2, alloc_new, List.nodup_nil, by simp⟩
  · intro b o v e
    obtain ⟨h1, h2⟩ := hi.imm b o v e
    exact ⟨(cell?_congr (alloc_old (hi.imm_lt e))).trans h1, h2⟩
  · intro l' i' L b e eb o
    by_cases c : l' = l ∧ i' = i
    · obtain ⟨rfl, rfl⟩ := c
      rw [G.setLoc_same] at e; cases e; cases eb
      cases e' : (g.setLoc l' i' (.it w.heap.size)).imm w.heap.size o with
      | none => rfl
      | some v => have := hi.imm_lt (b := w.heap.size) (o := o) (v := v) e'; omega
    · rw [G.setLoc_other c] at e; exact hi.sep l' i' L b e eb o
  · intro L b e eb
    rw [G.setLoc_same] at e; cases e; cases eb
    refine ⟨hi.ge, by simp, fun l' i' L' c e' eb' => ?_⟩
    have := (hi.lo l' i' L' _ e' eb').2; omega
  · intro b hb
    obtain ⟨l', i', L, e, eb⟩ := hb
    by_cases c : l' = l ∧ i' = i
    · obtain ⟨rfl, rfl⟩ := c
      rw [G.setLoc_same] at e; cases e; cases eb; exact .inr (Nat.le_refl _)
    · rw [G.setLoc_other c] at e; exact .inl ⟨l', i', L, e, eb⟩

theorem s_rng (hf : Fr fb V g w B e tmps) (hi : Inv CR base g σ w) {x : Operand} {X : Opd} {t kt et : TypeId} (hx : opdC x = some X) (ht : P.underlying t = some (.map kt et))
    (h : sop e σ (.mp .rng [X]) = some (d, σ')) (o : Oper) (ho : o.op = .range t x) : Does P CR base g w B e (Act.mk tmps df).eval o d σ' := by
  have hr := hf.opd (df := df) hx
  simp only [sop, List.map_cons, List.map_nil, mpD] at h
  split at h
  case h_2 => cases h
  rename_i lm im es hm
  obtain ⟨b, ents, clock, v, hc, hl, hblk, hheap, hrel, hok⟩ := mapD_rel hi hr hm
  simp only [Option.map_eq_some_iff, Prod.mk.injEq, Prod.exists] at h
  obtain ⟨l, i, σ1, hn, rfl, rfl⟩ := h
  have hlen := hrel.length
  simp only [List.length_map] at hlen
  have hck : clock = es.length := by rw [hlen]; exact hok.2
  obtain ⟨i1, e1⟩ := hi.newIter hn hl
  have hrun := run_range_map (P := P) w t kt et b ents clock ht hheap
  rw [hck] at hrun
  exact .val (.pointer (some ⟨w.heap.size, 0, none⟩)) (by simp [execOp, ho, hc, hrun]) e1 i1 (.itv l i _ _ G.setLoc_same (.inl rfl))

theorem s_ent (hf : Fr fb V g w B e tmps) (hi : Inv CR base g σ w) {x : Operand} {X : Opd} (hx : opdC x = some X)
    (h : sop e σ (.mp .ent [X]) = some (d, σ')) (o : Oper) (ho : o.op = .entry x) : Does P CR base g w B e (Act.mk tmps df).eval o d σ' := by
  have hr := hf.opd (df := df) hx
  simp only [sop, List.map_cons, List.map_nil] at h
  generalize opd e X = dx at hr h
  cases dx <;> simp only [mpD, reduceCtorEq] at h
  rename_i l i
  split at h
  case h_2 => cases h
  rename_i m n j rest hcs
  split at h
  case h_2 => cases h
  rename_i lm im es hm
  split at h
  case isFalse => cases h
  rename_i hlen
  split at h
  case h_2 => cases h
  rename_i k v hj
  cases h
  unfold cells? at hcs
  split at hcs
  case h_2 => cases hcs
  rename_i v' cs' hblk
  split at hcs
  case isFalse => cases hcs
  rename_i hv1
  cases hcs
  generalize hcv : (Act.mk tmps df).eval x = cv at hr
  cases hr with
  | yld _ _ b hl =>
    obtain ⟨b0, hb0, hrel⟩ := hi.dom l i _ hl
    rw [hblk] at hb0; cases hb0
    exact hrel.elim
  | mpv _ _ b hl =>
    obtain ⟨b0, hb0, hrel⟩ := hi.dom l i _ hl
    rw [hblk] at hb0; cases hb0
    have := hrel.1
    omega
  | bdv _ _ b L hl hc =>
    obtain ⟨b0, hb0, hrel⟩ := hi.dom l i _ hl
    rw [hblk] at hb0; cases hb0
    rcases hc with ⟨c, rfl⟩ | rfl
    · have := hrel.1
      omega
    · exact hrel.elim
  | itv _ _ b L hl hc =>
    obtain ⟨b0, hb0, hrel⟩ := hi.dom l i _ hl
    rw [hblk] at hb0; cases hb0
    rcases hc with rfl | rfl
    rotate_left
    · exact hrel.elim
    obtain ⟨_, lm', im', bm, n', js, hcs, hlm, hheap, hnd, hlt⟩ := hrel
    cases js with
    | nil => simp at hcs
    | cons j' js =>
      simp only [List.map_cons, List.cons.injEq, D.int.injEq, true_and] at hcs
      obtain ⟨rfl, rfl, rfl, _⟩ := hcs
      obtain ⟨b2, ents, clock, v2, hc2, hl2, hblk2, hheap2, hrel2, hok⟩ := mapD_rel hi (.mpv lm' im' bm hlm) hm
      cases hc2
      have hlen2 := hrel2.length
      simp only [List.length_map] at hlen2
      obtain ⟨c0, hc0, hr0⟩ := hrel2.get hj
      rw [List.getElem?_map] at hc0
      simp only [Int.toNat_natCast] at hc0
      obtain ⟨e1, he1, rfl⟩ := Option.map_eq_some_iff.1 hc0
      have hborn : e1.born = j' := by
        have h1 := congrArg (fun l => l[j']?) hok.1
        simp only [List.getElem?_map, he1, Option.map_some] at h1
        have h2 := (List.getElem?_eq_some_iff.1 he1).1
        rw [List.getElem?_range h2] at h1
        exact Option.some.inj h1
      have hck : clock = n' := by have := hok.2; omega
      have hnd2 : (ents.toList.map (·.born)).Nodup := by rw [hok.1]; exact List.nodup_range
      have hit : w.heap[b]? = some (.mapIter (some bm) n' (js.reverse.toArray.push e1.born) clock) := by
        rw [hheap, hborn, hck]
        simp
      have hrun := run_entry_at (P := P) w b bm n' js.reverse.toArray ents clock e1 hit hheap2 (List.mem_of_getElem? he1) hnd2
      refine .pure hi (c := .tuple #[e1.key, e1.val]) ?_ (RelT.of hr0)
      simp [execOp, ho, hcv, hrun]
end
end Go.Abs

/-
  Operations on interface values.
-/
set_option linter.unusedVariables false
set_option linter.unusedSimpArgs false
namespace Go.Abs
open Go
variable {P : Program} {CR : CRel} {base fb : Nat} {V : List Nat} {g : G} {σ σ' : Stack} {w : World} {B : Nat → Nat} {e : Env} {tmps : Array Value} {df : List Deferred} {d : D}

theorem s_mki (hf : Fr fb V g w B e tmps) (hi : Inv CR base g σ w) {x : Operand} {X : Opd} {t : TypeId} (hx : opdC x = some X) (hc : P.concrete t = true)
    (h : sop e σ (.mki t X) = some (d, σ')) (o : Oper) (ho : o.op = .makeInterface t x) : Does P CR base g w B e (Act.mk tmps df).eval o d σ' := by
  have hr := hf.opd (df := df) hx
  simp only [sop, Option.some.injEq, Prod.mk.injEq] at h
  obtain ⟨rfl, rfl⟩ := h
  exact .pure hi (c := .iface t ((Act.mk tmps df).eval x)) (by simp [execOp, ho, run_makeInterface w t _ hc]) (RelT.of (.ifc t _ _ hr))

theorem s_tas (hf : Fr fb V g w B e tmps) (hi : Inv CR base g σ w) {x : Operand} {X : Opd} {t xt : TypeId} {dsc : TypeDesc} {ok : Bool} {z : Option D} (hx : opdC x = some X) (ht : P.underlying t = some dsc) (hn : ∀ ms, dsc ≠ .interface ms)
    (hz : if ok then ∃ z0, z = some z0 ∧ zvC P t = some z0 else z = none)
    (h : sop e σ (.tas t z X) = some (d, σ')) (o : Oper) (ho : o.op = .typeAssert x xt t ok) : Does P CR base g w B e (Act.mk tmps df).eval o d σ' := by
  have hr := hf.opd (df := df) hx
  simp only [sop, Option.map_eq_some_iff, Prod.mk.injEq] at h
  obtain ⟨d0, h, rfl, rfl⟩ := h
  generalize hcx : (Act.mk tmps df).eval x = cx at hr
  generalize opd e X = dx at hr h
  cases hr with
  | ifc t' d1 c h1 =>
    simp only [tasD] at h
    cases ok with
    | true =>
      simp only [if_true] at hz
      obtain ⟨z0, rfl, hz⟩ := hz
      obtain ⟨iz, zv, hz1, hz2, hz3⟩ := zvC_rel g hz
      simp only [Option.some.injEq] at h
      by_cases htt : t' = t
      · rw [if_pos htt] at h
        subst h
        refine .pure hi (c := .tuple #[c, .bool true]) ?_ (RelT.of (.tup _ #[c, .bool true] (.cons _ _ _ _ h1 (.cons _ _ _ _ (.bool true) .nil))))
        simp only [execOp, ho, hcx, Instr.typeAssert, Sem.run_bind, run_underlying ht, Result.andThen_ok]
        cases dsc <;> first | exact absurd rfl (hn _) | simp [htt]
      · rw [if_neg htt] at h
        subst h
        refine .pure hi (c := .tuple #[zv, .bool false]) ?_ (RelT.of (.tup _ #[zv, .bool false] (.cons _ _ _ _ hz3 (.cons _ _ _ _ (.bool false) .nil))))
        simp only [execOp, ho, hcx, Instr.typeAssert, Sem.run_bind, run_underlying ht, Result.andThen_ok]
        cases dsc <;> first | exact absurd rfl (hn _) | simp [htt, run_zeroValue hz1 hz2]
    | false =>
      simp only [Bool.false_eq_true, if_false] at hz
      subst hz
      simp only at h
      split at h
      case isFalse => cases h
      rename_i htt
      cases h
      refine .pure hi (c := c) ?_ (RelT.of h1)
      simp only [execOp, ho, hcx, Instr.typeAssert, Sem.run_bind, run_underlying ht, Result.andThen_ok]
      cases dsc <;> first | exact absurd rfl (hn _) | simp [htt]
  | nili =>
    simp only [tasD, Option.map_eq_some_iff] at h
    obtain ⟨z1, rfl, rfl⟩ := h
    cases ok with
    | true =>
      simp only [if_true] at hz
      obtain ⟨z0, hz0, hz⟩ := hz
      cases hz0
      obtain ⟨iz, zv, hz1, hz2, hz3⟩ := zvC_rel g hz
      refine .pure hi (c := .tuple #[zv, .bool false]) ?_ (RelT.of (.tup _ #[zv, .bool false] (.cons _ _ _ _ hz3 (.cons _ _ _ _ (.bool false) .nil))))
      simp only [execOp, ho, hcx, Instr.typeAssert, Sem.run_bind, run_underlying ht, Result.andThen_ok]
      cases dsc <;> first | exact absurd rfl (hn _) | simp [run_zeroValue hz1 hz2]
    | false => simp at hz
  | _ => simp [tasD] at h

theorem run_equalIn_nili {t : TypeId} {ms : Array (String × TypeId)} (n : Nat) (ht : P.underlying t = some (.interface ms)) (w : World) : (Op.equalIn (n + 1) t .nilIface .nilIface).run P w = .ok true w := by
  rw [Op.equalIn]
  simp [run_underlying ht]
theorem run_equalIn_ifc {t t' : TypeId} {c : Value} {ms : Array (String × TypeId)} (n : Nat) (ht : P.underlying t = some (.interface ms)) (w : World) : (Op.equalIn (n + 1) t (.iface t' c) .nilIface).run P w = .ok false w := by
  rw [Op.equalIn]
  simp [run_underlying ht]
theorem run_equal_nili {t : TypeId} {ms : Array (String × TypeId)} (ht : P.underlying t = some (.interface ms)) (w : World) : (Op.equal t .nilIface .nilIface).run P w = .ok true w := run_equalIn_nili 9999 ht w
theorem run_equal_ifc {t t' : TypeId} {c : Value} {ms : Array (String × TypeId)} (ht : P.underlying t = some (.interface ms)) (w : World) : (Op.equal t (.iface t' c) .nilIface).run P w = .ok false w := run_equalIn_ifc 9999 ht w

theorem s_isi (hf : Fr fb V g w B e tmps) (hi : Inv CR base g σ w) {x : Operand} {X : Opd} {t u : TypeId} {ms : Array (String × TypeId)} {neg : Bool} (hx : opdC x = some X) (ht : P.underlying t = some (.interface ms))
    (h : sop e σ (.isi neg X) = some (d, σ')) (o : Oper) (ho : o.op = .binOp (if neg then .neq else .eql) t x (.const .nilIface) u) : Does P CR base g w B e (Act.mk tmps df).eval o d σ' := by
  have hr := hf.opd (df := df) hx
  simp only [sop, Option.map_eq_some_iff, Prod.mk.injEq] at h
  obtain ⟨b, h, rfl, rfl⟩ := h
  have hev : (Act.mk tmps df).eval (.const .nilIface) = .nilIface := rfl
  generalize hcx : (Act.mk tmps df).eval x = cx at hr
  generalize opd e X = dx at hr h
  cases hr with
  | nili =>
    cases h
    refine .pure hi (c := .bool (if neg then false else true)) ?_ (RelT.of (by cases neg <;> exact .bool _))
    cases neg <;> simp [execOp, ho, hcx, hev, eqGuard, binOp, run_equal_nili ht]
  | ifc t' d1 c h1 =>
    cases h
    refine .pure hi (c := .bool (if neg then true else false)) ?_ (RelT.of (by cases neg <;> exact .bool _))
    cases neg <;> simp [execOp, ho, hcx, hev, eqGuard, binOp, run_equal_ifc ht]
  | _ => cases h
end Go.Abs

/-
  One operation of a region, whatever it is.
-/
set_option linter.unusedVariables false
set_option linter.unusedSimpArgs false
namespace Go.Abs
open Go

section
variable {P : Program} {CR : CRel} {base fb : Nat} {V : List Nat} {g : G} {σ σ' : Stack} {w : World} {B : Nat → Nat} {e : Env} {tmps : Array Value} {df : List Deferred}
  {a : Ann} {ops : Array Oper} {key : Nat} {k : K} {d : D}

theorem eqC_ok (hf : Fr fb V g w B e tmps) (hi : Inv CR base g σ w) {x y : Operand} {X Y : Opd} {t u : TypeId} {b : BinOp} (hx : opdC x = some X) (hy : opdC y = some Y)
    (hk : eqC P b t X Y = some k) (h : sop e σ k = some (d, σ')) (o : Oper) (ho : o.op = .binOp b t x y u) : Does P CR base g w B e (Act.mk tmps df).eval o d σ' := by
  unfold eqC at hk
  split at hk
  case h_2 => cases hk
  rename_i ks hks
  split at hk
  · cases hk
  rename_i hg
  have hg' : P.eqGuardType P.depth t = false := by simpa using hg
  split at hk
  · obtain ⟨ag, hag, rfl⟩ := Option.map_eq_some_iff.1 hk
    exact s_eqv hf hi hx hy hks hag hg' h o (by simpa using ho)
  · obtain ⟨ag, hag, rfl⟩ := Option.map_eq_some_iff.1 hk
    exact s_eqv hf hi hx hy hks hag hg' h o (by simpa using ho)
  · cases hk

theorem sop_ldi {ag : Bool} {sz : Nat} {X : Opd} {r : D × Stack} (h : sop e σ (.ldi ag sz X) = some r) : sop e σ (.ld ag sz X) = some r := by
  simp only [sop] at h ⊢
  cases hx : opd e X <;> rw [hx] at h <;> try (cases h; done)
  simpa [rdD] using h

theorem sop_ld0 {ag : Bool} {sz : Nat} {X : Opd} {r : D × Stack} (h : sop e σ (.ld0 ag sz X) = some r) : sop e σ (.ld ag sz X) = some r := by
  simp only [sop] at h ⊢
  cases hr : rd0 σ (opd e X) with
  | none => rw [hr] at h; cases h
  | some cs =>
    rw [hr] at h
    have : rdD σ (opd e X) = some cs := by
      generalize opd e X = dx at hr
      unfold rd0 at hr
      split at hr
      · exact hr
      · cases hr
    rw [this]; exact h

theorem run_equalIn_ptr_nil {w : World} (d : Nat) {t el : TypeId} {a : Option Addr} (h : P.underlying t = some (.pointer el)) : (Op.equalIn (d + 1) t (.pointer a) (.pointer none)).run P w = .ok a.isNone w := by
  cases a <;> simp [Op.equalIn, run_under h]
theorem run_equalIn_slice_nil {w : World} (d : Nat) {t el : TypeId} {a : Option Addr} {n c : Nat} (h : P.underlying t = some (.slice el)) : (Op.equalIn (d + 1) t (.slice a n c) (.slice none 0 0)).run P w = .ok a.isNone w := by
  cases a <;> simp [Op.equalIn, run_under h]

theorem s_is (hi : Inv CR base g σ w) {x y : Operand} {X : Opd} {t u : TypeId} {b : BinOp} {ps bo : Bool} {cx cy : Value} (e1 : (Act.mk tmps df).eval x = cx) (e2 : (Act.mk tmps df).eval y = cy)
    (hg : ∀ b, (eqGuard b t x y cx cy).run P w = .ok () w) (hb : binOp .eql t cx cy = (do pure (.bool (← Op.equal t cx cy)))) (hb' : binOp .neq t cx cy = (do pure (.bool (!(← Op.equal t cx cy)))))
    (heq : (Op.equal t cx cy).run P w = .ok bo w) (hn : isnD ps (opd e X) = some bo)
    (hk : isC ps b X = some k) (h : sop e σ k = some (d, σ')) (o : Oper) (ho : o.op = .binOp b t x y u) : Does P CR base g w B e (Act.mk tmps df).eval o d σ' := by
  unfold isC at hk
  split at hk
  · cases hk
    simp only [sop, hn, Option.map_some, Option.some.injEq, Prod.mk.injEq] at h
    obtain ⟨rfl, rfl⟩ := h
    refine .pure hi ?_ (RelT.of (.bool _))
    simp [execOp, ho, e1, e2, hg, hb, heq]
  · cases hk
    simp only [sop, hn, Option.map_some, Option.some.injEq, Prod.mk.injEq] at h
    obtain ⟨rfl, rfl⟩ := h
    refine .pure hi ?_ (RelT.of (.bool _))
    simp [execOp, ho, e1, e2, hg, hb', heq]
  · cases hk

theorem isC_some {ps : Bool} {b : BinOp} {X : Opd} (hk : isC ps b X = some k) (h : sop e σ k = some (d, σ')) : ∃ bo, isnD ps (opd e X) = some bo := by
  unfold isC at hk
  split at hk <;> cases hk <;> simp only [sop, Option.map_eq_some_iff] at h <;> obtain ⟨b, hb, _⟩ := h <;> exact ⟨b, hb⟩

theorem s_isp (hf : Fr fb V g w B e tmps) (hi : Inv CR base g σ w) {x y : Operand} {X : Opd} {t u el : TypeId} {b : BinOp} (hx : opdC x = some X) (hy : opdC y = some (.c .nilp)) (ht : P.underlying t = some (.pointer el))
    (hk : isC true b X = some k) (h : sop e σ k = some (d, σ')) (o : Oper) (ho : o.op = .binOp b t x y u) : Does P CR base g w B e (Act.mk tmps df).eval o d σ' := by
  have hr := hf.opd (df := df) hx
  have hr' := hf.opd (df := df) hy
  have e2 : (Act.mk tmps df).eval y = .pointer none := by
    generalize (Act.mk tmps df).eval y = c at hr'
    cases hr'; rfl
  obtain ⟨bo, hn⟩ := isC_some hk h
  have : ∃ a, (Act.mk tmps df).eval x = .pointer a ∧ bo = a.isNone := by
    generalize opd e X = dx at hr hn
    generalize (Act.mk tmps df).eval x = cx at hr
    cases hr <;> simp [isnD] at hn
    · exact ⟨none, rfl, by simp [← hn]⟩
    · exact ⟨_, rfl, by simp [← hn]⟩
    · exact ⟨_, rfl, by simp [← hn]⟩
  obtain ⟨a, e1, rfl⟩ := this
  refine s_is hi e1 e2 (fun b => by simp [eqGuard]) rfl rfl (run_equalIn_ptr_nil 9999 ht) hn hk h o ho

theorem s_iss (hf : Fr fb V g w B e tmps) (hi : Inv CR base g σ w) {x y : Operand} {X : Opd} {t u el : TypeId} {b : BinOp} (hx : opdC x = some X) (hy : opdC y = some (.c .nils)) (ht : P.underlying t = some (.slice el))
    (hk : isC false b X = some k) (h : sop e σ k = some (d, σ')) (o : Oper) (ho : o.op = .binOp b t x y u) : Does P CR base g w B e (Act.mk tmps df).eval o d σ' := by
  have hr := hf.opd (df := df) hx
  have hr' := hf.opd (df := df) hy
  have e2 : (Act.mk tmps df).eval y = .slice none 0 0 := by
    generalize (Act.mk tmps df).eval y = c at hr'
    cases hr'; rfl
  obtain ⟨bo, hn⟩ := isC_some hk h
  have : ∃ a n c, (Act.mk tmps df).eval x = .slice a n c ∧ bo = a.isNone := by
    generalize opd e X = dx at hr hn
    generalize (Act.mk tmps df).eval x = cx at hr
    cases hr <;> simp [isnD] at hn
    · exact ⟨none, _, _, rfl, by simp [← hn]⟩
    · exact ⟨_, _, _, rfl, by simp [← hn.2]⟩
    · rename_i l i v off n w a cap L h1 h2 h3 h4 h5 h6 h7
      refine ⟨a, n, cap, rfl, ?_⟩
      cases a with
      | none => have := h4 rfl; omega
      | some a => simp [← hn.2]
  obtain ⟨a, n, c, e1, rfl⟩ := this
  refine s_is hi e1 e2 (fun b => by simp [eqGuard]) rfl rfl (run_equalIn_slice_nil 9999 ht) hn hk h o ho

theorem s_nck (hf : Fr fb V g w B e tmps) (hi : Inv CR base g σ w) {x : Operand} {X : Opd} (hx : opdC x = some X) (h : sop e σ (.nck X) = some (d, σ')) (o : Oper) (ho : o.op = .nilCheck x) :
    Does P CR base g w B e (Act.mk tmps df).eval o d σ' := by
  have hr := hf.opd (df := df) hx
  simp only [sop] at h
  generalize opd e X = dx at hr h
  have key : (∃ a, (Act.mk tmps df).eval x = .pointer (some a)) ∧ d = dx ∧ σ' = σ := by
    generalize (Act.mk tmps df).eval x = cx at hr
    cases hr <;> simp at h
    · exact ⟨⟨_, rfl⟩, h.1.symm, h.2.symm⟩
    · exact ⟨⟨_, rfl⟩, h.1.symm, h.2.symm⟩
  obtain ⟨⟨a, e1⟩, rfl, rfl⟩ := key
  rw [e1] at hr
  exact .pure hi (c := .pointer (some a)) (by simp [execOp, ho, e1]) (RelT.of hr)

theorem isNil_inv {x : Operand} (h : isNilSlice x = true) : x = .const (.slice none 0 0) := by
  unfold isNilSlice at h
  split at h
  · rfl
  · cases h

theorem sop_ok (hf : Fr fb V g w B e tmps) (hi : Inv CR base g σ w) {o : Oper} (hk : kC P a ops key o = some k) (h : sop e σ k = some (d, σ')) :
    Does P CR base g w B e (Act.mk tmps df).eval o d σ' := by
  unfold kC at hk
  split at hk
  · rename_i x ho
    obtain ⟨X, hX, rfl⟩ := Option.map_eq_some_iff.1 hk
    exact s_move hf hi hX h o (.inl ho)
  · rename_i x ho
    split at hk
    · rename_i hnil _ _
      split at hk
      · obtain ⟨X, hX, rfl⟩ := Option.map_eq_some_iff.1 hk
        exact s_nilb hi h o (by rw [ho, isNil_inv hnil])
      · obtain ⟨X, hX, rfl⟩ := Option.map_eq_some_iff.1 hk
        exact s_move hf hi hX h o (.inr ho)
    · obtain ⟨X, hX, rfl⟩ := Option.map_eq_some_iff.1 hk
      exact s_move hf hi hX h o (.inr ho)
  · rename_i c x y ho
    split at hk
    · rename_i c' x' y' h1 h2 h3
      cases hk
      exact s_pick hf hi h1 h2 h3 h o ho
    · cases hk
  · rename_i el ho
    split at hk
    · rename_i z d0 hz _
      split at hk
      · split at hk
        case h_2 => cases hk
        split at hk
        case h_2 => cases hk
        split at hk
        case h_2 => cases hk
        cases hk
        exact s_mkb hi hz h o ho
      cases hk
      split at h
      · cases h
      · exact s_alc hi hz h o ho
    · cases hk
  · rename_i t x ho
    split at hk
    · rename_i x' d0 hx _
      cases hk
      split at h
      · cases h
      split at h
      · split at h
        · exact s_boxm hf hi hx h o ho
        · exact s_bxn hf hi hx h o ho
      · exact s_boxi hf hi hx h o ho
    · cases hk
  · rename_i t ps ho
    split at hk
    · rename_i fs z ht hz
      split at hk
      · rename_i hall
        obtain ⟨parts, hp, rfl⟩ := Option.map_eq_some_iff.1 hk
        exact s_bld_struct hf hi ht hz hall hp h o ho
      · cases hk
    · rename_i n el z ht hz
      split at hk
      · rename_i wd hw
        obtain ⟨parts, hp, rfl⟩ := Option.map_eq_some_iff.1 hk
        exact s_bld_array hf hi ht hw hz hp h o ho
      · cases hk
    · cases hk
  · rename_i t n ps ho
    split at hk
    · rename_i el ht
      split at hk
      · rename_i wd z d0 hw hz _
        split at hk
        · rename_i hc
          obtain ⟨parts, hp, rfl⟩ := Option.map_eq_some_iff.1 hk
          dsimp only at h
          split at h
          · rename_i hn
            simp only [Bool.and_eq_true, decide_eq_true_eq] at hn
            obtain ⟨⟨rfl, hpe⟩, _⟩ := hn
            exact s_bse hf hi ht hw hz hc.1 hc.2.1 hc.2.2 hp (by simpa using hpe) h o ho
          split at h
          · exact s_bsm hf hi ht hw hz hc.1 hc.2.1 hc.2.2 hp h o ho
          · exact s_bsi hf hi ht hw hz hc.1 hc.2.1 hc.2.2 hp h o ho
        · cases hk
      · cases hk
    · cases hk
  · rename_i t x ho
    split at hk
    · rename_i ag sz n hag hsz hx
      split at hk
      · rename_i hc
        simp only [Bool.and_eq_true, decide_eq_true_eq] at hc
        cases hk
        have hxe : x = .tmp n := by
          cases x <;> simp only [opdC, Option.some.injEq, Opd.t.injEq, reduceCtorEq, Option.map_eq_some_iff, and_false, exists_false] at hx
          rw [hx]
        split at h
        · exact s_ldv hf hi hag hsz hc.1 hc.2 h o (by rw [ho, hxe])
        · split at h
          · exact s_ld hf hi hx hag hsz hc.1 hc.2 (sop_ldi h) o ho
          split at h
          · exact s_ld hf hi hx hag hsz hc.1 hc.2 (sop_ld0 h) o ho
          · exact s_ld hf hi hx hag hsz hc.1 hc.2 h o ho
      · cases hk
    · cases hk
  · rename_i t x y ho
    split at hk
    · rename_i sz n y' hsz hx hy
      cases hk
      split at h
      · cases h
      · split at h
        · exact s_st hf hi hx hy hsz (sop_stc h) o ho
        · exact s_st hf hi hx hy hsz h o ho
    · cases hk
  · rename_i b t x y u ho
    split at hk
    · rename_i hx hy
      cases hk
      exact s_bin hf hi hx hy h o ho
    · rename_i hx hy
      exact eqC_ok hf hi hx hy hk h o ho
    · rename_i hx hy
      exact eqC_ok hf hi hx hy hk h o ho
    · rename_i hx hy
      exact eqC_ok hf hi hx hy hk h o ho
    · rename_i ht hx hy
      split at hk
      · cases hk; exact s_scat hf hi hx hy h o ho
      · cases hk; exact s_seq hf hi hx hy h o ho
      · cases hk; exact s_seq hf hi hx hy h o ho
      · cases hk
    · rename_i ht hx hy
      exact s_isp hf hi hx hy ht hk h o ho
    · rename_i ht hx hy
      split at hk
      · rename_i hsz
        split at hk
        · cases hk; exact s_peq (neg := false) hf hi hx hy ht hsz h o ho
        · cases hk; exact s_peq (neg := true) hf hi hx hy ht hsz h o ho
        · cases hk
      · cases hk
    · rename_i ht hx hy
      exact s_iss hf hi hx hy ht hk h o ho
    · rename_i ht hx hy
      split at hk
      · cases hk; exact s_isi (neg := false) hf hi hx ht h o ho
      · cases hk; exact s_isi (neg := true) hf hi hx ht h o ho
      · cases hk
    · cases hk
  · rename_i x ho
    obtain ⟨X, hX, rfl⟩ := Option.map_eq_some_iff.1 hk
    exact s_nck hf hi hX h o ho
  · rename_i b t x ho
    obtain ⟨X, hX, rfl⟩ := Option.map_eq_some_iff.1 hk
    exact s_un hf hi hX h o ho
  · rename_i s t x ho
    split at hk
    · rename_i hs ht hx
      cases hk
      exact s_cvt hf hi hx hs ht h o ho
    · rename_i hs ht hx
      split at hk
      · rename_i he hw
        cases hk
        exact s_b2s hf hi hx hs he ht h o ho
      · cases hk
    · rename_i hs ht hx
      split at hk
      · rename_i he hw
        cases hk
        exact s_s2b hf hi hx hs he ht h o ho
      · cases hk
    · rename_i hs ht hx
      split at hk
      · rename_i hst
        subst hst
        split at hk
        · rename_i he
          cases hk
          exact s_cvz hf hi hx hs he h o ho
        · cases hk
      · cases hk
    · cases hk
  · rename_i t x ho
    split at hk
    · rename_i ht hx
      obtain ⟨wd, hw, rfl⟩ := Option.map_eq_some_iff.1 hk
      exact s_s2a hf hi hx ht h o ho
    · cases hk
  · rename_i f xs ys ho
    split at hk
    · rename_i hx hy
      cases hk
      exact s_mkf hf hi hx hy h o ho
    · cases hk
  · rename_i t x y ho
    split at hk
    · rename_i el ht
      split at hk
      · rename_i hw hb hz hx hy
        split at hk
        · rename_i hc
          cases hk
          exact s_mks hf hi hx hy ht hw hb hz hc.1 hc.2 h o ho
        · cases hk
      · cases hk
    · cases hk
  · rename_i t x lo hh mx ho
    split at hk
    · rename_i ht hx hlo hhi hmx
      obtain ⟨wd, hw, rfl⟩ := Option.map_eq_some_iff.1 hk
      exact s_slc hf hi hx ht hw hlo hhi hmx h o ho
    · rename_i ht hx hlo hhi hmx
      obtain ⟨wd, hw, rfl⟩ := Option.map_eq_some_iff.1 hk
      have hm : mx = none := by
        cases mx with
        | none => rfl
        | some m => simp [optC, Option.map_eq_some_iff] at hmx
      subst hm
      exact s_slca hf hi hx ht hw hlo hhi h o ho
    · rename_i ht hx hlo hhi hmx
      cases hk
      have hm : mx = none := by
        cases mx with
        | none => rfl
        | some m => simp [optC, Option.map_eq_some_iff] at hmx
      subst hm
      exact s_ssub hf hi hx ht hlo hhi h o ho
    · cases hk
  · rename_i s x i ho
    split at hk
    · rename_i fs x' hs hx
      split at hk
      · rename_i off sz hfc
        split at hk
        · rename_i hpos
          cases hk
          exact s_fadr hf hi hx hs hfc hpos h o ho
        · cases hk
      · cases hk
    · cases hk
  · rename_i s x i ho
    split at hk
    · rename_i fs x' hs hx
      split at hk
      · rename_i f hfi
        split at hk
        · rename_i hag hsz
          split at hk
          · cases hk
            exact s_fld hf hi hx hs hfi hag hsz h o ho
          · cases hk
        · cases hk
      · cases hk
    · cases hk
  · rename_i t x y ho
    split at hk
    · rename_i ht hx hy
      obtain ⟨wd, hw, rfl⟩ := Option.map_eq_some_iff.1 hk
      exact s_idxA hf hi hx hy ht hw h o ho
    · rename_i ht hx hy
      obtain ⟨wd, hw, rfl⟩ := Option.map_eq_some_iff.1 hk
      exact s_idxS hf hi hx hy ht hw h o ho
    · cases hk
  · rename_i t x y ho
    split at hk
    · rename_i ht hx hy
      split at hk
      · rename_i hag hsz
        split at hk
        · cases hk
          exact s_idxV hf hi hx hy ht hag hsz h o ho
        · cases hk
      · cases hk
    · rename_i ht hx hy
      cases hk
      exact s_sidx hf hi hx hy ht h o ho
    · cases hk
  · rename_i x i ho
    obtain ⟨X, hX, rfl⟩ := Option.map_eq_some_iff.1 hk
    exact s_ext hf hi hX h o ho
  · rename_i c ho
    obtain ⟨callee, args, ts⟩ := c
    dsimp only at hk
    split at hk
    · rename_i f
      split at hk
      · cases hk
        cases h
      · cases hk
    · split at hk
      · rename_i t tr x r hts ha
        split at hk
        · rename_i ht hx
          cases hk
          exact s_len hf hi hx ht ha hts h o ho
        · rename_i ht hx
          cases hk
          exact s_slen hf hi hx ht ha hts h o ho
        · rename_i ht hx
          cases hk
          exact s_mlen hf hi hx ht ha hts h o ho
        · rename_i ht
          cases hk
          exact s_lenC hi (.inl ⟨_, ht⟩) ha hts h o ho
        · rename_i ht
          split at hk
          · rename_i hr
            cases hk
            exact s_lenC hi (.inr ⟨_, _, ht, hr⟩) ha hts h o ho
          · cases hk
        · cases hk
      · cases hk
    · cases hk
      cases h
    · split at hk
      · rename_i ha
        split at hk
        · rename_i hx hy
          cases hk
          exact s_mn hf hi hx hy ha h o ho
        · cases hk
      · cases hk
    · split at hk
      · rename_i ha
        split at hk
        · rename_i hx hy
          cases hk
          exact s_mx hf hi hx hy ha h o ho
        · cases hk
      · cases hk
    · split at hk
      · rename_i t u x y hts ha
        split at hk
        · rename_i uu x' y' ht hu0 hx hy
          split at hk
          case isFalse => cases hk
          rename_i huu
          have hu : P.underlying u = some .string ∨ ∃ e2, P.underlying u = some (.slice e2) := by
            cases uu <;> simp [rowish] at huu
            · exact .inl hu0
            · exact .inr ⟨_, hu0⟩
          split at hk
          · rename_i hw hb hz
            split at hk
            · rename_i hc
              cases hk
              split at h
              · rename_i hn
                simp only [Bool.and_eq_true] at hn
                exact s_cpi hf hi (isNil_inv hn.1) hy ha hts ht hu hw hb hz hc.2.2.2 hc.2.1 hc.2.2.1 h o ho
              · split at h
                · rename_i hn
                  simp only [Bool.and_eq_true] at hn
                  obtain ⟨v, rfl⟩ : ∃ v, x = .tmp v := by
                    have := hn.2
                    cases x <;> simp [tmpOf] at this
                    exact ⟨_, rfl⟩
                  exact s_ape hf hi rfl hy ha hts ht hu hw hb hz hc.2.2.2 hc.2.1 hc.2.2.1 h o ho
                split at h
                · exact s_apz hf hi hx hy ha hts ht hu hw hb hz hc.2.2.2 hc.2.1 hc.2.2.1 h o ho
                split at h
                · exact s_app hf hi hx hy ha hts ht hu hw hb hz hc.2.2.2 hc.2.1 hc.2.2.1 (sop_apc h) o ho
                · exact s_app hf hi hx hy ha hts ht hu hw hb hz hc.2.2.2 hc.2.1 hc.2.2.1 h o ho
            · cases hk
          · cases hk
        · cases hk
      · cases hk
    · cases hk
  · rename_i t x ho
    split at hk
    · rename_i hc
      obtain ⟨X, hX, rfl⟩ := Option.map_eq_some_iff.1 hk
      exact s_mki hf hi hX hc h o ho
    · cases hk
  · rename_i x xt t ok ho
    split at hk
    · cases hk
    · rename_i dsc x' hnot ht hx
      split at hk
      · rename_i hok
        subst hok
        obtain ⟨z, hz, rfl⟩ := Option.map_eq_some_iff.1 hk
        exact s_tas hf hi hx ht (fun ms hms => by subst hms; exact hnot _ rfl) (by simpa using hz) h o ho
      · rename_i hok
        cases hk
        exact s_tas hf hi hx ht (fun ms hms => by subst hms; exact hnot _ rfl) (by simp [hok]) h o ho
    · cases hk
  · rename_i x ho
    obtain ⟨X, hX, rfl⟩ := Option.map_eq_some_iff.1 hk
    cases h
  · rename_i t ho
    cases hk
    exact s_mkm hi h o ho
  · rename_i t k n ho
    split at hk
    · rename_i ht
      cases hk
      exact s_mkm2 hi h ht o ho
    · cases hk
  · rename_i t x ho
    split at hk
    · rename_i ht hx
      cases hk
      exact s_rng hf hi hx ht h o ho
    · cases hk
  · rename_i x ho
    split at hk
    · rename_i hx
      cases hk
      exact s_ent hf hi hx h o ho
    · cases hk
  · rename_i t x y ok ho
    split at hk
    · rename_i ht hx hy
      split at hk
      · rename_i hky hz
        cases hk
        exact s_mget hf hi hx hy ht hky hz h o ho
      · cases hk
    · cases hk
  · rename_i t m x y ho
    split at hk
    · rename_i ht hm hx hy
      split at hk
      · rename_i hky
        cases hk
        exact s_mput hf hi hm hx hy ht hky h o (.inl ho)
      · cases hk
    · cases hk
  · rename_i t m x y ho
    split at hk
    · rename_i ht hm hx hy
      split at hk
      · rename_i hky
        cases hk
        exact s_mput hf hi hm hx hy ht hky h o (.inr ho)
      · cases hk
    · cases hk
  · cases hk
end

end Go.Abs

/-
  How high values lead: a block below the newest segment holds nothing that leads above it. What is handed out of a segment leads below it; so a segment may go.
-/
set_option linter.unusedVariables false
set_option linter.unusedSimpArgs false
namespace Go.Abs
open Go

mutual
def D.low (n : Nat) : D → Bool
  | .ref l .. => decide (l < n)
  | .sl l .. => decide (l < n)
  | .yld l _ => decide (l < n)
  | .vr .. => true
  | .emp => true
  | .own _ cs => D.lowL n cs
  | .agg cs => D.lowL n cs
  | .tup cs => D.lowL n cs
  | .cref cs => D.lowL n cs
  | .lst _ cs => D.lowL n cs
  | .fn _ a b => D.lowL n a && D.lowL n b
  | .undef => true
  | .bool _ => true
  | .int _ _ => true
  | .str _ => true
  | .nilp => true
  | .nils => true
  | .nilf => true
  | .ifc _ d => D.low n d
  | .nili => true
def D.lowL (n : Nat) : List D → Bool
  | [] => true
  | d :: ds => D.low n d && D.lowL n ds
end

theorem lowL_iff {n : Nat} {ds : List D} : D.lowL n ds = true ↔ ∀ d ∈ ds, d.low n = true := by
  induction ds with
  | nil => simp [D.lowL]
  | cons d ds ih => simp [D.lowL, ih]

mutual
theorem clean_low {n : Nat} : ∀ {d : D}, d.clean = true → d.low n = true
  | .ref .., h => by simp [D.clean] at h
  | .sl .., h => by simp [D.clean] at h
  | .yld .., h => by simp [D.clean] at h
  | .vr .., _ => rfl
  | .emp, _ => rfl
  | .own _ cs, h => cleanL_low (ds := cs) (by simpa [D.clean] using h)
  | .agg cs, h => cleanL_low (ds := cs) (by simpa [D.clean] using h)
  | .tup cs, h => cleanL_low (ds := cs) (by simpa [D.clean] using h)
  | .cref cs, h => cleanL_low (ds := cs) (by simpa [D.clean] using h)
  | .lst _ cs, h => cleanL_low (ds := cs) (by simpa [D.clean] using h)
  | .fn _ a b, h => by
    simp only [D.clean, Bool.and_eq_true] at h
    simp only [D.low, Bool.and_eq_true]
    exact ⟨cleanL_low h.1, cleanL_low h.2⟩
  | .undef, _ => rfl
  | .bool _, _ => rfl
  | .int _ _, _ => rfl
  | .str _, _ => rfl
  | .nilp, _ => rfl
  | .nils, _ => rfl
  | .nilf, _ => rfl
  | .ifc _ d, h => clean_low (d := d) (by simpa [D.clean] using h)
  | .nili, _ => rfl
theorem cleanL_low {n : Nat} : ∀ {ds : List D}, D.cleanL ds = true → D.lowL n ds = true
  | [], _ => rfl
  | d :: ds, h => by
    simp only [D.cleanL, Bool.and_eq_true] at h
    simp only [D.lowL, Bool.and_eq_true]
    exact ⟨clean_low h.1, cleanL_low h.2⟩
end

mutual
theorem RelV.low {g : G} {n : Nat} (hn : ∀ l i L, g.loc l i = some L → l < n) : ∀ {d : D} {c : Value}, RelV g d c → d.low n = true
  | _, _, .undef c => rfl
  | _, _, .bool b => rfl
  | _, _, .int k n => rfl
  | _, _, .str s => rfl
  | _, _, .agg ds cs hr h1 => RelL.low hn hr
  | _, _, .tup ds cs hr => RelL.low hn hr
  | _, _, .nilp => rfl
  | _, _, .ref l i v off b o L e hv hc hn' => by simp only [D.low, decide_eq_true_eq]; exact hn l i L e
  | _, _, .cref ds b o vs hr hl => RelL.low hn hl
  | _, _, .nils => rfl
  | _, _, .lstn => rfl
  | _, _, .lst n' ds a cap vs hn' hr hs hl => RelL.low hn hl
  | _, _, .sl l i v off n' w a cap L e hv hn' ha hs hc hc' => by simp only [D.low, decide_eq_true_eq]; exact hn l i L e
  | _, _, .fn f fs cs fs' cs' h1 h2 => by simp only [D.low, Bool.and_eq_true]; exact ⟨RelL.low hn h1, RelL.low hn h2⟩
  | _, _, .nilf => rfl
  | _, _, .yld l i b e => by simp only [D.low, decide_eq_true_eq]; exact hn l i _ e
  | _, _, .mpv l i b e => by simp only [D.low, decide_eq_true_eq]; exact hn l i _ e
  | _, _, .itv l i b L e hc => by simp only [D.low, decide_eq_true_eq]; exact hn l i _ e
  | _, _, .bdv l i b L e hc => by simp only [D.low, decide_eq_true_eq]; exact hn l i _ e
  | _, _, .ifc t d c h1 => by rw [D.low]; exact RelV.low hn h1
  | _, _, .nili => rfl
theorem RelL.low {g : G} {n : Nat} (hn : ∀ l i L, g.loc l i = some L → l < n) : ∀ {ds : List D} {cs : List Value}, RelL g ds cs → D.lowL n ds = true
  | _, _, .nil => rfl
  | _, _, .cons d c ds cs h1 h2 => by simp only [D.lowL, Bool.and_eq_true]; exact ⟨RelV.low hn h1, RelL.low hn h2⟩
end

def G.cut (g : G) (n : Nat) : G := ⟨fun l i => if l < n then g.loc l i else none, g.imm⟩

theorem G.cut_loc {g : G} {n l i : Nat} (h : l < n) : (g.cut n).loc l i = g.loc l i := by simp [G.cut, h]
theorem G.cut_some {g : G} {n l i : Nat} {L : Loc} (h : (g.cut n).loc l i = some L) : l < n ∧ g.loc l i = some L := by
  simp only [G.cut] at h
  split at h
  · exact ⟨by assumption, h⟩
  · cases h

mutual
theorem RelV.cut {g : G} {n : Nat} : ∀ {d : D} {c : Value}, RelV g d c → d.low n = true → RelV (g.cut n) d c
  | _, _, .undef c, _ => .undef c
  | _, _, .bool b, _ => .bool b
  | _, _, .int k n, _ => .int k n
  | _, _, .str s, _ => .str s
  | _, _, .agg ds cs hr h1, h => .agg ds cs (RelL.cut hr h) h1
  | _, _, .tup ds cs hr, h => .tup ds cs (RelL.cut hr h)
  | _, _, .nilp, _ => .nilp
  | _, _, .ref l i v off b o L e hv hc hn', h => .ref l i v off b o L ((G.cut_loc (by simpa [D.low] using h)).trans e) hv hc hn'
  | _, _, .cref ds b o vs hr hl, h => .cref ds b o vs hr (RelL.cut hl h)
  | _, _, .nils, _ => .nils
  | _, _, .lstn, _ => .lstn
  | _, _, .lst n' ds a cap vs hn' hr hs hl, h => .lst n' ds a cap vs hn' hr hs (RelL.cut hl h)
  | _, _, .sl l i v off n' w a cap L e hv hn' ha hs hc hc', h => .sl l i v off n' w a cap L ((G.cut_loc (by simpa [D.low] using h)).trans e) hv hn' ha hs hc hc'
  | _, _, .fn f fs cs fs' cs' h1 h2, h => by
    simp only [D.low, Bool.and_eq_true] at h
    exact .fn f fs cs fs' cs' (RelL.cut h1 h.1) (RelL.cut h2 h.2)
  | _, _, .nilf, _ => .nilf
  | _, _, .yld l i b e, h => .yld l i b ((G.cut_loc (by simpa [D.low] using h)).trans e)
  | _, _, .mpv l i b e, h => .mpv l i b ((G.cut_loc (by simpa [D.low] using h)).trans e)
  | _, _, .itv l i b L e hc, h => .itv l i b L ((G.cut_loc (by simpa [D.low] using h)).trans e) hc
  | _, _, .bdv l i b L e hc, h => .bdv l i b L ((G.cut_loc (by simpa [D.low] using h)).trans e) hc
  | _, _, .ifc t d c h1, h => .ifc t d c (RelV.cut h1 h)
  | _, _, .nili, _ => .nili
theorem RelL.cut {g : G} {n : Nat} : ∀ {ds : List D} {cs : List Value}, RelL g ds cs → D.lowL n ds = true → RelL (g.cut n) ds cs
  | _, _, .nil, _ => .nil
  | _, _, .cons d c ds cs h1 h2, h => by
    simp only [D.lowL, Bool.and_eq_true] at h
    exact .cons d c ds cs (RelV.cut h1 h.1) (RelL.cut h2 h.2)
end

mutual
theorem low_mono {n m : Nat} (hm : n ≤ m) : ∀ {d : D}, d.low n = true → d.low m = true
  | .ref l .., h => by simp only [D.low, decide_eq_true_eq] at h ⊢; omega
  | .sl l .., h => by simp only [D.low, decide_eq_true_eq] at h ⊢; omega
  | .yld l _, h => by simp only [D.low, decide_eq_true_eq] at h ⊢; omega
  | .vr .., _ => rfl
  | .emp, _ => rfl
  | .own _ cs, h => lowL_mono (ds := cs) hm h
  | .agg cs, h => lowL_mono (ds := cs) hm h
  | .tup cs, h => lowL_mono (ds := cs) hm h
  | .cref cs, h => lowL_mono (ds := cs) hm h
  | .lst _ cs, h => lowL_mono (ds := cs) hm h
  | .fn _ a b, h => by
    simp only [D.low, Bool.and_eq_true] at h ⊢
    exact ⟨lowL_mono hm h.1, lowL_mono hm h.2⟩
  | .undef, _ => rfl
  | .bool _, _ => rfl
  | .int _ _, _ => rfl
  | .str _, _ => rfl
  | .nilp, _ => rfl
  | .nils, _ => rfl
  | .nilf, _ => rfl
  | .ifc _ d, h => low_mono (d := d) hm h
  | .nili, _ => rfl
theorem lowL_mono {n m : Nat} (hm : n ≤ m) : ∀ {ds : List D}, D.lowL n ds = true → D.lowL m ds = true
  | [], _ => rfl
  | d :: ds, h => by
    simp only [D.lowL, Bool.and_eq_true] at h ⊢
    exact ⟨low_mono hm h.1, lowL_mono hm h.2⟩
end

def Blk.low (n : Nat) : Blk → Prop
  | .cells _ cs => D.lowL n cs = true
  | .dead => True
  | .loop lp => ∀ t, (get lp.env t).low n = true

def LowS (σ : Stack) : Prop := ∀ l i b, blk? σ l i = some b → l + 1 < σ.length → b.low (l + 1)

theorem LowS.set {σ : Stack} (h : LowS σ) {l i : Nat} {b : Blk} (hb : l + 1 < σ.length → b.low (l + 1)) : LowS (setBlk σ l i b) := by
  intro l' i' b' h1 h2
  rw [setBlk_length] at h2
  by_cases hc : l' = l ∧ i' = i
  · obtain ⟨rfl, rfl⟩ := hc
    cases h0 : blk? σ l' i' with
    | none =>
      have : blk? (setBlk σ l' i' b) l' i' = none := by
        unfold setBlk
        cases hs : seg? σ l' with
        | none => exact h0
        | some s =>
          simp only [blk?, seg?_setSeg (seg?_lt hs), Option.bind_some]
          simp only [blk?, hs, Option.bind_some] at h0
          rw [List.getElem?_eq_none_iff] at h0 ⊢
          simpa using h0
      rw [this] at h1; cases h1
    | some b0 => rw [blk?_setBlk h0] at h1; cases h1; exact hb h2
  · rw [blk?_setBlk_other hc] at h1; exact h l' i' b' h1 h2

theorem LowS.new {σ σ' : Stack} (h : LowS σ) {l i : Nat} {b : Blk} (hn : newBlk σ b = some (l, i, σ')) : LowS σ' := by
  obtain ⟨h1, h2, h3, h4, h5⟩ := newBlk_spec hn
  intro l' i' b' e hl
  by_cases hc : l' = l ∧ i' = i
  · omega
  · rw [h3 l' i' hc] at e; exact h l' i' b' e (by omega)

structure Goes (σ σ' : Stack) : Prop where
  len : σ'.length = σ.length
  low : LowS σ → LowS σ'

theorem Goes.refl (σ : Stack) : Goes σ σ := ⟨rfl, id⟩
theorem Goes.trans {a b c : Stack} (h : Goes a b) (h' : Goes b c) : Goes a c := ⟨h'.len.trans h.len, fun x => h'.low (h.low x)⟩
theorem Goes.new {σ σ' : Stack} {l i : Nat} {b : Blk} (hn : newBlk σ b = some (l, i, σ')) : Goes σ σ' := ⟨(newBlk_spec hn).2.2.2.1, fun h => h.new hn⟩
theorem Goes.set {σ : Stack} {l i : Nat} {b : Blk} (hb : l + 1 < σ.length → b.low (l + 1)) : Goes σ (setBlk σ l i b) := ⟨setBlk_length, fun h => h.set hb⟩

theorem nilbs_goes : ∀ (nb : List (Nat × Nat)) (cs cs' : List D) (σ σ' : Stack), nilbs nb cs σ = some (cs', σ') → Goes σ σ'
  | [], cs, cs', σ, σ', h => by simp only [nilbs, Option.some.injEq, Prod.mk.injEq] at h; obtain ⟨rfl, rfl⟩ := h; exact .refl _
  | (p, w) :: r, cs, cs', σ, σ', h => by
    simp only [nilbs] at h
    split at h
    · simp only [Option.bind_eq_bind, Option.bind_eq_some_iff] at h
      obtain ⟨⟨l, i, σ1⟩, hn, h⟩ := h
      exact (Goes.new hn).trans (nilbs_goes r _ _ _ _ h)
    · exact nilbs_goes r _ _ _ _ h

theorem frz_spec (l : Nat) : ∀ (n : Nat) (d : D) (σ : Stack), (frz l n d σ).1.low (l + 1) = true ∧ Goes σ (frz l n d σ).2
  | 0, d, σ => ⟨rfl, .refl _⟩
  | n + 1, d, σ => by
    have ih : ∀ (ds : List D) (σ : Stack), D.lowL (l + 1) (frz.frzL (frz l n) ds σ).1 = true ∧ Goes σ (frz.frzL (frz l n) ds σ).2 := by
      intro ds
      induction ds with
      | nil => intro σ; exact ⟨rfl, .refl _⟩
      | cons d ds ihd =>
        intro σ
        obtain ⟨h1, h2⟩ := frz_spec l n d σ
        obtain ⟨h3, h4⟩ := ihd (frz l n d σ).2
        simp only [frz.frzL, D.lowL, Bool.and_eq_true]
        exact ⟨⟨h1, h3⟩, h2.trans h4⟩
    simp only [frz]
    split
    · rename_i hc; exact ⟨clean_low hc, .refl _⟩
    cases d with
    | agg cs => exact ih cs σ
    | tup cs => exact ih cs σ
    | cref cs => exact ih cs σ
    | lst m cs => exact ih cs σ
    | own s cs => exact ih cs σ
    | fn f a b =>
      obtain ⟨h1, h2⟩ := ih a σ
      obtain ⟨h3, h4⟩ := ih b (frz.frzL (frz l n) a σ).2
      refine ⟨?_, h2.trans h4⟩
      simp only [D.low, Bool.and_eq_true]
      exact ⟨h1, h3⟩
    | ref l' i v off =>
      dsimp only
      split
      · refine ⟨?_, .refl _⟩; simp only [D.low, decide_eq_true_eq]; omega
      · exact ⟨rfl, .refl _⟩
    | yld l' i =>
      dsimp only
      split
      · refine ⟨?_, .refl _⟩; simp only [D.low, decide_eq_true_eq]; omega
      · exact ⟨rfl, .refl _⟩
    | sl l' i v off m w =>
      dsimp only
      split
      · refine ⟨?_, .refl _⟩; simp only [D.low, decide_eq_true_eq]; omega
      · split
        · rename_i cs hcs
          obtain ⟨h1, h2⟩ := ih ((cs.drop off).take (m * w)) (setBlk σ l' i .dead)
          exact ⟨h1, (Goes.set (b := .dead) fun _ => trivial).trans h2⟩
        · exact ⟨rfl, .refl _⟩
    | _ => exact ⟨rfl, .refl _⟩

theorem frzL_spec (l n : Nat) (ds : List D) : ∀ (σ : Stack), D.lowL (l + 1) (frz.frzL (frz l n) ds σ).1 = true ∧ Goes σ (frz.frzL (frz l n) ds σ).2 := by
  induction ds with
  | nil => intro σ; exact ⟨rfl, .refl _⟩
  | cons d ds ihd =>
    intro σ
    obtain ⟨h1, h2⟩ := frz_spec l n d σ
    obtain ⟨h3, h4⟩ := ihd (frz l n d σ).2
    simp only [frz.frzL, D.lowL, Bool.and_eq_true]
    exact ⟨⟨h1, h3⟩, h2.trans h4⟩

theorem frzE_spec (l : Nat) : ∀ (e : Env) (σ : Stack), (∀ p ∈ (frzE l e σ).1, p.2.low (l + 1) = true) ∧ Goes σ (frzE l e σ).2
  | [], σ => ⟨by simp [frzE], .refl _⟩
  | (t, d) :: e, σ => by
    obtain ⟨h1, h2⟩ := frz_spec l deep d σ
    obtain ⟨h3, h4⟩ := frzE_spec l e (frz l deep d σ).2
    simp only [frzE]
    refine ⟨?_, h2.trans h4⟩
    intro p hp
    rcases List.mem_cons.1 hp with rfl | hp
    · exact h1
    · exact h3 p hp

theorem cells?_low {σ : Stack} (h : LowS σ) {l i v : Nat} {cs : List D} (hc : cells? σ l i v = some cs) (hl : l + 1 < σ.length) : D.lowL (l + 1) cs = true := by
  unfold cells? at hc
  split at hc
  case h_2 => cases hc
  rename_i v' cs' hb
  split at hc
  case isFalse => cases hc
  cases hc
  exact h l i _ hb hl

theorem lowL_append {n : Nat} {a b : List D} : D.lowL n (a ++ b) = true ↔ D.lowL n a = true ∧ D.lowL n b = true := by
  simp only [lowL_iff, List.mem_append]
  exact ⟨fun h => ⟨fun d hd => h d (.inl hd), fun d hd => h d (.inr hd)⟩, fun h d hd => hd.elim (h.1 d) (h.2 d)⟩
theorem lowL_take {n k : Nat} {a : List D} (h : D.lowL n a = true) : D.lowL n (a.take k) = true := by
  rw [lowL_iff] at h ⊢; exact fun d hd => h d (List.mem_of_mem_take hd)
theorem lowL_drop {n k : Nat} {a : List D} (h : D.lowL n a = true) : D.lowL n (a.drop k) = true := by
  rw [lowL_iff] at h ⊢; exact fun d hd => h d (List.mem_of_mem_drop hd)

theorem mpD_same {σ σ' : Stack} {d : D} {o : Mo} {ds : List D} (h : mpD σ o ds = some (d, σ')) (hk : o.calm = true) : σ' = σ := by
  unfold mpD at h
  split at h
  · simp [Mo.calm] at hk
  · simp [Mo.calm] at hk
  · split at h
    · split at h
      · split at h <;> first | (cases h; done) | (cases h; rfl)
      · cases h
    · cases h
  · simp [Mo.calm] at hk
  · simp only [Option.map_eq_some_iff, Prod.mk.injEq] at h
    obtain ⟨_, _, _, rfl⟩ := h
    rfl
  · simp [Mo.calm] at hk
  · split at h
    · split at h
      · split at h
        · split at h
          · cases h; rfl
          · cases h
        · cases h
      · cases h
    · cases h
  · cases h
theorem meD_same {σ σ' : Stack} {d : D} {o : Me} {ds : List D} (h : meD σ o ds = some (d, σ')) : σ' = σ := by
  unfold meD at h
  split at h
  · cases h
  · simp only [Option.bind_eq_some_iff, Option.map_eq_some_iff, Prod.mk.injEq] at h
    obtain ⟨_, _, _, _, _, rfl⟩ := h; rfl
  · cases h; rfl
  · split at h <;> cases h; rfl
  · split at h <;> cases h; rfl
  · cases h
theorem sop_same {e : Env} {σ σ' : Stack} {d : D} {k : K} (h : sop e σ k = some (d, σ')) (hk : k.calm = true) : σ' = σ := by
  by_cases hm : ∃ o xs, k = .mp o xs
  · obtain ⟨o, xs, rfl⟩ := hm
    exact mpD_same h hk
  by_cases hm' : ∃ o xs, k = .me o xs
  · obtain ⟨o, xs, rfl⟩ := hm'
    exact meD_same h
  cases k <;> (try (exact absurd ⟨_, _, rfl⟩ hm)) <;> (try (exact absurd ⟨_, _, rfl⟩ hm')) <;> clear hm hm' <;> simp only [K.calm, Bool.false_eq_true] at hk <;> simp only [sop, Option.bind_eq_bind, reduceCtorEq] at h <;> (repeat' split at h) <;>
    simp only [Option.map_eq_some_iff, Option.bind_eq_some_iff, Option.some.injEq, Prod.mk.injEq, Prod.exists, reduceCtorEq, exists_eq_left, and_false, exists_false] at h <;> (try split at h) <;>
    simp_all <;> (try (obtain ⟨_, _, h⟩ := h; simp_all)) <;> (try grind)

theorem goes_st {e : Env} {σ σ' : Stack} {d : D} {nb : List (Nat × Nat)} {sz : Nat} {a x : Opd} (h : sop e σ (.st nb sz a x) = some (d, σ')) : Goes σ σ' := by
  simp only [sop] at h
  split at h
  case h_2 => cases h
  split at h
  case h_2 => cases h
  rename_i l i v off hX _ cs hcs
  split at h
  case h_2 => cases h
  rename_i p hcells
  split at h
  case isFalse => cases h
  rename_i hc
  split at h
  · rename_i htop
    split at h
    · rename_i p' σ1 hnb
      cases h
      have hg := nilbs_goes _ _ _ _ _ hnb
      exact hg.trans (Goes.set fun hl => by have := hg.len; omega)
    · cases h
  · rename_i htop
    cases h
    obtain ⟨h1, h2⟩ := frzL_spec l deep p σ
    refine ⟨setBlk_length.trans h2.len, fun hl => (h2.low hl).set fun hlt => ?_⟩
    have hcl := cells?_low hl hcs (by have := h2.len; omega)
    simp only [Blk.low, lowL_append]
    exact ⟨⟨lowL_take hcl, h1⟩, lowL_drop hcl⟩

theorem goes_app {e : Env} {σ σ' : Stack} {d : D} {w bytes : Nat} {s x : Opd} (h : sop e σ (.app w bytes s x) = some (d, σ')) : Goes σ σ' := by
  simp only [sop, Option.bind_eq_bind, Option.bind_eq_some_iff] at h
  obtain ⟨⟨m, xs⟩, he, h⟩ := h
  dsimp only at h
  split at h
  · split at h
    case isFalse => cases h
    split at h
    · cases h; exact .refl _
    · simp only [Option.bind_eq_some_iff] at h
      obtain ⟨⟨l, i, σ1⟩, hn, h⟩ := h
      cases h
      exact .new hn
  · split at h
    case h_2 => cases h
    rename_i l i v off n w' hX _ cs hcs
    split at h
    case isFalse => cases h
    split at h
    · cases h
      exact .set fun hl => by omega
    · cases h
      obtain ⟨h1, h2⟩ := frzL_spec l deep xs σ
      refine ⟨setBlk_length.trans h2.len, fun hl => (h2.low hl).set fun hlt => ?_⟩
      have hcl := cells?_low hl hcs (by have := h2.len; omega)
      simp only [Blk.low, lowL_append]
      exact ⟨lowL_take (lowL_drop hcl), h1⟩
  · cases h

theorem lowL_set {n j : Nat} {a : List D} {x : D} (h : D.lowL n a = true) (hx : x.low n = true) : D.lowL n (a.set j x) = true := by
  rw [lowL_iff] at h ⊢
  intro d hd
  rcases List.mem_or_eq_of_mem_set hd with h1 | rfl
  · exact h d h1
  · exact hx
theorem goes_mp {σ σ' : Stack} {d : D} {o : Mo} {ds : List D} (h : mpD σ o ds = some (d, σ')) : Goes σ σ' := by
  unfold mpD at h
  split at h
  · simp only [Option.map_eq_some_iff, Prod.mk.injEq, Prod.exists] at h
    obtain ⟨l, i, σ1, hn, _, rfl⟩ := h
    exact .new hn
  · simp only [Option.map_eq_some_iff, Prod.mk.injEq, Prod.exists] at h
    obtain ⟨l, i, σ1, hn, _, rfl⟩ := h
    exact .new hn
  · split at h
    · split at h
      · split at h <;> first | (cases h; done) | (cases h; exact .refl _)
      · cases h
    · cases h
  · rename_i ky m k v
    split at h
    · rename_i l i es hm
      obtain ⟨rfl, hcs⟩ := mapD_inv hm
      split at h
      case isFalse => cases h
      rename_i hc
      have hlow : l + 1 < σ.length → k.low (l + 1) = true ∧ v.low (l + 1) = true := fun hl => by
        rcases hc.2 with h1 | ⟨h1, h2⟩
        · omega
        · exact ⟨clean_low h1, clean_low h2⟩
      split at h
      · cases h
        refine ⟨setBlk_length, fun hS => hS.set fun hl => ?_⟩
        have hcl := cells?_low hS hcs hl
        obtain ⟨h1, h2⟩ := hlow hl
        simp only [Blk.low]
        exact lowL_set hcl (by simp [D.low, D.lowL, h1, h2])
      · cases h
        refine ⟨setBlk_length, fun hS => hS.set fun hl => ?_⟩
        have hcl := cells?_low hS hcs hl
        obtain ⟨h1, h2⟩ := hlow hl
        simp only [Blk.low, lowL_append]
        exact ⟨hcl, by simp [D.low, D.lowL, h1, h2]⟩
      · cases h
    · cases h
  · simp only [Option.map_eq_some_iff, Prod.mk.injEq] at h
    obtain ⟨_, _, _, rfl⟩ := h
    exact .refl _
  · split at h
    · simp only [Option.map_eq_some_iff, Prod.mk.injEq, Prod.exists] at h
      obtain ⟨l, i, σ1, hn, _, rfl⟩ := h
      exact .new hn
    · cases h
  · split at h
    · split at h
      · split at h
        · split at h
          · cases h; exact .refl _
          · cases h
        · cases h
      · cases h
    · cases h
  · cases h

theorem sop_goes {e : Env} {σ σ' : Stack} {d : D} : ∀ {k : K}, sop e σ k = some (d, σ') → Goes σ σ'
  | .st .., h => goes_st h
  | .app .., h => goes_app h
  | .apc .., h => goes_app (sop_apc h)
  | .apz w bytes s x, h => by
    simp only [sop, Option.map_eq_some_iff, Prod.exists] at h
    obtain ⟨d1, σ1, h1, h2⟩ := h
    obtain ⟨h3, h4⟩ := frz_spec 0 deep d1 σ1
    rw [h2] at h4
    exact (goes_app (by rw [sop_app]; exact h1)).trans h4
  | .cvz x, h => by
    simp only [sop] at h
    split at h
    case h_2 => cases h
    split at h
    case isFalse => cases h
    split at h
    case h_2 => cases h
    cases h
    exact .set fun _ => trivial
  | .alc nb cs, h => by
    simp only [sop, Option.bind_eq_bind, Option.bind_eq_some_iff] at h
    obtain ⟨⟨cs', σ1⟩, hnb, ⟨l, i, σ2⟩, hn, h⟩ := h
    cases h
    exact (nilbs_goes _ _ _ _ _ hnb).trans (.new hn)
  | .nilb w, h => by
    simp only [sop, Option.bind_eq_bind, Option.bind_eq_some_iff] at h
    obtain ⟨⟨l, i, σ2⟩, hn, h⟩ := h
    cases h
    exact .new hn
  | .bxn nb x, h => by
    simp only [sop, Option.bind_eq_bind, Option.bind_eq_some_iff] at h
    obtain ⟨cs, _, ⟨cs', σ1⟩, hnb, ⟨l, i, σ2⟩, hn, h⟩ := h
    cases h
    exact (nilbs_goes _ _ _ _ _ hnb).trans (.new hn)
  | .boxm x, h => by
    simp only [sop, Option.bind_eq_bind, Option.bind_eq_some_iff] at h
    obtain ⟨cs, _, ⟨l, i, σ2⟩, hn, h⟩ := h
    cases h
    exact .new hn
  | .bsm .., h => by
    simp only [sop, Option.bind_eq_bind, Option.bind_eq_some_iff] at h
    obtain ⟨cs, _, ⟨l, i, σ2⟩, hn, h⟩ := h
    cases h
    exact .new hn
  | .mks .., h => by
    simp only [sop] at h
    split at h
    · split at h
      · simp only [Option.bind_eq_bind, Option.bind_eq_some_iff] at h
        obtain ⟨⟨l, i, σ2⟩, hn, h⟩ := h
        cases h
        exact .new hn
      · cases h
    · cases h
  | .mv _, h => same h rfl
  | .pick .., h => same h rfl
  | .alcv .., h => by simp [sop] at h
  | .boxi _, h => same h rfl
  | .boxv _, h => by simp [sop] at h
  | .bld .., h => same h rfl
  | .bsi .., h => same h rfl
  | .ld .., h => same h rfl
  | .ldi .., h => same h rfl
  | .ld0 .., h => same h rfl
  | .stc os sz a x, h => goes_st (sop_stc h)
  | .isn .., h => same h rfl
  | .nck .., h => same h rfl
  | .ldv .., h => same h rfl
  | .stv .., h => by simp [sop] at h
  | .bin .., h => same h rfl
  | .eqv .., h => same h rfl
  | .un .., h => same h rfl
  | .cvt .., h => same h rfl
  | .mkf .., h => same h rfl
  | .slc .., h => same h rfl
  | .slca .., h => same h rfl
  | .fadr .., h => same h rfl
  | .fld .., h => same h rfl
  | .idxA .., h => same h rfl
  | .idxS .., h => same h rfl
  | .idxV .., h => same h rfl
  | .lenS .., h => same h rfl
  | .lenC .., h => same h rfl
  | .mn .., h => same h rfl
  | .mx .., h => same h rfl
  | .cpi .., h => same h rfl
  | .bse, h => same h rfl
  | .ape .., h => same h rfl
  | .ext .., h => same h rfl
  | .pur .., h => same h rfl
  | .mp .., h => goes_mp h
  | .me .., h => same h rfl
  | .mki .., h => same h rfl
  | .tas .., h => same h rfl
  | .isi .., h => same h rfl
  | .pan _, h => by simp [sop] at h
  | .rcv, h => by simp [sop] at h
  | .call .., h => by simp [sop] at h
where
  same {e : Env} {σ σ' : Stack} {d : D} {k : K} (h : sop e σ k = some (d, σ')) (hk : k.calm = true) : Goes σ σ' := by
    rw [sop_same h hk]; exact .refl _
end Go.Abs
