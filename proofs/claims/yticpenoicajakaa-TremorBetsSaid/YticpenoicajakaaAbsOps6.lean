/-
  append; rows that are the same.
-/
import Derived.Test.YticpenoicajakaaAbsOps5
set_option linter.unusedVariables false
set_option linter.unusedSimpArgs false
namespace Go.Abs
open Go

theorem growBy_le (n : Nat) : ∀ (r c : Nat), c ≤ 2 * n + 192 → Builtin.growBy n r c ≤ 2 * n + 192
  | 0, c, h => h
  | r + 1, c, h => by
    simp only [Builtin.growBy]
    split
    · exact h
    · exact growBy_le n r _ (by omega)

theorem nextslicecap_le {need cap : Nat} (h : cap < need) : Builtin.nextslicecap need cap ≤ 2 * need + 192 := by
  unfold Builtin.nextslicecap
  split
  · omega
  · split
    · omega
    · exact growBy_le need 4 cap (by omega)

section ops
variable {P : Program} {CR : CRel} {base fb : Nat} {V : List Nat} {g : G} {σ σ' : Stack} {w : World} {B : Nat → Nat} {e : Env} {tmps : Array Value} {df : List Deferred}
  {d : D}

theorem run_firstCells {wd n : Nat} {a : Option Addr} {cap : Nat} {vs : List Value} (hnil : a = none → n = 0) (hlen : vs.length = n * wd)
    (hrd : ∀ x, a = some x → n ≠ 0 → x.spot = none ∧ Rd w x.block x.off vs) (w' : World) (hw : w'.heap = w.heap) : (Builtin.firstCells wd n (.slice a n cap)).run P w' = .ok vs.toArray w' := by
  cases a with
  | none =>
    obtain rfl := hnil rfl
    simp only [Nat.zero_mul, List.length_eq_zero_iff] at hlen
    subst hlen
    simp [Builtin.firstCells]
  | some x =>
    simp only [Builtin.firstCells]
    by_cases hn : n = 0
    · subst hn
      simp only [Nat.zero_mul, List.length_eq_zero_iff] at hlen
      subst hlen
      simp [loadCells, loadCellsFrom]
    · obtain ⟨h1, h2⟩ := hrd x rfl hn
      obtain ⟨b, o, sp⟩ := x
      simp only at h1; subst h1
      rw [← hlen]
      exact run_loadCells_list w' ⟨b, o, none⟩ vs (fun j v hj => by
        rw [add_eq]
        have := h2 j v hj
        simp only [World.cell?, hw] at this ⊢
        exact this)

/-- The elements that are appended, in memory. -/
theorem elems_rel (hi : Inv CR base g σ w) {wd : Nat} {dx : D} {c : Value} {m : Nat} {xs : List D} (hr : RelV g dx c) (he : elems σ wd dx = some (m, xs)) :
    ∃ (a : Option Addr) (cap : Nat) (vs : List Value), c = .slice a m cap ∧ RelL g xs vs ∧ (∀ x ∈ vs, x.oneCell' = true) ∧ vs.length = m * wd ∧ (a = none → m = 0) ∧ (∀ x, a = some x → m ≠ 0 → x.spot = none ∧ Rd w x.block x.off vs) := by
  unfold elems at he
  split at he
  · cases he; cases hr
    exact ⟨none, 0, [], rfl, .nil, by simp, by simp, fun _ => rfl, fun _ hh => by cases hh⟩
  · rename_i n cs
    split at he
    case isFalse => cases he
    rename_i hlen
    cases he
    cases hr with
    | lstn => exact ⟨none, 0, [], rfl, .nil, by simp, by simp, fun _ => rfl, fun _ hh => by cases hh⟩
    | lst _ _ a cap vs hn h1 h2 h3 =>
      refine ⟨some a, cap, vs, rfl, h3, fun x hx => ?_, by rw [← h3.length, hlen], fun hh => (by cases hh), fun x hx hne => ?_⟩
      · obtain ⟨j, hj⟩ := List.getElem?_of_mem hx
        exact (hi.imm _ _ _ (h1 j x hj)).2
      · cases hx
        exact ⟨h2 hne, fun j y hy => (hi.imm _ _ _ (h1 j y hy)).1⟩
  · rename_i l i v off n w'
    split at he
    case isFalse => cases he
    rename_i hw'; subst hw'
    split at he
    case h_2 => cases he
    rename_i cs hcs
    split at he
    case isFalse => cases he
    rename_i hle
    cases he
    cases hr with
    | sl _ _ _ _ _ _ a cap L k1 k2 k3 k4 k5 k6 k7 =>
      unfold cells? at hcs
      split at hcs
      case h_2 => cases hcs
      rename_i v' cs' hblk
      split at hcs
      case isFalse => cases hcs
      rename_i hv; subst hv; cases hcs
      obtain ⟨b0, hb0, hrel⟩ := hi.dom _ _ _ k1
      rw [hblk] at hb0; cases hb0
      cases L with
      | dead => exact hrel.elim
      | lp z => exact hrel.elim
      | virt v2 =>
        obtain ⟨rfl, rfl⟩ := hrel
        obtain rfl := k7 rfl
        obtain rfl := k4 rfl
        obtain rfl : m = 0 := by omega
        exact ⟨none, 0, [], rfl, by simpa using RelL.nil, by simp, by simp, fun _ => rfl, fun _ hh => by cases hh⟩
      | «at» blk bo v2 bsz =>
        obtain ⟨rfl, ca, el, hheap, hcsz, hlen, vs, hr, hvs⟩ := hrel
        refine ⟨a, cap, (vs.drop off).take (m * w'), rfl, (hr.drop off).take _, fun x hx => ?_, ?_, fun hh => ?_, fun x hx hne => ?_⟩
        · obtain ⟨j, hj⟩ := List.getElem?_of_mem (List.mem_of_mem_drop (List.mem_of_mem_take hx))
          exact (hvs j x hj).2
        · have := hr.length
          simp; omega
        · have := k4 hh; omega
        · rcases k6 blk bo bsz rfl with ⟨rfl, k8⟩ | k8
          · cases hx
            refine ⟨rfl, Rd.take (Rd.drop (fun j y hy => ?_) off) _⟩
            simp only [World.cell?, hheap]
            simpa using (hvs j y hy).1
          · omega
  · cases he

/-- append where there is no room: a new block. -/
theorem run_append_grow {el t u : TypeId} {wd bytes n m cap : Nat} {a : Option Addr} {xv : Value} {z : List D} {old new : List Value} (ht : P.underlying t = some (.slice el)) (hu : ∃ e2, P.underlying u = some (.slice e2))
    (hw : sizeC P el = some wd) (hb : (P.info? el).map (·.bytes) = some bytes) (hz : zeroC P el = some z) (hzl : z.length = wd) (hbpos : 0 < bytes) (hbl : bytes ≤ 2 ^ 20) (hroom : (n + m) * bytes ≤ room)
    (hgrow : cap < n + m) (hold : ∀ w', w'.heap = w.heap → (Builtin.firstCells wd n (.slice a n cap)).run P w' = .ok old.toArray w')
    (hlenx : (Builtin.lenOf xv).run P w = .ok m w) (hnew : ∀ w', w'.heap = w.heap → (Builtin.firstCells wd m xv).run P w' = .ok new.toArray w') (g : G) :
    ∃ (newCap : Nat) (rest : List Value), n + m ≤ newCap ∧ rest.length = (newCap - (n + m)) * wd ∧
      (Builtin.append_ #[t, u] 0 #[.slice a n cap, xv]).run P w = .ok (.slice (some ⟨w.heap.size, 0, none⟩) (n + m) newCap) (w.drew.alloc (.cells (old ++ new ++ rest).toArray el)) := by
  obtain ⟨i0, v, hinfo, hzero, hrz, h1⟩ := zeroC_rel g hz
  obtain ⟨e2, hu⟩ := hu
  have hbytes : i0.bytes = bytes := by rw [hinfo] at hb; simpa using hb
  have hvs : v.cells.size = wd := by have := hrz.length; simp at this; omega
  have hcapq : Builtin.nextslicecap (n + m) cap * bytes ≤ 2 ^ 48 := by
    have h2 := nextslicecap_le hgrow
    have h3 : Builtin.nextslicecap (n + m) cap * bytes ≤ (2 * (n + m) + 192) * bytes := Nat.mul_le_mul_right _ h2
    have h4 : (2 * (n + m) + 192) * bytes = 2 * ((n + m) * bytes) + 192 * bytes := by rw [Nat.add_mul, Nat.mul_assoc]
    simp only [room] at hroom
    omega
  refine ⟨(Question.appendCap (n + m) cap el).cut (w.tape w.drawn (.appendCap (n + m) cap el)),
    (Builtin.zeroCells v.cells ((Question.appendCap (n + m) cap el).cut (w.tape w.drawn (.appendCap (n + m) cap el)) - (n + m))).toList, ?_, ?_, ?_⟩
  · simp only [Question.cut]; omega
  · simp [Builtin.zeroCells, hvs]
  · have hq : (Question.appendCap (n + m) cap el).forced = false := rfl
    simp only [Builtin.append_, List.getElem?_toArray, List.getElem?_cons_zero, List.getElem?_cons_succ, Sem.run_bind, run_under ht, run_under hu, Result.andThen_ok, run_sizeOf hw, Sem.run_pure, Sem.run_ite, Bool.false_eq_true,
      if_false, Bool.not_false, if_true, hlenx]
    rw [if_neg (by omega)]
    simp only [false_or, run_typeInfo hinfo, Result.andThen_ok, hbytes]
    rw [if_neg (by omega), if_neg (by omega)]
    simp only [run_choose, hq, Bool.false_eq_true, if_false, Result.andThen_ok, run_askRoom, World.drew_eq]
    rw [hold w.drew rfl]
    simp only [Result.andThen_ok]
    rw [hnew w.drew rfl]
    simp only [Result.andThen_ok, run_zeroValue hinfo hzero, newRow, Sem.run_bind, run_newObj, Sem.run_pure]
    rw [show (old ++ new ++ (Builtin.zeroCells v.cells ((Question.appendCap (n + m) cap el).cut (w.tape w.drawn (.appendCap (n + m) cap el)) - (n + m))).toList).toArray =
      old.toArray ++ new.toArray ++ Builtin.zeroCells v.cells ((Question.appendCap (n + m) cap el).cut (w.tape w.drawn (.appendCap (n + m) cap el)) - (n + m)) from by simp]
    rfl


theorem run_appendOp {ρ : Operand → Value} {x y : Operand} {args : Array Operand} {ts : Array TypeId} {t u : TypeId} (ha : args.toList = [x, y]) (hts : ts.toList = [t, u]) (o : Oper)
    (ho : o.op = .call { callee := .builtin .append, args, argTypes := ts }) (r : Result Value) (hr : (Builtin.append_ #[t, u] 0 #[ρ x, ρ y]).run P w = r) :
    (execOp ρ o).run P w = r.andThen fun v w' => .ok (.value v) w' := by
  obtain rfl : args = #[x, y] := by rw [← Array.toList_inj, ha]
  obtain rfl : ts = #[t, u] := by rw [← Array.toList_inj, hts]
  have : Builtin.append_ #[t, u] o.type #[ρ x, ρ y] = Builtin.append_ #[t, u] 0 #[ρ x, ρ y] := rfl
  simp only [execOp, ho, resolve, Sem.run_bind, Sem.run_pure, Result.andThen_ok, invoke, builtin]
  simp [this, hr]

/-- append of an own copy of nothing: 'append(nil, x...)'. -/
theorem s_cpi (hf : Fr fb V g w B e tmps) (hi : Inv CR base g σ w) {x y : Operand} {Y : Opd} {args : Array Operand} {ts : Array TypeId} {t u el : TypeId} {wd bytes : Nat} {z : List D} (hx : x = .const (.slice none 0 0)) (hy : opdC y = some Y)
    (ha : args.toList = [x, y]) (hts : ts.toList = [t, u]) (ht : P.underlying t = some (.slice el)) (hu : ∃ e2, P.underlying u = some (.slice e2))
    (hw : sizeC P el = some wd) (hb : (P.info? el).map (·.bytes) = some bytes) (hz : zeroC P el = some z) (hzl : z.length = wd) (hbpos : 0 < bytes) (hbl : bytes ≤ 2 ^ 20)
    (h : sop e σ (.cpi wd bytes Y) = some (d, σ')) (o : Oper) (ho : o.op = .call { callee := .builtin .append, args, argTypes := ts }) : Does P CR base g w B e (Act.mk tmps df).eval o d σ' := by
  simp only [sop, Option.bind_eq_bind, Option.bind_eq_some_iff] at h
  obtain ⟨⟨m, xs⟩, he, h⟩ := h
  dsimp only at h
  split at h
  case isFalse => cases h
  rename_i hroom
  cases h
  obtain ⟨a, cap, vs, hc, hr, h1, hlen, hnil, hrd⟩ := elems_rel hi (hf.opd (df := df) hy) he
  have hx' : (Act.mk tmps df).eval x = .slice none 0 0 := by subst hx; rfl
  by_cases hm : m = 0
  · subst hm
    have hvs : vs = [] := by simpa using hlen
    subst hvs
    cases hr
    have hrun : (Builtin.append_ #[t, u] 0 #[(Act.mk tmps df).eval x, (Act.mk tmps df).eval y]).run P w = .ok (.slice none 0 0) w := by
      obtain ⟨e2, hu⟩ := hu
      rw [hx', hc]
      have hfc : (Builtin.firstCells wd 0 (.slice a 0 cap)).run P w = .ok #[] w := by
        have := run_firstCells (P := P) (w := w) (wd := wd) (n := 0) (a := a) (cap := cap) (vs := []) hnil (by simp) (fun x hx hne => absurd rfl hne) w rfl
        simpa using this
      simp [Builtin.append_, run_under ht, run_under hu, run_sizeOf hw, Builtin.lenOf, hfc]
    have := run_appendOp ha hts o ho _ hrun
    exact .pure hi (by simpa using this) (RelT.of .lstn)
  · have hroom' : (0 + m) * bytes ≤ room := by simpa using hroom
    obtain ⟨newCap, rest, k1, k2, k3⟩ := run_append_grow (P := P) (w := w) (a := none) (cap := 0) (n := 0) (old := []) (new := vs) (xv := (Act.mk tmps df).eval y) ht hu hw hb hz hzl hbpos hbl hroom' (by omega)
      (fun w' hw' => by simp [Builtin.firstCells]) (by rw [hc]; simp [Builtin.lenOf]) (fun w' hw' => by rw [hc]; exact run_firstCells hnil hlen hrd w' hw') g
    rw [← hx'] at k3
    have hrun := run_appendOp ha hts o ho _ k3
    obtain ⟨i1, e1, r1⟩ := (hi.heap (w1 := w.drew) rfl).newImm vs (([] : List Value) ++ vs ++ rest).toArray el (fun j y hy => ⟨by
      rw [List.getElem?_toArray, List.nil_append, List.getElem?_append_left (List.getElem?_eq_some_iff.1 hy).1]; exact hy, h1 y (List.mem_of_getElem? hy)⟩)
    refine .val (.slice (some ⟨w.heap.size, 0, none⟩) (0 + m) newCap) (by simpa using hrun) ((Ev.heap g (w := w) (w1 := w.drew) rfl rfl rfl rfl).trans e1) i1 ?_
    rw [Nat.zero_add]
    exact .lst _ _ _ _ _ (by omega) r1 (fun _ => rfl) (hr.mono e1.le)

/-- append. -/
theorem s_app (hf : Fr fb V g w B e tmps) (hi : Inv CR base g σ w) {x y : Operand} {X Y : Opd} {args : Array Operand} {ts : Array TypeId} {t u el : TypeId} {wd bytes : Nat} {z : List D} (hx : opdC x = some X) (hy : opdC y = some Y)
    (ha : args.toList = [x, y]) (hts : ts.toList = [t, u]) (ht : P.underlying t = some (.slice el)) (hu : ∃ e2, P.underlying u = some (.slice e2))
    (hw : sizeC P el = some wd) (hb : (P.info? el).map (·.bytes) = some bytes) (hz : zeroC P el = some z) (hzl : z.length = wd) (hbpos : 0 < bytes) (hbl : bytes ≤ 2 ^ 20)
    (h : sop e σ (.app wd bytes X Y) = some (d, σ')) (o : Oper) (ho : o.op = .call { callee := .builtin .append, args, argTypes := ts }) : Does P CR base g w B e (Act.mk tmps df).eval o d σ' := by
  simp only [sop, Option.bind_eq_bind, Option.bind_eq_some_iff] at h
  obtain ⟨⟨m, xs⟩, he, h⟩ := h
  dsimp only at h
  obtain ⟨a, cap, vs, hc, hr, h1, hlen, hnil, hrd⟩ := elems_rel hi (hf.opd (df := df) hy) he
  have hrx := hf.opd (df := df) hx
  split at h
  · rename_i hX
    rw [hX] at hrx
    split at h
    case isFalse => cases h
    rename_i hroom
    have hx' : (Act.mk tmps df).eval x = .slice none 0 0 := by
      generalize (Act.mk tmps df).eval x = cv at hrx
      cases hrx; rfl
    split at h
    · rename_i hm
      cases h
      subst hm
      have hvs : vs = [] := by simpa using hlen
      subst hvs
      have hrun : (Builtin.append_ #[t, u] 0 #[(Act.mk tmps df).eval x, (Act.mk tmps df).eval y]).run P w = .ok (.slice none 0 0) w := by
        obtain ⟨e2, hu⟩ := hu
        rw [hx', hc]
        have hfc : (Builtin.firstCells wd 0 (.slice a 0 cap)).run P w = .ok #[] w := by
          have := run_firstCells (P := P) (w := w) (wd := wd) (n := 0) (a := a) (cap := cap) (vs := []) hnil (by simp) (fun x hx hne => absurd rfl hne) w rfl
          simpa using this
        simp [Builtin.append_, run_under ht, run_under hu, run_sizeOf hw, Builtin.lenOf, hfc]
      have := run_appendOp ha hts o ho _ hrun
      exact .pure hi (by simpa using this) (RelT.of .nils)
    · rename_i hm
      simp only [Option.bind_eq_some_iff] at h
      obtain ⟨⟨l, i, σ1⟩, hn, h⟩ := h
      cases h
      have hroom' : (0 + m) * bytes ≤ room := by simpa using hroom
      obtain ⟨newCap, rest, k1, k2, k3⟩ := run_append_grow (P := P) (w := w) (a := none) (cap := 0) (n := 0) (old := []) (new := vs) (xv := (Act.mk tmps df).eval y) ht hu hw hb hz hzl hbpos hbl hroom' (by omega)
        (fun w' hw' => by simp [Builtin.firstCells]) (by rw [hc]; simp [Builtin.lenOf]) (fun w' hw' => by rw [hc]; exact run_firstCells hnil hlen hrd w' hw') g
      rw [← hx'] at k3
      have hrun := run_appendOp ha hts o ho _ k3
      obtain ⟨i1, e1⟩ := (hi.heap (w1 := w.drew) rfl).newCells hn vs (([] : List Value) ++ vs ++ rest).toArray el hr (by simp) (fun j y hy => ⟨by
        rw [List.getElem?_toArray, List.nil_append, List.getElem?_append_left (List.getElem?_eq_some_iff.1 hy).1]; exact hy, h1 y (List.mem_of_getElem? hy)⟩)
      refine .val (.slice (some ⟨w.heap.size, 0, none⟩) (0 + m) newCap) (by simpa using hrun) ((Ev.heap g (w := w) (w1 := w.drew) rfl rfl rfl rfl).trans e1) i1 ?_
      rw [Nat.zero_add]
      refine .sl l i 0 0 m wd _ _ _ G.setLoc_same (Nat.le_refl _) (by omega) (fun hh => by cases hh) (fun x hx _ => by cases hx; rfl) ?_ (fun hh => by cases hh)
      intro blk bo sz hL
      cases hL
      refine .inl ⟨rfl, ?_⟩
      have : newCap * wd = m * wd + (newCap - (0 + m)) * wd := by rw [← Nat.add_mul]; congr 1; omega
      simp; omega
  · rename_i l i v off n w' hX
    rw [hX] at hrx
    split at h
    case h_2 => cases h
    rename_i cs hcs
    split at h
    case isFalse => cases h
    rename_i hcond
    obtain ⟨hw', hle, hroom⟩ := hcond
    subst hw'
    obtain ⟨oa, ocap, ovs, hoc, hor, ho1, holen, honil, hord⟩ := elems_rel hi hrx (wd := w') (m := n) (xs := (cs.drop off).take (n * w')) (by simp [elems, hcs, hle])
    generalize hcv : (Act.mk tmps df).eval x = cv at hrx hoc
    cases hrx with
    | sl _ _ _ _ _ _ sa scap L k1 k2 k3 k4 k5 k6 k7 =>
      simp only [Value.slice.injEq, true_and] at hoc
      obtain ⟨hoc1, hoc2⟩ := hoc
      subst hoc1 hoc2
      unfold cells? at hcs
      split at hcs
      case h_2 => cases hcs
      rename_i v' cs' hblk
      split at hcs
      case isFalse => cases hcs
      rename_i hv; subst hv; cases hcs
      -- the new elements, made ready
      obtain ⟨xs', σ1, g1, i1, e1, r1, hlen', hblk1, rfl, rfl⟩ : ∃ xs' σ1 g1, Inv CR base g1 σ1 w ∧ Ev g w g1 w ∧ RelL g1 xs' vs ∧ xs'.length = xs.length ∧ blk? σ1 l i = some (.cells v' cs) ∧
          σ' = setBlk σ1 l i (.cells (v' + 1) ((cs.drop off).take (n * w') ++ xs')) ∧ d = .sl l i (v' + 1) 0 (n + m) w' := by
        split at h
        · cases h
          exact ⟨xs, σ, g, hi, Ev.refl g w, hr, rfl, hblk, rfl, rfl⟩
        · cases h
          obtain ⟨g1, i1, e1, r1⟩ := frzL_ok (CR := CR) (base := base) (frz_ok l deep) xs σ g w _ hi hr
          obtain ⟨_, k8, k9⟩ := frzL_keep l deep xs σ
          exact ⟨_, _, g1, i1, e1, r1, k8, (k9 l i (Nat.le_refl _)).trans hblk, rfl, rfl⟩
      obtain ⟨L1, hL1, hle1⟩ := e1.le.loc l i L k1
      obtain ⟨b1, hb1, hrel⟩ := i1.dom l i L1 hL1
      rw [hblk1] at hb1; cases hb1
      have hlx : (Builtin.lenOf ((Act.mk tmps df).eval y)).run P w = .ok m w := by rw [hc]; simp [Builtin.lenOf]
      have hnew : ∀ w1, w1.heap = w.heap → (Builtin.firstCells w' m ((Act.mk tmps df).eval y)).run P w1 = .ok vs.toArray w1 := fun w1 hw1 => by rw [hc]; exact run_firstCells hnil hlen hrd w1 hw1
      have hxl : xs'.length = m * w' := by rw [hlen', hr.length]; exact hlen
      have hold : ∀ w1, w1.heap = w.heap → (Builtin.firstCells w' n (.slice sa n scap)).run P w1 = .ok ovs.toArray w1 := fun w1 hw1 => run_firstCells honil holen hord w1 hw1
      have hrcat : RelL g1 ((cs.drop off).take (n * w') ++ xs') (ovs ++ vs) := (hor.mono e1.le).append r1
      have h1cat : ∀ x ∈ ovs ++ vs, x.oneCell' = true := fun x hx => by
        rcases List.mem_append.1 hx with hx | hx
        · exact ho1 x hx
        · exact h1 x hx
      have hnmw : (n + m) * w' = n * w' + m * w' := Nat.add_mul _ _ _
      by_cases hgrow : scap < n + m
      · -- a new block
        obtain ⟨newCap, rest, q1, q2, q3⟩ := run_append_grow (P := P) (w := w) (a := sa) (cap := scap) (n := n) (old := ovs) (new := vs) (xv := (Act.mk tmps df).eval y) ht hu hw hb hz hzl hbpos hbl hroom hgrow hold hlx hnew g
        rw [← hcv] at q3
        have hrun := run_appendOp ha hts o ho _ q3
        have hsize : ((ovs ++ vs ++ rest).toArray).size = newCap * w' := by
          have : newCap * w' = (n + m) * w' + (newCap - (n + m)) * w' := by rw [← Nat.add_mul]; congr 1; omega
          simp; omega
        have hver : L1.le (.at w.heap.size 0 (v' + 1) (newCap * w')) := by
          cases L1 with
          | dead => exact hrel.elim
          | lp z => exact hrel.elim
          | virt v2 => obtain ⟨rfl, _⟩ := hrel; simp only [Loc.le]; exact .inr (.inr (.inl ⟨_, _, _, _, rfl, by omega⟩))
          | «at» blk bo v2 bsz => obtain ⟨rfl, _⟩ := hrel; simp only [Loc.le]; exact .inr (.inr ⟨_, _, _, _, rfl, by omega⟩)
        have hle2 : g1.le (g1.setLoc l i (.at w.heap.size 0 (v' + 1) (newCap * w'))) := G.le_setLoc fun L0 e0 => by rw [hL1] at e0; cases e0; exact hver
        obtain ⟨i2, e2⟩ := i1.setCells (w' := w.drew.alloc (.cells (ovs ++ vs ++ rest).toArray el)) (L := .at w.heap.size 0 (v' + 1) (newCap * w')) (v := v' + 1) (ds := (cs.drop off).take (n * w') ++ xs') hL1 hblk1 hver
          ⟨rfl, (ovs ++ vs ++ rest).toArray, el, alloc_new (w := w.drew), hsize, by
            have : newCap * w' = (n + m) * w' + (newCap - (n + m)) * w' := by rw [← Nat.add_mul]; congr 1; omega
            rw [hrcat.length]; simp; omega, ovs ++ vs, hrcat.mono hle2, fun j x hx => ⟨by
              rw [List.getElem?_toArray, Nat.zero_add, List.getElem?_append_left (List.getElem?_eq_some_iff.1 hx).1]; exact hx, h1cat x (List.mem_of_getElem? hx)⟩⟩
          (fun b' hb' hne => alloc_old (w := w.drew) hb') rfl rfl rfl (by simp) (fun b' hb' => by cases hb'; exact .inr ⟨Nat.le_refl _, by simp⟩)
        refine .val (.slice (some ⟨w.heap.size, 0, none⟩) (n + m) newCap) (by simpa using hrun) (e1.trans e2) i2 ?_
        refine .sl l i _ _ _ _ _ _ _ G.setLoc_same (Nat.le_refl _) q1 (fun hh => by cases hh) (fun x hx _ => by cases hx; rfl) ?_ (fun hh => by cases hh)
        intro blk bo sz hL
        cases hL
        exact .inl ⟨rfl, by omega⟩
      · -- in its place
        have hne : n + m ≤ scap := by omega
        have hrun1 : ∀ (w1 : World), (match sa with | some a => Builtin.firstCells 0 0 (.slice none 0 0) | none => Builtin.firstCells 0 0 (.slice none 0 0)).run P w1 = .ok #[] w1 := by
          intro w1; cases sa <;> simp [Builtin.firstCells]
        cases L1 with
        | dead => exact hrel.elim
        | lp z => exact hrel.elim
        | virt v2 =>
          obtain ⟨rfl, rfl⟩ := hrel
          obtain rfl := k7 (Loc.back_virt k2 hle1 rfl)
          obtain rfl := k4 rfl
          obtain rfl : n = 0 := by omega
          obtain rfl : m = 0 := by omega
          have hvs : vs = [] := by simpa using hlen
          subst hvs
          have hxs' : xs' = [] := by simpa using hxl
          subst hxs'
          have hrun : (Builtin.append_ #[t, u] 0 #[(Act.mk tmps df).eval x, (Act.mk tmps df).eval y]).run P w = .ok (.slice none 0 0) w := by
            obtain ⟨e2, hu⟩ := hu
            have := hnew w rfl
            rw [hc] at this
            rw [hcv, hc]
            simp [Builtin.append_, run_under ht, run_under hu, run_sizeOf hw, Builtin.lenOf, this]
          have hrun := run_appendOp ha hts o ho _ hrun
          have hver : Loc.le (.virt v') (.virt (v' + 1)) := by simp only [Loc.le]; exact .inr (.inr (.inr ⟨_, rfl, by omega⟩))
          obtain ⟨i2, e2⟩ := i1.setCells (w' := w) (L := .virt (v' + 1)) (v := v' + 1) (ds := (([] : List D).drop off).take (0 * w') ++ []) hL1 hblk1 hver ⟨rfl, by simp⟩ (fun b' hb' hne => rfl) rfl rfl rfl (Nat.le_refl _) (fun b' hb' => by cases hb')
          refine .val (.slice none 0 0) (by simpa using hrun) (e1.trans e2) i2 ?_
          exact .sl l i _ _ _ _ none 0 _ G.setLoc_same (Nat.le_refl _) (Nat.le_refl _) (fun _ => rfl) (fun _ hh => by cases hh) (fun _ _ _ hh => by cases hh) (fun _ => rfl)
        | «at» blk bo v2 bsz =>
          obtain ⟨rfl, ca, el', hheap, hcsz, hclen, cvs, hcr, hcvs⟩ := hrel
          have hLeq := Loc.back k2 hle1 rfl
          have hcl := hcr.length
          have hofs : bo + off + (n * w') ≤ bsz := by omega
          -- the row is written
          have hwr : ∃ w2 c2, (Builtin.append_ #[t, u] 0 #[(Act.mk tmps df).eval x, (Act.mk tmps df).eval y]).run P w = .ok (.slice sa (n + m) scap) w2 ∧ w2.heap[blk]? = some (.cells c2 el' (0, 0)) ∧ c2.size = ca.size ∧
              bo + off + (n + m) * w' ≤ bsz ∧
              (∀ j, c2[j]? = if bo + off + n * w' ≤ j ∧ j < bo + off + n * w' + vs.length then vs[j - (bo + off + n * w')]? else ca[j]?) ∧ (∀ x, x ≠ blk → w2.heap[x]? = w.heap[x]?) ∧ w2.heap.size = w.heap.size ∧
              w2.os = w.os ∧ w2.tape = w.tape ∧ w2.output = w.output := by
            obtain ⟨e2, hu⟩ := hu
            have hn2 := hnew w rfl
            rw [hc] at hn2
            rcases k6 blk bo bsz hLeq with ⟨rfl, k8⟩ | k8
            · have hcapw : (n + m) * w' ≤ scap * w' := Nat.mul_le_mul_right _ hne
              obtain ⟨w2, c2, hrun, r2, r3, r4, r5⟩ := run_storeCells (P := P) (b := blk) (el := el') vs w (bo + off + n * w') 0 ca h1 hheap (by omega)
              refine ⟨w2, c2, ?_, r2, r3, by omega, by simpa using r4, r5⟩
              rw [hcv, hc]
              have hadd : Addr.add ⟨blk, bo + off, none⟩ (n * w') = ⟨blk, bo + off + n * w', none⟩ := add_eq _ _ _
              simp [Builtin.append_, run_under ht, run_under hu, run_sizeOf hw, Builtin.lenOf, hn2, hne, hadd, hrun]
            · obtain rfl : n = 0 := by omega
              obtain rfl : m = 0 := by omega
              have hvs : vs = [] := by simpa using hlen
              subst hvs
              refine ⟨w, ca, ?_, hheap, rfl, by omega, fun j => by rw [if_neg (by simp only [List.length_nil]; omega)], fun _ _ => rfl, rfl, rfl, rfl, rfl⟩
              rw [hcv, hc]
              subst k8
              have hst : ∀ (aa : Addr), (storeCells aa ([] : List Value) 0).run P w = .ok () w := fun aa => by simp [storeCells]
              cases sa with
              | none => simp [Builtin.append_, run_under ht, run_under hu, run_sizeOf hw, Builtin.lenOf, hn2]
              | some aa => simp [Builtin.append_, run_under ht, run_under hu, run_sizeOf hw, Builtin.lenOf, hn2, hst]
          obtain ⟨w2, c2, hrun, p1, p2, p3, p4, p5, p6, p7, p8, p9⟩ := hwr
          have hrun := run_appendOp ha hts o ho _ hrun
          have hver : Loc.le (.at blk bo v' bsz) (.at blk (bo + off) (v' + 1) bsz) := by simp only [Loc.le]; exact .inr (.inr ⟨_, _, _, _, rfl, by omega⟩)
          have hle2 : g1.le (g1.setLoc l i (.at blk (bo + off) (v' + 1) bsz)) := G.le_setLoc fun L0 e0 => by rw [hL1] at e0; cases e0; exact hver
          have hcellsrel : RelL g1 ((cs.drop off).take (n * w') ++ xs') ((cvs.drop off).take (n * w') ++ vs) := ((hcr.drop off).take _).append r1
          have hl1 : ((cvs.drop off).take (n * w')).length = n * w' := by simp; omega
          obtain ⟨i2, e2⟩ := i1.setCells (w' := w2) (L := .at blk (bo + off) (v' + 1) bsz) (v := v' + 1) (ds := (cs.drop off).take (n * w') ++ xs') hL1 hblk1 hver
            ⟨rfl, c2, el', p1, by rw [p2, hcsz], by rw [hcellsrel.length, List.length_append, hl1, hlen]; omega, (cvs.drop off).take (n * w') ++ vs, hcellsrel.mono hle2, fun j x hx => by
              rw [p4]
              rw [List.getElem?_append] at hx
              split at hx
              · rename_i hj
                rw [hl1] at hj
                rw [if_neg (by omega)]
                rw [List.getElem?_take, if_pos hj, List.getElem?_drop] at hx
                have := hcvs _ x hx
                rwa [show bo + (off + j) = bo + off + j from by omega] at this
              · rename_i hj
                rw [hl1] at hj hx
                have hlt := (List.getElem?_eq_some_iff.1 hx).1
                rw [if_pos (by omega), show bo + off + j - (bo + off + n * w') = j - n * w' from by omega]
                exact ⟨hx, h1 x (List.mem_of_getElem? hx)⟩⟩
            (fun b' hb' hne => p5 b' (fun hh => hne (by rw [hh]; rfl))) p7 p8 p9 (by omega) (fun b' hb' => .inl hb')
          refine .val (.slice sa (n + m) scap) (by simpa using hrun) (e1.trans e2) i2 ?_
          refine .sl l i _ _ _ _ _ _ _ G.setLoc_same (Nat.le_refl _) hne k4 ?_ ?_ (fun hh => by cases hh)
          · intro x hx hne0
            subst hx
            rcases k6 blk bo bsz hLeq with ⟨k9, _⟩ | k9
            · cases k9; rfl
            · omega
          · intro blk' bo' sz' hL
            cases hL
            rcases k6 blk bo bsz hLeq with ⟨k9, k10⟩ | k9
            · exact .inl ⟨by rw [k9]; simp, by omega⟩
            · exact .inr k9
  · cases h

end ops
end Go.Abs
