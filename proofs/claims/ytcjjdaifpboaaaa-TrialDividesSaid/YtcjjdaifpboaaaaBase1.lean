/- The interpreter, part 1: proved sound against the model. -/
import Derived.Test.YtcjjdaifpboaaaaBase0
import Derived.ChangeKeysEq
import Derived.RangeFuncNested
import Derived.Orders
/-
  append; rows that are the same.
-/
set_option linter.unusedVariables false
set_option linter.unusedSimpArgs false
namespace Go.Abs
open Go

theorem growBy_le (n : Nat) : ∀ (r c : Nat), c ≤ 2 * n + 192 → Builtin.growBy n r c ≤ 2 * n + 192
  | 0, c, h => h
  | r + 1, c, h => by
    simp only [Builtin.growBy]
    split
    · exact h
    · exact growBy_le n r _ (by omega)

theorem nextslicecap_le {need cap : Nat} (h : cap < need) : Builtin.nextslicecap need cap ≤ 2 * need + 192 := by
  unfold Builtin.nextslicecap
  split
  · omega
  · split
    · omega
    · exact growBy_le need 4 cap (by omega)

section ops
variable {P : Program} {CR : CRel} {base fb : Nat} {V : List Nat} {g : G} {σ σ' : Stack} {w : World} {B : Nat → Nat} {e : Env} {tmps : Array Value} {df : List Deferred}
  {d : D}

theorem run_firstCells {wd n : Nat} {a : Option Addr} {cap : Nat} {vs : List Value} (hnil : a = none → n = 0) (hlen : vs.length = n * wd)
    (hrd : ∀ x, a = some x → n ≠ 0 → x.spot = none ∧ Rd w x.block x.off vs) (w' : World) (hw : w'.heap = w.heap) : (Builtin.firstCells wd n (.slice a n cap)).run P w' = .ok vs.toArray w' := by
  cases a with
  | none =>
    obtain rfl := hnil rfl
    simp only [Nat.zero_mul, List.length_eq_zero_iff] at hlen
    subst hlen
    simp [Builtin.firstCells]
  | some x =>
    simp only [Builtin.firstCells]
    by_cases hn : n = 0
    · subst hn
      simp only [Nat.zero_mul, List.length_eq_zero_iff] at hlen
      subst hlen
      simp [loadCells, loadCellsFrom]
    · obtain ⟨h1, h2⟩ := hrd x rfl hn
      obtain ⟨b, o, sp⟩ := x
      simp only at h1; subst h1
      rw [← hlen]
      exact run_loadCells_list w' ⟨b, o, none⟩ vs (fun j v hj => by
        rw [add_eq]
        have := h2 j v hj
        simp only [World.cell?, hw] at this ⊢
        exact this)

/-- The elements that are appended, in memory. -/
theorem elems_rel (hi : Inv CR base g σ w) {wd : Nat} {dx : D} {c : Value} {m : Nat} {xs : List D} (hr : RelV g dx c) (he : elems σ wd dx = some (m, xs)) :
    ∃ (a : Option Addr) (cap : Nat) (vs : List Value), c = .slice a m cap ∧ RelL g xs vs ∧ (∀ x ∈ vs, x.oneCell' = true) ∧ vs.length = m * wd ∧ (a = none → m = 0) ∧ (∀ x, a = some x → m ≠ 0 → x.spot = none ∧ Rd w x.block x.off vs) := by
  unfold elems at he
  split at he
  · cases he; cases hr
    exact ⟨none, 0, [], rfl, .nil, by simp, by simp, fun _ => rfl, fun _ hh => by cases hh⟩
  · rename_i n cs
    split at he
    case isFalse => cases he
    rename_i hlen
    cases he
    cases hr with
    | lstn => exact ⟨none, 0, [], rfl, .nil, by simp, by simp, fun _ => rfl, fun _ hh => by cases hh⟩
    | lst _ _ a cap vs hn h1 h2 h3 =>
      refine ⟨some a, cap, vs, rfl, h3, fun x hx => ?_, by rw [← h3.length, hlen], fun hh => (by cases hh), fun x hx hne => ?_⟩
      · obtain ⟨j, hj⟩ := List.getElem?_of_mem hx
        exact (hi.imm _ _ _ (h1 j x hj)).2
      · cases hx
        exact ⟨h2 hne, fun j y hy => (hi.imm _ _ _ (h1 j y hy)).1⟩
  · rename_i l i v off n w'
    split at he
    case isFalse => cases he
    rename_i hw'; subst hw'
    split at he
    case h_2 => cases he
    rename_i cs hcs
    split at he
    case isFalse => cases he
    rename_i hle
    cases he
    cases hr with
    | sl _ _ _ _ _ _ a cap L k1 k2 k3 k4 k5 k6 k7 =>
      unfold cells? at hcs
      split at hcs
      case h_2 => cases hcs
      rename_i v' cs' hblk
      split at hcs
      case isFalse => cases hcs
      rename_i hv; subst hv; cases hcs
      obtain ⟨b0, hb0, hrel⟩ := hi.dom _ _ _ k1
      rw [hblk] at hb0; cases hb0
      cases L with
      | dead => exact hrel.elim
      | lp z => exact hrel.elim
      | virt v2 =>
        obtain ⟨rfl, rfl⟩ := hrel
        obtain rfl := k7 rfl
        obtain rfl := k4 rfl
        obtain rfl : m = 0 := by omega
        exact ⟨none, 0, [], rfl, by simpa using RelL.nil, by simp, by simp, fun _ => rfl, fun _ hh => by cases hh⟩
      | «at» blk bo v2 bsz =>
        obtain ⟨rfl, ca, el, hheap, hcsz, hlen, vs, hr, hvs⟩ := hrel
        refine ⟨a, cap, (vs.drop off).take (m * w'), rfl, (hr.drop off).take _, fun x hx => ?_, ?_, fun hh => ?_, fun x hx hne => ?_⟩
        · obtain ⟨j, hj⟩ := List.getElem?_of_mem (List.mem_of_mem_drop (List.mem_of_mem_take hx))
          exact (hvs j x hj).2
        · have := hr.length
          simp; omega
        · have := k4 hh; omega
        · rcases k6 blk bo bsz rfl with ⟨rfl, k8⟩ | k8
          · cases hx
            refine ⟨rfl, Rd.take (Rd.drop (fun j y hy => ?_) off) _⟩
            simp only [World.cell?, hheap]
            simpa using (hvs j y hy).1
          · omega
  · cases he

/-- append where there is no room: a new block. -/
theorem run_append_grow {el t u : TypeId} {wd bytes n m cap : Nat} {a : Option Addr} {xv : Value} {z : List D} {old new : List Value} (ht : P.underlying t = some (.slice el)) (hu : ∃ e2, P.underlying u = some (.slice e2))
    (hw : sizeC P el = some wd) (hb : (P.info? el).map (·.bytes) = some bytes) (hz : zeroC P el = some z) (hzl : z.length = wd) (hbpos : 0 < bytes) (hbl : bytes ≤ 2 ^ 20) (hroom : (n + m) * bytes ≤ room)
    (hgrow : cap < n + m) (hold : ∀ w', w'.heap = w.heap → (Builtin.firstCells wd n (.slice a n cap)).run P w' = .ok old.toArray w')
    (hlenx : (Builtin.lenOf xv).run P w = .ok m w) (hnew : ∀ w', w'.heap = w.heap → (Builtin.firstCells wd m xv).run P w' = .ok new.toArray w') (g : G) :
    ∃ (newCap : Nat) (rest : List Value), n + m ≤ newCap ∧ rest.length = (newCap - (n + m)) * wd ∧
      (Builtin.append_ #[t, u] 0 #[.slice a n cap, xv]).run P w = .ok (.slice (some ⟨w.heap.size, 0, none⟩) (n + m) newCap) (w.drew.alloc (.cells (old ++ new ++ rest).toArray el)) := by
  obtain ⟨i0, v, hinfo, hzero, hrz, h1⟩ := zeroC_rel g hz
  obtain ⟨e2, hu⟩ := hu
  have hbytes : i0.bytes = bytes := by rw [hinfo] at hb; simpa using hb
  have hvs : v.cells.size = wd := by have := hrz.length; simp at this; omega
  have hcapq : Builtin.nextslicecap (n + m) cap * bytes ≤ 2 ^ 48 := by
    have h2 := nextslicecap_le hgrow
    have h3 : Builtin.nextslicecap (n + m) cap * bytes ≤ (2 * (n + m) + 192) * bytes := Nat.mul_le_mul_right _ h2
    have h4 : (2 * (n + m) + 192) * bytes = 2 * ((n + m) * bytes) + 192 * bytes := by rw [Nat.add_mul, Nat.mul_assoc]
    simp only [room] at hroom
    omega
  refine ⟨(Question.appendCap (n + m) cap el).cut (w.tape w.drawn (.appendCap (n + m) cap el)),
    (Builtin.zeroCells v.cells ((Question.appendCap (n + m) cap el).cut (w.tape w.drawn (.appendCap (n + m) cap el)) - (n + m))).toList, ?_, ?_, ?_⟩
  · simp only [Question.cut]; omega
  · simp [Builtin.zeroCells, hvs]
  · have hq : (Question.appendCap (n + m) cap el).forced = false := rfl
    simp only [Builtin.append_, List.getElem?_toArray, List.getElem?_cons_zero, List.getElem?_cons_succ, Sem.run_bind, run_under ht, run_under hu, Result.andThen_ok, run_sizeOf hw, Sem.run_pure, Sem.run_ite, Bool.false_eq_true,
      if_false, Bool.not_false, if_true, hlenx]
    rw [if_neg (by omega)]
    simp only [false_or, run_typeInfo hinfo, Result.andThen_ok, hbytes]
    rw [if_neg (by omega), if_neg (by omega)]
    simp only [run_choose, hq, Bool.false_eq_true, if_false, Result.andThen_ok, run_askRoom, World.drew_eq]
    rw [hold w.drew rfl]
    simp only [Result.andThen_ok]
    rw [hnew w.drew rfl]
    simp only [Result.andThen_ok, run_zeroValue hinfo hzero, newRow, Sem.run_bind, run_newObj, Sem.run_pure]
    rw [show (old ++ new ++ (Builtin.zeroCells v.cells ((Question.appendCap (n + m) cap el).cut (w.tape w.drawn (.appendCap (n + m) cap el)) - (n + m))).toList).toArray =
      old.toArray ++ new.toArray ++ Builtin.zeroCells v.cells ((Question.appendCap (n + m) cap el).cut (w.tape w.drawn (.appendCap (n + m) cap el)) - (n + m)) from by simp]
    rfl


theorem run_appendOp {ρ : Operand → Value} {x y : Operand} {args : Array Operand} {ts : Array TypeId} {t u : TypeId} (ha : args.toList = [x, y]) (hts : ts.toList = [t, u]) (o : Oper)
    (ho : o.op = .call { callee := .builtin .append, args, argTypes := ts }) (r : Result Value) (hr : (Builtin.append_ #[t, u] 0 #[ρ x, ρ y]).run P w = r) :
    (execOp ρ o).run P w = r.andThen fun v w' => .ok (.value v) w' := by
  obtain rfl : args = #[x, y] := by rw [← Array.toList_inj, ha]
  obtain rfl : ts = #[t, u] := by rw [← Array.toList_inj, hts]
  have : Builtin.append_ #[t, u] o.type #[ρ x, ρ y] = Builtin.append_ #[t, u] 0 #[ρ x, ρ y] := rfl
  simp only [execOp, ho, resolve, Sem.run_bind, Sem.run_pure, Result.andThen_ok, invoke, builtin]
  simp [this, hr]

/-- append of an own copy of nothing: 'append(nil, x...)'. -/
theorem s_cpi (hf : Fr fb V g w B e tmps) (hi : Inv CR base g σ w) {x y : Operand} {Y : Opd} {args : Array Operand} {ts : Array TypeId} {t u el : TypeId} {wd bytes : Nat} {z : List D} (hx : x = .const (.slice none 0 0)) (hy : opdC y = some Y)
    (ha : args.toList = [x, y]) (hts : ts.toList = [t, u]) (ht : P.underlying t = some (.slice el)) (hu : ∃ e2, P.underlying u = some (.slice e2))
    (hw : sizeC P el = some wd) (hb : (P.info? el).map (·.bytes) = some bytes) (hz : zeroC P el = some z) (hzl : z.length = wd) (hbpos : 0 < bytes) (hbl : bytes ≤ 2 ^ 20)
    (h : sop e σ (.cpi wd bytes Y) = some (d, σ')) (o : Oper) (ho : o.op = .call { callee := .builtin .append, args, argTypes := ts }) : Does P CR base g w B e (Act.mk tmps df).eval o d σ' := by
  simp only [sop, Option.bind_eq_bind, Option.bind_eq_some_iff] at h
  obtain ⟨⟨m, xs⟩, he, h⟩ := h
  dsimp only at h
  split at h
  case isFalse => cases h
  rename_i hroom
  cases h
  obtain ⟨a, cap, vs, hc, hr, h1, hlen, hnil, hrd⟩ := elems_rel hi (hf.opd (df := df) hy) he
  have hx' : (Act.mk tmps df).eval x = .slice none 0 0 := by subst hx; rfl
  by_cases hm : m = 0
  · subst hm
    have hvs : vs = [] := by simpa using hlen
    subst hvs
    cases hr
    have hrun : (Builtin.append_ #[t, u] 0 #[(Act.mk tmps df).eval x, (Act.mk tmps df).eval y]).run P w = .ok (.slice none 0 0) w := by
      obtain ⟨e2, hu⟩ := hu
      rw [hx', hc]
      have hfc : (Builtin.firstCells wd 0 (.slice a 0 cap)).run P w = .ok #[] w := by
        have := run_firstCells (P := P) (w := w) (wd := wd) (n := 0) (a := a) (cap := cap) (vs := []) hnil (by simp) (fun x hx hne => absurd rfl hne) w rfl
        simpa using this
      simp [Builtin.append_, run_under ht, run_under hu, run_sizeOf hw, Builtin.lenOf, hfc]
    have := run_appendOp ha hts o ho _ hrun
    exact .pure hi (by simpa using this) (RelT.of .lstn)
  · have hroom' : (0 + m) * bytes ≤ room := by simpa using hroom
    obtain ⟨newCap, rest, k1, k2, k3⟩ := run_append_grow (P := P) (w := w) (a := none) (cap := 0) (n := 0) (old := []) (new := vs) (xv := (Act.mk tmps df).eval y) ht hu hw hb hz hzl hbpos hbl hroom' (by omega)
      (fun w' hw' => by simp [Builtin.firstCells]) (by rw [hc]; simp [Builtin.lenOf]) (fun w' hw' => by rw [hc]; exact run_firstCells hnil hlen hrd w' hw') g
    rw [← hx'] at k3
    have hrun := run_appendOp ha hts o ho _ k3
    obtain ⟨i1, e1, r1⟩ := (hi.heap (w1 := w.drew) rfl).newImm vs (([] : List Value) ++ vs ++ rest).toArray el (fun j y hy => ⟨by
      rw [List.getElem?_toArray, List.nil_append, List.getElem?_append_left (List.getElem?_eq_some_iff.1 hy).1]; exact hy, h1 y (List.mem_of_getElem? hy)⟩)
    refine .val (.slice (some ⟨w.heap.size, 0, none⟩) (0 + m) newCap) (by simpa using hrun) ((Ev.heap g (w := w) (w1 := w.drew) rfl rfl rfl rfl).trans e1) i1 ?_
    rw [Nat.zero_add]
    exact .lst _ _ _ _ _ (by omega) r1 (fun _ => rfl) (hr.mono e1.le)

/-- append. -/
theorem s_app (hf : Fr fb V g w B e tmps) (hi : Inv CR base g σ w) {x y : Operand} {X Y : Opd} {args : Array Operand} {ts : Array TypeId} {t u el : TypeId} {wd bytes : Nat} {z : List D} (hx : opdC x = some X) (hy : opdC y = some Y)
    (ha : args.toList = [x, y]) (hts : ts.toList = [t, u]) (ht : P.underlying t = some (.slice el)) (hu : ∃ e2, P.underlying u = some (.slice e2))
    (hw : sizeC P el = some wd) (hb : (P.info? el).map (·.bytes) = some bytes) (hz : zeroC P el = some z) (hzl : z.length = wd) (hbpos : 0 < bytes) (hbl : bytes ≤ 2 ^ 20)
    (h : sop e σ (.app wd bytes X Y) = some (d, σ')) (o : Oper) (ho : o.op = .call { callee := .builtin .append, args, argTypes := ts }) : Does P CR base g w B e (Act.mk tmps df).eval o d σ' := by
  simp only [sop, Option.bind_eq_bind, Option.bind_eq_some_iff] at h
  obtain ⟨⟨m, xs⟩, he, h⟩ := h
  dsimp only at h
  obtain ⟨a, cap, vs, hc, hr, h1, hlen, hnil, hrd⟩ := elems_rel hi (hf.opd (df := df) hy) he
  have hrx := hf.opd (df := df) hx
  split at h
  · rename_i hX
    rw [hX] at hrx
    split at h
    case isFalse => cases h
    rename_i hroom
    have hx' : (Act.mk tmps df).eval x = .slice none 0 0 := by
      generalize (Act.mk tmps df).eval x = cv at hrx
      cases hrx; rfl
    split at h
    · rename_i hm
      cases h
      subst hm
      have hvs : vs = [] := by simpa using hlen
      subst hvs
      have hrun : (Builtin.append_ #[t, u] 0 #[(Act.mk tmps df).eval x, (Act.mk tmps df).eval y]).run P w = .ok (.slice none 0 0) w := by
        obtain ⟨e2, hu⟩ := hu
        rw [hx', hc]
        have hfc : (Builtin.firstCells wd 0 (.slice a 0 cap)).run P w = .ok #[] w := by
          have := run_firstCells (P := P) (w := w) (wd := wd) (n := 0) (a := a) (cap := cap) (vs := []) hnil (by simp) (fun x hx hne => absurd rfl hne) w rfl
          simpa using this
        simp [Builtin.append_, run_under ht, run_under hu, run_sizeOf hw, Builtin.lenOf, hfc]
      have := run_appendOp ha hts o ho _ hrun
      exact .pure hi (by simpa using this) (RelT.of .nils)
    · rename_i hm
      simp only [Option.bind_eq_some_iff] at h
      obtain ⟨⟨l, i, σ1⟩, hn, h⟩ := h
      cases h
      have hroom' : (0 + m) * bytes ≤ room := by simpa using hroom
      obtain ⟨newCap, rest, k1, k2, k3⟩ := run_append_grow (P := P) (w := w) (a := none) (cap := 0) (n := 0) (old := []) (new := vs) (xv := (Act.mk tmps df).eval y) ht hu hw hb hz hzl hbpos hbl hroom' (by omega)
        (fun w' hw' => by simp [Builtin.firstCells]) (by rw [hc]; simp [Builtin.lenOf]) (fun w' hw' => by rw [hc]; exact run_firstCells hnil hlen hrd w' hw') g
      rw [← hx'] at k3
      have hrun := run_appendOp ha hts o ho _ k3
      obtain ⟨i1, e1⟩ := (hi.heap (w1 := w.drew) rfl).newCells hn vs (([] : List Value) ++ vs ++ rest).toArray el hr (by simp) (fun j y hy => ⟨by
        rw [List.getElem?_toArray, List.nil_append, List.getElem?_append_left (List.getElem?_eq_some_iff.1 hy).1]; exact hy, h1 y (List.mem_of_getElem? hy)⟩)
      refine .val (.slice (some ⟨w.heap.size, 0, none⟩) (0 + m) newCap) (by simpa using hrun) ((Ev.heap g (w := w) (w1 := w.drew) rfl rfl rfl rfl).trans e1) i1 ?_
      rw [Nat.zero_add]
      refine .sl l i 0 0 m wd _ _ _ G.setLoc_same (Nat.le_refl _) (by omega) (fun hh => by cases hh) (fun x hx _ => by cases hx; rfl) ?_ (fun hh => by cases hh)
      intro blk bo sz hL
      cases hL
      refine .inl ⟨rfl, ?_⟩
      have : newCap * wd = m * wd + (newCap - (0 + m)) * wd := by rw [← Nat.add_mul]; congr 1; omega
      simp; omega
  · rename_i l i v off n w' hX
    rw [hX] at hrx
    split at h
    case h_2 => cases h
    rename_i cs hcs
    split at h
    case isFalse => cases h
    rename_i hcond
    obtain ⟨hw', hle, hroom⟩ := hcond
    subst hw'
    obtain ⟨oa, ocap, ovs, hoc, hor, ho1, holen, honil, hord⟩ := elems_rel hi hrx (wd := w') (m := n) (xs := (cs.drop off).take (n * w')) (by simp [elems, hcs, hle])
    generalize hcv : (Act.mk tmps df).eval x = cv at hrx hoc
    cases hrx with
    | sl _ _ _ _ _ _ sa scap L k1 k2 k3 k4 k5 k6 k7 =>
      simp only [Value.slice.injEq, true_and] at hoc
      obtain ⟨hoc1, hoc2⟩ := hoc
      subst hoc1 hoc2
      unfold cells? at hcs
      split at hcs
      case h_2 => cases hcs
      rename_i v' cs' hblk
      split at hcs
      case isFalse => cases hcs
      rename_i hv; subst hv; cases hcs
      -- the new elements, made ready
      obtain ⟨xs', σ1, g1, i1, e1, r1, hlen', hblk1, rfl, rfl⟩ : ∃ xs' σ1 g1, Inv CR base g1 σ1 w ∧ Ev g w g1 w ∧ RelL g1 xs' vs ∧ xs'.length = xs.length ∧ blk? σ1 l i = some (.cells v' cs) ∧
          σ' = setBlk σ1 l i (.cells (v' + 1) ((cs.drop off).take (n * w') ++ xs')) ∧ d = .sl l i (v' + 1) 0 (n + m) w' := by
        split at h
        · cases h
          exact ⟨xs, σ, g, hi, Ev.refl g w, hr, rfl, hblk, rfl, rfl⟩
        · cases h
          obtain ⟨g1, i1, e1, r1⟩ := frzL_ok (CR := CR) (base := base) (frz_ok l deep) xs σ g w _ hi hr
          obtain ⟨_, k8, k9⟩ := frzL_keep l deep xs σ
          exact ⟨_, _, g1, i1, e1, r1, k8, (k9 l i (Nat.le_refl _)).trans hblk, rfl, rfl⟩
      obtain ⟨L1, hL1, hle1⟩ := e1.le.loc l i L k1
      obtain ⟨b1, hb1, hrel⟩ := i1.dom l i L1 hL1
      rw [hblk1] at hb1; cases hb1
      have hlx : (Builtin.lenOf ((Act.mk tmps df).eval y)).run P w = .ok m w := by rw [hc]; simp [Builtin.lenOf]
      have hnew : ∀ w1, w1.heap = w.heap → (Builtin.firstCells w' m ((Act.mk tmps df).eval y)).run P w1 = .ok vs.toArray w1 := fun w1 hw1 => by rw [hc]; exact run_firstCells hnil hlen hrd w1 hw1
      have hxl : xs'.length = m * w' := by rw [hlen', hr.length]; exact hlen
      have hold : ∀ w1, w1.heap = w.heap → (Builtin.firstCells w' n (.slice sa n scap)).run P w1 = .ok ovs.toArray w1 := fun w1 hw1 => run_firstCells honil holen hord w1 hw1
      have hrcat : RelL g1 ((cs.drop off).take (n * w') ++ xs') (ovs ++ vs) := (hor.mono e1.le).append r1
      have h1cat : ∀ x ∈ ovs ++ vs, x.oneCell' = true := fun x hx => by
        rcases List.mem_append.1 hx with hx | hx
        · exact ho1 x hx
        · exact h1 x hx
      have hnmw : (n + m) * w' = n * w' + m * w' := Nat.add_mul _ _ _
      by_cases hgrow : scap < n + m
      · -- a new block
        obtain ⟨newCap, rest, q1, q2, q3⟩ := run_append_grow (P := P) (w := w) (a := sa) (cap := scap) (n := n) (old := ovs) (new := vs) (xv := (Act.mk tmps df).eval y) ht hu hw hb hz hzl hbpos hbl hroom hgrow hold hlx hnew g
        rw [← hcv] at q3
        have hrun := run_appendOp ha hts o ho _ q3
        have hsize : ((ovs ++ vs ++ rest).toArray).size = newCap * w' := by
          have : newCap * w' = (n + m) * w' + (newCap - (n + m)) * w' := by rw [← Nat.add_mul]; congr 1; omega
          simp; omega
        have hver : L1.le (.at w.heap.size 0 (v' + 1) (newCap * w')) := by
          cases L1 with
          | dead => exact hrel.elim
          | lp z => exact hrel.elim
          | virt v2 => obtain ⟨rfl, _⟩ := hrel; simp only [Loc.le]; exact .inr (.inr (.inl ⟨_, _, _, _, rfl, by omega⟩))
          | «at» blk bo v2 bsz => obtain ⟨rfl, _⟩ := hrel; simp only [Loc.le]; exact .inr (.inr ⟨_, _, _, _, rfl, by omega⟩)
        have hle2 : g1.le (g1.setLoc l i (.at w.heap.size 0 (v' + 1) (newCap * w'))) := G.le_setLoc fun L0 e0 => by rw [hL1] at e0; cases e0; exact hver
        obtain ⟨i2, e2⟩ := i1.setCells (w' := w.drew.alloc (.cells (ovs ++ vs ++ rest).toArray el)) (L := .at w.heap.size 0 (v' + 1) (newCap * w')) (v := v' + 1) (ds := (cs.drop off).take (n * w') ++ xs') hL1 hblk1 hver
          ⟨rfl, (ovs ++ vs ++ rest).toArray, el, alloc_new (w := w.drew), hsize, by
            have : newCap * w' = (n + m) * w' + (newCap - (n + m)) * w' := by rw [← Nat.add_mul]; congr 1; omega
            rw [hrcat.length]; simp; omega, ovs ++ vs, hrcat.mono hle2, fun j x hx => ⟨by
              rw [List.getElem?_toArray, Nat.zero_add, List.getElem?_append_left (List.getElem?_eq_some_iff.1 hx).1]; exact hx, h1cat x (List.mem_of_getElem? hx)⟩⟩
          (fun b' hb' hne => alloc_old (w := w.drew) hb') rfl rfl rfl (by simp) (fun b' hb' => by cases hb'; exact .inr ⟨Nat.le_refl _, by simp⟩)
        refine .val (.slice (some ⟨w.heap.size, 0, none⟩) (n + m) newCap) (by simpa using hrun) (e1.trans e2) i2 ?_
        refine .sl l i _ _ _ _ _ _ _ G.setLoc_same (Nat.le_refl _) q1 (fun hh => by cases hh) (fun x hx _ => by cases hx; rfl) ?_ (fun hh => by cases hh)
        intro blk bo sz hL
        cases hL
        exact .inl ⟨rfl, by omega⟩
      · -- in its place
        have hne : n + m ≤ scap := by omega
        have hrun1 : ∀ (w1 : World), (match sa with | some a => Builtin.firstCells 0 0 (.slice none 0 0) | none => Builtin.firstCells 0 0 (.slice none 0 0)).run P w1 = .ok #[] w1 := by
          intro w1; cases sa <;> simp [Builtin.firstCells]
        cases L1 with
        | dead => exact hrel.elim
        | lp z => exact hrel.elim
        | virt v2 =>
          obtain ⟨rfl, rfl⟩ := hrel
          obtain rfl := k7 (Loc.back_virt k2 hle1 rfl)
          obtain rfl := k4 rfl
          obtain rfl : n = 0 := by omega
          obtain rfl : m = 0 := by omega
          have hvs : vs = [] := by simpa using hlen
          subst hvs
          have hxs' : xs' = [] := by simpa using hxl
          subst hxs'
          have hrun : (Builtin.append_ #[t, u] 0 #[(Act.mk tmps df).eval x, (Act.mk tmps df).eval y]).run P w = .ok (.slice none 0 0) w := by
            obtain ⟨e2, hu⟩ := hu
            have := hnew w rfl
            rw [hc] at this
            rw [hcv, hc]
            simp [Builtin.append_, run_under ht, run_under hu, run_sizeOf hw, Builtin.lenOf, this]
          have hrun := run_appendOp ha hts o ho _ hrun
          have hver : Loc.le (.virt v') (.virt (v' + 1)) := by simp only [Loc.le]; exact .inr (.inr (.inr ⟨_, rfl, by omega⟩))
          obtain ⟨i2, e2⟩ := i1.setCells (w' := w) (L := .virt (v' + 1)) (v := v' + 1) (ds := (([] : List D).drop off).take (0 * w') ++ []) hL1 hblk1 hver ⟨rfl, by simp⟩ (fun b' hb' hne => rfl) rfl rfl rfl (Nat.le_refl _) (fun b' hb' => by cases hb')
          refine .val (.slice none 0 0) (by simpa using hrun) (e1.trans e2) i2 ?_
          exact .sl l i _ _ _ _ none 0 _ G.setLoc_same (Nat.le_refl _) (Nat.le_refl _) (fun _ => rfl) (fun _ hh => by cases hh) (fun _ _ _ hh => by cases hh) (fun _ => rfl)
        | «at» blk bo v2 bsz =>
          obtain ⟨rfl, ca, el', hheap, hcsz, hclen, cvs, hcr, hcvs⟩ := hrel
          have hLeq := Loc.back k2 hle1 rfl
          have hcl := hcr.length
          have hofs : bo + off + (n * w') ≤ bsz := by omega
          -- the row is written
          have hwr : ∃ w2 c2, (Builtin.append_ #[t, u] 0 #[(Act.mk tmps df).eval x, (Act.mk tmps df).eval y]).run P w = .ok (.slice sa (n + m) scap) w2 ∧ w2.heap[blk]? = some (.cells c2 el' (0, 0)) ∧ c2.size = ca.size ∧
              bo + off + (n + m) * w' ≤ bsz ∧
              (∀ j, c2[j]? = if bo + off + n * w' ≤ j ∧ j < bo + off + n * w' + vs.length then vs[j - (bo + off + n * w')]? else ca[j]?) ∧ (∀ x, x ≠ blk → w2.heap[x]? = w.heap[x]?) ∧ w2.heap.size = w.heap.size ∧
              w2.os = w.os ∧ w2.tape = w.tape ∧ w2.output = w.output := by
            obtain ⟨e2, hu⟩ := hu
            have hn2 := hnew w rfl
            rw [hc] at hn2
            rcases k6 blk bo bsz hLeq with ⟨rfl, k8⟩ | k8
            · have hcapw : (n + m) * w' ≤ scap * w' := Nat.mul_le_mul_right _ hne
              obtain ⟨w2, c2, hrun, r2, r3, r4, r5⟩ := run_storeCells (P := P) (b := blk) (el := el') vs w (bo + off + n * w') 0 ca h1 hheap (by omega)
              refine ⟨w2, c2, ?_, r2, r3, by omega, by simpa using r4, r5⟩
              rw [hcv, hc]
              have hadd : Addr.add ⟨blk, bo + off, none⟩ (n * w') = ⟨blk, bo + off + n * w', none⟩ := add_eq _ _ _
              simp [Builtin.append_, run_under ht, run_under hu, run_sizeOf hw, Builtin.lenOf, hn2, hne, hadd, hrun]
            · obtain rfl : n = 0 := by omega
              obtain rfl : m = 0 := by omega
              have hvs : vs = [] := by simpa using hlen
              subst hvs
              refine ⟨w, ca, ?_, hheap, rfl, by omega, fun j => by rw [if_neg (by simp only [List.length_nil]; omega)], fun _ _ => rfl, rfl, rfl, rfl, rfl⟩
              rw [hcv, hc]
              subst k8
              have hst : ∀ (aa : Addr), (storeCells aa ([] : List Value) 0).run P w = .ok () w := fun aa => by simp [storeCells]
              cases sa with
              | none => simp [Builtin.append_, run_under ht, run_under hu, run_sizeOf hw, Builtin.lenOf, hn2]
              | some aa => simp [Builtin.append_, run_under ht, run_under hu, run_sizeOf hw, Builtin.lenOf, hn2, hst]
          obtain ⟨w2, c2, hrun, p1, p2, p3, p4, p5, p6, p7, p8, p9⟩ := hwr
          have hrun := run_appendOp ha hts o ho _ hrun
          have hver : Loc.le (.at blk bo v' bsz) (.at blk (bo + off) (v' + 1) bsz) := by simp only [Loc.le]; exact .inr (.inr ⟨_, _, _, _, rfl, by omega⟩)
          have hle2 : g1.le (g1.setLoc l i (.at blk (bo + off) (v' + 1) bsz)) := G.le_setLoc fun L0 e0 => by rw [hL1] at e0; cases e0; exact hver
          have hcellsrel : RelL g1 ((cs.drop off).take (n * w') ++ xs') ((cvs.drop off).take (n * w') ++ vs) := ((hcr.drop off).take _).append r1
          have hl1 : ((cvs.drop off).take (n * w')).length = n * w' := by simp; omega
          obtain ⟨i2, e2⟩ := i1.setCells (w' := w2) (L := .at blk (bo + off) (v' + 1) bsz) (v := v' + 1) (ds := (cs.drop off).take (n * w') ++ xs') hL1 hblk1 hver
            ⟨rfl, c2, el', p1, by rw [p2, hcsz], by rw [hcellsrel.length, List.length_append, hl1, hlen]; omega, (cvs.drop off).take (n * w') ++ vs, hcellsrel.mono hle2, fun j x hx => by
              rw [p4]
              rw [List.getElem?_append] at hx
              split at hx
              · rename_i hj
                rw [hl1] at hj
                rw [if_neg (by omega)]
                rw [List.getElem?_take, if_pos hj, List.getElem?_drop] at hx
                have := hcvs _ x hx
                rwa [show bo + (off + j) = bo + off + j from by omega] at this
              · rename_i hj
                rw [hl1] at hj hx
                have hlt := (List.getElem?_eq_some_iff.1 hx).1
                rw [if_pos (by omega), show bo + off + j - (bo + off + n * w') = j - n * w' from by omega]
                exact ⟨hx, h1 x (List.mem_of_getElem? hx)⟩⟩
            (fun b' hb' hne => p5 b' (fun hh => hne (by rw [hh]; rfl))) p7 p8 p9 (by omega) (fun b' hb' => .inl hb')
          refine .val (.slice sa (n + m) scap) (by simpa using hrun) (e1.trans e2) i2 ?_
          refine .sl l i _ _ _ _ _ _ _ G.setLoc_same (Nat.le_refl _) hne k4 ?_ ?_ (fun hh => by cases hh)
          · intro x hx hne0
            subst hx
            rcases k6 blk bo bsz hLeq with ⟨k9, _⟩ | k9
            · cases k9; rfl
            · omega
          · intro blk' bo' sz' hL
            cases hL
            rcases k6 blk bo bsz hLeq with ⟨k9, k10⟩ | k9
            · exact .inl ⟨by rw [k9]; simp, by omega⟩
            · exact .inr k9
  · cases h


theorem sop_app {e : Env} {σ : Stack} {w bytes : Nat} {s x : Opd} : sop e σ (.app w bytes s x) = appD e σ w bytes s x := rfl
theorem appD_val {e : Env} {σ σ' : Stack} {d : D} {w bytes : Nat} {s x : Opd} (h : appD e σ w bytes s x = some (d, σ')) : d = .nils ∨ ∃ l i v off n w, d = .sl l i v off n w := by
  simp only [appD, Option.bind_eq_bind, Option.bind_eq_some_iff] at h
  obtain ⟨⟨m, xs⟩, he, h⟩ := h
  dsimp only at h
  split at h
  · split at h
    case isFalse => cases h
    split at h
    · cases h; exact .inl rfl
    · simp only [Option.bind_eq_some_iff] at h
      obtain ⟨⟨l, i, σ1⟩, hn, h⟩ := h
      cases h
      exact .inr ⟨_, _, _, _, _, _, rfl⟩
  · split at h
    case h_2 => cases h
    split at h
    case isFalse => cases h
    split at h
    · cases h; exact .inr ⟨_, _, _, _, _, _, rfl⟩
    · cases h; exact .inr ⟨_, _, _, _, _, _, rfl⟩
  · cases h

/-- append, and what comes frozen. -/
theorem s_apz (hf : Fr fb V g w B e tmps) (hi : Inv CR base g σ w) {x y : Operand} {X Y : Opd} {args : Array Operand} {ts : Array TypeId} {t u el : TypeId} {wd bytes : Nat} {z : List D} (hx : opdC x = some X) (hy : opdC y = some Y)
    (ha : args.toList = [x, y]) (hts : ts.toList = [t, u]) (ht : P.underlying t = some (.slice el)) (hu : ∃ e2, P.underlying u = some (.slice e2))
    (hw : sizeC P el = some wd) (hb : (P.info? el).map (·.bytes) = some bytes) (hz : zeroC P el = some z) (hzl : z.length = wd) (hbpos : 0 < bytes) (hbl : bytes ≤ 2 ^ 20)
    (h : sop e σ (.apz wd bytes X Y) = some (d, σ')) (o : Oper) (ho : o.op = .call { callee := .builtin .append, args, argTypes := ts }) : Does P CR base g w B e (Act.mk tmps df).eval o d σ' := by
  simp only [sop, Option.map_eq_some_iff, Prod.exists] at h
  obtain ⟨d1, σ1, h1, h2⟩ := h
  have hv := appD_val h1
  rw [← sop_app] at h1
  obtain ⟨v, c, g', w', k1, k2, k3, k4, k5⟩ := s_app (df := df) hf hi hx hy ha hts ht hu hw hb hz hzl hbpos hbl h1 o ho
  have k6 : RelV g' d1 c := by
    rcases hv with rfl | ⟨l, i, v, off, n, w, rfl⟩
    · exact k5
    · exact k5
  obtain ⟨g2, i2, e2, r2⟩ := frz_ok (CR := CR) (base := base) 0 deep d1 σ1 g' w' c k4 k6
  rw [h2] at i2 r2
  exact ⟨v, c, g2, w', k1, k2, k3.trans e2, i2, RelT.of r2⟩

end ops
end Go.Abs

/-
  '==' on bools, structs and arrays of numbers and bools.
-/
set_option linter.unusedVariables false
set_option linter.unusedSimpArgs false
namespace Go.Abs
open Go

theorem eqK_nil {p q : List D} {b : Bool} (h : eqK [] p q = some b) : p = [] ∧ q = [] ∧ b = true := by
  cases p with
  | nil => cases q with
    | nil => simp only [eqK, Option.some.injEq] at h; exact ⟨rfl, rfl, h.symm⟩
    | cons => simp [eqK] at h
  | cons => simp [eqK] at h

theorem eqK_some {k : IntKind} {ks : List (Option IntKind)} {p q : List D} {b : Bool} (h : eqK (some k :: ks) p q = some b) :
    ∃ a x c y b0, p = .int k a :: x ∧ q = .int k c :: y ∧ eqK ks x y = some b0 ∧ b = (a == c && b0) := by
  cases p with
  | nil => simp [eqK] at h
  | cons d1 x =>
    cases q with
    | nil => cases d1 <;> simp [eqK] at h
    | cons d2 y =>
      cases d1 <;> cases d2 <;> try (simp [eqK] at h; done)
      rename_i k1 a k2 c
      simp only [eqK] at h
      split at h
      · rename_i hk
        obtain ⟨rfl, rfl⟩ := hk
        simp only [Option.map_eq_some_iff] at h
        obtain ⟨b0, h0, rfl⟩ := h
        exact ⟨a, x, c, y, b0, rfl, rfl, h0, rfl⟩
      · cases h

theorem eqK_none {ks : List (Option IntKind)} {p q : List D} {b : Bool} (h : eqK (none :: ks) p q = some b) :
    ∃ a x c y b0, p = .bool a :: x ∧ q = .bool c :: y ∧ eqK ks x y = some b0 ∧ b = (a == c && b0) := by
  cases p with
  | nil => simp [eqK] at h
  | cons d1 x =>
    cases q with
    | nil => cases d1 <;> simp [eqK] at h
    | cons d2 y =>
      cases d1 <;> cases d2 <;> try (simp [eqK] at h; done)
      rename_i a c
      simp only [eqK, Option.map_eq_some_iff] at h
      obtain ⟨b0, h0, rfl⟩ := h
      exact ⟨a, x, c, y, b0, rfl, rfl, h0, rfl⟩

theorem eqK_append : ∀ (k1 k2 : List (Option IntKind)) (p q : List D) (b : Bool), eqK (k1 ++ k2) p q = some b →
    ∃ b1 b2, eqK k1 (p.take k1.length) (q.take k1.length) = some b1 ∧ eqK k2 (p.drop k1.length) (q.drop k1.length) = some b2 ∧ b = (b1 && b2)
  | [], k2, p, q, b, h => ⟨true, b, by simp [eqK], by simpa using h, by simp⟩
  | some k :: k1, k2, p, q, b, h => by
    obtain ⟨a, x, c, y, b0, rfl, rfl, h0, rfl⟩ := eqK_some h
    obtain ⟨b1, b2, e1, e2, rfl⟩ := eqK_append k1 k2 x y b0 h0
    exact ⟨a == c && b1, b2, by simp [eqK, e1], by simpa using e2, by rw [Bool.and_assoc]⟩
  | none :: k1, k2, p, q, b, h => by
    obtain ⟨a, x, c, y, b0, rfl, rfl, h0, rfl⟩ := eqK_none h
    obtain ⟨b1, b2, e1, e2, rfl⟩ := eqK_append k1 k2 x y b0 h0
    exact ⟨a == c && b1, b2, by simp [eqK, e1], by simpa using e2, by rw [Bool.and_assoc]⟩

theorem eqK_len : ∀ (ks : List (Option IntKind)) (p q : List D) (b : Bool), eqK ks p q = some b → p.length = ks.length ∧ q.length = ks.length
  | [], p, q, b, h => by obtain ⟨rfl, rfl, _⟩ := eqK_nil h; exact ⟨rfl, rfl⟩
  | some k :: ks, p, q, b, h => by
    obtain ⟨a, x, c, y, b0, rfl, rfl, h0, rfl⟩ := eqK_some h
    obtain ⟨h1, h2⟩ := eqK_len ks x y b0 h0
    exact ⟨by simp [h1], by simp [h2]⟩
  | none :: ks, p, q, b, h => by
    obtain ⟨a, x, c, y, b0, rfl, rfl, h0, rfl⟩ := eqK_none h
    obtain ⟨h1, h2⟩ := eqK_len ks x y b0 h0
    exact ⟨by simp [h1], by simp [h2]⟩

section
variable {P : Program} {g : G} {w : World}

/-- A value of a type that is a row of cells (ag), or one. -/
def IsRow (g : G) (ag : Bool) (p : List D) (x : Value) : Prop :=
  if ag then ∃ xs, x = .agg xs ∧ RelL g p xs.toList ∧ ∀ y ∈ xs.toList, y.oneCell' = true else RelL g p [x]

def EqAt (P : Program) (g : G) (w : World) (n : Nat) (t : TypeId) (ks : List (Option IntKind)) : Prop :=
  ∃ ag, aggC P t = some ag ∧ (ag = false → ks.length = 1) ∧ ∀ m, n ≤ m → ∀ p q x y b, IsRow g ag p x → IsRow g ag q y → eqK ks p q = some b → (Op.equalIn m t x y).run P w = .ok b w

/-- A part of a row, by its type. -/
theorem part_at {t : TypeId} {ag : Bool} {n : Nat} {xs : Array Value} {p : List D} {o : Nat} (hag : aggC P t = some ag) (hsz : sizeC P t = some n) (hone : ag = false → n = 1) (hr : RelL g p xs.toList) (h1 : ∀ y ∈ xs.toList, y.oneCell' = true) (hlen : o + n ≤ p.length) :
    ∃ a, (part t xs o).run P w = .ok a w ∧ IsRow g ag ((p.drop o).take n) a := by
  cases ag with
  | true =>
    obtain ⟨c, hc, hrc⟩ := part_run (P := P) (w := w) (d := .agg ((p.drop o).take n)) hag hsz hr h1 hlen (by simp)
    cases hrc with
    | agg _ cs h2 h3 => exact ⟨_, hc, cs, rfl, h2, h3⟩
  | false =>
    obtain rfl := hone rfl
    have hlt : o < p.length := by omega
    obtain ⟨c, hc, hrc⟩ := part_run (P := P) (w := w) (d := p[o]) hag hsz hr h1 hlen (by simp [hlt])
    refine ⟨c, hc, ?_⟩
    have : (p.drop o).take 1 = [p[o]] := by
      rw [List.drop_eq_getElem_cons hlt]; rfl
    rw [this]
    exact .cons _ _ _ _ hrc .nil

theorem eqFields_ok {n : Nat} {f : TypeId → Option (List (Option IntKind))} (hf : ∀ t ks, f t = some ks → EqAt P g w n t ks) {m : Nat} (hm : n ≤ m) {xs ys : Array Value} {p q : List D} (hx : RelL g p xs.toList) (hy : RelL g q ys.toList)
    (h1x : ∀ y ∈ xs.toList, y.oneCell' = true) (h1y : ∀ y ∈ ys.toList, y.oneCell' = true) :
    ∀ (fs : List Field) (o : Nat) (ks : List (Option IntKind)) (b : Bool), kindsC.kindsF P f o fs = some ks → eqK ks (p.drop o) (q.drop o) = some b → (Op.eqFields m xs ys fs).run P w = .ok b w
  | [], o, ks, b, hk, he => by
    simp only [kindsC.kindsF, Option.some.injEq] at hk; subst hk
    obtain ⟨_, _, rfl⟩ := eqK_nil he
    simp [Op.eqFields]
  | x :: fs, o, ks, b, hk, he => by
    simp only [kindsC.kindsF] at hk
    split at hk
    case h_2 => cases hk
    rename_i k1 hk1
    split at hk
    case isFalse => cases hk
    rename_i hc
    obtain ⟨hname, hoff, hsz, hpos⟩ := hc
    simp only [Option.map_eq_some_iff] at hk
    obtain ⟨k2, hk2, rfl⟩ := hk
    obtain ⟨l1, l2⟩ := eqK_len _ _ _ _ he
    obtain ⟨b1, b2, e1, e2, rfl⟩ := eqK_append _ _ _ _ _ he
    simp only [List.length_append, List.length_drop] at l1 l2
    obtain ⟨ag, hag, hone, hEq⟩ := hf _ _ hk1
    have hone' := hone
    obtain ⟨a, ha, hra⟩ := part_at (P := P) (w := w) (p := p) (o := o) hag hsz hone hx h1x (by omega)
    obtain ⟨c, hc, hrc⟩ := part_at (P := P) (w := w) (p := q) (o := o) hag hsz hone hy h1y (by omega)
    have hrun := hEq m hm _ _ a c b1 hra hrc e1
    have ih := eqFields_ok hf hm hx hy h1x h1y fs (o + k1.length) k2 b2 hk2 (by simpa [List.drop_drop] using e2)
    simp only [Op.eqFields, hoff]
    rw [if_pos hname]
    simp only [Sem.run_bind, ha, hc, hrun, Result.andThen_ok, Sem.run_ite, ih]
    cases b1 <;> simp

theorem eqItems_ok {n : Nat} {t : TypeId} {k : List (Option IntKind)} (hE : EqAt P g w n t k) (hsz : sizeC P t = some k.length) (hpos : 0 < k.length) {m : Nat} (hm : n ≤ m) {xs ys : Array Value} {p q : List D} (hx : RelL g p xs.toList) (hy : RelL g q ys.toList)
    (h1x : ∀ y ∈ xs.toList, y.oneCell' = true) (h1y : ∀ y ∈ ys.toList, y.oneCell' = true) :
    ∀ (r i : Nat) (b : Bool), eqK ((List.range r).flatMap fun _ => k) (p.drop (i * k.length)) (q.drop (i * k.length)) = some b →
      (Op.eqItems m t (P.cellsOf t) xs ys (List.range' i r)).run P w = .ok b w
  | 0, i, b, he => by
    simp only [List.range_zero, List.flatMap_nil] at he
    obtain ⟨_, _, rfl⟩ := eqK_nil he
    simp [Op.eqItems]
  | r + 1, i, b, he => by
    have hfl : ((List.range (r + 1)).flatMap fun _ => k) = k ++ (List.range r).flatMap fun _ => k := by
      rw [List.range_succ_eq_map, List.flatMap_cons, List.flatMap_map]
    rw [hfl] at he
    have he0 := he
    obtain ⟨b1, b2, e1, e2, rfl⟩ := eqK_append _ _ _ _ _ he
    obtain ⟨ag, hag, hone, hEq⟩ := hE
    have hcells : P.cellsOf t = k.length := by
      simp only [sizeC] at hsz
      simp [Program.cellsOf, hsz]
    have hl := eqK_len _ _ _ _ he0
    simp only [List.length_append, List.length_drop] at hl
    obtain ⟨a, ha, hra⟩ := part_at (P := P) (w := w) (o := i * k.length) hag hsz hone hx h1x (by omega)
    obtain ⟨c, hc, hrc⟩ := part_at (P := P) (w := w) (o := i * k.length) hag hsz hone hy h1y (by omega)
    have hrun := hEq m hm _ _ a c b1 hra hrc e1
    have ih := eqItems_ok ⟨ag, hag, hone, hEq⟩ hsz hpos hm hx hy h1x h1y r (i + 1) b2 (by
      rw [List.drop_drop, List.drop_drop] at e2
      rw [Nat.add_mul, Nat.one_mul]
      exact e2)
    rw [List.range'_succ]
    simp only [Op.eqItems, hcells] at ih ⊢
    simp only [Sem.run_bind, ha, hc, hrun, Result.andThen_ok, Sem.run_ite, ih]
    cases b1 <;> simp

theorem kinds_ok : ∀ (n : Nat) (t : TypeId) (ks : List (Option IntKind)), kindsC P n t = some ks → EqAt P g w n t ks
  | 0, t, ks, h => by simp [kindsC] at h
  | n + 1, t, ks, h => by
    simp only [kindsC] at h
    split at h
    · rename_i k hu
      cases h
      refine ⟨false, by simp [aggC, hu], fun _ => rfl, fun m hm p q x y b hx hy he => ?_⟩
      obtain ⟨m, rfl⟩ : ∃ m', m = m' + 1 := ⟨m - 1, by omega⟩
      simp only [IsRow, Bool.false_eq_true, if_false] at hx hy
      obtain ⟨a, x1, c, y1, b0, rfl, rfl, h0, rfl⟩ := eqK_some he
      obtain ⟨rfl, rfl, rfl⟩ := eqK_nil h0
      cases hx with
      | cons _ _ _ _ hx1 hx2 =>
        cases hy with
        | cons _ _ _ _ hy1 hy2 =>
          obtain rfl := hx1.int_inv
          obtain rfl := hy1.int_inv
          rw [Bool.and_true]
          exact run_equalIn_int w m t _ _ a c hu
    · rename_i hu
      cases h
      refine ⟨false, by simp [aggC, hu], fun _ => rfl, fun m hm p q x y b hx hy he => ?_⟩
      obtain ⟨m, rfl⟩ : ∃ m', m = m' + 1 := ⟨m - 1, by omega⟩
      simp only [IsRow, Bool.false_eq_true, if_false] at hx hy
      obtain ⟨a, x1, c, y1, b0, rfl, rfl, h0, rfl⟩ := eqK_none he
      obtain ⟨rfl, rfl, rfl⟩ := eqK_nil h0
      cases hx with
      | cons _ _ _ _ hx1 hx2 =>
        cases hy with
        | cons _ _ _ _ hy1 hy2 =>
          obtain rfl := hx1.bool_inv
          obtain rfl := hy1.bool_inv
          rw [Bool.and_true]
          exact run_equalIn_bool' w m t a c hu
    · rename_i fs hu
      split at h
      case isTrue => cases h
      rename_i hst
      refine ⟨true, by simp [aggC, hu], by simp, fun m hm p q x y b hx hy he => ?_⟩
      obtain ⟨m, rfl⟩ : ∃ m', m = m' + 1 := ⟨m - 1, by omega⟩
      simp only [IsRow, if_true] at hx hy
      obtain ⟨xs, rfl, hxr, hx1⟩ := hx
      obtain ⟨ys, rfl, hyr, hy1⟩ := hy
      have hfo : P.fieldsOf t = fs := by simp [Program.fieldsOf, hu]
      rw [run_equalIn_struct w m t xs ys (by rw [hfo]; exact hu) (by simpa using hst), hfo]
      exact eqFields_ok (fun t ks h => kinds_ok n t ks h) (by omega) hxr hyr hx1 hy1 _ 0 ks b h (by simpa using he)
    · rename_i r el hu
      split at h
      case h_2 => cases h
      rename_i k hk
      split at h
      case isFalse => cases h
      rename_i hc
      cases h
      simp only [Bool.and_eq_true, beq_iff_eq, decide_eq_true_eq] at hc
      refine ⟨true, by simp [aggC, hu], by simp, fun m hm p q x y b hx hy he => ?_⟩
      obtain ⟨m, rfl⟩ : ∃ m', m = m' + 1 := ⟨m - 1, by omega⟩
      simp only [IsRow, if_true] at hx hy
      obtain ⟨xs, rfl, hxr, hx1⟩ := hx
      obtain ⟨ys, rfl, hyr, hy1⟩ := hy
      have hsz := hc.1
      simp only [sizeC, Option.map_eq_some_iff] at hsz
      obtain ⟨i, hi, _⟩ := hsz
      rw [run_equalIn_array w m xs ys hu hi, List.range_eq_range']
      exact eqItems_ok (kinds_ok n el k hk) hc.1 hc.2 (by omega) hxr hyr hx1 hy1 r 0 b (by simpa using he)
    · cases h
end

section ops
variable {P : Program} {CR : CRel} {base fb : Nat} {V : List Nat} {g : G} {σ σ' : Stack} {w : World} {B : Nat → Nat} {e : Env} {tmps : Array Value} {df : List Deferred}
  {d : D}

theorem row_rel {ag : Bool} {d : D} {c : Value} {p : List D} (h : RelV g d c) (hr : d.row ag = some p) : IsRow g ag p c := by
  have h0 := h
  cases ag <;> cases d <;> simp only [D.row, D.cells, Option.some.injEq, reduceCtorEq] at hr
  all_goals first
    | (subst hr; exact .cons _ _ _ _ h0 .nil)
    | (subst hr; cases h with
        | agg _ cs h1 h2 => exact ⟨cs, rfl, h1, h2⟩)

theorem s_eqv (hf : Fr fb V g w B e tmps) (hi : Inv CR base g σ w) {x y : Operand} {X Y : Opd} {t u : TypeId} {ks : List (Option IntKind)} {ag neg : Bool} (hx : opdC x = some X) (hy : opdC y = some Y) (hk : kindsC P 20 t = some ks)
    (hag : aggC P t = some ag) (hguard : P.eqGuardType P.depth t = false)
    (h : sop e σ (.eqv ag ks neg X Y) = some (d, σ')) (o : Oper) (ho : o.op = .binOp (if neg then .neq else .eql) t x y u) : Does P CR base g w B e (Act.mk tmps df).eval o d σ' := by
  simp only [sop] at h
  split at h
  case h_2 => cases h
  rename_i p q hp hq
  simp only [Option.map_eq_some_iff] at h
  obtain ⟨b, hb, h⟩ := h
  cases h
  have hrx := row_rel (hf.opd (df := df) hx) hp
  have hry := row_rel (hf.opd (df := df) hy) hq
  obtain ⟨ag', hag', _, hEq⟩ := kinds_ok (P := P) (g := g) (w := w) 20 t ks hk
  rw [hag] at hag'; cases hag'
  have hrun := hEq 10000 (by omega) p q _ _ b hrx hry hb
  refine .pure hi (c := .bool (if neg then !b else b)) ?_ (RelT.of (.bool _))
  have hmain : ∀ (bo : BinOp), bo = (if neg then .neq else .eql) → (eqGuard bo t x y ((Act.mk tmps df).eval x) ((Act.mk tmps df).eval y)).run P w = .ok () w ∧
      (binOp bo t ((Act.mk tmps df).eval x) ((Act.mk tmps df).eval y)).run P w = .ok (.bool (if neg then !b else b)) w := by
    intro bo hbo
    cases ag with
    | true =>
      simp only [IsRow, if_true] at hrx hry
      obtain ⟨xs, ex, _⟩ := hrx
      obtain ⟨ys, ey, _⟩ := hry
      rw [ex, ey] at hrun ⊢
      refine ⟨run_eqGuard_agg w bo t x y xs ys hguard, ?_⟩
      cases neg
      · simp only [Bool.false_eq_true, if_false] at hbo ⊢; subst hbo
        rw [run_eql_struct, hrun]; rfl
      · simp only [if_true] at hbo ⊢; subst hbo
        rw [run_neq_struct, hrun]; rfl
    | false =>
      simp only [IsRow, Bool.false_eq_true, if_false] at hrx hry
      -- one cell: a number or a bool
      have hl := eqK_len _ _ _ _ hb
      have hp1 := hrx.length
      simp only [List.length_cons, List.length_nil] at hp1
      match ks, hb, hl with
      | [], _, hl => exact absurd (hl.1.symm.trans hp1) (by simp)
      | some k :: ks', hb, hl =>
        obtain ⟨a, x1, c, y1, b0, rfl, rfl, h0, rfl⟩ := eqK_some hb
        cases hrx with
        | cons _ _ _ _ hx1 hx2 =>
          cases hry with
          | cons _ _ _ _ hy1 hy2 =>
            cases hx2; cases hy2
            have ex := hx1.int_inv
            have ey := hy1.int_inv
            rw [ex, ey]
            have hks : ks' = [] := by simpa using hl.1.symm
            subst hks
            obtain ⟨_, _, rfl⟩ := eqK_nil h0
            cases neg <;> simp only [Bool.false_eq_true, if_false, if_true] at hbo ⊢ <;> subst hbo <;> simp [eqGuard, binOp, Op.intCmp, bne]
      | none :: ks', hb, hl =>
        obtain ⟨a, x1, c, y1, b0, rfl, rfl, h0, rfl⟩ := eqK_none hb
        cases hrx with
        | cons _ _ _ _ hx1 hx2 =>
          cases hry with
          | cons _ _ _ _ hy1 hy2 =>
            have ex := hx1.bool_inv
            have ey := hy1.bool_inv
            rw [ex, ey] at hrun ⊢
            cases neg <;> simp only [Bool.false_eq_true, if_false, if_true] at hbo ⊢ <;> subst hbo
            · refine ⟨by simp [eqGuard], ?_⟩
              have : ∀ (u v : Bool), binOp .eql t (.bool u) (.bool v) = (do pure (.bool (← Op.equal t (.bool u) (.bool v)))) := fun _ _ => rfl
              rw [this]
              simp only [Sem.run_bind, Op.equal, Op.maxDepth]
              rw [hrun]; simp
            · refine ⟨by simp [eqGuard], ?_⟩
              have : ∀ (u v : Bool), binOp .neq t (.bool u) (.bool v) = (do pure (.bool (!(← Op.equal t (.bool u) (.bool v))))) := fun _ _ => rfl
              rw [this]
              simp only [Sem.run_bind, Op.equal, Op.maxDepth]
              rw [hrun]; simp
  obtain ⟨m1, m2⟩ := hmain _ rfl
  simp only [execOp, ho, Sem.run_bind, m1, m2, Result.andThen_ok, Sem.run_pure]

end ops
end Go.Abs

/-
  One operation of a region, whatever it is.
-/
set_option linter.unusedVariables false
set_option linter.unusedSimpArgs false
namespace Go.Abs
open Go

section
variable {P : Program} {CR : CRel} {base fb : Nat} {V : List Nat} {g : G} {σ σ' : Stack} {w : World} {B : Nat → Nat} {e : Env} {tmps : Array Value} {df : List Deferred}
  {a : Ann} {ops : Array Oper} {key : Nat} {k : K} {d : D}

theorem eqC_ok (hf : Fr fb V g w B e tmps) (hi : Inv CR base g σ w) {x y : Operand} {X Y : Opd} {t u : TypeId} {b : BinOp} (hx : opdC x = some X) (hy : opdC y = some Y)
    (hk : eqC P b t X Y = some k) (h : sop e σ k = some (d, σ')) (o : Oper) (ho : o.op = .binOp b t x y u) : Does P CR base g w B e (Act.mk tmps df).eval o d σ' := by
  unfold eqC at hk
  split at hk
  case h_2 => cases hk
  rename_i ks hks
  split at hk
  · cases hk
  rename_i hg
  have hg' : P.eqGuardType P.depth t = false := by simpa using hg
  split at hk
  · obtain ⟨ag, hag, rfl⟩ := Option.map_eq_some_iff.1 hk
    exact s_eqv hf hi hx hy hks hag hg' h o (by simpa using ho)
  · obtain ⟨ag, hag, rfl⟩ := Option.map_eq_some_iff.1 hk
    exact s_eqv hf hi hx hy hks hag hg' h o (by simpa using ho)
  · cases hk

theorem sop_ldi {ag : Bool} {sz : Nat} {X : Opd} {r : D × Stack} (h : sop e σ (.ldi ag sz X) = some r) : sop e σ (.ld ag sz X) = some r := by
  simp only [sop] at h ⊢
  cases hx : opd e X <;> rw [hx] at h <;> try (cases h; done)
  simpa [rdD] using h

theorem run_equalIn_ptr_nil {w : World} (d : Nat) {t el : TypeId} {a : Option Addr} (h : P.underlying t = some (.pointer el)) : (Op.equalIn (d + 1) t (.pointer a) (.pointer none)).run P w = .ok a.isNone w := by
  cases a <;> simp [Op.equalIn, run_under h]
theorem run_equalIn_slice_nil {w : World} (d : Nat) {t el : TypeId} {a : Option Addr} {n c : Nat} (h : P.underlying t = some (.slice el)) : (Op.equalIn (d + 1) t (.slice a n c) (.slice none 0 0)).run P w = .ok a.isNone w := by
  cases a <;> simp [Op.equalIn, run_under h]

/-- A test for nil, where the answer is known. -/
theorem s_is (hi : Inv CR base g σ w) {x y : Operand} {X : Opd} {t u : TypeId} {b : BinOp} {ps bo : Bool} {cx cy : Value} (e1 : (Act.mk tmps df).eval x = cx) (e2 : (Act.mk tmps df).eval y = cy)
    (hg : ∀ b, (eqGuard b t x y cx cy).run P w = .ok () w) (hb : binOp .eql t cx cy = (do pure (.bool (← Op.equal t cx cy)))) (hb' : binOp .neq t cx cy = (do pure (.bool (!(← Op.equal t cx cy)))))
    (heq : (Op.equal t cx cy).run P w = .ok bo w) (hn : isnD ps (opd e X) = some bo)
    (hk : isC ps b X = some k) (h : sop e σ k = some (d, σ')) (o : Oper) (ho : o.op = .binOp b t x y u) : Does P CR base g w B e (Act.mk tmps df).eval o d σ' := by
  unfold isC at hk
  split at hk
  · cases hk
    simp only [sop, hn, Option.map_some, Option.some.injEq, Prod.mk.injEq] at h
    obtain ⟨rfl, rfl⟩ := h
    refine .pure hi ?_ (RelT.of (.bool _))
    simp [execOp, ho, e1, e2, hg, hb, heq]
  · cases hk
    simp only [sop, hn, Option.map_some, Option.some.injEq, Prod.mk.injEq] at h
    obtain ⟨rfl, rfl⟩ := h
    refine .pure hi ?_ (RelT.of (.bool _))
    simp [execOp, ho, e1, e2, hg, hb', heq]
  · cases hk

theorem isC_some {ps : Bool} {b : BinOp} {X : Opd} (hk : isC ps b X = some k) (h : sop e σ k = some (d, σ')) : ∃ bo, isnD ps (opd e X) = some bo := by
  unfold isC at hk
  split at hk <;> cases hk <;> simp only [sop, Option.map_eq_some_iff] at h <;> obtain ⟨b, hb, _⟩ := h <;> exact ⟨b, hb⟩

theorem s_isp (hf : Fr fb V g w B e tmps) (hi : Inv CR base g σ w) {x y : Operand} {X : Opd} {t u el : TypeId} {b : BinOp} (hx : opdC x = some X) (hy : opdC y = some (.c .nilp)) (ht : P.underlying t = some (.pointer el))
    (hk : isC true b X = some k) (h : sop e σ k = some (d, σ')) (o : Oper) (ho : o.op = .binOp b t x y u) : Does P CR base g w B e (Act.mk tmps df).eval o d σ' := by
  have hr := hf.opd (df := df) hx
  have hr' := hf.opd (df := df) hy
  have e2 : (Act.mk tmps df).eval y = .pointer none := by
    generalize (Act.mk tmps df).eval y = c at hr'
    cases hr'; rfl
  obtain ⟨bo, hn⟩ := isC_some hk h
  have : ∃ a, (Act.mk tmps df).eval x = .pointer a ∧ bo = a.isNone := by
    generalize opd e X = dx at hr hn
    generalize (Act.mk tmps df).eval x = cx at hr
    cases hr <;> simp [isnD] at hn
    · exact ⟨none, rfl, by simp [← hn]⟩
    · exact ⟨_, rfl, by simp [← hn]⟩
    · exact ⟨_, rfl, by simp [← hn]⟩
  obtain ⟨a, e1, rfl⟩ := this
  refine s_is hi e1 e2 (fun b => by simp [eqGuard]) rfl rfl (run_equalIn_ptr_nil 9999 ht) hn hk h o ho

theorem s_iss (hf : Fr fb V g w B e tmps) (hi : Inv CR base g σ w) {x y : Operand} {X : Opd} {t u el : TypeId} {b : BinOp} (hx : opdC x = some X) (hy : opdC y = some (.c .nils)) (ht : P.underlying t = some (.slice el))
    (hk : isC false b X = some k) (h : sop e σ k = some (d, σ')) (o : Oper) (ho : o.op = .binOp b t x y u) : Does P CR base g w B e (Act.mk tmps df).eval o d σ' := by
  have hr := hf.opd (df := df) hx
  have hr' := hf.opd (df := df) hy
  have e2 : (Act.mk tmps df).eval y = .slice none 0 0 := by
    generalize (Act.mk tmps df).eval y = c at hr'
    cases hr'; rfl
  obtain ⟨bo, hn⟩ := isC_some hk h
  have : ∃ a n c, (Act.mk tmps df).eval x = .slice a n c ∧ bo = a.isNone := by
    generalize opd e X = dx at hr hn
    generalize (Act.mk tmps df).eval x = cx at hr
    cases hr <;> simp [isnD] at hn
    · exact ⟨none, _, _, rfl, by simp [← hn]⟩
    · exact ⟨_, _, _, rfl, by simp [← hn.2]⟩
    · rename_i l i v off n w a cap L h1 h2 h3 h4 h5 h6 h7
      refine ⟨a, n, cap, rfl, ?_⟩
      cases a with
      | none => have := h4 rfl; omega
      | some a => simp [← hn.2]
  obtain ⟨a, n, c, e1, rfl⟩ := this
  refine s_is hi e1 e2 (fun b => by simp [eqGuard]) rfl rfl (run_equalIn_slice_nil 9999 ht) hn hk h o ho

theorem s_nck (hf : Fr fb V g w B e tmps) (hi : Inv CR base g σ w) {x : Operand} {X : Opd} (hx : opdC x = some X) (h : sop e σ (.nck X) = some (d, σ')) (o : Oper) (ho : o.op = .nilCheck x) :
    Does P CR base g w B e (Act.mk tmps df).eval o d σ' := by
  have hr := hf.opd (df := df) hx
  simp only [sop] at h
  generalize opd e X = dx at hr h
  have key : (∃ a, (Act.mk tmps df).eval x = .pointer (some a)) ∧ d = dx ∧ σ' = σ := by
    generalize (Act.mk tmps df).eval x = cx at hr
    cases hr <;> simp at h
    · exact ⟨⟨_, rfl⟩, h.1.symm, h.2.symm⟩
    · exact ⟨⟨_, rfl⟩, h.1.symm, h.2.symm⟩
  obtain ⟨⟨a, e1⟩, rfl, rfl⟩ := key
  rw [e1] at hr
  exact .pure hi (c := .pointer (some a)) (by simp [execOp, ho, e1]) (RelT.of hr)

theorem isNil_inv {x : Operand} (h : isNilSlice x = true) : x = .const (.slice none 0 0) := by
  unfold isNilSlice at h
  split at h
  · rfl
  · cases h

theorem sop_ok (hf : Fr fb V g w B e tmps) (hi : Inv CR base g σ w) {o : Oper} (hk : kC P a ops key o = some k) (h : sop e σ k = some (d, σ')) :
    Does P CR base g w B e (Act.mk tmps df).eval o d σ' := by
  unfold kC at hk
  split at hk
  · rename_i x ho
    obtain ⟨X, hX, rfl⟩ := Option.map_eq_some_iff.1 hk
    exact s_move hf hi hX h o (.inl ho)
  · rename_i x ho
    split at hk
    · rename_i hnil _ _
      split at hk
      · obtain ⟨X, hX, rfl⟩ := Option.map_eq_some_iff.1 hk
        exact s_nilb hi h o (by rw [ho, isNil_inv hnil])
      · obtain ⟨X, hX, rfl⟩ := Option.map_eq_some_iff.1 hk
        exact s_move hf hi hX h o (.inr ho)
    · obtain ⟨X, hX, rfl⟩ := Option.map_eq_some_iff.1 hk
      exact s_move hf hi hX h o (.inr ho)
  · rename_i c x y ho
    split at hk
    · rename_i c' x' y' h1 h2 h3
      cases hk
      exact s_pick hf hi h1 h2 h3 h o ho
    · cases hk
  · rename_i el ho
    split at hk
    · rename_i z d0 hz _
      cases hk
      split at h
      · cases h
      · exact s_alc hi hz h o ho
    · cases hk
  · rename_i t x ho
    split at hk
    · rename_i x' d0 hx _
      cases hk
      split at h
      · cases h
      split at h
      · exact s_boxm hf hi hx h o ho
      · exact s_boxi hf hi hx h o ho
    · cases hk
  · rename_i t ps ho
    split at hk
    · rename_i fs z ht hz
      split at hk
      · rename_i hall
        obtain ⟨parts, hp, rfl⟩ := Option.map_eq_some_iff.1 hk
        exact s_bld_struct hf hi ht hz hall hp h o ho
      · cases hk
    · rename_i n el z ht hz
      split at hk
      · rename_i wd hw
        obtain ⟨parts, hp, rfl⟩ := Option.map_eq_some_iff.1 hk
        exact s_bld_array hf hi ht hw hz hp h o ho
      · cases hk
    · cases hk
  · rename_i t n ps ho
    split at hk
    · rename_i el ht
      split at hk
      · rename_i wd z d0 hw hz _
        split at hk
        · rename_i hc
          obtain ⟨parts, hp, rfl⟩ := Option.map_eq_some_iff.1 hk
          dsimp only at h
          split at h
          · exact s_bsm hf hi ht hw hz hc.1 hc.2.1 hc.2.2 hp h o ho
          · exact s_bsi hf hi ht hw hz hc.1 hc.2.1 hc.2.2 hp h o ho
        · cases hk
      · cases hk
    · cases hk
  · rename_i t x ho
    split at hk
    · rename_i ag sz n hag hsz hx
      split at hk
      · rename_i hc
        simp only [Bool.and_eq_true, decide_eq_true_eq] at hc
        cases hk
        have hxe : x = .tmp n := by
          cases x <;> simp only [opdC, Option.some.injEq, Opd.t.injEq, reduceCtorEq, Option.map_eq_some_iff, and_false, exists_false] at hx
          rw [hx]
        split at h
        · exact s_ldv hf hi hag hsz hc.1 hc.2 h o (by rw [ho, hxe])
        · split at h
          · exact s_ld hf hi hx hag hsz hc.1 hc.2 (sop_ldi h) o ho
          · exact s_ld hf hi hx hag hsz hc.1 hc.2 h o ho
      · cases hk
    · cases hk
  · rename_i t x y ho
    split at hk
    · rename_i sz n y' hsz hx hy
      cases hk
      split at h
      · cases h
      · split at h
        · exact s_st hf hi hx hy hsz (sop_stc h) o ho
        · exact s_st hf hi hx hy hsz h o ho
    · cases hk
  · rename_i b t x y u ho
    split at hk
    · rename_i hx hy
      cases hk
      exact s_bin hf hi hx hy h o ho
    · rename_i hx hy
      exact eqC_ok hf hi hx hy hk h o ho
    · rename_i hx hy
      exact eqC_ok hf hi hx hy hk h o ho
    · rename_i hx hy
      exact eqC_ok hf hi hx hy hk h o ho
    · rename_i ht hx hy
      exact s_isp hf hi hx hy ht hk h o ho
    · rename_i ht hx hy
      exact s_iss hf hi hx hy ht hk h o ho
    · cases hk
  · rename_i x ho
    obtain ⟨X, hX, rfl⟩ := Option.map_eq_some_iff.1 hk
    exact s_nck hf hi hX h o ho
  · rename_i b t x ho
    obtain ⟨X, hX, rfl⟩ := Option.map_eq_some_iff.1 hk
    exact s_un hf hi hX h o ho
  · rename_i s t x ho
    split at hk
    · rename_i hs ht hx
      cases hk
      exact s_cvt hf hi hx hs ht h o ho
    · cases hk
  · rename_i f xs ys ho
    split at hk
    · rename_i hx hy
      cases hk
      exact s_mkf hf hi hx hy h o ho
    · cases hk
  · rename_i t x y ho
    split at hk
    · rename_i el ht
      split at hk
      · rename_i hw hb hz hx hy
        split at hk
        · rename_i hc
          cases hk
          exact s_mks hf hi hx hy ht hw hb hz hc.1 hc.2 h o ho
        · cases hk
      · cases hk
    · cases hk
  · rename_i t x lo hh mx ho
    split at hk
    · rename_i ht hx hlo hhi hmx
      obtain ⟨wd, hw, rfl⟩ := Option.map_eq_some_iff.1 hk
      exact s_slc hf hi hx ht hw hlo hhi hmx h o ho
    · rename_i ht hx hlo hhi hmx
      obtain ⟨wd, hw, rfl⟩ := Option.map_eq_some_iff.1 hk
      have hm : mx = none := by
        cases mx with
        | none => rfl
        | some m => simp [optC, Option.map_eq_some_iff] at hmx
      subst hm
      exact s_slca hf hi hx ht hw hlo hhi h o ho
    · cases hk
  · rename_i s x i ho
    split at hk
    · rename_i fs x' hs hx
      split at hk
      · rename_i off sz hfc
        split at hk
        · rename_i hpos
          cases hk
          exact s_fadr hf hi hx hs hfc hpos h o ho
        · cases hk
      · cases hk
    · cases hk
  · rename_i s x i ho
    split at hk
    · rename_i fs x' hs hx
      split at hk
      · rename_i f hfi
        split at hk
        · rename_i hag hsz
          split at hk
          · cases hk
            exact s_fld hf hi hx hs hfi hag hsz h o ho
          · cases hk
        · cases hk
      · cases hk
    · cases hk
  · rename_i t x y ho
    split at hk
    · rename_i ht hx hy
      obtain ⟨wd, hw, rfl⟩ := Option.map_eq_some_iff.1 hk
      exact s_idxA hf hi hx hy ht hw h o ho
    · rename_i ht hx hy
      obtain ⟨wd, hw, rfl⟩ := Option.map_eq_some_iff.1 hk
      exact s_idxS hf hi hx hy ht hw h o ho
    · cases hk
  · rename_i t x y ho
    split at hk
    · rename_i ht hx hy
      split at hk
      · rename_i hag hsz
        split at hk
        · cases hk
          exact s_idxV hf hi hx hy ht hag hsz h o ho
        · cases hk
      · cases hk
    · cases hk
  · rename_i x i ho
    obtain ⟨X, hX, rfl⟩ := Option.map_eq_some_iff.1 hk
    exact s_ext hf hi hX h o ho
  · rename_i c ho
    obtain ⟨callee, args, ts⟩ := c
    dsimp only at hk
    split at hk
    · rename_i f
      split at hk
      · cases hk
        cases h
      · cases hk
    · split at hk
      · rename_i t tr x r hts ha
        split at hk
        · rename_i ht hx
          cases hk
          exact s_len hf hi hx ht ha hts h o ho
        · rename_i ht
          cases hk
          exact s_lenC hi (.inl ⟨_, ht⟩) ha hts h o ho
        · rename_i ht
          split at hk
          · rename_i hr
            cases hk
            exact s_lenC hi (.inr ⟨_, _, ht, hr⟩) ha hts h o ho
          · cases hk
        · cases hk
      · cases hk
    · split at hk
      · rename_i ha
        split at hk
        · rename_i hx hy
          cases hk
          exact s_mn hf hi hx hy ha h o ho
        · cases hk
      · cases hk
    · split at hk
      · rename_i ha
        split at hk
        · rename_i hx hy
          cases hk
          exact s_mx hf hi hx hy ha h o ho
        · cases hk
      · cases hk
    · split at hk
      · rename_i t u x y hts ha
        split at hk
        · rename_i ht hu hx hy
          split at hk
          · rename_i hw hb hz
            split at hk
            · rename_i hc
              cases hk
              split at h
              · rename_i hn
                simp only [Bool.and_eq_true] at hn
                exact s_cpi hf hi (isNil_inv hn.1) hy ha hts ht ⟨_, hu⟩ hw hb hz hc.2.2.2 hc.2.1 hc.2.2.1 h o ho
              · split at h
                · exact s_apz hf hi hx hy ha hts ht ⟨_, hu⟩ hw hb hz hc.2.2.2 hc.2.1 hc.2.2.1 h o ho
                · exact s_app hf hi hx hy ha hts ht ⟨_, hu⟩ hw hb hz hc.2.2.2 hc.2.1 hc.2.2.1 h o ho
            · cases hk
          · cases hk
        · cases hk
      · cases hk
    · cases hk
  · cases hk
end

end Go.Abs

/-
  How high values lead: a block below the newest segment holds nothing that leads above it. What is handed out of a segment leads below it; so a segment may go.
-/
set_option linter.unusedVariables false
set_option linter.unusedSimpArgs false
namespace Go.Abs
open Go

mutual
/-- Leads a value to levels less than n alone? -/
def D.low (n : Nat) : D → Bool
  | .ref l .. => decide (l < n)
  | .sl l .. => decide (l < n)
  | .yld l _ => decide (l < n)
  | .vr .. => true
  | .own _ cs => D.lowL n cs
  | .agg cs => D.lowL n cs
  | .tup cs => D.lowL n cs
  | .cref cs => D.lowL n cs
  | .lst _ cs => D.lowL n cs
  | .fn _ a b => D.lowL n a && D.lowL n b
  | .undef => true
  | .bool _ => true
  | .int _ _ => true
  | .str _ => true
  | .nilp => true
  | .nils => true
  | .nilf => true
def D.lowL (n : Nat) : List D → Bool
  | [] => true
  | d :: ds => D.low n d && D.lowL n ds
end

theorem lowL_iff {n : Nat} {ds : List D} : D.lowL n ds = true ↔ ∀ d ∈ ds, d.low n = true := by
  induction ds with
  | nil => simp [D.lowL]
  | cons d ds ih => simp [D.lowL, ih]

mutual
theorem clean_low {n : Nat} : ∀ {d : D}, d.clean = true → d.low n = true
  | .ref .., h => by simp [D.clean] at h
  | .sl .., h => by simp [D.clean] at h
  | .yld .., h => by simp [D.clean] at h
  | .vr .., _ => rfl
  | .own _ cs, h => cleanL_low (ds := cs) (by simpa [D.clean] using h)
  | .agg cs, h => cleanL_low (ds := cs) (by simpa [D.clean] using h)
  | .tup cs, h => cleanL_low (ds := cs) (by simpa [D.clean] using h)
  | .cref cs, h => cleanL_low (ds := cs) (by simpa [D.clean] using h)
  | .lst _ cs, h => cleanL_low (ds := cs) (by simpa [D.clean] using h)
  | .fn _ a b, h => by
    simp only [D.clean, Bool.and_eq_true] at h
    simp only [D.low, Bool.and_eq_true]
    exact ⟨cleanL_low h.1, cleanL_low h.2⟩
  | .undef, _ => rfl
  | .bool _, _ => rfl
  | .int _ _, _ => rfl
  | .str _, _ => rfl
  | .nilp, _ => rfl
  | .nils, _ => rfl
  | .nilf, _ => rfl
theorem cleanL_low {n : Nat} : ∀ {ds : List D}, D.cleanL ds = true → D.lowL n ds = true
  | [], _ => rfl
  | d :: ds, h => by
    simp only [D.cleanL, Bool.and_eq_true] at h
    simp only [D.lowL, Bool.and_eq_true]
    exact ⟨clean_low h.1, cleanL_low h.2⟩
end

mutual
theorem RelV.low {g : G} {n : Nat} (hn : ∀ l i L, g.loc l i = some L → l < n) : ∀ {d : D} {c : Value}, RelV g d c → d.low n = true
  | _, _, .undef c => rfl
  | _, _, .bool b => rfl
  | _, _, .int k n => rfl
  | _, _, .str s => rfl
  | _, _, .agg ds cs hr h1 => RelL.low hn hr
  | _, _, .tup ds cs hr => RelL.low hn hr
  | _, _, .nilp => rfl
  | _, _, .ref l i v off b o L e hv hc hn' => by simp only [D.low, decide_eq_true_eq]; exact hn l i L e
  | _, _, .cref ds b o vs hr hl => RelL.low hn hl
  | _, _, .nils => rfl
  | _, _, .lstn => rfl
  | _, _, .lst n' ds a cap vs hn' hr hs hl => RelL.low hn hl
  | _, _, .sl l i v off n' w a cap L e hv hn' ha hs hc hc' => by simp only [D.low, decide_eq_true_eq]; exact hn l i L e
  | _, _, .fn f fs cs fs' cs' h1 h2 => by simp only [D.low, Bool.and_eq_true]; exact ⟨RelL.low hn h1, RelL.low hn h2⟩
  | _, _, .nilf => rfl
  | _, _, .yld l i b L e hc => by simp only [D.low, decide_eq_true_eq]; exact hn l i L e
theorem RelL.low {g : G} {n : Nat} (hn : ∀ l i L, g.loc l i = some L → l < n) : ∀ {ds : List D} {cs : List Value}, RelL g ds cs → D.lowL n ds = true
  | _, _, .nil => rfl
  | _, _, .cons d c ds cs h1 h2 => by simp only [D.lowL, Bool.and_eq_true]; exact ⟨RelV.low hn h1, RelL.low hn h2⟩
end

/-- The levels from n on are forgotten. -/
def G.cut (g : G) (n : Nat) : G := ⟨fun l i => if l < n then g.loc l i else none, g.imm⟩

theorem G.cut_loc {g : G} {n l i : Nat} (h : l < n) : (g.cut n).loc l i = g.loc l i := by simp [G.cut, h]
theorem G.cut_some {g : G} {n l i : Nat} {L : Loc} (h : (g.cut n).loc l i = some L) : l < n ∧ g.loc l i = some L := by
  simp only [G.cut] at h
  split at h
  · exact ⟨by assumption, h⟩
  · cases h

mutual
theorem RelV.cut {g : G} {n : Nat} : ∀ {d : D} {c : Value}, RelV g d c → d.low n = true → RelV (g.cut n) d c
  | _, _, .undef c, _ => .undef c
  | _, _, .bool b, _ => .bool b
  | _, _, .int k n, _ => .int k n
  | _, _, .str s, _ => .str s
  | _, _, .agg ds cs hr h1, h => .agg ds cs (RelL.cut hr h) h1
  | _, _, .tup ds cs hr, h => .tup ds cs (RelL.cut hr h)
  | _, _, .nilp, _ => .nilp
  | _, _, .ref l i v off b o L e hv hc hn', h => .ref l i v off b o L ((G.cut_loc (by simpa [D.low] using h)).trans e) hv hc hn'
  | _, _, .cref ds b o vs hr hl, h => .cref ds b o vs hr (RelL.cut hl h)
  | _, _, .nils, _ => .nils
  | _, _, .lstn, _ => .lstn
  | _, _, .lst n' ds a cap vs hn' hr hs hl, h => .lst n' ds a cap vs hn' hr hs (RelL.cut hl h)
  | _, _, .sl l i v off n' w a cap L e hv hn' ha hs hc hc', h => .sl l i v off n' w a cap L ((G.cut_loc (by simpa [D.low] using h)).trans e) hv hn' ha hs hc hc'
  | _, _, .fn f fs cs fs' cs' h1 h2, h => by
    simp only [D.low, Bool.and_eq_true] at h
    exact .fn f fs cs fs' cs' (RelL.cut h1 h.1) (RelL.cut h2 h.2)
  | _, _, .nilf, _ => .nilf
  | _, _, .yld l i b L e hc, h => .yld l i b L ((G.cut_loc (by simpa [D.low] using h)).trans e) hc
theorem RelL.cut {g : G} {n : Nat} : ∀ {ds : List D} {cs : List Value}, RelL g ds cs → D.lowL n ds = true → RelL (g.cut n) ds cs
  | _, _, .nil, _ => .nil
  | _, _, .cons d c ds cs h1 h2, h => by
    simp only [D.lowL, Bool.and_eq_true] at h
    exact .cons d c ds cs (RelV.cut h1 h.1) (RelL.cut h2 h.2)
end

mutual
theorem low_mono {n m : Nat} (hm : n ≤ m) : ∀ {d : D}, d.low n = true → d.low m = true
  | .ref l .., h => by simp only [D.low, decide_eq_true_eq] at h ⊢; omega
  | .sl l .., h => by simp only [D.low, decide_eq_true_eq] at h ⊢; omega
  | .yld l _, h => by simp only [D.low, decide_eq_true_eq] at h ⊢; omega
  | .vr .., _ => rfl
  | .own _ cs, h => lowL_mono (ds := cs) hm h
  | .agg cs, h => lowL_mono (ds := cs) hm h
  | .tup cs, h => lowL_mono (ds := cs) hm h
  | .cref cs, h => lowL_mono (ds := cs) hm h
  | .lst _ cs, h => lowL_mono (ds := cs) hm h
  | .fn _ a b, h => by
    simp only [D.low, Bool.and_eq_true] at h ⊢
    exact ⟨lowL_mono hm h.1, lowL_mono hm h.2⟩
  | .undef, _ => rfl
  | .bool _, _ => rfl
  | .int _ _, _ => rfl
  | .str _, _ => rfl
  | .nilp, _ => rfl
  | .nils, _ => rfl
  | .nilf, _ => rfl
theorem lowL_mono {n m : Nat} (hm : n ≤ m) : ∀ {ds : List D}, D.lowL n ds = true → D.lowL m ds = true
  | [], _ => rfl
  | d :: ds, h => by
    simp only [D.lowL, Bool.and_eq_true] at h ⊢
    exact ⟨low_mono hm h.1, lowL_mono hm h.2⟩
end

def Blk.low (n : Nat) : Blk → Prop
  | .cells _ cs => D.lowL n cs = true
  | .dead => True
  | .loop lp => ∀ t, (get lp.env t).low n = true

/-- A block below the newest segment holds nothing that leads above it. -/
def LowS (σ : Stack) : Prop := ∀ l i b, blk? σ l i = some b → l + 1 < σ.length → b.low (l + 1)

theorem LowS.set {σ : Stack} (h : LowS σ) {l i : Nat} {b : Blk} (hb : l + 1 < σ.length → b.low (l + 1)) : LowS (setBlk σ l i b) := by
  intro l' i' b' h1 h2
  rw [setBlk_length] at h2
  by_cases hc : l' = l ∧ i' = i
  · obtain ⟨rfl, rfl⟩ := hc
    cases h0 : blk? σ l' i' with
    | none =>
      have : blk? (setBlk σ l' i' b) l' i' = none := by
        unfold setBlk
        cases hs : seg? σ l' with
        | none => exact h0
        | some s =>
          simp only [blk?, seg?_setSeg (seg?_lt hs), Option.bind_some]
          simp only [blk?, hs, Option.bind_some] at h0
          rw [List.getElem?_eq_none_iff] at h0 ⊢
          simpa using h0
      rw [this] at h1; cases h1
    | some b0 => rw [blk?_setBlk h0] at h1; cases h1; exact hb h2
  · rw [blk?_setBlk_other hc] at h1; exact h l' i' b' h1 h2

theorem LowS.new {σ σ' : Stack} (h : LowS σ) {l i : Nat} {b : Blk} (hn : newBlk σ b = some (l, i, σ')) : LowS σ' := by
  obtain ⟨h1, h2, h3, h4, h5⟩ := newBlk_spec hn
  intro l' i' b' e hl
  by_cases hc : l' = l ∧ i' = i
  · omega
  · rw [h3 l' i' hc] at e; exact h l' i' b' e (by omega)

/-- A store that comes of another: as many segments; and low if that was. -/
structure Goes (σ σ' : Stack) : Prop where
  len : σ'.length = σ.length
  low : LowS σ → LowS σ'

theorem Goes.refl (σ : Stack) : Goes σ σ := ⟨rfl, id⟩
theorem Goes.trans {a b c : Stack} (h : Goes a b) (h' : Goes b c) : Goes a c := ⟨h'.len.trans h.len, fun x => h'.low (h.low x)⟩
theorem Goes.new {σ σ' : Stack} {l i : Nat} {b : Blk} (hn : newBlk σ b = some (l, i, σ')) : Goes σ σ' := ⟨(newBlk_spec hn).2.2.2.1, fun h => h.new hn⟩
theorem Goes.set {σ : Stack} {l i : Nat} {b : Blk} (hb : l + 1 < σ.length → b.low (l + 1)) : Goes σ (setBlk σ l i b) := ⟨setBlk_length, fun h => h.set hb⟩

theorem nilbs_goes : ∀ (nb : List (Nat × Nat)) (cs cs' : List D) (σ σ' : Stack), nilbs nb cs σ = some (cs', σ') → Goes σ σ'
  | [], cs, cs', σ, σ', h => by simp only [nilbs, Option.some.injEq, Prod.mk.injEq] at h; obtain ⟨rfl, rfl⟩ := h; exact .refl _
  | (p, w) :: r, cs, cs', σ, σ', h => by
    simp only [nilbs] at h
    split at h
    · simp only [Option.bind_eq_bind, Option.bind_eq_some_iff] at h
      obtain ⟨⟨l, i, σ1⟩, hn, h⟩ := h
      exact (Goes.new hn).trans (nilbs_goes r _ _ _ _ h)
    · exact nilbs_goes r _ _ _ _ h

theorem frz_spec (l : Nat) : ∀ (n : Nat) (d : D) (σ : Stack), (frz l n d σ).1.low (l + 1) = true ∧ Goes σ (frz l n d σ).2
  | 0, d, σ => ⟨rfl, .refl _⟩
  | n + 1, d, σ => by
    have ih : ∀ (ds : List D) (σ : Stack), D.lowL (l + 1) (frz.frzL (frz l n) ds σ).1 = true ∧ Goes σ (frz.frzL (frz l n) ds σ).2 := by
      intro ds
      induction ds with
      | nil => intro σ; exact ⟨rfl, .refl _⟩
      | cons d ds ihd =>
        intro σ
        obtain ⟨h1, h2⟩ := frz_spec l n d σ
        obtain ⟨h3, h4⟩ := ihd (frz l n d σ).2
        simp only [frz.frzL, D.lowL, Bool.and_eq_true]
        exact ⟨⟨h1, h3⟩, h2.trans h4⟩
    simp only [frz]
    split
    · rename_i hc; exact ⟨clean_low hc, .refl _⟩
    cases d with
    | agg cs => exact ih cs σ
    | tup cs => exact ih cs σ
    | cref cs => exact ih cs σ
    | lst m cs => exact ih cs σ
    | own s cs => exact ih cs σ
    | fn f a b =>
      obtain ⟨h1, h2⟩ := ih a σ
      obtain ⟨h3, h4⟩ := ih b (frz.frzL (frz l n) a σ).2
      refine ⟨?_, h2.trans h4⟩
      simp only [D.low, Bool.and_eq_true]
      exact ⟨h1, h3⟩
    | ref l' i v off =>
      dsimp only
      split
      · refine ⟨?_, .refl _⟩; simp only [D.low, decide_eq_true_eq]; omega
      · exact ⟨rfl, .refl _⟩
    | yld l' i =>
      dsimp only
      split
      · refine ⟨?_, .refl _⟩; simp only [D.low, decide_eq_true_eq]; omega
      · exact ⟨rfl, .refl _⟩
    | sl l' i v off m w =>
      dsimp only
      split
      · refine ⟨?_, .refl _⟩; simp only [D.low, decide_eq_true_eq]; omega
      · split
        · rename_i cs hcs
          obtain ⟨h1, h2⟩ := ih ((cs.drop off).take (m * w)) (setBlk σ l' i .dead)
          exact ⟨h1, (Goes.set (b := .dead) fun _ => trivial).trans h2⟩
        · exact ⟨rfl, .refl _⟩
    | _ => exact ⟨rfl, .refl _⟩

theorem frzL_spec (l n : Nat) (ds : List D) : ∀ (σ : Stack), D.lowL (l + 1) (frz.frzL (frz l n) ds σ).1 = true ∧ Goes σ (frz.frzL (frz l n) ds σ).2 := by
  induction ds with
  | nil => intro σ; exact ⟨rfl, .refl _⟩
  | cons d ds ihd =>
    intro σ
    obtain ⟨h1, h2⟩ := frz_spec l n d σ
    obtain ⟨h3, h4⟩ := ihd (frz l n d σ).2
    simp only [frz.frzL, D.lowL, Bool.and_eq_true]
    exact ⟨⟨h1, h3⟩, h2.trans h4⟩

theorem frzE_spec (l : Nat) : ∀ (e : Env) (σ : Stack), (∀ p ∈ (frzE l e σ).1, p.2.low (l + 1) = true) ∧ Goes σ (frzE l e σ).2
  | [], σ => ⟨by simp [frzE], .refl _⟩
  | (t, d) :: e, σ => by
    obtain ⟨h1, h2⟩ := frz_spec l deep d σ
    obtain ⟨h3, h4⟩ := frzE_spec l e (frz l deep d σ).2
    simp only [frzE]
    refine ⟨?_, h2.trans h4⟩
    intro p hp
    rcases List.mem_cons.1 hp with rfl | hp
    · exact h1
    · exact h3 p hp

theorem cells?_low {σ : Stack} (h : LowS σ) {l i v : Nat} {cs : List D} (hc : cells? σ l i v = some cs) (hl : l + 1 < σ.length) : D.lowL (l + 1) cs = true := by
  unfold cells? at hc
  split at hc
  case h_2 => cases hc
  rename_i v' cs' hb
  split at hc
  case isFalse => cases hc
  cases hc
  exact h l i _ hb hl

theorem lowL_append {n : Nat} {a b : List D} : D.lowL n (a ++ b) = true ↔ D.lowL n a = true ∧ D.lowL n b = true := by
  simp only [lowL_iff, List.mem_append]
  exact ⟨fun h => ⟨fun d hd => h d (.inl hd), fun d hd => h d (.inr hd)⟩, fun h d hd => hd.elim (h.1 d) (h.2 d)⟩
theorem lowL_take {n k : Nat} {a : List D} (h : D.lowL n a = true) : D.lowL n (a.take k) = true := by
  rw [lowL_iff] at h ⊢; exact fun d hd => h d (List.mem_of_mem_take hd)
theorem lowL_drop {n k : Nat} {a : List D} (h : D.lowL n a = true) : D.lowL n (a.drop k) = true := by
  rw [lowL_iff] at h ⊢; exact fun d hd => h d (List.mem_of_mem_drop hd)

/-- A calm operation leaves the store as it is. -/
theorem sop_same {e : Env} {σ σ' : Stack} {d : D} {k : K} (h : sop e σ k = some (d, σ')) (hk : k.calm = true) : σ' = σ := by
  cases k <;> simp only [K.calm, Bool.false_eq_true] at hk <;> simp only [sop, Option.bind_eq_bind, reduceCtorEq] at h <;> (repeat' split at h) <;>
    simp only [Option.map_eq_some_iff, Option.bind_eq_some_iff, Option.some.injEq, Prod.mk.injEq, Prod.exists, reduceCtorEq, exists_eq_left, and_false, exists_false] at h <;> (try split at h) <;>
    simp_all <;> (try (obtain ⟨_, _, h⟩ := h; simp_all)) <;> (try grind)

theorem goes_st {e : Env} {σ σ' : Stack} {d : D} {nb : List (Nat × Nat)} {sz : Nat} {a x : Opd} (h : sop e σ (.st nb sz a x) = some (d, σ')) : Goes σ σ' := by
  simp only [sop] at h
  split at h
  case h_2 => cases h
  split at h
  case h_2 => cases h
  rename_i l i v off hX _ cs hcs
  split at h
  case h_2 => cases h
  rename_i p hcells
  split at h
  case isFalse => cases h
  rename_i hc
  split at h
  · rename_i htop
    split at h
    · rename_i p' σ1 hnb
      cases h
      have hg := nilbs_goes _ _ _ _ _ hnb
      exact hg.trans (Goes.set fun hl => by have := hg.len; omega)
    · cases h
  · rename_i htop
    cases h
    obtain ⟨h1, h2⟩ := frzL_spec l deep p σ
    refine ⟨setBlk_length.trans h2.len, fun hl => (h2.low hl).set fun hlt => ?_⟩
    have hcl := cells?_low hl hcs (by have := h2.len; omega)
    simp only [Blk.low, lowL_append]
    exact ⟨⟨lowL_take hcl, h1⟩, lowL_drop hcl⟩

theorem goes_app {e : Env} {σ σ' : Stack} {d : D} {w bytes : Nat} {s x : Opd} (h : sop e σ (.app w bytes s x) = some (d, σ')) : Goes σ σ' := by
  simp only [sop, Option.bind_eq_bind, Option.bind_eq_some_iff] at h
  obtain ⟨⟨m, xs⟩, he, h⟩ := h
  dsimp only at h
  split at h
  · split at h
    case isFalse => cases h
    split at h
    · cases h; exact .refl _
    · simp only [Option.bind_eq_some_iff] at h
      obtain ⟨⟨l, i, σ1⟩, hn, h⟩ := h
      cases h
      exact .new hn
  · split at h
    case h_2 => cases h
    rename_i l i v off n w' hX _ cs hcs
    split at h
    case isFalse => cases h
    split at h
    · cases h
      exact .set fun hl => by omega
    · cases h
      obtain ⟨h1, h2⟩ := frzL_spec l deep xs σ
      refine ⟨setBlk_length.trans h2.len, fun hl => (h2.low hl).set fun hlt => ?_⟩
      have hcl := cells?_low hl hcs (by have := h2.len; omega)
      simp only [Blk.low, lowL_append]
      exact ⟨lowL_take (lowL_drop hcl), h1⟩
  · cases h

theorem sop_goes {e : Env} {σ σ' : Stack} {d : D} : ∀ {k : K}, sop e σ k = some (d, σ') → Goes σ σ'
  | .st .., h => goes_st h
  | .app .., h => goes_app h
  | .apz w bytes s x, h => by
    simp only [sop, Option.map_eq_some_iff, Prod.exists] at h
    obtain ⟨d1, σ1, h1, h2⟩ := h
    obtain ⟨h3, h4⟩ := frz_spec 0 deep d1 σ1
    rw [h2] at h4
    exact (goes_app (by rw [sop_app]; exact h1)).trans h4
  | .alc nb cs, h => by
    simp only [sop, Option.bind_eq_bind, Option.bind_eq_some_iff] at h
    obtain ⟨⟨cs', σ1⟩, hnb, ⟨l, i, σ2⟩, hn, h⟩ := h
    cases h
    exact (nilbs_goes _ _ _ _ _ hnb).trans (.new hn)
  | .nilb w, h => by
    simp only [sop, Option.bind_eq_bind, Option.bind_eq_some_iff] at h
    obtain ⟨⟨l, i, σ2⟩, hn, h⟩ := h
    cases h
    exact .new hn
  | .boxm x, h => by
    simp only [sop, Option.bind_eq_bind, Option.bind_eq_some_iff] at h
    obtain ⟨cs, _, ⟨l, i, σ2⟩, hn, h⟩ := h
    cases h
    exact .new hn
  | .bsm .., h => by
    simp only [sop, Option.bind_eq_bind, Option.bind_eq_some_iff] at h
    obtain ⟨cs, _, ⟨l, i, σ2⟩, hn, h⟩ := h
    cases h
    exact .new hn
  | .mks .., h => by
    simp only [sop] at h
    split at h
    · split at h
      · simp only [Option.bind_eq_bind, Option.bind_eq_some_iff] at h
        obtain ⟨⟨l, i, σ2⟩, hn, h⟩ := h
        cases h
        exact .new hn
      · cases h
    · cases h
  | .mv _, h => same h rfl
  | .pick .., h => same h rfl
  | .alcv .., h => by simp [sop] at h
  | .boxi _, h => same h rfl
  | .boxv _, h => by simp [sop] at h
  | .bld .., h => same h rfl
  | .bsi .., h => same h rfl
  | .ld .., h => same h rfl
  | .ldi .., h => same h rfl
  | .stc os sz a x, h => goes_st (sop_stc h)
  | .isn .., h => same h rfl
  | .nck .., h => same h rfl
  | .ldv .., h => same h rfl
  | .stv .., h => by simp [sop] at h
  | .bin .., h => same h rfl
  | .eqv .., h => same h rfl
  | .un .., h => same h rfl
  | .cvt .., h => same h rfl
  | .mkf .., h => same h rfl
  | .slc .., h => same h rfl
  | .slca .., h => same h rfl
  | .fadr .., h => same h rfl
  | .fld .., h => same h rfl
  | .idxA .., h => same h rfl
  | .idxS .., h => same h rfl
  | .idxV .., h => same h rfl
  | .lenS .., h => same h rfl
  | .lenC .., h => same h rfl
  | .mn .., h => same h rfl
  | .mx .., h => same h rfl
  | .cpi .., h => same h rfl
  | .ext .., h => same h rfl
  | .call .., h => by simp [sop] at h
where
  same {e : Env} {σ σ' : Stack} {d : D} {k : K} (h : sop e σ k = some (d, σ')) (hk : k.calm = true) : Goes σ σ' := by
    rw [sop_same h hk]; exact .refl _
end Go.Abs

/-
  One operation as a step of the machine: a frame and what the interpreter says of it.
-/
set_option linter.unusedVariables false
set_option linter.unusedSimpArgs false
namespace Go.Abs
open Go

/-! ### Steps -/
section steps
variable {P : Program} {b : Frame} {a : Act} {k : List Item} {cs : List Frame} {w w' : World} {ops : Array Oper} {i : Nat} {rest : List Nat} {o : Oper}

theorem finish_op (ho : ops[i]? = some o) (v : Value) : (b.atR a (.inRegion ops (i :: rest) :: k)).finish v = b.atR (a.put o.dst v) (.inRegion ops rest :: k) := by
  rw [Frame.finish_atR, ho]; rfl

theorem step_value {x : Next} {c : Value} (ho : ops[i]? = some o) (hw : Region.wanted o (yielded ops a.tmps) = true) (hd : ∀ c, o.op ≠ .defer c)
    (hr : (execOp a.eval o).run P w = .ok x w') (hx : outV x = some c) :
    step P (lone (b.atR a (.inRegion ops (i :: rest) :: k)) cs w) = .next (lone (b.atR (a.put o.dst c) (.inRegion ops rest :: k)) cs w') := by
  have hg := stepGR_op (P := P) (b := b) (k := k) (cs := cs) (w := w) (rest := rest) ho hw
  rw [Oper.semAt_eq _ _ _ hd] at hg
  have hfin := finish_op (b := b) (a := a) (rest := rest) (k := k) ho c
  cases x <;> simp only [outV, Option.some.injEq, reduceCtorEq] at hx
  · subst hx
    exact step_lone_go (by rw [hg, ← hfin]; simp [stepG.apply, hr])
  · subst hx
    exact step_lone_go (by rw [hg, ← hfin]; simp [stepG.apply, hr])

theorem step_enter {f : FuncId} {args : Array Value} (ho : ops[i]? = some o) (hw : Region.wanted o (yielded ops a.tmps) = true) (hd : ∀ c, o.op ≠ .defer c)
    (hr : (execOp a.eval o).run P w = .ok (.enter f args) w') :
    step P (lone (b.atR a (.inRegion ops (i :: rest) :: k)) cs w) = .next (lone (Frame.enter P f args .normal) (b.atR a (.inRegion ops (i :: rest) :: k) :: cs) w') := by
  have hg := stepGR_op (P := P) (b := b) (k := k) (cs := cs) (w := w) (rest := rest) ho hw
  rw [Oper.semAt_eq _ _ _ hd] at hg
  exact step_lone_go (by rw [hg]; simp [stepG.apply, hr, Frame.atR])

theorem step_round {l : Nat} {f : FuncId} {tmps : Array Value} {asg body : Code} (ho : ops[i]? = some o) (hw : Region.wanted o (yielded ops a.tmps) = true) (hd : ∀ c, o.op ≠ .defer c)
    (hr : (execOp a.eval o).run P w = .ok (.round l f tmps asg body) w') :
    step P (lone (b.atR a (.inRegion ops (i :: rest) :: k)) cs w) = .next (lone (Frame.round l f tmps asg body .normal) (b.atR a (.inRegion ops (i :: rest) :: k) :: cs) w') := by
  have hg := stepGR_op (P := P) (b := b) (k := k) (cs := cs) (w := w) (rest := rest) ho hw
  rw [Oper.semAt_eq _ _ _ hd] at hg
  exact step_lone_go (by rw [hg]; simp [stepG.apply, hr, Frame.atR])
end steps

theorem G.le.trans' {a b c : G} (h : a.le b) (h' : b.le c) : a.le c := G.le_trans h h'

/-! ### Marks: the deferred calls that loops over functions leave -/

def mark (r : Nat) : Deferred := { target := .collected r, args := #[] }

structure MarkB (fb : Nat) (g : G) (w : World) (r : Nat) : Prop where
  lo : fb ≤ r
  free : ¬ g.has r
  noimm : ∀ o, g.imm r o = none
  blk : w.heap[r]? = some (.deferred (some []))

theorem MarkB.lt {fb : Nat} {g : G} {w : World} {r : Nat} (h : MarkB fb g w r) : r < w.heap.size := (Array.getElem?_eq_some_iff.1 h.blk).1

theorem MarkB.ev {fb : Nat} {g g' : G} {w w' : World} {r : Nat} (h : MarkB fb g w r) (he : Ev g w g' w') : MarkB fb g' w' r where
  lo := h.lo
  free := fun hb => by
    rcases he.img r hb with h1 | h1
    · exact h.free h1
    · have := h.lt; omega
  noimm o := by
    cases e : g'.imm r o with
    | none => rfl
    | some v =>
      rcases he.immN r o v e with h1 | h1 | h1
      · rw [h.noimm o] at h1; cases h1
      · exact absurd h1 h.free
      · have := h.lt; omega
  blk := (he.kept r h.lt h.free).trans h.blk

structure Marks (fb : Nat) (g : G) (w : World) (df : List Deferred) (rs : List Nat) : Prop where
  eq : df = rs.map mark
  nodup : rs.Nodup
  all : ∀ r ∈ rs, MarkB fb g w r

theorem Marks.ev {fb : Nat} {g g' : G} {w w' : World} {df : List Deferred} {rs : List Nat} (h : Marks fb g w df rs) (he : Ev g w g' w') : Marks fb g' w' df rs :=
  ⟨h.eq, h.nodup, fun r hr => (h.all r hr).ev he⟩

/-! ### A frame at work -/

/-- A frame at work: V: its own variables; g0, w0: what was, and the memory, when it began; n: how many temporaries. -/
structure At (CR : CRel) (base : Nat) (V : List Nat) (g0 : G) (w0 : World) (n : Nat) (b : Frame) (g : G) (w : World) (B : Nat → Nat) (e : Env) (σ : Stack) (a : Act) : Prop where
  fr : Fr w0.heap.size V g w B e a.tmps
  ev : Ev g0 w0 g w
  inv : Inv CR base g σ w
  low : LowS σ
  pos : 0 < σ.length
  size : a.tmps.size = n
  marks : ∃ rs, Marks w0.heap.size g w a.defers rs
  round : b.roundOf = none ∨ ∃ r l i, b.roundOf = some r ∧ g.loc l i = some (.lp r)

theorem Loc.lp_le {L : Loc} {r : Nat} (h : Loc.le (.lp r) L) : L = .lp r := h

theorem round_mono {b : Frame} {g g' : G} (h : b.roundOf = none ∨ ∃ r l i, b.roundOf = some r ∧ g.loc l i = some (.lp r)) (hle : g.le g') :
    b.roundOf = none ∨ ∃ r l i, b.roundOf = some r ∧ g'.loc l i = some (.lp r) := by
  rcases h with h | ⟨r, l, i, h1, h2⟩
  · exact .inl h
  · obtain ⟨L, h3, h4⟩ := hle.loc l i _ h2
    rw [Loc.lp_le h4] at h3
    exact .inr ⟨r, l, i, h1, h3⟩

theorem RelF.imp {g g' : G} {B B' : Nat → Nat} {e e' : Env} {d : D} {c : Value} (h : ∀ d c, RelT g B e d c → RelT g' B' e' d c) (h0 : RelF g B e d c) : RelF g' B' e' d c := by
  cases d <;> simp only [RelF] at h0 ⊢ <;> exact h _ _ h0

section put
variable {fb : Nat} {V : List Nat} {g g' : G} {w w' : World} {B : Nat → Nat} {e : Env} {tmps : Array Value}

theorem get_put {dst : Option Nat} {d : D} {t : Nat} : get (put dst d e) t = if dst = some t then d else get e t := by
  cases dst with
  | none => simp [put]
  | some t' => simp [put, get]

theorem getD_put {dst : Option Nat} {c : Value} {df : List Deferred} {t : Nat} (h : ∀ d, dst = some d → d < tmps.size) :
    ((Act.mk tmps df).put dst c).tmps.getD t Go.undef = if dst = some t then c else tmps.getD t Go.undef := by
  cases dst with
  | none => simp [Act.put]
  | some d =>
    have := h d rfl
    simp only [Act.put, Option.some.injEq, Array.getD_eq_getD_getElem?]
    split
    · rename_i hd; subst hd; simp [this]
    · rename_i hd; rw [Array.getElem?_setIfInBounds_ne hd]

/-- A value that is no variable of the frame's own, at a temporary that is none. -/
theorem Fr.put (hf : Fr fb V g w B e tmps) {dst : Option Nat} {d : D} {c : Value} {df : List Deferred} (hr : RelT g B e d c) (hV : ∀ t, dst = some t → t ∉ V) (hn : ∀ t, dst = some t → t < tmps.size) :
    Fr fb V g w B (put dst d e) ((Act.mk tmps df).put dst c).tmps := by
  have hown : ∀ t s cs, get (Abs.put dst d e) t = .own s cs → get e t = .own s cs ∧ dst ≠ some t := by
    intro t s cs h
    rw [get_put] at h
    split at h
    · subst h; exact hr.elim
    · exact ⟨h, by assumption⟩
  have hkeep : ∀ x s cs, get e x = .own s cs → get (Abs.put dst d e) x = .own s cs := by
    intro x s cs h
    rw [get_put, if_neg]
    · exact h
    · intro hx; exact hV x hx (hf.own x s cs h).1
  have hT : ∀ d0 c0, RelT g B e d0 c0 → RelT g B (Abs.put dst d e) d0 c0 := by
    intro d0 c0 h0
    cases d0 <;> first | exact h0 | skip
    rename_i x s off
    obtain ⟨s', cs, b, o, e1, e2⟩ := h0
    exact ⟨s', cs, b, o, hkeep _ _ _ e1, e2⟩
  refine ⟨fun t => ?_, fun t s cs h => ?_, fun t t' s s' cs cs' h h' => ?_⟩
  · rw [get_put, getD_put hn]
    split
    · have := hT _ _ hr
      cases d <;> first | exact this | exact this.elim
    · exact (hf.rel t).imp hT
  · obtain ⟨h1, h2⟩ := hown t s cs h
    rw [getD_put hn, if_neg h2]
    exact hf.own t s cs h1
  · exact hf.inj t t' s s' cs cs' (hown _ _ _ h).1 (hown _ _ _ h').1

/-- A temporary that is not a variable of the frame's own gets another form of its value. -/
theorem Fr.repl (hf : Fr fb V g w B e tmps) {v : Nat} {d : D} (hr : RelT g B e d (tmps.getD v Go.undef)) (h0 : ∀ s cs, get e v ≠ .own s cs) :
    Fr fb V g w B ((v, d) :: e) tmps := by
  have hg : ∀ t, get ((v, d) :: e) t = if v = t then d else get e t := fun t => rfl
  have hown : ∀ t s cs, get ((v, d) :: e) t = .own s cs → get e t = .own s cs := by
    intro t s cs h
    rw [hg] at h
    split at h
    · subst h; exact hr.elim
    · exact h
  have hkeep : ∀ x s cs, get e x = .own s cs → get ((v, d) :: e) x = .own s cs := by
    intro x s cs h
    rw [hg, if_neg]
    · exact h
    · intro hx; subst hx; exact h0 _ _ h
  have hT : ∀ d0 c0, RelT g B e d0 c0 → RelT g B ((v, d) :: e) d0 c0 := by
    intro d0 c0 h0
    cases d0 <;> first | exact h0 | skip
    rename_i x s off
    obtain ⟨s', cs, b, o, e1, e2⟩ := h0
    exact ⟨s', cs, b, o, hkeep _ _ _ e1, e2⟩
  refine ⟨fun t => ?_, fun t s cs h => hf.own t s cs (hown t s cs h), fun t t' s s' cs cs' h h' => hf.inj t t' s s' cs cs' (hown _ _ _ h) (hown _ _ _ h')⟩
  rw [hg]
  split
  · rename_i hv
    subst hv
    have := hT _ _ hr
    cases d <;> first | exact this | exact this.elim
  · exact (hf.rel t).imp hT

/-- A new variable of the frame's own, in a new block. -/
theorem Fr.putOwn (hf : Fr fb V g w B e tmps) {v : Nat} {cs : List D} {df : List Deferred} (hV : v ∈ V) (hn : v < tmps.size) {b : Nat}
    (hob : OwnB fb g w b cs) (hnew : ∀ t s cs, get e t = .own s cs → B t ≠ b) :
    Fr fb V g w (fun t => if t = v then b else B t) ((v, .own (stamp e v) cs) :: e) ((Act.mk tmps df).put (some v) (.pointer (some ⟨b, 0, none⟩))).tmps := by
  have hg : ∀ t, get ((v, D.own (stamp e v) cs) :: e) t = if v = t then .own (stamp e v) cs else get e t := fun t => rfl
  refine ⟨fun t => ?_, fun t s cs' h => ?_, fun t t' s s' cs1 cs2 h h' hB => ?_⟩
  · rw [hg, getD_put (by simpa using hn)]
    by_cases hv : v = t
    · subst hv; simp [RelF]
    · rw [if_neg hv, if_neg (by simpa using hv)]
      have h0 := hf.rel t
      cases hd : get e t <;> rw [hd] at h0 <;> first | trivial | exact h0 | skip
      rename_i x s off
      obtain ⟨s', cs', b', o, e1, e2, e3, e4⟩ := h0
      by_cases hx : v = x
      · subst hx
        refine ⟨_, _, b', o, by rw [hg, if_pos rfl], ?_, e3, fun hs => ?_⟩
        · simp only [stamp, e1]; omega
        · simp only [stamp, e1] at hs; omega
      · exact ⟨s', cs', b', o, by rw [hg, if_neg hx]; exact e1, e2, e3, fun hs => by show b' = (if x = v then b else B x) ∧ _; rw [if_neg (by omega)]; exact e4 hs⟩
  · rw [hg] at h
    rw [getD_put (by simpa using hn)]
    by_cases hv : v = t
    · subst hv
      rw [if_pos rfl] at h
      cases h
      exact ⟨hV, by simp, by simpa using hob⟩
    · rw [if_neg hv] at h
      rw [if_neg (by simpa using hv), if_neg (by omega)]
      exact hf.own t s cs' h
  · rw [hg] at h h'
    replace hB : (if t = v then b else B t) = (if t' = v then b else B t') := hB
    by_cases hv : v = t
    · by_cases hv' : v = t'
      · omega
      · rw [if_neg hv'] at h'
        rw [if_pos hv.symm, if_neg (by omega)] at hB
        exact absurd hB.symm (hnew t' _ _ h')
    · rw [if_neg hv] at h
      by_cases hv' : v = t'
      · rw [if_neg (by omega), if_pos hv'.symm] at hB
        exact absurd hB (hnew t _ _ h)
      · rw [if_neg hv'] at h'
        rw [if_neg (by omega), if_neg (by omega)] at hB
        exact hf.inj _ _ _ _ _ _ h h' hB

/-- What an address inside a variable of the frame's own is. -/
theorem Fr.inVar (hf : Fr fb V g w B e tmps) {v x s off : Nat} {cs : List D} (hin : inVar e v x = some (s, cs, off)) :
    get e v = .own s cs ∧ tmps.getD x Go.undef = .pointer (some ⟨B v, off, none⟩) := by
  unfold Abs.inVar at hin
  split at hin
  · rename_i s' cs' hg
    obtain ⟨_, hp, _⟩ := hf.own v s' cs' hg
    split at hin
    · rename_i hxv; subst hxv
      cases hin
      exact ⟨hg, hp⟩
    · split at hin
      · rename_i x' s2 off2 hg2
        split at hin
        · rename_i hc
          obtain ⟨rfl, rfl⟩ := hc
          cases hin
          have := hf.rel x
          rw [hg2] at this
          obtain ⟨s3, cs3, b3, o3, e1, _, e2, e3⟩ := this
          rw [hg] at e1; cases e1
          obtain ⟨rfl, rfl⟩ := e3 rfl
          exact ⟨hg, e2⟩
        · cases hin
      · cases hin
  · cases hin

/-- A variable of the frame's own is written. -/
theorem Fr.setOwn (hf : Fr fb V g w B e tmps) {v s : Nat} {cs cs' : List D} (hv : get e v = .own s cs)
    (hob : OwnB fb g w' (B v) cs') (hoth : ∀ b, b < w.heap.size → b ≠ B v → w'.heap[b]? = w.heap[b]?) :
    Fr fb V g w' B ((v, .own s cs') :: e) tmps := by
  have hg : ∀ t, get ((v, D.own s cs') :: e) t = if v = t then .own s cs' else get e t := fun t => rfl
  refine ⟨fun t => ?_, fun t s1 cs1 h => ?_, fun t t' s1 s2 cs1 cs2 h h' hB => ?_⟩
  · rw [hg]
    by_cases hvt : v = t
    · subst hvt; simp [RelF]
    · rw [if_neg hvt]
      have h0 := hf.rel t
      cases hd : get e t <;> rw [hd] at h0 <;> first | trivial | exact h0 | skip
      rename_i x s1 off
      obtain ⟨s2, cs2, b2, o2, e1, e2, e3, e4⟩ := h0
      by_cases hx : v = x
      · subst hx
        rw [hv] at e1; cases e1
        exact ⟨s, cs', b2, o2, by rw [hg, if_pos rfl], e2, e3, e4⟩
      · exact ⟨s2, cs2, b2, o2, by rw [hg, if_neg hx]; exact e1, e2, e3, e4⟩
  · rw [hg] at h
    by_cases hvt : v = t
    · subst hvt
      rw [if_pos rfl] at h
      cases h
      obtain ⟨h1, h2, h3⟩ := hf.own v s cs hv
      exact ⟨h1, h2, hob⟩
    · rw [if_neg hvt] at h
      obtain ⟨h1, h2, h3⟩ := hf.own t s1 cs1 h
      refine ⟨h1, h2, h3.lo, h3.free, h3.noimm, ?_⟩
      obtain ⟨c, el, hb, hr, h5⟩ := h3.blk
      exact ⟨c, el, (hoth _ h3.lt fun hB => hvt (hf.inj _ _ _ _ _ _ hv h hB.symm)).trans hb, hr, h5⟩
  · rw [hg] at h h'
    by_cases hvt : v = t
    · subst hvt
      by_cases hvt' : v = t'
      · exact hvt'
      · rw [if_neg hvt'] at h'; exact hf.inj _ _ _ _ _ _ hv h' hB
    · rw [if_neg hvt] at h
      by_cases hvt' : v = t'
      · subst hvt'; exact hf.inj _ _ _ _ _ _ h hv hB
      · rw [if_neg hvt'] at h'; exact hf.inj _ _ _ _ _ _ h h' hB
end put

/-- A memory that is another but at blocks that the store knows nothing of. -/
theorem Inv.foreign {CR : CRel} {base : Nat} {g : G} {σ : Stack} {w w' : World} (hi : Inv CR base g σ w)
    (hk : ∀ b, b < w.heap.size → (g.has b ∨ ∃ o v, g.imm b o = some v) → w'.heap[b]? = w.heap[b]?) (hs : w.heap.size ≤ w'.heap.size) : Inv CR base g σ w' where
  ge := Nat.le_trans hi.ge hs
  dom l i L e := let ⟨b, hb, hr⟩ := hi.dom l i L e; ⟨b, hb, hr.mono g.le_refl fun x hx => hk x (hi.lo l i L x e hx).2 (.inl ⟨l, i, L, e, hx⟩)⟩
  imm b o v e := let ⟨h1, h2⟩ := hi.imm b o v e; ⟨(cell?_congr (hk b (hi.imm_lt e) (.inr ⟨o, v, e⟩))).trans h1, h2⟩
  sep := hi.sep
  inj := hi.inj
  tot := hi.tot
  lo l i L b e eb := ⟨(hi.lo l i L b e eb).1, Nat.lt_of_lt_of_le (hi.lo l i L b e eb).2 hs⟩

theorem Inv.alloc {CR : CRel} {base : Nat} {g : G} {σ : Stack} {w : World} (hi : Inv CR base g σ w) (o : Obj) : Inv CR base g σ (w.alloc o) :=
  hi.foreign (fun b hb _ => alloc_old hb) (by simp)

theorem Ev.alloc (g : G) (w : World) (o : Obj) : Ev g w g (w.alloc o) :=
  ⟨g.le_refl, rfl, rfl, rfl, by simp, fun b hb _ => alloc_old hb, fun _ h => .inl h, fun _ _ _ h => .inl h⟩

end Go.Abs

/-
  One operation of a region, calls too.
-/
set_option linter.unusedVariables false
set_option linter.unusedSimpArgs false
namespace Go.Abs
open Go

/-! ### What an oracle's answers must be -/

def CallOk (P : Program) (CR : CRel) (f : Nat) (args : List D) (σ : Stack) (d : D) (σ' : Stack) : Prop :=
  (∃ F c, P.funcs[f]? = some F ∧ F.name ≠ "runtime.NumGoroutine" ∧ F.body = some c) ∧
  ∀ base g w vs, Inv CR base g σ w → LowS σ → 0 < σ.length → RelL g args vs.toList →
    Goes σ σ' ∧ Calls P f vs w (fun e w' => ∃ v g', e = .returned v ∧ Ev g w g' w' ∧ Inv CR base g' σ' w' ∧ RelV g' d v)

def RoundOk (P : Program) (CR : CRel) (l i : Nat) (args : List D) (σ : Stack) (d : D) (σ' : Stack) : Prop :=
  ∀ base g w vs b, Inv CR base g σ w → LowS σ → 0 < σ.length → RelL g args vs.toList → RelV g (.yld l i) (.func (.yield b) #[] #[]) →
    Goes σ σ' ∧ ∃ f tmps asg body, (Instr.yield b vs).run P w = .ok (.round b f tmps asg body) w ∧
      ∀ c cs, ∃ v g' w', Steps P (lone (Frame.round b f tmps asg body .normal) (c :: cs) w) (lone (c.finish v) cs w') ∧ Ev g w g' w' ∧ Inv CR base g' σ' w' ∧ RelV g' d v

/-- Where a frame stands behind a command. -/
def Lands (k : List Item) : Exit → List Item → Prop
  | .normal, t => t = k
  | .exit id, t => ∃ k', t = .code (.exit id) :: k' ∧ exitTo id k' = exitTo id k
  | .ret, t => ∃ k', t = .code .ret :: k'

def LoopOk (P : Program) (CR : CRel) (c : Cmd) (e : Env) (σ : Stack) (x : Exit) (e' : Env) (σ' : Stack) : Prop :=
  x ≠ .normal ∧ ∀ (ann : Ann) blk code n, codeC P ann n blk code = some c → ∀ base g0 w0 b a k cs g w B, At CR base ann.ownv g0 w0 n b g w B e σ a →
    ∃ g' w' B' a' todo, Steps P (lone (b.atR a (.code code :: .inLoop code :: k)) cs w) (lone (b.atR a' todo) cs w') ∧
      At CR base ann.ownv g0 w0 n b g' w' B' e' σ' a' ∧ g.le g' ∧ Lands k x todo ∧ Goes σ σ'

def AnsOk (P : Program) (CR : CRel) : Q → R → Prop
  | .call _ f args σ, .val d σ' => CallOk P CR f args σ d σ'
  | .round l i args σ, .val d σ' => RoundOk P CR l i args σ d σ'
  | .loop _ _ c e σ, .ctl x e' σ' => LoopOk P CR c e σ x e' σ'
  | _, _ => True

def OrOk (P : Program) (CR : CRel) (O : Oracle) : Prop := ∀ q r, O q = some r → AnsOk P CR q r

theorem vals_some {r : Option R} {d : D} {σ : Stack} (h : R.vals r = some (d, σ)) : r = some (.val d σ) := by
  unfold R.vals at h
  split at h
  · cases h; rfl
  · cases h

theorem ctls_some {r : Option R} {x : Exit} {e : Env} {σ : Stack} (h : R.ctls r = some (x, e, σ)) : r = some (.ctl x e σ) := by
  unfold R.ctls at h
  split at h
  · cases h; rfl
  · cases h

section
variable {P : Program} {CR : CRel} {O : Oracle} {ann : Ann} {n reg : Nat} {ops : Array Oper} {base : Nat} {g0 g : G} {w0 w : World} {b : Frame} {B : Nat → Nat} {e e' : Env} {σ σ' : Stack} {a : Act}
  {k : List Item} {cs : List Frame} {i : Nat} {rest : List Nat}

/-- The next moment of a frame in a region. -/
def Next1 (P : Program) (CR : CRel) (ann : Ann) (n : Nat) (ops : Array Oper) (base : Nat) (g0 : G) (w0 : World) (b : Frame) (g : G) (w : World) (a : Act) (k : List Item) (cs : List Frame) (i : Nat) (rest : List Nat) (σ : Stack) (e' : Env) (σ' : Stack) : Prop :=
  ∃ g' w' B' a', Steps P (lone (b.atR a (.inRegion ops (i :: rest) :: k)) cs w) (lone (b.atR a' (.inRegion ops rest :: k)) cs w') ∧
    At CR base ann.ownv g0 w0 n b g' w' B' e' σ' a' ∧ g.le g' ∧ Goes σ σ'

theorem At.go {V : List Nat} (ha : At CR base V g0 w0 n b g w B e σ a) {g' : G} {w' : World} {B' : Nat → Nat} {tm : Act} (he : Ev g w g' w') (hi : Inv CR base g' σ' w') (hg : Goes σ σ')
    (hf : Fr w0.heap.size V g' w' B' e' tm.tmps) (hs : tm.tmps.size = a.tmps.size) (hd : tm.defers = a.defers) : At CR base V g0 w0 n b g' w' B' e' σ' tm where
  fr := hf
  ev := ha.ev.trans he
  inv := hi
  low := hg.low ha.low
  pos := by rw [hg.len]; exact ha.pos
  size := by rw [hs]; exact ha.size
  marks := let ⟨rs, h⟩ := ha.marks; ⟨rs, by rw [hd]; exact h.ev he⟩
  round := round_mono ha.round he.le

theorem put_size {dst : Option Nat} {c : Value} : (a.put dst c).tmps.size = a.tmps.size := by cases dst <;> simp [Act.put]
theorem put_defers {dst : Option Nat} {c : Value} : (a.put dst c).defers = a.defers := by cases dst <;> simp [Act.put]

theorem kC_defer {ann : Ann} {key : Nat} {o : Oper} {kk : K} (h : kC P ann ops key o = some kk) : ∀ c, o.op ≠ .defer c := by
  intro c hc
  unfold kC at h
  rw [hc] at h
  cases h

/-- A value comes to an operation's place. -/
theorem next_value (ha : At CR base ann.ownv g0 w0 n b g w B e σ a) {o : Oper} (ho : ops[i]? = some o) (hn : ∀ t, o.dst = some t → t < n) (hV : ∀ t, o.dst = some t → t ∉ ann.ownv)
    {g' : G} {w' : World} {d : D} {c : Value} (hsteps : Steps P (lone (b.atR a (.inRegion ops (i :: rest) :: k)) cs w) (lone (b.atR (a.put o.dst c) (.inRegion ops rest :: k)) cs w'))
    (he : Ev g w g' w') (hi : Inv CR base g' σ' w') (hg : Goes σ σ') (hr : RelT g' B e d c) :
    Next1 P CR ann n ops base g0 w0 b g w a k cs i rest σ (put o.dst d e) σ' := by
  refine ⟨g', w', B, a.put o.dst c, hsteps, ha.go he hi hg ?_ put_size put_defers, he.le, hg⟩
  exact (ha.fr.ev he).put hr hV fun t ht => by rw [ha.size]; exact hn t ht

theorem run_resolve_value {ρ : Operand → Value} {f : Operand} {args : Array Operand} {ts : Array TypeId} {ty : TypeId} {fn : Go.Fn} {first cap : Array Value} (hf : ρ f = .func fn first cap) (w : World) :
    (resolve ρ { callee := .value f, args, argTypes := ts } ty).run P w = .ok { target := .fn fn cap, args := first ++ args.map ρ } w := by
  simp [resolve, Deferred.ofValue, hf]

theorem run_callFunc {f : FuncId} {args : Array Value} {F : Func} (h1 : P.funcs[f]? = some F) (h2 : F.name ≠ "runtime.NumGoroutine") {c : Code} (h3 : F.body = some c) (w : World) :
    (callFunc f args).run P w = .ok (.enter f args) w := by
  simp [callFunc, program, Sem.run, h1, h2, h3]

theorem opsC_map {xs : Array Operand} {Xs : List Opd} {fb : Nat} {V : List Nat} {tmps : Array Value} {df : List Deferred} (hf : Fr fb V g w B e tmps) (hx : opdsC xs.toList = some Xs) :
    RelL g (Xs.map (Abs.opd e)) (xs.map (Act.mk tmps df).eval).toList := by
  have := hf.opds (df := df) hx
  simpa using this

/-- A call. -/
theorem call_ok (hO : OrOk P CR O) (ha : At CR base ann.ownv g0 w0 n b g w B e σ a) {o : Oper} (ho : ops[i]? = some o) (hw : Region.wanted o (yielded ops a.tmps) = true)
    (hn : ∀ t, o.dst = some t → t < n) (hV : ∀ t, o.dst = some t → t ∉ ann.ownv) {f : Operand} {args : Array Operand} {ts : Array TypeId} (hop : o.op = .call { callee := .value f, args, argTypes := ts })
    {F : Opd} {Xs : List Opd} (hF : opdC f = some F) (hX : opdsC args.toList = some Xs) {kp : Bool} {d : D} (h : callv O kp (opd e F) (Xs.map (opd e)) σ = some (d, σ')) :
    Next1 P CR ann n ops base g0 w0 b g w a k cs i rest σ (put o.dst d e) σ' := by
  obtain ⟨tmps, df⟩ := a
  have hd : ∀ c, o.op ≠ .defer c := by intro c hc; rw [hop] at hc; cases hc
  have hfv := ha.fr.opd (df := df) hF
  have hxs := opsC_map (df := df) ha.fr hX
  unfold callv at h
  split at h
  · rename_i fi first cap hfe
    rw [hfe] at hfv
    have hans := hO _ _ (vals_some h)
    obtain ⟨⟨Fn, cd, hfn1, hfn2, hfn3⟩, hcall⟩ := hans
    generalize hev : (Act.mk tmps df).eval f = fv at hfv
    cases hfv with
    | fn _ _ _ first' cap' r1 r2 =>
      have hrun : (execOp (Act.mk tmps df).eval o).run P w = .ok (.enter fi (first' ++ args.map (Act.mk tmps df).eval ++ cap')) w := by
        simp only [execOp, hop, Sem.run_bind, run_resolve_value hev, Result.andThen_ok, invoke, run_callFunc hfn1 hfn2 hfn3]
      have hargs : RelL g (first ++ Xs.map (opd e) ++ cap) (first' ++ args.map (Act.mk tmps df).eval ++ cap').toList := by
        simpa using (r1.append hxs).append r2
      obtain ⟨hgo, hcalls⟩ := hcall base g w _ ha.inv ha.low ha.pos hargs
      obtain ⟨en, w', fr, ⟨v, g', rfl, he, hi, hr⟩, hcomes, hfr, hleave⟩ := hcalls (b.atR ⟨tmps, df⟩ (.inRegion ops (i :: rest) :: k) :: cs)
      refine next_value ha ho hn hV (Steps.head (step_enter ho hw hd hrun) (Steps.trans hcomes (Steps.one ?_))) he hi hgo (RelT.of hr)
      rw [step_leave_returned hleave, finish_op ho]
  · rename_i l j hfe
    rw [hfe] at hfv
    have hans := hO _ _ (vals_some h)
    generalize hev : (Act.mk tmps df).eval f = fv at hfv
    have hfv0 := hfv
    cases hfv with
    | yld _ _ bb L r1 r2 =>
      obtain ⟨hgo, f0, tm0, asg, body, hy, hround⟩ := hans base g w (args.map (Act.mk tmps df).eval) bb ha.inv ha.low ha.pos (by simpa using hxs) hfv0
      have hrun : (execOp (Act.mk tmps df).eval o).run P w = .ok (.round bb f0 tm0 asg body) w := by
        simp only [execOp, hop, Sem.run_bind, run_resolve_value hev, Result.andThen_ok, invoke]
        simpa using hy
      obtain ⟨v, g', w', hsteps, he, hi, hr⟩ := hround (b.atR ⟨tmps, df⟩ (.inRegion ops (i :: rest) :: k)) cs
      refine next_value ha ho hn hV (Steps.head (step_round ho hw hd hrun) ?_) he hi hgo (RelT.of hr)
      rw [finish_op ho] at hsteps
      exact hsteps
  · cases h
end
end Go.Abs

/-
  One operation of a region: variables of the frame's own; any operation; a row of operations.
-/
set_option linter.unusedVariables false
set_option linter.unusedSimpArgs false
namespace Go.Abs
open Go

section
variable {P : Program} {CR : CRel} {O : Oracle} {ann : Ann} {n reg : Nat} {ops : Array Oper} {base : Nat} {g0 g : G} {w0 w : World} {b : Frame} {B : Nat → Nat} {e e' : Env} {σ σ' : Stack} {a : Act}
  {k : List Item} {cs : List Frame} {i : Nat} {rest : List Nat}

theorem own_ok (ha : At CR base ann.ownv g0 w0 n b g w B e σ a) {o : Oper} (ho : ops[i]? = some o) (hw : Region.wanted o (yielded ops a.tmps) = true) (hd : ∀ c, o.op ≠ .defer c)
    {v : Nat} (hdst : o.dst = some v) (hV : v ∈ ann.ownv) (hn : v < n) {g1 : G} {ds : List D} {ca : Array Value} {el : TypeId}
    (hrun : (execOp a.eval o).run P w = .ok (.value (.pointer (some ⟨w.heap.size, 0, none⟩))) (w.alloc (.cells ca el)))
    (i1 : Inv CR base g1 σ' w) (e1 : Ev g w g1 w) (hg : Goes σ σ') (hr : RelL g1 ds ca.toList) (h1 : ∀ x ∈ ca.toList, x.oneCell' = true) :
    Next1 P CR ann n ops base g0 w0 b g w a k cs i rest σ ((v, .own (stamp e v) ds) :: e) σ' := by
  obtain ⟨tmps, df⟩ := a
  have i2 := i1.alloc (.cells ca el)
  have e2 := e1.trans (Ev.alloc g1 w (.cells ca el))
  have hsteps := step_value (P := P) (b := b) (a := ⟨tmps, df⟩) (k := k) (cs := cs) (rest := rest) ho hw hd hrun rfl
  rw [hdst] at hsteps
  have hsz : v < tmps.size := by have := ha.size; simp only at this; omega
  refine ⟨g1, _, _, _, .one hsteps, ha.go e2 i2 hg ((ha.fr.ev e2).putOwn hV hsz ⟨ha.ev.size, fun hb => ?_, fun o => ?_, ca, el, alloc_new, hr, h1⟩ fun t s cs' ht => ?_) put_size put_defers, e2.le, hg⟩
  · exact Nat.lt_irrefl _ (i1.has_lt hb)
  · cases hh : g1.imm w.heap.size o with
    | none => rfl
    | some x => exact absurd (i1.imm_lt hh) (Nat.lt_irrefl _)
  · have := (ha.fr.own t s cs' ht).2.2.lt; omega

theorem stv_ok (ha : At CR base ann.ownv g0 w0 n b g w B e σ a) {o : Oper} (ho : ops[i]? = some o) (hw : Region.wanted o (yielded ops a.tmps) = true)
    (hn : ∀ t, o.dst = some t → t < n) (hV : ∀ t, o.dst = some t → t ∉ ann.ownv) {t : TypeId} {x v : Nat} {y : Operand} {Y : Opd} (hop : o.op = .store t (.tmp x) y) (hy : opdC y = some Y) {sz : Nat} (hsz : sizeC P t = some sz)
    {s off : Nat} {cv p p' : List D} {nb : List (Nat × Nat)} (hin : inVar e v x = some (s, cv, off)) (hp : (opd e Y).cells = some p) (hlen : p.length = sz ∧ off + sz ≤ cv.length)
    (hnb : nilbs nb p σ = some (p', σ')) (hdst : o.dst = none) :
    Next1 P CR ann n ops base g0 w0 b g w a k cs i rest σ ((v, .own s (cv.take off ++ p' ++ cv.drop (off + sz))) :: e) σ' := by
  obtain ⟨tmps, df⟩ := a
  have hd : ∀ c, o.op ≠ .defer c := by intro c hc; rw [hop] at hc; cases hc
  obtain ⟨hgv, hpx⟩ := ha.fr.inVar hin
  obtain ⟨hvV, hptr, hob⟩ := ha.fr.own v s cv hgv
  obtain ⟨ca, el, hheap, hrl, h1c⟩ := hob.blk
  obtain ⟨hrp, h1p⟩ := (ha.fr.opd (df := df) hy).cells hp
  obtain ⟨g1, i1, e1, r1⟩ := nilbs_ok nb _ _ _ _ g _ hnb ha.inv hrp
  obtain ⟨_, hp'len, _⟩ := nilbs_keep nb _ _ _ _ hnb
  have hpl : ((Act.mk tmps df).eval y).cells.toList.length = sz := by rw [← r1.length, hp'len]; exact hlen.1
  have hpl' : ((Act.mk tmps df).eval y).cells.size = sz := by simpa using hpl
  have hcl : ca.size = cv.length := by have := hrl.length; simpa using this.symm
  obtain ⟨w', c', hrun, hb', hs', hc', hother, hsize, ho1, ho2, ho3⟩ := run_storeVar (P := P) (t := t) (w := w) (b := B v) (o := off) (v := (Act.mk tmps df).eval y) hsz (by simpa using hpl) h1p hheap (by omega)
  have hob1 := hob.ev e1
  have hcv : (Act.mk tmps df).eval (.tmp x) = .pointer (some ⟨B v, off, none⟩) := hpx
  have hrunO : (execOp (Act.mk tmps df).eval o).run P w = .ok .skip w' := by
    simp [execOp, hop, Instr.storeAt, hcv, Instr.sureAddr, hrun]
  have hoth : ∀ b', b' ≠ B v → w'.heap[b']? = w.heap[b']? := hother
  have i2 : Inv CR base g1 σ' w' := i1.foreign (fun b' hb'' hk => hoth b' fun hh => by
    subst hh
    rcases hk with hk | ⟨o2, v2, hk⟩
    · exact hob1.free hk
    · rw [hob1.noimm] at hk; cases hk) (by omega)
  have hwrite : RelL g1 (cv.take off ++ p' ++ cv.drop (off + sz)) c'.toList ∧ ∀ z ∈ c'.toList, z.oneCell' = true := by
    have hrow := row_write (c := ca) (c' := c') (bo := 0) (off := off) (vs := ca.toList) (ps := ((Act.mk tmps df).eval y).cells.toList) (fun j z hz => ⟨by simpa using hz, h1c z (List.mem_of_getElem? hz)⟩) h1p (by simp; omega)
      (by rw [hpl]; simpa using hc')
    rw [hpl] at hrow
    have hrel := (((hrl.mono e1.le).take off).append r1).append ((hrl.mono e1.le).drop (off + sz))
    have heq : c'.toList = ca.toList.take off ++ ((Act.mk tmps df).eval y).cells.toList ++ ca.toList.drop (off + sz) := by
      have hll : (ca.toList.take off ++ ((Act.mk tmps df).eval y).cells.toList ++ ca.toList.drop (off + sz)).length = c'.toList.length := by
        simp only [List.length_append, hpl, List.length_take, List.length_drop, Array.length_toList, hs']; omega
      apply List.ext_getElem? 
      intro j
      by_cases hj : j < c'.toList.length
      · have hj2 := hj
        rw [← hll] at hj2
        have := (hrow j _ (List.getElem?_eq_getElem hj2)).1
        rw [List.getElem?_eq_getElem hj2]
        simpa using this
      · rw [List.getElem?_eq_none (by omega), List.getElem?_eq_none (by omega)]
    rw [heq]
    refine ⟨hrel, fun z hz => ?_⟩
    simp only [List.mem_append] at hz
    rcases hz with (hz | hz) | hz
    · exact h1c z (List.mem_of_mem_take hz)
    · exact h1p z hz
    · exact h1c z (List.mem_of_mem_drop hz)
  have hob2 : OwnB w0.heap.size g1 w' (B v) (cv.take off ++ p' ++ cv.drop (off + sz)) := ⟨hob1.lo, hob1.free, hob1.noimm, c', el, hb', hwrite.1, hwrite.2⟩
  have hsteps := step_value (P := P) (b := b) (a := ⟨tmps, df⟩) (k := k) (cs := cs) (rest := rest) ho hw hd hrunO rfl
  rw [hdst] at hsteps
  have hgo := nilbs_goes _ _ _ _ _ hnb
  refine ⟨g1, w', B, ⟨tmps, df⟩, .one hsteps, ⟨?_, ?_, i2, hgo.low ha.low, by rw [hgo.len]; exact ha.pos, ha.size, ?_, round_mono ha.round e1.le⟩, e1.le, hgo⟩
  · exact (ha.fr.ev e1).setOwn hgv hob2 fun b' _ hne => hoth b' hne
  · have h0 := ha.ev.trans e1
    refine ⟨h0.le, ho1.trans h0.os, ho2.trans h0.tape, ho3.trans h0.output, by have := h0.size; omega, fun b' hb'' hnb' => ?_, h0.img, h0.immN⟩
    rw [hoth b' (by have := hob.lo; omega)]
    exact h0.kept b' hb'' hnb'
  · obtain ⟨rs, hm⟩ := ha.marks
    have hm1 := hm.ev e1
    refine ⟨rs, hm1.eq, hm1.nodup, fun r hr => ?_⟩
    have hmr := hm1.all r hr
    refine ⟨hmr.lo, hmr.free, hmr.noimm, ?_⟩
    rw [hoth r, hmr.blk]
    intro hh; subst hh
    have := hmr.blk
    rw [hheap] at this; cases this

/-- What the translation says of an operation. -/
def KEq (P : Program) (ann : Ann) (o : Oper) (kk : K) : Prop :=
    match kk with
    | .call _ F Xs => ∃ f args ts, o.op = .call { callee := .value f, args, argTypes := ts } ∧ opdC f = some F ∧ opdsC args.toList = some Xs
    | .alcv _ z => ∃ el v, o.op = .alloc el ∧ zeroC P el = some z ∧ o.dst = some v ∧ v ∈ ann.ownv
    | .boxv X => ∃ t x v, o.op = .box t x ∧ opdC x = some X ∧ o.dst = some v ∧ v ∈ ann.ownv
    | .stv _ _ sz x Y => ∃ t y, o.op = .store t (.tmp x) y ∧ opdC y = some Y ∧ sizeC P t = some sz
    | _ => True

theorem leafEq {X Y : Opd} {t : TypeId} {bo : BinOp} {kk : K} {o : Oper} (hk : eqC P bo t X Y = some kk) : KEq P ann o kk := by
  unfold eqC at hk
  split at hk
  case h_2 => cases hk
  split at hk
  · cases hk
  split at hk
  · obtain ⟨ag, hag, rfl⟩ := Option.map_eq_some_iff.1 hk
    trivial
  · obtain ⟨ag, hag, rfl⟩ := Option.map_eq_some_iff.1 hk
    trivial
  · cases hk

theorem kC_eq {kk : K} {key : Nat} {o : Oper} (hk : kC P ann ops key o = some kk) : KEq P ann o kk := by
  unfold kC at hk
  split at hk
  · rename_i x ho
    obtain ⟨X, hX, rfl⟩ := Option.map_eq_some_iff.1 hk
    trivial
  · rename_i x ho
    split at hk
    · rename_i hnil _ _
      split at hk
      · obtain ⟨X, hX, rfl⟩ := Option.map_eq_some_iff.1 hk
        trivial
      · obtain ⟨X, hX, rfl⟩ := Option.map_eq_some_iff.1 hk
        trivial
    · obtain ⟨X, hX, rfl⟩ := Option.map_eq_some_iff.1 hk
      trivial
  · rename_i c x y ho
    split at hk
    · rename_i c' x' y' h1 h2 h3
      cases hk
      trivial
    · cases hk
  · rename_i el ho
    split at hk
    · rename_i z d0 hz hd0
      cases hk
      split
      · rename_i hc; exact ⟨el, d0, ho, hz, hd0, by simpa using hc⟩
      · trivial
    · cases hk
  · rename_i t x ho
    split at hk
    · rename_i x' d0 hx hd0
      cases hk
      by_cases hc : ann.ownv.contains d0 = true
      · simp only [hc, if_true]; exact ⟨t, x, d0, ho, hx, hd0, by simpa using hc⟩
      · rw [if_neg hc]
        split <;> trivial
    · cases hk
  · rename_i t ps ho
    split at hk
    · rename_i fs z ht hz
      split at hk
      · rename_i hall
        obtain ⟨parts, hp, rfl⟩ := Option.map_eq_some_iff.1 hk
        trivial
      · cases hk
    · rename_i n el z ht hz
      split at hk
      · rename_i wd hw
        obtain ⟨parts, hp, rfl⟩ := Option.map_eq_some_iff.1 hk
        trivial
      · cases hk
    · cases hk
  · rename_i t n ps ho
    split at hk
    · rename_i el ht
      split at hk
      · rename_i wd z d0 hw hz _
        split at hk
        · rename_i hc
          obtain ⟨parts, hp, rfl⟩ := Option.map_eq_some_iff.1 hk
          dsimp only
          split <;> trivial
        · cases hk
      · cases hk
    · cases hk
  · rename_i t x ho
    split at hk
    · rename_i ag sz n hag hsz hx
      split at hk
      · rename_i hc
        simp only [Bool.and_eq_true, decide_eq_true_eq] at hc
        cases hk
        have hxe : x = .tmp n := by
          cases x <;> simp only [opdC, Option.some.injEq, Opd.t.injEq, reduceCtorEq, Option.map_eq_some_iff, and_false, exists_false] at hx
          rw [hx]
        split
        · trivial
        · split <;> trivial
      · cases hk
    · cases hk
  · rename_i t x y ho
    split at hk
    · rename_i sz n y' hsz hx hy
      cases hk
      have hxe : x = .tmp n := by
        cases x <;> simp only [opdC, Option.some.injEq, Opd.t.injEq, reduceCtorEq, Option.map_eq_some_iff, and_false, exists_false] at hx
        rw [hx]
      by_cases hc : ann.ownv.contains (rootC ops 8 n) = true
      · simp only [hc, if_true]; exact ⟨t, y, by rw [ho, hxe], hy, hsz⟩
      · rw [if_neg hc]; split <;> trivial
    · cases hk
  · rename_i b t x y u ho
    split at hk
    · rename_i hx hy
      cases hk
      trivial
    · rename_i hx hy
      exact leafEq hk
    · rename_i hx hy
      exact leafEq hk
    · rename_i hx hy
      exact leafEq hk
    · rename_i ht hx hy
      unfold isC at hk
      split at hk <;> cases hk <;> trivial
    · rename_i ht hx hy
      unfold isC at hk
      split at hk <;> cases hk <;> trivial
    · cases hk
  · rename_i x ho
    obtain ⟨X, hX, rfl⟩ := Option.map_eq_some_iff.1 hk
    trivial
  · rename_i b t x ho
    obtain ⟨X, hX, rfl⟩ := Option.map_eq_some_iff.1 hk
    trivial
  · rename_i s t x ho
    split at hk
    · rename_i hs ht hx
      cases hk
      trivial
    · cases hk
  · rename_i f xs ys ho
    split at hk
    · rename_i hx hy
      cases hk
      trivial
    · cases hk
  · rename_i t x y ho
    split at hk
    · rename_i el ht
      split at hk
      · rename_i hw hb hz hx hy
        split at hk
        · rename_i hc
          cases hk
          trivial
        · cases hk
      · cases hk
    · cases hk
  · rename_i t x lo hh mx ho
    split at hk
    · rename_i ht hx hlo hhi hmx
      obtain ⟨wd, hw, rfl⟩ := Option.map_eq_some_iff.1 hk
      trivial
    · rename_i ht hx hlo hhi hmx
      obtain ⟨wd, hw, rfl⟩ := Option.map_eq_some_iff.1 hk
      have hm : mx = none := by
        cases mx with
        | none => rfl
        | some m => simp [optC, Option.map_eq_some_iff] at hmx
      subst hm
      trivial
    · cases hk
  · rename_i s x i ho
    split at hk
    · rename_i fs x' hs hx
      split at hk
      · rename_i off sz hfc
        split at hk
        · rename_i hpos
          cases hk
          trivial
        · cases hk
      · cases hk
    · cases hk
  · rename_i s x i ho
    split at hk
    · rename_i fs x' hs hx
      split at hk
      · rename_i f hfi
        split at hk
        · rename_i hag hsz
          split at hk
          · cases hk
            trivial
          · cases hk
        · cases hk
      · cases hk
    · cases hk
  · rename_i t x y ho
    split at hk
    · rename_i ht hx hy
      obtain ⟨wd, hw, rfl⟩ := Option.map_eq_some_iff.1 hk
      trivial
    · rename_i ht hx hy
      obtain ⟨wd, hw, rfl⟩ := Option.map_eq_some_iff.1 hk
      trivial
    · cases hk
  · rename_i t x y ho
    split at hk
    · rename_i ht hx hy
      split at hk
      · rename_i hag hsz
        split at hk
        · cases hk
          trivial
        · cases hk
      · cases hk
    · cases hk
  · rename_i x i ho
    obtain ⟨X, hX, rfl⟩ := Option.map_eq_some_iff.1 hk
    trivial
  · rename_i c ho
    obtain ⟨callee, args, ts⟩ := c
    dsimp only at hk
    split at hk
    · rename_i f
      split at hk
      · rename_i hf hx
        cases hk
        exact ⟨f, args, ts, ho, hf, hx⟩
      · cases hk
    · split at hk
      · rename_i t tr x r hts ha
        split at hk
        · rename_i ht hx
          cases hk
          trivial
        · rename_i ht
          cases hk
          trivial
        · rename_i ht
          split at hk
          · rename_i hr
            cases hk
            trivial
          · cases hk
        · cases hk
      · cases hk
    · split at hk
      · rename_i ha
        split at hk
        · rename_i hx hy
          cases hk
          trivial
        · cases hk
      · cases hk
    · split at hk
      · rename_i ha
        split at hk
        · rename_i hx hy
          cases hk
          trivial
        · cases hk
      · cases hk
    · split at hk
      · rename_i t u x y hts ha
        split at hk
        · rename_i ht hu hx hy
          split at hk
          · rename_i hw hb hz
            split at hk
            · rename_i hc
              cases hk
              split
              · trivial
              · split <;> trivial
            · cases hk
          · cases hk
        · cases hk
      · cases hk
    · cases hk
  · cases hk

theorem sop_makes {kk : K} (h : kk.makes = true) : sop e σ kk = none := by
  cases kk <;> simp [K.makes] at h <;> rfl

/-- An operation that is wanted. -/
theorem aop_ok (hO : OrOk P CR O) (ha : At CR base ann.ownv g0 w0 n b g w B e σ a) {o : Oper} (ho : ops[i]? = some o) (hw : Region.wanted o (yielded ops a.tmps) = true)
    {ntr : Bool} {op : Op} (hop : opC P ann n reg ops ntr i o = some op) (h : aop O op e σ = some (e', σ')) :
    Next1 P CR ann n ops base g0 w0 b g w a k cs i rest σ e' σ' := by
  unfold opC at hop
  split at hop
  case h_2 => cases hop
  rename_i kk hk
  split at hop
  case h_2 => cases hop
  rename_i gd hgd hdn
  simp only [Option.ite_none_right_eq_some, Bool.and_eq_true] at hop
  obtain ⟨⟨hown, hst⟩, hop⟩ := hop
  cases hop
  have hn : ∀ t, o.dst = some t → t < n := by
    intro t ht; rw [ht] at hdn; simpa using hdn
  have hV : kk.makes = false → ∀ t, o.dst = some t → t ∉ ann.ownv := by
    intro hm t ht
    rw [ht] at hown
    simp [hm] at hown
    simpa using hown
  have hd := kC_defer hk
  have hkeq := kC_eq hk
  unfold aop at h
  dsimp only at h
  split at h
  · -- a call
    rename_i kp F Xs
    split at h
    case h_2 => cases h
    rename_i d σ1 hc
    split at h
    case isFalse => cases h
    cases h
    obtain ⟨f, args, ts, h1, h2, h3⟩ := hkeq
    exact call_ok hO ha ho hw hn (hV rfl) h1 h2 h3 hc
  · -- a variable
    rename_i nb z
    obtain ⟨el, v, h1, h2, h3, h4⟩ := hkeq
    rw [h3] at h
    cases hnb : nilbs nb z σ with
    | none => simp [hnb] at h
    | some x =>
      obtain ⟨cs', σ1⟩ := x
      simp only [hnb, Option.some.injEq, Prod.mk.injEq] at h
      obtain ⟨rfl, rfl⟩ := h
      obtain ⟨i0, vz, hinfo, hzero, hrz, h1z⟩ := zeroC_rel g h2
      obtain ⟨g1, i1, e1, r1⟩ := nilbs_ok nb _ _ _ _ g _ hnb ha.inv hrz
      exact own_ok (el := el) ha ho hw hd h3 h4 (hn _ h3) (by simp [execOp, h1, run_alloc hinfo hzero]) i1 e1 (nilbs_goes _ _ _ _ _ hnb) r1 h1z
  · -- a variable with its value
    rename_i X
    obtain ⟨t, x, v, h1, h2, h3, h4⟩ := hkeq
    rw [h3] at h
    cases hcx : (opd e X).cells with
    | none => simp [hcx] at h
    | some cs' =>
      simp only [hcx, Option.some.injEq, Prod.mk.injEq] at h
      obtain ⟨rfl, rfl⟩ := h
      obtain ⟨tmps, df⟩ := a
      obtain ⟨hr, h1z⟩ := (ha.fr.opd (df := df) h2).cells hcx
      exact own_ok (el := t) ha ho hw hd h3 h4 (hn _ h3) (by simp [execOp, h1, Instr.box, newVar, newRow]) ha.inv (Ev.refl g w) (.refl σ) hr h1z
  · -- a variable is written
    rename_i v nb sz x X
    obtain ⟨t, y, h1, h2, h3⟩ := hkeq
    have hdst : o.dst = none := by simpa [K.stvs] using hst
    split at h
    case h_2 => cases h
    rename_i s cv off p hin hp
    split at h
    case isFalse => cases h
    rename_i hlen
    split at h
    case h_2 => cases h
    rename_i p' σ1 hnb
    cases h
    exact stv_ok ha ho hw hn (hV rfl) h1 h2 h3 hin hp hlen hnb hdst
  · -- any other
    rename_i k1 h1 h2 h3 h4
    cases hs : sop e σ kk with
    | none => simp [hs] at h
    | some x =>
      obtain ⟨d, σ1⟩ := x
      simp only [hs, Option.map_some, Option.some.injEq, Prod.mk.injEq] at h
      obtain ⟨rfl, rfl⟩ := h
      have hm : kk.makes = false := by
        cases hm : kk.makes
        · rfl
        · rw [sop_makes hm] at hs; cases hs
      obtain ⟨tmps, df⟩ := a
      obtain ⟨x, c, g', w', hrun, hx, he, hi, hr⟩ := sop_ok (df := df) ha.fr ha.inv hk hs
      exact next_value ha ho hn (hV hm) (.one (step_value ho hw hd hrun hx)) he hi (sop_goes hs) hr

inductive All2 {α β : Type} (R : α → β → Prop) : List α → List β → Prop
  | nil : All2 R [] []
  | cons {x : α} {y : β} {xs : List α} {ys : List β} : R x y → All2 R xs ys → All2 R (x :: xs) (y :: ys)

/-- An operation as its place in a region's row has it. -/
def OpAt (P : Program) (ann : Ann) (n reg : Nat) (ops : Array Oper) (i : Nat) (x : Op) : Prop := ∃ o ntr, ops[i]? = some o ∧ opC P ann n reg ops ntr i o = some x

theorem opC_inv {ntr : Bool} {o : Oper} {op : Op} (h : opC P ann n reg ops ntr i o = some op) :
    op.dst = o.dst ∧ (∀ t, o.dst = some t → t < n) ∧ ((o.guard = none ∧ op.grd = none) ∨ ∃ j d bb, o.guard = some (j, bb) ∧ op.grd = some (d, bb) ∧ (ops[j]?).bind (·.dst) = some d ∧ (∀ t, o.dst = some t → t ∉ ann.ownv)) := by
  unfold opC at h
  split at h
  case h_2 => cases h
  rename_i kk hk
  split at h
  case h_2 => cases h
  rename_i gd hgd hdn
  simp only [Option.ite_none_right_eq_some, Bool.and_eq_true] at h
  obtain ⟨⟨hown, hst⟩, h⟩ := h
  cases h
  refine ⟨rfl, fun t ht => by rw [ht] at hdn; simpa using hdn, ?_⟩
  cases hg : o.guard with
  | none => rw [hg] at hgd; cases hgd; exact .inl ⟨rfl, rfl⟩
  | some x =>
    obtain ⟨j, bb⟩ := x
    rw [hg] at hgd
    dsimp only at hgd
    cases hj : (ops[j]?).bind (·.dst) with
    | none => rw [hj] at hgd; cases hgd
    | some d =>
      rw [hj] at hgd; cases hgd
      refine .inr ⟨j, d, bb, rfl, rfl, hj, fun t ht => ?_⟩
      rw [ht, hg] at hown
      simpa using hown

/-- A row of operations, in whatever order. -/
theorem ops_ok (hO : OrOk P CR O) : ∀ (is : List Nat) (xs : List Op) (e : Env) (σ : Stack) (g : G) (w : World) (B : Nat → Nat) (a : Act), All2 (OpAt P ann n reg ops) is xs →
    aops O xs e σ = some (e', σ') → At CR base ann.ownv g0 w0 n b g w B e σ a →
    ∃ g' w' B' a', Steps P (lone (b.atR a (.inRegion ops is :: k)) cs w) (lone (b.atR a' (.inRegion ops [] :: k)) cs w') ∧ At CR base ann.ownv g0 w0 n b g' w' B' e' σ' a' ∧ g.le g' ∧ Goes σ σ'
  | [], xs, e, σ, g, w, B, a, hF, h, ha => by
    cases hF
    simp only [aops, Option.some.injEq, Prod.mk.injEq] at h
    obtain ⟨rfl, rfl⟩ := h
    exact ⟨g, w, B, a, .refl _ _, ha, g.le_refl, .refl σ⟩
  | i :: is, xs, e, σ, g, w, B, a, hF, h, ha => by
    cases hF with
    | cons hx hF =>
      rename_i x xs
      obtain ⟨o, ntr, ho, hop⟩ := hx
      obtain ⟨hdst, hn, hgrd⟩ := opC_inv hop
      simp only [aops] at h
      have hgo : ∀ {e1 σ1 g1 w1 B1 a1}, Steps P (lone (b.atR a (.inRegion ops (i :: is) :: k)) cs w) (lone (b.atR a1 (.inRegion ops is :: k)) cs w1) →
          At CR base ann.ownv g0 w0 n b g1 w1 B1 e1 σ1 a1 → g.le g1 → Goes σ σ1 → aops O xs e1 σ1 = some (e', σ') →
          ∃ g' w' B' a', Steps P (lone (b.atR a (.inRegion ops (i :: is) :: k)) cs w) (lone (b.atR a' (.inRegion ops [] :: k)) cs w') ∧ At CR base ann.ownv g0 w0 n b g' w' B' e' σ' a' ∧ g.le g' ∧ Goes σ σ' := by
        intro e1 σ1 g1 w1 B1 a1 h1 h2 h3 h4 h5
        obtain ⟨g2, w2, B2, a2, k1, k2, k3, k4⟩ := ops_ok hO is xs _ _ _ _ _ _ hF h5 h2
        exact ⟨g2, w2, B2, a2, h1.trans k1, k2, h3.trans' k3, h4.trans k4⟩
      rcases hgrd with ⟨hg1, hg2⟩ | ⟨j, d, bb, hg1, hg2, hj, hV⟩
      · rw [hg2] at h
        simp only [Option.bind_eq_some_iff, Prod.exists] at h
        obtain ⟨e1, σ1, h1, h2⟩ := h
        obtain ⟨g1, w1, B1, a1, k1, k2, k3, k4⟩ := aop_ok (k := k) (cs := cs) (rest := is) hO ha ho (by simp [Region.wanted, hg1]) hop h1
        exact hgo k1 k2 k3 k4 h2
      · rw [hg2] at h
        dsimp only at h
        split at h
        case h_2 => cases h
        rename_i bv hbv
        have hy : yielded ops a.tmps j = bv := by
          have hrel := ha.fr.rel d
          unfold yielded
          rw [hj]
          simp only [Option.bind_some]
          cases hg : get e d with
          | bool b =>
            rw [hg] at hrel hbv
            have hrel' : RelV g (.bool b) (a.tmps.getD d Go.undef) := hrel
            have hval := hrel'.bool_inv
            simp only [D.bit, Option.some.injEq] at hbv
            subst hbv
            rw [Array.getD_eq_getD_getElem?] at hval
            cases hd : a.tmps[d]? with
            | none => rw [hd] at hval; simp [Go.undef] at hval
            | some y => rw [hd] at hval; simp at hval; subst hval; rfl
          | tup ds =>
            cases ds with
            | nil =>
              rw [hg] at hrel hbv
              have hrel' : RelV g (.tup []) (a.tmps.getD d Go.undef) := hrel
              have hval : a.tmps.getD d Go.undef = .tuple #[] := by
                generalize a.tmps.getD d Go.undef = z at hrel'
                cases hrel' with | tup _ cs hl =>
                  cases cs with | mk cs => cases cs with
                    | nil => rfl
                    | cons c cs => cases hl
              simp only [D.bit, Option.some.injEq] at hbv
              subst hbv
              rw [Array.getD_eq_getD_getElem?] at hval
              cases hd : a.tmps[d]? with
              | none => rfl
              | some y => rw [hd] at hval; simp at hval; subst hval; rfl
            | cons x xs => rw [hg] at hbv; simp [D.bit] at hbv
          | _ => rw [hg] at hbv; simp [D.bit] at hbv
        split at h
        · rename_i hb
          simp only [Option.bind_eq_some_iff, Prod.exists] at h
          obtain ⟨e1, σ1, h1, h2⟩ := h
          obtain ⟨g1, w1, B1, a1, k1, k2, k3, k4⟩ := aop_ok (k := k) (cs := cs) (rest := is) hO ha ho (by simp [Region.wanted, hg1, hy, hb]) hop h1
          exact hgo k1 k2 k3 k4 h2
        · rename_i hb
          have hstep := stepR_op_skip (P := P) (b := b) (a := a) (k := k) (cs := cs) (w := w) (ops := ops) (i := i) (rest := is) (by simp [ho, Region.wanted, hg1, hy, hb])
          rw [show (ops[i]?).bind (·.dst) = o.dst from by rw [ho]; rfl] at hstep
          obtain ⟨g1, w1, B1, a1, k1, k2, k3, k4⟩ := next_value (d := .tup []) ha ho hn hV (.one hstep) (Ev.refl g w) ha.inv (.refl σ) (RelT.of (.tup [] #[] .nil))
          rw [hdst] at h
          exact hgo k1 k2 k3 k4 h
end
end Go.Abs

/-
  Operations whose order is of no matter: what one reads and writes; two that do not clash change places.
-/
set_option linter.unusedVariables false
set_option linter.unusedSimpArgs false
namespace Go.Abs
open Go

/-- Two rows of temporaries agree on some. -/
def Agree (ts : List Nat) (e e' : Env) : Prop := ∀ t ∈ ts, get e' t = get e t

theorem Agree.mono {ts us : List Nat} {e e' : Env} (h : Agree us e e') (hs : ∀ t ∈ ts, t ∈ us) : Agree ts e e' := fun t ht => h t (hs t ht)
theorem Agree.app {ts us : List Nat} {e e' : Env} : Agree (ts ++ us) e e' ↔ Agree ts e e' ∧ Agree us e e' :=
  ⟨fun h => ⟨fun t ht => h t (by simp [ht]), fun t ht => h t (by simp [ht])⟩, fun h t ht => (List.mem_append.1 ht).elim (h.1 t) (h.2 t)⟩
theorem Agree.cons {t : Nat} {us : List Nat} {e e' : Env} : Agree (t :: us) e e' ↔ get e' t = get e t ∧ Agree us e e' :=
  ⟨fun h => ⟨h t (by simp), fun u hu => h u (by simp [hu])⟩, fun h u hu => (List.mem_cons.1 hu).elim (fun x => x ▸ h.1) (h.2 u)⟩

variable {e e' : Env} {σ σ' : Stack}

theorem opd_agree {x : Opd} (h : Agree x.tmps e e') : opd e' x = opd e x := by
  cases x with
  | t n => simp only [opd]; rw [h n (by simp [Opd.tmps])]
  | c d => rfl

theorem opds_agree {xs : List Opd} (h : Agree (xs.flatMap Opd.tmps) e e') : xs.map (opd e') = xs.map (opd e) := by
  induction xs with
  | nil => rfl
  | cons x xs ih =>
    simp only [List.flatMap_cons, Agree.app] at h
    simp only [List.map_cons, opd_agree h.1, ih h.2]

theorem fillD_agree : ∀ {ps : List (Nat × Nat × Opd)} {cs : List D}, Agree (ps.flatMap fun p => p.2.2.tmps) e e' → fillD e' ps cs = fillD e ps cs
  | [], cs, h => rfl
  | (off, sz, x) :: ps, cs, h => by
    simp only [List.flatMap_cons, Agree.app] at h
    simp only [fillD, opd_agree h.1]
    split
    · split
      · exact fillD_agree h.2
      · rfl
    · rfl

theorem bnd_agree {m : Nat} {dfl : Option Nat} {x : Option Opd} (h : Agree ((x.map Opd.tmps).getD []) e e') : bnd e' m dfl x = bnd e m dfl x := by
  cases x with
  | none => rfl
  | some x => simp only [bnd]; rw [opd_agree (by simpa using h)]

theorem bounds_agree {n : Nat} {lo hi mx : Option Opd} (h1 : Agree ((lo.map Opd.tmps).getD []) e e') (h2 : Agree ((hi.map Opd.tmps).getD []) e e') (h3 : Agree ((mx.map Opd.tmps).getD []) e e') :
    bounds n e' lo hi mx = bounds n e lo hi mx := by
  simp only [bounds, bnd_agree h1, bnd_agree h2, bnd_agree h3]

theorem inVar_agree {v a : Nat} (h1 : get e' v = get e v) (h2 : get e' a = get e a) : inVar e' v a = inVar e v a := by
  simp only [inVar, h1, h2]

theorem sop_agree {k : K} (h : Agree k.tmps e e') : sop e' σ k = sop e σ k := by
  cases k <;> simp only [K.tmps, Agree.app, Agree.cons] at h
  case mv x => simp only [sop, opd_agree h]
  case nilb => rfl
  case pick c a b => simp only [sop, opd_agree h.1.1, opd_agree h.1.2, opd_agree h.2]
  case alc => rfl
  case alcv => rfl
  case boxi x => simp only [sop, opd_agree h]
  case boxm x => simp only [sop, opd_agree h]
  case boxv => rfl
  case bld => simp only [sop, fillD_agree h]
  case bsi => simp only [sop, fillD_agree h]
  case bsm => simp only [sop, fillD_agree h]
  case ld => simp only [sop, opd_agree h]
  case ldi => simp only [sop, opd_agree h]
  case isn => simp only [sop, opd_agree h]
  case nck => simp only [sop, opd_agree h]
  case st => simp only [sop, opd_agree h.1, opd_agree h.2]
  case stc os sz a x =>
    have hall : ∀ l i, (os.all fun t => D.off l i (get e' t)) = os.all fun t => D.off l i (get e t) := by
      intro l i
      have h2 := h.2
      clear h
      induction os with
      | nil => rfl
      | cons o os ih => simp only [List.all_cons, h2 o (by simp), ih (h2.mono fun t ht => by simp [ht])]
    simp only [sop, opd_agree h.1.1, opd_agree h.1.2, hall]
  case ldv => simp only [sop, inVar_agree h.1 h.2.1]
  case stv => rfl
  case bin => simp only [sop, opd_agree h.1, opd_agree h.2]
  case eqv => simp only [sop, opd_agree h.1, opd_agree h.2]
  case un => simp only [sop, opd_agree h]
  case cvt => simp only [sop, opd_agree h]
  case mkf => simp only [sop, opds_agree h.1, opds_agree h.2]
  case mks => simp only [sop, opd_agree h.1, opd_agree h.2]
  case slc => simp only [sop, opd_agree h.1.1.1, bounds_agree h.1.1.2 h.1.2 h.2]
  case slca => simp only [sop, opd_agree h.1.1, bounds_agree (mx := none) h.1.2 h.2 (fun t ht => by simp at ht)]
  case fadr off x =>
    cases x with
    | t n => simp only [sop, h n (by simp [Opd.tmps])]
    | c d => rfl
  case fld => simp only [sop, opd_agree h]
  case idxA len w x i =>
    cases x with
    | t n =>
      have h1 := h.1 n (by simp [Opd.tmps])
      simp only [sop, opd_agree h.2]
      cases intD (opd e i) <;> simp only [h1]
    | c d => simp only [sop]
  case idxS => simp only [sop, opd_agree h.1, opd_agree h.2]
  case idxV => simp only [sop, opd_agree h.1, opd_agree h.2]
  case lenS => simp only [sop, opd_agree h]
  case lenC => rfl
  case mn => simp only [sop, opd_agree h.1, opd_agree h.2]
  case mx => simp only [sop, opd_agree h.1, opd_agree h.2]
  case app => simp only [sop, opd_agree h.1, opd_agree h.2]
  case apz => simp only [sop, appD, opd_agree h.1, opd_agree h.2]
  case cpi => simp only [sop, opd_agree h]
  case ext => simp only [sop, opd_agree h]
  case call => rfl

/-- One operation, its guard too. -/
noncomputable def run1 (O : Oracle) (op : Op) (e : Env) (σ : Stack) : Option (Env × Stack) :=
  match op.grd with
  | none => aop O op e σ
  | some (g, want) =>
    match (get e g).bit with
    | some y => if y = some want then aop O op e σ else some (put op.dst (.tup []) e, σ)
    | none => none

theorem aops_cons {O : Oracle} {op : Op} {r : List Op} : aops O (op :: r) e σ = (run1 O op e σ).bind fun x => aops O r x.1 x.2 := by
  simp only [aops, run1]
  cases op.grd with
  | none => rfl
  | some x =>
    obtain ⟨g, want⟩ := x
    dsimp only
    cases (get e g).bit <;> try rfl
    dsimp only
    split <;> rfl

theorem put_app {dst : Option Nat} {d : D} : put dst d e = (dst.toList.map fun t => (t, d)) ++ e := by
  cases dst <;> rfl

/-- What an operation does hangs on what it reads alone, and it writes what it says. -/
theorem aop_local {O : Oracle} {op : Op} {e1 : Env} {σ1 : Stack} (h : aop O op e σ = some (e1, σ1)) :
    ∃ l : List (Nat × D), (∀ p ∈ l, p.1 ∈ op.defs) ∧ ∀ e', Agree (op.uses ++ op.defs) e e' → aop O op e' σ = some (l ++ e', σ1) := by
  obtain ⟨dst, grd, ntr, k⟩ := op
  have hk : ∀ e', Agree (Op.uses ⟨dst, grd, ntr, k⟩ ++ Op.defs ⟨dst, grd, ntr, k⟩) e e' → Agree k.tmps e e' := fun e' ha => ha.mono fun t ht => by simp [Op.uses, ht]
  have hdst : ∀ d : D, ∀ p ∈ dst.toList.map (fun t => (t, d)), p.1 ∈ Op.defs ⟨dst, grd, ntr, k⟩ := by
    intro d p hp
    simp only [List.mem_map] at hp
    obtain ⟨t, ht, rfl⟩ := hp
    simp only [Op.defs, List.mem_append]
    exact .inl ht
  have hplain : (∀ e0, aop O ⟨dst, grd, ntr, k⟩ e0 σ = (sop e0 σ k).map fun x => (put dst x.1 e0, x.2)) →
      ∃ l : List (Nat × D), (∀ p ∈ l, p.1 ∈ Op.defs ⟨dst, grd, ntr, k⟩) ∧ ∀ e', Agree (Op.uses ⟨dst, grd, ntr, k⟩ ++ Op.defs ⟨dst, grd, ntr, k⟩) e e' → aop O ⟨dst, grd, ntr, k⟩ e' σ = some (l ++ e', σ1) := by
    intro hall
    rw [hall] at h
    simp only [Option.map_eq_some_iff, Prod.exists, Prod.mk.injEq] at h
    obtain ⟨d, σ2, hs, rfl, rfl⟩ := h
    refine ⟨dst.toList.map fun t => (t, d), hdst d, fun e' ha => ?_⟩
    rw [hall, sop_agree (hk e' ha), hs]
    simp only [Option.map_some, put_app]
  cases k
  case call kp f args =>
    simp only [aop] at h ⊢
    split at h
    case h_2 => cases h
    rename_i d σ2 hc
    split at h
    case isFalse => cases h
    rename_i hn
    cases h
    refine ⟨dst.toList.map fun t => (t, d), hdst d, fun e' ha => ?_⟩
    have h1 := hk e' ha
    simp only [K.tmps, Agree.app] at h1
    rw [opd_agree h1.1, opds_agree h1.2, hc]
    simp only [if_pos hn, put_app]
  case alcv nb cs =>
    simp only [aop] at h ⊢
    split at h
    case h_2 => cases h
    rename_i v cs' σ2 hnb
    cases h
    refine ⟨[(v, .own (stamp e v) cs')], by simp [Op.defs], fun e' ha => ?_⟩
    rw [show stamp e' v = stamp e v from by simp only [stamp]; rw [ha v (by simp [Op.defs])]]
    rfl
  case boxv x =>
    simp only [aop] at h ⊢
    split at h
    case h_2 => cases h
    rename_i v cs' hc
    cases h
    refine ⟨[(v, .own (stamp e v) cs')], by simp [Op.defs], fun e' ha => ?_⟩
    have h1 := hk e' ha
    simp only [K.tmps] at h1
    rw [opd_agree h1, hc]
    simp only [show stamp e' v = stamp e v from by simp only [stamp]; rw [ha v (by simp [Op.defs])]]
    rfl
  case stv v nb sz a x =>
    simp only [aop] at h ⊢
    split at h
    case h_2 => cases h
    rename_i s cs off p hin hp
    split at h
    case isFalse => cases h
    rename_i hc
    split at h
    case h_2 => cases h
    rename_i p' σ2 hnb
    cases h
    refine ⟨[(v, .own s (cs.take off ++ p' ++ cs.drop (off + sz)))], by simp [Op.defs], fun e' ha => ?_⟩
    have h1 := hk e' ha
    simp only [K.tmps, Agree.app, Agree.cons] at h1
    rw [inVar_agree h1.1.1 h1.1.2.1, opd_agree h1.2, hin, hp]
    simp only [if_pos hc, hnb]
    rfl
  all_goals exact hplain fun e0 => rfl

theorem run1_local {O : Oracle} {op : Op} {e1 : Env} {σ1 : Stack} (h : run1 O op e σ = some (e1, σ1)) :
    ∃ l : List (Nat × D), (∀ p ∈ l, p.1 ∈ op.defs) ∧ ∀ e', Agree (op.uses ++ op.defs) e e' → run1 O op e' σ = some (l ++ e', σ1) := by
  unfold run1 at h ⊢
  cases hg : op.grd with
  | none => rw [hg] at h; simp only at h ⊢; exact aop_local h
  | some x =>
    obtain ⟨t, want⟩ := x
    rw [hg] at h
    simp only at h ⊢
    split at h
    case h_2 => cases h
    rename_i b hb
    have hgt : ∀ e', Agree (op.uses ++ op.defs) e e' → (get e' t).bit = some b := fun e' ha => by rw [ha t (by simp [Op.uses, hg]), hb]
    split at h
    · rename_i hw
      obtain ⟨l, h1, h2⟩ := aop_local h
      refine ⟨l, h1, fun e' ha => ?_⟩
      rw [hgt e' ha]
      simp only [if_pos hw]
      exact h2 e' ha
    · rename_i hw
      cases h
      refine ⟨op.dst.toList.map fun t => (t, .tup []), fun p hp => ?_, fun e' ha => ?_⟩
      · simp only [List.mem_map] at hp
        obtain ⟨t, ht, rfl⟩ := hp
        simp only [Op.defs, List.mem_append]; exact .inl ht
      · rw [hgt e' ha]
        simp only [if_neg hw, put_app]


theorem nilbs_nil {cs cs' : List D} (h : nilbs [] cs σ = some (cs', σ')) : σ' = σ := by
  simp only [nilbs, Option.some.injEq, Prod.mk.injEq] at h; exact h.2.symm

theorem sop_still {d : D} {k : K} (h : sop e σ k = some (d, σ')) (hk : k.calm = true) : σ' = σ := by
  cases k <;> simp only [K.calm, Bool.false_eq_true] at hk <;> simp only [sop, Option.bind_eq_bind, reduceCtorEq] at h <;> (repeat' split at h) <;>
    simp only [Option.map_eq_some_iff, Option.bind_eq_some_iff, Option.some.injEq, Prod.mk.injEq, Prod.exists, reduceCtorEq, exists_eq_left, and_false, exists_false] at h <;> (try split at h) <;>
    simp_all <;> (try (obtain ⟨_, _, h⟩ := h; simp_all)) <;> (try grind)

theorem aop_still {O : Oracle} {op : Op} {e1 : Env} {σ1 : Stack} (h : aop O op e σ = some (e1, σ1)) (hs : op.still = true) : σ1 = σ := by
  obtain ⟨dst, grd, ntr, k⟩ := op
  simp only [Op.still, Bool.and_eq_true] at hs
  obtain ⟨hk, hn⟩ := hs
  have hplain : (aop O ⟨dst, grd, ntr, k⟩ e σ = (sop e σ k).map fun x => (put dst x.1 e, x.2)) → σ1 = σ := by
    intro hall
    rw [hall] at h
    simp only [Option.map_eq_some_iff, Prod.exists, Prod.mk.injEq] at h
    obtain ⟨d, σ2, hs, rfl, rfl⟩ := h
    exact sop_still hs hk
  cases k
  case call kp f args =>
    simp only [aop] at h
    split at h
    case h_2 => cases h
    split at h
    case isFalse => cases h
    rename_i hx
    cases h
    exact hx hn
  case alcv nb cs =>
    simp only [aop] at h
    split at h
    case h_2 => cases h
    rename_i v cs' σ2 hnb
    cases h
    simp only [K.calm, List.isEmpty_iff] at hk
    subst hk
    exact nilbs_nil hnb
  case boxv x =>
    simp only [aop] at h
    split at h
    case h_2 => cases h
    cases h
    rfl
  case stv v nb sz a x =>
    simp only [aop] at h
    split at h
    case h_2 => cases h
    split at h
    case isFalse => cases h
    split at h
    case h_2 => cases h
    rename_i hnb
    cases h
    simp only [K.calm, List.isEmpty_iff] at hk
    subst hk
    exact nilbs_nil hnb
  all_goals exact hplain rfl

theorem run1_still {O : Oracle} {op : Op} {e1 : Env} {σ1 : Stack} (h : run1 O op e σ = some (e1, σ1)) (hs : op.still = true) : σ1 = σ := by
  unfold run1 at h
  split at h
  · exact aop_still h hs
  · split at h
    case h_2 => cases h
    split at h
    · exact aop_still h hs
    · cases h; rfl

def EqE (e e' : Env) : Prop := ∀ t, get e' t = get e t

theorem EqE.refl (e : Env) : EqE e e := fun _ => rfl
theorem EqE.trans {a b c : Env} (h : EqE a b) (h' : EqE b c) : EqE a c := fun t => (h' t).trans (h t)
theorem EqE.agree (h : EqE e e') (ts : List Nat) : Agree ts e e' := fun t _ => h t

theorem get_app {l : List (Nat × D)} {t : Nat} : get (l ++ e) t = if t ∈ l.map (·.1) then get l t else get e t := by
  induction l with
  | nil => simp
  | cons p l ih =>
    obtain ⟨k, v⟩ := p
    simp only [List.cons_append, get]
    by_cases hk : k = t
    · simp [hk]
    · rw [if_neg hk, ih]
      simp only [List.map_cons, List.mem_cons]
      by_cases ht : t ∈ l.map (·.1)
      · rw [if_pos ht, if_pos (.inr ht)]; rw [if_neg hk]
      · rw [if_neg ht, if_neg (by intro h; rcases h with h | h; exact hk h.symm; exact ht h)]

theorem EqE.app (h : EqE e e') (l : List (Nat × D)) : EqE (l ++ e) (l ++ e') := fun t => by
  simp only [get_app, h t]

theorem aops_eqE {O : Oracle} : ∀ {xs : List Op} {e e' e1 : Env} {σ σ1 : Stack}, aops O xs e σ = some (e1, σ1) → EqE e e' → ∃ e1', aops O xs e' σ = some (e1', σ1) ∧ EqE e1 e1'
  | [], e, e', e1, σ, σ1, h, he => by
    simp only [aops, Option.some.injEq, Prod.mk.injEq] at h
    obtain ⟨rfl, rfl⟩ := h
    exact ⟨e', rfl, he⟩
  | x :: xs, e, e', e1, σ, σ1, h, he => by
    rw [aops_cons] at h
    simp only [Option.bind_eq_some_iff, Prod.exists] at h
    obtain ⟨e2, σ2, h1, h2⟩ := h
    obtain ⟨l, _, hl⟩ := run1_local h1
    have h3 := hl e (EqE.agree (.refl e) _)
    rw [h1] at h3
    cases h3
    obtain ⟨e3, h4, h5⟩ := aops_eqE h2 (he.app l)
    exact ⟨e3, by rw [aops_cons, hl e' (he.agree _)]; exact h4, h5⟩

theorem sop_pure {d : D} {k : K} (h : sop e σ k = some (d, σ')) (hk : k.pure = true) (τ : Stack) : sop e τ k = some (d, τ) := by
  cases k <;> simp only [K.pure, K.calm, Bool.false_eq_true] at hk <;> simp only [sop, Option.bind_eq_bind, reduceCtorEq] at h ⊢ <;> (repeat' split at h) <;>
    simp only [Option.map_eq_some_iff, Option.bind_eq_some_iff, Option.some.injEq, Prod.mk.injEq, Prod.exists, reduceCtorEq, exists_eq_left, and_false, exists_false] at h <;> (try split at h) <;>
    simp_all <;> (try (obtain ⟨_, _, h⟩ := h; simp_all)) <;> (try grind)

theorem aop_pure {O : Oracle} {op : Op} {e1 : Env} {σ1 : Stack} (h : aop O op e σ = some (e1, σ1)) (hs : op.k.pure = true) (τ : Stack) : aop O op e τ = some (e1, τ) := by
  obtain ⟨dst, grd, ntr, k⟩ := op
  have hplain : (∀ τ, aop O ⟨dst, grd, ntr, k⟩ e τ = (sop e τ k).map fun x => (put dst x.1 e, x.2)) → aop O ⟨dst, grd, ntr, k⟩ e τ = some (e1, τ) := by
    intro hall
    rw [hall] at h ⊢
    simp only [Option.map_eq_some_iff, Prod.exists, Prod.mk.injEq] at h
    obtain ⟨d, σ2, hs', rfl, rfl⟩ := h
    rw [sop_pure hs' hs τ]
    rfl
  cases k
  case call kp f args => simp [K.pure] at hs
  case alcv nb cs =>
    simp only [K.pure, K.calm, List.isEmpty_iff] at hs
    subst hs
    simp only [aop] at h ⊢
    cases dst with
    | none => cases h
    | some v => simp only [nilbs, Option.some.injEq, Prod.mk.injEq] at h ⊢; exact ⟨h.1, trivial⟩
  case boxv x =>
    simp only [aop] at h ⊢
    cases dst with
    | none => cases h
    | some v =>
      cases hx : (opd e x).cells with
      | none => rw [hx] at h; cases h
      | some cs => rw [hx] at h; simp only [Option.some.injEq, Prod.mk.injEq] at h ⊢; exact ⟨h.1, trivial⟩
  case stv v nb sz a x =>
    simp only [K.pure, K.calm, List.isEmpty_iff] at hs
    subst hs
    simp only [aop] at h ⊢
    cases hin : inVar e v a <;> rw [hin] at h <;> try (cases h; done)
    cases hx : (opd e x).cells <;> rw [hx] at h <;> try (cases h; done)
    simp only [nilbs] at h ⊢
    split at h
    · rename_i hc
      rw [if_pos hc]
      simp only [Option.some.injEq, Prod.mk.injEq] at h ⊢
      exact ⟨h.1, trivial⟩
    · cases h
  all_goals exact hplain fun τ => rfl

theorem pure_calm {k : K} (h : k.pure = true) : k.calm = true ∧ ∀ kp f xs, k ≠ .call kp f xs := by
  cases k <;> simp_all [K.pure, K.calm]

theorem run1_pure {O : Oracle} {op : Op} {e1 : Env} {σ1 : Stack} (h : run1 O op e σ = some (e1, σ1)) (hs : op.k.pure = true) : ∀ τ, run1 O op e τ = some (e1, τ) := by
  intro τ
  unfold run1 at h ⊢
  cases hg : op.grd with
  | none => rw [hg] at h; exact aop_pure h hs τ
  | some y =>
    obtain ⟨g, want⟩ := y
    rw [hg] at h
    dsimp only at h ⊢
    cases hb : (get e g).bit with
    | none => rw [hb] at h; cases h
    | some b =>
      rw [hb] at h
      dsimp only at h ⊢
      split at h
      · rename_i hw
        rw [if_pos hw]
        exact aop_pure h hs τ
      · rename_i hw
        rw [if_neg hw]
        cases h
        rfl

theorem setSeg_hit {a : List Blk} {σ : Stack} {l : Nat} {s : List Blk} (h : σ.length = l) : setSeg (a :: σ) l s = s :: σ := by simp only [setSeg]; rw [if_pos h]
theorem setSeg_miss {a : List Blk} {σ : Stack} {l : Nat} {s : List Blk} (h : ¬ σ.length = l) : setSeg (a :: σ) l s = a :: setSeg σ l s := by simp only [setSeg]; rw [if_neg h]

theorem setSeg_comm {σ : Stack} {l l' : Nat} {s s' : List Blk} (h : l ≠ l') : setSeg (setSeg σ l s) l' s' = setSeg (setSeg σ l' s') l s := by
  induction σ with
  | nil => rfl
  | cons a σ ih =>
    by_cases h1 : σ.length = l
    · have h2 : ¬ σ.length = l' := by omega
      rw [setSeg_hit h1, setSeg_miss h2, setSeg_miss h2, setSeg_hit (by rw [setSeg_length]; exact h1)]
    · by_cases h2 : σ.length = l'
      · rw [setSeg_miss h1, setSeg_hit h2, setSeg_hit (by rw [setSeg_length]; exact h2), setSeg_miss h1]
      · rw [setSeg_miss h1, setSeg_miss h2, setSeg_miss (by rw [setSeg_length]; exact h2), setSeg_miss (by rw [setSeg_length]; exact h1), ih]

theorem seg?_setSeg_ne {σ : Stack} {l l' : Nat} {s : List Blk} (h : l ≠ l') : seg? (setSeg σ l s) l' = seg? σ l' := by
  induction σ with
  | nil => rfl
  | cons a σ ih =>
    simp only [setSeg]
    by_cases h1 : σ.length = l
    · rw [if_pos h1]; simp only [seg?]; rw [if_neg (by omega), if_neg (by omega)]
    · rw [if_neg h1]; simp only [seg?, setSeg_length, ih]

theorem setSeg_twice {σ : Stack} {l : Nat} {s s' : List Blk} : setSeg (setSeg σ l s) l s' = setSeg σ l s' := by
  induction σ with
  | nil => rfl
  | cons a σ ih =>
    simp only [setSeg]
    by_cases h1 : σ.length = l
    · rw [if_pos h1, if_pos h1]; simp only [setSeg]; rw [if_pos h1]
    · rw [if_neg h1, if_neg h1]; simp only [setSeg, setSeg_length]; rw [if_neg h1, ih]

theorem setBlk_comm {σ : Stack} {l i l' i' : Nat} {b b' : Blk} (h : ¬ (l' = l ∧ i' = i)) : setBlk (setBlk σ l i b) l' i' b' = setBlk (setBlk σ l' i' b') l i b := by
  by_cases hl : l = l'
  · subst hl
    have hi : i ≠ i' := fun e => h ⟨rfl, e.symm⟩
    unfold setBlk
    cases hs : seg? σ l with
    | none => simp [hs]
    | some s =>
      simp only [seg?_setSeg (seg?_lt hs), setSeg_twice]
      rw [List.set_comm _ _ hi]
  · unfold setBlk
    cases hs : seg? σ l with
    | none =>
      cases hs' : seg? σ l' with
      | none => simp [hs, hs']
      | some s' => simp only [seg?_setSeg_ne (Ne.symm hl), hs]
    | some s =>
      cases hs' : seg? σ l' with
      | none => simp only [seg?_setSeg_ne hl, hs', hs]
      | some s' =>
        simp only [seg?_setSeg_ne hl, seg?_setSeg_ne (Ne.symm hl), hs, hs']
        exact setSeg_comm hl

theorem cells?_off {σ : Stack} {l i l' i' v : Nat} {b : Blk} (h : ¬ (l' = l ∧ i' = i)) : cells? (setBlk σ l i b) l' i' v = cells? σ l' i' v := by
  unfold cells?
  rw [blk?_setBlk_other h]

theorem rdD_off {σ : Stack} {l i : Nat} {b : Blk} {d : D} (h : D.off l i d = true) : rdD (setBlk σ l i b) d.strip = rdD σ d.strip := by
  cases d <;> try rfl
  simp only [D.off, decide_eq_true_eq] at h
  simp only [D.strip, rdD, cells?_off h]

theorem run1_ld {O : Oracle} {dst : Option Nat} {n ag : Bool} {sz m : Nat} {e1 : Env} {σ1 : Stack} (h : run1 O ⟨dst, none, n, .ld ag sz (.t m)⟩ e σ = some (e1, σ1)) :
    σ1 = σ ∧ ∀ τ, rdD τ (get e m).strip = rdD σ (get e m).strip → run1 O ⟨dst, none, n, .ld ag sz (.t m)⟩ e τ = some (e1, τ) := by
  have hs := run1_still h
  simp only [run1, aop, sop, opd] at h ⊢
  refine ⟨?_, fun τ hτ => ?_⟩
  · simp only [Option.map_eq_some_iff, Prod.exists, Prod.mk.injEq] at h
    obtain ⟨d, σ2, h, _, rfl⟩ := h
    exact sop_still (k := .ld ag sz (.t m)) (e := e) (d := d) (by simpa only [sop, opd] using h) rfl
  · rw [hτ]
    cases hr : rdD σ (get e m).strip with
    | none => rw [hr] at h; cases h
    | some cs =>
      rw [hr] at h
      dsimp only at h ⊢
      split at h
      · rename_i hsz
        rw [if_pos hsz]
        cases ag with
        | true => simp at h ⊢; exact h.1
        | false =>
          simp only [Bool.false_eq_true, if_false] at h ⊢
          cases cs with
          | nil => cases h
          | cons d ds => simp at h ⊢; exact h.1
      · cases h

theorem run1_stc {O : Oracle} {dst : Option Nat} {n : Bool} {os : List Nat} {sz : Nat} {a x : Opd} {e1 : Env} {σ1 : Stack} (h : run1 O ⟨dst, none, n, .stc os sz a x⟩ e σ = some (e1, σ1)) :
    ∃ l i v off b, opd e a = .ref l i v off ∧ (∀ m ∈ os, D.off l i (get e m) = true) ∧ σ1 = setBlk σ l i b ∧
      ∀ τ, cells? τ l i v = cells? σ l i v → run1 O ⟨dst, none, n, .stc os sz a x⟩ e τ = some (e1, setBlk τ l i b) := by
  simp only [run1, aop, sop] at h ⊢
  cases ha : opd e a <;> rw [ha] at h <;> try (cases h; done)
  rename_i l i v off
  dsimp only at h ⊢
  split at h
  case isFalse => cases h
  rename_i hall
  cases hc : cells? σ l i v with
  | none => rw [hc] at h; cases h
  | some cs =>
  rw [hc] at h
  dsimp only at h
  cases hp : (opd e x).cells with
  | none => rw [hp] at h; cases h
  | some p =>
  rw [hp] at h
  dsimp only at h
  split at h
  case isFalse => cases h
  rename_i hq
  simp only [Option.map_some, Option.some.injEq, Prod.mk.injEq] at h
  refine ⟨l, i, v, off, .cells v (cs.take off ++ p ++ cs.drop (off + sz)), rfl, fun m hm => List.all_eq_true.1 hall m hm, h.2.symm, fun τ hτ => ?_⟩
  simp only [hall, if_true, hτ, hc, if_pos hq, Option.map_some, h.1]

theorem adr_ok {O : Oracle} {x y : Op} {e2 : Env} {σ2 : Stack} {r : List Op} (hf : x.adr y = true)
    (h : aops O (x :: y :: r) e σ = some (e2, σ2)) : ∃ e2', aops O (y :: x :: r) e σ = some (e2', σ2) ∧ EqE e2 e2' := by
  unfold Op.adr at hf
  split at hf
  case h_2 => cases hf
  rename_i n v sz a X d n' off m
  simp only [decide_eq_true_eq] at hf
  obtain ⟨rfl, hdv, hda, hdX⟩ := hf
  rw [aops_cons] at h
  simp only [Option.bind_eq_some_iff, Prod.exists] at h
  obtain ⟨ex, σx, h1, h2⟩ := h
  rw [aops_cons] at h2
  simp only [Option.bind_eq_some_iff, Prod.exists] at h2
  obtain ⟨ey, σy, h2, h3⟩ := h2
  simp only [run1, aop] at h1
  cases hin : inVar e m a with
  | none => rw [hin] at h1; cases h1
  | some z =>
  obtain ⟨s, cs, o⟩ := z
  rw [hin] at h1
  cases hX : (opd e X).cells with
  | none => rw [hX] at h1; cases h1
  | some p =>
  rw [hX] at h1
  dsimp only at h1
  split at h1
  case isFalse => cases h1
  rename_i hq
  simp only [nilbs, Option.some.injEq, Prod.mk.injEq] at h1
  obtain ⟨rfl, rfl⟩ := h1
  have hgv : ∃ cs', get e m = .own s cs' := by
    unfold inVar at hin
    cases hg : get e m <;> rw [hg] at hin <;> try (cases hin; done)
    rename_i s' cs'
    dsimp only at hin
    split at hin
    · cases hin; exact ⟨_, rfl⟩
    · split at hin
      · split at hin
        · cases hin; exact ⟨_, rfl⟩
        · cases hin
      · cases hin
  obtain ⟨cs', hgv⟩ := hgv
  simp only [run1, aop, sop, get, if_true, Option.map_some, Option.some.injEq, Prod.mk.injEq] at h2
  obtain ⟨rfl, rfl⟩ := h2
  have hne : get ((d, D.vr m s off) :: e) m = get e m := by simp [get, hdv]
  have hna : get ((d, D.vr m s off) :: e) a = get e a := by simp [get, hda]
  have hin' : inVar ((d, D.vr m s off) :: e) m a = some (s, cs, o) := by rw [inVar_agree hne hna, hin]
  have hX' : opd ((d, D.vr m s off) :: e) X = opd e X := opd_agree fun t ht => by
    have : d ≠ t := fun he => hdX (he ▸ ht)
    simp [get, this]
  have heq : EqE (put (some d) (D.vr m s off) ((m, .own s (cs.take o ++ p ++ cs.drop (o + sz))) :: e)) ((m, .own s (cs.take o ++ p ++ cs.drop (o + sz))) :: (d, D.vr m s off) :: e) := by
    intro t
    simp only [put, get]
    by_cases h1 : d = t
    · have : ¬ m = t := fun e => hdv (h1.trans e.symm)
      simp [h1, this]
    · simp [h1]
  obtain ⟨e3, k1, k2⟩ := aops_eqE h3 heq
  refine ⟨e3, ?_, k2⟩
  rw [aops_cons]
  simp only [run1, aop, sop, hgv, Option.map_some, Option.bind_some]
  rw [aops_cons]
  simp only [run1, aop, put, hin', hX', hX, hq, and_self, if_true, nilbs, Option.bind_some]
  exact k1

/-- Two operations that do not clash change places: both still, or one that has nothing to do with the store. -/
theorem swap_ok {O : Oracle} {x y : Op} {e2 : Env} {σ2 : Stack} {r : List Op} (hf : x.free y = true)
    (h : aops O (x :: y :: r) e σ = some (e2, σ2)) : ∃ e2', aops O (y :: x :: r) e σ = some (e2', σ2) ∧ EqE e2 e2' := by
  unfold Op.free at hf
  rw [Bool.or_eq_true] at hf
  rcases hf with hf | hf
  · exact adr_ok hf h
  simp only [Bool.and_eq_true, Bool.not_eq_true'] at hf
  obtain ⟨hc, hf⟩ := hf
  simp only [Op.clash, Bool.or_eq_false_iff, List.any_eq_false, List.contains_iff_mem, Bool.or_eq_true, not_or] at hc
  obtain ⟨c1, c2⟩ := hc
  rw [aops_cons] at h
  simp only [Option.bind_eq_some_iff, Prod.exists] at h
  obtain ⟨ex, σx, h1, h2⟩ := h
  rw [aops_cons] at h2
  simp only [Option.bind_eq_some_iff, Prod.exists] at h2
  obtain ⟨ey, σy, h2, h3⟩ := h2
  obtain ⟨lx, d1, hl1⟩ := run1_local h1
  obtain ⟨ly, d2, hl2⟩ := run1_local h2
  have k1 := hl1 e (EqE.agree (.refl e) _)
  rw [h1] at k1; cases k1
  have k2 := hl2 _ (EqE.agree (.refl _) _)
  rw [h2] at k2; cases k2
  -- y first
  have ay : Agree (y.uses ++ y.defs) (lx ++ e) e := fun t ht => by
    rw [get_app, if_neg]
    intro hm
    obtain ⟨p, hp, rfl⟩ := List.mem_map.1 hm
    have := c1 _ (d1 p hp)
    simp only [List.mem_append] at ht
    rcases ht with ht | ht
    · exact this.2 (by simpa using ht)
    · exact this.1 (by simpa using ht)
  have ax : Agree (x.uses ++ x.defs) e (ly ++ e) := fun t ht => by
    rw [get_app, if_neg]
    intro hm
    obtain ⟨p, hp, rfl⟩ := List.mem_map.1 hm
    have hp' := d2 p hp
    simp only [List.mem_append] at ht
    rcases ht with ht | ht
    · exact c2 _ ht (by simpa using hp')
    · exact (c1 _ ht).1 (by simpa using hp')
  have hy0 := hl2 e ay
  have hx0 := hl1 (ly ++ e) ax
  obtain ⟨σm, hy1, hx1⟩ : ∃ σm, run1 O y e σ = some (ly ++ e, σm) ∧ run1 O x (ly ++ e) σm = some (lx ++ (ly ++ e), σy) := by
    simp only [Bool.or_eq_true, Bool.and_eq_true] at hf
    rcases hf with ((⟨hx, hy⟩ | hx) | hy) | hfar
    · obtain rfl := run1_still h1 hx
      obtain rfl := run1_still h2 hy
      exact ⟨_, hy0, hx0⟩
    · have e1 := run1_pure h1 hx σ
      rw [h1] at e1
      cases e1
      exact ⟨σy, hy0, run1_pure hx0 hx σy⟩
    · have e2 := run1_pure h2 hy σx
      rw [h2] at e2
      cases e2
      exact ⟨σ, run1_pure hy0 hy σ, hx0⟩
    · unfold Op.far at hfar
      obtain ⟨dx, gx, nx, kx⟩ := x
      obtain ⟨dy, gy, ny, ky⟩ := y
      simp only [Bool.and_eq_true, Option.isNone_iff_eq_none] at hfar
      obtain ⟨⟨rfl, rfl⟩, hfar⟩ := hfar
      split at hfar
      · rename_i os sz a X ag sz' m
        have hm : m ∈ os := by simpa using hfar
        obtain ⟨l, i, v, off, b, _, hoff, rfl, _⟩ := run1_stc h1
        obtain ⟨rfl, hall⟩ := run1_ld hy0
        exact ⟨σ, hall σ (rdD_off (hoff m hm)).symm, hx0⟩
      · rename_i ag sz' m os sz a X
        have hm : m ∈ os := by simpa using hfar
        obtain ⟨rfl, _⟩ := run1_ld h1
        obtain ⟨l, i, v, off, b, _, hoff, rfl, _⟩ := run1_stc hy0
        obtain ⟨_, hall⟩ := run1_ld hx0
        refine ⟨_, hy0, hall _ ?_⟩
        have hg : get (ly ++ e) m = get e m := ax m (by simp [Op.uses, K.tmps, Opd.tmps])
        rw [hg]
        exact rdD_off (hoff m hm)
      · rename_i os sz a X os' sz' m X'
        have hm : m ∈ os := by simpa using hfar
        obtain ⟨l, i, v, off, b, _, hoff, rfl, hall⟩ := run1_stc hx0
        obtain ⟨l', i', v', off', b', hr, hoff', rfl, hall'⟩ := run1_stc hy0
        have hg : get (ly ++ e) m = get e m := ax m (by simp [Op.uses, K.tmps, hm])
        have h4 := hoff m hm
        rw [hg] at h4
        have h5 : get e m = .ref l' i' v' off' := by
          simp only [opd] at hr
          cases hgm : get e m <;> rw [hgm] at hr <;> simp only [D.strip, reduceCtorEq] at hr
          exact hr
        rw [h5] at h4
        simp only [D.off, decide_eq_true_eq] at h4
        refine ⟨setBlk σ l' i' b', hall' σ (cells?_off h4).symm, ?_⟩
        rw [setBlk_comm h4]
        exact hall _ (cells?_off fun hh => h4 ⟨hh.1.symm, hh.2.symm⟩)
      · cases hfar
  have heq : EqE (ly ++ (lx ++ e)) (lx ++ (ly ++ e)) := fun t => by
    simp only [get_app]
    by_cases m1 : t ∈ lx.map (·.1)
    · by_cases m2 : t ∈ ly.map (·.1)
      · obtain ⟨p, hp, rfl⟩ := List.mem_map.1 m1
        obtain ⟨q, hq, he⟩ := List.mem_map.1 m2
        have := (c1 _ (d1 p hp)).1
        have hq' := d2 q hq
        rw [he] at hq'
        exact absurd hq' (by simpa using this)
      · rw [if_pos m1, if_neg m2, if_pos m1]
    · by_cases m2 : t ∈ ly.map (·.1)
      · rw [if_neg m1, if_pos m2, if_pos m2]
      · rw [if_neg m1, if_neg m2, if_neg m2, if_neg m1]
  obtain ⟨e3, k3, k4⟩ := aops_eqE h3 heq
  refine ⟨e3, ?_, k4⟩
  rw [aops_cons, hy1]
  simp only [Option.bind_some]
  rw [aops_cons, hx1]
  exact k3

/-- An operation comes to the front of ones that it may change places with. -/
theorem front_ok {O : Oracle} {y : Op} {r : List Op} : ∀ {pre : List Op} {e e2 : Env} {σ σ2 : Stack}, (∀ x ∈ pre, x.free y = true) →
    aops O (pre ++ y :: r) e σ = some (e2, σ2) → ∃ e2', aops O (y :: (pre ++ r)) e σ = some (e2', σ2) ∧ EqE e2 e2'
  | [], e, e2, σ, σ2, hp, h => ⟨e2, h, .refl _⟩
  | x :: pre, e, e2, σ, σ2, hp, h => by
    simp only [List.cons_append] at h
    rw [aops_cons] at h
    simp only [Option.bind_eq_some_iff, Prod.exists] at h
    obtain ⟨e1, σ1, h1, h2⟩ := h
    obtain ⟨e3, h3, h4⟩ := front_ok (fun z hz => hp z (by simp [hz])) h2
    have h5 : aops O (x :: y :: (pre ++ r)) e σ = some (e3, σ2) := by rw [aops_cons, h1]; exact h3
    obtain ⟨e4, h6, h7⟩ := swap_ok (hp x (by simp)) h5
    exact ⟨e4, h6, h4.trans h7⟩

theorem restrict_eqE {live : List Nat} (h : EqE e e') : restrict live e' = restrict live e := by
  simp only [restrict]
  exact List.map_congr_left fun t _ => by rw [h t]
end Go.Abs

/-
  In whatever order a region that draws goes: the interpreter's answer is the same.
-/
set_option linter.unusedVariables false
set_option linter.unusedSimpArgs false
namespace Go.Abs
open Go

/-- An order of a row of operations, of which those that come early stand still and do not clash with what they are overtaken by. -/
inductive Sched : List (Nat × Op) → List Nat → List Op → Prop
  | nil : Sched [] [] []
  | cons {pre post : List (Nat × Op)} {i : Nat} {x : Op} {is : List Nat} {ys : List Op} : (∀ p ∈ pre, p.2.free x = true) →
      Sched (pre ++ post) is ys → Sched (pre ++ (i, x) :: post) (i :: is) (x :: ys)

theorem sched_aops {O : Oracle} {R : List (Nat × Op)} {is : List Nat} {ys : List Op} (h : Sched R is ys) : ∀ {e e2 : Env} {σ σ2 : Stack}, aops O (R.map (·.2)) e σ = some (e2, σ2) →
    ∃ e2', aops O ys e σ = some (e2', σ2) ∧ EqE e2 e2' := by
  induction h with
  | nil => intro e e2 σ σ2 h; exact ⟨e2, h, .refl _⟩
  | cons hp _ ih =>
    rename_i pre post i x is ys _
    intro e e2 σ σ2 h
    have h1 : ∃ e3, aops O (x :: ((pre ++ post).map (·.2))) e σ = some (e3, σ2) ∧ EqE e2 e3 := by
      simp only [List.map_append, List.map_cons] at h ⊢
      exact front_ok (fun z hz => by obtain ⟨p, hp', rfl⟩ := List.mem_map.1 hz; exact hp p hp') h
    obtain ⟨e3, h1, h2⟩ := h1
    rw [aops_cons] at h1
    simp only [Option.bind_eq_some_iff, Prod.exists] at h1
    obtain ⟨e4, σ4, h3, h4⟩ := h1
    obtain ⟨e5, h5, h6⟩ := ih h4
    exact ⟨e5, by rw [aops_cons, h3]; exact h5, h2.trans h6⟩

theorem sched_all {R : List (Nat × Op)} {is : List Nat} {ys : List Op} (h : Sched R is ys) {S : Nat → Op → Prop} : (∀ p ∈ R, S p.1 p.2) → All2 S is ys := by
  induction h with
  | nil => intro _; exact .nil
  | cons hp _ ih =>
    intro hS
    exact .cons (hS (_, _) (by simp)) (ih fun p hp => hS p (by simp only [List.mem_append, List.mem_cons] at hp ⊢; rcases hp with h | h <;> simp [h]))

/-! ### What must run before -/

def bitsOf (acc : List Nat) (o : Oper) : Nat := o.after.toList.foldl (fun s e => if Region.binds .any e then s ||| 2 ^ e.on ||| acc.getD e.on 0 else s) 0

theorem foldl_bits (acc : List Nat) : ∀ (l : List Edge) (s j : Nat), (l.foldl (fun s e => if Region.binds .any e then s ||| 2 ^ e.on ||| acc.getD e.on 0 else s) s).testBit j = true ↔
    s.testBit j = true ∨ ∃ e ∈ l, Region.binds .any e = true ∧ (e.on = j ∨ (acc.getD e.on 0).testBit j = true)
  | [], s, j => by simp
  | e :: l, s, j => by
    simp only [List.foldl_cons]
    rw [foldl_bits acc l]
    by_cases hb : Region.binds .any e = true
    · simp only [hb, if_true, Nat.testBit_or, Bool.or_eq_true, Nat.testBit_two_pow, decide_eq_true_eq, List.mem_cons, exists_eq_or_imp, true_and]
      grind
    · simp only [hb, List.mem_cons, exists_eq_or_imp, false_and, false_or]
      simp

theorem bitsOf_iff {acc : List Nat} {o : Oper} {j : Nat} : (bitsOf acc o).testBit j = true ↔ ∃ e ∈ o.after.toList, Region.binds .any e = true ∧ (e.on = j ∨ (acc.getD e.on 0).testBit j = true) := by
  unfold bitsOf
  rw [foldl_bits]
  simp

theorem befores_spec : ∀ (l : List Oper) (acc : List Nat), ∃ ext, befores l acc = acc ++ ext ∧ ext.length = l.length ∧
    ∀ k o, l[k]? = some o → ext[k]? = some (bitsOf ((befores l acc).take (acc.length + k)) o)
  | [], acc => ⟨[], by simp [befores], rfl, fun k o h => by simp at h⟩
  | o :: l, acc => by
    obtain ⟨ext, h1, h2, h3⟩ := befores_spec l (acc ++ [bitsOf acc o])
    have h0 : befores (o :: l) acc = befores l (acc ++ [bitsOf acc o]) := rfl
    refine ⟨bitsOf acc o :: ext, by rw [h0, h1]; simp, by simp [h2], fun k o' hk => ?_⟩
    cases k with
    | zero =>
      simp only [List.getElem?_cons_zero, Option.some.injEq] at hk
      subst hk
      rw [h0, h1]
      simp
    | succ k =>
      simp only [List.getElem?_cons_succ] at hk ⊢
      rw [h3 k o' hk, h0]
      simp [Nat.add_assoc, Nat.add_comm 1 k]

theorem befores_at {ops : List Oper} {i : Nat} {o : Oper} (h : ops[i]? = some o) {j : Nat} (hj : ((befores ops []).getD i 0).testBit j = true) :
    ∃ e ∈ o.after.toList, Region.binds .any e = true ∧ (e.on = j ∨ ((befores ops []).getD e.on 0).testBit j = true) := by
  obtain ⟨ext, h1, h2, h3⟩ := befores_spec ops []
  have h4 := h3 i o h
  simp only [List.length_nil, Nat.zero_add] at h4
  simp only [List.nil_append] at h1
  rw [h1] at hj h4 ⊢
  rw [List.getD_eq_getElem?_getD, h4] at hj
  simp only [Option.getD_some] at hj
  obtain ⟨e, he, hb, hc⟩ := bitsOf_iff.1 hj
  refine ⟨e, he, hb, hc.imp id fun hc => ?_⟩
  rw [List.getD_eq_getElem?_getD] at hc ⊢
  rw [List.getElem?_take] at hc
  split at hc
  · exact hc
  · simp at hc

theorem tail_bits {bs : List Nat} : ∀ {n j : Nat}, tailOf.go bs n ≤ j → j < n → bs.getD j 0 = 2 ^ j - 1
  | 0, j, h, hj => by omega
  | n + 1, j, h, hj => by
    simp only [tailOf.go] at h
    split at h
    · rename_i hb
      by_cases hjn : j = n
      · subst hjn; exact hb
      · exact tail_bits h (by omega)
    · omega

theorem after_ok {bs : List Nat} {i : Nat} {o : Op} : ∀ {l : List Op} {j : Nat}, calmC.after bs i j o l = true → ∀ k p, l[k]? = some p → o.free p = true ∨ (bs.getD (j + k) 0).testBit i = true
  | [], j, h, k, p, hk => by simp at hk
  | q :: l, j, h, k, p, hk => by
    simp only [calmC.after, Bool.and_eq_true, Bool.or_eq_true] at h
    cases k with
    | zero => simp only [List.getElem?_cons_zero, Option.some.injEq] at hk; subst hk; simpa using h.1
    | succ k =>
      have := after_ok h.2 k p (by simpa using hk)
      rwa [show j + 1 + k = j + (k + 1) from by omega] at this

theorem calm_ok {bs : List Nat} : ∀ {l : List Op} {i : Nat}, calmC bs i l = true → ∀ k p, l[k]? = some p → ∀ m q, l[m]? = some q → k < m → p.free q = true ∨ (bs.getD (i + m) 0).testBit (i + k) = true
  | [], i, h, k, p, hk => by simp at hk
  | o :: l, i, h, k, p, hk => by
    simp only [calmC, Bool.and_eq_true] at h
    obtain ⟨h2, h3⟩ := h
    cases k with
    | zero =>
      simp only [List.getElem?_cons_zero, Option.some.injEq] at hk; subst hk
      intro m q hm hlt
      cases m with
      | zero => omega
      | succ m =>
        have := after_ok h2 m q (by simpa using hm)
        rwa [show i + 1 + m = i + (m + 1) from by omega] at this
    | succ k =>
      have h5 := calm_ok h3 k p (by simpa using hk)
      intro m q hm hlt
      cases m with
      | zero => omega
      | succ m =>
        have := h5 m q (by simpa using hm) (by omega)
        rwa [show i + 1 + m = i + (m + 1) from by omega, show i + 1 + k = i + (k + 1) from by omega] at this

theorem edges_ok : ∀ {l : List Oper} {i : Nat}, edgesOk i l = true → ∀ k o, l[k]? = some o → ∀ e ∈ o.after.toList, Region.binds .any e = true → e.on < i + k
  | [], i, h, k, o, hk => by simp at hk
  | o :: l, i, h, k, o', hk => by
    simp only [edgesOk, Bool.and_eq_true, List.all_eq_true] at h
    cases k with
    | zero =>
      simp only [List.getElem?_cons_zero, Option.some.injEq] at hk; subst hk
      intro e he hb
      have := h.1 e he
      simpa [hb] using this
    | succ k =>
      intro e he hb
      have := edges_ok h.2 k o' (by simpa using hk) e he hb
      omega


/-! ### The machine's orders -/

def unl (n : Nat) (listed : Array Bool) : List Nat := (List.range n).filter fun i => !listed.getD i true

theorem split_at {l : List Nat} {i : Nat} (hn : l.Pairwise (· < ·)) (hi : i ∈ l) : ∃ pre post, l = pre ++ i :: post ∧ l.filter (fun j => decide (j ≠ i)) = pre ++ post ∧ ∀ p ∈ pre, p < i := by
  obtain ⟨pre, post, rfl⟩ := List.append_of_mem hi
  rw [List.pairwise_append] at hn
  obtain ⟨h1, h2, h3⟩ := hn
  rw [List.pairwise_cons] at h2
  refine ⟨pre, post, rfl, ?_, fun p hp => h3 p hp i (by simp)⟩
  rw [List.filter_append, List.filter_cons]
  simp only [ne_eq, not_true, decide_false, Bool.false_eq_true, if_false]
  rw [List.filter_eq_self.2, List.filter_eq_self.2]
  · intro a ha; have := h2.1 a ha; simp; omega
  · intro a ha; have := h3 a ha i (by simp); simp; omega

theorem getD_tf {listed : Array Bool} {i : Nat} (h : i < listed.size) : listed.getD i true = listed.getD i false := by
  simp [Array.getD_eq_getD_getElem?, h]

theorem lin_sched {ops : Array Oper} {xs : List Op} (hlen : xs.length = ops.size) (hcalm : calmC (befores ops.toList []) 0 (xs.take (tailOf (befores ops.toList []))) = true)
    (hedges : edgesOk 0 ops.toList = true) : ∀ (fuel t : Nat) (listed : Array Bool), listed.size = ops.size →
    (∀ i, listed.getD i false = true → ∀ j, ((befores ops.toList []).getD i 0).testBit j = true → listed.getD j false = true) → (unl ops.size listed).length ≤ fuel →
    ∃ ys, Sched ((unl ops.size listed).map fun i => (i, (xs[i]?).getD default)) (Region.linearise.go .any ops fuel t listed []) ys
  | 0, t, listed, hs, hcl, hf => by
    have : unl ops.size listed = [] := by simpa using hf
    exact ⟨[], by rw [this]; exact .nil⟩
  | fuel + 1, t, listed, hs, hcl, hf => by
    have hbl : (befores ops.toList []).length = ops.size := by
      obtain ⟨ext, h1, h2, _⟩ := befores_spec ops.toList []
      rw [h1]; simpa using h2
    have hsorted : (unl ops.size listed).Pairwise (· < ·) := List.Pairwise.filter _ List.pairwise_lt_range
    have hmemU : ∀ i, i ∈ unl ops.size listed ↔ i < ops.size ∧ listed.getD i false = false := by
      intro i
      simp only [unl, List.mem_filter, List.mem_range, Bool.not_eq_true']
      constructor
      · rintro ⟨h1, h2⟩; exact ⟨h1, by rw [← getD_tf (by omega)]; exact h2⟩
      · rintro ⟨h1, h2⟩; exact ⟨h1, by rw [getD_tf (by omega)]; exact h2⟩
    have hgo : Region.linearise.go .any ops (fuel + 1) t listed [] = match (Region.ready .any ops listed)[t % (Region.ready .any ops listed).length]? with
        | some i => Region.linearise.go .any ops fuel (t / (Region.ready .any ops listed).length) (listed.setIfInBounds i true) [i]
        | none => [] := rfl
    rw [hgo]
    cases hU : unl ops.size listed with
    | nil =>
      have hr : Region.ready .any ops listed = [] := by
        rw [List.eq_nil_iff_forall_not_mem]
        intro j hj
        rw [mem_ready] at hj
        obtain ⟨h0, o, ho, _⟩ := hj
        have hlt := (Array.getElem?_eq_some_iff.1 ho).1
        have : j ∈ unl ops.size listed := (hmemU j).2 ⟨hlt, by rw [← getD_tf (by omega)]; exact h0⟩
        rw [hU] at this; cases this
      rw [hr]
      exact ⟨[], .nil⟩
    | cons i0 U' =>
      have hi0 := (hmemU i0).1 (by rw [hU]; simp)
      have hready0 : i0 ∈ Region.ready .any ops listed := by
        rw [mem_ready]
        refine ⟨by rw [getD_tf (by omega)]; exact hi0.2, ops[i0]'hi0.1, by simp, fun e he hb => ?_⟩
        have hlt := edges_ok hedges i0 (ops[i0]'hi0.1) (by simp [hi0.1]) e (by simpa using he) hb
        cases hl : listed.getD e.on false with
        | true => rfl
        | false =>
          have : e.on ∈ unl ops.size listed := (hmemU _).2 ⟨by omega, hl⟩
          rw [hU] at this
          rw [hU, List.pairwise_cons] at hsorted
          rcases List.mem_cons.1 this with h | h
          · omega
          · have := hsorted.1 _ h; omega
      have hpos : 0 < (Region.ready .any ops listed).length := List.length_pos_of_mem hready0
      have hlt := Nat.mod_lt t hpos
      rw [List.getElem?_eq_getElem hlt]
      dsimp only
      generalize hie : (Region.ready .any ops listed)[t % (Region.ready .any ops listed).length] = i
      have hi : i ∈ Region.ready .any ops listed := by rw [← hie]; exact List.getElem_mem hlt
      rw [mem_ready] at hi
      obtain ⟨h0, o, ho, hall⟩ := hi
      have hin := (Array.getElem?_eq_some_iff.1 ho).1
      have hiU : i ∈ unl ops.size listed := (hmemU i).2 ⟨hin, by rw [← getD_tf (by omega)]; exact h0⟩
      have hbits : ∀ j, ((befores ops.toList []).getD i 0).testBit j = true → listed.getD j false = true := by
        intro j hj
        obtain ⟨e, he, hb, hc⟩ := befores_at (ops := ops.toList) (i := i) (o := o) (by simpa using ho) hj
        have hl := hall e (by simpa using he) hb
        rcases hc with rfl | hc
        · exact hl
        · exact hcl _ hl _ hc
      obtain ⟨pre, post, hsp, hfl, hlt'⟩ := split_at hsorted hiU
      have hU2 : unl ops.size (listed.setIfInBounds i true) = pre ++ post := by
        rw [← hfl]
        simp only [unl, List.filter_filter]
        apply List.filter_congr
        intro j hj
        by_cases hji : j = i
        · subst hji; simp [show j < listed.size from by omega]
        · rw [getD_set_ne true (Ne.symm hji)]; simp [hji]
      have hcl2 : ∀ i', (listed.setIfInBounds i true).getD i' false = true → ∀ j, ((befores ops.toList []).getD i' 0).testBit j = true → (listed.setIfInBounds i true).getD j false = true := by
        intro i' hi' j hj
        by_cases hii : i' = i
        · subst hii; exact getD_set_true (hbits j hj)
        · rw [getD_set_ne false (Ne.symm hii)] at hi'; exact getD_set_true (hcl i' hi' j hj)
      obtain ⟨ys, hys⟩ := lin_sched hlen hcalm hedges fuel (t / (Region.ready .any ops listed).length) (listed.setIfInBounds i true) (by simpa using hs) hcl2 (by
        have : (unl ops.size listed).length = (pre ++ i :: post).length := by rw [hsp]
        rw [hU2]; simp at this ⊢; omega)
      rw [linearise_go_acc]
      refine ⟨(xs[i]?).getD default :: ys, ?_⟩
      rw [← hU, hsp]
      simp only [List.map_append, List.map_cons, List.reverse_cons, List.reverse_nil, List.nil_append, List.singleton_append]
      have hxi : ∃ x, xs[i]? = some x := ⟨xs[i]'(by omega), by simp [show i < xs.length from by omega]⟩
      obtain ⟨x, hx⟩ := hxi
      have hpre : ∀ p ∈ pre, i < tailOf (befores ops.toList []) := by
        intro p hp
        rcases Nat.lt_or_ge i (tailOf (befores ops.toList [])) with h | h
        · exact h
        · have hb := tail_bits (bs := befores ops.toList []) (n := (befores ops.toList []).length) h (by omega)
          have hpU := (hmemU p).1 (by rw [hsp]; simp [hp])
          have := hbits p (by rw [hb, Nat.testBit_two_pow_sub_one]; simpa using hlt' p hp)
          rw [this] at hpU; cases hpU.2
      refine .cons ?_ ?_
      · intro p hp
        obtain ⟨j, hj, rfl⟩ := List.mem_map.1 hp
        have hjn := (hmemU j).1 (by rw [hsp]; simp [hj])
        have hjx : xs[j]? = some (xs[j]'(by omega)) := by simp [show j < xs.length from by omega]
        have hit := hpre j hj
        have hji := hlt' j hj
        rw [hx, hjx]
        simp only [Option.getD_some]
        rcases calm_ok hcalm j _ (by rw [List.getElem?_take, if_pos (by omega)]; exact hjx) i x (by rw [List.getElem?_take, if_pos hit]; exact hx) hji with h | h
        · exact h
        · simp only [Nat.zero_add] at h
          have := hbits j h
          rw [this] at hjn; cases hjn.2
      · rw [hU2] at hys
        simpa using hys

end Go.Abs

/-
  Segments come and go; loops' records; what a frame holds behind a region, behind a round.
-/
set_option linter.unusedVariables false
set_option linter.unusedSimpArgs false
namespace Go.Abs
open Go

theorem blk?_lt {σ : Stack} {l i : Nat} {b : Blk} (h : blk? σ l i = some b) : l < σ.length := by
  unfold blk? at h
  cases hs : seg? σ l with
  | none => simp [hs] at h
  | some s => exact seg?_lt hs

theorem blk?_push {σ : Stack} {l i : Nat} : blk? ([] :: σ) l i = blk? σ l i := by
  simp only [blk?, seg?]
  split
  · rename_i h
    subst h
    cases hs : seg? σ σ.length with
    | none => simp
    | some s => exact absurd (seg?_lt hs) (Nat.lt_irrefl _)
  · rfl

theorem blk?_pop {s : List Blk} {σ : Stack} {l i : Nat} (h : l < σ.length) : blk? (s :: σ) l i = blk? σ l i := by
  simp only [blk?, seg?]
  rw [if_neg (by omega)]

section
variable {CR : CRel} {base : Nat} {g g' : G} {σ σ' : Stack} {w w' : World}

theorem Inv.lvl (hi : Inv CR base g σ w) {l i : Nat} {L : Loc} (h : g.loc l i = some L) : l < σ.length := by
  obtain ⟨b, hb, _⟩ := hi.dom l i L h
  exact blk?_lt hb

theorem Inv.push (hi : Inv CR base g σ w) : Inv CR base g ([] :: σ) w :=
  { hi with dom := fun l i L e => by rw [blk?_push]; exact hi.dom l i L e, tot := fun l i b e => by rw [blk?_push] at e; exact hi.tot l i b e }

theorem RelB.low {n : Nat} (hn : ∀ l i L, g.loc l i = some L → l < n) {b : Blk} {L : Loc} (h : RelB CR g w b L) : b.low n := by
  cases b with
  | cells v cs =>
    cases L with
    | «at» x off v' sz => obtain ⟨_, c, el, _, _, _, vs, hr, _⟩ := h; exact RelL.low hn hr
    | virt v' => obtain ⟨_, rfl⟩ := h; rfl
    | dead => exact h.elim
    | lp x => exact h.elim
  | dead => trivial
  | loop lp =>
    cases L with
    | lp x =>
      obtain ⟨r, _, hr⟩ := h
      exact fun t => RelV.low hn (hr.env t)
    | «at» x off v' sz => exact h.elim
    | virt v' => exact h.elim
    | dead => exact h.elim

theorem LowS.push (hi : Inv CR base g σ w) (h : LowS σ) : LowS ([] :: σ) := by
  intro l i b e hl
  rw [blk?_push] at e
  have hlt := blk?_lt e
  by_cases h1 : l + 1 < σ.length
  · exact h l i b e h1
  · obtain ⟨L, hL⟩ := hi.tot l i b e
    obtain ⟨b', hb', hr⟩ := hi.dom l i L hL
    rw [e] at hb'; cases hb'
    rw [show l + 1 = σ.length from by omega]
    exact hr.low fun l i L h => hi.lvl h

theorem RelB.cut {n : Nat} {b : Blk} {L : Loc} (h : RelB CR g w b L) (hl : b.low n) : RelB CR (g.cut n) w b L := by
  cases b with
  | cells v cs =>
    cases L with
    | «at» x off v' sz => obtain ⟨h1, c, el, h2, h3, h4, vs, hr, h5⟩ := h; exact ⟨h1, c, el, h2, h3, h4, vs, hr.cut hl, h5⟩
    | virt v' => exact h
    | dead => exact h
    | lp x => exact h
  | dead => cases L <;> exact h
  | loop lp =>
    cases L with
    | lp x =>
      obtain ⟨r, h1, hr⟩ := h
      exact ⟨r, h1, { hr with env := fun t => (hr.env t).cut (hl t) }⟩
    | «at» x off v' sz => exact h
    | virt v' => exact h
    | dead => exact h

theorem Blk.low_mono {n m : Nat} (h : n ≤ m) {b : Blk} (hb : b.low n) : b.low m := by
  cases b with
  | cells v cs => exact lowL_mono h hb
  | dead => trivial
  | loop lp => exact fun t => Abs.low_mono h (hb t)

/-- The newest segment goes. -/
theorem Inv.pop {s : List Blk} (hi : Inv CR base g (s :: σ) w) (h : LowS (s :: σ)) : Inv CR base (g.cut σ.length) σ w ∧ LowS σ := by
  refine ⟨⟨hi.ge, fun l i L e => ?_, hi.imm, fun l i L b e => hi.sep l i L b (G.cut_some e).2, fun l i L l' i' L' b e e' => hi.inj l i L l' i' L' b (G.cut_some e).2 (G.cut_some e').2,
    fun l i L b e => hi.lo l i L b (G.cut_some e).2, fun l i b e => ?_⟩, fun l i b e hl => ?_⟩
  · obtain ⟨hl, e⟩ := G.cut_some e
    obtain ⟨b, hb, hr⟩ := hi.dom l i L e
    have hlow := h l i b hb (by simp; omega)
    rw [blk?_pop hl] at hb
    exact ⟨b, hb, hr.cut (Blk.low_mono (by omega) hlow)⟩
  · have hl := blk?_lt e
    rw [← blk?_pop (s := s) hl] at e
    obtain ⟨L, hL⟩ := hi.tot l i b e
    exact ⟨L, by rw [G.cut_loc hl]; exact hL⟩
  · have hl' := blk?_lt e
    rw [← blk?_pop (s := s) hl'] at e
    exact h l i b e (by simp; omega)

theorem Ev.cut {n : Nat} (h : Ev g w g' w') (hn : ∀ l i L, g.loc l i = some L → l < n) : Ev g w (g'.cut n) w' where
  le := ⟨fun l i L e => by rw [G.cut_loc (hn l i L e)]; exact h.le.loc l i L e, h.le.imm⟩
  os := h.os
  tape := h.tape
  output := h.output
  size := h.size
  kept := h.kept
  img b hb := by
    obtain ⟨l, i, L, e, eb⟩ := hb
    exact h.img b ⟨l, i, L, (G.cut_some e).2, eb⟩
  immN := h.immN

theorem G.cut_has {n b : Nat} (h : (g.cut n).has b) : g.has b := by
  obtain ⟨l, i, L, e, eb⟩ := h
  exact ⟨l, i, L, (G.cut_some e).2, eb⟩

/-- A loop's record, new. -/
theorem Inv.newLoop (hi : Inv CR base g σ w) {l i : Nat} {lp : LoopSt} (hn : newBlk σ (.loop lp) = some (l, i, σ')) (r : Loop)
    (hr : RelLoop CR g lp r) :
    Inv CR base (g.setLoc l i (.lp w.heap.size)) σ' (w.alloc (.loop r)) ∧ Ev g w (g.setLoc l i (.lp w.heap.size)) (w.alloc (.loop r)) := by
  obtain ⟨h1, h2, h3, _, _⟩ := newBlk_spec hn
  have hnone := hi.none_of h1
  have hle : g.le (g.setLoc l i (.lp w.heap.size)) := G.le_setLoc fun L0 e => by rw [hnone] at e; cases e
  refine ⟨hi.turn l i hle h3 (fun l' i' c => G.setLoc_other c) (fun l' i' L b c e eb => alloc_old (hi.lo l' i' L b e eb).2) ?_ ?_ ?_ ?_ (by simp) ⟨_, G.setLoc_same⟩, ⟨hle, rfl, rfl, rfl, by simp, fun b hb _ => alloc_old hb, ?_, fun b o v hv => .inl hv⟩⟩
  · intro L e
    rw [G.setLoc_same] at e; cases e
    exact ⟨_, h2, r, alloc_new, { hr with env := hr.env.mono hle }⟩
  · intro b o v e
    obtain ⟨h1, h2⟩ := hi.imm b o v e
    exact ⟨(cell?_congr (alloc_old (hi.imm_lt e))).trans h1, h2⟩
  · intro l' i' L b e eb o
    by_cases c : l' = l ∧ i' = i
    · obtain ⟨rfl, rfl⟩ := c
      rw [G.setLoc_same] at e; cases e; cases eb
      cases e' : (g.setLoc l' i' (.lp w.heap.size)).imm w.heap.size o with
      | none => rfl
      | some v => have := hi.imm_lt (b := w.heap.size) (o := o) (v := v) e'; omega
    · rw [G.setLoc_other c] at e; exact hi.sep l' i' L b e eb o
  · intro L b e eb
    rw [G.setLoc_same] at e; cases e; cases eb
    refine ⟨hi.ge, by simp, fun l' i' L' c e' eb' => ?_⟩
    have := (hi.lo l' i' L' _ e' eb').2; omega
  · intro b hb
    obtain ⟨l', i', L, e, eb⟩ := hb
    by_cases c : l' = l ∧ i' = i
    · obtain ⟨rfl, rfl⟩ := c
      rw [G.setLoc_same] at e; cases e; cases eb; exact .inr (Nat.le_refl _)
    · rw [G.setLoc_other c] at e; exact .inl ⟨l', i', L, e, eb⟩

/-- A loop's record is turned. -/
theorem Inv.setLoop (hi : Inv CR base g σ w) {l i lb : Nat} {lp0 lp : LoopSt} (hL : g.loc l i = some (.lp lb)) (hb : blk? σ l i = some (.loop lp0)) {r : Loop} (hr : RelLoop CR g lp r) :
    Inv CR base g (setBlk σ l i (.loop lp)) (w.putObj lb (.loop r)) ∧ Ev g w g (w.putObj lb (.loop r)) := by
  have hlt := (hi.lo l i _ lb hL rfl).2
  have hoth : ∀ b, b ≠ lb → (w.putObj lb (.loop r)).heap[b]? = w.heap[b]? := fun b hne => World.putObj_heap_other hne
  refine ⟨hi.turn l i g.le_refl (fun l' i' c => blk?_setBlk_other c) (fun _ _ _ => rfl) ?_ ?_ ?_ hi.sep ?_ (by simp) ⟨_, hL⟩, ⟨g.le_refl, rfl, rfl, rfl, by simp, fun b _ hn => ?_, fun b hb => .inl hb, fun b o v hv => .inl hv⟩⟩
  · intro l' i' L b c e eb
    refine hoth b fun h => c ?_
    subst h
    exact hi.inj l' i' L l i _ b e hL eb rfl
  · intro L e
    rw [hL] at e; cases e
    exact ⟨_, blk?_setBlk hb, r, World.putObj_heap_same hlt, hr⟩
  · intro b o v e
    obtain ⟨h1, h2⟩ := hi.imm b o v e
    refine ⟨(cell?_congr (hoth b fun h => ?_)).trans h1, h2⟩
    subst h
    have := hi.sep l i _ b hL rfl o
    rw [e] at this; cases this
  · intro L b e eb
    rw [hL] at e; cases e; cases eb
    refine ⟨(hi.lo l i _ lb hL rfl).1, by simpa using hlt, fun l' i' L' c e' eb' => c ?_⟩
    exact hi.inj l' i' L' l i _ lb e' hL eb' rfl
  · refine hoth b fun h => hn ⟨l, i, _, hL, by rw [h]; rfl⟩
end

/-! ### What a frame holds -/

theorem get_map {live : List Nat} {f : D → D} {e : Env} (hf : f .undef = .undef) {t : Nat} : get (live.map fun t => (t, f (get e t))) t = if t ∈ live then f (get e t) else .undef := by
  induction live with
  | nil => simp [get]
  | cons u live ih =>
    simp only [List.map_cons, get, List.mem_cons]
    by_cases h : u = t
    · subst h; simp
    · rw [if_neg h, ih]
      by_cases h2 : t ∈ live
      · rw [if_pos h2, if_pos (.inr h2)]
      · rw [if_neg h2, if_neg (by intro h3; rcases h3 with h3 | h3; exact h h3.symm; exact h2 h3)]

theorem get_restrict {live : List Nat} {e : Env} {t : Nat} : get (restrict live e) t = if t ∈ live then (get e t).calm else .undef := get_map rfl
theorem get_strips {live : List Nat} {e : Env} {t : Nat} : get (strips live e) t = if t ∈ live then (get e t).strip else .undef := get_map rfl

section
variable {fb : Nat} {V : List Nat} {g : G} {w : World} {B : Nat → Nat} {e : Env} {tmps : Array Value}

theorem calm_own {d : D} {s : Nat} {cs : List D} (h : d.calm = .own s cs) : ∃ s', d = .own s' cs := by
  cases d <;> simp only [D.calm, reduceCtorEq, D.own.injEq] at h
  exact ⟨_, by rw [h.2]⟩

theorem Fr.restrict (hf : Fr fb V g w B e tmps) (live : List Nat) : Fr fb V g w B (restrict live e) tmps := by
  have hown : ∀ t s cs, get (Abs.restrict live e) t = .own s cs → ∃ s', get e t = .own s' cs := by
    intro t s cs h
    rw [get_restrict] at h
    split at h
    · exact calm_own h
    · cases h
  refine ⟨fun t => ?_, fun t s cs h => ?_, fun t t' s s' cs cs' h h' => ?_⟩
  · rw [get_restrict]
    split
    · have := hf.rel t
      cases hd : get e t <;> rw [hd] at this <;> simp only [D.calm] <;> first | exact this | exact RelV.undef _ | trivial
    · exact RelV.undef _
  · obtain ⟨s', h⟩ := hown t s cs h
    exact hf.own t s' cs h
  · obtain ⟨_, h⟩ := hown _ _ _ h
    obtain ⟨_, h'⟩ := hown _ _ _ h'
    exact hf.inj _ _ _ _ _ _ h h'

theorem Fr.strips (hf : Fr fb V g w B e tmps) (live : List Nat) : RelEnv g (strips live e) tmps := fun t => by
  rw [get_strips]
  split
  · exact hf.strip t
  · exact .undef _

theorem At.restrict {CR : CRel} {base n : Nat} {g0 : G} {w0 : World} {b : Frame} {σ : Stack} {a : Act} (ha : At CR base V g0 w0 n b g w B e σ a) (live : List Nat) : At CR base V g0 w0 n b g w B (restrict live e) σ a :=
  { ha with fr := ha.fr.restrict live }

theorem At.draw {CR : CRel} {base n : Nat} {g0 : G} {w0 : World} {b : Frame} {σ : Stack} {a : Act} (ha : At CR base V g0 w0 n b g w B e σ a) (w1 : World) (h : w1.heap = w.heap) (ho : w1.os = w.os) (ht : w1.tape = w.tape) (hp : w1.output = w.output) :
    At CR base V g0 w0 n b g w1 B e σ a :=
  ha.go (Ev.heap g h ho ht hp) (ha.inv.heap h) (.refl σ) (ha.fr.ev (Ev.heap g h ho ht hp)) rfl rfl

/-! A frame's temporaries frozen. -/

/-- An entry of a frame's row. -/
def Ent (fb : Nat) (V : List Nat) (g : G) (w : World) (B : Nat → Nat) (e0 : Env) (tmps : Array Value) (p : Nat × D) : Prop :=
  match p.2 with
  | .own s cs => (∃ s' cs', get e0 p.1 = .own s' cs') ∧ p.1 ∈ V ∧ tmps.getD p.1 Go.undef = .pointer (some ⟨B p.1, 0, none⟩) ∧ OwnB fb g w (B p.1) cs
  | d => RelV g d (tmps.getD p.1 Go.undef)

theorem Ent.ev {e0 : Env} {p : Nat × D} {g' : G} {w' : World} (h : Ent fb V g w B e0 tmps p) (he : Ev g w g' w') : Ent fb V g' w' B e0 tmps p := by
  obtain ⟨t, d⟩ := p
  unfold Ent at h ⊢
  dsimp only at h ⊢
  split
  · obtain ⟨h1, h2, h3, h4⟩ := h
    exact ⟨h1, h2, h3, h4.ev he⟩
  · rename_i hd
    cases d with
    | own s cs => exact absurd rfl (hd s cs)
    | _ => exact h.mono he.le

theorem get_mem {e : Env} {t : Nat} : get e t = .undef ∨ (t, get e t) ∈ e := by
  induction e with
  | nil => exact .inl rfl
  | cons p e ih =>
    obtain ⟨k, v⟩ := p
    simp only [get]
    split
    · rename_i h; subst h; exact .inr (by simp)
    · exact ih.imp id fun h => by simp [h]

theorem Fr.ents (hf : Fr fb V g w B e tmps) (live : List Nat) : ∀ p ∈ Abs.restrict live e, Ent fb V g w B e tmps p := by
  intro p hp
  simp only [Abs.restrict, List.mem_map] at hp
  obtain ⟨t, _, rfl⟩ := hp
  unfold Ent
  dsimp only
  cases hd : get e t with
  | own s cs =>
    obtain ⟨h1, h2, h3⟩ := hf.own t s cs hd
    exact ⟨⟨s, cs, rfl⟩, h1, h2, h3⟩
  | vr => exact .undef _
  | _ => have := hf.rel t; rw [hd] at this; exact this

theorem Ent.fr (hf : Fr fb V g w B e tmps) {g' : G} {w' : World} {e' : Env} (h : ∀ p ∈ e', Ent fb V g' w' B e tmps p) : Fr fb V g' w' B e' tmps := by
  refine ⟨fun t => ?_, fun t s cs hg => ?_, fun t t' s s' cs cs' hg hg' hB => ?_⟩
  · rcases get_mem (e := e') (t := t) with hm | hm
    · rw [hm]; exact RelV.undef _
    · have := h _ hm
      unfold Ent at this
      dsimp only at this
      cases hd : get e' t with
      | own s cs => trivial
      | vr => rw [hd] at this; cases this
      | _ => rw [hd] at this; exact this
  · rcases get_mem (e := e') (t := t) with hm | hm
    · rw [hm] at hg; cases hg
    · have := h _ hm
      rw [hg] at this
      exact ⟨this.2.1, this.2.2.1, this.2.2.2⟩
  · have h1 : ∃ s cs, get e t = .own s cs := by
      rcases get_mem (e := e') (t := t) with hm | hm
      · rw [hm] at hg; cases hg
      · have := h _ hm; rw [hg] at this; exact this.1
    have h2 : ∃ s cs, get e t' = .own s cs := by
      rcases get_mem (e := e') (t := t') with hm | hm
      · rw [hm] at hg'; cases hg'
      · have := h _ hm; rw [hg'] at this; exact this.1
    obtain ⟨_, _, h1⟩ := h1
    obtain ⟨_, _, h2⟩ := h2
    exact hf.inj _ _ _ _ _ _ h1 h2 hB

theorem not_own {g : G} {d : D} {c : Value} (h : RelV g d c) (s : Nat) (cs : List D) : d ≠ .own s cs := by intro e; subst e; cases h

theorem Ent.of {e0 : Env} {t : Nat} {d : D} (h : RelV g d (tmps.getD t Go.undef)) : Ent fb V g w B e0 tmps (t, d) := by
  unfold Ent
  dsimp only
  split
  · cases h
  · exact h

theorem frz_own {l n s : Nat} {cs : List D} {σ : Stack} : frz l (n + 1) (.own s cs) σ = if (D.own s cs).clean then (.own s cs, σ) else (.own s (frz.frzL (frz l n) cs σ).1, (frz.frzL (frz l n) cs σ).2) := by
  simp only [frz]

theorem frzE_ok {CR : CRel} {base : Nat} {e0 : Env} (l : Nat) : ∀ (es : Env) (σ : Stack) (g : G), Inv CR base g σ w → (∀ p ∈ es, Ent fb V g w B e0 tmps p) →
    ∃ g', Inv CR base g' (frzE l es σ).2 w ∧ Ev g w g' w ∧ ∀ p ∈ (frzE l es σ).1, Ent fb V g' w B e0 tmps p
  | [], σ, g, hi, h => ⟨g, hi, Ev.refl g w, by simp [frzE]⟩
  | (t, d) :: es, σ, g, hi, h => by
    have h1 : ∃ g1, Inv CR base g1 (frz l deep d σ).2 w ∧ Ev g w g1 w ∧ Ent fb V g1 w B e0 tmps (t, (frz l deep d σ).1) := by
      have h0 := h (t, d) (by simp)
      cases hd : d with
      | own s cs =>
        subst hd
        obtain ⟨k1, k2, k3, k4⟩ := h0
        rw [show frz l deep (.own s cs) σ = frz l (15 + 1) (.own s cs) σ from rfl, frz_own]
        split
        · exact ⟨g, hi, Ev.refl g w, k1, k2, k3, k4⟩
        · obtain ⟨ca, el, hb, hr, h1c⟩ := k4.blk
          obtain ⟨g1, i1, e1, r1⟩ := frzL_ok (CR := CR) (base := base) (frz_ok l 15) cs σ g w _ hi hr
          have k5 := k4.ev e1
          exact ⟨g1, i1, e1, k1, k2, k3, k5.lo, k5.free, k5.noimm, ca, el, hb, r1, h1c⟩
      | _ =>
        rw [hd] at h0
        obtain ⟨g1, i1, e1, r1⟩ := frz_ok (CR := CR) (base := base) l deep _ σ g w _ hi h0
        exact ⟨g1, i1, e1, Ent.of r1⟩
    obtain ⟨g1, i1, e1, k1⟩ := h1
    obtain ⟨g2, i2, e2, k2⟩ := frzE_ok l es (frz l deep d σ).2 g1 i1 fun p hp => (h p (by simp [hp])).ev e1
    refine ⟨g2, i2, e1.trans e2, fun p hp => ?_⟩
    simp only [frzE] at hp
    rcases List.mem_cons.1 hp with rfl | hp
    · exact k1.ev e2
    · exact k2 p hp
end
end Go.Abs
