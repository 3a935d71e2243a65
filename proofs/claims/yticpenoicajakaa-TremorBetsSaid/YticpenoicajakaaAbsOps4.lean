/-
  Composites, made slices, equality of rows.
-/
import Derived.Test.YticpenoicajakaaAbsOps3
set_option linter.unusedVariables false
set_option linter.unusedSimpArgs false
namespace Go.Abs
open Go

/-- A row laid into an array, cell by cell. -/
theorem set_row (off : Nat) : ∀ (l : List Value) (k : Nat) (a : Array Value), off + k + l.length ≤ a.size →
    ((l.zipIdx k).foldl (fun (cs : Array Value) (p : Value × Nat) => cs.setIfInBounds (off + p.2) p.1) a).toList = a.toList.take (off + k) ++ l ++ a.toList.drop (off + k + l.length)
  | [], k, a, h => by simp
  | v :: l, k, a, h => by
    simp only [List.length_cons] at h
    simp only [List.zipIdx_cons, List.foldl_cons]
    rw [set_row off l (k + 1) _ (by simp; omega)]
    simp only [Array.toList_setIfInBounds, List.length_cons]
    have hlt : off + k < a.toList.length := by simp; omega
    rw [show off + (k + 1) = off + k + 1 from by omega]
    have h1 : (a.toList.set (off + k) v).take (off + k + 1) = a.toList.take (off + k) ++ [v] := by
      rw [List.take_succ_eq_append_getElem (by simpa using hlt)]
      simp [List.take_set_of_le]
    rw [h1, List.drop_set_of_lt (by omega)]
    simp only [List.append_assoc, List.singleton_append]
    rw [show off + k + 1 + l.length = off + k + (l.length + 1) from by omega]

section
variable {base fb : Nat} {V : List Nat} {g : G} {w : World} {B : Nat → Nat} {e : Env} {tmps : Array Value} {df : List Deferred}

theorem fill_rel (hf : Fr fb V g w B e tmps) {place : Nat → Option (Nat × Nat)} : ∀ {ps : List (Nat × Operand)} {parts : List (Nat × Nat × Opd)} {cs ds : List D} {vs : Array Value}, partsC place ps = some parts →
    RelL g cs vs.toList → (∀ x ∈ vs.toList, x.oneCell' = true) → fillD e parts cs = some ds →
    ∃ vs', Instr.fill place vs (ps.map fun p => (p.1, (Act.mk tmps df).eval p.2)) = some vs' ∧ RelL g ds vs'.toList ∧ ∀ x ∈ vs'.toList, x.oneCell' = true
  | [], parts, cs, ds, vs, hp, hr, h1, hfill => by
    simp only [partsC, Option.some.injEq] at hp; subst hp
    simp only [fillD, Option.some.injEq] at hfill; subst hfill
    exact ⟨vs, rfl, hr, h1⟩
  | (i, x) :: ps, parts, cs, ds, vs, hp, hr, h1, hfill => by
    simp only [partsC] at hp
    split at hp
    case h_2 => cases hp
    rename_i o s y r' hpl hx hps
    cases hp
    simp only [fillD] at hfill
    split at hfill
    case h_2 => cases hfill
    rename_i p hcells
    split at hfill
    case isFalse => cases hfill
    rename_i hc
    obtain ⟨hlen, hle⟩ := hc
    obtain ⟨hrp, h1p⟩ := (hf.opd (df := df) hx).cells hcells
    have hsz : ((Act.mk tmps df).eval x).cells.size = s := by have := hrp.length; simp at this; omega
    have hle' : o + s ≤ vs.size := by have := hr.length; simp at this; omega
    have hset := set_row o ((Act.mk tmps df).eval x).cells.toList 0 vs (by simp; omega)
    simp only [Nat.add_zero, Array.length_toList, hsz] at hset
    obtain ⟨vs', e1, e2, e3⟩ := fill_rel hf (vs := (((Act.mk tmps df).eval x).cells.toList.zipIdx 0).foldl (fun (cs : Array Value) (p : Value × Nat) => cs.setIfInBounds (o + p.2) p.1) vs) hps
      (by rw [hset]; exact ((hr.take o).append hrp).append (hr.drop (o + s))) (by
        rw [hset]; intro z hz
        simp only [List.mem_append] at hz
        rcases hz with (hz | hz) | hz
        · exact h1 z (List.mem_of_mem_take hz)
        · exact h1p z hz
        · exact h1 z (List.mem_of_mem_drop hz)) hfill
    refine ⟨vs', ?_, e2, e3⟩
    simp only [List.map_cons, Instr.fill, hpl, hsz]
    rw [if_neg (by simp; omega)]
    rw [← e1]
    congr 1
    rw [← Array.foldl_toList]
    simp [Array.toList_zipIdx]
end

theorem flat_zero (z : Array Value) (hz : 0 < z.size) : ∀ n, (List.range (n * z.size)).map (fun i => z[i % z.size]!) = (List.range n).flatMap fun _ => z.toList
  | 0 => by simp
  | n + 1 => by
    rw [List.range_succ, List.flatMap_append, ← flat_zero z hz n, Nat.add_mul, Nat.one_mul, List.range_add, List.map_append, List.map_map]
    congr 1
    simp only [List.flatMap_cons, List.flatMap_nil, List.append_nil]
    apply List.ext_getElem (by simp)
    intro i h1 h2
    simp only [List.getElem_map, List.getElem_range, Function.comp]
    have hi : i < z.size := by simpa using h2
    have : (n * z.size + i) % z.size = i := by rw [Nat.add_comm, Nat.add_mul_mod_self_right, Nat.mod_eq_of_lt hi]
    rw [this]
    simp [hi]

theorem len_flat {α : Type} (z : List α) : ∀ n : Nat, ((List.range n).flatMap fun _ => z).length = n * z.length
  | 0 => by simp
  | n + 1 => by rw [List.range_succ, List.flatMap_append, List.length_append, len_flat z n, Nat.add_mul]; simp

theorem RelL.flatMap {g : G} {z : List D} {v : List Value} (h : RelL g z v) : ∀ n : Nat, RelL g ((List.range n).flatMap fun _ => z) ((List.range n).flatMap fun _ => v)
  | 0 => by simpa using RelL.nil
  | n + 1 => by
    rw [List.range_succ, List.flatMap_append, List.flatMap_append]
    exact (RelL.flatMap h n).append (by simpa using h)

section ops
variable {P : Program} {CR : CRel} {base fb : Nat} {V : List Nat} {g : G} {σ σ' : Stack} {w : World} {B : Nat → Nat} {e : Env} {tmps : Array Value} {df : List Deferred}
  {d : D}

theorem run_places (fs : List Field) (h : fs.all (fun f => (sizeC P f.type).isSome) = true) :
    (fs.mapM (fun f => (do pure (f.offset, ← sizeOf f.type) : Sem (Nat × Nat)))).run P w = .ok (fs.map fun f => (f.offset, (sizeC P f.type).getD 0)) w := by
  induction fs with
  | nil => simp
  | cons f fs ih =>
    simp only [List.all_cons, Bool.and_eq_true] at h
    obtain ⟨s, hs⟩ := Option.isSome_iff_exists.1 h.1
    rw [List.mapM_cons]
    simp only [Sem.run_bind, run_sizeOf hs, Result.andThen_ok, Sem.run_pure, ih h.2]
    simp [hs]

theorem s_bld_struct (hf : Fr fb V g w B e tmps) (hi : Inv CR base g σ w) {t : TypeId} {fs : Array Field} {z : List D} {ps : Array (Nat × Operand)} {parts : List (Nat × Nat × Opd)}
    (ht : P.underlying t = some (.struct fs)) (hz : zeroC P t = some z) (hall : fs.toList.all (fun f => (sizeC P f.type).isSome) = true) (hp : partsC (fieldsC P fs) ps.toList = some parts)
    (h : sop e σ (.bld z parts) = some (d, σ')) (o : Oper) (ho : o.op = .build t ps) : Does P CR base g w B e (Act.mk tmps df).eval o d σ' := by
  obtain ⟨i, v, hinfo, hzero, hrz, h1⟩ := zeroC_rel g hz
  simp only [sop, Option.bind_eq_bind, Option.bind_eq_some_iff] at h
  obtain ⟨cs, hcs, h⟩ := h
  cases h
  obtain ⟨vs', e1, e2, e3⟩ := fill_rel (df := df) hf hp hrz h1 hcs
  have hplace : (fun i => (fs.toList.map fun f => (f.offset, (sizeC P f.type).getD 0)).toArray[i]?) = fieldsC P fs := by
    funext i
    simp only [fieldsC, List.getElem?_toArray, List.getElem?_map, Array.getElem?_toList]
    cases hfi : fs[i]? with
    | none => rfl
    | some f =>
      have hm : f ∈ fs.toList := by
        rw [← Array.getElem?_toList] at hfi; exact List.mem_of_getElem? hfi
      obtain ⟨s, hs⟩ := Option.isSome_iff_exists.1 (List.all_eq_true.1 hall f hm)
      simp [hs]
  refine .pure hi (c := .agg vs') ?_ (RelT.of (.agg _ _ e2 e3))
  have hm : (fs.mapM (fun f => (do pure (f.offset, ← sizeOf f.type) : Sem (Nat × Nat)))).run P w = .ok (fs.toList.map fun f => (f.offset, (sizeC P f.type).getD 0)).toArray w := by
    rw [Array.mapM_eq_mapM_toList, Sem.run_map, run_places fs.toList hall]
    simp
  simp only [execOp, ho, Instr.build, Sem.run_bind, run_zeroValue hinfo hzero, run_under ht, Result.andThen_ok, hm]
  rw [hplace]
  simp only [Array.toList_map]
  rw [show (ps.toList.map fun x => match x with | (i, x) => (i, (Act.mk tmps df).eval x)) = ps.toList.map fun p => (p.1, (Act.mk tmps df).eval p.2) from rfl, e1]
  simp

theorem s_bld_array (hf : Fr fb V g w B e tmps) (hi : Inv CR base g σ w) {t el : TypeId} {n wd : Nat} {z : List D} {ps : Array (Nat × Operand)} {parts : List (Nat × Nat × Opd)}
    (ht : P.underlying t = some (.array n el)) (hw : sizeC P el = some wd) (hz : zeroC P t = some z) (hp : partsC (fun i => some (i * wd, wd)) ps.toList = some parts)
    (h : sop e σ (.bld z parts) = some (d, σ')) (o : Oper) (ho : o.op = .build t ps) : Does P CR base g w B e (Act.mk tmps df).eval o d σ' := by
  obtain ⟨i, v, hinfo, hzero, hrz, h1⟩ := zeroC_rel g hz
  simp only [sop, Option.bind_eq_bind, Option.bind_eq_some_iff] at h
  obtain ⟨cs, hcs, h⟩ := h
  cases h
  obtain ⟨vs', e1, e2, e3⟩ := fill_rel (df := df) hf hp hrz h1 hcs
  refine .pure hi (c := .agg vs') ?_ (RelT.of (.agg _ _ e2 e3))
  simp only [execOp, ho, Instr.build, Sem.run_bind, run_zeroValue hinfo hzero, run_under ht, Result.andThen_ok, run_sizeOf hw]
  simp only [Array.toList_map]
  rw [show (ps.toList.map fun x => match x with | (i, x) => (i, (Act.mk tmps df).eval x)) = ps.toList.map fun p => (p.1, (Act.mk tmps df).eval p.2) from rfl, e1]
  simp

/-- The cells of a slice literal, as the model lays them. -/
theorem run_bsl (hf : Fr fb V g w B e tmps) {t el : TypeId} {n wd : Nat} {z : List D} {ps : Array (Nat × Operand)} {parts : List (Nat × Nat × Opd)} {cs : List D}
    (ht : P.underlying t = some (.slice el)) (hw : sizeC P el = some wd) (hz : zeroC P el = some z) (hpos : 0 < wd) (hzl : z.length = wd) (hbig : n * wd ≤ 2 ^ 24)
    (hp : partsC (fun i => some (i * wd, wd)) ps.toList = some parts) (hcs : fillD e parts ((List.range n).flatMap fun _ => z) = some cs) (o : Oper) (ho : o.op = .buildSlice t n ps) :
    ∃ vs : Array Value, (execOp (Act.mk tmps df).eval o).run P w = .ok (.value (.slice (some ⟨w.heap.size, 0, none⟩) n n)) (w.alloc (.cells vs el)) ∧ RelL g cs vs.toList ∧ (∀ x ∈ vs.toList, x.oneCell' = true) := by
  obtain ⟨i, v, hinfo, hzero, hrz, h1⟩ := zeroC_rel g hz
  have hvs : v.cells.size = wd := by have := hrz.length; simp at this; omega
  have hflat := flat_zero v.cells (by omega) n
  obtain ⟨vs', e1, e2, e3⟩ := fill_rel (df := df) hf (vs := ((List.range n).flatMap fun _ => v.cells.toList).toArray) hp (by simpa using hrz.flatMap n) (by
    intro x hx; simp only [List.mem_flatMap] at hx; obtain ⟨_, _, hx⟩ := hx; exact h1 x hx) hcs
  refine ⟨vs', ?_, e2, e3⟩
  have harr : (Array.range (n * wd)).map (fun x => v.cells[x % v.cells.size]!) = ((List.range n).flatMap fun _ => v.cells.toList).toArray := by
    rw [← hflat, hvs]
    apply Array.ext'
    simp
  by_cases hn : n = 0
  · subst hn
    have e1' : Instr.fill (fun i => some (i * wd, wd)) #[] (ps.toList.map fun p => (p.1, (Act.mk tmps df).eval p.2)) = some vs' := by simpa using e1
    simp only [execOp, ho, Instr.buildSlice, Sem.run_bind, run_under ht, Result.andThen_ok, run_sizeOf hw, Sem.run_ite]
    simp only [Nat.zero_mul]
    rw [if_neg (by omega)]
    simp only [Array.toList_map]
    rw [show (ps.toList.map fun x => match x with | (i, x) => (i, (Act.mk tmps df).eval x)) = ps.toList.map fun p => (p.1, (Act.mk tmps df).eval p.2) from rfl]
    simp [e1', newRow, Array.range]
  · have hne : n * wd ≠ 0 := Nat.mul_ne_zero hn (by omega)
    simp only [execOp, ho, Instr.buildSlice, Sem.run_bind, run_under ht, Result.andThen_ok, run_sizeOf hw, Sem.run_ite]
    rw [if_neg (by omega)]
    simp only [hne, if_false, Sem.run_bind, run_zeroValue hinfo hzero, Result.andThen_ok, Sem.run_pure, harr]
    simp only [Array.toList_map]
    rw [show (ps.toList.map fun x => match x with | (i, x) => (i, (Act.mk tmps df).eval x)) = ps.toList.map fun p => (p.1, (Act.mk tmps df).eval p.2) from rfl, e1]
    simp [newRow]

theorem s_bsi (hf : Fr fb V g w B e tmps) (hi : Inv CR base g σ w) {t el : TypeId} {n wd : Nat} {z : List D} {ps : Array (Nat × Operand)} {parts : List (Nat × Nat × Opd)}
    (ht : P.underlying t = some (.slice el)) (hw : sizeC P el = some wd) (hz : zeroC P el = some z) (hpos : 0 < wd) (hzl : z.length = wd) (hbig : n * wd ≤ 2 ^ 24)
    (hp : partsC (fun i => some (i * wd, wd)) ps.toList = some parts) (h : sop e σ (.bsi n wd ((List.range n).flatMap fun _ => z) parts) = some (d, σ')) (o : Oper) (ho : o.op = .buildSlice t n ps) :
    Does P CR base g w B e (Act.mk tmps df).eval o d σ' := by
  simp only [sop, Option.bind_eq_bind, Option.bind_eq_some_iff] at h
  obtain ⟨cs, hcs, h⟩ := h
  cases h
  obtain ⟨vs, hrun, hr, h1⟩ := run_bsl (P := P) (w := w) (df := df) hf ht hw hz hpos hzl hbig hp hcs o ho
  obtain ⟨i1, i2, i3⟩ := hi.newImm vs.toList vs el (fun j y hy => ⟨by simpa using hy, h1 y (List.mem_of_getElem? hy)⟩)
  exact .val _ hrun i2 i1 (.lst _ _ _ _ _ (Nat.le_refl _) i3 (fun _ => rfl) (hr.mono i2.le))

theorem s_bsm (hf : Fr fb V g w B e tmps) (hi : Inv CR base g σ w) {t el : TypeId} {n wd : Nat} {z : List D} {ps : Array (Nat × Operand)} {parts : List (Nat × Nat × Opd)}
    (ht : P.underlying t = some (.slice el)) (hw : sizeC P el = some wd) (hz : zeroC P el = some z) (hpos : 0 < wd) (hzl : z.length = wd) (hbig : n * wd ≤ 2 ^ 24)
    (hp : partsC (fun i => some (i * wd, wd)) ps.toList = some parts) (h : sop e σ (.bsm n wd ((List.range n).flatMap fun _ => z) parts) = some (d, σ')) (o : Oper) (ho : o.op = .buildSlice t n ps) :
    Does P CR base g w B e (Act.mk tmps df).eval o d σ' := by
  simp only [sop, Option.bind_eq_bind, Option.bind_eq_some_iff] at h
  obtain ⟨cs, hcs, ⟨l, i, σ1⟩, hn, h⟩ := h
  cases h
  obtain ⟨vs, hrun, hr, h1⟩ := run_bsl (P := P) (w := w) (df := df) hf ht hw hz hpos hzl hbig hp hcs o ho
  obtain ⟨i1, i2⟩ := hi.newCells hn vs.toList vs el hr (by simp) (fun j y hy => ⟨by simpa using hy, h1 y (List.mem_of_getElem? hy)⟩)
  refine .val _ hrun i2 i1 (.sl l i 0 0 n wd _ _ _ G.setLoc_same (Nat.le_refl _) (Nat.le_refl _) (fun hh => by cases hh) (fun x hx _ => by cases hx; rfl) ?_ (fun hh => by cases hh))
  intro blk bo sz hL
  cases hL
  refine .inl ⟨rfl, ?_⟩
  have hlen : cs.length = vs.size := by have := hr.length; simpa using this
  have hl2 : ∀ {parts : List (Nat × Nat × Opd)} {a b : List D}, fillD e parts a = some b → b.length = a.length := by
    intro parts
    induction parts with
    | nil => intro a b hb; simp only [fillD, Option.some.injEq] at hb; rw [hb]
    | cons q r ih =>
      intro a b hb
      obtain ⟨o1, s1, x1⟩ := q
      simp only [fillD] at hb
      split at hb
      · rename_i p _
        split at hb
        · rename_i hc
          have := ih hb
          simp at this; omega
        · cases hb
      · cases hb
  have := hl2 hcs
  have h3 : ((List.range n).flatMap fun _ => z).length = n * wd := by
    rw [len_flat, hzl]
  omega

theorem s_mks (hf : Fr fb V g w B e tmps) (hi : Inv CR base g σ w) {x y : Operand} {X Y : Opd} {t el : TypeId} {wd bytes : Nat} {z : List D} (hx : opdC x = some X) (hy : opdC y = some Y)
    (ht : P.underlying t = some (.slice el)) (hw : sizeC P el = some wd) (hb : (P.info? el).map (·.bytes) = some bytes) (hz : zeroC P el = some z) (hpos : 0 < wd) (hbpos : 0 < bytes)
    (h : sop e σ (.mks wd bytes z X Y) = some (d, σ')) (o : Oper) (ho : o.op = .makeSlice t x y) : Does P CR base g w B e (Act.mk tmps df).eval o d σ' := by
  have hr := hf.opd (df := df) hx
  have hr' := hf.opd (df := df) hy
  obtain ⟨i0, v, hinfo, hzero, hrz, h1⟩ := zeroC_rel g hz
  simp only [sop] at h
  split at h
  case h_2 => cases h
  rename_i n m hX hY
  split at h
  case isFalse => cases h
  rename_i hc
  obtain ⟨hn0, rfl, hroom, hzl⟩ := hc
  rw [hX] at hr; rw [hY] at hr'
  have e1 := hr.int_inv
  have e2 := hr'.int_inv
  simp only [Option.bind_eq_bind, Option.bind_eq_some_iff] at h
  obtain ⟨⟨l, i, σ1⟩, hn, h⟩ := h
  cases h
  have hvs : v.cells.size = wd := by have := hrz.length; simp at this; omega
  have hbytes : i0.bytes = bytes := by rw [hinfo] at hb; simpa using hb
  have hn63 : n < 2 ^ 63 := by
    have h1 : n * 1 ≤ n * bytes := Int.mul_le_mul_of_nonneg_left (by omega) hn0
    simp only [room] at hroom
    omega
  have hwrap : IntKind.i64.wrap n = n := by
    simp only [IntKind.wrap, IntKind.bits, IntKind.signed]
    have : n % 2 ^ 64 = n := Int.emod_eq_of_lt hn0 (by omega)
    simp only [this]
    rw [if_neg (by simp; omega)]
  have hflat := flat_zero v.cells (by omega) n.toNat
  have hrel : RelL g ((List.range n.toNat).flatMap fun _ => z) (((List.range n.toNat).flatMap fun _ => v.cells.toList)) := hrz.flatMap _
  obtain ⟨i1, i2⟩ := hi.newCells hn ((List.range n.toNat).flatMap fun _ => v.cells.toList) ((List.range n.toNat).flatMap fun _ => v.cells.toList).toArray el hrel (by simp) (fun j y hy => ⟨by simpa using hy, by
    have hm := List.mem_of_getElem? hy
    simp only [List.mem_flatMap] at hm; obtain ⟨_, _, hm⟩ := hm; exact h1 y hm⟩)
  have hsz : ((List.range n.toNat).flatMap fun _ => v.cells.toList).toArray.size = n.toNat * wd := by
    rw [List.size_toArray, len_flat]; simp [hvs]
  refine .val (.slice (some ⟨w.heap.size, 0, none⟩) n.toNat n.toNat) ?_ i2 i1 (.sl l i 0 0 _ wd _ _ _ G.setLoc_same (Nat.le_refl _) (Nat.le_refl _) (fun hh => by cases hh) (fun x hx _ => by cases hx; rfl) ?_ (fun hh => by cases hh))
  · have hbn : (bytes : Int) * n ≤ 2 ^ 46 := by rw [Int.mul_comm]; simpa [room] using hroom
    have harr : (Array.range (n.toNat * wd)).map (fun x => v.cells[x % v.cells.size]!) = ((List.range n.toNat).flatMap fun _ => v.cells.toList).toArray := by
      rw [← hflat, hvs]
      apply Array.ext'
      simp
    have htoo : (decide (n < 0) || decide ((bytes : Int) * n > 2 ^ 48)) = false := by simp; omega
    have hcond : ¬ (((decide (n < 0) || decide ((bytes : Int) * n > 2 ^ 48)) = true ∨ n < 0) ∨ n > n) := by rw [htoo]; simp; omega
    simp only [execOp, ho, Instr.makeSlice, Sem.run_bind, run_under ht, Result.andThen_ok, e1, e2, asInt, asIntOf, Sem.run_pure, run_typeInfo hinfo, hwrap, hbytes, Sem.run_ite]
    rw [htoo]
    simp only [Bool.false_eq_true, false_or, Bool.false_or]
    rw [if_neg (by simp; omega)]
    by_cases hz0 : n.toNat = 0
    · have : ((List.range n.toNat).flatMap fun _ => v.cells.toList).toArray = #[] := by rw [hz0]; rfl
      rw [this]
      simp [run_askRoom, run_sizeOf hw, hz0, newRow, Go.Array.range_zero']
    · have hne : n.toNat * wd ≠ 0 := Nat.mul_ne_zero hz0 (by omega)
      simp only [run_askRoom, Result.andThen_ok, run_sizeOf hw, hne, if_false, Sem.run_bind, run_zeroValue hinfo hzero, Sem.run_pure, harr]
      simp [newRow]
  · intro blk bo sz hL
    cases hL
    exact .inl ⟨rfl, by rw [hsz]; simp⟩

end ops
end Go.Abs
