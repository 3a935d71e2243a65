/-
  More operations: arithmetic, fields, indexes, slices, composites.
-/
import Derived.Test.YticpenoicajakaaAbsOps
set_option linter.unusedVariables false
set_option linter.unusedSimpArgs false
namespace Go.Abs
open Go

section ops
variable {P : Program} {CR : CRel} {base fb : Nat} {V : List Nat} {g : G} {σ σ' : Stack} {w : World} {B : Nat → Nat} {e : Env} {tmps : Array Value} {df : List Deferred}
  {d : D}

theorem s_bin (hf : Fr fb V g w B e tmps) (hi : Inv CR base g σ w) {x y : Operand} {X Y : Opd} {t u : TypeId} {b : BinOp} (hx : opdC x = some X) (hy : opdC y = some Y)
    (h : sop e σ (.bin b X Y) = some (d, σ')) (o : Oper) (ho : o.op = .binOp b t x y u) : Does P CR base g w B e (Act.mk tmps df).eval o d σ' := by
  have hr := hf.opd (df := df) hx
  have hr' := hf.opd (df := df) hy
  simp only [sop, Option.map_eq_some_iff] at h
  obtain ⟨d0, hb, h⟩ := h
  cases h
  generalize hX : opd e X = dx at hr hb
  generalize hY : opd e Y = dy at hr' hb
  unfold binD at hb
  split at hb
  · rename_i k a k' c
    have e1 := hr.int_inv
    have e2 := hr'.int_inv
    cases b <;> simp only [] at hb <;> (try split at hb) <;> first
      | (cases hb; done)
      | (rename_i hc; first | (obtain ⟨rfl, hc0⟩ := hc) | (subst hc) | skip
         cases hb
         refine .pure hi ?_ (RelT.of (by constructor))
         simp [execOp, ho, e1, e2, eqGuard, binOp, Op.intArith, Op.intDiv, Op.intBits, Op.intCmp, Op.shift, *] <;> omega)
      | (rename_i hc; first | (obtain ⟨rfl, hc0⟩ := hc) | (subst hc) | skip
         cases hb
         refine .pure hi ?_ (RelT.of (by constructor))
         simp [execOp, ho, e1, e2, eqGuard, binOp, Op.intArith, Op.intDiv, Op.intBits, Op.intCmp, Op.shift, *])
  · cases hb

theorem s_fadr (hf : Fr fb V g w B e tmps) (hi : Inv CR base g σ w) {x : Operand} {X : Opd} {s : TypeId} {fs : Array Field} {i off sz : Nat} (hx : opdC x = some X) (hs : P.underlying s = some (.struct fs))
    (hfc : fieldsC P fs i = some (off, sz)) (hsz : 0 < sz) (h : sop e σ (.fadr off X) = some (d, σ')) (o : Oper) (ho : o.op = .fieldAddr s x i) : Does P CR base g w B e (Act.mk tmps df).eval o d σ' := by
  unfold fieldsC at hfc
  split at hfc
  case h_2 => cases hfc
  rename_i f hfi
  simp only [Option.map_eq_some_iff, Prod.mk.injEq] at hfc
  obtain ⟨sz', hsz', rfl, rfl⟩ := hfc
  have hrun : ∀ (b o' : Nat), (Act.mk tmps df).eval x = .pointer (some ⟨b, o', none⟩) → (execOp (Act.mk tmps df).eval o).run P w = .ok (.value (.pointer (some ⟨b, o' + f.offset, none⟩))) w := by
    intro b o' he
    have : sz' ≠ 0 := by omega
    simp [execOp, ho, Instr.fieldAt, run_under hs, hfi, he, Instr.sureAddr, fieldPlace, run_sizeOf hsz', this, add_eq]
  simp only [sop] at h
  split at h
  case h_2 => cases h
  rename_i n
  cases x with
  | tmp t =>
    simp only [opdC, Option.some.injEq, Opd.t.injEq] at hx
    subst hx
    have hr := hf.rel t
    split at h
    · rename_i cs hg
      cases h
      rw [hg] at hr
      generalize hcv : tmps.getD t Go.undef = cv at hr
      cases hr with
      | cref _ b o' vs h1 h2 =>
        refine .pure hi (hrun b o' hcv) (RelT.of (.cref _ b (o' + f.offset) (vs.drop f.offset) ?_ (h2.drop _)))
        intro j v hj
        rw [List.getElem?_drop] at hj
        have := h1 _ v hj
        rwa [show o' + f.offset + j = o' + (f.offset + j) from by omega]
    · rename_i l j v o' hg
      cases h
      rw [hg] at hr
      generalize hcv : tmps.getD t Go.undef = cv at hr
      cases hr with
      | ref _ _ _ _ b o1 L h1 h2 h3 h4 =>
        refine .pure hi (hrun b o1 hcv) (RelT.of (.ref l j v _ b _ L h1 h2 (fun blk bo sz hL => ?_) h4))
        obtain ⟨rfl, rfl⟩ := h3 blk bo sz hL
        exact ⟨rfl, by omega⟩
    · rename_i s' cs hg
      cases h
      obtain ⟨_, hp, _⟩ := hf.own t s' cs hg
      exact .pure hi (hrun (B t) 0 hp) ⟨s', cs, _, _, hg, Nat.le_refl _, rfl, fun _ => by simp⟩
    · rename_i v s' o' hg
      cases h
      rw [hg] at hr
      obtain ⟨s2, cs, b1, o1, hg2, hle, hp, hv⟩ := hr
      refine .pure hi (hrun b1 o1 hp) ⟨s2, cs, _, _, hg2, hle, rfl, fun hss => ?_⟩
      obtain ⟨rfl, rfl⟩ := hv hss
      exact ⟨rfl, rfl⟩
    · cases h
  | const v => simp only [opdC, Option.map_eq_some_iff] at hx; obtain ⟨_, _, hx⟩ := hx; cases hx
  | global n => cases hx
  | func f => cases hx


theorem row_drop {g : G} {b o : Nat} {vs : List Value} (h : g.row b o vs) (n : Nat) : g.row b (o + n) (vs.drop n) := fun j v e => by
  rw [List.getElem?_drop] at e
  have := h _ v e
  rwa [show o + n + j = o + (n + j) from by omega]

theorem row_take {g : G} {b o : Nat} {vs : List Value} (h : g.row b o vs) (n : Nat) : g.row b o (vs.take n) := fun j v e => by
  rw [List.getElem?_take] at e
  split at e
  · exact h _ v e
  · cases e

theorem s_idxA (hf : Fr fb V g w B e tmps) (hi : Inv CR base g σ w) {x y : Operand} {X Y : Opd} {t el : TypeId} {n wd : Nat} (hx : opdC x = some X) (hy : opdC y = some Y) (ht : P.underlying t = some (.array n el))
    (hw : sizeC P el = some wd) (h : sop e σ (.idxA n wd X Y) = some (d, σ')) (o : Oper) (ho : o.op = .indexAddr t x y) : Does P CR base g w B e (Act.mk tmps df).eval o d σ' := by
  simp only [sop] at h
  split at h
  case h_2 => cases h
  rename_i m iv hiv
  obtain ⟨k, hky⟩ := intD_inv (hf.opd (df := df) hy) hiv
  split at h
  case isFalse => cases h
  rename_i hb
  have hrun : ∀ (b o' : Nat), (Act.mk tmps df).eval x = .pointer (some ⟨b, o', none⟩) → (execOp (Act.mk tmps df).eval o).run P w = .ok (.value (.pointer (some ⟨b, o' + iv.toNat * wd, none⟩))) w := by
    intro b o' he
    simp [execOp, ho, Instr.indexAt, hky, asIntOf, he, Instr.sureAddr, run_under ht, hb, run_sizeOf hw, add_eq]
  cases x with
  | tmp t' =>
    simp only [opdC, Option.some.injEq, Opd.t.injEq] at hx
    subst hx
    have hr := hf.rel t'
    split at h
    · rename_i cs hg
      cases h
      rw [hg] at hr
      generalize hcv : tmps.getD t' Go.undef = cv at hr
      cases hr with
      | cref _ b o' vs h1 h2 => exact .pure hi (hrun b o' hcv) (RelT.of (.cref _ b _ _ (row_take (row_drop h1 _) _) ((h2.drop _).take _)))
    · rename_i l j v o' hg
      cases h
      rw [hg] at hr
      generalize hcv : tmps.getD t' Go.undef = cv at hr
      cases hr with
      | ref _ _ _ _ b o1 L h1 h2 h3 h4 =>
        refine .pure hi (hrun b o1 hcv) (RelT.of (.ref l j v _ b _ L h1 h2 (fun blk bo sz hL => ?_) h4))
        obtain ⟨rfl, rfl⟩ := h3 blk bo sz hL
        exact ⟨rfl, by omega⟩
    · rename_i s' cs hg
      cases h
      obtain ⟨_, hp, _⟩ := hf.own t' s' cs hg
      exact .pure hi (hrun (B t') 0 hp) ⟨s', cs, _, _, hg, Nat.le_refl _, rfl, fun _ => by simp⟩
    · rename_i v s' o' hg
      cases h
      rw [hg] at hr
      obtain ⟨s2, cs, b1, o1, hg2, hle, hp, hv⟩ := hr
      refine .pure hi (hrun b1 o1 hp) ⟨s2, cs, _, _, hg2, hle, rfl, fun hss => ?_⟩
      obtain ⟨rfl, rfl⟩ := hv hss
      exact ⟨rfl, rfl⟩
    · cases h
  | const v => simp only [opdC, Option.map_eq_some_iff] at hx; obtain ⟨_, _, hx⟩ := hx; cases hx
  | global n => cases hx
  | func f => cases hx

theorem s_idxS (hf : Fr fb V g w B e tmps) (hi : Inv CR base g σ w) {x y : Operand} {X Y : Opd} {t el : TypeId} {wd : Nat} (hx : opdC x = some X) (hy : opdC y = some Y) (ht : P.underlying t = some (.slice el))
    (hw : sizeC P el = some wd) (h : sop e σ (.idxS wd X Y) = some (d, σ')) (o : Oper) (ho : o.op = .indexAddr t x y) : Does P CR base g w B e (Act.mk tmps df).eval o d σ' := by
  have hr := hf.opd (df := df) hx
  have hrun : ∀ (a : Addr) (n c : Nat) (iv : Int) (k : IntKind), (Act.mk tmps df).eval y = .int k iv → (Act.mk tmps df).eval x = .slice (some a) n c → a.spot = none → 0 ≤ iv ∧ iv < n →
      (execOp (Act.mk tmps df).eval o).run P w = .ok (.value (.pointer (some ⟨a.block, a.off + iv.toNat * wd, none⟩))) w := by
    intro a n c iv k hy he hs hb
    obtain ⟨b, o', sp⟩ := a
    simp only at hs; subst hs
    simp [execOp, ho, Instr.indexAt, hy, asIntOf, he, run_under ht, hb, run_sizeOf hw, add_eq]
  simp only [sop] at h
  split at h
  · rename_i m cs iv hX hiv
    obtain ⟨k, hky⟩ := intD_inv (hf.opd (df := df) hy) hiv
    split at h
    case isFalse => cases h
    rename_i hb
    cases h
    rw [hX] at hr
    generalize hcv : (Act.mk tmps df).eval x = cv at hr
    cases hr with
    | lstn => omega
    | lst _ _ a cap vs h1 h2 h3 h4 =>
      exact .pure hi (hrun _ _ _ _ _ hky hcv (h3 (by omega)) hb) (RelT.of (.cref _ _ _ _ (row_take (row_drop h2 _) _) ((h4.drop _).take _)))
  · rename_i l j v off m w' iv hX hiv
    obtain ⟨k, hky⟩ := intD_inv (hf.opd (df := df) hy) hiv
    split at h
    case isFalse => cases h
    rename_i hb
    obtain ⟨hb1, hb2, rfl⟩ := hb
    cases h
    rw [hX] at hr
    generalize hcv : (Act.mk tmps df).eval x = cv at hr
    cases hr with
    | sl _ _ _ _ _ _ a cap L h1 h2 h3 h4 h5 h6 h7 =>
      cases a with
      | none => have := h4 rfl; omega
      | some a =>
        have hsp := h5 a rfl (by omega)
        refine .pure hi (hrun _ _ _ _ _ hky hcv hsp ⟨hb1, hb2⟩) (RelT.of (.ref l j v _ _ _ L h1 h2 (fun blk bo sz hL => ?_) (fun hL => by cases h7 hL)))
        rcases h6 blk bo sz hL with ⟨h8, _⟩ | h8
        · cases h8; exact ⟨rfl, by simp only []; omega⟩
        · omega
  · cases h


theorem part_run {t : TypeId} {ag : Bool} {sz : Nat} {cs : Array Value} {off : Nat} (hag : aggC P t = some ag) (hsz : sizeC P t = some sz) {ds : List D} (hr : RelL g ds cs.toList) (h1 : ∀ x ∈ cs.toList, x.oneCell' = true)
    (hlen : off + sz ≤ ds.length) (hd : (if ag then some (.agg ((ds.drop off).take sz)) else ds[off]?) = some d) : ∃ c, (part t cs off).run P w = .ok c w ∧ RelV g d c := by
  cases ag with
  | true =>
    simp only [if_true, Option.some.injEq] at hd; subst hd
    refine ⟨.agg (cs.extract off (off + sz)), by simp [part, run_isAgg hag, run_sizeOf hsz], .agg _ _ ?_ ?_⟩
    · have : (cs.extract off (off + sz)).toList = (cs.toList.drop off).take sz := by simp [List.drop_take]
      rw [this]; exact (hr.drop off).take sz
    · intro x hx
      have : (cs.extract off (off + sz)).toList = (cs.toList.drop off).take sz := by simp [List.drop_take]
      rw [this] at hx
      exact h1 x (List.mem_of_mem_drop (List.mem_of_mem_take hx))
  | false =>
    simp only [Bool.false_eq_true, if_false] at hd
    obtain ⟨c, hc, hrc⟩ := hr.get hd
    have : cs[off]? = some c := by simpa using hc
    exact ⟨c, by simp [part, run_isAgg hag, this], hrc⟩

theorem s_fld (hf : Fr fb V g w B e tmps) (hi : Inv CR base g σ w) {x : Operand} {X : Opd} {s : TypeId} {fs : Array Field} {f : Field} {i : Nat} {ag : Bool} {sz : Nat} (hx : opdC x = some X)
    (hs : P.underlying s = some (.struct fs)) (hfi : fs[i]? = some f) (hag : aggC P f.type = some ag) (hsz : sizeC P f.type = some sz)
    (h : sop e σ (.fld ag f.offset sz X) = some (d, σ')) (o : Oper) (ho : o.op = .field s x i) : Does P CR base g w B e (Act.mk tmps df).eval o d σ' := by
  have hr := hf.opd (df := df) hx
  simp only [sop] at h
  split at h
  · rename_i cs hX
    rw [hX] at hr
    generalize hcv : (Act.mk tmps df).eval x = cv at hr
    cases hr with
    | agg _ ca hrl h1 =>
      split at h
      case isFalse => cases h
      rename_i hlen
      have h2 : (if ag then some (.agg ((cs.drop f.offset).take sz)) else cs[f.offset]?) = some d ∧ σ = σ' := by
        cases ag with
        | true => simp_all
        | false =>
          simp only [Bool.false_eq_true, if_false, Option.map_eq_some_iff, Prod.mk.injEq] at h
          obtain ⟨a, h3, rfl, rfl⟩ := h
          exact ⟨h3, rfl⟩
      obtain ⟨h2, rfl⟩ := h2
      obtain ⟨c, hrun, hrc⟩ := part_run (P := P) (w := w) hag hsz hrl h1 hlen h2
      exact .pure hi (c := c) (by simp [execOp, ho, Instr.field, run_under hs, hfi, hcv, asAgg, hrun]) (RelT.of hrc)
  · cases h

theorem s_idxV (hf : Fr fb V g w B e tmps) (hi : Inv CR base g σ w) {x y : Operand} {X Y : Opd} {t el : TypeId} {n wd : Nat} {ag : Bool} (hx : opdC x = some X) (hy : opdC y = some Y)
    (ht : P.underlying t = some (.array n el)) (hag : aggC P el = some ag) (hsz : sizeC P el = some wd)
    (h : sop e σ (.idxV ag n wd X Y) = some (d, σ')) (o : Oper) (ho : o.op = .index t x y) : Does P CR base g w B e (Act.mk tmps df).eval o d σ' := by
  have hr := hf.opd (df := df) hx
  simp only [sop] at h
  split at h
  · rename_i cs iv hX hiv
    obtain ⟨k, hky⟩ := intD_inv (hf.opd (df := df) hy) hiv
    rw [hX] at hr
    generalize hcv : (Act.mk tmps df).eval x = cv at hr
    cases hr with
    | agg _ ca hrl h1 =>
      split at h
      case isFalse => cases h
      rename_i hb
      have h2 : (if ag then some (.agg ((cs.drop (iv.toNat * wd)).take wd)) else cs[iv.toNat * wd]?) = some d ∧ σ = σ' := by
        cases ag with
        | true => simp_all
        | false =>
          simp only [Bool.false_eq_true, if_false, Option.map_eq_some_iff, Prod.mk.injEq] at h
          obtain ⟨a, h3, rfl, rfl⟩ := h
          exact ⟨h3, rfl⟩
      obtain ⟨h2, rfl⟩ := h2
      obtain ⟨c, hrun, hrc⟩ := part_run (P := P) (w := w) hag hsz hrl h1 (by have := hb.2.2; rw [Nat.add_mul] at this; omega) h2
      exact .pure hi (c := c) (by simp [execOp, ho, Instr.index, run_under ht, hky, asIntOf, hcv, hb.1, hb.2.1, run_sizeOf hsz, hrun]) (RelT.of hrc)
  · cases h

theorem s_lenC (hi : Inv CR base g σ w) {n : Nat} {args : Array Operand} {ts : Array TypeId} {x : Operand} {r : List Operand} {t : TypeId} {tr : List TypeId} {ρ : Operand → Value}
    (ht : (∃ el, P.underlying t = some (.array n el)) ∨ ∃ u el, P.underlying t = some (.pointer u) ∧ P.underlying u = some (.array n el)) (ha : args.toList = x :: r) (hts : ts.toList = t :: tr)
    (h : sop e σ (.lenC n) = some (d, σ')) (o : Oper) (ho : o.op = .call { callee := .builtin .len, args, argTypes := ts }) : Does P CR base g w B e ρ o d σ' := by
  simp only [sop] at h
  cases h
  obtain rfl : args = (x :: r).toArray := by rw [← ha]
  obtain rfl : ts = (t :: tr).toArray := by rw [← hts]
  refine .pure hi (c := .int .i64 n) ?_ (RelT.of (.int _ _))
  rcases ht with ⟨el, ht⟩ | ⟨u, el, ht, hu⟩
  · simp [execOp, ho, resolve, invoke, builtin, Builtin.len_, run_under ht, goInt]
  · simp [execOp, ho, resolve, invoke, builtin, Builtin.len_, run_under ht, run_under hu, goInt]

theorem s_mn (hf : Fr fb V g w B e tmps) (hi : Inv CR base g σ w) {x y : Operand} {X Y : Opd} {args : Array Operand} {ts : Array TypeId} (hx : opdC x = some X) (hy : opdC y = some Y) (ha : args.toList = [x, y])
    (h : sop e σ (.mn X Y) = some (d, σ')) (o : Oper) (ho : o.op = .call { callee := .builtin .min, args, argTypes := ts }) : Does P CR base g w B e (Act.mk tmps df).eval o d σ' := by
  have hr := hf.opd (df := df) hx
  have hr' := hf.opd (df := df) hy
  obtain rfl : args = #[x, y] := by rw [← Array.toList_inj, ha]
  simp only [sop] at h
  split at h
  · rename_i k a k' b hX hY
    cases h
    rw [hX] at hr; rw [hY] at hr'
    have e1 := hr.int_inv
    have e2 := hr'.int_inv
    refine .pure hi (c := .int k (min a b)) ?_ (RelT.of (.int _ _))
    simp [execOp, ho, resolve, invoke, builtin, Builtin.min_, Builtin.min2, e1, e2]
    omega
  · cases h

theorem s_mx (hf : Fr fb V g w B e tmps) (hi : Inv CR base g σ w) {x y : Operand} {X Y : Opd} {args : Array Operand} {ts : Array TypeId} (hx : opdC x = some X) (hy : opdC y = some Y) (ha : args.toList = [x, y])
    (h : sop e σ (.mx X Y) = some (d, σ')) (o : Oper) (ho : o.op = .call { callee := .builtin .max, args, argTypes := ts }) : Does P CR base g w B e (Act.mk tmps df).eval o d σ' := by
  have hr := hf.opd (df := df) hx
  have hr' := hf.opd (df := df) hy
  obtain rfl : args = #[x, y] := by rw [← Array.toList_inj, ha]
  simp only [sop] at h
  split at h
  · rename_i k a k' b hX hY
    cases h
    rw [hX] at hr; rw [hY] at hr'
    have e1 := hr.int_inv
    have e2 := hr'.int_inv
    refine .pure hi (c := .int k (max a b)) ?_ (RelT.of (.int _ _))
    simp [execOp, ho, resolve, invoke, builtin, Builtin.max_, Builtin.max2, e1, e2]
    omega
  · cases h

theorem run_sliceBound {n : Nat} {iv : Int} {k : IntKind} {code : BoundsCode} (h : 0 ≤ iv ∧ iv ≤ n) : (Instr.sliceBound (.int k iv) n code).run P w = .ok iv.toNat w := by
  simp [Instr.sliceBound, asIntOf, h]

/-- The bounds of a slice expression: the model's, of a length at most its capacity. -/
theorem run_bounds {isSlice : Bool} (hf : Fr fb V g w B e tmps) {lo hi mx : Option Operand} {Lo Hi Mx : Option Opd} (hlo : optC lo = some Lo) (hhi : optC hi = some Hi) (hmx : optC mx = some Mx) {n cap l h : Nat} (hn : n ≤ cap)
    (hb : bounds n e Lo Hi Mx = some (l, h)) :
    ∃ m, (Instr.sliceBounds isSlice n cap (lo.map (Act.mk tmps df).eval) (hi.map (Act.mk tmps df).eval) (mx.map (Act.mk tmps df).eval)).run P w = .ok (l, h, m) w ∧ l ≤ h ∧ h ≤ n ∧ h ≤ m ∧ m ≤ cap := by
  have hopt : ∀ {x : Option Operand} {X : Option Opd}, optC x = some X → (x = none ∧ X = none) ∨ ∃ y Y, x = some y ∧ X = some Y ∧ opdC y = some Y := by
    intro x X hx
    cases x with
    | none => simp [optC] at hx; exact .inl ⟨rfl, hx.symm⟩
    | some y => simp only [optC, Option.map_eq_some_iff] at hx; obtain ⟨Y, h1, rfl⟩ := hx; exact .inr ⟨y, Y, rfl, rfl, h1⟩
  simp only [bounds, Option.bind_eq_some_iff, Option.map_eq_some_iff] at hb
  obtain ⟨m, hm, h', hh, l', hl, hb⟩ := hb
  cases hb
  have hbnd : ∀ {x : Option Operand} {X : Option Opd} {m : Nat} {dfl : Option Nat} {r : Nat}, optC x = some X → bnd e m dfl X = some r →
      (x = none ∧ X = none ∧ dfl = some r) ∨ ∃ (y : Operand) (k : IntKind) (iv : Int), x = some y ∧ X.isSome = true ∧ (Act.mk tmps df).eval y = .int k iv ∧ 0 ≤ iv ∧ iv ≤ m ∧ r = iv.toNat := by
    intro x X m dfl r hx hb
    rcases hopt hx with ⟨rfl, rfl⟩ | ⟨y, Y, rfl, rfl, hy⟩
    · exact .inl ⟨rfl, rfl, hb⟩
    · simp only [bnd] at hb
      split at hb
      · rename_i iv hiv
        obtain ⟨k, hk⟩ := intD_inv (hf.opd (df := df) hy) hiv
        split at hb
        · rename_i hc; cases hb; exact .inr ⟨y, k, iv, rfl, rfl, hk, hc.1, hc.2, rfl⟩
        · cases hb
      · cases hb
  -- the three bounds
  have h3 : (mx = none ∧ Mx = none ∧ m = n) ∨ ∃ (y : Operand) (k : IntKind) (iv : Int), mx = some y ∧ Mx.isSome = true ∧ (Act.mk tmps df).eval y = .int k iv ∧ 0 ≤ iv ∧ iv ≤ n ∧ m = iv.toNat := by
    rcases hbnd hmx hm with ⟨a1, a2, a3⟩ | a
    · cases a3; exact .inl ⟨a1, a2, rfl⟩
    · exact .inr a
  have h2 : (hi = none ∧ Mx.isSome = false ∧ h = n) ∨ ∃ (y : Operand) (k : IntKind) (iv : Int), hi = some y ∧ (Act.mk tmps df).eval y = .int k iv ∧ 0 ≤ iv ∧ iv ≤ m ∧ h = iv.toNat := by
    rcases hbnd hhi hh with ⟨a1, a2, a3⟩ | ⟨y, k, iv, a1, _, a2⟩
    · split at a3
      · cases a3
      · rename_i hc; cases a3; exact .inl ⟨a1, by simpa using hc, rfl⟩
    · exact .inr ⟨y, k, iv, a1, a2⟩
  have h1 : (lo = none ∧ l = 0) ∨ ∃ (y : Operand) (k : IntKind) (iv : Int), lo = some y ∧ (Act.mk tmps df).eval y = .int k iv ∧ 0 ≤ iv ∧ iv ≤ h ∧ l = iv.toNat := by
    rcases hbnd hlo hl with ⟨a1, a2, a3⟩ | ⟨y, k, iv, a1, _, a2⟩
    · cases a3; exact .inl ⟨a1, rfl⟩
    · exact .inr ⟨y, k, iv, a1, a2⟩
  rcases h3 with ⟨rfl, rfl, rfl⟩ | ⟨y3, k3, i3, rfl, hs3, e3, a3, b3, rfl⟩
  · refine ⟨cap, ?_, ?_, ?_, ?_, Nat.le_refl _⟩
    · rcases h2 with ⟨rfl, _, rfl⟩ | ⟨y2, k2, i2, rfl, e2, a2, b2, rfl⟩ <;> rcases h1 with ⟨rfl, rfl⟩ | ⟨y1, k1, i1, rfl, e1, a1, b1, rfl⟩
      · simp [Instr.sliceBounds]
      · simp [Instr.sliceBounds, e1, run_sliceBound (P := P) (w := w) (n := h) (k := k1) (iv := i1) ⟨a1, b1⟩]
      · simp [Instr.sliceBounds, e2, run_sliceBound (P := P) (w := w) (n := cap) (k := k2) (iv := i2) ⟨a2, by omega⟩]
      · simp [Instr.sliceBounds, e1, e2, run_sliceBound (P := P) (w := w) (n := cap) (k := k2) (iv := i2) ⟨a2, by omega⟩, run_sliceBound (P := P) (w := w) (n := i2.toNat) (k := k1) (iv := i1) ⟨a1, b1⟩]
    · rcases h1 with ⟨_, rfl⟩ | ⟨y1, k1, i1, _, e1, a1, b1, rfl⟩ <;> omega
    · rcases h2 with ⟨_, _, rfl⟩ | ⟨y2, k2, i2, _, e2, a2, b2, rfl⟩ <;> omega
    · rcases h2 with ⟨_, _, rfl⟩ | ⟨y2, k2, i2, _, e2, a2, b2, rfl⟩ <;> omega
  · rcases h2 with ⟨_, h2, _⟩ | ⟨y2, k2, i2, rfl, e2, a2, b2, rfl⟩
    · rw [hs3] at h2; cases h2
    · refine ⟨i3.toNat, ?_, ?_, by omega, by omega, by omega⟩
      · rcases h1 with ⟨rfl, rfl⟩ | ⟨y1, k1, i1, rfl, e1, a1, b1, rfl⟩
        · simp [Instr.sliceBounds, e2, e3, run_sliceBound (P := P) (w := w) (n := cap) (k := k3) (iv := i3) ⟨a3, by omega⟩, run_sliceBound (P := P) (w := w) (n := i3.toNat) (k := k2) (iv := i2) ⟨a2, b2⟩]
        · simp [Instr.sliceBounds, e1, e2, e3, run_sliceBound (P := P) (w := w) (n := cap) (k := k3) (iv := i3) ⟨a3, by omega⟩, run_sliceBound (P := P) (w := w) (n := i3.toNat) (k := k2) (iv := i2) ⟨a2, b2⟩,
            run_sliceBound (P := P) (w := w) (n := i2.toNat) (k := k1) (iv := i1) ⟨a1, b1⟩]
      · rcases h1 with ⟨_, rfl⟩ | ⟨y1, k1, i1, _, e1, a1, b1, rfl⟩ <;> omega

end ops
end Go.Abs
