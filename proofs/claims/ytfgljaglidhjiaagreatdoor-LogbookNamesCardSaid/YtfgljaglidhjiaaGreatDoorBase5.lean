/-
  Operations on texts.
-/
import Derived.Test.YtfgljaglidhjiaaGreatDoorBase4
import Derived.Laws.Strings2
import Derived.Laws.Slices
import Derived.Laws.Concat
set_option linter.unusedVariables false
set_option linter.unusedSimpArgs false
namespace Go.Abs
open Go

section
variable {P : Program} {CR : CRel} {base fb : Nat} {V : List Nat} {g : G} {σ σ' : Stack} {w : World} {B : Nat → Nat} {e : Env} {tmps : Array Value} {df : List Deferred}
  {a : Ann} {ops : Array Oper} {key : Nat} {k : K} {d : D}

theorem RelV.str_inv {s : List UInt8} {c : Value} (h : RelV g (.str s) c) : ∃ b : ByteArray, c = .string b ∧ b.data.toList = s := by
  generalize hd : D.str s = d at h
  cases h <;> cases hd
  exact ⟨_, rfl, rfl⟩
theorem str_rel (b : ByteArray) {s : List UInt8} (h : b.data.toList = s) : RelV g (.str s) (.string b) := by subst h; exact .str b
theorem ba_size (b : ByteArray) : b.data.toList.length = b.size := by cases b; rfl

theorem s_slen (hf : Fr fb V g w B e tmps) (hi : Inv CR base g σ w) {x : Operand} {X : Opd} {t : TypeId} {args : Array Operand} {ts : Array TypeId} {r : List Operand} {tr : List TypeId} (hx : opdC x = some X)
    (ht : P.underlying t = some .string) (ha : args.toList = x :: r) (hts : ts.toList = t :: tr)
    (h : sop e σ (.pur .slen [X]) = some (d, σ')) (o : Oper) (ho : o.op = .call { callee := .builtin .len, args, argTypes := ts }) : Does P CR base g w B e (Act.mk tmps df).eval o d σ' := by
  have hr := hf.opd (df := df) hx
  obtain rfl : args = (x :: r).toArray := by rw [← ha]
  obtain rfl : ts = (t :: tr).toArray := by rw [← hts]
  simp only [sop, Option.map_eq_some_iff, List.map_cons, List.map_nil] at h
  obtain ⟨d0, hp, h⟩ := h
  cases h
  generalize opd e X = dx at hr hp
  cases dx <;> simp only [puD, reduceCtorEq, Option.some.injEq] at hp
  subst hp
  obtain ⟨b, hb, rfl⟩ := hr.str_inv
  refine .pure hi (c := .int .i64 b.size) (by simp [execOp, ho, resolve, invoke, builtin, Builtin.len_, hb, run_under ht, goInt]) ?_
  rw [ba_size]
  exact RelT.of (.int _ _)

theorem s_sidx (hf : Fr fb V g w B e tmps) (hi : Inv CR base g σ w) {x y : Operand} {X Y : Opd} {t : TypeId} (hx : opdC x = some X) (hy : opdC y = some Y)
    (ht : P.underlying t = some .string)
    (h : sop e σ (.pur .sidx [X, Y]) = some (d, σ')) (o : Oper) (ho : o.op = .index t x y) : Does P CR base g w B e (Act.mk tmps df).eval o d σ' := by
  have hr := hf.opd (df := df) hx
  have hr' := hf.opd (df := df) hy
  simp only [sop, Option.map_eq_some_iff, List.map_cons, List.map_nil] at h
  obtain ⟨d0, hp, h⟩ := h
  cases h
  generalize opd e X = dx at hr hp
  generalize opd e Y = dy at hr' hp
  cases dx <;> cases dy <;> simp only [puD, reduceCtorEq, Option.ite_none_right_eq_some, Option.map_eq_some_iff] at hp
  rename_i s k i
  obtain ⟨h0, u, hu, rfl⟩ := hp
  obtain ⟨b, hb, rfl⟩ := hr.str_inv
  have hi' := hr'.int_inv
  have hlt : i.toNat < b.size := by rw [← ba_size]; exact (List.getElem?_eq_some_iff.1 hu).1
  have hu2 : b[i.toNat]'hlt = u := by
    have := (List.getElem?_eq_some_iff.1 hu).2
    rw [← this]
    cases b
    rfl
  have hin : 0 ≤ i ∧ i < b.size := by omega
  refine .pure hi (c := .int .u8 u.toNat) ?_ (RelT.of (.int _ _))
  have hrun := run_index_string (P := P) w t b k i ht
  rw [dif_pos hin, hu2] at hrun
  simp [execOp, ho, hb, hi', hrun]

theorem s_scat (hf : Fr fb V g w B e tmps) (hi : Inv CR base g σ w) {x y : Operand} {X Y : Opd} {t u : TypeId} (hx : opdC x = some X) (hy : opdC y = some Y)
    (h : sop e σ (.pur .scat [X, Y]) = some (d, σ')) (o : Oper) (ho : o.op = .binOp .add t x y u) : Does P CR base g w B e (Act.mk tmps df).eval o d σ' := by
  have hr := hf.opd (df := df) hx
  have hr' := hf.opd (df := df) hy
  simp only [sop, Option.map_eq_some_iff, List.map_cons, List.map_nil] at h
  obtain ⟨d0, hp, h⟩ := h
  cases h
  generalize opd e X = dx at hr hp
  generalize opd e Y = dy at hr' hp
  cases dx <;> cases dy <;> simp only [puD, reduceCtorEq, Option.ite_none_right_eq_some, Option.some.injEq] at hp
  obtain ⟨h0, rfl⟩ := hp
  obtain ⟨a1, h1, rfl⟩ := hr.str_inv
  obtain ⟨a2, h2, rfl⟩ := hr'.str_inv
  simp only [ba_size] at h0
  refine .pure hi (c := .string (a1 ++ a2)) ?_ (RelT.of (str_rel _ (by simp [ByteArray.data_append])))
  have hrun := run_string_add_sum (P := P) w a1 a2 (by omega)
  simp [execOp, ho, h1, h2, binOp, eqGuard, hrun]

theorem s_seq (hf : Fr fb V g w B e tmps) (hi : Inv CR base g σ w) {x y : Operand} {X Y : Opd} {t u : TypeId} {neg : Bool} (hx : opdC x = some X) (hy : opdC y = some Y)
    (h : sop e σ (.pur (.seq neg) [X, Y]) = some (d, σ')) (o : Oper) (ho : o.op = .binOp (if neg then .neq else .eql) t x y u) : Does P CR base g w B e (Act.mk tmps df).eval o d σ' := by
  have hr := hf.opd (df := df) hx
  have hr' := hf.opd (df := df) hy
  simp only [sop, Option.map_eq_some_iff, List.map_cons, List.map_nil] at h
  obtain ⟨d0, hp, h⟩ := h
  cases h
  generalize opd e X = dx at hr hp
  generalize opd e Y = dy at hr' hp
  cases dx <;> cases dy <;> simp only [puD, reduceCtorEq, Option.some.injEq] at hp
  subst hp
  obtain ⟨a1, h1, rfl⟩ := hr.str_inv
  obtain ⟨a2, h2, rfl⟩ := hr'.str_inv
  cases neg
  · refine .pure hi (c := .bool (a1.data.toList == a2.data.toList)) ?_ (RelT.of (.bool _))
    simp [execOp, ho, h1, h2, eqGuard, binOp_string_eql, binOp_string_neq, ByteArray.toList_eq]
  · refine .pure hi (c := .bool !(a1.data.toList == a2.data.toList)) ?_ (RelT.of (.bool _))
    simp [execOp, ho, h1, h2, eqGuard, binOp_string_eql, binOp_string_neq, ByteArray.toList_eq]

theorem s_ssub (hf : Fr fb V g w B e tmps) (hi : Inv CR base g σ w) {x : Operand} {X : Opd} {t : TypeId} {lo hi' : Option Operand} {Lo Hi : Option Opd} (hx : opdC x = some X)
    (ht : P.underlying t = some .string) (hlo : optC lo = some Lo) (hhi : optC hi' = some Hi)
    (h : sop e σ (.pur (.ssub Lo.isSome Hi.isSome) (X :: (Lo.toList ++ Hi.toList))) = some (d, σ')) (o : Oper) (ho : o.op = .slice t x lo hi' none) : Does P CR base g w B e (Act.mk tmps df).eval o d σ' := by
  have hr := hf.opd (df := df) hx
  have opt : ∀ {z : Option Operand} {Z : Option Opd}, optC z = some Z → (z = none ∧ Z = none) ∨ ∃ q Q, z = some q ∧ Z = some Q ∧ opdC q = some Q := by
    intro z Z hz
    cases z with
    | none => simp only [optC, Option.some.injEq] at hz; exact .inl ⟨rfl, hz.symm⟩
    | some q =>
      simp only [optC, Option.map_eq_some_iff] at hz
      obtain ⟨Q, hQ, rfl⟩ := hz
      exact .inr ⟨q, Q, rfl, rfl, hQ⟩
  simp only [sop, Option.map_eq_some_iff] at h
  obtain ⟨d0, hp, h⟩ := h
  cases h
  have ex : ∀ (b : ByteArray) (i j : Nat), j ≤ b.size → (b.extract i j).data.toList = (b.data.toList.drop i).take (j - i) := fun b i j hj => by
    simp [ByteArray.data_extract]
  rcases opt hlo with ⟨rfl, rfl⟩ | ⟨l, L, rfl, rfl, hl⟩ <;> rcases opt hhi with ⟨rfl, rfl⟩ | ⟨m, M, rfl, rfl, hm⟩
  · simp only [Option.isSome_none, Option.toList_none, List.append_nil, List.map_cons, List.map_nil] at hp
    generalize opd e X = dx at hr hp
    cases dx <;> simp only [puD, reduceCtorEq, Option.some.injEq] at hp
    subst hp
    obtain ⟨b, hb, rfl⟩ := hr.str_inv
    refine .pure hi (c := .string (b.extract 0 b.size)) ?_ (RelT.of (str_rel _ ?_))
    · have hrun := run_slice_string_all (P := P) w t b ht
      simp [execOp, ho, hb, run_sliceAt_string (P := P) (h := ht), hrun]
    · rw [ex b 0 b.size (Nat.le_refl _), List.drop_zero, Nat.sub_zero, ← ba_size, List.take_length]
  · have hrm := hf.opd (df := df) hm
    simp only [Option.isSome_none, Option.isSome_some, Option.toList_none, Option.toList_some, List.nil_append, List.map_cons, List.map_nil] at hp
    generalize opd e X = dx at hr hp
    generalize opd e M = dm at hrm hp
    cases dx <;> cases dm <;> simp only [puD, reduceCtorEq, Option.ite_none_right_eq_some, Option.some.injEq] at hp
    rename_i s k j
    obtain ⟨h0, rfl⟩ := hp
    obtain ⟨b, hb, rfl⟩ := hr.str_inv
    have hj := hrm.int_inv
    rw [ba_size] at h0
    refine .pure hi (c := .string (b.extract 0 j.toNat)) ?_ (RelT.of (str_rel _ ?_))
    · have hrun := run_slice_string_h (P := P) w t b ht k j h0.1 h0.2
      simp [execOp, ho, hb, hj, run_sliceAt_string (P := P) (h := ht), hrun]
    · rw [ex b 0 j.toNat (by omega), List.drop_zero, Nat.sub_zero]
  · have hrl := hf.opd (df := df) hl
    simp only [Option.isSome_none, Option.isSome_some, Option.toList_none, Option.toList_some, List.append_nil, List.map_cons, List.map_nil] at hp
    generalize opd e X = dx at hr hp
    generalize opd e L = dm at hrl hp
    cases dx <;> cases dm <;> simp only [puD, reduceCtorEq, Option.ite_none_right_eq_some, Option.some.injEq] at hp
    rename_i s k j
    obtain ⟨h0, rfl⟩ := hp
    obtain ⟨b, hb, rfl⟩ := hr.str_inv
    have hj := hrl.int_inv
    rw [ba_size] at h0
    refine .pure hi (c := .string (b.extract j.toNat b.size)) ?_ (RelT.of (str_rel _ ?_))
    · have hrun := run_slice_string_l (P := P) w t b ht k j h0.1 h0.2
      simp [execOp, ho, hb, hj, run_sliceAt_string (P := P) (h := ht), hrun]
    · rw [ex b j.toNat b.size (Nat.le_refl _)]
      exact List.take_of_length_le (by rw [List.length_drop, ba_size]; exact Nat.le_refl _)
  · have hrl := hf.opd (df := df) hl
    have hrm := hf.opd (df := df) hm
    simp only [Option.isSome_some, Option.toList_some, List.cons_append, List.nil_append, List.map_cons, List.map_nil] at hp
    generalize opd e X = dx at hr hp
    generalize opd e L = dl at hrl hp
    generalize opd e M = dm at hrm hp
    cases dx <;> cases dl <;> cases dm <;> simp only [puD, reduceCtorEq, Option.ite_none_right_eq_some, Option.some.injEq] at hp
    rename_i s k i k' j
    obtain ⟨h0, rfl⟩ := hp
    obtain ⟨b, hb, rfl⟩ := hr.str_inv
    have hi1 := hrl.int_inv
    have hj := hrm.int_inv
    rw [ba_size] at h0
    refine .pure hi (c := .string (b.extract i.toNat j.toNat)) ?_ (RelT.of (str_rel _ ?_))
    · have hrun := run_slice_string (P := P) w t b k k' i j ht h0.1 h0.2.1 h0.2.2
      simp [execOp, ho, hb, hi1, hj, run_sliceAt_string (P := P) (h := ht), hrun]
    · exact ex b i.toNat j.toNat (by omega)
end
end Go.Abs
