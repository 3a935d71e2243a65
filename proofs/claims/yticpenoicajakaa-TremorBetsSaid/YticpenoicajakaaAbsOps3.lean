/-
  Operations on slices and composites.
-/
import Derived.Test.YticpenoicajakaaAbsOps2
import Derived.Laws.StructEq
set_option linter.unusedVariables false
set_option linter.unusedSimpArgs false
namespace Go.Abs
open Go

section ops
variable {P : Program} {CR : CRel} {base fb : Nat} {V : List Nat} {g : G} {σ σ' : Stack} {w : World} {B : Nat → Nat} {e : Env} {tmps : Array Value} {df : List Deferred}
  {d : D}

theorem s_slc (hf : Fr fb V g w B e tmps) (hi : Inv CR base g σ w) {x : Operand} {X : Opd} {t el : TypeId} {wd : Nat} {lo hi' mx : Option Operand} {Lo Hi Mx : Option Opd} (hx : opdC x = some X)
    (ht : P.underlying t = some (.slice el)) (hw : sizeC P el = some wd) (hlo : optC lo = some Lo) (hhi : optC hi' = some Hi) (hmx : optC mx = some Mx)
    (h : sop e σ (.slc wd X Lo Hi Mx) = some (d, σ')) (o : Oper) (ho : o.op = .slice t x lo hi' mx) : Does P CR base g w B e (Act.mk tmps df).eval o d σ' := by
  have hr := hf.opd (df := df) hx
  have hrun : ∀ (a : Option Addr) (n cap l h m : Nat), (Act.mk tmps df).eval x = .slice a n cap →
      (Instr.sliceBounds true n cap (lo.map (Act.mk tmps df).eval) (hi'.map (Act.mk tmps df).eval) (mx.map (Act.mk tmps df).eval)).run P w = .ok (l, h, m) w →
      (execOp (Act.mk tmps df).eval o).run P w = .ok (.value (.slice (if m = l then a else a.map (·.add (l * wd))) (h - l) (m - l))) w := by
    intro a n cap l h m he hb
    simp [execOp, ho, Instr.sliceAt, run_under ht, Instr.slice, he, hb, run_sizeOf hw]
  simp only [sop] at h
  split at h
  · rename_i n cs hX
    simp only [Option.map_eq_some_iff, Prod.mk.injEq] at h
    obtain ⟨⟨l, h'⟩, hb, rfl, rfl⟩ := h
    rw [hX] at hr
    generalize hcv : (Act.mk tmps df).eval x = cv at hr
    cases hr with
    | lstn =>
      obtain ⟨m, h1, h2, h3, h4, h5⟩ := run_bounds (P := P) (w := w) (df := df) (isSlice := true) hf hlo hhi hmx (Nat.le_refl 0) hb
      refine .pure hi (hrun _ _ _ _ _ _ hcv h1) (RelT.of ?_)
      obtain rfl : h' = 0 := by omega
      obtain rfl : l = 0 := by omega
      obtain rfl : m = 0 := by omega
      simpa using RelV.lstn (g := g)
    | lst _ _ a cap vs hn h2 h3 h4 =>
      obtain ⟨m, h1, h2', h3', h4', h5'⟩ := run_bounds (P := P) (w := w) (df := df) (isSlice := true) hf hlo hhi hmx hn hb
      refine .pure hi (hrun _ _ _ _ _ _ hcv h1) (RelT.of ?_)
      by_cases hml : m = l
      · rw [if_pos hml]
        obtain rfl : h' = l := by omega
        simp only [Nat.sub_self]
        refine .lst _ _ a _ [] (by omega) (fun _ _ hh => by simp at hh) (by simp) (by simpa using RelL.nil)
      · rw [if_neg hml]
        simp only [Option.map_some]
        by_cases hl : l * wd = 0
        · rw [hl]
          have : a.add 0 = a := by simp [Addr.add]
          rw [this]
          refine .lst _ _ a _ (vs.take ((h' - l) * wd)) (by omega) (row_take h2 _) (fun hne => h3 (by omega)) ?_
          simpa using h4.take _
        · have ha : a.add (l * wd) = ⟨a.block, a.off + l * wd, none⟩ := by
            unfold Addr.add; rw [if_neg hl]
          rw [ha]
          exact .lst _ _ _ _ ((vs.drop (l * wd)).take ((h' - l) * wd)) (by omega) (row_take (row_drop h2 _) _) (fun _ => rfl) ((h4.drop _).take _)
  · rename_i l0 i0 v off n w' hX
    split at h
    case isFalse => cases h
    rename_i hw'; subst hw'
    simp only [Option.map_eq_some_iff, Prod.mk.injEq] at h
    obtain ⟨⟨l, h'⟩, hb, rfl, rfl⟩ := h
    rw [hX] at hr
    generalize hcv : (Act.mk tmps df).eval x = cv at hr
    cases hr with
    | sl _ _ _ _ _ _ a cap L k1 k2 hn k4 k5 k6 k7 =>
      obtain ⟨m, h1, h2', h3', h4', h5'⟩ := run_bounds (P := P) (w := w) (df := df) (isSlice := true) hf hlo hhi hmx hn hb
      refine .pure hi (hrun _ _ _ _ _ _ hcv h1) (RelT.of ?_)
      by_cases hml : m = l
      · rw [if_pos hml]
        refine .sl _ _ _ _ _ _ a _ L k1 k2 (by omega) (fun _ => by omega) (fun x hx hne => k5 x hx (by omega)) (fun _ _ _ _ => .inr (by omega)) k7
      · rw [if_neg hml]
        refine .sl _ _ _ _ _ _ _ _ L k1 k2 (by omega) ?_ ?_ ?_ ?_
        · intro ha
          have : a = none := by cases a <;> simp_all
          have := k4 this; omega
        · intro y hy hne
          cases a with
          | none => cases hy
          | some a =>
            simp only [Option.map_some, Option.some.injEq] at hy; subst hy
            unfold Addr.add; split
            · exact k5 a rfl (by omega)
            · rfl
        · intro blk bo sz hL
          rcases k6 blk bo sz hL with ⟨rfl, k8⟩ | k8
          · left
            refine ⟨by simp [add_eq, Nat.add_assoc], ?_⟩
            have : (m - l) * w' + l * w' = m * w' := by rw [← Nat.add_mul]; congr 1; omega
            have : m * w' ≤ cap * w' := Nat.mul_le_mul_right _ h5'
            dsimp only; omega
          · omega
        · intro hL; rw [k7 hL]; rfl
  · rename_i hX
    simp only [Option.map_eq_some_iff, Prod.mk.injEq] at h
    obtain ⟨⟨l, h'⟩, hb, rfl, rfl⟩ := h
    rw [hX] at hr
    generalize hcv : (Act.mk tmps df).eval x = cv at hr
    cases hr
    obtain ⟨m, h1, h2, h3, h4, h5⟩ := run_bounds (P := P) (w := w) (df := df) (isSlice := true) hf hlo hhi hmx (Nat.le_refl 0) hb
    refine .pure hi (hrun _ _ _ _ _ _ hcv h1) (RelT.of ?_)
    obtain rfl : h' = 0 := by omega
    obtain rfl : l = 0 := by omega
    obtain rfl : m = 0 := by omega
    exact RelV.nils
  · cases h

theorem s_slca (hf : Fr fb V g w B e tmps) (hi : Inv CR base g σ w) {x : Operand} {X : Opd} {t el : TypeId} {n wd : Nat} {lo hi' : Option Operand} {Lo Hi : Option Opd} (hx : opdC x = some X)
    (ht : P.underlying t = some (.array n el)) (hw : sizeC P el = some wd) (hlo : optC lo = some Lo) (hhi : optC hi' = some Hi)
    (h : sop e σ (.slca n wd X Lo Hi) = some (d, σ')) (o : Oper) (ho : o.op = .slice t x lo hi' none) : Does P CR base g w B e (Act.mk tmps df).eval o d σ' := by
  have hr := hf.opd (df := df) hx
  have hrun : ∀ (b o' l h m : Nat), (Act.mk tmps df).eval x = .pointer (some ⟨b, o', none⟩) →
      (Instr.sliceBounds false n n (lo.map (Act.mk tmps df).eval) (hi'.map (Act.mk tmps df).eval) ((none : Option Operand).map (Act.mk tmps df).eval)).run P w = .ok (l, h, m) w →
      (execOp (Act.mk tmps df).eval o).run P w = .ok (.value (.slice (some (if m = l then ⟨b, o', none⟩ else ⟨b, o' + l * wd, none⟩)) (h - l) (m - l))) w := by
    intro b o' l h m he hb
    simp only [Option.map_none] at hb
    simp [execOp, ho, Instr.sliceAt, run_under ht, he, Instr.sureAddr, hb, run_sizeOf hw, add_eq]
  simp only [sop] at h
  split at h
  · rename_i cs hX
    simp only [Option.map_eq_some_iff, Prod.mk.injEq] at h
    obtain ⟨⟨l, h'⟩, hb, rfl, rfl⟩ := h
    rw [hX] at hr
    generalize hcv : (Act.mk tmps df).eval x = cv at hr
    cases hr with
    | cref _ b o' vs k1 k2 =>
      obtain ⟨m, h1, h2', h3', h4', h5'⟩ := run_bounds (P := P) (w := w) (df := df) (isSlice := false) hf hlo hhi (mx := none) rfl (Nat.le_refl n) hb
      refine .pure hi (hrun _ _ _ _ _ hcv h1) (RelT.of ?_)
      by_cases hml : m = l
      · rw [if_pos hml]
        obtain rfl : h' = l := by omega
        simp only [Nat.sub_self]
        exact .lst _ _ _ _ [] (by omega) (fun _ _ hh => by simp at hh) (fun _ => rfl) (by simpa using RelL.nil)
      · rw [if_neg hml]
        exact .lst _ _ _ _ ((vs.drop (l * wd)).take ((h' - l) * wd)) (by omega) (row_take (row_drop k1 _) _) (fun _ => rfl) ((k2.drop _).take _)
  · rename_i l0 i0 v off hX
    split at h
    case h_2 => cases h
    rename_i cs hcs
    split at h
    case isFalse => cases h
    rename_i hlen
    simp only [Option.map_eq_some_iff, Prod.mk.injEq] at h
    obtain ⟨⟨l, h'⟩, hb, rfl, rfl⟩ := h
    rw [hX] at hr
    generalize hcv : (Act.mk tmps df).eval x = cv at hr
    cases hr with
    | ref _ _ _ _ b o1 L k1 k2 k3 k4 =>
      obtain ⟨m, h1, h2', h3', h4', h5'⟩ := run_bounds (P := P) (w := w) (df := df) (isSlice := false) hf hlo hhi (mx := none) rfl (Nat.le_refl n) hb
      refine .pure hi (hrun _ _ _ _ _ hcv h1) (RelT.of ?_)
      refine .sl _ _ _ _ _ _ _ _ L k1 k2 (by omega) (fun hh => by cases hh) (fun x hx _ => by cases hx; split <;> rfl) ?_ ?_
      · intro blk bo sz hL
        obtain ⟨rfl, rfl⟩ := k3 blk bo sz hL
        by_cases hml : m = l
        · exact .inr (by omega)
        · left
          rw [if_neg hml]
          refine ⟨by simp [Nat.add_assoc], ?_⟩
          subst hL
          -- the block is as long as its cells say
          unfold cells? at hcs
          split at hcs
          case h_2 => cases hcs
          rename_i v' cs' hblk
          split at hcs
          case isFalse => cases hcs
          rename_i hv; subst hv; cases hcs
          obtain ⟨b0, hb0, hrel⟩ := hi.dom _ _ _ k1
          rw [hblk] at hb0; cases hb0
          obtain ⟨_, ca, el', hheap, hsz, hle, _⟩ := hrel
          have : (m - l) * wd + l * wd = m * wd := by rw [← Nat.add_mul]; congr 1; omega
          have : m * wd ≤ n * wd := Nat.mul_le_mul_right _ h5'
          dsimp only; omega
      · intro hL; exact absurd hL k4
  · cases h

end ops
end Go.Abs
