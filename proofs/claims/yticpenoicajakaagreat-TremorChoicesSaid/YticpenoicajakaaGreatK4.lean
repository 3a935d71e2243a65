/-
  Spans of picks; what they have in common; the errors of a network with picks.
-/
import Derived.Test.YticpenoicajakaaGreatK3
set_option linter.unusedVariables false
set_option linter.unusedSimpArgs false
namespace Go.Proofs.YticpenoicajakaaGreat
open Go Go.Abs Go.Trem
variable {σ : Stack}

/-- A valid network with right picks. -/
structure Hd (n : Net) (l : List Pick) : Prop where
  ok : n.ok = true
  len : l.length ≤ 60
  all : ∀ p ∈ l, Pick.ok n p = true ∧ 0 ≤ p.ph

theorem Hd.fine {n : Net} {l : List Pick} (h : Hd n l) {p : Pick} (hp : p ∈ l) : Fine n p.st p.ph := by
  have h1 := h.all p hp
  simp only [Pick.ok, Bool.and_eq_true, decide_eq_true_eq] at h1
  exact net_fine h.ok h1.1.1 h1.2 h1.1.2.1

theorem span_wraps {n : Net} {l : List Pick} (h : Hd n l) {p : Pick} (hp : p ∈ l) {q : Pt} (hq : q.ok = true) :
    IntKind.i64.wrap (p.t.lo - (n.stn p.st).err) = p.t.lo - (n.stn p.st).err ∧ IntKind.i64.wrap (p.t.lo - (n.stn p.st).err - (travel n p.st p.ph q).hi) = (span n p q).lo ∧
    IntKind.i64.wrap (p.t.hi + (n.stn p.st).err) = p.t.hi + (n.stn p.st).err ∧ IntKind.i64.wrap (p.t.hi + (n.stn p.st).err - (travel n p.st p.ph q).lo) = (span n p q).hi := by
  have h1 := h.all p hp
  simp only [Pick.ok, Bool.and_eq_true, decide_eq_true_eq, Rg.inn] at h1
  have h2 := h.fine hp
  have h3 := h2.e
  have h4 := (travel_wraps h2 hq).2.2.2.2.2.2.2.2
  unfold span
  exact ⟨w64 (by omega), w64 (by omega), w64 (by omega), w64 (by omega)⟩

theorem C_span {n : Net} {l : List Pick} (h : Hd n l) {k : Nat} {p : Pick} (hk : l[k]? = some p) {x y z : Int} (hq : (Pt.mk x y z).ok = true) :
    lim T (.call false i_tremor_heard_span [.agg [.lst n.st.length (n.st.flatMap Stn.enc), .int .i64 n.s0.lo, .int .i64 n.s0.hi, .int .i64 n.s1.lo, .int .i64 n.s1.hi, .int .i64 n.low.x, .int .i64 n.low.y, .int .i64 n.low.z, .int .i64 n.high.x, .int .i64 n.high.y, .int .i64 n.high.z, .int .i64 n.step, .lst l.length (l.flatMap Pick.enc)], .agg [.int .i64 x, .int .i64 y, .int .i64 z], .int .i64 k] σ) = some (.val (.agg [.int .i64 (span n p ⟨x, y, z⟩).lo, .int .i64 (span n p ⟨x, y, z⟩).hi]) σ) := by
  refine call_of T_tremor_heard_span e_tremor_heard_span rfl ?_
  have hp := List.mem_of_getElem? hk
  have hlt : k < l.length := (List.getElem?_eq_some_iff.1 hk).1
  have hf := h.fine hp
  have hc := flat_at (f := Pick.enc) (w := 4) (fun _ => rfl) hk
  obtain ⟨e1, e2, e3, e4⟩ := span_wraps h hp hq
  have ht := fun σ => @C_travel σ n p.st p.ph x y z hf hq
  have c0 := hf.i0
  have c1 := hf.i1
  have c2 := hf.cells
  simp [-List.length_flatMap, -List.map_take, e_tremor_heard_span_r0, e_tremor_heard_span_r1, e_tremor_heard_span_r2, e_tremor_heard_span_r3, hlt, hc, ht, e1, e2, e3, e4, c0, c1, c2]
theorem take_snoc {α : Type} {l : List α} {i : Nat} {x : α} (h : l[i]? = some x) : l.take (i + 1) = l.take i ++ [x] := by
  rw [List.take_add_one, h]; rfl

theorem L_common {r : Rg} {rest : List Rg} (hl : rest.length ≤ 9223372036854775807) : ∀ (m i : Nat), i + m = rest.length →
    WL T [2, 4, 11, 12, 13] false f_tremor_common_l7 [(2, .own 0 [.int .i64 0, .int .i64 0]), (4, .own 0 ((rest.take i).foldl meet r).enc), (11, .lst rest.length (rest.flatMap Rg.enc)), (12, .int .i64 rest.length), (13, .int .i64 i)] σ
      (fun x e σ' => x = .exit 0 ∧ σ' = σ ∧ get e 2 = .own 0 [.int .i64 0, .int .i64 0] ∧ get e 4 = .own 0 (rest.foldl meet r).enc)
  | 0, i, hi => by
    refine WL_step e_tremor_common_l7 ?_
    have h1 : ¬ i < rest.length := by omega
    have h2 : rest.take i = rest := List.take_of_length_le (by omega)
    simp [-List.length_flatMap, -List.map_take, e_tremor_common_r0, e_tremor_common_r1, e_tremor_common_r2, e_tremor_common_r3, e_tremor_common_r4, e_tremor_common_r5, e_tremor_common_r6, e_tremor_common_r8, h1, h2]
  | m + 1, i, hi => by
    refine WL_step e_tremor_common_l7 ?_
    have ih := L_common (r := r) hl m (i + 1) (by omega)
    have h1 : i < rest.length := by omega
    obtain ⟨s, hs⟩ : ∃ x, rest[i]? = some x := ⟨_, List.getElem?_eq_getElem h1⟩
    have h2 := flat_at (f := Rg.enc) (w := 2) (fun _ => rfl) hs
    have h4 := wnext h1 hl
    simp [-List.length_flatMap, -List.map_take, e_tremor_common_r0, e_tremor_common_r1, e_tremor_common_r2, e_tremor_common_r3, e_tremor_common_r4, e_tremor_common_r5, e_tremor_common_r6, e_tremor_common_r8, h1, h2, h4]
    refine WL.to ih ?_ rfl fun x e σ hh => hh
    simp [take_snoc hs, meet]

theorem C_common {r : Rg} {rest : List Rg} (hl : rest.length ≤ 1000000) :
    lim T (.call false i_tremor_common [.lst (r :: rest).length ((r :: rest).flatMap Rg.enc)] σ) = some (.val (.tup [.agg [.int .i64 (common (r :: rest)).lo, .int .i64 (common (r :: rest)).hi], .bool (common (r :: rest)).ne]) σ) := by
  refine call_of T_tremor_common e_tremor_common rfl ?_
  have h1 : (rest.flatMap Rg.enc).take (rest.length * 2) = rest.flatMap Rg.enc := List.take_of_length_le (by rw [flat_len (w := 2) (fun _ => rfl)]; omega)
  have h2 : (0 : Int) < (rest.length : Int) + 1 := by omega
  have h3 : (1 : Int) ≤ (rest.length : Int) + 1 := by omega
  simp [-List.length_flatMap, -List.map_take, e_tremor_common_r0, e_tremor_common_r1, e_tremor_common_r2, e_tremor_common_r3, e_tremor_common_r4, e_tremor_common_r5, e_tremor_common_r6, e_tremor_common_r8, h1, h2, h3]
  refine WL.to (L_common (r := r) (rest := rest) (by omega) rest.length 0 (by omega)) (by simp) rfl ?_
  rintro x e σ' ⟨rfl, rfl, h5, h6⟩
  simp [-List.length_flatMap, -List.map_take, h5, h6, e_tremor_common_r8, common, Rg.ne]

theorem C_check1 {n : Net} {st ph lo hi : Int} {l : List Pick} (hl : n.st.length ≤ 9223372036854775807) (hp : 0 ≤ ph ∧ ph ≤ 255) :
    lim T (.call false i_tremor_heard_check_1 [.agg [.int .i64 st, .int .u8 ph, .int .i64 lo, .int .i64 hi], .cref (heardE n l)] σ) = some (.val (.bool (Pick.ok n ⟨st, ph, ⟨lo, hi⟩⟩)) σ) := by
  refine call_of T_tremor_heard_check_1 e_tremor_heard_check_1 rfl ?_
  have hw := w64 (n := ph) (by omega)
  cases hc1 : inn st 0 (n.st.length - 1)
  · simp [-List.length_flatMap, -List.map_take, e_tremor_heard_check_1_r0, e_tremor_heard_check_1_r1, C_has hl, C_rin, hw, Pick.ok, hc1]
  by_cases hc2 : ph < 2
  rotate_left
  · simp [-List.length_flatMap, -List.map_take, e_tremor_heard_check_1_r0, e_tremor_heard_check_1_r1, C_has hl, C_rin, hw, Pick.ok, hc1, hc2]
  simp [-List.length_flatMap, -List.map_take, e_tremor_heard_check_1_r0, e_tremor_heard_check_1_r1, C_has hl, C_rin, hw, Pick.ok, hc1, hc2]

theorem C_all_pick {n : Net} {l l' : List Pick} (hl : l.length ≤ 9223372036854775807) (hn : n.st.length ≤ 9223372036854775807) (hp : ∀ p ∈ l, 0 ≤ p.ph ∧ p.ph ≤ 255) :
    lim T (.call false i_tremor_all_tremor_Pick [.lst l.length (l.flatMap Pick.enc), .fn i_tremor_heard_check_1 [] [.cref (heardE n l')]] σ) = some (.val (.bool (allB l (Pick.ok n))) σ) :=
  all_of eltPick T_tremor_all_tremor_Pick T_tremor_all_tremor_Pick_1 T_slices_ContainsFunc_tremor_Pick T_slices_IndexFunc_tremor_Pick hl (.fn fun p hp' σ => C_check1 hn (hp p hp')) rfl

theorem C_check {n : Net} {l : List Pick} (hl : l.length ≤ 9223372036854775807) (hn : n.st.length ≤ 9223372036854775807) (hp : ∀ p ∈ l, 0 ≤ p.ph ∧ p.ph ≤ 255) :
    lim T (.call false i_tremor_heard_check [.agg [.lst n.st.length (n.st.flatMap Stn.enc), .int .i64 n.s0.lo, .int .i64 n.s0.hi, .int .i64 n.s1.lo, .int .i64 n.s1.hi, .int .i64 n.low.x, .int .i64 n.low.y, .int .i64 n.low.z, .int .i64 n.high.x, .int .i64 n.high.y, .int .i64 n.high.z, .int .i64 n.step, .lst l.length (l.flatMap Pick.enc)]] σ) = some (.val (.int .i64 (wrong n l)) σ) := by
  refine call_of T_tremor_heard_check e_tremor_heard_check rfl ?_
  have ha := fun σ => C_all_pick (σ := σ) (n := n) (l := l) (l' := l) hl hn hp
  simp only [heardE, Net.enc, List.cons_append, List.nil_append] at ha
  cases c1 : n.ok
  · simp [-List.length_flatMap, -List.map_take, e_tremor_heard_check_r0, e_tremor_heard_check_r1, e_tremor_heard_check_r2, e_tremor_heard_check_r3, e_tremor_heard_check_r4, e_tremor_heard_check_r5, e_tremor_heard_check_r6, e_tremor_heard_check_r7, C_nvalid hn, c1, wrong]
  by_cases c2 : 60 < l.length
  · have c2' : (60 : Int) < l.length := by omega
    simp [-List.length_flatMap, -List.map_take, e_tremor_heard_check_r0, e_tremor_heard_check_r1, e_tremor_heard_check_r2, e_tremor_heard_check_r3, e_tremor_heard_check_r4, e_tremor_heard_check_r5, e_tremor_heard_check_r6, e_tremor_heard_check_r7, C_nvalid hn, c1, c2, c2', wrong]
  have c2' : ¬ (60 : Int) < l.length := by omega
  by_cases c3 : l.length = 0
  · have c3' : ((l.length : Int) == 0) = true := by simp; simpa using c3
    simp [-List.length_flatMap, -List.map_take, e_tremor_heard_check_r0, e_tremor_heard_check_r1, e_tremor_heard_check_r2, e_tremor_heard_check_r3, e_tremor_heard_check_r4, e_tremor_heard_check_r5, e_tremor_heard_check_r6, e_tremor_heard_check_r7, C_nvalid hn, c1, c2, c2', c3, c3', wrong]
  have c3' : ((l.length : Int) == 0) = false := by simp; simpa using c3
  cases c4 : allB l (Pick.ok n)
  · simp [-List.length_flatMap, -List.map_take, e_tremor_heard_check_r0, e_tremor_heard_check_r1, e_tremor_heard_check_r2, e_tremor_heard_check_r3, e_tremor_heard_check_r4, e_tremor_heard_check_r5, e_tremor_heard_check_r6, e_tremor_heard_check_r7, C_nvalid hn, c1, c2, c2', c3, c3', c4, ha, wrong]
  · simp [-List.length_flatMap, -List.map_take, e_tremor_heard_check_r0, e_tremor_heard_check_r1, e_tremor_heard_check_r2, e_tremor_heard_check_r3, e_tremor_heard_check_r4, e_tremor_heard_check_r5, e_tremor_heard_check_r6, e_tremor_heard_check_r7, C_nvalid hn, c1, c2, c2', c3, c3', c4, ha, wrong]
end Go.Proofs.YticpenoicajakaaGreat
