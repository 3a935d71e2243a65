/-
  Reasons: of the program.
-/
import Derived.Test.YticpenoicajakaaK12
set_option linter.unusedVariables false
set_option linter.unusedSimpArgs false
namespace Go.Abs
open Go
variable {T : Tbl}
section
variable {α : Type} (E : Elt α) {p : α → Bool} {fv : D} {l : List α}

theorem idx_loop_at {σ : Stack} (hl : l.length ≤ 9223372036854775807) (h1 : fv.strip = fv) (h2 : fv.calm = fv) (h3 : ∀ x ∈ l, callv (lim T) false fv [E.val x] σ = some (.bool (p x), σ)) : ∀ (m i : Nat), i + m = l.length →
    WL T [0, 1, 7, 8] false (idxL E.ag E.w) [(0, .lst l.length (l.flatMap E.enc)), (1, fv), (7, .int .i64 l.length), (8, .int .i64 i)] σ
      (fun x e σ' => σ' = σ ∧ if idxOf p (l.drop i) < 0 then x = .exit 0 else x = .ret ∧ get e 4 = .int .i64 (i + idxOf p (l.drop i)))
  | 0, i, hi => by
    refine WL_step (idxL.eq_1 _ _) ?_
    have : ¬ i < l.length := by omega
    have h5 : l.drop i = [] := by simp; omega
    simp [this, h1, h2, h5, idxOf]
  | m + 1, i, hi => by
    have ih := idx_loop_at hl h1 h2 h3 m (i + 1) (by omega)
    refine WL_step (idxL.eq_1 _ _) ?_
    have h4 : i < l.length := by omega
    obtain ⟨x, hx⟩ : ∃ x, l[i]? = some x := ⟨_, List.getElem?_eq_getElem h4⟩
    have h5 := flat_at (f := E.enc) E.len hx
    have h6 := h3 x (List.mem_of_getElem? hx)
    have h7 := wnext h4 hl
    have h8 := drop_at hx
    cases hp : p x
    · rw [hp] at h6
      simp [h4, h1, h2, h5, h6, h7, E.load, E.strip, E.calm]
      refine WL.to ih (by simp) rfl ?_
      rintro x e σ' ⟨h9, h10⟩
      refine ⟨h9, ?_⟩
      rw [h8]
      simp only [idxOf, hp, Bool.false_eq_true, if_false]
      by_cases h11 : idxOf p (l.drop (i + 1)) < 0
      · simpa [h11] using h10
      · rw [if_neg h11] at h10
        rw [if_neg h11, if_neg (by omega)]
        refine ⟨h10.1, ?_⟩
        rw [h10.2]
        congr 1
        push_cast
        omega
    · rw [hp] at h6
      simp [h4, h1, h2, h5, h6, h7, E.load, E.strip, E.calm, h8, idxOf, hp]

theorem idxOf_m1 : ∀ {l : List α}, idxOf p l < 0 → idxOf p l = -1
  | [], _ => rfl
  | a :: l, h => by
    simp only [idxOf] at h ⊢
    by_cases ha : p a = true
    · rw [if_pos ha] at h; omega
    · rw [if_neg ha] at h ⊢
      by_cases hb : idxOf p l < 0
      · rw [if_pos hb]
      · rw [if_neg hb] at h; omega

theorem index_at {f : Nat} (hT : T f = some (idxFn E.ag E.w)) (hl : l.length ≤ 9223372036854775807) {σ : Stack} (h1 : fv.strip = fv) (h2 : fv.calm = fv)
    (h3 : ∀ x ∈ l, callv (lim T) false fv [E.val x] ([] :: σ) = some (.bool (p x), [] :: σ)) :
    lim T (.call false f [.lst l.length (l.flatMap E.enc), fv] σ) = some (.val (.int .i64 (idxOf p l)) σ) := by
  refine call_of hT (idxFn.eq_1 _ _) rfl ?_
  have h := idx_loop_at E (σ := [] :: σ) hl h1 h2 h3 l.length 0 (by simp)
  simp [h1, h2]
  refine WL.to h (by simp) rfl ?_
  rintro x e σ' ⟨rfl, h10⟩
  simp only [List.drop_zero] at h10
  by_cases h11 : idxOf p l < 0
  · rw [if_pos h11] at h10
    subst h10
    simp [idxOf_m1 h11]
  · rw [if_neg h11] at h10
    obtain ⟨rfl, h12⟩ := h10
    simp at h12
    simp [h12]
end
end Go.Abs
namespace Go.Proofs.Yticpenoicajakaa
open Go Go.Abs Go.Trem
variable {σ : Stack}

theorem C_rs1 {lo hi rlo rhi : Int} {t : List Blk} {ρ : Stack} : lim T (.call false i_tremor_Reasons_1 [.agg [.int .i64 lo, .int .i64 hi], .ref ρ.length 0 0 0] (t :: [.cells 0 [.int .i64 rlo, .int .i64 rhi]] :: ρ)) =
    some (.val (.bool (lo == rlo)) (t :: [.cells 0 [.int .i64 rlo, .int .i64 rhi]] :: ρ)) := by
  refine call_of T_tremor_Reasons_1 e_tremor_Reasons_1 rfl ?_
  simp [-List.length_flatMap, -List.map_take, e_tremor_Reasons_1_r0, e_tremor_Reasons_1_r1]
theorem C_rs2 {lo hi rlo rhi : Int} {t : List Blk} {ρ : Stack} : lim T (.call false i_tremor_Reasons_2 [.agg [.int .i64 lo, .int .i64 hi], .ref ρ.length 0 0 0] (t :: [.cells 0 [.int .i64 rlo, .int .i64 rhi]] :: ρ)) =
    some (.val (.bool (hi == rhi)) (t :: [.cells 0 [.int .i64 rlo, .int .i64 rhi]] :: ρ)) := by
  refine call_of T_tremor_Reasons_2 e_tremor_Reasons_2 rfl ?_
  simp [-List.length_flatMap, -List.map_take, e_tremor_Reasons_2_r0, e_tremor_Reasons_2_r1]

theorem C_idx1 {l : List Rg} (hl : l.length ≤ 1000000) {rlo rhi : Int} {ρ : Stack} :
    lim T (.call false i_slices_IndexFunc_tremor_Range [.lst l.length (l.flatMap Rg.enc), .fn i_tremor_Reasons_1 [] [.ref ρ.length 0 0 0]] ([.cells 0 [.int .i64 rlo, .int .i64 rhi]] :: ρ)) =
      some (.val (.int .i64 (idxOf (fun r => r.lo == rlo) l)) ([.cells 0 [.int .i64 rlo, .int .i64 rhi]] :: ρ)) :=
  index_at eltRg T_slices_IndexFunc_tremor_Range (by omega) rfl rfl fun x _ => by
    rw [callv_fn]
    have := @C_rs1 x.lo x.hi rlo rhi [] ρ
    simp only [List.nil_append, List.cons_append] 
    show R.vals (lim T (.call false i_tremor_Reasons_1 [.agg [.int .i64 x.lo, .int .i64 x.hi], .ref ρ.length 0 0 0] _)) = _
    rw [this]; rfl
theorem C_idx2 {l : List Rg} (hl : l.length ≤ 1000000) {rlo rhi : Int} {ρ : Stack} :
    lim T (.call false i_slices_IndexFunc_tremor_Range [.lst l.length (l.flatMap Rg.enc), .fn i_tremor_Reasons_2 [] [.ref ρ.length 0 0 0]] ([.cells 0 [.int .i64 rlo, .int .i64 rhi]] :: ρ)) =
      some (.val (.int .i64 (idxOf (fun r => r.hi == rhi) l)) ([.cells 0 [.int .i64 rlo, .int .i64 rhi]] :: ρ)) :=
  index_at eltRg T_slices_IndexFunc_tremor_Range (by omega) rfl rfl fun x _ => by
    rw [callv_fn]
    have := @C_rs2 x.lo x.hi rlo rhi [] ρ
    simp only [List.nil_append, List.cons_append]
    show R.vals (lim T (.call false i_tremor_Reasons_2 [.agg [.int .i64 x.lo, .int .i64 x.hi], .ref ρ.length 0 0 0] _)) = _
    rw [this]; rfl

/-- The reason for a place: the span that begins last, the one that ends first. -/
def reason (n : Net) (l : List Pick) (p : Pt) : Pair :=
  ⟨idxOf (fun r => r.lo == (origin n l p).lo) (l.map fun q => span n q p), idxOf (fun r => r.hi == (origin n l p).hi) (l.map fun q => span n q p)⟩

def lpRea (n : Net) (l : List Pick) (L : Nat) : LoopSt :=
  { state := 0, pend := none, env := [(3, .cref [.lst l.length (l.flatMap Pick.enc)]), (4, .ref L 0 0 0), (5, .ref L 1 0 0), (6, .ref L 2 0 0), (8, .ref L 4 0 0)], params := [26], asg := f_tremor_Reasons_a15, body := f_tremor_Reasons_b15 }
def stRea (n : Net) (l : List Pick) (acc : List Pair) (res : Int) (lp : LoopSt) (σ : Stack) : Stack :=
  [.cells 0 [.nils], .cells 0 [.int .i64 res], .cells 0 (heardE n l), .cells acc.length (acc.flatMap Pair.enc), .cells 0 [.sl σ.length 3 acc.length 0 acc.length 2], .loop lp] :: σ

theorem R_rea {n : Net} {l : List Pick} (h : Hd n l) (hl1 : 1 ≤ l.length) {p : Pt} (hp : p.ok = true) {acc : List Pair} (ha : acc.length ≤ 100000) (hne : (origin n l p).ne = false) :
    lim T (.round σ.length 5 (ptA p) ([] :: stRea n l acc 0 (lpRea n l σ.length) σ)) = some (.val (.bool true) ([] :: stRea n l (acc ++ [reason n l p]) 0 (lpRea n l σ.length) σ)) := by
  have hs := fun σ (hσ : σ ≠ []) => @C_spans σ n l h p.x p.y p.z hp l.length (Nat.le_refl _) hσ
  simp only [List.take_length] at hs
  have hlen : (l.map fun q => span n q p).length = l.length := by simp
  have hc := fun σ => @C_common' σ (l.map fun q => span n q p) (by omega) (by have := h.len; omega)
  have hi1 := fun ρ => @C_idx1 (l.map fun q => span n q p) (by have := h.len; omega) (origin n l p).lo (origin n l p).hi ρ
  have hi2 := fun ρ => @C_idx2 (l.map fun q => span n q p) (by have := h.len; omega) (origin n l p).lo (origin n l p).hi ρ
  have ho : common (l.map fun q => span n q p) = origin n l p := rfl
  rw [ho, hne] at hc
  have r1 : idxOf (fun r => r.lo == (origin n l p).lo) (l.map fun q => span n q p) = (reason n l p).fst := rfl
  have r2 : idxOf (fun r => r.hi == (origin n l p).hi) (l.map fun q => span n q p) = (reason n l p).thn := rfl
  rw [hlen] at hc hi1 hi2
  rw [r1] at hi1
  rw [r2] at hi2
  simp only [Pt.eta] at hs
  have w3 := flat_self (f := Pair.enc) (w := 2) (fun _ => rfl) acc
  have w4 := flat_len (f := Pair.enc) (w := 2) (fun _ => rfl) acc
  have w2 : (acc.length + 1) * 16 ≤ room := by unfold room; omega
  generalize ((l.map fun q => span n q p).flatMap Rg.enc) = F at *
  refine round_of (lp := lpRea n l σ.length) (by simp [stRea]) rfl ?_
  rw [show (lpRea n l σ.length).asg = f_tremor_Reasons_a15 from rfl, e_tremor_Reasons_a15, show (lpRea n l σ.length).body = f_tremor_Reasons_b15 from rfl]
  simp [-List.length_flatMap, -List.map_take, e_tremor_Reasons_r0, e_tremor_Reasons_r1, e_tremor_Reasons_r2, e_tremor_Reasons_r3, e_tremor_Reasons_r4, e_tremor_Reasons_r5, e_tremor_Reasons_r6, e_tremor_Reasons_r7, e_tremor_Reasons_r8, e_tremor_Reasons_r9, e_tremor_Reasons_r10, e_tremor_Reasons_r11, e_tremor_Reasons_r12, e_tremor_Reasons_r13, e_tremor_Reasons_r14, e_tremor_Reasons_r16, lpRea, stRea, ptA, midR]
  rw [e_tremor_Reasons_b15]
  have q1 := hi1 ([] :: [.cells 0 [.nils], .cells 0 [.int .i64 0], .cells 0 (heardE n l), .cells acc.length (acc.flatMap Pair.enc), .cells 0 [.sl σ.length 3 acc.length 0 acc.length 2], .loop { lpRea n l σ.length with state := 1 }] :: σ)
  have q2 := hi2 ([] :: [.cells 0 [.nils], .cells 0 [.int .i64 0], .cells 0 (heardE n l), .cells acc.length (acc.flatMap Pair.enc), .cells 0 [.sl σ.length 3 acc.length 0 acc.length 2], .loop { lpRea n l σ.length with state := 1 }] :: σ)
  simp [lpRea] at q1 q2
  rw [e_tremor_Reasons_b15] at q1 q2
  simp only [e_tremor_Reasons_r0, e_tremor_Reasons_r1, e_tremor_Reasons_r2, e_tremor_Reasons_r3, e_tremor_Reasons_r4, e_tremor_Reasons_r5, e_tremor_Reasons_r6, e_tremor_Reasons_r7, e_tremor_Reasons_r8, e_tremor_Reasons_r9, e_tremor_Reasons_r10, e_tremor_Reasons_r11, e_tremor_Reasons_r12, e_tremor_Reasons_r13, e_tremor_Reasons_r14, e_tremor_Reasons_r16] at q1 q2
  simp [-List.length_flatMap, -List.map_take, e_tremor_Reasons_r0, e_tremor_Reasons_r1, e_tremor_Reasons_r2, e_tremor_Reasons_r3, e_tremor_Reasons_r4, e_tremor_Reasons_r5, e_tremor_Reasons_r6, e_tremor_Reasons_r7, e_tremor_Reasons_r8, e_tremor_Reasons_r9, e_tremor_Reasons_r10, e_tremor_Reasons_r11, e_tremor_Reasons_r12, e_tremor_Reasons_r13, e_tremor_Reasons_r14, e_tremor_Reasons_r16, hs, hc, q1, q2, w2, w3, w4]

def lpStop (lp : LoopSt) : LoopSt := { lp with state := 2, pend := some .ret }

theorem R_reaStop {n : Net} {l : List Pick} (h : Hd n l) (hl1 : 1 ≤ l.length) {p : Pt} (hp : p.ok = true) {acc : List Pair} (hne : (origin n l p).ne = true) :
    lim T (.round σ.length 5 (ptA p) ([] :: stRea n l acc 0 (lpRea n l σ.length) σ)) = some (.val (.bool false) ([] :: stRea n l acc 7 (lpStop (lpRea n l σ.length)) σ)) := by
  have hs := fun σ (hσ : σ ≠ []) => @C_spans σ n l h p.x p.y p.z hp l.length (Nat.le_refl _) hσ
  simp only [List.take_length] at hs
  have hlen : (l.map fun q => span n q p).length = l.length := by simp
  have hc := fun σ => @C_common' σ (l.map fun q => span n q p) (by omega) (by have := h.len; omega)
  have ho : common (l.map fun q => span n q p) = origin n l p := rfl
  rw [ho, hne] at hc
  rw [hlen] at hc
  simp only [Pt.eta] at hs
  generalize ((l.map fun q => span n q p).flatMap Rg.enc) = F at *
  refine round_of (lp := lpRea n l σ.length) (by simp [stRea]) rfl ?_
  rw [show (lpRea n l σ.length).asg = f_tremor_Reasons_a15 from rfl, e_tremor_Reasons_a15, show (lpRea n l σ.length).body = f_tremor_Reasons_b15 from rfl]
  simp [-List.length_flatMap, -List.map_take, e_tremor_Reasons_r0, e_tremor_Reasons_r1, e_tremor_Reasons_r2, e_tremor_Reasons_r3, e_tremor_Reasons_r4, e_tremor_Reasons_r5, e_tremor_Reasons_r6, e_tremor_Reasons_r7, e_tremor_Reasons_r8, e_tremor_Reasons_r9, e_tremor_Reasons_r10, e_tremor_Reasons_r11, e_tremor_Reasons_r12, e_tremor_Reasons_r13, e_tremor_Reasons_r14, e_tremor_Reasons_r16, lpRea, lpStop, stRea, ptA, midR]
  rw [e_tremor_Reasons_b15]
  simp [-List.length_flatMap, -List.map_take, e_tremor_Reasons_r0, e_tremor_Reasons_r1, e_tremor_Reasons_r2, e_tremor_Reasons_r3, e_tremor_Reasons_r4, e_tremor_Reasons_r5, e_tremor_Reasons_r6, e_tremor_Reasons_r7, e_tremor_Reasons_r8, e_tremor_Reasons_r9, e_tremor_Reasons_r10, e_tremor_Reasons_r11, e_tremor_Reasons_r12, e_tremor_Reasons_r13, e_tremor_Reasons_r14, e_tremor_Reasons_r16, hs, hc]

theorem Rs_rea {n : Net} {l : List Pick} (h : Hd n l) (hl1 : 1 ≤ l.length) : ∀ (ps : List Pt) (acc : List Pair), (∀ p ∈ ps, p.ok = true) → acc.length + ps.length ≤ 100000 →
    ((allB ps fun p => !(origin n l p).ne) = true ∧ Rounds T σ.length 5 ptA ps ([] :: stRea n l acc 0 (lpRea n l σ.length) σ) true ([] :: stRea n l (acc ++ ps.map (reason n l)) 0 (lpRea n l σ.length) σ)) ∨
    ((allB ps fun p => !(origin n l p).ne) = false ∧ ∃ acc', Rounds T σ.length 5 ptA ps ([] :: stRea n l acc 0 (lpRea n l σ.length) σ) false ([] :: stRea n l acc' 7 (lpStop (lpRea n l σ.length)) σ))
  | [], acc, _, _ => .inl ⟨rfl, by simpa using Rounds.nil _⟩
  | p :: ps, acc, hp, ha => by
    simp only [List.length_cons] at ha
    have hb : (allB (p :: ps) fun p => !(origin n l p).ne) = (!(origin n l p).ne && allB ps fun p => !(origin n l p).ne) := rfl
    rw [hb]
    cases hne : (origin n l p).ne
    · have hr := R_rea (σ := σ) h hl1 (hp p (by simp)) (acc := acc) (by omega) hne
      rcases Rs_rea h hl1 ps (acc ++ [reason n l p]) (fun q hq => hp q (by simp [hq])) (by simp; omega) with ⟨h1, h2⟩ | ⟨h1, acc', h2⟩
      · refine .inl ⟨by simpa using h1, .go _ _ _ _ _ _ hr ?_⟩
        simpa [List.append_assoc] using h2
      · exact .inr ⟨by simpa using h1, acc', .go _ _ _ _ _ _ hr h2⟩
    · exact .inr ⟨by simp, acc, .stop _ _ _ _ (R_reaStop h hl1 (hp p (by simp)) hne)⟩

def reasonsL (n : Net) (l : List Pick) : List Pair := (lattice n).map (reason n l)
def noneB (n : Net) (l : List Pick) : Bool := allB (lattice n) fun p => !(origin n l p).ne

theorem C_Reasons {n : Net} {l : List Pick} (hl : l.length ≤ 9223372036854775807) (hn : n.st.length ≤ 9223372036854775807) (hp : ∀ p ∈ l, 0 ≤ p.ph ∧ p.ph ≤ 255) (hσ : σ ≠ []) :
    lim T (.call false i_tremor_Reasons [.agg [.lst n.st.length (n.st.flatMap Stn.enc), .int .i64 n.s0.lo, .int .i64 n.s0.hi, .int .i64 n.s1.lo, .int .i64 n.s1.hi, .int .i64 n.low.x, .int .i64 n.low.y, .int .i64 n.low.z, .int .i64 n.high.x, .int .i64 n.high.y, .int .i64 n.high.z, .int .i64 n.step], .lst l.length (l.flatMap Pick.enc)] σ) =
      some (.val (if wrong n l = 0 then (if noneB n l then .tup [.lst (reasonsL n l).length ((reasonsL n l).flatMap Pair.enc), .int .i64 0] else .tup [.nils, .int .i64 7]) else .tup [.nils, .int .i64 (wrong n l)]) σ) := by
  refine call_of T_tremor_Reasons e_tremor_Reasons rfl ?_
  have h1 := fun σ => @C_check σ n l hl hn hp
  by_cases hw : wrong n l = 0
  rotate_left
  · have h3 : (wrong n l != 0) = true := by simpa using hw
    simp [-List.length_flatMap, -List.map_take, e_tremor_Reasons_r0, e_tremor_Reasons_r1, e_tremor_Reasons_r2, e_tremor_Reasons_r3, e_tremor_Reasons_r4, e_tremor_Reasons_r5, e_tremor_Reasons_r6, e_tremor_Reasons_r7, e_tremor_Reasons_r8, e_tremor_Reasons_r9, e_tremor_Reasons_r10, e_tremor_Reasons_r11, e_tremor_Reasons_r12, e_tremor_Reasons_r13, e_tremor_Reasons_r14, e_tremor_Reasons_r16, h1, hw, h3]
  obtain ⟨hd, hl1⟩ := wrong_hd hw hp
  have hb := net_bx hd.ok
  have hlen := hb.len
  have hr := Rs_rea (σ := σ) hd hl1 (lattice n) [] (fun p hp => lattice_ok hb hp) (by simp; omega)
  simp [-List.length_flatMap, -List.map_take, e_tremor_Reasons_r0, e_tremor_Reasons_r1, e_tremor_Reasons_r2, e_tremor_Reasons_r3, e_tremor_Reasons_r4, e_tremor_Reasons_r5, e_tremor_Reasons_r6, e_tremor_Reasons_r7, e_tremor_Reasons_r8, e_tremor_Reasons_r9, e_tremor_Reasons_r10, e_tremor_Reasons_r11, e_tremor_Reasons_r12, e_tremor_Reasons_r13, e_tremor_Reasons_r14, e_tremor_Reasons_r16, h1, hw, C_lat]
  rcases hr with ⟨hq, hr⟩ | ⟨hq, acc', hr⟩
  · have hc := C_lattice1 (S := stRea n l [] 0 (lpRea n l σ.length) σ) (S' := stRea n l (reasonsL n l) 0 (lpRea n l σ.length) σ) hd.ok hr rfl
    have hq' : noneB n l = true := hq
    rw [hq']
    simp only [stRea, lpRea, List.length_nil, List.flatMap_nil, Net.enc] at hc
    refine WC_rngf (d := .tup []) (σ2 := stRea n l (reasonsL n l) 0 (lpRea n l σ.length) σ) (lp := lpRea n l σ.length) (by simp; exact ⟨rfl, rfl, rfl⟩) ?_ (by simp [stRea]) (by simp [lpRea]) ?_
    · simpa [stRea, lpRea] using hc
    · simp [-List.length_flatMap, -List.map_take, lpRea, stRea, e_tremor_Reasons_r0, e_tremor_Reasons_r1, e_tremor_Reasons_r2, e_tremor_Reasons_r3, e_tremor_Reasons_r4, e_tremor_Reasons_r5, e_tremor_Reasons_r6, e_tremor_Reasons_r7, e_tremor_Reasons_r8, e_tremor_Reasons_r9, e_tremor_Reasons_r10, e_tremor_Reasons_r11, e_tremor_Reasons_r12, e_tremor_Reasons_r13, e_tremor_Reasons_r14, e_tremor_Reasons_r16]
      rw [frz_tup (by simp) (by omega)]
      have h3' : ¬ σ.length ≤ σ.length - 1 := by have := List.length_pos_iff.2 hσ; omega
      have h4 := flat_self (f := Pair.enc) (w := 2) (fun _ => rfl) (reasonsL n l)
      have h5 : D.cleanL ((reasonsL n l).flatMap Pair.enc) = true := cleanL_flat fun x _ => by simp
      simp only [frzL_cons, frzL_nil]
      rw [frz_sl h3' (cs := (reasonsL n l).flatMap Pair.enc) (by simp) (by omega)]
      simp [h4, h5, hw]
  · have hc := C_lattice1 (S := stRea n l [] 0 (lpRea n l σ.length) σ) (S' := stRea n l acc' 7 (lpStop (lpRea n l σ.length)) σ) hd.ok hr rfl
    have hq' : noneB n l = false := hq
    rw [hq']
    simp only [stRea, lpRea, lpStop, List.length_nil, List.flatMap_nil, Net.enc] at hc
    refine WC_rngf (d := .tup []) (σ2 := stRea n l acc' 7 (lpStop (lpRea n l σ.length)) σ) (lp := lpStop (lpRea n l σ.length)) (by simp; exact ⟨rfl, rfl, rfl⟩) ?_ (by simp [stRea]) (by simp [lpStop]) ?_
    · simpa [stRea, lpRea, lpStop] using hc
    · simp [-List.length_flatMap, -List.map_take, lpRea, lpStop, stRea, e_tremor_Reasons_r0, e_tremor_Reasons_r1, e_tremor_Reasons_r2, e_tremor_Reasons_r3, e_tremor_Reasons_r4, e_tremor_Reasons_r5, e_tremor_Reasons_r6, e_tremor_Reasons_r7, e_tremor_Reasons_r8, e_tremor_Reasons_r9, e_tremor_Reasons_r10, e_tremor_Reasons_r11, e_tremor_Reasons_r12, e_tremor_Reasons_r13, e_tremor_Reasons_r14, e_tremor_Reasons_r16, hw]
end Go.Proofs.Yticpenoicajakaa
