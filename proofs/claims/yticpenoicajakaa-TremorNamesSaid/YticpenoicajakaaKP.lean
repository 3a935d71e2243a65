/-
  ProveNone: of the program.
-/
import Derived.Test.YticpenoicajakaaKR
set_option linter.unusedVariables false
set_option linter.unusedSimpArgs false
namespace Go.Proofs.Yticpenoicajakaa
open Go Go.Abs Go.Trem
variable {σ : Stack}

def pickAt (l : List Pick) (a : Int) : Pick := l.getD a.toNat ⟨0, 0, ⟨0, 0⟩⟩
def prv (n : Net) (l : List Pick) (p : Pt) (q : Pair) : Bool := inn q.fst 0 (l.length - 1) && (inn q.thn 0 (l.length - 1) && decide ((span n (pickAt l q.thn) p).hi < (span n (pickAt l q.fst) p).lo))
def prvL (n : Net) (l : List Pick) : List Pt → List Pair → Bool
  | [], [] => true
  | p :: ps, q :: qs => prv n l p q && prvL n l ps qs
  | _, _ => false

theorem C_spanI {n : Net} {l : List Pick} (h : Hd n l) {a : Int} (ha : inn a 0 (l.length - 1) = true) {x y z : Int} (hq : (Pt.mk x y z).ok = true) :
    lim T (.call false i_tremor_heard_span [.agg [.lst n.st.length (n.st.flatMap Stn.enc), .int .i64 n.s0.lo, .int .i64 n.s0.hi, .int .i64 n.s1.lo, .int .i64 n.s1.hi, .int .i64 n.low.x, .int .i64 n.low.y, .int .i64 n.low.z, .int .i64 n.high.x, .int .i64 n.high.y, .int .i64 n.high.z, .int .i64 n.step, .lst l.length (l.flatMap Pick.enc)], .agg [.int .i64 x, .int .i64 y, .int .i64 z], .int .i64 a] σ) = some (.val (.agg [.int .i64 (span n (pickAt l a) ⟨x, y, z⟩).lo, .int .i64 (span n (pickAt l a) ⟨x, y, z⟩).hi]) σ) := by
  rw [inn_iff] at ha
  have h1 : a.toNat < l.length := by omega
  have h2 : l[a.toNat]? = some (pickAt l a) := by simp [pickAt, List.getD, List.getElem?_eq_getElem h1]
  have := C_span (σ := σ) h h2 hq
  rwa [show ((a.toNat : Nat) : Int) = a by omega] at this

def lpPrv (n : Net) (l : List Pick) (ps : List Pair) (L : Nat) : LoopSt :=
  { state := 0, pend := none, env := [(4, .cref [.lst l.length (l.flatMap Pick.enc)]), (5, .cref [.lst ps.length (ps.flatMap Pair.enc)]), (6, .ref L 0 0 0), (7, .ref L 1 0 0), (8, .ref L 2 0 0)], params := [21], asg := f_tremor_ProveNone_a13, body := f_tremor_ProveNone_b13 }
def stPrv (n : Net) (l : List Pick) (k : Nat) (lp : LoopSt) (σ : Stack) : Stack :=
  [.cells 0 [.bool false], .cells 0 (heardE n l), .cells 0 [.int .i64 k], .loop lp] :: σ

theorem R_prvEnd {n : Net} {l : List Pick} {ps : List Pair} {p : Pt} :
    lim T (.round σ.length 3 (ptA p) ([] :: stPrv n l ps.length (lpPrv n l ps σ.length) σ)) = some (.val (.bool false) ([] :: stPrv n l ps.length (lpStop (lpPrv n l ps σ.length)) σ)) := by
  refine round_of (lp := lpPrv n l ps σ.length) (by simp [stPrv]) rfl ?_
  rw [show (lpPrv n l ps σ.length).asg = f_tremor_ProveNone_a13 from rfl, e_tremor_ProveNone_a13, show (lpPrv n l ps σ.length).body = f_tremor_ProveNone_b13 from rfl]
  simp [-List.length_flatMap, -List.map_take, e_tremor_ProveNone_r0, e_tremor_ProveNone_r1, e_tremor_ProveNone_r2, e_tremor_ProveNone_r3, e_tremor_ProveNone_r4, e_tremor_ProveNone_r5, e_tremor_ProveNone_r6, e_tremor_ProveNone_r7, e_tremor_ProveNone_r8, e_tremor_ProveNone_r9, e_tremor_ProveNone_r10, e_tremor_ProveNone_r11, e_tremor_ProveNone_r12, e_tremor_ProveNone_r14, lpPrv, lpStop, stPrv, ptA, midR]
  rw [e_tremor_ProveNone_b13]
  simp [-List.length_flatMap, -List.map_take, e_tremor_ProveNone_r0, e_tremor_ProveNone_r1, e_tremor_ProveNone_r2, e_tremor_ProveNone_r3, e_tremor_ProveNone_r4, e_tremor_ProveNone_r5, e_tremor_ProveNone_r6, e_tremor_ProveNone_r7, e_tremor_ProveNone_r8, e_tremor_ProveNone_r9, e_tremor_ProveNone_r10, e_tremor_ProveNone_r11, e_tremor_ProveNone_r12, e_tremor_ProveNone_r14]

theorem R_prv {n : Net} {l : List Pick} (h : Hd n l) {ps : List Pair} (hps : ps.length ≤ 1000000000) {p : Pt} (hp : p.ok = true) {k : Nat} {q : Pair} (hq : ps[k]? = some q) :
    lim T (.round σ.length 3 (ptA p) ([] :: stPrv n l k (lpPrv n l ps σ.length) σ)) =
      some (if prv n l p q then .val (.bool true) ([] :: stPrv n l (k + 1) (lpPrv n l ps σ.length) σ) else .val (.bool false) ([] :: stPrv n l k (lpStop (lpPrv n l ps σ.length)) σ)) := by
  have hk : k < ps.length := (List.getElem?_eq_some_iff.1 hq).1
  have h2 := flat_at (f := Pair.enc) (w := 2) (fun _ => rfl) hq
  have hw := w64 (n := (l.length : Int) - 1) (by have := h.len; omega)
  have hne : ((k : Int) == ps.length) = false := by simp; omega
  have hk1 := wnext hk (by omega)
  have hpv : prv n l p q = (inn q.fst 0 (l.length - 1) && (inn q.thn 0 (l.length - 1) && decide ((span n (pickAt l q.thn) p).hi < (span n (pickAt l q.fst) p).lo))) := rfl
  cases c1 : inn q.fst 0 (l.length - 1)
  · rw [hpv, c1]
    refine round_of (lp := lpPrv n l ps σ.length) (by simp [stPrv]) rfl ?_
    rw [show (lpPrv n l ps σ.length).asg = f_tremor_ProveNone_a13 from rfl, e_tremor_ProveNone_a13, show (lpPrv n l ps σ.length).body = f_tremor_ProveNone_b13 from rfl]
    simp [-List.length_flatMap, -List.map_take, e_tremor_ProveNone_r0, e_tremor_ProveNone_r1, e_tremor_ProveNone_r2, e_tremor_ProveNone_r3, e_tremor_ProveNone_r4, e_tremor_ProveNone_r5, e_tremor_ProveNone_r6, e_tremor_ProveNone_r7, e_tremor_ProveNone_r8, e_tremor_ProveNone_r9, e_tremor_ProveNone_r10, e_tremor_ProveNone_r11, e_tremor_ProveNone_r12, e_tremor_ProveNone_r14, lpPrv, lpStop, stPrv, ptA, midR]
    rw [e_tremor_ProveNone_b13]
    simp [-List.length_flatMap, -List.map_take, e_tremor_ProveNone_r0, e_tremor_ProveNone_r1, e_tremor_ProveNone_r2, e_tremor_ProveNone_r3, e_tremor_ProveNone_r4, e_tremor_ProveNone_r5, e_tremor_ProveNone_r6, e_tremor_ProveNone_r7, e_tremor_ProveNone_r8, e_tremor_ProveNone_r9, e_tremor_ProveNone_r10, e_tremor_ProveNone_r11, e_tremor_ProveNone_r12, e_tremor_ProveNone_r14, hne, hk, h2, hw, C_within, c1]
  cases c2 : inn q.thn 0 (l.length - 1)
  · rw [hpv, c1, c2]
    refine round_of (lp := lpPrv n l ps σ.length) (by simp [stPrv]) rfl ?_
    rw [show (lpPrv n l ps σ.length).asg = f_tremor_ProveNone_a13 from rfl, e_tremor_ProveNone_a13, show (lpPrv n l ps σ.length).body = f_tremor_ProveNone_b13 from rfl]
    simp [-List.length_flatMap, -List.map_take, e_tremor_ProveNone_r0, e_tremor_ProveNone_r1, e_tremor_ProveNone_r2, e_tremor_ProveNone_r3, e_tremor_ProveNone_r4, e_tremor_ProveNone_r5, e_tremor_ProveNone_r6, e_tremor_ProveNone_r7, e_tremor_ProveNone_r8, e_tremor_ProveNone_r9, e_tremor_ProveNone_r10, e_tremor_ProveNone_r11, e_tremor_ProveNone_r12, e_tremor_ProveNone_r14, lpPrv, lpStop, stPrv, ptA, midR]
    rw [e_tremor_ProveNone_b13]
    simp [-List.length_flatMap, -List.map_take, e_tremor_ProveNone_r0, e_tremor_ProveNone_r1, e_tremor_ProveNone_r2, e_tremor_ProveNone_r3, e_tremor_ProveNone_r4, e_tremor_ProveNone_r5, e_tremor_ProveNone_r6, e_tremor_ProveNone_r7, e_tremor_ProveNone_r8, e_tremor_ProveNone_r9, e_tremor_ProveNone_r10, e_tremor_ProveNone_r11, e_tremor_ProveNone_r12, e_tremor_ProveNone_r14, hne, hk, h2, hw, C_within, c1, c2]
  have s1 := fun σ => @C_spanI σ n l h q.fst c1 p.x p.y p.z hp
  have s2 := fun σ => @C_spanI σ n l h q.thn c2 p.x p.y p.z hp
  simp only [Pt.eta] at s1 s2
  by_cases c3 : (span n (pickAt l q.thn) p).hi < (span n (pickAt l q.fst) p).lo
  · have c3' : ¬ (span n (pickAt l q.fst) p).lo ≤ (span n (pickAt l q.thn) p).hi := by omega
    rw [hpv, c1, c2]
    simp only [c3, decide_true, Bool.true_and, if_true]
    refine round_of (lp := lpPrv n l ps σ.length) (by simp [stPrv]) rfl ?_
    rw [show (lpPrv n l ps σ.length).asg = f_tremor_ProveNone_a13 from rfl, e_tremor_ProveNone_a13, show (lpPrv n l ps σ.length).body = f_tremor_ProveNone_b13 from rfl]
    simp [-List.length_flatMap, -List.map_take, e_tremor_ProveNone_r0, e_tremor_ProveNone_r1, e_tremor_ProveNone_r2, e_tremor_ProveNone_r3, e_tremor_ProveNone_r4, e_tremor_ProveNone_r5, e_tremor_ProveNone_r6, e_tremor_ProveNone_r7, e_tremor_ProveNone_r8, e_tremor_ProveNone_r9, e_tremor_ProveNone_r10, e_tremor_ProveNone_r11, e_tremor_ProveNone_r12, e_tremor_ProveNone_r14, lpPrv, lpStop, stPrv, ptA, midR]
    rw [e_tremor_ProveNone_b13]
    simp [-List.length_flatMap, -List.map_take, e_tremor_ProveNone_r0, e_tremor_ProveNone_r1, e_tremor_ProveNone_r2, e_tremor_ProveNone_r3, e_tremor_ProveNone_r4, e_tremor_ProveNone_r5, e_tremor_ProveNone_r6, e_tremor_ProveNone_r7, e_tremor_ProveNone_r8, e_tremor_ProveNone_r9, e_tremor_ProveNone_r10, e_tremor_ProveNone_r11, e_tremor_ProveNone_r12, e_tremor_ProveNone_r14, hne, hk, h2, hw, C_within, c1, c2, s1, s2, c3', hk1]
  · have c3' : (span n (pickAt l q.fst) p).lo ≤ (span n (pickAt l q.thn) p).hi := by omega
    rw [hpv, c1, c2]
    simp only [c3, decide_false, Bool.true_and, Bool.false_eq_true, if_false]
    refine round_of (lp := lpPrv n l ps σ.length) (by simp [stPrv]) rfl ?_
    rw [show (lpPrv n l ps σ.length).asg = f_tremor_ProveNone_a13 from rfl, e_tremor_ProveNone_a13, show (lpPrv n l ps σ.length).body = f_tremor_ProveNone_b13 from rfl]
    simp [-List.length_flatMap, -List.map_take, e_tremor_ProveNone_r0, e_tremor_ProveNone_r1, e_tremor_ProveNone_r2, e_tremor_ProveNone_r3, e_tremor_ProveNone_r4, e_tremor_ProveNone_r5, e_tremor_ProveNone_r6, e_tremor_ProveNone_r7, e_tremor_ProveNone_r8, e_tremor_ProveNone_r9, e_tremor_ProveNone_r10, e_tremor_ProveNone_r11, e_tremor_ProveNone_r12, e_tremor_ProveNone_r14, lpPrv, lpStop, stPrv, ptA, midR]
    rw [e_tremor_ProveNone_b13]
    simp [-List.length_flatMap, -List.map_take, e_tremor_ProveNone_r0, e_tremor_ProveNone_r1, e_tremor_ProveNone_r2, e_tremor_ProveNone_r3, e_tremor_ProveNone_r4, e_tremor_ProveNone_r5, e_tremor_ProveNone_r6, e_tremor_ProveNone_r7, e_tremor_ProveNone_r8, e_tremor_ProveNone_r9, e_tremor_ProveNone_r10, e_tremor_ProveNone_r11, e_tremor_ProveNone_r12, e_tremor_ProveNone_r14, hne, hk, h2, hw, C_within, c1, c2, s1, s2, c3']

theorem Rs_prv {n : Net} {l : List Pick} (h : Hd n l) {qs : List Pair} (hqs : qs.length ≤ 1000000000) : ∀ (ps : List Pt) (k : Nat), (∀ p ∈ ps, p.ok = true) → k ≤ qs.length →
    (∃ k', k' ≤ qs.length ∧ Rounds T σ.length 3 ptA ps ([] :: stPrv n l k (lpPrv n l qs σ.length) σ) true ([] :: stPrv n l k' (lpPrv n l qs σ.length) σ) ∧ prvL n l ps (qs.drop k) = decide (k' = qs.length)) ∨
    (prvL n l ps (qs.drop k) = false ∧ ∃ k', Rounds T σ.length 3 ptA ps ([] :: stPrv n l k (lpPrv n l qs σ.length) σ) false ([] :: stPrv n l k' (lpStop (lpPrv n l qs σ.length)) σ))
  | [], k, _, hk => by
    refine .inl ⟨k, hk, .nil _, ?_⟩
    by_cases h1 : k = qs.length
    · subst h1; simp [prvL]
    · obtain ⟨q, hq⟩ : ∃ q, qs[k]? = some q := ⟨_, List.getElem?_eq_getElem (by omega)⟩
      rw [drop_at hq]
      simp [prvL, h1]
  | p :: ps, k, hp, hk => by
    by_cases h1 : k = qs.length
    · subst h1
      refine .inr ⟨by simp [prvL], _, .stop _ _ _ _ R_prvEnd⟩
    · obtain ⟨q, hq⟩ : ∃ q, qs[k]? = some q := ⟨_, List.getElem?_eq_getElem (by omega)⟩
      have hr := R_prv (σ := σ) h hqs (hp p (by simp)) hq
      rw [drop_at hq]
      simp only [prvL]
      cases hv : prv n l p q
      · rw [hv] at hr
        exact .inr ⟨by simp, _, .stop _ _ _ _ (by simpa using hr)⟩
      · rw [hv] at hr
        simp only [if_true] at hr
        rcases Rs_prv h hqs ps (k + 1) (fun r hr => hp r (by simp [hr])) (by omega) with ⟨k', a1, a2, a3⟩ | ⟨a1, k', a2⟩
        · exact .inl ⟨k', a1, .go _ _ _ _ _ _ hr a2, by simpa using a3⟩
        · exact .inr ⟨by simpa using a1, k', .go _ _ _ _ _ _ hr a2⟩

theorem C_ProveNone {n : Net} {l : List Pick} {qs : List Pair} (hl : l.length ≤ 9223372036854775807) (hn : n.st.length ≤ 9223372036854775807) (hp : ∀ p ∈ l, 0 ≤ p.ph ∧ p.ph ≤ 255) (hqs : qs.length ≤ 1000000000) :
    lim T (.call false i_tremor_ProveNone [.agg [.lst n.st.length (n.st.flatMap Stn.enc), .int .i64 n.s0.lo, .int .i64 n.s0.hi, .int .i64 n.s1.lo, .int .i64 n.s1.hi, .int .i64 n.low.x, .int .i64 n.low.y, .int .i64 n.low.z, .int .i64 n.high.x, .int .i64 n.high.y, .int .i64 n.high.z, .int .i64 n.step], .lst l.length (l.flatMap Pick.enc), .lst qs.length (qs.flatMap Pair.enc)] σ) = some (.val (.bool (decide (wrong n l = 0) && prvL n l (lattice n) qs)) σ) := by
  refine call_of T_tremor_ProveNone e_tremor_ProveNone rfl ?_
  have h1 := fun σ => @C_check σ n l hl hn hp
  by_cases hw : wrong n l = 0
  rotate_left
  · have h3 : (wrong n l != 0) = true := by simpa using hw
    simp [-List.length_flatMap, -List.map_take, e_tremor_ProveNone_r0, e_tremor_ProveNone_r1, e_tremor_ProveNone_r2, e_tremor_ProveNone_r3, e_tremor_ProveNone_r4, e_tremor_ProveNone_r5, e_tremor_ProveNone_r6, e_tremor_ProveNone_r7, e_tremor_ProveNone_r8, e_tremor_ProveNone_r9, e_tremor_ProveNone_r10, e_tremor_ProveNone_r11, e_tremor_ProveNone_r12, e_tremor_ProveNone_r14, h1, hw, h3]
  obtain ⟨hd, hl1⟩ := wrong_hd hw hp
  have hb := net_bx hd.ok
  have hr := Rs_prv (σ := σ) hd hqs (lattice n) 0 (fun p hp => lattice_ok hb hp) (by omega)
  simp only [List.drop_zero] at hr
  simp [-List.length_flatMap, -List.map_take, e_tremor_ProveNone_r0, e_tremor_ProveNone_r1, e_tremor_ProveNone_r2, e_tremor_ProveNone_r3, e_tremor_ProveNone_r4, e_tremor_ProveNone_r5, e_tremor_ProveNone_r6, e_tremor_ProveNone_r7, e_tremor_ProveNone_r8, e_tremor_ProveNone_r9, e_tremor_ProveNone_r10, e_tremor_ProveNone_r11, e_tremor_ProveNone_r12, e_tremor_ProveNone_r14, h1, hw, C_lat]
  rcases hr with ⟨k', hk', hr, hq⟩ | ⟨hq, k', hr⟩
  · have hc := C_lattice1 (S := stPrv n l 0 (lpPrv n l qs σ.length) σ) (S' := stPrv n l k' (lpPrv n l qs σ.length) σ) hd.ok hr rfl
    rw [hq]
    simp only [stPrv, lpPrv, Net.enc] at hc
    refine WC_rngf (d := .tup []) (σ2 := stPrv n l k' (lpPrv n l qs σ.length) σ) (lp := lpPrv n l qs σ.length) (by simp; exact ⟨rfl, rfl, rfl⟩) ?_ (by simp [stPrv]) (by simp [lpPrv]) ?_
    · simpa [stPrv, lpPrv] using hc
    · have he : ((k' : Int) == qs.length) = decide (k' = qs.length) := by
        rw [Bool.eq_iff_iff]; simp; omega
      simp [-List.length_flatMap, -List.map_take, lpPrv, stPrv, e_tremor_ProveNone_r0, e_tremor_ProveNone_r1, e_tremor_ProveNone_r2, e_tremor_ProveNone_r3, e_tremor_ProveNone_r4, e_tremor_ProveNone_r5, e_tremor_ProveNone_r6, e_tremor_ProveNone_r7, e_tremor_ProveNone_r8, e_tremor_ProveNone_r9, e_tremor_ProveNone_r10, e_tremor_ProveNone_r11, e_tremor_ProveNone_r12, e_tremor_ProveNone_r14, he, hw]
  · have hc := C_lattice1 (S := stPrv n l 0 (lpPrv n l qs σ.length) σ) (S' := stPrv n l k' (lpStop (lpPrv n l qs σ.length)) σ) hd.ok hr rfl
    rw [hq]
    simp only [stPrv, lpPrv, lpStop, Net.enc] at hc
    refine WC_rngf (d := .tup []) (σ2 := stPrv n l k' (lpStop (lpPrv n l qs σ.length)) σ) (lp := lpStop (lpPrv n l qs σ.length)) (by simp; exact ⟨rfl, rfl, rfl⟩) ?_ (by simp [stPrv]) (by simp [lpStop]) ?_
    · simpa [stPrv, lpPrv, lpStop] using hc
    · simp [-List.length_flatMap, -List.map_take, lpPrv, lpStop, stPrv, e_tremor_ProveNone_r0, e_tremor_ProveNone_r1, e_tremor_ProveNone_r2, e_tremor_ProveNone_r3, e_tremor_ProveNone_r4, e_tremor_ProveNone_r5, e_tremor_ProveNone_r6, e_tremor_ProveNone_r7, e_tremor_ProveNone_r8, e_tremor_ProveNone_r9, e_tremor_ProveNone_r10, e_tremor_ProveNone_r11, e_tremor_ProveNone_r12, e_tremor_ProveNone_r14, hw]
end Go.Proofs.Yticpenoicajakaa
