/-
  The places that agree with picks: of the program.
-/
import Derived.Test.YticpenoicajakaaGreatK7
set_option linter.unusedVariables false
set_option linter.unusedSimpArgs false
namespace Go.Proofs.YticpenoicajakaaGreat
open Go Go.Abs Go.Trem
variable {σ : Stack}

def lpLoc (n : Net) (l : List Pick) (k L : Nat) : LoopSt :=
  { state := 0, pend := none, env := [(2, .cref (heardE n l)), (3, .cref [.int .i64 k]), (4, .ref L 1 0 0)], params := [11], asg := f_tremor_heard_located_a6, body := f_tremor_heard_located_b6 }
def stLoc (n : Net) (l : List Pick) (k : Nat) (acc : List Plc) (σ : Stack) : Stack :=
  [.cells acc.length (acc.flatMap Plc.enc), .cells 0 [.sl σ.length 0 acc.length 0 acc.length 5], .loop (lpLoc n l k σ.length)] :: σ

def locOf (n : Net) (l : List Pick) (p : Pt) : Option Plc := if (origin n l p).ne then some ⟨p, origin n l p⟩ else none

theorem R_loc {n : Net} {l : List Pick} (h : Hd n l) {k : Nat} (hk : k ≤ l.length) (hk1 : 1 ≤ k) {p : Pt} (hp : p.ok = true) {acc : List Plc} (ha : acc.length ≤ 100000) :
    lim T (.round σ.length 2 (ptA p) ([] :: stLoc n l k acc σ)) = some (.val (.bool true) ([] :: stLoc n l k (acc ++ (locOf n (l.take k) p).toList) σ)) := by
  have hs := fun σ (hσ : σ ≠ []) => @C_spans σ n l h p.x p.y p.z hp k hk hσ
  have hlen : ((l.take k).map fun q => span n q p).length = k := by simp; omega
  have hc := fun σ => @C_common' σ ((l.take k).map fun q => span n q p) (by omega) (by have := h.len; omega)
  rw [hlen] at hc
  have ho : common ((l.take k).map fun q => span n q p) = origin n (l.take k) p := rfl
  rw [ho] at hc
  simp only [Pt.eta] at hs
  have w3 := flat_self (f := Plc.enc) (w := 5) (fun _ => rfl) acc
  have w4 := flat_len (f := Plc.enc) (w := 5) (fun _ => rfl) acc
  have w2 : (acc.length + 1) * 40 ≤ room := by unfold room; omega
  generalize (((l.take k).map fun q => span n q p).flatMap Rg.enc) = F at *
  refine round_of (lp := lpLoc n l k σ.length) (by simp [stLoc]) rfl ?_
  rw [show (lpLoc n l k σ.length).asg = f_tremor_heard_located_a6 from rfl, e_tremor_heard_located_a6, show (lpLoc n l k σ.length).body = f_tremor_heard_located_b6 from rfl]
  simp [-List.length_flatMap, -List.map_take, e_tremor_heard_located_r0, e_tremor_heard_located_r1, e_tremor_heard_located_r2, e_tremor_heard_located_r3, e_tremor_heard_located_r4, e_tremor_heard_located_r5, e_tremor_heard_located_r7, lpLoc, stLoc, ptA, midR]
  rw [e_tremor_heard_located_b6]
  simp [-List.length_flatMap, -List.map_take, e_tremor_heard_located_r0, e_tremor_heard_located_r1, e_tremor_heard_located_r2, e_tremor_heard_located_r3, e_tremor_heard_located_r4, e_tremor_heard_located_r5, e_tremor_heard_located_r7, hs, hc]
  cases hne : (origin n (l.take k) p).ne
  · simp [locOf, hne]
  · simp [-List.length_flatMap, -List.map_take, locOf, hne, e_tremor_heard_located_r0, e_tremor_heard_located_r1, e_tremor_heard_located_r2, e_tremor_heard_located_r3, e_tremor_heard_located_r4, e_tremor_heard_located_r5, e_tremor_heard_located_r7, w2, w3, w4]

theorem Rs_loc {n : Net} {l : List Pick} (h : Hd n l) {k : Nat} (hk : k ≤ l.length) (hk1 : 1 ≤ k) : ∀ (ps : List Pt) (acc : List Plc), (∀ p ∈ ps, p.ok = true) → acc.length + ps.length ≤ 100000 →
    Rounds T σ.length 2 ptA ps ([] :: stLoc n l k acc σ) true ([] :: stLoc n l k (acc ++ ps.filterMap (locOf n (l.take k))) σ)
  | [], acc, _, _ => by simpa using Rounds.nil _
  | p :: ps, acc, hp, ha => by
    simp only [List.length_cons] at ha
    refine .go _ _ _ _ _ _ (R_loc h hk hk1 (hp p (by simp)) (by omega)) ?_
    have hle : (locOf n (l.take k) p).toList.length ≤ 1 := by cases locOf n (l.take k) p <;> simp
    have := Rs_loc h hk hk1 ps (acc ++ (locOf n (l.take k) p).toList) (fun q hq => hp q (by simp [hq])) (by simp only [List.length_append]; omega)
    have e : acc ++ (p :: ps).filterMap (locOf n (l.take k)) = acc ++ (locOf n (l.take k) p).toList ++ ps.filterMap (locOf n (l.take k)) := by
      rw [List.append_assoc]
      cases hq : locOf n (l.take k) p <;> simp [List.filterMap_cons, hq]
    rw [e]
    exact this

theorem located_eq {n : Net} {l : List Pick} : (lattice n).filterMap (locOf n l) = located n l := rfl

theorem C_located {n : Net} {l : List Pick} (h : Hd n l) {k : Nat} (hk : k ≤ l.length) (hk1 : 1 ≤ k) (hσ : σ ≠ []) :
    lim T (.call false i_tremor_heard_located [.agg [.lst n.st.length (n.st.flatMap Stn.enc), .int .i64 n.s0.lo, .int .i64 n.s0.hi, .int .i64 n.s1.lo, .int .i64 n.s1.hi, .int .i64 n.low.x, .int .i64 n.low.y, .int .i64 n.low.z, .int .i64 n.high.x, .int .i64 n.high.y, .int .i64 n.high.z, .int .i64 n.step, .lst l.length (l.flatMap Pick.enc)], .int .i64 k] σ) = some (.val (.lst (located n (l.take k)).length ((located n (l.take k)).flatMap Plc.enc)) σ) := by
  refine call_of T_tremor_heard_located e_tremor_heard_located rfl ?_
  have hb := net_bx h.ok
  have hr := Rs_loc (σ := σ) h hk hk1 (lattice n) [] (fun p hp => lattice_ok hb hp) (by have := hb.len; simp; omega)
  rw [List.nil_append, located_eq] at hr
  have hc := C_lattice1 (S := stLoc n l k [] σ) (S' := stLoc n l k (located n (l.take k)) σ) h.ok hr rfl
  simp only [stLoc, List.length_nil, List.flatMap_nil, Net.enc] at hc
  simp [-List.length_flatMap, -List.map_take, e_tremor_heard_located_r0, e_tremor_heard_located_r1, e_tremor_heard_located_r2, e_tremor_heard_located_r3, e_tremor_heard_located_r4, e_tremor_heard_located_r5, e_tremor_heard_located_r7, C_lat]
  refine WC_rngf (d := .tup []) (σ2 := stLoc n l k (located n (l.take k)) σ) (lp := lpLoc n l k σ.length) (by simp; exact ⟨rfl, rfl, rfl⟩) ?_ (by simp [stLoc]) (by simp [lpLoc]) ?_
  · have : lpLoc n l k σ.length = { state := 0, pend := none, env := [(2, .cref (heardE n l)), (3, .cref [.int .i64 k]), (4, .ref σ.length 1 0 0)], params := [11], asg := f_tremor_heard_located_a6, body := f_tremor_heard_located_b6 } := rfl
    rw [this] at hc
    simpa [stLoc, lpLoc] using hc
  · simp [-List.length_flatMap, -List.map_take, lpLoc, stLoc, e_tremor_heard_located_r0, e_tremor_heard_located_r1, e_tremor_heard_located_r2, e_tremor_heard_located_r3, e_tremor_heard_located_r4, e_tremor_heard_located_r5, e_tremor_heard_located_r7]
    rw [frz_out (f := Plc.enc) (fun _ => rfl) (fun x => by simp) hσ rfl]
    simp

theorem wrong_hd {n : Net} {l : List Pick} (hw : wrong n l = 0) (hp : ∀ p ∈ l, 0 ≤ p.ph ∧ p.ph ≤ 255) : Hd n l ∧ 1 ≤ l.length := by
  unfold wrong at hw
  split at hw
  case isFalse => omega
  rename_i h1
  split at hw
  case isTrue => omega
  rename_i h2
  split at hw
  case isTrue => omega
  rename_i h3
  have h4 : allB l (Pick.ok n) = true := by
    cases h : allB l (Pick.ok n) with
    | true => rfl
    | false => exact absurd (.inr h) h3
  have h5 : l.length ≠ 0 := fun h => h3 (.inl h)
  exact ⟨⟨h1, by omega, fun p hp' => ⟨allB_iff.1 h4 p hp', (hp p hp').1⟩⟩, by omega⟩

theorem C_LocateP {n : Net} {l : List Pick} (hl : l.length ≤ 9223372036854775807) (hn : n.st.length ≤ 9223372036854775807) (hp : ∀ p ∈ l, 0 ≤ p.ph ∧ p.ph ≤ 255) (hσ : σ ≠ []) :
    lim T (.call false i_tremor_Locate [.agg [.lst n.st.length (n.st.flatMap Stn.enc), .int .i64 n.s0.lo, .int .i64 n.s0.hi, .int .i64 n.s1.lo, .int .i64 n.s1.hi, .int .i64 n.low.x, .int .i64 n.low.y, .int .i64 n.low.z, .int .i64 n.high.x, .int .i64 n.high.y, .int .i64 n.high.z, .int .i64 n.step], .lst l.length (l.flatMap Pick.enc)] σ) =
      some (.val (if wrong n l = 0 then (if (located n l).length = 0 then .tup [.nils, .int .i64 7] else .tup [.lst (located n l).length ((located n l).flatMap Plc.enc), .int .i64 0]) else .tup [.nils, .int .i64 (wrong n l)]) σ) := by
  refine call_of T_tremor_Locate e_tremor_Locate rfl ?_
  have h1 := fun σ => @C_check σ n l hl hn hp
  by_cases hw : wrong n l = 0
  · have hd := wrong_hd hw hp
    have h2 := fun σ (hσ : σ ≠ []) => @C_located σ n l hd.1 l.length (Nat.le_refl _) hd.2 hσ
    simp only [List.take_length] at h2
    by_cases h3 : (located n l).length = 0
    · have h4 : located n l = [] := List.eq_nil_of_length_eq_zero h3
      rw [h4] at h2
      simp at h2
      simp [-List.length_flatMap, -List.map_take, e_tremor_Locate_r0, e_tremor_Locate_r1, e_tremor_Locate_r2, e_tremor_Locate_r3, e_tremor_Locate_r4, e_tremor_Locate_r5, e_tremor_Locate_r6, e_tremor_Locate_r7, e_tremor_Locate_r8, h1, hw, h2, h4]
    · have h4 : ((located n l).length : Int) ≠ 0 := by omega
      have h5 : located n l ≠ [] := by rintro h; rw [h] at h3; simp at h3
      have h6 : (((located n l).length : Int) == 0) = false := by simpa using h5
      have h7 : D.cleanL ((located n l).flatMap Plc.enc) = true := cleanL_flat fun x _ => by simp
      simp [-List.length_flatMap, -List.map_take, e_tremor_Locate_r0, e_tremor_Locate_r1, e_tremor_Locate_r2, e_tremor_Locate_r3, e_tremor_Locate_r4, e_tremor_Locate_r5, e_tremor_Locate_r6, e_tremor_Locate_r7, e_tremor_Locate_r8, h1, hw, h2, h3, h4, h5, h6, h7]
  · have h3 : (wrong n l != 0) = true := by simpa using hw
    simp [-List.length_flatMap, -List.map_take, e_tremor_Locate_r0, e_tremor_Locate_r1, e_tremor_Locate_r2, e_tremor_Locate_r3, e_tremor_Locate_r4, e_tremor_Locate_r5, e_tremor_Locate_r6, e_tremor_Locate_r7, e_tremor_Locate_r8, h1, hw, h3]

theorem L_locatedL {a : List Plc} (hl : a.length ≤ 9223372036854775807) : ∀ (m i : Nat), i + m = a.length →
    WL T [0, 1, 5] false f_law09_located_l8 [(0, .lst a.length (a.flatMap Plc.enc)), (1, .lst a.length (a.flatMap Plc.enc)), (5, .int .i64 i)] σ
      (fun x e σ' => σ' = σ ∧ x = .exit 0)
  | 0, i, hi => by
    refine WL_step e_law09_located_l8 ?_
    have h1 : ¬ i < a.length := by omega
    simp [-List.length_flatMap, -List.map_take, e_law09_located_r0, e_law09_located_r1, e_law09_located_r2, e_law09_located_r3, e_law09_located_r4, e_law09_located_r5, e_law09_located_r6, e_law09_located_r7, e_law09_located_r9, h1]
  | m + 1, i, hi => by
    refine WL_step e_law09_located_l8 ?_
    have ih := L_locatedL hl m (i + 1) (by omega)
    have h1 : i < a.length := by omega
    obtain ⟨x, hx⟩ : ∃ x, a[i]? = some x := ⟨_, List.getElem?_eq_getElem h1⟩
    have h2 := flat_at (f := Plc.enc) (w := 5) (fun _ => rfl) hx
    have h4 := wnext h1 hl
    simp [-List.length_flatMap, -List.map_take, e_law09_located_r0, e_law09_located_r1, e_law09_located_r2, e_law09_located_r3, e_law09_located_r4, e_law09_located_r5, e_law09_located_r6, e_law09_located_r7, e_law09_located_r9, h1, h2, h4, C_Point, C_Range]
    exact WL.to ih (by simp) rfl fun x e σ hh => hh

theorem C_locatedL {a : List Plc} (hl : a.length ≤ 9223372036854775807) :
    lim T (.call false i_law09_located [.lst a.length (a.flatMap Plc.enc), .lst a.length (a.flatMap Plc.enc)] σ) = some (.val (.bool true) σ) := by
  refine call_of T_law09_located e_law09_located rfl ?_
  simp [-List.length_flatMap, -List.map_take, e_law09_located_r0, e_law09_located_r1, e_law09_located_r2, e_law09_located_r3, e_law09_located_r4, e_law09_located_r5, e_law09_located_r6, e_law09_located_r7, e_law09_located_r9]
  refine WL.to (L_locatedL (σ := [] :: σ) hl a.length 0 (by omega)) (by simp) rfl ?_
  rintro x e σ' ⟨rfl, rfl⟩
  simp [-List.length_flatMap, -List.map_take, e_law09_located_r9]

end Go.Proofs.YticpenoicajakaaGreat
