/-
  TopParts: the pulses.
-/
import Derived.Test.YtehandllpmlcoaaT6
set_option linter.unusedVariables false
set_option linter.unusedSimpArgs false
namespace Go.Proofs.Ytehandllpmlcoaa
open Go Go.Abs Go.Rock
variable {σ : Stack}

def d8P (os : List Int) : D := .own 0 (bdL os.length)
def d9P (os : List Int) : D := .own 0 (mdL os)
theorem bdL_clean {n : Nat} : D.cleanL (bdL n) = true := by simp [bdL, D.clean, cl_rw, cl_bore]
theorem mdL_clean {os : List Int} : D.cleanL (mdL os) = true := by simp [mdL, D.clean, cl_int]
theorem cl_in (l : List (List Int)) : D.cleanL (l.flatMap inL) = true := k_clean (fun x => by simp [inL, D.clean, cl_int]) l
theorem cl_b8 (l : List Int) : D.cleanL (l.flatMap b8E) = true := k_clean (fun x => by simp [b8E]) l
theorem bdL_len {n : Nat} : (bdL n).length = 9 := rfl
theorem mdL_len {os : List Int} : (mdL os).length = 2 := rfl
theorem bdL_take {n : Nat} : (bdL n).take 9 = bdL n := rfl
theorem mdL_take {os : List Int} : (mdL os).take 2 = mdL os := rfl
theorem frz_sv {L a b v c : Nat} {x y : Int} {S : Stack} (h : True := trivial) : frz L 16 (.own 0 [.int .i64 x, .int .i64 y, .sl L a v b c 4]) S = (.own 0 [.int .i64 x, .int .i64 y, .sl L a v b c 4], S) := by
  unfold frz
  rw [if_neg (by simp [D.clean])]
  simp [h]
theorem L_pulse {os pu : List Int} {T' : Nat} (hn : 1 ≤ os.length ∧ os.length ≤ 8) (hos : ∀ o ∈ os, 0 ≤ o ∧ o ≤ 255) (hpu : pu.length ≤ 4) (hpb : ∀ o ∈ pu, 0 ≤ o ∧ o ≤ 255) (hT : T' ≤ 5) {A B C E : Abs.Blk} : ∀ (m i : Nat) (acc : List Trial.Seen), i + m = pu.length → acc.length ≤ 8 * i → (∀ y ∈ acc, Felt os.length (psAt os os.length) y) →
    WL T [1, 7, 8, 9, 13, 15, 19, 21, 22] true f_top_TopParts_l62 [(1, .lst pu.length (pu.flatMap b8E)), (7, .int .i64 os.length), (8, d8P os), (9, d9P os), (13, .lst os.length ((psAt os os.length).flatMap intE)), (15, .lst (T' + 1) ((idl os.length (T' + 1)).flatMap inL)), (19, .lst os.length ((pz0 os.length).flatMap intE)), (21, .own 0 [.int .i64 os.length, .int .i64 1, .sl σ.length 4 acc.length 0 acc.length 4]), (22, .int .i64 i)]
      ([A, B, C, E, .cells acc.length (acc.flatMap Trial.Seen.enc)] :: σ)
      (fun x e σ' => ∃ r : List Trial.Seen, r.length ≤ 32 ∧ (∀ y ∈ r, Felt os.length (psAt os os.length) y) ∧ x = .exit 8 ∧ get e 7 = .int .i64 os.length ∧ get e 13 = .lst os.length ((psAt os os.length).flatMap intE) ∧
        get e 21 = .own 0 [.int .i64 os.length, .int .i64 1, .sl σ.length 4 r.length 0 r.length 4] ∧ σ' = [A, B, C, E, .cells r.length (r.flatMap Trial.Seen.enc)] :: σ)
  | 0, i, acc, hi, hal, hac => by
    refine WL_stepS e_top_TopParts_l62 ?_
    obtain rfl : i = pu.length := by omega
    have c1 : (D.lst pu.length (pu.flatMap b8E)).clean = true := by simp [D.clean, cl_b8]
    have c8 : (D.own 0 (bdL os.length)).clean = true := by simp [D.clean, bdL_clean]
    have c9 : (D.own 0 (mdL os)).clean = true := by simp [D.clean, mdL_clean]
    have c13 : (D.lst os.length ((psAt os os.length).flatMap intE)).clean = true := by simp [D.clean, cl_int]
    have c15 : (D.lst (T' + 1) ((idl os.length (T' + 1)).flatMap inL)).clean = true := by simp [D.clean, cl_in]
    have c19 : (D.lst os.length ((pz0 os.length).flatMap intE)).clean = true := by simp [D.clean, cl_int]
    simp [-List.length_flatMap, -List.map_take, eF, d8P, d9P, c1, c8, c9, c13, c15, c19, frz_sv]
    exact ⟨acc, by omega, hac, by simp⟩
  | m + 1, i, acc, hi, hal, hac => by
    refine WL_stepS e_top_TopParts_l62 ?_
    have h1 : i < pu.length := by omega
    have h4 := wnext h1 (by omega)
    obtain ⟨p, hp⟩ : ∃ p, pu[i]? = some p := ⟨_, List.getElem?_eq_getElem h1⟩
    have hpb' := hpb p (List.mem_of_getElem? hp)
    have a1 := b8_at hp
    obtain ⟨w, hw, hwn⟩ : ∃ w : Nat, p.tmod os.length = (w : Int) ∧ w < os.length := by
      have g1 := Int.tmod_lt_of_pos p (show (0 : Int) < os.length by omega)
      have g2 := Int.tmod_nonneg os.length hpb'.1
      exact ⟨(p.tmod os.length).toNat, by omega, by omega⟩
    have w1 := w64 (n := p) (by omega)
    have w2 := w64 (n := (w : Int)) (by omega)
    have hne : ¬ (os.length : Int) = 0 := by omega
    have hne2 : os ≠ [] := fun h => by rw [h] at hn; simp at hn
    have hil : (idl os.length (T' + 1)).length = T' + 1 := by simp [idl]
    have hK := fun σ => C_PlanK (σ := σ) (t := idl os.length (T' + 1)) (by rw [hil]; omega) (fun l hl => by rw [(List.mem_replicate.1 hl).2]; simp; omega)
    rw [hil] at hK
    have e0 : idl os.length (T' + 1) = List.replicate os.length 0 :: idl os.length T' := by simp [idl, List.replicate_succ]
    have zd : ∀ L : Nat, segP L (idl os.length (T' + 1)) = .cells 0 [] :: .cells (T' + 1) (.sl L 2 0 0 os.length 1 :: rowsI L 3 (idl os.length T')) :: .cells 0 ((List.replicate os.length (0 : Int)).flatMap intE) :: (idl os.length T').map rowBI := by
      intro L
      unfold segP
      rw [hil, e0]
      simp [rowsI, rowBI]
    have zl : ((List.replicate os.length (0 : Int)).flatMap intE).length = os.length := by rw [int_len]; simp
    have stz := k_set (f := intE) (w := 1) (fun _ => rfl) (l := List.replicate os.length (0 : Int)) (i := w) (x := -2000) (by simpa using hwn)
    simp only [Nat.mul_one, intE, List.singleton_append] at stz
    obtain ⟨ss, ys, s, hrun, hsl, hsT, hcold⟩ := pulse_run (P := prOs os) (T := T') (w := w) (parts_hP hos) hos hn hT hwn
    have hPl := fun σ hσ => C_playR (σ := σ) hn hos (t := (List.replicate os.length 0).set w (-2000) :: idl os.length T') (by simp [idl]; omega) (fun r hr => by
      rcases List.mem_cons.1 hr with rfl | hr
      · refine ⟨by simp, fun x hx => ?_⟩
        rcases List.mem_or_eq_of_mem_set hx with hx | hx
        · exact .inl (List.mem_replicate.1 hx).2
        · exact .inr hx
      · rw [(List.mem_replicate.1 hr).2]
        exact ⟨by simp, fun x hx => .inl (List.mem_replicate.1 hx).2⟩) hrun hσ
    have hPr := fun σ hσ => C_pressR (σ := σ) hn hos hcold hσ
    have tl : ((List.replicate os.length 0).set w (-2000) :: idl os.length T').length = T' + 1 := by simp [idl]
    rw [tl, hsl] at hPl
    have hfz := frz_plan (σ := [A, B, C, E, .cells acc.length (acc.flatMap Trial.Seen.enc)] :: σ) (l0 := 0) (n := 16) (by simp) (by decide) (t := (List.replicate os.length 0).set w (-2000) :: idl os.length T') (C := [])
    rw [tl] at hfz
    simp only [List.length_cons, rowsI, List.length_set, List.length_replicate, List.map_cons, List.cons_append, List.append_nil, List.replicate_succ] at hfz
    generalize (((List.replicate os.length 0).set w (-2000) :: idl os.length T').flatMap inL) = TT at hfz hPl
    have hsTd := k_drop (f := stL) (w := 1) (fun _ => rfl) hsT
    simp only [Nat.mul_one, stL, List.singleton_append] at hsTd
    have hprl := (cold_pressures hcold).1
    have hlt2 : ((T' : Int) + 1) < (T' : Int) + 2 := by omega
    have hT0 : (0 : Int) ≤ (T' : Int) + 1 := by omega
    have w5 := w64 (n := (T' : Int) + 1 + 1) (by omega)
    have w6 : (T' : Int) + 1 + 1 = (T' : Int) + 2 := by omega
    have hle : w + 1 ≤ os.length := by omega
    simp only [rowBI] at hfz zd
    generalize hpf : pressures (rowB os.length) (rowM os) s = af at *
    simp [-List.length_flatMap, -List.map_take, eF, d8P, d9P, h1, h4, a1, w1, w2, hw, hne, hne2, hK, zd, hwn, zl, stz, hfz, hle, bdL_len, mdL_len, bdL_take, mdL_take, hPl, hPr, hsTd, hlt2, hT0, w5, w6]
    have w7 := w64 (n := (T' : Int) + 2) (by omega)
    refine ⟨w7.symm, ?_⟩
    have haf : ∀ x ∈ af, 0 ≤ x ∧ x ≤ 2000000000 := by rw [← hpf]; exact press_ok hcold
    refine WL.to (L_felt (σ := σ) (n := os.length) (w := w) (i := i) (af := af) hn hwn hprl haf (d1 := .lst pu.length (pu.flatMap b8E)) (d8 := .own 0 (bdL os.length)) (d9 := .own 0 (mdL os)) (d13 := .lst os.length ((psAt os os.length).flatMap intE)) (d15 := .lst (T' + 1) ((idl os.length (T' + 1)).flatMap inL)) (by simp) (by simp) (by simp) (by simp) (by simp) (A := A) (B := B) (C := C) (E := E) (S := .cells 0 [] :: .dead :: .dead :: List.replicate T' .dead) os.length 0 acc (by omega) (by omega)) (by simp) rfl ?_
    rintro x e σ' ⟨r, hr, hrl, rfl, g1, g7, g8, g9, g13, g15, g19, g21, g22, rfl⟩
    have hrF : ∀ y ∈ r, Felt os.length (psAt os os.length) y := by
      intro y hy
      rcases hr y hy with h9 | ⟨j, a, hjn, hjw, hja, hap, rfl⟩
      · exact hac y h9
      · rw [← hpf] at hja
        exact felt_of hn hcold hwn hjn hjw hja hap
    have ih := L_pulse (pu := pu) hn hos hpu hpb hT (A := A) (B := B) (C := C) (E := E) m (i + 1) r (by omega) (by omega) hrF
    have c1 : (D.lst pu.length (pu.flatMap b8E)).clean = true := by simp [D.clean, cl_b8]
    have c8 : (D.own 0 (bdL os.length)).clean = true := by simp [D.clean, bdL_clean]
    have c9 : (D.own 0 (mdL os)).clean = true := by simp [D.clean, mdL_clean]
    have c13 : (D.lst os.length ((psAt os os.length).flatMap intE)).clean = true := by simp [D.clean, cl_int]
    have c15 : (D.lst (T' + 1) ((idl os.length (T' + 1)).flatMap inL)).clean = true := by simp [D.clean, cl_in]
    have c19 : (D.lst os.length ((pz0 os.length).flatMap intE)).clean = true := by simp [D.clean, cl_int]
    simp [-List.length_flatMap, -List.map_take, eF, g1, g7, g8, g9, g13, g15, g19, g21, g22, h4, c1, c8, c9, c13, c15, c19, frz_sv]
    exact WL.to ih (by simp [d8P, d9P]) rfl fun x e σ hh => hh
end Go.Proofs.Ytehandllpmlcoaa
