/-
  A tick: the range over the flows.
-/
import Derived.Test.YtehandllpmlcoaaGreatR13
import Derived.Test.YtehandllpmlcoaaGreatGenSl
set_option linter.unusedVariables false
set_option linter.unusedSimpArgs false
namespace Go.Proofs.YtehandllpmlcoaaGreat
open Go Go.Abs Go.Rock
variable {σ : Stack}

theorem C_stateSl {b : Bed} {m : Mdl} {s : List Rock.Blk} (h : Bv b) {lv bi v : Nat} {F : List Abs.Blk} (hF : F[bi]? = some (.cells v (s.flatMap Blk.enc))) (hs : seg? σ lv = some F) (hl : s.length = b.n) :
    lim T (.call false i_rock_bedded_state [.agg [.int .i64 b.f.x, .int .i64 b.f.y, .int .i64 b.f.z, .int .i64 b.f.k, .lst b.tab.length (b.tab.flatMap Rw.enc), .int .i64 b.stiff, .int .i64 b.lift, .int .i64 b.deep, .lst b.wells.length (b.wells.flatMap Bore.enc), .str m.name, .lst m.vals.length (m.vals.flatMap intE)], .sl lv bi v 0 s.length 3] σ) = some (.val (.bool (stateOk b s)) σ) := by
  refine call_of T_rock_bedded_state e_rock_bedded_state rfl ?_
  have hlt := seg_lt hs
  have hz := h.sz; have hn := h.n
  have hsz := fun σ => C_rsize' (σ := σ) h
  have ha := all_ofSl (T := T) (w := 3) (enc := Blk.enc) (fun _ => rfl) (f := i_rock_all_rock_Block) (g := i_rock_all_rock_Block_1) (h := i_slices_ContainsFunc_rock_Block) (i := i_slices_IndexFunc_rock_Block) (l := s) (p := Rock.Blk.valid) (fv := .fn i_rock_Block_valid [] []) rfl rfl rfl rfl hF (by omega) (Tests.fn fun x _ σ => C_blkValid) rfl (lv := lv) (F := F) (σ := [] :: σ) (by simp [seg?, hs, show ¬ σ.length = lv by omega])
  unfold stateOk
  have hc3 : ((b.n : Nat) : Int) = b.size := hz.symm
  rw [hl] at ha ⊢
  cases hc : allB s Rock.Blk.valid <;> simp [-List.length_flatMap, -List.map_take, eF, hsz, hl, ha, hc, hc3]

def jsD (js : List Nat) : List D := js.map fun j => .int .i64 (j : Nat)
def usL (n : Nat) (js : List Nat) : List Nat := (List.range n).filter fun j => !(js.contains j)
theorem jsD_mem {js : List Nat} {j : Nat} : D.int .i64 (j : Nat) ∈ jsD js ↔ j ∈ js := by
  simp only [jsD, List.mem_map]
  constructor
  · rintro ⟨a, h1, h2⟩
    simp only [D.int.injEq, true_and] at h2
    have : a = j := by omega
    exact this ▸ h1
  · intro h; exact ⟨j, h, rfl⟩
def envT (b : Bed) (m : Mdl) (s : List Rock.Blk) (rates : List Int) (L : Nat) : Env :=
  [(1, .lst s.length (s.flatMap Blk.enc)), (2, .lst rates.length (rates.flatMap intE)), (3, .cref [.int .i64 b.f.x, .int .i64 b.f.y, .int .i64 b.f.z, .int .i64 b.f.k, .lst b.tab.length (b.tab.flatMap Rw.enc), .int .i64 b.stiff, .int .i64 b.lift, .int .i64 b.deep, .lst b.wells.length (b.wells.flatMap Bore.enc), .str m.name, .lst m.vals.length (m.vals.flatMap intE)]), (9, .sl L 1 1 0 s.length 3), (23, .yld L 6)]
def stT (A X Y Z : Abs.Blk) (σ : Stack) (es : List ((Nat × Nat) × Rock.Blk)) (s : List Rock.Blk) (it : Abs.Blk) : Stack :=
  [A, .cells 1 (s.flatMap Blk.enc), .cells 0 (flE es), X, Y, Z, it] :: σ
def itB (L n : Nat) (js : List Nat) : Abs.Blk := .cells 1 (.yld L 2 :: .int .i64 (n : Nat) :: jsD js)
theorem iter_T {A X Y Z : Abs.Blk} {es : List ((Nat × Nat) × Rock.Blk)} {s : List Rock.Blk} {js : List Nat} :
    iterD (stT A X Y Z σ es s (itB σ.length es.length js)) σ.length 6 = some (.yld σ.length 2, es.length, jsD js, usL es.length js) := by
  have hl : (flE es).length = es.length := by simp [flE]
  simp [iterD, stT, itB, mapD, hl, usL, jsD_mem]
theorem us_lt {n : Nat} {js : List Nat} {u : Nat} (hu : u ∈ usL n js) : (usL n (u :: js)).length < (usL n js).length := by
  have e : usL n (u :: js) = (usL n js).filter fun j => !decide (j = u) := by
    unfold usL
    rw [List.filter_filter]
    congr 1
    funext j
    simp [List.contains_cons, Bool.not_or]
  rw [e, List.length_filter_lt_length_iff_exists]
  exact ⟨u, hu, by simp⟩

theorem L_move {b : Bed} {m : Mdl} {s : List Rock.Blk} {rates : List Int} {A X Y Z : Abs.Blk} {es : List ((Nat × Nat) × Rock.Blk)} {r : R} (hs : Sv b s) (hes : ∀ e ∈ es, Flw b e) (hel : es.length ≤ 192)
    (hr : WC (lim T) f_rock_bedded_tick_l29 ((25, .bool false) :: (24, .undef) :: envT b m s rates σ.length) (stT A X Y Z σ es (es.foldl flowMove s) .dead) fun x e' σ' => r = .ctl x e' σ') :
    ∀ (k : Nat) (js : List Nat), js.Nodup → (∀ j ∈ js, j < es.length) → (usL es.length js).length = k →
      lim T (.mloop [1, 2, 3, 9, 23] (.t 23) 24 25 0 f_rock_bedded_tick_l6 f_rock_bedded_tick_l29 (envT b m s rates σ.length) (stT A X Y Z σ es (js.foldr (fun j s => stp es s j) s) (itB σ.length es.length js))) = some r := by
  intro k
  induction k using Nat.strongRecOn with
  | _ k ih =>
  intro js hd hj hk
  by_cases hus : usL es.length js = []
  · have hall : ∀ j, j ∈ js ↔ j < es.length := by
      intro j
      refine ⟨hj j, fun hlt => ?_⟩
      have h1 : j ∉ usL es.length js := by rw [hus]; simp
      simpa [usL, hlt] using h1
    have hfin : js.foldr (fun j s => stp es s j) s = es.foldl flowMove s := by
      rw [← stp_all (js := js.reverse) ((List.reverse_perm js).nodup_iff.2 hd) (fun j => by simp [hall]), List.foldl_reverse]
    rw [hfin]
    have hit := iter_T (σ := σ) (A := A) (X := X) (Y := Y) (Z := Z) (es := es) (s := es.foldl flowMove s) (js := js)
    rw [hus] at hit
    refine mloop_end e_rock_bedded_tick_l6 rfl (by simp [envT]) hit ?_
    simp [stT, envT, itB] at hr ⊢
    exact hr
  · have hit := iter_T (σ := σ) (A := A) (X := X) (Y := Y) (Z := Z) (es := es) (s := js.foldr (fun j s => stp es s j) s) (js := js)
    refine mloop_of e_rock_bedded_tick_l6 rfl (by simp [envT]) hit hus ?_
    intro u hu
    have hu2 : u < es.length ∧ u ∉ js := by simpa [usL] using hu
    obtain ⟨e, he⟩ : ∃ e, es[u]? = some e := ⟨_, List.getElem?_eq_getElem hu2.1⟩
    have hf := hes e (List.mem_of_getElem? he)
    have hnext := ih _ (by rw [← hk]; exact us_lt hu) (u :: js) (List.nodup_cons.2 ⟨hu2.2, hd⟩) (by intro j hjm; rcases List.mem_cons.1 hjm with rfl | hjm; exact hu2.1; exact hj j hjm) rfl
    have hb := stp_bnd hes js s 1000000000000 hs.bnd
    have hjl : js.length ≤ 192 := by
      have h1 : js.length ≤ es.length := by
        have := hd.length_le_of_subset (l₂ := List.range es.length) (fun j hjm => by simpa using hj j hjm)
        simpa using this
      omega
    have hlen : (js.foldr (fun j s => stp es s j) s).length = b.n := by
      have : ∀ js : List Nat, (js.foldr (fun j s => stp es s j) s).length = s.length := by
        intro js; induction js with
        | nil => rfl
        | cons a l ih => simp only [List.foldr_cons, stp_len]; exact ih
      rw [this, hs.len]
    simp only [List.foldr_cons] at hnext
    generalize hs1 : js.foldr (fun j s => stp es s j) s = s1 at *
    have hstp : stp es s1 u = moveAt (moveAt s1 e.1.1 e.2 (-1)) e.1.2 e.2 1 := by simp [stp, he, flowMove]
    rw [hstp] at hnext
    have hbn : bnd 400000000000000 s1 := fun x hx => sm_mono (hb x hx) (by omega)
    have hb1 := move_bnd (i := e.1.1) (sign := -1) hbn hf.2 (.inr rfl) (by omega)
    obtain ⟨x1, y1⟩ := bnd_at hbn (i := e.1.1) (by have := hf.1.1; omega)
    obtain ⟨x2, y2⟩ := bnd_at hb1 (i := e.1.2) (by rw [move_len]; have := hf.1.2; omega)
    have hM1 : ∀ I, lim T (.call false i_rock_Block_move [.ref σ.length 1 1 (e.1.1 * 3), .agg [.int .i64 e.2.m, .int .i64 e.2.h, .int .i64 e.2.k], .int .i64 (-1)] ([A, .cells 1 (s1.flatMap Blk.enc), .cells 0 (flE es), X, Y, Z, I] :: σ)) =
        some (.val (.tup []) ([A, .cells 1 ((moveAt s1 e.1.1 e.2 (-1)).flatMap Blk.enc), .cells 0 (flE es), X, Y, Z, I] :: σ)) :=
      fun I => C_move (F := [A, .cells 1 (s1.flatMap Blk.enc), .cells 0 (flE es), X, Y, Z, I]) (j := 1) rfl x1 (sm_mono y1 (by omega)) (sm_mono hf.2 (by omega)) (.inr rfl)
    have hM2 : ∀ I, lim T (.call false i_rock_Block_move [.ref σ.length 1 1 (e.1.2 * 3), .agg [.int .i64 e.2.m, .int .i64 e.2.h, .int .i64 e.2.k], .int .i64 1] ([A, .cells 1 ((moveAt s1 e.1.1 e.2 (-1)).flatMap Blk.enc), .cells 0 (flE es), X, Y, Z, I] :: σ)) =
        some (.val (.tup []) ([A, .cells 1 ((moveAt (moveAt s1 e.1.1 e.2 (-1)) e.1.2 e.2 1).flatMap Blk.enc), .cells 0 (flE es), X, Y, Z, I] :: σ)) :=
      fun I => C_move (F := [A, .cells 1 ((moveAt s1 e.1.1 e.2 (-1)).flatMap Blk.enc), .cells 0 (flE es), X, Y, Z, I]) (j := 1) rfl x2 (sm_mono y2 (by omega)) (sm_mono hf.2 (by omega)) (.inl rfl)
    have hfe : (flE es)[u]? = some (.tup [.agg [.int .i64 e.1.1, .int .i64 e.1.2], .agg [.int .i64 e.2.m, .int .i64 e.2.h, .int .i64 e.2.k]]) := by simp [flE, he]
    have hfl : (flE es).length = es.length := by simp [flE]
    have hE : mpD ([A, .cells 1 (s1.flatMap Blk.enc), .cells 0 (flE es), X, Y, Z, .cells 1 (.yld σ.length 2 :: .int .i64 (es.length : Nat) :: .int .i64 (u : Nat) :: jsD js)] :: σ) .ent [.yld σ.length 6] =
        some (.tup [.agg [.int .i64 e.1.1, .int .i64 e.1.2], .agg [.int .i64 e.2.m, .int .i64 e.2.h, .int .i64 e.2.k]], [A, .cells 1 (s1.flatMap Blk.enc), .cells 0 (flE es), X, Y, Z, .cells 1 (.yld σ.length 2 :: .int .i64 (es.length : Nat) :: .int .i64 (u : Nat) :: jsD js)] :: σ) := by
      simp [mpD, mapD, hfl, hfe]
    have hi1 : e.1.1 < s.length := by have := hf.1.1; have := hs.len; omega
    have hi2 : e.1.2 < s.length := by have := hf.1.2; have := hs.len; omega
    simp [-List.length_flatMap, -List.map_take, envT, stT, itB, eF, hE, hM1, hM2, hi1, hi2, cl_rw, cl_bore, cl_int, cl_blk]
    simpa [envT, stT, itB, jsD] using hnext
end Go.Proofs.YtehandllpmlcoaaGreat
