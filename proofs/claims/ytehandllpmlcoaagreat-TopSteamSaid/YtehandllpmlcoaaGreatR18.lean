/-
  A run.
-/
import Derived.Test.YtehandllpmlcoaaGreatR17
set_option linter.unusedVariables false
set_option linter.unusedSimpArgs false
namespace Go.Proofs.YtehandllpmlcoaaGreat
open Go Go.Abs Go.Rock
variable {σ : Stack}

def stL (s : List Rock.Blk) : List D := [.lst s.length (s.flatMap Blk.enc)]
theorem stL_len (l : List (List Rock.Blk)) : (l.flatMap stL).length = l.length := by
  have := flat_len (f := stL) (w := 1) (fun _ => rfl) l
  omega
theorem Sv.next {b : Bed} {m : Mdl} {s : List Rock.Blk} {rates : List Int} (h : Bv b) {s' y : List Rock.Blk} (ht : tick b m s rates = some (s', y)) : Sv b s' := by
  unfold tick at ht
  split at ht
  · rename_i hc
    simp only [Option.some.injEq, Prod.mk.injEq] at ht
    obtain ⟨rfl, _⟩ := ht
    exact (Sv.of h).1 hc
  · cases ht
theorem room24 {n : Nat} (h : n ≤ 1000000) : n * 24 ≤ room := by unfold room; omega
theorem cl_st (l : List (List Rock.Blk)) : D.cleanL (l.flatMap stL) = true := k_clean (fun x => by simp [stL, D.clean, cl_blk]) l
def runQ (b : Bed) (m : Mdl) (σ : Stack) (r : Option (List (List Rock.Blk) × List (List Rock.Blk))) (x : Abs.Exit) (e : Env) (σ' : Stack) : Prop := match r with
  | some (ss, ys) => ∃ v u, x = .exit 0 ∧ get e 4 = .own 0 [.sl σ.length 2 v 0 ss.length 1, .sl σ.length 1 u 0 ys.length 1] ∧ σ' = [.cells 0 [], .cells u (ys.flatMap stL), .cells v (ss.flatMap stL)] :: σ
  | none => x = .thr (.ifc 205 (.agg [])) ∧ ∃ seg, σ' = seg :: σ
theorem L_run {b : Bed} {m : Mdl} {plan : List (List Int)} (h : Fv b m) (hp : plan.length ≤ 200) (hr : ∀ r ∈ plan, Rv b r) : ∀ (k i v u : Nat) (ss ys : List (List Rock.Blk)) (s : List Rock.Blk), i + k = plan.length → ss.length = i + 1 → ys.length = i → ss[i]? = some s → Sv b s →
    WL T [2, 4, 14, 15, 16] false f_rock_bedded_run_l11 [(2, .cref [.int .i64 b.f.x, .int .i64 b.f.y, .int .i64 b.f.z, .int .i64 b.f.k, .lst b.tab.length (b.tab.flatMap Rw.enc), .int .i64 b.stiff, .int .i64 b.lift, .int .i64 b.deep, .lst b.wells.length (b.wells.flatMap Bore.enc), .str m.name, .lst m.vals.length (m.vals.flatMap intE)]), (4, .own 0 [.sl σ.length 2 v 0 (i + 1) 1, .sl σ.length 1 u 0 i 1]), (14, .lst plan.length (plan.flatMap inL)), (15, .int .i64 plan.length), (16, .int .i64 i)]
      ([.cells 0 [], .cells u (ys.flatMap stL), .cells v (ss.flatMap stL)] :: σ) (runQ b m σ (runFrom b m ss ys s (plan.drop i)))
  | 0, i, v, u, ss, ys, s, hi, h1, h2, h3, hs => by
    refine WL_step e_rock_bedded_run_l11 ?_
    obtain rfl : i = plan.length := by omega
    have h5 : plan.drop plan.length = [] := List.drop_eq_nil_of_le (by omega)
    simp [-List.length_flatMap, -List.map_take, eF, h5, runFrom, runQ]
    exact ⟨v, u, by simp [h1, h2]⟩
  | k + 1, i, v, u, ss, ys, s, hi, h1, h2, h3, hs => by
    refine WL_step e_rock_bedded_run_l11 ?_
    have hlt : i < plan.length := by omega
    have hii : (i : Int) < i + 1 := by omega
    obtain ⟨r, hx⟩ : ∃ r, plan[i]? = some r := ⟨_, List.getElem?_eq_getElem hlt⟩
    have h4 := wnext hlt (by omega)
    have h5 := drop_at hx
    have a1 := flat_at (f := inL) (w := 1) (fun _ => rfl) hx
    simp only [inL, Nat.mul_one] at a1
    have a2 := k_drop (f := stL) (w := 1) (fun _ => rfl) h3
    simp only [stL, Nat.mul_one, List.singleton_append] at a2
    have hT := fun σ hσ => C_tick (σ := σ) h hs (hr r (List.mem_of_getElem? hx)) hσ
    rw [h5, runFrom]
    unfold tickD at hT
    cases ht : tick b m s r with
    | none =>
      rw [ht] at hT
      simp only at hT
      simp [-List.length_flatMap, -List.map_take, eF, hlt, hii, h4, a1, a2, hT, inL, runQ]
    | some p =>
      obtain ⟨s', y⟩ := p
      rw [ht] at hT
      simp only at hT
      have ih := L_run h hp hr k (i + 1) (v + 1) (u + 1) (ss ++ [s']) (ys ++ [y]) s' (by omega) (by simp [h1]) (by simp [h2]) (by simp [← h1]) (Sv.next h.bv ht)
      have l1 := stL_len ss
      have l2 := stL_len ys
      rw [h1] at l1
      rw [h2] at l2
      have f1 : (ss.flatMap stL).take (i + 1) = ss.flatMap stL := List.take_of_length_le (by omega)
      have f2 : (ys.flatMap stL).take i = ys.flatMap stL := List.take_of_length_le (by omega)
      have h7 := room24 (n := i + 1) (by omega)
      have h8 := room24 (n := i + 1 + 1) (by omega)
      simp [-List.length_flatMap, -List.map_take, eF, hlt, hii, h4, a1, a2, hT, inL, f1, f2, l1, l2, h7, h8]
      exact WL.to ih (by simp) (by simp [stL]) fun x e σ hh => hh
theorem runFrom_len {b : Bed} {m : Mdl} : ∀ (plan : List (List Int)) (ss ys : List (List Rock.Blk)) (s : List Rock.Blk) {ss' ys' : List (List Rock.Blk)}, runFrom b m ss ys s plan = some (ss', ys') → ss'.length = ss.length + plan.length ∧ ys'.length = ys.length + plan.length
  | [], ss, ys, s, ss', ys', h => by simp only [runFrom, Option.some.injEq, Prod.mk.injEq] at h; obtain ⟨rfl, rfl⟩ := h; exact ⟨rfl, rfl⟩
  | r :: plan, ss, ys, s, ss', ys', h => by
    simp only [runFrom] at h
    split at h
    · have := runFrom_len plan _ _ _ h
      simp at this ⊢; omega
    · cases h
theorem C_runOk {b : Bed} {m : Mdl} {plan : List (List Int)} (h : Fv b m) (hp : plan.length ≤ 200) (hr : ∀ r ∈ plan, Rv b r) (hσ : σ ≠ []) {ss ys : List (List Rock.Blk)} (hrun : Rock.run b m plan = some (ss, ys)) :
    lim T (.call false i_rock_bedded_run [.agg [.int .i64 b.f.x, .int .i64 b.f.y, .int .i64 b.f.z, .int .i64 b.f.k, .lst b.tab.length (b.tab.flatMap Rw.enc), .int .i64 b.stiff, .int .i64 b.lift, .int .i64 b.deep, .lst b.wells.length (b.wells.flatMap Bore.enc), .str m.name, .lst m.vals.length (m.vals.flatMap intE)], .lst plan.length (plan.flatMap inL)] σ) = some (.val (.agg [.lst ss.length (ss.flatMap stL), .lst ys.length (ys.flatMap stL)]) σ) := by
  refine call_of T_rock_bedded_run e_rock_bedded_run rfl ?_
  have hf := fun σ hσ => C_firstSt (σ := σ) h hσ
  simp only [stE] at hf
  simp [-List.length_flatMap, -List.map_take, eF, hf, cl_rw, cl_bore, cl_int]
  refine WL.to (L_run (σ := σ) h hp hr plan.length 0 0 0 [firstSt b m] [] (firstSt b m) (by omega) rfl rfl rfl (Sv.first h)) (by simp) (by simp [stL]) ?_
  rw [List.drop_zero, show runFrom b m [firstSt b m] [] (firstSt b m) plan = some (ss, ys) from hrun]
  rintro x e σ' ⟨v, u, rfl, g4, rfl⟩
  simp [-List.length_flatMap, -List.map_take, eF, g4]
  have c1 : ∀ x : List Rock.Blk, D.cleanL (stL x) = true := fun x => by simp [stL, D.clean, cl_blk]
  rw [frz_agg (by simp) (by omega)]
  simp only [frzL_cons, frzL_nil]
  rw [k_out (f := stL) (w := 1) (l := ss) (by decide) (fun _ => rfl) c1 hσ (by simp)]
  simp only [List.set_cons_succ, List.set_cons_zero]
  rw [k_out (f := stL) (w := 1) (l := ys) (by decide) (fun _ => rfl) c1 hσ (by simp)]
  exact ⟨_, rfl⟩
theorem C_runNo {b : Bed} {m : Mdl} {plan : List (List Int)} (h : Fv b m) (hp : plan.length ≤ 200) (hr : ∀ r ∈ plan, Rv b r) (hrun : Rock.run b m plan = none) :
    lim T (.call false i_rock_bedded_run [.agg [.int .i64 b.f.x, .int .i64 b.f.y, .int .i64 b.f.z, .int .i64 b.f.k, .lst b.tab.length (b.tab.flatMap Rw.enc), .int .i64 b.stiff, .int .i64 b.lift, .int .i64 b.deep, .lst b.wells.length (b.wells.flatMap Bore.enc), .str m.name, .lst m.vals.length (m.vals.flatMap intE)], .lst plan.length (plan.flatMap inL)] σ) = some (.thr (.ifc 205 (.agg [])) σ) := by
  refine throws_of T_rock_bedded_run e_rock_bedded_run rfl ?_
  have hf := fun σ hσ => C_firstSt (σ := σ) h hσ
  simp only [stE] at hf
  simp [-List.length_flatMap, -List.map_take, eF, hf, cl_rw, cl_bore, cl_int]
  refine WL.to (L_run (σ := σ) h hp hr plan.length 0 0 0 [firstSt b m] [] (firstSt b m) (by omega) rfl rfl rfl (Sv.first h)) (by simp) (by simp [stL]) ?_
  rw [List.drop_zero, show runFrom b m [firstSt b m] [] (firstSt b m) plan = none from hrun]
  rintro x e σ' ⟨rfl, seg, rfl⟩
  simp [D.clean]
end Go.Proofs.YtehandllpmlcoaaGreat
