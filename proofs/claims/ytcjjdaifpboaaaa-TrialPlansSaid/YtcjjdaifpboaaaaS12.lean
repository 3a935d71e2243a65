/-
  Divisions that fit, of both.
-/
import Derived.Test.YtcjjdaifpboaaaaS6
set_option linter.unusedVariables false
set_option linter.unusedSimpArgs false
namespace Go.Proofs.Ytcjjdaifpboaaaa
open Go Go.Abs Go.Trial
variable {σ : Stack}

def pAt (ps : List Int) (i : Int) : Int := (ps[i.toNat]?).getD 0
def fitOk (s : Surv) (ps : List Int) (x : Seen) : Bool := !((sure s x && !decide (pAt ps x.f = pAt ps x.t)) || (agin s x && decide (pAt ps x.f = pAt ps x.t)))
theorem qI (a b : Int) : (a == b) = decide (a = b) := by rw [Bool.eq_iff_iff]; simp
theorem L_fit {s : Surv} (h : Sv s) {ps : List Int} (hp : (ps.length : Int) = s.w) : ∀ (m i : Nat), i + m = s.l.length →
    WL T [1, 2, 9, 10, 11] false f_trial_Survey_fits_l8 [(1, .lst ps.length (ps.flatMap intE)), (2, .cref s.enc), (9, .lst s.l.length (s.l.flatMap Seen.enc)), (10, .int .i64 s.l.length), (11, .int .i64 i)] σ
      (fun x e σ' => σ' = σ ∧ if allB (s.l.drop i) (fitOk s ps) then x = .exit 0 else x = .ret ∧ get e 4 = .bool false)
  | 0, i, hi => by
    refine WL_step e_trial_Survey_fits_l8 ?_
    have h1 : ¬ i < s.l.length := by omega
    have h2 : s.l.drop i = [] := List.drop_eq_nil_of_le (by omega)
    simp [-List.length_flatMap, -List.map_take, e_trial_Survey_fits_r0, e_trial_Survey_fits_r1, e_trial_Survey_fits_r2, e_trial_Survey_fits_r3, e_trial_Survey_fits_r4, e_trial_Survey_fits_r5, e_trial_Survey_fits_r6, e_trial_Survey_fits_r7, e_trial_Survey_fits_r9, h1, h2, allB]
  | m + 1, i, hi => by
    refine WL_step e_trial_Survey_fits_l8 ?_
    have h1 : i < s.l.length := by omega
    obtain ⟨x, hx⟩ : ∃ x, s.l[i]? = some x := ⟨_, List.getElem?_eq_getElem h1⟩
    have hn := h.n
    have hw := h.w
    have h4 := wnext h1 (by omega)
    have hv := h.l x (List.mem_of_getElem? hx)
    have ih := L_fit h hp m (i + 1) (by omega)
    have h2 := flat_at (f := Seen.enc) (w := 4) (fun _ => rfl) hx
    have hS := fun σ => @C_joined σ s x
    have hA := fun σ => @C_apart σ s x
    have e1 : allB (s.l.drop i) (fitOk s ps) = (fitOk s ps x && allB (s.l.drop (i + 1)) (fitOk s ps)) := by rw [dropS hx]; rfl
    rw [e1]
    have e2 : fitOk s ps x = !((sure s x && !decide (pAt ps x.f = pAt ps x.t)) || (agin s x && decide (pAt ps x.f = pAt ps x.t))) := rfl
    rw [e2]
    obtain ⟨f, t, d⟩ := x
    obtain ⟨F, rfl, hF⟩ := nat_of hv.1 hw.2
    obtain ⟨U, rfl, hU⟩ := nat_of hv.2.1 hw.2
    dsimp only at hv
    have lF : F < ps.length := by have := hv.1; omega
    have lU : U < ps.length := by have := hv.2.1; omega
    obtain ⟨a, ha⟩ : ∃ a, ps[F]? = some a := ⟨_, List.getElem?_eq_getElem lF⟩
    obtain ⟨b, hb⟩ : ∃ a, ps[U]? = some a := ⟨_, List.getElem?_eq_getElem lU⟩
    have a1 := flat_at (f := intE) (w := 1) (fun _ => rfl) ha
    have b1 := flat_at (f := intE) (w := 1) (fun _ => rfl) hb
    simp only [Nat.mul_one] at a1 b1
    have pa : pAt ps ({ f := (F : Int), t := (U : Int), d := d } : Seen).f = a := by simp [pAt, ha]
    have pb : pAt ps ({ f := (F : Int), t := (U : Int), d := d } : Seen).t = b := by simp [pAt, hb]
    rw [pa, pb]
    obtain ⟨p, hp'⟩ : ∃ p, p = decide (a = b) := ⟨_, rfl⟩
    have q1 : (a == b) = p := by rw [qI, hp']
    rw [← hp']
    clear hp' e1 e2 pa pb
    simp only [Seen.enc] at hS hA h2
    obtain ⟨sj, hsj⟩ : ∃ q, q = sure s ⟨F, U, d⟩ := ⟨_, rfl⟩
    obtain ⟨sa, hsa⟩ : ∃ q, q = agin s ⟨F, U, d⟩ := ⟨_, rfl⟩
    rw [← hsj] at hS ⊢
    rw [← hsa] at hA ⊢
    clear hsj hsa
    cases sj <;> cases sa <;> cases p <;> simp [-List.length_flatMap, -List.map_take, e_trial_Survey_fits_r0, e_trial_Survey_fits_r1, e_trial_Survey_fits_r2, e_trial_Survey_fits_r3, e_trial_Survey_fits_r4, e_trial_Survey_fits_r5, e_trial_Survey_fits_r6, e_trial_Survey_fits_r7, e_trial_Survey_fits_r9, h1, h2, h4, lF, lU, a1, b1, q1, hS, hA] <;> exact WL.to ih (by simp) rfl fun x e σ' hh => hh
theorem C_fits {s : Surv} {q : D} (hq : q.blur = .lst s.l.length (s.l.flatMap Seen.enc)) (h : Sv s) {ps : List Int} (hp : (ps.length : Int) = s.w) : lim T (.call false i_trial_Survey_fits [.agg [.int .i64 s.w, .int .i64 s.lv, q], .lst ps.length (ps.flatMap intE)] σ) = some (.val (.bool (allB s.l (fitOk s ps))) σ) := by
  refine call_of T_trial_Survey_fits e_trial_Survey_fits rfl ?_
  have hn := h.n
  simp [-List.length_flatMap, -List.map_take, e_trial_Survey_fits_r0, e_trial_Survey_fits_r1, e_trial_Survey_fits_r2, e_trial_Survey_fits_r3, e_trial_Survey_fits_r4, e_trial_Survey_fits_r5, e_trial_Survey_fits_r6, e_trial_Survey_fits_r7, e_trial_Survey_fits_r9, hq]
  refine WL.to (L_fit (σ := [] :: σ) h hp s.l.length 0 (by omega)) (by simp) rfl ?_
  rintro x e σ' ⟨rfl, hh⟩
  rw [List.drop_zero] at hh
  cases hA : allB s.l (fitOk s ps)
  · rw [hA] at hh
    simp only [Bool.false_eq_true, if_false] at hh
    obtain ⟨rfl, g4⟩ := hh
    simp [g4]
  · rw [hA] at hh
    simp only [if_true] at hh
    subst hh
    simp [-List.length_flatMap, -List.map_take, e_trial_Survey_fits_r0, e_trial_Survey_fits_r1, e_trial_Survey_fits_r2, e_trial_Survey_fits_r3, e_trial_Survey_fits_r4, e_trial_Survey_fits_r5, e_trial_Survey_fits_r6, e_trial_Survey_fits_r7, e_trial_Survey_fits_r9]
theorem C_Fits {s : Surv} {q : D} (hq : q.blur = .lst s.l.length (s.l.flatMap Seen.enc)) (hl : s.l.length ≤ 100000) {ps : List Int} : lim T (.call false i_trial_Fits [.agg [.int .i64 s.w, .int .i64 s.lv, q], .lst ps.length (ps.flatMap intE)] σ) = some (.val (.bool (decide (sFault s = 0) && (decide ((ps.length : Int) = s.w) && allB s.l (fitOk s ps)))) σ) := by
  refine call_of T_trial_Fits e_trial_Fits rfl ?_
  have hf := fun σ => @C_checkS σ s (.lst s.l.length (s.l.flatMap Seen.enc)) rfl hl
  by_cases h0 : sFault s = 0
  rotate_left
  · simp [-List.length_flatMap, -List.map_take, e_trial_Fits_r0, e_trial_Fits_r1, hq, hf, h0]
  have h := sFault_sv h0
  by_cases hp : (ps.length : Int) = s.w
  rotate_left
  · simp [-List.length_flatMap, -List.map_take, e_trial_Fits_r0, e_trial_Fits_r1, hq, hf, h0, hp]
  have hF := fun σ => @C_fits σ s (.lst s.l.length (s.l.flatMap Seen.enc)) rfl h ps hp
  simp [-List.length_flatMap, -List.map_take, e_trial_Fits_r0, e_trial_Fits_r1, hq, hf, h0, hp, hF]

end Go.Proofs.Ytcjjdaifpboaaaa
