/-
  One step of the whole is sound, if what it asks is.
-/
import Derived.Test.YticpenoicajakaaAbsSound
set_option linter.unusedVariables false
set_option linter.unusedSimpArgs false
namespace Go.Abs
open Go

/-- A table of functions that are the program's. -/
def TOk (P : Program) (T : Tbl) : Prop :=
  ∀ f fn, T f = some fn → ∃ F c ann, P.funcs[f]? = some F ∧ F.name ≠ "runtime.NumGoroutine" ∧ F.body = some c ∧ fnC P ann F = some fn

theorem get_mkEnv {args : List D} : ∀ {k t : Nat}, get (mkEnv k args) t = if k ≤ t then (args[t - k]?).getD .undef else .undef := by
  induction args with
  | nil => intro k t; simp [mkEnv, get]
  | cons d ds ih =>
    intro k t
    simp only [mkEnv, get, ih]
    by_cases h : k = t
    · subst h; simp
    · rw [if_neg h]
      by_cases h2 : k ≤ t
      · rw [if_pos h2, if_pos (by omega), show t - k = (t - (k + 1)) + 1 from by omega, List.getElem?_cons_succ]
      · rw [if_neg h2, if_neg (by omega)]

theorem fnC_inv {P : Program} {ann : Ann} {F : Func} {c : Code} {fn : Fn} (hb : F.body = some c) (h : fnC P ann F = some fn) :
    codeC P ann F.ntmps 0 c = some fn.body ∧ ressC P ann F.results.toList = some fn.res ∧ fn.npar ≤ F.ntmps := by
  unfold fnC at h
  rw [hb] at h
  dsimp only at h
  split at h
  case h_2 => cases h
  rename_i c' rs h1 h2
  simp only [Option.ite_none_right_eq_some] at h
  obtain ⟨h3, h⟩ := h
  cases h
  exact ⟨h1, h2, h3⟩

section
variable {P : Program} {T : Tbl} {O : Oracle}

theorem call_sound (hT : TOk P T) (hm : P.follows .mixedOrders = true) (hO : OrOk P (CR0 P) O) {kp : Bool} {f : Nat} {args : List D} {σ : Stack} {r : R}
    (h : stepQ T O (.call kp f args σ) = some r) : AnsOk P (CR0 P) (.call kp f args σ) r := by
  simp only [stepQ] at h
  cases hTf : T f with
  | none => simp [hTf] at h
  | some fn =>
  rw [hTf] at h
  dsimp only at h
  split at h
  case isFalse => cases h
  rename_i hlen
  obtain ⟨F, c, ann, hF, hname, hbody, hfn⟩ := hT f fn hTf
  obtain ⟨hcode, hress, hnp⟩ := fnC_inv hbody hfn
  cases hac : acode O fn.body (mkEnv 0 args) (if kp then σ else [] :: σ) with
  | none => simp [hac] at h
  | some y =>
  obtain ⟨x, e, σ1⟩ := y
  rw [hac] at h
  have hx : ∀ id, x ≠ .exit id := by intro id hid; subst hid; simp at h
  obtain ⟨ds, hds, h⟩ : ∃ ds, resL e σ1 fn.res = some ds ∧ (if kp then some (R.val (mkRes ds) σ1) else
            match frz (σ.length - 1) deep (mkRes ds) σ1 with
            | (d, _ :: σ2) => some (.val d σ2)
            | _ => none) = some r := by
    cases x with
    | exit id => exact absurd rfl (hx id)
    | normal =>
      dsimp only at h
      cases hres : resL e σ1 fn.res with
      | none => rw [hres] at h; cases h
      | some ds => rw [hres] at h; exact ⟨ds, rfl, h⟩
    | ret =>
      dsimp only at h
      cases hres : resL e σ1 fn.res with
      | none => rw [hres] at h; cases h
      | some ds => rw [hres] at h; exact ⟨ds, rfl, h⟩
  -- the walk, from whatever memory
  have walk : ∀ base g w (vs : Array Value), Inv (CR0 P) base g σ w → LowS σ → 0 < σ.length → RelL g args vs.toList → Goes (if kp then σ else [] :: σ) σ1 ∧ LowS σ1 ∧
      ∀ cs, ∃ v w' fr g1, Steps P (lone (Frame.enter P f vs .normal) cs w) (lone fr cs w') ∧ fr.fn = f ∧ fr.leaving P w' (.returned v) ∧ Ev g w g1 w' ∧ Inv (CR0 P) base g1 σ1 w' ∧ RelV g1 (mkRes ds) v := by
    intro base g w vs hi hl hp hr
    have hi0 : Inv (CR0 P) base g (if kp then σ else [] :: σ) w := by cases kp; exact hi.push; exact hi
    have hl0 : LowS (if kp then σ else [] :: σ) := by cases kp; exact hl.push hi; exact hl
    have hp0 : 0 < (if kp then σ else [] :: σ).length := by cases kp; simp; exact hp
    have hsz : vs.size = args.length := by have := hr.length; simpa using this.symm
    let b : Frame := Frame.enter P f vs .normal
    let a : Act := ⟨vs ++ Array.replicate (F.ntmps - vs.size) Go.undef, []⟩
    have hfr : Frame.enter P f vs .normal = b.atR a [.code c] := by
      simp [b, a, Frame.enter, Frame.atR, hF, hbody]
    have hrel : ∀ t, RelV g (get (mkEnv 0 args) t) (a.tmps.getD t Go.undef) := by
      intro t
      rw [get_mkEnv, if_pos (Nat.zero_le _), Nat.sub_zero]
      cases ht : args[t]? with
      | none => exact .undef _
      | some d =>
        obtain ⟨c0, hc0, hrc⟩ := hr.get ht
        have hlt : t < vs.size := by have := (List.getElem?_eq_some_iff.1 ht).1; omega
        have : a.tmps.getD t Go.undef = c0 := by
          simp only [a, Array.getD_eq_getD_getElem?]
          rw [Array.getElem?_append_left hlt]
          simp at hc0
          rw [hc0]; rfl
        rw [this]; exact hrc
    have hno : ∀ t s cs, get (mkEnv 0 args) t ≠ .own s cs := fun t s cs => not_own (hrel t) s cs
    have ha : At (CR0 P) base ann.ownv g w F.ntmps b g w (fun _ => 0) (mkEnv 0 args) (if kp then σ else [] :: σ) a := by
      refine ⟨⟨fun t => ?_, fun t s cs ht => absurd ht (hno t s cs), fun t t' s s' cs cs' ht => absurd ht (hno t s cs)⟩, Ev.refl g w, hi0, hl0, hp0, ?_, ⟨[], rfl, List.nodup_nil, by simp⟩, .inl rfl⟩
      · have := hrel t
        cases hd : get (mkEnv 0 args) t with
        | own s cs => trivial
        | vr => rw [hd] at this; cases this
        | _ => rw [hd] at this; exact this
      · simp only [a, Array.size_append, Array.size_replicate]; omega
    have hgoes : Goes (if kp then σ else [] :: σ) σ1 ∧ LowS σ1 := by
      obtain ⟨_, _, _, _, _, _, h2, _, _, h5⟩ := code_ok (b := b) (cs := []) (k := []) hm hO c hcode hac ha
      exact ⟨h5, h2.low⟩
    refine ⟨hgoes.1, hgoes.2, fun cs => ?_⟩
    obtain ⟨g1, w1, B1, a1, todo, h1, h2, h3, h4, h5⟩ := code_ok (b := b) (cs := cs) (k := []) hm hO c hcode hac ha
    have hret : step P (lone (b.atR a1 todo) cs w1) = .next (lone { b.atR a1 todo with mode := .returning } cs w1) := by
      cases x with
      | exit id => exact absurd rfl (hx id)
      | normal => obtain rfl := h4; exact stepR_end rfl
      | ret => obtain ⟨k', rfl⟩ := h4; exact stepR_ret rfl
    obtain ⟨rs, hmk⟩ := h2.marks
    obtain ⟨w2, u1, u2, u3, u4⟩ := unmark (P := P) rs w1 g1 a1 { b.atR a1 todo with mode := .returning } cs rfl hmk.eq hmk.nodup hmk.all h2.fr h2.ev h2.inv
    obtain ⟨v, hv1, hv2⟩ := results_ok (P := P) u2 u4 hress hds
    refine ⟨v, w2, { b.atR a1 todo with mode := .returning, defers := [] }, g1, ?_, rfl, ⟨rfl, rfl, rfl, F, hF, hv1⟩, u3, u4, hv2⟩
    rw [hfr]; exact .trans h1 (.head hret u1)
  cases kp with
  | true =>
    simp only [if_true, Option.some.injEq] at h
    subst h
    refine ⟨⟨F, c, hF, hname, hbody⟩, fun base g w vs hi hl hp hr => ?_⟩
    obtain ⟨h1, h2, h3⟩ := walk base g w vs hi hl hp hr
    refine ⟨by simpa using h1, fun cs => ?_⟩
    obtain ⟨v, w', fr, g1, k1, k2, k3, k4, k5, k6⟩ := h3 cs
    exact ⟨.returned v, w', fr, ⟨v, g1, rfl, k4, k5, k6⟩, k1, k2, k3⟩
  | false =>
    simp only [Bool.false_eq_true, if_false] at h
    cases hfz : frz (σ.length - 1) deep (mkRes ds) σ1 with
    | mk d σ2 =>
    rw [hfz] at h
    cases σ2 with
    | nil => cases h
    | cons s σ2 =>
    simp only [Option.some.injEq] at h
    subst h
    refine ⟨⟨F, c, hF, hname, hbody⟩, fun base g w vs hi hl hp hr => ?_⟩
    obtain ⟨h1, h2, h3⟩ := walk base g w vs hi hl hp hr
    have hspec := frz_spec (σ.length - 1) deep (mkRes ds) σ1
    rw [hfz] at hspec
    obtain ⟨hlow, hgo⟩ := hspec
    have hl2 : LowS (s :: σ2) := hgo.low h2
    have hlen2 : σ2.length = σ.length := by
      have k1 := hgo.len
      have k2 := h1.len
      simp at k1 k2; omega
    have hlvl : ∀ l i L, g.loc l i = some L → l < σ2.length := fun l i L h => by rw [hlen2]; exact hi.lvl h
    have hend : ∀ cs, ∃ v w' fr g2, Steps P (lone (Frame.enter P f vs .normal) cs w) (lone fr cs w') ∧ fr.fn = f ∧ fr.leaving P w' (.returned v) ∧ Ev g w g2 w' ∧ Inv (CR0 P) base g2 σ2 w' ∧ LowS σ2 ∧ RelV g2 d v := by
      intro cs
      obtain ⟨v, w', fr, g1, k1, k2, k3, k4, k5, k6⟩ := h3 cs
      obtain ⟨g2, i2, e2, r2⟩ := frz_ok (CR := CR0 P) (base := base) (σ.length - 1) deep (mkRes ds) σ1 g1 w' v k5 k6
      rw [hfz] at i2 r2
      obtain ⟨i3, l3⟩ := i2.pop hl2
      refine ⟨v, w', fr, g2.cut σ2.length, k1, k2, k3, (k4.trans e2).cut hlvl, i3, l3, r2.cut ?_⟩
      rw [hlen2]
      rwa [show σ.length - 1 + 1 = σ.length from by omega] at hlow
    refine ⟨⟨hlen2, fun _ => ?_⟩, fun cs => ?_⟩
    · obtain ⟨_, _, _, _, _, _, _, _, _, k7, _⟩ := hend []
      exact k7
    · obtain ⟨v, w', fr, g2, k1, k2, k3, k4, k5, _, k6⟩ := hend cs
      exact ⟨.returned v, w', fr, ⟨v, g2, rfl, k4, k5, k6⟩, k1, k2, k3⟩
end
end Go.Abs
