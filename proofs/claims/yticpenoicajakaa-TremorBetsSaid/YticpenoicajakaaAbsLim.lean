/-
  What is answered at last is what one step more answers.
-/
import Derived.Test.YticpenoicajakaaAbsCore
set_option linter.unusedVariables false
set_option linter.unusedSimpArgs false
namespace Go.Abs

/-- An answer that hangs on finitely many of the oracle's alone. -/
def Hangs {α : Type} (O : Oracle) (F : Oracle → Option α) (x : α) : Prop :=
  ∃ L : List (Q × R), (∀ p ∈ L, O p.1 = some p.2) ∧ ∀ O' : Oracle, (∀ p ∈ L, O' p.1 = some p.2) → F O' = some x

variable {α β γ : Type} {O : Oracle}

theorem Hangs.const {x : α} : Hangs O (fun _ => some x) x := ⟨[], by simp, fun _ _ => rfl⟩

theorem Hangs.of {F : Oracle → Option α} {x : α} (h : ∀ O', F O' = some x) : Hangs O F x := ⟨[], by simp, fun O' _ => h O'⟩

theorem Hangs.ask {q : Q} {r : R} (h : O q = some r) : Hangs O (fun O' => O' q) r := ⟨[(q, r)], by simpa using h, fun O' h' => h' (q, r) (by simp)⟩

theorem Hangs.andThen {F : Oracle → Option α} {G : Oracle → Option β} {x : α} {y : β} (h1 : Hangs O F x) (h2 : Hangs O G y) {H : Oracle → Option γ} {z : γ}
    (h : ∀ O', F O' = some x → G O' = some y → H O' = some z) : Hangs O H z := by
  obtain ⟨L1, k1, k2⟩ := h1
  obtain ⟨L2, k3, k4⟩ := h2
  refine ⟨L1 ++ L2, fun p hp => ?_, fun O' h' => h O' (k2 O' fun p hp => h' p (by simp [hp])) (k4 O' fun p hp => h' p (by simp [hp]))⟩
  rcases List.mem_append.1 hp with hp | hp
  · exact k1 p hp
  · exact k3 p hp

theorem Hangs.map {F : Oracle → Option α} {x : α} (h1 : Hangs O F x) {H : Oracle → Option β} {z : β} (h : ∀ O', F O' = some x → H O' = some z) : Hangs O H z := by
  obtain ⟨L1, k1, k2⟩ := h1
  exact ⟨L1, k1, fun O' h' => h O' (k2 O' h')⟩

theorem hangs_callv {kp : Bool} {fv : D} {args : List D} {σ : Stack} {x : D × Stack} (h : callv O kp fv args σ = some x) : Hangs O (fun O' => callv O' kp fv args σ) x := by
  cases fv <;> simp only [callv, reduceCtorEq] at h
  · rename_i f first cap
    cases hq : O (.call kp f (first ++ args ++ cap) σ) with
    | none => rw [hq] at h; cases h
    | some r => exact (Hangs.ask hq).map fun O' h' => by simp only [callv, h']; rw [hq] at h; exact h
  · rename_i l i
    cases hq : O (.round l i args σ) with
    | none => rw [hq] at h; cases h
    | some r => exact (Hangs.ask hq).map fun O' h' => by simp only [callv, h']; rw [hq] at h; exact h

theorem hangs_callf {fv : D} {args : List D} {σ : Stack} {x : D × Stack} (h : callf O fv args σ = some x) : Hangs O (fun O' => callf O' fv args σ) x := by
  cases fv <;> simp only [callf, reduceCtorEq] at h
  rename_i f first cap
  cases hq : O (.call false f (first ++ args ++ cap) σ) with
  | none => rw [hq] at h; cases h
  | some r => exact (Hangs.ask hq).map fun O' h' => by simp only [callf, h']; rw [hq] at h; exact h

theorem hangs_aop {op : Op} {e : Env} {σ : Stack} {x : Env × Stack} (h : aop O op e σ = some x) : Hangs O (fun O' => aop O' op e σ) x := by
  obtain ⟨dst, grd, ntr, k⟩ := op
  cases k
  case call kp f args =>
    simp only [aop] at h
    cases hc : callv O kp (opd e f) (args.map (opd e)) σ with
    | none => rw [hc] at h; cases h
    | some y => exact (hangs_callv hc).map fun O' h' => by simp only [aop, h']; rw [hc] at h; exact h
  all_goals exact .of fun O' => h

theorem hangs_aops : ∀ {ops : List Op} {e : Env} {σ : Stack} {x : Env × Stack}, aops O ops e σ = some x → Hangs O (fun O' => aops O' ops e σ) x
  | [], e, σ, x, h => .of fun O' => h
  | op :: r, e, σ, x, h => by
    simp only [aops] at h
    cases hg : op.grd with
    | none =>
      rw [hg] at h
      simp only [Option.bind_eq_some_iff] at h
      obtain ⟨y, h1, h2⟩ := h
      exact (hangs_aop h1).andThen (hangs_aops h2) fun O' k1 k2 => by simp only [aops, hg, k1, Option.bind_some, k2]
    | some p =>
      obtain ⟨g, want⟩ := p
      rw [hg] at h
      dsimp only at h
      cases hb : (get e g).bit <;> rw [hb] at h <;> try (cases h; done)
      rename_i b
      dsimp only at h
      split at h
      · rename_i hw
        simp only [Option.bind_eq_some_iff] at h
        obtain ⟨y, h1, h2⟩ := h
        exact (hangs_aop h1).andThen (hangs_aops h2) fun O' k1 k2 => by simp only [aops, hg, hb, if_pos hw, k1, Option.bind_some, k2]
      · rename_i hw
        exact (hangs_aops h).map fun O' k1 => by simp only [aops, hg, hb, if_neg hw, k1]

theorem hangs_acode : ∀ {c : Cmd} {e : Env} {σ : Stack} {x : Exit × Env × Stack}, acode O c e σ = some x → Hangs O (fun O' => acode O' c e σ) x
  | .nop, e, σ, x, h => .of fun O' => h
  | .exit id, e, σ, x, h => .of fun O' => h
  | .ret, e, σ, x, h => .of fun O' => h
  | .reg live ops, e, σ, x, h => by
    simp only [acode, Option.map_eq_some_iff] at h
    obtain ⟨y, h1, rfl⟩ := h
    exact (hangs_aops h1).map fun O' k => by simp only [acode, k, Option.map_some]
  | .seq a b, e, σ, x, h => by
    simp only [acode, Option.bind_eq_some_iff] at h
    obtain ⟨⟨x1, e1, σ1⟩, h1, h2⟩ := h
    cases x1 with
    | normal => exact (hangs_acode h1).andThen (hangs_acode h2) fun O' k1 k2 => by simp only [acode, k1, Option.bind_some, k2]
    | exit id => exact (hangs_acode h1).map fun O' k1 => by simp only [acode, k1, Option.bind_some]; exact h2
    | ret => exact (hangs_acode h1).map fun O' k1 => by simp only [acode, k1, Option.bind_some]; exact h2
  | .ite c a b, e, σ, x, h => by
    simp only [acode] at h
    cases hb : opd e c <;> rw [hb] at h <;> try (cases h; done)
    rename_i t
    cases t with
    | true => exact (hangs_acode (by simpa using h)).map fun O' k => by simp only [acode, hb, if_true, k]
    | false => exact (hangs_acode (by simpa using h)).map fun O' k => by simp only [acode, hb, Bool.false_eq_true, if_false, k]
  | .blk id a, e, σ, x, h => by
    simp only [acode, Option.map_eq_some_iff] at h
    obtain ⟨y, h1, rfl⟩ := h
    exact (hangs_acode h1).map fun O' k => by simp only [acode, k, Option.map_some]
  | .loop live seg a, e, σ, x, h => by
    simp only [acode] at h
    cases hq : O (.loop live seg a e σ) with
    | none => rw [hq] at h; cases h
    | some r => exact (Hangs.ask hq).map fun O' k => by simp only [acode, k]; rw [hq] at h; exact h
  | .rngf live f params asg body, e, σ, x, h => by
    simp only [acode] at h
    split at h
    case h_2 => cases h
    rename_i l i σ1 hn
    cases hc : callf O (opd e f) [.yld l i] σ1 with
    | none => rw [hc] at h; cases h
    | some y =>
      rw [hc] at h
      exact (hangs_callf hc).map fun O' k => by simp only [acode, hn, k]; exact h

theorem hangs_stepQ {T : Tbl} : ∀ {q : Q} {r : R}, stepQ T O q = some r → Hangs O (fun O' => stepQ T O' q) r
  | .call kp f args σ, r, h => by
    simp only [stepQ] at h
    cases hT : T f with
    | none => rw [hT] at h; cases h
    | some fn =>
    rw [hT] at h
    dsimp only at h
    split at h
    case isFalse => cases h
    rename_i hl
    cases hc : acode O fn.body (mkEnv 0 args) (if kp then σ else [] :: σ) with
    | none => rw [hc] at h; cases h
    | some y =>
      rw [hc] at h
      exact (hangs_acode hc).map fun O' k => by simp only [stepQ, hT, if_pos hl, k]; exact h
  | .loop live seg c e σ, r, h => by
    simp only [stepQ] at h
    cases hc : acode O c (restrict live e) (if seg then [] :: σ else σ) with
    | none => rw [hc] at h; cases h
    | some y =>
      obtain ⟨x, e1, σ1⟩ := y
      rw [hc] at h
      dsimp only at h
      cases x with
      | normal =>
        dsimp only at h
        exact (hangs_acode hc).andThen (Hangs.ask h) fun O' k1 k2 => by simp only [stepQ, k1]; exact k2
      | exit id => exact (hangs_acode hc).map fun O' k1 => by simp only [stepQ, k1]; exact h
      | ret => exact (hangs_acode hc).map fun O' k1 => by simp only [stepQ, k1]; exact h
  | .round l i args σ, r, h => by
    simp only [stepQ] at h
    cases hb : blk? σ l i with
    | none => rw [hb] at h; cases h
    | some bl =>
    rw [hb] at h
    cases bl with
    | cells => cases h
    | dead => cases h
    | loop lp =>
    dsimp only at h
    split at h
    case isFalse => cases h
    rename_i hl
    cases hc : acode O lp.asg (putAll lp.params args lp.env) ([] :: σ) with
    | none => rw [hc] at h; cases h
    | some y =>
    obtain ⟨x, e1, σ1⟩ := y
    rw [hc] at h
    cases x with
    | exit id => cases h
    | ret => cases h
    | normal =>
    dsimp only at h
    cases hb1 : blk? σ1 l i with
    | none => rw [hb1] at h; cases h
    | some bl1 =>
    rw [hb1] at h
    cases bl1 with
    | cells => cases h
    | dead => cases h
    | loop lp1 =>
    dsimp only at h
    split at h
    case isFalse => cases h
    rename_i hs
    cases hd : acode O lp.body e1 (setBlk σ1 l i (.loop { lp1 with state := 1 })) with
    | none => rw [hd] at h; cases h
    | some z =>
    rw [hd] at h
    exact (hangs_acode hc).andThen (hangs_acode hd) fun O' k1 k2 => by simp only [stepQ, hb, if_pos hl, k1, hb1, if_pos hs, k2]; exact h

theorem stepQ_mono {T : Tbl} {O O' : Oracle} (h : ∀ q r, O q = some r → O' q = some r) {q : Q} {r : R} (hq : stepQ T O q = some r) : stepQ T O' q = some r := by
  obtain ⟨L, h1, h2⟩ := hangs_stepQ hq
  exact h2 O' fun p hp => h _ _ (h1 p hp)

theorem it_mono {T : Tbl} : ∀ {n m : Nat}, n ≤ m → ∀ {q : Q} {r : R}, it T n q = some r → it T m q = some r
  | 0, m, _, q, r, h => by simp [it] at h
  | n + 1, 0, hnm, q, r, h => by omega
  | n + 1, m + 1, hnm, q, r, h => stepQ_mono (fun _ _ hh => it_mono (Nat.le_of_succ_le_succ hnm) hh) h

theorem lim_iff {T : Tbl} {q : Q} {r : R} : lim T q = some r ↔ ∃ n, it T n q = some r := by
  constructor
  · intro h
    unfold lim at h
    split at h
    · rename_i hex
      cases h
      exact ⟨_, hex.choose_spec.choose_spec⟩
    · cases h
  · rintro ⟨n, h⟩
    have hex : ∃ n r, it T n q = some r := ⟨n, r, h⟩
    unfold lim
    rw [dif_pos hex]
    have h1 := it_mono (Nat.le_max_left n hex.choose) h
    have h2 := it_mono (Nat.le_max_right n hex.choose) hex.choose_spec.choose_spec
    rw [h1] at h2
    cases h2
    rfl

theorem lim_all {T : Tbl} : ∀ {L : List (Q × R)}, (∀ p ∈ L, lim T p.1 = some p.2) → ∃ n, ∀ p ∈ L, it T n p.1 = some p.2
  | [], _ => ⟨0, by simp⟩
  | p :: L, h => by
    obtain ⟨n, hn⟩ := lim_all (L := L) fun q hq => h q (by simp [hq])
    obtain ⟨m, hm⟩ := lim_iff.1 (h p (by simp))
    refine ⟨max n m, fun q hq => ?_⟩
    rcases List.mem_cons.1 hq with rfl | hq
    · exact it_mono (Nat.le_max_right n m) hm
    · exact it_mono (Nat.le_max_left n m) (hn q hq)

/-- What one step says of the last answers is a last answer. -/
theorem lim_step {T : Tbl} {q : Q} {r : R} (h : stepQ T (lim T) q = some r) : lim T q = some r := by
  obtain ⟨L, h1, h2⟩ := hangs_stepQ h
  obtain ⟨n, hn⟩ := lim_all h1
  exact lim_iff.2 ⟨n + 1, h2 (it T n) hn⟩

end Go.Abs
