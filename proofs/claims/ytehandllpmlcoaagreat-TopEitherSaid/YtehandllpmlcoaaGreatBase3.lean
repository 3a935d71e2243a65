/- The interpreter, part 3: proved sound against the model. -/
import Derived.Test.YtehandllpmlcoaaGreatBase0
import Derived.Test.YtehandllpmlcoaaGreatBase2
import Derived.Below
import Derived.IntWalk
import Derived.ChangeArms
import Derived.OpenShut
import Derived.WideShapes
import Derived.RowKit
import Derived.Carry
/-
  What is answered at last is what one step more answers.
-/
set_option linter.unusedVariables false
set_option linter.unusedSimpArgs false
namespace Go.Abs

def Hangs {α : Type} (O : Oracle) (F : Oracle → Option α) (x : α) : Prop :=
  ∃ L : List (Q × R), (∀ p ∈ L, O p.1 = some p.2) ∧ ∀ O' : Oracle, (∀ p ∈ L, O' p.1 = some p.2) → F O' = some x

variable {α β γ : Type} {O : Oracle}

theorem Hangs.const {x : α} : Hangs O (fun _ => some x) x := ⟨[], by simp, fun _ _ => rfl⟩

theorem Hangs.of {F : Oracle → Option α} {x : α} (h : ∀ O', F O' = some x) : Hangs O F x := ⟨[], by simp, fun O' _ => h O'⟩

theorem Hangs.ask {q : Q} {r : R} (h : O q = some r) : Hangs O (fun O' => O' q) r := ⟨[(q, r)], by simpa using h, fun O' h' => h' (q, r) (by simp)⟩

theorem Hangs.andThen {F : Oracle → Option α} {G : Oracle → Option β} {x : α} {y : β} (h1 : Hangs O F x) (h2 : Hangs O G y) {H : Oracle → Option γ} {z : γ}
    (h : ∀ O', F O' = some x → G O' = some y → H O' = some z) : Hangs O H z := by
  obtain ⟨L1, k1, k2⟩ := h1
  obtain ⟨L2, k3, k4⟩ := h2
  refine ⟨L1 ++ L2, fun p hp => ?_, fun O' h' => h O' (k2 O' fun p hp => h' p (by simp [hp])) (k4 O' fun p hp => h' p (by simp [hp]))⟩
  rcases List.mem_append.1 hp with hp | hp
  · exact k1 p hp
  · exact k3 p hp

theorem Hangs.map {F : Oracle → Option α} {x : α} (h1 : Hangs O F x) {H : Oracle → Option β} {z : β} (h : ∀ O', F O' = some x → H O' = some z) : Hangs O H z := by
  obtain ⟨L1, k1, k2⟩ := h1
  exact ⟨L1, k1, fun O' h' => h O' (k2 O' h')⟩

theorem agree_all {α : Type} {us : List α} {f : α → Option R} {r : R} (h : agree (us.map f) = some r) : ∀ u ∈ us, f u = some r := by
  cases us with
  | nil => simp [agree] at h
  | cons v vs =>
    simp only [List.map_cons, agree] at h
    split at h
    · rename_i hall
      intro u hu
      rcases List.mem_cons.1 hu with rfl | hu
      · exact h
      · rw [hall (f u) (List.mem_map.2 ⟨u, hu, rfl⟩)]; exact h
    · cases h
theorem all_agree {α : Type} {us : List α} {f : α → Option R} {r : R} (hne : us ≠ []) (h : ∀ u ∈ us, f u = some r) : agree (us.map f) = some r := by
  cases us with
  | nil => exact absurd rfl hne
  | cons v vs =>
    simp only [List.map_cons, agree]
    rw [if_pos, h v (by simp)]
    intro x hx
    obtain ⟨u, hu, rfl⟩ := List.mem_map.1 hx
    rw [h u (by simp [hu]), h v (by simp)]

theorem hangs_callv {kp : Bool} {fv : D} {args : List D} {σ : Stack} {x : D × Stack} (h : callv O kp fv args σ = some x) : Hangs O (fun O' => callv O' kp fv args σ) x := by
  cases fv <;> simp only [callv, reduceCtorEq] at h
  · rename_i f first cap
    cases hq : O (.call kp f (first ++ args ++ cap) σ) with
    | none => rw [hq] at h; cases h
    | some r => exact (Hangs.ask hq).map fun O' h' => by simp only [callv, h']; rw [hq] at h; exact h
  · rename_i l i
    cases hq : O (.round l i args σ) with
    | none => rw [hq] at h; cases h
    | some r => exact (Hangs.ask hq).map fun O' h' => by simp only [callv, h']; rw [hq] at h; exact h

theorem hangs_callf {fv : D} {args : List D} {σ : Stack} {x : D × Stack} (h : callf O fv args σ = some x) : Hangs O (fun O' => callf O' fv args σ) x := by
  cases fv <;> simp only [callf, reduceCtorEq] at h
  rename_i f first cap
  cases hq : O (.call false f (first ++ args ++ cap) σ) with
  | none => rw [hq] at h; cases h
  | some r => exact (Hangs.ask hq).map fun O' h' => by simp only [callf, h']; rw [hq] at h; exact h

theorem hangs_aop {op : Op} {e : Env} {σ : Stack} {x : Env × Stack} (h : aop O op e σ = some x) : Hangs O (fun O' => aop O' op e σ) x := by
  obtain ⟨dst, grd, ntr, k⟩ := op
  cases k
  case call kp f args =>
    simp only [aop] at h
    cases hc : callv O kp (opd e f) (args.map (opd e)) σ with
    | none => rw [hc] at h; cases h
    | some y => exact (hangs_callv hc).map fun O' h' => by simp only [aop, h']; rw [hc] at h; exact h
  all_goals exact .of fun O' => h

theorem hangs_aops : ∀ {ops : List Op} {e : Env} {σ : Stack} {x : Env × Stack}, aops O ops e σ = some x → Hangs O (fun O' => aops O' ops e σ) x
  | [], e, σ, x, h => .of fun O' => h
  | op :: r, e, σ, x, h => by
    simp only [aops] at h
    cases hg : op.grd with
    | none =>
      rw [hg] at h
      simp only [Option.bind_eq_some_iff] at h
      obtain ⟨y, h1, h2⟩ := h
      exact (hangs_aop h1).andThen (hangs_aops h2) fun O' k1 k2 => by simp only [aops, hg, k1, Option.bind_some, k2]
    | some p =>
      obtain ⟨g, want⟩ := p
      rw [hg] at h
      dsimp only at h
      cases hb : (get e g).bit <;> rw [hb] at h <;> try (cases h; done)
      rename_i b
      dsimp only at h
      split at h
      · rename_i hw
        simp only [Option.bind_eq_some_iff] at h
        obtain ⟨y, h1, h2⟩ := h
        exact (hangs_aop h1).andThen (hangs_aops h2) fun O' k1 k2 => by simp only [aops, hg, hb, if_pos hw, k1, Option.bind_some, k2]
      · rename_i hw
        exact (hangs_aops h).map fun O' k1 => by simp only [aops, hg, hb, if_neg hw, k1]

theorem hangs_callr {fv : D} {args : List D} {σ : Stack} {r : R} (h : callr O fv args σ = some r) : Hangs O (fun O' => callr O' fv args σ) r := by
  cases fv <;> simp only [callr, reduceCtorEq] at h
  exact (Hangs.ask h).map fun O' h' => by simp only [callr, h']

theorem hangs_aoptR {live : List Nat} {dst : Option Nat} {post : List Op} {e : Env} {r : Option R} {x : Exit × Env × Stack} (h : aoptR O live dst post e r = some x) : Hangs O (fun O' => aoptR O' live dst post e r) x := by
  cases r with
  | none => simp [aoptR] at h
  | some r =>
    cases r with
    | val d σ' =>
      simp only [aoptR, Option.map_eq_some_iff] at h
      obtain ⟨y, h1, rfl⟩ := h
      exact (hangs_aops h1).map fun O' k => by simp only [aoptR, k, Option.map_some]
    | thr d σ' => exact .of fun O' => h
    | ctl => simp [aoptR] at h

theorem hangs_aopt {live : List Nat} {op : Op} {post : List Op} {e : Env} {σ : Stack} {x : Exit × Env × Stack} (h : aopt O live op post e σ = some x) : Hangs O (fun O' => aopt O' live op post e σ) x := by
  obtain ⟨dst, grd, ntr, k⟩ := op
  cases grd with
  | some _ => simp [aopt] at h
  | none =>
  cases k
  case call kp f args =>
    cases kp with
    | true => simp [aopt] at h
    | false =>
      simp only [aopt] at h
      cases hc : callr O (opd e f) (args.map (opd e)) σ with
      | none => rw [hc] at h; simp [aoptR] at h
      | some r =>
        rw [hc] at h
        exact (hangs_callr hc).andThen (hangs_aoptR h) fun O' k1 k2 => by simp only [aopt, k1, k2]
  case pan y => exact .of fun O' => h
  all_goals simp [aopt] at h

theorem hangs_acode : ∀ {c : Cmd} {e : Env} {σ : Stack} {x : Exit × Env × Stack}, acode O c e σ = some x → Hangs O (fun O' => acode O' c e σ) x
  | .nop, e, σ, x, h => .of fun O' => h
  | .frz _, e, σ, x, h => .of fun O' => h
  | .exit id, e, σ, x, h => .of fun O' => h
  | .ret, e, σ, x, h => .of fun O' => h
  | .reg live ops, e, σ, x, h => by
    simp only [acode, Option.map_eq_some_iff] at h
    obtain ⟨y, h1, rfl⟩ := h
    exact (hangs_aops h1).map fun O' k => by simp only [acode, k, Option.map_some]
  | .seq a b, e, σ, x, h => by
    simp only [acode, Option.bind_eq_some_iff] at h
    obtain ⟨⟨x1, e1, σ1⟩, h1, h2⟩ := h
    cases x1 with
    | normal => exact (hangs_acode h1).andThen (hangs_acode h2) fun O' k1 k2 => by simp only [acode, k1, Option.bind_some, k2]
    | exit id => exact (hangs_acode h1).map fun O' k1 => by simp only [acode, k1, Option.bind_some]; exact h2
    | ret => exact (hangs_acode h1).map fun O' k1 => by simp only [acode, k1, Option.bind_some]; exact h2
    | thr d => exact (hangs_acode h1).map fun O' k1 => by simp only [acode, k1, Option.bind_some]; exact h2
  | .ite c a b, e, σ, x, h => by
    simp only [acode] at h
    cases hb : opd e c <;> rw [hb] at h <;> try (cases h; done)
    rename_i t
    cases t with
    | true => exact (hangs_acode (by simpa using h)).map fun O' k => by simp only [acode, hb, if_true, k]
    | false => exact (hangs_acode (by simpa using h)).map fun O' k => by simp only [acode, hb, Bool.false_eq_true, if_false, k]
  | .blk id a, e, σ, x, h => by
    simp only [acode, Option.map_eq_some_iff] at h
    obtain ⟨y, h1, rfl⟩ := h
    exact (hangs_acode h1).map fun O' k => by simp only [acode, k, Option.map_some]
  | .treg live pre op post, e, σ, x, h => by
    simp only [acode, Option.bind_eq_some_iff] at h
    obtain ⟨⟨e1, σ1⟩, h1, h2⟩ := h
    exact (hangs_aops h1).andThen (hangs_aopt h2) fun O' k1 k2 => by simp only [acode, k1, Option.bind_some, k2]
  | .dfr .., e, σ, x, h => by simp [acode] at h
  | .mloop live it nx ok b a rest, e, σ, x, h => by
    simp only [acode] at h
    cases hq : O (.mloop live it nx ok b a rest e σ) with
    | none => rw [hq] at h; cases h
    | some r => exact (Hangs.ask hq).map fun O' h' => by simp only [acode, h']; rw [hq] at h; exact h
  | .loop live seg a, e, σ, x, h => by
    simp only [acode] at h
    cases hq : O (.loop live seg a e σ) with
    | none => rw [hq] at h; cases h
    | some r => exact (Hangs.ask hq).map fun O' k => by simp only [acode, k]; rw [hq] at h; exact h
  | .rngf live f params asg body, e, σ, x, h => by
    simp only [acode] at h
    split at h
    case h_2 => cases h
    rename_i l i σ1 hn
    cases hc : callf O (opd e f) [.yld l i] σ1 with
    | none => rw [hc] at h; cases h
    | some y =>
      rw [hc] at h
      exact (hangs_callf hc).map fun O' k => by simp only [acode, hn, k]; exact h

theorem hangs_dcallR {fv : D} {args : List D} {th : Option D} {σ : Stack} {r : R} (h : dcallR O fv args th σ = some r) : Hangs O (fun O' => dcallR O' fv args th σ) r := by
  cases fv <;> simp only [dcallR, reduceCtorEq] at h
  exact (Hangs.ask h).map fun O' h' => by simp only [dcallR, h']

theorem hangs_dtail {res : List Res} {σ : Stack} {fv : D} {args : List D} {y : Exit × Env × Stack} {r : R} (h : dtail O res σ fv args (some y) = some r) : Hangs O (fun O' => dtail O' res σ fv args (some y)) r := by
  obtain ⟨x, e, σ1⟩ := y
  have one : ∀ th, dleave res σ e (dcallR O fv args th σ1) = some r → Hangs O (fun O' => dleave res σ e (dcallR O' fv args th σ1)) r := by
    intro th h
    cases hc : dcallR O fv args th σ1 with
    | none => rw [hc] at h; cases h
    | some rr => exact (hangs_dcallR hc).map fun O' k => by rw [k, ← hc]; exact h
  cases x with
  | exit id => simp [dtail] at h
  | normal => exact one none h
  | ret => exact one none h
  | thr d => exact one (some d) h

theorem hangs_dbody {fn : Fn} {σ : Stack} {y : Cmd × Opd × List Opd × Cmd} {e0 : Env} {σ0 : Stack} {r : R} (h : dbody O fn σ (some y) e0 σ0 = some r) : Hangs O (fun O' => dbody O' fn σ (some y) e0 σ0) r := by
  obtain ⟨a, f, args, q⟩ := y
  simp only [dbody] at h
  split at h
  case h_2 => cases h
  rename_i e σ1 hA
  cases hq : acode O q e σ1 with
  | none => rw [hq] at h; simp [dtail] at h
  | some z =>
    rw [hq] at h
    exact ((hangs_acode hA).andThen (hangs_acode hq) fun O' k1 k2 => (show (fun O' => (acode O' a e0 σ0, acode O' q e σ1) |> some) O' = some (some (.normal, e, σ1), some z) by simp [k1, k2])).andThen (hangs_dtail h) fun O' k1 k2 => by
      simp only [Option.some.injEq, Prod.mk.injEq] at k1
      simp only [dbody, k1.1, k1.2, k2]

theorem split_none0 : ∀ {c A : Cmd} {r : Opd × List Opd × Cmd} {e e1 : Env} {σ σ1 : Stack}, splitT c = some (A, r) → acode O A e σ = some (.normal, e1, σ1) → acode O c e σ = none
  | .dfr f xs q, A, r, e, e1, σ, σ1, h, ha => rfl
  | .seq a b, A, r, e, e1, σ, σ1, h, ha => by
    simp only [splitT, Option.map_eq_some_iff] at h
    obtain ⟨⟨A', r'⟩, h1, h2⟩ := h
    cases h2
    simp only [acode, Option.bind_eq_some_iff, Prod.exists] at ha
    obtain ⟨x2, e2, σ2, h3, h4⟩ := ha
    cases x2 with
    | normal => simp only [acode, h3, Option.bind_some]; exact split_none0 h1 h4
    | _ => simp at h4
  | .nop, _, _, _, _, _, _, h, _ | .frz _, _, _, _, _, _, _, h, _ | .reg .., _, _, _, _, _, _, h, _ | .ite .., _, _, _, _, _, _, h, _ | .blk .., _, _, _, _, _, _, h, _ | .loop .., _, _, _, _, _, _, h, _
  | .rngf .., _, _, _, _, _, _, h, _ | .mloop .., _, _, _, _, _, _, h, _ | .treg .., _, _, _, _, _, _, h, _ | .exit _, _, _, _, _, _, _, h, _ | .ret, _, _, _, _, _, _, h, _ => by simp [splitT] at h

theorem split_none {c : Cmd} {y : Cmd × Opd × List Opd × Cmd} {fn : Fn} {σ : Stack} {e0 : Env} {σ0 : Stack} {r : R} (hs : splitT c = some y) (h : dbody O fn σ (some y) e0 σ0 = some r) : acode O c e0 σ0 = none := by
  obtain ⟨a, f, args, q⟩ := y
  simp only [dbody] at h
  split at h
  case h_2 => cases h
  rename_i e σ1 hA
  exact split_none0 hs hA

theorem hangs_mend {l i b : Nat} {rest : Cmd} {y : Option (Exit × Env × Stack)} {r : R} (h : mend O l i b rest y = some r) : Hangs O (fun O' => mend O' l i b rest y) r := by
  cases y with
  | none => simp [mend] at h
  | some y =>
  obtain ⟨x, e, σ1⟩ := y
  cases x with
  | normal => simp [mend] at h
  | thr d => simp [mend] at h
  | ret => exact .of fun O' => h
  | exit j =>
    simp only [mend] at h
    by_cases hj : j = b
    · rw [if_pos hj] at h
      simp only [Option.map_eq_some_iff] at h
      obtain ⟨z, h1, rfl⟩ := h
      exact (hangs_acode h1).map fun O' k => by simp only [mend, if_pos hj, k, Option.map_some]
    · rw [if_neg hj] at h
      exact .of fun O' => by simp only [mend, if_neg hj]; exact h

theorem hangs_stepQ {T : Tbl} : ∀ {q : Q} {r : R}, stepQ T O q = some r → Hangs O (fun O' => stepQ T O' q) r
  | .call kp f args σ, r, h => by
    simp only [stepQ] at h
    cases hT : T f with
    | none =>
      rw [hT] at h
      dsimp only at h
      exact .of fun O' => by simp only [stepQ, hT]; exact h
    | some fn =>
    rw [hT] at h
    dsimp only at h
    split at h
    case isFalse => cases h
    rename_i hl
    cases hc : acode O fn.body (mkEnv 0 args) (if kp then σ else [] :: σ) with
    | none =>
      rw [hc] at h
      dsimp only at h
      cases kp with
      | true => simp at h
      | false =>
        simp only [Bool.false_eq_true, if_false] at h
        cases hsp : splitT fn.body with
        | none => rw [hsp] at h; simp [dbody] at h
        | some y =>
          rw [hsp] at h
          refine (hangs_dbody h).map fun O' k => ?_
          have hn : acode O' fn.body (mkEnv 0 args) ([] :: σ) = none := split_none hsp k
          simp only [stepQ, hT, if_pos hl, Bool.false_eq_true, if_false, hn, hsp, k]
    | some y =>
      rw [hc] at h
      obtain ⟨yx, ye, yσ⟩ := y
      exact (hangs_acode hc).map fun O' k => by
        simp only [stepQ, hT, if_pos hl, k]
        cases yx <;> exact h
  | .loop live seg c e σ, r, h => by
    simp only [stepQ] at h
    cases hc : acode O c (restrict live e) (if seg then [] :: σ else σ) with
    | none => rw [hc] at h; cases h
    | some y =>
      obtain ⟨x, e1, σ1⟩ := y
      rw [hc] at h
      dsimp only at h
      cases x with
      | normal =>
        dsimp only at h
        exact (hangs_acode hc).andThen (Hangs.ask h) fun O' k1 k2 => by simp only [stepQ, k1]; exact k2
      | exit id => exact (hangs_acode hc).map fun O' k1 => by simp only [stepQ, k1]; exact h
      | ret => exact (hangs_acode hc).map fun O' k1 => by simp only [stepQ, k1]; exact h
      | thr d => exact (hangs_acode hc).map fun O' k1 => by simp only [stepQ, k1]; exact h
  | .round l i args σ, r, h => by
    simp only [stepQ] at h
    cases hb : blk? σ l i with
    | none => rw [hb] at h; cases h
    | some bl =>
    rw [hb] at h
    cases bl with
    | cells => cases h
    | dead => cases h
    | loop lp =>
    dsimp only at h
    split at h
    case isFalse => cases h
    rename_i hl
    cases hc : acode O lp.asg (putAll lp.params args lp.env) ([] :: σ) with
    | none => rw [hc] at h; cases h
    | some y =>
    obtain ⟨x, e1, σ1⟩ := y
    rw [hc] at h
    cases x with
    | exit id => cases h
    | ret => cases h
    | thr d => cases h
    | normal =>
    dsimp only at h
    cases hb1 : blk? σ1 l i with
    | none => rw [hb1] at h; cases h
    | some bl1 =>
    rw [hb1] at h
    cases bl1 with
    | cells => cases h
    | dead => cases h
    | loop lp1 =>
    dsimp only at h
    split at h
    case isFalse => cases h
    rename_i hs
    cases hd : acode O lp.body e1 (setBlk σ1 l i (.loop { lp1 with state := 1 })) with
    | none => rw [hd] at h; cases h
    | some z =>
    rw [hd] at h
    exact (hangs_acode hc).andThen (hangs_acode hd) fun O' k1 k2 => by simp only [stepQ, hb, if_pos hl, k1, hb1, if_pos hs, k2]; exact h
  | .dcall f args th σ, r, h => by
    simp only [stepQ] at h
    cases hT : T f with
    | none => rw [hT] at h; cases h
    | some fn =>
    rw [hT] at h
    dsimp only at h
    split at h
    case isFalse => cases h
    rename_i hl
    cases hr : afterRcv th args fn.body with
    | none => rw [hr] at h; cases h
    | some y =>
    obtain ⟨e0, q⟩ := y
    rw [hr] at h
    dsimp only at h
    cases hc : acode O q e0 ([] :: σ) with
    | none => rw [hc] at h; cases h
    | some z =>
      rw [hc] at h
      exact (hangs_acode hc).map fun O' k => by simp only [stepQ, hT, if_pos hl, hr, k]; exact h
  | .mloop live it nx ok b c rest e σ, r, h => by
    simp only [stepQ] at h
    cases hop : opd (restrict live e) it <;> rw [hop] at h <;> try (cases h; done)
    rename_i l i
    dsimp only at h
    split at h
    · rename_i m n js hit
      cases hc : acode O c ((ok, .bool false) :: (nx, .undef) :: restrict live e) σ with
      | none => rw [hc] at h; simp [mend] at h
      | some y =>
        rw [hc] at h
        exact (hangs_acode hc).andThen (hangs_mend h) fun O' k k2 => by simp only [stepQ, hop, hit, k, k2]
    · rename_i m n js us hne hit
      have one : ∀ u, mnext O live it l i nx ok b c rest (acode O c ((ok, .bool true) :: (nx, .undef) :: restrict live e) (setBlk σ l i (.cells 1 (m :: .int .i64 (n : Nat) :: .int .i64 (u : Nat) :: js)))) = some r →
          Hangs O (fun O' => mnext O' live it l i nx ok b c rest (acode O' c ((ok, .bool true) :: (nx, .undef) :: restrict live e) (setBlk σ l i (.cells 1 (m :: .int .i64 (n : Nat) :: .int .i64 (u : Nat) :: js))))) r := by
        intro u hu
        cases hc : acode O c ((ok, .bool true) :: (nx, .undef) :: restrict live e) (setBlk σ l i (.cells 1 (m :: .int .i64 (n : Nat) :: .int .i64 (u : Nat) :: js))) with
        | none => rw [hc] at hu; simp [mnext, mend] at hu
        | some y =>
          obtain ⟨x, e1, σ1⟩ := y
          rw [hc] at hu
          cases x with
          | normal => exact (hangs_acode hc).andThen (Hangs.ask hu) fun O' k1 k2 => by simp only [k1]; exact k2
          | exit id => exact (hangs_acode hc).andThen (hangs_mend (b := b) (rest := rest) (y := some (.exit id, e1, σ1)) hu) fun O' k1 k2 => by simp only [k1]; exact k2
          | ret => exact (hangs_acode hc).andThen (hangs_mend (b := b) (rest := rest) (y := some (.ret, e1, σ1)) hu) fun O' k1 k2 => by simp only [k1]; exact k2
          | thr d => simp [mnext, mend] at hu
      have all : ∀ vs : List Nat, (∀ v ∈ vs, mnext O live it l i nx ok b c rest (acode O c ((ok, .bool true) :: (nx, .undef) :: restrict live e) (setBlk σ l i (.cells 1 (m :: .int .i64 (n : Nat) :: .int .i64 (v : Nat) :: js)))) = some r) →
          ∃ L : List (Q × R), (∀ p ∈ L, O p.1 = some p.2) ∧ ∀ O' : Oracle, (∀ p ∈ L, O' p.1 = some p.2) → ∀ v ∈ vs, mnext O' live it l i nx ok b c rest (acode O' c ((ok, .bool true) :: (nx, .undef) :: restrict live e) (setBlk σ l i (.cells 1 (m :: .int .i64 (n : Nat) :: .int .i64 (v : Nat) :: js)))) = some r := by
        intro vs
        induction vs with
        | nil => intro _; exact ⟨[], by simp, by simp⟩
        | cons v vs ih =>
          intro hv
          obtain ⟨L1, h1, h2⟩ := one v (hv v (by simp))
          obtain ⟨L2, h3, h4⟩ := ih fun v' hv' => hv v' (by simp [hv'])
          refine ⟨L1 ++ L2, fun p hp => ?_, fun O' h' v' hv' => ?_⟩
          · rcases List.mem_append.1 hp with hp | hp
            · exact h1 p hp
            · exact h3 p hp
          · rcases List.mem_cons.1 hv' with rfl | hv'
            · exact h2 O' fun p hp => h' p (by simp [hp])
            · exact h4 O' (fun p hp => h' p (by simp [hp])) v' hv'
      obtain ⟨L, h1, h2⟩ := all us (agree_all h)
      refine ⟨L, h1, fun O' h' => ?_⟩
      have h3 := h2 O' h'
      simp only [stepQ, hop, hit]
      cases us with
      | nil => first | exact (hne rfl).elim | exact (hne _ rfl).elim | exact (hne _ _ _ rfl).elim | exact hne.elim
      | cons v vs => exact all_agree (by simp) h3
    · cases h

theorem stepQ_mono {T : Tbl} {O O' : Oracle} (h : ∀ q r, O q = some r → O' q = some r) {q : Q} {r : R} (hq : stepQ T O q = some r) : stepQ T O' q = some r := by
  obtain ⟨L, h1, h2⟩ := hangs_stepQ hq
  exact h2 O' fun p hp => h _ _ (h1 p hp)

theorem it_mono {T : Tbl} : ∀ {n m : Nat}, n ≤ m → ∀ {q : Q} {r : R}, it T n q = some r → it T m q = some r
  | 0, m, _, q, r, h => by simp [it] at h
  | n + 1, 0, hnm, q, r, h => by omega
  | n + 1, m + 1, hnm, q, r, h => stepQ_mono (fun _ _ hh => it_mono (Nat.le_of_succ_le_succ hnm) hh) h

theorem lim_iff {T : Tbl} {q : Q} {r : R} : lim T q = some r ↔ ∃ n, it T n q = some r := by
  constructor
  · intro h
    unfold lim at h
    split at h
    · rename_i hex
      cases h
      exact ⟨_, hex.choose_spec.choose_spec⟩
    · cases h
  · rintro ⟨n, h⟩
    have hex : ∃ n r, it T n q = some r := ⟨n, r, h⟩
    unfold lim
    rw [dif_pos hex]
    have h1 := it_mono (Nat.le_max_left n hex.choose) h
    have h2 := it_mono (Nat.le_max_right n hex.choose) hex.choose_spec.choose_spec
    rw [h1] at h2
    cases h2
    rfl

theorem lim_all {T : Tbl} : ∀ {L : List (Q × R)}, (∀ p ∈ L, lim T p.1 = some p.2) → ∃ n, ∀ p ∈ L, it T n p.1 = some p.2
  | [], _ => ⟨0, by simp⟩
  | p :: L, h => by
    obtain ⟨n, hn⟩ := lim_all (L := L) fun q hq => h q (by simp [hq])
    obtain ⟨m, hm⟩ := lim_iff.1 (h p (by simp))
    refine ⟨max n m, fun q hq => ?_⟩
    rcases List.mem_cons.1 hq with rfl | hq
    · exact it_mono (Nat.le_max_right n m) hm
    · exact it_mono (Nat.le_max_left n m) (hn q hq)

theorem lim_step {T : Tbl} {q : Q} {r : R} (h : stepQ T (lim T) q = some r) : lim T q = some r := by
  obtain ⟨L, h1, h2⟩ := hangs_stepQ h
  obtain ⟨n, hn⟩ := lim_all h1
  exact lim_iff.2 ⟨n + 1, h2 (it T n) hn⟩

end Go.Abs

/-
  A range over a map, in whatever order: what all orders answer alike is what the machine does.
-/
set_option linter.unusedVariables false
set_option linter.unusedSimpArgs false
namespace Go.Abs
open Go
open Go.ChangeMaps (setBlock)

section
variable {P : Program} {T : Tbl} {O : Oracle} {CR : CRel} {base : Nat} {g : G} {σ : Stack} {w : World}

theorem Inv.setIter (hi : Inv CR base g σ w) {l i b lm im bm n : Nat} {b0 : Blk} {js : List Nat} (hL : g.loc l i = some (.it b)) (hb : blk? σ l i = some b0) (hm : g.loc lm im = some (.mp bm)) (hnd : js.Nodup) (hlt : ∀ j ∈ js, j < n) {w1 : World} (hw1 : w1 = w ∨ w1 = w.drew) :
    Inv CR base (g.setLoc l i (.it b)) (setBlk σ l i (.cells 1 (.yld lm im :: .int .i64 (n : Nat) :: js.map (fun j : Nat => D.int .i64 j)))) (setBlock w1 b (.mapIter (some bm) n js.reverse.toArray n)) ∧
      Ev g w (g.setLoc l i (.it b)) (setBlock w1 b (.mapIter (some bm) n js.reverse.toArray n)) := by
  have hlt' := (hi.lo l i _ b hL rfl).2
  have hh : w1.heap = w.heap := by rcases hw1 with rfl | rfl <;> rfl
  have hos : w1.os = w.os := by rcases hw1 with rfl | rfl <;> rfl
  have htp : w1.tape = w.tape := by rcases hw1 with rfl | rfl <;> rfl
  have hout : w1.output = w.output := by rcases hw1 with rfl | rfl <;> rfl
  have hm2 : (g.setLoc l i (.it b)).loc lm im = some (.mp bm) := by
    rw [G.setLoc_other fun hc => by rw [hc.1, hc.2, hL] at hm; cases hm]
    exact hm
  refine hi.setCells hL hb (Loc.le_refl _) ⟨rfl, lm, im, bm, n, js, rfl, hm2, ?_, hnd, hlt⟩ (fun b' hb' hne => ?_) hos htp hout (by simp [setBlock, hh]) (fun b' hb' => .inl hb')
  · simp [setBlock, hh, hlt']
  · have : b ≠ b' := fun hc => hne (by rw [hc]; rfl)
    simp [setBlock, hh, this]

theorem Inv.endIter (hi : Inv CR base g σ w) {l i b : Nat} {L : Loc} {b0 : Blk} (hL : g.loc l i = some L) (hd : L = .it b ∨ L = .dead) (hb : blk? σ l i = some b0) :
    Inv CR base (g.setLoc l i .dead) (setBlk σ l i .dead) w ∧ Ev g w (g.setLoc l i .dead) w := by
  have hle : g.le (g.setLoc l i .dead) := G.le_setLoc fun L0 e => by rw [hL] at e; cases e; rcases hd with rfl | rfl <;> simp [Loc.le]
  refine ⟨hi.turn l i hle (fun l' i' c => blk?_setBlk_other c) (fun l' i' c => G.setLoc_other c) (fun _ _ _ _ _ _ _ => rfl) ?_ hi.imm ?_ ?_ (Nat.le_refl _) ⟨_, G.setLoc_same⟩, ⟨hle, rfl, rfl, rfl, Nat.le_refl _, fun _ _ _ => rfl, ?_, fun b o v hv => .inl hv⟩⟩
  · intro L e; rw [G.setLoc_same] at e; cases e; exact ⟨_, blk?_setBlk hb, trivial⟩
  · intro l' i' L b e eb o
    by_cases c : l' = l ∧ i' = i
    · obtain ⟨rfl, rfl⟩ := c; rw [G.setLoc_same] at e; cases e; cases eb
    · rw [G.setLoc_other c] at e; exact hi.sep l' i' L b e eb o
  · intro L b e eb; rw [G.setLoc_same] at e; cases e; cases eb
  · intro b hb'
    obtain ⟨l', i', L, e, eb⟩ := hb'
    by_cases c : l' = l ∧ i' = i
    · obtain ⟨rfl, rfl⟩ := c; rw [G.setLoc_same] at e; cases e; cases eb
    · rw [G.setLoc_other c] at e; exact .inl ⟨l', i', L, e, eb⟩

theorem iterD_inv {l i n : Nat} {m : D} {js : List D} {us : List Nat} (h : iterD σ l i = some (m, n, js, us)) :
    ∃ lm im es, cells? σ l i 1 = some (m :: .int .i64 (n : Nat) :: js) ∧ mapD σ m = some (lm, im, es) ∧ es.length = n ∧ us = (List.range n).filter fun j : Nat => !(js.contains (.int .i64 j)) := by
  unfold iterD at h
  split at h
  case h_2 => cases h
  rename_i m' n' js' hc
  split at h
  case h_2 => cases h
  rename_i lm im es hm
  split at h
  case isFalse => cases h
  rename_i hl
  cases h
  exact ⟨lm, im, es, by rw [hl]; exact hc, hm, rfl, rfl⟩

theorem Outs.map {S : Frame → Prop} {g g' : G} {b : Frame} {a : Act} {todo : List Item} {x : Exit} (hg : ∀ d v, d.clean = true → RelV g d v → RelV g' d v) (h : Outs S g b a todo x) : Outs S g' b a todo x := by
  cases x with
  | thr d => obtain ⟨h0, v, h1, h2⟩ := h; exact ⟨h0, v, hg _ _ h0 h1, h2⟩
  | _ => exact h

theorem mloop_sound (hm : P.follows .mixedOrders = true) (hO : OrOk P (CR0 P) O) {live : List Nat} {it : Opd} {nx ok bid : Nat} {c rest : Cmd} {e : Env} {σ : Stack} {r : R}
    (h : stepQ T O (.mloop live it nx ok bid c rest e σ) = some r) : AnsOk P (CR0 P) (.mloop live it nx ok bid c rest e σ) r := by
  cases r with
  | val => trivial
  | thr => trivial
  | ctl x e' σ' =>
  intro ann blk rid ops p n it0 qs hit hmap hc hrest base g0 w0 b a k cs g w B ha
  subst hit
  obtain ⟨rid', ops', p', heq, o0, o1, hops, h1, h2, h3, h4, h5, h6, c1, c2, c3, c4, c5⟩ := mapC_inv hmap
  cases heq
  simp only [stepQ] at h
  -- the iterator
  have har := ha.restrict live
  cases hop : opd (restrict live e) (.t it0) <;> rw [hop] at h <;> try (cases h; done)
  rename_i l i
  dsimp only at h
  cases hitd : iterD σ l i with
  | none => rw [hitd] at h; cases h
  | some y =>
  obtain ⟨m, n', js, us⟩ := y
  obtain ⟨lm, im, es, hcs, hmd, hes, hus⟩ := iterD_inv hitd
  obtain ⟨tmps, df⟩ := a
  have hiv : RelV g (.yld l i) (tmps.getD it0 Go.undef) := by
    have h0 := har.fr.strip it0
    simp only [opd] at hop
    rw [hop] at h0; exact h0
  have hblk : ∃ cs', blk? σ l i = some (.cells 1 cs') ∧ cs' = m :: .int .i64 (n' : Nat) :: js := by
    unfold cells? at hcs
    split at hcs
    case h_2 => cases hcs
    rename_i v' cs' hb
    split at hcs
    case isFalse => cases hcs
    rename_i hv
    subst hv
    cases hcs
    exact ⟨_, hb, rfl⟩
  obtain ⟨cs', hblk, rfl⟩ := hblk
  obtain ⟨bi, bm, lm', im', js', hpt, hloc, hjs, hml, hheap, hnd, hlt⟩ : ∃ bi bm lm' im', ∃ js' : List Nat, tmps.getD it0 Go.undef = .pointer (some ⟨bi, 0, none⟩) ∧ g.loc l i = some (.it bi) ∧ (m = .yld lm' im' ∧ js = js'.map (fun j : Nat => D.int .i64 j)) ∧ g.loc lm' im' = some (.mp bm) ∧
      w.heap[bi]? = some (.mapIter (some bm) n' js'.reverse.toArray n') ∧ js'.Nodup ∧ ∀ j ∈ js', j < n' := by
    generalize tmps.getD it0 Go.undef = cv at hiv
    cases hiv with
    | yld _ _ bb r1 =>
      obtain ⟨b0, hb0, hrel⟩ := ha.inv.dom _ _ _ r1
      rw [hblk] at hb0; cases hb0
      exact hrel.elim
    | mpv _ _ bb r1 =>
      obtain ⟨b0, hb0, hrel⟩ := ha.inv.dom _ _ _ r1
      rw [hblk] at hb0; cases hb0
      obtain ⟨h0, _⟩ := hrel
      cases h0
    | itv _ _ bb L r1 r2 =>
      obtain ⟨b0, hb0, hrel⟩ := ha.inv.dom _ _ _ r1
      rw [hblk] at hb0; cases hb0
      rcases r2 with rfl | rfl
      rotate_left
      · exact hrel.elim
      obtain ⟨_, lm', im', bm, n2, js', hce, hlm, hh, hnd, hlt⟩ := hrel
      simp only [List.cons.injEq, D.int.injEq, true_and] at hce
      obtain ⟨rfl, hn2, rfl⟩ := hce
      have hn2 : n' = n2 := by omega
      subst hn2
      exact ⟨bb, bm, lm', im', js', rfl, r1, ⟨rfl, rfl⟩, hlm, hh, hnd, hlt⟩
  obtain ⟨rfl, rfl⟩ := hjs
  obtain ⟨b2, ents, clock, v2, hc2, hl2, hblk2, hheap2, hrel2, hok⟩ := mapD_rel ha.inv (.mpv lm' im' bm hml) hmd
  cases hc2
  have hlen2 : es.length = ents.toList.length := by have := hrel2.length; simpa using this
  have hck : clock = n' := by rw [hok.2]; omega
  subst hck
  have hborn : ∀ y ∈ ents.toList, y.born < clock := by
    intro y hy
    have h0 : y.born ∈ ents.toList.map (·.born) := List.mem_map.2 ⟨y, hy, rfl⟩
    rw [hok.1] at h0
    have := List.mem_range.1 h0
    omega
  -- the code
  have ho0 : ops[0]? = some o0 := by have := congrArg (·[0]?) hops; simpa using this
  have ho1 : ops[1]? = some o1 := by have := congrArg (·[1]?) hops; simpa using this
  have hsize : ops.size = 2 := by have := congrArg List.length hops; simpa using this
  have hw0 : ∀ a : Act, Region.wanted o0 (yielded ops a.tmps) = true := fun a => by simp [Region.wanted, h3]
  have hw1 : ∀ a : Act, Region.wanted o1 (yielded ops a.tmps) = true := fun a => by simp [Region.wanted, h6]
  have hnd0 : ∀ c, o0.op ≠ .defer c := by intro c hc; rw [h1] at hc; cases hc
  have hnd1 : ∀ c, o1.op ≠ .defer c := by intro c hc; rw [h4] at hc; cases hc
  -- the region, whatever 'next' gives
  have region : ∀ (bv : Bool) (vs : Array Value) (w1 : World) (g1 : G) (σ1 : Stack), (execOp (Act.mk tmps df).eval o0).run P w = .ok (.value (.tuple (#[.bool bv] ++ vs))) w1 → Ev g w g1 w1 → Inv (CR0 P) base g1 σ1 w1 → Goes σ σ1 →
      ∃ a1, Steps P (lone (b.atR ⟨tmps, df⟩ (.code (.seq (.region rid ops false) p) :: .inLoop (.seq (.region rid ops false) p) :: .inBlock bid :: (qs.toList.map Item.code ++ k))) cs w)
        (lone (b.atR a1 (.code p :: .inLoop (.seq (.region rid ops false) p) :: .inBlock bid :: (qs.toList.map Item.code ++ k))) cs w1) ∧ At (CR0 P) base ann.ownv g0 w0 n b g1 w1 B ((ok, .bool bv) :: (nx, .undef) :: restrict live e) σ1 a1 := by
    intro bv vs w1 g1 σ1 hrun he hi hgo
    have hts : tmps.size = n := ha.size
    have ha1 : At (CR0 P) base ann.ownv g0 w0 n b g1 w1 B ((nx, .undef) :: restrict live e) σ1 ((Act.mk tmps df).put (some nx) (.tuple (#[.bool bv] ++ vs))) := by
      refine har.go he hi hgo ?_ put_size put_defers
      exact (har.fr.ev he).put (dst := some nx) (d := .undef) (RelT.of (.undef _)) (fun t ht => by cases ht; exact c4) (fun t ht => by cases ht; rw [hts]; exact c1)
    have hget : ((Act.mk tmps df).put (some nx) (.tuple (#[.bool bv] ++ vs))).eval (.tmp nx) = .tuple (#[.bool bv] ++ vs) := by
      simp [Act.eval, Act.put, hts, c1]
    have hrun1 : (execOp ((Act.mk tmps df).put (some nx) (.tuple (#[.bool bv] ++ vs))).eval o1).run P w1 = .ok (.value (.bool bv)) w1 := by
      simp only [execOp, h4, hget]
      have hz : (#[Value.bool bv] ++ vs)[0]? = some (.bool bv) := by
        rw [Array.getElem?_append_left (by simp)]; rfl
      simp [Instr.extract, hz]
    have ha2 : At (CR0 P) base ann.ownv g0 w0 n b g1 w1 B ((ok, .bool bv) :: (nx, .undef) :: restrict live e) σ1 (((Act.mk tmps df).put (some nx) (.tuple (#[.bool bv] ++ vs))).put (some ok) (.bool bv)) := by
      refine ha1.go (Ev.refl g1 w1) hi (.refl _) ?_ put_size put_defers
      exact ha1.fr.put (dst := some ok) (d := .bool bv) (RelT.of (.bool bv)) (fun t ht => by cases ht; exact c5) (fun t ht => by cases ht; rw [ha1.size]; exact c2)
    refine ⟨_, .head stepR_seq (.head stepR_region ?_), ha2⟩
    rw [hsize]
    have s0 := step_value (P := P) (b := b) (a := ⟨tmps, df⟩) (k := .code p :: .inLoop (.seq (.region rid ops false) p) :: .inBlock bid :: (qs.toList.map Item.code ++ k)) (cs := cs) (rest := [1]) ho0 (hw0 _) hnd0 hrun rfl
    rw [h2] at s0
    have s1 := step_value (P := P) (b := b) (k := .code p :: .inLoop (.seq (.region rid ops false) p) :: .inBlock bid :: (qs.toList.map Item.code ++ k)) (cs := cs) (rest := []) ho1 (hw1 _) hnd1 hrun1 rfl
    rw [h5] at s1
    exact .head s0 (.head s1 (.one (stepR_region_end (ops := ops))))
  have hnext : ∀ (w : World), (Instr.next (.pointer (some ⟨bi, 0, none⟩)) false o0.type).run P w = (Instr.next (.pointer (some ⟨bi, 0, none⟩)) false o0.type).run P w := fun _ => rfl
  have hev0 : (Act.mk tmps df).eval (.tmp it0) = .pointer (some ⟨bi, 0, none⟩) := hpt
  -- behind the loop's end
  have finish : ∀ (y : Exit × Env × Stack) (g1 : G) (w1 : World) (B1 : Nat → Nat) (a1 : Act) (t1 : List Item) (σm : Stack) (wm : World) (am : Act) (gm : G), mend O l i bid rest (some y) = some (.ctl x e' σ') → g.le g1 → Goes σ y.2.2 →
      Steps P (lone (b.atR ⟨tmps, df⟩ (.code (.seq (.region rid ops false) p) :: .inLoop (.seq (.region rid ops false) p) :: .inBlock bid :: (qs.toList.map Item.code ++ k))) cs w)
        (lone (b.atR am (.code p :: .inLoop (.seq (.region rid ops false) p) :: .inBlock bid :: (qs.toList.map Item.code ++ k))) cs wm) →
      Outs (fun fr => Steps P (lone (b.atR am (.code p :: .inLoop (.seq (.region rid ops false) p) :: .inBlock bid :: (qs.toList.map Item.code ++ k))) cs wm) (lone fr cs w1)) g1 b a1 t1 y.1 →
      At (CR0 P) base ann.ownv g0 w0 n b g1 w1 B1 y.2.1 y.2.2 a1 → Lands (.inLoop (.seq (.region rid ops false) p) :: .inBlock bid :: (qs.toList.map Item.code ++ k)) y.1 t1 →
      ∃ g' w' B' a' todo, Outs (fun fr => Steps P (lone (b.atR ⟨tmps, df⟩ (.code (.seq (.region rid ops false) p) :: .inLoop (.seq (.region rid ops false) p) :: .inBlock bid :: (qs.toList.map Item.code ++ k))) cs w) (lone fr cs w')) g' b a' todo x ∧
        At (CR0 P) base ann.ownv g0 w0 n b g' w' B' e' σ' a' ∧ g.le g' ∧ Lands k x todo ∧ Goes σ σ' := by
    intro y g1 w1 B1 a1 t1 σm wm am gm hme hle hgo s1 s2 hA hLd
    obtain ⟨y1, e1, σ1⟩ := y
    -- the iterator's place
    obtain ⟨L1, hL1, hle1⟩ := hle.loc l i _ hloc
    have hLd1 : L1 = .it bi ∨ L1 = .dead := hle1
    obtain ⟨bb, hbb, _⟩ := hA.inv.dom l i _ hL1
    obtain ⟨i2, e2⟩ := hA.inv.endIter hL1 hLd1 hbb
    have hgo2 : Goes σ1 (setBlk σ1 l i .dead) := Goes.set fun _ => trivial
    have hA2 : At (CR0 P) base ann.ownv g0 w0 n b (g1.setLoc l i .dead) w1 B1 e1 (setBlk σ1 l i .dead) a1 := hA.go e2 i2 hgo2 (hA.fr.ev e2) rfl rfl
    cases y1 with
    | normal => simp [mend] at hme
    | thr d => simp [mend] at hme
    | ret =>
      simp only [mend, Option.some.injEq, R.ctl.injEq] at hme
      obtain ⟨rfl, rfl, rfl⟩ := hme
      obtain ⟨k', rfl⟩ := hLd
      exact ⟨_, w1, B1, a1, _, Steps.trans s1 s2, hA2, hle.trans' e2.le, ⟨k', rfl⟩, hgo.trans hgo2⟩
    | exit j =>
      obtain ⟨k', rfl, hk'⟩ := hLd
      simp only [mend] at hme
      split at hme
      · rename_i hj
        subst hj
        simp only [Option.map_eq_some_iff, Prod.exists, R.ctl.injEq] at hme
        obtain ⟨x', e'', σ'', hac, rfl, rfl, rfl⟩ := hme
        have hout : Steps P (lone (b.atR ⟨tmps, df⟩ (.code (.seq (.region rid ops false) p) :: .inLoop (.seq (.region rid ops false) p) :: .inBlock j :: (qs.toList.map Item.code ++ k))) cs w) (lone (b.atR a1 (qs.toList.map Item.code ++ k)) cs w1) :=
          Steps.trans s1 (Steps.trans s2 (.one (stepR_exit (by rw [hk']; simp [exitTo]))))
        cases qs with
        | none =>
          obtain rfl : rest = .nop := hrest
          simp only [acode, Option.some.injEq, Prod.mk.injEq] at hac
          obtain ⟨rfl, rfl, rfl⟩ := hac
          exact ⟨_, w1, B1, a1, k, hout, hA2, hle.trans' e2.le, rfl, hgo.trans hgo2⟩
        | some q =>
          obtain ⟨g3, w3, B3, a3, t3, k1, k2, k3, k4, k5⟩ := code_ok (b := b) (cs := cs) (k := k) hm hO q hrest hac hA2
          exact ⟨g3, w3, B3, a3, t3, k1.imp fun _ hs => Steps.trans hout hs, k2, (hle.trans' e2.le).trans' k3, k4, (hgo.trans hgo2).trans k5⟩
      · rename_i hj
        simp only [Option.some.injEq, R.ctl.injEq] at hme
        obtain ⟨rfl, rfl, rfl⟩ := hme
        refine ⟨_, w1, B1, a1, _, Steps.trans s1 s2, hA2, hle.trans' e2.le, ⟨k', rfl, ?_⟩, hgo.trans hgo2⟩
        rw [hk']
        simp only [exitTo]
        rw [if_neg (by simpa using Ne.symm hj)]
        cases qs <;> rfl
  -- what the machine picks
  rw [hitd] at h
  rcases run_next_at (P := P) w o0.type bi bm clock clock js'.reverse.toArray ents clock hheap hheap2 hborn (Nat.le_refl _) with ⟨hz, hrun⟩ | ⟨en, hen, w1, hw1', hrun⟩
  · -- none is left
    have hus0 : us = [] := by
      rw [hus, List.filter_eq_nil_iff]
      intro j hj
      have hjlt := List.mem_range.1 hj
      have h0 : j ∈ ents.toList.map (·.born) := by rw [hok.1]; exact List.mem_range.2 (by omega)
      obtain ⟨y, hy, rfl⟩ := List.mem_map.1 h0
      have hnone : leftOf ents js'.reverse.toArray = #[] := Array.eq_empty_of_size_eq_zero hz
      unfold leftOf at hnone
      rw [Array.filter_eq_empty_iff] at hnone
      have h1 := hnone y (by simpa using hy)
      simp only [Bool.not_eq_true', Bool.not_eq_false, List.contains_toArray, List.contains_eq_mem, List.mem_reverse, decide_eq_true_eq, Bool.not_eq_true] at h1 ⊢
      simp at h1 ⊢
      exact ⟨_, h1, rfl⟩
    subst hus0
    dsimp only at h
    obtain ⟨a1, s1, hA1⟩ := region false #[] w g σ (by simp only [execOp, h1, hev0, Sem.run_bind, hrun, Result.andThen_ok, Sem.run_pure]; rfl) (Ev.refl g w) ha.inv (.refl σ)
    cases hac : acode O c ((ok, .bool false) :: (nx, .undef) :: restrict live e) σ with
    | none => rw [hac] at h; simp [mend] at h
    | some y =>
      rw [hac] at h
      obtain ⟨y1, ey, σy⟩ := y
      obtain ⟨g2, w2, B2, a2, t2, k1, k2, k3, k4, k5⟩ := code_ok (b := b) (cs := cs) (k := .inLoop (.seq (.region rid ops false) p) :: .inBlock bid :: (qs.toList.map Item.code ++ k)) hm hO p hc hac hA1
      exact finish (y1, ey, σy) g2 w2 B2 a2 t2 σ w a1 g h k3 k5 s1 k1 k2 k4
  · -- one that is left
    have henm : en ∈ ents.toList ∧ en.born ∉ js' := by
      unfold leftOf at hen
      simp at hen
      simpa using hen
    have hbn : en.born < clock := hborn en henm.1
    have hmem : en.born ∈ us := by
      rw [hus]
      simp only [List.mem_filter, List.mem_range, Bool.not_eq_true', hbn, true_and]
      simp
      intro x hx hxe
      have : x = en.born := by omega
      subst this
      exact henm.2 hx
    have hans : mnext O live (.t it0) l i nx ok bid c rest (acode O c ((ok, .bool true) :: (nx, .undef) :: restrict live e) (setBlk σ l i (.cells 1 (.yld lm' im' :: .int .i64 (clock : Nat) :: .int .i64 (en.born : Nat) :: js'.map (fun j : Nat => D.int .i64 j))))) = some (.ctl x e' σ') := by
      split at h
      · rename_i hsm
        cases hsm
        simp at hmem
      · rename_i hsm
        cases hsm
        exact agree_all h en.born hmem
      · rename_i hsm; cases hsm
    obtain ⟨i1, e1⟩ := ha.inv.setIter (js := en.born :: js') hloc hblk hml (List.nodup_cons.2 ⟨henm.2, hnd⟩) (by
      intro j hj
      rcases List.mem_cons.1 hj with rfl | hj
      · exact hbn
      · exact hlt j hj) hw1'
    have hgo1 : Goes σ (setBlk σ l i (.cells 1 (.yld lm' im' :: .int .i64 (clock : Nat) :: .int .i64 (en.born : Nat) :: js'.map (fun j : Nat => D.int .i64 j)))) := by
      refine Goes.mk setBlk_length fun hS => hS.set fun hl => ?_
      have h0 := hS l i _ hblk hl
      simp only [Blk.low, D.lowL, D.low, Bool.and_eq_true, Bool.true_and] at h0 ⊢
      exact h0
    have hpush : js'.reverse.toArray.push en.born = (en.born :: js').reverse.toArray := by simp
    rw [hpush] at hrun
    obtain ⟨a1, s1, hA1⟩ := region true #[en.key, en.val] _ _ _ (by simp only [execOp, h1, hev0, Sem.run_bind, hrun, Result.andThen_ok, Sem.run_pure]; rfl) e1 i1 hgo1
    simp only [List.map_cons] at hA1
    cases hac : acode O c ((ok, .bool true) :: (nx, .undef) :: restrict live e) (setBlk σ l i (.cells 1 (.yld lm' im' :: .int .i64 (clock : Nat) :: .int .i64 (en.born : Nat) :: js'.map (fun j : Nat => D.int .i64 j)))) with
    | none => rw [hac] at hans; simp [mnext, mend] at hans
    | some y =>
      rw [hac] at hans
      obtain ⟨y1, ey, σy⟩ := y
      obtain ⟨g2, w2, B2, a2, t2, k1, k2, k3, k4, k5⟩ := code_ok (b := b) (cs := cs) (k := .inLoop (.seq (.region rid ops false) p) :: .inBlock bid :: (qs.toList.map Item.code ++ k)) hm hO p hc hac hA1
      cases y1 with
      | normal =>
        simp only [mnext] at hans
        obtain rfl := k4
        obtain ⟨g3, w3, B3, a3, t3, m1, m2, m3, m4, m5⟩ := hO _ _ hans ann blk rid ops p n it0 qs rfl hmap hc hrest base g0 w0 b a2 k cs g2 w2 B2 k2
        exact ⟨g3, w3, B3, a3, t3, m1.imp fun _ hs => Steps.trans s1 (Steps.trans k1 (.head stepR_inLoop hs)), m2, (e1.le.trans' k3).trans' m3, m4, (hgo1.trans k5).trans m5⟩
      | exit j => exact finish (.exit j, ey, σy) g2 w2 B2 a2 t2 σ _ a1 g hans (e1.le.trans' k3) (hgo1.trans k5) s1 k1 k2 k4
      | ret => exact finish (.ret, ey, σy) g2 w2 B2 a2 t2 σ _ a1 g hans (e1.le.trans' k3) (hgo1.trans k5) s1 k1 k2 k4
      | thr d => simp [mnext, mend] at hans
end
end Go.Abs

/-
  Loops and rounds; what is answered at last is sound.
-/
set_option linter.unusedVariables false
set_option linter.unusedSimpArgs false
namespace Go.Abs
open Go

theorem Ent.cut {fb : Nat} {V : List Nat} {g : G} {w : World} {B : Nat → Nat} {e0 : Env} {tmps : Array Value} {p : Nat × D} {n : Nat} (h : Ent fb V g w B e0 tmps p) (hl : p.2.low n = true) : Ent fb V (g.cut n) w B e0 tmps p := by
  obtain ⟨t, d⟩ := p
  unfold Ent at h ⊢
  dsimp only at h ⊢ hl
  split
  · rename_i s cs
    obtain ⟨h1, h2, h3, h4⟩ := h
    obtain ⟨c, el, k1, k2, k3⟩ := h4.blk
    exact ⟨h1, h2, h3, h4.lo, fun hh => h4.free (G.cut_has hh), h4.noimm, c, el, k1, k2.cut hl, k3⟩
  · rename_i hd
    cases d with
    | own s cs => exact absurd rfl (hd s cs)
    | _ => exact RelV.cut h hl

theorem cut_le {g g' : G} {n : Nat} (h : g.le g') (hn : ∀ l i L, g.loc l i = some L → l < n) : g.le (g'.cut n) :=
  ⟨fun l i L e => by rw [G.cut_loc (hn l i L e)]; exact h.loc l i L e, h.imm⟩

section
variable {P : Program} {T : Tbl} {O : Oracle}

theorem loop_sound (hm : P.follows .mixedOrders = true) (hO : OrOk P (CR0 P) O) {live : List Nat} {seg : Bool} {c : Cmd} {env : Env} {σ : Stack} {r : R}
    (h : stepQ T O (.loop live seg c env σ) = some r) : AnsOk P (CR0 P) (.loop live seg c env σ) r := by
  simp only [stepQ] at h
  cases hac : acode O c (restrict live env) (if seg then [] :: σ else σ) with
  | none => simp [hac] at h
  | some y =>
  obtain ⟨x, e1, σ1⟩ := y
  rw [hac] at h
  dsimp only at h
  -- one turn
  have turn : ∀ e2 σ2, (if seg then (let r := frzE (σ.length - 1) (restrict (liveAt live x e1) e1) σ1; (r.1, r.2.tail)) else (e1, σ1)) = (e2, σ2) →
      ∀ (ann : Ann) blk code n, codeC P ann n blk code = some c → ∀ base g0 w0 b a k cs g w B, At (CR0 P) base ann.ownv g0 w0 n b g w B env σ a →
      Ends P ann n base g0 w0 b cs g w a (.code code :: .inLoop code :: k) (.inLoop code :: k) σ x e2 σ2 := by
    intro e2 σ2 he ann blk code n hc base g0 w0 b a k cs g w B ha
    cases seg with
    | false =>
      simp only [Bool.false_eq_true, if_false, Prod.mk.injEq] at he hac
      obtain ⟨rfl, rfl⟩ := he
      exact code_ok hm hO code hc hac (ha.restrict live)
    | true =>
      simp only [if_true] at he hac
      have ha1 : At (CR0 P) base ann.ownv g0 w0 n b g w B (restrict live env) ([] :: σ) a :=
        { ha.restrict live with inv := ha.inv.push, low := ha.low.push ha.inv, pos := by simp }
      obtain ⟨g1, w1, B1, a1, todo, k1, k2, k3, k4, k5⟩ := code_ok (cs := cs) (k := .inLoop code :: k) hm hO code hc hac ha1
      have hents := k2.fr.ents (liveAt live x e1)
      obtain ⟨g2, i2, ev2, hents2⟩ := frzE_ok (CR := CR0 P) (base := base) (σ.length - 1) _ σ1 g1 k2.inv hents
      obtain ⟨hlow, hgo⟩ := frzE_spec (σ.length - 1) (restrict (liveAt live x e1) e1) σ1
      cases hfz : frzE (σ.length - 1) (restrict (liveAt live x e1) e1) σ1 with
      | mk e3 σ3 =>
      rw [hfz] at he i2 hents2 hlow hgo
      simp only [Prod.mk.injEq] at he
      obtain ⟨rfl, rfl⟩ := he
      have hl3 : LowS σ3 := hgo.low k2.low
      have hlen3 : σ3.length = σ.length + 1 := by
        have h1 := hgo.len
        have h2 := k5.len
        simp at h1 h2; omega
      cases σ3 with
      | nil => simp at hlen3
      | cons s σ2 =>
      have hlen2 : σ2.length = σ.length := by simpa using hlen3
      have hpos := ha.pos
      rw [show σ.length - 1 + 1 = σ2.length from by omega] at hlow
      have hlvl : ∀ l i L, g.loc l i = some L → l < σ2.length := fun l i L h => by rw [hlen2]; exact ha.inv.lvl h
      have hlvl0 : ∀ l i L, g0.loc l i = some L → l < σ2.length := fun l i L h => by
        obtain ⟨L', h', _⟩ := ha.ev.le.loc l i L h
        exact hlvl l i L' h'
      obtain ⟨i3, l3⟩ := i2.pop hl3
      obtain ⟨rs, hmk⟩ := k2.marks
      have hmk2 := hmk.ev ev2
      have hle : g.le (g2.cut σ2.length) := cut_le (k3.trans' ev2.le) hlvl
      refine ⟨g2.cut σ2.length, w1, B1, a1, todo, k1.map fun d v hcl hv => (hv.mono ev2.le).cut (clean_low hcl), ⟨Ent.fr k2.fr fun p hp => (hents2 p hp).cut (hlow p hp), (k2.ev.trans ev2).cut hlvl0, i3, l3, by simpa [hlen2] using hpos, k2.size, ⟨rs, hmk2.eq, hmk2.nodup, fun r hr => ?_⟩, round_mono ha.round hle⟩, hle, k4, ⟨hlen2, fun _ => l3⟩⟩
      have := hmk2.all r hr
      exact ⟨this.lo, fun hh => this.free (G.cut_has hh), this.noimm, this.blk⟩
  cases hfin : (if seg then (let r := frzE (σ.length - 1) (restrict (liveAt live x e1) e1) σ1; (r.1, r.2.tail)) else (e1, σ1)) with
  | mk e2 σ2 =>
  have turn' := turn e2 σ2 hfin
  rw [hfin] at h
  dsimp only at h
  cases x with
  | normal =>
    dsimp only at h
    have hans := hO _ _ h
    cases r with
    | val => trivial
    | thr => trivial
    | ctl x e' σ' =>
      obtain ⟨hx, hloop⟩ := hans
      refine ⟨hx, fun ann blk code n hc base g0 w0 b a k cs g w B ha => ?_⟩
      obtain ⟨g1, w1, B1, a1, todo, k1, k2, k3, k4, k5⟩ := turn' ann blk code n hc base g0 w0 b a k cs g w B ha
      obtain rfl := k4
      obtain ⟨g2, w2, B2, a2, todo2, m1, m2, m3, m4, m5⟩ := hloop ann blk code n hc base g0 w0 b a1 k cs g1 w1 B1 k2
      exact ⟨g2, w2, B2, a2, todo2, m1.imp fun _ hs => Steps.trans k1 (.head stepR_inLoop hs), m2, k3.trans' m3, m4, k5.trans m5⟩
  | exit id =>
    cases h
    refine ⟨by simp, fun ann blk code n hc base g0 w0 b a k cs g w B ha => ?_⟩
    obtain ⟨g1, w1, B1, a1, todo, k1, k2, k3, k4, k5⟩ := turn' ann blk code n hc base g0 w0 b a k cs g w B ha
    exact ⟨g1, w1, B1, a1, todo, k1, k2, k3, k4.skip (fun _ => by simp) (by simp), k5⟩
  | ret =>
    cases h
    refine ⟨by simp, fun ann blk code n hc base g0 w0 b a k cs g w B ha => ?_⟩
    obtain ⟨g1, w1, B1, a1, todo, k1, k2, k3, k4, k5⟩ := turn' ann blk code n hc base g0 w0 b a k cs g w B ha
    exact ⟨g1, w1, B1, a1, todo, k1, k2, k3, k4.skip (fun _ => by simp) (by simp), k5⟩
  | thr d =>
    cases h
    refine ⟨by simp, fun ann blk code n hc base g0 w0 b a k cs g w B ha => ?_⟩
    obtain ⟨g1, w1, B1, a1, todo, k1, k2, k3, k4, k5⟩ := turn' ann blk code n hc base g0 w0 b a k cs g w B ha
    exact ⟨g1, w1, B1, a1, todo, k1, k2, k3, trivial, k5⟩

theorem putAll_rel {g : G} : ∀ (ts : List Nat) (ds : List D) (vs : List Value) (e : Env) (tmps : Array Value), RelL g ds vs → ds.length = ts.length → (∀ t ∈ ts, t < tmps.size) → RelEnv g e tmps →
    RelEnv g (putAll ts ds e) ((ts.zip vs).foldl (fun tmps (t, a) => tmps.setIfInBounds t a) tmps) ∧ ((ts.zip vs).foldl (fun tmps (t, a) => tmps.setIfInBounds t a) tmps).size = tmps.size
  | [], ds, vs, e, tmps, hr, hl, hs, he => by
    have : ds = [] := by simpa using hl
    subst this
    exact ⟨he, rfl⟩
  | t :: ts, [], vs, e, tmps, hr, hl, hs, he => by simp at hl
  | t :: ts, d :: ds, vs, e, tmps, hr, hl, hs, he => by
    cases hr with
    | cons _ c _ cs h1 h2 =>
      have he2 : RelEnv g ((t, d) :: e) (tmps.setIfInBounds t c) := fun u => by
        simp only [get]
        rw [Array.getD_eq_getD_getElem?]
        by_cases hu : t = u
        · subst hu
          rw [if_pos rfl]
          simpa [hs t (by simp)] using h1
        · rw [if_neg hu, Array.getElem?_setIfInBounds_ne hu, ← Array.getD_eq_getD_getElem?]; exact he u
      obtain ⟨k1, k2⟩ := putAll_rel ts ds cs ((t, d) :: e) (tmps.setIfInBounds t c) h2 (by simpa using hl) (fun u hu => by simpa using hs u (by simp [hu])) he2
      exact ⟨k1, by simpa using k2⟩

theorem RelEnv.fr {g : G} {w : World} {e : Env} {tmps : Array Value} {fb : Nat} {V : List Nat} {B : Nat → Nat} (h : RelEnv g e tmps) : Fr fb V g w B e tmps := by
  have hno : ∀ t s cs, get e t ≠ .own s cs := fun t s cs => not_own (h t) s cs
  refine ⟨fun t => ?_, fun t s cs ht => absurd ht (hno t s cs), fun t t' s s' cs cs' ht => absurd ht (hno t s cs)⟩
  have := h t
  cases hd : get e t with
  | own s cs => trivial
  | vr => rw [hd] at this; cases this
  | emp => rw [hd] at this; cases this
  | _ => rw [hd] at this; exact this

theorem Outs.steps {S : Frame → Prop} {g : G} {b : Frame} {a : Act} {todo : List Item} {x : Exit} (hx : ∀ d, x ≠ .thr d) (h : Outs S g b a todo x) : S (b.atR a todo) := by
  cases x with
  | thr d => exact absurd rfl (hx d)
  | _ => exact h

theorem round_sound (hm : P.follows .mixedOrders = true) (hO : OrOk P (CR0 P) O) {l i : Nat} {args : List D} {σ : Stack} {r : R}
    (h : stepQ T O (.round l i args σ) = some r) : AnsOk P (CR0 P) (.round l i args σ) r := by
  simp only [stepQ] at h
  split at h
  case h_2 => cases h
  rename_i lp hlp
  split at h
  case isFalse => cases h
  rename_i hlen
  split at h
  case h_2 => cases h
  rename_i e1 σ1 hasg
  split at h
  case h_2 => cases h
  rename_i lp1 hlp1
  split at h
  case isFalse => cases h
  rename_i hst
  split at h
  case h_2 => cases h
  rename_i x e2 s σ2 hbody
  split at h
  case h_2 => cases h
  rename_i lp2 hlp2
  have hxt : ∀ d, x ≠ .thr d := by
    intro d hd
    subst hd
    cases h
  -- the walk of a round, up to its end
  have walk : ∀ base g w (vs : Array Value) b, Inv (CR0 P) base g σ w → LowS σ → 0 < σ.length → RelL g args vs.toList → RelV g (.yld l i) (.func (.yield b) #[] #[]) →
      ∃ f tmps asg body, (Instr.yield b vs).run P w = .ok (.round b f tmps asg body) w ∧ ∀ cs, ∃ fb a' todo g' w' r2, Steps P (lone (Frame.round b f tmps asg body .normal) cs w) (lone (Frame.atR fb a' todo) cs w') ∧
        fb.roundOf = some b ∧ fb.kind = .normal ∧ Lands [] x todo ∧ Ev g w g' w' ∧ Inv (CR0 P) base g' σ2 w' ∧ LowS σ2 ∧ σ2.length = σ.length ∧ g'.loc l i = some (.lp b) ∧ w'.heap[b]? = some (.loop r2) ∧ RelLoop (CR0 P) g' lp2 r2 := by
    intro base g w vs b hi hl hp hr hy
    cases hy with
    | yld _ _ _ hL =>
    obtain ⟨b0, hb0, hrel⟩ := hi.dom l i _ hL
    rw [hlp] at hb0; cases hb0
    obtain ⟨r, hheap, hR⟩ := hrel
    have hpar : r.params.toList = lp.params := hR.params
    have hsize : vs.size = r.params.size := by
      have h1 := hr.length
      have h2 : r.params.toList.length = lp.params.length := by rw [hpar]
      simp at h1 h2; omega
    have hyield := run_yield (P := P) hheap hsize
    have hfold : (r.params.zip vs).foldl (fun tmps (t, a) => tmps.setIfInBounds t a) r.tmps = (lp.params.zip vs.toList).foldl (fun tmps (t, a) => tmps.setIfInBounds t a) r.tmps := by
      rw [← Array.foldl_toList, Array.toList_zip, hpar]
    rw [hfold] at hyield
    obtain ⟨hrelE, hsizeE⟩ := putAll_rel lp.params args vs.toList lp.env r.tmps hr hlen hR.small hR.env
    obtain ⟨ann, blk, hboth⟩ := hR.both
    simp only [codeC] at hboth
    split at hboth
    case h_2 => cases hboth
    rename_i C' A' B' hC hA hB
    cases hboth
    refine ⟨_, _, _, _, hyield, fun cs => ?_⟩
    generalize htm : (lp.params.zip vs.toList).foldl (fun tmps (t, a) => tmps.setIfInBounds t a) r.tmps = tm at hrelE hsizeE
    let fb : Frame := Frame.round b r.fn tm r.assign r.body .normal
    have hfr : Frame.round b r.fn tm r.assign r.body .normal = fb.atR ⟨tm, []⟩ [.code r.assign, .beginRound, .code r.body] := rfl
    have ha : At (CR0 P) base ann.ownv g w r.tmps.size fb g w (fun _ => 0) (putAll lp.params args lp.env) ([] :: σ) ⟨tm, []⟩ :=
      ⟨hrelE.fr, Ev.refl g w, hi.push, hl.push hi, by simp, hsizeE, ⟨[], rfl, List.nodup_nil, by simp [colls, fb, Frame.round]⟩, .inr ⟨b, l, i, rfl, hL⟩⟩
    obtain ⟨g1, w1, B1, a1, t1, k1, k2, k3, k4, k5⟩ := code_ok (b := fb) (cs := cs) (k := [.beginRound, .code r.body]) hm hO r.assign hA hasg ha
    obtain rfl := k4
    -- the record is busy
    obtain ⟨L1, hL1, hle1⟩ := k3.loc l i _ hL
    rw [Loc.lp_le hle1] at hL1
    obtain ⟨b1, hb1, hrel1⟩ := k2.inv.dom l i _ hL1
    rw [hlp1] at hb1; cases hb1
    obtain ⟨r1, hheap1, hR1⟩ := hrel1
    have hready : r1.state = .ready := by rw [hR1.state, hst]; rfl
    have hbegin := run_beginRound (P := P) hheap1 hready
    obtain ⟨i2, ev2⟩ := k2.inv.setLoop (r := { r1 with state := .busy }) (lp := { lp1 with state := 1 }) hL1 hlp1 ⟨rfl, hR1.pend, hR1.env, hR1.params, hR1.small, hR1.both⟩
    have hgo2 : Goes σ1 (setBlk σ1 l i (.loop { lp1 with state := 1 })) := ⟨setBlk_length, fun h => h.set fun hl => (h l i _ hlp1 hl : Blk.low (l + 1) (.loop lp1))⟩
    have ha2 := k2.go ev2 i2 hgo2 (k2.fr.ev ev2) rfl rfl
    obtain ⟨g3, w3, B3, a3, t3, m1, m2, m3, m4, m5⟩ := code_ok (b := fb) (cs := cs) (k := []) hm hO r.body hB hbody ha2
    have hlen2 : σ2.length = σ.length := by
      have h1 := m5.len
      have h2 := hgo2.len
      have h3 := k5.len
      simp at h1 h2 h3; omega
    have hlvl : ∀ l i L, g.loc l i = some L → l < σ2.length := fun l i L h => by rw [hlen2]; exact hi.lvl h
    obtain ⟨i3, l3⟩ := m2.inv.pop m2.low
    obtain ⟨L3, hL3, hle3⟩ := (k3.trans' (ev2.le.trans' m3)).loc l i _ hL
    rw [Loc.lp_le hle3] at hL3
    have hL3' : (g3.cut σ2.length).loc l i = some (.lp b) := by rw [G.cut_loc (hlvl l i _ hL)]; exact hL3
    obtain ⟨b3, hb3, hrel3⟩ := i3.dom l i _ hL3'
    rw [hlp2] at hb3; cases hb3
    obtain ⟨r3, hheap3, hR3⟩ := hrel3
    refine ⟨fb, a3, t3, g3.cut σ2.length, w3, r3, ?_, rfl, rfl, m4, m2.ev.cut hlvl, i3, l3, hlen2, hL3', hheap3, hR3⟩
    rw [hfr]
    exact Steps.trans k1 (.head (stepR_beginRound rfl hbegin) (m1.steps hxt))
  -- its end
  have fin : ∀ (bv : Bool) (st : Nat) (pd : Option Exit) (jump : Option Code), pendOf pd = some jump → bv = jump.isNone → st = (if jump.isNone then 0 else 2) →
      (∀ (fb : Frame) (a' : Act) (todo : List Item) (c : Frame) (cs : List Frame) (w' w2 : World) (b : Nat), fb.roundOf = some b → fb.kind = .normal → Lands [] x todo → (Instr.endRound b jump).run P w' = .ok (.bool bv) w2 →
        step P (lone (Frame.atR fb a' todo) (c :: cs) w') = .next (lone (c.finish (.bool bv)) cs w2)) →
      RoundOk P (CR0 P) l i args σ (.bool bv) (setBlk σ2 l i (.loop { lp2 with state := st, pend := pd })) := by
    intro bv st pd jump hpd hbv hstv hend
    refine ⟨⟨lp, hlp⟩, fun base g w vs b hi hl hp hr hy => ?_⟩
    obtain ⟨f, tmps, asg, body, hyield, hwalk⟩ := walk base g w vs b hi hl hp hr hy
    refine ⟨?_, f, tmps, asg, body, hyield, fun c cs => ?_⟩
    · obtain ⟨_, _, _, _, _, _, _, _, _, _, _, _, h7, h8, _⟩ := hwalk []
      exact ⟨setBlk_length.trans h8, fun _ => h7.set fun hl => (h7 l i _ hlp2 hl : Blk.low (l + 1) (.loop lp2))⟩
    · obtain ⟨fb, a', todo, g', w', r2, k1, k2, k3, k4, k5, k6, k7, k8, k9, k10, k11⟩ := hwalk (c :: cs)
      have hrun := run_endRound (P := P) jump k10
      rw [← hbv] at hrun
      have hR2 : RelLoop (CR0 P) g' { lp2 with state := st, pend := pd } { r2 with state := if jump.isNone then .ready else .done, pending := jump } :=
        ⟨by rw [hstv]; cases jump <;> rfl, hpd, k11.env, k11.params, k11.small, k11.both⟩
      obtain ⟨i4, ev4⟩ := k6.setLoop k9 hlp2 hR2
      exact ⟨.bool bv, g', _, .trans k1 (.one (hend fb a' todo c cs w' _ b k2 k3 k4 (by rw [hbv]; rw [hbv] at hrun; exact hrun))), k5.trans ev4, i4, .bool bv⟩
  cases x with
  | normal =>
    dsimp only at h
    cases h
    exact fin true 0 none none rfl rfl rfl fun fb a' todo c cs w' w2 b h1 h2 h3 h4 => by
      obtain rfl := h3
      exact stepR_round_end h1 h2 h4
  | exit id =>
    dsimp only at h
    cases h
    exact fin false 2 (some (.exit id)) (some (.exit id)) rfl rfl rfl fun fb a' todo c cs w' w2 b h1 h2 h3 h4 => by
      obtain ⟨k', rfl, hk⟩ := h3
      exact stepR_round_exit h1 h2 (by rw [hk]; rfl) h4
  | ret =>
    dsimp only at h
    cases h
    exact fin false 2 (some .ret) (some .ret) rfl rfl rfl fun fb a' todo c cs w' w2 b h1 h2 h3 h4 => by
      obtain ⟨k', rfl⟩ := h3
      exact stepR_round_ret h1 h2 h4
  | thr d => exact absurd rfl (hxt d)

theorem stepQ_sound (hT : TOk P T) (hm : P.follows .mixedOrders = true) (hO : OrOk P (CR0 P) O) : OrOk P (CR0 P) (stepQ T O) := fun q r h => by
  cases q with
  | call kp f args σ => exact call_sound hT hm hO h
  | loop live seg c e σ => exact loop_sound hm hO h
  | round l i args σ => exact round_sound hm hO h
  | mloop live it nx ok b c rest e σ => exact mloop_sound hm hO h
  | dcall f args th σ => exact dcall_sound hT hm hO h

theorem it_sound (hT : TOk P T) (hm : P.follows .mixedOrders = true) : ∀ n, OrOk P (CR0 P) (it T n)
  | 0 => fun q r h => by simp [it] at h
  | n + 1 => stepQ_sound hT hm (it_sound hT hm n)

theorem lim_sound (hT : TOk P T) (hm : P.follows .mixedOrders = true) : OrOk P (CR0 P) (lim T) := fun q r h => by
  unfold lim at h
  split at h
  · rename_i hex
    cases h
    exact it_sound hT hm _ _ _ hex.choose_spec.choose_spec
  · cases h
end
end Go.Abs

/-
  A call that the interpreter says answers true.
-/
set_option linter.unusedVariables false
set_option linter.unusedSimpArgs false
namespace Go.Abs
open Go
open Go.RowKit

def G0 (W : World) : G := ⟨fun _ _ => none, fun b o => match W.cell? ⟨b, o, none⟩ with | some v => if v.oneCell' then some v else none | none => none⟩

theorem G0_imm {W : World} {b o : Nat} {v : Value} : (G0 W).imm b o = some v ↔ W.cell? ⟨b, o, none⟩ = some v ∧ v.oneCell' = true := by
  simp only [G0]
  cases h : W.cell? ⟨b, o, none⟩ with
  | none => simp
  | some u =>
    dsimp only
    constructor
    · intro hh
      split at hh
      · cases hh; exact ⟨rfl, by assumption⟩
      · cases hh
    · rintro ⟨hh, h1⟩
      cases hh
      rw [if_pos h1]

theorem G0_has {W : World} {b : Nat} : ¬ (G0 W).has b := by rintro ⟨l, i, L, h, _⟩; cases h

theorem G0_inv (CR : CRel) (W : World) : Inv CR W.heap.size (G0 W) [[]] W where
  ge := Nat.le_refl _
  dom l i L h := by cases h
  imm b o v h := G0_imm.1 h
  sep l i L b h := by cases h
  inj l i L l' i' L' b h := by cases h
  lo l i L b h := by cases h
  tot l i b h := by
    simp only [blk?, seg?] at h
    split at h <;> simp at h

theorem top_calls {P : Program} {T : Tbl} (hT : TOk P T) (hm : P.follows .mixedOrders = true) {f : Nat} {args : List D} {σ' : Stack}
    (h : lim T (.call false f args [[]]) = some (.val (.bool true) σ')) {W : World} {vs : Array Value} (hr : RelL (G0 W) args vs.toList) :
    Calls P f vs W fun e W' => e = .returned (.bool true) ∧ Below W.heap.size W W' := by
  obtain ⟨_, hcall⟩ := lim_sound hT hm _ _ h
  obtain ⟨_, hcalls⟩ := hcall W.heap.size (G0 W) W vs (G0_inv _ W) (by
    intro l i b hb _
    simp only [blk?, seg?] at hb
    split at hb <;> simp at hb) (by simp) hr
  intro cs
  obtain ⟨e, w', fr, ⟨v, g', rfl, he, _, hv⟩, h2, h3, h4⟩ := hcalls cs
  have := hv.bool_inv
  subst this
  exact ⟨_, w', fr, ⟨rfl, ⟨he.os, he.tape, he.output, he.size, fun k hk => he.kept k hk G0_has⟩⟩, h2, h3, h4⟩
end Go.Abs

/-
  How to reckon what a call answers: step by step, by rewriting.
-/
set_option linter.unusedVariables false
set_option linter.unusedSimpArgs false
namespace Go.Abs
open Go

variable {T : Tbl} {O : Oracle}

theorem by_rfl.{u} {α : Sort u} {a b : α} (h : a = b) : a = b := h

inductive Mark.{u} {α : Sort u} (a : α) : Type
  | mk

def WO (O : Oracle) (ops : List Op) (e : Env) (σ : Stack) (Q : Env → Stack → Prop) (_m : Mark Q := .mk) : Prop := ∃ e' σ', aops O ops e σ = some (e', σ') ∧ Q e' σ'
def WC (O : Oracle) (c : Cmd) (e : Env) (σ : Stack) (Q : Exit → Env → Stack → Prop) (_m : Mark c := .mk) (_m' : Mark Q := .mk) : Prop := ∃ x e' σ', acode O c e σ = some (x, e', σ') ∧ Q x e' σ'
def WV (o : Option (D × Stack)) (Q : D → Stack → Prop) (_m : Mark Q := .mk) : Prop := ∃ d σ', o = some (d, σ') ∧ Q d σ'
def WL (T : Tbl) (live : List Nat) (seg : Bool) (c : Cmd) (e : Env) (σ : Stack) (Q : Exit → Env → Stack → Prop) (_m : Mark c := .mk) (_m' : Mark Q := .mk) : Prop := ∃ x e' σ', lim T (.loop live seg c e σ) = some (.ctl x e' σ') ∧ Q x e' σ'

theorem WO.mono {ops : List Op} {e : Env} {σ : Stack} {Q Q' : Env → Stack → Prop} (h : WO O ops e σ Q) (hq : ∀ e σ, Q e σ → Q' e σ) : WO O ops e σ Q' :=
  let ⟨e', σ', h1, h2⟩ := h; ⟨e', σ', h1, hq _ _ h2⟩
theorem WC.mono {c : Cmd} {e : Env} {σ : Stack} {Q Q' : Exit → Env → Stack → Prop} (h : WC O c e σ Q) (hq : ∀ x e σ, Q x e σ → Q' x e σ) : WC O c e σ Q' :=
  let ⟨x, e', σ', h1, h2⟩ := h; ⟨x, e', σ', h1, hq _ _ _ h2⟩
theorem WL.mono {live : List Nat} {seg : Bool} {c : Cmd} {e : Env} {σ : Stack} {Q Q' : Exit → Env → Stack → Prop} (h : WL T live seg c e σ Q) (hq : ∀ x e σ, Q x e σ → Q' x e σ) : WL T live seg c e σ Q' :=
  let ⟨x, e', σ', h1, h2⟩ := h; ⟨x, e', σ', h1, hq _ _ _ h2⟩


def WD {α : Type} (o : Option α) (Q : α → Prop) (_m : Mark Q := .mk) : Prop := ∃ d, o = some d ∧ Q d
@[simp, simp ↓] theorem WD_some {α : Type} {d : α} {Q : α → Prop} : WD (some d) Q = Q d := by
  simp only [WD, Option.some.injEq, eq_iff_iff]
  exact ⟨fun ⟨_, h, h'⟩ => by rw [h]; exact h', fun h => ⟨_, rfl, h⟩⟩
@[simp, simp ↓] theorem WD_none {α : Type} {Q : α → Prop} : WD none Q = False := by simp [WD]
def boolD : D → Option Bool
  | .bool b => some b
  | _ => none
@[simp] theorem boolD_bool {b : Bool} : boolD (.bool b) = some b := by_rfl rfl
@[simp] theorem bit_bool {b : Bool} : (D.bool b).bit = some (some b) := by_rfl rfl
@[simp] theorem bit_tup : (D.tup []).bit = some none := by_rfl rfl
def cvtD (k : IntKind) : D → Option D
  | .int _ m => some (.int k (k.wrap m))
  | _ => none
@[simp] theorem cvtD_int {k k' : IntKind} {m : Int} : cvtD k (.int k' m) = some (.int k (k.wrap m)) := by_rfl rfl

@[simp, simp ↓] theorem WV_some {d : D} {σ : Stack} {Q : D → Stack → Prop} : WV (some (d, σ)) Q = Q d σ := by
  simp only [WV, Option.some.injEq, Prod.mk.injEq, eq_iff_iff]
  constructor
  · rintro ⟨_, _, ⟨rfl, rfl⟩, h⟩; exact h
  · exact fun h => ⟨_, _, ⟨rfl, rfl⟩, h⟩
@[simp, simp ↓] theorem WV_none {Q : D → Stack → Prop} : WV none Q = False := by simp [WV]

@[simp, simp ↓] theorem WO_nil {e : Env} {σ : Stack} {Q : Env → Stack → Prop} : WO O [] e σ Q = Q e σ := by
  simp only [WO, aops, Option.some.injEq, Prod.mk.injEq, eq_iff_iff]
  constructor
  · rintro ⟨_, _, ⟨rfl, rfl⟩, h⟩; exact h
  · exact fun h => ⟨_, _, ⟨rfl, rfl⟩, h⟩

def grdIs (d : D) (w : Bool) : Option Bool :=
  match d with
  | .bool b => some (b == w)
  | _ => none

@[simp, simp ↓] theorem WO_grd {d : Option Nat} {g : Nat} {w n : Bool} {k : K} {r : List Op} {e : Env} {σ : Stack} {Q : Env → Stack → Prop} :
    WO O (⟨d, some (g, w), n, k⟩ :: r) e σ Q = WD (get e g).bit fun b => if b = some w then WO O (⟨d, none, n, k⟩ :: r) e σ Q else WO O r (put d (.tup []) e) σ Q := by
  cases h : (get e g).bit <;> simp only [WO, aops, h, reduceCtorEq, false_and, exists_false, WD_none, WD_some]
  rename_i b
  by_cases hb : b = some w
  · simp only [hb, if_true]
    rfl
  · simp only [if_neg hb]

theorem WO_sop {d : Option Nat} {n : Bool} {k : K} {r : List Op} {e : Env} {σ : Stack} {Q : Env → Stack → Prop} (h : aop O ⟨d, none, n, k⟩ e σ = (sop e σ k).map fun x => (put d x.1 e, x.2)) :
    WO O (⟨d, none, n, k⟩ :: r) e σ Q = WV (sop e σ k) fun v σ' => WO O r (put d v e) σ' Q := by
  simp only [WO, aops, h, WV, eq_iff_iff]
  constructor
  · rintro ⟨e', σ', h1, h2⟩
    cases hs : sop e σ k with
    | none => simp [hs] at h1
    | some y => simp [hs] at h1; exact ⟨y.1, y.2, rfl, e', σ', h1, h2⟩
  · rintro ⟨v, σ1, h1, e', σ', h2, h3⟩
    exact ⟨e', σ', by simp [h1, h2], h3⟩


theorem WV_of_D {o : Option (D × Stack)} {o' : Option D} {σ : Stack} {Q : D → Stack → Prop} (h : o = o'.map (·, σ)) : WV o Q = WD o' fun v => Q v σ := by
  subst h
  cases o' <;> simp

def lenD : D → Option D
  | .nils => some (.int .i64 0)
  | .lst n _ => some (.int .i64 n)
  | .sl _ _ _ _ n _ => some (.int .i64 n)
  | _ => none
@[simp] theorem lenD_nils : lenD .nils = some (.int .i64 0) := by_rfl rfl
@[simp] theorem lenD_lst {n : Nat} {cs : List D} : lenD (.lst n cs) = some (.int .i64 n) := by_rfl rfl
@[simp] theorem lenD_sl {l i v o n w : Nat} : lenD (.sl l i v o n w) = some (.int .i64 n) := by_rfl rfl

def ldD (ag : Bool) (sz : Nat) : Option (List D) → Option D
  | some cs =>
    if sz ≤ cs.length then
      if ag then some (.agg (cs.take sz)) else
      match cs with
      | d :: _ => some d
      | [] => none
    else none
  | none => none
@[simp] theorem ldD_ag {sz : Nat} {cs : List D} : ldD true sz (some cs) = if sz ≤ cs.length then some (.agg (cs.take sz)) else none := by_rfl rfl
@[simp] theorem ldD_one {d : D} {cs : List D} : ldD false 1 (some (d :: cs)) = some d := by simp [ldD]
@[simp] theorem rdD_cref {σ : Stack} {cs : List D} : rdD σ (.cref cs) = some cs := by_rfl rfl
@[simp] theorem rdD_ref {σ : Stack} {l i v off : Nat} : rdD σ (.ref l i v off) = (cells? σ l i v).map (·.drop off) := by_rfl rfl

def ldvD (e : Env) (v : Nat) (ag : Bool) (sz a : Nat) : Option D := ldD ag sz ((inVar e v a).map fun x => x.2.1.drop x.2.2)

def crefD : D → Option (List D)
  | .cref cs => some cs
  | _ => none
@[simp] theorem crefD_cref {cs : List D} : crefD (.cref cs) = some cs := by_rfl rfl
@[simp] theorem isnD_nilp : isnD true .nilp = some true := by_rfl rfl
@[simp] theorem isnD_cref {cs : List D} : isnD true (.cref cs) = some false := by_rfl rfl
@[simp] theorem isnD_ref {l i v off : Nat} : isnD true (.ref l i v off) = some false := by_rfl rfl
@[simp] theorem isnD_nils : isnD false .nils = some true := by_rfl rfl
@[simp] theorem isnD_lst {n : Nat} {cs : List D} : isnD false (.lst n cs) = if n = 0 then none else some false := by_rfl rfl
@[simp] theorem isnD_sl {l i v off n w : Nat} : isnD false (.sl l i v off n w) = if n = 0 then none else some false := by_rfl rfl
def nckD : D → Option D
  | .cref cs => some (.cref cs)
  | .ref l i v off => some (.ref l i v off)
  | _ => none
@[simp] theorem nckD_cref {cs : List D} : nckD (.cref cs) = some (.cref cs) := by_rfl rfl
@[simp] theorem nckD_ref {l i v off : Nat} : nckD (.ref l i v off) = some (.ref l i v off) := by_rfl rfl
def unD : UnOp → D → Option D
  | .not, .bool b => some (.bool !b)
  | .neg, .int k n => some (.int k (k.wrap (0 - n)))
  | _, _ => none
@[simp] theorem unD_not {b : Bool} : unD .not (.bool b) = some (.bool !b) := by_rfl rfl
@[simp] theorem unD_neg {k : IntKind} {n : Int} : unD .neg (.int k n) = some (.int k (k.wrap (0 - n))) := by_rfl rfl

def fadrV (n off : Nat) : D → Option D
  | .cref cs => some (.cref (cs.drop off))
  | .ref l i v o => some (.ref l i v (o + off))
  | .own s _ => some (.vr n s off)
  | .vr v s o => some (.vr v s (o + off))
  | _ => none
@[simp] theorem fadrV_cref {n off : Nat} {cs : List D} : fadrV n off (.cref cs) = some (.cref (cs.drop off)) := by_rfl rfl
@[simp] theorem fadrV_ref {n off l i v o : Nat} : fadrV n off (.ref l i v o) = some (.ref l i v (o + off)) := by_rfl rfl
@[simp] theorem fadrV_own {n off s : Nat} {cs : List D} : fadrV n off (.own s cs) = some (.vr n s off) := by_rfl rfl
@[simp] theorem fadrV_vr {n off v s o : Nat} : fadrV n off (.vr v s o) = some (.vr v s (o + off)) := by_rfl rfl

def fldD (ag : Bool) (off sz : Nat) : D → Option D
  | .agg cs =>
    if off + sz ≤ cs.length then
      if ag then some (.agg ((cs.drop off).take sz)) else cs[off]?
    else none
  | _ => none
@[simp] theorem fldD_agg {ag : Bool} {off sz : Nat} {cs : List D} : fldD ag off sz (.agg cs) = if off + sz ≤ cs.length then (if ag then some (.agg ((cs.drop off).take sz)) else cs[off]?) else none := by_rfl rfl

def idxAV (m len w : Nat) (x i : D) : Option D :=
  match intD i with
  | some n =>
    if 0 ≤ n ∧ n < len then
      match x with
      | .cref cs => some (.cref ((cs.drop (n.toNat * w)).take w))
      | .ref l j v off => some (.ref l j v (off + n.toNat * w))
      | .own s _ => some (.vr m s (n.toNat * w))
      | .vr v s o => some (.vr v s (o + n.toNat * w))
      | _ => none
    else none
  | none => none
@[simp] theorem idxAV_cref {m len w : Nat} {cs : List D} {k : IntKind} {n : Int} : idxAV m len w (.cref cs) (.int k n) = if 0 ≤ n ∧ n < len then some (.cref ((cs.drop (n.toNat * w)).take w)) else none := by_rfl rfl
@[simp] theorem idxAV_ref {m len w l j v off : Nat} {k : IntKind} {n : Int} : idxAV m len w (.ref l j v off) (.int k n) = if 0 ≤ n ∧ n < len then some (.ref l j v (off + n.toNat * w)) else none := by_rfl rfl
@[simp] theorem idxAV_own {m len w s : Nat} {cs : List D} {k : IntKind} {n : Int} : idxAV m len w (.own s cs) (.int k n) = if 0 ≤ n ∧ n < len then some (.vr m s (n.toNat * w)) else none := by_rfl rfl
@[simp] theorem idxAV_vr {m len w v s o : Nat} {k : IntKind} {n : Int} : idxAV m len w (.vr v s o) (.int k n) = if 0 ≤ n ∧ n < len then some (.vr v s (o + n.toNat * w)) else none := by_rfl rfl

def idxSV (w : Nat) (x i : D) : Option D :=
  match x, intD i with
  | .lst m cs, some n => if 0 ≤ n ∧ n < m then some (.cref ((cs.drop (n.toNat * w)).take w)) else none
  | .sl l j v off m w', some n => if 0 ≤ n ∧ n < m ∧ w' = w then some (.ref l j v (off + n.toNat * w)) else none
  | _, _ => none
@[simp] theorem idxSV_lst {w m : Nat} {cs : List D} {k : IntKind} {n : Int} : idxSV w (.lst m cs) (.int k n) = if 0 ≤ n ∧ n < m then some (.cref ((cs.drop (n.toNat * w)).take w)) else none := by_rfl rfl
@[simp] theorem idxSV_sl {w l j v off m w' : Nat} {k : IntKind} {n : Int} : idxSV w (.sl l j v off m w') (.int k n) = if 0 ≤ n ∧ n < m ∧ w' = w then some (.ref l j v (off + n.toNat * w)) else none := by_rfl rfl

def idxVD (ag : Bool) (len w : Nat) (x i : D) : Option D :=
  match x, intD i with
  | .agg cs, some n =>
    if 0 ≤ n ∧ n < len ∧ (n.toNat + 1) * w ≤ cs.length then
      if ag then some (.agg ((cs.drop (n.toNat * w)).take w)) else cs[n.toNat * w]?
    else none
  | _, _ => none
@[simp] theorem idxVD_agg {ag : Bool} {len w : Nat} {cs : List D} {k : IntKind} {n : Int} : idxVD ag len w (.agg cs) (.int k n) = if 0 ≤ n ∧ n < len ∧ (n.toNat + 1) * w ≤ cs.length then (if ag then some (.agg ((cs.drop (n.toNat * w)).take w)) else cs[n.toNat * w]?) else none := by_rfl rfl

def mnD (x y : D) : Option D :=
  match x, y with
  | .int k a, .int _ b => some (.int k (min a b))
  | _, _ => none
@[simp] theorem mnD_int {k k' : IntKind} {a b : Int} : mnD (.int k a) (.int k' b) = some (.int k (min a b)) := by_rfl rfl
def mxD (x y : D) : Option D :=
  match x, y with
  | .int k a, .int _ b => some (.int k (max a b))
  | _, _ => none
@[simp] theorem mxD_int {k k' : IntKind} {a b : Int} : mxD (.int k a) (.int k' b) = some (.int k (max a b)) := by_rfl rfl
def extD (x : D) (i : Nat) : Option D :=
  match x with
  | .tup ds => ds[i]?
  | _ => none
@[simp] theorem extD_tup {ds : List D} {i : Nat} : extD (.tup ds) i = ds[i]? := by_rfl rfl
def eqvD (ag : Bool) (ks : List (Option IntKind)) (neg : Bool) (x y : D) : Option D :=
  match x.row ag, y.row ag with
  | some p, some q => (eqK ks p q).map fun b => .bool (if neg then !b else b)
  | _, _ => none
@[simp] theorem eqvD_ag {ks : List (Option IntKind)} {neg : Bool} {p q : List D} : eqvD true ks neg (.agg p) (.agg q) = (eqK ks p q).map fun b => .bool (if neg then !b else b) := by_rfl rfl
@[simp] theorem eqvD_int {ks : List (Option IntKind)} {neg : Bool} {k k' : IntKind} {a b : Int} : eqvD false ks neg (.int k a) (.int k' b) = (eqK ks [.int k a] [.int k' b]).map fun b => .bool (if neg then !b else b) := by_rfl rfl
@[simp] theorem eqvD_bool {ks : List (Option IntKind)} {neg : Bool} {a b : Bool} : eqvD false ks neg (.bool a) (.bool b) = (eqK ks [.bool a] [.bool b]).map fun b => .bool (if neg then !b else b) := by_rfl rfl
@[simp] theorem reqK_nil : eqK [] [] [] = some true := by_rfl rfl
@[simp] theorem reqK_int {k k1 k2 : IntKind} {ks : List (Option IntKind)} {a b : Int} {x y : List D} : eqK (some k :: ks) (.int k1 a :: x) (.int k2 b :: y) = if k1 = k ∧ k2 = k then (eqK ks x y).map (a == b && ·) else none := by_rfl rfl
@[simp] theorem reqK_bool {ks : List (Option IntKind)} {a b : Bool} {x y : List D} : eqK (none :: ks) (.bool a :: x) (.bool b :: y) = (eqK ks x y).map (a == b && ·) := by_rfl rfl

def slcD (w : Nat) (x : D) (e : Env) (lo hi mx : Option Opd) : Option D :=
  match x with
  | .lst n cs => (bounds n e lo hi mx).map fun b => .lst (b.2 - b.1) ((cs.drop (b.1 * w)).take ((b.2 - b.1) * w))
  | .sl l i v off n w' => if w' = w then (bounds n e lo hi mx).map fun b => .sl l i v (off + b.1 * w) (b.2 - b.1) w else none
  | .nils => (bounds 0 e lo hi mx).map fun _ => .nils
  | _ => none
@[simp] theorem slcD_lst {w n : Nat} {cs : List D} {e : Env} {lo hi mx : Option Opd} : slcD w (.lst n cs) e lo hi mx = (bounds n e lo hi mx).map fun b => .lst (b.2 - b.1) ((cs.drop (b.1 * w)).take ((b.2 - b.1) * w)) := by_rfl rfl
@[simp] theorem slcD_sl {w l i v off n w' : Nat} {e : Env} {lo hi mx : Option Opd} : slcD w (.sl l i v off n w') e lo hi mx = if w' = w then (bounds n e lo hi mx).map fun b => .sl l i v (off + b.1 * w) (b.2 - b.1) w else none := by_rfl rfl
@[simp] theorem slcD_nils {w : Nat} {e : Env} {lo hi mx : Option Opd} : slcD w .nils e lo hi mx = (bounds 0 e lo hi mx).map fun _ => .nils := by_rfl rfl

section bins
variable {k : IntKind} {a b : Int}
@[simp] theorem binD_add : binD .add (.int k a) (.int k b) = some (.int k (k.wrap (a + b))) := by simp [binD]
@[simp] theorem binD_sub : binD .sub (.int k a) (.int k b) = some (.int k (k.wrap (a - b))) := by simp [binD]
@[simp] theorem binD_mul : binD .mul (.int k a) (.int k b) = some (.int k (k.wrap (a * b))) := by simp [binD]
@[simp] theorem binD_quo : binD .quo (.int k a) (.int k b) = if b ≠ 0 then some (.int k (k.wrap (a.tdiv b))) else none := by simp [binD]
@[simp] theorem binD_rem : binD .rem (.int k a) (.int k b) = if b ≠ 0 then some (.int k (a.tmod b)) else none := by simp [binD]
@[simp] theorem binD_shl {k' : IntKind} : binD .shl (.int k a) (.int k' b) = if b < 0 then none else some (.int k (k.wrap (a * 2 ^ (min b.toNat k.bits)))) := by_rfl rfl
@[simp] theorem binD_shr {k' : IntKind} : binD .shr (.int k a) (.int k' b) = if b < 0 then none else some (.int k (a.fdiv (2 ^ (min b.toNat k.bits)))) := by_rfl rfl
@[simp] theorem binD_and : binD .and (.int k a) (.int k b) = some (.int k (k.wrap ((BitVec.ofInt k.bits a &&& BitVec.ofInt k.bits b).toNat : Int))) := by simp [binD]
@[simp] theorem binD_or : binD .or (.int k a) (.int k b) = some (.int k (k.wrap ((BitVec.ofInt k.bits a ||| BitVec.ofInt k.bits b).toNat : Int))) := by simp [binD]
@[simp] theorem binD_xor : binD .xor (.int k a) (.int k b) = some (.int k (k.wrap ((BitVec.ofInt k.bits a ^^^ BitVec.ofInt k.bits b).toNat : Int))) := by simp [binD]
@[simp] theorem binD_eql : binD .eql (.int k a) (.int k b) = some (.bool (a == b)) := by simp [binD]
@[simp] theorem binD_neq : binD .neq (.int k a) (.int k b) = some (.bool (a != b)) := by simp [binD]
@[simp] theorem binD_lss : binD .lss (.int k a) (.int k b) = some (.bool (decide (a < b))) := by simp [binD]
@[simp] theorem binD_leq : binD .leq (.int k a) (.int k b) = some (.bool (decide (a ≤ b))) := by simp [binD]
@[simp] theorem binD_gtr : binD .gtr (.int k a) (.int k b) = some (.bool (decide (b < a))) := by simp [binD]
@[simp] theorem binD_geq : binD .geq (.int k a) (.int k b) = some (.bool (decide (b ≤ a))) := by simp [binD]
end bins

@[simp] theorem rstrip_undef : D.strip .undef = .undef := by_rfl rfl
@[simp] theorem rstrip_bool {b : Bool} : D.strip (.bool b) = .bool b := by_rfl rfl
@[simp] theorem rstrip_int {k : IntKind} {n : Int} : D.strip (.int k n) = .int k n := by_rfl rfl
@[simp] theorem rstrip_str {s : List UInt8} : D.strip (.str s) = .str s := by_rfl rfl
@[simp] theorem rstrip_agg {cs : List D} : D.strip (.agg cs) = .agg cs := by_rfl rfl
@[simp] theorem rstrip_tup {cs : List D} : D.strip (.tup cs) = .tup cs := by_rfl rfl
@[simp] theorem rstrip_nilp : D.strip .nilp = .nilp := by_rfl rfl
@[simp] theorem rstrip_ref {l i v o : Nat} : D.strip (.ref l i v o) = .ref l i v o := by_rfl rfl
@[simp] theorem rstrip_cref {cs : List D} : D.strip (.cref cs) = .cref cs := by_rfl rfl
@[simp] theorem rstrip_nils : D.strip .nils = .nils := by_rfl rfl
@[simp] theorem rstrip_lst {n : Nat} {cs : List D} : D.strip (.lst n cs) = .lst n cs := by_rfl rfl
@[simp] theorem rstrip_sl {l i v o n w : Nat} : D.strip (.sl l i v o n w) = .sl l i v o n w := by_rfl rfl
@[simp] theorem rstrip_fn {f : Nat} {a b : List D} : D.strip (.fn f a b) = .fn f a b := by_rfl rfl
@[simp] theorem rstrip_ifc {t : Nat} {d : D} : D.strip (.ifc t d) = .ifc t d := by_rfl rfl
@[simp] theorem rstrip_nili : D.strip .nili = .nili := by_rfl rfl
@[simp] theorem rcalm_ifc {t : Nat} {d : D} : D.calm (.ifc t d) = .ifc t d := by_rfl rfl
@[simp] theorem rcalm_nili : D.calm .nili = .nili := by_rfl rfl
@[simp] theorem rcells_ifc {t : Nat} {d : D} : D.cells (.ifc t d) = some [.ifc t d] := by_rfl rfl
@[simp] theorem rcells_nili : D.cells .nili = some [.nili] := by_rfl rfl
@[simp] theorem rstrip_nilf : D.strip .nilf = .nilf := by_rfl rfl
@[simp] theorem rstrip_yld {l i : Nat} : D.strip (.yld l i) = .yld l i := by_rfl rfl
@[simp] theorem rstrip_own {s : Nat} {cs : List D} : D.strip (.own s cs) = .undef := by_rfl rfl
@[simp] theorem rstrip_emp : D.strip .emp = .undef := by_rfl rfl
@[simp] theorem rcalm_emp : D.calm .emp = .undef := by_rfl rfl
@[simp] theorem rstrip_vr {x s o : Nat} : D.strip (.vr x s o) = .undef := by_rfl rfl
@[simp] theorem rcalm_undef : D.calm .undef = .undef := by_rfl rfl
@[simp] theorem rcalm_bool {b : Bool} : D.calm (.bool b) = .bool b := by_rfl rfl
@[simp] theorem rcalm_int {k : IntKind} {n : Int} : D.calm (.int k n) = .int k n := by_rfl rfl
@[simp] theorem rcalm_str {s : List UInt8} : D.calm (.str s) = .str s := by_rfl rfl
@[simp] theorem rcalm_agg {cs : List D} : D.calm (.agg cs) = .agg cs := by_rfl rfl
@[simp] theorem rcalm_tup {cs : List D} : D.calm (.tup cs) = .tup cs := by_rfl rfl
@[simp] theorem rcalm_nilp : D.calm .nilp = .nilp := by_rfl rfl
@[simp] theorem rcalm_ref {l i v o : Nat} : D.calm (.ref l i v o) = .ref l i v o := by_rfl rfl
@[simp] theorem rcalm_cref {cs : List D} : D.calm (.cref cs) = .cref cs := by_rfl rfl
@[simp] theorem rcalm_nils : D.calm .nils = .nils := by_rfl rfl
@[simp] theorem rcalm_lst {n : Nat} {cs : List D} : D.calm (.lst n cs) = .lst n cs := by_rfl rfl
@[simp] theorem rcalm_sl {l i v o n w : Nat} : D.calm (.sl l i v o n w) = .sl l i v o n w := by_rfl rfl
@[simp] theorem rcalm_fn {f : Nat} {a b : List D} : D.calm (.fn f a b) = .fn f a b := by_rfl rfl
@[simp] theorem rcalm_nilf : D.calm .nilf = .nilf := by_rfl rfl
@[simp] theorem rcalm_yld {l i : Nat} : D.calm (.yld l i) = .yld l i := by_rfl rfl
@[simp] theorem rcalm_own {s : Nat} {cs : List D} : D.calm (.own s cs) = .own 0 cs := by_rfl rfl
@[simp] theorem rcalm_vr {x s o : Nat} : D.calm (.vr x s o) = .undef := by_rfl rfl
@[simp] theorem rcells_bool {b : Bool} : D.cells (.bool b) = some [.bool b] := by_rfl rfl
@[simp] theorem rcells_int {k : IntKind} {n : Int} : D.cells (.int k n) = some [.int k n] := by_rfl rfl
@[simp] theorem rcells_str {s : List UInt8} : D.cells (.str s) = some [.str s] := by_rfl rfl
@[simp] theorem rcells_agg {cs : List D} : D.cells (.agg cs) = some cs := by_rfl rfl
@[simp] theorem rcells_nilp : D.cells .nilp = some [.nilp] := by_rfl rfl
@[simp] theorem rcells_ref {l i v o : Nat} : D.cells (.ref l i v o) = some [.ref l i v o] := by_rfl rfl
@[simp] theorem rcells_cref {cs : List D} : D.cells (.cref cs) = some [.cref cs] := by_rfl rfl
@[simp] theorem rcells_nils : D.cells .nils = some [.nils] := by_rfl rfl
@[simp] theorem rcells_lst {n : Nat} {cs : List D} : D.cells (.lst n cs) = some [.lst n cs] := by_rfl rfl
@[simp] theorem rcells_sl {l i v o n w : Nat} : D.cells (.sl l i v o n w) = some [.sl l i v o n w] := by_rfl rfl
@[simp] theorem rcells_fn {f : Nat} {a b : List D} : D.cells (.fn f a b) = some [.fn f a b] := by_rfl rfl
@[simp] theorem rcells_nilf : D.cells .nilf = some [.nilf] := by_rfl rfl
@[simp] theorem rcells_yld {l i : Nat} : D.cells (.yld l i) = some [.yld l i] := by_rfl rfl
@[simp] theorem intD_int {k : IntKind} {n : Int} : intD (.int k n) = some n := by_rfl rfl

@[simp] theorem callv_fn {O : Oracle} {kp : Bool} {f : Nat} {first cap args : List D} {σ : Stack} : callv O kp (.fn f first cap) args σ = R.vals (O (.call kp f (first ++ args ++ cap) σ)) := by_rfl rfl
@[simp] theorem callv_yld {O : Oracle} {kp : Bool} {l i : Nat} {args : List D} {σ : Stack} : callv O kp (.yld l i) args σ = R.vals (O (.round l i args σ)) := by_rfl rfl
@[simp] theorem vals_val {d : D} {σ : Stack} : R.vals (some (.val d σ)) = some (d, σ) := by_rfl rfl

section ops
variable {d : Option Nat} {n : Bool} {r : List Op} {e : Env} {σ : Stack} {Q : Env → Stack → Prop}

@[simp, simp ↓] theorem WO_mv {x : Opd} : WO O (⟨d, none, n, .mv x⟩ :: r) e σ Q = WO O r (put d (opd e x) e) σ Q := by rw [WO_sop rfl]; simp [sop]
@[simp, simp ↓] theorem WO_nilb {w : Nat} : WO O (⟨d, none, n, .nilb w⟩ :: r) e σ Q = WV (sop e σ (.nilb w)) fun v σ' => WO O r (put d v e) σ' Q := WO_sop rfl
@[simp, simp ↓] theorem WO_alc {nb : List (Nat × Nat)} {cs : List D} : WO O (⟨d, none, n, .alc nb cs⟩ :: r) e σ Q = WV (sop e σ (.alc nb cs)) fun v σ' => WO O r (put d v e) σ' Q := WO_sop rfl
@[simp, simp ↓] theorem WO_pick {c a b : Opd} : WO O (⟨d, none, n, .pick c a b⟩ :: r) e σ Q = WD (boolD (opd e c)) fun t => WO O r (put d (if t then opd e a else opd e b) e) σ Q := by
  rw [WO_sop rfl]
  simp only [sop]
  cases opd e c <;> simp [boolD]
@[simp, simp ↓] theorem WO_boxi {x : Opd} : WO O (⟨d, none, n, .boxi x⟩ :: r) e σ Q = WD (opd e x).cells fun cs => WO O r (put d (.cref cs) e) σ Q := by
  rw [WO_sop rfl]
  simp only [sop]
  cases (opd e x).cells <;> simp
@[simp, simp ↓] theorem WO_boxm {x : Opd} : WO O (⟨d, none, n, .boxm x⟩ :: r) e σ Q = WV (sop e σ (.boxm x)) fun v σ' => WO O r (put d v e) σ' Q := WO_sop rfl
@[simp, simp ↓] theorem WO_bld {z : List D} {ps : List (Nat × Nat × Opd)} : WO O (⟨d, none, n, .bld z ps⟩ :: r) e σ Q = WD (fillD e ps z) fun cs => WO O r (put d (.agg cs) e) σ Q := by
  rw [WO_sop rfl]
  simp only [sop]
  cases fillD e ps z <;> simp
@[simp, simp ↓] theorem WO_bsi {m w : Nat} {z : List D} {ps : List (Nat × Nat × Opd)} : WO O (⟨d, none, n, .bsi m w z ps⟩ :: r) e σ Q = WD (fillD e ps z) fun cs => WO O r (put d (.lst m cs) e) σ Q := by
  rw [WO_sop rfl]
  simp only [sop]
  cases fillD e ps z <;> simp
@[simp, simp ↓] theorem WO_bsm {m w : Nat} {z : List D} {ps : List (Nat × Nat × Opd)} : WO O (⟨d, none, n, .bsm m w z ps⟩ :: r) e σ Q = WV (sop e σ (.bsm m w z ps)) fun v σ' => WO O r (put d v e) σ' Q := WO_sop rfl
@[simp, simp ↓] theorem WO_ld {ag : Bool} {sz : Nat} {a : Opd} : WO O (⟨d, none, n, .ld ag sz a⟩ :: r) e σ Q = WD (ldD ag sz (rdD σ (opd e a))) fun v => WO O r (put d v e) σ Q := by
  rw [WO_sop rfl]
  refine WV_of_D ?_
  simp only [sop]
  cases rdD σ (opd e a) with
  | none => rfl
  | some cs =>
    simp only [ldD]
    split
    · cases ag
      · cases cs <;> rfl
      · rfl
    · rfl
@[simp, simp ↓] theorem WO_ldi {ag : Bool} {sz : Nat} {a : Opd} : WO O (⟨d, none, n, .ldi ag sz a⟩ :: r) e σ Q = WD (ldD ag sz (crefD (opd e a))) fun v => WO O r (put d v e) σ Q := by
  rw [WO_sop rfl]
  refine WV_of_D ?_
  simp only [sop]
  cases opd e a with
  | cref cs =>
    simp only [crefD, ldD]
    split
    · cases ag
      · cases cs <;> rfl
      · rfl
    · rfl
  | _ => rfl
@[simp, simp ↓] theorem WO_isn {ps neg : Bool} {x : Opd} : WO O (⟨d, none, n, .isn ps neg x⟩ :: r) e σ Q = WD (isnD ps (opd e x)) fun b => WO O r (put d (.bool (if neg then !b else b)) e) σ Q := by
  rw [WO_sop rfl]
  simp only [sop]
  cases isnD ps (opd e x) <;> simp
@[simp, simp ↓] theorem WO_nck {x : Opd} : WO O (⟨d, none, n, .nck x⟩ :: r) e σ Q = WD (nckD (opd e x)) fun v => WO O r (put d v e) σ Q := by
  rw [WO_sop rfl]
  refine WV_of_D ?_
  simp only [sop]
  cases opd e x <;> rfl
@[simp, simp ↓] theorem WO_st {nb : List (Nat × Nat)} {sz : Nat} {a x : Opd} : WO O (⟨d, none, n, .st nb sz a x⟩ :: r) e σ Q = WV (sop e σ (.st nb sz a x)) fun v σ' => WO O r (put d v e) σ' Q := WO_sop rfl
@[simp, simp ↓] theorem WO_stc {os : List Nat} {sz : Nat} {a x : Opd} : WO O (⟨d, none, n, .stc os sz a x⟩ :: r) e σ Q = WV (sop e σ (.stc os sz a x)) fun v σ' => WO O r (put d v e) σ' Q := WO_sop rfl
@[simp] theorem off_ref {l i l' i' v o : Nat} : D.off l i (.ref l' i' v o) = decide (¬ (l' = l ∧ i' = i)) := by rw [D.off]
@[simp, simp ↓] theorem WO_ldv {v : Nat} {ag : Bool} {sz a : Nat} : WO O (⟨d, none, n, .ldv v ag sz a⟩ :: r) e σ Q = WD (ldvD e v ag sz a) fun v => WO O r (put d v e) σ Q := by
  rw [WO_sop rfl]
  refine WV_of_D ?_
  simp only [sop, ldvD]
  cases inVar e v a with
  | none => rfl
  | some x =>
    obtain ⟨s, cs, off⟩ := x
    simp only [ldD, Option.map_some]
    split
    · cases ag
      · cases cs.drop off <;> rfl
      · rfl
    · rfl
@[simp, simp ↓] theorem WO_bin {o : BinOp} {x y : Opd} : WO O (⟨d, none, n, .bin o x y⟩ :: r) e σ Q = WD (binD o (opd e x) (opd e y)) fun v => WO O r (put d v e) σ Q := by
  rw [WO_sop rfl]
  simp only [sop]
  cases binD o (opd e x) (opd e y) <;> simp
@[simp, simp ↓] theorem WO_eqv {ag : Bool} {ks : List (Option IntKind)} {neg : Bool} {x y : Opd} : WO O (⟨d, none, n, .eqv ag ks neg x y⟩ :: r) e σ Q = WD (eqvD ag ks neg (opd e x) (opd e y)) fun v => WO O r (put d v e) σ Q := by
  rw [WO_sop rfl]
  refine WV_of_D ?_
  simp only [sop, eqvD]
  cases (opd e x).row ag <;> cases (opd e y).row ag <;> simp [Option.map_map, Function.comp_def]
@[simp, simp ↓] theorem WO_un {o : UnOp} {x : Opd} : WO O (⟨d, none, n, .un o x⟩ :: r) e σ Q = WD (unD o (opd e x)) fun v => WO O r (put d v e) σ Q := by
  rw [WO_sop rfl]
  refine WV_of_D ?_
  simp only [sop]
  cases o <;> cases opd e x <;> rfl
@[simp, simp ↓] theorem WO_cvt {k : IntKind} {x : Opd} : WO O (⟨d, none, n, .cvt k x⟩ :: r) e σ Q = WD (cvtD k (opd e x)) fun v => WO O r (put d v e) σ Q := by
  rw [WO_sop rfl]
  simp only [sop]
  cases opd e x <;> simp [cvtD]
@[simp, simp ↓] theorem WO_pur {p : Pu} {xs : List Opd} : WO O (⟨d, none, n, .pur p xs⟩ :: r) e σ Q = WD (puD p (xs.map (opd e))) fun v => WO O r (put d v e) σ Q := by
  rw [WO_sop rfl]
  simp only [sop]
  cases puD p (xs.map (opd e)) <;> simp
@[simp, simp ↓] theorem WO_mp {p : Mo} {xs : List Opd} : WO O (⟨d, none, n, .mp p xs⟩ :: r) e σ Q = WV (mpD σ p (xs.map (opd e))) fun v σ' => WO O r (put d v e) σ' Q := WO_sop rfl
@[simp, simp ↓] theorem WO_mki {t : Nat} {x : Opd} : WO O (⟨d, none, n, .mki t x⟩ :: r) e σ Q = WO O r (put d (.ifc t (opd e x)) e) σ Q := by rw [WO_sop rfl]; simp [sop]
@[simp, simp ↓] theorem WO_tas {t : Nat} {z : Option D} {x : Opd} : WO O (⟨d, none, n, .tas t z x⟩ :: r) e σ Q = WD (tasD t z (opd e x)) fun v => WO O r (put d v e) σ Q := by
  rw [WO_sop rfl]
  simp only [sop]
  cases tasD t z (opd e x) <;> simp
@[simp, simp ↓] theorem WO_isi {neg : Bool} {x : Opd} : WO O (⟨d, none, n, .isi neg x⟩ :: r) e σ Q = WD (isiD (opd e x)) fun b => WO O r (put d (.bool (if neg then !b else b)) e) σ Q := by
  rw [WO_sop rfl]
  simp only [sop]
  cases isiD (opd e x) <;> simp
@[simp] theorem isiD_nili : isiD .nili = some true := by_rfl rfl
@[simp] theorem isiD_ifc {t : Nat} {d : D} : isiD (.ifc t d) = some false := by_rfl rfl
@[simp] theorem tasD_nili {t : Nat} {z : D} : tasD t (some z) .nili = some (.tup [z, .bool false]) := by_rfl rfl
@[simp] theorem tasD_ifc {t t' : Nat} {z d : D} : tasD t (some z) (.ifc t' d) = some (if t' = t then .tup [d, .bool true] else .tup [z, .bool false]) := by_rfl rfl
@[simp] theorem tasD_one {t t' : Nat} {d : D} : tasD t none (.ifc t' d) = if t' = t then some d else none := by_rfl rfl
@[simp, simp ↓] theorem WO_mkf {f : Nat} {xs ys : List Opd} : WO O (⟨d, none, n, .mkf f xs ys⟩ :: r) e σ Q = WO O r (put d (.fn f (xs.map (opd e)) (ys.map (opd e))) e) σ Q := by rw [WO_sop rfl]; simp [sop]
@[simp, simp ↓] theorem WO_mks {w b : Nat} {z : List D} {l c : Opd} : WO O (⟨d, none, n, .mks w b z l c⟩ :: r) e σ Q = WV (sop e σ (.mks w b z l c)) fun v σ' => WO O r (put d v e) σ' Q := WO_sop rfl
@[simp, simp ↓] theorem WO_slc {w : Nat} {x : Opd} {lo hi mx : Option Opd} : WO O (⟨d, none, n, .slc w x lo hi mx⟩ :: r) e σ Q = WD (slcD w (opd e x) e lo hi mx) fun v => WO O r (put d v e) σ Q := by
  rw [WO_sop rfl]
  refine WV_of_D ?_
  simp only [sop, slcD]
  cases opd e x <;> first | rfl | (simp only []; split <;> simp [Option.map_map, Function.comp_def]) | simp [Option.map_map, Function.comp_def]
@[simp, simp ↓] theorem WO_slca {l w : Nat} {x : Opd} {lo hi : Option Opd} : WO O (⟨d, none, n, .slca l w x lo hi⟩ :: r) e σ Q = WV (sop e σ (.slca l w x lo hi)) fun v σ' => WO O r (put d v e) σ' Q := WO_sop rfl
@[simp, simp ↓] theorem WO_fadr {off m : Nat} : WO O (⟨d, none, n, .fadr off (.t m)⟩ :: r) e σ Q = WD (fadrV m off (get e m)) fun v => WO O r (put d v e) σ Q := by
  rw [WO_sop rfl]
  refine WV_of_D ?_
  simp only [sop]
  cases get e m <;> rfl
@[simp, simp ↓] theorem WO_fld {ag : Bool} {off sz : Nat} {x : Opd} : WO O (⟨d, none, n, .fld ag off sz x⟩ :: r) e σ Q = WD (fldD ag off sz (opd e x)) fun v => WO O r (put d v e) σ Q := by
  rw [WO_sop rfl]
  refine WV_of_D ?_
  simp only [sop]
  cases opd e x <;> first | rfl | (simp only [fldD]; split <;> cases ag <;> simp)
@[simp, simp ↓] theorem WO_idxA {l w m : Nat} {i : Opd} : WO O (⟨d, none, n, .idxA l w (.t m) i⟩ :: r) e σ Q = WD (idxAV m l w (get e m) (opd e i)) fun v => WO O r (put d v e) σ Q := by
  rw [WO_sop rfl]
  refine WV_of_D ?_
  simp only [sop, idxAV]
  cases intD (opd e i) with
  | none => rfl
  | some k => simp only []; split <;> cases get e m <;> rfl
@[simp, simp ↓] theorem WO_idxS {w : Nat} {x i : Opd} : WO O (⟨d, none, n, .idxS w x i⟩ :: r) e σ Q = WD (idxSV w (opd e x) (opd e i)) fun v => WO O r (put d v e) σ Q := by
  rw [WO_sop rfl]
  refine WV_of_D ?_
  simp only [sop, idxSV]
  cases intD (opd e i) with
  | none => cases opd e x <;> rfl
  | some k => cases opd e x <;> first | rfl | (simp only []; split <;> rfl)
@[simp, simp ↓] theorem WO_idxV {ag : Bool} {l w : Nat} {x i : Opd} : WO O (⟨d, none, n, .idxV ag l w x i⟩ :: r) e σ Q = WD (idxVD ag l w (opd e x) (opd e i)) fun v => WO O r (put d v e) σ Q := by
  rw [WO_sop rfl]
  refine WV_of_D ?_
  simp only [sop, idxVD]
  cases intD (opd e i) with
  | none => cases opd e x <;> rfl
  | some k => cases opd e x <;> first | rfl | (simp only []; split <;> cases ag <;> simp)
@[simp, simp ↓] theorem WO_lenS {x : Opd} : WO O (⟨d, none, n, .lenS x⟩ :: r) e σ Q = WD (lenD (opd e x)) fun v => WO O r (put d v e) σ Q := by
  rw [WO_sop rfl]
  refine WV_of_D ?_
  simp only [sop]
  cases opd e x <;> rfl
@[simp, simp ↓] theorem WO_lenC {m : Nat} : WO O (⟨d, none, n, .lenC m⟩ :: r) e σ Q = WO O r (put d (.int .i64 m) e) σ Q := by rw [WO_sop rfl]; simp [sop]
@[simp, simp ↓] theorem WO_mn {x y : Opd} : WO O (⟨d, none, n, .mn x y⟩ :: r) e σ Q = WD (mnD (opd e x) (opd e y)) fun v => WO O r (put d v e) σ Q := by
  rw [WO_sop rfl]
  refine WV_of_D ?_
  simp only [sop]
  cases opd e x <;> cases opd e y <;> rfl
@[simp, simp ↓] theorem WO_mx {x y : Opd} : WO O (⟨d, none, n, .mx x y⟩ :: r) e σ Q = WD (mxD (opd e x) (opd e y)) fun v => WO O r (put d v e) σ Q := by
  rw [WO_sop rfl]
  refine WV_of_D ?_
  simp only [sop]
  cases opd e x <;> cases opd e y <;> rfl
@[simp, simp ↓] theorem WO_apz {w b : Nat} {s x : Opd} : WO O (⟨d, none, n, .apz w b s x⟩ :: r) e σ Q = WV (sop e σ (.apz w b s x)) fun v σ' => WO O r (put d v e) σ' Q := WO_sop rfl
@[simp, simp ↓] theorem WO_app {w b : Nat} {s x : Opd} : WO O (⟨d, none, n, .app w b s x⟩ :: r) e σ Q = WV (sop e σ (.app w b s x)) fun v σ' => WO O r (put d v e) σ' Q := WO_sop rfl
@[simp, simp ↓] theorem WO_bse : WO O (⟨d, none, n, .bse⟩ :: r) e σ Q = WV (sop e σ .bse) fun v σ' => WO O r (put d v e) σ' Q := WO_sop rfl
@[simp, simp ↓] theorem WO_ape {w b v : Nat} {x : Opd} : WO O (⟨d, none, n, .ape w b v x⟩ :: r) e σ Q = WV (sop e σ (.ape w b v x)) fun v σ' => WO O r (put d v e) σ' Q := WO_sop rfl
@[simp, simp ↓] theorem WO_cpi {w b : Nat} {x : Opd} : WO O (⟨d, none, n, .cpi w b x⟩ :: r) e σ Q = WV (sop e σ (.cpi w b x)) fun v σ' => WO O r (put d v e) σ' Q := WO_sop rfl
@[simp, simp ↓] theorem WO_ext {x : Opd} {i : Nat} : WO O (⟨d, none, n, .ext x i⟩ :: r) e σ Q = WD (extD (opd e x) i) fun v => WO O r (put d v e) σ Q := by
  rw [WO_sop rfl]
  refine WV_of_D ?_
  simp only [sop]
  cases opd e x <;> rfl

@[simp, simp ↓] theorem WO_call {kp : Bool} {f : Opd} {args : List Opd} : WO O (⟨d, none, n, .call kp f args⟩ :: r) e σ Q =
    WV (callv O kp (opd e f) (args.map (opd e)) σ) fun v σ' => (n = true → σ' = σ) ∧ WO O r (put d v e) σ' Q := by
  simp only [WO, aops, aop, WV, eq_iff_iff]
  cases hc : callv O kp (opd e f) (args.map (opd e)) σ with
  | none => simp
  | some y =>
    obtain ⟨v, σ1⟩ := y
    by_cases hn : n = true → σ1 = σ
    · simp only [if_pos hn, Option.bind_some, Option.some.injEq, Prod.mk.injEq]
      exact ⟨fun h => ⟨v, σ1, ⟨rfl, rfl⟩, hn, h⟩, fun ⟨_, _, ⟨h1, h2⟩, _, h⟩ => by subst h1 h2; exact h⟩
    · simp only [if_neg hn, Option.bind_none, reduceCtorEq, false_and, exists_false, Option.some.injEq, Prod.mk.injEq, false_iff]
      rintro ⟨_, _, ⟨h1, h2⟩, h, _⟩
      subst h1 h2
      exact hn h

@[simp, simp ↓] theorem WO_alcv {nb : List (Nat × Nat)} {cs : List D} : WO O (⟨d, none, n, .alcv nb cs⟩ :: r) e σ Q = WD d fun v => WD (nilbs nb cs σ) fun y => WO O r ((v, .own (stamp e v) y.1) :: e) y.2 Q := by
  cases d with
  | none => simp [WO, aops, aop]
  | some v => cases h : nilbs nb cs σ with
    | none => simp [WO, aops, aop, h]
    | some y => obtain ⟨a, b⟩ := y; simp only [WO, aops, aop, h, Option.bind_some, WD_some]
@[simp, simp ↓] theorem WO_boxv {x : Opd} : WO O (⟨d, none, n, .boxv x⟩ :: r) e σ Q = WD d fun v => WD (opd e x).cells fun cs => WO O r ((v, .own (stamp e v) cs) :: e) σ Q := by
  cases d with
  | none => simp [WO, aops, aop]
  | some v => cases h : (opd e x).cells with
    | none => simp [WO, aops, aop, h]
    | some y => simp only [WO, aops, aop, h, Option.bind_some, WD_some]

def stvD (e : Env) (σ : Stack) (v : Nat) (nb : List (Nat × Nat)) (sz a : Nat) (x : Opd) : Option (D × Stack) :=
  match inVar e v a, (opd e x).cells with
  | some (s, cs, off), some p =>
    if p.length = sz ∧ off + sz ≤ cs.length then
      match nilbs nb p σ with
      | some (p', σ') => some (.own s (cs.take off ++ p' ++ cs.drop (off + sz)), σ')
      | none => none
    else none
  | _, _ => none

@[simp, simp ↓] theorem WO_stv {v : Nat} {nb : List (Nat × Nat)} {sz a : Nat} {x : Opd} : WO O (⟨d, none, n, .stv v nb sz a x⟩ :: r) e σ Q =
    WV (stvD e σ v nb sz a x) fun y σ' => WO O r ((v, y) :: e) σ' Q := by
  simp only [WO, aops, aop, stvD]
  cases h1 : inVar e v a with
  | none => simp
  | some p =>
    obtain ⟨s, cs, off⟩ := p
    cases h2 : (opd e x).cells with
    | none => simp
    | some p =>
      dsimp only
      split
      · cases h3 : nilbs nb p σ with
        | none => simp
        | some y => obtain ⟨a, b⟩ := y; simp [WO]
      · simp
end ops

section code
variable {e : Env} {σ : Stack} {Q : Exit → Env → Stack → Prop}
@[simp, simp ↓] theorem WC_nop : WC O .nop e σ Q = Q .normal e σ := by
  simp only [WC, acode, Option.some.injEq, Prod.mk.injEq, eq_iff_iff]
  exact ⟨fun ⟨_, _, _, ⟨h1, h2, h3⟩, h⟩ => by subst h1 h2 h3; exact h, fun h => ⟨_, _, _, ⟨rfl, rfl, rfl⟩, h⟩⟩
@[simp, simp ↓] theorem WC_frz {vs : List Nat} : WC O (.frz vs) e σ Q = Q .normal (frzs vs e σ).1 (frzs vs e σ).2 := by
  simp only [WC, acode, Option.some.injEq, Prod.mk.injEq, eq_iff_iff]
  exact ⟨fun ⟨_, _, _, ⟨h1, h2, h3⟩, h⟩ => by subst h1 h2 h3; exact h, fun h => ⟨_, _, _, ⟨rfl, rfl, rfl⟩, h⟩⟩
@[simp, simp ↓] theorem WC_exit {i : Nat} : WC O (.exit i) e σ Q = Q (.exit i) e σ := by
  simp only [WC, acode, Option.some.injEq, Prod.mk.injEq, eq_iff_iff]
  exact ⟨fun ⟨_, _, _, ⟨h1, h2, h3⟩, h⟩ => by subst h1 h2 h3; exact h, fun h => ⟨_, _, _, ⟨rfl, rfl, rfl⟩, h⟩⟩
@[simp, simp ↓] theorem WC_ret : WC O .ret e σ Q = Q .ret e σ := by
  simp only [WC, acode, Option.some.injEq, Prod.mk.injEq, eq_iff_iff]
  exact ⟨fun ⟨_, _, _, ⟨h1, h2, h3⟩, h⟩ => by subst h1 h2 h3; exact h, fun h => ⟨_, _, _, ⟨rfl, rfl, rfl⟩, h⟩⟩
@[simp, simp ↓] theorem WC_reg {live : List Nat} {ops : List Op} : WC O (.reg live ops) e σ Q = WO O ops e σ fun e' σ' => Q .normal (restrict live e') σ' := by
  simp only [WC, acode, WO, Option.map_eq_some_iff, Prod.mk.injEq, eq_iff_iff]
  constructor
  · rintro ⟨x, e', σ', ⟨⟨e1, σ1⟩, h1, rfl, rfl, rfl⟩, h⟩
    exact ⟨e1, σ1, h1, h⟩
  · rintro ⟨e', σ', h1, h⟩
    exact ⟨_, _, _, ⟨⟨e', σ'⟩, h1, rfl, rfl, rfl⟩, h⟩

def thenC (O : Oracle) (b : Cmd) (Q : Exit → Env → Stack → Prop) (_m : Mark b := .mk) (_m' : Mark Q := .mk) : Exit → Env → Stack → Prop
  | .normal, e, σ => WC O b e σ Q
  | .exit i, e, σ => Q (.exit i) e σ
  | .ret, e, σ => Q .ret e σ
  | .thr d, e, σ => Q (.thr d) e σ
@[simp, simp ↓] theorem thenC_thr {b : Cmd} {d : D} : thenC O b Q .mk .mk (.thr d) e σ = Q (.thr d) e σ := by_rfl rfl
@[simp, simp ↓] theorem thenC_normal {b : Cmd} : thenC O b Q .mk .mk .normal e σ = WC O b e σ Q := by_rfl rfl
@[simp, simp ↓] theorem thenC_exit {b : Cmd} {i : Nat} : thenC O b Q .mk .mk (.exit i) e σ = Q (.exit i) e σ := by_rfl rfl
@[simp, simp ↓] theorem thenC_ret {b : Cmd} : thenC O b Q .mk .mk .ret e σ = Q .ret e σ := by_rfl rfl

@[simp, simp ↓] theorem WC_seq {a b : Cmd} : WC O (.seq a b) e σ Q = WC O a e σ (thenC O b Q .mk .mk) := by
  simp only [WC, acode, Option.bind_eq_some_iff, eq_iff_iff]
  constructor
  · rintro ⟨x, e', σ', ⟨⟨x1, e1, σ1⟩, h1, h2⟩, h⟩
    refine ⟨x1, e1, σ1, h1, ?_⟩
    cases x1 with
    | normal => exact ⟨x, e', σ', h2, h⟩
    | exit i => cases h2; exact h
    | ret => cases h2; exact h
    | thr d => cases h2; exact h
  · rintro ⟨x1, e1, σ1, h1, h⟩
    cases x1 with
    | normal => obtain ⟨x, e', σ', h2, h3⟩ := h; exact ⟨x, e', σ', ⟨_, h1, h2⟩, h3⟩
    | exit i => exact ⟨_, _, _, ⟨_, h1, rfl⟩, h⟩
    | ret => exact ⟨_, _, _, ⟨_, h1, rfl⟩, h⟩
    | thr d => exact ⟨_, _, _, ⟨_, h1, rfl⟩, h⟩
@[simp, simp ↓] theorem WC_ite {c : Opd} {a b : Cmd} : WC O (.ite c a b) e σ Q = WD (boolD (opd e c)) fun t => if t = true then WC O a e σ Q else WC O b e σ Q := by
  simp only [WC, acode]
  cases opd e c <;> simp [boolD]
  rename_i t
  cases t <;> simp

def outC (id : Nat) (Q : Exit → Env → Stack → Prop) (_m : Mark Q := .mk) : Exit → Env → Stack → Prop
  | .normal, e, σ => Q .normal e σ
  | .exit i, e, σ => if i = id then Q .normal e σ else Q (.exit i) e σ
  | .ret, e, σ => Q .ret e σ
  | .thr d, e, σ => Q (.thr d) e σ
@[simp, simp ↓] theorem outC_thr {id : Nat} {d : D} : outC id Q .mk (.thr d) e σ = Q (.thr d) e σ := by_rfl rfl
@[simp, simp ↓] theorem outC_normal {id : Nat} : outC id Q .mk .normal e σ = Q .normal e σ := by_rfl rfl
@[simp, simp ↓] theorem outC_exit {id i : Nat} : outC id Q .mk (.exit i) e σ = if i = id then Q .normal e σ else Q (.exit i) e σ := by_rfl rfl
@[simp, simp ↓] theorem outC_ret {id : Nat} : outC id Q .mk .ret e σ = Q .ret e σ := by_rfl rfl

@[simp, simp ↓] theorem WC_blk {id : Nat} {a : Cmd} : WC O (.blk id a) e σ Q = WC O a e σ (outC id Q .mk) := by
  simp only [WC, acode, Option.map_eq_some_iff, eq_iff_iff]
  constructor
  · rintro ⟨x, e', σ', ⟨⟨x1, e1, σ1⟩, h1, h2⟩, h⟩
    refine ⟨x1, e1, σ1, h1, ?_⟩
    cases x1 with
    | normal => cases h2; exact h
    | exit i =>
      simp only [outC]
      dsimp only at h2
      split at h2 <;> cases h2
      · rw [if_pos (by assumption)]; exact h
      · rw [if_neg (by assumption)]; exact h
    | ret => cases h2; exact h
    | thr d => cases h2; exact h
  · rintro ⟨x1, e1, σ1, h1, h⟩
    cases x1 with
    | normal => exact ⟨_, _, _, ⟨_, h1, rfl⟩, h⟩
    | exit i =>
      simp only [outC] at h
      split at h
      · exact ⟨_, _, _, ⟨_, h1, by dsimp only; rw [if_pos (by assumption)]⟩, h⟩
      · exact ⟨_, _, _, ⟨_, h1, by dsimp only; rw [if_neg (by assumption)]⟩, h⟩
    | ret => exact ⟨_, _, _, ⟨_, h1, rfl⟩, h⟩
    | thr d => exact ⟨_, _, _, ⟨_, h1, rfl⟩, h⟩

theorem calm_calm (d : D) : d.calm.calm = d.calm := by cases d <;> rfl

theorem rget_restrict {live : List Nat} {e : Env} {t : Nat} : get (restrict live e) t = if t ∈ live then (get e t).calm else .undef := by
  induction live with
  | nil => simp [restrict, get]
  | cons a l ih =>
    simp only [restrict, List.map_cons, get, List.mem_cons]
    by_cases h : a = t
    · subst h; simp
    · have h' : ¬ t = a := fun x => h x.symm
      simp only [if_neg h, h', false_or]
      exact ih

theorem restrict_restrict {live : List Nat} {e : Env} : restrict live (restrict live e) = restrict live e := by
  simp only [restrict, List.map_inj_left, Prod.mk.injEq, true_and]
  intro t ht
  have := rget_restrict (live := live) (e := e) (t := t)
  simp only [restrict] at this
  rw [this, if_pos ht, calm_calm]

theorem stepQ_loop_restrict {live : List Nat} {seg : Bool} {c : Cmd} : stepQ T O (.loop live seg c (restrict live e) σ) = stepQ T O (.loop live seg c e σ) := by
  simp only [stepQ, restrict_restrict]

theorem lim_loop_restrict {live : List Nat} {seg : Bool} {c : Cmd} {r : R} (h : lim T (.loop live seg c (restrict live e) σ) = some r) : lim T (.loop live seg c e σ) = some r := by
  obtain ⟨n, h⟩ := lim_iff.1 h
  cases n with
  | zero => cases h
  | succ n =>
    rw [it, stepQ_loop_restrict] at h
    exact lim_iff.2 ⟨n + 1, h⟩

theorem lim_loop_restrict' {live : List Nat} {seg : Bool} {c : Cmd} {r : R} (h : lim T (.loop live seg c e σ) = some r) : lim T (.loop live seg c (restrict live e) σ) = some r := by
  obtain ⟨n, h⟩ := lim_iff.1 h
  cases n with
  | zero => cases h
  | succ n =>
    rw [it, ← stepQ_loop_restrict] at h
    exact lim_iff.2 ⟨n + 1, h⟩

theorem ctls_some' {r : Option R} {x : Exit} {e : Env} {σ : Stack} (h : R.ctls r = some (x, e, σ)) : r = some (.ctl x e σ) := by
  unfold R.ctls at h
  split at h
  · cases h; rfl
  · cases h

@[simp, simp ↓] theorem WC_loop {live : List Nat} {seg : Bool} {c : Cmd} : WC (lim T) (.loop live seg c) e σ Q = WL T live seg c (restrict live e) σ Q := by
  simp only [WC, acode, WL, eq_iff_iff]
  constructor
  · rintro ⟨x, e', σ', h1, h⟩
    cases hl : lim T (.loop live seg c e σ) with
    | none => rw [hl] at h1; cases h1
    | some r =>
      rw [hl] at h1
      cases r <;> cases h1
      exact ⟨_, _, _, lim_loop_restrict' hl, h⟩
  · rintro ⟨x, e', σ', h1, h⟩
    exact ⟨x, e', σ', by rw [lim_loop_restrict h1]; rfl, h⟩

def nextL (T : Tbl) (live : List Nat) (c : Cmd) (Q : Exit → Env → Stack → Prop) (_m : Mark c := .mk) (_m' : Mark Q := .mk) : Exit → Env → Stack → Prop
  | .normal, e, σ => WL T live false c (restrict live e) σ Q
  | .exit i, e, σ => Q (.exit i) e σ
  | .ret, e, σ => Q .ret e σ
  | .thr d, e, σ => Q (.thr d) e σ
@[simp, simp ↓] theorem nextL_thr {live : List Nat} {c : Cmd} {d : D} : nextL T live c Q .mk .mk (.thr d) e σ = Q (.thr d) e σ := by_rfl rfl
@[simp, simp ↓] theorem nextL_normal {live : List Nat} {c : Cmd} : nextL T live c Q .mk .mk .normal e σ = WL T live false c (restrict live e) σ Q := by_rfl rfl
@[simp, simp ↓] theorem nextL_exit {live : List Nat} {c : Cmd} {i : Nat} : nextL T live c Q .mk .mk (.exit i) e σ = Q (.exit i) e σ := by_rfl rfl
@[simp, simp ↓] theorem nextL_ret {live : List Nat} {c : Cmd} : nextL T live c Q .mk .mk .ret e σ = Q .ret e σ := by_rfl rfl

theorem WL_step {live : List Nat} {c c' : Cmd} (hc : c = c') (h : WC (lim T) c' (restrict live e) σ (nextL T live c Q .mk .mk)) : WL T live false c e σ Q := by
  rw [← hc] at h
  obtain ⟨x, e1, σ1, h1, h2⟩ := h
  cases x with
  | normal =>
    obtain ⟨x, e', σ', h3, h4⟩ := h2
    exact ⟨x, e', σ', lim_step (by simp [stepQ, h1, lim_loop_restrict h3]), h4⟩
  | exit i => exact ⟨_, _, _, lim_step (by simp [stepQ, h1]), h2⟩
  | ret => exact ⟨_, _, _, lim_step (by simp [stepQ, h1]), h2⟩
  | thr d => exact ⟨_, _, _, lim_step (by simp [stepQ, h1]), h2⟩

def endC (σ : Stack) (res : List Res) (d : D) (x : Exit) (e : Env) (σ1 : Stack) : Prop :=
  (∀ i, x ≠ .exit i) ∧ (∀ d, x ≠ .thr d) ∧ ∃ ds, resL e σ1 res = some ds ∧ ∃ s, frz (σ.length - 1) deep (mkRes ds) σ1 = (d, s :: σ)
@[simp, simp ↓] theorem endC_normal {σ1 : Stack} {res : List Res} {d : D} : endC σ res d .normal e σ1 = ∃ ds, resL e σ1 res = some ds ∧ ∃ s, frz (σ.length - 1) deep (mkRes ds) σ1 = (d, s :: σ) := by simp [endC]
@[simp, simp ↓] theorem endC_ret {σ1 : Stack} {res : List Res} {d : D} : endC σ res d .ret e σ1 = ∃ ds, resL e σ1 res = some ds ∧ ∃ s, frz (σ.length - 1) deep (mkRes ds) σ1 = (d, s :: σ) := by simp [endC]

theorem call_of {f : Nat} {fn : Fn} {args : List D} {σ : Stack} {d : D} {np : Nat} {res : List Res} {body : Cmd} (hT : T f = some fn) (hf : fn = ⟨np, res, body⟩) (hl : args.length = np)
    (h : WC (lim T) body (mkEnv 0 args) ([] :: σ) (endC σ res d)) :
    lim T (.call false f args σ) = some (.val d σ) := by
  subst hf
  obtain ⟨x, e1, σ1, h1, h2, h2', ds, h3, s, h4⟩ := h
  refine lim_step ?_
  simp only [stepQ, hT, if_pos hl, Bool.false_eq_true, if_false, h1]
  cases x with
  | exit i => exact absurd rfl (h2 i)
  | thr d => exact absurd rfl (h2' d)
  | normal => simp [h3, h4]
  | ret => simp [h3, h4]

def endT (σ : Stack) (d : D) (x : Exit) (e : Env) (σ1 : Stack) : Prop := x = .thr d ∧ d.clean = true ∧ ∃ s, σ1 = s :: σ
@[simp, simp ↓] theorem endT_thr {σ1 : Stack} {d d' : D} : endT σ d (.thr d') e σ1 = (d' = d ∧ d.clean = true ∧ ∃ s, σ1 = s :: σ) := by simp [endT]
theorem throws_of {f : Nat} {fn : Fn} {args : List D} {σ : Stack} {d : D} {np : Nat} {res : List Res} {body : Cmd} (hT : T f = some fn) (hf : fn = ⟨np, res, body⟩) (hl : args.length = np)
    (h : WC (lim T) body (mkEnv 0 args) ([] :: σ) (endT σ d)) :
    lim T (.call false f args σ) = some (.thr d σ) := by
  subst hf
  obtain ⟨x, e1, σ1, h1, rfl, hc, s, rfl⟩ := h
  refine lim_step ?_
  simp only [stepQ, hT, if_pos hl, Bool.false_eq_true, if_false, h1]
  simp [thrown, hc]

def WR (r : Option R) (Qn Qt : D → Stack → Prop) (_m : Mark Qn := .mk) (_m' : Mark Qt := .mk) : Prop := (∃ d σ', r = some (.val d σ') ∧ Qn d σ') ∨ ∃ d σ', r = some (.thr d σ') ∧ Qt d σ'
@[simp, simp ↓] theorem WR_val {d : D} {σ' : Stack} {Qn Qt : D → Stack → Prop} : WR (some (.val d σ')) Qn Qt = Qn d σ' := by
  simp only [WR, Option.some.injEq, R.val.injEq, reduceCtorEq, false_and, exists_false, or_false, eq_iff_iff]
  exact ⟨fun ⟨_, _, ⟨h1, h2⟩, h⟩ => by subst h1 h2; exact h, fun h => ⟨_, _, ⟨rfl, rfl⟩, h⟩⟩
@[simp, simp ↓] theorem WR_thr {d : D} {σ' : Stack} {Qn Qt : D → Stack → Prop} : WR (some (.thr d σ')) Qn Qt = Qt d σ' := by
  simp only [WR, Option.some.injEq, R.thr.injEq, reduceCtorEq, false_and, exists_false, false_or, eq_iff_iff]
  exact ⟨fun ⟨_, _, ⟨h1, h2⟩, h⟩ => by subst h1 h2; exact h, fun h => ⟨_, _, ⟨rfl, rfl⟩, h⟩⟩
def panD : D → Option D
  | .ifc t d => if d.clean then some (.ifc t d) else none
  | _ => none
@[simp] theorem panD_ifc {t : Nat} {d : D} : panD (.ifc t d) = if d.clean then some (.ifc t d) else none := by_rfl rfl
@[simp] theorem callr_fn {O : Oracle} {f : Nat} {first cap args : List D} {σ : Stack} : callr O (.fn f first cap) args σ = O (.call false f (first ++ args ++ cap) σ) := by_rfl rfl

@[simp, simp ↓] theorem WC_treg_call {live : List Nat} {pre post : List Op} {dst : Option Nat} {n : Bool} {f : Opd} {args : List Opd} : WC O (.treg live pre ⟨dst, none, n, .call false f args⟩ post) e σ Q =
    WO O pre e σ fun e1 σ1 => WR (callr O (opd e1 f) (args.map (opd e1)) σ1) (fun d σ2 => WO O post (put dst d e1) σ2 fun e' σ' => Q .normal (restrict live e') σ') (fun d σ2 => Q (.thr d) e1 σ2) := by
  simp only [WC, WO, acode, aopt, Option.bind_eq_some_iff, eq_iff_iff]
  constructor
  · rintro ⟨x, e', σ', ⟨⟨e1, σ1⟩, h1, h2⟩, h⟩
    refine ⟨e1, σ1, h1, ?_⟩
    dsimp only at h2
    cases hc : callr O (opd e1 f) (args.map (opd e1)) σ1 with
    | none => rw [hc] at h2; simp [aoptR] at h2
    | some r =>
      rw [hc] at h2
      cases r with
      | ctl => simp [aoptR] at h2
      | thr d σ2 => simp only [aoptR, Option.some.injEq, Prod.mk.injEq] at h2; obtain ⟨rfl, rfl, rfl⟩ := h2; rw [WR_thr]; exact h
      | val d σ2 =>
        simp only [aoptR, Option.map_eq_some_iff] at h2
        obtain ⟨⟨e3, σ3⟩, h3, h4⟩ := h2
        cases h4
        rw [WR_val]
        exact ⟨e3, σ3, h3, h⟩
  · rintro ⟨e1, σ1, h1, h⟩
    rcases h with ⟨d, σ2, h2, e3, σ3, h3, h4⟩ | ⟨d, σ2, h2, h4⟩
    · exact ⟨.normal, _, σ3, ⟨(e1, σ1), h1, by simp only [h2, aoptR, h3, Option.map_some]⟩, h4⟩
    · exact ⟨.thr d, e1, σ2, ⟨(e1, σ1), h1, by simp only [h2, aoptR]⟩, h4⟩
@[simp, simp ↓] theorem WC_treg_pan {live : List Nat} {pre post : List Op} {dst : Option Nat} {n : Bool} {x : Opd} : WC O (.treg live pre ⟨dst, none, n, .pan x⟩ post) e σ Q =
    WO O pre e σ fun e1 σ1 => WD (panD (opd e1 x)) fun d => Q (.thr d) e1 σ1 := by
  simp only [WC, WO, acode, aopt, Option.bind_eq_some_iff, eq_iff_iff]
  constructor
  · rintro ⟨x', e', σ', ⟨⟨e1, σ1⟩, h1, h2⟩, h⟩
    refine ⟨e1, σ1, h1, ?_⟩
    dsimp only at h2
    cases hx : opd e1 x <;> rw [hx] at h2 <;> try (cases h2; done)
    dsimp only at h2
    split at h2
    · rename_i hc; cases h2; simp only [panD_ifc, hc, if_true, WD_some]; exact h
    · cases h2
  · rintro ⟨e1, σ1, h1, d, h2, h⟩
    refine ⟨.thr d, e1, σ1, ⟨(e1, σ1), h1, ?_⟩, h⟩
    dsimp only
    cases hx : opd e1 x <;> rw [hx] at h2 <;> try (cases h2; done)
    simp only [panD_ifc] at h2
    split at h2
    · rename_i hc; cases h2; simp [hc]
    · cases h2

def WM (T : Tbl) (live : List Nat) (it : Opd) (nx ok b : Nat) (c rest : Cmd) (e : Env) (σ : Stack) (Q : Exit → Env → Stack → Prop) (_m : Mark c := .mk) (_m' : Mark rest := .mk) (_m'' : Mark Q := .mk) : Prop := ∃ x e' σ', lim T (.mloop live it nx ok b c rest e σ) = some (.ctl x e' σ') ∧ Q x e' σ'
theorem WM.mono {live : List Nat} {it : Opd} {nx ok b : Nat} {c rest : Cmd} {Q' : Exit → Env → Stack → Prop} (h : WM T live it nx ok b c rest e σ Q) (hq : ∀ x e σ, Q x e σ → Q' x e σ) : WM T live it nx ok b c rest e σ Q' :=
  let ⟨x, e', σ', h1, h2⟩ := h; ⟨x, e', σ', h1, hq _ _ _ h2⟩
theorem stepQ_mloop_restrict {live : List Nat} {it : Opd} {nx ok b : Nat} {c rest : Cmd} : stepQ T O (.mloop live it nx ok b c rest (restrict live e) σ) = stepQ T O (.mloop live it nx ok b c rest e σ) := by
  simp only [stepQ, restrict_restrict]
theorem lim_mloop_restrict {live : List Nat} {it : Opd} {nx ok b : Nat} {c rest : Cmd} {r : R} : lim T (.mloop live it nx ok b c rest (restrict live e) σ) = some r ↔ lim T (.mloop live it nx ok b c rest e σ) = some r := by
  constructor <;> intro h <;> obtain ⟨n, h⟩ := lim_iff.1 h <;> cases n <;> first | (cases h; done) | skip
  · rw [Abs.it, stepQ_mloop_restrict] at h; exact lim_iff.2 ⟨_ + 1, h⟩
  · rw [Abs.it, ← stepQ_mloop_restrict] at h; exact lim_iff.2 ⟨_ + 1, h⟩
@[simp, simp ↓] theorem WC_mloop {live : List Nat} {it : Opd} {nx ok b : Nat} {c rest : Cmd} : WC (lim T) (.mloop live it nx ok b c rest) e σ Q = WM T live it nx ok b c rest (restrict live e) σ Q := by
  simp only [WC, acode, WM, eq_iff_iff]
  constructor
  · rintro ⟨x, e', σ', h1, h⟩
    exact ⟨_, _, _, lim_mloop_restrict.2 (ctls_some' h1), h⟩
  · rintro ⟨x, e', σ', h1, h⟩
    exact ⟨x, e', σ', by rw [lim_mloop_restrict.1 h1]; rfl, h⟩

def nextM (T : Tbl) (live : List Nat) (it : Opd) (l i nx ok b : Nat) (c rest : Cmd) (r : R) (_m : Mark c := .mk) (_m' : Mark rest := .mk) : Exit → Env → Stack → Prop
  | .normal, e, σ => lim T (.mloop live it nx ok b c rest (restrict live e) σ) = some r
  | .exit j, e, σ => if j = b then WC (lim T) rest e (setBlk σ l i .dead) fun x e' σ' => r = .ctl x e' σ' else r = .ctl (.exit j) e (setBlk σ l i .dead)
  | .ret, e, σ => r = .ctl .ret e (setBlk σ l i .dead)
  | .thr _, _, _ => False
@[simp, simp ↓] theorem nextM_normal {live : List Nat} {it : Opd} {l i nx ok b : Nat} {c rest : Cmd} {r : R} : nextM T live it l i nx ok b c rest r .mk .mk .normal e σ = (lim T (.mloop live it nx ok b c rest (restrict live e) σ) = some r) := by_rfl rfl
@[simp, simp ↓] theorem nextM_exit {live : List Nat} {it : Opd} {l i nx ok b j : Nat} {c rest : Cmd} {r : R} : nextM T live it l i nx ok b c rest r .mk .mk (.exit j) e σ = if j = b then WC (lim T) rest e (setBlk σ l i .dead) fun x e' σ' => r = .ctl x e' σ' else r = .ctl (.exit j) e (setBlk σ l i .dead) := by_rfl rfl
@[simp, simp ↓] theorem nextM_ret {live : List Nat} {it : Opd} {l i nx ok b : Nat} {c rest : Cmd} {r : R} : nextM T live it l i nx ok b c rest r .mk .mk .ret e σ = (r = .ctl .ret e (setBlk σ l i .dead)) := by_rfl rfl

theorem mend_of {l i b : Nat} {rest : Cmd} {r : R} {x : Exit} {e1 : Env} {σ1 : Stack} {live : List Nat} {it : Opd} {nx ok : Nat} {c : Cmd} (hx : x ≠ .normal) (h : nextM T live it l i nx ok b c rest r .mk .mk x e1 σ1) : mend (lim T) l i b rest (some (x, e1, σ1)) = some r := by
  cases x with
  | normal => exact absurd rfl hx
  | thr d => exact h.elim
  | ret => simp only [nextM_ret] at h; subst h; rfl
  | exit j =>
    simp only [nextM_exit] at h
    simp only [mend]
    split at h
    · rename_i hj
      obtain ⟨x', e', σ', h1, rfl⟩ := h
      rw [if_pos hj, h1]; rfl
    · rename_i hj
      subst h
      rw [if_neg hj]

theorem mloop_of {live : List Nat} {it : Opd} {l i nx ok b : Nat} {c c' rest rest' : Cmd} {r : R} {m : D} {n : Nat} {js : List D} {us : List Nat} (hcc : c = c') (hrr : rest = rest') (hit : opd (restrict live e) it = .yld l i) (hd : iterD σ l i = some (m, n, js, us)) (hne : us ≠ [])
    (h : ∀ u ∈ us, WC (lim T) c' ((ok, .bool true) :: (nx, .undef) :: restrict live e) (setBlk σ l i (.cells 1 (m :: .int .i64 (n : Nat) :: .int .i64 (u : Nat) :: js))) (nextM T live it l i nx ok b c rest' r .mk .mk)) :
    lim T (.mloop live it nx ok b c rest e σ) = some r := by
  subst hcc hrr
  refine lim_step ?_
  simp only [stepQ, hit, hd]
  have key : ∀ u ∈ us, mnext (lim T) live it l i nx ok b c rest (acode (lim T) c ((ok, .bool true) :: (nx, .undef) :: restrict live e) (setBlk σ l i (.cells 1 (m :: .int .i64 (n : Nat) :: .int .i64 (u : Nat) :: js)))) = some r := by
    intro u hu
    obtain ⟨x, e1, σ1, h1, h2⟩ := h u hu
    rw [h1]
    cases x with
    | normal => exact lim_mloop_restrict.1 h2
    | exit j => exact mend_of (x := .exit j) (by simp) h2
    | ret => exact mend_of (x := .ret) (by simp) h2
    | thr d => exact h2.elim
  cases us with
  | nil => exact absurd rfl hne
  | cons u us => exact all_agree (by simp) key

theorem mloop_end {live : List Nat} {it : Opd} {l i nx ok b : Nat} {c c' rest rest' : Cmd} {r : R} {m : D} {n : Nat} {js : List D} (hcc : c = c') (hrr : rest = rest') (hit : opd (restrict live e) it = .yld l i) (hd : iterD σ l i = some (m, n, js, []))
    (h : WC (lim T) c' ((ok, .bool false) :: (nx, .undef) :: restrict live e) σ fun x e1 σ1 => x ≠ .normal ∧ nextM T live it l i nx ok b c rest' r .mk .mk x e1 σ1) :
    lim T (.mloop live it nx ok b c rest e σ) = some r := by
  subst hcc hrr
  refine lim_step ?_
  simp only [stepQ, hit, hd]
  obtain ⟨x, e1, σ1, h1, hx, h2⟩ := h
  rw [h1]
  exact mend_of hx h2

def thOf : Exit → Option (Option D)
  | .normal => some none
  | .ret => some none
  | .thr d => some (some d)
  | .exit _ => none
@[simp] theorem thOf_normal : thOf .normal = some none := by_rfl rfl
@[simp] theorem thOf_ret : thOf .ret = some none := by_rfl rfl
@[simp] theorem thOf_thr {d : D} : thOf (.thr d) = some (some d) := by_rfl rfl

noncomputable def dcallV (T : Tbl) (fv : D) (args : List D) (th : Option D) (σ : Stack) : Option Stack :=
  match dcallR (lim T) fv args th σ with
  | some (.val _ σ') => some σ'
  | _ => none
theorem dcallV_fn {f : Nat} {first cap args : List D} {th : Option D} {σ σ' : Stack} {d : D} (h : lim T (.dcall f (first ++ args ++ cap) th σ) = some (.val d σ')) : dcallV T (.fn f first cap) args th σ = some σ' := by
  simp only [dcallV, dcallR, h]

def endD (T : Tbl) (fv : D) (args : List D) (σ : Stack) (res : List Res) (d : D) (x : Exit) (e : Env) (σ1 : Stack) : Prop :=
  WD (thOf x) fun th => WD (dcallV T fv args th σ1) fun σ2 => ∃ ds, resL e σ2 res = some ds ∧ ∃ s, frz (σ.length - 1) deep (mkRes ds) σ2 = (d, s :: σ)
def toD (T : Tbl) (f : Opd) (args : List Opd) (q : Cmd) (σ : Stack) (res : List Res) (d : D) (x : Exit) (e : Env) (σ1 : Stack) (_m : Mark q := .mk) : Prop :=
  x = .normal ∧ WC (lim T) q e σ1 (endD T (opd e f) (args.map (opd e)) σ res d)

theorem call_dfr {f : Nat} {fn : Fn} {args : List D} {σ : Stack} {d : D} {np : Nat} {res : List Res} {body A q : Cmd} {fo : Opd} {as : List Opd} (hT : T f = some fn) (hf : fn = ⟨np, res, body⟩) (hl : args.length = np) (hs : splitT body = some (A, fo, as, q))
    (h : WC (lim T) A (mkEnv 0 args) ([] :: σ) (toD T fo as q σ res d)) :
    lim T (.call false f args σ) = some (.val d σ) := by
  subst hf
  obtain ⟨x, e1, σ1, h1, rfl, x2, e2, σ2, h2, th, h3, σ3, h4, ds, h5, s, h6⟩ := h
  refine lim_step ?_
  have hn : acode (lim T) body (mkEnv 0 args) ([] :: σ) = none := split_none0 hs h1
  simp only [stepQ, hT, if_pos hl, Bool.false_eq_true, if_false, hn, hs, dbody, h1, h2]
  have h4' : ∃ dv, dcallR (lim T) (opd e1 fo) (as.map (opd e1)) th σ2 = some (.val dv σ3) := by
    unfold dcallV at h4
    split at h4
    · rename_i h7; cases h4; exact ⟨_, h7⟩
    · cases h4
  obtain ⟨dv, h4'⟩ := h4'
  cases x2 with
  | exit i => cases h3
  | normal => cases h3; simp only [dtail, h4', dleave, leave, h5, h6]
  | ret => cases h3; simp only [dtail, h4', dleave, leave, h5, h6]
  | thr d => cases h3; simp only [dtail, h4', dleave, leave, h5, h6]

def endX (σ' : Stack) (res : List Res) (x : Exit) (e : Env) (σ1 : Stack) : Prop :=
  (∀ i, x ≠ .exit i) ∧ (∀ d, x ≠ .thr d) ∧ resL e σ1 res = some [] ∧ ∃ s, σ1 = s :: σ'
@[simp, simp ↓] theorem endX_normal {σ' σ1 : Stack} {res : List Res} : endX σ' res .normal e σ1 = (resL e σ1 res = some [] ∧ ∃ s, σ1 = s :: σ') := by simp [endX]
@[simp, simp ↓] theorem endX_ret {σ' σ1 : Stack} {res : List Res} : endX σ' res .ret e σ1 = (resL e σ1 res = some [] ∧ ∃ s, σ1 = s :: σ') := by simp [endX]
theorem dcall_of {f : Nat} {fn : Fn} {args : List D} {th : Option D} {σ σ' : Stack} {np : Nat} {res : List Res} {body q : Cmd} {e0 : Env} (hT : T f = some fn) (hf : fn = ⟨np, res, body⟩) (hl : args.length = np) (hr : afterRcv th args body = some (e0, q))
    (h : WC (lim T) q e0 ([] :: σ) (endX σ' res)) : lim T (.dcall f args th σ) = some (.val (.tup []) σ') := by
  subst hf
  obtain ⟨x, e1, σ1, h1, h2, h2', h3, s, rfl⟩ := h
  refine lim_step ?_
  simp only [stepQ, hT, if_pos hl, hr, h1]
  cases x with
  | exit i => exact absurd rfl (h2 i)
  | thr d => exact absurd rfl (h2' d)
  | normal => simp [h3]
  | ret => simp [h3]
end code

@[simp] theorem get_cons {k t : Nat} {v : D} {r : Env} : get ((k, v) :: r) t = if k = t then v else get r t := by_rfl rfl
@[simp] theorem put_some {t : Nat} {v : D} {e : Env} : put (some t) v e = (t, v) :: e := by_rfl rfl
@[simp] theorem put_none {v : D} {e : Env} : put none v e = e := by_rfl rfl
@[simp] theorem opd_t {e : Env} {n : Nat} : opd e (.t n) = (get e n).strip := by_rfl rfl
@[simp] theorem opd_c {e : Env} {d : D} : opd e (.c d) = d := by_rfl rfl
@[simp] theorem restrict_nil {e : Env} : restrict [] e = [] := by_rfl rfl
@[simp] theorem restrict_cons {t : Nat} {l : List Nat} {e : Env} : restrict (t :: l) e = (t, (get e t).calm) :: restrict l e := by_rfl rfl
@[simp] theorem mkEnv_nil {n : Nat} : mkEnv n [] = [] := by_rfl rfl
@[simp] theorem mkEnv_cons {n : Nat} {d : D} {ds : List D} : mkEnv n (d :: ds) = (n, d) :: mkEnv (n + 1) ds := by_rfl rfl
section
variable {e : Env} {σ : Stack}
@[simp] theorem resL_nil : resL e σ [] = some [] := by_rfl rfl
@[simp] theorem resL_cons {r : Res} {rs : List Res} : resL e σ (r :: rs) = (resD e σ r).bind fun d => (resL e σ rs).map fun ds => d :: ds := by_rfl rfl
@[simp] theorem resD_t {n : Nat} : resD e σ (.t n) = some (get e n).strip := by_rfl rfl
@[simp] theorem resD_c {n sz : Nat} {ag : Bool} : resD e σ (.c n ag sz) = ldD ag sz (rdD σ (get e n).strip) := by
  simp only [resD, sop, opd_t]
  cases rdD σ (get e n).strip with
  | none => rfl
  | some cs =>
    simp only [ldD]
    split
    · cases ag
      · cases cs <;> rfl
      · rfl
    · rfl
@[simp] theorem resD_v {n sz : Nat} {ag : Bool} : resD e σ (.v n ag sz) = ldvD e n ag sz n := by
  simp only [resD, sop, ldvD]
  cases inVar e n n with
  | none => rfl
  | some x =>
    obtain ⟨s, cs, off⟩ := x
    simp only [ldD, Option.map_some]
    split
    · cases ag
      · cases cs.drop off <;> rfl
      · rfl
    · rfl
@[simp] theorem mkRes_one {d : D} : mkRes [d] = d := by_rfl rfl
@[simp] theorem mkRes_nil : mkRes [] = .tup [] := by_rfl rfl
@[simp] theorem mkRes_two {d d' : D} {ds : List D} : mkRes (d :: d' :: ds) = .tup (d :: d' :: ds) := by_rfl rfl
@[simp] theorem fillD_nil {cs : List D} : fillD e [] cs = some cs := by_rfl rfl
@[simp] theorem fillD_cons {off sz : Nat} {x : Opd} {r : List (Nat × Nat × Opd)} {cs : List D} : fillD e ((off, sz, x) :: r) cs =
    ((opd e x).cells.bind fun p => if p.length = sz ∧ off + sz ≤ cs.length then some (cs.take off ++ p ++ cs.drop (off + sz)) else none).bind (fillD e r) := by
  simp only [fillD]
  cases (opd e x).cells with
  | none => rfl
  | some p => dsimp only [Option.bind_some]; split <;> rfl
@[simp] theorem nilbs_nil' {cs : List D} : nilbs [] cs σ = some (cs, σ) := by_rfl rfl
@[simp] theorem elems_nils {w : Nat} : elems σ w .nils = some (0, []) := by_rfl rfl
@[simp] theorem elems_lst {w n : Nat} {cs : List D} : elems σ w (.lst n cs) = if cs.length = n * w then some (n, cs) else none := by_rfl rfl
@[simp] theorem elems_sl {w l i v off n w' : Nat} : elems σ w (.sl l i v off n w') = if w' = w then (match cells? σ l i v with | some cs => if off + n * w ≤ cs.length then some (n, (cs.drop off).take (n * w)) else none | none => none) else none := by_rfl rfl
end
attribute [simp] sop appD nilbs newBlk inVar stamp stvD ldvD bnd bounds D.row cells? blk? seg? setBlk setSeg

@[simp] theorem rclean_undef : D.clean .undef = true := by rw [D.clean]
@[simp] theorem rclean_bool {b : Bool} : D.clean (.bool b) = true := by rw [D.clean]
@[simp] theorem rclean_int {k : IntKind} {n : Int} : D.clean (.int k n) = true := by rw [D.clean]
@[simp] theorem rclean_str {s : List UInt8} : D.clean (.str s) = true := by rw [D.clean]
@[simp] theorem rclean_nilp : D.clean .nilp = true := by rw [D.clean]
@[simp] theorem rclean_nils : D.clean .nils = true := by rw [D.clean]
@[simp] theorem rclean_ifc {t : Nat} {d : D} : D.clean (.ifc t d) = D.clean d := by rw [D.clean]
@[simp] theorem rclean_nili : D.clean .nili = true := by rw [D.clean]
@[simp] theorem rclean_nilf : D.clean .nilf = true := by rw [D.clean]
@[simp] theorem rclean_ref {l i v o : Nat} : D.clean (.ref l i v o) = false := by rw [D.clean]
@[simp] theorem rclean_sl {l i v o n w : Nat} : D.clean (.sl l i v o n w) = false := by rw [D.clean]
@[simp] theorem rclean_yld {l i : Nat} : D.clean (.yld l i) = false := by rw [D.clean]
@[simp] theorem rclean_vr {l i v : Nat} : D.clean (.vr l i v) = true := by rw [D.clean]
@[simp] theorem rclean_own {s : Nat} {cs : List D} : D.clean (.own s cs) = D.cleanL cs := by rw [D.clean]
@[simp] theorem rclean_agg {cs : List D} : D.clean (.agg cs) = D.cleanL cs := by rw [D.clean]
@[simp] theorem rclean_tup {cs : List D} : D.clean (.tup cs) = D.cleanL cs := by rw [D.clean]
@[simp] theorem rclean_cref {cs : List D} : D.clean (.cref cs) = D.cleanL cs := by rw [D.clean]
@[simp] theorem rclean_lst {n : Nat} {cs : List D} : D.clean (.lst n cs) = D.cleanL cs := by rw [D.clean]
@[simp] theorem rclean_fn {f : Nat} {a b : List D} : D.clean (.fn f a b) = (D.cleanL a && D.cleanL b) := by rw [D.clean]
@[simp] theorem cleanL_nil : D.cleanL [] = true := by rw [D.cleanL]
@[simp] theorem cleanL_cons {d : D} {ds : List D} : D.cleanL (d :: ds) = (D.clean d && D.cleanL ds) := by rw [D.cleanL]
@[simp] theorem deep_def : deep = 16 := by_rfl rfl
@[simp] theorem frz_clean {l n : Nat} {d : D} {σ : Stack} (h : d.clean = true) (hn : 0 < n) : frz l n d σ = (d, σ) := by
  obtain ⟨m, rfl⟩ : ∃ m, n = m + 1 := ⟨n - 1, by omega⟩
  unfold frz; simp [h]
@[simp] theorem frzL_clean {l n : Nat} {ds : List D} {σ : Stack} (h : D.cleanL ds = true) (hn : 0 < n) : frz.frzL (frz l n) ds σ = (ds, σ) := by
  induction ds generalizing σ with
  | nil => rfl
  | cons d ds ih =>
    simp only [D.cleanL, Bool.and_eq_true] at h
    simp [frz.frzL, h.1, ih h.2, hn]
@[simp] theorem frzL_nil {f : D → Stack → D × Stack} {σ : Stack} : frz.frzL f [] σ = ([], σ) := by_rfl rfl
@[simp] theorem frzL_cons {f : D → Stack → D × Stack} {d : D} {ds : List D} {σ : Stack} : frz.frzL f (d :: ds) σ = ((f d σ).1 :: (frz.frzL f ds (f d σ).2).1, (frz.frzL f ds (f d σ).2).2) := by_rfl rfl
theorem frz_tup {l n : Nat} {ds : List D} {σ : Stack} (h : D.cleanL ds = false) (hn : 0 < n) : frz l n (.tup ds) σ = (.tup (frz.frzL (frz l (n - 1)) ds σ).1, (frz.frzL (frz l (n - 1)) ds σ).2) := by
  obtain ⟨m, rfl⟩ : ∃ m, n = m + 1 := ⟨n - 1, by omega⟩
  conv => lhs; unfold frz
  simp [D.clean, h]
theorem frz_agg {l n : Nat} {ds : List D} {σ : Stack} (h : D.cleanL ds = false) (hn : 0 < n) : frz l n (.agg ds) σ = (.agg (frz.frzL (frz l (n - 1)) ds σ).1, (frz.frzL (frz l (n - 1)) ds σ).2) := by
  obtain ⟨m, rfl⟩ : ∃ m, n = m + 1 := ⟨n - 1, by omega⟩
  conv => lhs; unfold frz
  simp [D.clean, h]
theorem frz_sl {l n l' i v off m w : Nat} {σ : Stack} {cs : List D} (h : ¬ l' ≤ l) (hc : cells? σ l' i v = some cs) (hn : 0 < n) :
    frz l n (.sl l' i v off m w) σ = (.lst m (frz.frzL (frz l (n - 1)) ((cs.drop off).take (m * w)) (setBlk σ l' i .dead)).1, (frz.frzL (frz l (n - 1)) ((cs.drop off).take (m * w)) (setBlk σ l' i .dead)).2) := by
  obtain ⟨m, rfl⟩ : ∃ m, n = m + 1 := ⟨n - 1, by omega⟩
  conv => lhs; unfold frz
  simp only [D.clean, h, hc, Bool.false_eq_true, if_false, Nat.add_sub_cancel]

@[simp] theorem frz_sl_low {l n l' i v off m w : Nat} {σ : Stack} (h : l' ≤ l) (hn : 0 < n) : frz l n (.sl l' i v off m w) σ = (.sl l' i v off m w, σ) := by
  obtain ⟨m, rfl⟩ : ∃ m, n = m + 1 := ⟨n - 1, by omega⟩
  conv => lhs; unfold frz
  simp only [D.clean, h, if_true, Bool.false_eq_true, if_false]
@[simp] theorem frz_ref_low {l n l' i v off : Nat} {σ : Stack} (h : l' ≤ l) (hn : 0 < n) : frz l n (.ref l' i v off) σ = (.ref l' i v off, σ) := by
  obtain ⟨m, rfl⟩ : ∃ m, n = m + 1 := ⟨n - 1, by omega⟩
  conv => lhs; unfold frz
  simp only [D.clean, h, if_true, Bool.false_eq_true, if_false]

@[simp] theorem lenne1 {n : Nat} : (n + 1 = n) = False := by simp
@[simp] theorem lenne2 {n : Nat} : (n + 1 + 1 = n) = False := by simp; omega
@[simp] theorem lenne3 {n : Nat} : (n + 1 + 1 + 1 = n) = False := by simp; omega
@[simp] theorem lenne4 {n : Nat} : (n + 1 + 1 + 1 + 1 = n) = False := by simp; omega
@[simp] theorem lenne5 {n : Nat} : (n + 1 + 1 + 1 + 1 + 1 = n) = False := by simp; omega

theorem cleanL_append {a b : List D} : D.cleanL (a ++ b) = (D.cleanL a && D.cleanL b) := by
  induction a with
  | nil => rfl
  | cons d a ih => simp [D.cleanL, ih, Bool.and_assoc]

theorem cleanL_flat {α : Type} {f : α → List D} {l : List α} (h : ∀ x ∈ l, D.cleanL (f x) = true) : D.cleanL (l.flatMap f) = true := by
  induction l with
  | nil => rfl
  | cons a l ih => simp only [List.flatMap_cons, cleanL_append, Bool.and_eq_true]; exact ⟨h a (by simp), ih fun x hx => h x (by simp [hx])⟩

end Go.Abs

/-
  Short names for operations, in tables.
-/
namespace Go.Abs
def qo (d : Nat) (k : K) : Op := ⟨some d, none, false, k⟩
def qO (d : Nat) (k : K) : Op := ⟨some d, none, true, k⟩
def qm (d x : Nat) : Op := ⟨some d, none, false, .mv (.t x)⟩
def qM (d x : Nat) : Op := ⟨some d, none, true, .mv (.t x)⟩
def qi (d : Nat) (n : Int) : Op := ⟨some d, none, false, .mv (.c (.int .i64 n))⟩
def qb (d : Nat) (b : Bool) : Op := ⟨some d, none, false, .mv (.c (.bool b))⟩
def qf (d o x : Nat) : Op := ⟨some d, none, false, .fadr o (.t x)⟩
def qF (d o x : Nat) : Op := ⟨some d, none, true, .fadr o (.t x)⟩
def ql (d n x : Nat) : Op := ⟨some d, none, false, .ld false n (.t x)⟩
def qL (d n x : Nat) : Op := ⟨some d, none, true, .ld false n (.t x)⟩
def qa (d n x : Nat) : Op := ⟨some d, none, false, .ld true n (.t x)⟩
def qA (d n x : Nat) : Op := ⟨some d, none, true, .ld true n (.t x)⟩
def qv (d v n a : Nat) : Op := ⟨some d, none, false, .ldv v false n a⟩
def qV (d v n a : Nat) : Op := ⟨some d, none, true, .ldv v false n a⟩
def qw (d v n a : Nat) : Op := ⟨some d, none, false, .ldv v true n a⟩
def qW (d v n a : Nat) : Op := ⟨some d, none, true, .ldv v true n a⟩
def qx (d x : Nat) : Op := ⟨some d, none, false, .boxi (.t x)⟩
def qe (d x : Nat) : Op := ⟨some d, none, false, .lenS (.t x)⟩
def qE (d x : Nat) : Op := ⟨some d, none, true, .lenS (.t x)⟩
def qj (d w x i : Nat) : Op := ⟨some d, none, false, .idxS w (.t x) (.t i)⟩
def qJ (d w x i : Nat) : Op := ⟨some d, none, true, .idxS w (.t x) (.t i)⟩
def qk (d : Nat) (o : BinOp) (x y : Nat) : Op := ⟨some d, none, false, .bin o (.t x) (.t y)⟩
def qK (d : Nat) (o : BinOp) (x y : Nat) : Op := ⟨some d, none, true, .bin o (.t x) (.t y)⟩
def qn (d : Nat) (o : BinOp) (x : Nat) (n : Int) : Op := ⟨some d, none, false, .bin o (.t x) (.c (.int .i64 n))⟩
def qN (d : Nat) (o : BinOp) (x : Nat) (n : Int) : Op := ⟨some d, none, true, .bin o (.t x) (.c (.int .i64 n))⟩
def qu (d x : Nat) : Op := ⟨some d, none, false, .un .not (.t x)⟩
def qp (d c x : Nat) : Op := ⟨some d, none, false, .pick (.t c) (.t x) (.c (.bool false))⟩
def qP (d c x : Nat) : Op := ⟨some d, none, false, .pick (.t c) (.c (.bool true)) (.t x)⟩
def qs (v n a x : Nat) : Op := ⟨none, none, false, .stv v [] n a (.t x)⟩
def qS (v n a x : Nat) : Op := ⟨none, none, true, .stv v [] n a (.t x)⟩
def qt (n a x : Nat) : Op := ⟨none, none, false, .st [] n (.t a) (.t x)⟩
def qz (d x i : Nat) : Op := ⟨some d, none, false, .ext (.t x) i⟩
def qZ (d x i : Nat) : Op := ⟨some d, none, true, .ext (.t x) i⟩
def qc (d f : Nat) (a : List Nat) : Op := ⟨some d, none, false, .call false (.c (.fn f [] [])) (a.map .t)⟩
def qC (d f : Nat) (a : List Nat) : Op := ⟨some d, none, true, .call false (.c (.fn f [] [])) (a.map .t)⟩
def qy (d w b s x : Nat) : Op := ⟨some d, none, false, .app w b (.t s) (.t x)⟩
def qg (t : Nat) (b : Bool) (o : Op) : Op := ⟨o.dst, some (t, b), o.ntr, o.k⟩
end Go.Abs

/-
  Rows of elements, numbers that fit: what the reckoning of calls needs of lists and numbers.
-/
set_option linter.unusedVariables false
set_option linter.unusedSimpArgs false
namespace Go.Abs
open Go

theorem WL.to {T : Tbl} {live : List Nat} {seg : Bool} {c : Cmd} {e e' : Env} {σ σ' : Stack} {Q Q' : Exit → Env → Stack → Prop} (h : WL T live seg c e σ Q) (he : e' = e) (hs : σ' = σ)
    (hq : ∀ x e σ, Q x e σ → Q' x e σ) : WL T live seg c e' σ' Q' := by subst he hs; exact h.mono hq

theorem flat_len {α : Type} {f : α → List D} {w : Nat} (hw : ∀ x, (f x).length = w) (l : List α) : (l.flatMap f).length = l.length * w := by
  induction l with
  | nil => simp
  | cons a l ih => simp [hw, ih, Nat.succ_mul]; omega

theorem flat_at {α : Type} {f : α → List D} {w : Nat} (hw : ∀ x, (f x).length = w) : ∀ {l : List α} {i : Nat} {x : α}, l[i]? = some x → ((l.flatMap f).drop (i * w)).take w = f x
  | [], i, x, h => by simp at h
  | a :: l, 0, x, h => by
    simp at h; subst h
    simp [← hw a]
  | a :: l, i + 1, x, h => by
    have e : (i + 1) * w = (f a).length + i * w := by rw [hw, Nat.succ_mul]; omega
    rw [List.flatMap_cons, e, List.drop_append]
    simp only [Nat.add_sub_cancel_left, List.drop_eq_nil_of_le (Nat.le_add_right _ _), List.nil_append]
    exact flat_at hw (by simpa using h)

theorem drop_at {α : Type} {l : List α} {i : Nat} {x : α} (h : l[i]? = some x) : l.drop i = x :: l.drop (i + 1) := by
  have h1 : i < l.length := (List.getElem?_eq_some_iff.1 h).1
  rw [List.drop_eq_getElem_cons h1]
  rw [List.getElem?_eq_getElem h1] at h
  simp at h
  rw [h]

theorem flat_take {α : Type} {f : α → List D} {w : Nat} (hw : ∀ x, (f x).length = w) {l : List α} {i : Nat} (hi : i ≤ l.length) : ((l.take i).flatMap f).take (i * w) = (l.take i).flatMap f := by
  apply List.take_of_length_le
  rw [flat_len hw]
  simp only [List.length_take]
  exact Nat.mul_le_mul_right _ (Nat.min_le_left _ _)

theorem flat_snoc {α : Type} {f : α → List D} {l : List α} {i : Nat} {x : α} (h : l[i]? = some x) : (l.take i).flatMap f ++ f x = (l.take (i + 1)).flatMap f := by
  rw [List.take_add_one, h]
  simp

theorem flat_one {α : Type} {f : α → D} (l : List α) : l.flatMap (fun x => [f x]) = l.map f := by
  induction l with
  | nil => rfl
  | cons a l ih => simp [ih]

theorem w64 {n : Int} (h : -9223372036854775808 ≤ n ∧ n ≤ 9223372036854775807) : IntKind.i64.wrap n = n := IntWalk.i64_in n h
@[simp] theorem wlit0 : IntKind.i64.wrap 0 = 0 := by decide
@[simp] theorem wlit1 : IntKind.i64.wrap 1 = 1 := by decide
@[simp] theorem wlit2 : IntKind.i64.wrap 2 = 2 := by decide
@[simp] theorem wlit3 : IntKind.i64.wrap 3 = 3 := by decide
@[simp] theorem wlit4 : IntKind.i64.wrap 4 = 4 := by decide
@[simp] theorem wlit5 : IntKind.i64.wrap 5 = 5 := by decide
theorem wu8 {n : Int} (h : 0 ≤ n ∧ n ≤ 255) : IntKind.u8.wrap n = n := IntWalk.u8_in n h
theorem wnext {i n : Nat} (h : i < n) (hn : n ≤ 9223372036854775807) : IntKind.i64.wrap ((i : Int) + 1) = ((i + 1 : Nat) : Int) := by
  rw [w64 (by omega)]; rfl

end Go.Abs

/-
  Functions over lists that take a function: IndexFunc, ContainsFunc, and 'all' of a package, for elements of any type.
-/
set_option linter.unusedVariables false
set_option linter.unusedSimpArgs false
namespace Go.Abs
open Go

variable {T : Tbl}

def idxOf {α : Type} (p : α → Bool) : List α → Int
  | [] => -1
  | x :: l => if p x then 0 else if idxOf p l < 0 then -1 else idxOf p l + 1

theorem idxOf_neg {α : Type} {p : α → Bool} : ∀ {l : List α}, idxOf p l < 0 ↔ l.any p = false
  | [] => by simp [idxOf]
  | x :: l => by
    have ih := idxOf_neg (p := p) (l := l)
    simp only [idxOf, List.any_cons]
    cases h : p x
    · simp only [Bool.false_eq_true, if_false, Bool.false_or]
      by_cases h1 : idxOf p l < 0
      · rw [if_pos h1, ih.1 h1]; decide
      · rw [if_neg h1]
        have h2 : ¬ l.any p = false := fun h => h1 (ih.2 h)
        exact ⟨fun h3 => absurd h3 (by omega), fun h3 => absurd h3 h2⟩
    · simp

def allB {α : Type} (l : List α) (p : α → Bool) : Bool := l.all p
def anyB {α : Type} (l : List α) (p : α → Bool) : Bool := l.any p
theorem allB_iff {α : Type} {l : List α} {p : α → Bool} : allB l p = true ↔ ∀ x ∈ l, p x = true := by simp [allB]
theorem anyB_iff {α : Type} {l : List α} {p : α → Bool} : anyB l p = true ↔ ∃ x ∈ l, p x = true := by simp [anyB]

def Tests (T : Tbl) {α : Type} (fv : D) (val : α → D) (p : α → Bool) (l : List α) : Prop :=
  fv.strip = fv ∧ fv.calm = fv ∧ ∀ x ∈ l, ∀ σ, callv (lim T) false fv [val x] σ = some (.bool (p x), σ)

theorem Tests.fn {α : Type} {f : Nat} {first cap : List D} {val : α → D} {p : α → Bool} {l : List α}
    (h : ∀ x ∈ l, ∀ σ, lim T (.call false f (first ++ [val x] ++ cap) σ) = some (.val (.bool (p x)) σ)) : Tests T (.fn f first cap) val p l :=
  ⟨rfl, rfl, fun x hx σ => by rw [callv_fn, h x hx σ]; rfl⟩

structure Elt (α : Type) where
  ag : Bool
  w : Nat
  enc : α → List D
  val : α → D
  len : ∀ x, (enc x).length = w
  load : ∀ x, ldD ag w (some (enc x)) = some (val x)
  strip : ∀ x, (val x).strip = val x
  calm : ∀ x, (val x).calm = val x
  cells : ∀ x, (val x).cells = some (enc x)

def eltInt (k : IntKind) : Elt Int := ⟨false, 1, fun n => [.int k n], fun n => .int k n, fun _ => rfl, fun _ => by simp, fun _ => rfl, fun _ => rfl, fun _ => rfl⟩
def eltBool : Elt Bool := ⟨false, 1, fun n => [.bool n], fun n => .bool n, fun _ => rfl, fun _ => by simp, fun _ => rfl, fun _ => rfl, fun _ => rfl⟩
def eltAgg {α : Type} (w : Nat) (enc : α → List D) (h : ∀ x, (enc x).length = w) : Elt α :=
  ⟨true, w, enc, fun x => .agg (enc x), h, fun x => by simp [h, List.take_of_length_le], fun _ => rfl, fun _ => rfl, fun _ => rfl⟩

section index
variable (ag : Bool) (w : Nat)
def idxL : Cmd :=
  (.seq (.reg [0, 1, 7, 8, 9] [⟨some 9, none, false, .bin .lss (.t 8) (.t 7)⟩]) (.seq (.ite (.t 9) .nop (.exit 0)) (.seq (.blk 1 (.seq (.reg [0, 1, 5, 7, 8] [
  ⟨some 10, none, false, .mv (.t 8)⟩,
  ⟨some 5, none, false, .mv (.t 10)⟩]) (.seq (.reg [0, 1, 5, 7, 8, 16] [
  ⟨some 11, none, false, .mv (.t 1)⟩,
  ⟨some 12, none, false, .mv (.t 0)⟩,
  ⟨some 13, none, false, .mv (.t 5)⟩,
  ⟨some 14, none, false, .idxS w (.t 12) (.t 13)⟩,
  ⟨some 15, none, false, .ld ag w (.t 14)⟩,
  ⟨some 16, none, false, .call false (.t 11) [(.t 15)]⟩]) (.ite (.t 16) (.seq (.reg [4] [
  ⟨some 17, none, false, .mv (.t 5)⟩,
  ⟨some 4, none, false, .mv (.t 17)⟩]) .ret) .nop)))) (.reg [0, 1, 7, 8] [
  ⟨some 18, none, false, .bin .add (.t 8) (.c (.int .i64 1))⟩,
  ⟨some 8, none, false, .mv (.t 18)⟩]))))
def idxFn : Fn := ⟨2, [.t 4],
  (.seq (.reg [0, 1] [⟨some 4, none, false, .mv (.c (.int .i64 0))⟩]) (.seq (.seq (.reg [0, 1, 7, 8] [
  ⟨some 6, none, false, .mv (.t 0)⟩,
  ⟨some 7, none, false, .lenS (.t 6)⟩,
  ⟨some 8, none, false, .mv (.c (.int .i64 0))⟩]) (.blk 0 (.loop [0, 1, 7, 8] false (idxL ag w)))) (.seq (.reg [4] [
  ⟨some 4, none, false, .mv (.c (.int .i64 (-1)))⟩]) .ret)))⟩
def containsFn (i : Nat) : Fn := ⟨2, [.t 4],
  (.seq (.reg [0, 1] [⟨some 4, none, false, .mv (.c (.bool false))⟩]) (.seq (.reg [4] [
  ⟨some 5, none, false, .mv (.t 0)⟩,
  ⟨some 6, none, false, .mv (.t 1)⟩,
  ⟨some 7, none, false, .call false (.c (.fn i [] [])) [(.t 5), (.t 6)]⟩,
  ⟨some 8, none, false, .bin .geq (.t 7) (.c (.int .i64 0))⟩,
  ⟨some 4, none, false, .mv (.t 8)⟩]) .ret))⟩
def allFn (g h : Nat) : Fn := ⟨2, [.t 4],
  (.seq (.reg [0, 3] [
  ⟨some 3, none, false, .boxi (.t 1)⟩,
  ⟨some 4, none, false, .mv (.c (.bool false))⟩]) (.seq (.reg [4] [
  ⟨some 5, none, false, .mv (.t 0)⟩,
  ⟨some 6, none, false, .mkf g [] [(.t 3)]⟩,
  ⟨some 7, none, false, .call false (.c (.fn h [] [])) [(.t 5), (.t 6)]⟩,
  ⟨some 8, none, false, .un .not (.t 7)⟩,
  ⟨some 4, none, false, .mv (.t 8)⟩]) .ret))⟩
def all1Fn : Bool → Nat → Fn
  | true, w => ⟨2, [.t 3],
  (.seq (.reg [1, 2] [
  ⟨some 2, none, false, .boxi (.t 0)⟩,
  ⟨some 3, none, false, .mv (.c (.bool false))⟩]) (.seq (.reg [3] [
  ⟨some 4, none, false, .ld false 1 (.t 1)⟩,
  ⟨some 5, none, false, .ld true w (.t 2)⟩,
  ⟨some 6, none, false, .call false (.t 4) [(.t 5)]⟩,
  ⟨some 7, none, false, .un .not (.t 6)⟩,
  ⟨some 3, none, false, .mv (.t 7)⟩]) .ret))⟩
  | false, _ => ⟨2, [.t 3],
  (.seq (.reg [0, 1] [
  ⟨some 3, none, false, .mv (.c (.bool false))⟩]) (.seq (.reg [3] [
  ⟨some 4, none, false, .ld false 1 (.t 1)⟩,
  ⟨some 5, none, false, .mv (.t 0)⟩,
  ⟨some 6, none, false, .call false (.t 4) [(.t 5)]⟩,
  ⟨some 7, none, false, .un .not (.t 6)⟩,
  ⟨some 3, none, false, .mv (.t 7)⟩]) .ret))⟩
end index

section
variable {α : Type} (E : Elt α) {p : α → Bool} {fv : D} {l : List α}

theorem idx_loop (hl : l.length ≤ 9223372036854775807) (ht : Tests T fv E.val p l) {σ : Stack} : ∀ (m i : Nat), i + m = l.length →
    WL T [0, 1, 7, 8] false (idxL E.ag E.w) [(0, .lst l.length (l.flatMap E.enc)), (1, fv), (7, .int .i64 l.length), (8, .int .i64 i)] σ
      (fun x e σ' => σ' = σ ∧ if idxOf p (l.drop i) < 0 then x = .exit 0 else x = .ret ∧ get e 4 = .int .i64 (i + idxOf p (l.drop i)))
  | 0, i, hi => by
    obtain ⟨h1, h2, h3⟩ := ht
    refine WL_step (idxL.eq_1 _ _) ?_
    have : ¬ i < l.length := by omega
    have h5 : l.drop i = [] := by simp; omega
    simp [this, h1, h2, h5, idxOf]
  | m + 1, i, hi => by
    have ih := idx_loop hl ht (σ := σ) m (i + 1) (by omega)
    obtain ⟨h1, h2, h3⟩ := ht
    refine WL_step (idxL.eq_1 _ _) ?_
    have h4 : i < l.length := by omega
    obtain ⟨x, hx⟩ : ∃ x, l[i]? = some x := ⟨_, List.getElem?_eq_getElem h4⟩
    have h5 := flat_at (f := E.enc) E.len hx
    have h6 := h3 x (List.mem_of_getElem? hx) σ
    have h7 := wnext h4 hl
    have h8 : l.drop i = x :: l.drop (i + 1) := by
      rw [List.drop_eq_getElem_cons h4]
      rw [List.getElem?_eq_getElem h4] at hx
      simp at hx
      rw [hx]
    cases hp : p x
    · rw [hp] at h6
      simp [h4, h1, h2, h5, h6, h7, E.load, E.strip, E.calm]
      refine WL.mono (by simpa using ih) ?_
      rintro x e σ' ⟨h9, h10⟩
      refine ⟨h9, ?_⟩
      rw [h8]
      simp only [idxOf, hp, Bool.false_eq_true, if_false]
      by_cases h11 : idxOf p (l.drop (i + 1)) < 0
      · simpa [h11] using h10
      · rw [if_neg h11] at h10
        rw [if_neg h11, if_neg (by omega)]
        refine ⟨h10.1, ?_⟩
        rw [h10.2]
        congr 1
        push_cast
        omega
    · rw [hp] at h6
      simp [h4, h1, h2, h5, h6, h7, E.load, E.strip, E.calm, h8, idxOf, hp]

theorem index_of {f : Nat} (hT : T f = some (idxFn E.ag E.w)) (hl : l.length ≤ 9223372036854775807) (ht : Tests T fv E.val p l) {σ : Stack} :
    lim T (.call false f [.lst l.length (l.flatMap E.enc), fv] σ) = some (.val (.int .i64 (idxOf p l)) σ) := by
  refine call_of hT (idxFn.eq_1 _ _) rfl ?_
  have h := idx_loop E hl ht (σ := [] :: σ) l.length 0 (by simp)
  obtain ⟨h1, h2, h3⟩ := ht
  simp [h1, h2]
  refine WL.mono (by simpa using h) ?_
  rintro x e σ' ⟨rfl, h10⟩
  try simp only [List.drop_zero] at h10
  by_cases h11 : idxOf p l < 0
  · rw [if_pos h11] at h10
    subst h10
    have : idxOf p l = -1 := by
      cases l with
      | nil => rfl
      | cons a l =>
        simp only [idxOf] at h11 ⊢
        split at h11 <;> rename_i ha
        · omega
        · rw [if_neg ha]
          split at h11 <;> rename_i hb
          · rw [if_pos hb]
          · omega
    simp [this]
  · rw [if_neg h11] at h10
    obtain ⟨rfl, h12⟩ := h10
    try simp at h12
    simp [h12]

theorem contains_of {f i : Nat} (hT : T f = some (containsFn i)) (hi : T i = some (idxFn E.ag E.w)) (hl : l.length ≤ 9223372036854775807) (ht : Tests T fv E.val p l) {σ : Stack} :
    lim T (.call false f [.lst l.length (l.flatMap E.enc), fv] σ) = some (.val (.bool (anyB l p)) σ) := by
  refine call_of hT (containsFn.eq_1 _) rfl ?_
  have h := index_of E hi hl ht (σ := [] :: σ)
  obtain ⟨h1, h2, h3⟩ := ht
  have h4 : decide (0 ≤ idxOf p l) = anyB l p := by
    unfold anyB
    have h6 := idxOf_neg (p := p) (l := l)
    cases h5 : l.any p
    · have := h6.2 h5
      exact decide_eq_false (by omega)
    · exact decide_eq_true (by
        have : ¬ idxOf p l < 0 := fun h => by rw [h6.1 h] at h5; cases h5
        omega)
  simp [h1, h2, h, h4]

theorem all1_of {g : Nat} (hT : T g = some (all1Fn E.ag E.w)) (ht : Tests T fv E.val p l) : Tests T (.fn g [] [.cref [fv]]) E.val (fun x => !p x) l := by
  refine Tests.fn fun x hx σ => ?_
  obtain ⟨h1, h2, h3⟩ := ht
  have h6 := h3 x hx ([] :: σ)
  have hc := E.cells x
  have hl := E.load x
  have hs := E.strip x
  have hcm := E.calm x
  generalize E.ag = ag at *
  cases ag with
  | true =>
    refine call_of hT (all1Fn.eq_1 _) rfl ?_
    simp [h1, h2, h6, hc, hl, hs, hcm]
  | false =>
    refine call_of hT (all1Fn.eq_2 _) rfl ?_
    simp [h1, h2, h6, hc, hl, hs, hcm]

theorem all_of {f g h i : Nat} (hf : T f = some (allFn g h)) (hg : T g = some (all1Fn E.ag E.w)) (hh : T h = some (containsFn i)) (hi : T i = some (idxFn E.ag E.w))
    (hl : l.length ≤ 9223372036854775807) (ht : Tests T fv E.val p l) (hcl : fv.cells = some [fv]) {σ : Stack} :
    lim T (.call false f [.lst l.length (l.flatMap E.enc), fv] σ) = some (.val (.bool (allB l p)) σ) := by
  refine call_of hf (allFn.eq_1 _ _) rfl ?_
  have h := contains_of E hh hi hl (all1_of E hg ht) (σ := [] :: σ)
  obtain ⟨h1, h2, h3⟩ := ht
  have h4 : (anyB l fun x => !p x) = !allB l p := by
    unfold anyB allB
    rw [List.all_eq_not_any_not, Bool.not_not]
  simp [h1, h2, h, h4, hcl]
end

end Go.Abs

/-
  Loops over functions: rounds.
-/
set_option linter.unusedVariables false
set_option linter.unusedSimpArgs false
namespace Go.Abs
open Go

variable {T : Tbl}

theorem call_to {f : Nat} {fn : Fn} {args : List D} {σ σ' : Stack} {d : D} {np : Nat} {res : List Res} {body : Cmd} (hT : T f = some fn) (hf : fn = ⟨np, res, body⟩) (hl : args.length = np) (hs : σ'.length = σ.length)
    (h : WC (lim T) body (mkEnv 0 args) ([] :: σ) (endC σ' res d)) :
    lim T (.call false f args σ) = some (.val d σ') := by
  subst hf
  obtain ⟨x, e1, σ1, h1, h2, h2', ds, h3, s, h4⟩ := h
  refine lim_step ?_
  rw [hs, deep_def] at h4
  simp only [stepQ, hT, if_pos hl, Bool.false_eq_true, if_false, h1]
  cases x with
  | exit i => exact absurd rfl (h2 i)
  | thr d => exact absurd rfl (h2' d)
  | normal => simp [h3, h4]
  | ret => simp [h3, h4]

def okX : Exit → Prop
  | .normal => True
  | .ret => True
  | _ => False
@[simp] theorem okX_normal : okX .normal = True := by_rfl rfl
@[simp] theorem okX_ret : okX .ret = True := by_rfl rfl

theorem call_kp {f : Nat} {fn : Fn} {args : List D} {σ σ' : Stack} {d : D} {np : Nat} {res : List Res} {body : Cmd} (hT : T f = some fn) (hf : fn = ⟨np, res, body⟩) (hl : args.length = np)
    (h : WC (lim T) body (mkEnv 0 args) σ fun x e σ1 => okX x ∧ (resL e σ1 res).map mkRes = some d ∧ σ1 = σ') :
    lim T (.call true f args σ) = some (.val d σ') := by
  subst hf
  obtain ⟨x, e1, σ1, h1, h2, h3, rfl⟩ := h
  refine lim_step ?_
  simp only [Option.map_eq_some_iff] at h3
  obtain ⟨ds, h3, rfl⟩ := h3
  simp only [stepQ, hT, if_pos hl, if_true, h1]
  cases x with
  | exit i => exact h2.elim
  | thr d => exact h2.elim
  | normal => simp [h3]
  | ret => simp [h3]

inductive Rounds (T : Tbl) (l i : Nat) {α : Type} (f : α → List D) : List α → Stack → Bool → Stack → Prop
  | nil (σ : Stack) : Rounds T l i f [] σ true σ
  | go (a : α) (xs : List α) (σ σ1 σ2 : Stack) (b : Bool) : lim T (.round l i (f a) σ) = some (.val (.bool true) σ1) → Rounds T l i f xs σ1 b σ2 → Rounds T l i f (a :: xs) σ b σ2
  | stop (a : α) (xs : List α) (σ σ1 : Stack) : lim T (.round l i (f a) σ) = some (.val (.bool false) σ1) → Rounds T l i f (a :: xs) σ false σ1

theorem Rounds.split {l i : Nat} {α : Type} {f : α → List D} : ∀ {xs bs : List α} {σ σ' : Stack} {b : Bool}, Rounds T l i f (xs ++ bs) σ b σ' →
    (∃ σ1, Rounds T l i f xs σ true σ1 ∧ Rounds T l i f bs σ1 b σ') ∨ (b = false ∧ Rounds T l i f xs σ false σ')
  | [], bs, σ, σ', b, h => .inl ⟨σ, .nil σ, h⟩
  | a :: xs, bs, σ, σ', b, h => by
    cases h with
    | go _ _ _ σ1 _ _ h1 h2 =>
      rcases Rounds.split h2 with ⟨σ3, h3, h4⟩ | ⟨rfl, h3⟩
      · exact .inl ⟨σ3, .go _ _ _ _ _ _ h1 h3, h4⟩
      · exact .inr ⟨rfl, .go _ _ _ _ _ _ h1 h3⟩
    | stop _ _ _ _ h1 => exact .inr ⟨rfl, .stop _ _ _ _ h1⟩

theorem WC_rngf {live : List Nat} {fo : Opd} {params : List Nat} {asg body : Cmd} {e : Env} {s : List Blk} {σ σ2 : Stack} {Q : Exit → Env → Stack → Prop} {g : Nat} {first cap : List D} {d : D} {lp : LoopSt}
    (hf : opd e fo = .fn g first cap)
    (hc : lim T (.call false g (first ++ [.yld σ.length s.length] ++ cap) ((s ++ [.loop { state := 0, pend := none, env := strips live e, params, asg, body }]) :: σ)) = some (.val d σ2))
    (hb : blk? σ2 σ.length s.length = some (.loop lp)) (hs : lp.state ≠ 1)
    (hq : Q (lp.pend.getD .normal) (restrict live e) (setBlk σ2 σ.length s.length (.loop { lp with state := 3 }))) :
    WC (lim T) (.rngf live fo params asg body) e (s :: σ) Q := by
  refine ⟨_, _, _, ?_, hq⟩
  simp only [acode, newBlk, hf, callf, hc, R.vals, hb, if_neg hs]

def loopOf : Option Blk → Option LoopSt
  | some (.loop lp) => some lp
  | _ => none
@[simp] theorem loopOf_loop {lp : LoopSt} : loopOf (some (.loop lp)) = some lp := by_rfl rfl
theorem loopOf_some {o : Option Blk} {lp : LoopSt} (h : loopOf o = some lp) : o = some (.loop lp) := by
  cases o with
  | none => cases h
  | some b => cases b <;> cases h; rfl

def endR (l i : Nat) (b : Bool) (σ' : Stack) (x : Exit) (σ2 : Stack) : Prop :=
  match x with
  | .thr _ => False
  | .normal => WD (loopOf (blk? σ2.tail l i)) fun lp2 => setBlk σ2.tail l i (.loop { lp2 with state := 0, pend := none }) = σ' ∧ b = true
  | x => WD (loopOf (blk? σ2.tail l i)) fun lp2 => setBlk σ2.tail l i (.loop { lp2 with state := 2, pend := some x }) = σ' ∧ b = false
@[simp] theorem endR_normal {l i : Nat} {b : Bool} {σ' : Stack} {s2 : List Blk} {σ3 : Stack} : endR l i b σ' .normal (s2 :: σ3) = WD (loopOf (blk? σ3 l i)) fun lp2 => setBlk σ3 l i (.loop { lp2 with state := 0, pend := none }) = σ' ∧ b = true := by_rfl rfl
@[simp] theorem endR_ret {l i : Nat} {b : Bool} {σ' : Stack} {s2 : List Blk} {σ3 : Stack} : endR l i b σ' .ret (s2 :: σ3) = WD (loopOf (blk? σ3 l i)) fun lp2 => setBlk σ3 l i (.loop { lp2 with state := 2, pend := some .ret }) = σ' ∧ b = false := by_rfl rfl
@[simp] theorem endR_exit {l i j : Nat} {b : Bool} {σ' : Stack} {s2 : List Blk} {σ3 : Stack} : endR l i b σ' (.exit j) (s2 :: σ3) = WD (loopOf (blk? σ3 l i)) fun lp2 => setBlk σ3 l i (.loop { lp2 with state := 2, pend := some (.exit j) }) = σ' ∧ b = false := by_rfl rfl

def midR (T : Tbl) (l i : Nat) (b : Bool) (σ' : Stack) (n : Nat) (body : Cmd) (x : Exit) (e1 : Env) (σ1 : Stack) (_m : Mark body := .mk) : Prop :=
  x = .normal ∧ WD (loopOf (blk? σ1 l i)) fun lp1 => lp1.state = 0 ∧ WC (lim T) body e1 (setBlk σ1 l i (.loop { lp1 with state := 1 })) fun x _ σ2 => σ2.length = n ∧ endR l i b σ' x σ2

theorem round_of {l i : Nat} {args : List D} {σ σ' : Stack} {b : Bool} {lp : LoopSt} (hb : blk? σ l i = some (.loop lp)) (hl : args.length = lp.params.length)
    (h : WC (lim T) lp.asg (putAll lp.params args lp.env) ([] :: σ) (midR T l i b σ' (σ.length + 1) lp.body)) :
    lim T (.round l i args σ) = some (.val (.bool b) σ') := by
  obtain ⟨x, e1, σ1, h1, rfl, lp1, h2, h3, x2, e2, σ2, h4, hlen, h6⟩ := h
  have h2 := loopOf_some h2
  cases σ2 with
  | nil => simp at hlen
  | cons s2 σ3 =>
  refine lim_step ?_
  simp only [stepQ, hb, if_pos hl, h1, h2, if_pos h3, h4]
  cases x2 with
  | normal => obtain ⟨lp2, h5, h6, rfl⟩ := h6; have h5 := loopOf_some h5; dsimp only [List.tail] at h5 h6 ⊢; rw [h5]; dsimp only; rw [h6]
  | exit j => obtain ⟨lp2, h5, h6, rfl⟩ := h6; have h5 := loopOf_some h5; dsimp only [List.tail] at h5 h6 ⊢; rw [h5]; dsimp only; rw [h6]
  | ret => obtain ⟨lp2, h5, h6, rfl⟩ := h6; have h5 := loopOf_some h5; dsimp only [List.tail] at h5 h6 ⊢; rw [h5]; dsimp only; rw [h6]
  | thr d => exact h6.elim

@[simp] theorem putAll_cons {t : Nat} {ts : List Nat} {d : D} {ds : List D} {e : Env} : putAll (t :: ts) (d :: ds) e = putAll ts ds ((t, d) :: e) := by_rfl rfl
@[simp] theorem putAll_nil {ds : List D} {e : Env} : putAll [] ds e = e := by_rfl (by cases ds <;> rfl)
@[simp] theorem strips_nil {e : Env} : strips [] e = [] := by_rfl rfl
@[simp] theorem strips_cons {t : Nat} {l : List Nat} {e : Env} : strips (t :: l) e = (t, (get e t).strip) :: strips l e := by_rfl rfl

end Go.Abs

/-
  Freezing reckoned; rows of elements: more of them.
-/
set_option linter.unusedVariables false
set_option linter.unusedSimpArgs false
namespace Go.Abs
open Go
variable {T : Tbl}

def frzT (vs : List Nat) (v : Nat) (d : D) (e : Env) (σ : Stack) : Env × Stack :=
  match d with
  | .sl l i u off m w => frzs vs ((v, (frz 0 deep (.sl l i u off m w) σ).1) :: e) (frz 0 deep (.sl l i u off m w) σ).2
  | .own s cs => frzs vs ((v, .own s (frz.frzL (frz 0 deep) cs σ).1) :: e) (frz.frzL (frz 0 deep) cs σ).2
  | .agg cs => frzs vs ((v, .agg (cs.map D.blur)) :: e) σ
  | _ => frzs vs e σ
@[simp] theorem frzs_nil {e : Env} {σ : Stack} : frzs [] e σ = (e, σ) := by_rfl rfl
@[simp] theorem frzs_cons {v : Nat} {vs : List Nat} {e : Env} {σ : Stack} : frzs (v :: vs) e σ = frzT vs v (get e v) e σ := by
  simp only [frzs, frzT]
  cases get e v <;> rfl
@[simp] theorem frzT_sl {v : Nat} {vs : List Nat} {e : Env} {σ : Stack} {l i u off m w : Nat} : frzT vs v (.sl l i u off m w) e σ =
    frzs vs ((v, (frz 0 deep (.sl l i u off m w) σ).1) :: e) (frz 0 deep (.sl l i u off m w) σ).2 := by_rfl rfl
@[simp] theorem frzT_own {v : Nat} {vs : List Nat} {e : Env} {σ : Stack} {s : Nat} {cs : List D} : frzT vs v (.own s cs) e σ =
    frzs vs ((v, .own s (frz.frzL (frz 0 deep) cs σ).1) :: e) (frz.frzL (frz 0 deep) cs σ).2 := by_rfl rfl
@[simp] theorem frzT_agg {v : Nat} {vs : List Nat} {e : Env} {σ : Stack} {cs : List D} : frzT vs v (.agg cs) e σ = frzs vs ((v, .agg (cs.map D.blur)) :: e) σ := by_rfl rfl
@[simp] theorem blur_int {k : IntKind} {n : Int} : D.blur (.int k n) = .int k n := by_rfl rfl
@[simp] theorem blur_lst {n : Nat} {cs : List D} : D.blur (.lst n cs) = .lst n cs := by_rfl rfl
@[simp] theorem blur_nils : D.blur .nils = .lst 0 [] := by_rfl rfl
@[simp] theorem frzT_lst {v : Nat} {vs : List Nat} {e : Env} {σ : Stack} {n : Nat} {cs : List D} : frzT vs v (.lst n cs) e σ = frzs vs e σ := by_rfl rfl
@[simp] theorem frzT_nils {v : Nat} {vs : List Nat} {e : Env} {σ : Stack} : frzT vs v .nils e σ = frzs vs e σ := by_rfl rfl
@[simp] theorem frzT_undef {v : Nat} {vs : List Nat} {e : Env} {σ : Stack} : frzT vs v .undef e σ = frzs vs e σ := by_rfl rfl

def frzC (l n m off w : Nat) (σ : Stack) (s : D) : Option (List D) → D × Stack
  | some cs => (.lst m (frz.frzL (frz l n) ((cs.drop off).take (m * w)) σ).1, (frz.frzL (frz l n) ((cs.drop off).take (m * w)) σ).2)
  | none => (.undef, σ)
@[simp] theorem frzC_some {l n m off w : Nat} {σ : Stack} {s : D} {cs : List D} : frzC l n m off w σ s (some cs) = (.lst m (frz.frzL (frz l n) ((cs.drop off).take (m * w)) σ).1, (frz.frzL (frz l n) ((cs.drop off).take (m * w)) σ).2) := by_rfl rfl
theorem frz_at {L i u off m w : Nat} {σ : Stack} {cs : List D} (hL : 0 < L) (hc : cells? σ L i u = some cs) :
    frz 0 16 (.sl L i u off m w) σ = (.lst m (frz.frzL (frz 0 15) ((cs.drop off).take (m * w)) (setBlk σ L i .dead)).1, (frz.frzL (frz 0 15) ((cs.drop off).take (m * w)) (setBlk σ L i .dead)).2) := by
  exact frz_sl (by omega) hc (by omega)
theorem frz_top {σ : Stack} (hσ : σ ≠ []) {bs : List Blk} {i u m w : Nat} {cs : List D} (hb : bs[i]? = some (.cells u cs)) (hcl : D.cleanL cs = true) (hlen : cs.length = m * w) :
    frz 0 16 (.sl σ.length i u 0 m w) (bs :: σ) = (.lst m cs, bs.set i .dead :: σ) := by
  have h := List.length_pos_iff.2 hσ
  rw [frz_at h (cs := cs) (by simp [hb])]
  simp [← hlen, hcl, List.take_of_length_le]

theorem k_self {α : Type} {f : α → List D} {w : Nat} (hw : ∀ x, (f x).length = w) (l : List α) : (l.flatMap f).take (l.length * w) = l.flatMap f :=
  List.take_of_length_le (by rw [flat_len hw]; exact Nat.le_refl _)
theorem k_clean {α : Type} {f : α → List D} (h : ∀ x, D.cleanL (f x) = true) (l : List α) : D.cleanL (l.flatMap f) = true := by
  have app : ∀ a b : List D, D.cleanL (a ++ b) = (D.cleanL a && D.cleanL b) := by
    intro a b
    induction a with
    | nil => simp
    | cons x a ih => simp [ih, Bool.and_assoc]
  induction l with
  | nil => simp
  | cons a l ih => simp [app, h, ih]
theorem k_out {α : Type} {f : α → List D} {w : Nat} (hw : ∀ x, (f x).length = w) (hc : ∀ x, D.cleanL (f x) = true) {l : List α} {j v : Nat} {bs : List Blk} {σ : Stack} (hσ : σ ≠ []) (hj : bs[j]? = some (.cells v (l.flatMap f))) :
    frz (σ.length - 1) 16 (.sl σ.length j v 0 l.length w) (bs :: σ) = (.lst l.length (l.flatMap f), bs.set j .dead :: σ) := by
  have h3 : ¬ σ.length ≤ σ.length - 1 := by have := List.length_pos_iff.2 hσ; omega
  rw [frz_sl h3 (cs := l.flatMap f) (by simp [hj]) (by omega)]
  simp [k_self hw l, k_clean hc l]
theorem k_frz {α : Type} {f : α → List D} {w : Nat} (hw : ∀ x, (f x).length = w) (hc : ∀ x, D.cleanL (f x) = true) {l : List α} {j v : Nat} {bs : List Blk} {σ : Stack} (hσ : σ ≠ []) (hj : bs[j]? = some (.cells v (l.flatMap f))) :
    frz 0 16 (.sl σ.length j v 0 l.length w) (bs :: σ) = (.lst l.length (l.flatMap f), bs.set j .dead :: σ) :=
  frz_top hσ hj (k_clean hc l) (flat_len hw l)
theorem k_set {α : Type} {f : α → List D} {w : Nat} (hw : ∀ x, (f x).length = w) : ∀ {l : List α} {i : Nat} {x : α}, i < l.length → (l.flatMap f).take (i * w) ++ (f x ++ (l.flatMap f).drop (i * w + w)) = (l.set i x).flatMap f
  | [], i, x, h => by simp at h
  | a :: l, 0, x, h => by
    have h1 := hw a
    simp only [Nat.zero_mul, List.take_zero, List.nil_append, List.flatMap_cons, List.set_cons_zero, Nat.zero_add]
    rw [← h1, List.drop_left]
  | a :: l, i + 1, x, h => by
    have h1 := hw a
    have ih := k_set (l := l) (i := i) (x := x) hw (by simpa using h)
    simp only [List.flatMap_cons, List.set_cons_succ]
    rw [← ih, show (i + 1) * w = w + i * w by rw [Nat.succ_mul]; omega, ← h1, List.take_length_add_append, List.append_assoc, show (f a).length + i * (f a).length + (f a).length = (f a).length + (i * (f a).length + (f a).length) by omega, List.drop_length_add_append]
theorem k_drop {α : Type} {f : α → List D} {w : Nat} (hw : ∀ x, (f x).length = w) : ∀ {l : List α} {i : Nat} {x : α}, l[i]? = some x → (l.flatMap f).drop (i * w) = f x ++ (l.flatMap f).drop (i * w + w)
  | [], i, x, h => by simp at h
  | a :: l, 0, x, h => by
    simp at h; subst h
    have h1 := hw a
    simp only [Nat.zero_mul, List.drop_zero, List.flatMap_cons, Nat.zero_add]
    rw [← h1, List.drop_left]
  | a :: l, i + 1, x, h => by
    have h1 := hw a
    have ih := k_drop (l := l) (i := i) (x := x) hw (by simpa using h)
    simp only [List.flatMap_cons]
    rw [show (i + 1) * w = w + i * w by rw [Nat.succ_mul]; omega, ← h1, List.drop_length_add_append, show (f a).length + i * (f a).length + (f a).length = (f a).length + (i * (f a).length + (f a).length) by omega, List.drop_length_add_append, h1, ih]

@[simp] theorem frzE_nil {l : Nat} {σ : Stack} : frzE l [] σ = ([], σ) := by_rfl rfl
@[simp] theorem frzE_cons {l t : Nat} {d : D} {e : Env} {σ : Stack} : frzE l ((t, d) :: e) σ = ((t, (frz l deep d σ).1) :: (frzE l e (frz l deep d σ).2).1, (frzE l e (frz l deep d σ).2).2) := by_rfl rfl

def nextS (T : Tbl) (live : List Nat) (c : Cmd) (n : Nat) (Q : Exit → Env → Stack → Prop) (_m : Mark c := .mk) (_m' : Mark Q := .mk) : Exit → Env → Stack → Prop
  | .normal, e, σ => WL T live true c (frzE n (restrict live e) σ).1 (frzE n (restrict live e) σ).2.tail Q
  | .exit i, e, σ => Q (.exit i) (frzE n (restrict (keys e) e) σ).1 (frzE n (restrict (keys e) e) σ).2.tail
  | .ret, e, σ => Q .ret (frzE n (restrict (keys e) e) σ).1 (frzE n (restrict (keys e) e) σ).2.tail
  | .thr d, e, σ => Q (.thr d) (frzE n (restrict (keys e) e) σ).1 (frzE n (restrict (keys e) e) σ).2.tail
@[simp, simp ↓] theorem nextS_thr {live : List Nat} {c : Cmd} {n : Nat} {d : D} {Q : Exit → Env → Stack → Prop} {e : Env} {σ : Stack} : nextS T live c n Q .mk .mk (.thr d) e σ = Q (.thr d) (frzE n (restrict (keys e) e) σ).1 (frzE n (restrict (keys e) e) σ).2.tail := by_rfl rfl
@[simp, simp ↓] theorem nextS_normal {live : List Nat} {c : Cmd} {n : Nat} {Q : Exit → Env → Stack → Prop} {e : Env} {σ : Stack} : nextS T live c n Q .mk .mk .normal e σ = WL T live true c (frzE n (restrict live e) σ).1 (frzE n (restrict live e) σ).2.tail Q := by_rfl rfl
@[simp, simp ↓] theorem nextS_exit {live : List Nat} {c : Cmd} {n i : Nat} {Q : Exit → Env → Stack → Prop} {e : Env} {σ : Stack} : nextS T live c n Q .mk .mk (.exit i) e σ = Q (.exit i) (frzE n (restrict (keys e) e) σ).1 (frzE n (restrict (keys e) e) σ).2.tail := by_rfl rfl
@[simp, simp ↓] theorem nextS_ret {live : List Nat} {c : Cmd} {n : Nat} {Q : Exit → Env → Stack → Prop} {e : Env} {σ : Stack} : nextS T live c n Q .mk .mk .ret e σ = Q .ret (frzE n (restrict (keys e) e) σ).1 (frzE n (restrict (keys e) e) σ).2.tail := by_rfl rfl

theorem WL_stepS {live : List Nat} {c c' : Cmd} {e : Env} {σ : Stack} {Q : Exit → Env → Stack → Prop} (hc : c = c') (h : WC (lim T) c' (restrict live e) ([] :: σ) (nextS T live c (σ.length - 1) Q .mk .mk)) : WL T live true c e σ Q := by
  rw [← hc] at h
  obtain ⟨x, e1, σ1, h1, h2⟩ := h
  cases x with
  | normal =>
    obtain ⟨x, e', σ', h3, h4⟩ := h2
    exact ⟨x, e', σ', lim_step (by simp [stepQ, h1, liveAt, h3]), h4⟩
  | exit i => exact ⟨_, _, _, lim_step (by simp [stepQ, h1, liveAt]), h2⟩
  | ret => exact ⟨_, _, _, lim_step (by simp [stepQ, h1, liveAt]), h2⟩
  | thr d => exact ⟨_, _, _, lim_step (by simp [stepQ, h1, liveAt]), h2⟩

@[simp] theorem keys_nil : keys [] = [] := by_rfl rfl
@[simp] theorem keys_cons {t : Nat} {d : D} {e : Env} : keys ((t, d) :: e) = t :: keys (e.filter fun p => !(p.1 == t)) := by
  simp only [keys, List.map_cons, List.eraseDups_cons, List.filter_map]
  rfl

end Go.Abs

/-
  The way in: arguments that can be read as data are values of the interpreter.
-/
set_option linter.unusedVariables false
set_option linter.unusedSimpArgs false
namespace Go.Abs
open Go
open Go.RowKit Go.WideShapes

inductive Ty where
  | bool
  | int (k : IntKind)
  | str
  | slice (w : Nat) (e : Ty)
  | struct (fs : List Ty)
  | arr (n : Nat) (e : Ty)
  deriving Inhabited

mutual
def Ty.size : Ty → Nat
  | .bool => 1
  | .int _ => 1
  | .str => 1
  | .slice _ _ => 1
  | .struct fs => Ty.sizes fs
  | .arr n e => n * e.size
def Ty.sizes : List Ty → Nat
  | [] => 0
  | f :: fs => f.size + Ty.sizes fs
end

mutual
def Ty.has : Ty → List D → Prop
  | .bool, ds => ∃ b, ds = [.bool b]
  | .int k, ds => ∃ n, ds = [.int k n] ∧ (Lit.int k n).wf = true
  | .str, ds => ∃ s : List UInt8, ds = [.str s] ∧ s.length ≤ maxLen
  | .slice w e, ds => ∃ xs : List (List D), ds = [.lst xs.length xs.flatten] ∧ xs.length ≤ maxLen ∧ ∀ x ∈ xs, x.length = w ∧ e.has x
  | .struct fs, ds => Ty.hasF fs ds
  | .arr n e, ds => ∃ xs : List (List D), ds = xs.flatten ∧ xs.length = n ∧ ∀ x ∈ xs, x.length = e.size ∧ e.has x
def Ty.hasF : List Ty → List D → Prop
  | [], ds => ds = []
  | f :: fs, ds => ∃ a b, ds = a ++ b ∧ f.has a ∧ Ty.hasF fs b
end

def Ty.hasV (T : Ty) (d : D) : Prop :=
  match T with
  | .struct _ => ∃ ds, d = .agg ds ∧ T.has ds
  | .arr _ _ => ∃ ds, d = .agg ds ∧ T.has ds
  | _ => T.has [d]

def tyC (P : Program) : Nat → TypeId → Option Ty
  | 0, _ => none
  | n + 1, t =>
    match P.underlying t with
    | some .bool => some .bool
    | some (.int k) => some (.int k)
    | some .string => some .str
    | some (.slice e) => if 0 < P.cellsOf e then (tyC P n e).map (.slice (P.cellsOf e)) else none
    | some (.struct fs) => (tyF (tyC P n) 0 fs.toList).bind fun Ts => if P.cellsOf t = Ty.sizes Ts then some (.struct Ts) else none
    | some (.array m e) => (tyC P n e).bind fun T => if P.cellsOf e = T.size ∧ P.cellsOf t = m * T.size then some (.arr m T) else none
    | _ => none
where
  tyF (f : TypeId → Option Ty) : Nat → List Field → Option (List Ty)
    | _, [] => some []
    | o, x :: r => (f x.type).bind fun T => if x.offset = o ∧ P.cellsOf x.type = T.size then (tyF f (o + T.size) r).map (T :: ·) else none

section
variable {H : Type} {enc : TypeId × Value → H} {P : Program} {w : World} {base : Nat} {spare : Nat → Bool} {held : Bool}

def Opens (w : World) (T : Ty) (cs : List Value) : Prop := ∃ ds, RelL (G0 w) ds cs ∧ (∀ c ∈ cs, c.oneCell' = true) ∧ T.has ds

theorem mapM_some {α β : Type} {f : α → Option β} : ∀ {l : List α} {r : List β}, l.mapM f = some r → r.length = l.length ∧ ∀ (i : Nat) (a : α), l[i]? = some a → f a = r[i]?
  | [], r, h => by simp at h; subst h; simp
  | a :: l, r, h => by
    simp only [List.mapM_cons, Option.pure_def, Option.bind_eq_bind, Option.bind_eq_some_iff, Option.some.injEq] at h
    obtain ⟨b, h1, bs, h2, rfl⟩ := h
    obtain ⟨h3, h4⟩ := mapM_some h2
    refine ⟨by simp [h3], fun i x hx => ?_⟩
    cases i with
    | zero => simp at hx; subst hx; simpa using h1
    | succ i => simpa using h4 i x (by simpa using hx)

theorem one_of {t : TypeId} {n : Nat} {T : Ty} : True := trivial

theorem take_app {α : Type} {l : List α} {o n m : Nat} (hn : (l.drop o).length = n + m) : (l.drop o) = (l.drop o).take n ++ l.drop (o + n) := by
  conv => lhs; rw [← List.take_append_drop n (l.drop o)]
  rw [List.drop_drop]

theorem opens_fields {cs : List Value} {r : TypeId → List Value → Prop} {f : TypeId → Option Ty} (hf : ∀ t T cs, f t = some T → r t cs → cs.length = T.size → Opens w T cs) :
    ∀ {fs : List Field} {o : Nat} {Ts : List Ty}, tyC.tyF P f o fs = some Ts → cs.length = o + Ty.sizes Ts →
      (∀ (i : Nat) (x : Field), fs[i]? = some x → r x.type ((cs.drop x.offset).take (P.cellsOf x.type))) →
      ∃ ds, RelL (G0 w) ds (cs.drop o) ∧ (∀ c ∈ cs.drop o, c.oneCell' = true) ∧ Ty.hasF Ts ds
  | [], o, Ts, h, hl, _ => by
    simp [tyC.tyF] at h; subst h
    simp [Ty.sizes] at hl
    have : cs.drop o = [] := by simp; omega
    rw [this]
    exact ⟨[], .nil, by simp, rfl⟩
  | x :: fs, o, Ts, h, hl, hr => by
    simp only [tyC.tyF, Option.bind_eq_some_iff] at h
    obtain ⟨T, h1, h2⟩ := h
    split at h2
    case isFalse => cases h2
    rename_i hx
    simp only [Option.map_eq_some_iff] at h2
    obtain ⟨Ts', h3, rfl⟩ := h2
    simp only [Ty.sizes] at hl
    have h4 := hr 0 x rfl
    rw [hx.1, hx.2] at h4
    obtain ⟨a, ra, oa, ha⟩ := hf _ T _ h1 h4 (by simp; omega)
    obtain ⟨b, rb, ob, hb⟩ := opens_fields hf h3 (by omega) (fun i y hy => hr (i + 1) y (by simpa using hy))
    have e : cs.drop o = (cs.drop o).take T.size ++ cs.drop (o + T.size) := take_app (m := Ty.sizes Ts') (by simp; omega)
    rw [e]
    refine ⟨a ++ b, ra.append rb, fun c hc => ?_, a, b, rfl, ha, hb⟩
    rcases List.mem_append.1 hc with hc | hc
    · exact oa c hc
    · exact ob c hc

theorem opens_rows {T : Ty} {k : Nat} : ∀ {n : Nat} {cs : List Value}, cs.length = n * k → (∀ i, i < n → Opens w T ((cs.drop (i * k)).take k)) →
      ∃ xs : List (List D), RelL (G0 w) xs.flatten cs ∧ (∀ c ∈ cs, c.oneCell' = true) ∧ xs.length = n ∧ ∀ x ∈ xs, x.length = k ∧ T.has x
  | 0, cs, hl, _ => by
    have : cs = [] := by simpa using hl
    subst this
    exact ⟨[], .nil, by simp, rfl, by simp⟩
  | n + 1, cs, hl, h => by
    obtain ⟨a, ra, oa, ha⟩ := h 0 (by omega)
    simp only [Nat.zero_mul, List.drop_zero] at ra oa
    have hk : k ≤ cs.length := by rw [hl, Nat.succ_mul]; omega
    obtain ⟨xs, rx, ox, hx, hh⟩ := opens_rows (T := T) (k := k) (n := n) (cs := cs.drop k) (by simp [hl, Nat.succ_mul]) (fun i hi => by
      have := h (i + 1) (by omega)
      rw [List.drop_drop]
      rwa [show (i + 1) * k = k + i * k by rw [Nat.succ_mul]; omega] at this)
    refine ⟨a :: xs, ?_, ?_, by simp [hx], ?_⟩
    · have := ra.append rx
      rwa [List.take_append_drop] at this
    · intro c hc
      rw [← List.take_append_drop k cs] at hc
      rcases List.mem_append.1 hc with hc | hc
      · exact oa c hc
      · exact ox c hc
    · intro x hx'
      rcases List.mem_cons.1 hx' with rfl | hx'
      · exact ⟨by rw [ra.length]; simp; omega, ha⟩
      · exact hh x hx'

theorem addAdd (a : Addr) (m n : Nat) : (a.add m).add n = a.add (m + n) := by
  obtain ⟨b, o, s⟩ := a
  simp only [Addr.add]
  by_cases hm : m = 0 <;> by_cases hn : n = 0 <;> simp [hm, hn, Nat.add_assoc]

theorem addN (b o n : Nat) : (⟨b, o, none⟩ : Addr).add n = ⟨b, o + n, none⟩ := by
  simp only [Addr.add]
  split <;> simp_all

theorem cells?_some {a : Addr} {n : Nat} {vs : List Value} (h : w.cells? base a n = some vs) : vs.length = n ∧ ∀ i, i < n → w.cell? (a.add i) = vs[i]? := by
  simp only [World.cells?] at h
  split at h
  case isFalse => cases h
  obtain ⟨h1, h2⟩ := mapM_some h
  refine ⟨by simpa using h1, fun i hi => h2 i i (by simp [List.getElem?_range, hi])⟩

theorem opens : ∀ {m : Nat} {t : TypeId} {T : Ty} {fuel : Nat} {cs : List Value} {x : DataW H × List MemPlace}, tyC P m t = some T → DataW.trod enc P w base spare held fuel t cs = some x → Opens w T cs
  | 0, _, _, _, _, _, h, _ => by simp [tyC] at h
  | m + 1, t, T, fuel, cs, x, h, hd => by
    simp only [tyC] at h
    split at h
    · rename_i ht; cases h
      obtain ⟨b, rfl, _⟩ := DataW.trod_bool ht hd
      exact ⟨[.bool b], .cons _ _ _ _ (.bool b) .nil, by simp [Value.oneCell'], b, rfl⟩
    · rename_i k ht; cases h
      obtain ⟨n, rfl, _, hw⟩ := DataW.trod_int ht hd
      exact ⟨[.int k n], .cons _ _ _ _ (.int k n) .nil, by simp [Value.oneCell'], n, rfl, hw⟩
    · rename_i ht; cases h
      obtain ⟨s, rfl, _, hs⟩ := DataW.trod_string ht hd
      exact ⟨[.str s.data.toList], .cons _ _ _ _ (.str s) .nil, by simp [Value.oneCell'], _, rfl, by simpa using hs⟩
    · rename_i e ht
      split at h
      case isFalse => cases h
      rename_i hw
      simp only [Option.map_eq_some_iff] at h
      obtain ⟨E, hE, rfl⟩ := h
      rcases DataW.trod_slice ht hd with ⟨rfl, _⟩ | ⟨a, len, cap, elems, rest, n, _, rfl, _, _, hl, hm, hel, he, _, _⟩
      · exact ⟨[.lst 0 []], .cons _ _ _ _ .lstn .nil, by simp [Value.oneCell'], [], rfl, by simp, by simp⟩
      · have hget : ∀ i, i < len → ∃ vs y, w.cells? base (a.add (i * P.cellsOf e)) (P.cellsOf e) = some vs ∧ DataW.trod enc P w base spare held n e vs = some y := by
          intro i hi
          have := he i hi
          rw [List.getElem?_eq_getElem (by omega)] at this
          simp only [Option.bind_eq_some_iff] at this
          obtain ⟨vs, h1, h2⟩ := this
          exact ⟨vs, _, h1, h2⟩
        have hcell : ∀ j, j < len * P.cellsOf e → ∃ v, w.cell? (a.add j) = some v := by
          intro j hj
          have hi : j / P.cellsOf e < len := Nat.div_lt_of_lt_mul (by rwa [Nat.mul_comm])
          obtain ⟨vs, y, h1, _⟩ := hget _ hi
          obtain ⟨h3, h4⟩ := cells?_some h1
          have := h4 (j % P.cellsOf e) (Nat.mod_lt _ hw)
          rw [show (a.add (j / P.cellsOf e * P.cellsOf e)).add (j % P.cellsOf e) = a.add j by
            rw [addAdd, Nat.div_add_mod']] at this
          rw [List.getElem?_eq_getElem (by rw [h3]; exact Nat.mod_lt _ hw)] at this
          exact ⟨_, this⟩
        let vs : List Value := (List.range (len * P.cellsOf e)).map fun j => (w.cell? (a.add j)).getD Go.undef
        have hvl : vs.length = len * P.cellsOf e := by simp [vs]
        have hvg : ∀ j, j < len * P.cellsOf e → w.cell? (a.add j) = vs[j]? := by
          intro j hj
          obtain ⟨v, hv⟩ := hcell j hj
          simp [vs, List.getElem?_range, hj, hv]
        obtain ⟨xs, rx, ox, hx, hh⟩ := opens_rows (w := w) (T := E) (k := P.cellsOf e) (n := len) (cs := vs) hvl (fun i hi => by
          obtain ⟨us, y, h1, h2⟩ := hget i hi
          obtain ⟨h3, h4⟩ := cells?_some h1
          have : (vs.drop (i * P.cellsOf e)).take (P.cellsOf e) = us := by
            apply List.ext_getElem?
            intro j
            have hlt : (i + 1) * P.cellsOf e ≤ len * P.cellsOf e := Nat.mul_le_mul_right _ hi
            rw [Nat.succ_mul] at hlt
            by_cases hj : j < P.cellsOf e
            · rw [List.getElem?_take_of_lt hj, List.getElem?_drop, ← hvg _ (by omega), ← h4 j hj]
              rw [addAdd]
            · rw [List.getElem?_eq_none (by simp; omega), List.getElem?_eq_none (by omega)]
          rw [this]
          exact opens hE h2)
        have hsp : len ≠ 0 → a.spot = none := by
          intro h0
          obtain ⟨v, hv⟩ := hcell 0 (Nat.mul_pos (by omega) hw)
          simpa [Addr.add] using World.cell?_spot hv
        refine ⟨[.lst xs.length xs.flatten], .cons _ _ _ _ ?_ .nil, by simp [Value.oneCell'], xs, rfl, by omega, hh⟩
        rw [hx]
        refine .lst _ _ a cap vs hl ?_ hsp rx
        intro j v hj
        have hlt : j < vs.length := (List.getElem?_eq_some_iff.1 hj).1
        have h0 : len ≠ 0 := by rintro rfl; simp at hvl; simp [hvl] at hlt
        refine G0_imm.2 ⟨?_, ox v (List.mem_of_getElem? hj)⟩
        have := hvg j (by omega)
        rw [hj] at this
        have hs := hsp h0
        obtain ⟨b, o, s⟩ := a
        dsimp only at hs
        subst hs
        rwa [addN] at this
    · rename_i fs ht
      simp only [Option.bind_eq_some_iff] at h
      obtain ⟨Ts, hT, h2⟩ := h
      split at h2
      case isFalse => cases h2
      rename_i hsz
      cases h2
      obtain ⟨xs, n, _, _, hl, hlen, hf⟩ := DataW.trod_struct ht hd
      have := opens_fields (w := w) (cs := cs) (P := P) (r := fun t cs => ∃ y, DataW.trod enc P w base spare held n t cs = some y) (f := tyC P m) (fun t T cs h1 ⟨y, h2⟩ _ => opens h1 h2) hT (by omega) (fun i x hx => by
        have h3 := hf i x (by simpa using hx)
        rw [List.getElem?_eq_getElem (by rw [hlen]; have := (List.getElem?_eq_some_iff.1 hx).1; simpa using this)] at h3
        exact ⟨_, h3⟩)
      simpa [Opens, Ty.has] using this
    · rename_i n e ht
      simp only [Option.bind_eq_some_iff] at h
      obtain ⟨E, hE, h2⟩ := h
      split at h2
      case isFalse => cases h2
      rename_i hsz
      cases h2
      obtain ⟨xs, k, _, _, hl, hlen, hf⟩ := DataW.trod_array ht hd
      obtain ⟨ys, ry, oy, hy, hh⟩ := opens_rows (w := w) (T := E) (k := E.size) (n := n) (cs := cs) (by omega) (fun i hi => by
        have h3 := hf i hi
        rw [List.getElem?_eq_getElem (by omega), hsz.1] at h3
        exact opens hE h3)
      exact ⟨_, ry, oy, ys, rfl, hy, hh⟩
    · cases h

theorem open_val {m : Nat} {t : TypeId} {T : Ty} {r : Reach} {b0 : Nat} {v : Value} {d : DataW H} {ps : List MemPlace} (h : tyC P m t = some T) (hval : Value.okWide P w r b0 t v)
    (hd : DataW.Trod enc P w base spare held t v d ps) : ∃ x, RelV (G0 w) x v ∧ T.hasV x := by
  obtain ⟨fuel, hf⟩ := hd
  have ho := opens h hf
  obtain ⟨ds, hr, h1, hh⟩ := ho
  cases m with
  | zero => simp [tyC] at h
  | succ m =>
  simp only [tyC] at h
  split at h
  · rename_i ht; cases h
    obtain ⟨b, rfl⟩ := okWide_bool ht hval
    obtain ⟨b', rfl⟩ := hh
    simp only [Value.cells] at hr
    cases hr with | cons _ _ _ _ h3 h4 => exact ⟨_, h3, _, rfl⟩
  · rename_i k ht; cases h
    obtain ⟨n, rfl⟩ := okWide_int ht hval
    obtain ⟨n', rfl, hw⟩ := hh
    simp only [Value.cells] at hr
    cases hr with | cons _ _ _ _ h3 h4 => exact ⟨_, h3, _, rfl, hw⟩
  · rename_i ht; cases h
    obtain ⟨s, rfl⟩ := okWide_string ht hval
    obtain ⟨s', rfl, hs⟩ := hh
    simp only [Value.cells] at hr
    cases hr with | cons _ _ _ _ h3 h4 => exact ⟨_, h3, _, rfl, hs⟩
  · rename_i e ht
    split at h
    case isFalse => cases h
    simp only [Option.map_eq_some_iff] at h
    obtain ⟨E, hE, rfl⟩ := h
    obtain ⟨a, l, c, rfl⟩ := okWide_slice ht hval
    obtain ⟨xs, rfl, hs⟩ := hh
    simp only [Value.cells] at hr
    cases hr with | cons _ _ _ _ h3 h4 => exact ⟨_, h3, xs, rfl, hs⟩
  · rename_i fs ht
    simp only [Option.bind_eq_some_iff] at h
    obtain ⟨Ts, hT, h2⟩ := h
    split at h2
    case isFalse => cases h2
    cases h2
    obtain ⟨cs, rfl, _⟩ := okWide_struct ht hval
    exact ⟨.agg ds, .agg _ _ hr h1, ds, rfl, hh⟩
  · rename_i n e ht
    simp only [Option.bind_eq_some_iff] at h
    obtain ⟨E, hE, h2⟩ := h
    split at h2
    case isFalse => cases h2
    cases h2
    simp only [Value.okWide, ht] at hval
    obtain ⟨cs, rfl, _⟩ := hval
    exact ⟨.agg ds, .agg _ _ hr h1, ds, rfl, hh⟩
  · cases h
end

end Go.Abs
