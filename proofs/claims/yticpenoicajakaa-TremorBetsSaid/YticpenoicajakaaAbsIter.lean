/-
  Loops over functions: rounds.
-/
import Derived.Test.YticpenoicajakaaAbsGen
set_option linter.unusedVariables false
set_option linter.unusedSimpArgs false
namespace Go.Abs
open Go

variable {T : Tbl}

/-- A call, by its code; the store behind it may be another. -/
theorem call_to {f : Nat} {fn : Fn} {args : List D} {σ σ' : Stack} {d : D} {np : Nat} {res : List Res} {body : Cmd} (hT : T f = some fn) (hf : fn = ⟨np, res, body⟩) (hl : args.length = np) (hs : σ'.length = σ.length)
    (h : WC (lim T) body (mkEnv 0 args) ([] :: σ) (endC σ' res d)) :
    lim T (.call false f args σ) = some (.val d σ') := by
  subst hf
  obtain ⟨x, e1, σ1, h1, h2, ds, h3, s, h4⟩ := h
  refine lim_step ?_
  rw [hs, deep_def] at h4
  simp only [stepQ, hT, if_pos hl, Bool.false_eq_true, if_false, h1]
  cases x with
  | exit i => exact absurd rfl (h2 i)
  | normal => simp [h3, h4]
  | ret => simp [h3, h4]

/-- A call that is kept in its caller's segment. -/
theorem call_kp {f : Nat} {fn : Fn} {args : List D} {σ σ' : Stack} {d : D} {np : Nat} {res : List Res} {body : Cmd} (hT : T f = some fn) (hf : fn = ⟨np, res, body⟩) (hl : args.length = np)
    (h : WC (lim T) body (mkEnv 0 args) σ fun x e σ1 => (∀ i, x ≠ .exit i) ∧ (resL e σ1 res).map mkRes = some d ∧ σ1 = σ') :
    lim T (.call true f args σ) = some (.val d σ') := by
  subst hf
  obtain ⟨x, e1, σ1, h1, h2, h3, rfl⟩ := h
  refine lim_step ?_
  simp only [Option.map_eq_some_iff] at h3
  obtain ⟨ds, h3, rfl⟩ := h3
  simp only [stepQ, hT, if_pos hl, if_true, h1]
  cases x with
  | exit i => exact absurd rfl (h2 i)
  | normal => simp [h3]
  | ret => simp [h3]

/-- Rounds of a loop, one for each element, up to one that stops (false). -/
inductive Rounds (T : Tbl) (l i : Nat) {α : Type} (f : α → List D) : List α → Stack → Bool → Stack → Prop
  | nil (σ : Stack) : Rounds T l i f [] σ true σ
  | go (a : α) (as : List α) (σ σ1 σ2 : Stack) (b : Bool) : lim T (.round l i (f a) σ) = some (.val (.bool true) σ1) → Rounds T l i f as σ1 b σ2 → Rounds T l i f (a :: as) σ b σ2
  | stop (a : α) (as : List α) (σ σ1 : Stack) : lim T (.round l i (f a) σ) = some (.val (.bool false) σ1) → Rounds T l i f (a :: as) σ false σ1

theorem Rounds.split {l i : Nat} {α : Type} {f : α → List D} : ∀ {as bs : List α} {σ σ' : Stack} {b : Bool}, Rounds T l i f (as ++ bs) σ b σ' →
    (∃ σ1, Rounds T l i f as σ true σ1 ∧ Rounds T l i f bs σ1 b σ') ∨ (b = false ∧ Rounds T l i f as σ false σ')
  | [], bs, σ, σ', b, h => .inl ⟨σ, .nil σ, h⟩
  | a :: as, bs, σ, σ', b, h => by
    cases h with
    | go _ _ _ σ1 _ _ h1 h2 =>
      rcases Rounds.split h2 with ⟨σ3, h3, h4⟩ | ⟨rfl, h3⟩
      · exact .inl ⟨σ3, .go _ _ _ _ _ _ h1 h3, h4⟩
      · exact .inr ⟨rfl, .go _ _ _ _ _ _ h1 h3⟩
    | stop _ _ _ _ h1 => exact .inr ⟨rfl, .stop _ _ _ _ h1⟩

/-- A loop over a function. -/
theorem WC_rngf {live : List Nat} {fo : Opd} {params : List Nat} {asg body : Cmd} {e : Env} {s : List Blk} {σ σ2 : Stack} {Q : Exit → Env → Stack → Prop} {g : Nat} {first cap : List D} {d : D} {lp : LoopSt}
    (hf : opd e fo = .fn g first cap)
    (hc : lim T (.call false g (first ++ [.yld σ.length s.length] ++ cap) ((s ++ [.loop { state := 0, pend := none, env := strips live e, params, asg, body }]) :: σ)) = some (.val d σ2))
    (hb : blk? σ2 σ.length s.length = some (.loop lp)) (hs : lp.state ≠ 1)
    (hq : Q (lp.pend.getD .normal) (restrict live e) (setBlk σ2 σ.length s.length (.loop { lp with state := 3 }))) :
    WC (lim T) (.rngf live fo params asg body) e (s :: σ) Q := by
  refine ⟨_, _, _, ?_, hq⟩
  simp only [acode, newBlk, hf, callf, hc, R.vals, hb, if_neg hs]

def loopOf : Option Blk → Option LoopSt
  | some (.loop lp) => some lp
  | _ => none
@[simp] theorem loopOf_loop {lp : LoopSt} : loopOf (some (.loop lp)) = some lp := by_rfl rfl
theorem loopOf_some {o : Option Blk} {lp : LoopSt} (h : loopOf o = some lp) : o = some (.loop lp) := by
  cases o with
  | none => cases h
  | some b => cases b <;> cases h; rfl

/-- At a round's end. -/
def endR (l i : Nat) (b : Bool) (σ' : Stack) (x : Exit) (σ2 : Stack) : Prop :=
  match x with
  | .normal => WD (loopOf (blk? σ2.tail l i)) fun lp2 => setBlk σ2.tail l i (.loop { lp2 with state := 0, pend := none }) = σ' ∧ b = true
  | x => WD (loopOf (blk? σ2.tail l i)) fun lp2 => setBlk σ2.tail l i (.loop { lp2 with state := 2, pend := some x }) = σ' ∧ b = false
@[simp] theorem endR_normal {l i : Nat} {b : Bool} {σ' : Stack} {s2 : List Blk} {σ3 : Stack} : endR l i b σ' .normal (s2 :: σ3) = WD (loopOf (blk? σ3 l i)) fun lp2 => setBlk σ3 l i (.loop { lp2 with state := 0, pend := none }) = σ' ∧ b = true := by_rfl rfl
@[simp] theorem endR_ret {l i : Nat} {b : Bool} {σ' : Stack} {s2 : List Blk} {σ3 : Stack} : endR l i b σ' .ret (s2 :: σ3) = WD (loopOf (blk? σ3 l i)) fun lp2 => setBlk σ3 l i (.loop { lp2 with state := 2, pend := some .ret }) = σ' ∧ b = false := by_rfl rfl
@[simp] theorem endR_exit {l i j : Nat} {b : Bool} {σ' : Stack} {s2 : List Blk} {σ3 : Stack} : endR l i b σ' (.exit j) (s2 :: σ3) = WD (loopOf (blk? σ3 l i)) fun lp2 => setBlk σ3 l i (.loop { lp2 with state := 2, pend := some (.exit j) }) = σ' ∧ b = false := by_rfl rfl

/-- Between a round's variables and its body. -/
def midR (T : Tbl) (l i : Nat) (b : Bool) (σ' : Stack) (n : Nat) (body : Cmd) (x : Exit) (e1 : Env) (σ1 : Stack) (_m : Mark body := .mk) : Prop :=
  x = .normal ∧ WD (loopOf (blk? σ1 l i)) fun lp1 => lp1.state = 0 ∧ WC (lim T) body e1 (setBlk σ1 l i (.loop { lp1 with state := 1 })) fun x _ σ2 => σ2.length = n ∧ endR l i b σ' x σ2

/-- A round. -/
theorem round_of {l i : Nat} {args : List D} {σ σ' : Stack} {b : Bool} {lp : LoopSt} (hb : blk? σ l i = some (.loop lp)) (hl : args.length = lp.params.length)
    (h : WC (lim T) lp.asg (putAll lp.params args lp.env) ([] :: σ) (midR T l i b σ' (σ.length + 1) lp.body)) :
    lim T (.round l i args σ) = some (.val (.bool b) σ') := by
  obtain ⟨x, e1, σ1, h1, rfl, lp1, h2, h3, x2, e2, σ2, h4, hlen, h6⟩ := h
  have h2 := loopOf_some h2
  cases σ2 with
  | nil => simp at hlen
  | cons s2 σ3 =>
  refine lim_step ?_
  simp only [stepQ, hb, if_pos hl, h1, h2, if_pos h3, h4]
  cases x2 with
  | normal => obtain ⟨lp2, h5, h6, rfl⟩ := h6; have h5 := loopOf_some h5; dsimp only [List.tail] at h5 h6 ⊢; rw [h5]; dsimp only; rw [h6]
  | exit j => obtain ⟨lp2, h5, h6, rfl⟩ := h6; have h5 := loopOf_some h5; dsimp only [List.tail] at h5 h6 ⊢; rw [h5]; dsimp only; rw [h6]
  | ret => obtain ⟨lp2, h5, h6, rfl⟩ := h6; have h5 := loopOf_some h5; dsimp only [List.tail] at h5 h6 ⊢; rw [h5]; dsimp only; rw [h6]

@[simp] theorem putAll_cons {t : Nat} {ts : List Nat} {d : D} {ds : List D} {e : Env} : putAll (t :: ts) (d :: ds) e = putAll ts ds ((t, d) :: e) := by_rfl rfl
@[simp] theorem putAll_nil {ds : List D} {e : Env} : putAll [] ds e = e := by_rfl (by cases ds <;> rfl)
@[simp] theorem strips_nil {e : Env} : strips [] e = [] := by_rfl rfl
@[simp] theorem strips_cons {t : Nat} {l : List Nat} {e : Env} : strips (t :: l) e = (t, (get e t).strip) :: strips l e := by_rfl rfl

end Go.Abs
