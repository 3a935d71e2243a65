/- The interpreter, part 3: proved sound against the model. -/
import Derived.Test.YtfgljaglidhjiaaGreatDoorBase2
import Derived.Test.YtfgljaglidhjiaaGreatDoorBase0
import Derived.Below
import Derived.Test.YtfgljaglidhjiaaGreatDoorBase1
import Derived.Lib.AtoiAllMem
import Derived.Lib.SplitLaws
import Derived.Lib.Join
import Derived.Lib.LaidTab
/-
  One step of the whole is sound, if what it asks is.
-/
set_option linter.unusedVariables false
set_option linter.unusedSimpArgs false
namespace Go.Abs
open Go

def FnOk (P : Program) (f : Nat) (fn : Fn) : Prop := ∃ F c ann, P.funcs[f]? = some F ∧ F.name ≠ "runtime.NumGoroutine" ∧ F.body = some c ∧ fnC P ann F = some fn
def TOk (P : Program) (T : Tbl) : Prop :=
  ∀ f fn, T f = some fn → if f < 1000000 then FnOk P f fn else fn.body = .exit 0 ∧ NatC P (CR0 P) fn.npar (f - 1000000)

theorem get_mkEnv {args : List D} : ∀ {k t : Nat}, get (mkEnv k args) t = if k ≤ t then (args[t - k]?).getD .undef else .undef := by
  induction args with
  | nil => intro k t; simp [mkEnv, get]
  | cons d ds ih =>
    intro k t
    simp only [mkEnv, get, ih]
    by_cases h : k = t
    · subst h; simp
    · rw [if_neg h]
      by_cases h2 : k ≤ t
      · rw [if_pos h2, if_pos (by omega), show t - k = (t - (k + 1)) + 1 from by omega, List.getElem?_cons_succ]
      · rw [if_neg h2, if_neg (by omega)]

theorem fnC_inv {P : Program} {ann : Ann} {F : Func} {c : Code} {fn : Fn} (hb : F.body = some c) (h : fnC P ann F = some fn) :
    codeC P ann F.ntmps 0 c = some fn.body ∧ ressC P ann F.results.toList = some fn.res ∧ fn.npar ≤ F.ntmps := by
  unfold fnC at h
  rw [hb] at h
  dsimp only at h
  split at h
  case h_2 => cases h
  rename_i c' rs h1 h2
  simp only [Option.ite_none_right_eq_some] at h
  obtain ⟨h3, h⟩ := h
  cases h
  exact ⟨h1, h2, h3⟩

section
variable {P : Program} {T : Tbl} {O : Oracle}

theorem enter_at {f : Nat} {F : Func} {c : Code} (V : List Nat) {args : List D} (kd : CallKind) (hF : P.funcs[f]? = some F) (hbody : F.body = some c) (hlen : args.length ≤ F.ntmps)
    {base : Nat} {g : G} {w : World} {vs : Array Value} {σ : Stack} (hi : Inv (CR0 P) base g σ w) (hl : LowS σ) (hp : 0 < σ.length) (hr : RelL g args vs.toList) :
    ∃ b a, Frame.enter P f vs kd = b.atR a [.code c] ∧ b.defers = [] ∧ b.fn = f ∧ b.kind = kd ∧ b.roundOf = none ∧ At (CR0 P) base V g w F.ntmps b g w (fun _ => 0) (mkEnv 0 args) σ a := by
  have hsz : vs.size = args.length := by have := hr.length; simpa using this.symm
  let b : Frame := Frame.enter P f vs kd
  let a : Act := ⟨vs ++ Array.replicate (F.ntmps - vs.size) Go.undef, []⟩
  have hfr : Frame.enter P f vs kd = b.atR a [.code c] := by
    simp [b, a, Frame.enter, Frame.atR, hF, hbody]
  have hrel : ∀ t, RelV g (get (mkEnv 0 args) t) (a.tmps.getD t Go.undef) := by
    intro t
    rw [get_mkEnv, if_pos (Nat.zero_le _), Nat.sub_zero]
    cases ht : args[t]? with
    | none => exact .undef _
    | some d =>
      obtain ⟨c0, hc0, hrc⟩ := hr.get ht
      have hlt : t < vs.size := by have := (List.getElem?_eq_some_iff.1 ht).1; omega
      have : a.tmps.getD t Go.undef = c0 := by
        simp only [a, Array.getD_eq_getD_getElem?]
        rw [Array.getElem?_append_left hlt]
        simp at hc0
        rw [hc0]; rfl
      rw [this]; exact hrc
  have hno : ∀ t s cs, get (mkEnv 0 args) t ≠ .own s cs := fun t s cs => not_own (hrel t) s cs
  refine ⟨b, a, hfr, rfl, rfl, rfl, rfl, ⟨⟨fun t => ?_, fun t s cs ht => absurd ht (hno t s cs), fun t t' s s' cs cs' ht => absurd ht (hno t s cs)⟩, Ev.refl g w, hi, hl, hp, ?_, ⟨[], rfl, List.nodup_nil, by simp [colls, b, Frame.enter]⟩, .inl rfl⟩⟩
  · have := hrel t
    cases hd : get (mkEnv 0 args) t with
    | own s cs => trivial
    | vr => rw [hd] at this; cases this
    | emp => rw [hd] at this; cases this
    | _ => rw [hd] at this; exact this
  · simp only [a, Array.size_append, Array.size_replicate]; omega

def FallsX (g : G) : Exit → FrameMode → Prop
  | .thr d, u => Falls g (some d) u ∧ d.clean = true
  | _, u => u = .returning

theorem out_ok {ann : Ann} {base n : Nat} {g0 g1 : G} {w0 w1 : World} {b : Frame} {B : Nat → Nat} {e : Env} {σ : Stack} {a : Act} {cs : List Frame} {x : Exit} {todo : List Item}
    (hro : b.roundOf = none) (hL : Lands [] x todo) (hne : ∀ id, x ≠ .exit id) (ha : At (CR0 P) base ann.ownv g0 w0 n b g1 w1 B e σ a) {fr : Frame} {w : World} (start : Frame) (hs : Outs (fun fr => Steps P (lone start cs w) (lone fr cs w1)) g1 b a todo x) :
    ∃ w2 u, Steps P (lone start cs w) (lone { b.atR a todo with mode := u, defers := b.defers } cs w2) ∧ FallsX g1 x u ∧
      Fr w0.heap.size ann.ownv g1 w2 B e a.tmps ∧ Ev g0 w0 g1 w2 ∧ Inv (CR0 P) base g1 σ w2 ∧ (∀ r ∈ colls b.defers, MarkB w0.heap.size g1 w2 r) := by
  obtain ⟨rs, hmk⟩ := ha.marks
  have fin : ∀ u : FrameMode, u ≠ .run → Steps P (lone start cs w) (lone { b.atR a todo with mode := u } cs w1) →
      ∃ w2, Steps P (lone start cs w) (lone { b.atR a todo with mode := u, defers := b.defers } cs w2) ∧
      Fr w0.heap.size ann.ownv g1 w2 B e a.tmps ∧ Ev g0 w0 g1 w2 ∧ Inv (CR0 P) base g1 σ w2 ∧ (∀ r ∈ colls b.defers, MarkB w0.heap.size g1 w2 r) := by
    intro u hu hst
    obtain ⟨w2, u1, u2, u3, u4, u5⟩ := unmark (P := P) (df0 := b.defers) rs w1 g1 a { b.atR a todo with mode := u } cs hu hmk.eq hmk.nodup hmk.all ha.fr ha.ev ha.inv
    exact ⟨w2, .trans hst u1, u2, u3, u4, u5⟩
  cases x with
  | exit id => exact absurd rfl (hne id)
  | normal =>
    obtain rfl := hL
    obtain ⟨w2, k⟩ := fin .returning (by simp) (Steps.trans hs (.one (stepR_end hro)))
    exact ⟨w2, .returning, k.1, rfl, k.2⟩
  | ret =>
    obtain ⟨k', rfl⟩ := hL
    obtain ⟨w2, k⟩ := fin .returning (by simp) (Steps.trans hs (.one (stepR_ret hro)))
    exact ⟨w2, .returning, k.1, rfl, k.2⟩
  | thr d =>
    obtain ⟨hcl, v, hr, hs⟩ := hs
    obtain ⟨w2, k⟩ := fin (.panicking [{ v, recovered := false }]) (by simp) hs
    exact ⟨w2, _, k.1, ⟨⟨v, hr, rfl⟩, hcl⟩, k.2⟩

theorem dfrC_inv {x : Code} {f : Opd} {xs : List Opd} (h : dfrC x = some (f, xs)) : ∃ id ops o fo args ts, x = .region id ops false ∧ ops.toList = [o] ∧ o.op = .defer { callee := .value fo, args, argTypes := ts } ∧ o.dst = none ∧ o.guard = none ∧ opdC fo = some f ∧ opdsC args.toList = some xs := by
  unfold dfrC at h
  split at h
  case h_2 => cases h
  rename_i id ops
  split at h
  case h_2 => cases h
  rename_i o ho
  split at h
  case h_2 => cases h
  rename_i c h1 h2 h3
  obtain ⟨callee, args, ts⟩ := c
  dsimp only at h
  split at h
  case h_2 => cases h
  rename_i fo
  split at h
  case h_2 => cases h
  rename_i h4 h5
  cases h
  exact ⟨id, ops, o, fo, args, ts, rfl, ho, h1, h2, h3, h4, h5⟩

theorem split_reg {ann : Ann} {n id : Nat} {ops : Array Oper} {draw : Bool} {c : Cmd} (h : regC P ann n id ops draw = some c) : splitT c = none := by
  unfold regC at h
  split at h
  · dsimp only at h
    split at h
    · split at h
      · cases h
        unfold cutC
        split
        · split <;> rfl
        · rfl
      · cases h
    · cases h
  · obtain ⟨xs, _, rfl⟩ := Option.map_eq_some_iff.1 h
    unfold cutC
    split
    · split <;> rfl
    · rfl

theorem split_ok (hm : P.follows .mixedOrders = true) (hO : OrOk P (CR0 P) O) {ann : Ann} {n blk base : Nat} {g0 : G} {w0 : World} {b : Frame} {cs : List Frame} (hro : b.roundOf = none) : ∀ (code : Code) {c A q : Cmd} {fo : Opd} {as : List Opd} {e e1 : Env} {σ σ1 : Stack} {g : G} {w : World} {B : Nat → Nat} {a : Act} {k : List Item} {fi : Nat} {first cap : List D},
    codeC P ann n blk code = some c → splitT c = some (A, fo, as, q) → acode O A e σ = some (.normal, e1, σ1) → At (CR0 P) base ann.ownv g0 w0 n b g w B e σ a → opd e1 fo = .fn fi first cap →
    ∃ g1 w1 B1 a1 q0 first' cap' argv, Steps P (lone (b.atR a (.code code :: k)) cs w) (lone (b.atR { a1 with defers := { target := .fn (.func fi) cap', args := first' ++ argv } :: a1.defers } (.code q0 :: k)) cs w1) ∧
      At (CR0 P) base ann.ownv g0 w0 n b g1 w1 B1 e1 σ1 a1 ∧ codeC P ann n blk q0 = some q ∧ g.le g1 ∧ Goes σ σ1 ∧ RelL g1 first first'.toList ∧ RelL g1 cap cap'.toList ∧ RelL g1 (as.map (opd e1)) argv.toList := by
  intro code
  induction code with
  | seq x y ihx ihy =>
    intro c A q fo as e e1 σ σ1 g w B a k fi first cap hc hsp h ha hfe
    simp only [codeC] at hc
    split at hc
    case h_2 => cases hc
    rename_i x' y' h1 h2
    cases hc
    rcases seqC_cases ann x x' y' with ⟨f, xs, h3, h4⟩ | ⟨_, p0, bid, l0, p1, live, it, nx, ok, bb, c0, rfl, rfl, h4⟩ | ⟨_, h4⟩ | ⟨_, live, op, f, xs, hM, h4⟩
    rotate_left 3
    · rw [h4] at hsp
      simp only [splitT, Option.map_some, Option.some.injEq, Prod.mk.injEq] at hsp
      obtain ⟨rfl, rfl, rfl, rfl⟩ := hsp
      simp only [acode, Option.bind_eq_some_iff, Option.map_eq_some_iff, Prod.exists] at h
      obtain ⟨_, e9, σ9, ⟨e8, σ8, h8, h9⟩, h⟩ := h
      cases h9
      cases h
      obtain ⟨id, ops, m, o, fc, args, ts, op', live', rfl, hops, ho, hd, hg, hf, hxs, hop, _, hc'⟩ := dfrM_inv hM
      cases hc'
      have ho0 : ops[0]? = some m := by
        have := congrArg (·[0]?) hops
        simpa using this
      have ho1 : ops[1]? = some o := by
        have := congrArg (·[1]?) hops
        simpa using this
      have hsize : ops.size = 2 := by
        have := congrArg List.length hops
        simpa using this
      obtain ⟨g1, w1, B1, a1, k1, k2, k3, k4⟩ := ops_okR (k := .code y :: k) (cs := cs) (tl := [1]) hO _ _ _ _ _ _ _ _ (All2.cons ⟨m, false, ho0, hop⟩ .nil : All2 (OpAt P ann n id ops) [0] [op]) h8 ha
      have ha2 := k2.restrict live
      obtain ⟨tmps, df⟩ := a1
      have hfv := ha2.fr.opd (df := df) hf
      have hargs := opsC_map (df := df) ha2.fr hxs
      rw [hfe] at hfv
      generalize hev : (Act.mk tmps df).eval fc = fv at hfv
      cases hfv with
      | fn _ _ _ first' cap' r1 r2 =>
        have hw : Region.wanted o (yielded ops tmps) = true := by simp [Region.wanted, hg]
        have hres : (resolve (Act.mk tmps df).eval { callee := .value fc, args, argTypes := ts } o.type).run P w1 = .ok { target := .fn (.func fi) cap', args := first' ++ args.map (Act.mk tmps df).eval } w1 := run_resolve_value hev w1
        have hstep : step P (lone (b.atR ⟨tmps, df⟩ (.inRegion ops [1] :: .code y :: k)) cs w1) = .next (lone (b.atR ⟨tmps, { target := .fn (.func fi) cap', args := first' ++ args.map (Act.mk tmps df).eval } :: df⟩ (.inRegion ops [] :: .code y :: k)) cs w1) := by
          have hgs := stepGR_op (P := P) (b := b) (a := ⟨tmps, df⟩) (k := .code y :: k) (cs := cs) (w := w1) (rest := []) ho1 hw
          rw [hro, Oper.semAt_none] at hgs
          have hr : (execOp (Act.mk tmps df).eval o).run P w1 = .ok (.defer { target := .fn (.func fi) cap', args := first' ++ args.map (Act.mk tmps df).eval }) w1 := by
            simp only [execOp, ho, Sem.run_bind, hres, Result.andThen_ok, Sem.run_pure]
          refine step_lone_go ?_
          rw [hgs]
          have hfin : ({ b.atR ⟨tmps, df⟩ (.inRegion ops [1] :: .code y :: k) with defers := { target := .fn (.func fi) cap', args := first' ++ args.map (Act.mk tmps df).eval } :: df } : Frame).finish Go.undef =
              b.atR ⟨tmps, { target := .fn (.func fi) cap', args := first' ++ args.map (Act.mk tmps df).eval } :: df⟩ (.inRegion ops [] :: .code y :: k) := by
            have := Frame.finish_atR b ⟨tmps, { target := .fn (.func fi) cap', args := first' ++ args.map (Act.mk tmps df).eval } :: df⟩ ops 1 [] (.code y :: k) Go.undef
            rw [ho1] at this
            simp only [Option.bind_some, hd, Act.put] at this
            exact this
          simp only [stepG.apply, Sem.runT_eq, hr, GStep.bare_after]
          exact congrArg (fun fr => GStep.go { frame := fr, callers := cs, status := .running, dying := none } w1) hfin
        refine ⟨g1, w1, B1, ⟨tmps, df⟩, y, first', cap', args.map (Act.mk tmps df).eval, .head stepR_seq (.head stepR_region (.trans ?_ (.head hstep (.one (stepR_region_end (ops := ops)))))), ha2, h2, k3, k4, r1, r2, hargs⟩
        rw [hsize]
        exact k1
    · rw [h4] at hsp
      simp only [splitT, Option.some.injEq, Prod.mk.injEq] at hsp
      obtain ⟨rfl, rfl, rfl, rfl⟩ := hsp
      simp only [acode, Option.some.injEq, Prod.mk.injEq, true_and] at h
      obtain ⟨rfl, rfl⟩ := h
      obtain ⟨id, ops, o, fc, args, ts, rfl, hops, ho, hd, hg, hf, hxs⟩ := dfrC_inv h3
      obtain ⟨tmps, df⟩ := a
      have hfv := ha.fr.opd (df := df) hf
      have hargs := opsC_map (df := df) ha.fr hxs
      rw [hfe] at hfv
      generalize hev : (Act.mk tmps df).eval fc = fv at hfv
      cases hfv with
      | fn _ _ _ first' cap' r1 r2 =>
        have ho0 : ops[0]? = some o := by
          have := congrArg (·[0]?) hops
          simpa using this
        have hsize : ops.size = 1 := by
          have := congrArg List.length hops
          simpa using this
        have hw : Region.wanted o (yielded ops tmps) = true := by simp [Region.wanted, hg]
        have hres : (resolve (Act.mk tmps df).eval { callee := .value fc, args, argTypes := ts } o.type).run P w = .ok { target := .fn (.func fi) cap', args := first' ++ args.map (Act.mk tmps df).eval } w := run_resolve_value hev w
        have hstep : step P (lone (b.atR ⟨tmps, df⟩ (.inRegion ops [0] :: .code y :: k)) cs w) = .next (lone (b.atR ⟨tmps, { target := .fn (.func fi) cap', args := first' ++ args.map (Act.mk tmps df).eval } :: df⟩ (.inRegion ops [] :: .code y :: k)) cs w) := by
          have hgs := stepGR_op (P := P) (b := b) (a := ⟨tmps, df⟩) (k := .code y :: k) (cs := cs) (w := w) (rest := []) ho0 hw
          rw [hro, Oper.semAt_none] at hgs
          have hr : (execOp (Act.mk tmps df).eval o).run P w = .ok (.defer { target := .fn (.func fi) cap', args := first' ++ args.map (Act.mk tmps df).eval }) w := by
            simp only [execOp, ho, Sem.run_bind, hres, Result.andThen_ok, Sem.run_pure]
          refine step_lone_go ?_
          rw [hgs]
          have hfin : ({ b.atR ⟨tmps, df⟩ (.inRegion ops [0] :: .code y :: k) with defers := { target := .fn (.func fi) cap', args := first' ++ args.map (Act.mk tmps df).eval } :: df } : Frame).finish Go.undef =
              b.atR ⟨tmps, { target := .fn (.func fi) cap', args := first' ++ args.map (Act.mk tmps df).eval } :: df⟩ (.inRegion ops [] :: .code y :: k) := by
            have := Frame.finish_atR b ⟨tmps, { target := .fn (.func fi) cap', args := first' ++ args.map (Act.mk tmps df).eval } :: df⟩ ops 0 [] (.code y :: k) Go.undef
            rw [ho0] at this
            simp only [Option.bind_some, hd, Act.put] at this
            exact this
          simp only [stepG.apply, Sem.runT_eq, hr, GStep.bare_after]
          exact congrArg (fun fr => GStep.go { frame := fr, callers := cs, status := .running, dying := none } w) hfin
        refine ⟨g, w, B, ⟨tmps, df⟩, y, first', cap', args.map (Act.mk tmps df).eval, .head stepR_seq (.head stepR_region (.trans ?_ (.one (stepR_region_end (ops := ops))))), ha, h2, g.le_refl, .refl _, r1, r2, hargs⟩
        rw [hsize]
        exact .one hstep
    · rw [h4] at hsp; simp [splitT] at hsp
    · rw [h4] at hsp
      simp only [splitT, Option.map_eq_some_iff] at hsp
      obtain ⟨⟨A', r⟩, hsp, h5⟩ := hsp
      cases h5
      simp only [acode, Option.bind_eq_some_iff, Prod.exists] at h
      obtain ⟨x1, e2, σ2, h6, h7⟩ := h
      cases x1 with
      | normal =>
        obtain ⟨g2, w2, B2, a2, t2, m1, m2, m3, m4, m5⟩ := code_ok (b := b) (cs := cs) (k := .code y :: k) hm hO x h1 h6 ha
        obtain rfl := m4
        obtain ⟨g1, w1, B1, a1, q0, first', cap', argv, k1, k2, k3, k4, k5, k6⟩ := ihy (k := k) h2 hsp h7 m2 hfe
        exact ⟨g1, w1, B1, a1, q0, first', cap', argv, .head stepR_seq (Steps.trans m1 k1), k2, k3, m3.trans' k4, m5.trans k5, k6⟩
      | _ => simp at h7
  | region id ops draw =>
    intro c A q fo as e e1 σ σ1 g w B a k fi first cap hc hsp h ha hfe
    simp only [codeC] at hc
    split at hc
    · rename_i c0 hc0
      cases hc
      have h0 := split_reg hc0
      cases hv : look id [] ann.fz with
      | nil => rw [hv] at hsp; simp only [withFrz] at hsp; rw [h0] at hsp; cases hsp
      | cons v vs => rw [hv] at hsp; simp only [withFrz, splitT] at hsp; rw [h0] at hsp; cases hsp
    · cases hc; simp [failC, splitT] at hsp
  | scope x ih =>
    intro c A q fo as e e1 σ σ1 g w B a k fi first cap hc hsp h ha hfe
    simp only [codeC, Option.map_eq_some_iff] at hc
    obtain ⟨x', _, rfl⟩ := hc
    unfold scopeC at hsp
    split at hsp
    · simp [failC, splitT] at hsp
    · rename_i h0; simp only [splitT, h0, Option.map_none] at hsp; cases hsp
  | block id x ih =>
    intro c A q fo as e e1 σ σ1 g w B a k fi first cap hc hsp h ha hfe
    simp only [codeC, Option.map_eq_some_iff] at hc
    obtain ⟨x', _, rfl⟩ := hc
    rcases blkC_cases ann n id x x' with ⟨it', nx', ok', live', sg, A, c1, g4, rfl, g5⟩ | g5 <;> rw [g5] at hsp <;> simp [splitT] at hsp
  | cond co x y =>
    intro c A q fo as e e1 σ σ1 g w B a k fi first cap hc hsp h ha hfe
    simp only [codeC] at hc
    split at hc
    case h_2 => cases hc
    cases hc; simp [splitT] at hsp
  | loop x =>
    intro c A q fo as e e1 σ σ1 g w B a k fi first cap hc hsp h ha hfe
    simp only [codeC, Option.map_eq_some_iff] at hc
    obtain ⟨x', _, rfl⟩ := hc
    simp [splitT] at hsp
  | rangeFunc f ps x y =>
    intro c A q fo as e e1 σ σ1 g w B a k fi first cap hc hsp h ha hfe
    simp only [codeC] at hc
    split at hc
    case h_2 => cases hc
    simp only [Option.ite_none_right_eq_some] at hc
    obtain ⟨_, hc⟩ := hc
    cases hc
    simp [splitT] at hsp
  | _ =>
    intro c A q fo as e e1 σ σ1 g w B a k fi first cap hc hsp h ha hfe
    simp only [codeC, Option.some.injEq] at hc
    subst hc
    simp [splitT, failC] at hsp
end
end Go.Abs

/-
  Calls, and deferred calls: one step is sound, if what it asks is.
-/
set_option linter.unusedVariables false
set_option linter.unusedSimpArgs false
namespace Go.Abs
open Go

section
variable {P : Program} {T : Tbl} {O : Oracle}

theorem CallOk.of {f : Nat} {args : List D} {σ σ' : Stack} {d : D} (h1 : ∃ F c, P.funcs[f]? = some F ∧ F.name ≠ "runtime.NumGoroutine" ∧ F.body = some c)
    (h2 : ∀ base g w (vs : Array Value), Inv (CR0 P) base g σ w → LowS σ → 0 < σ.length → RelL g args vs.toList →
      ∀ cs, ∃ v w' fr g', Goes σ σ' ∧ Steps P (lone (Frame.enter P f vs .normal) cs w) (lone fr cs w') ∧ fr.fn = f ∧ fr.leaving P w' (.returned v) ∧ Ev g w g' w' ∧ Inv (CR0 P) base g' σ' w' ∧ RelV g' d v) :
    CallOk P (CR0 P) f args σ d σ' := by
  refine ⟨h1, fun base g w vs hi hl hp hr => ⟨?_, fun cs => ?_⟩⟩
  · obtain ⟨_, _, _, _, hgo, _⟩ := h2 base g w vs hi hl hp hr []
    exact hgo
  · obtain ⟨v, w', fr, g', hgo, k1, k2, k3, k4, k5, k6⟩ := h2 base g w vs hi hl hp hr cs
    exact ⟨.returned v, w', fr, ⟨v, g', rfl, k4, k5, k6⟩, k1, k2, k3⟩

theorem leave_ok {n base : Nat} {V : List Nat} {g0 g g1 : G} {w0 w w1 : World} {b : Frame} {B : Nat → Nat} {e : Env} {σ σ1 : Stack} {tmps : Array Value} {F : Func} {ann : Ann} {Rs : List Res} {r : R}
    (h : leave Rs σ e σ1 = some r) (hress : ressC P ann F.results.toList = some Rs) (hf : Fr w0.heap.size V g1 w1 B e tmps) (he : Ev g w g1 w1) (hi : Inv (CR0 P) base g1 σ1 w1) (hlow : LowS σ1) (hlen : σ1.length = σ.length + 1)
    (hp : 0 < σ.length) (hlvl0 : ∀ l i L, g.loc l i = some L → l < σ.length) :
    ∃ d σ2 v g2, r = .val d σ2 ∧ (results F tmps).run P w1 = .ok v w1 ∧ Ev g w g2 w1 ∧ Inv (CR0 P) base g2 σ2 w1 ∧ RelV g2 d v ∧ LowS σ2 ∧ σ2.length = σ.length := by
  unfold leave at h
  split at h
  case h_2 => cases h
  rename_i ds hds
  split at h
  case h_2 => cases h
  rename_i d s σ2 hfz
  cases h
  obtain ⟨v, hv1, hv2⟩ := results_ok (P := P) hf hi hress hds
  have hspec := frz_spec (σ.length - 1) deep (mkRes ds) σ1
  rw [hfz] at hspec
  obtain ⟨hlow2, hgo⟩ := hspec
  have hl2 : LowS (s :: σ2) := hgo.low hlow
  have hlen2 : σ2.length = σ.length := by
    have k1 := hgo.len
    simp at k1; omega
  obtain ⟨g2, i2, e2, r2⟩ := frz_ok (CR := CR0 P) (base := base) (σ.length - 1) deep (mkRes ds) σ1 g1 w1 v hi hv2
  rw [hfz] at i2 r2
  obtain ⟨i3, l3⟩ := i2.pop hl2
  refine ⟨d, σ2, v, g2.cut σ2.length, rfl, hv1, (he.trans e2).cut (fun l i L h => by rw [hlen2]; exact hlvl0 l i L h), i3, r2.cut ?_, l3, hlen2⟩
  rw [hlen2]
  rwa [show σ.length - 1 + 1 = σ.length from by omega] at hlow2

theorem goes_pop {s : List Blk} {σ σ1 σ2 : Stack} (h : Goes ([] :: σ) σ1) (h2 : σ1 = s :: σ2) (hl : LowS σ2) : Goes σ σ2 := by
  subst h2
  exact ⟨by have := h.len; simpa using this, fun _ => hl⟩

theorem call_sound (hT : TOk P T) (hm : P.follows .mixedOrders = true) (hO : OrOk P (CR0 P) O) {kp : Bool} {f : Nat} {args : List D} {σ : Stack} {r : R}
    (h : stepQ T O (.call kp f args σ) = some r) : AnsOk P (CR0 P) (.call kp f args σ) r := by
  simp only [stepQ] at h
  cases hTf : T f with
  | none =>
    rw [hTf] at h
    dsimp only at h
    cases hT2 : T (1000000 + f) with
    | none => rw [hT2] at h; cases h
    | some fn =>
      rw [hT2] at h
      have h1 := hT _ fn hT2
      rw [if_neg (by omega), show 1000000 + f - 1000000 = f from by omega] at h1
      obtain ⟨d, σ', hr, h2⟩ := h1.2 _ _ _ h
      subst hr
      exact h2
  | some fn =>
  rw [hTf] at h
  dsimp only at h
  split at h
  case isFalse => cases h
  rename_i hlen
  have hTO := hT f fn hTf
  by_cases hfl : f < 1000000
  rotate_left
  · rw [if_neg hfl] at hTO
    rw [hTO.1] at h
    simp [acode, splitT, dbody] at h
  rw [if_pos hfl] at hTO
  obtain ⟨F, c, ann, hF, hname, hbody, hfn⟩ := hTO
  obtain ⟨hcode, hress, hnp⟩ := fnC_inv hbody hfn
  have hin : ∃ F c, P.funcs[f]? = some F ∧ F.name ≠ "runtime.NumGoroutine" ∧ F.body = some c := ⟨F, c, hF, hname, hbody⟩
  cases hac : acode O fn.body (mkEnv 0 args) (if kp then σ else [] :: σ) with
  | none =>
    rw [hac] at h
    dsimp only at h
    cases kp with
    | true => simp at h
    | false =>
    simp only [Bool.false_eq_true, if_false] at h
    cases hsp : splitT fn.body with
    | none => rw [hsp] at h; simp [dbody] at h
    | some y =>
    obtain ⟨A, fo, as, q⟩ := y
    rw [hsp] at h
    simp only [dbody] at h
    split at h
    case h_2 => cases h
    rename_i e1 σ1 hA
    -- what the deferred call is
    have key : ∀ (x2 : Exit) (e2 : Env) (σ2 : Stack) (th : Option D), acode O q e1 σ1 = some (x2, e2, σ2) → (∀ id, x2 ≠ .exit id) → (match x2 with | .thr d => th = some d | _ => th = none) →
        dleave fn.res σ e2 (dcallR O (opd e1 fo) (as.map (opd e1)) th σ2) = some r → AnsOk P (CR0 P) (.call false f args σ) r := by
      intro x2 e2 σ2 th hq hne hth hd
      cases hdc : dcallR O (opd e1 fo) (as.map (opd e1)) th σ2 with
      | none => rw [hdc] at hd; cases hd
      | some rr =>
      rw [hdc] at hd
      cases rr with
      | ctl => cases hd
      | thr => cases hd
      | val dv σ3 =>
      simp only [dleave] at hd
      unfold dcallR at hdc
      split at hdc
      case h_2 => cases hdc
      rename_i fi first cap hfe
      obtain ⟨⟨FD, cD, hfd1, hfd2, hfd3⟩, hdcall⟩ := hO _ _ hdc
      have walk : ∀ base g w (vs : Array Value), Inv (CR0 P) base g σ w → LowS σ → 0 < σ.length → RelL g args vs.toList →
          ∀ cs, ∃ d σ4 v w' fr g', r = .val d σ4 ∧ Goes σ σ4 ∧ Steps P (lone (Frame.enter P f vs .normal) cs w) (lone fr cs w') ∧ fr.fn = f ∧ fr.leaving P w' (.returned v) ∧ Ev g w g' w' ∧ Inv (CR0 P) base g' σ4 w' ∧ RelV g' d v := by
        intro base g w vs hi hl hp hr cs
        obtain ⟨b, a, hfr, hbd, hbf, hbk, hro, ha⟩ := enter_at ann.ownv .normal hF hbody (by omega) (σ := [] :: σ) hi.push (hl.push hi) (by simp) hr
        obtain ⟨g1, w1, B1, a1, q0, first', cap', argv, s1, s2, s3, s4, s5, s6, s7, s8⟩ := split_ok (cs := cs) (k := []) hm hO hro c hcode hsp (by simpa using hA) ha hfe
        obtain ⟨rs1, hmk1⟩ := s2.marks
        let dd : Deferred := { target := .fn (.func fi) cap', args := first' ++ argv }
        let b' : Frame := { b with defers := dd :: a1.defers }
        have ha' : At (CR0 P) base ann.ownv g w F.ntmps b' g1 w1 B1 e1 σ1 { a1 with defers := dd :: a1.defers } := by
          refine ⟨s2.fr, s2.ev, s2.inv, s2.low, s2.pos, s2.size, ⟨[], rfl, ?_, ?_⟩, s2.round⟩
          · simp only [List.nil_append, b', colls, dd]
            rw [hmk1.eq, colls_marks]; exact hmk1.nodup
          · simp only [List.nil_append, b', colls, dd]
            rw [hmk1.eq, colls_marks]; exact hmk1.all
        obtain ⟨g2, w2, B2, a2, t2, m1, m2, m3, m4, m5⟩ := code_ok (b := b') (cs := cs) (k := []) hm hO q0 s3 hq ha'
        obtain ⟨w3, u, n1, n2, n4, n5, n6, n7⟩ := out_ok (b := b') (cs := cs) (fr := b) (w := w1) hro m4 hne m2 _ m1
        have hdef : ({ b'.atR a2 t2 with mode := u, defers := b'.defers } : Frame).defers = dd :: a1.defers := rfl
        have hu : u ≠ .run := by
          cases x2 with
          | thr d => obtain ⟨⟨v, _, rfl⟩, _⟩ := n2; simp
          | normal => obtain rfl : u = .returning := n2; simp
          | ret => obtain rfl : u = .returning := n2; simp
          | exit id => exact absurd rfl (hne id)
        have hfalls : Falls g2 th u := by
          cases x2 with
          | thr d => subst hth; exact n2.1
          | normal => subst hth; exact n2
          | ret => subst hth; exact n2
          | exit id => exact absurd rfl (hne id)
        have hargs : RelL g2 (first ++ as.map (opd e1) ++ cap) (first' ++ argv ++ cap').toList := by
          simpa using ((s6.mono m3).append (s8.mono m3)).append (s7.mono m3)
        obtain ⟨hgo3, hcd⟩ := hdcall base g2 w3 _ u n6 m2.low m2.pos hargs hfalls
        have hinv : (invoke dd.target dd.args).run P w3 = .ok (.enter fi (first' ++ argv ++ cap')) w3 := by
          simp only [dd, invoke, run_callFunc hfd1 hfd2 hfd3]
        have hstep := step_defer (P := P) (cs := cs) (w := w3) (fr := { b'.atR a2 t2 with mode := u, defers := b'.defers }) hu hdef rfl hinv
        obtain ⟨en, u', w4, frX, ⟨v4, g4, rfl, hset, e4, i4⟩, hcomes, hkX, hgo4⟩ := hcd { ({ b'.atR a2 t2 with mode := u, defers := b'.defers } : Frame) with defers := a1.defers } cs rfl
        have hstep2 := step_going_returned (P := P) (cs := cs) (c := { ({ ({ b'.atR a2 t2 with mode := u, defers := b'.defers } : Frame) with defers := a1.defers }) with mode := u' }) hkX hgo4
        have hev4 : Ev g w g4 w4 := n5.trans e4
        have hmk4 : ∀ r ∈ rs1 ++ colls b.defers, MarkB w.heap.size g4 w4 r := by
          intro r hr
          refine MarkB.ev (n7 r ?_) e4
          simp only [b', colls, dd]
          rw [hmk1.eq, colls_marks]; exact hr
        obtain ⟨w5, p1, p2, p3, p4, p5⟩ := unmark (P := P) (df0 := b.defers) (V := ann.ownv) (g0 := g) (w0 := w) (B := B2) (e := e2) (σ := σ3) (base := base) (CR := CR0 P) rs1 w4 g4 a2
          { ({ ({ b'.atR a2 t2 with mode := u, defers := b'.defers } : Frame) with defers := a1.defers }) with mode := settle u' } cs (by rw [hset]; simp) hmk1.eq hmk1.nodup hmk4 (n4.ev e4) hev4 i4
        have hlen3 : σ3.length = σ.length + 1 := by
          have k1 := hgo3.len
          have k2 := m5.len
          have k3 := s5.len
          simp at k3; omega
        obtain ⟨d, σ4, v, g5, hr5, hv5, e5, i5, r5, l5, len5⟩ := leave_ok (n := 0) (g0 := g) (b := b) hd hress p2 p3 p4 (hgo3.low m2.low) hlen3 hp (fun l i L h => hi.lvl h)
        refine ⟨d, σ4, v, w5, { ({ ({ b'.atR a2 t2 with mode := u, defers := b'.defers } : Frame) with defers := a1.defers }) with mode := settle u', defers := b.defers }, g5, hr5, ⟨len5, fun _ => l5⟩, ?_, ?_, ?_, e5, i5, r5⟩
        · rw [hfr]
          refine Steps.trans s1 (Steps.trans n1 (.head hstep (Steps.trans hcomes (.head hstep2 p1))))
        · exact hbf
        · refine ⟨hset, hbd, hbk, F, ?_, hv5⟩
          show P.funcs[b.fn]? = some F
          rw [hbf]; exact hF
      cases r with
      | val d σ' =>
        refine CallOk.of hin fun base g w vs hi hl hp hr cs => ?_
        obtain ⟨d', σ4, v, w', fr, g', h1, h2, h3⟩ := walk base g w vs hi hl hp hr cs
        cases h1
        exact ⟨v, w', fr, g', h2, h3⟩
      | ctl => trivial
      | thr => 
        unfold leave at hd
        split at hd
        · split at hd <;> cases hd
        · cases hd
    cases hq : acode O q e1 σ1 with
    | none => rw [hq] at h; simp [dtail] at h
    | some y =>
    obtain ⟨x2, e2, σ2⟩ := y
    rw [hq] at h
    cases x2 with
    | exit id => simp [dtail] at h
    | normal => exact key _ _ _ none hq (by simp) rfl h
    | ret => exact key _ _ _ none hq (by simp) rfl h
    | thr d => exact key _ _ _ (some d) hq (by simp) rfl h
  | some y =>
  obtain ⟨x, e, σ1⟩ := y
  rw [hac] at h
  have hx : ∀ id, x ≠ .exit id := by intro id hid; subst hid; simp at h
  -- the walk, from whatever memory
  have walk : ∀ (base : Nat) (g : G) (w : World) (vs : Array Value), Inv (CR0 P) base g σ w → LowS σ → 0 < σ.length → RelL g args vs.toList →
      ∀ cs : List Frame, ∃ (b : Frame) (a1 : Act) (t1 : List Item) (u : FrameMode) (w2 : World) (g1 : G) (B1 : Nat → Nat), Goes (if kp then σ else [] :: σ) σ1 ∧ LowS σ1 ∧ Steps P (lone (Frame.enter P f vs .normal) cs w) (lone { b.atR a1 t1 with mode := u, defers := [] } cs w2) ∧ b.fn = f ∧ b.kind = .normal ∧
        FallsX g1 x u ∧ Fr w.heap.size ann.ownv g1 w2 B1 e a1.tmps ∧ Ev g w g1 w2 ∧ Inv (CR0 P) base g1 σ1 w2 := by
    intro base g w vs hi hl hp hr cs
    have hi0 : Inv (CR0 P) base g (if kp then σ else [] :: σ) w := by cases kp; exact hi.push; exact hi
    have hl0 : LowS (if kp then σ else [] :: σ) := by cases kp; exact hl.push hi; exact hl
    have hp0 : 0 < (if kp then σ else [] :: σ).length := by cases kp; simp; exact hp
    obtain ⟨b, a, hfr, hbd, hbf, hbk, hro, ha⟩ := enter_at ann.ownv .normal hF hbody (by omega) hi0 hl0 hp0 hr
    obtain ⟨g1, w1, B1, a1, t1, k1, k2, k3, k4, k5⟩ := code_ok (b := b) (cs := cs) (k := []) hm hO c hcode hac ha
    obtain ⟨w2, u, n1, n2, n4, n5, n6, n7⟩ := out_ok (b := b) (cs := cs) (fr := b) (w := w) hro k4 hx k2 _ k1
    rw [hbd, ← hfr] at n1
    exact ⟨b, a1, t1, u, w2, g1, B1, k5, k2.low, n1, hbf, hbk, n2, n4, n5, n6⟩
  have ret : (x = .normal ∨ x = .ret) → (match resL e σ1 fn.res with
        | some ds => if kp then some (R.val (mkRes ds) σ1) else
            match frz (σ.length - 1) deep (mkRes ds) σ1 with
            | (d, _ :: σ2) => some (.val d σ2)
            | _ => none
        | none => none) = some r → AnsOk P (CR0 P) (.call kp f args σ) r := by
    intro hxx h
    have hu : ∀ {g1 : G} {u : FrameMode}, FallsX g1 x u → u = .returning := by
      clear h
      intro g1 u h
      rcases hxx with rfl | rfl <;> exact h
    cases kp with
    | true =>
      simp only [if_true] at h
      split at h
      case h_2 => cases h
      rename_i ds hds
      cases h
      refine CallOk.of hin fun base g w vs hi hl hp hr cs => ?_
      obtain ⟨b, a1, t1, u, w2, g1, B1, k1, k2, k3, k4, k5, k6, k8, k9, k10⟩ := walk base g w vs hi hl hp hr cs
      obtain ⟨v, hv1, hv2⟩ := results_ok (P := P) k8 k10 hress hds
      obtain rfl := hu k6
      refine ⟨v, w2, _, g1, by simpa using k1, k3, k4, ⟨rfl, rfl, k5, F, ?_, hv1⟩, k9, k10, hv2⟩
      show P.funcs[b.fn]? = some F
      rw [k4]; exact hF
    | false =>
      simp only [Bool.false_eq_true, if_false] at h
      have h' : leave fn.res σ e σ1 = some r := h
      cases r with
      | ctl => trivial
      | thr =>
        unfold leave at h'
        split at h'
        · split at h' <;> cases h'
        · cases h'
      | val d σ' =>
      refine CallOk.of hin fun base g w vs hi hl hp hr cs => ?_
      obtain ⟨b, a1, t1, u, w2, g1, B1, k1, k2, k3, k4, k5, k6, k8, k9, k10⟩ := walk base g w vs hi hl hp hr cs
      have hlen : σ1.length = σ.length + 1 := by have := k1.len; simpa using this
      obtain ⟨d', σ4, v, g5, hr5, hv5, e5, i5, r5, l5, len5⟩ := leave_ok (n := 0) (g0 := g) (w0 := w) (b := b) h' hress k8 k9 k10 k2 hlen hp (fun l i L h => hi.lvl h)
      cases hr5
      obtain rfl := hu k6
      refine ⟨v, w2, _, g5, ⟨len5, fun _ => l5⟩, k3, k4, ⟨rfl, rfl, k5, F, ?_, hv5⟩, e5, i5, r5⟩
      show P.funcs[b.fn]? = some F
      rw [k4]; exact hF
  cases x with
  | exit id => exact absurd rfl (hx id)
  | normal => exact ret (.inl rfl) h
  | ret => exact ret (.inr rfl) h
  | thr d =>
    dsimp only at h
    unfold thrown at h
    split at h
    case h_2 => cases h
    rename_i s σ2
    split at h
    case isFalse => cases h
    rename_i hc
    obtain ⟨rfl, hcl⟩ := hc
    cases h
    refine ⟨hcl, hin, fun base g w vs hi hl hp hr => ?_⟩
    have hgo : Goes σ σ2 := by
      obtain ⟨b, a1, t1, u, w2, g1, B1, k1, k2, k3, k4, k5, k6, k8, k9, k10⟩ := walk base g w vs hi hl hp hr []
      obtain ⟨i3, l3⟩ := k10.pop k2
      exact goes_pop (by simpa using k1) rfl l3
    refine ⟨hgo, fun cs => ?_⟩
    obtain ⟨b, a1, t1, u, w2, g1, B1, k1, k2, k3, k4, k5, ⟨⟨v, k6, rfl⟩, _⟩, k8, k9, k10⟩ := walk base g w vs hi hl hp hr cs
    obtain ⟨i3, l3⟩ := k10.pop k2
    refine ⟨.panicked [{ v, recovered := false }], w2, _, ⟨v, g1.cut σ2.length, rfl, k9.cut (fun l i L h => by rw [hgo.len]; exact hi.lvl h), i3, k6.cut (clean_low hcl)⟩, k3, k4, ⟨rfl, rfl, F, ?_⟩⟩
    show P.funcs[b.fn]? = some F
    rw [k4]; exact hF
end
end Go.Abs

/-
  A deferred call that recovers.
-/
set_option linter.unusedVariables false
set_option linter.unusedSimpArgs false
namespace Go.Abs
open Go

theorem afterRcv_inv {th : Option D} {args : List D} {c q : Cmd} {e0 : Env} (h : afterRcv th args c = some (e0, q)) : ∃ live t nn, c = .seq (.reg live [⟨some t, none, nn, .rcv⟩]) q ∧ (∀ l i a b d c r, q ≠ .mloop l i a b d c r) ∧ e0 = restrict live ((t, th.getD .nili) :: mkEnv 0 args) := by
  unfold afterRcv at h
  split at h
  case h_2 => cases h
  rename_i live t nn q'
  split at h
  · cases h
  · rename_i hn
    cases h
    exact ⟨live, t, nn, rfl, fun l i a b d c r hq => hn l i a b d c r hq, rfl⟩

section
variable {P : Program} {T : Tbl} {O : Oracle} {ann : Ann} {n blk : Nat}

theorem rcvReg {id : Nat} {ops : Array Oper} {draw : Bool} {live : List Nat} {op : Op} (hk : op.k = .rcv) (h : codeC P ann n blk (.region id ops draw) = some (.reg live [op])) :
    draw = false ∧ ∃ o ntr, ops.toList = [o] ∧ opC P ann n id ops ntr 0 o = some op := by
  simp only [codeC] at h
  split at h
  · rename_i c0 hc0
    simp only [Option.some.injEq] at h
    cases hv : look id [] ann.fz with
    | cons v vs => rw [hv] at h; simp [withFrz] at h
    | nil =>
      rw [hv] at h
      simp only [withFrz] at h
      subst h
      unfold regC at hc0
      cases draw with
      | true =>
        simp only [if_true] at hc0
        split at hc0
        case h_2 => cases hc0
        rename_i xs hxs
        simp only [Option.ite_none_right_eq_some, Bool.and_eq_true] at hc0
        obtain ⟨⟨_, hall⟩, hc0⟩ := hc0
        have hxs1 : xs = [op] := by
          simp only [Option.some.injEq] at hc0
          unfold cutC at hc0
          split at hc0
          · split at hc0
            · cases hc0
            · cases hc0; rfl
          · cases hc0; rfl
        subst hxs1
        simp [hk] at hall
      | false =>
        simp only [Bool.false_eq_true, if_false] at hc0
        obtain ⟨xs, hxs, h1⟩ := Option.map_eq_some_iff.1 hc0
        have hxs1 : xs = [op] := by
          unfold cutC at h1
          split at h1
          · split at h1
            · cases h1
            · cases h1; rfl
          · cases h1; rfl
        subst hxs1
        refine ⟨rfl, ?_⟩
        cases hl : ops.toList with
        | nil => rw [hl] at hxs; simp [opsC] at hxs
        | cons o l =>
          rw [hl] at hxs
          simp only [opsC] at hxs
          split at hxs
          case h_2 => cases hxs
          rename_i x xs' h2 h3
          cases hxs
          cases l with
          | nil => exact ⟨o, _, rfl, h2⟩
          | cons o' l' =>
            simp only [opsC] at h3
            split at h3 <;> cases h3
  · simp only [Option.some.injEq, failC, Cmd.reg.injEq, List.cons.injEq, and_true] at h
    obtain ⟨_, rfl⟩ := h
    cases hk

theorem rcvCode {c : Code} {live : List Nat} {op : Op} {q : Cmd} (hk : op.k = .rcv) (hq : ∀ l i a b d c r, q ≠ .mloop l i a b d c r) (h : codeC P ann n blk c = some (.seq (.reg live [op]) q)) :
    ∃ id ops y o ntr, c = .seq (.region id ops false) y ∧ codeC P ann n blk y = some q ∧ ops.toList = [o] ∧ opC P ann n id ops ntr 0 o = some op := by
  have hf : ∀ {c : Cmd}, c = failC → ∀ {live' : List Nat}, c = .reg live' [op] → False := by
    intro c h1 live' h2
    rw [h1] at h2
    simp only [failC, Cmd.reg.injEq, List.cons.injEq, and_true] at h2
    obtain ⟨_, rfl⟩ := h2
    cases hk
  cases c with
  | seq x y =>
    simp only [codeC] at h
    split at h
    case h_2 => cases h
    rename_i x' y' h1 h2
    simp only [Option.some.injEq] at h
    rcases seqC_cases ann x x' y' with ⟨f, xs, _, h3⟩ | ⟨_, p0, bid, l0, p1, live', it, nx, ok, bb, c0, rfl, rfl, h3⟩ | ⟨_, h3⟩ | ⟨_, lv, op, f, xs, hM, h3⟩
    rotate_left 3
    · rw [h3] at h
      obtain ⟨_, _, _, _, _, _, _, op', _, _, _, _, _, _, _, _, _, hr, hc⟩ := dfrM_inv hM
      cases hc
      cases h
      exact absurd hk hr
    · rw [h3] at h; cases h
    · rw [h3] at h; cases h; exact absurd rfl (hq _ _ _ _ _ _ _)
    · rw [h3] at h
      cases h
      cases x with
      | region id ops draw =>
        obtain ⟨rfl, o, ntr, h5, h6⟩ := rcvReg hk h1
        exact ⟨id, ops, y, o, ntr, rfl, h2, h5, h6⟩
      | seq p r =>
        simp only [codeC] at h1
        split at h1
        case h_2 => cases h1
        rename_i p' r' _ _
        simp only [Option.some.injEq] at h1
        rcases seqC_cases ann p p' r' with ⟨f, xs, _, h3⟩ | ⟨_, _, _, _, _, _, _, _, _, _, _, _, _, h3⟩ | ⟨_, h3⟩ | ⟨_, _, _, _, _, _, h3⟩ <;> rw [h3] at h1 <;> cases h1
      | cond co p r =>
        simp only [codeC] at h1
        split at h1 <;> cases h1
      | block id p =>
        simp only [codeC, Option.map_eq_some_iff] at h1
        obtain ⟨p', _, h1⟩ := h1
        rcases blkC_cases ann n id p p' with ⟨_, _, _, _, _, _, _, _, rfl, h3⟩ | h3 <;> rw [h3] at h1 <;> cases h1
      | loop p =>
        simp only [codeC, Option.map_eq_some_iff] at h1
        obtain ⟨p', _, h1⟩ := h1
        cases h1
      | rangeFunc f ps p r =>
        simp only [codeC] at h1
        split at h1
        case h_2 => cases h1
        split at h1 <;> cases h1
      | scope p =>
        simp only [codeC, Option.map_eq_some_iff] at h1
        obtain ⟨p', _, h1⟩ := h1
        unfold scopeC at h1
        split at h1
        · exact (hf rfl h1).elim
        · cases h1
      | skip => simp [codeC] at h1
      | label l => simp [codeC] at h1
      | exit id => simp [codeC] at h1
      | ret => simp [codeC] at h1
      | _ => simp only [codeC, Option.some.injEq] at h1; exact (hf rfl h1).elim
  | region id ops draw =>
    simp only [codeC] at h
    split at h
    · rename_i c0 hc0
      simp only [Option.some.injEq] at h
      cases hv : look id [] ann.fz with
      | nil =>
        rw [hv] at h
        simp only [withFrz] at h
        subst h
        unfold regC at hc0
        split at hc0
        · dsimp only at hc0
          split at hc0
          · simp only [Option.ite_none_right_eq_some, Option.some.injEq] at hc0
            obtain ⟨_, hc0⟩ := hc0
            unfold cutC at hc0
            split at hc0
            · split at hc0 <;> cases hc0
            · cases hc0
          · cases hc0
        · obtain ⟨xs, _, h1⟩ := Option.map_eq_some_iff.1 hc0
          unfold cutC at h1
          split at h1
          · split at h1 <;> cases h1
          · cases h1
      | cons v vs => rw [hv] at h; simp [withFrz] at h
    · cases h
  | scope p =>
    simp only [codeC, Option.map_eq_some_iff] at h
    obtain ⟨p', _, h1⟩ := h
    unfold scopeC at h1
    split at h1 <;> cases h1
  | cond co p r =>
    simp only [codeC] at h
    split at h <;> cases h
  | block id p =>
    simp only [codeC, Option.map_eq_some_iff] at h
    obtain ⟨p', _, h1⟩ := h
    rcases blkC_cases ann n id p p' with ⟨_, _, _, _, _, _, _, _, rfl, h3⟩ | h3 <;> rw [h3] at h1 <;> cases h1
  | loop p =>
    simp only [codeC, Option.map_eq_some_iff] at h
    obtain ⟨p', _, h1⟩ := h
    cases h1
  | rangeFunc f ps p r =>
    simp only [codeC] at h
    split at h
    case h_2 => cases h
    split at h <;> cases h
  | skip => simp [codeC] at h
  | label l => simp [codeC] at h
  | exit id => simp [codeC] at h
  | ret => simp [codeC] at h
  | _ => simp only [codeC, Option.some.injEq] at h; cases h

theorem step_recover {b : Frame} {a : Act} {k : List Item} {cs : List Frame} {w : World} {ops : Array Oper} {i : Nat} {is : List Nat} {o : Oper} {args : Array Operand} {ts : Array TypeId} (ho : ops[i]? = some o) (hg : o.guard = none)
    (hop : o.op = .call { callee := .builtin .recover, args, argTypes := ts }) (hro : b.roundOf = none) (hk : b.kind = .deferred) :
    step P (lone (b.atR a (.inRegion ops (i :: is) :: k)) cs w) = .next (match recoverD cs with
      | some (v, cs') => lone (b.atR (a.put o.dst v) (.inRegion ops is :: k)) cs' w
      | none => lone (b.atR (a.put o.dst .nilIface) (.inRegion ops is :: k)) cs w) := by
  have hw : Region.wanted o (yielded ops a.tmps) = true := by simp [Region.wanted, hg]
  have hgs := stepGR_op (P := P) (b := b) (a := a) (k := k) (cs := cs) (w := w) (rest := is) ho hw
  rw [hro, Oper.semAt_none] at hgs
  have hr : (execOp a.eval o).run P w = .ok .recover w := by
    simp [execOp, hop, resolve, invoke, builtin]
  have htr : tryRecover (b.atR a (.inRegion ops (i :: is) :: k)) cs = recoverD cs := tryRecover_deferred (fr := b.atR a (.inRegion ops (i :: is) :: k)) hk cs
  have hro' : (b.atR a (.inRegion ops (i :: is) :: k)).roundOf = none := hro
  have hfin := fun v => finish_op (b := b) (a := a) (rest := is) (k := k) ho v
  cases hrec : recoverD cs with
  | none =>
    refine step_lone_go ?_
    rw [hgs, ← hfin]
    simp [stepG.apply, hr, hro', htr, hrec]
  | some y =>
    obtain ⟨v, cs'⟩ := y
    refine step_lone_go ?_
    rw [hgs, ← hfin]
    simp [stepG.apply, hr, hro', htr, hrec]

theorem dcall_sound (hT : TOk P T) (hm : P.follows .mixedOrders = true) (hO : OrOk P (CR0 P) O) {f : Nat} {args : List D} {th : Option D} {σ : Stack} {r : R}
    (h : stepQ T O (.dcall f args th σ) = some r) : AnsOk P (CR0 P) (.dcall f args th σ) r := by
  simp only [stepQ] at h
  split at h
  case h_2 => cases h
  rename_i fn hTf
  split at h
  case isFalse => cases h
  rename_i hlen
  split at h
  case h_2 => cases h
  rename_i e0 q hrcv
  obtain ⟨live, t, nn, hbd, hqm, rfl⟩ := afterRcv_inv hrcv
  have hTO := hT f fn hTf
  by_cases hfl : f < 1000000
  rotate_left
  · rw [if_neg hfl] at hTO
    rw [hTO.1] at hbd
    cases hbd
  rw [if_pos hfl] at hTO
  obtain ⟨F, c, ann, hF, hname, hbody, hfn⟩ := hTO
  obtain ⟨hcode, hress, hnp⟩ := fnC_inv hbody hfn
  have hin : ∃ F c, P.funcs[f]? = some F ∧ F.name ≠ "runtime.NumGoroutine" ∧ F.body = some c := ⟨F, c, hF, hname, hbody⟩
  cases hac : acode O q (restrict live ((t, th.getD .nili) :: mkEnv 0 args)) ([] :: σ) with
  | none => rw [hac] at h; cases h
  | some y =>
  obtain ⟨x, e, σ1⟩ := y
  rw [hac] at h
  have hx : (∀ id, x ≠ .exit id) ∧ (∀ d, x ≠ .thr d) ∧ ∃ s σ2, σ1 = s :: σ2 ∧ resL e σ1 fn.res = some [] ∧ r = .val (.tup []) σ2 := by
    cases x with
    | exit id => simp at h
    | thr d => simp at h
    | normal =>
      dsimp only at h
      split at h
      · rename_i s σ2 hres
        cases h
        exact ⟨by simp, by simp, _, σ2, rfl, hres, rfl⟩
      · cases h
    | ret =>
      dsimp only at h
      split at h
      · rename_i s σ2 hres
        cases h
        exact ⟨by simp, by simp, _, σ2, rfl, hres, rfl⟩
      · cases h
  obtain ⟨hx1, hx2, s, σ2, rfl, hres, rfl⟩ := hx
  obtain ⟨id, ops, y, o, ntr, rfl, hy, hops, hop⟩ := rcvCode rfl hqm (by rw [← hbd]; exact hcode)
  have walk : ∀ (base : Nat) (g : G) (w : World) (vs : Array Value) (u : FrameMode), Inv (CR0 P) base g σ w → LowS σ → 0 < σ.length → RelL g args vs.toList → Falls g th u →
      ∀ (c0 : Frame) (cs : List Frame), c0.mode = u → ∃ (v : Value) (u' : FrameMode) (w' : World) (fr : Frame) (g' : G), Goes σ σ2 ∧ settle u' = .returning ∧ Ev g w g' w' ∧ Inv (CR0 P) base g' σ2 w' ∧
        Steps P (lone (Frame.enter P f vs .deferred) (c0 :: cs) w) (lone fr ({ c0 with mode := u' } :: cs) w') ∧ fr.kind = .deferred ∧ fr.going P w' (.returned v) := by
    intro base g w vs u hi hl hp hr hfa c0 cs hmode
    obtain ⟨b, a, hfr, hbdf, hbf, hbk, hro, ha⟩ := enter_at ann.ownv .deferred hF hbody (by omega) (σ := [] :: σ) hi.push (hl.push hi) (by simp) hr
    obtain ⟨hdst, hn, hgrd⟩ := opC_inv hop
    obtain ⟨hkc, hmk⟩ := opC_k hop
    obtain ⟨args0, ts0, hopo⟩ := kC_eq hkc
    have ho0 : ops[0]? = some o := by
      have := congrArg (·[0]?) hops
      simpa using this
    have hsize : ops.size = 1 := by
      have := congrArg List.length hops
      simpa using this
    have hguard : o.guard = none := by
      rcases hgrd with ⟨h1, _⟩ | ⟨_, _, _, _, h2, _⟩
      · exact h1
      · cases h2
    have hdt : o.dst = some t := hdst.symm
    -- what recover finds
    have hrec : ∃ (v : Value) (u' : FrameMode), RelV g (th.getD .nili) v ∧ settle u' = .returning ∧
        step P (lone (b.atR a [.inRegion ops [0], .code y]) (c0 :: cs) w) = .next (lone (b.atR (a.put o.dst v) [.inRegion ops [], .code y]) ({ c0 with mode := u' } :: cs) w) := by
      have hst := step_recover (P := P) (b := b) (a := a) (k := [.code y]) (cs := c0 :: cs) (w := w) (is := []) ho0 hguard hopo hro hbk
      cases th with
      | none =>
        obtain rfl : u = .returning := hfa
        refine ⟨.nilIface, .returning, .nili, rfl, ?_⟩
        rw [hst]
        have : recoverD (c0 :: cs) = none := by simp [recoverD, hmode]
        rw [this]
        have : ({ c0 with mode := .returning } : Frame) = c0 := by cases c0; simp only at hmode; subst hmode; rfl
        rw [this]
      | some d =>
        obtain ⟨v, hv, rfl⟩ := hfa
        refine ⟨v, .panicking [{ v, recovered := true }], hv, rfl, ?_⟩
        rw [hst]
        have : recoverD (c0 :: cs) = some (v, { c0 with mode := .panicking [{ v, recovered := true }] } :: cs) := by simp [recoverD, hmode]
        rw [this]
    obtain ⟨v, u', hv, hset, hstep⟩ := hrec
    have ha1 : At (CR0 P) base ann.ownv g w F.ntmps b g w (fun _ => 0) ((t, th.getD .nili) :: mkEnv 0 args) ([] :: σ) (a.put o.dst v) := by
      refine ha.go (Ev.refl g w) ha.inv (.refl _) ?_ put_size put_defers
      have := ha.fr.put (df := a.defers) (dst := o.dst) (d := th.getD .nili) (c := v) (by
        have : ∀ d, RelV g d v → RelT g (fun _ => 0) (mkEnv 0 args) d v := fun d h => RelT.of h
        exact this _ hv) (hmk rfl) (fun t ht => by rw [ha.size]; exact hn t ht)
      rw [hdt] at this ⊢
      exact this
    obtain ⟨g1, w1, B1, a1, t1, k1, k2, k3, k4, k5⟩ := code_ok (b := b) (cs := { c0 with mode := u' } :: cs) (k := []) hm hO y hy hac (ha1.restrict live)
    obtain ⟨w2, uu, n1, n2, n4, n5, n6, n7⟩ := out_ok (b := b) (cs := { c0 with mode := u' } :: cs) (fr := b) (w := w) hro k4 hx1 k2 _ k1
    have huu : uu = .returning := by
      cases x with
      | exit id => exact absurd rfl (hx1 id)
      | thr d => exact absurd rfl (hx2 d)
      | normal => exact n2
      | ret => exact n2
    subst huu
    obtain ⟨rv, hv1, hv2⟩ := results_ok (P := P) n4 n6 hress hres
    obtain ⟨i3, l3⟩ := n6.pop k2.low
    have hgo : Goes σ σ2 := goes_pop k5 rfl l3
    refine ⟨rv, u', w2, { b.atR a1 t1 with mode := .returning, defers := b.defers }, g1.cut σ2.length, hgo, hset, n5.cut (fun l i L h => by rw [hgo.len]; exact hi.lvl h), i3, ?_, hbk, ⟨rfl, hbdf, F, ?_, hv1⟩⟩
    · rw [hfr]
      refine .head stepR_seq (.head stepR_region ?_)
      rw [hsize]
      exact .head hstep (.head (stepR_region_end (ops := ops)) n1)
    · show P.funcs[b.fn]? = some F
      rw [hbf]; exact hF
  refine ⟨hin, fun base g w vs u hi hl hp hr hfa => ⟨?_, fun c0 cs hmode => ?_⟩⟩
  · obtain ⟨_, _, _, _, _, hgo, _⟩ := walk base g w vs u hi hl hp hr hfa { (default : Frame) with mode := u } [] rfl
    exact hgo
  · obtain ⟨v, u', w', fr, g', hgo, hset, he, hi', hs, hk, hg⟩ := walk base g w vs u hi hl hp hr hfa c0 cs hmode
    exact ⟨.returned v, u', w', fr, ⟨v, g', rfl, hset, he, hi'⟩, hs, hk, hg⟩
end
end Go.Abs

/-
  What is answered at last is what one step more answers.
-/
set_option linter.unusedVariables false
set_option linter.unusedSimpArgs false
namespace Go.Abs

def Hangs {α : Type} (O : Oracle) (F : Oracle → Option α) (x : α) : Prop :=
  ∃ L : List (Q × R), (∀ p ∈ L, O p.1 = some p.2) ∧ ∀ O' : Oracle, (∀ p ∈ L, O' p.1 = some p.2) → F O' = some x

variable {α β γ : Type} {O : Oracle}

theorem Hangs.const {x : α} : Hangs O (fun _ => some x) x := ⟨[], by simp, fun _ _ => rfl⟩

theorem Hangs.of {F : Oracle → Option α} {x : α} (h : ∀ O', F O' = some x) : Hangs O F x := ⟨[], by simp, fun O' _ => h O'⟩

theorem Hangs.ask {q : Q} {r : R} (h : O q = some r) : Hangs O (fun O' => O' q) r := ⟨[(q, r)], by simpa using h, fun O' h' => h' (q, r) (by simp)⟩

theorem Hangs.andThen {F : Oracle → Option α} {G : Oracle → Option β} {x : α} {y : β} (h1 : Hangs O F x) (h2 : Hangs O G y) {H : Oracle → Option γ} {z : γ}
    (h : ∀ O', F O' = some x → G O' = some y → H O' = some z) : Hangs O H z := by
  obtain ⟨L1, k1, k2⟩ := h1
  obtain ⟨L2, k3, k4⟩ := h2
  refine ⟨L1 ++ L2, fun p hp => ?_, fun O' h' => h O' (k2 O' fun p hp => h' p (by simp [hp])) (k4 O' fun p hp => h' p (by simp [hp]))⟩
  rcases List.mem_append.1 hp with hp | hp
  · exact k1 p hp
  · exact k3 p hp

theorem Hangs.map {F : Oracle → Option α} {x : α} (h1 : Hangs O F x) {H : Oracle → Option β} {z : β} (h : ∀ O', F O' = some x → H O' = some z) : Hangs O H z := by
  obtain ⟨L1, k1, k2⟩ := h1
  exact ⟨L1, k1, fun O' h' => h O' (k2 O' h')⟩

theorem agree_all {α : Type} {us : List α} {f : α → Option R} {r : R} (h : agree (us.map f) = some r) : ∀ u ∈ us, f u = some r := by
  cases us with
  | nil => simp [agree] at h
  | cons v vs =>
    simp only [List.map_cons, agree] at h
    split at h
    · rename_i hall
      intro u hu
      rcases List.mem_cons.1 hu with rfl | hu
      · exact h
      · rw [hall (f u) (List.mem_map.2 ⟨u, hu, rfl⟩)]; exact h
    · cases h
theorem all_agree {α : Type} {us : List α} {f : α → Option R} {r : R} (hne : us ≠ []) (h : ∀ u ∈ us, f u = some r) : agree (us.map f) = some r := by
  cases us with
  | nil => exact absurd rfl hne
  | cons v vs =>
    simp only [List.map_cons, agree]
    rw [if_pos, h v (by simp)]
    intro x hx
    obtain ⟨u, hu, rfl⟩ := List.mem_map.1 hx
    rw [h u (by simp [hu]), h v (by simp)]

theorem hangs_callv {kp : Bool} {fv : D} {args : List D} {σ : Stack} {x : D × Stack} (h : callv O kp fv args σ = some x) : Hangs O (fun O' => callv O' kp fv args σ) x := by
  cases fv <;> simp only [callv, reduceCtorEq] at h
  · rename_i f first cap
    cases hq : O (.call kp f (first ++ args ++ cap) σ) with
    | none => rw [hq] at h; cases h
    | some r => exact (Hangs.ask hq).map fun O' h' => by simp only [callv, h']; rw [hq] at h; exact h
  · rename_i l i
    cases hq : O (.round l i args σ) with
    | none => rw [hq] at h; cases h
    | some r => exact (Hangs.ask hq).map fun O' h' => by simp only [callv, h']; rw [hq] at h; exact h

theorem hangs_callf {fv : D} {args : List D} {σ : Stack} {x : D × Stack} (h : callf O fv args σ = some x) : Hangs O (fun O' => callf O' fv args σ) x := by
  cases fv <;> simp only [callf, reduceCtorEq] at h
  rename_i f first cap
  cases hq : O (.call false f (first ++ args ++ cap) σ) with
  | none => rw [hq] at h; cases h
  | some r => exact (Hangs.ask hq).map fun O' h' => by simp only [callf, h']; rw [hq] at h; exact h

theorem hangs_aop {op : Op} {e : Env} {σ : Stack} {x : Env × Stack} (h : aop O op e σ = some x) : Hangs O (fun O' => aop O' op e σ) x := by
  obtain ⟨dst, grd, ntr, k⟩ := op
  cases k
  case call kp f args =>
    simp only [aop] at h
    cases hc : callv O kp (opd e f) (args.map (opd e)) σ with
    | none => rw [hc] at h; cases h
    | some y => exact (hangs_callv hc).map fun O' h' => by simp only [aop, h']; rw [hc] at h; exact h
  all_goals exact .of fun O' => h

theorem hangs_aops : ∀ {ops : List Op} {e : Env} {σ : Stack} {x : Env × Stack}, aops O ops e σ = some x → Hangs O (fun O' => aops O' ops e σ) x
  | [], e, σ, x, h => .of fun O' => h
  | op :: r, e, σ, x, h => by
    simp only [aops] at h
    cases hg : op.grd with
    | none =>
      rw [hg] at h
      simp only [Option.bind_eq_some_iff] at h
      obtain ⟨y, h1, h2⟩ := h
      exact (hangs_aop h1).andThen (hangs_aops h2) fun O' k1 k2 => by simp only [aops, hg, k1, Option.bind_some, k2]
    | some p =>
      obtain ⟨g, want⟩ := p
      rw [hg] at h
      dsimp only at h
      cases hb : (get e g).bit <;> rw [hb] at h <;> try (cases h; done)
      rename_i b
      dsimp only at h
      split at h
      · rename_i hw
        simp only [Option.bind_eq_some_iff] at h
        obtain ⟨y, h1, h2⟩ := h
        exact (hangs_aop h1).andThen (hangs_aops h2) fun O' k1 k2 => by simp only [aops, hg, hb, if_pos hw, k1, Option.bind_some, k2]
      · rename_i hw
        exact (hangs_aops h).map fun O' k1 => by simp only [aops, hg, hb, if_neg hw, k1]

theorem hangs_callr {fv : D} {args : List D} {σ : Stack} {r : R} (h : callr O fv args σ = some r) : Hangs O (fun O' => callr O' fv args σ) r := by
  cases fv <;> simp only [callr, reduceCtorEq] at h
  exact (Hangs.ask h).map fun O' h' => by simp only [callr, h']

theorem hangs_aoptR {live : List Nat} {dst : Option Nat} {post : List Op} {e : Env} {r : Option R} {x : Exit × Env × Stack} (h : aoptR O live dst post e r = some x) : Hangs O (fun O' => aoptR O' live dst post e r) x := by
  cases r with
  | none => simp [aoptR] at h
  | some r =>
    cases r with
    | val d σ' =>
      simp only [aoptR, Option.map_eq_some_iff] at h
      obtain ⟨y, h1, rfl⟩ := h
      exact (hangs_aops h1).map fun O' k => by simp only [aoptR, k, Option.map_some]
    | thr d σ' => exact .of fun O' => h
    | ctl => simp [aoptR] at h

theorem hangs_aopt {live : List Nat} {op : Op} {post : List Op} {e : Env} {σ : Stack} {x : Exit × Env × Stack} (h : aopt O live op post e σ = some x) : Hangs O (fun O' => aopt O' live op post e σ) x := by
  obtain ⟨dst, grd, ntr, k⟩ := op
  cases grd with
  | some _ => simp [aopt] at h
  | none =>
  cases k
  case call kp f args =>
    cases kp with
    | true => simp [aopt] at h
    | false =>
      simp only [aopt] at h
      cases hc : callr O (opd e f) (args.map (opd e)) σ with
      | none => rw [hc] at h; simp [aoptR] at h
      | some r =>
        rw [hc] at h
        exact (hangs_callr hc).andThen (hangs_aoptR h) fun O' k1 k2 => by simp only [aopt, k1, k2]
  case pan y => exact .of fun O' => h
  all_goals simp [aopt] at h

theorem hangs_acode : ∀ {c : Cmd} {e : Env} {σ : Stack} {x : Exit × Env × Stack}, acode O c e σ = some x → Hangs O (fun O' => acode O' c e σ) x
  | .nop, e, σ, x, h => .of fun O' => h
  | .frz _, e, σ, x, h => .of fun O' => h
  | .exit id, e, σ, x, h => .of fun O' => h
  | .ret, e, σ, x, h => .of fun O' => h
  | .reg live ops, e, σ, x, h => by
    simp only [acode, Option.map_eq_some_iff] at h
    obtain ⟨y, h1, rfl⟩ := h
    exact (hangs_aops h1).map fun O' k => by simp only [acode, k, Option.map_some]
  | .seq a b, e, σ, x, h => by
    simp only [acode, Option.bind_eq_some_iff] at h
    obtain ⟨⟨x1, e1, σ1⟩, h1, h2⟩ := h
    cases x1 with
    | normal => exact (hangs_acode h1).andThen (hangs_acode h2) fun O' k1 k2 => by simp only [acode, k1, Option.bind_some, k2]
    | exit id => exact (hangs_acode h1).map fun O' k1 => by simp only [acode, k1, Option.bind_some]; exact h2
    | ret => exact (hangs_acode h1).map fun O' k1 => by simp only [acode, k1, Option.bind_some]; exact h2
    | thr d => exact (hangs_acode h1).map fun O' k1 => by simp only [acode, k1, Option.bind_some]; exact h2
  | .ite c a b, e, σ, x, h => by
    simp only [acode] at h
    cases hb : opd e c <;> rw [hb] at h <;> try (cases h; done)
    rename_i t
    cases t with
    | true => exact (hangs_acode (by simpa using h)).map fun O' k => by simp only [acode, hb, if_true, k]
    | false => exact (hangs_acode (by simpa using h)).map fun O' k => by simp only [acode, hb, Bool.false_eq_true, if_false, k]
  | .blk id a, e, σ, x, h => by
    simp only [acode, Option.map_eq_some_iff] at h
    obtain ⟨y, h1, rfl⟩ := h
    exact (hangs_acode h1).map fun O' k => by simp only [acode, k, Option.map_some]
  | .treg live pre op post, e, σ, x, h => by
    simp only [acode, Option.bind_eq_some_iff] at h
    obtain ⟨⟨e1, σ1⟩, h1, h2⟩ := h
    exact (hangs_aops h1).andThen (hangs_aopt h2) fun O' k1 k2 => by simp only [acode, k1, Option.bind_some, k2]
  | .dfr .., e, σ, x, h => by simp [acode] at h
  | .mloop live it nx ok b a rest, e, σ, x, h => by
    simp only [acode] at h
    cases hq : O (.mloop live it nx ok b a rest e σ) with
    | none => rw [hq] at h; cases h
    | some r => exact (Hangs.ask hq).map fun O' h' => by simp only [acode, h']; rw [hq] at h; exact h
  | .loop live seg a, e, σ, x, h => by
    simp only [acode] at h
    cases hq : O (.loop live seg a e σ) with
    | none => rw [hq] at h; cases h
    | some r => exact (Hangs.ask hq).map fun O' k => by simp only [acode, k]; rw [hq] at h; exact h
  | .rngf live f params asg body, e, σ, x, h => by
    simp only [acode] at h
    split at h
    case h_2 => cases h
    rename_i l i σ1 hn
    cases hc : callf O (opd e f) [.yld l i] σ1 with
    | none => rw [hc] at h; cases h
    | some y =>
      rw [hc] at h
      exact (hangs_callf hc).map fun O' k => by simp only [acode, hn, k]; exact h

theorem hangs_dcallR {fv : D} {args : List D} {th : Option D} {σ : Stack} {r : R} (h : dcallR O fv args th σ = some r) : Hangs O (fun O' => dcallR O' fv args th σ) r := by
  cases fv <;> simp only [dcallR, reduceCtorEq] at h
  exact (Hangs.ask h).map fun O' h' => by simp only [dcallR, h']

theorem hangs_dtail {res : List Res} {σ : Stack} {fv : D} {args : List D} {y : Exit × Env × Stack} {r : R} (h : dtail O res σ fv args (some y) = some r) : Hangs O (fun O' => dtail O' res σ fv args (some y)) r := by
  obtain ⟨x, e, σ1⟩ := y
  have one : ∀ th, dleave res σ e (dcallR O fv args th σ1) = some r → Hangs O (fun O' => dleave res σ e (dcallR O' fv args th σ1)) r := by
    intro th h
    cases hc : dcallR O fv args th σ1 with
    | none => rw [hc] at h; cases h
    | some rr => exact (hangs_dcallR hc).map fun O' k => by rw [k, ← hc]; exact h
  cases x with
  | exit id => simp [dtail] at h
  | normal => exact one none h
  | ret => exact one none h
  | thr d => exact one (some d) h

theorem hangs_dbody {fn : Fn} {σ : Stack} {y : Cmd × Opd × List Opd × Cmd} {e0 : Env} {σ0 : Stack} {r : R} (h : dbody O fn σ (some y) e0 σ0 = some r) : Hangs O (fun O' => dbody O' fn σ (some y) e0 σ0) r := by
  obtain ⟨a, f, args, q⟩ := y
  simp only [dbody] at h
  split at h
  case h_2 => cases h
  rename_i e σ1 hA
  cases hq : acode O q e σ1 with
  | none => rw [hq] at h; simp [dtail] at h
  | some z =>
    rw [hq] at h
    exact ((hangs_acode hA).andThen (hangs_acode hq) fun O' k1 k2 => (show (fun O' => (acode O' a e0 σ0, acode O' q e σ1) |> some) O' = some (some (.normal, e, σ1), some z) by simp [k1, k2])).andThen (hangs_dtail h) fun O' k1 k2 => by
      simp only [Option.some.injEq, Prod.mk.injEq] at k1
      simp only [dbody, k1.1, k1.2, k2]

theorem split_none0 : ∀ {c A : Cmd} {r : Opd × List Opd × Cmd} {e e1 : Env} {σ σ1 : Stack}, splitT c = some (A, r) → acode O A e σ = some (.normal, e1, σ1) → acode O c e σ = none
  | .dfr f xs q, A, r, e, e1, σ, σ1, h, ha => rfl
  | .seq a b, A, r, e, e1, σ, σ1, h, ha => by
    simp only [splitT, Option.map_eq_some_iff] at h
    obtain ⟨⟨A', r'⟩, h1, h2⟩ := h
    cases h2
    simp only [acode, Option.bind_eq_some_iff, Prod.exists] at ha
    obtain ⟨x2, e2, σ2, h3, h4⟩ := ha
    cases x2 with
    | normal => simp only [acode, h3, Option.bind_some]; exact split_none0 h1 h4
    | _ => simp at h4
  | .nop, _, _, _, _, _, _, h, _ | .frz _, _, _, _, _, _, _, h, _ | .reg .., _, _, _, _, _, _, h, _ | .ite .., _, _, _, _, _, _, h, _ | .blk .., _, _, _, _, _, _, h, _ | .loop .., _, _, _, _, _, _, h, _
  | .rngf .., _, _, _, _, _, _, h, _ | .mloop .., _, _, _, _, _, _, h, _ | .treg .., _, _, _, _, _, _, h, _ | .exit _, _, _, _, _, _, _, h, _ | .ret, _, _, _, _, _, _, h, _ => by simp [splitT] at h

theorem split_none {c : Cmd} {y : Cmd × Opd × List Opd × Cmd} {fn : Fn} {σ : Stack} {e0 : Env} {σ0 : Stack} {r : R} (hs : splitT c = some y) (h : dbody O fn σ (some y) e0 σ0 = some r) : acode O c e0 σ0 = none := by
  obtain ⟨a, f, args, q⟩ := y
  simp only [dbody] at h
  split at h
  case h_2 => cases h
  rename_i e σ1 hA
  exact split_none0 hs hA

theorem hangs_mend {l i b : Nat} {rest : Cmd} {y : Option (Exit × Env × Stack)} {r : R} (h : mend O l i b rest y = some r) : Hangs O (fun O' => mend O' l i b rest y) r := by
  cases y with
  | none => simp [mend] at h
  | some y =>
  obtain ⟨x, e, σ1⟩ := y
  cases x with
  | normal => simp [mend] at h
  | thr d => simp [mend] at h
  | ret => exact .of fun O' => h
  | exit j =>
    simp only [mend] at h
    by_cases hj : j = b
    · rw [if_pos hj] at h
      simp only [Option.map_eq_some_iff] at h
      obtain ⟨z, h1, rfl⟩ := h
      exact (hangs_acode h1).map fun O' k => by simp only [mend, if_pos hj, k, Option.map_some]
    · rw [if_neg hj] at h
      exact .of fun O' => by simp only [mend, if_neg hj]; exact h

theorem hangs_stepQ {T : Tbl} : ∀ {q : Q} {r : R}, stepQ T O q = some r → Hangs O (fun O' => stepQ T O' q) r
  | .call kp f args σ, r, h => by
    simp only [stepQ] at h
    cases hT : T f with
    | none =>
      rw [hT] at h
      dsimp only at h
      exact .of fun O' => by simp only [stepQ, hT]; exact h
    | some fn =>
    rw [hT] at h
    dsimp only at h
    split at h
    case isFalse => cases h
    rename_i hl
    cases hc : acode O fn.body (mkEnv 0 args) (if kp then σ else [] :: σ) with
    | none =>
      rw [hc] at h
      dsimp only at h
      cases kp with
      | true => simp at h
      | false =>
        simp only [Bool.false_eq_true, if_false] at h
        cases hsp : splitT fn.body with
        | none => rw [hsp] at h; simp [dbody] at h
        | some y =>
          rw [hsp] at h
          refine (hangs_dbody h).map fun O' k => ?_
          have hn : acode O' fn.body (mkEnv 0 args) ([] :: σ) = none := split_none hsp k
          simp only [stepQ, hT, if_pos hl, Bool.false_eq_true, if_false, hn, hsp, k]
    | some y =>
      rw [hc] at h
      obtain ⟨yx, ye, yσ⟩ := y
      exact (hangs_acode hc).map fun O' k => by
        simp only [stepQ, hT, if_pos hl, k]
        cases yx <;> exact h
  | .loop live seg c e σ, r, h => by
    simp only [stepQ] at h
    cases hc : acode O c (restrict live e) (if seg then [] :: σ else σ) with
    | none => rw [hc] at h; cases h
    | some y =>
      obtain ⟨x, e1, σ1⟩ := y
      rw [hc] at h
      dsimp only at h
      cases x with
      | normal =>
        dsimp only at h
        exact (hangs_acode hc).andThen (Hangs.ask h) fun O' k1 k2 => by simp only [stepQ, k1]; exact k2
      | exit id => exact (hangs_acode hc).map fun O' k1 => by simp only [stepQ, k1]; exact h
      | ret => exact (hangs_acode hc).map fun O' k1 => by simp only [stepQ, k1]; exact h
      | thr d => exact (hangs_acode hc).map fun O' k1 => by simp only [stepQ, k1]; exact h
  | .round l i args σ, r, h => by
    simp only [stepQ] at h
    cases hb : blk? σ l i with
    | none => rw [hb] at h; cases h
    | some bl =>
    rw [hb] at h
    cases bl with
    | cells => cases h
    | dead => cases h
    | loop lp =>
    dsimp only at h
    split at h
    case isFalse => cases h
    rename_i hl
    cases hc : acode O lp.asg (putAll lp.params args lp.env) ([] :: σ) with
    | none => rw [hc] at h; cases h
    | some y =>
    obtain ⟨x, e1, σ1⟩ := y
    rw [hc] at h
    cases x with
    | exit id => cases h
    | ret => cases h
    | thr d => cases h
    | normal =>
    dsimp only at h
    cases hb1 : blk? σ1 l i with
    | none => rw [hb1] at h; cases h
    | some bl1 =>
    rw [hb1] at h
    cases bl1 with
    | cells => cases h
    | dead => cases h
    | loop lp1 =>
    dsimp only at h
    split at h
    case isFalse => cases h
    rename_i hs
    cases hd : acode O lp.body e1 (setBlk σ1 l i (.loop { lp1 with state := 1 })) with
    | none => rw [hd] at h; cases h
    | some z =>
    rw [hd] at h
    exact (hangs_acode hc).andThen (hangs_acode hd) fun O' k1 k2 => by simp only [stepQ, hb, if_pos hl, k1, hb1, if_pos hs, k2]; exact h
  | .dcall f args th σ, r, h => by
    simp only [stepQ] at h
    cases hT : T f with
    | none => rw [hT] at h; cases h
    | some fn =>
    rw [hT] at h
    dsimp only at h
    split at h
    case isFalse => cases h
    rename_i hl
    cases hr : afterRcv th args fn.body with
    | none => rw [hr] at h; cases h
    | some y =>
    obtain ⟨e0, q⟩ := y
    rw [hr] at h
    dsimp only at h
    cases hc : acode O q e0 ([] :: σ) with
    | none => rw [hc] at h; cases h
    | some z =>
      rw [hc] at h
      exact (hangs_acode hc).map fun O' k => by simp only [stepQ, hT, if_pos hl, hr, k]; exact h
  | .mloop live it nx ok b c rest e σ, r, h => by
    simp only [stepQ] at h
    cases hop : opd (restrict live e) it <;> rw [hop] at h <;> try (cases h; done)
    rename_i l i
    dsimp only at h
    split at h
    · rename_i m n js hit
      cases hc : acode O c ((ok, .bool false) :: (nx, .undef) :: restrict live e) σ with
      | none => rw [hc] at h; simp [mend] at h
      | some y =>
        rw [hc] at h
        exact (hangs_acode hc).andThen (hangs_mend h) fun O' k k2 => by simp only [stepQ, hop, hit, k, k2]
    · rename_i m n js us hne hit
      have one : ∀ u, mnext O live it l i nx ok b c rest (acode O c ((ok, .bool true) :: (nx, .undef) :: restrict live e) (setBlk σ l i (.cells 1 (m :: .int .i64 (n : Nat) :: .int .i64 (u : Nat) :: js)))) = some r →
          Hangs O (fun O' => mnext O' live it l i nx ok b c rest (acode O' c ((ok, .bool true) :: (nx, .undef) :: restrict live e) (setBlk σ l i (.cells 1 (m :: .int .i64 (n : Nat) :: .int .i64 (u : Nat) :: js))))) r := by
        intro u hu
        cases hc : acode O c ((ok, .bool true) :: (nx, .undef) :: restrict live e) (setBlk σ l i (.cells 1 (m :: .int .i64 (n : Nat) :: .int .i64 (u : Nat) :: js))) with
        | none => rw [hc] at hu; simp [mnext, mend] at hu
        | some y =>
          obtain ⟨x, e1, σ1⟩ := y
          rw [hc] at hu
          cases x with
          | normal => exact (hangs_acode hc).andThen (Hangs.ask hu) fun O' k1 k2 => by simp only [k1]; exact k2
          | exit id => exact (hangs_acode hc).andThen (hangs_mend (b := b) (rest := rest) (y := some (.exit id, e1, σ1)) hu) fun O' k1 k2 => by simp only [k1]; exact k2
          | ret => exact (hangs_acode hc).andThen (hangs_mend (b := b) (rest := rest) (y := some (.ret, e1, σ1)) hu) fun O' k1 k2 => by simp only [k1]; exact k2
          | thr d => simp [mnext, mend] at hu
      have all : ∀ vs : List Nat, (∀ v ∈ vs, mnext O live it l i nx ok b c rest (acode O c ((ok, .bool true) :: (nx, .undef) :: restrict live e) (setBlk σ l i (.cells 1 (m :: .int .i64 (n : Nat) :: .int .i64 (v : Nat) :: js)))) = some r) →
          ∃ L : List (Q × R), (∀ p ∈ L, O p.1 = some p.2) ∧ ∀ O' : Oracle, (∀ p ∈ L, O' p.1 = some p.2) → ∀ v ∈ vs, mnext O' live it l i nx ok b c rest (acode O' c ((ok, .bool true) :: (nx, .undef) :: restrict live e) (setBlk σ l i (.cells 1 (m :: .int .i64 (n : Nat) :: .int .i64 (v : Nat) :: js)))) = some r := by
        intro vs
        induction vs with
        | nil => intro _; exact ⟨[], by simp, by simp⟩
        | cons v vs ih =>
          intro hv
          obtain ⟨L1, h1, h2⟩ := one v (hv v (by simp))
          obtain ⟨L2, h3, h4⟩ := ih fun v' hv' => hv v' (by simp [hv'])
          refine ⟨L1 ++ L2, fun p hp => ?_, fun O' h' v' hv' => ?_⟩
          · rcases List.mem_append.1 hp with hp | hp
            · exact h1 p hp
            · exact h3 p hp
          · rcases List.mem_cons.1 hv' with rfl | hv'
            · exact h2 O' fun p hp => h' p (by simp [hp])
            · exact h4 O' (fun p hp => h' p (by simp [hp])) v' hv'
      obtain ⟨L, h1, h2⟩ := all us (agree_all h)
      refine ⟨L, h1, fun O' h' => ?_⟩
      have h3 := h2 O' h'
      simp only [stepQ, hop, hit]
      cases us with
      | nil => first | exact (hne rfl).elim | exact (hne _ rfl).elim | exact (hne _ _ _ rfl).elim | exact hne.elim
      | cons v vs => exact all_agree (by simp) h3
    · cases h

theorem stepQ_mono {T : Tbl} {O O' : Oracle} (h : ∀ q r, O q = some r → O' q = some r) {q : Q} {r : R} (hq : stepQ T O q = some r) : stepQ T O' q = some r := by
  obtain ⟨L, h1, h2⟩ := hangs_stepQ hq
  exact h2 O' fun p hp => h _ _ (h1 p hp)

theorem it_mono {T : Tbl} : ∀ {n m : Nat}, n ≤ m → ∀ {q : Q} {r : R}, it T n q = some r → it T m q = some r
  | 0, m, _, q, r, h => by simp [it] at h
  | n + 1, 0, hnm, q, r, h => by omega
  | n + 1, m + 1, hnm, q, r, h => stepQ_mono (fun _ _ hh => it_mono (Nat.le_of_succ_le_succ hnm) hh) h

theorem lim_iff {T : Tbl} {q : Q} {r : R} : lim T q = some r ↔ ∃ n, it T n q = some r := by
  constructor
  · intro h
    unfold lim at h
    split at h
    · rename_i hex
      cases h
      exact ⟨_, hex.choose_spec.choose_spec⟩
    · cases h
  · rintro ⟨n, h⟩
    have hex : ∃ n r, it T n q = some r := ⟨n, r, h⟩
    unfold lim
    rw [dif_pos hex]
    have h1 := it_mono (Nat.le_max_left n hex.choose) h
    have h2 := it_mono (Nat.le_max_right n hex.choose) hex.choose_spec.choose_spec
    rw [h1] at h2
    cases h2
    rfl

theorem lim_all {T : Tbl} : ∀ {L : List (Q × R)}, (∀ p ∈ L, lim T p.1 = some p.2) → ∃ n, ∀ p ∈ L, it T n p.1 = some p.2
  | [], _ => ⟨0, by simp⟩
  | p :: L, h => by
    obtain ⟨n, hn⟩ := lim_all (L := L) fun q hq => h q (by simp [hq])
    obtain ⟨m, hm⟩ := lim_iff.1 (h p (by simp))
    refine ⟨max n m, fun q hq => ?_⟩
    rcases List.mem_cons.1 hq with rfl | hq
    · exact it_mono (Nat.le_max_right n m) hm
    · exact it_mono (Nat.le_max_left n m) (hn q hq)

theorem lim_step {T : Tbl} {q : Q} {r : R} (h : stepQ T (lim T) q = some r) : lim T q = some r := by
  obtain ⟨L, h1, h2⟩ := hangs_stepQ h
  obtain ⟨n, hn⟩ := lim_all h1
  exact lim_iff.2 ⟨n + 1, h2 (it T n) hn⟩

end Go.Abs

/-
  A range over a map, in whatever order: what all orders answer alike is what the machine does.
-/
set_option linter.unusedVariables false
set_option linter.unusedSimpArgs false
namespace Go.Abs
open Go
open Go.ChangeMaps (setBlock)

section
variable {P : Program} {T : Tbl} {O : Oracle} {CR : CRel} {base : Nat} {g : G} {σ : Stack} {w : World}

theorem Inv.setIter (hi : Inv CR base g σ w) {l i b lm im bm n : Nat} {b0 : Blk} {js : List Nat} (hL : g.loc l i = some (.it b)) (hb : blk? σ l i = some b0) (hm : g.loc lm im = some (.mp bm)) (hnd : js.Nodup) (hlt : ∀ j ∈ js, j < n) {w1 : World} (hw1 : w1 = w ∨ w1 = w.drew) :
    Inv CR base (g.setLoc l i (.it b)) (setBlk σ l i (.cells 1 (.yld lm im :: .int .i64 (n : Nat) :: js.map (fun j : Nat => D.int .i64 j)))) (setBlock w1 b (.mapIter (some bm) n js.reverse.toArray n)) ∧
      Ev g w (g.setLoc l i (.it b)) (setBlock w1 b (.mapIter (some bm) n js.reverse.toArray n)) := by
  have hlt' := (hi.lo l i _ b hL rfl).2
  have hh : w1.heap = w.heap := by rcases hw1 with rfl | rfl <;> rfl
  have hos : w1.os = w.os := by rcases hw1 with rfl | rfl <;> rfl
  have htp : w1.tape = w.tape := by rcases hw1 with rfl | rfl <;> rfl
  have hout : w1.output = w.output := by rcases hw1 with rfl | rfl <;> rfl
  have hm2 : (g.setLoc l i (.it b)).loc lm im = some (.mp bm) := by
    rw [G.setLoc_other fun hc => by rw [hc.1, hc.2, hL] at hm; cases hm]
    exact hm
  refine hi.setCells hL hb (Loc.le_refl _) ⟨rfl, lm, im, bm, n, js, rfl, hm2, ?_, hnd, hlt⟩ (fun b' hb' hne => ?_) hos htp hout (by simp [setBlock, hh]) (fun b' hb' => .inl hb')
  · simp [setBlock, hh, hlt']
  · have : b ≠ b' := fun hc => hne (by rw [hc]; rfl)
    simp [setBlock, hh, this]

theorem Inv.endIter (hi : Inv CR base g σ w) {l i b : Nat} {L : Loc} {b0 : Blk} (hL : g.loc l i = some L) (hd : L = .it b ∨ L = .dead) (hb : blk? σ l i = some b0) :
    Inv CR base (g.setLoc l i .dead) (setBlk σ l i .dead) w ∧ Ev g w (g.setLoc l i .dead) w := by
  have hle : g.le (g.setLoc l i .dead) := G.le_setLoc fun L0 e => by rw [hL] at e; cases e; rcases hd with rfl | rfl <;> simp [Loc.le]
  refine ⟨hi.turn l i hle (fun l' i' c => blk?_setBlk_other c) (fun l' i' c => G.setLoc_other c) (fun _ _ _ _ _ _ _ => rfl) ?_ hi.imm ?_ ?_ (Nat.le_refl _) ⟨_, G.setLoc_same⟩ (fun _ _ _ => rfl), ⟨hle, rfl, rfl, rfl, Nat.le_refl _, fun _ _ _ => rfl, ?_, fun b o v hv => .inl hv⟩⟩
  · intro L e; rw [G.setLoc_same] at e; cases e; exact ⟨_, blk?_setBlk hb, trivial⟩
  · intro l' i' L b e eb o
    by_cases c : l' = l ∧ i' = i
    · obtain ⟨rfl, rfl⟩ := c; rw [G.setLoc_same] at e; cases e; cases eb
    · rw [G.setLoc_other c] at e; exact hi.sep l' i' L b e eb o
  · intro L b e eb; rw [G.setLoc_same] at e; cases e; cases eb
  · intro b hb'
    obtain ⟨l', i', L, e, eb⟩ := hb'
    by_cases c : l' = l ∧ i' = i
    · obtain ⟨rfl, rfl⟩ := c; rw [G.setLoc_same] at e; cases e; cases eb
    · rw [G.setLoc_other c] at e; exact .inl ⟨l', i', L, e, eb⟩

theorem iterD_inv {l i n : Nat} {m : D} {js : List D} {us : List Nat} (h : iterD σ l i = some (m, n, js, us)) :
    ∃ lm im es, cells? σ l i 1 = some (m :: .int .i64 (n : Nat) :: js) ∧ mapD σ m = some (lm, im, es) ∧ es.length = n ∧ us = (List.range n).filter fun j : Nat => !(js.contains (.int .i64 j)) := by
  unfold iterD at h
  split at h
  case h_2 => cases h
  rename_i m' n' js' hc
  split at h
  case h_2 => cases h
  rename_i lm im es hm
  split at h
  case isFalse => cases h
  rename_i hl
  cases h
  exact ⟨lm, im, es, by rw [hl]; exact hc, hm, rfl, rfl⟩

theorem Outs.map {S : Frame → Prop} {g g' : G} {b : Frame} {a : Act} {todo : List Item} {x : Exit} (hg : ∀ d v, d.clean = true → RelV g d v → RelV g' d v) (h : Outs S g b a todo x) : Outs S g' b a todo x := by
  cases x with
  | thr d => obtain ⟨h0, v, h1, h2⟩ := h; exact ⟨h0, v, hg _ _ h0 h1, h2⟩
  | _ => exact h

theorem mloop_sound (hm : P.follows .mixedOrders = true) (hO : OrOk P (CR0 P) O) {live : List Nat} {it : Opd} {nx ok bid : Nat} {c rest : Cmd} {e : Env} {σ : Stack} {r : R}
    (h : stepQ T O (.mloop live it nx ok bid c rest e σ) = some r) : AnsOk P (CR0 P) (.mloop live it nx ok bid c rest e σ) r := by
  cases r with
  | val => trivial
  | thr => trivial
  | ctl x e' σ' =>
  intro ann blk rid ops p n it0 qs hit hmap hc hrest base g0 w0 b a k cs g w B ha
  subst hit
  obtain ⟨rid', ops', p', heq, o0, o1, hops, h1, h2, h3, h4, h5, h6, c1, c2, c3, c4, c5⟩ := mapC_inv hmap
  cases heq
  simp only [stepQ] at h
  -- the iterator
  have har := ha.restrict live
  cases hop : opd (restrict live e) (.t it0) <;> rw [hop] at h <;> try (cases h; done)
  rename_i l i
  dsimp only at h
  cases hitd : iterD σ l i with
  | none => rw [hitd] at h; cases h
  | some y =>
  obtain ⟨m, n', js, us⟩ := y
  obtain ⟨lm, im, es, hcs, hmd, hes, hus⟩ := iterD_inv hitd
  obtain ⟨tmps, df⟩ := a
  have hiv : RelV g (.yld l i) (tmps.getD it0 Go.undef) := by
    have h0 := har.fr.strip it0
    simp only [opd] at hop
    rw [hop] at h0; exact h0
  have hblk : ∃ cs', blk? σ l i = some (.cells 1 cs') ∧ cs' = m :: .int .i64 (n' : Nat) :: js := by
    unfold cells? at hcs
    split at hcs
    case h_2 => cases hcs
    rename_i v' cs' hb
    split at hcs
    case isFalse => cases hcs
    rename_i hv
    subst hv
    cases hcs
    exact ⟨_, hb, rfl⟩
  obtain ⟨cs', hblk, rfl⟩ := hblk
  obtain ⟨bi, bm, lm', im', js', hpt, hloc, hjs, hml, hheap, hnd, hlt⟩ : ∃ bi bm lm' im', ∃ js' : List Nat, tmps.getD it0 Go.undef = .pointer (some ⟨bi, 0, none⟩) ∧ g.loc l i = some (.it bi) ∧ (m = .yld lm' im' ∧ js = js'.map (fun j : Nat => D.int .i64 j)) ∧ g.loc lm' im' = some (.mp bm) ∧
      w.heap[bi]? = some (.mapIter (some bm) n' js'.reverse.toArray n') ∧ js'.Nodup ∧ ∀ j ∈ js', j < n' := by
    generalize tmps.getD it0 Go.undef = cv at hiv
    cases hiv with
    | yld _ _ bb r1 =>
      obtain ⟨b0, hb0, hrel⟩ := ha.inv.dom _ _ _ r1
      rw [hblk] at hb0; cases hb0
      exact hrel.elim
    | mpv _ _ bb r1 =>
      obtain ⟨b0, hb0, hrel⟩ := ha.inv.dom _ _ _ r1
      rw [hblk] at hb0; cases hb0
      obtain ⟨h0, _⟩ := hrel
      cases h0
    | bdv _ _ bb L r1 r2 =>
      obtain ⟨b0, hb0, hrel⟩ := ha.inv.dom _ _ _ r1
      rw [hblk] at hb0; cases hb0
      rcases r2 with ⟨c, rfl⟩ | rfl
      · obtain ⟨h0, _⟩ := hrel
        cases h0
      · exact hrel.elim
    | itv _ _ bb L r1 r2 =>
      obtain ⟨b0, hb0, hrel⟩ := ha.inv.dom _ _ _ r1
      rw [hblk] at hb0; cases hb0
      rcases r2 with rfl | rfl
      rotate_left
      · exact hrel.elim
      obtain ⟨_, lm', im', bm, n2, js', hce, hlm, hh, hnd, hlt⟩ := hrel
      simp only [List.cons.injEq, D.int.injEq, true_and] at hce
      obtain ⟨rfl, hn2, rfl⟩ := hce
      have hn2 : n' = n2 := by omega
      subst hn2
      exact ⟨bb, bm, lm', im', js', rfl, r1, ⟨rfl, rfl⟩, hlm, hh, hnd, hlt⟩
  obtain ⟨rfl, rfl⟩ := hjs
  obtain ⟨b2, ents, clock, v2, hc2, hl2, hblk2, hheap2, hrel2, hok⟩ := mapD_rel ha.inv (.mpv lm' im' bm hml) hmd
  cases hc2
  have hlen2 : es.length = ents.toList.length := by have := hrel2.length; simpa using this
  have hck : clock = n' := by rw [hok.2]; omega
  subst hck
  have hborn : ∀ y ∈ ents.toList, y.born < clock := by
    intro y hy
    have h0 : y.born ∈ ents.toList.map (·.born) := List.mem_map.2 ⟨y, hy, rfl⟩
    rw [hok.1] at h0
    have := List.mem_range.1 h0
    omega
  -- the code
  have ho0 : ops[0]? = some o0 := by have := congrArg (·[0]?) hops; simpa using this
  have ho1 : ops[1]? = some o1 := by have := congrArg (·[1]?) hops; simpa using this
  have hsize : ops.size = 2 := by have := congrArg List.length hops; simpa using this
  have hw0 : ∀ a : Act, Region.wanted o0 (yielded ops a.tmps) = true := fun a => by simp [Region.wanted, h3]
  have hw1 : ∀ a : Act, Region.wanted o1 (yielded ops a.tmps) = true := fun a => by simp [Region.wanted, h6]
  have hnd0 : ∀ c, o0.op ≠ .defer c := by intro c hc; rw [h1] at hc; cases hc
  have hnd1 : ∀ c, o1.op ≠ .defer c := by intro c hc; rw [h4] at hc; cases hc
  -- the region, whatever 'next' gives
  have region : ∀ (bv : Bool) (vs : Array Value) (w1 : World) (g1 : G) (σ1 : Stack), (execOp (Act.mk tmps df).eval o0).run P w = .ok (.value (.tuple (#[.bool bv] ++ vs))) w1 → Ev g w g1 w1 → Inv (CR0 P) base g1 σ1 w1 → Goes σ σ1 →
      ∃ a1, Steps P (lone (b.atR ⟨tmps, df⟩ (.code (.seq (.region rid ops false) p) :: .inLoop (.seq (.region rid ops false) p) :: .inBlock bid :: (qs.toList.map Item.code ++ k))) cs w)
        (lone (b.atR a1 (.code p :: .inLoop (.seq (.region rid ops false) p) :: .inBlock bid :: (qs.toList.map Item.code ++ k))) cs w1) ∧ At (CR0 P) base ann.ownv g0 w0 n b g1 w1 B ((ok, .bool bv) :: (nx, .undef) :: restrict live e) σ1 a1 := by
    intro bv vs w1 g1 σ1 hrun he hi hgo
    have hts : tmps.size = n := ha.size
    have ha1 : At (CR0 P) base ann.ownv g0 w0 n b g1 w1 B ((nx, .undef) :: restrict live e) σ1 ((Act.mk tmps df).put (some nx) (.tuple (#[.bool bv] ++ vs))) := by
      refine har.go he hi hgo ?_ put_size put_defers
      exact (har.fr.ev he).put (dst := some nx) (d := .undef) (RelT.of (.undef _)) (fun t ht => by cases ht; exact c4) (fun t ht => by cases ht; rw [hts]; exact c1)
    have hget : ((Act.mk tmps df).put (some nx) (.tuple (#[.bool bv] ++ vs))).eval (.tmp nx) = .tuple (#[.bool bv] ++ vs) := by
      simp [Act.eval, Act.put, hts, c1]
    have hrun1 : (execOp ((Act.mk tmps df).put (some nx) (.tuple (#[.bool bv] ++ vs))).eval o1).run P w1 = .ok (.value (.bool bv)) w1 := by
      simp only [execOp, h4, hget]
      have hz : (#[Value.bool bv] ++ vs)[0]? = some (.bool bv) := by
        rw [Array.getElem?_append_left (by simp)]; rfl
      simp [Instr.extract, hz]
    have ha2 : At (CR0 P) base ann.ownv g0 w0 n b g1 w1 B ((ok, .bool bv) :: (nx, .undef) :: restrict live e) σ1 (((Act.mk tmps df).put (some nx) (.tuple (#[.bool bv] ++ vs))).put (some ok) (.bool bv)) := by
      refine ha1.go (Ev.refl g1 w1) hi (.refl _) ?_ put_size put_defers
      exact ha1.fr.put (dst := some ok) (d := .bool bv) (RelT.of (.bool bv)) (fun t ht => by cases ht; exact c5) (fun t ht => by cases ht; rw [ha1.size]; exact c2)
    refine ⟨_, .head stepR_seq (.head stepR_region ?_), ha2⟩
    rw [hsize]
    have s0 := step_value (P := P) (b := b) (a := ⟨tmps, df⟩) (k := .code p :: .inLoop (.seq (.region rid ops false) p) :: .inBlock bid :: (qs.toList.map Item.code ++ k)) (cs := cs) (rest := [1]) ho0 (hw0 _) hnd0 hrun rfl
    rw [h2] at s0
    have s1 := step_value (P := P) (b := b) (k := .code p :: .inLoop (.seq (.region rid ops false) p) :: .inBlock bid :: (qs.toList.map Item.code ++ k)) (cs := cs) (rest := []) ho1 (hw1 _) hnd1 hrun1 rfl
    rw [h5] at s1
    exact .head s0 (.head s1 (.one (stepR_region_end (ops := ops))))
  have hnext : ∀ (w : World), (Instr.next (.pointer (some ⟨bi, 0, none⟩)) false o0.type).run P w = (Instr.next (.pointer (some ⟨bi, 0, none⟩)) false o0.type).run P w := fun _ => rfl
  have hev0 : (Act.mk tmps df).eval (.tmp it0) = .pointer (some ⟨bi, 0, none⟩) := hpt
  -- behind the loop's end
  have finish : ∀ (y : Exit × Env × Stack) (g1 : G) (w1 : World) (B1 : Nat → Nat) (a1 : Act) (t1 : List Item) (σm : Stack) (wm : World) (am : Act) (gm : G), mend O l i bid rest (some y) = some (.ctl x e' σ') → g.le g1 → Goes σ y.2.2 →
      Steps P (lone (b.atR ⟨tmps, df⟩ (.code (.seq (.region rid ops false) p) :: .inLoop (.seq (.region rid ops false) p) :: .inBlock bid :: (qs.toList.map Item.code ++ k))) cs w)
        (lone (b.atR am (.code p :: .inLoop (.seq (.region rid ops false) p) :: .inBlock bid :: (qs.toList.map Item.code ++ k))) cs wm) →
      Outs (fun fr => Steps P (lone (b.atR am (.code p :: .inLoop (.seq (.region rid ops false) p) :: .inBlock bid :: (qs.toList.map Item.code ++ k))) cs wm) (lone fr cs w1)) g1 b a1 t1 y.1 →
      At (CR0 P) base ann.ownv g0 w0 n b g1 w1 B1 y.2.1 y.2.2 a1 → Lands (.inLoop (.seq (.region rid ops false) p) :: .inBlock bid :: (qs.toList.map Item.code ++ k)) y.1 t1 →
      ∃ g' w' B' a' todo, Outs (fun fr => Steps P (lone (b.atR ⟨tmps, df⟩ (.code (.seq (.region rid ops false) p) :: .inLoop (.seq (.region rid ops false) p) :: .inBlock bid :: (qs.toList.map Item.code ++ k))) cs w) (lone fr cs w')) g' b a' todo x ∧
        At (CR0 P) base ann.ownv g0 w0 n b g' w' B' e' σ' a' ∧ g.le g' ∧ Lands k x todo ∧ Goes σ σ' := by
    intro y g1 w1 B1 a1 t1 σm wm am gm hme hle hgo s1 s2 hA hLd
    obtain ⟨y1, e1, σ1⟩ := y
    -- the iterator's place
    obtain ⟨L1, hL1, hle1⟩ := hle.loc l i _ hloc
    have hLd1 : L1 = .it bi ∨ L1 = .dead := hle1
    obtain ⟨bb, hbb, _⟩ := hA.inv.dom l i _ hL1
    obtain ⟨i2, e2⟩ := hA.inv.endIter hL1 hLd1 hbb
    have hgo2 : Goes σ1 (setBlk σ1 l i .dead) := Goes.set fun _ => trivial
    have hA2 : At (CR0 P) base ann.ownv g0 w0 n b (g1.setLoc l i .dead) w1 B1 e1 (setBlk σ1 l i .dead) a1 := hA.go e2 i2 hgo2 (hA.fr.ev e2) rfl rfl
    cases y1 with
    | normal => simp [mend] at hme
    | thr d => simp [mend] at hme
    | ret =>
      simp only [mend, Option.some.injEq, R.ctl.injEq] at hme
      obtain ⟨rfl, rfl, rfl⟩ := hme
      obtain ⟨k', rfl⟩ := hLd
      exact ⟨_, w1, B1, a1, _, Steps.trans s1 s2, hA2, hle.trans' e2.le, ⟨k', rfl⟩, hgo.trans hgo2⟩
    | exit j =>
      obtain ⟨k', rfl, hk'⟩ := hLd
      simp only [mend] at hme
      split at hme
      · rename_i hj
        subst hj
        simp only [Option.map_eq_some_iff, Prod.exists, R.ctl.injEq] at hme
        obtain ⟨x', e'', σ'', hac, rfl, rfl, rfl⟩ := hme
        have hout : Steps P (lone (b.atR ⟨tmps, df⟩ (.code (.seq (.region rid ops false) p) :: .inLoop (.seq (.region rid ops false) p) :: .inBlock j :: (qs.toList.map Item.code ++ k))) cs w) (lone (b.atR a1 (qs.toList.map Item.code ++ k)) cs w1) :=
          Steps.trans s1 (Steps.trans s2 (.one (stepR_exit (by rw [hk']; simp [exitTo]))))
        cases qs with
        | none =>
          obtain rfl : rest = .nop := hrest
          simp only [acode, Option.some.injEq, Prod.mk.injEq] at hac
          obtain ⟨rfl, rfl, rfl⟩ := hac
          exact ⟨_, w1, B1, a1, k, hout, hA2, hle.trans' e2.le, rfl, hgo.trans hgo2⟩
        | some q =>
          obtain ⟨g3, w3, B3, a3, t3, k1, k2, k3, k4, k5⟩ := code_ok (b := b) (cs := cs) (k := k) hm hO q hrest hac hA2
          exact ⟨g3, w3, B3, a3, t3, k1.imp fun _ hs => Steps.trans hout hs, k2, (hle.trans' e2.le).trans' k3, k4, (hgo.trans hgo2).trans k5⟩
      · rename_i hj
        simp only [Option.some.injEq, R.ctl.injEq] at hme
        obtain ⟨rfl, rfl, rfl⟩ := hme
        refine ⟨_, w1, B1, a1, _, Steps.trans s1 s2, hA2, hle.trans' e2.le, ⟨k', rfl, ?_⟩, hgo.trans hgo2⟩
        rw [hk']
        simp only [exitTo]
        rw [if_neg (by simpa using Ne.symm hj)]
        cases qs <;> rfl
  -- what the machine picks
  rw [hitd] at h
  rcases run_next_at (P := P) w o0.type bi bm clock clock js'.reverse.toArray ents clock hheap hheap2 hborn (Nat.le_refl _) with ⟨hz, hrun⟩ | ⟨en, hen, w1, hw1', hrun⟩
  · -- none is left
    have hus0 : us = [] := by
      rw [hus, List.filter_eq_nil_iff]
      intro j hj
      have hjlt := List.mem_range.1 hj
      have h0 : j ∈ ents.toList.map (·.born) := by rw [hok.1]; exact List.mem_range.2 (by omega)
      obtain ⟨y, hy, rfl⟩ := List.mem_map.1 h0
      have hnone : leftOf ents js'.reverse.toArray = #[] := Array.eq_empty_of_size_eq_zero hz
      unfold leftOf at hnone
      rw [Array.filter_eq_empty_iff] at hnone
      have h1 := hnone y (by simpa using hy)
      simp only [Bool.not_eq_true', Bool.not_eq_false, List.contains_toArray, List.contains_eq_mem, List.mem_reverse, decide_eq_true_eq, Bool.not_eq_true] at h1 ⊢
      simp at h1 ⊢
      exact ⟨_, h1, rfl⟩
    subst hus0
    dsimp only at h
    obtain ⟨a1, s1, hA1⟩ := region false #[] w g σ (by simp only [execOp, h1, hev0, Sem.run_bind, hrun, Result.andThen_ok, Sem.run_pure]; rfl) (Ev.refl g w) ha.inv (.refl σ)
    cases hac : acode O c ((ok, .bool false) :: (nx, .undef) :: restrict live e) σ with
    | none => rw [hac] at h; simp [mend] at h
    | some y =>
      rw [hac] at h
      obtain ⟨y1, ey, σy⟩ := y
      obtain ⟨g2, w2, B2, a2, t2, k1, k2, k3, k4, k5⟩ := code_ok (b := b) (cs := cs) (k := .inLoop (.seq (.region rid ops false) p) :: .inBlock bid :: (qs.toList.map Item.code ++ k)) hm hO p hc hac hA1
      exact finish (y1, ey, σy) g2 w2 B2 a2 t2 σ w a1 g h k3 k5 s1 k1 k2 k4
  · -- one that is left
    have henm : en ∈ ents.toList ∧ en.born ∉ js' := by
      unfold leftOf at hen
      simp at hen
      simpa using hen
    have hbn : en.born < clock := hborn en henm.1
    have hmem : en.born ∈ us := by
      rw [hus]
      simp only [List.mem_filter, List.mem_range, Bool.not_eq_true', hbn, true_and]
      simp
      intro x hx hxe
      have : x = en.born := by omega
      subst this
      exact henm.2 hx
    have hans : mnext O live (.t it0) l i nx ok bid c rest (acode O c ((ok, .bool true) :: (nx, .undef) :: restrict live e) (setBlk σ l i (.cells 1 (.yld lm' im' :: .int .i64 (clock : Nat) :: .int .i64 (en.born : Nat) :: js'.map (fun j : Nat => D.int .i64 j))))) = some (.ctl x e' σ') := by
      split at h
      · rename_i hsm
        cases hsm
        simp at hmem
      · rename_i hsm
        cases hsm
        exact agree_all h en.born hmem
      · rename_i hsm; cases hsm
    obtain ⟨i1, e1⟩ := ha.inv.setIter (js := en.born :: js') hloc hblk hml (List.nodup_cons.2 ⟨henm.2, hnd⟩) (by
      intro j hj
      rcases List.mem_cons.1 hj with rfl | hj
      · exact hbn
      · exact hlt j hj) hw1'
    have hgo1 : Goes σ (setBlk σ l i (.cells 1 (.yld lm' im' :: .int .i64 (clock : Nat) :: .int .i64 (en.born : Nat) :: js'.map (fun j : Nat => D.int .i64 j)))) := by
      refine Goes.mk setBlk_length fun hS => hS.set fun hl => ?_
      have h0 := hS l i _ hblk hl
      simp only [Blk.low, D.lowL, D.low, Bool.and_eq_true, Bool.true_and] at h0 ⊢
      exact h0
    have hpush : js'.reverse.toArray.push en.born = (en.born :: js').reverse.toArray := by simp
    rw [hpush] at hrun
    obtain ⟨a1, s1, hA1⟩ := region true #[en.key, en.val] _ _ _ (by simp only [execOp, h1, hev0, Sem.run_bind, hrun, Result.andThen_ok, Sem.run_pure]; rfl) e1 i1 hgo1
    simp only [List.map_cons] at hA1
    cases hac : acode O c ((ok, .bool true) :: (nx, .undef) :: restrict live e) (setBlk σ l i (.cells 1 (.yld lm' im' :: .int .i64 (clock : Nat) :: .int .i64 (en.born : Nat) :: js'.map (fun j : Nat => D.int .i64 j)))) with
    | none => rw [hac] at hans; simp [mnext, mend] at hans
    | some y =>
      rw [hac] at hans
      obtain ⟨y1, ey, σy⟩ := y
      obtain ⟨g2, w2, B2, a2, t2, k1, k2, k3, k4, k5⟩ := code_ok (b := b) (cs := cs) (k := .inLoop (.seq (.region rid ops false) p) :: .inBlock bid :: (qs.toList.map Item.code ++ k)) hm hO p hc hac hA1
      cases y1 with
      | normal =>
        simp only [mnext] at hans
        obtain rfl := k4
        obtain ⟨g3, w3, B3, a3, t3, m1, m2, m3, m4, m5⟩ := hO _ _ hans ann blk rid ops p n it0 qs rfl hmap hc hrest base g0 w0 b a2 k cs g2 w2 B2 k2
        exact ⟨g3, w3, B3, a3, t3, m1.imp fun _ hs => Steps.trans s1 (Steps.trans k1 (.head stepR_inLoop hs)), m2, (e1.le.trans' k3).trans' m3, m4, (hgo1.trans k5).trans m5⟩
      | exit j => exact finish (.exit j, ey, σy) g2 w2 B2 a2 t2 σ _ a1 g hans (e1.le.trans' k3) (hgo1.trans k5) s1 k1 k2 k4
      | ret => exact finish (.ret, ey, σy) g2 w2 B2 a2 t2 σ _ a1 g hans (e1.le.trans' k3) (hgo1.trans k5) s1 k1 k2 k4
      | thr d => simp [mnext, mend] at hans
end
end Go.Abs

/-
  Loops and rounds; what is answered at last is sound.
-/
set_option linter.unusedVariables false
set_option linter.unusedSimpArgs false
namespace Go.Abs
open Go

theorem Ent.cut {fb : Nat} {V : List Nat} {g : G} {w : World} {B : Nat → Nat} {e0 : Env} {tmps : Array Value} {p : Nat × D} {n : Nat} (h : Ent fb V g w B e0 tmps p) (hl : p.2.low n = true) : Ent fb V (g.cut n) w B e0 tmps p := by
  obtain ⟨t, d⟩ := p
  unfold Ent at h ⊢
  dsimp only at h ⊢ hl
  split
  · rename_i s cs
    obtain ⟨h1, h2, h3, h4⟩ := h
    obtain ⟨c, el, k1, k2, k3⟩ := h4.blk
    exact ⟨h1, h2, h3, h4.lo, fun hh => h4.free (G.cut_has hh), h4.noimm, c, el, k1, k2.cut hl, k3⟩
  · rename_i hd
    cases d with
    | own s cs => exact absurd rfl (hd s cs)
    | _ => exact RelV.cut h hl

theorem cut_le {g g' : G} {n : Nat} (h : g.le g') (hn : ∀ l i L, g.loc l i = some L → l < n) : g.le (g'.cut n) :=
  ⟨fun l i L e => by rw [G.cut_loc (hn l i L e)]; exact h.loc l i L e, h.imm⟩

section
variable {P : Program} {T : Tbl} {O : Oracle}

theorem loop_sound (hm : P.follows .mixedOrders = true) (hO : OrOk P (CR0 P) O) {live : List Nat} {seg : Bool} {c : Cmd} {env : Env} {σ : Stack} {r : R}
    (h : stepQ T O (.loop live seg c env σ) = some r) : AnsOk P (CR0 P) (.loop live seg c env σ) r := by
  simp only [stepQ] at h
  cases hac : acode O c (restrict live env) (if seg then [] :: σ else σ) with
  | none => simp [hac] at h
  | some y =>
  obtain ⟨x, e1, σ1⟩ := y
  rw [hac] at h
  dsimp only at h
  -- one turn
  have turn : ∀ e2 σ2, (if seg then (let r := frzE (σ.length - 1) (restrict (liveAt live x e1) e1) σ1; (r.1, r.2.tail)) else (e1, σ1)) = (e2, σ2) →
      ∀ (ann : Ann) blk code n, codeC P ann n blk code = some c → ∀ base g0 w0 b a k cs g w B, At (CR0 P) base ann.ownv g0 w0 n b g w B env σ a →
      Ends P ann n base g0 w0 b cs g w a (.code code :: .inLoop code :: k) (.inLoop code :: k) σ x e2 σ2 := by
    intro e2 σ2 he ann blk code n hc base g0 w0 b a k cs g w B ha
    cases seg with
    | false =>
      simp only [Bool.false_eq_true, if_false, Prod.mk.injEq] at he hac
      obtain ⟨rfl, rfl⟩ := he
      exact code_ok hm hO code hc hac (ha.restrict live)
    | true =>
      simp only [if_true] at he hac
      have ha1 : At (CR0 P) base ann.ownv g0 w0 n b g w B (restrict live env) ([] :: σ) a :=
        { ha.restrict live with inv := ha.inv.push, low := ha.low.push ha.inv, pos := by simp }
      obtain ⟨g1, w1, B1, a1, todo, k1, k2, k3, k4, k5⟩ := code_ok (cs := cs) (k := .inLoop code :: k) hm hO code hc hac ha1
      have hents := k2.fr.ents (liveAt live x e1)
      obtain ⟨g2, i2, ev2, hents2⟩ := frzE_ok (CR := CR0 P) (base := base) (σ.length - 1) _ σ1 g1 k2.inv hents
      obtain ⟨hlow, hgo⟩ := frzE_spec (σ.length - 1) (restrict (liveAt live x e1) e1) σ1
      cases hfz : frzE (σ.length - 1) (restrict (liveAt live x e1) e1) σ1 with
      | mk e3 σ3 =>
      rw [hfz] at he i2 hents2 hlow hgo
      simp only [Prod.mk.injEq] at he
      obtain ⟨rfl, rfl⟩ := he
      have hl3 : LowS σ3 := hgo.low k2.low
      have hlen3 : σ3.length = σ.length + 1 := by
        have h1 := hgo.len
        have h2 := k5.len
        simp at h1 h2; omega
      cases σ3 with
      | nil => simp at hlen3
      | cons s σ2 =>
      have hlen2 : σ2.length = σ.length := by simpa using hlen3
      have hpos := ha.pos
      rw [show σ.length - 1 + 1 = σ2.length from by omega] at hlow
      have hlvl : ∀ l i L, g.loc l i = some L → l < σ2.length := fun l i L h => by rw [hlen2]; exact ha.inv.lvl h
      have hlvl0 : ∀ l i L, g0.loc l i = some L → l < σ2.length := fun l i L h => by
        obtain ⟨L', h', _⟩ := ha.ev.le.loc l i L h
        exact hlvl l i L' h'
      obtain ⟨i3, l3⟩ := i2.pop hl3
      obtain ⟨rs, hmk⟩ := k2.marks
      have hmk2 := hmk.ev ev2
      have hle : g.le (g2.cut σ2.length) := cut_le (k3.trans' ev2.le) hlvl
      refine ⟨g2.cut σ2.length, w1, B1, a1, todo, k1.map fun d v hcl hv => (hv.mono ev2.le).cut (clean_low hcl), ⟨Ent.fr k2.fr fun p hp => (hents2 p hp).cut (hlow p hp), (k2.ev.trans ev2).cut hlvl0, i3, l3, by simpa [hlen2] using hpos, k2.size, ⟨rs, hmk2.eq, hmk2.nodup, fun r hr => ?_⟩, round_mono ha.round hle⟩, hle, k4, ⟨hlen2, fun _ => l3⟩⟩
      have := hmk2.all r hr
      exact ⟨this.lo, fun hh => this.free (G.cut_has hh), this.noimm, this.blk⟩
  cases hfin : (if seg then (let r := frzE (σ.length - 1) (restrict (liveAt live x e1) e1) σ1; (r.1, r.2.tail)) else (e1, σ1)) with
  | mk e2 σ2 =>
  have turn' := turn e2 σ2 hfin
  rw [hfin] at h
  dsimp only at h
  cases x with
  | normal =>
    dsimp only at h
    have hans := hO _ _ h
    cases r with
    | val => trivial
    | thr => trivial
    | ctl x e' σ' =>
      obtain ⟨hx, hloop⟩ := hans
      refine ⟨hx, fun ann blk code n hc base g0 w0 b a k cs g w B ha => ?_⟩
      obtain ⟨g1, w1, B1, a1, todo, k1, k2, k3, k4, k5⟩ := turn' ann blk code n hc base g0 w0 b a k cs g w B ha
      obtain rfl := k4
      obtain ⟨g2, w2, B2, a2, todo2, m1, m2, m3, m4, m5⟩ := hloop ann blk code n hc base g0 w0 b a1 k cs g1 w1 B1 k2
      exact ⟨g2, w2, B2, a2, todo2, m1.imp fun _ hs => Steps.trans k1 (.head stepR_inLoop hs), m2, k3.trans' m3, m4, k5.trans m5⟩
  | exit id =>
    cases h
    refine ⟨by simp, fun ann blk code n hc base g0 w0 b a k cs g w B ha => ?_⟩
    obtain ⟨g1, w1, B1, a1, todo, k1, k2, k3, k4, k5⟩ := turn' ann blk code n hc base g0 w0 b a k cs g w B ha
    exact ⟨g1, w1, B1, a1, todo, k1, k2, k3, k4.skip (fun _ => by simp) (by simp), k5⟩
  | ret =>
    cases h
    refine ⟨by simp, fun ann blk code n hc base g0 w0 b a k cs g w B ha => ?_⟩
    obtain ⟨g1, w1, B1, a1, todo, k1, k2, k3, k4, k5⟩ := turn' ann blk code n hc base g0 w0 b a k cs g w B ha
    exact ⟨g1, w1, B1, a1, todo, k1, k2, k3, k4.skip (fun _ => by simp) (by simp), k5⟩
  | thr d =>
    cases h
    refine ⟨by simp, fun ann blk code n hc base g0 w0 b a k cs g w B ha => ?_⟩
    obtain ⟨g1, w1, B1, a1, todo, k1, k2, k3, k4, k5⟩ := turn' ann blk code n hc base g0 w0 b a k cs g w B ha
    exact ⟨g1, w1, B1, a1, todo, k1, k2, k3, trivial, k5⟩

theorem putAll_rel {g : G} : ∀ (ts : List Nat) (ds : List D) (vs : List Value) (e : Env) (tmps : Array Value), RelL g ds vs → ds.length = ts.length → (∀ t ∈ ts, t < tmps.size) → RelEnv g e tmps →
    RelEnv g (putAll ts ds e) ((ts.zip vs).foldl (fun tmps (t, a) => tmps.setIfInBounds t a) tmps) ∧ ((ts.zip vs).foldl (fun tmps (t, a) => tmps.setIfInBounds t a) tmps).size = tmps.size
  | [], ds, vs, e, tmps, hr, hl, hs, he => by
    have : ds = [] := by simpa using hl
    subst this
    exact ⟨he, rfl⟩
  | t :: ts, [], vs, e, tmps, hr, hl, hs, he => by simp at hl
  | t :: ts, d :: ds, vs, e, tmps, hr, hl, hs, he => by
    cases hr with
    | cons _ c _ cs h1 h2 =>
      have he2 : RelEnv g ((t, d) :: e) (tmps.setIfInBounds t c) := fun u => by
        simp only [get]
        rw [Array.getD_eq_getD_getElem?]
        by_cases hu : t = u
        · subst hu
          rw [if_pos rfl]
          simpa [hs t (by simp)] using h1
        · rw [if_neg hu, Array.getElem?_setIfInBounds_ne hu, ← Array.getD_eq_getD_getElem?]; exact he u
      obtain ⟨k1, k2⟩ := putAll_rel ts ds cs ((t, d) :: e) (tmps.setIfInBounds t c) h2 (by simpa using hl) (fun u hu => by simpa using hs u (by simp [hu])) he2
      exact ⟨k1, by simpa using k2⟩

theorem RelEnv.fr {g : G} {w : World} {e : Env} {tmps : Array Value} {fb : Nat} {V : List Nat} {B : Nat → Nat} (h : RelEnv g e tmps) : Fr fb V g w B e tmps := by
  have hno : ∀ t s cs, get e t ≠ .own s cs := fun t s cs => not_own (h t) s cs
  refine ⟨fun t => ?_, fun t s cs ht => absurd ht (hno t s cs), fun t t' s s' cs cs' ht => absurd ht (hno t s cs)⟩
  have := h t
  cases hd : get e t with
  | own s cs => trivial
  | vr => rw [hd] at this; cases this
  | emp => rw [hd] at this; cases this
  | _ => rw [hd] at this; exact this

theorem Outs.steps {S : Frame → Prop} {g : G} {b : Frame} {a : Act} {todo : List Item} {x : Exit} (hx : ∀ d, x ≠ .thr d) (h : Outs S g b a todo x) : S (b.atR a todo) := by
  cases x with
  | thr d => exact absurd rfl (hx d)
  | _ => exact h

theorem round_sound (hm : P.follows .mixedOrders = true) (hO : OrOk P (CR0 P) O) {l i : Nat} {args : List D} {σ : Stack} {r : R}
    (h : stepQ T O (.round l i args σ) = some r) : AnsOk P (CR0 P) (.round l i args σ) r := by
  simp only [stepQ] at h
  split at h
  case h_2 => cases h
  rename_i lp hlp
  split at h
  case isFalse => cases h
  rename_i hlen
  split at h
  case h_2 => cases h
  rename_i e1 σ1 hasg
  split at h
  case h_2 => cases h
  rename_i lp1 hlp1
  split at h
  case isFalse => cases h
  rename_i hst
  split at h
  case h_2 => cases h
  rename_i x e2 s σ2 hbody
  split at h
  case h_2 => cases h
  rename_i lp2 hlp2
  have hxt : ∀ d, x ≠ .thr d := by
    intro d hd
    subst hd
    cases h
  -- the walk of a round, up to its end
  have walk : ∀ base g w (vs : Array Value) b, Inv (CR0 P) base g σ w → LowS σ → 0 < σ.length → RelL g args vs.toList → RelV g (.yld l i) (.func (.yield b) #[] #[]) →
      ∃ f tmps asg body, (Instr.yield b vs).run P w = .ok (.round b f tmps asg body) w ∧ ∀ cs, ∃ fb a' todo g' w' r2, Steps P (lone (Frame.round b f tmps asg body .normal) cs w) (lone (Frame.atR fb a' todo) cs w') ∧
        fb.roundOf = some b ∧ fb.kind = .normal ∧ Lands [] x todo ∧ Ev g w g' w' ∧ Inv (CR0 P) base g' σ2 w' ∧ LowS σ2 ∧ σ2.length = σ.length ∧ g'.loc l i = some (.lp b) ∧ w'.heap[b]? = some (.loop r2) ∧ RelLoop (CR0 P) g' lp2 r2 := by
    intro base g w vs b hi hl hp hr hy
    cases hy with
    | yld _ _ _ hL =>
    obtain ⟨b0, hb0, hrel⟩ := hi.dom l i _ hL
    rw [hlp] at hb0; cases hb0
    obtain ⟨r, hheap, hR⟩ := hrel
    have hpar : r.params.toList = lp.params := hR.params
    have hsize : vs.size = r.params.size := by
      have h1 := hr.length
      have h2 : r.params.toList.length = lp.params.length := by rw [hpar]
      simp at h1 h2; omega
    have hyield := run_yield (P := P) hheap hsize
    have hfold : (r.params.zip vs).foldl (fun tmps (t, a) => tmps.setIfInBounds t a) r.tmps = (lp.params.zip vs.toList).foldl (fun tmps (t, a) => tmps.setIfInBounds t a) r.tmps := by
      rw [← Array.foldl_toList, Array.toList_zip, hpar]
    rw [hfold] at hyield
    obtain ⟨hrelE, hsizeE⟩ := putAll_rel lp.params args vs.toList lp.env r.tmps hr hlen hR.small hR.env
    obtain ⟨ann, blk, hboth⟩ : ∃ ann blk, codeC P ann r.tmps.size blk _ = some _ := hR.both
    simp only [codeC] at hboth
    split at hboth
    case h_2 => cases hboth
    rename_i C' A' B' hC hA hB
    cases hboth
    refine ⟨_, _, _, _, hyield, fun cs => ?_⟩
    generalize htm : (lp.params.zip vs.toList).foldl (fun tmps (t, a) => tmps.setIfInBounds t a) r.tmps = tm at hrelE hsizeE
    let fb : Frame := Frame.round b r.fn tm r.assign r.body .normal
    have hfr : Frame.round b r.fn tm r.assign r.body .normal = fb.atR ⟨tm, []⟩ [.code r.assign, .beginRound, .code r.body] := rfl
    have ha : At (CR0 P) base ann.ownv g w r.tmps.size fb g w (fun _ => 0) (putAll lp.params args lp.env) ([] :: σ) ⟨tm, []⟩ :=
      ⟨hrelE.fr, Ev.refl g w, hi.push, hl.push hi, by simp, hsizeE, ⟨[], rfl, List.nodup_nil, by simp [colls, fb, Frame.round]⟩, .inr ⟨b, l, i, rfl, hL⟩⟩
    obtain ⟨g1, w1, B1, a1, t1, k1, k2, k3, k4, k5⟩ := code_ok (b := fb) (cs := cs) (k := [.beginRound, .code r.body]) hm hO r.assign hA hasg ha
    obtain rfl := k4
    -- the record is busy
    obtain ⟨L1, hL1, hle1⟩ := k3.loc l i _ hL
    rw [Loc.lp_le hle1] at hL1
    obtain ⟨b1, hb1, hrel1⟩ := k2.inv.dom l i _ hL1
    rw [hlp1] at hb1; cases hb1
    obtain ⟨r1, hheap1, hR1⟩ := hrel1
    have hready : r1.state = .ready := by rw [hR1.state, hst]; rfl
    have hbegin := run_beginRound (P := P) hheap1 hready
    obtain ⟨i2, ev2⟩ := k2.inv.setLoop (r := { r1 with state := .busy }) (lp := { lp1 with state := 1 }) hL1 hlp1 ⟨rfl, hR1.pend, hR1.env, hR1.params, hR1.small, hR1.both⟩
    have hgo2 : Goes σ1 (setBlk σ1 l i (.loop { lp1 with state := 1 })) := ⟨setBlk_length, fun h => h.set fun hl => (h l i _ hlp1 hl : Blk.low (l + 1) (.loop lp1))⟩
    have ha2 := k2.go ev2 i2 hgo2 (k2.fr.ev ev2) rfl rfl
    obtain ⟨g3, w3, B3, a3, t3, m1, m2, m3, m4, m5⟩ := code_ok (b := fb) (cs := cs) (k := []) hm hO r.body hB hbody ha2
    have hlen2 : σ2.length = σ.length := by
      have h1 := m5.len
      have h2 := hgo2.len
      have h3 := k5.len
      simp at h1 h2 h3; omega
    have hlvl : ∀ l i L, g.loc l i = some L → l < σ2.length := fun l i L h => by rw [hlen2]; exact hi.lvl h
    obtain ⟨i3, l3⟩ := m2.inv.pop m2.low
    obtain ⟨L3, hL3, hle3⟩ := (k3.trans' (ev2.le.trans' m3)).loc l i _ hL
    rw [Loc.lp_le hle3] at hL3
    have hL3' : (g3.cut σ2.length).loc l i = some (.lp b) := by rw [G.cut_loc (hlvl l i _ hL)]; exact hL3
    obtain ⟨b3, hb3, hrel3⟩ := i3.dom l i _ hL3'
    rw [hlp2] at hb3; cases hb3
    obtain ⟨r3, hheap3, hR3⟩ := hrel3
    refine ⟨fb, a3, t3, g3.cut σ2.length, w3, r3, ?_, rfl, rfl, m4, m2.ev.cut hlvl, i3, l3, hlen2, hL3', hheap3, hR3⟩
    rw [hfr]
    exact Steps.trans k1 (.head (stepR_beginRound rfl hbegin) (m1.steps hxt))
  -- its end
  have fin : ∀ (bv : Bool) (st : Nat) (pd : Option Exit) (jump : Option Code), pendOf pd = some jump → bv = jump.isNone → st = (if jump.isNone then 0 else 2) →
      (∀ (fb : Frame) (a' : Act) (todo : List Item) (c : Frame) (cs : List Frame) (w' w2 : World) (b : Nat), fb.roundOf = some b → fb.kind = .normal → Lands [] x todo → (Instr.endRound b jump).run P w' = .ok (.bool bv) w2 →
        step P (lone (Frame.atR fb a' todo) (c :: cs) w') = .next (lone (c.finish (.bool bv)) cs w2)) →
      RoundOk P (CR0 P) l i args σ (.bool bv) (setBlk σ2 l i (.loop { lp2 with state := st, pend := pd })) := by
    intro bv st pd jump hpd hbv hstv hend
    refine ⟨⟨lp, hlp⟩, fun base g w vs b hi hl hp hr hy => ?_⟩
    obtain ⟨f, tmps, asg, body, hyield, hwalk⟩ := walk base g w vs b hi hl hp hr hy
    refine ⟨?_, f, tmps, asg, body, hyield, fun c cs => ?_⟩
    · obtain ⟨_, _, _, _, _, _, _, _, _, _, _, _, h7, h8, _⟩ := hwalk []
      exact ⟨setBlk_length.trans h8, fun _ => h7.set fun hl => (h7 l i _ hlp2 hl : Blk.low (l + 1) (.loop lp2))⟩
    · obtain ⟨fb, a', todo, g', w', r2, k1, k2, k3, k4, k5, k6, k7, k8, k9, k10, k11⟩ := hwalk (c :: cs)
      have hrun := run_endRound (P := P) jump k10
      rw [← hbv] at hrun
      have hR2 : RelLoop (CR0 P) g' { lp2 with state := st, pend := pd } { r2 with state := if jump.isNone then .ready else .done, pending := jump } :=
        ⟨by rw [hstv]; cases jump <;> rfl, hpd, k11.env, k11.params, k11.small, k11.both⟩
      obtain ⟨i4, ev4⟩ := k6.setLoop k9 hlp2 hR2
      exact ⟨.bool bv, g', _, .trans k1 (.one (hend fb a' todo c cs w' _ b k2 k3 k4 (by rw [hbv]; rw [hbv] at hrun; exact hrun))), k5.trans ev4, i4, .bool bv⟩
  cases x with
  | normal =>
    dsimp only at h
    cases h
    exact fin true 0 none none rfl rfl rfl fun fb a' todo c cs w' w2 b h1 h2 h3 h4 => by
      obtain rfl := h3
      exact stepR_round_end h1 h2 h4
  | exit id =>
    dsimp only at h
    cases h
    exact fin false 2 (some (.exit id)) (some (.exit id)) rfl rfl rfl fun fb a' todo c cs w' w2 b h1 h2 h3 h4 => by
      obtain ⟨k', rfl, hk⟩ := h3
      exact stepR_round_exit h1 h2 (by rw [hk]; rfl) h4
  | ret =>
    dsimp only at h
    cases h
    exact fin false 2 (some .ret) (some .ret) rfl rfl rfl fun fb a' todo c cs w' w2 b h1 h2 h3 h4 => by
      obtain ⟨k', rfl⟩ := h3
      exact stepR_round_ret h1 h2 h4
  | thr d => exact absurd rfl (hxt d)

theorem stepQ_sound (hT : TOk P T) (hm : P.follows .mixedOrders = true) (hO : OrOk P (CR0 P) O) : OrOk P (CR0 P) (stepQ T O) := fun q r h => by
  cases q with
  | call kp f args σ => exact call_sound hT hm hO h
  | loop live seg c e σ => exact loop_sound hm hO h
  | round l i args σ => exact round_sound hm hO h
  | mloop live it nx ok b c rest e σ => exact mloop_sound hm hO h
  | dcall f args th σ => exact dcall_sound hT hm hO h

theorem it_sound (hT : TOk P T) (hm : P.follows .mixedOrders = true) : ∀ n, OrOk P (CR0 P) (it T n)
  | 0 => fun q r h => by simp [it] at h
  | n + 1 => stepQ_sound hT hm (it_sound hT hm n)

theorem lim_sound (hT : TOk P T) (hm : P.follows .mixedOrders = true) : OrOk P (CR0 P) (lim T) := fun q r h => by
  unfold lim at h
  split at h
  · rename_i hex
    cases h
    exact it_sound hT hm _ _ _ hex.choose_spec.choose_spec
  · cases h
end
end Go.Abs

/-
  A call that the interpreter says answers true.
-/
set_option linter.unusedVariables false
set_option linter.unusedSimpArgs false
namespace Go.Abs
open Go
open Go.RowKit

def G0 (W : World) : G := ⟨fun _ _ => none, fun b o => match W.cell? ⟨b, o, none⟩ with | some v => if v.oneCell' then some v else none | none => none⟩

theorem G0_imm {W : World} {b o : Nat} {v : Value} : (G0 W).imm b o = some v ↔ W.cell? ⟨b, o, none⟩ = some v ∧ v.oneCell' = true := by
  simp only [G0]
  cases h : W.cell? ⟨b, o, none⟩ with
  | none => simp
  | some u =>
    dsimp only
    constructor
    · intro hh
      split at hh
      · cases hh; exact ⟨rfl, by assumption⟩
      · cases hh
    · rintro ⟨hh, h1⟩
      cases hh
      rw [if_pos h1]

theorem G0_has {W : World} {b : Nat} : ¬ (G0 W).has b := by rintro ⟨l, i, L, h, _⟩; cases h

theorem G0_inv (CR : CRel) (W : World) (hg : ∀ b Q, CR.glb b Q → ∃ c t v, W.heap[b]? = some (.cells c t (0, 0)) ∧ c[0]? = some v ∧ v.oneCell' = true ∧ Q (.cells c t (0, 0))) : Inv CR W.heap.size (G0 W) [[]] W where
  glb b Q h := by
    obtain ⟨c, t, v, h1, h2, h3, h4⟩ := hg b Q h
    exact ⟨⟨v, G0_imm.2 ⟨by simpa [World.cell?, h1] using h2, h3⟩⟩, _, h1, h4⟩
  ge := Nat.le_refl _
  dom l i L h := by cases h
  imm b o v h := G0_imm.1 h
  sep l i L b h := by cases h
  inj l i L l' i' L' b h := by cases h
  lo l i L b h := by cases h
  tot l i b h := by
    simp only [blk?, seg?] at h
    split at h <;> simp at h

theorem top_calls {P : Program} {T : Tbl} (hT : TOk P T) (hm : P.follows .mixedOrders = true) {f : Nat} {args : List D} {σ' : Stack}
    (h : lim T (.call false f args [[]]) = some (.val (.bool true) σ')) {W : World} {vs : Array Value}
    (hg : ∀ b Q, GlbP P b Q → ∃ c t v, W.heap[b]? = some (.cells c t (0, 0)) ∧ c[0]? = some v ∧ v.oneCell' = true ∧ Q (.cells c t (0, 0))) (hr : RelL (G0 W) args vs.toList) :
    Calls P f vs W fun e W' => e = .returned (.bool true) ∧ Below W.heap.size W W' := by
  obtain ⟨_, hcall⟩ := lim_sound hT hm _ _ h
  obtain ⟨_, hcalls⟩ := hcall W.heap.size (G0 W) W vs (G0_inv _ W hg) (by
    intro l i b hb _
    simp only [blk?, seg?] at hb
    split at hb <;> simp at hb) (by simp) hr
  intro cs
  obtain ⟨e, w', fr, ⟨v, g', rfl, he, _, hv⟩, h2, h3, h4⟩ := hcalls cs
  have := hv.bool_inv
  subst this
  exact ⟨_, w', fr, ⟨rfl, ⟨he.os, he.tape, he.output, he.size, fun k hk => he.kept k hk G0_has⟩⟩, h2, h3, h4⟩
end Go.Abs

/-
  How to reckon what a call answers: step by step, by rewriting.
-/
set_option linter.unusedVariables false
set_option linter.unusedSimpArgs false
namespace Go.Abs
open Go

variable {T : Tbl} {O : Oracle}

theorem by_rfl.{u} {α : Sort u} {a b : α} (h : a = b) : a = b := h

inductive Mark.{u} {α : Sort u} (a : α) : Type
  | mk

def WO (O : Oracle) (ops : List Op) (e : Env) (σ : Stack) (Q : Env → Stack → Prop) (_m : Mark Q := .mk) : Prop := ∃ e' σ', aops O ops e σ = some (e', σ') ∧ Q e' σ'
def WC (O : Oracle) (c : Cmd) (e : Env) (σ : Stack) (Q : Exit → Env → Stack → Prop) (_m : Mark c := .mk) (_m' : Mark Q := .mk) : Prop := ∃ x e' σ', acode O c e σ = some (x, e', σ') ∧ Q x e' σ'
def WV (o : Option (D × Stack)) (Q : D → Stack → Prop) (_m : Mark Q := .mk) : Prop := ∃ d σ', o = some (d, σ') ∧ Q d σ'
def WL (T : Tbl) (live : List Nat) (seg : Bool) (c : Cmd) (e : Env) (σ : Stack) (Q : Exit → Env → Stack → Prop) (_m : Mark c := .mk) (_m' : Mark Q := .mk) : Prop := ∃ x e' σ', lim T (.loop live seg c e σ) = some (.ctl x e' σ') ∧ Q x e' σ'

theorem WO.mono {ops : List Op} {e : Env} {σ : Stack} {Q Q' : Env → Stack → Prop} (h : WO O ops e σ Q) (hq : ∀ e σ, Q e σ → Q' e σ) : WO O ops e σ Q' :=
  let ⟨e', σ', h1, h2⟩ := h; ⟨e', σ', h1, hq _ _ h2⟩
theorem WC.mono {c : Cmd} {e : Env} {σ : Stack} {Q Q' : Exit → Env → Stack → Prop} (h : WC O c e σ Q) (hq : ∀ x e σ, Q x e σ → Q' x e σ) : WC O c e σ Q' :=
  let ⟨x, e', σ', h1, h2⟩ := h; ⟨x, e', σ', h1, hq _ _ _ h2⟩
theorem WL.mono {live : List Nat} {seg : Bool} {c : Cmd} {e : Env} {σ : Stack} {Q Q' : Exit → Env → Stack → Prop} (h : WL T live seg c e σ Q) (hq : ∀ x e σ, Q x e σ → Q' x e σ) : WL T live seg c e σ Q' :=
  let ⟨x, e', σ', h1, h2⟩ := h; ⟨x, e', σ', h1, hq _ _ _ h2⟩


def WD {α : Type} (o : Option α) (Q : α → Prop) (_m : Mark Q := .mk) : Prop := ∃ d, o = some d ∧ Q d
@[simp, simp ↓] theorem WD_some {α : Type} {d : α} {Q : α → Prop} : WD (some d) Q = Q d := by
  simp only [WD, Option.some.injEq, eq_iff_iff]
  exact ⟨fun ⟨_, h, h'⟩ => by rw [h]; exact h', fun h => ⟨_, rfl, h⟩⟩
@[simp, simp ↓] theorem WD_none {α : Type} {Q : α → Prop} : WD none Q = False := by simp [WD]
def boolD : D → Option Bool
  | .bool b => some b
  | _ => none
@[simp] theorem boolD_bool {b : Bool} : boolD (.bool b) = some b := by_rfl rfl
@[simp] theorem bit_bool {b : Bool} : (D.bool b).bit = some (some b) := by_rfl rfl
@[simp] theorem bit_tup : (D.tup []).bit = some none := by_rfl rfl
def cvtD (k : IntKind) : D → Option D
  | .int _ m => some (.int k (k.wrap m))
  | _ => none
@[simp] theorem cvtD_int {k k' : IntKind} {m : Int} : cvtD k (.int k' m) = some (.int k (k.wrap m)) := by_rfl rfl

@[simp, simp ↓] theorem WV_some {d : D} {σ : Stack} {Q : D → Stack → Prop} : WV (some (d, σ)) Q = Q d σ := by
  simp only [WV, Option.some.injEq, Prod.mk.injEq, eq_iff_iff]
  constructor
  · rintro ⟨_, _, ⟨rfl, rfl⟩, h⟩; exact h
  · exact fun h => ⟨_, _, ⟨rfl, rfl⟩, h⟩
@[simp, simp ↓] theorem WV_none {Q : D → Stack → Prop} : WV none Q = False := by simp [WV]

@[simp, simp ↓] theorem WO_nil {e : Env} {σ : Stack} {Q : Env → Stack → Prop} : WO O [] e σ Q = Q e σ := by
  simp only [WO, aops, Option.some.injEq, Prod.mk.injEq, eq_iff_iff]
  constructor
  · rintro ⟨_, _, ⟨rfl, rfl⟩, h⟩; exact h
  · exact fun h => ⟨_, _, ⟨rfl, rfl⟩, h⟩

def grdIs (d : D) (w : Bool) : Option Bool :=
  match d with
  | .bool b => some (b == w)
  | _ => none

@[simp, simp ↓] theorem WO_grd {d : Option Nat} {g : Nat} {w n : Bool} {k : K} {r : List Op} {e : Env} {σ : Stack} {Q : Env → Stack → Prop} :
    WO O (⟨d, some (g, w), n, k⟩ :: r) e σ Q = WD (get e g).bit fun b => if b = some w then WO O (⟨d, none, n, k⟩ :: r) e σ Q else WO O r (put d (.tup []) e) σ Q := by
  cases h : (get e g).bit <;> simp only [WO, aops, h, reduceCtorEq, false_and, exists_false, WD_none, WD_some]
  rename_i b
  by_cases hb : b = some w
  · simp only [hb, if_true]
    rfl
  · simp only [if_neg hb]

theorem WO_sop {d : Option Nat} {n : Bool} {k : K} {r : List Op} {e : Env} {σ : Stack} {Q : Env → Stack → Prop} (h : aop O ⟨d, none, n, k⟩ e σ = (sop e σ k).map fun x => (put d x.1 e, x.2)) :
    WO O (⟨d, none, n, k⟩ :: r) e σ Q = WV (sop e σ k) fun v σ' => WO O r (put d v e) σ' Q := by
  simp only [WO, aops, h, WV, eq_iff_iff]
  constructor
  · rintro ⟨e', σ', h1, h2⟩
    cases hs : sop e σ k with
    | none => simp [hs] at h1
    | some y => simp [hs] at h1; exact ⟨y.1, y.2, rfl, e', σ', h1, h2⟩
  · rintro ⟨v, σ1, h1, e', σ', h2, h3⟩
    exact ⟨e', σ', by simp [h1, h2], h3⟩


theorem WV_of_D {o : Option (D × Stack)} {o' : Option D} {σ : Stack} {Q : D → Stack → Prop} (h : o = o'.map (·, σ)) : WV o Q = WD o' fun v => Q v σ := by
  subst h
  cases o' <;> simp

def lenD : D → Option D
  | .nils => some (.int .i64 0)
  | .lst n _ => some (.int .i64 n)
  | .sl _ _ _ _ n _ => some (.int .i64 n)
  | _ => none
@[simp] theorem lenD_nils : lenD .nils = some (.int .i64 0) := by_rfl rfl
@[simp] theorem lenD_lst {n : Nat} {cs : List D} : lenD (.lst n cs) = some (.int .i64 n) := by_rfl rfl
@[simp] theorem lenD_sl {l i v o n w : Nat} : lenD (.sl l i v o n w) = some (.int .i64 n) := by_rfl rfl

def ldD (ag : Bool) (sz : Nat) : Option (List D) → Option D
  | some cs =>
    if sz ≤ cs.length then
      if ag then some (.agg (cs.take sz)) else
      match cs with
      | d :: _ => some d
      | [] => none
    else none
  | none => none
@[simp] theorem ldD_ag {sz : Nat} {cs : List D} : ldD true sz (some cs) = if sz ≤ cs.length then some (.agg (cs.take sz)) else none := by_rfl rfl
@[simp] theorem ldD_one {d : D} {cs : List D} : ldD false 1 (some (d :: cs)) = some d := by simp [ldD]
@[simp] theorem rdD_cref {σ : Stack} {cs : List D} : rdD σ (.cref cs) = some cs := by_rfl rfl
@[simp] theorem rdD_ref {σ : Stack} {l i v off : Nat} : rdD σ (.ref l i v off) = (cells? σ l i v).map (·.drop off) := by_rfl rfl

def ldvD (e : Env) (v : Nat) (ag : Bool) (sz a : Nat) : Option D := ldD ag sz ((inVar e v a).map fun x => x.2.1.drop x.2.2)

def crefD : D → Option (List D)
  | .cref cs => some cs
  | _ => none
@[simp] theorem crefD_cref {cs : List D} : crefD (.cref cs) = some cs := by_rfl rfl
@[simp] theorem isnD_nilp : isnD true .nilp = some true := by_rfl rfl
@[simp] theorem isnD_cref {cs : List D} : isnD true (.cref cs) = some false := by_rfl rfl
@[simp] theorem isnD_ref {l i v off : Nat} : isnD true (.ref l i v off) = some false := by_rfl rfl
@[simp] theorem isnD_nils : isnD false .nils = some true := by_rfl rfl
@[simp] theorem isnD_lst {n : Nat} {cs : List D} : isnD false (.lst n cs) = if n = 0 then none else some false := by_rfl rfl
@[simp] theorem isnD_sl {l i v off n w : Nat} : isnD false (.sl l i v off n w) = if n = 0 then none else some false := by_rfl rfl
def nckD : D → Option D
  | .cref cs => some (.cref cs)
  | .ref l i v off => some (.ref l i v off)
  | _ => none
@[simp] theorem nckD_cref {cs : List D} : nckD (.cref cs) = some (.cref cs) := by_rfl rfl
@[simp] theorem nckD_ref {l i v off : Nat} : nckD (.ref l i v off) = some (.ref l i v off) := by_rfl rfl
def unD : UnOp → D → Option D
  | .not, .bool b => some (.bool !b)
  | .neg, .int k n => some (.int k (k.wrap (0 - n)))
  | .xor, .int k n => some (.int k (k.wrap ((BitVec.ofInt k.bits (if k.signed then -1 else k.max) ^^^ BitVec.ofInt k.bits n).toNat : Int)))
  | _, _ => none
theorem unD_xor8 {n : Nat} (h : n < 256) : unD .xor (.int .u8 n) = some (.int .u8 ((255 - n : Nat) : Int)) := by
  have key : ∀ m : Fin 256, IntKind.u8.wrap ((BitVec.ofInt 8 255 ^^^ BitVec.ofInt 8 (m.1 : Int)).toNat : Int) = ((255 - m.1 : Nat) : Int) := by decide +kernel
  have := key ⟨n, h⟩
  simp only [unD]
  exact congrArg (fun z => some (D.int .u8 z)) this
@[simp] theorem unD_not {b : Bool} : unD .not (.bool b) = some (.bool !b) := by_rfl rfl
@[simp] theorem unD_neg {k : IntKind} {n : Int} : unD .neg (.int k n) = some (.int k (k.wrap (0 - n))) := by_rfl rfl

def fadrV (n off : Nat) : D → Option D
  | .cref cs => some (.cref (cs.drop off))
  | .ref l i v o => some (.ref l i v (o + off))
  | .own s _ => some (.vr n s off)
  | .vr v s o => some (.vr v s (o + off))
  | _ => none
@[simp] theorem fadrV_cref {n off : Nat} {cs : List D} : fadrV n off (.cref cs) = some (.cref (cs.drop off)) := by_rfl rfl
@[simp] theorem fadrV_ref {n off l i v o : Nat} : fadrV n off (.ref l i v o) = some (.ref l i v (o + off)) := by_rfl rfl
@[simp] theorem fadrV_own {n off s : Nat} {cs : List D} : fadrV n off (.own s cs) = some (.vr n s off) := by_rfl rfl
@[simp] theorem fadrV_vr {n off v s o : Nat} : fadrV n off (.vr v s o) = some (.vr v s (o + off)) := by_rfl rfl

def fldD (ag : Bool) (off sz : Nat) : D → Option D
  | .agg cs =>
    if off + sz ≤ cs.length then
      if ag then some (.agg ((cs.drop off).take sz)) else cs[off]?
    else none
  | _ => none
@[simp] theorem fldD_agg {ag : Bool} {off sz : Nat} {cs : List D} : fldD ag off sz (.agg cs) = if off + sz ≤ cs.length then (if ag then some (.agg ((cs.drop off).take sz)) else cs[off]?) else none := by_rfl rfl

def idxAV (m len w : Nat) (x i : D) : Option D :=
  match intD i with
  | some n =>
    if 0 ≤ n ∧ n < len then
      match x with
      | .cref cs => some (.cref ((cs.drop (n.toNat * w)).take w))
      | .ref l j v off => some (.ref l j v (off + n.toNat * w))
      | .own s _ => some (.vr m s (n.toNat * w))
      | .vr v s o => some (.vr v s (o + n.toNat * w))
      | _ => none
    else none
  | none => none
@[simp] theorem idxAV_cref {m len w : Nat} {cs : List D} {k : IntKind} {n : Int} : idxAV m len w (.cref cs) (.int k n) = if 0 ≤ n ∧ n < len then some (.cref ((cs.drop (n.toNat * w)).take w)) else none := by_rfl rfl
@[simp] theorem idxAV_ref {m len w l j v off : Nat} {k : IntKind} {n : Int} : idxAV m len w (.ref l j v off) (.int k n) = if 0 ≤ n ∧ n < len then some (.ref l j v (off + n.toNat * w)) else none := by_rfl rfl
@[simp] theorem idxAV_own {m len w s : Nat} {cs : List D} {k : IntKind} {n : Int} : idxAV m len w (.own s cs) (.int k n) = if 0 ≤ n ∧ n < len then some (.vr m s (n.toNat * w)) else none := by_rfl rfl
@[simp] theorem idxAV_vr {m len w v s o : Nat} {k : IntKind} {n : Int} : idxAV m len w (.vr v s o) (.int k n) = if 0 ≤ n ∧ n < len then some (.vr v s (o + n.toNat * w)) else none := by_rfl rfl

def idxSV (w : Nat) (x i : D) : Option D :=
  match x, intD i with
  | .lst m cs, some n => if 0 ≤ n ∧ n < m then some (.cref ((cs.drop (n.toNat * w)).take w)) else none
  | .sl l j v off m w', some n => if 0 ≤ n ∧ n < m ∧ w' = w then some (.ref l j v (off + n.toNat * w)) else none
  | _, _ => none
@[simp] theorem idxSV_lst {w m : Nat} {cs : List D} {k : IntKind} {n : Int} : idxSV w (.lst m cs) (.int k n) = if 0 ≤ n ∧ n < m then some (.cref ((cs.drop (n.toNat * w)).take w)) else none := by_rfl rfl
@[simp] theorem idxSV_sl {w l j v off m w' : Nat} {k : IntKind} {n : Int} : idxSV w (.sl l j v off m w') (.int k n) = if 0 ≤ n ∧ n < m ∧ w' = w then some (.ref l j v (off + n.toNat * w)) else none := by_rfl rfl

def idxVD (ag : Bool) (len w : Nat) (x i : D) : Option D :=
  match x, intD i with
  | .agg cs, some n =>
    if 0 ≤ n ∧ n < len ∧ (n.toNat + 1) * w ≤ cs.length then
      if ag then some (.agg ((cs.drop (n.toNat * w)).take w)) else cs[n.toNat * w]?
    else none
  | _, _ => none
@[simp] theorem idxVD_agg {ag : Bool} {len w : Nat} {cs : List D} {k : IntKind} {n : Int} : idxVD ag len w (.agg cs) (.int k n) = if 0 ≤ n ∧ n < len ∧ (n.toNat + 1) * w ≤ cs.length then (if ag then some (.agg ((cs.drop (n.toNat * w)).take w)) else cs[n.toNat * w]?) else none := by_rfl rfl

def mnD (x y : D) : Option D :=
  match x, y with
  | .int k a, .int _ b => some (.int k (min a b))
  | _, _ => none
@[simp] theorem mnD_int {k k' : IntKind} {a b : Int} : mnD (.int k a) (.int k' b) = some (.int k (min a b)) := by_rfl rfl
def mxD (x y : D) : Option D :=
  match x, y with
  | .int k a, .int _ b => some (.int k (max a b))
  | _, _ => none
@[simp] theorem mxD_int {k k' : IntKind} {a b : Int} : mxD (.int k a) (.int k' b) = some (.int k (max a b)) := by_rfl rfl
def extD (x : D) (i : Nat) : Option D :=
  match x with
  | .tup ds => ds[i]?
  | _ => none
@[simp] theorem extD_tup {ds : List D} {i : Nat} : extD (.tup ds) i = ds[i]? := by_rfl rfl
def eqvD (ag : Bool) (ks : List (Option IntKind)) (neg : Bool) (x y : D) : Option D :=
  match x.row ag, y.row ag with
  | some p, some q => (eqK ks p q).map fun b => .bool (if neg then !b else b)
  | _, _ => none
@[simp] theorem eqvD_ag {ks : List (Option IntKind)} {neg : Bool} {p q : List D} : eqvD true ks neg (.agg p) (.agg q) = (eqK ks p q).map fun b => .bool (if neg then !b else b) := by_rfl rfl
@[simp] theorem eqvD_int {ks : List (Option IntKind)} {neg : Bool} {k k' : IntKind} {a b : Int} : eqvD false ks neg (.int k a) (.int k' b) = (eqK ks [.int k a] [.int k' b]).map fun b => .bool (if neg then !b else b) := by_rfl rfl
@[simp] theorem eqvD_bool {ks : List (Option IntKind)} {neg : Bool} {a b : Bool} : eqvD false ks neg (.bool a) (.bool b) = (eqK ks [.bool a] [.bool b]).map fun b => .bool (if neg then !b else b) := by_rfl rfl
@[simp] theorem reqK_nil : eqK [] [] [] = some true := by_rfl rfl
@[simp] theorem reqK_int {k k1 k2 : IntKind} {ks : List (Option IntKind)} {a b : Int} {x y : List D} : eqK (some k :: ks) (.int k1 a :: x) (.int k2 b :: y) = if k1 = k ∧ k2 = k then (eqK ks x y).map (a == b && ·) else none := by_rfl rfl
@[simp] theorem reqK_bool {ks : List (Option IntKind)} {a b : Bool} {x y : List D} : eqK (none :: ks) (.bool a :: x) (.bool b :: y) = (eqK ks x y).map (a == b && ·) := by_rfl rfl

def slcD (w : Nat) (x : D) (e : Env) (lo hi mx : Option Opd) : Option D :=
  match x with
  | .lst n cs => (bounds n e lo hi mx).map fun b => .lst (b.2 - b.1) ((cs.drop (b.1 * w)).take ((b.2 - b.1) * w))
  | .sl l i v off n w' => if w' = w then (bounds n e lo hi mx).map fun b => .sl l i v (off + b.1 * w) (b.2 - b.1) w else none
  | .nils => (bounds 0 e lo hi mx).map fun _ => .nils
  | _ => none
@[simp] theorem slcD_lst {w n : Nat} {cs : List D} {e : Env} {lo hi mx : Option Opd} : slcD w (.lst n cs) e lo hi mx = (bounds n e lo hi mx).map fun b => .lst (b.2 - b.1) ((cs.drop (b.1 * w)).take ((b.2 - b.1) * w)) := by_rfl rfl
@[simp] theorem slcD_sl {w l i v off n w' : Nat} {e : Env} {lo hi mx : Option Opd} : slcD w (.sl l i v off n w') e lo hi mx = if w' = w then (bounds n e lo hi mx).map fun b => .sl l i v (off + b.1 * w) (b.2 - b.1) w else none := by_rfl rfl
@[simp] theorem slcD_nils {w : Nat} {e : Env} {lo hi mx : Option Opd} : slcD w .nils e lo hi mx = (bounds 0 e lo hi mx).map fun _ => .nils := by_rfl rfl

section bins
variable {k : IntKind} {a b : Int}
@[simp] theorem binD_add : binD .add (.int k a) (.int k b) = some (.int k (k.wrap (a + b))) := by simp [binD]
@[simp] theorem binD_sub : binD .sub (.int k a) (.int k b) = some (.int k (k.wrap (a - b))) := by simp [binD]
@[simp] theorem binD_mul : binD .mul (.int k a) (.int k b) = some (.int k (k.wrap (a * b))) := by simp [binD]
@[simp] theorem binD_quo : binD .quo (.int k a) (.int k b) = if b ≠ 0 then some (.int k (k.wrap (a.tdiv b))) else none := by simp [binD]
@[simp] theorem binD_rem : binD .rem (.int k a) (.int k b) = if b ≠ 0 then some (.int k (a.tmod b)) else none := by simp [binD]
@[simp] theorem binD_shl {k' : IntKind} : binD .shl (.int k a) (.int k' b) = if b < 0 then none else some (.int k (k.wrap (a * 2 ^ (min b.toNat k.bits)))) := by_rfl rfl
@[simp] theorem binD_shr {k' : IntKind} : binD .shr (.int k a) (.int k' b) = if b < 0 then none else some (.int k (a.fdiv (2 ^ (min b.toNat k.bits)))) := by_rfl rfl
@[simp] theorem binD_and : binD .and (.int k a) (.int k b) = some (.int k (k.wrap ((BitVec.ofInt k.bits a &&& BitVec.ofInt k.bits b).toNat : Int))) := by simp [binD]
@[simp] theorem binD_or : binD .or (.int k a) (.int k b) = some (.int k (k.wrap ((BitVec.ofInt k.bits a ||| BitVec.ofInt k.bits b).toNat : Int))) := by simp [binD]
@[simp] theorem binD_xor : binD .xor (.int k a) (.int k b) = some (.int k (k.wrap ((BitVec.ofInt k.bits a ^^^ BitVec.ofInt k.bits b).toNat : Int))) := by simp [binD]
@[simp] theorem binD_eql : binD .eql (.int k a) (.int k b) = some (.bool (a == b)) := by simp [binD]
@[simp] theorem binD_neq : binD .neq (.int k a) (.int k b) = some (.bool (a != b)) := by simp [binD]
@[simp] theorem binD_lss : binD .lss (.int k a) (.int k b) = some (.bool (decide (a < b))) := by simp [binD]
@[simp] theorem binD_leq : binD .leq (.int k a) (.int k b) = some (.bool (decide (a ≤ b))) := by simp [binD]
@[simp] theorem binD_gtr : binD .gtr (.int k a) (.int k b) = some (.bool (decide (b < a))) := by simp [binD]
@[simp] theorem binD_geq : binD .geq (.int k a) (.int k b) = some (.bool (decide (b ≤ a))) := by simp [binD]
end bins

@[simp] theorem rstrip_undef : D.strip .undef = .undef := by_rfl rfl
@[simp] theorem rstrip_bool {b : Bool} : D.strip (.bool b) = .bool b := by_rfl rfl
@[simp] theorem rstrip_int {k : IntKind} {n : Int} : D.strip (.int k n) = .int k n := by_rfl rfl
@[simp] theorem rstrip_str {s : List UInt8} : D.strip (.str s) = .str s := by_rfl rfl
@[simp] theorem rstrip_agg {cs : List D} : D.strip (.agg cs) = .agg cs := by_rfl rfl
@[simp] theorem rstrip_tup {cs : List D} : D.strip (.tup cs) = .tup cs := by_rfl rfl
@[simp] theorem rstrip_nilp : D.strip .nilp = .nilp := by_rfl rfl
@[simp] theorem rstrip_ref {l i v o : Nat} : D.strip (.ref l i v o) = .ref l i v o := by_rfl rfl
@[simp] theorem rstrip_cref {cs : List D} : D.strip (.cref cs) = .cref cs := by_rfl rfl
@[simp] theorem rstrip_nils : D.strip .nils = .nils := by_rfl rfl
@[simp] theorem rstrip_lst {n : Nat} {cs : List D} : D.strip (.lst n cs) = .lst n cs := by_rfl rfl
@[simp] theorem rstrip_sl {l i v o n w : Nat} : D.strip (.sl l i v o n w) = .sl l i v o n w := by_rfl rfl
@[simp] theorem rstrip_fn {f : Nat} {a b : List D} : D.strip (.fn f a b) = .fn f a b := by_rfl rfl
@[simp] theorem rstrip_ifc {t : Nat} {d : D} : D.strip (.ifc t d) = .ifc t d := by_rfl rfl
@[simp] theorem rstrip_nili : D.strip .nili = .nili := by_rfl rfl
@[simp] theorem rcalm_ifc {t : Nat} {d : D} : D.calm (.ifc t d) = .ifc t d := by_rfl rfl
@[simp] theorem rcalm_nili : D.calm .nili = .nili := by_rfl rfl
@[simp] theorem rcells_ifc {t : Nat} {d : D} : D.cells (.ifc t d) = some [.ifc t d] := by_rfl rfl
@[simp] theorem rcells_nili : D.cells .nili = some [.nili] := by_rfl rfl
@[simp] theorem rstrip_nilf : D.strip .nilf = .nilf := by_rfl rfl
@[simp] theorem rstrip_yld {l i : Nat} : D.strip (.yld l i) = .yld l i := by_rfl rfl
@[simp] theorem rstrip_own {s : Nat} {cs : List D} : D.strip (.own s cs) = .undef := by_rfl rfl
@[simp] theorem rstrip_emp : D.strip .emp = .undef := by_rfl rfl
@[simp] theorem rcalm_emp : D.calm .emp = .undef := by_rfl rfl
@[simp] theorem rstrip_vr {x s o : Nat} : D.strip (.vr x s o) = .undef := by_rfl rfl
@[simp] theorem rcalm_undef : D.calm .undef = .undef := by_rfl rfl
@[simp] theorem rcalm_bool {b : Bool} : D.calm (.bool b) = .bool b := by_rfl rfl
@[simp] theorem rcalm_int {k : IntKind} {n : Int} : D.calm (.int k n) = .int k n := by_rfl rfl
@[simp] theorem rcalm_str {s : List UInt8} : D.calm (.str s) = .str s := by_rfl rfl
@[simp] theorem rcalm_agg {cs : List D} : D.calm (.agg cs) = .agg cs := by_rfl rfl
@[simp] theorem rcalm_tup {cs : List D} : D.calm (.tup cs) = .tup cs := by_rfl rfl
@[simp] theorem rcalm_nilp : D.calm .nilp = .nilp := by_rfl rfl
@[simp] theorem rcalm_ref {l i v o : Nat} : D.calm (.ref l i v o) = .ref l i v o := by_rfl rfl
@[simp] theorem rcalm_cref {cs : List D} : D.calm (.cref cs) = .cref cs := by_rfl rfl
@[simp] theorem rcalm_nils : D.calm .nils = .nils := by_rfl rfl
@[simp] theorem rcalm_lst {n : Nat} {cs : List D} : D.calm (.lst n cs) = .lst n cs := by_rfl rfl
@[simp] theorem rcalm_sl {l i v o n w : Nat} : D.calm (.sl l i v o n w) = .sl l i v o n w := by_rfl rfl
@[simp] theorem rcalm_fn {f : Nat} {a b : List D} : D.calm (.fn f a b) = .fn f a b := by_rfl rfl
@[simp] theorem rcalm_nilf : D.calm .nilf = .nilf := by_rfl rfl
@[simp] theorem rcalm_yld {l i : Nat} : D.calm (.yld l i) = .yld l i := by_rfl rfl
@[simp] theorem rcalm_own {s : Nat} {cs : List D} : D.calm (.own s cs) = .own 0 cs := by_rfl rfl
@[simp] theorem rcalm_vr {x s o : Nat} : D.calm (.vr x s o) = .undef := by_rfl rfl
@[simp] theorem rcells_bool {b : Bool} : D.cells (.bool b) = some [.bool b] := by_rfl rfl
@[simp] theorem rcells_int {k : IntKind} {n : Int} : D.cells (.int k n) = some [.int k n] := by_rfl rfl
@[simp] theorem rcells_str {s : List UInt8} : D.cells (.str s) = some [.str s] := by_rfl rfl
@[simp] theorem rcells_agg {cs : List D} : D.cells (.agg cs) = some cs := by_rfl rfl
@[simp] theorem rcells_nilp : D.cells .nilp = some [.nilp] := by_rfl rfl
@[simp] theorem rcells_ref {l i v o : Nat} : D.cells (.ref l i v o) = some [.ref l i v o] := by_rfl rfl
@[simp] theorem rcells_cref {cs : List D} : D.cells (.cref cs) = some [.cref cs] := by_rfl rfl
@[simp] theorem rcells_nils : D.cells .nils = some [.nils] := by_rfl rfl
@[simp] theorem rcells_lst {n : Nat} {cs : List D} : D.cells (.lst n cs) = some [.lst n cs] := by_rfl rfl
@[simp] theorem rcells_sl {l i v o n w : Nat} : D.cells (.sl l i v o n w) = some [.sl l i v o n w] := by_rfl rfl
@[simp] theorem rcells_fn {f : Nat} {a b : List D} : D.cells (.fn f a b) = some [.fn f a b] := by_rfl rfl
@[simp] theorem rcells_nilf : D.cells .nilf = some [.nilf] := by_rfl rfl
@[simp] theorem rcells_yld {l i : Nat} : D.cells (.yld l i) = some [.yld l i] := by_rfl rfl
@[simp] theorem intD_int {k : IntKind} {n : Int} : intD (.int k n) = some n := by_rfl rfl

@[simp] theorem callv_fn {O : Oracle} {kp : Bool} {f : Nat} {first cap args : List D} {σ : Stack} : callv O kp (.fn f first cap) args σ = R.vals (O (.call kp f (first ++ args ++ cap) σ)) := by_rfl rfl
@[simp] theorem callv_yld {O : Oracle} {kp : Bool} {l i : Nat} {args : List D} {σ : Stack} : callv O kp (.yld l i) args σ = R.vals (O (.round l i args σ)) := by_rfl rfl
@[simp] theorem vals_val {d : D} {σ : Stack} : R.vals (some (.val d σ)) = some (d, σ) := by_rfl rfl

section ops
variable {d : Option Nat} {n : Bool} {r : List Op} {e : Env} {σ : Stack} {Q : Env → Stack → Prop}

@[simp, simp ↓] theorem WO_mv {x : Opd} : WO O (⟨d, none, n, .mv x⟩ :: r) e σ Q = WO O r (put d (opd e x) e) σ Q := by rw [WO_sop rfl]; simp [sop]
@[simp, simp ↓] theorem WO_nilb {w : Nat} : WO O (⟨d, none, n, .nilb w⟩ :: r) e σ Q = WV (sop e σ (.nilb w)) fun v σ' => WO O r (put d v e) σ' Q := WO_sop rfl
@[simp, simp ↓] theorem WO_alc {nb : List (Nat × Nat)} {cs : List D} : WO O (⟨d, none, n, .alc nb cs⟩ :: r) e σ Q = WV (sop e σ (.alc nb cs)) fun v σ' => WO O r (put d v e) σ' Q := WO_sop rfl
@[simp, simp ↓] theorem WO_pick {c a b : Opd} : WO O (⟨d, none, n, .pick c a b⟩ :: r) e σ Q = WD (boolD (opd e c)) fun t => WO O r (put d (if t then opd e a else opd e b) e) σ Q := by
  rw [WO_sop rfl]
  simp only [sop]
  cases opd e c <;> simp [boolD]
@[simp, simp ↓] theorem WO_boxi {x : Opd} : WO O (⟨d, none, n, .boxi x⟩ :: r) e σ Q = WD (opd e x).cells fun cs => WO O r (put d (.cref cs) e) σ Q := by
  rw [WO_sop rfl]
  simp only [sop]
  cases (opd e x).cells <;> simp
@[simp, simp ↓] theorem WO_boxm {x : Opd} : WO O (⟨d, none, n, .boxm x⟩ :: r) e σ Q = WV (sop e σ (.boxm x)) fun v σ' => WO O r (put d v e) σ' Q := WO_sop rfl
@[simp, simp ↓] theorem WO_bxn {nb : List (Nat × Nat)} {x : Opd} : WO O (⟨d, none, n, .bxn nb x⟩ :: r) e σ Q = WV (sop e σ (.bxn nb x)) fun v σ' => WO O r (put d v e) σ' Q := WO_sop rfl
@[simp, simp ↓] theorem WO_bld {z : List D} {ps : List (Nat × Nat × Opd)} : WO O (⟨d, none, n, .bld z ps⟩ :: r) e σ Q = WD (fillD e ps z) fun cs => WO O r (put d (.agg cs) e) σ Q := by
  rw [WO_sop rfl]
  simp only [sop]
  cases fillD e ps z <;> simp
@[simp, simp ↓] theorem WO_bsi {m w : Nat} {z : List D} {ps : List (Nat × Nat × Opd)} : WO O (⟨d, none, n, .bsi m w z ps⟩ :: r) e σ Q = WD (fillD e ps z) fun cs => WO O r (put d (.lst m cs) e) σ Q := by
  rw [WO_sop rfl]
  simp only [sop]
  cases fillD e ps z <;> simp
@[simp, simp ↓] theorem WO_bsm {m w : Nat} {z : List D} {ps : List (Nat × Nat × Opd)} : WO O (⟨d, none, n, .bsm m w z ps⟩ :: r) e σ Q = WV (sop e σ (.bsm m w z ps)) fun v σ' => WO O r (put d v e) σ' Q := WO_sop rfl
@[simp, simp ↓] theorem WO_ld {ag : Bool} {sz : Nat} {a : Opd} : WO O (⟨d, none, n, .ld ag sz a⟩ :: r) e σ Q = WD (ldD ag sz (rdD σ (opd e a))) fun v => WO O r (put d v e) σ Q := by
  rw [WO_sop rfl]
  refine WV_of_D ?_
  simp only [sop]
  cases rdD σ (opd e a) with
  | none => rfl
  | some cs =>
    simp only [ldD]
    split
    · cases ag
      · cases cs <;> rfl
      · rfl
    · rfl
@[simp, simp ↓] theorem WO_ld0 {ag : Bool} {sz : Nat} {a : Opd} : WO O (⟨d, none, n, .ld0 ag sz a⟩ :: r) e σ Q = WD (ldD ag sz (rd0 σ (opd e a))) fun v => WO O r (put d v e) σ Q := by
  rw [WO_sop rfl]
  refine WV_of_D ?_
  simp only [sop]
  cases rd0 σ (opd e a) with
  | none => rfl
  | some cs =>
    simp only [ldD]
    split
    · cases ag
      · cases cs <;> rfl
      · rfl
    · rfl
@[simp, simp ↓] theorem WO_ldi {ag : Bool} {sz : Nat} {a : Opd} : WO O (⟨d, none, n, .ldi ag sz a⟩ :: r) e σ Q = WD (ldD ag sz (crefD (opd e a))) fun v => WO O r (put d v e) σ Q := by
  rw [WO_sop rfl]
  refine WV_of_D ?_
  simp only [sop]
  cases opd e a with
  | cref cs =>
    simp only [crefD, ldD]
    split
    · cases ag
      · cases cs <;> rfl
      · rfl
    · rfl
  | _ => rfl
@[simp, simp ↓] theorem WO_isn {ps neg : Bool} {x : Opd} : WO O (⟨d, none, n, .isn ps neg x⟩ :: r) e σ Q = WD (isnD ps (opd e x)) fun b => WO O r (put d (.bool (if neg then !b else b)) e) σ Q := by
  rw [WO_sop rfl]
  simp only [sop]
  cases isnD ps (opd e x) <;> simp
@[simp, simp ↓] theorem WO_nck {x : Opd} : WO O (⟨d, none, n, .nck x⟩ :: r) e σ Q = WD (nckD (opd e x)) fun v => WO O r (put d v e) σ Q := by
  rw [WO_sop rfl]
  refine WV_of_D ?_
  simp only [sop]
  cases opd e x <;> rfl
@[simp, simp ↓] theorem WO_st {nb : List (Nat × Nat)} {sz : Nat} {a x : Opd} : WO O (⟨d, none, n, .st nb sz a x⟩ :: r) e σ Q = WV (sop e σ (.st nb sz a x)) fun v σ' => WO O r (put d v e) σ' Q := WO_sop rfl
@[simp, simp ↓] theorem WO_stc {os : List Nat} {sz : Nat} {a x : Opd} : WO O (⟨d, none, n, .stc os sz a x⟩ :: r) e σ Q = WV (sop e σ (.stc os sz a x)) fun v σ' => WO O r (put d v e) σ' Q := WO_sop rfl
@[simp] theorem off_ref {l i l' i' v o : Nat} : D.off l i (.ref l' i' v o) = decide (¬ (l' = l ∧ i' = i)) := by rw [D.off]
@[simp, simp ↓] theorem WO_ldv {v : Nat} {ag : Bool} {sz a : Nat} : WO O (⟨d, none, n, .ldv v ag sz a⟩ :: r) e σ Q = WD (ldvD e v ag sz a) fun v => WO O r (put d v e) σ Q := by
  rw [WO_sop rfl]
  refine WV_of_D ?_
  simp only [sop, ldvD]
  cases inVar e v a with
  | none => rfl
  | some x =>
    obtain ⟨s, cs, off⟩ := x
    simp only [ldD, Option.map_some]
    split
    · cases ag
      · cases cs.drop off <;> rfl
      · rfl
    · rfl
@[simp, simp ↓] theorem WO_bin {o : BinOp} {x y : Opd} : WO O (⟨d, none, n, .bin o x y⟩ :: r) e σ Q = WD (binD o (opd e x) (opd e y)) fun v => WO O r (put d v e) σ Q := by
  rw [WO_sop rfl]
  simp only [sop]
  cases binD o (opd e x) (opd e y) <;> simp
@[simp, simp ↓] theorem WO_eqv {ag : Bool} {ks : List (Option IntKind)} {neg : Bool} {x y : Opd} : WO O (⟨d, none, n, .eqv ag ks neg x y⟩ :: r) e σ Q = WD (eqvD ag ks neg (opd e x) (opd e y)) fun v => WO O r (put d v e) σ Q := by
  rw [WO_sop rfl]
  refine WV_of_D ?_
  simp only [sop, eqvD]
  cases (opd e x).row ag <;> cases (opd e y).row ag <;> simp [Option.map_map, Function.comp_def]
@[simp, simp ↓] theorem WO_un {o : UnOp} {x : Opd} : WO O (⟨d, none, n, .un o x⟩ :: r) e σ Q = WD (unD o (opd e x)) fun v => WO O r (put d v e) σ Q := by
  rw [WO_sop rfl]
  refine WV_of_D ?_
  simp only [sop]
  cases o <;> cases opd e x <;> rfl
@[simp, simp ↓] theorem WO_cvt {k : IntKind} {x : Opd} : WO O (⟨d, none, n, .cvt k x⟩ :: r) e σ Q = WD (cvtD k (opd e x)) fun v => WO O r (put d v e) σ Q := by
  rw [WO_sop rfl]
  simp only [sop]
  cases opd e x <;> simp [cvtD]
@[simp, simp ↓] theorem WO_pur {p : Pu} {xs : List Opd} : WO O (⟨d, none, n, .pur p xs⟩ :: r) e σ Q = WD (puD p (xs.map (opd e))) fun v => WO O r (put d v e) σ Q := by
  rw [WO_sop rfl]
  simp only [sop]
  cases puD p (xs.map (opd e)) <;> simp
@[simp, simp ↓] theorem WO_me {p : Me} {xs : List Opd} : WO O (⟨d, none, n, .me p xs⟩ :: r) e σ Q = WV (meD σ p (xs.map (opd e))) fun v σ' => WO O r (put d v e) σ' Q := WO_sop rfl
@[simp, simp ↓] theorem WO_mp {p : Mo} {xs : List Opd} : WO O (⟨d, none, n, .mp p xs⟩ :: r) e σ Q = WV (mpD σ p (xs.map (opd e))) fun v σ' => WO O r (put d v e) σ' Q := WO_sop rfl
@[simp, simp ↓] theorem WO_mki {t : Nat} {x : Opd} : WO O (⟨d, none, n, .mki t x⟩ :: r) e σ Q = WO O r (put d (.ifc t (opd e x)) e) σ Q := by rw [WO_sop rfl]; simp [sop]
@[simp, simp ↓] theorem WO_tas {t : Nat} {z : Option D} {x : Opd} : WO O (⟨d, none, n, .tas t z x⟩ :: r) e σ Q = WD (tasD t z (opd e x)) fun v => WO O r (put d v e) σ Q := by
  rw [WO_sop rfl]
  simp only [sop]
  cases tasD t z (opd e x) <;> simp
@[simp, simp ↓] theorem WO_isi {neg : Bool} {x : Opd} : WO O (⟨d, none, n, .isi neg x⟩ :: r) e σ Q = WD (isiD (opd e x)) fun b => WO O r (put d (.bool (if neg then !b else b)) e) σ Q := by
  rw [WO_sop rfl]
  simp only [sop]
  cases isiD (opd e x) <;> simp
@[simp] theorem isiD_nili : isiD .nili = some true := by_rfl rfl
@[simp] theorem isiD_ifc {t : Nat} {d : D} : isiD (.ifc t d) = some false := by_rfl rfl
@[simp] theorem tasD_nili {t : Nat} {z : D} : tasD t (some z) .nili = some (.tup [z, .bool false]) := by_rfl rfl
@[simp] theorem tasD_ifc {t t' : Nat} {z d : D} : tasD t (some z) (.ifc t' d) = some (if t' = t then .tup [d, .bool true] else .tup [z, .bool false]) := by_rfl rfl
@[simp] theorem tasD_one {t t' : Nat} {d : D} : tasD t none (.ifc t' d) = if t' = t then some d else none := by_rfl rfl
@[simp, simp ↓] theorem WO_mkf {f : Nat} {xs ys : List Opd} : WO O (⟨d, none, n, .mkf f xs ys⟩ :: r) e σ Q = WO O r (put d (.fn f (xs.map (opd e)) (ys.map (opd e))) e) σ Q := by rw [WO_sop rfl]; simp [sop]
@[simp, simp ↓] theorem WO_mks {w b : Nat} {z : List D} {l c : Opd} : WO O (⟨d, none, n, .mks w b z l c⟩ :: r) e σ Q = WV (sop e σ (.mks w b z l c)) fun v σ' => WO O r (put d v e) σ' Q := WO_sop rfl
@[simp, simp ↓] theorem WO_slc {w : Nat} {x : Opd} {lo hi mx : Option Opd} : WO O (⟨d, none, n, .slc w x lo hi mx⟩ :: r) e σ Q = WD (slcD w (opd e x) e lo hi mx) fun v => WO O r (put d v e) σ Q := by
  rw [WO_sop rfl]
  refine WV_of_D ?_
  simp only [sop, slcD]
  cases opd e x <;> first | rfl | (simp only []; split <;> simp [Option.map_map, Function.comp_def]) | simp [Option.map_map, Function.comp_def]
@[simp, simp ↓] theorem WO_slca {l w : Nat} {x : Opd} {lo hi : Option Opd} : WO O (⟨d, none, n, .slca l w x lo hi⟩ :: r) e σ Q = WV (sop e σ (.slca l w x lo hi)) fun v σ' => WO O r (put d v e) σ' Q := WO_sop rfl
@[simp, simp ↓] theorem WO_fadr {off m : Nat} : WO O (⟨d, none, n, .fadr off (.t m)⟩ :: r) e σ Q = WD (fadrV m off (get e m)) fun v => WO O r (put d v e) σ Q := by
  rw [WO_sop rfl]
  refine WV_of_D ?_
  simp only [sop]
  cases get e m <;> rfl
@[simp, simp ↓] theorem WO_fld {ag : Bool} {off sz : Nat} {x : Opd} : WO O (⟨d, none, n, .fld ag off sz x⟩ :: r) e σ Q = WD (fldD ag off sz (opd e x)) fun v => WO O r (put d v e) σ Q := by
  rw [WO_sop rfl]
  refine WV_of_D ?_
  simp only [sop]
  cases opd e x <;> first | rfl | (simp only [fldD]; split <;> cases ag <;> simp)
@[simp, simp ↓] theorem WO_idxA {l w m : Nat} {i : Opd} : WO O (⟨d, none, n, .idxA l w (.t m) i⟩ :: r) e σ Q = WD (idxAV m l w (get e m) (opd e i)) fun v => WO O r (put d v e) σ Q := by
  rw [WO_sop rfl]
  refine WV_of_D ?_
  simp only [sop, idxAV]
  cases intD (opd e i) with
  | none => rfl
  | some k => simp only []; split <;> cases get e m <;> rfl
@[simp, simp ↓] theorem WO_idxS {w : Nat} {x i : Opd} : WO O (⟨d, none, n, .idxS w x i⟩ :: r) e σ Q = WD (idxSV w (opd e x) (opd e i)) fun v => WO O r (put d v e) σ Q := by
  rw [WO_sop rfl]
  refine WV_of_D ?_
  simp only [sop, idxSV]
  cases intD (opd e i) with
  | none => cases opd e x <;> rfl
  | some k => cases opd e x <;> first | rfl | (simp only []; split <;> rfl)
@[simp, simp ↓] theorem WO_idxV {ag : Bool} {l w : Nat} {x i : Opd} : WO O (⟨d, none, n, .idxV ag l w x i⟩ :: r) e σ Q = WD (idxVD ag l w (opd e x) (opd e i)) fun v => WO O r (put d v e) σ Q := by
  rw [WO_sop rfl]
  refine WV_of_D ?_
  simp only [sop, idxVD]
  cases intD (opd e i) with
  | none => cases opd e x <;> rfl
  | some k => cases opd e x <;> first | rfl | (simp only []; split <;> cases ag <;> simp)
@[simp, simp ↓] theorem WO_lenS {x : Opd} : WO O (⟨d, none, n, .lenS x⟩ :: r) e σ Q = WD (lenD (opd e x)) fun v => WO O r (put d v e) σ Q := by
  rw [WO_sop rfl]
  refine WV_of_D ?_
  simp only [sop]
  cases opd e x <;> rfl
@[simp, simp ↓] theorem WO_lenC {m : Nat} : WO O (⟨d, none, n, .lenC m⟩ :: r) e σ Q = WO O r (put d (.int .i64 m) e) σ Q := by rw [WO_sop rfl]; simp [sop]
@[simp, simp ↓] theorem WO_mn {x y : Opd} : WO O (⟨d, none, n, .mn x y⟩ :: r) e σ Q = WD (mnD (opd e x) (opd e y)) fun v => WO O r (put d v e) σ Q := by
  rw [WO_sop rfl]
  refine WV_of_D ?_
  simp only [sop]
  cases opd e x <;> cases opd e y <;> rfl
@[simp, simp ↓] theorem WO_mx {x y : Opd} : WO O (⟨d, none, n, .mx x y⟩ :: r) e σ Q = WD (mxD (opd e x) (opd e y)) fun v => WO O r (put d v e) σ Q := by
  rw [WO_sop rfl]
  refine WV_of_D ?_
  simp only [sop]
  cases opd e x <;> cases opd e y <;> rfl
@[simp, simp ↓] theorem WO_apz {w b : Nat} {s x : Opd} : WO O (⟨d, none, n, .apz w b s x⟩ :: r) e σ Q = WV (sop e σ (.apz w b s x)) fun v σ' => WO O r (put d v e) σ' Q := WO_sop rfl
@[simp, simp ↓] theorem WO_apc {os : List Nat} {w b : Nat} {s x : Opd} : WO O (⟨d, none, n, .apc os w b s x⟩ :: r) e σ Q = WV (sop e σ (.apc os w b s x)) fun v σ' => WO O r (put d v e) σ' Q := WO_sop rfl
@[simp, simp ↓] theorem WO_app {w b : Nat} {s x : Opd} : WO O (⟨d, none, n, .app w b s x⟩ :: r) e σ Q = WV (sop e σ (.app w b s x)) fun v σ' => WO O r (put d v e) σ' Q := WO_sop rfl
@[simp, simp ↓] theorem WO_bse : WO O (⟨d, none, n, .bse⟩ :: r) e σ Q = WV (sop e σ .bse) fun v σ' => WO O r (put d v e) σ' Q := WO_sop rfl
@[simp, simp ↓] theorem WO_ape {w b v : Nat} {x : Opd} : WO O (⟨d, none, n, .ape w b v x⟩ :: r) e σ Q = WV (sop e σ (.ape w b v x)) fun v σ' => WO O r (put d v e) σ' Q := WO_sop rfl
@[simp, simp ↓] theorem WO_cpi {w b : Nat} {x : Opd} : WO O (⟨d, none, n, .cpi w b x⟩ :: r) e σ Q = WV (sop e σ (.cpi w b x)) fun v σ' => WO O r (put d v e) σ' Q := WO_sop rfl
@[simp, simp ↓] theorem WO_ext {x : Opd} {i : Nat} : WO O (⟨d, none, n, .ext x i⟩ :: r) e σ Q = WD (extD (opd e x) i) fun v => WO O r (put d v e) σ Q := by
  rw [WO_sop rfl]
  refine WV_of_D ?_
  simp only [sop]
  cases opd e x <;> rfl

@[simp, simp ↓] theorem WO_call {kp : Bool} {f : Opd} {args : List Opd} : WO O (⟨d, none, n, .call kp f args⟩ :: r) e σ Q =
    WV (callv O kp (opd e f) (args.map (opd e)) σ) fun v σ' => (n = true → σ' = σ) ∧ WO O r (put d v e) σ' Q := by
  simp only [WO, aops, aop, WV, eq_iff_iff]
  cases hc : callv O kp (opd e f) (args.map (opd e)) σ with
  | none => simp
  | some y =>
    obtain ⟨v, σ1⟩ := y
    by_cases hn : n = true → σ1 = σ
    · simp only [if_pos hn, Option.bind_some, Option.some.injEq, Prod.mk.injEq]
      exact ⟨fun h => ⟨v, σ1, ⟨rfl, rfl⟩, hn, h⟩, fun ⟨_, _, ⟨h1, h2⟩, _, h⟩ => by subst h1 h2; exact h⟩
    · simp only [if_neg hn, Option.bind_none, reduceCtorEq, false_and, exists_false, Option.some.injEq, Prod.mk.injEq, false_iff]
      rintro ⟨_, _, ⟨h1, h2⟩, h, _⟩
      subst h1 h2
      exact hn h

@[simp, simp ↓] theorem WO_alcv {nb : List (Nat × Nat)} {cs : List D} : WO O (⟨d, none, n, .alcv nb cs⟩ :: r) e σ Q = WD d fun v => WD (nilbs nb cs σ) fun y => WO O r ((v, .own (stamp e v) y.1) :: e) y.2 Q := by
  cases d with
  | none => simp [WO, aops, aop]
  | some v => cases h : nilbs nb cs σ with
    | none => simp [WO, aops, aop, h]
    | some y => obtain ⟨a, b⟩ := y; simp only [WO, aops, aop, h, Option.bind_some, WD_some]
@[simp, simp ↓] theorem WO_boxv {x : Opd} : WO O (⟨d, none, n, .boxv x⟩ :: r) e σ Q = WD d fun v => WD (opd e x).cells fun cs => WO O r ((v, .own (stamp e v) cs) :: e) σ Q := by
  cases d with
  | none => simp [WO, aops, aop]
  | some v => cases h : (opd e x).cells with
    | none => simp [WO, aops, aop, h]
    | some y => simp only [WO, aops, aop, h, Option.bind_some, WD_some]

def stvD (e : Env) (σ : Stack) (v : Nat) (nb : List (Nat × Nat)) (sz a : Nat) (x : Opd) : Option (D × Stack) :=
  match inVar e v a, (opd e x).cells with
  | some (s, cs, off), some p =>
    if p.length = sz ∧ off + sz ≤ cs.length then
      match nilbs nb p σ with
      | some (p', σ') => some (.own s (cs.take off ++ p' ++ cs.drop (off + sz)), σ')
      | none => none
    else none
  | _, _ => none

@[simp, simp ↓] theorem WO_stv {v : Nat} {nb : List (Nat × Nat)} {sz a : Nat} {x : Opd} : WO O (⟨d, none, n, .stv v nb sz a x⟩ :: r) e σ Q =
    WV (stvD e σ v nb sz a x) fun y σ' => WO O r ((v, y) :: e) σ' Q := by
  simp only [WO, aops, aop, stvD]
  cases h1 : inVar e v a with
  | none => simp
  | some p =>
    obtain ⟨s, cs, off⟩ := p
    cases h2 : (opd e x).cells with
    | none => simp
    | some p =>
      dsimp only
      split
      · cases h3 : nilbs nb p σ with
        | none => simp
        | some y => obtain ⟨a, b⟩ := y; simp [WO]
      · simp
end ops

section code
variable {e : Env} {σ : Stack} {Q : Exit → Env → Stack → Prop}
@[simp, simp ↓] theorem WC_nop : WC O .nop e σ Q = Q .normal e σ := by
  simp only [WC, acode, Option.some.injEq, Prod.mk.injEq, eq_iff_iff]
  exact ⟨fun ⟨_, _, _, ⟨h1, h2, h3⟩, h⟩ => by subst h1 h2 h3; exact h, fun h => ⟨_, _, _, ⟨rfl, rfl, rfl⟩, h⟩⟩
@[simp, simp ↓] theorem WC_frz {vs : List Nat} : WC O (.frz vs) e σ Q = Q .normal (frzs vs e σ).1 (frzs vs e σ).2 := by
  simp only [WC, acode, Option.some.injEq, Prod.mk.injEq, eq_iff_iff]
  exact ⟨fun ⟨_, _, _, ⟨h1, h2, h3⟩, h⟩ => by subst h1 h2 h3; exact h, fun h => ⟨_, _, _, ⟨rfl, rfl, rfl⟩, h⟩⟩
@[simp, simp ↓] theorem WC_exit {i : Nat} : WC O (.exit i) e σ Q = Q (.exit i) e σ := by
  simp only [WC, acode, Option.some.injEq, Prod.mk.injEq, eq_iff_iff]
  exact ⟨fun ⟨_, _, _, ⟨h1, h2, h3⟩, h⟩ => by subst h1 h2 h3; exact h, fun h => ⟨_, _, _, ⟨rfl, rfl, rfl⟩, h⟩⟩
@[simp, simp ↓] theorem WC_ret : WC O .ret e σ Q = Q .ret e σ := by
  simp only [WC, acode, Option.some.injEq, Prod.mk.injEq, eq_iff_iff]
  exact ⟨fun ⟨_, _, _, ⟨h1, h2, h3⟩, h⟩ => by subst h1 h2 h3; exact h, fun h => ⟨_, _, _, ⟨rfl, rfl, rfl⟩, h⟩⟩
@[simp, simp ↓] theorem WC_reg {live : List Nat} {ops : List Op} : WC O (.reg live ops) e σ Q = WO O ops e σ fun e' σ' => Q .normal (restrict live e') σ' := by
  simp only [WC, acode, WO, Option.map_eq_some_iff, Prod.mk.injEq, eq_iff_iff]
  constructor
  · rintro ⟨x, e', σ', ⟨⟨e1, σ1⟩, h1, rfl, rfl, rfl⟩, h⟩
    exact ⟨e1, σ1, h1, h⟩
  · rintro ⟨e', σ', h1, h⟩
    exact ⟨_, _, _, ⟨⟨e', σ'⟩, h1, rfl, rfl, rfl⟩, h⟩

def thenC (O : Oracle) (b : Cmd) (Q : Exit → Env → Stack → Prop) (_m : Mark b := .mk) (_m' : Mark Q := .mk) : Exit → Env → Stack → Prop
  | .normal, e, σ => WC O b e σ Q
  | .exit i, e, σ => Q (.exit i) e σ
  | .ret, e, σ => Q .ret e σ
  | .thr d, e, σ => Q (.thr d) e σ
@[simp, simp ↓] theorem thenC_thr {b : Cmd} {d : D} : thenC O b Q .mk .mk (.thr d) e σ = Q (.thr d) e σ := by_rfl rfl
@[simp, simp ↓] theorem thenC_normal {b : Cmd} : thenC O b Q .mk .mk .normal e σ = WC O b e σ Q := by_rfl rfl
@[simp, simp ↓] theorem thenC_exit {b : Cmd} {i : Nat} : thenC O b Q .mk .mk (.exit i) e σ = Q (.exit i) e σ := by_rfl rfl
@[simp, simp ↓] theorem thenC_ret {b : Cmd} : thenC O b Q .mk .mk .ret e σ = Q .ret e σ := by_rfl rfl

@[simp, simp ↓] theorem WC_seq {a b : Cmd} : WC O (.seq a b) e σ Q = WC O a e σ (thenC O b Q .mk .mk) := by
  simp only [WC, acode, Option.bind_eq_some_iff, eq_iff_iff]
  constructor
  · rintro ⟨x, e', σ', ⟨⟨x1, e1, σ1⟩, h1, h2⟩, h⟩
    refine ⟨x1, e1, σ1, h1, ?_⟩
    cases x1 with
    | normal => exact ⟨x, e', σ', h2, h⟩
    | exit i => cases h2; exact h
    | ret => cases h2; exact h
    | thr d => cases h2; exact h
  · rintro ⟨x1, e1, σ1, h1, h⟩
    cases x1 with
    | normal => obtain ⟨x, e', σ', h2, h3⟩ := h; exact ⟨x, e', σ', ⟨_, h1, h2⟩, h3⟩
    | exit i => exact ⟨_, _, _, ⟨_, h1, rfl⟩, h⟩
    | ret => exact ⟨_, _, _, ⟨_, h1, rfl⟩, h⟩
    | thr d => exact ⟨_, _, _, ⟨_, h1, rfl⟩, h⟩
@[simp, simp ↓] theorem WC_ite {c : Opd} {a b : Cmd} : WC O (.ite c a b) e σ Q = WD (boolD (opd e c)) fun t => if t = true then WC O a e σ Q else WC O b e σ Q := by
  simp only [WC, acode]
  cases opd e c <;> simp [boolD]
  rename_i t
  cases t <;> simp

def outC (id : Nat) (Q : Exit → Env → Stack → Prop) (_m : Mark Q := .mk) : Exit → Env → Stack → Prop
  | .normal, e, σ => Q .normal e σ
  | .exit i, e, σ => if i = id then Q .normal e σ else Q (.exit i) e σ
  | .ret, e, σ => Q .ret e σ
  | .thr d, e, σ => Q (.thr d) e σ
@[simp, simp ↓] theorem outC_thr {id : Nat} {d : D} : outC id Q .mk (.thr d) e σ = Q (.thr d) e σ := by_rfl rfl
@[simp, simp ↓] theorem outC_normal {id : Nat} : outC id Q .mk .normal e σ = Q .normal e σ := by_rfl rfl
@[simp, simp ↓] theorem outC_exit {id i : Nat} : outC id Q .mk (.exit i) e σ = if i = id then Q .normal e σ else Q (.exit i) e σ := by_rfl rfl
@[simp, simp ↓] theorem outC_ret {id : Nat} : outC id Q .mk .ret e σ = Q .ret e σ := by_rfl rfl

@[simp, simp ↓] theorem WC_blk {id : Nat} {a : Cmd} : WC O (.blk id a) e σ Q = WC O a e σ (outC id Q .mk) := by
  simp only [WC, acode, Option.map_eq_some_iff, eq_iff_iff]
  constructor
  · rintro ⟨x, e', σ', ⟨⟨x1, e1, σ1⟩, h1, h2⟩, h⟩
    refine ⟨x1, e1, σ1, h1, ?_⟩
    cases x1 with
    | normal => cases h2; exact h
    | exit i =>
      simp only [outC]
      dsimp only at h2
      split at h2 <;> cases h2
      · rw [if_pos (by assumption)]; exact h
      · rw [if_neg (by assumption)]; exact h
    | ret => cases h2; exact h
    | thr d => cases h2; exact h
  · rintro ⟨x1, e1, σ1, h1, h⟩
    cases x1 with
    | normal => exact ⟨_, _, _, ⟨_, h1, rfl⟩, h⟩
    | exit i =>
      simp only [outC] at h
      split at h
      · exact ⟨_, _, _, ⟨_, h1, by dsimp only; rw [if_pos (by assumption)]⟩, h⟩
      · exact ⟨_, _, _, ⟨_, h1, by dsimp only; rw [if_neg (by assumption)]⟩, h⟩
    | ret => exact ⟨_, _, _, ⟨_, h1, rfl⟩, h⟩
    | thr d => exact ⟨_, _, _, ⟨_, h1, rfl⟩, h⟩

theorem calm_calm (d : D) : d.calm.calm = d.calm := by cases d <;> rfl

theorem rget_restrict {live : List Nat} {e : Env} {t : Nat} : get (restrict live e) t = if t ∈ live then (get e t).calm else .undef := by
  induction live with
  | nil => simp [restrict, get]
  | cons a l ih =>
    simp only [restrict, List.map_cons, get, List.mem_cons]
    by_cases h : a = t
    · subst h; simp
    · have h' : ¬ t = a := fun x => h x.symm
      simp only [if_neg h, h', false_or]
      exact ih

theorem restrict_restrict {live : List Nat} {e : Env} : restrict live (restrict live e) = restrict live e := by
  simp only [restrict, List.map_inj_left, Prod.mk.injEq, true_and]
  intro t ht
  have := rget_restrict (live := live) (e := e) (t := t)
  simp only [restrict] at this
  rw [this, if_pos ht, calm_calm]

theorem stepQ_loop_restrict {live : List Nat} {seg : Bool} {c : Cmd} : stepQ T O (.loop live seg c (restrict live e) σ) = stepQ T O (.loop live seg c e σ) := by
  simp only [stepQ, restrict_restrict]

theorem lim_loop_restrict {live : List Nat} {seg : Bool} {c : Cmd} {r : R} (h : lim T (.loop live seg c (restrict live e) σ) = some r) : lim T (.loop live seg c e σ) = some r := by
  obtain ⟨n, h⟩ := lim_iff.1 h
  cases n with
  | zero => cases h
  | succ n =>
    rw [it, stepQ_loop_restrict] at h
    exact lim_iff.2 ⟨n + 1, h⟩

theorem lim_loop_restrict' {live : List Nat} {seg : Bool} {c : Cmd} {r : R} (h : lim T (.loop live seg c e σ) = some r) : lim T (.loop live seg c (restrict live e) σ) = some r := by
  obtain ⟨n, h⟩ := lim_iff.1 h
  cases n with
  | zero => cases h
  | succ n =>
    rw [it, ← stepQ_loop_restrict] at h
    exact lim_iff.2 ⟨n + 1, h⟩

theorem ctls_some' {r : Option R} {x : Exit} {e : Env} {σ : Stack} (h : R.ctls r = some (x, e, σ)) : r = some (.ctl x e σ) := by
  unfold R.ctls at h
  split at h
  · cases h; rfl
  · cases h

@[simp, simp ↓] theorem WC_loop {live : List Nat} {seg : Bool} {c : Cmd} : WC (lim T) (.loop live seg c) e σ Q = WL T live seg c (restrict live e) σ Q := by
  simp only [WC, acode, WL, eq_iff_iff]
  constructor
  · rintro ⟨x, e', σ', h1, h⟩
    cases hl : lim T (.loop live seg c e σ) with
    | none => rw [hl] at h1; cases h1
    | some r =>
      rw [hl] at h1
      cases r <;> cases h1
      exact ⟨_, _, _, lim_loop_restrict' hl, h⟩
  · rintro ⟨x, e', σ', h1, h⟩
    exact ⟨x, e', σ', by rw [lim_loop_restrict h1]; rfl, h⟩

def nextL (T : Tbl) (live : List Nat) (c : Cmd) (Q : Exit → Env → Stack → Prop) (_m : Mark c := .mk) (_m' : Mark Q := .mk) : Exit → Env → Stack → Prop
  | .normal, e, σ => WL T live false c (restrict live e) σ Q
  | .exit i, e, σ => Q (.exit i) e σ
  | .ret, e, σ => Q .ret e σ
  | .thr d, e, σ => Q (.thr d) e σ
@[simp, simp ↓] theorem nextL_thr {live : List Nat} {c : Cmd} {d : D} : nextL T live c Q .mk .mk (.thr d) e σ = Q (.thr d) e σ := by_rfl rfl
@[simp, simp ↓] theorem nextL_normal {live : List Nat} {c : Cmd} : nextL T live c Q .mk .mk .normal e σ = WL T live false c (restrict live e) σ Q := by_rfl rfl
@[simp, simp ↓] theorem nextL_exit {live : List Nat} {c : Cmd} {i : Nat} : nextL T live c Q .mk .mk (.exit i) e σ = Q (.exit i) e σ := by_rfl rfl
@[simp, simp ↓] theorem nextL_ret {live : List Nat} {c : Cmd} : nextL T live c Q .mk .mk .ret e σ = Q .ret e σ := by_rfl rfl

theorem WL_step {live : List Nat} {c c' : Cmd} (hc : c = c') (h : WC (lim T) c' (restrict live e) σ (nextL T live c Q .mk .mk)) : WL T live false c e σ Q := by
  rw [← hc] at h
  obtain ⟨x, e1, σ1, h1, h2⟩ := h
  cases x with
  | normal =>
    obtain ⟨x, e', σ', h3, h4⟩ := h2
    exact ⟨x, e', σ', lim_step (by simp [stepQ, h1, lim_loop_restrict h3]), h4⟩
  | exit i => exact ⟨_, _, _, lim_step (by simp [stepQ, h1]), h2⟩
  | ret => exact ⟨_, _, _, lim_step (by simp [stepQ, h1]), h2⟩
  | thr d => exact ⟨_, _, _, lim_step (by simp [stepQ, h1]), h2⟩

def endC (σ : Stack) (res : List Res) (d : D) (x : Exit) (e : Env) (σ1 : Stack) : Prop :=
  (∀ i, x ≠ .exit i) ∧ (∀ d, x ≠ .thr d) ∧ ∃ ds, resL e σ1 res = some ds ∧ ∃ s, frz (σ.length - 1) deep (mkRes ds) σ1 = (d, s :: σ)
@[simp, simp ↓] theorem endC_normal {σ1 : Stack} {res : List Res} {d : D} : endC σ res d .normal e σ1 = ∃ ds, resL e σ1 res = some ds ∧ ∃ s, frz (σ.length - 1) deep (mkRes ds) σ1 = (d, s :: σ) := by simp [endC]
@[simp, simp ↓] theorem endC_ret {σ1 : Stack} {res : List Res} {d : D} : endC σ res d .ret e σ1 = ∃ ds, resL e σ1 res = some ds ∧ ∃ s, frz (σ.length - 1) deep (mkRes ds) σ1 = (d, s :: σ) := by simp [endC]

theorem call_of {f : Nat} {fn : Fn} {args : List D} {σ : Stack} {d : D} {np : Nat} {res : List Res} {body : Cmd} (hT : T f = some fn) (hf : fn = ⟨np, res, body⟩) (hl : args.length = np)
    (h : WC (lim T) body (mkEnv 0 args) ([] :: σ) (endC σ res d)) :
    lim T (.call false f args σ) = some (.val d σ) := by
  subst hf
  obtain ⟨x, e1, σ1, h1, h2, h2', ds, h3, s, h4⟩ := h
  refine lim_step ?_
  simp only [stepQ, hT, if_pos hl, Bool.false_eq_true, if_false, h1]
  cases x with
  | exit i => exact absurd rfl (h2 i)
  | thr d => exact absurd rfl (h2' d)
  | normal => simp [h3, h4]
  | ret => simp [h3, h4]

def endT (σ : Stack) (d : D) (x : Exit) (e : Env) (σ1 : Stack) : Prop := x = .thr d ∧ d.clean = true ∧ ∃ s, σ1 = s :: σ
@[simp, simp ↓] theorem endT_thr {σ1 : Stack} {d d' : D} : endT σ d (.thr d') e σ1 = (d' = d ∧ d.clean = true ∧ ∃ s, σ1 = s :: σ) := by simp [endT]
def WR (r : Option R) (Qn Qt : D → Stack → Prop) (_m : Mark Qn := .mk) (_m' : Mark Qt := .mk) : Prop := (∃ d σ', r = some (.val d σ') ∧ Qn d σ') ∨ ∃ d σ', r = some (.thr d σ') ∧ Qt d σ'
@[simp, simp ↓] theorem WR_val {d : D} {σ' : Stack} {Qn Qt : D → Stack → Prop} : WR (some (.val d σ')) Qn Qt = Qn d σ' := by
  simp only [WR, Option.some.injEq, R.val.injEq, reduceCtorEq, false_and, exists_false, or_false, eq_iff_iff]
  exact ⟨fun ⟨_, _, ⟨h1, h2⟩, h⟩ => by subst h1 h2; exact h, fun h => ⟨_, _, ⟨rfl, rfl⟩, h⟩⟩
@[simp, simp ↓] theorem WR_thr {d : D} {σ' : Stack} {Qn Qt : D → Stack → Prop} : WR (some (.thr d σ')) Qn Qt = Qt d σ' := by
  simp only [WR, Option.some.injEq, R.thr.injEq, reduceCtorEq, false_and, exists_false, false_or, eq_iff_iff]
  exact ⟨fun ⟨_, _, ⟨h1, h2⟩, h⟩ => by subst h1 h2; exact h, fun h => ⟨_, _, ⟨rfl, rfl⟩, h⟩⟩
def panD : D → Option D
  | .ifc t d => if d.clean then some (.ifc t d) else none
  | _ => none
@[simp] theorem panD_ifc {t : Nat} {d : D} : panD (.ifc t d) = if d.clean then some (.ifc t d) else none := by_rfl rfl
@[simp] theorem callr_fn {O : Oracle} {f : Nat} {first cap args : List D} {σ : Stack} : callr O (.fn f first cap) args σ = O (.call false f (first ++ args ++ cap) σ) := by_rfl rfl

@[simp, simp ↓] theorem WC_treg_call {live : List Nat} {pre post : List Op} {dst : Option Nat} {n : Bool} {f : Opd} {args : List Opd} : WC O (.treg live pre ⟨dst, none, n, .call false f args⟩ post) e σ Q =
    WO O pre e σ fun e1 σ1 => WR (callr O (opd e1 f) (args.map (opd e1)) σ1) (fun d σ2 => WO O post (put dst d e1) σ2 fun e' σ' => Q .normal (restrict live e') σ') (fun d σ2 => Q (.thr d) e1 σ2) := by
  simp only [WC, WO, acode, aopt, Option.bind_eq_some_iff, eq_iff_iff]
  constructor
  · rintro ⟨x, e', σ', ⟨⟨e1, σ1⟩, h1, h2⟩, h⟩
    refine ⟨e1, σ1, h1, ?_⟩
    dsimp only at h2
    cases hc : callr O (opd e1 f) (args.map (opd e1)) σ1 with
    | none => rw [hc] at h2; simp [aoptR] at h2
    | some r =>
      rw [hc] at h2
      cases r with
      | ctl => simp [aoptR] at h2
      | thr d σ2 => simp only [aoptR, Option.some.injEq, Prod.mk.injEq] at h2; obtain ⟨rfl, rfl, rfl⟩ := h2; rw [WR_thr]; exact h
      | val d σ2 =>
        simp only [aoptR, Option.map_eq_some_iff] at h2
        obtain ⟨⟨e3, σ3⟩, h3, h4⟩ := h2
        cases h4
        rw [WR_val]
        exact ⟨e3, σ3, h3, h⟩
  · rintro ⟨e1, σ1, h1, h⟩
    rcases h with ⟨d, σ2, h2, e3, σ3, h3, h4⟩ | ⟨d, σ2, h2, h4⟩
    · exact ⟨.normal, _, σ3, ⟨(e1, σ1), h1, by simp only [h2, aoptR, h3, Option.map_some]⟩, h4⟩
    · exact ⟨.thr d, e1, σ2, ⟨(e1, σ1), h1, by simp only [h2, aoptR]⟩, h4⟩
@[simp, simp ↓] theorem WC_treg_pan {live : List Nat} {pre post : List Op} {dst : Option Nat} {n : Bool} {x : Opd} : WC O (.treg live pre ⟨dst, none, n, .pan x⟩ post) e σ Q =
    WO O pre e σ fun e1 σ1 => WD (panD (opd e1 x)) fun d => Q (.thr d) e1 σ1 := by
  simp only [WC, WO, acode, aopt, Option.bind_eq_some_iff, eq_iff_iff]
  constructor
  · rintro ⟨x', e', σ', ⟨⟨e1, σ1⟩, h1, h2⟩, h⟩
    refine ⟨e1, σ1, h1, ?_⟩
    dsimp only at h2
    cases hx : opd e1 x <;> rw [hx] at h2 <;> try (cases h2; done)
    dsimp only at h2
    split at h2
    · rename_i hc; cases h2; simp only [panD_ifc, hc, if_true, WD_some]; exact h
    · cases h2
  · rintro ⟨e1, σ1, h1, d, h2, h⟩
    refine ⟨.thr d, e1, σ1, ⟨(e1, σ1), h1, ?_⟩, h⟩
    dsimp only
    cases hx : opd e1 x <;> rw [hx] at h2 <;> try (cases h2; done)
    simp only [panD_ifc] at h2
    split at h2
    · rename_i hc; cases h2; simp [hc]
    · cases h2

def WM (T : Tbl) (live : List Nat) (it : Opd) (nx ok b : Nat) (c rest : Cmd) (e : Env) (σ : Stack) (Q : Exit → Env → Stack → Prop) (_m : Mark c := .mk) (_m' : Mark rest := .mk) (_m'' : Mark Q := .mk) : Prop := ∃ x e' σ', lim T (.mloop live it nx ok b c rest e σ) = some (.ctl x e' σ') ∧ Q x e' σ'
theorem WM.mono {live : List Nat} {it : Opd} {nx ok b : Nat} {c rest : Cmd} {Q' : Exit → Env → Stack → Prop} (h : WM T live it nx ok b c rest e σ Q) (hq : ∀ x e σ, Q x e σ → Q' x e σ) : WM T live it nx ok b c rest e σ Q' :=
  let ⟨x, e', σ', h1, h2⟩ := h; ⟨x, e', σ', h1, hq _ _ _ h2⟩
theorem stepQ_mloop_restrict {live : List Nat} {it : Opd} {nx ok b : Nat} {c rest : Cmd} : stepQ T O (.mloop live it nx ok b c rest (restrict live e) σ) = stepQ T O (.mloop live it nx ok b c rest e σ) := by
  simp only [stepQ, restrict_restrict]
theorem lim_mloop_restrict {live : List Nat} {it : Opd} {nx ok b : Nat} {c rest : Cmd} {r : R} : lim T (.mloop live it nx ok b c rest (restrict live e) σ) = some r ↔ lim T (.mloop live it nx ok b c rest e σ) = some r := by
  constructor <;> intro h <;> obtain ⟨n, h⟩ := lim_iff.1 h <;> cases n <;> first | (cases h; done) | skip
  · rw [Abs.it, stepQ_mloop_restrict] at h; exact lim_iff.2 ⟨_ + 1, h⟩
  · rw [Abs.it, ← stepQ_mloop_restrict] at h; exact lim_iff.2 ⟨_ + 1, h⟩
@[simp, simp ↓] theorem WC_mloop {live : List Nat} {it : Opd} {nx ok b : Nat} {c rest : Cmd} : WC (lim T) (.mloop live it nx ok b c rest) e σ Q = WM T live it nx ok b c rest (restrict live e) σ Q := by
  simp only [WC, acode, WM, eq_iff_iff]
  constructor
  · rintro ⟨x, e', σ', h1, h⟩
    exact ⟨_, _, _, lim_mloop_restrict.2 (ctls_some' h1), h⟩
  · rintro ⟨x, e', σ', h1, h⟩
    exact ⟨x, e', σ', by rw [lim_mloop_restrict.1 h1]; rfl, h⟩

def nextM (T : Tbl) (live : List Nat) (it : Opd) (l i nx ok b : Nat) (c rest : Cmd) (r : R) (_m : Mark c := .mk) (_m' : Mark rest := .mk) : Exit → Env → Stack → Prop
  | .normal, e, σ => lim T (.mloop live it nx ok b c rest (restrict live e) σ) = some r
  | .exit j, e, σ => if j = b then WC (lim T) rest e (setBlk σ l i .dead) fun x e' σ' => r = .ctl x e' σ' else r = .ctl (.exit j) e (setBlk σ l i .dead)
  | .ret, e, σ => r = .ctl .ret e (setBlk σ l i .dead)
  | .thr _, _, _ => False
@[simp, simp ↓] theorem nextM_normal {live : List Nat} {it : Opd} {l i nx ok b : Nat} {c rest : Cmd} {r : R} : nextM T live it l i nx ok b c rest r .mk .mk .normal e σ = (lim T (.mloop live it nx ok b c rest (restrict live e) σ) = some r) := by_rfl rfl
@[simp, simp ↓] theorem nextM_exit {live : List Nat} {it : Opd} {l i nx ok b j : Nat} {c rest : Cmd} {r : R} : nextM T live it l i nx ok b c rest r .mk .mk (.exit j) e σ = if j = b then WC (lim T) rest e (setBlk σ l i .dead) fun x e' σ' => r = .ctl x e' σ' else r = .ctl (.exit j) e (setBlk σ l i .dead) := by_rfl rfl
@[simp, simp ↓] theorem nextM_ret {live : List Nat} {it : Opd} {l i nx ok b : Nat} {c rest : Cmd} {r : R} : nextM T live it l i nx ok b c rest r .mk .mk .ret e σ = (r = .ctl .ret e (setBlk σ l i .dead)) := by_rfl rfl

def thOf : Exit → Option (Option D)
  | .normal => some none
  | .ret => some none
  | .thr d => some (some d)
  | .exit _ => none
@[simp] theorem thOf_normal : thOf .normal = some none := by_rfl rfl
@[simp] theorem thOf_ret : thOf .ret = some none := by_rfl rfl
@[simp] theorem thOf_thr {d : D} : thOf (.thr d) = some (some d) := by_rfl rfl

noncomputable def dcallV (T : Tbl) (fv : D) (args : List D) (th : Option D) (σ : Stack) : Option Stack :=
  match dcallR (lim T) fv args th σ with
  | some (.val _ σ') => some σ'
  | _ => none
def endD (T : Tbl) (fv : D) (args : List D) (σ : Stack) (res : List Res) (d : D) (x : Exit) (e : Env) (σ1 : Stack) : Prop :=
  WD (thOf x) fun th => WD (dcallV T fv args th σ1) fun σ2 => ∃ ds, resL e σ2 res = some ds ∧ ∃ s, frz (σ.length - 1) deep (mkRes ds) σ2 = (d, s :: σ)
def toD (T : Tbl) (f : Opd) (args : List Opd) (q : Cmd) (σ : Stack) (res : List Res) (d : D) (x : Exit) (e : Env) (σ1 : Stack) (_m : Mark q := .mk) : Prop :=
  x = .normal ∧ WC (lim T) q e σ1 (endD T (opd e f) (args.map (opd e)) σ res d)

def endX (σ' : Stack) (res : List Res) (x : Exit) (e : Env) (σ1 : Stack) : Prop :=
  (∀ i, x ≠ .exit i) ∧ (∀ d, x ≠ .thr d) ∧ resL e σ1 res = some [] ∧ ∃ s, σ1 = s :: σ'
@[simp, simp ↓] theorem endX_normal {σ' σ1 : Stack} {res : List Res} : endX σ' res .normal e σ1 = (resL e σ1 res = some [] ∧ ∃ s, σ1 = s :: σ') := by simp [endX]
@[simp, simp ↓] theorem endX_ret {σ' σ1 : Stack} {res : List Res} : endX σ' res .ret e σ1 = (resL e σ1 res = some [] ∧ ∃ s, σ1 = s :: σ') := by simp [endX]
end code

@[simp] theorem get_cons {k t : Nat} {v : D} {r : Env} : get ((k, v) :: r) t = if k = t then v else get r t := by_rfl rfl
@[simp] theorem put_some {t : Nat} {v : D} {e : Env} : put (some t) v e = (t, v) :: e := by_rfl rfl
@[simp] theorem put_none {v : D} {e : Env} : put none v e = e := by_rfl rfl
@[simp] theorem opd_t {e : Env} {n : Nat} : opd e (.t n) = (get e n).strip := by_rfl rfl
@[simp] theorem opd_c {e : Env} {d : D} : opd e (.c d) = d := by_rfl rfl
@[simp] theorem restrict_nil {e : Env} : restrict [] e = [] := by_rfl rfl
@[simp] theorem restrict_cons {t : Nat} {l : List Nat} {e : Env} : restrict (t :: l) e = (t, (get e t).calm) :: restrict l e := by_rfl rfl
@[simp] theorem mkEnv_nil {n : Nat} : mkEnv n [] = [] := by_rfl rfl
@[simp] theorem mkEnv_cons {n : Nat} {d : D} {ds : List D} : mkEnv n (d :: ds) = (n, d) :: mkEnv (n + 1) ds := by_rfl rfl
section
variable {e : Env} {σ : Stack}
@[simp] theorem resL_nil : resL e σ [] = some [] := by_rfl rfl
@[simp] theorem resL_cons {r : Res} {rs : List Res} : resL e σ (r :: rs) = (resD e σ r).bind fun d => (resL e σ rs).map fun ds => d :: ds := by_rfl rfl
@[simp] theorem resD_t {n : Nat} : resD e σ (.t n) = some (get e n).strip := by_rfl rfl
@[simp] theorem resD_c {n sz : Nat} {ag : Bool} : resD e σ (.c n ag sz) = ldD ag sz (rdD σ (get e n).strip) := by
  simp only [resD, sop, opd_t]
  cases rdD σ (get e n).strip with
  | none => rfl
  | some cs =>
    simp only [ldD]
    split
    · cases ag
      · cases cs <;> rfl
      · rfl
    · rfl
@[simp] theorem resD_v {n sz : Nat} {ag : Bool} : resD e σ (.v n ag sz) = ldvD e n ag sz n := by
  simp only [resD, sop, ldvD]
  cases inVar e n n with
  | none => rfl
  | some x =>
    obtain ⟨s, cs, off⟩ := x
    simp only [ldD, Option.map_some]
    split
    · cases ag
      · cases cs.drop off <;> rfl
      · rfl
    · rfl
@[simp] theorem mkRes_one {d : D} : mkRes [d] = d := by_rfl rfl
@[simp] theorem mkRes_nil : mkRes [] = .tup [] := by_rfl rfl
@[simp] theorem mkRes_two {d d' : D} {ds : List D} : mkRes (d :: d' :: ds) = .tup (d :: d' :: ds) := by_rfl rfl
@[simp] theorem fillD_nil {cs : List D} : fillD e [] cs = some cs := by_rfl rfl
@[simp] theorem fillD_cons {off sz : Nat} {x : Opd} {r : List (Nat × Nat × Opd)} {cs : List D} : fillD e ((off, sz, x) :: r) cs =
    ((opd e x).cells.bind fun p => if p.length = sz ∧ off + sz ≤ cs.length then some (cs.take off ++ p ++ cs.drop (off + sz)) else none).bind (fillD e r) := by
  simp only [fillD]
  cases (opd e x).cells with
  | none => rfl
  | some p => dsimp only [Option.bind_some]; split <;> rfl
@[simp] theorem nilbs_nil' {cs : List D} : nilbs [] cs σ = some (cs, σ) := by_rfl rfl
@[simp] theorem elems_nils {w : Nat} : elems σ w .nils = some (0, []) := by_rfl rfl
@[simp] theorem elems_str {w : Nat} {s : List UInt8} : elems σ w (.str s) = if w = 1 then some (s.length, strCells s) else none := by_rfl rfl
@[simp] theorem elems_lst {w n : Nat} {cs : List D} : elems σ w (.lst n cs) = if cs.length = n * w then some (n, cs) else none := by_rfl rfl
@[simp] theorem elems_sl {w l i v off n w' : Nat} : elems σ w (.sl l i v off n w') = if w' = w then (match cells? σ l i v with | some cs => if off + n * w ≤ cs.length then some (n, (cs.drop off).take (n * w)) else none | none => none) else none := by_rfl rfl
end
attribute [simp] sop appD nilbs newBlk inVar stamp stvD ldvD bnd bounds D.row cells? blk? seg? setBlk setSeg

@[simp] theorem rclean_undef : D.clean .undef = true := by rw [D.clean]
@[simp] theorem rclean_bool {b : Bool} : D.clean (.bool b) = true := by rw [D.clean]
@[simp] theorem rclean_int {k : IntKind} {n : Int} : D.clean (.int k n) = true := by rw [D.clean]
@[simp] theorem rclean_str {s : List UInt8} : D.clean (.str s) = true := by rw [D.clean]
@[simp] theorem rclean_nilp : D.clean .nilp = true := by rw [D.clean]
@[simp] theorem rclean_nils : D.clean .nils = true := by rw [D.clean]
@[simp] theorem rclean_ifc {t : Nat} {d : D} : D.clean (.ifc t d) = D.clean d := by rw [D.clean]
@[simp] theorem rclean_nili : D.clean .nili = true := by rw [D.clean]
@[simp] theorem rclean_nilf : D.clean .nilf = true := by rw [D.clean]
@[simp] theorem rclean_ref {l i v o : Nat} : D.clean (.ref l i v o) = false := by rw [D.clean]
@[simp] theorem rclean_sl {l i v o n w : Nat} : D.clean (.sl l i v o n w) = false := by rw [D.clean]
@[simp] theorem rclean_yld {l i : Nat} : D.clean (.yld l i) = false := by rw [D.clean]
@[simp] theorem rclean_vr {l i v : Nat} : D.clean (.vr l i v) = true := by rw [D.clean]
@[simp] theorem rclean_own {s : Nat} {cs : List D} : D.clean (.own s cs) = D.cleanL cs := by rw [D.clean]
@[simp] theorem rclean_agg {cs : List D} : D.clean (.agg cs) = D.cleanL cs := by rw [D.clean]
@[simp] theorem rclean_tup {cs : List D} : D.clean (.tup cs) = D.cleanL cs := by rw [D.clean]
@[simp] theorem rclean_cref {cs : List D} : D.clean (.cref cs) = D.cleanL cs := by rw [D.clean]
@[simp] theorem rclean_lst {n : Nat} {cs : List D} : D.clean (.lst n cs) = D.cleanL cs := by rw [D.clean]
@[simp] theorem rclean_fn {f : Nat} {a b : List D} : D.clean (.fn f a b) = (D.cleanL a && D.cleanL b) := by rw [D.clean]
@[simp] theorem cleanL_nil : D.cleanL [] = true := by rw [D.cleanL]
@[simp] theorem cleanL_cons {d : D} {ds : List D} : D.cleanL (d :: ds) = (D.clean d && D.cleanL ds) := by rw [D.cleanL]
@[simp] theorem deep_def : deep = 16 := by_rfl rfl
@[simp] theorem frz_clean {l n : Nat} {d : D} {σ : Stack} (h : d.clean = true) (hn : 0 < n) : frz l n d σ = (d, σ) := by
  obtain ⟨m, rfl⟩ : ∃ m, n = m + 1 := ⟨n - 1, by omega⟩
  unfold frz; simp [h]
@[simp] theorem frzL_clean {l n : Nat} {ds : List D} {σ : Stack} (h : D.cleanL ds = true) (hn : 0 < n) : frz.frzL (frz l n) ds σ = (ds, σ) := by
  induction ds generalizing σ with
  | nil => rfl
  | cons d ds ih =>
    simp only [D.cleanL, Bool.and_eq_true] at h
    simp [frz.frzL, h.1, ih h.2, hn]
@[simp] theorem frzL_nil {f : D → Stack → D × Stack} {σ : Stack} : frz.frzL f [] σ = ([], σ) := by_rfl rfl
@[simp] theorem frzL_cons {f : D → Stack → D × Stack} {d : D} {ds : List D} {σ : Stack} : frz.frzL f (d :: ds) σ = ((f d σ).1 :: (frz.frzL f ds (f d σ).2).1, (frz.frzL f ds (f d σ).2).2) := by_rfl rfl
theorem frz_tup {l n : Nat} {ds : List D} {σ : Stack} (h : D.cleanL ds = false) (hn : 0 < n) : frz l n (.tup ds) σ = (.tup (frz.frzL (frz l (n - 1)) ds σ).1, (frz.frzL (frz l (n - 1)) ds σ).2) := by
  obtain ⟨m, rfl⟩ : ∃ m, n = m + 1 := ⟨n - 1, by omega⟩
  conv => lhs; unfold frz
  simp [D.clean, h]
theorem frz_sl {l n l' i v off m w : Nat} {σ : Stack} {cs : List D} (h : ¬ l' ≤ l) (hc : cells? σ l' i v = some cs) (hn : 0 < n) :
    frz l n (.sl l' i v off m w) σ = (.lst m (frz.frzL (frz l (n - 1)) ((cs.drop off).take (m * w)) (setBlk σ l' i .dead)).1, (frz.frzL (frz l (n - 1)) ((cs.drop off).take (m * w)) (setBlk σ l' i .dead)).2) := by
  obtain ⟨m, rfl⟩ : ∃ m, n = m + 1 := ⟨n - 1, by omega⟩
  conv => lhs; unfold frz
  simp only [D.clean, h, hc, Bool.false_eq_true, if_false, Nat.add_sub_cancel]

@[simp] theorem frz_sl_low {l n l' i v off m w : Nat} {σ : Stack} (h : l' ≤ l) (hn : 0 < n) : frz l n (.sl l' i v off m w) σ = (.sl l' i v off m w, σ) := by
  obtain ⟨m, rfl⟩ : ∃ m, n = m + 1 := ⟨n - 1, by omega⟩
  conv => lhs; unfold frz
  simp only [D.clean, h, if_true, Bool.false_eq_true, if_false]
@[simp] theorem frz_ref_low {l n l' i v off : Nat} {σ : Stack} (h : l' ≤ l) (hn : 0 < n) : frz l n (.ref l' i v off) σ = (.ref l' i v off, σ) := by
  obtain ⟨m, rfl⟩ : ∃ m, n = m + 1 := ⟨n - 1, by omega⟩
  conv => lhs; unfold frz
  simp only [D.clean, h, if_true, Bool.false_eq_true, if_false]

@[simp] theorem lenne1 {n : Nat} : (n + 1 = n) = False := by simp
@[simp] theorem lenne2 {n : Nat} : (n + 1 + 1 = n) = False := by simp; omega
@[simp] theorem lenne3 {n : Nat} : (n + 1 + 1 + 1 = n) = False := by simp; omega
@[simp] theorem lenne4 {n : Nat} : (n + 1 + 1 + 1 + 1 = n) = False := by simp; omega
@[simp] theorem lenne5 {n : Nat} : (n + 1 + 1 + 1 + 1 + 1 = n) = False := by simp; omega

end Go.Abs

/-
  Short names for operations, in tables.
-/
namespace Go.Abs
def qo (d : Nat) (k : K) : Op := ⟨some d, none, false, k⟩
def qO (d : Nat) (k : K) : Op := ⟨some d, none, true, k⟩
def qm (d x : Nat) : Op := ⟨some d, none, false, .mv (.t x)⟩
def qM (d x : Nat) : Op := ⟨some d, none, true, .mv (.t x)⟩
def qi (d : Nat) (n : Int) : Op := ⟨some d, none, false, .mv (.c (.int .i64 n))⟩
def qb (d : Nat) (b : Bool) : Op := ⟨some d, none, false, .mv (.c (.bool b))⟩
def qf (d o x : Nat) : Op := ⟨some d, none, false, .fadr o (.t x)⟩
def qF (d o x : Nat) : Op := ⟨some d, none, true, .fadr o (.t x)⟩
def ql (d n x : Nat) : Op := ⟨some d, none, false, .ld false n (.t x)⟩
def qL (d n x : Nat) : Op := ⟨some d, none, true, .ld false n (.t x)⟩
def qa (d n x : Nat) : Op := ⟨some d, none, false, .ld true n (.t x)⟩
def qA (d n x : Nat) : Op := ⟨some d, none, true, .ld true n (.t x)⟩
def qv (d v n a : Nat) : Op := ⟨some d, none, false, .ldv v false n a⟩
def qV (d v n a : Nat) : Op := ⟨some d, none, true, .ldv v false n a⟩
def qw (d v n a : Nat) : Op := ⟨some d, none, false, .ldv v true n a⟩
def qW (d v n a : Nat) : Op := ⟨some d, none, true, .ldv v true n a⟩
def qx (d x : Nat) : Op := ⟨some d, none, false, .boxi (.t x)⟩
def qe (d x : Nat) : Op := ⟨some d, none, false, .lenS (.t x)⟩
def qE (d x : Nat) : Op := ⟨some d, none, true, .lenS (.t x)⟩
def qj (d w x i : Nat) : Op := ⟨some d, none, false, .idxS w (.t x) (.t i)⟩
def qJ (d w x i : Nat) : Op := ⟨some d, none, true, .idxS w (.t x) (.t i)⟩
def qk (d : Nat) (o : BinOp) (x y : Nat) : Op := ⟨some d, none, false, .bin o (.t x) (.t y)⟩
def qK (d : Nat) (o : BinOp) (x y : Nat) : Op := ⟨some d, none, true, .bin o (.t x) (.t y)⟩
def qn (d : Nat) (o : BinOp) (x : Nat) (n : Int) : Op := ⟨some d, none, false, .bin o (.t x) (.c (.int .i64 n))⟩
def qN (d : Nat) (o : BinOp) (x : Nat) (n : Int) : Op := ⟨some d, none, true, .bin o (.t x) (.c (.int .i64 n))⟩
def qu (d x : Nat) : Op := ⟨some d, none, false, .un .not (.t x)⟩
def qp (d c x : Nat) : Op := ⟨some d, none, false, .pick (.t c) (.t x) (.c (.bool false))⟩
def qP (d c x : Nat) : Op := ⟨some d, none, false, .pick (.t c) (.c (.bool true)) (.t x)⟩
def qs (v n a x : Nat) : Op := ⟨none, none, false, .stv v [] n a (.t x)⟩
def qS (v n a x : Nat) : Op := ⟨none, none, true, .stv v [] n a (.t x)⟩
def qt (n a x : Nat) : Op := ⟨none, none, false, .st [] n (.t a) (.t x)⟩
def qz (d x i : Nat) : Op := ⟨some d, none, false, .ext (.t x) i⟩
def qZ (d x i : Nat) : Op := ⟨some d, none, true, .ext (.t x) i⟩
def qc (d f : Nat) (a : List Nat) : Op := ⟨some d, none, false, .call false (.c (.fn f [] [])) (a.map .t)⟩
def qC (d f : Nat) (a : List Nat) : Op := ⟨some d, none, true, .call false (.c (.fn f [] [])) (a.map .t)⟩
def qy (d w b s x : Nat) : Op := ⟨some d, none, false, .app w b (.t s) (.t x)⟩
def qg (t : Nat) (b : Bool) (o : Op) : Op := ⟨o.dst, some (t, b), o.ntr, o.k⟩
end Go.Abs

/-
  The contracts of strconv.Itoa, strconv.Atoi, strings.Split, strings.Join, out of the library's own.
-/
set_option linter.unusedVariables false
set_option linter.unusedSimpArgs false
namespace Go.Abs
open Go
open Go.RowKit

section
variable {P : Program} {CR : CRel} {f : Nat} {args : List D} {σ : Stack} {d : D}

theorem CallOk.below (h0 : ∃ F c, P.funcs[f]? = some F ∧ F.name ≠ "runtime.NumGoroutine" ∧ F.body = some c)
    (h : ∀ base g w vs, Inv CR base g σ w → RelL g args vs.toList → Calls P f vs w fun e w' => ∃ v, e = .returned v ∧ Below w.heap.size w w' ∧ RelV g d v) : CallOk P CR f args σ d σ := by
  refine ⟨h0, fun base g w vs hi hl hp hr => ⟨⟨rfl, fun h => h⟩, (h base g w vs hi hr).mono ?_⟩⟩
  rintro e w' ⟨v, rfl, hb, hv⟩
  refine ⟨v, g, rfl, ⟨g.le_refl, hb.os, hb.tape, hb.output, hb.size, fun b hb' _ => hb.block b hb', fun _ h => .inl h, fun _ _ _ h => .inl h⟩, hi.foreign (fun b hb' _ => hb.block b hb') hb.size, hv⟩

theorem decF_eq : ∀ (k u : Nat), u < 10 ^ k → 0 < k → decF k u = Lib.decDigits u
  | 0, _, _, h => by omega
  | k + 1, u, h, _ => by
    unfold decF
    by_cases h1 : u < 10
    · rw [if_pos h1, Lib.decDigits_one h1]
    · rw [if_neg h1, Lib.decDigits, dif_neg h1]
      have hk : 0 < k := by
        rcases Nat.eq_zero_or_pos k with rfl | h2
        · simp at h; omega
        · exact h2
      rw [decF_eq k (u / 10) (by rw [Nat.pow_succ] at h; omega) hk]
theorem itoaF_eq {n : Int} (h : -9223372036854775808 ≤ n ∧ n ≤ 9223372036854775807) : itoaF n = Lib.itoa n := by
  unfold itoaF Lib.itoa
  rw [decF_eq 20 n.natAbs (by simp only [Nat.reducePow]; omega) (by omega), decF_eq 20 n.toNat (by simp only [Nat.reducePow]; omega) (by omega)]
theorem Inv.tab {base : Nat} {g : G} {w : World} (hi : Inv (CR0 P) base g σ w) {b : Nat} (hb : P.globalNamed "internal/strconv.uint64pow10" = some b) : Lib.TabIs P w "internal/strconv.uint64pow10" .u64 Lib.pow10Tab := by
  obtain ⟨_, o, ho, t, fz, rfl⟩ := hi.glb b QPow (.inr (.inr (.inl ⟨hb, rfl⟩)))
  simp only [Lib.TabIs, World.var?, hb, Option.bind_some, ho]
theorem Inv.err {base : Nat} {g : G} {w : World} (hi : Inv (CR0 P) base g σ w) {b : Nat} (hb : P.globalNamed "strconv.ErrSyntax" = some b ∨ P.globalNamed "strconv.ErrRange" = some b) :
    ∃ ev, w.cell? ⟨b, 0, none⟩ = some ev ∧ (ev = .nilIface ∨ ∃ te pe, ev = .iface te pe) := by
  obtain ⟨_, o, ho, c, t, fz, v, rfl, h1, h2⟩ := hi.glb b QErr (by
    rcases hb with h | h
    · exact .inl ⟨h, rfl⟩
    · exact .inr (.inl ⟨h, rfl⟩))
  exact ⟨v, by simp [World.cell?, ho, h1], h2⟩
theorem Inv.max {base : Nat} {g : G} {w : World} (hi : Inv (CR0 P) base g σ w) {b : Nat} (hb : P.globalNamed "internal/bytealg.MaxLen" = some b) : ∃ m, w.cell? ⟨b, 0, none⟩ = some (.int .i64 m) := by
  obtain ⟨_, o, ho, c, t, fz, m, rfl, h1⟩ := hi.glb b QMax (.inr (.inr (.inr ⟨hb, rfl⟩)))
  exact ⟨m, by simp [World.cell?, ho, h1]⟩

theorem rel_one {g : G} {a : D} {vs : Array Value} (h : RelL g [a] vs.toList) : ∃ x, vs = #[x] ∧ RelV g a x := by
  obtain ⟨vs⟩ := vs
  cases h with | cons _ x _ r h1 h2 => cases h2; exact ⟨x, rfl, h1⟩
theorem rel_two {g : G} {a b : D} {vs : Array Value} (h : RelL g [a, b] vs.toList) : ∃ x y, vs = #[x, y] ∧ RelV g a x ∧ RelV g b y := by
  obtain ⟨vs⟩ := vs
  cases h with | cons _ x _ r h1 h2 => cases h2 with | cons _ y _ r h2 h3 => cases h3; exact ⟨x, y, rfl, h1, h2⟩
theorem rel_str {g : G} {s : List UInt8} {x : Value} (h : RelV g (.str s) x) : ∃ b : ByteArray, x = .string b ∧ s = b.data.toList := by
  cases h with | str b => exact ⟨b, rfl, rfl⟩
theorem rel_int {g : G} {k : IntKind} {n : Int} {x : Value} (h : RelV g (.int k n) x) : x = .int k n := by cases h; rfl

theorem itoaC {pb : Nat} (hn : P.globalNamed "internal/strconv.uint64pow10" = some pb) (h0 : ∃ F c, P.funcs[f]? = some F ∧ F.name ≠ "runtime.NumGoroutine" ∧ F.body = some c)
    (h : ∀ (n : Int) (w : World), -9223372036854775808 ≤ n → n ≤ 9223372036854775807 → Lib.TabIs P w "internal/strconv.uint64pow10" .u64 Lib.pow10Tab →
      Calls P f #[.int .i64 n] w fun e w' => e = .returned (.string ⟨(Lib.itoa n).toArray⟩) ∧ Below w.heap.size w w') : NatC P (CR0 P) 3 f := by
  intro args σ r hr
  simp only [natQ, Nat.reduceMod] at hr
  split at hr <;> try cases hr
  all_goals try omega
  rename_i n _
  simp only [Option.ite_none_right_eq_some, Option.some.injEq] at hr
  obtain ⟨hb, rfl⟩ := hr
  refine ⟨_, _, rfl, CallOk.below h0 fun base g w vs hi hl => ?_⟩
  obtain ⟨x, rfl, hx⟩ := rel_one hl
  rw [rel_int hx]
  refine (h n w hb.1 hb.2 (hi.tab hn)).mono ?_
  rintro e w' ⟨rfl, hw⟩
  refine ⟨_, rfl, hw, ?_⟩
  rw [itoaF_eq hb]
  exact .str ⟨(Lib.itoa n).toArray⟩
theorem atoiC {t bs br : Nat} (hs : P.globalNamed "strconv.ErrSyntax" = some bs) (hr' : P.globalNamed "strconv.ErrRange" = some br) (h0 : ∃ F c, P.funcs[f]? = some F ∧ F.name ≠ "runtime.NumGoroutine" ∧ F.body = some c)
    (h1 : ∀ (s : ByteArray) (v : Int) (w : World), s.size ≤ 9223372036854775806 → Lib.atoiAll s.data.toList = .ok v →
      Calls P f #[.string s] w fun e w' => e = .returned (.tuple #[.int .i64 v, .nilIface]) ∧ Below w.heap.size w w')
    (h2 : ∀ (s : ByteArray) (ev : Value) (w : World), s.size ≤ 281474976710656 → Lib.atoiAll s.data.toList = Lib.NumEnd.syntax → w.cell? ⟨bs, 0, none⟩ = some ev → (ev = .nilIface ∨ ∃ te pe, ev = .iface te pe) →
      Calls P f #[.string s] w fun e w' => ∃ p, e = .returned (.tuple #[.int .i64 0, .iface t p]) ∧ Below w.heap.size w w')
    (h3 : ∀ (s : ByteArray) (ev : Value) (w : World), s.size ≤ 281474976710656 → Lib.atoiAll s.data.toList = .range → w.cell? ⟨br, 0, none⟩ = some ev → (ev = .nilIface ∨ ∃ te pe, ev = .iface te pe) →
      Calls P f #[.string s] w fun e w' => ∃ p, e = .returned (.tuple #[.int .i64 (Lib.atoiSat s.data.toList), .iface t p]) ∧ Below w.heap.size w w') : NatC P (CR0 P) (4 + 16 * t) f := by
  intro args σ r hr
  have e1 : (4 + 16 * t) % 16 = 4 := by omega
  have e2 : (4 + 16 * t) / 16 = t := by omega
  simp only [natQ, e1, e2] at hr
  split at hr <;> try cases hr
  all_goals try omega
  rename_i s _
  simp only [Option.ite_none_right_eq_some, Option.some.injEq] at hr
  obtain ⟨hb, rfl⟩ := hr
  refine ⟨_, _, rfl, CallOk.below h0 fun base g w vs hi hl => ?_⟩
  obtain ⟨x, rfl, hx⟩ := rel_one hl
  obtain ⟨b, rfl, rfl⟩ := rel_str hx
  have hsz : b.size ≤ 1000000 := by simpa using hb
  rcases ha : Lib.atoiAll b.data.toList with v | _ | _
  · refine (h1 b v w (by omega) ha).mono ?_
    rintro e w' ⟨rfl, hw⟩
    refine ⟨_, rfl, hw, ?_⟩
    simp only [atoiF, ha, if_true]
    exact .tup _ _ (.cons _ _ _ _ (.int _ _) (.cons _ _ _ _ .nili .nil))
  · obtain ⟨ev, hv, hev⟩ := hi.err (.inl hs)
    refine (h2 b ev w (by omega) ha hv hev).mono ?_
    rintro e w' ⟨p, rfl, hw⟩
    refine ⟨_, rfl, hw, ?_⟩
    simp only [atoiF, ha]
    exact .tup _ _ (.cons _ _ _ _ (.int _ _) (.cons _ _ _ _ (.ifc _ _ _ (.undef _)) .nil))
  · obtain ⟨ev, hv, hev⟩ := hi.err (.inr hr')
    refine (h3 b ev w (by omega) ha hv hev).mono ?_
    rintro e w' ⟨p, rfl, hw⟩
    refine ⟨_, rfl, hw, ?_⟩
    simp only [atoiF, ha]
    exact .tup _ _ (.cons _ _ _ _ (.int _ _) (.cons _ _ _ _ (.ifc _ _ _ (.undef _)) .nil))
theorem splitF_eq (b : UInt8) : ∀ (s : List UInt8) (k : Nat), s.count b = k → Lib.splitK [b] 0 k s = splitF b s
  | [], k, h => by
    cases k with
    | zero => rfl
    | succ k => simp at h
  | c :: r, k, h => by
    by_cases hc : c = b
    · subst hc
      simp only [List.count_cons_self] at h
      obtain ⟨k, rfl⟩ : ∃ k', k = k' + 1 := ⟨k - 1, by omega⟩
      have ih := splitF_eq c r k (by omega)
      have hi : Lib.index (c :: r) [c] = 0 := by simp [Lib.index, List.isPrefixOf]
      simp only [Lib.splitK, hi, splitF, if_true]
      simp [ih]
    · have hcb : (b == c) = false := by simpa using fun h => hc h.symm
      have hn : r.count b = k := by rw [List.count_cons_of_ne hc] at h; exact h
      have ih := splitF_eq b r k hn
      have hi : Lib.index (c :: r) [b] = if Lib.index r [b] == -1 then -1 else Lib.index r [b] + 1 := by simp [Lib.index, List.isPrefixOf, hcb]
      simp only [splitF, if_neg hc, ← ih]
      cases k with
      | zero => rfl
      | succ k =>
        have hge := Lib.index_ge r [b]
        simp only [Lib.splitK, hi]
        by_cases hm : Lib.index r [b] = -1
        · simp [hm]
        · have h1 : ¬ (Lib.index r [b] == -1) = true := by simpa using hm
          have h2 : ¬ (Lib.index r [b] + 1 == -1) = true := by simp; omega
          obtain ⟨i, hi2⟩ : ∃ i : Nat, Lib.index r [b] = i := ⟨(Lib.index r [b]).toNat, by omega⟩
          simp only [h1, if_false, h2, hi2]
          have e1 : ((i : Int) + 1).toNat = i + 1 := by omega
          simp [e1, Nat.add_assoc]
          intro hh; omega
theorem strs_rel {g : G} : ∀ l : List ByteArray, RelL g ((l.map (·.data.toList)).map .str) (l.map Value.string)
  | [] => .nil
  | s :: l => .cons _ _ _ _ (.str s) (strs_rel l)
theorem splitC {mb : Nat} {el : TypeId} (hn : P.globalNamed "internal/bytealg.MaxLen" = some mb) (h0 : ∃ F c, P.funcs[f]? = some F ∧ F.name ≠ "runtime.NumGoroutine" ∧ F.body = some c)
    (h : ∀ (s sep : ByteArray) (m : Int) (w : World), s.size < 4294967281 → w.cell? ⟨mb, 0, none⟩ = some (.int .i64 m) → 1 ≤ sep.size →
      Calls P f #[.string s, .string sep] w fun e w' => e = .returned (.slice (some ⟨w.heap.size, 0, none⟩) (Lib.countB s sep + 1) (Lib.countB s sep + 1)) ∧ w' = w.alloc (.cells ((Lib.splitB sep 0 (Lib.countB s sep) s).map Value.string).toArray el)) : NatC P (CR0 P) 6 f := by
  intro args σ r hr
  simp only [natQ, Nat.reduceMod] at hr
  split at hr <;> try cases hr
  all_goals try omega
  rename_i s b _
  simp only [Option.ite_none_right_eq_some, Option.some.injEq] at hr
  obtain ⟨hb, rfl⟩ := hr
  refine ⟨_, _, rfl, h0, fun base g w vs hi hl hp hr => ⟨⟨rfl, fun h => h⟩, ?_⟩⟩
  obtain ⟨x, y, rfl, hx, hy⟩ := rel_two hr
  obtain ⟨s, rfl, rfl⟩ := rel_str hx
  obtain ⟨sep, rfl, hsep⟩ := rel_str hy
  have hsz : s.size ≤ 1000000 := by simpa using hb
  have h1 : sep.size = 1 := by have := congrArg List.length hsep; simpa using this.symm
  obtain ⟨m, hm⟩ := hi.max hn
  refine (h s sep m w (by omega) hm (by omega)).mono ?_
  rintro e w' ⟨rfl, rfl⟩
  have hdata : (Lib.splitB sep 0 (Lib.countB s sep) s).map (·.data.toList) = splitF b s.data.toList := by
    rw [Lib.splitB_data, ← hsep]
    refine splitF_eq b _ _ ?_
    rw [Lib.countB, ← hsep, Lib.count_one]
  have hlen : (splitF b s.data.toList).length = Lib.countB s sep + 1 := by rw [← hdata, List.length_map, Lib.splitB_all sep (by omega) 0 _ s rfl]
  have hrl : RelL (g.addImm w.heap.size ((Lib.splitB sep 0 (Lib.countB s sep) s).map Value.string)) ((splitF b s.data.toList).map .str) ((Lib.splitB sep 0 (Lib.countB s sep) s).map Value.string) := by
    rw [← hdata]; exact strs_rel _
  obtain ⟨i2, e2, hrow⟩ := hi.newImm ((Lib.splitB sep 0 (Lib.countB s sep) s).map Value.string) ((Lib.splitB sep 0 (Lib.countB s sep) s).map Value.string).toArray el (by
    intro j x hx
    refine ⟨by simpa using hx, ?_⟩
    have := List.mem_of_getElem? hx
    simp only [List.mem_map] at this
    obtain ⟨z, _, rfl⟩ := this
    rfl)
  refine ⟨_, _, rfl, e2, i2, ?_⟩
  rw [hlen]
  exact .lst _ _ _ _ _ (Nat.le_refl _) hrow (fun _ => rfl) hrl
theorem strsOf_get : ∀ {ds : List D} {xs : List (List UInt8)}, strsOf ds = some xs → ds = xs.map .str
  | [], xs, h => by cases h; rfl
  | d :: ds, xs, h => by
    cases d with
    | str s =>
      simp only [strsOf, Option.map_eq_some_iff] at h
      obtain ⟨l, h1, rfl⟩ := h
      rw [strsOf_get h1]; rfl
    | _ => simp [strsOf] at h
theorem rel_strs {g : G} : ∀ {xs : List (List UInt8)} {vs : List Value}, RelL g (xs.map .str) vs → ∃ bs : List ByteArray, vs = bs.map Value.string ∧ xs = bs.map (·.data.toList)
  | [], vs, h => by cases h; exact ⟨[], rfl, rfl⟩
  | x :: xs, vs, h => by
    cases h with | cons _ v _ r h1 h2 =>
    obtain ⟨b, rfl, rfl⟩ := rel_str h1
    obtain ⟨bs, rfl, rfl⟩ := rel_strs h2
    exact ⟨b :: bs, rfl, rfl⟩
theorem joinF_eq (sep : List UInt8) (xs : List (List UInt8)) : joinF sep xs = Lib.join xs sep := by
  cases xs with
  | nil => rfl
  | cons x r => rw [Lib.join_cons, joinF, Lib.joinTail, List.flatMap_def]
theorem joinC (h0 : ∃ F c, P.funcs[f]? = some F ∧ F.name ≠ "runtime.NumGoroutine" ∧ F.body = some c)
    (hz : ∀ (a : Option Addr) (c : Nat) (sep : ByteArray) (w : World), Calls P f #[.slice a 0 c, .string sep] w fun e w' => e = .returned (.string ⟨#[]⟩) ∧ w' = w)
    (h : ∀ (bk o c : Nat) (xs : List ByteArray) (sep : ByteArray) (w : World), (∀ (j : Nat) x, xs[j]? = some x → w.cell? ⟨bk, o + j, none⟩ = some (.string x)) → bk < w.heap.size → xs.length ≤ 140737488355328 → xs.length ≤ c →
      (Lib.join (xs.map (·.data.toList)) sep.data.toList).length ≤ 140737488355328 →
      Calls P f #[.slice (some ⟨bk, o, none⟩) xs.length c, .string sep] w fun e w' => e = .returned (.string ⟨(Lib.join (xs.map (·.data.toList)) sep.data.toList).toArray⟩) ∧ Below w.heap.size w w') : NatC P (CR0 P) 5 f := by
  intro args σ r hr
  simp only [natQ, Nat.reduceMod] at hr
  split at hr <;> try cases hr
  all_goals try omega
  rename_i n cs sep _
  split at hr
  case h_2 => cases hr
  rename_i xs hxs
  simp only [Option.ite_none_right_eq_some, Option.some.injEq] at hr
  obtain ⟨⟨rfl, hn, hj⟩, rfl⟩ := hr
  have := strsOf_get hxs
  subst this
  refine ⟨_, _, rfl, CallOk.below h0 fun base g w vs hi hl => ?_⟩
  obtain ⟨x, y, rfl, hx, hy⟩ := rel_two hl
  obtain ⟨sp, rfl, rfl⟩ := rel_str hy
  cases xs with
  | nil =>
    have hv : ∃ a c, x = .slice a 0 c := by
      cases hx with
      | lstn => exact ⟨_, _, rfl⟩
      | lst => exact ⟨_, _, rfl⟩
    obtain ⟨a, c, rfl⟩ := hv
    refine (hz a c sp w).mono ?_
    rintro e w' ⟨rfl, rfl⟩
    exact ⟨_, rfl, Below.refl _ _, .str ⟨#[]⟩⟩
  | cons x0 xs =>
  generalize hX : x0 :: xs = X at *
  generalize hN : X.length = N at hx
  generalize hC : X.map D.str = C at hx
  cases hx with
  | lstn => subst hX; simp at hN
  | lst _ _ a cap us h1 h2 h3 h4 =>
    subst hN hC
    obtain ⟨bs, rfl, rfl⟩ := rel_strs h4
    have hlen : (bs.map (·.data.toList)).length ≠ 0 := by rw [← hX]; simp
    have hs := h3 hlen
    obtain ⟨ab, ao, asp⟩ := a
    simp only at hs; subst hs
    have hne : 0 < bs.length := by rw [List.length_map] at hlen; omega
    have hcell : ∀ (j : Nat) x, bs[j]? = some x → w.cell? ⟨ab, ao + j, none⟩ = some (.string x) := fun j x hj => (hi.imm _ _ _ (h2 j _ (by simp [hj]))).1
    have hlt : ab < w.heap.size := World.block_lt_of_cell? (a := ⟨ab, ao + 0, none⟩) w (hcell 0 _ (List.getElem?_eq_getElem hne))
    rw [joinF_eq] at hj ⊢
    rw [List.length_map] at h1 hn ⊢
    refine (h ab ao cap bs sp w hcell hlt (by omega) h1 (by omega)).mono ?_
    rintro e w' ⟨rfl, hw⟩
    exact ⟨_, rfl, hw, .str ⟨(Lib.join (bs.map (·.data.toList)) sp.data.toList).toArray⟩⟩
end
end Go.Abs
