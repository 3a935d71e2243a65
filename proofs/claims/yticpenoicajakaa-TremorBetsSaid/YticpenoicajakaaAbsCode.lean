/-
  Code: what the interpreter says is what the machine does.
-/
import Derived.Test.YticpenoicajakaaAbsPop
set_option linter.unusedVariables false
set_option linter.unusedSimpArgs false
namespace Go.Abs
open Go

/-- A command that says what a piece of code does: the translation's. -/
def CR0 (P : Program) : CRel := fun c code n => ∃ ann blk, codeC P ann n blk code = some c

section
variable {P : Program} {O : Oracle} {ann : Ann} {n : Nat} {base : Nat} {g0 g : G} {w0 w : World} {b : Frame} {B : Nat → Nat} {e e' : Env} {σ σ' : Stack} {a : Act}
  {k : List Item} {cs : List Frame} {x : Exit}

/-- The end of a piece of code. -/
def Ends (P : Program) (ann : Ann) (n base : Nat) (g0 : G) (w0 : World) (b : Frame) (cs : List Frame) (g : G) (w : World) (a : Act) (start k : List Item) (σ : Stack) (x : Exit) (e' : Env) (σ' : Stack) : Prop :=
  ∃ g' w' B' a' todo, Steps P (lone (b.atR a start) cs w) (lone (b.atR a' todo) cs w') ∧
    At (CR0 P) base ann.ownv g0 w0 n b g' w' B' e' σ' a' ∧ g.le g' ∧ Lands k x todo ∧ Goes σ σ'

theorem Ends.step {start start' k : List Item} {w1 : World} (h : step P (lone (b.atR a start) cs w) = .next (lone (b.atR a start') cs w1)) (hw : Ends P ann n base g0 w0 b cs g w1 a start' k σ x e' σ') :
    Ends P ann n base g0 w0 b cs g w a start k σ x e' σ' := by
  obtain ⟨g', w', B', a', todo, h1, h2⟩ := hw
  exact ⟨g', w', B', a', todo, .head h h1, h2⟩

theorem Lands.skip {i : Item} (hi : ∀ id, i ≠ .inBlock id) {x : Exit} {t : List Item} (hx : x ≠ .normal) (h : Lands (i :: k) x t) : Lands k x t := by
  cases x with
  | normal => exact absurd rfl hx
  | exit id =>
    obtain ⟨k', h1, h2⟩ := h
    refine ⟨k', h1, h2.trans ?_⟩
    cases i <;> first | rfl | exact absurd rfl (hi _)
  | ret => exact h

theorem opsC_all {reg : Nat} {ops : Array Oper} {tail : Nat} : ∀ {l : List Oper} {i : Nat} {xs : List Op}, opsC P ann n reg ops tail i l = some xs → (∀ j o, l[j]? = some o → ops[i + j]? = some o) →
    xs.length = l.length ∧ ∀ j x, xs[j]? = some x → ∃ o, ops[i + j]? = some o ∧ opC P ann n reg ops (decide (i + j < tail)) (i + j) o = some x
  | [], i, xs, h, _ => by simp only [opsC, Option.some.injEq] at h; subst h; exact ⟨rfl, fun j x hj => by simp at hj⟩
  | o :: l, i, xs, h, hl => by
    simp only [opsC] at h
    split at h
    · rename_i x xs' h1 h2
      cases h
      obtain ⟨h3, h4⟩ := opsC_all h2 fun j o' hj => by
        have := hl (j + 1) o' (by simpa using hj)
        rwa [show i + (j + 1) = i + 1 + j from by omega] at this
      refine ⟨by simp [h3], fun j y hj => ?_⟩
      cases j with
      | zero =>
        simp only [List.getElem?_cons_zero, Option.some.injEq] at hj
        subst hj
        exact ⟨o, hl 0 o rfl, h1⟩
      | succ j =>
        have := h4 j y (by simpa using hj)
        rwa [show i + 1 + j = i + (j + 1) from by omega] at this
    · cases h

theorem all2_range' {S : Nat → Op → Prop} : ∀ {xs : List Op} {i : Nat}, (∀ j x, xs[j]? = some x → S (i + j) x) → All2 S (List.range' i xs.length) xs
  | [], i, h => .nil
  | x :: xs, i, h => by
    simp only [List.length_cons, List.range'_succ]
    refine .cons (h 0 x rfl) (all2_range' fun j y hj => ?_)
    have := h (j + 1) y (by simpa using hj)
    rwa [show i + (j + 1) = i + 1 + j from by omega] at this

theorem opC_ntr {reg : Nat} {ops : Array Oper} {ntr : Bool} {i : Nat} {o : Oper} {op : Op} (h : opC P ann n reg ops ntr i o = some op) : op.ntr = ntr := by
  unfold opC at h
  split at h
  case h_2 => cases h
  split at h
  case h_2 => cases h
  simp only [Option.ite_none_right_eq_some] at h
  obtain ⟨_, h⟩ := h
  cases h
  rfl

theorem region_ok (hm : P.follows .mixedOrders = true) (hO : OrOk P (CR0 P) O) {id : Nat} {ops : Array Oper} {draw : Bool} {blk : Nat} {c : Cmd} (hc : codeC P ann n blk (.region id ops draw) = some c)
    (h : acode O c e σ = some (x, e', σ')) (ha : At (CR0 P) base ann.ownv g0 w0 n b g w B e σ a) : Ends P ann n base g0 w0 b cs g w a (.code (.region id ops draw) :: k) k σ x e' σ' := by
  simp only [codeC] at hc
  cases draw with
  | false =>
    simp only [Bool.false_eq_true, if_false, Option.map_eq_some_iff] at hc
    obtain ⟨xs, hxs, rfl⟩ := hc
    simp only [acode, Option.map_eq_some_iff, Prod.exists] at h
    obtain ⟨e1, σ1, h1, h2⟩ := h
    cases h2
    obtain ⟨hlen, hall⟩ := opsC_all hxs fun j o hj => by simpa using hj
    have h2 : All2 (OpAt P ann n id ops) (List.range ops.size) xs := by
      have := all2_range' (S := OpAt P ann n id ops) (xs := xs) (i := 0) fun j y hj => let ⟨o, k1, k2⟩ := hall j y hj; ⟨o, _, k1, k2⟩
      rw [hlen] at this
      rw [List.range_eq_range']
      simpa using this
    obtain ⟨g1, w1, B1, a1, k1, k2, k3, k4⟩ := ops_ok (k := k) (cs := cs) hO _ _ _ _ _ _ _ _ h2 h1 ha
    exact ⟨g1, w1, B1, a1, k, .head stepR_region (.trans k1 (.one stepR_region_end)), k2.restrict _, k3, rfl, k4⟩
  | true =>
    simp only [if_true] at hc
    split at hc
    case h_2 => cases hc
    rename_i xs hxs
    simp only [Option.ite_none_right_eq_some, Bool.and_eq_true] at hc
    obtain ⟨⟨hcalm, hedge⟩, hc⟩ := hc
    cases hc
    simp only [acode, Option.map_eq_some_iff, Prod.exists] at h
    obtain ⟨e1, σ1, h1, h2⟩ := h
    cases h2
    obtain ⟨hlen, hall⟩ := opsC_all hxs fun j o hj => by simpa using hj
    have hlen' : xs.length = ops.size := by simpa using hlen
    obtain ⟨ys, hys⟩ := lin_sched hlen' hcalm (fun i y hy hi => by
      obtain ⟨o, _, k2⟩ := hall i y hy
      have := opC_ntr k2
      rw [this]; simpa using hi) hedge ops.size (w.tape w.drawn (.order b.fn id)) (Array.replicate ops.size false) (by simp) (fun i hi => by
        simp [Array.getD_eq_getD_getElem?] at hi
        by_cases hlt : i < ops.size <;> simp [hlt] at hi) (by
        simp only [unl]
        exact Nat.le_trans (List.length_filter_le _ _) (by simp))
    have hU : unl ops.size (Array.replicate ops.size false) = List.range ops.size := by
      simp only [unl]
      rw [List.filter_eq_self]
      intro i hi
      have : i < ops.size := by simpa using hi
      simp [Array.getD_eq_getD_getElem?, this]
    rw [hU] at hys
    have hmap : ((List.range ops.size).map fun i => (i, (xs[i]?).getD default)).map (·.2) = xs := by
      simp only [List.map_map]
      apply List.ext_getElem?
      intro j
      by_cases hj : j < ops.size
      · simp [hj, show j < xs.length from by omega]
      · rw [List.getElem?_eq_none (by simp; omega), List.getElem?_eq_none (by omega)]
    have hlin : Region.schedule (P.follows .mixedOrders) ops (w.tape w.drawn (.order b.fn id)) = Region.linearise.go .any ops ops.size (w.tape w.drawn (.order b.fn id)) (Array.replicate ops.size false) [] := by
      simp [Region.schedule, hm, Region.linearise]
    obtain ⟨e2, h2, heq⟩ := sched_aops hys (by rw [hmap]; exact h1)
    have h3 : All2 (OpAt P ann n id ops) (Region.schedule (P.follows .mixedOrders) ops (w.tape w.drawn (.order b.fn id))) ys := by
      rw [hlin]
      refine sched_all hys fun p hp => ?_
      obtain ⟨j, hj, rfl⟩ := List.mem_map.1 hp
      have hj' : j < ops.size := by simpa using hj
      have hjx : xs[j]? = some (xs[j]'(by omega)) := by simp [show j < xs.length from by omega]
      obtain ⟨o, k1, k2⟩ := hall j _ hjx
      rw [hjx]
      simp only [Nat.zero_add] at k1 k2
      exact ⟨o, _, k1, k2⟩
    have ha1 := ha.draw { w with drawn := w.drawn + 1 } rfl rfl rfl rfl
    obtain ⟨g1, w1, B1, a1, k1, k2, k3, k4⟩ := ops_ok (k := k) (cs := cs) hO _ _ _ _ _ _ _ _ h3 h2 ha1
    refine ⟨g1, w1, B1, a1, k, .head stepR_region_draw (.trans k1 (.one stepR_region_end)), ?_, k3, rfl, k4⟩
    have := k2.restrict (look id [] ann.live)
    rw [restrict_eqE heq] at this
    exact this

theorem ctl_of {r : Option R} (h : R.ctls r = some (x, e', σ')) : r = some (.ctl x e' σ') := ctls_some h

/-- The start of a loop over a function. -/
theorem enter_ok (ha : At (CR0 P) base ann.ownv g0 w0 n b g w B e σ a) {ps : Array Tmp} {asg body : Code} {live : List Nat} {C1 C2 : Cmd} {blk : Nat}
    (h1 : codeC P ann n blk asg = some C1) (h2 : codeC P ann n blk body = some C2) (hps : ∀ t ∈ ps.toList, t < n) {l i : Nat} {σ1 : Stack}
    (hn : newBlk σ (.loop { state := 0, pend := none, env := strips live e, params := ps.toList, asg := C1, body := C2 }) = some (l, i, σ1)) :
    ∃ lb mk w1 g1, (Instr.enterLoop b.fn a.tmps ps asg body b.roundOf).run P w = .ok (lb, mk) w1 ∧ Inv (CR0 P) base g1 σ1 w1 ∧ Ev g w g1 w1 ∧ g1.loc l i = some (.lp lb) ∧
      ∃ rs, Marks w0.heap.size g1 w1 (mk ++ a.defers) rs := by
  obtain ⟨rs, hmarks⟩ := ha.marks
  have hrel : ∀ (r : Loop) (g' : G), g.le g' → r.state = .ready → r.pending = none → r.tmps = a.tmps → r.params = ps → r.assign = asg → r.body = body →
      RelLoop (CR0 P) g' { state := 0, pend := none, env := strips live e, params := ps.toList, asg := C1, body := C2 } r := by
    intro r g' hle k1 k2 k3 k4 k5 k6
    refine ⟨k1, by rw [k2]; rfl, by rw [k3]; exact (ha.fr.strips live).mono hle, by rw [k4], by rw [k3, ha.size]; exact hps, ?_⟩
    rw [k3, k5, k6, ha.size]
    exact ⟨ann, blk, by simp [codeC, h1, h2]⟩
  rcases ha.round with hr | ⟨r, l', i', hr, hl'⟩
  · rw [hr, run_enterLoop_outer]
    have i1 := ha.inv.alloc (.deferred (some []))
    have e1 := Ev.alloc g w (.deferred (some []))
    have := i1.newLoop hn { state := .ready, pending := none, fn := b.fn, tmps := a.tmps, params := ps, assign := asg, body, defers := w.heap.size } (hrel _ g g.le_refl rfl rfl rfl rfl rfl rfl)
    obtain ⟨i2, e2⟩ := this
    have hsz : (w.alloc (.deferred (some []))).heap.size = w.heap.size + 1 := by simp
    rw [hsz] at i2 e2
    have hm0 : MarkB w0.heap.size g (w.alloc (.deferred (some []))) w.heap.size := by
      refine ⟨ha.ev.size, fun hb => Nat.lt_irrefl _ (ha.inv.has_lt hb), fun o => ?_, alloc_new⟩
      cases hh : g.imm w.heap.size o with
      | none => rfl
      | some v => exact absurd (ha.inv.imm_lt hh) (Nat.lt_irrefl _)
    refine ⟨_, _, _, _, rfl, i2, e1.trans e2, G.setLoc_same, w.heap.size :: rs, ?_, ?_, ?_⟩
    · simp [hmarks.eq, mark]
    · rw [List.nodup_cons]
      exact ⟨fun hin => Nat.lt_irrefl _ (hmarks.all _ hin).lt, hmarks.nodup⟩
    · intro r hr
      rcases List.mem_cons.1 hr with rfl | hr
      · exact hm0.ev e2
      · exact ((hmarks.all r hr).ev e1).ev e2
  · obtain ⟨blkr, hbr, hrelr⟩ := ha.inv.dom l' i' _ hl'
    cases blkr with
    | cells => exact hrelr.elim
    | dead => exact hrelr.elim
    | loop lpr =>
      obtain ⟨r0, hr0, _⟩ := hrelr
      rw [hr, run_enterLoop_inner hr0]
      obtain ⟨i2, e2⟩ := ha.inv.newLoop hn { state := .ready, pending := none, fn := b.fn, tmps := a.tmps, params := ps, assign := asg, body, defers := r0.defers } (hrel _ g g.le_refl rfl rfl rfl rfl rfl rfl)
      exact ⟨_, _, _, _, rfl, i2, e2, G.setLoc_same, rs, by simpa using hmarks.ev e2⟩

theorem range_ok (hO : OrOk P (CR0 P) O) {f : Operand} {ps : Array Tmp} {asg body : Code} {blk : Nat} {c : Cmd} (hc : codeC P ann n blk (.rangeFunc f ps asg body) = some c)
    (h : acode O c e σ = some (x, e', σ')) (ha : At (CR0 P) base ann.ownv g0 w0 n b g w B e σ a) : Ends P ann n base g0 w0 b cs g w a (.code (.rangeFunc f ps asg body) :: k) k σ x e' σ' := by
  simp only [codeC] at hc
  split at hc
  case h_2 => cases hc
  rename_i F C1 C2 hf h1 h2
  simp only [Option.ite_none_right_eq_some] at hc
  obtain ⟨hps, hc⟩ := hc
  cases hc
  have hps' : ∀ t ∈ ps.toList, t < n := fun t ht => by
    have := List.all_eq_true.1 hps t ht
    simp only [Bool.and_eq_true, decide_eq_true_eq] at this
    exact this.1
  simp only [acode] at h
  split at h
  case h_2 => cases h
  rename_i l i σ1 hn
  split at h
  case h_2 => cases h
  rename_i dv σ2 hcall
  split at h
  case h_2 => cases h
  rename_i lp hlp
  split at h
  · cases h
  rename_i hst
  cases h
  obtain ⟨lb, mk, w1, g1, hent, i1, e1, hloc1, rs, hmarks1⟩ := enter_ok ha h1 h2 hps' hn
  -- the call
  unfold callf at hcall
  split at hcall
  case h_2 => cases hcall
  rename_i fi first cap hfe
  obtain ⟨tmps, df⟩ := a
  have hfv := ha.fr.opd (df := df) hf
  rw [hfe] at hfv
  obtain ⟨⟨Fn, cd, hfn1, hfn2, hfn3⟩, hcallok⟩ := hO _ _ (vals_some hcall)
  generalize hev : (Act.mk tmps df).eval f = fv at hfv
  cases hfv with
  | fn _ _ _ first' cap' r1 r2 =>
    have hgo1 := Goes.new hn
    have hargs : RelL g1 (first ++ [.yld l i] ++ cap) (first' ++ #[Value.func (.yield lb) #[] #[]] ++ cap').toList := by
      have hy : RelL g1 [D.yld l i] [.func (.yield lb) #[] #[]] := .cons _ _ _ _ (.yld l i lb _ hloc1 fun bb hb => by cases hb; rfl) .nil
      simpa using ((r1.mono e1.le).append hy).append (r2.mono e1.le)
    obtain ⟨hgo2, hcalls⟩ := hcallok base g1 w1 _ i1 (hgo1.low ha.low) (by rw [hgo1.len]; exact ha.pos) hargs
    obtain ⟨en, w2, fr, ⟨v, g2, rfl, e2, i2, hr⟩, hcomes, hfr, hleave⟩ := hcalls (b.atR { tmps := tmps, defers := mk ++ df } (.inRangeFunc lb :: k) :: cs)
    have hres : (resolve (Act.mk tmps df).eval (rangeCall f lb) 0).run P w1 = .ok { target := .fn (.func fi) cap', args := first' ++ #[Value.func (.yield lb) #[] #[]] } w1 := by
      rw [run_resolve_value hev]; simp [Act.eval]
    have hinv : (invoke (.fn (.func fi) cap') (first' ++ #[Value.func (.yield lb) #[] #[]])).run P w1 = .ok (.enter fi (first' ++ #[Value.func (.yield lb) #[] #[]] ++ cap')) w1 := by
      simp only [invoke, run_callFunc hfn1 hfn2 hfn3]
    have hstep1 := stepR_rangeFunc (P := P) (b := b) (a := ⟨tmps, df⟩) (k := k) (cs := cs) (w := w) hent hres hinv
    -- the record
    obtain ⟨L2, hL2, hle2⟩ := e2.le.loc l i _ hloc1
    rw [Loc.lp_le hle2] at hL2
    obtain ⟨bb, hbb, hrelb⟩ := i2.dom l i _ hL2
    rw [hlp] at hbb; cases hbb
    obtain ⟨r, hr1, hr2⟩ := hrelb
    have hbusy : r.state ≠ .busy := by
      rw [hr2.state]
      intro hs
      match hstv : lp.state with
      | 0 => rw [hstv] at hs; cases hs
      | 1 => exact hst hstv
      | 2 => rw [hstv] at hs; cases hs
      | m + 3 => rw [hstv] at hs; cases hs
    have hend := run_endLoop (P := P) hr1 hbusy
    have hrel3 : RelLoop (CR0 P) g2 { lp with state := 3 } { r with state := .exhausted } := ⟨rfl, hr2.pend, hr2.env, hr2.params, hr2.small, hr2.both⟩
    obtain ⟨i3, e3⟩ := i2.setLoop hL2 hlp hrel3
    have hgo3 : Goes σ2 (setBlk σ2 l i (.loop { lp with state := 3 })) := ⟨setBlk_length, fun h => h.set fun hl => (h l i _ hlp hl : Blk.low (l + 1) (.loop lp))⟩
    have hgo := (hgo1.trans hgo2).trans hgo3
    have hev3 := (e1.trans e2).trans e3
    refine ⟨g2, w2.putObj lb (.loop { r with state := .exhausted }), B, { tmps := tmps, defers := mk ++ df }, (r.pending.map Item.code).toList ++ k, .head hstep1 (.trans hcomes (.head (step_leave_returned hleave) ?_)), ?_, hev3.le, ?_, hgo⟩
    · rw [finish_atR_inRangeFunc]
      exact .one (stepR_endRangeFunc hend)
    · exact ⟨(ha.fr.ev hev3).restrict _, ha.ev.trans hev3, i3, hgo.low ha.low, by rw [hgo.len]; exact ha.pos, ha.size, ⟨rs, (hmarks1.ev e2).ev e3⟩, round_mono ha.round hev3.le⟩
    · have hp := hr2.pend
      cases hpe : lp.pend with
      | none => rw [hpe] at hp; simp only [pendOf, Option.some.injEq] at hp; rw [← hp]; rfl
      | some y =>
        rw [hpe] at hp
        cases y with
        | normal => simp [pendOf] at hp
        | exit id => simp only [pendOf, Option.some.injEq] at hp; rw [← hp]; exact ⟨k, rfl, rfl⟩
        | ret => simp only [pendOf, Option.some.injEq] at hp; rw [← hp]; exact ⟨k, rfl⟩

/-- A piece of code. -/
theorem code_ok (hm : P.follows .mixedOrders = true) (hO : OrOk P (CR0 P) O) : ∀ (code : Code) {blk : Nat} {c : Cmd} {e e' : Env} {σ σ' : Stack} {x : Exit} {g : G} {w : World} {B : Nat → Nat} {a : Act} {k : List Item},
    codeC P ann n blk code = some c → acode O c e σ = some (x, e', σ') → At (CR0 P) base ann.ownv g0 w0 n b g w B e σ a → Ends P ann n base g0 w0 b cs g w a (.code code :: k) k σ x e' σ' := by
  intro code
  induction code with
  | skip =>
    intro blk c e e' σ σ' x g w B a k hc h ha
    simp only [codeC, Option.some.injEq] at hc; subst hc
    simp only [acode, Option.some.injEq, Prod.mk.injEq] at h
    obtain ⟨rfl, rfl, rfl⟩ := h
    exact ⟨g, w, B, a, k, .one stepR_skip, ha, g.le_refl, rfl, .refl _⟩
  | region id ops draw =>
    intro blk c e e' σ σ' x g w B a k hc h ha
    exact region_ok hm hO hc h ha
  | seq p q ih1 ih2 =>
    intro blk c e e' σ σ' x g w B a k hc h ha
    simp only [codeC] at hc
    split at hc
    case h_2 => cases hc
    rename_i p' q' h1 h2
    cases hc
    simp only [acode, Option.bind_eq_some_iff, Prod.exists] at h
    obtain ⟨x1, e1, σ1, h3, h4⟩ := h
    obtain ⟨g1, w1, B1, a1, t1, k1, k2, k3, k4, k5⟩ := ih1 (k := .code q :: k) h1 h3 ha
    cases x1 with
    | normal =>
      obtain rfl := k4
      obtain ⟨g2, w2, B2, a2, t2, m1, m2, m3, m4, m5⟩ := ih2 (k := k) h2 h4 k2
      exact ⟨g2, w2, B2, a2, t2, .head stepR_seq (.trans k1 m1), m2, k3.trans' m3, m4, k5.trans m5⟩
    | exit id =>
      simp only [Option.some.injEq, Prod.mk.injEq] at h4
      obtain ⟨rfl, rfl, rfl⟩ := h4
      exact ⟨g1, w1, B1, a1, t1, .head stepR_seq k1, k2, k3, k4.skip (fun _ => by simp) (by simp), k5⟩
    | ret =>
      simp only [Option.some.injEq, Prod.mk.injEq] at h4
      obtain ⟨rfl, rfl, rfl⟩ := h4
      exact ⟨g1, w1, B1, a1, t1, .head stepR_seq k1, k2, k3, k4.skip (fun _ => by simp) (by simp), k5⟩
  | cond co p q ih1 ih2 =>
    intro blk c e e' σ σ' x g w B a k hc h ha
    simp only [codeC] at hc
    split at hc
    case h_2 => cases hc
    rename_i C p' q' h0 h1 h2
    cases hc
    simp only [acode] at h
    split at h
    case h_2 => cases h
    rename_i t ht
    obtain ⟨tmps, df⟩ := a
    have hrel := ha.fr.opd (df := df) h0
    rw [ht] at hrel
    have hev := hrel.bool_inv
    refine Ends.step (stepR_cond hev) ?_
    cases t with
    | true => exact ih1 h1 (by simpa using h) ha
    | false => exact ih2 h2 (by simpa using h) ha
  | block id p ih =>
    intro blk c e e' σ σ' x g w B a k hc h ha
    simp only [codeC, Option.map_eq_some_iff] at hc
    obtain ⟨p', h1, rfl⟩ := hc
    simp only [acode, Option.map_eq_some_iff, Prod.exists] at h
    obtain ⟨x1, e1, σ1, h3, h4⟩ := h
    obtain ⟨g1, w1, B1, a1, t1, k1, k2, k3, k4, k5⟩ := ih (k := .inBlock id :: k) h1 h3 ha
    cases x1 with
    | normal =>
      cases h4
      obtain rfl := k4
      exact ⟨g1, w1, B1, a1, k, .head stepR_block (.trans k1 (.one stepR_inBlock)), k2, k3, rfl, k5⟩
    | exit j =>
      obtain ⟨k', rfl, hk'⟩ := k4
      dsimp only at h4
      split at h4
      · rename_i hj
        subst hj
        cases h4
        refine ⟨g1, w1, B1, a1, k, .head stepR_block (.trans k1 (.one (stepR_exit ?_))), k2, k3, rfl, k5⟩
        rw [hk']; simp [exitTo]
      · rename_i hj
        cases h4
        refine ⟨g1, w1, B1, a1, _, .head stepR_block k1, k2, k3, ⟨k', rfl, ?_⟩, k5⟩
        rw [hk']; simp [exitTo, Ne.symm hj]
    | ret =>
      cases h4
      exact ⟨g1, w1, B1, a1, t1, .head stepR_block k1, k2, k3, k4, k5⟩
  | loop p ih =>
    intro blk c e e' σ σ' x g w B a k hc h ha
    simp only [codeC, Option.map_eq_some_iff] at hc
    obtain ⟨p', h1, rfl⟩ := hc
    simp only [acode] at h
    obtain ⟨hx, hloop⟩ := hO _ _ (ctls_some h)
    exact Ends.step stepR_loop (hloop ann blk p n h1 base g0 w0 b a k cs g w B ha)
  | rangeFunc f ps p q ih1 ih2 =>
    intro blk c e e' σ σ' x g w B a k hc h ha
    exact range_ok hO hc h ha
  | exit id =>
    intro blk c e e' σ σ' x g w B a k hc h ha
    simp only [codeC, Option.some.injEq] at hc; subst hc
    simp only [acode, Option.some.injEq, Prod.mk.injEq] at h
    obtain ⟨rfl, rfl, rfl⟩ := h
    exact ⟨g, w, B, a, _, .refl _ _, ha, g.le_refl, ⟨k, rfl, rfl⟩, .refl _⟩
  | ret =>
    intro blk c e e' σ σ' x g w B a k hc h ha
    simp only [codeC, Option.some.injEq] at hc; subst hc
    simp only [acode, Option.some.injEq, Prod.mk.injEq] at h
    obtain ⟨rfl, rfl, rfl⟩ := h
    exact ⟨g, w, B, a, _, .refl _ _, ha, g.le_refl, ⟨k, rfl⟩, .refl _⟩
  | _ => intro blk c e e' σ σ' x g w B a k hc; simp [codeC] at hc
end
end Go.Abs
