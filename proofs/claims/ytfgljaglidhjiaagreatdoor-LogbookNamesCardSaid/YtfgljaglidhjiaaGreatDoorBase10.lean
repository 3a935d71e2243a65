/- The interpreter, part 10: proved sound against the model. -/
import Derived.Test.YtfgljaglidhjiaaGreatDoorBase9
import Derived.Recover
/-
  One operation of a region, calls too.
-/
set_option linter.unusedVariables false
set_option linter.unusedSimpArgs false
namespace Go.Abs
open Go


def CallOk (P : Program) (CR : CRel) (f : Nat) (args : List D) (σ : Stack) (d : D) (σ' : Stack) : Prop :=
  (∃ F c, P.funcs[f]? = some F ∧ F.name ≠ "runtime.NumGoroutine" ∧ F.body = some c) ∧
  ∀ base g w vs, Inv CR base g σ w → LowS σ → 0 < σ.length → RelL g args vs.toList →
    Goes σ σ' ∧ Calls P f vs w (fun e w' => ∃ v g', e = .returned v ∧ Ev g w g' w' ∧ Inv CR base g' σ' w' ∧ RelV g' d v)

def ThrowOk (P : Program) (CR : CRel) (f : Nat) (args : List D) (σ : Stack) (d : D) (σ' : Stack) : Prop :=
  d.clean = true ∧ (∃ F c, P.funcs[f]? = some F ∧ F.name ≠ "runtime.NumGoroutine" ∧ F.body = some c) ∧
  ∀ base g w vs, Inv CR base g σ w → LowS σ → 0 < σ.length → RelL g args vs.toList →
    Goes σ σ' ∧ Calls P f vs w (fun e w' => ∃ v g', e = .panicked [{ v, recovered := false }] ∧ Ev g w g' w' ∧ Inv CR base g' σ' w' ∧ RelV g' d v)

def Falls (g : G) : Option D → FrameMode → Prop
  | none, u => u = .returning
  | some d, u => ∃ v, RelV g d v ∧ u = .panicking [{ v, recovered := false }]

def DCallOk (P : Program) (CR : CRel) (f : Nat) (args : List D) (th : Option D) (σ σ' : Stack) : Prop :=
  (∃ F c, P.funcs[f]? = some F ∧ F.name ≠ "runtime.NumGoroutine" ∧ F.body = some c) ∧
  ∀ base g w vs u, Inv CR base g σ w → LowS σ → 0 < σ.length → RelL g args vs.toList → Falls g th u →
    Goes σ σ' ∧ CallsD P f vs u w (fun e u' w' => ∃ v g', e = .returned v ∧ settle u' = .returning ∧ Ev g w g' w' ∧ Inv CR base g' σ' w')

def RoundOk (P : Program) (CR : CRel) (l i : Nat) (args : List D) (σ : Stack) (d : D) (σ' : Stack) : Prop :=
  (∃ lp, blk? σ l i = some (.loop lp)) ∧ ∀ base g w vs b, Inv CR base g σ w → LowS σ → 0 < σ.length → RelL g args vs.toList → RelV g (.yld l i) (.func (.yield b) #[] #[]) →
    Goes σ σ' ∧ ∃ f tmps asg body, (Instr.yield b vs).run P w = .ok (.round b f tmps asg body) w ∧
      ∀ c cs, ∃ v g' w', Steps P (lone (Frame.round b f tmps asg body .normal) (c :: cs) w) (lone (c.finish v) cs w') ∧ Ev g w g' w' ∧ Inv CR base g' σ' w' ∧ RelV g' d v

def Lands (k : List Item) : Exit → List Item → Prop
  | .normal, t => t = k
  | .exit id, t => ∃ k', t = .code (.exit id) :: k' ∧ exitTo id k' = exitTo id k
  | .ret, t => ∃ k', t = .code .ret :: k'
  | .thr _, _ => True

def Outs (S : Frame → Prop) (g : G) (b : Frame) (a : Act) (todo : List Item) : Exit → Prop
  | .thr d => d.clean = true ∧ ∃ v, RelV g d v ∧ S { b.atR a todo with mode := .panicking [{ v, recovered := false }] }
  | _ => S (b.atR a todo)

theorem Outs.imp {S S' : Frame → Prop} {g : G} {b : Frame} {a : Act} {todo : List Item} {x : Exit} (h : Outs S g b a todo x) (hs : ∀ fr, S fr → S' fr) : Outs S' g b a todo x := by
  cases x with
  | thr d => obtain ⟨h0, v, h1, h2⟩ := h; exact ⟨h0, v, h1, hs _ h2⟩
  | _ => exact hs _ h

def LoopOk (P : Program) (CR : CRel) (c : Cmd) (e : Env) (σ : Stack) (x : Exit) (e' : Env) (σ' : Stack) : Prop :=
  x ≠ .normal ∧ ∀ (ann : Ann) blk code n, codeC P ann n blk code = some c → ∀ base g0 w0 b a k cs g w B, At CR base ann.ownv g0 w0 n b g w B e σ a →
    ∃ g' w' B' a' todo, Outs (fun fr => Steps P (lone (b.atR a (.code code :: .inLoop code :: k)) cs w) (lone fr cs w')) g' b a' todo x ∧
      At CR base ann.ownv g0 w0 n b g' w' B' e' σ' a' ∧ g.le g' ∧ Lands k x todo ∧ Goes σ σ'

def RestOk (P : Program) (ann : Ann) (n blk : Nat) (rest : Cmd) : Option Code → Prop
  | none => rest = .nop
  | some q => codeC P ann n blk q = some rest

def MLoopOk (P : Program) (CR : CRel) (live : List Nat) (it : Opd) (nx ok bid : Nat) (c rest : Cmd) (e : Env) (σ : Stack) (x : Exit) (e' : Env) (σ' : Stack) : Prop :=
  ∀ (ann : Ann) blk rid ops p n it0 (qs : Option Code), it = .t it0 → mapC ann n (.loop (.seq (.region rid ops false) p)) = some (it0, nx, ok) → codeC P ann n bid p = some c → RestOk P ann n blk rest qs →
    ∀ base g0 w0 b a k cs g w B, At CR base ann.ownv g0 w0 n b g w B e σ a →
    ∃ g' w' B' a' todo, Outs (fun fr => Steps P (lone (b.atR a (.code (.seq (.region rid ops false) p) :: .inLoop (.seq (.region rid ops false) p) :: .inBlock bid :: (qs.toList.map Item.code ++ k))) cs w) (lone fr cs w')) g' b a' todo x ∧
      At CR base ann.ownv g0 w0 n b g' w' B' e' σ' a' ∧ g.le g' ∧ Lands k x todo ∧ Goes σ σ'

def AnsOk (P : Program) (CR : CRel) : Q → R → Prop
  | .call _ f args σ, .val d σ' => CallOk P CR f args σ d σ'
  | .round l i args σ, .val d σ' => RoundOk P CR l i args σ d σ'
  | .loop _ _ c e σ, .ctl x e' σ' => LoopOk P CR c e σ x e' σ'
  | .call _ f args σ, .thr d σ' => ThrowOk P CR f args σ d σ'
  | .mloop live it nx ok bid c rest e σ, .ctl x e' σ' => MLoopOk P CR live it nx ok bid c rest e σ x e' σ'
  | .dcall f args th σ, .val _ σ' => DCallOk P CR f args th σ σ'
  | _, _ => True

def OrOk (P : Program) (CR : CRel) (O : Oracle) : Prop := ∀ q r, O q = some r → AnsOk P CR q r

theorem vals_some {r : Option R} {d : D} {σ : Stack} (h : R.vals r = some (d, σ)) : r = some (.val d σ) := by
  unfold R.vals at h
  split at h
  · cases h; rfl
  · cases h

theorem ctls_some {r : Option R} {x : Exit} {e : Env} {σ : Stack} (h : R.ctls r = some (x, e, σ)) : r = some (.ctl x e σ) := by
  unfold R.ctls at h
  split at h
  · cases h; rfl
  · cases h

section
variable {P : Program} {CR : CRel} {O : Oracle} {ann : Ann} {n reg : Nat} {ops : Array Oper} {base : Nat} {g0 g : G} {w0 w : World} {b : Frame} {B : Nat → Nat} {e e' : Env} {σ σ' : Stack} {a : Act}
  {k : List Item} {cs : List Frame} {i : Nat} {rest : List Nat}

def Next1 (P : Program) (CR : CRel) (ann : Ann) (n : Nat) (ops : Array Oper) (base : Nat) (g0 : G) (w0 : World) (b : Frame) (g : G) (w : World) (a : Act) (k : List Item) (cs : List Frame) (i : Nat) (rest : List Nat) (σ : Stack) (e' : Env) (σ' : Stack) : Prop :=
  ∃ g' w' B' a', Steps P (lone (b.atR a (.inRegion ops (i :: rest) :: k)) cs w) (lone (b.atR a' (.inRegion ops rest :: k)) cs w') ∧
    At CR base ann.ownv g0 w0 n b g' w' B' e' σ' a' ∧ g.le g' ∧ Goes σ σ'

theorem At.go {V : List Nat} (ha : At CR base V g0 w0 n b g w B e σ a) {g' : G} {w' : World} {B' : Nat → Nat} {tm : Act} (he : Ev g w g' w') (hi : Inv CR base g' σ' w') (hg : Goes σ σ')
    (hf : Fr w0.heap.size V g' w' B' e' tm.tmps) (hs : tm.tmps.size = a.tmps.size) (hd : tm.defers = a.defers) : At CR base V g0 w0 n b g' w' B' e' σ' tm where
  fr := hf
  ev := ha.ev.trans he
  inv := hi
  low := hg.low ha.low
  pos := by rw [hg.len]; exact ha.pos
  size := by rw [hs]; exact ha.size
  marks := let ⟨rs, h⟩ := ha.marks; ⟨rs, by rw [hd]; exact h.ev he⟩
  round := round_mono ha.round he.le

theorem put_size {dst : Option Nat} {c : Value} : (a.put dst c).tmps.size = a.tmps.size := by cases dst <;> simp [Act.put]
theorem put_defers {dst : Option Nat} {c : Value} : (a.put dst c).defers = a.defers := by cases dst <;> simp [Act.put]

theorem kC_defer {ann : Ann} {key : Nat} {o : Oper} {kk : K} (h : kC P ann ops key o = some kk) : ∀ c, o.op ≠ .defer c := by
  intro c hc
  unfold kC at h
  rw [hc] at h
  cases h

theorem next_value (ha : At CR base ann.ownv g0 w0 n b g w B e σ a) {o : Oper} (ho : ops[i]? = some o) (hn : ∀ t, o.dst = some t → t < n) (hV : ∀ t, o.dst = some t → t ∉ ann.ownv)
    {g' : G} {w' : World} {d : D} {c : Value} (hsteps : Steps P (lone (b.atR a (.inRegion ops (i :: rest) :: k)) cs w) (lone (b.atR (a.put o.dst c) (.inRegion ops rest :: k)) cs w'))
    (he : Ev g w g' w') (hi : Inv CR base g' σ' w') (hg : Goes σ σ') (hr : RelT g' B e d c) :
    Next1 P CR ann n ops base g0 w0 b g w a k cs i rest σ (put o.dst d e) σ' := by
  refine ⟨g', w', B, a.put o.dst c, hsteps, ha.go he hi hg ?_ put_size put_defers, he.le, hg⟩
  exact (ha.fr.ev he).put hr hV fun t ht => by rw [ha.size]; exact hn t ht

theorem run_resolve_value {ρ : Operand → Value} {f : Operand} {args : Array Operand} {ts : Array TypeId} {ty : TypeId} {fn : Go.Fn} {first cap : Array Value} (hf : ρ f = .func fn first cap) (w : World) :
    (resolve ρ { callee := .value f, args, argTypes := ts } ty).run P w = .ok { target := .fn fn cap, args := first ++ args.map ρ } w := by
  simp [resolve, Deferred.ofValue, hf]

theorem run_callFunc {f : FuncId} {args : Array Value} {F : Func} (h1 : P.funcs[f]? = some F) (h2 : F.name ≠ "runtime.NumGoroutine") {c : Code} (h3 : F.body = some c) (w : World) :
    (callFunc f args).run P w = .ok (.enter f args) w := by
  simp [callFunc, program, Sem.run, h1, h2, h3]

theorem opsC_map {xs : Array Operand} {Xs : List Opd} {fb : Nat} {V : List Nat} {tmps : Array Value} {df : List Deferred} (hf : Fr fb V g w B e tmps) (hx : opdsC xs.toList = some Xs) :
    RelL g (Xs.map (Abs.opd e)) (xs.map (Act.mk tmps df).eval).toList := by
  have := hf.opds (df := df) hx
  simpa using this

theorem call_ok (hO : OrOk P CR O) (ha : At CR base ann.ownv g0 w0 n b g w B e σ a) {o : Oper} (ho : ops[i]? = some o) (hw : Region.wanted o (yielded ops a.tmps) = true)
    (hn : ∀ t, o.dst = some t → t < n) (hV : ∀ t, o.dst = some t → t ∉ ann.ownv) {f : Operand} {args : Array Operand} {ts : Array TypeId} (hop : o.op = .call { callee := .value f, args, argTypes := ts })
    {F : Opd} {Xs : List Opd} (hF : opdC f = some F) (hX : opdsC args.toList = some Xs) {kp : Bool} {d : D} (h : callv O kp (opd e F) (Xs.map (opd e)) σ = some (d, σ')) :
    Next1 P CR ann n ops base g0 w0 b g w a k cs i rest σ (put o.dst d e) σ' := by
  obtain ⟨tmps, df⟩ := a
  have hd : ∀ c, o.op ≠ .defer c := by intro c hc; rw [hop] at hc; cases hc
  have hfv := ha.fr.opd (df := df) hF
  have hxs := opsC_map (df := df) ha.fr hX
  unfold callv at h
  split at h
  · rename_i fi first cap hfe
    rw [hfe] at hfv
    have hans := hO _ _ (vals_some h)
    obtain ⟨⟨Fn, cd, hfn1, hfn2, hfn3⟩, hcall⟩ := hans
    generalize hev : (Act.mk tmps df).eval f = fv at hfv
    cases hfv with
    | fn _ _ _ first' cap' r1 r2 =>
      have hrun : (execOp (Act.mk tmps df).eval o).run P w = .ok (.enter fi (first' ++ args.map (Act.mk tmps df).eval ++ cap')) w := by
        simp only [execOp, hop, Sem.run_bind, run_resolve_value hev, Result.andThen_ok, invoke, run_callFunc hfn1 hfn2 hfn3]
      have hargs : RelL g (first ++ Xs.map (opd e) ++ cap) (first' ++ args.map (Act.mk tmps df).eval ++ cap').toList := by
        simpa using (r1.append hxs).append r2
      obtain ⟨hgo, hcalls⟩ := hcall base g w _ ha.inv ha.low ha.pos hargs
      obtain ⟨en, w', fr, ⟨v, g', rfl, he, hi, hr⟩, hcomes, hfr, hleave⟩ := hcalls (b.atR ⟨tmps, df⟩ (.inRegion ops (i :: rest) :: k) :: cs)
      refine next_value ha ho hn hV (Steps.head (step_enter ho hw hd hrun) (Steps.trans hcomes (Steps.one ?_))) he hi hgo (RelT.of hr)
      rw [step_leave_returned hleave, finish_op ho]
  · rename_i l j hfe
    rw [hfe] at hfv
    have hans := hO _ _ (vals_some h)
    generalize hev : (Act.mk tmps df).eval f = fv at hfv
    have hfv0 := hfv
    cases hfv with
    | mpv _ _ bb r1 =>
      obtain ⟨⟨lp, hlp⟩, _⟩ := hans
      obtain ⟨b0, hb0, hrel⟩ := ha.inv.dom _ _ _ r1
      rw [hlp] at hb0; cases hb0
      exact hrel.elim
    | itv _ _ bb L r1 r2 =>
      obtain ⟨⟨lp, hlp⟩, _⟩ := hans
      obtain ⟨b0, hb0, hrel⟩ := ha.inv.dom _ _ _ r1
      rw [hlp] at hb0; cases hb0
      rcases r2 with rfl | rfl <;> exact hrel.elim
    | bdv _ _ bb L r1 r2 =>
      obtain ⟨⟨lp, hlp⟩, _⟩ := hans
      obtain ⟨b0, hb0, hrel⟩ := ha.inv.dom _ _ _ r1
      rw [hlp] at hb0; cases hb0
      rcases r2 with ⟨c, rfl⟩ | rfl <;> exact hrel.elim
    | yld _ _ bb r1 =>
      obtain ⟨hgo, f0, tm0, asg, body, hy, hround⟩ := hans.2 base g w (args.map (Act.mk tmps df).eval) bb ha.inv ha.low ha.pos (by simpa using hxs) hfv0
      have hrun : (execOp (Act.mk tmps df).eval o).run P w = .ok (.round bb f0 tm0 asg body) w := by
        simp only [execOp, hop, Sem.run_bind, run_resolve_value hev, Result.andThen_ok, invoke]
        simpa using hy
      obtain ⟨v, g', w', hsteps, he, hi, hr⟩ := hround (b.atR ⟨tmps, df⟩ (.inRegion ops (i :: rest) :: k)) cs
      refine next_value ha ho hn hV (Steps.head (step_round ho hw hd hrun) ?_) he hi hgo (RelT.of hr)
      rw [finish_op ho] at hsteps
      exact hsteps
  · cases h
end
end Go.Abs

/-
  One operation of a region: variables of the frame's own; any operation; a row of operations.
-/
set_option linter.unusedVariables false
set_option linter.unusedSimpArgs false
namespace Go.Abs
open Go

section
variable {P : Program} {CR : CRel} {O : Oracle} {ann : Ann} {n reg : Nat} {ops : Array Oper} {base : Nat} {g0 g : G} {w0 w : World} {b : Frame} {B : Nat → Nat} {e e' : Env} {σ σ' : Stack} {a : Act}
  {k : List Item} {cs : List Frame} {i : Nat} {rest : List Nat}

theorem own_ok (ha : At CR base ann.ownv g0 w0 n b g w B e σ a) {o : Oper} (ho : ops[i]? = some o) (hw : Region.wanted o (yielded ops a.tmps) = true) (hd : ∀ c, o.op ≠ .defer c)
    {v : Nat} (hdst : o.dst = some v) (hV : v ∈ ann.ownv) (hn : v < n) {g1 : G} {ds : List D} {ca : Array Value} {el : TypeId}
    (hrun : (execOp a.eval o).run P w = .ok (.value (.pointer (some ⟨w.heap.size, 0, none⟩))) (w.alloc (.cells ca el)))
    (i1 : Inv CR base g1 σ' w) (e1 : Ev g w g1 w) (hg : Goes σ σ') (hr : RelL g1 ds ca.toList) (h1 : ∀ x ∈ ca.toList, x.oneCell' = true) :
    Next1 P CR ann n ops base g0 w0 b g w a k cs i rest σ ((v, .own (stamp e v) ds) :: e) σ' := by
  obtain ⟨tmps, df⟩ := a
  have i2 := i1.alloc (.cells ca el)
  have e2 := e1.trans (Ev.alloc g1 w (.cells ca el))
  have hsteps := step_value (P := P) (b := b) (a := ⟨tmps, df⟩) (k := k) (cs := cs) (rest := rest) ho hw hd hrun rfl
  rw [hdst] at hsteps
  have hsz : v < tmps.size := by have := ha.size; simp only at this; omega
  refine ⟨g1, _, _, _, .one hsteps, ha.go e2 i2 hg ((ha.fr.ev e2).putOwn hV hsz ⟨ha.ev.size, fun hb => ?_, fun o => ?_, ca, el, alloc_new, hr, h1⟩ fun t s cs' ht => ?_) put_size put_defers, e2.le, hg⟩
  · exact Nat.lt_irrefl _ (i1.has_lt hb)
  · cases hh : g1.imm w.heap.size o with
    | none => rfl
    | some x => exact absurd (i1.imm_lt hh) (Nat.lt_irrefl _)
  · have := (ha.fr.own t s cs' ht).2.2.lt; omega

theorem stv_ok (ha : At CR base ann.ownv g0 w0 n b g w B e σ a) {o : Oper} (ho : ops[i]? = some o) (hw : Region.wanted o (yielded ops a.tmps) = true)
    (hn : ∀ t, o.dst = some t → t < n) (hV : ∀ t, o.dst = some t → t ∉ ann.ownv) {t : TypeId} {x v : Nat} {y : Operand} {Y : Opd} (hop : o.op = .store t (.tmp x) y) (hy : opdC y = some Y) {sz : Nat} (hsz : sizeC P t = some sz)
    {s off : Nat} {cv p p' : List D} {nb : List (Nat × Nat)} (hin : inVar e v x = some (s, cv, off)) (hp : (opd e Y).cells = some p) (hlen : p.length = sz ∧ off + sz ≤ cv.length)
    (hnb : nilbs nb p σ = some (p', σ')) (hdst : o.dst = none) :
    Next1 P CR ann n ops base g0 w0 b g w a k cs i rest σ ((v, .own s (cv.take off ++ p' ++ cv.drop (off + sz))) :: e) σ' := by
  obtain ⟨tmps, df⟩ := a
  have hd : ∀ c, o.op ≠ .defer c := by intro c hc; rw [hop] at hc; cases hc
  obtain ⟨hgv, hpx⟩ := ha.fr.inVar hin
  obtain ⟨hvV, hptr, hob⟩ := ha.fr.own v s cv hgv
  obtain ⟨ca, el, hheap, hrl, h1c⟩ := hob.blk
  obtain ⟨hrp, h1p⟩ := (ha.fr.opd (df := df) hy).cells hp
  obtain ⟨g1, i1, e1, r1⟩ := nilbs_ok nb _ _ _ _ g _ hnb ha.inv hrp
  obtain ⟨_, hp'len, _⟩ := nilbs_keep nb _ _ _ _ hnb
  have hpl : ((Act.mk tmps df).eval y).cells.toList.length = sz := by rw [← r1.length, hp'len]; exact hlen.1
  have hpl' : ((Act.mk tmps df).eval y).cells.size = sz := by simpa using hpl
  have hcl : ca.size = cv.length := by have := hrl.length; simpa using this.symm
  obtain ⟨w', c', hrun, hb', hs', hc', hother, hsize, ho1, ho2, ho3⟩ := run_storeVar (P := P) (t := t) (w := w) (b := B v) (o := off) (v := (Act.mk tmps df).eval y) hsz (by simpa using hpl) h1p hheap (by omega)
  have hob1 := hob.ev e1
  have hcv : (Act.mk tmps df).eval (.tmp x) = .pointer (some ⟨B v, off, none⟩) := hpx
  have hrunO : (execOp (Act.mk tmps df).eval o).run P w = .ok .skip w' := by
    simp [execOp, hop, Instr.storeAt, hcv, Instr.sureAddr, hrun]
  have hoth : ∀ b', b' ≠ B v → w'.heap[b']? = w.heap[b']? := hother
  have i2 : Inv CR base g1 σ' w' := i1.foreign (fun b' hb'' hk => hoth b' fun hh => by
    subst hh
    rcases hk with hk | ⟨o2, v2, hk⟩
    · exact hob1.free hk
    · rw [hob1.noimm] at hk; cases hk) (by omega)
  have hwrite : RelL g1 (cv.take off ++ p' ++ cv.drop (off + sz)) c'.toList ∧ ∀ z ∈ c'.toList, z.oneCell' = true := by
    have hrow := row_write (c := ca) (c' := c') (bo := 0) (off := off) (vs := ca.toList) (ps := ((Act.mk tmps df).eval y).cells.toList) (fun j z hz => ⟨by simpa using hz, h1c z (List.mem_of_getElem? hz)⟩) h1p (by simp; omega)
      (by rw [hpl]; simpa using hc')
    rw [hpl] at hrow
    have hrel := (((hrl.mono e1.le).take off).append r1).append ((hrl.mono e1.le).drop (off + sz))
    have heq : c'.toList = ca.toList.take off ++ ((Act.mk tmps df).eval y).cells.toList ++ ca.toList.drop (off + sz) := by
      have hll : (ca.toList.take off ++ ((Act.mk tmps df).eval y).cells.toList ++ ca.toList.drop (off + sz)).length = c'.toList.length := by
        simp only [List.length_append, hpl, List.length_take, List.length_drop, Array.length_toList, hs']; omega
      apply List.ext_getElem? 
      intro j
      by_cases hj : j < c'.toList.length
      · have hj2 := hj
        rw [← hll] at hj2
        have := (hrow j _ (List.getElem?_eq_getElem hj2)).1
        rw [List.getElem?_eq_getElem hj2]
        simpa using this
      · rw [List.getElem?_eq_none (by omega), List.getElem?_eq_none (by omega)]
    rw [heq]
    refine ⟨hrel, fun z hz => ?_⟩
    simp only [List.mem_append] at hz
    rcases hz with (hz | hz) | hz
    · exact h1c z (List.mem_of_mem_take hz)
    · exact h1p z hz
    · exact h1c z (List.mem_of_mem_drop hz)
  have hob2 : OwnB w0.heap.size g1 w' (B v) (cv.take off ++ p' ++ cv.drop (off + sz)) := ⟨hob1.lo, hob1.free, hob1.noimm, c', el, hb', hwrite.1, hwrite.2⟩
  have hsteps := step_value (P := P) (b := b) (a := ⟨tmps, df⟩) (k := k) (cs := cs) (rest := rest) ho hw hd hrunO rfl
  rw [hdst] at hsteps
  have hgo := nilbs_goes _ _ _ _ _ hnb
  refine ⟨g1, w', B, ⟨tmps, df⟩, .one hsteps, ⟨?_, ?_, i2, hgo.low ha.low, by rw [hgo.len]; exact ha.pos, ha.size, ?_, round_mono ha.round e1.le⟩, e1.le, hgo⟩
  · exact (ha.fr.ev e1).setOwn hgv hob2 fun b' _ hne => hoth b' hne
  · have h0 := ha.ev.trans e1
    refine ⟨h0.le, ho1.trans h0.os, ho2.trans h0.tape, ho3.trans h0.output, by have := h0.size; omega, fun b' hb'' hnb' => ?_, h0.img, h0.immN⟩
    rw [hoth b' (by have := hob.lo; omega)]
    exact h0.kept b' hb'' hnb'
  · obtain ⟨rs, hm⟩ := ha.marks
    have hm1 := hm.ev e1
    refine ⟨rs, hm1.eq, hm1.nodup, fun r hr => ?_⟩
    have hmr := hm1.all r hr
    refine ⟨hmr.lo, hmr.free, hmr.noimm, ?_⟩
    rw [hoth r, hmr.blk]
    intro hh; subst hh
    have := hmr.blk
    rw [hheap] at this; cases this

def KEq (P : Program) (ann : Ann) (o : Oper) (kk : K) : Prop :=
    match kk with
    | .call _ F Xs => ∃ f args ts, o.op = .call { callee := .value f, args, argTypes := ts } ∧ opdC f = some F ∧ opdsC args.toList = some Xs
    | .alcv _ z => ∃ el v, o.op = .alloc el ∧ zeroC P el = some z ∧ o.dst = some v ∧ v ∈ ann.ownv
    | .boxv X => ∃ t x v, o.op = .box t x ∧ opdC x = some X ∧ o.dst = some v ∧ v ∈ ann.ownv
    | .stv _ _ sz x Y => ∃ t y, o.op = .store t (.tmp x) y ∧ opdC y = some Y ∧ sizeC P t = some sz
    | .pan X => ∃ y, o.op = .panic y ∧ opdC y = some X
    | .rcv => ∃ args ts, o.op = .call { callee := .builtin .recover, args, argTypes := ts }
    | _ => True

theorem leafEq {X Y : Opd} {t : TypeId} {bo : BinOp} {kk : K} {o : Oper} (hk : eqC P bo t X Y = some kk) : KEq P ann o kk := by
  unfold eqC at hk
  split at hk
  case h_2 => cases hk
  split at hk
  · cases hk
  split at hk
  · obtain ⟨ag, hag, rfl⟩ := Option.map_eq_some_iff.1 hk
    trivial
  · obtain ⟨ag, hag, rfl⟩ := Option.map_eq_some_iff.1 hk
    trivial
  · cases hk

theorem kC_eq {kk : K} {key : Nat} {o : Oper} (hk : kC P ann ops key o = some kk) : KEq P ann o kk := by
  unfold kC at hk
  split at hk
  · rename_i x ho
    obtain ⟨X, hX, rfl⟩ := Option.map_eq_some_iff.1 hk
    trivial
  · rename_i x ho
    split at hk
    · rename_i hnil _ _
      split at hk
      · obtain ⟨X, hX, rfl⟩ := Option.map_eq_some_iff.1 hk
        trivial
      · obtain ⟨X, hX, rfl⟩ := Option.map_eq_some_iff.1 hk
        trivial
    · obtain ⟨X, hX, rfl⟩ := Option.map_eq_some_iff.1 hk
      trivial
  · rename_i c x y ho
    split at hk
    · rename_i c' x' y' h1 h2 h3
      cases hk
      trivial
    · cases hk
  · rename_i el ho
    split at hk
    · rename_i z d0 hz hd0
      split at hk
      · split at hk
        case h_2 => cases hk
        split at hk
        case h_2 => cases hk
        split at hk
        case h_2 => cases hk
        cases hk
        trivial
      cases hk
      split
      · rename_i hc; exact ⟨el, d0, ho, hz, hd0, by simpa using hc⟩
      · trivial
    · cases hk
  · rename_i t x ho
    split at hk
    · rename_i x' d0 hx hd0
      cases hk
      by_cases hc : ann.ownv.contains d0 = true
      · simp only [hc, if_true]; exact ⟨t, x, d0, ho, hx, hd0, by simpa using hc⟩
      · rw [if_neg hc]
        split
        · split <;> trivial
        · trivial
    · cases hk
  · rename_i t ps ho
    split at hk
    · rename_i fs z ht hz
      split at hk
      · rename_i hall
        obtain ⟨parts, hp, rfl⟩ := Option.map_eq_some_iff.1 hk
        trivial
      · cases hk
    · rename_i n el z ht hz
      split at hk
      · rename_i wd hw
        obtain ⟨parts, hp, rfl⟩ := Option.map_eq_some_iff.1 hk
        trivial
      · cases hk
    · cases hk
  · rename_i t n ps ho
    split at hk
    · rename_i el ht
      split at hk
      · rename_i wd z d0 hw hz _
        split at hk
        · rename_i hc
          obtain ⟨parts, hp, rfl⟩ := Option.map_eq_some_iff.1 hk
          dsimp only
          split
          · trivial
          split <;> trivial
        · cases hk
      · cases hk
    · cases hk
  · rename_i t x ho
    split at hk
    · rename_i ag sz n hag hsz hx
      split at hk
      · rename_i hc
        simp only [Bool.and_eq_true, decide_eq_true_eq] at hc
        cases hk
        have hxe : x = .tmp n := by
          cases x <;> simp only [opdC, Option.some.injEq, Opd.t.injEq, reduceCtorEq, Option.map_eq_some_iff, and_false, exists_false] at hx
          rw [hx]
        split
        · trivial
        · split
          · trivial
          · split <;> trivial
      · cases hk
    · cases hk
  · rename_i t x y ho
    split at hk
    · rename_i sz n y' hsz hx hy
      cases hk
      have hxe : x = .tmp n := by
        cases x <;> simp only [opdC, Option.some.injEq, Opd.t.injEq, reduceCtorEq, Option.map_eq_some_iff, and_false, exists_false] at hx
        rw [hx]
      by_cases hc : ann.ownv.contains (rootC ops 8 n) = true
      · simp only [hc, if_true]; exact ⟨t, y, by rw [ho, hxe], hy, hsz⟩
      · rw [if_neg hc]; split <;> trivial
    · cases hk
  · rename_i b t x y u ho
    split at hk
    · rename_i hx hy
      cases hk
      trivial
    · rename_i hx hy
      exact leafEq hk
    · rename_i hx hy
      exact leafEq hk
    · rename_i hx hy
      exact leafEq hk
    · rename_i ht hx hy
      split at hk <;> cases hk <;> trivial
    · rename_i ht hx hy
      unfold isC at hk
      split at hk <;> cases hk <;> trivial
    · rename_i ht hx hy
      split at hk
      · split at hk <;> cases hk <;> trivial
      · cases hk
    · rename_i ht hx hy
      unfold isC at hk
      split at hk <;> cases hk <;> trivial
    · rename_i ht hx hy
      split at hk <;> cases hk <;> trivial
    · cases hk
  · rename_i x ho
    obtain ⟨X, hX, rfl⟩ := Option.map_eq_some_iff.1 hk
    trivial
  · rename_i b t x ho
    obtain ⟨X, hX, rfl⟩ := Option.map_eq_some_iff.1 hk
    trivial
  · rename_i s t x ho
    split at hk
    · rename_i hs ht hx
      cases hk
      trivial
    · split at hk <;> cases hk <;> trivial
    · split at hk <;> cases hk <;> trivial
    · split at hk
      · split at hk <;> cases hk <;> trivial
      · cases hk
    · cases hk
  · rename_i t x ho
    split at hk
    · obtain ⟨X, hX, rfl⟩ := Option.map_eq_some_iff.1 hk
      trivial
    · cases hk
  · rename_i f xs ys ho
    split at hk
    · rename_i hx hy
      cases hk
      trivial
    · cases hk
  · rename_i t x y ho
    split at hk
    · rename_i el ht
      split at hk
      · rename_i hw hb hz hx hy
        split at hk
        · rename_i hc
          cases hk
          trivial
        · cases hk
      · cases hk
    · cases hk
  · rename_i t x lo hh mx ho
    split at hk
    · rename_i ht hx hlo hhi hmx
      obtain ⟨wd, hw, rfl⟩ := Option.map_eq_some_iff.1 hk
      trivial
    · rename_i ht hx hlo hhi hmx
      obtain ⟨wd, hw, rfl⟩ := Option.map_eq_some_iff.1 hk
      have hm : mx = none := by
        cases mx with
        | none => rfl
        | some m => simp [optC, Option.map_eq_some_iff] at hmx
      subst hm
      trivial
    · rename_i ht hx hlo hhi hmx
      cases hk
      trivial
    · cases hk
  · rename_i s x i ho
    split at hk
    · rename_i fs x' hs hx
      split at hk
      · rename_i off sz hfc
        split at hk
        · rename_i hpos
          cases hk
          trivial
        · cases hk
      · cases hk
    · cases hk
  · rename_i s x i ho
    split at hk
    · rename_i fs x' hs hx
      split at hk
      · rename_i f hfi
        split at hk
        · rename_i hag hsz
          split at hk
          · cases hk
            trivial
          · cases hk
        · cases hk
      · cases hk
    · cases hk
  · rename_i t x y ho
    split at hk
    · rename_i ht hx hy
      obtain ⟨wd, hw, rfl⟩ := Option.map_eq_some_iff.1 hk
      trivial
    · rename_i ht hx hy
      obtain ⟨wd, hw, rfl⟩ := Option.map_eq_some_iff.1 hk
      trivial
    · cases hk
  · rename_i t x y ho
    split at hk
    · rename_i ht hx hy
      split at hk
      · rename_i hag hsz
        split at hk
        · cases hk
          trivial
        · cases hk
      · cases hk
    · rename_i ht hx hy
      cases hk
      trivial
    · cases hk
  · rename_i x i ho
    obtain ⟨X, hX, rfl⟩ := Option.map_eq_some_iff.1 hk
    trivial
  · rename_i c ho
    obtain ⟨callee, args, ts⟩ := c
    dsimp only at hk
    split at hk
    · rename_i f
      split at hk
      · rename_i hf hx
        cases hk
        exact ⟨f, args, ts, ho, hf, hx⟩
      · cases hk
    · split at hk
      · rename_i t tr x r hts ha
        split at hk
        · rename_i ht hx
          cases hk
          trivial
        · rename_i ht hx
          cases hk
          trivial
        · rename_i ht hx
          cases hk
          trivial
        · rename_i ht
          cases hk
          trivial
        · rename_i ht
          split at hk
          · rename_i hr
            cases hk
            trivial
          · cases hk
        · cases hk
      · cases hk
    · cases hk
      exact ⟨_, _, ho⟩
    · split at hk
      · rename_i ha
        split at hk
        · rename_i hx hy
          cases hk
          trivial
        · cases hk
      · cases hk
    · split at hk
      · rename_i ha
        split at hk
        · rename_i hx hy
          cases hk
          trivial
        · cases hk
      · cases hk
    · split at hk
      · rename_i t u x y hts ha
        split at hk
        · rename_i ht hu hx hy
          split at hk
          case isFalse => cases hk
          split at hk
          · rename_i hw hb hz
            split at hk
            · rename_i hc
              cases hk
              split
              · trivial
              · split
                · trivial
                · split
                  · trivial
                  · split <;> trivial
            · cases hk
          · cases hk
        · cases hk
      · cases hk
    · cases hk
  · rename_i t x ho
    split at hk
    · obtain ⟨X, hX, rfl⟩ := Option.map_eq_some_iff.1 hk
      trivial
    · cases hk
  · rename_i x xt t ok ho
    split at hk
    · cases hk
    · split at hk
      · obtain ⟨z, hz, rfl⟩ := Option.map_eq_some_iff.1 hk
        trivial
      · cases hk
        trivial
    · cases hk
  · rename_i x ho
    obtain ⟨X, hX, rfl⟩ := Option.map_eq_some_iff.1 hk
    exact ⟨x, ho, hX⟩
  · rename_i t ho
    cases hk
    trivial
  · split at hk <;> cases hk <;> trivial
  · rename_i t x ho
    split at hk
    · rename_i ht hx
      cases hk
      trivial
    · cases hk
  · rename_i x ho
    split at hk
    · rename_i hx
      cases hk
      trivial
    · cases hk
  · rename_i t x y ok ho
    split at hk
    · split at hk
      · cases hk
        trivial
      · cases hk
    · cases hk
  · rename_i t m x y ho
    split at hk
    · split at hk
      · cases hk
        trivial
      · cases hk
    · cases hk
  · rename_i t m x y ho
    split at hk
    · split at hk
      · cases hk
        trivial
      · cases hk
    · cases hk
  · cases hk

theorem sop_makes {kk : K} (h : kk.makes = true) : sop e σ kk = none := by
  cases kk <;> simp [K.makes] at h <;> rfl

theorem aop_ok (hO : OrOk P CR O) (ha : At CR base ann.ownv g0 w0 n b g w B e σ a) {o : Oper} (ho : ops[i]? = some o) (hw : Region.wanted o (yielded ops a.tmps) = true)
    {ntr : Bool} {op : Op} (hop : opC P ann n reg ops ntr i o = some op) (h : aop O op e σ = some (e', σ')) :
    Next1 P CR ann n ops base g0 w0 b g w a k cs i rest σ e' σ' := by
  unfold opC at hop
  split at hop
  case h_2 => cases hop
  rename_i kk hk
  split at hop
  case h_2 => cases hop
  rename_i gd hgd hdn
  simp only [Option.ite_none_right_eq_some, Bool.and_eq_true] at hop
  obtain ⟨⟨hown, hst⟩, hop⟩ := hop
  cases hop
  have hn : ∀ t, o.dst = some t → t < n := by
    intro t ht; rw [ht] at hdn; simpa using hdn
  have hV : kk.makes = false → ∀ t, o.dst = some t → t ∉ ann.ownv := by
    intro hm t ht
    rw [ht] at hown
    simp [hm] at hown
    simpa using hown
  have hd := kC_defer hk
  have hkeq := kC_eq hk
  unfold aop at h
  dsimp only at h
  split at h
  · -- a call
    rename_i kp F Xs
    split at h
    case h_2 => cases h
    rename_i d σ1 hc
    split at h
    case isFalse => cases h
    cases h
    obtain ⟨f, args, ts, h1, h2, h3⟩ := hkeq
    exact call_ok hO ha ho hw hn (hV rfl) h1 h2 h3 hc
  · -- a variable
    rename_i nb z
    obtain ⟨el, v, h1, h2, h3, h4⟩ := hkeq
    rw [h3] at h
    cases hnb : nilbs nb z σ with
    | none => simp [hnb] at h
    | some x =>
      obtain ⟨cs', σ1⟩ := x
      simp only [hnb, Option.some.injEq, Prod.mk.injEq] at h
      obtain ⟨rfl, rfl⟩ := h
      obtain ⟨i0, vz, hinfo, hzero, hrz, h1z⟩ := zeroC_rel g h2
      obtain ⟨g1, i1, e1, r1⟩ := nilbs_ok nb _ _ _ _ g _ hnb ha.inv hrz
      exact own_ok (el := el) ha ho hw hd h3 h4 (hn _ h3) (by simp [execOp, h1, run_alloc hinfo hzero]) i1 e1 (nilbs_goes _ _ _ _ _ hnb) r1 h1z
  · -- a variable with its value
    rename_i X
    obtain ⟨t, x, v, h1, h2, h3, h4⟩ := hkeq
    rw [h3] at h
    cases hcx : (opd e X).cells with
    | none => simp [hcx] at h
    | some cs' =>
      simp only [hcx, Option.some.injEq, Prod.mk.injEq] at h
      obtain ⟨rfl, rfl⟩ := h
      obtain ⟨tmps, df⟩ := a
      obtain ⟨hr, h1z⟩ := (ha.fr.opd (df := df) h2).cells hcx
      exact own_ok (el := t) ha ho hw hd h3 h4 (hn _ h3) (by simp [execOp, h1, Instr.box, newVar, newRow]) ha.inv (Ev.refl g w) (.refl σ) hr h1z
  · -- a variable is written
    rename_i v nb sz x X
    obtain ⟨t, y, h1, h2, h3⟩ := hkeq
    have hdst : o.dst = none := by simpa [K.stvs] using hst
    split at h
    case h_2 => cases h
    rename_i s cv off p hin hp
    split at h
    case isFalse => cases h
    rename_i hlen
    split at h
    case h_2 => cases h
    rename_i p' σ1 hnb
    cases h
    exact stv_ok ha ho hw hn (hV rfl) h1 h2 h3 hin hp hlen hnb hdst
  · -- any other
    rename_i k1 h1 h2 h3 h4
    cases hs : sop e σ kk with
    | none => simp [hs] at h
    | some x =>
      obtain ⟨d, σ1⟩ := x
      simp only [hs, Option.map_some, Option.some.injEq, Prod.mk.injEq] at h
      obtain ⟨rfl, rfl⟩ := h
      have hm : kk.makes = false := by
        cases hm : kk.makes
        · rfl
        · rw [sop_makes hm] at hs; cases hs
      obtain ⟨tmps, df⟩ := a
      obtain ⟨x, c, g', w', hrun, hx, he, hi, hr⟩ := sop_ok (df := df) ha.fr ha.inv hk hs
      exact next_value ha ho hn (hV hm) (.one (step_value ho hw hd hrun hx)) he hi (sop_goes hs) hr

inductive All2 {α β : Type} (R : α → β → Prop) : List α → List β → Prop
  | nil : All2 R [] []
  | cons {x : α} {y : β} {xs : List α} {ys : List β} : R x y → All2 R xs ys → All2 R (x :: xs) (y :: ys)

def OpAt (P : Program) (ann : Ann) (n reg : Nat) (ops : Array Oper) (i : Nat) (x : Op) : Prop := ∃ o ntr, ops[i]? = some o ∧ opC P ann n reg ops ntr i o = some x

theorem opC_inv {ntr : Bool} {o : Oper} {op : Op} (h : opC P ann n reg ops ntr i o = some op) :
    op.dst = o.dst ∧ (∀ t, o.dst = some t → t < n) ∧ ((o.guard = none ∧ op.grd = none) ∨ ∃ j d bb, o.guard = some (j, bb) ∧ op.grd = some (d, bb) ∧ (ops[j]?).bind (·.dst) = some d ∧ (∀ t, o.dst = some t → t ∉ ann.ownv)) := by
  unfold opC at h
  split at h
  case h_2 => cases h
  rename_i kk hk
  split at h
  case h_2 => cases h
  rename_i gd hgd hdn
  simp only [Option.ite_none_right_eq_some, Bool.and_eq_true] at h
  obtain ⟨⟨hown, hst⟩, h⟩ := h
  cases h
  refine ⟨rfl, fun t ht => by rw [ht] at hdn; simpa using hdn, ?_⟩
  cases hg : o.guard with
  | none => rw [hg] at hgd; cases hgd; exact .inl ⟨rfl, rfl⟩
  | some x =>
    obtain ⟨j, bb⟩ := x
    rw [hg] at hgd
    dsimp only at hgd
    cases hj : (ops[j]?).bind (·.dst) with
    | none => rw [hj] at hgd; cases hgd
    | some d =>
      rw [hj] at hgd; cases hgd
      refine .inr ⟨j, d, bb, rfl, rfl, hj, fun t ht => ?_⟩
      rw [ht, hg] at hown
      simpa using hown

theorem ops_okR (hO : OrOk P CR O) {tl : List Nat} : ∀ (is : List Nat) (xs : List Op) (e : Env) (σ : Stack) (g : G) (w : World) (B : Nat → Nat) (a : Act), All2 (OpAt P ann n reg ops) is xs →
    aops O xs e σ = some (e', σ') → At CR base ann.ownv g0 w0 n b g w B e σ a →
    ∃ g' w' B' a', Steps P (lone (b.atR a (.inRegion ops (is ++ tl) :: k)) cs w) (lone (b.atR a' (.inRegion ops tl :: k)) cs w') ∧ At CR base ann.ownv g0 w0 n b g' w' B' e' σ' a' ∧ g.le g' ∧ Goes σ σ'
  | [], xs, e, σ, g, w, B, a, hF, h, ha => by
    cases hF
    simp only [aops, Option.some.injEq, Prod.mk.injEq] at h
    obtain ⟨rfl, rfl⟩ := h
    exact ⟨g, w, B, a, .refl _ _, ha, g.le_refl, .refl σ⟩
  | i :: is, xs, e, σ, g, w, B, a, hF, h, ha => by
    cases hF with
    | cons hx hF =>
      rename_i x xs
      obtain ⟨o, ntr, ho, hop⟩ := hx
      obtain ⟨hdst, hn, hgrd⟩ := opC_inv hop
      simp only [aops] at h
      have hgo : ∀ {e1 σ1 g1 w1 B1 a1}, Steps P (lone (b.atR a (.inRegion ops (i :: is ++ tl) :: k)) cs w) (lone (b.atR a1 (.inRegion ops (is ++ tl) :: k)) cs w1) →
          At CR base ann.ownv g0 w0 n b g1 w1 B1 e1 σ1 a1 → g.le g1 → Goes σ σ1 → aops O xs e1 σ1 = some (e', σ') →
          ∃ g' w' B' a', Steps P (lone (b.atR a (.inRegion ops (i :: is ++ tl) :: k)) cs w) (lone (b.atR a' (.inRegion ops tl :: k)) cs w') ∧ At CR base ann.ownv g0 w0 n b g' w' B' e' σ' a' ∧ g.le g' ∧ Goes σ σ' := by
        intro e1 σ1 g1 w1 B1 a1 h1 h2 h3 h4 h5
        obtain ⟨g2, w2, B2, a2, k1, k2, k3, k4⟩ := ops_okR hO is xs _ _ _ _ _ _ hF h5 h2
        exact ⟨g2, w2, B2, a2, h1.trans k1, k2, h3.trans' k3, h4.trans k4⟩
      rcases hgrd with ⟨hg1, hg2⟩ | ⟨j, d, bb, hg1, hg2, hj, hV⟩
      · rw [hg2] at h
        simp only [Option.bind_eq_some_iff, Prod.exists] at h
        obtain ⟨e1, σ1, h1, h2⟩ := h
        obtain ⟨g1, w1, B1, a1, k1, k2, k3, k4⟩ := aop_ok (k := k) (cs := cs) (rest := is ++ tl) hO ha ho (by simp [Region.wanted, hg1]) hop h1
        exact hgo k1 k2 k3 k4 h2
      · rw [hg2] at h
        dsimp only at h
        split at h
        case h_2 => cases h
        rename_i bv hbv
        have hy : yielded ops a.tmps j = bv := by
          have hrel := ha.fr.rel d
          unfold yielded
          rw [hj]
          simp only [Option.bind_some]
          cases hg : get e d with
          | bool b =>
            rw [hg] at hrel hbv
            have hrel' : RelV g (.bool b) (a.tmps.getD d Go.undef) := hrel
            have hval := hrel'.bool_inv
            simp only [D.bit, Option.some.injEq] at hbv
            subst hbv
            rw [Array.getD_eq_getD_getElem?] at hval
            cases hd : a.tmps[d]? with
            | none => rw [hd] at hval; simp [Go.undef] at hval
            | some y => rw [hd] at hval; simp at hval; subst hval; rfl
          | tup ds =>
            cases ds with
            | nil =>
              rw [hg] at hrel hbv
              have hrel' : RelV g (.tup []) (a.tmps.getD d Go.undef) := hrel
              have hval : a.tmps.getD d Go.undef = .tuple #[] := by
                generalize a.tmps.getD d Go.undef = z at hrel'
                cases hrel' with | tup _ cs hl =>
                  cases cs with | mk cs => cases cs with
                    | nil => rfl
                    | cons c cs => cases hl
              simp only [D.bit, Option.some.injEq] at hbv
              subst hbv
              rw [Array.getD_eq_getD_getElem?] at hval
              cases hd : a.tmps[d]? with
              | none => rfl
              | some y => rw [hd] at hval; simp at hval; subst hval; rfl
            | cons x xs => rw [hg] at hbv; simp [D.bit] at hbv
          | _ => rw [hg] at hbv; simp [D.bit] at hbv
        split at h
        · rename_i hb
          simp only [Option.bind_eq_some_iff, Prod.exists] at h
          obtain ⟨e1, σ1, h1, h2⟩ := h
          obtain ⟨g1, w1, B1, a1, k1, k2, k3, k4⟩ := aop_ok (k := k) (cs := cs) (rest := is ++ tl) hO ha ho (by simp [Region.wanted, hg1, hy, hb]) hop h1
          exact hgo k1 k2 k3 k4 h2
        · rename_i hb
          have hstep := stepR_op_skip (P := P) (b := b) (a := a) (k := k) (cs := cs) (w := w) (ops := ops) (i := i) (rest := is ++ tl) (by simp [ho, Region.wanted, hg1, hy, hb])
          rw [show (ops[i]?).bind (·.dst) = o.dst from by rw [ho]; rfl] at hstep
          obtain ⟨g1, w1, B1, a1, k1, k2, k3, k4⟩ := next_value (d := .tup []) ha ho hn hV (.one hstep) (Ev.refl g w) ha.inv (.refl σ) (RelT.of (.tup [] #[] .nil))
          rw [hdst] at h
          exact hgo k1 k2 k3 k4 h

theorem ops_ok (hO : OrOk P CR O) (is : List Nat) (xs : List Op) (e : Env) (σ : Stack) (g : G) (w : World) (B : Nat → Nat) (a : Act) (hF : All2 (OpAt P ann n reg ops) is xs)
    (h : aops O xs e σ = some (e', σ')) (ha : At CR base ann.ownv g0 w0 n b g w B e σ a) :
    ∃ g' w' B' a', Steps P (lone (b.atR a (.inRegion ops is :: k)) cs w) (lone (b.atR a' (.inRegion ops [] :: k)) cs w') ∧ At CR base ann.ownv g0 w0 n b g' w' B' e' σ' a' ∧ g.le g' ∧ Goes σ σ' := by
  have := ops_okR (k := k) (cs := cs) (tl := []) hO is xs e σ g w B a hF h ha
  simpa using this

theorem callr_inv {O : Oracle} {fv : D} {args : List D} {r : R} (h : callr O fv args σ = some r) : ∃ f first cap, fv = .fn f first cap ∧ O (.call false f (first ++ args ++ cap) σ) = some r := by
  unfold callr at h
  split at h
  · exact ⟨_, _, _, rfl, h⟩
  · cases h

theorem opC_k {ntr : Bool} {o : Oper} {op : Op} (h : opC P ann n reg ops ntr i o = some op) : kC P ann ops (reg * 1000 + i) o = some op.k ∧ (op.k.makes = false → ∀ t, o.dst = some t → t ∉ ann.ownv) := by
  unfold opC at h
  split at h
  case h_2 => cases h
  rename_i kk hk
  split at h
  case h_2 => cases h
  simp only [Option.ite_none_right_eq_some, Bool.and_eq_true] at h
  obtain ⟨⟨hown, hst⟩, h⟩ := h
  cases h
  refine ⟨hk, fun hm t ht => ?_⟩
  dsimp only at hm
  rw [ht] at hown
  simp [hm] at hown
  simpa using hown

theorem step_panic {o : Oper} {v : Value} {w' : World} {is : List Nat} (ho : ops[i]? = some o) (hw : Region.wanted o (yielded ops a.tmps) = true) (hd : ∀ c, o.op ≠ .defer c)
    (hr : (execOp a.eval o).run P w = .halt (.panic v) w') :
    step P (lone (b.atR a (.inRegion ops (i :: is) :: k)) cs w) = .next (lone { b.atR a (.inRegion ops (i :: is) :: k) with mode := .panicking [{ v, recovered := false }] } cs w') := by
  have hg := stepGR_op (P := P) (b := b) (k := k) (cs := cs) (w := w) (rest := is) ho hw
  rw [Oper.semAt_eq _ _ _ hd] at hg
  exact step_lone_go (by rw [hg, ← Frame.raise_atR]; simp [stepG.apply, hr])

end
end Go.Abs

/-
  Operations whose order is of no matter: what one reads and writes; two that do not clash change places.
-/
set_option linter.unusedVariables false
set_option linter.unusedSimpArgs false
namespace Go.Abs
open Go

def Agree (ts : List Nat) (e e' : Env) : Prop := ∀ t ∈ ts, get e' t = get e t

theorem Agree.mono {ts us : List Nat} {e e' : Env} (h : Agree us e e') (hs : ∀ t ∈ ts, t ∈ us) : Agree ts e e' := fun t ht => h t (hs t ht)
theorem Agree.app {ts us : List Nat} {e e' : Env} : Agree (ts ++ us) e e' ↔ Agree ts e e' ∧ Agree us e e' :=
  ⟨fun h => ⟨fun t ht => h t (by simp [ht]), fun t ht => h t (by simp [ht])⟩, fun h t ht => (List.mem_append.1 ht).elim (h.1 t) (h.2 t)⟩
theorem Agree.cons {t : Nat} {us : List Nat} {e e' : Env} : Agree (t :: us) e e' ↔ get e' t = get e t ∧ Agree us e e' :=
  ⟨fun h => ⟨h t (by simp), fun u hu => h u (by simp [hu])⟩, fun h u hu => (List.mem_cons.1 hu).elim (fun x => x ▸ h.1) (h.2 u)⟩

variable {e e' : Env} {σ σ' : Stack}

theorem opd_agree {x : Opd} (h : Agree x.tmps e e') : opd e' x = opd e x := by
  cases x with
  | t n => simp only [opd]; rw [h n (by simp [Opd.tmps])]
  | c d => rfl

theorem opds_agree {xs : List Opd} (h : Agree (xs.flatMap Opd.tmps) e e') : xs.map (opd e') = xs.map (opd e) := by
  induction xs with
  | nil => rfl
  | cons x xs ih =>
    simp only [List.flatMap_cons, Agree.app] at h
    simp only [List.map_cons, opd_agree h.1, ih h.2]

theorem fillD_agree : ∀ {ps : List (Nat × Nat × Opd)} {cs : List D}, Agree (ps.flatMap fun p => p.2.2.tmps) e e' → fillD e' ps cs = fillD e ps cs
  | [], cs, h => rfl
  | (off, sz, x) :: ps, cs, h => by
    simp only [List.flatMap_cons, Agree.app] at h
    simp only [fillD, opd_agree h.1]
    split
    · split
      · exact fillD_agree h.2
      · rfl
    · rfl

theorem bnd_agree {m : Nat} {dfl : Option Nat} {x : Option Opd} (h : Agree ((x.map Opd.tmps).getD []) e e') : bnd e' m dfl x = bnd e m dfl x := by
  cases x with
  | none => rfl
  | some x => simp only [bnd]; rw [opd_agree (by simpa using h)]

theorem bounds_agree {n : Nat} {lo hi mx : Option Opd} (h1 : Agree ((lo.map Opd.tmps).getD []) e e') (h2 : Agree ((hi.map Opd.tmps).getD []) e e') (h3 : Agree ((mx.map Opd.tmps).getD []) e e') :
    bounds n e' lo hi mx = bounds n e lo hi mx := by
  simp only [bounds, bnd_agree h1, bnd_agree h2, bnd_agree h3]

theorem inVar_agree {v a : Nat} (h1 : get e' v = get e v) (h2 : get e' a = get e a) : inVar e' v a = inVar e v a := by
  simp only [inVar, h1, h2]

theorem sop_agree {k : K} (h : Agree k.tmps e e') : sop e' σ k = sop e σ k := by
  cases k <;> simp only [K.tmps, Agree.app, Agree.cons] at h
  case mv x => simp only [sop, opd_agree h]
  case nilb => rfl
  case pick c a b => simp only [sop, opd_agree h.1.1, opd_agree h.1.2, opd_agree h.2]
  case alc => rfl
  case mki => simp only [sop, opd_agree h]
  case tas => simp only [sop, opd_agree h]
  case isi => simp only [sop, opd_agree h]
  case pan => rfl
  case rcv => rfl
  case alcv => rfl
  case boxi x => simp only [sop, opd_agree h]
  case boxm x => simp only [sop, opd_agree h]
  case bxn nb x => simp only [sop, opd_agree h]
  case boxv => rfl
  case bld => simp only [sop, fillD_agree h]
  case bsi => simp only [sop, fillD_agree h]
  case bsm => simp only [sop, fillD_agree h]
  case ld => simp only [sop, opd_agree h]
  case ldi => simp only [sop, opd_agree h]
  case ld0 => simp only [sop, opd_agree h]
  case isn => simp only [sop, opd_agree h]
  case nck => simp only [sop, opd_agree h]
  case st => simp only [sop, opd_agree h.1, opd_agree h.2]
  case stc os sz a x =>
    have hall : ∀ l i, (os.all fun t => D.off l i (get e' t)) = os.all fun t => D.off l i (get e t) := by
      intro l i
      have h2 := h.2
      clear h
      induction os with
      | nil => rfl
      | cons o os ih => simp only [List.all_cons, h2 o (by simp), ih (h2.mono fun t ht => by simp [ht])]
    simp only [sop, opd_agree h.1.1, opd_agree h.1.2, hall]
  case ldv => simp only [sop, inVar_agree h.1 h.2.1]
  case stv => rfl
  case bin => simp only [sop, opd_agree h.1, opd_agree h.2]
  case eqv => simp only [sop, opd_agree h.1, opd_agree h.2]
  case un => simp only [sop, opd_agree h]
  case cvt => simp only [sop, opd_agree h]
  case mkf => simp only [sop, opds_agree h.1, opds_agree h.2]
  case mks => simp only [sop, opd_agree h.1, opd_agree h.2]
  case slc => simp only [sop, opd_agree h.1.1.1, bounds_agree h.1.1.2 h.1.2 h.2]
  case slca => simp only [sop, opd_agree h.1.1, bounds_agree (mx := none) h.1.2 h.2 (fun t ht => by simp at ht)]
  case fadr off x =>
    cases x with
    | t n => simp only [sop, h n (by simp [Opd.tmps])]
    | c d => rfl
  case fld => simp only [sop, opd_agree h]
  case idxA len w x i =>
    cases x with
    | t n =>
      have h1 := h.1 n (by simp [Opd.tmps])
      simp only [sop, opd_agree h.2]
      cases intD (opd e i) <;> simp only [h1]
    | c d => simp only [sop]
  case idxS => simp only [sop, opd_agree h.1, opd_agree h.2]
  case idxV => simp only [sop, opd_agree h.1, opd_agree h.2]
  case lenS => simp only [sop, opd_agree h]
  case lenC => rfl
  case mn => simp only [sop, opd_agree h.1, opd_agree h.2]
  case mx => simp only [sop, opd_agree h.1, opd_agree h.2]
  case app => simp only [sop, opd_agree h.1, opd_agree h.2]
  case apc os w b s x =>
    have hall : ∀ l i, (os.all fun t => D.off l i (get e' t)) = os.all fun t => D.off l i (get e t) := by
      intro l i
      have h2 := h.2
      clear h
      induction os with
      | nil => rfl
      | cons o os ih => simp only [List.all_cons, h2 o (by simp), ih (h2.mono fun t ht => by simp [ht])]
    simp only [sop, appD, opd_agree h.1.1, opd_agree h.1.2, hall]
  case apz => simp only [sop, appD, opd_agree h.1, opd_agree h.2]
  case cpi => simp only [sop, opd_agree h]
  case cvz => simp only [sop, opd_agree h]
  case bse => rfl
  case ape w b v x => simp only [sop, h.1, opd_agree h.2]
  case ext => simp only [sop, opd_agree h]
  case pur => simp only [sop, opds_agree h]
  case mp => simp only [sop, opds_agree h]
  case me => simp only [sop, opds_agree h]
  case call => rfl

noncomputable def run1 (O : Oracle) (op : Op) (e : Env) (σ : Stack) : Option (Env × Stack) :=
  match op.grd with
  | none => aop O op e σ
  | some (g, want) =>
    match (get e g).bit with
    | some y => if y = some want then aop O op e σ else some (put op.dst (.tup []) e, σ)
    | none => none

theorem aops_cons {O : Oracle} {op : Op} {r : List Op} : aops O (op :: r) e σ = (run1 O op e σ).bind fun x => aops O r x.1 x.2 := by
  simp only [aops, run1]
  cases op.grd with
  | none => rfl
  | some x =>
    obtain ⟨g, want⟩ := x
    dsimp only
    cases (get e g).bit <;> try rfl
    dsimp only
    split <;> rfl

theorem put_app {dst : Option Nat} {d : D} : put dst d e = (dst.toList.map fun t => (t, d)) ++ e := by
  cases dst <;> rfl

theorem aop_local {O : Oracle} {op : Op} {e1 : Env} {σ1 : Stack} (h : aop O op e σ = some (e1, σ1)) :
    ∃ l : List (Nat × D), (∀ p ∈ l, p.1 ∈ op.defs) ∧ ∀ e', Agree (op.uses ++ op.defs) e e' → aop O op e' σ = some (l ++ e', σ1) := by
  obtain ⟨dst, grd, ntr, k⟩ := op
  have hk : ∀ e', Agree (Op.uses ⟨dst, grd, ntr, k⟩ ++ Op.defs ⟨dst, grd, ntr, k⟩) e e' → Agree k.tmps e e' := fun e' ha => ha.mono fun t ht => by simp [Op.uses, ht]
  have hdst : ∀ d : D, ∀ p ∈ dst.toList.map (fun t => (t, d)), p.1 ∈ Op.defs ⟨dst, grd, ntr, k⟩ := by
    intro d p hp
    simp only [List.mem_map] at hp
    obtain ⟨t, ht, rfl⟩ := hp
    simp only [Op.defs, List.mem_append]
    exact .inl ht
  have hplain : (∀ e0, aop O ⟨dst, grd, ntr, k⟩ e0 σ = (sop e0 σ k).map fun x => (put dst x.1 e0, x.2)) →
      ∃ l : List (Nat × D), (∀ p ∈ l, p.1 ∈ Op.defs ⟨dst, grd, ntr, k⟩) ∧ ∀ e', Agree (Op.uses ⟨dst, grd, ntr, k⟩ ++ Op.defs ⟨dst, grd, ntr, k⟩) e e' → aop O ⟨dst, grd, ntr, k⟩ e' σ = some (l ++ e', σ1) := by
    intro hall
    rw [hall] at h
    simp only [Option.map_eq_some_iff, Prod.exists, Prod.mk.injEq] at h
    obtain ⟨d, σ2, hs, rfl, rfl⟩ := h
    refine ⟨dst.toList.map fun t => (t, d), hdst d, fun e' ha => ?_⟩
    rw [hall, sop_agree (hk e' ha), hs]
    simp only [Option.map_some, put_app]
  cases k
  case call kp f args =>
    simp only [aop] at h ⊢
    split at h
    case h_2 => cases h
    rename_i d σ2 hc
    split at h
    case isFalse => cases h
    rename_i hn
    cases h
    refine ⟨dst.toList.map fun t => (t, d), hdst d, fun e' ha => ?_⟩
    have h1 := hk e' ha
    simp only [K.tmps, Agree.app] at h1
    rw [opd_agree h1.1, opds_agree h1.2, hc]
    simp only [if_pos hn, put_app]
  case alcv nb cs =>
    simp only [aop] at h ⊢
    split at h
    case h_2 => cases h
    rename_i v cs' σ2 hnb
    cases h
    refine ⟨[(v, .own (stamp e v) cs')], by simp [Op.defs], fun e' ha => ?_⟩
    rw [show stamp e' v = stamp e v from by simp only [stamp]; rw [ha v (by simp [Op.defs])]]
    rfl
  case boxv x =>
    simp only [aop] at h ⊢
    split at h
    case h_2 => cases h
    rename_i v cs' hc
    cases h
    refine ⟨[(v, .own (stamp e v) cs')], by simp [Op.defs], fun e' ha => ?_⟩
    have h1 := hk e' ha
    simp only [K.tmps] at h1
    rw [opd_agree h1, hc]
    simp only [show stamp e' v = stamp e v from by simp only [stamp]; rw [ha v (by simp [Op.defs])]]
    rfl
  case stv v nb sz a x =>
    simp only [aop] at h ⊢
    split at h
    case h_2 => cases h
    rename_i s cs off p hin hp
    split at h
    case isFalse => cases h
    rename_i hc
    split at h
    case h_2 => cases h
    rename_i p' σ2 hnb
    cases h
    refine ⟨[(v, .own s (cs.take off ++ p' ++ cs.drop (off + sz)))], by simp [Op.defs], fun e' ha => ?_⟩
    have h1 := hk e' ha
    simp only [K.tmps, Agree.app, Agree.cons] at h1
    rw [inVar_agree h1.1.1 h1.1.2.1, opd_agree h1.2, hin, hp]
    simp only [if_pos hc, hnb]
    rfl
  all_goals exact hplain fun e0 => rfl

theorem run1_local {O : Oracle} {op : Op} {e1 : Env} {σ1 : Stack} (h : run1 O op e σ = some (e1, σ1)) :
    ∃ l : List (Nat × D), (∀ p ∈ l, p.1 ∈ op.defs) ∧ ∀ e', Agree (op.uses ++ op.defs) e e' → run1 O op e' σ = some (l ++ e', σ1) := by
  unfold run1 at h ⊢
  cases hg : op.grd with
  | none => rw [hg] at h; simp only at h ⊢; exact aop_local h
  | some x =>
    obtain ⟨t, want⟩ := x
    rw [hg] at h
    simp only at h ⊢
    split at h
    case h_2 => cases h
    rename_i b hb
    have hgt : ∀ e', Agree (op.uses ++ op.defs) e e' → (get e' t).bit = some b := fun e' ha => by rw [ha t (by simp [Op.uses, hg]), hb]
    split at h
    · rename_i hw
      obtain ⟨l, h1, h2⟩ := aop_local h
      refine ⟨l, h1, fun e' ha => ?_⟩
      rw [hgt e' ha]
      simp only [if_pos hw]
      exact h2 e' ha
    · rename_i hw
      cases h
      refine ⟨op.dst.toList.map fun t => (t, .tup []), fun p hp => ?_, fun e' ha => ?_⟩
      · simp only [List.mem_map] at hp
        obtain ⟨t, ht, rfl⟩ := hp
        simp only [Op.defs, List.mem_append]; exact .inl ht
      · rw [hgt e' ha]
        simp only [if_neg hw, put_app]


theorem nilbs_nil {cs cs' : List D} (h : nilbs [] cs σ = some (cs', σ')) : σ' = σ := by
  simp only [nilbs, Option.some.injEq, Prod.mk.injEq] at h; exact h.2.symm

theorem sop_still {d : D} {k : K} (h : sop e σ k = some (d, σ')) (hk : k.calm = true) : σ' = σ := sop_same h hk

theorem aop_still {O : Oracle} {op : Op} {e1 : Env} {σ1 : Stack} (h : aop O op e σ = some (e1, σ1)) (hs : op.still = true) : σ1 = σ := by
  obtain ⟨dst, grd, ntr, k⟩ := op
  simp only [Op.still, Bool.and_eq_true] at hs
  obtain ⟨hk, hn⟩ := hs
  have hplain : (aop O ⟨dst, grd, ntr, k⟩ e σ = (sop e σ k).map fun x => (put dst x.1 e, x.2)) → σ1 = σ := by
    intro hall
    rw [hall] at h
    simp only [Option.map_eq_some_iff, Prod.exists, Prod.mk.injEq] at h
    obtain ⟨d, σ2, hs, rfl, rfl⟩ := h
    exact sop_still hs hk
  cases k
  case call kp f args =>
    simp only [aop] at h
    split at h
    case h_2 => cases h
    split at h
    case isFalse => cases h
    rename_i hx
    cases h
    exact hx hn
  case alcv nb cs =>
    simp only [aop] at h
    split at h
    case h_2 => cases h
    rename_i v cs' σ2 hnb
    cases h
    simp only [K.calm, List.isEmpty_iff] at hk
    subst hk
    exact nilbs_nil hnb
  case boxv x =>
    simp only [aop] at h
    split at h
    case h_2 => cases h
    cases h
    rfl
  case stv v nb sz a x =>
    simp only [aop] at h
    split at h
    case h_2 => cases h
    split at h
    case isFalse => cases h
    split at h
    case h_2 => cases h
    rename_i hnb
    cases h
    simp only [K.calm, List.isEmpty_iff] at hk
    subst hk
    exact nilbs_nil hnb
  all_goals exact hplain rfl

theorem run1_still {O : Oracle} {op : Op} {e1 : Env} {σ1 : Stack} (h : run1 O op e σ = some (e1, σ1)) (hs : op.still = true) : σ1 = σ := by
  unfold run1 at h
  split at h
  · exact aop_still h hs
  · split at h
    case h_2 => cases h
    split at h
    · exact aop_still h hs
    · cases h; rfl

def EqE (e e' : Env) : Prop := ∀ t, get e' t = get e t

theorem EqE.refl (e : Env) : EqE e e := fun _ => rfl
theorem EqE.trans {a b c : Env} (h : EqE a b) (h' : EqE b c) : EqE a c := fun t => (h' t).trans (h t)
theorem EqE.agree (h : EqE e e') (ts : List Nat) : Agree ts e e' := fun t _ => h t

theorem get_app {l : List (Nat × D)} {t : Nat} : get (l ++ e) t = if t ∈ l.map (·.1) then get l t else get e t := by
  induction l with
  | nil => simp
  | cons p l ih =>
    obtain ⟨k, v⟩ := p
    simp only [List.cons_append, get]
    by_cases hk : k = t
    · simp [hk]
    · rw [if_neg hk, ih]
      simp only [List.map_cons, List.mem_cons]
      by_cases ht : t ∈ l.map (·.1)
      · rw [if_pos ht, if_pos (.inr ht)]; rw [if_neg hk]
      · rw [if_neg ht, if_neg (by intro h; rcases h with h | h; exact hk h.symm; exact ht h)]

theorem EqE.app (h : EqE e e') (l : List (Nat × D)) : EqE (l ++ e) (l ++ e') := fun t => by
  simp only [get_app, h t]

theorem aops_eqE {O : Oracle} : ∀ {xs : List Op} {e e' e1 : Env} {σ σ1 : Stack}, aops O xs e σ = some (e1, σ1) → EqE e e' → ∃ e1', aops O xs e' σ = some (e1', σ1) ∧ EqE e1 e1'
  | [], e, e', e1, σ, σ1, h, he => by
    simp only [aops, Option.some.injEq, Prod.mk.injEq] at h
    obtain ⟨rfl, rfl⟩ := h
    exact ⟨e', rfl, he⟩
  | x :: xs, e, e', e1, σ, σ1, h, he => by
    rw [aops_cons] at h
    simp only [Option.bind_eq_some_iff, Prod.exists] at h
    obtain ⟨e2, σ2, h1, h2⟩ := h
    obtain ⟨l, _, hl⟩ := run1_local h1
    have h3 := hl e (EqE.agree (.refl e) _)
    rw [h1] at h3
    cases h3
    obtain ⟨e3, h4, h5⟩ := aops_eqE h2 (he.app l)
    exact ⟨e3, by rw [aops_cons, hl e' (he.agree _)]; exact h4, h5⟩

theorem sop_pure {d : D} {k : K} (h : sop e σ k = some (d, σ')) (hk : k.pure = true) (τ : Stack) : sop e τ k = some (d, τ) := by
  cases k <;> simp only [K.pure, K.calm, Bool.false_eq_true] at hk <;> simp only [sop, Option.bind_eq_bind, reduceCtorEq] at h ⊢ <;> (repeat' split at h) <;>
    simp only [Option.map_eq_some_iff, Option.bind_eq_some_iff, Option.some.injEq, Prod.mk.injEq, Prod.exists, reduceCtorEq, exists_eq_left, and_false, exists_false] at h <;> (try split at h) <;>
    simp_all <;> (try (obtain ⟨_, _, h⟩ := h; simp_all)) <;> (try grind)

theorem aop_pure {O : Oracle} {op : Op} {e1 : Env} {σ1 : Stack} (h : aop O op e σ = some (e1, σ1)) (hs : op.k.pure = true) (τ : Stack) : aop O op e τ = some (e1, τ) := by
  obtain ⟨dst, grd, ntr, k⟩ := op
  have hplain : (∀ τ, aop O ⟨dst, grd, ntr, k⟩ e τ = (sop e τ k).map fun x => (put dst x.1 e, x.2)) → aop O ⟨dst, grd, ntr, k⟩ e τ = some (e1, τ) := by
    intro hall
    rw [hall] at h ⊢
    simp only [Option.map_eq_some_iff, Prod.exists, Prod.mk.injEq] at h
    obtain ⟨d, σ2, hs', rfl, rfl⟩ := h
    rw [sop_pure hs' hs τ]
    rfl
  cases k
  case call kp f args => simp [K.pure] at hs
  case alcv nb cs =>
    simp only [K.pure, K.calm, List.isEmpty_iff] at hs
    subst hs
    simp only [aop] at h ⊢
    cases dst with
    | none => cases h
    | some v => simp only [nilbs, Option.some.injEq, Prod.mk.injEq] at h ⊢; exact ⟨h.1, trivial⟩
  case boxv x =>
    simp only [aop] at h ⊢
    cases dst with
    | none => cases h
    | some v =>
      cases hx : (opd e x).cells with
      | none => rw [hx] at h; cases h
      | some cs => rw [hx] at h; simp only [Option.some.injEq, Prod.mk.injEq] at h ⊢; exact ⟨h.1, trivial⟩
  case stv v nb sz a x =>
    simp only [K.pure, K.calm, List.isEmpty_iff] at hs
    subst hs
    simp only [aop] at h ⊢
    cases hin : inVar e v a <;> rw [hin] at h <;> try (cases h; done)
    cases hx : (opd e x).cells <;> rw [hx] at h <;> try (cases h; done)
    simp only [nilbs] at h ⊢
    split at h
    · rename_i hc
      rw [if_pos hc]
      simp only [Option.some.injEq, Prod.mk.injEq] at h ⊢
      exact ⟨h.1, trivial⟩
    · cases h
  all_goals exact hplain fun τ => rfl

theorem pure_calm {k : K} (h : k.pure = true) : k.calm = true ∧ ∀ kp f xs, k ≠ .call kp f xs := by
  cases k <;> simp_all [K.pure, K.calm]

theorem run1_pure {O : Oracle} {op : Op} {e1 : Env} {σ1 : Stack} (h : run1 O op e σ = some (e1, σ1)) (hs : op.k.pure = true) : ∀ τ, run1 O op e τ = some (e1, τ) := by
  intro τ
  unfold run1 at h ⊢
  cases hg : op.grd with
  | none => rw [hg] at h; exact aop_pure h hs τ
  | some y =>
    obtain ⟨g, want⟩ := y
    rw [hg] at h
    dsimp only at h ⊢
    cases hb : (get e g).bit with
    | none => rw [hb] at h; cases h
    | some b =>
      rw [hb] at h
      dsimp only at h ⊢
      split at h
      · rename_i hw
        rw [if_pos hw]
        exact aop_pure h hs τ
      · rename_i hw
        rw [if_neg hw]
        cases h
        rfl

theorem setSeg_hit {a : List Blk} {σ : Stack} {l : Nat} {s : List Blk} (h : σ.length = l) : setSeg (a :: σ) l s = s :: σ := by simp only [setSeg]; rw [if_pos h]
theorem setSeg_miss {a : List Blk} {σ : Stack} {l : Nat} {s : List Blk} (h : ¬ σ.length = l) : setSeg (a :: σ) l s = a :: setSeg σ l s := by simp only [setSeg]; rw [if_neg h]

theorem setSeg_comm {σ : Stack} {l l' : Nat} {s s' : List Blk} (h : l ≠ l') : setSeg (setSeg σ l s) l' s' = setSeg (setSeg σ l' s') l s := by
  induction σ with
  | nil => rfl
  | cons a σ ih =>
    by_cases h1 : σ.length = l
    · have h2 : ¬ σ.length = l' := by omega
      rw [setSeg_hit h1, setSeg_miss h2, setSeg_miss h2, setSeg_hit (by rw [setSeg_length]; exact h1)]
    · by_cases h2 : σ.length = l'
      · rw [setSeg_miss h1, setSeg_hit h2, setSeg_hit (by rw [setSeg_length]; exact h2), setSeg_miss h1]
      · rw [setSeg_miss h1, setSeg_miss h2, setSeg_miss (by rw [setSeg_length]; exact h2), setSeg_miss (by rw [setSeg_length]; exact h1), ih]

theorem seg?_setSeg_ne {σ : Stack} {l l' : Nat} {s : List Blk} (h : l ≠ l') : seg? (setSeg σ l s) l' = seg? σ l' := by
  induction σ with
  | nil => rfl
  | cons a σ ih =>
    simp only [setSeg]
    by_cases h1 : σ.length = l
    · rw [if_pos h1]; simp only [seg?]; rw [if_neg (by omega), if_neg (by omega)]
    · rw [if_neg h1]; simp only [seg?, setSeg_length, ih]

theorem setSeg_twice {σ : Stack} {l : Nat} {s s' : List Blk} : setSeg (setSeg σ l s) l s' = setSeg σ l s' := by
  induction σ with
  | nil => rfl
  | cons a σ ih =>
    simp only [setSeg]
    by_cases h1 : σ.length = l
    · rw [if_pos h1, if_pos h1]; simp only [setSeg]; rw [if_pos h1]
    · rw [if_neg h1, if_neg h1]; simp only [setSeg, setSeg_length]; rw [if_neg h1, ih]

theorem setBlk_comm {σ : Stack} {l i l' i' : Nat} {b b' : Blk} (h : ¬ (l' = l ∧ i' = i)) : setBlk (setBlk σ l i b) l' i' b' = setBlk (setBlk σ l' i' b') l i b := by
  by_cases hl : l = l'
  · subst hl
    have hi : i ≠ i' := fun e => h ⟨rfl, e.symm⟩
    unfold setBlk
    cases hs : seg? σ l with
    | none => simp [hs]
    | some s =>
      simp only [seg?_setSeg (seg?_lt hs), setSeg_twice]
      rw [List.set_comm _ _ hi]
  · unfold setBlk
    cases hs : seg? σ l with
    | none =>
      cases hs' : seg? σ l' with
      | none => simp [hs, hs']
      | some s' => simp only [seg?_setSeg_ne (Ne.symm hl), hs]
    | some s =>
      cases hs' : seg? σ l' with
      | none => simp only [seg?_setSeg_ne hl, hs', hs]
      | some s' =>
        simp only [seg?_setSeg_ne hl, seg?_setSeg_ne (Ne.symm hl), hs, hs']
        exact setSeg_comm hl

theorem cells?_off {σ : Stack} {l i l' i' v : Nat} {b : Blk} (h : ¬ (l' = l ∧ i' = i)) : cells? (setBlk σ l i b) l' i' v = cells? σ l' i' v := by
  unfold cells?
  rw [blk?_setBlk_other h]

theorem rdD_off {σ : Stack} {l i : Nat} {b : Blk} {d : D} (h : D.off l i d = true) : rdD (setBlk σ l i b) d.strip = rdD σ d.strip := by
  cases d <;> try rfl
  simp only [D.off, decide_eq_true_eq] at h
  simp only [D.strip, rdD, cells?_off h]

theorem run1_ld {O : Oracle} {dst : Option Nat} {n ag : Bool} {sz m : Nat} {e1 : Env} {σ1 : Stack} (h : run1 O ⟨dst, none, n, .ld ag sz (.t m)⟩ e σ = some (e1, σ1)) :
    σ1 = σ ∧ ∀ τ, rdD τ (get e m).strip = rdD σ (get e m).strip → run1 O ⟨dst, none, n, .ld ag sz (.t m)⟩ e τ = some (e1, τ) := by
  have hs := run1_still h
  simp only [run1, aop, sop, opd] at h ⊢
  refine ⟨?_, fun τ hτ => ?_⟩
  · simp only [Option.map_eq_some_iff, Prod.exists, Prod.mk.injEq] at h
    obtain ⟨d, σ2, h, _, rfl⟩ := h
    exact sop_still (k := .ld ag sz (.t m)) (e := e) (d := d) (by simpa only [sop, opd] using h) rfl
  · rw [hτ]
    cases hr : rdD σ (get e m).strip with
    | none => rw [hr] at h; cases h
    | some cs =>
      rw [hr] at h
      dsimp only at h ⊢
      split at h
      · rename_i hsz
        rw [if_pos hsz]
        cases ag with
        | true => simp at h ⊢; exact h.1
        | false =>
          simp only [Bool.false_eq_true, if_false] at h ⊢
          cases cs with
          | nil => cases h
          | cons d ds => simp at h ⊢; exact h.1
      · cases h

theorem run1_stc {O : Oracle} {dst : Option Nat} {n : Bool} {os : List Nat} {sz : Nat} {a x : Opd} {e1 : Env} {σ1 : Stack} (h : run1 O ⟨dst, none, n, .stc os sz a x⟩ e σ = some (e1, σ1)) :
    ∃ l i v off b, opd e a = .ref l i v off ∧ (∀ m ∈ os, D.off l i (get e m) = true) ∧ σ1 = setBlk σ l i b ∧
      ∀ τ, τ.length = σ.length → cells? τ l i v = cells? σ l i v → run1 O ⟨dst, none, n, .stc os sz a x⟩ e τ = some (e1, setBlk τ l i b) := by
  simp only [run1, aop, sop] at h ⊢
  cases ha : opd e a <;> rw [ha] at h <;> try (cases h; done)
  rename_i l i v off
  dsimp only at h ⊢
  split at h
  case isFalse => cases h
  rename_i hall
  cases hc : cells? σ l i v with
  | none => rw [hc] at h; cases h
  | some cs =>
  rw [hc] at h
  dsimp only at h
  cases hp : (opd e x).cells with
  | none => rw [hp] at h; cases h
  | some p =>
  rw [hp] at h
  dsimp only at h
  split at h
  case isFalse => cases h
  rename_i hq
  simp only [Option.map_some, Option.some.injEq, Prod.mk.injEq] at h
  refine ⟨l, i, v, off, .cells v (cs.take off ++ p ++ cs.drop (off + sz)), rfl, fun m hm => List.all_eq_true.1 hall m hm, h.2.symm, fun τ hlen hτ => ?_⟩
  simp only [hall, if_true, hτ, hc, hlen, if_pos hq, Option.map_some, h.1]

theorem run1_apc {O : Oracle} {dst : Option Nat} {n : Bool} {os : List Nat} {w b : Nat} {a x : Opd} {e1 : Env} {σ1 : Stack} (h : run1 O ⟨dst, none, n, .apc os w b a x⟩ e σ = some (e1, σ1)) :
    ∃ l i v cs, (∀ m ∈ os, D.off l i (get e m) = true) ∧ σ1 = setBlk σ l i (.cells (v + 1) cs) := by
  simp only [run1, aop, Option.map_eq_some_iff, Prod.exists, Prod.mk.injEq] at h
  obtain ⟨d, σ2, h, _, rfl⟩ := h
  simp only [sop] at h
  split at h
  case h_2 => cases h
  rename_i l i v off n' w' ha
  split at h
  case isFalse => cases h
  rename_i hall
  simp only [Option.bind_eq_some_iff] at h
  obtain ⟨⟨m, xs⟩, he, h⟩ := h
  dsimp only at h
  split at h
  case isFalse => cases h
  rename_i hcl
  simp only [appD, Option.bind_eq_bind, he, Option.bind_some, ha] at h
  split at h
  case h_2 => cases h
  split at h
  case isFalse => cases h
  refine ⟨l, i, ?_⟩
  split at h
  · cases h
    exact ⟨_, _, fun m hm => List.all_eq_true.1 hall m hm, rfl⟩
  · rw [show deep = 15 + 1 from rfl, frzL_pure hcl] at h
    cases h
    exact ⟨_, _, fun m hm => List.all_eq_true.1 hall m hm, rfl⟩
theorem rd0_rd {σ : Stack} {d : D} {cs : List D} (h : rd0 σ d = some cs) : rdD σ d = some cs := by
  unfold rd0 at h
  split at h
  · exact h
  · cases h
theorem rd0_set {σ : Stack} {l i v : Nat} {cs : List D} {d : D} {c : List D} (h : rd0 (setBlk σ l i (.cells (v + 1) cs)) d = some c) : rd0 σ d = some c := by
  unfold rd0 at h ⊢
  split at h
  case h_2 => cases h
  rename_i l2 i2 off
  simp only [rdD, Option.map_eq_some_iff] at h ⊢
  obtain ⟨a, h1, h2⟩ := h
  refine ⟨a, ?_, h2⟩
  by_cases hh : l2 = l ∧ i2 = i
  · obtain ⟨rfl, rfl⟩ := hh
    unfold cells? at h1
    cases hb : blk? σ l2 i2 with
    | some b0 => rw [blk?_setBlk hb] at h1; simp at h1
    | none =>
      have hn : blk? (setBlk σ l2 i2 (.cells (v + 1) cs)) l2 i2 = none := by
        unfold blk? at hb ⊢
        unfold setBlk
        cases hs : seg? σ l2 with
        | none => simp only [hs]; rfl
        | some s =>
          simp only [hs, Option.bind_some] at hb
          simp only [seg?_setSeg (seg?_lt hs), Option.bind_some]
          rw [List.getElem?_eq_none_iff] at hb ⊢
          simpa using hb
      rw [hn] at h1; cases h1
  · rwa [cells?_off hh] at h1
theorem run1_ld0 {O : Oracle} {dst : Option Nat} {n ag : Bool} {sz m : Nat} {e1 : Env} {σ1 : Stack} (h : run1 O ⟨dst, none, n, .ld0 ag sz (.t m)⟩ e σ = some (e1, σ1)) :
    σ1 = σ ∧ ∃ c, rd0 σ (get e m).strip = some c ∧ ∀ τ, rd0 τ (get e m).strip = some c → run1 O ⟨dst, none, n, .ld0 ag sz (.t m)⟩ e τ = some (e1, τ) := by
  simp only [run1, aop, sop, opd] at h ⊢
  cases hr : rd0 σ (get e m).strip with
  | none => rw [hr] at h; cases h
  | some cs =>
    rw [hr] at h
    dsimp only at h ⊢
    have hs : σ1 = σ := by
      split at h
      · cases ag with
        | true => simp at h; exact h.2.symm
        | false => cases cs <;> simp at h; exact h.2.symm
      · cases h
    refine ⟨hs, cs, rfl, fun τ hτ => ?_⟩
    rw [hτ]
    dsimp only
    split at h
    · rename_i hsz
      rw [if_pos hsz]
      cases ag with
      | true => simp at h ⊢; exact h.1
      | false =>
        simp only [Bool.false_eq_true, if_false] at h ⊢
        cases cs with
        | nil => cases h
        | cons d ds => simp at h ⊢; exact h.1
    · cases h
theorem newBlk_rd {σ σ' : Stack} {b : Blk} {l i : Nat} (h : newBlk σ b = some (l, i, σ')) {d : D} {cs : List D} (hd : rdD σ d = some cs) : rdD σ' d = some cs := by
  cases d <;> try exact hd
  rename_i l' i' v off
  simp only [rdD, Option.map_eq_some_iff] at hd ⊢
  obtain ⟨c, h1, h2⟩ := hd
  refine ⟨c, ?_, h2⟩
  unfold cells? at h1 ⊢
  have hb : ∃ b0, blk? σ l' i' = some b0 := by
    cases hb : blk? σ l' i' with
    | none => rw [hb] at h1; cases h1
    | some b0 => exact ⟨b0, rfl⟩
  obtain ⟨b0, hb⟩ := hb
  have hne : ¬ (l' = l ∧ i' = i) := fun hh => by
    have := (newBlk_spec h).1
    rw [hh.1, hh.2, this] at hb; cases hb
  rw [(newBlk_spec h).2.2.1 l' i' hne]
  exact h1

theorem adr_ok {O : Oracle} {x y : Op} {e2 : Env} {σ2 : Stack} {r : List Op} (hf : x.adr y = true)
    (h : aops O (x :: y :: r) e σ = some (e2, σ2)) : ∃ e2', aops O (y :: x :: r) e σ = some (e2', σ2) ∧ EqE e2 e2' := by
  unfold Op.adr at hf
  split at hf
  case h_2 => cases hf
  rename_i n v sz a X d n' off m
  simp only [decide_eq_true_eq] at hf
  obtain ⟨rfl, hdv, hda, hdX⟩ := hf
  rw [aops_cons] at h
  simp only [Option.bind_eq_some_iff, Prod.exists] at h
  obtain ⟨ex, σx, h1, h2⟩ := h
  rw [aops_cons] at h2
  simp only [Option.bind_eq_some_iff, Prod.exists] at h2
  obtain ⟨ey, σy, h2, h3⟩ := h2
  simp only [run1, aop] at h1
  cases hin : inVar e m a with
  | none => rw [hin] at h1; cases h1
  | some z =>
  obtain ⟨s, cs, o⟩ := z
  rw [hin] at h1
  cases hX : (opd e X).cells with
  | none => rw [hX] at h1; cases h1
  | some p =>
  rw [hX] at h1
  dsimp only at h1
  split at h1
  case isFalse => cases h1
  rename_i hq
  simp only [nilbs, Option.some.injEq, Prod.mk.injEq] at h1
  obtain ⟨rfl, rfl⟩ := h1
  have hgv : ∃ cs', get e m = .own s cs' := by
    unfold inVar at hin
    cases hg : get e m <;> rw [hg] at hin <;> try (cases hin; done)
    rename_i s' cs'
    dsimp only at hin
    split at hin
    · cases hin; exact ⟨_, rfl⟩
    · split at hin
      · split at hin
        · cases hin; exact ⟨_, rfl⟩
        · cases hin
      · cases hin
  obtain ⟨cs', hgv⟩ := hgv
  simp only [run1, aop, sop, get, if_true, Option.map_some, Option.some.injEq, Prod.mk.injEq] at h2
  obtain ⟨rfl, rfl⟩ := h2
  have hne : get ((d, D.vr m s off) :: e) m = get e m := by simp [get, hdv]
  have hna : get ((d, D.vr m s off) :: e) a = get e a := by simp [get, hda]
  have hin' : inVar ((d, D.vr m s off) :: e) m a = some (s, cs, o) := by rw [inVar_agree hne hna, hin]
  have hX' : opd ((d, D.vr m s off) :: e) X = opd e X := opd_agree fun t ht => by
    have : d ≠ t := fun he => hdX (he ▸ ht)
    simp [get, this]
  have heq : EqE (put (some d) (D.vr m s off) ((m, .own s (cs.take o ++ p ++ cs.drop (o + sz))) :: e)) ((m, .own s (cs.take o ++ p ++ cs.drop (o + sz))) :: (d, D.vr m s off) :: e) := by
    intro t
    simp only [put, get]
    by_cases h1 : d = t
    · have : ¬ m = t := fun e => hdv (h1.trans e.symm)
      simp [h1, this]
    · simp [h1]
  obtain ⟨e3, k1, k2⟩ := aops_eqE h3 heq
  refine ⟨e3, ?_, k2⟩
  rw [aops_cons]
  simp only [run1, aop, sop, hgv, Option.map_some, Option.bind_some]
  rw [aops_cons]
  simp only [run1, aop, put, hin', hX', hX, hq, and_self, if_true, nilbs, Option.bind_some]
  exact k1

theorem swap_ok {O : Oracle} {x y : Op} {e2 : Env} {σ2 : Stack} {r : List Op} (hf : x.free y = true)
    (h : aops O (x :: y :: r) e σ = some (e2, σ2)) : ∃ e2', aops O (y :: x :: r) e σ = some (e2', σ2) ∧ EqE e2 e2' := by
  unfold Op.free at hf
  rw [Bool.or_eq_true] at hf
  rcases hf with hf | hf
  · exact adr_ok hf h
  simp only [Bool.and_eq_true, Bool.not_eq_true'] at hf
  obtain ⟨hc, hf⟩ := hf
  simp only [Op.clash, Bool.or_eq_false_iff, List.any_eq_false, List.contains_iff_mem, Bool.or_eq_true, not_or] at hc
  obtain ⟨c1, c2⟩ := hc
  rw [aops_cons] at h
  simp only [Option.bind_eq_some_iff, Prod.exists] at h
  obtain ⟨ex, σx, h1, h2⟩ := h
  rw [aops_cons] at h2
  simp only [Option.bind_eq_some_iff, Prod.exists] at h2
  obtain ⟨ey, σy, h2, h3⟩ := h2
  obtain ⟨lx, d1, hl1⟩ := run1_local h1
  obtain ⟨ly, d2, hl2⟩ := run1_local h2
  have k1 := hl1 e (EqE.agree (.refl e) _)
  rw [h1] at k1; cases k1
  have k2 := hl2 _ (EqE.agree (.refl _) _)
  rw [h2] at k2; cases k2
  -- y first
  have ay : Agree (y.uses ++ y.defs) (lx ++ e) e := fun t ht => by
    rw [get_app, if_neg]
    intro hm
    obtain ⟨p, hp, rfl⟩ := List.mem_map.1 hm
    have := c1 _ (d1 p hp)
    simp only [List.mem_append] at ht
    rcases ht with ht | ht
    · exact this.2 (by simpa using ht)
    · exact this.1 (by simpa using ht)
  have ax : Agree (x.uses ++ x.defs) e (ly ++ e) := fun t ht => by
    rw [get_app, if_neg]
    intro hm
    obtain ⟨p, hp, rfl⟩ := List.mem_map.1 hm
    have hp' := d2 p hp
    simp only [List.mem_append] at ht
    rcases ht with ht | ht
    · exact c2 _ ht (by simpa using hp')
    · exact (c1 _ ht).1 (by simpa using hp')
  have hy0 := hl2 e ay
  have hx0 := hl1 (ly ++ e) ax
  obtain ⟨σm, hy1, hx1⟩ : ∃ σm, run1 O y e σ = some (ly ++ e, σm) ∧ run1 O x (ly ++ e) σm = some (lx ++ (ly ++ e), σy) := by
    simp only [Bool.or_eq_true, Bool.and_eq_true] at hf
    rcases hf with ((⟨hx, hy⟩ | hx) | hy) | hfar
    · obtain rfl := run1_still h1 hx
      obtain rfl := run1_still h2 hy
      exact ⟨_, hy0, hx0⟩
    · have e1 := run1_pure h1 hx σ
      rw [h1] at e1
      cases e1
      exact ⟨σy, hy0, run1_pure hx0 hx σy⟩
    · have e2 := run1_pure h2 hy σx
      rw [h2] at e2
      cases e2
      exact ⟨σ, run1_pure hy0 hy σ, hx0⟩
    · unfold Op.far at hfar
      obtain ⟨dx, gx, nx, kx⟩ := x
      obtain ⟨dy, gy, ny, ky⟩ := y
      simp only [Bool.and_eq_true, Option.isNone_iff_eq_none] at hfar
      obtain ⟨⟨rfl, rfl⟩, hfar⟩ := hfar
      split at hfar
      · rename_i os sz a X ag sz' m
        have hm : m ∈ os := by simpa using hfar
        obtain ⟨l, i, v, off, b, _, hoff, rfl, _⟩ := run1_stc h1
        obtain ⟨rfl, hall⟩ := run1_ld hy0
        exact ⟨σ, hall σ (rdD_off (hoff m hm)).symm, hx0⟩
      · rename_i ag sz' m os sz a X
        have hm : m ∈ os := by simpa using hfar
        obtain ⟨rfl, _⟩ := run1_ld h1
        obtain ⟨l, i, v, off, b, _, hoff, rfl, _⟩ := run1_stc hy0
        obtain ⟨_, hall⟩ := run1_ld hx0
        refine ⟨_, hy0, hall _ ?_⟩
        have hg : get (ly ++ e) m = get e m := ax m (by simp [Op.uses, K.tmps, Opd.tmps])
        rw [hg]
        exact rdD_off (hoff m hm)
      · rename_i os sz a X os' sz' m X'
        have hm : m ∈ os := by simpa using hfar
        obtain ⟨l, i, v, off, b, _, hoff, rfl, hall⟩ := run1_stc hx0
        obtain ⟨l', i', v', off', b', hr, hoff', rfl, hall'⟩ := run1_stc hy0
        have hg : get (ly ++ e) m = get e m := ax m (by simp [Op.uses, K.tmps, hm])
        have h4 := hoff m hm
        rw [hg] at h4
        have h5 : get e m = .ref l' i' v' off' := by
          simp only [opd] at hr
          cases hgm : get e m <;> rw [hgm] at hr <;> simp only [D.strip, reduceCtorEq] at hr
          exact hr
        rw [h5] at h4
        simp only [D.off, decide_eq_true_eq] at h4
        refine ⟨setBlk σ l' i' b', hall' σ setBlk_length.symm (cells?_off h4).symm, ?_⟩
        rw [setBlk_comm h4]
        exact hall _ setBlk_length (cells?_off fun hh => h4 ⟨hh.1.symm, hh.2.symm⟩)
      · rename_i os wd bt a X ag sz' m
        have hm : m ∈ os := by simpa using hfar
        obtain ⟨l, i, b, bc, hoff, rfl⟩ := run1_apc h1
        obtain ⟨rfl, hall⟩ := run1_ld hy0
        exact ⟨σ, hall σ (rdD_off (hoff m hm)).symm, hx0⟩
      · rename_i ag sz' m cs
        obtain ⟨rfl, _⟩ := run1_ld h1
        obtain ⟨_, hall⟩ := run1_ld hx0
        refine ⟨_, hy0, hall _ ?_⟩
        have hg : get (ly ++ e) m = get e m := ax m (by simp [Op.uses, K.tmps, Opd.tmps])
        rw [hg]
        have hrd : ∃ c, rdD σx (get e m).strip = some c := by
          simp only [run1, aop, sop, opd] at h1
          cases hr : rdD σx (get e m).strip with
          | none => rw [hr] at h1; simp at h1
          | some c => exact ⟨c, rfl⟩
        obtain ⟨c, hrd⟩ := hrd
        have hn : ∃ l i, newBlk σx (.cells 0 cs) = some (l, i, σy) := by
          simp only [run1, aop, sop, nilbs, Option.bind_eq_bind, Option.bind_some, Option.map_eq_some_iff, Option.bind_eq_some_iff, Prod.exists, Prod.mk.injEq] at hy0
          obtain ⟨d0, σ0, ⟨l, i, σ3, h1, h2⟩, _, h3⟩ := hy0
          cases h2; cases h3
          exact ⟨l, i, h1⟩
        obtain ⟨l, i, hn⟩ := hn
        rw [hrd, newBlk_rd hn hrd]
      · rename_i os wd bt a X ag sz' m
        obtain ⟨l, i, b, bc, hoff, rfl⟩ := run1_apc h1
        obtain ⟨rfl, c, hc, hall⟩ := run1_ld0 hy0
        exact ⟨σ, hall σ (rd0_set hc), hx0⟩
      · cases hfar
  have heq : EqE (ly ++ (lx ++ e)) (lx ++ (ly ++ e)) := fun t => by
    simp only [get_app]
    by_cases m1 : t ∈ lx.map (·.1)
    · by_cases m2 : t ∈ ly.map (·.1)
      · obtain ⟨p, hp, rfl⟩ := List.mem_map.1 m1
        obtain ⟨q, hq, he⟩ := List.mem_map.1 m2
        have := (c1 _ (d1 p hp)).1
        have hq' := d2 q hq
        rw [he] at hq'
        exact absurd hq' (by simpa using this)
      · rw [if_pos m1, if_neg m2, if_pos m1]
    · by_cases m2 : t ∈ ly.map (·.1)
      · rw [if_neg m1, if_pos m2, if_pos m2]
      · rw [if_neg m1, if_neg m2, if_neg m2, if_neg m1]
  obtain ⟨e3, k3, k4⟩ := aops_eqE h3 heq
  refine ⟨e3, ?_, k4⟩
  rw [aops_cons, hy1]
  simp only [Option.bind_some]
  rw [aops_cons, hx1]
  exact k3

theorem front_ok {O : Oracle} {y : Op} {r : List Op} : ∀ {pre : List Op} {e e2 : Env} {σ σ2 : Stack}, (∀ x ∈ pre, x.free y = true) →
    aops O (pre ++ y :: r) e σ = some (e2, σ2) → ∃ e2', aops O (y :: (pre ++ r)) e σ = some (e2', σ2) ∧ EqE e2 e2'
  | [], e, e2, σ, σ2, hp, h => ⟨e2, h, .refl _⟩
  | x :: pre, e, e2, σ, σ2, hp, h => by
    simp only [List.cons_append] at h
    rw [aops_cons] at h
    simp only [Option.bind_eq_some_iff, Prod.exists] at h
    obtain ⟨e1, σ1, h1, h2⟩ := h
    obtain ⟨e3, h3, h4⟩ := front_ok (fun z hz => hp z (by simp [hz])) h2
    have h5 : aops O (x :: y :: (pre ++ r)) e σ = some (e3, σ2) := by rw [aops_cons, h1]; exact h3
    obtain ⟨e4, h6, h7⟩ := swap_ok (hp x (by simp)) h5
    exact ⟨e4, h6, h4.trans h7⟩

theorem restrict_eqE {live : List Nat} (h : EqE e e') : restrict live e' = restrict live e := by
  simp only [restrict]
  exact List.map_congr_left fun t _ => by rw [h t]
end Go.Abs
