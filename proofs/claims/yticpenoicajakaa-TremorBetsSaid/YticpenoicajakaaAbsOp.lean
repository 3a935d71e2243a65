/-
  One operation of a region, calls too.
-/
import Derived.Test.YticpenoicajakaaAbsStep
set_option linter.unusedVariables false
set_option linter.unusedSimpArgs false
namespace Go.Abs
open Go

/-! ### What an oracle's answers must be -/

def CallOk (P : Program) (CR : CRel) (f : Nat) (args : List D) (σ : Stack) (d : D) (σ' : Stack) : Prop :=
  (∃ F c, P.funcs[f]? = some F ∧ F.name ≠ "runtime.NumGoroutine" ∧ F.body = some c) ∧
  ∀ base g w vs, Inv CR base g σ w → LowS σ → 0 < σ.length → RelL g args vs.toList →
    Goes σ σ' ∧ Calls P f vs w (fun e w' => ∃ v g', e = .returned v ∧ Ev g w g' w' ∧ Inv CR base g' σ' w' ∧ RelV g' d v)

def RoundOk (P : Program) (CR : CRel) (l i : Nat) (args : List D) (σ : Stack) (d : D) (σ' : Stack) : Prop :=
  ∀ base g w vs b, Inv CR base g σ w → LowS σ → 0 < σ.length → RelL g args vs.toList → RelV g (.yld l i) (.func (.yield b) #[] #[]) →
    Goes σ σ' ∧ ∃ f tmps asg body, (Instr.yield b vs).run P w = .ok (.round b f tmps asg body) w ∧
      ∀ c cs, ∃ v g' w', Steps P (lone (Frame.round b f tmps asg body .normal) (c :: cs) w) (lone (c.finish v) cs w') ∧ Ev g w g' w' ∧ Inv CR base g' σ' w' ∧ RelV g' d v

/-- Where a frame stands behind a command. -/
def Lands (k : List Item) : Exit → List Item → Prop
  | .normal, t => t = k
  | .exit id, t => ∃ k', t = .code (.exit id) :: k' ∧ exitTo id k' = exitTo id k
  | .ret, t => ∃ k', t = .code .ret :: k'

def LoopOk (P : Program) (CR : CRel) (c : Cmd) (e : Env) (σ : Stack) (x : Exit) (e' : Env) (σ' : Stack) : Prop :=
  x ≠ .normal ∧ ∀ (ann : Ann) blk code n, codeC P ann n blk code = some c → ∀ base g0 w0 b a k cs g w B, At CR base ann.ownv g0 w0 n b g w B e σ a →
    ∃ g' w' B' a' todo, Steps P (lone (b.atR a (.code code :: .inLoop code :: k)) cs w) (lone (b.atR a' todo) cs w') ∧
      At CR base ann.ownv g0 w0 n b g' w' B' e' σ' a' ∧ g.le g' ∧ Lands k x todo ∧ Goes σ σ'

def AnsOk (P : Program) (CR : CRel) : Q → R → Prop
  | .call _ f args σ, .val d σ' => CallOk P CR f args σ d σ'
  | .round l i args σ, .val d σ' => RoundOk P CR l i args σ d σ'
  | .loop _ _ c e σ, .ctl x e' σ' => LoopOk P CR c e σ x e' σ'
  | _, _ => True

def OrOk (P : Program) (CR : CRel) (O : Oracle) : Prop := ∀ q r, O q = some r → AnsOk P CR q r

theorem vals_some {r : Option R} {d : D} {σ : Stack} (h : R.vals r = some (d, σ)) : r = some (.val d σ) := by
  unfold R.vals at h
  split at h
  · cases h; rfl
  · cases h

theorem ctls_some {r : Option R} {x : Exit} {e : Env} {σ : Stack} (h : R.ctls r = some (x, e, σ)) : r = some (.ctl x e σ) := by
  unfold R.ctls at h
  split at h
  · cases h; rfl
  · cases h

section
variable {P : Program} {CR : CRel} {O : Oracle} {ann : Ann} {n reg : Nat} {ops : Array Oper} {base : Nat} {g0 g : G} {w0 w : World} {b : Frame} {B : Nat → Nat} {e e' : Env} {σ σ' : Stack} {a : Act}
  {k : List Item} {cs : List Frame} {i : Nat} {rest : List Nat}

/-- The next moment of a frame in a region. -/
def Next1 (P : Program) (CR : CRel) (ann : Ann) (n : Nat) (ops : Array Oper) (base : Nat) (g0 : G) (w0 : World) (b : Frame) (g : G) (w : World) (a : Act) (k : List Item) (cs : List Frame) (i : Nat) (rest : List Nat) (σ : Stack) (e' : Env) (σ' : Stack) : Prop :=
  ∃ g' w' B' a', Steps P (lone (b.atR a (.inRegion ops (i :: rest) :: k)) cs w) (lone (b.atR a' (.inRegion ops rest :: k)) cs w') ∧
    At CR base ann.ownv g0 w0 n b g' w' B' e' σ' a' ∧ g.le g' ∧ Goes σ σ'

theorem At.go {V : List Nat} (ha : At CR base V g0 w0 n b g w B e σ a) {g' : G} {w' : World} {B' : Nat → Nat} {tm : Act} (he : Ev g w g' w') (hi : Inv CR base g' σ' w') (hg : Goes σ σ')
    (hf : Fr w0.heap.size V g' w' B' e' tm.tmps) (hs : tm.tmps.size = a.tmps.size) (hd : tm.defers = a.defers) : At CR base V g0 w0 n b g' w' B' e' σ' tm where
  fr := hf
  ev := ha.ev.trans he
  inv := hi
  low := hg.low ha.low
  pos := by rw [hg.len]; exact ha.pos
  size := by rw [hs]; exact ha.size
  marks := let ⟨rs, h⟩ := ha.marks; ⟨rs, by rw [hd]; exact h.ev he⟩
  round := round_mono ha.round he.le

theorem put_size {dst : Option Nat} {c : Value} : (a.put dst c).tmps.size = a.tmps.size := by cases dst <;> simp [Act.put]
theorem put_defers {dst : Option Nat} {c : Value} : (a.put dst c).defers = a.defers := by cases dst <;> simp [Act.put]

theorem kC_defer {ann : Ann} {key : Nat} {o : Oper} {kk : K} (h : kC P ann ops key o = some kk) : ∀ c, o.op ≠ .defer c := by
  intro c hc
  unfold kC at h
  rw [hc] at h
  cases h

/-- A value comes to an operation's place. -/
theorem next_value (ha : At CR base ann.ownv g0 w0 n b g w B e σ a) {o : Oper} (ho : ops[i]? = some o) (hn : ∀ t, o.dst = some t → t < n) (hV : ∀ t, o.dst = some t → t ∉ ann.ownv)
    {g' : G} {w' : World} {d : D} {c : Value} (hsteps : Steps P (lone (b.atR a (.inRegion ops (i :: rest) :: k)) cs w) (lone (b.atR (a.put o.dst c) (.inRegion ops rest :: k)) cs w'))
    (he : Ev g w g' w') (hi : Inv CR base g' σ' w') (hg : Goes σ σ') (hr : RelT g' B e d c) :
    Next1 P CR ann n ops base g0 w0 b g w a k cs i rest σ (put o.dst d e) σ' := by
  refine ⟨g', w', B, a.put o.dst c, hsteps, ha.go he hi hg ?_ put_size put_defers, he.le, hg⟩
  exact (ha.fr.ev he).put hr hV fun t ht => by rw [ha.size]; exact hn t ht

theorem run_resolve_value {ρ : Operand → Value} {f : Operand} {args : Array Operand} {ts : Array TypeId} {ty : TypeId} {fn : Go.Fn} {first cap : Array Value} (hf : ρ f = .func fn first cap) (w : World) :
    (resolve ρ { callee := .value f, args, argTypes := ts } ty).run P w = .ok { target := .fn fn cap, args := first ++ args.map ρ } w := by
  simp [resolve, Deferred.ofValue, hf]

theorem run_callFunc {f : FuncId} {args : Array Value} {F : Func} (h1 : P.funcs[f]? = some F) (h2 : F.name ≠ "runtime.NumGoroutine") {c : Code} (h3 : F.body = some c) (w : World) :
    (callFunc f args).run P w = .ok (.enter f args) w := by
  simp [callFunc, program, Sem.run, h1, h2, h3]

theorem opsC_map {xs : Array Operand} {Xs : List Opd} {fb : Nat} {V : List Nat} {tmps : Array Value} {df : List Deferred} (hf : Fr fb V g w B e tmps) (hx : opdsC xs.toList = some Xs) :
    RelL g (Xs.map (Abs.opd e)) (xs.map (Act.mk tmps df).eval).toList := by
  have := hf.opds (df := df) hx
  simpa using this

/-- A call. -/
theorem call_ok (hO : OrOk P CR O) (ha : At CR base ann.ownv g0 w0 n b g w B e σ a) {o : Oper} (ho : ops[i]? = some o) (hw : Region.wanted o (yielded ops a.tmps) = true)
    (hn : ∀ t, o.dst = some t → t < n) (hV : ∀ t, o.dst = some t → t ∉ ann.ownv) {f : Operand} {args : Array Operand} {ts : Array TypeId} (hop : o.op = .call { callee := .value f, args, argTypes := ts })
    {F : Opd} {Xs : List Opd} (hF : opdC f = some F) (hX : opdsC args.toList = some Xs) {kp : Bool} {d : D} (h : callv O kp (opd e F) (Xs.map (opd e)) σ = some (d, σ')) :
    Next1 P CR ann n ops base g0 w0 b g w a k cs i rest σ (put o.dst d e) σ' := by
  obtain ⟨tmps, df⟩ := a
  have hd : ∀ c, o.op ≠ .defer c := by intro c hc; rw [hop] at hc; cases hc
  have hfv := ha.fr.opd (df := df) hF
  have hxs := opsC_map (df := df) ha.fr hX
  unfold callv at h
  split at h
  · rename_i fi first cap hfe
    rw [hfe] at hfv
    have hans := hO _ _ (vals_some h)
    obtain ⟨⟨Fn, cd, hfn1, hfn2, hfn3⟩, hcall⟩ := hans
    generalize hev : (Act.mk tmps df).eval f = fv at hfv
    cases hfv with
    | fn _ _ _ first' cap' r1 r2 =>
      have hrun : (execOp (Act.mk tmps df).eval o).run P w = .ok (.enter fi (first' ++ args.map (Act.mk tmps df).eval ++ cap')) w := by
        simp only [execOp, hop, Sem.run_bind, run_resolve_value hev, Result.andThen_ok, invoke, run_callFunc hfn1 hfn2 hfn3]
      have hargs : RelL g (first ++ Xs.map (opd e) ++ cap) (first' ++ args.map (Act.mk tmps df).eval ++ cap').toList := by
        simpa using (r1.append hxs).append r2
      obtain ⟨hgo, hcalls⟩ := hcall base g w _ ha.inv ha.low ha.pos hargs
      obtain ⟨en, w', fr, ⟨v, g', rfl, he, hi, hr⟩, hcomes, hfr, hleave⟩ := hcalls (b.atR ⟨tmps, df⟩ (.inRegion ops (i :: rest) :: k) :: cs)
      refine next_value ha ho hn hV (Steps.head (step_enter ho hw hd hrun) (Steps.trans hcomes (Steps.one ?_))) he hi hgo (RelT.of hr)
      rw [step_leave_returned hleave, finish_op ho]
  · rename_i l j hfe
    rw [hfe] at hfv
    have hans := hO _ _ (vals_some h)
    generalize hev : (Act.mk tmps df).eval f = fv at hfv
    have hfv0 := hfv
    cases hfv with
    | yld _ _ bb L r1 r2 =>
      obtain ⟨hgo, f0, tm0, asg, body, hy, hround⟩ := hans base g w (args.map (Act.mk tmps df).eval) bb ha.inv ha.low ha.pos (by simpa using hxs) hfv0
      have hrun : (execOp (Act.mk tmps df).eval o).run P w = .ok (.round bb f0 tm0 asg body) w := by
        simp only [execOp, hop, Sem.run_bind, run_resolve_value hev, Result.andThen_ok, invoke]
        simpa using hy
      obtain ⟨v, g', w', hsteps, he, hi, hr⟩ := hround (b.atR ⟨tmps, df⟩ (.inRegion ops (i :: rest) :: k)) cs
      refine next_value ha ho hn hV (Steps.head (step_round ho hw hd hrun) ?_) he hi hgo (RelT.of hr)
      rw [finish_op ho] at hsteps
      exact hsteps
  · cases h
end
end Go.Abs
