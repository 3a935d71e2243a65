/- The interpreter, part 2: proved sound against the model. -/
import Derived.Test.YtfgljaglidhjiaaGreatDoorBase1
import Derived.RangeFuncNested
import Derived.Recover
import Derived.Orders
import Derived.Lib.ItoaNum
/-
  One operation as a step of the machine: a frame and what the interpreter says of it.
-/
set_option linter.unusedVariables false
set_option linter.unusedSimpArgs false
namespace Go.Abs
open Go

section steps
variable {P : Program} {b : Frame} {a : Act} {k : List Item} {cs : List Frame} {w w' : World} {ops : Array Oper} {i : Nat} {rest : List Nat} {o : Oper}

theorem finish_op (ho : ops[i]? = some o) (v : Value) : (b.atR a (.inRegion ops (i :: rest) :: k)).finish v = b.atR (a.put o.dst v) (.inRegion ops rest :: k) := by
  rw [Frame.finish_atR, ho]; rfl

theorem step_value {x : Next} {c : Value} (ho : ops[i]? = some o) (hw : Region.wanted o (yielded ops a.tmps) = true) (hd : ∀ c, o.op ≠ .defer c)
    (hr : (execOp a.eval o).run P w = .ok x w') (hx : outV x = some c) :
    step P (lone (b.atR a (.inRegion ops (i :: rest) :: k)) cs w) = .next (lone (b.atR (a.put o.dst c) (.inRegion ops rest :: k)) cs w') := by
  have hg := stepGR_op (P := P) (b := b) (k := k) (cs := cs) (w := w) (rest := rest) ho hw
  rw [Oper.semAt_eq _ _ _ hd] at hg
  have hfin := finish_op (b := b) (a := a) (rest := rest) (k := k) ho c
  cases x <;> simp only [outV, Option.some.injEq, reduceCtorEq] at hx
  · subst hx
    exact step_lone_go (by rw [hg, ← hfin]; simp [stepG.apply, hr])
  · subst hx
    exact step_lone_go (by rw [hg, ← hfin]; simp [stepG.apply, hr])

theorem step_enter {f : FuncId} {args : Array Value} (ho : ops[i]? = some o) (hw : Region.wanted o (yielded ops a.tmps) = true) (hd : ∀ c, o.op ≠ .defer c)
    (hr : (execOp a.eval o).run P w = .ok (.enter f args) w') :
    step P (lone (b.atR a (.inRegion ops (i :: rest) :: k)) cs w) = .next (lone (Frame.enter P f args .normal) (b.atR a (.inRegion ops (i :: rest) :: k) :: cs) w') := by
  have hg := stepGR_op (P := P) (b := b) (k := k) (cs := cs) (w := w) (rest := rest) ho hw
  rw [Oper.semAt_eq _ _ _ hd] at hg
  exact step_lone_go (by rw [hg]; simp [stepG.apply, hr, Frame.atR])

theorem step_round {l : Nat} {f : FuncId} {tmps : Array Value} {asg body : Code} (ho : ops[i]? = some o) (hw : Region.wanted o (yielded ops a.tmps) = true) (hd : ∀ c, o.op ≠ .defer c)
    (hr : (execOp a.eval o).run P w = .ok (.round l f tmps asg body) w') :
    step P (lone (b.atR a (.inRegion ops (i :: rest) :: k)) cs w) = .next (lone (Frame.round l f tmps asg body .normal) (b.atR a (.inRegion ops (i :: rest) :: k) :: cs) w') := by
  have hg := stepGR_op (P := P) (b := b) (k := k) (cs := cs) (w := w) (rest := rest) ho hw
  rw [Oper.semAt_eq _ _ _ hd] at hg
  exact step_lone_go (by rw [hg]; simp [stepG.apply, hr, Frame.atR])
end steps

theorem G.le.trans' {a b c : G} (h : a.le b) (h' : b.le c) : a.le c := G.le_trans h h'


def mark (r : Nat) : Deferred := { target := .collected r, args := #[] }

structure MarkB (fb : Nat) (g : G) (w : World) (r : Nat) : Prop where
  lo : fb ≤ r
  free : ¬ g.has r
  noimm : ∀ o, g.imm r o = none
  blk : w.heap[r]? = some (.deferred (some []))

theorem MarkB.lt {fb : Nat} {g : G} {w : World} {r : Nat} (h : MarkB fb g w r) : r < w.heap.size := (Array.getElem?_eq_some_iff.1 h.blk).1

theorem MarkB.ev {fb : Nat} {g g' : G} {w w' : World} {r : Nat} (h : MarkB fb g w r) (he : Ev g w g' w') : MarkB fb g' w' r where
  lo := h.lo
  free := fun hb => by
    rcases he.img r hb with h1 | h1
    · exact h.free h1
    · have := h.lt; omega
  noimm o := by
    cases e : g'.imm r o with
    | none => rfl
    | some v =>
      rcases he.immN r o v e with h1 | h1 | h1
      · rw [h.noimm o] at h1; cases h1
      · exact absurd h1 h.free
      · have := h.lt; omega
  blk := (he.kept r h.lt h.free).trans h.blk

def colls : List Deferred → List Nat
  | [] => []
  | d :: ds => match d.target with
    | .collected r => r :: colls ds
    | _ => colls ds

theorem colls_marks : ∀ (rs : List Nat) (ds : List Deferred), colls (rs.map mark ++ ds) = rs ++ colls ds
  | [], ds => rfl
  | r :: rs, ds => by simp only [List.map_cons, List.cons_append, colls, mark]; rw [← colls_marks rs ds]

structure Marks (fb : Nat) (g : G) (w : World) (df df0 : List Deferred) (rs : List Nat) : Prop where
  eq : df = rs.map mark ++ df0
  nodup : (rs ++ colls df0).Nodup
  all : ∀ r ∈ rs ++ colls df0, MarkB fb g w r

theorem Marks.ev {fb : Nat} {g g' : G} {w w' : World} {df df0 : List Deferred} {rs : List Nat} (h : Marks fb g w df df0 rs) (he : Ev g w g' w') : Marks fb g' w' df df0 rs :=
  ⟨h.eq, h.nodup, fun r hr => (h.all r hr).ev he⟩


structure At (CR : CRel) (base : Nat) (V : List Nat) (g0 : G) (w0 : World) (n : Nat) (b : Frame) (g : G) (w : World) (B : Nat → Nat) (e : Env) (σ : Stack) (a : Act) : Prop where
  fr : Fr w0.heap.size V g w B e a.tmps
  ev : Ev g0 w0 g w
  inv : Inv CR base g σ w
  low : LowS σ
  pos : 0 < σ.length
  size : a.tmps.size = n
  marks : ∃ rs, Marks w0.heap.size g w a.defers b.defers rs
  round : b.roundOf = none ∨ ∃ r l i, b.roundOf = some r ∧ g.loc l i = some (.lp r)

theorem Loc.lp_le {L : Loc} {r : Nat} (h : Loc.le (.lp r) L) : L = .lp r := h

theorem round_mono {b : Frame} {g g' : G} (h : b.roundOf = none ∨ ∃ r l i, b.roundOf = some r ∧ g.loc l i = some (.lp r)) (hle : g.le g') :
    b.roundOf = none ∨ ∃ r l i, b.roundOf = some r ∧ g'.loc l i = some (.lp r) := by
  rcases h with h | ⟨r, l, i, h1, h2⟩
  · exact .inl h
  · obtain ⟨L, h3, h4⟩ := hle.loc l i _ h2
    rw [Loc.lp_le h4] at h3
    exact .inr ⟨r, l, i, h1, h3⟩

theorem RelF.imp {g g' : G} {B B' : Nat → Nat} {e e' : Env} {d : D} {c : Value} (h : ∀ d c, RelT g B e d c → RelT g' B' e' d c) (h0 : RelF g B e d c) : RelF g' B' e' d c := by
  cases d <;> simp only [RelF] at h0 ⊢ <;> exact h _ _ h0

section put
variable {fb : Nat} {V : List Nat} {g g' : G} {w w' : World} {B : Nat → Nat} {e : Env} {tmps : Array Value}

theorem get_put {dst : Option Nat} {d : D} {t : Nat} : get (put dst d e) t = if dst = some t then d else get e t := by
  cases dst with
  | none => simp [put]
  | some t' => simp [put, get]

theorem getD_put {dst : Option Nat} {c : Value} {df : List Deferred} {t : Nat} (h : ∀ d, dst = some d → d < tmps.size) :
    ((Act.mk tmps df).put dst c).tmps.getD t Go.undef = if dst = some t then c else tmps.getD t Go.undef := by
  cases dst with
  | none => simp [Act.put]
  | some d =>
    have := h d rfl
    simp only [Act.put, Option.some.injEq, Array.getD_eq_getD_getElem?]
    split
    · rename_i hd; subst hd; simp [this]
    · rename_i hd; rw [Array.getElem?_setIfInBounds_ne hd]

theorem Fr.put (hf : Fr fb V g w B e tmps) {dst : Option Nat} {d : D} {c : Value} {df : List Deferred} (hr : RelT g B e d c) (hV : ∀ t, dst = some t → t ∉ V) (hn : ∀ t, dst = some t → t < tmps.size) :
    Fr fb V g w B (put dst d e) ((Act.mk tmps df).put dst c).tmps := by
  have hown : ∀ t s cs, get (Abs.put dst d e) t = .own s cs → get e t = .own s cs ∧ dst ≠ some t := by
    intro t s cs h
    rw [get_put] at h
    split at h
    · subst h; exact hr.elim
    · exact ⟨h, by assumption⟩
  have hkeep : ∀ x s cs, get e x = .own s cs → get (Abs.put dst d e) x = .own s cs := by
    intro x s cs h
    rw [get_put, if_neg]
    · exact h
    · intro hx; exact hV x hx (hf.own x s cs h).1
  have hT : ∀ d0 c0, RelT g B e d0 c0 → RelT g B (Abs.put dst d e) d0 c0 := by
    intro d0 c0 h0
    cases d0 <;> first | exact h0 | skip
    rename_i x s off
    obtain ⟨s', cs, b, o, e1, e2⟩ := h0
    exact ⟨s', cs, b, o, hkeep _ _ _ e1, e2⟩
  refine ⟨fun t => ?_, fun t s cs h => ?_, fun t t' s s' cs cs' h h' => ?_⟩
  · rw [get_put, getD_put hn]
    split
    · have := hT _ _ hr
      cases d <;> first | exact this | exact this.elim
    · exact (hf.rel t).imp hT
  · obtain ⟨h1, h2⟩ := hown t s cs h
    rw [getD_put hn, if_neg h2]
    exact hf.own t s cs h1
  · exact hf.inj t t' s s' cs cs' (hown _ _ _ h).1 (hown _ _ _ h').1

theorem Fr.repl (hf : Fr fb V g w B e tmps) {v : Nat} {d : D} (hr : RelT g B e d (tmps.getD v Go.undef)) (h0 : ∀ s cs, get e v ≠ .own s cs) :
    Fr fb V g w B ((v, d) :: e) tmps := by
  have hg : ∀ t, get ((v, d) :: e) t = if v = t then d else get e t := fun t => rfl
  have hown : ∀ t s cs, get ((v, d) :: e) t = .own s cs → get e t = .own s cs := by
    intro t s cs h
    rw [hg] at h
    split at h
    · subst h; exact hr.elim
    · exact h
  have hkeep : ∀ x s cs, get e x = .own s cs → get ((v, d) :: e) x = .own s cs := by
    intro x s cs h
    rw [hg, if_neg]
    · exact h
    · intro hx; subst hx; exact h0 _ _ h
  have hT : ∀ d0 c0, RelT g B e d0 c0 → RelT g B ((v, d) :: e) d0 c0 := by
    intro d0 c0 h0
    cases d0 <;> first | exact h0 | skip
    rename_i x s off
    obtain ⟨s', cs, b, o, e1, e2⟩ := h0
    exact ⟨s', cs, b, o, hkeep _ _ _ e1, e2⟩
  refine ⟨fun t => ?_, fun t s cs h => hf.own t s cs (hown t s cs h), fun t t' s s' cs cs' h h' => hf.inj t t' s s' cs cs' (hown _ _ _ h) (hown _ _ _ h')⟩
  rw [hg]
  split
  · rename_i hv
    subst hv
    have := hT _ _ hr
    cases d <;> first | exact this | exact this.elim
  · exact (hf.rel t).imp hT

theorem Fr.putOwn (hf : Fr fb V g w B e tmps) {v : Nat} {cs : List D} {df : List Deferred} (hV : v ∈ V) (hn : v < tmps.size) {b : Nat}
    (hob : OwnB fb g w b cs) (hnew : ∀ t s cs, get e t = .own s cs → B t ≠ b) :
    Fr fb V g w (fun t => if t = v then b else B t) ((v, .own (stamp e v) cs) :: e) ((Act.mk tmps df).put (some v) (.pointer (some ⟨b, 0, none⟩))).tmps := by
  have hg : ∀ t, get ((v, D.own (stamp e v) cs) :: e) t = if v = t then .own (stamp e v) cs else get e t := fun t => rfl
  refine ⟨fun t => ?_, fun t s cs' h => ?_, fun t t' s s' cs1 cs2 h h' hB => ?_⟩
  · rw [hg, getD_put (by simpa using hn)]
    by_cases hv : v = t
    · subst hv; simp [RelF]
    · rw [if_neg hv, if_neg (by simpa using hv)]
      have h0 := hf.rel t
      cases hd : get e t <;> rw [hd] at h0 <;> first | trivial | exact h0 | skip
      rename_i x s off
      obtain ⟨s', cs', b', o, e1, e2, e3, e4⟩ := h0
      by_cases hx : v = x
      · subst hx
        refine ⟨_, _, b', o, by rw [hg, if_pos rfl], ?_, e3, fun hs => ?_⟩
        · simp only [stamp, e1]; omega
        · simp only [stamp, e1] at hs; omega
      · exact ⟨s', cs', b', o, by rw [hg, if_neg hx]; exact e1, e2, e3, fun hs => by show b' = (if x = v then b else B x) ∧ _; rw [if_neg (by omega)]; exact e4 hs⟩
  · rw [hg] at h
    rw [getD_put (by simpa using hn)]
    by_cases hv : v = t
    · subst hv
      rw [if_pos rfl] at h
      cases h
      exact ⟨hV, by simp, by simpa using hob⟩
    · rw [if_neg hv] at h
      rw [if_neg (by simpa using hv), if_neg (by omega)]
      exact hf.own t s cs' h
  · rw [hg] at h h'
    replace hB : (if t = v then b else B t) = (if t' = v then b else B t') := hB
    by_cases hv : v = t
    · by_cases hv' : v = t'
      · omega
      · rw [if_neg hv'] at h'
        rw [if_pos hv.symm, if_neg (by omega)] at hB
        exact absurd hB.symm (hnew t' _ _ h')
    · rw [if_neg hv] at h
      by_cases hv' : v = t'
      · rw [if_neg (by omega), if_pos hv'.symm] at hB
        exact absurd hB (hnew t _ _ h)
      · rw [if_neg hv'] at h'
        rw [if_neg (by omega), if_neg (by omega)] at hB
        exact hf.inj _ _ _ _ _ _ h h' hB

theorem Fr.inVar (hf : Fr fb V g w B e tmps) {v x s off : Nat} {cs : List D} (hin : inVar e v x = some (s, cs, off)) :
    get e v = .own s cs ∧ tmps.getD x Go.undef = .pointer (some ⟨B v, off, none⟩) := by
  unfold Abs.inVar at hin
  split at hin
  · rename_i s' cs' hg
    obtain ⟨_, hp, _⟩ := hf.own v s' cs' hg
    split at hin
    · rename_i hxv; subst hxv
      cases hin
      exact ⟨hg, hp⟩
    · split at hin
      · rename_i x' s2 off2 hg2
        split at hin
        · rename_i hc
          obtain ⟨rfl, rfl⟩ := hc
          cases hin
          have := hf.rel x
          rw [hg2] at this
          obtain ⟨s3, cs3, b3, o3, e1, _, e2, e3⟩ := this
          rw [hg] at e1; cases e1
          obtain ⟨rfl, rfl⟩ := e3 rfl
          exact ⟨hg, e2⟩
        · cases hin
      · cases hin
  · cases hin

theorem Fr.setOwn (hf : Fr fb V g w B e tmps) {v s : Nat} {cs cs' : List D} (hv : get e v = .own s cs)
    (hob : OwnB fb g w' (B v) cs') (hoth : ∀ b, b < w.heap.size → b ≠ B v → w'.heap[b]? = w.heap[b]?) :
    Fr fb V g w' B ((v, .own s cs') :: e) tmps := by
  have hg : ∀ t, get ((v, D.own s cs') :: e) t = if v = t then .own s cs' else get e t := fun t => rfl
  refine ⟨fun t => ?_, fun t s1 cs1 h => ?_, fun t t' s1 s2 cs1 cs2 h h' hB => ?_⟩
  · rw [hg]
    by_cases hvt : v = t
    · subst hvt; simp [RelF]
    · rw [if_neg hvt]
      have h0 := hf.rel t
      cases hd : get e t <;> rw [hd] at h0 <;> first | trivial | exact h0 | skip
      rename_i x s1 off
      obtain ⟨s2, cs2, b2, o2, e1, e2, e3, e4⟩ := h0
      by_cases hx : v = x
      · subst hx
        rw [hv] at e1; cases e1
        exact ⟨s, cs', b2, o2, by rw [hg, if_pos rfl], e2, e3, e4⟩
      · exact ⟨s2, cs2, b2, o2, by rw [hg, if_neg hx]; exact e1, e2, e3, e4⟩
  · rw [hg] at h
    by_cases hvt : v = t
    · subst hvt
      rw [if_pos rfl] at h
      cases h
      obtain ⟨h1, h2, h3⟩ := hf.own v s cs hv
      exact ⟨h1, h2, hob⟩
    · rw [if_neg hvt] at h
      obtain ⟨h1, h2, h3⟩ := hf.own t s1 cs1 h
      refine ⟨h1, h2, h3.lo, h3.free, h3.noimm, ?_⟩
      obtain ⟨c, el, hb, hr, h5⟩ := h3.blk
      exact ⟨c, el, (hoth _ h3.lt fun hB => hvt (hf.inj _ _ _ _ _ _ hv h hB.symm)).trans hb, hr, h5⟩
  · rw [hg] at h h'
    by_cases hvt : v = t
    · subst hvt
      by_cases hvt' : v = t'
      · exact hvt'
      · rw [if_neg hvt'] at h'; exact hf.inj _ _ _ _ _ _ hv h' hB
    · rw [if_neg hvt] at h
      by_cases hvt' : v = t'
      · subst hvt'; exact hf.inj _ _ _ _ _ _ h hv hB
      · rw [if_neg hvt'] at h'; exact hf.inj _ _ _ _ _ _ h h' hB
end put

theorem Inv.foreign {CR : CRel} {base : Nat} {g : G} {σ : Stack} {w w' : World} (hi : Inv CR base g σ w)
    (hk : ∀ b, b < w.heap.size → (g.has b ∨ ∃ o v, g.imm b o = some v) → w'.heap[b]? = w.heap[b]?) (hs : w.heap.size ≤ w'.heap.size) : Inv CR base g σ w' where
  ge := Nat.le_trans hi.ge hs
  dom l i L e := let ⟨b, hb, hr⟩ := hi.dom l i L e; ⟨b, hb, hr.mono g.le_refl fun x hx => hk x (hi.lo l i L x e hx).2 (.inl ⟨l, i, L, e, hx⟩)⟩
  imm b o v e := let ⟨h1, h2⟩ := hi.imm b o v e; ⟨(cell?_congr (hk b (hi.imm_lt e) (.inr ⟨o, v, e⟩))).trans h1, h2⟩
  sep := hi.sep
  inj := hi.inj
  tot := hi.tot
  glb b Q h := let ⟨⟨v, hb⟩, o, ho, hq⟩ := hi.glb b Q h; ⟨⟨v, hb⟩, o, (hk b (hi.imm_lt hb) (.inr ⟨0, v, hb⟩)).trans ho, hq⟩
  lo l i L b e eb := ⟨(hi.lo l i L b e eb).1, Nat.lt_of_lt_of_le (hi.lo l i L b e eb).2 hs⟩

theorem Inv.alloc {CR : CRel} {base : Nat} {g : G} {σ : Stack} {w : World} (hi : Inv CR base g σ w) (o : Obj) : Inv CR base g σ (w.alloc o) :=
  hi.foreign (fun b hb _ => alloc_old hb) (by simp)

theorem Ev.alloc (g : G) (w : World) (o : Obj) : Ev g w g (w.alloc o) :=
  ⟨g.le_refl, rfl, rfl, rfl, by simp, fun b hb _ => alloc_old hb, fun _ h => .inl h, fun _ _ _ h => .inl h⟩

end Go.Abs

/-
  One operation of a region, calls too.
-/
set_option linter.unusedVariables false
set_option linter.unusedSimpArgs false
namespace Go.Abs
open Go


def CallOk (P : Program) (CR : CRel) (f : Nat) (args : List D) (σ : Stack) (d : D) (σ' : Stack) : Prop :=
  (∃ F c, P.funcs[f]? = some F ∧ F.name ≠ "runtime.NumGoroutine" ∧ F.body = some c) ∧
  ∀ base g w vs, Inv CR base g σ w → LowS σ → 0 < σ.length → RelL g args vs.toList →
    Goes σ σ' ∧ Calls P f vs w (fun e w' => ∃ v g', e = .returned v ∧ Ev g w g' w' ∧ Inv CR base g' σ' w' ∧ RelV g' d v)

def ThrowOk (P : Program) (CR : CRel) (f : Nat) (args : List D) (σ : Stack) (d : D) (σ' : Stack) : Prop :=
  d.clean = true ∧ (∃ F c, P.funcs[f]? = some F ∧ F.name ≠ "runtime.NumGoroutine" ∧ F.body = some c) ∧
  ∀ base g w vs, Inv CR base g σ w → LowS σ → 0 < σ.length → RelL g args vs.toList →
    Goes σ σ' ∧ Calls P f vs w (fun e w' => ∃ v g', e = .panicked [{ v, recovered := false }] ∧ Ev g w g' w' ∧ Inv CR base g' σ' w' ∧ RelV g' d v)

def Falls (g : G) : Option D → FrameMode → Prop
  | none, u => u = .returning
  | some d, u => ∃ v, RelV g d v ∧ u = .panicking [{ v, recovered := false }]

def DCallOk (P : Program) (CR : CRel) (f : Nat) (args : List D) (th : Option D) (σ σ' : Stack) : Prop :=
  (∃ F c, P.funcs[f]? = some F ∧ F.name ≠ "runtime.NumGoroutine" ∧ F.body = some c) ∧
  ∀ base g w vs u, Inv CR base g σ w → LowS σ → 0 < σ.length → RelL g args vs.toList → Falls g th u →
    Goes σ σ' ∧ CallsD P f vs u w (fun e u' w' => ∃ v g', e = .returned v ∧ settle u' = .returning ∧ Ev g w g' w' ∧ Inv CR base g' σ' w')

def RoundOk (P : Program) (CR : CRel) (l i : Nat) (args : List D) (σ : Stack) (d : D) (σ' : Stack) : Prop :=
  (∃ lp, blk? σ l i = some (.loop lp)) ∧ ∀ base g w vs b, Inv CR base g σ w → LowS σ → 0 < σ.length → RelL g args vs.toList → RelV g (.yld l i) (.func (.yield b) #[] #[]) →
    Goes σ σ' ∧ ∃ f tmps asg body, (Instr.yield b vs).run P w = .ok (.round b f tmps asg body) w ∧
      ∀ c cs, ∃ v g' w', Steps P (lone (Frame.round b f tmps asg body .normal) (c :: cs) w) (lone (c.finish v) cs w') ∧ Ev g w g' w' ∧ Inv CR base g' σ' w' ∧ RelV g' d v

def Lands (k : List Item) : Exit → List Item → Prop
  | .normal, t => t = k
  | .exit id, t => ∃ k', t = .code (.exit id) :: k' ∧ exitTo id k' = exitTo id k
  | .ret, t => ∃ k', t = .code .ret :: k'
  | .thr _, _ => True

def Outs (S : Frame → Prop) (g : G) (b : Frame) (a : Act) (todo : List Item) : Exit → Prop
  | .thr d => d.clean = true ∧ ∃ v, RelV g d v ∧ S { b.atR a todo with mode := .panicking [{ v, recovered := false }] }
  | _ => S (b.atR a todo)

theorem Outs.imp {S S' : Frame → Prop} {g : G} {b : Frame} {a : Act} {todo : List Item} {x : Exit} (h : Outs S g b a todo x) (hs : ∀ fr, S fr → S' fr) : Outs S' g b a todo x := by
  cases x with
  | thr d => obtain ⟨h0, v, h1, h2⟩ := h; exact ⟨h0, v, h1, hs _ h2⟩
  | _ => exact hs _ h

def LoopOk (P : Program) (CR : CRel) (c : Cmd) (e : Env) (σ : Stack) (x : Exit) (e' : Env) (σ' : Stack) : Prop :=
  x ≠ .normal ∧ ∀ (ann : Ann) blk code n, codeC P ann n blk code = some c → ∀ base g0 w0 b a k cs g w B, At CR base ann.ownv g0 w0 n b g w B e σ a →
    ∃ g' w' B' a' todo, Outs (fun fr => Steps P (lone (b.atR a (.code code :: .inLoop code :: k)) cs w) (lone fr cs w')) g' b a' todo x ∧
      At CR base ann.ownv g0 w0 n b g' w' B' e' σ' a' ∧ g.le g' ∧ Lands k x todo ∧ Goes σ σ'

def RestOk (P : Program) (ann : Ann) (n blk : Nat) (rest : Cmd) : Option Code → Prop
  | none => rest = .nop
  | some q => codeC P ann n blk q = some rest

def MLoopOk (P : Program) (CR : CRel) (live : List Nat) (it : Opd) (nx ok bid : Nat) (c rest : Cmd) (e : Env) (σ : Stack) (x : Exit) (e' : Env) (σ' : Stack) : Prop :=
  ∀ (ann : Ann) blk rid ops p n it0 (qs : Option Code), it = .t it0 → mapC ann n (.loop (.seq (.region rid ops false) p)) = some (it0, nx, ok) → codeC P ann n bid p = some c → RestOk P ann n blk rest qs →
    ∀ base g0 w0 b a k cs g w B, At CR base ann.ownv g0 w0 n b g w B e σ a →
    ∃ g' w' B' a' todo, Outs (fun fr => Steps P (lone (b.atR a (.code (.seq (.region rid ops false) p) :: .inLoop (.seq (.region rid ops false) p) :: .inBlock bid :: (qs.toList.map Item.code ++ k))) cs w) (lone fr cs w')) g' b a' todo x ∧
      At CR base ann.ownv g0 w0 n b g' w' B' e' σ' a' ∧ g.le g' ∧ Lands k x todo ∧ Goes σ σ'

def AnsOk (P : Program) (CR : CRel) : Q → R → Prop
  | .call _ f args σ, .val d σ' => CallOk P CR f args σ d σ'
  | .round l i args σ, .val d σ' => RoundOk P CR l i args σ d σ'
  | .loop _ _ c e σ, .ctl x e' σ' => LoopOk P CR c e σ x e' σ'
  | .call _ f args σ, .thr d σ' => ThrowOk P CR f args σ d σ'
  | .mloop live it nx ok bid c rest e σ, .ctl x e' σ' => MLoopOk P CR live it nx ok bid c rest e σ x e' σ'
  | .dcall f args th σ, .val _ σ' => DCallOk P CR f args th σ σ'
  | _, _ => True

def OrOk (P : Program) (CR : CRel) (O : Oracle) : Prop := ∀ q r, O q = some r → AnsOk P CR q r

theorem vals_some {r : Option R} {d : D} {σ : Stack} (h : R.vals r = some (d, σ)) : r = some (.val d σ) := by
  unfold R.vals at h
  split at h
  · cases h; rfl
  · cases h

theorem ctls_some {r : Option R} {x : Exit} {e : Env} {σ : Stack} (h : R.ctls r = some (x, e, σ)) : r = some (.ctl x e σ) := by
  unfold R.ctls at h
  split at h
  · cases h; rfl
  · cases h

section
variable {P : Program} {CR : CRel} {O : Oracle} {ann : Ann} {n reg : Nat} {ops : Array Oper} {base : Nat} {g0 g : G} {w0 w : World} {b : Frame} {B : Nat → Nat} {e e' : Env} {σ σ' : Stack} {a : Act}
  {k : List Item} {cs : List Frame} {i : Nat} {rest : List Nat}

def Next1 (P : Program) (CR : CRel) (ann : Ann) (n : Nat) (ops : Array Oper) (base : Nat) (g0 : G) (w0 : World) (b : Frame) (g : G) (w : World) (a : Act) (k : List Item) (cs : List Frame) (i : Nat) (rest : List Nat) (σ : Stack) (e' : Env) (σ' : Stack) : Prop :=
  ∃ g' w' B' a', Steps P (lone (b.atR a (.inRegion ops (i :: rest) :: k)) cs w) (lone (b.atR a' (.inRegion ops rest :: k)) cs w') ∧
    At CR base ann.ownv g0 w0 n b g' w' B' e' σ' a' ∧ g.le g' ∧ Goes σ σ'

theorem At.go {V : List Nat} (ha : At CR base V g0 w0 n b g w B e σ a) {g' : G} {w' : World} {B' : Nat → Nat} {tm : Act} (he : Ev g w g' w') (hi : Inv CR base g' σ' w') (hg : Goes σ σ')
    (hf : Fr w0.heap.size V g' w' B' e' tm.tmps) (hs : tm.tmps.size = a.tmps.size) (hd : tm.defers = a.defers) : At CR base V g0 w0 n b g' w' B' e' σ' tm where
  fr := hf
  ev := ha.ev.trans he
  inv := hi
  low := hg.low ha.low
  pos := by rw [hg.len]; exact ha.pos
  size := by rw [hs]; exact ha.size
  marks := let ⟨rs, h⟩ := ha.marks; ⟨rs, by rw [hd]; exact h.ev he⟩
  round := round_mono ha.round he.le

theorem put_size {dst : Option Nat} {c : Value} : (a.put dst c).tmps.size = a.tmps.size := by cases dst <;> simp [Act.put]
theorem put_defers {dst : Option Nat} {c : Value} : (a.put dst c).defers = a.defers := by cases dst <;> simp [Act.put]

theorem kC_defer {ann : Ann} {key : Nat} {o : Oper} {kk : K} (h : kC P ann ops key o = some kk) : ∀ c, o.op ≠ .defer c := by
  intro c hc
  unfold kC at h
  rw [hc] at h
  cases h

theorem next_value (ha : At CR base ann.ownv g0 w0 n b g w B e σ a) {o : Oper} (ho : ops[i]? = some o) (hn : ∀ t, o.dst = some t → t < n) (hV : ∀ t, o.dst = some t → t ∉ ann.ownv)
    {g' : G} {w' : World} {d : D} {c : Value} (hsteps : Steps P (lone (b.atR a (.inRegion ops (i :: rest) :: k)) cs w) (lone (b.atR (a.put o.dst c) (.inRegion ops rest :: k)) cs w'))
    (he : Ev g w g' w') (hi : Inv CR base g' σ' w') (hg : Goes σ σ') (hr : RelT g' B e d c) :
    Next1 P CR ann n ops base g0 w0 b g w a k cs i rest σ (put o.dst d e) σ' := by
  refine ⟨g', w', B, a.put o.dst c, hsteps, ha.go he hi hg ?_ put_size put_defers, he.le, hg⟩
  exact (ha.fr.ev he).put hr hV fun t ht => by rw [ha.size]; exact hn t ht

theorem run_resolve_value {ρ : Operand → Value} {f : Operand} {args : Array Operand} {ts : Array TypeId} {ty : TypeId} {fn : Go.Fn} {first cap : Array Value} (hf : ρ f = .func fn first cap) (w : World) :
    (resolve ρ { callee := .value f, args, argTypes := ts } ty).run P w = .ok { target := .fn fn cap, args := first ++ args.map ρ } w := by
  simp [resolve, Deferred.ofValue, hf]

theorem run_callFunc {f : FuncId} {args : Array Value} {F : Func} (h1 : P.funcs[f]? = some F) (h2 : F.name ≠ "runtime.NumGoroutine") {c : Code} (h3 : F.body = some c) (w : World) :
    (callFunc f args).run P w = .ok (.enter f args) w := by
  simp [callFunc, program, Sem.run, h1, h2, h3]

theorem opsC_map {xs : Array Operand} {Xs : List Opd} {fb : Nat} {V : List Nat} {tmps : Array Value} {df : List Deferred} (hf : Fr fb V g w B e tmps) (hx : opdsC xs.toList = some Xs) :
    RelL g (Xs.map (Abs.opd e)) (xs.map (Act.mk tmps df).eval).toList := by
  have := hf.opds (df := df) hx
  simpa using this

theorem call_ok (hO : OrOk P CR O) (ha : At CR base ann.ownv g0 w0 n b g w B e σ a) {o : Oper} (ho : ops[i]? = some o) (hw : Region.wanted o (yielded ops a.tmps) = true)
    (hn : ∀ t, o.dst = some t → t < n) (hV : ∀ t, o.dst = some t → t ∉ ann.ownv) {f : Operand} {args : Array Operand} {ts : Array TypeId} (hop : o.op = .call { callee := .value f, args, argTypes := ts })
    {F : Opd} {Xs : List Opd} (hF : opdC f = some F) (hX : opdsC args.toList = some Xs) {kp : Bool} {d : D} (h : callv O kp (opd e F) (Xs.map (opd e)) σ = some (d, σ')) :
    Next1 P CR ann n ops base g0 w0 b g w a k cs i rest σ (put o.dst d e) σ' := by
  obtain ⟨tmps, df⟩ := a
  have hd : ∀ c, o.op ≠ .defer c := by intro c hc; rw [hop] at hc; cases hc
  have hfv := ha.fr.opd (df := df) hF
  have hxs := opsC_map (df := df) ha.fr hX
  unfold callv at h
  split at h
  · rename_i fi first cap hfe
    rw [hfe] at hfv
    have hans := hO _ _ (vals_some h)
    obtain ⟨⟨Fn, cd, hfn1, hfn2, hfn3⟩, hcall⟩ := hans
    generalize hev : (Act.mk tmps df).eval f = fv at hfv
    cases hfv with
    | fn _ _ _ first' cap' r1 r2 =>
      have hrun : (execOp (Act.mk tmps df).eval o).run P w = .ok (.enter fi (first' ++ args.map (Act.mk tmps df).eval ++ cap')) w := by
        simp only [execOp, hop, Sem.run_bind, run_resolve_value hev, Result.andThen_ok, invoke, run_callFunc hfn1 hfn2 hfn3]
      have hargs : RelL g (first ++ Xs.map (opd e) ++ cap) (first' ++ args.map (Act.mk tmps df).eval ++ cap').toList := by
        simpa using (r1.append hxs).append r2
      obtain ⟨hgo, hcalls⟩ := hcall base g w _ ha.inv ha.low ha.pos hargs
      obtain ⟨en, w', fr, ⟨v, g', rfl, he, hi, hr⟩, hcomes, hfr, hleave⟩ := hcalls (b.atR ⟨tmps, df⟩ (.inRegion ops (i :: rest) :: k) :: cs)
      refine next_value ha ho hn hV (Steps.head (step_enter ho hw hd hrun) (Steps.trans hcomes (Steps.one ?_))) he hi hgo (RelT.of hr)
      rw [step_leave_returned hleave, finish_op ho]
  · rename_i l j hfe
    rw [hfe] at hfv
    have hans := hO _ _ (vals_some h)
    generalize hev : (Act.mk tmps df).eval f = fv at hfv
    have hfv0 := hfv
    cases hfv with
    | mpv _ _ bb r1 =>
      obtain ⟨⟨lp, hlp⟩, _⟩ := hans
      obtain ⟨b0, hb0, hrel⟩ := ha.inv.dom _ _ _ r1
      rw [hlp] at hb0; cases hb0
      exact hrel.elim
    | itv _ _ bb L r1 r2 =>
      obtain ⟨⟨lp, hlp⟩, _⟩ := hans
      obtain ⟨b0, hb0, hrel⟩ := ha.inv.dom _ _ _ r1
      rw [hlp] at hb0; cases hb0
      rcases r2 with rfl | rfl <;> exact hrel.elim
    | bdv _ _ bb L r1 r2 =>
      obtain ⟨⟨lp, hlp⟩, _⟩ := hans
      obtain ⟨b0, hb0, hrel⟩ := ha.inv.dom _ _ _ r1
      rw [hlp] at hb0; cases hb0
      rcases r2 with ⟨c, rfl⟩ | rfl <;> exact hrel.elim
    | yld _ _ bb r1 =>
      obtain ⟨hgo, f0, tm0, asg, body, hy, hround⟩ := hans.2 base g w (args.map (Act.mk tmps df).eval) bb ha.inv ha.low ha.pos (by simpa using hxs) hfv0
      have hrun : (execOp (Act.mk tmps df).eval o).run P w = .ok (.round bb f0 tm0 asg body) w := by
        simp only [execOp, hop, Sem.run_bind, run_resolve_value hev, Result.andThen_ok, invoke]
        simpa using hy
      obtain ⟨v, g', w', hsteps, he, hi, hr⟩ := hround (b.atR ⟨tmps, df⟩ (.inRegion ops (i :: rest) :: k)) cs
      refine next_value ha ho hn hV (Steps.head (step_round ho hw hd hrun) ?_) he hi hgo (RelT.of hr)
      rw [finish_op ho] at hsteps
      exact hsteps
  · cases h
end
end Go.Abs

/-
  One operation of a region: variables of the frame's own; any operation; a row of operations.
-/
set_option linter.unusedVariables false
set_option linter.unusedSimpArgs false
namespace Go.Abs
open Go

section
variable {P : Program} {CR : CRel} {O : Oracle} {ann : Ann} {n reg : Nat} {ops : Array Oper} {base : Nat} {g0 g : G} {w0 w : World} {b : Frame} {B : Nat → Nat} {e e' : Env} {σ σ' : Stack} {a : Act}
  {k : List Item} {cs : List Frame} {i : Nat} {rest : List Nat}

theorem own_ok (ha : At CR base ann.ownv g0 w0 n b g w B e σ a) {o : Oper} (ho : ops[i]? = some o) (hw : Region.wanted o (yielded ops a.tmps) = true) (hd : ∀ c, o.op ≠ .defer c)
    {v : Nat} (hdst : o.dst = some v) (hV : v ∈ ann.ownv) (hn : v < n) {g1 : G} {ds : List D} {ca : Array Value} {el : TypeId}
    (hrun : (execOp a.eval o).run P w = .ok (.value (.pointer (some ⟨w.heap.size, 0, none⟩))) (w.alloc (.cells ca el)))
    (i1 : Inv CR base g1 σ' w) (e1 : Ev g w g1 w) (hg : Goes σ σ') (hr : RelL g1 ds ca.toList) (h1 : ∀ x ∈ ca.toList, x.oneCell' = true) :
    Next1 P CR ann n ops base g0 w0 b g w a k cs i rest σ ((v, .own (stamp e v) ds) :: e) σ' := by
  obtain ⟨tmps, df⟩ := a
  have i2 := i1.alloc (.cells ca el)
  have e2 := e1.trans (Ev.alloc g1 w (.cells ca el))
  have hsteps := step_value (P := P) (b := b) (a := ⟨tmps, df⟩) (k := k) (cs := cs) (rest := rest) ho hw hd hrun rfl
  rw [hdst] at hsteps
  have hsz : v < tmps.size := by have := ha.size; simp only at this; omega
  refine ⟨g1, _, _, _, .one hsteps, ha.go e2 i2 hg ((ha.fr.ev e2).putOwn hV hsz ⟨ha.ev.size, fun hb => ?_, fun o => ?_, ca, el, alloc_new, hr, h1⟩ fun t s cs' ht => ?_) put_size put_defers, e2.le, hg⟩
  · exact Nat.lt_irrefl _ (i1.has_lt hb)
  · cases hh : g1.imm w.heap.size o with
    | none => rfl
    | some x => exact absurd (i1.imm_lt hh) (Nat.lt_irrefl _)
  · have := (ha.fr.own t s cs' ht).2.2.lt; omega

theorem stv_ok (ha : At CR base ann.ownv g0 w0 n b g w B e σ a) {o : Oper} (ho : ops[i]? = some o) (hw : Region.wanted o (yielded ops a.tmps) = true)
    (hn : ∀ t, o.dst = some t → t < n) (hV : ∀ t, o.dst = some t → t ∉ ann.ownv) {t : TypeId} {x v : Nat} {y : Operand} {Y : Opd} (hop : o.op = .store t (.tmp x) y) (hy : opdC y = some Y) {sz : Nat} (hsz : sizeC P t = some sz)
    {s off : Nat} {cv p p' : List D} {nb : List (Nat × Nat)} (hin : inVar e v x = some (s, cv, off)) (hp : (opd e Y).cells = some p) (hlen : p.length = sz ∧ off + sz ≤ cv.length)
    (hnb : nilbs nb p σ = some (p', σ')) (hdst : o.dst = none) :
    Next1 P CR ann n ops base g0 w0 b g w a k cs i rest σ ((v, .own s (cv.take off ++ p' ++ cv.drop (off + sz))) :: e) σ' := by
  obtain ⟨tmps, df⟩ := a
  have hd : ∀ c, o.op ≠ .defer c := by intro c hc; rw [hop] at hc; cases hc
  obtain ⟨hgv, hpx⟩ := ha.fr.inVar hin
  obtain ⟨hvV, hptr, hob⟩ := ha.fr.own v s cv hgv
  obtain ⟨ca, el, hheap, hrl, h1c⟩ := hob.blk
  obtain ⟨hrp, h1p⟩ := (ha.fr.opd (df := df) hy).cells hp
  obtain ⟨g1, i1, e1, r1⟩ := nilbs_ok nb _ _ _ _ g _ hnb ha.inv hrp
  obtain ⟨_, hp'len, _⟩ := nilbs_keep nb _ _ _ _ hnb
  have hpl : ((Act.mk tmps df).eval y).cells.toList.length = sz := by rw [← r1.length, hp'len]; exact hlen.1
  have hpl' : ((Act.mk tmps df).eval y).cells.size = sz := by simpa using hpl
  have hcl : ca.size = cv.length := by have := hrl.length; simpa using this.symm
  obtain ⟨w', c', hrun, hb', hs', hc', hother, hsize, ho1, ho2, ho3⟩ := run_storeVar (P := P) (t := t) (w := w) (b := B v) (o := off) (v := (Act.mk tmps df).eval y) hsz (by simpa using hpl) h1p hheap (by omega)
  have hob1 := hob.ev e1
  have hcv : (Act.mk tmps df).eval (.tmp x) = .pointer (some ⟨B v, off, none⟩) := hpx
  have hrunO : (execOp (Act.mk tmps df).eval o).run P w = .ok .skip w' := by
    simp [execOp, hop, Instr.storeAt, hcv, Instr.sureAddr, hrun]
  have hoth : ∀ b', b' ≠ B v → w'.heap[b']? = w.heap[b']? := hother
  have i2 : Inv CR base g1 σ' w' := i1.foreign (fun b' hb'' hk => hoth b' fun hh => by
    subst hh
    rcases hk with hk | ⟨o2, v2, hk⟩
    · exact hob1.free hk
    · rw [hob1.noimm] at hk; cases hk) (by omega)
  have hwrite : RelL g1 (cv.take off ++ p' ++ cv.drop (off + sz)) c'.toList ∧ ∀ z ∈ c'.toList, z.oneCell' = true := by
    have hrow := row_write (c := ca) (c' := c') (bo := 0) (off := off) (vs := ca.toList) (ps := ((Act.mk tmps df).eval y).cells.toList) (fun j z hz => ⟨by simpa using hz, h1c z (List.mem_of_getElem? hz)⟩) h1p (by simp; omega)
      (by rw [hpl]; simpa using hc')
    rw [hpl] at hrow
    have hrel := (((hrl.mono e1.le).take off).append r1).append ((hrl.mono e1.le).drop (off + sz))
    have heq : c'.toList = ca.toList.take off ++ ((Act.mk tmps df).eval y).cells.toList ++ ca.toList.drop (off + sz) := by
      have hll : (ca.toList.take off ++ ((Act.mk tmps df).eval y).cells.toList ++ ca.toList.drop (off + sz)).length = c'.toList.length := by
        simp only [List.length_append, hpl, List.length_take, List.length_drop, Array.length_toList, hs']; omega
      apply List.ext_getElem? 
      intro j
      by_cases hj : j < c'.toList.length
      · have hj2 := hj
        rw [← hll] at hj2
        have := (hrow j _ (List.getElem?_eq_getElem hj2)).1
        rw [List.getElem?_eq_getElem hj2]
        simpa using this
      · rw [List.getElem?_eq_none (by omega), List.getElem?_eq_none (by omega)]
    rw [heq]
    refine ⟨hrel, fun z hz => ?_⟩
    simp only [List.mem_append] at hz
    rcases hz with (hz | hz) | hz
    · exact h1c z (List.mem_of_mem_take hz)
    · exact h1p z hz
    · exact h1c z (List.mem_of_mem_drop hz)
  have hob2 : OwnB w0.heap.size g1 w' (B v) (cv.take off ++ p' ++ cv.drop (off + sz)) := ⟨hob1.lo, hob1.free, hob1.noimm, c', el, hb', hwrite.1, hwrite.2⟩
  have hsteps := step_value (P := P) (b := b) (a := ⟨tmps, df⟩) (k := k) (cs := cs) (rest := rest) ho hw hd hrunO rfl
  rw [hdst] at hsteps
  have hgo := nilbs_goes _ _ _ _ _ hnb
  refine ⟨g1, w', B, ⟨tmps, df⟩, .one hsteps, ⟨?_, ?_, i2, hgo.low ha.low, by rw [hgo.len]; exact ha.pos, ha.size, ?_, round_mono ha.round e1.le⟩, e1.le, hgo⟩
  · exact (ha.fr.ev e1).setOwn hgv hob2 fun b' _ hne => hoth b' hne
  · have h0 := ha.ev.trans e1
    refine ⟨h0.le, ho1.trans h0.os, ho2.trans h0.tape, ho3.trans h0.output, by have := h0.size; omega, fun b' hb'' hnb' => ?_, h0.img, h0.immN⟩
    rw [hoth b' (by have := hob.lo; omega)]
    exact h0.kept b' hb'' hnb'
  · obtain ⟨rs, hm⟩ := ha.marks
    have hm1 := hm.ev e1
    refine ⟨rs, hm1.eq, hm1.nodup, fun r hr => ?_⟩
    have hmr := hm1.all r hr
    refine ⟨hmr.lo, hmr.free, hmr.noimm, ?_⟩
    rw [hoth r, hmr.blk]
    intro hh; subst hh
    have := hmr.blk
    rw [hheap] at this; cases this

def KEq (P : Program) (ann : Ann) (o : Oper) (kk : K) : Prop :=
    match kk with
    | .call _ F Xs => ∃ f args ts, o.op = .call { callee := .value f, args, argTypes := ts } ∧ opdC f = some F ∧ opdsC args.toList = some Xs
    | .alcv _ z => ∃ el v, o.op = .alloc el ∧ zeroC P el = some z ∧ o.dst = some v ∧ v ∈ ann.ownv
    | .boxv X => ∃ t x v, o.op = .box t x ∧ opdC x = some X ∧ o.dst = some v ∧ v ∈ ann.ownv
    | .stv _ _ sz x Y => ∃ t y, o.op = .store t (.tmp x) y ∧ opdC y = some Y ∧ sizeC P t = some sz
    | .pan X => ∃ y, o.op = .panic y ∧ opdC y = some X
    | .rcv => ∃ args ts, o.op = .call { callee := .builtin .recover, args, argTypes := ts }
    | _ => True

theorem leafEq {X Y : Opd} {t : TypeId} {bo : BinOp} {kk : K} {o : Oper} (hk : eqC P bo t X Y = some kk) : KEq P ann o kk := by
  unfold eqC at hk
  split at hk
  case h_2 => cases hk
  split at hk
  · cases hk
  split at hk
  · obtain ⟨ag, hag, rfl⟩ := Option.map_eq_some_iff.1 hk
    trivial
  · obtain ⟨ag, hag, rfl⟩ := Option.map_eq_some_iff.1 hk
    trivial
  · cases hk

theorem kC_eq {kk : K} {key : Nat} {o : Oper} (hk : kC P ann ops key o = some kk) : KEq P ann o kk := by
  unfold kC at hk
  split at hk
  · rename_i x ho
    obtain ⟨X, hX, rfl⟩ := Option.map_eq_some_iff.1 hk
    trivial
  · rename_i x ho
    split at hk
    · rename_i hnil _ _
      split at hk
      · obtain ⟨X, hX, rfl⟩ := Option.map_eq_some_iff.1 hk
        trivial
      · obtain ⟨X, hX, rfl⟩ := Option.map_eq_some_iff.1 hk
        trivial
    · obtain ⟨X, hX, rfl⟩ := Option.map_eq_some_iff.1 hk
      trivial
  · rename_i c x y ho
    split at hk
    · rename_i c' x' y' h1 h2 h3
      cases hk
      trivial
    · cases hk
  · rename_i el ho
    split at hk
    · rename_i z d0 hz hd0
      split at hk
      · split at hk
        case h_2 => cases hk
        split at hk
        case h_2 => cases hk
        split at hk
        case h_2 => cases hk
        cases hk
        trivial
      cases hk
      split
      · rename_i hc; exact ⟨el, d0, ho, hz, hd0, by simpa using hc⟩
      · trivial
    · cases hk
  · rename_i t x ho
    split at hk
    · rename_i x' d0 hx hd0
      cases hk
      by_cases hc : ann.ownv.contains d0 = true
      · simp only [hc, if_true]; exact ⟨t, x, d0, ho, hx, hd0, by simpa using hc⟩
      · rw [if_neg hc]
        split
        · split <;> trivial
        · trivial
    · cases hk
  · rename_i t ps ho
    split at hk
    · rename_i fs z ht hz
      split at hk
      · rename_i hall
        obtain ⟨parts, hp, rfl⟩ := Option.map_eq_some_iff.1 hk
        trivial
      · cases hk
    · rename_i n el z ht hz
      split at hk
      · rename_i wd hw
        obtain ⟨parts, hp, rfl⟩ := Option.map_eq_some_iff.1 hk
        trivial
      · cases hk
    · cases hk
  · rename_i t n ps ho
    split at hk
    · rename_i el ht
      split at hk
      · rename_i wd z d0 hw hz _
        split at hk
        · rename_i hc
          obtain ⟨parts, hp, rfl⟩ := Option.map_eq_some_iff.1 hk
          dsimp only
          split
          · trivial
          split <;> trivial
        · cases hk
      · cases hk
    · cases hk
  · rename_i t x ho
    split at hk
    · rename_i ag sz n hag hsz hx
      split at hk
      · rename_i hc
        simp only [Bool.and_eq_true, decide_eq_true_eq] at hc
        cases hk
        have hxe : x = .tmp n := by
          cases x <;> simp only [opdC, Option.some.injEq, Opd.t.injEq, reduceCtorEq, Option.map_eq_some_iff, and_false, exists_false] at hx
          rw [hx]
        split
        · trivial
        · split
          · trivial
          · split <;> trivial
      · cases hk
    · cases hk
  · rename_i t x y ho
    split at hk
    · rename_i sz n y' hsz hx hy
      cases hk
      have hxe : x = .tmp n := by
        cases x <;> simp only [opdC, Option.some.injEq, Opd.t.injEq, reduceCtorEq, Option.map_eq_some_iff, and_false, exists_false] at hx
        rw [hx]
      by_cases hc : ann.ownv.contains (rootC ops 8 n) = true
      · simp only [hc, if_true]; exact ⟨t, y, by rw [ho, hxe], hy, hsz⟩
      · rw [if_neg hc]; split <;> trivial
    · cases hk
  · rename_i b t x y u ho
    split at hk
    · rename_i hx hy
      cases hk
      trivial
    · rename_i hx hy
      exact leafEq hk
    · rename_i hx hy
      exact leafEq hk
    · rename_i hx hy
      exact leafEq hk
    · rename_i ht hx hy
      split at hk <;> cases hk <;> trivial
    · rename_i ht hx hy
      unfold isC at hk
      split at hk <;> cases hk <;> trivial
    · rename_i ht hx hy
      split at hk
      · split at hk <;> cases hk <;> trivial
      · cases hk
    · rename_i ht hx hy
      unfold isC at hk
      split at hk <;> cases hk <;> trivial
    · rename_i ht hx hy
      split at hk <;> cases hk <;> trivial
    · cases hk
  · rename_i x ho
    obtain ⟨X, hX, rfl⟩ := Option.map_eq_some_iff.1 hk
    trivial
  · rename_i b t x ho
    obtain ⟨X, hX, rfl⟩ := Option.map_eq_some_iff.1 hk
    trivial
  · rename_i s t x ho
    split at hk
    · rename_i hs ht hx
      cases hk
      trivial
    · split at hk <;> cases hk <;> trivial
    · split at hk <;> cases hk <;> trivial
    · cases hk
  · rename_i t x ho
    split at hk
    · obtain ⟨X, hX, rfl⟩ := Option.map_eq_some_iff.1 hk
      trivial
    · cases hk
  · rename_i f xs ys ho
    split at hk
    · rename_i hx hy
      cases hk
      trivial
    · cases hk
  · rename_i t x y ho
    split at hk
    · rename_i el ht
      split at hk
      · rename_i hw hb hz hx hy
        split at hk
        · rename_i hc
          cases hk
          trivial
        · cases hk
      · cases hk
    · cases hk
  · rename_i t x lo hh mx ho
    split at hk
    · rename_i ht hx hlo hhi hmx
      obtain ⟨wd, hw, rfl⟩ := Option.map_eq_some_iff.1 hk
      trivial
    · rename_i ht hx hlo hhi hmx
      obtain ⟨wd, hw, rfl⟩ := Option.map_eq_some_iff.1 hk
      have hm : mx = none := by
        cases mx with
        | none => rfl
        | some m => simp [optC, Option.map_eq_some_iff] at hmx
      subst hm
      trivial
    · rename_i ht hx hlo hhi hmx
      cases hk
      trivial
    · cases hk
  · rename_i s x i ho
    split at hk
    · rename_i fs x' hs hx
      split at hk
      · rename_i off sz hfc
        split at hk
        · rename_i hpos
          cases hk
          trivial
        · cases hk
      · cases hk
    · cases hk
  · rename_i s x i ho
    split at hk
    · rename_i fs x' hs hx
      split at hk
      · rename_i f hfi
        split at hk
        · rename_i hag hsz
          split at hk
          · cases hk
            trivial
          · cases hk
        · cases hk
      · cases hk
    · cases hk
  · rename_i t x y ho
    split at hk
    · rename_i ht hx hy
      obtain ⟨wd, hw, rfl⟩ := Option.map_eq_some_iff.1 hk
      trivial
    · rename_i ht hx hy
      obtain ⟨wd, hw, rfl⟩ := Option.map_eq_some_iff.1 hk
      trivial
    · cases hk
  · rename_i t x y ho
    split at hk
    · rename_i ht hx hy
      split at hk
      · rename_i hag hsz
        split at hk
        · cases hk
          trivial
        · cases hk
      · cases hk
    · rename_i ht hx hy
      cases hk
      trivial
    · cases hk
  · rename_i x i ho
    obtain ⟨X, hX, rfl⟩ := Option.map_eq_some_iff.1 hk
    trivial
  · rename_i c ho
    obtain ⟨callee, args, ts⟩ := c
    dsimp only at hk
    split at hk
    · rename_i f
      split at hk
      · rename_i hf hx
        cases hk
        exact ⟨f, args, ts, ho, hf, hx⟩
      · cases hk
    · split at hk
      · rename_i t tr x r hts ha
        split at hk
        · rename_i ht hx
          cases hk
          trivial
        · rename_i ht hx
          cases hk
          trivial
        · rename_i ht hx
          cases hk
          trivial
        · rename_i ht
          cases hk
          trivial
        · rename_i ht
          split at hk
          · rename_i hr
            cases hk
            trivial
          · cases hk
        · cases hk
      · cases hk
    · cases hk
      exact ⟨_, _, ho⟩
    · split at hk
      · rename_i ha
        split at hk
        · rename_i hx hy
          cases hk
          trivial
        · cases hk
      · cases hk
    · split at hk
      · rename_i ha
        split at hk
        · rename_i hx hy
          cases hk
          trivial
        · cases hk
      · cases hk
    · split at hk
      · rename_i t u x y hts ha
        split at hk
        · rename_i ht hu hx hy
          split at hk
          case isFalse => cases hk
          split at hk
          · rename_i hw hb hz
            split at hk
            · rename_i hc
              cases hk
              split
              · trivial
              · split
                · trivial
                · split
                  · trivial
                  · split <;> trivial
            · cases hk
          · cases hk
        · cases hk
      · cases hk
    · cases hk
  · rename_i t x ho
    split at hk
    · obtain ⟨X, hX, rfl⟩ := Option.map_eq_some_iff.1 hk
      trivial
    · cases hk
  · rename_i x xt t ok ho
    split at hk
    · cases hk
    · split at hk
      · obtain ⟨z, hz, rfl⟩ := Option.map_eq_some_iff.1 hk
        trivial
      · cases hk
        trivial
    · cases hk
  · rename_i x ho
    obtain ⟨X, hX, rfl⟩ := Option.map_eq_some_iff.1 hk
    exact ⟨x, ho, hX⟩
  · rename_i t ho
    cases hk
    trivial
  · split at hk <;> cases hk <;> trivial
  · rename_i t x ho
    split at hk
    · rename_i ht hx
      cases hk
      trivial
    · cases hk
  · rename_i x ho
    split at hk
    · rename_i hx
      cases hk
      trivial
    · cases hk
  · rename_i t x y ok ho
    split at hk
    · split at hk
      · cases hk
        trivial
      · cases hk
    · cases hk
  · rename_i t m x y ho
    split at hk
    · split at hk
      · cases hk
        trivial
      · cases hk
    · cases hk
  · rename_i t m x y ho
    split at hk
    · split at hk
      · cases hk
        trivial
      · cases hk
    · cases hk
  · cases hk

theorem sop_makes {kk : K} (h : kk.makes = true) : sop e σ kk = none := by
  cases kk <;> simp [K.makes] at h <;> rfl

theorem aop_ok (hO : OrOk P CR O) (ha : At CR base ann.ownv g0 w0 n b g w B e σ a) {o : Oper} (ho : ops[i]? = some o) (hw : Region.wanted o (yielded ops a.tmps) = true)
    {ntr : Bool} {op : Op} (hop : opC P ann n reg ops ntr i o = some op) (h : aop O op e σ = some (e', σ')) :
    Next1 P CR ann n ops base g0 w0 b g w a k cs i rest σ e' σ' := by
  unfold opC at hop
  split at hop
  case h_2 => cases hop
  rename_i kk hk
  split at hop
  case h_2 => cases hop
  rename_i gd hgd hdn
  simp only [Option.ite_none_right_eq_some, Bool.and_eq_true] at hop
  obtain ⟨⟨hown, hst⟩, hop⟩ := hop
  cases hop
  have hn : ∀ t, o.dst = some t → t < n := by
    intro t ht; rw [ht] at hdn; simpa using hdn
  have hV : kk.makes = false → ∀ t, o.dst = some t → t ∉ ann.ownv := by
    intro hm t ht
    rw [ht] at hown
    simp [hm] at hown
    simpa using hown
  have hd := kC_defer hk
  have hkeq := kC_eq hk
  unfold aop at h
  dsimp only at h
  split at h
  · -- a call
    rename_i kp F Xs
    split at h
    case h_2 => cases h
    rename_i d σ1 hc
    split at h
    case isFalse => cases h
    cases h
    obtain ⟨f, args, ts, h1, h2, h3⟩ := hkeq
    exact call_ok hO ha ho hw hn (hV rfl) h1 h2 h3 hc
  · -- a variable
    rename_i nb z
    obtain ⟨el, v, h1, h2, h3, h4⟩ := hkeq
    rw [h3] at h
    cases hnb : nilbs nb z σ with
    | none => simp [hnb] at h
    | some x =>
      obtain ⟨cs', σ1⟩ := x
      simp only [hnb, Option.some.injEq, Prod.mk.injEq] at h
      obtain ⟨rfl, rfl⟩ := h
      obtain ⟨i0, vz, hinfo, hzero, hrz, h1z⟩ := zeroC_rel g h2
      obtain ⟨g1, i1, e1, r1⟩ := nilbs_ok nb _ _ _ _ g _ hnb ha.inv hrz
      exact own_ok (el := el) ha ho hw hd h3 h4 (hn _ h3) (by simp [execOp, h1, run_alloc hinfo hzero]) i1 e1 (nilbs_goes _ _ _ _ _ hnb) r1 h1z
  · -- a variable with its value
    rename_i X
    obtain ⟨t, x, v, h1, h2, h3, h4⟩ := hkeq
    rw [h3] at h
    cases hcx : (opd e X).cells with
    | none => simp [hcx] at h
    | some cs' =>
      simp only [hcx, Option.some.injEq, Prod.mk.injEq] at h
      obtain ⟨rfl, rfl⟩ := h
      obtain ⟨tmps, df⟩ := a
      obtain ⟨hr, h1z⟩ := (ha.fr.opd (df := df) h2).cells hcx
      exact own_ok (el := t) ha ho hw hd h3 h4 (hn _ h3) (by simp [execOp, h1, Instr.box, newVar, newRow]) ha.inv (Ev.refl g w) (.refl σ) hr h1z
  · -- a variable is written
    rename_i v nb sz x X
    obtain ⟨t, y, h1, h2, h3⟩ := hkeq
    have hdst : o.dst = none := by simpa [K.stvs] using hst
    split at h
    case h_2 => cases h
    rename_i s cv off p hin hp
    split at h
    case isFalse => cases h
    rename_i hlen
    split at h
    case h_2 => cases h
    rename_i p' σ1 hnb
    cases h
    exact stv_ok ha ho hw hn (hV rfl) h1 h2 h3 hin hp hlen hnb hdst
  · -- any other
    rename_i k1 h1 h2 h3 h4
    cases hs : sop e σ kk with
    | none => simp [hs] at h
    | some x =>
      obtain ⟨d, σ1⟩ := x
      simp only [hs, Option.map_some, Option.some.injEq, Prod.mk.injEq] at h
      obtain ⟨rfl, rfl⟩ := h
      have hm : kk.makes = false := by
        cases hm : kk.makes
        · rfl
        · rw [sop_makes hm] at hs; cases hs
      obtain ⟨tmps, df⟩ := a
      obtain ⟨x, c, g', w', hrun, hx, he, hi, hr⟩ := sop_ok (df := df) ha.fr ha.inv hk hs
      exact next_value ha ho hn (hV hm) (.one (step_value ho hw hd hrun hx)) he hi (sop_goes hs) hr

inductive All2 {α β : Type} (R : α → β → Prop) : List α → List β → Prop
  | nil : All2 R [] []
  | cons {x : α} {y : β} {xs : List α} {ys : List β} : R x y → All2 R xs ys → All2 R (x :: xs) (y :: ys)

def OpAt (P : Program) (ann : Ann) (n reg : Nat) (ops : Array Oper) (i : Nat) (x : Op) : Prop := ∃ o ntr, ops[i]? = some o ∧ opC P ann n reg ops ntr i o = some x

theorem opC_inv {ntr : Bool} {o : Oper} {op : Op} (h : opC P ann n reg ops ntr i o = some op) :
    op.dst = o.dst ∧ (∀ t, o.dst = some t → t < n) ∧ ((o.guard = none ∧ op.grd = none) ∨ ∃ j d bb, o.guard = some (j, bb) ∧ op.grd = some (d, bb) ∧ (ops[j]?).bind (·.dst) = some d ∧ (∀ t, o.dst = some t → t ∉ ann.ownv)) := by
  unfold opC at h
  split at h
  case h_2 => cases h
  rename_i kk hk
  split at h
  case h_2 => cases h
  rename_i gd hgd hdn
  simp only [Option.ite_none_right_eq_some, Bool.and_eq_true] at h
  obtain ⟨⟨hown, hst⟩, h⟩ := h
  cases h
  refine ⟨rfl, fun t ht => by rw [ht] at hdn; simpa using hdn, ?_⟩
  cases hg : o.guard with
  | none => rw [hg] at hgd; cases hgd; exact .inl ⟨rfl, rfl⟩
  | some x =>
    obtain ⟨j, bb⟩ := x
    rw [hg] at hgd
    dsimp only at hgd
    cases hj : (ops[j]?).bind (·.dst) with
    | none => rw [hj] at hgd; cases hgd
    | some d =>
      rw [hj] at hgd; cases hgd
      refine .inr ⟨j, d, bb, rfl, rfl, hj, fun t ht => ?_⟩
      rw [ht, hg] at hown
      simpa using hown

theorem ops_okR (hO : OrOk P CR O) {tl : List Nat} : ∀ (is : List Nat) (xs : List Op) (e : Env) (σ : Stack) (g : G) (w : World) (B : Nat → Nat) (a : Act), All2 (OpAt P ann n reg ops) is xs →
    aops O xs e σ = some (e', σ') → At CR base ann.ownv g0 w0 n b g w B e σ a →
    ∃ g' w' B' a', Steps P (lone (b.atR a (.inRegion ops (is ++ tl) :: k)) cs w) (lone (b.atR a' (.inRegion ops tl :: k)) cs w') ∧ At CR base ann.ownv g0 w0 n b g' w' B' e' σ' a' ∧ g.le g' ∧ Goes σ σ'
  | [], xs, e, σ, g, w, B, a, hF, h, ha => by
    cases hF
    simp only [aops, Option.some.injEq, Prod.mk.injEq] at h
    obtain ⟨rfl, rfl⟩ := h
    exact ⟨g, w, B, a, .refl _ _, ha, g.le_refl, .refl σ⟩
  | i :: is, xs, e, σ, g, w, B, a, hF, h, ha => by
    cases hF with
    | cons hx hF =>
      rename_i x xs
      obtain ⟨o, ntr, ho, hop⟩ := hx
      obtain ⟨hdst, hn, hgrd⟩ := opC_inv hop
      simp only [aops] at h
      have hgo : ∀ {e1 σ1 g1 w1 B1 a1}, Steps P (lone (b.atR a (.inRegion ops (i :: is ++ tl) :: k)) cs w) (lone (b.atR a1 (.inRegion ops (is ++ tl) :: k)) cs w1) →
          At CR base ann.ownv g0 w0 n b g1 w1 B1 e1 σ1 a1 → g.le g1 → Goes σ σ1 → aops O xs e1 σ1 = some (e', σ') →
          ∃ g' w' B' a', Steps P (lone (b.atR a (.inRegion ops (i :: is ++ tl) :: k)) cs w) (lone (b.atR a' (.inRegion ops tl :: k)) cs w') ∧ At CR base ann.ownv g0 w0 n b g' w' B' e' σ' a' ∧ g.le g' ∧ Goes σ σ' := by
        intro e1 σ1 g1 w1 B1 a1 h1 h2 h3 h4 h5
        obtain ⟨g2, w2, B2, a2, k1, k2, k3, k4⟩ := ops_okR hO is xs _ _ _ _ _ _ hF h5 h2
        exact ⟨g2, w2, B2, a2, h1.trans k1, k2, h3.trans' k3, h4.trans k4⟩
      rcases hgrd with ⟨hg1, hg2⟩ | ⟨j, d, bb, hg1, hg2, hj, hV⟩
      · rw [hg2] at h
        simp only [Option.bind_eq_some_iff, Prod.exists] at h
        obtain ⟨e1, σ1, h1, h2⟩ := h
        obtain ⟨g1, w1, B1, a1, k1, k2, k3, k4⟩ := aop_ok (k := k) (cs := cs) (rest := is ++ tl) hO ha ho (by simp [Region.wanted, hg1]) hop h1
        exact hgo k1 k2 k3 k4 h2
      · rw [hg2] at h
        dsimp only at h
        split at h
        case h_2 => cases h
        rename_i bv hbv
        have hy : yielded ops a.tmps j = bv := by
          have hrel := ha.fr.rel d
          unfold yielded
          rw [hj]
          simp only [Option.bind_some]
          cases hg : get e d with
          | bool b =>
            rw [hg] at hrel hbv
            have hrel' : RelV g (.bool b) (a.tmps.getD d Go.undef) := hrel
            have hval := hrel'.bool_inv
            simp only [D.bit, Option.some.injEq] at hbv
            subst hbv
            rw [Array.getD_eq_getD_getElem?] at hval
            cases hd : a.tmps[d]? with
            | none => rw [hd] at hval; simp [Go.undef] at hval
            | some y => rw [hd] at hval; simp at hval; subst hval; rfl
          | tup ds =>
            cases ds with
            | nil =>
              rw [hg] at hrel hbv
              have hrel' : RelV g (.tup []) (a.tmps.getD d Go.undef) := hrel
              have hval : a.tmps.getD d Go.undef = .tuple #[] := by
                generalize a.tmps.getD d Go.undef = z at hrel'
                cases hrel' with | tup _ cs hl =>
                  cases cs with | mk cs => cases cs with
                    | nil => rfl
                    | cons c cs => cases hl
              simp only [D.bit, Option.some.injEq] at hbv
              subst hbv
              rw [Array.getD_eq_getD_getElem?] at hval
              cases hd : a.tmps[d]? with
              | none => rfl
              | some y => rw [hd] at hval; simp at hval; subst hval; rfl
            | cons x xs => rw [hg] at hbv; simp [D.bit] at hbv
          | _ => rw [hg] at hbv; simp [D.bit] at hbv
        split at h
        · rename_i hb
          simp only [Option.bind_eq_some_iff, Prod.exists] at h
          obtain ⟨e1, σ1, h1, h2⟩ := h
          obtain ⟨g1, w1, B1, a1, k1, k2, k3, k4⟩ := aop_ok (k := k) (cs := cs) (rest := is ++ tl) hO ha ho (by simp [Region.wanted, hg1, hy, hb]) hop h1
          exact hgo k1 k2 k3 k4 h2
        · rename_i hb
          have hstep := stepR_op_skip (P := P) (b := b) (a := a) (k := k) (cs := cs) (w := w) (ops := ops) (i := i) (rest := is ++ tl) (by simp [ho, Region.wanted, hg1, hy, hb])
          rw [show (ops[i]?).bind (·.dst) = o.dst from by rw [ho]; rfl] at hstep
          obtain ⟨g1, w1, B1, a1, k1, k2, k3, k4⟩ := next_value (d := .tup []) ha ho hn hV (.one hstep) (Ev.refl g w) ha.inv (.refl σ) (RelT.of (.tup [] #[] .nil))
          rw [hdst] at h
          exact hgo k1 k2 k3 k4 h

theorem ops_ok (hO : OrOk P CR O) (is : List Nat) (xs : List Op) (e : Env) (σ : Stack) (g : G) (w : World) (B : Nat → Nat) (a : Act) (hF : All2 (OpAt P ann n reg ops) is xs)
    (h : aops O xs e σ = some (e', σ')) (ha : At CR base ann.ownv g0 w0 n b g w B e σ a) :
    ∃ g' w' B' a', Steps P (lone (b.atR a (.inRegion ops is :: k)) cs w) (lone (b.atR a' (.inRegion ops [] :: k)) cs w') ∧ At CR base ann.ownv g0 w0 n b g' w' B' e' σ' a' ∧ g.le g' ∧ Goes σ σ' := by
  have := ops_okR (k := k) (cs := cs) (tl := []) hO is xs e σ g w B a hF h ha
  simpa using this

theorem callr_inv {O : Oracle} {fv : D} {args : List D} {r : R} (h : callr O fv args σ = some r) : ∃ f first cap, fv = .fn f first cap ∧ O (.call false f (first ++ args ++ cap) σ) = some r := by
  unfold callr at h
  split at h
  · exact ⟨_, _, _, rfl, h⟩
  · cases h

theorem opC_k {ntr : Bool} {o : Oper} {op : Op} (h : opC P ann n reg ops ntr i o = some op) : kC P ann ops (reg * 1000 + i) o = some op.k ∧ (op.k.makes = false → ∀ t, o.dst = some t → t ∉ ann.ownv) := by
  unfold opC at h
  split at h
  case h_2 => cases h
  rename_i kk hk
  split at h
  case h_2 => cases h
  simp only [Option.ite_none_right_eq_some, Bool.and_eq_true] at h
  obtain ⟨⟨hown, hst⟩, h⟩ := h
  cases h
  refine ⟨hk, fun hm t ht => ?_⟩
  dsimp only at hm
  rw [ht] at hown
  simp [hm] at hown
  simpa using hown

theorem step_panic {o : Oper} {v : Value} {w' : World} {is : List Nat} (ho : ops[i]? = some o) (hw : Region.wanted o (yielded ops a.tmps) = true) (hd : ∀ c, o.op ≠ .defer c)
    (hr : (execOp a.eval o).run P w = .halt (.panic v) w') :
    step P (lone (b.atR a (.inRegion ops (i :: is) :: k)) cs w) = .next (lone { b.atR a (.inRegion ops (i :: is) :: k) with mode := .panicking [{ v, recovered := false }] } cs w') := by
  have hg := stepGR_op (P := P) (b := b) (k := k) (cs := cs) (w := w) (rest := is) ho hw
  rw [Oper.semAt_eq _ _ _ hd] at hg
  exact step_lone_go (by rw [hg, ← Frame.raise_atR]; simp [stepG.apply, hr])

end
end Go.Abs

/-
  Operations whose order is of no matter: what one reads and writes; two that do not clash change places.
-/
set_option linter.unusedVariables false
set_option linter.unusedSimpArgs false
namespace Go.Abs
open Go

def Agree (ts : List Nat) (e e' : Env) : Prop := ∀ t ∈ ts, get e' t = get e t

theorem Agree.mono {ts us : List Nat} {e e' : Env} (h : Agree us e e') (hs : ∀ t ∈ ts, t ∈ us) : Agree ts e e' := fun t ht => h t (hs t ht)
theorem Agree.app {ts us : List Nat} {e e' : Env} : Agree (ts ++ us) e e' ↔ Agree ts e e' ∧ Agree us e e' :=
  ⟨fun h => ⟨fun t ht => h t (by simp [ht]), fun t ht => h t (by simp [ht])⟩, fun h t ht => (List.mem_append.1 ht).elim (h.1 t) (h.2 t)⟩
theorem Agree.cons {t : Nat} {us : List Nat} {e e' : Env} : Agree (t :: us) e e' ↔ get e' t = get e t ∧ Agree us e e' :=
  ⟨fun h => ⟨h t (by simp), fun u hu => h u (by simp [hu])⟩, fun h u hu => (List.mem_cons.1 hu).elim (fun x => x ▸ h.1) (h.2 u)⟩

variable {e e' : Env} {σ σ' : Stack}

theorem opd_agree {x : Opd} (h : Agree x.tmps e e') : opd e' x = opd e x := by
  cases x with
  | t n => simp only [opd]; rw [h n (by simp [Opd.tmps])]
  | c d => rfl

theorem opds_agree {xs : List Opd} (h : Agree (xs.flatMap Opd.tmps) e e') : xs.map (opd e') = xs.map (opd e) := by
  induction xs with
  | nil => rfl
  | cons x xs ih =>
    simp only [List.flatMap_cons, Agree.app] at h
    simp only [List.map_cons, opd_agree h.1, ih h.2]

theorem fillD_agree : ∀ {ps : List (Nat × Nat × Opd)} {cs : List D}, Agree (ps.flatMap fun p => p.2.2.tmps) e e' → fillD e' ps cs = fillD e ps cs
  | [], cs, h => rfl
  | (off, sz, x) :: ps, cs, h => by
    simp only [List.flatMap_cons, Agree.app] at h
    simp only [fillD, opd_agree h.1]
    split
    · split
      · exact fillD_agree h.2
      · rfl
    · rfl

theorem bnd_agree {m : Nat} {dfl : Option Nat} {x : Option Opd} (h : Agree ((x.map Opd.tmps).getD []) e e') : bnd e' m dfl x = bnd e m dfl x := by
  cases x with
  | none => rfl
  | some x => simp only [bnd]; rw [opd_agree (by simpa using h)]

theorem bounds_agree {n : Nat} {lo hi mx : Option Opd} (h1 : Agree ((lo.map Opd.tmps).getD []) e e') (h2 : Agree ((hi.map Opd.tmps).getD []) e e') (h3 : Agree ((mx.map Opd.tmps).getD []) e e') :
    bounds n e' lo hi mx = bounds n e lo hi mx := by
  simp only [bounds, bnd_agree h1, bnd_agree h2, bnd_agree h3]

theorem inVar_agree {v a : Nat} (h1 : get e' v = get e v) (h2 : get e' a = get e a) : inVar e' v a = inVar e v a := by
  simp only [inVar, h1, h2]

theorem sop_agree {k : K} (h : Agree k.tmps e e') : sop e' σ k = sop e σ k := by
  cases k <;> simp only [K.tmps, Agree.app, Agree.cons] at h
  case mv x => simp only [sop, opd_agree h]
  case nilb => rfl
  case pick c a b => simp only [sop, opd_agree h.1.1, opd_agree h.1.2, opd_agree h.2]
  case alc => rfl
  case mki => simp only [sop, opd_agree h]
  case tas => simp only [sop, opd_agree h]
  case isi => simp only [sop, opd_agree h]
  case pan => rfl
  case rcv => rfl
  case alcv => rfl
  case boxi x => simp only [sop, opd_agree h]
  case boxm x => simp only [sop, opd_agree h]
  case bxn nb x => simp only [sop, opd_agree h]
  case boxv => rfl
  case bld => simp only [sop, fillD_agree h]
  case bsi => simp only [sop, fillD_agree h]
  case bsm => simp only [sop, fillD_agree h]
  case ld => simp only [sop, opd_agree h]
  case ldi => simp only [sop, opd_agree h]
  case ld0 => simp only [sop, opd_agree h]
  case isn => simp only [sop, opd_agree h]
  case nck => simp only [sop, opd_agree h]
  case st => simp only [sop, opd_agree h.1, opd_agree h.2]
  case stc os sz a x =>
    have hall : ∀ l i, (os.all fun t => D.off l i (get e' t)) = os.all fun t => D.off l i (get e t) := by
      intro l i
      have h2 := h.2
      clear h
      induction os with
      | nil => rfl
      | cons o os ih => simp only [List.all_cons, h2 o (by simp), ih (h2.mono fun t ht => by simp [ht])]
    simp only [sop, opd_agree h.1.1, opd_agree h.1.2, hall]
  case ldv => simp only [sop, inVar_agree h.1 h.2.1]
  case stv => rfl
  case bin => simp only [sop, opd_agree h.1, opd_agree h.2]
  case eqv => simp only [sop, opd_agree h.1, opd_agree h.2]
  case un => simp only [sop, opd_agree h]
  case cvt => simp only [sop, opd_agree h]
  case mkf => simp only [sop, opds_agree h.1, opds_agree h.2]
  case mks => simp only [sop, opd_agree h.1, opd_agree h.2]
  case slc => simp only [sop, opd_agree h.1.1.1, bounds_agree h.1.1.2 h.1.2 h.2]
  case slca => simp only [sop, opd_agree h.1.1, bounds_agree (mx := none) h.1.2 h.2 (fun t ht => by simp at ht)]
  case fadr off x =>
    cases x with
    | t n => simp only [sop, h n (by simp [Opd.tmps])]
    | c d => rfl
  case fld => simp only [sop, opd_agree h]
  case idxA len w x i =>
    cases x with
    | t n =>
      have h1 := h.1 n (by simp [Opd.tmps])
      simp only [sop, opd_agree h.2]
      cases intD (opd e i) <;> simp only [h1]
    | c d => simp only [sop]
  case idxS => simp only [sop, opd_agree h.1, opd_agree h.2]
  case idxV => simp only [sop, opd_agree h.1, opd_agree h.2]
  case lenS => simp only [sop, opd_agree h]
  case lenC => rfl
  case mn => simp only [sop, opd_agree h.1, opd_agree h.2]
  case mx => simp only [sop, opd_agree h.1, opd_agree h.2]
  case app => simp only [sop, opd_agree h.1, opd_agree h.2]
  case apc os w b s x =>
    have hall : ∀ l i, (os.all fun t => D.off l i (get e' t)) = os.all fun t => D.off l i (get e t) := by
      intro l i
      have h2 := h.2
      clear h
      induction os with
      | nil => rfl
      | cons o os ih => simp only [List.all_cons, h2 o (by simp), ih (h2.mono fun t ht => by simp [ht])]
    simp only [sop, appD, opd_agree h.1.1, opd_agree h.1.2, hall]
  case apz => simp only [sop, appD, opd_agree h.1, opd_agree h.2]
  case cpi => simp only [sop, opd_agree h]
  case bse => rfl
  case ape w b v x => simp only [sop, h.1, opd_agree h.2]
  case ext => simp only [sop, opd_agree h]
  case pur => simp only [sop, opds_agree h]
  case mp => simp only [sop, opds_agree h]
  case me => simp only [sop, opds_agree h]
  case call => rfl

noncomputable def run1 (O : Oracle) (op : Op) (e : Env) (σ : Stack) : Option (Env × Stack) :=
  match op.grd with
  | none => aop O op e σ
  | some (g, want) =>
    match (get e g).bit with
    | some y => if y = some want then aop O op e σ else some (put op.dst (.tup []) e, σ)
    | none => none

theorem aops_cons {O : Oracle} {op : Op} {r : List Op} : aops O (op :: r) e σ = (run1 O op e σ).bind fun x => aops O r x.1 x.2 := by
  simp only [aops, run1]
  cases op.grd with
  | none => rfl
  | some x =>
    obtain ⟨g, want⟩ := x
    dsimp only
    cases (get e g).bit <;> try rfl
    dsimp only
    split <;> rfl

theorem put_app {dst : Option Nat} {d : D} : put dst d e = (dst.toList.map fun t => (t, d)) ++ e := by
  cases dst <;> rfl

theorem aop_local {O : Oracle} {op : Op} {e1 : Env} {σ1 : Stack} (h : aop O op e σ = some (e1, σ1)) :
    ∃ l : List (Nat × D), (∀ p ∈ l, p.1 ∈ op.defs) ∧ ∀ e', Agree (op.uses ++ op.defs) e e' → aop O op e' σ = some (l ++ e', σ1) := by
  obtain ⟨dst, grd, ntr, k⟩ := op
  have hk : ∀ e', Agree (Op.uses ⟨dst, grd, ntr, k⟩ ++ Op.defs ⟨dst, grd, ntr, k⟩) e e' → Agree k.tmps e e' := fun e' ha => ha.mono fun t ht => by simp [Op.uses, ht]
  have hdst : ∀ d : D, ∀ p ∈ dst.toList.map (fun t => (t, d)), p.1 ∈ Op.defs ⟨dst, grd, ntr, k⟩ := by
    intro d p hp
    simp only [List.mem_map] at hp
    obtain ⟨t, ht, rfl⟩ := hp
    simp only [Op.defs, List.mem_append]
    exact .inl ht
  have hplain : (∀ e0, aop O ⟨dst, grd, ntr, k⟩ e0 σ = (sop e0 σ k).map fun x => (put dst x.1 e0, x.2)) →
      ∃ l : List (Nat × D), (∀ p ∈ l, p.1 ∈ Op.defs ⟨dst, grd, ntr, k⟩) ∧ ∀ e', Agree (Op.uses ⟨dst, grd, ntr, k⟩ ++ Op.defs ⟨dst, grd, ntr, k⟩) e e' → aop O ⟨dst, grd, ntr, k⟩ e' σ = some (l ++ e', σ1) := by
    intro hall
    rw [hall] at h
    simp only [Option.map_eq_some_iff, Prod.exists, Prod.mk.injEq] at h
    obtain ⟨d, σ2, hs, rfl, rfl⟩ := h
    refine ⟨dst.toList.map fun t => (t, d), hdst d, fun e' ha => ?_⟩
    rw [hall, sop_agree (hk e' ha), hs]
    simp only [Option.map_some, put_app]
  cases k
  case call kp f args =>
    simp only [aop] at h ⊢
    split at h
    case h_2 => cases h
    rename_i d σ2 hc
    split at h
    case isFalse => cases h
    rename_i hn
    cases h
    refine ⟨dst.toList.map fun t => (t, d), hdst d, fun e' ha => ?_⟩
    have h1 := hk e' ha
    simp only [K.tmps, Agree.app] at h1
    rw [opd_agree h1.1, opds_agree h1.2, hc]
    simp only [if_pos hn, put_app]
  case alcv nb cs =>
    simp only [aop] at h ⊢
    split at h
    case h_2 => cases h
    rename_i v cs' σ2 hnb
    cases h
    refine ⟨[(v, .own (stamp e v) cs')], by simp [Op.defs], fun e' ha => ?_⟩
    rw [show stamp e' v = stamp e v from by simp only [stamp]; rw [ha v (by simp [Op.defs])]]
    rfl
  case boxv x =>
    simp only [aop] at h ⊢
    split at h
    case h_2 => cases h
    rename_i v cs' hc
    cases h
    refine ⟨[(v, .own (stamp e v) cs')], by simp [Op.defs], fun e' ha => ?_⟩
    have h1 := hk e' ha
    simp only [K.tmps] at h1
    rw [opd_agree h1, hc]
    simp only [show stamp e' v = stamp e v from by simp only [stamp]; rw [ha v (by simp [Op.defs])]]
    rfl
  case stv v nb sz a x =>
    simp only [aop] at h ⊢
    split at h
    case h_2 => cases h
    rename_i s cs off p hin hp
    split at h
    case isFalse => cases h
    rename_i hc
    split at h
    case h_2 => cases h
    rename_i p' σ2 hnb
    cases h
    refine ⟨[(v, .own s (cs.take off ++ p' ++ cs.drop (off + sz)))], by simp [Op.defs], fun e' ha => ?_⟩
    have h1 := hk e' ha
    simp only [K.tmps, Agree.app, Agree.cons] at h1
    rw [inVar_agree h1.1.1 h1.1.2.1, opd_agree h1.2, hin, hp]
    simp only [if_pos hc, hnb]
    rfl
  all_goals exact hplain fun e0 => rfl

theorem run1_local {O : Oracle} {op : Op} {e1 : Env} {σ1 : Stack} (h : run1 O op e σ = some (e1, σ1)) :
    ∃ l : List (Nat × D), (∀ p ∈ l, p.1 ∈ op.defs) ∧ ∀ e', Agree (op.uses ++ op.defs) e e' → run1 O op e' σ = some (l ++ e', σ1) := by
  unfold run1 at h ⊢
  cases hg : op.grd with
  | none => rw [hg] at h; simp only at h ⊢; exact aop_local h
  | some x =>
    obtain ⟨t, want⟩ := x
    rw [hg] at h
    simp only at h ⊢
    split at h
    case h_2 => cases h
    rename_i b hb
    have hgt : ∀ e', Agree (op.uses ++ op.defs) e e' → (get e' t).bit = some b := fun e' ha => by rw [ha t (by simp [Op.uses, hg]), hb]
    split at h
    · rename_i hw
      obtain ⟨l, h1, h2⟩ := aop_local h
      refine ⟨l, h1, fun e' ha => ?_⟩
      rw [hgt e' ha]
      simp only [if_pos hw]
      exact h2 e' ha
    · rename_i hw
      cases h
      refine ⟨op.dst.toList.map fun t => (t, .tup []), fun p hp => ?_, fun e' ha => ?_⟩
      · simp only [List.mem_map] at hp
        obtain ⟨t, ht, rfl⟩ := hp
        simp only [Op.defs, List.mem_append]; exact .inl ht
      · rw [hgt e' ha]
        simp only [if_neg hw, put_app]


theorem nilbs_nil {cs cs' : List D} (h : nilbs [] cs σ = some (cs', σ')) : σ' = σ := by
  simp only [nilbs, Option.some.injEq, Prod.mk.injEq] at h; exact h.2.symm

theorem sop_still {d : D} {k : K} (h : sop e σ k = some (d, σ')) (hk : k.calm = true) : σ' = σ := sop_same h hk

theorem aop_still {O : Oracle} {op : Op} {e1 : Env} {σ1 : Stack} (h : aop O op e σ = some (e1, σ1)) (hs : op.still = true) : σ1 = σ := by
  obtain ⟨dst, grd, ntr, k⟩ := op
  simp only [Op.still, Bool.and_eq_true] at hs
  obtain ⟨hk, hn⟩ := hs
  have hplain : (aop O ⟨dst, grd, ntr, k⟩ e σ = (sop e σ k).map fun x => (put dst x.1 e, x.2)) → σ1 = σ := by
    intro hall
    rw [hall] at h
    simp only [Option.map_eq_some_iff, Prod.exists, Prod.mk.injEq] at h
    obtain ⟨d, σ2, hs, rfl, rfl⟩ := h
    exact sop_still hs hk
  cases k
  case call kp f args =>
    simp only [aop] at h
    split at h
    case h_2 => cases h
    split at h
    case isFalse => cases h
    rename_i hx
    cases h
    exact hx hn
  case alcv nb cs =>
    simp only [aop] at h
    split at h
    case h_2 => cases h
    rename_i v cs' σ2 hnb
    cases h
    simp only [K.calm, List.isEmpty_iff] at hk
    subst hk
    exact nilbs_nil hnb
  case boxv x =>
    simp only [aop] at h
    split at h
    case h_2 => cases h
    cases h
    rfl
  case stv v nb sz a x =>
    simp only [aop] at h
    split at h
    case h_2 => cases h
    split at h
    case isFalse => cases h
    split at h
    case h_2 => cases h
    rename_i hnb
    cases h
    simp only [K.calm, List.isEmpty_iff] at hk
    subst hk
    exact nilbs_nil hnb
  all_goals exact hplain rfl

theorem run1_still {O : Oracle} {op : Op} {e1 : Env} {σ1 : Stack} (h : run1 O op e σ = some (e1, σ1)) (hs : op.still = true) : σ1 = σ := by
  unfold run1 at h
  split at h
  · exact aop_still h hs
  · split at h
    case h_2 => cases h
    split at h
    · exact aop_still h hs
    · cases h; rfl

def EqE (e e' : Env) : Prop := ∀ t, get e' t = get e t

theorem EqE.refl (e : Env) : EqE e e := fun _ => rfl
theorem EqE.trans {a b c : Env} (h : EqE a b) (h' : EqE b c) : EqE a c := fun t => (h' t).trans (h t)
theorem EqE.agree (h : EqE e e') (ts : List Nat) : Agree ts e e' := fun t _ => h t

theorem get_app {l : List (Nat × D)} {t : Nat} : get (l ++ e) t = if t ∈ l.map (·.1) then get l t else get e t := by
  induction l with
  | nil => simp
  | cons p l ih =>
    obtain ⟨k, v⟩ := p
    simp only [List.cons_append, get]
    by_cases hk : k = t
    · simp [hk]
    · rw [if_neg hk, ih]
      simp only [List.map_cons, List.mem_cons]
      by_cases ht : t ∈ l.map (·.1)
      · rw [if_pos ht, if_pos (.inr ht)]; rw [if_neg hk]
      · rw [if_neg ht, if_neg (by intro h; rcases h with h | h; exact hk h.symm; exact ht h)]

theorem EqE.app (h : EqE e e') (l : List (Nat × D)) : EqE (l ++ e) (l ++ e') := fun t => by
  simp only [get_app, h t]

theorem aops_eqE {O : Oracle} : ∀ {xs : List Op} {e e' e1 : Env} {σ σ1 : Stack}, aops O xs e σ = some (e1, σ1) → EqE e e' → ∃ e1', aops O xs e' σ = some (e1', σ1) ∧ EqE e1 e1'
  | [], e, e', e1, σ, σ1, h, he => by
    simp only [aops, Option.some.injEq, Prod.mk.injEq] at h
    obtain ⟨rfl, rfl⟩ := h
    exact ⟨e', rfl, he⟩
  | x :: xs, e, e', e1, σ, σ1, h, he => by
    rw [aops_cons] at h
    simp only [Option.bind_eq_some_iff, Prod.exists] at h
    obtain ⟨e2, σ2, h1, h2⟩ := h
    obtain ⟨l, _, hl⟩ := run1_local h1
    have h3 := hl e (EqE.agree (.refl e) _)
    rw [h1] at h3
    cases h3
    obtain ⟨e3, h4, h5⟩ := aops_eqE h2 (he.app l)
    exact ⟨e3, by rw [aops_cons, hl e' (he.agree _)]; exact h4, h5⟩

theorem sop_pure {d : D} {k : K} (h : sop e σ k = some (d, σ')) (hk : k.pure = true) (τ : Stack) : sop e τ k = some (d, τ) := by
  cases k <;> simp only [K.pure, K.calm, Bool.false_eq_true] at hk <;> simp only [sop, Option.bind_eq_bind, reduceCtorEq] at h ⊢ <;> (repeat' split at h) <;>
    simp only [Option.map_eq_some_iff, Option.bind_eq_some_iff, Option.some.injEq, Prod.mk.injEq, Prod.exists, reduceCtorEq, exists_eq_left, and_false, exists_false] at h <;> (try split at h) <;>
    simp_all <;> (try (obtain ⟨_, _, h⟩ := h; simp_all)) <;> (try grind)

theorem aop_pure {O : Oracle} {op : Op} {e1 : Env} {σ1 : Stack} (h : aop O op e σ = some (e1, σ1)) (hs : op.k.pure = true) (τ : Stack) : aop O op e τ = some (e1, τ) := by
  obtain ⟨dst, grd, ntr, k⟩ := op
  have hplain : (∀ τ, aop O ⟨dst, grd, ntr, k⟩ e τ = (sop e τ k).map fun x => (put dst x.1 e, x.2)) → aop O ⟨dst, grd, ntr, k⟩ e τ = some (e1, τ) := by
    intro hall
    rw [hall] at h ⊢
    simp only [Option.map_eq_some_iff, Prod.exists, Prod.mk.injEq] at h
    obtain ⟨d, σ2, hs', rfl, rfl⟩ := h
    rw [sop_pure hs' hs τ]
    rfl
  cases k
  case call kp f args => simp [K.pure] at hs
  case alcv nb cs =>
    simp only [K.pure, K.calm, List.isEmpty_iff] at hs
    subst hs
    simp only [aop] at h ⊢
    cases dst with
    | none => cases h
    | some v => simp only [nilbs, Option.some.injEq, Prod.mk.injEq] at h ⊢; exact ⟨h.1, trivial⟩
  case boxv x =>
    simp only [aop] at h ⊢
    cases dst with
    | none => cases h
    | some v =>
      cases hx : (opd e x).cells with
      | none => rw [hx] at h; cases h
      | some cs => rw [hx] at h; simp only [Option.some.injEq, Prod.mk.injEq] at h ⊢; exact ⟨h.1, trivial⟩
  case stv v nb sz a x =>
    simp only [K.pure, K.calm, List.isEmpty_iff] at hs
    subst hs
    simp only [aop] at h ⊢
    cases hin : inVar e v a <;> rw [hin] at h <;> try (cases h; done)
    cases hx : (opd e x).cells <;> rw [hx] at h <;> try (cases h; done)
    simp only [nilbs] at h ⊢
    split at h
    · rename_i hc
      rw [if_pos hc]
      simp only [Option.some.injEq, Prod.mk.injEq] at h ⊢
      exact ⟨h.1, trivial⟩
    · cases h
  all_goals exact hplain fun τ => rfl

theorem run1_pure {O : Oracle} {op : Op} {e1 : Env} {σ1 : Stack} (h : run1 O op e σ = some (e1, σ1)) (hs : op.k.pure = true) : ∀ τ, run1 O op e τ = some (e1, τ) := by
  intro τ
  unfold run1 at h ⊢
  cases hg : op.grd with
  | none => rw [hg] at h; exact aop_pure h hs τ
  | some y =>
    obtain ⟨g, want⟩ := y
    rw [hg] at h
    dsimp only at h ⊢
    cases hb : (get e g).bit with
    | none => rw [hb] at h; cases h
    | some b =>
      rw [hb] at h
      dsimp only at h ⊢
      split at h
      · rename_i hw
        rw [if_pos hw]
        exact aop_pure h hs τ
      · rename_i hw
        rw [if_neg hw]
        cases h
        rfl

theorem setSeg_hit {a : List Blk} {σ : Stack} {l : Nat} {s : List Blk} (h : σ.length = l) : setSeg (a :: σ) l s = s :: σ := by simp only [setSeg]; rw [if_pos h]
theorem setSeg_miss {a : List Blk} {σ : Stack} {l : Nat} {s : List Blk} (h : ¬ σ.length = l) : setSeg (a :: σ) l s = a :: setSeg σ l s := by simp only [setSeg]; rw [if_neg h]

theorem setSeg_comm {σ : Stack} {l l' : Nat} {s s' : List Blk} (h : l ≠ l') : setSeg (setSeg σ l s) l' s' = setSeg (setSeg σ l' s') l s := by
  induction σ with
  | nil => rfl
  | cons a σ ih =>
    by_cases h1 : σ.length = l
    · have h2 : ¬ σ.length = l' := by omega
      rw [setSeg_hit h1, setSeg_miss h2, setSeg_miss h2, setSeg_hit (by rw [setSeg_length]; exact h1)]
    · by_cases h2 : σ.length = l'
      · rw [setSeg_miss h1, setSeg_hit h2, setSeg_hit (by rw [setSeg_length]; exact h2), setSeg_miss h1]
      · rw [setSeg_miss h1, setSeg_miss h2, setSeg_miss (by rw [setSeg_length]; exact h2), setSeg_miss (by rw [setSeg_length]; exact h1), ih]

theorem seg?_setSeg_ne {σ : Stack} {l l' : Nat} {s : List Blk} (h : l ≠ l') : seg? (setSeg σ l s) l' = seg? σ l' := by
  induction σ with
  | nil => rfl
  | cons a σ ih =>
    simp only [setSeg]
    by_cases h1 : σ.length = l
    · rw [if_pos h1]; simp only [seg?]; rw [if_neg (by omega), if_neg (by omega)]
    · rw [if_neg h1]; simp only [seg?, setSeg_length, ih]

theorem setSeg_twice {σ : Stack} {l : Nat} {s s' : List Blk} : setSeg (setSeg σ l s) l s' = setSeg σ l s' := by
  induction σ with
  | nil => rfl
  | cons a σ ih =>
    simp only [setSeg]
    by_cases h1 : σ.length = l
    · rw [if_pos h1, if_pos h1]; simp only [setSeg]; rw [if_pos h1]
    · rw [if_neg h1, if_neg h1]; simp only [setSeg, setSeg_length]; rw [if_neg h1, ih]

theorem setBlk_comm {σ : Stack} {l i l' i' : Nat} {b b' : Blk} (h : ¬ (l' = l ∧ i' = i)) : setBlk (setBlk σ l i b) l' i' b' = setBlk (setBlk σ l' i' b') l i b := by
  by_cases hl : l = l'
  · subst hl
    have hi : i ≠ i' := fun e => h ⟨rfl, e.symm⟩
    unfold setBlk
    cases hs : seg? σ l with
    | none => simp [hs]
    | some s =>
      simp only [seg?_setSeg (seg?_lt hs), setSeg_twice]
      rw [List.set_comm _ _ hi]
  · unfold setBlk
    cases hs : seg? σ l with
    | none =>
      cases hs' : seg? σ l' with
      | none => simp [hs, hs']
      | some s' => simp only [seg?_setSeg_ne (Ne.symm hl), hs]
    | some s =>
      cases hs' : seg? σ l' with
      | none => simp only [seg?_setSeg_ne hl, hs', hs]
      | some s' =>
        simp only [seg?_setSeg_ne hl, seg?_setSeg_ne (Ne.symm hl), hs, hs']
        exact setSeg_comm hl

theorem cells?_off {σ : Stack} {l i l' i' v : Nat} {b : Blk} (h : ¬ (l' = l ∧ i' = i)) : cells? (setBlk σ l i b) l' i' v = cells? σ l' i' v := by
  unfold cells?
  rw [blk?_setBlk_other h]

theorem rdD_off {σ : Stack} {l i : Nat} {b : Blk} {d : D} (h : D.off l i d = true) : rdD (setBlk σ l i b) d.strip = rdD σ d.strip := by
  cases d <;> try rfl
  simp only [D.off, decide_eq_true_eq] at h
  simp only [D.strip, rdD, cells?_off h]

theorem run1_ld {O : Oracle} {dst : Option Nat} {n ag : Bool} {sz m : Nat} {e1 : Env} {σ1 : Stack} (h : run1 O ⟨dst, none, n, .ld ag sz (.t m)⟩ e σ = some (e1, σ1)) :
    σ1 = σ ∧ ∀ τ, rdD τ (get e m).strip = rdD σ (get e m).strip → run1 O ⟨dst, none, n, .ld ag sz (.t m)⟩ e τ = some (e1, τ) := by
  have hs := run1_still h
  simp only [run1, aop, sop, opd] at h ⊢
  refine ⟨?_, fun τ hτ => ?_⟩
  · simp only [Option.map_eq_some_iff, Prod.exists, Prod.mk.injEq] at h
    obtain ⟨d, σ2, h, _, rfl⟩ := h
    exact sop_still (k := .ld ag sz (.t m)) (e := e) (d := d) (by simpa only [sop, opd] using h) rfl
  · rw [hτ]
    cases hr : rdD σ (get e m).strip with
    | none => rw [hr] at h; cases h
    | some cs =>
      rw [hr] at h
      dsimp only at h ⊢
      split at h
      · rename_i hsz
        rw [if_pos hsz]
        cases ag with
        | true => simp at h ⊢; exact h.1
        | false =>
          simp only [Bool.false_eq_true, if_false] at h ⊢
          cases cs with
          | nil => cases h
          | cons d ds => simp at h ⊢; exact h.1
      · cases h

theorem run1_stc {O : Oracle} {dst : Option Nat} {n : Bool} {os : List Nat} {sz : Nat} {a x : Opd} {e1 : Env} {σ1 : Stack} (h : run1 O ⟨dst, none, n, .stc os sz a x⟩ e σ = some (e1, σ1)) :
    ∃ l i v off b, opd e a = .ref l i v off ∧ (∀ m ∈ os, D.off l i (get e m) = true) ∧ σ1 = setBlk σ l i b ∧
      ∀ τ, τ.length = σ.length → cells? τ l i v = cells? σ l i v → run1 O ⟨dst, none, n, .stc os sz a x⟩ e τ = some (e1, setBlk τ l i b) := by
  simp only [run1, aop, sop] at h ⊢
  cases ha : opd e a <;> rw [ha] at h <;> try (cases h; done)
  rename_i l i v off
  dsimp only at h ⊢
  split at h
  case isFalse => cases h
  rename_i hall
  cases hc : cells? σ l i v with
  | none => rw [hc] at h; cases h
  | some cs =>
  rw [hc] at h
  dsimp only at h
  cases hp : (opd e x).cells with
  | none => rw [hp] at h; cases h
  | some p =>
  rw [hp] at h
  dsimp only at h
  split at h
  case isFalse => cases h
  rename_i hq
  simp only [Option.map_some, Option.some.injEq, Prod.mk.injEq] at h
  refine ⟨l, i, v, off, .cells v (cs.take off ++ p ++ cs.drop (off + sz)), rfl, fun m hm => List.all_eq_true.1 hall m hm, h.2.symm, fun τ hlen hτ => ?_⟩
  simp only [hall, if_true, hτ, hc, hlen, if_pos hq, Option.map_some, h.1]

theorem run1_apc {O : Oracle} {dst : Option Nat} {n : Bool} {os : List Nat} {w b : Nat} {a x : Opd} {e1 : Env} {σ1 : Stack} (h : run1 O ⟨dst, none, n, .apc os w b a x⟩ e σ = some (e1, σ1)) :
    ∃ l i v cs, (∀ m ∈ os, D.off l i (get e m) = true) ∧ σ1 = setBlk σ l i (.cells (v + 1) cs) := by
  simp only [run1, aop, Option.map_eq_some_iff, Prod.exists, Prod.mk.injEq] at h
  obtain ⟨d, σ2, h, _, rfl⟩ := h
  simp only [sop] at h
  split at h
  case h_2 => cases h
  rename_i l i v off n' w' ha
  split at h
  case isFalse => cases h
  rename_i hall
  simp only [Option.bind_eq_some_iff] at h
  obtain ⟨⟨m, xs⟩, he, h⟩ := h
  dsimp only at h
  split at h
  case isFalse => cases h
  rename_i hcl
  simp only [appD, Option.bind_eq_bind, he, Option.bind_some, ha] at h
  split at h
  case h_2 => cases h
  split at h
  case isFalse => cases h
  refine ⟨l, i, ?_⟩
  split at h
  · cases h
    exact ⟨_, _, fun m hm => List.all_eq_true.1 hall m hm, rfl⟩
  · rw [show deep = 15 + 1 from rfl, frzL_pure hcl] at h
    cases h
    exact ⟨_, _, fun m hm => List.all_eq_true.1 hall m hm, rfl⟩
theorem rd0_set {σ : Stack} {l i v : Nat} {cs : List D} {d : D} {c : List D} (h : rd0 (setBlk σ l i (.cells (v + 1) cs)) d = some c) : rd0 σ d = some c := by
  unfold rd0 at h ⊢
  split at h
  case h_2 => cases h
  rename_i l2 i2 off
  simp only [rdD, Option.map_eq_some_iff] at h ⊢
  obtain ⟨a, h1, h2⟩ := h
  refine ⟨a, ?_, h2⟩
  by_cases hh : l2 = l ∧ i2 = i
  · obtain ⟨rfl, rfl⟩ := hh
    unfold cells? at h1
    cases hb : blk? σ l2 i2 with
    | some b0 => rw [blk?_setBlk hb] at h1; simp at h1
    | none =>
      have hn : blk? (setBlk σ l2 i2 (.cells (v + 1) cs)) l2 i2 = none := by
        unfold blk? at hb ⊢
        unfold setBlk
        cases hs : seg? σ l2 with
        | none => simp only [hs]; rfl
        | some s =>
          simp only [hs, Option.bind_some] at hb
          simp only [seg?_setSeg (seg?_lt hs), Option.bind_some]
          rw [List.getElem?_eq_none_iff] at hb ⊢
          simpa using hb
      rw [hn] at h1; cases h1
  · rwa [cells?_off hh] at h1
theorem run1_ld0 {O : Oracle} {dst : Option Nat} {n ag : Bool} {sz m : Nat} {e1 : Env} {σ1 : Stack} (h : run1 O ⟨dst, none, n, .ld0 ag sz (.t m)⟩ e σ = some (e1, σ1)) :
    σ1 = σ ∧ ∃ c, rd0 σ (get e m).strip = some c ∧ ∀ τ, rd0 τ (get e m).strip = some c → run1 O ⟨dst, none, n, .ld0 ag sz (.t m)⟩ e τ = some (e1, τ) := by
  simp only [run1, aop, sop, opd] at h ⊢
  cases hr : rd0 σ (get e m).strip with
  | none => rw [hr] at h; cases h
  | some cs =>
    rw [hr] at h
    dsimp only at h ⊢
    have hs : σ1 = σ := by
      split at h
      · cases ag with
        | true => simp at h; exact h.2.symm
        | false => cases cs <;> simp at h; exact h.2.symm
      · cases h
    refine ⟨hs, cs, rfl, fun τ hτ => ?_⟩
    rw [hτ]
    dsimp only
    split at h
    · rename_i hsz
      rw [if_pos hsz]
      cases ag with
      | true => simp at h ⊢; exact h.1
      | false =>
        simp only [Bool.false_eq_true, if_false] at h ⊢
        cases cs with
        | nil => cases h
        | cons d ds => simp at h ⊢; exact h.1
    · cases h
theorem newBlk_rd {σ σ' : Stack} {b : Blk} {l i : Nat} (h : newBlk σ b = some (l, i, σ')) {d : D} {cs : List D} (hd : rdD σ d = some cs) : rdD σ' d = some cs := by
  cases d <;> try exact hd
  rename_i l' i' v off
  simp only [rdD, Option.map_eq_some_iff] at hd ⊢
  obtain ⟨c, h1, h2⟩ := hd
  refine ⟨c, ?_, h2⟩
  unfold cells? at h1 ⊢
  have hb : ∃ b0, blk? σ l' i' = some b0 := by
    cases hb : blk? σ l' i' with
    | none => rw [hb] at h1; cases h1
    | some b0 => exact ⟨b0, rfl⟩
  obtain ⟨b0, hb⟩ := hb
  have hne : ¬ (l' = l ∧ i' = i) := fun hh => by
    have := (newBlk_spec h).1
    rw [hh.1, hh.2, this] at hb; cases hb
  rw [(newBlk_spec h).2.2.1 l' i' hne]
  exact h1

theorem adr_ok {O : Oracle} {x y : Op} {e2 : Env} {σ2 : Stack} {r : List Op} (hf : x.adr y = true)
    (h : aops O (x :: y :: r) e σ = some (e2, σ2)) : ∃ e2', aops O (y :: x :: r) e σ = some (e2', σ2) ∧ EqE e2 e2' := by
  unfold Op.adr at hf
  split at hf
  case h_2 => cases hf
  rename_i n v sz a X d n' off m
  simp only [decide_eq_true_eq] at hf
  obtain ⟨rfl, hdv, hda, hdX⟩ := hf
  rw [aops_cons] at h
  simp only [Option.bind_eq_some_iff, Prod.exists] at h
  obtain ⟨ex, σx, h1, h2⟩ := h
  rw [aops_cons] at h2
  simp only [Option.bind_eq_some_iff, Prod.exists] at h2
  obtain ⟨ey, σy, h2, h3⟩ := h2
  simp only [run1, aop] at h1
  cases hin : inVar e m a with
  | none => rw [hin] at h1; cases h1
  | some z =>
  obtain ⟨s, cs, o⟩ := z
  rw [hin] at h1
  cases hX : (opd e X).cells with
  | none => rw [hX] at h1; cases h1
  | some p =>
  rw [hX] at h1
  dsimp only at h1
  split at h1
  case isFalse => cases h1
  rename_i hq
  simp only [nilbs, Option.some.injEq, Prod.mk.injEq] at h1
  obtain ⟨rfl, rfl⟩ := h1
  have hgv : ∃ cs', get e m = .own s cs' := by
    unfold inVar at hin
    cases hg : get e m <;> rw [hg] at hin <;> try (cases hin; done)
    rename_i s' cs'
    dsimp only at hin
    split at hin
    · cases hin; exact ⟨_, rfl⟩
    · split at hin
      · split at hin
        · cases hin; exact ⟨_, rfl⟩
        · cases hin
      · cases hin
  obtain ⟨cs', hgv⟩ := hgv
  simp only [run1, aop, sop, get, if_true, Option.map_some, Option.some.injEq, Prod.mk.injEq] at h2
  obtain ⟨rfl, rfl⟩ := h2
  have hne : get ((d, D.vr m s off) :: e) m = get e m := by simp [get, hdv]
  have hna : get ((d, D.vr m s off) :: e) a = get e a := by simp [get, hda]
  have hin' : inVar ((d, D.vr m s off) :: e) m a = some (s, cs, o) := by rw [inVar_agree hne hna, hin]
  have hX' : opd ((d, D.vr m s off) :: e) X = opd e X := opd_agree fun t ht => by
    have : d ≠ t := fun he => hdX (he ▸ ht)
    simp [get, this]
  have heq : EqE (put (some d) (D.vr m s off) ((m, .own s (cs.take o ++ p ++ cs.drop (o + sz))) :: e)) ((m, .own s (cs.take o ++ p ++ cs.drop (o + sz))) :: (d, D.vr m s off) :: e) := by
    intro t
    simp only [put, get]
    by_cases h1 : d = t
    · have : ¬ m = t := fun e => hdv (h1.trans e.symm)
      simp [h1, this]
    · simp [h1]
  obtain ⟨e3, k1, k2⟩ := aops_eqE h3 heq
  refine ⟨e3, ?_, k2⟩
  rw [aops_cons]
  simp only [run1, aop, sop, hgv, Option.map_some, Option.bind_some]
  rw [aops_cons]
  simp only [run1, aop, put, hin', hX', hX, hq, and_self, if_true, nilbs, Option.bind_some]
  exact k1

theorem swap_ok {O : Oracle} {x y : Op} {e2 : Env} {σ2 : Stack} {r : List Op} (hf : x.free y = true)
    (h : aops O (x :: y :: r) e σ = some (e2, σ2)) : ∃ e2', aops O (y :: x :: r) e σ = some (e2', σ2) ∧ EqE e2 e2' := by
  unfold Op.free at hf
  rw [Bool.or_eq_true] at hf
  rcases hf with hf | hf
  · exact adr_ok hf h
  simp only [Bool.and_eq_true, Bool.not_eq_true'] at hf
  obtain ⟨hc, hf⟩ := hf
  simp only [Op.clash, Bool.or_eq_false_iff, List.any_eq_false, List.contains_iff_mem, Bool.or_eq_true, not_or] at hc
  obtain ⟨c1, c2⟩ := hc
  rw [aops_cons] at h
  simp only [Option.bind_eq_some_iff, Prod.exists] at h
  obtain ⟨ex, σx, h1, h2⟩ := h
  rw [aops_cons] at h2
  simp only [Option.bind_eq_some_iff, Prod.exists] at h2
  obtain ⟨ey, σy, h2, h3⟩ := h2
  obtain ⟨lx, d1, hl1⟩ := run1_local h1
  obtain ⟨ly, d2, hl2⟩ := run1_local h2
  have k1 := hl1 e (EqE.agree (.refl e) _)
  rw [h1] at k1; cases k1
  have k2 := hl2 _ (EqE.agree (.refl _) _)
  rw [h2] at k2; cases k2
  -- y first
  have ay : Agree (y.uses ++ y.defs) (lx ++ e) e := fun t ht => by
    rw [get_app, if_neg]
    intro hm
    obtain ⟨p, hp, rfl⟩ := List.mem_map.1 hm
    have := c1 _ (d1 p hp)
    simp only [List.mem_append] at ht
    rcases ht with ht | ht
    · exact this.2 (by simpa using ht)
    · exact this.1 (by simpa using ht)
  have ax : Agree (x.uses ++ x.defs) e (ly ++ e) := fun t ht => by
    rw [get_app, if_neg]
    intro hm
    obtain ⟨p, hp, rfl⟩ := List.mem_map.1 hm
    have hp' := d2 p hp
    simp only [List.mem_append] at ht
    rcases ht with ht | ht
    · exact c2 _ ht (by simpa using hp')
    · exact (c1 _ ht).1 (by simpa using hp')
  have hy0 := hl2 e ay
  have hx0 := hl1 (ly ++ e) ax
  obtain ⟨σm, hy1, hx1⟩ : ∃ σm, run1 O y e σ = some (ly ++ e, σm) ∧ run1 O x (ly ++ e) σm = some (lx ++ (ly ++ e), σy) := by
    simp only [Bool.or_eq_true, Bool.and_eq_true] at hf
    rcases hf with ((⟨hx, hy⟩ | hx) | hy) | hfar
    · obtain rfl := run1_still h1 hx
      obtain rfl := run1_still h2 hy
      exact ⟨_, hy0, hx0⟩
    · have e1 := run1_pure h1 hx σ
      rw [h1] at e1
      cases e1
      exact ⟨σy, hy0, run1_pure hx0 hx σy⟩
    · have e2 := run1_pure h2 hy σx
      rw [h2] at e2
      cases e2
      exact ⟨σ, run1_pure hy0 hy σ, hx0⟩
    · unfold Op.far at hfar
      obtain ⟨dx, gx, nx, kx⟩ := x
      obtain ⟨dy, gy, ny, ky⟩ := y
      simp only [Bool.and_eq_true, Option.isNone_iff_eq_none] at hfar
      obtain ⟨⟨rfl, rfl⟩, hfar⟩ := hfar
      split at hfar
      · rename_i os sz a X ag sz' m
        have hm : m ∈ os := by simpa using hfar
        obtain ⟨l, i, v, off, b, _, hoff, rfl, _⟩ := run1_stc h1
        obtain ⟨rfl, hall⟩ := run1_ld hy0
        exact ⟨σ, hall σ (rdD_off (hoff m hm)).symm, hx0⟩
      · rename_i ag sz' m os sz a X
        have hm : m ∈ os := by simpa using hfar
        obtain ⟨rfl, _⟩ := run1_ld h1
        obtain ⟨l, i, v, off, b, _, hoff, rfl, _⟩ := run1_stc hy0
        obtain ⟨_, hall⟩ := run1_ld hx0
        refine ⟨_, hy0, hall _ ?_⟩
        have hg : get (ly ++ e) m = get e m := ax m (by simp [Op.uses, K.tmps, Opd.tmps])
        rw [hg]
        exact rdD_off (hoff m hm)
      · rename_i os sz a X os' sz' m X'
        have hm : m ∈ os := by simpa using hfar
        obtain ⟨l, i, v, off, b, _, hoff, rfl, hall⟩ := run1_stc hx0
        obtain ⟨l', i', v', off', b', hr, hoff', rfl, hall'⟩ := run1_stc hy0
        have hg : get (ly ++ e) m = get e m := ax m (by simp [Op.uses, K.tmps, hm])
        have h4 := hoff m hm
        rw [hg] at h4
        have h5 : get e m = .ref l' i' v' off' := by
          simp only [opd] at hr
          cases hgm : get e m <;> rw [hgm] at hr <;> simp only [D.strip, reduceCtorEq] at hr
          exact hr
        rw [h5] at h4
        simp only [D.off, decide_eq_true_eq] at h4
        refine ⟨setBlk σ l' i' b', hall' σ setBlk_length.symm (cells?_off h4).symm, ?_⟩
        rw [setBlk_comm h4]
        exact hall _ setBlk_length (cells?_off fun hh => h4 ⟨hh.1.symm, hh.2.symm⟩)
      · rename_i os wd bt a X ag sz' m
        have hm : m ∈ os := by simpa using hfar
        obtain ⟨l, i, b, bc, hoff, rfl⟩ := run1_apc h1
        obtain ⟨rfl, hall⟩ := run1_ld hy0
        exact ⟨σ, hall σ (rdD_off (hoff m hm)).symm, hx0⟩
      · rename_i ag sz' m cs
        obtain ⟨rfl, _⟩ := run1_ld h1
        obtain ⟨_, hall⟩ := run1_ld hx0
        refine ⟨_, hy0, hall _ ?_⟩
        have hg : get (ly ++ e) m = get e m := ax m (by simp [Op.uses, K.tmps, Opd.tmps])
        rw [hg]
        have hrd : ∃ c, rdD σx (get e m).strip = some c := by
          simp only [run1, aop, sop, opd] at h1
          cases hr : rdD σx (get e m).strip with
          | none => rw [hr] at h1; simp at h1
          | some c => exact ⟨c, rfl⟩
        obtain ⟨c, hrd⟩ := hrd
        have hn : ∃ l i, newBlk σx (.cells 0 cs) = some (l, i, σy) := by
          simp only [run1, aop, sop, nilbs, Option.bind_eq_bind, Option.bind_some, Option.map_eq_some_iff, Option.bind_eq_some_iff, Prod.exists, Prod.mk.injEq] at hy0
          obtain ⟨d0, σ0, ⟨l, i, σ3, h1, h2⟩, _, h3⟩ := hy0
          cases h2; cases h3
          exact ⟨l, i, h1⟩
        obtain ⟨l, i, hn⟩ := hn
        rw [hrd, newBlk_rd hn hrd]
      · rename_i os wd bt a X ag sz' m
        obtain ⟨l, i, b, bc, hoff, rfl⟩ := run1_apc h1
        obtain ⟨rfl, c, hc, hall⟩ := run1_ld0 hy0
        exact ⟨σ, hall σ (rd0_set hc), hx0⟩
      · cases hfar
  have heq : EqE (ly ++ (lx ++ e)) (lx ++ (ly ++ e)) := fun t => by
    simp only [get_app]
    by_cases m1 : t ∈ lx.map (·.1)
    · by_cases m2 : t ∈ ly.map (·.1)
      · obtain ⟨p, hp, rfl⟩ := List.mem_map.1 m1
        obtain ⟨q, hq, he⟩ := List.mem_map.1 m2
        have := (c1 _ (d1 p hp)).1
        have hq' := d2 q hq
        rw [he] at hq'
        exact absurd hq' (by simpa using this)
      · rw [if_pos m1, if_neg m2, if_pos m1]
    · by_cases m2 : t ∈ ly.map (·.1)
      · rw [if_neg m1, if_pos m2, if_pos m2]
      · rw [if_neg m1, if_neg m2, if_neg m2, if_neg m1]
  obtain ⟨e3, k3, k4⟩ := aops_eqE h3 heq
  refine ⟨e3, ?_, k4⟩
  rw [aops_cons, hy1]
  simp only [Option.bind_some]
  rw [aops_cons, hx1]
  exact k3

theorem front_ok {O : Oracle} {y : Op} {r : List Op} : ∀ {pre : List Op} {e e2 : Env} {σ σ2 : Stack}, (∀ x ∈ pre, x.free y = true) →
    aops O (pre ++ y :: r) e σ = some (e2, σ2) → ∃ e2', aops O (y :: (pre ++ r)) e σ = some (e2', σ2) ∧ EqE e2 e2'
  | [], e, e2, σ, σ2, hp, h => ⟨e2, h, .refl _⟩
  | x :: pre, e, e2, σ, σ2, hp, h => by
    simp only [List.cons_append] at h
    rw [aops_cons] at h
    simp only [Option.bind_eq_some_iff, Prod.exists] at h
    obtain ⟨e1, σ1, h1, h2⟩ := h
    obtain ⟨e3, h3, h4⟩ := front_ok (fun z hz => hp z (by simp [hz])) h2
    have h5 : aops O (x :: y :: (pre ++ r)) e σ = some (e3, σ2) := by rw [aops_cons, h1]; exact h3
    obtain ⟨e4, h6, h7⟩ := swap_ok (hp x (by simp)) h5
    exact ⟨e4, h6, h4.trans h7⟩

theorem restrict_eqE {live : List Nat} (h : EqE e e') : restrict live e' = restrict live e := by
  simp only [restrict]
  exact List.map_congr_left fun t _ => by rw [h t]
end Go.Abs

/-
  In whatever order a region that draws goes: the interpreter's answer is the same.
-/
set_option linter.unusedVariables false
set_option linter.unusedSimpArgs false
namespace Go.Abs
open Go

inductive Sched : List (Nat × Op) → List Nat → List Op → Prop
  | nil : Sched [] [] []
  | cons {pre post : List (Nat × Op)} {i : Nat} {x : Op} {is : List Nat} {ys : List Op} : (∀ p ∈ pre, p.2.free x = true) →
      Sched (pre ++ post) is ys → Sched (pre ++ (i, x) :: post) (i :: is) (x :: ys)

theorem sched_aops {O : Oracle} {R : List (Nat × Op)} {is : List Nat} {ys : List Op} (h : Sched R is ys) : ∀ {e e2 : Env} {σ σ2 : Stack}, aops O (R.map (·.2)) e σ = some (e2, σ2) →
    ∃ e2', aops O ys e σ = some (e2', σ2) ∧ EqE e2 e2' := by
  induction h with
  | nil => intro e e2 σ σ2 h; exact ⟨e2, h, .refl _⟩
  | cons hp _ ih =>
    rename_i pre post i x is ys _
    intro e e2 σ σ2 h
    have h1 : ∃ e3, aops O (x :: ((pre ++ post).map (·.2))) e σ = some (e3, σ2) ∧ EqE e2 e3 := by
      simp only [List.map_append, List.map_cons] at h ⊢
      exact front_ok (fun z hz => by obtain ⟨p, hp', rfl⟩ := List.mem_map.1 hz; exact hp p hp') h
    obtain ⟨e3, h1, h2⟩ := h1
    rw [aops_cons] at h1
    simp only [Option.bind_eq_some_iff, Prod.exists] at h1
    obtain ⟨e4, σ4, h3, h4⟩ := h1
    obtain ⟨e5, h5, h6⟩ := ih h4
    exact ⟨e5, by rw [aops_cons, h3]; exact h5, h2.trans h6⟩

inductive SchedT (t : Nat) : List (Nat × Op) → List Nat → List Op → Prop
  | nil : SchedT t [] [] []
  | cons {pre post : List (Nat × Op)} {i : Nat} {x : Op} {is : List Nat} {ys : List Op} : (∀ p ∈ pre, p.2.free x = true) → (t ≤ i → pre = []) →
      SchedT t (pre ++ post) is ys → SchedT t (pre ++ (i, x) :: post) (i :: is) (x :: ys)
theorem SchedT.sched {t : Nat} {R : List (Nat × Op)} {is : List Nat} {ys : List Op} (h : SchedT t R is ys) : Sched R is ys := by
  induction h with
  | nil => exact .nil
  | cons h1 _ _ ih => exact .cons h1 ih
theorem sched_nil {R : List (Nat × Op)} {is : List Nat} {ys : List Op} (h : Sched R is ys) (hR : R = []) : is = [] ∧ ys = [] := by
  cases h with
  | nil => exact ⟨rfl, rfl⟩
  | cons => simp at hR
theorem schedT_split {t : Nat} {R : List (Nat × Op)} {is : List Nat} {ys : List Op} (h : SchedT t R is ys) : ∀ {A B : List (Nat × Op)}, R = A ++ B → (∀ p ∈ B, t ≤ p.1) →
    ∃ is1 ys1, is = is1 ++ B.map (·.1) ∧ ys = ys1 ++ B.map (·.2) ∧ Sched A is1 ys1 := by
  induction h with
  | nil =>
    intro A B hR hB
    obtain ⟨rfl, rfl⟩ := List.nil_eq_append_iff.1 hR
    exact ⟨[], [], rfl, rfl, .nil⟩
  | cons h1 h2 h3 ih =>
    rename_i pre post i x is ys
    intro A B hR hB
    rcases List.append_eq_append_iff.1 hR with ⟨A2, hA, hB2⟩ | ⟨p2, hp, hB2⟩
    · -- the element lies behind the beginning of A
      cases A2 with
      | nil =>
        simp only [List.append_nil] at hA
        subst hA
        simp only [List.nil_append] at hB2
        subst hB2
        have hpre : A = [] := h2 (hB (i, x) (by simp))
        subst hpre
        obtain ⟨is1, ys1, rfl, rfl, h4⟩ := ih (A := []) (B := post) rfl (fun p hp => hB p (by simp [hp]))
        obtain ⟨rfl, rfl⟩ := sched_nil h4 rfl
        exact ⟨[], [], by simp, by simp, .nil⟩
      | cons q A2 =>
        simp only [List.cons_append, List.cons.injEq] at hB2
        obtain ⟨rfl, rfl⟩ := hB2
        subst hA
        obtain ⟨is1, ys1, rfl, rfl, h4⟩ := ih (A := pre ++ A2) (B := B) (by simp) hB
        exact ⟨i :: is1, x :: ys1, rfl, rfl, .cons h1 h4⟩
    · have hpre : pre = [] := h2 (hB (i, x) (by rw [hB2]; simp))
      subst hpre
      obtain ⟨rfl, rfl⟩ := List.nil_eq_append_iff.1 hp
      simp only [List.nil_append] at hB2
      subst hB2
      obtain ⟨is1, ys1, rfl, rfl, h4⟩ := ih (A := []) (B := post) rfl (fun p hp => hB p (by simp [hp]))
      obtain ⟨rfl, rfl⟩ := sched_nil h4 rfl
      exact ⟨[], [], by simp, by simp, .nil⟩

theorem sched_all {R : List (Nat × Op)} {is : List Nat} {ys : List Op} (h : Sched R is ys) {S : Nat → Op → Prop} : (∀ p ∈ R, S p.1 p.2) → All2 S is ys := by
  induction h with
  | nil => intro _; exact .nil
  | cons hp _ ih =>
    intro hS
    exact .cons (hS (_, _) (by simp)) (ih fun p hp => hS p (by simp only [List.mem_append, List.mem_cons] at hp ⊢; rcases hp with h | h <;> simp [h]))


def bitsOf (acc : List Nat) (o : Oper) : Nat := o.after.toList.foldl (fun s e => if Region.binds .any e then s ||| 2 ^ e.on ||| acc.getD e.on 0 else s) 0

theorem foldl_bits (acc : List Nat) : ∀ (l : List Edge) (s j : Nat), (l.foldl (fun s e => if Region.binds .any e then s ||| 2 ^ e.on ||| acc.getD e.on 0 else s) s).testBit j = true ↔
    s.testBit j = true ∨ ∃ e ∈ l, Region.binds .any e = true ∧ (e.on = j ∨ (acc.getD e.on 0).testBit j = true)
  | [], s, j => by simp
  | e :: l, s, j => by
    simp only [List.foldl_cons]
    rw [foldl_bits acc l]
    by_cases hb : Region.binds .any e = true
    · simp only [hb, if_true, Nat.testBit_or, Bool.or_eq_true, Nat.testBit_two_pow, decide_eq_true_eq, List.mem_cons, exists_eq_or_imp, true_and]
      grind
    · simp only [hb, List.mem_cons, exists_eq_or_imp, false_and, false_or]
      simp

theorem bitsOf_iff {acc : List Nat} {o : Oper} {j : Nat} : (bitsOf acc o).testBit j = true ↔ ∃ e ∈ o.after.toList, Region.binds .any e = true ∧ (e.on = j ∨ (acc.getD e.on 0).testBit j = true) := by
  unfold bitsOf
  rw [foldl_bits]
  simp

theorem befores_spec : ∀ (l : List Oper) (acc : List Nat), ∃ ext, befores l acc = acc ++ ext ∧ ext.length = l.length ∧
    ∀ k o, l[k]? = some o → ext[k]? = some (bitsOf ((befores l acc).take (acc.length + k)) o)
  | [], acc => ⟨[], by simp [befores], rfl, fun k o h => by simp at h⟩
  | o :: l, acc => by
    obtain ⟨ext, h1, h2, h3⟩ := befores_spec l (acc ++ [bitsOf acc o])
    have h0 : befores (o :: l) acc = befores l (acc ++ [bitsOf acc o]) := rfl
    refine ⟨bitsOf acc o :: ext, by rw [h0, h1]; simp, by simp [h2], fun k o' hk => ?_⟩
    cases k with
    | zero =>
      simp only [List.getElem?_cons_zero, Option.some.injEq] at hk
      subst hk
      rw [h0, h1]
      simp
    | succ k =>
      simp only [List.getElem?_cons_succ] at hk ⊢
      rw [h3 k o' hk, h0]
      simp [Nat.add_assoc, Nat.add_comm 1 k]

theorem befores_at {ops : List Oper} {i : Nat} {o : Oper} (h : ops[i]? = some o) {j : Nat} (hj : ((befores ops []).getD i 0).testBit j = true) :
    ∃ e ∈ o.after.toList, Region.binds .any e = true ∧ (e.on = j ∨ ((befores ops []).getD e.on 0).testBit j = true) := by
  obtain ⟨ext, h1, h2, h3⟩ := befores_spec ops []
  have h4 := h3 i o h
  simp only [List.length_nil, Nat.zero_add] at h4
  simp only [List.nil_append] at h1
  rw [h1] at hj h4 ⊢
  rw [List.getD_eq_getElem?_getD, h4] at hj
  simp only [Option.getD_some] at hj
  obtain ⟨e, he, hb, hc⟩ := bitsOf_iff.1 hj
  refine ⟨e, he, hb, hc.imp id fun hc => ?_⟩
  rw [List.getD_eq_getElem?_getD] at hc ⊢
  rw [List.getElem?_take] at hc
  split at hc
  · exact hc
  · simp at hc

theorem tail_bits {bs : List Nat} : ∀ {n j : Nat}, tailOf.go bs n ≤ j → j < n → bs.getD j 0 = 2 ^ j - 1
  | 0, j, h, hj => by omega
  | n + 1, j, h, hj => by
    simp only [tailOf.go] at h
    split at h
    · rename_i hb
      by_cases hjn : j = n
      · subst hjn; exact hb
      · exact tail_bits h (by omega)
    · omega

theorem after_ok {bs : List Nat} {i : Nat} {o : Op} : ∀ {l : List Op} {j : Nat}, calmC.after bs i j o l = true → ∀ k p, l[k]? = some p → o.free p = true ∨ (bs.getD (j + k) 0).testBit i = true
  | [], j, h, k, p, hk => by simp at hk
  | q :: l, j, h, k, p, hk => by
    simp only [calmC.after, Bool.and_eq_true, Bool.or_eq_true] at h
    cases k with
    | zero => simp only [List.getElem?_cons_zero, Option.some.injEq] at hk; subst hk; simpa using h.1
    | succ k =>
      have := after_ok h.2 k p (by simpa using hk)
      rwa [show j + 1 + k = j + (k + 1) from by omega] at this

theorem calm_ok {bs : List Nat} : ∀ {l : List Op} {i : Nat}, calmC bs i l = true → ∀ k p, l[k]? = some p → ∀ m q, l[m]? = some q → k < m → p.free q = true ∨ (bs.getD (i + m) 0).testBit (i + k) = true
  | [], i, h, k, p, hk => by simp at hk
  | o :: l, i, h, k, p, hk => by
    simp only [calmC, Bool.and_eq_true] at h
    obtain ⟨h2, h3⟩ := h
    cases k with
    | zero =>
      simp only [List.getElem?_cons_zero, Option.some.injEq] at hk; subst hk
      intro m q hm hlt
      cases m with
      | zero => omega
      | succ m =>
        have := after_ok h2 m q (by simpa using hm)
        rwa [show i + 1 + m = i + (m + 1) from by omega] at this
    | succ k =>
      have h5 := calm_ok h3 k p (by simpa using hk)
      intro m q hm hlt
      cases m with
      | zero => omega
      | succ m =>
        have := h5 m q (by simpa using hm) (by omega)
        rwa [show i + 1 + m = i + (m + 1) from by omega, show i + 1 + k = i + (k + 1) from by omega] at this

theorem edges_ok : ∀ {l : List Oper} {i : Nat}, edgesOk i l = true → ∀ k o, l[k]? = some o → ∀ e ∈ o.after.toList, Region.binds .any e = true → e.on < i + k
  | [], i, h, k, o, hk => by simp at hk
  | o :: l, i, h, k, o', hk => by
    simp only [edgesOk, Bool.and_eq_true, List.all_eq_true] at h
    cases k with
    | zero =>
      simp only [List.getElem?_cons_zero, Option.some.injEq] at hk; subst hk
      intro e he hb
      have := h.1 e he
      simpa [hb] using this
    | succ k =>
      intro e he hb
      have := edges_ok h.2 k o' (by simpa using hk) e he hb
      omega



def unl (n : Nat) (listed : Array Bool) : List Nat := (List.range n).filter fun i => !listed.getD i true

theorem split_at {l : List Nat} {i : Nat} (hn : l.Pairwise (· < ·)) (hi : i ∈ l) : ∃ pre post, l = pre ++ i :: post ∧ l.filter (fun j => decide (j ≠ i)) = pre ++ post ∧ ∀ p ∈ pre, p < i := by
  obtain ⟨pre, post, rfl⟩ := List.append_of_mem hi
  rw [List.pairwise_append] at hn
  obtain ⟨h1, h2, h3⟩ := hn
  rw [List.pairwise_cons] at h2
  refine ⟨pre, post, rfl, ?_, fun p hp => h3 p hp i (by simp)⟩
  rw [List.filter_append, List.filter_cons]
  simp only [ne_eq, not_true, decide_false, Bool.false_eq_true, if_false]
  rw [List.filter_eq_self.2, List.filter_eq_self.2]
  · intro a ha; have := h2.1 a ha; simp; omega
  · intro a ha; have := h3 a ha i (by simp); simp; omega

theorem getD_tf {listed : Array Bool} {i : Nat} (h : i < listed.size) : listed.getD i true = listed.getD i false := by
  simp [Array.getD_eq_getD_getElem?, h]

theorem lin_sched {ops : Array Oper} {xs : List Op} (hlen : xs.length = ops.size) (hcalm : calmC (befores ops.toList []) 0 (xs.take (tailOf (befores ops.toList []))) = true)
    (hedges : edgesOk 0 ops.toList = true) : ∀ (fuel t : Nat) (listed : Array Bool), listed.size = ops.size →
    (∀ i, listed.getD i false = true → ∀ j, ((befores ops.toList []).getD i 0).testBit j = true → listed.getD j false = true) → (unl ops.size listed).length ≤ fuel →
    ∃ ys, SchedT (tailOf (befores ops.toList [])) ((unl ops.size listed).map fun i => (i, (xs[i]?).getD default)) (Region.linearise.go .any ops fuel t listed []) ys
  | 0, t, listed, hs, hcl, hf => by
    have : unl ops.size listed = [] := by simpa using hf
    exact ⟨[], by rw [this]; exact .nil⟩
  | fuel + 1, t, listed, hs, hcl, hf => by
    have hbl : (befores ops.toList []).length = ops.size := by
      obtain ⟨ext, h1, h2, _⟩ := befores_spec ops.toList []
      rw [h1]; simpa using h2
    have hsorted : (unl ops.size listed).Pairwise (· < ·) := List.Pairwise.filter _ List.pairwise_lt_range
    have hmemU : ∀ i, i ∈ unl ops.size listed ↔ i < ops.size ∧ listed.getD i false = false := by
      intro i
      simp only [unl, List.mem_filter, List.mem_range, Bool.not_eq_true']
      constructor
      · rintro ⟨h1, h2⟩; exact ⟨h1, by rw [← getD_tf (by omega)]; exact h2⟩
      · rintro ⟨h1, h2⟩; exact ⟨h1, by rw [getD_tf (by omega)]; exact h2⟩
    have hgo : Region.linearise.go .any ops (fuel + 1) t listed [] = match (Region.ready .any ops listed)[t % (Region.ready .any ops listed).length]? with
        | some i => Region.linearise.go .any ops fuel (t / (Region.ready .any ops listed).length) (listed.setIfInBounds i true) [i]
        | none => [] := rfl
    rw [hgo]
    cases hU : unl ops.size listed with
    | nil =>
      have hr : Region.ready .any ops listed = [] := by
        rw [List.eq_nil_iff_forall_not_mem]
        intro j hj
        rw [mem_ready] at hj
        obtain ⟨h0, o, ho, _⟩ := hj
        have hlt := (Array.getElem?_eq_some_iff.1 ho).1
        have : j ∈ unl ops.size listed := (hmemU j).2 ⟨hlt, by rw [← getD_tf (by omega)]; exact h0⟩
        rw [hU] at this; cases this
      rw [hr]
      exact ⟨[], .nil⟩
    | cons i0 U' =>
      have hi0 := (hmemU i0).1 (by rw [hU]; simp)
      have hready0 : i0 ∈ Region.ready .any ops listed := by
        rw [mem_ready]
        refine ⟨by rw [getD_tf (by omega)]; exact hi0.2, ops[i0]'hi0.1, by simp, fun e he hb => ?_⟩
        have hlt := edges_ok hedges i0 (ops[i0]'hi0.1) (by simp [hi0.1]) e (by simpa using he) hb
        cases hl : listed.getD e.on false with
        | true => rfl
        | false =>
          have : e.on ∈ unl ops.size listed := (hmemU _).2 ⟨by omega, hl⟩
          rw [hU] at this
          rw [hU, List.pairwise_cons] at hsorted
          rcases List.mem_cons.1 this with h | h
          · omega
          · have := hsorted.1 _ h; omega
      have hpos : 0 < (Region.ready .any ops listed).length := List.length_pos_of_mem hready0
      have hlt := Nat.mod_lt t hpos
      rw [List.getElem?_eq_getElem hlt]
      dsimp only
      generalize hie : (Region.ready .any ops listed)[t % (Region.ready .any ops listed).length] = i
      have hi : i ∈ Region.ready .any ops listed := by rw [← hie]; exact List.getElem_mem hlt
      rw [mem_ready] at hi
      obtain ⟨h0, o, ho, hall⟩ := hi
      have hin := (Array.getElem?_eq_some_iff.1 ho).1
      have hiU : i ∈ unl ops.size listed := (hmemU i).2 ⟨hin, by rw [← getD_tf (by omega)]; exact h0⟩
      have hbits : ∀ j, ((befores ops.toList []).getD i 0).testBit j = true → listed.getD j false = true := by
        intro j hj
        obtain ⟨e, he, hb, hc⟩ := befores_at (ops := ops.toList) (i := i) (o := o) (by simpa using ho) hj
        have hl := hall e (by simpa using he) hb
        rcases hc with rfl | hc
        · exact hl
        · exact hcl _ hl _ hc
      obtain ⟨pre, post, hsp, hfl, hlt'⟩ := split_at hsorted hiU
      have hU2 : unl ops.size (listed.setIfInBounds i true) = pre ++ post := by
        rw [← hfl]
        simp only [unl, List.filter_filter]
        apply List.filter_congr
        intro j hj
        by_cases hji : j = i
        · subst hji; simp [show j < listed.size from by omega]
        · rw [getD_set_ne true (Ne.symm hji)]; simp [hji]
      have hcl2 : ∀ i', (listed.setIfInBounds i true).getD i' false = true → ∀ j, ((befores ops.toList []).getD i' 0).testBit j = true → (listed.setIfInBounds i true).getD j false = true := by
        intro i' hi' j hj
        by_cases hii : i' = i
        · subst hii; exact getD_set_true (hbits j hj)
        · rw [getD_set_ne false (Ne.symm hii)] at hi'; exact getD_set_true (hcl i' hi' j hj)
      obtain ⟨ys, hys⟩ := lin_sched hlen hcalm hedges fuel (t / (Region.ready .any ops listed).length) (listed.setIfInBounds i true) (by simpa using hs) hcl2 (by
        have : (unl ops.size listed).length = (pre ++ i :: post).length := by rw [hsp]
        rw [hU2]; simp at this ⊢; omega)
      rw [linearise_go_acc]
      refine ⟨(xs[i]?).getD default :: ys, ?_⟩
      rw [← hU, hsp]
      simp only [List.map_append, List.map_cons, List.reverse_cons, List.reverse_nil, List.nil_append, List.singleton_append]
      have hxi : ∃ x, xs[i]? = some x := ⟨xs[i]'(by omega), by simp [show i < xs.length from by omega]⟩
      obtain ⟨x, hx⟩ := hxi
      have hpre : ∀ p ∈ pre, i < tailOf (befores ops.toList []) := by
        intro p hp
        rcases Nat.lt_or_ge i (tailOf (befores ops.toList [])) with h | h
        · exact h
        · have hb := tail_bits (bs := befores ops.toList []) (n := (befores ops.toList []).length) h (by omega)
          have hpU := (hmemU p).1 (by rw [hsp]; simp [hp])
          have := hbits p (by rw [hb, Nat.testBit_two_pow_sub_one]; simpa using hlt' p hp)
          rw [this] at hpU; cases hpU.2
      refine .cons ?_ (fun hti => ?_) ?_
      rotate_left
      · cases pre with
        | nil => rfl
        | cons p pre => have := hpre p (by simp); omega
      rotate_left
      · intro p hp
        obtain ⟨j, hj, rfl⟩ := List.mem_map.1 hp
        have hjn := (hmemU j).1 (by rw [hsp]; simp [hj])
        have hjx : xs[j]? = some (xs[j]'(by omega)) := by simp [show j < xs.length from by omega]
        have hit := hpre j hj
        have hji := hlt' j hj
        rw [hx, hjx]
        simp only [Option.getD_some]
        rcases calm_ok hcalm j _ (by rw [List.getElem?_take, if_pos (by omega)]; exact hjx) i x (by rw [List.getElem?_take, if_pos hit]; exact hx) hji with h | h
        · exact h
        · simp only [Nat.zero_add] at h
          have := hbits j h
          rw [this] at hjn; cases hjn.2
      · rw [hU2] at hys
        simpa using hys

end Go.Abs

/-
  Segments come and go; loops' records; what a frame holds behind a region, behind a round.
-/
set_option linter.unusedVariables false
set_option linter.unusedSimpArgs false
namespace Go.Abs
open Go

theorem blk?_lt {σ : Stack} {l i : Nat} {b : Blk} (h : blk? σ l i = some b) : l < σ.length := by
  unfold blk? at h
  cases hs : seg? σ l with
  | none => simp [hs] at h
  | some s => exact seg?_lt hs

theorem blk?_push {σ : Stack} {l i : Nat} : blk? ([] :: σ) l i = blk? σ l i := by
  simp only [blk?, seg?]
  split
  · rename_i h
    subst h
    cases hs : seg? σ σ.length with
    | none => simp
    | some s => exact absurd (seg?_lt hs) (Nat.lt_irrefl _)
  · rfl

theorem blk?_pop {s : List Blk} {σ : Stack} {l i : Nat} (h : l < σ.length) : blk? (s :: σ) l i = blk? σ l i := by
  simp only [blk?, seg?]
  rw [if_neg (by omega)]

section
variable {CR : CRel} {base : Nat} {g g' : G} {σ σ' : Stack} {w w' : World}

theorem Inv.lvl (hi : Inv CR base g σ w) {l i : Nat} {L : Loc} (h : g.loc l i = some L) : l < σ.length := by
  obtain ⟨b, hb, _⟩ := hi.dom l i L h
  exact blk?_lt hb

theorem Inv.push (hi : Inv CR base g σ w) : Inv CR base g ([] :: σ) w :=
  { hi with dom := fun l i L e => by rw [blk?_push]; exact hi.dom l i L e, tot := fun l i b e => by rw [blk?_push] at e; exact hi.tot l i b e }

theorem RelB.low {n : Nat} (hn : ∀ l i L, g.loc l i = some L → l < n) {b : Blk} {L : Loc} (h : RelB CR g w b L) : b.low n := by
  cases b with
  | cells v cs =>
    cases L with
    | «at» x off v' sz => obtain ⟨_, c, el, _, _, _, vs, hr, _⟩ := h; exact RelL.low hn hr
    | virt v' => obtain ⟨_, rfl⟩ := h; rfl
    | dead => exact h.elim
    | lp x => exact h.elim
    | mp x => obtain ⟨_, ents, clock, _, hr, _⟩ := h; exact RelL.low hn hr
    | it x =>
      obtain ⟨_, l, i, bm, n', js, rfl, h2, _⟩ := h
      have hl := hn l i _ h2
      simp only [Blk.low, D.lowL, D.low, Bool.and_eq_true, decide_eq_true_eq, Bool.true_and]
      refine ⟨hl, ?_⟩
      rw [lowL_iff]
      intro d hd
      obtain ⟨j, _, rfl⟩ := List.mem_map.1 hd
      rfl
    | ob x y => obtain ⟨_, T, e, bs, p, s, rfl, _⟩ := h; rfl
  | dead => trivial
  | loop lp =>
    cases L with
    | lp x =>
      obtain ⟨r, _, hr⟩ := h
      exact fun t => RelV.low hn (hr.env t)
    | «at» x off v' sz => exact h.elim
    | virt v' => exact h.elim
    | dead => exact h.elim
    | mp x => exact h.elim
    | it x => exact h.elim
    | ob x _ => exact h.elim

theorem LowS.push (hi : Inv CR base g σ w) (h : LowS σ) : LowS ([] :: σ) := by
  intro l i b e hl
  rw [blk?_push] at e
  have hlt := blk?_lt e
  by_cases h1 : l + 1 < σ.length
  · exact h l i b e h1
  · obtain ⟨L, hL⟩ := hi.tot l i b e
    obtain ⟨b', hb', hr⟩ := hi.dom l i L hL
    rw [e] at hb'; cases hb'
    rw [show l + 1 = σ.length from by omega]
    exact hr.low fun l i L h => hi.lvl h

theorem RelB.cut {n : Nat} {b : Blk} {L : Loc} (h : RelB CR g w b L) (hl : b.low n) : RelB CR (g.cut n) w b L := by
  cases b with
  | cells v cs =>
    cases L with
    | «at» x off v' sz => obtain ⟨h1, c, el, h2, h3, h4, vs, hr, h5⟩ := h; exact ⟨h1, c, el, h2, h3, h4, vs, hr.cut hl, h5⟩
    | virt v' => exact h
    | dead => exact h
    | lp x => exact h
    | mp x => obtain ⟨hv, ents, clock, h1, hr, h2⟩ := h; exact ⟨hv, ents, clock, h1, hr.cut hl, h2⟩
    | it x =>
      obtain ⟨hv, l, i, bm, n', js, rfl, h2, h3⟩ := h
      simp only [Blk.low, D.lowL, D.low, Bool.and_eq_true, decide_eq_true_eq] at hl
      exact ⟨hv, l, i, bm, n', js, rfl, (G.cut_loc hl.1).trans h2, h3⟩
    | ob x y => exact h
  | dead => cases L <;> exact h
  | loop lp =>
    cases L with
    | lp x =>
      obtain ⟨r, h1, hr⟩ := h
      exact ⟨r, h1, { hr with env := fun t => (hr.env t).cut (hl t) }⟩
    | «at» x off v' sz => exact h
    | virt v' => exact h
    | dead => exact h
    | mp x => exact h
    | it x => exact h
    | ob x _ => exact h

theorem Blk.low_mono {n m : Nat} (h : n ≤ m) {b : Blk} (hb : b.low n) : b.low m := by
  cases b with
  | cells v cs => exact lowL_mono h hb
  | dead => trivial
  | loop lp => exact fun t => Abs.low_mono h (hb t)

theorem Inv.pop {s : List Blk} (hi : Inv CR base g (s :: σ) w) (h : LowS (s :: σ)) : Inv CR base (g.cut σ.length) σ w ∧ LowS σ := by
  refine ⟨⟨hi.ge, fun l i L e => ?_, hi.imm, fun l i L b e => hi.sep l i L b (G.cut_some e).2, fun l i L l' i' L' b e e' => hi.inj l i L l' i' L' b (G.cut_some e).2 (G.cut_some e').2,
    fun l i L b e => hi.lo l i L b (G.cut_some e).2, fun l i b e => ?_, hi.glb⟩, fun l i b e hl => ?_⟩
  · obtain ⟨hl, e⟩ := G.cut_some e
    obtain ⟨b, hb, hr⟩ := hi.dom l i L e
    have hlow := h l i b hb (by simp; omega)
    rw [blk?_pop hl] at hb
    exact ⟨b, hb, hr.cut (Blk.low_mono (by omega) hlow)⟩
  · have hl := blk?_lt e
    rw [← blk?_pop (s := s) hl] at e
    obtain ⟨L, hL⟩ := hi.tot l i b e
    exact ⟨L, by rw [G.cut_loc hl]; exact hL⟩
  · have hl' := blk?_lt e
    rw [← blk?_pop (s := s) hl'] at e
    exact h l i b e (by simp; omega)

theorem Ev.cut {n : Nat} (h : Ev g w g' w') (hn : ∀ l i L, g.loc l i = some L → l < n) : Ev g w (g'.cut n) w' where
  le := ⟨fun l i L e => by rw [G.cut_loc (hn l i L e)]; exact h.le.loc l i L e, h.le.imm⟩
  os := h.os
  tape := h.tape
  output := h.output
  size := h.size
  kept := h.kept
  img b hb := by
    obtain ⟨l, i, L, e, eb⟩ := hb
    exact h.img b ⟨l, i, L, (G.cut_some e).2, eb⟩
  immN := h.immN

theorem G.cut_has {n b : Nat} (h : (g.cut n).has b) : g.has b := by
  obtain ⟨l, i, L, e, eb⟩ := h
  exact ⟨l, i, L, (G.cut_some e).2, eb⟩

theorem Inv.newLoop (hi : Inv CR base g σ w) {l i : Nat} {lp : LoopSt} (hn : newBlk σ (.loop lp) = some (l, i, σ')) (r : Loop)
    (hr : RelLoop CR g lp r) :
    Inv CR base (g.setLoc l i (.lp w.heap.size)) σ' (w.alloc (.loop r)) ∧ Ev g w (g.setLoc l i (.lp w.heap.size)) (w.alloc (.loop r)) := by
  obtain ⟨h1, h2, h3, _, _⟩ := newBlk_spec hn
  have hnone := hi.none_of h1
  have hle : g.le (g.setLoc l i (.lp w.heap.size)) := G.le_setLoc fun L0 e => by rw [hnone] at e; cases e
  refine ⟨hi.turn l i hle h3 (fun l' i' c => G.setLoc_other c) (fun l' i' L b c e eb => alloc_old (hi.lo l' i' L b e eb).2) ?_ ?_ ?_ ?_ (by simp) ⟨_, G.setLoc_same⟩ (fun b v hb => alloc_old (hi.imm_lt hb)), ⟨hle, rfl, rfl, rfl, by simp, fun b hb _ => alloc_old hb, ?_, fun b o v hv => .inl hv⟩⟩
  · intro L e
    rw [G.setLoc_same] at e; cases e
    exact ⟨_, h2, r, alloc_new, { hr with env := hr.env.mono hle }⟩
  · intro b o v e
    obtain ⟨h1, h2⟩ := hi.imm b o v e
    exact ⟨(cell?_congr (alloc_old (hi.imm_lt e))).trans h1, h2⟩
  · intro l' i' L b e eb o
    by_cases c : l' = l ∧ i' = i
    · obtain ⟨rfl, rfl⟩ := c
      rw [G.setLoc_same] at e; cases e; cases eb
      cases e' : (g.setLoc l' i' (.lp w.heap.size)).imm w.heap.size o with
      | none => rfl
      | some v => have := hi.imm_lt (b := w.heap.size) (o := o) (v := v) e'; omega
    · rw [G.setLoc_other c] at e; exact hi.sep l' i' L b e eb o
  · intro L b e eb
    rw [G.setLoc_same] at e; cases e; cases eb
    refine ⟨hi.ge, by simp, fun l' i' L' c e' eb' => ?_⟩
    have := (hi.lo l' i' L' _ e' eb').2; omega
  · intro b hb
    obtain ⟨l', i', L, e, eb⟩ := hb
    by_cases c : l' = l ∧ i' = i
    · obtain ⟨rfl, rfl⟩ := c
      rw [G.setLoc_same] at e; cases e; cases eb; exact .inr (Nat.le_refl _)
    · rw [G.setLoc_other c] at e; exact .inl ⟨l', i', L, e, eb⟩

theorem Inv.setLoop (hi : Inv CR base g σ w) {l i lb : Nat} {lp0 lp : LoopSt} (hL : g.loc l i = some (.lp lb)) (hb : blk? σ l i = some (.loop lp0)) {r : Loop} (hr : RelLoop CR g lp r) :
    Inv CR base g (setBlk σ l i (.loop lp)) (w.putObj lb (.loop r)) ∧ Ev g w g (w.putObj lb (.loop r)) := by
  have hlt := (hi.lo l i _ lb hL rfl).2
  have hoth : ∀ b, b ≠ lb → (w.putObj lb (.loop r)).heap[b]? = w.heap[b]? := fun b hne => World.putObj_heap_other hne
  refine ⟨hi.turn l i g.le_refl (fun l' i' c => blk?_setBlk_other c) (fun _ _ _ => rfl) ?_ ?_ ?_ hi.sep ?_ (by simp) ⟨_, hL⟩ ?_, ⟨g.le_refl, rfl, rfl, rfl, by simp, fun b _ hn => ?_, fun b hb => .inl hb, fun b o v hv => .inl hv⟩⟩
  · intro l' i' L b c e eb
    refine hoth b fun h => c ?_
    subst h
    exact hi.inj l' i' L l i _ b e hL eb rfl
  · intro L e
    rw [hL] at e; cases e
    exact ⟨_, blk?_setBlk hb, r, World.putObj_heap_same hlt, hr⟩
  · intro b o v e
    obtain ⟨h1, h2⟩ := hi.imm b o v e
    refine ⟨(cell?_congr (hoth b fun h => ?_)).trans h1, h2⟩
    subst h
    have := hi.sep l i _ b hL rfl o
    rw [e] at this; cases this
  · intro L b e eb
    rw [hL] at e; cases e; cases eb
    refine ⟨(hi.lo l i _ lb hL rfl).1, by simpa using hlt, fun l' i' L' c e' eb' => c ?_⟩
    exact hi.inj l' i' L' l i _ lb e' hL eb' rfl
  · intro b v hb
    refine hoth b fun h => ?_
    subst h
    have := hi.sep l i _ b hL rfl 0
    rw [hb] at this; cases this
  · refine hoth b fun h => hn ⟨l, i, _, hL, by rw [h]; rfl⟩
end


theorem get_map {live : List Nat} {f : D → D} {e : Env} (hf : f .undef = .undef) {t : Nat} : get (live.map fun t => (t, f (get e t))) t = if t ∈ live then f (get e t) else .undef := by
  induction live with
  | nil => simp [get]
  | cons u live ih =>
    simp only [List.map_cons, get, List.mem_cons]
    by_cases h : u = t
    · subst h; simp
    · rw [if_neg h, ih]
      by_cases h2 : t ∈ live
      · rw [if_pos h2, if_pos (.inr h2)]
      · rw [if_neg h2, if_neg (by intro h3; rcases h3 with h3 | h3; exact h h3.symm; exact h2 h3)]

theorem get_restrict {live : List Nat} {e : Env} {t : Nat} : get (restrict live e) t = if t ∈ live then (get e t).calm else .undef := get_map rfl
theorem get_strips {live : List Nat} {e : Env} {t : Nat} : get (strips live e) t = if t ∈ live then (get e t).strip else .undef := get_map rfl

section
variable {fb : Nat} {V : List Nat} {g : G} {w : World} {B : Nat → Nat} {e : Env} {tmps : Array Value}

theorem calm_own {d : D} {s : Nat} {cs : List D} (h : d.calm = .own s cs) : ∃ s', d = .own s' cs := by
  cases d <;> simp only [D.calm, reduceCtorEq, D.own.injEq] at h
  exact ⟨_, by rw [h.2]⟩

theorem Fr.restrict (hf : Fr fb V g w B e tmps) (live : List Nat) : Fr fb V g w B (restrict live e) tmps := by
  have hown : ∀ t s cs, get (Abs.restrict live e) t = .own s cs → ∃ s', get e t = .own s' cs := by
    intro t s cs h
    rw [get_restrict] at h
    split at h
    · exact calm_own h
    · cases h
  refine ⟨fun t => ?_, fun t s cs h => ?_, fun t t' s s' cs cs' h h' => ?_⟩
  · rw [get_restrict]
    split
    · have := hf.rel t
      cases hd : get e t <;> rw [hd] at this <;> simp only [D.calm] <;> first | exact this | exact RelV.undef _ | trivial
    · exact RelV.undef _
  · obtain ⟨s', h⟩ := hown t s cs h
    exact hf.own t s' cs h
  · obtain ⟨_, h⟩ := hown _ _ _ h
    obtain ⟨_, h'⟩ := hown _ _ _ h'
    exact hf.inj _ _ _ _ _ _ h h'

theorem Fr.strips (hf : Fr fb V g w B e tmps) (live : List Nat) : RelEnv g (strips live e) tmps := fun t => by
  rw [get_strips]
  split
  · exact hf.strip t
  · exact .undef _

theorem At.restrict {CR : CRel} {base n : Nat} {g0 : G} {w0 : World} {b : Frame} {σ : Stack} {a : Act} (ha : At CR base V g0 w0 n b g w B e σ a) (live : List Nat) : At CR base V g0 w0 n b g w B (restrict live e) σ a :=
  { ha with fr := ha.fr.restrict live }

theorem At.draw {CR : CRel} {base n : Nat} {g0 : G} {w0 : World} {b : Frame} {σ : Stack} {a : Act} (ha : At CR base V g0 w0 n b g w B e σ a) (w1 : World) (h : w1.heap = w.heap) (ho : w1.os = w.os) (ht : w1.tape = w.tape) (hp : w1.output = w.output) :
    At CR base V g0 w0 n b g w1 B e σ a :=
  ha.go (Ev.heap g h ho ht hp) (ha.inv.heap h) (.refl σ) (ha.fr.ev (Ev.heap g h ho ht hp)) rfl rfl


def Ent (fb : Nat) (V : List Nat) (g : G) (w : World) (B : Nat → Nat) (e0 : Env) (tmps : Array Value) (p : Nat × D) : Prop :=
  match p.2 with
  | .own s cs => (∃ s' cs', get e0 p.1 = .own s' cs') ∧ p.1 ∈ V ∧ tmps.getD p.1 Go.undef = .pointer (some ⟨B p.1, 0, none⟩) ∧ OwnB fb g w (B p.1) cs
  | d => RelV g d (tmps.getD p.1 Go.undef)

theorem Ent.ev {e0 : Env} {p : Nat × D} {g' : G} {w' : World} (h : Ent fb V g w B e0 tmps p) (he : Ev g w g' w') : Ent fb V g' w' B e0 tmps p := by
  obtain ⟨t, d⟩ := p
  unfold Ent at h ⊢
  dsimp only at h ⊢
  split
  · obtain ⟨h1, h2, h3, h4⟩ := h
    exact ⟨h1, h2, h3, h4.ev he⟩
  · rename_i hd
    cases d with
    | own s cs => exact absurd rfl (hd s cs)
    | _ => exact h.mono he.le

theorem get_mem {e : Env} {t : Nat} : get e t = .undef ∨ (t, get e t) ∈ e := by
  induction e with
  | nil => exact .inl rfl
  | cons p e ih =>
    obtain ⟨k, v⟩ := p
    simp only [get]
    split
    · rename_i h; subst h; exact .inr (by simp)
    · exact ih.imp id fun h => by simp [h]

theorem Fr.ents (hf : Fr fb V g w B e tmps) (live : List Nat) : ∀ p ∈ Abs.restrict live e, Ent fb V g w B e tmps p := by
  intro p hp
  simp only [Abs.restrict, List.mem_map] at hp
  obtain ⟨t, _, rfl⟩ := hp
  unfold Ent
  dsimp only
  cases hd : get e t with
  | own s cs =>
    obtain ⟨h1, h2, h3⟩ := hf.own t s cs hd
    exact ⟨⟨s, cs, rfl⟩, h1, h2, h3⟩
  | vr => exact .undef _
  | emp => exact .undef _
  | _ => have := hf.rel t; rw [hd] at this; exact this

theorem Ent.fr (hf : Fr fb V g w B e tmps) {g' : G} {w' : World} {e' : Env} (h : ∀ p ∈ e', Ent fb V g' w' B e tmps p) : Fr fb V g' w' B e' tmps := by
  refine ⟨fun t => ?_, fun t s cs hg => ?_, fun t t' s s' cs cs' hg hg' hB => ?_⟩
  · rcases get_mem (e := e') (t := t) with hm | hm
    · rw [hm]; exact RelV.undef _
    · have := h _ hm
      unfold Ent at this
      dsimp only at this
      cases hd : get e' t with
      | own s cs => trivial
      | vr => rw [hd] at this; cases this
      | emp => rw [hd] at this; cases this
      | _ => rw [hd] at this; exact this
  · rcases get_mem (e := e') (t := t) with hm | hm
    · rw [hm] at hg; cases hg
    · have := h _ hm
      rw [hg] at this
      exact ⟨this.2.1, this.2.2.1, this.2.2.2⟩
  · have h1 : ∃ s cs, get e t = .own s cs := by
      rcases get_mem (e := e') (t := t) with hm | hm
      · rw [hm] at hg; cases hg
      · have := h _ hm; rw [hg] at this; exact this.1
    have h2 : ∃ s cs, get e t' = .own s cs := by
      rcases get_mem (e := e') (t := t') with hm | hm
      · rw [hm] at hg'; cases hg'
      · have := h _ hm; rw [hg'] at this; exact this.1
    obtain ⟨_, _, h1⟩ := h1
    obtain ⟨_, _, h2⟩ := h2
    exact hf.inj _ _ _ _ _ _ h1 h2 hB

theorem not_own {g : G} {d : D} {c : Value} (h : RelV g d c) (s : Nat) (cs : List D) : d ≠ .own s cs := by intro e; subst e; cases h

theorem Ent.of {e0 : Env} {t : Nat} {d : D} (h : RelV g d (tmps.getD t Go.undef)) : Ent fb V g w B e0 tmps (t, d) := by
  unfold Ent
  dsimp only
  split
  · cases h
  · exact h

theorem frz_own {l n s : Nat} {cs : List D} {σ : Stack} : frz l (n + 1) (.own s cs) σ = if (D.own s cs).clean then (.own s cs, σ) else (.own s (frz.frzL (frz l n) cs σ).1, (frz.frzL (frz l n) cs σ).2) := by
  simp only [frz]

theorem frzE_ok {CR : CRel} {base : Nat} {e0 : Env} (l : Nat) : ∀ (es : Env) (σ : Stack) (g : G), Inv CR base g σ w → (∀ p ∈ es, Ent fb V g w B e0 tmps p) →
    ∃ g', Inv CR base g' (frzE l es σ).2 w ∧ Ev g w g' w ∧ ∀ p ∈ (frzE l es σ).1, Ent fb V g' w B e0 tmps p
  | [], σ, g, hi, h => ⟨g, hi, Ev.refl g w, by simp [frzE]⟩
  | (t, d) :: es, σ, g, hi, h => by
    have h1 : ∃ g1, Inv CR base g1 (frz l deep d σ).2 w ∧ Ev g w g1 w ∧ Ent fb V g1 w B e0 tmps (t, (frz l deep d σ).1) := by
      have h0 := h (t, d) (by simp)
      cases hd : d with
      | own s cs =>
        subst hd
        obtain ⟨k1, k2, k3, k4⟩ := h0
        rw [show frz l deep (.own s cs) σ = frz l (15 + 1) (.own s cs) σ from rfl, frz_own]
        split
        · exact ⟨g, hi, Ev.refl g w, k1, k2, k3, k4⟩
        · obtain ⟨ca, el, hb, hr, h1c⟩ := k4.blk
          obtain ⟨g1, i1, e1, r1⟩ := frzL_ok (CR := CR) (base := base) (frz_ok l 15) cs σ g w _ hi hr
          have k5 := k4.ev e1
          exact ⟨g1, i1, e1, k1, k2, k3, k5.lo, k5.free, k5.noimm, ca, el, hb, r1, h1c⟩
      | _ =>
        rw [hd] at h0
        obtain ⟨g1, i1, e1, r1⟩ := frz_ok (CR := CR) (base := base) l deep _ σ g w _ hi h0
        exact ⟨g1, i1, e1, Ent.of r1⟩
    obtain ⟨g1, i1, e1, k1⟩ := h1
    obtain ⟨g2, i2, e2, k2⟩ := frzE_ok l es (frz l deep d σ).2 g1 i1 fun p hp => (h p (by simp [hp])).ev e1
    refine ⟨g2, i2, e1.trans e2, fun p hp => ?_⟩
    simp only [frzE] at hp
    rcases List.mem_cons.1 hp with rfl | hp
    · exact k1.ev e2
    · exact k2 p hp
end
end Go.Abs

/-
  Code: what the interpreter says is what the machine does.
-/
set_option linter.unusedVariables false
set_option linter.unusedSimpArgs false
namespace Go.Abs
open Go

theorem stepR_scope {P : Program} {b : Frame} {a : Act} {k : List Item} {cs : List Frame} {w : World} {c : Code} :
    step P (lone (b.atR a (.code (.scope c) :: k)) cs w) = .next (lone (b.atR a (.code c :: .inScope c :: k)) cs w) :=
  step_lone_go (by simp [stepG, stepG.exec, Frame.atR])
theorem stepR_inScope {P : Program} {b : Frame} {a : Act} {k : List Item} {cs : List Frame} {w : World} {c : Code} :
    step P (lone (b.atR a (.inScope c :: k)) cs w) = .next (lone (b.atR a k) cs w) :=
  step_lone_go (by simp [stepG, stepG.exec, Frame.atR])

def QErr (o : Obj) : Prop := ∃ c t fz v, o = .cells c t fz ∧ c[0]? = some v ∧ (v = .nilIface ∨ ∃ te pe, v = .iface te pe)
def QPow (o : Obj) : Prop := ∃ t fz, o = .cells (Lib.pow10Tab.map (Value.int .u64)).toArray t fz
def QMax (o : Obj) : Prop := ∃ c t fz m, o = .cells c t fz ∧ c[0]? = some (.int .i64 m)
def GlbP (P : Program) (b : Nat) (Q : Obj → Prop) : Prop :=
  (P.globalNamed "strconv.ErrSyntax" = some b ∧ Q = QErr) ∨ (P.globalNamed "strconv.ErrRange" = some b ∧ Q = QErr) ∨
  (P.globalNamed "internal/strconv.uint64pow10" = some b ∧ Q = QPow) ∨ (P.globalNamed "internal/bytealg.MaxLen" = some b ∧ Q = QMax)

def CR0 (P : Program) : CRel := ⟨fun c code n => ∃ ann blk, codeC P ann n blk code = some c, GlbP P⟩

section
variable {P : Program} {O : Oracle} {ann : Ann} {n : Nat} {base : Nat} {g0 g : G} {w0 w : World} {b : Frame} {B : Nat → Nat} {e e' : Env} {σ σ' : Stack} {a : Act}
  {k : List Item} {cs : List Frame} {x : Exit}

def Ends (P : Program) (ann : Ann) (n base : Nat) (g0 : G) (w0 : World) (b : Frame) (cs : List Frame) (g : G) (w : World) (a : Act) (start k : List Item) (σ : Stack) (x : Exit) (e' : Env) (σ' : Stack) : Prop :=
  ∃ g' w' B' a' todo, Outs (fun fr => Steps P (lone (b.atR a start) cs w) (lone fr cs w')) g' b a' todo x ∧
    At (CR0 P) base ann.ownv g0 w0 n b g' w' B' e' σ' a' ∧ g.le g' ∧ Lands k x todo ∧ Goes σ σ'

theorem Ends.step {start start' k : List Item} {w1 : World} (h : step P (lone (b.atR a start) cs w) = .next (lone (b.atR a start') cs w1)) (hw : Ends P ann n base g0 w0 b cs g w1 a start' k σ x e' σ') :
    Ends P ann n base g0 w0 b cs g w a start k σ x e' σ' := by
  obtain ⟨g', w', B', a', todo, h1, h2⟩ := hw
  exact ⟨g', w', B', a', todo, h1.imp fun _ h1 => .head h h1, h2⟩

theorem Outs.of {S : Frame → Prop} {g : G} {b : Frame} {a : Act} {todo : List Item} {x : Exit} (hx : ∀ d, x ≠ .thr d) (h : S (b.atR a todo)) : Outs S g b a todo x := by
  cases x with
  | thr d => exact absurd rfl (hx d)
  | _ => exact h

theorem Outs.mono {S : Frame → Prop} {g g' : G} (hg : g.le g') {b : Frame} {a : Act} {todo : List Item} {x : Exit} (h : Outs S g b a todo x) : Outs S g' b a todo x := by
  cases x with
  | thr d => obtain ⟨h0, v, h1, h2⟩ := h; exact ⟨h0, v, h1.mono hg, h2⟩
  | _ => exact h

theorem Lands.skip {i : Item} (hi : ∀ id, i ≠ .inBlock id) {x : Exit} {t : List Item} (hx : x ≠ .normal) (h : Lands (i :: k) x t) : Lands k x t := by
  cases x with
  | normal => exact absurd rfl hx
  | exit id =>
    obtain ⟨k', h1, h2⟩ := h
    refine ⟨k', h1, h2.trans ?_⟩
    cases i <;> first | rfl | exact absurd rfl (hi _)
  | ret => exact h
  | thr d => trivial

theorem opsC_all {reg : Nat} {ops : Array Oper} {tail : Nat} : ∀ {l : List Oper} {i : Nat} {xs : List Op}, opsC P ann n reg ops tail i l = some xs → (∀ j o, l[j]? = some o → ops[i + j]? = some o) →
    xs.length = l.length ∧ ∀ j x, xs[j]? = some x → ∃ o, ops[i + j]? = some o ∧ (∃ nt, opC P ann n reg ops nt (i + j) o = some x)
  | [], i, xs, h, _ => by simp only [opsC, Option.some.injEq] at h; subst h; exact ⟨rfl, fun j x hj => by simp at hj⟩
  | o :: l, i, xs, h, hl => by
    simp only [opsC] at h
    split at h
    · rename_i x xs' h1 h2
      cases h
      obtain ⟨h3, h4⟩ := opsC_all h2 fun j o' hj => by
        have := hl (j + 1) o' (by simpa using hj)
        rwa [show i + (j + 1) = i + 1 + j from by omega] at this
      refine ⟨by simp [h3], fun j y hj => ?_⟩
      cases j with
      | zero =>
        simp only [List.getElem?_cons_zero, Option.some.injEq] at hj
        subst hj
        exact ⟨o, hl 0 o rfl, ⟨_, h1⟩⟩
      | succ j =>
        have := h4 j y (by simpa using hj)
        rwa [show i + 1 + j = i + (j + 1) from by omega] at this
    · cases h

theorem all2_range' {S : Nat → Op → Prop} : ∀ {xs : List Op} {i : Nat}, (∀ j x, xs[j]? = some x → S (i + j) x) → All2 S (List.range' i xs.length) xs
  | [], i, h => .nil
  | x :: xs, i, h => by
    simp only [List.length_cons, List.range'_succ]
    refine .cons (h 0 x rfl) (all2_range' fun j y hj => ?_)
    have := h (j + 1) y (by simpa using hj)
    rwa [show i + (j + 1) = i + 1 + j from by omega] at this

theorem aopt_ok (hO : OrOk P (CR0 P) O) {reg i : Nat} {ops : Array Oper} {is : List Nat} {op : Op} {xs : List Op} {live : List Nat} {x : Exit} (hop : OpAt P ann n reg ops i op) (hF : All2 (OpAt P ann n reg ops) is xs)
    (h : aopt O live op xs e σ = some (x, e', σ')) (ha : At (CR0 P) base ann.ownv g0 w0 n b g w B e σ a) :
    ∃ g' w' B' a' todo, Outs (fun fr => Steps P (lone (b.atR a (.inRegion ops (i :: is) :: k)) cs w) (lone fr cs w')) g' b a' todo x ∧
      At (CR0 P) base ann.ownv g0 w0 n b g' w' B' e' σ' a' ∧ g.le g' ∧ Lands k x todo ∧ Goes σ σ' := by
  obtain ⟨o, ntr, ho, hopc⟩ := hop
  obtain ⟨hdst, hn, hgrd⟩ := opC_inv hopc
  obtain ⟨hkc, hmk⟩ := opC_k hopc
  have hd := kC_defer hkc
  have hkeq := kC_eq hkc
  unfold aopt at h
  split at h
  · rename_i fo args hg hk
    have hguard : o.guard = none := by
      rcases hgrd with ⟨h1, _⟩ | ⟨_, _, _, _, h2, _⟩
      · exact h1
      · rw [hg] at h2; cases h2
    have hw : Region.wanted o (yielded ops a.tmps) = true := by simp [Region.wanted, hguard]
    rw [hk] at hkeq hmk
    obtain ⟨f0, args0, ts0, hopo, hF0, hX0⟩ := hkeq
    cases hc : callr O (opd e fo) (args.map (opd e)) σ with
    | none => rw [hc] at h; simp [aoptR] at h
    | some r =>
    rw [hc] at h
    obtain ⟨f, first, cap, hfe, hq⟩ := callr_inv hc
    cases r with
    | ctl => simp [aoptR] at h
    | val d σ1 =>
      simp only [aoptR, Option.map_eq_some_iff, Prod.exists] at h
      obtain ⟨e1, σ2, h1, h2⟩ := h
      cases h2
      obtain ⟨g1, w1, B1, a1, k1, k2, k3, k4⟩ := call_ok (k := k) (cs := cs) (rest := is) (kp := false) hO ha ho hw hn (hmk rfl) hopo hF0 hX0 (d := d) (σ' := σ1) (by rw [hfe]; simp only [callv, hq, R.vals])
      rw [hdst] at h1
      obtain ⟨g2, w2, B2, a2, m1, m2, m3, m4⟩ := ops_okR (k := k) (cs := cs) (tl := []) hO is xs _ _ _ _ _ _ hF h1 k2
      refine ⟨g2, w2, B2, a2, k, ?_, m2.restrict _, k3.trans' m3, rfl, k4.trans m4⟩
      rw [List.append_nil] at m1
      exact .trans k1 (.trans m1 (.one stepR_region_end))
    | thr d σ1 =>
      simp only [aoptR, Option.some.injEq, Prod.mk.injEq] at h
      obtain ⟨rfl, rfl, rfl⟩ := h
      obtain ⟨hcl, ⟨Fn, cd, hfn1, hfn2, hfn3⟩, hcall⟩ := hO _ _ hq
      obtain ⟨tmps, df⟩ := a
      have hfv := ha.fr.opd (df := df) hF0
      have hxs := opsC_map (df := df) ha.fr hX0
      rw [hfe] at hfv
      generalize hev : (Act.mk tmps df).eval f0 = fv at hfv
      cases hfv with
      | fn _ _ _ first' cap' r1 r2 =>
        have hrun : (execOp (Act.mk tmps df).eval o).run P w = .ok (.enter f (first' ++ args0.map (Act.mk tmps df).eval ++ cap')) w := by
          simp only [execOp, hopo, Sem.run_bind, run_resolve_value hev, Result.andThen_ok, invoke, run_callFunc hfn1 hfn2 hfn3]
        have hargs : RelL g (first ++ args.map (opd e) ++ cap) (first' ++ args0.map (Act.mk tmps df).eval ++ cap').toList := by
          simpa using (r1.append hxs).append r2
        obtain ⟨hgo, hcalls⟩ := hcall base g w _ ha.inv ha.low ha.pos hargs
        obtain ⟨en, w', fr, ⟨v, g', rfl, he, hi, hr⟩, hcomes, hfr, hleave⟩ := hcalls (b.atR ⟨tmps, df⟩ (.inRegion ops (i :: is) :: k) :: cs)
        refine ⟨g', w', B, ⟨tmps, df⟩, .inRegion ops (i :: is) :: k, ⟨hcl, v, hr, Steps.head (step_enter ho hw hd hrun) (Steps.trans hcomes (Steps.one ?_))⟩, ha.go he hi hgo (ha.fr.ev he) rfl rfl, he.le, trivial, hgo⟩
        rw [step_leave_panicked hleave]
        rfl
  · rename_i X hg hk
    have hguard : o.guard = none := by
      rcases hgrd with ⟨h1, _⟩ | ⟨_, _, _, _, h2, _⟩
      · exact h1
      · rw [hg] at h2; cases h2
    have hw : Region.wanted o (yielded ops a.tmps) = true := by simp [Region.wanted, hguard]
    rw [hk] at hkeq
    obtain ⟨y, hopo, hX0⟩ := hkeq
    split at h
    case h_2 => cases h
    rename_i t d hX
    split at h
    case isFalse => cases h
    rename_i hcl
    cases h
    obtain ⟨tmps, df⟩ := a
    have hr := ha.fr.opd (df := df) hX0
    rw [hX] at hr
    generalize hev : (Act.mk tmps df).eval y = cv at hr
    cases hr with
    | ifc _ _ c h1 =>
      have hrun : (execOp (Act.mk tmps df).eval o).run P w = .halt (.panic (.iface t c)) w := by
        simp only [execOp, hopo, hev]
        rfl
      exact ⟨g, w, B, ⟨tmps, df⟩, .inRegion ops (i :: is) :: k, ⟨by simpa [D.clean] using hcl, _, .ifc t d c h1, .one (step_panic ho hw hd hrun)⟩, ha, g.le_refl, trivial, .refl σ⟩
  · cases h

theorem All2.split {α β : Type} {R : α → β → Prop} : ∀ {xs : List α} {ys : List β} (j : Nat), All2 R xs ys → ∃ a b, xs = a ++ b ∧ All2 R a (ys.take j) ∧ All2 R b (ys.drop j)
  | xs, ys, 0, h => ⟨[], xs, rfl, by simpa using All2.nil, by simpa using h⟩
  | [], _, j + 1, h => by cases h; exact ⟨[], [], rfl, by simpa using All2.nil, by simpa using All2.nil⟩
  | x :: xs, _, j + 1, h => by
    cases h with
    | cons h1 h2 =>
      obtain ⟨a, b, k1, k2, k3⟩ := All2.split j h2
      exact ⟨x :: a, b, by rw [k1]; rfl, by simpa using All2.cons h1 k2, by simpa using k3⟩

theorem all2_maps {α β γ : Type} {S : α → β → Prop} {f : γ → α} {g : γ → β} : ∀ {l : List γ}, (∀ p ∈ l, S (f p) (g p)) → All2 S (l.map f) (l.map g)
  | [], _ => .nil
  | p :: l, h => .cons (h p (by simp)) (all2_maps fun q hq => h q (by simp [hq]))
theorem Fr.eqE {fb : Nat} {V : List Nat} {g : G} {w : World} {B : Nat → Nat} {e e' : Env} {tmps : Array Value} (hf : Fr fb V g w B e' tmps) (h : EqE e e') : Fr fb V g w B e tmps := by
  have hg : ∀ t, get e' t = get e t := h
  refine ⟨fun t => ?_, fun t s cs ht => hf.own t s cs (by rw [hg]; exact ht), fun t t' s s' cs cs' h1 h2 => hf.inj t t' s s' cs cs' (by rw [hg]; exact h1) (by rw [hg]; exact h2)⟩
  have := hf.rel t
  rw [hg] at this
  exact this.imp fun d c hr => by
    cases d <;> first | exact hr | skip
    rename_i x s off
    obtain ⟨s', cs, b, o, e1, e2⟩ := hr
    exact ⟨s', cs, b, o, by rw [← hg]; exact e1, e2⟩
theorem At.eqE {CR : CRel} {V : List Nat} {w : World} {e e' : Env} (ha : At CR base V g0 w0 n b g w B e' σ a) (h : EqE e e') : At CR base V g0 w0 n b g w B e σ a := { ha with fr := ha.fr.eqE h }
theorem region_ok0 (hm : P.follows .mixedOrders = true) (hO : OrOk P (CR0 P) O) {id : Nat} {ops : Array Oper} {draw : Bool} {c : Cmd} (hc : regC P ann n id ops draw = some c)
    (h : acode O c e σ = some (x, e', σ')) (ha : At (CR0 P) base ann.ownv g0 w0 n b g w B e σ a) : Ends P ann n base g0 w0 b cs g w a (.code (.region id ops draw) :: k) k σ x e' σ' := by
  simp only [regC] at hc
  cases draw with
  | false =>
    simp only [Bool.false_eq_true, if_false, Option.map_eq_some_iff] at hc
    obtain ⟨xs, hxs, rfl⟩ := hc
    obtain ⟨hlen, hall⟩ := opsC_all hxs fun j o hj => by simpa using hj
    have h2 : All2 (OpAt P ann n id ops) (List.range ops.size) xs := by
      have := all2_range' (S := OpAt P ann n id ops) (xs := xs) (i := 0) fun j y hj => let ⟨o, k1, nt, k2⟩ := hall j y hj; ⟨o, nt, k1, k2⟩
      rw [hlen] at this
      rw [List.range_eq_range']
      simpa using this
    unfold cutC at h
    generalize look id none ann.thr = jo at h
    cases jo with
    | some j =>
      dsimp only at h
      split at h
      · rename_i y r hdr
        simp only [acode, Option.bind_eq_some_iff, Prod.exists] at h
        obtain ⟨e1, σ1, h1, h3⟩ := h
        obtain ⟨is, js, hsplit, hA, hB⟩ := h2.split j
        rw [hdr] at hB
        cases hB with
        | cons hop hF =>
          rename_i i is'
          obtain ⟨g1, w1, B1, a1, k1, k2, k3, k4⟩ := ops_okR (k := k) (cs := cs) (tl := i :: is') hO _ _ _ _ _ _ _ _ hA h1 ha
          obtain ⟨g2, w2, B2, a2, t2, m1, m2, m3, m4, m5⟩ := aopt_ok (k := k) (cs := cs) hO hop hF h3 k2
          refine ⟨g2, w2, B2, a2, t2, m1.imp fun fr hs => .head stepR_region (Steps.trans ?_ hs), m2, k3.trans' m3, m4, k4.trans m5⟩
          rw [hsplit]
          exact k1
      · simp only [acode, Option.map_eq_some_iff, Prod.exists] at h
        obtain ⟨e1, σ1, h1, h2'⟩ := h
        cases h2'
        obtain ⟨g1, w1, B1, a1, k1, k2, k3, k4⟩ := ops_ok (k := k) (cs := cs) hO _ _ _ _ _ _ _ _ h2 h1 ha
        exact ⟨g1, w1, B1, a1, k, .head stepR_region (.trans k1 (.one stepR_region_end)), k2.restrict _, k3, rfl, k4⟩
    | none =>
    simp only [acode, Option.map_eq_some_iff, Prod.exists] at h
    obtain ⟨e1, σ1, h1, h2'⟩ := h
    cases h2'
    obtain ⟨g1, w1, B1, a1, k1, k2, k3, k4⟩ := ops_ok (k := k) (cs := cs) hO _ _ _ _ _ _ _ _ h2 h1 ha
    exact ⟨g1, w1, B1, a1, k, .head stepR_region (.trans k1 (.one stepR_region_end)), k2.restrict _, k3, rfl, k4⟩
  | true =>
    simp only [if_true] at hc
    split at hc
    case h_2 => cases hc
    rename_i xs hxs
    simp only [Option.ite_none_right_eq_some, Bool.and_eq_true] at hc
    obtain ⟨⟨⟨hcalm, hedge⟩, _⟩, hc⟩ := hc
    cases hc
    obtain ⟨hlen, hall⟩ := opsC_all hxs fun j o hj => by simpa using hj
    have hlen' : xs.length = ops.size := by simpa using hlen
    obtain ⟨ys, hysT⟩ := lin_sched hlen' hcalm hedge ops.size (w.tape w.drawn (.order b.fn id)) (Array.replicate ops.size false) (by simp) (fun i hi => by
        simp [Array.getD_eq_getD_getElem?] at hi
        by_cases hlt : i < ops.size <;> simp [hlt] at hi) (by
        simp only [unl]
        exact Nat.le_trans (List.length_filter_le _ _) (by simp))
    have hU : unl ops.size (Array.replicate ops.size false) = List.range ops.size := by
      simp only [unl]
      rw [List.filter_eq_self]
      intro i hi
      have : i < ops.size := by simpa using hi
      simp [Array.getD_eq_getD_getElem?, this]
    rw [hU] at hysT
    have hmap : ((List.range ops.size).map fun i => (i, (xs[i]?).getD default)).map (·.2) = xs := by
      simp only [List.map_map]
      apply List.ext_getElem?
      intro j
      by_cases hj : j < ops.size
      · simp [hj, show j < xs.length from by omega]
      · rw [List.getElem?_eq_none (by simp; omega), List.getElem?_eq_none (by omega)]
    have hlin : Region.schedule (P.follows .mixedOrders) ops (w.tape w.drawn (.order b.fn id)) = Region.linearise.go .any ops ops.size (w.tape w.drawn (.order b.fn id)) (Array.replicate ops.size false) [] := by
      simp [Region.schedule, hm, Region.linearise]
    have hat : ∀ p ∈ (List.range ops.size).map fun i => (i, (xs[i]?).getD default), OpAt P ann n id ops p.1 p.2 := fun p hp => by
      obtain ⟨j, hj, rfl⟩ := List.mem_map.1 hp
      have hj' : j < ops.size := by simpa using hj
      have hjx : xs[j]? = some (xs[j]'(by omega)) := by simp [show j < xs.length from by omega]
      obtain ⟨o, k1, nt, k2⟩ := hall j _ hjx
      rw [hjx]
      simp only [Nat.zero_add] at k1 k2
      exact ⟨o, _, k1, k2⟩
    have ha1 := ha.draw { w with drawn := w.drawn + 1 } rfl rfl rfl rfl
    have plain : ∀ {x e' σ'}, acode O (.reg (look id [] ann.live) xs) e σ = some (x, e', σ') → Ends P ann n base g0 w0 b cs g w a (.code (.region id ops true) :: k) k σ x e' σ' := by
      intro x e' σ' h
      have hys := hysT.sched
      simp only [acode, Option.map_eq_some_iff, Prod.exists] at h
      obtain ⟨e1, σ1, h1, h2⟩ := h
      cases h2
      obtain ⟨e2, h2, heq⟩ := sched_aops hys (by rw [hmap]; exact h1)
      have h3 : All2 (OpAt P ann n id ops) (Region.schedule (P.follows .mixedOrders) ops (w.tape w.drawn (.order b.fn id))) ys := by
        rw [hlin]
        exact sched_all hys hat
      obtain ⟨g1, w1, B1, a1, k1, k2, k3, k4⟩ := ops_ok (k := k) (cs := cs) hO _ _ _ _ _ _ _ _ h3 h2 ha1
      refine ⟨g1, w1, B1, a1, k, .head stepR_region_draw (.trans k1 (.one stepR_region_end)), ?_, k3, rfl, k4⟩
      have := k2.restrict (look id [] ann.live)
      rw [restrict_eqE heq] at this
      exact this
    cases hjo : (look id none ann.thr).filter fun j => decide (tailOf (befores ops.toList []) ≤ j) with
    | none => rw [hjo] at h; exact plain h
    | some j =>
    rw [hjo] at h
    have htj : tailOf (befores ops.toList []) ≤ j := by
      have := (Option.filter_eq_some_iff.1 hjo).2
      simpa using this
    cases hdr : xs.drop j with
    | nil => simp only [cutC, hdr] at h; exact plain h
    | cons y r =>
    simp only [cutC, hdr] at h
    simp only [acode, Option.bind_eq_some_iff, Prod.exists] at h
    obtain ⟨e1, σ1, h1, h3⟩ := h
    have hjlt : j < xs.length := by
      rcases Nat.lt_or_ge j xs.length with h | h
      · exact h
      · rw [List.drop_eq_nil_of_le h] at hdr; cases hdr
    let R := (List.range ops.size).map fun i => (i, (xs[i]?).getD default)
    obtain ⟨is1, ys1, h4, h5, h6⟩ := schedT_split hysT (A := R.take j) (B := R.drop j) (by simp [R]) (fun p hp => by
      obtain ⟨m, hm', rfl⟩ := List.mem_iff_getElem.1 hp
      simp [R]
      omega)
    have hmapA : (R.take j).map (·.2) = xs.take j := by rw [List.map_take, hmap]
    have hmapB : (R.drop j).map (·.2) = y :: r := by rw [List.map_drop, hmap, hdr]
    obtain ⟨e2, h7, heq⟩ := sched_aops h6 (by rw [hmapA]; exact h1)
    have hA : All2 (OpAt P ann n id ops) is1 ys1 := sched_all h6 fun p hp => hat p (List.mem_of_mem_take hp)
    have hB : All2 (OpAt P ann n id ops) ((R.drop j).map (·.1)) ((R.drop j).map (·.2)) := all2_maps fun p hp => hat p (List.mem_of_mem_drop hp)
    obtain ⟨g1, w1, B1, a1, k1, k2, k3, k4⟩ := ops_okR (k := k) (cs := cs) (tl := (R.drop j).map (·.1)) hO _ _ _ _ _ _ _ _ hA h7 ha1
    rw [hmapB] at hB
    generalize hbs : (R.drop j).map (·.1) = bs at hB k1 h4
    cases hB with
    | cons hop hF =>
      obtain ⟨g2, w2, B2, a2, t2, m1, m2, m3, m4, m5⟩ := aopt_ok (k := k) (cs := cs) hO hop hF h3 (k2.eqE heq)
      refine ⟨g2, w2, B2, a2, t2, m1.imp fun fr hs => .head stepR_region_draw (Steps.trans ?_ hs), m2, k3.trans' m3, m4, k4.trans m5⟩
      rw [hlin, h4]
      exact k1

theorem frz_form (L n l i u off m w : Nat) (σ : Stack) : (∃ l' i' u' off' m' w', (frz L n (.sl l i u off m w) σ).1 = .sl l' i' u' off' m' w') ∨ (∃ m' cs', (frz L n (.sl l i u off m w) σ).1 = .lst m' cs') ∨ (frz L n (.sl l i u off m w) σ).1 = .undef := by
  cases n with
  | zero => simp [frz]
  | succ n =>
    simp only [frz]
    repeat' split
    all_goals simp

theorem blur_rel {g : G} {d : D} {c : Value} (h : RelV g d c) : RelV g d.blur c := by
  cases h <;> first | exact .lstn | (simp only [D.blur]; constructor <;> assumption) | (exact .bdv _ _ _ _ (by assumption) (by assumption))
theorem blur_relL {g : G} : ∀ {ds : List D} {cs : List Value}, RelL g ds cs → RelL g (ds.map D.blur) cs
  | [], _, h => by cases h; exact .nil
  | d :: ds, _, h => by
    cases h with
    | cons _ c _ cs h1 h2 => exact .cons _ _ _ _ (blur_rel h1) (blur_relL h2)
theorem frzR_ok {CR : CRel} {g : G} {w : World} {σ : Stack} {l i u : Nat} {c : Value} (hi : Inv CR base g σ w) (hr : RelV g (.ref l i u 0) c) :
    ∃ g', Inv CR base g' (frzR l i u σ).2 w ∧ Ev g w g' w ∧ RelV g' (frzR l i u σ).1 c := by
  unfold frzR
  cases hc : cells? σ l i u with
  | none => exact ⟨g, hi, Ev.refl g w, .undef c⟩
  | some cs =>
    unfold cells? at hc
    split at hc
    case h_2 => cases hc
    rename_i v' cs' hb
    split at hc
    case isFalse => cases hc
    rename_i hv; subst hv; cases hc
    cases hr with
    | ref _ _ _ _ b o L k1 k2 k3 k4 =>
      obtain ⟨g1, i1, e1, hk⟩ := hi.kill k1 hb k2
      rcases hk with ⟨rfl, _⟩ | ⟨b1, o1, vs, sz, rfl, hrow, hrl⟩
      · exact absurd rfl k4
      · obtain ⟨rfl, rfl⟩ := k3 b1 o1 sz rfl
        obtain ⟨g2, i2, e2, r2⟩ := frzL_ok (frz_ok (CR := CR) (base := base) 0 deep) cs _ g1 w vs i1 (hrl.mono e1.le)
        exact ⟨g2, i2, e1.trans e2, .cref _ _ _ vs (G.row_le e2.le hrow) (blur_relL r2)⟩
theorem frzV_ok {v : Nat} {e : Env} {σ : Stack} {g : G} {a : Act} (ha : At (CR0 P) base ann.ownv g0 w0 n b g w B e σ a) :
    ∃ g', At (CR0 P) base ann.ownv g0 w0 n b g' w B (frzV v e σ).1 (frzV v e σ).2 a ∧ g.le g' ∧ Goes σ (frzV v e σ).2 := by
  obtain ⟨tmps, df⟩ := a
  unfold frzV
  split
  · rename_i hg
    have hr0 : RelV g .nils (tmps.getD v Go.undef) := by have := ha.fr.strip v; rw [hg] at this; exact this
    have hrt : RelT g B e (.lst 0 []) (tmps.getD v Go.undef) := by
      generalize tmps.getD v Go.undef = c at hr0
      cases hr0
      exact RelV.lstn
    exact ⟨g, ha.go (Ev.refl g w) ha.inv (.refl _) (ha.fr.repl hrt (by rw [hg]; simp)) rfl rfl, g.le_refl, .refl _⟩
  · rename_i l i u hg
    have hr0 : RelV g (.ref l i u 0) (tmps.getD v Go.undef) := by have := ha.fr.strip v; rw [hg] at this; exact this
    obtain ⟨g1, i1, e1, r1⟩ := frzR_ok (CR := CR0 P) ha.inv hr0
    have hgo : Goes σ (frzR l i u σ).2 := by
      unfold frzR
      split
      · rename_i cs hc
        exact (Goes.set (b := .dead) (fun _ => trivial)).trans (frzL_spec 0 deep cs _).2
      · exact .refl _
    have hrt : RelT g1 B e (frzR l i u σ).1 (tmps.getD v Go.undef) := by
      unfold frzR at r1 ⊢
      split at r1 <;> exact r1
    exact ⟨g1, ha.go e1 i1 hgo ((ha.fr.ev e1).repl hrt (by rw [hg]; simp)) rfl rfl, e1.le, hgo⟩
  · rename_i s0 cs0 hg
    obtain ⟨_, _, hob⟩ := ha.fr.own v s0 cs0 hg
    obtain ⟨c, el, hb, hr, h5⟩ := hob.blk
    exact ⟨g, ha.go (Ev.refl g w) ha.inv (.refl _) (ha.fr.setOwn hg ⟨hob.lo, hob.free, hob.noimm, c, el, hb, blur_relL hr, h5⟩ (fun _ _ _ => rfl)) rfl rfl, g.le_refl, .refl _⟩
  · exact ⟨g, ha, g.le_refl, .refl _⟩
theorem frzs_ok : ∀ (vs : List Nat) {e : Env} {σ : Stack} {g : G} {a : Act}, At (CR0 P) base ann.ownv g0 w0 n b g w B e σ a →
    ∃ g', At (CR0 P) base ann.ownv g0 w0 n b g' w B (frzs vs e σ).1 (frzs vs e σ).2 a ∧ g.le g' ∧ Goes σ (frzs vs e σ).2
  | [], e, σ, g, a, ha => ⟨g, ha, g.le_refl, .refl _⟩
  | v :: vs, e, σ, g, a, ha => by
    simp only [frzs]
    split
    · rename_i l i0 u off m w1 hg
      obtain ⟨tmps, df⟩ := a
      have hr0 : RelV g (.sl l i0 u off m w1) (tmps.getD v Go.undef) := by have := ha.fr.strip v; rw [hg] at this; exact this
      obtain ⟨g1, i1, e1, r1⟩ := frz_ok (CR := CR0 P) (base := base) 0 deep _ σ g w _ ha.inv hr0
      have hgo := (frz_spec 0 deep (.sl l i0 u off m w1) σ).2
      have hrt : RelT g1 B e (frz 0 deep (.sl l i0 u off m w1) σ).1 (tmps.getD v Go.undef) := by
        rcases frz_form 0 deep l i0 u off m w1 σ with ⟨l', i', u', off', m', w', hd1⟩ | ⟨m', cs', hd1⟩ | hd1 <;> rw [hd1] at r1 ⊢ <;> exact r1
      have ha1 : At (CR0 P) base ann.ownv g0 w0 n b g1 w B ((v, (frz 0 deep (.sl l i0 u off m w1) σ).1) :: e) (frz 0 deep (.sl l i0 u off m w1) σ).2 ⟨tmps, df⟩ :=
        ha.go e1 i1 hgo ((ha.fr.ev e1).repl hrt (by rw [hg]; simp)) rfl rfl
      obtain ⟨g2, a2, l2, o2⟩ := frzs_ok vs ha1
      exact ⟨g2, a2, G.le_trans e1.le l2, hgo.trans o2⟩
    · rename_i s0 cs0 hg
      obtain ⟨tmps, df⟩ := a
      obtain ⟨_, _, hob⟩ := ha.fr.own v s0 cs0 hg
      obtain ⟨c, el, hb, hr, h5⟩ := hob.blk
      obtain ⟨g1, i1, e1, r1⟩ := frzL_ok (frz_ok (CR := CR0 P) (base := base) 0 deep) cs0 σ g w _ ha.inv hr
      have hgo := (frzL_spec 0 deep cs0 σ).2
      have hob1 := hob.ev e1
      have ha1 : At (CR0 P) base ann.ownv g0 w0 n b g1 w B ((v, .own s0 (frz.frzL (frz 0 deep) cs0 σ).1) :: e) (frz.frzL (frz 0 deep) cs0 σ).2 ⟨tmps, df⟩ :=
        ha.go e1 i1 hgo ((ha.fr.ev e1).setOwn hg ⟨hob1.lo, hob1.free, hob1.noimm, c, el, hb, r1, h5⟩ (fun _ _ _ => rfl)) rfl rfl
      obtain ⟨g2, a2, l2, o2⟩ := frzs_ok vs ha1
      exact ⟨g2, a2, G.le_trans e1.le l2, hgo.trans o2⟩
    · rename_i cs0 hg
      obtain ⟨tmps, df⟩ := a
      have hr0 : RelV g (.agg cs0) (tmps.getD v Go.undef) := by have := ha.fr.strip v; rw [hg] at this; exact this
      have hrt : RelT g B e (.agg (cs0.map D.blur)) (tmps.getD v Go.undef) := by
        generalize tmps.getD v Go.undef = c at hr0
        cases hr0 with
        | agg _ cs h1 h2 => exact RelV.agg _ cs (blur_relL h1) h2
      have ha1 : At (CR0 P) base ann.ownv g0 w0 n b g w B ((v, .agg (cs0.map D.blur)) :: e) σ ⟨tmps, df⟩ :=
        ha.go (Ev.refl g w) ha.inv (.refl _) (ha.fr.repl hrt (by rw [hg]; simp)) rfl rfl
      exact frzs_ok vs ha1
    · split
      · obtain ⟨g1, a1, l1, o1⟩ := frzV_ok (v := v - 1000000) ha
        obtain ⟨g2, a2, l2, o2⟩ := frzs_ok vs a1
        exact ⟨g2, a2, G.le_trans l1 l2, o1.trans o2⟩
      · exact frzs_ok vs ha
    · exact frzs_ok vs ha

theorem fail_none {O : Oracle} {e : Env} {σ : Stack} : acode O failC e σ = none := by
  simp [failC, acode, aops, aop, sop, opd, isnD]

theorem region_ok (hm : P.follows .mixedOrders = true) (hO : OrOk P (CR0 P) O) {id : Nat} {ops : Array Oper} {draw : Bool} {blk : Nat} {c : Cmd} (hc : codeC P ann n blk (.region id ops draw) = some c)
    (h : acode O c e σ = some (x, e', σ')) (ha : At (CR0 P) base ann.ownv g0 w0 n b g w B e σ a) : Ends P ann n base g0 w0 b cs g w a (.code (.region id ops draw) :: k) k σ x e' σ' := by
  simp only [codeC] at hc
  split at hc
  case h_2 => cases hc; rw [fail_none] at h; cases h
  rename_i c0 hc0
  cases hc
  cases hv : look id [] ann.fz with
  | nil => rw [hv] at h; exact region_ok0 hm hO hc0 h ha
  | cons v vs =>
    rw [hv] at h
    simp only [withFrz, acode, Option.bind_some] at h
    obtain ⟨g1, a1, l1, o1⟩ := frzs_ok (v :: vs) ha
    obtain ⟨g2, w2, B2, a2, t2, m1, m2, m3, m4, m5⟩ := region_ok0 (k := k) (cs := cs) hm hO hc0 h a1
    exact ⟨g2, w2, B2, a2, t2, m1, m2, G.le_trans l1 m3, m4, o1.trans m5⟩

theorem enter_ok (ha : At (CR0 P) base ann.ownv g0 w0 n b g w B e σ a) {ps : Array Tmp} {asg body : Code} {live : List Nat} {C1 C2 : Cmd} {blk : Nat}
    (h1 : codeC P ann n blk asg = some C1) (h2 : codeC P ann n blk body = some C2) (hps : ∀ t ∈ ps.toList, t < n) {l i : Nat} {σ1 : Stack}
    (hn : newBlk σ (.loop { state := 0, pend := none, env := strips live e, params := ps.toList, asg := C1, body := C2 }) = some (l, i, σ1)) :
    ∃ lb mk w1 g1, (Instr.enterLoop b.fn a.tmps ps asg body b.roundOf).run P w = .ok (lb, mk) w1 ∧ Inv (CR0 P) base g1 σ1 w1 ∧ Ev g w g1 w1 ∧ g1.loc l i = some (.lp lb) ∧
      ∃ rs, Marks w0.heap.size g1 w1 (mk ++ a.defers) b.defers rs := by
  obtain ⟨rs, hmarks⟩ := ha.marks
  have hrel : ∀ (r : Loop) (g' : G), g.le g' → r.state = .ready → r.pending = none → r.tmps = a.tmps → r.params = ps → r.assign = asg → r.body = body →
      RelLoop (CR0 P) g' { state := 0, pend := none, env := strips live e, params := ps.toList, asg := C1, body := C2 } r := by
    intro r g' hle k1 k2 k3 k4 k5 k6
    refine ⟨k1, by rw [k2]; rfl, by rw [k3]; exact (ha.fr.strips live).mono hle, by rw [k4], by rw [k3, ha.size]; exact hps, ?_⟩
    rw [k3, k5, k6, ha.size]
    exact ⟨ann, blk, by simp [codeC, h1, h2, opdC]⟩
  rcases ha.round with hr | ⟨r, l', i', hr, hl'⟩
  · rw [hr, run_enterLoop_outer]
    have i1 := ha.inv.alloc (.deferred (some []))
    have e1 := Ev.alloc g w (.deferred (some []))
    have := i1.newLoop hn { state := .ready, pending := none, fn := b.fn, tmps := a.tmps, params := ps, assign := asg, body, defers := w.heap.size } (hrel _ g g.le_refl rfl rfl rfl rfl rfl rfl)
    obtain ⟨i2, e2⟩ := this
    have hsz : (w.alloc (.deferred (some []))).heap.size = w.heap.size + 1 := by simp
    rw [hsz] at i2 e2
    have hm0 : MarkB w0.heap.size g (w.alloc (.deferred (some []))) w.heap.size := by
      refine ⟨ha.ev.size, fun hb => Nat.lt_irrefl _ (ha.inv.has_lt hb), fun o => ?_, alloc_new⟩
      cases hh : g.imm w.heap.size o with
      | none => rfl
      | some v => exact absurd (ha.inv.imm_lt hh) (Nat.lt_irrefl _)
    refine ⟨_, _, _, _, rfl, i2, e1.trans e2, G.setLoc_same, w.heap.size :: rs, ?_, ?_, ?_⟩
    · simp [hmarks.eq, mark]
    · rw [List.cons_append, List.nodup_cons]
      exact ⟨fun hin => Nat.lt_irrefl _ (hmarks.all _ hin).lt, hmarks.nodup⟩
    · intro r hr
      rcases List.mem_cons.1 hr with rfl | hr
      · exact hm0.ev e2
      · exact ((hmarks.all r hr).ev e1).ev e2
  · obtain ⟨blkr, hbr, hrelr⟩ := ha.inv.dom l' i' _ hl'
    cases blkr with
    | cells => exact hrelr.elim
    | dead => exact hrelr.elim
    | loop lpr =>
      obtain ⟨r0, hr0, _⟩ := hrelr
      rw [hr, run_enterLoop_inner hr0]
      obtain ⟨i2, e2⟩ := ha.inv.newLoop hn { state := .ready, pending := none, fn := b.fn, tmps := a.tmps, params := ps, assign := asg, body, defers := r0.defers } (hrel _ g g.le_refl rfl rfl rfl rfl rfl rfl)
      exact ⟨_, _, _, _, rfl, i2, e2, G.setLoc_same, rs, by simpa using hmarks.ev e2⟩

theorem range_ok (hO : OrOk P (CR0 P) O) {f : Operand} {ps : Array Tmp} {asg body : Code} {blk : Nat} {c : Cmd} (hc : codeC P ann n blk (.rangeFunc f ps asg body) = some c)
    (h : acode O c e σ = some (x, e', σ')) (ha : At (CR0 P) base ann.ownv g0 w0 n b g w B e σ a) : Ends P ann n base g0 w0 b cs g w a (.code (.rangeFunc f ps asg body) :: k) k σ x e' σ' := by
  simp only [codeC] at hc
  split at hc
  case h_2 => cases hc
  rename_i F C1 C2 hf h1 h2
  simp only [Option.ite_none_right_eq_some] at hc
  obtain ⟨hps, hc⟩ := hc
  cases hc
  have hps' : ∀ t ∈ ps.toList, t < n := fun t ht => by
    have := List.all_eq_true.1 hps t ht
    simp only [Bool.and_eq_true, decide_eq_true_eq] at this
    exact this.1
  simp only [acode] at h
  split at h
  case h_2 => cases h
  rename_i l i σ1 hn
  split at h
  case h_2 => cases h
  rename_i dv σ2 hcall
  split at h
  case h_2 => cases h
  rename_i lp hlp
  split at h
  · cases h
  rename_i hst
  cases h
  obtain ⟨lb, mk, w1, g1, hent, i1, e1, hloc1, rs, hmarks1⟩ := enter_ok ha h1 h2 hps' hn
  -- the call
  unfold callf at hcall
  split at hcall
  case h_2 => cases hcall
  rename_i fi first cap hfe
  obtain ⟨tmps, df⟩ := a
  have hfv := ha.fr.opd (df := df) hf
  rw [hfe] at hfv
  obtain ⟨⟨Fn, cd, hfn1, hfn2, hfn3⟩, hcallok⟩ := hO _ _ (vals_some hcall)
  generalize hev : (Act.mk tmps df).eval f = fv at hfv
  cases hfv with
  | fn _ _ _ first' cap' r1 r2 =>
    have hgo1 := Goes.new hn
    have hargs : RelL g1 (first ++ [.yld l i] ++ cap) (first' ++ #[Value.func (.yield lb) #[] #[]] ++ cap').toList := by
      have hy : RelL g1 [D.yld l i] [.func (.yield lb) #[] #[]] := .cons _ _ _ _ (.yld l i lb hloc1) .nil
      simpa using ((r1.mono e1.le).append hy).append (r2.mono e1.le)
    obtain ⟨hgo2, hcalls⟩ := hcallok base g1 w1 _ i1 (hgo1.low ha.low) (by rw [hgo1.len]; exact ha.pos) hargs
    obtain ⟨en, w2, fr, ⟨v, g2, rfl, e2, i2, hr⟩, hcomes, hfr, hleave⟩ := hcalls (b.atR { tmps := tmps, defers := mk ++ df } (.inRangeFunc lb :: k) :: cs)
    have hres : (resolve (Act.mk tmps df).eval (rangeCall f lb) 0).run P w1 = .ok { target := .fn (.func fi) cap', args := first' ++ #[Value.func (.yield lb) #[] #[]] } w1 := by
      rw [run_resolve_value hev]; simp [Act.eval]
    have hinv : (invoke (.fn (.func fi) cap') (first' ++ #[Value.func (.yield lb) #[] #[]])).run P w1 = .ok (.enter fi (first' ++ #[Value.func (.yield lb) #[] #[]] ++ cap')) w1 := by
      simp only [invoke, run_callFunc hfn1 hfn2 hfn3]
    have hstep1 := stepR_rangeFunc (P := P) (b := b) (a := ⟨tmps, df⟩) (k := k) (cs := cs) (w := w) hent hres hinv
    -- the record
    obtain ⟨L2, hL2, hle2⟩ := e2.le.loc l i _ hloc1
    rw [Loc.lp_le hle2] at hL2
    obtain ⟨bb, hbb, hrelb⟩ := i2.dom l i _ hL2
    rw [hlp] at hbb; cases hbb
    obtain ⟨r, hr1, hr2⟩ := hrelb
    have hbusy : r.state ≠ .busy := by
      rw [hr2.state]
      intro hs
      match hstv : lp.state with
      | 0 => rw [hstv] at hs; cases hs
      | 1 => exact hst hstv
      | 2 => rw [hstv] at hs; cases hs
      | m + 3 => rw [hstv] at hs; cases hs
    have hend := run_endLoop (P := P) hr1 hbusy
    have hrel3 : RelLoop (CR0 P) g2 { lp with state := 3 } { r with state := .exhausted } := ⟨rfl, hr2.pend, hr2.env, hr2.params, hr2.small, hr2.both⟩
    obtain ⟨i3, e3⟩ := i2.setLoop hL2 hlp hrel3
    have hgo3 : Goes σ2 (setBlk σ2 l i (.loop { lp with state := 3 })) := ⟨setBlk_length, fun h => h.set fun hl => (h l i _ hlp hl : Blk.low (l + 1) (.loop lp))⟩
    have hgo := (hgo1.trans hgo2).trans hgo3
    have hev3 := (e1.trans e2).trans e3
    refine ⟨g2, w2.putObj lb (.loop { r with state := .exhausted }), B, { tmps := tmps, defers := mk ++ df }, (r.pending.map Item.code).toList ++ k, Outs.of ?_ (Steps.head hstep1 (Steps.trans hcomes (Steps.head (step_leave_returned hleave) ?_))), ?_, hev3.le, ?_, hgo⟩
    · intro d hd
      have hp := hr2.pend
      cases hpe : lp.pend with
      | none => rw [hpe] at hd; cases hd
      | some y => rw [hpe] at hd hp; simp only [Option.getD_some] at hd; subst hd; simp [pendOf] at hp
    · rw [finish_atR_inRangeFunc]
      exact .one (stepR_endRangeFunc hend)
    · exact ⟨(ha.fr.ev hev3).restrict _, ha.ev.trans hev3, i3, hgo.low ha.low, by rw [hgo.len]; exact ha.pos, ha.size, ⟨rs, (hmarks1.ev e2).ev e3⟩, round_mono ha.round hev3.le⟩
    · have hp := hr2.pend
      cases hpe : lp.pend with
      | none => rw [hpe] at hp; simp only [pendOf, Option.some.injEq] at hp; rw [← hp]; rfl
      | some y =>
        rw [hpe] at hp
        cases y with
        | normal => simp [pendOf] at hp
        | exit id => simp only [pendOf, Option.some.injEq] at hp; rw [← hp]; exact ⟨k, rfl, rfl⟩
        | ret => simp only [pendOf, Option.some.injEq] at hp; rw [← hp]; exact ⟨k, rfl⟩
        | thr d => simp [pendOf] at hp


theorem dfrM_inv {ann : Ann} {x : Code} {c : Cmd} {f : Opd} {xs : List Opd} (h : dfrM P ann n x = some (c, f, xs)) : ∃ id ops m o fo args ts op live, x = .region id ops false ∧ ops.toList = [m, o] ∧ o.op = .defer { callee := .value fo, args, argTypes := ts } ∧ o.dst = none ∧ o.guard = none ∧
    opdC fo = some f ∧ opdsC args.toList = some xs ∧ opC P ann n id ops false 0 m = some op ∧ op.k ≠ .rcv ∧ c = .reg live [op] := by
  unfold dfrM at h
  split at h
  case h_2 => cases h
  rename_i id ops
  split at h
  case h_2 => cases h
  rename_i m o ho
  split at h
  case h_2 => cases h
  rename_i c0 t h1 h2 h3 h4
  obtain ⟨callee, args, ts⟩ := c0
  dsimp only at h
  split at h
  case h_2 => cases h
  rename_i fo
  split at h
  case h_2 => cases h
  rename_i h5 h6 h7
  split at h
  · cases h
  rename_i h8
  cases h
  exact ⟨id, ops, m, o, fo, args, ts, _, _, rfl, ho, h1, h2, h3, h6, h7, h5, h8, rfl⟩

theorem seqC_cases (ann : Ann) (x : Code) (x' y' : Cmd) : (∃ f xs, dfrC x = some (f, xs) ∧ seqC P ann n x x' y' = .dfr f xs y') ∨
    (dfrC x = none ∧ ∃ p0 bid l0 p' live it nx ok b c, x = .seq p0 (.block bid l0) ∧ x' = .seq p' (.mloop live it nx ok b c .nop) ∧ seqC P ann n x x' y' = .seq p' (.mloop live it nx ok b c y')) ∨
    (dfrC x = none ∧ seqC P ann n x x' y' = .seq x' y') ∨
    (dfrC x = none ∧ ∃ live op f xs, dfrM P ann n x = some (.reg live [op], f, xs) ∧ seqC P ann n x x' y' = .seq (.reg live [op]) (.dfr f xs y')) := by
  unfold seqC
  split
  · rename_i f xs h; exact .inl ⟨f, xs, h, rfl⟩
  · rename_i h
    split
    · rename_i c f xs hM
      obtain ⟨_, _, _, _, _, _, _, op, live, _, _, _, _, _, _, _, _, _, rfl⟩ := dfrM_inv hM
      exact .inr (.inr (.inr ⟨h, live, op, f, xs, hM, rfl⟩))
    split
    · exact .inr (.inl ⟨h, _, _, _, _, _, _, _, _, _, _, rfl, rfl, rfl⟩)
    · exact .inr (.inr (.inl ⟨h, rfl⟩))

theorem blkC_cases (ann : Ann) (n id : Nat) (x : Code) (x' : Cmd) : (∃ it nx ok live sg A c, mapC ann n x = some (it, nx, ok) ∧ x' = .loop live sg (.seq A c) ∧ blkC ann n id x x' = .mloop live (.t it) nx ok id c .nop) ∨ blkC ann n id x x' = .blk id x' := by
  unfold blkC
  split
  · rename_i it nx ok live sg A c h; exact .inl ⟨it, nx, ok, live, sg, A, c, h, rfl, rfl⟩
  · exact .inr rfl

theorem mapC_inv {x : Code} {it nx ok : Nat} (h : mapC ann n x = some (it, nx, ok)) : ∃ rid ops p, x = .loop (.seq (.region rid ops false) p) ∧ ∃ o0 o1, ops.toList = [o0, o1] ∧
    o0.op = .next (.tmp it) false ∧ o0.dst = some nx ∧ o0.guard = none ∧ o1.op = .extract (.tmp nx) 0 ∧ o1.dst = some ok ∧ o1.guard = none ∧ nx < n ∧ ok < n ∧ nx ≠ ok ∧ nx ∉ ann.ownv ∧ ok ∉ ann.ownv := by
  unfold mapC at h
  split at h
  case h_2 => cases h
  rename_i rid ops p
  split at h
  case h_2 => cases h
  rename_i o0 o1 hl
  split at h
  case h_2 => cases h
  rename_i h1 h2 h3 h4 h5 h6
  split at h
  case isFalse => cases h
  rename_i hc
  cases h
  obtain ⟨rfl, c1, c2, c3, c4, c5⟩ := hc
  exact ⟨rid, ops, p, rfl, o0, o1, hl, h1, h2, h3, h4, h5, h6, c1, c2, c3, c4, c5⟩

theorem mapC_body {rid : Nat} {ops : Array Oper} {p : Code} {blk : Nat} {live : List Nat} {sg : Bool} {A c : Cmd} {q : Nat × Nat × Nat} (hm : mapC ann n (.loop (.seq (.region rid ops false) p)) = some q)
    (h : codeC P ann n blk (.loop (.seq (.region rid ops false) p)) = some (.loop live sg (.seq A c))) : codeC P ann n blk p = some c := by
  obtain ⟨it, nx, ok⟩ := q
  obtain ⟨rid', ops', p', heq, o0, o1, hl, _, _, _, g5, _⟩ := mapC_inv hm
  cases heq
  simp only [codeC, Option.map_eq_some_iff] at h
  obtain ⟨y, h1, h2⟩ := h
  cases h2
  split at h1
  case h_2 => cases h1
  rename_i x' y' k1 k2
  have hd : dfrC (.region rid ops false) = none := by simp [dfrC, hl]
  have hd2 : dfrM P ann n (.region rid ops false) = none := by simp [dfrM, hl, g5]
  rcases seqC_cases ann (.region rid ops false) x' y' with ⟨f, xs, h3, _⟩ | ⟨_, p0, bid, l0, _, _, _, _, _, _, _, h3, _⟩ | ⟨_, h3⟩ | ⟨_, _, _, _, _, h3, _⟩
  · rw [hd] at h3; cases h3
  · cases h3
  · rw [h3] at h1; cases h1; exact k2
  · rw [hd2] at h3; cases h3

theorem map_ok {x1 : Exit} (hO : OrOk P (CR0 P) O) {x : Code} {blk bid it nx ok : Nat} {live : List Nat} {sg : Bool} {A c rest : Cmd} {qs : Option Code} (hm : mapC ann n x = some (it, nx, ok)) (hx : codeC P ann n bid x = some (.loop live sg (.seq A c))) (hr : RestOk P ann n blk rest qs)
    (h : acode O (.mloop live (.t it) nx ok bid c rest) e σ = some (x1, e', σ')) (ha : At (CR0 P) base ann.ownv g0 w0 n b g w B e σ a) :
    Ends P ann n base g0 w0 b cs g w a (.code (.block bid x) :: (qs.toList.map Item.code ++ k)) k σ x1 e' σ' := by
  obtain ⟨rid, ops, p, rfl, _⟩ := mapC_inv hm
  have hc := mapC_body hm hx
  simp only [acode] at h
  obtain ⟨g1, w1, B1, a1, t1, k1, k2, k3, k4, k5⟩ := hO _ _ (ctls_some h) ann blk rid ops p n it qs rfl hm hc hr base g0 w0 b a k cs g w B ha
  exact ⟨g1, w1, B1, a1, t1, k1.imp fun _ hs => .head stepR_block (.head stepR_loop hs), k2, k3, k4, k5⟩

theorem code_ok (hm : P.follows .mixedOrders = true) (hO : OrOk P (CR0 P) O) (code : Code) : ∀ {blk : Nat} {c : Cmd} {e e' : Env} {σ σ' : Stack} {x : Exit} {g : G} {w : World} {B : Nat → Nat} {a : Act} {k : List Item},
    codeC P ann n blk code = some c → acode O c e σ = some (x, e', σ') → At (CR0 P) base ann.ownv g0 w0 n b g w B e σ a → Ends P ann n base g0 w0 b cs g w a (.code code :: k) k σ x e' σ' := by
  induction hsz : SizeOf.sizeOf code using Nat.strongRecOn generalizing code with
  | _ N ih =>
  intro blk c e e' σ σ' x g w B a k hc h ha
  have seq2 : ∀ {p q : Code} {x' y' : Cmd}, (∀ {e e' : Env} {σ σ' : Stack} {x : Exit} {g : G} {w : World} {B : Nat → Nat} {a : Act} {k : List Item}, acode O x' e σ = some (x, e', σ') → At (CR0 P) base ann.ownv g0 w0 n b g w B e σ a → Ends P ann n base g0 w0 b cs g w a (.code p :: k) k σ x e' σ') →
      (∀ {e e' : Env} {σ σ' : Stack} {x : Exit} {g : G} {w : World} {B : Nat → Nat} {a : Act}, acode O y' e σ = some (x, e', σ') → At (CR0 P) base ann.ownv g0 w0 n b g w B e σ a → Ends P ann n base g0 w0 b cs g w a (.code q :: k) k σ x e' σ') →
      acode O (.seq x' y') e σ = some (x, e', σ') → Ends P ann n base g0 w0 b cs g w a (.code (.seq p q) :: k) k σ x e' σ' := by
    intro p q x' y' ih1 ih2 h
    simp only [acode, Option.bind_eq_some_iff, Prod.exists] at h
    obtain ⟨x1, e1, σ1, h3, h4⟩ := h
    obtain ⟨g1, w1, B1, a1, t1, k1, k2, k3, k4, k5⟩ := ih1 (k := .code q :: k) h3 ha
    cases x1 with
    | normal =>
      obtain rfl := k4
      obtain ⟨g2, w2, B2, a2, t2, m1, m2, m3, m4, m5⟩ := ih2 h4 k2
      exact ⟨g2, w2, B2, a2, t2, m1.imp fun _ hs => .head stepR_seq (Steps.trans k1 hs), m2, k3.trans' m3, m4, k5.trans m5⟩
    | exit id =>
      simp only [Option.some.injEq, Prod.mk.injEq] at h4
      obtain ⟨rfl, rfl, rfl⟩ := h4
      exact ⟨g1, w1, B1, a1, t1, k1.imp fun _ hs => .head stepR_seq hs, k2, k3, k4.skip (fun _ => by simp) (by simp), k5⟩
    | ret =>
      simp only [Option.some.injEq, Prod.mk.injEq] at h4
      obtain ⟨rfl, rfl, rfl⟩ := h4
      exact ⟨g1, w1, B1, a1, t1, k1.imp fun _ hs => .head stepR_seq hs, k2, k3, k4.skip (fun _ => by simp) (by simp), k5⟩
    | thr d =>
      simp only [Option.some.injEq, Prod.mk.injEq] at h4
      obtain ⟨rfl, rfl, rfl⟩ := h4
      exact ⟨g1, w1, B1, a1, t1, k1.imp fun _ hs => .head stepR_seq hs, k2, k3, k4.skip (fun _ => by simp) (by simp), k5⟩
  cases code with
  | skip =>
    simp only [codeC, Option.some.injEq] at hc; subst hc
    simp only [acode, Option.some.injEq, Prod.mk.injEq] at h
    obtain ⟨rfl, rfl, rfl⟩ := h
    exact ⟨g, w, B, a, k, .one stepR_skip, ha, g.le_refl, rfl, .refl _⟩
  | region id ops draw => exact region_ok hm hO hc h ha
  | seq p q =>
    simp only [codeC] at hc
    split at hc
    case h_2 => cases hc
    rename_i p' q' h1 h2
    cases hc
    rcases seqC_cases ann p p' q' with ⟨f, xs, _, h3⟩ | ⟨_, p0, bid, l0, p1, live, it, nx, ok, bb, c0, rfl, rfl, h3⟩ | ⟨_, h3⟩ | ⟨_, live, op, f, xs, _, h3⟩
    · rw [h3] at h; simp [acode] at h
    · rw [h3] at h
      simp only [codeC] at h1
      split at h1
      case h_2 => cases h1
      rename_i p2 q2 g1 g2
      simp only [Option.map_eq_some_iff, Option.some.injEq] at g2 h1
      obtain ⟨l1, g3, rfl⟩ := g2
      rcases blkC_cases ann n bid l0 l1 with ⟨it', nx', ok', live', sg, A, c1, g4, rfl, g5⟩ | g5
      · rw [g5] at h1
        rcases seqC_cases ann p0 p2 (.mloop live' (.t it') nx' ok' bid c1 .nop) with ⟨f, xs, _, g6⟩ | ⟨_, _, _, _, _, _, _, _, _, _, _, _, _, g6⟩ | ⟨_, g6⟩ | ⟨_, _, _, _, _, _, g6⟩
        rotate_left 3
        · rw [g6] at h1; cases h1
        · rw [g6] at h1; cases h1
        · rw [g6] at h1; cases h1
        · rw [g6] at h1; cases h1
          simp only [acode, Option.bind_eq_some_iff, Prod.exists] at h
          obtain ⟨x1, e1, σ1, h4, h5⟩ := h
          obtain ⟨f1, w1, B1, a1, t1, k1, k2, k3, k4, k5⟩ := ih _ (by simp at hsz ⊢; omega) p0 rfl (k := .code (.block bid l0) :: .code q :: k) g1 h4 ha
          cases x1 with
          | normal =>
            obtain rfl := k4
            obtain ⟨f2, w2, B2, a2, t2, m1, m2, m3, m4, m5⟩ := map_ok (blk := blk) (qs := some q) (k := k) (cs := cs) hO g4 g3 h2 h5 k2
            exact ⟨f2, w2, B2, a2, t2, m1.imp fun _ hs => .head stepR_seq (.head stepR_seq (Steps.trans k1 hs)), m2, k3.trans' m3, m4, k5.trans m5⟩
          | exit id =>
            simp only [Option.some.injEq, Prod.mk.injEq] at h5
            obtain ⟨rfl, rfl, rfl⟩ := h5
            exact ⟨f1, w1, B1, a1, t1, k1.imp fun _ hs => .head stepR_seq (.head stepR_seq hs), k2, k3, (k4.skip (fun _ => by simp) (by simp)).skip (fun _ => by simp) (by simp), k5⟩
          | ret =>
            simp only [Option.some.injEq, Prod.mk.injEq] at h5
            obtain ⟨rfl, rfl, rfl⟩ := h5
            exact ⟨f1, w1, B1, a1, t1, k1.imp fun _ hs => .head stepR_seq (.head stepR_seq hs), k2, k3, (k4.skip (fun _ => by simp) (by simp)).skip (fun _ => by simp) (by simp), k5⟩
          | thr d =>
            simp only [Option.some.injEq, Prod.mk.injEq] at h5
            obtain ⟨rfl, rfl, rfl⟩ := h5
            exact ⟨f1, w1, B1, a1, t1, k1.imp fun _ hs => .head stepR_seq (.head stepR_seq hs), k2, k3, trivial, k5⟩
      · rw [g5] at h1
        rcases seqC_cases ann p0 p2 (.blk bid l1) with ⟨f, xs, _, g6⟩ | ⟨_, _, _, _, _, _, _, _, _, _, _, _, _, g6⟩ | ⟨_, g6⟩ | ⟨_, _, _, _, _, _, g6⟩ <;> rw [g6] at h1 <;> cases h1
    · rw [h3] at h
      refine seq2 (fun h ha => ih _ (by simp at hsz; omega) p rfl h1 h ha) (fun h ha => ih _ (by simp at hsz; omega) q rfl h2 h ha) h
    · rw [h3] at h
      simp only [acode, Option.bind_eq_some_iff, Option.map_eq_some_iff] at h
      obtain ⟨_, ⟨_, _, rfl⟩, h⟩ := h
      cases h
  | cond co p q =>
    simp only [codeC] at hc
    split at hc
    case h_2 => cases hc
    rename_i C p' q' h0 h1 h2
    cases hc
    simp only [acode] at h
    split at h
    case h_2 => cases h
    rename_i t ht
    obtain ⟨tmps, df⟩ := a
    have hrel := ha.fr.opd (df := df) h0
    rw [ht] at hrel
    have hev := hrel.bool_inv
    refine Ends.step (stepR_cond hev) ?_
    cases t with
    | true => exact ih _ (by simp at hsz; omega) p rfl h1 (by simpa using h) ha
    | false => exact ih _ (by simp at hsz; omega) q rfl h2 (by simpa using h) ha
  | block id p =>
    simp only [codeC, Option.map_eq_some_iff] at hc
    obtain ⟨p', h1, rfl⟩ := hc
    rcases blkC_cases ann n id p p' with ⟨it', nx', ok', live', sg, A, c1, g4, rfl, g5⟩ | g5
    · rw [g5] at h
      have := map_ok (blk := blk) (qs := none) (k := k) (cs := cs) hO g4 h1 rfl h ha
      simpa using this
    rw [g5] at h
    simp only [acode, Option.map_eq_some_iff, Prod.exists] at h
    obtain ⟨x1, e1, σ1, h3, h4⟩ := h
    obtain ⟨g1, w1, B1, a1, t1, k1, k2, k3, k4, k5⟩ := ih _ (by simp at hsz; omega) p rfl (k := .inBlock id :: k) h1 h3 ha
    cases x1 with
    | normal =>
      cases h4
      obtain rfl := k4
      exact ⟨g1, w1, B1, a1, k, .head stepR_block (Steps.trans k1 (.one stepR_inBlock)), k2, k3, rfl, k5⟩
    | exit j =>
      obtain ⟨k', rfl, hk'⟩ := k4
      dsimp only at h4
      split at h4
      · rename_i hj
        subst hj
        cases h4
        refine ⟨g1, w1, B1, a1, k, .head stepR_block (Steps.trans k1 (.one (stepR_exit ?_))), k2, k3, rfl, k5⟩
        rw [hk']; simp [exitTo]
      · rename_i hj
        cases h4
        refine ⟨g1, w1, B1, a1, _, Steps.head stepR_block k1, k2, k3, ⟨k', rfl, ?_⟩, k5⟩
        rw [hk']; simp [exitTo, Ne.symm hj]
    | ret =>
      cases h4
      exact ⟨g1, w1, B1, a1, t1, Steps.head stepR_block k1, k2, k3, k4, k5⟩
    | thr d =>
      cases h4
      exact ⟨g1, w1, B1, a1, t1, k1.imp fun _ hs => .head stepR_block hs, k2, k3, trivial, k5⟩
  | loop p =>
    simp only [codeC, Option.map_eq_some_iff] at hc
    obtain ⟨p', h1, rfl⟩ := hc
    simp only [acode] at h
    obtain ⟨hx, hloop⟩ := hO _ _ (ctls_some h)
    exact Ends.step stepR_loop (hloop ann blk p n h1 base g0 w0 b a k cs g w B ha)
  | rangeFunc f ps p q => exact range_ok hO hc h ha
  | scope p =>
    simp only [codeC, Option.map_eq_some_iff] at hc
    obtain ⟨p', h1, rfl⟩ := hc
    unfold scopeC at h
    split at h
    · rw [fail_none] at h; cases h
    simp only [acode, Option.bind_some] at h
    obtain ⟨g1, w1, B1, a1, t1, k1, k2, k3, k4, k5⟩ := ih _ (by simp at hsz; omega) p rfl (k := .inScope p :: k) h1 h ha
    cases x with
    | normal =>
      obtain rfl := k4
      exact ⟨g1, w1, B1, a1, k, .head stepR_scope (Steps.trans k1 (.one stepR_inScope)), k2, k3, rfl, k5⟩
    | exit id => exact ⟨g1, w1, B1, a1, t1, Steps.head stepR_scope k1, k2, k3, k4.skip (fun _ => by simp) (by simp), k5⟩
    | ret => exact ⟨g1, w1, B1, a1, t1, Steps.head stepR_scope k1, k2, k3, k4.skip (fun _ => by simp) (by simp), k5⟩
    | thr d => exact ⟨g1, w1, B1, a1, t1, k1.imp fun _ hs => .head stepR_scope hs, k2, k3, trivial, k5⟩
  | label l =>
    simp only [codeC, Option.some.injEq] at hc; subst hc
    simp only [acode, Option.some.injEq, Prod.mk.injEq] at h
    obtain ⟨rfl, rfl, rfl⟩ := h
    exact ⟨g, w, B, a, k, .one stepR_label, ha, g.le_refl, rfl, .refl _⟩
  | exit id =>
    simp only [codeC, Option.some.injEq] at hc; subst hc
    simp only [acode, Option.some.injEq, Prod.mk.injEq] at h
    obtain ⟨rfl, rfl, rfl⟩ := h
    exact ⟨g, w, B, a, _, .refl _ _, ha, g.le_refl, ⟨k, rfl, rfl⟩, .refl _⟩
  | ret =>
    simp only [codeC, Option.some.injEq] at hc; subst hc
    simp only [acode, Option.some.injEq, Prod.mk.injEq] at h
    obtain ⟨rfl, rfl, rfl⟩ := h
    exact ⟨g, w, B, a, _, .refl _ _, ha, g.le_refl, ⟨k, rfl⟩, .refl _⟩
  | _ =>
    simp only [codeC, Option.some.injEq] at hc
    subst hc
    rw [fail_none] at h; cases h
end
end Go.Abs

/-
  A function's results; its way out.
-/
set_option linter.unusedVariables false
set_option linter.unusedSimpArgs false
namespace Go.Abs
open Go

section
variable {P : Program} {CR : CRel} {base fb : Nat} {V : List Nat} {g : G} {σ σ' : Stack} {w : World} {B : Nat → Nat} {e : Env} {tmps : Array Value} {d : D}

theorem load_run {t : TypeId} {ag : Bool} {sz : Nat} {b o : Nat} {vs : List Value} {cs : List D} (hag : aggC P t = some ag) (hsz : sizeC P t = some sz) (hone : (ag || sz == 1) = true) (hpos : 0 < sz)
    (hrd : Rd w b o vs) (hrl : RelL g cs vs) (h1 : ∀ x ∈ vs, x.oneCell' = true)
    (h : (if sz ≤ cs.length then if ag then some (D.agg (cs.take sz), σ) else match (generalizing := false) cs with | d :: _ => some (d, σ) | [] => none else none) = some (d, σ')) :
    ∃ v, (loadVar t ⟨b, o, none⟩).run P w = .ok v w ∧ RelV g d v := by
  split at h
  case isFalse => cases h
  rename_i hlen
  obtain ⟨v, hv, hv2⟩ := run_loadVar hag hsz hone hrd (by rw [← hrl.length]; exact hlen)
  cases ag with
  | true =>
    simp only [if_true, Option.some.injEq, Prod.mk.injEq] at h
    obtain ⟨rfl, rfl⟩ := h
    simp only [if_true] at hv2; subst hv2
    exact ⟨_, hv, .agg _ _ (by simpa using hrl.take sz) fun y hy => h1 y (List.mem_of_mem_take (by simpa using hy))⟩
  | false =>
    simp only [Bool.false_eq_true, if_false] at h hv2
    obtain ⟨y, r, rfl, rfl⟩ := hv2
    cases cs with
    | nil => simp at hlen; omega
    | cons d0 cs =>
      simp only [Option.some.injEq, Prod.mk.injEq] at h
      obtain ⟨rfl, rfl⟩ := h
      cases hrl with
      | cons _ _ _ _ ha hb => exact ⟨_, hv, ha⟩

def resV (tmps : Array Value) : ResultVar → Sem Value
  | .tmp t => pure (tmps.getD t Go.undef)
  | .cell a t => do loadVar t (← asAddr (tmps.getD a Go.undef))

theorem results_eq (F : Func) : results F tmps = (do
    let vs ← F.results.mapM (resV tmps)
    pure (if h : vs.size = 1 then vs[0] else .tuple vs)) := rfl

theorem res_ok (hf : Fr fb V g w B e tmps) (hi : Inv CR base g σ w) {ann : Ann} {r : ResultVar} {R : Res} (hR : resC P ann r = some R) (h : resD e σ R = some d) :
    ∃ v, (resV tmps r).run P w = .ok v w ∧ RelV g d v := by
  cases r with
  | tmp t =>
    simp only [resC, Option.some.injEq] at hR; subst hR
    simp only [resD, Option.some.injEq] at h; subst h
    exact ⟨_, rfl, hf.strip t⟩
  | cell x t =>
    simp only [resC] at hR
    split at hR
    case h_2 => cases hR
    rename_i ag sz hag hsz
    simp only [Option.ite_none_right_eq_some, Bool.and_eq_true, decide_eq_true_eq] at hR
    obtain ⟨⟨hone, hpos⟩, hR⟩ := hR
    by_cases hc : ann.ownv.contains x = true
    · rw [if_pos hc] at hR
      cases hR
      simp only [resD, Option.map_eq_some_iff, Prod.exists] at h
      obtain ⟨d', σ', h, rfl⟩ := h
      simp only [sop] at h
      split at h
      case h_2 => cases h
      rename_i s cs off hin
      obtain ⟨hg, hp⟩ := hf.inVar hin
      obtain ⟨_, _, hob⟩ := hf.own x s cs hg
      obtain ⟨ca, el, hheap, hrl, h1⟩ := hob.blk
      have hrd : Rd w (B x) off (ca.toList.drop off) := by
        have : Rd w (B x) 0 ca.toList := fun j y ey => by simp only [World.cell?, hheap]; simpa using ey
        simpa using this.drop off
      obtain ⟨v, h2, h3⟩ := load_run hag hsz hone hpos hrd (hrl.drop off) (fun y hy => h1 y (List.mem_of_mem_drop hy)) h
      exact ⟨v, by simp only [resV, hp]; simpa [asAddr] using h2, h3⟩
    · rw [if_neg hc] at hR
      cases hR
      simp only [resD, Option.map_eq_some_iff, Prod.exists] at h
      obtain ⟨d', σ', h, rfl⟩ := h
      simp only [sop] at h
      split at h
      case h_2 => cases h
      rename_i cs hcs
      rcases addr_of hi (hf.strip x) hcs with rfl | ⟨b, off, vs, hcv, hrd, hrl, h1⟩
      · simp at h; omega
      · obtain ⟨v, h2, h3⟩ := load_run hag hsz hone hpos hrd hrl h1 h
        exact ⟨v, by simp only [resV, hcv]; simpa [asAddr] using h2, h3⟩

theorem ress_ok (hf : Fr fb V g w B e tmps) (hi : Inv CR base g σ w) {ann : Ann} : ∀ {rs : List ResultVar} {Rs : List Res} {ds : List D}, ressC P ann rs = some Rs → resL e σ Rs = some ds →
    ∃ vs, (rs.mapM (resV tmps)).run P w = .ok vs w ∧ RelL g ds vs
  | [], Rs, ds, h1, h2 => by
    simp only [ressC, Option.some.injEq] at h1; subst h1
    simp only [resL, Option.some.injEq] at h2; subst h2
    exact ⟨[], by simp, .nil⟩
  | r :: rs, Rs, ds, h1, h2 => by
    simp only [ressC] at h1
    split at h1
    case h_2 => cases h1
    rename_i R Rs' k1 k2
    cases h1
    simp only [resL, Option.bind_eq_some_iff, Option.map_eq_some_iff] at h2
    obtain ⟨d, h3, ds', h4, rfl⟩ := h2
    obtain ⟨v, h5, h6⟩ := res_ok hf hi k1 h3
    obtain ⟨vs, h7, h8⟩ := ress_ok hf hi k2 h4
    exact ⟨v :: vs, by simp only [List.mapM_cons, Sem.run_bind, h5, Result.andThen_ok, h7, Sem.run_pure], .cons _ _ _ _ h6 h8⟩

theorem results_ok (hf : Fr fb V g w B e tmps) (hi : Inv CR base g σ w) {ann : Ann} {F : Func} {Rs : List Res} {ds : List D} (h1 : ressC P ann F.results.toList = some Rs) (h2 : resL e σ Rs = some ds) :
    ∃ v, (results F tmps).run P w = .ok v w ∧ RelV g (mkRes ds) v := by
  obtain ⟨vs, h3, h4⟩ := ress_ok (tmps := tmps) hf hi h1 h2
  have hrun : ∀ v, (if h : vs.toArray.size = 1 then vs.toArray[0] else Value.tuple vs.toArray) = v → (results F tmps).run P w = .ok v w := by
    intro v hv
    subst hv
    rw [results_eq]
    simp only [Sem.run_bind, Array.mapM_eq_mapM_toList, Sem.run_map, h3, Result.andThen_ok, Sem.run_pure]
  cases h4 with
  | nil => exact ⟨_, hrun _ rfl, by simpa [mkRes] using RelV.tup (g := g) [] #[] .nil⟩
  | cons d c ds' cs' k1 k2 =>
    cases k2 with
    | nil => exact ⟨c, hrun _ (by simp), by simpa [mkRes] using k1⟩
    | cons d2 c2 ds2 cs2 k3 k4 => exact ⟨_, hrun _ rfl, by simpa [mkRes] using RelV.tup (g := g) _ (c :: c2 :: cs2).toArray (.cons _ _ _ _ k1 (.cons _ _ _ _ k3 k4))⟩
end

section
variable {P : Program} {CR : CRel} {base n : Nat} {V : List Nat} {g0 g : G} {w0 w : World} {b : Frame} {B : Nat → Nat} {e : Env} {σ : Stack} {a : Act}

theorem unmark {df0 : List Deferred} : ∀ (rs : List Nat) (w : World) (g : G) (a : Act) (fr : Frame) (cs : List Frame), fr.mode ≠ .run → fr.defers = rs.map mark ++ df0 → (rs ++ colls df0).Nodup → (∀ r ∈ rs ++ colls df0, MarkB w0.heap.size g w r) →
    Fr w0.heap.size V g w B e a.tmps → Ev g0 w0 g w → Inv CR base g σ w →
    ∃ w', Steps P (lone fr cs w) (lone { fr with defers := df0 } cs w') ∧ Fr w0.heap.size V g w' B e a.tmps ∧ Ev g0 w0 g w' ∧ Inv CR base g σ w' ∧ (∀ r ∈ colls df0, MarkB w0.heap.size g w' r)
  | [], w, g, a, fr, cs, hm, hd, hn, hall, hf, he, hi => by
    refine ⟨w, ?_, hf, he, hi, by simpa using hall⟩
    have : { fr with defers := df0 } = fr := by cases fr; simp only [List.map_nil, List.nil_append] at hd; subst hd; rfl
    rw [this]
    exact .refl _ _
  | r :: rs, w, g, a, fr, cs, hm, hd, hn, hall, hf, he, hi => by
    have hr := hall r (by simp)
    have htake := run_takeDeferred (P := P) hr.blk
    have hstep := step_collected (P := P) (cs := cs) (d := mark r) (ds := rs.map mark ++ df0) hm (by rw [hd]; rfl) rfl htake
    have hoth : ∀ b', b' ≠ r → (w.putObj r (.deferred none)).heap[b']? = w.heap[b']? := fun b' hne => World.putObj_heap_other hne
    have hi' : Inv CR base g σ (w.putObj r (.deferred none)) := hi.foreign (fun b' _ hk => hoth b' fun hh => by
      subst hh
      rcases hk with hk | ⟨o, v, hk⟩
      · exact hr.free hk
      · rw [hr.noimm] at hk; cases hk) (by simp)
    have he' : Ev g0 w0 g (w.putObj r (.deferred none)) :=
      ⟨he.le, he.os, he.tape, he.output, by simpa using he.size, fun b' hb' hnb => by rw [hoth b' (by have := hr.lo; omega)]; exact he.kept b' hb' hnb, he.img, he.immN⟩
    have hf' : Fr w0.heap.size V g (w.putObj r (.deferred none)) B e a.tmps := ⟨hf.rel, fun t s cs' ht => by
      obtain ⟨h1, h2, h3⟩ := hf.own t s cs' ht
      obtain ⟨c, el, hb, hrl, h5⟩ := h3.blk
      refine ⟨h1, h2, h3.lo, h3.free, h3.noimm, c, el, ?_, hrl, h5⟩
      rw [hoth (B t) (fun hh => by rw [hh, hr.blk] at hb; cases hb)]; exact hb, hf.inj⟩
    rw [List.cons_append, List.nodup_cons] at hn
    obtain ⟨w', h1, h2, h3, h4⟩ := unmark rs (w.putObj r (.deferred none)) g a { fr with defers := rs.map mark ++ df0 } cs hm rfl hn.2 (fun r' hr' => by
      have hm' := hall r' (by rw [List.cons_append]; exact List.mem_cons_of_mem _ hr')
      refine ⟨hm'.lo, hm'.free, hm'.noimm, ?_⟩
      rw [hoth r' (fun hh => hn.1 (hh ▸ hr'))]; exact hm'.blk) hf' he' hi'
    refine ⟨w', .head ?_ h1, h2, h3, h4⟩
    rw [hstep]
    rfl
end
end Go.Abs

/-
  A function of the library that is not walked: slices.Sort at numbers, by a contract.
-/
set_option linter.unusedVariables false
set_option linter.unusedSimpArgs false
namespace Go.Abs
open Go
open Go.RowKit

structure RowW (w : World) (b o : Nat) (zs : List Int) (w' : World) : Prop where
  row : ∀ c el, w.heap[b]? = some (.cells c el (0, 0)) → o + zs.length ≤ c.size → ∃ c', w'.heap[b]? = some (.cells c' el (0, 0)) ∧ c'.size = c.size ∧
    ∀ j, c'[j]? = if o ≤ j ∧ j < o + zs.length then (zs.map (Value.int .i64))[j - o]? else c[j]?
  other : ∀ x, x < w.heap.size → x ≠ b → w'.heap[x]? = w.heap[x]?
  size : w.heap.size ≤ w'.heap.size
  os : w'.os = w.os
  tape : w'.tape = w.tape
  output : w'.output = w.output
def natVal (k b o cap : Nat) (zs : List Int) : Value := if k = 1 then .tuple #[] else .slice (some ⟨b, o, none⟩) (compI zs).length cap
def NatOk (P : Program) (k f : Nat) : Prop :=
  (∃ F c, P.funcs[f]? = some F ∧ F.name ≠ "runtime.NumGoroutine" ∧ F.body = some c) ∧
  ∀ (b o cap : Nat) (zs : List Int) (w : World) (c : Array Value) (el : TypeId), w.heap[b]? = some (.cells c el (0, 0)) → o + zs.length ≤ c.size →
    (∀ j z, zs[j]? = some z → c[o + j]? = some (.int .i64 z)) → zs.length < 4611686018427387904 → zs.length ≤ cap →
    Calls P f #[.slice (some ⟨b, o, none⟩) zs.length cap] w fun e w' => e = .returned (natVal k b o cap zs) ∧ RowW w b o (natRow k zs) w'

def NatC (P : Program) (CR : CRel) (k f : Nat) : Prop := ∀ args σ r, natQ k args σ = some r → ∃ d σ', r = .val d σ' ∧ CallOk P CR f args σ d σ'

theorem insI_length (x : Int) : ∀ l : List Int, (insI x l).length = l.length + 1
  | [] => rfl
  | y :: l => by
    unfold insI
    split
    · rfl
    · simp [insI_length x l]
theorem sortI_length : ∀ l : List Int, (sortI l).length = l.length
  | [] => rfl
  | x :: l => by simp [sortI, insI_length, sortI_length l]
theorem compT_length (x : Int) : ∀ l : List Int, (compT x l).length ≤ l.length
  | [] => Nat.le_refl _
  | y :: l => by
    unfold compT
    split
    · have := compT_length x l; simp; omega
    · have := compT_length y l; simp; omega
theorem compI_length : ∀ l : List Int, (compI l).length ≤ l.length
  | [] => Nat.le_refl _
  | x :: l => by have := compT_length x l; simp [compI]; omega
end Go.Abs
