/- The interpreter, part 18: proved sound against the model. -/
import Derived.Test.YtfgljaglidhjiaaGreatDoorBase12
import Derived.Lib.LaidTab
import Derived.LaidLaws
import Derived.Shelf.Vars
/-
  What is known of the program's own variables, out of a row's condition.
-/
set_option linter.unusedVariables false
namespace Go.Abs
open Go

theorem laid_at {P : Program} {w : World} : ∀ {l : List (String × DataW Unit)} {ps : List MemPlace}, DataW.LaidVars P w l ps → ∀ x ∈ l,
    ∃ g t cs fuel p, P.globalNamed x.1 = some g ∧ (P.globals[g]?).map (·.type) = some t ∧ w.var? P x.1 = some cs ∧ DataW.trod (fun _ => ()) P w 0 (fun _ => true) false fuel t cs.toList = some (x.2, p) ∧
      ∀ m ∈ MemPlace.row ⟨g, 0, none⟩ cs.size, m ∈ ps
  | [], _, _, x, hx => by cases hx
  | (n, d) :: r, ps, h, x, hx => by
    obtain ⟨g, t, cs, fuel, p, q, h1, h2, h3, h4, h5, rfl⟩ := h
    rcases List.mem_cons.1 hx with rfl | hx
    · exact ⟨g, t, cs, fuel, p, h1, h2, h3, h4, fun m hm => by simp [hm]⟩
    · obtain ⟨g', t', cs', f', p', k1, k2, k3, k4, k5⟩ := laid_at h5 x hx
      exact ⟨g', t', cs', f', p', k1, k2, k3, k4, fun m hm => by simp [k5 m hm]⟩
theorem laid_heap {P : Program} {w : World} {l : List (String × DataW Unit)} (hl : laidMet P l w) {n : String} {d : DataW Unit} (hx : (n, d) ∈ l) {b t : Nat} (hb : P.globalNamed n = some b) (ht : (P.globals[b]?).map (·.type) = some t) :
    ∃ cs fuel p, DataW.trod (fun _ => ()) P w 0 (fun _ => true) false fuel t cs.toList = some (d, p) ∧ (0 < cs.size → ∃ t', w.heap[b]? = some (.cells cs t' (0, 0))) := by
  obtain ⟨ps, h1, _, h2⟩ := hl
  obtain ⟨g, t', cs, fuel, p, k1, k2, k3, k4, k5⟩ := laid_at h1 _ hx
  obtain rfl := Option.some.inj (hb.symm.trans k1)
  obtain rfl := Option.some.inj (ht.symm.trans k2)
  refine ⟨cs, fuel, p, k4, fun hpos => ?_⟩
  obtain ⟨⟨c, t', hc⟩, _⟩ := h2 b 0 (k5 _ (by simp only [MemPlace.row, List.mem_map, List.mem_range]; exact ⟨0, hpos, by simp⟩))
  simp only [World.var?, hb, Option.bind_some, hc, Option.some.injEq] at k3
  subst k3
  exact ⟨t', hc⟩
theorem glb_err {P : Program} {w : World} {l : List (String × DataW Unit)} (hl : laidMet P l w) {n nm : String} {d : DataW Unit} (hx : (n, .iface nm d) ∈ l) {b t : Nat} {ms : Array (String × TypeId)} (hb : P.globalNamed n = some b)
    (ht : (P.globals[b]?).map (·.type) = some t) (hu : P.underlying t = some (.interface ms)) : ∃ c t v, w.heap[b]? = some (.cells c t (0, 0)) ∧ c[0]? = some v ∧ v.oneCell' = true ∧ QErr (.cells c t (0, 0)) := by
  obtain ⟨cs, fuel, p, h1, h2⟩ := laid_heap hl hx hb ht
  obtain ⟨f1, u, v, hcs, _⟩ := iface_of_trod hu h1
  obtain rfl : cs = #[.iface u v] := by rw [← Array.toList_inj, hcs]
  obtain ⟨t', hc⟩ := h2 (by simp)
  exact ⟨_, t', .iface u v, hc, by simp, rfl, _, t', _, .iface u v, rfl, by simp, .inr ⟨u, v, rfl⟩⟩
theorem glb_tab {P : Program} {w : World} {l : List (String × DataW Unit)} (hl : laidMet P l w) {n : String} (hx : (n, Lib.tabData .u64 Lib.pow10Tab) ∈ l) {b t e k : Nat} (hb : P.globalNamed n = some b)
    (ht : (P.globals[b]?).map (·.type) = some t) (hu : P.underlying t = some (.array k e)) (he : P.underlying e = some (.int .u64)) (hce : P.cellsOf e = 1) (hct : P.cellsOf t = k) :
    ∃ c t v, w.heap[b]? = some (.cells c t (0, 0)) ∧ c[0]? = some v ∧ v.oneCell' = true ∧ QPow (.cells c t (0, 0)) := by
  obtain ⟨cs, fuel, p, h1, h2⟩ := laid_heap hl hx hb ht
  have hcs := Lib.cells_of_tab hu he hce hct h1
  obtain rfl : cs = (Lib.pow10Tab.map (Value.int .u64)).toArray := by rw [← Array.toList_inj, hcs]
  obtain ⟨t', hc⟩ := h2 (by decide)
  exact ⟨_, t', .int .u64 1, hc, rfl, rfl, t', _, rfl⟩
theorem glb_max {P : Program} {w : World} (h : w.ShapedOpen P) {g t : Nat} {zero : Array Value} (hg : g < P.globals.size) (h0 : ((begin P (fun _ _ => 0) default).world.heap[g]?).bind Obj.row? = some (zero, t)) (hz : zero.size = 1)
    (hb : P.buildable t = true) (hc : P.cellTypes P.depth t = some [t]) (hu : P.underlying t = some (.int .i64)) : ∃ c t v, w.heap[g]? = some (.cells c t (0, 0)) ∧ c[0]? = some v ∧ v.oneCell' = true ∧ QMax (.cells c t (0, 0)) := by
  obtain ⟨m, hm⟩ := Go.Proofs.cell_of_shapedOpen_int h hg h0 hz hb hc hu
  obtain ⟨cs, hh, _⟩ := h.1 g zero t hg h0
  have h1 : cs[0]? = some (.int .i64 m) := by simpa [World.cell?, hh] using hm
  exact ⟨cs, t, _, hh, h1, rfl, cs, t, _, m, rfl, h1⟩
end Go.Abs

/-
  How to reckon what a call answers: step by step, by rewriting.
-/
set_option linter.unusedVariables false
set_option linter.unusedSimpArgs false
namespace Go.Abs
open Go

variable {T : Tbl} {O : Oracle}

theorem by_rfl.{u} {α : Sort u} {a b : α} (h : a = b) : a = b := h

inductive Mark.{u} {α : Sort u} (a : α) : Type
  | mk

def WO (O : Oracle) (ops : List Op) (e : Env) (σ : Stack) (Q : Env → Stack → Prop) (_m : Mark Q := .mk) : Prop := ∃ e' σ', aops O ops e σ = some (e', σ') ∧ Q e' σ'
def WC (O : Oracle) (c : Cmd) (e : Env) (σ : Stack) (Q : Exit → Env → Stack → Prop) (_m : Mark c := .mk) (_m' : Mark Q := .mk) : Prop := ∃ x e' σ', acode O c e σ = some (x, e', σ') ∧ Q x e' σ'
def WV (o : Option (D × Stack)) (Q : D → Stack → Prop) (_m : Mark Q := .mk) : Prop := ∃ d σ', o = some (d, σ') ∧ Q d σ'
def WL (T : Tbl) (live : List Nat) (seg : Bool) (c : Cmd) (e : Env) (σ : Stack) (Q : Exit → Env → Stack → Prop) (_m : Mark c := .mk) (_m' : Mark Q := .mk) : Prop := ∃ x e' σ', lim T (.loop live seg c e σ) = some (.ctl x e' σ') ∧ Q x e' σ'

theorem WO.mono {ops : List Op} {e : Env} {σ : Stack} {Q Q' : Env → Stack → Prop} (h : WO O ops e σ Q) (hq : ∀ e σ, Q e σ → Q' e σ) : WO O ops e σ Q' :=
  let ⟨e', σ', h1, h2⟩ := h; ⟨e', σ', h1, hq _ _ h2⟩
theorem WC.mono {c : Cmd} {e : Env} {σ : Stack} {Q Q' : Exit → Env → Stack → Prop} (h : WC O c e σ Q) (hq : ∀ x e σ, Q x e σ → Q' x e σ) : WC O c e σ Q' :=
  let ⟨x, e', σ', h1, h2⟩ := h; ⟨x, e', σ', h1, hq _ _ _ h2⟩
theorem WL.mono {live : List Nat} {seg : Bool} {c : Cmd} {e : Env} {σ : Stack} {Q Q' : Exit → Env → Stack → Prop} (h : WL T live seg c e σ Q) (hq : ∀ x e σ, Q x e σ → Q' x e σ) : WL T live seg c e σ Q' :=
  let ⟨x, e', σ', h1, h2⟩ := h; ⟨x, e', σ', h1, hq _ _ _ h2⟩


def WD {α : Type} (o : Option α) (Q : α → Prop) (_m : Mark Q := .mk) : Prop := ∃ d, o = some d ∧ Q d
@[simp, simp ↓] theorem WD_some {α : Type} {d : α} {Q : α → Prop} : WD (some d) Q = Q d := by
  simp only [WD, Option.some.injEq, eq_iff_iff]
  exact ⟨fun ⟨_, h, h'⟩ => by rw [h]; exact h', fun h => ⟨_, rfl, h⟩⟩
@[simp, simp ↓] theorem WD_none {α : Type} {Q : α → Prop} : WD none Q = False := by simp [WD]
def boolD : D → Option Bool
  | .bool b => some b
  | _ => none
@[simp] theorem boolD_bool {b : Bool} : boolD (.bool b) = some b := by_rfl rfl
@[simp] theorem bit_bool {b : Bool} : (D.bool b).bit = some (some b) := by_rfl rfl
@[simp] theorem bit_tup : (D.tup []).bit = some none := by_rfl rfl
def cvtD (k : IntKind) : D → Option D
  | .int _ m => some (.int k (k.wrap m))
  | _ => none
@[simp] theorem cvtD_int {k k' : IntKind} {m : Int} : cvtD k (.int k' m) = some (.int k (k.wrap m)) := by_rfl rfl

@[simp, simp ↓] theorem WV_some {d : D} {σ : Stack} {Q : D → Stack → Prop} : WV (some (d, σ)) Q = Q d σ := by
  simp only [WV, Option.some.injEq, Prod.mk.injEq, eq_iff_iff]
  constructor
  · rintro ⟨_, _, ⟨rfl, rfl⟩, h⟩; exact h
  · exact fun h => ⟨_, _, ⟨rfl, rfl⟩, h⟩
@[simp, simp ↓] theorem WV_none {Q : D → Stack → Prop} : WV none Q = False := by simp [WV]

@[simp, simp ↓] theorem WO_nil {e : Env} {σ : Stack} {Q : Env → Stack → Prop} : WO O [] e σ Q = Q e σ := by
  simp only [WO, aops, Option.some.injEq, Prod.mk.injEq, eq_iff_iff]
  constructor
  · rintro ⟨_, _, ⟨rfl, rfl⟩, h⟩; exact h
  · exact fun h => ⟨_, _, ⟨rfl, rfl⟩, h⟩

def grdIs (d : D) (w : Bool) : Option Bool :=
  match d with
  | .bool b => some (b == w)
  | _ => none

@[simp, simp ↓] theorem WO_grd {d : Option Nat} {g : Nat} {w n : Bool} {k : K} {r : List Op} {e : Env} {σ : Stack} {Q : Env → Stack → Prop} :
    WO O (⟨d, some (g, w), n, k⟩ :: r) e σ Q = WD (get e g).bit fun b => if b = some w then WO O (⟨d, none, n, k⟩ :: r) e σ Q else WO O r (put d (.tup []) e) σ Q := by
  cases h : (get e g).bit <;> simp only [WO, aops, h, reduceCtorEq, false_and, exists_false, WD_none, WD_some]
  rename_i b
  by_cases hb : b = some w
  · simp only [hb, if_true]
    rfl
  · simp only [if_neg hb]

theorem WO_sop {d : Option Nat} {n : Bool} {k : K} {r : List Op} {e : Env} {σ : Stack} {Q : Env → Stack → Prop} (h : aop O ⟨d, none, n, k⟩ e σ = (sop e σ k).map fun x => (put d x.1 e, x.2)) :
    WO O (⟨d, none, n, k⟩ :: r) e σ Q = WV (sop e σ k) fun v σ' => WO O r (put d v e) σ' Q := by
  simp only [WO, aops, h, WV, eq_iff_iff]
  constructor
  · rintro ⟨e', σ', h1, h2⟩
    cases hs : sop e σ k with
    | none => simp [hs] at h1
    | some y => simp [hs] at h1; exact ⟨y.1, y.2, rfl, e', σ', h1, h2⟩
  · rintro ⟨v, σ1, h1, e', σ', h2, h3⟩
    exact ⟨e', σ', by simp [h1, h2], h3⟩


theorem WV_of_D {o : Option (D × Stack)} {o' : Option D} {σ : Stack} {Q : D → Stack → Prop} (h : o = o'.map (·, σ)) : WV o Q = WD o' fun v => Q v σ := by
  subst h
  cases o' <;> simp

def lenD : D → Option D
  | .nils => some (.int .i64 0)
  | .lst n _ => some (.int .i64 n)
  | .sl _ _ _ _ n _ => some (.int .i64 n)
  | _ => none
@[simp] theorem lenD_nils : lenD .nils = some (.int .i64 0) := by_rfl rfl
@[simp] theorem lenD_lst {n : Nat} {cs : List D} : lenD (.lst n cs) = some (.int .i64 n) := by_rfl rfl
@[simp] theorem lenD_sl {l i v o n w : Nat} : lenD (.sl l i v o n w) = some (.int .i64 n) := by_rfl rfl

def ldD (ag : Bool) (sz : Nat) : Option (List D) → Option D
  | some cs =>
    if sz ≤ cs.length then
      if ag then some (.agg (cs.take sz)) else
      match cs with
      | d :: _ => some d
      | [] => none
    else none
  | none => none
@[simp] theorem ldD_ag {sz : Nat} {cs : List D} : ldD true sz (some cs) = if sz ≤ cs.length then some (.agg (cs.take sz)) else none := by_rfl rfl
@[simp] theorem ldD_one {d : D} {cs : List D} : ldD false 1 (some (d :: cs)) = some d := by simp [ldD]
@[simp] theorem rdD_cref {σ : Stack} {cs : List D} : rdD σ (.cref cs) = some cs := by_rfl rfl
@[simp] theorem rdD_ref {σ : Stack} {l i v off : Nat} : rdD σ (.ref l i v off) = (cells? σ l i v).map (·.drop off) := by_rfl rfl

def ldvD (e : Env) (v : Nat) (ag : Bool) (sz a : Nat) : Option D := ldD ag sz ((inVar e v a).map fun x => x.2.1.drop x.2.2)

def crefD : D → Option (List D)
  | .cref cs => some cs
  | _ => none
@[simp] theorem crefD_cref {cs : List D} : crefD (.cref cs) = some cs := by_rfl rfl
@[simp] theorem isnD_nilp : isnD true .nilp = some true := by_rfl rfl
@[simp] theorem isnD_cref {cs : List D} : isnD true (.cref cs) = some false := by_rfl rfl
@[simp] theorem isnD_ref {l i v off : Nat} : isnD true (.ref l i v off) = some false := by_rfl rfl
@[simp] theorem isnD_nils : isnD false .nils = some true := by_rfl rfl
@[simp] theorem isnD_lst {n : Nat} {cs : List D} : isnD false (.lst n cs) = if n = 0 then none else some false := by_rfl rfl
@[simp] theorem isnD_sl {l i v off n w : Nat} : isnD false (.sl l i v off n w) = if n = 0 then none else some false := by_rfl rfl
def nckD : D → Option D
  | .cref cs => some (.cref cs)
  | .ref l i v off => some (.ref l i v off)
  | _ => none
@[simp] theorem nckD_cref {cs : List D} : nckD (.cref cs) = some (.cref cs) := by_rfl rfl
@[simp] theorem nckD_ref {l i v off : Nat} : nckD (.ref l i v off) = some (.ref l i v off) := by_rfl rfl
def unD : UnOp → D → Option D
  | .not, .bool b => some (.bool !b)
  | .neg, .int k n => some (.int k (k.wrap (0 - n)))
  | .xor, .int k n => some (.int k (k.wrap ((BitVec.ofInt k.bits (if k.signed then -1 else k.max) ^^^ BitVec.ofInt k.bits n).toNat : Int)))
  | _, _ => none
theorem unD_xor8 {n : Nat} (h : n < 256) : unD .xor (.int .u8 n) = some (.int .u8 ((255 - n : Nat) : Int)) := by
  have key : ∀ m : Fin 256, IntKind.u8.wrap ((BitVec.ofInt 8 255 ^^^ BitVec.ofInt 8 (m.1 : Int)).toNat : Int) = ((255 - m.1 : Nat) : Int) := by decide +kernel
  have := key ⟨n, h⟩
  simp only [unD]
  exact congrArg (fun z => some (D.int .u8 z)) this
@[simp] theorem unD_not {b : Bool} : unD .not (.bool b) = some (.bool !b) := by_rfl rfl
@[simp] theorem unD_neg {k : IntKind} {n : Int} : unD .neg (.int k n) = some (.int k (k.wrap (0 - n))) := by_rfl rfl

def fadrV (n off : Nat) : D → Option D
  | .cref cs => some (.cref (cs.drop off))
  | .ref l i v o => some (.ref l i v (o + off))
  | .own s _ => some (.vr n s off)
  | .vr v s o => some (.vr v s (o + off))
  | _ => none
@[simp] theorem fadrV_cref {n off : Nat} {cs : List D} : fadrV n off (.cref cs) = some (.cref (cs.drop off)) := by_rfl rfl
@[simp] theorem fadrV_ref {n off l i v o : Nat} : fadrV n off (.ref l i v o) = some (.ref l i v (o + off)) := by_rfl rfl
@[simp] theorem fadrV_own {n off s : Nat} {cs : List D} : fadrV n off (.own s cs) = some (.vr n s off) := by_rfl rfl
@[simp] theorem fadrV_vr {n off v s o : Nat} : fadrV n off (.vr v s o) = some (.vr v s (o + off)) := by_rfl rfl

def fldD (ag : Bool) (off sz : Nat) : D → Option D
  | .agg cs =>
    if off + sz ≤ cs.length then
      if ag then some (.agg ((cs.drop off).take sz)) else cs[off]?
    else none
  | _ => none
@[simp] theorem fldD_agg {ag : Bool} {off sz : Nat} {cs : List D} : fldD ag off sz (.agg cs) = if off + sz ≤ cs.length then (if ag then some (.agg ((cs.drop off).take sz)) else cs[off]?) else none := by_rfl rfl

def idxAV (m len w : Nat) (x i : D) : Option D :=
  match intD i with
  | some n =>
    if 0 ≤ n ∧ n < len then
      match x with
      | .cref cs => some (.cref ((cs.drop (n.toNat * w)).take w))
      | .ref l j v off => some (.ref l j v (off + n.toNat * w))
      | .own s _ => some (.vr m s (n.toNat * w))
      | .vr v s o => some (.vr v s (o + n.toNat * w))
      | _ => none
    else none
  | none => none
@[simp] theorem idxAV_cref {m len w : Nat} {cs : List D} {k : IntKind} {n : Int} : idxAV m len w (.cref cs) (.int k n) = if 0 ≤ n ∧ n < len then some (.cref ((cs.drop (n.toNat * w)).take w)) else none := by_rfl rfl
@[simp] theorem idxAV_ref {m len w l j v off : Nat} {k : IntKind} {n : Int} : idxAV m len w (.ref l j v off) (.int k n) = if 0 ≤ n ∧ n < len then some (.ref l j v (off + n.toNat * w)) else none := by_rfl rfl
@[simp] theorem idxAV_own {m len w s : Nat} {cs : List D} {k : IntKind} {n : Int} : idxAV m len w (.own s cs) (.int k n) = if 0 ≤ n ∧ n < len then some (.vr m s (n.toNat * w)) else none := by_rfl rfl
@[simp] theorem idxAV_vr {m len w v s o : Nat} {k : IntKind} {n : Int} : idxAV m len w (.vr v s o) (.int k n) = if 0 ≤ n ∧ n < len then some (.vr v s (o + n.toNat * w)) else none := by_rfl rfl

def idxSV (w : Nat) (x i : D) : Option D :=
  match x, intD i with
  | .lst m cs, some n => if 0 ≤ n ∧ n < m then some (.cref ((cs.drop (n.toNat * w)).take w)) else none
  | .sl l j v off m w', some n => if 0 ≤ n ∧ n < m ∧ w' = w then some (.ref l j v (off + n.toNat * w)) else none
  | _, _ => none
@[simp] theorem idxSV_lst {w m : Nat} {cs : List D} {k : IntKind} {n : Int} : idxSV w (.lst m cs) (.int k n) = if 0 ≤ n ∧ n < m then some (.cref ((cs.drop (n.toNat * w)).take w)) else none := by_rfl rfl
@[simp] theorem idxSV_sl {w l j v off m w' : Nat} {k : IntKind} {n : Int} : idxSV w (.sl l j v off m w') (.int k n) = if 0 ≤ n ∧ n < m ∧ w' = w then some (.ref l j v (off + n.toNat * w)) else none := by_rfl rfl

def idxVD (ag : Bool) (len w : Nat) (x i : D) : Option D :=
  match x, intD i with
  | .agg cs, some n =>
    if 0 ≤ n ∧ n < len ∧ (n.toNat + 1) * w ≤ cs.length then
      if ag then some (.agg ((cs.drop (n.toNat * w)).take w)) else cs[n.toNat * w]?
    else none
  | _, _ => none
@[simp] theorem idxVD_agg {ag : Bool} {len w : Nat} {cs : List D} {k : IntKind} {n : Int} : idxVD ag len w (.agg cs) (.int k n) = if 0 ≤ n ∧ n < len ∧ (n.toNat + 1) * w ≤ cs.length then (if ag then some (.agg ((cs.drop (n.toNat * w)).take w)) else cs[n.toNat * w]?) else none := by_rfl rfl

def mnD (x y : D) : Option D :=
  match x, y with
  | .int k a, .int _ b => some (.int k (min a b))
  | _, _ => none
@[simp] theorem mnD_int {k k' : IntKind} {a b : Int} : mnD (.int k a) (.int k' b) = some (.int k (min a b)) := by_rfl rfl
def mxD (x y : D) : Option D :=
  match x, y with
  | .int k a, .int _ b => some (.int k (max a b))
  | _, _ => none
@[simp] theorem mxD_int {k k' : IntKind} {a b : Int} : mxD (.int k a) (.int k' b) = some (.int k (max a b)) := by_rfl rfl
def extD (x : D) (i : Nat) : Option D :=
  match x with
  | .tup ds => ds[i]?
  | _ => none
@[simp] theorem extD_tup {ds : List D} {i : Nat} : extD (.tup ds) i = ds[i]? := by_rfl rfl
def eqvD (ag : Bool) (ks : List (Option IntKind)) (neg : Bool) (x y : D) : Option D :=
  match x.row ag, y.row ag with
  | some p, some q => (eqK ks p q).map fun b => .bool (if neg then !b else b)
  | _, _ => none
@[simp] theorem eqvD_ag {ks : List (Option IntKind)} {neg : Bool} {p q : List D} : eqvD true ks neg (.agg p) (.agg q) = (eqK ks p q).map fun b => .bool (if neg then !b else b) := by_rfl rfl
@[simp] theorem eqvD_int {ks : List (Option IntKind)} {neg : Bool} {k k' : IntKind} {a b : Int} : eqvD false ks neg (.int k a) (.int k' b) = (eqK ks [.int k a] [.int k' b]).map fun b => .bool (if neg then !b else b) := by_rfl rfl
@[simp] theorem eqvD_bool {ks : List (Option IntKind)} {neg : Bool} {a b : Bool} : eqvD false ks neg (.bool a) (.bool b) = (eqK ks [.bool a] [.bool b]).map fun b => .bool (if neg then !b else b) := by_rfl rfl
@[simp] theorem reqK_nil : eqK [] [] [] = some true := by_rfl rfl
@[simp] theorem reqK_int {k k1 k2 : IntKind} {ks : List (Option IntKind)} {a b : Int} {x y : List D} : eqK (some k :: ks) (.int k1 a :: x) (.int k2 b :: y) = if k1 = k ∧ k2 = k then (eqK ks x y).map (a == b && ·) else none := by_rfl rfl
@[simp] theorem reqK_bool {ks : List (Option IntKind)} {a b : Bool} {x y : List D} : eqK (none :: ks) (.bool a :: x) (.bool b :: y) = (eqK ks x y).map (a == b && ·) := by_rfl rfl

def slcD (w : Nat) (x : D) (e : Env) (lo hi mx : Option Opd) : Option D :=
  match x with
  | .lst n cs => (bounds n e lo hi mx).map fun b => .lst (b.2 - b.1) ((cs.drop (b.1 * w)).take ((b.2 - b.1) * w))
  | .sl l i v off n w' => if w' = w then (bounds n e lo hi mx).map fun b => .sl l i v (off + b.1 * w) (b.2 - b.1) w else none
  | .nils => (bounds 0 e lo hi mx).map fun _ => .nils
  | _ => none
@[simp] theorem slcD_lst {w n : Nat} {cs : List D} {e : Env} {lo hi mx : Option Opd} : slcD w (.lst n cs) e lo hi mx = (bounds n e lo hi mx).map fun b => .lst (b.2 - b.1) ((cs.drop (b.1 * w)).take ((b.2 - b.1) * w)) := by_rfl rfl
@[simp] theorem slcD_sl {w l i v off n w' : Nat} {e : Env} {lo hi mx : Option Opd} : slcD w (.sl l i v off n w') e lo hi mx = if w' = w then (bounds n e lo hi mx).map fun b => .sl l i v (off + b.1 * w) (b.2 - b.1) w else none := by_rfl rfl
@[simp] theorem slcD_nils {w : Nat} {e : Env} {lo hi mx : Option Opd} : slcD w .nils e lo hi mx = (bounds 0 e lo hi mx).map fun _ => .nils := by_rfl rfl

section bins
variable {k : IntKind} {a b : Int}
@[simp] theorem binD_add : binD .add (.int k a) (.int k b) = some (.int k (k.wrap (a + b))) := by simp [binD]
@[simp] theorem binD_sub : binD .sub (.int k a) (.int k b) = some (.int k (k.wrap (a - b))) := by simp [binD]
@[simp] theorem binD_mul : binD .mul (.int k a) (.int k b) = some (.int k (k.wrap (a * b))) := by simp [binD]
@[simp] theorem binD_quo : binD .quo (.int k a) (.int k b) = if b ≠ 0 then some (.int k (k.wrap (a.tdiv b))) else none := by simp [binD]
@[simp] theorem binD_rem : binD .rem (.int k a) (.int k b) = if b ≠ 0 then some (.int k (a.tmod b)) else none := by simp [binD]
@[simp] theorem binD_shl {k' : IntKind} : binD .shl (.int k a) (.int k' b) = if b < 0 then none else some (.int k (k.wrap (a * 2 ^ (min b.toNat k.bits)))) := by_rfl rfl
@[simp] theorem binD_shr {k' : IntKind} : binD .shr (.int k a) (.int k' b) = if b < 0 then none else some (.int k (a.fdiv (2 ^ (min b.toNat k.bits)))) := by_rfl rfl
@[simp] theorem binD_and : binD .and (.int k a) (.int k b) = some (.int k (k.wrap ((BitVec.ofInt k.bits a &&& BitVec.ofInt k.bits b).toNat : Int))) := by simp [binD]
@[simp] theorem binD_or : binD .or (.int k a) (.int k b) = some (.int k (k.wrap ((BitVec.ofInt k.bits a ||| BitVec.ofInt k.bits b).toNat : Int))) := by simp [binD]
@[simp] theorem binD_xor : binD .xor (.int k a) (.int k b) = some (.int k (k.wrap ((BitVec.ofInt k.bits a ^^^ BitVec.ofInt k.bits b).toNat : Int))) := by simp [binD]
@[simp] theorem binD_eql : binD .eql (.int k a) (.int k b) = some (.bool (a == b)) := by simp [binD]
@[simp] theorem binD_neq : binD .neq (.int k a) (.int k b) = some (.bool (a != b)) := by simp [binD]
@[simp] theorem binD_lss : binD .lss (.int k a) (.int k b) = some (.bool (decide (a < b))) := by simp [binD]
@[simp] theorem binD_leq : binD .leq (.int k a) (.int k b) = some (.bool (decide (a ≤ b))) := by simp [binD]
@[simp] theorem binD_gtr : binD .gtr (.int k a) (.int k b) = some (.bool (decide (b < a))) := by simp [binD]
@[simp] theorem binD_geq : binD .geq (.int k a) (.int k b) = some (.bool (decide (b ≤ a))) := by simp [binD]
end bins

@[simp] theorem rstrip_undef : D.strip .undef = .undef := by_rfl rfl
@[simp] theorem rstrip_bool {b : Bool} : D.strip (.bool b) = .bool b := by_rfl rfl
@[simp] theorem rstrip_int {k : IntKind} {n : Int} : D.strip (.int k n) = .int k n := by_rfl rfl
@[simp] theorem rstrip_str {s : List UInt8} : D.strip (.str s) = .str s := by_rfl rfl
@[simp] theorem rstrip_agg {cs : List D} : D.strip (.agg cs) = .agg cs := by_rfl rfl
@[simp] theorem rstrip_tup {cs : List D} : D.strip (.tup cs) = .tup cs := by_rfl rfl
@[simp] theorem rstrip_nilp : D.strip .nilp = .nilp := by_rfl rfl
@[simp] theorem rstrip_ref {l i v o : Nat} : D.strip (.ref l i v o) = .ref l i v o := by_rfl rfl
@[simp] theorem rstrip_cref {cs : List D} : D.strip (.cref cs) = .cref cs := by_rfl rfl
@[simp] theorem rstrip_nils : D.strip .nils = .nils := by_rfl rfl
@[simp] theorem rstrip_lst {n : Nat} {cs : List D} : D.strip (.lst n cs) = .lst n cs := by_rfl rfl
@[simp] theorem rstrip_sl {l i v o n w : Nat} : D.strip (.sl l i v o n w) = .sl l i v o n w := by_rfl rfl
@[simp] theorem rstrip_fn {f : Nat} {a b : List D} : D.strip (.fn f a b) = .fn f a b := by_rfl rfl
@[simp] theorem rstrip_ifc {t : Nat} {d : D} : D.strip (.ifc t d) = .ifc t d := by_rfl rfl
@[simp] theorem rstrip_nili : D.strip .nili = .nili := by_rfl rfl
@[simp] theorem rcalm_ifc {t : Nat} {d : D} : D.calm (.ifc t d) = .ifc t d := by_rfl rfl
@[simp] theorem rcalm_nili : D.calm .nili = .nili := by_rfl rfl
@[simp] theorem rcells_ifc {t : Nat} {d : D} : D.cells (.ifc t d) = some [.ifc t d] := by_rfl rfl
@[simp] theorem rcells_nili : D.cells .nili = some [.nili] := by_rfl rfl
@[simp] theorem rstrip_nilf : D.strip .nilf = .nilf := by_rfl rfl
@[simp] theorem rstrip_yld {l i : Nat} : D.strip (.yld l i) = .yld l i := by_rfl rfl
@[simp] theorem rstrip_own {s : Nat} {cs : List D} : D.strip (.own s cs) = .undef := by_rfl rfl
@[simp] theorem rstrip_emp : D.strip .emp = .undef := by_rfl rfl
@[simp] theorem rcalm_emp : D.calm .emp = .undef := by_rfl rfl
@[simp] theorem rstrip_vr {x s o : Nat} : D.strip (.vr x s o) = .undef := by_rfl rfl
@[simp] theorem rcalm_undef : D.calm .undef = .undef := by_rfl rfl
@[simp] theorem rcalm_bool {b : Bool} : D.calm (.bool b) = .bool b := by_rfl rfl
@[simp] theorem rcalm_int {k : IntKind} {n : Int} : D.calm (.int k n) = .int k n := by_rfl rfl
@[simp] theorem rcalm_str {s : List UInt8} : D.calm (.str s) = .str s := by_rfl rfl
@[simp] theorem rcalm_agg {cs : List D} : D.calm (.agg cs) = .agg cs := by_rfl rfl
@[simp] theorem rcalm_tup {cs : List D} : D.calm (.tup cs) = .tup cs := by_rfl rfl
@[simp] theorem rcalm_nilp : D.calm .nilp = .nilp := by_rfl rfl
@[simp] theorem rcalm_ref {l i v o : Nat} : D.calm (.ref l i v o) = .ref l i v o := by_rfl rfl
@[simp] theorem rcalm_cref {cs : List D} : D.calm (.cref cs) = .cref cs := by_rfl rfl
@[simp] theorem rcalm_nils : D.calm .nils = .nils := by_rfl rfl
@[simp] theorem rcalm_lst {n : Nat} {cs : List D} : D.calm (.lst n cs) = .lst n cs := by_rfl rfl
@[simp] theorem rcalm_sl {l i v o n w : Nat} : D.calm (.sl l i v o n w) = .sl l i v o n w := by_rfl rfl
@[simp] theorem rcalm_fn {f : Nat} {a b : List D} : D.calm (.fn f a b) = .fn f a b := by_rfl rfl
@[simp] theorem rcalm_nilf : D.calm .nilf = .nilf := by_rfl rfl
@[simp] theorem rcalm_yld {l i : Nat} : D.calm (.yld l i) = .yld l i := by_rfl rfl
@[simp] theorem rcalm_own {s : Nat} {cs : List D} : D.calm (.own s cs) = .own 0 cs := by_rfl rfl
@[simp] theorem rcalm_vr {x s o : Nat} : D.calm (.vr x s o) = .undef := by_rfl rfl
@[simp] theorem rcells_bool {b : Bool} : D.cells (.bool b) = some [.bool b] := by_rfl rfl
@[simp] theorem rcells_int {k : IntKind} {n : Int} : D.cells (.int k n) = some [.int k n] := by_rfl rfl
@[simp] theorem rcells_str {s : List UInt8} : D.cells (.str s) = some [.str s] := by_rfl rfl
@[simp] theorem rcells_agg {cs : List D} : D.cells (.agg cs) = some cs := by_rfl rfl
@[simp] theorem rcells_nilp : D.cells .nilp = some [.nilp] := by_rfl rfl
@[simp] theorem rcells_ref {l i v o : Nat} : D.cells (.ref l i v o) = some [.ref l i v o] := by_rfl rfl
@[simp] theorem rcells_cref {cs : List D} : D.cells (.cref cs) = some [.cref cs] := by_rfl rfl
@[simp] theorem rcells_nils : D.cells .nils = some [.nils] := by_rfl rfl
@[simp] theorem rcells_lst {n : Nat} {cs : List D} : D.cells (.lst n cs) = some [.lst n cs] := by_rfl rfl
@[simp] theorem rcells_sl {l i v o n w : Nat} : D.cells (.sl l i v o n w) = some [.sl l i v o n w] := by_rfl rfl
@[simp] theorem rcells_fn {f : Nat} {a b : List D} : D.cells (.fn f a b) = some [.fn f a b] := by_rfl rfl
@[simp] theorem rcells_nilf : D.cells .nilf = some [.nilf] := by_rfl rfl
@[simp] theorem rcells_yld {l i : Nat} : D.cells (.yld l i) = some [.yld l i] := by_rfl rfl
@[simp] theorem intD_int {k : IntKind} {n : Int} : intD (.int k n) = some n := by_rfl rfl

@[simp] theorem callv_fn {O : Oracle} {kp : Bool} {f : Nat} {first cap args : List D} {σ : Stack} : callv O kp (.fn f first cap) args σ = R.vals (O (.call kp f (first ++ args ++ cap) σ)) := by_rfl rfl
@[simp] theorem callv_yld {O : Oracle} {kp : Bool} {l i : Nat} {args : List D} {σ : Stack} : callv O kp (.yld l i) args σ = R.vals (O (.round l i args σ)) := by_rfl rfl
@[simp] theorem vals_val {d : D} {σ : Stack} : R.vals (some (.val d σ)) = some (d, σ) := by_rfl rfl

section ops
variable {d : Option Nat} {n : Bool} {r : List Op} {e : Env} {σ : Stack} {Q : Env → Stack → Prop}

@[simp, simp ↓] theorem WO_mv {x : Opd} : WO O (⟨d, none, n, .mv x⟩ :: r) e σ Q = WO O r (put d (opd e x) e) σ Q := by rw [WO_sop rfl]; simp [sop]
@[simp, simp ↓] theorem WO_nilb {w : Nat} : WO O (⟨d, none, n, .nilb w⟩ :: r) e σ Q = WV (sop e σ (.nilb w)) fun v σ' => WO O r (put d v e) σ' Q := WO_sop rfl
@[simp, simp ↓] theorem WO_alc {nb : List (Nat × Nat)} {cs : List D} : WO O (⟨d, none, n, .alc nb cs⟩ :: r) e σ Q = WV (sop e σ (.alc nb cs)) fun v σ' => WO O r (put d v e) σ' Q := WO_sop rfl
@[simp, simp ↓] theorem WO_pick {c a b : Opd} : WO O (⟨d, none, n, .pick c a b⟩ :: r) e σ Q = WD (boolD (opd e c)) fun t => WO O r (put d (if t then opd e a else opd e b) e) σ Q := by
  rw [WO_sop rfl]
  simp only [sop]
  cases opd e c <;> simp [boolD]
@[simp, simp ↓] theorem WO_boxi {x : Opd} : WO O (⟨d, none, n, .boxi x⟩ :: r) e σ Q = WD (opd e x).cells fun cs => WO O r (put d (.cref cs) e) σ Q := by
  rw [WO_sop rfl]
  simp only [sop]
  cases (opd e x).cells <;> simp
@[simp, simp ↓] theorem WO_boxm {x : Opd} : WO O (⟨d, none, n, .boxm x⟩ :: r) e σ Q = WV (sop e σ (.boxm x)) fun v σ' => WO O r (put d v e) σ' Q := WO_sop rfl
@[simp, simp ↓] theorem WO_bxn {nb : List (Nat × Nat)} {x : Opd} : WO O (⟨d, none, n, .bxn nb x⟩ :: r) e σ Q = WV (sop e σ (.bxn nb x)) fun v σ' => WO O r (put d v e) σ' Q := WO_sop rfl
@[simp, simp ↓] theorem WO_bld {z : List D} {ps : List (Nat × Nat × Opd)} : WO O (⟨d, none, n, .bld z ps⟩ :: r) e σ Q = WD (fillD e ps z) fun cs => WO O r (put d (.agg cs) e) σ Q := by
  rw [WO_sop rfl]
  simp only [sop]
  cases fillD e ps z <;> simp
@[simp, simp ↓] theorem WO_bsi {m w : Nat} {z : List D} {ps : List (Nat × Nat × Opd)} : WO O (⟨d, none, n, .bsi m w z ps⟩ :: r) e σ Q = WD (fillD e ps z) fun cs => WO O r (put d (.lst m cs) e) σ Q := by
  rw [WO_sop rfl]
  simp only [sop]
  cases fillD e ps z <;> simp
@[simp, simp ↓] theorem WO_bsm {m w : Nat} {z : List D} {ps : List (Nat × Nat × Opd)} : WO O (⟨d, none, n, .bsm m w z ps⟩ :: r) e σ Q = WV (sop e σ (.bsm m w z ps)) fun v σ' => WO O r (put d v e) σ' Q := WO_sop rfl
@[simp, simp ↓] theorem WO_ld {ag : Bool} {sz : Nat} {a : Opd} : WO O (⟨d, none, n, .ld ag sz a⟩ :: r) e σ Q = WD (ldD ag sz (rdD σ (opd e a))) fun v => WO O r (put d v e) σ Q := by
  rw [WO_sop rfl]
  refine WV_of_D ?_
  simp only [sop]
  cases rdD σ (opd e a) with
  | none => rfl
  | some cs =>
    simp only [ldD]
    split
    · cases ag
      · cases cs <;> rfl
      · rfl
    · rfl
theorem rd0_ref {σ : Stack} {l i off : Nat} : rd0 σ (.ref l i 0 off) = rdD σ (.ref l i 0 off) := rfl
@[simp, simp ↓] theorem WO_ld0 {ag : Bool} {sz : Nat} {a : Opd} : WO O (⟨d, none, n, .ld0 ag sz a⟩ :: r) e σ Q = WD (ldD ag sz (rd0 σ (opd e a))) fun v => WO O r (put d v e) σ Q := by
  rw [WO_sop rfl]
  refine WV_of_D ?_
  simp only [sop]
  cases rd0 σ (opd e a) with
  | none => rfl
  | some cs =>
    simp only [ldD]
    split
    · cases ag
      · cases cs <;> rfl
      · rfl
    · rfl
@[simp, simp ↓] theorem WO_ldi {ag : Bool} {sz : Nat} {a : Opd} : WO O (⟨d, none, n, .ldi ag sz a⟩ :: r) e σ Q = WD (ldD ag sz (crefD (opd e a))) fun v => WO O r (put d v e) σ Q := by
  rw [WO_sop rfl]
  refine WV_of_D ?_
  simp only [sop]
  cases opd e a with
  | cref cs =>
    simp only [crefD, ldD]
    split
    · cases ag
      · cases cs <;> rfl
      · rfl
    · rfl
  | _ => rfl
@[simp, simp ↓] theorem WO_isn {ps neg : Bool} {x : Opd} : WO O (⟨d, none, n, .isn ps neg x⟩ :: r) e σ Q = WD (isnD ps (opd e x)) fun b => WO O r (put d (.bool (if neg then !b else b)) e) σ Q := by
  rw [WO_sop rfl]
  simp only [sop]
  cases isnD ps (opd e x) <;> simp
@[simp, simp ↓] theorem WO_nck {x : Opd} : WO O (⟨d, none, n, .nck x⟩ :: r) e σ Q = WD (nckD (opd e x)) fun v => WO O r (put d v e) σ Q := by
  rw [WO_sop rfl]
  refine WV_of_D ?_
  simp only [sop]
  cases opd e x <;> rfl
@[simp, simp ↓] theorem WO_st {nb : List (Nat × Nat)} {sz : Nat} {a x : Opd} : WO O (⟨d, none, n, .st nb sz a x⟩ :: r) e σ Q = WV (sop e σ (.st nb sz a x)) fun v σ' => WO O r (put d v e) σ' Q := WO_sop rfl
@[simp, simp ↓] theorem WO_stc {os : List Nat} {sz : Nat} {a x : Opd} : WO O (⟨d, none, n, .stc os sz a x⟩ :: r) e σ Q = WV (sop e σ (.stc os sz a x)) fun v σ' => WO O r (put d v e) σ' Q := WO_sop rfl
@[simp] theorem off_ref {l i l' i' v o : Nat} : D.off l i (.ref l' i' v o) = decide (¬ (l' = l ∧ i' = i)) := by rw [D.off]
@[simp, simp ↓] theorem WO_ldv {v : Nat} {ag : Bool} {sz a : Nat} : WO O (⟨d, none, n, .ldv v ag sz a⟩ :: r) e σ Q = WD (ldvD e v ag sz a) fun v => WO O r (put d v e) σ Q := by
  rw [WO_sop rfl]
  refine WV_of_D ?_
  simp only [sop, ldvD]
  cases inVar e v a with
  | none => rfl
  | some x =>
    obtain ⟨s, cs, off⟩ := x
    simp only [ldD, Option.map_some]
    split
    · cases ag
      · cases cs.drop off <;> rfl
      · rfl
    · rfl
@[simp, simp ↓] theorem WO_bin {o : BinOp} {x y : Opd} : WO O (⟨d, none, n, .bin o x y⟩ :: r) e σ Q = WD (binD o (opd e x) (opd e y)) fun v => WO O r (put d v e) σ Q := by
  rw [WO_sop rfl]
  simp only [sop]
  cases binD o (opd e x) (opd e y) <;> simp
@[simp, simp ↓] theorem WO_eqv {ag : Bool} {ks : List (Option IntKind)} {neg : Bool} {x y : Opd} : WO O (⟨d, none, n, .eqv ag ks neg x y⟩ :: r) e σ Q = WD (eqvD ag ks neg (opd e x) (opd e y)) fun v => WO O r (put d v e) σ Q := by
  rw [WO_sop rfl]
  refine WV_of_D ?_
  simp only [sop, eqvD]
  cases (opd e x).row ag <;> cases (opd e y).row ag <;> simp [Option.map_map, Function.comp_def]
@[simp, simp ↓] theorem WO_un {o : UnOp} {x : Opd} : WO O (⟨d, none, n, .un o x⟩ :: r) e σ Q = WD (unD o (opd e x)) fun v => WO O r (put d v e) σ Q := by
  rw [WO_sop rfl]
  refine WV_of_D ?_
  simp only [sop]
  cases o <;> cases opd e x <;> rfl
@[simp, simp ↓] theorem WO_cvt {k : IntKind} {x : Opd} : WO O (⟨d, none, n, .cvt k x⟩ :: r) e σ Q = WD (cvtD k (opd e x)) fun v => WO O r (put d v e) σ Q := by
  rw [WO_sop rfl]
  simp only [sop]
  cases opd e x <;> simp [cvtD]
@[simp, simp ↓] theorem WO_pur {p : Pu} {xs : List Opd} : WO O (⟨d, none, n, .pur p xs⟩ :: r) e σ Q = WD (puD p (xs.map (opd e))) fun v => WO O r (put d v e) σ Q := by
  rw [WO_sop rfl]
  simp only [sop]
  cases puD p (xs.map (opd e)) <;> simp
@[simp, simp ↓] theorem WO_me {p : Me} {xs : List Opd} : WO O (⟨d, none, n, .me p xs⟩ :: r) e σ Q = WV (meD σ p (xs.map (opd e))) fun v σ' => WO O r (put d v e) σ' Q := WO_sop rfl
@[simp, simp ↓] theorem WO_mp {p : Mo} {xs : List Opd} : WO O (⟨d, none, n, .mp p xs⟩ :: r) e σ Q = WV (mpD σ p (xs.map (opd e))) fun v σ' => WO O r (put d v e) σ' Q := WO_sop rfl
@[simp, simp ↓] theorem WO_mki {t : Nat} {x : Opd} : WO O (⟨d, none, n, .mki t x⟩ :: r) e σ Q = WO O r (put d (.ifc t (opd e x)) e) σ Q := by rw [WO_sop rfl]; simp [sop]
@[simp, simp ↓] theorem WO_tas {t : Nat} {z : Option D} {x : Opd} : WO O (⟨d, none, n, .tas t z x⟩ :: r) e σ Q = WD (tasD t z (opd e x)) fun v => WO O r (put d v e) σ Q := by
  rw [WO_sop rfl]
  simp only [sop]
  cases tasD t z (opd e x) <;> simp
@[simp, simp ↓] theorem WO_isi {neg : Bool} {x : Opd} : WO O (⟨d, none, n, .isi neg x⟩ :: r) e σ Q = WD (isiD (opd e x)) fun b => WO O r (put d (.bool (if neg then !b else b)) e) σ Q := by
  rw [WO_sop rfl]
  simp only [sop]
  cases isiD (opd e x) <;> simp
@[simp] theorem isiD_nili : isiD .nili = some true := by_rfl rfl
@[simp] theorem isiD_ifc {t : Nat} {d : D} : isiD (.ifc t d) = some false := by_rfl rfl
@[simp] theorem tasD_nili {t : Nat} {z : D} : tasD t (some z) .nili = some (.tup [z, .bool false]) := by_rfl rfl
@[simp] theorem tasD_ifc {t t' : Nat} {z d : D} : tasD t (some z) (.ifc t' d) = some (if t' = t then .tup [d, .bool true] else .tup [z, .bool false]) := by_rfl rfl
@[simp] theorem tasD_one {t t' : Nat} {d : D} : tasD t none (.ifc t' d) = if t' = t then some d else none := by_rfl rfl
@[simp, simp ↓] theorem WO_mkf {f : Nat} {xs ys : List Opd} : WO O (⟨d, none, n, .mkf f xs ys⟩ :: r) e σ Q = WO O r (put d (.fn f (xs.map (opd e)) (ys.map (opd e))) e) σ Q := by rw [WO_sop rfl]; simp [sop]
@[simp, simp ↓] theorem WO_mks {w b : Nat} {z : List D} {l c : Opd} : WO O (⟨d, none, n, .mks w b z l c⟩ :: r) e σ Q = WV (sop e σ (.mks w b z l c)) fun v σ' => WO O r (put d v e) σ' Q := WO_sop rfl
@[simp, simp ↓] theorem WO_slc {w : Nat} {x : Opd} {lo hi mx : Option Opd} : WO O (⟨d, none, n, .slc w x lo hi mx⟩ :: r) e σ Q = WD (slcD w (opd e x) e lo hi mx) fun v => WO O r (put d v e) σ Q := by
  rw [WO_sop rfl]
  refine WV_of_D ?_
  simp only [sop, slcD]
  cases opd e x <;> first | rfl | (simp only []; split <;> simp [Option.map_map, Function.comp_def]) | simp [Option.map_map, Function.comp_def]
@[simp, simp ↓] theorem WO_slca {l w : Nat} {x : Opd} {lo hi : Option Opd} : WO O (⟨d, none, n, .slca l w x lo hi⟩ :: r) e σ Q = WV (sop e σ (.slca l w x lo hi)) fun v σ' => WO O r (put d v e) σ' Q := WO_sop rfl
@[simp, simp ↓] theorem WO_fadr {off m : Nat} : WO O (⟨d, none, n, .fadr off (.t m)⟩ :: r) e σ Q = WD (fadrV m off (get e m)) fun v => WO O r (put d v e) σ Q := by
  rw [WO_sop rfl]
  refine WV_of_D ?_
  simp only [sop]
  cases get e m <;> rfl
@[simp, simp ↓] theorem WO_fld {ag : Bool} {off sz : Nat} {x : Opd} : WO O (⟨d, none, n, .fld ag off sz x⟩ :: r) e σ Q = WD (fldD ag off sz (opd e x)) fun v => WO O r (put d v e) σ Q := by
  rw [WO_sop rfl]
  refine WV_of_D ?_
  simp only [sop]
  cases opd e x <;> first | rfl | (simp only [fldD]; split <;> cases ag <;> simp)
@[simp, simp ↓] theorem WO_idxA {l w m : Nat} {i : Opd} : WO O (⟨d, none, n, .idxA l w (.t m) i⟩ :: r) e σ Q = WD (idxAV m l w (get e m) (opd e i)) fun v => WO O r (put d v e) σ Q := by
  rw [WO_sop rfl]
  refine WV_of_D ?_
  simp only [sop, idxAV]
  cases intD (opd e i) with
  | none => rfl
  | some k => simp only []; split <;> cases get e m <;> rfl
@[simp, simp ↓] theorem WO_idxS {w : Nat} {x i : Opd} : WO O (⟨d, none, n, .idxS w x i⟩ :: r) e σ Q = WD (idxSV w (opd e x) (opd e i)) fun v => WO O r (put d v e) σ Q := by
  rw [WO_sop rfl]
  refine WV_of_D ?_
  simp only [sop, idxSV]
  cases intD (opd e i) with
  | none => cases opd e x <;> rfl
  | some k => cases opd e x <;> first | rfl | (simp only []; split <;> rfl)
@[simp, simp ↓] theorem WO_idxV {ag : Bool} {l w : Nat} {x i : Opd} : WO O (⟨d, none, n, .idxV ag l w x i⟩ :: r) e σ Q = WD (idxVD ag l w (opd e x) (opd e i)) fun v => WO O r (put d v e) σ Q := by
  rw [WO_sop rfl]
  refine WV_of_D ?_
  simp only [sop, idxVD]
  cases intD (opd e i) with
  | none => cases opd e x <;> rfl
  | some k => cases opd e x <;> first | rfl | (simp only []; split <;> cases ag <;> simp)
@[simp, simp ↓] theorem WO_lenS {x : Opd} : WO O (⟨d, none, n, .lenS x⟩ :: r) e σ Q = WD (lenD (opd e x)) fun v => WO O r (put d v e) σ Q := by
  rw [WO_sop rfl]
  refine WV_of_D ?_
  simp only [sop]
  cases opd e x <;> rfl
@[simp, simp ↓] theorem WO_lenC {m : Nat} : WO O (⟨d, none, n, .lenC m⟩ :: r) e σ Q = WO O r (put d (.int .i64 m) e) σ Q := by rw [WO_sop rfl]; simp [sop]
@[simp, simp ↓] theorem WO_mn {x y : Opd} : WO O (⟨d, none, n, .mn x y⟩ :: r) e σ Q = WD (mnD (opd e x) (opd e y)) fun v => WO O r (put d v e) σ Q := by
  rw [WO_sop rfl]
  refine WV_of_D ?_
  simp only [sop]
  cases opd e x <;> cases opd e y <;> rfl
@[simp, simp ↓] theorem WO_mx {x y : Opd} : WO O (⟨d, none, n, .mx x y⟩ :: r) e σ Q = WD (mxD (opd e x) (opd e y)) fun v => WO O r (put d v e) σ Q := by
  rw [WO_sop rfl]
  refine WV_of_D ?_
  simp only [sop]
  cases opd e x <;> cases opd e y <;> rfl
@[simp, simp ↓] theorem WO_cvz {x : Opd} : WO O (⟨d, none, n, .cvz x⟩ :: r) e σ Q = WV (sop e σ (.cvz x)) fun v σ' => WO O r (put d v e) σ' Q := WO_sop rfl
@[simp, simp ↓] theorem WO_apz {w b : Nat} {s x : Opd} : WO O (⟨d, none, n, .apz w b s x⟩ :: r) e σ Q = WV (sop e σ (.apz w b s x)) fun v σ' => WO O r (put d v e) σ' Q := WO_sop rfl
@[simp, simp ↓] theorem WO_apc {os : List Nat} {w b : Nat} {s x : Opd} : WO O (⟨d, none, n, .apc os w b s x⟩ :: r) e σ Q = WV (sop e σ (.apc os w b s x)) fun v σ' => WO O r (put d v e) σ' Q := WO_sop rfl
@[simp, simp ↓] theorem WO_app {w b : Nat} {s x : Opd} : WO O (⟨d, none, n, .app w b s x⟩ :: r) e σ Q = WV (sop e σ (.app w b s x)) fun v σ' => WO O r (put d v e) σ' Q := WO_sop rfl
@[simp, simp ↓] theorem WO_bse : WO O (⟨d, none, n, .bse⟩ :: r) e σ Q = WV (sop e σ .bse) fun v σ' => WO O r (put d v e) σ' Q := WO_sop rfl
@[simp, simp ↓] theorem WO_ape {w b v : Nat} {x : Opd} : WO O (⟨d, none, n, .ape w b v x⟩ :: r) e σ Q = WV (sop e σ (.ape w b v x)) fun v σ' => WO O r (put d v e) σ' Q := WO_sop rfl
@[simp, simp ↓] theorem WO_cpi {w b : Nat} {x : Opd} : WO O (⟨d, none, n, .cpi w b x⟩ :: r) e σ Q = WV (sop e σ (.cpi w b x)) fun v σ' => WO O r (put d v e) σ' Q := WO_sop rfl
@[simp, simp ↓] theorem WO_ext {x : Opd} {i : Nat} : WO O (⟨d, none, n, .ext x i⟩ :: r) e σ Q = WD (extD (opd e x) i) fun v => WO O r (put d v e) σ Q := by
  rw [WO_sop rfl]
  refine WV_of_D ?_
  simp only [sop]
  cases opd e x <;> rfl

@[simp, simp ↓] theorem WO_call {kp : Bool} {f : Opd} {args : List Opd} : WO O (⟨d, none, n, .call kp f args⟩ :: r) e σ Q =
    WV (callv O kp (opd e f) (args.map (opd e)) σ) fun v σ' => (n = true → σ' = σ) ∧ WO O r (put d v e) σ' Q := by
  simp only [WO, aops, aop, WV, eq_iff_iff]
  cases hc : callv O kp (opd e f) (args.map (opd e)) σ with
  | none => simp
  | some y =>
    obtain ⟨v, σ1⟩ := y
    by_cases hn : n = true → σ1 = σ
    · simp only [if_pos hn, Option.bind_some, Option.some.injEq, Prod.mk.injEq]
      exact ⟨fun h => ⟨v, σ1, ⟨rfl, rfl⟩, hn, h⟩, fun ⟨_, _, ⟨h1, h2⟩, _, h⟩ => by subst h1 h2; exact h⟩
    · simp only [if_neg hn, Option.bind_none, reduceCtorEq, false_and, exists_false, Option.some.injEq, Prod.mk.injEq, false_iff]
      rintro ⟨_, _, ⟨h1, h2⟩, h, _⟩
      subst h1 h2
      exact hn h

@[simp, simp ↓] theorem WO_alcv {nb : List (Nat × Nat)} {cs : List D} : WO O (⟨d, none, n, .alcv nb cs⟩ :: r) e σ Q = WD d fun v => WD (nilbs nb cs σ) fun y => WO O r ((v, .own (stamp e v) y.1) :: e) y.2 Q := by
  cases d with
  | none => simp [WO, aops, aop]
  | some v => cases h : nilbs nb cs σ with
    | none => simp [WO, aops, aop, h]
    | some y => obtain ⟨a, b⟩ := y; simp only [WO, aops, aop, h, Option.bind_some, WD_some]
@[simp, simp ↓] theorem WO_boxv {x : Opd} : WO O (⟨d, none, n, .boxv x⟩ :: r) e σ Q = WD d fun v => WD (opd e x).cells fun cs => WO O r ((v, .own (stamp e v) cs) :: e) σ Q := by
  cases d with
  | none => simp [WO, aops, aop]
  | some v => cases h : (opd e x).cells with
    | none => simp [WO, aops, aop, h]
    | some y => simp only [WO, aops, aop, h, Option.bind_some, WD_some]

def stvD (e : Env) (σ : Stack) (v : Nat) (nb : List (Nat × Nat)) (sz a : Nat) (x : Opd) : Option (D × Stack) :=
  match inVar e v a, (opd e x).cells with
  | some (s, cs, off), some p =>
    if p.length = sz ∧ off + sz ≤ cs.length then
      match nilbs nb p σ with
      | some (p', σ') => some (.own s (cs.take off ++ p' ++ cs.drop (off + sz)), σ')
      | none => none
    else none
  | _, _ => none

@[simp, simp ↓] theorem WO_stv {v : Nat} {nb : List (Nat × Nat)} {sz a : Nat} {x : Opd} : WO O (⟨d, none, n, .stv v nb sz a x⟩ :: r) e σ Q =
    WV (stvD e σ v nb sz a x) fun y σ' => WO O r ((v, y) :: e) σ' Q := by
  simp only [WO, aops, aop, stvD]
  cases h1 : inVar e v a with
  | none => simp
  | some p =>
    obtain ⟨s, cs, off⟩ := p
    cases h2 : (opd e x).cells with
    | none => simp
    | some p =>
      dsimp only
      split
      · cases h3 : nilbs nb p σ with
        | none => simp
        | some y => obtain ⟨a, b⟩ := y; simp [WO]
      · simp
end ops

section code
variable {e : Env} {σ : Stack} {Q : Exit → Env → Stack → Prop}
@[simp, simp ↓] theorem WC_nop : WC O .nop e σ Q = Q .normal e σ := by
  simp only [WC, acode, Option.some.injEq, Prod.mk.injEq, eq_iff_iff]
  exact ⟨fun ⟨_, _, _, ⟨h1, h2, h3⟩, h⟩ => by subst h1 h2 h3; exact h, fun h => ⟨_, _, _, ⟨rfl, rfl, rfl⟩, h⟩⟩
@[simp, simp ↓] theorem WC_frz {vs : List Nat} : WC O (.frz vs) e σ Q = Q .normal (frzs vs e σ).1 (frzs vs e σ).2 := by
  simp only [WC, acode, Option.some.injEq, Prod.mk.injEq, eq_iff_iff]
  exact ⟨fun ⟨_, _, _, ⟨h1, h2, h3⟩, h⟩ => by subst h1 h2 h3; exact h, fun h => ⟨_, _, _, ⟨rfl, rfl, rfl⟩, h⟩⟩
@[simp, simp ↓] theorem WC_exit {i : Nat} : WC O (.exit i) e σ Q = Q (.exit i) e σ := by
  simp only [WC, acode, Option.some.injEq, Prod.mk.injEq, eq_iff_iff]
  exact ⟨fun ⟨_, _, _, ⟨h1, h2, h3⟩, h⟩ => by subst h1 h2 h3; exact h, fun h => ⟨_, _, _, ⟨rfl, rfl, rfl⟩, h⟩⟩
@[simp, simp ↓] theorem WC_ret : WC O .ret e σ Q = Q .ret e σ := by
  simp only [WC, acode, Option.some.injEq, Prod.mk.injEq, eq_iff_iff]
  exact ⟨fun ⟨_, _, _, ⟨h1, h2, h3⟩, h⟩ => by subst h1 h2 h3; exact h, fun h => ⟨_, _, _, ⟨rfl, rfl, rfl⟩, h⟩⟩
@[simp, simp ↓] theorem WC_reg {live : List Nat} {ops : List Op} : WC O (.reg live ops) e σ Q = WO O ops e σ fun e' σ' => Q .normal (restrict live e') σ' := by
  simp only [WC, acode, WO, Option.map_eq_some_iff, Prod.mk.injEq, eq_iff_iff]
  constructor
  · rintro ⟨x, e', σ', ⟨⟨e1, σ1⟩, h1, rfl, rfl, rfl⟩, h⟩
    exact ⟨e1, σ1, h1, h⟩
  · rintro ⟨e', σ', h1, h⟩
    exact ⟨_, _, _, ⟨⟨e', σ'⟩, h1, rfl, rfl, rfl⟩, h⟩

def thenC (O : Oracle) (b : Cmd) (Q : Exit → Env → Stack → Prop) (_m : Mark b := .mk) (_m' : Mark Q := .mk) : Exit → Env → Stack → Prop
  | .normal, e, σ => WC O b e σ Q
  | .exit i, e, σ => Q (.exit i) e σ
  | .ret, e, σ => Q .ret e σ
  | .thr d, e, σ => Q (.thr d) e σ
@[simp, simp ↓] theorem thenC_thr {b : Cmd} {d : D} : thenC O b Q .mk .mk (.thr d) e σ = Q (.thr d) e σ := by_rfl rfl
@[simp, simp ↓] theorem thenC_normal {b : Cmd} : thenC O b Q .mk .mk .normal e σ = WC O b e σ Q := by_rfl rfl
@[simp, simp ↓] theorem thenC_exit {b : Cmd} {i : Nat} : thenC O b Q .mk .mk (.exit i) e σ = Q (.exit i) e σ := by_rfl rfl
@[simp, simp ↓] theorem thenC_ret {b : Cmd} : thenC O b Q .mk .mk .ret e σ = Q .ret e σ := by_rfl rfl

@[simp, simp ↓] theorem WC_seq {a b : Cmd} : WC O (.seq a b) e σ Q = WC O a e σ (thenC O b Q .mk .mk) := by
  simp only [WC, acode, Option.bind_eq_some_iff, eq_iff_iff]
  constructor
  · rintro ⟨x, e', σ', ⟨⟨x1, e1, σ1⟩, h1, h2⟩, h⟩
    refine ⟨x1, e1, σ1, h1, ?_⟩
    cases x1 with
    | normal => exact ⟨x, e', σ', h2, h⟩
    | exit i => cases h2; exact h
    | ret => cases h2; exact h
    | thr d => cases h2; exact h
  · rintro ⟨x1, e1, σ1, h1, h⟩
    cases x1 with
    | normal => obtain ⟨x, e', σ', h2, h3⟩ := h; exact ⟨x, e', σ', ⟨_, h1, h2⟩, h3⟩
    | exit i => exact ⟨_, _, _, ⟨_, h1, rfl⟩, h⟩
    | ret => exact ⟨_, _, _, ⟨_, h1, rfl⟩, h⟩
    | thr d => exact ⟨_, _, _, ⟨_, h1, rfl⟩, h⟩
@[simp, simp ↓] theorem WC_ite {c : Opd} {a b : Cmd} : WC O (.ite c a b) e σ Q = WD (boolD (opd e c)) fun t => if t = true then WC O a e σ Q else WC O b e σ Q := by
  simp only [WC, acode]
  cases opd e c <;> simp [boolD]
  rename_i t
  cases t <;> simp

def outC (id : Nat) (Q : Exit → Env → Stack → Prop) (_m : Mark Q := .mk) : Exit → Env → Stack → Prop
  | .normal, e, σ => Q .normal e σ
  | .exit i, e, σ => if i = id then Q .normal e σ else Q (.exit i) e σ
  | .ret, e, σ => Q .ret e σ
  | .thr d, e, σ => Q (.thr d) e σ
@[simp, simp ↓] theorem outC_thr {id : Nat} {d : D} : outC id Q .mk (.thr d) e σ = Q (.thr d) e σ := by_rfl rfl
@[simp, simp ↓] theorem outC_normal {id : Nat} : outC id Q .mk .normal e σ = Q .normal e σ := by_rfl rfl
@[simp, simp ↓] theorem outC_exit {id i : Nat} : outC id Q .mk (.exit i) e σ = if i = id then Q .normal e σ else Q (.exit i) e σ := by_rfl rfl
@[simp, simp ↓] theorem outC_ret {id : Nat} : outC id Q .mk .ret e σ = Q .ret e σ := by_rfl rfl

@[simp, simp ↓] theorem WC_blk {id : Nat} {a : Cmd} : WC O (.blk id a) e σ Q = WC O a e σ (outC id Q .mk) := by
  simp only [WC, acode, Option.map_eq_some_iff, eq_iff_iff]
  constructor
  · rintro ⟨x, e', σ', ⟨⟨x1, e1, σ1⟩, h1, h2⟩, h⟩
    refine ⟨x1, e1, σ1, h1, ?_⟩
    cases x1 with
    | normal => cases h2; exact h
    | exit i =>
      simp only [outC]
      dsimp only at h2
      split at h2 <;> cases h2
      · rw [if_pos (by assumption)]; exact h
      · rw [if_neg (by assumption)]; exact h
    | ret => cases h2; exact h
    | thr d => cases h2; exact h
  · rintro ⟨x1, e1, σ1, h1, h⟩
    cases x1 with
    | normal => exact ⟨_, _, _, ⟨_, h1, rfl⟩, h⟩
    | exit i =>
      simp only [outC] at h
      split at h
      · exact ⟨_, _, _, ⟨_, h1, by dsimp only; rw [if_pos (by assumption)]⟩, h⟩
      · exact ⟨_, _, _, ⟨_, h1, by dsimp only; rw [if_neg (by assumption)]⟩, h⟩
    | ret => exact ⟨_, _, _, ⟨_, h1, rfl⟩, h⟩
    | thr d => exact ⟨_, _, _, ⟨_, h1, rfl⟩, h⟩

theorem calm_calm (d : D) : d.calm.calm = d.calm := by cases d <;> rfl

theorem rget_restrict {live : List Nat} {e : Env} {t : Nat} : get (restrict live e) t = if t ∈ live then (get e t).calm else .undef := by
  induction live with
  | nil => simp [restrict, get]
  | cons a l ih =>
    simp only [restrict, List.map_cons, get, List.mem_cons]
    by_cases h : a = t
    · subst h; simp
    · have h' : ¬ t = a := fun x => h x.symm
      simp only [if_neg h, h', false_or]
      exact ih

theorem restrict_restrict {live : List Nat} {e : Env} : restrict live (restrict live e) = restrict live e := by
  simp only [restrict, List.map_inj_left, Prod.mk.injEq, true_and]
  intro t ht
  have := rget_restrict (live := live) (e := e) (t := t)
  simp only [restrict] at this
  rw [this, if_pos ht, calm_calm]

theorem stepQ_loop_restrict {live : List Nat} {seg : Bool} {c : Cmd} : stepQ T O (.loop live seg c (restrict live e) σ) = stepQ T O (.loop live seg c e σ) := by
  simp only [stepQ, restrict_restrict]

theorem lim_loop_restrict {live : List Nat} {seg : Bool} {c : Cmd} {r : R} (h : lim T (.loop live seg c (restrict live e) σ) = some r) : lim T (.loop live seg c e σ) = some r := by
  obtain ⟨n, h⟩ := lim_iff.1 h
  cases n with
  | zero => cases h
  | succ n =>
    rw [it, stepQ_loop_restrict] at h
    exact lim_iff.2 ⟨n + 1, h⟩

theorem lim_loop_restrict' {live : List Nat} {seg : Bool} {c : Cmd} {r : R} (h : lim T (.loop live seg c e σ) = some r) : lim T (.loop live seg c (restrict live e) σ) = some r := by
  obtain ⟨n, h⟩ := lim_iff.1 h
  cases n with
  | zero => cases h
  | succ n =>
    rw [it, ← stepQ_loop_restrict] at h
    exact lim_iff.2 ⟨n + 1, h⟩

theorem ctls_some' {r : Option R} {x : Exit} {e : Env} {σ : Stack} (h : R.ctls r = some (x, e, σ)) : r = some (.ctl x e σ) := by
  unfold R.ctls at h
  split at h
  · cases h; rfl
  · cases h

@[simp, simp ↓] theorem WC_loop {live : List Nat} {seg : Bool} {c : Cmd} : WC (lim T) (.loop live seg c) e σ Q = WL T live seg c (restrict live e) σ Q := by
  simp only [WC, acode, WL, eq_iff_iff]
  constructor
  · rintro ⟨x, e', σ', h1, h⟩
    cases hl : lim T (.loop live seg c e σ) with
    | none => rw [hl] at h1; cases h1
    | some r =>
      rw [hl] at h1
      cases r <;> cases h1
      exact ⟨_, _, _, lim_loop_restrict' hl, h⟩
  · rintro ⟨x, e', σ', h1, h⟩
    exact ⟨x, e', σ', by rw [lim_loop_restrict h1]; rfl, h⟩

def nextL (T : Tbl) (live : List Nat) (c : Cmd) (Q : Exit → Env → Stack → Prop) (_m : Mark c := .mk) (_m' : Mark Q := .mk) : Exit → Env → Stack → Prop
  | .normal, e, σ => WL T live false c (restrict live e) σ Q
  | .exit i, e, σ => Q (.exit i) e σ
  | .ret, e, σ => Q .ret e σ
  | .thr d, e, σ => Q (.thr d) e σ
@[simp, simp ↓] theorem nextL_thr {live : List Nat} {c : Cmd} {d : D} : nextL T live c Q .mk .mk (.thr d) e σ = Q (.thr d) e σ := by_rfl rfl
@[simp, simp ↓] theorem nextL_normal {live : List Nat} {c : Cmd} : nextL T live c Q .mk .mk .normal e σ = WL T live false c (restrict live e) σ Q := by_rfl rfl
@[simp, simp ↓] theorem nextL_exit {live : List Nat} {c : Cmd} {i : Nat} : nextL T live c Q .mk .mk (.exit i) e σ = Q (.exit i) e σ := by_rfl rfl
@[simp, simp ↓] theorem nextL_ret {live : List Nat} {c : Cmd} : nextL T live c Q .mk .mk .ret e σ = Q .ret e σ := by_rfl rfl

theorem WL_step {live : List Nat} {c c' : Cmd} (hc : c = c') (h : WC (lim T) c' (restrict live e) σ (nextL T live c Q .mk .mk)) : WL T live false c e σ Q := by
  rw [← hc] at h
  obtain ⟨x, e1, σ1, h1, h2⟩ := h
  cases x with
  | normal =>
    obtain ⟨x, e', σ', h3, h4⟩ := h2
    exact ⟨x, e', σ', lim_step (by simp [stepQ, h1, lim_loop_restrict h3]), h4⟩
  | exit i => exact ⟨_, _, _, lim_step (by simp [stepQ, h1]), h2⟩
  | ret => exact ⟨_, _, _, lim_step (by simp [stepQ, h1]), h2⟩
  | thr d => exact ⟨_, _, _, lim_step (by simp [stepQ, h1]), h2⟩

def endC (σ : Stack) (res : List Res) (d : D) (x : Exit) (e : Env) (σ1 : Stack) : Prop :=
  (∀ i, x ≠ .exit i) ∧ (∀ d, x ≠ .thr d) ∧ ∃ ds, resL e σ1 res = some ds ∧ ∃ s, frz (σ.length - 1) deep (mkRes ds) σ1 = (d, s :: σ)
@[simp, simp ↓] theorem endC_normal {σ1 : Stack} {res : List Res} {d : D} : endC σ res d .normal e σ1 = ∃ ds, resL e σ1 res = some ds ∧ ∃ s, frz (σ.length - 1) deep (mkRes ds) σ1 = (d, s :: σ) := by simp [endC]
@[simp, simp ↓] theorem endC_ret {σ1 : Stack} {res : List Res} {d : D} : endC σ res d .ret e σ1 = ∃ ds, resL e σ1 res = some ds ∧ ∃ s, frz (σ.length - 1) deep (mkRes ds) σ1 = (d, s :: σ) := by simp [endC]

theorem call_of {f : Nat} {fn : Fn} {args : List D} {σ : Stack} {d : D} {np : Nat} {res : List Res} {body : Cmd} (hT : T f = some fn) (hf : fn = ⟨np, res, body⟩) (hl : args.length = np)
    (h : WC (lim T) body (mkEnv 0 args) ([] :: σ) (endC σ res d)) :
    lim T (.call false f args σ) = some (.val d σ) := by
  subst hf
  obtain ⟨x, e1, σ1, h1, h2, h2', ds, h3, s, h4⟩ := h
  refine lim_step ?_
  simp only [stepQ, hT, if_pos hl, Bool.false_eq_true, if_false, h1]
  cases x with
  | exit i => exact absurd rfl (h2 i)
  | thr d => exact absurd rfl (h2' d)
  | normal => simp [h3, h4]
  | ret => simp [h3, h4]

def endT (σ : Stack) (d : D) (x : Exit) (e : Env) (σ1 : Stack) : Prop := x = .thr d ∧ d.clean = true ∧ ∃ s, σ1 = s :: σ
@[simp, simp ↓] theorem endT_thr {σ1 : Stack} {d d' : D} : endT σ d (.thr d') e σ1 = (d' = d ∧ d.clean = true ∧ ∃ s, σ1 = s :: σ) := by simp [endT]
theorem throws_of {f : Nat} {fn : Fn} {args : List D} {σ : Stack} {d : D} {np : Nat} {res : List Res} {body : Cmd} (hT : T f = some fn) (hf : fn = ⟨np, res, body⟩) (hl : args.length = np)
    (h : WC (lim T) body (mkEnv 0 args) ([] :: σ) (endT σ d)) :
    lim T (.call false f args σ) = some (.thr d σ) := by
  subst hf
  obtain ⟨x, e1, σ1, h1, rfl, hc, s, rfl⟩ := h
  refine lim_step ?_
  simp only [stepQ, hT, if_pos hl, Bool.false_eq_true, if_false, h1]
  simp [thrown, hc]

def WR (r : Option R) (Qn Qt : D → Stack → Prop) (_m : Mark Qn := .mk) (_m' : Mark Qt := .mk) : Prop := (∃ d σ', r = some (.val d σ') ∧ Qn d σ') ∨ ∃ d σ', r = some (.thr d σ') ∧ Qt d σ'
@[simp, simp ↓] theorem WR_val {d : D} {σ' : Stack} {Qn Qt : D → Stack → Prop} : WR (some (.val d σ')) Qn Qt = Qn d σ' := by
  simp only [WR, Option.some.injEq, R.val.injEq, reduceCtorEq, false_and, exists_false, or_false, eq_iff_iff]
  exact ⟨fun ⟨_, _, ⟨h1, h2⟩, h⟩ => by subst h1 h2; exact h, fun h => ⟨_, _, ⟨rfl, rfl⟩, h⟩⟩
@[simp, simp ↓] theorem WR_thr {d : D} {σ' : Stack} {Qn Qt : D → Stack → Prop} : WR (some (.thr d σ')) Qn Qt = Qt d σ' := by
  simp only [WR, Option.some.injEq, R.thr.injEq, reduceCtorEq, false_and, exists_false, false_or, eq_iff_iff]
  exact ⟨fun ⟨_, _, ⟨h1, h2⟩, h⟩ => by subst h1 h2; exact h, fun h => ⟨_, _, ⟨rfl, rfl⟩, h⟩⟩
def panD : D → Option D
  | .ifc t d => if d.clean then some (.ifc t d) else none
  | _ => none
@[simp] theorem panD_ifc {t : Nat} {d : D} : panD (.ifc t d) = if d.clean then some (.ifc t d) else none := by_rfl rfl
@[simp] theorem callr_fn {O : Oracle} {f : Nat} {first cap args : List D} {σ : Stack} : callr O (.fn f first cap) args σ = O (.call false f (first ++ args ++ cap) σ) := by_rfl rfl

@[simp, simp ↓] theorem WC_treg_call {live : List Nat} {pre post : List Op} {dst : Option Nat} {n : Bool} {f : Opd} {args : List Opd} : WC O (.treg live pre ⟨dst, none, n, .call false f args⟩ post) e σ Q =
    WO O pre e σ fun e1 σ1 => WR (callr O (opd e1 f) (args.map (opd e1)) σ1) (fun d σ2 => WO O post (put dst d e1) σ2 fun e' σ' => Q .normal (restrict live e') σ') (fun d σ2 => Q (.thr d) e1 σ2) := by
  simp only [WC, WO, acode, aopt, Option.bind_eq_some_iff, eq_iff_iff]
  constructor
  · rintro ⟨x, e', σ', ⟨⟨e1, σ1⟩, h1, h2⟩, h⟩
    refine ⟨e1, σ1, h1, ?_⟩
    dsimp only at h2
    cases hc : callr O (opd e1 f) (args.map (opd e1)) σ1 with
    | none => rw [hc] at h2; simp [aoptR] at h2
    | some r =>
      rw [hc] at h2
      cases r with
      | ctl => simp [aoptR] at h2
      | thr d σ2 => simp only [aoptR, Option.some.injEq, Prod.mk.injEq] at h2; obtain ⟨rfl, rfl, rfl⟩ := h2; rw [WR_thr]; exact h
      | val d σ2 =>
        simp only [aoptR, Option.map_eq_some_iff] at h2
        obtain ⟨⟨e3, σ3⟩, h3, h4⟩ := h2
        cases h4
        rw [WR_val]
        exact ⟨e3, σ3, h3, h⟩
  · rintro ⟨e1, σ1, h1, h⟩
    rcases h with ⟨d, σ2, h2, e3, σ3, h3, h4⟩ | ⟨d, σ2, h2, h4⟩
    · exact ⟨.normal, _, σ3, ⟨(e1, σ1), h1, by simp only [h2, aoptR, h3, Option.map_some]⟩, h4⟩
    · exact ⟨.thr d, e1, σ2, ⟨(e1, σ1), h1, by simp only [h2, aoptR]⟩, h4⟩
@[simp, simp ↓] theorem WC_treg_pan {live : List Nat} {pre post : List Op} {dst : Option Nat} {n : Bool} {x : Opd} : WC O (.treg live pre ⟨dst, none, n, .pan x⟩ post) e σ Q =
    WO O pre e σ fun e1 σ1 => WD (panD (opd e1 x)) fun d => Q (.thr d) e1 σ1 := by
  simp only [WC, WO, acode, aopt, Option.bind_eq_some_iff, eq_iff_iff]
  constructor
  · rintro ⟨x', e', σ', ⟨⟨e1, σ1⟩, h1, h2⟩, h⟩
    refine ⟨e1, σ1, h1, ?_⟩
    dsimp only at h2
    cases hx : opd e1 x <;> rw [hx] at h2 <;> try (cases h2; done)
    dsimp only at h2
    split at h2
    · rename_i hc; cases h2; simp only [panD_ifc, hc, if_true, WD_some]; exact h
    · cases h2
  · rintro ⟨e1, σ1, h1, d, h2, h⟩
    refine ⟨.thr d, e1, σ1, ⟨(e1, σ1), h1, ?_⟩, h⟩
    dsimp only
    cases hx : opd e1 x <;> rw [hx] at h2 <;> try (cases h2; done)
    simp only [panD_ifc] at h2
    split at h2
    · rename_i hc; cases h2; simp [hc]
    · cases h2

def WM (T : Tbl) (live : List Nat) (it : Opd) (nx ok b : Nat) (c rest : Cmd) (e : Env) (σ : Stack) (Q : Exit → Env → Stack → Prop) (_m : Mark c := .mk) (_m' : Mark rest := .mk) (_m'' : Mark Q := .mk) : Prop := ∃ x e' σ', lim T (.mloop live it nx ok b c rest e σ) = some (.ctl x e' σ') ∧ Q x e' σ'
theorem WM.mono {live : List Nat} {it : Opd} {nx ok b : Nat} {c rest : Cmd} {Q' : Exit → Env → Stack → Prop} (h : WM T live it nx ok b c rest e σ Q) (hq : ∀ x e σ, Q x e σ → Q' x e σ) : WM T live it nx ok b c rest e σ Q' :=
  let ⟨x, e', σ', h1, h2⟩ := h; ⟨x, e', σ', h1, hq _ _ _ h2⟩
theorem stepQ_mloop_restrict {live : List Nat} {it : Opd} {nx ok b : Nat} {c rest : Cmd} : stepQ T O (.mloop live it nx ok b c rest (restrict live e) σ) = stepQ T O (.mloop live it nx ok b c rest e σ) := by
  simp only [stepQ, restrict_restrict]
theorem lim_mloop_restrict {live : List Nat} {it : Opd} {nx ok b : Nat} {c rest : Cmd} {r : R} : lim T (.mloop live it nx ok b c rest (restrict live e) σ) = some r ↔ lim T (.mloop live it nx ok b c rest e σ) = some r := by
  constructor <;> intro h <;> obtain ⟨n, h⟩ := lim_iff.1 h <;> cases n <;> first | (cases h; done) | skip
  · rw [Abs.it, stepQ_mloop_restrict] at h; exact lim_iff.2 ⟨_ + 1, h⟩
  · rw [Abs.it, ← stepQ_mloop_restrict] at h; exact lim_iff.2 ⟨_ + 1, h⟩
@[simp, simp ↓] theorem WC_mloop {live : List Nat} {it : Opd} {nx ok b : Nat} {c rest : Cmd} : WC (lim T) (.mloop live it nx ok b c rest) e σ Q = WM T live it nx ok b c rest (restrict live e) σ Q := by
  simp only [WC, acode, WM, eq_iff_iff]
  constructor
  · rintro ⟨x, e', σ', h1, h⟩
    exact ⟨_, _, _, lim_mloop_restrict.2 (ctls_some' h1), h⟩
  · rintro ⟨x, e', σ', h1, h⟩
    exact ⟨x, e', σ', by rw [lim_mloop_restrict.1 h1]; rfl, h⟩

def nextM (T : Tbl) (live : List Nat) (it : Opd) (l i nx ok b : Nat) (c rest : Cmd) (r : R) (_m : Mark c := .mk) (_m' : Mark rest := .mk) : Exit → Env → Stack → Prop
  | .normal, e, σ => lim T (.mloop live it nx ok b c rest (restrict live e) σ) = some r
  | .exit j, e, σ => if j = b then WC (lim T) rest e (setBlk σ l i .dead) fun x e' σ' => r = .ctl x e' σ' else r = .ctl (.exit j) e (setBlk σ l i .dead)
  | .ret, e, σ => r = .ctl .ret e (setBlk σ l i .dead)
  | .thr _, _, _ => False
@[simp, simp ↓] theorem nextM_normal {live : List Nat} {it : Opd} {l i nx ok b : Nat} {c rest : Cmd} {r : R} : nextM T live it l i nx ok b c rest r .mk .mk .normal e σ = (lim T (.mloop live it nx ok b c rest (restrict live e) σ) = some r) := by_rfl rfl
@[simp, simp ↓] theorem nextM_exit {live : List Nat} {it : Opd} {l i nx ok b j : Nat} {c rest : Cmd} {r : R} : nextM T live it l i nx ok b c rest r .mk .mk (.exit j) e σ = if j = b then WC (lim T) rest e (setBlk σ l i .dead) fun x e' σ' => r = .ctl x e' σ' else r = .ctl (.exit j) e (setBlk σ l i .dead) := by_rfl rfl
@[simp, simp ↓] theorem nextM_ret {live : List Nat} {it : Opd} {l i nx ok b : Nat} {c rest : Cmd} {r : R} : nextM T live it l i nx ok b c rest r .mk .mk .ret e σ = (r = .ctl .ret e (setBlk σ l i .dead)) := by_rfl rfl

theorem mend_of {l i b : Nat} {rest : Cmd} {r : R} {x : Exit} {e1 : Env} {σ1 : Stack} {live : List Nat} {it : Opd} {nx ok : Nat} {c : Cmd} (hx : x ≠ .normal) (h : nextM T live it l i nx ok b c rest r .mk .mk x e1 σ1) : mend (lim T) l i b rest (some (x, e1, σ1)) = some r := by
  cases x with
  | normal => exact absurd rfl hx
  | thr d => exact h.elim
  | ret => simp only [nextM_ret] at h; subst h; rfl
  | exit j =>
    simp only [nextM_exit] at h
    simp only [mend]
    split at h
    · rename_i hj
      obtain ⟨x', e', σ', h1, rfl⟩ := h
      rw [if_pos hj, h1]; rfl
    · rename_i hj
      subst h
      rw [if_neg hj]

theorem mloop_of {live : List Nat} {it : Opd} {l i nx ok b : Nat} {c c' rest rest' : Cmd} {r : R} {m : D} {n : Nat} {js : List D} {us : List Nat} (hcc : c = c') (hrr : rest = rest') (hit : opd (restrict live e) it = .yld l i) (hd : iterD σ l i = some (m, n, js, us)) (hne : us ≠ [])
    (h : ∀ u ∈ us, WC (lim T) c' ((ok, .bool true) :: (nx, .undef) :: restrict live e) (setBlk σ l i (.cells 1 (m :: .int .i64 (n : Nat) :: .int .i64 (u : Nat) :: js))) (nextM T live it l i nx ok b c rest' r .mk .mk)) :
    lim T (.mloop live it nx ok b c rest e σ) = some r := by
  subst hcc hrr
  refine lim_step ?_
  simp only [stepQ, hit, hd]
  have key : ∀ u ∈ us, mnext (lim T) live it l i nx ok b c rest (acode (lim T) c ((ok, .bool true) :: (nx, .undef) :: restrict live e) (setBlk σ l i (.cells 1 (m :: .int .i64 (n : Nat) :: .int .i64 (u : Nat) :: js)))) = some r := by
    intro u hu
    obtain ⟨x, e1, σ1, h1, h2⟩ := h u hu
    rw [h1]
    cases x with
    | normal => exact lim_mloop_restrict.1 h2
    | exit j => exact mend_of (x := .exit j) (by simp) h2
    | ret => exact mend_of (x := .ret) (by simp) h2
    | thr d => exact h2.elim
  cases us with
  | nil => exact absurd rfl hne
  | cons u us => exact all_agree (by simp) key

theorem mloop_end {live : List Nat} {it : Opd} {l i nx ok b : Nat} {c c' rest rest' : Cmd} {r : R} {m : D} {n : Nat} {js : List D} (hcc : c = c') (hrr : rest = rest') (hit : opd (restrict live e) it = .yld l i) (hd : iterD σ l i = some (m, n, js, []))
    (h : WC (lim T) c' ((ok, .bool false) :: (nx, .undef) :: restrict live e) σ fun x e1 σ1 => x ≠ .normal ∧ nextM T live it l i nx ok b c rest' r .mk .mk x e1 σ1) :
    lim T (.mloop live it nx ok b c rest e σ) = some r := by
  subst hcc hrr
  refine lim_step ?_
  simp only [stepQ, hit, hd]
  obtain ⟨x, e1, σ1, h1, hx, h2⟩ := h
  rw [h1]
  exact mend_of hx h2

def thOf : Exit → Option (Option D)
  | .normal => some none
  | .ret => some none
  | .thr d => some (some d)
  | .exit _ => none
@[simp] theorem thOf_normal : thOf .normal = some none := by_rfl rfl
@[simp] theorem thOf_ret : thOf .ret = some none := by_rfl rfl
@[simp] theorem thOf_thr {d : D} : thOf (.thr d) = some (some d) := by_rfl rfl

noncomputable def dcallV (T : Tbl) (fv : D) (args : List D) (th : Option D) (σ : Stack) : Option Stack :=
  match dcallR (lim T) fv args th σ with
  | some (.val _ σ') => some σ'
  | _ => none
theorem dcallV_fn {f : Nat} {first cap args : List D} {th : Option D} {σ σ' : Stack} {d : D} (h : lim T (.dcall f (first ++ args ++ cap) th σ) = some (.val d σ')) : dcallV T (.fn f first cap) args th σ = some σ' := by
  simp only [dcallV, dcallR, h]

def endD (T : Tbl) (fv : D) (args : List D) (σ : Stack) (res : List Res) (d : D) (x : Exit) (e : Env) (σ1 : Stack) : Prop :=
  WD (thOf x) fun th => WD (dcallV T fv args th σ1) fun σ2 => ∃ ds, resL e σ2 res = some ds ∧ ∃ s, frz (σ.length - 1) deep (mkRes ds) σ2 = (d, s :: σ)
def toD (T : Tbl) (f : Opd) (args : List Opd) (q : Cmd) (σ : Stack) (res : List Res) (d : D) (x : Exit) (e : Env) (σ1 : Stack) (_m : Mark q := .mk) : Prop :=
  x = .normal ∧ WC (lim T) q e σ1 (endD T (opd e f) (args.map (opd e)) σ res d)

theorem call_dfr {f : Nat} {fn : Fn} {args : List D} {σ : Stack} {d : D} {np : Nat} {res : List Res} {body A q : Cmd} {fo : Opd} {as : List Opd} (hT : T f = some fn) (hf : fn = ⟨np, res, body⟩) (hl : args.length = np) (hs : splitT body = some (A, fo, as, q))
    (h : WC (lim T) A (mkEnv 0 args) ([] :: σ) (toD T fo as q σ res d)) :
    lim T (.call false f args σ) = some (.val d σ) := by
  subst hf
  obtain ⟨x, e1, σ1, h1, rfl, x2, e2, σ2, h2, th, h3, σ3, h4, ds, h5, s, h6⟩ := h
  refine lim_step ?_
  have hn : acode (lim T) body (mkEnv 0 args) ([] :: σ) = none := split_none0 hs h1
  simp only [stepQ, hT, if_pos hl, Bool.false_eq_true, if_false, hn, hs, dbody, h1, h2]
  have h4' : ∃ dv, dcallR (lim T) (opd e1 fo) (as.map (opd e1)) th σ2 = some (.val dv σ3) := by
    unfold dcallV at h4
    split at h4
    · rename_i h7; cases h4; exact ⟨_, h7⟩
    · cases h4
  obtain ⟨dv, h4'⟩ := h4'
  cases x2 with
  | exit i => cases h3
  | normal => cases h3; simp only [dtail, h4', dleave, leave, h5, h6]
  | ret => cases h3; simp only [dtail, h4', dleave, leave, h5, h6]
  | thr d => cases h3; simp only [dtail, h4', dleave, leave, h5, h6]

def endX (σ' : Stack) (res : List Res) (x : Exit) (e : Env) (σ1 : Stack) : Prop :=
  (∀ i, x ≠ .exit i) ∧ (∀ d, x ≠ .thr d) ∧ resL e σ1 res = some [] ∧ ∃ s, σ1 = s :: σ'
@[simp, simp ↓] theorem endX_normal {σ' σ1 : Stack} {res : List Res} : endX σ' res .normal e σ1 = (resL e σ1 res = some [] ∧ ∃ s, σ1 = s :: σ') := by simp [endX]
@[simp, simp ↓] theorem endX_ret {σ' σ1 : Stack} {res : List Res} : endX σ' res .ret e σ1 = (resL e σ1 res = some [] ∧ ∃ s, σ1 = s :: σ') := by simp [endX]
theorem dcall_of {f : Nat} {fn : Fn} {args : List D} {th : Option D} {σ σ' : Stack} {np : Nat} {res : List Res} {body q : Cmd} {e0 : Env} (hT : T f = some fn) (hf : fn = ⟨np, res, body⟩) (hl : args.length = np) (hr : afterRcv th args body = some (e0, q))
    (h : WC (lim T) q e0 ([] :: σ) (endX σ' res)) : lim T (.dcall f args th σ) = some (.val (.tup []) σ') := by
  subst hf
  obtain ⟨x, e1, σ1, h1, h2, h2', h3, s, rfl⟩ := h
  refine lim_step ?_
  simp only [stepQ, hT, if_pos hl, hr, h1]
  cases x with
  | exit i => exact absurd rfl (h2 i)
  | thr d => exact absurd rfl (h2' d)
  | normal => simp [h3]
  | ret => simp [h3]
end code

@[simp] theorem get_cons {k t : Nat} {v : D} {r : Env} : get ((k, v) :: r) t = if k = t then v else get r t := by_rfl rfl
@[simp] theorem put_some {t : Nat} {v : D} {e : Env} : put (some t) v e = (t, v) :: e := by_rfl rfl
@[simp] theorem put_none {v : D} {e : Env} : put none v e = e := by_rfl rfl
@[simp] theorem opd_t {e : Env} {n : Nat} : opd e (.t n) = (get e n).strip := by_rfl rfl
@[simp] theorem opd_c {e : Env} {d : D} : opd e (.c d) = d := by_rfl rfl
@[simp] theorem restrict_nil {e : Env} : restrict [] e = [] := by_rfl rfl
@[simp] theorem restrict_cons {t : Nat} {l : List Nat} {e : Env} : restrict (t :: l) e = (t, (get e t).calm) :: restrict l e := by_rfl rfl
@[simp] theorem mkEnv_nil {n : Nat} : mkEnv n [] = [] := by_rfl rfl
@[simp] theorem mkEnv_cons {n : Nat} {d : D} {ds : List D} : mkEnv n (d :: ds) = (n, d) :: mkEnv (n + 1) ds := by_rfl rfl
section
variable {e : Env} {σ : Stack}
@[simp] theorem resL_nil : resL e σ [] = some [] := by_rfl rfl
@[simp] theorem resL_cons {r : Res} {rs : List Res} : resL e σ (r :: rs) = (resD e σ r).bind fun d => (resL e σ rs).map fun ds => d :: ds := by_rfl rfl
@[simp] theorem resD_t {n : Nat} : resD e σ (.t n) = some (get e n).strip := by_rfl rfl
@[simp] theorem resD_c {n sz : Nat} {ag : Bool} : resD e σ (.c n ag sz) = ldD ag sz (rdD σ (get e n).strip) := by
  simp only [resD, sop, opd_t]
  cases rdD σ (get e n).strip with
  | none => rfl
  | some cs =>
    simp only [ldD]
    split
    · cases ag
      · cases cs <;> rfl
      · rfl
    · rfl
@[simp] theorem resD_v {n sz : Nat} {ag : Bool} : resD e σ (.v n ag sz) = ldvD e n ag sz n := by
  simp only [resD, sop, ldvD]
  cases inVar e n n with
  | none => rfl
  | some x =>
    obtain ⟨s, cs, off⟩ := x
    simp only [ldD, Option.map_some]
    split
    · cases ag
      · cases cs.drop off <;> rfl
      · rfl
    · rfl
@[simp] theorem mkRes_one {d : D} : mkRes [d] = d := by_rfl rfl
@[simp] theorem mkRes_nil : mkRes [] = .tup [] := by_rfl rfl
@[simp] theorem mkRes_two {d d' : D} {ds : List D} : mkRes (d :: d' :: ds) = .tup (d :: d' :: ds) := by_rfl rfl
@[simp] theorem fillD_nil {cs : List D} : fillD e [] cs = some cs := by_rfl rfl
@[simp] theorem fillD_cons {off sz : Nat} {x : Opd} {r : List (Nat × Nat × Opd)} {cs : List D} : fillD e ((off, sz, x) :: r) cs =
    ((opd e x).cells.bind fun p => if p.length = sz ∧ off + sz ≤ cs.length then some (cs.take off ++ p ++ cs.drop (off + sz)) else none).bind (fillD e r) := by
  simp only [fillD]
  cases (opd e x).cells with
  | none => rfl
  | some p => dsimp only [Option.bind_some]; split <;> rfl
@[simp] theorem nilbs_nil' {cs : List D} : nilbs [] cs σ = some (cs, σ) := by_rfl rfl
@[simp] theorem elems_nils {w : Nat} : elems σ w .nils = some (0, []) := by_rfl rfl
@[simp] theorem elems_str {w : Nat} {s : List UInt8} : elems σ w (.str s) = if w = 1 then some (s.length, strCells s) else none := by_rfl rfl
@[simp] theorem elems_lst {w n : Nat} {cs : List D} : elems σ w (.lst n cs) = if cs.length = n * w then some (n, cs) else none := by_rfl rfl
@[simp] theorem elems_sl {w l i v off n w' : Nat} : elems σ w (.sl l i v off n w') = if w' = w then (match cells? σ l i v with | some cs => if off + n * w ≤ cs.length then some (n, (cs.drop off).take (n * w)) else none | none => none) else none := by_rfl rfl
end
attribute [simp] sop appD nilbs newBlk inVar stamp stvD ldvD bnd bounds D.row cells? blk? seg? setBlk setSeg

@[simp] theorem rclean_undef : D.clean .undef = true := by rw [D.clean]
@[simp] theorem rclean_bool {b : Bool} : D.clean (.bool b) = true := by rw [D.clean]
@[simp] theorem rclean_int {k : IntKind} {n : Int} : D.clean (.int k n) = true := by rw [D.clean]
@[simp] theorem rclean_str {s : List UInt8} : D.clean (.str s) = true := by rw [D.clean]
@[simp] theorem rclean_nilp : D.clean .nilp = true := by rw [D.clean]
@[simp] theorem rclean_nils : D.clean .nils = true := by rw [D.clean]
@[simp] theorem rclean_ifc {t : Nat} {d : D} : D.clean (.ifc t d) = D.clean d := by rw [D.clean]
@[simp] theorem rclean_nili : D.clean .nili = true := by rw [D.clean]
@[simp] theorem rclean_nilf : D.clean .nilf = true := by rw [D.clean]
@[simp] theorem rclean_ref {l i v o : Nat} : D.clean (.ref l i v o) = false := by rw [D.clean]
@[simp] theorem rclean_sl {l i v o n w : Nat} : D.clean (.sl l i v o n w) = false := by rw [D.clean]
@[simp] theorem rclean_yld {l i : Nat} : D.clean (.yld l i) = false := by rw [D.clean]
@[simp] theorem rclean_vr {l i v : Nat} : D.clean (.vr l i v) = true := by rw [D.clean]
@[simp] theorem rclean_own {s : Nat} {cs : List D} : D.clean (.own s cs) = D.cleanL cs := by rw [D.clean]
@[simp] theorem rclean_agg {cs : List D} : D.clean (.agg cs) = D.cleanL cs := by rw [D.clean]
@[simp] theorem rclean_tup {cs : List D} : D.clean (.tup cs) = D.cleanL cs := by rw [D.clean]
@[simp] theorem rclean_cref {cs : List D} : D.clean (.cref cs) = D.cleanL cs := by rw [D.clean]
@[simp] theorem rclean_lst {n : Nat} {cs : List D} : D.clean (.lst n cs) = D.cleanL cs := by rw [D.clean]
@[simp] theorem rclean_fn {f : Nat} {a b : List D} : D.clean (.fn f a b) = (D.cleanL a && D.cleanL b) := by rw [D.clean]
@[simp] theorem cleanL_nil : D.cleanL [] = true := by rw [D.cleanL]
@[simp] theorem cleanL_cons {d : D} {ds : List D} : D.cleanL (d :: ds) = (D.clean d && D.cleanL ds) := by rw [D.cleanL]
@[simp] theorem deep_def : deep = 16 := by_rfl rfl
@[simp] theorem frz_clean {l n : Nat} {d : D} {σ : Stack} (h : d.clean = true) (hn : 0 < n) : frz l n d σ = (d, σ) := by
  obtain ⟨m, rfl⟩ : ∃ m, n = m + 1 := ⟨n - 1, by omega⟩
  unfold frz; simp [h]
@[simp] theorem frzL_clean {l n : Nat} {ds : List D} {σ : Stack} (h : D.cleanL ds = true) (hn : 0 < n) : frz.frzL (frz l n) ds σ = (ds, σ) := by
  induction ds generalizing σ with
  | nil => rfl
  | cons d ds ih =>
    simp only [D.cleanL, Bool.and_eq_true] at h
    simp [frz.frzL, h.1, ih h.2, hn]
@[simp] theorem frzL_nil {f : D → Stack → D × Stack} {σ : Stack} : frz.frzL f [] σ = ([], σ) := by_rfl rfl
@[simp] theorem frzL_cons {f : D → Stack → D × Stack} {d : D} {ds : List D} {σ : Stack} : frz.frzL f (d :: ds) σ = ((f d σ).1 :: (frz.frzL f ds (f d σ).2).1, (frz.frzL f ds (f d σ).2).2) := by_rfl rfl
theorem frz_tup {l n : Nat} {ds : List D} {σ : Stack} (h : D.cleanL ds = false) (hn : 0 < n) : frz l n (.tup ds) σ = (.tup (frz.frzL (frz l (n - 1)) ds σ).1, (frz.frzL (frz l (n - 1)) ds σ).2) := by
  obtain ⟨m, rfl⟩ : ∃ m, n = m + 1 := ⟨n - 1, by omega⟩
  conv => lhs; unfold frz
  simp [D.clean, h]
theorem frz_agg {l n : Nat} {ds : List D} {σ : Stack} (h : D.cleanL ds = false) (hn : 0 < n) : frz l n (.agg ds) σ = (.agg (frz.frzL (frz l (n - 1)) ds σ).1, (frz.frzL (frz l (n - 1)) ds σ).2) := by
  obtain ⟨m, rfl⟩ : ∃ m, n = m + 1 := ⟨n - 1, by omega⟩
  conv => lhs; unfold frz
  simp [D.clean, h]
theorem frz_sl {l n l' i v off m w : Nat} {σ : Stack} {cs : List D} (h : ¬ l' ≤ l) (hc : cells? σ l' i v = some cs) (hn : 0 < n) :
    frz l n (.sl l' i v off m w) σ = (.lst m (frz.frzL (frz l (n - 1)) ((cs.drop off).take (m * w)) (setBlk σ l' i .dead)).1, (frz.frzL (frz l (n - 1)) ((cs.drop off).take (m * w)) (setBlk σ l' i .dead)).2) := by
  obtain ⟨m, rfl⟩ : ∃ m, n = m + 1 := ⟨n - 1, by omega⟩
  conv => lhs; unfold frz
  simp only [D.clean, h, hc, Bool.false_eq_true, if_false, Nat.add_sub_cancel]

@[simp] theorem frz_sl_low {l n l' i v off m w : Nat} {σ : Stack} (h : l' ≤ l) (hn : 0 < n) : frz l n (.sl l' i v off m w) σ = (.sl l' i v off m w, σ) := by
  obtain ⟨m, rfl⟩ : ∃ m, n = m + 1 := ⟨n - 1, by omega⟩
  conv => lhs; unfold frz
  simp only [D.clean, h, if_true, Bool.false_eq_true, if_false]
@[simp] theorem frz_ref_low {l n l' i v off : Nat} {σ : Stack} (h : l' ≤ l) (hn : 0 < n) : frz l n (.ref l' i v off) σ = (.ref l' i v off, σ) := by
  obtain ⟨m, rfl⟩ : ∃ m, n = m + 1 := ⟨n - 1, by omega⟩
  conv => lhs; unfold frz
  simp only [D.clean, h, if_true, Bool.false_eq_true, if_false]

@[simp] theorem lenne1 {n : Nat} : (n + 1 = n) = False := by simp
@[simp] theorem lenne2 {n : Nat} : (n + 1 + 1 = n) = False := by simp; omega
@[simp] theorem lenne3 {n : Nat} : (n + 1 + 1 + 1 = n) = False := by simp; omega
@[simp] theorem lenne4 {n : Nat} : (n + 1 + 1 + 1 + 1 = n) = False := by simp; omega
@[simp] theorem lenne5 {n : Nat} : (n + 1 + 1 + 1 + 1 + 1 = n) = False := by simp; omega

theorem cleanL_append {a b : List D} : D.cleanL (a ++ b) = (D.cleanL a && D.cleanL b) := by
  induction a with
  | nil => rfl
  | cons d a ih => simp [D.cleanL, ih, Bool.and_assoc]

theorem cleanL_flat {α : Type} {f : α → List D} {l : List α} (h : ∀ x ∈ l, D.cleanL (f x) = true) : D.cleanL (l.flatMap f) = true := by
  induction l with
  | nil => rfl
  | cons a l ih => simp only [List.flatMap_cons, cleanL_append, Bool.and_eq_true]; exact ⟨h a (by simp), ih fun x hx => h x (by simp [hx])⟩

end Go.Abs

/-
  Short names for operations, in tables.
-/
namespace Go.Abs
def qo (d : Nat) (k : K) : Op := ⟨some d, none, false, k⟩
def qO (d : Nat) (k : K) : Op := ⟨some d, none, true, k⟩
def qm (d x : Nat) : Op := ⟨some d, none, false, .mv (.t x)⟩
def qM (d x : Nat) : Op := ⟨some d, none, true, .mv (.t x)⟩
def qi (d : Nat) (n : Int) : Op := ⟨some d, none, false, .mv (.c (.int .i64 n))⟩
def qb (d : Nat) (b : Bool) : Op := ⟨some d, none, false, .mv (.c (.bool b))⟩
def qf (d o x : Nat) : Op := ⟨some d, none, false, .fadr o (.t x)⟩
def qF (d o x : Nat) : Op := ⟨some d, none, true, .fadr o (.t x)⟩
def ql (d n x : Nat) : Op := ⟨some d, none, false, .ld false n (.t x)⟩
def qL (d n x : Nat) : Op := ⟨some d, none, true, .ld false n (.t x)⟩
def qa (d n x : Nat) : Op := ⟨some d, none, false, .ld true n (.t x)⟩
def qA (d n x : Nat) : Op := ⟨some d, none, true, .ld true n (.t x)⟩
def qv (d v n a : Nat) : Op := ⟨some d, none, false, .ldv v false n a⟩
def qV (d v n a : Nat) : Op := ⟨some d, none, true, .ldv v false n a⟩
def qw (d v n a : Nat) : Op := ⟨some d, none, false, .ldv v true n a⟩
def qW (d v n a : Nat) : Op := ⟨some d, none, true, .ldv v true n a⟩
def qx (d x : Nat) : Op := ⟨some d, none, false, .boxi (.t x)⟩
def qe (d x : Nat) : Op := ⟨some d, none, false, .lenS (.t x)⟩
def qE (d x : Nat) : Op := ⟨some d, none, true, .lenS (.t x)⟩
def qj (d w x i : Nat) : Op := ⟨some d, none, false, .idxS w (.t x) (.t i)⟩
def qJ (d w x i : Nat) : Op := ⟨some d, none, true, .idxS w (.t x) (.t i)⟩
def qk (d : Nat) (o : BinOp) (x y : Nat) : Op := ⟨some d, none, false, .bin o (.t x) (.t y)⟩
def qK (d : Nat) (o : BinOp) (x y : Nat) : Op := ⟨some d, none, true, .bin o (.t x) (.t y)⟩
def qn (d : Nat) (o : BinOp) (x : Nat) (n : Int) : Op := ⟨some d, none, false, .bin o (.t x) (.c (.int .i64 n))⟩
def qN (d : Nat) (o : BinOp) (x : Nat) (n : Int) : Op := ⟨some d, none, true, .bin o (.t x) (.c (.int .i64 n))⟩
def qu (d x : Nat) : Op := ⟨some d, none, false, .un .not (.t x)⟩
def qp (d c x : Nat) : Op := ⟨some d, none, false, .pick (.t c) (.t x) (.c (.bool false))⟩
def qP (d c x : Nat) : Op := ⟨some d, none, false, .pick (.t c) (.c (.bool true)) (.t x)⟩
def qs (v n a x : Nat) : Op := ⟨none, none, false, .stv v [] n a (.t x)⟩
def qS (v n a x : Nat) : Op := ⟨none, none, true, .stv v [] n a (.t x)⟩
def qt (n a x : Nat) : Op := ⟨none, none, false, .st [] n (.t a) (.t x)⟩
def qz (d x i : Nat) : Op := ⟨some d, none, false, .ext (.t x) i⟩
def qZ (d x i : Nat) : Op := ⟨some d, none, true, .ext (.t x) i⟩
def qc (d f : Nat) (a : List Nat) : Op := ⟨some d, none, false, .call false (.c (.fn f [] [])) (a.map .t)⟩
def qC (d f : Nat) (a : List Nat) : Op := ⟨some d, none, true, .call false (.c (.fn f [] [])) (a.map .t)⟩
def qy (d w b s x : Nat) : Op := ⟨some d, none, false, .app w b (.t s) (.t x)⟩
def qg (t : Nat) (b : Bool) (o : Op) : Op := ⟨o.dst, some (t, b), o.ntr, o.k⟩
end Go.Abs

/-
  Answers that are known already: a long walk is cut in pieces.
-/
set_option linter.unusedVariables false
namespace Go.Abs
open Go

structure Memo where
  f : Nat
  a : List D
  s : Stack
  d : D
  t : Stack
def Memo.Ok (T : Tbl) (m : Memo) : Prop := lim T (.call false m.f m.a m.s) = some (.val m.d m.t)
def Memo.ask (m : Memo) : Q → Option R
  | .call false f a σ => if f = m.f then if a = m.a then if σ = m.s then some (.val m.d m.t) else none else none else none
  | _ => none
theorem Memo.Ok.ask {T : Tbl} {m : Memo} (h : m.Ok T) {q : Q} {r : R} (hq : m.ask q = some r) : lim T q = some r := by
  unfold Memo.ask at hq
  split at hq
  case h_2 => cases hq
  split at hq
  case isFalse => cases hq
  rename_i h1
  split at hq
  case isFalse => cases hq
  rename_i h2
  split at hq
  case isFalse => cases hq
  rename_i h3
  cases hq
  rw [h1, h2, h3]
  exact h
def askM (M : List Memo) (q : Q) : Option R := M.findSome? fun m => m.ask q
def itM (T : Tbl) (M : List Memo) : Nat → Oracle
  | 0 => askM M
  | n + 1 => fun q => match askM M q with
    | some r => some r
    | none => stepQ T (itM T M n) q
theorem askM_ok {T : Tbl} {M : List Memo} (hM : ∀ m ∈ M, m.Ok T) {q : Q} {r : R} (h : askM M q = some r) : lim T q = some r := by
  obtain ⟨m, h1, h2⟩ := List.exists_of_findSome?_eq_some h
  exact (hM m h1).ask h2
theorem itM_lim {T : Tbl} {M : List Memo} (hM : ∀ m ∈ M, m.Ok T) : ∀ {n : Nat} {q : Q} {r : R}, itM T M n q = some r → lim T q = some r
  | 0, q, r, h => askM_ok hM h
  | n + 1, q, r, h => by
    unfold itM at h
    split at h
    · rename_i h1; cases h; exact askM_ok hM h1
    · exact lim_step (stepQ_mono (fun q r => itM_lim hM) h)
end Go.Abs
