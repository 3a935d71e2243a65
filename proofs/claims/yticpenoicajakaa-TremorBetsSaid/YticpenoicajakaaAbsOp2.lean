/-
  One operation of a region: variables of the frame's own; any operation; a row of operations.
-/
import Derived.Test.YticpenoicajakaaAbsOp
set_option linter.unusedVariables false
set_option linter.unusedSimpArgs false
namespace Go.Abs
open Go

section
variable {P : Program} {CR : CRel} {O : Oracle} {ann : Ann} {n reg : Nat} {ops : Array Oper} {base : Nat} {g0 g : G} {w0 w : World} {b : Frame} {B : Nat → Nat} {e e' : Env} {σ σ' : Stack} {a : Act}
  {k : List Item} {cs : List Frame} {i : Nat} {rest : List Nat}

theorem own_ok (ha : At CR base ann.ownv g0 w0 n b g w B e σ a) {o : Oper} (ho : ops[i]? = some o) (hw : Region.wanted o (yielded ops a.tmps) = true) (hd : ∀ c, o.op ≠ .defer c)
    {v : Nat} (hdst : o.dst = some v) (hV : v ∈ ann.ownv) (hn : v < n) {g1 : G} {ds : List D} {ca : Array Value} {el : TypeId}
    (hrun : (execOp a.eval o).run P w = .ok (.value (.pointer (some ⟨w.heap.size, 0, none⟩))) (w.alloc (.cells ca el)))
    (i1 : Inv CR base g1 σ' w) (e1 : Ev g w g1 w) (hg : Goes σ σ') (hr : RelL g1 ds ca.toList) (h1 : ∀ x ∈ ca.toList, x.oneCell' = true) :
    Next1 P CR ann n ops base g0 w0 b g w a k cs i rest σ ((v, .own (stamp e v) ds) :: e) σ' := by
  obtain ⟨tmps, df⟩ := a
  have i2 := i1.alloc (.cells ca el)
  have e2 := e1.trans (Ev.alloc g1 w (.cells ca el))
  have hsteps := step_value (P := P) (b := b) (a := ⟨tmps, df⟩) (k := k) (cs := cs) (rest := rest) ho hw hd hrun rfl
  rw [hdst] at hsteps
  have hsz : v < tmps.size := by have := ha.size; simp only at this; omega
  refine ⟨g1, _, _, _, .one hsteps, ha.go e2 i2 hg ((ha.fr.ev e2).putOwn hV hsz ⟨ha.ev.size, fun hb => ?_, fun o => ?_, ca, el, alloc_new, hr, h1⟩ fun t s cs' ht => ?_) put_size put_defers, e2.le, hg⟩
  · exact Nat.lt_irrefl _ (i1.has_lt hb)
  · cases hh : g1.imm w.heap.size o with
    | none => rfl
    | some x => exact absurd (i1.imm_lt hh) (Nat.lt_irrefl _)
  · have := (ha.fr.own t s cs' ht).2.2.lt; omega

theorem stv_ok (ha : At CR base ann.ownv g0 w0 n b g w B e σ a) {o : Oper} (ho : ops[i]? = some o) (hw : Region.wanted o (yielded ops a.tmps) = true)
    (hn : ∀ t, o.dst = some t → t < n) (hV : ∀ t, o.dst = some t → t ∉ ann.ownv) {t : TypeId} {x v : Nat} {y : Operand} {Y : Opd} (hop : o.op = .store t (.tmp x) y) (hy : opdC y = some Y) {sz : Nat} (hsz : sizeC P t = some sz)
    {s off : Nat} {cv p p' : List D} {nb : List (Nat × Nat)} (hin : inVar e v x = some (s, cv, off)) (hp : (opd e Y).cells = some p) (hlen : p.length = sz ∧ off + sz ≤ cv.length)
    (hnb : nilbs nb p σ = some (p', σ')) (hdst : o.dst = none) :
    Next1 P CR ann n ops base g0 w0 b g w a k cs i rest σ ((v, .own s (cv.take off ++ p' ++ cv.drop (off + sz))) :: e) σ' := by
  obtain ⟨tmps, df⟩ := a
  have hd : ∀ c, o.op ≠ .defer c := by intro c hc; rw [hop] at hc; cases hc
  obtain ⟨hgv, hpx⟩ := ha.fr.inVar hin
  obtain ⟨hvV, hptr, hob⟩ := ha.fr.own v s cv hgv
  obtain ⟨ca, el, hheap, hrl, h1c⟩ := hob.blk
  obtain ⟨hrp, h1p⟩ := (ha.fr.opd (df := df) hy).cells hp
  obtain ⟨g1, i1, e1, r1⟩ := nilbs_ok nb _ _ _ _ g _ hnb ha.inv hrp
  obtain ⟨_, hp'len, _⟩ := nilbs_keep nb _ _ _ _ hnb
  have hpl : ((Act.mk tmps df).eval y).cells.toList.length = sz := by rw [← r1.length, hp'len]; exact hlen.1
  have hpl' : ((Act.mk tmps df).eval y).cells.size = sz := by simpa using hpl
  have hcl : ca.size = cv.length := by have := hrl.length; simpa using this.symm
  obtain ⟨w', c', hrun, hb', hs', hc', hother, hsize, ho1, ho2, ho3⟩ := run_storeVar (P := P) (t := t) (w := w) (b := B v) (o := off) (v := (Act.mk tmps df).eval y) hsz (by simpa using hpl) h1p hheap (by omega)
  have hob1 := hob.ev e1
  have hcv : (Act.mk tmps df).eval (.tmp x) = .pointer (some ⟨B v, off, none⟩) := hpx
  have hrunO : (execOp (Act.mk tmps df).eval o).run P w = .ok .skip w' := by
    simp [execOp, hop, Instr.storeAt, hcv, Instr.sureAddr, hrun]
  have hoth : ∀ b', b' ≠ B v → w'.heap[b']? = w.heap[b']? := hother
  have i2 : Inv CR base g1 σ' w' := i1.foreign (fun b' hb'' hk => hoth b' fun hh => by
    subst hh
    rcases hk with hk | ⟨o2, v2, hk⟩
    · exact hob1.free hk
    · rw [hob1.noimm] at hk; cases hk) (by omega)
  have hwrite : RelL g1 (cv.take off ++ p' ++ cv.drop (off + sz)) c'.toList ∧ ∀ z ∈ c'.toList, z.oneCell' = true := by
    have hrow := row_write (c := ca) (c' := c') (bo := 0) (off := off) (vs := ca.toList) (ps := ((Act.mk tmps df).eval y).cells.toList) (fun j z hz => ⟨by simpa using hz, h1c z (List.mem_of_getElem? hz)⟩) h1p (by simp; omega)
      (by rw [hpl]; simpa using hc')
    rw [hpl] at hrow
    have hrel := (((hrl.mono e1.le).take off).append r1).append ((hrl.mono e1.le).drop (off + sz))
    have heq : c'.toList = ca.toList.take off ++ ((Act.mk tmps df).eval y).cells.toList ++ ca.toList.drop (off + sz) := by
      have hll : (ca.toList.take off ++ ((Act.mk tmps df).eval y).cells.toList ++ ca.toList.drop (off + sz)).length = c'.toList.length := by
        simp only [List.length_append, hpl, List.length_take, List.length_drop, Array.length_toList, hs']; omega
      apply List.ext_getElem? 
      intro j
      by_cases hj : j < c'.toList.length
      · have hj2 := hj
        rw [← hll] at hj2
        have := (hrow j _ (List.getElem?_eq_getElem hj2)).1
        rw [List.getElem?_eq_getElem hj2]
        simpa using this
      · rw [List.getElem?_eq_none (by omega), List.getElem?_eq_none (by omega)]
    rw [heq]
    refine ⟨hrel, fun z hz => ?_⟩
    simp only [List.mem_append] at hz
    rcases hz with (hz | hz) | hz
    · exact h1c z (List.mem_of_mem_take hz)
    · exact h1p z hz
    · exact h1c z (List.mem_of_mem_drop hz)
  have hob2 : OwnB w0.heap.size g1 w' (B v) (cv.take off ++ p' ++ cv.drop (off + sz)) := ⟨hob1.lo, hob1.free, hob1.noimm, c', el, hb', hwrite.1, hwrite.2⟩
  have hsteps := step_value (P := P) (b := b) (a := ⟨tmps, df⟩) (k := k) (cs := cs) (rest := rest) ho hw hd hrunO rfl
  rw [hdst] at hsteps
  have hgo := nilbs_goes _ _ _ _ _ hnb
  refine ⟨g1, w', B, ⟨tmps, df⟩, .one hsteps, ⟨?_, ?_, i2, hgo.low ha.low, by rw [hgo.len]; exact ha.pos, ha.size, ?_, round_mono ha.round e1.le⟩, e1.le, hgo⟩
  · exact (ha.fr.ev e1).setOwn hgv hob2 fun b' _ hne => hoth b' hne
  · have h0 := ha.ev.trans e1
    refine ⟨h0.le, ho1.trans h0.os, ho2.trans h0.tape, ho3.trans h0.output, by have := h0.size; omega, fun b' hb'' hnb' => ?_, h0.img, h0.immN⟩
    rw [hoth b' (by have := hob.lo; omega)]
    exact h0.kept b' hb'' hnb'
  · obtain ⟨rs, hm⟩ := ha.marks
    have hm1 := hm.ev e1
    refine ⟨rs, hm1.eq, hm1.nodup, fun r hr => ?_⟩
    have hmr := hm1.all r hr
    refine ⟨hmr.lo, hmr.free, hmr.noimm, ?_⟩
    rw [hoth r, hmr.blk]
    intro hh; subst hh
    have := hmr.blk
    rw [hheap] at this; cases this

/-- What the translation says of an operation. -/
def KEq (P : Program) (ann : Ann) (o : Oper) (kk : K) : Prop :=
    match kk with
    | .call _ F Xs => ∃ f args ts, o.op = .call { callee := .value f, args, argTypes := ts } ∧ opdC f = some F ∧ opdsC args.toList = some Xs
    | .alcv _ z => ∃ el v, o.op = .alloc el ∧ zeroC P el = some z ∧ o.dst = some v ∧ v ∈ ann.ownv
    | .boxv X => ∃ t x v, o.op = .box t x ∧ opdC x = some X ∧ o.dst = some v ∧ v ∈ ann.ownv
    | .stv _ _ sz x Y => ∃ t y, o.op = .store t (.tmp x) y ∧ opdC y = some Y ∧ sizeC P t = some sz
    | _ => True

theorem leafEq {X Y : Opd} {t : TypeId} {bo : BinOp} {kk : K} {o : Oper} (hk : eqC P bo t X Y = some kk) : KEq P ann o kk := by
  unfold eqC at hk
  split at hk
  case h_2 => cases hk
  split at hk
  · cases hk
  split at hk
  · obtain ⟨ag, hag, rfl⟩ := Option.map_eq_some_iff.1 hk
    trivial
  · obtain ⟨ag, hag, rfl⟩ := Option.map_eq_some_iff.1 hk
    trivial
  · cases hk

theorem kC_eq {kk : K} {key : Nat} {o : Oper} (hk : kC P ann ops key o = some kk) : KEq P ann o kk := by
  unfold kC at hk
  split at hk
  · rename_i x ho
    obtain ⟨X, hX, rfl⟩ := Option.map_eq_some_iff.1 hk
    trivial
  · rename_i x ho
    split at hk
    · rename_i hnil _ _
      split at hk
      · obtain ⟨X, hX, rfl⟩ := Option.map_eq_some_iff.1 hk
        trivial
      · obtain ⟨X, hX, rfl⟩ := Option.map_eq_some_iff.1 hk
        trivial
    · obtain ⟨X, hX, rfl⟩ := Option.map_eq_some_iff.1 hk
      trivial
  · rename_i c x y ho
    split at hk
    · rename_i c' x' y' h1 h2 h3
      cases hk
      trivial
    · cases hk
  · rename_i el ho
    split at hk
    · rename_i z d0 hz hd0
      cases hk
      split
      · rename_i hc; exact ⟨el, d0, ho, hz, hd0, by simpa using hc⟩
      · trivial
    · cases hk
  · rename_i t x ho
    split at hk
    · rename_i x' d0 hx hd0
      cases hk
      by_cases hc : ann.ownv.contains d0 = true
      · simp only [hc, if_true]; exact ⟨t, x, d0, ho, hx, hd0, by simpa using hc⟩
      · rw [if_neg hc]
        split <;> trivial
    · cases hk
  · rename_i t ps ho
    split at hk
    · rename_i fs z ht hz
      split at hk
      · rename_i hall
        obtain ⟨parts, hp, rfl⟩ := Option.map_eq_some_iff.1 hk
        trivial
      · cases hk
    · rename_i n el z ht hz
      split at hk
      · rename_i wd hw
        obtain ⟨parts, hp, rfl⟩ := Option.map_eq_some_iff.1 hk
        trivial
      · cases hk
    · cases hk
  · rename_i t n ps ho
    split at hk
    · rename_i el ht
      split at hk
      · rename_i wd z d0 hw hz _
        split at hk
        · rename_i hc
          obtain ⟨parts, hp, rfl⟩ := Option.map_eq_some_iff.1 hk
          dsimp only
          split <;> trivial
        · cases hk
      · cases hk
    · cases hk
  · rename_i t x ho
    split at hk
    · rename_i ag sz n hag hsz hx
      split at hk
      · rename_i hc
        simp only [Bool.and_eq_true, decide_eq_true_eq] at hc
        cases hk
        have hxe : x = .tmp n := by
          cases x <;> simp only [opdC, Option.some.injEq, Opd.t.injEq, reduceCtorEq, Option.map_eq_some_iff, and_false, exists_false] at hx
          rw [hx]
        split <;> trivial
      · cases hk
    · cases hk
  · rename_i t x y ho
    split at hk
    · rename_i sz n y' hsz hx hy
      cases hk
      have hxe : x = .tmp n := by
        cases x <;> simp only [opdC, Option.some.injEq, Opd.t.injEq, reduceCtorEq, Option.map_eq_some_iff, and_false, exists_false] at hx
        rw [hx]
      by_cases hc : ann.ownv.contains (rootC ops 8 n) = true
      · simp only [hc, if_true]; exact ⟨t, y, by rw [ho, hxe], hy, hsz⟩
      · rw [if_neg hc]; trivial
    · cases hk
  · rename_i b t x y u ho
    split at hk
    · rename_i hx hy
      cases hk
      trivial
    · rename_i hx hy
      exact leafEq hk
    · rename_i hx hy
      exact leafEq hk
    · rename_i hx hy
      exact leafEq hk
    · cases hk
  · rename_i b t x ho
    obtain ⟨X, hX, rfl⟩ := Option.map_eq_some_iff.1 hk
    trivial
  · rename_i s t x ho
    split at hk
    · rename_i hs ht hx
      cases hk
      trivial
    · cases hk
  · rename_i f xs ys ho
    split at hk
    · rename_i hx hy
      cases hk
      trivial
    · cases hk
  · rename_i t x y ho
    split at hk
    · rename_i el ht
      split at hk
      · rename_i hw hb hz hx hy
        split at hk
        · rename_i hc
          cases hk
          trivial
        · cases hk
      · cases hk
    · cases hk
  · rename_i t x lo hh mx ho
    split at hk
    · rename_i ht hx hlo hhi hmx
      obtain ⟨wd, hw, rfl⟩ := Option.map_eq_some_iff.1 hk
      trivial
    · rename_i ht hx hlo hhi hmx
      obtain ⟨wd, hw, rfl⟩ := Option.map_eq_some_iff.1 hk
      have hm : mx = none := by
        cases mx with
        | none => rfl
        | some m => simp [optC, Option.map_eq_some_iff] at hmx
      subst hm
      trivial
    · cases hk
  · rename_i s x i ho
    split at hk
    · rename_i fs x' hs hx
      split at hk
      · rename_i off sz hfc
        split at hk
        · rename_i hpos
          cases hk
          trivial
        · cases hk
      · cases hk
    · cases hk
  · rename_i s x i ho
    split at hk
    · rename_i fs x' hs hx
      split at hk
      · rename_i f hfi
        split at hk
        · rename_i hag hsz
          split at hk
          · cases hk
            trivial
          · cases hk
        · cases hk
      · cases hk
    · cases hk
  · rename_i t x y ho
    split at hk
    · rename_i ht hx hy
      obtain ⟨wd, hw, rfl⟩ := Option.map_eq_some_iff.1 hk
      trivial
    · rename_i ht hx hy
      obtain ⟨wd, hw, rfl⟩ := Option.map_eq_some_iff.1 hk
      trivial
    · cases hk
  · rename_i t x y ho
    split at hk
    · rename_i ht hx hy
      split at hk
      · rename_i hag hsz
        split at hk
        · cases hk
          trivial
        · cases hk
      · cases hk
    · cases hk
  · rename_i x i ho
    obtain ⟨X, hX, rfl⟩ := Option.map_eq_some_iff.1 hk
    trivial
  · rename_i c ho
    obtain ⟨callee, args, ts⟩ := c
    dsimp only at hk
    split at hk
    · rename_i f
      split at hk
      · rename_i hf hx
        cases hk
        exact ⟨f, args, ts, ho, hf, hx⟩
      · cases hk
    · split at hk
      · rename_i t tr x r hts ha
        split at hk
        · rename_i ht hx
          cases hk
          trivial
        · rename_i ht
          cases hk
          trivial
        · rename_i ht
          split at hk
          · rename_i hr
            cases hk
            trivial
          · cases hk
        · cases hk
      · cases hk
    · split at hk
      · rename_i ha
        split at hk
        · rename_i hx hy
          cases hk
          trivial
        · cases hk
      · cases hk
    · split at hk
      · rename_i ha
        split at hk
        · rename_i hx hy
          cases hk
          trivial
        · cases hk
      · cases hk
    · split at hk
      · rename_i t u x y hts ha
        split at hk
        · rename_i ht hu hx hy
          split at hk
          · rename_i hw hb hz
            split at hk
            · rename_i hc
              cases hk
              split <;> trivial
            · cases hk
          · cases hk
        · cases hk
      · cases hk
    · cases hk
  · cases hk

theorem sop_makes {kk : K} (h : kk.makes = true) : sop e σ kk = none := by
  cases kk <;> simp [K.makes] at h <;> rfl

/-- An operation that is wanted. -/
theorem aop_ok (hO : OrOk P CR O) (ha : At CR base ann.ownv g0 w0 n b g w B e σ a) {o : Oper} (ho : ops[i]? = some o) (hw : Region.wanted o (yielded ops a.tmps) = true)
    {ntr : Bool} {op : Op} (hop : opC P ann n reg ops ntr i o = some op) (h : aop O op e σ = some (e', σ')) :
    Next1 P CR ann n ops base g0 w0 b g w a k cs i rest σ e' σ' := by
  unfold opC at hop
  split at hop
  case h_2 => cases hop
  rename_i kk hk
  split at hop
  case h_2 => cases hop
  rename_i gd hgd hdn
  simp only [Option.ite_none_right_eq_some, Bool.and_eq_true] at hop
  obtain ⟨⟨hown, hst⟩, hop⟩ := hop
  cases hop
  have hn : ∀ t, o.dst = some t → t < n := by
    intro t ht; rw [ht] at hdn; simpa using hdn
  have hV : kk.makes = false → ∀ t, o.dst = some t → t ∉ ann.ownv := by
    intro hm t ht
    rw [ht] at hown
    simp [hm] at hown
    simpa using hown
  have hd := kC_defer hk
  have hkeq := kC_eq hk
  unfold aop at h
  dsimp only at h
  split at h
  · -- a call
    rename_i kp F Xs
    split at h
    case h_2 => cases h
    rename_i d σ1 hc
    split at h
    case isFalse => cases h
    cases h
    obtain ⟨f, args, ts, h1, h2, h3⟩ := hkeq
    exact call_ok hO ha ho hw hn (hV rfl) h1 h2 h3 hc
  · -- a variable
    rename_i nb z
    obtain ⟨el, v, h1, h2, h3, h4⟩ := hkeq
    rw [h3] at h
    cases hnb : nilbs nb z σ with
    | none => simp [hnb] at h
    | some x =>
      obtain ⟨cs', σ1⟩ := x
      simp only [hnb, Option.some.injEq, Prod.mk.injEq] at h
      obtain ⟨rfl, rfl⟩ := h
      obtain ⟨i0, vz, hinfo, hzero, hrz, h1z⟩ := zeroC_rel g h2
      obtain ⟨g1, i1, e1, r1⟩ := nilbs_ok nb _ _ _ _ g _ hnb ha.inv hrz
      exact own_ok (el := el) ha ho hw hd h3 h4 (hn _ h3) (by simp [execOp, h1, run_alloc hinfo hzero]) i1 e1 (nilbs_goes _ _ _ _ _ hnb) r1 h1z
  · -- a variable with its value
    rename_i X
    obtain ⟨t, x, v, h1, h2, h3, h4⟩ := hkeq
    rw [h3] at h
    cases hcx : (opd e X).cells with
    | none => simp [hcx] at h
    | some cs' =>
      simp only [hcx, Option.some.injEq, Prod.mk.injEq] at h
      obtain ⟨rfl, rfl⟩ := h
      obtain ⟨tmps, df⟩ := a
      obtain ⟨hr, h1z⟩ := (ha.fr.opd (df := df) h2).cells hcx
      exact own_ok (el := t) ha ho hw hd h3 h4 (hn _ h3) (by simp [execOp, h1, Instr.box, newVar, newRow]) ha.inv (Ev.refl g w) (.refl σ) hr h1z
  · -- a variable is written
    rename_i v nb sz x X
    obtain ⟨t, y, h1, h2, h3⟩ := hkeq
    have hdst : o.dst = none := by simpa [K.stvs] using hst
    split at h
    case h_2 => cases h
    rename_i s cv off p hin hp
    split at h
    case isFalse => cases h
    rename_i hlen
    split at h
    case h_2 => cases h
    rename_i p' σ1 hnb
    cases h
    exact stv_ok ha ho hw hn (hV rfl) h1 h2 h3 hin hp hlen hnb hdst
  · -- any other
    rename_i k1 h1 h2 h3 h4
    cases hs : sop e σ kk with
    | none => simp [hs] at h
    | some x =>
      obtain ⟨d, σ1⟩ := x
      simp only [hs, Option.map_some, Option.some.injEq, Prod.mk.injEq] at h
      obtain ⟨rfl, rfl⟩ := h
      have hm : kk.makes = false := by
        cases hm : kk.makes
        · rfl
        · rw [sop_makes hm] at hs; cases hs
      obtain ⟨tmps, df⟩ := a
      obtain ⟨x, c, g', w', hrun, hx, he, hi, hr⟩ := sop_ok (df := df) ha.fr ha.inv hk hs
      exact next_value ha ho hn (hV hm) (.one (step_value ho hw hd hrun hx)) he hi (sop_goes hs) hr

inductive All2 {α β : Type} (R : α → β → Prop) : List α → List β → Prop
  | nil : All2 R [] []
  | cons {x : α} {y : β} {xs : List α} {ys : List β} : R x y → All2 R xs ys → All2 R (x :: xs) (y :: ys)

/-- An operation as its place in a region's row has it. -/
def OpAt (P : Program) (ann : Ann) (n reg : Nat) (ops : Array Oper) (i : Nat) (x : Op) : Prop := ∃ o ntr, ops[i]? = some o ∧ opC P ann n reg ops ntr i o = some x

theorem opC_inv {ntr : Bool} {o : Oper} {op : Op} (h : opC P ann n reg ops ntr i o = some op) :
    op.dst = o.dst ∧ (∀ t, o.dst = some t → t < n) ∧ ((o.guard = none ∧ op.grd = none) ∨ ∃ j d bb, o.guard = some (j, bb) ∧ op.grd = some (d, bb) ∧ (ops[j]?).bind (·.dst) = some d ∧ (∀ t, o.dst = some t → t ∉ ann.ownv)) := by
  unfold opC at h
  split at h
  case h_2 => cases h
  rename_i kk hk
  split at h
  case h_2 => cases h
  rename_i gd hgd hdn
  simp only [Option.ite_none_right_eq_some, Bool.and_eq_true] at h
  obtain ⟨⟨hown, hst⟩, h⟩ := h
  cases h
  refine ⟨rfl, fun t ht => by rw [ht] at hdn; simpa using hdn, ?_⟩
  cases hg : o.guard with
  | none => rw [hg] at hgd; cases hgd; exact .inl ⟨rfl, rfl⟩
  | some x =>
    obtain ⟨j, bb⟩ := x
    rw [hg] at hgd
    dsimp only at hgd
    cases hj : (ops[j]?).bind (·.dst) with
    | none => rw [hj] at hgd; cases hgd
    | some d =>
      rw [hj] at hgd; cases hgd
      refine .inr ⟨j, d, bb, rfl, rfl, hj, fun t ht => ?_⟩
      rw [ht, hg] at hown
      simpa using hown

/-- A row of operations, in whatever order. -/
theorem ops_ok (hO : OrOk P CR O) : ∀ (is : List Nat) (xs : List Op) (e : Env) (σ : Stack) (g : G) (w : World) (B : Nat → Nat) (a : Act), All2 (OpAt P ann n reg ops) is xs →
    aops O xs e σ = some (e', σ') → At CR base ann.ownv g0 w0 n b g w B e σ a →
    ∃ g' w' B' a', Steps P (lone (b.atR a (.inRegion ops is :: k)) cs w) (lone (b.atR a' (.inRegion ops [] :: k)) cs w') ∧ At CR base ann.ownv g0 w0 n b g' w' B' e' σ' a' ∧ g.le g' ∧ Goes σ σ'
  | [], xs, e, σ, g, w, B, a, hF, h, ha => by
    cases hF
    simp only [aops, Option.some.injEq, Prod.mk.injEq] at h
    obtain ⟨rfl, rfl⟩ := h
    exact ⟨g, w, B, a, .refl _ _, ha, g.le_refl, .refl σ⟩
  | i :: is, xs, e, σ, g, w, B, a, hF, h, ha => by
    cases hF with
    | cons hx hF =>
      rename_i x xs
      obtain ⟨o, ntr, ho, hop⟩ := hx
      obtain ⟨hdst, hn, hgrd⟩ := opC_inv hop
      simp only [aops] at h
      have hgo : ∀ {e1 σ1 g1 w1 B1 a1}, Steps P (lone (b.atR a (.inRegion ops (i :: is) :: k)) cs w) (lone (b.atR a1 (.inRegion ops is :: k)) cs w1) →
          At CR base ann.ownv g0 w0 n b g1 w1 B1 e1 σ1 a1 → g.le g1 → Goes σ σ1 → aops O xs e1 σ1 = some (e', σ') →
          ∃ g' w' B' a', Steps P (lone (b.atR a (.inRegion ops (i :: is) :: k)) cs w) (lone (b.atR a' (.inRegion ops [] :: k)) cs w') ∧ At CR base ann.ownv g0 w0 n b g' w' B' e' σ' a' ∧ g.le g' ∧ Goes σ σ' := by
        intro e1 σ1 g1 w1 B1 a1 h1 h2 h3 h4 h5
        obtain ⟨g2, w2, B2, a2, k1, k2, k3, k4⟩ := ops_ok hO is xs _ _ _ _ _ _ hF h5 h2
        exact ⟨g2, w2, B2, a2, h1.trans k1, k2, h3.trans' k3, h4.trans k4⟩
      rcases hgrd with ⟨hg1, hg2⟩ | ⟨j, d, bb, hg1, hg2, hj, hV⟩
      · rw [hg2] at h
        simp only [Option.bind_eq_some_iff, Prod.exists] at h
        obtain ⟨e1, σ1, h1, h2⟩ := h
        obtain ⟨g1, w1, B1, a1, k1, k2, k3, k4⟩ := aop_ok (k := k) (cs := cs) (rest := is) hO ha ho (by simp [Region.wanted, hg1]) hop h1
        exact hgo k1 k2 k3 k4 h2
      · rw [hg2] at h
        dsimp only at h
        split at h
        case h_2 => cases h
        rename_i bv hbv
        have hy : yielded ops a.tmps j = bv := by
          have hrel := ha.fr.rel d
          unfold yielded
          rw [hj]
          simp only [Option.bind_some]
          cases hg : get e d with
          | bool b =>
            rw [hg] at hrel hbv
            have hrel' : RelV g (.bool b) (a.tmps.getD d Go.undef) := hrel
            have hval := hrel'.bool_inv
            simp only [D.bit, Option.some.injEq] at hbv
            subst hbv
            rw [Array.getD_eq_getD_getElem?] at hval
            cases hd : a.tmps[d]? with
            | none => rw [hd] at hval; simp [Go.undef] at hval
            | some y => rw [hd] at hval; simp at hval; subst hval; rfl
          | tup ds =>
            cases ds with
            | nil =>
              rw [hg] at hrel hbv
              have hrel' : RelV g (.tup []) (a.tmps.getD d Go.undef) := hrel
              have hval : a.tmps.getD d Go.undef = .tuple #[] := by
                generalize a.tmps.getD d Go.undef = z at hrel'
                cases hrel' with | tup _ cs hl =>
                  cases cs with | mk cs => cases cs with
                    | nil => rfl
                    | cons c cs => cases hl
              simp only [D.bit, Option.some.injEq] at hbv
              subst hbv
              rw [Array.getD_eq_getD_getElem?] at hval
              cases hd : a.tmps[d]? with
              | none => rfl
              | some y => rw [hd] at hval; simp at hval; subst hval; rfl
            | cons x xs => rw [hg] at hbv; simp [D.bit] at hbv
          | _ => rw [hg] at hbv; simp [D.bit] at hbv
        split at h
        · rename_i hb
          simp only [Option.bind_eq_some_iff, Prod.exists] at h
          obtain ⟨e1, σ1, h1, h2⟩ := h
          obtain ⟨g1, w1, B1, a1, k1, k2, k3, k4⟩ := aop_ok (k := k) (cs := cs) (rest := is) hO ha ho (by simp [Region.wanted, hg1, hy, hb]) hop h1
          exact hgo k1 k2 k3 k4 h2
        · rename_i hb
          have hstep := stepR_op_skip (P := P) (b := b) (a := a) (k := k) (cs := cs) (w := w) (ops := ops) (i := i) (rest := is) (by simp [ho, Region.wanted, hg1, hy, hb])
          rw [show (ops[i]?).bind (·.dst) = o.dst from by rw [ho]; rfl] at hstep
          obtain ⟨g1, w1, B1, a1, k1, k2, k3, k4⟩ := next_value (d := .tup []) ha ho hn hV (.one hstep) (Ev.refl g w) ha.inv (.refl σ) (RelT.of (.tup [] #[] .nil))
          rw [hdst] at h
          exact hgo k1 k2 k3 k4 h
end
end Go.Abs
