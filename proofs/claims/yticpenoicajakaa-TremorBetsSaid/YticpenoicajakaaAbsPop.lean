/-
  Segments come and go; loops' records; what a frame holds behind a region, behind a round.
-/
import Derived.Test.YticpenoicajakaaAbsSched
set_option linter.unusedVariables false
set_option linter.unusedSimpArgs false
namespace Go.Abs
open Go

theorem blk?_lt {σ : Stack} {l i : Nat} {b : Blk} (h : blk? σ l i = some b) : l < σ.length := by
  unfold blk? at h
  cases hs : seg? σ l with
  | none => simp [hs] at h
  | some s => exact seg?_lt hs

theorem blk?_push {σ : Stack} {l i : Nat} : blk? ([] :: σ) l i = blk? σ l i := by
  simp only [blk?, seg?]
  split
  · rename_i h
    subst h
    cases hs : seg? σ σ.length with
    | none => simp
    | some s => exact absurd (seg?_lt hs) (Nat.lt_irrefl _)
  · rfl

theorem blk?_pop {s : List Blk} {σ : Stack} {l i : Nat} (h : l < σ.length) : blk? (s :: σ) l i = blk? σ l i := by
  simp only [blk?, seg?]
  rw [if_neg (by omega)]

section
variable {CR : CRel} {base : Nat} {g g' : G} {σ σ' : Stack} {w w' : World}

theorem Inv.lvl (hi : Inv CR base g σ w) {l i : Nat} {L : Loc} (h : g.loc l i = some L) : l < σ.length := by
  obtain ⟨b, hb, _⟩ := hi.dom l i L h
  exact blk?_lt hb

theorem Inv.push (hi : Inv CR base g σ w) : Inv CR base g ([] :: σ) w :=
  { hi with dom := fun l i L e => by rw [blk?_push]; exact hi.dom l i L e, tot := fun l i b e => by rw [blk?_push] at e; exact hi.tot l i b e }

theorem RelB.low {n : Nat} (hn : ∀ l i L, g.loc l i = some L → l < n) {b : Blk} {L : Loc} (h : RelB CR g w b L) : b.low n := by
  cases b with
  | cells v cs =>
    cases L with
    | «at» x off v' sz => obtain ⟨_, c, el, _, _, _, vs, hr, _⟩ := h; exact RelL.low hn hr
    | virt v' => obtain ⟨_, rfl⟩ := h; rfl
    | dead => exact h.elim
    | lp x => exact h.elim
  | dead => trivial
  | loop lp =>
    cases L with
    | lp x =>
      obtain ⟨r, _, hr⟩ := h
      exact fun t => RelV.low hn (hr.env t)
    | «at» x off v' sz => exact h.elim
    | virt v' => exact h.elim
    | dead => exact h.elim

theorem LowS.push (hi : Inv CR base g σ w) (h : LowS σ) : LowS ([] :: σ) := by
  intro l i b e hl
  rw [blk?_push] at e
  have hlt := blk?_lt e
  by_cases h1 : l + 1 < σ.length
  · exact h l i b e h1
  · obtain ⟨L, hL⟩ := hi.tot l i b e
    obtain ⟨b', hb', hr⟩ := hi.dom l i L hL
    rw [e] at hb'; cases hb'
    rw [show l + 1 = σ.length from by omega]
    exact hr.low fun l i L h => hi.lvl h

theorem RelB.cut {n : Nat} {b : Blk} {L : Loc} (h : RelB CR g w b L) (hl : b.low n) : RelB CR (g.cut n) w b L := by
  cases b with
  | cells v cs =>
    cases L with
    | «at» x off v' sz => obtain ⟨h1, c, el, h2, h3, h4, vs, hr, h5⟩ := h; exact ⟨h1, c, el, h2, h3, h4, vs, hr.cut hl, h5⟩
    | virt v' => exact h
    | dead => exact h
    | lp x => exact h
  | dead => cases L <;> exact h
  | loop lp =>
    cases L with
    | lp x =>
      obtain ⟨r, h1, hr⟩ := h
      exact ⟨r, h1, { hr with env := fun t => (hr.env t).cut (hl t) }⟩
    | «at» x off v' sz => exact h
    | virt v' => exact h
    | dead => exact h

theorem Blk.low_mono {n m : Nat} (h : n ≤ m) {b : Blk} (hb : b.low n) : b.low m := by
  cases b with
  | cells v cs => exact lowL_mono h hb
  | dead => trivial
  | loop lp => exact fun t => Abs.low_mono h (hb t)

/-- The newest segment goes. -/
theorem Inv.pop {s : List Blk} (hi : Inv CR base g (s :: σ) w) (h : LowS (s :: σ)) : Inv CR base (g.cut σ.length) σ w ∧ LowS σ := by
  refine ⟨⟨hi.ge, fun l i L e => ?_, hi.imm, fun l i L b e => hi.sep l i L b (G.cut_some e).2, fun l i L l' i' L' b e e' => hi.inj l i L l' i' L' b (G.cut_some e).2 (G.cut_some e').2,
    fun l i L b e => hi.lo l i L b (G.cut_some e).2, fun l i b e => ?_⟩, fun l i b e hl => ?_⟩
  · obtain ⟨hl, e⟩ := G.cut_some e
    obtain ⟨b, hb, hr⟩ := hi.dom l i L e
    have hlow := h l i b hb (by simp; omega)
    rw [blk?_pop hl] at hb
    exact ⟨b, hb, hr.cut (Blk.low_mono (by omega) hlow)⟩
  · have hl := blk?_lt e
    rw [← blk?_pop (s := s) hl] at e
    obtain ⟨L, hL⟩ := hi.tot l i b e
    exact ⟨L, by rw [G.cut_loc hl]; exact hL⟩
  · have hl' := blk?_lt e
    rw [← blk?_pop (s := s) hl'] at e
    exact h l i b e (by simp; omega)

theorem Ev.cut {n : Nat} (h : Ev g w g' w') (hn : ∀ l i L, g.loc l i = some L → l < n) : Ev g w (g'.cut n) w' where
  le := ⟨fun l i L e => by rw [G.cut_loc (hn l i L e)]; exact h.le.loc l i L e, h.le.imm⟩
  os := h.os
  tape := h.tape
  output := h.output
  size := h.size
  kept := h.kept
  img b hb := by
    obtain ⟨l, i, L, e, eb⟩ := hb
    exact h.img b ⟨l, i, L, (G.cut_some e).2, eb⟩
  immN := h.immN

theorem G.cut_has {n b : Nat} (h : (g.cut n).has b) : g.has b := by
  obtain ⟨l, i, L, e, eb⟩ := h
  exact ⟨l, i, L, (G.cut_some e).2, eb⟩

/-- A loop's record, new. -/
theorem Inv.newLoop (hi : Inv CR base g σ w) {l i : Nat} {lp : LoopSt} (hn : newBlk σ (.loop lp) = some (l, i, σ')) (r : Loop)
    (hr : RelLoop CR g lp r) :
    Inv CR base (g.setLoc l i (.lp w.heap.size)) σ' (w.alloc (.loop r)) ∧ Ev g w (g.setLoc l i (.lp w.heap.size)) (w.alloc (.loop r)) := by
  obtain ⟨h1, h2, h3, _, _⟩ := newBlk_spec hn
  have hnone := hi.none_of h1
  have hle : g.le (g.setLoc l i (.lp w.heap.size)) := G.le_setLoc fun L0 e => by rw [hnone] at e; cases e
  refine ⟨hi.turn l i hle h3 (fun l' i' c => G.setLoc_other c) (fun l' i' L b c e eb => alloc_old (hi.lo l' i' L b e eb).2) ?_ ?_ ?_ ?_ (by simp) ⟨_, G.setLoc_same⟩, ⟨hle, rfl, rfl, rfl, by simp, fun b hb _ => alloc_old hb, ?_, fun b o v hv => .inl hv⟩⟩
  · intro L e
    rw [G.setLoc_same] at e; cases e
    exact ⟨_, h2, r, alloc_new, { hr with env := hr.env.mono hle }⟩
  · intro b o v e
    obtain ⟨h1, h2⟩ := hi.imm b o v e
    exact ⟨(cell?_congr (alloc_old (hi.imm_lt e))).trans h1, h2⟩
  · intro l' i' L b e eb o
    by_cases c : l' = l ∧ i' = i
    · obtain ⟨rfl, rfl⟩ := c
      rw [G.setLoc_same] at e; cases e; cases eb
      cases e' : (g.setLoc l' i' (.lp w.heap.size)).imm w.heap.size o with
      | none => rfl
      | some v => have := hi.imm_lt (b := w.heap.size) (o := o) (v := v) e'; omega
    · rw [G.setLoc_other c] at e; exact hi.sep l' i' L b e eb o
  · intro L b e eb
    rw [G.setLoc_same] at e; cases e; cases eb
    refine ⟨hi.ge, by simp, fun l' i' L' c e' eb' => ?_⟩
    have := (hi.lo l' i' L' _ e' eb').2; omega
  · intro b hb
    obtain ⟨l', i', L, e, eb⟩ := hb
    by_cases c : l' = l ∧ i' = i
    · obtain ⟨rfl, rfl⟩ := c
      rw [G.setLoc_same] at e; cases e; cases eb; exact .inr (Nat.le_refl _)
    · rw [G.setLoc_other c] at e; exact .inl ⟨l', i', L, e, eb⟩

/-- A loop's record is turned. -/
theorem Inv.setLoop (hi : Inv CR base g σ w) {l i lb : Nat} {lp0 lp : LoopSt} (hL : g.loc l i = some (.lp lb)) (hb : blk? σ l i = some (.loop lp0)) {r : Loop} (hr : RelLoop CR g lp r) :
    Inv CR base g (setBlk σ l i (.loop lp)) (w.putObj lb (.loop r)) ∧ Ev g w g (w.putObj lb (.loop r)) := by
  have hlt := (hi.lo l i _ lb hL rfl).2
  have hoth : ∀ b, b ≠ lb → (w.putObj lb (.loop r)).heap[b]? = w.heap[b]? := fun b hne => World.putObj_heap_other hne
  refine ⟨hi.turn l i g.le_refl (fun l' i' c => blk?_setBlk_other c) (fun _ _ _ => rfl) ?_ ?_ ?_ hi.sep ?_ (by simp) ⟨_, hL⟩, ⟨g.le_refl, rfl, rfl, rfl, by simp, fun b _ hn => ?_, fun b hb => .inl hb, fun b o v hv => .inl hv⟩⟩
  · intro l' i' L b c e eb
    refine hoth b fun h => c ?_
    subst h
    exact hi.inj l' i' L l i _ b e hL eb rfl
  · intro L e
    rw [hL] at e; cases e
    exact ⟨_, blk?_setBlk hb, r, World.putObj_heap_same hlt, hr⟩
  · intro b o v e
    obtain ⟨h1, h2⟩ := hi.imm b o v e
    refine ⟨(cell?_congr (hoth b fun h => ?_)).trans h1, h2⟩
    subst h
    have := hi.sep l i _ b hL rfl o
    rw [e] at this; cases this
  · intro L b e eb
    rw [hL] at e; cases e; cases eb
    refine ⟨(hi.lo l i _ lb hL rfl).1, by simpa using hlt, fun l' i' L' c e' eb' => c ?_⟩
    exact hi.inj l' i' L' l i _ lb e' hL eb' rfl
  · refine hoth b fun h => hn ⟨l, i, _, hL, by rw [h]; rfl⟩
end

/-! ### What a frame holds -/

theorem get_map {live : List Nat} {f : D → D} {e : Env} (hf : f .undef = .undef) {t : Nat} : get (live.map fun t => (t, f (get e t))) t = if t ∈ live then f (get e t) else .undef := by
  induction live with
  | nil => simp [get]
  | cons u live ih =>
    simp only [List.map_cons, get, List.mem_cons]
    by_cases h : u = t
    · subst h; simp
    · rw [if_neg h, ih]
      by_cases h2 : t ∈ live
      · rw [if_pos h2, if_pos (.inr h2)]
      · rw [if_neg h2, if_neg (by intro h3; rcases h3 with h3 | h3; exact h h3.symm; exact h2 h3)]

theorem get_restrict {live : List Nat} {e : Env} {t : Nat} : get (restrict live e) t = if t ∈ live then (get e t).calm else .undef := get_map rfl
theorem get_strips {live : List Nat} {e : Env} {t : Nat} : get (strips live e) t = if t ∈ live then (get e t).strip else .undef := get_map rfl

section
variable {fb : Nat} {V : List Nat} {g : G} {w : World} {B : Nat → Nat} {e : Env} {tmps : Array Value}

theorem calm_own {d : D} {s : Nat} {cs : List D} (h : d.calm = .own s cs) : ∃ s', d = .own s' cs := by
  cases d <;> simp only [D.calm, reduceCtorEq, D.own.injEq] at h
  exact ⟨_, by rw [h.2]⟩

theorem Fr.restrict (hf : Fr fb V g w B e tmps) (live : List Nat) : Fr fb V g w B (restrict live e) tmps := by
  have hown : ∀ t s cs, get (Abs.restrict live e) t = .own s cs → ∃ s', get e t = .own s' cs := by
    intro t s cs h
    rw [get_restrict] at h
    split at h
    · exact calm_own h
    · cases h
  refine ⟨fun t => ?_, fun t s cs h => ?_, fun t t' s s' cs cs' h h' => ?_⟩
  · rw [get_restrict]
    split
    · have := hf.rel t
      cases hd : get e t <;> rw [hd] at this <;> simp only [D.calm] <;> first | exact this | exact RelV.undef _ | trivial
    · exact RelV.undef _
  · obtain ⟨s', h⟩ := hown t s cs h
    exact hf.own t s' cs h
  · obtain ⟨_, h⟩ := hown _ _ _ h
    obtain ⟨_, h'⟩ := hown _ _ _ h'
    exact hf.inj _ _ _ _ _ _ h h'

theorem Fr.strips (hf : Fr fb V g w B e tmps) (live : List Nat) : RelEnv g (strips live e) tmps := fun t => by
  rw [get_strips]
  split
  · exact hf.strip t
  · exact .undef _

theorem At.restrict {CR : CRel} {base n : Nat} {g0 : G} {w0 : World} {b : Frame} {σ : Stack} {a : Act} (ha : At CR base V g0 w0 n b g w B e σ a) (live : List Nat) : At CR base V g0 w0 n b g w B (restrict live e) σ a :=
  { ha with fr := ha.fr.restrict live }

theorem At.draw {CR : CRel} {base n : Nat} {g0 : G} {w0 : World} {b : Frame} {σ : Stack} {a : Act} (ha : At CR base V g0 w0 n b g w B e σ a) (w1 : World) (h : w1.heap = w.heap) (ho : w1.os = w.os) (ht : w1.tape = w.tape) (hp : w1.output = w.output) :
    At CR base V g0 w0 n b g w1 B e σ a :=
  ha.go (Ev.heap g h ho ht hp) (ha.inv.heap h) (.refl σ) (ha.fr.ev (Ev.heap g h ho ht hp)) rfl rfl

/-! A frame's temporaries frozen. -/

/-- An entry of a frame's row. -/
def Ent (fb : Nat) (V : List Nat) (g : G) (w : World) (B : Nat → Nat) (e0 : Env) (tmps : Array Value) (p : Nat × D) : Prop :=
  match p.2 with
  | .own s cs => (∃ s' cs', get e0 p.1 = .own s' cs') ∧ p.1 ∈ V ∧ tmps.getD p.1 Go.undef = .pointer (some ⟨B p.1, 0, none⟩) ∧ OwnB fb g w (B p.1) cs
  | d => RelV g d (tmps.getD p.1 Go.undef)

theorem Ent.ev {e0 : Env} {p : Nat × D} {g' : G} {w' : World} (h : Ent fb V g w B e0 tmps p) (he : Ev g w g' w') : Ent fb V g' w' B e0 tmps p := by
  obtain ⟨t, d⟩ := p
  unfold Ent at h ⊢
  dsimp only at h ⊢
  split
  · obtain ⟨h1, h2, h3, h4⟩ := h
    exact ⟨h1, h2, h3, h4.ev he⟩
  · rename_i hd
    cases d with
    | own s cs => exact absurd rfl (hd s cs)
    | _ => exact h.mono he.le

theorem get_mem {e : Env} {t : Nat} : get e t = .undef ∨ (t, get e t) ∈ e := by
  induction e with
  | nil => exact .inl rfl
  | cons p e ih =>
    obtain ⟨k, v⟩ := p
    simp only [get]
    split
    · rename_i h; subst h; exact .inr (by simp)
    · exact ih.imp id fun h => by simp [h]

theorem Fr.ents (hf : Fr fb V g w B e tmps) (live : List Nat) : ∀ p ∈ Abs.restrict live e, Ent fb V g w B e tmps p := by
  intro p hp
  simp only [Abs.restrict, List.mem_map] at hp
  obtain ⟨t, _, rfl⟩ := hp
  unfold Ent
  dsimp only
  cases hd : get e t with
  | own s cs =>
    obtain ⟨h1, h2, h3⟩ := hf.own t s cs hd
    exact ⟨⟨s, cs, rfl⟩, h1, h2, h3⟩
  | vr => exact .undef _
  | _ => have := hf.rel t; rw [hd] at this; exact this

theorem Ent.fr (hf : Fr fb V g w B e tmps) {g' : G} {w' : World} {e' : Env} (h : ∀ p ∈ e', Ent fb V g' w' B e tmps p) : Fr fb V g' w' B e' tmps := by
  refine ⟨fun t => ?_, fun t s cs hg => ?_, fun t t' s s' cs cs' hg hg' hB => ?_⟩
  · rcases get_mem (e := e') (t := t) with hm | hm
    · rw [hm]; exact RelV.undef _
    · have := h _ hm
      unfold Ent at this
      dsimp only at this
      cases hd : get e' t with
      | own s cs => trivial
      | vr => rw [hd] at this; cases this
      | _ => rw [hd] at this; exact this
  · rcases get_mem (e := e') (t := t) with hm | hm
    · rw [hm] at hg; cases hg
    · have := h _ hm
      rw [hg] at this
      exact ⟨this.2.1, this.2.2.1, this.2.2.2⟩
  · have h1 : ∃ s cs, get e t = .own s cs := by
      rcases get_mem (e := e') (t := t) with hm | hm
      · rw [hm] at hg; cases hg
      · have := h _ hm; rw [hg] at this; exact this.1
    have h2 : ∃ s cs, get e t' = .own s cs := by
      rcases get_mem (e := e') (t := t') with hm | hm
      · rw [hm] at hg'; cases hg'
      · have := h _ hm; rw [hg'] at this; exact this.1
    obtain ⟨_, _, h1⟩ := h1
    obtain ⟨_, _, h2⟩ := h2
    exact hf.inj _ _ _ _ _ _ h1 h2 hB

theorem not_own {g : G} {d : D} {c : Value} (h : RelV g d c) (s : Nat) (cs : List D) : d ≠ .own s cs := by intro e; subst e; cases h

theorem Ent.of {e0 : Env} {t : Nat} {d : D} (h : RelV g d (tmps.getD t Go.undef)) : Ent fb V g w B e0 tmps (t, d) := by
  unfold Ent
  dsimp only
  split
  · cases h
  · exact h

theorem frz_own {l n s : Nat} {cs : List D} {σ : Stack} : frz l (n + 1) (.own s cs) σ = if (D.own s cs).clean then (.own s cs, σ) else (.own s (frz.frzL (frz l n) cs σ).1, (frz.frzL (frz l n) cs σ).2) := by
  simp only [frz]

theorem frzE_ok {CR : CRel} {base : Nat} {e0 : Env} (l : Nat) : ∀ (es : Env) (σ : Stack) (g : G), Inv CR base g σ w → (∀ p ∈ es, Ent fb V g w B e0 tmps p) →
    ∃ g', Inv CR base g' (frzE l es σ).2 w ∧ Ev g w g' w ∧ ∀ p ∈ (frzE l es σ).1, Ent fb V g' w B e0 tmps p
  | [], σ, g, hi, h => ⟨g, hi, Ev.refl g w, by simp [frzE]⟩
  | (t, d) :: es, σ, g, hi, h => by
    have h1 : ∃ g1, Inv CR base g1 (frz l deep d σ).2 w ∧ Ev g w g1 w ∧ Ent fb V g1 w B e0 tmps (t, (frz l deep d σ).1) := by
      have h0 := h (t, d) (by simp)
      cases hd : d with
      | own s cs =>
        subst hd
        obtain ⟨k1, k2, k3, k4⟩ := h0
        rw [show frz l deep (.own s cs) σ = frz l (15 + 1) (.own s cs) σ from rfl, frz_own]
        split
        · exact ⟨g, hi, Ev.refl g w, k1, k2, k3, k4⟩
        · obtain ⟨ca, el, hb, hr, h1c⟩ := k4.blk
          obtain ⟨g1, i1, e1, r1⟩ := frzL_ok (CR := CR) (base := base) (frz_ok l 15) cs σ g w _ hi hr
          have k5 := k4.ev e1
          exact ⟨g1, i1, e1, k1, k2, k3, k5.lo, k5.free, k5.noimm, ca, el, hb, r1, h1c⟩
      | _ =>
        rw [hd] at h0
        obtain ⟨g1, i1, e1, r1⟩ := frz_ok (CR := CR) (base := base) l deep _ σ g w _ hi h0
        exact ⟨g1, i1, e1, Ent.of r1⟩
    obtain ⟨g1, i1, e1, k1⟩ := h1
    obtain ⟨g2, i2, e2, k2⟩ := frzE_ok l es (frz l deep d σ).2 g1 i1 fun p hp => (h p (by simp [hp])).ev e1
    refine ⟨g2, i2, e1.trans e2, fun p hp => ?_⟩
    simp only [frzE] at hp
    rcases List.mem_cons.1 hp with rfl | hp
    · exact k1.ev e2
    · exact k2 p hp
end
end Go.Abs
