/-
  How high values lead: a block below the newest segment holds nothing that leads above it. What is handed out of a segment leads below it; so a segment may go.
-/
import Derived.Test.YticpenoicajakaaAbsReg
set_option linter.unusedVariables false
set_option linter.unusedSimpArgs false
namespace Go.Abs
open Go

mutual
/-- Leads a value to levels less than n alone? -/
def D.low (n : Nat) : D → Bool
  | .ref l .. => decide (l < n)
  | .sl l .. => decide (l < n)
  | .yld l _ => decide (l < n)
  | .vr .. => true
  | .own _ cs => D.lowL n cs
  | .agg cs => D.lowL n cs
  | .tup cs => D.lowL n cs
  | .cref cs => D.lowL n cs
  | .lst _ cs => D.lowL n cs
  | .fn _ a b => D.lowL n a && D.lowL n b
  | .undef => true
  | .bool _ => true
  | .int _ _ => true
  | .str _ => true
  | .nilp => true
  | .nils => true
  | .nilf => true
def D.lowL (n : Nat) : List D → Bool
  | [] => true
  | d :: ds => D.low n d && D.lowL n ds
end

theorem lowL_iff {n : Nat} {ds : List D} : D.lowL n ds = true ↔ ∀ d ∈ ds, d.low n = true := by
  induction ds with
  | nil => simp [D.lowL]
  | cons d ds ih => simp [D.lowL, ih]

mutual
theorem clean_low {n : Nat} : ∀ {d : D}, d.clean = true → d.low n = true
  | .ref .., h => by simp [D.clean] at h
  | .sl .., h => by simp [D.clean] at h
  | .yld .., h => by simp [D.clean] at h
  | .vr .., _ => rfl
  | .own _ cs, h => cleanL_low (ds := cs) (by simpa [D.clean] using h)
  | .agg cs, h => cleanL_low (ds := cs) (by simpa [D.clean] using h)
  | .tup cs, h => cleanL_low (ds := cs) (by simpa [D.clean] using h)
  | .cref cs, h => cleanL_low (ds := cs) (by simpa [D.clean] using h)
  | .lst _ cs, h => cleanL_low (ds := cs) (by simpa [D.clean] using h)
  | .fn _ a b, h => by
    simp only [D.clean, Bool.and_eq_true] at h
    simp only [D.low, Bool.and_eq_true]
    exact ⟨cleanL_low h.1, cleanL_low h.2⟩
  | .undef, _ => rfl
  | .bool _, _ => rfl
  | .int _ _, _ => rfl
  | .str _, _ => rfl
  | .nilp, _ => rfl
  | .nils, _ => rfl
  | .nilf, _ => rfl
theorem cleanL_low {n : Nat} : ∀ {ds : List D}, D.cleanL ds = true → D.lowL n ds = true
  | [], _ => rfl
  | d :: ds, h => by
    simp only [D.cleanL, Bool.and_eq_true] at h
    simp only [D.lowL, Bool.and_eq_true]
    exact ⟨clean_low h.1, cleanL_low h.2⟩
end

mutual
theorem RelV.low {g : G} {n : Nat} (hn : ∀ l i L, g.loc l i = some L → l < n) : ∀ {d : D} {c : Value}, RelV g d c → d.low n = true
  | _, _, .undef c => rfl
  | _, _, .bool b => rfl
  | _, _, .int k n => rfl
  | _, _, .str s => rfl
  | _, _, .agg ds cs hr h1 => RelL.low hn hr
  | _, _, .tup ds cs hr => RelL.low hn hr
  | _, _, .nilp => rfl
  | _, _, .ref l i v off b o L e hv hc hn' => by simp only [D.low, decide_eq_true_eq]; exact hn l i L e
  | _, _, .cref ds b o vs hr hl => RelL.low hn hl
  | _, _, .nils => rfl
  | _, _, .lstn => rfl
  | _, _, .lst n' ds a cap vs hn' hr hs hl => RelL.low hn hl
  | _, _, .sl l i v off n' w a cap L e hv hn' ha hs hc hc' => by simp only [D.low, decide_eq_true_eq]; exact hn l i L e
  | _, _, .fn f fs cs fs' cs' h1 h2 => by simp only [D.low, Bool.and_eq_true]; exact ⟨RelL.low hn h1, RelL.low hn h2⟩
  | _, _, .nilf => rfl
  | _, _, .yld l i b L e hc => by simp only [D.low, decide_eq_true_eq]; exact hn l i L e
theorem RelL.low {g : G} {n : Nat} (hn : ∀ l i L, g.loc l i = some L → l < n) : ∀ {ds : List D} {cs : List Value}, RelL g ds cs → D.lowL n ds = true
  | _, _, .nil => rfl
  | _, _, .cons d c ds cs h1 h2 => by simp only [D.lowL, Bool.and_eq_true]; exact ⟨RelV.low hn h1, RelL.low hn h2⟩
end

/-- The levels from n on are forgotten. -/
def G.cut (g : G) (n : Nat) : G := ⟨fun l i => if l < n then g.loc l i else none, g.imm⟩

theorem G.cut_loc {g : G} {n l i : Nat} (h : l < n) : (g.cut n).loc l i = g.loc l i := by simp [G.cut, h]
theorem G.cut_some {g : G} {n l i : Nat} {L : Loc} (h : (g.cut n).loc l i = some L) : l < n ∧ g.loc l i = some L := by
  simp only [G.cut] at h
  split at h
  · exact ⟨by assumption, h⟩
  · cases h

mutual
theorem RelV.cut {g : G} {n : Nat} : ∀ {d : D} {c : Value}, RelV g d c → d.low n = true → RelV (g.cut n) d c
  | _, _, .undef c, _ => .undef c
  | _, _, .bool b, _ => .bool b
  | _, _, .int k n, _ => .int k n
  | _, _, .str s, _ => .str s
  | _, _, .agg ds cs hr h1, h => .agg ds cs (RelL.cut hr h) h1
  | _, _, .tup ds cs hr, h => .tup ds cs (RelL.cut hr h)
  | _, _, .nilp, _ => .nilp
  | _, _, .ref l i v off b o L e hv hc hn', h => .ref l i v off b o L ((G.cut_loc (by simpa [D.low] using h)).trans e) hv hc hn'
  | _, _, .cref ds b o vs hr hl, h => .cref ds b o vs hr (RelL.cut hl h)
  | _, _, .nils, _ => .nils
  | _, _, .lstn, _ => .lstn
  | _, _, .lst n' ds a cap vs hn' hr hs hl, h => .lst n' ds a cap vs hn' hr hs (RelL.cut hl h)
  | _, _, .sl l i v off n' w a cap L e hv hn' ha hs hc hc', h => .sl l i v off n' w a cap L ((G.cut_loc (by simpa [D.low] using h)).trans e) hv hn' ha hs hc hc'
  | _, _, .fn f fs cs fs' cs' h1 h2, h => by
    simp only [D.low, Bool.and_eq_true] at h
    exact .fn f fs cs fs' cs' (RelL.cut h1 h.1) (RelL.cut h2 h.2)
  | _, _, .nilf, _ => .nilf
  | _, _, .yld l i b L e hc, h => .yld l i b L ((G.cut_loc (by simpa [D.low] using h)).trans e) hc
theorem RelL.cut {g : G} {n : Nat} : ∀ {ds : List D} {cs : List Value}, RelL g ds cs → D.lowL n ds = true → RelL (g.cut n) ds cs
  | _, _, .nil, _ => .nil
  | _, _, .cons d c ds cs h1 h2, h => by
    simp only [D.lowL, Bool.and_eq_true] at h
    exact .cons d c ds cs (RelV.cut h1 h.1) (RelL.cut h2 h.2)
end

mutual
theorem low_mono {n m : Nat} (hm : n ≤ m) : ∀ {d : D}, d.low n = true → d.low m = true
  | .ref l .., h => by simp only [D.low, decide_eq_true_eq] at h ⊢; omega
  | .sl l .., h => by simp only [D.low, decide_eq_true_eq] at h ⊢; omega
  | .yld l _, h => by simp only [D.low, decide_eq_true_eq] at h ⊢; omega
  | .vr .., _ => rfl
  | .own _ cs, h => lowL_mono (ds := cs) hm h
  | .agg cs, h => lowL_mono (ds := cs) hm h
  | .tup cs, h => lowL_mono (ds := cs) hm h
  | .cref cs, h => lowL_mono (ds := cs) hm h
  | .lst _ cs, h => lowL_mono (ds := cs) hm h
  | .fn _ a b, h => by
    simp only [D.low, Bool.and_eq_true] at h ⊢
    exact ⟨lowL_mono hm h.1, lowL_mono hm h.2⟩
  | .undef, _ => rfl
  | .bool _, _ => rfl
  | .int _ _, _ => rfl
  | .str _, _ => rfl
  | .nilp, _ => rfl
  | .nils, _ => rfl
  | .nilf, _ => rfl
theorem lowL_mono {n m : Nat} (hm : n ≤ m) : ∀ {ds : List D}, D.lowL n ds = true → D.lowL m ds = true
  | [], _ => rfl
  | d :: ds, h => by
    simp only [D.lowL, Bool.and_eq_true] at h ⊢
    exact ⟨low_mono hm h.1, lowL_mono hm h.2⟩
end

def Blk.low (n : Nat) : Blk → Prop
  | .cells _ cs => D.lowL n cs = true
  | .dead => True
  | .loop lp => ∀ t, (get lp.env t).low n = true

/-- A block below the newest segment holds nothing that leads above it. -/
def LowS (σ : Stack) : Prop := ∀ l i b, blk? σ l i = some b → l + 1 < σ.length → b.low (l + 1)

theorem LowS.set {σ : Stack} (h : LowS σ) {l i : Nat} {b : Blk} (hb : l + 1 < σ.length → b.low (l + 1)) : LowS (setBlk σ l i b) := by
  intro l' i' b' h1 h2
  rw [setBlk_length] at h2
  by_cases hc : l' = l ∧ i' = i
  · obtain ⟨rfl, rfl⟩ := hc
    cases h0 : blk? σ l' i' with
    | none =>
      have : blk? (setBlk σ l' i' b) l' i' = none := by
        unfold setBlk
        cases hs : seg? σ l' with
        | none => exact h0
        | some s =>
          simp only [blk?, seg?_setSeg (seg?_lt hs), Option.bind_some]
          simp only [blk?, hs, Option.bind_some] at h0
          rw [List.getElem?_eq_none_iff] at h0 ⊢
          simpa using h0
      rw [this] at h1; cases h1
    | some b0 => rw [blk?_setBlk h0] at h1; cases h1; exact hb h2
  · rw [blk?_setBlk_other hc] at h1; exact h l' i' b' h1 h2

theorem LowS.new {σ σ' : Stack} (h : LowS σ) {l i : Nat} {b : Blk} (hn : newBlk σ b = some (l, i, σ')) : LowS σ' := by
  obtain ⟨h1, h2, h3, h4, h5⟩ := newBlk_spec hn
  intro l' i' b' e hl
  by_cases hc : l' = l ∧ i' = i
  · omega
  · rw [h3 l' i' hc] at e; exact h l' i' b' e (by omega)

/-- A store that comes of another: as many segments; and low if that was. -/
structure Goes (σ σ' : Stack) : Prop where
  len : σ'.length = σ.length
  low : LowS σ → LowS σ'

theorem Goes.refl (σ : Stack) : Goes σ σ := ⟨rfl, id⟩
theorem Goes.trans {a b c : Stack} (h : Goes a b) (h' : Goes b c) : Goes a c := ⟨h'.len.trans h.len, fun x => h'.low (h.low x)⟩
theorem Goes.new {σ σ' : Stack} {l i : Nat} {b : Blk} (hn : newBlk σ b = some (l, i, σ')) : Goes σ σ' := ⟨(newBlk_spec hn).2.2.2.1, fun h => h.new hn⟩
theorem Goes.set {σ : Stack} {l i : Nat} {b : Blk} (hb : l + 1 < σ.length → b.low (l + 1)) : Goes σ (setBlk σ l i b) := ⟨setBlk_length, fun h => h.set hb⟩

theorem nilbs_goes : ∀ (nb : List (Nat × Nat)) (cs cs' : List D) (σ σ' : Stack), nilbs nb cs σ = some (cs', σ') → Goes σ σ'
  | [], cs, cs', σ, σ', h => by simp only [nilbs, Option.some.injEq, Prod.mk.injEq] at h; obtain ⟨rfl, rfl⟩ := h; exact .refl _
  | (p, w) :: r, cs, cs', σ, σ', h => by
    simp only [nilbs] at h
    split at h
    · simp only [Option.bind_eq_bind, Option.bind_eq_some_iff] at h
      obtain ⟨⟨l, i, σ1⟩, hn, h⟩ := h
      exact (Goes.new hn).trans (nilbs_goes r _ _ _ _ h)
    · exact nilbs_goes r _ _ _ _ h

theorem frz_spec (l : Nat) : ∀ (n : Nat) (d : D) (σ : Stack), (frz l n d σ).1.low (l + 1) = true ∧ Goes σ (frz l n d σ).2
  | 0, d, σ => ⟨rfl, .refl _⟩
  | n + 1, d, σ => by
    have ih : ∀ (ds : List D) (σ : Stack), D.lowL (l + 1) (frz.frzL (frz l n) ds σ).1 = true ∧ Goes σ (frz.frzL (frz l n) ds σ).2 := by
      intro ds
      induction ds with
      | nil => intro σ; exact ⟨rfl, .refl _⟩
      | cons d ds ihd =>
        intro σ
        obtain ⟨h1, h2⟩ := frz_spec l n d σ
        obtain ⟨h3, h4⟩ := ihd (frz l n d σ).2
        simp only [frz.frzL, D.lowL, Bool.and_eq_true]
        exact ⟨⟨h1, h3⟩, h2.trans h4⟩
    simp only [frz]
    split
    · rename_i hc; exact ⟨clean_low hc, .refl _⟩
    cases d with
    | agg cs => exact ih cs σ
    | tup cs => exact ih cs σ
    | cref cs => exact ih cs σ
    | lst m cs => exact ih cs σ
    | own s cs => exact ih cs σ
    | fn f a b =>
      obtain ⟨h1, h2⟩ := ih a σ
      obtain ⟨h3, h4⟩ := ih b (frz.frzL (frz l n) a σ).2
      refine ⟨?_, h2.trans h4⟩
      simp only [D.low, Bool.and_eq_true]
      exact ⟨h1, h3⟩
    | ref l' i v off =>
      dsimp only
      split
      · refine ⟨?_, .refl _⟩; simp only [D.low, decide_eq_true_eq]; omega
      · exact ⟨rfl, .refl _⟩
    | yld l' i =>
      dsimp only
      split
      · refine ⟨?_, .refl _⟩; simp only [D.low, decide_eq_true_eq]; omega
      · exact ⟨rfl, .refl _⟩
    | sl l' i v off m w =>
      dsimp only
      split
      · refine ⟨?_, .refl _⟩; simp only [D.low, decide_eq_true_eq]; omega
      · split
        · rename_i cs hcs
          obtain ⟨h1, h2⟩ := ih ((cs.drop off).take (m * w)) (setBlk σ l' i .dead)
          exact ⟨h1, (Goes.set (b := .dead) fun _ => trivial).trans h2⟩
        · exact ⟨rfl, .refl _⟩
    | _ => exact ⟨rfl, .refl _⟩

theorem frzL_spec (l n : Nat) (ds : List D) : ∀ (σ : Stack), D.lowL (l + 1) (frz.frzL (frz l n) ds σ).1 = true ∧ Goes σ (frz.frzL (frz l n) ds σ).2 := by
  induction ds with
  | nil => intro σ; exact ⟨rfl, .refl _⟩
  | cons d ds ihd =>
    intro σ
    obtain ⟨h1, h2⟩ := frz_spec l n d σ
    obtain ⟨h3, h4⟩ := ihd (frz l n d σ).2
    simp only [frz.frzL, D.lowL, Bool.and_eq_true]
    exact ⟨⟨h1, h3⟩, h2.trans h4⟩

theorem frzE_spec (l : Nat) : ∀ (e : Env) (σ : Stack), (∀ p ∈ (frzE l e σ).1, p.2.low (l + 1) = true) ∧ Goes σ (frzE l e σ).2
  | [], σ => ⟨by simp [frzE], .refl _⟩
  | (t, d) :: e, σ => by
    obtain ⟨h1, h2⟩ := frz_spec l deep d σ
    obtain ⟨h3, h4⟩ := frzE_spec l e (frz l deep d σ).2
    simp only [frzE]
    refine ⟨?_, h2.trans h4⟩
    intro p hp
    rcases List.mem_cons.1 hp with rfl | hp
    · exact h1
    · exact h3 p hp

theorem cells?_low {σ : Stack} (h : LowS σ) {l i v : Nat} {cs : List D} (hc : cells? σ l i v = some cs) (hl : l + 1 < σ.length) : D.lowL (l + 1) cs = true := by
  unfold cells? at hc
  split at hc
  case h_2 => cases hc
  rename_i v' cs' hb
  split at hc
  case isFalse => cases hc
  cases hc
  exact h l i _ hb hl

theorem lowL_append {n : Nat} {a b : List D} : D.lowL n (a ++ b) = true ↔ D.lowL n a = true ∧ D.lowL n b = true := by
  simp only [lowL_iff, List.mem_append]
  exact ⟨fun h => ⟨fun d hd => h d (.inl hd), fun d hd => h d (.inr hd)⟩, fun h d hd => hd.elim (h.1 d) (h.2 d)⟩
theorem lowL_take {n k : Nat} {a : List D} (h : D.lowL n a = true) : D.lowL n (a.take k) = true := by
  rw [lowL_iff] at h ⊢; exact fun d hd => h d (List.mem_of_mem_take hd)
theorem lowL_drop {n k : Nat} {a : List D} (h : D.lowL n a = true) : D.lowL n (a.drop k) = true := by
  rw [lowL_iff] at h ⊢; exact fun d hd => h d (List.mem_of_mem_drop hd)

/-- A calm operation leaves the store as it is. -/
theorem sop_same {e : Env} {σ σ' : Stack} {d : D} {k : K} (h : sop e σ k = some (d, σ')) (hk : k.calm = true) : σ' = σ := by
  cases k <;> simp only [K.calm, Bool.false_eq_true] at hk <;> simp only [sop, Option.bind_eq_bind, reduceCtorEq] at h <;> (repeat' split at h) <;>
    simp only [Option.map_eq_some_iff, Option.bind_eq_some_iff, Option.some.injEq, Prod.mk.injEq, Prod.exists, reduceCtorEq, exists_eq_left, and_false, exists_false] at h <;> (try split at h) <;>
    simp_all <;> (try (obtain ⟨_, _, h⟩ := h; simp_all)) <;> (try grind)

theorem sop_goes {e : Env} {σ σ' : Stack} {d : D} : ∀ {k : K}, sop e σ k = some (d, σ') → Goes σ σ'
  | .st nb sz a x, h => by
    simp only [sop] at h
    split at h
    case h_2 => cases h
    split at h
    case h_2 => cases h
    rename_i l i v off hX _ cs hcs
    split at h
    case h_2 => cases h
    rename_i p hcells
    split at h
    case isFalse => cases h
    rename_i hc
    split at h
    · rename_i htop
      split at h
      · rename_i p' σ1 hnb
        cases h
        have hg := nilbs_goes _ _ _ _ _ hnb
        exact hg.trans (Goes.set fun hl => by have := hg.len; omega)
      · cases h
    · rename_i htop
      cases h
      obtain ⟨h1, h2⟩ := frzL_spec l deep p σ
      refine ⟨setBlk_length.trans h2.len, fun hl => (h2.low hl).set fun hlt => ?_⟩
      have hcl := cells?_low hl hcs (by have := h2.len; omega)
      simp only [Blk.low, lowL_append]
      exact ⟨⟨lowL_take hcl, h1⟩, lowL_drop hcl⟩
  | .app w bytes s x, h => by
    simp only [sop, Option.bind_eq_bind, Option.bind_eq_some_iff] at h
    obtain ⟨⟨m, xs⟩, he, h⟩ := h
    dsimp only at h
    split at h
    · split at h
      case isFalse => cases h
      split at h
      · cases h; exact .refl _
      · simp only [Option.bind_eq_some_iff] at h
        obtain ⟨⟨l, i, σ1⟩, hn, h⟩ := h
        cases h
        exact .new hn
    · split at h
      case h_2 => cases h
      rename_i l i v off n w' hX _ cs hcs
      split at h
      case isFalse => cases h
      split at h
      · cases h
        exact .set fun hl => by omega
      · cases h
        obtain ⟨h1, h2⟩ := frzL_spec l deep xs σ
        refine ⟨setBlk_length.trans h2.len, fun hl => (h2.low hl).set fun hlt => ?_⟩
        have hcl := cells?_low hl hcs (by have := h2.len; omega)
        simp only [Blk.low, lowL_append]
        exact ⟨lowL_take (lowL_drop hcl), h1⟩
    · cases h
  | .alc nb cs, h => by
    simp only [sop, Option.bind_eq_bind, Option.bind_eq_some_iff] at h
    obtain ⟨⟨cs', σ1⟩, hnb, ⟨l, i, σ2⟩, hn, h⟩ := h
    cases h
    exact (nilbs_goes _ _ _ _ _ hnb).trans (.new hn)
  | .nilb w, h => by
    simp only [sop, Option.bind_eq_bind, Option.bind_eq_some_iff] at h
    obtain ⟨⟨l, i, σ2⟩, hn, h⟩ := h
    cases h
    exact .new hn
  | .boxm x, h => by
    simp only [sop, Option.bind_eq_bind, Option.bind_eq_some_iff] at h
    obtain ⟨cs, _, ⟨l, i, σ2⟩, hn, h⟩ := h
    cases h
    exact .new hn
  | .bsm .., h => by
    simp only [sop, Option.bind_eq_bind, Option.bind_eq_some_iff] at h
    obtain ⟨cs, _, ⟨l, i, σ2⟩, hn, h⟩ := h
    cases h
    exact .new hn
  | .mks .., h => by
    simp only [sop] at h
    split at h
    · split at h
      · simp only [Option.bind_eq_bind, Option.bind_eq_some_iff] at h
        obtain ⟨⟨l, i, σ2⟩, hn, h⟩ := h
        cases h
        exact .new hn
      · cases h
    · cases h
  | .mv _, h => same h rfl
  | .pick .., h => same h rfl
  | .alcv .., h => by simp [sop] at h
  | .boxi _, h => same h rfl
  | .boxv _, h => by simp [sop] at h
  | .bld .., h => same h rfl
  | .bsi .., h => same h rfl
  | .ld .., h => same h rfl
  | .ldv .., h => same h rfl
  | .stv .., h => by simp [sop] at h
  | .bin .., h => same h rfl
  | .eqv .., h => same h rfl
  | .un .., h => same h rfl
  | .cvt .., h => same h rfl
  | .mkf .., h => same h rfl
  | .slc .., h => same h rfl
  | .slca .., h => same h rfl
  | .fadr .., h => same h rfl
  | .fld .., h => same h rfl
  | .idxA .., h => same h rfl
  | .idxS .., h => same h rfl
  | .idxV .., h => same h rfl
  | .lenS .., h => same h rfl
  | .lenC .., h => same h rfl
  | .mn .., h => same h rfl
  | .mx .., h => same h rfl
  | .cpi .., h => same h rfl
  | .ext .., h => same h rfl
  | .call .., h => by simp [sop] at h
where
  same {e : Env} {σ σ' : Stack} {d : D} {k : K} (h : sop e σ k = some (d, σ')) (hk : k.calm = true) : Goes σ σ' := by
    rw [sop_same h hk]; exact .refl _
end Go.Abs
