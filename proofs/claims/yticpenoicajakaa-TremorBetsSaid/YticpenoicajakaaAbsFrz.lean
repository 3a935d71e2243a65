/-
  Freezing: blocks of the store become plain data that nobody writes.
-/
import Derived.Test.YticpenoicajakaaAbsOps4
set_option linter.unusedVariables false
set_option linter.unusedSimpArgs false
namespace Go.Abs
open Go

section
variable {CR : CRel} {base : Nat} {g : G} {σ : Stack} {w : World}

/-- A block dies; its cells are claimed for ever. -/
theorem Inv.kill (hi : Inv CR base g σ w) {l i v : Nat} {cs : List D} {L : Loc} (hL : g.loc l i = some L) (hb : blk? σ l i = some (.cells v cs)) (hok : L.okv v) :
    ∃ g', Inv CR base g' (setBlk σ l i .dead) w ∧ Ev g w g' w ∧
      (L = .virt v ∧ cs = [] ∨ ∃ b o vs sz, L = .at b o v sz ∧ g'.row b o vs ∧ RelL g cs vs) := by
  obtain ⟨b0, hb0, hrel⟩ := hi.dom l i L hL
  rw [hb] at hb0; cases hb0
  cases L with
  | dead => exact hrel.elim
  | lp x => exact hrel.elim
  | virt v' =>
    obtain ⟨rfl, rfl⟩ := hrel
    have hle : g.le (g.setLoc l i .dead) := G.le_setLoc fun L0 e => by rw [hL] at e; cases e; simp [Loc.le]
    refine ⟨g.setLoc l i .dead, hi.turn l i hle (fun l' i' c => blk?_setBlk_other c) (fun l' i' c => G.setLoc_other c) (fun _ _ _ _ _ _ _ => rfl) ?_ hi.imm ?_ ?_ (Nat.le_refl _) ⟨_, G.setLoc_same⟩, ⟨hle, rfl, rfl, rfl, Nat.le_refl _, fun _ _ _ => rfl, ?_, fun b o v hv => .inl hv⟩, .inl ⟨rfl, rfl⟩⟩
    · intro L e; rw [G.setLoc_same] at e; cases e; exact ⟨_, blk?_setBlk hb, trivial⟩
    · intro l' i' L b e eb o
      by_cases c : l' = l ∧ i' = i
      · obtain ⟨rfl, rfl⟩ := c; rw [G.setLoc_same] at e; cases e; cases eb
      · rw [G.setLoc_other c] at e; exact hi.sep l' i' L b e eb o
    · intro L b e eb; rw [G.setLoc_same] at e; cases e; cases eb
    · intro b hb'
      obtain ⟨l', i', L, e, eb⟩ := hb'
      by_cases c : l' = l ∧ i' = i
      · obtain ⟨rfl, rfl⟩ := c; rw [G.setLoc_same] at e; cases e; cases eb
      · rw [G.setLoc_other c] at e; exact .inl ⟨l', i', L, e, eb⟩
  | «at» b o v' sz =>
    obtain ⟨rfl, ca, el, hheap, hsz, hlen, vs, hr, hvs⟩ := hrel
    -- the claims: the cells of the row that are there
    let g' : G := ⟨fun l' i' => if l' = l ∧ i' = i then some .dead else g.loc l' i', fun b' o' => if b' = b then (if o ≤ o' then vs[o' - o]? else none) else g.imm b' o'⟩
    have hsame : g'.loc l i = some .dead := by simp [g']
    have hother : ∀ l' i', ¬ (l' = l ∧ i' = i) → g'.loc l' i' = g.loc l' i' := fun l' i' c => by simp only [g']; rw [if_neg c]
    have hnob : ∀ o', g.imm b o' = none := hi.sep l i _ b hL rfl
    have hle : g.le g' := by
      refine ⟨fun l' i' L' e => ?_, fun b' o' x e => ?_⟩
      · by_cases c : l' = l ∧ i' = i
        · obtain ⟨rfl, rfl⟩ := c; rw [hL] at e; cases e; exact ⟨.dead, hsame, by simp [Loc.le]⟩
        · exact ⟨L', by rw [hother _ _ c]; exact e, L'.le_refl⟩
      · have : b' ≠ b := fun h => by subst h; rw [hnob] at e; cases e
        simp only [g']; rw [if_neg this]; exact e
    refine ⟨g', hi.turn l i hle (fun l' i' c => blk?_setBlk_other c) hother (fun _ _ _ _ _ _ _ => rfl) ?_ ?_ ?_ ?_ (Nat.le_refl _) ⟨.dead, by simp [g']⟩, ⟨hle, rfl, rfl, rfl, Nat.le_refl _, fun _ _ _ => rfl, ?_, ?_⟩, .inr ⟨b, o, vs, sz, rfl, ?_, hr⟩⟩
    · intro L e; rw [hsame] at e; cases e; exact ⟨_, blk?_setBlk hb, trivial⟩
    · intro b' o' x e
      simp only [g'] at e
      split at e
      · rename_i hb'; subst hb'
        split at e
        · rename_i hoo
          obtain ⟨h1, h2⟩ := hvs _ x e
          rw [show o + (o' - o) = o' from by omega] at h1
          exact ⟨by simp only [World.cell?, hheap]; simpa using h1, h2⟩
        · cases e
      · exact hi.imm b' o' x e
    · intro l' i' L' b' e eb o'
      by_cases c : l' = l ∧ i' = i
      · obtain ⟨rfl, rfl⟩ := c; rw [hsame] at e; cases e; cases eb
      · rw [hother _ _ c] at e
        have : b' ≠ b := fun h => by subst h; exact c (hi.inj _ _ _ _ _ _ b' e hL eb rfl)
        simp only [g']; rw [if_neg this]; exact hi.sep l' i' L' b' e eb o'
    · intro L b' e eb; rw [hsame] at e; cases e; cases eb
    · intro b' hb'
      obtain ⟨l', i', L', e, eb⟩ := hb'
      by_cases c : l' = l ∧ i' = i
      · obtain ⟨rfl, rfl⟩ := c; rw [hsame] at e; cases e; cases eb
      · rw [hother _ _ c] at e; exact .inl ⟨l', i', L', e, eb⟩
    · intro b' o' x e
      simp only [g'] at e
      split at e
      · rename_i hb'; subst hb'; exact .inr (.inl ⟨l, i, _, hL, rfl⟩)
      · exact .inl e
    · intro j x hx; simp only [g', if_true]; rw [if_pos (by omega), show o + j - o = j from by omega]; exact hx

/-- What freezing does, of a value. -/
def FrzOk (CR : CRel) (base : Nat) (f : D → Stack → D × Stack) : Prop :=
  ∀ (d : D) (σ : Stack) (g : G) (w : World) (c : Value), Inv CR base g σ w → RelV g d c →
    ∃ g', Inv CR base g' (f d σ).2 w ∧ Ev g w g' w ∧ RelV g' (f d σ).1 c

theorem frzL_ok {f : D → Stack → D × Stack} (hf : FrzOk CR base f) : ∀ (ds : List D) (σ : Stack) (g : G) (w : World) (cs : List Value), Inv CR base g σ w → RelL g ds cs →
    ∃ g', Inv CR base g' (frz.frzL f ds σ).2 w ∧ Ev g w g' w ∧ RelL g' (frz.frzL f ds σ).1 cs
  | [], σ, g, w, cs, hi, hr => by cases hr; exact ⟨g, hi, Ev.refl g w, .nil⟩
  | d :: ds, σ, g, w, cs, hi, hr => by
    cases hr with
    | cons _ c _ cs h1 h2 =>
      obtain ⟨g1, i1, e1, r1⟩ := hf d σ g w c hi h1
      obtain ⟨g2, i2, e2, r2⟩ := frzL_ok hf ds (f d σ).2 g1 w cs i1 (h2.mono e1.le)
      exact ⟨g2, i2, e1.trans e2, .cons _ _ _ _ (r1.mono e2.le) r2⟩

theorem frz_ok (l : Nat) : ∀ n, FrzOk CR base (frz l n)
  | 0, d, σ, g, w, c, hi, hr => ⟨g, hi, Ev.refl g w, .undef c⟩
  | n + 1, d, σ, g, w, c, hi, hr => by
    have ih := frzL_ok (CR := CR) (base := base) (frz_ok l n)
    simp only [frz]
    split
    · exact ⟨g, hi, Ev.refl g w, hr⟩
    cases d with
    | agg ds =>
      cases hr with
      | agg _ cs hr h1 =>
        obtain ⟨g', i1, e1, r1⟩ := ih ds σ g w _ hi hr
        exact ⟨g', i1, e1, .agg _ cs r1 h1⟩
    | tup ds =>
      cases hr with
      | tup _ cs hr =>
        obtain ⟨g', i1, e1, r1⟩ := ih ds σ g w _ hi hr
        exact ⟨g', i1, e1, .tup _ cs r1⟩
    | cref ds =>
      cases hr with
      | cref _ b o vs h1 hr =>
        obtain ⟨g', i1, e1, r1⟩ := ih ds σ g w _ hi hr
        exact ⟨g', i1, e1, .cref _ b o vs (G.row_le e1.le h1) r1⟩
    | lst m ds =>
      cases hr with
      | lstn => exact ⟨g, by simpa [frz.frzL] using hi, Ev.refl g w, by simpa [frz.frzL] using RelV.lstn⟩
      | lst _ _ a cap vs hn h1 h2 hr =>
        obtain ⟨g', i1, e1, r1⟩ := ih ds σ g w _ hi hr
        exact ⟨g', i1, e1, .lst _ _ a cap vs hn (G.row_le e1.le h1) h2 r1⟩
    | fn f a b =>
      cases hr with
      | fn _ _ _ a' b' h1 h2 =>
        obtain ⟨g1, i1, e1, r1⟩ := ih a σ g w _ hi h1
        obtain ⟨g2, i2, e2, r2⟩ := ih b _ g1 w _ i1 (h2.mono e1.le)
        exact ⟨g2, i2, e1.trans e2, .fn f _ _ a' b' (r1.mono e2.le) r2⟩
    | ref l' i v off =>
      dsimp only
      split
      · exact ⟨g, hi, Ev.refl g w, hr⟩
      · exact ⟨g, hi, Ev.refl g w, .undef c⟩
    | yld l' i =>
      dsimp only
      split
      · exact ⟨g, hi, Ev.refl g w, hr⟩
      · exact ⟨g, hi, Ev.refl g w, .undef c⟩
    | sl l' i v off m wd =>
      dsimp only
      split
      · exact ⟨g, hi, Ev.refl g w, hr⟩
      · split
        · rename_i cs hcs
          cases hr with
          | sl _ _ _ _ _ _ a cap L h1 h2 h3 h4 h5 h6 h7 =>
            unfold cells? at hcs
            split at hcs
            case h_2 => cases hcs
            rename_i v' cs' hblk
            split at hcs
            case isFalse => cases hcs
            rename_i hv; subst hv; cases hcs
            obtain ⟨g1, i1, e1, hk⟩ := hi.kill h1 hblk h2
            rcases hk with ⟨rfl, rfl⟩ | ⟨b, o, vs, sz, rfl, hrow, hrl⟩
            · obtain rfl := h7 rfl
              obtain rfl := h4 rfl
              obtain rfl : m = 0 := by omega
              exact ⟨g1, by simpa [frz.frzL] using i1, e1, by simpa [frz.frzL] using RelV.lstn⟩
            · obtain ⟨g2, i2, e2, r2⟩ := ih ((cs.drop off).take (m * wd)) _ g1 w ((vs.drop off).take (m * wd)) i1 (((hrl.drop off).take _).mono e1.le)
              refine ⟨g2, i2, e1.trans e2, ?_⟩
              rcases h6 b o sz rfl with ⟨rfl, h8⟩ | rfl
              · exact .lst _ _ _ _ ((vs.drop off).take (m * wd)) h3 (G.row_le e2.le (row_take (row_drop hrow off) _)) (fun _ => rfl) r2
              · obtain rfl : m = 0 := by omega
                cases a with
                | none => simpa [frz.frzL] using RelV.lstn (g := g2)
                | some a => exact .lst _ _ a _ [] (Nat.le_refl _) (fun _ _ hh => by simp at hh) (fun hh => absurd rfl hh) (by simpa [frz.frzL] using RelL.nil)
        · exact ⟨g, hi, Ev.refl g w, .undef c⟩
    | own s cs => cases hr
    | vr x s off => cases hr
    | undef => exact ⟨g, hi, Ev.refl g w, .undef c⟩
    | bool b => exact ⟨g, hi, Ev.refl g w, .undef c⟩
    | int k m => exact ⟨g, hi, Ev.refl g w, .undef c⟩
    | str s => exact ⟨g, hi, Ev.refl g w, .undef c⟩
    | nilp => exact ⟨g, hi, Ev.refl g w, .undef c⟩
    | nils => exact ⟨g, hi, Ev.refl g w, .undef c⟩
    | nilf => exact ⟨g, hi, Ev.refl g w, .undef c⟩
end
end Go.Abs
