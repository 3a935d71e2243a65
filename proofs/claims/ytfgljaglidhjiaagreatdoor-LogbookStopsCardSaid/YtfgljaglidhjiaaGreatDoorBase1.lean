/- The interpreter, part 1: proved sound against the model. -/
import Derived.Test.YtfgljaglidhjiaaGreatDoorBase0
import Derived.Laws.Strings2
import Derived.Laws.Slices
import Derived.Laws.Concat
import Derived.ChangeKeysEq
import Derived.MapKept
import Derived.WideKeyRuns
import Derived.Maps.RangeRun
import Derived.Laws.BytesString
import Derived.Lib.ConvBytes
import Derived.Lib.Builder
import Derived.Laws.Build
/-
  Freezing: blocks of the store become plain data that nobody writes.
-/
set_option linter.unusedVariables false
set_option linter.unusedSimpArgs false
namespace Go.Abs
open Go

section
variable {CR : CRel} {base : Nat} {g : G} {σ : Stack} {w : World}

theorem Inv.kill (hi : Inv CR base g σ w) {l i v : Nat} {cs : List D} {L : Loc} (hL : g.loc l i = some L) (hb : blk? σ l i = some (.cells v cs)) (hok : L.okv v) :
    ∃ g', Inv CR base g' (setBlk σ l i .dead) w ∧ Ev g w g' w ∧
      (L = .virt v ∧ cs = [] ∨ ∃ b o vs sz, L = .at b o v sz ∧ g'.row b o vs ∧ RelL g cs vs) := by
  obtain ⟨b0, hb0, hrel⟩ := hi.dom l i L hL
  rw [hb] at hb0; cases hb0
  cases L with
  | dead => exact hrel.elim
  | lp x => exact hrel.elim
  | mp x => exact hok.elim
  | it x => exact hok.elim
  | ob x _ => exact hok.elim
  | virt v' =>
    obtain ⟨rfl, rfl⟩ := hrel
    have hle : g.le (g.setLoc l i .dead) := G.le_setLoc fun L0 e => by rw [hL] at e; cases e; simp [Loc.le]
    refine ⟨g.setLoc l i .dead, hi.turn l i hle (fun l' i' c => blk?_setBlk_other c) (fun l' i' c => G.setLoc_other c) (fun _ _ _ _ _ _ _ => rfl) ?_ hi.imm ?_ ?_ (Nat.le_refl _) ⟨_, G.setLoc_same⟩ (fun _ _ _ => rfl), ⟨hle, rfl, rfl, rfl, Nat.le_refl _, fun _ _ _ => rfl, ?_, fun b o v hv => .inl hv⟩, .inl ⟨rfl, rfl⟩⟩
    · intro L e; rw [G.setLoc_same] at e; cases e; exact ⟨_, blk?_setBlk hb, trivial⟩
    · intro l' i' L b e eb o
      by_cases c : l' = l ∧ i' = i
      · obtain ⟨rfl, rfl⟩ := c; rw [G.setLoc_same] at e; cases e; cases eb
      · rw [G.setLoc_other c] at e; exact hi.sep l' i' L b e eb o
    · intro L b e eb; rw [G.setLoc_same] at e; cases e; cases eb
    · intro b hb'
      obtain ⟨l', i', L, e, eb⟩ := hb'
      by_cases c : l' = l ∧ i' = i
      · obtain ⟨rfl, rfl⟩ := c; rw [G.setLoc_same] at e; cases e; cases eb
      · rw [G.setLoc_other c] at e; exact .inl ⟨l', i', L, e, eb⟩
  | «at» b o v' sz =>
    obtain ⟨rfl, ca, el, hheap, hsz, hlen, vs, hr, hvs⟩ := hrel
    -- the claims: the cells of the row that are there
    let g' : G := ⟨fun l' i' => if l' = l ∧ i' = i then some .dead else g.loc l' i', fun b' o' => if b' = b then (if o ≤ o' then vs[o' - o]? else none) else g.imm b' o'⟩
    have hsame : g'.loc l i = some .dead := by simp [g']
    have hother : ∀ l' i', ¬ (l' = l ∧ i' = i) → g'.loc l' i' = g.loc l' i' := fun l' i' c => by simp only [g']; rw [if_neg c]
    have hnob : ∀ o', g.imm b o' = none := hi.sep l i _ b hL rfl
    have hle : g.le g' := by
      refine ⟨fun l' i' L' e => ?_, fun b' o' x e => ?_⟩
      · by_cases c : l' = l ∧ i' = i
        · obtain ⟨rfl, rfl⟩ := c; rw [hL] at e; cases e; exact ⟨.dead, hsame, by simp [Loc.le]⟩
        · exact ⟨L', by rw [hother _ _ c]; exact e, L'.le_refl⟩
      · have : b' ≠ b := fun h => by subst h; rw [hnob] at e; cases e
        simp only [g']; rw [if_neg this]; exact e
    refine ⟨g', hi.turn l i hle (fun l' i' c => blk?_setBlk_other c) hother (fun _ _ _ _ _ _ _ => rfl) ?_ ?_ ?_ ?_ (Nat.le_refl _) ⟨.dead, by simp [g']⟩ (fun _ _ _ => rfl), ⟨hle, rfl, rfl, rfl, Nat.le_refl _, fun _ _ _ => rfl, ?_, ?_⟩, .inr ⟨b, o, vs, sz, rfl, ?_, hr⟩⟩
    · intro L e; rw [hsame] at e; cases e; exact ⟨_, blk?_setBlk hb, trivial⟩
    · intro b' o' x e
      simp only [g'] at e
      split at e
      · rename_i hb'; subst hb'
        split at e
        · rename_i hoo
          obtain ⟨h1, h2⟩ := hvs _ x e
          rw [show o + (o' - o) = o' from by omega] at h1
          exact ⟨by simp only [World.cell?, hheap]; simpa using h1, h2⟩
        · cases e
      · exact hi.imm b' o' x e
    · intro l' i' L' b' e eb o'
      by_cases c : l' = l ∧ i' = i
      · obtain ⟨rfl, rfl⟩ := c; rw [hsame] at e; cases e; cases eb
      · rw [hother _ _ c] at e
        have : b' ≠ b := fun h => by subst h; exact c (hi.inj _ _ _ _ _ _ b' e hL eb rfl)
        simp only [g']; rw [if_neg this]; exact hi.sep l' i' L' b' e eb o'
    · intro L b' e eb; rw [hsame] at e; cases e; cases eb
    · intro b' hb'
      obtain ⟨l', i', L', e, eb⟩ := hb'
      by_cases c : l' = l ∧ i' = i
      · obtain ⟨rfl, rfl⟩ := c; rw [hsame] at e; cases e; cases eb
      · rw [hother _ _ c] at e; exact .inl ⟨l', i', L', e, eb⟩
    · intro b' o' x e
      simp only [g'] at e
      split at e
      · rename_i hb'; subst hb'; exact .inr (.inl ⟨l, i, _, hL, rfl⟩)
      · exact .inl e
    · intro j x hx; simp only [g', if_true]; rw [if_pos (by omega), show o + j - o = j from by omega]; exact hx

def FrzOk (CR : CRel) (base : Nat) (f : D → Stack → D × Stack) : Prop :=
  ∀ (d : D) (σ : Stack) (g : G) (w : World) (c : Value), Inv CR base g σ w → RelV g d c →
    ∃ g', Inv CR base g' (f d σ).2 w ∧ Ev g w g' w ∧ RelV g' (f d σ).1 c

theorem frzL_ok {f : D → Stack → D × Stack} (hf : FrzOk CR base f) : ∀ (ds : List D) (σ : Stack) (g : G) (w : World) (cs : List Value), Inv CR base g σ w → RelL g ds cs →
    ∃ g', Inv CR base g' (frz.frzL f ds σ).2 w ∧ Ev g w g' w ∧ RelL g' (frz.frzL f ds σ).1 cs
  | [], σ, g, w, cs, hi, hr => by cases hr; exact ⟨g, hi, Ev.refl g w, .nil⟩
  | d :: ds, σ, g, w, cs, hi, hr => by
    cases hr with
    | cons _ c _ cs h1 h2 =>
      obtain ⟨g1, i1, e1, r1⟩ := hf d σ g w c hi h1
      obtain ⟨g2, i2, e2, r2⟩ := frzL_ok hf ds (f d σ).2 g1 w cs i1 (h2.mono e1.le)
      exact ⟨g2, i2, e1.trans e2, .cons _ _ _ _ (r1.mono e2.le) r2⟩

theorem frz_ok (l : Nat) : ∀ n, FrzOk CR base (frz l n)
  | 0, d, σ, g, w, c, hi, hr => ⟨g, hi, Ev.refl g w, .undef c⟩
  | n + 1, d, σ, g, w, c, hi, hr => by
    have ih := frzL_ok (CR := CR) (base := base) (frz_ok l n)
    simp only [frz]
    split
    · exact ⟨g, hi, Ev.refl g w, hr⟩
    cases d with
    | agg ds =>
      cases hr with
      | agg _ cs hr h1 =>
        obtain ⟨g', i1, e1, r1⟩ := ih ds σ g w _ hi hr
        exact ⟨g', i1, e1, .agg _ cs r1 h1⟩
    | tup ds =>
      cases hr with
      | tup _ cs hr =>
        obtain ⟨g', i1, e1, r1⟩ := ih ds σ g w _ hi hr
        exact ⟨g', i1, e1, .tup _ cs r1⟩
    | cref ds =>
      cases hr with
      | cref _ b o vs h1 hr =>
        obtain ⟨g', i1, e1, r1⟩ := ih ds σ g w _ hi hr
        exact ⟨g', i1, e1, .cref _ b o vs (G.row_le e1.le h1) r1⟩
    | lst m ds =>
      cases hr with
      | lstn => exact ⟨g, by simpa [frz.frzL] using hi, Ev.refl g w, by simpa [frz.frzL] using RelV.lstn⟩
      | lst _ _ a cap vs hn h1 h2 hr =>
        obtain ⟨g', i1, e1, r1⟩ := ih ds σ g w _ hi hr
        exact ⟨g', i1, e1, .lst _ _ a cap vs hn (G.row_le e1.le h1) h2 r1⟩
    | fn f a b =>
      cases hr with
      | fn _ _ _ a' b' h1 h2 =>
        obtain ⟨g1, i1, e1, r1⟩ := ih a σ g w _ hi h1
        obtain ⟨g2, i2, e2, r2⟩ := ih b _ g1 w _ i1 (h2.mono e1.le)
        exact ⟨g2, i2, e1.trans e2, .fn f _ _ a' b' (r1.mono e2.le) r2⟩
    | ref l' i v off =>
      dsimp only
      split
      · exact ⟨g, hi, Ev.refl g w, hr⟩
      · exact ⟨g, hi, Ev.refl g w, .undef c⟩
    | yld l' i =>
      dsimp only
      split
      · exact ⟨g, hi, Ev.refl g w, hr⟩
      · exact ⟨g, hi, Ev.refl g w, .undef c⟩
    | sl l' i v off m wd =>
      dsimp only
      split
      · exact ⟨g, hi, Ev.refl g w, hr⟩
      · split
        · rename_i cs hcs
          cases hr with
          | sl _ _ _ _ _ _ a cap L h1 h2 h3 h4 h5 h6 h7 =>
            unfold cells? at hcs
            split at hcs
            case h_2 => cases hcs
            rename_i v' cs' hblk
            split at hcs
            case isFalse => cases hcs
            rename_i hv; subst hv; cases hcs
            obtain ⟨g1, i1, e1, hk⟩ := hi.kill h1 hblk h2
            rcases hk with ⟨rfl, rfl⟩ | ⟨b, o, vs, sz, rfl, hrow, hrl⟩
            · obtain rfl := h7 rfl
              obtain rfl := h4 rfl
              obtain rfl : m = 0 := by omega
              exact ⟨g1, by simpa [frz.frzL] using i1, e1, by simpa [frz.frzL] using RelV.lstn⟩
            · obtain ⟨g2, i2, e2, r2⟩ := ih ((cs.drop off).take (m * wd)) _ g1 w ((vs.drop off).take (m * wd)) i1 (((hrl.drop off).take _).mono e1.le)
              refine ⟨g2, i2, e1.trans e2, ?_⟩
              rcases h6 b o sz rfl with ⟨rfl, h8⟩ | rfl
              · exact .lst _ _ _ _ ((vs.drop off).take (m * wd)) h3.1 (G.row_le e2.le (row_take (row_drop hrow off) _)) (fun _ => rfl) r2
              · obtain rfl : m = 0 := by omega
                cases a with
                | none => simpa [frz.frzL] using RelV.lstn (g := g2)
                | some a => exact .lst _ _ a _ [] (Nat.le_refl _) (fun _ _ hh => by simp at hh) (fun hh => absurd rfl hh) (by simpa [frz.frzL] using RelL.nil)
        · exact ⟨g, hi, Ev.refl g w, .undef c⟩
    | own s cs => cases hr
    | vr x s off => cases hr
    | emp => cases hr
    | undef => exact ⟨g, hi, Ev.refl g w, .undef c⟩
    | bool b => exact ⟨g, hi, Ev.refl g w, .undef c⟩
    | int k m => exact ⟨g, hi, Ev.refl g w, .undef c⟩
    | str s => exact ⟨g, hi, Ev.refl g w, .undef c⟩
    | nilp => exact ⟨g, hi, Ev.refl g w, .undef c⟩
    | nils => exact ⟨g, hi, Ev.refl g w, .undef c⟩
    | nilf => exact ⟨g, hi, Ev.refl g w, .undef c⟩
    | ifc t d => exact ⟨g, hi, Ev.refl g w, .undef c⟩
    | nili => exact ⟨g, hi, Ev.refl g w, .undef c⟩
end
end Go.Abs

/-
  Variables, stores, append.
-/
set_option linter.unusedVariables false
set_option linter.unusedSimpArgs false
namespace Go.Abs
open Go

section nilbs
variable {CR : CRel} {base : Nat}

theorem nilbs_ok {w : World} : ∀ (nb : List (Nat × Nat)) (cs cs' : List D) (σ σ' : Stack) (g : G) (vs : List Value), nilbs nb cs σ = some (cs', σ') → Inv CR base g σ w → RelL g cs vs →
    ∃ g', Inv CR base g' σ' w ∧ Ev g w g' w ∧ RelL g' cs' vs
  | [], cs, cs', σ, σ', g, vs, h, hi, hr => by
    simp only [nilbs, Option.some.injEq, Prod.mk.injEq] at h; obtain ⟨rfl, rfl⟩ := h
    exact ⟨g, hi, Ev.refl g w, hr⟩
  | (p, wd) :: nb, cs, cs', σ, σ', g, vs, h, hi, hr => by
    simp only [nilbs] at h
    split at h
    · rename_i hp
      simp only [Option.bind_eq_bind, Option.bind_eq_some_iff] at h
      obtain ⟨⟨l, i, σ1⟩, hn, h⟩ := h
      obtain ⟨i1, e1⟩ := hi.newVirt hn
      have hr' : RelL (g.setLoc l i (.virt 0)) (cs.set p (.sl l i 0 0 0 wd)) vs := by
        refine .of_get (by simp [hr.length]) fun j d c hd hc => ?_
        rw [List.getElem?_set] at hd
        split at hd
        · rename_i hpj; subst hpj
          split at hd
          · cases hd
            obtain ⟨c', hc', hrc⟩ := hr.get hp
            rw [hc] at hc'; cases hc'
            cases hrc
            exact .sl l i 0 0 0 wd none 0 (.virt 0) G.setLoc_same (Nat.le_refl _) (by omega) (fun _ => rfl) (fun _ hh => by cases hh) (fun _ _ _ hh => by cases hh) (fun _ => rfl)
          · cases hd
        · obtain ⟨c', hc', hrc⟩ := hr.get hd
          rw [hc] at hc'; cases hc'
          exact hrc.mono e1.le
      obtain ⟨g2, i2, e2, r2⟩ := nilbs_ok nb _ _ _ _ _ vs h i1 hr'
      exact ⟨g2, i2, e1.trans e2, r2⟩
    · exact nilbs_ok nb _ _ _ _ _ vs h hi hr

theorem nilbs_keep : ∀ (nb : List (Nat × Nat)) (cs cs' : List D) (σ σ' : Stack), nilbs nb cs σ = some (cs', σ') → σ'.length = σ.length ∧ cs'.length = cs.length ∧ ∀ l i b, blk? σ l i = some b → blk? σ' l i = some b
  | [], cs, cs', σ, σ', h => by
    simp only [nilbs, Option.some.injEq, Prod.mk.injEq] at h; obtain ⟨rfl, rfl⟩ := h
    exact ⟨rfl, rfl, fun _ _ _ h => h⟩
  | (p, wd) :: nb, cs, cs', σ, σ', h => by
    simp only [nilbs] at h
    split at h
    · simp only [Option.bind_eq_bind, Option.bind_eq_some_iff] at h
      obtain ⟨⟨l, i, σ1⟩, hn, h⟩ := h
      obtain ⟨h1, h2, h3⟩ := nilbs_keep nb _ _ _ _ h
      obtain ⟨k1, k2, k3, k4, _⟩ := newBlk_spec hn
      refine ⟨h1.trans k4, by simpa using h2, fun l' i' b hb => h3 l' i' b ?_⟩
      rw [k3 l' i' (fun hc => by obtain ⟨rfl, rfl⟩ := hc; rw [k1] at hb; cases hb)]; exact hb
    · exact nilbs_keep nb _ _ _ _ h

theorem frz_keep (l : Nat) : ∀ (n : Nat) (d : D) (σ : Stack), (frz l n d σ).2.length = σ.length ∧ ∀ l' i', l' ≤ l → blk? (frz l n d σ).2 l' i' = blk? σ l' i'
  | 0, d, σ => ⟨rfl, fun _ _ _ => rfl⟩
  | n + 1, d, σ => by
    have ih : ∀ (ds : List D) (σ : Stack), (frz.frzL (frz l n) ds σ).2.length = σ.length ∧ ∀ l' i', l' ≤ l → blk? (frz.frzL (frz l n) ds σ).2 l' i' = blk? σ l' i' := by
      intro ds
      induction ds with
      | nil => intro σ; exact ⟨rfl, fun _ _ _ => rfl⟩
      | cons d ds ihd =>
        intro σ
        obtain ⟨a1, a2⟩ := frz_keep l n d σ
        obtain ⟨b1, b2⟩ := ihd (frz l n d σ).2
        exact ⟨b1.trans a1, fun l' i' h => (b2 l' i' h).trans (a2 l' i' h)⟩
    simp only [frz]
    split
    · exact ⟨rfl, fun _ _ _ => rfl⟩
    split
    · exact ih _ σ
    · exact ih _ σ
    · exact ih _ σ
    · exact ih _ σ
    · exact ih _ σ
    · rename_i f a b _
      obtain ⟨a1, a2⟩ := ih a σ
      obtain ⟨b1, b2⟩ := ih b (frz.frzL (frz l n) a σ).2
      exact ⟨b1.trans a1, fun l' i' h => (b2 l' i' h).trans (a2 l' i' h)⟩
    · split <;> exact ⟨rfl, fun _ _ _ => rfl⟩
    · split <;> exact ⟨rfl, fun _ _ _ => rfl⟩
    · split
      · exact ⟨rfl, fun _ _ _ => rfl⟩
      · rename_i hgt
        split
        · rename_i cs _
          obtain ⟨a1, a2⟩ := ih ((cs.drop _).take _) (setBlk σ _ _ .dead)
          refine ⟨a1.trans setBlk_length, fun l' i' h => (a2 l' i' h).trans (blk?_setBlk_other fun hc => ?_)⟩
          omega
        · exact ⟨rfl, fun _ _ _ => rfl⟩
    · exact ⟨rfl, fun _ _ _ => rfl⟩

theorem frzL_keep (l n : Nat) (ds : List D) (σ : Stack) : (frz.frzL (frz l n) ds σ).2.length = σ.length ∧ (frz.frzL (frz l n) ds σ).1.length = ds.length ∧ ∀ l' i', l' ≤ l → blk? (frz.frzL (frz l n) ds σ).2 l' i' = blk? σ l' i' := by
  induction ds generalizing σ with
  | nil => exact ⟨rfl, rfl, fun _ _ _ => rfl⟩
  | cons d ds ihd =>
    obtain ⟨a1, a2⟩ := frz_keep l n d σ
    obtain ⟨b1, b3, b2⟩ := ihd (frz l n d σ).2
    exact ⟨b1.trans a1, by simp [frz.frzL, b3], fun l' i' h => (b2 l' i' h).trans (a2 l' i' h)⟩
end nilbs

theorem row_write {c c' : Array Value} {bo off : Nat} {vs ps : List Value} (hvs : ∀ (j : Nat) x, vs[j]? = some x → c[bo + j]? = some x ∧ x.oneCell' = true) (h1 : ∀ x ∈ ps, x.oneCell' = true)
    (hle : off + ps.length ≤ vs.length) (hc' : ∀ j, c'[j]? = if bo + off ≤ j ∧ j < bo + off + ps.length then ps[j - (bo + off)]? else c[j]?) :
    ∀ (j : Nat) x, (vs.take off ++ ps ++ vs.drop (off + ps.length))[j]? = some x → c'[bo + j]? = some x ∧ x.oneCell' = true := by
  intro j x hj
  rw [hc']
  have hlt : (vs.take off).length = off := by simp; omega
  rw [List.append_assoc, List.getElem?_append] at hj
  split at hj
  · rename_i h
    rw [List.getElem?_take] at hj
    split at hj
    · rw [if_neg (by omega)]; exact hvs j x hj
    · cases hj
  · rename_i h
    rw [hlt] at hj h
    rw [List.getElem?_append] at hj
    split at hj
    · rename_i h2
      rw [if_pos (by omega), show bo + j - (bo + off) = j - off from by omega]
      exact ⟨hj, h1 x (List.mem_of_getElem? hj)⟩
    · rename_i h2
      rw [if_neg (by omega)]
      rw [List.getElem?_drop] at hj
      have := hvs _ x hj
      rwa [show off + ps.length + (j - off - ps.length) = j from by omega] at this

section ops
variable {P : Program} {CR : CRel} {base fb : Nat} {V : List Nat} {g : G} {σ σ' : Stack} {w : World} {B : Nat → Nat} {e : Env} {tmps : Array Value} {df : List Deferred}
  {d : D}

theorem run_alloc {el : TypeId} {i : TypeInfo} {z : Value} (hi : P.info? el = some i) (hz : i.zero = some z) : (Instr.alloc el true (.tuple #[])).run P w = .ok (.pointer (some ⟨w.heap.size, 0, none⟩)) (w.alloc (.cells z.cells el)) := by
  simp [Instr.alloc, run_zeroValue hi hz, newVar, newRow]

theorem s_alc (hi : Inv CR base g σ w) {el : TypeId} {z : List D} {nb : List (Nat × Nat)} {ρ : Operand → Value} (hz : zeroC P el = some z)
    (h : sop e σ (.alc nb z) = some (d, σ')) (o : Oper) (ho : o.op = .alloc el) : Does P CR base g w B e ρ o d σ' := by
  obtain ⟨i0, v, hinfo, hzero, hrz, h1⟩ := zeroC_rel g hz
  simp only [sop, Option.bind_eq_bind, Option.bind_eq_some_iff] at h
  obtain ⟨⟨cs', σ1⟩, hnb, ⟨l, i, σ2⟩, hn, h⟩ := h
  cases h
  obtain ⟨g1, i1, e1, r1⟩ := nilbs_ok nb _ _ _ _ g _ hnb hi hrz
  obtain ⟨i2, e2⟩ := i1.newCells hn v.cells.toList v.cells el r1 (by simp) (fun j y hy => ⟨by simpa using hy, h1 y (List.mem_of_getElem? hy)⟩)
  exact .val (.pointer (some ⟨w.heap.size, 0, none⟩)) (by simp [execOp, ho, run_alloc hinfo hzero]) (e1.trans e2) i2 (.ref l i 0 0 _ _ _ G.setLoc_same (Nat.le_refl _) (fun blk bo sz hh => by cases hh; exact ⟨rfl, rfl⟩) (by simp))

theorem s_bxn (hf : Fr fb V g w B e tmps) (hi : Inv CR base g σ w) {x : Operand} {X : Opd} {t : TypeId} {nb : List (Nat × Nat)} (hx : opdC x = some X) (h : sop e σ (.bxn nb X) = some (d, σ')) (o : Oper) (ho : o.op = .box t x) :
    Does P CR base g w B e (Act.mk tmps df).eval o d σ' := by
  simp only [sop, Option.bind_eq_bind, Option.bind_eq_some_iff] at h
  obtain ⟨cs, hcs, ⟨cs', σ1⟩, hnb, ⟨l, i, σ2⟩, hn, h⟩ := h
  cases h
  obtain ⟨hr, h1⟩ := (hf.opd (df := df) hx).cells hcs
  obtain ⟨g1, i1, e1, r1⟩ := nilbs_ok nb _ _ _ _ g _ hnb hi hr
  obtain ⟨i2, e2⟩ := i1.newCells hn ((Act.mk tmps df).eval x).cells.toList ((Act.mk tmps df).eval x).cells t r1 (by simp) (fun j y hy => ⟨by simpa using hy, h1 y (List.mem_of_getElem? hy)⟩)
  exact .val (.pointer (some ⟨w.heap.size, 0, none⟩)) (by simp [execOp, ho, Instr.box, newVar, newRow]) (e1.trans e2) i2 (.ref l i 0 0 _ _ _ G.setLoc_same (Nat.le_refl _) (fun blk bo sz hh => by cases hh; exact ⟨rfl, rfl⟩) (by simp))

theorem s_st (hf : Fr fb V g w B e tmps) (hi : Inv CR base g σ w) {x y : Operand} {X Y : Opd} {t : TypeId} {nb : List (Nat × Nat)} {sz : Nat} (hx : opdC x = some X) (hy : opdC y = some Y) (hsz : sizeC P t = some sz)
    (h : sop e σ (.st nb sz X Y) = some (d, σ')) (o : Oper) (ho : o.op = .store t x y) : Does P CR base g w B e (Act.mk tmps df).eval o d σ' := by
  simp only [sop] at h
  split at h
  case h_2 => cases h
  rename_i l i v off hX
  split at h
  case h_2 => cases h
  rename_i cs hcs
  split at h
  case h_2 => cases h
  rename_i p hcells
  split at h
  case isFalse => cases h
  rename_i hc
  obtain ⟨hplen, hle⟩ := hc
  obtain ⟨hrp, h1p⟩ := (hf.opd (df := df) hy).cells hcells
  have hrx := hf.opd (df := df) hx
  rw [hX] at hrx
  generalize hcv : (Act.mk tmps df).eval x = cv at hrx
  cases hrx with
  | ref _ _ _ _ b o1 L k1 k2 k3 k4 =>
    unfold cells? at hcs
    split at hcs
    case h_2 => cases hcs
    rename_i v' cs' hblk
    split at hcs
    case isFalse => cases hcs
    rename_i hv; subst hv; cases hcs
    -- the stored cells, made ready
    obtain ⟨p', σ1, g1, i1, e1, r1, hp'len, hblk1, rfl, rfl⟩ : ∃ p' σ1 g1, Inv CR base g1 σ1 w ∧ Ev g w g1 w ∧ RelL g1 p' ((Act.mk tmps df).eval y).cells.toList ∧ p'.length = p.length ∧ blk? σ1 l i = some (.cells v' cs) ∧
        σ' = setBlk σ1 l i (.cells v' (cs.take off ++ p' ++ cs.drop (off + sz))) ∧ d = .undef := by
      split at h
      · split at h
        · rename_i p' σ1 hnb
          cases h
          obtain ⟨g1, i1, e1, r1⟩ := nilbs_ok nb _ _ _ _ g _ hnb hi hrp
          obtain ⟨_, k6, k7⟩ := nilbs_keep nb _ _ _ _ hnb
          exact ⟨p', σ1, g1, i1, e1, r1, k6, k7 _ _ _ hblk, rfl, rfl⟩
        · cases h
      · cases h
        obtain ⟨g1, i1, e1, r1⟩ := frzL_ok (CR := CR) (base := base) (frz_ok l deep) p σ g w _ hi hrp
        obtain ⟨_, k6, k7⟩ := frzL_keep l deep p σ
        exact ⟨_, _, g1, i1, e1, r1, k6, (k7 l i (Nat.le_refl _)).trans hblk, rfl, rfl⟩
    obtain ⟨L1, hL1, hle1⟩ := e1.le.loc l i L k1
    obtain ⟨b1, hb1, hrel⟩ := i1.dom l i L1 hL1
    rw [hblk1] at hb1; cases hb1
    cases L1 with
    | dead => exact hrel.elim
    | lp z => exact hrel.elim
    | mp z => exact (Loc.okv_le k2 hle1).elim
    | it z => exact (Loc.okv_le k2 hle1).elim
    | ob z _ => exact (Loc.okv_le k2 hle1).elim
    | virt v2 =>
      obtain ⟨rfl, _⟩ := hrel
      exact absurd (Loc.back_virt k2 hle1 rfl) k4
    | «at» blk bo v2 bsz =>
      obtain ⟨rfl, ca, el, hheap, hcsz, hlen, vs, hr, hvs⟩ := hrel
      have hLeq := Loc.back k2 hle1 rfl
      obtain ⟨rfl, rfl⟩ := k3 blk bo bsz hLeq
      have hvl := hr.length
      have hpl : ((Act.mk tmps df).eval y).cells.toList.length = sz := by rw [← r1.length, hp'len]; exact hplen
      obtain ⟨w', c', hrun, hb', hs', hc', hother, hsize, ho1, ho2, ho3⟩ := run_storeVar (P := P) (t := t) (w := w) (b := b) (o := bo + off) (v := (Act.mk tmps df).eval y) hsz (by simpa using hpl) h1p hheap (by omega)
      have hle2 : g1.le (g1.setLoc l i (.at b bo v' bsz)) := G.le_setLoc fun L0 e0 => by rw [hL1] at e0; cases e0; exact Loc.le_refl _
      obtain ⟨i2, e2⟩ := i1.setCells (w' := w') (L := .at b bo v' bsz) (v := v') (ds := cs.take off ++ p' ++ cs.drop (off + sz)) hL1 hblk1 (Loc.le_refl _)
        ⟨rfl, c', el, hb', by rw [hs', hcsz], by simp; omega, vs.take off ++ ((Act.mk tmps df).eval y).cells.toList ++ vs.drop (off + sz),
          (((hr.take off).append r1).append (hr.drop _)).mono hle2, by
            have := row_write (c := ca) (c' := c') (bo := bo) (off := off) (vs := vs) (ps := ((Act.mk tmps df).eval y).cells.toList) hvs h1p (by omega) (by rw [hpl]; exact hc')
            rw [hpl] at this; exact this⟩
        (fun b' hb' hne => hother b' (fun hh => hne (by rw [hh]; rfl))) ho1 ho2 ho3 (by omega) (fun b' hb' => .inl hb')
      refine ⟨.skip, Go.undef, _, w', ?_, rfl, e1.trans e2, i2, .undef _⟩
      simp [execOp, ho, Instr.storeAt, hcv, Instr.sureAddr, hrun]

end ops
end Go.Abs

/-
  append; rows that are the same.
-/
set_option linter.unusedVariables false
set_option linter.unusedSimpArgs false
namespace Go.Abs
open Go

theorem growBy_le (n : Nat) : ∀ (r c : Nat), c ≤ 2 * n + 192 → Builtin.growBy n r c ≤ 2 * n + 192
  | 0, c, h => h
  | r + 1, c, h => by
    simp only [Builtin.growBy]
    split
    · exact h
    · exact growBy_le n r _ (by omega)

theorem nextslicecap_le {need cap : Nat} (h : cap < need) : Builtin.nextslicecap need cap ≤ 2 * need + 192 := by
  unfold Builtin.nextslicecap
  split
  · omega
  · split
    · omega
    · exact growBy_le need 4 cap (by omega)

section ops
variable {P : Program} {CR : CRel} {base fb : Nat} {V : List Nat} {g : G} {σ σ' : Stack} {w : World} {B : Nat → Nat} {e : Env} {tmps : Array Value} {df : List Deferred}
  {d : D}

theorem run_firstCells {wd n : Nat} {a : Option Addr} {cap : Nat} {vs : List Value} (hnil : a = none → n = 0) (hlen : vs.length = n * wd)
    (hrd : ∀ x, a = some x → n ≠ 0 → x.spot = none ∧ Rd w x.block x.off vs) (w' : World) (hw : w'.heap = w.heap) : (Builtin.firstCells wd n (.slice a n cap)).run P w' = .ok vs.toArray w' := by
  cases a with
  | none =>
    obtain rfl := hnil rfl
    simp only [Nat.zero_mul, List.length_eq_zero_iff] at hlen
    subst hlen
    simp [Builtin.firstCells]
  | some x =>
    simp only [Builtin.firstCells]
    by_cases hn : n = 0
    · subst hn
      simp only [Nat.zero_mul, List.length_eq_zero_iff] at hlen
      subst hlen
      simp [loadCells, loadCellsFrom]
    · obtain ⟨h1, h2⟩ := hrd x rfl hn
      obtain ⟨b, o, sp⟩ := x
      simp only at h1; subst h1
      rw [← hlen]
      exact run_loadCells_list w' ⟨b, o, none⟩ vs (fun j v hj => by
        rw [add_eq]
        have := h2 j v hj
        simp only [World.cell?, hw] at this ⊢
        exact this)

theorem elems_rel (hi : Inv CR base g σ w) {wd : Nat} {dx : D} {c : Value} {m : Nat} {xs : List D} (hr : RelV g dx c) (he : elems σ wd dx = some (m, xs)) (hns : ∀ s, dx ≠ .str s) :
    ∃ (a : Option Addr) (cap : Nat) (vs : List Value), c = .slice a m cap ∧ RelL g xs vs ∧ (∀ x ∈ vs, x.oneCell' = true) ∧ vs.length = m * wd ∧ (a = none → m = 0) ∧ (∀ x, a = some x → m ≠ 0 → x.spot = none ∧ Rd w x.block x.off vs) := by
  unfold elems at he
  split at he
  · cases he; cases hr
    exact ⟨none, 0, [], rfl, .nil, by simp, by simp, fun _ => rfl, fun _ hh => by cases hh⟩
  · exact absurd rfl (hns _)
  · rename_i n cs
    split at he
    case isFalse => cases he
    rename_i hlen
    cases he
    cases hr with
    | lstn => exact ⟨none, 0, [], rfl, .nil, by simp, by simp, fun _ => rfl, fun _ hh => by cases hh⟩
    | lst _ _ a cap vs hn h1 h2 h3 =>
      refine ⟨some a, cap, vs, rfl, h3, fun x hx => ?_, by rw [← h3.length, hlen], fun hh => (by cases hh), fun x hx hne => ?_⟩
      · obtain ⟨j, hj⟩ := List.getElem?_of_mem hx
        exact (hi.imm _ _ _ (h1 j x hj)).2
      · cases hx
        exact ⟨h2 hne, fun j y hy => (hi.imm _ _ _ (h1 j y hy)).1⟩
  · rename_i l i v off n w'
    split at he
    case isFalse => cases he
    rename_i hw'; subst hw'
    split at he
    case h_2 => cases he
    rename_i cs hcs
    split at he
    case isFalse => cases he
    rename_i hle
    cases he
    cases hr with
    | sl _ _ _ _ _ _ a cap L k1 k2 k3 k4 k5 k6 k7 =>
      unfold cells? at hcs
      split at hcs
      case h_2 => cases hcs
      rename_i v' cs' hblk
      split at hcs
      case isFalse => cases hcs
      rename_i hv; subst hv; cases hcs
      obtain ⟨b0, hb0, hrel⟩ := hi.dom _ _ _ k1
      rw [hblk] at hb0; cases hb0
      cases L with
      | dead => exact hrel.elim
      | lp z => exact hrel.elim
      | mp z => exact k2.elim
      | it z => exact k2.elim
      | ob z _ => exact k2.elim
      | virt v2 =>
        obtain ⟨rfl, rfl⟩ := hrel
        obtain rfl := k7 rfl
        obtain rfl := k4 rfl
        obtain rfl : m = 0 := by omega
        exact ⟨none, 0, [], rfl, by simpa using RelL.nil, by simp, by simp, fun _ => rfl, fun _ hh => by cases hh⟩
      | «at» blk bo v2 bsz =>
        obtain ⟨rfl, ca, el, hheap, hcsz, hlen, vs, hr, hvs⟩ := hrel
        refine ⟨a, cap, (vs.drop off).take (m * w'), rfl, (hr.drop off).take _, fun x hx => ?_, ?_, fun hh => ?_, fun x hx hne => ?_⟩
        · obtain ⟨j, hj⟩ := List.getElem?_of_mem (List.mem_of_mem_drop (List.mem_of_mem_take hx))
          exact (hvs j x hj).2
        · have := hr.length
          simp; omega
        · have := k4 hh; omega
        · rcases k6 blk bo bsz rfl with ⟨rfl, k8⟩ | k8
          · cases hx
            refine ⟨rfl, Rd.take (Rd.drop (fun j y hy => ?_) off) _⟩
            simp only [World.cell?, hheap]
            simpa using (hvs j y hy).1
          · omega
  · cases he

theorem strCells_rel (g : G) : ∀ (s : List UInt8), RelL g (strCells s) (s.map fun b => .int .u8 b.toNat)
  | [] => .nil
  | b :: s => .cons _ _ _ _ (.int _ _) (strCells_rel g s)
theorem elems_src (hi : Inv CR base g σ w) {wd : Nat} {dx : D} {c : Value} {m : Nat} {xs : List D} (hr : RelV g dx c) (he : elems σ wd dx = some (m, xs)) :
    ∃ vs : List Value, RelL g xs vs ∧ (∀ x ∈ vs, x.oneCell' = true) ∧ vs.length = m * wd ∧ (∀ w', (Builtin.lenOf c).run P w' = .ok m w') ∧ (∀ w', w'.heap = w.heap → (Builtin.firstCells wd m c).run P w' = .ok vs.toArray w') := by
  by_cases hs : ∃ s, dx = .str s
  · obtain ⟨s, rfl⟩ := hs
    simp only [elems] at he
    split at he
    case isFalse => cases he
    rename_i hw; subst hw
    cases he
    generalize hd : D.str s = dd at hr
    cases hr <;> cases hd
    rename_i b
    refine ⟨b.data.toList.map fun u => .int .u8 u.toNat, strCells_rel g _, ?_, by simp, fun w' => ?_, fun w' _ => ?_⟩
    · intro x hx
      obtain ⟨u, _, rfl⟩ := List.mem_map.1 hx
      rfl
    · have : b.data.toList.length = b.size := by cases b; rfl
      simp [Builtin.lenOf, this]
    · have : b.extract 0 b.data.toList.length = b := by cases b; simp [ByteArray.extract, ByteArray.copySlice, ByteArray.size]
      simp only [Builtin.firstCells, this, Sem.run_pure]
      congr 1
      simp [← Array.toList_inj]
  · obtain ⟨a, cap, vs, hc, h1, h2, h3, h4, h5⟩ := elems_rel hi hr he (fun s hh => hs ⟨s, hh⟩)
    exact ⟨vs, h1, h2, h3, fun w' => by rw [hc]; simp [Builtin.lenOf], fun w' hw' => by rw [hc]; exact run_firstCells h4 h3 h5 w' hw'⟩

theorem run_append_grow {el t u : TypeId} {wd bytes n m cap : Nat} {a : Option Addr} {xv : Value} {z : List D} {old new : List Value} (ht : P.underlying t = some (.slice el)) (hu : P.underlying u = some .string ∨ ∃ e2, P.underlying u = some (.slice e2))
    (hw : sizeC P el = some wd) (hb : (P.info? el).map (·.bytes) = some bytes) (hz : zeroC P el = some z) (hzl : z.length = wd) (hbpos : 0 < bytes) (hbl : bytes ≤ 2 ^ 20) (hroom : (n + m) * bytes ≤ room)
    (hgrow : cap < n + m) (hold : ∀ w', w'.heap = w.heap → (Builtin.firstCells wd n (.slice a n cap)).run P w' = .ok old.toArray w')
    (hlenx : (Builtin.lenOf xv).run P w = .ok m w) (hnew : ∀ w', w'.heap = w.heap → (Builtin.firstCells wd m xv).run P w' = .ok new.toArray w') (g : G) :
    ∃ (newCap : Nat) (rest : List Value), (n + m ≤ newCap ∧ newCap < 9223372036854775808) ∧ rest.length = (newCap - (n + m)) * wd ∧
      (Builtin.append_ #[t, u] 0 #[.slice a n cap, xv]).run P w = .ok (.slice (some ⟨w.heap.size, 0, none⟩) (n + m) newCap) (w.drew.alloc (.cells (old ++ new ++ rest).toArray el)) := by
  obtain ⟨i0, v, hinfo, hzero, hrz, h1⟩ := zeroC_rel g hz
  have hbytes : i0.bytes = bytes := by rw [hinfo] at hb; simpa using hb
  have hvs : v.cells.size = wd := by have := hrz.length; simp at this; omega
  have hcapq : Builtin.nextslicecap (n + m) cap * bytes ≤ 2 ^ 48 := by
    have h2 := nextslicecap_le hgrow
    have h3 : Builtin.nextslicecap (n + m) cap * bytes ≤ (2 * (n + m) + 192) * bytes := Nat.mul_le_mul_right _ h2
    have h4 : (2 * (n + m) + 192) * bytes = 2 * ((n + m) * bytes) + 192 * bytes := by rw [Nat.add_mul, Nat.mul_assoc]
    simp only [room] at hroom
    omega
  refine ⟨(Question.appendCap (n + m) cap el).cut (w.tape w.drawn (.appendCap (n + m) cap el)),
    (Builtin.zeroCells v.cells ((Question.appendCap (n + m) cap el).cut (w.tape w.drawn (.appendCap (n + m) cap el)) - (n + m))).toList, ?_, ?_, ?_⟩
  · have hlt : n + m < 9223372036854775808 := by
      have h5 : (n + m) * 1 ≤ (n + m) * bytes := Nat.mul_le_mul_left _ hbpos
      simp only [room] at hroom
      omega
    simp only [Question.cut]
    have := Nat.mod_lt (w.tape w.drawn (.appendCap (n + m) cap el)) (y := 2 ^ 63 - (n + m)) (by omega)
    omega
  · simp [Builtin.zeroCells, hvs]
  · have hq : (Question.appendCap (n + m) cap el).forced = false := rfl
    rcases hu with hu | ⟨e2, hu⟩
    all_goals
      simp only [Builtin.append_, List.getElem?_toArray, List.getElem?_cons_zero, List.getElem?_cons_succ, Sem.run_bind, run_under ht, run_under hu, Result.andThen_ok, run_sizeOf hw, Sem.run_pure, Sem.run_ite, Bool.false_eq_true,
        if_false, Bool.not_false, if_true, hlenx]
      rw [if_neg (by omega)]
      simp only [false_or, run_typeInfo hinfo, Result.andThen_ok, hbytes]
      rw [if_neg (by omega), if_neg (by omega)]
      simp only [run_choose, hq, Bool.false_eq_true, if_false, Result.andThen_ok, run_askRoom, World.drew_eq]
      rw [hold w.drew rfl]
      simp only [Result.andThen_ok]
      rw [hnew w.drew rfl]
      simp only [Result.andThen_ok, run_zeroValue hinfo hzero, newRow, Sem.run_bind, run_newObj, Sem.run_pure]
      rw [show (old ++ new ++ (Builtin.zeroCells v.cells ((Question.appendCap (n + m) cap el).cut (w.tape w.drawn (.appendCap (n + m) cap el)) - (n + m))).toList).toArray =
        old.toArray ++ new.toArray ++ Builtin.zeroCells v.cells ((Question.appendCap (n + m) cap el).cut (w.tape w.drawn (.appendCap (n + m) cap el)) - (n + m)) from by simp]
      rfl


theorem run_appendOp {ρ : Operand → Value} {x y : Operand} {args : Array Operand} {ts : Array TypeId} {t u : TypeId} (ha : args.toList = [x, y]) (hts : ts.toList = [t, u]) (o : Oper)
    (ho : o.op = .call { callee := .builtin .append, args, argTypes := ts }) (r : Result Value) (hr : (Builtin.append_ #[t, u] 0 #[ρ x, ρ y]).run P w = r) :
    (execOp ρ o).run P w = r.andThen fun v w' => .ok (.value v) w' := by
  obtain rfl : args = #[x, y] := by rw [← Array.toList_inj, ha]
  obtain rfl : ts = #[t, u] := by rw [← Array.toList_inj, hts]
  have : Builtin.append_ #[t, u] o.type #[ρ x, ρ y] = Builtin.append_ #[t, u] 0 #[ρ x, ρ y] := rfl
  simp only [execOp, ho, resolve, Sem.run_bind, Sem.run_pure, Result.andThen_ok, invoke, builtin]
  simp [this, hr]

theorem s_cpi (hf : Fr fb V g w B e tmps) (hi : Inv CR base g σ w) {x y : Operand} {Y : Opd} {args : Array Operand} {ts : Array TypeId} {t u el : TypeId} {wd bytes : Nat} {z : List D} (hx : x = .const (.slice none 0 0)) (hy : opdC y = some Y)
    (ha : args.toList = [x, y]) (hts : ts.toList = [t, u]) (ht : P.underlying t = some (.slice el)) (hu : P.underlying u = some .string ∨ ∃ e2, P.underlying u = some (.slice e2))
    (hw : sizeC P el = some wd) (hb : (P.info? el).map (·.bytes) = some bytes) (hz : zeroC P el = some z) (hzl : z.length = wd) (hbpos : 0 < bytes) (hbl : bytes ≤ 2 ^ 20)
    (h : sop e σ (.cpi wd bytes Y) = some (d, σ')) (o : Oper) (ho : o.op = .call { callee := .builtin .append, args, argTypes := ts }) : Does P CR base g w B e (Act.mk tmps df).eval o d σ' := by
  simp only [sop, Option.bind_eq_bind, Option.bind_eq_some_iff] at h
  obtain ⟨⟨m, xs⟩, he, h⟩ := h
  dsimp only at h
  split at h
  case isFalse => cases h
  rename_i hroom
  cases h
  obtain ⟨vs, hr, h1, hlen, hln, hfc⟩ := elems_src (P := P) hi (hf.opd (df := df) hy) he
  have hx' : (Act.mk tmps df).eval x = .slice none 0 0 := by subst hx; rfl
  by_cases hm : m = 0
  · subst hm
    have hvs : vs = [] := by simpa using hlen
    subst hvs
    cases hr
    have hrun : (Builtin.append_ #[t, u] 0 #[(Act.mk tmps df).eval x, (Act.mk tmps df).eval y]).run P w = .ok (.slice none 0 0) w := by
      rw [hx']
      have hf0 := hfc w rfl
      have hl0 := hln w
      rcases hu with hu | ⟨e2, hu⟩ <;> simp [Builtin.append_, run_under ht, run_under hu, run_sizeOf hw, hl0, hf0]
    have := run_appendOp ha hts o ho _ hrun
    exact .pure hi (by simpa using this) (RelT.of .lstn)
  · have hroom' : (0 + m) * bytes ≤ room := by simpa using hroom
    obtain ⟨newCap, rest, k1, k2, k3⟩ := run_append_grow (P := P) (w := w) (a := none) (cap := 0) (n := 0) (old := []) (new := vs) (xv := (Act.mk tmps df).eval y) ht hu hw hb hz hzl hbpos hbl hroom' (by omega)
      (fun w' hw' => by simp [Builtin.firstCells]) (hln _) hfc g
    rw [← hx'] at k3
    have hrun := run_appendOp ha hts o ho _ k3
    obtain ⟨i1, e1, r1⟩ := (hi.heap (w1 := w.drew) rfl).newImm vs (([] : List Value) ++ vs ++ rest).toArray el (fun j y hy => ⟨by
      rw [List.getElem?_toArray, List.nil_append, List.getElem?_append_left (List.getElem?_eq_some_iff.1 hy).1]; exact hy, h1 y (List.mem_of_getElem? hy)⟩)
    refine .val (.slice (some ⟨w.heap.size, 0, none⟩) (0 + m) newCap) (by simpa using hrun) ((Ev.heap g (w := w) (w1 := w.drew) rfl rfl rfl rfl).trans e1) i1 ?_
    rw [Nat.zero_add]
    exact .lst _ _ _ _ _ (by omega) r1 (fun _ => rfl) (hr.mono e1.le)

theorem s_bse (hf : Fr fb V g w B e tmps) (hi : Inv CR base g σ w) {t el : TypeId} {wd : Nat} {z : List D} {ps : Array (Nat × Operand)} {parts : List (Nat × Nat × Opd)}
    (ht : P.underlying t = some (.slice el)) (hw : sizeC P el = some wd) (hz : zeroC P el = some z) (hpos : 0 < wd) (hzl : z.length = wd) (hbig : 0 * wd ≤ 2 ^ 24)
    (hp : partsC (fun i => some (i * wd, wd)) ps.toList = some parts) (hpe : ps.toList = []) (h : sop e σ .bse = some (d, σ')) (o : Oper) (ho : o.op = .buildSlice t 0 ps) :
    Does P CR base g w B e (Act.mk tmps df).eval o d σ' := by
  simp only [sop, Option.some.injEq, Prod.mk.injEq] at h
  obtain ⟨rfl, rfl⟩ := h
  have hps : parts = [] := by rw [hpe] at hp; simpa [partsC] using hp.symm
  subst hps
  obtain ⟨vs, hrun, hr, h1⟩ := run_bsl (P := P) (w := w) (df := df) (g := g) hf ht hw hz hpos hzl hbig hp (cs := (List.range 0).flatMap fun _ => z) rfl o ho
  obtain ⟨i1, i2, i3⟩ := hi.newImm vs.toList vs el (fun j y hy => ⟨by simpa using hy, h1 y (List.mem_of_getElem? hy)⟩)
  exact .val _ hrun i2 i1 ⟨_, rfl⟩

theorem s_ape (hf : Fr fb V g w B e tmps) (hi : Inv CR base g σ w) {x y : Operand} {v : Nat} {Y : Opd} {args : Array Operand} {ts : Array TypeId} {t u el : TypeId} {wd bytes : Nat} {z : List D} (hx : x = .tmp v) (hy : opdC y = some Y)
    (ha : args.toList = [x, y]) (hts : ts.toList = [t, u]) (ht : P.underlying t = some (.slice el)) (hu : P.underlying u = some .string ∨ ∃ e2, P.underlying u = some (.slice e2))
    (hw : sizeC P el = some wd) (hb : (P.info? el).map (·.bytes) = some bytes) (hz : zeroC P el = some z) (hzl : z.length = wd) (hbpos : 0 < bytes) (hbl : bytes ≤ 2 ^ 20)
    (h : sop e σ (.ape wd bytes v Y) = some (d, σ')) (o : Oper) (ho : o.op = .call { callee := .builtin .append, args, argTypes := ts }) : Does P CR base g w B e (Act.mk tmps df).eval o d σ' := by
  simp only [sop] at h
  split at h
  case h_2 => cases h
  rename_i hev
  simp only [Option.bind_eq_some_iff] at h
  obtain ⟨⟨m, xs⟩, he, h⟩ := h
  dsimp only at h
  split at h
  case isFalse => cases h
  rename_i hroom
  cases h
  obtain ⟨vs, hr, h1, hlen, hln, hfc⟩ := elems_src (P := P) hi (hf.opd (df := df) hy) he
  have hrel := hf.rel v
  rw [hev] at hrel
  obtain ⟨a0, ha0⟩ := hrel
  have hx' : (Act.mk tmps df).eval x = .slice a0 0 0 := by subst hx; exact ha0
  by_cases hm : m = 0
  · subst hm
    have hvs : vs = [] := by simpa using hlen
    subst hvs
    cases hr
    have hrun : (Builtin.append_ #[t, u] 0 #[(Act.mk tmps df).eval x, (Act.mk tmps df).eval y]).run P w = .ok (.slice a0 0 0) w := by
      rw [hx']
      have hf0 := hfc w rfl
      have hl0 := hln w
      rcases hu with hu | ⟨e2, hu⟩ <;> simp [Builtin.append_, run_under ht, run_under hu, run_sizeOf hw, hl0, hf0] <;> cases a0 <;> simp [storeCells]
    have := run_appendOp ha hts o ho _ hrun
    refine .pure hi (by simpa using this) (RelT.of ?_)
    cases a0 with
    | none => exact .lstn
    | some a0 => exact .lst 0 [] a0 0 [] (Nat.le_refl _) (fun j v hv => by simp at hv) (fun hh => absurd rfl hh) .nil
  · have hroom' : (0 + m) * bytes ≤ room := by simpa using hroom
    obtain ⟨newCap, rest, k1, k2, k3⟩ := run_append_grow (P := P) (w := w) (a := a0) (cap := 0) (n := 0) (old := []) (new := vs) (xv := (Act.mk tmps df).eval y) ht hu hw hb hz hzl hbpos hbl hroom' (by omega)
      (fun w' hw' => run_firstCells (fun _ => rfl) (by simp) (fun x hx hne => absurd rfl hne) w' hw') (hln _) hfc g
    rw [← hx'] at k3
    have hrun := run_appendOp ha hts o ho _ k3
    obtain ⟨i1, e1, r1⟩ := (hi.heap (w1 := w.drew) rfl).newImm vs (([] : List Value) ++ vs ++ rest).toArray el (fun j y hy => ⟨by
      rw [List.getElem?_toArray, List.nil_append, List.getElem?_append_left (List.getElem?_eq_some_iff.1 hy).1]; exact hy, h1 y (List.mem_of_getElem? hy)⟩)
    refine .val (.slice (some ⟨w.heap.size, 0, none⟩) (0 + m) newCap) (by simpa using hrun) ((Ev.heap g (w := w) (w1 := w.drew) rfl rfl rfl rfl).trans e1) i1 ?_
    rw [Nat.zero_add]
    exact .lst _ _ _ _ _ (by omega) r1 (fun _ => rfl) (hr.mono e1.le)

theorem s_app (hf : Fr fb V g w B e tmps) (hi : Inv CR base g σ w) {x y : Operand} {X Y : Opd} {args : Array Operand} {ts : Array TypeId} {t u el : TypeId} {wd bytes : Nat} {z : List D} (hx : opdC x = some X) (hy : opdC y = some Y)
    (ha : args.toList = [x, y]) (hts : ts.toList = [t, u]) (ht : P.underlying t = some (.slice el)) (hu : P.underlying u = some .string ∨ ∃ e2, P.underlying u = some (.slice e2))
    (hw : sizeC P el = some wd) (hb : (P.info? el).map (·.bytes) = some bytes) (hz : zeroC P el = some z) (hzl : z.length = wd) (hbpos : 0 < bytes) (hbl : bytes ≤ 2 ^ 20)
    (h : sop e σ (.app wd bytes X Y) = some (d, σ')) (o : Oper) (ho : o.op = .call { callee := .builtin .append, args, argTypes := ts }) : Does P CR base g w B e (Act.mk tmps df).eval o d σ' := by
  simp only [sop, Option.bind_eq_bind, Option.bind_eq_some_iff] at h
  obtain ⟨⟨m, xs⟩, he, h⟩ := h
  dsimp only at h
  obtain ⟨vs, hr, h1, hlen, hln, hfc⟩ := elems_src (P := P) hi (hf.opd (df := df) hy) he
  have hrx := hf.opd (df := df) hx
  split at h
  · rename_i hX
    rw [hX] at hrx
    split at h
    case isFalse => cases h
    rename_i hroom
    have hx' : (Act.mk tmps df).eval x = .slice none 0 0 := by
      generalize (Act.mk tmps df).eval x = cv at hrx
      cases hrx; rfl
    split at h
    · rename_i hm
      cases h
      subst hm
      have hvs : vs = [] := by simpa using hlen
      subst hvs
      have hrun : (Builtin.append_ #[t, u] 0 #[(Act.mk tmps df).eval x, (Act.mk tmps df).eval y]).run P w = .ok (.slice none 0 0) w := by
        rw [hx']
        have hf0 := hfc w rfl
        have hl0 := hln w
        rcases hu with hu | ⟨e2, hu⟩ <;> simp [Builtin.append_, run_under ht, run_under hu, run_sizeOf hw, hl0, hf0]
      have := run_appendOp ha hts o ho _ hrun
      exact .pure hi (by simpa using this) (RelT.of .lstn)
    · rename_i hm
      simp only [Option.bind_eq_some_iff] at h
      obtain ⟨⟨l, i, σ1⟩, hn, h⟩ := h
      cases h
      have hroom' : (0 + m) * bytes ≤ room := by simpa using hroom
      obtain ⟨newCap, rest, k1, k2, k3⟩ := run_append_grow (P := P) (w := w) (a := none) (cap := 0) (n := 0) (old := []) (new := vs) (xv := (Act.mk tmps df).eval y) ht hu hw hb hz hzl hbpos hbl hroom' (by omega)
        (fun w' hw' => by simp [Builtin.firstCells]) (hln _) hfc g
      rw [← hx'] at k3
      have hrun := run_appendOp ha hts o ho _ k3
      obtain ⟨i1, e1⟩ := (hi.heap (w1 := w.drew) rfl).newCells hn vs (([] : List Value) ++ vs ++ rest).toArray el hr (by simp) (fun j y hy => ⟨by
        rw [List.getElem?_toArray, List.nil_append, List.getElem?_append_left (List.getElem?_eq_some_iff.1 hy).1]; exact hy, h1 y (List.mem_of_getElem? hy)⟩)
      refine .val (.slice (some ⟨w.heap.size, 0, none⟩) (0 + m) newCap) (by simpa using hrun) ((Ev.heap g (w := w) (w1 := w.drew) rfl rfl rfl rfl).trans e1) i1 ?_
      rw [Nat.zero_add]
      refine .sl l i 0 0 m wd _ _ _ G.setLoc_same (Nat.le_refl _) (by omega) (fun hh => by cases hh) (fun x hx _ => by cases hx; rfl) ?_ (fun hh => by cases hh)
      intro blk bo sz hL
      cases hL
      refine .inl ⟨rfl, ?_⟩
      have : newCap * wd = m * wd + (newCap - (0 + m)) * wd := by rw [← Nat.add_mul]; congr 1; omega
      simp; omega
  · rename_i l i v off n w' hX
    rw [hX] at hrx
    split at h
    case h_2 => cases h
    rename_i cs hcs
    split at h
    case isFalse => cases h
    rename_i hcond
    obtain ⟨hw', hle, hroom⟩ := hcond
    subst hw'
    obtain ⟨oa, ocap, ovs, hoc, hor, ho1, holen, honil, hord⟩ := elems_rel hi hrx (wd := w') (m := n) (xs := (cs.drop off).take (n * w')) (by simp [elems, hcs, hle]) (fun s hh => by cases hh)
    generalize hcv : (Act.mk tmps df).eval x = cv at hrx hoc
    cases hrx with
    | sl _ _ _ _ _ _ sa scap L k1 k2 k3 k4 k5 k6 k7 =>
      simp only [Value.slice.injEq, true_and] at hoc
      obtain ⟨hoc1, hoc2⟩ := hoc
      subst hoc1 hoc2
      unfold cells? at hcs
      split at hcs
      case h_2 => cases hcs
      rename_i v' cs' hblk
      split at hcs
      case isFalse => cases hcs
      rename_i hv; subst hv; cases hcs
      -- the new elements, made ready
      obtain ⟨xs', σ1, g1, i1, e1, r1, hlen', hblk1, rfl, rfl⟩ : ∃ xs' σ1 g1, Inv CR base g1 σ1 w ∧ Ev g w g1 w ∧ RelL g1 xs' vs ∧ xs'.length = xs.length ∧ blk? σ1 l i = some (.cells v' cs) ∧
          σ' = setBlk σ1 l i (.cells (v' + 1) ((cs.drop off).take (n * w') ++ xs')) ∧ d = .sl l i (v' + 1) 0 (n + m) w' := by
        split at h
        · cases h
          exact ⟨xs, σ, g, hi, Ev.refl g w, hr, rfl, hblk, rfl, rfl⟩
        · cases h
          obtain ⟨g1, i1, e1, r1⟩ := frzL_ok (CR := CR) (base := base) (frz_ok l deep) xs σ g w _ hi hr
          obtain ⟨_, k8, k9⟩ := frzL_keep l deep xs σ
          exact ⟨_, _, g1, i1, e1, r1, k8, (k9 l i (Nat.le_refl _)).trans hblk, rfl, rfl⟩
      obtain ⟨L1, hL1, hle1⟩ := e1.le.loc l i L k1
      obtain ⟨b1, hb1, hrel⟩ := i1.dom l i L1 hL1
      rw [hblk1] at hb1; cases hb1
      have hlx : (Builtin.lenOf ((Act.mk tmps df).eval y)).run P w = .ok m w := hln w
      have hnew : ∀ w1, w1.heap = w.heap → (Builtin.firstCells w' m ((Act.mk tmps df).eval y)).run P w1 = .ok vs.toArray w1 := hfc
      have hxl : xs'.length = m * w' := by rw [hlen', hr.length]; exact hlen
      have hold : ∀ w1, w1.heap = w.heap → (Builtin.firstCells w' n (.slice sa n scap)).run P w1 = .ok ovs.toArray w1 := fun w1 hw1 => run_firstCells honil holen hord w1 hw1
      have hrcat : RelL g1 ((cs.drop off).take (n * w') ++ xs') (ovs ++ vs) := (hor.mono e1.le).append r1
      have h1cat : ∀ x ∈ ovs ++ vs, x.oneCell' = true := fun x hx => by
        rcases List.mem_append.1 hx with hx | hx
        · exact ho1 x hx
        · exact h1 x hx
      have hnmw : (n + m) * w' = n * w' + m * w' := Nat.add_mul _ _ _
      by_cases hgrow : scap < n + m
      · -- a new block
        obtain ⟨newCap, rest, q1, q2, q3⟩ := run_append_grow (P := P) (w := w) (a := sa) (cap := scap) (n := n) (old := ovs) (new := vs) (xv := (Act.mk tmps df).eval y) ht hu hw hb hz hzl hbpos hbl hroom hgrow hold hlx hnew g
        rw [← hcv] at q3
        have hrun := run_appendOp ha hts o ho _ q3
        have hsize : ((ovs ++ vs ++ rest).toArray).size = newCap * w' := by
          have : newCap * w' = (n + m) * w' + (newCap - (n + m)) * w' := by rw [← Nat.add_mul]; congr 1; omega
          simp; omega
        have hver : L1.le (.at w.heap.size 0 (v' + 1) (newCap * w')) := by
          cases L1 with
          | dead => exact hrel.elim
          | lp z => exact hrel.elim
          | mp z => exact (Loc.okv_le k2 hle1).elim
          | it z => exact (Loc.okv_le k2 hle1).elim
          | ob z _ => exact (Loc.okv_le k2 hle1).elim
          | virt v2 => obtain ⟨rfl, _⟩ := hrel; simp only [Loc.le]; exact .inr (.inr (.inl ⟨_, _, _, _, rfl, by omega⟩))
          | «at» blk bo v2 bsz => obtain ⟨rfl, _⟩ := hrel; simp only [Loc.le]; exact .inr (.inr ⟨_, _, _, _, rfl, by omega⟩)
        have hle2 : g1.le (g1.setLoc l i (.at w.heap.size 0 (v' + 1) (newCap * w'))) := G.le_setLoc fun L0 e0 => by rw [hL1] at e0; cases e0; exact hver
        obtain ⟨i2, e2⟩ := i1.setCells (w' := w.drew.alloc (.cells (ovs ++ vs ++ rest).toArray el)) (L := .at w.heap.size 0 (v' + 1) (newCap * w')) (v := v' + 1) (ds := (cs.drop off).take (n * w') ++ xs') hL1 hblk1 hver
          ⟨rfl, (ovs ++ vs ++ rest).toArray, el, alloc_new (w := w.drew), hsize, by
            have : newCap * w' = (n + m) * w' + (newCap - (n + m)) * w' := by rw [← Nat.add_mul]; congr 1; omega
            rw [hrcat.length]; simp; omega, ovs ++ vs, hrcat.mono hle2, fun j x hx => ⟨by
              rw [List.getElem?_toArray, Nat.zero_add, List.getElem?_append_left (List.getElem?_eq_some_iff.1 hx).1]; exact hx, h1cat x (List.mem_of_getElem? hx)⟩⟩
          (fun b' hb' hne => alloc_old (w := w.drew) hb') rfl rfl rfl (by simp) (fun b' hb' => by cases hb'; exact .inr ⟨Nat.le_refl _, by simp⟩)
        refine .val (.slice (some ⟨w.heap.size, 0, none⟩) (n + m) newCap) (by simpa using hrun) (e1.trans e2) i2 ?_
        refine .sl l i _ _ _ _ _ _ _ G.setLoc_same (Nat.le_refl _) q1 (fun hh => by cases hh) (fun x hx _ => by cases hx; rfl) ?_ (fun hh => by cases hh)
        intro blk bo sz hL
        cases hL
        exact .inl ⟨rfl, by omega⟩
      · -- in its place
        have hne : n + m ≤ scap := by omega
        have hrun1 : ∀ (w1 : World), (match sa with | some a => Builtin.firstCells 0 0 (.slice none 0 0) | none => Builtin.firstCells 0 0 (.slice none 0 0)).run P w1 = .ok #[] w1 := by
          intro w1; cases sa <;> simp [Builtin.firstCells]
        cases L1 with
        | dead => exact hrel.elim
        | lp z => exact hrel.elim
        | mp z => exact (Loc.okv_le k2 hle1).elim
        | it z => exact (Loc.okv_le k2 hle1).elim
        | ob z _ => exact (Loc.okv_le k2 hle1).elim
        | virt v2 =>
          obtain ⟨rfl, rfl⟩ := hrel
          obtain rfl := k7 (Loc.back_virt k2 hle1 rfl)
          obtain rfl := k4 rfl
          obtain rfl : n = 0 := by omega
          obtain rfl : m = 0 := by omega
          have hvs : vs = [] := by simpa using hlen
          subst hvs
          have hxs' : xs' = [] := by simpa using hxl
          subst hxs'
          have hrun : (Builtin.append_ #[t, u] 0 #[(Act.mk tmps df).eval x, (Act.mk tmps df).eval y]).run P w = .ok (.slice none 0 0) w := by
            have := hnew w rfl
            rw [hcv]
            rcases hu with hu | ⟨e2, hu⟩ <;> simp [Builtin.append_, run_under ht, run_under hu, run_sizeOf hw, hlx, this]
          have hrun := run_appendOp ha hts o ho _ hrun
          have hver : Loc.le (.virt v') (.virt (v' + 1)) := by simp only [Loc.le]; exact .inr (.inr (.inr ⟨_, rfl, by omega⟩))
          obtain ⟨i2, e2⟩ := i1.setCells (w' := w) (L := .virt (v' + 1)) (v := v' + 1) (ds := (([] : List D).drop off).take (0 * w') ++ []) hL1 hblk1 hver ⟨rfl, by simp⟩ (fun b' hb' hne => rfl) rfl rfl rfl (Nat.le_refl _) (fun b' hb' => by cases hb')
          refine .val (.slice none 0 0) (by simpa using hrun) (e1.trans e2) i2 ?_
          exact .sl l i _ _ _ _ none 0 _ G.setLoc_same (Nat.le_refl _) (by omega) (fun _ => rfl) (fun _ hh => by cases hh) (fun _ _ _ hh => by cases hh) (fun _ => rfl)
        | «at» blk bo v2 bsz =>
          obtain ⟨rfl, ca, el', hheap, hcsz, hclen, cvs, hcr, hcvs⟩ := hrel
          have hLeq := Loc.back k2 hle1 rfl
          have hcl := hcr.length
          have hofs : bo + off + (n * w') ≤ bsz := by omega
          -- the row is written
          have hwr : ∃ w2 c2, (Builtin.append_ #[t, u] 0 #[(Act.mk tmps df).eval x, (Act.mk tmps df).eval y]).run P w = .ok (.slice sa (n + m) scap) w2 ∧ w2.heap[blk]? = some (.cells c2 el' (0, 0)) ∧ c2.size = ca.size ∧
              bo + off + (n + m) * w' ≤ bsz ∧
              (∀ j, c2[j]? = if bo + off + n * w' ≤ j ∧ j < bo + off + n * w' + vs.length then vs[j - (bo + off + n * w')]? else ca[j]?) ∧ (∀ x, x ≠ blk → w2.heap[x]? = w.heap[x]?) ∧ w2.heap.size = w.heap.size ∧
              w2.os = w.os ∧ w2.tape = w.tape ∧ w2.output = w.output := by
            have hn2 := hnew w rfl
            rcases k6 blk bo bsz hLeq with ⟨rfl, k8⟩ | k8
            · have hcapw : (n + m) * w' ≤ scap * w' := Nat.mul_le_mul_right _ hne
              obtain ⟨w2, c2, hrun, r2, r3, r4, r5⟩ := run_storeCells (P := P) (b := blk) (el := el') vs w (bo + off + n * w') 0 ca h1 hheap (by omega)
              refine ⟨w2, c2, ?_, r2, r3, by omega, by simpa using r4, r5⟩
              rw [hcv]
              have hadd : Addr.add ⟨blk, bo + off, none⟩ (n * w') = ⟨blk, bo + off + n * w', none⟩ := add_eq _ _ _
              rcases hu with hu | ⟨e2, hu⟩ <;> simp [Builtin.append_, run_under ht, run_under hu, run_sizeOf hw, hlx, hn2, hne, hadd, hrun]
            · obtain rfl : n = 0 := by omega
              obtain rfl : m = 0 := by omega
              have hvs : vs = [] := by simpa using hlen
              subst hvs
              refine ⟨w, ca, ?_, hheap, rfl, by omega, fun j => by rw [if_neg (by simp only [List.length_nil]; omega)], fun _ _ => rfl, rfl, rfl, rfl, rfl⟩
              rw [hcv]
              subst k8
              have hst : ∀ (aa : Addr), (storeCells aa ([] : List Value) 0).run P w = .ok () w := fun aa => by simp [storeCells]
              cases sa with
              | none => rcases hu with hu | ⟨e2, hu⟩ <;> simp [Builtin.append_, run_under ht, run_under hu, run_sizeOf hw, hlx, hn2]
              | some aa => rcases hu with hu | ⟨e2, hu⟩ <;> simp [Builtin.append_, run_under ht, run_under hu, run_sizeOf hw, hlx, hn2, hst]
          obtain ⟨w2, c2, hrun, p1, p2, p3, p4, p5, p6, p7, p8, p9⟩ := hwr
          have hrun := run_appendOp ha hts o ho _ hrun
          have hver : Loc.le (.at blk bo v' bsz) (.at blk (bo + off) (v' + 1) bsz) := by simp only [Loc.le]; exact .inr (.inr ⟨_, _, _, _, rfl, by omega⟩)
          have hle2 : g1.le (g1.setLoc l i (.at blk (bo + off) (v' + 1) bsz)) := G.le_setLoc fun L0 e0 => by rw [hL1] at e0; cases e0; exact hver
          have hcellsrel : RelL g1 ((cs.drop off).take (n * w') ++ xs') ((cvs.drop off).take (n * w') ++ vs) := ((hcr.drop off).take _).append r1
          have hl1 : ((cvs.drop off).take (n * w')).length = n * w' := by simp; omega
          obtain ⟨i2, e2⟩ := i1.setCells (w' := w2) (L := .at blk (bo + off) (v' + 1) bsz) (v := v' + 1) (ds := (cs.drop off).take (n * w') ++ xs') hL1 hblk1 hver
            ⟨rfl, c2, el', p1, by rw [p2, hcsz], by rw [hcellsrel.length, List.length_append, hl1, hlen]; omega, (cvs.drop off).take (n * w') ++ vs, hcellsrel.mono hle2, fun j x hx => by
              rw [p4]
              rw [List.getElem?_append] at hx
              split at hx
              · rename_i hj
                rw [hl1] at hj
                rw [if_neg (by omega)]
                rw [List.getElem?_take, if_pos hj, List.getElem?_drop] at hx
                have := hcvs _ x hx
                rwa [show bo + (off + j) = bo + off + j from by omega] at this
              · rename_i hj
                rw [hl1] at hj hx
                have hlt := (List.getElem?_eq_some_iff.1 hx).1
                rw [if_pos (by omega), show bo + off + j - (bo + off + n * w') = j - n * w' from by omega]
                exact ⟨hx, h1 x (List.mem_of_getElem? hx)⟩⟩
            (fun b' hb' hne => p5 b' (fun hh => hne (by rw [hh]; rfl))) p7 p8 p9 (by omega) (fun b' hb' => .inl hb')
          refine .val (.slice sa (n + m) scap) (by simpa using hrun) (e1.trans e2) i2 ?_
          refine .sl l i _ _ _ _ _ _ _ G.setLoc_same (Nat.le_refl _) ⟨hne, k3.2⟩ k4 ?_ ?_ (fun hh => by cases hh)
          · intro x hx hne0
            subst hx
            rcases k6 blk bo bsz hLeq with ⟨k9, _⟩ | k9
            · cases k9; rfl
            · omega
          · intro blk' bo' sz' hL
            cases hL
            rcases k6 blk bo bsz hLeq with ⟨k9, k10⟩ | k9
            · exact .inl ⟨by rw [k9]; simp, by omega⟩
            · exact .inr k9
  · cases h


theorem sop_app {e : Env} {σ : Stack} {w bytes : Nat} {s x : Opd} : sop e σ (.app w bytes s x) = appD e σ w bytes s x := rfl
theorem appD_val {e : Env} {σ σ' : Stack} {d : D} {w bytes : Nat} {s x : Opd} (h : appD e σ w bytes s x = some (d, σ')) : d = .lst 0 [] ∨ ∃ l i v off n w, d = .sl l i v off n w := by
  simp only [appD, Option.bind_eq_bind, Option.bind_eq_some_iff] at h
  obtain ⟨⟨m, xs⟩, he, h⟩ := h
  dsimp only at h
  split at h
  · split at h
    case isFalse => cases h
    split at h
    · cases h; exact .inl rfl
    · simp only [Option.bind_eq_some_iff] at h
      obtain ⟨⟨l, i, σ1⟩, hn, h⟩ := h
      cases h
      exact .inr ⟨_, _, _, _, _, _, rfl⟩
  · split at h
    case h_2 => cases h
    split at h
    case isFalse => cases h
    split at h
    · cases h; exact .inr ⟨_, _, _, _, _, _, rfl⟩
    · cases h; exact .inr ⟨_, _, _, _, _, _, rfl⟩
  · cases h

theorem sop_apc {e : Env} {σ : Stack} {os : List Nat} {w bytes : Nat} {s x : Opd} {r : D × Stack} (h : sop e σ (.apc os w bytes s x) = some r) : sop e σ (.app w bytes s x) = some r := by
  rw [sop_app]
  simp only [sop] at h
  split at h
  case h_2 => cases h
  split at h
  case isFalse => cases h
  simp only [Option.bind_eq_some_iff] at h
  obtain ⟨_, _, h⟩ := h
  split at h
  · exact h
  · cases h

theorem s_apz (hf : Fr fb V g w B e tmps) (hi : Inv CR base g σ w) {x y : Operand} {X Y : Opd} {args : Array Operand} {ts : Array TypeId} {t u el : TypeId} {wd bytes : Nat} {z : List D} (hx : opdC x = some X) (hy : opdC y = some Y)
    (ha : args.toList = [x, y]) (hts : ts.toList = [t, u]) (ht : P.underlying t = some (.slice el)) (hu : P.underlying u = some .string ∨ ∃ e2, P.underlying u = some (.slice e2))
    (hw : sizeC P el = some wd) (hb : (P.info? el).map (·.bytes) = some bytes) (hz : zeroC P el = some z) (hzl : z.length = wd) (hbpos : 0 < bytes) (hbl : bytes ≤ 2 ^ 20)
    (h : sop e σ (.apz wd bytes X Y) = some (d, σ')) (o : Oper) (ho : o.op = .call { callee := .builtin .append, args, argTypes := ts }) : Does P CR base g w B e (Act.mk tmps df).eval o d σ' := by
  simp only [sop, Option.map_eq_some_iff, Prod.exists] at h
  obtain ⟨d1, σ1, h1, h2⟩ := h
  have hv := appD_val h1
  rw [← sop_app] at h1
  obtain ⟨v, c, g', w', k1, k2, k3, k4, k5⟩ := s_app (df := df) hf hi hx hy ha hts ht hu hw hb hz hzl hbpos hbl h1 o ho
  have k6 : RelV g' d1 c := by
    rcases hv with rfl | ⟨l, i, v, off, n, w, rfl⟩
    · exact k5
    · exact k5
  obtain ⟨g2, i2, e2, r2⟩ := frz_ok (CR := CR) (base := base) 0 deep d1 σ1 g' w' c k4 k6
  rw [h2] at i2 r2
  exact ⟨v, c, g2, w', k1, k2, k3.trans e2, i2, RelT.of r2⟩

end ops
end Go.Abs

/-
  Operations on texts.
-/
set_option linter.unusedVariables false
set_option linter.unusedSimpArgs false
namespace Go.Abs
open Go

section
variable {P : Program} {CR : CRel} {base fb : Nat} {V : List Nat} {g : G} {σ σ' : Stack} {w : World} {B : Nat → Nat} {e : Env} {tmps : Array Value} {df : List Deferred}
  {a : Ann} {ops : Array Oper} {key : Nat} {k : K} {d : D}

theorem RelV.str_inv {s : List UInt8} {c : Value} (h : RelV g (.str s) c) : ∃ b : ByteArray, c = .string b ∧ b.data.toList = s := by
  generalize hd : D.str s = d at h
  cases h <;> cases hd
  exact ⟨_, rfl, rfl⟩
theorem str_rel (b : ByteArray) {s : List UInt8} (h : b.data.toList = s) : RelV g (.str s) (.string b) := by subst h; exact .str b
theorem ba_size (b : ByteArray) : b.data.toList.length = b.size := by cases b; rfl

theorem s_slen (hf : Fr fb V g w B e tmps) (hi : Inv CR base g σ w) {x : Operand} {X : Opd} {t : TypeId} {args : Array Operand} {ts : Array TypeId} {r : List Operand} {tr : List TypeId} (hx : opdC x = some X)
    (ht : P.underlying t = some .string) (ha : args.toList = x :: r) (hts : ts.toList = t :: tr)
    (h : sop e σ (.pur .slen [X]) = some (d, σ')) (o : Oper) (ho : o.op = .call { callee := .builtin .len, args, argTypes := ts }) : Does P CR base g w B e (Act.mk tmps df).eval o d σ' := by
  have hr := hf.opd (df := df) hx
  obtain rfl : args = (x :: r).toArray := by rw [← ha]
  obtain rfl : ts = (t :: tr).toArray := by rw [← hts]
  simp only [sop, Option.map_eq_some_iff, List.map_cons, List.map_nil] at h
  obtain ⟨d0, hp, h⟩ := h
  cases h
  generalize opd e X = dx at hr hp
  cases dx <;> simp only [puD, reduceCtorEq, Option.some.injEq] at hp
  subst hp
  obtain ⟨b, hb, rfl⟩ := hr.str_inv
  refine .pure hi (c := .int .i64 b.size) (by simp [execOp, ho, resolve, invoke, builtin, Builtin.len_, hb, run_under ht, goInt]) ?_
  rw [ba_size]
  exact RelT.of (.int _ _)

theorem s_sidx (hf : Fr fb V g w B e tmps) (hi : Inv CR base g σ w) {x y : Operand} {X Y : Opd} {t : TypeId} (hx : opdC x = some X) (hy : opdC y = some Y)
    (ht : P.underlying t = some .string)
    (h : sop e σ (.pur .sidx [X, Y]) = some (d, σ')) (o : Oper) (ho : o.op = .index t x y) : Does P CR base g w B e (Act.mk tmps df).eval o d σ' := by
  have hr := hf.opd (df := df) hx
  have hr' := hf.opd (df := df) hy
  simp only [sop, Option.map_eq_some_iff, List.map_cons, List.map_nil] at h
  obtain ⟨d0, hp, h⟩ := h
  cases h
  generalize opd e X = dx at hr hp
  generalize opd e Y = dy at hr' hp
  cases dx <;> cases dy <;> simp only [puD, reduceCtorEq, Option.ite_none_right_eq_some, Option.map_eq_some_iff] at hp
  rename_i s k i
  obtain ⟨h0, u, hu, rfl⟩ := hp
  obtain ⟨b, hb, rfl⟩ := hr.str_inv
  have hi' := hr'.int_inv
  have hlt : i.toNat < b.size := by rw [← ba_size]; exact (List.getElem?_eq_some_iff.1 hu).1
  have hu2 : b[i.toNat]'hlt = u := by
    have := (List.getElem?_eq_some_iff.1 hu).2
    rw [← this]
    cases b
    rfl
  have hin : 0 ≤ i ∧ i < b.size := by omega
  refine .pure hi (c := .int .u8 u.toNat) ?_ (RelT.of (.int _ _))
  have hrun := run_index_string (P := P) w t b k i ht
  rw [dif_pos hin, hu2] at hrun
  simp [execOp, ho, hb, hi', hrun]

theorem s_scat (hf : Fr fb V g w B e tmps) (hi : Inv CR base g σ w) {x y : Operand} {X Y : Opd} {t u : TypeId} (hx : opdC x = some X) (hy : opdC y = some Y)
    (h : sop e σ (.pur .scat [X, Y]) = some (d, σ')) (o : Oper) (ho : o.op = .binOp .add t x y u) : Does P CR base g w B e (Act.mk tmps df).eval o d σ' := by
  have hr := hf.opd (df := df) hx
  have hr' := hf.opd (df := df) hy
  simp only [sop, Option.map_eq_some_iff, List.map_cons, List.map_nil] at h
  obtain ⟨d0, hp, h⟩ := h
  cases h
  generalize opd e X = dx at hr hp
  generalize opd e Y = dy at hr' hp
  cases dx <;> cases dy <;> simp only [puD, reduceCtorEq, Option.ite_none_right_eq_some, Option.some.injEq] at hp
  obtain ⟨h0, rfl⟩ := hp
  obtain ⟨a1, h1, rfl⟩ := hr.str_inv
  obtain ⟨a2, h2, rfl⟩ := hr'.str_inv
  simp only [ba_size] at h0
  refine .pure hi (c := .string (a1 ++ a2)) ?_ (RelT.of (str_rel _ (by simp [ByteArray.data_append])))
  have hrun := run_string_add_sum (P := P) w a1 a2 (by omega)
  simp [execOp, ho, h1, h2, binOp, eqGuard, hrun]

theorem s_seq (hf : Fr fb V g w B e tmps) (hi : Inv CR base g σ w) {x y : Operand} {X Y : Opd} {t u : TypeId} {neg : Bool} (hx : opdC x = some X) (hy : opdC y = some Y)
    (h : sop e σ (.pur (.seq neg) [X, Y]) = some (d, σ')) (o : Oper) (ho : o.op = .binOp (if neg then .neq else .eql) t x y u) : Does P CR base g w B e (Act.mk tmps df).eval o d σ' := by
  have hr := hf.opd (df := df) hx
  have hr' := hf.opd (df := df) hy
  simp only [sop, Option.map_eq_some_iff, List.map_cons, List.map_nil] at h
  obtain ⟨d0, hp, h⟩ := h
  cases h
  generalize opd e X = dx at hr hp
  generalize opd e Y = dy at hr' hp
  cases dx <;> cases dy <;> simp only [puD, reduceCtorEq, Option.some.injEq] at hp
  subst hp
  obtain ⟨a1, h1, rfl⟩ := hr.str_inv
  obtain ⟨a2, h2, rfl⟩ := hr'.str_inv
  cases neg
  · refine .pure hi (c := .bool (a1.data.toList == a2.data.toList)) ?_ (RelT.of (.bool _))
    simp [execOp, ho, h1, h2, eqGuard, binOp_string_eql, binOp_string_neq, ByteArray.toList_eq]
  · refine .pure hi (c := .bool !(a1.data.toList == a2.data.toList)) ?_ (RelT.of (.bool _))
    simp [execOp, ho, h1, h2, eqGuard, binOp_string_eql, binOp_string_neq, ByteArray.toList_eq]

theorem s_ssub (hf : Fr fb V g w B e tmps) (hi : Inv CR base g σ w) {x : Operand} {X : Opd} {t : TypeId} {lo hi' : Option Operand} {Lo Hi : Option Opd} (hx : opdC x = some X)
    (ht : P.underlying t = some .string) (hlo : optC lo = some Lo) (hhi : optC hi' = some Hi)
    (h : sop e σ (.pur (.ssub Lo.isSome Hi.isSome) (X :: (Lo.toList ++ Hi.toList))) = some (d, σ')) (o : Oper) (ho : o.op = .slice t x lo hi' none) : Does P CR base g w B e (Act.mk tmps df).eval o d σ' := by
  have hr := hf.opd (df := df) hx
  have opt : ∀ {z : Option Operand} {Z : Option Opd}, optC z = some Z → (z = none ∧ Z = none) ∨ ∃ q Q, z = some q ∧ Z = some Q ∧ opdC q = some Q := by
    intro z Z hz
    cases z with
    | none => simp only [optC, Option.some.injEq] at hz; exact .inl ⟨rfl, hz.symm⟩
    | some q =>
      simp only [optC, Option.map_eq_some_iff] at hz
      obtain ⟨Q, hQ, rfl⟩ := hz
      exact .inr ⟨q, Q, rfl, rfl, hQ⟩
  simp only [sop, Option.map_eq_some_iff] at h
  obtain ⟨d0, hp, h⟩ := h
  cases h
  have ex : ∀ (b : ByteArray) (i j : Nat), j ≤ b.size → (b.extract i j).data.toList = (b.data.toList.drop i).take (j - i) := fun b i j hj => by
    simp [ByteArray.data_extract]
  rcases opt hlo with ⟨rfl, rfl⟩ | ⟨l, L, rfl, rfl, hl⟩ <;> rcases opt hhi with ⟨rfl, rfl⟩ | ⟨m, M, rfl, rfl, hm⟩
  · simp only [Option.isSome_none, Option.toList_none, List.append_nil, List.map_cons, List.map_nil] at hp
    generalize opd e X = dx at hr hp
    cases dx <;> simp only [puD, reduceCtorEq, Option.some.injEq] at hp
    subst hp
    obtain ⟨b, hb, rfl⟩ := hr.str_inv
    refine .pure hi (c := .string (b.extract 0 b.size)) ?_ (RelT.of (str_rel _ ?_))
    · have hrun := run_slice_string_all (P := P) w t b ht
      simp [execOp, ho, hb, run_sliceAt_string (P := P) (h := ht), hrun]
    · rw [ex b 0 b.size (Nat.le_refl _), List.drop_zero, Nat.sub_zero, ← ba_size, List.take_length]
  · have hrm := hf.opd (df := df) hm
    simp only [Option.isSome_none, Option.isSome_some, Option.toList_none, Option.toList_some, List.nil_append, List.map_cons, List.map_nil] at hp
    generalize opd e X = dx at hr hp
    generalize opd e M = dm at hrm hp
    cases dx <;> cases dm <;> simp only [puD, reduceCtorEq, Option.ite_none_right_eq_some, Option.some.injEq] at hp
    rename_i s k j
    obtain ⟨h0, rfl⟩ := hp
    obtain ⟨b, hb, rfl⟩ := hr.str_inv
    have hj := hrm.int_inv
    rw [ba_size] at h0
    refine .pure hi (c := .string (b.extract 0 j.toNat)) ?_ (RelT.of (str_rel _ ?_))
    · have hrun := run_slice_string_h (P := P) w t b ht k j h0.1 h0.2
      simp [execOp, ho, hb, hj, run_sliceAt_string (P := P) (h := ht), hrun]
    · rw [ex b 0 j.toNat (by omega), List.drop_zero, Nat.sub_zero]
  · have hrl := hf.opd (df := df) hl
    simp only [Option.isSome_none, Option.isSome_some, Option.toList_none, Option.toList_some, List.append_nil, List.map_cons, List.map_nil] at hp
    generalize opd e X = dx at hr hp
    generalize opd e L = dm at hrl hp
    cases dx <;> cases dm <;> simp only [puD, reduceCtorEq, Option.ite_none_right_eq_some, Option.some.injEq] at hp
    rename_i s k j
    obtain ⟨h0, rfl⟩ := hp
    obtain ⟨b, hb, rfl⟩ := hr.str_inv
    have hj := hrl.int_inv
    rw [ba_size] at h0
    refine .pure hi (c := .string (b.extract j.toNat b.size)) ?_ (RelT.of (str_rel _ ?_))
    · have hrun := run_slice_string_l (P := P) w t b ht k j h0.1 h0.2
      simp [execOp, ho, hb, hj, run_sliceAt_string (P := P) (h := ht), hrun]
    · rw [ex b j.toNat b.size (Nat.le_refl _)]
      exact List.take_of_length_le (by rw [List.length_drop, ba_size]; exact Nat.le_refl _)
  · have hrl := hf.opd (df := df) hl
    have hrm := hf.opd (df := df) hm
    simp only [Option.isSome_some, Option.toList_some, List.cons_append, List.nil_append, List.map_cons, List.map_nil] at hp
    generalize opd e X = dx at hr hp
    generalize opd e L = dl at hrl hp
    generalize opd e M = dm at hrm hp
    cases dx <;> cases dl <;> cases dm <;> simp only [puD, reduceCtorEq, Option.ite_none_right_eq_some, Option.some.injEq] at hp
    rename_i s k i k' j
    obtain ⟨h0, rfl⟩ := hp
    obtain ⟨b, hb, rfl⟩ := hr.str_inv
    have hi1 := hrl.int_inv
    have hj := hrm.int_inv
    rw [ba_size] at h0
    refine .pure hi (c := .string (b.extract i.toNat j.toNat)) ?_ (RelT.of (str_rel _ ?_))
    · have hrun := run_slice_string (P := P) w t b k k' i j ht h0.1 h0.2.1 h0.2.2
      simp [execOp, ho, hb, hi1, hj, run_sliceAt_string (P := P) (h := ht), hrun]
    · exact ex b i.toNat j.toNat (by omega)
end
end Go.Abs

/-
  '==' on bools, structs and arrays of numbers and bools.
-/
set_option linter.unusedVariables false
set_option linter.unusedSimpArgs false
namespace Go.Abs
open Go

theorem eqK_nil {p q : List D} {b : Bool} (h : eqK [] p q = some b) : p = [] ∧ q = [] ∧ b = true := by
  cases p with
  | nil => cases q with
    | nil => simp only [eqK, Option.some.injEq] at h; exact ⟨rfl, rfl, h.symm⟩
    | cons => simp [eqK] at h
  | cons => simp [eqK] at h

theorem eqK_some {k : IntKind} {ks : List (Option IntKind)} {p q : List D} {b : Bool} (h : eqK (some k :: ks) p q = some b) :
    ∃ a x c y b0, p = .int k a :: x ∧ q = .int k c :: y ∧ eqK ks x y = some b0 ∧ b = (a == c && b0) := by
  cases p with
  | nil => simp [eqK] at h
  | cons d1 x =>
    cases q with
    | nil => cases d1 <;> simp [eqK] at h
    | cons d2 y =>
      cases d1 <;> cases d2 <;> try (simp [eqK] at h; done)
      rename_i k1 a k2 c
      simp only [eqK] at h
      split at h
      · rename_i hk
        obtain ⟨rfl, rfl⟩ := hk
        simp only [Option.map_eq_some_iff] at h
        obtain ⟨b0, h0, rfl⟩ := h
        exact ⟨a, x, c, y, b0, rfl, rfl, h0, rfl⟩
      · cases h

theorem eqK_none {ks : List (Option IntKind)} {p q : List D} {b : Bool} (h : eqK (none :: ks) p q = some b) :
    ∃ a x c y b0, p = .bool a :: x ∧ q = .bool c :: y ∧ eqK ks x y = some b0 ∧ b = (a == c && b0) := by
  cases p with
  | nil => simp [eqK] at h
  | cons d1 x =>
    cases q with
    | nil => cases d1 <;> simp [eqK] at h
    | cons d2 y =>
      cases d1 <;> cases d2 <;> try (simp [eqK] at h; done)
      rename_i a c
      simp only [eqK, Option.map_eq_some_iff] at h
      obtain ⟨b0, h0, rfl⟩ := h
      exact ⟨a, x, c, y, b0, rfl, rfl, h0, rfl⟩

theorem eqK_append : ∀ (k1 k2 : List (Option IntKind)) (p q : List D) (b : Bool), eqK (k1 ++ k2) p q = some b →
    ∃ b1 b2, eqK k1 (p.take k1.length) (q.take k1.length) = some b1 ∧ eqK k2 (p.drop k1.length) (q.drop k1.length) = some b2 ∧ b = (b1 && b2)
  | [], k2, p, q, b, h => ⟨true, b, by simp [eqK], by simpa using h, by simp⟩
  | some k :: k1, k2, p, q, b, h => by
    obtain ⟨a, x, c, y, b0, rfl, rfl, h0, rfl⟩ := eqK_some h
    obtain ⟨b1, b2, e1, e2, rfl⟩ := eqK_append k1 k2 x y b0 h0
    exact ⟨a == c && b1, b2, by simp [eqK, e1], by simpa using e2, by rw [Bool.and_assoc]⟩
  | none :: k1, k2, p, q, b, h => by
    obtain ⟨a, x, c, y, b0, rfl, rfl, h0, rfl⟩ := eqK_none h
    obtain ⟨b1, b2, e1, e2, rfl⟩ := eqK_append k1 k2 x y b0 h0
    exact ⟨a == c && b1, b2, by simp [eqK, e1], by simpa using e2, by rw [Bool.and_assoc]⟩

theorem eqK_len : ∀ (ks : List (Option IntKind)) (p q : List D) (b : Bool), eqK ks p q = some b → p.length = ks.length ∧ q.length = ks.length
  | [], p, q, b, h => by obtain ⟨rfl, rfl, _⟩ := eqK_nil h; exact ⟨rfl, rfl⟩
  | some k :: ks, p, q, b, h => by
    obtain ⟨a, x, c, y, b0, rfl, rfl, h0, rfl⟩ := eqK_some h
    obtain ⟨h1, h2⟩ := eqK_len ks x y b0 h0
    exact ⟨by simp [h1], by simp [h2]⟩
  | none :: ks, p, q, b, h => by
    obtain ⟨a, x, c, y, b0, rfl, rfl, h0, rfl⟩ := eqK_none h
    obtain ⟨h1, h2⟩ := eqK_len ks x y b0 h0
    exact ⟨by simp [h1], by simp [h2]⟩

section
variable {P : Program} {g : G} {w : World}

def IsRow (g : G) (ag : Bool) (p : List D) (x : Value) : Prop :=
  if ag then ∃ xs, x = .agg xs ∧ RelL g p xs.toList ∧ ∀ y ∈ xs.toList, y.oneCell' = true else RelL g p [x]

def EqAt (P : Program) (g : G) (w : World) (n : Nat) (t : TypeId) (ks : List (Option IntKind)) : Prop :=
  ∃ ag, aggC P t = some ag ∧ (ag = false → ks.length = 1) ∧ ∀ m, n ≤ m → ∀ p q x y b, IsRow g ag p x → IsRow g ag q y → eqK ks p q = some b → (Op.equalIn m t x y).run P w = .ok b w

theorem part_at {t : TypeId} {ag : Bool} {n : Nat} {xs : Array Value} {p : List D} {o : Nat} (hag : aggC P t = some ag) (hsz : sizeC P t = some n) (hone : ag = false → n = 1) (hr : RelL g p xs.toList) (h1 : ∀ y ∈ xs.toList, y.oneCell' = true) (hlen : o + n ≤ p.length) :
    ∃ a, (part t xs o).run P w = .ok a w ∧ IsRow g ag ((p.drop o).take n) a := by
  cases ag with
  | true =>
    obtain ⟨c, hc, hrc⟩ := part_run (P := P) (w := w) (d := .agg ((p.drop o).take n)) hag hsz hr h1 hlen (by simp)
    cases hrc with
    | agg _ cs h2 h3 => exact ⟨_, hc, cs, rfl, h2, h3⟩
  | false =>
    obtain rfl := hone rfl
    have hlt : o < p.length := by omega
    obtain ⟨c, hc, hrc⟩ := part_run (P := P) (w := w) (d := p[o]) hag hsz hr h1 hlen (by simp [hlt])
    refine ⟨c, hc, ?_⟩
    have : (p.drop o).take 1 = [p[o]] := by
      rw [List.drop_eq_getElem_cons hlt]; rfl
    rw [this]
    exact .cons _ _ _ _ hrc .nil

theorem eqFields_ok {n : Nat} {f : TypeId → Option (List (Option IntKind))} (hf : ∀ t ks, f t = some ks → EqAt P g w n t ks) {m : Nat} (hm : n ≤ m) {xs ys : Array Value} {p q : List D} (hx : RelL g p xs.toList) (hy : RelL g q ys.toList)
    (h1x : ∀ y ∈ xs.toList, y.oneCell' = true) (h1y : ∀ y ∈ ys.toList, y.oneCell' = true) :
    ∀ (fs : List Field) (o : Nat) (ks : List (Option IntKind)) (b : Bool), kindsC.kindsF P f o fs = some ks → eqK ks (p.drop o) (q.drop o) = some b → (Op.eqFields m xs ys fs).run P w = .ok b w
  | [], o, ks, b, hk, he => by
    simp only [kindsC.kindsF, Option.some.injEq] at hk; subst hk
    obtain ⟨_, _, rfl⟩ := eqK_nil he
    simp [Op.eqFields]
  | x :: fs, o, ks, b, hk, he => by
    simp only [kindsC.kindsF] at hk
    split at hk
    case h_2 => cases hk
    rename_i k1 hk1
    split at hk
    case isFalse => cases hk
    rename_i hc
    obtain ⟨hname, hoff, hsz, hpos⟩ := hc
    simp only [Option.map_eq_some_iff] at hk
    obtain ⟨k2, hk2, rfl⟩ := hk
    obtain ⟨l1, l2⟩ := eqK_len _ _ _ _ he
    obtain ⟨b1, b2, e1, e2, rfl⟩ := eqK_append _ _ _ _ _ he
    simp only [List.length_append, List.length_drop] at l1 l2
    obtain ⟨ag, hag, hone, hEq⟩ := hf _ _ hk1
    have hone' := hone
    obtain ⟨a, ha, hra⟩ := part_at (P := P) (w := w) (p := p) (o := o) hag hsz hone hx h1x (by omega)
    obtain ⟨c, hc, hrc⟩ := part_at (P := P) (w := w) (p := q) (o := o) hag hsz hone hy h1y (by omega)
    have hrun := hEq m hm _ _ a c b1 hra hrc e1
    have ih := eqFields_ok hf hm hx hy h1x h1y fs (o + k1.length) k2 b2 hk2 (by simpa [List.drop_drop] using e2)
    simp only [Op.eqFields, hoff]
    rw [if_pos hname]
    simp only [Sem.run_bind, ha, hc, hrun, Result.andThen_ok, Sem.run_ite, ih]
    cases b1 <;> simp

theorem eqItems_ok {n : Nat} {t : TypeId} {k : List (Option IntKind)} (hE : EqAt P g w n t k) (hsz : sizeC P t = some k.length) (hpos : 0 < k.length) {m : Nat} (hm : n ≤ m) {xs ys : Array Value} {p q : List D} (hx : RelL g p xs.toList) (hy : RelL g q ys.toList)
    (h1x : ∀ y ∈ xs.toList, y.oneCell' = true) (h1y : ∀ y ∈ ys.toList, y.oneCell' = true) :
    ∀ (r i : Nat) (b : Bool), eqK ((List.range r).flatMap fun _ => k) (p.drop (i * k.length)) (q.drop (i * k.length)) = some b →
      (Op.eqItems m t (P.cellsOf t) xs ys (List.range' i r)).run P w = .ok b w
  | 0, i, b, he => by
    simp only [List.range_zero, List.flatMap_nil] at he
    obtain ⟨_, _, rfl⟩ := eqK_nil he
    simp [Op.eqItems]
  | r + 1, i, b, he => by
    have hfl : ((List.range (r + 1)).flatMap fun _ => k) = k ++ (List.range r).flatMap fun _ => k := by
      rw [List.range_succ_eq_map, List.flatMap_cons, List.flatMap_map]
    rw [hfl] at he
    have he0 := he
    obtain ⟨b1, b2, e1, e2, rfl⟩ := eqK_append _ _ _ _ _ he
    obtain ⟨ag, hag, hone, hEq⟩ := hE
    have hcells : P.cellsOf t = k.length := by
      simp only [sizeC] at hsz
      simp [Program.cellsOf, hsz]
    have hl := eqK_len _ _ _ _ he0
    simp only [List.length_append, List.length_drop] at hl
    obtain ⟨a, ha, hra⟩ := part_at (P := P) (w := w) (o := i * k.length) hag hsz hone hx h1x (by omega)
    obtain ⟨c, hc, hrc⟩ := part_at (P := P) (w := w) (o := i * k.length) hag hsz hone hy h1y (by omega)
    have hrun := hEq m hm _ _ a c b1 hra hrc e1
    have ih := eqItems_ok ⟨ag, hag, hone, hEq⟩ hsz hpos hm hx hy h1x h1y r (i + 1) b2 (by
      rw [List.drop_drop, List.drop_drop] at e2
      rw [Nat.add_mul, Nat.one_mul]
      exact e2)
    rw [List.range'_succ]
    simp only [Op.eqItems, hcells] at ih ⊢
    simp only [Sem.run_bind, ha, hc, hrun, Result.andThen_ok, Sem.run_ite, ih]
    cases b1 <;> simp

theorem kinds_ok : ∀ (n : Nat) (t : TypeId) (ks : List (Option IntKind)), kindsC P n t = some ks → EqAt P g w n t ks
  | 0, t, ks, h => by simp [kindsC] at h
  | n + 1, t, ks, h => by
    simp only [kindsC] at h
    split at h
    · rename_i k hu
      cases h
      refine ⟨false, by simp [aggC, hu], fun _ => rfl, fun m hm p q x y b hx hy he => ?_⟩
      obtain ⟨m, rfl⟩ : ∃ m', m = m' + 1 := ⟨m - 1, by omega⟩
      simp only [IsRow, Bool.false_eq_true, if_false] at hx hy
      obtain ⟨a, x1, c, y1, b0, rfl, rfl, h0, rfl⟩ := eqK_some he
      obtain ⟨rfl, rfl, rfl⟩ := eqK_nil h0
      cases hx with
      | cons _ _ _ _ hx1 hx2 =>
        cases hy with
        | cons _ _ _ _ hy1 hy2 =>
          obtain rfl := hx1.int_inv
          obtain rfl := hy1.int_inv
          rw [Bool.and_true]
          exact run_equalIn_int w m t _ _ a c hu
    · rename_i hu
      cases h
      refine ⟨false, by simp [aggC, hu], fun _ => rfl, fun m hm p q x y b hx hy he => ?_⟩
      obtain ⟨m, rfl⟩ : ∃ m', m = m' + 1 := ⟨m - 1, by omega⟩
      simp only [IsRow, Bool.false_eq_true, if_false] at hx hy
      obtain ⟨a, x1, c, y1, b0, rfl, rfl, h0, rfl⟩ := eqK_none he
      obtain ⟨rfl, rfl, rfl⟩ := eqK_nil h0
      cases hx with
      | cons _ _ _ _ hx1 hx2 =>
        cases hy with
        | cons _ _ _ _ hy1 hy2 =>
          obtain rfl := hx1.bool_inv
          obtain rfl := hy1.bool_inv
          rw [Bool.and_true]
          exact run_equalIn_bool' w m t a c hu
    · rename_i fs hu
      split at h
      case isTrue => cases h
      rename_i hst
      refine ⟨true, by simp [aggC, hu], by simp, fun m hm p q x y b hx hy he => ?_⟩
      obtain ⟨m, rfl⟩ : ∃ m', m = m' + 1 := ⟨m - 1, by omega⟩
      simp only [IsRow, if_true] at hx hy
      obtain ⟨xs, rfl, hxr, hx1⟩ := hx
      obtain ⟨ys, rfl, hyr, hy1⟩ := hy
      have hfo : P.fieldsOf t = fs := by simp [Program.fieldsOf, hu]
      rw [run_equalIn_struct w m t xs ys (by rw [hfo]; exact hu) (by simpa using hst), hfo]
      exact eqFields_ok (fun t ks h => kinds_ok n t ks h) (by omega) hxr hyr hx1 hy1 _ 0 ks b h (by simpa using he)
    · rename_i r el hu
      split at h
      case h_2 => cases h
      rename_i k hk
      split at h
      case isFalse => cases h
      rename_i hc
      cases h
      simp only [Bool.and_eq_true, beq_iff_eq, decide_eq_true_eq] at hc
      refine ⟨true, by simp [aggC, hu], by simp, fun m hm p q x y b hx hy he => ?_⟩
      obtain ⟨m, rfl⟩ : ∃ m', m = m' + 1 := ⟨m - 1, by omega⟩
      simp only [IsRow, if_true] at hx hy
      obtain ⟨xs, rfl, hxr, hx1⟩ := hx
      obtain ⟨ys, rfl, hyr, hy1⟩ := hy
      have hsz := hc.1
      simp only [sizeC, Option.map_eq_some_iff] at hsz
      obtain ⟨i, hi, _⟩ := hsz
      rw [run_equalIn_array w m xs ys hu hi, List.range_eq_range']
      exact eqItems_ok (kinds_ok n el k hk) hc.1 hc.2 (by omega) hxr hyr hx1 hy1 r 0 b (by simpa using he)
    · cases h
end

section ops
variable {P : Program} {CR : CRel} {base fb : Nat} {V : List Nat} {g : G} {σ σ' : Stack} {w : World} {B : Nat → Nat} {e : Env} {tmps : Array Value} {df : List Deferred}
  {d : D}

theorem row_rel {ag : Bool} {d : D} {c : Value} {p : List D} (h : RelV g d c) (hr : d.row ag = some p) : IsRow g ag p c := by
  have h0 := h
  cases ag <;> cases d <;> simp only [D.row, D.cells, Option.some.injEq, reduceCtorEq] at hr
  all_goals first
    | (subst hr; exact .cons _ _ _ _ h0 .nil)
    | (subst hr; cases h with
        | agg _ cs h1 h2 => exact ⟨cs, rfl, h1, h2⟩)

theorem s_eqv (hf : Fr fb V g w B e tmps) (hi : Inv CR base g σ w) {x y : Operand} {X Y : Opd} {t u : TypeId} {ks : List (Option IntKind)} {ag neg : Bool} (hx : opdC x = some X) (hy : opdC y = some Y) (hk : kindsC P 20 t = some ks)
    (hag : aggC P t = some ag) (hguard : P.eqGuardType P.depth t = false)
    (h : sop e σ (.eqv ag ks neg X Y) = some (d, σ')) (o : Oper) (ho : o.op = .binOp (if neg then .neq else .eql) t x y u) : Does P CR base g w B e (Act.mk tmps df).eval o d σ' := by
  simp only [sop] at h
  split at h
  case h_2 => cases h
  rename_i p q hp hq
  simp only [Option.map_eq_some_iff] at h
  obtain ⟨b, hb, h⟩ := h
  cases h
  have hrx := row_rel (hf.opd (df := df) hx) hp
  have hry := row_rel (hf.opd (df := df) hy) hq
  obtain ⟨ag', hag', _, hEq⟩ := kinds_ok (P := P) (g := g) (w := w) 20 t ks hk
  rw [hag] at hag'; cases hag'
  have hrun := hEq 10000 (by omega) p q _ _ b hrx hry hb
  refine .pure hi (c := .bool (if neg then !b else b)) ?_ (RelT.of (.bool _))
  have hmain : ∀ (bo : BinOp), bo = (if neg then .neq else .eql) → (eqGuard bo t x y ((Act.mk tmps df).eval x) ((Act.mk tmps df).eval y)).run P w = .ok () w ∧
      (binOp bo t ((Act.mk tmps df).eval x) ((Act.mk tmps df).eval y)).run P w = .ok (.bool (if neg then !b else b)) w := by
    intro bo hbo
    cases ag with
    | true =>
      simp only [IsRow, if_true] at hrx hry
      obtain ⟨xs, ex, _⟩ := hrx
      obtain ⟨ys, ey, _⟩ := hry
      rw [ex, ey] at hrun ⊢
      refine ⟨run_eqGuard_agg w bo t x y xs ys hguard, ?_⟩
      cases neg
      · simp only [Bool.false_eq_true, if_false] at hbo ⊢; subst hbo
        rw [run_eql_struct, hrun]; rfl
      · simp only [if_true] at hbo ⊢; subst hbo
        rw [run_neq_struct, hrun]; rfl
    | false =>
      simp only [IsRow, Bool.false_eq_true, if_false] at hrx hry
      -- one cell: a number or a bool
      have hl := eqK_len _ _ _ _ hb
      have hp1 := hrx.length
      simp only [List.length_cons, List.length_nil] at hp1
      match ks, hb, hl with
      | [], _, hl => exact absurd (hl.1.symm.trans hp1) (by simp)
      | some k :: ks', hb, hl =>
        obtain ⟨a, x1, c, y1, b0, rfl, rfl, h0, rfl⟩ := eqK_some hb
        cases hrx with
        | cons _ _ _ _ hx1 hx2 =>
          cases hry with
          | cons _ _ _ _ hy1 hy2 =>
            cases hx2; cases hy2
            have ex := hx1.int_inv
            have ey := hy1.int_inv
            rw [ex, ey]
            have hks : ks' = [] := by simpa using hl.1.symm
            subst hks
            obtain ⟨_, _, rfl⟩ := eqK_nil h0
            cases neg <;> simp only [Bool.false_eq_true, if_false, if_true] at hbo ⊢ <;> subst hbo <;> simp [eqGuard, binOp, Op.intCmp, bne]
      | none :: ks', hb, hl =>
        obtain ⟨a, x1, c, y1, b0, rfl, rfl, h0, rfl⟩ := eqK_none hb
        cases hrx with
        | cons _ _ _ _ hx1 hx2 =>
          cases hry with
          | cons _ _ _ _ hy1 hy2 =>
            have ex := hx1.bool_inv
            have ey := hy1.bool_inv
            rw [ex, ey] at hrun ⊢
            cases neg <;> simp only [Bool.false_eq_true, if_false, if_true] at hbo ⊢ <;> subst hbo
            · refine ⟨by simp [eqGuard], ?_⟩
              have : ∀ (u v : Bool), binOp .eql t (.bool u) (.bool v) = (do pure (.bool (← Op.equal t (.bool u) (.bool v)))) := fun _ _ => rfl
              rw [this]
              simp only [Sem.run_bind, Op.equal, Op.maxDepth]
              rw [hrun]; simp
            · refine ⟨by simp [eqGuard], ?_⟩
              have : ∀ (u v : Bool), binOp .neq t (.bool u) (.bool v) = (do pure (.bool (!(← Op.equal t (.bool u) (.bool v))))) := fun _ _ => rfl
              rw [this]
              simp only [Sem.run_bind, Op.equal, Op.maxDepth]
              rw [hrun]; simp
  obtain ⟨m1, m2⟩ := hmain _ rfl
  simp only [execOp, ho, Sem.run_bind, m1, m2, Result.andThen_ok, Sem.run_pure]

end ops
end Go.Abs

/-
  Operations on maps.
-/
set_option linter.unusedVariables false
set_option linter.unusedSimpArgs false
namespace Go.Abs
open Go

theorem mapD_inv {σ : Stack} {d : D} {l i : Nat} {es : List D} (h : mapD σ d = some (l, i, es)) : d = .yld l i ∧ cells? σ l i 0 = some es := by
  unfold mapD at h
  split at h
  · simp only [Option.map_eq_some_iff, Prod.mk.injEq] at h
    obtain ⟨cs, h1, rfl, rfl, rfl⟩ := h
    exact ⟨rfl, h1⟩
  · cases h
theorem findK_mem {ky : Ky} {k : D} : ∀ {es : List D} {j : Nat} {v : D}, findK ky k es = some (some (j, v)) → ∃ k', es[j]? = some (.tup [k', v]) ∧ keyQ ky k k' = some true
  | [], j, v, h => by simp [findK] at h
  | x :: es, j, v, h => by
    unfold findK at h
    split at h
    · rename_i heq; cases heq
    · rename_i k' v' es' heq
      cases heq
      split at h
      · rename_i hq
        cases h
        exact ⟨k', rfl, hq⟩
      · simp only [Option.map_eq_some_iff] at h
        obtain ⟨x1, h1, x2, rfl, h2⟩ := h
        cases h2
        obtain ⟨j0, v0⟩ := x2
        obtain ⟨k0, h3, h4⟩ := findK_mem h1
        exact ⟨k0, by simpa using h3, h4⟩
      · cases h
    · cases h
section
variable {P : Program} {g : G} {w : World}

theorem eqK_same : ∀ {ks : List (Option IntKind)} {p q : List D}, eqK ks p q = some true → p = q
  | [], p, q, h => by obtain ⟨rfl, rfl, _⟩ := eqK_nil h; rfl
  | some k :: ks, p, q, h => by
    obtain ⟨a, x, c, y, b0, rfl, rfl, h0, hb⟩ := eqK_some h
    simp only [Bool.true_eq, Bool.and_eq_true, beq_iff_eq] at hb
    obtain ⟨rfl, rfl⟩ := hb
    rw [eqK_same h0]
  | none :: ks, p, q, h => by
    obtain ⟨a, x, c, y, b0, rfl, rfl, h0, hb⟩ := eqK_none h
    simp only [Bool.true_eq, Bool.and_eq_true, beq_iff_eq] at hb
    obtain ⟨rfl, rfl⟩ := hb
    rw [eqK_same h0]
theorem eqK_vals (n : Nat) : ∀ {ks : List (Option IntKind)} {p q : List D} {b : Bool}, eqK ks p q = some b → ∀ {xs ys : List Value}, RelL g p xs → RelL g p ys → xs = ys ∧ (xs.zip ys).all (fun z => Instr.sameBits n z.1 z.2) = true
  | [], p, q, b, h, xs, ys, hx, hy => by
    obtain ⟨rfl, rfl, _⟩ := eqK_nil h
    cases hx; cases hy; exact ⟨rfl, rfl⟩
  | some k :: ks, p, q, b, h, xs, ys, hx, hy => by
    obtain ⟨a, x, c, y, b0, rfl, rfl, h0, hb⟩ := eqK_some h
    cases hx with
    | cons _ v1 _ vs1 h1 h2 =>
      cases hy with
      | cons _ v2 _ vs2 h3 h4 =>
        obtain rfl := h1.int_inv
        obtain rfl := h3.int_inv
        obtain ⟨h5, h6⟩ := eqK_vals n h0 h2 h4
        subst h5
        exact ⟨rfl, by simp only [List.zip_cons_cons, List.all_cons, h6, Instr.sameBits, BEq.rfl, Bool.and_self]⟩
  | none :: ks, p, q, b, h, xs, ys, hx, hy => by
    obtain ⟨a, x, c, y, b0, rfl, rfl, h0, hb⟩ := eqK_none h
    cases hx with
    | cons _ v1 _ vs1 h1 h2 =>
      cases hy with
      | cons _ v2 _ vs2 h3 h4 =>
        obtain rfl := h1.bool_inv
        obtain rfl := h3.bool_inv
        obtain ⟨h5, h6⟩ := eqK_vals n h0 h2 h4
        subst h5
        exact ⟨rfl, by simp only [List.zip_cons_cons, List.all_cons, h6, Instr.sameBits, BEq.rfl, Bool.and_self]⟩
theorem ba_inj {a b : ByteArray} (h : a.data.toList = b.data.toList) : a = b := by
  apply ByteArray.ext
  exact Array.toList_inj.1 h

theorem key_same {ky : Ky} {a b : D} {x y : Value} (h : keyQ ky a b = some true) (hx : RelV g a x) (hy : RelV g b y) : x = y ∧ Instr.sameBits 10000 y x = true := by
  unfold keyQ at h
  split at h
  · split at h
    · rename_i s1 s2
      simp only [Option.some.injEq, beq_iff_eq] at h
      subst h
      obtain ⟨b1, rfl, h1⟩ := hx.str_inv
      obtain ⟨b2, rfl, h2⟩ := hy.str_inv
      obtain rfl := ba_inj (h1.trans h2.symm)
      exact ⟨rfl, by rw [Instr.sameBits, beq_toListBytes]; exact beq_self_eq_true _⟩
    · cases h
  · rename_i ag ks
    split at h
    · rename_i p q hp hq
      obtain rfl := eqK_same h
      have h1 := row_rel hx hp
      have h2 := row_rel hy hq
      cases ag with
      | true =>
        simp only [IsRow, if_true] at h1 h2
        obtain ⟨xs, rfl, h3, _⟩ := h1
        obtain ⟨ys, rfl, h4, _⟩ := h2
        obtain ⟨h5, h6⟩ := eqK_vals 9999 h h4 h3
        obtain rfl := Array.toList_inj.1 h5
        exact ⟨rfl, by simp only [Instr.sameBits, BEq.rfl, Bool.true_and]; exact h6⟩
      | false =>
        simp only [IsRow, Bool.false_eq_true, if_false] at h1 h2
        obtain ⟨h5, h6⟩ := eqK_vals 10000 h h2 h1
        simp only [List.cons.injEq, and_true] at h5
        subst h5
        exact ⟨rfl, by simpa using h6⟩
    · cases h

theorem keyC_inv {t : TypeId} {ky : Ky} (h : keyC P t = some ky) : (P.underlying t = some .string ∧ ky = none) ∨ (∃ k, P.underlying t = some (.int k) ∧ ky = some (false, [some k])) ∨
    ∃ fs ks, P.underlying t = some (.struct fs) ∧ kindsC P 20 t = some ks ∧ ky = some (true, ks) ∧ fs.toList.all (fun f => match P.underlying f.type with | some (.int _) => true | some .bool => true | _ => false) = true := by
  unfold keyC at h
  split at h
  · rename_i hu; cases h; exact .inl ⟨hu, rfl⟩
  · rename_i k hu; cases h; exact .inr (.inl ⟨k, hu, rfl⟩)
  · rename_i fs hu
    split at h
    · rename_i hall
      obtain ⟨ks, hks, rfl⟩ := Option.map_eq_some_iff.1 h
      exact .inr (.inr ⟨fs, ks, hu, hks, rfl, hall⟩)
    · cases h
  · cases h

theorem key_equal {t : TypeId} {ky : Ky} (hk : keyC P t = some ky) {a b : D} {c : Bool} {x y : Value} (h : keyQ ky a b = some c) (hx : RelV g a x) (hy : RelV g b y) : (Op.equal t x y).run P w = .ok c w := by
  have key : ∀ ag ks, kindsC P 20 t = some ks → aggC P t = some ag → keyQ (some (ag, ks)) a b = some c → (Op.equal t x y).run P w = .ok c w := by
    intro ag ks hks hag hq
    simp only [keyQ] at hq
    split at hq
    case h_2 => cases hq
    rename_i p q hp hq2
    obtain ⟨ag', hag', _, hEq⟩ := kinds_ok (P := P) (g := g) (w := w) 20 t ks hks
    rw [hag] at hag'; cases hag'
    exact hEq 10000 (by omega) p q x y c (row_rel hx hp) (row_rel hy hq2) hq
  rcases keyC_inv hk with ⟨hu, rfl⟩ | ⟨k, hu, rfl⟩ | ⟨fs, ks, hu, hks, rfl, _⟩
  · simp only [keyQ] at h
    split at h
    case h_2 => cases h
    rename_i s1 s2
    cases h
    obtain ⟨b1, rfl, h1⟩ := hx.str_inv
    obtain ⟨b2, rfl, h2⟩ := hy.str_inv
    have := run_equalIn_string (P := P) w 9999 t b1 b2 hu
    simp only [Op.equal, Op.maxDepth]
    rw [this, ByteArray.toList_eq, ByteArray.toList_eq, h1, h2]
  · exact key false [some k] (by simp [kindsC, hu]) (by simp [aggC, hu]) h
  · exact key true ks hks (by simp [aggC, hu]) h

def Found (ents : List MapEntry) (r : Option (Nat × D)) (g : G) (o : Option (Nat × Value)) (i : Nat) : Prop :=
  match r with
  | none => o = none
  | some (j, v) => ∃ e, ents[j]? = some e ∧ o = some (i + j, e.val) ∧ RelV g v e.val

theorem tup_two {k v : D} {a b : Value} (h : RelV g (.tup [k, v]) (.tuple #[a, b])) : RelV g k a ∧ RelV g v b := by
  cases h with
  | tup _ _ hr =>
    cases hr with
    | cons _ _ _ _ h1 h2 => cases h2 with | cons _ _ _ _ h3 h4 => exact ⟨h1, h3⟩

theorem asking_run {t : TypeId} {ky : Ky} (hk : keyC P t = some ky) {k : D} {x : Value} (hx : RelV g k x) : ∀ (es : List D) (ents : List MapEntry) (r : Option (Nat × D)) (i : Nat), RelL g es (ents.map fun e => .tuple #[e.key, e.val]) → findK ky k es = some r →
    ∃ o, (Instr.findAsking t x ents i).run P w = .ok o w ∧ Found ents r g o i
  | [], ents, r, i, hr, h => by
    cases ents with
    | nil => simp only [findK, Option.some.injEq] at h; subst h; exact ⟨none, by simp [Instr.findAsking], rfl⟩
    | cons e ents => cases hr
  | d :: es, ents, r, i, hr, h => by
    cases ents with
    | nil => cases hr
    | cons e ents =>
      rw [List.map_cons] at hr
      cases hr with
      | cons _ _ _ _ hr1 hr2 =>
      unfold findK at h
      split at h
      · rename_i heq; cases heq
      · rename_i k' v es' heq
        cases heq
        obtain ⟨hk1, hv1⟩ := tup_two hr1
        split at h
        · rename_i hq
          cases h
          have he := key_equal (w := w) hk hq hx hk1
          refine ⟨some (i, e.val), by simp [Instr.findAsking, he], e, rfl, by simp, hv1⟩
        · rename_i hq
          simp only [Option.map_eq_some_iff] at h
          obtain ⟨r1, h1, rfl⟩ := h
          have he := key_equal (w := w) hk hq hx hk1
          obtain ⟨o, ho, hf⟩ := asking_run hk hx es ents r1 (i + 1) hr2 h1
          refine ⟨o, by simp [Instr.findAsking, he, ho], ?_⟩
          cases r1 with
          | none => exact hf
          | some y =>
            obtain ⟨e1, h3, h4, h5⟩ := hf
            exact ⟨e1, by simpa using h3, by rw [h4]; congr 2; omega, h5⟩
        · cases h
      · cases h

theorem now_run {t : TypeId} {ky : Ky} {dsc : TypeDesc} {k : D} {x : Value} (hs : ∀ k' y c, keyQ ky k k' = some c → RelV g k' y → Instr.sameNow dsc x y = some c) : ∀ (es : List D) (ents : List MapEntry) (r : Option (Nat × D)) (i : Nat), RelL g es (ents.map fun e => .tuple #[e.key, e.val]) → findK ky k es = some r →
    ∃ o, Instr.findNow dsc x ents i = some o ∧ Found ents r g o i
  | [], ents, r, i, hr, h => by
    cases ents with
    | nil => simp only [findK, Option.some.injEq] at h; subst h; exact ⟨none, by simp [Instr.findNow], rfl⟩
    | cons e ents => cases hr
  | d :: es, ents, r, i, hr, h => by
    cases ents with
    | nil => cases hr
    | cons e ents =>
      rw [List.map_cons] at hr
      cases hr with
      | cons _ _ _ _ hr1 hr2 =>
      unfold findK at h
      split at h
      · rename_i heq; cases heq
      · rename_i k' v es' heq
        cases heq
        obtain ⟨hk1, hv1⟩ := tup_two hr1
        split at h
        · rename_i hq
          cases h
          exact ⟨some (i, e.val), by simp [Instr.findNow, hs _ _ _ hq hk1], e, rfl, by simp, hv1⟩
        · rename_i hq
          simp only [Option.map_eq_some_iff] at h
          obtain ⟨r1, h1, rfl⟩ := h
          obtain ⟨o, ho, hf⟩ := now_run (t := t) hs es ents r1 (i + 1) hr2 h1
          refine ⟨o, by simp [Instr.findNow, hs _ _ _ hq hk1, ho], ?_⟩
          cases r1 with
          | none => exact hf
          | some y =>
            obtain ⟨e1, h3, h4, h5⟩ := hf
            exact ⟨e1, by simpa using h3, by rw [h4]; congr 2; omega, h5⟩
        · cases h
      · cases h

theorem findKey_run {t : TypeId} {ky : Ky} (hk : keyC P t = some ky) {k : D} {x : Value} (hx : RelV g k x) {es : List D} {ents : List MapEntry} {r : Option (Nat × D)} (hr : RelL g es (ents.map fun e => .tuple #[e.key, e.val])) (h : findK ky k es = some r)
    (hself : (keyQ ky k k).isSome = true) : ∃ o, (Instr.findKey t x ents).run P w = .ok o w ∧ Found ents r g o 0 := by
  rcases keyC_inv hk with ⟨hu, rfl⟩ | ⟨kk, hu, rfl⟩ | ⟨fs, ks, hu, hks, rfl, _⟩
  · obtain ⟨o, h1, h2⟩ := now_run (t := t) (ky := none) (k := k) (x := x) (dsc := .string) (fun k' y c hq hy => by
      simp only [keyQ] at hq
      split at hq
      case h_2 => cases hq
      cases hq
      obtain ⟨b1, rfl, h1⟩ := hx.str_inv
      obtain ⟨b2, rfl, h2⟩ := hy.str_inv
      simp only [Instr.sameNow]
      rw [beq_toListBytes, ByteArray.toList_eq, ByteArray.toList_eq, h1, h2]) es ents r 0 hr h
    exact ⟨o, MapKept.run_findKey hu h1, h2⟩
  · obtain ⟨o, h1, h2⟩ := now_run (t := t) (ky := some (false, [some kk])) (k := k) (x := x) (dsc := .int kk) (fun k' y c hq hy => by
      simp only [keyQ] at hq
      split at hq
      case h_2 => cases hq
      rename_i p q hp hq2
      have hx1 := row_rel hx hp
      have hy1 := row_rel hy hq2
      simp only [IsRow, Bool.false_eq_true, if_false] at hx1 hy1
      obtain ⟨a, xs, b, ys, b0, rfl, rfl, h0, rfl⟩ := eqK_some hq
      obtain ⟨rfl, rfl, rfl⟩ := eqK_nil h0
      cases hx1 with
      | cons _ _ _ _ g1 _ =>
        cases hy1 with
        | cons _ _ _ _ g2 _ =>
          obtain rfl := g1.int_inv
          obtain rfl := g2.int_inv
          simp [Instr.sameNow]) es ents r 0 hr h
    exact ⟨o, MapKept.run_findKey hu h1, h2⟩
  · obtain ⟨o, h1, h2⟩ := asking_run (w := w) hk hx es ents r 0 hr h
    refine ⟨o, ?_, h2⟩
    rw [run_findKey_eq w (by simp [hu])]
    exact h1

theorem checkFields_run (em : Bool) {xs : Array Value} {p : List D} (hx : RelL g p xs.toList) (h1x : ∀ y ∈ xs.toList, y.oneCell' = true) :
    ∀ (fs : List Field) (o : Nat) (ks : List (Option IntKind)) (q : List D) (b : Bool), kindsC.kindsF P (kindsC P 19) o fs = some ks → fs.all (fun f => match P.underlying f.type with | some (.int _) => true | some .bool => true | _ => false) = true →
      eqK ks (p.drop o) q = some b →
      (forIn (m := Sem) fs PUnit.unit fun f _ => do
        if f.name ≠ "_" then Instr.checkKey em 9999 f.type (← part f.type xs f.offset)
        pure (ForInStep.yield PUnit.unit)).run P w = .ok PUnit.unit w
  | [], o, ks, q, b, hk, ha, he => by simp
  | f :: fs, o, ks, q, b, hk, ha, he => by
    simp only [kindsC.kindsF] at hk
    split at hk
    case h_2 => cases hk
    rename_i k1 hk1
    split at hk
    case isFalse => cases hk
    rename_i hc
    obtain ⟨hname, hoff, hsz, hpos⟩ := hc
    simp only [Option.map_eq_some_iff] at hk
    obtain ⟨k2, hk2, rfl⟩ := hk
    simp only [List.all_cons, Bool.and_eq_true] at ha
    obtain ⟨l1, l2⟩ := eqK_len _ _ _ _ he
    obtain ⟨b1, b2, e1, e2, rfl⟩ := eqK_append _ _ _ _ _ he
    simp only [List.length_append, List.length_drop] at l1 l2
    have ih := checkFields_run em hx h1x fs (o + k1.length) k2 (q.drop k1.length) b2 hk2 ha.2 (by simpa [List.drop_drop] using e2)
    have one : ∃ a, (part f.type xs o).run P w = .ok a w ∧ (Instr.checkKey em 9999 f.type a).run P w = .ok () w := by
      have h0 := ha.1
      split at h0
      · rename_i k hu
        have hk1' : k1 = [some k] := by simp [kindsC, hu] at hk1; exact hk1.symm
        subst hk1'
        obtain ⟨a, hpa, hra⟩ := part_at (P := P) (w := w) (ag := false) (n := 1) (o := o) (by simp [aggC, hu]) hsz (fun _ => rfl) hx h1x (by simp only [List.length_cons, List.length_nil] at l1 ⊢; omega)
        simp only [IsRow, Bool.false_eq_true, if_false] at hra
        obtain ⟨a0, x0, c0, y0, b0, e3, _, _, _⟩ := eqK_some e1
        simp only [List.length_cons, List.length_nil, Nat.zero_add] at e3
        rw [e3] at hra
        cases hra with
        | cons _ _ _ _ g1 g2 =>
          obtain rfl := g1.int_inv
          exact ⟨_, hpa, MapKept.run_checkKey (d := .int k) hu (by simp [MapKept.IsKey]) em 9998⟩
      · rename_i hu
        have hk1' : k1 = [none] := by simp [kindsC, hu] at hk1; exact hk1.symm
        subst hk1'
        obtain ⟨a, hpa, hra⟩ := part_at (P := P) (w := w) (ag := false) (n := 1) (o := o) (by simp [aggC, hu]) hsz (fun _ => rfl) hx h1x (by simp only [List.length_cons, List.length_nil] at l1 ⊢; omega)
        simp only [IsRow, Bool.false_eq_true, if_false] at hra
        obtain ⟨a0, x0, c0, y0, b0, e3, _, _, _⟩ := eqK_none e1
        simp only [List.length_cons, List.length_nil, Nat.zero_add] at e3
        rw [e3] at hra
        cases hra with
        | cons _ _ _ _ g1 g2 =>
          obtain rfl := g1.bool_inv
          exact ⟨_, hpa, MapKept.run_checkKey (d := .bool) hu (by simp [MapKept.IsKey]) em 9998⟩
      · cases h0
    obtain ⟨a, h1, h2⟩ := one
    rw [List.forIn_cons]
    rw [hoff]
    simp only [hname, ne_eq, not_false_eq_true, if_true, Sem.run_bind, h1, h2, Result.andThen_ok, Sem.run_pure]
    exact ih

theorem checkKey_run {t : TypeId} {ky : Ky} (hk : keyC P t = some ky) {k : D} {x : Value} (hx : RelV g k x) (hself : (keyQ ky k k).isSome = true) (em : Bool) : (Instr.checkKey em 10000 t x).run P w = .ok () w := by
  rcases keyC_inv hk with ⟨hu, rfl⟩ | ⟨kk, hu, rfl⟩ | ⟨fs, ks, hu, hks, rfl, hall⟩
  · refine MapKept.run_checkKey (d := .string) hu ?_ em 9999
    obtain ⟨c, hc⟩ := Option.isSome_iff_exists.1 hself
    simp only [keyQ] at hc
    split at hc
    case h_2 => cases hc
    obtain ⟨b1, rfl, h1⟩ := hx.str_inv
    simp [MapKept.IsKey]
  · refine MapKept.run_checkKey (d := .int kk) hu ?_ em 9999
    obtain ⟨c, hc⟩ := Option.isSome_iff_exists.1 hself
    simp only [keyQ] at hc
    split at hc
    case h_2 => cases hc
    rename_i p q hp hq2
    have hx1 := row_rel hx hp
    simp only [IsRow, Bool.false_eq_true, if_false] at hx1
    obtain ⟨a, xs, b, ys, b0, rfl, _, h0, rfl⟩ := eqK_some hc
    obtain ⟨rfl, _, rfl⟩ := eqK_nil h0
    cases hx1 with
    | cons _ _ _ _ g1 _ =>
      obtain rfl := g1.int_inv
      simp [MapKept.IsKey]
  · obtain ⟨c, hc⟩ := Option.isSome_iff_exists.1 hself
    simp only [keyQ] at hc
    split at hc
    case h_2 => cases hc
    rename_i p q hp hq2
    have hx1 := row_rel hx hp
    simp only [IsRow, if_true] at hx1
    obtain ⟨xs, rfl, hxr, h1x⟩ := hx1
    have hks' : kindsC.kindsF P (kindsC P 19) 0 fs.toList = some ks := by
      have := hks
      rw [kindsC, hu] at this
      dsimp only at this
      split at this
      · cases this
      · exact this
    have hrun := checkFields_run (P := P) (w := w) em hxr h1x fs.toList 0 ks q c hks' hall (by simpa using hc)
    rw [show (10000 : Nat) = 9999 + 1 from rfl, Instr.checkKey]
    simp only [Sem.run_bind, run_underlying hu, Result.andThen_ok]
    rw [← Array.forIn_toList]
    simp at hrun ⊢
    rw [hrun]
    rfl
end

section
variable {P : Program} {CR : CRel} {base fb : Nat} {V : List Nat} {g : G} {σ σ' : Stack} {w : World} {B : Nat → Nat} {e : Env} {tmps : Array Value} {df : List Deferred} {d : D}

theorem Inv.newMap (hi : Inv CR base g σ w) {l i : Nat} (hn : newBlk σ (.cells 0 []) = some (l, i, σ')) :
    Inv CR base (g.setLoc l i (.mp w.heap.size)) σ' (w.alloc (.map #[] 0)) ∧ Ev g w (g.setLoc l i (.mp w.heap.size)) (w.alloc (.map #[] 0)) := by
  obtain ⟨h1, h2, h3, _, _⟩ := newBlk_spec hn
  have hnone := hi.none_of h1
  have hle : g.le (g.setLoc l i (.mp w.heap.size)) := G.le_setLoc fun L0 e => by rw [hnone] at e; cases e
  refine ⟨hi.turn l i hle h3 (fun l' i' c => G.setLoc_other c) (fun l' i' L b c e eb => alloc_old (hi.lo l' i' L b e eb).2) ?_ ?_ ?_ ?_ (by simp) ⟨_, G.setLoc_same⟩ (fun b v hb => alloc_old (hi.imm_lt hb)), ⟨hle, rfl, rfl, rfl, by simp, fun b hb _ => alloc_old hb, ?_, fun b o v hv => .inl hv⟩⟩
  · intro L e
    rw [G.setLoc_same] at e; cases e
    exact ⟨_, h2, rfl, #[], 0, alloc_new, .nil, by simp [MapOk]⟩
  · intro b o v e
    obtain ⟨h1, h2⟩ := hi.imm b o v e
    exact ⟨(cell?_congr (alloc_old (hi.imm_lt e))).trans h1, h2⟩
  · intro l' i' L b e eb o
    by_cases c : l' = l ∧ i' = i
    · obtain ⟨rfl, rfl⟩ := c
      rw [G.setLoc_same] at e; cases e; cases eb
      cases e' : (g.setLoc l' i' (.mp w.heap.size)).imm w.heap.size o with
      | none => rfl
      | some v => have := hi.imm_lt (b := w.heap.size) (o := o) (v := v) e'; omega
    · rw [G.setLoc_other c] at e; exact hi.sep l' i' L b e eb o
  · intro L b e eb
    rw [G.setLoc_same] at e; cases e; cases eb
    refine ⟨hi.ge, by simp, fun l' i' L' c e' eb' => ?_⟩
    have := (hi.lo l' i' L' _ e' eb').2; omega
  · intro b hb
    obtain ⟨l', i', L, e, eb⟩ := hb
    by_cases c : l' = l ∧ i' = i
    · obtain ⟨rfl, rfl⟩ := c
      rw [G.setLoc_same] at e; cases e; cases eb; exact .inr (Nat.le_refl _)
    · rw [G.setLoc_other c] at e; exact .inl ⟨l', i', L, e, eb⟩

theorem Inv.newBld (hi : Inv CR base g σ w) {l i T ee : Nat} (hn : newBlk σ (.cells 2 [.int .i64 (T : Nat), .int .i64 (ee : Nat), .str []]) = some (l, i, σ')) :
    Inv CR base (g.setLoc l i (.ob w.heap.size none)) σ' (w.alloc (.cells #[.pointer none, .slice none 0 0] T)) ∧ Ev g w (g.setLoc l i (.ob w.heap.size none)) (w.alloc (.cells #[.pointer none, .slice none 0 0] T)) := by
  obtain ⟨h1, h2, h3, _, _⟩ := newBlk_spec hn
  have hnone := hi.none_of h1
  have hle : g.le (g.setLoc l i (.ob w.heap.size none)) := G.le_setLoc fun L0 e => by rw [hnone] at e; cases e
  have hown : ∀ b, (Loc.ob w.heap.size none).owns b → w.heap.size = b := fun b h => by
    rcases h with h | h
    · exact h
    · cases h
  refine ⟨hi.turn l i hle h3 (fun l' i' c => G.setLoc_other c) (fun l' i' L b c e eb => alloc_old (hi.lo l' i' L b e eb).2) ?_ ?_ ?_ ?_ (by simp) ⟨_, G.setLoc_same⟩ (fun b v hb => alloc_old (hi.imm_lt hb)), ⟨hle, rfl, rfl, rfl, by simp, fun b hb _ => alloc_old hb, ?_, fun b o v hv => .inl hv⟩⟩
  · intro L e
    rw [G.setLoc_same] at e; cases e
    exact ⟨_, h2, rfl, T, ee, [], .pointer none, .slice none 0 0, rfl, alloc_new, .inl rfl, World.ownsRowF_nil _ _ _ _, rfl, by simp⟩
  · intro b o v e
    obtain ⟨h1, h2⟩ := hi.imm b o v e
    exact ⟨(cell?_congr (alloc_old (hi.imm_lt e))).trans h1, h2⟩
  · intro l' i' L b e eb o
    by_cases c : l' = l ∧ i' = i
    · obtain ⟨rfl, rfl⟩ := c
      rw [G.setLoc_same] at e; cases e; obtain rfl := hown b eb
      cases e' : (g.setLoc l' i' (.ob w.heap.size none)).imm w.heap.size o with
      | none => rfl
      | some v => have := hi.imm_lt (b := w.heap.size) (o := o) (v := v) e'; omega
    · rw [G.setLoc_other c] at e; exact hi.sep l' i' L b e eb o
  · intro L b e eb
    rw [G.setLoc_same] at e; cases e; obtain rfl := hown b eb
    refine ⟨hi.ge, by simp, fun l' i' L' c e' eb' => ?_⟩
    have := (hi.lo l' i' L' _ e' eb').2; omega
  · intro b hb
    obtain ⟨l', i', L, e, eb⟩ := hb
    by_cases c : l' = l ∧ i' = i
    · obtain ⟨rfl, rfl⟩ := c
      rw [G.setLoc_same] at e; cases e; obtain rfl := hown b eb; exact .inr (Nat.le_refl _)
    · rw [G.setLoc_other c] at e; exact .inl ⟨l', i', L, e, eb⟩

theorem Inv.setMap (hi : Inv CR base g σ w) {l i b : Nat} {b0 : Blk} {es : List D} (hL : g.loc l i = some (.mp b)) (hb : blk? σ l i = some b0) {ents : Array MapEntry} {clock : Nat}
    (hr : RelL g es (ents.toList.map fun e => .tuple #[e.key, e.val])) (hm : MapOk ents.toList clock) {w' : World} (hw : w' = { w with heap := w.heap.setIfInBounds b (.map ents clock) }) :
    Inv CR base (g.setLoc l i (.mp b)) (setBlk σ l i (.cells 0 es)) w' ∧ Ev g w (g.setLoc l i (.mp b)) w' := by
  subst hw
  have hlt := (hi.lo l i _ b hL rfl).2
  have hle : g.le (g.setLoc l i (.mp b)) := G.le_setLoc fun L0 e => by rw [hL] at e; cases e; exact Loc.le_refl _
  refine hi.setCells hL hb (Loc.le_refl _) ⟨rfl, ents, clock, by simp [hlt], hr.mono hle, hm⟩ (fun b' hb' hne => ?_) rfl rfl rfl (by simp) (fun b' hb' => .inl hb')
  have : b ≠ b' := fun hh => hne (by rw [hh]; rfl)
  simp [this]

theorem mapD_rel (hi : Inv CR base g σ w) {m : D} {c : Value} (hr : RelV g m c) {l i : Nat} {es : List D} (h : mapD σ m = some (l, i, es)) :
    ∃ b ents clock v, c = .map (some b) ∧ g.loc l i = some (.mp b) ∧ blk? σ l i = some (.cells v es) ∧ w.heap[b]? = some (.map ents clock) ∧ RelL g es (ents.toList.map fun e => .tuple #[e.key, e.val]) ∧ MapOk ents.toList clock := by
  obtain ⟨rfl, hcs⟩ := mapD_inv h
  unfold cells? at hcs
  split at hcs
  case h_2 => cases hcs
  rename_i v' cs' hblk
  split at hcs
  case isFalse => cases hcs
  cases hcs
  cases hr with
  | yld _ _ b hl =>
    obtain ⟨b0, hb0, hrel⟩ := hi.dom l i _ hl
    rw [hblk] at hb0; cases hb0
    exact hrel.elim
  | mpv _ _ b hl =>
    obtain ⟨b0, hb0, hrel⟩ := hi.dom l i _ hl
    rw [hblk] at hb0; cases hb0
    obtain ⟨_, ents, clock, h1, h2, h3⟩ := hrel
    exact ⟨b, ents, clock, v', rfl, hl, hblk, h1, h2, h3⟩
  | itv _ _ b L hl hc =>
    obtain ⟨b0, hb0, hrel⟩ := hi.dom l i _ hl
    rw [hblk] at hb0; cases hb0
    rcases hc with rfl | rfl
    · rename_i hv0
      obtain ⟨hv1, _⟩ := hrel
      omega
    · exact hrel.elim
  | bdv _ _ b L hl hc =>
    obtain ⟨b0, hb0, hrel⟩ := hi.dom l i _ hl
    rw [hblk] at hb0; cases hb0
    rcases hc with ⟨c, rfl⟩ | rfl
    · rename_i hv0
      obtain ⟨hv1, _⟩ := hrel
      omega
    · exact hrel.elim

theorem s_mkm (hi : Inv CR base g σ w) {t : TypeId} {ρ : Operand → Value} (h : sop e σ (.mp .make []) = some (d, σ')) (o : Oper) (ho : o.op = .makeMap t none) : Does P CR base g w B e ρ o d σ' := by
  simp only [sop, List.map_nil, mpD, Option.map_eq_some_iff, Prod.mk.injEq, Prod.exists] at h
  obtain ⟨l, i, σ1, hn, rfl, rfl⟩ := h
  obtain ⟨i1, e1⟩ := hi.newMap hn
  exact .val (.map (some w.heap.size)) (by
    have hrun : (Instr.makeMap t none).run P w = .ok (.map (some w.heap.size)) (w.alloc (.map #[] 0)) := rfl
    simp only [execOp, ho, Option.map_none, Sem.run_bind, hrun, Result.andThen_ok, Sem.run_pure]) e1 i1 (.mpv l i _ G.setLoc_same)

theorem s_mkb (hi : Inv CR base g σ w) {el ee : TypeId} {ρ : Operand → Value} (hz : zeroC P el = some [.nilp, .nils])
    (h : sop e σ (.mp (.bld el ee) []) = some (d, σ')) (o : Oper) (ho : o.op = .alloc el) : Does P CR base g w B e ρ o d σ' := by
  obtain ⟨i0, v, hinfo, hzero, hrz, h1⟩ := zeroC_rel g hz
  simp only [sop, List.map_nil, mpD, Option.map_eq_some_iff, Prod.mk.injEq, Prod.exists] at h
  obtain ⟨l, i, σ1, hn, rfl, rfl⟩ := h
  obtain ⟨i1, e1⟩ := hi.newBld hn
  have hv : v.cells = #[.pointer none, .slice none 0 0] := by
    generalize v.cells = a at hrz
    obtain ⟨a⟩ := a
    dsimp only at hrz
    cases hrz with
    | cons _ c _ cs k1 k2 =>
      cases k2 with
      | cons _ c2 _ cs2 k3 k4 =>
        cases k4
        cases k1
        cases k3
        rfl
  have hrun := run_alloc (w := w) hinfo hzero
  rw [hv] at hrun
  exact .val (.pointer (some ⟨w.heap.size, 0, none⟩)) (by simp [execOp, ho, hrun]) e1 i1 (.bdv l i _ _ G.setLoc_same (.inl ⟨_, rfl⟩))

theorem s_mkm2 (hi : Inv CR base g σ w) {t kt et : TypeId} {ik : IntKind} {n : Int} (h : sop e σ (.mp .make []) = some (d, σ')) (ht : P.underlying t = some (.map kt et)) (o : Oper) (ho : o.op = .makeMap t (some (.const (.int ik n)))) : Does P CR base g w B e (Act.mk tmps df).eval o d σ' := by
  simp only [sop, List.map_nil, mpD, Option.map_eq_some_iff, Prod.mk.injEq, Prod.exists] at h
  obtain ⟨l, i, σ1, hn, rfl, rfl⟩ := h
  obtain ⟨i1, e1⟩ := hi.newMap hn
  exact .val (.map (some w.heap.size)) (by
    have hrun : (Instr.makeMap t (some (.int ik n))).run P w = .ok (.map (some w.heap.size)) (w.alloc (.map #[] 0)) := by
      simp only [Instr.makeMap, Sem.run_bind, run_under ht, Result.andThen_ok]; rfl
    have hev : (Act.mk tmps df).eval (.const (.int ik n)) = .int ik n := rfl
    simp only [execOp, ho, Option.map_some, hev, Sem.run_bind, hrun, Result.andThen_ok, Sem.run_pure]) e1 i1 (.mpv l i _ G.setLoc_same)

theorem s_mlen (hf : Fr fb V g w B e tmps) (hi : Inv CR base g σ w) {x : Operand} {X : Opd} {t kt et : TypeId} {args : Array Operand} {ts : Array TypeId} {r : List Operand} {tr : List TypeId} (hx : opdC x = some X)
    (ht : P.underlying t = some (.map kt et)) (ha : args.toList = x :: r) (hts : ts.toList = t :: tr)
    (h : sop e σ (.mp .len [X]) = some (d, σ')) (o : Oper) (ho : o.op = .call { callee := .builtin .len, args, argTypes := ts }) : Does P CR base g w B e (Act.mk tmps df).eval o d σ' := by
  have hr := hf.opd (df := df) hx
  obtain rfl : args = (x :: r).toArray := by rw [← ha]
  obtain rfl : ts = (t :: tr).toArray := by rw [← hts]
  simp only [sop, List.map_cons, List.map_nil, mpD, Option.map_eq_some_iff, Prod.mk.injEq, Prod.exists] at h
  obtain ⟨l, i, es, hm, rfl, rfl⟩ := h
  obtain ⟨b, ents, clock, v, hc, hl, hblk, hheap, hrel, hok⟩ := mapD_rel hi hr hm
  have hlen := hrel.length
  simp only [List.length_map, Array.length_toList] at hlen
  refine .pure hi (c := .int .i64 ents.size) ?_ (by rw [hlen]; exact RelT.of (.int _ _))
  simp [execOp, ho, resolve, invoke, builtin, Builtin.len_, hc, run_under ht, goInt, MapKept.run_getObj_map hheap]

theorem zvC_rel {t : TypeId} {z : D} (g : G) (h : zvC P t = some z) : ∃ i v, P.info? t = some i ∧ i.zero = some v ∧ RelV g z v := by
  unfold zvC at h
  split at h
  · rename_i i hi
    split at h
    · rename_i v hv
      exact ⟨i, v, hi, hv, constD_rel g h⟩
    · cases h
  · cases h

theorem s_mget (hf : Fr fb V g w B e tmps) (hi : Inv CR base g σ w) {x y : Operand} {X Y : Opd} {t kt et : TypeId} {ky : Ky} {z : D} {ok : Bool} (hx : opdC x = some X) (hy : opdC y = some Y)
    (ht : P.underlying t = some (.map kt et)) (hk : keyC P kt = some ky) (hz : zvC P et = some z)
    (h : sop e σ (.mp (.get ky z ok) [X, Y]) = some (d, σ')) (o : Oper) (ho : o.op = .lookup t x y ok) : Does P CR base g w B e (Act.mk tmps df).eval o d σ' := by
  have hr := hf.opd (df := df) hx
  have hr' := hf.opd (df := df) hy
  simp only [sop, List.map_cons, List.map_nil, mpD] at h
  split at h
  case h_2 => cases h
  rename_i l i es hm
  split at h
  case isFalse => cases h
  rename_i hself
  obtain ⟨b, ents, clock, v, hc, hl, hblk, hheap, hrel, hok⟩ := mapD_rel hi hr hm
  have hck := checkKey_run (w := w) hk hr' hself ents.isEmpty
  obtain ⟨iz, zv, hz1, hz2, hz3⟩ := zvC_rel g hz
  split at h
  · rename_i j v1 hfk
    cases h
    obtain ⟨o1, ho1, e1, _, rfl, hv1⟩ := findKey_run (w := w) hk hr' hrel hfk hself
    cases ok
    · refine .pure hi (c := e1.val) ?_ (RelT.of (by simpa using hv1))
      simp [execOp, ho, Instr.lookup, run_under ht, hc, MapKept.run_getObj_map hheap, hck, ho1]
    · refine .pure hi (c := .tuple #[e1.val, .bool true]) ?_ (RelT.of (by simpa using RelV.tup _ #[e1.val, .bool true] (.cons _ _ _ _ hv1 (.cons _ _ _ _ (.bool true) .nil))))
      simp [execOp, ho, Instr.lookup, run_under ht, hc, MapKept.run_getObj_map hheap, hck, ho1]
  · rename_i hfk
    cases h
    obtain ⟨o1, ho1, hf1⟩ := findKey_run (w := w) hk hr' hrel hfk hself
    obtain rfl : o1 = none := hf1
    cases ok
    · refine .pure hi (c := zv) ?_ (RelT.of (by simpa using hz3))
      simp [execOp, ho, Instr.lookup, run_under ht, hc, MapKept.run_getObj_map hheap, hck, ho1, run_zeroValue hz1 hz2]
    · refine .pure hi (c := .tuple #[zv, .bool false]) ?_ (RelT.of (by simpa using RelV.tup _ #[zv, .bool false] (.cons _ _ _ _ hz3 (.cons _ _ _ _ (.bool false) .nil))))
      simp [execOp, ho, Instr.lookup, run_under ht, hc, MapKept.run_getObj_map hheap, hck, ho1, run_zeroValue hz1 hz2]
  · cases h

theorem RelL.set {g : G} : ∀ {ds : List D} {cs : List Value} {j : Nat} {d : D} {c : Value}, RelL g ds cs → RelV g d c → RelL g (ds.set j d) (cs.set j c)
  | [], [], _, _, _, _, _ => by simpa using RelL.nil
  | _ :: _, _ :: _, 0, _, _, .cons _ _ _ _ h1 h2, h => .cons _ _ _ _ h h2
  | _ :: _, _ :: _, j + 1, _, _, .cons _ _ _ _ h1 h2, h => .cons _ _ _ _ h1 (h2.set h)

theorem s_mput (hf : Fr fb V g w B e tmps) (hi : Inv CR base g σ w) {x y u : Operand} {X Y U : Opd} {t kt et : TypeId} {ky : Ky} (hx : opdC x = some X) (hy : opdC y = some Y) (hu : opdC u = some U)
    (ht : P.underlying t = some (.map kt et)) (hk : keyC P kt = some ky)
    (h : sop e σ (.mp (.put ky) [X, Y, U]) = some (d, σ')) (o : Oper) (ho : o.op = .mapUpdate t x y u ∨ o.op = .insert t x y u) : Does P CR base g w B e (Act.mk tmps df).eval o d σ' := by
  have hr := hf.opd (df := df) hx
  have hr' := hf.opd (df := df) hy
  have hru := hf.opd (df := df) hu
  simp only [sop, List.map_cons, List.map_nil, mpD] at h
  split at h
  case h_2 => cases h
  rename_i l i es hm
  split at h
  case isFalse => cases h
  rename_i hself
  obtain ⟨b, ents, clock, v, hc, hl, hblk, hheap, hrel, hok⟩ := mapD_rel hi hr hm
  have hck := checkKey_run (w := w) hk hr' hself.1 false
  generalize hkv : (Act.mk tmps df).eval y = kv at *
  generalize huv : (Act.mk tmps df).eval u = uv at *
  have hnew : RelV g (.tup [opd e Y, opd e U]) (.tuple #[kv, uv]) := .tup _ _ (.cons _ _ _ _ hr' (.cons _ _ _ _ hru .nil))
  split at h
  · rename_i j v1 hfk
    cases h
    obtain ⟨o1, ho1, e1, he1, rfl, hv1⟩ := findKey_run (w := w) hk hr' hrel hfk hself.1
    obtain ⟨k', hk', hkq⟩ := findK_mem hfk
    have hj : ents[j]? = some e1 := by simpa using he1
    have hold : RelV g k' e1.key := by
      obtain ⟨c0, hc0, hr0⟩ := hrel.get hk'
      rw [List.getElem?_map, he1] at hc0
      cases hc0
      exact (tup_two hr0).1
    obtain ⟨hsame, hbits⟩ := key_same hkq hr' hold
    have hlist : (ents.modify j fun e => { e with key := kv, val := uv }).toList = ents.toList.set j { e1 with key := kv, val := uv } := by
      rw [Array.toList_modify]
      apply List.ext_getElem?
      intro n
      rw [List.getElem?_modify, List.getElem?_set]
      by_cases hn : j = n
      · subst hn
        have hlt := (List.getElem?_eq_some_iff.1 he1).1
        have hlt2 : j < ents.size := by simpa using hlt
        have hje : ents[j] = e1 := (Array.getElem?_eq_some_iff.1 hj).2
        simp [he1, hlt2, hje]
      · simp [hn]
    obtain ⟨i1, ev1⟩ := hi.setMap (es := es.set j (.tup [opd e Y, opd e U])) (ents := ents.modify j fun e => { e with key := kv, val := uv }) (clock := clock) (w' := { w with heap := w.heap.setIfInBounds b (.map (ents.modify j fun e => { e with key := kv, val := uv }) clock) }) hl hblk (by
        rw [hlist, List.map_set]; exact hrel.set hnew) (by
        have hlt := (List.getElem?_eq_some_iff.1 he1)
        rw [hlist]
        refine ⟨?_, by rw [List.length_set]; exact hok.2⟩
        rw [List.map_set, List.length_set]
        have : (ents.toList.map (·.born)).set j e1.born = ents.toList.map (·.born) := by
          apply List.ext_getElem?
          intro n
          rw [List.getElem?_set]
          by_cases hn : j = n
          · subst hn
            have hlt2 : j < ents.size := by simpa using hlt.1
            have hje : ents[j] = e1 := (Array.getElem?_eq_some_iff.1 hj).2
            simp [he1, hlt2, hje]
          · simp [hn]
        rw [this]; exact hok.1) rfl
    refine ⟨.skip, Go.undef, _, _, ?_, rfl, ev1, i1, .undef _⟩
    have hkts : ∀ w : World, (Instr.keyThatStays e1.key kv).run P w = .ok kv w := fun w => by simp [Instr.keyThatStays, hbits]
    rcases ho with ho | ho <;> simp [execOp, ho, Instr.mapUpdate, run_under ht, hc, hkv, huv, MapKept.run_getObj_map hheap, hck, ho1, hj, hkts, MapKept.run_setObj_map _ hheap]
  · rename_i hfk
    cases h
    obtain ⟨o1, ho1, hf1⟩ := findKey_run (w := w) hk hr' hrel hfk hself.1
    obtain rfl : o1 = none := hf1
    obtain ⟨i1, ev1⟩ := hi.setMap (es := es ++ [.tup [opd e Y, opd e U]]) (ents := ents.push { key := kv, val := uv, born := clock }) (clock := clock + 1) (w' := { w with heap := w.heap.setIfInBounds b (.map (ents.push { key := kv, val := uv, born := clock }) (clock + 1)) }) hl hblk (by
        rw [Array.toList_push, List.map_append]; exact hrel.append (.cons _ _ _ _ hnew .nil)) (by
        rw [Array.toList_push]
        have h2 := hok.2
        refine ⟨?_, by simp only [List.length_append, List.length_cons, List.length_nil]; omega⟩
        rw [List.map_append, hok.1, List.length_append, List.length_cons, List.length_nil, Nat.zero_add, List.range_succ]
        simp only [List.map_cons, List.map_nil, h2]) rfl
    refine ⟨.skip, Go.undef, _, _, ?_, rfl, ev1, i1, .undef _⟩
    rcases ho with ho | ho <;> simp [execOp, ho, Instr.mapUpdate, run_under ht, hc, hkv, huv, MapKept.run_getObj_map hheap, hck, ho1, MapKept.run_setObj_map _ hheap]
  · cases h

theorem Inv.newIter (hi : Inv CR base g σ w) {l i lm im bm n : Nat} (hn : newBlk σ (.cells 1 [.yld lm im, .int .i64 (n : Nat)]) = some (l, i, σ')) (hm : g.loc lm im = some (.mp bm)) :
    Inv CR base (g.setLoc l i (.it w.heap.size)) σ' (w.alloc (.mapIter (some bm) n #[] n)) ∧ Ev g w (g.setLoc l i (.it w.heap.size)) (w.alloc (.mapIter (some bm) n #[] n)) := by
  obtain ⟨h1, h2, h3, _, _⟩ := newBlk_spec hn
  have hnone := hi.none_of h1
  have hle : g.le (g.setLoc l i (.it w.heap.size)) := G.le_setLoc fun L0 e => by rw [hnone] at e; cases e
  refine ⟨hi.turn l i hle h3 (fun l' i' c => G.setLoc_other c) (fun l' i' L b c e eb => alloc_old (hi.lo l' i' L b e eb).2) ?_ ?_ ?_ ?_ (by simp) ⟨_, G.setLoc_same⟩ (fun b v hb => alloc_old (hi.imm_lt hb)), ⟨hle, rfl, rfl, rfl, by simp, fun b hb _ => alloc_old hb, ?_, fun b o v hv => .inl hv⟩⟩
  · intro L e
    rw [G.setLoc_same] at e; cases e
    have hm2 : (g.setLoc l i (.it w.heap.size)).loc lm im = some (.mp bm) := by
      rw [G.setLoc_other fun hh => by rw [hh.1, hh.2, hnone] at hm; cases hm]
      exact hm
    exact ⟨_, h2, rfl, lm, im, bm, n, [], rfl, hm2, alloc_new, List.nodup_nil, by simp⟩
  · intro b o v e
    obtain ⟨h1, h2⟩ := hi.imm b o v e
    exact ⟨(cell?_congr (alloc_old (hi.imm_lt e))).trans h1, h2⟩
  · intro l' i' L b e eb o
    by_cases c : l' = l ∧ i' = i
    · obtain ⟨rfl, rfl⟩ := c
      rw [G.setLoc_same] at e; cases e; cases eb
      cases e' : (g.setLoc l' i' (.it w.heap.size)).imm w.heap.size o with
      | none => rfl
      | some v => have := hi.imm_lt (b := w.heap.size) (o := o) (v := v) e'; omega
    · rw [G.setLoc_other c] at e; exact hi.sep l' i' L b e eb o
  · intro L b e eb
    rw [G.setLoc_same] at e; cases e; cases eb
    refine ⟨hi.ge, by simp, fun l' i' L' c e' eb' => ?_⟩
    have := (hi.lo l' i' L' _ e' eb').2; omega
  · intro b hb
    obtain ⟨l', i', L, e, eb⟩ := hb
    by_cases c : l' = l ∧ i' = i
    · obtain ⟨rfl, rfl⟩ := c
      rw [G.setLoc_same] at e; cases e; cases eb; exact .inr (Nat.le_refl _)
    · rw [G.setLoc_other c] at e; exact .inl ⟨l', i', L, e, eb⟩

theorem s_rng (hf : Fr fb V g w B e tmps) (hi : Inv CR base g σ w) {x : Operand} {X : Opd} {t kt et : TypeId} (hx : opdC x = some X) (ht : P.underlying t = some (.map kt et))
    (h : sop e σ (.mp .rng [X]) = some (d, σ')) (o : Oper) (ho : o.op = .range t x) : Does P CR base g w B e (Act.mk tmps df).eval o d σ' := by
  have hr := hf.opd (df := df) hx
  simp only [sop, List.map_cons, List.map_nil, mpD] at h
  split at h
  case h_2 => cases h
  rename_i lm im es hm
  obtain ⟨b, ents, clock, v, hc, hl, hblk, hheap, hrel, hok⟩ := mapD_rel hi hr hm
  simp only [Option.map_eq_some_iff, Prod.mk.injEq, Prod.exists] at h
  obtain ⟨l, i, σ1, hn, rfl, rfl⟩ := h
  have hlen := hrel.length
  simp only [List.length_map] at hlen
  have hck : clock = es.length := by rw [hlen]; exact hok.2
  obtain ⟨i1, e1⟩ := hi.newIter hn hl
  have hrun := run_range_map (P := P) w t kt et b ents clock ht hheap
  rw [hck] at hrun
  exact .val (.pointer (some ⟨w.heap.size, 0, none⟩)) (by simp [execOp, ho, hc, hrun]) e1 i1 (.itv l i _ _ G.setLoc_same (.inl rfl))

theorem s_ent (hf : Fr fb V g w B e tmps) (hi : Inv CR base g σ w) {x : Operand} {X : Opd} (hx : opdC x = some X)
    (h : sop e σ (.mp .ent [X]) = some (d, σ')) (o : Oper) (ho : o.op = .entry x) : Does P CR base g w B e (Act.mk tmps df).eval o d σ' := by
  have hr := hf.opd (df := df) hx
  simp only [sop, List.map_cons, List.map_nil] at h
  generalize opd e X = dx at hr h
  cases dx <;> simp only [mpD, reduceCtorEq] at h
  rename_i l i
  split at h
  case h_2 => cases h
  rename_i m n j rest hcs
  split at h
  case h_2 => cases h
  rename_i lm im es hm
  split at h
  case isFalse => cases h
  rename_i hlen
  split at h
  case h_2 => cases h
  rename_i k v hj
  cases h
  unfold cells? at hcs
  split at hcs
  case h_2 => cases hcs
  rename_i v' cs' hblk
  split at hcs
  case isFalse => cases hcs
  rename_i hv1
  cases hcs
  generalize hcv : (Act.mk tmps df).eval x = cv at hr
  cases hr with
  | yld _ _ b hl =>
    obtain ⟨b0, hb0, hrel⟩ := hi.dom l i _ hl
    rw [hblk] at hb0; cases hb0
    exact hrel.elim
  | mpv _ _ b hl =>
    obtain ⟨b0, hb0, hrel⟩ := hi.dom l i _ hl
    rw [hblk] at hb0; cases hb0
    have := hrel.1
    omega
  | bdv _ _ b L hl hc =>
    obtain ⟨b0, hb0, hrel⟩ := hi.dom l i _ hl
    rw [hblk] at hb0; cases hb0
    rcases hc with ⟨c, rfl⟩ | rfl
    · have := hrel.1
      omega
    · exact hrel.elim
  | itv _ _ b L hl hc =>
    obtain ⟨b0, hb0, hrel⟩ := hi.dom l i _ hl
    rw [hblk] at hb0; cases hb0
    rcases hc with rfl | rfl
    rotate_left
    · exact hrel.elim
    obtain ⟨_, lm', im', bm, n', js, hcs, hlm, hheap, hnd, hlt⟩ := hrel
    cases js with
    | nil => simp at hcs
    | cons j' js =>
      simp only [List.map_cons, List.cons.injEq, D.int.injEq, true_and] at hcs
      obtain ⟨rfl, rfl, rfl, _⟩ := hcs
      obtain ⟨b2, ents, clock, v2, hc2, hl2, hblk2, hheap2, hrel2, hok⟩ := mapD_rel hi (.mpv lm' im' bm hlm) hm
      cases hc2
      have hlen2 := hrel2.length
      simp only [List.length_map] at hlen2
      obtain ⟨c0, hc0, hr0⟩ := hrel2.get hj
      rw [List.getElem?_map] at hc0
      simp only [Int.toNat_natCast] at hc0
      obtain ⟨e1, he1, rfl⟩ := Option.map_eq_some_iff.1 hc0
      have hborn : e1.born = j' := by
        have h1 := congrArg (fun l => l[j']?) hok.1
        simp only [List.getElem?_map, he1, Option.map_some] at h1
        have h2 := (List.getElem?_eq_some_iff.1 he1).1
        rw [List.getElem?_range h2] at h1
        exact Option.some.inj h1
      have hck : clock = n' := by have := hok.2; omega
      have hnd2 : (ents.toList.map (·.born)).Nodup := by rw [hok.1]; exact List.nodup_range
      have hit : w.heap[b]? = some (.mapIter (some bm) n' (js.reverse.toArray.push e1.born) clock) := by
        rw [hheap, hborn, hck]
        simp
      have hrun := run_entry_at (P := P) w b bm n' js.reverse.toArray ents clock e1 hit hheap2 (List.mem_of_getElem? he1) hnd2
      refine .pure hi (c := .tuple #[e1.key, e1.val]) ?_ (RelT.of hr0)
      simp [execOp, ho, hcv, hrun]
end
end Go.Abs

/-
  Texts and bytes; rows as arrays; addresses that are the same.
-/
set_option linter.unusedVariables false
set_option linter.unusedSimpArgs false
namespace Go.Abs
open Go

theorem Inv.growImm {CR : CRel} {base : Nat} {g : G} {σ : Stack} {w w' : World} (hi : Inv CR base g σ w) (vs : List Value) (hsz : w'.heap.size = w.heap.size + 1) (hold : ∀ x, x < w.heap.size → w'.heap[x]? = w.heap[x]?)
    (ho : w'.os = w.os) (ht : w'.tape = w.tape) (hp : w'.output = w.output)
    (hcs : ∀ (j : Nat) x, vs[j]? = some x → w'.cell? ⟨w.heap.size, j, none⟩ = some x ∧ x.oneCell' = true) :
    Inv CR base (g.addImm w.heap.size vs) σ w' ∧ Ev g w (g.addImm w.heap.size vs) w' ∧ (g.addImm w.heap.size vs).row w.heap.size 0 vs := by
  have hle : g.le (g.addImm w.heap.size vs) := ⟨fun l i L e => ⟨L, e, L.le_refl⟩, fun b o v e => by
    have := hi.imm_lt e
    simp only [G.addImm]; rw [if_neg (by omega)]; exact e⟩
  refine ⟨⟨?_, ?_, ?_, ?_, hi.inj, ?_, hi.tot, fun b Q h => let ⟨⟨v, hb⟩, o, ho, hq⟩ := hi.glb b Q h; ⟨⟨v, hle.imm _ _ _ hb⟩, o, (hold b (hi.imm_lt hb)).trans ho, hq⟩⟩, ⟨hle, ho, ht, hp, by omega, fun b hb _ => hold b hb, fun b hb => .inl hb, ?_⟩, ?_⟩
  · have := hi.ge; omega
  · intro l i L e
    obtain ⟨b, hb, hr⟩ := hi.dom l i L e
    exact ⟨b, hb, hr.mono hle fun x hx => hold x (hi.lo l i L x e hx).2⟩
  · intro b o v e
    simp only [G.addImm] at e
    split at e
    · rename_i hb; subst hb
      exact hcs o v e
    · obtain ⟨h1, h2⟩ := hi.imm b o v e
      exact ⟨(cell?_congr (hold _ (hi.imm_lt e))).trans h1, h2⟩
  · intro l i L b e eb o
    have := (hi.lo l i L b e eb).2
    simp only [G.addImm]; rw [if_neg (by omega)]; exact hi.sep l i L b e eb o
  · intro l i L b e eb
    have := hi.lo l i L b e eb
    exact ⟨this.1, by omega⟩
  · intro b o v hv
    simp only [G.addImm] at hv
    split at hv
    · rename_i hb; exact .inr (.inr (by omega))
    · exact .inl hv
  · intro j v hv; simp [G.addImm, hv]

section
variable {P : Program} {CR : CRel} {base fb : Nat} {V : List Nat} {g : G} {σ σ' : Stack} {w : World} {B : Nat → Nat} {e : Env} {tmps : Array Value} {df : List Deferred}
  {d : D}

theorem bytesD_rel : ∀ {xs : List D} {vs : List Value} {s : List UInt8}, RelL g xs vs → bytesD xs = some s → ∃ ns : List Int, vs = ns.map (Value.int .u8) ∧ s = ns.map fun n => UInt8.ofNat n.toNat
  | [], vs, s, hr, h => by
    simp only [bytesD, Option.some.injEq] at h; subst h
    cases hr
    exact ⟨[], rfl, rfl⟩
  | x :: xs, vs, s, hr, h => by
    cases hr with
    | cons _ c _ cs h1 h2 =>
      cases x with
      | int k n =>
        cases k <;> simp only [bytesD, reduceCtorEq] at h
        simp only [Option.map_eq_some_iff] at h
        obtain ⟨s', h3, rfl⟩ := h
        obtain ⟨ns, rfl, rfl⟩ := bytesD_rel h2 h3
        have := h1.int_inv
        subst this
        exact ⟨n :: ns, rfl, rfl⟩
      | _ => simp [bytesD] at h
theorem push_fold : ∀ (ns : List Int) (b : ByteArray), (ns.foldl (fun r n => r.push (UInt8.ofNat n.toNat)) b).data.toList = b.data.toList ++ ns.map fun n => UInt8.ofNat n.toNat
  | [], b => by simp
  | n :: ns, b => by
    simp only [List.foldl_cons, List.map_cons]
    rw [push_fold ns]
    simp [ByteArray.push]

theorem s_b2s (hf : Fr fb V g w B e tmps) (hi : Inv CR base g σ w) {x : Operand} {X : Opd} {t u el : TypeId} (hx : opdC x = some X)
    (ht : P.underlying t = some (.slice el)) (hel : P.underlying el = some (.int .u8)) (hu : P.underlying u = some .string)
    (h : sop e σ (.me .b2s [X]) = some (d, σ')) (o : Oper) (ho : o.op = .convert t u x) : Does P CR base g w B e (Act.mk tmps df).eval o d σ' := by
  have hr := hf.opd (df := df) hx
  simp only [sop, List.map_cons, List.map_nil] at h
  generalize hdx : opd e X = dx at hr h
  have hns : ∀ s, dx ≠ .str s := fun s hs => by subst hs; simp [meD] at h
  have h' : (elems σ 1 dx).bind (fun r => (bytesD r.2).map fun s => (D.str s, σ)) = some (d, σ') := by
    cases dx <;> first | exact absurd rfl (hns _) | exact h
  simp only [Option.bind_eq_some_iff, Option.map_eq_some_iff, Prod.exists, Prod.mk.injEq] at h'
  obtain ⟨m, xs, he, s, hb, rfl, rfl⟩ := h'
  obtain ⟨a, cap, vs, hc, h1, h2, h3, h4, h5⟩ := elems_rel hi hr he hns
  obtain ⟨ns, rfl, rfl⟩ := bytesD_rel h1 hb
  simp only [Nat.mul_one, List.length_map] at h3
  have hrun : ∃ b : ByteArray, (convert t u ((Act.mk tmps df).eval x)).run P w = .ok (.string b) w ∧ b.data.toList = ns.map fun n => UInt8.ofNat n.toNat := by
    rw [hc, run_convert_bytes_string w t u el a m cap ht hel hu]
    cases a with
    | none =>
      obtain rfl := h4 rfl
      obtain rfl : ns = [] := by simpa using h3
      exact ⟨.empty, by simp [Conv.bytesToString], rfl⟩
    | some a =>
      have hl : (loadCells a m).run P w = .ok (ns.map (Value.int .u8)).toArray w := by
        have := run_firstCells (P := P) (w := w) (wd := 1) (n := m) (a := some a) (cap := cap) (vs := ns.map (Value.int .u8)) h4 (by simpa using h3) h5 w rfl
        simpa [Builtin.firstCells] using this
      refine ⟨_, run_bytesToString w a m cap ns hl, ?_⟩
      rw [push_fold]
      rfl
  obtain ⟨b, hrun, hb2⟩ := hrun
  exact .pure hi (c := .string b) (by simp [execOp, ho, hrun]) (RelT.of (str_rel b hb2))

theorem s_s2b (hf : Fr fb V g w B e tmps) (hi : Inv CR base g σ w) {x : Operand} {X : Opd} {t u el : TypeId} (hx : opdC x = some X)
    (ht : P.underlying t = some .string) (hel : P.underlying el = some (.int .u8)) (hu : P.underlying u = some (.slice el))
    (h : sop e σ (.me .s2b [X]) = some (d, σ')) (o : Oper) (ho : o.op = .convert t u x) : Does P CR base g w B e (Act.mk tmps df).eval o d σ' := by
  have hr := hf.opd (df := df) hx
  simp only [sop, List.map_cons, List.map_nil] at h
  generalize opd e X = dx at hr h
  cases dx <;> simp only [meD, reduceCtorEq, Option.some.injEq, Prod.mk.injEq] at h
  rename_i s
  obtain ⟨rfl, rfl⟩ := h
  obtain ⟨b, hb, rfl⟩ := hr.str_inv
  have hrun := Lib.run_convert_string_bytes (P := P) w t u el b ht hu hel
  have hlen : b.data.toList.length = b.size := by cases b; rfl
  obtain ⟨i1, e1, r1⟩ := hi.growImm (w' := Lib.bytesWorld w el b) (b.data.toList.map fun u => .int .u8 u.toNat) (Lib.bytesWorld_size w el b) (fun x hx => Lib.bytesWorld_at_old w el b x hx) rfl rfl rfl (fun j x hj => by
    have hj' : j < b.size := by have := (List.getElem?_eq_some_iff.1 hj).1; simpa [hlen] using this
    have h1 := Lib.bytesWorld_cell w el b j hj'
    have h2 : x = .int .u8 (b.data.toList.getD j 0).toNat := by
      simp only [List.getElem?_map, Option.map_eq_some_iff] at hj
      obtain ⟨u, hu, rfl⟩ := hj
      simp [List.getD, hu]
    subst h2
    exact ⟨h1, rfl⟩)
  refine .val (.slice (some ⟨w.heap.size, 0, none⟩) b.size (grownCap w b.size 0 el)) (by simp [execOp, ho, hb, hrun]) e1 i1 ?_
  rw [hlen]
  refine .lst _ _ _ _ _ ?_ r1 (fun _ => rfl) (strCells_rel _ _)
  unfold grownCap
  simp only [Question.cut]
  omega

theorem s_s2a (hf : Fr fb V g w B e tmps) (hi : Inv CR base g σ w) {x : Operand} {X : Opd} {t el : TypeId} {n wd : Nat} (hx : opdC x = some X)
    (ht : P.underlying t = some (.array n el)) (h : sop e σ (.me (.s2a n wd) [X]) = some (d, σ')) (o : Oper) (ho : o.op = .sliceToArrayPointer t x) : Does P CR base g w B e (Act.mk tmps df).eval o d σ' := by
  have hr := hf.opd (df := df) hx
  simp only [sop, List.map_cons, List.map_nil] at h
  generalize opd e X = dx at hr h
  cases dx <;> simp only [meD, reduceCtorEq] at h
  rename_i m cs
  split at h
  case isFalse => cases h
  rename_i hn
  cases h
  generalize hcv : (Act.mk tmps df).eval x = cv at hr
  cases hr with
  | lstn => omega
  | lst _ _ a cap vs k1 k2 k3 k4 =>
    refine .pure hi (c := .pointer (some a)) ?_ (RelT.of ?_)
    · have : ¬ m < n := by omega
      simp [execOp, ho, hcv, Instr.arrayAt, run_under ht, this]
    · obtain ⟨blk, off, sp⟩ := a
      have hsp : sp = none := k3 (by omega)
      subst hsp
      exact .cref _ _ _ (vs.take (n * wd)) (fun j v hv => k2 j v (by
        rw [List.getElem?_take] at hv
        split at hv
        · exact hv
        · cases hv)) (k4.take _)

theorem s_peq (hf : Fr fb V g w B e tmps) (hi : Inv CR base g σ w) {x y : Operand} {X Y : Opd} {t u el : TypeId} {neg : Bool} (hx : opdC x = some X) (hy : opdC y = some Y) (ht : P.underlying t = some (.pointer el)) (hsz : (P.info? el).isSome)
    (h : sop e σ (.me (.peq neg) [X, Y]) = some (d, σ')) (o : Oper) (ho : o.op = .binOp (if neg then .neq else .eql) t x y u) : Does P CR base g w B e (Act.mk tmps df).eval o d σ' := by
  have hr := hf.opd (df := df) hx
  have hr' := hf.opd (df := df) hy
  simp only [sop, List.map_cons, List.map_nil] at h
  generalize opd e X = dx at hr h
  generalize opd e Y = dy at hr' h
  cases dx <;> cases dy <;> simp only [meD, reduceCtorEq] at h
  rename_i l i v off l' i' v' off'
  split at h
  case isFalse => cases h
  rename_i hc
  obtain ⟨rfl, rfl, rfl, rfl, hc⟩ := hc
  cases h
  obtain ⟨cs, hcs⟩ := Option.isSome_iff_exists.1 hc
  unfold cells? at hcs
  split at hcs
  case h_2 => cases hcs
  rename_i v' cs' hblk
  split at hcs
  case isFalse => cases hcs
  rename_i hv; subst hv; cases hcs
  obtain ⟨j, hj⟩ := Option.isSome_iff_exists.1 hsz
  generalize hcv : (Act.mk tmps df).eval x = cv at hr
  generalize hcw : (Act.mk tmps df).eval y = cw at hr'
  cases hr with
  | ref _ _ _ _ b o1 L k1 k2 k3 k4 =>
  cases hr' with
  | ref _ _ _ _ b' o2 L' k1' k2' k3' k4' =>
  rw [k1] at k1'; cases k1'
  obtain ⟨b0, hb0, hrel⟩ := hi.dom _ _ _ k1
  rw [hblk] at hb0; cases hb0
  cases L with
  | dead => exact hrel.elim
  | lp z => exact hrel.elim
  | mp z => exact k2.elim
  | it z => exact k2.elim
  | ob z _ => exact k2.elim
  | virt v2 => obtain ⟨rfl, _⟩ := hrel; exact absurd rfl k4
  | «at» blk bo v2 bsz =>
    obtain ⟨rfl, _⟩ := hrel
    obtain ⟨rfl, rfl⟩ := k3 _ _ _ rfl
    obtain ⟨rfl, rfl⟩ := k3' _ _ _ rfl
    have hne := Lib.run_neq_ptr_same (P := P) w ⟨b', bo + off, none⟩ ht hj
    cases neg
    · have heq : (binOp .eql t (.pointer (some ⟨b', bo + off, none⟩)) (.pointer (some ⟨b', bo + off, none⟩))).run P w = .ok (.bool true) w := by
        have h : ∀ d : Nat, (Op.equalIn (d + 1) t (.pointer (some ⟨b', bo + off, none⟩)) (.pointer (some ⟨b', bo + off, none⟩))).run P w = .ok true w := fun d => by
          simp [Op.equalIn, run_underlying ht, sizeOf, typeInfo, hj, run_sameAddr_same]
        simp only [binOp]
        simp [Op.equal, Op.maxDepth, h 9999]
      refine .pure hi (c := .bool true) ?_ (RelT.of (.bool _))
      simp [execOp, ho, hcv, hcw, eqGuard, heq]
    · refine .pure hi (c := .bool false) ?_ (RelT.of (.bool _))
      simp [execOp, ho, hcv, hcw, eqGuard, hne]
end
end Go.Abs

/-
  Operations on interface values.
-/
set_option linter.unusedVariables false
set_option linter.unusedSimpArgs false
namespace Go.Abs
open Go
variable {P : Program} {CR : CRel} {base fb : Nat} {V : List Nat} {g : G} {σ σ' : Stack} {w : World} {B : Nat → Nat} {e : Env} {tmps : Array Value} {df : List Deferred} {d : D}

theorem s_mki (hf : Fr fb V g w B e tmps) (hi : Inv CR base g σ w) {x : Operand} {X : Opd} {t : TypeId} (hx : opdC x = some X) (hc : P.concrete t = true)
    (h : sop e σ (.mki t X) = some (d, σ')) (o : Oper) (ho : o.op = .makeInterface t x) : Does P CR base g w B e (Act.mk tmps df).eval o d σ' := by
  have hr := hf.opd (df := df) hx
  simp only [sop, Option.some.injEq, Prod.mk.injEq] at h
  obtain ⟨rfl, rfl⟩ := h
  exact .pure hi (c := .iface t ((Act.mk tmps df).eval x)) (by simp [execOp, ho, run_makeInterface w t _ hc]) (RelT.of (.ifc t _ _ hr))

theorem s_tas (hf : Fr fb V g w B e tmps) (hi : Inv CR base g σ w) {x : Operand} {X : Opd} {t xt : TypeId} {dsc : TypeDesc} {ok : Bool} {z : Option D} (hx : opdC x = some X) (ht : P.underlying t = some dsc) (hn : ∀ ms, dsc ≠ .interface ms)
    (hz : if ok then ∃ z0, z = some z0 ∧ zvC P t = some z0 else z = none)
    (h : sop e σ (.tas t z X) = some (d, σ')) (o : Oper) (ho : o.op = .typeAssert x xt t ok) : Does P CR base g w B e (Act.mk tmps df).eval o d σ' := by
  have hr := hf.opd (df := df) hx
  simp only [sop, Option.map_eq_some_iff, Prod.mk.injEq] at h
  obtain ⟨d0, h, rfl, rfl⟩ := h
  generalize hcx : (Act.mk tmps df).eval x = cx at hr
  generalize opd e X = dx at hr h
  cases hr with
  | ifc t' d1 c h1 =>
    simp only [tasD] at h
    cases ok with
    | true =>
      simp only [if_true] at hz
      obtain ⟨z0, rfl, hz⟩ := hz
      obtain ⟨iz, zv, hz1, hz2, hz3⟩ := zvC_rel g hz
      simp only [Option.some.injEq] at h
      by_cases htt : t' = t
      · rw [if_pos htt] at h
        subst h
        refine .pure hi (c := .tuple #[c, .bool true]) ?_ (RelT.of (.tup _ #[c, .bool true] (.cons _ _ _ _ h1 (.cons _ _ _ _ (.bool true) .nil))))
        simp only [execOp, ho, hcx, Instr.typeAssert, Sem.run_bind, run_underlying ht, Result.andThen_ok]
        cases dsc <;> first | exact absurd rfl (hn _) | simp [htt]
      · rw [if_neg htt] at h
        subst h
        refine .pure hi (c := .tuple #[zv, .bool false]) ?_ (RelT.of (.tup _ #[zv, .bool false] (.cons _ _ _ _ hz3 (.cons _ _ _ _ (.bool false) .nil))))
        simp only [execOp, ho, hcx, Instr.typeAssert, Sem.run_bind, run_underlying ht, Result.andThen_ok]
        cases dsc <;> first | exact absurd rfl (hn _) | simp [htt, run_zeroValue hz1 hz2]
    | false =>
      simp only [Bool.false_eq_true, if_false] at hz
      subst hz
      simp only at h
      split at h
      case isFalse => cases h
      rename_i htt
      cases h
      refine .pure hi (c := c) ?_ (RelT.of h1)
      simp only [execOp, ho, hcx, Instr.typeAssert, Sem.run_bind, run_underlying ht, Result.andThen_ok]
      cases dsc <;> first | exact absurd rfl (hn _) | simp [htt]
  | nili =>
    simp only [tasD, Option.map_eq_some_iff] at h
    obtain ⟨z1, rfl, rfl⟩ := h
    cases ok with
    | true =>
      simp only [if_true] at hz
      obtain ⟨z0, hz0, hz⟩ := hz
      cases hz0
      obtain ⟨iz, zv, hz1, hz2, hz3⟩ := zvC_rel g hz
      refine .pure hi (c := .tuple #[zv, .bool false]) ?_ (RelT.of (.tup _ #[zv, .bool false] (.cons _ _ _ _ hz3 (.cons _ _ _ _ (.bool false) .nil))))
      simp only [execOp, ho, hcx, Instr.typeAssert, Sem.run_bind, run_underlying ht, Result.andThen_ok]
      cases dsc <;> first | exact absurd rfl (hn _) | simp [run_zeroValue hz1 hz2]
    | false => simp at hz
  | _ => simp [tasD] at h

theorem run_equalIn_nili {t : TypeId} {ms : Array (String × TypeId)} (n : Nat) (ht : P.underlying t = some (.interface ms)) (w : World) : (Op.equalIn (n + 1) t .nilIface .nilIface).run P w = .ok true w := by
  rw [Op.equalIn]
  simp [run_underlying ht]
theorem run_equalIn_ifc {t t' : TypeId} {c : Value} {ms : Array (String × TypeId)} (n : Nat) (ht : P.underlying t = some (.interface ms)) (w : World) : (Op.equalIn (n + 1) t (.iface t' c) .nilIface).run P w = .ok false w := by
  rw [Op.equalIn]
  simp [run_underlying ht]
theorem run_equal_nili {t : TypeId} {ms : Array (String × TypeId)} (ht : P.underlying t = some (.interface ms)) (w : World) : (Op.equal t .nilIface .nilIface).run P w = .ok true w := run_equalIn_nili 9999 ht w
theorem run_equal_ifc {t t' : TypeId} {c : Value} {ms : Array (String × TypeId)} (ht : P.underlying t = some (.interface ms)) (w : World) : (Op.equal t (.iface t' c) .nilIface).run P w = .ok false w := run_equalIn_ifc 9999 ht w

theorem s_isi (hf : Fr fb V g w B e tmps) (hi : Inv CR base g σ w) {x : Operand} {X : Opd} {t u : TypeId} {ms : Array (String × TypeId)} {neg : Bool} (hx : opdC x = some X) (ht : P.underlying t = some (.interface ms))
    (h : sop e σ (.isi neg X) = some (d, σ')) (o : Oper) (ho : o.op = .binOp (if neg then .neq else .eql) t x (.const .nilIface) u) : Does P CR base g w B e (Act.mk tmps df).eval o d σ' := by
  have hr := hf.opd (df := df) hx
  simp only [sop, Option.map_eq_some_iff, Prod.mk.injEq] at h
  obtain ⟨b, h, rfl, rfl⟩ := h
  have hev : (Act.mk tmps df).eval (.const .nilIface) = .nilIface := rfl
  generalize hcx : (Act.mk tmps df).eval x = cx at hr
  generalize opd e X = dx at hr h
  cases hr with
  | nili =>
    cases h
    refine .pure hi (c := .bool (if neg then false else true)) ?_ (RelT.of (by cases neg <;> exact .bool _))
    cases neg <;> simp [execOp, ho, hcx, hev, eqGuard, binOp, run_equal_nili ht]
  | ifc t' d1 c h1 =>
    cases h
    refine .pure hi (c := .bool (if neg then true else false)) ?_ (RelT.of (by cases neg <;> exact .bool _))
    cases neg <;> simp [execOp, ho, hcx, hev, eqGuard, binOp, run_equal_ifc ht]
  | _ => cases h
end Go.Abs

/-
  One operation of a region, whatever it is.
-/
set_option linter.unusedVariables false
set_option linter.unusedSimpArgs false
namespace Go.Abs
open Go

section
variable {P : Program} {CR : CRel} {base fb : Nat} {V : List Nat} {g : G} {σ σ' : Stack} {w : World} {B : Nat → Nat} {e : Env} {tmps : Array Value} {df : List Deferred}
  {a : Ann} {ops : Array Oper} {key : Nat} {k : K} {d : D}

theorem eqC_ok (hf : Fr fb V g w B e tmps) (hi : Inv CR base g σ w) {x y : Operand} {X Y : Opd} {t u : TypeId} {b : BinOp} (hx : opdC x = some X) (hy : opdC y = some Y)
    (hk : eqC P b t X Y = some k) (h : sop e σ k = some (d, σ')) (o : Oper) (ho : o.op = .binOp b t x y u) : Does P CR base g w B e (Act.mk tmps df).eval o d σ' := by
  unfold eqC at hk
  split at hk
  case h_2 => cases hk
  rename_i ks hks
  split at hk
  · cases hk
  rename_i hg
  have hg' : P.eqGuardType P.depth t = false := by simpa using hg
  split at hk
  · obtain ⟨ag, hag, rfl⟩ := Option.map_eq_some_iff.1 hk
    exact s_eqv hf hi hx hy hks hag hg' h o (by simpa using ho)
  · obtain ⟨ag, hag, rfl⟩ := Option.map_eq_some_iff.1 hk
    exact s_eqv hf hi hx hy hks hag hg' h o (by simpa using ho)
  · cases hk

theorem sop_ldi {ag : Bool} {sz : Nat} {X : Opd} {r : D × Stack} (h : sop e σ (.ldi ag sz X) = some r) : sop e σ (.ld ag sz X) = some r := by
  simp only [sop] at h ⊢
  cases hx : opd e X <;> rw [hx] at h <;> try (cases h; done)
  simpa [rdD] using h

theorem sop_ld0 {ag : Bool} {sz : Nat} {X : Opd} {r : D × Stack} (h : sop e σ (.ld0 ag sz X) = some r) : sop e σ (.ld ag sz X) = some r := by
  simp only [sop] at h ⊢
  cases hr : rd0 σ (opd e X) with
  | none => rw [hr] at h; cases h
  | some cs =>
    rw [hr] at h
    have : rdD σ (opd e X) = some cs := by
      generalize opd e X = dx at hr
      unfold rd0 at hr
      split at hr
      · exact hr
      · cases hr
    rw [this]; exact h

theorem run_equalIn_ptr_nil {w : World} (d : Nat) {t el : TypeId} {a : Option Addr} (h : P.underlying t = some (.pointer el)) : (Op.equalIn (d + 1) t (.pointer a) (.pointer none)).run P w = .ok a.isNone w := by
  cases a <;> simp [Op.equalIn, run_under h]
theorem run_equalIn_slice_nil {w : World} (d : Nat) {t el : TypeId} {a : Option Addr} {n c : Nat} (h : P.underlying t = some (.slice el)) : (Op.equalIn (d + 1) t (.slice a n c) (.slice none 0 0)).run P w = .ok a.isNone w := by
  cases a <;> simp [Op.equalIn, run_under h]

theorem s_is (hi : Inv CR base g σ w) {x y : Operand} {X : Opd} {t u : TypeId} {b : BinOp} {ps bo : Bool} {cx cy : Value} (e1 : (Act.mk tmps df).eval x = cx) (e2 : (Act.mk tmps df).eval y = cy)
    (hg : ∀ b, (eqGuard b t x y cx cy).run P w = .ok () w) (hb : binOp .eql t cx cy = (do pure (.bool (← Op.equal t cx cy)))) (hb' : binOp .neq t cx cy = (do pure (.bool (!(← Op.equal t cx cy)))))
    (heq : (Op.equal t cx cy).run P w = .ok bo w) (hn : isnD ps (opd e X) = some bo)
    (hk : isC ps b X = some k) (h : sop e σ k = some (d, σ')) (o : Oper) (ho : o.op = .binOp b t x y u) : Does P CR base g w B e (Act.mk tmps df).eval o d σ' := by
  unfold isC at hk
  split at hk
  · cases hk
    simp only [sop, hn, Option.map_some, Option.some.injEq, Prod.mk.injEq] at h
    obtain ⟨rfl, rfl⟩ := h
    refine .pure hi ?_ (RelT.of (.bool _))
    simp [execOp, ho, e1, e2, hg, hb, heq]
  · cases hk
    simp only [sop, hn, Option.map_some, Option.some.injEq, Prod.mk.injEq] at h
    obtain ⟨rfl, rfl⟩ := h
    refine .pure hi ?_ (RelT.of (.bool _))
    simp [execOp, ho, e1, e2, hg, hb', heq]
  · cases hk

theorem isC_some {ps : Bool} {b : BinOp} {X : Opd} (hk : isC ps b X = some k) (h : sop e σ k = some (d, σ')) : ∃ bo, isnD ps (opd e X) = some bo := by
  unfold isC at hk
  split at hk <;> cases hk <;> simp only [sop, Option.map_eq_some_iff] at h <;> obtain ⟨b, hb, _⟩ := h <;> exact ⟨b, hb⟩

theorem s_isp (hf : Fr fb V g w B e tmps) (hi : Inv CR base g σ w) {x y : Operand} {X : Opd} {t u el : TypeId} {b : BinOp} (hx : opdC x = some X) (hy : opdC y = some (.c .nilp)) (ht : P.underlying t = some (.pointer el))
    (hk : isC true b X = some k) (h : sop e σ k = some (d, σ')) (o : Oper) (ho : o.op = .binOp b t x y u) : Does P CR base g w B e (Act.mk tmps df).eval o d σ' := by
  have hr := hf.opd (df := df) hx
  have hr' := hf.opd (df := df) hy
  have e2 : (Act.mk tmps df).eval y = .pointer none := by
    generalize (Act.mk tmps df).eval y = c at hr'
    cases hr'; rfl
  obtain ⟨bo, hn⟩ := isC_some hk h
  have : ∃ a, (Act.mk tmps df).eval x = .pointer a ∧ bo = a.isNone := by
    generalize opd e X = dx at hr hn
    generalize (Act.mk tmps df).eval x = cx at hr
    cases hr <;> simp [isnD] at hn
    · exact ⟨none, rfl, by simp [← hn]⟩
    · exact ⟨_, rfl, by simp [← hn]⟩
    · exact ⟨_, rfl, by simp [← hn]⟩
  obtain ⟨a, e1, rfl⟩ := this
  refine s_is hi e1 e2 (fun b => by simp [eqGuard]) rfl rfl (run_equalIn_ptr_nil 9999 ht) hn hk h o ho

theorem s_iss (hf : Fr fb V g w B e tmps) (hi : Inv CR base g σ w) {x y : Operand} {X : Opd} {t u el : TypeId} {b : BinOp} (hx : opdC x = some X) (hy : opdC y = some (.c .nils)) (ht : P.underlying t = some (.slice el))
    (hk : isC false b X = some k) (h : sop e σ k = some (d, σ')) (o : Oper) (ho : o.op = .binOp b t x y u) : Does P CR base g w B e (Act.mk tmps df).eval o d σ' := by
  have hr := hf.opd (df := df) hx
  have hr' := hf.opd (df := df) hy
  have e2 : (Act.mk tmps df).eval y = .slice none 0 0 := by
    generalize (Act.mk tmps df).eval y = c at hr'
    cases hr'; rfl
  obtain ⟨bo, hn⟩ := isC_some hk h
  have : ∃ a n c, (Act.mk tmps df).eval x = .slice a n c ∧ bo = a.isNone := by
    generalize opd e X = dx at hr hn
    generalize (Act.mk tmps df).eval x = cx at hr
    cases hr <;> simp [isnD] at hn
    · exact ⟨none, _, _, rfl, by simp [← hn]⟩
    · exact ⟨_, _, _, rfl, by simp [← hn.2]⟩
    · rename_i l i v off n w a cap L h1 h2 h3 h4 h5 h6 h7
      refine ⟨a, n, cap, rfl, ?_⟩
      cases a with
      | none => have := h4 rfl; omega
      | some a => simp [← hn.2]
  obtain ⟨a, n, c, e1, rfl⟩ := this
  refine s_is hi e1 e2 (fun b => by simp [eqGuard]) rfl rfl (run_equalIn_slice_nil 9999 ht) hn hk h o ho

theorem s_nck (hf : Fr fb V g w B e tmps) (hi : Inv CR base g σ w) {x : Operand} {X : Opd} (hx : opdC x = some X) (h : sop e σ (.nck X) = some (d, σ')) (o : Oper) (ho : o.op = .nilCheck x) :
    Does P CR base g w B e (Act.mk tmps df).eval o d σ' := by
  have hr := hf.opd (df := df) hx
  simp only [sop] at h
  generalize opd e X = dx at hr h
  have key : (∃ a, (Act.mk tmps df).eval x = .pointer (some a)) ∧ d = dx ∧ σ' = σ := by
    generalize (Act.mk tmps df).eval x = cx at hr
    cases hr <;> simp at h
    · exact ⟨⟨_, rfl⟩, h.1.symm, h.2.symm⟩
    · exact ⟨⟨_, rfl⟩, h.1.symm, h.2.symm⟩
  obtain ⟨⟨a, e1⟩, rfl, rfl⟩ := key
  rw [e1] at hr
  exact .pure hi (c := .pointer (some a)) (by simp [execOp, ho, e1]) (RelT.of hr)

theorem isNil_inv {x : Operand} (h : isNilSlice x = true) : x = .const (.slice none 0 0) := by
  unfold isNilSlice at h
  split at h
  · rfl
  · cases h

theorem sop_ok (hf : Fr fb V g w B e tmps) (hi : Inv CR base g σ w) {o : Oper} (hk : kC P a ops key o = some k) (h : sop e σ k = some (d, σ')) :
    Does P CR base g w B e (Act.mk tmps df).eval o d σ' := by
  unfold kC at hk
  split at hk
  · rename_i x ho
    obtain ⟨X, hX, rfl⟩ := Option.map_eq_some_iff.1 hk
    exact s_move hf hi hX h o (.inl ho)
  · rename_i x ho
    split at hk
    · rename_i hnil _ _
      split at hk
      · obtain ⟨X, hX, rfl⟩ := Option.map_eq_some_iff.1 hk
        exact s_nilb hi h o (by rw [ho, isNil_inv hnil])
      · obtain ⟨X, hX, rfl⟩ := Option.map_eq_some_iff.1 hk
        exact s_move hf hi hX h o (.inr ho)
    · obtain ⟨X, hX, rfl⟩ := Option.map_eq_some_iff.1 hk
      exact s_move hf hi hX h o (.inr ho)
  · rename_i c x y ho
    split at hk
    · rename_i c' x' y' h1 h2 h3
      cases hk
      exact s_pick hf hi h1 h2 h3 h o ho
    · cases hk
  · rename_i el ho
    split at hk
    · rename_i z d0 hz _
      split at hk
      · split at hk
        case h_2 => cases hk
        split at hk
        case h_2 => cases hk
        split at hk
        case h_2 => cases hk
        cases hk
        exact s_mkb hi hz h o ho
      cases hk
      split at h
      · cases h
      · exact s_alc hi hz h o ho
    · cases hk
  · rename_i t x ho
    split at hk
    · rename_i x' d0 hx _
      cases hk
      split at h
      · cases h
      split at h
      · split at h
        · exact s_boxm hf hi hx h o ho
        · exact s_bxn hf hi hx h o ho
      · exact s_boxi hf hi hx h o ho
    · cases hk
  · rename_i t ps ho
    split at hk
    · rename_i fs z ht hz
      split at hk
      · rename_i hall
        obtain ⟨parts, hp, rfl⟩ := Option.map_eq_some_iff.1 hk
        exact s_bld_struct hf hi ht hz hall hp h o ho
      · cases hk
    · rename_i n el z ht hz
      split at hk
      · rename_i wd hw
        obtain ⟨parts, hp, rfl⟩ := Option.map_eq_some_iff.1 hk
        exact s_bld_array hf hi ht hw hz hp h o ho
      · cases hk
    · cases hk
  · rename_i t n ps ho
    split at hk
    · rename_i el ht
      split at hk
      · rename_i wd z d0 hw hz _
        split at hk
        · rename_i hc
          obtain ⟨parts, hp, rfl⟩ := Option.map_eq_some_iff.1 hk
          dsimp only at h
          split at h
          · rename_i hn
            simp only [Bool.and_eq_true, decide_eq_true_eq] at hn
            obtain ⟨⟨rfl, hpe⟩, _⟩ := hn
            exact s_bse hf hi ht hw hz hc.1 hc.2.1 hc.2.2 hp (by simpa using hpe) h o ho
          split at h
          · exact s_bsm hf hi ht hw hz hc.1 hc.2.1 hc.2.2 hp h o ho
          · exact s_bsi hf hi ht hw hz hc.1 hc.2.1 hc.2.2 hp h o ho
        · cases hk
      · cases hk
    · cases hk
  · rename_i t x ho
    split at hk
    · rename_i ag sz n hag hsz hx
      split at hk
      · rename_i hc
        simp only [Bool.and_eq_true, decide_eq_true_eq] at hc
        cases hk
        have hxe : x = .tmp n := by
          cases x <;> simp only [opdC, Option.some.injEq, Opd.t.injEq, reduceCtorEq, Option.map_eq_some_iff, and_false, exists_false] at hx
          rw [hx]
        split at h
        · exact s_ldv hf hi hag hsz hc.1 hc.2 h o (by rw [ho, hxe])
        · split at h
          · exact s_ld hf hi hx hag hsz hc.1 hc.2 (sop_ldi h) o ho
          split at h
          · exact s_ld hf hi hx hag hsz hc.1 hc.2 (sop_ld0 h) o ho
          · exact s_ld hf hi hx hag hsz hc.1 hc.2 h o ho
      · cases hk
    · cases hk
  · rename_i t x y ho
    split at hk
    · rename_i sz n y' hsz hx hy
      cases hk
      split at h
      · cases h
      · split at h
        · exact s_st hf hi hx hy hsz (sop_stc h) o ho
        · exact s_st hf hi hx hy hsz h o ho
    · cases hk
  · rename_i b t x y u ho
    split at hk
    · rename_i hx hy
      cases hk
      exact s_bin hf hi hx hy h o ho
    · rename_i hx hy
      exact eqC_ok hf hi hx hy hk h o ho
    · rename_i hx hy
      exact eqC_ok hf hi hx hy hk h o ho
    · rename_i hx hy
      exact eqC_ok hf hi hx hy hk h o ho
    · rename_i ht hx hy
      split at hk
      · cases hk; exact s_scat hf hi hx hy h o ho
      · cases hk; exact s_seq hf hi hx hy h o ho
      · cases hk; exact s_seq hf hi hx hy h o ho
      · cases hk
    · rename_i ht hx hy
      exact s_isp hf hi hx hy ht hk h o ho
    · rename_i ht hx hy
      split at hk
      · rename_i hsz
        split at hk
        · cases hk; exact s_peq (neg := false) hf hi hx hy ht hsz h o ho
        · cases hk; exact s_peq (neg := true) hf hi hx hy ht hsz h o ho
        · cases hk
      · cases hk
    · rename_i ht hx hy
      exact s_iss hf hi hx hy ht hk h o ho
    · rename_i ht hx hy
      split at hk
      · cases hk; exact s_isi (neg := false) hf hi hx ht h o ho
      · cases hk; exact s_isi (neg := true) hf hi hx ht h o ho
      · cases hk
    · cases hk
  · rename_i x ho
    obtain ⟨X, hX, rfl⟩ := Option.map_eq_some_iff.1 hk
    exact s_nck hf hi hX h o ho
  · rename_i b t x ho
    obtain ⟨X, hX, rfl⟩ := Option.map_eq_some_iff.1 hk
    exact s_un hf hi hX h o ho
  · rename_i s t x ho
    split at hk
    · rename_i hs ht hx
      cases hk
      exact s_cvt hf hi hx hs ht h o ho
    · rename_i hs ht hx
      split at hk
      · rename_i he hw
        cases hk
        exact s_b2s hf hi hx hs he ht h o ho
      · cases hk
    · rename_i hs ht hx
      split at hk
      · rename_i he hw
        cases hk
        exact s_s2b hf hi hx hs he ht h o ho
      · cases hk
    · cases hk
  · rename_i t x ho
    split at hk
    · rename_i ht hx
      obtain ⟨wd, hw, rfl⟩ := Option.map_eq_some_iff.1 hk
      exact s_s2a hf hi hx ht h o ho
    · cases hk
  · rename_i f xs ys ho
    split at hk
    · rename_i hx hy
      cases hk
      exact s_mkf hf hi hx hy h o ho
    · cases hk
  · rename_i t x y ho
    split at hk
    · rename_i el ht
      split at hk
      · rename_i hw hb hz hx hy
        split at hk
        · rename_i hc
          cases hk
          exact s_mks hf hi hx hy ht hw hb hz hc.1 hc.2 h o ho
        · cases hk
      · cases hk
    · cases hk
  · rename_i t x lo hh mx ho
    split at hk
    · rename_i ht hx hlo hhi hmx
      obtain ⟨wd, hw, rfl⟩ := Option.map_eq_some_iff.1 hk
      exact s_slc hf hi hx ht hw hlo hhi hmx h o ho
    · rename_i ht hx hlo hhi hmx
      obtain ⟨wd, hw, rfl⟩ := Option.map_eq_some_iff.1 hk
      have hm : mx = none := by
        cases mx with
        | none => rfl
        | some m => simp [optC, Option.map_eq_some_iff] at hmx
      subst hm
      exact s_slca hf hi hx ht hw hlo hhi h o ho
    · rename_i ht hx hlo hhi hmx
      cases hk
      have hm : mx = none := by
        cases mx with
        | none => rfl
        | some m => simp [optC, Option.map_eq_some_iff] at hmx
      subst hm
      exact s_ssub hf hi hx ht hlo hhi h o ho
    · cases hk
  · rename_i s x i ho
    split at hk
    · rename_i fs x' hs hx
      split at hk
      · rename_i off sz hfc
        split at hk
        · rename_i hpos
          cases hk
          exact s_fadr hf hi hx hs hfc hpos h o ho
        · cases hk
      · cases hk
    · cases hk
  · rename_i s x i ho
    split at hk
    · rename_i fs x' hs hx
      split at hk
      · rename_i f hfi
        split at hk
        · rename_i hag hsz
          split at hk
          · cases hk
            exact s_fld hf hi hx hs hfi hag hsz h o ho
          · cases hk
        · cases hk
      · cases hk
    · cases hk
  · rename_i t x y ho
    split at hk
    · rename_i ht hx hy
      obtain ⟨wd, hw, rfl⟩ := Option.map_eq_some_iff.1 hk
      exact s_idxA hf hi hx hy ht hw h o ho
    · rename_i ht hx hy
      obtain ⟨wd, hw, rfl⟩ := Option.map_eq_some_iff.1 hk
      exact s_idxS hf hi hx hy ht hw h o ho
    · cases hk
  · rename_i t x y ho
    split at hk
    · rename_i ht hx hy
      split at hk
      · rename_i hag hsz
        split at hk
        · cases hk
          exact s_idxV hf hi hx hy ht hag hsz h o ho
        · cases hk
      · cases hk
    · rename_i ht hx hy
      cases hk
      exact s_sidx hf hi hx hy ht h o ho
    · cases hk
  · rename_i x i ho
    obtain ⟨X, hX, rfl⟩ := Option.map_eq_some_iff.1 hk
    exact s_ext hf hi hX h o ho
  · rename_i c ho
    obtain ⟨callee, args, ts⟩ := c
    dsimp only at hk
    split at hk
    · rename_i f
      split at hk
      · cases hk
        cases h
      · cases hk
    · split at hk
      · rename_i t tr x r hts ha
        split at hk
        · rename_i ht hx
          cases hk
          exact s_len hf hi hx ht ha hts h o ho
        · rename_i ht hx
          cases hk
          exact s_slen hf hi hx ht ha hts h o ho
        · rename_i ht hx
          cases hk
          exact s_mlen hf hi hx ht ha hts h o ho
        · rename_i ht
          cases hk
          exact s_lenC hi (.inl ⟨_, ht⟩) ha hts h o ho
        · rename_i ht
          split at hk
          · rename_i hr
            cases hk
            exact s_lenC hi (.inr ⟨_, _, ht, hr⟩) ha hts h o ho
          · cases hk
        · cases hk
      · cases hk
    · cases hk
      cases h
    · split at hk
      · rename_i ha
        split at hk
        · rename_i hx hy
          cases hk
          exact s_mn hf hi hx hy ha h o ho
        · cases hk
      · cases hk
    · split at hk
      · rename_i ha
        split at hk
        · rename_i hx hy
          cases hk
          exact s_mx hf hi hx hy ha h o ho
        · cases hk
      · cases hk
    · split at hk
      · rename_i t u x y hts ha
        split at hk
        · rename_i uu x' y' ht hu0 hx hy
          split at hk
          case isFalse => cases hk
          rename_i huu
          have hu : P.underlying u = some .string ∨ ∃ e2, P.underlying u = some (.slice e2) := by
            cases uu <;> simp [rowish] at huu
            · exact .inl hu0
            · exact .inr ⟨_, hu0⟩
          split at hk
          · rename_i hw hb hz
            split at hk
            · rename_i hc
              cases hk
              split at h
              · rename_i hn
                simp only [Bool.and_eq_true] at hn
                exact s_cpi hf hi (isNil_inv hn.1) hy ha hts ht hu hw hb hz hc.2.2.2 hc.2.1 hc.2.2.1 h o ho
              · split at h
                · rename_i hn
                  simp only [Bool.and_eq_true] at hn
                  obtain ⟨v, rfl⟩ : ∃ v, x = .tmp v := by
                    have := hn.2
                    cases x <;> simp [tmpOf] at this
                    exact ⟨_, rfl⟩
                  exact s_ape hf hi rfl hy ha hts ht hu hw hb hz hc.2.2.2 hc.2.1 hc.2.2.1 h o ho
                split at h
                · exact s_apz hf hi hx hy ha hts ht hu hw hb hz hc.2.2.2 hc.2.1 hc.2.2.1 h o ho
                split at h
                · exact s_app hf hi hx hy ha hts ht hu hw hb hz hc.2.2.2 hc.2.1 hc.2.2.1 (sop_apc h) o ho
                · exact s_app hf hi hx hy ha hts ht hu hw hb hz hc.2.2.2 hc.2.1 hc.2.2.1 h o ho
            · cases hk
          · cases hk
        · cases hk
      · cases hk
    · cases hk
  · rename_i t x ho
    split at hk
    · rename_i hc
      obtain ⟨X, hX, rfl⟩ := Option.map_eq_some_iff.1 hk
      exact s_mki hf hi hX hc h o ho
    · cases hk
  · rename_i x xt t ok ho
    split at hk
    · cases hk
    · rename_i dsc x' hnot ht hx
      split at hk
      · rename_i hok
        subst hok
        obtain ⟨z, hz, rfl⟩ := Option.map_eq_some_iff.1 hk
        exact s_tas hf hi hx ht (fun ms hms => by subst hms; exact hnot _ rfl) (by simpa using hz) h o ho
      · rename_i hok
        cases hk
        exact s_tas hf hi hx ht (fun ms hms => by subst hms; exact hnot _ rfl) (by simp [hok]) h o ho
    · cases hk
  · rename_i x ho
    obtain ⟨X, hX, rfl⟩ := Option.map_eq_some_iff.1 hk
    cases h
  · rename_i t ho
    cases hk
    exact s_mkm hi h o ho
  · rename_i t k n ho
    split at hk
    · rename_i ht
      cases hk
      exact s_mkm2 hi h ht o ho
    · cases hk
  · rename_i t x ho
    split at hk
    · rename_i ht hx
      cases hk
      exact s_rng hf hi hx ht h o ho
    · cases hk
  · rename_i x ho
    split at hk
    · rename_i hx
      cases hk
      exact s_ent hf hi hx h o ho
    · cases hk
  · rename_i t x y ok ho
    split at hk
    · rename_i ht hx hy
      split at hk
      · rename_i hky hz
        cases hk
        exact s_mget hf hi hx hy ht hky hz h o ho
      · cases hk
    · cases hk
  · rename_i t m x y ho
    split at hk
    · rename_i ht hm hx hy
      split at hk
      · rename_i hky
        cases hk
        exact s_mput hf hi hm hx hy ht hky h o (.inl ho)
      · cases hk
    · cases hk
  · rename_i t m x y ho
    split at hk
    · rename_i ht hm hx hy
      split at hk
      · rename_i hky
        cases hk
        exact s_mput hf hi hm hx hy ht hky h o (.inr ho)
      · cases hk
    · cases hk
  · cases hk
end

end Go.Abs

/-
  How high values lead: a block below the newest segment holds nothing that leads above it. What is handed out of a segment leads below it; so a segment may go.
-/
set_option linter.unusedVariables false
set_option linter.unusedSimpArgs false
namespace Go.Abs
open Go

mutual
def D.low (n : Nat) : D → Bool
  | .ref l .. => decide (l < n)
  | .sl l .. => decide (l < n)
  | .yld l _ => decide (l < n)
  | .vr .. => true
  | .emp => true
  | .own _ cs => D.lowL n cs
  | .agg cs => D.lowL n cs
  | .tup cs => D.lowL n cs
  | .cref cs => D.lowL n cs
  | .lst _ cs => D.lowL n cs
  | .fn _ a b => D.lowL n a && D.lowL n b
  | .undef => true
  | .bool _ => true
  | .int _ _ => true
  | .str _ => true
  | .nilp => true
  | .nils => true
  | .nilf => true
  | .ifc _ d => D.low n d
  | .nili => true
def D.lowL (n : Nat) : List D → Bool
  | [] => true
  | d :: ds => D.low n d && D.lowL n ds
end

theorem lowL_iff {n : Nat} {ds : List D} : D.lowL n ds = true ↔ ∀ d ∈ ds, d.low n = true := by
  induction ds with
  | nil => simp [D.lowL]
  | cons d ds ih => simp [D.lowL, ih]

mutual
theorem clean_low {n : Nat} : ∀ {d : D}, d.clean = true → d.low n = true
  | .ref .., h => by simp [D.clean] at h
  | .sl .., h => by simp [D.clean] at h
  | .yld .., h => by simp [D.clean] at h
  | .vr .., _ => rfl
  | .emp, _ => rfl
  | .own _ cs, h => cleanL_low (ds := cs) (by simpa [D.clean] using h)
  | .agg cs, h => cleanL_low (ds := cs) (by simpa [D.clean] using h)
  | .tup cs, h => cleanL_low (ds := cs) (by simpa [D.clean] using h)
  | .cref cs, h => cleanL_low (ds := cs) (by simpa [D.clean] using h)
  | .lst _ cs, h => cleanL_low (ds := cs) (by simpa [D.clean] using h)
  | .fn _ a b, h => by
    simp only [D.clean, Bool.and_eq_true] at h
    simp only [D.low, Bool.and_eq_true]
    exact ⟨cleanL_low h.1, cleanL_low h.2⟩
  | .undef, _ => rfl
  | .bool _, _ => rfl
  | .int _ _, _ => rfl
  | .str _, _ => rfl
  | .nilp, _ => rfl
  | .nils, _ => rfl
  | .nilf, _ => rfl
  | .ifc _ d, h => clean_low (d := d) (by simpa [D.clean] using h)
  | .nili, _ => rfl
theorem cleanL_low {n : Nat} : ∀ {ds : List D}, D.cleanL ds = true → D.lowL n ds = true
  | [], _ => rfl
  | d :: ds, h => by
    simp only [D.cleanL, Bool.and_eq_true] at h
    simp only [D.lowL, Bool.and_eq_true]
    exact ⟨clean_low h.1, cleanL_low h.2⟩
end

mutual
theorem RelV.low {g : G} {n : Nat} (hn : ∀ l i L, g.loc l i = some L → l < n) : ∀ {d : D} {c : Value}, RelV g d c → d.low n = true
  | _, _, .undef c => rfl
  | _, _, .bool b => rfl
  | _, _, .int k n => rfl
  | _, _, .str s => rfl
  | _, _, .agg ds cs hr h1 => RelL.low hn hr
  | _, _, .tup ds cs hr => RelL.low hn hr
  | _, _, .nilp => rfl
  | _, _, .ref l i v off b o L e hv hc hn' => by simp only [D.low, decide_eq_true_eq]; exact hn l i L e
  | _, _, .cref ds b o vs hr hl => RelL.low hn hl
  | _, _, .nils => rfl
  | _, _, .lstn => rfl
  | _, _, .lst n' ds a cap vs hn' hr hs hl => RelL.low hn hl
  | _, _, .sl l i v off n' w a cap L e hv hn' ha hs hc hc' => by simp only [D.low, decide_eq_true_eq]; exact hn l i L e
  | _, _, .fn f fs cs fs' cs' h1 h2 => by simp only [D.low, Bool.and_eq_true]; exact ⟨RelL.low hn h1, RelL.low hn h2⟩
  | _, _, .nilf => rfl
  | _, _, .yld l i b e => by simp only [D.low, decide_eq_true_eq]; exact hn l i _ e
  | _, _, .mpv l i b e => by simp only [D.low, decide_eq_true_eq]; exact hn l i _ e
  | _, _, .itv l i b L e hc => by simp only [D.low, decide_eq_true_eq]; exact hn l i _ e
  | _, _, .bdv l i b L e hc => by simp only [D.low, decide_eq_true_eq]; exact hn l i _ e
  | _, _, .ifc t d c h1 => by rw [D.low]; exact RelV.low hn h1
  | _, _, .nili => rfl
theorem RelL.low {g : G} {n : Nat} (hn : ∀ l i L, g.loc l i = some L → l < n) : ∀ {ds : List D} {cs : List Value}, RelL g ds cs → D.lowL n ds = true
  | _, _, .nil => rfl
  | _, _, .cons d c ds cs h1 h2 => by simp only [D.lowL, Bool.and_eq_true]; exact ⟨RelV.low hn h1, RelL.low hn h2⟩
end

def G.cut (g : G) (n : Nat) : G := ⟨fun l i => if l < n then g.loc l i else none, g.imm⟩

theorem G.cut_loc {g : G} {n l i : Nat} (h : l < n) : (g.cut n).loc l i = g.loc l i := by simp [G.cut, h]
theorem G.cut_some {g : G} {n l i : Nat} {L : Loc} (h : (g.cut n).loc l i = some L) : l < n ∧ g.loc l i = some L := by
  simp only [G.cut] at h
  split at h
  · exact ⟨by assumption, h⟩
  · cases h

mutual
theorem RelV.cut {g : G} {n : Nat} : ∀ {d : D} {c : Value}, RelV g d c → d.low n = true → RelV (g.cut n) d c
  | _, _, .undef c, _ => .undef c
  | _, _, .bool b, _ => .bool b
  | _, _, .int k n, _ => .int k n
  | _, _, .str s, _ => .str s
  | _, _, .agg ds cs hr h1, h => .agg ds cs (RelL.cut hr h) h1
  | _, _, .tup ds cs hr, h => .tup ds cs (RelL.cut hr h)
  | _, _, .nilp, _ => .nilp
  | _, _, .ref l i v off b o L e hv hc hn', h => .ref l i v off b o L ((G.cut_loc (by simpa [D.low] using h)).trans e) hv hc hn'
  | _, _, .cref ds b o vs hr hl, h => .cref ds b o vs hr (RelL.cut hl h)
  | _, _, .nils, _ => .nils
  | _, _, .lstn, _ => .lstn
  | _, _, .lst n' ds a cap vs hn' hr hs hl, h => .lst n' ds a cap vs hn' hr hs (RelL.cut hl h)
  | _, _, .sl l i v off n' w a cap L e hv hn' ha hs hc hc', h => .sl l i v off n' w a cap L ((G.cut_loc (by simpa [D.low] using h)).trans e) hv hn' ha hs hc hc'
  | _, _, .fn f fs cs fs' cs' h1 h2, h => by
    simp only [D.low, Bool.and_eq_true] at h
    exact .fn f fs cs fs' cs' (RelL.cut h1 h.1) (RelL.cut h2 h.2)
  | _, _, .nilf, _ => .nilf
  | _, _, .yld l i b e, h => .yld l i b ((G.cut_loc (by simpa [D.low] using h)).trans e)
  | _, _, .mpv l i b e, h => .mpv l i b ((G.cut_loc (by simpa [D.low] using h)).trans e)
  | _, _, .itv l i b L e hc, h => .itv l i b L ((G.cut_loc (by simpa [D.low] using h)).trans e) hc
  | _, _, .bdv l i b L e hc, h => .bdv l i b L ((G.cut_loc (by simpa [D.low] using h)).trans e) hc
  | _, _, .ifc t d c h1, h => .ifc t d c (RelV.cut h1 h)
  | _, _, .nili, _ => .nili
theorem RelL.cut {g : G} {n : Nat} : ∀ {ds : List D} {cs : List Value}, RelL g ds cs → D.lowL n ds = true → RelL (g.cut n) ds cs
  | _, _, .nil, _ => .nil
  | _, _, .cons d c ds cs h1 h2, h => by
    simp only [D.lowL, Bool.and_eq_true] at h
    exact .cons d c ds cs (RelV.cut h1 h.1) (RelL.cut h2 h.2)
end

mutual
theorem low_mono {n m : Nat} (hm : n ≤ m) : ∀ {d : D}, d.low n = true → d.low m = true
  | .ref l .., h => by simp only [D.low, decide_eq_true_eq] at h ⊢; omega
  | .sl l .., h => by simp only [D.low, decide_eq_true_eq] at h ⊢; omega
  | .yld l _, h => by simp only [D.low, decide_eq_true_eq] at h ⊢; omega
  | .vr .., _ => rfl
  | .emp, _ => rfl
  | .own _ cs, h => lowL_mono (ds := cs) hm h
  | .agg cs, h => lowL_mono (ds := cs) hm h
  | .tup cs, h => lowL_mono (ds := cs) hm h
  | .cref cs, h => lowL_mono (ds := cs) hm h
  | .lst _ cs, h => lowL_mono (ds := cs) hm h
  | .fn _ a b, h => by
    simp only [D.low, Bool.and_eq_true] at h ⊢
    exact ⟨lowL_mono hm h.1, lowL_mono hm h.2⟩
  | .undef, _ => rfl
  | .bool _, _ => rfl
  | .int _ _, _ => rfl
  | .str _, _ => rfl
  | .nilp, _ => rfl
  | .nils, _ => rfl
  | .nilf, _ => rfl
  | .ifc _ d, h => low_mono (d := d) hm h
  | .nili, _ => rfl
theorem lowL_mono {n m : Nat} (hm : n ≤ m) : ∀ {ds : List D}, D.lowL n ds = true → D.lowL m ds = true
  | [], _ => rfl
  | d :: ds, h => by
    simp only [D.lowL, Bool.and_eq_true] at h ⊢
    exact ⟨low_mono hm h.1, lowL_mono hm h.2⟩
end

def Blk.low (n : Nat) : Blk → Prop
  | .cells _ cs => D.lowL n cs = true
  | .dead => True
  | .loop lp => ∀ t, (get lp.env t).low n = true

def LowS (σ : Stack) : Prop := ∀ l i b, blk? σ l i = some b → l + 1 < σ.length → b.low (l + 1)

theorem LowS.set {σ : Stack} (h : LowS σ) {l i : Nat} {b : Blk} (hb : l + 1 < σ.length → b.low (l + 1)) : LowS (setBlk σ l i b) := by
  intro l' i' b' h1 h2
  rw [setBlk_length] at h2
  by_cases hc : l' = l ∧ i' = i
  · obtain ⟨rfl, rfl⟩ := hc
    cases h0 : blk? σ l' i' with
    | none =>
      have : blk? (setBlk σ l' i' b) l' i' = none := by
        unfold setBlk
        cases hs : seg? σ l' with
        | none => exact h0
        | some s =>
          simp only [blk?, seg?_setSeg (seg?_lt hs), Option.bind_some]
          simp only [blk?, hs, Option.bind_some] at h0
          rw [List.getElem?_eq_none_iff] at h0 ⊢
          simpa using h0
      rw [this] at h1; cases h1
    | some b0 => rw [blk?_setBlk h0] at h1; cases h1; exact hb h2
  · rw [blk?_setBlk_other hc] at h1; exact h l' i' b' h1 h2

theorem LowS.new {σ σ' : Stack} (h : LowS σ) {l i : Nat} {b : Blk} (hn : newBlk σ b = some (l, i, σ')) : LowS σ' := by
  obtain ⟨h1, h2, h3, h4, h5⟩ := newBlk_spec hn
  intro l' i' b' e hl
  by_cases hc : l' = l ∧ i' = i
  · omega
  · rw [h3 l' i' hc] at e; exact h l' i' b' e (by omega)

structure Goes (σ σ' : Stack) : Prop where
  len : σ'.length = σ.length
  low : LowS σ → LowS σ'

theorem Goes.refl (σ : Stack) : Goes σ σ := ⟨rfl, id⟩
theorem Goes.trans {a b c : Stack} (h : Goes a b) (h' : Goes b c) : Goes a c := ⟨h'.len.trans h.len, fun x => h'.low (h.low x)⟩
theorem Goes.new {σ σ' : Stack} {l i : Nat} {b : Blk} (hn : newBlk σ b = some (l, i, σ')) : Goes σ σ' := ⟨(newBlk_spec hn).2.2.2.1, fun h => h.new hn⟩
theorem Goes.set {σ : Stack} {l i : Nat} {b : Blk} (hb : l + 1 < σ.length → b.low (l + 1)) : Goes σ (setBlk σ l i b) := ⟨setBlk_length, fun h => h.set hb⟩

theorem nilbs_goes : ∀ (nb : List (Nat × Nat)) (cs cs' : List D) (σ σ' : Stack), nilbs nb cs σ = some (cs', σ') → Goes σ σ'
  | [], cs, cs', σ, σ', h => by simp only [nilbs, Option.some.injEq, Prod.mk.injEq] at h; obtain ⟨rfl, rfl⟩ := h; exact .refl _
  | (p, w) :: r, cs, cs', σ, σ', h => by
    simp only [nilbs] at h
    split at h
    · simp only [Option.bind_eq_bind, Option.bind_eq_some_iff] at h
      obtain ⟨⟨l, i, σ1⟩, hn, h⟩ := h
      exact (Goes.new hn).trans (nilbs_goes r _ _ _ _ h)
    · exact nilbs_goes r _ _ _ _ h

theorem frz_spec (l : Nat) : ∀ (n : Nat) (d : D) (σ : Stack), (frz l n d σ).1.low (l + 1) = true ∧ Goes σ (frz l n d σ).2
  | 0, d, σ => ⟨rfl, .refl _⟩
  | n + 1, d, σ => by
    have ih : ∀ (ds : List D) (σ : Stack), D.lowL (l + 1) (frz.frzL (frz l n) ds σ).1 = true ∧ Goes σ (frz.frzL (frz l n) ds σ).2 := by
      intro ds
      induction ds with
      | nil => intro σ; exact ⟨rfl, .refl _⟩
      | cons d ds ihd =>
        intro σ
        obtain ⟨h1, h2⟩ := frz_spec l n d σ
        obtain ⟨h3, h4⟩ := ihd (frz l n d σ).2
        simp only [frz.frzL, D.lowL, Bool.and_eq_true]
        exact ⟨⟨h1, h3⟩, h2.trans h4⟩
    simp only [frz]
    split
    · rename_i hc; exact ⟨clean_low hc, .refl _⟩
    cases d with
    | agg cs => exact ih cs σ
    | tup cs => exact ih cs σ
    | cref cs => exact ih cs σ
    | lst m cs => exact ih cs σ
    | own s cs => exact ih cs σ
    | fn f a b =>
      obtain ⟨h1, h2⟩ := ih a σ
      obtain ⟨h3, h4⟩ := ih b (frz.frzL (frz l n) a σ).2
      refine ⟨?_, h2.trans h4⟩
      simp only [D.low, Bool.and_eq_true]
      exact ⟨h1, h3⟩
    | ref l' i v off =>
      dsimp only
      split
      · refine ⟨?_, .refl _⟩; simp only [D.low, decide_eq_true_eq]; omega
      · exact ⟨rfl, .refl _⟩
    | yld l' i =>
      dsimp only
      split
      · refine ⟨?_, .refl _⟩; simp only [D.low, decide_eq_true_eq]; omega
      · exact ⟨rfl, .refl _⟩
    | sl l' i v off m w =>
      dsimp only
      split
      · refine ⟨?_, .refl _⟩; simp only [D.low, decide_eq_true_eq]; omega
      · split
        · rename_i cs hcs
          obtain ⟨h1, h2⟩ := ih ((cs.drop off).take (m * w)) (setBlk σ l' i .dead)
          exact ⟨h1, (Goes.set (b := .dead) fun _ => trivial).trans h2⟩
        · exact ⟨rfl, .refl _⟩
    | _ => exact ⟨rfl, .refl _⟩

theorem frzL_spec (l n : Nat) (ds : List D) : ∀ (σ : Stack), D.lowL (l + 1) (frz.frzL (frz l n) ds σ).1 = true ∧ Goes σ (frz.frzL (frz l n) ds σ).2 := by
  induction ds with
  | nil => intro σ; exact ⟨rfl, .refl _⟩
  | cons d ds ihd =>
    intro σ
    obtain ⟨h1, h2⟩ := frz_spec l n d σ
    obtain ⟨h3, h4⟩ := ihd (frz l n d σ).2
    simp only [frz.frzL, D.lowL, Bool.and_eq_true]
    exact ⟨⟨h1, h3⟩, h2.trans h4⟩

theorem frzE_spec (l : Nat) : ∀ (e : Env) (σ : Stack), (∀ p ∈ (frzE l e σ).1, p.2.low (l + 1) = true) ∧ Goes σ (frzE l e σ).2
  | [], σ => ⟨by simp [frzE], .refl _⟩
  | (t, d) :: e, σ => by
    obtain ⟨h1, h2⟩ := frz_spec l deep d σ
    obtain ⟨h3, h4⟩ := frzE_spec l e (frz l deep d σ).2
    simp only [frzE]
    refine ⟨?_, h2.trans h4⟩
    intro p hp
    rcases List.mem_cons.1 hp with rfl | hp
    · exact h1
    · exact h3 p hp

theorem cells?_low {σ : Stack} (h : LowS σ) {l i v : Nat} {cs : List D} (hc : cells? σ l i v = some cs) (hl : l + 1 < σ.length) : D.lowL (l + 1) cs = true := by
  unfold cells? at hc
  split at hc
  case h_2 => cases hc
  rename_i v' cs' hb
  split at hc
  case isFalse => cases hc
  cases hc
  exact h l i _ hb hl

theorem lowL_append {n : Nat} {a b : List D} : D.lowL n (a ++ b) = true ↔ D.lowL n a = true ∧ D.lowL n b = true := by
  simp only [lowL_iff, List.mem_append]
  exact ⟨fun h => ⟨fun d hd => h d (.inl hd), fun d hd => h d (.inr hd)⟩, fun h d hd => hd.elim (h.1 d) (h.2 d)⟩
theorem lowL_take {n k : Nat} {a : List D} (h : D.lowL n a = true) : D.lowL n (a.take k) = true := by
  rw [lowL_iff] at h ⊢; exact fun d hd => h d (List.mem_of_mem_take hd)
theorem lowL_drop {n k : Nat} {a : List D} (h : D.lowL n a = true) : D.lowL n (a.drop k) = true := by
  rw [lowL_iff] at h ⊢; exact fun d hd => h d (List.mem_of_mem_drop hd)

theorem mpD_same {σ σ' : Stack} {d : D} {o : Mo} {ds : List D} (h : mpD σ o ds = some (d, σ')) (hk : o.calm = true) : σ' = σ := by
  unfold mpD at h
  split at h
  · simp [Mo.calm] at hk
  · simp [Mo.calm] at hk
  · split at h
    · split at h
      · split at h <;> first | (cases h; done) | (cases h; rfl)
      · cases h
    · cases h
  · simp [Mo.calm] at hk
  · simp only [Option.map_eq_some_iff, Prod.mk.injEq] at h
    obtain ⟨_, _, _, rfl⟩ := h
    rfl
  · simp [Mo.calm] at hk
  · split at h
    · split at h
      · split at h
        · split at h
          · cases h; rfl
          · cases h
        · cases h
      · cases h
    · cases h
  · cases h
theorem meD_same {σ σ' : Stack} {d : D} {o : Me} {ds : List D} (h : meD σ o ds = some (d, σ')) : σ' = σ := by
  unfold meD at h
  split at h
  · cases h
  · simp only [Option.bind_eq_some_iff, Option.map_eq_some_iff, Prod.mk.injEq] at h
    obtain ⟨_, _, _, _, _, rfl⟩ := h; rfl
  · cases h; rfl
  · split at h <;> cases h; rfl
  · split at h <;> cases h; rfl
  · cases h
theorem sop_same {e : Env} {σ σ' : Stack} {d : D} {k : K} (h : sop e σ k = some (d, σ')) (hk : k.calm = true) : σ' = σ := by
  by_cases hm : ∃ o xs, k = .mp o xs
  · obtain ⟨o, xs, rfl⟩ := hm
    exact mpD_same h hk
  by_cases hm' : ∃ o xs, k = .me o xs
  · obtain ⟨o, xs, rfl⟩ := hm'
    exact meD_same h
  cases k <;> (try (exact absurd ⟨_, _, rfl⟩ hm)) <;> (try (exact absurd ⟨_, _, rfl⟩ hm')) <;> clear hm hm' <;> simp only [K.calm, Bool.false_eq_true] at hk <;> simp only [sop, Option.bind_eq_bind, reduceCtorEq] at h <;> (repeat' split at h) <;>
    simp only [Option.map_eq_some_iff, Option.bind_eq_some_iff, Option.some.injEq, Prod.mk.injEq, Prod.exists, reduceCtorEq, exists_eq_left, and_false, exists_false] at h <;> (try split at h) <;>
    simp_all <;> (try (obtain ⟨_, _, h⟩ := h; simp_all)) <;> (try grind)

theorem goes_st {e : Env} {σ σ' : Stack} {d : D} {nb : List (Nat × Nat)} {sz : Nat} {a x : Opd} (h : sop e σ (.st nb sz a x) = some (d, σ')) : Goes σ σ' := by
  simp only [sop] at h
  split at h
  case h_2 => cases h
  split at h
  case h_2 => cases h
  rename_i l i v off hX _ cs hcs
  split at h
  case h_2 => cases h
  rename_i p hcells
  split at h
  case isFalse => cases h
  rename_i hc
  split at h
  · rename_i htop
    split at h
    · rename_i p' σ1 hnb
      cases h
      have hg := nilbs_goes _ _ _ _ _ hnb
      exact hg.trans (Goes.set fun hl => by have := hg.len; omega)
    · cases h
  · rename_i htop
    cases h
    obtain ⟨h1, h2⟩ := frzL_spec l deep p σ
    refine ⟨setBlk_length.trans h2.len, fun hl => (h2.low hl).set fun hlt => ?_⟩
    have hcl := cells?_low hl hcs (by have := h2.len; omega)
    simp only [Blk.low, lowL_append]
    exact ⟨⟨lowL_take hcl, h1⟩, lowL_drop hcl⟩

theorem goes_app {e : Env} {σ σ' : Stack} {d : D} {w bytes : Nat} {s x : Opd} (h : sop e σ (.app w bytes s x) = some (d, σ')) : Goes σ σ' := by
  simp only [sop, Option.bind_eq_bind, Option.bind_eq_some_iff] at h
  obtain ⟨⟨m, xs⟩, he, h⟩ := h
  dsimp only at h
  split at h
  · split at h
    case isFalse => cases h
    split at h
    · cases h; exact .refl _
    · simp only [Option.bind_eq_some_iff] at h
      obtain ⟨⟨l, i, σ1⟩, hn, h⟩ := h
      cases h
      exact .new hn
  · split at h
    case h_2 => cases h
    rename_i l i v off n w' hX _ cs hcs
    split at h
    case isFalse => cases h
    split at h
    · cases h
      exact .set fun hl => by omega
    · cases h
      obtain ⟨h1, h2⟩ := frzL_spec l deep xs σ
      refine ⟨setBlk_length.trans h2.len, fun hl => (h2.low hl).set fun hlt => ?_⟩
      have hcl := cells?_low hl hcs (by have := h2.len; omega)
      simp only [Blk.low, lowL_append]
      exact ⟨lowL_take (lowL_drop hcl), h1⟩
  · cases h

theorem lowL_set {n j : Nat} {a : List D} {x : D} (h : D.lowL n a = true) (hx : x.low n = true) : D.lowL n (a.set j x) = true := by
  rw [lowL_iff] at h ⊢
  intro d hd
  rcases List.mem_or_eq_of_mem_set hd with h1 | rfl
  · exact h d h1
  · exact hx
theorem goes_mp {σ σ' : Stack} {d : D} {o : Mo} {ds : List D} (h : mpD σ o ds = some (d, σ')) : Goes σ σ' := by
  unfold mpD at h
  split at h
  · simp only [Option.map_eq_some_iff, Prod.mk.injEq, Prod.exists] at h
    obtain ⟨l, i, σ1, hn, _, rfl⟩ := h
    exact .new hn
  · simp only [Option.map_eq_some_iff, Prod.mk.injEq, Prod.exists] at h
    obtain ⟨l, i, σ1, hn, _, rfl⟩ := h
    exact .new hn
  · split at h
    · split at h
      · split at h <;> first | (cases h; done) | (cases h; exact .refl _)
      · cases h
    · cases h
  · rename_i ky m k v
    split at h
    · rename_i l i es hm
      obtain ⟨rfl, hcs⟩ := mapD_inv hm
      split at h
      case isFalse => cases h
      rename_i hc
      have hlow : l + 1 < σ.length → k.low (l + 1) = true ∧ v.low (l + 1) = true := fun hl => by
        rcases hc.2 with h1 | ⟨h1, h2⟩
        · omega
        · exact ⟨clean_low h1, clean_low h2⟩
      split at h
      · cases h
        refine ⟨setBlk_length, fun hS => hS.set fun hl => ?_⟩
        have hcl := cells?_low hS hcs hl
        obtain ⟨h1, h2⟩ := hlow hl
        simp only [Blk.low]
        exact lowL_set hcl (by simp [D.low, D.lowL, h1, h2])
      · cases h
        refine ⟨setBlk_length, fun hS => hS.set fun hl => ?_⟩
        have hcl := cells?_low hS hcs hl
        obtain ⟨h1, h2⟩ := hlow hl
        simp only [Blk.low, lowL_append]
        exact ⟨hcl, by simp [D.low, D.lowL, h1, h2]⟩
      · cases h
    · cases h
  · simp only [Option.map_eq_some_iff, Prod.mk.injEq] at h
    obtain ⟨_, _, _, rfl⟩ := h
    exact .refl _
  · split at h
    · simp only [Option.map_eq_some_iff, Prod.mk.injEq, Prod.exists] at h
      obtain ⟨l, i, σ1, hn, _, rfl⟩ := h
      exact .new hn
    · cases h
  · split at h
    · split at h
      · split at h
        · split at h
          · cases h; exact .refl _
          · cases h
        · cases h
      · cases h
    · cases h
  · cases h

theorem sop_goes {e : Env} {σ σ' : Stack} {d : D} : ∀ {k : K}, sop e σ k = some (d, σ') → Goes σ σ'
  | .st .., h => goes_st h
  | .app .., h => goes_app h
  | .apc .., h => goes_app (sop_apc h)
  | .apz w bytes s x, h => by
    simp only [sop, Option.map_eq_some_iff, Prod.exists] at h
    obtain ⟨d1, σ1, h1, h2⟩ := h
    obtain ⟨h3, h4⟩ := frz_spec 0 deep d1 σ1
    rw [h2] at h4
    exact (goes_app (by rw [sop_app]; exact h1)).trans h4
  | .alc nb cs, h => by
    simp only [sop, Option.bind_eq_bind, Option.bind_eq_some_iff] at h
    obtain ⟨⟨cs', σ1⟩, hnb, ⟨l, i, σ2⟩, hn, h⟩ := h
    cases h
    exact (nilbs_goes _ _ _ _ _ hnb).trans (.new hn)
  | .nilb w, h => by
    simp only [sop, Option.bind_eq_bind, Option.bind_eq_some_iff] at h
    obtain ⟨⟨l, i, σ2⟩, hn, h⟩ := h
    cases h
    exact .new hn
  | .bxn nb x, h => by
    simp only [sop, Option.bind_eq_bind, Option.bind_eq_some_iff] at h
    obtain ⟨cs, _, ⟨cs', σ1⟩, hnb, ⟨l, i, σ2⟩, hn, h⟩ := h
    cases h
    exact (nilbs_goes _ _ _ _ _ hnb).trans (.new hn)
  | .boxm x, h => by
    simp only [sop, Option.bind_eq_bind, Option.bind_eq_some_iff] at h
    obtain ⟨cs, _, ⟨l, i, σ2⟩, hn, h⟩ := h
    cases h
    exact .new hn
  | .bsm .., h => by
    simp only [sop, Option.bind_eq_bind, Option.bind_eq_some_iff] at h
    obtain ⟨cs, _, ⟨l, i, σ2⟩, hn, h⟩ := h
    cases h
    exact .new hn
  | .mks .., h => by
    simp only [sop] at h
    split at h
    · split at h
      · simp only [Option.bind_eq_bind, Option.bind_eq_some_iff] at h
        obtain ⟨⟨l, i, σ2⟩, hn, h⟩ := h
        cases h
        exact .new hn
      · cases h
    · cases h
  | .mv _, h => same h rfl
  | .pick .., h => same h rfl
  | .alcv .., h => by simp [sop] at h
  | .boxi _, h => same h rfl
  | .boxv _, h => by simp [sop] at h
  | .bld .., h => same h rfl
  | .bsi .., h => same h rfl
  | .ld .., h => same h rfl
  | .ldi .., h => same h rfl
  | .ld0 .., h => same h rfl
  | .stc os sz a x, h => goes_st (sop_stc h)
  | .isn .., h => same h rfl
  | .nck .., h => same h rfl
  | .ldv .., h => same h rfl
  | .stv .., h => by simp [sop] at h
  | .bin .., h => same h rfl
  | .eqv .., h => same h rfl
  | .un .., h => same h rfl
  | .cvt .., h => same h rfl
  | .mkf .., h => same h rfl
  | .slc .., h => same h rfl
  | .slca .., h => same h rfl
  | .fadr .., h => same h rfl
  | .fld .., h => same h rfl
  | .idxA .., h => same h rfl
  | .idxS .., h => same h rfl
  | .idxV .., h => same h rfl
  | .lenS .., h => same h rfl
  | .lenC .., h => same h rfl
  | .mn .., h => same h rfl
  | .mx .., h => same h rfl
  | .cpi .., h => same h rfl
  | .bse, h => same h rfl
  | .ape .., h => same h rfl
  | .ext .., h => same h rfl
  | .pur .., h => same h rfl
  | .mp .., h => goes_mp h
  | .me .., h => same h rfl
  | .mki .., h => same h rfl
  | .tas .., h => same h rfl
  | .isi .., h => same h rfl
  | .pan _, h => by simp [sop] at h
  | .rcv, h => by simp [sop] at h
  | .call .., h => by simp [sop] at h
where
  same {e : Env} {σ σ' : Stack} {d : D} {k : K} (h : sop e σ k = some (d, σ')) (hk : k.calm = true) : Goes σ σ' := by
    rw [sop_same h hk]; exact .refl _
end Go.Abs
