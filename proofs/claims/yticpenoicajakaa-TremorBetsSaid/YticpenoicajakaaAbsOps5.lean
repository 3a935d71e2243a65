/-
  Variables, stores, append.
-/
import Derived.Test.YticpenoicajakaaAbsFrz
set_option linter.unusedVariables false
set_option linter.unusedSimpArgs false
namespace Go.Abs
open Go

section nilbs
variable {CR : CRel} {base : Nat}

theorem nilbs_ok {w : World} : ∀ (nb : List (Nat × Nat)) (cs cs' : List D) (σ σ' : Stack) (g : G) (vs : List Value), nilbs nb cs σ = some (cs', σ') → Inv CR base g σ w → RelL g cs vs →
    ∃ g', Inv CR base g' σ' w ∧ Ev g w g' w ∧ RelL g' cs' vs
  | [], cs, cs', σ, σ', g, vs, h, hi, hr => by
    simp only [nilbs, Option.some.injEq, Prod.mk.injEq] at h; obtain ⟨rfl, rfl⟩ := h
    exact ⟨g, hi, Ev.refl g w, hr⟩
  | (p, wd) :: nb, cs, cs', σ, σ', g, vs, h, hi, hr => by
    simp only [nilbs] at h
    split at h
    · rename_i hp
      simp only [Option.bind_eq_bind, Option.bind_eq_some_iff] at h
      obtain ⟨⟨l, i, σ1⟩, hn, h⟩ := h
      obtain ⟨i1, e1⟩ := hi.newVirt hn
      have hr' : RelL (g.setLoc l i (.virt 0)) (cs.set p (.sl l i 0 0 0 wd)) vs := by
        refine .of_get (by simp [hr.length]) fun j d c hd hc => ?_
        rw [List.getElem?_set] at hd
        split at hd
        · rename_i hpj; subst hpj
          split at hd
          · cases hd
            obtain ⟨c', hc', hrc⟩ := hr.get hp
            rw [hc] at hc'; cases hc'
            cases hrc
            exact .sl l i 0 0 0 wd none 0 (.virt 0) G.setLoc_same (Nat.le_refl _) (Nat.le_refl _) (fun _ => rfl) (fun _ hh => by cases hh) (fun _ _ _ hh => by cases hh) (fun _ => rfl)
          · cases hd
        · obtain ⟨c', hc', hrc⟩ := hr.get hd
          rw [hc] at hc'; cases hc'
          exact hrc.mono e1.le
      obtain ⟨g2, i2, e2, r2⟩ := nilbs_ok nb _ _ _ _ _ vs h i1 hr'
      exact ⟨g2, i2, e1.trans e2, r2⟩
    · exact nilbs_ok nb _ _ _ _ _ vs h hi hr

theorem nilbs_keep : ∀ (nb : List (Nat × Nat)) (cs cs' : List D) (σ σ' : Stack), nilbs nb cs σ = some (cs', σ') → σ'.length = σ.length ∧ cs'.length = cs.length ∧ ∀ l i b, blk? σ l i = some b → blk? σ' l i = some b
  | [], cs, cs', σ, σ', h => by
    simp only [nilbs, Option.some.injEq, Prod.mk.injEq] at h; obtain ⟨rfl, rfl⟩ := h
    exact ⟨rfl, rfl, fun _ _ _ h => h⟩
  | (p, wd) :: nb, cs, cs', σ, σ', h => by
    simp only [nilbs] at h
    split at h
    · simp only [Option.bind_eq_bind, Option.bind_eq_some_iff] at h
      obtain ⟨⟨l, i, σ1⟩, hn, h⟩ := h
      obtain ⟨h1, h2, h3⟩ := nilbs_keep nb _ _ _ _ h
      obtain ⟨k1, k2, k3, k4, _⟩ := newBlk_spec hn
      refine ⟨h1.trans k4, by simpa using h2, fun l' i' b hb => h3 l' i' b ?_⟩
      rw [k3 l' i' (fun hc => by obtain ⟨rfl, rfl⟩ := hc; rw [k1] at hb; cases hb)]; exact hb
    · exact nilbs_keep nb _ _ _ _ h

theorem frz_keep (l : Nat) : ∀ (n : Nat) (d : D) (σ : Stack), (frz l n d σ).2.length = σ.length ∧ ∀ l' i', l' ≤ l → blk? (frz l n d σ).2 l' i' = blk? σ l' i'
  | 0, d, σ => ⟨rfl, fun _ _ _ => rfl⟩
  | n + 1, d, σ => by
    have ih : ∀ (ds : List D) (σ : Stack), (frz.frzL (frz l n) ds σ).2.length = σ.length ∧ ∀ l' i', l' ≤ l → blk? (frz.frzL (frz l n) ds σ).2 l' i' = blk? σ l' i' := by
      intro ds
      induction ds with
      | nil => intro σ; exact ⟨rfl, fun _ _ _ => rfl⟩
      | cons d ds ihd =>
        intro σ
        obtain ⟨a1, a2⟩ := frz_keep l n d σ
        obtain ⟨b1, b2⟩ := ihd (frz l n d σ).2
        exact ⟨b1.trans a1, fun l' i' h => (b2 l' i' h).trans (a2 l' i' h)⟩
    simp only [frz]
    split
    · exact ⟨rfl, fun _ _ _ => rfl⟩
    split
    · exact ih _ σ
    · exact ih _ σ
    · exact ih _ σ
    · exact ih _ σ
    · exact ih _ σ
    · rename_i f a b _
      obtain ⟨a1, a2⟩ := ih a σ
      obtain ⟨b1, b2⟩ := ih b (frz.frzL (frz l n) a σ).2
      exact ⟨b1.trans a1, fun l' i' h => (b2 l' i' h).trans (a2 l' i' h)⟩
    · split <;> exact ⟨rfl, fun _ _ _ => rfl⟩
    · split <;> exact ⟨rfl, fun _ _ _ => rfl⟩
    · split
      · exact ⟨rfl, fun _ _ _ => rfl⟩
      · rename_i hgt
        split
        · rename_i cs _
          obtain ⟨a1, a2⟩ := ih ((cs.drop _).take _) (setBlk σ _ _ .dead)
          refine ⟨a1.trans setBlk_length, fun l' i' h => (a2 l' i' h).trans (blk?_setBlk_other fun hc => ?_)⟩
          omega
        · exact ⟨rfl, fun _ _ _ => rfl⟩
    · exact ⟨rfl, fun _ _ _ => rfl⟩

theorem frzL_keep (l n : Nat) (ds : List D) (σ : Stack) : (frz.frzL (frz l n) ds σ).2.length = σ.length ∧ (frz.frzL (frz l n) ds σ).1.length = ds.length ∧ ∀ l' i', l' ≤ l → blk? (frz.frzL (frz l n) ds σ).2 l' i' = blk? σ l' i' := by
  induction ds generalizing σ with
  | nil => exact ⟨rfl, rfl, fun _ _ _ => rfl⟩
  | cons d ds ihd =>
    obtain ⟨a1, a2⟩ := frz_keep l n d σ
    obtain ⟨b1, b3, b2⟩ := ihd (frz l n d σ).2
    exact ⟨b1.trans a1, by simp [frz.frzL, b3], fun l' i' h => (b2 l' i' h).trans (a2 l' i' h)⟩
end nilbs

/-- A row with a part written. -/
theorem row_write {c c' : Array Value} {bo off : Nat} {vs ps : List Value} (hvs : ∀ (j : Nat) x, vs[j]? = some x → c[bo + j]? = some x ∧ x.oneCell' = true) (h1 : ∀ x ∈ ps, x.oneCell' = true)
    (hle : off + ps.length ≤ vs.length) (hc' : ∀ j, c'[j]? = if bo + off ≤ j ∧ j < bo + off + ps.length then ps[j - (bo + off)]? else c[j]?) :
    ∀ (j : Nat) x, (vs.take off ++ ps ++ vs.drop (off + ps.length))[j]? = some x → c'[bo + j]? = some x ∧ x.oneCell' = true := by
  intro j x hj
  rw [hc']
  have hlt : (vs.take off).length = off := by simp; omega
  rw [List.append_assoc, List.getElem?_append] at hj
  split at hj
  · rename_i h
    rw [List.getElem?_take] at hj
    split at hj
    · rw [if_neg (by omega)]; exact hvs j x hj
    · cases hj
  · rename_i h
    rw [hlt] at hj h
    rw [List.getElem?_append] at hj
    split at hj
    · rename_i h2
      rw [if_pos (by omega), show bo + j - (bo + off) = j - off from by omega]
      exact ⟨hj, h1 x (List.mem_of_getElem? hj)⟩
    · rename_i h2
      rw [if_neg (by omega)]
      rw [List.getElem?_drop] at hj
      have := hvs _ x hj
      rwa [show off + ps.length + (j - off - ps.length) = j from by omega] at this

section ops
variable {P : Program} {CR : CRel} {base fb : Nat} {V : List Nat} {g : G} {σ σ' : Stack} {w : World} {B : Nat → Nat} {e : Env} {tmps : Array Value} {df : List Deferred}
  {d : D}

theorem run_alloc {el : TypeId} {i : TypeInfo} {z : Value} (hi : P.info? el = some i) (hz : i.zero = some z) : (Instr.alloc el true (.tuple #[])).run P w = .ok (.pointer (some ⟨w.heap.size, 0, none⟩)) (w.alloc (.cells z.cells el)) := by
  simp [Instr.alloc, run_zeroValue hi hz, newVar, newRow]

theorem s_alc (hi : Inv CR base g σ w) {el : TypeId} {z : List D} {nb : List (Nat × Nat)} {ρ : Operand → Value} (hz : zeroC P el = some z)
    (h : sop e σ (.alc nb z) = some (d, σ')) (o : Oper) (ho : o.op = .alloc el) : Does P CR base g w B e ρ o d σ' := by
  obtain ⟨i0, v, hinfo, hzero, hrz, h1⟩ := zeroC_rel g hz
  simp only [sop, Option.bind_eq_bind, Option.bind_eq_some_iff] at h
  obtain ⟨⟨cs', σ1⟩, hnb, ⟨l, i, σ2⟩, hn, h⟩ := h
  cases h
  obtain ⟨g1, i1, e1, r1⟩ := nilbs_ok nb _ _ _ _ g _ hnb hi hrz
  obtain ⟨i2, e2⟩ := i1.newCells hn v.cells.toList v.cells el r1 (by simp) (fun j y hy => ⟨by simpa using hy, h1 y (List.mem_of_getElem? hy)⟩)
  exact .val (.pointer (some ⟨w.heap.size, 0, none⟩)) (by simp [execOp, ho, run_alloc hinfo hzero]) (e1.trans e2) i2 (.ref l i 0 0 _ _ _ G.setLoc_same (Nat.le_refl _) (fun blk bo sz hh => by cases hh; exact ⟨rfl, rfl⟩) (by simp))

/-- A store through an address into a block of the store. -/
theorem s_st (hf : Fr fb V g w B e tmps) (hi : Inv CR base g σ w) {x y : Operand} {X Y : Opd} {t : TypeId} {nb : List (Nat × Nat)} {sz : Nat} (hx : opdC x = some X) (hy : opdC y = some Y) (hsz : sizeC P t = some sz)
    (h : sop e σ (.st nb sz X Y) = some (d, σ')) (o : Oper) (ho : o.op = .store t x y) : Does P CR base g w B e (Act.mk tmps df).eval o d σ' := by
  simp only [sop] at h
  split at h
  case h_2 => cases h
  rename_i l i v off hX
  split at h
  case h_2 => cases h
  rename_i cs hcs
  split at h
  case h_2 => cases h
  rename_i p hcells
  split at h
  case isFalse => cases h
  rename_i hc
  obtain ⟨hplen, hle⟩ := hc
  obtain ⟨hrp, h1p⟩ := (hf.opd (df := df) hy).cells hcells
  have hrx := hf.opd (df := df) hx
  rw [hX] at hrx
  generalize hcv : (Act.mk tmps df).eval x = cv at hrx
  cases hrx with
  | ref _ _ _ _ b o1 L k1 k2 k3 k4 =>
    unfold cells? at hcs
    split at hcs
    case h_2 => cases hcs
    rename_i v' cs' hblk
    split at hcs
    case isFalse => cases hcs
    rename_i hv; subst hv; cases hcs
    -- the stored cells, made ready
    obtain ⟨p', σ1, g1, i1, e1, r1, hp'len, hblk1, rfl, rfl⟩ : ∃ p' σ1 g1, Inv CR base g1 σ1 w ∧ Ev g w g1 w ∧ RelL g1 p' ((Act.mk tmps df).eval y).cells.toList ∧ p'.length = p.length ∧ blk? σ1 l i = some (.cells v' cs) ∧
        σ' = setBlk σ1 l i (.cells v' (cs.take off ++ p' ++ cs.drop (off + sz))) ∧ d = .undef := by
      split at h
      · split at h
        · rename_i p' σ1 hnb
          cases h
          obtain ⟨g1, i1, e1, r1⟩ := nilbs_ok nb _ _ _ _ g _ hnb hi hrp
          obtain ⟨_, k6, k7⟩ := nilbs_keep nb _ _ _ _ hnb
          exact ⟨p', σ1, g1, i1, e1, r1, k6, k7 _ _ _ hblk, rfl, rfl⟩
        · cases h
      · cases h
        obtain ⟨g1, i1, e1, r1⟩ := frzL_ok (CR := CR) (base := base) (frz_ok l deep) p σ g w _ hi hrp
        obtain ⟨_, k6, k7⟩ := frzL_keep l deep p σ
        exact ⟨_, _, g1, i1, e1, r1, k6, (k7 l i (Nat.le_refl _)).trans hblk, rfl, rfl⟩
    obtain ⟨L1, hL1, hle1⟩ := e1.le.loc l i L k1
    obtain ⟨b1, hb1, hrel⟩ := i1.dom l i L1 hL1
    rw [hblk1] at hb1; cases hb1
    cases L1 with
    | dead => exact hrel.elim
    | lp z => exact hrel.elim
    | virt v2 =>
      obtain ⟨rfl, _⟩ := hrel
      exact absurd (Loc.back_virt k2 hle1 rfl) k4
    | «at» blk bo v2 bsz =>
      obtain ⟨rfl, ca, el, hheap, hcsz, hlen, vs, hr, hvs⟩ := hrel
      have hLeq := Loc.back k2 hle1 rfl
      obtain ⟨rfl, rfl⟩ := k3 blk bo bsz hLeq
      have hvl := hr.length
      have hpl : ((Act.mk tmps df).eval y).cells.toList.length = sz := by rw [← r1.length, hp'len]; exact hplen
      obtain ⟨w', c', hrun, hb', hs', hc', hother, hsize, ho1, ho2, ho3⟩ := run_storeVar (P := P) (t := t) (w := w) (b := b) (o := bo + off) (v := (Act.mk tmps df).eval y) hsz (by simpa using hpl) h1p hheap (by omega)
      have hle2 : g1.le (g1.setLoc l i (.at b bo v' bsz)) := G.le_setLoc fun L0 e0 => by rw [hL1] at e0; cases e0; exact Loc.le_refl _
      obtain ⟨i2, e2⟩ := i1.setCells (w' := w') (L := .at b bo v' bsz) (v := v') (ds := cs.take off ++ p' ++ cs.drop (off + sz)) hL1 hblk1 (Loc.le_refl _)
        ⟨rfl, c', el, hb', by rw [hs', hcsz], by simp; omega, vs.take off ++ ((Act.mk tmps df).eval y).cells.toList ++ vs.drop (off + sz),
          (((hr.take off).append r1).append (hr.drop _)).mono hle2, by
            have := row_write (c := ca) (c' := c') (bo := bo) (off := off) (vs := vs) (ps := ((Act.mk tmps df).eval y).cells.toList) hvs h1p (by omega) (by rw [hpl]; exact hc')
            rw [hpl] at this; exact this⟩
        (fun b' hb' hne => hother b' (fun hh => hne (by rw [hh]; rfl))) ho1 ho2 ho3 (by omega) (fun b' hb' => .inl hb')
      refine ⟨.skip, Go.undef, _, w', ?_, rfl, e1.trans e2, i2, .undef _⟩
      simp [execOp, ho, Instr.storeAt, hcv, Instr.sureAddr, hrun]

end ops
end Go.Abs
