/- The interpreter, part 4: proved sound against the model. -/
import Derived.Test.YtfgljaglidhjiaaGreatDoorBase3
import Derived.Test.YtfgljaglidhjiaaGreatDoorBase0
import Derived.Below
import Derived.Test.YtfgljaglidhjiaaGreatDoorBase2
import Derived.Lib.AtoiAllMem
import Derived.Lib.SplitLaws
import Derived.Lib.Join
import Derived.Lib.LaidTab
import Derived.Shelf.Strings.BuilderK
import Derived.Lib.FrozenHead
import Derived.Sort.EncStr
import Derived.Shelf.Slices.Delete
import Derived.Shelf.Strconv.Itoa3
import Derived.Shelf.Strconv.AtoiAll
import Derived.Shelf.Strings.OnBuilder
import Derived.Shelf.Strings.Split
import Derived.Lib.SmallJoins
import Derived.LaidLaws
import Derived.Shelf.Vars
/-
  A range over a map, in whatever order: what all orders answer alike is what the machine does.
-/
set_option linter.unusedVariables false
set_option linter.unusedSimpArgs false
namespace Go.Abs
open Go
open Go.ChangeMaps (setBlock)

section
variable {P : Program} {T : Tbl} {O : Oracle} {CR : CRel} {base : Nat} {g : G} {σ : Stack} {w : World}

theorem Inv.setIter (hi : Inv CR base g σ w) {l i b lm im bm n : Nat} {b0 : Blk} {js : List Nat} (hL : g.loc l i = some (.it b)) (hb : blk? σ l i = some b0) (hm : g.loc lm im = some (.mp bm)) (hnd : js.Nodup) (hlt : ∀ j ∈ js, j < n) {w1 : World} (hw1 : w1 = w ∨ w1 = w.drew) :
    Inv CR base (g.setLoc l i (.it b)) (setBlk σ l i (.cells 1 (.yld lm im :: .int .i64 (n : Nat) :: js.map (fun j : Nat => D.int .i64 j)))) (setBlock w1 b (.mapIter (some bm) n js.reverse.toArray n)) ∧
      Ev g w (g.setLoc l i (.it b)) (setBlock w1 b (.mapIter (some bm) n js.reverse.toArray n)) := by
  have hlt' := (hi.lo l i _ b hL rfl).2
  have hh : w1.heap = w.heap := by rcases hw1 with rfl | rfl <;> rfl
  have hos : w1.os = w.os := by rcases hw1 with rfl | rfl <;> rfl
  have htp : w1.tape = w.tape := by rcases hw1 with rfl | rfl <;> rfl
  have hout : w1.output = w.output := by rcases hw1 with rfl | rfl <;> rfl
  have hm2 : (g.setLoc l i (.it b)).loc lm im = some (.mp bm) := by
    rw [G.setLoc_other fun hc => by rw [hc.1, hc.2, hL] at hm; cases hm]
    exact hm
  refine hi.setCells hL hb (Loc.le_refl _) ⟨rfl, lm, im, bm, n, js, rfl, hm2, ?_, hnd, hlt⟩ (fun b' hb' hne => ?_) hos htp hout (by simp [setBlock, hh]) (fun b' hb' => .inl hb')
  · simp [setBlock, hh, hlt']
  · have : b ≠ b' := fun hc => hne (by rw [hc]; rfl)
    simp [setBlock, hh, this]

theorem Inv.endIter (hi : Inv CR base g σ w) {l i b : Nat} {L : Loc} {b0 : Blk} (hL : g.loc l i = some L) (hd : L = .it b ∨ L = .dead) (hb : blk? σ l i = some b0) :
    Inv CR base (g.setLoc l i .dead) (setBlk σ l i .dead) w ∧ Ev g w (g.setLoc l i .dead) w := by
  have hle : g.le (g.setLoc l i .dead) := G.le_setLoc fun L0 e => by rw [hL] at e; cases e; rcases hd with rfl | rfl <;> simp [Loc.le]
  refine ⟨hi.turn l i hle (fun l' i' c => blk?_setBlk_other c) (fun l' i' c => G.setLoc_other c) (fun _ _ _ _ _ _ _ => rfl) ?_ hi.imm ?_ ?_ (Nat.le_refl _) ⟨_, G.setLoc_same⟩ (fun _ _ _ => rfl), ⟨hle, rfl, rfl, rfl, Nat.le_refl _, fun _ _ _ => rfl, ?_, fun b o v hv => .inl hv⟩⟩
  · intro L e; rw [G.setLoc_same] at e; cases e; exact ⟨_, blk?_setBlk hb, trivial⟩
  · intro l' i' L b e eb o
    by_cases c : l' = l ∧ i' = i
    · obtain ⟨rfl, rfl⟩ := c; rw [G.setLoc_same] at e; cases e; cases eb
    · rw [G.setLoc_other c] at e; exact hi.sep l' i' L b e eb o
  · intro L b e eb; rw [G.setLoc_same] at e; cases e; cases eb
  · intro b hb'
    obtain ⟨l', i', L, e, eb⟩ := hb'
    by_cases c : l' = l ∧ i' = i
    · obtain ⟨rfl, rfl⟩ := c; rw [G.setLoc_same] at e; cases e; cases eb
    · rw [G.setLoc_other c] at e; exact .inl ⟨l', i', L, e, eb⟩

theorem iterD_inv {l i n : Nat} {m : D} {js : List D} {us : List Nat} (h : iterD σ l i = some (m, n, js, us)) :
    ∃ lm im es, cells? σ l i 1 = some (m :: .int .i64 (n : Nat) :: js) ∧ mapD σ m = some (lm, im, es) ∧ es.length = n ∧ us = (List.range n).filter fun j : Nat => !(js.contains (.int .i64 j)) := by
  unfold iterD at h
  split at h
  case h_2 => cases h
  rename_i m' n' js' hc
  split at h
  case h_2 => cases h
  rename_i lm im es hm
  split at h
  case isFalse => cases h
  rename_i hl
  cases h
  exact ⟨lm, im, es, by rw [hl]; exact hc, hm, rfl, rfl⟩

theorem Outs.map {S : Frame → Prop} {g g' : G} {b : Frame} {a : Act} {todo : List Item} {x : Exit} (hg : ∀ d v, d.clean = true → RelV g d v → RelV g' d v) (h : Outs S g b a todo x) : Outs S g' b a todo x := by
  cases x with
  | thr d => obtain ⟨h0, v, h1, h2⟩ := h; exact ⟨h0, v, hg _ _ h0 h1, h2⟩
  | _ => exact h

theorem mloop_sound (hm : P.follows .mixedOrders = true) (hO : OrOk P (CR0 P) O) {live : List Nat} {it : Opd} {nx ok bid : Nat} {c rest : Cmd} {e : Env} {σ : Stack} {r : R}
    (h : stepQ T O (.mloop live it nx ok bid c rest e σ) = some r) : AnsOk P (CR0 P) (.mloop live it nx ok bid c rest e σ) r := by
  cases r with
  | val => trivial
  | thr => trivial
  | ctl x e' σ' =>
  intro ann blk rid ops p n it0 qs hit hmap hc hrest base g0 w0 b a k cs g w B ha
  subst hit
  obtain ⟨rid', ops', p', heq, o0, o1, hops, h1, h2, h3, h4, h5, h6, c1, c2, c3, c4, c5⟩ := mapC_inv hmap
  cases heq
  simp only [stepQ] at h
  -- the iterator
  have har := ha.restrict live
  cases hop : opd (restrict live e) (.t it0) <;> rw [hop] at h <;> try (cases h; done)
  rename_i l i
  dsimp only at h
  cases hitd : iterD σ l i with
  | none => rw [hitd] at h; cases h
  | some y =>
  obtain ⟨m, n', js, us⟩ := y
  obtain ⟨lm, im, es, hcs, hmd, hes, hus⟩ := iterD_inv hitd
  obtain ⟨tmps, df⟩ := a
  have hiv : RelV g (.yld l i) (tmps.getD it0 Go.undef) := by
    have h0 := har.fr.strip it0
    simp only [opd] at hop
    rw [hop] at h0; exact h0
  have hblk : ∃ cs', blk? σ l i = some (.cells 1 cs') ∧ cs' = m :: .int .i64 (n' : Nat) :: js := by
    unfold cells? at hcs
    split at hcs
    case h_2 => cases hcs
    rename_i v' cs' hb
    split at hcs
    case isFalse => cases hcs
    rename_i hv
    subst hv
    cases hcs
    exact ⟨_, hb, rfl⟩
  obtain ⟨cs', hblk, rfl⟩ := hblk
  obtain ⟨bi, bm, lm', im', js', hpt, hloc, hjs, hml, hheap, hnd, hlt⟩ : ∃ bi bm lm' im', ∃ js' : List Nat, tmps.getD it0 Go.undef = .pointer (some ⟨bi, 0, none⟩) ∧ g.loc l i = some (.it bi) ∧ (m = .yld lm' im' ∧ js = js'.map (fun j : Nat => D.int .i64 j)) ∧ g.loc lm' im' = some (.mp bm) ∧
      w.heap[bi]? = some (.mapIter (some bm) n' js'.reverse.toArray n') ∧ js'.Nodup ∧ ∀ j ∈ js', j < n' := by
    generalize tmps.getD it0 Go.undef = cv at hiv
    cases hiv with
    | yld _ _ bb r1 =>
      obtain ⟨b0, hb0, hrel⟩ := ha.inv.dom _ _ _ r1
      rw [hblk] at hb0; cases hb0
      exact hrel.elim
    | mpv _ _ bb r1 =>
      obtain ⟨b0, hb0, hrel⟩ := ha.inv.dom _ _ _ r1
      rw [hblk] at hb0; cases hb0
      obtain ⟨h0, _⟩ := hrel
      cases h0
    | bdv _ _ bb L r1 r2 =>
      obtain ⟨b0, hb0, hrel⟩ := ha.inv.dom _ _ _ r1
      rw [hblk] at hb0; cases hb0
      rcases r2 with ⟨c, rfl⟩ | rfl
      · obtain ⟨h0, _⟩ := hrel
        cases h0
      · exact hrel.elim
    | itv _ _ bb L r1 r2 =>
      obtain ⟨b0, hb0, hrel⟩ := ha.inv.dom _ _ _ r1
      rw [hblk] at hb0; cases hb0
      rcases r2 with rfl | rfl
      rotate_left
      · exact hrel.elim
      obtain ⟨_, lm', im', bm, n2, js', hce, hlm, hh, hnd, hlt⟩ := hrel
      simp only [List.cons.injEq, D.int.injEq, true_and] at hce
      obtain ⟨rfl, hn2, rfl⟩ := hce
      have hn2 : n' = n2 := by omega
      subst hn2
      exact ⟨bb, bm, lm', im', js', rfl, r1, ⟨rfl, rfl⟩, hlm, hh, hnd, hlt⟩
  obtain ⟨rfl, rfl⟩ := hjs
  obtain ⟨b2, ents, clock, v2, hc2, hl2, hblk2, hheap2, hrel2, hok⟩ := mapD_rel ha.inv (.mpv lm' im' bm hml) hmd
  cases hc2
  have hlen2 : es.length = ents.toList.length := by have := hrel2.length; simpa using this
  have hck : clock = n' := by rw [hok.2]; omega
  subst hck
  have hborn : ∀ y ∈ ents.toList, y.born < clock := by
    intro y hy
    have h0 : y.born ∈ ents.toList.map (·.born) := List.mem_map.2 ⟨y, hy, rfl⟩
    rw [hok.1] at h0
    have := List.mem_range.1 h0
    omega
  -- the code
  have ho0 : ops[0]? = some o0 := by have := congrArg (·[0]?) hops; simpa using this
  have ho1 : ops[1]? = some o1 := by have := congrArg (·[1]?) hops; simpa using this
  have hsize : ops.size = 2 := by have := congrArg List.length hops; simpa using this
  have hw0 : ∀ a : Act, Region.wanted o0 (yielded ops a.tmps) = true := fun a => by simp [Region.wanted, h3]
  have hw1 : ∀ a : Act, Region.wanted o1 (yielded ops a.tmps) = true := fun a => by simp [Region.wanted, h6]
  have hnd0 : ∀ c, o0.op ≠ .defer c := by intro c hc; rw [h1] at hc; cases hc
  have hnd1 : ∀ c, o1.op ≠ .defer c := by intro c hc; rw [h4] at hc; cases hc
  -- the region, whatever 'next' gives
  have region : ∀ (bv : Bool) (vs : Array Value) (w1 : World) (g1 : G) (σ1 : Stack), (execOp (Act.mk tmps df).eval o0).run P w = .ok (.value (.tuple (#[.bool bv] ++ vs))) w1 → Ev g w g1 w1 → Inv (CR0 P) base g1 σ1 w1 → Goes σ σ1 →
      ∃ a1, Steps P (lone (b.atR ⟨tmps, df⟩ (.code (.seq (.region rid ops false) p) :: .inLoop (.seq (.region rid ops false) p) :: .inBlock bid :: (qs.toList.map Item.code ++ k))) cs w)
        (lone (b.atR a1 (.code p :: .inLoop (.seq (.region rid ops false) p) :: .inBlock bid :: (qs.toList.map Item.code ++ k))) cs w1) ∧ At (CR0 P) base ann.ownv g0 w0 n b g1 w1 B ((ok, .bool bv) :: (nx, .undef) :: restrict live e) σ1 a1 := by
    intro bv vs w1 g1 σ1 hrun he hi hgo
    have hts : tmps.size = n := ha.size
    have ha1 : At (CR0 P) base ann.ownv g0 w0 n b g1 w1 B ((nx, .undef) :: restrict live e) σ1 ((Act.mk tmps df).put (some nx) (.tuple (#[.bool bv] ++ vs))) := by
      refine har.go he hi hgo ?_ put_size put_defers
      exact (har.fr.ev he).put (dst := some nx) (d := .undef) (RelT.of (.undef _)) (fun t ht => by cases ht; exact c4) (fun t ht => by cases ht; rw [hts]; exact c1)
    have hget : ((Act.mk tmps df).put (some nx) (.tuple (#[.bool bv] ++ vs))).eval (.tmp nx) = .tuple (#[.bool bv] ++ vs) := by
      simp [Act.eval, Act.put, hts, c1]
    have hrun1 : (execOp ((Act.mk tmps df).put (some nx) (.tuple (#[.bool bv] ++ vs))).eval o1).run P w1 = .ok (.value (.bool bv)) w1 := by
      simp only [execOp, h4, hget]
      have hz : (#[Value.bool bv] ++ vs)[0]? = some (.bool bv) := by
        rw [Array.getElem?_append_left (by simp)]; rfl
      simp [Instr.extract, hz]
    have ha2 : At (CR0 P) base ann.ownv g0 w0 n b g1 w1 B ((ok, .bool bv) :: (nx, .undef) :: restrict live e) σ1 (((Act.mk tmps df).put (some nx) (.tuple (#[.bool bv] ++ vs))).put (some ok) (.bool bv)) := by
      refine ha1.go (Ev.refl g1 w1) hi (.refl _) ?_ put_size put_defers
      exact ha1.fr.put (dst := some ok) (d := .bool bv) (RelT.of (.bool bv)) (fun t ht => by cases ht; exact c5) (fun t ht => by cases ht; rw [ha1.size]; exact c2)
    refine ⟨_, .head stepR_seq (.head stepR_region ?_), ha2⟩
    rw [hsize]
    have s0 := step_value (P := P) (b := b) (a := ⟨tmps, df⟩) (k := .code p :: .inLoop (.seq (.region rid ops false) p) :: .inBlock bid :: (qs.toList.map Item.code ++ k)) (cs := cs) (rest := [1]) ho0 (hw0 _) hnd0 hrun rfl
    rw [h2] at s0
    have s1 := step_value (P := P) (b := b) (k := .code p :: .inLoop (.seq (.region rid ops false) p) :: .inBlock bid :: (qs.toList.map Item.code ++ k)) (cs := cs) (rest := []) ho1 (hw1 _) hnd1 hrun1 rfl
    rw [h5] at s1
    exact .head s0 (.head s1 (.one (stepR_region_end (ops := ops))))
  have hnext : ∀ (w : World), (Instr.next (.pointer (some ⟨bi, 0, none⟩)) false o0.type).run P w = (Instr.next (.pointer (some ⟨bi, 0, none⟩)) false o0.type).run P w := fun _ => rfl
  have hev0 : (Act.mk tmps df).eval (.tmp it0) = .pointer (some ⟨bi, 0, none⟩) := hpt
  -- behind the loop's end
  have finish : ∀ (y : Exit × Env × Stack) (g1 : G) (w1 : World) (B1 : Nat → Nat) (a1 : Act) (t1 : List Item) (σm : Stack) (wm : World) (am : Act) (gm : G), mend O l i bid rest (some y) = some (.ctl x e' σ') → g.le g1 → Goes σ y.2.2 →
      Steps P (lone (b.atR ⟨tmps, df⟩ (.code (.seq (.region rid ops false) p) :: .inLoop (.seq (.region rid ops false) p) :: .inBlock bid :: (qs.toList.map Item.code ++ k))) cs w)
        (lone (b.atR am (.code p :: .inLoop (.seq (.region rid ops false) p) :: .inBlock bid :: (qs.toList.map Item.code ++ k))) cs wm) →
      Outs (fun fr => Steps P (lone (b.atR am (.code p :: .inLoop (.seq (.region rid ops false) p) :: .inBlock bid :: (qs.toList.map Item.code ++ k))) cs wm) (lone fr cs w1)) g1 b a1 t1 y.1 →
      At (CR0 P) base ann.ownv g0 w0 n b g1 w1 B1 y.2.1 y.2.2 a1 → Lands (.inLoop (.seq (.region rid ops false) p) :: .inBlock bid :: (qs.toList.map Item.code ++ k)) y.1 t1 →
      ∃ g' w' B' a' todo, Outs (fun fr => Steps P (lone (b.atR ⟨tmps, df⟩ (.code (.seq (.region rid ops false) p) :: .inLoop (.seq (.region rid ops false) p) :: .inBlock bid :: (qs.toList.map Item.code ++ k))) cs w) (lone fr cs w')) g' b a' todo x ∧
        At (CR0 P) base ann.ownv g0 w0 n b g' w' B' e' σ' a' ∧ g.le g' ∧ Lands k x todo ∧ Goes σ σ' := by
    intro y g1 w1 B1 a1 t1 σm wm am gm hme hle hgo s1 s2 hA hLd
    obtain ⟨y1, e1, σ1⟩ := y
    -- the iterator's place
    obtain ⟨L1, hL1, hle1⟩ := hle.loc l i _ hloc
    have hLd1 : L1 = .it bi ∨ L1 = .dead := hle1
    obtain ⟨bb, hbb, _⟩ := hA.inv.dom l i _ hL1
    obtain ⟨i2, e2⟩ := hA.inv.endIter hL1 hLd1 hbb
    have hgo2 : Goes σ1 (setBlk σ1 l i .dead) := Goes.set fun _ => trivial
    have hA2 : At (CR0 P) base ann.ownv g0 w0 n b (g1.setLoc l i .dead) w1 B1 e1 (setBlk σ1 l i .dead) a1 := hA.go e2 i2 hgo2 (hA.fr.ev e2) rfl rfl
    cases y1 with
    | normal => simp [mend] at hme
    | thr d => simp [mend] at hme
    | ret =>
      simp only [mend, Option.some.injEq, R.ctl.injEq] at hme
      obtain ⟨rfl, rfl, rfl⟩ := hme
      obtain ⟨k', rfl⟩ := hLd
      exact ⟨_, w1, B1, a1, _, Steps.trans s1 s2, hA2, hle.trans' e2.le, ⟨k', rfl⟩, hgo.trans hgo2⟩
    | exit j =>
      obtain ⟨k', rfl, hk'⟩ := hLd
      simp only [mend] at hme
      split at hme
      · rename_i hj
        subst hj
        simp only [Option.map_eq_some_iff, Prod.exists, R.ctl.injEq] at hme
        obtain ⟨x', e'', σ'', hac, rfl, rfl, rfl⟩ := hme
        have hout : Steps P (lone (b.atR ⟨tmps, df⟩ (.code (.seq (.region rid ops false) p) :: .inLoop (.seq (.region rid ops false) p) :: .inBlock j :: (qs.toList.map Item.code ++ k))) cs w) (lone (b.atR a1 (qs.toList.map Item.code ++ k)) cs w1) :=
          Steps.trans s1 (Steps.trans s2 (.one (stepR_exit (by rw [hk']; simp [exitTo]))))
        cases qs with
        | none =>
          obtain rfl : rest = .nop := hrest
          simp only [acode, Option.some.injEq, Prod.mk.injEq] at hac
          obtain ⟨rfl, rfl, rfl⟩ := hac
          exact ⟨_, w1, B1, a1, k, hout, hA2, hle.trans' e2.le, rfl, hgo.trans hgo2⟩
        | some q =>
          obtain ⟨g3, w3, B3, a3, t3, k1, k2, k3, k4, k5⟩ := code_ok (b := b) (cs := cs) (k := k) hm hO q hrest hac hA2
          exact ⟨g3, w3, B3, a3, t3, k1.imp fun _ hs => Steps.trans hout hs, k2, (hle.trans' e2.le).trans' k3, k4, (hgo.trans hgo2).trans k5⟩
      · rename_i hj
        simp only [Option.some.injEq, R.ctl.injEq] at hme
        obtain ⟨rfl, rfl, rfl⟩ := hme
        refine ⟨_, w1, B1, a1, _, Steps.trans s1 s2, hA2, hle.trans' e2.le, ⟨k', rfl, ?_⟩, hgo.trans hgo2⟩
        rw [hk']
        simp only [exitTo]
        rw [if_neg (by simpa using Ne.symm hj)]
        cases qs <;> rfl
  -- what the machine picks
  rw [hitd] at h
  rcases run_next_at (P := P) w o0.type bi bm clock clock js'.reverse.toArray ents clock hheap hheap2 hborn (Nat.le_refl _) with ⟨hz, hrun⟩ | ⟨en, hen, w1, hw1', hrun⟩
  · -- none is left
    have hus0 : us = [] := by
      rw [hus, List.filter_eq_nil_iff]
      intro j hj
      have hjlt := List.mem_range.1 hj
      have h0 : j ∈ ents.toList.map (·.born) := by rw [hok.1]; exact List.mem_range.2 (by omega)
      obtain ⟨y, hy, rfl⟩ := List.mem_map.1 h0
      have hnone : leftOf ents js'.reverse.toArray = #[] := Array.eq_empty_of_size_eq_zero hz
      unfold leftOf at hnone
      rw [Array.filter_eq_empty_iff] at hnone
      have h1 := hnone y (by simpa using hy)
      simp only [Bool.not_eq_true', Bool.not_eq_false, List.contains_toArray, List.contains_eq_mem, List.mem_reverse, decide_eq_true_eq, Bool.not_eq_true] at h1 ⊢
      simp at h1 ⊢
      exact ⟨_, h1, rfl⟩
    subst hus0
    dsimp only at h
    obtain ⟨a1, s1, hA1⟩ := region false #[] w g σ (by simp only [execOp, h1, hev0, Sem.run_bind, hrun, Result.andThen_ok, Sem.run_pure]; rfl) (Ev.refl g w) ha.inv (.refl σ)
    cases hac : acode O c ((ok, .bool false) :: (nx, .undef) :: restrict live e) σ with
    | none => rw [hac] at h; simp [mend] at h
    | some y =>
      rw [hac] at h
      obtain ⟨y1, ey, σy⟩ := y
      obtain ⟨g2, w2, B2, a2, t2, k1, k2, k3, k4, k5⟩ := code_ok (b := b) (cs := cs) (k := .inLoop (.seq (.region rid ops false) p) :: .inBlock bid :: (qs.toList.map Item.code ++ k)) hm hO p hc hac hA1
      exact finish (y1, ey, σy) g2 w2 B2 a2 t2 σ w a1 g h k3 k5 s1 k1 k2 k4
  · -- one that is left
    have henm : en ∈ ents.toList ∧ en.born ∉ js' := by
      unfold leftOf at hen
      simp at hen
      simpa using hen
    have hbn : en.born < clock := hborn en henm.1
    have hmem : en.born ∈ us := by
      rw [hus]
      simp only [List.mem_filter, List.mem_range, Bool.not_eq_true', hbn, true_and]
      simp
      intro x hx hxe
      have : x = en.born := by omega
      subst this
      exact henm.2 hx
    have hans : mnext O live (.t it0) l i nx ok bid c rest (acode O c ((ok, .bool true) :: (nx, .undef) :: restrict live e) (setBlk σ l i (.cells 1 (.yld lm' im' :: .int .i64 (clock : Nat) :: .int .i64 (en.born : Nat) :: js'.map (fun j : Nat => D.int .i64 j))))) = some (.ctl x e' σ') := by
      split at h
      · rename_i hsm
        cases hsm
        simp at hmem
      · rename_i hsm
        cases hsm
        exact agree_all h en.born hmem
      · rename_i hsm; cases hsm
    obtain ⟨i1, e1⟩ := ha.inv.setIter (js := en.born :: js') hloc hblk hml (List.nodup_cons.2 ⟨henm.2, hnd⟩) (by
      intro j hj
      rcases List.mem_cons.1 hj with rfl | hj
      · exact hbn
      · exact hlt j hj) hw1'
    have hgo1 : Goes σ (setBlk σ l i (.cells 1 (.yld lm' im' :: .int .i64 (clock : Nat) :: .int .i64 (en.born : Nat) :: js'.map (fun j : Nat => D.int .i64 j)))) := by
      refine Goes.mk setBlk_length fun hS => hS.set fun hl => ?_
      have h0 := hS l i _ hblk hl
      simp only [Blk.low, D.lowL, D.low, Bool.and_eq_true, Bool.true_and] at h0 ⊢
      exact h0
    have hpush : js'.reverse.toArray.push en.born = (en.born :: js').reverse.toArray := by simp
    rw [hpush] at hrun
    obtain ⟨a1, s1, hA1⟩ := region true #[en.key, en.val] _ _ _ (by simp only [execOp, h1, hev0, Sem.run_bind, hrun, Result.andThen_ok, Sem.run_pure]; rfl) e1 i1 hgo1
    simp only [List.map_cons] at hA1
    cases hac : acode O c ((ok, .bool true) :: (nx, .undef) :: restrict live e) (setBlk σ l i (.cells 1 (.yld lm' im' :: .int .i64 (clock : Nat) :: .int .i64 (en.born : Nat) :: js'.map (fun j : Nat => D.int .i64 j)))) with
    | none => rw [hac] at hans; simp [mnext, mend] at hans
    | some y =>
      rw [hac] at hans
      obtain ⟨y1, ey, σy⟩ := y
      obtain ⟨g2, w2, B2, a2, t2, k1, k2, k3, k4, k5⟩ := code_ok (b := b) (cs := cs) (k := .inLoop (.seq (.region rid ops false) p) :: .inBlock bid :: (qs.toList.map Item.code ++ k)) hm hO p hc hac hA1
      cases y1 with
      | normal =>
        simp only [mnext] at hans
        obtain rfl := k4
        obtain ⟨g3, w3, B3, a3, t3, m1, m2, m3, m4, m5⟩ := hO _ _ hans ann blk rid ops p n it0 qs rfl hmap hc hrest base g0 w0 b a2 k cs g2 w2 B2 k2
        exact ⟨g3, w3, B3, a3, t3, m1.imp fun _ hs => Steps.trans s1 (Steps.trans k1 (.head stepR_inLoop hs)), m2, (e1.le.trans' k3).trans' m3, m4, (hgo1.trans k5).trans m5⟩
      | exit j => exact finish (.exit j, ey, σy) g2 w2 B2 a2 t2 σ _ a1 g hans (e1.le.trans' k3) (hgo1.trans k5) s1 k1 k2 k4
      | ret => exact finish (.ret, ey, σy) g2 w2 B2 a2 t2 σ _ a1 g hans (e1.le.trans' k3) (hgo1.trans k5) s1 k1 k2 k4
      | thr d => simp [mnext, mend] at hans
end
end Go.Abs

/-
  Loops and rounds; what is answered at last is sound.
-/
set_option linter.unusedVariables false
set_option linter.unusedSimpArgs false
namespace Go.Abs
open Go

theorem Ent.cut {fb : Nat} {V : List Nat} {g : G} {w : World} {B : Nat → Nat} {e0 : Env} {tmps : Array Value} {p : Nat × D} {n : Nat} (h : Ent fb V g w B e0 tmps p) (hl : p.2.low n = true) : Ent fb V (g.cut n) w B e0 tmps p := by
  obtain ⟨t, d⟩ := p
  unfold Ent at h ⊢
  dsimp only at h ⊢ hl
  split
  · rename_i s cs
    obtain ⟨h1, h2, h3, h4⟩ := h
    obtain ⟨c, el, k1, k2, k3⟩ := h4.blk
    exact ⟨h1, h2, h3, h4.lo, fun hh => h4.free (G.cut_has hh), h4.noimm, c, el, k1, k2.cut hl, k3⟩
  · rename_i hd
    cases d with
    | own s cs => exact absurd rfl (hd s cs)
    | _ => exact RelV.cut h hl

theorem cut_le {g g' : G} {n : Nat} (h : g.le g') (hn : ∀ l i L, g.loc l i = some L → l < n) : g.le (g'.cut n) :=
  ⟨fun l i L e => by rw [G.cut_loc (hn l i L e)]; exact h.loc l i L e, h.imm⟩

section
variable {P : Program} {T : Tbl} {O : Oracle}

theorem loop_sound (hm : P.follows .mixedOrders = true) (hO : OrOk P (CR0 P) O) {live : List Nat} {seg : Bool} {c : Cmd} {env : Env} {σ : Stack} {r : R}
    (h : stepQ T O (.loop live seg c env σ) = some r) : AnsOk P (CR0 P) (.loop live seg c env σ) r := by
  simp only [stepQ] at h
  cases hac : acode O c (restrict live env) (if seg then [] :: σ else σ) with
  | none => simp [hac] at h
  | some y =>
  obtain ⟨x, e1, σ1⟩ := y
  rw [hac] at h
  dsimp only at h
  -- one turn
  have turn : ∀ e2 σ2, (if seg then (let r := frzE (σ.length - 1) (restrict (liveAt live x e1) e1) σ1; (r.1, r.2.tail)) else (e1, σ1)) = (e2, σ2) →
      ∀ (ann : Ann) blk code n, codeC P ann n blk code = some c → ∀ base g0 w0 b a k cs g w B, At (CR0 P) base ann.ownv g0 w0 n b g w B env σ a →
      Ends P ann n base g0 w0 b cs g w a (.code code :: .inLoop code :: k) (.inLoop code :: k) σ x e2 σ2 := by
    intro e2 σ2 he ann blk code n hc base g0 w0 b a k cs g w B ha
    cases seg with
    | false =>
      simp only [Bool.false_eq_true, if_false, Prod.mk.injEq] at he hac
      obtain ⟨rfl, rfl⟩ := he
      exact code_ok hm hO code hc hac (ha.restrict live)
    | true =>
      simp only [if_true] at he hac
      have ha1 : At (CR0 P) base ann.ownv g0 w0 n b g w B (restrict live env) ([] :: σ) a :=
        { ha.restrict live with inv := ha.inv.push, low := ha.low.push ha.inv, pos := by simp }
      obtain ⟨g1, w1, B1, a1, todo, k1, k2, k3, k4, k5⟩ := code_ok (cs := cs) (k := .inLoop code :: k) hm hO code hc hac ha1
      have hents := k2.fr.ents (liveAt live x e1)
      obtain ⟨g2, i2, ev2, hents2⟩ := frzE_ok (CR := CR0 P) (base := base) (σ.length - 1) _ σ1 g1 k2.inv hents
      obtain ⟨hlow, hgo⟩ := frzE_spec (σ.length - 1) (restrict (liveAt live x e1) e1) σ1
      cases hfz : frzE (σ.length - 1) (restrict (liveAt live x e1) e1) σ1 with
      | mk e3 σ3 =>
      rw [hfz] at he i2 hents2 hlow hgo
      simp only [Prod.mk.injEq] at he
      obtain ⟨rfl, rfl⟩ := he
      have hl3 : LowS σ3 := hgo.low k2.low
      have hlen3 : σ3.length = σ.length + 1 := by
        have h1 := hgo.len
        have h2 := k5.len
        simp at h1 h2; omega
      cases σ3 with
      | nil => simp at hlen3
      | cons s σ2 =>
      have hlen2 : σ2.length = σ.length := by simpa using hlen3
      have hpos := ha.pos
      rw [show σ.length - 1 + 1 = σ2.length from by omega] at hlow
      have hlvl : ∀ l i L, g.loc l i = some L → l < σ2.length := fun l i L h => by rw [hlen2]; exact ha.inv.lvl h
      have hlvl0 : ∀ l i L, g0.loc l i = some L → l < σ2.length := fun l i L h => by
        obtain ⟨L', h', _⟩ := ha.ev.le.loc l i L h
        exact hlvl l i L' h'
      obtain ⟨i3, l3⟩ := i2.pop hl3
      obtain ⟨rs, hmk⟩ := k2.marks
      have hmk2 := hmk.ev ev2
      have hle : g.le (g2.cut σ2.length) := cut_le (k3.trans' ev2.le) hlvl
      refine ⟨g2.cut σ2.length, w1, B1, a1, todo, k1.map fun d v hcl hv => (hv.mono ev2.le).cut (clean_low hcl), ⟨Ent.fr k2.fr fun p hp => (hents2 p hp).cut (hlow p hp), (k2.ev.trans ev2).cut hlvl0, i3, l3, by simpa [hlen2] using hpos, k2.size, ⟨rs, hmk2.eq, hmk2.nodup, fun r hr => ?_⟩, round_mono ha.round hle⟩, hle, k4, ⟨hlen2, fun _ => l3⟩⟩
      have := hmk2.all r hr
      exact ⟨this.lo, fun hh => this.free (G.cut_has hh), this.noimm, this.blk⟩
  cases hfin : (if seg then (let r := frzE (σ.length - 1) (restrict (liveAt live x e1) e1) σ1; (r.1, r.2.tail)) else (e1, σ1)) with
  | mk e2 σ2 =>
  have turn' := turn e2 σ2 hfin
  rw [hfin] at h
  dsimp only at h
  cases x with
  | normal =>
    dsimp only at h
    have hans := hO _ _ h
    cases r with
    | val => trivial
    | thr => trivial
    | ctl x e' σ' =>
      obtain ⟨hx, hloop⟩ := hans
      refine ⟨hx, fun ann blk code n hc base g0 w0 b a k cs g w B ha => ?_⟩
      obtain ⟨g1, w1, B1, a1, todo, k1, k2, k3, k4, k5⟩ := turn' ann blk code n hc base g0 w0 b a k cs g w B ha
      obtain rfl := k4
      obtain ⟨g2, w2, B2, a2, todo2, m1, m2, m3, m4, m5⟩ := hloop ann blk code n hc base g0 w0 b a1 k cs g1 w1 B1 k2
      exact ⟨g2, w2, B2, a2, todo2, m1.imp fun _ hs => Steps.trans k1 (.head stepR_inLoop hs), m2, k3.trans' m3, m4, k5.trans m5⟩
  | exit id =>
    cases h
    refine ⟨by simp, fun ann blk code n hc base g0 w0 b a k cs g w B ha => ?_⟩
    obtain ⟨g1, w1, B1, a1, todo, k1, k2, k3, k4, k5⟩ := turn' ann blk code n hc base g0 w0 b a k cs g w B ha
    exact ⟨g1, w1, B1, a1, todo, k1, k2, k3, k4.skip (fun _ => by simp) (by simp), k5⟩
  | ret =>
    cases h
    refine ⟨by simp, fun ann blk code n hc base g0 w0 b a k cs g w B ha => ?_⟩
    obtain ⟨g1, w1, B1, a1, todo, k1, k2, k3, k4, k5⟩ := turn' ann blk code n hc base g0 w0 b a k cs g w B ha
    exact ⟨g1, w1, B1, a1, todo, k1, k2, k3, k4.skip (fun _ => by simp) (by simp), k5⟩
  | thr d =>
    cases h
    refine ⟨by simp, fun ann blk code n hc base g0 w0 b a k cs g w B ha => ?_⟩
    obtain ⟨g1, w1, B1, a1, todo, k1, k2, k3, k4, k5⟩ := turn' ann blk code n hc base g0 w0 b a k cs g w B ha
    exact ⟨g1, w1, B1, a1, todo, k1, k2, k3, trivial, k5⟩

theorem putAll_rel {g : G} : ∀ (ts : List Nat) (ds : List D) (vs : List Value) (e : Env) (tmps : Array Value), RelL g ds vs → ds.length = ts.length → (∀ t ∈ ts, t < tmps.size) → RelEnv g e tmps →
    RelEnv g (putAll ts ds e) ((ts.zip vs).foldl (fun tmps (t, a) => tmps.setIfInBounds t a) tmps) ∧ ((ts.zip vs).foldl (fun tmps (t, a) => tmps.setIfInBounds t a) tmps).size = tmps.size
  | [], ds, vs, e, tmps, hr, hl, hs, he => by
    have : ds = [] := by simpa using hl
    subst this
    exact ⟨he, rfl⟩
  | t :: ts, [], vs, e, tmps, hr, hl, hs, he => by simp at hl
  | t :: ts, d :: ds, vs, e, tmps, hr, hl, hs, he => by
    cases hr with
    | cons _ c _ cs h1 h2 =>
      have he2 : RelEnv g ((t, d) :: e) (tmps.setIfInBounds t c) := fun u => by
        simp only [get]
        rw [Array.getD_eq_getD_getElem?]
        by_cases hu : t = u
        · subst hu
          rw [if_pos rfl]
          simpa [hs t (by simp)] using h1
        · rw [if_neg hu, Array.getElem?_setIfInBounds_ne hu, ← Array.getD_eq_getD_getElem?]; exact he u
      obtain ⟨k1, k2⟩ := putAll_rel ts ds cs ((t, d) :: e) (tmps.setIfInBounds t c) h2 (by simpa using hl) (fun u hu => by simpa using hs u (by simp [hu])) he2
      exact ⟨k1, by simpa using k2⟩

theorem RelEnv.fr {g : G} {w : World} {e : Env} {tmps : Array Value} {fb : Nat} {V : List Nat} {B : Nat → Nat} (h : RelEnv g e tmps) : Fr fb V g w B e tmps := by
  have hno : ∀ t s cs, get e t ≠ .own s cs := fun t s cs => not_own (h t) s cs
  refine ⟨fun t => ?_, fun t s cs ht => absurd ht (hno t s cs), fun t t' s s' cs cs' ht => absurd ht (hno t s cs)⟩
  have := h t
  cases hd : get e t with
  | own s cs => trivial
  | vr => rw [hd] at this; cases this
  | emp => rw [hd] at this; cases this
  | _ => rw [hd] at this; exact this

theorem Outs.steps {S : Frame → Prop} {g : G} {b : Frame} {a : Act} {todo : List Item} {x : Exit} (hx : ∀ d, x ≠ .thr d) (h : Outs S g b a todo x) : S (b.atR a todo) := by
  cases x with
  | thr d => exact absurd rfl (hx d)
  | _ => exact h

theorem round_sound (hm : P.follows .mixedOrders = true) (hO : OrOk P (CR0 P) O) {l i : Nat} {args : List D} {σ : Stack} {r : R}
    (h : stepQ T O (.round l i args σ) = some r) : AnsOk P (CR0 P) (.round l i args σ) r := by
  simp only [stepQ] at h
  split at h
  case h_2 => cases h
  rename_i lp hlp
  split at h
  case isFalse => cases h
  rename_i hlen
  split at h
  case h_2 => cases h
  rename_i e1 σ1 hasg
  split at h
  case h_2 => cases h
  rename_i lp1 hlp1
  split at h
  case isFalse => cases h
  rename_i hst
  split at h
  case h_2 => cases h
  rename_i x e2 s σ2 hbody
  split at h
  case h_2 => cases h
  rename_i lp2 hlp2
  have hxt : ∀ d, x ≠ .thr d := by
    intro d hd
    subst hd
    cases h
  -- the walk of a round, up to its end
  have walk : ∀ base g w (vs : Array Value) b, Inv (CR0 P) base g σ w → LowS σ → 0 < σ.length → RelL g args vs.toList → RelV g (.yld l i) (.func (.yield b) #[] #[]) →
      ∃ f tmps asg body, (Instr.yield b vs).run P w = .ok (.round b f tmps asg body) w ∧ ∀ cs, ∃ fb a' todo g' w' r2, Steps P (lone (Frame.round b f tmps asg body .normal) cs w) (lone (Frame.atR fb a' todo) cs w') ∧
        fb.roundOf = some b ∧ fb.kind = .normal ∧ Lands [] x todo ∧ Ev g w g' w' ∧ Inv (CR0 P) base g' σ2 w' ∧ LowS σ2 ∧ σ2.length = σ.length ∧ g'.loc l i = some (.lp b) ∧ w'.heap[b]? = some (.loop r2) ∧ RelLoop (CR0 P) g' lp2 r2 := by
    intro base g w vs b hi hl hp hr hy
    cases hy with
    | yld _ _ _ hL =>
    obtain ⟨b0, hb0, hrel⟩ := hi.dom l i _ hL
    rw [hlp] at hb0; cases hb0
    obtain ⟨r, hheap, hR⟩ := hrel
    have hpar : r.params.toList = lp.params := hR.params
    have hsize : vs.size = r.params.size := by
      have h1 := hr.length
      have h2 : r.params.toList.length = lp.params.length := by rw [hpar]
      simp at h1 h2; omega
    have hyield := run_yield (P := P) hheap hsize
    have hfold : (r.params.zip vs).foldl (fun tmps (t, a) => tmps.setIfInBounds t a) r.tmps = (lp.params.zip vs.toList).foldl (fun tmps (t, a) => tmps.setIfInBounds t a) r.tmps := by
      rw [← Array.foldl_toList, Array.toList_zip, hpar]
    rw [hfold] at hyield
    obtain ⟨hrelE, hsizeE⟩ := putAll_rel lp.params args vs.toList lp.env r.tmps hr hlen hR.small hR.env
    obtain ⟨ann, blk, hboth⟩ : ∃ ann blk, codeC P ann r.tmps.size blk _ = some _ := hR.both
    simp only [codeC] at hboth
    split at hboth
    case h_2 => cases hboth
    rename_i C' A' B' hC hA hB
    cases hboth
    refine ⟨_, _, _, _, hyield, fun cs => ?_⟩
    generalize htm : (lp.params.zip vs.toList).foldl (fun tmps (t, a) => tmps.setIfInBounds t a) r.tmps = tm at hrelE hsizeE
    let fb : Frame := Frame.round b r.fn tm r.assign r.body .normal
    have hfr : Frame.round b r.fn tm r.assign r.body .normal = fb.atR ⟨tm, []⟩ [.code r.assign, .beginRound, .code r.body] := rfl
    have ha : At (CR0 P) base ann.ownv g w r.tmps.size fb g w (fun _ => 0) (putAll lp.params args lp.env) ([] :: σ) ⟨tm, []⟩ :=
      ⟨hrelE.fr, Ev.refl g w, hi.push, hl.push hi, by simp, hsizeE, ⟨[], rfl, List.nodup_nil, by simp [colls, fb, Frame.round]⟩, .inr ⟨b, l, i, rfl, hL⟩⟩
    obtain ⟨g1, w1, B1, a1, t1, k1, k2, k3, k4, k5⟩ := code_ok (b := fb) (cs := cs) (k := [.beginRound, .code r.body]) hm hO r.assign hA hasg ha
    obtain rfl := k4
    -- the record is busy
    obtain ⟨L1, hL1, hle1⟩ := k3.loc l i _ hL
    rw [Loc.lp_le hle1] at hL1
    obtain ⟨b1, hb1, hrel1⟩ := k2.inv.dom l i _ hL1
    rw [hlp1] at hb1; cases hb1
    obtain ⟨r1, hheap1, hR1⟩ := hrel1
    have hready : r1.state = .ready := by rw [hR1.state, hst]; rfl
    have hbegin := run_beginRound (P := P) hheap1 hready
    obtain ⟨i2, ev2⟩ := k2.inv.setLoop (r := { r1 with state := .busy }) (lp := { lp1 with state := 1 }) hL1 hlp1 ⟨rfl, hR1.pend, hR1.env, hR1.params, hR1.small, hR1.both⟩
    have hgo2 : Goes σ1 (setBlk σ1 l i (.loop { lp1 with state := 1 })) := ⟨setBlk_length, fun h => h.set fun hl => (h l i _ hlp1 hl : Blk.low (l + 1) (.loop lp1))⟩
    have ha2 := k2.go ev2 i2 hgo2 (k2.fr.ev ev2) rfl rfl
    obtain ⟨g3, w3, B3, a3, t3, m1, m2, m3, m4, m5⟩ := code_ok (b := fb) (cs := cs) (k := []) hm hO r.body hB hbody ha2
    have hlen2 : σ2.length = σ.length := by
      have h1 := m5.len
      have h2 := hgo2.len
      have h3 := k5.len
      simp at h1 h2 h3; omega
    have hlvl : ∀ l i L, g.loc l i = some L → l < σ2.length := fun l i L h => by rw [hlen2]; exact hi.lvl h
    obtain ⟨i3, l3⟩ := m2.inv.pop m2.low
    obtain ⟨L3, hL3, hle3⟩ := (k3.trans' (ev2.le.trans' m3)).loc l i _ hL
    rw [Loc.lp_le hle3] at hL3
    have hL3' : (g3.cut σ2.length).loc l i = some (.lp b) := by rw [G.cut_loc (hlvl l i _ hL)]; exact hL3
    obtain ⟨b3, hb3, hrel3⟩ := i3.dom l i _ hL3'
    rw [hlp2] at hb3; cases hb3
    obtain ⟨r3, hheap3, hR3⟩ := hrel3
    refine ⟨fb, a3, t3, g3.cut σ2.length, w3, r3, ?_, rfl, rfl, m4, m2.ev.cut hlvl, i3, l3, hlen2, hL3', hheap3, hR3⟩
    rw [hfr]
    exact Steps.trans k1 (.head (stepR_beginRound rfl hbegin) (m1.steps hxt))
  -- its end
  have fin : ∀ (bv : Bool) (st : Nat) (pd : Option Exit) (jump : Option Code), pendOf pd = some jump → bv = jump.isNone → st = (if jump.isNone then 0 else 2) →
      (∀ (fb : Frame) (a' : Act) (todo : List Item) (c : Frame) (cs : List Frame) (w' w2 : World) (b : Nat), fb.roundOf = some b → fb.kind = .normal → Lands [] x todo → (Instr.endRound b jump).run P w' = .ok (.bool bv) w2 →
        step P (lone (Frame.atR fb a' todo) (c :: cs) w') = .next (lone (c.finish (.bool bv)) cs w2)) →
      RoundOk P (CR0 P) l i args σ (.bool bv) (setBlk σ2 l i (.loop { lp2 with state := st, pend := pd })) := by
    intro bv st pd jump hpd hbv hstv hend
    refine ⟨⟨lp, hlp⟩, fun base g w vs b hi hl hp hr hy => ?_⟩
    obtain ⟨f, tmps, asg, body, hyield, hwalk⟩ := walk base g w vs b hi hl hp hr hy
    refine ⟨?_, f, tmps, asg, body, hyield, fun c cs => ?_⟩
    · obtain ⟨_, _, _, _, _, _, _, _, _, _, _, _, h7, h8, _⟩ := hwalk []
      exact ⟨setBlk_length.trans h8, fun _ => h7.set fun hl => (h7 l i _ hlp2 hl : Blk.low (l + 1) (.loop lp2))⟩
    · obtain ⟨fb, a', todo, g', w', r2, k1, k2, k3, k4, k5, k6, k7, k8, k9, k10, k11⟩ := hwalk (c :: cs)
      have hrun := run_endRound (P := P) jump k10
      rw [← hbv] at hrun
      have hR2 : RelLoop (CR0 P) g' { lp2 with state := st, pend := pd } { r2 with state := if jump.isNone then .ready else .done, pending := jump } :=
        ⟨by rw [hstv]; cases jump <;> rfl, hpd, k11.env, k11.params, k11.small, k11.both⟩
      obtain ⟨i4, ev4⟩ := k6.setLoop k9 hlp2 hR2
      exact ⟨.bool bv, g', _, .trans k1 (.one (hend fb a' todo c cs w' _ b k2 k3 k4 (by rw [hbv]; rw [hbv] at hrun; exact hrun))), k5.trans ev4, i4, .bool bv⟩
  cases x with
  | normal =>
    dsimp only at h
    cases h
    exact fin true 0 none none rfl rfl rfl fun fb a' todo c cs w' w2 b h1 h2 h3 h4 => by
      obtain rfl := h3
      exact stepR_round_end h1 h2 h4
  | exit id =>
    dsimp only at h
    cases h
    exact fin false 2 (some (.exit id)) (some (.exit id)) rfl rfl rfl fun fb a' todo c cs w' w2 b h1 h2 h3 h4 => by
      obtain ⟨k', rfl, hk⟩ := h3
      exact stepR_round_exit h1 h2 (by rw [hk]; rfl) h4
  | ret =>
    dsimp only at h
    cases h
    exact fin false 2 (some .ret) (some .ret) rfl rfl rfl fun fb a' todo c cs w' w2 b h1 h2 h3 h4 => by
      obtain ⟨k', rfl⟩ := h3
      exact stepR_round_ret h1 h2 h4
  | thr d => exact absurd rfl (hxt d)

theorem stepQ_sound (hT : TOk P T) (hm : P.follows .mixedOrders = true) (hO : OrOk P (CR0 P) O) : OrOk P (CR0 P) (stepQ T O) := fun q r h => by
  cases q with
  | call kp f args σ => exact call_sound hT hm hO h
  | loop live seg c e σ => exact loop_sound hm hO h
  | round l i args σ => exact round_sound hm hO h
  | mloop live it nx ok b c rest e σ => exact mloop_sound hm hO h
  | dcall f args th σ => exact dcall_sound hT hm hO h

theorem it_sound (hT : TOk P T) (hm : P.follows .mixedOrders = true) : ∀ n, OrOk P (CR0 P) (it T n)
  | 0 => fun q r h => by simp [it] at h
  | n + 1 => stepQ_sound hT hm (it_sound hT hm n)

theorem lim_sound (hT : TOk P T) (hm : P.follows .mixedOrders = true) : OrOk P (CR0 P) (lim T) := fun q r h => by
  unfold lim at h
  split at h
  · rename_i hex
    cases h
    exact it_sound hT hm _ _ _ hex.choose_spec.choose_spec
  · cases h
end
end Go.Abs

/-
  A call that the interpreter says answers true.
-/
set_option linter.unusedVariables false
set_option linter.unusedSimpArgs false
namespace Go.Abs
open Go
open Go.RowKit

def G0 (W : World) : G := ⟨fun _ _ => none, fun b o => match W.cell? ⟨b, o, none⟩ with | some v => if v.oneCell' then some v else none | none => none⟩

theorem G0_imm {W : World} {b o : Nat} {v : Value} : (G0 W).imm b o = some v ↔ W.cell? ⟨b, o, none⟩ = some v ∧ v.oneCell' = true := by
  simp only [G0]
  cases h : W.cell? ⟨b, o, none⟩ with
  | none => simp
  | some u =>
    dsimp only
    constructor
    · intro hh
      split at hh
      · cases hh; exact ⟨rfl, by assumption⟩
      · cases hh
    · rintro ⟨hh, h1⟩
      cases hh
      rw [if_pos h1]

theorem G0_has {W : World} {b : Nat} : ¬ (G0 W).has b := by rintro ⟨l, i, L, h, _⟩; cases h

theorem G0_inv (CR : CRel) (W : World) (hg : ∀ b Q, CR.glb b Q → ∃ c t v, W.heap[b]? = some (.cells c t (0, 0)) ∧ c[0]? = some v ∧ v.oneCell' = true ∧ Q (.cells c t (0, 0))) : Inv CR W.heap.size (G0 W) [[]] W where
  glb b Q h := by
    obtain ⟨c, t, v, h1, h2, h3, h4⟩ := hg b Q h
    exact ⟨⟨v, G0_imm.2 ⟨by simpa [World.cell?, h1] using h2, h3⟩⟩, _, h1, h4⟩
  ge := Nat.le_refl _
  dom l i L h := by cases h
  imm b o v h := G0_imm.1 h
  sep l i L b h := by cases h
  inj l i L l' i' L' b h := by cases h
  lo l i L b h := by cases h
  tot l i b h := by
    simp only [blk?, seg?] at h
    split at h <;> simp at h

theorem top_calls {P : Program} {T : Tbl} (hT : TOk P T) (hm : P.follows .mixedOrders = true) {f : Nat} {args : List D} {σ' : Stack}
    (h : lim T (.call false f args [[]]) = some (.val (.bool true) σ')) {W : World} {vs : Array Value}
    (hg : ∀ b Q, GlbP P b Q → ∃ c t v, W.heap[b]? = some (.cells c t (0, 0)) ∧ c[0]? = some v ∧ v.oneCell' = true ∧ Q (.cells c t (0, 0))) (hr : RelL (G0 W) args vs.toList) :
    Calls P f vs W fun e W' => e = .returned (.bool true) ∧ Below W.heap.size W W' := by
  obtain ⟨_, hcall⟩ := lim_sound hT hm _ _ h
  obtain ⟨_, hcalls⟩ := hcall W.heap.size (G0 W) W vs (G0_inv _ W hg) (by
    intro l i b hb _
    simp only [blk?, seg?] at hb
    split at hb <;> simp at hb) (by simp) hr
  intro cs
  obtain ⟨e, w', fr, ⟨v, g', rfl, he, _, hv⟩, h2, h3, h4⟩ := hcalls cs
  have := hv.bool_inv
  subst this
  exact ⟨_, w', fr, ⟨rfl, ⟨he.os, he.tape, he.output, he.size, fun k hk => he.kept k hk G0_has⟩⟩, h2, h3, h4⟩
end Go.Abs

/-
  Short names for operations, in tables.
-/
namespace Go.Abs
def qo (d : Nat) (k : K) : Op := ⟨some d, none, false, k⟩
def qO (d : Nat) (k : K) : Op := ⟨some d, none, true, k⟩
def qm (d x : Nat) : Op := ⟨some d, none, false, .mv (.t x)⟩
def qM (d x : Nat) : Op := ⟨some d, none, true, .mv (.t x)⟩
def qi (d : Nat) (n : Int) : Op := ⟨some d, none, false, .mv (.c (.int .i64 n))⟩
def qb (d : Nat) (b : Bool) : Op := ⟨some d, none, false, .mv (.c (.bool b))⟩
def qf (d o x : Nat) : Op := ⟨some d, none, false, .fadr o (.t x)⟩
def qF (d o x : Nat) : Op := ⟨some d, none, true, .fadr o (.t x)⟩
def ql (d n x : Nat) : Op := ⟨some d, none, false, .ld false n (.t x)⟩
def qL (d n x : Nat) : Op := ⟨some d, none, true, .ld false n (.t x)⟩
def qa (d n x : Nat) : Op := ⟨some d, none, false, .ld true n (.t x)⟩
def qA (d n x : Nat) : Op := ⟨some d, none, true, .ld true n (.t x)⟩
def qv (d v n a : Nat) : Op := ⟨some d, none, false, .ldv v false n a⟩
def qV (d v n a : Nat) : Op := ⟨some d, none, true, .ldv v false n a⟩
def qw (d v n a : Nat) : Op := ⟨some d, none, false, .ldv v true n a⟩
def qW (d v n a : Nat) : Op := ⟨some d, none, true, .ldv v true n a⟩
def qx (d x : Nat) : Op := ⟨some d, none, false, .boxi (.t x)⟩
def qe (d x : Nat) : Op := ⟨some d, none, false, .lenS (.t x)⟩
def qE (d x : Nat) : Op := ⟨some d, none, true, .lenS (.t x)⟩
def qj (d w x i : Nat) : Op := ⟨some d, none, false, .idxS w (.t x) (.t i)⟩
def qJ (d w x i : Nat) : Op := ⟨some d, none, true, .idxS w (.t x) (.t i)⟩
def qk (d : Nat) (o : BinOp) (x y : Nat) : Op := ⟨some d, none, false, .bin o (.t x) (.t y)⟩
def qK (d : Nat) (o : BinOp) (x y : Nat) : Op := ⟨some d, none, true, .bin o (.t x) (.t y)⟩
def qn (d : Nat) (o : BinOp) (x : Nat) (n : Int) : Op := ⟨some d, none, false, .bin o (.t x) (.c (.int .i64 n))⟩
def qN (d : Nat) (o : BinOp) (x : Nat) (n : Int) : Op := ⟨some d, none, true, .bin o (.t x) (.c (.int .i64 n))⟩
def qu (d x : Nat) : Op := ⟨some d, none, false, .un .not (.t x)⟩
def qp (d c x : Nat) : Op := ⟨some d, none, false, .pick (.t c) (.t x) (.c (.bool false))⟩
def qP (d c x : Nat) : Op := ⟨some d, none, false, .pick (.t c) (.c (.bool true)) (.t x)⟩
def qs (v n a x : Nat) : Op := ⟨none, none, false, .stv v [] n a (.t x)⟩
def qS (v n a x : Nat) : Op := ⟨none, none, true, .stv v [] n a (.t x)⟩
def qt (n a x : Nat) : Op := ⟨none, none, false, .st [] n (.t a) (.t x)⟩
def qz (d x i : Nat) : Op := ⟨some d, none, false, .ext (.t x) i⟩
def qZ (d x i : Nat) : Op := ⟨some d, none, true, .ext (.t x) i⟩
def qc (d f : Nat) (a : List Nat) : Op := ⟨some d, none, false, .call false (.c (.fn f [] [])) (a.map .t)⟩
def qC (d f : Nat) (a : List Nat) : Op := ⟨some d, none, true, .call false (.c (.fn f [] [])) (a.map .t)⟩
def qy (d w b s x : Nat) : Op := ⟨some d, none, false, .app w b (.t s) (.t x)⟩
def qg (t : Nat) (b : Bool) (o : Op) : Op := ⟨o.dst, some (t, b), o.ntr, o.k⟩
end Go.Abs

/-
  The contracts of strconv.Itoa, strconv.Atoi, strings.Split, strings.Join, out of the library's own.
-/
set_option linter.unusedVariables false
set_option linter.unusedSimpArgs false
namespace Go.Abs
open Go
open Go.RowKit

section
variable {P : Program} {CR : CRel} {f : Nat} {args : List D} {σ : Stack} {d : D}

theorem CallOk.below (h0 : ∃ F c, P.funcs[f]? = some F ∧ F.name ≠ "runtime.NumGoroutine" ∧ F.body = some c)
    (h : ∀ base g w vs, Inv CR base g σ w → RelL g args vs.toList → Calls P f vs w fun e w' => ∃ v, e = .returned v ∧ Below w.heap.size w w' ∧ RelV g d v) : CallOk P CR f args σ d σ := by
  refine ⟨h0, fun base g w vs hi hl hp hr => ⟨⟨rfl, fun h => h⟩, (h base g w vs hi hr).mono ?_⟩⟩
  rintro e w' ⟨v, rfl, hb, hv⟩
  refine ⟨v, g, rfl, ⟨g.le_refl, hb.os, hb.tape, hb.output, hb.size, fun b hb' _ => hb.block b hb', fun _ h => .inl h, fun _ _ _ h => .inl h⟩, hi.foreign (fun b hb' _ => hb.block b hb') hb.size, hv⟩

theorem decF_eq : ∀ (k u : Nat), u < 10 ^ k → 0 < k → decF k u = Lib.decDigits u
  | 0, _, _, h => by omega
  | k + 1, u, h, _ => by
    unfold decF
    by_cases h1 : u < 10
    · rw [if_pos h1, Lib.decDigits_one h1]
    · rw [if_neg h1, Lib.decDigits, dif_neg h1]
      have hk : 0 < k := by
        rcases Nat.eq_zero_or_pos k with rfl | h2
        · simp at h; omega
        · exact h2
      rw [decF_eq k (u / 10) (by rw [Nat.pow_succ] at h; omega) hk]
theorem itoaF_eq {n : Int} (h : -9223372036854775808 ≤ n ∧ n ≤ 9223372036854775807) : itoaF n = Lib.itoa n := by
  unfold itoaF Lib.itoa
  rw [decF_eq 20 n.natAbs (by simp only [Nat.reducePow]; omega) (by omega), decF_eq 20 n.toNat (by simp only [Nat.reducePow]; omega) (by omega)]
theorem Inv.tab {base : Nat} {g : G} {w : World} (hi : Inv (CR0 P) base g σ w) {b : Nat} (hb : P.globalNamed "internal/strconv.uint64pow10" = some b) : Lib.TabIs P w "internal/strconv.uint64pow10" .u64 Lib.pow10Tab := by
  obtain ⟨_, o, ho, t, fz, rfl⟩ := hi.glb b QPow (.inr (.inr (.inl ⟨hb, rfl⟩)))
  simp only [Lib.TabIs, World.var?, hb, Option.bind_some, ho]
theorem Inv.err {base : Nat} {g : G} {w : World} (hi : Inv (CR0 P) base g σ w) {b : Nat} (hb : P.globalNamed "strconv.ErrSyntax" = some b ∨ P.globalNamed "strconv.ErrRange" = some b) :
    ∃ ev, w.cell? ⟨b, 0, none⟩ = some ev ∧ (ev = .nilIface ∨ ∃ te pe, ev = .iface te pe) := by
  obtain ⟨_, o, ho, c, t, fz, v, rfl, h1, h2⟩ := hi.glb b QErr (by
    rcases hb with h | h
    · exact .inl ⟨h, rfl⟩
    · exact .inr (.inl ⟨h, rfl⟩))
  exact ⟨v, by simp [World.cell?, ho, h1], h2⟩
theorem Inv.max {base : Nat} {g : G} {w : World} (hi : Inv (CR0 P) base g σ w) {b : Nat} (hb : P.globalNamed "internal/bytealg.MaxLen" = some b) : ∃ m, w.cell? ⟨b, 0, none⟩ = some (.int .i64 m) := by
  obtain ⟨_, o, ho, c, t, fz, m, rfl, h1⟩ := hi.glb b QMax (.inr (.inr (.inr ⟨hb, rfl⟩)))
  exact ⟨m, by simp [World.cell?, ho, h1]⟩

theorem rel_one {g : G} {a : D} {vs : Array Value} (h : RelL g [a] vs.toList) : ∃ x, vs = #[x] ∧ RelV g a x := by
  obtain ⟨vs⟩ := vs
  cases h with | cons _ x _ r h1 h2 => cases h2; exact ⟨x, rfl, h1⟩
theorem rel_two {g : G} {a b : D} {vs : Array Value} (h : RelL g [a, b] vs.toList) : ∃ x y, vs = #[x, y] ∧ RelV g a x ∧ RelV g b y := by
  obtain ⟨vs⟩ := vs
  cases h with | cons _ x _ r h1 h2 => cases h2 with | cons _ y _ r h2 h3 => cases h3; exact ⟨x, y, rfl, h1, h2⟩
theorem rel_str {g : G} {s : List UInt8} {x : Value} (h : RelV g (.str s) x) : ∃ b : ByteArray, x = .string b ∧ s = b.data.toList := by
  cases h with | str b => exact ⟨b, rfl, rfl⟩
theorem rel_int {g : G} {k : IntKind} {n : Int} {x : Value} (h : RelV g (.int k n) x) : x = .int k n := by cases h; rfl

theorem itoaC {pb : Nat} (hn : P.globalNamed "internal/strconv.uint64pow10" = some pb) (h0 : ∃ F c, P.funcs[f]? = some F ∧ F.name ≠ "runtime.NumGoroutine" ∧ F.body = some c)
    (h : ∀ (n : Int) (w : World), -9223372036854775808 ≤ n → n ≤ 9223372036854775807 → Lib.TabIs P w "internal/strconv.uint64pow10" .u64 Lib.pow10Tab →
      Calls P f #[.int .i64 n] w fun e w' => e = .returned (.string ⟨(Lib.itoa n).toArray⟩) ∧ Below w.heap.size w w') : NatC P (CR0 P) 3 f := by
  intro args σ r hr
  simp only [natQ, Nat.reduceMod] at hr
  split at hr <;> try cases hr
  all_goals try omega
  rename_i n _
  simp only [Option.ite_none_right_eq_some, Option.some.injEq] at hr
  obtain ⟨hb, rfl⟩ := hr
  refine ⟨_, _, rfl, CallOk.below h0 fun base g w vs hi hl => ?_⟩
  obtain ⟨x, rfl, hx⟩ := rel_one hl
  rw [rel_int hx]
  refine (h n w hb.1 hb.2 (hi.tab hn)).mono ?_
  rintro e w' ⟨rfl, hw⟩
  refine ⟨_, rfl, hw, ?_⟩
  rw [itoaF_eq hb]
  exact .str ⟨(Lib.itoa n).toArray⟩
theorem atoiC {t bs br : Nat} (hs : P.globalNamed "strconv.ErrSyntax" = some bs) (hr' : P.globalNamed "strconv.ErrRange" = some br) (h0 : ∃ F c, P.funcs[f]? = some F ∧ F.name ≠ "runtime.NumGoroutine" ∧ F.body = some c)
    (h1 : ∀ (s : ByteArray) (v : Int) (w : World), s.size ≤ 9223372036854775806 → Lib.atoiAll s.data.toList = .ok v →
      Calls P f #[.string s] w fun e w' => e = .returned (.tuple #[.int .i64 v, .nilIface]) ∧ Below w.heap.size w w')
    (h2 : ∀ (s : ByteArray) (ev : Value) (w : World), s.size ≤ 281474976710656 → Lib.atoiAll s.data.toList = Lib.NumEnd.syntax → w.cell? ⟨bs, 0, none⟩ = some ev → (ev = .nilIface ∨ ∃ te pe, ev = .iface te pe) →
      Calls P f #[.string s] w fun e w' => ∃ p, e = .returned (.tuple #[.int .i64 0, .iface t p]) ∧ Below w.heap.size w w')
    (h3 : ∀ (s : ByteArray) (ev : Value) (w : World), s.size ≤ 281474976710656 → Lib.atoiAll s.data.toList = .range → w.cell? ⟨br, 0, none⟩ = some ev → (ev = .nilIface ∨ ∃ te pe, ev = .iface te pe) →
      Calls P f #[.string s] w fun e w' => ∃ p, e = .returned (.tuple #[.int .i64 (Lib.atoiSat s.data.toList), .iface t p]) ∧ Below w.heap.size w w') : NatC P (CR0 P) (4 + 16 * t) f := by
  intro args σ r hr
  have e1 : (4 + 16 * t) % 16 = 4 := by omega
  have e2 : (4 + 16 * t) / 16 = t := by omega
  simp only [natQ, e1, e2] at hr
  split at hr <;> try cases hr
  all_goals try omega
  rename_i s _
  simp only [Option.ite_none_right_eq_some, Option.some.injEq] at hr
  obtain ⟨hb, rfl⟩ := hr
  refine ⟨_, _, rfl, CallOk.below h0 fun base g w vs hi hl => ?_⟩
  obtain ⟨x, rfl, hx⟩ := rel_one hl
  obtain ⟨b, rfl, rfl⟩ := rel_str hx
  have hsz : b.size ≤ 1000000 := by simpa using hb
  rcases ha : Lib.atoiAll b.data.toList with v | _ | _
  · refine (h1 b v w (by omega) ha).mono ?_
    rintro e w' ⟨rfl, hw⟩
    refine ⟨_, rfl, hw, ?_⟩
    simp only [atoiF, ha, if_true]
    exact .tup _ _ (.cons _ _ _ _ (.int _ _) (.cons _ _ _ _ .nili .nil))
  · obtain ⟨ev, hv, hev⟩ := hi.err (.inl hs)
    refine (h2 b ev w (by omega) ha hv hev).mono ?_
    rintro e w' ⟨p, rfl, hw⟩
    refine ⟨_, rfl, hw, ?_⟩
    simp only [atoiF, ha]
    exact .tup _ _ (.cons _ _ _ _ (.int _ _) (.cons _ _ _ _ (.ifc _ _ _ (.undef _)) .nil))
  · obtain ⟨ev, hv, hev⟩ := hi.err (.inr hr')
    refine (h3 b ev w (by omega) ha hv hev).mono ?_
    rintro e w' ⟨p, rfl, hw⟩
    refine ⟨_, rfl, hw, ?_⟩
    simp only [atoiF, ha]
    exact .tup _ _ (.cons _ _ _ _ (.int _ _) (.cons _ _ _ _ (.ifc _ _ _ (.undef _)) .nil))
theorem splitF_eq (b : UInt8) : ∀ (s : List UInt8) (k : Nat), s.count b = k → Lib.splitK [b] 0 k s = splitF b s
  | [], k, h => by
    cases k with
    | zero => rfl
    | succ k => simp at h
  | c :: r, k, h => by
    by_cases hc : c = b
    · subst hc
      simp only [List.count_cons_self] at h
      obtain ⟨k, rfl⟩ : ∃ k', k = k' + 1 := ⟨k - 1, by omega⟩
      have ih := splitF_eq c r k (by omega)
      have hi : Lib.index (c :: r) [c] = 0 := by simp [Lib.index, List.isPrefixOf]
      simp only [Lib.splitK, hi, splitF, if_true]
      simp [ih]
    · have hcb : (b == c) = false := by simpa using fun h => hc h.symm
      have hn : r.count b = k := by rw [List.count_cons_of_ne hc] at h; exact h
      have ih := splitF_eq b r k hn
      have hi : Lib.index (c :: r) [b] = if Lib.index r [b] == -1 then -1 else Lib.index r [b] + 1 := by simp [Lib.index, List.isPrefixOf, hcb]
      simp only [splitF, if_neg hc, ← ih]
      cases k with
      | zero => rfl
      | succ k =>
        have hge := Lib.index_ge r [b]
        simp only [Lib.splitK, hi]
        by_cases hm : Lib.index r [b] = -1
        · simp [hm]
        · have h1 : ¬ (Lib.index r [b] == -1) = true := by simpa using hm
          have h2 : ¬ (Lib.index r [b] + 1 == -1) = true := by simp; omega
          obtain ⟨i, hi2⟩ : ∃ i : Nat, Lib.index r [b] = i := ⟨(Lib.index r [b]).toNat, by omega⟩
          simp only [h1, if_false, h2, hi2]
          have e1 : ((i : Int) + 1).toNat = i + 1 := by omega
          simp [e1, Nat.add_assoc]
          intro hh; omega
theorem strs_rel {g : G} : ∀ l : List ByteArray, RelL g ((l.map (·.data.toList)).map .str) (l.map Value.string)
  | [] => .nil
  | s :: l => .cons _ _ _ _ (.str s) (strs_rel l)
theorem splitC {mb : Nat} {el : TypeId} (hn : P.globalNamed "internal/bytealg.MaxLen" = some mb) (h0 : ∃ F c, P.funcs[f]? = some F ∧ F.name ≠ "runtime.NumGoroutine" ∧ F.body = some c)
    (h : ∀ (s sep : ByteArray) (m : Int) (w : World), s.size < 4294967281 → w.cell? ⟨mb, 0, none⟩ = some (.int .i64 m) → 1 ≤ sep.size →
      Calls P f #[.string s, .string sep] w fun e w' => e = .returned (.slice (some ⟨w.heap.size, 0, none⟩) (Lib.countB s sep + 1) (Lib.countB s sep + 1)) ∧ w' = w.alloc (.cells ((Lib.splitB sep 0 (Lib.countB s sep) s).map Value.string).toArray el)) : NatC P (CR0 P) 6 f := by
  intro args σ r hr
  simp only [natQ, Nat.reduceMod] at hr
  split at hr <;> try cases hr
  all_goals try omega
  rename_i s b _
  simp only [Option.ite_none_right_eq_some, Option.some.injEq] at hr
  obtain ⟨hb, rfl⟩ := hr
  refine ⟨_, _, rfl, h0, fun base g w vs hi hl hp hr => ⟨⟨rfl, fun h => h⟩, ?_⟩⟩
  obtain ⟨x, y, rfl, hx, hy⟩ := rel_two hr
  obtain ⟨s, rfl, rfl⟩ := rel_str hx
  obtain ⟨sep, rfl, hsep⟩ := rel_str hy
  have hsz : s.size ≤ 1000000 := by simpa using hb
  have h1 : sep.size = 1 := by have := congrArg List.length hsep; simpa using this.symm
  obtain ⟨m, hm⟩ := hi.max hn
  refine (h s sep m w (by omega) hm (by omega)).mono ?_
  rintro e w' ⟨rfl, rfl⟩
  have hdata : (Lib.splitB sep 0 (Lib.countB s sep) s).map (·.data.toList) = splitF b s.data.toList := by
    rw [Lib.splitB_data, ← hsep]
    refine splitF_eq b _ _ ?_
    rw [Lib.countB, ← hsep, Lib.count_one]
  have hlen : (splitF b s.data.toList).length = Lib.countB s sep + 1 := by rw [← hdata, List.length_map, Lib.splitB_all sep (by omega) 0 _ s rfl]
  have hrl : RelL (g.addImm w.heap.size ((Lib.splitB sep 0 (Lib.countB s sep) s).map Value.string)) ((splitF b s.data.toList).map .str) ((Lib.splitB sep 0 (Lib.countB s sep) s).map Value.string) := by
    rw [← hdata]; exact strs_rel _
  obtain ⟨i2, e2, hrow⟩ := hi.newImm ((Lib.splitB sep 0 (Lib.countB s sep) s).map Value.string) ((Lib.splitB sep 0 (Lib.countB s sep) s).map Value.string).toArray el (by
    intro j x hx
    refine ⟨by simpa using hx, ?_⟩
    have := List.mem_of_getElem? hx
    simp only [List.mem_map] at this
    obtain ⟨z, _, rfl⟩ := this
    rfl)
  refine ⟨_, _, rfl, e2, i2, ?_⟩
  rw [hlen]
  exact .lst _ _ _ _ _ (Nat.le_refl _) hrow (fun _ => rfl) hrl
theorem strsOf_get : ∀ {ds : List D} {xs : List (List UInt8)}, strsOf ds = some xs → ds = xs.map .str
  | [], xs, h => by cases h; rfl
  | d :: ds, xs, h => by
    cases d with
    | str s =>
      simp only [strsOf, Option.map_eq_some_iff] at h
      obtain ⟨l, h1, rfl⟩ := h
      rw [strsOf_get h1]; rfl
    | _ => simp [strsOf] at h
theorem rel_strs {g : G} : ∀ {xs : List (List UInt8)} {vs : List Value}, RelL g (xs.map .str) vs → ∃ bs : List ByteArray, vs = bs.map Value.string ∧ xs = bs.map (·.data.toList)
  | [], vs, h => by cases h; exact ⟨[], rfl, rfl⟩
  | x :: xs, vs, h => by
    cases h with | cons _ v _ r h1 h2 =>
    obtain ⟨b, rfl, rfl⟩ := rel_str h1
    obtain ⟨bs, rfl, rfl⟩ := rel_strs h2
    exact ⟨b :: bs, rfl, rfl⟩
theorem joinF_eq (sep : List UInt8) (xs : List (List UInt8)) : joinF sep xs = Lib.join xs sep := by
  cases xs with
  | nil => rfl
  | cons x r => rw [Lib.join_cons, joinF, Lib.joinTail, List.flatMap_def]
theorem joinC (h0 : ∃ F c, P.funcs[f]? = some F ∧ F.name ≠ "runtime.NumGoroutine" ∧ F.body = some c)
    (hz : ∀ (a : Option Addr) (c : Nat) (sep : ByteArray) (w : World), Calls P f #[.slice a 0 c, .string sep] w fun e w' => e = .returned (.string ⟨#[]⟩) ∧ w' = w)
    (h : ∀ (bk o c : Nat) (xs : List ByteArray) (sep : ByteArray) (w : World), (∀ (j : Nat) x, xs[j]? = some x → w.cell? ⟨bk, o + j, none⟩ = some (.string x)) → bk < w.heap.size → xs.length ≤ 140737488355328 → xs.length ≤ c →
      (Lib.join (xs.map (·.data.toList)) sep.data.toList).length ≤ 140737488355328 →
      Calls P f #[.slice (some ⟨bk, o, none⟩) xs.length c, .string sep] w fun e w' => e = .returned (.string ⟨(Lib.join (xs.map (·.data.toList)) sep.data.toList).toArray⟩) ∧ Below w.heap.size w w') : NatC P (CR0 P) 5 f := by
  intro args σ r hr
  simp only [natQ, Nat.reduceMod] at hr
  split at hr <;> try cases hr
  all_goals try omega
  rename_i n cs sep _
  split at hr
  case h_2 => cases hr
  rename_i xs hxs
  simp only [Option.ite_none_right_eq_some, Option.some.injEq] at hr
  obtain ⟨⟨rfl, hn, hj⟩, rfl⟩ := hr
  have := strsOf_get hxs
  subst this
  refine ⟨_, _, rfl, CallOk.below h0 fun base g w vs hi hl => ?_⟩
  obtain ⟨x, y, rfl, hx, hy⟩ := rel_two hl
  obtain ⟨sp, rfl, rfl⟩ := rel_str hy
  cases xs with
  | nil =>
    have hv : ∃ a c, x = .slice a 0 c := by
      cases hx with
      | lstn => exact ⟨_, _, rfl⟩
      | lst => exact ⟨_, _, rfl⟩
    obtain ⟨a, c, rfl⟩ := hv
    refine (hz a c sp w).mono ?_
    rintro e w' ⟨rfl, rfl⟩
    exact ⟨_, rfl, Below.refl _ _, .str ⟨#[]⟩⟩
  | cons x0 xs =>
  generalize hX : x0 :: xs = X at *
  generalize hN : X.length = N at hx
  generalize hC : X.map D.str = C at hx
  cases hx with
  | lstn => subst hX; simp at hN
  | lst _ _ a cap us h1 h2 h3 h4 =>
    subst hN hC
    obtain ⟨bs, rfl, rfl⟩ := rel_strs h4
    have hlen : (bs.map (·.data.toList)).length ≠ 0 := by rw [← hX]; simp
    have hs := h3 hlen
    obtain ⟨ab, ao, asp⟩ := a
    simp only at hs; subst hs
    have hne : 0 < bs.length := by rw [List.length_map] at hlen; omega
    have hcell : ∀ (j : Nat) x, bs[j]? = some x → w.cell? ⟨ab, ao + j, none⟩ = some (.string x) := fun j x hj => (hi.imm _ _ _ (h2 j _ (by simp [hj]))).1
    have hlt : ab < w.heap.size := World.block_lt_of_cell? (a := ⟨ab, ao + 0, none⟩) w (hcell 0 _ (List.getElem?_eq_getElem hne))
    rw [joinF_eq] at hj ⊢
    rw [List.length_map] at h1 hn ⊢
    refine (h ab ao cap bs sp w hcell hlt (by omega) h1 (by omega)).mono ?_
    rintro e w' ⟨rfl, hw⟩
    exact ⟨_, rfl, hw, .str ⟨(Lib.join (bs.map (·.data.toList)) sp.data.toList).toArray⟩⟩
end
end Go.Abs

/-
  The contracts of a strings.Builder's WriteString and String: what they leave alone, to the last block.
-/
set_option linter.unusedVariables false
set_option linter.unusedSimpArgs false
namespace Go.Abs
open Go
open Go.RowKit Go.Shelf Go.Proofs

theorem app_str {P : Program} (w : World) (t u ty e : TypeId) (i : TypeInfo) (ht : P.underlying t = some (.slice e)) (hu : P.underlying u = some .string) (hi : P.info? e = some i) (hz : i.zero = some (.int .u8 0))
    (hsize : i.size = 1) (hby : i.bytes = 1) (v : Value) (n : Nat) (xs : List Value) (hown : w.ownsRowF 0 e 1 v n xs) (s : ByteArray) (hb : n + s.size ≤ 140737488355328) :
    ∃ v' w', (Builtin.append_ #[t, u] ty #[v, .string s]).run P w = .ok v' w' ∧ w'.ownsRowF 0 e 1 v' (n + s.size) (xs ++ Lib.strCells s) ∧ w.grownBy w' v.ownBlock ∧
      (∀ k, v'.ownBlock = some k → v.ownBlock = some k ∨ (w.heap.size ≤ k ∧ k < w'.heap.size)) := by
  have h63 : n + s.size ≤ maxLen := by unfold maxLen; omega
  rcases hown.2 with ⟨rfl, rfl⟩ | ⟨g, cap, cur, fz, rfl, _, hg, hfz, hnc, hcm, hcs, htake⟩
  · obtain ⟨v', w', h1, h2, h3, _⟩ := Lib.run_append_own_string (P := P) w w.heap.size t u ty e i ht hu hi hz hsize hby (.slice none 0 0) 0 xs ⟨hown.1, .inl ⟨rfl, rfl⟩⟩ s h63 hb (Nat.le_refl _)
    have h4 := World.ownsRowF_of h2
    refine ⟨v', w', h1, ⟨h4.1, h4.2.imp id fun ⟨q, c, cu, f, k1, k2, k3⟩ => ⟨q, c, cu, f, k1, Nat.zero_le _, k3⟩⟩, h3, fun k hk => .inr (h4.lt k hk)⟩
  · have hxl : xs.length = n := by simpa using hown.1
    have hlen : (xs ++ Lib.strCells s).length = (n + s.size) * 1 := by rw [List.length_append, hxl, Lib.strCells_length, Nat.mul_one]
    by_cases hroom : n + s.size ≤ cap
    · have hcs' : cur.size = cap := by simpa using hcs
      have hr := Lib.run_append_room_stringF (P := P) w t u ty e i ht hu hi hsize g n cap cur fz hg (by simpa using hfz) s hroom (by omega)
      refine ⟨_, _, hr, ⟨hlen, .inr ⟨g, cap, _, fz, rfl, Nat.zero_le _, setRow_heap w g cur _ e _ hg, by omega, hroom, hcm, ?_, ?_⟩⟩, ⟨rfl, rfl, rfl, by simp, fun k _ hk => setRow_other w g k _ (fun e => hk (by simp [Value.ownBlock, e]))⟩, fun k hk => .inl hk⟩
      · simp only [List.size_toArray, List.length_append, List.length_take, List.length_drop, Array.length_toList, Lib.strCells_length]
        omega
      · have ht' : cur.toList.take n = xs := by simpa using htake
        rw [ht', ← hlen]
        exact List.take_left
    · have hr := Lib.run_append_grow_string (P := P) w t u ty e i (.int .u8 0) ht hu hi hz ⟨g, 0, none⟩ n cap xs (by rw [hsize]; simpa using hxl) (hown.cells (g := g) rfl) s (by omega) (by omega) (by rw [hby]; exact growslice_fits (by omega) (by omega))
      have hge := grownCap_ge w (n + s.size) cap e
      have hcm2 := grownCap_le_maxLen w (n + s.size) cap e h63
      refine ⟨_, _, hr, ⟨hlen, .inr ⟨w.heap.size, _, _, (0, 0), rfl, Nat.zero_le _, heap_alloc_new w.drew _, Nat.zero_le _, hge, hcm2, ?_, ?_⟩⟩, ⟨rfl, rfl, rfl, by simp, fun k hk _ => alloc_old (w := w.drew) hk⟩, fun k hk => .inr ?_⟩
      · have hz1 : (Value.int IntKind.u8 0).cells.size = 1 := rfl
        simp only [Array.size_append, List.size_toArray, size_zeroCells, hz1, hxl, Lib.strCells_length]
        omega
      · simp only [Array.toList_append, List.append_assoc]
        rw [← List.append_assoc, ← hlen]
        exact List.take_left
      · simp only [Value.ownBlock, Option.some.injEq] at hk
        subst hk
        exact ⟨Nat.le_refl _, by simp⟩
theorem wp_app_str {P : Program} {w : World} {ops : Array Oper} {rest : List Oper} {o : Oper} {a : Act} {Q : Go.Exit → Act → World → Prop} (hgd : o.guard = none) (sl x : Operand) (t u : TypeId)
    (ho : o.op = .call { callee := .builtin .append, args := #[sl, x], argTypes := #[t, u] }) (e : TypeId) (i : TypeInfo) (ht : P.underlying t = some (.slice e)) (hu : P.underlying u = some .string) (hi : P.info? e = some i) (hz : i.zero = some (.int .u8 0))
    (hsize : i.size = 1) (hby : i.bytes = 1) (v : Value) (n : Nat) (xs : List Value) (hs : a.eval sl = v) (hown : w.ownsRowF 0 e 1 v n xs) (s : ByteArray) (hx : a.eval x = .string s) (hb : n + s.size ≤ 140737488355328)
    (h : ∀ v' w', w'.ownsRowF 0 e 1 v' (n + s.size) (xs ++ Lib.strCells s) → w.grownBy w' v.ownBlock → (∀ k, v'.ownBlock = some k → v.ownBlock = some k ∨ (w.heap.size ≤ k ∧ k < w'.heap.size)) → wpList P ops Q rest (a.put o.dst v') w') : wpList P ops Q (o :: rest) a w := by
  refine wpList_plain hgd fun K hK => ?_
  obtain ⟨v', w', hr, h2, h3, h4⟩ := app_str (P := P) w t u o.type e i ht hu hi hz hsize hby v n xs hown s hb
  unfold Oper.wp execOp
  simp only [ho, resolve, invoke, builtin, Sem.run_bind, Sem.run_pure, Result.andThen_ok, List.map_toArray, List.map_cons, List.map_nil, hs, hx, hr]
  exact hK _ _ (h v' w' h2 h3 h4)

structure BldAt (T e : TypeId) (b : Nat) (v : Value) (bs : List UInt8) (w : World) : Prop where
  blk : ∃ p, w.heap[b]? = some (.cells #[p, v] T (0, 0)) ∧ (p = .pointer none ∨ p = .pointer (some ⟨b, 0, none⟩))
  own : w.ownsRowF 0 e 1 v bs.length (bs.map fun x => .int .u8 x.toNat)
  ne : v.ownBlock ≠ some b
structure Bare (w w' : World) (b : Nat) (c : Option Nat) : Prop where
  os : w'.os = w.os
  tape : w'.tape = w.tape
  output : w'.output = w.output
  size : w.heap.size ≤ w'.heap.size
  blk : ∀ k, k < w.heap.size → k ≠ b → c ≠ some k → w'.heap[k]? = w.heap[k]?

section
variable {P : Program} {ρ : Ren}
set_option maxHeartbeats 2000000 in
set_option maxRecDepth 100000 in
theorem wstr (L : Lays.n166 P ρ) (X : Builder.Extra P ρ) (b : Nat) (v : Value) (bs : List UInt8) (s : ByteArray) (w : World) (h : BldAt (ρ.t 72) (ρ.t 5) b v bs w) (hlen : bs.length + s.size ≤ 140737488355328) :
    Calls P (ρ.f 166) #[.pointer (some ⟨b, 0, none⟩), .string s] w fun e w' => e = .returned (.tuple #[.int .i64 s.size, .nilIface]) ∧
      ∃ v', BldAt (ρ.t 72) (ρ.t 5) b v' (bs ++ s.data.toList) w' ∧ Bare w w' b v.ownBlock ∧ (∀ k, v'.ownBlock = some k → v.ownBlock = some k ∨ (w.heap.size ≤ k ∧ k < w'.heap.size)) := by
  obtain ⟨i0, hi, hz0, hz1, hz2⟩ := info_parts X.infoByte
  obtain ⟨⟨p, hbk, hp⟩, hown, hne⟩ := h
  have hcc : Calls P (ρ.f 240) #[.pointer (some ⟨b, 0, none⟩)] w fun e w' => e = .returned (.tuple #[]) ∧ w'.heap[b]? = some (.cells #[.pointer (some ⟨b, 0, none⟩), v] (ρ.t 72) (0, 0)) ∧
      w'.ownsRowF 0 (ρ.t 5) 1 v bs.length (bs.map fun x => .int .u8 x.toNat) ∧ Bare w w' b none ∧ w'.heap.size = w.heap.size := by
    rcases hp with rfl | rfl
    · refine (Any.Builder_copyCheck_fresh { L with } X.toX72 b w (by simp [World.cell?, hbk]) (by simp [World.shape?, hbk]) (by simp [World.frozen?, hbk])).mono ?_
      rintro e w' ⟨rfl, rfl⟩
      refine ⟨rfl, by simp [World.setCell, Array.getElem?_modify, hbk], ?_, ⟨rfl, rfl, rfl, by simp [World.setCell], fun k _ hk _ => Below.heap_setCell _ _ _ _ (fun e => hk e)⟩, by simp [World.setCell]⟩
      exact hown.kept (row := some b) ⟨rfl, rfl, rfl, by simp [World.setCell], fun k _ hk => Below.heap_setCell _ _ _ _ (fun e => hk (by simp [e]))⟩ (.inr hne)
    · refine (Any.Builder_copyCheck_used { L with } X.toX72 b w (by simp [World.cell?, hbk])).mono ?_
      rintro e w' ⟨rfl, rfl⟩
      exact ⟨rfl, hbk, hown, ⟨rfl, rfl, rfl, Nat.le_refl _, fun _ _ _ _ => rfl⟩, rfl⟩
  have mixed := L.mixed
  have t72 := L.t72; have a72 := L.a72; have z72 := L.z72; have v72 := L.v72; have u72 := run_underlying L.t72
  have t70 := L.t70; have a70 := L.a70; have z70 := L.z70; have v70 := L.v70; have u70 := run_underlying L.t70
  have t37 := L.t37; have a37 := L.a37; have z37 := L.z37; have v37 := L.v37; have u37 := run_underlying L.t37
  have t3 := L.t3; have a3 := L.a3; have z3 := L.z3; have v3 := L.v3; have u3 := run_underlying L.t3
  have t9 := L.t9; have a9 := L.a9; have z9 := L.z9; have v9 := L.v9; have u9 := run_underlying L.t9
  have t4 := L.t4; have a4 := L.a4; have z4 := L.z4; have v4 := L.v4; have u4 := run_underlying L.t4
  have t164 := L.t164; have a164 := L.a164; have z164 := L.z164; have v164 := L.v164; have u164 := run_underlying L.t164
  have t5 := X.t5; have a5 := X.a5; have z5 := X.z5; have v5 := X.v5; have u5 := run_underlying X.t5
  have e240 : ∀ args w, (callFunc (ρ.f 240) args).run P w = .ok (.enter (ρ.f 240) args) w := enters_of L.f240 (by kernel_rfl) rfl
  go_enter L.f166, Body.n166_ntmps ρ
  go_wp2_with (go_at_fn (ρ.f 240); refine hcc.mono ?_)
  rintro e w1 ⟨rfl, hb1, hown1, hk1, hs1⟩
  have c0 : w1.cell? ⟨b, 0, none⟩ = some (.pointer (some ⟨b, 0, none⟩)) := by rw [Lib.cell_of_heap hb1]; rfl
  have c1 : w1.cell? ⟨b, 1, none⟩ = some v := by rw [Lib.cell_of_heap hb1]; rfl
  go_wp2_with (at_builtin; refine wp_app_str rfl _ _ (ρ.t 37) (ρ.t 9) rfl (ρ.t 5) i0 L.t37 L.t9 hi hz0 hz1 hz2 _ _ _ rfl hown1 s rfl ?c4 ?_)
  case c4 => omega
  intro v' w2 hown2 hgrow hfr
  have hlt : b < w1.heap.size := (Array.getElem?_eq_some_iff.1 hb1).1
  have hb2 : w2.heap[b]? = some (.cells #[.pointer (some ⟨b, 0, none⟩), v] (ρ.t 72) (0, 0)) := by
    rw [hgrow.block b hlt (fun e => hne e.symm)]
    exact hb1
  have d0 : w2.cell? ⟨b, 0, none⟩ = some (.pointer (some ⟨b, 0, none⟩)) := by rw [Lib.cell_of_heap hb2]; rfl
  have d1 : w2.cell? ⟨b, 1, none⟩ = some v := by rw [Lib.cell_of_heap hb2]; rfl
  have f1 : w2.frozen? ⟨b, 1, none⟩ = false := Lib.frozen_of_heap hb2 1
  obtain ⟨ao, n', cap, rfl⟩ : ∃ ao n' cap, v' = .slice ao n' cap := by
    rcases hown2.2 with ⟨hv, _⟩ | ⟨g, cap, cur, fz, hv, _⟩
    · exact ⟨_, _, _, hv⟩
    · exact ⟨_, _, _, hv⟩
  go_wp2
  go_ret2
  refine ⟨rfl, .slice ao n' cap, ⟨⟨.pointer (some ⟨b, 0, none⟩), ?_, .inr rfl⟩, ?_, ?_⟩, ⟨?_, ?_, ?_, ?_, fun k hk h1 h2 => ?_⟩, ?_⟩
  · simp [World.setCell, Array.getElem?_modify, hb2]
  · have hne2 := Lib.ownBlock_neF hown2 hb2 X.neB5
    have := hown2.kept (w' := w2.setCell ⟨b, 1, none⟩ (.slice ao n' cap)) (row := some b) ⟨rfl, rfl, rfl, by simp [World.setCell], fun k _ hk => Below.heap_setCell _ _ _ _ (fun e => hk (by simp [e]))⟩ (.inr hne2)
    simpa [Lib.strCells] using this
  · exact Lib.ownBlock_neF hown2 hb2 X.neB5
  · exact hgrow.os.trans hk1.os
  · exact hgrow.tape.trans hk1.tape
  · exact hgrow.output.trans hk1.output
  · have := hgrow.size; have := hk1.size; simp [World.setCell]; omega
  · rw [Below.heap_setCell _ _ _ _ (fun e => h1 e), hgrow.block k (by omega) (fun e => h2 e.symm), hk1.blk k hk h1 (by simp)]
  · intro k hk
    rcases hfr k hk with h | h
    · exact .inl h
    · right; simpa [World.setCell] using h

set_option maxHeartbeats 1000000 in
set_option maxRecDepth 100000 in
theorem bstr (L : Lays.n169 P ρ) (X : Builder.Extra P ρ) (b : Nat) (v : Value) (bs : List UInt8) (w : World) (h : BldAt (ρ.t 72) (ρ.t 5) b v bs w) (h0 : bs ≠ []) :
    Calls P (ρ.f 169) #[.pointer (some ⟨b, 0, none⟩)] w fun e w' => e = .returned (.string ⟨bs.toArray⟩) ∧ BldAt (ρ.t 72) (ρ.t 5) b v bs w' ∧ Bare w w' b v.ownBlock := by
  obtain ⟨⟨p, hbk, hp⟩, hown, hne⟩ := h
  have hl0 : bs.length ≠ 0 := by simpa using h0
  obtain ⟨g, cap, cur, fz, rfl, hbg, hg, hfz, hnc, hcm, hcs, htake⟩ : ∃ g cap cur fz, v = .slice (some ⟨g, 0, none⟩) bs.length cap ∧ 0 ≤ g ∧ w.heap[g]? = some (.cells cur (ρ.t 5) fz) ∧ fz.2 ≤ bs.length * 1 ∧ bs.length ≤ cap ∧ cap ≤ maxLen ∧ cur.size = cap * 1 ∧ cur.toList.take (bs.length * 1) = Lib.byteCells bs := by
    rcases hown.2 with ⟨_, hz⟩ | h
    · exact absurd hz hl0
    · exact h
  have c1 : w.drew.cell? ⟨b, 1, none⟩ = some (.slice (some ⟨g, 0, none⟩) bs.length cap) := by
    have : w.drew.heap[b]? = _ := hbk
    rw [Lib.cell_of_heap this]; rfl
  have hSD : (Builtin.unsafeSliceData_ #[(ρ.t 37)] (ρ.t 127) #[.slice (some ⟨g, 0, none⟩) bs.length cap]).run P w.drew = .ok (.pointer (some ⟨g, 0, none⟩)) w.drew :=
    Lib.run_unsafeSliceData_row _ _ _ _ _ _ (by omega)
  have hUS : (Builtin.unsafeString_ #[(ρ.t 127), (ρ.t 3)] (ρ.t 9) #[.pointer (some ⟨g, 0, none⟩), .int .i64 bs.length]).run P w.drew = .ok (.string ⟨bs.toArray⟩) (w.drew.freeze ⟨g, 0, none⟩ bs.length) := by
    refine Lib.run_unsafeString_row w.drew (ρ.t 127) (ρ.t 3) (ρ.t 9) (ρ.t 5) L.t127 X.cellsByte g cur.size (by have hg' : w.drew.heap[g]? = some (.cells cur (ρ.t 5) fz) := hg; simp [World.shape?, hg']) bs h0 (by omega) (by unfold maxLen at hcm; omega) ?_
    intro j x hx
    exact hown.cells (g := g) rfl j (.int .u8 x.toNat) (by simp [hx])
  have hA : Lib.BuilderAtF (ρ.t 72) (ρ.t 5) 0 b p (Lib.byteCells bs) w.drew := ⟨Nat.zero_le _, _, hbk, by rw [Lib.byteCells_length]; exact hown, hne⟩
  have hF := hA.froze (g := g) (cap := cap) (by rw [Lib.byteCells_length]; exact c1)
  rw [Lib.byteCells_length] at hF
  obtain ⟨_, v2, hb2, hown2, _⟩ := hF
  have hgb : g ≠ b := fun e => hne (by rw [e]; rfl)
  have hfr : ∀ k, k ≠ g → (w.drew.freeze ⟨g, 0, none⟩ bs.length).heap[k]? = w.heap[k]? := fun k hk => by
    unfold World.freeze
    split
    · rfl
    · simp only [Array.getElem?_modify]
      rw [if_neg (fun e => hk e.symm)]; rfl
  have hv2 : v2 = .slice (some ⟨g, 0, none⟩) bs.length cap := by
    have := hfr b (fun e => hgb e.symm)
    rw [hb2, hbk] at this
    simpa using this
  subst hv2
  have hfin : BldAt (ρ.t 72) (ρ.t 5) b (.slice (some ⟨g, 0, none⟩) bs.length cap) bs (w.drew.freeze ⟨g, 0, none⟩ bs.length) := ⟨⟨p, hb2, hp⟩, by rw [Lib.byteCells_length] at hown2; exact hown2, hne⟩
  have hbare : Bare w (w.drew.freeze ⟨g, 0, none⟩ bs.length) b (some g) := by
    refine ⟨?_, ?_, ?_, ?_, fun k _ _ h2 => hfr k (fun e => h2 (by rw [e]))⟩ <;> unfold World.freeze <;> split <;> first | rfl | exact Nat.le_refl _ | simp
  have mixed := L.mixed
  have t72 := L.t72; have a72 := L.a72; have z72 := L.z72; have v72 := L.v72; have u72 := run_underlying L.t72
  have t70 := L.t70; have a70 := L.a70; have z70 := L.z70; have v70 := L.v70; have u70 := run_underlying L.t70
  have t37 := L.t37; have a37 := L.a37; have z37 := L.z37; have v37 := L.v37; have u37 := run_underlying L.t37
  have t127 := L.t127; have a127 := L.a127; have z127 := L.z127; have v127 := L.v127; have u127 := run_underlying L.t127
  have t3 := L.t3; have a3 := L.a3; have z3 := L.z3; have v3 := L.v3; have u3 := run_underlying L.t3
  have t9 := L.t9; have a9 := L.a9; have z9 := L.z9; have v9 := L.v9; have u9 := run_underlying L.t9
  have t5 := X.t5; have a5 := X.a5; have z5 := X.z5; have v5 := X.v5; have u5 := run_underlying X.t5
  go_enter L.f169, Body.n169_ntmps ρ
  go_wp2
  go_region_o
  all_goals (go_wp2; go_ret; exact ⟨rfl, hfin, hbare⟩)
end

section
variable {P : Program} {CR : CRel} {f : Nat} {σ : Stack}
theorem setSeg_self : ∀ {σ : Stack} {l : Nat} {s : List Blk}, seg? σ l = some s → setSeg σ l s = σ
  | [], _, _, h => by cases h
  | s0 :: σ, l, s, h => by
    simp only [seg?] at h
    simp only [setSeg]
    split
    · rename_i e; rw [if_pos e] at h; cases h; rfl
    · rename_i e; rw [if_neg e] at h; rw [setSeg_self h]
theorem setBlk_self {σ : Stack} {l i : Nat} {b : Blk} (h : blk? σ l i = some b) : setBlk σ l i b = σ := by
  unfold blk? at h
  unfold setBlk
  cases hs : seg? σ l with
  | none => rfl
  | some s =>
    rw [hs] at h
    have h : s[i]? = some b := h
    dsimp only
    have : s.set i b = s := by
      obtain ⟨h1, h2⟩ := List.getElem?_eq_some_iff.1 h
      rw [← h2, List.set_getElem_self]
    rw [this, setSeg_self hs]
theorem rel_yld {g : G} {w : World} {base l i T e : Nat} {bs : List UInt8} {x : Value} (hi : Inv CR base g σ w) (hc : cells? σ l i 2 = some [.int .i64 T, .int .i64 e, .str bs]) (hx : RelV g (.yld l i) x) :
    ∃ b v, x = .pointer (some ⟨b, 0, none⟩) ∧ g.loc l i = some (.ob b v.ownBlock) ∧ BldAt T e b v bs w := by
  have hblk : blk? σ l i = some (.cells 2 [.int .i64 T, .int .i64 e, .str bs]) := by
    unfold cells? at hc
    split at hc
    · rename_i h
      split at hc
      · rename_i hv; subst hv; cases hc; exact h
      · cases hc
    · cases hc
  have key : ∀ L, g.loc l i = some L → RelB CR g w (.cells 2 [.int .i64 T, .int .i64 e, .str bs]) L := fun L hL => by
    obtain ⟨b1, h1, h2⟩ := hi.dom l i L hL
    rw [hblk] at h1; cases h1; exact h2
  cases hx with
  | yld _ _ b hL => exact (key _ hL).elim
  | mpv _ _ b hL => have h := (key _ hL).1; cases h
  | itv _ _ b L hL hd =>
    rcases hd with rfl | rfl
    · have h := (key _ hL).1; cases h
    · exact (key _ hL).elim
  | bdv _ _ b L hL hd =>
    rcases hd with ⟨c, rfl⟩ | rfl
    · obtain ⟨_, T', e', bs', p, s, h1, h2, h3, h4, h5, h6⟩ := key _ hL
      simp only [List.cons.injEq, D.int.injEq, D.str.injEq, and_true, true_and] at h1
      obtain ⟨hT, he, rfl⟩ := h1
      have hT : T = T' := by omega
      have he : e = e' := by omega
      subst hT he
      subst h5
      exact ⟨b, s, rfl, hL, ⟨p, h2, h3⟩, h4, h6⟩
    · exact (key _ hL).elim
theorem wstrC {T e : Nat} (hT : T < 65536) (h0 : ∃ F c, P.funcs[f]? = some F ∧ F.name ≠ "runtime.NumGoroutine" ∧ F.body = some c)
    (h : ∀ (b : Nat) (v : Value) (bs : List UInt8) (s : ByteArray) (w : World), BldAt T e b v bs w → bs.length + s.size ≤ 140737488355328 →
      Calls P f #[.pointer (some ⟨b, 0, none⟩), .string s] w fun r w' => r = .returned (.tuple #[.int .i64 s.size, .nilIface]) ∧
        ∃ v', BldAt T e b v' (bs ++ s.data.toList) w' ∧ Bare w w' b v.ownBlock ∧ (∀ k, v'.ownBlock = some k → v.ownBlock = some k ∨ (w.heap.size ≤ k ∧ k < w'.heap.size))) : NatC P CR (7 + 16 * (T + 65536 * e)) f := by
  intro args σ r hr
  have e1 : (7 + 16 * (T + 65536 * e)) % 16 = 7 := by omega
  have e2 : (7 + 16 * (T + 65536 * e)) / 16 % 65536 = T := by omega
  have e3 : (7 + 16 * (T + 65536 * e)) / 16 / 65536 = e := by omega
  simp only [natQ, e1, e2, e3] at hr
  split at hr <;> try cases hr
  all_goals try omega
  rename_i l i s _
  split at hr
  case h_2 => cases hr
  rename_i t ee bs hc
  simp only [Option.ite_none_right_eq_some, Option.some.injEq] at hr
  obtain ⟨⟨rfl, rfl, hb⟩, rfl⟩ := hr
  refine ⟨_, _, rfl, h0, fun base g w vs hi hl hp hr => ?_⟩
  obtain ⟨x, y, rfl, hx, hy⟩ := rel_two hr
  obtain ⟨s, rfl, rfl⟩ := rel_str hy
  obtain ⟨b, v, rfl, hL, hB⟩ := rel_yld hi hc hx
  have hblk : ∃ b0, blk? σ l i = some b0 := let ⟨b0, h1, _⟩ := hi.dom l i _ hL; ⟨b0, h1⟩
  obtain ⟨b0, hb0⟩ := hblk
  refine ⟨⟨setBlk_length, fun h => h.set fun _ => (by simp [Blk.low, D.lowL, D.low])⟩, (h b v bs s w hB (by simp at hb; omega)).mono ?_⟩
  rintro r w' ⟨rfl, v', hB', hk, hfr⟩
  obtain ⟨⟨p, k1, k2⟩, k3, k4⟩ := hB'
  have hlen : (bs ++ s.data.toList).length = (bs ++ s.data.toList).length := rfl
  obtain ⟨i2, e2⟩ := hi.setCells (w' := w') (L := .ob b v'.ownBlock) (v := 2) (ds := [.int .i64 T, .int .i64 e, .str (bs ++ s.data.toList)]) hL hb0 (.inl ⟨_, rfl⟩)
    ⟨rfl, T, e, _, p, v', rfl, k1, k2, k3, rfl, k4⟩ (fun k hk1 hk2 => hk.blk k hk1 (fun e => hk2 (.inl e.symm)) (fun e => hk2 (.inr e))) hk.os hk.tape hk.output hk.size (fun k hk1 => by
      rcases hk1 with rfl | hk1
      · exact .inl (.inl rfl)
      · rcases hfr k hk1 with h | h
        · exact .inl (.inr h)
        · exact .inr h)
  refine ⟨_, _, rfl, e2, i2, ?_⟩
  refine .tup _ _ (.cons _ _ _ _ ?_ (.cons _ _ _ _ .nili .nil))
  have : (s.data.toList.length : Int) = s.size := by simp
  rw [this]
  exact .int _ _
theorem bstrC {T e : Nat} (hT : T < 65536) (h0 : ∃ F c, P.funcs[f]? = some F ∧ F.name ≠ "runtime.NumGoroutine" ∧ F.body = some c)
    (h : ∀ (b : Nat) (v : Value) (bs : List UInt8) (w : World), BldAt T e b v bs w → bs ≠ [] →
      Calls P f #[.pointer (some ⟨b, 0, none⟩)] w fun r w' => r = .returned (.string ⟨bs.toArray⟩) ∧ BldAt T e b v bs w' ∧ Bare w w' b v.ownBlock) : NatC P CR (8 + 16 * (T + 65536 * e)) f := by
  intro args σ r hr
  have e1 : (8 + 16 * (T + 65536 * e)) % 16 = 8 := by omega
  have e2 : (8 + 16 * (T + 65536 * e)) / 16 % 65536 = T := by omega
  have e3 : (8 + 16 * (T + 65536 * e)) / 16 / 65536 = e := by omega
  simp only [natQ, e1, e2, e3] at hr
  split at hr <;> try cases hr
  all_goals try omega
  rename_i l i _
  split at hr
  case h_2 => cases hr
  rename_i t ee bs hc
  simp only [Option.ite_none_right_eq_some, Option.some.injEq] at hr
  obtain ⟨⟨rfl, rfl, hb⟩, rfl⟩ := hr
  refine ⟨_, _, rfl, h0, fun base g w vs hi hl hp hr => ⟨⟨rfl, fun h => h⟩, ?_⟩⟩
  obtain ⟨x, rfl, hx⟩ := rel_one hr
  obtain ⟨b, v, rfl, hL, hB⟩ := rel_yld hi hc hx
  refine (h b v bs w hB hb).mono ?_
  rintro r w' ⟨rfl, hB', hk⟩
  obtain ⟨⟨p, k1, k2⟩, k3, k4⟩ := hB'
  have hblk : blk? σ l i = some (.cells 2 [.int .i64 T, .int .i64 e, .str bs]) := by
    unfold cells? at hc
    split at hc
    · rename_i h
      split at hc
      · rename_i hv; subst hv; cases hc; exact h
      · cases hc
    · cases hc
  obtain ⟨i2, e2⟩ := hi.setCells (w' := w') (L := .ob b v.ownBlock) (v := 2) (ds := [.int .i64 T, .int .i64 e, .str bs]) hL hblk (.inl ⟨_, rfl⟩)
    ⟨rfl, T, e, _, p, v, rfl, k1, k2, k3, rfl, k4⟩ (fun k hk1 hk2 => hk.blk k hk1 (fun e => hk2 (.inl e.symm)) (fun e => hk2 (.inr e))) hk.os hk.tape hk.output hk.size (fun k hk1 => .inl hk1)
  rw [setBlk_self hblk] at i2
  exact ⟨_, _, rfl, e2, i2, .str ⟨bs.toArray⟩⟩
end
end Go.Abs

/-
  The contract of slices.Delete at texts, out of the library's own.
-/
set_option linter.unusedVariables false
set_option linter.unusedSimpArgs false
namespace Go.Abs
open Go
open Go.RowKit

structure RowX (w : World) (b o : Nat) (us : List Value) (w' : World) : Prop where
  row : ∀ c el, w.heap[b]? = some (.cells c el (0, 0)) → o + us.length ≤ c.size → ∃ c', w'.heap[b]? = some (.cells c' el (0, 0)) ∧ c'.size = c.size ∧
    ∀ j, c'[j]? = if o ≤ j ∧ j < o + us.length then us[j - o]? else c[j]?
  other : ∀ x, x < w.heap.size → x ≠ b → w'.heap[x]? = w.heap[x]?
  size : w.heap.size ≤ w'.heap.size
  os : w'.os = w.os
  tape : w'.tape = w.tape
  output : w'.output = w.output
def DelOk (P : Program) (f : Nat) : Prop :=
  (∃ F c, P.funcs[f]? = some F ∧ F.name ≠ "runtime.NumGoroutine" ∧ F.body = some c) ∧
  ∀ (b o cap i j : Nat) (xs : List (List UInt8)) (w : World) (c : Array Value) (el : TypeId), w.heap[b]? = some (.cells c el (0, 0)) → o + xs.length ≤ c.size →
    (∀ k s, xs[k]? = some s → c[o + k]? = some (Go.Proofs.encStr s)) → xs.length < 4611686018427387904 → xs.length ≤ cap → cap ≤ 9223372036854775807 → i ≤ j → j ≤ xs.length →
    Calls P f #[.slice (some ⟨b, o, none⟩) xs.length cap, .int .i64 i, .int .i64 j] w fun e w' => e = .returned (.slice (some ⟨b, o, none⟩) (xs.length - (j - i)) cap) ∧ RowX w b o ((delF i j xs).map Go.Proofs.encStr) w'

theorem strsOf_del : ∀ {ds : List D} {xs : List (List UInt8)}, strsOf ds = some xs → ds = xs.map .str
  | [], zs, h => by cases h; rfl
  | d :: ds, zs, h => by
    cases d with
    | str s =>
      simp only [strsOf, Option.map_eq_some_iff] at h
      obtain ⟨l, h1, rfl⟩ := h
      rw [strsOf_del h1]
      rfl
    | _ => simp [strsOf] at h
theorem relL_del {g : G} : ∀ l : List (List UInt8), RelL g (l.map .str) (l.map Go.Proofs.encStr)
  | [] => .nil
  | z :: l => .cons _ _ _ _ (.str ⟨z.toArray⟩) (relL_del l)
theorem delF_length {a b : Nat} {xs : List (List UInt8)} (h1 : a ≤ b) (h2 : b ≤ xs.length) : (delF a b xs).length = xs.length := by
  simp [delF]; omega

theorem delC {P : Program} (CR : CRel) {f : Nat} (hs : DelOk P f) : NatC P CR 9 f := by
  intro args σ r h
  simp only [natQ, Nat.reduceMod] at h
  split at h
  all_goals first | cases h; done | skip
  all_goals try omega
  rename_i l i v off n w1 a b _
  split at h
  case isFalse => cases h
  rename_i hk
  obtain ⟨hn, rfl, hn2, h0a, hab, hbn⟩ := hk
  split at h
  case h_2 => cases h
  rename_i cs hcs
  split at h
  case isFalse => cases h
  rename_i hlen
  split at h
  case h_2 => cases h
  rename_i zs hzs
  cases h
  obtain ⟨hfn, hsort⟩ := hs
  obtain ⟨p, rfl⟩ := Int.eq_ofNat_of_zero_le h0a
  obtain ⟨q, rfl⟩ := Int.eq_ofNat_of_zero_le (Int.le_trans h0a hab)
  simp only [Int.toNat_natCast] at *
  have hab' : p ≤ q := by omega
  have hqn : q ≤ n := by omega
  have hz := strsOf_del hzs
  have hzl : zs.length = n := by
    have := congrArg List.length hz
    simp at this
    omega
  unfold cells? at hcs
  split at hcs
  case h_2 => cases hcs
  rename_i v' cs' hblk
  split at hcs
  case isFalse => cases hcs
  rename_i hv; subst hv; cases hcs
  have hdl : (delF p q zs).length = zs.length := delF_length hab' (by omega)
  have hcl : ∀ m, D.lowL m cs = true → D.lowL m (cs.take off ++ (delF p q zs).map .str ++ cs.drop (off + n)) = true := fun m hm => by
    have hi : D.lowL m ((delF p q zs).map D.str) = true := by
      generalize delF p q zs = l
      induction l with
      | nil => rfl
      | cons z l ih =>
        simp only [List.map_cons, D.lowL, D.low, Bool.true_and] at ih ⊢
        exact ih
    simp only [lowL_append]
    exact ⟨⟨lowL_take hm, hi⟩, lowL_drop hm⟩
  refine ⟨_, _, rfl, hfn, fun base g w vs hi hl hp hr => ?_⟩
  have hgoes : Goes σ (setBlk σ l i (.cells v' (cs.take off ++ (delF p q zs).map .str ++ cs.drop (off + n)))) :=
    ⟨setBlk_length, fun h => h.set fun hlt => hcl _ (h l i _ hblk hlt : Blk.low (l + 1) (.cells v' cs))⟩
  refine ⟨hgoes, ?_⟩
  obtain ⟨vs⟩ := vs
  cases hr with
  | cons _ c0 _ cs0 hr1 hr2 =>
  cases hr2 with
  | cons _ c1 _ cs1 hr3 hr4 =>
  cases hr4 with
  | cons _ c2 _ cs2 hr5 hr6 =>
  cases hr6
  cases hr3
  cases hr5
  cases hr1 with
  | sl _ _ _ _ _ _ a cap L k1 k2 k3 k4 k5 k6 k7 =>
  obtain ⟨b1, hb1, hrel⟩ := hi.dom l i L k1
  rw [hblk] at hb1; cases hb1
  cases L with
  | dead => exact hrel.elim
  | lp z => exact hrel.elim
  | mp z => exact k2.elim
  | it z => exact k2.elim
  | ob z _ => exact k2.elim
  | virt v2 =>
    obtain ⟨_, rfl⟩ := hrel
    simp at hlen
    omega
  | «at» blk bo v2 bsz =>
    obtain ⟨rfl, ca, el, hheap, hcsz, hlen2, us, hru, hus⟩ := hrel
    have hcap : cap ≠ 0 := by omega
    have ha : a = some ⟨blk, bo + off, none⟩ := by
      rcases k6 blk bo bsz rfl with h | h
      · exact h.1
      · exact absurd h hcap
    subst ha
    subst hzl
    have hul := hru.length
    have hcell : ∀ j z, zs[j]? = some z → ca[bo + off + j]? = some (Go.Proofs.encStr z) := fun j z hj => by
      have h1 : cs[off + j]? = some (.str z) := by
        have h2 : ((cs.drop off).take zs.length)[j]? = some (.str z) := by
          rw [hz]
          simp [hj]
        rw [List.getElem?_take] at h2
        split at h2
        · rwa [List.getElem?_drop] at h2
        · cases h2
      obtain ⟨u, hu1, hu2⟩ := hru.get h1
      have h3 : u = Go.Proofs.encStr z := by cases hu2 with | str b => rfl
      subst h3
      have := (hus _ _ hu1).1
      rwa [← Nat.add_assoc] at this
    have hbig : zs.length < 4611686018427387904 := by omega
    have hc := hsort blk (bo + off) cap p q zs w ca el hheap (by omega) hcell hbig k3.1 (by omega) hab' (by omega)
    intro cs1
    obtain ⟨e, w', fr, ⟨he, hw⟩, h2, h3, h4⟩ := hc cs1
    subst he
    obtain ⟨c', hb', hs', hc'⟩ := hw.row ca el hheap (by simp only [List.length_map, hdl]; omega)
    simp only [List.length_map, hdl] at hc'
    have hle2 : g.le (g.setLoc l i (.at blk bo v' bsz)) := G.le_setLoc fun L0 e0 => by rw [k1] at e0; cases e0; exact Loc.le_refl _
    have hps : ((delF p q zs).map Go.Proofs.encStr).length = zs.length := by simp [hdl]
    obtain ⟨i2, e2⟩ := hi.setCells (w' := w') (L := .at blk bo v' bsz) (v := v') (ds := cs.take off ++ (delF p q zs).map .str ++ cs.drop (off + zs.length)) k1 hblk (Loc.le_refl _)
      ⟨rfl, c', el, hb', by rw [hs', hcsz], by simp [hdl]; omega, us.take off ++ (delF p q zs).map Go.Proofs.encStr ++ us.drop (off + zs.length),
        (((hru.take off).append (relL_del _)).append (hru.drop _)).mono hle2, by
          have := row_write (c := ca) (c' := c') (bo := bo) (off := off) (vs := us) (ps := (delF p q zs).map Go.Proofs.encStr) hus (by
            intro x hx
            simp only [List.mem_map] at hx
            obtain ⟨z, _, rfl⟩ := hx
            rfl) (by rw [hps]; omega) (by rw [hps]; exact hc')
          rw [hps] at this; exact this⟩
      (fun b' hb' hne => hw.other b' hb' (fun hh => hne (by rw [hh]; rfl))) hw.os hw.tape hw.output hw.size (fun b' hb' => .inl hb')
    refine ⟨_, w', fr, ⟨_, _, rfl, e2, i2, ?_⟩, h2, h3, h4⟩
    exact .sl _ _ _ _ _ _ _ _ (.at blk bo v' bsz) G.setLoc_same (Nat.le_refl _) (by omega) (by simp) (by rintro x hx hh; cases hx; rfl) (by rintro blk2 bo2 sz2 hh; cases hh; left; exact ⟨rfl, by rcases k6 _ _ _ rfl with h | h <;> omega⟩) (by intro hh; cases hh)
end Go.Abs

/-
  The contracts of the library's functions on texts, at a program's numbers.
-/
set_option linter.unusedVariables false
namespace Go.Abs
open Go
open Go.RowKit Go.Shelf Go.Sort Go.Proofs

section
variable {P : Program} {ρ : Ren} {k : Nat}
theorem nat_itoa (L : LaysM.n171 P ρ) (hk : ρ.f 171 = k) (h0 : ∃ F c, P.funcs[k]? = some F ∧ F.name ≠ "runtime.NumGoroutine" ∧ F.body = some c) : NatC P (CR0 P) 3 k := by
  subst hk
  refine itoaC L.m17 h0 fun n w h1 h2 ht => (Any.strconv_Itoa L n h1 h2 w ht).mono ?_
  rintro e w' ⟨he, q, os, rfl⟩
  exact ⟨he, rfl, rfl, rfl, by simp [grow], fun j hj => by simp only [grow]; rw [Array.getElem?_append_left (by simpa using hj)]; rfl⟩
theorem nat_atoi (L : LaysC.n172 P ρ) (hk : ρ.f 172 = k) {t : Nat} (ht : ρ.t 168 = t) (h0 : ∃ F c, P.funcs[k]? = some F ∧ F.name ≠ "runtime.NumGoroutine" ∧ F.body = some c) : NatC P (CR0 P) (4 + 16 * t) k := by
  subst hk ht
  refine atoiC L.m15 L.m16 h0 (fun s v w hs h => (Any.strconv_Atoi_ok L s hs v h w).mono ?_) (fun s ev w hs h hv he => (Any.strconv_Atoi_syntax L s hs h ev w hv he).mono ?_) (fun s ev w hs h hv he => (Any.strconv_Atoi_range L s hs h ev w hv he).mono ?_)
  · rintro e w' ⟨he, rfl | ⟨s, rfl⟩⟩
    · exact ⟨he, Below.refl _ _⟩
    · exact ⟨he, Joins.below_bytesWorld _ _ _ _ (Nat.le_refl _)⟩
  · rintro e w' ⟨N, he, _, _, hb⟩
    exact ⟨_, he, hb⟩
  · rintro e w' ⟨N, he, _, _, hb⟩
    exact ⟨_, he, hb⟩
theorem nat_split (L : Lays.n146 P ρ) (hk : ρ.f 146 = k) {m : Nat} (hm : P.globalNamed "internal/bytealg.MaxLen" = some m) (hm' : ρ.g 1 = m) (hi : (P.info? (ρ.t 9)).map (fun i => (i.zero, i.size, i.bytes)) = some (some (.string ByteArray.empty), 1, 16))
    (h0 : ∃ F c, P.funcs[k]? = some F ∧ F.name ≠ "runtime.NumGoroutine" ∧ F.body = some c) : NatC P (CR0 P) 6 k := by
  subst hk hm'
  exact splitC hm h0 fun s sep m w h1 h2 h3 => Any.strings_Split L hi s sep m w h1 h2 h3
theorem nat_join (L : Lays.n156 P ρ) (X : Builder.Extra P ρ) (hk : ρ.f 156 = k) (h0 : ∃ F c, P.funcs[k]? = some F ∧ F.name ≠ "runtime.NumGoroutine" ∧ F.body = some c) : NatC P (CR0 P) 5 k := by
  subst hk
  exact joinC h0 (fun a c sep w => Any.strings_Join_none L X a c sep w) (fun bk o c xs sep w h1 h2 h3 h4 h5 => Any.strings_Join L X bk o c xs sep w h1 h2 h3 h4 h5)
theorem nat_wstr {CR : CRel} (L : Lays.n166 P ρ) (X : Builder.Extra P ρ) (hk : ρ.f 166 = k) {T e : Nat} (hT : ρ.t 72 = T) (he : ρ.t 5 = e) (hlt : T < 65536) (h0 : ∃ F c, P.funcs[k]? = some F ∧ F.name ≠ "runtime.NumGoroutine" ∧ F.body = some c) :
    NatC P CR (7 + 16 * (T + 65536 * e)) k := by
  subst hk hT he
  exact wstrC hlt h0 fun b v bs s w h1 h2 => wstr L X b v bs s w h1 h2
theorem nat_bstr {CR : CRel} (L : Lays.n169 P ρ) (X : Builder.Extra P ρ) (hk : ρ.f 169 = k) {T e : Nat} (hT : ρ.t 72 = T) (he : ρ.t 5 = e) (hlt : T < 65536) (h0 : ∃ F c, P.funcs[k]? = some F ∧ F.name ≠ "runtime.NumGoroutine" ∧ F.body = some c) :
    NatC P CR (8 + 16 * (T + 65536 * e)) k := by
  subst hk hT he
  exact bstrC hlt h0 fun b v bs w h1 h2 => bstr L X b v bs w h1 h2
theorem nat_del {CR : CRel} (L : Lays2.n24 P ρ) (hk : ρ.f 24 = k) (h0 : ∃ F c, P.funcs[k]? = some F ∧ F.name ≠ "runtime.NumGoroutine" ∧ F.body = some c) : NatC P CR 9 k := by
  subst hk
  refine delC CR ⟨h0, fun b o cap i j xs w c el hb hlen hcell hbig hcap hm hij hj => ?_⟩
  have hlt : b < w.heap.size := (Array.getElem?_eq_some_iff.1 hb).1
  have hH : Holds encStr w b o xs.toArray := by
    intro q hq
    have hq' : q < xs.length := by simpa using hq
    have h1 := hcell q xs[q] (by simp [hq'])
    refine ⟨?_, by simp [World.frozen?, hb]⟩
    have h2 : xs.toArray[q]! = xs[q] := by simp [hq']
    rw [h2]
    simp [World.cell?, hb, h1]
  refine (Any.slices_Delete_string L b o cap i j xs w hH hcap hm hij hj).mono ?_
  rintro e w' ⟨he, q, rfl⟩
  refine ⟨he, ?_⟩
  have hdl := delF_length hij hj
  have hmod : ∀ x, x < w.heap.size → (putRow encStr (Sort.ahead w q) b o (delF i j xs).toArray).heap[x]? = (if b = x then (w.heap[x]?).map (onCells (putCells encStr o (delF i j xs).toArray)) else w.heap[x]?) := fun x hx => by
    simp only [putRow, mapBlock]
    rw [Array.getElem?_modify]
    rfl
  refine ⟨fun c1 el1 hb1 hl1 => ?_, fun x hx hne => ?_, ?_, rfl, rfl, rfl⟩
  · have h1 := hmod b hlt
    rw [if_pos rfl, hb1] at h1
    refine ⟨_, h1, by simp [putCells], fun j' => ?_⟩
    simp only [putCells, Array.getElem?_mapIdx]
    have hsz : (delF i j xs).toArray.size = (delF i j xs).length := by simp
    rw [hsz]
    simp only [List.length_map] at hl1 ⊢
    by_cases hj : o ≤ j' ∧ j' < o + (delF i j xs).length
    · rw [if_pos hj]
      have hjc : j' < c1.size := by omega
      have hjs : j' - o < (delF i j xs).length := by omega
      simp [hjc, hj, hjs]
    · rw [if_neg hj]
      cases c1[j']? with
      | none => rfl
      | some v => simp [hj]
  · exact (hmod x hx).trans (if_neg (fun h => hne h.symm))
  · show w.heap.size ≤ (putRow encStr (Sort.ahead w q) b o (delF i j xs).toArray).heap.size
    simp [putRow, mapBlock]
end
end Go.Abs

/-
  What is known of the program's own variables, out of a row's condition.
-/
set_option linter.unusedVariables false
namespace Go.Abs
open Go

theorem laid_at {P : Program} {w : World} : ∀ {l : List (String × DataW Unit)} {ps : List MemPlace}, DataW.LaidVars P w l ps → ∀ x ∈ l,
    ∃ g t cs fuel p, P.globalNamed x.1 = some g ∧ (P.globals[g]?).map (·.type) = some t ∧ w.var? P x.1 = some cs ∧ DataW.trod (fun _ => ()) P w 0 (fun _ => true) false fuel t cs.toList = some (x.2, p) ∧
      ∀ m ∈ MemPlace.row ⟨g, 0, none⟩ cs.size, m ∈ ps
  | [], _, _, x, hx => by cases hx
  | (n, d) :: r, ps, h, x, hx => by
    obtain ⟨g, t, cs, fuel, p, q, h1, h2, h3, h4, h5, rfl⟩ := h
    rcases List.mem_cons.1 hx with rfl | hx
    · exact ⟨g, t, cs, fuel, p, h1, h2, h3, h4, fun m hm => by simp [hm]⟩
    · obtain ⟨g', t', cs', f', p', k1, k2, k3, k4, k5⟩ := laid_at h5 x hx
      exact ⟨g', t', cs', f', p', k1, k2, k3, k4, fun m hm => by simp [k5 m hm]⟩
theorem laid_heap {P : Program} {w : World} {l : List (String × DataW Unit)} (hl : laidMet P l w) {n : String} {d : DataW Unit} (hx : (n, d) ∈ l) {b t : Nat} (hb : P.globalNamed n = some b) (ht : (P.globals[b]?).map (·.type) = some t) :
    ∃ cs fuel p, DataW.trod (fun _ => ()) P w 0 (fun _ => true) false fuel t cs.toList = some (d, p) ∧ (0 < cs.size → ∃ t', w.heap[b]? = some (.cells cs t' (0, 0))) := by
  obtain ⟨ps, h1, _, h2⟩ := hl
  obtain ⟨g, t', cs, fuel, p, k1, k2, k3, k4, k5⟩ := laid_at h1 _ hx
  obtain rfl := Option.some.inj (hb.symm.trans k1)
  obtain rfl := Option.some.inj (ht.symm.trans k2)
  refine ⟨cs, fuel, p, k4, fun hpos => ?_⟩
  obtain ⟨⟨c, t', hc⟩, _⟩ := h2 b 0 (k5 _ (by simp only [MemPlace.row, List.mem_map, List.mem_range]; exact ⟨0, hpos, by simp⟩))
  simp only [World.var?, hb, Option.bind_some, hc, Option.some.injEq] at k3
  subst k3
  exact ⟨t', hc⟩
theorem glb_err {P : Program} {w : World} {l : List (String × DataW Unit)} (hl : laidMet P l w) {n nm : String} {d : DataW Unit} (hx : (n, .iface nm d) ∈ l) {b t : Nat} {ms : Array (String × TypeId)} (hb : P.globalNamed n = some b)
    (ht : (P.globals[b]?).map (·.type) = some t) (hu : P.underlying t = some (.interface ms)) : ∃ c t v, w.heap[b]? = some (.cells c t (0, 0)) ∧ c[0]? = some v ∧ v.oneCell' = true ∧ QErr (.cells c t (0, 0)) := by
  obtain ⟨cs, fuel, p, h1, h2⟩ := laid_heap hl hx hb ht
  obtain ⟨f1, u, v, hcs, _⟩ := iface_of_trod hu h1
  obtain rfl : cs = #[.iface u v] := by rw [← Array.toList_inj, hcs]
  obtain ⟨t', hc⟩ := h2 (by simp)
  exact ⟨_, t', .iface u v, hc, by simp, rfl, _, t', _, .iface u v, rfl, by simp, .inr ⟨u, v, rfl⟩⟩
theorem glb_tab {P : Program} {w : World} {l : List (String × DataW Unit)} (hl : laidMet P l w) {n : String} (hx : (n, Lib.tabData .u64 Lib.pow10Tab) ∈ l) {b t e k : Nat} (hb : P.globalNamed n = some b)
    (ht : (P.globals[b]?).map (·.type) = some t) (hu : P.underlying t = some (.array k e)) (he : P.underlying e = some (.int .u64)) (hce : P.cellsOf e = 1) (hct : P.cellsOf t = k) :
    ∃ c t v, w.heap[b]? = some (.cells c t (0, 0)) ∧ c[0]? = some v ∧ v.oneCell' = true ∧ QPow (.cells c t (0, 0)) := by
  obtain ⟨cs, fuel, p, h1, h2⟩ := laid_heap hl hx hb ht
  have hcs := Lib.cells_of_tab hu he hce hct h1
  obtain rfl : cs = (Lib.pow10Tab.map (Value.int .u64)).toArray := by rw [← Array.toList_inj, hcs]
  obtain ⟨t', hc⟩ := h2 (by decide)
  exact ⟨_, t', .int .u64 1, hc, rfl, rfl, t', _, rfl⟩
theorem glb_max {P : Program} {w : World} (h : w.ShapedOpen P) {g t : Nat} {zero : Array Value} (hg : g < P.globals.size) (h0 : ((begin P (fun _ _ => 0) default).world.heap[g]?).bind Obj.row? = some (zero, t)) (hz : zero.size = 1)
    (hb : P.buildable t = true) (hc : P.cellTypes P.depth t = some [t]) (hu : P.underlying t = some (.int .i64)) : ∃ c t v, w.heap[g]? = some (.cells c t (0, 0)) ∧ c[0]? = some v ∧ v.oneCell' = true ∧ QMax (.cells c t (0, 0)) := by
  obtain ⟨m, hm⟩ := Go.Proofs.cell_of_shapedOpen_int h hg h0 hz hb hc hu
  obtain ⟨cs, hh, _⟩ := h.1 g zero t hg h0
  have h1 : cs[0]? = some (.int .i64 m) := by simpa [World.cell?, hh] using hm
  exact ⟨cs, t, _, hh, h1, rfl, cs, t, _, m, rfl, h1⟩
end Go.Abs
