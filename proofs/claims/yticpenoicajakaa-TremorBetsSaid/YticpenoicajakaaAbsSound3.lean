/-
  Loops and rounds; what is answered at last is sound.
-/
import Derived.Test.YticpenoicajakaaAbsSound2
set_option linter.unusedVariables false
set_option linter.unusedSimpArgs false
namespace Go.Abs
open Go

theorem Ent.cut {fb : Nat} {V : List Nat} {g : G} {w : World} {B : Nat → Nat} {e0 : Env} {tmps : Array Value} {p : Nat × D} {n : Nat} (h : Ent fb V g w B e0 tmps p) (hl : p.2.low n = true) : Ent fb V (g.cut n) w B e0 tmps p := by
  obtain ⟨t, d⟩ := p
  unfold Ent at h ⊢
  dsimp only at h ⊢ hl
  split
  · rename_i s cs
    obtain ⟨h1, h2, h3, h4⟩ := h
    obtain ⟨c, el, k1, k2, k3⟩ := h4.blk
    exact ⟨h1, h2, h3, h4.lo, fun hh => h4.free (G.cut_has hh), h4.noimm, c, el, k1, k2.cut hl, k3⟩
  · rename_i hd
    cases d with
    | own s cs => exact absurd rfl (hd s cs)
    | _ => exact RelV.cut h hl

theorem cut_le {g g' : G} {n : Nat} (h : g.le g') (hn : ∀ l i L, g.loc l i = some L → l < n) : g.le (g'.cut n) :=
  ⟨fun l i L e => by rw [G.cut_loc (hn l i L e)]; exact h.loc l i L e, h.imm⟩

section
variable {P : Program} {T : Tbl} {O : Oracle}

theorem loop_sound (hm : P.follows .mixedOrders = true) (hO : OrOk P (CR0 P) O) {live : List Nat} {seg : Bool} {c : Cmd} {env : Env} {σ : Stack} {r : R}
    (h : stepQ T O (.loop live seg c env σ) = some r) : AnsOk P (CR0 P) (.loop live seg c env σ) r := by
  simp only [stepQ] at h
  cases hac : acode O c (restrict live env) (if seg then [] :: σ else σ) with
  | none => simp [hac] at h
  | some y =>
  obtain ⟨x, e1, σ1⟩ := y
  rw [hac] at h
  dsimp only at h
  -- one turn
  have turn : ∀ e2 σ2, (if seg then (let r := frzE (σ.length - 1) (restrict (liveAt live x e1) e1) σ1; (r.1, r.2.tail)) else (e1, σ1)) = (e2, σ2) →
      ∀ (ann : Ann) blk code n, codeC P ann n blk code = some c → ∀ base g0 w0 b a k cs g w B, At (CR0 P) base ann.ownv g0 w0 n b g w B env σ a →
      Ends P ann n base g0 w0 b cs g w a (.code code :: .inLoop code :: k) (.inLoop code :: k) σ x e2 σ2 := by
    intro e2 σ2 he ann blk code n hc base g0 w0 b a k cs g w B ha
    cases seg with
    | false =>
      simp only [Bool.false_eq_true, if_false, Prod.mk.injEq] at he hac
      obtain ⟨rfl, rfl⟩ := he
      exact code_ok hm hO code hc hac (ha.restrict live)
    | true =>
      simp only [if_true] at he hac
      have ha1 : At (CR0 P) base ann.ownv g0 w0 n b g w B (restrict live env) ([] :: σ) a :=
        { ha.restrict live with inv := ha.inv.push, low := ha.low.push ha.inv, pos := by simp }
      obtain ⟨g1, w1, B1, a1, todo, k1, k2, k3, k4, k5⟩ := code_ok (cs := cs) (k := .inLoop code :: k) hm hO code hc hac ha1
      have hents := k2.fr.ents (liveAt live x e1)
      obtain ⟨g2, i2, ev2, hents2⟩ := frzE_ok (CR := CR0 P) (base := base) (σ.length - 1) _ σ1 g1 k2.inv hents
      obtain ⟨hlow, hgo⟩ := frzE_spec (σ.length - 1) (restrict (liveAt live x e1) e1) σ1
      cases hfz : frzE (σ.length - 1) (restrict (liveAt live x e1) e1) σ1 with
      | mk e3 σ3 =>
      rw [hfz] at he i2 hents2 hlow hgo
      simp only [Prod.mk.injEq] at he
      obtain ⟨rfl, rfl⟩ := he
      have hl3 : LowS σ3 := hgo.low k2.low
      have hlen3 : σ3.length = σ.length + 1 := by
        have h1 := hgo.len
        have h2 := k5.len
        simp at h1 h2; omega
      cases σ3 with
      | nil => simp at hlen3
      | cons s σ2 =>
      have hlen2 : σ2.length = σ.length := by simpa using hlen3
      have hpos := ha.pos
      rw [show σ.length - 1 + 1 = σ2.length from by omega] at hlow
      have hlvl : ∀ l i L, g.loc l i = some L → l < σ2.length := fun l i L h => by rw [hlen2]; exact ha.inv.lvl h
      have hlvl0 : ∀ l i L, g0.loc l i = some L → l < σ2.length := fun l i L h => by
        obtain ⟨L', h', _⟩ := ha.ev.le.loc l i L h
        exact hlvl l i L' h'
      obtain ⟨i3, l3⟩ := i2.pop hl3
      obtain ⟨rs, hmk⟩ := k2.marks
      have hmk2 := hmk.ev ev2
      have hle : g.le (g2.cut σ2.length) := cut_le (k3.trans' ev2.le) hlvl
      refine ⟨g2.cut σ2.length, w1, B1, a1, todo, k1, ⟨Ent.fr k2.fr fun p hp => (hents2 p hp).cut (hlow p hp), (k2.ev.trans ev2).cut hlvl0, i3, l3, by simpa [hlen2] using hpos, k2.size, ⟨rs, hmk2.eq, hmk2.nodup, fun r hr => ?_⟩, round_mono ha.round hle⟩, hle, k4, ⟨hlen2, fun _ => l3⟩⟩
      have := hmk2.all r hr
      exact ⟨this.lo, fun hh => this.free (G.cut_has hh), this.noimm, this.blk⟩
  cases hfin : (if seg then (let r := frzE (σ.length - 1) (restrict (liveAt live x e1) e1) σ1; (r.1, r.2.tail)) else (e1, σ1)) with
  | mk e2 σ2 =>
  have turn' := turn e2 σ2 hfin
  rw [hfin] at h
  dsimp only at h
  cases x with
  | normal =>
    dsimp only at h
    have hans := hO _ _ h
    cases r with
    | val => trivial
    | ctl x e' σ' =>
      obtain ⟨hx, hloop⟩ := hans
      refine ⟨hx, fun ann blk code n hc base g0 w0 b a k cs g w B ha => ?_⟩
      obtain ⟨g1, w1, B1, a1, todo, k1, k2, k3, k4, k5⟩ := turn' ann blk code n hc base g0 w0 b a k cs g w B ha
      obtain rfl := k4
      obtain ⟨g2, w2, B2, a2, todo2, m1, m2, m3, m4, m5⟩ := hloop ann blk code n hc base g0 w0 b a1 k cs g1 w1 B1 k2
      exact ⟨g2, w2, B2, a2, todo2, .trans k1 (.head stepR_inLoop m1), m2, k3.trans' m3, m4, k5.trans m5⟩
  | exit id =>
    cases h
    refine ⟨by simp, fun ann blk code n hc base g0 w0 b a k cs g w B ha => ?_⟩
    obtain ⟨g1, w1, B1, a1, todo, k1, k2, k3, k4, k5⟩ := turn' ann blk code n hc base g0 w0 b a k cs g w B ha
    exact ⟨g1, w1, B1, a1, todo, k1, k2, k3, k4.skip (fun _ => by simp) (by simp), k5⟩
  | ret =>
    cases h
    refine ⟨by simp, fun ann blk code n hc base g0 w0 b a k cs g w B ha => ?_⟩
    obtain ⟨g1, w1, B1, a1, todo, k1, k2, k3, k4, k5⟩ := turn' ann blk code n hc base g0 w0 b a k cs g w B ha
    exact ⟨g1, w1, B1, a1, todo, k1, k2, k3, k4.skip (fun _ => by simp) (by simp), k5⟩

/-- The arguments of a round in its temporaries. -/
theorem putAll_rel {g : G} : ∀ (ts : List Nat) (ds : List D) (vs : List Value) (e : Env) (tmps : Array Value), RelL g ds vs → ds.length = ts.length → (∀ t ∈ ts, t < tmps.size) → RelEnv g e tmps →
    RelEnv g (putAll ts ds e) ((ts.zip vs).foldl (fun tmps (t, a) => tmps.setIfInBounds t a) tmps) ∧ ((ts.zip vs).foldl (fun tmps (t, a) => tmps.setIfInBounds t a) tmps).size = tmps.size
  | [], ds, vs, e, tmps, hr, hl, hs, he => by
    have : ds = [] := by simpa using hl
    subst this
    exact ⟨he, rfl⟩
  | t :: ts, [], vs, e, tmps, hr, hl, hs, he => by simp at hl
  | t :: ts, d :: ds, vs, e, tmps, hr, hl, hs, he => by
    cases hr with
    | cons _ c _ cs h1 h2 =>
      have he2 : RelEnv g ((t, d) :: e) (tmps.setIfInBounds t c) := fun u => by
        simp only [get]
        rw [Array.getD_eq_getD_getElem?]
        by_cases hu : t = u
        · subst hu
          rw [if_pos rfl]
          simpa [hs t (by simp)] using h1
        · rw [if_neg hu, Array.getElem?_setIfInBounds_ne hu, ← Array.getD_eq_getD_getElem?]; exact he u
      obtain ⟨k1, k2⟩ := putAll_rel ts ds cs ((t, d) :: e) (tmps.setIfInBounds t c) h2 (by simpa using hl) (fun u hu => by simpa using hs u (by simp [hu])) he2
      exact ⟨k1, by simpa using k2⟩

theorem RelEnv.fr {g : G} {w : World} {e : Env} {tmps : Array Value} {fb : Nat} {V : List Nat} {B : Nat → Nat} (h : RelEnv g e tmps) : Fr fb V g w B e tmps := by
  have hno : ∀ t s cs, get e t ≠ .own s cs := fun t s cs => not_own (h t) s cs
  refine ⟨fun t => ?_, fun t s cs ht => absurd ht (hno t s cs), fun t t' s s' cs cs' ht => absurd ht (hno t s cs)⟩
  have := h t
  cases hd : get e t with
  | own s cs => trivial
  | vr => rw [hd] at this; cases this
  | _ => rw [hd] at this; exact this

theorem round_sound (hm : P.follows .mixedOrders = true) (hO : OrOk P (CR0 P) O) {l i : Nat} {args : List D} {σ : Stack} {r : R}
    (h : stepQ T O (.round l i args σ) = some r) : AnsOk P (CR0 P) (.round l i args σ) r := by
  simp only [stepQ] at h
  split at h
  case h_2 => cases h
  rename_i lp hlp
  split at h
  case isFalse => cases h
  rename_i hlen
  split at h
  case h_2 => cases h
  rename_i e1 σ1 hasg
  split at h
  case h_2 => cases h
  rename_i lp1 hlp1
  split at h
  case isFalse => cases h
  rename_i hst
  split at h
  case h_2 => cases h
  rename_i x e2 s σ2 hbody
  split at h
  case h_2 => cases h
  rename_i lp2 hlp2
  -- the walk of a round, up to its end
  have walk : ∀ base g w (vs : Array Value) b, Inv (CR0 P) base g σ w → LowS σ → 0 < σ.length → RelL g args vs.toList → RelV g (.yld l i) (.func (.yield b) #[] #[]) →
      ∃ f tmps asg body, (Instr.yield b vs).run P w = .ok (.round b f tmps asg body) w ∧ ∀ cs, ∃ fb a' todo g' w' r2, Steps P (lone (Frame.round b f tmps asg body .normal) cs w) (lone (Frame.atR fb a' todo) cs w') ∧
        fb.roundOf = some b ∧ fb.kind = .normal ∧ Lands [] x todo ∧ Ev g w g' w' ∧ Inv (CR0 P) base g' σ2 w' ∧ LowS σ2 ∧ σ2.length = σ.length ∧ g'.loc l i = some (.lp b) ∧ w'.heap[b]? = some (.loop r2) ∧ RelLoop (CR0 P) g' lp2 r2 := by
    intro base g w vs b hi hl hp hr hy
    cases hy with
    | yld _ _ _ L hL hLb =>
    obtain ⟨b0, hb0, hrel⟩ := hi.dom l i L hL
    rw [hlp] at hb0; cases hb0
    cases L with
    | «at» => exact hrel.elim
    | virt => exact hrel.elim
    | dead => exact hrel.elim
    | lp lb =>
    obtain rfl := hLb lb rfl
    obtain ⟨r, hheap, hR⟩ := hrel
    have hpar : r.params.toList = lp.params := hR.params
    have hsize : vs.size = r.params.size := by
      have h1 := hr.length
      have h2 : r.params.toList.length = lp.params.length := by rw [hpar]
      simp at h1 h2; omega
    have hyield := run_yield (P := P) hheap hsize
    have hfold : (r.params.zip vs).foldl (fun tmps (t, a) => tmps.setIfInBounds t a) r.tmps = (lp.params.zip vs.toList).foldl (fun tmps (t, a) => tmps.setIfInBounds t a) r.tmps := by
      rw [← Array.foldl_toList, Array.toList_zip, hpar]
    rw [hfold] at hyield
    obtain ⟨hrelE, hsizeE⟩ := putAll_rel lp.params args vs.toList lp.env r.tmps hr hlen hR.small hR.env
    obtain ⟨ann, blk, hboth⟩ := hR.both
    simp only [codeC] at hboth
    split at hboth
    case h_2 => cases hboth
    rename_i A' B' hA hB
    cases hboth
    refine ⟨_, _, _, _, hyield, fun cs => ?_⟩
    generalize htm : (lp.params.zip vs.toList).foldl (fun tmps (t, a) => tmps.setIfInBounds t a) r.tmps = tm at hrelE hsizeE
    let fb : Frame := Frame.round b r.fn tm r.assign r.body .normal
    have hfr : Frame.round b r.fn tm r.assign r.body .normal = fb.atR ⟨tm, []⟩ [.code r.assign, .beginRound, .code r.body] := rfl
    have ha : At (CR0 P) base ann.ownv g w r.tmps.size fb g w (fun _ => 0) (putAll lp.params args lp.env) ([] :: σ) ⟨tm, []⟩ :=
      ⟨hrelE.fr, Ev.refl g w, hi.push, hl.push hi, by simp, hsizeE, ⟨[], rfl, List.nodup_nil, by simp⟩, .inr ⟨b, l, i, rfl, hL⟩⟩
    obtain ⟨g1, w1, B1, a1, t1, k1, k2, k3, k4, k5⟩ := code_ok (b := fb) (cs := cs) (k := [.beginRound, .code r.body]) hm hO r.assign hA hasg ha
    obtain rfl := k4
    -- the record is busy
    obtain ⟨L1, hL1, hle1⟩ := k3.loc l i _ hL
    rw [Loc.lp_le hle1] at hL1
    obtain ⟨b1, hb1, hrel1⟩ := k2.inv.dom l i _ hL1
    rw [hlp1] at hb1; cases hb1
    obtain ⟨r1, hheap1, hR1⟩ := hrel1
    have hready : r1.state = .ready := by rw [hR1.state, hst]; rfl
    have hbegin := run_beginRound (P := P) hheap1 hready
    obtain ⟨i2, ev2⟩ := k2.inv.setLoop (r := { r1 with state := .busy }) (lp := { lp1 with state := 1 }) hL1 hlp1 ⟨rfl, hR1.pend, hR1.env, hR1.params, hR1.small, hR1.both⟩
    have hgo2 : Goes σ1 (setBlk σ1 l i (.loop { lp1 with state := 1 })) := ⟨setBlk_length, fun h => h.set fun hl => (h l i _ hlp1 hl : Blk.low (l + 1) (.loop lp1))⟩
    have ha2 := k2.go ev2 i2 hgo2 (k2.fr.ev ev2) rfl rfl
    obtain ⟨g3, w3, B3, a3, t3, m1, m2, m3, m4, m5⟩ := code_ok (b := fb) (cs := cs) (k := []) hm hO r.body hB hbody ha2
    have hlen2 : σ2.length = σ.length := by
      have h1 := m5.len
      have h2 := hgo2.len
      have h3 := k5.len
      simp at h1 h2 h3; omega
    have hlvl : ∀ l i L, g.loc l i = some L → l < σ2.length := fun l i L h => by rw [hlen2]; exact hi.lvl h
    obtain ⟨i3, l3⟩ := m2.inv.pop m2.low
    obtain ⟨L3, hL3, hle3⟩ := (k3.trans' (ev2.le.trans' m3)).loc l i _ hL
    rw [Loc.lp_le hle3] at hL3
    have hL3' : (g3.cut σ2.length).loc l i = some (.lp b) := by rw [G.cut_loc (hlvl l i _ hL)]; exact hL3
    obtain ⟨b3, hb3, hrel3⟩ := i3.dom l i _ hL3'
    rw [hlp2] at hb3; cases hb3
    obtain ⟨r3, hheap3, hR3⟩ := hrel3
    refine ⟨fb, a3, t3, g3.cut σ2.length, w3, r3, ?_, rfl, rfl, m4, m2.ev.cut hlvl, i3, l3, hlen2, hL3', hheap3, hR3⟩
    rw [hfr]
    exact .trans k1 (.head (stepR_beginRound rfl hbegin) m1)
  -- its end
  have fin : ∀ (bv : Bool) (st : Nat) (pd : Option Exit) (jump : Option Code), pendOf pd = some jump → bv = jump.isNone → st = (if jump.isNone then 0 else 2) →
      (∀ (fb : Frame) (a' : Act) (todo : List Item) (c : Frame) (cs : List Frame) (w' w2 : World) (b : Nat), fb.roundOf = some b → fb.kind = .normal → Lands [] x todo → (Instr.endRound b jump).run P w' = .ok (.bool bv) w2 →
        step P (lone (Frame.atR fb a' todo) (c :: cs) w') = .next (lone (c.finish (.bool bv)) cs w2)) →
      RoundOk P (CR0 P) l i args σ (.bool bv) (setBlk σ2 l i (.loop { lp2 with state := st, pend := pd })) := by
    intro bv st pd jump hpd hbv hstv hend base g w vs b hi hl hp hr hy
    obtain ⟨f, tmps, asg, body, hyield, hwalk⟩ := walk base g w vs b hi hl hp hr hy
    refine ⟨?_, f, tmps, asg, body, hyield, fun c cs => ?_⟩
    · obtain ⟨_, _, _, _, _, _, _, _, _, _, _, _, h7, h8, _⟩ := hwalk []
      exact ⟨setBlk_length.trans h8, fun _ => h7.set fun hl => (h7 l i _ hlp2 hl : Blk.low (l + 1) (.loop lp2))⟩
    · obtain ⟨fb, a', todo, g', w', r2, k1, k2, k3, k4, k5, k6, k7, k8, k9, k10, k11⟩ := hwalk (c :: cs)
      have hrun := run_endRound (P := P) jump k10
      rw [← hbv] at hrun
      have hR2 : RelLoop (CR0 P) g' { lp2 with state := st, pend := pd } { r2 with state := if jump.isNone then .ready else .done, pending := jump } :=
        ⟨by rw [hstv]; cases jump <;> rfl, hpd, k11.env, k11.params, k11.small, k11.both⟩
      obtain ⟨i4, ev4⟩ := k6.setLoop k9 hlp2 hR2
      exact ⟨.bool bv, g', _, .trans k1 (.one (hend fb a' todo c cs w' _ b k2 k3 k4 (by rw [hbv]; rw [hbv] at hrun; exact hrun))), k5.trans ev4, i4, .bool bv⟩
  cases x with
  | normal =>
    dsimp only at h
    cases h
    exact fin true 0 none none rfl rfl rfl fun fb a' todo c cs w' w2 b h1 h2 h3 h4 => by
      obtain rfl := h3
      exact stepR_round_end h1 h2 h4
  | exit id =>
    dsimp only at h
    cases h
    exact fin false 2 (some (.exit id)) (some (.exit id)) rfl rfl rfl fun fb a' todo c cs w' w2 b h1 h2 h3 h4 => by
      obtain ⟨k', rfl, hk⟩ := h3
      exact stepR_round_exit h1 h2 (by rw [hk]; rfl) h4
  | ret =>
    dsimp only at h
    cases h
    exact fin false 2 (some .ret) (some .ret) rfl rfl rfl fun fb a' todo c cs w' w2 b h1 h2 h3 h4 => by
      obtain ⟨k', rfl⟩ := h3
      exact stepR_round_ret h1 h2 h4

theorem stepQ_sound (hT : TOk P T) (hm : P.follows .mixedOrders = true) (hO : OrOk P (CR0 P) O) : OrOk P (CR0 P) (stepQ T O) := fun q r h => by
  cases q with
  | call kp f args σ => exact call_sound hT hm hO h
  | loop live seg c e σ => exact loop_sound hm hO h
  | round l i args σ => exact round_sound hm hO h

theorem it_sound (hT : TOk P T) (hm : P.follows .mixedOrders = true) : ∀ n, OrOk P (CR0 P) (it T n)
  | 0 => fun q r h => by simp [it] at h
  | n + 1 => stepQ_sound hT hm (it_sound hT hm n)

theorem lim_sound (hT : TOk P T) (hm : P.follows .mixedOrders = true) : OrOk P (CR0 P) (lim T) := fun q r h => by
  unfold lim at h
  split at h
  · rename_i hex
    cases h
    exact it_sound hT hm _ _ _ hex.choose_spec.choose_spec
  · cases h
end
end Go.Abs
