/-
  Operations whose order is of no matter: what one reads and writes; two that do not clash change places.
-/
import Derived.Test.YticpenoicajakaaAbsComp
set_option linter.unusedVariables false
set_option linter.unusedSimpArgs false
namespace Go.Abs
open Go

/-- Two rows of temporaries agree on some. -/
def Agree (ts : List Nat) (e e' : Env) : Prop := ∀ t ∈ ts, get e' t = get e t

theorem Agree.mono {ts us : List Nat} {e e' : Env} (h : Agree us e e') (hs : ∀ t ∈ ts, t ∈ us) : Agree ts e e' := fun t ht => h t (hs t ht)
theorem Agree.app {ts us : List Nat} {e e' : Env} : Agree (ts ++ us) e e' ↔ Agree ts e e' ∧ Agree us e e' :=
  ⟨fun h => ⟨fun t ht => h t (by simp [ht]), fun t ht => h t (by simp [ht])⟩, fun h t ht => (List.mem_append.1 ht).elim (h.1 t) (h.2 t)⟩
theorem Agree.cons {t : Nat} {us : List Nat} {e e' : Env} : Agree (t :: us) e e' ↔ get e' t = get e t ∧ Agree us e e' :=
  ⟨fun h => ⟨h t (by simp), fun u hu => h u (by simp [hu])⟩, fun h u hu => (List.mem_cons.1 hu).elim (fun x => x ▸ h.1) (h.2 u)⟩

variable {e e' : Env} {σ σ' : Stack}

theorem opd_agree {x : Opd} (h : Agree x.tmps e e') : opd e' x = opd e x := by
  cases x with
  | t n => simp only [opd]; rw [h n (by simp [Opd.tmps])]
  | c d => rfl

theorem opds_agree {xs : List Opd} (h : Agree (xs.flatMap Opd.tmps) e e') : xs.map (opd e') = xs.map (opd e) := by
  induction xs with
  | nil => rfl
  | cons x xs ih =>
    simp only [List.flatMap_cons, Agree.app] at h
    simp only [List.map_cons, opd_agree h.1, ih h.2]

theorem fillD_agree : ∀ {ps : List (Nat × Nat × Opd)} {cs : List D}, Agree (ps.flatMap fun p => p.2.2.tmps) e e' → fillD e' ps cs = fillD e ps cs
  | [], cs, h => rfl
  | (off, sz, x) :: ps, cs, h => by
    simp only [List.flatMap_cons, Agree.app] at h
    simp only [fillD, opd_agree h.1]
    split
    · split
      · exact fillD_agree h.2
      · rfl
    · rfl

theorem bnd_agree {m : Nat} {dfl : Option Nat} {x : Option Opd} (h : Agree ((x.map Opd.tmps).getD []) e e') : bnd e' m dfl x = bnd e m dfl x := by
  cases x with
  | none => rfl
  | some x => simp only [bnd]; rw [opd_agree (by simpa using h)]

theorem bounds_agree {n : Nat} {lo hi mx : Option Opd} (h1 : Agree ((lo.map Opd.tmps).getD []) e e') (h2 : Agree ((hi.map Opd.tmps).getD []) e e') (h3 : Agree ((mx.map Opd.tmps).getD []) e e') :
    bounds n e' lo hi mx = bounds n e lo hi mx := by
  simp only [bounds, bnd_agree h1, bnd_agree h2, bnd_agree h3]

theorem inVar_agree {v a : Nat} (h1 : get e' v = get e v) (h2 : get e' a = get e a) : inVar e' v a = inVar e v a := by
  simp only [inVar, h1, h2]

theorem sop_agree {k : K} (h : Agree k.tmps e e') : sop e' σ k = sop e σ k := by
  cases k <;> simp only [K.tmps, Agree.app, Agree.cons] at h
  case mv x => simp only [sop, opd_agree h]
  case nilb => rfl
  case pick c a b => simp only [sop, opd_agree h.1.1, opd_agree h.1.2, opd_agree h.2]
  case alc => rfl
  case alcv => rfl
  case boxi x => simp only [sop, opd_agree h]
  case boxm x => simp only [sop, opd_agree h]
  case boxv => rfl
  case bld => simp only [sop, fillD_agree h]
  case bsi => simp only [sop, fillD_agree h]
  case bsm => simp only [sop, fillD_agree h]
  case ld => simp only [sop, opd_agree h]
  case st => simp only [sop, opd_agree h.1, opd_agree h.2]
  case ldv => simp only [sop, inVar_agree h.1 h.2.1]
  case stv => rfl
  case bin => simp only [sop, opd_agree h.1, opd_agree h.2]
  case eqv => simp only [sop, opd_agree h.1, opd_agree h.2]
  case un => simp only [sop, opd_agree h]
  case cvt => simp only [sop, opd_agree h]
  case mkf => simp only [sop, opds_agree h.1, opds_agree h.2]
  case mks => simp only [sop, opd_agree h.1, opd_agree h.2]
  case slc => simp only [sop, opd_agree h.1.1.1, bounds_agree h.1.1.2 h.1.2 h.2]
  case slca => simp only [sop, opd_agree h.1.1, bounds_agree (mx := none) h.1.2 h.2 (fun t ht => by simp at ht)]
  case fadr off x =>
    cases x with
    | t n => simp only [sop, h n (by simp [Opd.tmps])]
    | c d => rfl
  case fld => simp only [sop, opd_agree h]
  case idxA len w x i =>
    cases x with
    | t n =>
      have h1 := h.1 n (by simp [Opd.tmps])
      simp only [sop, opd_agree h.2]
      cases intD (opd e i) <;> simp only [h1]
    | c d => simp only [sop]
  case idxS => simp only [sop, opd_agree h.1, opd_agree h.2]
  case idxV => simp only [sop, opd_agree h.1, opd_agree h.2]
  case lenS => simp only [sop, opd_agree h]
  case lenC => rfl
  case mn => simp only [sop, opd_agree h.1, opd_agree h.2]
  case mx => simp only [sop, opd_agree h.1, opd_agree h.2]
  case app => simp only [sop, opd_agree h.1, opd_agree h.2]
  case cpi => simp only [sop, opd_agree h]
  case ext => simp only [sop, opd_agree h]
  case call => rfl

/-- One operation, its guard too. -/
noncomputable def run1 (O : Oracle) (op : Op) (e : Env) (σ : Stack) : Option (Env × Stack) :=
  match op.grd with
  | none => aop O op e σ
  | some (g, want) =>
    match (get e g).bit with
    | some y => if y = some want then aop O op e σ else some (put op.dst (.tup []) e, σ)
    | none => none

theorem aops_cons {O : Oracle} {op : Op} {r : List Op} : aops O (op :: r) e σ = (run1 O op e σ).bind fun x => aops O r x.1 x.2 := by
  simp only [aops, run1]
  cases op.grd with
  | none => rfl
  | some x =>
    obtain ⟨g, want⟩ := x
    dsimp only
    cases (get e g).bit <;> try rfl
    dsimp only
    split <;> rfl

theorem put_app {dst : Option Nat} {d : D} : put dst d e = (dst.toList.map fun t => (t, d)) ++ e := by
  cases dst <;> rfl

/-- What an operation does hangs on what it reads alone, and it writes what it says. -/
theorem aop_local {O : Oracle} {op : Op} {e1 : Env} {σ1 : Stack} (h : aop O op e σ = some (e1, σ1)) :
    ∃ l : List (Nat × D), (∀ p ∈ l, p.1 ∈ op.defs) ∧ ∀ e', Agree (op.uses ++ op.defs) e e' → aop O op e' σ = some (l ++ e', σ1) := by
  obtain ⟨dst, grd, ntr, k⟩ := op
  have hk : ∀ e', Agree (Op.uses ⟨dst, grd, ntr, k⟩ ++ Op.defs ⟨dst, grd, ntr, k⟩) e e' → Agree k.tmps e e' := fun e' ha => ha.mono fun t ht => by simp [Op.uses, ht]
  have hdst : ∀ d : D, ∀ p ∈ dst.toList.map (fun t => (t, d)), p.1 ∈ Op.defs ⟨dst, grd, ntr, k⟩ := by
    intro d p hp
    simp only [List.mem_map] at hp
    obtain ⟨t, ht, rfl⟩ := hp
    simp only [Op.defs, List.mem_append]
    exact .inl ht
  have hplain : (∀ e0, aop O ⟨dst, grd, ntr, k⟩ e0 σ = (sop e0 σ k).map fun x => (put dst x.1 e0, x.2)) →
      ∃ l : List (Nat × D), (∀ p ∈ l, p.1 ∈ Op.defs ⟨dst, grd, ntr, k⟩) ∧ ∀ e', Agree (Op.uses ⟨dst, grd, ntr, k⟩ ++ Op.defs ⟨dst, grd, ntr, k⟩) e e' → aop O ⟨dst, grd, ntr, k⟩ e' σ = some (l ++ e', σ1) := by
    intro hall
    rw [hall] at h
    simp only [Option.map_eq_some_iff, Prod.exists, Prod.mk.injEq] at h
    obtain ⟨d, σ2, hs, rfl, rfl⟩ := h
    refine ⟨dst.toList.map fun t => (t, d), hdst d, fun e' ha => ?_⟩
    rw [hall, sop_agree (hk e' ha), hs]
    simp only [Option.map_some, put_app]
  cases k
  case call kp f args =>
    simp only [aop] at h ⊢
    split at h
    case h_2 => cases h
    rename_i d σ2 hc
    split at h
    case isFalse => cases h
    rename_i hn
    cases h
    refine ⟨dst.toList.map fun t => (t, d), hdst d, fun e' ha => ?_⟩
    have h1 := hk e' ha
    simp only [K.tmps, Agree.app] at h1
    rw [opd_agree h1.1, opds_agree h1.2, hc]
    simp only [if_pos hn, put_app]
  case alcv nb cs =>
    simp only [aop] at h ⊢
    split at h
    case h_2 => cases h
    rename_i v cs' σ2 hnb
    cases h
    refine ⟨[(v, .own (stamp e v) cs')], by simp [Op.defs], fun e' ha => ?_⟩
    rw [show stamp e' v = stamp e v from by simp only [stamp]; rw [ha v (by simp [Op.defs])]]
    rfl
  case boxv x =>
    simp only [aop] at h ⊢
    split at h
    case h_2 => cases h
    rename_i v cs' hc
    cases h
    refine ⟨[(v, .own (stamp e v) cs')], by simp [Op.defs], fun e' ha => ?_⟩
    have h1 := hk e' ha
    simp only [K.tmps] at h1
    rw [opd_agree h1, hc]
    simp only [show stamp e' v = stamp e v from by simp only [stamp]; rw [ha v (by simp [Op.defs])]]
    rfl
  case stv v nb sz a x =>
    simp only [aop] at h ⊢
    split at h
    case h_2 => cases h
    rename_i s cs off p hin hp
    split at h
    case isFalse => cases h
    rename_i hc
    split at h
    case h_2 => cases h
    rename_i p' σ2 hnb
    cases h
    refine ⟨[(v, .own s (cs.take off ++ p' ++ cs.drop (off + sz)))], by simp [Op.defs], fun e' ha => ?_⟩
    have h1 := hk e' ha
    simp only [K.tmps, Agree.app, Agree.cons] at h1
    rw [inVar_agree h1.1.1 h1.1.2.1, opd_agree h1.2, hin, hp]
    simp only [if_pos hc, hnb]
    rfl
  all_goals exact hplain fun e0 => rfl

theorem run1_local {O : Oracle} {op : Op} {e1 : Env} {σ1 : Stack} (h : run1 O op e σ = some (e1, σ1)) :
    ∃ l : List (Nat × D), (∀ p ∈ l, p.1 ∈ op.defs) ∧ ∀ e', Agree (op.uses ++ op.defs) e e' → run1 O op e' σ = some (l ++ e', σ1) := by
  unfold run1 at h ⊢
  cases hg : op.grd with
  | none => rw [hg] at h; simp only at h ⊢; exact aop_local h
  | some x =>
    obtain ⟨t, want⟩ := x
    rw [hg] at h
    simp only at h ⊢
    split at h
    case h_2 => cases h
    rename_i b hb
    have hgt : ∀ e', Agree (op.uses ++ op.defs) e e' → (get e' t).bit = some b := fun e' ha => by rw [ha t (by simp [Op.uses, hg]), hb]
    split at h
    · rename_i hw
      obtain ⟨l, h1, h2⟩ := aop_local h
      refine ⟨l, h1, fun e' ha => ?_⟩
      rw [hgt e' ha]
      simp only [if_pos hw]
      exact h2 e' ha
    · rename_i hw
      cases h
      refine ⟨op.dst.toList.map fun t => (t, .tup []), fun p hp => ?_, fun e' ha => ?_⟩
      · simp only [List.mem_map] at hp
        obtain ⟨t, ht, rfl⟩ := hp
        simp only [Op.defs, List.mem_append]; exact .inl ht
      · rw [hgt e' ha]
        simp only [if_neg hw, put_app]


/-- A calm operation, its calls leaving the store as it is. -/
def Op.still (op : Op) : Bool := op.k.calm && op.ntr

theorem nilbs_nil {cs cs' : List D} (h : nilbs [] cs σ = some (cs', σ')) : σ' = σ := by
  simp only [nilbs, Option.some.injEq, Prod.mk.injEq] at h; exact h.2.symm

theorem sop_still {d : D} {k : K} (h : sop e σ k = some (d, σ')) (hk : k.calm = true) : σ' = σ := by
  cases k <;> simp only [K.calm, Bool.false_eq_true] at hk <;> simp only [sop, Option.bind_eq_bind, reduceCtorEq] at h <;> (repeat' split at h) <;>
    simp only [Option.map_eq_some_iff, Option.bind_eq_some_iff, Option.some.injEq, Prod.mk.injEq, Prod.exists, reduceCtorEq, exists_eq_left, and_false, exists_false] at h <;> (try split at h) <;>
    simp_all <;> (try (obtain ⟨_, _, h⟩ := h; simp_all)) <;> (try grind)

theorem aop_still {O : Oracle} {op : Op} {e1 : Env} {σ1 : Stack} (h : aop O op e σ = some (e1, σ1)) (hs : op.still = true) : σ1 = σ := by
  obtain ⟨dst, grd, ntr, k⟩ := op
  simp only [Op.still, Bool.and_eq_true] at hs
  obtain ⟨hk, hn⟩ := hs
  have hplain : (aop O ⟨dst, grd, ntr, k⟩ e σ = (sop e σ k).map fun x => (put dst x.1 e, x.2)) → σ1 = σ := by
    intro hall
    rw [hall] at h
    simp only [Option.map_eq_some_iff, Prod.exists, Prod.mk.injEq] at h
    obtain ⟨d, σ2, hs, rfl, rfl⟩ := h
    exact sop_still hs hk
  cases k
  case call kp f args =>
    simp only [aop] at h
    split at h
    case h_2 => cases h
    split at h
    case isFalse => cases h
    rename_i hx
    cases h
    exact hx hn
  case alcv nb cs =>
    simp only [aop] at h
    split at h
    case h_2 => cases h
    rename_i v cs' σ2 hnb
    cases h
    simp only [K.calm, List.isEmpty_iff] at hk
    subst hk
    exact nilbs_nil hnb
  case boxv x =>
    simp only [aop] at h
    split at h
    case h_2 => cases h
    cases h
    rfl
  case stv v nb sz a x =>
    simp only [aop] at h
    split at h
    case h_2 => cases h
    split at h
    case isFalse => cases h
    split at h
    case h_2 => cases h
    rename_i hnb
    cases h
    simp only [K.calm, List.isEmpty_iff] at hk
    subst hk
    exact nilbs_nil hnb
  all_goals exact hplain rfl

theorem run1_still {O : Oracle} {op : Op} {e1 : Env} {σ1 : Stack} (h : run1 O op e σ = some (e1, σ1)) (hs : op.still = true) : σ1 = σ := by
  unfold run1 at h
  split at h
  · exact aop_still h hs
  · split at h
    case h_2 => cases h
    split at h
    · exact aop_still h hs
    · cases h; rfl

def EqE (e e' : Env) : Prop := ∀ t, get e' t = get e t

theorem EqE.refl (e : Env) : EqE e e := fun _ => rfl
theorem EqE.trans {a b c : Env} (h : EqE a b) (h' : EqE b c) : EqE a c := fun t => (h' t).trans (h t)
theorem EqE.agree (h : EqE e e') (ts : List Nat) : Agree ts e e' := fun t _ => h t

theorem get_app {l : List (Nat × D)} {t : Nat} : get (l ++ e) t = if t ∈ l.map (·.1) then get l t else get e t := by
  induction l with
  | nil => simp
  | cons p l ih =>
    obtain ⟨k, v⟩ := p
    simp only [List.cons_append, get]
    by_cases hk : k = t
    · simp [hk]
    · rw [if_neg hk, ih]
      simp only [List.map_cons, List.mem_cons]
      by_cases ht : t ∈ l.map (·.1)
      · rw [if_pos ht, if_pos (.inr ht)]; rw [if_neg hk]
      · rw [if_neg ht, if_neg (by intro h; rcases h with h | h; exact hk h.symm; exact ht h)]

theorem EqE.app (h : EqE e e') (l : List (Nat × D)) : EqE (l ++ e) (l ++ e') := fun t => by
  simp only [get_app, h t]

theorem aops_eqE {O : Oracle} : ∀ {xs : List Op} {e e' e1 : Env} {σ σ1 : Stack}, aops O xs e σ = some (e1, σ1) → EqE e e' → ∃ e1', aops O xs e' σ = some (e1', σ1) ∧ EqE e1 e1'
  | [], e, e', e1, σ, σ1, h, he => by
    simp only [aops, Option.some.injEq, Prod.mk.injEq] at h
    obtain ⟨rfl, rfl⟩ := h
    exact ⟨e', rfl, he⟩
  | x :: xs, e, e', e1, σ, σ1, h, he => by
    rw [aops_cons] at h
    simp only [Option.bind_eq_some_iff, Prod.exists] at h
    obtain ⟨e2, σ2, h1, h2⟩ := h
    obtain ⟨l, _, hl⟩ := run1_local h1
    have h3 := hl e (EqE.agree (.refl e) _)
    rw [h1] at h3
    cases h3
    obtain ⟨e3, h4, h5⟩ := aops_eqE h2 (he.app l)
    exact ⟨e3, by rw [aops_cons, hl e' (he.agree _)]; exact h4, h5⟩

/-- Two still operations that do not clash change places. -/
theorem swap_ok {O : Oracle} {x y : Op} {e2 : Env} {σ2 : Stack} {r : List Op} (hx : x.still = true) (hy : y.still = true) (hc : x.clash y = false)
    (h : aops O (x :: y :: r) e σ = some (e2, σ2)) : ∃ e2', aops O (y :: x :: r) e σ = some (e2', σ2) ∧ EqE e2 e2' := by
  simp only [Op.clash, Bool.or_eq_false_iff, List.any_eq_false, List.contains_iff_mem, Bool.or_eq_true, not_or] at hc
  obtain ⟨c1, c2⟩ := hc
  rw [aops_cons] at h
  simp only [Option.bind_eq_some_iff, Prod.exists] at h
  obtain ⟨ex, σx, h1, h2⟩ := h
  rw [aops_cons] at h2
  simp only [Option.bind_eq_some_iff, Prod.exists] at h2
  obtain ⟨ey, σy, h2, h3⟩ := h2
  obtain rfl := run1_still h1 hx
  obtain rfl := run1_still h2 hy
  obtain ⟨lx, d1, hl1⟩ := run1_local h1
  obtain ⟨ly, d2, hl2⟩ := run1_local h2
  have k1 := hl1 e (EqE.agree (.refl e) _)
  rw [h1] at k1; cases k1
  have k2 := hl2 _ (EqE.agree (.refl _) _)
  rw [h2] at k2; cases k2
  -- y first
  have ay : Agree (y.uses ++ y.defs) (lx ++ e) e := fun t ht => by
    rw [get_app, if_neg]
    intro hm
    obtain ⟨p, hp, rfl⟩ := List.mem_map.1 hm
    have := c1 _ (d1 p hp)
    simp only [List.mem_append] at ht
    rcases ht with ht | ht
    · exact this.2 (by simpa using ht)
    · exact this.1 (by simpa using ht)
  have ax : Agree (x.uses ++ x.defs) e (ly ++ e) := fun t ht => by
    rw [get_app, if_neg]
    intro hm
    obtain ⟨p, hp, rfl⟩ := List.mem_map.1 hm
    have hp' := d2 p hp
    simp only [List.mem_append] at ht
    rcases ht with ht | ht
    · exact c2 _ ht (by simpa using hp')
    · exact (c1 _ ht).1 (by simpa using hp')
  have hy1 := hl2 e ay
  have hx1 := hl1 (ly ++ e) ax
  have heq : EqE (ly ++ (lx ++ e)) (lx ++ (ly ++ e)) := fun t => by
    simp only [get_app]
    by_cases m1 : t ∈ lx.map (·.1)
    · by_cases m2 : t ∈ ly.map (·.1)
      · obtain ⟨p, hp, rfl⟩ := List.mem_map.1 m1
        obtain ⟨q, hq, he⟩ := List.mem_map.1 m2
        have := (c1 _ (d1 p hp)).1
        have hq' := d2 q hq
        rw [he] at hq'
        exact absurd hq' (by simpa using this)
      · rw [if_pos m1, if_neg m2, if_pos m1]
    · by_cases m2 : t ∈ ly.map (·.1)
      · rw [if_neg m1, if_pos m2, if_pos m2]
      · rw [if_neg m1, if_neg m2, if_neg m2, if_neg m1]
  obtain ⟨e3, k3, k4⟩ := aops_eqE h3 heq
  refine ⟨e3, ?_, k4⟩
  rw [aops_cons, hy1]
  simp only [Option.bind_some]
  rw [aops_cons, hx1]
  exact k3

/-- A still operation comes to the front of still ones that do not clash with it. -/
theorem front_ok {O : Oracle} {y : Op} {r : List Op} (hy : y.still = true) : ∀ {pre : List Op} {e e2 : Env} {σ σ2 : Stack}, (∀ x ∈ pre, x.still = true ∧ x.clash y = false) →
    aops O (pre ++ y :: r) e σ = some (e2, σ2) → ∃ e2', aops O (y :: (pre ++ r)) e σ = some (e2', σ2) ∧ EqE e2 e2'
  | [], e, e2, σ, σ2, hp, h => ⟨e2, h, .refl _⟩
  | x :: pre, e, e2, σ, σ2, hp, h => by
    simp only [List.cons_append] at h
    rw [aops_cons] at h
    simp only [Option.bind_eq_some_iff, Prod.exists] at h
    obtain ⟨e1, σ1, h1, h2⟩ := h
    obtain ⟨e3, h3, h4⟩ := front_ok hy (fun z hz => hp z (by simp [hz])) h2
    have h5 : aops O (x :: y :: (pre ++ r)) e σ = some (e3, σ2) := by rw [aops_cons, h1]; exact h3
    obtain ⟨e4, h6, h7⟩ := swap_ok (hp x (by simp)).1 hy (hp x (by simp)).2 h5
    exact ⟨e4, h6, h4.trans h7⟩

theorem restrict_eqE {live : List Nat} (h : EqE e e') : restrict live e' = restrict live e := by
  simp only [restrict]
  exact List.map_congr_left fun t _ => by rw [h t]
end Go.Abs
