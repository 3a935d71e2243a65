/- The interpreter, part 3: proved sound against the model. -/
import Derived.Test.YtfgljaglidhjiaaGreatDoorBase2
import Derived.Orders
import Derived.Lib.ItoaNum
import Derived.Test.YtfgljaglidhjiaaGreatDoorBase1
/-
  Operations whose order is of no matter: what one reads and writes; two that do not clash change places.
-/
set_option linter.unusedVariables false
set_option linter.unusedSimpArgs false
namespace Go.Abs
open Go

def Agree (ts : List Nat) (e e' : Env) : Prop := ∀ t ∈ ts, get e' t = get e t

theorem Agree.mono {ts us : List Nat} {e e' : Env} (h : Agree us e e') (hs : ∀ t ∈ ts, t ∈ us) : Agree ts e e' := fun t ht => h t (hs t ht)
theorem Agree.app {ts us : List Nat} {e e' : Env} : Agree (ts ++ us) e e' ↔ Agree ts e e' ∧ Agree us e e' :=
  ⟨fun h => ⟨fun t ht => h t (by simp [ht]), fun t ht => h t (by simp [ht])⟩, fun h t ht => (List.mem_append.1 ht).elim (h.1 t) (h.2 t)⟩
theorem Agree.cons {t : Nat} {us : List Nat} {e e' : Env} : Agree (t :: us) e e' ↔ get e' t = get e t ∧ Agree us e e' :=
  ⟨fun h => ⟨h t (by simp), fun u hu => h u (by simp [hu])⟩, fun h u hu => (List.mem_cons.1 hu).elim (fun x => x ▸ h.1) (h.2 u)⟩

variable {e e' : Env} {σ σ' : Stack}

theorem opd_agree {x : Opd} (h : Agree x.tmps e e') : opd e' x = opd e x := by
  cases x with
  | t n => simp only [opd]; rw [h n (by simp [Opd.tmps])]
  | c d => rfl

theorem opds_agree {xs : List Opd} (h : Agree (xs.flatMap Opd.tmps) e e') : xs.map (opd e') = xs.map (opd e) := by
  induction xs with
  | nil => rfl
  | cons x xs ih =>
    simp only [List.flatMap_cons, Agree.app] at h
    simp only [List.map_cons, opd_agree h.1, ih h.2]

theorem fillD_agree : ∀ {ps : List (Nat × Nat × Opd)} {cs : List D}, Agree (ps.flatMap fun p => p.2.2.tmps) e e' → fillD e' ps cs = fillD e ps cs
  | [], cs, h => rfl
  | (off, sz, x) :: ps, cs, h => by
    simp only [List.flatMap_cons, Agree.app] at h
    simp only [fillD, opd_agree h.1]
    split
    · split
      · exact fillD_agree h.2
      · rfl
    · rfl

theorem bnd_agree {m : Nat} {dfl : Option Nat} {x : Option Opd} (h : Agree ((x.map Opd.tmps).getD []) e e') : bnd e' m dfl x = bnd e m dfl x := by
  cases x with
  | none => rfl
  | some x => simp only [bnd]; rw [opd_agree (by simpa using h)]

theorem bounds_agree {n : Nat} {lo hi mx : Option Opd} (h1 : Agree ((lo.map Opd.tmps).getD []) e e') (h2 : Agree ((hi.map Opd.tmps).getD []) e e') (h3 : Agree ((mx.map Opd.tmps).getD []) e e') :
    bounds n e' lo hi mx = bounds n e lo hi mx := by
  simp only [bounds, bnd_agree h1, bnd_agree h2, bnd_agree h3]

theorem inVar_agree {v a : Nat} (h1 : get e' v = get e v) (h2 : get e' a = get e a) : inVar e' v a = inVar e v a := by
  simp only [inVar, h1, h2]

theorem sop_agree {k : K} (h : Agree k.tmps e e') : sop e' σ k = sop e σ k := by
  cases k <;> simp only [K.tmps, Agree.app, Agree.cons] at h
  case mv x => simp only [sop, opd_agree h]
  case nilb => rfl
  case pick c a b => simp only [sop, opd_agree h.1.1, opd_agree h.1.2, opd_agree h.2]
  case alc => rfl
  case mki => simp only [sop, opd_agree h]
  case tas => simp only [sop, opd_agree h]
  case isi => simp only [sop, opd_agree h]
  case pan => rfl
  case rcv => rfl
  case alcv => rfl
  case boxi x => simp only [sop, opd_agree h]
  case boxm x => simp only [sop, opd_agree h]
  case bxn nb x => simp only [sop, opd_agree h]
  case boxv => rfl
  case bld => simp only [sop, fillD_agree h]
  case bsi => simp only [sop, fillD_agree h]
  case bsm => simp only [sop, fillD_agree h]
  case ld => simp only [sop, opd_agree h]
  case ldi => simp only [sop, opd_agree h]
  case ld0 => simp only [sop, opd_agree h]
  case isn => simp only [sop, opd_agree h]
  case nck => simp only [sop, opd_agree h]
  case st => simp only [sop, opd_agree h.1, opd_agree h.2]
  case stc os sz a x =>
    have hall : ∀ l i, (os.all fun t => D.off l i (get e' t)) = os.all fun t => D.off l i (get e t) := by
      intro l i
      have h2 := h.2
      clear h
      induction os with
      | nil => rfl
      | cons o os ih => simp only [List.all_cons, h2 o (by simp), ih (h2.mono fun t ht => by simp [ht])]
    simp only [sop, opd_agree h.1.1, opd_agree h.1.2, hall]
  case ldv => simp only [sop, inVar_agree h.1 h.2.1]
  case stv => rfl
  case bin => simp only [sop, opd_agree h.1, opd_agree h.2]
  case eqv => simp only [sop, opd_agree h.1, opd_agree h.2]
  case un => simp only [sop, opd_agree h]
  case cvt => simp only [sop, opd_agree h]
  case mkf => simp only [sop, opds_agree h.1, opds_agree h.2]
  case mks => simp only [sop, opd_agree h.1, opd_agree h.2]
  case slc => simp only [sop, opd_agree h.1.1.1, bounds_agree h.1.1.2 h.1.2 h.2]
  case slca => simp only [sop, opd_agree h.1.1, bounds_agree (mx := none) h.1.2 h.2 (fun t ht => by simp at ht)]
  case fadr off x =>
    cases x with
    | t n => simp only [sop, h n (by simp [Opd.tmps])]
    | c d => rfl
  case fld => simp only [sop, opd_agree h]
  case idxA len w x i =>
    cases x with
    | t n =>
      have h1 := h.1 n (by simp [Opd.tmps])
      simp only [sop, opd_agree h.2]
      cases intD (opd e i) <;> simp only [h1]
    | c d => simp only [sop]
  case idxS => simp only [sop, opd_agree h.1, opd_agree h.2]
  case idxV => simp only [sop, opd_agree h.1, opd_agree h.2]
  case lenS => simp only [sop, opd_agree h]
  case lenC => rfl
  case mn => simp only [sop, opd_agree h.1, opd_agree h.2]
  case mx => simp only [sop, opd_agree h.1, opd_agree h.2]
  case app => simp only [sop, opd_agree h.1, opd_agree h.2]
  case apc os w b s x =>
    have hall : ∀ l i, (os.all fun t => D.off l i (get e' t)) = os.all fun t => D.off l i (get e t) := by
      intro l i
      have h2 := h.2
      clear h
      induction os with
      | nil => rfl
      | cons o os ih => simp only [List.all_cons, h2 o (by simp), ih (h2.mono fun t ht => by simp [ht])]
    simp only [sop, appD, opd_agree h.1.1, opd_agree h.1.2, hall]
  case apz => simp only [sop, appD, opd_agree h.1, opd_agree h.2]
  case cpi => simp only [sop, opd_agree h]
  case cvz => simp only [sop, opd_agree h]
  case bse => rfl
  case ape w b v x => simp only [sop, h.1, opd_agree h.2]
  case ext => simp only [sop, opd_agree h]
  case pur => simp only [sop, opds_agree h]
  case mp => simp only [sop, opds_agree h]
  case me => simp only [sop, opds_agree h]
  case call => rfl

noncomputable def run1 (O : Oracle) (op : Op) (e : Env) (σ : Stack) : Option (Env × Stack) :=
  match op.grd with
  | none => aop O op e σ
  | some (g, want) =>
    match (get e g).bit with
    | some y => if y = some want then aop O op e σ else some (put op.dst (.tup []) e, σ)
    | none => none

theorem aops_cons {O : Oracle} {op : Op} {r : List Op} : aops O (op :: r) e σ = (run1 O op e σ).bind fun x => aops O r x.1 x.2 := by
  simp only [aops, run1]
  cases op.grd with
  | none => rfl
  | some x =>
    obtain ⟨g, want⟩ := x
    dsimp only
    cases (get e g).bit <;> try rfl
    dsimp only
    split <;> rfl

theorem put_app {dst : Option Nat} {d : D} : put dst d e = (dst.toList.map fun t => (t, d)) ++ e := by
  cases dst <;> rfl

theorem aop_local {O : Oracle} {op : Op} {e1 : Env} {σ1 : Stack} (h : aop O op e σ = some (e1, σ1)) :
    ∃ l : List (Nat × D), (∀ p ∈ l, p.1 ∈ op.defs) ∧ ∀ e', Agree (op.uses ++ op.defs) e e' → aop O op e' σ = some (l ++ e', σ1) := by
  obtain ⟨dst, grd, ntr, k⟩ := op
  have hk : ∀ e', Agree (Op.uses ⟨dst, grd, ntr, k⟩ ++ Op.defs ⟨dst, grd, ntr, k⟩) e e' → Agree k.tmps e e' := fun e' ha => ha.mono fun t ht => by simp [Op.uses, ht]
  have hdst : ∀ d : D, ∀ p ∈ dst.toList.map (fun t => (t, d)), p.1 ∈ Op.defs ⟨dst, grd, ntr, k⟩ := by
    intro d p hp
    simp only [List.mem_map] at hp
    obtain ⟨t, ht, rfl⟩ := hp
    simp only [Op.defs, List.mem_append]
    exact .inl ht
  have hplain : (∀ e0, aop O ⟨dst, grd, ntr, k⟩ e0 σ = (sop e0 σ k).map fun x => (put dst x.1 e0, x.2)) →
      ∃ l : List (Nat × D), (∀ p ∈ l, p.1 ∈ Op.defs ⟨dst, grd, ntr, k⟩) ∧ ∀ e', Agree (Op.uses ⟨dst, grd, ntr, k⟩ ++ Op.defs ⟨dst, grd, ntr, k⟩) e e' → aop O ⟨dst, grd, ntr, k⟩ e' σ = some (l ++ e', σ1) := by
    intro hall
    rw [hall] at h
    simp only [Option.map_eq_some_iff, Prod.exists, Prod.mk.injEq] at h
    obtain ⟨d, σ2, hs, rfl, rfl⟩ := h
    refine ⟨dst.toList.map fun t => (t, d), hdst d, fun e' ha => ?_⟩
    rw [hall, sop_agree (hk e' ha), hs]
    simp only [Option.map_some, put_app]
  cases k
  case call kp f args =>
    simp only [aop] at h ⊢
    split at h
    case h_2 => cases h
    rename_i d σ2 hc
    split at h
    case isFalse => cases h
    rename_i hn
    cases h
    refine ⟨dst.toList.map fun t => (t, d), hdst d, fun e' ha => ?_⟩
    have h1 := hk e' ha
    simp only [K.tmps, Agree.app] at h1
    rw [opd_agree h1.1, opds_agree h1.2, hc]
    simp only [if_pos hn, put_app]
  case alcv nb cs =>
    simp only [aop] at h ⊢
    split at h
    case h_2 => cases h
    rename_i v cs' σ2 hnb
    cases h
    refine ⟨[(v, .own (stamp e v) cs')], by simp [Op.defs], fun e' ha => ?_⟩
    rw [show stamp e' v = stamp e v from by simp only [stamp]; rw [ha v (by simp [Op.defs])]]
    rfl
  case boxv x =>
    simp only [aop] at h ⊢
    split at h
    case h_2 => cases h
    rename_i v cs' hc
    cases h
    refine ⟨[(v, .own (stamp e v) cs')], by simp [Op.defs], fun e' ha => ?_⟩
    have h1 := hk e' ha
    simp only [K.tmps] at h1
    rw [opd_agree h1, hc]
    simp only [show stamp e' v = stamp e v from by simp only [stamp]; rw [ha v (by simp [Op.defs])]]
    rfl
  case stv v nb sz a x =>
    simp only [aop] at h ⊢
    split at h
    case h_2 => cases h
    rename_i s cs off p hin hp
    split at h
    case isFalse => cases h
    rename_i hc
    split at h
    case h_2 => cases h
    rename_i p' σ2 hnb
    cases h
    refine ⟨[(v, .own s (cs.take off ++ p' ++ cs.drop (off + sz)))], by simp [Op.defs], fun e' ha => ?_⟩
    have h1 := hk e' ha
    simp only [K.tmps, Agree.app, Agree.cons] at h1
    rw [inVar_agree h1.1.1 h1.1.2.1, opd_agree h1.2, hin, hp]
    simp only [if_pos hc, hnb]
    rfl
  all_goals exact hplain fun e0 => rfl

theorem run1_local {O : Oracle} {op : Op} {e1 : Env} {σ1 : Stack} (h : run1 O op e σ = some (e1, σ1)) :
    ∃ l : List (Nat × D), (∀ p ∈ l, p.1 ∈ op.defs) ∧ ∀ e', Agree (op.uses ++ op.defs) e e' → run1 O op e' σ = some (l ++ e', σ1) := by
  unfold run1 at h ⊢
  cases hg : op.grd with
  | none => rw [hg] at h; simp only at h ⊢; exact aop_local h
  | some x =>
    obtain ⟨t, want⟩ := x
    rw [hg] at h
    simp only at h ⊢
    split at h
    case h_2 => cases h
    rename_i b hb
    have hgt : ∀ e', Agree (op.uses ++ op.defs) e e' → (get e' t).bit = some b := fun e' ha => by rw [ha t (by simp [Op.uses, hg]), hb]
    split at h
    · rename_i hw
      obtain ⟨l, h1, h2⟩ := aop_local h
      refine ⟨l, h1, fun e' ha => ?_⟩
      rw [hgt e' ha]
      simp only [if_pos hw]
      exact h2 e' ha
    · rename_i hw
      cases h
      refine ⟨op.dst.toList.map fun t => (t, .tup []), fun p hp => ?_, fun e' ha => ?_⟩
      · simp only [List.mem_map] at hp
        obtain ⟨t, ht, rfl⟩ := hp
        simp only [Op.defs, List.mem_append]; exact .inl ht
      · rw [hgt e' ha]
        simp only [if_neg hw, put_app]


theorem nilbs_nil {cs cs' : List D} (h : nilbs [] cs σ = some (cs', σ')) : σ' = σ := by
  simp only [nilbs, Option.some.injEq, Prod.mk.injEq] at h; exact h.2.symm

theorem sop_still {d : D} {k : K} (h : sop e σ k = some (d, σ')) (hk : k.calm = true) : σ' = σ := sop_same h hk

theorem aop_still {O : Oracle} {op : Op} {e1 : Env} {σ1 : Stack} (h : aop O op e σ = some (e1, σ1)) (hs : op.still = true) : σ1 = σ := by
  obtain ⟨dst, grd, ntr, k⟩ := op
  simp only [Op.still, Bool.and_eq_true] at hs
  obtain ⟨hk, hn⟩ := hs
  have hplain : (aop O ⟨dst, grd, ntr, k⟩ e σ = (sop e σ k).map fun x => (put dst x.1 e, x.2)) → σ1 = σ := by
    intro hall
    rw [hall] at h
    simp only [Option.map_eq_some_iff, Prod.exists, Prod.mk.injEq] at h
    obtain ⟨d, σ2, hs, rfl, rfl⟩ := h
    exact sop_still hs hk
  cases k
  case call kp f args =>
    simp only [aop] at h
    split at h
    case h_2 => cases h
    split at h
    case isFalse => cases h
    rename_i hx
    cases h
    exact hx hn
  case alcv nb cs =>
    simp only [aop] at h
    split at h
    case h_2 => cases h
    rename_i v cs' σ2 hnb
    cases h
    simp only [K.calm, List.isEmpty_iff] at hk
    subst hk
    exact nilbs_nil hnb
  case boxv x =>
    simp only [aop] at h
    split at h
    case h_2 => cases h
    cases h
    rfl
  case stv v nb sz a x =>
    simp only [aop] at h
    split at h
    case h_2 => cases h
    split at h
    case isFalse => cases h
    split at h
    case h_2 => cases h
    rename_i hnb
    cases h
    simp only [K.calm, List.isEmpty_iff] at hk
    subst hk
    exact nilbs_nil hnb
  all_goals exact hplain rfl

theorem run1_still {O : Oracle} {op : Op} {e1 : Env} {σ1 : Stack} (h : run1 O op e σ = some (e1, σ1)) (hs : op.still = true) : σ1 = σ := by
  unfold run1 at h
  split at h
  · exact aop_still h hs
  · split at h
    case h_2 => cases h
    split at h
    · exact aop_still h hs
    · cases h; rfl

def EqE (e e' : Env) : Prop := ∀ t, get e' t = get e t

theorem EqE.refl (e : Env) : EqE e e := fun _ => rfl
theorem EqE.trans {a b c : Env} (h : EqE a b) (h' : EqE b c) : EqE a c := fun t => (h' t).trans (h t)
theorem EqE.agree (h : EqE e e') (ts : List Nat) : Agree ts e e' := fun t _ => h t

theorem get_app {l : List (Nat × D)} {t : Nat} : get (l ++ e) t = if t ∈ l.map (·.1) then get l t else get e t := by
  induction l with
  | nil => simp
  | cons p l ih =>
    obtain ⟨k, v⟩ := p
    simp only [List.cons_append, get]
    by_cases hk : k = t
    · simp [hk]
    · rw [if_neg hk, ih]
      simp only [List.map_cons, List.mem_cons]
      by_cases ht : t ∈ l.map (·.1)
      · rw [if_pos ht, if_pos (.inr ht)]; rw [if_neg hk]
      · rw [if_neg ht, if_neg (by intro h; rcases h with h | h; exact hk h.symm; exact ht h)]

theorem EqE.app (h : EqE e e') (l : List (Nat × D)) : EqE (l ++ e) (l ++ e') := fun t => by
  simp only [get_app, h t]

theorem aops_eqE {O : Oracle} : ∀ {xs : List Op} {e e' e1 : Env} {σ σ1 : Stack}, aops O xs e σ = some (e1, σ1) → EqE e e' → ∃ e1', aops O xs e' σ = some (e1', σ1) ∧ EqE e1 e1'
  | [], e, e', e1, σ, σ1, h, he => by
    simp only [aops, Option.some.injEq, Prod.mk.injEq] at h
    obtain ⟨rfl, rfl⟩ := h
    exact ⟨e', rfl, he⟩
  | x :: xs, e, e', e1, σ, σ1, h, he => by
    rw [aops_cons] at h
    simp only [Option.bind_eq_some_iff, Prod.exists] at h
    obtain ⟨e2, σ2, h1, h2⟩ := h
    obtain ⟨l, _, hl⟩ := run1_local h1
    have h3 := hl e (EqE.agree (.refl e) _)
    rw [h1] at h3
    cases h3
    obtain ⟨e3, h4, h5⟩ := aops_eqE h2 (he.app l)
    exact ⟨e3, by rw [aops_cons, hl e' (he.agree _)]; exact h4, h5⟩

theorem sop_pure {d : D} {k : K} (h : sop e σ k = some (d, σ')) (hk : k.pure = true) (τ : Stack) : sop e τ k = some (d, τ) := by
  cases k <;> simp only [K.pure, K.calm, Bool.false_eq_true] at hk <;> simp only [sop, Option.bind_eq_bind, reduceCtorEq] at h ⊢ <;> (repeat' split at h) <;>
    simp only [Option.map_eq_some_iff, Option.bind_eq_some_iff, Option.some.injEq, Prod.mk.injEq, Prod.exists, reduceCtorEq, exists_eq_left, and_false, exists_false] at h <;> (try split at h) <;>
    simp_all <;> (try (obtain ⟨_, _, h⟩ := h; simp_all)) <;> (try grind)

theorem aop_pure {O : Oracle} {op : Op} {e1 : Env} {σ1 : Stack} (h : aop O op e σ = some (e1, σ1)) (hs : op.k.pure = true) (τ : Stack) : aop O op e τ = some (e1, τ) := by
  obtain ⟨dst, grd, ntr, k⟩ := op
  have hplain : (∀ τ, aop O ⟨dst, grd, ntr, k⟩ e τ = (sop e τ k).map fun x => (put dst x.1 e, x.2)) → aop O ⟨dst, grd, ntr, k⟩ e τ = some (e1, τ) := by
    intro hall
    rw [hall] at h ⊢
    simp only [Option.map_eq_some_iff, Prod.exists, Prod.mk.injEq] at h
    obtain ⟨d, σ2, hs', rfl, rfl⟩ := h
    rw [sop_pure hs' hs τ]
    rfl
  cases k
  case call kp f args => simp [K.pure] at hs
  case alcv nb cs =>
    simp only [K.pure, K.calm, List.isEmpty_iff] at hs
    subst hs
    simp only [aop] at h ⊢
    cases dst with
    | none => cases h
    | some v => simp only [nilbs, Option.some.injEq, Prod.mk.injEq] at h ⊢; exact ⟨h.1, trivial⟩
  case boxv x =>
    simp only [aop] at h ⊢
    cases dst with
    | none => cases h
    | some v =>
      cases hx : (opd e x).cells with
      | none => rw [hx] at h; cases h
      | some cs => rw [hx] at h; simp only [Option.some.injEq, Prod.mk.injEq] at h ⊢; exact ⟨h.1, trivial⟩
  case stv v nb sz a x =>
    simp only [K.pure, K.calm, List.isEmpty_iff] at hs
    subst hs
    simp only [aop] at h ⊢
    cases hin : inVar e v a <;> rw [hin] at h <;> try (cases h; done)
    cases hx : (opd e x).cells <;> rw [hx] at h <;> try (cases h; done)
    simp only [nilbs] at h ⊢
    split at h
    · rename_i hc
      rw [if_pos hc]
      simp only [Option.some.injEq, Prod.mk.injEq] at h ⊢
      exact ⟨h.1, trivial⟩
    · cases h
  all_goals exact hplain fun τ => rfl

theorem pure_calm {k : K} (h : k.pure = true) : k.calm = true ∧ ∀ kp f xs, k ≠ .call kp f xs := by
  cases k <;> simp_all [K.pure, K.calm]

theorem run1_pure {O : Oracle} {op : Op} {e1 : Env} {σ1 : Stack} (h : run1 O op e σ = some (e1, σ1)) (hs : op.k.pure = true) : ∀ τ, run1 O op e τ = some (e1, τ) := by
  intro τ
  unfold run1 at h ⊢
  cases hg : op.grd with
  | none => rw [hg] at h; exact aop_pure h hs τ
  | some y =>
    obtain ⟨g, want⟩ := y
    rw [hg] at h
    dsimp only at h ⊢
    cases hb : (get e g).bit with
    | none => rw [hb] at h; cases h
    | some b =>
      rw [hb] at h
      dsimp only at h ⊢
      split at h
      · rename_i hw
        rw [if_pos hw]
        exact aop_pure h hs τ
      · rename_i hw
        rw [if_neg hw]
        cases h
        rfl

theorem setSeg_hit {a : List Blk} {σ : Stack} {l : Nat} {s : List Blk} (h : σ.length = l) : setSeg (a :: σ) l s = s :: σ := by simp only [setSeg]; rw [if_pos h]
theorem setSeg_miss {a : List Blk} {σ : Stack} {l : Nat} {s : List Blk} (h : ¬ σ.length = l) : setSeg (a :: σ) l s = a :: setSeg σ l s := by simp only [setSeg]; rw [if_neg h]

theorem setSeg_comm {σ : Stack} {l l' : Nat} {s s' : List Blk} (h : l ≠ l') : setSeg (setSeg σ l s) l' s' = setSeg (setSeg σ l' s') l s := by
  induction σ with
  | nil => rfl
  | cons a σ ih =>
    by_cases h1 : σ.length = l
    · have h2 : ¬ σ.length = l' := by omega
      rw [setSeg_hit h1, setSeg_miss h2, setSeg_miss h2, setSeg_hit (by rw [setSeg_length]; exact h1)]
    · by_cases h2 : σ.length = l'
      · rw [setSeg_miss h1, setSeg_hit h2, setSeg_hit (by rw [setSeg_length]; exact h2), setSeg_miss h1]
      · rw [setSeg_miss h1, setSeg_miss h2, setSeg_miss (by rw [setSeg_length]; exact h2), setSeg_miss (by rw [setSeg_length]; exact h1), ih]

theorem seg?_setSeg_ne {σ : Stack} {l l' : Nat} {s : List Blk} (h : l ≠ l') : seg? (setSeg σ l s) l' = seg? σ l' := by
  induction σ with
  | nil => rfl
  | cons a σ ih =>
    simp only [setSeg]
    by_cases h1 : σ.length = l
    · rw [if_pos h1]; simp only [seg?]; rw [if_neg (by omega), if_neg (by omega)]
    · rw [if_neg h1]; simp only [seg?, setSeg_length, ih]

theorem setSeg_twice {σ : Stack} {l : Nat} {s s' : List Blk} : setSeg (setSeg σ l s) l s' = setSeg σ l s' := by
  induction σ with
  | nil => rfl
  | cons a σ ih =>
    simp only [setSeg]
    by_cases h1 : σ.length = l
    · rw [if_pos h1, if_pos h1]; simp only [setSeg]; rw [if_pos h1]
    · rw [if_neg h1, if_neg h1]; simp only [setSeg, setSeg_length]; rw [if_neg h1, ih]

theorem setBlk_comm {σ : Stack} {l i l' i' : Nat} {b b' : Blk} (h : ¬ (l' = l ∧ i' = i)) : setBlk (setBlk σ l i b) l' i' b' = setBlk (setBlk σ l' i' b') l i b := by
  by_cases hl : l = l'
  · subst hl
    have hi : i ≠ i' := fun e => h ⟨rfl, e.symm⟩
    unfold setBlk
    cases hs : seg? σ l with
    | none => simp [hs]
    | some s =>
      simp only [seg?_setSeg (seg?_lt hs), setSeg_twice]
      rw [List.set_comm _ _ hi]
  · unfold setBlk
    cases hs : seg? σ l with
    | none =>
      cases hs' : seg? σ l' with
      | none => simp [hs, hs']
      | some s' => simp only [seg?_setSeg_ne (Ne.symm hl), hs]
    | some s =>
      cases hs' : seg? σ l' with
      | none => simp only [seg?_setSeg_ne hl, hs', hs]
      | some s' =>
        simp only [seg?_setSeg_ne hl, seg?_setSeg_ne (Ne.symm hl), hs, hs']
        exact setSeg_comm hl

theorem cells?_off {σ : Stack} {l i l' i' v : Nat} {b : Blk} (h : ¬ (l' = l ∧ i' = i)) : cells? (setBlk σ l i b) l' i' v = cells? σ l' i' v := by
  unfold cells?
  rw [blk?_setBlk_other h]

theorem rdD_off {σ : Stack} {l i : Nat} {b : Blk} {d : D} (h : D.off l i d = true) : rdD (setBlk σ l i b) d.strip = rdD σ d.strip := by
  cases d <;> try rfl
  simp only [D.off, decide_eq_true_eq] at h
  simp only [D.strip, rdD, cells?_off h]

theorem run1_ld {O : Oracle} {dst : Option Nat} {n ag : Bool} {sz m : Nat} {e1 : Env} {σ1 : Stack} (h : run1 O ⟨dst, none, n, .ld ag sz (.t m)⟩ e σ = some (e1, σ1)) :
    σ1 = σ ∧ ∀ τ, rdD τ (get e m).strip = rdD σ (get e m).strip → run1 O ⟨dst, none, n, .ld ag sz (.t m)⟩ e τ = some (e1, τ) := by
  have hs := run1_still h
  simp only [run1, aop, sop, opd] at h ⊢
  refine ⟨?_, fun τ hτ => ?_⟩
  · simp only [Option.map_eq_some_iff, Prod.exists, Prod.mk.injEq] at h
    obtain ⟨d, σ2, h, _, rfl⟩ := h
    exact sop_still (k := .ld ag sz (.t m)) (e := e) (d := d) (by simpa only [sop, opd] using h) rfl
  · rw [hτ]
    cases hr : rdD σ (get e m).strip with
    | none => rw [hr] at h; cases h
    | some cs =>
      rw [hr] at h
      dsimp only at h ⊢
      split at h
      · rename_i hsz
        rw [if_pos hsz]
        cases ag with
        | true => simp at h ⊢; exact h.1
        | false =>
          simp only [Bool.false_eq_true, if_false] at h ⊢
          cases cs with
          | nil => cases h
          | cons d ds => simp at h ⊢; exact h.1
      · cases h

theorem run1_stc {O : Oracle} {dst : Option Nat} {n : Bool} {os : List Nat} {sz : Nat} {a x : Opd} {e1 : Env} {σ1 : Stack} (h : run1 O ⟨dst, none, n, .stc os sz a x⟩ e σ = some (e1, σ1)) :
    ∃ l i v off b, opd e a = .ref l i v off ∧ (∀ m ∈ os, D.off l i (get e m) = true) ∧ σ1 = setBlk σ l i b ∧
      ∀ τ, τ.length = σ.length → cells? τ l i v = cells? σ l i v → run1 O ⟨dst, none, n, .stc os sz a x⟩ e τ = some (e1, setBlk τ l i b) := by
  simp only [run1, aop, sop] at h ⊢
  cases ha : opd e a <;> rw [ha] at h <;> try (cases h; done)
  rename_i l i v off
  dsimp only at h ⊢
  split at h
  case isFalse => cases h
  rename_i hall
  cases hc : cells? σ l i v with
  | none => rw [hc] at h; cases h
  | some cs =>
  rw [hc] at h
  dsimp only at h
  cases hp : (opd e x).cells with
  | none => rw [hp] at h; cases h
  | some p =>
  rw [hp] at h
  dsimp only at h
  split at h
  case isFalse => cases h
  rename_i hq
  simp only [Option.map_some, Option.some.injEq, Prod.mk.injEq] at h
  refine ⟨l, i, v, off, .cells v (cs.take off ++ p ++ cs.drop (off + sz)), rfl, fun m hm => List.all_eq_true.1 hall m hm, h.2.symm, fun τ hlen hτ => ?_⟩
  simp only [hall, if_true, hτ, hc, hlen, if_pos hq, Option.map_some, h.1]

theorem run1_apc {O : Oracle} {dst : Option Nat} {n : Bool} {os : List Nat} {w b : Nat} {a x : Opd} {e1 : Env} {σ1 : Stack} (h : run1 O ⟨dst, none, n, .apc os w b a x⟩ e σ = some (e1, σ1)) :
    ∃ l i v cs, (∀ m ∈ os, D.off l i (get e m) = true) ∧ σ1 = setBlk σ l i (.cells (v + 1) cs) := by
  simp only [run1, aop, Option.map_eq_some_iff, Prod.exists, Prod.mk.injEq] at h
  obtain ⟨d, σ2, h, _, rfl⟩ := h
  simp only [sop] at h
  split at h
  case h_2 => cases h
  rename_i l i v off n' w' ha
  split at h
  case isFalse => cases h
  rename_i hall
  simp only [Option.bind_eq_some_iff] at h
  obtain ⟨⟨m, xs⟩, he, h⟩ := h
  dsimp only at h
  split at h
  case isFalse => cases h
  rename_i hcl
  simp only [appD, Option.bind_eq_bind, he, Option.bind_some, ha] at h
  split at h
  case h_2 => cases h
  split at h
  case isFalse => cases h
  refine ⟨l, i, ?_⟩
  split at h
  · cases h
    exact ⟨_, _, fun m hm => List.all_eq_true.1 hall m hm, rfl⟩
  · rw [show deep = 15 + 1 from rfl, frzL_pure hcl] at h
    cases h
    exact ⟨_, _, fun m hm => List.all_eq_true.1 hall m hm, rfl⟩
theorem rd0_rd {σ : Stack} {d : D} {cs : List D} (h : rd0 σ d = some cs) : rdD σ d = some cs := by
  unfold rd0 at h
  split at h
  · exact h
  · cases h
theorem rd0_set {σ : Stack} {l i v : Nat} {cs : List D} {d : D} {c : List D} (h : rd0 (setBlk σ l i (.cells (v + 1) cs)) d = some c) : rd0 σ d = some c := by
  unfold rd0 at h ⊢
  split at h
  case h_2 => cases h
  rename_i l2 i2 off
  simp only [rdD, Option.map_eq_some_iff] at h ⊢
  obtain ⟨a, h1, h2⟩ := h
  refine ⟨a, ?_, h2⟩
  by_cases hh : l2 = l ∧ i2 = i
  · obtain ⟨rfl, rfl⟩ := hh
    unfold cells? at h1
    cases hb : blk? σ l2 i2 with
    | some b0 => rw [blk?_setBlk hb] at h1; simp at h1
    | none =>
      have hn : blk? (setBlk σ l2 i2 (.cells (v + 1) cs)) l2 i2 = none := by
        unfold blk? at hb ⊢
        unfold setBlk
        cases hs : seg? σ l2 with
        | none => simp only [hs]; rfl
        | some s =>
          simp only [hs, Option.bind_some] at hb
          simp only [seg?_setSeg (seg?_lt hs), Option.bind_some]
          rw [List.getElem?_eq_none_iff] at hb ⊢
          simpa using hb
      rw [hn] at h1; cases h1
  · rwa [cells?_off hh] at h1
theorem run1_ld0 {O : Oracle} {dst : Option Nat} {n ag : Bool} {sz m : Nat} {e1 : Env} {σ1 : Stack} (h : run1 O ⟨dst, none, n, .ld0 ag sz (.t m)⟩ e σ = some (e1, σ1)) :
    σ1 = σ ∧ ∃ c, rd0 σ (get e m).strip = some c ∧ ∀ τ, rd0 τ (get e m).strip = some c → run1 O ⟨dst, none, n, .ld0 ag sz (.t m)⟩ e τ = some (e1, τ) := by
  simp only [run1, aop, sop, opd] at h ⊢
  cases hr : rd0 σ (get e m).strip with
  | none => rw [hr] at h; cases h
  | some cs =>
    rw [hr] at h
    dsimp only at h ⊢
    have hs : σ1 = σ := by
      split at h
      · cases ag with
        | true => simp at h; exact h.2.symm
        | false => cases cs <;> simp at h; exact h.2.symm
      · cases h
    refine ⟨hs, cs, rfl, fun τ hτ => ?_⟩
    rw [hτ]
    dsimp only
    split at h
    · rename_i hsz
      rw [if_pos hsz]
      cases ag with
      | true => simp at h ⊢; exact h.1
      | false =>
        simp only [Bool.false_eq_true, if_false] at h ⊢
        cases cs with
        | nil => cases h
        | cons d ds => simp at h ⊢; exact h.1
    · cases h
theorem newBlk_rd {σ σ' : Stack} {b : Blk} {l i : Nat} (h : newBlk σ b = some (l, i, σ')) {d : D} {cs : List D} (hd : rdD σ d = some cs) : rdD σ' d = some cs := by
  cases d <;> try exact hd
  rename_i l' i' v off
  simp only [rdD, Option.map_eq_some_iff] at hd ⊢
  obtain ⟨c, h1, h2⟩ := hd
  refine ⟨c, ?_, h2⟩
  unfold cells? at h1 ⊢
  have hb : ∃ b0, blk? σ l' i' = some b0 := by
    cases hb : blk? σ l' i' with
    | none => rw [hb] at h1; cases h1
    | some b0 => exact ⟨b0, rfl⟩
  obtain ⟨b0, hb⟩ := hb
  have hne : ¬ (l' = l ∧ i' = i) := fun hh => by
    have := (newBlk_spec h).1
    rw [hh.1, hh.2, this] at hb; cases hb
  rw [(newBlk_spec h).2.2.1 l' i' hne]
  exact h1

theorem adr_ok {O : Oracle} {x y : Op} {e2 : Env} {σ2 : Stack} {r : List Op} (hf : x.adr y = true)
    (h : aops O (x :: y :: r) e σ = some (e2, σ2)) : ∃ e2', aops O (y :: x :: r) e σ = some (e2', σ2) ∧ EqE e2 e2' := by
  unfold Op.adr at hf
  split at hf
  case h_2 => cases hf
  rename_i n v sz a X d n' off m
  simp only [decide_eq_true_eq] at hf
  obtain ⟨rfl, hdv, hda, hdX⟩ := hf
  rw [aops_cons] at h
  simp only [Option.bind_eq_some_iff, Prod.exists] at h
  obtain ⟨ex, σx, h1, h2⟩ := h
  rw [aops_cons] at h2
  simp only [Option.bind_eq_some_iff, Prod.exists] at h2
  obtain ⟨ey, σy, h2, h3⟩ := h2
  simp only [run1, aop] at h1
  cases hin : inVar e m a with
  | none => rw [hin] at h1; cases h1
  | some z =>
  obtain ⟨s, cs, o⟩ := z
  rw [hin] at h1
  cases hX : (opd e X).cells with
  | none => rw [hX] at h1; cases h1
  | some p =>
  rw [hX] at h1
  dsimp only at h1
  split at h1
  case isFalse => cases h1
  rename_i hq
  simp only [nilbs, Option.some.injEq, Prod.mk.injEq] at h1
  obtain ⟨rfl, rfl⟩ := h1
  have hgv : ∃ cs', get e m = .own s cs' := by
    unfold inVar at hin
    cases hg : get e m <;> rw [hg] at hin <;> try (cases hin; done)
    rename_i s' cs'
    dsimp only at hin
    split at hin
    · cases hin; exact ⟨_, rfl⟩
    · split at hin
      · split at hin
        · cases hin; exact ⟨_, rfl⟩
        · cases hin
      · cases hin
  obtain ⟨cs', hgv⟩ := hgv
  simp only [run1, aop, sop, get, if_true, Option.map_some, Option.some.injEq, Prod.mk.injEq] at h2
  obtain ⟨rfl, rfl⟩ := h2
  have hne : get ((d, D.vr m s off) :: e) m = get e m := by simp [get, hdv]
  have hna : get ((d, D.vr m s off) :: e) a = get e a := by simp [get, hda]
  have hin' : inVar ((d, D.vr m s off) :: e) m a = some (s, cs, o) := by rw [inVar_agree hne hna, hin]
  have hX' : opd ((d, D.vr m s off) :: e) X = opd e X := opd_agree fun t ht => by
    have : d ≠ t := fun he => hdX (he ▸ ht)
    simp [get, this]
  have heq : EqE (put (some d) (D.vr m s off) ((m, .own s (cs.take o ++ p ++ cs.drop (o + sz))) :: e)) ((m, .own s (cs.take o ++ p ++ cs.drop (o + sz))) :: (d, D.vr m s off) :: e) := by
    intro t
    simp only [put, get]
    by_cases h1 : d = t
    · have : ¬ m = t := fun e => hdv (h1.trans e.symm)
      simp [h1, this]
    · simp [h1]
  obtain ⟨e3, k1, k2⟩ := aops_eqE h3 heq
  refine ⟨e3, ?_, k2⟩
  rw [aops_cons]
  simp only [run1, aop, sop, hgv, Option.map_some, Option.bind_some]
  rw [aops_cons]
  simp only [run1, aop, put, hin', hX', hX, hq, and_self, if_true, nilbs, Option.bind_some]
  exact k1

theorem swap_ok {O : Oracle} {x y : Op} {e2 : Env} {σ2 : Stack} {r : List Op} (hf : x.free y = true)
    (h : aops O (x :: y :: r) e σ = some (e2, σ2)) : ∃ e2', aops O (y :: x :: r) e σ = some (e2', σ2) ∧ EqE e2 e2' := by
  unfold Op.free at hf
  rw [Bool.or_eq_true] at hf
  rcases hf with hf | hf
  · exact adr_ok hf h
  simp only [Bool.and_eq_true, Bool.not_eq_true'] at hf
  obtain ⟨hc, hf⟩ := hf
  simp only [Op.clash, Bool.or_eq_false_iff, List.any_eq_false, List.contains_iff_mem, Bool.or_eq_true, not_or] at hc
  obtain ⟨c1, c2⟩ := hc
  rw [aops_cons] at h
  simp only [Option.bind_eq_some_iff, Prod.exists] at h
  obtain ⟨ex, σx, h1, h2⟩ := h
  rw [aops_cons] at h2
  simp only [Option.bind_eq_some_iff, Prod.exists] at h2
  obtain ⟨ey, σy, h2, h3⟩ := h2
  obtain ⟨lx, d1, hl1⟩ := run1_local h1
  obtain ⟨ly, d2, hl2⟩ := run1_local h2
  have k1 := hl1 e (EqE.agree (.refl e) _)
  rw [h1] at k1; cases k1
  have k2 := hl2 _ (EqE.agree (.refl _) _)
  rw [h2] at k2; cases k2
  -- y first
  have ay : Agree (y.uses ++ y.defs) (lx ++ e) e := fun t ht => by
    rw [get_app, if_neg]
    intro hm
    obtain ⟨p, hp, rfl⟩ := List.mem_map.1 hm
    have := c1 _ (d1 p hp)
    simp only [List.mem_append] at ht
    rcases ht with ht | ht
    · exact this.2 (by simpa using ht)
    · exact this.1 (by simpa using ht)
  have ax : Agree (x.uses ++ x.defs) e (ly ++ e) := fun t ht => by
    rw [get_app, if_neg]
    intro hm
    obtain ⟨p, hp, rfl⟩ := List.mem_map.1 hm
    have hp' := d2 p hp
    simp only [List.mem_append] at ht
    rcases ht with ht | ht
    · exact c2 _ ht (by simpa using hp')
    · exact (c1 _ ht).1 (by simpa using hp')
  have hy0 := hl2 e ay
  have hx0 := hl1 (ly ++ e) ax
  obtain ⟨σm, hy1, hx1⟩ : ∃ σm, run1 O y e σ = some (ly ++ e, σm) ∧ run1 O x (ly ++ e) σm = some (lx ++ (ly ++ e), σy) := by
    simp only [Bool.or_eq_true, Bool.and_eq_true] at hf
    rcases hf with ((⟨hx, hy⟩ | hx) | hy) | hfar
    · obtain rfl := run1_still h1 hx
      obtain rfl := run1_still h2 hy
      exact ⟨_, hy0, hx0⟩
    · have e1 := run1_pure h1 hx σ
      rw [h1] at e1
      cases e1
      exact ⟨σy, hy0, run1_pure hx0 hx σy⟩
    · have e2 := run1_pure h2 hy σx
      rw [h2] at e2
      cases e2
      exact ⟨σ, run1_pure hy0 hy σ, hx0⟩
    · unfold Op.far at hfar
      obtain ⟨dx, gx, nx, kx⟩ := x
      obtain ⟨dy, gy, ny, ky⟩ := y
      simp only [Bool.and_eq_true, Option.isNone_iff_eq_none] at hfar
      obtain ⟨⟨rfl, rfl⟩, hfar⟩ := hfar
      split at hfar
      · rename_i os sz a X ag sz' m
        have hm : m ∈ os := by simpa using hfar
        obtain ⟨l, i, v, off, b, _, hoff, rfl, _⟩ := run1_stc h1
        obtain ⟨rfl, hall⟩ := run1_ld hy0
        exact ⟨σ, hall σ (rdD_off (hoff m hm)).symm, hx0⟩
      · rename_i ag sz' m os sz a X
        have hm : m ∈ os := by simpa using hfar
        obtain ⟨rfl, _⟩ := run1_ld h1
        obtain ⟨l, i, v, off, b, _, hoff, rfl, _⟩ := run1_stc hy0
        obtain ⟨_, hall⟩ := run1_ld hx0
        refine ⟨_, hy0, hall _ ?_⟩
        have hg : get (ly ++ e) m = get e m := ax m (by simp [Op.uses, K.tmps, Opd.tmps])
        rw [hg]
        exact rdD_off (hoff m hm)
      · rename_i os sz a X os' sz' m X'
        have hm : m ∈ os := by simpa using hfar
        obtain ⟨l, i, v, off, b, _, hoff, rfl, hall⟩ := run1_stc hx0
        obtain ⟨l', i', v', off', b', hr, hoff', rfl, hall'⟩ := run1_stc hy0
        have hg : get (ly ++ e) m = get e m := ax m (by simp [Op.uses, K.tmps, hm])
        have h4 := hoff m hm
        rw [hg] at h4
        have h5 : get e m = .ref l' i' v' off' := by
          simp only [opd] at hr
          cases hgm : get e m <;> rw [hgm] at hr <;> simp only [D.strip, reduceCtorEq] at hr
          exact hr
        rw [h5] at h4
        simp only [D.off, decide_eq_true_eq] at h4
        refine ⟨setBlk σ l' i' b', hall' σ setBlk_length.symm (cells?_off h4).symm, ?_⟩
        rw [setBlk_comm h4]
        exact hall _ setBlk_length (cells?_off fun hh => h4 ⟨hh.1.symm, hh.2.symm⟩)
      · rename_i os wd bt a X ag sz' m
        have hm : m ∈ os := by simpa using hfar
        obtain ⟨l, i, b, bc, hoff, rfl⟩ := run1_apc h1
        obtain ⟨rfl, hall⟩ := run1_ld hy0
        exact ⟨σ, hall σ (rdD_off (hoff m hm)).symm, hx0⟩
      · rename_i ag sz' m cs
        obtain ⟨rfl, _⟩ := run1_ld h1
        obtain ⟨_, hall⟩ := run1_ld hx0
        refine ⟨_, hy0, hall _ ?_⟩
        have hg : get (ly ++ e) m = get e m := ax m (by simp [Op.uses, K.tmps, Opd.tmps])
        rw [hg]
        have hrd : ∃ c, rdD σx (get e m).strip = some c := by
          simp only [run1, aop, sop, opd] at h1
          cases hr : rdD σx (get e m).strip with
          | none => rw [hr] at h1; simp at h1
          | some c => exact ⟨c, rfl⟩
        obtain ⟨c, hrd⟩ := hrd
        have hn : ∃ l i, newBlk σx (.cells 0 cs) = some (l, i, σy) := by
          simp only [run1, aop, sop, nilbs, Option.bind_eq_bind, Option.bind_some, Option.map_eq_some_iff, Option.bind_eq_some_iff, Prod.exists, Prod.mk.injEq] at hy0
          obtain ⟨d0, σ0, ⟨l, i, σ3, h1, h2⟩, _, h3⟩ := hy0
          cases h2; cases h3
          exact ⟨l, i, h1⟩
        obtain ⟨l, i, hn⟩ := hn
        rw [hrd, newBlk_rd hn hrd]
      · rename_i os wd bt a X ag sz' m
        obtain ⟨l, i, b, bc, hoff, rfl⟩ := run1_apc h1
        obtain ⟨rfl, c, hc, hall⟩ := run1_ld0 hy0
        exact ⟨σ, hall σ (rd0_set hc), hx0⟩
      · cases hfar
  have heq : EqE (ly ++ (lx ++ e)) (lx ++ (ly ++ e)) := fun t => by
    simp only [get_app]
    by_cases m1 : t ∈ lx.map (·.1)
    · by_cases m2 : t ∈ ly.map (·.1)
      · obtain ⟨p, hp, rfl⟩ := List.mem_map.1 m1
        obtain ⟨q, hq, he⟩ := List.mem_map.1 m2
        have := (c1 _ (d1 p hp)).1
        have hq' := d2 q hq
        rw [he] at hq'
        exact absurd hq' (by simpa using this)
      · rw [if_pos m1, if_neg m2, if_pos m1]
    · by_cases m2 : t ∈ ly.map (·.1)
      · rw [if_neg m1, if_pos m2, if_pos m2]
      · rw [if_neg m1, if_neg m2, if_neg m2, if_neg m1]
  obtain ⟨e3, k3, k4⟩ := aops_eqE h3 heq
  refine ⟨e3, ?_, k4⟩
  rw [aops_cons, hy1]
  simp only [Option.bind_some]
  rw [aops_cons, hx1]
  exact k3

theorem front_ok {O : Oracle} {y : Op} {r : List Op} : ∀ {pre : List Op} {e e2 : Env} {σ σ2 : Stack}, (∀ x ∈ pre, x.free y = true) →
    aops O (pre ++ y :: r) e σ = some (e2, σ2) → ∃ e2', aops O (y :: (pre ++ r)) e σ = some (e2', σ2) ∧ EqE e2 e2'
  | [], e, e2, σ, σ2, hp, h => ⟨e2, h, .refl _⟩
  | x :: pre, e, e2, σ, σ2, hp, h => by
    simp only [List.cons_append] at h
    rw [aops_cons] at h
    simp only [Option.bind_eq_some_iff, Prod.exists] at h
    obtain ⟨e1, σ1, h1, h2⟩ := h
    obtain ⟨e3, h3, h4⟩ := front_ok (fun z hz => hp z (by simp [hz])) h2
    have h5 : aops O (x :: y :: (pre ++ r)) e σ = some (e3, σ2) := by rw [aops_cons, h1]; exact h3
    obtain ⟨e4, h6, h7⟩ := swap_ok (hp x (by simp)) h5
    exact ⟨e4, h6, h4.trans h7⟩

theorem restrict_eqE {live : List Nat} (h : EqE e e') : restrict live e' = restrict live e := by
  simp only [restrict]
  exact List.map_congr_left fun t _ => by rw [h t]
end Go.Abs

/-
  In whatever order a region that draws goes: the interpreter's answer is the same.
-/
set_option linter.unusedVariables false
set_option linter.unusedSimpArgs false
namespace Go.Abs
open Go

inductive Sched : List (Nat × Op) → List Nat → List Op → Prop
  | nil : Sched [] [] []
  | cons {pre post : List (Nat × Op)} {i : Nat} {x : Op} {is : List Nat} {ys : List Op} : (∀ p ∈ pre, p.2.free x = true) →
      Sched (pre ++ post) is ys → Sched (pre ++ (i, x) :: post) (i :: is) (x :: ys)

theorem sched_aops {O : Oracle} {R : List (Nat × Op)} {is : List Nat} {ys : List Op} (h : Sched R is ys) : ∀ {e e2 : Env} {σ σ2 : Stack}, aops O (R.map (·.2)) e σ = some (e2, σ2) →
    ∃ e2', aops O ys e σ = some (e2', σ2) ∧ EqE e2 e2' := by
  induction h with
  | nil => intro e e2 σ σ2 h; exact ⟨e2, h, .refl _⟩
  | cons hp _ ih =>
    rename_i pre post i x is ys _
    intro e e2 σ σ2 h
    have h1 : ∃ e3, aops O (x :: ((pre ++ post).map (·.2))) e σ = some (e3, σ2) ∧ EqE e2 e3 := by
      simp only [List.map_append, List.map_cons] at h ⊢
      exact front_ok (fun z hz => by obtain ⟨p, hp', rfl⟩ := List.mem_map.1 hz; exact hp p hp') h
    obtain ⟨e3, h1, h2⟩ := h1
    rw [aops_cons] at h1
    simp only [Option.bind_eq_some_iff, Prod.exists] at h1
    obtain ⟨e4, σ4, h3, h4⟩ := h1
    obtain ⟨e5, h5, h6⟩ := ih h4
    exact ⟨e5, by rw [aops_cons, h3]; exact h5, h2.trans h6⟩

inductive SchedT (t : Nat) : List (Nat × Op) → List Nat → List Op → Prop
  | nil : SchedT t [] [] []
  | cons {pre post : List (Nat × Op)} {i : Nat} {x : Op} {is : List Nat} {ys : List Op} : (∀ p ∈ pre, p.2.free x = true) → (t ≤ i → pre = []) →
      SchedT t (pre ++ post) is ys → SchedT t (pre ++ (i, x) :: post) (i :: is) (x :: ys)
theorem SchedT.sched {t : Nat} {R : List (Nat × Op)} {is : List Nat} {ys : List Op} (h : SchedT t R is ys) : Sched R is ys := by
  induction h with
  | nil => exact .nil
  | cons h1 _ _ ih => exact .cons h1 ih
theorem sched_nil {R : List (Nat × Op)} {is : List Nat} {ys : List Op} (h : Sched R is ys) (hR : R = []) : is = [] ∧ ys = [] := by
  cases h with
  | nil => exact ⟨rfl, rfl⟩
  | cons => simp at hR
theorem schedT_split {t : Nat} {R : List (Nat × Op)} {is : List Nat} {ys : List Op} (h : SchedT t R is ys) : ∀ {A B : List (Nat × Op)}, R = A ++ B → (∀ p ∈ B, t ≤ p.1) →
    ∃ is1 ys1, is = is1 ++ B.map (·.1) ∧ ys = ys1 ++ B.map (·.2) ∧ Sched A is1 ys1 := by
  induction h with
  | nil =>
    intro A B hR hB
    obtain ⟨rfl, rfl⟩ := List.nil_eq_append_iff.1 hR
    exact ⟨[], [], rfl, rfl, .nil⟩
  | cons h1 h2 h3 ih =>
    rename_i pre post i x is ys
    intro A B hR hB
    rcases List.append_eq_append_iff.1 hR with ⟨A2, hA, hB2⟩ | ⟨p2, hp, hB2⟩
    · -- the element lies behind the beginning of A
      cases A2 with
      | nil =>
        simp only [List.append_nil] at hA
        subst hA
        simp only [List.nil_append] at hB2
        subst hB2
        have hpre : A = [] := h2 (hB (i, x) (by simp))
        subst hpre
        obtain ⟨is1, ys1, rfl, rfl, h4⟩ := ih (A := []) (B := post) rfl (fun p hp => hB p (by simp [hp]))
        obtain ⟨rfl, rfl⟩ := sched_nil h4 rfl
        exact ⟨[], [], by simp, by simp, .nil⟩
      | cons q A2 =>
        simp only [List.cons_append, List.cons.injEq] at hB2
        obtain ⟨rfl, rfl⟩ := hB2
        subst hA
        obtain ⟨is1, ys1, rfl, rfl, h4⟩ := ih (A := pre ++ A2) (B := B) (by simp) hB
        exact ⟨i :: is1, x :: ys1, rfl, rfl, .cons h1 h4⟩
    · have hpre : pre = [] := h2 (hB (i, x) (by rw [hB2]; simp))
      subst hpre
      obtain ⟨rfl, rfl⟩ := List.nil_eq_append_iff.1 hp
      simp only [List.nil_append] at hB2
      subst hB2
      obtain ⟨is1, ys1, rfl, rfl, h4⟩ := ih (A := []) (B := post) rfl (fun p hp => hB p (by simp [hp]))
      obtain ⟨rfl, rfl⟩ := sched_nil h4 rfl
      exact ⟨[], [], by simp, by simp, .nil⟩

theorem sched_all {R : List (Nat × Op)} {is : List Nat} {ys : List Op} (h : Sched R is ys) {S : Nat → Op → Prop} : (∀ p ∈ R, S p.1 p.2) → All2 S is ys := by
  induction h with
  | nil => intro _; exact .nil
  | cons hp _ ih =>
    intro hS
    exact .cons (hS (_, _) (by simp)) (ih fun p hp => hS p (by simp only [List.mem_append, List.mem_cons] at hp ⊢; rcases hp with h | h <;> simp [h]))


def bitsOf (acc : List Nat) (o : Oper) : Nat := o.after.toList.foldl (fun s e => if Region.binds .any e then s ||| 2 ^ e.on ||| acc.getD e.on 0 else s) 0

theorem foldl_bits (acc : List Nat) : ∀ (l : List Edge) (s j : Nat), (l.foldl (fun s e => if Region.binds .any e then s ||| 2 ^ e.on ||| acc.getD e.on 0 else s) s).testBit j = true ↔
    s.testBit j = true ∨ ∃ e ∈ l, Region.binds .any e = true ∧ (e.on = j ∨ (acc.getD e.on 0).testBit j = true)
  | [], s, j => by simp
  | e :: l, s, j => by
    simp only [List.foldl_cons]
    rw [foldl_bits acc l]
    by_cases hb : Region.binds .any e = true
    · simp only [hb, if_true, Nat.testBit_or, Bool.or_eq_true, Nat.testBit_two_pow, decide_eq_true_eq, List.mem_cons, exists_eq_or_imp, true_and]
      grind
    · simp only [hb, List.mem_cons, exists_eq_or_imp, false_and, false_or]
      simp

theorem bitsOf_iff {acc : List Nat} {o : Oper} {j : Nat} : (bitsOf acc o).testBit j = true ↔ ∃ e ∈ o.after.toList, Region.binds .any e = true ∧ (e.on = j ∨ (acc.getD e.on 0).testBit j = true) := by
  unfold bitsOf
  rw [foldl_bits]
  simp

theorem befores_spec : ∀ (l : List Oper) (acc : List Nat), ∃ ext, befores l acc = acc ++ ext ∧ ext.length = l.length ∧
    ∀ k o, l[k]? = some o → ext[k]? = some (bitsOf ((befores l acc).take (acc.length + k)) o)
  | [], acc => ⟨[], by simp [befores], rfl, fun k o h => by simp at h⟩
  | o :: l, acc => by
    obtain ⟨ext, h1, h2, h3⟩ := befores_spec l (acc ++ [bitsOf acc o])
    have h0 : befores (o :: l) acc = befores l (acc ++ [bitsOf acc o]) := rfl
    refine ⟨bitsOf acc o :: ext, by rw [h0, h1]; simp, by simp [h2], fun k o' hk => ?_⟩
    cases k with
    | zero =>
      simp only [List.getElem?_cons_zero, Option.some.injEq] at hk
      subst hk
      rw [h0, h1]
      simp
    | succ k =>
      simp only [List.getElem?_cons_succ] at hk ⊢
      rw [h3 k o' hk, h0]
      simp [Nat.add_assoc, Nat.add_comm 1 k]

theorem befores_at {ops : List Oper} {i : Nat} {o : Oper} (h : ops[i]? = some o) {j : Nat} (hj : ((befores ops []).getD i 0).testBit j = true) :
    ∃ e ∈ o.after.toList, Region.binds .any e = true ∧ (e.on = j ∨ ((befores ops []).getD e.on 0).testBit j = true) := by
  obtain ⟨ext, h1, h2, h3⟩ := befores_spec ops []
  have h4 := h3 i o h
  simp only [List.length_nil, Nat.zero_add] at h4
  simp only [List.nil_append] at h1
  rw [h1] at hj h4 ⊢
  rw [List.getD_eq_getElem?_getD, h4] at hj
  simp only [Option.getD_some] at hj
  obtain ⟨e, he, hb, hc⟩ := bitsOf_iff.1 hj
  refine ⟨e, he, hb, hc.imp id fun hc => ?_⟩
  rw [List.getD_eq_getElem?_getD] at hc ⊢
  rw [List.getElem?_take] at hc
  split at hc
  · exact hc
  · simp at hc

theorem tail_bits {bs : List Nat} : ∀ {n j : Nat}, tailOf.go bs n ≤ j → j < n → bs.getD j 0 = 2 ^ j - 1
  | 0, j, h, hj => by omega
  | n + 1, j, h, hj => by
    simp only [tailOf.go] at h
    split at h
    · rename_i hb
      by_cases hjn : j = n
      · subst hjn; exact hb
      · exact tail_bits h (by omega)
    · omega

theorem after_ok {bs : List Nat} {i : Nat} {o : Op} : ∀ {l : List Op} {j : Nat}, calmC.after bs i j o l = true → ∀ k p, l[k]? = some p → o.free p = true ∨ (bs.getD (j + k) 0).testBit i = true
  | [], j, h, k, p, hk => by simp at hk
  | q :: l, j, h, k, p, hk => by
    simp only [calmC.after, Bool.and_eq_true, Bool.or_eq_true] at h
    cases k with
    | zero => simp only [List.getElem?_cons_zero, Option.some.injEq] at hk; subst hk; simpa using h.1
    | succ k =>
      have := after_ok h.2 k p (by simpa using hk)
      rwa [show j + 1 + k = j + (k + 1) from by omega] at this

theorem calm_ok {bs : List Nat} : ∀ {l : List Op} {i : Nat}, calmC bs i l = true → ∀ k p, l[k]? = some p → ∀ m q, l[m]? = some q → k < m → p.free q = true ∨ (bs.getD (i + m) 0).testBit (i + k) = true
  | [], i, h, k, p, hk => by simp at hk
  | o :: l, i, h, k, p, hk => by
    simp only [calmC, Bool.and_eq_true] at h
    obtain ⟨h2, h3⟩ := h
    cases k with
    | zero =>
      simp only [List.getElem?_cons_zero, Option.some.injEq] at hk; subst hk
      intro m q hm hlt
      cases m with
      | zero => omega
      | succ m =>
        have := after_ok h2 m q (by simpa using hm)
        rwa [show i + 1 + m = i + (m + 1) from by omega] at this
    | succ k =>
      have h5 := calm_ok h3 k p (by simpa using hk)
      intro m q hm hlt
      cases m with
      | zero => omega
      | succ m =>
        have := h5 m q (by simpa using hm) (by omega)
        rwa [show i + 1 + m = i + (m + 1) from by omega, show i + 1 + k = i + (k + 1) from by omega] at this

theorem edges_ok : ∀ {l : List Oper} {i : Nat}, edgesOk i l = true → ∀ k o, l[k]? = some o → ∀ e ∈ o.after.toList, Region.binds .any e = true → e.on < i + k
  | [], i, h, k, o, hk => by simp at hk
  | o :: l, i, h, k, o', hk => by
    simp only [edgesOk, Bool.and_eq_true, List.all_eq_true] at h
    cases k with
    | zero =>
      simp only [List.getElem?_cons_zero, Option.some.injEq] at hk; subst hk
      intro e he hb
      have := h.1 e he
      simpa [hb] using this
    | succ k =>
      intro e he hb
      have := edges_ok h.2 k o' (by simpa using hk) e he hb
      omega



def unl (n : Nat) (listed : Array Bool) : List Nat := (List.range n).filter fun i => !listed.getD i true

theorem split_at {l : List Nat} {i : Nat} (hn : l.Pairwise (· < ·)) (hi : i ∈ l) : ∃ pre post, l = pre ++ i :: post ∧ l.filter (fun j => decide (j ≠ i)) = pre ++ post ∧ ∀ p ∈ pre, p < i := by
  obtain ⟨pre, post, rfl⟩ := List.append_of_mem hi
  rw [List.pairwise_append] at hn
  obtain ⟨h1, h2, h3⟩ := hn
  rw [List.pairwise_cons] at h2
  refine ⟨pre, post, rfl, ?_, fun p hp => h3 p hp i (by simp)⟩
  rw [List.filter_append, List.filter_cons]
  simp only [ne_eq, not_true, decide_false, Bool.false_eq_true, if_false]
  rw [List.filter_eq_self.2, List.filter_eq_self.2]
  · intro a ha; have := h2.1 a ha; simp; omega
  · intro a ha; have := h3 a ha i (by simp); simp; omega

theorem getD_tf {listed : Array Bool} {i : Nat} (h : i < listed.size) : listed.getD i true = listed.getD i false := by
  simp [Array.getD_eq_getD_getElem?, h]

theorem lin_sched {ops : Array Oper} {xs : List Op} (hlen : xs.length = ops.size) (hcalm : calmC (befores ops.toList []) 0 (xs.take (tailOf (befores ops.toList []))) = true)
    (hedges : edgesOk 0 ops.toList = true) : ∀ (fuel t : Nat) (listed : Array Bool), listed.size = ops.size →
    (∀ i, listed.getD i false = true → ∀ j, ((befores ops.toList []).getD i 0).testBit j = true → listed.getD j false = true) → (unl ops.size listed).length ≤ fuel →
    ∃ ys, SchedT (tailOf (befores ops.toList [])) ((unl ops.size listed).map fun i => (i, (xs[i]?).getD default)) (Region.linearise.go .any ops fuel t listed []) ys
  | 0, t, listed, hs, hcl, hf => by
    have : unl ops.size listed = [] := by simpa using hf
    exact ⟨[], by rw [this]; exact .nil⟩
  | fuel + 1, t, listed, hs, hcl, hf => by
    have hbl : (befores ops.toList []).length = ops.size := by
      obtain ⟨ext, h1, h2, _⟩ := befores_spec ops.toList []
      rw [h1]; simpa using h2
    have hsorted : (unl ops.size listed).Pairwise (· < ·) := List.Pairwise.filter _ List.pairwise_lt_range
    have hmemU : ∀ i, i ∈ unl ops.size listed ↔ i < ops.size ∧ listed.getD i false = false := by
      intro i
      simp only [unl, List.mem_filter, List.mem_range, Bool.not_eq_true']
      constructor
      · rintro ⟨h1, h2⟩; exact ⟨h1, by rw [← getD_tf (by omega)]; exact h2⟩
      · rintro ⟨h1, h2⟩; exact ⟨h1, by rw [getD_tf (by omega)]; exact h2⟩
    have hgo : Region.linearise.go .any ops (fuel + 1) t listed [] = match (Region.ready .any ops listed)[t % (Region.ready .any ops listed).length]? with
        | some i => Region.linearise.go .any ops fuel (t / (Region.ready .any ops listed).length) (listed.setIfInBounds i true) [i]
        | none => [] := rfl
    rw [hgo]
    cases hU : unl ops.size listed with
    | nil =>
      have hr : Region.ready .any ops listed = [] := by
        rw [List.eq_nil_iff_forall_not_mem]
        intro j hj
        rw [mem_ready] at hj
        obtain ⟨h0, o, ho, _⟩ := hj
        have hlt := (Array.getElem?_eq_some_iff.1 ho).1
        have : j ∈ unl ops.size listed := (hmemU j).2 ⟨hlt, by rw [← getD_tf (by omega)]; exact h0⟩
        rw [hU] at this; cases this
      rw [hr]
      exact ⟨[], .nil⟩
    | cons i0 U' =>
      have hi0 := (hmemU i0).1 (by rw [hU]; simp)
      have hready0 : i0 ∈ Region.ready .any ops listed := by
        rw [mem_ready]
        refine ⟨by rw [getD_tf (by omega)]; exact hi0.2, ops[i0]'hi0.1, by simp, fun e he hb => ?_⟩
        have hlt := edges_ok hedges i0 (ops[i0]'hi0.1) (by simp [hi0.1]) e (by simpa using he) hb
        cases hl : listed.getD e.on false with
        | true => rfl
        | false =>
          have : e.on ∈ unl ops.size listed := (hmemU _).2 ⟨by omega, hl⟩
          rw [hU] at this
          rw [hU, List.pairwise_cons] at hsorted
          rcases List.mem_cons.1 this with h | h
          · omega
          · have := hsorted.1 _ h; omega
      have hpos : 0 < (Region.ready .any ops listed).length := List.length_pos_of_mem hready0
      have hlt := Nat.mod_lt t hpos
      rw [List.getElem?_eq_getElem hlt]
      dsimp only
      generalize hie : (Region.ready .any ops listed)[t % (Region.ready .any ops listed).length] = i
      have hi : i ∈ Region.ready .any ops listed := by rw [← hie]; exact List.getElem_mem hlt
      rw [mem_ready] at hi
      obtain ⟨h0, o, ho, hall⟩ := hi
      have hin := (Array.getElem?_eq_some_iff.1 ho).1
      have hiU : i ∈ unl ops.size listed := (hmemU i).2 ⟨hin, by rw [← getD_tf (by omega)]; exact h0⟩
      have hbits : ∀ j, ((befores ops.toList []).getD i 0).testBit j = true → listed.getD j false = true := by
        intro j hj
        obtain ⟨e, he, hb, hc⟩ := befores_at (ops := ops.toList) (i := i) (o := o) (by simpa using ho) hj
        have hl := hall e (by simpa using he) hb
        rcases hc with rfl | hc
        · exact hl
        · exact hcl _ hl _ hc
      obtain ⟨pre, post, hsp, hfl, hlt'⟩ := split_at hsorted hiU
      have hU2 : unl ops.size (listed.setIfInBounds i true) = pre ++ post := by
        rw [← hfl]
        simp only [unl, List.filter_filter]
        apply List.filter_congr
        intro j hj
        by_cases hji : j = i
        · subst hji; simp [show j < listed.size from by omega]
        · rw [getD_set_ne true (Ne.symm hji)]; simp [hji]
      have hcl2 : ∀ i', (listed.setIfInBounds i true).getD i' false = true → ∀ j, ((befores ops.toList []).getD i' 0).testBit j = true → (listed.setIfInBounds i true).getD j false = true := by
        intro i' hi' j hj
        by_cases hii : i' = i
        · subst hii; exact getD_set_true (hbits j hj)
        · rw [getD_set_ne false (Ne.symm hii)] at hi'; exact getD_set_true (hcl i' hi' j hj)
      obtain ⟨ys, hys⟩ := lin_sched hlen hcalm hedges fuel (t / (Region.ready .any ops listed).length) (listed.setIfInBounds i true) (by simpa using hs) hcl2 (by
        have : (unl ops.size listed).length = (pre ++ i :: post).length := by rw [hsp]
        rw [hU2]; simp at this ⊢; omega)
      rw [linearise_go_acc]
      refine ⟨(xs[i]?).getD default :: ys, ?_⟩
      rw [← hU, hsp]
      simp only [List.map_append, List.map_cons, List.reverse_cons, List.reverse_nil, List.nil_append, List.singleton_append]
      have hxi : ∃ x, xs[i]? = some x := ⟨xs[i]'(by omega), by simp [show i < xs.length from by omega]⟩
      obtain ⟨x, hx⟩ := hxi
      have hpre : ∀ p ∈ pre, i < tailOf (befores ops.toList []) := by
        intro p hp
        rcases Nat.lt_or_ge i (tailOf (befores ops.toList [])) with h | h
        · exact h
        · have hb := tail_bits (bs := befores ops.toList []) (n := (befores ops.toList []).length) h (by omega)
          have hpU := (hmemU p).1 (by rw [hsp]; simp [hp])
          have := hbits p (by rw [hb, Nat.testBit_two_pow_sub_one]; simpa using hlt' p hp)
          rw [this] at hpU; cases hpU.2
      refine .cons ?_ (fun hti => ?_) ?_
      rotate_left
      · cases pre with
        | nil => rfl
        | cons p pre => have := hpre p (by simp); omega
      rotate_left
      · intro p hp
        obtain ⟨j, hj, rfl⟩ := List.mem_map.1 hp
        have hjn := (hmemU j).1 (by rw [hsp]; simp [hj])
        have hjx : xs[j]? = some (xs[j]'(by omega)) := by simp [show j < xs.length from by omega]
        have hit := hpre j hj
        have hji := hlt' j hj
        rw [hx, hjx]
        simp only [Option.getD_some]
        rcases calm_ok hcalm j _ (by rw [List.getElem?_take, if_pos (by omega)]; exact hjx) i x (by rw [List.getElem?_take, if_pos hit]; exact hx) hji with h | h
        · exact h
        · simp only [Nat.zero_add] at h
          have := hbits j h
          rw [this] at hjn; cases hjn.2
      · rw [hU2] at hys
        simpa using hys

end Go.Abs

/-
  Segments come and go; loops' records; what a frame holds behind a region, behind a round.
-/
set_option linter.unusedVariables false
set_option linter.unusedSimpArgs false
namespace Go.Abs
open Go

theorem blk?_lt {σ : Stack} {l i : Nat} {b : Blk} (h : blk? σ l i = some b) : l < σ.length := by
  unfold blk? at h
  cases hs : seg? σ l with
  | none => simp [hs] at h
  | some s => exact seg?_lt hs

theorem blk?_push {σ : Stack} {l i : Nat} : blk? ([] :: σ) l i = blk? σ l i := by
  simp only [blk?, seg?]
  split
  · rename_i h
    subst h
    cases hs : seg? σ σ.length with
    | none => simp
    | some s => exact absurd (seg?_lt hs) (Nat.lt_irrefl _)
  · rfl

theorem blk?_pop {s : List Blk} {σ : Stack} {l i : Nat} (h : l < σ.length) : blk? (s :: σ) l i = blk? σ l i := by
  simp only [blk?, seg?]
  rw [if_neg (by omega)]

section
variable {CR : CRel} {base : Nat} {g g' : G} {σ σ' : Stack} {w w' : World}

theorem Inv.lvl (hi : Inv CR base g σ w) {l i : Nat} {L : Loc} (h : g.loc l i = some L) : l < σ.length := by
  obtain ⟨b, hb, _⟩ := hi.dom l i L h
  exact blk?_lt hb

theorem Inv.push (hi : Inv CR base g σ w) : Inv CR base g ([] :: σ) w :=
  { hi with dom := fun l i L e => by rw [blk?_push]; exact hi.dom l i L e, tot := fun l i b e => by rw [blk?_push] at e; exact hi.tot l i b e }

theorem RelB.low {n : Nat} (hn : ∀ l i L, g.loc l i = some L → l < n) {b : Blk} {L : Loc} (h : RelB CR g w b L) : b.low n := by
  cases b with
  | cells v cs =>
    cases L with
    | «at» x off v' sz => obtain ⟨_, c, el, _, _, _, vs, hr, _⟩ := h; exact RelL.low hn hr
    | virt v' => obtain ⟨_, rfl⟩ := h; rfl
    | dead => exact h.elim
    | lp x => exact h.elim
    | mp x => obtain ⟨_, ents, clock, _, hr, _⟩ := h; exact RelL.low hn hr
    | it x =>
      obtain ⟨_, l, i, bm, n', js, rfl, h2, _⟩ := h
      have hl := hn l i _ h2
      simp only [Blk.low, D.lowL, D.low, Bool.and_eq_true, decide_eq_true_eq, Bool.true_and]
      refine ⟨hl, ?_⟩
      rw [lowL_iff]
      intro d hd
      obtain ⟨j, _, rfl⟩ := List.mem_map.1 hd
      rfl
    | ob x y => obtain ⟨_, T, e, bs, p, s, rfl, _⟩ := h; rfl
  | dead => trivial
  | loop lp =>
    cases L with
    | lp x =>
      obtain ⟨r, _, hr⟩ := h
      exact fun t => RelV.low hn (hr.env t)
    | «at» x off v' sz => exact h.elim
    | virt v' => exact h.elim
    | dead => exact h.elim
    | mp x => exact h.elim
    | it x => exact h.elim
    | ob x _ => exact h.elim

theorem LowS.push (hi : Inv CR base g σ w) (h : LowS σ) : LowS ([] :: σ) := by
  intro l i b e hl
  rw [blk?_push] at e
  have hlt := blk?_lt e
  by_cases h1 : l + 1 < σ.length
  · exact h l i b e h1
  · obtain ⟨L, hL⟩ := hi.tot l i b e
    obtain ⟨b', hb', hr⟩ := hi.dom l i L hL
    rw [e] at hb'; cases hb'
    rw [show l + 1 = σ.length from by omega]
    exact hr.low fun l i L h => hi.lvl h

theorem RelB.cut {n : Nat} {b : Blk} {L : Loc} (h : RelB CR g w b L) (hl : b.low n) : RelB CR (g.cut n) w b L := by
  cases b with
  | cells v cs =>
    cases L with
    | «at» x off v' sz => obtain ⟨h1, c, el, h2, h3, h4, vs, hr, h5⟩ := h; exact ⟨h1, c, el, h2, h3, h4, vs, hr.cut hl, h5⟩
    | virt v' => exact h
    | dead => exact h
    | lp x => exact h
    | mp x => obtain ⟨hv, ents, clock, h1, hr, h2⟩ := h; exact ⟨hv, ents, clock, h1, hr.cut hl, h2⟩
    | it x =>
      obtain ⟨hv, l, i, bm, n', js, rfl, h2, h3⟩ := h
      simp only [Blk.low, D.lowL, D.low, Bool.and_eq_true, decide_eq_true_eq] at hl
      exact ⟨hv, l, i, bm, n', js, rfl, (G.cut_loc hl.1).trans h2, h3⟩
    | ob x y => exact h
  | dead => cases L <;> exact h
  | loop lp =>
    cases L with
    | lp x =>
      obtain ⟨r, h1, hr⟩ := h
      exact ⟨r, h1, { hr with env := fun t => (hr.env t).cut (hl t) }⟩
    | «at» x off v' sz => exact h
    | virt v' => exact h
    | dead => exact h
    | mp x => exact h
    | it x => exact h
    | ob x _ => exact h

theorem Blk.low_mono {n m : Nat} (h : n ≤ m) {b : Blk} (hb : b.low n) : b.low m := by
  cases b with
  | cells v cs => exact lowL_mono h hb
  | dead => trivial
  | loop lp => exact fun t => Abs.low_mono h (hb t)

theorem Inv.pop {s : List Blk} (hi : Inv CR base g (s :: σ) w) (h : LowS (s :: σ)) : Inv CR base (g.cut σ.length) σ w ∧ LowS σ := by
  refine ⟨⟨hi.ge, fun l i L e => ?_, hi.imm, fun l i L b e => hi.sep l i L b (G.cut_some e).2, fun l i L l' i' L' b e e' => hi.inj l i L l' i' L' b (G.cut_some e).2 (G.cut_some e').2,
    fun l i L b e => hi.lo l i L b (G.cut_some e).2, fun l i b e => ?_, hi.glb⟩, fun l i b e hl => ?_⟩
  · obtain ⟨hl, e⟩ := G.cut_some e
    obtain ⟨b, hb, hr⟩ := hi.dom l i L e
    have hlow := h l i b hb (by simp; omega)
    rw [blk?_pop hl] at hb
    exact ⟨b, hb, hr.cut (Blk.low_mono (by omega) hlow)⟩
  · have hl := blk?_lt e
    rw [← blk?_pop (s := s) hl] at e
    obtain ⟨L, hL⟩ := hi.tot l i b e
    exact ⟨L, by rw [G.cut_loc hl]; exact hL⟩
  · have hl' := blk?_lt e
    rw [← blk?_pop (s := s) hl'] at e
    exact h l i b e (by simp; omega)

theorem Ev.cut {n : Nat} (h : Ev g w g' w') (hn : ∀ l i L, g.loc l i = some L → l < n) : Ev g w (g'.cut n) w' where
  le := ⟨fun l i L e => by rw [G.cut_loc (hn l i L e)]; exact h.le.loc l i L e, h.le.imm⟩
  os := h.os
  tape := h.tape
  output := h.output
  size := h.size
  kept := h.kept
  img b hb := by
    obtain ⟨l, i, L, e, eb⟩ := hb
    exact h.img b ⟨l, i, L, (G.cut_some e).2, eb⟩
  immN := h.immN

theorem G.cut_has {n b : Nat} (h : (g.cut n).has b) : g.has b := by
  obtain ⟨l, i, L, e, eb⟩ := h
  exact ⟨l, i, L, (G.cut_some e).2, eb⟩

theorem Inv.newLoop (hi : Inv CR base g σ w) {l i : Nat} {lp : LoopSt} (hn : newBlk σ (.loop lp) = some (l, i, σ')) (r : Loop)
    (hr : RelLoop CR g lp r) :
    Inv CR base (g.setLoc l i (.lp w.heap.size)) σ' (w.alloc (.loop r)) ∧ Ev g w (g.setLoc l i (.lp w.heap.size)) (w.alloc (.loop r)) := by
  obtain ⟨h1, h2, h3, _, _⟩ := newBlk_spec hn
  have hnone := hi.none_of h1
  have hle : g.le (g.setLoc l i (.lp w.heap.size)) := G.le_setLoc fun L0 e => by rw [hnone] at e; cases e
  refine ⟨hi.turn l i hle h3 (fun l' i' c => G.setLoc_other c) (fun l' i' L b c e eb => alloc_old (hi.lo l' i' L b e eb).2) ?_ ?_ ?_ ?_ (by simp) ⟨_, G.setLoc_same⟩ (fun b v hb => alloc_old (hi.imm_lt hb)), ⟨hle, rfl, rfl, rfl, by simp, fun b hb _ => alloc_old hb, ?_, fun b o v hv => .inl hv⟩⟩
  · intro L e
    rw [G.setLoc_same] at e; cases e
    exact ⟨_, h2, r, alloc_new, { hr with env := hr.env.mono hle }⟩
  · intro b o v e
    obtain ⟨h1, h2⟩ := hi.imm b o v e
    exact ⟨(cell?_congr (alloc_old (hi.imm_lt e))).trans h1, h2⟩
  · intro l' i' L b e eb o
    by_cases c : l' = l ∧ i' = i
    · obtain ⟨rfl, rfl⟩ := c
      rw [G.setLoc_same] at e; cases e; cases eb
      cases e' : (g.setLoc l' i' (.lp w.heap.size)).imm w.heap.size o with
      | none => rfl
      | some v => have := hi.imm_lt (b := w.heap.size) (o := o) (v := v) e'; omega
    · rw [G.setLoc_other c] at e; exact hi.sep l' i' L b e eb o
  · intro L b e eb
    rw [G.setLoc_same] at e; cases e; cases eb
    refine ⟨hi.ge, by simp, fun l' i' L' c e' eb' => ?_⟩
    have := (hi.lo l' i' L' _ e' eb').2; omega
  · intro b hb
    obtain ⟨l', i', L, e, eb⟩ := hb
    by_cases c : l' = l ∧ i' = i
    · obtain ⟨rfl, rfl⟩ := c
      rw [G.setLoc_same] at e; cases e; cases eb; exact .inr (Nat.le_refl _)
    · rw [G.setLoc_other c] at e; exact .inl ⟨l', i', L, e, eb⟩

theorem Inv.setLoop (hi : Inv CR base g σ w) {l i lb : Nat} {lp0 lp : LoopSt} (hL : g.loc l i = some (.lp lb)) (hb : blk? σ l i = some (.loop lp0)) {r : Loop} (hr : RelLoop CR g lp r) :
    Inv CR base g (setBlk σ l i (.loop lp)) (w.putObj lb (.loop r)) ∧ Ev g w g (w.putObj lb (.loop r)) := by
  have hlt := (hi.lo l i _ lb hL rfl).2
  have hoth : ∀ b, b ≠ lb → (w.putObj lb (.loop r)).heap[b]? = w.heap[b]? := fun b hne => World.putObj_heap_other hne
  refine ⟨hi.turn l i g.le_refl (fun l' i' c => blk?_setBlk_other c) (fun _ _ _ => rfl) ?_ ?_ ?_ hi.sep ?_ (by simp) ⟨_, hL⟩ ?_, ⟨g.le_refl, rfl, rfl, rfl, by simp, fun b _ hn => ?_, fun b hb => .inl hb, fun b o v hv => .inl hv⟩⟩
  · intro l' i' L b c e eb
    refine hoth b fun h => c ?_
    subst h
    exact hi.inj l' i' L l i _ b e hL eb rfl
  · intro L e
    rw [hL] at e; cases e
    exact ⟨_, blk?_setBlk hb, r, World.putObj_heap_same hlt, hr⟩
  · intro b o v e
    obtain ⟨h1, h2⟩ := hi.imm b o v e
    refine ⟨(cell?_congr (hoth b fun h => ?_)).trans h1, h2⟩
    subst h
    have := hi.sep l i _ b hL rfl o
    rw [e] at this; cases this
  · intro L b e eb
    rw [hL] at e; cases e; cases eb
    refine ⟨(hi.lo l i _ lb hL rfl).1, by simpa using hlt, fun l' i' L' c e' eb' => c ?_⟩
    exact hi.inj l' i' L' l i _ lb e' hL eb' rfl
  · intro b v hb
    refine hoth b fun h => ?_
    subst h
    have := hi.sep l i _ b hL rfl 0
    rw [hb] at this; cases this
  · refine hoth b fun h => hn ⟨l, i, _, hL, by rw [h]; rfl⟩
end


theorem get_map {live : List Nat} {f : D → D} {e : Env} (hf : f .undef = .undef) {t : Nat} : get (live.map fun t => (t, f (get e t))) t = if t ∈ live then f (get e t) else .undef := by
  induction live with
  | nil => simp [get]
  | cons u live ih =>
    simp only [List.map_cons, get, List.mem_cons]
    by_cases h : u = t
    · subst h; simp
    · rw [if_neg h, ih]
      by_cases h2 : t ∈ live
      · rw [if_pos h2, if_pos (.inr h2)]
      · rw [if_neg h2, if_neg (by intro h3; rcases h3 with h3 | h3; exact h h3.symm; exact h2 h3)]

theorem get_restrict {live : List Nat} {e : Env} {t : Nat} : get (restrict live e) t = if t ∈ live then (get e t).calm else .undef := get_map rfl
theorem get_strips {live : List Nat} {e : Env} {t : Nat} : get (strips live e) t = if t ∈ live then (get e t).strip else .undef := get_map rfl

section
variable {fb : Nat} {V : List Nat} {g : G} {w : World} {B : Nat → Nat} {e : Env} {tmps : Array Value}

theorem calm_own {d : D} {s : Nat} {cs : List D} (h : d.calm = .own s cs) : ∃ s', d = .own s' cs := by
  cases d <;> simp only [D.calm, reduceCtorEq, D.own.injEq] at h
  exact ⟨_, by rw [h.2]⟩

theorem Fr.restrict (hf : Fr fb V g w B e tmps) (live : List Nat) : Fr fb V g w B (restrict live e) tmps := by
  have hown : ∀ t s cs, get (Abs.restrict live e) t = .own s cs → ∃ s', get e t = .own s' cs := by
    intro t s cs h
    rw [get_restrict] at h
    split at h
    · exact calm_own h
    · cases h
  refine ⟨fun t => ?_, fun t s cs h => ?_, fun t t' s s' cs cs' h h' => ?_⟩
  · rw [get_restrict]
    split
    · have := hf.rel t
      cases hd : get e t <;> rw [hd] at this <;> simp only [D.calm] <;> first | exact this | exact RelV.undef _ | trivial
    · exact RelV.undef _
  · obtain ⟨s', h⟩ := hown t s cs h
    exact hf.own t s' cs h
  · obtain ⟨_, h⟩ := hown _ _ _ h
    obtain ⟨_, h'⟩ := hown _ _ _ h'
    exact hf.inj _ _ _ _ _ _ h h'

theorem Fr.strips (hf : Fr fb V g w B e tmps) (live : List Nat) : RelEnv g (strips live e) tmps := fun t => by
  rw [get_strips]
  split
  · exact hf.strip t
  · exact .undef _

theorem At.restrict {CR : CRel} {base n : Nat} {g0 : G} {w0 : World} {b : Frame} {σ : Stack} {a : Act} (ha : At CR base V g0 w0 n b g w B e σ a) (live : List Nat) : At CR base V g0 w0 n b g w B (restrict live e) σ a :=
  { ha with fr := ha.fr.restrict live }

theorem At.draw {CR : CRel} {base n : Nat} {g0 : G} {w0 : World} {b : Frame} {σ : Stack} {a : Act} (ha : At CR base V g0 w0 n b g w B e σ a) (w1 : World) (h : w1.heap = w.heap) (ho : w1.os = w.os) (ht : w1.tape = w.tape) (hp : w1.output = w.output) :
    At CR base V g0 w0 n b g w1 B e σ a :=
  ha.go (Ev.heap g h ho ht hp) (ha.inv.heap h) (.refl σ) (ha.fr.ev (Ev.heap g h ho ht hp)) rfl rfl


def Ent (fb : Nat) (V : List Nat) (g : G) (w : World) (B : Nat → Nat) (e0 : Env) (tmps : Array Value) (p : Nat × D) : Prop :=
  match p.2 with
  | .own s cs => (∃ s' cs', get e0 p.1 = .own s' cs') ∧ p.1 ∈ V ∧ tmps.getD p.1 Go.undef = .pointer (some ⟨B p.1, 0, none⟩) ∧ OwnB fb g w (B p.1) cs
  | d => RelV g d (tmps.getD p.1 Go.undef)

theorem Ent.ev {e0 : Env} {p : Nat × D} {g' : G} {w' : World} (h : Ent fb V g w B e0 tmps p) (he : Ev g w g' w') : Ent fb V g' w' B e0 tmps p := by
  obtain ⟨t, d⟩ := p
  unfold Ent at h ⊢
  dsimp only at h ⊢
  split
  · obtain ⟨h1, h2, h3, h4⟩ := h
    exact ⟨h1, h2, h3, h4.ev he⟩
  · rename_i hd
    cases d with
    | own s cs => exact absurd rfl (hd s cs)
    | _ => exact h.mono he.le

theorem get_mem {e : Env} {t : Nat} : get e t = .undef ∨ (t, get e t) ∈ e := by
  induction e with
  | nil => exact .inl rfl
  | cons p e ih =>
    obtain ⟨k, v⟩ := p
    simp only [get]
    split
    · rename_i h; subst h; exact .inr (by simp)
    · exact ih.imp id fun h => by simp [h]

theorem Fr.ents (hf : Fr fb V g w B e tmps) (live : List Nat) : ∀ p ∈ Abs.restrict live e, Ent fb V g w B e tmps p := by
  intro p hp
  simp only [Abs.restrict, List.mem_map] at hp
  obtain ⟨t, _, rfl⟩ := hp
  unfold Ent
  dsimp only
  cases hd : get e t with
  | own s cs =>
    obtain ⟨h1, h2, h3⟩ := hf.own t s cs hd
    exact ⟨⟨s, cs, rfl⟩, h1, h2, h3⟩
  | vr => exact .undef _
  | emp => exact .undef _
  | _ => have := hf.rel t; rw [hd] at this; exact this

theorem Ent.fr (hf : Fr fb V g w B e tmps) {g' : G} {w' : World} {e' : Env} (h : ∀ p ∈ e', Ent fb V g' w' B e tmps p) : Fr fb V g' w' B e' tmps := by
  refine ⟨fun t => ?_, fun t s cs hg => ?_, fun t t' s s' cs cs' hg hg' hB => ?_⟩
  · rcases get_mem (e := e') (t := t) with hm | hm
    · rw [hm]; exact RelV.undef _
    · have := h _ hm
      unfold Ent at this
      dsimp only at this
      cases hd : get e' t with
      | own s cs => trivial
      | vr => rw [hd] at this; cases this
      | emp => rw [hd] at this; cases this
      | _ => rw [hd] at this; exact this
  · rcases get_mem (e := e') (t := t) with hm | hm
    · rw [hm] at hg; cases hg
    · have := h _ hm
      rw [hg] at this
      exact ⟨this.2.1, this.2.2.1, this.2.2.2⟩
  · have h1 : ∃ s cs, get e t = .own s cs := by
      rcases get_mem (e := e') (t := t) with hm | hm
      · rw [hm] at hg; cases hg
      · have := h _ hm; rw [hg] at this; exact this.1
    have h2 : ∃ s cs, get e t' = .own s cs := by
      rcases get_mem (e := e') (t := t') with hm | hm
      · rw [hm] at hg'; cases hg'
      · have := h _ hm; rw [hg'] at this; exact this.1
    obtain ⟨_, _, h1⟩ := h1
    obtain ⟨_, _, h2⟩ := h2
    exact hf.inj _ _ _ _ _ _ h1 h2 hB

theorem not_own {g : G} {d : D} {c : Value} (h : RelV g d c) (s : Nat) (cs : List D) : d ≠ .own s cs := by intro e; subst e; cases h

theorem Ent.of {e0 : Env} {t : Nat} {d : D} (h : RelV g d (tmps.getD t Go.undef)) : Ent fb V g w B e0 tmps (t, d) := by
  unfold Ent
  dsimp only
  split
  · cases h
  · exact h

theorem frz_own {l n s : Nat} {cs : List D} {σ : Stack} : frz l (n + 1) (.own s cs) σ = if (D.own s cs).clean then (.own s cs, σ) else (.own s (frz.frzL (frz l n) cs σ).1, (frz.frzL (frz l n) cs σ).2) := by
  simp only [frz]

theorem frzE_ok {CR : CRel} {base : Nat} {e0 : Env} (l : Nat) : ∀ (es : Env) (σ : Stack) (g : G), Inv CR base g σ w → (∀ p ∈ es, Ent fb V g w B e0 tmps p) →
    ∃ g', Inv CR base g' (frzE l es σ).2 w ∧ Ev g w g' w ∧ ∀ p ∈ (frzE l es σ).1, Ent fb V g' w B e0 tmps p
  | [], σ, g, hi, h => ⟨g, hi, Ev.refl g w, by simp [frzE]⟩
  | (t, d) :: es, σ, g, hi, h => by
    have h1 : ∃ g1, Inv CR base g1 (frz l deep d σ).2 w ∧ Ev g w g1 w ∧ Ent fb V g1 w B e0 tmps (t, (frz l deep d σ).1) := by
      have h0 := h (t, d) (by simp)
      cases hd : d with
      | own s cs =>
        subst hd
        obtain ⟨k1, k2, k3, k4⟩ := h0
        rw [show frz l deep (.own s cs) σ = frz l (15 + 1) (.own s cs) σ from rfl, frz_own]
        split
        · exact ⟨g, hi, Ev.refl g w, k1, k2, k3, k4⟩
        · obtain ⟨ca, el, hb, hr, h1c⟩ := k4.blk
          obtain ⟨g1, i1, e1, r1⟩ := frzL_ok (CR := CR) (base := base) (frz_ok l 15) cs σ g w _ hi hr
          have k5 := k4.ev e1
          exact ⟨g1, i1, e1, k1, k2, k3, k5.lo, k5.free, k5.noimm, ca, el, hb, r1, h1c⟩
      | _ =>
        rw [hd] at h0
        obtain ⟨g1, i1, e1, r1⟩ := frz_ok (CR := CR) (base := base) l deep _ σ g w _ hi h0
        exact ⟨g1, i1, e1, Ent.of r1⟩
    obtain ⟨g1, i1, e1, k1⟩ := h1
    obtain ⟨g2, i2, e2, k2⟩ := frzE_ok l es (frz l deep d σ).2 g1 i1 fun p hp => (h p (by simp [hp])).ev e1
    refine ⟨g2, i2, e1.trans e2, fun p hp => ?_⟩
    simp only [frzE] at hp
    rcases List.mem_cons.1 hp with rfl | hp
    · exact k1.ev e2
    · exact k2 p hp
end
end Go.Abs

/-
  Code: what the interpreter says is what the machine does.
-/
set_option linter.unusedVariables false
set_option linter.unusedSimpArgs false
namespace Go.Abs
open Go

theorem stepR_scope {P : Program} {b : Frame} {a : Act} {k : List Item} {cs : List Frame} {w : World} {c : Code} :
    step P (lone (b.atR a (.code (.scope c) :: k)) cs w) = .next (lone (b.atR a (.code c :: .inScope c :: k)) cs w) :=
  step_lone_go (by simp [stepG, stepG.exec, Frame.atR])
theorem stepR_inScope {P : Program} {b : Frame} {a : Act} {k : List Item} {cs : List Frame} {w : World} {c : Code} :
    step P (lone (b.atR a (.inScope c :: k)) cs w) = .next (lone (b.atR a k) cs w) :=
  step_lone_go (by simp [stepG, stepG.exec, Frame.atR])

def QErr (o : Obj) : Prop := ∃ c t fz v, o = .cells c t fz ∧ c[0]? = some v ∧ (v = .nilIface ∨ ∃ te pe, v = .iface te pe)
def QPow (o : Obj) : Prop := ∃ t fz, o = .cells (Lib.pow10Tab.map (Value.int .u64)).toArray t fz
def QMax (o : Obj) : Prop := ∃ c t fz m, o = .cells c t fz ∧ c[0]? = some (.int .i64 m)
def GlbP (P : Program) (b : Nat) (Q : Obj → Prop) : Prop :=
  (P.globalNamed "strconv.ErrSyntax" = some b ∧ Q = QErr) ∨ (P.globalNamed "strconv.ErrRange" = some b ∧ Q = QErr) ∨
  (P.globalNamed "internal/strconv.uint64pow10" = some b ∧ Q = QPow) ∨ (P.globalNamed "internal/bytealg.MaxLen" = some b ∧ Q = QMax)

def CR0 (P : Program) : CRel := ⟨fun c code n => ∃ ann blk, codeC P ann n blk code = some c, GlbP P⟩

section
variable {P : Program} {O : Oracle} {ann : Ann} {n : Nat} {base : Nat} {g0 g : G} {w0 w : World} {b : Frame} {B : Nat → Nat} {e e' : Env} {σ σ' : Stack} {a : Act}
  {k : List Item} {cs : List Frame} {x : Exit}

def Ends (P : Program) (ann : Ann) (n base : Nat) (g0 : G) (w0 : World) (b : Frame) (cs : List Frame) (g : G) (w : World) (a : Act) (start k : List Item) (σ : Stack) (x : Exit) (e' : Env) (σ' : Stack) : Prop :=
  ∃ g' w' B' a' todo, Outs (fun fr => Steps P (lone (b.atR a start) cs w) (lone fr cs w')) g' b a' todo x ∧
    At (CR0 P) base ann.ownv g0 w0 n b g' w' B' e' σ' a' ∧ g.le g' ∧ Lands k x todo ∧ Goes σ σ'

theorem Ends.step {start start' k : List Item} {w1 : World} (h : step P (lone (b.atR a start) cs w) = .next (lone (b.atR a start') cs w1)) (hw : Ends P ann n base g0 w0 b cs g w1 a start' k σ x e' σ') :
    Ends P ann n base g0 w0 b cs g w a start k σ x e' σ' := by
  obtain ⟨g', w', B', a', todo, h1, h2⟩ := hw
  exact ⟨g', w', B', a', todo, h1.imp fun _ h1 => .head h h1, h2⟩

theorem Outs.of {S : Frame → Prop} {g : G} {b : Frame} {a : Act} {todo : List Item} {x : Exit} (hx : ∀ d, x ≠ .thr d) (h : S (b.atR a todo)) : Outs S g b a todo x := by
  cases x with
  | thr d => exact absurd rfl (hx d)
  | _ => exact h

theorem Outs.mono {S : Frame → Prop} {g g' : G} (hg : g.le g') {b : Frame} {a : Act} {todo : List Item} {x : Exit} (h : Outs S g b a todo x) : Outs S g' b a todo x := by
  cases x with
  | thr d => obtain ⟨h0, v, h1, h2⟩ := h; exact ⟨h0, v, h1.mono hg, h2⟩
  | _ => exact h

theorem Lands.skip {i : Item} (hi : ∀ id, i ≠ .inBlock id) {x : Exit} {t : List Item} (hx : x ≠ .normal) (h : Lands (i :: k) x t) : Lands k x t := by
  cases x with
  | normal => exact absurd rfl hx
  | exit id =>
    obtain ⟨k', h1, h2⟩ := h
    refine ⟨k', h1, h2.trans ?_⟩
    cases i <;> first | rfl | exact absurd rfl (hi _)
  | ret => exact h
  | thr d => trivial

theorem opsC_all {reg : Nat} {ops : Array Oper} {tail : Nat} : ∀ {l : List Oper} {i : Nat} {xs : List Op}, opsC P ann n reg ops tail i l = some xs → (∀ j o, l[j]? = some o → ops[i + j]? = some o) →
    xs.length = l.length ∧ ∀ j x, xs[j]? = some x → ∃ o, ops[i + j]? = some o ∧ (∃ nt, opC P ann n reg ops nt (i + j) o = some x)
  | [], i, xs, h, _ => by simp only [opsC, Option.some.injEq] at h; subst h; exact ⟨rfl, fun j x hj => by simp at hj⟩
  | o :: l, i, xs, h, hl => by
    simp only [opsC] at h
    split at h
    · rename_i x xs' h1 h2
      cases h
      obtain ⟨h3, h4⟩ := opsC_all h2 fun j o' hj => by
        have := hl (j + 1) o' (by simpa using hj)
        rwa [show i + (j + 1) = i + 1 + j from by omega] at this
      refine ⟨by simp [h3], fun j y hj => ?_⟩
      cases j with
      | zero =>
        simp only [List.getElem?_cons_zero, Option.some.injEq] at hj
        subst hj
        exact ⟨o, hl 0 o rfl, ⟨_, h1⟩⟩
      | succ j =>
        have := h4 j y (by simpa using hj)
        rwa [show i + 1 + j = i + (j + 1) from by omega] at this
    · cases h

theorem all2_range' {S : Nat → Op → Prop} : ∀ {xs : List Op} {i : Nat}, (∀ j x, xs[j]? = some x → S (i + j) x) → All2 S (List.range' i xs.length) xs
  | [], i, h => .nil
  | x :: xs, i, h => by
    simp only [List.length_cons, List.range'_succ]
    refine .cons (h 0 x rfl) (all2_range' fun j y hj => ?_)
    have := h (j + 1) y (by simpa using hj)
    rwa [show i + (j + 1) = i + 1 + j from by omega] at this

theorem opC_ntr {reg : Nat} {ops : Array Oper} {ntr : Bool} {i : Nat} {o : Oper} {op : Op} (h : opC P ann n reg ops ntr i o = some op) : op.ntr = ntr := by
  unfold opC at h
  split at h
  case h_2 => cases h
  split at h
  case h_2 => cases h
  simp only [Option.ite_none_right_eq_some] at h
  obtain ⟨_, h⟩ := h
  cases h
  rfl

theorem aopt_ok (hO : OrOk P (CR0 P) O) {reg i : Nat} {ops : Array Oper} {is : List Nat} {op : Op} {xs : List Op} {live : List Nat} {x : Exit} (hop : OpAt P ann n reg ops i op) (hF : All2 (OpAt P ann n reg ops) is xs)
    (h : aopt O live op xs e σ = some (x, e', σ')) (ha : At (CR0 P) base ann.ownv g0 w0 n b g w B e σ a) :
    ∃ g' w' B' a' todo, Outs (fun fr => Steps P (lone (b.atR a (.inRegion ops (i :: is) :: k)) cs w) (lone fr cs w')) g' b a' todo x ∧
      At (CR0 P) base ann.ownv g0 w0 n b g' w' B' e' σ' a' ∧ g.le g' ∧ Lands k x todo ∧ Goes σ σ' := by
  obtain ⟨o, ntr, ho, hopc⟩ := hop
  obtain ⟨hdst, hn, hgrd⟩ := opC_inv hopc
  obtain ⟨hkc, hmk⟩ := opC_k hopc
  have hd := kC_defer hkc
  have hkeq := kC_eq hkc
  unfold aopt at h
  split at h
  · rename_i fo args hg hk
    have hguard : o.guard = none := by
      rcases hgrd with ⟨h1, _⟩ | ⟨_, _, _, _, h2, _⟩
      · exact h1
      · rw [hg] at h2; cases h2
    have hw : Region.wanted o (yielded ops a.tmps) = true := by simp [Region.wanted, hguard]
    rw [hk] at hkeq hmk
    obtain ⟨f0, args0, ts0, hopo, hF0, hX0⟩ := hkeq
    cases hc : callr O (opd e fo) (args.map (opd e)) σ with
    | none => rw [hc] at h; simp [aoptR] at h
    | some r =>
    rw [hc] at h
    obtain ⟨f, first, cap, hfe, hq⟩ := callr_inv hc
    cases r with
    | ctl => simp [aoptR] at h
    | val d σ1 =>
      simp only [aoptR, Option.map_eq_some_iff, Prod.exists] at h
      obtain ⟨e1, σ2, h1, h2⟩ := h
      cases h2
      obtain ⟨g1, w1, B1, a1, k1, k2, k3, k4⟩ := call_ok (k := k) (cs := cs) (rest := is) (kp := false) hO ha ho hw hn (hmk rfl) hopo hF0 hX0 (d := d) (σ' := σ1) (by rw [hfe]; simp only [callv, hq, R.vals])
      rw [hdst] at h1
      obtain ⟨g2, w2, B2, a2, m1, m2, m3, m4⟩ := ops_okR (k := k) (cs := cs) (tl := []) hO is xs _ _ _ _ _ _ hF h1 k2
      refine ⟨g2, w2, B2, a2, k, ?_, m2.restrict _, k3.trans' m3, rfl, k4.trans m4⟩
      rw [List.append_nil] at m1
      exact .trans k1 (.trans m1 (.one stepR_region_end))
    | thr d σ1 =>
      simp only [aoptR, Option.some.injEq, Prod.mk.injEq] at h
      obtain ⟨rfl, rfl, rfl⟩ := h
      obtain ⟨hcl, ⟨Fn, cd, hfn1, hfn2, hfn3⟩, hcall⟩ := hO _ _ hq
      obtain ⟨tmps, df⟩ := a
      have hfv := ha.fr.opd (df := df) hF0
      have hxs := opsC_map (df := df) ha.fr hX0
      rw [hfe] at hfv
      generalize hev : (Act.mk tmps df).eval f0 = fv at hfv
      cases hfv with
      | fn _ _ _ first' cap' r1 r2 =>
        have hrun : (execOp (Act.mk tmps df).eval o).run P w = .ok (.enter f (first' ++ args0.map (Act.mk tmps df).eval ++ cap')) w := by
          simp only [execOp, hopo, Sem.run_bind, run_resolve_value hev, Result.andThen_ok, invoke, run_callFunc hfn1 hfn2 hfn3]
        have hargs : RelL g (first ++ args.map (opd e) ++ cap) (first' ++ args0.map (Act.mk tmps df).eval ++ cap').toList := by
          simpa using (r1.append hxs).append r2
        obtain ⟨hgo, hcalls⟩ := hcall base g w _ ha.inv ha.low ha.pos hargs
        obtain ⟨en, w', fr, ⟨v, g', rfl, he, hi, hr⟩, hcomes, hfr, hleave⟩ := hcalls (b.atR ⟨tmps, df⟩ (.inRegion ops (i :: is) :: k) :: cs)
        refine ⟨g', w', B, ⟨tmps, df⟩, .inRegion ops (i :: is) :: k, ⟨hcl, v, hr, Steps.head (step_enter ho hw hd hrun) (Steps.trans hcomes (Steps.one ?_))⟩, ha.go he hi hgo (ha.fr.ev he) rfl rfl, he.le, trivial, hgo⟩
        rw [step_leave_panicked hleave]
        rfl
  · rename_i X hg hk
    have hguard : o.guard = none := by
      rcases hgrd with ⟨h1, _⟩ | ⟨_, _, _, _, h2, _⟩
      · exact h1
      · rw [hg] at h2; cases h2
    have hw : Region.wanted o (yielded ops a.tmps) = true := by simp [Region.wanted, hguard]
    rw [hk] at hkeq
    obtain ⟨y, hopo, hX0⟩ := hkeq
    split at h
    case h_2 => cases h
    rename_i t d hX
    split at h
    case isFalse => cases h
    rename_i hcl
    cases h
    obtain ⟨tmps, df⟩ := a
    have hr := ha.fr.opd (df := df) hX0
    rw [hX] at hr
    generalize hev : (Act.mk tmps df).eval y = cv at hr
    cases hr with
    | ifc _ _ c h1 =>
      have hrun : (execOp (Act.mk tmps df).eval o).run P w = .halt (.panic (.iface t c)) w := by
        simp only [execOp, hopo, hev]
        rfl
      exact ⟨g, w, B, ⟨tmps, df⟩, .inRegion ops (i :: is) :: k, ⟨by simpa [D.clean] using hcl, _, .ifc t d c h1, .one (step_panic ho hw hd hrun)⟩, ha, g.le_refl, trivial, .refl σ⟩
  · cases h

theorem All2.split {α β : Type} {R : α → β → Prop} : ∀ {xs : List α} {ys : List β} (j : Nat), All2 R xs ys → ∃ a b, xs = a ++ b ∧ All2 R a (ys.take j) ∧ All2 R b (ys.drop j)
  | xs, ys, 0, h => ⟨[], xs, rfl, by simpa using All2.nil, by simpa using h⟩
  | [], _, j + 1, h => by cases h; exact ⟨[], [], rfl, by simpa using All2.nil, by simpa using All2.nil⟩
  | x :: xs, _, j + 1, h => by
    cases h with
    | cons h1 h2 =>
      obtain ⟨a, b, k1, k2, k3⟩ := All2.split j h2
      exact ⟨x :: a, b, by rw [k1]; rfl, by simpa using All2.cons h1 k2, by simpa using k3⟩

theorem all2_maps {α β γ : Type} {S : α → β → Prop} {f : γ → α} {g : γ → β} : ∀ {l : List γ}, (∀ p ∈ l, S (f p) (g p)) → All2 S (l.map f) (l.map g)
  | [], _ => .nil
  | p :: l, h => .cons (h p (by simp)) (all2_maps fun q hq => h q (by simp [hq]))
theorem Fr.eqE {fb : Nat} {V : List Nat} {g : G} {w : World} {B : Nat → Nat} {e e' : Env} {tmps : Array Value} (hf : Fr fb V g w B e' tmps) (h : EqE e e') : Fr fb V g w B e tmps := by
  have hg : ∀ t, get e' t = get e t := h
  refine ⟨fun t => ?_, fun t s cs ht => hf.own t s cs (by rw [hg]; exact ht), fun t t' s s' cs cs' h1 h2 => hf.inj t t' s s' cs cs' (by rw [hg]; exact h1) (by rw [hg]; exact h2)⟩
  have := hf.rel t
  rw [hg] at this
  exact this.imp fun d c hr => by
    cases d <;> first | exact hr | skip
    rename_i x s off
    obtain ⟨s', cs, b, o, e1, e2⟩ := hr
    exact ⟨s', cs, b, o, by rw [← hg]; exact e1, e2⟩
theorem At.eqE {CR : CRel} {V : List Nat} {w : World} {e e' : Env} (ha : At CR base V g0 w0 n b g w B e' σ a) (h : EqE e e') : At CR base V g0 w0 n b g w B e σ a := { ha with fr := ha.fr.eqE h }
theorem region_ok0 (hm : P.follows .mixedOrders = true) (hO : OrOk P (CR0 P) O) {id : Nat} {ops : Array Oper} {draw : Bool} {c : Cmd} (hc : regC P ann n id ops draw = some c)
    (h : acode O c e σ = some (x, e', σ')) (ha : At (CR0 P) base ann.ownv g0 w0 n b g w B e σ a) : Ends P ann n base g0 w0 b cs g w a (.code (.region id ops draw) :: k) k σ x e' σ' := by
  simp only [regC] at hc
  cases draw with
  | false =>
    simp only [Bool.false_eq_true, if_false, Option.map_eq_some_iff] at hc
    obtain ⟨xs, hxs, rfl⟩ := hc
    obtain ⟨hlen, hall⟩ := opsC_all hxs fun j o hj => by simpa using hj
    have h2 : All2 (OpAt P ann n id ops) (List.range ops.size) xs := by
      have := all2_range' (S := OpAt P ann n id ops) (xs := xs) (i := 0) fun j y hj => let ⟨o, k1, nt, k2⟩ := hall j y hj; ⟨o, nt, k1, k2⟩
      rw [hlen] at this
      rw [List.range_eq_range']
      simpa using this
    unfold cutC at h
    generalize look id none ann.thr = jo at h
    cases jo with
    | some j =>
      dsimp only at h
      split at h
      · rename_i y r hdr
        simp only [acode, Option.bind_eq_some_iff, Prod.exists] at h
        obtain ⟨e1, σ1, h1, h3⟩ := h
        obtain ⟨is, js, hsplit, hA, hB⟩ := h2.split j
        rw [hdr] at hB
        cases hB with
        | cons hop hF =>
          rename_i i is'
          obtain ⟨g1, w1, B1, a1, k1, k2, k3, k4⟩ := ops_okR (k := k) (cs := cs) (tl := i :: is') hO _ _ _ _ _ _ _ _ hA h1 ha
          obtain ⟨g2, w2, B2, a2, t2, m1, m2, m3, m4, m5⟩ := aopt_ok (k := k) (cs := cs) hO hop hF h3 k2
          refine ⟨g2, w2, B2, a2, t2, m1.imp fun fr hs => .head stepR_region (Steps.trans ?_ hs), m2, k3.trans' m3, m4, k4.trans m5⟩
          rw [hsplit]
          exact k1
      · simp only [acode, Option.map_eq_some_iff, Prod.exists] at h
        obtain ⟨e1, σ1, h1, h2'⟩ := h
        cases h2'
        obtain ⟨g1, w1, B1, a1, k1, k2, k3, k4⟩ := ops_ok (k := k) (cs := cs) hO _ _ _ _ _ _ _ _ h2 h1 ha
        exact ⟨g1, w1, B1, a1, k, .head stepR_region (.trans k1 (.one stepR_region_end)), k2.restrict _, k3, rfl, k4⟩
    | none =>
    simp only [acode, Option.map_eq_some_iff, Prod.exists] at h
    obtain ⟨e1, σ1, h1, h2'⟩ := h
    cases h2'
    obtain ⟨g1, w1, B1, a1, k1, k2, k3, k4⟩ := ops_ok (k := k) (cs := cs) hO _ _ _ _ _ _ _ _ h2 h1 ha
    exact ⟨g1, w1, B1, a1, k, .head stepR_region (.trans k1 (.one stepR_region_end)), k2.restrict _, k3, rfl, k4⟩
  | true =>
    simp only [if_true] at hc
    split at hc
    case h_2 => cases hc
    rename_i xs hxs
    simp only [Option.ite_none_right_eq_some, Bool.and_eq_true] at hc
    obtain ⟨⟨⟨hcalm, hedge⟩, _⟩, hc⟩ := hc
    cases hc
    obtain ⟨hlen, hall⟩ := opsC_all hxs fun j o hj => by simpa using hj
    have hlen' : xs.length = ops.size := by simpa using hlen
    obtain ⟨ys, hysT⟩ := lin_sched hlen' hcalm hedge ops.size (w.tape w.drawn (.order b.fn id)) (Array.replicate ops.size false) (by simp) (fun i hi => by
        simp [Array.getD_eq_getD_getElem?] at hi
        by_cases hlt : i < ops.size <;> simp [hlt] at hi) (by
        simp only [unl]
        exact Nat.le_trans (List.length_filter_le _ _) (by simp))
    have hU : unl ops.size (Array.replicate ops.size false) = List.range ops.size := by
      simp only [unl]
      rw [List.filter_eq_self]
      intro i hi
      have : i < ops.size := by simpa using hi
      simp [Array.getD_eq_getD_getElem?, this]
    rw [hU] at hysT
    have hmap : ((List.range ops.size).map fun i => (i, (xs[i]?).getD default)).map (·.2) = xs := by
      simp only [List.map_map]
      apply List.ext_getElem?
      intro j
      by_cases hj : j < ops.size
      · simp [hj, show j < xs.length from by omega]
      · rw [List.getElem?_eq_none (by simp; omega), List.getElem?_eq_none (by omega)]
    have hlin : Region.schedule (P.follows .mixedOrders) ops (w.tape w.drawn (.order b.fn id)) = Region.linearise.go .any ops ops.size (w.tape w.drawn (.order b.fn id)) (Array.replicate ops.size false) [] := by
      simp [Region.schedule, hm, Region.linearise]
    have hat : ∀ p ∈ (List.range ops.size).map fun i => (i, (xs[i]?).getD default), OpAt P ann n id ops p.1 p.2 := fun p hp => by
      obtain ⟨j, hj, rfl⟩ := List.mem_map.1 hp
      have hj' : j < ops.size := by simpa using hj
      have hjx : xs[j]? = some (xs[j]'(by omega)) := by simp [show j < xs.length from by omega]
      obtain ⟨o, k1, nt, k2⟩ := hall j _ hjx
      rw [hjx]
      simp only [Nat.zero_add] at k1 k2
      exact ⟨o, _, k1, k2⟩
    have ha1 := ha.draw { w with drawn := w.drawn + 1 } rfl rfl rfl rfl
    have plain : ∀ {x e' σ'}, acode O (.reg (look id [] ann.live) xs) e σ = some (x, e', σ') → Ends P ann n base g0 w0 b cs g w a (.code (.region id ops true) :: k) k σ x e' σ' := by
      intro x e' σ' h
      have hys := hysT.sched
      simp only [acode, Option.map_eq_some_iff, Prod.exists] at h
      obtain ⟨e1, σ1, h1, h2⟩ := h
      cases h2
      obtain ⟨e2, h2, heq⟩ := sched_aops hys (by rw [hmap]; exact h1)
      have h3 : All2 (OpAt P ann n id ops) (Region.schedule (P.follows .mixedOrders) ops (w.tape w.drawn (.order b.fn id))) ys := by
        rw [hlin]
        exact sched_all hys hat
      obtain ⟨g1, w1, B1, a1, k1, k2, k3, k4⟩ := ops_ok (k := k) (cs := cs) hO _ _ _ _ _ _ _ _ h3 h2 ha1
      refine ⟨g1, w1, B1, a1, k, .head stepR_region_draw (.trans k1 (.one stepR_region_end)), ?_, k3, rfl, k4⟩
      have := k2.restrict (look id [] ann.live)
      rw [restrict_eqE heq] at this
      exact this
    cases hjo : (look id none ann.thr).filter fun j => decide (tailOf (befores ops.toList []) ≤ j) with
    | none => rw [hjo] at h; exact plain h
    | some j =>
    rw [hjo] at h
    have htj : tailOf (befores ops.toList []) ≤ j := by
      have := (Option.filter_eq_some_iff.1 hjo).2
      simpa using this
    cases hdr : xs.drop j with
    | nil => simp only [cutC, hdr] at h; exact plain h
    | cons y r =>
    simp only [cutC, hdr] at h
    simp only [acode, Option.bind_eq_some_iff, Prod.exists] at h
    obtain ⟨e1, σ1, h1, h3⟩ := h
    have hjlt : j < xs.length := by
      rcases Nat.lt_or_ge j xs.length with h | h
      · exact h
      · rw [List.drop_eq_nil_of_le h] at hdr; cases hdr
    let R := (List.range ops.size).map fun i => (i, (xs[i]?).getD default)
    obtain ⟨is1, ys1, h4, h5, h6⟩ := schedT_split hysT (A := R.take j) (B := R.drop j) (by simp [R]) (fun p hp => by
      obtain ⟨m, hm', rfl⟩ := List.mem_iff_getElem.1 hp
      simp [R]
      omega)
    have hmapA : (R.take j).map (·.2) = xs.take j := by rw [List.map_take, hmap]
    have hmapB : (R.drop j).map (·.2) = y :: r := by rw [List.map_drop, hmap, hdr]
    obtain ⟨e2, h7, heq⟩ := sched_aops h6 (by rw [hmapA]; exact h1)
    have hA : All2 (OpAt P ann n id ops) is1 ys1 := sched_all h6 fun p hp => hat p (List.mem_of_mem_take hp)
    have hB : All2 (OpAt P ann n id ops) ((R.drop j).map (·.1)) ((R.drop j).map (·.2)) := all2_maps fun p hp => hat p (List.mem_of_mem_drop hp)
    obtain ⟨g1, w1, B1, a1, k1, k2, k3, k4⟩ := ops_okR (k := k) (cs := cs) (tl := (R.drop j).map (·.1)) hO _ _ _ _ _ _ _ _ hA h7 ha1
    rw [hmapB] at hB
    generalize hbs : (R.drop j).map (·.1) = bs at hB k1 h4
    cases hB with
    | cons hop hF =>
      obtain ⟨g2, w2, B2, a2, t2, m1, m2, m3, m4, m5⟩ := aopt_ok (k := k) (cs := cs) hO hop hF h3 (k2.eqE heq)
      refine ⟨g2, w2, B2, a2, t2, m1.imp fun fr hs => .head stepR_region_draw (Steps.trans ?_ hs), m2, k3.trans' m3, m4, k4.trans m5⟩
      rw [hlin, h4]
      exact k1

theorem frz_form (L n l i u off m w : Nat) (σ : Stack) : (∃ l' i' u' off' m' w', (frz L n (.sl l i u off m w) σ).1 = .sl l' i' u' off' m' w') ∨ (∃ m' cs', (frz L n (.sl l i u off m w) σ).1 = .lst m' cs') ∨ (frz L n (.sl l i u off m w) σ).1 = .undef := by
  cases n with
  | zero => simp [frz]
  | succ n =>
    simp only [frz]
    repeat' split
    all_goals simp

theorem blur_rel {g : G} {d : D} {c : Value} (h : RelV g d c) : RelV g d.blur c := by
  cases h <;> first | exact .lstn | (simp only [D.blur]; constructor <;> assumption) | (exact .bdv _ _ _ _ (by assumption) (by assumption))
theorem blur_relL {g : G} : ∀ {ds : List D} {cs : List Value}, RelL g ds cs → RelL g (ds.map D.blur) cs
  | [], _, h => by cases h; exact .nil
  | d :: ds, _, h => by
    cases h with
    | cons _ c _ cs h1 h2 => exact .cons _ _ _ _ (blur_rel h1) (blur_relL h2)
theorem frzR_ok {CR : CRel} {g : G} {w : World} {σ : Stack} {l i u : Nat} {c : Value} (hi : Inv CR base g σ w) (hr : RelV g (.ref l i u 0) c) :
    ∃ g', Inv CR base g' (frzR l i u σ).2 w ∧ Ev g w g' w ∧ RelV g' (frzR l i u σ).1 c := by
  unfold frzR
  cases hc : cells? σ l i u with
  | none => exact ⟨g, hi, Ev.refl g w, .undef c⟩
  | some cs =>
    unfold cells? at hc
    split at hc
    case h_2 => cases hc
    rename_i v' cs' hb
    split at hc
    case isFalse => cases hc
    rename_i hv; subst hv; cases hc
    cases hr with
    | ref _ _ _ _ b o L k1 k2 k3 k4 =>
      obtain ⟨g1, i1, e1, hk⟩ := hi.kill k1 hb k2
      rcases hk with ⟨rfl, _⟩ | ⟨b1, o1, vs, sz, rfl, hrow, hrl⟩
      · exact absurd rfl k4
      · obtain ⟨rfl, rfl⟩ := k3 b1 o1 sz rfl
        obtain ⟨g2, i2, e2, r2⟩ := frzL_ok (frz_ok (CR := CR) (base := base) 0 deep) cs _ g1 w vs i1 (hrl.mono e1.le)
        exact ⟨g2, i2, e1.trans e2, .cref _ _ _ vs (G.row_le e2.le hrow) (blur_relL r2)⟩
theorem frzV_ok {v : Nat} {e : Env} {σ : Stack} {g : G} {a : Act} (ha : At (CR0 P) base ann.ownv g0 w0 n b g w B e σ a) :
    ∃ g', At (CR0 P) base ann.ownv g0 w0 n b g' w B (frzV v e σ).1 (frzV v e σ).2 a ∧ g.le g' ∧ Goes σ (frzV v e σ).2 := by
  obtain ⟨tmps, df⟩ := a
  unfold frzV
  split
  · rename_i hg
    have hr0 : RelV g .nils (tmps.getD v Go.undef) := by have := ha.fr.strip v; rw [hg] at this; exact this
    have hrt : RelT g B e (.lst 0 []) (tmps.getD v Go.undef) := by
      generalize tmps.getD v Go.undef = c at hr0
      cases hr0
      exact RelV.lstn
    exact ⟨g, ha.go (Ev.refl g w) ha.inv (.refl _) (ha.fr.repl hrt (by rw [hg]; simp)) rfl rfl, g.le_refl, .refl _⟩
  · rename_i l i u hg
    have hr0 : RelV g (.ref l i u 0) (tmps.getD v Go.undef) := by have := ha.fr.strip v; rw [hg] at this; exact this
    obtain ⟨g1, i1, e1, r1⟩ := frzR_ok (CR := CR0 P) ha.inv hr0
    have hgo : Goes σ (frzR l i u σ).2 := by
      unfold frzR
      split
      · rename_i cs hc
        exact (Goes.set (b := .dead) (fun _ => trivial)).trans (frzL_spec 0 deep cs _).2
      · exact .refl _
    have hrt : RelT g1 B e (frzR l i u σ).1 (tmps.getD v Go.undef) := by
      unfold frzR at r1 ⊢
      split at r1 <;> exact r1
    exact ⟨g1, ha.go e1 i1 hgo ((ha.fr.ev e1).repl hrt (by rw [hg]; simp)) rfl rfl, e1.le, hgo⟩
  · rename_i s0 cs0 hg
    obtain ⟨_, _, hob⟩ := ha.fr.own v s0 cs0 hg
    obtain ⟨c, el, hb, hr, h5⟩ := hob.blk
    exact ⟨g, ha.go (Ev.refl g w) ha.inv (.refl _) (ha.fr.setOwn hg ⟨hob.lo, hob.free, hob.noimm, c, el, hb, blur_relL hr, h5⟩ (fun _ _ _ => rfl)) rfl rfl, g.le_refl, .refl _⟩
  · exact ⟨g, ha, g.le_refl, .refl _⟩
theorem frzs_ok : ∀ (vs : List Nat) {e : Env} {σ : Stack} {g : G} {a : Act}, At (CR0 P) base ann.ownv g0 w0 n b g w B e σ a →
    ∃ g', At (CR0 P) base ann.ownv g0 w0 n b g' w B (frzs vs e σ).1 (frzs vs e σ).2 a ∧ g.le g' ∧ Goes σ (frzs vs e σ).2
  | [], e, σ, g, a, ha => ⟨g, ha, g.le_refl, .refl _⟩
  | v :: vs, e, σ, g, a, ha => by
    simp only [frzs]
    split
    · rename_i l i0 u off m w1 hg
      obtain ⟨tmps, df⟩ := a
      have hr0 : RelV g (.sl l i0 u off m w1) (tmps.getD v Go.undef) := by have := ha.fr.strip v; rw [hg] at this; exact this
      obtain ⟨g1, i1, e1, r1⟩ := frz_ok (CR := CR0 P) (base := base) 0 deep _ σ g w _ ha.inv hr0
      have hgo := (frz_spec 0 deep (.sl l i0 u off m w1) σ).2
      have hrt : RelT g1 B e (frz 0 deep (.sl l i0 u off m w1) σ).1 (tmps.getD v Go.undef) := by
        rcases frz_form 0 deep l i0 u off m w1 σ with ⟨l', i', u', off', m', w', hd1⟩ | ⟨m', cs', hd1⟩ | hd1 <;> rw [hd1] at r1 ⊢ <;> exact r1
      have ha1 : At (CR0 P) base ann.ownv g0 w0 n b g1 w B ((v, (frz 0 deep (.sl l i0 u off m w1) σ).1) :: e) (frz 0 deep (.sl l i0 u off m w1) σ).2 ⟨tmps, df⟩ :=
        ha.go e1 i1 hgo ((ha.fr.ev e1).repl hrt (by rw [hg]; simp)) rfl rfl
      obtain ⟨g2, a2, l2, o2⟩ := frzs_ok vs ha1
      exact ⟨g2, a2, G.le_trans e1.le l2, hgo.trans o2⟩
    · rename_i s0 cs0 hg
      obtain ⟨tmps, df⟩ := a
      obtain ⟨_, _, hob⟩ := ha.fr.own v s0 cs0 hg
      obtain ⟨c, el, hb, hr, h5⟩ := hob.blk
      obtain ⟨g1, i1, e1, r1⟩ := frzL_ok (frz_ok (CR := CR0 P) (base := base) 0 deep) cs0 σ g w _ ha.inv hr
      have hgo := (frzL_spec 0 deep cs0 σ).2
      have hob1 := hob.ev e1
      have ha1 : At (CR0 P) base ann.ownv g0 w0 n b g1 w B ((v, .own s0 (frz.frzL (frz 0 deep) cs0 σ).1) :: e) (frz.frzL (frz 0 deep) cs0 σ).2 ⟨tmps, df⟩ :=
        ha.go e1 i1 hgo ((ha.fr.ev e1).setOwn hg ⟨hob1.lo, hob1.free, hob1.noimm, c, el, hb, r1, h5⟩ (fun _ _ _ => rfl)) rfl rfl
      obtain ⟨g2, a2, l2, o2⟩ := frzs_ok vs ha1
      exact ⟨g2, a2, G.le_trans e1.le l2, hgo.trans o2⟩
    · rename_i cs0 hg
      obtain ⟨tmps, df⟩ := a
      have hr0 : RelV g (.agg cs0) (tmps.getD v Go.undef) := by have := ha.fr.strip v; rw [hg] at this; exact this
      have hrt : RelT g B e (.agg (cs0.map D.blur)) (tmps.getD v Go.undef) := by
        generalize tmps.getD v Go.undef = c at hr0
        cases hr0 with
        | agg _ cs h1 h2 => exact RelV.agg _ cs (blur_relL h1) h2
      have ha1 : At (CR0 P) base ann.ownv g0 w0 n b g w B ((v, .agg (cs0.map D.blur)) :: e) σ ⟨tmps, df⟩ :=
        ha.go (Ev.refl g w) ha.inv (.refl _) (ha.fr.repl hrt (by rw [hg]; simp)) rfl rfl
      exact frzs_ok vs ha1
    · split
      · obtain ⟨g1, a1, l1, o1⟩ := frzV_ok (v := v - 1000000) ha
        obtain ⟨g2, a2, l2, o2⟩ := frzs_ok vs a1
        exact ⟨g2, a2, G.le_trans l1 l2, o1.trans o2⟩
      · exact frzs_ok vs ha
    · exact frzs_ok vs ha

theorem fail_none {O : Oracle} {e : Env} {σ : Stack} : acode O failC e σ = none := by
  simp [failC, acode, aops, aop, sop, opd, isnD]

theorem region_ok (hm : P.follows .mixedOrders = true) (hO : OrOk P (CR0 P) O) {id : Nat} {ops : Array Oper} {draw : Bool} {blk : Nat} {c : Cmd} (hc : codeC P ann n blk (.region id ops draw) = some c)
    (h : acode O c e σ = some (x, e', σ')) (ha : At (CR0 P) base ann.ownv g0 w0 n b g w B e σ a) : Ends P ann n base g0 w0 b cs g w a (.code (.region id ops draw) :: k) k σ x e' σ' := by
  simp only [codeC] at hc
  split at hc
  case h_2 => cases hc; rw [fail_none] at h; cases h
  rename_i c0 hc0
  cases hc
  cases hv : look id [] ann.fz with
  | nil => rw [hv] at h; exact region_ok0 hm hO hc0 h ha
  | cons v vs =>
    rw [hv] at h
    simp only [withFrz, acode, Option.bind_some] at h
    obtain ⟨g1, a1, l1, o1⟩ := frzs_ok (v :: vs) ha
    obtain ⟨g2, w2, B2, a2, t2, m1, m2, m3, m4, m5⟩ := region_ok0 (k := k) (cs := cs) hm hO hc0 h a1
    exact ⟨g2, w2, B2, a2, t2, m1, m2, G.le_trans l1 m3, m4, o1.trans m5⟩

theorem ctl_of {r : Option R} (h : R.ctls r = some (x, e', σ')) : r = some (.ctl x e' σ') := ctls_some h

theorem enter_ok (ha : At (CR0 P) base ann.ownv g0 w0 n b g w B e σ a) {ps : Array Tmp} {asg body : Code} {live : List Nat} {C1 C2 : Cmd} {blk : Nat}
    (h1 : codeC P ann n blk asg = some C1) (h2 : codeC P ann n blk body = some C2) (hps : ∀ t ∈ ps.toList, t < n) {l i : Nat} {σ1 : Stack}
    (hn : newBlk σ (.loop { state := 0, pend := none, env := strips live e, params := ps.toList, asg := C1, body := C2 }) = some (l, i, σ1)) :
    ∃ lb mk w1 g1, (Instr.enterLoop b.fn a.tmps ps asg body b.roundOf).run P w = .ok (lb, mk) w1 ∧ Inv (CR0 P) base g1 σ1 w1 ∧ Ev g w g1 w1 ∧ g1.loc l i = some (.lp lb) ∧
      ∃ rs, Marks w0.heap.size g1 w1 (mk ++ a.defers) b.defers rs := by
  obtain ⟨rs, hmarks⟩ := ha.marks
  have hrel : ∀ (r : Loop) (g' : G), g.le g' → r.state = .ready → r.pending = none → r.tmps = a.tmps → r.params = ps → r.assign = asg → r.body = body →
      RelLoop (CR0 P) g' { state := 0, pend := none, env := strips live e, params := ps.toList, asg := C1, body := C2 } r := by
    intro r g' hle k1 k2 k3 k4 k5 k6
    refine ⟨k1, by rw [k2]; rfl, by rw [k3]; exact (ha.fr.strips live).mono hle, by rw [k4], by rw [k3, ha.size]; exact hps, ?_⟩
    rw [k3, k5, k6, ha.size]
    exact ⟨ann, blk, by simp [codeC, h1, h2, opdC]⟩
  rcases ha.round with hr | ⟨r, l', i', hr, hl'⟩
  · rw [hr, run_enterLoop_outer]
    have i1 := ha.inv.alloc (.deferred (some []))
    have e1 := Ev.alloc g w (.deferred (some []))
    have := i1.newLoop hn { state := .ready, pending := none, fn := b.fn, tmps := a.tmps, params := ps, assign := asg, body, defers := w.heap.size } (hrel _ g g.le_refl rfl rfl rfl rfl rfl rfl)
    obtain ⟨i2, e2⟩ := this
    have hsz : (w.alloc (.deferred (some []))).heap.size = w.heap.size + 1 := by simp
    rw [hsz] at i2 e2
    have hm0 : MarkB w0.heap.size g (w.alloc (.deferred (some []))) w.heap.size := by
      refine ⟨ha.ev.size, fun hb => Nat.lt_irrefl _ (ha.inv.has_lt hb), fun o => ?_, alloc_new⟩
      cases hh : g.imm w.heap.size o with
      | none => rfl
      | some v => exact absurd (ha.inv.imm_lt hh) (Nat.lt_irrefl _)
    refine ⟨_, _, _, _, rfl, i2, e1.trans e2, G.setLoc_same, w.heap.size :: rs, ?_, ?_, ?_⟩
    · simp [hmarks.eq, mark]
    · rw [List.cons_append, List.nodup_cons]
      exact ⟨fun hin => Nat.lt_irrefl _ (hmarks.all _ hin).lt, hmarks.nodup⟩
    · intro r hr
      rcases List.mem_cons.1 hr with rfl | hr
      · exact hm0.ev e2
      · exact ((hmarks.all r hr).ev e1).ev e2
  · obtain ⟨blkr, hbr, hrelr⟩ := ha.inv.dom l' i' _ hl'
    cases blkr with
    | cells => exact hrelr.elim
    | dead => exact hrelr.elim
    | loop lpr =>
      obtain ⟨r0, hr0, _⟩ := hrelr
      rw [hr, run_enterLoop_inner hr0]
      obtain ⟨i2, e2⟩ := ha.inv.newLoop hn { state := .ready, pending := none, fn := b.fn, tmps := a.tmps, params := ps, assign := asg, body, defers := r0.defers } (hrel _ g g.le_refl rfl rfl rfl rfl rfl rfl)
      exact ⟨_, _, _, _, rfl, i2, e2, G.setLoc_same, rs, by simpa using hmarks.ev e2⟩

theorem range_ok (hO : OrOk P (CR0 P) O) {f : Operand} {ps : Array Tmp} {asg body : Code} {blk : Nat} {c : Cmd} (hc : codeC P ann n blk (.rangeFunc f ps asg body) = some c)
    (h : acode O c e σ = some (x, e', σ')) (ha : At (CR0 P) base ann.ownv g0 w0 n b g w B e σ a) : Ends P ann n base g0 w0 b cs g w a (.code (.rangeFunc f ps asg body) :: k) k σ x e' σ' := by
  simp only [codeC] at hc
  split at hc
  case h_2 => cases hc
  rename_i F C1 C2 hf h1 h2
  simp only [Option.ite_none_right_eq_some] at hc
  obtain ⟨hps, hc⟩ := hc
  cases hc
  have hps' : ∀ t ∈ ps.toList, t < n := fun t ht => by
    have := List.all_eq_true.1 hps t ht
    simp only [Bool.and_eq_true, decide_eq_true_eq] at this
    exact this.1
  simp only [acode] at h
  split at h
  case h_2 => cases h
  rename_i l i σ1 hn
  split at h
  case h_2 => cases h
  rename_i dv σ2 hcall
  split at h
  case h_2 => cases h
  rename_i lp hlp
  split at h
  · cases h
  rename_i hst
  cases h
  obtain ⟨lb, mk, w1, g1, hent, i1, e1, hloc1, rs, hmarks1⟩ := enter_ok ha h1 h2 hps' hn
  -- the call
  unfold callf at hcall
  split at hcall
  case h_2 => cases hcall
  rename_i fi first cap hfe
  obtain ⟨tmps, df⟩ := a
  have hfv := ha.fr.opd (df := df) hf
  rw [hfe] at hfv
  obtain ⟨⟨Fn, cd, hfn1, hfn2, hfn3⟩, hcallok⟩ := hO _ _ (vals_some hcall)
  generalize hev : (Act.mk tmps df).eval f = fv at hfv
  cases hfv with
  | fn _ _ _ first' cap' r1 r2 =>
    have hgo1 := Goes.new hn
    have hargs : RelL g1 (first ++ [.yld l i] ++ cap) (first' ++ #[Value.func (.yield lb) #[] #[]] ++ cap').toList := by
      have hy : RelL g1 [D.yld l i] [.func (.yield lb) #[] #[]] := .cons _ _ _ _ (.yld l i lb hloc1) .nil
      simpa using ((r1.mono e1.le).append hy).append (r2.mono e1.le)
    obtain ⟨hgo2, hcalls⟩ := hcallok base g1 w1 _ i1 (hgo1.low ha.low) (by rw [hgo1.len]; exact ha.pos) hargs
    obtain ⟨en, w2, fr, ⟨v, g2, rfl, e2, i2, hr⟩, hcomes, hfr, hleave⟩ := hcalls (b.atR { tmps := tmps, defers := mk ++ df } (.inRangeFunc lb :: k) :: cs)
    have hres : (resolve (Act.mk tmps df).eval (rangeCall f lb) 0).run P w1 = .ok { target := .fn (.func fi) cap', args := first' ++ #[Value.func (.yield lb) #[] #[]] } w1 := by
      rw [run_resolve_value hev]; simp [Act.eval]
    have hinv : (invoke (.fn (.func fi) cap') (first' ++ #[Value.func (.yield lb) #[] #[]])).run P w1 = .ok (.enter fi (first' ++ #[Value.func (.yield lb) #[] #[]] ++ cap')) w1 := by
      simp only [invoke, run_callFunc hfn1 hfn2 hfn3]
    have hstep1 := stepR_rangeFunc (P := P) (b := b) (a := ⟨tmps, df⟩) (k := k) (cs := cs) (w := w) hent hres hinv
    -- the record
    obtain ⟨L2, hL2, hle2⟩ := e2.le.loc l i _ hloc1
    rw [Loc.lp_le hle2] at hL2
    obtain ⟨bb, hbb, hrelb⟩ := i2.dom l i _ hL2
    rw [hlp] at hbb; cases hbb
    obtain ⟨r, hr1, hr2⟩ := hrelb
    have hbusy : r.state ≠ .busy := by
      rw [hr2.state]
      intro hs
      match hstv : lp.state with
      | 0 => rw [hstv] at hs; cases hs
      | 1 => exact hst hstv
      | 2 => rw [hstv] at hs; cases hs
      | m + 3 => rw [hstv] at hs; cases hs
    have hend := run_endLoop (P := P) hr1 hbusy
    have hrel3 : RelLoop (CR0 P) g2 { lp with state := 3 } { r with state := .exhausted } := ⟨rfl, hr2.pend, hr2.env, hr2.params, hr2.small, hr2.both⟩
    obtain ⟨i3, e3⟩ := i2.setLoop hL2 hlp hrel3
    have hgo3 : Goes σ2 (setBlk σ2 l i (.loop { lp with state := 3 })) := ⟨setBlk_length, fun h => h.set fun hl => (h l i _ hlp hl : Blk.low (l + 1) (.loop lp))⟩
    have hgo := (hgo1.trans hgo2).trans hgo3
    have hev3 := (e1.trans e2).trans e3
    refine ⟨g2, w2.putObj lb (.loop { r with state := .exhausted }), B, { tmps := tmps, defers := mk ++ df }, (r.pending.map Item.code).toList ++ k, Outs.of ?_ (Steps.head hstep1 (Steps.trans hcomes (Steps.head (step_leave_returned hleave) ?_))), ?_, hev3.le, ?_, hgo⟩
    · intro d hd
      have hp := hr2.pend
      cases hpe : lp.pend with
      | none => rw [hpe] at hd; cases hd
      | some y => rw [hpe] at hd hp; simp only [Option.getD_some] at hd; subst hd; simp [pendOf] at hp
    · rw [finish_atR_inRangeFunc]
      exact .one (stepR_endRangeFunc hend)
    · exact ⟨(ha.fr.ev hev3).restrict _, ha.ev.trans hev3, i3, hgo.low ha.low, by rw [hgo.len]; exact ha.pos, ha.size, ⟨rs, (hmarks1.ev e2).ev e3⟩, round_mono ha.round hev3.le⟩
    · have hp := hr2.pend
      cases hpe : lp.pend with
      | none => rw [hpe] at hp; simp only [pendOf, Option.some.injEq] at hp; rw [← hp]; rfl
      | some y =>
        rw [hpe] at hp
        cases y with
        | normal => simp [pendOf] at hp
        | exit id => simp only [pendOf, Option.some.injEq] at hp; rw [← hp]; exact ⟨k, rfl, rfl⟩
        | ret => simp only [pendOf, Option.some.injEq] at hp; rw [← hp]; exact ⟨k, rfl⟩
        | thr d => simp [pendOf] at hp


theorem dfrM_inv {ann : Ann} {x : Code} {c : Cmd} {f : Opd} {xs : List Opd} (h : dfrM P ann n x = some (c, f, xs)) : ∃ id ops m o fo args ts op live, x = .region id ops false ∧ ops.toList = [m, o] ∧ o.op = .defer { callee := .value fo, args, argTypes := ts } ∧ o.dst = none ∧ o.guard = none ∧
    opdC fo = some f ∧ opdsC args.toList = some xs ∧ opC P ann n id ops false 0 m = some op ∧ op.k ≠ .rcv ∧ c = .reg live [op] := by
  unfold dfrM at h
  split at h
  case h_2 => cases h
  rename_i id ops
  split at h
  case h_2 => cases h
  rename_i m o ho
  split at h
  case h_2 => cases h
  rename_i c0 t h1 h2 h3 h4
  obtain ⟨callee, args, ts⟩ := c0
  dsimp only at h
  split at h
  case h_2 => cases h
  rename_i fo
  split at h
  case h_2 => cases h
  rename_i h5 h6 h7
  split at h
  · cases h
  rename_i h8
  cases h
  exact ⟨id, ops, m, o, fo, args, ts, _, _, rfl, ho, h1, h2, h3, h6, h7, h5, h8, rfl⟩

theorem seqC_cases (ann : Ann) (x : Code) (x' y' : Cmd) : (∃ f xs, dfrC x = some (f, xs) ∧ seqC P ann n x x' y' = .dfr f xs y') ∨
    (dfrC x = none ∧ ∃ p0 bid l0 p' live it nx ok b c, x = .seq p0 (.block bid l0) ∧ x' = .seq p' (.mloop live it nx ok b c .nop) ∧ seqC P ann n x x' y' = .seq p' (.mloop live it nx ok b c y')) ∨
    (dfrC x = none ∧ seqC P ann n x x' y' = .seq x' y') ∨
    (dfrC x = none ∧ ∃ live op f xs, dfrM P ann n x = some (.reg live [op], f, xs) ∧ seqC P ann n x x' y' = .seq (.reg live [op]) (.dfr f xs y')) := by
  unfold seqC
  split
  · rename_i f xs h; exact .inl ⟨f, xs, h, rfl⟩
  · rename_i h
    split
    · rename_i c f xs hM
      obtain ⟨_, _, _, _, _, _, _, op, live, _, _, _, _, _, _, _, _, _, rfl⟩ := dfrM_inv hM
      exact .inr (.inr (.inr ⟨h, live, op, f, xs, hM, rfl⟩))
    split
    · exact .inr (.inl ⟨h, _, _, _, _, _, _, _, _, _, _, rfl, rfl, rfl⟩)
    · exact .inr (.inr (.inl ⟨h, rfl⟩))

theorem blkC_cases (ann : Ann) (n id : Nat) (x : Code) (x' : Cmd) : (∃ it nx ok live sg A c, mapC ann n x = some (it, nx, ok) ∧ x' = .loop live sg (.seq A c) ∧ blkC ann n id x x' = .mloop live (.t it) nx ok id c .nop) ∨ blkC ann n id x x' = .blk id x' := by
  unfold blkC
  split
  · rename_i it nx ok live sg A c h; exact .inl ⟨it, nx, ok, live, sg, A, c, h, rfl, rfl⟩
  · exact .inr rfl

theorem mapC_inv {x : Code} {it nx ok : Nat} (h : mapC ann n x = some (it, nx, ok)) : ∃ rid ops p, x = .loop (.seq (.region rid ops false) p) ∧ ∃ o0 o1, ops.toList = [o0, o1] ∧
    o0.op = .next (.tmp it) false ∧ o0.dst = some nx ∧ o0.guard = none ∧ o1.op = .extract (.tmp nx) 0 ∧ o1.dst = some ok ∧ o1.guard = none ∧ nx < n ∧ ok < n ∧ nx ≠ ok ∧ nx ∉ ann.ownv ∧ ok ∉ ann.ownv := by
  unfold mapC at h
  split at h
  case h_2 => cases h
  rename_i rid ops p
  split at h
  case h_2 => cases h
  rename_i o0 o1 hl
  split at h
  case h_2 => cases h
  rename_i h1 h2 h3 h4 h5 h6
  split at h
  case isFalse => cases h
  rename_i hc
  cases h
  obtain ⟨rfl, c1, c2, c3, c4, c5⟩ := hc
  exact ⟨rid, ops, p, rfl, o0, o1, hl, h1, h2, h3, h4, h5, h6, c1, c2, c3, c4, c5⟩

theorem mapC_body {rid : Nat} {ops : Array Oper} {p : Code} {blk : Nat} {live : List Nat} {sg : Bool} {A c : Cmd} {q : Nat × Nat × Nat} (hm : mapC ann n (.loop (.seq (.region rid ops false) p)) = some q)
    (h : codeC P ann n blk (.loop (.seq (.region rid ops false) p)) = some (.loop live sg (.seq A c))) : codeC P ann n blk p = some c := by
  obtain ⟨it, nx, ok⟩ := q
  obtain ⟨rid', ops', p', heq, o0, o1, hl, _, _, _, g5, _⟩ := mapC_inv hm
  cases heq
  simp only [codeC, Option.map_eq_some_iff] at h
  obtain ⟨y, h1, h2⟩ := h
  cases h2
  split at h1
  case h_2 => cases h1
  rename_i x' y' k1 k2
  have hd : dfrC (.region rid ops false) = none := by simp [dfrC, hl]
  have hd2 : dfrM P ann n (.region rid ops false) = none := by simp [dfrM, hl, g5]
  rcases seqC_cases ann (.region rid ops false) x' y' with ⟨f, xs, h3, _⟩ | ⟨_, p0, bid, l0, _, _, _, _, _, _, _, h3, _⟩ | ⟨_, h3⟩ | ⟨_, _, _, _, _, h3, _⟩
  · rw [hd] at h3; cases h3
  · cases h3
  · rw [h3] at h1; cases h1; exact k2
  · rw [hd2] at h3; cases h3

theorem map_ok {x1 : Exit} (hO : OrOk P (CR0 P) O) {x : Code} {blk bid it nx ok : Nat} {live : List Nat} {sg : Bool} {A c rest : Cmd} {qs : Option Code} (hm : mapC ann n x = some (it, nx, ok)) (hx : codeC P ann n bid x = some (.loop live sg (.seq A c))) (hr : RestOk P ann n blk rest qs)
    (h : acode O (.mloop live (.t it) nx ok bid c rest) e σ = some (x1, e', σ')) (ha : At (CR0 P) base ann.ownv g0 w0 n b g w B e σ a) :
    Ends P ann n base g0 w0 b cs g w a (.code (.block bid x) :: (qs.toList.map Item.code ++ k)) k σ x1 e' σ' := by
  obtain ⟨rid, ops, p, rfl, _⟩ := mapC_inv hm
  have hc := mapC_body hm hx
  simp only [acode] at h
  obtain ⟨g1, w1, B1, a1, t1, k1, k2, k3, k4, k5⟩ := hO _ _ (ctls_some h) ann blk rid ops p n it qs rfl hm hc hr base g0 w0 b a k cs g w B ha
  exact ⟨g1, w1, B1, a1, t1, k1.imp fun _ hs => .head stepR_block (.head stepR_loop hs), k2, k3, k4, k5⟩

theorem code_ok (hm : P.follows .mixedOrders = true) (hO : OrOk P (CR0 P) O) (code : Code) : ∀ {blk : Nat} {c : Cmd} {e e' : Env} {σ σ' : Stack} {x : Exit} {g : G} {w : World} {B : Nat → Nat} {a : Act} {k : List Item},
    codeC P ann n blk code = some c → acode O c e σ = some (x, e', σ') → At (CR0 P) base ann.ownv g0 w0 n b g w B e σ a → Ends P ann n base g0 w0 b cs g w a (.code code :: k) k σ x e' σ' := by
  induction hsz : SizeOf.sizeOf code using Nat.strongRecOn generalizing code with
  | _ N ih =>
  intro blk c e e' σ σ' x g w B a k hc h ha
  have seq2 : ∀ {p q : Code} {x' y' : Cmd}, (∀ {e e' : Env} {σ σ' : Stack} {x : Exit} {g : G} {w : World} {B : Nat → Nat} {a : Act} {k : List Item}, acode O x' e σ = some (x, e', σ') → At (CR0 P) base ann.ownv g0 w0 n b g w B e σ a → Ends P ann n base g0 w0 b cs g w a (.code p :: k) k σ x e' σ') →
      (∀ {e e' : Env} {σ σ' : Stack} {x : Exit} {g : G} {w : World} {B : Nat → Nat} {a : Act}, acode O y' e σ = some (x, e', σ') → At (CR0 P) base ann.ownv g0 w0 n b g w B e σ a → Ends P ann n base g0 w0 b cs g w a (.code q :: k) k σ x e' σ') →
      acode O (.seq x' y') e σ = some (x, e', σ') → Ends P ann n base g0 w0 b cs g w a (.code (.seq p q) :: k) k σ x e' σ' := by
    intro p q x' y' ih1 ih2 h
    simp only [acode, Option.bind_eq_some_iff, Prod.exists] at h
    obtain ⟨x1, e1, σ1, h3, h4⟩ := h
    obtain ⟨g1, w1, B1, a1, t1, k1, k2, k3, k4, k5⟩ := ih1 (k := .code q :: k) h3 ha
    cases x1 with
    | normal =>
      obtain rfl := k4
      obtain ⟨g2, w2, B2, a2, t2, m1, m2, m3, m4, m5⟩ := ih2 h4 k2
      exact ⟨g2, w2, B2, a2, t2, m1.imp fun _ hs => .head stepR_seq (Steps.trans k1 hs), m2, k3.trans' m3, m4, k5.trans m5⟩
    | exit id =>
      simp only [Option.some.injEq, Prod.mk.injEq] at h4
      obtain ⟨rfl, rfl, rfl⟩ := h4
      exact ⟨g1, w1, B1, a1, t1, k1.imp fun _ hs => .head stepR_seq hs, k2, k3, k4.skip (fun _ => by simp) (by simp), k5⟩
    | ret =>
      simp only [Option.some.injEq, Prod.mk.injEq] at h4
      obtain ⟨rfl, rfl, rfl⟩ := h4
      exact ⟨g1, w1, B1, a1, t1, k1.imp fun _ hs => .head stepR_seq hs, k2, k3, k4.skip (fun _ => by simp) (by simp), k5⟩
    | thr d =>
      simp only [Option.some.injEq, Prod.mk.injEq] at h4
      obtain ⟨rfl, rfl, rfl⟩ := h4
      exact ⟨g1, w1, B1, a1, t1, k1.imp fun _ hs => .head stepR_seq hs, k2, k3, k4.skip (fun _ => by simp) (by simp), k5⟩
  cases code with
  | skip =>
    simp only [codeC, Option.some.injEq] at hc; subst hc
    simp only [acode, Option.some.injEq, Prod.mk.injEq] at h
    obtain ⟨rfl, rfl, rfl⟩ := h
    exact ⟨g, w, B, a, k, .one stepR_skip, ha, g.le_refl, rfl, .refl _⟩
  | region id ops draw => exact region_ok hm hO hc h ha
  | seq p q =>
    simp only [codeC] at hc
    split at hc
    case h_2 => cases hc
    rename_i p' q' h1 h2
    cases hc
    rcases seqC_cases ann p p' q' with ⟨f, xs, _, h3⟩ | ⟨_, p0, bid, l0, p1, live, it, nx, ok, bb, c0, rfl, rfl, h3⟩ | ⟨_, h3⟩ | ⟨_, live, op, f, xs, _, h3⟩
    · rw [h3] at h; simp [acode] at h
    · rw [h3] at h
      simp only [codeC] at h1
      split at h1
      case h_2 => cases h1
      rename_i p2 q2 g1 g2
      simp only [Option.map_eq_some_iff, Option.some.injEq] at g2 h1
      obtain ⟨l1, g3, rfl⟩ := g2
      rcases blkC_cases ann n bid l0 l1 with ⟨it', nx', ok', live', sg, A, c1, g4, rfl, g5⟩ | g5
      · rw [g5] at h1
        rcases seqC_cases ann p0 p2 (.mloop live' (.t it') nx' ok' bid c1 .nop) with ⟨f, xs, _, g6⟩ | ⟨_, _, _, _, _, _, _, _, _, _, _, _, _, g6⟩ | ⟨_, g6⟩ | ⟨_, _, _, _, _, _, g6⟩
        rotate_left 3
        · rw [g6] at h1; cases h1
        · rw [g6] at h1; cases h1
        · rw [g6] at h1; cases h1
        · rw [g6] at h1; cases h1
          simp only [acode, Option.bind_eq_some_iff, Prod.exists] at h
          obtain ⟨x1, e1, σ1, h4, h5⟩ := h
          obtain ⟨f1, w1, B1, a1, t1, k1, k2, k3, k4, k5⟩ := ih _ (by simp at hsz ⊢; omega) p0 rfl (k := .code (.block bid l0) :: .code q :: k) g1 h4 ha
          cases x1 with
          | normal =>
            obtain rfl := k4
            obtain ⟨f2, w2, B2, a2, t2, m1, m2, m3, m4, m5⟩ := map_ok (blk := blk) (qs := some q) (k := k) (cs := cs) hO g4 g3 h2 h5 k2
            exact ⟨f2, w2, B2, a2, t2, m1.imp fun _ hs => .head stepR_seq (.head stepR_seq (Steps.trans k1 hs)), m2, k3.trans' m3, m4, k5.trans m5⟩
          | exit id =>
            simp only [Option.some.injEq, Prod.mk.injEq] at h5
            obtain ⟨rfl, rfl, rfl⟩ := h5
            exact ⟨f1, w1, B1, a1, t1, k1.imp fun _ hs => .head stepR_seq (.head stepR_seq hs), k2, k3, (k4.skip (fun _ => by simp) (by simp)).skip (fun _ => by simp) (by simp), k5⟩
          | ret =>
            simp only [Option.some.injEq, Prod.mk.injEq] at h5
            obtain ⟨rfl, rfl, rfl⟩ := h5
            exact ⟨f1, w1, B1, a1, t1, k1.imp fun _ hs => .head stepR_seq (.head stepR_seq hs), k2, k3, (k4.skip (fun _ => by simp) (by simp)).skip (fun _ => by simp) (by simp), k5⟩
          | thr d =>
            simp only [Option.some.injEq, Prod.mk.injEq] at h5
            obtain ⟨rfl, rfl, rfl⟩ := h5
            exact ⟨f1, w1, B1, a1, t1, k1.imp fun _ hs => .head stepR_seq (.head stepR_seq hs), k2, k3, trivial, k5⟩
      · rw [g5] at h1
        rcases seqC_cases ann p0 p2 (.blk bid l1) with ⟨f, xs, _, g6⟩ | ⟨_, _, _, _, _, _, _, _, _, _, _, _, _, g6⟩ | ⟨_, g6⟩ | ⟨_, _, _, _, _, _, g6⟩ <;> rw [g6] at h1 <;> cases h1
    · rw [h3] at h
      refine seq2 (fun h ha => ih _ (by simp at hsz; omega) p rfl h1 h ha) (fun h ha => ih _ (by simp at hsz; omega) q rfl h2 h ha) h
    · rw [h3] at h
      simp only [acode, Option.bind_eq_some_iff, Option.map_eq_some_iff] at h
      obtain ⟨_, ⟨_, _, rfl⟩, h⟩ := h
      cases h
  | cond co p q =>
    simp only [codeC] at hc
    split at hc
    case h_2 => cases hc
    rename_i C p' q' h0 h1 h2
    cases hc
    simp only [acode] at h
    split at h
    case h_2 => cases h
    rename_i t ht
    obtain ⟨tmps, df⟩ := a
    have hrel := ha.fr.opd (df := df) h0
    rw [ht] at hrel
    have hev := hrel.bool_inv
    refine Ends.step (stepR_cond hev) ?_
    cases t with
    | true => exact ih _ (by simp at hsz; omega) p rfl h1 (by simpa using h) ha
    | false => exact ih _ (by simp at hsz; omega) q rfl h2 (by simpa using h) ha
  | block id p =>
    simp only [codeC, Option.map_eq_some_iff] at hc
    obtain ⟨p', h1, rfl⟩ := hc
    rcases blkC_cases ann n id p p' with ⟨it', nx', ok', live', sg, A, c1, g4, rfl, g5⟩ | g5
    · rw [g5] at h
      have := map_ok (blk := blk) (qs := none) (k := k) (cs := cs) hO g4 h1 rfl h ha
      simpa using this
    rw [g5] at h
    simp only [acode, Option.map_eq_some_iff, Prod.exists] at h
    obtain ⟨x1, e1, σ1, h3, h4⟩ := h
    obtain ⟨g1, w1, B1, a1, t1, k1, k2, k3, k4, k5⟩ := ih _ (by simp at hsz; omega) p rfl (k := .inBlock id :: k) h1 h3 ha
    cases x1 with
    | normal =>
      cases h4
      obtain rfl := k4
      exact ⟨g1, w1, B1, a1, k, .head stepR_block (Steps.trans k1 (.one stepR_inBlock)), k2, k3, rfl, k5⟩
    | exit j =>
      obtain ⟨k', rfl, hk'⟩ := k4
      dsimp only at h4
      split at h4
      · rename_i hj
        subst hj
        cases h4
        refine ⟨g1, w1, B1, a1, k, .head stepR_block (Steps.trans k1 (.one (stepR_exit ?_))), k2, k3, rfl, k5⟩
        rw [hk']; simp [exitTo]
      · rename_i hj
        cases h4
        refine ⟨g1, w1, B1, a1, _, Steps.head stepR_block k1, k2, k3, ⟨k', rfl, ?_⟩, k5⟩
        rw [hk']; simp [exitTo, Ne.symm hj]
    | ret =>
      cases h4
      exact ⟨g1, w1, B1, a1, t1, Steps.head stepR_block k1, k2, k3, k4, k5⟩
    | thr d =>
      cases h4
      exact ⟨g1, w1, B1, a1, t1, k1.imp fun _ hs => .head stepR_block hs, k2, k3, trivial, k5⟩
  | loop p =>
    simp only [codeC, Option.map_eq_some_iff] at hc
    obtain ⟨p', h1, rfl⟩ := hc
    simp only [acode] at h
    obtain ⟨hx, hloop⟩ := hO _ _ (ctls_some h)
    exact Ends.step stepR_loop (hloop ann blk p n h1 base g0 w0 b a k cs g w B ha)
  | rangeFunc f ps p q => exact range_ok hO hc h ha
  | scope p =>
    simp only [codeC, Option.map_eq_some_iff] at hc
    obtain ⟨p', h1, rfl⟩ := hc
    unfold scopeC at h
    split at h
    · rw [fail_none] at h; cases h
    simp only [acode, Option.bind_some] at h
    obtain ⟨g1, w1, B1, a1, t1, k1, k2, k3, k4, k5⟩ := ih _ (by simp at hsz; omega) p rfl (k := .inScope p :: k) h1 h ha
    cases x with
    | normal =>
      obtain rfl := k4
      exact ⟨g1, w1, B1, a1, k, .head stepR_scope (Steps.trans k1 (.one stepR_inScope)), k2, k3, rfl, k5⟩
    | exit id => exact ⟨g1, w1, B1, a1, t1, Steps.head stepR_scope k1, k2, k3, k4.skip (fun _ => by simp) (by simp), k5⟩
    | ret => exact ⟨g1, w1, B1, a1, t1, Steps.head stepR_scope k1, k2, k3, k4.skip (fun _ => by simp) (by simp), k5⟩
    | thr d => exact ⟨g1, w1, B1, a1, t1, k1.imp fun _ hs => .head stepR_scope hs, k2, k3, trivial, k5⟩
  | label l =>
    simp only [codeC, Option.some.injEq] at hc; subst hc
    simp only [acode, Option.some.injEq, Prod.mk.injEq] at h
    obtain ⟨rfl, rfl, rfl⟩ := h
    exact ⟨g, w, B, a, k, .one stepR_label, ha, g.le_refl, rfl, .refl _⟩
  | exit id =>
    simp only [codeC, Option.some.injEq] at hc; subst hc
    simp only [acode, Option.some.injEq, Prod.mk.injEq] at h
    obtain ⟨rfl, rfl, rfl⟩ := h
    exact ⟨g, w, B, a, _, .refl _ _, ha, g.le_refl, ⟨k, rfl, rfl⟩, .refl _⟩
  | ret =>
    simp only [codeC, Option.some.injEq] at hc; subst hc
    simp only [acode, Option.some.injEq, Prod.mk.injEq] at h
    obtain ⟨rfl, rfl, rfl⟩ := h
    exact ⟨g, w, B, a, _, .refl _ _, ha, g.le_refl, ⟨k, rfl⟩, .refl _⟩
  | _ =>
    simp only [codeC, Option.some.injEq] at hc
    subst hc
    rw [fail_none] at h; cases h
end
end Go.Abs

/-
  A function's results; its way out.
-/
set_option linter.unusedVariables false
set_option linter.unusedSimpArgs false
namespace Go.Abs
open Go

section
variable {P : Program} {CR : CRel} {base fb : Nat} {V : List Nat} {g : G} {σ σ' : Stack} {w : World} {B : Nat → Nat} {e : Env} {tmps : Array Value} {d : D}

theorem load_run {t : TypeId} {ag : Bool} {sz : Nat} {b o : Nat} {vs : List Value} {cs : List D} (hag : aggC P t = some ag) (hsz : sizeC P t = some sz) (hone : (ag || sz == 1) = true) (hpos : 0 < sz)
    (hrd : Rd w b o vs) (hrl : RelL g cs vs) (h1 : ∀ x ∈ vs, x.oneCell' = true)
    (h : (if sz ≤ cs.length then if ag then some (D.agg (cs.take sz), σ) else match (generalizing := false) cs with | d :: _ => some (d, σ) | [] => none else none) = some (d, σ')) :
    ∃ v, (loadVar t ⟨b, o, none⟩).run P w = .ok v w ∧ RelV g d v := by
  split at h
  case isFalse => cases h
  rename_i hlen
  obtain ⟨v, hv, hv2⟩ := run_loadVar hag hsz hone hrd (by rw [← hrl.length]; exact hlen)
  cases ag with
  | true =>
    simp only [if_true, Option.some.injEq, Prod.mk.injEq] at h
    obtain ⟨rfl, rfl⟩ := h
    simp only [if_true] at hv2; subst hv2
    exact ⟨_, hv, .agg _ _ (by simpa using hrl.take sz) fun y hy => h1 y (List.mem_of_mem_take (by simpa using hy))⟩
  | false =>
    simp only [Bool.false_eq_true, if_false] at h hv2
    obtain ⟨y, r, rfl, rfl⟩ := hv2
    cases cs with
    | nil => simp at hlen; omega
    | cons d0 cs =>
      simp only [Option.some.injEq, Prod.mk.injEq] at h
      obtain ⟨rfl, rfl⟩ := h
      cases hrl with
      | cons _ _ _ _ ha hb => exact ⟨_, hv, ha⟩

def resV (tmps : Array Value) : ResultVar → Sem Value
  | .tmp t => pure (tmps.getD t Go.undef)
  | .cell a t => do loadVar t (← asAddr (tmps.getD a Go.undef))

theorem results_eq (F : Func) : results F tmps = (do
    let vs ← F.results.mapM (resV tmps)
    pure (if h : vs.size = 1 then vs[0] else .tuple vs)) := rfl

theorem res_ok (hf : Fr fb V g w B e tmps) (hi : Inv CR base g σ w) {ann : Ann} {r : ResultVar} {R : Res} (hR : resC P ann r = some R) (h : resD e σ R = some d) :
    ∃ v, (resV tmps r).run P w = .ok v w ∧ RelV g d v := by
  cases r with
  | tmp t =>
    simp only [resC, Option.some.injEq] at hR; subst hR
    simp only [resD, Option.some.injEq] at h; subst h
    exact ⟨_, rfl, hf.strip t⟩
  | cell x t =>
    simp only [resC] at hR
    split at hR
    case h_2 => cases hR
    rename_i ag sz hag hsz
    simp only [Option.ite_none_right_eq_some, Bool.and_eq_true, decide_eq_true_eq] at hR
    obtain ⟨⟨hone, hpos⟩, hR⟩ := hR
    by_cases hc : ann.ownv.contains x = true
    · rw [if_pos hc] at hR
      cases hR
      simp only [resD, Option.map_eq_some_iff, Prod.exists] at h
      obtain ⟨d', σ', h, rfl⟩ := h
      simp only [sop] at h
      split at h
      case h_2 => cases h
      rename_i s cs off hin
      obtain ⟨hg, hp⟩ := hf.inVar hin
      obtain ⟨_, _, hob⟩ := hf.own x s cs hg
      obtain ⟨ca, el, hheap, hrl, h1⟩ := hob.blk
      have hrd : Rd w (B x) off (ca.toList.drop off) := by
        have : Rd w (B x) 0 ca.toList := fun j y ey => by simp only [World.cell?, hheap]; simpa using ey
        simpa using this.drop off
      obtain ⟨v, h2, h3⟩ := load_run hag hsz hone hpos hrd (hrl.drop off) (fun y hy => h1 y (List.mem_of_mem_drop hy)) h
      exact ⟨v, by simp only [resV, hp]; simpa [asAddr] using h2, h3⟩
    · rw [if_neg hc] at hR
      cases hR
      simp only [resD, Option.map_eq_some_iff, Prod.exists] at h
      obtain ⟨d', σ', h, rfl⟩ := h
      simp only [sop] at h
      split at h
      case h_2 => cases h
      rename_i cs hcs
      rcases addr_of hi (hf.strip x) hcs with rfl | ⟨b, off, vs, hcv, hrd, hrl, h1⟩
      · simp at h; omega
      · obtain ⟨v, h2, h3⟩ := load_run hag hsz hone hpos hrd hrl h1 h
        exact ⟨v, by simp only [resV, hcv]; simpa [asAddr] using h2, h3⟩

theorem ress_ok (hf : Fr fb V g w B e tmps) (hi : Inv CR base g σ w) {ann : Ann} : ∀ {rs : List ResultVar} {Rs : List Res} {ds : List D}, ressC P ann rs = some Rs → resL e σ Rs = some ds →
    ∃ vs, (rs.mapM (resV tmps)).run P w = .ok vs w ∧ RelL g ds vs
  | [], Rs, ds, h1, h2 => by
    simp only [ressC, Option.some.injEq] at h1; subst h1
    simp only [resL, Option.some.injEq] at h2; subst h2
    exact ⟨[], by simp, .nil⟩
  | r :: rs, Rs, ds, h1, h2 => by
    simp only [ressC] at h1
    split at h1
    case h_2 => cases h1
    rename_i R Rs' k1 k2
    cases h1
    simp only [resL, Option.bind_eq_some_iff, Option.map_eq_some_iff] at h2
    obtain ⟨d, h3, ds', h4, rfl⟩ := h2
    obtain ⟨v, h5, h6⟩ := res_ok hf hi k1 h3
    obtain ⟨vs, h7, h8⟩ := ress_ok hf hi k2 h4
    exact ⟨v :: vs, by simp only [List.mapM_cons, Sem.run_bind, h5, Result.andThen_ok, h7, Sem.run_pure], .cons _ _ _ _ h6 h8⟩

theorem results_ok (hf : Fr fb V g w B e tmps) (hi : Inv CR base g σ w) {ann : Ann} {F : Func} {Rs : List Res} {ds : List D} (h1 : ressC P ann F.results.toList = some Rs) (h2 : resL e σ Rs = some ds) :
    ∃ v, (results F tmps).run P w = .ok v w ∧ RelV g (mkRes ds) v := by
  obtain ⟨vs, h3, h4⟩ := ress_ok (tmps := tmps) hf hi h1 h2
  have hrun : ∀ v, (if h : vs.toArray.size = 1 then vs.toArray[0] else Value.tuple vs.toArray) = v → (results F tmps).run P w = .ok v w := by
    intro v hv
    subst hv
    rw [results_eq]
    simp only [Sem.run_bind, Array.mapM_eq_mapM_toList, Sem.run_map, h3, Result.andThen_ok, Sem.run_pure]
  cases h4 with
  | nil => exact ⟨_, hrun _ rfl, by simpa [mkRes] using RelV.tup (g := g) [] #[] .nil⟩
  | cons d c ds' cs' k1 k2 =>
    cases k2 with
    | nil => exact ⟨c, hrun _ (by simp), by simpa [mkRes] using k1⟩
    | cons d2 c2 ds2 cs2 k3 k4 => exact ⟨_, hrun _ rfl, by simpa [mkRes] using RelV.tup (g := g) _ (c :: c2 :: cs2).toArray (.cons _ _ _ _ k1 (.cons _ _ _ _ k3 k4))⟩
end

section
variable {P : Program} {CR : CRel} {base n : Nat} {V : List Nat} {g0 g : G} {w0 w : World} {b : Frame} {B : Nat → Nat} {e : Env} {σ : Stack} {a : Act}

theorem unmark {df0 : List Deferred} : ∀ (rs : List Nat) (w : World) (g : G) (a : Act) (fr : Frame) (cs : List Frame), fr.mode ≠ .run → fr.defers = rs.map mark ++ df0 → (rs ++ colls df0).Nodup → (∀ r ∈ rs ++ colls df0, MarkB w0.heap.size g w r) →
    Fr w0.heap.size V g w B e a.tmps → Ev g0 w0 g w → Inv CR base g σ w →
    ∃ w', Steps P (lone fr cs w) (lone { fr with defers := df0 } cs w') ∧ Fr w0.heap.size V g w' B e a.tmps ∧ Ev g0 w0 g w' ∧ Inv CR base g σ w' ∧ (∀ r ∈ colls df0, MarkB w0.heap.size g w' r)
  | [], w, g, a, fr, cs, hm, hd, hn, hall, hf, he, hi => by
    refine ⟨w, ?_, hf, he, hi, by simpa using hall⟩
    have : { fr with defers := df0 } = fr := by cases fr; simp only [List.map_nil, List.nil_append] at hd; subst hd; rfl
    rw [this]
    exact .refl _ _
  | r :: rs, w, g, a, fr, cs, hm, hd, hn, hall, hf, he, hi => by
    have hr := hall r (by simp)
    have htake := run_takeDeferred (P := P) hr.blk
    have hstep := step_collected (P := P) (cs := cs) (d := mark r) (ds := rs.map mark ++ df0) hm (by rw [hd]; rfl) rfl htake
    have hoth : ∀ b', b' ≠ r → (w.putObj r (.deferred none)).heap[b']? = w.heap[b']? := fun b' hne => World.putObj_heap_other hne
    have hi' : Inv CR base g σ (w.putObj r (.deferred none)) := hi.foreign (fun b' _ hk => hoth b' fun hh => by
      subst hh
      rcases hk with hk | ⟨o, v, hk⟩
      · exact hr.free hk
      · rw [hr.noimm] at hk; cases hk) (by simp)
    have he' : Ev g0 w0 g (w.putObj r (.deferred none)) :=
      ⟨he.le, he.os, he.tape, he.output, by simpa using he.size, fun b' hb' hnb => by rw [hoth b' (by have := hr.lo; omega)]; exact he.kept b' hb' hnb, he.img, he.immN⟩
    have hf' : Fr w0.heap.size V g (w.putObj r (.deferred none)) B e a.tmps := ⟨hf.rel, fun t s cs' ht => by
      obtain ⟨h1, h2, h3⟩ := hf.own t s cs' ht
      obtain ⟨c, el, hb, hrl, h5⟩ := h3.blk
      refine ⟨h1, h2, h3.lo, h3.free, h3.noimm, c, el, ?_, hrl, h5⟩
      rw [hoth (B t) (fun hh => by rw [hh, hr.blk] at hb; cases hb)]; exact hb, hf.inj⟩
    rw [List.cons_append, List.nodup_cons] at hn
    obtain ⟨w', h1, h2, h3, h4⟩ := unmark rs (w.putObj r (.deferred none)) g a { fr with defers := rs.map mark ++ df0 } cs hm rfl hn.2 (fun r' hr' => by
      have hm' := hall r' (by rw [List.cons_append]; exact List.mem_cons_of_mem _ hr')
      refine ⟨hm'.lo, hm'.free, hm'.noimm, ?_⟩
      rw [hoth r' (fun hh => hn.1 (hh ▸ hr'))]; exact hm'.blk) hf' he' hi'
    refine ⟨w', .head ?_ h1, h2, h3, h4⟩
    rw [hstep]
    rfl
end
end Go.Abs

/-
  A function of the library that is not walked: slices.Sort at numbers, by a contract.
-/
set_option linter.unusedVariables false
set_option linter.unusedSimpArgs false
namespace Go.Abs
open Go
open Go.RowKit

structure RowW (w : World) (b o : Nat) (zs : List Int) (w' : World) : Prop where
  row : ∀ c el, w.heap[b]? = some (.cells c el (0, 0)) → o + zs.length ≤ c.size → ∃ c', w'.heap[b]? = some (.cells c' el (0, 0)) ∧ c'.size = c.size ∧
    ∀ j, c'[j]? = if o ≤ j ∧ j < o + zs.length then (zs.map (Value.int .i64))[j - o]? else c[j]?
  other : ∀ x, x < w.heap.size → x ≠ b → w'.heap[x]? = w.heap[x]?
  size : w.heap.size ≤ w'.heap.size
  os : w'.os = w.os
  tape : w'.tape = w.tape
  output : w'.output = w.output
def natVal (k b o cap : Nat) (zs : List Int) : Value := if k = 1 then .tuple #[] else .slice (some ⟨b, o, none⟩) (compI zs).length cap
def NatOk (P : Program) (k f : Nat) : Prop :=
  (∃ F c, P.funcs[f]? = some F ∧ F.name ≠ "runtime.NumGoroutine" ∧ F.body = some c) ∧
  ∀ (b o cap : Nat) (zs : List Int) (w : World) (c : Array Value) (el : TypeId), w.heap[b]? = some (.cells c el (0, 0)) → o + zs.length ≤ c.size →
    (∀ j z, zs[j]? = some z → c[o + j]? = some (.int .i64 z)) → zs.length < 4611686018427387904 → zs.length ≤ cap →
    Calls P f #[.slice (some ⟨b, o, none⟩) zs.length cap] w fun e w' => e = .returned (natVal k b o cap zs) ∧ RowW w b o (natRow k zs) w'

def NatC (P : Program) (CR : CRel) (k f : Nat) : Prop := ∀ args σ r, natQ k args σ = some r → ∃ d σ', r = .val d σ' ∧ CallOk P CR f args σ d σ'

theorem insI_length (x : Int) : ∀ l : List Int, (insI x l).length = l.length + 1
  | [] => rfl
  | y :: l => by
    unfold insI
    split
    · rfl
    · simp [insI_length x l]
theorem sortI_length : ∀ l : List Int, (sortI l).length = l.length
  | [] => rfl
  | x :: l => by simp [sortI, insI_length, sortI_length l]
theorem compT_length (x : Int) : ∀ l : List Int, (compT x l).length ≤ l.length
  | [] => Nat.le_refl _
  | y :: l => by
    unfold compT
    split
    · have := compT_length x l; simp; omega
    · have := compT_length y l; simp; omega
theorem compI_length : ∀ l : List Int, (compI l).length ≤ l.length
  | [] => Nat.le_refl _
  | x :: l => by have := compT_length x l; simp [compI]; omega
theorem natRow_length (k : Nat) (l : List Int) : (natRow k l).length = l.length := by
  unfold natRow
  split
  · exact sortI_length l
  · have := compI_length l; simp; omega
theorem intsOf_get : ∀ {ds : List D} {zs : List Int}, intsOf ds = some zs → ds = intCells zs
  | [], zs, h => by cases h; rfl
  | d :: ds, zs, h => by
    cases d with
    | int k z =>
      cases k <;> simp only [intsOf, reduceCtorEq] at h
      simp only [Option.map_eq_some_iff] at h
      obtain ⟨l, h1, rfl⟩ := h
      rw [intsOf_get h1]
      rfl
    | _ => simp [intsOf] at h
theorem relL_ints {g : G} : ∀ l : List Int, RelL g (intCells l) (l.map (Value.int .i64))
  | [] => .nil
  | z :: l => .cons _ _ _ _ (.int _ _) (relL_ints l)

theorem natQ_ok {P : Program} (CR : CRel) {k f : Nat} {args : List D} {σ : Stack} {r : R} (h : natR k args σ = some r) (hs : NatOk P k f) :
    ∃ d σ', r = .val d σ' ∧ CallOk P CR f args σ d σ' := by
  unfold natR at h
  split at h
  case h_2 => cases h
  rename_i l i v off n w1
  split at h
  case isFalse => cases h
  rename_i hk
  obtain ⟨hn, rfl, hn2⟩ := hk
  split at h
  case h_2 => cases h
  rename_i cs hcs
  split at h
  case isFalse => cases h
  rename_i hlen
  split at h
  case h_2 => cases h
  rename_i zs hzs
  cases h
  obtain ⟨hfn, hsort⟩ := hs
  have hz := intsOf_get hzs
  have hzl : zs.length = n := by
    have := congrArg List.length hz
    simp [intCells] at this
    omega
  unfold cells? at hcs
  split at hcs
  case h_2 => cases hcs
  rename_i v' cs' hblk
  split at hcs
  case isFalse => cases hcs
  rename_i hv; subst hv; cases hcs
  have hcl : ∀ m, D.lowL m cs = true → D.lowL m (cs.take off ++ intCells (natRow k zs) ++ cs.drop (off + n)) = true := fun m hm => by
    have hi : D.lowL m (intCells (natRow k zs)) = true := by
      generalize natRow k zs = l
      induction l with
      | nil => rfl
      | cons z l ih =>
        simp only [intCells, List.map_cons, D.lowL, D.low, Bool.true_and] at ih ⊢
        exact ih
    simp only [lowL_append]
    exact ⟨⟨lowL_take hm, hi⟩, lowL_drop hm⟩
  refine ⟨_, _, rfl, hfn, fun base g w vs hi hl hp hr => ?_⟩
  have hgoes : Goes σ (setBlk σ l i (.cells v' (cs.take off ++ intCells (natRow k zs) ++ cs.drop (off + n)))) :=
    ⟨setBlk_length, fun h => h.set fun hlt => hcl _ (h l i _ hblk hlt : Blk.low (l + 1) (.cells v' cs))⟩
  refine ⟨hgoes, ?_⟩
  obtain ⟨vs⟩ := vs
  cases hr with
  | cons _ c0 _ cs0 hr1 hr2 =>
  cases hr2
  cases hr1 with
  | sl _ _ _ _ _ _ a cap L k1 k2 k3 k4 k5 k6 k7 =>
  obtain ⟨b1, hb1, hrel⟩ := hi.dom l i L k1
  rw [hblk] at hb1; cases hb1
  cases L with
  | dead => exact hrel.elim
  | lp z => exact hrel.elim
  | mp z => exact k2.elim
  | it z => exact k2.elim
  | ob z _ => exact k2.elim
  | virt v2 =>
    obtain ⟨_, rfl⟩ := hrel
    simp at hlen
    omega
  | «at» blk bo v2 bsz =>
    obtain ⟨rfl, ca, el, hheap, hcsz, hlen2, us, hru, hus⟩ := hrel
    have hcap : cap ≠ 0 := by omega
    have ha : a = some ⟨blk, bo + off, none⟩ := by
      rcases k6 blk bo bsz rfl with h | h
      · exact h.1
      · exact absurd h hcap
    subst ha
    subst hzl
    have hul := hru.length
    have hcell : ∀ j z, zs[j]? = some z → ca[bo + off + j]? = some (.int .i64 z) := fun j z hj => by
      have h1 : cs[off + j]? = some (.int .i64 z) := by
        have h2 : ((cs.drop off).take zs.length)[j]? = some (.int .i64 z) := by
          rw [hz]
          simp [intCells, hj]
        rw [List.getElem?_take] at h2
        split at h2
        · rwa [List.getElem?_drop] at h2
        · cases h2
      obtain ⟨u, hu1, hu2⟩ := hru.get h1
      have := hu2.int_inv
      subst this
      have := (hus _ _ hu1).1
      rwa [← Nat.add_assoc] at this
    have hbig : zs.length < 4611686018427387904 := by omega
    have hc := hsort blk (bo + off) cap zs w ca el hheap (by omega) hcell hbig k3.1
    intro cs1
    obtain ⟨e, w', fr, ⟨he, hw⟩, h2, h3, h4⟩ := hc cs1
    subst he
    obtain ⟨c', hb', hs', hc'⟩ := hw.row ca el hheap (by rw [natRow_length]; omega)
    rw [natRow_length] at hc'
    have hle2 : g.le (g.setLoc l i (.at blk bo v' bsz)) := G.le_setLoc fun L0 e0 => by rw [k1] at e0; cases e0; exact Loc.le_refl _
    have hps : ((natRow k zs).map (Value.int .i64)).length = zs.length := by simp [natRow_length]
    obtain ⟨i2, e2⟩ := hi.setCells (w' := w') (L := .at blk bo v' bsz) (v := v') (ds := cs.take off ++ intCells (natRow k zs) ++ cs.drop (off + zs.length)) k1 hblk (Loc.le_refl _)
      ⟨rfl, c', el, hb', by rw [hs', hcsz], by simp [intCells, natRow_length]; omega, us.take off ++ (natRow k zs).map (Value.int .i64) ++ us.drop (off + zs.length),
        (((hru.take off).append (relL_ints _)).append (hru.drop _)).mono hle2, by
          have := row_write (c := ca) (c' := c') (bo := bo) (off := off) (vs := us) (ps := (natRow k zs).map (Value.int .i64)) hus (by
            intro x hx
            simp only [List.mem_map] at hx
            obtain ⟨z, _, rfl⟩ := hx
            rfl) (by rw [hps]; omega) (by rw [hps]; exact hc')
          rw [hps] at this; exact this⟩
      (fun b' hb' hne => hw.other b' hb' (fun hh => hne (by rw [hh]; rfl))) hw.os hw.tape hw.output hw.size (fun b' hb' => .inl hb')
    refine ⟨_, w', fr, ⟨_, _, rfl, e2, i2, ?_⟩, h2, h3, h4⟩
    unfold natRes natVal
    split
    · exact .tup _ _ .nil
    · have hcl := compI_length zs
      exact .sl _ _ _ _ _ _ _ _ (.at blk bo v' bsz) G.setLoc_same (Nat.le_refl _) (by omega) (by simp) (by rintro x hx hh; cases hx; rfl) (by rintro blk2 bo2 sz2 hh; cases hh; left; exact ⟨rfl, by rcases k6 _ _ _ rfl with h | h <;> omega⟩) (by intro hh; cases hh)
theorem natC_of {P : Program} {CR : CRel} {k f : Nat} (hk : k = 1 ∨ k = 2) (h : NatOk P k f) : NatC P CR k f := fun args σ r hr => natQ_ok CR (by
  rcases hk with rfl | rfl <;> exact hr) h
end Go.Abs

/-
  One step of the whole is sound, if what it asks is.
-/
set_option linter.unusedVariables false
set_option linter.unusedSimpArgs false
namespace Go.Abs
open Go

def FnOk (P : Program) (f : Nat) (fn : Fn) : Prop := ∃ F c ann, P.funcs[f]? = some F ∧ F.name ≠ "runtime.NumGoroutine" ∧ F.body = some c ∧ fnC P ann F = some fn
def TOk (P : Program) (T : Tbl) : Prop :=
  ∀ f fn, T f = some fn → if f < 1000000 then FnOk P f fn else fn.body = .exit 0 ∧ NatC P (CR0 P) fn.npar (f - 1000000)

theorem get_mkEnv {args : List D} : ∀ {k t : Nat}, get (mkEnv k args) t = if k ≤ t then (args[t - k]?).getD .undef else .undef := by
  induction args with
  | nil => intro k t; simp [mkEnv, get]
  | cons d ds ih =>
    intro k t
    simp only [mkEnv, get, ih]
    by_cases h : k = t
    · subst h; simp
    · rw [if_neg h]
      by_cases h2 : k ≤ t
      · rw [if_pos h2, if_pos (by omega), show t - k = (t - (k + 1)) + 1 from by omega, List.getElem?_cons_succ]
      · rw [if_neg h2, if_neg (by omega)]

theorem fnC_inv {P : Program} {ann : Ann} {F : Func} {c : Code} {fn : Fn} (hb : F.body = some c) (h : fnC P ann F = some fn) :
    codeC P ann F.ntmps 0 c = some fn.body ∧ ressC P ann F.results.toList = some fn.res ∧ fn.npar ≤ F.ntmps := by
  unfold fnC at h
  rw [hb] at h
  dsimp only at h
  split at h
  case h_2 => cases h
  rename_i c' rs h1 h2
  simp only [Option.ite_none_right_eq_some] at h
  obtain ⟨h3, h⟩ := h
  cases h
  exact ⟨h1, h2, h3⟩

section
variable {P : Program} {T : Tbl} {O : Oracle}

theorem enter_at {f : Nat} {F : Func} {c : Code} (V : List Nat) {args : List D} (kd : CallKind) (hF : P.funcs[f]? = some F) (hbody : F.body = some c) (hlen : args.length ≤ F.ntmps)
    {base : Nat} {g : G} {w : World} {vs : Array Value} {σ : Stack} (hi : Inv (CR0 P) base g σ w) (hl : LowS σ) (hp : 0 < σ.length) (hr : RelL g args vs.toList) :
    ∃ b a, Frame.enter P f vs kd = b.atR a [.code c] ∧ b.defers = [] ∧ b.fn = f ∧ b.kind = kd ∧ b.roundOf = none ∧ At (CR0 P) base V g w F.ntmps b g w (fun _ => 0) (mkEnv 0 args) σ a := by
  have hsz : vs.size = args.length := by have := hr.length; simpa using this.symm
  let b : Frame := Frame.enter P f vs kd
  let a : Act := ⟨vs ++ Array.replicate (F.ntmps - vs.size) Go.undef, []⟩
  have hfr : Frame.enter P f vs kd = b.atR a [.code c] := by
    simp [b, a, Frame.enter, Frame.atR, hF, hbody]
  have hrel : ∀ t, RelV g (get (mkEnv 0 args) t) (a.tmps.getD t Go.undef) := by
    intro t
    rw [get_mkEnv, if_pos (Nat.zero_le _), Nat.sub_zero]
    cases ht : args[t]? with
    | none => exact .undef _
    | some d =>
      obtain ⟨c0, hc0, hrc⟩ := hr.get ht
      have hlt : t < vs.size := by have := (List.getElem?_eq_some_iff.1 ht).1; omega
      have : a.tmps.getD t Go.undef = c0 := by
        simp only [a, Array.getD_eq_getD_getElem?]
        rw [Array.getElem?_append_left hlt]
        simp at hc0
        rw [hc0]; rfl
      rw [this]; exact hrc
  have hno : ∀ t s cs, get (mkEnv 0 args) t ≠ .own s cs := fun t s cs => not_own (hrel t) s cs
  refine ⟨b, a, hfr, rfl, rfl, rfl, rfl, ⟨⟨fun t => ?_, fun t s cs ht => absurd ht (hno t s cs), fun t t' s s' cs cs' ht => absurd ht (hno t s cs)⟩, Ev.refl g w, hi, hl, hp, ?_, ⟨[], rfl, List.nodup_nil, by simp [colls, b, Frame.enter]⟩, .inl rfl⟩⟩
  · have := hrel t
    cases hd : get (mkEnv 0 args) t with
    | own s cs => trivial
    | vr => rw [hd] at this; cases this
    | emp => rw [hd] at this; cases this
    | _ => rw [hd] at this; exact this
  · simp only [a, Array.size_append, Array.size_replicate]; omega

def FallsX (g : G) : Exit → FrameMode → Prop
  | .thr d, u => Falls g (some d) u ∧ d.clean = true
  | _, u => u = .returning

theorem out_ok {ann : Ann} {base n : Nat} {g0 g1 : G} {w0 w1 : World} {b : Frame} {B : Nat → Nat} {e : Env} {σ : Stack} {a : Act} {cs : List Frame} {x : Exit} {todo : List Item}
    (hro : b.roundOf = none) (hL : Lands [] x todo) (hne : ∀ id, x ≠ .exit id) (ha : At (CR0 P) base ann.ownv g0 w0 n b g1 w1 B e σ a) {fr : Frame} {w : World} (start : Frame) (hs : Outs (fun fr => Steps P (lone start cs w) (lone fr cs w1)) g1 b a todo x) :
    ∃ w2 u, Steps P (lone start cs w) (lone { b.atR a todo with mode := u, defers := b.defers } cs w2) ∧ FallsX g1 x u ∧
      Fr w0.heap.size ann.ownv g1 w2 B e a.tmps ∧ Ev g0 w0 g1 w2 ∧ Inv (CR0 P) base g1 σ w2 ∧ (∀ r ∈ colls b.defers, MarkB w0.heap.size g1 w2 r) := by
  obtain ⟨rs, hmk⟩ := ha.marks
  have fin : ∀ u : FrameMode, u ≠ .run → Steps P (lone start cs w) (lone { b.atR a todo with mode := u } cs w1) →
      ∃ w2, Steps P (lone start cs w) (lone { b.atR a todo with mode := u, defers := b.defers } cs w2) ∧
      Fr w0.heap.size ann.ownv g1 w2 B e a.tmps ∧ Ev g0 w0 g1 w2 ∧ Inv (CR0 P) base g1 σ w2 ∧ (∀ r ∈ colls b.defers, MarkB w0.heap.size g1 w2 r) := by
    intro u hu hst
    obtain ⟨w2, u1, u2, u3, u4, u5⟩ := unmark (P := P) (df0 := b.defers) rs w1 g1 a { b.atR a todo with mode := u } cs hu hmk.eq hmk.nodup hmk.all ha.fr ha.ev ha.inv
    exact ⟨w2, .trans hst u1, u2, u3, u4, u5⟩
  cases x with
  | exit id => exact absurd rfl (hne id)
  | normal =>
    obtain rfl := hL
    obtain ⟨w2, k⟩ := fin .returning (by simp) (Steps.trans hs (.one (stepR_end hro)))
    exact ⟨w2, .returning, k.1, rfl, k.2⟩
  | ret =>
    obtain ⟨k', rfl⟩ := hL
    obtain ⟨w2, k⟩ := fin .returning (by simp) (Steps.trans hs (.one (stepR_ret hro)))
    exact ⟨w2, .returning, k.1, rfl, k.2⟩
  | thr d =>
    obtain ⟨hcl, v, hr, hs⟩ := hs
    obtain ⟨w2, k⟩ := fin (.panicking [{ v, recovered := false }]) (by simp) hs
    exact ⟨w2, _, k.1, ⟨⟨v, hr, rfl⟩, hcl⟩, k.2⟩

theorem dfrC_inv {x : Code} {f : Opd} {xs : List Opd} (h : dfrC x = some (f, xs)) : ∃ id ops o fo args ts, x = .region id ops false ∧ ops.toList = [o] ∧ o.op = .defer { callee := .value fo, args, argTypes := ts } ∧ o.dst = none ∧ o.guard = none ∧ opdC fo = some f ∧ opdsC args.toList = some xs := by
  unfold dfrC at h
  split at h
  case h_2 => cases h
  rename_i id ops
  split at h
  case h_2 => cases h
  rename_i o ho
  split at h
  case h_2 => cases h
  rename_i c h1 h2 h3
  obtain ⟨callee, args, ts⟩ := c
  dsimp only at h
  split at h
  case h_2 => cases h
  rename_i fo
  split at h
  case h_2 => cases h
  rename_i h4 h5
  cases h
  exact ⟨id, ops, o, fo, args, ts, rfl, ho, h1, h2, h3, h4, h5⟩

theorem split_reg {ann : Ann} {n id : Nat} {ops : Array Oper} {draw : Bool} {c : Cmd} (h : regC P ann n id ops draw = some c) : splitT c = none := by
  unfold regC at h
  split at h
  · dsimp only at h
    split at h
    · split at h
      · cases h
        unfold cutC
        split
        · split <;> rfl
        · rfl
      · cases h
    · cases h
  · obtain ⟨xs, _, rfl⟩ := Option.map_eq_some_iff.1 h
    unfold cutC
    split
    · split <;> rfl
    · rfl

theorem split_ok (hm : P.follows .mixedOrders = true) (hO : OrOk P (CR0 P) O) {ann : Ann} {n blk base : Nat} {g0 : G} {w0 : World} {b : Frame} {cs : List Frame} (hro : b.roundOf = none) : ∀ (code : Code) {c A q : Cmd} {fo : Opd} {as : List Opd} {e e1 : Env} {σ σ1 : Stack} {g : G} {w : World} {B : Nat → Nat} {a : Act} {k : List Item} {fi : Nat} {first cap : List D},
    codeC P ann n blk code = some c → splitT c = some (A, fo, as, q) → acode O A e σ = some (.normal, e1, σ1) → At (CR0 P) base ann.ownv g0 w0 n b g w B e σ a → opd e1 fo = .fn fi first cap →
    ∃ g1 w1 B1 a1 q0 first' cap' argv, Steps P (lone (b.atR a (.code code :: k)) cs w) (lone (b.atR { a1 with defers := { target := .fn (.func fi) cap', args := first' ++ argv } :: a1.defers } (.code q0 :: k)) cs w1) ∧
      At (CR0 P) base ann.ownv g0 w0 n b g1 w1 B1 e1 σ1 a1 ∧ codeC P ann n blk q0 = some q ∧ g.le g1 ∧ Goes σ σ1 ∧ RelL g1 first first'.toList ∧ RelL g1 cap cap'.toList ∧ RelL g1 (as.map (opd e1)) argv.toList := by
  intro code
  induction code with
  | seq x y ihx ihy =>
    intro c A q fo as e e1 σ σ1 g w B a k fi first cap hc hsp h ha hfe
    simp only [codeC] at hc
    split at hc
    case h_2 => cases hc
    rename_i x' y' h1 h2
    cases hc
    rcases seqC_cases ann x x' y' with ⟨f, xs, h3, h4⟩ | ⟨_, p0, bid, l0, p1, live, it, nx, ok, bb, c0, rfl, rfl, h4⟩ | ⟨_, h4⟩ | ⟨_, live, op, f, xs, hM, h4⟩
    rotate_left 3
    · rw [h4] at hsp
      simp only [splitT, Option.map_some, Option.some.injEq, Prod.mk.injEq] at hsp
      obtain ⟨rfl, rfl, rfl, rfl⟩ := hsp
      simp only [acode, Option.bind_eq_some_iff, Option.map_eq_some_iff, Prod.exists] at h
      obtain ⟨_, e9, σ9, ⟨e8, σ8, h8, h9⟩, h⟩ := h
      cases h9
      cases h
      obtain ⟨id, ops, m, o, fc, args, ts, op', live', rfl, hops, ho, hd, hg, hf, hxs, hop, _, hc'⟩ := dfrM_inv hM
      cases hc'
      have ho0 : ops[0]? = some m := by
        have := congrArg (·[0]?) hops
        simpa using this
      have ho1 : ops[1]? = some o := by
        have := congrArg (·[1]?) hops
        simpa using this
      have hsize : ops.size = 2 := by
        have := congrArg List.length hops
        simpa using this
      obtain ⟨g1, w1, B1, a1, k1, k2, k3, k4⟩ := ops_okR (k := .code y :: k) (cs := cs) (tl := [1]) hO _ _ _ _ _ _ _ _ (All2.cons ⟨m, false, ho0, hop⟩ .nil : All2 (OpAt P ann n id ops) [0] [op]) h8 ha
      have ha2 := k2.restrict live
      obtain ⟨tmps, df⟩ := a1
      have hfv := ha2.fr.opd (df := df) hf
      have hargs := opsC_map (df := df) ha2.fr hxs
      rw [hfe] at hfv
      generalize hev : (Act.mk tmps df).eval fc = fv at hfv
      cases hfv with
      | fn _ _ _ first' cap' r1 r2 =>
        have hw : Region.wanted o (yielded ops tmps) = true := by simp [Region.wanted, hg]
        have hres : (resolve (Act.mk tmps df).eval { callee := .value fc, args, argTypes := ts } o.type).run P w1 = .ok { target := .fn (.func fi) cap', args := first' ++ args.map (Act.mk tmps df).eval } w1 := run_resolve_value hev w1
        have hstep : step P (lone (b.atR ⟨tmps, df⟩ (.inRegion ops [1] :: .code y :: k)) cs w1) = .next (lone (b.atR ⟨tmps, { target := .fn (.func fi) cap', args := first' ++ args.map (Act.mk tmps df).eval } :: df⟩ (.inRegion ops [] :: .code y :: k)) cs w1) := by
          have hgs := stepGR_op (P := P) (b := b) (a := ⟨tmps, df⟩) (k := .code y :: k) (cs := cs) (w := w1) (rest := []) ho1 hw
          rw [hro, Oper.semAt_none] at hgs
          have hr : (execOp (Act.mk tmps df).eval o).run P w1 = .ok (.defer { target := .fn (.func fi) cap', args := first' ++ args.map (Act.mk tmps df).eval }) w1 := by
            simp only [execOp, ho, Sem.run_bind, hres, Result.andThen_ok, Sem.run_pure]
          refine step_lone_go ?_
          rw [hgs]
          have hfin : ({ b.atR ⟨tmps, df⟩ (.inRegion ops [1] :: .code y :: k) with defers := { target := .fn (.func fi) cap', args := first' ++ args.map (Act.mk tmps df).eval } :: df } : Frame).finish Go.undef =
              b.atR ⟨tmps, { target := .fn (.func fi) cap', args := first' ++ args.map (Act.mk tmps df).eval } :: df⟩ (.inRegion ops [] :: .code y :: k) := by
            have := Frame.finish_atR b ⟨tmps, { target := .fn (.func fi) cap', args := first' ++ args.map (Act.mk tmps df).eval } :: df⟩ ops 1 [] (.code y :: k) Go.undef
            rw [ho1] at this
            simp only [Option.bind_some, hd, Act.put] at this
            exact this
          simp only [stepG.apply, Sem.runT_eq, hr, GStep.bare_after]
          exact congrArg (fun fr => GStep.go { frame := fr, callers := cs, status := .running, dying := none } w1) hfin
        refine ⟨g1, w1, B1, ⟨tmps, df⟩, y, first', cap', args.map (Act.mk tmps df).eval, .head stepR_seq (.head stepR_region (.trans ?_ (.head hstep (.one (stepR_region_end (ops := ops)))))), ha2, h2, k3, k4, r1, r2, hargs⟩
        rw [hsize]
        exact k1
    · rw [h4] at hsp
      simp only [splitT, Option.some.injEq, Prod.mk.injEq] at hsp
      obtain ⟨rfl, rfl, rfl, rfl⟩ := hsp
      simp only [acode, Option.some.injEq, Prod.mk.injEq, true_and] at h
      obtain ⟨rfl, rfl⟩ := h
      obtain ⟨id, ops, o, fc, args, ts, rfl, hops, ho, hd, hg, hf, hxs⟩ := dfrC_inv h3
      obtain ⟨tmps, df⟩ := a
      have hfv := ha.fr.opd (df := df) hf
      have hargs := opsC_map (df := df) ha.fr hxs
      rw [hfe] at hfv
      generalize hev : (Act.mk tmps df).eval fc = fv at hfv
      cases hfv with
      | fn _ _ _ first' cap' r1 r2 =>
        have ho0 : ops[0]? = some o := by
          have := congrArg (·[0]?) hops
          simpa using this
        have hsize : ops.size = 1 := by
          have := congrArg List.length hops
          simpa using this
        have hw : Region.wanted o (yielded ops tmps) = true := by simp [Region.wanted, hg]
        have hres : (resolve (Act.mk tmps df).eval { callee := .value fc, args, argTypes := ts } o.type).run P w = .ok { target := .fn (.func fi) cap', args := first' ++ args.map (Act.mk tmps df).eval } w := run_resolve_value hev w
        have hstep : step P (lone (b.atR ⟨tmps, df⟩ (.inRegion ops [0] :: .code y :: k)) cs w) = .next (lone (b.atR ⟨tmps, { target := .fn (.func fi) cap', args := first' ++ args.map (Act.mk tmps df).eval } :: df⟩ (.inRegion ops [] :: .code y :: k)) cs w) := by
          have hgs := stepGR_op (P := P) (b := b) (a := ⟨tmps, df⟩) (k := .code y :: k) (cs := cs) (w := w) (rest := []) ho0 hw
          rw [hro, Oper.semAt_none] at hgs
          have hr : (execOp (Act.mk tmps df).eval o).run P w = .ok (.defer { target := .fn (.func fi) cap', args := first' ++ args.map (Act.mk tmps df).eval }) w := by
            simp only [execOp, ho, Sem.run_bind, hres, Result.andThen_ok, Sem.run_pure]
          refine step_lone_go ?_
          rw [hgs]
          have hfin : ({ b.atR ⟨tmps, df⟩ (.inRegion ops [0] :: .code y :: k) with defers := { target := .fn (.func fi) cap', args := first' ++ args.map (Act.mk tmps df).eval } :: df } : Frame).finish Go.undef =
              b.atR ⟨tmps, { target := .fn (.func fi) cap', args := first' ++ args.map (Act.mk tmps df).eval } :: df⟩ (.inRegion ops [] :: .code y :: k) := by
            have := Frame.finish_atR b ⟨tmps, { target := .fn (.func fi) cap', args := first' ++ args.map (Act.mk tmps df).eval } :: df⟩ ops 0 [] (.code y :: k) Go.undef
            rw [ho0] at this
            simp only [Option.bind_some, hd, Act.put] at this
            exact this
          simp only [stepG.apply, Sem.runT_eq, hr, GStep.bare_after]
          exact congrArg (fun fr => GStep.go { frame := fr, callers := cs, status := .running, dying := none } w) hfin
        refine ⟨g, w, B, ⟨tmps, df⟩, y, first', cap', args.map (Act.mk tmps df).eval, .head stepR_seq (.head stepR_region (.trans ?_ (.one (stepR_region_end (ops := ops))))), ha, h2, g.le_refl, .refl _, r1, r2, hargs⟩
        rw [hsize]
        exact .one hstep
    · rw [h4] at hsp; simp [splitT] at hsp
    · rw [h4] at hsp
      simp only [splitT, Option.map_eq_some_iff] at hsp
      obtain ⟨⟨A', r⟩, hsp, h5⟩ := hsp
      cases h5
      simp only [acode, Option.bind_eq_some_iff, Prod.exists] at h
      obtain ⟨x1, e2, σ2, h6, h7⟩ := h
      cases x1 with
      | normal =>
        obtain ⟨g2, w2, B2, a2, t2, m1, m2, m3, m4, m5⟩ := code_ok (b := b) (cs := cs) (k := .code y :: k) hm hO x h1 h6 ha
        obtain rfl := m4
        obtain ⟨g1, w1, B1, a1, q0, first', cap', argv, k1, k2, k3, k4, k5, k6⟩ := ihy (k := k) h2 hsp h7 m2 hfe
        exact ⟨g1, w1, B1, a1, q0, first', cap', argv, .head stepR_seq (Steps.trans m1 k1), k2, k3, m3.trans' k4, m5.trans k5, k6⟩
      | _ => simp at h7
  | region id ops draw =>
    intro c A q fo as e e1 σ σ1 g w B a k fi first cap hc hsp h ha hfe
    simp only [codeC] at hc
    split at hc
    · rename_i c0 hc0
      cases hc
      have h0 := split_reg hc0
      cases hv : look id [] ann.fz with
      | nil => rw [hv] at hsp; simp only [withFrz] at hsp; rw [h0] at hsp; cases hsp
      | cons v vs => rw [hv] at hsp; simp only [withFrz, splitT] at hsp; rw [h0] at hsp; cases hsp
    · cases hc; simp [failC, splitT] at hsp
  | scope x ih =>
    intro c A q fo as e e1 σ σ1 g w B a k fi first cap hc hsp h ha hfe
    simp only [codeC, Option.map_eq_some_iff] at hc
    obtain ⟨x', _, rfl⟩ := hc
    unfold scopeC at hsp
    split at hsp
    · simp [failC, splitT] at hsp
    · rename_i h0; simp only [splitT, h0, Option.map_none] at hsp; cases hsp
  | block id x ih =>
    intro c A q fo as e e1 σ σ1 g w B a k fi first cap hc hsp h ha hfe
    simp only [codeC, Option.map_eq_some_iff] at hc
    obtain ⟨x', _, rfl⟩ := hc
    rcases blkC_cases ann n id x x' with ⟨it', nx', ok', live', sg, A, c1, g4, rfl, g5⟩ | g5 <;> rw [g5] at hsp <;> simp [splitT] at hsp
  | cond co x y =>
    intro c A q fo as e e1 σ σ1 g w B a k fi first cap hc hsp h ha hfe
    simp only [codeC] at hc
    split at hc
    case h_2 => cases hc
    cases hc; simp [splitT] at hsp
  | loop x =>
    intro c A q fo as e e1 σ σ1 g w B a k fi first cap hc hsp h ha hfe
    simp only [codeC, Option.map_eq_some_iff] at hc
    obtain ⟨x', _, rfl⟩ := hc
    simp [splitT] at hsp
  | rangeFunc f ps x y =>
    intro c A q fo as e e1 σ σ1 g w B a k fi first cap hc hsp h ha hfe
    simp only [codeC] at hc
    split at hc
    case h_2 => cases hc
    simp only [Option.ite_none_right_eq_some] at hc
    obtain ⟨_, hc⟩ := hc
    cases hc
    simp [splitT] at hsp
  | _ =>
    intro c A q fo as e e1 σ σ1 g w B a k fi first cap hc hsp h ha hfe
    simp only [codeC, Option.some.injEq] at hc
    subst hc
    simp [splitT, failC] at hsp
end
end Go.Abs

/-
  Calls, and deferred calls: one step is sound, if what it asks is.
-/
set_option linter.unusedVariables false
set_option linter.unusedSimpArgs false
namespace Go.Abs
open Go

section
variable {P : Program} {T : Tbl} {O : Oracle}

theorem CallOk.of {f : Nat} {args : List D} {σ σ' : Stack} {d : D} (h1 : ∃ F c, P.funcs[f]? = some F ∧ F.name ≠ "runtime.NumGoroutine" ∧ F.body = some c)
    (h2 : ∀ base g w (vs : Array Value), Inv (CR0 P) base g σ w → LowS σ → 0 < σ.length → RelL g args vs.toList →
      ∀ cs, ∃ v w' fr g', Goes σ σ' ∧ Steps P (lone (Frame.enter P f vs .normal) cs w) (lone fr cs w') ∧ fr.fn = f ∧ fr.leaving P w' (.returned v) ∧ Ev g w g' w' ∧ Inv (CR0 P) base g' σ' w' ∧ RelV g' d v) :
    CallOk P (CR0 P) f args σ d σ' := by
  refine ⟨h1, fun base g w vs hi hl hp hr => ⟨?_, fun cs => ?_⟩⟩
  · obtain ⟨_, _, _, _, hgo, _⟩ := h2 base g w vs hi hl hp hr []
    exact hgo
  · obtain ⟨v, w', fr, g', hgo, k1, k2, k3, k4, k5, k6⟩ := h2 base g w vs hi hl hp hr cs
    exact ⟨.returned v, w', fr, ⟨v, g', rfl, k4, k5, k6⟩, k1, k2, k3⟩

theorem leave_ok {n base : Nat} {V : List Nat} {g0 g g1 : G} {w0 w w1 : World} {b : Frame} {B : Nat → Nat} {e : Env} {σ σ1 : Stack} {tmps : Array Value} {F : Func} {ann : Ann} {Rs : List Res} {r : R}
    (h : leave Rs σ e σ1 = some r) (hress : ressC P ann F.results.toList = some Rs) (hf : Fr w0.heap.size V g1 w1 B e tmps) (he : Ev g w g1 w1) (hi : Inv (CR0 P) base g1 σ1 w1) (hlow : LowS σ1) (hlen : σ1.length = σ.length + 1)
    (hp : 0 < σ.length) (hlvl0 : ∀ l i L, g.loc l i = some L → l < σ.length) :
    ∃ d σ2 v g2, r = .val d σ2 ∧ (results F tmps).run P w1 = .ok v w1 ∧ Ev g w g2 w1 ∧ Inv (CR0 P) base g2 σ2 w1 ∧ RelV g2 d v ∧ LowS σ2 ∧ σ2.length = σ.length := by
  unfold leave at h
  split at h
  case h_2 => cases h
  rename_i ds hds
  split at h
  case h_2 => cases h
  rename_i d s σ2 hfz
  cases h
  obtain ⟨v, hv1, hv2⟩ := results_ok (P := P) hf hi hress hds
  have hspec := frz_spec (σ.length - 1) deep (mkRes ds) σ1
  rw [hfz] at hspec
  obtain ⟨hlow2, hgo⟩ := hspec
  have hl2 : LowS (s :: σ2) := hgo.low hlow
  have hlen2 : σ2.length = σ.length := by
    have k1 := hgo.len
    simp at k1; omega
  obtain ⟨g2, i2, e2, r2⟩ := frz_ok (CR := CR0 P) (base := base) (σ.length - 1) deep (mkRes ds) σ1 g1 w1 v hi hv2
  rw [hfz] at i2 r2
  obtain ⟨i3, l3⟩ := i2.pop hl2
  refine ⟨d, σ2, v, g2.cut σ2.length, rfl, hv1, (he.trans e2).cut (fun l i L h => by rw [hlen2]; exact hlvl0 l i L h), i3, r2.cut ?_, l3, hlen2⟩
  rw [hlen2]
  rwa [show σ.length - 1 + 1 = σ.length from by omega] at hlow2

theorem goes_pop {s : List Blk} {σ σ1 σ2 : Stack} (h : Goes ([] :: σ) σ1) (h2 : σ1 = s :: σ2) (hl : LowS σ2) : Goes σ σ2 := by
  subst h2
  exact ⟨by have := h.len; simpa using this, fun _ => hl⟩

theorem call_sound (hT : TOk P T) (hm : P.follows .mixedOrders = true) (hO : OrOk P (CR0 P) O) {kp : Bool} {f : Nat} {args : List D} {σ : Stack} {r : R}
    (h : stepQ T O (.call kp f args σ) = some r) : AnsOk P (CR0 P) (.call kp f args σ) r := by
  simp only [stepQ] at h
  cases hTf : T f with
  | none =>
    rw [hTf] at h
    dsimp only at h
    cases hT2 : T (1000000 + f) with
    | none => rw [hT2] at h; cases h
    | some fn =>
      rw [hT2] at h
      have h1 := hT _ fn hT2
      rw [if_neg (by omega), show 1000000 + f - 1000000 = f from by omega] at h1
      obtain ⟨d, σ', hr, h2⟩ := h1.2 _ _ _ h
      subst hr
      exact h2
  | some fn =>
  rw [hTf] at h
  dsimp only at h
  split at h
  case isFalse => cases h
  rename_i hlen
  have hTO := hT f fn hTf
  by_cases hfl : f < 1000000
  rotate_left
  · rw [if_neg hfl] at hTO
    rw [hTO.1] at h
    simp [acode, splitT, dbody] at h
  rw [if_pos hfl] at hTO
  obtain ⟨F, c, ann, hF, hname, hbody, hfn⟩ := hTO
  obtain ⟨hcode, hress, hnp⟩ := fnC_inv hbody hfn
  have hin : ∃ F c, P.funcs[f]? = some F ∧ F.name ≠ "runtime.NumGoroutine" ∧ F.body = some c := ⟨F, c, hF, hname, hbody⟩
  cases hac : acode O fn.body (mkEnv 0 args) (if kp then σ else [] :: σ) with
  | none =>
    rw [hac] at h
    dsimp only at h
    cases kp with
    | true => simp at h
    | false =>
    simp only [Bool.false_eq_true, if_false] at h
    cases hsp : splitT fn.body with
    | none => rw [hsp] at h; simp [dbody] at h
    | some y =>
    obtain ⟨A, fo, as, q⟩ := y
    rw [hsp] at h
    simp only [dbody] at h
    split at h
    case h_2 => cases h
    rename_i e1 σ1 hA
    -- what the deferred call is
    have key : ∀ (x2 : Exit) (e2 : Env) (σ2 : Stack) (th : Option D), acode O q e1 σ1 = some (x2, e2, σ2) → (∀ id, x2 ≠ .exit id) → (match x2 with | .thr d => th = some d | _ => th = none) →
        dleave fn.res σ e2 (dcallR O (opd e1 fo) (as.map (opd e1)) th σ2) = some r → AnsOk P (CR0 P) (.call false f args σ) r := by
      intro x2 e2 σ2 th hq hne hth hd
      cases hdc : dcallR O (opd e1 fo) (as.map (opd e1)) th σ2 with
      | none => rw [hdc] at hd; cases hd
      | some rr =>
      rw [hdc] at hd
      cases rr with
      | ctl => cases hd
      | thr => cases hd
      | val dv σ3 =>
      simp only [dleave] at hd
      unfold dcallR at hdc
      split at hdc
      case h_2 => cases hdc
      rename_i fi first cap hfe
      obtain ⟨⟨FD, cD, hfd1, hfd2, hfd3⟩, hdcall⟩ := hO _ _ hdc
      have walk : ∀ base g w (vs : Array Value), Inv (CR0 P) base g σ w → LowS σ → 0 < σ.length → RelL g args vs.toList →
          ∀ cs, ∃ d σ4 v w' fr g', r = .val d σ4 ∧ Goes σ σ4 ∧ Steps P (lone (Frame.enter P f vs .normal) cs w) (lone fr cs w') ∧ fr.fn = f ∧ fr.leaving P w' (.returned v) ∧ Ev g w g' w' ∧ Inv (CR0 P) base g' σ4 w' ∧ RelV g' d v := by
        intro base g w vs hi hl hp hr cs
        obtain ⟨b, a, hfr, hbd, hbf, hbk, hro, ha⟩ := enter_at ann.ownv .normal hF hbody (by omega) (σ := [] :: σ) hi.push (hl.push hi) (by simp) hr
        obtain ⟨g1, w1, B1, a1, q0, first', cap', argv, s1, s2, s3, s4, s5, s6, s7, s8⟩ := split_ok (cs := cs) (k := []) hm hO hro c hcode hsp (by simpa using hA) ha hfe
        obtain ⟨rs1, hmk1⟩ := s2.marks
        let dd : Deferred := { target := .fn (.func fi) cap', args := first' ++ argv }
        let b' : Frame := { b with defers := dd :: a1.defers }
        have ha' : At (CR0 P) base ann.ownv g w F.ntmps b' g1 w1 B1 e1 σ1 { a1 with defers := dd :: a1.defers } := by
          refine ⟨s2.fr, s2.ev, s2.inv, s2.low, s2.pos, s2.size, ⟨[], rfl, ?_, ?_⟩, s2.round⟩
          · simp only [List.nil_append, b', colls, dd]
            rw [hmk1.eq, colls_marks]; exact hmk1.nodup
          · simp only [List.nil_append, b', colls, dd]
            rw [hmk1.eq, colls_marks]; exact hmk1.all
        obtain ⟨g2, w2, B2, a2, t2, m1, m2, m3, m4, m5⟩ := code_ok (b := b') (cs := cs) (k := []) hm hO q0 s3 hq ha'
        obtain ⟨w3, u, n1, n2, n4, n5, n6, n7⟩ := out_ok (b := b') (cs := cs) (fr := b) (w := w1) hro m4 hne m2 _ m1
        have hdef : ({ b'.atR a2 t2 with mode := u, defers := b'.defers } : Frame).defers = dd :: a1.defers := rfl
        have hu : u ≠ .run := by
          cases x2 with
          | thr d => obtain ⟨⟨v, _, rfl⟩, _⟩ := n2; simp
          | normal => obtain rfl : u = .returning := n2; simp
          | ret => obtain rfl : u = .returning := n2; simp
          | exit id => exact absurd rfl (hne id)
        have hfalls : Falls g2 th u := by
          cases x2 with
          | thr d => subst hth; exact n2.1
          | normal => subst hth; exact n2
          | ret => subst hth; exact n2
          | exit id => exact absurd rfl (hne id)
        have hargs : RelL g2 (first ++ as.map (opd e1) ++ cap) (first' ++ argv ++ cap').toList := by
          simpa using ((s6.mono m3).append (s8.mono m3)).append (s7.mono m3)
        obtain ⟨hgo3, hcd⟩ := hdcall base g2 w3 _ u n6 m2.low m2.pos hargs hfalls
        have hinv : (invoke dd.target dd.args).run P w3 = .ok (.enter fi (first' ++ argv ++ cap')) w3 := by
          simp only [dd, invoke, run_callFunc hfd1 hfd2 hfd3]
        have hstep := step_defer (P := P) (cs := cs) (w := w3) (fr := { b'.atR a2 t2 with mode := u, defers := b'.defers }) hu hdef rfl hinv
        obtain ⟨en, u', w4, frX, ⟨v4, g4, rfl, hset, e4, i4⟩, hcomes, hkX, hgo4⟩ := hcd { ({ b'.atR a2 t2 with mode := u, defers := b'.defers } : Frame) with defers := a1.defers } cs rfl
        have hstep2 := step_going_returned (P := P) (cs := cs) (c := { ({ ({ b'.atR a2 t2 with mode := u, defers := b'.defers } : Frame) with defers := a1.defers }) with mode := u' }) hkX hgo4
        have hev4 : Ev g w g4 w4 := n5.trans e4
        have hmk4 : ∀ r ∈ rs1 ++ colls b.defers, MarkB w.heap.size g4 w4 r := by
          intro r hr
          refine MarkB.ev (n7 r ?_) e4
          simp only [b', colls, dd]
          rw [hmk1.eq, colls_marks]; exact hr
        obtain ⟨w5, p1, p2, p3, p4, p5⟩ := unmark (P := P) (df0 := b.defers) (V := ann.ownv) (g0 := g) (w0 := w) (B := B2) (e := e2) (σ := σ3) (base := base) (CR := CR0 P) rs1 w4 g4 a2
          { ({ ({ b'.atR a2 t2 with mode := u, defers := b'.defers } : Frame) with defers := a1.defers }) with mode := settle u' } cs (by rw [hset]; simp) hmk1.eq hmk1.nodup hmk4 (n4.ev e4) hev4 i4
        have hlen3 : σ3.length = σ.length + 1 := by
          have k1 := hgo3.len
          have k2 := m5.len
          have k3 := s5.len
          simp at k3; omega
        obtain ⟨d, σ4, v, g5, hr5, hv5, e5, i5, r5, l5, len5⟩ := leave_ok (n := 0) (g0 := g) (b := b) hd hress p2 p3 p4 (hgo3.low m2.low) hlen3 hp (fun l i L h => hi.lvl h)
        refine ⟨d, σ4, v, w5, { ({ ({ b'.atR a2 t2 with mode := u, defers := b'.defers } : Frame) with defers := a1.defers }) with mode := settle u', defers := b.defers }, g5, hr5, ⟨len5, fun _ => l5⟩, ?_, ?_, ?_, e5, i5, r5⟩
        · rw [hfr]
          refine Steps.trans s1 (Steps.trans n1 (.head hstep (Steps.trans hcomes (.head hstep2 p1))))
        · exact hbf
        · refine ⟨hset, hbd, hbk, F, ?_, hv5⟩
          show P.funcs[b.fn]? = some F
          rw [hbf]; exact hF
      cases r with
      | val d σ' =>
        refine CallOk.of hin fun base g w vs hi hl hp hr cs => ?_
        obtain ⟨d', σ4, v, w', fr, g', h1, h2, h3⟩ := walk base g w vs hi hl hp hr cs
        cases h1
        exact ⟨v, w', fr, g', h2, h3⟩
      | ctl => trivial
      | thr => 
        unfold leave at hd
        split at hd
        · split at hd <;> cases hd
        · cases hd
    cases hq : acode O q e1 σ1 with
    | none => rw [hq] at h; simp [dtail] at h
    | some y =>
    obtain ⟨x2, e2, σ2⟩ := y
    rw [hq] at h
    cases x2 with
    | exit id => simp [dtail] at h
    | normal => exact key _ _ _ none hq (by simp) rfl h
    | ret => exact key _ _ _ none hq (by simp) rfl h
    | thr d => exact key _ _ _ (some d) hq (by simp) rfl h
  | some y =>
  obtain ⟨x, e, σ1⟩ := y
  rw [hac] at h
  have hx : ∀ id, x ≠ .exit id := by intro id hid; subst hid; simp at h
  -- the walk, from whatever memory
  have walk : ∀ (base : Nat) (g : G) (w : World) (vs : Array Value), Inv (CR0 P) base g σ w → LowS σ → 0 < σ.length → RelL g args vs.toList →
      ∀ cs : List Frame, ∃ (b : Frame) (a1 : Act) (t1 : List Item) (u : FrameMode) (w2 : World) (g1 : G) (B1 : Nat → Nat), Goes (if kp then σ else [] :: σ) σ1 ∧ LowS σ1 ∧ Steps P (lone (Frame.enter P f vs .normal) cs w) (lone { b.atR a1 t1 with mode := u, defers := [] } cs w2) ∧ b.fn = f ∧ b.kind = .normal ∧
        FallsX g1 x u ∧ Fr w.heap.size ann.ownv g1 w2 B1 e a1.tmps ∧ Ev g w g1 w2 ∧ Inv (CR0 P) base g1 σ1 w2 := by
    intro base g w vs hi hl hp hr cs
    have hi0 : Inv (CR0 P) base g (if kp then σ else [] :: σ) w := by cases kp; exact hi.push; exact hi
    have hl0 : LowS (if kp then σ else [] :: σ) := by cases kp; exact hl.push hi; exact hl
    have hp0 : 0 < (if kp then σ else [] :: σ).length := by cases kp; simp; exact hp
    obtain ⟨b, a, hfr, hbd, hbf, hbk, hro, ha⟩ := enter_at ann.ownv .normal hF hbody (by omega) hi0 hl0 hp0 hr
    obtain ⟨g1, w1, B1, a1, t1, k1, k2, k3, k4, k5⟩ := code_ok (b := b) (cs := cs) (k := []) hm hO c hcode hac ha
    obtain ⟨w2, u, n1, n2, n4, n5, n6, n7⟩ := out_ok (b := b) (cs := cs) (fr := b) (w := w) hro k4 hx k2 _ k1
    rw [hbd, ← hfr] at n1
    exact ⟨b, a1, t1, u, w2, g1, B1, k5, k2.low, n1, hbf, hbk, n2, n4, n5, n6⟩
  have ret : (x = .normal ∨ x = .ret) → (match resL e σ1 fn.res with
        | some ds => if kp then some (R.val (mkRes ds) σ1) else
            match frz (σ.length - 1) deep (mkRes ds) σ1 with
            | (d, _ :: σ2) => some (.val d σ2)
            | _ => none
        | none => none) = some r → AnsOk P (CR0 P) (.call kp f args σ) r := by
    intro hxx h
    have hu : ∀ {g1 : G} {u : FrameMode}, FallsX g1 x u → u = .returning := by
      clear h
      intro g1 u h
      rcases hxx with rfl | rfl <;> exact h
    cases kp with
    | true =>
      simp only [if_true] at h
      split at h
      case h_2 => cases h
      rename_i ds hds
      cases h
      refine CallOk.of hin fun base g w vs hi hl hp hr cs => ?_
      obtain ⟨b, a1, t1, u, w2, g1, B1, k1, k2, k3, k4, k5, k6, k8, k9, k10⟩ := walk base g w vs hi hl hp hr cs
      obtain ⟨v, hv1, hv2⟩ := results_ok (P := P) k8 k10 hress hds
      obtain rfl := hu k6
      refine ⟨v, w2, _, g1, by simpa using k1, k3, k4, ⟨rfl, rfl, k5, F, ?_, hv1⟩, k9, k10, hv2⟩
      show P.funcs[b.fn]? = some F
      rw [k4]; exact hF
    | false =>
      simp only [Bool.false_eq_true, if_false] at h
      have h' : leave fn.res σ e σ1 = some r := h
      cases r with
      | ctl => trivial
      | thr =>
        unfold leave at h'
        split at h'
        · split at h' <;> cases h'
        · cases h'
      | val d σ' =>
      refine CallOk.of hin fun base g w vs hi hl hp hr cs => ?_
      obtain ⟨b, a1, t1, u, w2, g1, B1, k1, k2, k3, k4, k5, k6, k8, k9, k10⟩ := walk base g w vs hi hl hp hr cs
      have hlen : σ1.length = σ.length + 1 := by have := k1.len; simpa using this
      obtain ⟨d', σ4, v, g5, hr5, hv5, e5, i5, r5, l5, len5⟩ := leave_ok (n := 0) (g0 := g) (w0 := w) (b := b) h' hress k8 k9 k10 k2 hlen hp (fun l i L h => hi.lvl h)
      cases hr5
      obtain rfl := hu k6
      refine ⟨v, w2, _, g5, ⟨len5, fun _ => l5⟩, k3, k4, ⟨rfl, rfl, k5, F, ?_, hv5⟩, e5, i5, r5⟩
      show P.funcs[b.fn]? = some F
      rw [k4]; exact hF
  cases x with
  | exit id => exact absurd rfl (hx id)
  | normal => exact ret (.inl rfl) h
  | ret => exact ret (.inr rfl) h
  | thr d =>
    dsimp only at h
    unfold thrown at h
    split at h
    case h_2 => cases h
    rename_i s σ2
    split at h
    case isFalse => cases h
    rename_i hc
    obtain ⟨rfl, hcl⟩ := hc
    cases h
    refine ⟨hcl, hin, fun base g w vs hi hl hp hr => ?_⟩
    have hgo : Goes σ σ2 := by
      obtain ⟨b, a1, t1, u, w2, g1, B1, k1, k2, k3, k4, k5, k6, k8, k9, k10⟩ := walk base g w vs hi hl hp hr []
      obtain ⟨i3, l3⟩ := k10.pop k2
      exact goes_pop (by simpa using k1) rfl l3
    refine ⟨hgo, fun cs => ?_⟩
    obtain ⟨b, a1, t1, u, w2, g1, B1, k1, k2, k3, k4, k5, ⟨⟨v, k6, rfl⟩, _⟩, k8, k9, k10⟩ := walk base g w vs hi hl hp hr cs
    obtain ⟨i3, l3⟩ := k10.pop k2
    refine ⟨.panicked [{ v, recovered := false }], w2, _, ⟨v, g1.cut σ2.length, rfl, k9.cut (fun l i L h => by rw [hgo.len]; exact hi.lvl h), i3, k6.cut (clean_low hcl)⟩, k3, k4, ⟨rfl, rfl, F, ?_⟩⟩
    show P.funcs[b.fn]? = some F
    rw [k4]; exact hF
end
end Go.Abs

/-
  A deferred call that recovers.
-/
set_option linter.unusedVariables false
set_option linter.unusedSimpArgs false
namespace Go.Abs
open Go

theorem afterRcv_inv {th : Option D} {args : List D} {c q : Cmd} {e0 : Env} (h : afterRcv th args c = some (e0, q)) : ∃ live t nn, c = .seq (.reg live [⟨some t, none, nn, .rcv⟩]) q ∧ (∀ l i a b d c r, q ≠ .mloop l i a b d c r) ∧ e0 = restrict live ((t, th.getD .nili) :: mkEnv 0 args) := by
  unfold afterRcv at h
  split at h
  case h_2 => cases h
  rename_i live t nn q'
  split at h
  · cases h
  · rename_i hn
    cases h
    exact ⟨live, t, nn, rfl, fun l i a b d c r hq => hn l i a b d c r hq, rfl⟩

section
variable {P : Program} {T : Tbl} {O : Oracle} {ann : Ann} {n blk : Nat}

theorem rcvReg {id : Nat} {ops : Array Oper} {draw : Bool} {live : List Nat} {op : Op} (hk : op.k = .rcv) (h : codeC P ann n blk (.region id ops draw) = some (.reg live [op])) :
    draw = false ∧ ∃ o ntr, ops.toList = [o] ∧ opC P ann n id ops ntr 0 o = some op := by
  simp only [codeC] at h
  split at h
  · rename_i c0 hc0
    simp only [Option.some.injEq] at h
    cases hv : look id [] ann.fz with
    | cons v vs => rw [hv] at h; simp [withFrz] at h
    | nil =>
      rw [hv] at h
      simp only [withFrz] at h
      subst h
      unfold regC at hc0
      cases draw with
      | true =>
        simp only [if_true] at hc0
        split at hc0
        case h_2 => cases hc0
        rename_i xs hxs
        simp only [Option.ite_none_right_eq_some, Bool.and_eq_true] at hc0
        obtain ⟨⟨_, hall⟩, hc0⟩ := hc0
        have hxs1 : xs = [op] := by
          simp only [Option.some.injEq] at hc0
          unfold cutC at hc0
          split at hc0
          · split at hc0
            · cases hc0
            · cases hc0; rfl
          · cases hc0; rfl
        subst hxs1
        simp [hk] at hall
      | false =>
        simp only [Bool.false_eq_true, if_false] at hc0
        obtain ⟨xs, hxs, h1⟩ := Option.map_eq_some_iff.1 hc0
        have hxs1 : xs = [op] := by
          unfold cutC at h1
          split at h1
          · split at h1
            · cases h1
            · cases h1; rfl
          · cases h1; rfl
        subst hxs1
        refine ⟨rfl, ?_⟩
        cases hl : ops.toList with
        | nil => rw [hl] at hxs; simp [opsC] at hxs
        | cons o l =>
          rw [hl] at hxs
          simp only [opsC] at hxs
          split at hxs
          case h_2 => cases hxs
          rename_i x xs' h2 h3
          cases hxs
          cases l with
          | nil => exact ⟨o, _, rfl, h2⟩
          | cons o' l' =>
            simp only [opsC] at h3
            split at h3 <;> cases h3
  · simp only [Option.some.injEq, failC, Cmd.reg.injEq, List.cons.injEq, and_true] at h
    obtain ⟨_, rfl⟩ := h
    cases hk

theorem rcvCode {c : Code} {live : List Nat} {op : Op} {q : Cmd} (hk : op.k = .rcv) (hq : ∀ l i a b d c r, q ≠ .mloop l i a b d c r) (h : codeC P ann n blk c = some (.seq (.reg live [op]) q)) :
    ∃ id ops y o ntr, c = .seq (.region id ops false) y ∧ codeC P ann n blk y = some q ∧ ops.toList = [o] ∧ opC P ann n id ops ntr 0 o = some op := by
  have hf : ∀ {c : Cmd}, c = failC → ∀ {live' : List Nat}, c = .reg live' [op] → False := by
    intro c h1 live' h2
    rw [h1] at h2
    simp only [failC, Cmd.reg.injEq, List.cons.injEq, and_true] at h2
    obtain ⟨_, rfl⟩ := h2
    cases hk
  cases c with
  | seq x y =>
    simp only [codeC] at h
    split at h
    case h_2 => cases h
    rename_i x' y' h1 h2
    simp only [Option.some.injEq] at h
    rcases seqC_cases ann x x' y' with ⟨f, xs, _, h3⟩ | ⟨_, p0, bid, l0, p1, live', it, nx, ok, bb, c0, rfl, rfl, h3⟩ | ⟨_, h3⟩ | ⟨_, lv, op, f, xs, hM, h3⟩
    rotate_left 3
    · rw [h3] at h
      obtain ⟨_, _, _, _, _, _, _, op', _, _, _, _, _, _, _, _, _, hr, hc⟩ := dfrM_inv hM
      cases hc
      cases h
      exact absurd hk hr
    · rw [h3] at h; cases h
    · rw [h3] at h; cases h; exact absurd rfl (hq _ _ _ _ _ _ _)
    · rw [h3] at h
      cases h
      cases x with
      | region id ops draw =>
        obtain ⟨rfl, o, ntr, h5, h6⟩ := rcvReg hk h1
        exact ⟨id, ops, y, o, ntr, rfl, h2, h5, h6⟩
      | seq p r =>
        simp only [codeC] at h1
        split at h1
        case h_2 => cases h1
        rename_i p' r' _ _
        simp only [Option.some.injEq] at h1
        rcases seqC_cases ann p p' r' with ⟨f, xs, _, h3⟩ | ⟨_, _, _, _, _, _, _, _, _, _, _, _, _, h3⟩ | ⟨_, h3⟩ | ⟨_, _, _, _, _, _, h3⟩ <;> rw [h3] at h1 <;> cases h1
      | cond co p r =>
        simp only [codeC] at h1
        split at h1 <;> cases h1
      | block id p =>
        simp only [codeC, Option.map_eq_some_iff] at h1
        obtain ⟨p', _, h1⟩ := h1
        rcases blkC_cases ann n id p p' with ⟨_, _, _, _, _, _, _, _, rfl, h3⟩ | h3 <;> rw [h3] at h1 <;> cases h1
      | loop p =>
        simp only [codeC, Option.map_eq_some_iff] at h1
        obtain ⟨p', _, h1⟩ := h1
        cases h1
      | rangeFunc f ps p r =>
        simp only [codeC] at h1
        split at h1
        case h_2 => cases h1
        split at h1 <;> cases h1
      | scope p =>
        simp only [codeC, Option.map_eq_some_iff] at h1
        obtain ⟨p', _, h1⟩ := h1
        unfold scopeC at h1
        split at h1
        · exact (hf rfl h1).elim
        · cases h1
      | skip => simp [codeC] at h1
      | label l => simp [codeC] at h1
      | exit id => simp [codeC] at h1
      | ret => simp [codeC] at h1
      | _ => simp only [codeC, Option.some.injEq] at h1; exact (hf rfl h1).elim
  | region id ops draw =>
    simp only [codeC] at h
    split at h
    · rename_i c0 hc0
      simp only [Option.some.injEq] at h
      cases hv : look id [] ann.fz with
      | nil =>
        rw [hv] at h
        simp only [withFrz] at h
        subst h
        unfold regC at hc0
        split at hc0
        · dsimp only at hc0
          split at hc0
          · simp only [Option.ite_none_right_eq_some, Option.some.injEq] at hc0
            obtain ⟨_, hc0⟩ := hc0
            unfold cutC at hc0
            split at hc0
            · split at hc0 <;> cases hc0
            · cases hc0
          · cases hc0
        · obtain ⟨xs, _, h1⟩ := Option.map_eq_some_iff.1 hc0
          unfold cutC at h1
          split at h1
          · split at h1 <;> cases h1
          · cases h1
      | cons v vs => rw [hv] at h; simp [withFrz] at h
    · cases h
  | scope p =>
    simp only [codeC, Option.map_eq_some_iff] at h
    obtain ⟨p', _, h1⟩ := h
    unfold scopeC at h1
    split at h1 <;> cases h1
  | cond co p r =>
    simp only [codeC] at h
    split at h <;> cases h
  | block id p =>
    simp only [codeC, Option.map_eq_some_iff] at h
    obtain ⟨p', _, h1⟩ := h
    rcases blkC_cases ann n id p p' with ⟨_, _, _, _, _, _, _, _, rfl, h3⟩ | h3 <;> rw [h3] at h1 <;> cases h1
  | loop p =>
    simp only [codeC, Option.map_eq_some_iff] at h
    obtain ⟨p', _, h1⟩ := h
    cases h1
  | rangeFunc f ps p r =>
    simp only [codeC] at h
    split at h
    case h_2 => cases h
    split at h <;> cases h
  | skip => simp [codeC] at h
  | label l => simp [codeC] at h
  | exit id => simp [codeC] at h
  | ret => simp [codeC] at h
  | _ => simp only [codeC, Option.some.injEq] at h; cases h

theorem step_recover {b : Frame} {a : Act} {k : List Item} {cs : List Frame} {w : World} {ops : Array Oper} {i : Nat} {is : List Nat} {o : Oper} {args : Array Operand} {ts : Array TypeId} (ho : ops[i]? = some o) (hg : o.guard = none)
    (hop : o.op = .call { callee := .builtin .recover, args, argTypes := ts }) (hro : b.roundOf = none) (hk : b.kind = .deferred) :
    step P (lone (b.atR a (.inRegion ops (i :: is) :: k)) cs w) = .next (match recoverD cs with
      | some (v, cs') => lone (b.atR (a.put o.dst v) (.inRegion ops is :: k)) cs' w
      | none => lone (b.atR (a.put o.dst .nilIface) (.inRegion ops is :: k)) cs w) := by
  have hw : Region.wanted o (yielded ops a.tmps) = true := by simp [Region.wanted, hg]
  have hgs := stepGR_op (P := P) (b := b) (a := a) (k := k) (cs := cs) (w := w) (rest := is) ho hw
  rw [hro, Oper.semAt_none] at hgs
  have hr : (execOp a.eval o).run P w = .ok .recover w := by
    simp [execOp, hop, resolve, invoke, builtin]
  have htr : tryRecover (b.atR a (.inRegion ops (i :: is) :: k)) cs = recoverD cs := tryRecover_deferred (fr := b.atR a (.inRegion ops (i :: is) :: k)) hk cs
  have hro' : (b.atR a (.inRegion ops (i :: is) :: k)).roundOf = none := hro
  have hfin := fun v => finish_op (b := b) (a := a) (rest := is) (k := k) ho v
  cases hrec : recoverD cs with
  | none =>
    refine step_lone_go ?_
    rw [hgs, ← hfin]
    simp [stepG.apply, hr, hro', htr, hrec]
  | some y =>
    obtain ⟨v, cs'⟩ := y
    refine step_lone_go ?_
    rw [hgs, ← hfin]
    simp [stepG.apply, hr, hro', htr, hrec]

theorem dcall_sound (hT : TOk P T) (hm : P.follows .mixedOrders = true) (hO : OrOk P (CR0 P) O) {f : Nat} {args : List D} {th : Option D} {σ : Stack} {r : R}
    (h : stepQ T O (.dcall f args th σ) = some r) : AnsOk P (CR0 P) (.dcall f args th σ) r := by
  simp only [stepQ] at h
  split at h
  case h_2 => cases h
  rename_i fn hTf
  split at h
  case isFalse => cases h
  rename_i hlen
  split at h
  case h_2 => cases h
  rename_i e0 q hrcv
  obtain ⟨live, t, nn, hbd, hqm, rfl⟩ := afterRcv_inv hrcv
  have hTO := hT f fn hTf
  by_cases hfl : f < 1000000
  rotate_left
  · rw [if_neg hfl] at hTO
    rw [hTO.1] at hbd
    cases hbd
  rw [if_pos hfl] at hTO
  obtain ⟨F, c, ann, hF, hname, hbody, hfn⟩ := hTO
  obtain ⟨hcode, hress, hnp⟩ := fnC_inv hbody hfn
  have hin : ∃ F c, P.funcs[f]? = some F ∧ F.name ≠ "runtime.NumGoroutine" ∧ F.body = some c := ⟨F, c, hF, hname, hbody⟩
  cases hac : acode O q (restrict live ((t, th.getD .nili) :: mkEnv 0 args)) ([] :: σ) with
  | none => rw [hac] at h; cases h
  | some y =>
  obtain ⟨x, e, σ1⟩ := y
  rw [hac] at h
  have hx : (∀ id, x ≠ .exit id) ∧ (∀ d, x ≠ .thr d) ∧ ∃ s σ2, σ1 = s :: σ2 ∧ resL e σ1 fn.res = some [] ∧ r = .val (.tup []) σ2 := by
    cases x with
    | exit id => simp at h
    | thr d => simp at h
    | normal =>
      dsimp only at h
      split at h
      · rename_i s σ2 hres
        cases h
        exact ⟨by simp, by simp, _, σ2, rfl, hres, rfl⟩
      · cases h
    | ret =>
      dsimp only at h
      split at h
      · rename_i s σ2 hres
        cases h
        exact ⟨by simp, by simp, _, σ2, rfl, hres, rfl⟩
      · cases h
  obtain ⟨hx1, hx2, s, σ2, rfl, hres, rfl⟩ := hx
  obtain ⟨id, ops, y, o, ntr, rfl, hy, hops, hop⟩ := rcvCode rfl hqm (by rw [← hbd]; exact hcode)
  have walk : ∀ (base : Nat) (g : G) (w : World) (vs : Array Value) (u : FrameMode), Inv (CR0 P) base g σ w → LowS σ → 0 < σ.length → RelL g args vs.toList → Falls g th u →
      ∀ (c0 : Frame) (cs : List Frame), c0.mode = u → ∃ (v : Value) (u' : FrameMode) (w' : World) (fr : Frame) (g' : G), Goes σ σ2 ∧ settle u' = .returning ∧ Ev g w g' w' ∧ Inv (CR0 P) base g' σ2 w' ∧
        Steps P (lone (Frame.enter P f vs .deferred) (c0 :: cs) w) (lone fr ({ c0 with mode := u' } :: cs) w') ∧ fr.kind = .deferred ∧ fr.going P w' (.returned v) := by
    intro base g w vs u hi hl hp hr hfa c0 cs hmode
    obtain ⟨b, a, hfr, hbdf, hbf, hbk, hro, ha⟩ := enter_at ann.ownv .deferred hF hbody (by omega) (σ := [] :: σ) hi.push (hl.push hi) (by simp) hr
    obtain ⟨hdst, hn, hgrd⟩ := opC_inv hop
    obtain ⟨hkc, hmk⟩ := opC_k hop
    obtain ⟨args0, ts0, hopo⟩ := kC_eq hkc
    have ho0 : ops[0]? = some o := by
      have := congrArg (·[0]?) hops
      simpa using this
    have hsize : ops.size = 1 := by
      have := congrArg List.length hops
      simpa using this
    have hguard : o.guard = none := by
      rcases hgrd with ⟨h1, _⟩ | ⟨_, _, _, _, h2, _⟩
      · exact h1
      · cases h2
    have hdt : o.dst = some t := hdst.symm
    -- what recover finds
    have hrec : ∃ (v : Value) (u' : FrameMode), RelV g (th.getD .nili) v ∧ settle u' = .returning ∧
        step P (lone (b.atR a [.inRegion ops [0], .code y]) (c0 :: cs) w) = .next (lone (b.atR (a.put o.dst v) [.inRegion ops [], .code y]) ({ c0 with mode := u' } :: cs) w) := by
      have hst := step_recover (P := P) (b := b) (a := a) (k := [.code y]) (cs := c0 :: cs) (w := w) (is := []) ho0 hguard hopo hro hbk
      cases th with
      | none =>
        obtain rfl : u = .returning := hfa
        refine ⟨.nilIface, .returning, .nili, rfl, ?_⟩
        rw [hst]
        have : recoverD (c0 :: cs) = none := by simp [recoverD, hmode]
        rw [this]
        have : ({ c0 with mode := .returning } : Frame) = c0 := by cases c0; simp only at hmode; subst hmode; rfl
        rw [this]
      | some d =>
        obtain ⟨v, hv, rfl⟩ := hfa
        refine ⟨v, .panicking [{ v, recovered := true }], hv, rfl, ?_⟩
        rw [hst]
        have : recoverD (c0 :: cs) = some (v, { c0 with mode := .panicking [{ v, recovered := true }] } :: cs) := by simp [recoverD, hmode]
        rw [this]
    obtain ⟨v, u', hv, hset, hstep⟩ := hrec
    have ha1 : At (CR0 P) base ann.ownv g w F.ntmps b g w (fun _ => 0) ((t, th.getD .nili) :: mkEnv 0 args) ([] :: σ) (a.put o.dst v) := by
      refine ha.go (Ev.refl g w) ha.inv (.refl _) ?_ put_size put_defers
      have := ha.fr.put (df := a.defers) (dst := o.dst) (d := th.getD .nili) (c := v) (by
        have : ∀ d, RelV g d v → RelT g (fun _ => 0) (mkEnv 0 args) d v := fun d h => RelT.of h
        exact this _ hv) (hmk rfl) (fun t ht => by rw [ha.size]; exact hn t ht)
      rw [hdt] at this ⊢
      exact this
    obtain ⟨g1, w1, B1, a1, t1, k1, k2, k3, k4, k5⟩ := code_ok (b := b) (cs := { c0 with mode := u' } :: cs) (k := []) hm hO y hy hac (ha1.restrict live)
    obtain ⟨w2, uu, n1, n2, n4, n5, n6, n7⟩ := out_ok (b := b) (cs := { c0 with mode := u' } :: cs) (fr := b) (w := w) hro k4 hx1 k2 _ k1
    have huu : uu = .returning := by
      cases x with
      | exit id => exact absurd rfl (hx1 id)
      | thr d => exact absurd rfl (hx2 d)
      | normal => exact n2
      | ret => exact n2
    subst huu
    obtain ⟨rv, hv1, hv2⟩ := results_ok (P := P) n4 n6 hress hres
    obtain ⟨i3, l3⟩ := n6.pop k2.low
    have hgo : Goes σ σ2 := goes_pop k5 rfl l3
    refine ⟨rv, u', w2, { b.atR a1 t1 with mode := .returning, defers := b.defers }, g1.cut σ2.length, hgo, hset, n5.cut (fun l i L h => by rw [hgo.len]; exact hi.lvl h), i3, ?_, hbk, ⟨rfl, hbdf, F, ?_, hv1⟩⟩
    · rw [hfr]
      refine .head stepR_seq (.head stepR_region ?_)
      rw [hsize]
      exact .head hstep (.head (stepR_region_end (ops := ops)) n1)
    · show P.funcs[b.fn]? = some F
      rw [hbf]; exact hF
  refine ⟨hin, fun base g w vs u hi hl hp hr hfa => ⟨?_, fun c0 cs hmode => ?_⟩⟩
  · obtain ⟨_, _, _, _, _, hgo, _⟩ := walk base g w vs u hi hl hp hr hfa { (default : Frame) with mode := u } [] rfl
    exact hgo
  · obtain ⟨v, u', w', fr, g', hgo, hset, he, hi', hs, hk, hg⟩ := walk base g w vs u hi hl hp hr hfa c0 cs hmode
    exact ⟨.returned v, u', w', fr, ⟨v, g', rfl, hset, he, hi'⟩, hs, hk, hg⟩
end
end Go.Abs
