/-
  A function's results; its way out.
-/
import Derived.Test.YticpenoicajakaaAbsCode
set_option linter.unusedVariables false
set_option linter.unusedSimpArgs false
namespace Go.Abs
open Go

section
variable {P : Program} {CR : CRel} {base fb : Nat} {V : List Nat} {g : G} {σ σ' : Stack} {w : World} {B : Nat → Nat} {e : Env} {tmps : Array Value} {d : D}

theorem load_run {t : TypeId} {ag : Bool} {sz : Nat} {b o : Nat} {vs : List Value} {cs : List D} (hag : aggC P t = some ag) (hsz : sizeC P t = some sz) (hone : (ag || sz == 1) = true) (hpos : 0 < sz)
    (hrd : Rd w b o vs) (hrl : RelL g cs vs) (h1 : ∀ x ∈ vs, x.oneCell' = true)
    (h : (if sz ≤ cs.length then if ag then some (D.agg (cs.take sz), σ) else match (generalizing := false) cs with | d :: _ => some (d, σ) | [] => none else none) = some (d, σ')) :
    ∃ v, (loadVar t ⟨b, o, none⟩).run P w = .ok v w ∧ RelV g d v := by
  split at h
  case isFalse => cases h
  rename_i hlen
  obtain ⟨v, hv, hv2⟩ := run_loadVar hag hsz hone hrd (by rw [← hrl.length]; exact hlen)
  cases ag with
  | true =>
    simp only [if_true, Option.some.injEq, Prod.mk.injEq] at h
    obtain ⟨rfl, rfl⟩ := h
    simp only [if_true] at hv2; subst hv2
    exact ⟨_, hv, .agg _ _ (by simpa using hrl.take sz) fun y hy => h1 y (List.mem_of_mem_take (by simpa using hy))⟩
  | false =>
    simp only [Bool.false_eq_true, if_false] at h hv2
    obtain ⟨y, r, rfl, rfl⟩ := hv2
    cases cs with
    | nil => simp at hlen; omega
    | cons d0 cs =>
      simp only [Option.some.injEq, Prod.mk.injEq] at h
      obtain ⟨rfl, rfl⟩ := h
      cases hrl with
      | cons _ _ _ _ ha hb => exact ⟨_, hv, ha⟩

def resV (tmps : Array Value) : ResultVar → Sem Value
  | .tmp t => pure (tmps.getD t Go.undef)
  | .cell a t => do loadVar t (← asAddr (tmps.getD a Go.undef))

theorem results_eq (F : Func) : results F tmps = (do
    let vs ← F.results.mapM (resV tmps)
    pure (if h : vs.size = 1 then vs[0] else .tuple vs)) := rfl

/-- One result. -/
theorem res_ok (hf : Fr fb V g w B e tmps) (hi : Inv CR base g σ w) {ann : Ann} {r : ResultVar} {R : Res} (hR : resC P ann r = some R) (h : resD e σ R = some d) :
    ∃ v, (resV tmps r).run P w = .ok v w ∧ RelV g d v := by
  cases r with
  | tmp t =>
    simp only [resC, Option.some.injEq] at hR; subst hR
    simp only [resD, Option.some.injEq] at h; subst h
    exact ⟨_, rfl, hf.strip t⟩
  | cell x t =>
    simp only [resC] at hR
    split at hR
    case h_2 => cases hR
    rename_i ag sz hag hsz
    simp only [Option.ite_none_right_eq_some, Bool.and_eq_true, decide_eq_true_eq] at hR
    obtain ⟨⟨hone, hpos⟩, hR⟩ := hR
    by_cases hc : ann.ownv.contains x = true
    · rw [if_pos hc] at hR
      cases hR
      simp only [resD, Option.map_eq_some_iff, Prod.exists] at h
      obtain ⟨d', σ', h, rfl⟩ := h
      simp only [sop] at h
      split at h
      case h_2 => cases h
      rename_i s cs off hin
      obtain ⟨hg, hp⟩ := hf.inVar hin
      obtain ⟨_, _, hob⟩ := hf.own x s cs hg
      obtain ⟨ca, el, hheap, hrl, h1⟩ := hob.blk
      have hrd : Rd w (B x) off (ca.toList.drop off) := by
        have : Rd w (B x) 0 ca.toList := fun j y ey => by simp only [World.cell?, hheap]; simpa using ey
        simpa using this.drop off
      obtain ⟨v, h2, h3⟩ := load_run hag hsz hone hpos hrd (hrl.drop off) (fun y hy => h1 y (List.mem_of_mem_drop hy)) h
      exact ⟨v, by simp only [resV, hp]; simpa [asAddr] using h2, h3⟩
    · rw [if_neg hc] at hR
      cases hR
      simp only [resD, Option.map_eq_some_iff, Prod.exists] at h
      obtain ⟨d', σ', h, rfl⟩ := h
      simp only [sop] at h
      split at h
      case h_2 => cases h
      rename_i cs hcs
      rcases addr_of hi (hf.strip x) hcs with rfl | ⟨b, off, vs, hcv, hrd, hrl, h1⟩
      · simp at h; omega
      · obtain ⟨v, h2, h3⟩ := load_run hag hsz hone hpos hrd hrl h1 h
        exact ⟨v, by simp only [resV, hcv]; simpa [asAddr] using h2, h3⟩

theorem ress_ok (hf : Fr fb V g w B e tmps) (hi : Inv CR base g σ w) {ann : Ann} : ∀ {rs : List ResultVar} {Rs : List Res} {ds : List D}, ressC P ann rs = some Rs → resL e σ Rs = some ds →
    ∃ vs, (rs.mapM (resV tmps)).run P w = .ok vs w ∧ RelL g ds vs
  | [], Rs, ds, h1, h2 => by
    simp only [ressC, Option.some.injEq] at h1; subst h1
    simp only [resL, Option.some.injEq] at h2; subst h2
    exact ⟨[], by simp, .nil⟩
  | r :: rs, Rs, ds, h1, h2 => by
    simp only [ressC] at h1
    split at h1
    case h_2 => cases h1
    rename_i R Rs' k1 k2
    cases h1
    simp only [resL, Option.bind_eq_some_iff, Option.map_eq_some_iff] at h2
    obtain ⟨d, h3, ds', h4, rfl⟩ := h2
    obtain ⟨v, h5, h6⟩ := res_ok hf hi k1 h3
    obtain ⟨vs, h7, h8⟩ := ress_ok hf hi k2 h4
    exact ⟨v :: vs, by simp only [List.mapM_cons, Sem.run_bind, h5, Result.andThen_ok, h7, Sem.run_pure], .cons _ _ _ _ h6 h8⟩

theorem results_ok (hf : Fr fb V g w B e tmps) (hi : Inv CR base g σ w) {ann : Ann} {F : Func} {Rs : List Res} {ds : List D} (h1 : ressC P ann F.results.toList = some Rs) (h2 : resL e σ Rs = some ds) :
    ∃ v, (results F tmps).run P w = .ok v w ∧ RelV g (mkRes ds) v := by
  obtain ⟨vs, h3, h4⟩ := ress_ok (tmps := tmps) hf hi h1 h2
  have hrun : ∀ v, (if h : vs.toArray.size = 1 then vs.toArray[0] else Value.tuple vs.toArray) = v → (results F tmps).run P w = .ok v w := by
    intro v hv
    subst hv
    rw [results_eq]
    simp only [Sem.run_bind, Array.mapM_eq_mapM_toList, Sem.run_map, h3, Result.andThen_ok, Sem.run_pure]
  cases h4 with
  | nil => exact ⟨_, hrun _ rfl, by simpa [mkRes] using RelV.tup (g := g) [] #[] .nil⟩
  | cons d c ds' cs' k1 k2 =>
    cases k2 with
    | nil => exact ⟨c, hrun _ (by simp), by simpa [mkRes] using k1⟩
    | cons d2 c2 ds2 cs2 k3 k4 => exact ⟨_, hrun _ rfl, by simpa [mkRes] using RelV.tup (g := g) _ (c :: c2 :: cs2).toArray (.cons _ _ _ _ k1 (.cons _ _ _ _ k3 k4))⟩
end

section
variable {P : Program} {CR : CRel} {base n : Nat} {V : List Nat} {g0 g : G} {w0 w : World} {b : Frame} {B : Nat → Nat} {e : Env} {σ : Stack} {a : Act}

/-- The marks of a frame on its way out are taken. -/
theorem unmark : ∀ (rs : List Nat) (w : World) (g : G) (a : Act) (fr : Frame) (cs : List Frame), fr.mode = .returning → fr.defers = rs.map mark → rs.Nodup → (∀ r ∈ rs, MarkB w0.heap.size g w r) →
    Fr w0.heap.size V g w B e a.tmps → Ev g0 w0 g w → Inv CR base g σ w →
    ∃ w', Steps P (lone fr cs w) (lone { fr with defers := [] } cs w') ∧ Fr w0.heap.size V g w' B e a.tmps ∧ Ev g0 w0 g w' ∧ Inv CR base g σ w'
  | [], w, g, a, fr, cs, hm, hd, hn, hall, hf, he, hi => by
    refine ⟨w, ?_, hf, he, hi⟩
    have : { fr with defers := [] } = fr := by cases fr; simp only [List.map_nil] at hd; subst hd; rfl
    rw [this]
    exact .refl _ _
  | r :: rs, w, g, a, fr, cs, hm, hd, hn, hall, hf, he, hi => by
    have hr := hall r (by simp)
    have htake := run_takeDeferred (P := P) hr.blk
    have hstep := step_collected (P := P) (cs := cs) (d := mark r) (ds := rs.map mark) (by rw [hm]; simp) (by rw [hd]; rfl) rfl htake
    have hoth : ∀ b', b' ≠ r → (w.putObj r (.deferred none)).heap[b']? = w.heap[b']? := fun b' hne => World.putObj_heap_other hne
    have hi' : Inv CR base g σ (w.putObj r (.deferred none)) := hi.foreign (fun b' _ hk => hoth b' fun hh => by
      subst hh
      rcases hk with hk | ⟨o, v, hk⟩
      · exact hr.free hk
      · rw [hr.noimm] at hk; cases hk) (by simp)
    have he' : Ev g0 w0 g (w.putObj r (.deferred none)) :=
      ⟨he.le, he.os, he.tape, he.output, by simpa using he.size, fun b' hb' hnb => by rw [hoth b' (by have := hr.lo; omega)]; exact he.kept b' hb' hnb, he.img, he.immN⟩
    have hf' : Fr w0.heap.size V g (w.putObj r (.deferred none)) B e a.tmps := ⟨hf.rel, fun t s cs' ht => by
      obtain ⟨h1, h2, h3⟩ := hf.own t s cs' ht
      obtain ⟨c, el, hb, hrl, h5⟩ := h3.blk
      refine ⟨h1, h2, h3.lo, h3.free, h3.noimm, c, el, ?_, hrl, h5⟩
      rw [hoth (B t) (fun hh => by rw [hh, hr.blk] at hb; cases hb)]; exact hb, hf.inj⟩
    rw [List.nodup_cons] at hn
    obtain ⟨w', h1, h2, h3, h4⟩ := unmark rs (w.putObj r (.deferred none)) g a { fr with defers := rs.map mark } cs hm rfl hn.2 (fun r' hr' => by
      have hm' := hall r' (by simp [hr'])
      refine ⟨hm'.lo, hm'.free, hm'.noimm, ?_⟩
      rw [hoth r' (fun hh => hn.1 (hh ▸ hr'))]; exact hm'.blk) hf' he' hi'
    refine ⟨w', .head ?_ h1, h2, h3, h4⟩
    rw [hstep]
    rfl
end
end Go.Abs
