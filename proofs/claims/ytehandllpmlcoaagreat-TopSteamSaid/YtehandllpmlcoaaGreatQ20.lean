/-
  TopSteam.
-/
import Derived.Test.YtehandllpmlcoaaGreatQ19
import Derived.Test.YtehandllpmlcoaaGreatTremTyK
set_option linter.unusedVariables false
set_option linter.unusedSimpArgs false
namespace Go.Proofs.YtehandllpmlcoaaGreat
open Go Go.Abs Go.Rock
variable {σ : Stack}

theorem intE_of {ds : List D} (h : (Ty.int .i64).has ds) : ∃ x : Int, ds = intE x ∧ True := by
  obtain ⟨n, rfl, hw⟩ := h
  exact ⟨n, rfl, trivial⟩
theorem inL_of {ds : List D} (h : (Ty.slice 1 (.int .i64)).has ds) : ∃ r : List Int, ds = inL r ∧ r.length ≤ maxLen := by
  obtain ⟨d, rfl⟩ := slice_one h
  obtain ⟨l, rfl, hl, _⟩ := rows_of (fun ds h => intE_of h) h
  exact ⟨l, rfl, hl⟩
theorem rw_of {ds : List D} (h : (Ty.struct [.int .i64, .int .i64, .int .i64, .int .i64, .int .i64]).has ds) : ∃ x : Rw, ds = x.enc ∧ True := by
  obtain ⟨_, _, rfl, ⟨a, rfl, _⟩, _, _, rfl, ⟨b, rfl, _⟩, _, _, rfl, ⟨c, rfl, _⟩, _, _, rfl, ⟨d, rfl, _⟩, _, _, rfl, ⟨e, rfl, _⟩, rfl⟩ := h
  exact ⟨⟨a, b, c, d, e⟩, rfl, trivial⟩
theorem bore_of {ds : List D} (h : (Ty.struct [.int .i64, .int .i64, .int .i64]).has ds) : ∃ x : Bore, ds = x.enc ∧ True := by
  obtain ⟨_, _, rfl, ⟨a, rfl, _⟩, _, _, rfl, ⟨b, rfl, _⟩, _, _, rfl, ⟨c, rfl, _⟩, rfl⟩ := h
  exact ⟨⟨a, b, c⟩, rfl, trivial⟩
theorem mdl_of {ds : List D} (h : (Ty.struct [.str, .slice 1 (.int .i64)]).has ds) : ∃ x : Mdl, ds = x.enc ∧ (x.name.length ≤ maxLen ∧ x.vals.length ≤ maxLen) := by
  obtain ⟨_, _, rfl, ⟨a, rfl, h1⟩, _, _, rfl, h2, rfl⟩ := h
  obtain ⟨r, rfl, h3⟩ := inL_of h2
  exact ⟨⟨a, r⟩, rfl, h1, h3⟩
theorem fld_of {ds : List D} (h : (Ty.struct [.int .i64, .int .i64, .int .i64, .int .i64]).has ds) : ∃ x : Fld, ds = x.enc := by
  obtain ⟨_, _, rfl, ⟨a, rfl, _⟩, _, _, rfl, ⟨b, rfl, _⟩, _, _, rfl, ⟨c, rfl, _⟩, _, _, rfl, ⟨d, rfl, _⟩, rfl⟩ := h
  exact ⟨⟨a, b, c, d⟩, rfl⟩
theorem bed_of {d : D} (h : (Ty.struct [.struct [.int .i64, .int .i64, .int .i64, .int .i64], .slice 5 (.struct [.int .i64, .int .i64, .int .i64, .int .i64, .int .i64]), .int .i64, .int .i64, .int .i64, .slice 3 (.struct [.int .i64, .int .i64, .int .i64])]).hasV d) :
    ∃ b : Bed, d = .agg [.int .i64 b.f.x, .int .i64 b.f.y, .int .i64 b.f.z, .int .i64 b.f.k, .lst b.tab.length (b.tab.flatMap Rw.enc), .int .i64 b.stiff, .int .i64 b.lift, .int .i64 b.deep, .lst b.wells.length (b.wells.flatMap Bore.enc)] ∧ b.tab.length ≤ maxLen ∧ b.wells.length ≤ maxLen := by
  obtain ⟨ds, rfl, h⟩ := h
  obtain ⟨_, _, rfl, hf, _, _, rfl, ht, _, _, rfl, ⟨s, rfl, _⟩, _, _, rfl, ⟨u, rfl, _⟩, _, _, rfl, ⟨v, rfl, _⟩, _, _, rfl, hw, rfl⟩ := h
  obtain ⟨f, rfl⟩ := fld_of hf
  obtain ⟨d1, rfl⟩ := slice_one ht
  obtain ⟨d2, rfl⟩ := slice_one hw
  obtain ⟨t, rfl, hl1, _⟩ := rows_of (fun ds h => rw_of h) ht
  obtain ⟨w, rfl, hl2, _⟩ := rows_of (fun ds h => bore_of h) hw
  exact ⟨⟨f, t, s, u, v, w⟩, rfl, hl1, hl2⟩
theorem go_TopSteam (x0 x1 x2 x3 : D) (t0 : (Ty.struct [.struct [.int .i64, .int .i64, .int .i64, .int .i64], .slice 5 (.struct [.int .i64, .int .i64, .int .i64, .int .i64, .int .i64]), .int .i64, .int .i64, .int .i64, .slice 3 (.struct [.int .i64, .int .i64, .int .i64])]).hasV x0) (t1 : (Ty.slice 2 (.struct [.str, .slice 1 (.int .i64)])).hasV x1) (t2 : (Ty.slice 1 (.slice 1 (.int .i64))).hasV x2) (t3 : (Ty.int .u8).hasV x3) :
    ∃ σ', lim T (.call false i_top_TopSteam [x0, x1, x2, x3] [[]]) = some (.val (.bool true) σ') := by
  obtain ⟨b, rfl, hb1, hb2⟩ := bed_of t0
  obtain ⟨l, rfl, hl, hs⟩ := rows_of (fun ds h => mdl_of h) t1
  obtain ⟨p, rfl, hp, hr⟩ := rows_of (fun ds h => inL_of h) t2
  obtain ⟨k, rfl, hk⟩ := u8_of t3
  have hm : maxLen ≤ 9223372036854775807 := by decide
  have := law_Steam (b := b) (l := l) (plan := p) (k := k.toNat) (by omega) (by omega) (by omega) (fun m h => ⟨by have := (hs m h).1; omega, by have := (hs m h).2; omega⟩) (by omega) (by omega) (fun r h => by have := hr r h; omega)
  rw [Int.toNat_of_nonneg hk.1] at this
  exact ⟨_, this⟩
end Go.Proofs.YtehandllpmlcoaaGreat
