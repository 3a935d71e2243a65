/-
  Arguments of layer 9: what can be read as data of their types is a point, a network, a list of picks.
-/
import Derived.Test.YticpenoicajakaaGreatBase2
import Derived.Test.YticpenoicajakaaGreatTremSpec
set_option linter.unusedVariables false
set_option linter.unusedSimpArgs false
namespace Go.Abs
open Go

theorem rows_of {α : Type} {T : Ty} {w : Nat} {f : α → List D} {Q : α → Prop} (h : ∀ ds, T.has ds → ∃ a, ds = f a ∧ Q a) {d : D} (hd : (Ty.slice w T).has [d]) :
    ∃ l : List α, d = .lst l.length (l.flatMap f) ∧ l.length ≤ maxLen ∧ ∀ a ∈ l, Q a := by
  simp only [Ty.has, List.cons.injEq, and_true] at hd
  obtain ⟨xs, rfl, hl, hx⟩ := hd
  have key : ∀ xs : List (List D), (∀ x ∈ xs, x.length = w ∧ T.has x) → ∃ l : List α, xs.flatten = l.flatMap f ∧ l.length = xs.length ∧ ∀ a ∈ l, Q a := by
    intro xs
    induction xs with
    | nil => intro _; exact ⟨[], rfl, rfl, by simp⟩
    | cons x xs ih =>
      intro hx
      obtain ⟨l, h1, h2, h3⟩ := ih fun y hy => hx y (by simp [hy])
      obtain ⟨a, rfl, ha⟩ := h x (hx x (by simp)).2
      exact ⟨a :: l, by simp [h1], by simp [h2], fun b hb => by
        rcases List.mem_cons.1 hb with rfl | hb
        · exact ha
        · exact h3 b hb⟩
  obtain ⟨l, h1, h2, h3⟩ := key xs hx
  exact ⟨l, by rw [h1, h2], by omega, h3⟩

theorem wf_i64 {n : Int} (h : (Lit.int .i64 n).wf = true) : -9223372036854775808 ≤ n ∧ n ≤ 9223372036854775807 := by
  simp only [Lit.wf, Bool.and_eq_true, decide_eq_true_eq] at h
  exact h
theorem wf_u8 {n : Int} (h : (Lit.int .u8 n).wf = true) : 0 ≤ n ∧ n ≤ 255 := by
  simp only [Lit.wf, Bool.and_eq_true, decide_eq_true_eq] at h
  exact h
theorem wf_u16 {n : Int} (h : (Lit.int .u16 n).wf = true) : 0 ≤ n ∧ n ≤ 65535 := by
  simp only [Lit.wf, Bool.and_eq_true, decide_eq_true_eq] at h
  exact h
theorem wf_u32 {n : Int} (h : (Lit.int .u32 n).wf = true) : 0 ≤ n ∧ n ≤ 4294967295 := by
  simp only [Lit.wf, Bool.and_eq_true, decide_eq_true_eq] at h
  exact h
theorem one_of' {T : Ty} {d : D} (h : T.hasV d) (hT : ∀ fs, T ≠ .struct fs) (hT' : ∀ n e, T ≠ .arr n e) : T.has [d] := by
  cases T <;> first | exact h | exact absurd rfl (hT _) | exact absurd rfl (hT' _ _)

theorem i64_of {d : D} (h : (Ty.int .i64).hasV d) : ∃ n : Int, d = .int .i64 n ∧ -9223372036854775808 ≤ n ∧ n ≤ 9223372036854775807 := by
  simp only [Ty.hasV, Ty.has, List.cons.injEq, and_true] at h
  obtain ⟨n, rfl, hw⟩ := h
  exact ⟨n, rfl, wf_i64 hw⟩
theorem u8_of {d : D} (h : (Ty.int .u8).hasV d) : ∃ n : Int, d = .int .u8 n ∧ 0 ≤ n ∧ n ≤ 255 := by
  simp only [Ty.hasV, Ty.has, List.cons.injEq, and_true] at h
  obtain ⟨n, rfl, hw⟩ := h
  exact ⟨n, rfl, wf_u8 hw⟩
theorem u16_of {d : D} (h : (Ty.int .u16).hasV d) : ∃ n : Int, d = .int .u16 n ∧ 0 ≤ n ∧ n ≤ 65535 := by
  simp only [Ty.hasV, Ty.has, List.cons.injEq, and_true] at h
  obtain ⟨n, rfl, hw⟩ := h
  exact ⟨n, rfl, wf_u16 hw⟩
theorem u32_of {d : D} (h : (Ty.int .u32).hasV d) : ∃ n : Int, d = .int .u32 n ∧ 0 ≤ n ∧ n ≤ 4294967295 := by
  simp only [Ty.hasV, Ty.has, List.cons.injEq, and_true] at h
  obtain ⟨n, rfl, hw⟩ := h
  exact ⟨n, rfl, wf_u32 hw⟩
theorem bool_of {d : D} (h : Ty.bool.hasV d) : ∃ b : Bool, d = .bool b := by
  simp only [Ty.hasV, Ty.has, List.cons.injEq, and_true] at h
  exact h
end Go.Abs
namespace Go.Trem
open Go Go.Abs

abbrev tyI : Ty := .int .i64
abbrev tyPt : Ty := .struct [tyI, tyI, tyI]
abbrev tyRg : Ty := .struct [tyI, tyI]
abbrev tyStn : Ty := .struct [tyPt, tyI]
abbrev tyNet : Ty := .struct [.slice 4 tyStn, .arr 2 tyRg, tyPt, tyPt, tyI]
abbrev tyPick : Ty := .struct [tyI, .int .u8, tyRg]
abbrev tyBet : Ty := .struct [tyI, tyI, tyI, tyI, tyI]
abbrev tyScale : Ty := .struct [.slice 1 tyI, .slice 2 tyRg]

def in64 (n : Int) : Prop := -9223372036854775808 ≤ n ∧ n ≤ 9223372036854775807

theorem pt_of {ds : List D} (h : tyPt.has ds) : ∃ p : Pt, ds = p.enc ∧ in64 p.x ∧ in64 p.y ∧ in64 p.z := by
  simp only [Ty.has, Ty.hasF] at h
  obtain ⟨_, _, rfl, ⟨x, rfl, hx⟩, _, _, rfl, ⟨y, rfl, hy⟩, _, _, rfl, ⟨z, rfl, hz⟩, rfl⟩ := h
  exact ⟨⟨x, y, z⟩, rfl, wf_i64 hx, wf_i64 hy, wf_i64 hz⟩
theorem rg_of {ds : List D} (h : tyRg.has ds) : ∃ p : Rg, ds = p.enc ∧ in64 p.lo ∧ in64 p.hi := by
  simp only [Ty.has, Ty.hasF] at h
  obtain ⟨_, _, rfl, ⟨x, rfl, hx⟩, _, _, rfl, ⟨y, rfl, hy⟩, rfl⟩ := h
  exact ⟨⟨x, y⟩, rfl, wf_i64 hx, wf_i64 hy⟩
theorem stn_of {ds : List D} (h : tyStn.has ds) : ∃ s : Stn, ds = s.enc ∧ True := by
  obtain ⟨a, b, rfl, h1, _, _, rfl, ⟨n, rfl, hn⟩, rfl⟩ := h
  obtain ⟨p, rfl, _⟩ := pt_of h1
  exact ⟨⟨p, n⟩, rfl, trivial⟩
theorem pick_of {ds : List D} (h : tyPick.has ds) : ∃ s : Pick, ds = s.enc ∧ 0 ≤ s.ph ∧ s.ph ≤ 255 := by
  obtain ⟨_, _, rfl, ⟨n, rfl, hn⟩, _, _, rfl, ⟨k, rfl, hk⟩, _, _, rfl, h1, rfl⟩ := h
  obtain ⟨p, rfl, _⟩ := rg_of h1
  exact ⟨⟨n, k, p⟩, rfl, wf_u8 hk⟩
theorem reading_of {ds : List D} (h : tyRg.has ds) : ∃ s : Reading, ds = s.enc ∧ in64 s.st ∧ in64 s.amt := by
  obtain ⟨r, rfl, h1, h2⟩ := rg_of h
  exact ⟨⟨r.lo, r.hi⟩, rfl, h1, h2⟩
theorem pair_of {ds : List D} (h : tyRg.has ds) : ∃ s : Pair, ds = s.enc ∧ in64 s.fst ∧ in64 s.thn := by
  obtain ⟨r, rfl, h1, h2⟩ := rg_of h
  exact ⟨⟨r.lo, r.hi⟩, rfl, h1, h2⟩
theorem row_of {ds : List D} (h : tyRg.has ds) : ∃ s : FarRow, ds = s.enc ∧ in64 s.far ∧ in64 s.add := by
  obtain ⟨r, rfl, h1, h2⟩ := rg_of h
  exact ⟨⟨r.lo, r.hi⟩, rfl, h1, h2⟩
theorem int_of {ds : List D} (h : tyI.has ds) : ∃ n : Int, ds = intE n ∧ in64 n := by
  obtain ⟨n, rfl, hn⟩ := h
  exact ⟨n, rfl, wf_i64 hn⟩
theorem u8e_of {ds : List D} (h : (Ty.int .u8).has ds) : ∃ n : Int, ds = u8E n ∧ 0 ≤ n ∧ n ≤ 255 := by
  obtain ⟨n, rfl, hn⟩ := h
  exact ⟨n, rfl, wf_u8 hn⟩
theorem u16e_of {ds : List D} (h : (Ty.int .u16).has ds) : ∃ n : Int, ds = u16E n ∧ 0 ≤ n ∧ n ≤ 65535 := by
  obtain ⟨n, rfl, hn⟩ := h
  exact ⟨n, rfl, wf_u16 hn⟩
theorem boole_of {ds : List D} (h : Ty.bool.has ds) : ∃ n : Bool, ds = boolE n ∧ True := by
  obtain ⟨n, rfl⟩ := h
  exact ⟨n, rfl, trivial⟩

theorem arr2_of {ds : List D} (h : (Ty.arr 2 tyRg).has ds) : ∃ a b : Rg, ds = [.int .i64 a.lo, .int .i64 a.hi, .int .i64 b.lo, .int .i64 b.hi] := by
  simp only [Ty.has] at h
  obtain ⟨xs, rfl, hl, hx⟩ := h
  match xs, hl with
  | [x, y], _ =>
    obtain ⟨a, rfl, _⟩ := rg_of (hx x (by simp)).2
    obtain ⟨b, rfl, _⟩ := rg_of (hx y (by simp)).2
    exact ⟨a, b, rfl⟩
theorem arr3_of {d : D} (h : (Ty.arr 3 tyI).hasV d) : ∃ a b c : Int, d = .agg [.int .i64 a, .int .i64 b, .int .i64 c] ∧ in64 a ∧ in64 b ∧ in64 c := by
  simp only [Ty.hasV, Ty.has] at h
  obtain ⟨_, rfl, xs, rfl, hl, hx⟩ := h
  match xs, hl with
  | [x, y, z], _ =>
    obtain ⟨a, rfl, ha⟩ := (hx x (by simp)).2
    obtain ⟨b, rfl, hb⟩ := (hx y (by simp)).2
    obtain ⟨c, rfl, hc⟩ := (hx z (by simp)).2
    exact ⟨a, b, c, rfl, wf_i64 ha, wf_i64 hb, wf_i64 hc⟩

theorem slice_one {w : Nat} {e : Ty} {ds : List D} (h : (Ty.slice w e).has ds) : ∃ d, ds = [d] := by
  simp only [Ty.has] at h
  obtain ⟨xs, rfl, _⟩ := h
  exact ⟨_, rfl⟩

theorem net_of {d : D} (h : tyNet.hasV d) : ∃ n : Net, d = .agg n.enc ∧ n.st.length ≤ maxLen := by
  obtain ⟨ds, rfl, h⟩ := h
  obtain ⟨s, _, rfl, hs, a, _, rfl, ha, p, _, rfl, hp, q, _, rfl, hq, _, _, rfl, ⟨k, rfl, hk⟩, rfl⟩ := h
  obtain ⟨d, rfl⟩ := slice_one hs
  obtain ⟨l, rfl, hl, _⟩ := rows_of (fun ds h => stn_of h) hs
  obtain ⟨r0, r1, rfl⟩ := arr2_of ha
  obtain ⟨p, rfl, _⟩ := pt_of hp
  obtain ⟨q, rfl, _⟩ := pt_of hq
  exact ⟨⟨l, r0, r1, p, q, k⟩, rfl, hl⟩
theorem pt_ofV {d : D} (h : tyPt.hasV d) : ∃ p : Pt, d = .agg p.enc ∧ in64 p.x ∧ in64 p.y ∧ in64 p.z := by
  obtain ⟨ds, rfl, h⟩ := h
  obtain ⟨p, rfl, hp⟩ := pt_of h
  exact ⟨p, rfl, hp⟩
theorem bet_of {d : D} (h : tyBet.hasV d) : ∃ b : Bet, d = .agg b.enc ∧ in64 b.num ∧ in64 b.den ∧ in64 b.a ∧ in64 b.b ∧ in64 b.odds := by
  obtain ⟨ds, rfl, h⟩ := h
  obtain ⟨_, _, rfl, ⟨n1, rfl, h1⟩, _, _, rfl, ⟨n2, rfl, h2⟩, _, _, rfl, ⟨n3, rfl, h3⟩, _, _, rfl, ⟨n4, rfl, h4⟩, _, _, rfl, ⟨n5, rfl, h5⟩, rfl⟩ := h
  exact ⟨⟨n1, n2, n3, n4, n5⟩, rfl, wf_i64 h1, wf_i64 h2, wf_i64 h3, wf_i64 h4, wf_i64 h5⟩
theorem scale_of {d : D} (h : tyScale.hasV d) : ∃ s : Scale, d = .agg s.enc ∧ s.levels.length ≤ maxLen ∧ s.rows.length ≤ maxLen ∧ (∀ n ∈ s.levels, in64 n) ∧ ∀ r ∈ s.rows, in64 r.far ∧ in64 r.add := by
  obtain ⟨ds, rfl, h⟩ := h
  obtain ⟨a, _, rfl, ha, b, _, rfl, hb, rfl⟩ := h
  obtain ⟨d, rfl⟩ := slice_one ha
  obtain ⟨e, rfl⟩ := slice_one hb
  obtain ⟨l, rfl, hl, h1⟩ := rows_of (fun ds h => int_of h) ha
  obtain ⟨r, rfl, hr, h2⟩ := rows_of (fun ds h => row_of h) hb
  exact ⟨⟨l, r⟩, rfl, hl, hr, h1, h2⟩
end Go.Trem
