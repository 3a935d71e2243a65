/-
  What a tick may bring.
-/
import Derived.Test.YtehandllpmlcoaaGreatQ12
set_option linter.unusedVariables false
set_option linter.unusedSimpArgs false
namespace Go.Proofs.YtehandllpmlcoaaGreat
open Go Go.Abs Go.Rock
variable {σ : Stack}

theorem C_ymass {x : Rock.Blk} : lim T (.call false i_rock_Yield_mass [.agg x.enc] σ) = some (.val (.int .i64 x.m) σ) := by
  refine call_of T_rock_Yield_mass e_rock_Yield_mass rfl ?_
  simp [-List.length_flatMap, -List.map_take, eF]
theorem C_yheat {x : Rock.Blk} : lim T (.call false i_rock_Ahead_1 [.agg x.enc] σ) = some (.val (.int .i64 x.h) σ) := by
  refine call_of T_rock_Ahead_1 e_rock_Ahead_1 rfl ?_
  simp [-List.length_flatMap, -List.map_take, eF]
theorem C_ystain {x : Rock.Blk} : lim T (.call false i_rock_Yield_stain [.agg x.enc] σ) = some (.val (.int .i64 x.k) σ) := by
  refine call_of T_rock_Yield_stain e_rock_Yield_stain rfl ?_
  simp [-List.length_flatMap, -List.map_take, eF]
theorem C_same {n : Int} : lim T (.call false i_rock_Ahead_2 [.int .i64 n] σ) = some (.val (.int .i64 n) σ) := by
  refine call_of T_rock_Ahead_2 e_rock_Ahead_2 rfl ?_
  simp [-List.length_flatMap, -List.map_take, eF]
theorem L_spanI {l : List Int} (hl : l.length ≤ 1000) : ∀ (k i : Nat) (r : Int × Int), i + k = l.length →
    WL T [1, 4, 5, 19, 20, 21] false f_rock_span_int_l7 [(1, .fn i_rock_Ahead_2 [] []), (4, .own 0 [.int .i64 0, .int .i64 0]), (5, .own 0 (spanE r)), (19, .lst l.length (l.flatMap intE)), (20, .int .i64 l.length), (21, .int .i64 i)] σ
      (fun x e σ' => x = .exit 0 ∧ get e 4 = .own 0 [.int .i64 0, .int .i64 0] ∧ get e 5 = .own 0 (spanE ((l.drop i).foldl (fun r y => (min r.1 y, max r.2 y)) r)) ∧ σ' = σ)
  | 0, i, r, hi => by
    refine WL_step e_rock_span_int_l7 ?_
    obtain rfl : i = l.length := by omega
    have h2 : l.drop l.length = [] := List.drop_eq_nil_of_le (by omega)
    simp [-List.length_flatMap, -List.map_take, eF, h2, spanE]
  | k + 1, i, r, hi => by
    refine WL_step e_rock_span_int_l7 ?_
    have h1 : i < l.length := by omega
    obtain ⟨x, hx⟩ : ∃ x, l[i]? = some x := ⟨_, List.getElem?_eq_getElem h1⟩
    have h2 := intE_at hx
    have h4 := wnext h1 (by omega)
    have h5 := drop_at hx
    rw [h5, List.foldl_cons]
    have ih := L_spanI (l := l) hl k (i + 1) (min r.1 x, max r.2 x) (by omega)
    simp only [spanE] at ih ⊢
    simp [-List.length_flatMap, -List.map_take, eF, h1, h2, h4, C_same]
    exact WL.to ih (by simp) rfl fun x e σ hh => hh
theorem C_spanI {l : List Int} (hne : l ≠ []) (hl : l.length ≤ 1000) :
    lim T (.call false i_rock_span_int [.lst l.length (l.flatMap intE), .fn i_rock_Ahead_2 [] []] σ) = some (.val (.agg (spanE (spanB id l))) σ) := by
  refine call_of T_rock_span_int e_rock_span_int rfl ?_
  obtain ⟨y, t, rfl⟩ : ∃ y t, l = y :: t := by
    cases l with
    | nil => exact absurd rfl hne
    | cons y t => exact ⟨y, t, rfl⟩
  have hlt : 0 < (y :: t).length := by simp
  have h2 : (((y :: t).flatMap intE).take 1) = [.int .i64 y] := by simp
  generalize hL : y :: t = L at *
  have hlt' : (0 : Int) < L.length := by omega
  simp [-List.length_flatMap, -List.map_take, eF, hlt, hlt', h2, C_same]
  refine WL.to (L_spanI (σ := [] :: σ) hl L.length 0 (y, y) (by omega)) (by simp [spanE]) (by simp) ?_
  rintro x e σ' ⟨rfl, g4, g5, rfl⟩
  have hs : spanB id L = L.foldl (fun r y => (min r.1 y, max r.2 y)) (y, y) := by rw [← hL]; rfl
  rw [hs]
  simp only [List.drop_zero, spanE] at g5 ⊢
  simp [-List.length_flatMap, -List.map_take, eF, g4, g5]

/-! ### What the runs say -/
def rowAt (l : List (List Rock.Blk)) (t : Nat) : List Rock.Blk := (l[t]?).getD []
def ysL (rs : List RunT) (t w : Nat) : List Rock.Blk := rs.map fun r => blkAt (rowAt r.2 t) w
def prL (b : Bed) (l : List Mdl) (rs : List RunT) (t i : Nat) : List Int := List.zipWith (fun m r => pressure b m (rowAt r.1 (t + 1)) i) l rs
def bndE (rs : List RunT) (t w : Nat) : List D := spanE (spanB Blk.m (ysL rs t w)) ++ (spanE (spanB Blk.h (ysL rs t w)) ++ spanE (spanB Blk.k (ysL rs t w)))
def prE (b : Bed) (l : List Mdl) (rs : List RunT) (t i : Nat) : List D := spanE (spanB id (prL b l rs t i))
def foreE (b : Bed) (l : List Mdl) (rs : List RunT) (t : Nat) : List D := [.lst b.wells.length ((List.range b.wells.length).flatMap (bndE rs t)), .lst b.n ((List.range b.n).flatMap (prE b l rs t))]
structure Rs (b : Bed) (l : List Mdl) (n : Nat) (rs : List RunT) : Prop where
  len : rs.length = l.length
  ne : 1 ≤ l.length ∧ l.length ≤ 4
  n6 : n ≤ 6
  wells : b.wells.length ≤ 8
  bn : 1 ≤ b.n ∧ b.n ≤ 64
  all : ∀ r ∈ rs, Run b n r.1 r.2
  fv : ∀ m ∈ l, Fv b m
theorem row_y {b : Bed} {n : Nat} {r : RunT} (h : Run b n r.1 r.2) {t : Nat} (ht : t < n) : r.2[t]? = some (rowAt r.2 t) ∧ Yv b (rowAt r.2 t) := by
  have h1 : t < r.2.length := by rw [h.yl]; exact ht
  have h2 : r.2[t]? = some r.2[t] := List.getElem?_eq_getElem h1
  have h3 : rowAt r.2 t = r.2[t] := by simp [rowAt, h2]
  rw [h3]
  exact ⟨h2, h.yv _ (List.getElem_mem h1)⟩
theorem row_s {b : Bed} {n : Nat} {r : RunT} (h : Run b n r.1 r.2) {t : Nat} (ht : t ≤ n) : r.1[t]? = some (rowAt r.1 t) ∧ Sv b (rowAt r.1 t) := by
  have h1 : t < r.1.length := by rw [h.sl]; omega
  have h2 : r.1[t]? = some r.1[t] := List.getElem?_eq_getElem h1
  have h3 : rowAt r.1 t = r.1[t] := by simp [rowAt, h2]
  rw [h3]
  exact ⟨h2, h.sv _ (List.getElem_mem h1)⟩
theorem yv_at {b : Bed} {y : List Rock.Blk} (h : Yv b y) {w : Nat} (hw : w < b.wells.length) : y[w]? = some (blkAt y w) := by
  have h1 : w < y.length := by rw [h.len]; exact hw
  simp [blkAt, List.getElem?_eq_getElem h1]
theorem stL_at {l : List (List Rock.Blk)} {t : Nat} {s : List Rock.Blk} (h : l[t]? = some s) : ((l.flatMap stL).drop t).take 1 = [.lst s.length (s.flatMap Blk.enc)] := by
  have := flat_at (f := stL) (w := 1) (fun _ => rfl) h
  simpa [stL] using this
theorem runE_at {l : List RunT} {j : Nat} {r : RunT} (h : l[j]? = some r) : ((l.flatMap runE).drop (j * 2)).take 2 = [.lst r.1.length (r.1.flatMap stL), .lst r.2.length (r.2.flatMap stL)] :=
  flat_at (f := runE) (w := 2) (fun _ => rfl) h
theorem L_ys {b : Bed} {l : List Mdl} {n : Nat} {rs : List RunT} (h : Rs b l n rs) {t w L6 L7 L11 j v : Nat} (ht : t < n) (hw : w < b.wells.length) : ∀ (k i : Nat), i + k = rs.length →
    WL T [1, 3, 6, 7, 9, 10, 11, 12, 13, 32, 33, 38, 39, 42, 43, 44] false f_rock_Ahead_l19 [(1, .lst l.length (l.flatMap Mdl.enc)), (3, .cref [.int .i64 b.f.x, .int .i64 b.f.y, .int .i64 b.f.z, .int .i64 b.f.k, .lst b.tab.length (b.tab.flatMap Rw.enc), .int .i64 b.stiff, .int .i64 b.lift, .int .i64 b.deep, .lst b.wells.length (b.wells.flatMap Bore.enc)]), (6, .sl L6 0 t 0 t 2), (7, .ref L7 1 0 0), (9, .lst rs.length (rs.flatMap runE)), (10, .int .i64 t), (11, .own 0 [.sl L11 0 j 0 j 6, .sl L11 1 0 0 0 2]), (12, .int .i64 w), (13, .sl σ.length 0 i 0 i 3), (32, .int .i64 n), (33, .int .i64 t), (38, .int .i64 b.wells.length), (39, .int .i64 w), (42, .lst rs.length (rs.flatMap runE)), (43, .int .i64 rs.length), (44, .int .i64 i)]
      ([.cells i (((ysL rs t w).take i).flatMap Blk.enc)] :: σ)
      (fun x e σ' => x = .exit 4 ∧ e = [(1, .lst l.length (l.flatMap Mdl.enc)), (3, .cref [.int .i64 b.f.x, .int .i64 b.f.y, .int .i64 b.f.z, .int .i64 b.f.k, .lst b.tab.length (b.tab.flatMap Rw.enc), .int .i64 b.stiff, .int .i64 b.lift, .int .i64 b.deep, .lst b.wells.length (b.wells.flatMap Bore.enc)]), (6, .sl L6 0 t 0 t 2), (7, .ref L7 1 0 0), (9, .lst rs.length (rs.flatMap runE)), (10, .int .i64 t), (11, .own 0 [.sl L11 0 j 0 j 6, .sl L11 1 0 0 0 2]), (12, .int .i64 w), (13, .sl σ.length 0 rs.length 0 rs.length 3), (32, .int .i64 n), (33, .int .i64 t), (38, .int .i64 b.wells.length), (39, .int .i64 w), (42, .lst rs.length (rs.flatMap runE)), (43, .int .i64 rs.length), (44, .int .i64 rs.length), (45, .bool false)] ∧
        σ' = [.cells rs.length ((ysL rs t w).flatMap Blk.enc)] :: σ)
  | 0, i, hi => by
    refine WL_step e_rock_Ahead_l19 ?_
    obtain rfl : i = rs.length := by omega
    have h3 : (ysL rs t w).take rs.length = ysL rs t w := List.take_of_length_le (by simp [ysL])
    simp [-List.length_flatMap, -List.map_take, eF, h3, cl_mdl, cl_run, cl_rw, cl_bore]
  | k + 1, i, hi => by
    refine WL_step e_rock_Ahead_l19 ?_
    have h1 : i < rs.length := by omega
    obtain ⟨r, hr⟩ : ∃ r, rs[i]? = some r := ⟨_, List.getElem?_eq_getElem h1⟩
    have hlen := h.len; have hne := h.ne; have hn6 := h.n6; have hw8 := h.wells
    have hR := h.all r (List.mem_of_getElem? hr)
    obtain ⟨y1, y2⟩ := row_y hR ht
    have y3 := yv_at y2 hw
    have h2 := runE_at hr
    have h3 := stL_at y1
    have h6 := flat_at (f := Blk.enc) (w := 3) (fun _ => rfl) y3
    have h4 := wnext h1 (by omega)
    have hx : (ysL rs t w)[i]? = some (blkAt (rowAt r.2 t) w) := by simp [ysL, hr]
    have ylen : (ysL rs t w).length = rs.length := by simp [ysL]
    have a3 := flat_snoc (f := Blk.enc) hx
    have a4 := blk_len ((ysL rs t w).take i)
    rw [List.length_take, ylen, Nat.min_eq_left (by omega)] at a4
    have a6 : (((ysL rs t w).take i).flatMap Blk.enc).take (i * 3) = ((ysL rs t w).take i).flatMap Blk.enc := List.take_of_length_le (by omega)
    have h7 : (i + 1) * 24 ≤ room := by unfold room; omega
    have ih := L_ys h (L6 := L6) (L7 := L7) (L11 := L11) (j := j) (v := v) ht hw k (i + 1) (by omega)
    have hyl := hR.yl
    have hyw := y2.len
    have ht' : t < r.2.length := by omega
    have hw' : w < (rowAt r.2 t).length := by omega
    generalize rowAt r.2 t = y at *
    generalize blkAt y w = z at *
    simp [-List.length_flatMap, -List.map_take, eF, h1, h2, h3, h4, h6, a4, a6, h7, ht', hw', cl_mdl, cl_run, cl_rw, cl_bore, cl_st, D.clean]
    exact WL.to ih (by simp) (by simp [← a3]) fun x e σ hh => hh
end Go.Proofs.YtehandllpmlcoaaGreat
