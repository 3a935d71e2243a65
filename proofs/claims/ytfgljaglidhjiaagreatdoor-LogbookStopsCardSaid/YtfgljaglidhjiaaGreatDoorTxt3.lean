/- What functions of the program answer, and what follows; part 3. -/
import Derived.Test.YtfgljaglidhjiaaGreatDoorTxt1
import Derived.Test.YtfgljaglidhjiaaGreatDoorTxt2
import Derived.Test.YtfgljaglidhjiaaGreatDoorBase4
/-
  LogbookStops.
-/
set_option linter.unusedVariables false
set_option linter.unusedSimpArgs false
namespace Go.Proofs.YtfgljaglidhjiaaGreatDoor
open Go Go.Abs Go.Book
variable {σ : Stack}

theorem str_take (l : List (List UInt8)) (k : Nat) : (l.flatMap strE).take k = (l.take k).flatMap strE := by rw [← str_map, ← str_map, List.map_take]
theorem L_long {l : List (List UInt8)} {a c : Int} (hl : l.length ≤ 30) : ∀ (m i : Nat), i + m = l.length →
    WL T [0, 1, 2, 7] false f_law12_LogbookStops_l8 [(0, .lst l.length (l.flatMap strE)), (1, .int .u16 a), (2, .int .u16 c), (7, .int .i64 i)] [[], []]
      (fun x e σ' => σ' = [[], []] ∧ if anyB (l.drop i) (fun s => decide (300 < s.length)) then x = .ret ∧ get e 6 = .bool true else x = .exit 0 ∧ get e 0 = .lst l.length (l.flatMap strE) ∧ get e 1 = .int .u16 a ∧ get e 2 = .int .u16 c)
  | 0, i, hi => by
    refine WL_step e_law12_LogbookStops_l8 ?_
    obtain rfl : i = l.length := by omega
    have h2 : l.drop l.length = [] := List.drop_eq_nil_of_le (by omega)
    simp [-List.length_flatMap, -List.map_take, eF, h2, anyB]
  | m + 1, i, hi => by
    refine WL_step e_law12_LogbookStops_l8 ?_
    have h1 : i < l.length := by omega
    obtain ⟨s, hs⟩ : ∃ s, l[i]? = some s := ⟨_, List.getElem?_eq_getElem h1⟩
    have a1 := flat_at (f := strE) (w := 1) (fun _ => rfl) hs
    simp only [strE, Nat.mul_one] at a1
    have h4 := wnext h1 (by omega)
    have hA := C_awake
    rw [drop_at hs]
    by_cases hc : 300 < s.length
    · have hc' : (300 : Int) < s.length := by omega
      simp [-List.length_flatMap, -List.map_take, eF, puD, h1, a1, hc, hc', anyB, hA]
    · have hc' : ¬ (300 : Int) < s.length := by omega
      simp [-List.length_flatMap, -List.map_take, eF, puD, h1, a1, h4, hc', anyB, hc]
      exact WL.to (L_long (a := a) (c := c) hl m (i + 1) (by omega)) (by simp) rfl fun x e σ' hh => by simpa [anyB, hc] using hh
theorem L_cut {l : List (List UInt8)} {c : Int} {cut : Nat} (hσ : σ ≠ []) (hl : l.length ≤ 30) (h3 : ∀ s ∈ l, s.length ≤ 4000) (hc : cut < (bookF l).length) : ∀ (m n : Nat), n + m = l.length → (bookF (l.take n)).length ≤ cut →
    WL T [0, 2, 8, 10, 11, 12] false f_law12_LogbookStops_l20 [(0, .lst l.length (l.flatMap strE)), (2, .int .u16 c), (8, .lst (bookF l).length ((bookF l).flatMap bE)), (10, .int .i64 cut), (11, .int .i64 n), (12, .int .i64 ((bookF (l.take n)).length : Nat))] σ
      (fun x e σ' => σ' = σ ∧ x = .exit 2 ∧ ∃ n : Nat, n < l.length ∧ (bookF (l.take n)).length ≤ cut ∧ cut < (bookF (l.take (n + 1))).length ∧ get e 0 = .lst l.length (l.flatMap strE) ∧ get e 2 = .int .u16 c ∧
        get e 8 = .lst (bookF l).length ((bookF l).flatMap bE) ∧ get e 10 = .int .i64 cut ∧ get e 11 = .int .i64 n ∧ get e 12 = .int .i64 ((bookF (l.take n)).length : Nat))
  | 0, n, hi, hb => by
    obtain rfl : n = l.length := by omega
    rw [List.take_length] at hb
    omega
  | m + 1, n, hi, hb => by
    refine WL_step e_law12_LogbookStops_l20 ?_
    have h1 : n < l.length := by omega
    have h1' : n + 1 ≤ l.length := by omega
    have u1 := wnext h1 (by omega)
    have h5 : (0 : Int) ≤ (n : Int) + 1 := by omega
    have h6 : (n : Int) + 1 ≤ (l.length : Int) := by omega
    have ht : (l.take (n + 1)).length = n + 1 := by simp; omega
    have hL := fun S hS => C_list (σ := S) (l := l.take (n + 1)) (by omega) hS
    have hW := fun S hS => C_Write (σ := S) (l := l.take (n + 1)) (by omega) hS
    have hok : okB (l.take (n + 1)) = true := okB_iff.2 ⟨by omega, fun s hs => h3 s (List.mem_of_mem_take hs)⟩
    simp only [hok, if_true] at hW
    rw [ht, ← str_take] at hL hW
    by_cases hx : cut < (bookF (l.take (n + 1))).length
    · have hx' : (cut : Int) < ((bookF (l.take (n + 1))).length : Int) := by omega
      simp [-List.length_flatMap, -List.map_take, eF, u1, h1, h1', h5, h6, hL, hW, hx, hx', hσ]
      exact ⟨n, h1, hb, hx, rfl, rfl⟩
    · have hx' : ¬ (cut : Int) < ((bookF (l.take (n + 1))).length : Int) := by omega
      simp [-List.length_flatMap, -List.map_take, eF, u1, h1, h1', h5, h6, hL, hW, hx, hx', hσ]
      have ih := L_cut (c := c) hσ hl h3 hc m (n + 1) (by omega) (by omega)
      have e1 : ((n + 1 : Nat) : Int) = (n : Int) + 1 := by omega
      rw [e1] at ih
      exact WL.to ih (by simp) rfl fun x e σ' hh => by simpa using hh
theorem any_no {l : List (List UInt8)} {k : Nat} (h : anyB l (fun s => decide (k < s.length)) = false) : ∀ s ∈ l, s.length ≤ k := fun x hx => by
  have h' : l.any (fun s => decide (k < s.length)) = false := h
  have := List.any_eq_false.1 h' x hx
  simpa using this
theorem book_ne {l : List (List UInt8)} (h : l ≠ []) : 6 ≤ (bookF l).length := by
  cases l with
  | nil => exact absurd rfl h
  | cons s l => simp [bookF, recF_len]; omega
theorem book_len : ∀ {l : List (List UInt8)} {k : Nat}, (∀ s ∈ l, s.length ≤ k) → (bookF l).length ≤ l.length * (k + 6)
  | [], k, h => by simp [bookF]
  | s :: l, k, h => by
    have h1 := book_len (l := l) (k := k) fun x hx => h x (by simp [hx])
    have h2 := h s (by simp)
    simp only [bookF, List.flatMap_cons, List.length_append, recF_len, List.length_cons] at h1 ⊢
    rw [Nat.add_mul]
    omega
theorem law_Stops {l : List (List UInt8)} {a c : Nat} (hl : l.length ≤ 9223372036854775807) (ha : a ≤ 65535) (hc : c ≤ 65535) :
    lim T (.call false i_law12_LogbookStops [.lst l.length (l.flatMap strE), .int .u16 a, .int .u16 c] [[]]) = some (.val (.bool true) [[]]) := by
  refine call_of T_law12_LogbookStops e_law12_LogbookStops rfl ?_
  have hA := C_awake
  have hD := C_awakeD
  by_cases h0 : l = []
  · subst h0
    simp [-List.length_flatMap, -List.map_take, eF, hA]
  have h0' : ¬ l.length = 0 := by simpa using h0
  by_cases h1 : l.length ≤ 30
  case neg =>
    have h1' : (30 : Int) < l.length := by omega
    simp [-List.length_flatMap, -List.map_take, eF, h0, h0', h1', hA]
  have h1' : ¬ (30 : Int) < l.length := by omega
  simp [-List.length_flatMap, -List.map_take, eF, h0, h0', h1']
  refine WL.to (L_long (a := a) (c := c) h1 l.length 0 (by omega)) (by simp) rfl ?_
  rintro x e σ' ⟨rfl, hh⟩
  rw [List.drop_zero] at hh
  cases hc3 : anyB l (fun s => decide (300 < s.length))
  case true =>
    rw [hc3, if_pos rfl] at hh
    obtain ⟨rfl, g6⟩ := hh
    simp [g6]
  rw [hc3, if_neg (by simp)] at hh
  obtain ⟨rfl, g0, g1, g2⟩ := hh
  have h3 := any_no hc3
  have h4 : ∀ s ∈ l, s.length ≤ 4000 := fun s hs => by have := h3 s hs; omega
  have hok : okB l = true := okB_iff.2 ⟨by omega, h4⟩
  have hbl := book_len h3
  have hbn := book_ne h0
  have hbL : (bookF l).length ≤ 9180 := by
    have : l.length * (300 + 6) ≤ 30 * 306 := Nat.mul_le_mul h1 (by omega)
    omega
  obtain ⟨cut, hcut⟩ : ∃ k, k = a % (bookF l).length := ⟨_, rfl⟩
  have hcl : cut < (bookF l).length := by rw [hcut]; exact Nat.mod_lt _ (by omega)
  have hL := fun S hS => C_list (σ := S) (l := l) (by omega) hS
  have hW := fun S hS => C_Write (σ := S) (l := l) (by omega) hS
  simp only [hok, if_true] at hW
  have hb0 : ¬ bookF l = [] := by intro h; rw [h] at hbn; simp at hbn
  have hb0' : ¬ (bookF l).length = 0 := by omega
  have w1 : IntKind.i64.wrap (a : Int) = a := w64 (by omega)
  have w2 : (a : Int).tmod ((bookF l).length : Int) = (cut : Int) := by rw [Int.tmod_eq_emod_of_nonneg (by omega), hcut]; omega
  have w3 : IntKind.i64.wrap (cut : Int) = cut := w64 (by omega)
  simp [-List.length_flatMap, -List.map_take, eF, g0, g1, g2, hL, hW, hb0, hb0', w1, w2, w3]
  refine WL.to (L_cut (σ := [[], []]) (c := c) (by simp) h1 h4 hcl l.length 0 (by omega) (by simp [bookF])) (by simp [bookF]) (by simp [bookF]) ?_
  rintro x e σ' ⟨rfl, rfl, n, hn, hn1, hn2, g0, g2, g8, g10, g11, g12⟩
  obtain ⟨s1, s2⟩ := stops (by omega) h4 hn hn1 hn2
  obtain ⟨x, hx⟩ : ∃ x, (bookF l)[cut]? = some x := ⟨_, List.getElem?_eq_getElem hcl⟩
  obtain ⟨d, hd⟩ : ∃ d, d = c % 255 := ⟨_, rfl⟩
  have hd2 : d ≤ 254 := by omega
  obtain ⟨v, hv⟩ : ∃ v, v = by8 ((x.toNat + (1 + d)) % 256) := ⟨_, rfl⟩
  have hxl := be_lt x
  have hvn : v.toNat = (x.toNat + (1 + d)) % 256 := by rw [hv, by8_nat (by omega)]
  have hvx : v ≠ x := by
    intro h
    rw [h] at hvn
    omega
  have s3 := s2 v x hx hvx
  have htn : (l.take n).length = n := by simp; omega
  have htc : ((bookF l).take cut).length = cut := by simp; omega
  have hR1 := fun S hS => C_Recover (σ := S) (b := (bookF l).take cut) (by omega) hS
  have hR2 := fun S hS => C_Recover (σ := S) (b := (bookF l).set cut v) (by simp; omega) hS
  have hR3 := fun S hS => C_Recover (σ := S) (b := bookF l) (by omega) hS
  have hT1 := fun S => C_texts (σ := S) (a := l.take n) (b := l.take n) (by omega)
  have hT3 := fun S => C_texts (σ := S) (a := l) (b := l) (by omega)
  rw [s1, htn, htc, ← str_take, ← be_take] at hR1
  rw [s3, htn, List.length_set, ← str_take] at hR2
  rw [recov_book (by omega) h4] at hR3
  rw [htn, ← str_take] at hT1
  have at1 := be_at hx
  have hdr := k_drop (f := bE) (w := 1) (fun _ => rfl) hx
  simp only [Nat.mul_one, bE, List.singleton_append] at hdr
  have k1 : (cut : Int) ≤ ((bookF l).length : Int) := by omega
  have k1' : cut ≤ (bookF l).length := by omega
  have k2 : (n : Int) ≤ (l.length : Int) := by omega
  have k2' : n ≤ l.length := by omega
  have r1 : cut ≤ room := by unfold room; omega
  have r2 : (bookF l).length ≤ room := by unfold room; omega
  have v1 : (c : Int).tmod 255 = (d : Int) := by rw [Int.tmod_eq_emod_of_nonneg (by omega), hd]; omega
  have v2 : IntKind.u16.wrap (1 + (d : Int)) = ((1 + d : Nat) : Int) := (IntWalk.u16_in _ (by omega)).trans (by omega)
  have v3 : IntKind.u8.wrap (1 + (d : Int)) = 1 + d := wu8 (by omega)
  have v4 : IntKind.u8.wrap ((x.toNat : Int) + (1 + d)) = (v.toNat : Int) := by
    rw [hvn]
    simp [IntKind.wrap, IntKind.signed, IntKind.bits]
  have hst := k_set (f := bE) (w := 1) (fun _ => rfl) (l := bookF l) (i := cut) (x := v) hcl
  simp only [Nat.mul_one, bE, List.singleton_append] at hst
  have hfz := k_frz (f := bE) (w := 1) (fun _ => rfl) (fun _ => by simp [bE, D.clean]) (l := (bookF l).set cut v) (j := 0) (v := 0) (bs := [.cells 0 (((bookF l).set cut v).flatMap bE)]) (σ := [[]]) (by simp) rfl
  simp only [List.length_set, List.length_cons, List.length_nil, Nat.zero_add, List.set_cons_zero] at hfz
  have hcl' : cut + 1 ≤ (bookF l).length := hcl
  have hfl := be_len (bookF l)
  simp [-List.length_flatMap, -List.map_take, eF, g0, g2, g8, g10, g11, g12, k1, k1', k2, k2', r1, r2, hR1, hR2, hR3, hT1, hT3, hb0, hb0', at1, hcl, hcl', hdr, hst, hfz, v1, v2, v3, v4, hfl, hA, hD]
end Go.Proofs.YtfgljaglidhjiaaGreatDoor

/-
  Arguments of a law's types.
-/
set_option linter.unusedVariables false
set_option linter.unusedSimpArgs false
namespace Go.Proofs.YtfgljaglidhjiaaGreatDoor
open Go Go.Abs Go.Book

theorem rows_of {α : Type} {T : Ty} {w : Nat} {f : α → List D} {Q : α → Prop} (h : ∀ ds, T.has ds → ∃ a, ds = f a ∧ Q a) {d : D} (hd : (Ty.slice w T).has [d]) :
    ∃ l : List α, d = .lst l.length (l.flatMap f) ∧ l.length ≤ maxLen ∧ ∀ a ∈ l, Q a := by
  simp only [Ty.has, List.cons.injEq, and_true] at hd
  obtain ⟨xs, rfl, hl, hx⟩ := hd
  have key : ∀ xs : List (List D), (∀ x ∈ xs, x.length = w ∧ T.has x) → ∃ l : List α, xs.flatten = l.flatMap f ∧ l.length = xs.length ∧ ∀ a ∈ l, Q a := by
    intro xs
    induction xs with
    | nil => intro _; exact ⟨[], rfl, rfl, by simp⟩
    | cons x xs ih =>
      intro hx
      obtain ⟨l, h1, h2, h3⟩ := ih fun y hy => hx y (by simp [hy])
      obtain ⟨a, rfl, ha⟩ := h x (hx x (by simp)).2
      exact ⟨a :: l, by simp [h1], by simp [h2], fun b hb => by
        rcases List.mem_cons.1 hb with rfl | hb
        · exact ha
        · exact h3 b hb⟩
  obtain ⟨l, h1, h2, h3⟩ := key xs hx
  exact ⟨l, by rw [h1, h2], by omega, h3⟩
theorem strE_of {ds : List D} (h : Ty.str.has ds) : ∃ s : List UInt8, ds = strE s ∧ s.length ≤ maxLen := h
end Go.Proofs.YtfgljaglidhjiaaGreatDoor

/-
  LogbookStops at arguments of its types.
-/
set_option linter.unusedVariables false
set_option linter.unusedSimpArgs false
namespace Go.Proofs.YtfgljaglidhjiaaGreatDoor
open Go Go.Abs Go.Book
variable {σ : Stack}

theorem u16_of {d : D} (h : (Ty.int .u16).hasV d) : ∃ n : Nat, d = .int .u16 n ∧ n ≤ 65535 := by
  obtain ⟨n, h, hw⟩ := h
  cases h
  simp only [Lit.wf, Bool.and_eq_true, decide_eq_true_eq] at hw
  have hw : 0 ≤ n ∧ n ≤ 65535 := hw
  exact ⟨n.toNat, by rw [Int.toNat_of_nonneg hw.1], by omega⟩
theorem go_LogbookStops (x0 x1 x2 : D) (t0 : (Ty.slice 1 .str).hasV x0) (t1 : (Ty.int .u16).hasV x1) (t2 : (Ty.int .u16).hasV x2) : ∃ σ', lim T (.call false i_law12_LogbookStops [x0, x1, x2] [[]]) = some (.val (.bool true) σ') := by
  obtain ⟨l, rfl, hl, _⟩ := rows_of (fun ds h => strE_of h) t0
  obtain ⟨a, rfl, ha⟩ := u16_of t1
  obtain ⟨c, rfl, hc⟩ := u16_of t2
  have hm : maxLen ≤ 9223372036854775807 := by decide
  exact ⟨_, law_Stops (by omega) ha hc⟩
end Go.Proofs.YtfgljaglidhjiaaGreatDoor
