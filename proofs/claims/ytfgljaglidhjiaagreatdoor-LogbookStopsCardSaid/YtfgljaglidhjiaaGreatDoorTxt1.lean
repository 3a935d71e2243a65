/- What functions of the program answer, and what follows; part 1. -/
import Derived.Test.YtfgljaglidhjiaaGreatDoorTxt0
/-
  What is whole: records, Recover.
-/
set_option linter.unusedVariables false
set_option linter.unusedSimpArgs false
namespace Go.Proofs.YtfgljaglidhjiaaGreatDoor
open Go Go.Abs Go.Book
variable {σ : Stack}

theorem be_map (l : List UInt8) : l.flatMap bE = l.map fun b => D.int .u8 b.toNat := by
  induction l with
  | nil => rfl
  | cons b l ih => simp only [List.flatMap_cons, List.map_cons, ih]; rfl
theorem be_drop (l : List UInt8) (k : Nat) : (l.flatMap bE).drop k = (l.drop k).flatMap bE := by rw [be_map, be_map, List.map_drop]
theorem be_take (l : List UInt8) (k : Nat) : (l.flatMap bE).take k = (l.take k).flatMap bE := by rw [be_map, be_map, List.map_take]
theorem be_bytes : ∀ l : List UInt8, bytesD (l.flatMap bE) = some l
  | [] => rfl
  | b :: l => by
    simp only [List.flatMap_cons, bE, List.singleton_append, bytesD, be_bytes l, Option.map_some, Option.some.injEq, List.cons.injEq, and_true]
    simp
theorem L_equal {a b : List UInt8} (hab : a.length = b.length) (hl : a.length ≤ 1000000) : ∀ (m i : Nat), i + m = a.length →
    WL T [0, 1, 12, 13] false f_slices_Equal_byte_l9 [(0, .lst a.length (a.flatMap bE)), (1, .lst b.length (b.flatMap bE)), (12, .int .i64 a.length), (13, .int .i64 i)] σ
      (fun x e σ' => σ' = σ ∧ if a.drop i = b.drop i then x = .exit 0 else x = .ret ∧ get e 4 = .bool false)
  | 0, i, hi => by
    refine WL_step e_slices_Equal_byte_l9 ?_
    have h1 : ¬ i < a.length := by omega
    have h2 : a.drop i = [] := List.drop_eq_nil_of_le (by omega)
    have h3 : b.drop i = [] := List.drop_eq_nil_of_le (by omega)
    simp [-List.length_flatMap, -List.map_take, eF, h1, h2, h3]
  | m + 1, i, hi => by
    refine WL_step e_slices_Equal_byte_l9 ?_
    have h1 : i < a.length := by omega
    have h1' : i < b.length := by omega
    obtain ⟨x, hx⟩ : ∃ x, a[i]? = some x := ⟨_, List.getElem?_eq_getElem h1⟩
    obtain ⟨y, hy⟩ : ∃ y, b[i]? = some y := ⟨_, List.getElem?_eq_getElem h1'⟩
    have a1 := be_at hx
    have a2 := be_at hy
    have h4 := wnext h1 (by omega)
    rw [drop_at hx, drop_at hy]
    by_cases hc : x = y
    · subst hc
      simp [-List.length_flatMap, -List.map_take, eF, h1, h1', a1, a2, h4]
      exact WL.to (L_equal hab hl m (i + 1) (by omega)) (by simp) rfl fun x e σ' hh => by simpa using hh
    · have hc' : ((x.toNat : Int) != y.toNat) = true := by
        simp only [bne_iff_ne, ne_eq]
        intro h; exact hc (UInt8.toNat_inj.1 (by omega))
      simp [-List.length_flatMap, -List.map_take, eF, h1, h1', a1, a2, hc, hc']
theorem C_equal {a b : List UInt8} (hl : a.length ≤ 1000000) : lim T (.call false i_slices_Equal_byte [.lst a.length (a.flatMap bE), .lst b.length (b.flatMap bE)] σ) = some (.val (.bool (a == b)) σ) := by
  refine call_of T_slices_Equal_byte e_slices_Equal_byte rfl ?_
  by_cases h : a.length = b.length
  · have h' : (a.length : Int) = b.length := by omega
    simp [-List.length_flatMap, -List.map_take, eF, h]
    refine WL.to (L_equal (σ := [] :: σ) h hl a.length 0 (by omega)) (by simp [h]) rfl ?_
    rintro x e σ' ⟨rfl, hh⟩
    simp only [List.drop_zero] at hh
    by_cases he : a = b
    · rw [if_pos he] at hh
      subst hh
      simp [-List.length_flatMap, -List.map_take, eF, he]
    · rw [if_neg he] at hh
      obtain ⟨rfl, g4⟩ := hh
      have he' : (a == b) = false := by simpa using he
      simp [g4, he']
  · have h1 : ((a.length : Int) != b.length) = true := by simp; omega
    have he : (a == b) = false := by simp; intro hh; exact h (by rw [hh])
    simp [-List.length_flatMap, -List.map_take, eF, h1, he]
theorem C_records {b : List UInt8} : lim T (.call false i_logbook_records [.lst b.length (b.flatMap bE)] σ) = some (.val (.fn i_logbook_records_1 [] [.cref [.lst b.length (b.flatMap bE)]]) σ) := by
  refine call_of T_logbook_records e_logbook_records rfl ?_
  simp [-List.length_flatMap, -List.map_take, eF, cl_be]
theorem or_bytes {x y : Nat} (hx : x < 256) (hy : y < 256) : IntKind.i64.wrap (((((x : Int) * 256) % 2 ^ IntKind.i64.bits).toNat ||| y % 2 ^ IntKind.i64.bits : Nat) : Int) = ((x * 256 + y : Nat) : Int) := by
  have h1 : (((x : Int) * 256) % 2 ^ IntKind.i64.bits).toNat = x * 256 := by
    rw [show (2 : Int) ^ IntKind.i64.bits = 18446744073709551616 from by decide]; omega
  have h2 : y % 2 ^ IntKind.i64.bits = y := by
    rw [show 2 ^ IntKind.i64.bits = 18446744073709551616 from by decide]; omega
  have h3 : x * 256 ||| y = x * 256 + y := by
    have := Nat.two_pow_add_eq_or_of_lt (i := 8) (b := y) hy x
    rw [show x * 256 = 2 ^ 8 * x by omega, ← this]
  rw [h1, h2, h3]
  exact w64 (by omega)
def lpR (L : Nat) (p : Bool) : LoopSt := { state := if p then 2 else 0, pend := if p then some (.exit 0) else none, env := [(2, .ref L 1 0 0), (3, .ref L 2 0 0)], params := [8, 9], asg := f_logbook_Recover_a6, body := f_logbook_Recover_b6 }
def stR (σ : Stack) (ls : List (List UInt8)) (w : Int) (p : Bool) : Stack :=
  [.cells ls.length (ls.flatMap strE), .cells 0 [.sl σ.length 0 ls.length 0 ls.length 1], .cells 0 [.int .i64 w], .loop (lpR σ.length p)] :: σ
theorem R_rec {ls : List (List UInt8)} {w k : Int} {s : List UInt8} (hl : ls.length < 100) :
    lim T (.round σ.length 3 [.int .i64 k, .str s] ([] :: stR σ ls w false)) = some (.val (.bool true) ([] :: stR σ (ls ++ [s]) k false)) := by
  refine round_of (lp := lpR σ.length false) (by simp [stR]) rfl ?_
  rw [show (lpR σ.length false).asg = f_logbook_Recover_a6 from rfl, e_logbook_Recover_a6, show (lpR σ.length false).body = f_logbook_Recover_b6 from rfl]
  have h1 : ((ls.length : Int) == 100) = false := by simp; omega
  have hr : (ls.length + 1) * 16 ≤ room := by unfold room; omega
  have hsl : (ls.flatMap strE).length = ls.length := by have := flat_len (f := strE) (w := 1) (fun _ => rfl) ls; omega
  have tk : (ls.flatMap strE).take ls.length = ls.flatMap strE := List.take_of_length_le (by omega)
  simp [-List.length_flatMap, -List.map_take, eF, WC_eq e_logbook_Recover_b6, lpR, stR, midR, h1, hr, hsl, tk, strE]
theorem R_recNo {ls : List (List UInt8)} {w k : Int} {s : List UInt8} (hl : ls.length = 100) :
    lim T (.round σ.length 3 [.int .i64 k, .str s] ([] :: stR σ ls w false)) = some (.val (.bool false) ([] :: stR σ ls w true)) := by
  refine round_of (lp := lpR σ.length false) (by simp [stR]) rfl ?_
  rw [show (lpR σ.length false).asg = f_logbook_Recover_a6 from rfl, e_logbook_Recover_a6, show (lpR σ.length false).body = f_logbook_Recover_b6 from rfl]
  simp [-List.length_flatMap, -List.map_take, eF, WC_eq e_logbook_Recover_b6, lpR, stR, midR, hl]
theorem stepF_no {t : List UInt8} (h : t.length < 6) : stepF t = none := by
  unfold stepF
  split
  · rw [if_neg (by omega)]
  · rfl
theorem recov_no {n : Nat} {t : List UInt8} (h : stepF t = none) : recov n t = [] := by
  cases n with
  | zero => rfl
  | succ n => simp [recov, h]
/-- The states behind all rounds. -/
def recQ (σ : Stack) (ls more : List (List UInt8)) (k : Nat) (x : Abs.Exit) (σ' : Stack) : Prop :=
  (x = .exit 0 ∨ x = .ret) ∧ ∃ p, σ' = [] :: stR σ (ls ++ more) (k + (bookF more).length : Nat) p
set_option maxHeartbeats 2000000 in
theorem L_recs {b : List UInt8} (hb : b.length ≤ 1000000) : ∀ (m k : Nat) (ls : List (List UInt8)), (b.drop k).length ≤ m → k ≤ b.length → ls.length ≤ 100 →
    WL T [0, 1, 3] false f_logbook_records_1_l8 [(0, .yld σ.length 3), (1, .cref [.lst b.length (b.flatMap bE)]), (3, .int .i64 k)] ([] :: stR σ ls k false)
      (fun x e σ' => recQ σ ls (recov (100 - ls.length) (b.drop k)) k x σ') := by
  intro m
  induction m with
  | zero =>
    intro k ls hm hk hl
    refine WL_step e_logbook_records_1_l8 ?_
    have h1 : (b.length : Int) - k < 6 := by simp at hm; omega
    have w1 : IntKind.i64.wrap ((b.length : Int) - k) = b.length - k := w64 (by omega)
    have h1' : ¬ (6 : Int) ≤ (b.length : Int) - k := by omega
    have hs := recov_no (n := 100 - ls.length) (stepF_no (t := b.drop k) (by omega))
    rw [hs]
    simp [-List.length_flatMap, -List.map_take, eF, w1, h1', recQ, bookF]
  | succ m ih =>
    intro k ls hm hk hl
    refine WL_step e_logbook_records_1_l8 ?_
    have w1 : IntKind.i64.wrap ((b.length : Int) - k) = b.length - k := w64 (by omega)
    by_cases c1 : 6 ≤ b.length - k
    · have h1 : (6 : Int) ≤ (b.length : Int) - k := by omega
      have hk0 : k < b.length := by omega
      have hk1 : k + 1 < b.length := by omega
      obtain ⟨x, hx⟩ : ∃ x, b[k]? = some x := ⟨_, List.getElem?_eq_getElem hk0⟩
      obtain ⟨y, hy⟩ : ∃ y, b[k + 1]? = some y := ⟨_, List.getElem?_eq_getElem hk1⟩
      have a1 := be_at hx
      have a2 := be_at hy
      have hdr : b.drop k = x :: y :: b.drop (k + 2) := by rw [drop_at hx, drop_at hy]
      have v1 : IntKind.i64.wrap (x.toNat : Int) = x.toNat := w64 (by have := be_lt x; omega)
      have v2 : IntKind.i64.wrap (y.toNat : Int) = y.toNat := w64 (by have := be_lt y; omega)
      have e8 : (2 : Int) ^ min 8 IntKind.i64.bits = 256 := by decide
      have v3 : IntKind.i64.wrap ((x.toNat : Int) * 256) = x.toNat * 256 := w64 (by have := be_lt x; omega)
      have v4 := or_bytes (be_lt x) (be_lt y)
      have hxl := be_lt x
      have hyl := be_lt y
      obtain ⟨n, hn⟩ : ∃ n, n = x.toNat * 256 + y.toNat := ⟨_, rfl⟩
      rw [← hn] at v4
      have hnl : n ≤ 65535 := by omega
      have u1 : IntKind.i64.wrap ((k : Int) + 1) = k + 1 := w64 (by omega)
      have u2 : IntKind.i64.wrap ((k : Int) + 4) = k + 4 := w64 (by omega)
      have u3 : IntKind.i64.wrap ((k : Int) + 4 + n) = k + 4 + n := w64 (by omega)
      have u4 : IntKind.i64.wrap ((k : Int) + 4 + n + 2) = k + 4 + n + 2 := w64 (by omega)
      have u5 : IntKind.i64.wrap ((k : Int) + 4 + n + 2 - 2) = k + 4 + n := (w64 (by omega)).trans (by omega)
      have t1 : ((k : Int) + 1).toNat = k + 1 := by omega
      have z1 : 0 ≤ (k : Int) + 1 := by omega
      have z2 : (k : Int) + 1 < b.length := by omega
      have hdl : (b.drop k).length = b.length - k := by simp
      have hstep : stepF (b.drop k) = if n ≤ 4000 ∧ n + 6 ≤ b.length - k then (if recF ((b.drop (k + 4)).take n) = (b.drop k).take (n + 6) then some ((b.drop (k + 4)).take n, b.drop (k + n + 6)) else none) else none := by
        have e4 : (b.drop k).drop 4 = b.drop (k + 4) := by rw [List.drop_drop]
        have e5 : (b.drop k).drop (n + 6) = b.drop (k + n + 6) := by rw [List.drop_drop]; congr 1
        unfold stepF
        split
        · rename_i x' y' r' hq
          rw [hdr] at hq
          cases hq
          rw [← hn, hdl, e4, e5]
          by_cases hc : n ≤ 4000 ∧ n + 6 ≤ b.length - k
          · rw [if_pos hc, if_pos ⟨c1, hc⟩]
          · rw [if_neg hc, if_neg (fun h => hc h.2)]
        · rename_i hno
          exact absurd hdr (hno _ _ _)
      by_cases c2 : n ≤ 4000
      · have c2' : ¬ (4000 : Int) < n := by omega
        have c2'' : (n : Int) ≤ 4000 := by omega
        by_cases c3 : n + 6 ≤ b.length - k
        · have c3' : ¬ (b.length : Int) < (k : Int) + 4 + n + 2 := by omega
          rw [if_pos ⟨c2, c3⟩] at hstep
          have s1 : ((k : Int) + 4).toNat = k + 4 := by omega
          have s2 : ((k : Int) + 4 + n).toNat = k + 4 + n := by omega
          have s3 : ((k : Int) + 4 + n + 2).toNat = k + 4 + n + 2 := by omega
          have s4 : (0 : Int) ≤ (k : Int) + 4 := by omega
          have s5 : (k : Int) + 4 ≤ (k : Int) + 4 + n := by omega
          have s6 : (k : Int) + 4 + n ≤ b.length := by omega
          have s7 : (k : Int) ≤ (k : Int) + 4 + n + 2 := by omega
          have s8 : (k : Int) + 4 + n + 2 ≤ b.length := by omega
          have s9 : (0 : Int) ≤ (k : Int) + 4 + n := by omega
          have s10 : (0 : Int) ≤ (k : Int) + 4 + n + 2 := by omega
          have d1 : k + 4 + n - (k + 4) = n := by omega
          have d2 : k + 4 + n + 2 - k = n + 6 := by omega
          have d3 : k ≤ k + 4 + n + 2 := by omega
          obtain ⟨line, hline⟩ : ∃ l, l = (b.drop (k + 4)).take n := ⟨_, rfl⟩
          rw [← hline] at hstep
          have hll : line.length = n := by rw [hline]; simp; omega
          have g1 : ((b.flatMap bE).drop (k + 4)).take n = line.flatMap bE := by rw [be_drop, be_take, hline]
          have g2 : ((b.flatMap bE).drop k).take (n + 6) = ((b.drop k).take (n + 6)).flatMap bE := by rw [be_drop, be_take]
          have gl : ((b.drop k).take (n + 6)).length = n + 6 := by simp; omega
          have g3 : elems ([] :: stR σ ls k false) 1 (.lst n (line.flatMap bE)) = some (n, line.flatMap bE) := by rw [elems_lst, if_pos (by rw [be_len, hll]; omega)]
          have g4 := be_bytes line
          have hC := fun S hS => C_record (σ := S) (s := line) (by omega) hS
          have hE := fun S => C_equal (σ := S) (a := recF line) (b := (b.drop k).take (n + 6)) (by rw [recF_len]; omega)
          rw [gl] at hE
          by_cases c4 : recF line = (b.drop k).take (n + 6)
          · rw [if_pos c4] at hstep
            have c4' : (recF line == (b.drop k).take (n + 6)) = true := by simpa using c4
            simp only [c4'] at hE
            by_cases c5 : ls.length = 100
            · have hR := R_recNo (σ := σ) (w := k) (k := (k : Int) + 4 + n + 2) (s := line) c5
              have hz : recov (100 - ls.length) (b.drop k) = [] := by rw [c5]; rfl
              rw [hz]
              simp [-List.length_flatMap, -List.map_take, eF, w1, h1, a1, a2, hk0, hk1, u1, u2, u3, u4, u5, t1, z1, z2, v1, v2, e8, v3, v4, c2', c2'', c3', s1, s2, s3, s4, s5, s6, s7, s8, s9, s10, d1, d2, d3, g1, g2, meD, g3, g4, hC, hE, hR, recQ, bookF]
            · have hR := R_rec (σ := σ) (ls := ls) (w := k) (k := (k : Int) + 4 + n + 2) (s := line) (by omega)
              have hz : recov (100 - ls.length) (b.drop k) = line :: recov (100 - (ls ++ [line]).length) (b.drop (k + n + 6)) := by
                have hx : 100 - ls.length = (100 - (ls ++ [line]).length) + 1 := by simp; omega
                rw [hx, recov, hstep]
              rw [hz]
              have ih' := ih (k + n + 6) (ls ++ [line]) (by simp; omega) (by omega) (by simp; omega)
              have ek : ((k + n + 6 : Nat) : Int) = (k : Int) + 4 + n + 2 := by omega
              rw [ek] at ih'
              simp [-List.length_flatMap, -List.map_take, eF, w1, h1, a1, a2, hk0, hk1, u1, u2, u3, u4, u5, t1, z1, z2, v1, v2, e8, v3, v4, c2', c2'', c3', s1, s2, s3, s4, s5, s6, s7, s8, s9, s10, d1, d2, d3, g1, g2, meD, g3, g4, hC, hE, hR]
              refine WL.to ih' (by simp) rfl fun x e σ' hh => ?_
              generalize recov (100 - (ls ++ [line]).length) (b.drop (k + n + 6)) = more at hh ⊢
              obtain ⟨hh1, p, hh2⟩ := hh
              refine ⟨hh1, p, ?_⟩
              rw [hh2]
              have e1 : k + n + 6 + (bookF more).length = k + (bookF (line :: more)).length := by
                simp only [bookF, List.flatMap_cons, List.length_append, recF_len, hll]; omega
              rw [e1]
              simp
          · rw [if_neg c4] at hstep
            rw [recov_no hstep]
            have c4' : (recF line == (b.drop k).take (n + 6)) = false := by simpa using c4
            rw [c4'] at hE
            simp [-List.length_flatMap, -List.map_take, eF, w1, h1, a1, a2, hk0, hk1, u1, u2, u3, u4, u5, t1, z1, z2, v1, v2, e8, v3, v4, c2', c2'', c3', s1, s2, s3, s4, s5, s6, s7, s8, s9, s10, d1, d2, d3, g1, g2, meD, g3, g4, hC, hE, recQ, bookF]
        · have c3' : (b.length : Int) < (k : Int) + 4 + n + 2 := by omega
          rw [if_neg (fun h => c3 h.2)] at hstep
          rw [recov_no hstep]
          simp [-List.length_flatMap, -List.map_take, eF, w1, h1, a1, a2, hk0, hk1, u1, u2, u3, u4, t1, z1, z2, v1, v2, e8, v3, v4, c2', c2'', c3', recQ, bookF]
      · have c2' : (4000 : Int) < n := by omega
        have c2'' : ¬ (n : Int) ≤ 4000 := by omega
        rw [if_neg (fun h => c2 h.1)] at hstep
        rw [recov_no hstep]
        simp [-List.length_flatMap, -List.map_take, eF, w1, h1, a1, a2, hk0, hk1, u1, u2, u3, u4, t1, z1, z2, v1, v2, e8, v3, v4, c2', c2'', recQ, bookF]
    · have h1' : ¬ (6 : Int) ≤ (b.length : Int) - k := by omega
      have hs := recov_no (n := 100 - ls.length) (stepF_no (t := b.drop k) (by simp; omega))
      rw [hs]
      simp [-List.length_flatMap, -List.map_take, eF, w1, h1', recQ, bookF]
theorem C_records1 {b : List UInt8} (hb : b.length ≤ 1000000) : ∃ p, lim T (.call false i_logbook_records_1 [.yld σ.length 3, .cref [.lst b.length (b.flatMap bE)]] (stR σ [] 0 false)) = some (.val (.tup []) (stR σ (recov 100 b) (bookF (recov 100 b)).length p)) := by
  have h := L_recs (σ := σ) hb b.length 0 [] (by simp) (by omega) (by simp)
  obtain ⟨x, e, σ', h1, hx, p, rfl⟩ := h
  refine ⟨p, ?_⟩
  refine call_to T_logbook_records_1 e_logbook_records_1 rfl (by simp [stR]) ?_
  simp [-List.length_flatMap, -List.map_take, eF]
  refine ⟨_, _, _, by simpa using h1, ?_⟩
  rcases hx with rfl | rfl <;> simp [-List.length_flatMap, -List.map_take, eF]
theorem C_Recover {b : List UInt8} (hb : b.length ≤ 1000000) (hσ : σ ≠ []) :
    lim T (.call false i_logbook_Recover [.lst b.length (b.flatMap bE)] σ) = some (.val (.tup [.lst (recov 100 b).length ((recov 100 b).flatMap strE), .int .i64 ((bookF (recov 100 b)).length : Nat)]) σ) := by
  refine call_of T_logbook_Recover e_logbook_Recover rfl ?_
  have hR := fun σ => C_records (σ := σ) (b := b)
  obtain ⟨p, h1⟩ := C_records1 (σ := σ) hb
  simp [-List.length_flatMap, -List.map_take, eF, hR, cl_be]
  refine WC_rngf (d := .tup []) (σ2 := stR σ (recov 100 b) (bookF (recov 100 b)).length p) (lp := lpR σ.length p) (by simp; exact ⟨rfl, rfl, rfl⟩) ?_ (by simp [stR]) (by cases p <;> simp [lpR]) ?_
  · simpa [stR, lpR] using h1
  · cases p <;> simp [-List.length_flatMap, -List.map_take, eF, stR, lpR]
    all_goals exact ⟨_, frz_pair (k_out (n := 15) (f := strE) (w := 1) (l := recov 100 b) (by decide) (fun _ => rfl) (fun _ => by simp [strE]) hσ (by simp))⟩
end Go.Proofs.YtfgljaglidhjiaaGreatDoor

/-
  Lists of texts.
-/
set_option linter.unusedVariables false
set_option linter.unusedSimpArgs false
namespace Go.Proofs.YtfgljaglidhjiaaGreatDoor
open Go Go.Abs Go.Book
variable {σ : Stack}

theorem L_texts {a b : List (List UInt8)} (hab : a.length = b.length) (hl : a.length ≤ 1000000000) : ∀ (m i : Nat), i + m = a.length →
    WL T [0, 1, 5] false f_law12_texts_l8 [(0, .lst a.length (a.flatMap strE)), (1, .lst b.length (b.flatMap strE)), (5, .int .i64 i)] σ
      (fun x e σ' => σ' = σ ∧ if a.drop i = b.drop i then x = .exit 0 else x = .ret ∧ get e 4 = .bool false)
  | 0, i, hi => by
    refine WL_step e_law12_texts_l8 ?_
    have h1 : ¬ i < a.length := by omega
    have h2 : a.drop i = [] := List.drop_eq_nil_of_le (by omega)
    have h3 : b.drop i = [] := List.drop_eq_nil_of_le (by omega)
    simp [-List.length_flatMap, -List.map_take, eF, h1, h2, h3]
  | m + 1, i, hi => by
    refine WL_step e_law12_texts_l8 ?_
    have h1 : i < a.length := by omega
    have h1' : i < b.length := by omega
    obtain ⟨x, hx⟩ : ∃ x, a[i]? = some x := ⟨_, List.getElem?_eq_getElem h1⟩
    obtain ⟨y, hy⟩ : ∃ y, b[i]? = some y := ⟨_, List.getElem?_eq_getElem h1'⟩
    have a1 := flat_at (f := strE) (w := 1) (fun _ => rfl) hx
    have a2 := flat_at (f := strE) (w := 1) (fun _ => rfl) hy
    simp only [strE, Nat.mul_one] at a1 a2
    have h4 := wnext h1 (by omega)
    rw [drop_at hx, drop_at hy]
    by_cases hc : x = y
    · subst hc
      simp [-List.length_flatMap, -List.map_take, eF, puD, h1, h1', a1, a2, h4]
      exact WL.to (L_texts hab hl m (i + 1) (by omega)) (by simp) rfl fun x e σ' hh => by simpa using hh
    · simp [-List.length_flatMap, -List.map_take, eF, puD, h1, h1', a1, a2, hc]
theorem C_texts {a b : List (List UInt8)} (hl : a.length ≤ 1000000000) : lim T (.call false i_law12_texts [.lst a.length (a.flatMap strE), .lst b.length (b.flatMap strE)] σ) = some (.val (.bool (a == b)) σ) := by
  refine call_of T_law12_texts e_law12_texts rfl ?_
  by_cases h : a.length = b.length
  · have h' : (a.length : Int) = b.length := by omega
    simp [-List.length_flatMap, -List.map_take, eF, h]
    refine WL.to (L_texts (σ := [] :: σ) h hl a.length 0 (by omega)) (by simp [h]) rfl ?_
    rintro x e σ' ⟨rfl, hh⟩
    simp only [List.drop_zero] at hh
    by_cases he : a = b
    · rw [if_pos he] at hh
      subst hh
      simp [-List.length_flatMap, -List.map_take, eF, he]
    · rw [if_neg he] at hh
      obtain ⟨rfl, g4⟩ := hh
      have he' : (a == b) = false := by simpa using he
      simp [g4, he']
  · have h1 : ((a.length : Int) != b.length) = true := by simp; omega
    have he : (a == b) = false := by simp; intro hh; exact h (by rw [hh])
    simp [-List.length_flatMap, -List.map_take, eF, h1, he]
theorem C_list {l : List (List UInt8)} (hl : l.length ≤ 1000000000) (hσ : σ ≠ []) : lim T (.call false i_law12_list [.lst l.length (l.flatMap strE)] σ) = some (.val (.lst l.length (l.flatMap strE)) σ) := by
  refine call_of T_law12_list e_law12_list rfl ?_
  cases l with
  | nil => simp [-List.length_flatMap, -List.map_take, eF]
  | cons s r =>
    have hfl : ((s :: r).flatMap strE).length = (s :: r).length := by have := flat_len (f := strE) (w := 1) (fun _ => rfl) (s :: r); omega
    have hne : ¬ (s :: r).length = 0 := by simp
    generalize s :: r = l at hl hfl hne ⊢
    have hr : l.length * 16 ≤ room := by unfold room; omega
    have hk := k_out (n := 16) (f := strE) (w := 1) (l := l) (j := 1) (v := 0) (bs := [.cells 0 [], .cells 0 (l.flatMap strE)]) (by decide) (fun _ => rfl) (fun _ => by simp [strE]) hσ (by simp)
    simp [-List.length_flatMap, -List.map_take, eF, hfl, hne, hr]
    exact ⟨_, hk⟩
end Go.Proofs.YtfgljaglidhjiaaGreatDoor

/-
  Layer 12 in plain Lean: a book that is cut, or changed in one byte. No program in sight.
-/
set_option linter.unusedVariables false
set_option linter.unusedSimpArgs false
namespace Go.Book
open Go Go.Abs

theorem sumFrom_inj : ∀ {s : List UInt8} {n m : Nat}, n < 65521 → m < 65521 → sumFrom n s = sumFrom m s → n = m
  | [], n, m, hn, hm, h => h
  | c :: s, n, m, hn, hm, h => by
    have := sumFrom_inj (s := s) (Nat.mod_lt _ (by omega)) (Nat.mod_lt _ (by omega)) h
    omega
theorem sumFrom_set : ∀ {s : List UInt8} {n j : Nat} {v c : UInt8}, n < 65521 → s[j]? = some c → v ≠ c → sumFrom n (s.set j v) ≠ sumFrom n s
  | [], n, j, v, c, hn, hc, hv => by simp at hc
  | d :: s, n, 0, v, c, hn, hc, hv => by
    intro h
    simp at hc
    subst hc
    have h1 := sumFrom_inj (s := s) (Nat.mod_lt _ (by omega)) (Nat.mod_lt _ (by omega)) h
    have h2 := v.toNat_lt
    have h3 := d.toNat_lt
    exact hv (UInt8.toNat_inj.1 (by omega))
  | d :: s, n, j + 1, v, c, hn, hc, hv => by
    have := sumFrom_set (s := s) (n := (31 * n + d.toNat) % 65521) (j := j) (v := v) (c := c) (Nat.mod_lt _ (by omega)) (by simpa using hc) hv
    simpa [sumFrom] using this
theorem by8_inj {a b : Nat} (ha : a < 256) (hb : b < 256) (h : by8 a = by8 b) : a = b := by
  rw [← by8_nat ha, ← by8_nat hb, h]
theorem rec_0 {s r : List UInt8} : (recF s ++ r)[0]? = some (by8 (s.length / 256)) := rfl
theorem rec_1 {s r : List UInt8} : (recF s ++ r)[1]? = some (by8 (s.length % 256)) := rfl
theorem rec_2 {s r : List UInt8} : (recF s ++ r)[2]? = some (by8 (255 - s.length / 256)) := rfl
theorem rec_3 {s r : List UInt8} : (recF s ++ r)[3]? = some (by8 (255 - s.length % 256)) := rfl
theorem step_none {b : List UInt8} (h : ∀ s r, s.length ≤ 4000 → b ≠ recF s ++ r) : stepF b = none := by
  cases hb : stepF b with
  | none => rfl
  | some x => exact absurd (stepF_some (s := x.1) (r := x.2) hb).1 (h _ _ (stepF_some (s := x.1) (r := x.2) hb).2)
theorem stepF_cut {s r : List UInt8} {k : Nat} (hs : s.length ≤ 4000) (hk : k < s.length + 6) : stepF ((recF s ++ r).take k) = none := by
  refine step_none fun s' r' hs' h => ?_
  have hl := congrArg List.length h
  simp only [List.length_take, List.length_append, recF_len] at hl
  have h0 := congrArg (fun l : List UInt8 => l[0]?) h
  have h1 := congrArg (fun l : List UInt8 => l[1]?) h
  simp only [rec_0, rec_1] at h0 h1
  rw [List.getElem?_take_of_lt (by omega), rec_0] at h0
  rw [List.getElem?_take_of_lt (by omega), rec_1] at h1
  have e0 := by8_inj (by omega) (by omega) (Option.some.inj h0)
  have e1 := by8_inj (by omega) (by omega) (Option.some.inj h1)
  omega
theorem stepF_bad {s r : List UInt8} {j : Nat} {v c : UInt8} (hs : s.length ≤ 4000) (hj : j < s.length + 6) (hc : (recF s ++ r)[j]? = some c) (hv : v ≠ c) : stepF ((recF s ++ r).set j v) = none := by
  refine step_none fun s' r' hs' h => ?_
  have hl := congrArg List.length h
  simp only [List.length_set, List.length_append, recF_len] at hl
  have h0 := congrArg (fun l : List UInt8 => l[0]?) h
  have h1 := congrArg (fun l : List UInt8 => l[1]?) h
  have h2 := congrArg (fun l : List UInt8 => l[2]?) h
  have h3 := congrArg (fun l : List UInt8 => l[3]?) h
  simp only [rec_0, rec_1, rec_2, rec_3] at h0 h1 h2 h3
  have hat : ∀ i, i ≠ j → ((recF s ++ r).set j v)[i]? = (recF s ++ r)[i]? := fun i hi => List.getElem?_set_ne (Ne.symm hi)
  have hjj : ((recF s ++ r).set j v)[j]? = some v := List.getElem?_set_self (by simp [recF_len]; omega)
  by_cases j0 : j = 0
  · subst j0
    rw [hjj] at h0
    rw [hat 2 (by omega), rec_2] at h2
    rw [rec_0] at hc
    have e2 := by8_inj (by omega) (by omega) (Option.some.inj h2)
    have : s.length / 256 = s'.length / 256 := by omega
    rw [this] at hc
    exact hv (Option.some.inj (h0.trans hc))
  by_cases j1 : j = 1
  · subst j1
    rw [hjj] at h1
    rw [hat 3 (by omega), rec_3] at h3
    rw [rec_1] at hc
    have e2 := by8_inj (by omega) (by omega) (Option.some.inj h3)
    have : s.length % 256 = s'.length % 256 := by omega
    rw [this] at hc
    exact hv (Option.some.inj (h1.trans hc))
  rw [hat 0 (by omega), rec_0] at h0
  rw [hat 1 (by omega), rec_1] at h1
  have e0 := by8_inj (by omega) (by omega) (Option.some.inj h0)
  have e1 := by8_inj (by omega) (by omega) (Option.some.inj h1)
  have en : s'.length = s.length := by omega
  by_cases j2 : j = 2
  · subst j2
    rw [hjj] at h2
    rw [rec_2] at hc
    rw [en] at h2
    exact hv (Option.some.inj (h2.trans hc))
  by_cases j3 : j = 3
  · subst j3
    rw [hjj] at h3
    rw [rec_3] at hc
    rw [en] at h3
    exact hv (Option.some.inj (h3.trans hc))
  obtain ⟨i, rfl⟩ : ∃ i, j = i + 4 := ⟨j - 4, by omega⟩
  have hd := congrArg (List.drop 4) h
  have dr : ∀ x y : List UInt8, (recF x ++ y).drop 4 = x ++ (tailF x ++ y) := fun x y => by
    simp only [recF, List.append_assoc]
    rw [show (4 : Nat) = (headF x.length).length from rfl, List.drop_left]
  have hcd : (s ++ (tailF s ++ r))[i]? = some c := by rw [← dr, List.getElem?_drop, Nat.add_comm 4 i]; exact hc
  have hsd : ((recF s ++ r).set (i + 4) v).drop 4 = (s ++ (tailF s ++ r)).set i v := by
    rw [List.drop_set, if_neg (by omega), dr, Nat.add_sub_cancel]
  rw [hsd, dr] at hd
  by_cases hi : i < s.length
  · rw [List.set_append_left _ _ hi] at hd
    obtain ⟨a1, a2⟩ := List.append_inj hd (by simp [en])
    obtain ⟨a3, a4⟩ := List.append_inj a2 rfl
    rw [List.getElem?_append_left hi] at hcd
    have hne := sumFrom_set (n := 1) (by omega) hcd hv
    have b1 := sumF_lt (s := s)
    have b2 := sumF_lt (s := s')
    simp only [tailF, List.cons.injEq, and_true] at a3
    have c1 := by8_inj (by omega) (by omega) a3.1
    have c2 := by8_inj (by omega) (by omega) a3.2
    have c3 : sumF s' = sumF s := by omega
    rw [← a1] at c3
    exact hne c3
  · rw [List.set_append_right _ _ (by omega)] at hd
    obtain ⟨a1, a2⟩ := List.append_inj hd (by simp [en])
    subst a1
    rw [List.getElem?_append_right (by omega)] at hcd
    have hq : i - s.length < (tailF s).length := by simp [tailF]; omega
    have h4 := congrArg (fun l : List UInt8 => l[i - s.length]?) a2
    rw [List.getElem?_set_self (by simp; omega), List.getElem?_append_left hq] at h4
    rw [List.getElem?_append_left hq] at hcd
    exact hv (Option.some.inj (h4.trans hcd))
theorem recov_more {t : List UInt8} (ht : stepF t = none) : ∀ {l : List (List UInt8)} {n : Nat}, l.length ≤ n → (∀ s ∈ l, s.length ≤ 4000) → recov n (bookF l ++ t) = l
  | [], n, _, _ => by
    cases n with
    | zero => rfl
    | succ n => simp [bookF, recov, ht]
  | s :: l, n, hn, hs => by
    obtain ⟨n, rfl⟩ : ∃ m, n = m + 1 := ⟨n - 1, by simp at hn; omega⟩
    simp only [bookF, List.flatMap_cons, recov, List.append_assoc]
    rw [stepF_rec (hs s (by simp))]
    simp only
    rw [← bookF, recov_more ht (l := l) (by simpa using hn) (fun x hx => hs x (by simp [hx]))]
theorem bookF_cons (s : List UInt8) (l : List (List UInt8)) : bookF (s :: l) = recF s ++ bookF l := rfl
theorem bookF_app (a b : List (List UInt8)) : bookF (a ++ b) = bookF a ++ bookF b := List.flatMap_append ..
theorem book_split {l : List (List UInt8)} {n : Nat} {s : List UInt8} (h : l[n]? = some s) : bookF l = bookF (l.take n) ++ (recF s ++ bookF (l.drop (n + 1))) := by
  have h1 : l = l.take n ++ s :: l.drop (n + 1) := by
    obtain ⟨hn, he⟩ := List.getElem?_eq_some_iff.1 h
    rw [← he, List.getElem_cons_drop, List.take_append_drop]
  conv => lhs; rw [h1]
  rw [bookF_app, bookF_cons]
theorem book_next {l : List (List UInt8)} {n : Nat} {s : List UInt8} (h : l[n]? = some s) : (bookF (l.take (n + 1))).length = (bookF (l.take n)).length + (s.length + 6) := by
  rw [List.take_add_one, h, bookF_app]
  simp [bookF, recF_len]
/-- A book that is cut, or changed in one byte: the lines ahead of it are whole, and no more. -/
theorem stops {l : List (List UInt8)} {n cut : Nat} (hl : l.length ≤ 100) (h4 : ∀ s ∈ l, s.length ≤ 4000) (hn : n < l.length) (h1 : (bookF (l.take n)).length ≤ cut) (h2 : cut < (bookF (l.take (n + 1))).length) :
    recov 100 ((bookF l).take cut) = l.take n ∧ ∀ v c, (bookF l)[cut]? = some c → v ≠ c → recov 100 ((bookF l).set cut v) = l.take n := by
  obtain ⟨s, hs⟩ : ∃ s, l[n]? = some s := ⟨_, List.getElem?_eq_getElem hn⟩
  have hsm := h4 s (List.mem_of_getElem? hs)
  rw [book_next hs] at h2
  rw [book_split hs]
  have ht : ∀ x ∈ l.take n, x.length ≤ 4000 := fun x hx => h4 x (List.mem_of_mem_take hx)
  have htl : (l.take n).length ≤ 100 := by simp; omega
  constructor
  · rw [List.take_append, List.take_of_length_le h1]
    exact recov_more (stepF_cut hsm (by omega)) htl ht
  · intro v c hc hv
    rw [List.set_append_right _ _ h1]
    rw [List.getElem?_append_right h1] at hc
    exact recov_more (stepF_bad hsm (by omega) hc hv) htl ht
end Go.Book
