/-
  The program's sets, one after another.
-/
import Derived.Test.YtcjjdaifpboaaaaH2
set_option linter.unusedVariables false
set_option linter.unusedSimpArgs false
namespace Go.Proofs.Ytcjjdaifpboaaaa
open Go Go.Abs Go.Trial
variable {σ : Stack}

@[simp] theorem lnk6 {n : Nat} : (n + 1 + 1 + 1 + 1 + 1 + 1 = n) = False := by simp; omega
@[simp] theorem lnk7 {n : Nat} : (n + 1 + 1 + 1 + 1 + 1 + 1 + 1 = n) = False := by simp; omega
@[simp] theorem lnk8 {n : Nat} : (n + 1 + 1 + 1 + 1 + 1 + 1 + 1 + 1 = n) = False := by simp; omega
@[simp] theorem lnk9 {n : Nat} : (n + 1 + 1 + 1 + 1 + 1 + 1 + 1 + 1 + 1 = n) = False := by simp; omega
@[simp] theorem lnk10 {n : Nat} : (n + 1 + 1 + 1 + 1 + 1 + 1 + 1 + 1 + 1 + 1 = n) = False := by simp; omega
@[simp] theorem lnk11 {n : Nat} : (n + 1 + 1 + 1 + 1 + 1 + 1 + 1 + 1 + 1 + 1 + 1 = n) = False := by simp; omega
theorem WC_eq {O : Oracle} {c c' : Cmd} (hc : c = c') {e : Env} {σ : Stack} {Q : Abs.Exit → Env → Stack → Prop} : WC O c e σ Q .mk .mk = WC O c' e σ Q .mk .mk := by subst hc; rfl

def lpS (l i : Nat) : LoopSt := { state := 0, pend := none, env := [(2, .cref [.yld l i])], params := [8, 9], asg := f_trial_Test_sets_1_a6, body := f_trial_Test_sets_1_b6 }
def lpS1 (l i : Nat) : LoopSt := { state := 1, pend := none, env := [(2, .cref [.yld l i])], params := [8, 9], asg := f_trial_Test_sets_1_a6, body := f_trial_Test_sets_1_b6 }
def lpS2 (l i : Nat) : LoopSt := { state := 2, pend := some .ret, env := [(2, .cref [.yld l i])], params := [8, 9], asg := f_trial_Test_sets_1_a6, body := f_trial_Test_sets_1_b6 }
def stA (x : Cv × Rg) : List D := [.agg x.1.enc, .agg x.2.enc]
def stP (l i : Nat) (x : Cv × Rg) : Stack := [[], [.cells 0 (cvA (x.1.b, x.1.c)), .dead], [], [], [.loop (lpS1 l i)]]

theorem R_set0 {t : Test} (h : Tv t) {p : Int × Int} (hp : setAt t p = none) {l i : Nat} {S : Stack} :
    lim T (.round S.length 0 (rmA t p) (rmP p ++ ([.loop (lpS l i)] :: S))) = some (.val (.bool true) (rmP p ++ ([.loop (lpS l i)] :: S))) := by
  have hn := h.n
  have hm := fun σ => @C_meet σ t.a (t.st.map (rmS p.1 p.2)) (by simp; omega)
  have hs : (t.st.map (rmS p.1 p.2)).foldl meet t.a = setOf t p.1 p.2 := rfl
  rw [hs] at hm
  have hne : ¬ (setOf t p.1 p.2).lo ≤ (setOf t p.1 p.2).hi := by
    unfold setAt at hp
    split at hp
    · cases hp
    · rename_i g; simpa [Rg.ne] using g
  refine round_of (lp := lpS l i) (by simp [rmP]) rfl ?_
  rw [show (lpS l i).asg = f_trial_Test_sets_1_a6 from rfl, e_trial_Test_sets_1_a6, show (lpS l i).body = f_trial_Test_sets_1_b6 from rfl]
  simp only [rmA, roomsOf, List.flatMap_cons, List.length_cons]
  simp [-List.length_flatMap, -List.map_take, e_trial_Test_sets_1_r0, e_trial_Test_sets_1_r1, e_trial_Test_sets_1_r2, e_trial_Test_sets_1_r3, e_trial_Test_sets_1_r4, e_trial_Test_sets_1_r5, lpS, rmP, cvA, midR]
  simp only [List.length_map, Rg.enc, List.cons_append, List.nil_append] at hm
  simp [-List.length_flatMap, -List.map_take, e_trial_Test_sets_1_r0, e_trial_Test_sets_1_r1, e_trial_Test_sets_1_r2, e_trial_Test_sets_1_r3, e_trial_Test_sets_1_r4, e_trial_Test_sets_1_r5, WC_eq e_trial_Test_sets_1_b6, hm, hne]

theorem R_setG {t : Test} (h : Tv t) {x : Cv × Rg} {p : Int × Int} (hp : setAt t p = some x) {l i : Nat} {S S1 : Stack} (hl : S1.length = S.length) (hg : lim T (.round l i (stA x) (stP l i x ++ S)) = some (.val (.bool true) (stP l i x ++ S1))) :
    lim T (.round S.length 0 (rmA t p) (rmP p ++ ([.loop (lpS l i)] :: S))) = some (.val (.bool true) (rmP p ++ ([.loop (lpS l i)] :: S1))) := by
  have hn := h.n
  have hm := fun σ => @C_meet σ t.a (t.st.map (rmS p.1 p.2)) (by simp; omega)
  have hs : (t.st.map (rmS p.1 p.2)).foldl meet t.a = setOf t p.1 p.2 := rfl
  rw [hs] at hm
  have hne : (setOf t p.1 p.2).lo ≤ (setOf t p.1 p.2).hi := by
    unfold setAt at hp
    split at hp
    · rename_i g; simpa [Rg.ne] using g
    · cases hp
  have hx : x = (⟨0, p.1, p.2⟩, setOf t p.1 p.2) := by simp [setAt, Rg.ne, hne] at hp; exact hp.symm
  subst hx
  refine round_of (lp := lpS l i) (by simp [rmP]) rfl ?_
  rw [show (lpS l i).asg = f_trial_Test_sets_1_a6 from rfl, e_trial_Test_sets_1_a6, show (lpS l i).body = f_trial_Test_sets_1_b6 from rfl]
  simp only [rmA, roomsOf, List.flatMap_cons, List.length_cons]
  simp only [stA, stP, lpS1, cvA, Cv.enc, Rg.enc, List.cons_append, List.nil_append] at hg
  simp [-List.length_flatMap, -List.map_take, e_trial_Test_sets_1_r0, e_trial_Test_sets_1_r1, e_trial_Test_sets_1_r2, e_trial_Test_sets_1_r3, e_trial_Test_sets_1_r4, e_trial_Test_sets_1_r5, lpS, rmP, cvA, midR]
  simp only [List.length_map, Rg.enc, List.cons_append, List.nil_append] at hm
  simp [-List.length_flatMap, -List.map_take, e_trial_Test_sets_1_r0, e_trial_Test_sets_1_r1, e_trial_Test_sets_1_r2, e_trial_Test_sets_1_r3, e_trial_Test_sets_1_r4, e_trial_Test_sets_1_r5, WC_eq e_trial_Test_sets_1_b6, hm, hne, hg, hl]
theorem R_setX {t : Test} (h : Tv t) {x : Cv × Rg} {p : Int × Int} (hp : setAt t p = some x) {l i : Nat} {S S1 : Stack} (hl : S1.length = S.length) (hg : lim T (.round l i (stA x) (stP l i x ++ S)) = some (.val (.bool false) (stP l i x ++ S1))) :
    lim T (.round S.length 0 (rmA t p) (rmP p ++ ([.loop (lpS l i)] :: S))) = some (.val (.bool false) (rmP p ++ ([.loop (lpS2 l i)] :: S1))) := by
  have hn := h.n
  have hm := fun σ => @C_meet σ t.a (t.st.map (rmS p.1 p.2)) (by simp; omega)
  have hs : (t.st.map (rmS p.1 p.2)).foldl meet t.a = setOf t p.1 p.2 := rfl
  rw [hs] at hm
  have hne : (setOf t p.1 p.2).lo ≤ (setOf t p.1 p.2).hi := by
    unfold setAt at hp
    split at hp
    · rename_i g; simpa [Rg.ne] using g
    · cases hp
  have hx : x = (⟨0, p.1, p.2⟩, setOf t p.1 p.2) := by simp [setAt, Rg.ne, hne] at hp; exact hp.symm
  subst hx
  refine round_of (lp := lpS l i) (by simp [rmP]) rfl ?_
  rw [show (lpS l i).asg = f_trial_Test_sets_1_a6 from rfl, e_trial_Test_sets_1_a6, show (lpS l i).body = f_trial_Test_sets_1_b6 from rfl]
  simp only [rmA, roomsOf, List.flatMap_cons, List.length_cons]
  simp only [stA, stP, lpS1, cvA, Cv.enc, Rg.enc, List.cons_append, List.nil_append] at hg
  simp [-List.length_flatMap, -List.map_take, e_trial_Test_sets_1_r0, e_trial_Test_sets_1_r1, e_trial_Test_sets_1_r2, e_trial_Test_sets_1_r3, e_trial_Test_sets_1_r4, e_trial_Test_sets_1_r5, lpS, lpS2, rmP, cvA, midR]
  simp only [List.length_map, Rg.enc, List.cons_append, List.nil_append] at hm
  simp [-List.length_flatMap, -List.map_take, e_trial_Test_sets_1_r0, e_trial_Test_sets_1_r1, e_trial_Test_sets_1_r2, e_trial_Test_sets_1_r3, e_trial_Test_sets_1_r4, e_trial_Test_sets_1_r5, WC_eq e_trial_Test_sets_1_b6, hm, hne, hg, hl]

theorem Rs_sets {t : Test} (h : Tv t) {l i : Nat} : ∀ {ps : List (Int × Int)} {S S' : Stack} {n : Nat} {fl : Bool}, Rnds T n l i stA (stP l i) (ps.filterMap (setAt t)) S fl S' →
    Rnds T (n + 1) n 0 (rmA t) rmP ps ([.loop (lpS l i)] :: S) fl ([.loop (if fl then lpS l i else lpS2 l i)] :: S')
  | [], S, S', n, fl, hr => by
    simp only [List.filterMap_nil] at hr
    cases hr with
    | nil _ hn => exact .nil _ (by simp [hn])
  | p :: ps, S, S', n, fl, hr => by
    have hn := hr.len
    cases hp : setAt t p with
    | none =>
      rw [List.filterMap_cons, hp] at hr
      have := R_set0 h hp (l := l) (i := i) (S := S)
      rw [hn.1] at this
      exact .go _ _ _ _ _ _ (by simp [hn.1]) this (Rs_sets h hr)
    | some x =>
      rw [List.filterMap_cons, hp] at hr
      dsimp only at hr
      cases hr with
      | go _ _ _ S1 _ _ hl hg hr2 =>
        have hl1 := hr2.len.1
        have := R_setG h hp (l := l) (i := i) (S := S) (S1 := S1) (by omega) hg
        rw [hn.1] at this
        exact .go _ _ _ _ _ _ (by simp [hn.1]) this (Rs_sets h hr2)
      | stop _ _ _ _ hl hl1 hg =>
        have := R_setX h hp (l := l) (i := i) (S := S) (S1 := S') (by omega) hg
        rw [hn.1] at this
        exact .stop _ _ _ _ (by simp [hn.1]) (by simp [hn.2]) (by simpa using this)
theorem C_rooms {t : Test} (hσ : σ ≠ []) : lim T (.call true i_trial_Test_rooms [.agg [.int .i64 t.a.lo, .int .i64 t.a.hi, .int .i64 t.b.lo, .int .i64 t.b.hi, .int .i64 t.c.lo, .int .i64 t.c.hi, .lst t.st.length (t.st.flatMap Step.enc)]] σ) = some (.val (.fn i_trial_Test_rooms_1 [] [.cref t.enc]) σ) := by
  refine call_kp T_trial_Test_rooms e_trial_Test_rooms rfl ?_
  simp [-List.length_flatMap, -List.map_take, e_trial_Test_rooms_r0, e_trial_Test_rooms_r1]
theorem C_sets {t : Test} (hσ : σ ≠ []) : lim T (.call true i_trial_Test_sets [.agg [.int .i64 t.a.lo, .int .i64 t.a.hi, .int .i64 t.b.lo, .int .i64 t.b.hi, .int .i64 t.c.lo, .int .i64 t.c.hi, .lst t.st.length (t.st.flatMap Step.enc)]] σ) = some (.val (.fn i_trial_Test_sets_1 [] [.cref t.enc]) σ) := by
  refine call_kp T_trial_Test_sets e_trial_Test_sets rfl ?_
  simp [-List.length_flatMap, -List.map_take, e_trial_Test_sets_r0, e_trial_Test_sets_r1]
/-- The program's sets, one after another. -/
theorem C_sets1 {t : Test} (h : Tv t) {l i : Nat} {S S' : Stack} {fl : Bool} (hl : l < S.length) (hr : Rnds T S.length l i stA (stP l i) (sets t) S fl S') :
    lim T (.call false i_trial_Test_sets_1 [.yld l i, .cref t.enc] S) = some (.val (.tup []) S') := by
  have hn := hr.len
  have hr' := Rs_sets h hr
  have hc := C_rooms1 h (l := S.length) (i := 0) (S := [.loop (lpS l i)] :: S) (by simp) (by simpa using hr')
  refine call_to T_trial_Test_sets_1 e_trial_Test_sets_1 rfl hn.2 ?_
  simp [-List.length_flatMap, -List.map_take, e_trial_Test_sets_1_r0, e_trial_Test_sets_1_r1, e_trial_Test_sets_1_r2, e_trial_Test_sets_1_r3, e_trial_Test_sets_1_r4, e_trial_Test_sets_1_r5, C_rooms]
  refine WC_rngf (d := .tup []) (σ2 := [.loop (if fl then lpS l i else lpS2 l i)] :: S') (lp := if fl then lpS l i else lpS2 l i) (by simp; exact ⟨rfl, rfl, rfl⟩) ?_ (by simp [hn.2]) (by cases fl <;> simp [lpS, lpS2]) ?_
  · simpa [lpS] using hc
  · cases fl <;> simp [lpS, lpS2, hn.2]
end Go.Proofs.Ytcjjdaifpboaaaa
