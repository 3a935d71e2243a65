/-
  The law TrialKept answers true.
-/
import Derived.Test.YtcjjdaifpboaaaaH8
import Derived.Test.YtcjjdaifpboaaaaTrialPlain
set_option linter.unusedVariables false
set_option linter.unusedSimpArgs false
set_option maxRecDepth 100000
namespace Go.Proofs.Ytcjjdaifpboaaaa
open Go Go.Abs Go.Trial
variable {σ : Stack}

def kOk (s : Step) : Bool := inn s.q 0 1000 && (inn s.d.lo 0 1000 && inn s.d.hi 0 1000)
theorem L_kchk {t : Test} (hl : t.st.length ≤ 12) {f : Int} {x : Cv} : ∀ (m i : Nat), i + m = t.st.length →
    WL T [2, 3, 4, 7] false f_law04_TrialKept_l9 [(2, .int .u16 f), (3, .cref t.enc), (4, .cref x.enc), (7, .int .i64 i)] [[], []]
      (fun x' e σ' => σ' = [[], []] ∧ if allB (t.st.drop i) kOk then x' = .exit 0 ∧ get e 2 = .int .u16 f ∧ get e 3 = .cref t.enc ∧ get e 4 = .cref x.enc else x' = .ret ∧ get e 6 = .bool true)
  | 0, i, hi => by
    refine WL_step e_law04_TrialKept_l9 ?_
    have h1 : ¬ i < t.st.length := by omega
    have h2 : t.st.drop i = [] := List.drop_eq_nil_of_le (by omega)
    simp [-List.length_flatMap, -List.map_take, e_law04_TrialKept_r0, e_law04_TrialKept_r1, e_law04_TrialKept_r2, e_law04_TrialKept_r3, e_law04_TrialKept_r4, e_law04_TrialKept_r5, e_law04_TrialKept_r6, e_law04_TrialKept_r7, e_law04_TrialKept_r8, e_law04_TrialKept_r10, e_law04_TrialKept_r11, e_law04_TrialKept_r12, e_law04_TrialKept_r13, e_law04_TrialKept_r14, e_law04_TrialKept_r15, e_law04_TrialKept_r16, e_law04_TrialKept_r17, e_law04_TrialKept_r18, e_law04_TrialKept_r20, e_law04_TrialKept_r21, e_law04_TrialKept_r22, e_law04_TrialKept_r23, e_law04_TrialKept_r24, e_law04_TrialKept_r25, e_law04_TrialKept_r26, e_law04_TrialKept_r27, e_law04_TrialKept_r28, e_law04_TrialKept_r29, e_law04_TrialKept_r30, e_law04_TrialKept_r31, h1, h2, allB]
  | m + 1, i, hi => by
    refine WL_step e_law04_TrialKept_l9 ?_
    have h1 : i < t.st.length := by omega
    obtain ⟨s, hx⟩ : ∃ x, t.st[i]? = some x := ⟨_, List.getElem?_eq_getElem h1⟩
    have h2 := flat_at (f := Step.enc) (w := 3) (fun _ => rfl) hx
    have h4 := wnext h1 (by omega)
    have h5 : t.st.drop i = s :: t.st.drop (i + 1) := by
      rw [List.drop_eq_getElem_cons h1]
      rw [List.getElem?_eq_getElem h1] at hx; cases hx; rfl
    have ih := L_kchk hl (f := f) (x := x) m (i + 1) (by omega)
    have h6 : allB (t.st.drop i) kOk = (kOk s && allB (t.st.drop (i + 1)) kOk) := by rw [h5]; rfl
    rw [h6]
    simp only [kOk]
    by_cases c1 : inn s.q 0 1000 = true
    rotate_left
    · rw [Bool.not_eq_true] at c1
      simp [-List.length_flatMap, -List.map_take, e_law04_TrialKept_r0, e_law04_TrialKept_r1, e_law04_TrialKept_r2, e_law04_TrialKept_r3, e_law04_TrialKept_r4, e_law04_TrialKept_r5, e_law04_TrialKept_r6, e_law04_TrialKept_r7, e_law04_TrialKept_r8, e_law04_TrialKept_r10, e_law04_TrialKept_r11, e_law04_TrialKept_r12, e_law04_TrialKept_r13, e_law04_TrialKept_r14, e_law04_TrialKept_r15, e_law04_TrialKept_r16, e_law04_TrialKept_r17, e_law04_TrialKept_r18, e_law04_TrialKept_r20, e_law04_TrialKept_r21, e_law04_TrialKept_r22, e_law04_TrialKept_r23, e_law04_TrialKept_r24, e_law04_TrialKept_r25, e_law04_TrialKept_r26, e_law04_TrialKept_r27, e_law04_TrialKept_r28, e_law04_TrialKept_r29, e_law04_TrialKept_r30, e_law04_TrialKept_r31, h1, h2, h4, C_In, c1, C_wakes]
    by_cases c2 : inn s.d.lo 0 1000 = true
    rotate_left
    · rw [Bool.not_eq_true] at c2
      simp [-List.length_flatMap, -List.map_take, e_law04_TrialKept_r0, e_law04_TrialKept_r1, e_law04_TrialKept_r2, e_law04_TrialKept_r3, e_law04_TrialKept_r4, e_law04_TrialKept_r5, e_law04_TrialKept_r6, e_law04_TrialKept_r7, e_law04_TrialKept_r8, e_law04_TrialKept_r10, e_law04_TrialKept_r11, e_law04_TrialKept_r12, e_law04_TrialKept_r13, e_law04_TrialKept_r14, e_law04_TrialKept_r15, e_law04_TrialKept_r16, e_law04_TrialKept_r17, e_law04_TrialKept_r18, e_law04_TrialKept_r20, e_law04_TrialKept_r21, e_law04_TrialKept_r22, e_law04_TrialKept_r23, e_law04_TrialKept_r24, e_law04_TrialKept_r25, e_law04_TrialKept_r26, e_law04_TrialKept_r27, e_law04_TrialKept_r28, e_law04_TrialKept_r29, e_law04_TrialKept_r30, e_law04_TrialKept_r31, h1, h2, h4, C_In, c1, c2, C_wakes]
    by_cases c3 : inn s.d.hi 0 1000 = true
    rotate_left
    · rw [Bool.not_eq_true] at c3
      simp [-List.length_flatMap, -List.map_take, e_law04_TrialKept_r0, e_law04_TrialKept_r1, e_law04_TrialKept_r2, e_law04_TrialKept_r3, e_law04_TrialKept_r4, e_law04_TrialKept_r5, e_law04_TrialKept_r6, e_law04_TrialKept_r7, e_law04_TrialKept_r8, e_law04_TrialKept_r10, e_law04_TrialKept_r11, e_law04_TrialKept_r12, e_law04_TrialKept_r13, e_law04_TrialKept_r14, e_law04_TrialKept_r15, e_law04_TrialKept_r16, e_law04_TrialKept_r17, e_law04_TrialKept_r18, e_law04_TrialKept_r20, e_law04_TrialKept_r21, e_law04_TrialKept_r22, e_law04_TrialKept_r23, e_law04_TrialKept_r24, e_law04_TrialKept_r25, e_law04_TrialKept_r26, e_law04_TrialKept_r27, e_law04_TrialKept_r28, e_law04_TrialKept_r29, e_law04_TrialKept_r30, e_law04_TrialKept_r31, h1, h2, h4, C_In, c1, c2, c3, C_wakes]
    · simp [-List.length_flatMap, -List.map_take, e_law04_TrialKept_r0, e_law04_TrialKept_r1, e_law04_TrialKept_r2, e_law04_TrialKept_r3, e_law04_TrialKept_r4, e_law04_TrialKept_r5, e_law04_TrialKept_r6, e_law04_TrialKept_r7, e_law04_TrialKept_r8, e_law04_TrialKept_r10, e_law04_TrialKept_r11, e_law04_TrialKept_r12, e_law04_TrialKept_r13, e_law04_TrialKept_r14, e_law04_TrialKept_r15, e_law04_TrialKept_r16, e_law04_TrialKept_r17, e_law04_TrialKept_r18, e_law04_TrialKept_r20, e_law04_TrialKept_r21, e_law04_TrialKept_r22, e_law04_TrialKept_r23, e_law04_TrialKept_r24, e_law04_TrialKept_r25, e_law04_TrialKept_r26, e_law04_TrialKept_r27, e_law04_TrialKept_r28, e_law04_TrialKept_r29, e_law04_TrialKept_r30, e_law04_TrialKept_r31, h1, h2, h4, C_In, c1, c2, c3]
      refine WL.to ih (by simp) rfl ?_
      intro x' e σ' hh
      simpa [c1, c2, c3] using hh
theorem C_AgreesNil {p q r : Rg} {a b c : Int} : lim T (.call false i_ref04_Agrees [.agg [.int .i64 p.lo, .int .i64 p.hi, .int .i64 q.lo, .int .i64 q.hi, .int .i64 r.lo, .int .i64 r.hi, .nils], .agg [.int .i64 a, .int .i64 b, .int .i64 c]] σ) = some (.val (.bool (inn a p.lo p.hi && (inn b q.lo q.hi && inn c r.lo r.hi))) σ) := by
  refine call_of T_ref04_Agrees e_ref04_Agrees rfl ?_
  cases h1 : inn a p.lo p.hi
  · simp [-List.length_flatMap, -List.map_take, e_ref04_Agrees_r0, e_ref04_Agrees_r1, e_ref04_Agrees_r2, e_ref04_Agrees_r3, e_ref04_Agrees_r4, e_ref04_Agrees_r5, e_ref04_Agrees_r6, e_ref04_Agrees_r7, e_ref04_Agrees_r9, C_In, h1]
  cases h2 : inn b q.lo q.hi
  · simp [-List.length_flatMap, -List.map_take, e_ref04_Agrees_r0, e_ref04_Agrees_r1, e_ref04_Agrees_r2, e_ref04_Agrees_r3, e_ref04_Agrees_r4, e_ref04_Agrees_r5, e_ref04_Agrees_r6, e_ref04_Agrees_r7, e_ref04_Agrees_r9, C_In, h1, h2]
  cases h3 : inn c r.lo r.hi
  · simp [-List.length_flatMap, -List.map_take, e_ref04_Agrees_r0, e_ref04_Agrees_r1, e_ref04_Agrees_r2, e_ref04_Agrees_r3, e_ref04_Agrees_r4, e_ref04_Agrees_r5, e_ref04_Agrees_r6, e_ref04_Agrees_r7, e_ref04_Agrees_r9, C_In, h1, h2, h3]
  simp [-List.length_flatMap, -List.map_take, e_ref04_Agrees_r0, e_ref04_Agrees_r1, e_ref04_Agrees_r2, e_ref04_Agrees_r3, e_ref04_Agrees_r4, e_ref04_Agrees_r5, e_ref04_Agrees_r6, e_ref04_Agrees_r7, e_ref04_Agrees_r9, C_In, h1, h2, h3]
  refine WL_step e_ref04_Agrees_l8 ?_
  simp [-List.length_flatMap, -List.map_take, e_ref04_Agrees_r0, e_ref04_Agrees_r1, e_ref04_Agrees_r2, e_ref04_Agrees_r3, e_ref04_Agrees_r4, e_ref04_Agrees_r5, e_ref04_Agrees_r6, e_ref04_Agrees_r7, e_ref04_Agrees_r9]
theorem C_TestK {t : Test} (hl : t.st.length ≤ 100000) : lim T (.call true i_law04_Test [.agg [.int .i64 t.a.lo, .int .i64 t.a.hi, .int .i64 t.b.lo, .int .i64 t.b.hi, .int .i64 t.c.lo, .int .i64 t.c.hi, .lst t.st.length (t.st.flatMap Step.enc)]] ([] :: σ)) = some (.val (.agg [.int .i64 t.a.lo, .int .i64 t.a.hi, .int .i64 t.b.lo, .int .i64 t.b.hi, .int .i64 t.c.lo, .int .i64 t.c.hi, .sl σ.length 0 t.st.length 0 t.st.length 3]) ([.cells t.st.length (t.st.flatMap Step.enc)] :: σ)) := by
  refine call_kp T_law04_Test e_law04_Test rfl ?_
  simp [-List.length_flatMap, -List.map_take, e_law04_Test_r0, e_law04_Test_r1, e_law04_Test_r2, e_law04_Test_r3, e_law04_Test_r4, e_law04_Test_r5, e_law04_Test_r7, C_Range]
  refine WL.to (L_Test (σ := σ) hl t.st.length 0 (by omega)) (by simp) (by simp) ?_
  rintro x e σ' ⟨rfl, h1, h2, rfl⟩
  simp [-List.length_flatMap, -List.map_take, h1, h2, e_law04_Test_r7]
theorem k_put : ∀ {l : List Step} {i : Nat} {s : Step} (r : Rg), l[i]? = some s → (l.flatMap Step.enc).take (i * 3 + 1) ++ (D.int .i64 r.lo :: D.int .i64 r.hi :: (l.flatMap Step.enc).drop (i * 3 + 1 + 2)) = (l.set i ⟨s.q, r⟩).flatMap Step.enc
  | [], i, s, r, h => by simp at h
  | a :: l, 0, s, r, h => by
    simp at h
    subst h
    simp
  | a :: l, i + 1, s, r, h => by
    have ih := k_put (l := l) (i := i) r (by simpa using h)
    rw [show (i + 1) * 3 + 1 + 2 = (i * 3 + 1 + 2) + 1 + 1 + 1 by omega, show (i + 1) * 3 + 1 = (i * 3 + 1) + 1 + 1 + 1 by omega]
    simp only [List.flatMap_cons, Step.enc, List.cons_append, List.nil_append, List.take_succ_cons, List.drop_succ_cons, List.set_cons_succ, ih]
/-- The first i steps are made. -/
def mdS (t : Test) (x : Cv) (i : Nat) : List Step := (t.st.take i).map (ktS x) ++ t.st.drop i
theorem md_0 {t : Test} {x : Cv} : mdS t x 0 = t.st := by simp [mdS]
theorem md_n {t : Test} {x : Cv} : mdS t x t.st.length = (kt t x).st := by simp [mdS, kt]
theorem md_len {t : Test} {x : Cv} {i : Nat} : (mdS t x i).length = t.st.length := by simp [mdS]; omega
theorem md_at {t : Test} {x : Cv} {i : Nat} {s : Step} (h : t.st[i]? = some s) : (mdS t x i)[i]? = some s ∧ (mdS t x i).set i (ktS x s) = mdS t x (i + 1) := by
  have h1 := (List.getElem?_eq_some_iff.1 h).1
  have hd : t.st.drop i = s :: t.st.drop (i + 1) := by
    rw [List.drop_eq_getElem_cons h1]
    rw [List.getElem?_eq_getElem h1] at h; cases h; rfl
  have hlen : ((t.st.take i).map (ktS x)).length = i := by simp; omega
  have ht : t.st.take (i + 1) = t.st.take i ++ [s] := by rw [List.take_add_one, h]; rfl
  unfold mdS
  constructor
  · rw [List.getElem?_append_right (by omega), hlen, Nat.sub_self, hd]; rfl
  · rw [List.set_append_right _ _ (by omega), hlen, Nat.sub_self, hd, List.set_cons_zero, ht]
    simp
theorem L_kset {t : Test} {x : Cv} (h : Made t x) {f : Int} : ∀ (m i : Nat), i + m = t.st.length →
    WL T [2, 3, 4, 9, 10, 11] false f_law04_TrialKept_l19 [(2, .int .u16 f), (3, .cref t.enc), (4, .cref x.enc), (9, .own 0 x.enc), (10, .own 0 [.int .i64 t.a.lo, .int .i64 t.a.hi, .int .i64 t.b.lo, .int .i64 t.b.hi, .int .i64 t.c.lo, .int .i64 t.c.hi, .sl σ.length 0 t.st.length 0 t.st.length 3]), (11, .int .i64 i)] ([.cells t.st.length ((mdS t x i).flatMap Step.enc)] :: σ)
      (fun x' e σ' => σ' = [.cells t.st.length ((kt t x).st.flatMap Step.enc)] :: σ ∧ x' = .exit 2 ∧ get e 2 = .int .u16 f ∧ get e 4 = .cref x.enc ∧ get e 9 = .own 0 x.enc ∧ get e 10 = .own 0 [.int .i64 t.a.lo, .int .i64 t.a.hi, .int .i64 t.b.lo, .int .i64 t.b.hi, .int .i64 t.c.lo, .int .i64 t.c.hi, .sl σ.length 0 t.st.length 0 t.st.length 3])
  | 0, i, hi => by
    refine WL_step e_law04_TrialKept_l19 ?_
    have h1 : ¬ i < t.st.length := by omega
    have h2 : i = t.st.length := by omega
    subst h2
    simp [-List.length_flatMap, -List.map_take, e_law04_TrialKept_r0, e_law04_TrialKept_r1, e_law04_TrialKept_r2, e_law04_TrialKept_r3, e_law04_TrialKept_r4, e_law04_TrialKept_r5, e_law04_TrialKept_r6, e_law04_TrialKept_r7, e_law04_TrialKept_r8, e_law04_TrialKept_r10, e_law04_TrialKept_r11, e_law04_TrialKept_r12, e_law04_TrialKept_r13, e_law04_TrialKept_r14, e_law04_TrialKept_r15, e_law04_TrialKept_r16, e_law04_TrialKept_r17, e_law04_TrialKept_r18, e_law04_TrialKept_r20, e_law04_TrialKept_r21, e_law04_TrialKept_r22, e_law04_TrialKept_r23, e_law04_TrialKept_r24, e_law04_TrialKept_r25, e_law04_TrialKept_r26, e_law04_TrialKept_r27, e_law04_TrialKept_r28, e_law04_TrialKept_r29, e_law04_TrialKept_r30, e_law04_TrialKept_r31, md_n]
  | m + 1, i, hi => by
    refine WL_step e_law04_TrialKept_l19 ?_
    have h1 : i < t.st.length := by omega
    obtain ⟨s, hx⟩ : ∃ x, t.st[i]? = some x := ⟨_, List.getElem?_eq_getElem h1⟩
    have h2 := flat_at (f := Step.enc) (w := 3) (fun _ => rfl) hx
    have hn := h.n
    have h4 := wnext h1 (by omega)
    have hs := h.s s (List.mem_of_getElem? hx)
    obtain ⟨b1, b2, b3⟩ := made_box h
    have hd := made_drop h hs.1
    have hD := fun σ => @C_Drop σ x.a x.b x.c s.q ⟨hs.1, by omega, b2, b3⟩
    simp only [Cv.eta] at hD
    have w1 := w64 (n := Cv.drop x s.q - s.d.lo) (by omega)
    have w2 := w64 (n := Cv.drop x s.q + s.d.hi) (by omega)
    obtain ⟨m1, m2⟩ := md_at (x := x) hx
    have ih := L_kset h (f := f) m (i + 1) (by omega)
    have hp := k_put (ktS x s).d m1
    rw [show (⟨s.q, (ktS x s).d⟩ : Step) = ktS x s from rfl, m2] at hp
    simp only [show (ktS x s).d.lo = Cv.drop x s.q - s.d.lo from rfl, show (ktS x s).d.hi = Cv.drop x s.q + s.d.hi from rfl] at hp
    have hfl := flat_len (f := Step.enc) (w := 3) (fun _ => rfl) (mdS t x i)
    rw [md_len] at hfl
    have q1 : i * 3 + 1 + 2 ≤ t.st.length * 3 := by omega
    simp [-List.length_flatMap, -List.map_take, e_law04_TrialKept_r0, e_law04_TrialKept_r1, e_law04_TrialKept_r2, e_law04_TrialKept_r3, e_law04_TrialKept_r4, e_law04_TrialKept_r5, e_law04_TrialKept_r6, e_law04_TrialKept_r7, e_law04_TrialKept_r8, e_law04_TrialKept_r10, e_law04_TrialKept_r11, e_law04_TrialKept_r12, e_law04_TrialKept_r13, e_law04_TrialKept_r14, e_law04_TrialKept_r15, e_law04_TrialKept_r16, e_law04_TrialKept_r17, e_law04_TrialKept_r18, e_law04_TrialKept_r20, e_law04_TrialKept_r21, e_law04_TrialKept_r22, e_law04_TrialKept_r23, e_law04_TrialKept_r24, e_law04_TrialKept_r25, e_law04_TrialKept_r26, e_law04_TrialKept_r27, e_law04_TrialKept_r28, e_law04_TrialKept_r29, e_law04_TrialKept_r30, e_law04_TrialKept_r31, h1, h2, h4, hD, w1, w2, hfl, q1, hp]
    exact WL.to ih (by simp) (by simp) fun x e σ' hh => hh
theorem kz {l : List Step} {n : Nat} (hn : l.length = n) : frz 0 16 (.sl 1 0 n 0 n 3) [[.cells n (l.flatMap Step.enc)], []] = (.lst n (l.flatMap Step.enc), [[.dead], []]) := by
  subst hn
  exact k_frz (f := Step.enc) (w := 3) (fun _ => rfl) (fun x => by simp) (σ := [[]]) (by simp) rfl
def lastT (t : Test) : Test := ⟨t.a, t.b, t.c, t.st.take (t.st.length - 1)⟩
theorem last_few (t : Test) : Fewer (lastT t) t := ⟨rfl, rfl, rfl, fun s hs => List.mem_of_mem_take hs⟩
theorem take_flat : ∀ (l : List Step) (n : Nat), (l.take n).flatMap Step.enc = (l.flatMap Step.enc).take (n * 3)
  | [], n => by simp
  | a :: l, 0 => by simp
  | a :: l, n + 1 => by
    rw [show (n + 1) * 3 = n * 3 + 1 + 1 + 1 by omega]
    simp [take_flat l n]
set_option maxHeartbeats 4000000 in
theorem law_Kept {t : Test} {x : Cv} {f : Int} (hf : 0 ≤ f ∧ f ≤ 65535) : lim T (.call false i_law04_TrialKept [.agg [.int .i64 t.a.lo, .int .i64 t.a.hi, .int .i64 t.b.lo, .int .i64 t.b.hi, .int .i64 t.c.lo, .int .i64 t.c.hi, .lst t.st.length (t.st.flatMap Step.enc)], .agg x.enc, .int .u16 f] [[]]) = some (.val (.bool true) [[]]) := by
  refine call_of T_law04_TrialKept e_law04_TrialKept rfl ?_
  by_cases hl : t.st.length ≤ 12
  rotate_left
  · have h1 : (12 : Int) < t.st.length := by omega
    simp [-List.length_flatMap, -List.map_take, e_law04_TrialKept_r0, e_law04_TrialKept_r1, e_law04_TrialKept_r2, e_law04_TrialKept_r3, e_law04_TrialKept_r4, e_law04_TrialKept_r5, e_law04_TrialKept_r6, e_law04_TrialKept_r7, e_law04_TrialKept_r8, e_law04_TrialKept_r10, e_law04_TrialKept_r11, e_law04_TrialKept_r12, e_law04_TrialKept_r13, e_law04_TrialKept_r14, e_law04_TrialKept_r15, e_law04_TrialKept_r16, e_law04_TrialKept_r17, e_law04_TrialKept_r18, e_law04_TrialKept_r20, e_law04_TrialKept_r21, e_law04_TrialKept_r22, e_law04_TrialKept_r23, e_law04_TrialKept_r24, e_law04_TrialKept_r25, e_law04_TrialKept_r26, e_law04_TrialKept_r27, e_law04_TrialKept_r28, e_law04_TrialKept_r29, e_law04_TrialKept_r30, e_law04_TrialKept_r31, h1, C_wakes]
  have h1 : ¬ (12 : Int) < t.st.length := by omega
  by_cases x1 : inn x.a 0 100000 = true
  rotate_left
  · rw [Bool.not_eq_true] at x1
    simp [-List.length_flatMap, -List.map_take, e_law04_TrialKept_r0, e_law04_TrialKept_r1, e_law04_TrialKept_r2, e_law04_TrialKept_r3, e_law04_TrialKept_r4, e_law04_TrialKept_r5, e_law04_TrialKept_r6, e_law04_TrialKept_r7, e_law04_TrialKept_r8, e_law04_TrialKept_r10, e_law04_TrialKept_r11, e_law04_TrialKept_r12, e_law04_TrialKept_r13, e_law04_TrialKept_r14, e_law04_TrialKept_r15, e_law04_TrialKept_r16, e_law04_TrialKept_r17, e_law04_TrialKept_r18, e_law04_TrialKept_r20, e_law04_TrialKept_r21, e_law04_TrialKept_r22, e_law04_TrialKept_r23, e_law04_TrialKept_r24, e_law04_TrialKept_r25, e_law04_TrialKept_r26, e_law04_TrialKept_r27, e_law04_TrialKept_r28, e_law04_TrialKept_r29, e_law04_TrialKept_r30, e_law04_TrialKept_r31, h1, C_In, x1, C_wakes]
  by_cases x2 : inn x.b 0 10000 = true
  rotate_left
  · rw [Bool.not_eq_true] at x2
    simp [-List.length_flatMap, -List.map_take, e_law04_TrialKept_r0, e_law04_TrialKept_r1, e_law04_TrialKept_r2, e_law04_TrialKept_r3, e_law04_TrialKept_r4, e_law04_TrialKept_r5, e_law04_TrialKept_r6, e_law04_TrialKept_r7, e_law04_TrialKept_r8, e_law04_TrialKept_r10, e_law04_TrialKept_r11, e_law04_TrialKept_r12, e_law04_TrialKept_r13, e_law04_TrialKept_r14, e_law04_TrialKept_r15, e_law04_TrialKept_r16, e_law04_TrialKept_r17, e_law04_TrialKept_r18, e_law04_TrialKept_r20, e_law04_TrialKept_r21, e_law04_TrialKept_r22, e_law04_TrialKept_r23, e_law04_TrialKept_r24, e_law04_TrialKept_r25, e_law04_TrialKept_r26, e_law04_TrialKept_r27, e_law04_TrialKept_r28, e_law04_TrialKept_r29, e_law04_TrialKept_r30, e_law04_TrialKept_r31, h1, C_In, x1, x2, C_wakes]
  by_cases x3 : inn x.c 0 1000 = true
  rotate_left
  · rw [Bool.not_eq_true] at x3
    simp [-List.length_flatMap, -List.map_take, e_law04_TrialKept_r0, e_law04_TrialKept_r1, e_law04_TrialKept_r2, e_law04_TrialKept_r3, e_law04_TrialKept_r4, e_law04_TrialKept_r5, e_law04_TrialKept_r6, e_law04_TrialKept_r7, e_law04_TrialKept_r8, e_law04_TrialKept_r10, e_law04_TrialKept_r11, e_law04_TrialKept_r12, e_law04_TrialKept_r13, e_law04_TrialKept_r14, e_law04_TrialKept_r15, e_law04_TrialKept_r16, e_law04_TrialKept_r17, e_law04_TrialKept_r18, e_law04_TrialKept_r20, e_law04_TrialKept_r21, e_law04_TrialKept_r22, e_law04_TrialKept_r23, e_law04_TrialKept_r24, e_law04_TrialKept_r25, e_law04_TrialKept_r26, e_law04_TrialKept_r27, e_law04_TrialKept_r28, e_law04_TrialKept_r29, e_law04_TrialKept_r30, e_law04_TrialKept_r31, h1, C_In, x1, x2, x3, C_wakes]
  simp [-List.length_flatMap, -List.map_take, e_law04_TrialKept_r0, e_law04_TrialKept_r1, e_law04_TrialKept_r2, e_law04_TrialKept_r3, e_law04_TrialKept_r4, e_law04_TrialKept_r5, e_law04_TrialKept_r6, e_law04_TrialKept_r7, e_law04_TrialKept_r8, e_law04_TrialKept_r10, e_law04_TrialKept_r11, e_law04_TrialKept_r12, e_law04_TrialKept_r13, e_law04_TrialKept_r14, e_law04_TrialKept_r15, e_law04_TrialKept_r16, e_law04_TrialKept_r17, e_law04_TrialKept_r18, e_law04_TrialKept_r20, e_law04_TrialKept_r21, e_law04_TrialKept_r22, e_law04_TrialKept_r23, e_law04_TrialKept_r24, e_law04_TrialKept_r25, e_law04_TrialKept_r26, e_law04_TrialKept_r27, e_law04_TrialKept_r28, e_law04_TrialKept_r29, e_law04_TrialKept_r30, e_law04_TrialKept_r31, h1, C_In, x1, x2, x3]
  refine WL.to (L_kchk hl (f := f) (x := x) t.st.length 0 (by omega)) (by simp) rfl ?_
  rintro x' e σ' ⟨rfl, hh⟩
  rw [List.drop_zero] at hh
  cases hA : allB t.st kOk
  · rw [hA] at hh
    simp only [Bool.false_eq_true, if_false] at hh
    obtain ⟨rfl, g6⟩ := hh
    simp [g6]
  rw [hA] at hh
  simp only [if_true] at hh
  obtain ⟨rfl, g2, g3, g4⟩ := hh
  simp only [Test.enc] at g3
  simp only [Cv.enc] at g4
  by_cases r1 : t.a.right 0 100000 = true
  rotate_left
  · rw [Bool.not_eq_true] at r1
    simp [-List.length_flatMap, -List.map_take, e_law04_TrialKept_r10, e_law04_TrialKept_r11, g2, g3, g4, C_Right, r1, C_wakes]
  by_cases r2 : t.b.right 0 10000 = true
  rotate_left
  · rw [Bool.not_eq_true] at r2
    simp [-List.length_flatMap, -List.map_take, e_law04_TrialKept_r10, e_law04_TrialKept_r11, g2, g3, g4, C_Right, r1, r2, C_wakes]
  by_cases r3 : t.c.right 0 1000 = true
  rotate_left
  · rw [Bool.not_eq_true] at r3
    simp [-List.length_flatMap, -List.map_take, e_law04_TrialKept_r10, e_law04_TrialKept_r11, g2, g3, g4, C_Right, r1, r2, r3, C_wakes]
  have i1 := r1
  have i2 := r2
  have i3 := r3
  simp only [Rg.right, Bool.and_eq_true, decide_eq_true_eq] at i1 i2 i3
  have w1 := w64 (n := t.b.hi - t.b.lo) (by omega)
  have w2 := w64 (n := t.c.hi - t.c.lo) (by omega)
  by_cases r4 : 39 < t.b.hi - t.b.lo
  · simp [-List.length_flatMap, -List.map_take, e_law04_TrialKept_r10, e_law04_TrialKept_r11, g2, g3, g4, C_Right, r1, r2, r3, w1, w2, r4, C_wakes]
  by_cases r5 : 39 < t.c.hi - t.c.lo
  · simp [-List.length_flatMap, -List.map_take, e_law04_TrialKept_r10, e_law04_TrialKept_r11, g2, g3, g4, C_Right, r1, r2, r3, w1, w2, r4, r5, C_wakes]
  by_cases r6 : inn x.a t.a.lo t.a.hi = true
  rotate_left
  · rw [Bool.not_eq_true] at r6
    simp [-List.length_flatMap, -List.map_take, e_law04_TrialKept_r10, e_law04_TrialKept_r11, g2, g3, g4, C_Right, r1, r2, r3, w1, w2, r4, r5, C_AgreesNil, C_wakes, r6]
  by_cases r7 : inn x.b t.b.lo t.b.hi = true
  rotate_left
  · rw [Bool.not_eq_true] at r7
    simp [-List.length_flatMap, -List.map_take, e_law04_TrialKept_r10, e_law04_TrialKept_r11, g2, g3, g4, C_Right, r1, r2, r3, w1, w2, r4, r5, C_AgreesNil, C_wakes, r6, r7]
  by_cases r8 : inn x.c t.c.lo t.c.hi = true
  rotate_left
  · rw [Bool.not_eq_true] at r8
    simp [-List.length_flatMap, -List.map_take, e_law04_TrialKept_r10, e_law04_TrialKept_r11, g2, g3, g4, C_Right, r1, r2, r3, w1, w2, r4, r5, C_AgreesNil, C_wakes, r6, r7, r8]
  have hM : Made t x := ⟨hl, by simp only [boxOk, r1, r2, r3, Bool.true_and, Bool.and_eq_true, decide_eq_true_eq]; omega, inn_iff.1 r6, inn_iff.1 r7, inn_iff.1 r8, fun s hs => by
    rw [allB_iff] at hA
    have := hA s hs
    simp only [kOk, Bool.and_eq_true, inn_iff] at this
    exact this⟩
  have hK := @C_TestK [[]] t (by omega)
  simp [-List.length_flatMap, -List.map_take, e_law04_TrialKept_r10, e_law04_TrialKept_r11, e_law04_TrialKept_r12, e_law04_TrialKept_r13, e_law04_TrialKept_r14, g2, g3, g4, C_Right, r1, r2, r3, w1, w2, r4, r5, C_AgreesNil, r6, r7, r8, hK]
  refine WL.to (L_kset (σ := [[]]) hM (f := f) t.st.length 0 (by omega)) (by simp) (by simp [md_0]) ?_
  clear g2 g3 g4
  rintro x' e σ' ⟨rfl, rfl, g2, g4, g9, g10⟩
  have hlen : (kt t x).st.length = t.st.length := by simp [kt]
  have hz := kz (l := (kt t x).st) hlen
  simp only [Cv.enc] at g4 g9
  simp only [List.length_cons, List.length_nil, Nat.zero_add] at g10
  generalize hq : f % 1001 = q
  have hqr : 0 ≤ q ∧ q ≤ 1000 := by omega
  have e1 : f.tmod 1001 = q := by rw [Int.tmod_eq_emod_of_nonneg hf.1]; exact hq
  have w3 := w64 (n := f) (by omega)
  simp [-List.length_flatMap, -List.map_take, e_law04_TrialKept_r20, g2, g4, g9, g10, hz, w3, e1]
  have hA0 := made_agr hM
  have hF0 := made_fault hM
  have hne : sets (kt t x) ≠ [] := List.ne_nil_of_mem (agr_mem hA0)
  have hsE : (sets (kt t x)).isEmpty = false := by
    cases hh : sets (kt t x) with
    | nil => exact absurd hh hne
    | cons y ys => rfl
  have hqi : inn q 0 1000 = true := inn_iff.2 hqr
  have hag : agT (kt t x) ⟨x.a, x.b, x.c⟩ = true := by
    simp only [agT, agB, hF0, decide_true, Bool.true_and, Bool.and_eq_true, inn_iff, allB_iff, agS]
    exact ⟨⟨hA0.a, hA0.b, hA0.c⟩, hA0.s⟩
  have c1 := fun σ (hσ : σ ≠ []) => @C_curves σ (kt t x) (by omega) hσ
  have c2 := fun σ (hσ : σ ≠ []) => @C_drawP σ (kt t x) (by omega) q hσ
  have c3 := fun σ => @C_agrees σ (kt t x) (by omega) x.a x.b x.c
  obtain ⟨b1, b2, b3⟩ := made_box hM
  have c4 := fun σ => @C_Drop σ x.a x.b x.c q ⟨hqr, by omega, b2, b3⟩
  simp only [Cv.eta] at c4
  rw [hag] at c3
  simp only [curvesD, hF0, hsE, if_true, Bool.false_eq_true, if_false, drawP, hqi, hlen, Rg.enc, show (kt t x).a = t.a from rfl, show (kt t x).b = t.b from rfl, show (kt t x).c = t.c from rfl] at c1 c2 c3
  have f1 := agr_many hA0
  have f2 := agr_a hA0
  have f3 := agr_b hA0
  have f4 := agr_c hA0
  have f5 := agr_d hA0 q
  have n1 : ¬ manyOf (sets (kt t x)) < 1 := by omega
  have n2 : ¬ x.a < (aOf (sets (kt t x))).lo := by omega
  have n3 : ¬ (aOf (sets (kt t x))).hi < x.a := by omega
  have n4 : ¬ x.b < (bOf (sets (kt t x))).lo := by omega
  have n5 : ¬ (bOf (sets (kt t x))).hi < x.b := by omega
  have n6 : ¬ x.c < (cOf (sets (kt t x))).lo := by omega
  have n7 : ¬ (cOf (sets (kt t x))).hi < x.c := by omega
  have n8 : ¬ Cv.drop x q < (dOf q (sets (kt t x))).lo := by omega
  have n9 : ¬ (dOf q (sets (kt t x))).hi < Cv.drop x q := by omega
  by_cases h0 : t.st.length = 0
  · have h0' : t.st = [] := List.eq_nil_of_length_eq_zero h0
    have h0'' : (kt t x).st = [] := by simp [kt, h0']
    rw [h0''] at c1 c2 c3 ⊢
    simp only [h0, List.flatMap_nil] at c1 c2 c3 ⊢
    simp [-List.length_flatMap, -List.map_take, e_law04_TrialKept_r21, e_law04_TrialKept_r22, e_law04_TrialKept_r23, e_law04_TrialKept_r24, e_law04_TrialKept_r25, e_law04_TrialKept_r26, e_law04_TrialKept_r27, c1, c2, c3, c4, n1, n2, n3, n4, n5, n6, n7, n8, n9, C_wakesD]
  obtain ⟨n, hn⟩ : ∃ n, t.st.length = n + 1 := ⟨t.st.length - 1, by omega⟩
  have hL := last_few (kt t x)
  have hLl : (lastT (kt t x)).st.length = n := by simp [lastT, hlen, hn]
  have hLf : (lastT (kt t x)).st.flatMap Step.enc = ((kt t x).st.flatMap Step.enc).take (n * 3) := by
    rw [← take_flat]
    simp [lastT, hlen, hn]
  have hLF : fault (lastT (kt t x)) = 0 := few_fault hL (by omega) hF0
  have hLE : (sets (lastT (kt t x))).isEmpty = false := by
    cases hh : sets (lastT (kt t x)) with
    | nil => exact absurd hh (few_ne hL hne)
    | cons y ys => rfl
  have d1 := fun σ (hσ : σ ≠ []) => @C_curves σ (lastT (kt t x)) (by omega) hσ
  have d2 := fun σ (hσ : σ ≠ []) => @C_drawP σ (lastT (kt t x)) (by omega) q hσ
  simp only [curvesD, hLF, hLE, if_true, Bool.false_eq_true, if_false, drawP, hqi, hLl, hLf, Rg.enc, show (lastT (kt t x)).a = t.a from rfl, show (lastT (kt t x)).b = t.b from rfl, show (lastT (kt t x)).c = t.c from rfl] at d1 d2
  have k1 : manyOf (sets (kt t x)) ≤ manyOf (sets (lastT (kt t x))) := by
    have := many_wider hL (pairs (kt t x))
    unfold sets
    rw [few_pairs hL]
    exact this
  have k2 := a_wider hL hne
  have k3 := b_wider hL hne
  have k4 := c_wider hL hne
  have k5 := d_wider hL hne q
  have e7 : ((n : Int) + 1) - 1 = n := by omega
  have e9 : ¬ ((n : Int) + 1 = 0) := by omega
  have w7 := w64 (n := (n : Int)) (by omega)
  have e8 : (n : Int) ≤ (n : Int) + 1 := by omega
  have e10 : n ≤ n + 1 := by omega
  rw [hn] at c1 c2 c3 ⊢
  simp [-List.length_flatMap, -List.map_take, e_law04_TrialKept_r21, e_law04_TrialKept_r22, e_law04_TrialKept_r23, e_law04_TrialKept_r24, e_law04_TrialKept_r25, e_law04_TrialKept_r26, e_law04_TrialKept_r27, e_law04_TrialKept_r28, e_law04_TrialKept_r29, e_law04_TrialKept_r30, e_law04_TrialKept_r31, c1, c2, c3, c4, n1, n2, n3, n4, n5, n6, n7, n8, n9, e7, e8, e9, e10, w7, d1, d2, k1, k2, k3, k4, k5, C_wakesD]
theorem cvk_of {d : D} (h : (Ty.struct [.int .i64, .int .i64, .int .i64]).hasV d) : ∃ c : Cv, d = .agg c.enc := by
  obtain ⟨ds, rfl, h⟩ := h
  obtain ⟨_, _, rfl, ⟨a, rfl, _⟩, _, _, rfl, ⟨b, rfl, _⟩, _, _, rfl, ⟨c, rfl, _⟩, rfl⟩ := h
  exact ⟨⟨a, b, c⟩, rfl⟩
theorem go_TrialKept (x0 x1 x2 : D) (t0 : tyTest.hasV x0) (t1 : (Ty.struct [.int .i64, .int .i64, .int .i64]).hasV x1) (t2 : (Ty.int .u16).hasV x2) :
    ∃ σ', lim T (.call false i_law04_TrialKept [x0, x1, x2] [[]]) = some (.val (.bool true) σ') := by
  obtain ⟨t, rfl⟩ := test_of t0
  obtain ⟨c, rfl⟩ := cvk_of t1
  obtain ⟨f, rfl, hf⟩ := u16_of t2
  exact ⟨_, law_Kept hf⟩
end Go.Proofs.Ytcjjdaifpboaaaa
