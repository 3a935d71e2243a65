/-
  Programmes of layer 11: the table, the least cost, the cheapest plan, of the program.
-/
import Derived.Test.YtcccafphhmcifaaGreatE3
set_option linter.unusedVariables false
set_option linter.unusedSimpArgs false
namespace Go.Proofs.YtcccafphhmcifaaGreat
open Go Go.Abs Go.Lease
variable {σ : Stack}

@[simp] def ladE (l : List Rn) : List D := [.lst l.length (l.flatMap Rn.enc)]
def lpTab (L : Nat) : LoopSt := { state := 0, pend := none, env := [(2, .nils), (3, .ref L 1 0 0)], params := [13, 14], asg := f_lease_work_table_a6, body := f_lease_work_table_b6 }
def stTab (p : Pg) (j : Nat) (σ : Stack) : Stack :=
  [.cells 0 (List.replicate j .nils ++ (lads p (p.l.drop j)).flatMap ladE), .cells 0 [.sl σ.length 0 0 0 p.l.length 1], .loop (lpTab σ.length)] :: σ
theorem lads_drop {p : Pg} {j : Nat} {y : Yr} (hy : p.l[j]? = some y) : lads p (p.l.drop j) = ladF p (p.l.drop j) :: lads p (p.l.drop (j + 1)) ∧ ladF p (p.l.drop j) = ladL p y (ladF p (p.l.drop (j + 1))) := by
  rw [dropS hy]
  exact ⟨rfl, rfl⟩
theorem ladF_right {p : Pg} (hp : pgOk p = true) {j : Nat} : rightL (ladF p (p.l.drop j)) = true ∧ LOk p (p.l.drop j) (ladF p (p.l.drop j)) := by
  have hp1 := pgOk_iff.1 hp
  have hy : ∀ y ∈ p.l.drop j, yrOk y = true := fun y h => hp1.2.2.2.2.2 y (List.mem_of_mem_drop h)
  have hn : (p.l.drop j).length ≤ 8 := by simp; omega
  have h := ladF_ok hp _ hy hn
  exact ⟨rightL_ok hp hy hn h, h⟩
theorem R_tab {p : Pg} (hp : pgOk p = true) {j : Nat} {y : Yr} (hy : p.l[j]? = some y) :
    lim T (.round σ.length 2 [.int .i64 j, .lst (ladF p (p.l.drop j)).length ((ladF p (p.l.drop j)).flatMap Rn.enc)] ([.dead] :: [] :: stTab p (j + 1) σ)) = some (.val (.bool true) ([.dead] :: [] :: stTab p j σ)) := by
  have hj := (List.getElem?_eq_some_iff.1 hy).1
  have hl := (lads_drop hy).1
  have e0 : (lads p (p.l.drop j)).flatMap ladE = ladE (ladF p (p.l.drop j)) ++ (lads p (p.l.drop (j + 1))).flatMap ladE := by rw [hl]; simp
  have e1 : (List.replicate (j + 1) D.nils ++ (lads p (p.l.drop (j + 1))).flatMap ladE).take j = List.replicate j D.nils := by
    rw [List.take_append_of_le_length (by simp)]; simp
  have e2 : (List.replicate (j + 1) D.nils ++ (lads p (p.l.drop (j + 1))).flatMap ladE).drop (j + 1) = (lads p (p.l.drop (j + 1))).flatMap ladE := by
    rw [List.drop_append_of_le_length (by simp)]; simp
  refine round_of (lp := lpTab σ.length) (by simp [stTab]) rfl ?_
  rw [show (lpTab σ.length).asg = f_lease_work_table_a6 from rfl, e_lease_work_table_a6, show (lpTab σ.length).body = f_lease_work_table_b6 from rfl]
  generalize ladF p (p.l.drop j) = l at *
  have hlen : j + 1 ≤ (List.replicate (j + 1) D.nils ++ (lads p (p.l.drop (j + 1))).flatMap ladE).length := by simp
  simp only [stTab, e0]
  generalize List.replicate (j + 1) D.nils ++ (lads p (p.l.drop (j + 1))).flatMap ladE = F at *
  simp [-List.length_flatMap, -List.map_take, e_lease_work_table_r0, e_lease_work_table_r1, e_lease_work_table_r2, e_lease_work_table_r3, e_lease_work_table_r4, e_lease_work_table_r5, e_lease_work_table_r7, lpTab, midR]
  rw [e_lease_work_table_b6]
  simp [-List.length_flatMap, -List.map_take, e_lease_work_table_r0, e_lease_work_table_r1, e_lease_work_table_r2, e_lease_work_table_r3, e_lease_work_table_r4, e_lease_work_table_r5, e_lease_work_table_r7, hj, hlen, e1, e2]
  rw [e0]
  simp
@[simp] theorem frz_yld_low {l n l' i : Nat} {σ : Stack} (h : l' ≤ l) (hn : 0 < n) : frz l n (.yld l' i) σ = (.yld l' i, σ) := by
  cases n with
  | zero => omega
  | succ n => simp [frz, D.clean, h]
@[simp] theorem stTab_len {p : Pg} {j : Nat} : (stTab p j σ).length = σ.length + 1 := rfl
theorem brks_len {p : Pg} {y : Yr} {next : List Rn} : ∀ (n : Nat) (k : Int), (brks p y next n k).length ≤ n * (1 + next.dropLast.length)
  | 0, k => by simp [brks]
  | n + 1, k => by
    have := brks_len (p := p) (y := y) (next := next) n (k + 1)
    have := brkK_len (p := p) (y := y) (next := next) (k := k)
    simp only [brks, List.length_append, Nat.succ_mul]; omega
theorem breaks_len {p : Pg} (hp : pgOk p = true) {y : Yr} {next : List Rn} (hr : rightL next = true) : (breaksL p y next).length ≤ 1000000 := by
  have hp1 := pgOk_iff.1 hp
  have hl := (rightL_iff.1 hr).2.2.1
  have h1 := brks_len (p := p) (y := y) (next := next) (p.most.toNat + 1) 0
  have h2 := Nat.mul_le_mul (show p.most.toNat + 1 ≤ 4 by omega) (show 1 + next.dropLast.length ≤ 70001 by rw [drop_last_len]; omega)
  have h3 := compI_length (sortI ([held] ++ brks p y next (p.most.toNat + 1) 0))
  rw [sortI_length] at h3
  simp only [List.length_append, List.length_cons, List.length_nil] at h3
  unfold breaksL
  omega
theorem L_lad {p : Pg} (hp : pgOk p = true) : ∀ (j : Nat), j ≤ p.l.length →
    WL T [0, 1, 3, 4] true f_lease_work_ladders_1_l17 [(0, .yld σ.length 2), (1, .cref p.enc), (3, .lst (ladF p (p.l.drop j)).length ((ladF p (p.l.drop j)).flatMap Rn.enc)), (4, .int .i64 ((j : Int) - 1))] ([] :: stTab p j σ)
      (fun x e σ' => x = .exit 0 ∧ σ' = [] :: stTab p 0 σ)
  | 0, hj => by
    refine WL_stepS e_lease_work_ladders_1_l17 ?_
    simp [-List.length_flatMap, -List.map_take, e_lease_work_ladders_1_r0, e_lease_work_ladders_1_r1, e_lease_work_ladders_1_r2, e_lease_work_ladders_1_r3, e_lease_work_ladders_1_r4, e_lease_work_ladders_1_r5, e_lease_work_ladders_1_r6, e_lease_work_ladders_1_r7, e_lease_work_ladders_1_r8, e_lease_work_ladders_1_r9, e_lease_work_ladders_1_r10, e_lease_work_ladders_1_r11, e_lease_work_ladders_1_r12, e_lease_work_ladders_1_r14, e_lease_work_ladders_1_r15, e_lease_work_ladders_1_r16, stTab]
  | j + 1, hj => by
    refine WL_stepS e_lease_work_ladders_1_l17 ?_
    have hp1 := pgOk_iff.1 hp
    obtain ⟨y, hy⟩ : ∃ x, p.l[j]? = some x := ⟨_, List.getElem?_eq_getElem hj⟩
    have hn := ladF_right hp (j := j + 1)
    have hB := fun σ (hσ : σ ≠ []) => C_breaks (σ := σ) hp hy hn.1 hσ
    have hbd := breaksL_bd (p := p) (y := y) (next := ladF p (p.l.drop (j + 1))) hp1.2.2.2.1.1
    have ih := L_lad hp j (by omega)
    have hR := R_tab (σ := σ) hp hy
    rw [(lads_drop hy).2] at hR ih
    have e0 : ((j + 1 : Nat) : Int) - 1 = (j : Int) := by omega
    have w1 := w64 (n := (j : Int) - 1) (by omega)
    have c1 : (0 : Int) ≤ j := by omega
    rw [e0]
    generalize ladF p (p.l.drop (j + 1)) = next at *
    simp [-List.length_flatMap, -List.map_take, e_lease_work_ladders_1_r0, e_lease_work_ladders_1_r1, e_lease_work_ladders_1_r2, e_lease_work_ladders_1_r3, e_lease_work_ladders_1_r4, e_lease_work_ladders_1_r5, e_lease_work_ladders_1_r6, e_lease_work_ladders_1_r7, e_lease_work_ladders_1_r8, e_lease_work_ladders_1_r9, e_lease_work_ladders_1_r10, e_lease_work_ladders_1_r11, e_lease_work_ladders_1_r12, e_lease_work_ladders_1_r14, e_lease_work_ladders_1_r15, e_lease_work_ladders_1_r16, c1, hB]
    refine WL.to (L_now (σ := [] :: stTab p (j + 1) σ) hp hy hn.1 hbd (breaks_len hp hn.1) (yl := σ.length) (yi := 2) (breaksL p y next).length 0 0 (by omega)) (by simp [buildL]) (by simp [buildL]) ?_
    rintro x e σ' ⟨v, rfl, g0, g1, g3, g4, g5, rfl⟩
    have hlad : buildL (leastW p y (costI next)) (breaksL p y next) = ladL p y next := rfl
    rw [hlad] at g5 ⊢
    generalize ladL p y next = l at *
    have hf := k_frz (f := Rn.enc) (w := 2) (fun _ => rfl) (fun x => by simp) (l := l) (j := 0) (v := v) (bs := [.cells v (l.flatMap Rn.enc)]) (σ := [] :: stTab p (j + 1) σ) (by simp) rfl
    simp at hf g5
    simp [-List.length_flatMap, -List.map_take, e_lease_work_ladders_1_r14, e_lease_work_ladders_1_r15, e_lease_work_ladders_1_r16, g0, g1, g3, g4, g5, hf, hR, w1]
    exact WL.to ih (by simp) rfl fun x e σ hh => hh
theorem C_ladders1 {p : Pg} (hp : pgOk p = true) : lim T (.call false i_lease_work_ladders_1 [.yld σ.length 2, .cref p.enc] (stTab p p.l.length σ)) = some (.val (.tup []) (stTab p 0 σ)) := by
  refine call_to T_lease_work_ladders_1 e_lease_work_ladders_1 rfl (by simp) ?_
  have hp1 := pgOk_iff.1 hp
  have w1 := w64 (n := (p.l.length : Int) - 1) (by omega)
  have hL := L_lad (σ := σ) hp p.l.length (Nat.le_refl _)
  rw [List.drop_length] at hL
  simp [-List.length_flatMap, -List.map_take, e_lease_work_ladders_1_r0, e_lease_work_ladders_1_r1, e_lease_work_ladders_1_r2, e_lease_work_ladders_1_r3, e_lease_work_ladders_1_r4, e_lease_work_ladders_1_r5, e_lease_work_ladders_1_r6, e_lease_work_ladders_1_r7, e_lease_work_ladders_1_r8, e_lease_work_ladders_1_r9, e_lease_work_ladders_1_r10, e_lease_work_ladders_1_r11, e_lease_work_ladders_1_r12, e_lease_work_ladders_1_r14, e_lease_work_ladders_1_r15, e_lease_work_ladders_1_r16, w1]
  refine WL.to hL (by simp [ladF, lads]) rfl ?_
  rintro x e σ' ⟨rfl, rfl⟩
  simp
theorem C_ladders {p : Pg} : lim T (.call false i_lease_work_ladders [.agg [.int .i64 p.start, .int .i64 p.gain, .int .i64 p.keep, .int .i64 p.most, .lst p.l.length (p.l.flatMap Yr.enc)]] σ) = some (.val (.fn i_lease_work_ladders_1 [] [.cref p.enc]) σ) := by
  refine call_of T_lease_work_ladders e_lease_work_ladders rfl ?_
  simp [-List.length_flatMap, -List.map_take, e_lease_work_ladders_r0, e_lease_work_ladders_r1]
@[simp] theorem clad {t : List (List Rn)} : D.cleanL (t.flatMap ladE) = true := k_clean (fun x => by simp) _
theorem C_table {p : Pg} (hp : pgOk p = true) (hσ : σ ≠ []) : lim T (.call false i_lease_work_table [.agg [.int .i64 p.start, .int .i64 p.gain, .int .i64 p.keep, .int .i64 p.most, .lst p.l.length (p.l.flatMap Yr.enc)]] σ) = some (.val (.lst p.l.length ((lads p p.l).flatMap ladE)) σ) := by
  refine call_of T_lease_work_table e_lease_work_table rfl ?_
  have hp1 := pgOk_iff.1 hp
  have hC := fun σ => C_ladders (p := p) (σ := σ)
  have w7 : p.l.length * 24 ≤ room := by unfold room; omega
  have w8 : (p.l.length : Int) * 24 ≤ (room : Int) := by exact_mod_cast w7
  have hS := C_ladders1 (σ := σ) hp
  have e0 : stTab p p.l.length σ = [.cells 0 (List.replicate p.l.length .nils), .cells 0 [.sl σ.length 0 0 0 p.l.length 1], .loop (lpTab σ.length)] :: σ := by
    simp [stTab, lads]
  have e1 : stTab p 0 σ = [.cells 0 ((lads p p.l).flatMap ladE), .cells 0 [.sl σ.length 0 0 0 p.l.length 1], .loop (lpTab σ.length)] :: σ := by
    simp [stTab]
  have e2 : ((List.range p.l.length).flatMap fun _ => [D.nils]) = List.replicate p.l.length D.nils := by
    generalize p.l.length = n
    induction n with
    | zero => rfl
    | succ n ih => rw [List.range_succ, List.flatMap_append, ih]; simp [List.replicate_succ']
  rw [e0, e1] at hS
  simp [-List.length_flatMap, -List.map_take, e_lease_work_table_r0, e_lease_work_table_r1, e_lease_work_table_r2, e_lease_work_table_r3, e_lease_work_table_r4, e_lease_work_table_r5, e_lease_work_table_r7, hC, w8, e2]
  refine WC_rngf (d := .tup []) (σ2 := stTab p 0 σ) (lp := lpTab σ.length) (by simp; exact ⟨rfl, rfl, rfl⟩) ?_ (by simp [stTab]) (by simp [lpTab]) ?_
  · rw [e1]
    have : lpTab σ.length = { state := 0, pend := none, env := [(2, .nils), (3, .ref σ.length 1 0 0)], params := [13, 14], asg := f_lease_work_table_a6, body := f_lease_work_table_b6 } := rfl
    rw [this] at hS
    simpa [lpTab] using hS
  · rw [e1]
    have ho := k_out (f := ladE) (w := 1) (fun _ => rfl) (fun x => by simp) (l := lads p p.l) (j := 0) (v := 0) (bs := [.cells 0 ((lads p p.l).flatMap ladE), .cells 0 [.sl σ.length 0 0 0 p.l.length 1], .loop { lpTab σ.length with state := 3 }]) hσ rfl
    rw [lads_len] at ho
    simp [-List.length_flatMap, -List.map_take, lpTab, e_lease_work_table_r7]
    simp [lpTab] at ho
    rw [ho]
    simp
/-! ### The least cost -/

def leastD (p : Pg) (y c : Int) : D :=
  if pgOk p then (if inn y 0 p.l.length && inn c 0 held then (if y = p.l.length then .tup [.int .i64 0, .int .i64 0] else if leastF p (p.l.drop y.toNat) c = never then .tup [.int .i64 0, .int .i64 7] else .tup [.int .i64 (leastF p (p.l.drop y.toNat) c), .int .i64 0]) else .tup [.int .i64 0, .int .i64 2]) else .tup [.int .i64 0, .int .i64 1]
theorem lads_get {p : Pg} {j : Nat} (hj : j < p.l.length) : (lads p p.l)[j]? = some (ladF p (p.l.drop j)) := by
  have key : ∀ (ys : List Yr) (j : Nat), j < ys.length → (lads p ys)[j]? = some (ladF p (ys.drop j)) := by
    intro ys
    induction ys with
    | nil => intro j h; simp at h
    | cons y ys ih =>
      intro j h
      cases j with
      | zero => rfl
      | succ j => simpa [lads] using ih j (by simpa using h)
  exact key p.l j hj
theorem lad_at {p : Pg} {j : Nat} (hj : j < p.l.length) : (((lads p p.l).flatMap ladE).drop j).take 1 = [.lst (ladF p (p.l.drop j)).length ((ladF p (p.l.drop j)).flatMap Rn.enc)] := by
  have := flat_at (f := ladE) (w := 1) (fun _ => rfl) (lads_get hj)
  simpa using this
end Go.Proofs.YtcccafphhmcifaaGreat
