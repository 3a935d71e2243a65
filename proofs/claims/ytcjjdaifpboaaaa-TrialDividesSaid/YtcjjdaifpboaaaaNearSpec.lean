/-
  Layer 4, between wells, in plain Lean: the wells beside one, and the first of the shortest ways.
-/
import Derived.Test.YtcjjdaifpboaaaaWayPlain
set_option linter.unusedVariables false
set_option linter.unusedSimpArgs false
namespace Go.Trial
open Go Go.Abs

theorem insI_mem {x z : Int} : ∀ {l : List Int}, z ∈ insI x l ↔ z = x ∨ z ∈ l
  | [] => by simp [insI]
  | y :: l => by
    unfold insI
    split
    · simp
    · simp only [List.mem_cons, insI_mem (l := l)]
      constructor
      · rintro (h | h | h) <;> simp [h]
      · rintro (h | h | h) <;> simp [h]
theorem sortI_mem {z : Int} : ∀ {l : List Int}, z ∈ sortI l ↔ z ∈ l
  | [] => by simp [sortI]
  | x :: l => by simp [sortI, insI_mem, sortI_mem (l := l)]
theorem insI_up {x : Int} : ∀ {l : List Int}, l.Pairwise (· ≤ ·) → (insI x l).Pairwise (· ≤ ·)
  | [], _ => by simp [insI]
  | y :: l, h => by
    rw [List.pairwise_cons] at h
    unfold insI
    split
    · rename_i hx
      refine List.pairwise_cons.2 ⟨fun z hz => ?_, List.pairwise_cons.2 h⟩
      rcases List.mem_cons.1 hz with rfl | hz
      · exact hx
      · have := h.1 z hz; omega
    · rename_i hx
      refine List.pairwise_cons.2 ⟨fun z hz => ?_, insI_up h.2⟩
      rcases insI_mem.1 hz with rfl | hz
      · omega
      · exact h.1 z hz
theorem sortI_up : ∀ (l : List Int), (sortI l).Pairwise (· ≤ ·)
  | [] => .nil
  | x :: l => insI_up (sortI_up l)
theorem compT_ok {x : Int} : ∀ {l : List Int}, (x :: l).Pairwise (· ≤ ·) → (x :: compT x l).Pairwise (· < ·) ∧ ∀ z, z ∈ x :: compT x l ↔ z ∈ x :: l
  | [], _ => by simp [compT]
  | y :: l, h => by
    unfold compT
    by_cases hy : y = x
    · subst hy
      rw [if_pos rfl]
      have ih := compT_ok (x := y) (l := l) (by rw [List.pairwise_cons] at h; exact h.2)
      exact ⟨ih.1, fun z => by rw [ih.2 z]; simp⟩
    · rw [if_neg hy]
      rw [List.pairwise_cons] at h
      have ih := compT_ok (x := y) (l := l) h.2
      refine ⟨List.pairwise_cons.2 ⟨fun z hz => ?_, ih.1⟩, fun z => ?_⟩
      · have h1 := h.1 y (by simp)
        have h2 := (ih.2 z).1 hz
        rcases List.mem_cons.1 h2 with rfl | h3
        · omega
        · rw [List.pairwise_cons] at h
          have := h.2.1 z h3
          omega
      · rw [List.mem_cons, ih.2 z, List.mem_cons (a := z) (b := x)]
theorem compI_ok {l : List Int} (h : l.Pairwise (· ≤ ·)) : (compI l).Pairwise (· < ·) ∧ ∀ z, z ∈ compI l ↔ z ∈ l := by
  cases l with
  | nil => simp [compI]
  | cons x l => exact compT_ok h

/-- Are two wells joined by this observation? -/
def besT (s : Surv) (a b : Nat) (x : Seen) : Bool := sure s x && ((decide (x.f = a) && decide (x.t = b)) || (decide (x.f = b) && decide (x.t = a)))
def adj (s : Surv) (a b : Nat) : Bool := anyB s.l (besT s a b)
theorem adj_iff {s : Surv} {a b : Nat} : adj s a b = true ↔ ∃ x ∈ s.l, sure s x = true ∧ ((x.f = a ∧ x.t = b) ∨ (x.f = b ∧ x.t = a)) := by
  unfold adj
  rw [anyB_iff]
  simp only [besT, Bool.and_eq_true, Bool.or_eq_true, decide_eq_true_eq]
theorem adj_comm {s : Surv} {a b : Nat} (h : adj s a b = true) : adj s b a = true := by
  rw [adj_iff] at h ⊢
  obtain ⟨x, h1, h2, h3⟩ := h
  exact ⟨x, h1, h2, h3.symm⟩
theorem adj_lt {s : Surv} (h : Sv s) {a b : Nat} (ha : adj s a b = true) : b < s.w.toNat := by
  rw [adj_iff] at ha
  obtain ⟨x, h1, _, h3⟩ := ha
  have := h.l x h1
  omega
def nearC (s : Surv) (w : Nat) (x : Seen) : List Int := if sure s x then (if x.f = w then [x.t] else if x.t = w then [x.f] else []) else []
def nearR (s : Surv) (w : Nat) : List Int := s.l.flatMap (nearC s w)
def nearL (s : Surv) (w : Nat) : List Int := compI (sortI (nearR s w))
/-- The wells beside one, in order. -/
def nearN (s : Surv) (w : Nat) : List Nat := (nearL s w).map Int.toNat
def iN (l : List Nat) : List Int := l.map fun n : Nat => (n : Int)
theorem nearR_mem {s : Surv} (h : Sv s) {w : Nat} {z : Int} : z ∈ nearR s w ↔ ∃ n : Nat, z = n ∧ adj s w n = true := by
  unfold nearR
  rw [List.mem_flatMap]
  constructor
  · rintro ⟨x, hx, hz⟩
    have hv := h.l x hx
    unfold nearC at hz
    split at hz
    case isFalse => simp at hz
    rename_i hs
    split at hz
    · rename_i hf
      simp at hz; subst hz
      exact ⟨x.t.toNat, by omega, adj_iff.2 ⟨x, hx, hs, .inl ⟨hf, by omega⟩⟩⟩
    · split at hz
      case isFalse => simp at hz
      rename_i ht
      simp at hz; subst hz
      exact ⟨x.f.toNat, by omega, adj_iff.2 ⟨x, hx, hs, .inr ⟨by omega, ht⟩⟩⟩
  · rintro ⟨n, rfl, ha⟩
    obtain ⟨x, hx, hs, hh⟩ := adj_iff.1 ha
    have hv := h.l x hx
    refine ⟨x, hx, ?_⟩
    unfold nearC
    rw [if_pos hs]
    rcases hh with ⟨h1, h2⟩ | ⟨h1, h2⟩
    · rw [if_pos h1, h2]; simp
    · rw [if_neg (by omega), if_pos h2, h1]; simp
theorem nearL_mem {s : Surv} (h : Sv s) {w : Nat} {z : Int} : z ∈ nearL s w ↔ ∃ n : Nat, z = n ∧ adj s w n = true := by
  unfold nearL
  rw [(compI_ok (sortI_up _)).2, sortI_mem, nearR_mem h]
theorem nearL_up (s : Surv) (w : Nat) : (nearL s w).Pairwise (· < ·) := (compI_ok (sortI_up _)).1
theorem near_iN {s : Surv} (h : Sv s) {w : Nat} : nearL s w = iN (nearN s w) := by
  unfold iN nearN
  rw [List.map_map]
  conv => lhs; rw [← List.map_id (nearL s w)]
  apply List.map_congr_left
  intro z hz
  obtain ⟨n, rfl, _⟩ := (nearL_mem h).1 hz
  simp
theorem nearN_mem {s : Surv} (h : Sv s) {w n : Nat} : n ∈ nearN s w ↔ adj s w n = true := by
  unfold nearN
  rw [List.mem_map]
  constructor
  · rintro ⟨z, hz, rfl⟩
    obtain ⟨m, rfl, hm⟩ := (nearL_mem h).1 hz
    simpa using hm
  · intro ha
    exact ⟨n, (nearL_mem h).2 ⟨n, rfl, ha⟩, by simp⟩
theorem nearN_up {s : Surv} (h : Sv s) {w : Nat} : (nearN s w).Pairwise (· < ·) := by
  have := nearL_up s w
  rw [near_iN h] at this
  unfold iN at this
  rw [List.pairwise_map] at this
  exact this.imp fun {a b} hab => by omega
theorem nearN_lt {s : Surv} (h : Sv s) {v : Nat} : ∀ w ∈ nearN s v, w < s.w.toNat ∧ adj s v w = true := fun w hw => by
  have := (nearN_mem h).1 hw
  exact ⟨adj_lt h this, this⟩
theorem up_len : ∀ {l : List Nat} {n k : Nat}, l.Pairwise (· < ·) → (∀ x ∈ l, k ≤ x ∧ x < n) → l.length + k ≤ n ∨ l = []
  | [], n, k, _, _ => .inr rfl
  | a :: l, n, k, h, hx => by
    rw [List.pairwise_cons] at h
    have ha := hx a (by simp)
    left
    rcases up_len (l := l) (n := n) (k := a + 1) h.2 (fun x hx' => ⟨h.1 x hx', (hx x (by simp [hx'])).2⟩) with hh | rfl
    · simp only [List.length_cons]; omega
    · simp; omega
theorem near_len {s : Surv} (h : Sv s) {w : Nat} : (nearN s w).length ≤ s.w.toNat := by
  rcases up_len (n := s.w.toNat) (k := 0) (nearN_up h (w := w)) (fun x hx => ⟨Nat.zero_le _, (nearN_lt h x hx).1⟩) with hh | hh
  · omega
  · rw [hh]; simp
theorem nearC_len {s : Surv} {w : Nat} {x : Seen} : (nearC s w x).length ≤ 1 := by
  unfold nearC
  split
  · split
    · simp
    · split <;> simp
  · simp
theorem nearR_len {s : Surv} {w : Nat} : ∀ l : List Seen, (l.flatMap (nearC s w)).length ≤ l.length
  | [] => by simp
  | x :: l => by
    have := nearR_len (s := s) (w := w) l
    have := nearC_len (s := s) (w := w) (x := x)
    simp only [List.flatMap_cons, List.length_append, List.length_cons]; omega
theorem near_ne {s : Surv} (h : Sv s) {v w : Nat} (ha : adj s v w = true) : nearR s v ≠ [] := by
  intro e
  have := (nearR_mem h).2 ⟨w, rfl, ha⟩
  rw [e] at this
  simp at this

/-! ### Ways -/

def farS (s : Surv) (to : Nat) : List Nat := farR (adj s) s.w.toNat to
theorem edge_adj {s : Surv} (h : Sv s) : ∀ e ∈ edges s, adj s e.1 e.2 = true := by
  intro e he
  simp only [edges, List.mem_map, List.mem_filter] at he
  obtain ⟨x, ⟨hx, hs⟩, rfl⟩ := he
  have := h.l x hx
  exact adj_iff.2 ⟨x, hx, hs, .inl ⟨by simp only [edge]; omega, by simp only [edge]; omega⟩⟩
theorem Gr_keep {s : Surv} (h : Sv s) {R : Nat → Prop} (hR : ∀ a b, adj s a b = true → R a → R b) {a b : Nat} (hg : Gr s a = Gr s b) (ha : R a) : R b := by
  have key : ∀ z, (R z ↔ R (Gr s z)) := rep_keep (P := fun z x => (R z ↔ R x)) (es := edges s) (fun e he x => by
    have h1 := edge_adj h e he
    have : R e.1 ↔ R e.2 := ⟨hR _ _ h1, hR _ _ (adj_comm h1)⟩
    rw [this]) (g := id) (fun z => Iff.rfl) s.w.toNat
  rw [key b, ← hg, ← key a]; exact ha
theorem far_fin {s : Surv} (h : Sv s) {to : Nat} (ht : to < s.w.toNat) : Fin (adj s) s.w.toNat to (farS s to) :=
  (bfs_far (nb := nearN s) ht (fun v _ w => nearN_mem h) (fun v w hh => adj_lt h hh)).2
theorem far_bfs {s : Surv} (h : Sv s) {to : Nat} (ht : to < s.w.toNat) : bfs s.w.toNat (nearN s) (s.w.toNat + 1) (farZ s.w.toNat to) [to] = farS s to :=
  (bfs_far (nb := nearN s) ht (fun v _ w => nearN_mem h) (fun v w hh => adj_lt h hh)).1
theorem far_lt {s : Surv} (h : Sv s) {a to : Nat} (ht : to < s.w.toNat) (hg : Gr s a = Gr s to) : (farS s to).getD a 0 < s.w.toNat := by
  have hf := far_fin h ht
  refine (Gr_keep h (R := fun z => z < s.w.toNat ∧ (farS s to).getD z 0 < s.w.toNat) (fun a b hab ha => ⟨adj_lt h hab, (hf.dn a ha.1 ha.2 b hab).1⟩) hg.symm ⟨ht, by have := hf.b.z; omega⟩).2
theorem to_near {s : Surv} (h : Sv s) {a to : Nat} (hg : Gr s a = Gr s to) (hne : a ≠ to) : ∃ w, adj s to w = true := by
  apply Classical.byContradiction
  intro hno
  apply hne
  refine Gr_keep h (R := fun z => z = to) (fun a b hab ha => ?_) hg.symm rfl
  subst ha
  exact absurd ⟨b, hab⟩ hno
/-- Where a way goes on. -/
def wayT (F : List Nat) (a n : Nat) : Bool := decide (F.getD n 0 + 1 = F.getD a 0)
def nxt (s : Surv) (F : List Nat) (a : Nat) : Nat := (((nearN s a).filter (wayT F a)).head?).getD 0
structure Nxt (s : Surv) (F : List Nat) (a n : Nat) : Prop where
  mem : n ∈ nearN s a
  adj : adj s a n = true
  lt : n < s.w.toNat
  far : F.getD n 0 + 1 = F.getD a 0
  least : ∀ m, Trial.adj s a m = true → F.getD m 0 + 1 = F.getD a 0 → n ≤ m
theorem nxt_ok {s : Surv} (h : Sv s) {to : Nat} {F : List Nat} (hf : Fin (adj s) s.w.toNat to F) {a : Nat} (ha : a < s.w.toNat) (hF : F.getD a 0 < s.w.toNat) (h0 : F.getD a 0 ≠ 0) : Nxt s F a (nxt s F a) := by
  rcases hf.b.lv a ha hF with ⟨hz, _⟩ | ⟨v, hv, hva, hvf⟩
  · exact absurd hz h0
  have hm : v ∈ (nearN s a).filter (wayT F a) := List.mem_filter.2 ⟨(nearN_mem h).2 (adj_comm hva), by unfold wayT; simpa using hvf⟩
  have hp : ((nearN s a).filter (wayT F a)).Pairwise (· < ·) := (nearN_up h).filter _
  have hq : ∀ m, m ∈ (nearN s a).filter (wayT F a) ↔ m ∈ nearN s a ∧ F.getD m 0 + 1 = F.getD a 0 := fun m => by rw [List.mem_filter]; unfold wayT; rw [decide_eq_true_eq]
  unfold nxt
  generalize (nearN s a).filter (wayT F a) = l at *
  cases l with
  | nil => simp at hm
  | cons n l =>
    simp only [List.head?_cons, Option.getD_some]
    have hn := (hq n).1 (by simp)
    have hn2 := (nearN_mem h).1 hn.1
    rw [List.pairwise_cons] at hp
    refine ⟨hn.1, hn2, adj_lt h hn2, hn.2, fun m hm1 hm2 => ?_⟩
    have := (hq m).2 ⟨(nearN_mem h).2 hm1, hm2⟩
    rcases List.mem_cons.1 this with rfl | hm3
    · exact Nat.le_refl _
    · have := hp.1 m hm3; omega
theorem idxOf_least {p : Nat → Bool} {n : Nat} : ∀ {l : List Nat}, l.Pairwise (· < ·) → n ∈ l → p n = true → (∀ m ∈ l, p m = true → n ≤ m) → ∃ k : Nat, idxOf p l = k ∧ l[k]? = some n
  | [], _, hn, _, _ => by simp at hn
  | x :: l, h, hn, hp, hm => by
    rw [List.pairwise_cons] at h
    by_cases hx : x = n
    · subst hx
      exact ⟨0, by simp [idxOf, hp], rfl⟩
    · have hnl : n ∈ l := by
        rcases List.mem_cons.1 hn with rfl | hh
        · exact absurd rfl hx
        · exact hh
      have hpx : p x = false := by
        cases hpx : p x
        · rfl
        · have := hm x (by simp) hpx
          have := h.1 n hnl
          omega
      obtain ⟨k, hk, hk2⟩ := idxOf_least h.2 hnl hp fun m hm' => hm m (by simp [hm'])
      refine ⟨k + 1, ?_, by simpa using hk2⟩
      simp only [idxOf, hpx, Bool.false_eq_true, if_false, hk]
      rw [if_neg (by omega)]
      rfl
def wayL (s : Surv) (F : List Nat) : Nat → Nat → List Nat
  | 0, _ => []
  | k + 1, a => nxt s F a :: wayL s F k (nxt s F a)
/-- The way, with the first well. -/
def wayS (s : Surv) (a to : Nat) : List Nat := a :: wayL s (farS s to) ((farS s to).getD a 0) a
end Go.Trial
