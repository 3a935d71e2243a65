/- The interpreter, part 4: proved sound against the model. -/
import Derived.Test.YtfgljaglidhjiaaGreatDoorBase3
import Derived.Shelf.Strings.BuilderK
import Derived.Lib.FrozenHead
import Derived.Test.YtfgljaglidhjiaaGreatDoorBase2
import Derived.Sort.EncStr
import Derived.Shelf.Slices.Delete
import Derived.Shelf.Strconv.Itoa3
import Derived.Shelf.Strconv.AtoiAll
import Derived.Shelf.Strings.OnBuilder
import Derived.Shelf.Strings.Split
import Derived.Lib.SmallJoins
import Derived.IntWalk
import Derived.ChangeArms
import Derived.OpenShut
import Derived.WideShapes
import Derived.RowKit
import Derived.Carry
import Derived.Lib.LaidTab
import Derived.LaidLaws
import Derived.Shelf.Vars
/-
  The contracts of a strings.Builder's WriteString and String: what they leave alone, to the last block.
-/
set_option linter.unusedVariables false
set_option linter.unusedSimpArgs false
namespace Go.Abs
open Go
open Go.RowKit Go.Shelf Go.Proofs

theorem app_str {P : Program} (w : World) (t u ty e : TypeId) (i : TypeInfo) (ht : P.underlying t = some (.slice e)) (hu : P.underlying u = some .string) (hi : P.info? e = some i) (hz : i.zero = some (.int .u8 0))
    (hsize : i.size = 1) (hby : i.bytes = 1) (v : Value) (n : Nat) (xs : List Value) (hown : w.ownsRowF 0 e 1 v n xs) (s : ByteArray) (hb : n + s.size ≤ 140737488355328) :
    ∃ v' w', (Builtin.append_ #[t, u] ty #[v, .string s]).run P w = .ok v' w' ∧ w'.ownsRowF 0 e 1 v' (n + s.size) (xs ++ Lib.strCells s) ∧ w.grownBy w' v.ownBlock ∧
      (∀ k, v'.ownBlock = some k → v.ownBlock = some k ∨ (w.heap.size ≤ k ∧ k < w'.heap.size)) := by
  have h63 : n + s.size ≤ maxLen := by unfold maxLen; omega
  rcases hown.2 with ⟨rfl, rfl⟩ | ⟨g, cap, cur, fz, rfl, _, hg, hfz, hnc, hcm, hcs, htake⟩
  · obtain ⟨v', w', h1, h2, h3, _⟩ := Lib.run_append_own_string (P := P) w w.heap.size t u ty e i ht hu hi hz hsize hby (.slice none 0 0) 0 xs ⟨hown.1, .inl ⟨rfl, rfl⟩⟩ s h63 hb (Nat.le_refl _)
    have h4 := World.ownsRowF_of h2
    refine ⟨v', w', h1, ⟨h4.1, h4.2.imp id fun ⟨q, c, cu, f, k1, k2, k3⟩ => ⟨q, c, cu, f, k1, Nat.zero_le _, k3⟩⟩, h3, fun k hk => .inr (h4.lt k hk)⟩
  · have hxl : xs.length = n := by simpa using hown.1
    have hlen : (xs ++ Lib.strCells s).length = (n + s.size) * 1 := by rw [List.length_append, hxl, Lib.strCells_length, Nat.mul_one]
    by_cases hroom : n + s.size ≤ cap
    · have hcs' : cur.size = cap := by simpa using hcs
      have hr := Lib.run_append_room_stringF (P := P) w t u ty e i ht hu hi hsize g n cap cur fz hg (by simpa using hfz) s hroom (by omega)
      refine ⟨_, _, hr, ⟨hlen, .inr ⟨g, cap, _, fz, rfl, Nat.zero_le _, setRow_heap w g cur _ e _ hg, by omega, hroom, hcm, ?_, ?_⟩⟩, ⟨rfl, rfl, rfl, by simp, fun k _ hk => setRow_other w g k _ (fun e => hk (by simp [Value.ownBlock, e]))⟩, fun k hk => .inl hk⟩
      · simp only [List.size_toArray, List.length_append, List.length_take, List.length_drop, Array.length_toList, Lib.strCells_length]
        omega
      · have ht' : cur.toList.take n = xs := by simpa using htake
        rw [ht', ← hlen]
        exact List.take_left
    · have hr := Lib.run_append_grow_string (P := P) w t u ty e i (.int .u8 0) ht hu hi hz ⟨g, 0, none⟩ n cap xs (by rw [hsize]; simpa using hxl) (hown.cells (g := g) rfl) s (by omega) (by omega) (by rw [hby]; exact growslice_fits (by omega) (by omega))
      have hge := grownCap_ge w (n + s.size) cap e
      have hcm2 := grownCap_le_maxLen w (n + s.size) cap e h63
      refine ⟨_, _, hr, ⟨hlen, .inr ⟨w.heap.size, _, _, (0, 0), rfl, Nat.zero_le _, heap_alloc_new w.drew _, Nat.zero_le _, hge, hcm2, ?_, ?_⟩⟩, ⟨rfl, rfl, rfl, by simp, fun k hk _ => alloc_old (w := w.drew) hk⟩, fun k hk => .inr ?_⟩
      · have hz1 : (Value.int IntKind.u8 0).cells.size = 1 := rfl
        simp only [Array.size_append, List.size_toArray, size_zeroCells, hz1, hxl, Lib.strCells_length]
        omega
      · simp only [Array.toList_append, List.append_assoc]
        rw [← List.append_assoc, ← hlen]
        exact List.take_left
      · simp only [Value.ownBlock, Option.some.injEq] at hk
        subst hk
        exact ⟨Nat.le_refl _, by simp⟩
theorem wp_app_str {P : Program} {w : World} {ops : Array Oper} {rest : List Oper} {o : Oper} {a : Act} {Q : Go.Exit → Act → World → Prop} (hgd : o.guard = none) (sl x : Operand) (t u : TypeId)
    (ho : o.op = .call { callee := .builtin .append, args := #[sl, x], argTypes := #[t, u] }) (e : TypeId) (i : TypeInfo) (ht : P.underlying t = some (.slice e)) (hu : P.underlying u = some .string) (hi : P.info? e = some i) (hz : i.zero = some (.int .u8 0))
    (hsize : i.size = 1) (hby : i.bytes = 1) (v : Value) (n : Nat) (xs : List Value) (hs : a.eval sl = v) (hown : w.ownsRowF 0 e 1 v n xs) (s : ByteArray) (hx : a.eval x = .string s) (hb : n + s.size ≤ 140737488355328)
    (h : ∀ v' w', w'.ownsRowF 0 e 1 v' (n + s.size) (xs ++ Lib.strCells s) → w.grownBy w' v.ownBlock → (∀ k, v'.ownBlock = some k → v.ownBlock = some k ∨ (w.heap.size ≤ k ∧ k < w'.heap.size)) → wpList P ops Q rest (a.put o.dst v') w') : wpList P ops Q (o :: rest) a w := by
  refine wpList_plain hgd fun K hK => ?_
  obtain ⟨v', w', hr, h2, h3, h4⟩ := app_str (P := P) w t u o.type e i ht hu hi hz hsize hby v n xs hown s hb
  unfold Oper.wp execOp
  simp only [ho, resolve, invoke, builtin, Sem.run_bind, Sem.run_pure, Result.andThen_ok, List.map_toArray, List.map_cons, List.map_nil, hs, hx, hr]
  exact hK _ _ (h v' w' h2 h3 h4)

structure BldAt (T e : TypeId) (b : Nat) (v : Value) (bs : List UInt8) (w : World) : Prop where
  blk : ∃ p, w.heap[b]? = some (.cells #[p, v] T (0, 0)) ∧ (p = .pointer none ∨ p = .pointer (some ⟨b, 0, none⟩))
  own : w.ownsRowF 0 e 1 v bs.length (bs.map fun x => .int .u8 x.toNat)
  ne : v.ownBlock ≠ some b
structure Bare (w w' : World) (b : Nat) (c : Option Nat) : Prop where
  os : w'.os = w.os
  tape : w'.tape = w.tape
  output : w'.output = w.output
  size : w.heap.size ≤ w'.heap.size
  blk : ∀ k, k < w.heap.size → k ≠ b → c ≠ some k → w'.heap[k]? = w.heap[k]?

section
variable {P : Program} {ρ : Ren}
set_option maxHeartbeats 2000000 in
set_option maxRecDepth 100000 in
theorem wstr (L : Lays.n166 P ρ) (X : Builder.Extra P ρ) (b : Nat) (v : Value) (bs : List UInt8) (s : ByteArray) (w : World) (h : BldAt (ρ.t 72) (ρ.t 5) b v bs w) (hlen : bs.length + s.size ≤ 140737488355328) :
    Calls P (ρ.f 166) #[.pointer (some ⟨b, 0, none⟩), .string s] w fun e w' => e = .returned (.tuple #[.int .i64 s.size, .nilIface]) ∧
      ∃ v', BldAt (ρ.t 72) (ρ.t 5) b v' (bs ++ s.data.toList) w' ∧ Bare w w' b v.ownBlock ∧ (∀ k, v'.ownBlock = some k → v.ownBlock = some k ∨ (w.heap.size ≤ k ∧ k < w'.heap.size)) := by
  obtain ⟨i0, hi, hz0, hz1, hz2⟩ := info_parts X.infoByte
  obtain ⟨⟨p, hbk, hp⟩, hown, hne⟩ := h
  have hcc : Calls P (ρ.f 240) #[.pointer (some ⟨b, 0, none⟩)] w fun e w' => e = .returned (.tuple #[]) ∧ w'.heap[b]? = some (.cells #[.pointer (some ⟨b, 0, none⟩), v] (ρ.t 72) (0, 0)) ∧
      w'.ownsRowF 0 (ρ.t 5) 1 v bs.length (bs.map fun x => .int .u8 x.toNat) ∧ Bare w w' b none ∧ w'.heap.size = w.heap.size := by
    rcases hp with rfl | rfl
    · refine (Any.Builder_copyCheck_fresh { L with } X.toX72 b w (by simp [World.cell?, hbk]) (by simp [World.shape?, hbk]) (by simp [World.frozen?, hbk])).mono ?_
      rintro e w' ⟨rfl, rfl⟩
      refine ⟨rfl, by simp [World.setCell, Array.getElem?_modify, hbk], ?_, ⟨rfl, rfl, rfl, by simp [World.setCell], fun k _ hk _ => Below.heap_setCell _ _ _ _ (fun e => hk e)⟩, by simp [World.setCell]⟩
      exact hown.kept (row := some b) ⟨rfl, rfl, rfl, by simp [World.setCell], fun k _ hk => Below.heap_setCell _ _ _ _ (fun e => hk (by simp [e]))⟩ (.inr hne)
    · refine (Any.Builder_copyCheck_used { L with } X.toX72 b w (by simp [World.cell?, hbk])).mono ?_
      rintro e w' ⟨rfl, rfl⟩
      exact ⟨rfl, hbk, hown, ⟨rfl, rfl, rfl, Nat.le_refl _, fun _ _ _ _ => rfl⟩, rfl⟩
  have mixed := L.mixed
  have t72 := L.t72; have a72 := L.a72; have z72 := L.z72; have v72 := L.v72; have u72 := run_underlying L.t72
  have t70 := L.t70; have a70 := L.a70; have z70 := L.z70; have v70 := L.v70; have u70 := run_underlying L.t70
  have t37 := L.t37; have a37 := L.a37; have z37 := L.z37; have v37 := L.v37; have u37 := run_underlying L.t37
  have t3 := L.t3; have a3 := L.a3; have z3 := L.z3; have v3 := L.v3; have u3 := run_underlying L.t3
  have t9 := L.t9; have a9 := L.a9; have z9 := L.z9; have v9 := L.v9; have u9 := run_underlying L.t9
  have t4 := L.t4; have a4 := L.a4; have z4 := L.z4; have v4 := L.v4; have u4 := run_underlying L.t4
  have t164 := L.t164; have a164 := L.a164; have z164 := L.z164; have v164 := L.v164; have u164 := run_underlying L.t164
  have t5 := X.t5; have a5 := X.a5; have z5 := X.z5; have v5 := X.v5; have u5 := run_underlying X.t5
  have e240 : ∀ args w, (callFunc (ρ.f 240) args).run P w = .ok (.enter (ρ.f 240) args) w := enters_of L.f240 (by kernel_rfl) rfl
  go_enter L.f166, Body.n166_ntmps ρ
  go_wp2_with (go_at_fn (ρ.f 240); refine hcc.mono ?_)
  rintro e w1 ⟨rfl, hb1, hown1, hk1, hs1⟩
  have c0 : w1.cell? ⟨b, 0, none⟩ = some (.pointer (some ⟨b, 0, none⟩)) := by rw [Lib.cell_of_heap hb1]; rfl
  have c1 : w1.cell? ⟨b, 1, none⟩ = some v := by rw [Lib.cell_of_heap hb1]; rfl
  go_wp2_with (at_builtin; refine wp_app_str rfl _ _ (ρ.t 37) (ρ.t 9) rfl (ρ.t 5) i0 L.t37 L.t9 hi hz0 hz1 hz2 _ _ _ rfl hown1 s rfl ?c4 ?_)
  case c4 => omega
  intro v' w2 hown2 hgrow hfr
  have hlt : b < w1.heap.size := (Array.getElem?_eq_some_iff.1 hb1).1
  have hb2 : w2.heap[b]? = some (.cells #[.pointer (some ⟨b, 0, none⟩), v] (ρ.t 72) (0, 0)) := by
    rw [hgrow.block b hlt (fun e => hne e.symm)]
    exact hb1
  have d0 : w2.cell? ⟨b, 0, none⟩ = some (.pointer (some ⟨b, 0, none⟩)) := by rw [Lib.cell_of_heap hb2]; rfl
  have d1 : w2.cell? ⟨b, 1, none⟩ = some v := by rw [Lib.cell_of_heap hb2]; rfl
  have f1 : w2.frozen? ⟨b, 1, none⟩ = false := Lib.frozen_of_heap hb2 1
  obtain ⟨ao, n', cap, rfl⟩ : ∃ ao n' cap, v' = .slice ao n' cap := by
    rcases hown2.2 with ⟨hv, _⟩ | ⟨g, cap, cur, fz, hv, _⟩
    · exact ⟨_, _, _, hv⟩
    · exact ⟨_, _, _, hv⟩
  go_wp2
  go_ret2
  refine ⟨rfl, .slice ao n' cap, ⟨⟨.pointer (some ⟨b, 0, none⟩), ?_, .inr rfl⟩, ?_, ?_⟩, ⟨?_, ?_, ?_, ?_, fun k hk h1 h2 => ?_⟩, ?_⟩
  · simp [World.setCell, Array.getElem?_modify, hb2]
  · have hne2 := Lib.ownBlock_neF hown2 hb2 X.neB5
    have := hown2.kept (w' := w2.setCell ⟨b, 1, none⟩ (.slice ao n' cap)) (row := some b) ⟨rfl, rfl, rfl, by simp [World.setCell], fun k _ hk => Below.heap_setCell _ _ _ _ (fun e => hk (by simp [e]))⟩ (.inr hne2)
    simpa [Lib.strCells] using this
  · exact Lib.ownBlock_neF hown2 hb2 X.neB5
  · exact hgrow.os.trans hk1.os
  · exact hgrow.tape.trans hk1.tape
  · exact hgrow.output.trans hk1.output
  · have := hgrow.size; have := hk1.size; simp [World.setCell]; omega
  · rw [Below.heap_setCell _ _ _ _ (fun e => h1 e), hgrow.block k (by omega) (fun e => h2 e.symm), hk1.blk k hk h1 (by simp)]
  · intro k hk
    rcases hfr k hk with h | h
    · exact .inl h
    · right; simpa [World.setCell] using h

set_option maxHeartbeats 1000000 in
set_option maxRecDepth 100000 in
theorem bstr (L : Lays.n169 P ρ) (X : Builder.Extra P ρ) (b : Nat) (v : Value) (bs : List UInt8) (w : World) (h : BldAt (ρ.t 72) (ρ.t 5) b v bs w) (h0 : bs ≠ []) :
    Calls P (ρ.f 169) #[.pointer (some ⟨b, 0, none⟩)] w fun e w' => e = .returned (.string ⟨bs.toArray⟩) ∧ BldAt (ρ.t 72) (ρ.t 5) b v bs w' ∧ Bare w w' b v.ownBlock := by
  obtain ⟨⟨p, hbk, hp⟩, hown, hne⟩ := h
  have hl0 : bs.length ≠ 0 := by simpa using h0
  obtain ⟨g, cap, cur, fz, rfl, hbg, hg, hfz, hnc, hcm, hcs, htake⟩ : ∃ g cap cur fz, v = .slice (some ⟨g, 0, none⟩) bs.length cap ∧ 0 ≤ g ∧ w.heap[g]? = some (.cells cur (ρ.t 5) fz) ∧ fz.2 ≤ bs.length * 1 ∧ bs.length ≤ cap ∧ cap ≤ maxLen ∧ cur.size = cap * 1 ∧ cur.toList.take (bs.length * 1) = Lib.byteCells bs := by
    rcases hown.2 with ⟨_, hz⟩ | h
    · exact absurd hz hl0
    · exact h
  have c1 : w.drew.cell? ⟨b, 1, none⟩ = some (.slice (some ⟨g, 0, none⟩) bs.length cap) := by
    have : w.drew.heap[b]? = _ := hbk
    rw [Lib.cell_of_heap this]; rfl
  have hSD : (Builtin.unsafeSliceData_ #[(ρ.t 37)] (ρ.t 127) #[.slice (some ⟨g, 0, none⟩) bs.length cap]).run P w.drew = .ok (.pointer (some ⟨g, 0, none⟩)) w.drew :=
    Lib.run_unsafeSliceData_row _ _ _ _ _ _ (by omega)
  have hUS : (Builtin.unsafeString_ #[(ρ.t 127), (ρ.t 3)] (ρ.t 9) #[.pointer (some ⟨g, 0, none⟩), .int .i64 bs.length]).run P w.drew = .ok (.string ⟨bs.toArray⟩) (w.drew.freeze ⟨g, 0, none⟩ bs.length) := by
    refine Lib.run_unsafeString_row w.drew (ρ.t 127) (ρ.t 3) (ρ.t 9) (ρ.t 5) L.t127 X.cellsByte g cur.size (by have hg' : w.drew.heap[g]? = some (.cells cur (ρ.t 5) fz) := hg; simp [World.shape?, hg']) bs h0 (by omega) (by unfold maxLen at hcm; omega) ?_
    intro j x hx
    exact hown.cells (g := g) rfl j (.int .u8 x.toNat) (by simp [hx])
  have hA : Lib.BuilderAtF (ρ.t 72) (ρ.t 5) 0 b p (Lib.byteCells bs) w.drew := ⟨Nat.zero_le _, _, hbk, by rw [Lib.byteCells_length]; exact hown, hne⟩
  have hF := hA.froze (g := g) (cap := cap) (by rw [Lib.byteCells_length]; exact c1)
  rw [Lib.byteCells_length] at hF
  obtain ⟨_, v2, hb2, hown2, _⟩ := hF
  have hgb : g ≠ b := fun e => hne (by rw [e]; rfl)
  have hfr : ∀ k, k ≠ g → (w.drew.freeze ⟨g, 0, none⟩ bs.length).heap[k]? = w.heap[k]? := fun k hk => by
    unfold World.freeze
    split
    · rfl
    · simp only [Array.getElem?_modify]
      rw [if_neg (fun e => hk e.symm)]; rfl
  have hv2 : v2 = .slice (some ⟨g, 0, none⟩) bs.length cap := by
    have := hfr b (fun e => hgb e.symm)
    rw [hb2, hbk] at this
    simpa using this
  subst hv2
  have hfin : BldAt (ρ.t 72) (ρ.t 5) b (.slice (some ⟨g, 0, none⟩) bs.length cap) bs (w.drew.freeze ⟨g, 0, none⟩ bs.length) := ⟨⟨p, hb2, hp⟩, by rw [Lib.byteCells_length] at hown2; exact hown2, hne⟩
  have hbare : Bare w (w.drew.freeze ⟨g, 0, none⟩ bs.length) b (some g) := by
    refine ⟨?_, ?_, ?_, ?_, fun k _ _ h2 => hfr k (fun e => h2 (by rw [e]))⟩ <;> unfold World.freeze <;> split <;> first | rfl | exact Nat.le_refl _ | simp
  have mixed := L.mixed
  have t72 := L.t72; have a72 := L.a72; have z72 := L.z72; have v72 := L.v72; have u72 := run_underlying L.t72
  have t70 := L.t70; have a70 := L.a70; have z70 := L.z70; have v70 := L.v70; have u70 := run_underlying L.t70
  have t37 := L.t37; have a37 := L.a37; have z37 := L.z37; have v37 := L.v37; have u37 := run_underlying L.t37
  have t127 := L.t127; have a127 := L.a127; have z127 := L.z127; have v127 := L.v127; have u127 := run_underlying L.t127
  have t3 := L.t3; have a3 := L.a3; have z3 := L.z3; have v3 := L.v3; have u3 := run_underlying L.t3
  have t9 := L.t9; have a9 := L.a9; have z9 := L.z9; have v9 := L.v9; have u9 := run_underlying L.t9
  have t5 := X.t5; have a5 := X.a5; have z5 := X.z5; have v5 := X.v5; have u5 := run_underlying X.t5
  go_enter L.f169, Body.n169_ntmps ρ
  go_wp2
  go_region_o
  all_goals (go_wp2; go_ret; exact ⟨rfl, hfin, hbare⟩)
end

section
variable {P : Program} {CR : CRel} {f : Nat} {σ : Stack}
theorem setSeg_self : ∀ {σ : Stack} {l : Nat} {s : List Blk}, seg? σ l = some s → setSeg σ l s = σ
  | [], _, _, h => by cases h
  | s0 :: σ, l, s, h => by
    simp only [seg?] at h
    simp only [setSeg]
    split
    · rename_i e; rw [if_pos e] at h; cases h; rfl
    · rename_i e; rw [if_neg e] at h; rw [setSeg_self h]
theorem setBlk_self {σ : Stack} {l i : Nat} {b : Blk} (h : blk? σ l i = some b) : setBlk σ l i b = σ := by
  unfold blk? at h
  unfold setBlk
  cases hs : seg? σ l with
  | none => rfl
  | some s =>
    rw [hs] at h
    have h : s[i]? = some b := h
    dsimp only
    have : s.set i b = s := by
      obtain ⟨h1, h2⟩ := List.getElem?_eq_some_iff.1 h
      rw [← h2, List.set_getElem_self]
    rw [this, setSeg_self hs]
theorem rel_yld {g : G} {w : World} {base l i T e : Nat} {bs : List UInt8} {x : Value} (hi : Inv CR base g σ w) (hc : cells? σ l i 2 = some [.int .i64 T, .int .i64 e, .str bs]) (hx : RelV g (.yld l i) x) :
    ∃ b v, x = .pointer (some ⟨b, 0, none⟩) ∧ g.loc l i = some (.ob b v.ownBlock) ∧ BldAt T e b v bs w := by
  have hblk : blk? σ l i = some (.cells 2 [.int .i64 T, .int .i64 e, .str bs]) := by
    unfold cells? at hc
    split at hc
    · rename_i h
      split at hc
      · rename_i hv; subst hv; cases hc; exact h
      · cases hc
    · cases hc
  have key : ∀ L, g.loc l i = some L → RelB CR g w (.cells 2 [.int .i64 T, .int .i64 e, .str bs]) L := fun L hL => by
    obtain ⟨b1, h1, h2⟩ := hi.dom l i L hL
    rw [hblk] at h1; cases h1; exact h2
  cases hx with
  | yld _ _ b hL => exact (key _ hL).elim
  | mpv _ _ b hL => have h := (key _ hL).1; cases h
  | itv _ _ b L hL hd =>
    rcases hd with rfl | rfl
    · have h := (key _ hL).1; cases h
    · exact (key _ hL).elim
  | bdv _ _ b L hL hd =>
    rcases hd with ⟨c, rfl⟩ | rfl
    · obtain ⟨_, T', e', bs', p, s, h1, h2, h3, h4, h5, h6⟩ := key _ hL
      simp only [List.cons.injEq, D.int.injEq, D.str.injEq, and_true, true_and] at h1
      obtain ⟨hT, he, rfl⟩ := h1
      have hT : T = T' := by omega
      have he : e = e' := by omega
      subst hT he
      subst h5
      exact ⟨b, s, rfl, hL, ⟨p, h2, h3⟩, h4, h6⟩
    · exact (key _ hL).elim
theorem wstrC {T e : Nat} (hT : T < 65536) (h0 : ∃ F c, P.funcs[f]? = some F ∧ F.name ≠ "runtime.NumGoroutine" ∧ F.body = some c)
    (h : ∀ (b : Nat) (v : Value) (bs : List UInt8) (s : ByteArray) (w : World), BldAt T e b v bs w → bs.length + s.size ≤ 140737488355328 →
      Calls P f #[.pointer (some ⟨b, 0, none⟩), .string s] w fun r w' => r = .returned (.tuple #[.int .i64 s.size, .nilIface]) ∧
        ∃ v', BldAt T e b v' (bs ++ s.data.toList) w' ∧ Bare w w' b v.ownBlock ∧ (∀ k, v'.ownBlock = some k → v.ownBlock = some k ∨ (w.heap.size ≤ k ∧ k < w'.heap.size))) : NatC P CR (7 + 16 * (T + 65536 * e)) f := by
  intro args σ r hr
  have e1 : (7 + 16 * (T + 65536 * e)) % 16 = 7 := by omega
  have e2 : (7 + 16 * (T + 65536 * e)) / 16 % 65536 = T := by omega
  have e3 : (7 + 16 * (T + 65536 * e)) / 16 / 65536 = e := by omega
  simp only [natQ, e1, e2, e3] at hr
  split at hr <;> try cases hr
  all_goals try omega
  rename_i l i s _
  split at hr
  case h_2 => cases hr
  rename_i t ee bs hc
  simp only [Option.ite_none_right_eq_some, Option.some.injEq] at hr
  obtain ⟨⟨rfl, rfl, hb⟩, rfl⟩ := hr
  refine ⟨_, _, rfl, h0, fun base g w vs hi hl hp hr => ?_⟩
  obtain ⟨x, y, rfl, hx, hy⟩ := rel_two hr
  obtain ⟨s, rfl, rfl⟩ := rel_str hy
  obtain ⟨b, v, rfl, hL, hB⟩ := rel_yld hi hc hx
  have hblk : ∃ b0, blk? σ l i = some b0 := let ⟨b0, h1, _⟩ := hi.dom l i _ hL; ⟨b0, h1⟩
  obtain ⟨b0, hb0⟩ := hblk
  refine ⟨⟨setBlk_length, fun h => h.set fun _ => (by simp [Blk.low, D.lowL, D.low])⟩, (h b v bs s w hB (by simp at hb; omega)).mono ?_⟩
  rintro r w' ⟨rfl, v', hB', hk, hfr⟩
  obtain ⟨⟨p, k1, k2⟩, k3, k4⟩ := hB'
  have hlen : (bs ++ s.data.toList).length = (bs ++ s.data.toList).length := rfl
  obtain ⟨i2, e2⟩ := hi.setCells (w' := w') (L := .ob b v'.ownBlock) (v := 2) (ds := [.int .i64 T, .int .i64 e, .str (bs ++ s.data.toList)]) hL hb0 (.inl ⟨_, rfl⟩)
    ⟨rfl, T, e, _, p, v', rfl, k1, k2, k3, rfl, k4⟩ (fun k hk1 hk2 => hk.blk k hk1 (fun e => hk2 (.inl e.symm)) (fun e => hk2 (.inr e))) hk.os hk.tape hk.output hk.size (fun k hk1 => by
      rcases hk1 with rfl | hk1
      · exact .inl (.inl rfl)
      · rcases hfr k hk1 with h | h
        · exact .inl (.inr h)
        · exact .inr h)
  refine ⟨_, _, rfl, e2, i2, ?_⟩
  refine .tup _ _ (.cons _ _ _ _ ?_ (.cons _ _ _ _ .nili .nil))
  have : (s.data.toList.length : Int) = s.size := by simp
  rw [this]
  exact .int _ _
theorem bstrC {T e : Nat} (hT : T < 65536) (h0 : ∃ F c, P.funcs[f]? = some F ∧ F.name ≠ "runtime.NumGoroutine" ∧ F.body = some c)
    (h : ∀ (b : Nat) (v : Value) (bs : List UInt8) (w : World), BldAt T e b v bs w → bs ≠ [] →
      Calls P f #[.pointer (some ⟨b, 0, none⟩)] w fun r w' => r = .returned (.string ⟨bs.toArray⟩) ∧ BldAt T e b v bs w' ∧ Bare w w' b v.ownBlock) : NatC P CR (8 + 16 * (T + 65536 * e)) f := by
  intro args σ r hr
  have e1 : (8 + 16 * (T + 65536 * e)) % 16 = 8 := by omega
  have e2 : (8 + 16 * (T + 65536 * e)) / 16 % 65536 = T := by omega
  have e3 : (8 + 16 * (T + 65536 * e)) / 16 / 65536 = e := by omega
  simp only [natQ, e1, e2, e3] at hr
  split at hr <;> try cases hr
  all_goals try omega
  rename_i l i _
  split at hr
  case h_2 => cases hr
  rename_i t ee bs hc
  simp only [Option.ite_none_right_eq_some, Option.some.injEq] at hr
  obtain ⟨⟨rfl, rfl, hb⟩, rfl⟩ := hr
  refine ⟨_, _, rfl, h0, fun base g w vs hi hl hp hr => ⟨⟨rfl, fun h => h⟩, ?_⟩⟩
  obtain ⟨x, rfl, hx⟩ := rel_one hr
  obtain ⟨b, v, rfl, hL, hB⟩ := rel_yld hi hc hx
  refine (h b v bs w hB hb).mono ?_
  rintro r w' ⟨rfl, hB', hk⟩
  obtain ⟨⟨p, k1, k2⟩, k3, k4⟩ := hB'
  have hblk : blk? σ l i = some (.cells 2 [.int .i64 T, .int .i64 e, .str bs]) := by
    unfold cells? at hc
    split at hc
    · rename_i h
      split at hc
      · rename_i hv; subst hv; cases hc; exact h
      · cases hc
    · cases hc
  obtain ⟨i2, e2⟩ := hi.setCells (w' := w') (L := .ob b v.ownBlock) (v := 2) (ds := [.int .i64 T, .int .i64 e, .str bs]) hL hblk (.inl ⟨_, rfl⟩)
    ⟨rfl, T, e, _, p, v, rfl, k1, k2, k3, rfl, k4⟩ (fun k hk1 hk2 => hk.blk k hk1 (fun e => hk2 (.inl e.symm)) (fun e => hk2 (.inr e))) hk.os hk.tape hk.output hk.size (fun k hk1 => .inl hk1)
  rw [setBlk_self hblk] at i2
  exact ⟨_, _, rfl, e2, i2, .str ⟨bs.toArray⟩⟩
end
end Go.Abs

/-
  The contract of slices.Delete at texts, out of the library's own.
-/
set_option linter.unusedVariables false
set_option linter.unusedSimpArgs false
namespace Go.Abs
open Go
open Go.RowKit

structure RowX (w : World) (b o : Nat) (us : List Value) (w' : World) : Prop where
  row : ∀ c el, w.heap[b]? = some (.cells c el (0, 0)) → o + us.length ≤ c.size → ∃ c', w'.heap[b]? = some (.cells c' el (0, 0)) ∧ c'.size = c.size ∧
    ∀ j, c'[j]? = if o ≤ j ∧ j < o + us.length then us[j - o]? else c[j]?
  other : ∀ x, x < w.heap.size → x ≠ b → w'.heap[x]? = w.heap[x]?
  size : w.heap.size ≤ w'.heap.size
  os : w'.os = w.os
  tape : w'.tape = w.tape
  output : w'.output = w.output
def DelOk (P : Program) (f : Nat) : Prop :=
  (∃ F c, P.funcs[f]? = some F ∧ F.name ≠ "runtime.NumGoroutine" ∧ F.body = some c) ∧
  ∀ (b o cap i j : Nat) (xs : List (List UInt8)) (w : World) (c : Array Value) (el : TypeId), w.heap[b]? = some (.cells c el (0, 0)) → o + xs.length ≤ c.size →
    (∀ k s, xs[k]? = some s → c[o + k]? = some (Go.Proofs.encStr s)) → xs.length < 4611686018427387904 → xs.length ≤ cap → cap ≤ 9223372036854775807 → i ≤ j → j ≤ xs.length →
    Calls P f #[.slice (some ⟨b, o, none⟩) xs.length cap, .int .i64 i, .int .i64 j] w fun e w' => e = .returned (.slice (some ⟨b, o, none⟩) (xs.length - (j - i)) cap) ∧ RowX w b o ((delF i j xs).map Go.Proofs.encStr) w'

theorem strsOf_del : ∀ {ds : List D} {xs : List (List UInt8)}, strsOf ds = some xs → ds = xs.map .str
  | [], zs, h => by cases h; rfl
  | d :: ds, zs, h => by
    cases d with
    | str s =>
      simp only [strsOf, Option.map_eq_some_iff] at h
      obtain ⟨l, h1, rfl⟩ := h
      rw [strsOf_del h1]
      rfl
    | _ => simp [strsOf] at h
theorem relL_del {g : G} : ∀ l : List (List UInt8), RelL g (l.map .str) (l.map Go.Proofs.encStr)
  | [] => .nil
  | z :: l => .cons _ _ _ _ (.str ⟨z.toArray⟩) (relL_del l)
theorem delF_length {a b : Nat} {xs : List (List UInt8)} (h1 : a ≤ b) (h2 : b ≤ xs.length) : (delF a b xs).length = xs.length := by
  simp [delF]; omega

theorem delC {P : Program} (CR : CRel) {f : Nat} (hs : DelOk P f) : NatC P CR 9 f := by
  intro args σ r h
  simp only [natQ, Nat.reduceMod] at h
  split at h
  all_goals first | cases h; done | skip
  all_goals try omega
  rename_i l i v off n w1 a b _
  split at h
  case isFalse => cases h
  rename_i hk
  obtain ⟨hn, rfl, hn2, h0a, hab, hbn⟩ := hk
  split at h
  case h_2 => cases h
  rename_i cs hcs
  split at h
  case isFalse => cases h
  rename_i hlen
  split at h
  case h_2 => cases h
  rename_i zs hzs
  cases h
  obtain ⟨hfn, hsort⟩ := hs
  obtain ⟨p, rfl⟩ := Int.eq_ofNat_of_zero_le h0a
  obtain ⟨q, rfl⟩ := Int.eq_ofNat_of_zero_le (Int.le_trans h0a hab)
  simp only [Int.toNat_natCast] at *
  have hab' : p ≤ q := by omega
  have hqn : q ≤ n := by omega
  have hz := strsOf_del hzs
  have hzl : zs.length = n := by
    have := congrArg List.length hz
    simp at this
    omega
  unfold cells? at hcs
  split at hcs
  case h_2 => cases hcs
  rename_i v' cs' hblk
  split at hcs
  case isFalse => cases hcs
  rename_i hv; subst hv; cases hcs
  have hdl : (delF p q zs).length = zs.length := delF_length hab' (by omega)
  have hcl : ∀ m, D.lowL m cs = true → D.lowL m (cs.take off ++ (delF p q zs).map .str ++ cs.drop (off + n)) = true := fun m hm => by
    have hi : D.lowL m ((delF p q zs).map D.str) = true := by
      generalize delF p q zs = l
      induction l with
      | nil => rfl
      | cons z l ih =>
        simp only [List.map_cons, D.lowL, D.low, Bool.true_and] at ih ⊢
        exact ih
    simp only [lowL_append]
    exact ⟨⟨lowL_take hm, hi⟩, lowL_drop hm⟩
  refine ⟨_, _, rfl, hfn, fun base g w vs hi hl hp hr => ?_⟩
  have hgoes : Goes σ (setBlk σ l i (.cells v' (cs.take off ++ (delF p q zs).map .str ++ cs.drop (off + n)))) :=
    ⟨setBlk_length, fun h => h.set fun hlt => hcl _ (h l i _ hblk hlt : Blk.low (l + 1) (.cells v' cs))⟩
  refine ⟨hgoes, ?_⟩
  obtain ⟨vs⟩ := vs
  cases hr with
  | cons _ c0 _ cs0 hr1 hr2 =>
  cases hr2 with
  | cons _ c1 _ cs1 hr3 hr4 =>
  cases hr4 with
  | cons _ c2 _ cs2 hr5 hr6 =>
  cases hr6
  cases hr3
  cases hr5
  cases hr1 with
  | sl _ _ _ _ _ _ a cap L k1 k2 k3 k4 k5 k6 k7 =>
  obtain ⟨b1, hb1, hrel⟩ := hi.dom l i L k1
  rw [hblk] at hb1; cases hb1
  cases L with
  | dead => exact hrel.elim
  | lp z => exact hrel.elim
  | mp z => exact k2.elim
  | it z => exact k2.elim
  | ob z _ => exact k2.elim
  | virt v2 =>
    obtain ⟨_, rfl⟩ := hrel
    simp at hlen
    omega
  | «at» blk bo v2 bsz =>
    obtain ⟨rfl, ca, el, hheap, hcsz, hlen2, us, hru, hus⟩ := hrel
    have hcap : cap ≠ 0 := by omega
    have ha : a = some ⟨blk, bo + off, none⟩ := by
      rcases k6 blk bo bsz rfl with h | h
      · exact h.1
      · exact absurd h hcap
    subst ha
    subst hzl
    have hul := hru.length
    have hcell : ∀ j z, zs[j]? = some z → ca[bo + off + j]? = some (Go.Proofs.encStr z) := fun j z hj => by
      have h1 : cs[off + j]? = some (.str z) := by
        have h2 : ((cs.drop off).take zs.length)[j]? = some (.str z) := by
          rw [hz]
          simp [hj]
        rw [List.getElem?_take] at h2
        split at h2
        · rwa [List.getElem?_drop] at h2
        · cases h2
      obtain ⟨u, hu1, hu2⟩ := hru.get h1
      have h3 : u = Go.Proofs.encStr z := by cases hu2 with | str b => rfl
      subst h3
      have := (hus _ _ hu1).1
      rwa [← Nat.add_assoc] at this
    have hbig : zs.length < 4611686018427387904 := by omega
    have hc := hsort blk (bo + off) cap p q zs w ca el hheap (by omega) hcell hbig k3.1 (by omega) hab' (by omega)
    intro cs1
    obtain ⟨e, w', fr, ⟨he, hw⟩, h2, h3, h4⟩ := hc cs1
    subst he
    obtain ⟨c', hb', hs', hc'⟩ := hw.row ca el hheap (by simp only [List.length_map, hdl]; omega)
    simp only [List.length_map, hdl] at hc'
    have hle2 : g.le (g.setLoc l i (.at blk bo v' bsz)) := G.le_setLoc fun L0 e0 => by rw [k1] at e0; cases e0; exact Loc.le_refl _
    have hps : ((delF p q zs).map Go.Proofs.encStr).length = zs.length := by simp [hdl]
    obtain ⟨i2, e2⟩ := hi.setCells (w' := w') (L := .at blk bo v' bsz) (v := v') (ds := cs.take off ++ (delF p q zs).map .str ++ cs.drop (off + zs.length)) k1 hblk (Loc.le_refl _)
      ⟨rfl, c', el, hb', by rw [hs', hcsz], by simp [hdl]; omega, us.take off ++ (delF p q zs).map Go.Proofs.encStr ++ us.drop (off + zs.length),
        (((hru.take off).append (relL_del _)).append (hru.drop _)).mono hle2, by
          have := row_write (c := ca) (c' := c') (bo := bo) (off := off) (vs := us) (ps := (delF p q zs).map Go.Proofs.encStr) hus (by
            intro x hx
            simp only [List.mem_map] at hx
            obtain ⟨z, _, rfl⟩ := hx
            rfl) (by rw [hps]; omega) (by rw [hps]; exact hc')
          rw [hps] at this; exact this⟩
      (fun b' hb' hne => hw.other b' hb' (fun hh => hne (by rw [hh]; rfl))) hw.os hw.tape hw.output hw.size (fun b' hb' => .inl hb')
    refine ⟨_, w', fr, ⟨_, _, rfl, e2, i2, ?_⟩, h2, h3, h4⟩
    exact .sl _ _ _ _ _ _ _ _ (.at blk bo v' bsz) G.setLoc_same (Nat.le_refl _) (by omega) (by simp) (by rintro x hx hh; cases hx; rfl) (by rintro blk2 bo2 sz2 hh; cases hh; left; exact ⟨rfl, by rcases k6 _ _ _ rfl with h | h <;> omega⟩) (by intro hh; cases hh)
end Go.Abs

/-
  The contracts of the library's functions on texts, at a program's numbers.
-/
set_option linter.unusedVariables false
namespace Go.Abs
open Go
open Go.RowKit Go.Shelf Go.Sort Go.Proofs

section
variable {P : Program} {ρ : Ren} {k : Nat}
theorem nat_itoa (L : LaysM.n171 P ρ) (hk : ρ.f 171 = k) (h0 : ∃ F c, P.funcs[k]? = some F ∧ F.name ≠ "runtime.NumGoroutine" ∧ F.body = some c) : NatC P (CR0 P) 3 k := by
  subst hk
  refine itoaC L.m17 h0 fun n w h1 h2 ht => (Any.strconv_Itoa L n h1 h2 w ht).mono ?_
  rintro e w' ⟨he, q, os, rfl⟩
  exact ⟨he, rfl, rfl, rfl, by simp [grow], fun j hj => by simp only [grow]; rw [Array.getElem?_append_left (by simpa using hj)]; rfl⟩
theorem nat_atoi (L : LaysC.n172 P ρ) (hk : ρ.f 172 = k) {t : Nat} (ht : ρ.t 168 = t) (h0 : ∃ F c, P.funcs[k]? = some F ∧ F.name ≠ "runtime.NumGoroutine" ∧ F.body = some c) : NatC P (CR0 P) (4 + 16 * t) k := by
  subst hk ht
  refine atoiC L.m15 L.m16 h0 (fun s v w hs h => (Any.strconv_Atoi_ok L s hs v h w).mono ?_) (fun s ev w hs h hv he => (Any.strconv_Atoi_syntax L s hs h ev w hv he).mono ?_) (fun s ev w hs h hv he => (Any.strconv_Atoi_range L s hs h ev w hv he).mono ?_)
  · rintro e w' ⟨he, rfl | ⟨s, rfl⟩⟩
    · exact ⟨he, Below.refl _ _⟩
    · exact ⟨he, Joins.below_bytesWorld _ _ _ _ (Nat.le_refl _)⟩
  · rintro e w' ⟨N, he, _, _, hb⟩
    exact ⟨_, he, hb⟩
  · rintro e w' ⟨N, he, _, _, hb⟩
    exact ⟨_, he, hb⟩
theorem nat_split (L : Lays.n146 P ρ) (hk : ρ.f 146 = k) {m : Nat} (hm : P.globalNamed "internal/bytealg.MaxLen" = some m) (hm' : ρ.g 1 = m) (hi : (P.info? (ρ.t 9)).map (fun i => (i.zero, i.size, i.bytes)) = some (some (.string ByteArray.empty), 1, 16))
    (h0 : ∃ F c, P.funcs[k]? = some F ∧ F.name ≠ "runtime.NumGoroutine" ∧ F.body = some c) : NatC P (CR0 P) 6 k := by
  subst hk hm'
  exact splitC hm h0 fun s sep m w h1 h2 h3 => Any.strings_Split L hi s sep m w h1 h2 h3
theorem nat_join (L : Lays.n156 P ρ) (X : Builder.Extra P ρ) (hk : ρ.f 156 = k) (h0 : ∃ F c, P.funcs[k]? = some F ∧ F.name ≠ "runtime.NumGoroutine" ∧ F.body = some c) : NatC P (CR0 P) 5 k := by
  subst hk
  exact joinC h0 (fun a c sep w => Any.strings_Join_none L X a c sep w) (fun bk o c xs sep w h1 h2 h3 h4 h5 => Any.strings_Join L X bk o c xs sep w h1 h2 h3 h4 h5)
theorem nat_wstr {CR : CRel} (L : Lays.n166 P ρ) (X : Builder.Extra P ρ) (hk : ρ.f 166 = k) {T e : Nat} (hT : ρ.t 72 = T) (he : ρ.t 5 = e) (hlt : T < 65536) (h0 : ∃ F c, P.funcs[k]? = some F ∧ F.name ≠ "runtime.NumGoroutine" ∧ F.body = some c) :
    NatC P CR (7 + 16 * (T + 65536 * e)) k := by
  subst hk hT he
  exact wstrC hlt h0 fun b v bs s w h1 h2 => wstr L X b v bs s w h1 h2
theorem nat_bstr {CR : CRel} (L : Lays.n169 P ρ) (X : Builder.Extra P ρ) (hk : ρ.f 169 = k) {T e : Nat} (hT : ρ.t 72 = T) (he : ρ.t 5 = e) (hlt : T < 65536) (h0 : ∃ F c, P.funcs[k]? = some F ∧ F.name ≠ "runtime.NumGoroutine" ∧ F.body = some c) :
    NatC P CR (8 + 16 * (T + 65536 * e)) k := by
  subst hk hT he
  exact bstrC hlt h0 fun b v bs w h1 h2 => bstr L X b v bs w h1 h2
theorem nat_del {CR : CRel} (L : Lays2.n24 P ρ) (hk : ρ.f 24 = k) (h0 : ∃ F c, P.funcs[k]? = some F ∧ F.name ≠ "runtime.NumGoroutine" ∧ F.body = some c) : NatC P CR 9 k := by
  subst hk
  refine delC CR ⟨h0, fun b o cap i j xs w c el hb hlen hcell hbig hcap hm hij hj => ?_⟩
  have hlt : b < w.heap.size := (Array.getElem?_eq_some_iff.1 hb).1
  have hH : Holds encStr w b o xs.toArray := by
    intro q hq
    have hq' : q < xs.length := by simpa using hq
    have h1 := hcell q xs[q] (by simp [hq'])
    refine ⟨?_, by simp [World.frozen?, hb]⟩
    have h2 : xs.toArray[q]! = xs[q] := by simp [hq']
    rw [h2]
    simp [World.cell?, hb, h1]
  refine (Any.slices_Delete_string L b o cap i j xs w hH hcap hm hij hj).mono ?_
  rintro e w' ⟨he, q, rfl⟩
  refine ⟨he, ?_⟩
  have hdl := delF_length hij hj
  have hmod : ∀ x, x < w.heap.size → (putRow encStr (Sort.ahead w q) b o (delF i j xs).toArray).heap[x]? = (if b = x then (w.heap[x]?).map (onCells (putCells encStr o (delF i j xs).toArray)) else w.heap[x]?) := fun x hx => by
    simp only [putRow, mapBlock]
    rw [Array.getElem?_modify]
    rfl
  refine ⟨fun c1 el1 hb1 hl1 => ?_, fun x hx hne => ?_, ?_, rfl, rfl, rfl⟩
  · have h1 := hmod b hlt
    rw [if_pos rfl, hb1] at h1
    refine ⟨_, h1, by simp [putCells], fun j' => ?_⟩
    simp only [putCells, Array.getElem?_mapIdx]
    have hsz : (delF i j xs).toArray.size = (delF i j xs).length := by simp
    rw [hsz]
    simp only [List.length_map] at hl1 ⊢
    by_cases hj : o ≤ j' ∧ j' < o + (delF i j xs).length
    · rw [if_pos hj]
      have hjc : j' < c1.size := by omega
      have hjs : j' - o < (delF i j xs).length := by omega
      simp [hjc, hj, hjs]
    · rw [if_neg hj]
      cases c1[j']? with
      | none => rfl
      | some v => simp [hj]
  · exact (hmod x hx).trans (if_neg (fun h => hne h.symm))
  · show w.heap.size ≤ (putRow encStr (Sort.ahead w q) b o (delF i j xs).toArray).heap.size
    simp [putRow, mapBlock]
end
end Go.Abs

/-
  Rows of elements, numbers that fit: what the reckoning of calls needs of lists and numbers.
-/
set_option linter.unusedVariables false
set_option linter.unusedSimpArgs false
namespace Go.Abs
open Go

theorem WL.to {T : Tbl} {live : List Nat} {seg : Bool} {c : Cmd} {e e' : Env} {σ σ' : Stack} {Q Q' : Exit → Env → Stack → Prop} (h : WL T live seg c e σ Q) (he : e' = e) (hs : σ' = σ)
    (hq : ∀ x e σ, Q x e σ → Q' x e σ) : WL T live seg c e' σ' Q' := by subst he hs; exact h.mono hq

theorem flat_len {α : Type} {f : α → List D} {w : Nat} (hw : ∀ x, (f x).length = w) (l : List α) : (l.flatMap f).length = l.length * w := by
  induction l with
  | nil => simp
  | cons a l ih => simp [hw, ih, Nat.succ_mul]; omega

theorem flat_at {α : Type} {f : α → List D} {w : Nat} (hw : ∀ x, (f x).length = w) : ∀ {l : List α} {i : Nat} {x : α}, l[i]? = some x → ((l.flatMap f).drop (i * w)).take w = f x
  | [], i, x, h => by simp at h
  | a :: l, 0, x, h => by
    simp at h; subst h
    simp [← hw a]
  | a :: l, i + 1, x, h => by
    have e : (i + 1) * w = (f a).length + i * w := by rw [hw, Nat.succ_mul]; omega
    rw [List.flatMap_cons, e, List.drop_append]
    simp only [Nat.add_sub_cancel_left, List.drop_eq_nil_of_le (Nat.le_add_right _ _), List.nil_append]
    exact flat_at hw (by simpa using h)

theorem drop_at {α : Type} {l : List α} {i : Nat} {x : α} (h : l[i]? = some x) : l.drop i = x :: l.drop (i + 1) := by
  have h1 : i < l.length := (List.getElem?_eq_some_iff.1 h).1
  rw [List.drop_eq_getElem_cons h1]
  rw [List.getElem?_eq_getElem h1] at h
  simp at h
  rw [h]

theorem w64 {n : Int} (h : -9223372036854775808 ≤ n ∧ n ≤ 9223372036854775807) : IntKind.i64.wrap n = n := IntWalk.i64_in n h
@[simp] theorem wlit0 : IntKind.i64.wrap 0 = 0 := by decide
@[simp] theorem wlit1 : IntKind.i64.wrap 1 = 1 := by decide
@[simp] theorem wlit2 : IntKind.i64.wrap 2 = 2 := by decide
@[simp] theorem wlit3 : IntKind.i64.wrap 3 = 3 := by decide
@[simp] theorem wlit4 : IntKind.i64.wrap 4 = 4 := by decide
@[simp] theorem wlit5 : IntKind.i64.wrap 5 = 5 := by decide
theorem wu8 {n : Int} (h : 0 ≤ n ∧ n ≤ 255) : IntKind.u8.wrap n = n := IntWalk.u8_in n h
theorem wnext {i n : Nat} (h : i < n) (hn : n ≤ 9223372036854775807) : IntKind.i64.wrap ((i : Int) + 1) = ((i + 1 : Nat) : Int) := by
  rw [w64 (by omega)]; rfl

end Go.Abs

/-
  Functions over lists that take a function: IndexFunc, ContainsFunc, and 'all' of a package, for elements of any type.
-/
set_option linter.unusedVariables false
set_option linter.unusedSimpArgs false
namespace Go.Abs
open Go

variable {T : Tbl}

def idxOf {α : Type} (p : α → Bool) : List α → Int
  | [] => -1
  | x :: l => if p x then 0 else if idxOf p l < 0 then -1 else idxOf p l + 1

theorem idxOf_neg {α : Type} {p : α → Bool} : ∀ {l : List α}, idxOf p l < 0 ↔ l.any p = false
  | [] => by simp [idxOf]
  | x :: l => by
    have ih := idxOf_neg (p := p) (l := l)
    simp only [idxOf, List.any_cons]
    cases h : p x
    · simp only [Bool.false_eq_true, if_false, Bool.false_or]
      by_cases h1 : idxOf p l < 0
      · rw [if_pos h1, ih.1 h1]; decide
      · rw [if_neg h1]
        have h2 : ¬ l.any p = false := fun h => h1 (ih.2 h)
        exact ⟨fun h3 => absurd h3 (by omega), fun h3 => absurd h3 h2⟩
    · simp

def allB {α : Type} (l : List α) (p : α → Bool) : Bool := l.all p
def anyB {α : Type} (l : List α) (p : α → Bool) : Bool := l.any p
theorem anyB_iff {α : Type} {l : List α} {p : α → Bool} : anyB l p = true ↔ ∃ x ∈ l, p x = true := by simp [anyB]

def Tests (T : Tbl) {α : Type} (fv : D) (val : α → D) (p : α → Bool) (l : List α) : Prop :=
  fv.strip = fv ∧ fv.calm = fv ∧ ∀ x ∈ l, ∀ σ, callv (lim T) false fv [val x] σ = some (.bool (p x), σ)

theorem Tests.fn {α : Type} {f : Nat} {first cap : List D} {val : α → D} {p : α → Bool} {l : List α}
    (h : ∀ x ∈ l, ∀ σ, lim T (.call false f (first ++ [val x] ++ cap) σ) = some (.val (.bool (p x)) σ)) : Tests T (.fn f first cap) val p l :=
  ⟨rfl, rfl, fun x hx σ => by rw [callv_fn, h x hx σ]; rfl⟩

structure Elt (α : Type) where
  ag : Bool
  w : Nat
  enc : α → List D
  val : α → D
  len : ∀ x, (enc x).length = w
  load : ∀ x, ldD ag w (some (enc x)) = some (val x)
  strip : ∀ x, (val x).strip = val x
  calm : ∀ x, (val x).calm = val x
  cells : ∀ x, (val x).cells = some (enc x)

def eltInt (k : IntKind) : Elt Int := ⟨false, 1, fun n => [.int k n], fun n => .int k n, fun _ => rfl, fun _ => by simp, fun _ => rfl, fun _ => rfl, fun _ => rfl⟩
def eltBool : Elt Bool := ⟨false, 1, fun n => [.bool n], fun n => .bool n, fun _ => rfl, fun _ => by simp, fun _ => rfl, fun _ => rfl, fun _ => rfl⟩
def eltAgg {α : Type} (w : Nat) (enc : α → List D) (h : ∀ x, (enc x).length = w) : Elt α :=
  ⟨true, w, enc, fun x => .agg (enc x), h, fun x => by simp [h, List.take_of_length_le], fun _ => rfl, fun _ => rfl, fun _ => rfl⟩

section index
variable (ag : Bool) (w : Nat)
def idxL : Cmd :=
  (.seq (.reg [0, 1, 7, 8, 9] [⟨some 9, none, false, .bin .lss (.t 8) (.t 7)⟩]) (.seq (.ite (.t 9) .nop (.exit 0)) (.seq (.blk 1 (.seq (.reg [0, 1, 5, 7, 8] [
  ⟨some 10, none, false, .mv (.t 8)⟩,
  ⟨some 5, none, false, .mv (.t 10)⟩]) (.seq (.reg [0, 1, 5, 7, 8, 16] [
  ⟨some 11, none, false, .mv (.t 1)⟩,
  ⟨some 12, none, false, .mv (.t 0)⟩,
  ⟨some 13, none, false, .mv (.t 5)⟩,
  ⟨some 14, none, false, .idxS w (.t 12) (.t 13)⟩,
  ⟨some 15, none, false, .ld ag w (.t 14)⟩,
  ⟨some 16, none, false, .call false (.t 11) [(.t 15)]⟩]) (.ite (.t 16) (.seq (.reg [4] [
  ⟨some 17, none, false, .mv (.t 5)⟩,
  ⟨some 4, none, false, .mv (.t 17)⟩]) .ret) .nop)))) (.reg [0, 1, 7, 8] [
  ⟨some 18, none, false, .bin .add (.t 8) (.c (.int .i64 1))⟩,
  ⟨some 8, none, false, .mv (.t 18)⟩]))))
def idxFn : Fn := ⟨2, [.t 4],
  (.seq (.reg [0, 1] [⟨some 4, none, false, .mv (.c (.int .i64 0))⟩]) (.seq (.seq (.reg [0, 1, 7, 8] [
  ⟨some 6, none, false, .mv (.t 0)⟩,
  ⟨some 7, none, false, .lenS (.t 6)⟩,
  ⟨some 8, none, false, .mv (.c (.int .i64 0))⟩]) (.blk 0 (.loop [0, 1, 7, 8] false (idxL ag w)))) (.seq (.reg [4] [
  ⟨some 4, none, false, .mv (.c (.int .i64 (-1)))⟩]) .ret)))⟩
def containsFn (i : Nat) : Fn := ⟨2, [.t 4],
  (.seq (.reg [0, 1] [⟨some 4, none, false, .mv (.c (.bool false))⟩]) (.seq (.reg [4] [
  ⟨some 5, none, false, .mv (.t 0)⟩,
  ⟨some 6, none, false, .mv (.t 1)⟩,
  ⟨some 7, none, false, .call false (.c (.fn i [] [])) [(.t 5), (.t 6)]⟩,
  ⟨some 8, none, false, .bin .geq (.t 7) (.c (.int .i64 0))⟩,
  ⟨some 4, none, false, .mv (.t 8)⟩]) .ret))⟩
def allFn (g h : Nat) : Fn := ⟨2, [.t 4],
  (.seq (.reg [0, 3] [
  ⟨some 3, none, false, .boxi (.t 1)⟩,
  ⟨some 4, none, false, .mv (.c (.bool false))⟩]) (.seq (.reg [4] [
  ⟨some 5, none, false, .mv (.t 0)⟩,
  ⟨some 6, none, false, .mkf g [] [(.t 3)]⟩,
  ⟨some 7, none, false, .call false (.c (.fn h [] [])) [(.t 5), (.t 6)]⟩,
  ⟨some 8, none, false, .un .not (.t 7)⟩,
  ⟨some 4, none, false, .mv (.t 8)⟩]) .ret))⟩
def all1Fn : Bool → Nat → Fn
  | true, w => ⟨2, [.t 3],
  (.seq (.reg [1, 2] [
  ⟨some 2, none, false, .boxi (.t 0)⟩,
  ⟨some 3, none, false, .mv (.c (.bool false))⟩]) (.seq (.reg [3] [
  ⟨some 4, none, false, .ld false 1 (.t 1)⟩,
  ⟨some 5, none, false, .ld true w (.t 2)⟩,
  ⟨some 6, none, false, .call false (.t 4) [(.t 5)]⟩,
  ⟨some 7, none, false, .un .not (.t 6)⟩,
  ⟨some 3, none, false, .mv (.t 7)⟩]) .ret))⟩
  | false, _ => ⟨2, [.t 3],
  (.seq (.reg [0, 1] [
  ⟨some 3, none, false, .mv (.c (.bool false))⟩]) (.seq (.reg [3] [
  ⟨some 4, none, false, .ld false 1 (.t 1)⟩,
  ⟨some 5, none, false, .mv (.t 0)⟩,
  ⟨some 6, none, false, .call false (.t 4) [(.t 5)]⟩,
  ⟨some 7, none, false, .un .not (.t 6)⟩,
  ⟨some 3, none, false, .mv (.t 7)⟩]) .ret))⟩
end index

section
variable {α : Type} (E : Elt α) {p : α → Bool} {fv : D} {l : List α}

theorem idx_loop (hl : l.length ≤ 9223372036854775807) (ht : Tests T fv E.val p l) {σ : Stack} : ∀ (m i : Nat), i + m = l.length →
    WL T [0, 1, 7, 8] false (idxL E.ag E.w) [(0, .lst l.length (l.flatMap E.enc)), (1, fv), (7, .int .i64 l.length), (8, .int .i64 i)] σ
      (fun x e σ' => σ' = σ ∧ if idxOf p (l.drop i) < 0 then x = .exit 0 else x = .ret ∧ get e 4 = .int .i64 (i + idxOf p (l.drop i)))
  | 0, i, hi => by
    obtain ⟨h1, h2, h3⟩ := ht
    refine WL_step (idxL.eq_1 _ _) ?_
    have : ¬ i < l.length := by omega
    have h5 : l.drop i = [] := by simp; omega
    simp [this, h1, h2, h5, idxOf]
  | m + 1, i, hi => by
    have ih := idx_loop hl ht (σ := σ) m (i + 1) (by omega)
    obtain ⟨h1, h2, h3⟩ := ht
    refine WL_step (idxL.eq_1 _ _) ?_
    have h4 : i < l.length := by omega
    obtain ⟨x, hx⟩ : ∃ x, l[i]? = some x := ⟨_, List.getElem?_eq_getElem h4⟩
    have h5 := flat_at (f := E.enc) E.len hx
    have h6 := h3 x (List.mem_of_getElem? hx) σ
    have h7 := wnext h4 hl
    have h8 : l.drop i = x :: l.drop (i + 1) := by
      rw [List.drop_eq_getElem_cons h4]
      rw [List.getElem?_eq_getElem h4] at hx
      simp at hx
      rw [hx]
    cases hp : p x
    · rw [hp] at h6
      simp [h4, h1, h2, h5, h6, h7, E.load, E.strip, E.calm]
      refine WL.mono (by simpa using ih) ?_
      rintro x e σ' ⟨h9, h10⟩
      refine ⟨h9, ?_⟩
      rw [h8]
      simp only [idxOf, hp, Bool.false_eq_true, if_false]
      by_cases h11 : idxOf p (l.drop (i + 1)) < 0
      · simpa [h11] using h10
      · rw [if_neg h11] at h10
        rw [if_neg h11, if_neg (by omega)]
        refine ⟨h10.1, ?_⟩
        rw [h10.2]
        congr 1
        push_cast
        omega
    · rw [hp] at h6
      simp [h4, h1, h2, h5, h6, h7, E.load, E.strip, E.calm, h8, idxOf, hp]

theorem index_of {f : Nat} (hT : T f = some (idxFn E.ag E.w)) (hl : l.length ≤ 9223372036854775807) (ht : Tests T fv E.val p l) {σ : Stack} :
    lim T (.call false f [.lst l.length (l.flatMap E.enc), fv] σ) = some (.val (.int .i64 (idxOf p l)) σ) := by
  refine call_of hT (idxFn.eq_1 _ _) rfl ?_
  have h := idx_loop E hl ht (σ := [] :: σ) l.length 0 (by simp)
  obtain ⟨h1, h2, h3⟩ := ht
  simp [h1, h2]
  refine WL.mono (by simpa using h) ?_
  rintro x e σ' ⟨rfl, h10⟩
  try simp only [List.drop_zero] at h10
  by_cases h11 : idxOf p l < 0
  · rw [if_pos h11] at h10
    subst h10
    have : idxOf p l = -1 := by
      cases l with
      | nil => rfl
      | cons a l =>
        simp only [idxOf] at h11 ⊢
        split at h11 <;> rename_i ha
        · omega
        · rw [if_neg ha]
          split at h11 <;> rename_i hb
          · rw [if_pos hb]
          · omega
    simp [this]
  · rw [if_neg h11] at h10
    obtain ⟨rfl, h12⟩ := h10
    try simp at h12
    simp [h12]

theorem contains_of {f i : Nat} (hT : T f = some (containsFn i)) (hi : T i = some (idxFn E.ag E.w)) (hl : l.length ≤ 9223372036854775807) (ht : Tests T fv E.val p l) {σ : Stack} :
    lim T (.call false f [.lst l.length (l.flatMap E.enc), fv] σ) = some (.val (.bool (anyB l p)) σ) := by
  refine call_of hT (containsFn.eq_1 _) rfl ?_
  have h := index_of E hi hl ht (σ := [] :: σ)
  obtain ⟨h1, h2, h3⟩ := ht
  have h4 : decide (0 ≤ idxOf p l) = anyB l p := by
    unfold anyB
    have h6 := idxOf_neg (p := p) (l := l)
    cases h5 : l.any p
    · have := h6.2 h5
      exact decide_eq_false (by omega)
    · exact decide_eq_true (by
        have : ¬ idxOf p l < 0 := fun h => by rw [h6.1 h] at h5; cases h5
        omega)
  simp [h1, h2, h, h4]

end

end Go.Abs

/-
  Loops over functions: rounds.
-/
set_option linter.unusedVariables false
set_option linter.unusedSimpArgs false
namespace Go.Abs
open Go

variable {T : Tbl}

theorem call_to {f : Nat} {fn : Fn} {args : List D} {σ σ' : Stack} {d : D} {np : Nat} {res : List Res} {body : Cmd} (hT : T f = some fn) (hf : fn = ⟨np, res, body⟩) (hl : args.length = np) (hs : σ'.length = σ.length)
    (h : WC (lim T) body (mkEnv 0 args) ([] :: σ) (endC σ' res d)) :
    lim T (.call false f args σ) = some (.val d σ') := by
  subst hf
  obtain ⟨x, e1, σ1, h1, h2, h2', ds, h3, s, h4⟩ := h
  refine lim_step ?_
  rw [hs, deep_def] at h4
  simp only [stepQ, hT, if_pos hl, Bool.false_eq_true, if_false, h1]
  cases x with
  | exit i => exact absurd rfl (h2 i)
  | thr d => exact absurd rfl (h2' d)
  | normal => simp [h3, h4]
  | ret => simp [h3, h4]

def okX : Exit → Prop
  | .normal => True
  | .ret => True
  | _ => False
@[simp] theorem okX_normal : okX .normal = True := by_rfl rfl
@[simp] theorem okX_ret : okX .ret = True := by_rfl rfl

inductive Rounds (T : Tbl) (l i : Nat) {α : Type} (f : α → List D) : List α → Stack → Bool → Stack → Prop
  | nil (σ : Stack) : Rounds T l i f [] σ true σ
  | go (a : α) (xs : List α) (σ σ1 σ2 : Stack) (b : Bool) : lim T (.round l i (f a) σ) = some (.val (.bool true) σ1) → Rounds T l i f xs σ1 b σ2 → Rounds T l i f (a :: xs) σ b σ2
  | stop (a : α) (xs : List α) (σ σ1 : Stack) : lim T (.round l i (f a) σ) = some (.val (.bool false) σ1) → Rounds T l i f (a :: xs) σ false σ1

theorem Rounds.split {l i : Nat} {α : Type} {f : α → List D} : ∀ {xs bs : List α} {σ σ' : Stack} {b : Bool}, Rounds T l i f (xs ++ bs) σ b σ' →
    (∃ σ1, Rounds T l i f xs σ true σ1 ∧ Rounds T l i f bs σ1 b σ') ∨ (b = false ∧ Rounds T l i f xs σ false σ')
  | [], bs, σ, σ', b, h => .inl ⟨σ, .nil σ, h⟩
  | a :: xs, bs, σ, σ', b, h => by
    cases h with
    | go _ _ _ σ1 _ _ h1 h2 =>
      rcases Rounds.split h2 with ⟨σ3, h3, h4⟩ | ⟨rfl, h3⟩
      · exact .inl ⟨σ3, .go _ _ _ _ _ _ h1 h3, h4⟩
      · exact .inr ⟨rfl, .go _ _ _ _ _ _ h1 h3⟩
    | stop _ _ _ _ h1 => exact .inr ⟨rfl, .stop _ _ _ _ h1⟩

theorem WC_rngf {live : List Nat} {fo : Opd} {params : List Nat} {asg body : Cmd} {e : Env} {s : List Blk} {σ σ2 : Stack} {Q : Exit → Env → Stack → Prop} {g : Nat} {first cap : List D} {d : D} {lp : LoopSt}
    (hf : opd e fo = .fn g first cap)
    (hc : lim T (.call false g (first ++ [.yld σ.length s.length] ++ cap) ((s ++ [.loop { state := 0, pend := none, env := strips live e, params, asg, body }]) :: σ)) = some (.val d σ2))
    (hb : blk? σ2 σ.length s.length = some (.loop lp)) (hs : lp.state ≠ 1)
    (hq : Q (lp.pend.getD .normal) (restrict live e) (setBlk σ2 σ.length s.length (.loop { lp with state := 3 }))) :
    WC (lim T) (.rngf live fo params asg body) e (s :: σ) Q := by
  refine ⟨_, _, _, ?_, hq⟩
  simp only [acode, newBlk, hf, callf, hc, R.vals, hb, if_neg hs]

def loopOf : Option Blk → Option LoopSt
  | some (.loop lp) => some lp
  | _ => none
@[simp] theorem loopOf_loop {lp : LoopSt} : loopOf (some (.loop lp)) = some lp := by_rfl rfl
theorem loopOf_some {o : Option Blk} {lp : LoopSt} (h : loopOf o = some lp) : o = some (.loop lp) := by
  cases o with
  | none => cases h
  | some b => cases b <;> cases h; rfl

def endR (l i : Nat) (b : Bool) (σ' : Stack) (x : Exit) (σ2 : Stack) : Prop :=
  match x with
  | .thr _ => False
  | .normal => WD (loopOf (blk? σ2.tail l i)) fun lp2 => setBlk σ2.tail l i (.loop { lp2 with state := 0, pend := none }) = σ' ∧ b = true
  | x => WD (loopOf (blk? σ2.tail l i)) fun lp2 => setBlk σ2.tail l i (.loop { lp2 with state := 2, pend := some x }) = σ' ∧ b = false
@[simp] theorem endR_normal {l i : Nat} {b : Bool} {σ' : Stack} {s2 : List Blk} {σ3 : Stack} : endR l i b σ' .normal (s2 :: σ3) = WD (loopOf (blk? σ3 l i)) fun lp2 => setBlk σ3 l i (.loop { lp2 with state := 0, pend := none }) = σ' ∧ b = true := by_rfl rfl
@[simp] theorem endR_ret {l i : Nat} {b : Bool} {σ' : Stack} {s2 : List Blk} {σ3 : Stack} : endR l i b σ' .ret (s2 :: σ3) = WD (loopOf (blk? σ3 l i)) fun lp2 => setBlk σ3 l i (.loop { lp2 with state := 2, pend := some .ret }) = σ' ∧ b = false := by_rfl rfl
@[simp] theorem endR_exit {l i j : Nat} {b : Bool} {σ' : Stack} {s2 : List Blk} {σ3 : Stack} : endR l i b σ' (.exit j) (s2 :: σ3) = WD (loopOf (blk? σ3 l i)) fun lp2 => setBlk σ3 l i (.loop { lp2 with state := 2, pend := some (.exit j) }) = σ' ∧ b = false := by_rfl rfl

def midR (T : Tbl) (l i : Nat) (b : Bool) (σ' : Stack) (n : Nat) (body : Cmd) (x : Exit) (e1 : Env) (σ1 : Stack) (_m : Mark body := .mk) : Prop :=
  x = .normal ∧ WD (loopOf (blk? σ1 l i)) fun lp1 => lp1.state = 0 ∧ WC (lim T) body e1 (setBlk σ1 l i (.loop { lp1 with state := 1 })) fun x _ σ2 => σ2.length = n ∧ endR l i b σ' x σ2

theorem round_of {l i : Nat} {args : List D} {σ σ' : Stack} {b : Bool} {lp : LoopSt} (hb : blk? σ l i = some (.loop lp)) (hl : args.length = lp.params.length)
    (h : WC (lim T) lp.asg (putAll lp.params args lp.env) ([] :: σ) (midR T l i b σ' (σ.length + 1) lp.body)) :
    lim T (.round l i args σ) = some (.val (.bool b) σ') := by
  obtain ⟨x, e1, σ1, h1, rfl, lp1, h2, h3, x2, e2, σ2, h4, hlen, h6⟩ := h
  have h2 := loopOf_some h2
  cases σ2 with
  | nil => simp at hlen
  | cons s2 σ3 =>
  refine lim_step ?_
  simp only [stepQ, hb, if_pos hl, h1, h2, if_pos h3, h4]
  cases x2 with
  | normal => obtain ⟨lp2, h5, h6, rfl⟩ := h6; have h5 := loopOf_some h5; dsimp only [List.tail] at h5 h6 ⊢; rw [h5]; dsimp only; rw [h6]
  | exit j => obtain ⟨lp2, h5, h6, rfl⟩ := h6; have h5 := loopOf_some h5; dsimp only [List.tail] at h5 h6 ⊢; rw [h5]; dsimp only; rw [h6]
  | ret => obtain ⟨lp2, h5, h6, rfl⟩ := h6; have h5 := loopOf_some h5; dsimp only [List.tail] at h5 h6 ⊢; rw [h5]; dsimp only; rw [h6]
  | thr d => exact h6.elim

@[simp] theorem putAll_cons {t : Nat} {ts : List Nat} {d : D} {ds : List D} {e : Env} : putAll (t :: ts) (d :: ds) e = putAll ts ds ((t, d) :: e) := by_rfl rfl
@[simp] theorem putAll_nil {ds : List D} {e : Env} : putAll [] ds e = e := by_rfl (by cases ds <;> rfl)
@[simp] theorem strips_nil {e : Env} : strips [] e = [] := by_rfl rfl
@[simp] theorem strips_cons {t : Nat} {l : List Nat} {e : Env} : strips (t :: l) e = (t, (get e t).strip) :: strips l e := by_rfl rfl

end Go.Abs

/-
  Freezing reckoned; rows of elements: more of them.
-/
set_option linter.unusedVariables false
set_option linter.unusedSimpArgs false
namespace Go.Abs
open Go
variable {T : Tbl}

def frzT (vs : List Nat) (v : Nat) (d : D) (e : Env) (σ : Stack) : Env × Stack :=
  match d with
  | .sl l i u off m w => frzs vs ((v, (frz 0 deep (.sl l i u off m w) σ).1) :: e) (frz 0 deep (.sl l i u off m w) σ).2
  | .own s cs => frzs vs ((v, .own s (frz.frzL (frz 0 deep) cs σ).1) :: e) (frz.frzL (frz 0 deep) cs σ).2
  | .agg cs => frzs vs ((v, .agg (cs.map D.blur)) :: e) σ
  | .undef => if 1000000 ≤ v then frzs vs (frzV (v - 1000000) e σ).1 (frzV (v - 1000000) e σ).2 else frzs vs e σ
  | _ => frzs vs e σ
@[simp] theorem frzs_nil {e : Env} {σ : Stack} : frzs [] e σ = (e, σ) := by_rfl rfl
@[simp] theorem frzs_cons {v : Nat} {vs : List Nat} {e : Env} {σ : Stack} : frzs (v :: vs) e σ = frzT vs v (get e v) e σ := by
  simp only [frzs, frzT]
  cases get e v <;> rfl
@[simp] theorem frzT_sl {v : Nat} {vs : List Nat} {e : Env} {σ : Stack} {l i u off m w : Nat} : frzT vs v (.sl l i u off m w) e σ =
    frzs vs ((v, (frz 0 deep (.sl l i u off m w) σ).1) :: e) (frz 0 deep (.sl l i u off m w) σ).2 := by_rfl rfl
@[simp] theorem frzT_own {v : Nat} {vs : List Nat} {e : Env} {σ : Stack} {s : Nat} {cs : List D} : frzT vs v (.own s cs) e σ =
    frzs vs ((v, .own s (frz.frzL (frz 0 deep) cs σ).1) :: e) (frz.frzL (frz 0 deep) cs σ).2 := by_rfl rfl
@[simp] theorem frzT_agg {v : Nat} {vs : List Nat} {e : Env} {σ : Stack} {cs : List D} : frzT vs v (.agg cs) e σ = frzs vs ((v, .agg (cs.map D.blur)) :: e) σ := by_rfl rfl
@[simp] theorem blur_int {k : IntKind} {n : Int} : D.blur (.int k n) = .int k n := by_rfl rfl
@[simp] theorem blur_lst {n : Nat} {cs : List D} : D.blur (.lst n cs) = .lst n cs := by_rfl rfl
@[simp] theorem blur_nils : D.blur .nils = .lst 0 [] := by_rfl rfl
@[simp] theorem frzT_lst {v : Nat} {vs : List Nat} {e : Env} {σ : Stack} {n : Nat} {cs : List D} : frzT vs v (.lst n cs) e σ = frzs vs e σ := by_rfl rfl
@[simp] theorem frzT_nils {v : Nat} {vs : List Nat} {e : Env} {σ : Stack} : frzT vs v .nils e σ = frzs vs e σ := by_rfl rfl
def frzW (v : Nat) (d : D) (e : Env) (σ : Stack) : Env × Stack :=
  match d with
  | .nils => ((v, .lst 0 []) :: e, σ)
  | .ref l i u 0 => ((v, (frzR l i u σ).1) :: e, (frzR l i u σ).2)
  | .own s cs => ((v, .own s (cs.map D.blur)) :: e, σ)
  | _ => (e, σ)
@[simp] theorem frzV_eq {v : Nat} {e : Env} {σ : Stack} : frzV v e σ = frzW v (get e v) e σ := rfl
@[simp] theorem frzW_nils {v : Nat} {e : Env} {σ : Stack} : frzW v .nils e σ = ((v, .lst 0 []) :: e, σ) := by_rfl rfl
@[simp] theorem frzW_lst {v n : Nat} {cs : List D} {e : Env} {σ : Stack} : frzW v (.lst n cs) e σ = (e, σ) := by_rfl rfl
@[simp] theorem frzW_ref {v l i u : Nat} {e : Env} {σ : Stack} : frzW v (.ref l i u 0) e σ = ((v, (frzR l i u σ).1) :: e, (frzR l i u σ).2) := by_rfl rfl
@[simp] theorem frzW_own {v s : Nat} {cs : List D} {e : Env} {σ : Stack} : frzW v (.own s cs) e σ = ((v, .own s (cs.map D.blur)) :: e, σ) := by_rfl rfl
@[simp] theorem blur_str {s : List UInt8} : D.blur (.str s) = .str s := by_rfl rfl
@[simp] theorem blur_bool {b : Bool} : D.blur (.bool b) = .bool b := by_rfl rfl
@[simp] theorem get_none {t : Nat} : get [] t = .undef := by_rfl rfl
@[simp] theorem frzT_undef {v : Nat} {vs : List Nat} {e : Env} {σ : Stack} : frzT vs v .undef e σ = if 1000000 ≤ v then frzs vs (frzV (v - 1000000) e σ).1 (frzV (v - 1000000) e σ).2 else frzs vs e σ := by_rfl rfl

def frzC (l n m off w : Nat) (σ : Stack) (s : D) : Option (List D) → D × Stack
  | some cs => (.lst m (frz.frzL (frz l n) ((cs.drop off).take (m * w)) σ).1, (frz.frzL (frz l n) ((cs.drop off).take (m * w)) σ).2)
  | none => (.undef, σ)
@[simp] theorem frzC_some {l n m off w : Nat} {σ : Stack} {s : D} {cs : List D} : frzC l n m off w σ s (some cs) = (.lst m (frz.frzL (frz l n) ((cs.drop off).take (m * w)) σ).1, (frz.frzL (frz l n) ((cs.drop off).take (m * w)) σ).2) := by_rfl rfl
theorem frz_at {L i u off m w : Nat} {σ : Stack} {cs : List D} (hL : 0 < L) (hc : cells? σ L i u = some cs) :
    frz 0 16 (.sl L i u off m w) σ = (.lst m (frz.frzL (frz 0 15) ((cs.drop off).take (m * w)) (setBlk σ L i .dead)).1, (frz.frzL (frz 0 15) ((cs.drop off).take (m * w)) (setBlk σ L i .dead)).2) := by
  exact frz_sl (by omega) hc (by omega)
theorem frz_top {σ : Stack} (hσ : σ ≠ []) {bs : List Blk} {i u m w : Nat} {cs : List D} (hb : bs[i]? = some (.cells u cs)) (hcl : D.cleanL cs = true) (hlen : cs.length = m * w) :
    frz 0 16 (.sl σ.length i u 0 m w) (bs :: σ) = (.lst m cs, bs.set i .dead :: σ) := by
  have h := List.length_pos_iff.2 hσ
  rw [frz_at h (cs := cs) (by simp [hb])]
  simp [← hlen, hcl, List.take_of_length_le]

theorem k_self {α : Type} {f : α → List D} {w : Nat} (hw : ∀ x, (f x).length = w) (l : List α) : (l.flatMap f).take (l.length * w) = l.flatMap f :=
  List.take_of_length_le (by rw [flat_len hw]; exact Nat.le_refl _)
theorem k_clean {α : Type} {f : α → List D} (h : ∀ x, D.cleanL (f x) = true) (l : List α) : D.cleanL (l.flatMap f) = true := by
  have app : ∀ a b : List D, D.cleanL (a ++ b) = (D.cleanL a && D.cleanL b) := by
    intro a b
    induction a with
    | nil => simp
    | cons x a ih => simp [ih, Bool.and_assoc]
  induction l with
  | nil => simp
  | cons a l ih => simp [app, h, ih]
theorem k_out {α : Type} {f : α → List D} {w : Nat} (hw : ∀ x, (f x).length = w) (hc : ∀ x, D.cleanL (f x) = true) {l : List α} {j v : Nat} {bs : List Blk} {σ : Stack} (hσ : σ ≠ []) (hj : bs[j]? = some (.cells v (l.flatMap f))) :
    frz (σ.length - 1) 16 (.sl σ.length j v 0 l.length w) (bs :: σ) = (.lst l.length (l.flatMap f), bs.set j .dead :: σ) := by
  have h3 : ¬ σ.length ≤ σ.length - 1 := by have := List.length_pos_iff.2 hσ; omega
  rw [frz_sl h3 (cs := l.flatMap f) (by simp [hj]) (by omega)]
  simp [k_self hw l, k_clean hc l]
theorem k_frz {α : Type} {f : α → List D} {w : Nat} (hw : ∀ x, (f x).length = w) (hc : ∀ x, D.cleanL (f x) = true) {l : List α} {j v : Nat} {bs : List Blk} {σ : Stack} (hσ : σ ≠ []) (hj : bs[j]? = some (.cells v (l.flatMap f))) :
    frz 0 16 (.sl σ.length j v 0 l.length w) (bs :: σ) = (.lst l.length (l.flatMap f), bs.set j .dead :: σ) :=
  frz_top hσ hj (k_clean hc l) (flat_len hw l)
theorem k_set {α : Type} {f : α → List D} {w : Nat} (hw : ∀ x, (f x).length = w) : ∀ {l : List α} {i : Nat} {x : α}, i < l.length → (l.flatMap f).take (i * w) ++ (f x ++ (l.flatMap f).drop (i * w + w)) = (l.set i x).flatMap f
  | [], i, x, h => by simp at h
  | a :: l, 0, x, h => by
    have h1 := hw a
    simp only [Nat.zero_mul, List.take_zero, List.nil_append, List.flatMap_cons, List.set_cons_zero, Nat.zero_add]
    rw [← h1, List.drop_left]
  | a :: l, i + 1, x, h => by
    have h1 := hw a
    have ih := k_set (l := l) (i := i) (x := x) hw (by simpa using h)
    simp only [List.flatMap_cons, List.set_cons_succ]
    rw [← ih, show (i + 1) * w = w + i * w by rw [Nat.succ_mul]; omega, ← h1, List.take_length_add_append, List.append_assoc, show (f a).length + i * (f a).length + (f a).length = (f a).length + (i * (f a).length + (f a).length) by omega, List.drop_length_add_append]
theorem k_drop {α : Type} {f : α → List D} {w : Nat} (hw : ∀ x, (f x).length = w) : ∀ {l : List α} {i : Nat} {x : α}, l[i]? = some x → (l.flatMap f).drop (i * w) = f x ++ (l.flatMap f).drop (i * w + w)
  | [], i, x, h => by simp at h
  | a :: l, 0, x, h => by
    simp at h; subst h
    have h1 := hw a
    simp only [Nat.zero_mul, List.drop_zero, List.flatMap_cons, Nat.zero_add]
    rw [← h1, List.drop_left]
  | a :: l, i + 1, x, h => by
    have h1 := hw a
    have ih := k_drop (l := l) (i := i) (x := x) hw (by simpa using h)
    simp only [List.flatMap_cons]
    rw [show (i + 1) * w = w + i * w by rw [Nat.succ_mul]; omega, ← h1, List.drop_length_add_append, show (f a).length + i * (f a).length + (f a).length = (f a).length + (i * (f a).length + (f a).length) by omega, List.drop_length_add_append, h1, ih]

@[simp] theorem frzE_nil {l : Nat} {σ : Stack} : frzE l [] σ = ([], σ) := by_rfl rfl
@[simp] theorem frzE_cons {l t : Nat} {d : D} {e : Env} {σ : Stack} : frzE l ((t, d) :: e) σ = ((t, (frz l deep d σ).1) :: (frzE l e (frz l deep d σ).2).1, (frzE l e (frz l deep d σ).2).2) := by_rfl rfl

def nextS (T : Tbl) (live : List Nat) (c : Cmd) (n : Nat) (Q : Exit → Env → Stack → Prop) (_m : Mark c := .mk) (_m' : Mark Q := .mk) : Exit → Env → Stack → Prop
  | .normal, e, σ => WL T live true c (frzE n (restrict live e) σ).1 (frzE n (restrict live e) σ).2.tail Q
  | .exit i, e, σ => Q (.exit i) (frzE n (restrict (keys e) e) σ).1 (frzE n (restrict (keys e) e) σ).2.tail
  | .ret, e, σ => Q .ret (frzE n (restrict (keys e) e) σ).1 (frzE n (restrict (keys e) e) σ).2.tail
  | .thr d, e, σ => Q (.thr d) (frzE n (restrict (keys e) e) σ).1 (frzE n (restrict (keys e) e) σ).2.tail
@[simp, simp ↓] theorem nextS_thr {live : List Nat} {c : Cmd} {n : Nat} {d : D} {Q : Exit → Env → Stack → Prop} {e : Env} {σ : Stack} : nextS T live c n Q .mk .mk (.thr d) e σ = Q (.thr d) (frzE n (restrict (keys e) e) σ).1 (frzE n (restrict (keys e) e) σ).2.tail := by_rfl rfl
@[simp, simp ↓] theorem nextS_normal {live : List Nat} {c : Cmd} {n : Nat} {Q : Exit → Env → Stack → Prop} {e : Env} {σ : Stack} : nextS T live c n Q .mk .mk .normal e σ = WL T live true c (frzE n (restrict live e) σ).1 (frzE n (restrict live e) σ).2.tail Q := by_rfl rfl
@[simp, simp ↓] theorem nextS_exit {live : List Nat} {c : Cmd} {n i : Nat} {Q : Exit → Env → Stack → Prop} {e : Env} {σ : Stack} : nextS T live c n Q .mk .mk (.exit i) e σ = Q (.exit i) (frzE n (restrict (keys e) e) σ).1 (frzE n (restrict (keys e) e) σ).2.tail := by_rfl rfl
@[simp, simp ↓] theorem nextS_ret {live : List Nat} {c : Cmd} {n : Nat} {Q : Exit → Env → Stack → Prop} {e : Env} {σ : Stack} : nextS T live c n Q .mk .mk .ret e σ = Q .ret (frzE n (restrict (keys e) e) σ).1 (frzE n (restrict (keys e) e) σ).2.tail := by_rfl rfl

@[simp] theorem keys_nil : keys [] = [] := by_rfl rfl
@[simp] theorem keys_cons {t : Nat} {d : D} {e : Env} : keys ((t, d) :: e) = t :: keys (e.filter fun p => !(p.1 == t)) := by
  simp only [keys, List.map_cons, List.eraseDups_cons, List.filter_map]
  rfl

end Go.Abs

/-
  Answers that are known already: a long walk is cut in pieces.
-/
set_option linter.unusedVariables false
namespace Go.Abs
open Go

structure Memo where
  f : Nat
  a : List D
  s : Stack
  d : D
  t : Stack
def Memo.Ok (T : Tbl) (m : Memo) : Prop := lim T (.call false m.f m.a m.s) = some (.val m.d m.t)
def Memo.ask (m : Memo) : Q → Option R
  | .call false f a σ => if f = m.f then if a = m.a then if σ = m.s then some (.val m.d m.t) else none else none else none
  | _ => none
theorem Memo.Ok.ask {T : Tbl} {m : Memo} (h : m.Ok T) {q : Q} {r : R} (hq : m.ask q = some r) : lim T q = some r := by
  unfold Memo.ask at hq
  split at hq
  case h_2 => cases hq
  split at hq
  case isFalse => cases hq
  rename_i h1
  split at hq
  case isFalse => cases hq
  rename_i h2
  split at hq
  case isFalse => cases hq
  rename_i h3
  cases hq
  rw [h1, h2, h3]
  exact h
def askM (M : List Memo) (q : Q) : Option R := M.findSome? fun m => m.ask q
def itM (T : Tbl) (M : List Memo) : Nat → Oracle
  | 0 => askM M
  | n + 1 => fun q => match askM M q with
    | some r => some r
    | none => stepQ T (itM T M n) q
theorem askM_ok {T : Tbl} {M : List Memo} (hM : ∀ m ∈ M, m.Ok T) {q : Q} {r : R} (h : askM M q = some r) : lim T q = some r := by
  obtain ⟨m, h1, h2⟩ := List.exists_of_findSome?_eq_some h
  exact (hM m h1).ask h2
theorem itM_lim {T : Tbl} {M : List Memo} (hM : ∀ m ∈ M, m.Ok T) : ∀ {n : Nat} {q : Q} {r : R}, itM T M n q = some r → lim T q = some r
  | 0, q, r, h => askM_ok hM h
  | n + 1, q, r, h => by
    unfold itM at h
    split at h
    · rename_i h1; cases h; exact askM_ok hM h1
    · exact lim_step (stepQ_mono (fun q r => itM_lim hM) h)
end Go.Abs

/-
  The way in: arguments that can be read as data are values of the interpreter.
-/
set_option linter.unusedVariables false
set_option linter.unusedSimpArgs false
namespace Go.Abs
open Go
open Go.RowKit Go.WideShapes

inductive Ty where
  | bool
  | int (k : IntKind)
  | str
  | slice (w : Nat) (e : Ty)
  | struct (fs : List Ty)
  | arr (n : Nat) (e : Ty)
  deriving Inhabited

mutual
def Ty.size : Ty → Nat
  | .bool => 1
  | .int _ => 1
  | .str => 1
  | .slice _ _ => 1
  | .struct fs => Ty.sizes fs
  | .arr n e => n * e.size
def Ty.sizes : List Ty → Nat
  | [] => 0
  | f :: fs => f.size + Ty.sizes fs
end

mutual
def Ty.has : Ty → List D → Prop
  | .bool, ds => ∃ b, ds = [.bool b]
  | .int k, ds => ∃ n, ds = [.int k n] ∧ (Lit.int k n).wf = true
  | .str, ds => ∃ s : List UInt8, ds = [.str s] ∧ s.length ≤ maxLen
  | .slice w e, ds => ∃ xs : List (List D), ds = [.lst xs.length xs.flatten] ∧ xs.length ≤ maxLen ∧ ∀ x ∈ xs, x.length = w ∧ e.has x
  | .struct fs, ds => Ty.hasF fs ds
  | .arr n e, ds => ∃ xs : List (List D), ds = xs.flatten ∧ xs.length = n ∧ ∀ x ∈ xs, x.length = e.size ∧ e.has x
def Ty.hasF : List Ty → List D → Prop
  | [], ds => ds = []
  | f :: fs, ds => ∃ a b, ds = a ++ b ∧ f.has a ∧ Ty.hasF fs b
end

def Ty.hasV (T : Ty) (d : D) : Prop :=
  match T with
  | .struct _ => ∃ ds, d = .agg ds ∧ T.has ds
  | .arr _ _ => ∃ ds, d = .agg ds ∧ T.has ds
  | _ => T.has [d]

def tyC (P : Program) : Nat → TypeId → Option Ty
  | 0, _ => none
  | n + 1, t =>
    match P.underlying t with
    | some .bool => some .bool
    | some (.int k) => some (.int k)
    | some .string => some .str
    | some (.slice e) => if 0 < P.cellsOf e then (tyC P n e).map (.slice (P.cellsOf e)) else none
    | some (.struct fs) => (tyF (tyC P n) 0 fs.toList).bind fun Ts => if P.cellsOf t = Ty.sizes Ts then some (.struct Ts) else none
    | some (.array m e) => (tyC P n e).bind fun T => if P.cellsOf e = T.size ∧ P.cellsOf t = m * T.size then some (.arr m T) else none
    | _ => none
where
  tyF (f : TypeId → Option Ty) : Nat → List Field → Option (List Ty)
    | _, [] => some []
    | o, x :: r => (f x.type).bind fun T => if x.offset = o ∧ P.cellsOf x.type = T.size then (tyF f (o + T.size) r).map (T :: ·) else none

section
variable {H : Type} {enc : TypeId × Value → H} {P : Program} {w : World} {base : Nat} {spare : Nat → Bool} {held : Bool}

def Opens (w : World) (T : Ty) (cs : List Value) : Prop := ∃ ds, RelL (G0 w) ds cs ∧ (∀ c ∈ cs, c.oneCell' = true) ∧ T.has ds

theorem mapM_some {α β : Type} {f : α → Option β} : ∀ {l : List α} {r : List β}, l.mapM f = some r → r.length = l.length ∧ ∀ (i : Nat) (a : α), l[i]? = some a → f a = r[i]?
  | [], r, h => by simp at h; subst h; simp
  | a :: l, r, h => by
    simp only [List.mapM_cons, Option.pure_def, Option.bind_eq_bind, Option.bind_eq_some_iff, Option.some.injEq] at h
    obtain ⟨b, h1, bs, h2, rfl⟩ := h
    obtain ⟨h3, h4⟩ := mapM_some h2
    refine ⟨by simp [h3], fun i x hx => ?_⟩
    cases i with
    | zero => simp at hx; subst hx; simpa using h1
    | succ i => simpa using h4 i x (by simpa using hx)

theorem take_app {α : Type} {l : List α} {o n m : Nat} (hn : (l.drop o).length = n + m) : (l.drop o) = (l.drop o).take n ++ l.drop (o + n) := by
  conv => lhs; rw [← List.take_append_drop n (l.drop o)]
  rw [List.drop_drop]

theorem opens_fields {cs : List Value} {r : TypeId → List Value → Prop} {f : TypeId → Option Ty} (hf : ∀ t T cs, f t = some T → r t cs → cs.length = T.size → Opens w T cs) :
    ∀ {fs : List Field} {o : Nat} {Ts : List Ty}, tyC.tyF P f o fs = some Ts → cs.length = o + Ty.sizes Ts →
      (∀ (i : Nat) (x : Field), fs[i]? = some x → r x.type ((cs.drop x.offset).take (P.cellsOf x.type))) →
      ∃ ds, RelL (G0 w) ds (cs.drop o) ∧ (∀ c ∈ cs.drop o, c.oneCell' = true) ∧ Ty.hasF Ts ds
  | [], o, Ts, h, hl, _ => by
    simp [tyC.tyF] at h; subst h
    simp [Ty.sizes] at hl
    have : cs.drop o = [] := by simp; omega
    rw [this]
    exact ⟨[], .nil, by simp, rfl⟩
  | x :: fs, o, Ts, h, hl, hr => by
    simp only [tyC.tyF, Option.bind_eq_some_iff] at h
    obtain ⟨T, h1, h2⟩ := h
    split at h2
    case isFalse => cases h2
    rename_i hx
    simp only [Option.map_eq_some_iff] at h2
    obtain ⟨Ts', h3, rfl⟩ := h2
    simp only [Ty.sizes] at hl
    have h4 := hr 0 x rfl
    rw [hx.1, hx.2] at h4
    obtain ⟨a, ra, oa, ha⟩ := hf _ T _ h1 h4 (by simp; omega)
    obtain ⟨b, rb, ob, hb⟩ := opens_fields hf h3 (by omega) (fun i y hy => hr (i + 1) y (by simpa using hy))
    have e : cs.drop o = (cs.drop o).take T.size ++ cs.drop (o + T.size) := take_app (m := Ty.sizes Ts') (by simp; omega)
    rw [e]
    refine ⟨a ++ b, ra.append rb, fun c hc => ?_, a, b, rfl, ha, hb⟩
    rcases List.mem_append.1 hc with hc | hc
    · exact oa c hc
    · exact ob c hc

theorem opens_rows {T : Ty} {k : Nat} : ∀ {n : Nat} {cs : List Value}, cs.length = n * k → (∀ i, i < n → Opens w T ((cs.drop (i * k)).take k)) →
      ∃ xs : List (List D), RelL (G0 w) xs.flatten cs ∧ (∀ c ∈ cs, c.oneCell' = true) ∧ xs.length = n ∧ ∀ x ∈ xs, x.length = k ∧ T.has x
  | 0, cs, hl, _ => by
    have : cs = [] := by simpa using hl
    subst this
    exact ⟨[], .nil, by simp, rfl, by simp⟩
  | n + 1, cs, hl, h => by
    obtain ⟨a, ra, oa, ha⟩ := h 0 (by omega)
    simp only [Nat.zero_mul, List.drop_zero] at ra oa
    have hk : k ≤ cs.length := by rw [hl, Nat.succ_mul]; omega
    obtain ⟨xs, rx, ox, hx, hh⟩ := opens_rows (T := T) (k := k) (n := n) (cs := cs.drop k) (by simp [hl, Nat.succ_mul]) (fun i hi => by
      have := h (i + 1) (by omega)
      rw [List.drop_drop]
      rwa [show (i + 1) * k = k + i * k by rw [Nat.succ_mul]; omega] at this)
    refine ⟨a :: xs, ?_, ?_, by simp [hx], ?_⟩
    · have := ra.append rx
      rwa [List.take_append_drop] at this
    · intro c hc
      rw [← List.take_append_drop k cs] at hc
      rcases List.mem_append.1 hc with hc | hc
      · exact oa c hc
      · exact ox c hc
    · intro x hx'
      rcases List.mem_cons.1 hx' with rfl | hx'
      · exact ⟨by rw [ra.length]; simp; omega, ha⟩
      · exact hh x hx'

theorem addAdd (a : Addr) (m n : Nat) : (a.add m).add n = a.add (m + n) := by
  obtain ⟨b, o, s⟩ := a
  simp only [Addr.add]
  by_cases hm : m = 0 <;> by_cases hn : n = 0 <;> simp [hm, hn, Nat.add_assoc]

theorem addN (b o n : Nat) : (⟨b, o, none⟩ : Addr).add n = ⟨b, o + n, none⟩ := by
  simp only [Addr.add]
  split <;> simp_all

theorem cells?_some {a : Addr} {n : Nat} {vs : List Value} (h : w.cells? base a n = some vs) : vs.length = n ∧ ∀ i, i < n → w.cell? (a.add i) = vs[i]? := by
  simp only [World.cells?] at h
  split at h
  case isFalse => cases h
  obtain ⟨h1, h2⟩ := mapM_some h
  refine ⟨by simpa using h1, fun i hi => h2 i i (by simp [List.getElem?_range, hi])⟩

theorem opens : ∀ {m : Nat} {t : TypeId} {T : Ty} {fuel : Nat} {cs : List Value} {x : DataW H × List MemPlace}, tyC P m t = some T → DataW.trod enc P w base spare held fuel t cs = some x → Opens w T cs
  | 0, _, _, _, _, _, h, _ => by simp [tyC] at h
  | m + 1, t, T, fuel, cs, x, h, hd => by
    simp only [tyC] at h
    split at h
    · rename_i ht; cases h
      obtain ⟨b, rfl, _⟩ := DataW.trod_bool ht hd
      exact ⟨[.bool b], .cons _ _ _ _ (.bool b) .nil, by simp [Value.oneCell'], b, rfl⟩
    · rename_i k ht; cases h
      obtain ⟨n, rfl, _, hw⟩ := DataW.trod_int ht hd
      exact ⟨[.int k n], .cons _ _ _ _ (.int k n) .nil, by simp [Value.oneCell'], n, rfl, hw⟩
    · rename_i ht; cases h
      obtain ⟨s, rfl, _, hs⟩ := DataW.trod_string ht hd
      exact ⟨[.str s.data.toList], .cons _ _ _ _ (.str s) .nil, by simp [Value.oneCell'], _, rfl, by simpa using hs⟩
    · rename_i e ht
      split at h
      case isFalse => cases h
      rename_i hw
      simp only [Option.map_eq_some_iff] at h
      obtain ⟨E, hE, rfl⟩ := h
      rcases DataW.trod_slice ht hd with ⟨rfl, _⟩ | ⟨a, len, cap, elems, rest, n, _, rfl, _, _, hl, hm, hel, he, _, _⟩
      · exact ⟨[.lst 0 []], .cons _ _ _ _ .lstn .nil, by simp [Value.oneCell'], [], rfl, by simp, by simp⟩
      · have hget : ∀ i, i < len → ∃ vs y, w.cells? base (a.add (i * P.cellsOf e)) (P.cellsOf e) = some vs ∧ DataW.trod enc P w base spare held n e vs = some y := by
          intro i hi
          have := he i hi
          rw [List.getElem?_eq_getElem (by omega)] at this
          simp only [Option.bind_eq_some_iff] at this
          obtain ⟨vs, h1, h2⟩ := this
          exact ⟨vs, _, h1, h2⟩
        have hcell : ∀ j, j < len * P.cellsOf e → ∃ v, w.cell? (a.add j) = some v := by
          intro j hj
          have hi : j / P.cellsOf e < len := Nat.div_lt_of_lt_mul (by rwa [Nat.mul_comm])
          obtain ⟨vs, y, h1, _⟩ := hget _ hi
          obtain ⟨h3, h4⟩ := cells?_some h1
          have := h4 (j % P.cellsOf e) (Nat.mod_lt _ hw)
          rw [show (a.add (j / P.cellsOf e * P.cellsOf e)).add (j % P.cellsOf e) = a.add j by
            rw [addAdd, Nat.div_add_mod']] at this
          rw [List.getElem?_eq_getElem (by rw [h3]; exact Nat.mod_lt _ hw)] at this
          exact ⟨_, this⟩
        let vs : List Value := (List.range (len * P.cellsOf e)).map fun j => (w.cell? (a.add j)).getD Go.undef
        have hvl : vs.length = len * P.cellsOf e := by simp [vs]
        have hvg : ∀ j, j < len * P.cellsOf e → w.cell? (a.add j) = vs[j]? := by
          intro j hj
          obtain ⟨v, hv⟩ := hcell j hj
          simp [vs, List.getElem?_range, hj, hv]
        obtain ⟨xs, rx, ox, hx, hh⟩ := opens_rows (w := w) (T := E) (k := P.cellsOf e) (n := len) (cs := vs) hvl (fun i hi => by
          obtain ⟨us, y, h1, h2⟩ := hget i hi
          obtain ⟨h3, h4⟩ := cells?_some h1
          have : (vs.drop (i * P.cellsOf e)).take (P.cellsOf e) = us := by
            apply List.ext_getElem?
            intro j
            have hlt : (i + 1) * P.cellsOf e ≤ len * P.cellsOf e := Nat.mul_le_mul_right _ hi
            rw [Nat.succ_mul] at hlt
            by_cases hj : j < P.cellsOf e
            · rw [List.getElem?_take_of_lt hj, List.getElem?_drop, ← hvg _ (by omega), ← h4 j hj]
              rw [addAdd]
            · rw [List.getElem?_eq_none (by simp; omega), List.getElem?_eq_none (by omega)]
          rw [this]
          exact opens hE h2)
        have hsp : len ≠ 0 → a.spot = none := by
          intro h0
          obtain ⟨v, hv⟩ := hcell 0 (Nat.mul_pos (by omega) hw)
          simpa [Addr.add] using World.cell?_spot hv
        refine ⟨[.lst xs.length xs.flatten], .cons _ _ _ _ ?_ .nil, by simp [Value.oneCell'], xs, rfl, by omega, hh⟩
        rw [hx]
        refine .lst _ _ a cap vs hl ?_ hsp rx
        intro j v hj
        have hlt : j < vs.length := (List.getElem?_eq_some_iff.1 hj).1
        have h0 : len ≠ 0 := by rintro rfl; simp at hvl; simp [hvl] at hlt
        refine G0_imm.2 ⟨?_, ox v (List.mem_of_getElem? hj)⟩
        have := hvg j (by omega)
        rw [hj] at this
        have hs := hsp h0
        obtain ⟨b, o, s⟩ := a
        dsimp only at hs
        subst hs
        rwa [addN] at this
    · rename_i fs ht
      simp only [Option.bind_eq_some_iff] at h
      obtain ⟨Ts, hT, h2⟩ := h
      split at h2
      case isFalse => cases h2
      rename_i hsz
      cases h2
      obtain ⟨xs, n, _, _, hl, hlen, hf⟩ := DataW.trod_struct ht hd
      have := opens_fields (w := w) (cs := cs) (P := P) (r := fun t cs => ∃ y, DataW.trod enc P w base spare held n t cs = some y) (f := tyC P m) (fun t T cs h1 ⟨y, h2⟩ _ => opens h1 h2) hT (by omega) (fun i x hx => by
        have h3 := hf i x (by simpa using hx)
        rw [List.getElem?_eq_getElem (by rw [hlen]; have := (List.getElem?_eq_some_iff.1 hx).1; simpa using this)] at h3
        exact ⟨_, h3⟩)
      simpa [Opens, Ty.has] using this
    · rename_i n e ht
      simp only [Option.bind_eq_some_iff] at h
      obtain ⟨E, hE, h2⟩ := h
      split at h2
      case isFalse => cases h2
      rename_i hsz
      cases h2
      obtain ⟨xs, k, _, _, hl, hlen, hf⟩ := DataW.trod_array ht hd
      obtain ⟨ys, ry, oy, hy, hh⟩ := opens_rows (w := w) (T := E) (k := E.size) (n := n) (cs := cs) (by omega) (fun i hi => by
        have h3 := hf i hi
        rw [List.getElem?_eq_getElem (by omega), hsz.1] at h3
        exact opens hE h3)
      exact ⟨_, ry, oy, ys, rfl, hy, hh⟩
    · cases h

theorem open_val {m : Nat} {t : TypeId} {T : Ty} {r : Reach} {b0 : Nat} {v : Value} {d : DataW H} {ps : List MemPlace} (h : tyC P m t = some T) (hval : Value.okWide P w r b0 t v)
    (hd : DataW.Trod enc P w base spare held t v d ps) : ∃ x, RelV (G0 w) x v ∧ T.hasV x := by
  obtain ⟨fuel, hf⟩ := hd
  have ho := opens h hf
  obtain ⟨ds, hr, h1, hh⟩ := ho
  cases m with
  | zero => simp [tyC] at h
  | succ m =>
  simp only [tyC] at h
  split at h
  · rename_i ht; cases h
    obtain ⟨b, rfl⟩ := okWide_bool ht hval
    obtain ⟨b', rfl⟩ := hh
    simp only [Value.cells] at hr
    cases hr with | cons _ _ _ _ h3 h4 => exact ⟨_, h3, _, rfl⟩
  · rename_i k ht; cases h
    obtain ⟨n, rfl⟩ := okWide_int ht hval
    obtain ⟨n', rfl, hw⟩ := hh
    simp only [Value.cells] at hr
    cases hr with | cons _ _ _ _ h3 h4 => exact ⟨_, h3, _, rfl, hw⟩
  · rename_i ht; cases h
    obtain ⟨s, rfl⟩ := okWide_string ht hval
    obtain ⟨s', rfl, hs⟩ := hh
    simp only [Value.cells] at hr
    cases hr with | cons _ _ _ _ h3 h4 => exact ⟨_, h3, _, rfl, hs⟩
  · rename_i e ht
    split at h
    case isFalse => cases h
    simp only [Option.map_eq_some_iff] at h
    obtain ⟨E, hE, rfl⟩ := h
    obtain ⟨a, l, c, rfl⟩ := okWide_slice ht hval
    obtain ⟨xs, rfl, hs⟩ := hh
    simp only [Value.cells] at hr
    cases hr with | cons _ _ _ _ h3 h4 => exact ⟨_, h3, xs, rfl, hs⟩
  · rename_i fs ht
    simp only [Option.bind_eq_some_iff] at h
    obtain ⟨Ts, hT, h2⟩ := h
    split at h2
    case isFalse => cases h2
    cases h2
    obtain ⟨cs, rfl, _⟩ := okWide_struct ht hval
    exact ⟨.agg ds, .agg _ _ hr h1, ds, rfl, hh⟩
  · rename_i n e ht
    simp only [Option.bind_eq_some_iff] at h
    obtain ⟨E, hE, h2⟩ := h
    split at h2
    case isFalse => cases h2
    cases h2
    simp only [Value.okWide, ht] at hval
    obtain ⟨cs, rfl, _⟩ := hval
    exact ⟨.agg ds, .agg _ _ hr h1, ds, rfl, hh⟩
  · cases h
end

end Go.Abs

/-
  What is known of the program's own variables, out of a row's condition.
-/
set_option linter.unusedVariables false
namespace Go.Abs
open Go

theorem laid_at {P : Program} {w : World} : ∀ {l : List (String × DataW Unit)} {ps : List MemPlace}, DataW.LaidVars P w l ps → ∀ x ∈ l,
    ∃ g t cs fuel p, P.globalNamed x.1 = some g ∧ (P.globals[g]?).map (·.type) = some t ∧ w.var? P x.1 = some cs ∧ DataW.trod (fun _ => ()) P w 0 (fun _ => true) false fuel t cs.toList = some (x.2, p) ∧
      ∀ m ∈ MemPlace.row ⟨g, 0, none⟩ cs.size, m ∈ ps
  | [], _, _, x, hx => by cases hx
  | (n, d) :: r, ps, h, x, hx => by
    obtain ⟨g, t, cs, fuel, p, q, h1, h2, h3, h4, h5, rfl⟩ := h
    rcases List.mem_cons.1 hx with rfl | hx
    · exact ⟨g, t, cs, fuel, p, h1, h2, h3, h4, fun m hm => by simp [hm]⟩
    · obtain ⟨g', t', cs', f', p', k1, k2, k3, k4, k5⟩ := laid_at h5 x hx
      exact ⟨g', t', cs', f', p', k1, k2, k3, k4, fun m hm => by simp [k5 m hm]⟩
theorem laid_heap {P : Program} {w : World} {l : List (String × DataW Unit)} (hl : laidMet P l w) {n : String} {d : DataW Unit} (hx : (n, d) ∈ l) {b t : Nat} (hb : P.globalNamed n = some b) (ht : (P.globals[b]?).map (·.type) = some t) :
    ∃ cs fuel p, DataW.trod (fun _ => ()) P w 0 (fun _ => true) false fuel t cs.toList = some (d, p) ∧ (0 < cs.size → ∃ t', w.heap[b]? = some (.cells cs t' (0, 0))) := by
  obtain ⟨ps, h1, _, h2⟩ := hl
  obtain ⟨g, t', cs, fuel, p, k1, k2, k3, k4, k5⟩ := laid_at h1 _ hx
  obtain rfl := Option.some.inj (hb.symm.trans k1)
  obtain rfl := Option.some.inj (ht.symm.trans k2)
  refine ⟨cs, fuel, p, k4, fun hpos => ?_⟩
  obtain ⟨⟨c, t', hc⟩, _⟩ := h2 b 0 (k5 _ (by simp only [MemPlace.row, List.mem_map, List.mem_range]; exact ⟨0, hpos, by simp⟩))
  simp only [World.var?, hb, Option.bind_some, hc, Option.some.injEq] at k3
  subst k3
  exact ⟨t', hc⟩
theorem glb_err {P : Program} {w : World} {l : List (String × DataW Unit)} (hl : laidMet P l w) {n nm : String} {d : DataW Unit} (hx : (n, .iface nm d) ∈ l) {b t : Nat} {ms : Array (String × TypeId)} (hb : P.globalNamed n = some b)
    (ht : (P.globals[b]?).map (·.type) = some t) (hu : P.underlying t = some (.interface ms)) : ∃ c t v, w.heap[b]? = some (.cells c t (0, 0)) ∧ c[0]? = some v ∧ v.oneCell' = true ∧ QErr (.cells c t (0, 0)) := by
  obtain ⟨cs, fuel, p, h1, h2⟩ := laid_heap hl hx hb ht
  obtain ⟨f1, u, v, hcs, _⟩ := iface_of_trod hu h1
  obtain rfl : cs = #[.iface u v] := by rw [← Array.toList_inj, hcs]
  obtain ⟨t', hc⟩ := h2 (by simp)
  exact ⟨_, t', .iface u v, hc, by simp, rfl, _, t', _, .iface u v, rfl, by simp, .inr ⟨u, v, rfl⟩⟩
theorem glb_tab {P : Program} {w : World} {l : List (String × DataW Unit)} (hl : laidMet P l w) {n : String} (hx : (n, Lib.tabData .u64 Lib.pow10Tab) ∈ l) {b t e k : Nat} (hb : P.globalNamed n = some b)
    (ht : (P.globals[b]?).map (·.type) = some t) (hu : P.underlying t = some (.array k e)) (he : P.underlying e = some (.int .u64)) (hce : P.cellsOf e = 1) (hct : P.cellsOf t = k) :
    ∃ c t v, w.heap[b]? = some (.cells c t (0, 0)) ∧ c[0]? = some v ∧ v.oneCell' = true ∧ QPow (.cells c t (0, 0)) := by
  obtain ⟨cs, fuel, p, h1, h2⟩ := laid_heap hl hx hb ht
  have hcs := Lib.cells_of_tab hu he hce hct h1
  obtain rfl : cs = (Lib.pow10Tab.map (Value.int .u64)).toArray := by rw [← Array.toList_inj, hcs]
  obtain ⟨t', hc⟩ := h2 (by decide)
  exact ⟨_, t', .int .u64 1, hc, rfl, rfl, t', _, rfl⟩
theorem glb_max {P : Program} {w : World} (h : w.ShapedOpen P) {g t : Nat} {zero : Array Value} (hg : g < P.globals.size) (h0 : ((begin P (fun _ _ => 0) default).world.heap[g]?).bind Obj.row? = some (zero, t)) (hz : zero.size = 1)
    (hb : P.buildable t = true) (hc : P.cellTypes P.depth t = some [t]) (hu : P.underlying t = some (.int .i64)) : ∃ c t v, w.heap[g]? = some (.cells c t (0, 0)) ∧ c[0]? = some v ∧ v.oneCell' = true ∧ QMax (.cells c t (0, 0)) := by
  obtain ⟨m, hm⟩ := Go.Proofs.cell_of_shapedOpen_int h hg h0 hz hb hc hu
  obtain ⟨cs, hh, _⟩ := h.1 g zero t hg h0
  have h1 : cs[0]? = some (.int .i64 m) := by simpa [World.cell?, hh] using hm
  exact ⟨cs, t, _, hh, h1, rfl, cs, t, _, m, rfl, h1⟩
end Go.Abs
