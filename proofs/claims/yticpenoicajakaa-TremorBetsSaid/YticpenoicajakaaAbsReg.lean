/-
  One operation of a region, whatever it is.
-/
import Derived.Test.YticpenoicajakaaAbsOps6
import Derived.Test.YticpenoicajakaaAbsEq
set_option linter.unusedVariables false
set_option linter.unusedSimpArgs false
namespace Go.Abs
open Go

section
variable {P : Program} {CR : CRel} {base fb : Nat} {V : List Nat} {g : G} {σ σ' : Stack} {w : World} {B : Nat → Nat} {e : Env} {tmps : Array Value} {df : List Deferred}
  {a : Ann} {ops : Array Oper} {key : Nat} {k : K} {d : D}

theorem eqC_ok (hf : Fr fb V g w B e tmps) (hi : Inv CR base g σ w) {x y : Operand} {X Y : Opd} {t u : TypeId} {b : BinOp} (hx : opdC x = some X) (hy : opdC y = some Y)
    (hk : eqC P b t X Y = some k) (h : sop e σ k = some (d, σ')) (o : Oper) (ho : o.op = .binOp b t x y u) : Does P CR base g w B e (Act.mk tmps df).eval o d σ' := by
  unfold eqC at hk
  split at hk
  case h_2 => cases hk
  rename_i ks hks
  split at hk
  · cases hk
  rename_i hg
  have hg' : P.eqGuardType P.depth t = false := by simpa using hg
  split at hk
  · obtain ⟨ag, hag, rfl⟩ := Option.map_eq_some_iff.1 hk
    exact s_eqv hf hi hx hy hks hag hg' h o (by simpa using ho)
  · obtain ⟨ag, hag, rfl⟩ := Option.map_eq_some_iff.1 hk
    exact s_eqv hf hi hx hy hks hag hg' h o (by simpa using ho)
  · cases hk

theorem isNil_inv {x : Operand} (h : isNilSlice x = true) : x = .const (.slice none 0 0) := by
  unfold isNilSlice at h
  split at h
  · rfl
  · cases h

theorem sop_ok (hf : Fr fb V g w B e tmps) (hi : Inv CR base g σ w) {o : Oper} (hk : kC P a ops key o = some k) (h : sop e σ k = some (d, σ')) :
    Does P CR base g w B e (Act.mk tmps df).eval o d σ' := by
  unfold kC at hk
  split at hk
  · rename_i x ho
    obtain ⟨X, hX, rfl⟩ := Option.map_eq_some_iff.1 hk
    exact s_move hf hi hX h o (.inl ho)
  · rename_i x ho
    split at hk
    · rename_i hnil _ _
      split at hk
      · obtain ⟨X, hX, rfl⟩ := Option.map_eq_some_iff.1 hk
        exact s_nilb hi h o (by rw [ho, isNil_inv hnil])
      · obtain ⟨X, hX, rfl⟩ := Option.map_eq_some_iff.1 hk
        exact s_move hf hi hX h o (.inr ho)
    · obtain ⟨X, hX, rfl⟩ := Option.map_eq_some_iff.1 hk
      exact s_move hf hi hX h o (.inr ho)
  · rename_i c x y ho
    split at hk
    · rename_i c' x' y' h1 h2 h3
      cases hk
      exact s_pick hf hi h1 h2 h3 h o ho
    · cases hk
  · rename_i el ho
    split at hk
    · rename_i z d0 hz _
      cases hk
      split at h
      · cases h
      · exact s_alc hi hz h o ho
    · cases hk
  · rename_i t x ho
    split at hk
    · rename_i x' d0 hx _
      cases hk
      split at h
      · cases h
      split at h
      · exact s_boxm hf hi hx h o ho
      · exact s_boxi hf hi hx h o ho
    · cases hk
  · rename_i t ps ho
    split at hk
    · rename_i fs z ht hz
      split at hk
      · rename_i hall
        obtain ⟨parts, hp, rfl⟩ := Option.map_eq_some_iff.1 hk
        exact s_bld_struct hf hi ht hz hall hp h o ho
      · cases hk
    · rename_i n el z ht hz
      split at hk
      · rename_i wd hw
        obtain ⟨parts, hp, rfl⟩ := Option.map_eq_some_iff.1 hk
        exact s_bld_array hf hi ht hw hz hp h o ho
      · cases hk
    · cases hk
  · rename_i t n ps ho
    split at hk
    · rename_i el ht
      split at hk
      · rename_i wd z d0 hw hz _
        split at hk
        · rename_i hc
          obtain ⟨parts, hp, rfl⟩ := Option.map_eq_some_iff.1 hk
          dsimp only at h
          split at h
          · exact s_bsm hf hi ht hw hz hc.1 hc.2.1 hc.2.2 hp h o ho
          · exact s_bsi hf hi ht hw hz hc.1 hc.2.1 hc.2.2 hp h o ho
        · cases hk
      · cases hk
    · cases hk
  · rename_i t x ho
    split at hk
    · rename_i ag sz n hag hsz hx
      split at hk
      · rename_i hc
        simp only [Bool.and_eq_true, decide_eq_true_eq] at hc
        cases hk
        have hxe : x = .tmp n := by
          cases x <;> simp only [opdC, Option.some.injEq, Opd.t.injEq, reduceCtorEq, Option.map_eq_some_iff, and_false, exists_false] at hx
          rw [hx]
        split at h
        · exact s_ldv hf hi hag hsz hc.1 hc.2 h o (by rw [ho, hxe])
        · exact s_ld hf hi hx hag hsz hc.1 hc.2 h o ho
      · cases hk
    · cases hk
  · rename_i t x y ho
    split at hk
    · rename_i sz n y' hsz hx hy
      cases hk
      split at h
      · cases h
      · exact s_st hf hi hx hy hsz h o ho
    · cases hk
  · rename_i b t x y u ho
    split at hk
    · rename_i hx hy
      cases hk
      exact s_bin hf hi hx hy h o ho
    · rename_i hx hy
      exact eqC_ok hf hi hx hy hk h o ho
    · rename_i hx hy
      exact eqC_ok hf hi hx hy hk h o ho
    · rename_i hx hy
      exact eqC_ok hf hi hx hy hk h o ho
    · cases hk
  · rename_i b t x ho
    obtain ⟨X, hX, rfl⟩ := Option.map_eq_some_iff.1 hk
    exact s_un hf hi hX h o ho
  · rename_i s t x ho
    split at hk
    · rename_i hs ht hx
      cases hk
      exact s_cvt hf hi hx hs ht h o ho
    · cases hk
  · rename_i f xs ys ho
    split at hk
    · rename_i hx hy
      cases hk
      exact s_mkf hf hi hx hy h o ho
    · cases hk
  · rename_i t x y ho
    split at hk
    · rename_i el ht
      split at hk
      · rename_i hw hb hz hx hy
        split at hk
        · rename_i hc
          cases hk
          exact s_mks hf hi hx hy ht hw hb hz hc.1 hc.2 h o ho
        · cases hk
      · cases hk
    · cases hk
  · rename_i t x lo hh mx ho
    split at hk
    · rename_i ht hx hlo hhi hmx
      obtain ⟨wd, hw, rfl⟩ := Option.map_eq_some_iff.1 hk
      exact s_slc hf hi hx ht hw hlo hhi hmx h o ho
    · rename_i ht hx hlo hhi hmx
      obtain ⟨wd, hw, rfl⟩ := Option.map_eq_some_iff.1 hk
      have hm : mx = none := by
        cases mx with
        | none => rfl
        | some m => simp [optC, Option.map_eq_some_iff] at hmx
      subst hm
      exact s_slca hf hi hx ht hw hlo hhi h o ho
    · cases hk
  · rename_i s x i ho
    split at hk
    · rename_i fs x' hs hx
      split at hk
      · rename_i off sz hfc
        split at hk
        · rename_i hpos
          cases hk
          exact s_fadr hf hi hx hs hfc hpos h o ho
        · cases hk
      · cases hk
    · cases hk
  · rename_i s x i ho
    split at hk
    · rename_i fs x' hs hx
      split at hk
      · rename_i f hfi
        split at hk
        · rename_i hag hsz
          split at hk
          · cases hk
            exact s_fld hf hi hx hs hfi hag hsz h o ho
          · cases hk
        · cases hk
      · cases hk
    · cases hk
  · rename_i t x y ho
    split at hk
    · rename_i ht hx hy
      obtain ⟨wd, hw, rfl⟩ := Option.map_eq_some_iff.1 hk
      exact s_idxA hf hi hx hy ht hw h o ho
    · rename_i ht hx hy
      obtain ⟨wd, hw, rfl⟩ := Option.map_eq_some_iff.1 hk
      exact s_idxS hf hi hx hy ht hw h o ho
    · cases hk
  · rename_i t x y ho
    split at hk
    · rename_i ht hx hy
      split at hk
      · rename_i hag hsz
        split at hk
        · cases hk
          exact s_idxV hf hi hx hy ht hag hsz h o ho
        · cases hk
      · cases hk
    · cases hk
  · rename_i x i ho
    obtain ⟨X, hX, rfl⟩ := Option.map_eq_some_iff.1 hk
    exact s_ext hf hi hX h o ho
  · rename_i c ho
    obtain ⟨callee, args, ts⟩ := c
    dsimp only at hk
    split at hk
    · rename_i f
      split at hk
      · cases hk
        cases h
      · cases hk
    · split at hk
      · rename_i t tr x r hts ha
        split at hk
        · rename_i ht hx
          cases hk
          exact s_len hf hi hx ht ha hts h o ho
        · rename_i ht
          cases hk
          exact s_lenC hi (.inl ⟨_, ht⟩) ha hts h o ho
        · rename_i ht
          split at hk
          · rename_i hr
            cases hk
            exact s_lenC hi (.inr ⟨_, _, ht, hr⟩) ha hts h o ho
          · cases hk
        · cases hk
      · cases hk
    · split at hk
      · rename_i ha
        split at hk
        · rename_i hx hy
          cases hk
          exact s_mn hf hi hx hy ha h o ho
        · cases hk
      · cases hk
    · split at hk
      · rename_i ha
        split at hk
        · rename_i hx hy
          cases hk
          exact s_mx hf hi hx hy ha h o ho
        · cases hk
      · cases hk
    · split at hk
      · rename_i t u x y hts ha
        split at hk
        · rename_i ht hu hx hy
          split at hk
          · rename_i hw hb hz
            split at hk
            · rename_i hc
              cases hk
              split at h
              · rename_i hn
                simp only [Bool.and_eq_true] at hn
                exact s_cpi hf hi (isNil_inv hn.1) hy ha hts ht ⟨_, hu⟩ hw hb hz hc.2.2.2 hc.2.1 hc.2.2.1 h o ho
              · exact s_app hf hi hx hy ha hts ht ⟨_, hu⟩ hw hb hz hc.2.2.2 hc.2.1 hc.2.2.1 h o ho
            · cases hk
          · cases hk
        · cases hk
      · cases hk
    · cases hk
  · cases hk
end

end Go.Abs
