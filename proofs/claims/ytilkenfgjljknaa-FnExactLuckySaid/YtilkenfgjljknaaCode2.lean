/-
  Code: branches, blocks, loops.
-/
import Derived.Test.YtilkenfgjljknaaCode1
namespace Go.D

def JD (D : Nat → Prop) : Option JI → Prop
  | none => True
  | some j => ∀ s, j.has s = true → D s

/-- The slots that code may write, or wipe where it meets again. -/
def Touch (an : An) (D : Nat → Prop) : Code → Prop
  | .region id ops _ => (∀ o ∈ ops, ∀ d, o.dst = some d → D d) ∧ JD D (look id an.r)
  | .seq a b => Touch an D a ∧ Touch an D b
  | .cond (.tmp t) a b => Touch an D a ∧ Touch an D b ∧ JD D (look t an.c)
  | .cond _ a b => Touch an D a ∧ Touch an D b
  | .block id b => Touch an D b ∧ JD D (look id an.b)
  | .loop b => Touch an D b ∧ match firstRegion b with
    | some rid => JD D (look rid an.l)
    | none => True
  | .scope b => Touch an D b
  | _ => True

theorem isSlot_mem : ∀ (cs : List Comp) (s : Nat), isSlot cs s = true → ∃ c ∈ cs, (∃ ty, c = .slot s ty) ∨ ∃ t, c = .own s t
  | [], s, h => by simp [isSlot] at h
  | .slot s' ty :: r, s, h => by
    simp only [isSlot, Bool.or_eq_true] at h
    rcases h with h | h
    · have := Nat.eq_of_beq_eq_true h; subst this; exact ⟨_, by simp, .inl ⟨ty, rfl⟩⟩
    · obtain ⟨c, h1, h2⟩ := isSlot_mem r s h; exact ⟨c, by simp [h1], h2⟩
  | .own s' t :: r, s, h => by
    simp only [isSlot, Bool.or_eq_true] at h
    rcases h with h | h
    · have := Nat.eq_of_beq_eq_true h; subst this; exact ⟨_, by simp, .inr ⟨t, rfl⟩⟩
    · obtain ⟨c, h1, h2⟩ := isSlot_mem r s h; exact ⟨c, by simp [h1], h2⟩
  | .box s' t ow :: r, s, h => by
    obtain ⟨c, h1, h2⟩ := isSlot_mem r s h; exact ⟨c, by simp [h1], h2⟩

theorem fits_jd (j : JI) (o : Option JI) (h : fits j o = true) : JD (fun s => j.has s = true) o := by
  cases o with
  | none => trivial
  | some i =>
    simp only [fits, Bool.and_eq_true, List.all_eq_true] at h
    intro s hs
    simp only [JI.has, Bool.or_eq_true] at hs
    rcases hs with hs | hs
    · obtain ⟨p, hp, hps⟩ := List.any_eq_true.1 hs
      simp only [Bool.and_eq_true, Nat.ble_eq] at hps
      have h1 := h.1 p hp
      simp only [subKill, Bool.or_eq_true, Bool.and_eq_true] at h1
      rcases h1 with h1 | ⟨h1, h2⟩
      · obtain ⟨q, hq, hqs⟩ := List.any_eq_true.1 h1
        simp only [Bool.and_eq_true, Nat.ble_eq] at hqs
        have : inKill j.kill s = true := List.any_eq_true.2 ⟨q, hq, by simp only [Bool.and_eq_true, Nat.ble_eq]; omega⟩
        simp [JI.has, this]
      · have := Nat.eq_of_beq_eq_true h1
        have hsp : s = p.1 := by omega
        subst hsp; simp [JI.has, h2]
    · obtain ⟨c, h1, h2⟩ := isSlot_mem _ _ hs
      have h3 := h.2 c h1
      rcases h2 with ⟨ty, rfl⟩ | ⟨t, rfl⟩ <;> exact h3

theorem within_touch (an : An) (j : JI) : ∀ (c : Code), Code.within an j c = true → Touch an (fun s => j.has s = true) c
  | .region id ops d, h => by
    simp only [Code.within, Bool.and_eq_true, List.all_eq_true] at h
    refine ⟨fun o ho d hd => ?_, fits_jd j _ h.2⟩
    have := h.1 o (by simpa using ho)
    rw [hd] at this; exact this
  | .seq a b, h => by
    simp only [Code.within, Bool.and_eq_true] at h
    exact ⟨within_touch an j a h.1, within_touch an j b h.2⟩
  | .cond c a b, h => by
    cases c with
    | tmp t =>
      simp only [Code.within, Bool.and_eq_true] at h
      exact ⟨within_touch an j a h.1.1, within_touch an j b h.1.2, fits_jd j _ h.2⟩
    | _ =>
      simp only [Code.within, Bool.and_eq_true] at h
      exact ⟨within_touch an j a h.1, within_touch an j b h.2⟩
  | .block id b, h => by
    simp only [Code.within, Bool.and_eq_true] at h
    exact ⟨within_touch an j b h.1, fits_jd j _ h.2⟩
  | .loop b, h => by
    simp only [Code.within, Bool.and_eq_true] at h
    refine ⟨within_touch an j b h.1, ?_⟩
    have h2 := h.2
    split
    · rename_i rid hr
      rw [hr] at h2; exact fits_jd j _ h2
    · trivial
  | .scope b, h => within_touch an j b h
  | .skip, _ => trivial
  | .exit _, _ => trivial
  | .ret, _ => trivial
  | .label _, _ => trivial
  | .goto _, _ => trivial
  | .refuse _, _ => trivial
  | .rangeFunc _ _ _ _, _ => trivial

end Go.D
