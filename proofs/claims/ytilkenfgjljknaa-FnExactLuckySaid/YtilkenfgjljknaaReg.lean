/-
  Rows that are locked and freed; what a join leaves alone.
-/
import Derived.Test.YtilkenfgjljknaaJoin
namespace Go.D

section
variable {C : Cx} {w0 : World} {outer own : Nat → Prop} {ρ : Nat → Option RI} {st st' b : St} {a : Act} {w : World} {R : Type} {j : JI}

theorem lock_less (j : JI) (st : St) : LessH (lockBut j st).h st.h := fun r row' hr => by
  simp only [lockBut] at hr
  split at hr
  · rename_i c hc
    cases hi : inRows j.cs st r
    · simp only [hi, cond_false, Option.some.injEq] at hr; subst hr; exact ⟨_, hc, rfl, fun _ => rfl⟩
    · simp only [hi, cond_true, Option.some.injEq] at hr; subst hr; exact ⟨_, hc, rfl, fun _ => rfl⟩
  · exact ⟨row', hr, rfl, id⟩

theorem unlock_less (b st : St) : LessH (unlock b st).h st.h := fun r row' hr => by
  simp only [unlock] at hr
  split at hr
  · rename_i c hc
    split at hr
    · cases hr; exact ⟨_, hc, rfl, fun _ => rfl⟩
    · cases hr; exact ⟨_, hc, rfl, fun _ => rfl⟩
  · exact ⟨row', hr, rfl, id⟩

theorem Rel.lock (hr : Rel C w0 outer own ρ st a w) (j : JI) : Rel C w0 outer own ρ (lockBut j st) a w := by
  obtain ⟨h1, h2⟩ := hr.heap.less (lock_less j st)
  exact ⟨h1, fun i => h2 _ _ (hr.slots i), hr.size, hr.defers⟩

theorem Rel.unlock (hr : Rel C w0 outer own ρ st a w) (b : St) : Rel C w0 outer own ρ (Go.D.unlock b st) a w := by
  obtain ⟨h1, h2⟩ := hr.heap.less (unlock_less b st)
  exact ⟨h1, fun i => h2 _ _ (hr.slots i), hr.size, hr.defers⟩

theorem keeps_unlock {n : Nat} (hk : Keeps n (lockBut j b).h st'.h) : Keeps n b.h (unlock b st').h := fun r row hn hr hm => by
  have h1 : (lockBut j b).h r = some row := by
    simp only [lockBut, hr]
    obtain ⟨c, m⟩ := row
    cases m with
    | own => cases hm
    | ro => rfl
    | lock => rfl
  have h2 := hk r row hn h1 hm
  simp only [unlock, h2, hr]
  obtain ⟨c, m⟩ := row
  cases m with
  | own => cases hm
  | ro => rfl
  | lock => rfl

theorem insS_else (f : Nat → V) (s : Nat) : ∀ (cs : List Comp) (id : Nat) (x : Tup cs), isSlot cs s = false → insS cs id x f s = f s := by
  have one : ∀ (c : Comp) (r : List Comp) (id : Nat) (x : c.T) (f : Nat → V), isSlot (c :: r) s = false → isSlot r s = false ∧ insS1 c id x f s = f s := by
    intro c r id x f h
    cases c with
    | slot s' ty =>
      simp only [isSlot, Bool.or_eq_false_iff] at h
      refine ⟨h.2, upd_other _ _ _ _ ?_⟩
      rintro rfl; simp at h
    | own s' t =>
      simp only [isSlot, Bool.or_eq_false_iff] at h
      refine ⟨h.2, upd_other _ _ _ _ ?_⟩
      rintro rfl; simp at h
    | box s' t ow => exact ⟨h, rfl⟩
  intro cs
  induction cs with
  | nil => intro id x _; rfl
  | cons c cs ih =>
    intro id x h
    cases cs with
    | nil => exact (one c [] id x f h).2
    | cons d r =>
      obtain ⟨h1, h2⟩ := one c (d :: r) id x.1 (insS (d :: r) (id + 64) x.2 f) h
      simp only [insS]; rw [h2]; exact ih (id + 64) x.2 h1

theorem install_slots (j : JI) (b : St) (x : Tup j.cs) (s : Nat) (h : j.has s = false) : (install j b x).s s = b.s s := by
  simp only [JI.has, Bool.or_eq_false_iff] at h
  show insS j.cs b.nx x _ s = _
  rw [insS_else _ _ _ _ _ h.2, h.1]; rfl

end
end Go.D
