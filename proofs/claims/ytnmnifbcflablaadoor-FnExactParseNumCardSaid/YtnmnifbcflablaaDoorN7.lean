/-
  Sizes of the program's data.
-/
import Derived.Test.YtnmnifbcflablaaDoorN6
namespace Go.D


end Go.D


/-
  A new world.
-/
namespace Go.D

end Go.D

/-
  What the functions compute, as the plain semantics says it.
-/
namespace Go.D

end Go.D

/-
  What the laws' own functions compute.
-/
namespace Go.D


end Go.D

/-
  What is drawn.
-/
namespace Go.D

/-- An answer that is there, and what is known of it. -/
def Ok {α : Type} (o : Option α) (P : α → Prop) : Prop := ∃ r, o = some r ∧ P r
theorem Ok.bind {α β : Type} {o : Option α} {P : α → Prop} {Q : β → Prop} {f : α → Option β} (h : Ok o P) (k : ∀ r, P r → Ok (f r) Q) : Ok (Option.bind o f) Q := by
  obtain ⟨r, rfl, h⟩ := h; exact k r h
theorem Ok.mono {α : Type} {o : Option α} {P Q : α → Prop} (h : Ok o P) (k : ∀ r, P r → Q r) : Ok o Q := by
  obtain ⟨r, h1, h2⟩ := h; exact ⟨r, h1, k r h2⟩
/-- A loop that comes to an end. -/
theorem Ok.loop {σ R : Type} {f : σ → (σ → Option R) → Option R} {P : R → Prop} (inv : σ → Prop) (μ : σ → Nat)
    (h : ∀ x, inv x → ∀ k : σ → Option R, (∀ y, inv y → μ y < μ x → Ok (k y) P) → Ok (f x k) P) {x : σ} (hx : inv x) (hμ : μ x < 2 ^ 64) : Ok (loopK FU f x) P := by
  rw [FU_eq]
  have : ∀ (n : Nat) (x : σ), inv x → μ x < n → Ok (loopK n f x) P := by
    intro n
    induction n with
    | zero => intro x _ hn; omega
    | succ n ih => intro x hx hn; exact h x hx (loopK n f) fun y hy hlt => ih y hy (by omega)
  exact this _ x hx hμ

end Go.D

/-
  Equal things are told to be equal.
-/
namespace Go.D

end Go.D

/-
  What a new world is made of.
-/
namespace Go.D

end Go.D

/-
  A new world is right, and nobody is there.
-/
namespace Go.D

end Go.D
