/-
  Code: branches, blocks, loops.
-/
import Derived.Test.YtilkenfgjljknaaDraw
namespace Go.D

def exOf : Ex → Exit
  | .normal => .normal
  | .exit id => .exit id
  | .ret => .ret

section
variable {C : Cx} {w0 : World} {outer own D : Nat → Prop} {R : Type} {st st1 st2 : St} {ρ ρ1 ρ2 : Nat → Option RI} {a a1 a2 : Act} {w w1 w2 : World}

theorem Goes.refl (hr : Rel C w0 outer own ρ st a w) (hf : ∀ q, st.nx ≤ q → ρ q = none) : Goes C w0 outer own D st ρ st a w ρ :=
  ⟨hr, fun _ _ h => h, fun _ _ => rfl, Keeps.refl _ _, Nat.le_refl _, hf⟩

theorem Goes.trans (h : Goes C w0 outer own D st ρ st1 a1 w1 ρ1) (k : Goes C w0 outer own D st1 ρ1 st2 a2 w2 ρ2) : Goes C w0 outer own D st ρ st2 a2 w2 ρ2 :=
  ⟨k.rel, fun q qi hq => k.ext _ _ (h.ext _ _ hq), fun s hs => (k.slots s hs).trans (h.slots s hs), h.keeps.trans (k.keeps.le h.nx), Nat.le_trans h.nx k.nx, k.fresh⟩

theorem Goes.mono {D' : Nat → Prop} (h : Goes C w0 outer own D st ρ st1 a1 w1 ρ1) (hd : ∀ s, D s → D' s) : Goes C w0 outer own D' st ρ st1 a1 w1 ρ1 :=
  ⟨h.rel, h.ext, fun s hs => h.slots s fun e => hs (hd s e), h.keeps, h.nx, h.fresh⟩

theorem preRo_ok : ∀ (pre : List Nat) (st st1 : St), preRo pre st = some st1 → Rel C w0 outer own ρ st a w → Rel C w0 outer own ρ st1 a w ∧ st1.s = st.s ∧ st1.nx = st.nx ∧ ∀ n, Keeps n st.h st1.h
  | [], st, st1, h, hr => by simp [preRo] at h; subst h; exact ⟨hr, rfl, rfl, fun n => Keeps.refl n _⟩
  | s :: pre, st, st1, h, hr => by
    simp only [preRo] at h
    split at h
    case h_2 => cases h
    rename_i v ids hf
    obtain ⟨m1, m2⟩ := hr.heap.mark ids
    have hr1 : Rel C w0 outer own ρ { st with h := markRo st.h ids } a w := hr.turn m1 m2
    obtain ⟨k1, k2, k3, k4⟩ := preRo_ok pre _ st1 h hr1
    exact ⟨k1, k2, k3, fun n => (keeps_mark _ (frz_noLock hf)).trans (k4 n)⟩

theorem Goes.pre {pre : List Nat} (hp : preRo pre st = some st1) (hr : Rel C w0 outer own ρ st a w) (h : Goes C w0 outer own D st1 ρ st2 a2 w2 ρ2) : Goes C w0 outer own D st ρ st2 a2 w2 ρ2 := by
  obtain ⟨_, k2, k3, k4⟩ := preRo_ok pre st st1 hp hr
  exact ⟨h.rel, h.ext, fun s hs => by rw [h.slots s hs, k2], (k4 _).trans (by rw [← k3]; exact h.keeps), by rw [← k3]; exact h.nx, h.fresh⟩

theorem Goes.unlock {j : JI} {b : St} (h : Goes C w0 outer own D (lockBut j b) ρ st1 a1 w1 ρ1) : Goes C w0 outer own D b ρ (Go.D.unlock b st1) a1 w1 ρ1 :=
  ⟨h.rel.unlock b, h.ext, h.slots, keeps_unlock h.keeps, h.nx, h.fresh⟩

theorem Goes.install {j : JI} {b : St} {k : Tup j.cs → Option R} {r : R} (hb : Rel C w0 outer own ρ b a w) (hf : ∀ q, b.nx ≤ q → ρ q = none) (h : Goes C w0 outer own (fun s => j.has s = true) (lockBut j b) ρ st1 a1 w1 ρ1)
    (hbox : boxSlots j = true) (he : exK j.cs st1 k = some r) : ∃ x, k x = some r ∧ ∃ ρ2, Goes C w0 outer own (fun s => j.has s = true) b ρ (Go.D.install j b x) a1 w1 ρ2 := by
  obtain ⟨x, h1, ρ2, h2, h3, h4, h5⟩ := install_ok hb hf h.rel h.fresh h.nx h.ext (fun s hs => h.slots s (by simp [hs])) h.keeps hbox he
  refine ⟨x, h1, ρ2, h2, h4, fun s hs => install_slots j b x s (by simpa using hs), h5, ?_, h3⟩
  simp only [Go.D.install]; omega

theorem runR_ok (hC : TnOk C) (hΦ : PhiOk C) {id : Nat} {pre : List Nat} {d : Bool} {ops : Array Oper} {Q : Exit → Act → World → Prop} {K : St → Option R} {r : R} (hD : ∀ o ∈ ops, ∀ d, o.dst = some d → D d)
    (hr : Rel C w0 outer own ρ st a w) (hf : ∀ q, st.nx ≤ q → ρ q = none) (hrun : runR C pre d ops st K = some r)
    (hpost : ∀ st' a' w' ρ', Goes C w0 outer own D st ρ st' a' w' ρ' → K st' = some r → Q .normal a' w') : (Code.region id ops d).wp C.P Q a w := by
  cases d with
  | true =>
    simp only [runR, cond_true, runD] at hrun
    split at hrun
    · cases hrun
    rename_i st0 hp
    obtain ⟨p1, p2, p3, p4⟩ := preRo_ok _ _ _ hp hr
    exact runD_ok hC hΦ hD p1 (by rw [← p3] at hf; exact hf) hrun fun st' a' w' ρ' h1 h2 => hpost st' a' w' ρ' (Goes.pre hp hr h1) h2
  | false =>
    simp only [runR, cond_false] at hrun
    refine wp_region ?_
    rw [List.range_eq_range']
    refine runG_ok hC hΦ st.nx hD ops.size 0 st a w ρ (by omega) hr (fun q hq => hf q (by omega)) hrun fun st' a' w' ρ' h1 h2 h3 h4 h5 h6 h7 => ?_
    exact hpost { st' with nx := st.nx + 64 * ops.size } a' w' ρ' ⟨⟨h1.heap, h1.slots, h1.size, h1.defers⟩, h3, h4, h5, Nat.le_add_right _ _, h2⟩ h7

end
end Go.D
