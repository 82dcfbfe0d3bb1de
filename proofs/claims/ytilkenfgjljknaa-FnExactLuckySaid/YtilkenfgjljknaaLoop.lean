/-
  Loops of the plain semantics come to what one round says.
-/
import Derived.Test.YtilkenfgjljknaaLib
namespace Go.D

theorem loop_ind {σ R : Type} {f : σ → (σ → Option R) → Option R} {g : σ → Option R} {inv : σ → Prop} {μ : σ → Nat}
    (h : ∀ x, inv x → ∀ k : σ → Option R, (∀ y, inv y → μ y < μ x → k y = g y) → f x k = g x) : ∀ (n : Nat) (x : σ), inv x → μ x < n → loopK n f x = g x
  | 0, x, _, hn => by omega
  | n + 1, x, hx, hn => h x hx (loopK n f) fun y hy hlt => loop_ind h n y hy (by omega)

theorem loop_FU {σ R : Type} {f : σ → (σ → Option R) → Option R} {g : σ → Option R} (inv : σ → Prop) (μ : σ → Nat)
    (h : ∀ x, inv x → ∀ k : σ → Option R, (∀ y, inv y → μ y < μ x → k y = g y) → f x k = g x) {x : σ} (hx : inv x) (hμ : μ x < 2 ^ 64) : loopK FU f x = g x := by
  rw [FU_eq]; exact loop_ind h _ x hx hμ

theorem wrap_i64 {n : Int} (h1 : -9223372036854775808 ≤ n) (h2 : n ≤ 9223372036854775807) : IntKind.wrap .i64 n = n := by
  simp only [IntKind.wrap]
  first
    | (simp [IntKind.bits, IntKind.signed]; omega)
    | (unfold IntKind.bits; simp; omega)

theorem iadd_nat (i : Nat) (h : i < maxLen) : IntKind.wrap .i64 ((i : Int) + 1) = ((i + 1 : Nat) : Int) := by
  unfold maxLen at h
  rw [wrap_i64 (by omega) (by omega)]; omega

/-- A loop that counts up. -/
theorem loop_up {R : Type} (n : Nat) (hn : n ≤ maxLen) {f : Int → (Int → Option R) → Option R} {g : Nat → Option R}
    (h : ∀ (i : Nat) (k : Int → Option R), i < n → k (IntKind.wrap .i64 ((i : Int) + 1)) = g (i + 1) → f (i : Int) k = g i) (hz : ∀ k, f (n : Int) k = g n) (i : Nat) (hi : i ≤ n) : loopK FU f (i : Int) = g i := by
  have := loop_FU (g := fun x : Int => g x.toNat) (f := f) (fun x => 0 ≤ x ∧ x ≤ n) (fun x => n - x.toNat) (fun x hx k hk => by
    obtain ⟨j, rfl⟩ := Int.eq_ofNat_of_zero_le hx.1
    have hj : j ≤ n := by omega
    simp only [Int.toNat_natCast]
    rcases Nat.lt_or_eq_of_le hj with hlt | rfl
    · refine h j k hlt ?_
      rw [iadd_nat j (by omega)]
      have := hk ((j + 1 : Nat) : Int) (by omega) (by omega)
      rw [this]; simp
    · exact hz k) (x := (i : Int)) ⟨by omega, by omega⟩ (by unfold maxLen at hn; simp only [Int.toNat_natCast]; omega)
  rw [this]; simp

/-- A loop that counts up and carries something. -/
theorem loop_upS {σ R : Type} (n : Nat) (hn : n ≤ maxLen) {f : Int × σ → (Int × σ → Option R) → Option R} {g : Nat → σ → Option R} (inv : Nat → σ → Prop)
    (h : ∀ (i : Nat) (s : σ) (k : Int × σ → Option R), i < n → inv i s → (∀ t, inv (i + 1) t → k (IntKind.wrap .i64 ((i : Int) + 1), t) = g (i + 1) t) → f ((i : Int), s) k = g i s)
    (hz : ∀ s k, inv n s → f ((n : Int), s) k = g n s) (i : Nat) (s : σ) (hi : i ≤ n) (hs : inv i s) : loopK FU f ((i : Int), s) = g i s := by
  have := loop_FU (g := fun x : Int × σ => g x.1.toNat x.2) (f := f) (fun x => 0 ≤ x.1 ∧ x.1 ≤ n ∧ inv x.1.toNat x.2) (fun x => n - x.1.toNat) (fun x hx k hk => by
    obtain ⟨x, s⟩ := x
    obtain ⟨h0, h1, h2⟩ := hx
    simp only at h0 h1 h2
    obtain ⟨j, rfl⟩ := Int.eq_ofNat_of_zero_le h0
    have hj : j ≤ n := by omega
    simp only [Int.toNat_natCast] at h2 ⊢
    rcases Nat.lt_or_eq_of_le hj with hlt | rfl
    · refine h j s k hlt h2 fun t ht => ?_
      rw [iadd_nat j (by omega)]
      have := hk (((j + 1 : Nat) : Int), t) ⟨by show (0 : Int) ≤ ((j + 1 : Nat) : Int); omega, by show ((j + 1 : Nat) : Int) ≤ n; omega, by simpa using ht⟩ (by simp only [Int.toNat_natCast]; omega)
      rw [this]; simp
    · exact hz s k h2) (x := ((i : Int), s)) ⟨by show (0 : Int) ≤ (i : Int); omega, by show (i : Int) ≤ n; omega, by simpa using hs⟩ (by unfold maxLen at hn; simp only [Int.toNat_natCast]; omega)
  rw [this]; simp

theorem idxI_nat {α : Type} (l : List α) (i : Nat) : idxI l (i : Int) = l[i]? := by simp [idxI]
theorem idxI_get {α : Type} {l : List α} {i : Nat} (h : i < l.length) : idxI l (i : Int) = some l[i] := by rw [idxI_nat, List.getElem?_eq_getElem h]
theorem bind_some' {α β : Type} (a : α) (f : α → Option β) : Option.bind (some a) f = f a := rfl

theorem bdl_len {t : TN} {l : List (El t)} (h : bdl t l) : l.length ≤ maxLen := h.1
theorem bdl_mem {t : TN} {l : List (El t)} (h : bdl t l) {x : El t} (hx : x ∈ l) : bdx t x := h.2 x hx
/-- A list in a struct. -/
theorem bdx_list {t u : TN} {x : El t} {l : List (El u)} (h : bdx t x) (j : Nat) (hj : j < sz t) (he : (enc t x).getD j .undef = .sl u l) : bdl u l := (he ▸ h j hj).list
theorem bdx_fits {t : TN} {x : El t} {k : IntKind} {n : Int} (h : bdx t x) (j : Nat) (hj : j < sz t) (he : (enc t x).getD j .undef = .int k n) : Fits k n := (he ▸ h j hj).fits

theorem fits_i64 {n : Int} (h : Fits .i64 n) : -9223372036854775808 ≤ n ∧ n ≤ 9223372036854775807 := by
  obtain ⟨h1, h2⟩ := h
  simp [IntKind.min, IntKind.max, IntKind.signed, IntKind.bits] at h1 h2
  omega

end Go.D
