/-
  Sizes of the program's data.
-/
import Derived.Test.YtnmnifbcflablaaDoorN6
namespace Go.D


end Go.D


/-
  A new world.
-/
namespace Go.D

def big (code : List UInt8) : Bool := decide ((code.length : Int) > 1048576)
end Go.D

/-
  What the functions compute, as the plain semantics says it.
-/
namespace Go.D

noncomputable def laws_big.raw (a0 : List UInt8) : Option Bool :=
  some (decide ((a0.length : Int) > 1048576))

noncomputable def spec_l1New.raw (a0 : List UInt8) : Option G.Cur :=
  joinK (fun (y1 : Int) =>
  some (⟨a0, 0, y1⟩ : G.Cur)) fun k2 =>
  loopK FU (fun (x3 : Int × Int) k4 =>
  joinK (fun (y5 : Bool) =>
  cond (y5)
  (Option.bind (idxI a0 x3.2) fun e7 =>
  let x8 : Int := IntKind.wrap .i64 ((e7.toNat : Nat) : Int)
  let x9 : Int := iadd .i64 (iadd .i64 (imul .i64 x3.1 137) x8) 11
  k4 ((iand .i64 x9 1073741823), (iadd .i64 x3.2 1)))
  (k2 x3.1)) fun k6 =>
  cond (decide (x3.2 < (a0.length : Int)))
  (k6 (decide (x3.2 < 4000)))
  (k6 false)) ((iadd .i64 127812 (a0.length : Int)), 0)

noncomputable def spec_l1Byte.raw (a0 : G.Cur) : Option (Int × G.Cur) :=
  let x1 : Int := iadd .i64 (imul .i64 a0.h 6364136223846793005) 1442695040888963407
  let x2 : Int := ixor .i64 (ishr .i64 x1 33) (ishr .i64 x1 47)
  joinK (fun (y3 : Int × G.Cur) =>
  some (y3.1, y3.2)) fun k4 =>
  cond (decide (a0.i < (a0.b.length : Int)))
  (Option.bind (idxI a0.b a0.i) fun e5 =>
  let x6 : Int := IntKind.wrap .i64 ((e5.toNat : Nat) : Int)
  let x7 : Int := iand .i64 (iadd .i64 (iand .i64 x2 255) x6) 255
  k4 (x7, (⟨a0.b, iadd .i64 a0.i 1, x1⟩ : G.Cur)))
  (k4 ((iand .i64 x2 255), (⟨a0.b, a0.i, x1⟩ : G.Cur)))

noncomputable def spec_l1Below.raw (a0 : G.Cur) (a1 : Int) : Option (Int × G.Cur) :=
  cond (decide (a1 ≤ 0))
  (some (0, a0))
  (cond (decide (a1 ≤ 256))
  (Option.bind (spec_l1Byte.raw a0) fun r1 =>
  cond (a1 == 0) none (some (irem .i64 r1.1 a1, r1.2)))
  (Option.bind (spec_l1Byte.raw a0) fun r2 =>
  Option.bind (spec_l1Byte.raw r2.2) fun r3 =>
  Option.bind (spec_l1Byte.raw r3.2) fun r4 =>
  let x5 : Int := iadd .i64 (imul .i64 r2.1 65536) (imul .i64 r3.1 256)
  cond (a1 == 0) none (some (irem .i64 (iadd .i64 x5 r4.1) a1, r4.2))))

noncomputable def spec_l1Int.raw (a0 : G.Cur) (a1 : List Int) : Option (Int × G.Cur) :=
  Option.bind (spec_l1Below.raw a0 (a1.length : Int)) fun r1 =>
  Option.bind (idxI a1 r1.1) fun e2 =>
  some (e2, r1.2)

end Go.D

/-
  What the laws' own functions compute.
-/
namespace Go.D


end Go.D

/-
  What is drawn.
-/
namespace Go.D

/-- An answer that is there, and what is known of it. -/
def Ok {α : Type} (o : Option α) (P : α → Prop) : Prop := ∃ r, o = some r ∧ P r
theorem Ok.bind {α β : Type} {o : Option α} {P : α → Prop} {Q : β → Prop} {f : α → Option β} (h : Ok o P) (k : ∀ r, P r → Ok (f r) Q) : Ok (Option.bind o f) Q := by
  obtain ⟨r, rfl, h⟩ := h; exact k r h
theorem Ok.some' {α : Type} {x : α} {P : α → Prop} (h : P x) : Ok (some x) P := ⟨x, rfl, h⟩
theorem Ok.mono {α : Type} {o : Option α} {P Q : α → Prop} (h : Ok o P) (k : ∀ r, P r → Q r) : Ok o Q := by
  obtain ⟨r, h1, h2⟩ := h; exact ⟨r, h1, k r h2⟩
theorem Ok.cond' {α : Type} {b : Bool} {x y : Option α} {P : α → Prop} (h1 : b = true → Ok x P) (h2 : b = false → Ok y P) : Ok (cond b x y) P := by
  cases b
  · exact h2 rfl
  · exact h1 rfl

/-- A loop that comes to an end. -/
theorem Ok.loop {σ R : Type} {f : σ → (σ → Option R) → Option R} {P : R → Prop} (inv : σ → Prop) (μ : σ → Nat)
    (h : ∀ x, inv x → ∀ k : σ → Option R, (∀ y, inv y → μ y < μ x → Ok (k y) P) → Ok (f x k) P) {x : σ} (hx : inv x) (hμ : μ x < 2 ^ 64) : Ok (loopK FU f x) P := by
  rw [FU_eq]
  have : ∀ (n : Nat) (x : σ), inv x → μ x < n → Ok (loopK n f x) P := by
    intro n
    induction n with
    | zero => intro x _ hn; omega
    | succ n ih => intro x hx hn; exact h x hx (loopK n f) fun y hy hlt => ih y hy (by omega)
  exact this _ x hx hμ

theorem iand_lo (x : Int) (j : Nat) (hj : j < 63) : 0 ≤ iand .i64 x ((2 ^ j - 1 : Nat) : Int) ∧ iand .i64 x ((2 ^ j - 1 : Nat) : Int) ≤ ((2 ^ j - 1 : Nat) : Int) := by
  have h1 : 2 ^ j < 2 ^ 63 := Nat.pow_lt_pow_right (by decide) hj
  have h0 : 0 < 2 ^ j := Nat.two_pow_pos j
  unfold iand
  show 0 ≤ IntKind.wrap .i64 ((BitVec.ofInt 64 x &&& BitVec.ofInt 64 ((2 ^ j - 1 : Nat) : Int)).toNat : Int) ∧ IntKind.wrap .i64 ((BitVec.ofInt 64 x &&& BitVec.ofInt 64 ((2 ^ j - 1 : Nat) : Int)).toNat : Int) ≤ _
  have h2 : (BitVec.ofInt 64 x &&& BitVec.ofInt 64 ((2 ^ j - 1 : Nat) : Int)).toNat ≤ 2 ^ j - 1 := by
    rw [BitVec.toNat_and, ofInt_nat _ (by omega)]
    exact Nat.and_le_right
  generalize (BitVec.ofInt 64 x &&& BitVec.ofInt 64 ((2 ^ j - 1 : Nat) : Int)).toNat = m at h2
  rw [wrap_i64 (by omega) (by omega)]
  omega
theorem iand_255 (x : Int) : 0 ≤ iand .i64 x 255 ∧ iand .i64 x 255 ≤ 255 := iand_lo x 8 (by decide)

/-- What is drawn from. -/
def CurOk (c : G.Cur) : Prop := 0 ≤ c.i ∧ c.i ≤ c.b.length ∧ c.b.length ≤ 1048576

theorem new_tot {code : List UInt8} (h : code.length ≤ 1048576) : Ok (spec_l1New.raw code) CurOk := by
  simp only [spec_l1New.raw, joinK]
  refine Ok.loop (fun x : Int × Int => 0 ≤ x.2 ∧ x.2 ≤ (code.length : Int)) (fun x => code.length - x.2.toNat) (fun x hx k hk => ?_) ⟨Int.le_refl _, by show (0 : Int) ≤ (code.length : Int); omega⟩ (by show code.length - Int.toNat 0 < _; omega)
  obtain ⟨s, i⟩ := x
  obtain ⟨h0, h1⟩ := hx
  simp only at h0 h1 hk ⊢
  obtain ⟨j, rfl⟩ := Int.eq_ofNat_of_zero_le h0
  have fin : Ok (some (⟨code, 0, s⟩ : G.Cur)) CurOk := .some' ⟨Int.le_refl _, by show (0 : Int) ≤ _; omega, h⟩
  refine .cond' (fun hj => ?_) fun _ => fin
  have hj : j < code.length := by simpa using hj
  refine .cond' (fun _ => ?_) fun _ => fin
  rw [idxI_get hj, bind_some']
  have : iadd .i64 (j : Int) 1 = ((j + 1 : Nat) : Int) := iadd_nat j (by rw [maxLen_is]; omega)
  rw [this]
  exact hk _ ⟨by show (0 : Int) ≤ ((j + 1 : Nat) : Int); omega, by show ((j + 1 : Nat) : Int) ≤ _; omega⟩ (by simp only [Int.toNat_natCast]; omega)

theorem byte_tot {c : G.Cur} (h : CurOk c) : Ok (spec_l1Byte.raw c) fun r => 0 ≤ r.1 ∧ r.1 ≤ 255 ∧ CurOk r.2 := by
  obtain ⟨h0, h1, h2⟩ := h
  simp only [spec_l1Byte.raw, joinK]
  refine .cond' (fun hc => ?_) fun _ => .some' ⟨(iand_255 _).1, (iand_255 _).2, h0, h1, h2⟩
  have hc : c.i < (c.b.length : Int) := by simpa using hc
  obtain ⟨j, hj⟩ := Int.eq_ofNat_of_zero_le h0
  rw [hj] at hc ⊢
  have hjl : j < c.b.length := by omega
  rw [idxI_get hjl, bind_some']
  refine .some' ⟨(iand_255 _).1, (iand_255 _).2, ?_, ?_, h2⟩
  · show 0 ≤ iadd .i64 (j : Int) 1
    rw [iadd, iadd_nat j (by rw [maxLen_is]; omega)]; omega
  · show iadd .i64 (j : Int) 1 ≤ (c.b.length : Int)
    rw [iadd, iadd_nat j (by rw [maxLen_is]; omega)]; omega

theorem irem_lo {a n : Int} (ha : 0 ≤ a) (hn : 0 < n) : 0 ≤ irem .i64 a n ∧ irem .i64 a n < n := by
  unfold irem
  rw [Int.tmod_eq_emod_of_nonneg ha]
  exact ⟨Int.emod_nonneg _ (by omega), Int.emod_lt_of_pos _ hn⟩

theorem below_tot {c : G.Cur} {n : Int} (h : CurOk c) : Ok (spec_l1Below.raw c n) fun r => 0 ≤ r.1 ∧ (0 < n → r.1 < n) ∧ (n ≤ 0 → r.1 = 0) ∧ CurOk r.2 := by
  simp only [spec_l1Below.raw]
  refine .cond' (fun hn => ?_) fun hn => ?_
  · have hn : n ≤ 0 := by simpa using hn
    exact .some' ⟨Int.le_refl _, fun h => by omega, fun _ => rfl, h⟩
  · have hn : 0 < n := by simpa using hn
    have hn0 : (n == 0) = false := by simp; omega
    refine .cond' (fun _ => ?_) fun _ => ?_
    · refine (byte_tot h).bind fun r hr => ?_
      rw [hn0]
      have := irem_lo hr.1 hn
      exact .some' ⟨this.1, fun _ => this.2, fun h => by omega, hr.2.2⟩
    · refine (byte_tot h).bind fun r hr => (byte_tot hr.2.2).bind fun r2 hr2 => (byte_tot hr2.2.2).bind fun r3 hr3 => ?_
      rw [hn0]
      have h1 : imul .i64 r.1 65536 = r.1 * 65536 := wrap_i64 (by omega) (by omega)
      have h2 : imul .i64 r2.1 256 = r2.1 * 256 := wrap_i64 (by omega) (by omega)
      have h3 : iadd .i64 (imul .i64 r.1 65536) (imul .i64 r2.1 256) = r.1 * 65536 + r2.1 * 256 := by rw [h1, h2]; exact wrap_i64 (by omega) (by omega)
      have h4 : iadd .i64 (iadd .i64 (imul .i64 r.1 65536) (imul .i64 r2.1 256)) r3.1 = r.1 * 65536 + r2.1 * 256 + r3.1 := by rw [h3]; exact wrap_i64 (by omega) (by omega)
      simp only [cond_false, h4]
      have := irem_lo (a := r.1 * 65536 + r2.1 * 256 + r3.1) (by omega) hn
      exact .some' ⟨this.1, fun _ => this.2, fun h => by omega, hr3.2.2⟩

theorem int_tot {c : G.Cur} {l : List Int} (h : CurOk c) (hl : l ≠ []) : Ok (spec_l1Int.raw c l) fun r => r.1 ∈ l ∧ CurOk r.2 := by
  simp only [spec_l1Int.raw]
  have h0 : 0 < l.length := List.length_pos_iff.2 hl
  refine (below_tot h).bind fun r hr => ?_
  obtain ⟨j, hj⟩ := Int.eq_ofNat_of_zero_le hr.1
  have := hr.2.1 (by omega)
  rw [hj] at this ⊢
  have hjl : j < l.length := by omega
  rw [idxI_get hjl, bind_some']
  exact .some' ⟨List.getElem_mem hjl, hr.2.2.2⟩

theorem laws_big.ok {x : TyTup [.sl .byte]} (_ : bdTup [.sl .byte] x) : laws_big.raw x = some (big x) := rfl

end Go.D

/-
  Equal things are told to be equal.
-/
namespace Go.D

end Go.D

/-
  What a new world is made of.
-/
namespace Go.D

end Go.D

/-
  A new world is right, and nobody is there.
-/
namespace Go.D

end Go.D
