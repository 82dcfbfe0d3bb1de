/-
  One operation, continued: numbers, texts, parts of slices.
-/
import Derived.Test.YtilkenfgjljknaaOps3
namespace Go.D

theorem fdiv_fits (k : IntKind) (n : Int) (m : Nat) (h : Fits k n) : Fits k (n.fdiv (2 ^ m)) := by
  have hp : (0 : Int) < 2 ^ m := Int.pow_pos (by decide)
  rw [Int.fdiv_eq_ediv_of_nonneg _ (Int.le_of_lt hp)]
  obtain ⟨h1, h2⟩ := h
  have hmin : k.min ≤ 0 := by cases k <;> decide
  have hmax : 0 ≤ k.max := by cases k <;> decide
  by_cases hn : 0 ≤ n
  · have a1 := Int.ediv_nonneg hn (Int.le_of_lt hp)
    have a2 := Int.ediv_le_self (2 ^ m) hn
    exact ⟨by omega, by omega⟩
  · have a1 : n / 2 ^ m < 0 := Int.ediv_neg_of_neg_of_pos (by omega) hp
    have a2 : n ≤ n / 2 ^ m := by
      rw [Int.le_ediv_iff_mul_le hp]
      have : 1 ≤ (2 : Int) ^ m := by omega
      have h3 := Int.mul_le_mul_of_nonpos_left (a := n) (b := 2 ^ m) (c := 1) (by omega) this
      simpa using h3
    exact ⟨by omega, by omega⟩

theorem tmod_fits (k : IntKind) (n m : Int) (h : Fits k n) : Fits k (n.tmod m) := by
  obtain ⟨h1, h2⟩ := h
  have hmin : k.min ≤ 0 := by cases k <;> decide
  have hmax : 0 ≤ k.max := by cases k <;> decide
  have e1 := Int.natAbs_tmod n m
  have e2 := Nat.mod_le n.natAbs m.natAbs
  by_cases hn : 0 ≤ n
  · have a1 := Int.tmod_nonneg m hn
    exact ⟨by omega, by omega⟩
  · have e : n.tmod m = -((-n).tmod m) := by rw [Int.neg_tmod, Int.neg_neg]
    have a1 := Int.tmod_nonneg (a := -n) m (by omega)
    exact ⟨by omega, by omega⟩

theorem bytes_list (l : List UInt8) : (⟨l.toArray⟩ : ByteArray).toList = l := by simp

section
variable {C : Cx} {w0 : World} {outer own : Nat → Prop} {ρ : Nat → Option RI} {st st' : St} {a : Act} {w : World} {h : Nat → Option Row}
variable {o : Oper} {i : Nat} (hr : Rel C w0 outer own ρ st a w)

theorem bits_fits (k : IntKind) (n : Int) : Fits k (k.wrap n) := wrap_fits k n

theorem binV_ok {bad : Nat → Prop} {op : BinOp} {t : TypeId} {vx vy : Value} {dx dy d : V} (hx : VR w ρ bad vx dx) (hy : VR w ρ bad vy dy)
    (hd : binV op dx dy = some d) (x y : Operand) : ∃ v, VR w ρ bad v d ∧ ((do eqGuard op t x y vx vy; binOp op t vx vy) : Sem Value).run C.P w = .ok v w := by
  unfold binV at hd
  split at hd
  · rename_i k p k' q
    have hsame : ∀ {α : Type} {y z : α}, (bif decide (k = k') then some y else none) = some z → k = k' ∧ y = z := fun h => by
      by_cases hkk : k = k'
      · simp [hkk] at h; exact ⟨hkk, h⟩
      · simp [hkk] at h
    have hx' : Fits k p := by cases hx; assumption
    have hxv : vx = .int k p := by cases hx; rfl
    have hyv : vy = .int k' q := by cases hy; rfl
    subst hxv hyv
    cases op <;> simp only at hd <;> first
      | (obtain ⟨rfl, rfl⟩ := hsame hd; refine ⟨_, .int _ _ (wrap_fits _ _), ?_⟩; simp [eqGuard, binOp, Op.intArith, Op.intBits]; done)
      | (obtain ⟨rfl, rfl⟩ := hsame hd; refine ⟨_, .bool _, ?_⟩; simp [eqGuard, binOp, Op.intCmp]; done)
      | (split at hd
         · cases hd
         · cases hd; rename_i hq; refine ⟨_, .int _ _ (by first | exact wrap_fits _ _ | exact fdiv_fits _ _ _ hx'), ?_⟩; simp [eqGuard, binOp, Op.shift, hq]; done)
      | (cases hd; done)
  · rename_i p q
    have hxv : vx = .string ⟨p.toArray⟩ := by cases hx; rfl
    have hyv : vy = .string ⟨q.toArray⟩ := by cases hy; rfl
    subst hxv hyv
    cases op <;> first
      | (cases hd; done)
      | (cases hd; refine ⟨_, .bool _, ?_⟩; simp [eqGuard, binOp, Op.stringOp]; done)
  · cases hd

/-- Sums, comparisons and the like, of numbers, truths and texts. -/
theorem binK_ok {bad : Nat → Prop} {op : BinOp} {t : TypeId} {vx vy : Value} {dx dy : V} {R : Type} {K : V → Option R} {r : R} (hx : VR w ρ bad vx dx) (hy : VR w ρ bad vy dy)
    (hk : binK op dx dy K = some r) (x y : Operand) :
    ∃ d v, K d = some r ∧ VR w ρ bad v d ∧ ((do eqGuard op t x y vx vy; binOp op t vx vy) : Sem Value).run C.P w = .ok v w := by
  unfold binK at hk
  split at hk
  · -- quo
    rename_i k p k' q
    by_cases hkk : k = k'
    case neg => simp [hkk] at hk
    subst hkk
    cases hq : (q == 0)
    case true => simp [hq] at hk
    simp only [decide_true, cond_true, hq, cond_false] at hk
    cases hx; cases hy
    refine ⟨_, .int k (k.wrap (p.tdiv q)), hk, .int _ _ (wrap_fits _ _), ?_⟩
    have : q ≠ 0 := by simpa using hq
    simp [eqGuard, binOp, Op.intDiv, this]
  · rename_i k p k' q
    by_cases hkk : k = k'
    case neg => simp [hkk] at hk
    subst hkk
    cases hq : (q == 0)
    case true => simp [hq] at hk
    simp only [decide_true, cond_true, hq, cond_false] at hk
    cases hx; cases hy
    refine ⟨_, .int k (p.tmod q), hk, .int _ _ (tmod_fits _ _ _ (by assumption)), ?_⟩
    have : q ≠ 0 := by simpa using hq
    simp [eqGuard, binOp, Op.intDiv, this]
  · rename_i k p k' q
    by_cases hq : q < 0
    case pos => simp [hq] at hk
    simp only [hq, decide_false, cond_false] at hk
    cases hx; cases hy
    refine ⟨_, _, hk, .int _ _ (wrap_fits _ _), ?_⟩
    simp [eqGuard, binOp, Op.shift, hq]
  · rename_i k p k' q
    by_cases hq : q < 0
    case pos => simp [hq] at hk
    simp only [hq, decide_false, cond_false] at hk
    cases hx; cases hy
    refine ⟨_, _, hk, .int _ _ (fdiv_fits _ _ _ (by assumption)), ?_⟩
    simp [eqGuard, binOp, Op.shift, hq]
  · rename_i p q
    by_cases hq : p.length + q.length ≤ LIM
    case neg => simp [hq] at hk
    simp only [hq, decide_true, cond_true] at hk
    cases hx; cases hy
    have hl : LIM ≤ 1000000000000 := by unfold LIM; decide
    refine ⟨_, .string ⟨(p ++ q).toArray⟩, hk, .str _ (by simp [maxLen]; omega), ?_⟩
    have h1 : ¬ (IntKind.i64.max < ((p.length + q.length : Nat) : Int)) := by
      simp only [IntKind.max, IntKind.signed, IntKind.bits]; simp; omega
    have h2 : (p.length : Int) + q.length ≤ IntKind.i64.max := by
      simp only [IntKind.max, IntKind.signed, IntKind.bits]; simp; omega
    have hs1 : (⟨p.toArray⟩ : ByteArray).size = p.length := by simp [ByteArray.size]
    have hs2 : (⟨q.toArray⟩ : ByteArray).size = q.length := by simp [ByteArray.size]
    simp [eqGuard, binOp, Op.stringOp, ByteArray.mk_append_mk, hs1, hs2]
    simp only [IntKind.max, IntKind.signed, IntKind.bits] at h2
    simp at h2
    omega
  · split at hk
    case h_2 => cases hk
    rename_i d hd
    obtain ⟨v, h1, h2⟩ := binV_ok (w := w) hx hy hd (t := t) x y
    exact ⟨d, v, hk, h1, h2⟩
end
end Go.D
