/-
  What the laws' own functions compute: sizes, copies, equality.
-/
import Derived.Test.YtilkenfgjljknaaLoop
namespace Go.D

/-- Equality, as the laws ask it. -/
noncomputable def eqq {α : Type} (a b : α) : Bool := @decide (a = b) (Classical.propDecidable _)
theorem eqq_true {α : Type} {a b : α} : eqq a b = true ↔ a = b := by simp [eqq]
theorem eqq_self {α : Type} (a : α) : eqq a a = true := eqq_true.2 rfl
theorem eqq_false {α : Type} {a b : α} : eqq a b = false ↔ a ≠ b := by simp [eqq]

/-- An answer under a condition. -/
noncomputable def pt {α : Type} (p : Prop) (x : α) : Option α := @ite _ p (Classical.propDecidable p) (some x) none
theorem pt_some {α : Type} {p : Prop} {x : α} (h : p) : pt p x = some x := if_pos h
theorem pt_inv {α : Type} {p : Prop} {x r : α} (h : pt p x = some r) : p ∧ x = r := by
  unfold pt at h
  split at h
  · cases h; exact ⟨‹p›, rfl⟩
  · cases h
theorem pt_ok {α : Type} {p : Prop} {x r : α} {o : Option α} (h : p → o = some x) (hp : pt p x = some r) : o = some r := by
  obtain ⟨h1, rfl⟩ := pt_inv hp
  exact h h1
theorem pt_bind {α β : Type} {p : Prop} {x : α} {f : α → Option β} (h : p) : Option.bind (pt p x) f = f x := by rw [pt_some h]; rfl
theorem pt_ite {α : Type} {p : Prop} {x y r : α} (h1 : p → x = r) (h2 : ¬ p → y = r) (b : Bool) (hb : b = true ↔ p) : cond b x y = r := by
  cases b
  · exact h2 fun h => by simpa using hb.2 h
  · exact h1 (hb.1 rfl)

/-! ### Sizes -/

class Wt (α : Type) where
  of : α → Nat
def wt {α : Type} [Wt α] (x : α) : Nat := Wt.of x
instance : Wt UInt8 := ⟨fun _ => 0⟩
instance : Wt Int := ⟨fun _ => 0⟩
instance : Wt Bool := ⟨fun _ => 0⟩
def wtl {α : Type} [Wt α] : List α → Nat
  | [] => 0
  | x :: l => wt x + wtl l + 1
instance {α : Type} [Wt α] : Wt (List α) := ⟨wtl⟩
theorem wt_nil {α : Type} [Wt α] : wt ([] : List α) = 0 := rfl
theorem wt_cons {α : Type} [Wt α] (x : α) (l : List α) : wt (x :: l) = wt x + wt l + 1 := rfl
theorem wt_append {α : Type} [Wt α] : ∀ (l m : List α), wt (l ++ m) = wt l + wt m
  | [], m => by simp [wt_nil]
  | x :: l, m => by rw [List.cons_append, wt_cons, wt_cons, wt_append l m]; omega
theorem wt_len {α : Type} [Wt α] : ∀ l : List α, l.length ≤ wt l
  | [] => Nat.le_refl _
  | x :: l => by rw [wt_cons, List.length_cons]; have := wt_len l; omega
theorem wt_mem {α : Type} [Wt α] {x : α} : ∀ {l : List α}, x ∈ l → wt x + 1 ≤ wt l
  | [], h => by cases h
  | y :: l, h => by
    rw [wt_cons]
    rcases List.mem_cons.1 h with rfl | h
    · omega
    · have := wt_mem h; omega
theorem wt_get {α : Type} [Wt α] {l : List α} {i : Nat} (h : i < l.length) : wt l[i] + 1 ≤ wt l := wt_mem (List.getElem_mem h)
theorem wt_take {α : Type} [Wt α] (l : List α) (n : Nat) : wt (l.take n) ≤ wt l := by
  have := wt_append (l.take n) (l.drop n)
  rw [List.take_append_drop] at this; omega
theorem wt_drop {α : Type} [Wt α] (l : List α) (n : Nat) : wt (l.drop n) ≤ wt l := by
  have := wt_append (l.take n) (l.drop n)
  rw [List.take_append_drop] at this; omega
theorem wt_plain {α : Type} [Wt α] (h : ∀ x : α, wt x = 0) : ∀ l : List α, wt l = l.length
  | [] => rfl
  | x :: l => by rw [wt_cons, List.length_cons, wt_plain h l, h]; omega
theorem wt_bytes (l : List UInt8) : wt l = l.length := wt_plain (fun _ => rfl) l
theorem wt_ints (l : List Int) : wt l = l.length := wt_plain (fun _ => rfl) l

/-- What is left, or -1. -/
def szT {α : Type} [Wt α] (a : α) (left : Int) : Int := if (wt a : Int) ≤ left then left - wt a else -1
noncomputable def szO {α : Type} [Wt α] (a : α) (left : Int) : Option Int := pt (0 ≤ left) (szT a left)

theorem szT_pos {α : Type} [Wt α] {a : α} {left : Int} (h : (wt a : Int) ≤ left) : szT a left = left - wt a := if_pos h
theorem szT_bad {α : Type} [Wt α] {a : α} {left : Int} (h : ¬ (wt a : Int) ≤ left) : szT a left = -1 := if_neg h
theorem szT_neg {α : Type} [Wt α] {a : α} {left : Int} : decide (szT a left < 0) = !decide ((wt a : Int) ≤ left) := by
  unfold szT
  split
  · rename_i h
    have h1 : ¬ (left - (wt a : Int) < 0) := by omega
    simp [h, h1]
  · rename_i h; simp [h]

theorem sz_step {β : Type} [Wt β] {b : β} {left : Int} (h0 : 0 ≤ left) {R : Int → Option Int} {v : Int} (hbad : ¬ (wt b : Int) ≤ left → v = -1) (hgood : (wt b : Int) ≤ left → R (left - wt b) = some v) :
    (Option.bind (szO b left) fun r => cond (decide (r < 0)) (some (-1)) (R r)) = some v := by
  rw [szO, pt_bind h0, szT_neg]
  by_cases h : (wt b : Int) ≤ left
  · simp only [h, decide_true, Bool.not_true, cond_false]
    rw [szT, if_pos h]; exact hgood h
  · simp only [h, decide_false, Bool.not_false, cond_true]; rw [hbad h]

theorem sz_len {n : Nat} {left : Int} (h0 : 0 ≤ left) (hf : left ≤ 9223372036854775807) (hn : n ≤ maxLen) : IntKind.wrap .i64 (left - (n : Int)) = left - n := by
  unfold maxLen at hn
  exact wrap_i64 (by omega) (by omega)

/-- The size of a list whose elements have none. -/
theorem sz_plain {α : Type} [Wt α] (h : ∀ x : α, wt x = 0) (l : List α) {left : Int} (h0 : 0 ≤ left) (hf : left ≤ 9223372036854775807) (hl : l.length ≤ maxLen) :
    cond (decide ((isub .i64 left (l.length : Int)) < 0)) (some (-1)) (some (isub .i64 left (l.length : Int))) = some (szT l left) := by
  simp only [isub, sz_len h0 hf hl, szT, wt_plain h]
  split
  · have : ¬ (left - (l.length : Int) < 0) := by omega
    simp [this]
  · have : left - (l.length : Int) < 0 := by omega
    simp [this]

/-- The size of a list. -/
theorem sz_list {α : Type} [Wt α] (l : List α) {left : Int} (h0 : 0 ≤ left) (hf : left ≤ 9223372036854775807) (hl : l.length ≤ maxLen) :
    cond (decide ((isub .i64 left (l.length : Int)) < 0)) (some (-1)) (joinK (fun (y1 : Int) => some y1) fun k2 =>
      loopK FU (fun (x3 : Int × Int) k4 => cond (decide (x3.2 < (l.length : Int))) (Option.bind (idxI l x3.2) fun e5 =>
        Option.bind (szO e5 x3.1) fun r6 => cond (decide (r6 < 0)) (some (-1)) (k4 (r6, (iadd .i64 x3.2 1)))) (k2 x3.1)) ((isub .i64 left (l.length : Int)), 0)) = some (szT l left) := by
  simp only [isub, sz_len h0 hf hl, joinK]
  by_cases hle : (l.length : Int) ≤ left
  · have h1 : ¬ (left - (l.length : Int) < 0) := by omega
    simp only [h1, decide_false, cond_false]
    -- what is left at i: the lengths of the rest are taken already
    have hw : ∀ m : List α, m.length ≤ wt m := wt_len
    have key := loop_FU (g := fun x : Int × Int => some (if ((wt (l.drop x.2.toNat) : Int) - (l.drop x.2.toNat).length ≤ x.1) then x.1 - ((wt (l.drop x.2.toNat) : Int) - (l.drop x.2.toNat).length) else -1))
      (f := fun (x3 : Int × Int) k4 => cond (decide (x3.2 < (l.length : Int))) (Option.bind (idxI l x3.2) fun e5 =>
        Option.bind (szO e5 x3.1) fun r6 => cond (decide (r6 < 0)) (some (-1)) (k4 (r6, (iadd .i64 x3.2 1)))) (some x3.1))
      (fun x => 0 ≤ x.1 ∧ 0 ≤ x.2 ∧ x.2 ≤ l.length) (fun x => l.length - x.2.toNat) (fun x hx k hk => by
        obtain ⟨r, i⟩ := x
        obtain ⟨hr, hi0, hi1⟩ := hx
        simp only at hr hi0 hi1
        obtain ⟨j, rfl⟩ := Int.eq_ofNat_of_zero_le hi0
        simp only [Int.toNat_natCast]
        by_cases hj : j < l.length
        · have h2 : decide ((j : Int) < (l.length : Int)) = true := by simp; exact hj
          simp only [h2, cond_true, idxI_get hj, bind_some']
          rw [drop_cons' l hj, wt_cons, List.length_cons]
          have hd := hw (l.drop (j + 1))
          refine sz_step hr (fun hb => ?_) (fun hg => ?_)
          · rw [if_neg]; omega
          · have hm : j < maxLen := Nat.lt_of_lt_of_le hj hl
            rw [hk (r - (wt l[j] : Int), iadd .i64 (j : Int) 1) ⟨by show (0 : Int) ≤ _; omega, by show (0 : Int) ≤ iadd .i64 (j : Int) 1; rw [iadd, iadd_nat j hm]; omega, by show iadd .i64 (j : Int) 1 ≤ _; rw [iadd, iadd_nat j hm]; omega⟩
              (by simp only [iadd, iadd_nat j hm, Int.toNat_natCast]; omega)]
            simp only [iadd, iadd_nat j hm, Int.toNat_natCast]
            congr 1
            by_cases hc : (wt (l.drop (j + 1)) : Int) - (l.drop (j + 1)).length ≤ r - wt l[j]
            · rw [if_pos hc, if_pos (by push_cast; omega)]; push_cast; omega
            · rw [if_neg hc, if_neg (by push_cast; omega)]
        · have hj' : j = l.length := by omega
          subst hj'
          have h2 : decide ((l.length : Int) < (l.length : Int)) = false := by simp
          simp only [h2, cond_false, List.drop_length, wt_nil, List.length_nil]
          simp [hr]) (x := (left - (l.length : Int), 0)) ⟨by show (0 : Int) ≤ _; omega, Int.le_refl _, by show (0 : Int) ≤ _; omega⟩ (by show l.length - Int.toNat 0 < 2 ^ 64; unfold maxLen at hl; simp; omega)
    rw [key]
    simp only [Int.toNat_zero, List.drop_zero, szT]
    have hd := hw l
    congr 1
    by_cases hc : (wt l : Int) ≤ left
    · rw [if_pos (by omega), if_pos hc]; omega
    · rw [if_neg (by omega), if_neg hc]
  · have h1 : left - (l.length : Int) < 0 := by omega
    have := wt_len l
    simp only [h1, decide_true, cond_true, szT]
    rw [if_neg (by omega)]
where
  drop_cons' {α : Type} (l : List α) {i : Nat} (h : i < l.length) : l.drop i = l[i] :: l.drop (i + 1) := List.drop_eq_getElem_cons h

theorem bdx_top {n : Int} (h : bdx .int n) : n ≤ 9223372036854775807 := (fits_i64 (bdx_fits h 0 (by decide) rfl)).2

/-! ### Copies -/

/-- A copy, where there is room for it. -/
noncomputable def cpy {α : Type} [Wt α] (a : α) : Option α := pt (wt a ≤ LIM) a

theorem set_at {α : Type} (l r : List α) (x y : α) {i : Nat} (h : l.length = i) : List.set (l ++ x :: r) i y = l ++ y :: r := by
  subst h; simp
theorem take_next {α : Type} (l : List α) {i : Nat} (h : i < l.length) : l.take (i + 1) = l.take i ++ [l[i]] := by
  rw [List.take_succ_eq_append_getElem h]
theorem drop_next {α : Type} (l : List α) {i : Nat} (h : i < l.length) : l.drop i = l[i] :: l.drop (i + 1) := List.drop_eq_getElem_cons h

/-- A loop that copies. -/
theorem copy_loop {α R : Type} (l : List α) (z : α) (hl : l.length ≤ maxLen) (fin : List α → Option R) {f : Int × List α → (Int × List α → Option R) → Option R}
    (hf : ∀ (i : Nat) (o : List α) (k : Int × List α → Option R) (h : i < l.length) (_ : i < o.length), f ((i : Int), o) k = k (IntKind.wrap .i64 ((i : Int) + 1), List.set o i l[i]))
    (hz : ∀ o k, f ((l.length : Int), o) k = fin o) : loopK FU f ((0 : Int), List.replicate l.length z) = fin l := by
  have := loop_upS (σ := List α) l.length hl (f := f) (g := fun _ _ => fin l) (fun i o => o = l.take i ++ List.replicate (l.length - i) z) (fun i o k hi ho hk => by
      subst ho
      have hlen : (l.take i).length = i := by rw [List.length_take]; omega
      rw [hf i _ k hi (by simp; omega)]
      refine hk _ ?_
      rw [show l.length - i = (l.length - (i + 1)) + 1 by omega, List.replicate_succ, set_at _ _ _ _ hlen, take_next l hi, List.append_assoc]
      rfl) (fun o k ho => by
      rw [hz]; subst ho; simp) 0 (List.replicate l.length z) (Nat.zero_le _) (by simp)
  exact this

theorem room {n : Nat} (h : n ≤ LIM) : (decide ((0 : Int) ≤ (n : Int)) && decide ((n : Int) ≤ (LIM : Int)) && ((n : Int) == (n : Int))) = true := by
  simp; exact h

/-- A list whose elements are copied by a function. -/
theorem cpy_list {α : Type} [Wt α] (l : List α) (z : α) (hl : l.length ≤ maxLen) (hw : wt l ≤ LIM) :
    (cond (decide (0 ≤ (l.length : Int)) && decide ((l.length : Int) ≤ (LIM : Int)) && ((l.length : Int) == (l.length : Int))) (let x1 : List α := List.replicate ((l.length : Int) : Int).toNat z
      joinK (fun (y2 : (List α)) => some y2) fun k3 =>
      loopK FU (fun (x4 : Int × (List α)) k5 => cond (decide (x4.1 < (l.length : Int))) (Option.bind (idxI l x4.1) fun e6 => Option.bind (cpy e6) fun r7 =>
        cond (decide (0 ≤ x4.1) && decide (x4.1 < (x4.2.length : Int))) (Option.bind (x4.2[x4.1.toNat]?) fun _ => k5 ((iadd .i64 x4.1 1), (List.set x4.2 x4.1.toNat r7))) none) (k3 x4.2)) (0, x1)) none) = some l := by
  rw [room (Nat.le_trans (wt_len l) hw)]
  simp only [cond_true, joinK, Int.toNat_natCast]
  refine copy_loop l _ hl (fun o => some o) (fun i o k hi ho => ?_) (fun o k => by simp)
  have h2 : decide ((i : Int) < (l.length : Int)) = true := by simp; exact hi
  have h3 : (decide ((0 : Int) ≤ (i : Int)) && decide ((i : Int) < (o.length : Int))) = true := by simp; exact ho
  have h4 := wt_get hi
  simp only [h2, cond_true, idxI_get hi, bind_some', h3, Int.toNat_natCast, List.getElem?_eq_getElem ho]
  rw [cpy, pt_bind (by omega)]

/-- A list whose elements are copied as they are; u: how an element is written. -/
theorem cpy_plain {α : Type} (l : List α) (z : α) (hl : l.length ≤ maxLen) (hw : l.length ≤ LIM) (u : α → α) (hu : ∀ x, u x = x) :
    (cond (decide (0 ≤ (l.length : Int)) && decide ((l.length : Int) ≤ (LIM : Int)) && ((l.length : Int) == (l.length : Int))) (
      joinK (fun (y2 : (List α)) => some y2) fun k3 =>
      loopK FU (fun (x4 : Int × (List α)) k5 => cond (decide (x4.1 < (l.length : Int))) (Option.bind (idxI l x4.1) fun e6 =>
        cond (decide (0 ≤ x4.1) && decide (x4.1 < (x4.2.length : Int))) (Option.bind (x4.2[x4.1.toNat]?) fun _ => k5 ((iadd .i64 x4.1 1), List.set x4.2 x4.1.toNat (u e6))) none) (k3 x4.2)) (0, List.replicate ((l.length : Int) : Int).toNat z)) none) = some l := by
  rw [room hw]
  simp only [cond_true, joinK, Int.toNat_natCast, hu]
  refine copy_loop l _ hl (fun o => some o) (fun i o k hi ho => ?_) (fun o k => by simp)
  have h2 : decide ((i : Int) < (l.length : Int)) = true := by simp; exact hi
  have h3 : (decide ((0 : Int) ≤ (i : Int)) && decide ((i : Int) < (o.length : Int))) = true := by simp; exact ho
  simp only [h2, cond_true, idxI_get hi, bind_some', h3, Int.toNat_natCast, List.getElem?_eq_getElem ho]

theorem byte_back (x : UInt8) : UInt8.ofNat (((x.toNat : Nat) : Int)).toNat = x := by simp

/-! ### Equality -/

theorem eqq_cons {α : Type} (a b : α) (l m : List α) : eqq (a :: l) (b :: m) = (eqq a b && eqq l m) := by
  rw [Bool.eq_iff_iff, Bool.and_eq_true, eqq_true, eqq_true, eqq_true]
  exact List.cons_eq_cons

/-- A loop that compares. -/
theorem cmp_loop {α : Type} (l m : List α) (hl : l.length ≤ maxLen) (he : l.length = m.length) {f : Int → (Int → Option Bool) → Option Bool}
    (hf : ∀ (i : Nat) (k : Int → Option Bool) (h : i < l.length) (h' : i < m.length), f (i : Int) k = bif eqq l[i] m[i] then k (IntKind.wrap .i64 ((i : Int) + 1)) else some false)
    (hz : ∀ k, f (l.length : Int) k = some true) : loopK FU f (0 : Int) = some (eqq l m) := by
  have := loop_up l.length hl (f := f) (g := fun i => some (eqq (l.drop i) (m.drop i))) (fun i k hi hk => by
      have hi' : i < m.length := by omega
      rw [hf i k hi hi', hk, drop_next l hi, drop_next m hi', eqq_cons]
      cases eqq l[i] m[i] <;> rfl) (fun k => by
      rw [hz, List.drop_eq_nil_of_le (Nat.le_refl _), List.drop_eq_nil_of_le (by omega)]; simp [eqq]) 0 (Nat.zero_le _)
  simpa using this

theorem cmp_list {α : Type} (l m : List α) (hl : l.length ≤ maxLen) (ne : α → α → Bool) (hne : ∀ a b, ne a b = !eqq a b) :
    (cond ((l.length : Int) != (m.length : Int)) (some false) (joinK (fun (_ : Unit) => some true) fun k2 =>
      loopK FU (fun (x3 : Int) k4 => cond (decide (x3 < (l.length : Int))) (Option.bind (idxI l x3) fun e5 => Option.bind (idxI m x3) fun e6 =>
        cond (ne e5 e6) (some false) (k4 (iadd .i64 x3 1))) (k2 ())) 0)) = some (eqq l m) := by
  by_cases he : l.length = m.length
  · have h1 : ((l.length : Int) != (m.length : Int)) = false := by simp [he]
    simp only [h1, cond_false, joinK]
    refine cmp_loop l m hl he (fun i k hi hi' => ?_) (fun k => by simp)
    have h2 : decide ((i : Int) < (l.length : Int)) = true := by simp; exact hi
    simp only [h2, cond_true, idxI_get hi, idxI_get hi', bind_some', hne]
    cases eqq l[i] m[i] <;> rfl
  · have h1 : ((l.length : Int) != (m.length : Int)) = true := by simp; omega
    have h2 : l ≠ m := by rintro rfl; exact he rfl
    simp [h1, eqq_false.2 h2]

theorem ne_int (a b : Int) : (a != b) = !eqq a b := by
  by_cases h : a = b
  · subst h; simp [eqq_self]
  · simp [eqq_false.2 h, h]
theorem ne_byte (a b : UInt8) : ((((a.toNat : Nat) : Int)) != ((b.toNat : Nat) : Int)) = !eqq a b := by
  by_cases h : a = b
  · subst h; simp [eqq_self]
  · have : a.toNat ≠ b.toNat := fun e => h (UInt8.toNat_inj.1 e)
    have h2 : ((((a.toNat : Nat) : Int)) != ((b.toNat : Nat) : Int)) = true := by rw [bne_iff_ne]; omega
    rw [h2, eqq_false.2 h]; rfl

theorem eq_int {α : Type} (p : α → Int) {a b : α} {R : Option Bool} (h : p a = p b → R = some (eqq a b)) : cond (p a != p b) (some false) R = some (eqq a b) := by
  by_cases e : p a = p b
  · rw [h e]; simp [e]
  · have : a ≠ b := fun x => e (congrArg p x)
    rw [bne_iff_ne.2 e, eqq_false.2 this]; rfl
theorem eq_any {α β : Type} (p : α → β) {a b : α} {R : Option Bool} (h : p a = p b → R = some (eqq a b)) : cond (!(eqq (p a) (p b))) (some false) R = some (eqq a b) := by
  by_cases e : p a = p b
  · rw [h e, e]; simp [eqq_self]
  · have : a ≠ b := fun x => e (congrArg p x)
    simp [eqq_false.2 e, eqq_false.2 this]
theorem eq_bool {α : Type} (p : α → Bool) {a b : α} {R : Option Bool} (h : p a = p b → R = some (eqq a b)) : cond (!(p a == p b)) (some false) R = some (eqq a b) := by
  by_cases e : p a = p b
  · rw [h e, e]; simp
  · have : a ≠ b := fun x => e (congrArg p x)
    rw [beq_eq_false_iff_ne.2 e, eqq_false.2 this]; rfl
theorem eq_end {α : Type} {a b : α} (h : a = b) : some true = some (eqq a b) := by rw [eqq_true.2 h]

/-! ### Some index below n -/

def anyN (n : Nat) (p : Nat → Bool) : Bool := (List.range n).any p
theorem anyN_iff {n : Nat} {p : Nat → Bool} : anyN n p = true ↔ ∃ i, i < n ∧ p i = true := by simp [anyN]
theorem anyN_false {n : Nat} {p : Nat → Bool} : anyN n p = false ↔ ∀ i, i < n → p i = false := by simp [anyN]
theorem anyN_congr {n : Nat} {p q : Nat → Bool} (h : ∀ i, i < n → p i = q i) : anyN n p = anyN n q := by
  rw [Bool.eq_iff_iff, anyN_iff, anyN_iff]
  constructor
  · rintro ⟨i, hi, hp⟩; exact ⟨i, hi, by rw [← h i hi]; exact hp⟩
  · rintro ⟨i, hi, hp⟩; exact ⟨i, hi, by rw [h i hi]; exact hp⟩

/-- A loop that looks for an index. -/
theorem loop_any {R : Type} (n : Nat) (hn : n ≤ maxLen) (p : Nat → Bool) (hit z : Option R) {f : Int → (Int → Option R) → Option R}
    (hf : ∀ (i : Nat) (k : Int → Option R), i < n → f (i : Int) k = bif p i then hit else k (IntKind.wrap .i64 ((i : Int) + 1))) (hz : ∀ k, f (n : Int) k = z) :
    loopK FU f (0 : Int) = bif anyN n p then hit else z := by
  have key := loop_up n hn (f := f) (g := fun i => bif (List.range' i (n - i)).any p then hit else z) (fun i k hi hk => by
      rw [hf i k hi, hk, show n - i = (n - (i + 1)) + 1 by omega, List.range'_succ, List.any_cons]
      cases p i <;> rfl) (fun k => by rw [hz]; simp) 0 (Nat.zero_le _)
  rw [List.range'_eq_map_range] at key
  simpa [anyN] using key

/-- A loop that looks for the first index. -/
theorem loop_find {R : Type} (n : Nat) (hn : n ≤ maxLen) (p : Nat → Bool) (hit : Nat → Option R) (z : Option R) {f : Int → (Int → Option R) → Option R}
    (hf : ∀ (i : Nat) (k : Int → Option R), i < n → f (i : Int) k = bif p i then hit i else k (IntKind.wrap .i64 ((i : Int) + 1))) (hz : ∀ k, f (n : Int) k = z) :
    loopK FU f (0 : Int) = match (List.range n).find? p with
      | some i => hit i
      | none => z := by
  have key := loop_up n hn (f := f) (g := fun i => match (List.range' i (n - i)).find? p with
      | some i => hit i
      | none => z) (fun i k hi hk => by
      rw [hf i k hi, hk, show n - i = (n - (i + 1)) + 1 by omega, List.range'_succ, List.find?_cons]
      cases p i <;> rfl) (fun k => by rw [hz]; simp) 0 (Nat.zero_le _)
  rw [← List.range_eq_range'] at key
  exact key

theorem find_none {n : Nat} {p : Nat → Bool} (h : anyN n p = false) : (List.range n).find? p = none := by
  rw [List.find?_eq_none]
  intro x hx
  rw [anyN_false.1 h x (List.mem_range.1 hx)]; simp
theorem find_some {n : Nat} {p : Nat → Bool} {m : Nat} (hm : m < n) (hp : p m = true) (h : ∀ i, i < m → p i = false) : (List.range n).find? p = some m := by
  rw [List.find?_eq_some_iff_append]
  refine ⟨hp, List.range m, (List.range' (m + 1) (n - (m + 1))), ?_, fun a ha => by rw [h a (List.mem_range.1 ha)]; rfl⟩
  rw [List.range_eq_range', List.range_eq_range', ← List.range'_succ]
  have := List.range'_append_1 (s := 0) (m := m) (n := n - (m + 1) + 1)
  rw [Nat.zero_add] at this
  rw [this]; congr 1; omega
theorem any_least {n : Nat} {p : Nat → Bool} (h : anyN n p = true) : ∃ m, m < n ∧ p m = true ∧ ∀ i, i < m → p i = false := by
  obtain ⟨i, hi, hp⟩ := anyN_iff.1 h
  induction i using Nat.strongRecOn with
  | ind i ih =>
    by_cases hc : ∃ j, j < i ∧ p j = true
    · obtain ⟨j, hj, hpj⟩ := hc
      exact ih j hj (by omega) hpj
    · refine ⟨i, hi, hp, fun j hj => ?_⟩
      cases hb : p j
      · rfl
      · exact absurd ⟨j, hj, hb⟩ hc
/-- A loop that ends at once. -/
theorem loop_once {σ R : Type} {f : σ → (σ → Option R) → Option R} {x : σ} {z : Option R} (h : ∀ k, f x k = z) : loopK FU f x = z :=
  loop_FU (g := fun _ => z) (f := f) (fun y => y = x) (fun _ => 0) (fun y hy k _ => by subst hy; exact h k) rfl (by decide)
theorem at_any {α : Type} {l : List α} {i : Nat} (h : i < l.length) (q : α → Bool) : (l[i]?).any q = q l[i] := by
  rw [List.getElem?_eq_getElem h]; rfl

end Go.D
