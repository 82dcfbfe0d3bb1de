/-
  One operation, continued: addresses, numbers, what is read off a value.
-/
import Derived.Test.YtilkenfgjljknaaOps2
namespace Go.D
section
variable {C : Cx} {w0 : World} {outer own : Nat → Prop} {ρ : Nat → Option RI} {st st' : St} {a : Act} {w : World} {h : Nat → Option Row}
theorem wrap_fits (k : IntKind) (n : Int) : Fits k (k.wrap n) := by
  cases k <;> simp only [Fits, IntKind.wrap, IntKind.min, IntKind.max, IntKind.signed, IntKind.bits] <;> simp <;> (try split) <;> omega

variable {o : Oper} {i : Nat} (hr : Rel C w0 outer own ρ st a w)
include hr

theorem ok_nilCheck (x : Operand) (ho : o.op = .nilCheck x) (hk : stepK C i o st some = some st') : Does C.P o a w (After C w0 outer own i ρ st') := by
  simp only [stepK, ho] at hk
  have hx := hr.opd x
  have hrun : ∀ v, a.eval x = v → (match v with | .pointer (some _) => True | .func (.func _) _ _ => True | _ => False) → (execOp a.eval o).run C.P w = .ok (.value v) w := fun v e1 e2 => by
    unfold execOp
    simp only [ho, e1]
    split at e2 <;> first | rfl | cases e2
  split at hk
  · rename_i r off hop
    rw [hop] at hx
    cases hx' : a.eval x <;> rw [hx'] at hx <;> cases hx
    exact does_value (hrun _ hx' trivial) (hr.after (.bp _ _ _ (by assumption) (by assumption)) hk)
  · rename_i r t k off hop
    rw [hop] at hx
    cases hx' : a.eval x <;> rw [hx'] at hx <;> cases hx
    exact does_value (hrun _ hx' trivial) (hr.after (.ep _ _ _ _ _ (by assumption) (by assumption)) hk)
  · rename_i cs off hop
    rw [hop] at hx
    cases hx' : a.eval x <;> rw [hx'] at hx <;> cases hx
    exact does_value (hrun _ hx' trivial) (hr.after (.fp _ _ _ _ _ (by assumption) (by assumption) (by assumption) (by assumption)) hk)
  · rename_i f cs hop
    rw [hop] at hx
    cases hx' : a.eval x <;> rw [hx'] at hx <;> cases hx
    exact does_value (hrun _ hx' trivial) (hr.after (.fn _ _ _ (by assumption) (by assumption)) hk)
  · cases hk

theorem ok_fieldAddr (t : TypeId) (x : Operand) (f : Nat) (ho : o.op = .fieldAddr t x f) (hk : stepK C i o st some = some st') : Does C.P o a w (After C w0 outer own i ρ st') := by
  simp only [stepK, ho] at hk
  split at hk
  · cases hk
  rename_i off ft hf
  unfold fieldOf at hf
  split at hf
  case h_2 => cases hf
  rename_i fs hu
  split at hf
  case h_2 => cases hf
  rename_i fld hfld
  cases hf
  split at hk
  case h_2 => cases hk
  rename_i n hsz
  have hx := hr.opd x
  have hrun : ∀ b p, a.eval x = .pointer (some (at_ b p)) → (execOp a.eval o).run C.P w = .ok (.value (.pointer (some (at_ b (p + fld.offset))))) w := fun b p e1 => by
    simp [execOp, ho, e1, Instr.fieldAt, run_underlyingC hu, hfld, Instr.sureAddr, fieldPlace, size_run hsz, add_at]
  split at hk
  · rename_i r o1 hop
    rw [hop] at hx
    cases hx' : a.eval x <;> rw [hx'] at hx <;> cases hx
    rename_i ri h1 h2
    exact does_value (hrun _ _ hx') (hr.after (.bp _ _ _ (by assumption) (by assumption)) hk)
  · rename_i r t' k o1 hop
    rw [hop] at hx
    cases hx' : a.eval x <;> rw [hx'] at hx <;> cases hx
    rename_i ri h1 h2
    refine does_value (hrun _ _ hx') (hr.after ?_ hk)
    rw [Nat.add_assoc]; exact .ep _ _ _ _ _ (by assumption) (by assumption)
  · rename_i cs o1 hop
    rw [hop] at hx
    cases hx' : a.eval x <;> rw [hx'] at hx <;> cases hx
    rename_i b p u h0 hb hu' hv'
    refine does_value (hrun _ _ hx') (hr.after ?_ hk)
    rw [Nat.add_assoc]; exact .fp _ _ _ _ _ (by assumption) (by assumption) (by assumption) (by assumption)
  · cases hk

omit hr in
theorem part_ok {ag : Bool} {n off : Nat} {t : TypeId} {cs : List V} {vs : Array Value} {bad : Nat → Prop} {R : Type} {K : V → Option R} {r : R} (h1 : isAggT C.P t = some ag) (h2 : sizeT C.P t = some n)
    (hs : vs.size = cs.length) (hv : ∀ j (hj : j < cs.length), VR w ρ bad (vs.getD j undef) cs[j]) (hk : loadCells ag n cs off K = some r) :
    ∃ d v, K d = some r ∧ VR w ρ bad v d ∧ (part t vs off).run C.P w = .ok v w := by
  unfold loadCells at hk
  cases ag with
  | true =>
    simp only [cond_true] at hk
    cases hb : Nat.ble (off + n) cs.length
    case false => simp [hb] at hk
    simp only [hb, cond_true] at hk
    have hle := Nat.le_of_ble_eq_true hb
    refine ⟨_, .agg (vs.extract off (off + n)), hk, ?_, ?_⟩
    · refine .agg _ _ (by simp; omega) fun j hj => ?_
      have hjn : j < n := by simp at hj; omega
      have he : ((cs.drop off).take n)[j] = cs[off + j]'(by omega) := by simp
      rw [he]
      have := hv (off + j) (by omega)
      rw [Array.getD_eq_getD_getElem?, Array.getElem?_eq_getElem (by omega)] at this
      rw [Array.getD_eq_getD_getElem?, Array.getElem?_eq_getElem (by simp; omega)]
      simpa using this
    · simp [part, isAgg_run h1, size_run h2]
  | false =>
    simp only [cond_false] at hk
    split at hk
    · rename_i c r' hd
      have hlt : off < cs.length := by
        rcases Nat.lt_or_ge off cs.length with h | h
        · exact h
        · rw [List.drop_eq_nil_of_le h] at hd; cases hd
      have hce : cs[off] = c := by
        rw [List.drop_eq_getElem_cons hlt] at hd; exact (List.cons.inj hd).1
      have h3 := hv off hlt
      refine ⟨c, vs.getD off undef, hk, by rw [← hce]; exact h3, ?_⟩
      rw [Array.getD_eq_getD_getElem?, Array.getElem?_eq_getElem (by omega)]
      simp [part, isAgg_run h1, Array.getElem?_eq_getElem (show off < vs.size by omega)]
    · cases hk

theorem ok_field (t : TypeId) (x : Operand) (f : Nat) (ho : o.op = .field t x f) (hk : stepK C i o st some = some st') : Does C.P o a w (After C w0 outer own i ρ st') := by
  simp only [stepK, ho] at hk
  have hx := hr.opd x
  split at hk
  case h_2 => cases hk
  rename_i off ft cs hf hop
  rw [hop] at hx
  unfold fieldOf at hf
  split at hf
  case h_2 => cases hf
  rename_i fs hu
  split at hf
  case h_2 => cases hf
  rename_i fld hfld
  cases hf
  split at hk
  case h_2 => cases hk
  rename_i ag n h1 h2
  cases hx' : a.eval x <;> rw [hx'] at hx <;> cases hx
  rename_i vs hs hv
  obtain ⟨d, v, h3, h4, h5⟩ := part_ok (C := C) (w := w) h1 h2 hs hv hk
  refine does_value (v := v) (w' := w) ?_ (hr.after h4 h3)
  simp [execOp, ho, hx', Instr.field, run_underlyingC hu, hfld, asAgg, h5]

theorem ok_extract (x : Operand) (ix : Nat) (ho : o.op = .extract x ix) (hk : stepK C i o st some = some st') : Does C.P o a w (After C w0 outer own i ρ st') := by
  simp only [stepK, ho] at hk
  have hx := hr.opd x
  split at hk
  case h_2 => cases hk
  rename_i cs hop
  rw [hop] at hx
  split at hk
  case h_2 => cases hk
  rename_i c r' hd
  have hlt : ix < cs.length := by
    rcases Nat.lt_or_ge ix cs.length with h | h
    · exact h
    · rw [List.drop_eq_nil_of_le h] at hd; cases hd
  have hce : cs[ix] = c := by
    rw [List.drop_eq_getElem_cons hlt] at hd; exact (List.cons.inj hd).1
  cases hx' : a.eval x <;> rw [hx'] at hx <;> cases hx
  rename_i vs hs hv
  have h3 := hv ix hlt
  rw [hce] at h3
  refine does_value (v := vs.getD ix undef) (w' := w) ?_ (hr.after h3 hk)
  rw [Array.getD_eq_getD_getElem?, Array.getElem?_eq_getElem (by omega)]
  simp [execOp, ho, hx', Instr.extract, Array.getElem?_eq_getElem (show ix < vs.size by omega)]

theorem ok_unOp (op : UnOp) (t : TypeId) (x : Operand) (ho : o.op = .unOp op t x) (hk : stepK C i o st some = some st') : Does C.P o a w (After C w0 outer own i ρ st') := by
  simp only [stepK, ho] at hk
  have hx := hr.opd x
  split at hk
  case h_2 => cases hk
  rename_i d hd
  unfold unV at hd
  split at hd
  · rename_i k n hop
    rw [hop] at hx
    cases op <;> cases hd
    cases hx' : a.eval x <;> rw [hx'] at hx <;> cases hx
    refine does_value (v := .int k (k.wrap (0 - n))) (w' := w) ?_ (hr.after (.int _ _ (wrap_fits _ _)) hk)
    simp [execOp, ho, hx', Op.unary, Op.intArith]
  · rename_i b hop
    rw [hop] at hx
    cases op <;> cases hd
    cases hx' : a.eval x <;> rw [hx'] at hx <;> cases hx
    refine does_value (v := .bool (!b)) (w' := w) ?_ (hr.after (.bool _) hk)
    simp [execOp, ho, hx', Op.unary]
  · cases hd

end
end Go.D
