/-
  One operation, whichever it is.
-/
import Derived.Test.YtilkenfgjljknaaOps15
namespace Go.D

section
variable {C : Cx} {w0 : World} {outer own : Nat → Prop} {ρ : Nat → Option RI} {st st' : St} {a : Act} {w : World} {h : Nat → Option Row}
variable {o : Oper} {i : Nat} (hr : Rel C w0 outer own ρ st a w)
include hr

theorem ok_call (hΦ : PhiOk C) (hfin : ∃ N, ∀ r, N ≤ r → ρ r = none) (hfr : ∀ q, q < 64 → ρ (i + q) = none) (x : Operand) (args : Array Operand) (argTypes : Array TypeId)
    (ho : o.op = .call { callee := .value x, args, argTypes }) (hk : stepK C i o st some = some st') : Does C.P o a w (After C w0 outer own i ρ st') := by
  simp only [stepK, ho] at hk
  split at hk
  case h_2 => cases hk
  rename_i f cs hop
  have hx := hr.opd x
  rw [hop] at hx
  generalize hv : a.eval x = v at hx
  cases hx with
  | fn _ _ caps hs hvc =>
  refine ok_callK hr hΦ hfin hfr f (args.map a.eval ++ caps) _ (by simp [hs]) (fun j hj => ?_) ?_ hk
  · by_cases hj1 : j < args.size
    · rw [List.getElem_append_left (by simpa using hj1), Array.getD_eq_getD_getElem?, Array.getElem?_append_left (by simpa using hj1)]
      simp only [Array.getElem?_map, Array.getElem?_eq_getElem hj1, Option.map_some, Option.getD_some, List.getElem_map, Array.getElem_toList]
      exact hr.opd _
    · have hj2 : j - args.size < cs.length := by simp at hj; omega
      rw [List.getElem_append_right (by simp; omega), Array.getD_eq_getD_getElem?, Array.getElem?_append_right (by simp; omega)]
      have := hvc (j - args.size) hj2
      rw [Array.getD_eq_getD_getElem?] at this
      simpa using this
  · simp [execOp, ho, resolve, Deferred.ofValue, hv, invoke]

theorem ok_pick2 (c x y : Operand) (ho : o.op = .pick c x y) (t : Bool) (hc : opd st.s c = .bool t) (hk : putK C o.dst st (cond t (opd st.s x) (opd st.s y)) some = some st') :
    Does C.P o a w (After C w0 outer own i ρ st') := by
  have h1 := hr.opd c; rw [hc] at h1
  generalize hec : a.eval c = vc at h1
  cases h1
  refine does_value (v := if t then a.eval x else a.eval y) (w' := w) ?_ (hr.after ?_ hk)
  · cases t <;> simp [execOp, ho, hec, asBool]
  · cases t
    · exact hr.opd y
    · exact hr.opd x

theorem step_ok (hC : TnOk C) (hΦ : PhiOk C) (hfin : ∃ N, ∀ r, N ≤ r → ρ r = none) (hfr : ∀ q, q < 64 → ρ (i + q) = none) (hk : stepK C i o st some = some st') :
    Does C.P o a w (After C w0 outer own i ρ st') := by
  have hi : ρ i = none := hfr 0 (by omega)
  have none_of : ∀ {p : Prop}, stepK C i o st some = none → p := fun h => by rw [h] at hk; cases hk
  cases ho : o.op with
  | move x => exact ok_move hr x (.inl ho) (by simpa only [stepK, ho] using hk)
  | assign x => exact ok_move hr x (.inr ho) (by simpa only [stepK, ho] using hk)
  | pick c x y =>
    simp only [stepK, ho] at hk
    split at hk
    case h_2 => cases hk
    rename_i t hc
    split at hk
    · rename_i p q hx hy
      exact ok_pick hr c x y ho t p q hc hx hy hk
    · exact ok_pick2 hr c x y ho t hc hk
  | alloc e =>
    simp only [stepK, ho] at hk
    split at hk
    case h_2 => cases hk
    rename_i cs hz
    exact ok_alloc hr e ho hi cs hz hk
  | box e x =>
    simp only [stepK, ho] at hk
    cases hb : leafs (cellsOf (opd st.s x))
    case false => simp [hb] at hk
    simp only [hb, cond_true] at hk
    exact ok_box hr e x ho hi hb hk
  | build t parts => exact ok_build hr t parts ho hk
  | buildSlice t len parts => exact ok_buildSlice hr hC t len parts ho hi hk
  | load t x => exact ok_load hr t x ho hk
  | store t x y => exact ok_store hr t x y ho hk
  | nilCheck x => exact ok_nilCheck hr x ho hk
  | binOp op t x y t' => exact ok_binOp hr op t t' x y ho hk
  | unOp op t x => exact ok_unOp hr op t x ho hk
  | convert s d x => exact ok_convert hr hC s d x ho hi hk
  | makeFunc fn first captured =>
    cases fn with
    | func f => exact ok_makeFunc hr f first captured ho hk
    | _ => exact none_of (by simp only [stepK, ho])
  | makeSlice t x y => exact ok_makeSlice hr hC t x y ho hi hk
  | slice t x lo hi mx => exact ok_slice hr hC t x lo hi mx ho hk
  | fieldAddr t x f => exact ok_fieldAddr hr t x f ho hk
  | field t x f => exact ok_field hr t x f ho hk
  | indexAddr t x y => exact ok_indexAddr hr hC t x y ho hk
  | index t x y => exact ok_index hr t x y ho hk
  | extract x ix => exact ok_extract hr x ix ho hk
  | call c =>
    obtain ⟨callee, args, argTypes⟩ := c
    cases callee with
    | value x => exact ok_call hr hΦ hfin hfr x args argTypes ho hk
    | invoke r m => exact none_of (by simp only [stepK, ho])
    | builtin b =>
      cases b with
      | len => exact ok_len hr args argTypes ho hk
      | append => exact ok_append hr hC args argTypes ho hi hk
      | min => exact ok_min hr args argTypes ho hk
      | max => exact ok_max hr args argTypes ho hk
      | _ => exact none_of (by simp only [stepK, ho])
  | _ => exact none_of (by simp only [stepK, ho])

end
end Go.D
