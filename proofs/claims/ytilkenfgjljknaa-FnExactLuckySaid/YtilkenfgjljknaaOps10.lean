/-
  One operation, continued: conversions, closures, what is made.
-/
import Derived.Test.YtilkenfgjljknaaOps9
namespace Go.D

theorem sz_le (t : TN) : sz t ≤ 64 := by cases t <;> simp [sz]

section
variable {C : Cx} {w0 : World} {outer own : Nat → Prop} {ρ : Nat → Option RI} {st st' : St} {a : Act} {w : World} {h : Nat → Option Row}

/-- Parts of a composite literal. -/
theorem partsFrom_ok : ∀ (parts : List (Nat × Operand)) (k : Nat) (vs : List V), partsFrom st.s k parts = some vs → vs.length = parts.length ∧
    ∀ j (hj : j < parts.length), (parts[j]).1 = k + j ∧ ∃ (h : j < vs.length), vs[j] = opd st.s (parts[j]).2
  | [], k, vs, h => by simp [partsFrom] at h; subst h; exact ⟨rfl, fun j hj => by simp at hj⟩
  | (j, x) :: r, k, vs, h => by
    simp only [partsFrom] at h
    cases hb : Nat.beq k j
    case false => simp [hb] at h
    have hkj := Nat.eq_of_beq_eq_true hb
    simp only [hb, cond_true] at h
    split at h
    · cases h
    rename_i vs' hv
    cases h
    obtain ⟨h1, h2⟩ := partsFrom_ok r (k + 1) vs' hv
    refine ⟨by simp [h1], fun q hq => ?_⟩
    cases q with
    | zero => exact ⟨by simp [hkj], by simp, rfl⟩
    | succ q =>
      obtain ⟨h3, h4, h5⟩ := h2 q (by simpa using hq)
      refine ⟨by simp [h3]; omega, by simp; omega, ?_⟩
      simpa using h5

theorem fold_set (off : Nat) : ∀ (l : List (Value × Nat)) (k : Nat) (cs : Array Value), (∀ j (hj : j < l.length), (l[j]).2 = k + j) →
    (l.foldl (fun cs (c, j) => cs.setIfInBounds (off + j) c) cs).size = cs.size ∧
    ∀ p, p < cs.size → (l.foldl (fun cs (c, j) => cs.setIfInBounds (off + j) c) cs).getD p undef = if h : off + k ≤ p ∧ p < off + k + l.length then (l[p - (off + k)]'(by omega)).1 else cs.getD p undef
  | [], k, cs, _ => ⟨rfl, fun p hp => by simp; omega⟩
  | (c, j) :: l, k, cs, hl => by
    have hj : j = k := hl 0 (by simp)
    subst hj
    obtain ⟨h1, h2⟩ := fold_set off l (j + 1) (cs.setIfInBounds (off + j) c) (fun q hq => by have := hl (q + 1) (by simp; omega); simp at this; omega)
    refine ⟨by simp only [List.foldl_cons]; rw [h1]; simp, fun p hp => ?_⟩
    simp only [List.foldl_cons]
    rw [h2 p (by simpa using hp)]
    by_cases hin : off + (j + 1) ≤ p ∧ p < off + (j + 1) + l.length
    · rw [dif_pos hin, dif_pos ⟨by omega, by simp; omega⟩]
      have : p - (off + j) = p - (off + (j + 1)) + 1 := by omega
      simp [this]
    · rw [dif_neg hin]
      by_cases he : p = off + j
      · subst he
        rw [dif_pos ⟨Nat.le_refl _, by simp⟩]
        rw [Array.getD_eq_getD_getElem?, Array.getElem?_setIfInBounds]
        simp [hp]
      · rw [dif_neg (by simp; omega)]
        rw [Array.getD_eq_getD_getElem?, Array.getElem?_setIfInBounds, if_neg (by omega), Array.getD_eq_getD_getElem?]

theorem fill_cells (v : Value) (off : Nat) (cs : Array Value) : (v.cells.zipIdx.foldl (fun cs (c, j) => cs.setIfInBounds (off + j) c) cs).size = cs.size ∧
    ∀ p, p < cs.size → (v.cells.zipIdx.foldl (fun cs (c, j) => cs.setIfInBounds (off + j) c) cs).getD p undef = if off ≤ p ∧ p < off + v.cells.size then v.cells.getD (p - off) undef else cs.getD p undef := by
  rw [← Array.foldl_toList]
  obtain ⟨h1, h2⟩ := fold_set off v.cells.zipIdx.toList 0 cs (fun j hj => by simp)
  refine ⟨h1, fun p hp => ?_⟩
  rw [h2 p hp]
  by_cases hin : off ≤ p ∧ p < off + v.cells.size
  · rw [if_pos hin, dif_pos (by simpa using hin)]
    rw [Array.getD_eq_getD_getElem?, Array.getElem?_eq_getElem (by omega)]
    simp
  · rw [if_neg hin, dif_neg (by simpa using hin)]

/-- A slice's literal: its elements one behind the other. -/
theorem fill_seq (size : Nat) : ∀ (parts : List (Nat × Value)) (k : Nat) (cs : Array Value), (∀ j (hj : j < parts.length), (parts[j]).1 = k + j ∧ (parts[j]).2.cells.size = size) →
    (k + parts.length) * size ≤ cs.size → ∃ cs', Instr.fill (fun i => some (i * size, size)) cs parts = some cs' ∧ cs'.size = cs.size ∧
      (∀ j (hj : j < parts.length) q, q < size → cs'.getD ((k + j) * size + q) undef = (parts[j]).2.cells.getD q undef) ∧ ∀ p, p < k * size → cs'.getD p undef = cs.getD p undef
  | [], k, cs, _, _ => ⟨cs, rfl, rfl, fun j hj => by simp at hj, fun _ _ => rfl⟩
  | (i, v) :: r, k, cs, hp, hs => by
    obtain ⟨h1, h2⟩ := hp 0 (by simp)
    simp only [List.getElem_cons_zero, Nat.add_zero] at h1 h2
    subst h1
    simp only [List.length_cons] at hs
    have hs2 : (i + 1 + r.length) * size = i * size + size + r.length * size := by rw [Nat.add_mul, Nat.add_mul, Nat.one_mul]
    have hs3 : (i + (r.length + 1)) * size = i * size + size + r.length * size := by rw [Nat.add_mul, Nat.add_mul, Nat.one_mul]; omega
    obtain ⟨h3, h4⟩ := fill_cells v (i * size) cs
    obtain ⟨cs', h5, h6, h7, h8⟩ := fill_seq size r (i + 1) _ (fun j hj => by have := hp (j + 1) (by simp; omega); simpa [Nat.add_assoc, Nat.add_comm 1 j] using this) (by rw [h3]; omega)
    have hsz : ∀ j, j < r.length → (i + 1 + j) * size ≥ i * size + size := fun j _ => by rw [Nat.add_mul, Nat.add_mul, Nat.one_mul]; omega
    refine ⟨cs', ?_, by rw [h6, h3], fun j hj q hq => ?_, fun p hp' => ?_⟩
    · simp only [Instr.fill]
      rw [if_neg]
      · exact h5
      · simp [h2]; omega
    · cases j with
      | zero =>
        rw [Nat.add_zero, h8 _ (by rw [Nat.add_mul, Nat.one_mul]; omega), h4 _ (by omega), if_pos ⟨by omega, by omega⟩]
        simp
      | succ j =>
        have := h7 j (by simpa using hj) q hq
        rw [show i + (j + 1) = i + 1 + j by omega, this]; simp
    · rw [h8 p (by rw [Nat.add_mul, Nat.one_mul]; omega), h4 p (by omega), if_neg (by omega)]

theorem decAll_ok (t : TN) : ∀ (css : List (List V)) (l : List (El t)), decAll t css = some l → l.length = css.length ∧ ∀ j (hj : j < css.length) (hj' : j < l.length), Subs css[j] (enc t l[j])
  | [], l, h => by simp [decAll] at h; subst h; exact ⟨rfl, fun j hj => by simp at hj⟩
  | cs :: css, l, h => by
    simp only [decAll] at h
    split at h
    · cases h
    rename_i x hx
    split at h
    · cases h
    rename_i l' hl
    cases h
    obtain ⟨h1, h2⟩ := decAll_ok t css l' hl
    refine ⟨by simp [h1], fun j hj hj' => ?_⟩
    cases j with
    | zero => exact dec_sub t hx
    | succ j => simpa using h2 j (by simpa using hj) (by simpa using hj')

variable {o : Oper} {i : Nat} (hr : Rel C w0 outer own ρ st a w)
include hr

theorem captured_ok (xs : List Operand) : ∀ j (hj : j < (xs.map (opd st.s)).length), VR w ρ (Bad outer ρ st.h) ((xs.map a.eval).getD j undef) (xs.map (opd st.s))[j] := fun j hj => by
  have hj' : j < xs.length := by simpa using hj
  rw [List.getD_eq_getElem?_getD, List.getElem?_map, List.getElem?_eq_getElem hj', List.getElem_map]
  exact hr.opd xs[j]

theorem ok_makeFunc (f : Nat) (first captured : Array Operand) (ho : o.op = .makeFunc (.func f) first captured) (hk : stepK C i o st some = some st') : Does C.P o a w (After C w0 outer own i ρ st') := by
  simp only [stepK, ho] at hk
  cases he : first.isEmpty
  case false => simp [he] at hk
  simp only [he, cond_true] at hk
  split at hk
  case h_2 => cases hk
  rename_i cs ids hfz
  have he : first = #[] := by simpa using he
  subst he
  obtain ⟨h1, h2⟩ := hr.heap.mark ids
  obtain ⟨h3, h4⟩ := frzArgs_ok hr.heap (captured_ok hr captured.toList) hfz
  have hr1 : Rel C w0 outer own ρ { st with h := markRo st.h ids } a w := hr.turn h1 h2
  refine does_value (v := .func (.func f) #[] (captured.map a.eval)) (w' := w) (by simp [execOp, ho, Instr.makeFunc]) (hr1.after (.fn f cs _ (by simp [h3]) fun j hj => ?_) hk)
  have := (h4 j hj).1
  rw [Array.getD_eq_getD_getElem?]
  rw [List.getD_eq_getElem?_getD] at this
  simpa using this

theorem ok_buildSlice (hC : TnOk C) (t : TypeId) (len : Nat) (parts : Array (Nat × Operand)) (ho : o.op = .buildSlice t len parts) (hi : ρ i = none) (hk : stepK C i o st some = some st') :
    Does C.P o a w (After C w0 outer own i ρ st') := by
  simp only [stepK, ho] at hk
  split at hk
  · cases hk
  rename_i tn htn
  obtain ⟨e, he, hte⟩ := Option.bind_eq_some_iff.1 htn
  have hu : C.P.underlying t = some (.slice e) := by
    unfold elemT at he
    split at he
    · rename_i h1; cases he; exact h1
    · cases he
  obtain ⟨info, z, hi1, hi2, hi3, hi4, hi5⟩ := hC.ok e tn hte
  split at hk
  · cases hk
  rename_i vs hparts
  cases hb : (Nat.beq vs.length len && Nat.ble len 1000)
  case false => simp [hb] at hk
  simp only [hb, cond_true] at hk
  simp only [Bool.and_eq_true] at hb
  have hlen := Nat.eq_of_beq_eq_true hb.1
  have hle := Nat.le_of_ble_eq_true hb.2
  split at hk
  · cases hk
  rename_i vs' ids hfz
  obtain ⟨l, hl, hk⟩ := Option.bind_eq_some_iff.1 hk
  obtain ⟨hp1, hp2⟩ := partsFrom_ok parts.toList 0 vs hparts
  have hpl : parts.toList.length = len := by omega
  have hps : parts.size = len := by rw [← Array.length_toList]; exact hpl
  have hvs : ∀ j (hj : j < vs.length), VR w ρ (Bad outer ρ st.h) (a.eval ((parts.toList.map (·.2)).getD j (.const undef))) vs[j] := fun j hj => by
    obtain ⟨_, h4, h5⟩ := hp2 j (by omega)
    rw [h5, List.getD_eq_getElem?_getD, List.getElem?_map, List.getElem?_eq_getElem (by omega)]
    exact hr.opd _
  obtain ⟨h1, h2⟩ := hr.heap.mark ids
  obtain ⟨h3, h4⟩ := frzArgs_ok hr.heap hvs hfz
  obtain ⟨h5, h6⟩ := decAll_ok tn _ l hl
  have hr1 : Rel C w0 outer own ρ { st with h := markRo st.h ids } a w := hr.turn h1 h2
  -- the cells
  let pv : List (Nat × Value) := parts.toList.map fun p => (p.1, a.eval p.2)
  have hpvl : pv.length = len := by simp [pv]; omega
  have hll : l.length = len := by rw [h5, List.length_map]; omega
  have hpv : ∀ j (hj : j < pv.length), (pv[j]).1 = 0 + j ∧ (pv[j]).2.cells.size = sz tn ∧ ∀ q, q < sz tn → ∃ (hj' : j < l.length), VR w ρ (Bad outer ρ (markRo st.h ids)) ((pv[j]).2.cells.getD q undef) ((enc tn l[j]).getD q .undef) := fun j hj => by
    have hjv : j < vs'.length := by omega
    have hjl : j < l.length := by omega
    obtain ⟨e1, e2, e3⟩ := hp2 j (by omega)
    obtain ⟨g1, g2⟩ := h4 j hjv
    have hval : (parts.toList.map (·.2)).getD j (.const undef) = (parts.toList[j]'(by omega)).2 := by
      rw [List.getD_eq_getElem?_getD, List.getElem?_map, List.getElem?_eq_getElem (by omega)]; rfl
    rw [hval] at g1
    have hsub := h6 j (by simpa using hjv) hjl
    rw [List.getElem_map] at hsub
    have hcl : (cellsOf vs'[j]).length = sz tn := by rw [hsub.len, enc_length]
    have hpj : pv[j] = ((parts.toList[j]'(by omega)).1, a.eval (parts.toList[j]'(by omega)).2) := by simp [pv]
    rw [hpj]
    have hleaf : leafs (cellsOf vs'[j]) = true := by
      rw [leafs, List.all_eq_true]
      intro c hc
      obtain ⟨q, hq, rfl⟩ := List.mem_iff_getElem.1 hc
      have hs := hsub.get q hq (by rw [← hsub.len]; exact hq)
      have hel := enc_getD_leaf tn l[j] q (by omega)
      rw [getD_lt _ _ _ (by rw [enc_length]; omega)] at hel
      generalize (cellsOf vs'[j])[q] = c at hs
      generalize (enc tn l[j])[q]'_ = d at hs hel
      cases hs <;> first | exact hel | rfl
    obtain ⟨f1, f2, f3⟩ := vr_cells g1 hleaf
    refine ⟨e1, by rw [f1, hcl], fun q hq => ⟨hjl, ?_⟩⟩
    have := VR.sub (hsub.get q (by omega) (by rw [enc_length]; exact hq)) (f2 q (by omega))
    rwa [getD_lt _ _ _ (by rw [enc_length]; exact hq)]
  obtain ⟨cs', c1, c2, c3, _⟩ := fill_seq (sz tn) pv 0 ((Array.range (len * sz tn)).map (fun k => (if len * sz tn = 0 then (#[] : Array Value) else z.cells)[k % (if len * sz tn = 0 then (#[] : Array Value) else z.cells).size]!))
    (fun j hj => ⟨(hpv j hj).1, (hpv j hj).2.1⟩) (by simp [hpvl])
  have hcsz : cs'.size = len * sz tn := by rw [c2]; simp
  have hbig : ¬ (2 ^ 24 < len * sz tn) := by
    have h1 := sz_le tn
    have : len * sz tn ≤ 1000 * 64 := Nat.mul_le_mul hle h1
    omega
  have hrun : (execOp a.eval o).run C.P w = .ok (.value (.slice (some ⟨w.heap.size, 0, none⟩) len len)) (w.alloc (.cells cs' e)) := by
    have hpm : (parts.map fun x => (x.1, a.eval x.2)).toList = pv := by simp [pv]
    simp only [execOp, ho, Instr.buildSlice, Sem.run_bind, run_underlyingC hu, Result.andThen_ok, sizeOf, typeInfo, run_program, hi1, Sem.run_pure, hi2, gt_iff_lt, hbig, if_false]
    by_cases h0 : len * sz tn = 0
    · simp only [h0, if_true] at c1 ⊢
      simp only [Sem.run_bind, Sem.run_pure, Result.andThen_ok, hpm, c1, run_newObj]
      rfl
    · simp only [h0, if_false] at c1 ⊢
      simp only [Sem.run_bind, Sem.run_pure, Result.andThen_ok, zeroValue, typeInfo, run_program, hi1, hi4, hpm, c1, run_newObj]
      rfl
  refine does_value hrun (hr1.newRow hi ⟨w.heap.size, len, len, false⟩ (fun _ => rfl) _ (wx_alloc _ _) (fun b hb => heap_alloc_lt _ _ _ hb) (fun _ => by simp) (c := .arr tn l) (fun bad hk2 => ?_) (fun bad => ?_) hk)
  · refine ⟨hll.symm, .inr ⟨rfl, Nat.le_refl _, by unfold maxLen; simp; omega, fun j hj => ⟨World.frozen?_alloc_new _ _ _ _, ?_⟩, fun i' hi' j hj => ?_⟩⟩
    · have hj' : j < len * sz tn := hj
      rw [cell?_new w cs' e j (by omega)]; rfl
    · have hip : i' < pv.length := by omega
      have hlt : i' * sz tn + j < cs'.size := by
        rw [hcsz]
        have : (i' + 1) * sz tn ≤ len * sz tn := Nat.mul_le_mul_right _ (by omega)
        rw [Nat.add_mul, Nat.one_mul] at this; omega
      obtain ⟨_, _, g3⟩ := hpv i' hip
      obtain ⟨_, g4⟩ := g3 j hj
      refine ⟨_, cell?_new w cs' e _ hlt, ?_⟩
      have := c3 i' hip j hj
      rw [Nat.zero_add] at this
      rw [this]
      exact hk2 _ _ g4
  · exact .ow i ⟨w.heap.size, len, len, false⟩ (upd_same _ _ _) (Nat.le_refl _) (by unfold maxLen; simp; omega) rfl

end
end Go.D
