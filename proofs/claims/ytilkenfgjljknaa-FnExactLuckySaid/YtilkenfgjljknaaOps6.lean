/-
  One operation, continued: places in slices and texts, parts of them.
-/
import Derived.Test.YtilkenfgjljknaaOps5
namespace Go.D
section
variable {C : Cx} {w0 : World} {outer own : Nat → Prop} {ρ : Nat → Option RI} {st st' : St} {a : Act} {w : World} {h : Nat → Option Row}

theorem VR.ow_inv {bad : Nat → Prop} {v : Value} {r : Nat} {ri : RI} (h : VR w ρ bad v (.ow r)) (hρ : ρ r = some ri) :
    (v = .slice (some (at_ ri.b 0)) ri.n ri.cap ∧ ri.nl = false ∧ ri.n ≤ ri.cap ∧ ri.cap ≤ maxLen) ∨ (∃ ao, v = .slice ao 0 0 ∧ ri.nl = true ∧ ri.n = 0) := by
  cases h with
  | ow _ ri' h1 h2 h3 h4 => rw [hρ] at h1; cases h1; exact .inl ⟨rfl, h4, h2, h3⟩
  | owN _ ri' ao h1 h2 h3 => rw [hρ] at h1; cases h1; exact .inr ⟨ao, rfl, h3, h2⟩

theorem VR.ov_inv {bad : Nat → Prop} {v : Value} {r off len : Nat} {t : TN} {ri : RI} (h : VR w ρ bad v (.ov r t off len)) (hρ : ρ r = some ri) :
    ∃ ao cap, v = .slice ao len cap ∧ off + len ≤ ri.n ∧ (len = 0 ∧ cap = 0 ∨ ao = some (at_ ri.b (off * sz t)) ∧ ri.nl = false ∧ off + cap ≤ ri.cap) ∧ len ≤ cap ∧ cap ≤ maxLen := by
  cases h with
  | ov _ _ _ _ cap ao ri' h1 h2 h3 h4 h5 => rw [hρ] at h1; cases h1; exact ⟨ao, cap, rfl, h2, h3, h4, h5⟩

theorem VR.ov_row {bad : Nat → Prop} {v : Value} {r off len : Nat} {t : TN} (h : VR w ρ bad v (.ov r t off len)) : ∃ ri, ρ r = some ri := by
  cases h with
  | ov _ _ _ _ cap ao ri' h1 h2 h3 h4 h5 => exact ⟨_, h1⟩

theorem VR.bp_inv {bad : Nat → Prop} {v : Value} {r off : Nat} (h : VR w ρ bad v (.bp r off)) : ∃ ri, ρ r = some ri ∧ v = .pointer (some (at_ ri.b off)) ∧ ri.nl = false := by
  cases h with
  | bp _ _ ri h1 h2 => exact ⟨ri, h1, rfl, h2⟩

theorem VR.sl_inv {bad : Nat → Prop} {v : Value} {t : TN} {l : List (El t)} (h : VR w ρ bad v (.sl t l)) :
    ∃ ao cap, v = .slice ao l.length cap ∧ l.length ≤ cap ∧ cap ≤ maxLen ∧ (l = [] ∨ ∃ b off, ao = some (at_ b off) ∧ ¬ bad b ∧
      ∀ i (hi : i < l.length) j, j < sz t → ∃ u, w.cell? (at_ b (off + i * sz t + j)) = some u ∧ VR w ρ bad u ((enc t l[i]).getD j .undef)) := by
  cases h with
  | slE _ ao cap h => exact ⟨ao, cap, rfl, Nat.zero_le _, h, .inl rfl⟩
  | slC _ _ b off cap u hb hl hc hu hv => exact ⟨_, cap, rfl, hl, hc, .inr ⟨b, off, rfl, hb, fun i hi j hj => ⟨_, hu i hi j hj, hv i hi j hj⟩⟩⟩

theorem VR.int_inv {bad : Nat → Prop} {v : Value} {k : IntKind} {n : Int} (h : VR w ρ bad v (.int k n)) : v = .int k n ∧ Fits k n := by
  cases h with
  | int _ _ h => exact ⟨rfl, h⟩

theorem VR.str_inv {bad : Nat → Prop} {v : Value} {s : List UInt8} (h : VR w ρ bad v (.str s)) : v = .string ⟨s.toArray⟩ ∧ s.length ≤ maxLen := by
  cases h with
  | str _ h => exact ⟨rfl, h⟩

theorem tnIs_ok {e : TypeId} {t : TN} (hC : TnOk C) (h : tnIs C e t = true) : sizeT C.P e = some (sz t) := by
  unfold tnIs at h
  split at h
  · rename_i t' h1
    have : t' = t := by simpa using h
    subst this
    obtain ⟨i, z, h2, h3, _⟩ := hC.ok e t' h1
    simp [sizeT, h2, h3]
  · cases h

theorem idxI_some {α : Type} {l : List α} {n : Int} {x : α} (h : idxI l n = some x) : 0 ≤ n ∧ ∃ hk : n.toNat < l.length, l[n.toNat] = x := by
  unfold idxI at h
  split at h
  · rename_i h0
    obtain ⟨h1, h2⟩ := List.getElem?_eq_some_iff.1 h
    exact ⟨h0, h1, h2⟩
  · cases h

/-- The address of an element. -/
theorem index_run {t e : TypeId} {s : Nat} {b off len cap : Nat} {k : IntKind} {n : Int} (hu : C.P.underlying t = some (.slice e)) (hs : sizeT C.P e = some s) (h0 : 0 ≤ n) (h1 : n < (len : Int)) :
    (Instr.indexAt t (.slice (some (at_ b off)) len cap) (.int k n)).run C.P w = .ok (.pointer (some (at_ b (off + n.toNat * s)))) w := by
  simp [Instr.indexAt, asIntOf, run_underlyingC hu, h0, h1, size_run hs, add_at]

theorem chain_ok {R : Type} {f : Nat → Option R} {i : Int} {r : R} : ∀ (n k : Nat), chainK f i k n = some r → ∃ j, i = ((k + j : Nat) : Int) ∧ j < n ∧ f (k + j) = some r
  | 0, k, h => by simp [chainK] at h
  | n + 1, k, h => by
    simp only [chainK] at h
    cases hb : (i == (k : Int))
    · simp only [hb, cond_false] at h
      obtain ⟨j, h1, h2, h3⟩ := chain_ok n (k + 1) h
      exact ⟨j + 1, by rw [h1]; congr 1; omega, by omega, by rw [show k + (j + 1) = k + 1 + j by omega]; exact h3⟩
    · simp only [hb, cond_true] at h
      exact ⟨0, by simpa using hb, by omega, by simpa using h⟩

variable {o : Oper} {i : Nat} (hr : Rel C w0 outer own ρ st a w)
include hr

theorem ok_indexAddr (hC : TnOk C) (t : TypeId) (x y : Operand) (ho : o.op = .indexAddr t x y) (hk : stepK C i o st some = some st') : Does C.P o a w (After C w0 outer own i ρ st') := by
  simp only [stepK, ho] at hk
  have hx := hr.opd x
  have hy := hr.opd y
  split at hk
  case h_2 => cases hk
  rename_i kk n hny
  rw [hny] at hy
  have hyv := hy.int_inv.1
  split at hk
  · rename_i e t' l hu hop
    rw [hop] at hx
    cases htn : tnIs C e t'
    case false => simp [htn] at hk
    simp only [htn, cond_true, Option.bind_eq_some_iff] at hk
    obtain ⟨z, hz, hk⟩ := hk
    obtain ⟨h0, hlt, rfl⟩ := idxI_some hz
    have hsz := tnIs_ok hC htn
    obtain ⟨ao, cap, hx', _, _, hl⟩ := hx.sl_inv
    rcases hl with rfl | ⟨b, off, rfl, hb, hcell⟩
    · simp at hlt
    · refine does_value (v := .pointer (some (at_ b (off + n.toNat * sz t')))) (w' := w) ?_ (hr.after ?_ hk)
      · simp [execOp, ho, hx', hyv, index_run hu hsz h0 (show n < (l.length : Int) by omega)]
      · have := VR.fp (w := w) (ρ := ρ) (bad := Bad outer ρ st.h) (enc t' l[n.toNat]) 0 b (off + n.toNat * sz t') (fun j => (w.cell? (at_ b (off + n.toNat * sz t' + j))).getD undef) (by rw [enc_length]; exact sz_pos _) hb
          (fun j hj => by
            rw [enc_length] at hj
            obtain ⟨u, h1, _⟩ := hcell _ hlt j hj
            rw [h1]; rfl)
          (fun j hj => by
            obtain ⟨u, h1, h2⟩ := hcell _ hlt j (by rw [← enc_length t' l[n.toNat]]; exact hj)
            rw [h1, Option.getD_some]
            rwa [getD_lt _ _ _ hj] at h2)
        rwa [Nat.add_zero] at this
  · rename_i e r hu hop
    rw [hop] at hx
    split at hk
    case h_2 => cases hk
    rename_i t' l m hrow
    cases htn : tnIs C e t'
    case false => simp [htn] at hk
    simp only [htn, cond_true] at hk
    cases hb : (decide (0 ≤ n) && decide (n < (l.length : Int)))
    case false => simp [hb] at hk
    simp only [hb, cond_true] at hk
    simp only [Bool.and_eq_true, decide_eq_true_eq] at hb
    have hsz := tnIs_ok hC htn
    obtain ⟨ri, hρ, hro⟩ := row_of hr hrow
    have hn1 : ri.n = l.length := hro.1
    rcases hx.ow_inv hρ with ⟨hx', hnl, _, _⟩ | ⟨ao, hx', hnl, hn0⟩
    · have hrun := index_run (w := w) (cap := ri.cap) (b := ri.b) (off := 0) (k := kk) hu hsz hb.1 (show n < (ri.n : Int) by omega)
      refine does_value (v := .pointer (some (at_ ri.b (0 + n.toNat * sz t')))) (w' := w) ?_ (hr.after ?_ hk)
      · simp [execOp, ho, hx', hyv, hrun]
      · rw [Nat.zero_add]; exact .ep _ _ _ 0 _ hρ hnl
    · omega
  · rename_i e r t' off len hu hop
    rw [hop] at hx
    cases htn : tnIs C e t'
    case false => simp [htn] at hk
    simp only [htn, cond_true] at hk
    cases hb : (decide (0 ≤ n) && decide (n < (len : Int)))
    case false => simp [hb] at hk
    simp only [hb, cond_true] at hk
    simp only [Bool.and_eq_true, decide_eq_true_eq] at hb
    have hsz := tnIs_ok hC htn
    obtain ⟨ri, hρ⟩ := hx.ov_row
    obtain ⟨ao, cap, hx', _, hao, _, _⟩ := hx.ov_inv hρ
    rcases hao with ⟨h0, _⟩ | ⟨rfl, hnl, _⟩
    · omega
    · have hrun := index_run (w := w) (cap := cap) (b := ri.b) (off := off * sz t') (k := kk) hu hsz hb.1 hb.2
      refine does_value (v := .pointer (some (at_ ri.b (off * sz t' + n.toNat * sz t')))) (w' := w) ?_ (hr.after ?_ hk)
      · simp [execOp, ho, hx', hyv, hrun]
      · rw [← Nat.add_mul]; exact .ep _ _ _ 0 _ hρ hnl
  · rename_i m e r o1 hu hop
    rw [hop] at hx
    split at hk
    case h_2 => cases hk
    rename_i hsz
    obtain ⟨j, hj1, hj2, hk⟩ := chain_ok _ _ hk
    rw [Nat.zero_add] at hj1 hk
    obtain ⟨ri, hρ, hx', hnl⟩ := hx.bp_inv
    refine does_value (v := .pointer (some (at_ ri.b (o1 + j)))) (w' := w) ?_ (hr.after (.bp _ _ _ hρ hnl) hk)
    have h0 : 0 ≤ n := by omega
    have h1 : n < (m : Int) := by omega
    have h2 : n.toNat = j := by omega
    simp [execOp, ho, hx', hyv, Instr.indexAt, asIntOf, run_underlyingC hu, Instr.sureAddr, h0, h1, size_run hsz, add_at, h2]
  · cases hk

theorem ok_index (t : TypeId) (x y : Operand) (ho : o.op = .index t x y) (hk : stepK C i o st some = some st') : Does C.P o a w (After C w0 outer own i ρ st') := by
  simp only [stepK, ho] at hk
  have hx := hr.opd x
  have hy := hr.opd y
  split at hk
  · rename_i kk n s hny hu hop
    rw [hop] at hx; rw [hny] at hy
    have hyv := hy.int_inv.1
    obtain ⟨hx', hsl⟩ := hx.str_inv
    obtain ⟨z, hz, hk⟩ := Option.bind_eq_some_iff.1 hk
    obtain ⟨h0, hlt, rfl⟩ := idxI_some hz
    refine does_value (v := .int .u8 (s[n.toNat].toNat : Int)) (w' := w) ?_ (hr.after (.int _ _ ?_) hk)
    · have h1 : n.toNat < (⟨s.toArray⟩ : ByteArray).size := by simpa [ByteArray.size] using hlt
      simp [execOp, ho, hx', hyv, Instr.index, asIntOf, run_underlyingC hu, h0, ByteArray.getElem?_lt' _ _ h1]
      rfl
    · have := s[n.toNat].toNat_lt
      simp only [Fits, IntKind.min, IntKind.max, IntKind.signed, IntKind.bits]; simp; omega
  · rename_i kk n m e cs hny hu hop
    rw [hop] at hx; rw [hny] at hy
    have hyv := hy.int_inv.1
    split at hk
    case h_2 => cases hk
    rename_i hsz hag
    obtain ⟨j, hj1, hj2, hk⟩ := chain_ok _ _ hk
    rw [Nat.zero_add] at hj1 hk
    split at hk
    case h_2 => cases hk
    rename_i c r' hd
    have hlt : j < cs.length := by
      rcases Nat.lt_or_ge j cs.length with h | h
      · exact h
      · rw [List.drop_eq_nil_of_le h] at hd; cases hd
    have hce : cs[j] = c := by
      rw [List.drop_eq_getElem_cons hlt] at hd; exact (List.cons.inj hd).1
    cases hx' : a.eval x <;> rw [hx'] at hx <;> cases hx
    rename_i vs hs hv
    have h3 := hv j hlt
    rw [hce] at h3
    have h0 : 0 ≤ n := by omega
    have h1 : n < (m : Int) := by omega
    have h2 : n.toNat = j := by omega
    refine does_value (v := vs.getD j undef) (w' := w) ?_ (hr.after h3 hk)
    simp [execOp, ho, hx', hyv, Instr.index, asIntOf, run_underlyingC hu, h0, h1, size_run hsz, h2, part_one (P := C.P) (w := w) hag (show j < vs.size by omega)]
  · cases hk

end
end Go.D
