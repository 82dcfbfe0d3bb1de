/-
  One operation, continued: parts of slices, conversions, literals.
-/
import Derived.Test.YtilkenfgjljknaaOps8
namespace Go.D
section
variable {C : Cx} {w0 : World} {outer own : Nat → Prop} {ρ : Nat → Option RI} {st st' : St} {a : Act} {w : World} {h : Nat → Option Row}

theorem extract_list (s : List UInt8) (p q : Nat) : (⟨s.toArray⟩ : ByteArray).extract p q = ⟨((s.drop p).take (q - p)).toArray⟩ := by
  apply ByteArray.ext
  simp [ByteArray.data_extract]

theorem bounds_run {P : Program} (b : Bool) (len cap : Nat) (lo hi : Option Value) (p q : Nat) (hlo : ∀ v, lo = some v → ∃ k, v = .int k (p : Int)) (hlo0 : lo = none → p = 0)
    (hhi : ∀ v, hi = some v → ∃ k, v = .int k (q : Int)) (hhi0 : hi = none → q = len) (hpq : p ≤ q) (hqc : q ≤ cap) :
    (Instr.sliceBounds b len cap lo hi none).run P w = .ok (p, q, cap) w := by
  have e1 : (q : Int) ≤ cap := by omega
  have e2 : (p : Int) ≤ q := by omega
  cases lo with
  | none =>
    obtain rfl := hlo0 rfl
    cases hi with
    | none => obtain rfl := hhi0 rfl; simp [Instr.sliceBounds]
    | some v => obtain ⟨k, rfl⟩ := hhi v rfl; simp [Instr.sliceBounds, Instr.sliceBound, asIntOf, e1, hqc]
  | some u =>
    obtain ⟨k, rfl⟩ := hlo u rfl
    cases hi with
    | none => obtain rfl := hhi0 rfl; simp [Instr.sliceBounds, Instr.sliceBound, asIntOf, e2, hpq]
    | some v => obtain ⟨k', rfl⟩ := hhi v rfl; simp [Instr.sliceBounds, Instr.sliceBound, asIntOf, e1, e2, hqc, hpq]

theorem slice_run (hC : TnOk C) {t e : TypeId} {tn : TN} {ao : Option Addr} {len cap p q : Nat} {lo hi : Option Value} (hu : C.P.underlying t = some (.slice e)) (htn : tnIs C e tn = true)
    (hlo : ∀ v, lo = some v → ∃ k, v = .int k (p : Int)) (hlo0 : lo = none → p = 0) (hhi : ∀ v, hi = some v → ∃ k, v = .int k (q : Int)) (hhi0 : hi = none → q = len) (hpq : p ≤ q) (hqc : q ≤ cap) :
    (Instr.sliceAt t (.slice ao len cap) lo hi none).run C.P w = .ok (.slice (if cap = p then ao else ao.map (·.add (p * sz tn))) (q - p) (cap - p)) w := by
  simp [Instr.sliceAt, run_underlyingC hu, Instr.slice, bounds_run (P := C.P) (w := w) true len cap lo hi p q hlo hlo0 hhi hhi0 hpq hqc, size_run (tnIs_ok hC htn)]

variable {o : Oper} {i : Nat} (hr : Rel C w0 outer own ρ st a w)
include hr

theorem ok_slice (hC : TnOk C) (t : TypeId) (x : Operand) (lo hi mx : Option Operand) (ho : o.op = .slice t x lo hi mx) (hk : stepK C i o st some = some st') : Does C.P o a w (After C w0 outer own i ρ st') := by
  simp only [stepK, ho] at hk
  split at hk
  · cases hk
  · cases hk
  rename_i d hu
  unfold cutV at hk
  split at hk
  · cases hk
  rename_i len hlen
  split at hk
  case h_2 => cases hk
  rename_i pa pb hpa hpb
  cases hb : (decide (0 ≤ pa) && decide (pa ≤ pb) && decide (pb ≤ (len : Int)))
  case false => simp [hb] at hk
  simp only [hb, cond_true] at hk
  simp only [Bool.and_eq_true, decide_eq_true_eq] at hb
  obtain ⟨⟨hb1, hb2⟩, hb3⟩ := hb
  obtain ⟨p, rfl⟩ := Int.eq_ofNat_of_zero_le hb1
  obtain ⟨q, rfl⟩ := Int.eq_ofNat_of_zero_le (Int.le_trans hb1 hb2)
  have hpq : p ≤ q := by omega
  have hql : q ≤ len := by omega
  have e1 : ((q : Int) - (p : Int)).toNat = q - p := by omega
  simp only [Int.toNat_natCast, e1] at hk
  have hlo : ∀ v, lo.map a.eval = some v → ∃ k, v = .int k (p : Int) := fun v hv => by
    obtain ⟨y, hy, rfl⟩ := Option.map_eq_some_iff.1 hv
    subst hy
    have := hr.opd y
    simp only [Option.map_some, boundV] at hpa
    split at hpa
    · rename_i heq; cases heq
    · rename_i k n heq; cases hpa
      simp only [Option.some.injEq] at heq
      rw [heq] at this; exact ⟨k, this.int_inv.1⟩
    · cases hpa
  have hlo0 : lo.map a.eval = none → p = 0 := fun hv => by
    have : lo = none := by simpa using hv
    subst this
    simp [boundV] at hpa; omega
  have hhi : ∀ v, hi.map a.eval = some v → ∃ k, v = .int k (q : Int) := fun v hv => by
    obtain ⟨y, hy, rfl⟩ := Option.map_eq_some_iff.1 hv
    subst hy
    have := hr.opd y
    simp only [Option.map_some, boundV] at hpb
    split at hpb
    · rename_i heq; cases heq
    · rename_i k n heq; cases hpb
      simp only [Option.some.injEq] at heq
      rw [heq] at this; exact ⟨k, this.int_inv.1⟩
    · cases hpb
  have hhi0 : hi.map a.eval = none → q = len := fun hv => by
    have : hi = none := by simpa using hv
    subst this
    simp [boundV] at hpb; omega
  have hx := hr.opd x
  obtain ⟨hmax, hl⟩ := lenOf_ok hr hx hlen
  have hexec : ∀ v, (Instr.sliceAt t (a.eval x) (lo.map a.eval) (hi.map a.eval) none).run C.P w = .ok v w → (execOp a.eval o).run C.P w = .ok (.value v) w := fun v h1 => by
    simp [execOp, ho, h1]
  split at hk
  · rename_i e tn l hop
    rw [hop] at hx hlen
    simp only [lenOfV, Option.some.injEq] at hlen
    cases htn : tnIs C e tn
    case false => simp [htn] at hk
    simp only [htn, cond_true] at hk
    obtain ⟨ao, cap, h1, h2, h3, h4⟩ := hx.sl_inv
    rw [hlen] at h1 h2
    have hrun := slice_run (w := w) hC hu htn hlo hlo0 hhi hhi0 hpq (Nat.le_trans hql h2) (ao := ao)
    rw [← h1] at hrun
    refine does_value (hexec _ hrun) (hr.after ?_ hk)
    by_cases hpq0 : q - p = 0
    · rw [hpq0, List.take_zero]; exact .slE _ _ _ (by omega)
    · rw [if_neg (by omega)]
      rcases h4 with rfl | ⟨b, off, rfl, hbad, hcell⟩
      · simp at hlen; omega
      · simp only [Option.map_some, add_at]
        have hll : ((l.drop p).take (q - p)).length = q - p := by simp; omega
        have := VR.slC (w := w) (ρ := ρ) (bad := Bad outer ρ st.h) tn ((l.drop p).take (q - p)) b (off + p * sz tn) (cap - p)
          (fun i j => (w.cell? (at_ b (off + p * sz tn + i * sz tn + j))).getD undef) hbad (by omega) (by omega)
          (fun i hi j hj => by
            obtain ⟨u, h5, h6⟩ := hcell (p + i) (by omega) j hj
            rw [show off + p * sz tn + i * sz tn + j = off + (p + i) * sz tn + j by rw [Nat.add_mul]; omega, h5]; rfl)
          (fun i hi j hj => by
            obtain ⟨u, h5, h6⟩ := hcell (p + i) (by omega) j hj
            rw [show off + p * sz tn + i * sz tn + j = off + (p + i) * sz tn + j by rw [Nat.add_mul]; omega, h5, Option.getD_some,
              take_drop_get l p (q - p) i (by omega) hi]
            exact h6)
        rw [hll] at this; exact this
  · rename_i s hop
    rw [hop] at hx hlen
    simp only [lenOfV, Option.some.injEq] at hlen
    obtain ⟨h1, h2⟩ := hx.str_inv
    have hs1 : (⟨s.toArray⟩ : ByteArray).size = s.length := by simp [ByteArray.size]
    refine does_value (hexec (.string ⟨((s.drop p).take (q - p)).toArray⟩) ?_) (hr.after (.str _ (by simp; omega)) hk)
    rw [h1]
    have hbr := bounds_run (P := C.P) (w := w) false s.length s.length (lo.map a.eval) (hi.map a.eval) p q hlo hlo0 hhi (by rw [hlen]; exact hhi0) hpq (by omega)
    simp [Instr.sliceAt, run_underlyingC hu, Instr.slice, hs1, hbr, extract_list]
  · rename_i e r hop
    rw [hop] at hx hlen
    split at hk
    case h_2 => cases hk
    rename_i tn l m hrow
    cases htn : tnIs C e tn
    case false => simp [htn] at hk
    simp only [htn, cond_true] at hk
    simp only [lenOfV, hrow, Option.some.injEq] at hlen
    obtain ⟨ri, hρ, hro⟩ := row_of hr hrow
    have hn1 : ri.n = l.length := hro.1
    rcases hx.ow_inv hρ with ⟨h1, h2, h3, h4⟩ | ⟨ao, h1, h2, h3⟩
    · have hrun := slice_run (w := w) hC hu htn hlo hlo0 hhi (fun h => by have := hhi0 h; omega) hpq (show q ≤ ri.cap by omega) (ao := some (at_ ri.b 0)) (len := ri.n)
      rw [← h1] at hrun
      refine does_value (hexec _ hrun) (hr.after (.ov r tn p (q - p) (ri.cap - p) _ ri hρ (by omega) ?_ (by omega) (by omega)) hk)
      by_cases hcp : ri.cap = p
      · left; omega
      · right; rw [if_neg hcp]; refine ⟨?_, h2, by omega⟩
        simp [add_at]
    · have hrun := slice_run (w := w) hC hu htn hlo hlo0 hhi (fun h => by have := hhi0 h; omega) hpq (show q ≤ 0 by omega) (ao := ao) (len := 0)
      rw [← h1] at hrun
      exact does_value (hexec _ hrun) (hr.after (.ov r tn p (q - p) (0 - p) _ ri hρ (by omega) (.inl ⟨by omega, by omega⟩) (by omega) (by unfold maxLen; omega)) hk)
  · rename_i e r tn off len' hop
    rw [hop] at hx hlen
    cases htn : tnIs C e tn
    case false => simp [htn] at hk
    simp only [htn, cond_true] at hk
    simp only [lenOfV, Option.some.injEq] at hlen
    obtain ⟨ri, hρ⟩ := hx.ov_row
    obtain ⟨ao, cap, h1, h2, h3, h4, h5⟩ := hx.ov_inv hρ
    have hrun := slice_run (w := w) hC hu htn hlo hlo0 hhi (fun h => by have := hhi0 h; omega) hpq (show q ≤ cap by omega) (ao := ao) (len := len')
    rw [← h1] at hrun
    have g1 : q - p ≤ cap - p := Nat.sub_le_sub_right (Nat.le_trans hql (by rw [← hlen]; exact h4)) p
    have g2 : cap - p ≤ maxLen := Nat.le_trans (Nat.sub_le _ _) h5
    have g3 : off + p + (q - p) ≤ ri.n := by
      rw [Nat.add_assoc, Nat.add_sub_cancel' hpq]; exact Nat.le_trans (Nat.add_le_add_left (by rw [hlen]; exact hql) off) h2
    refine does_value (hexec _ hrun) (hr.after (.ov r tn (off + p) (q - p) (cap - p) _ ri hρ g3 ?_ g1 g2) hk)
    rcases h3 with ⟨h6, h7⟩ | ⟨rfl, h6, h7⟩
    · left; omega
    · by_cases hcp : cap = p
      · left; omega
      · right; rw [if_neg hcp]; refine ⟨?_, h6, by omega⟩
        simp [add_at, Nat.add_mul]
  · cases hk

end
end Go.D
