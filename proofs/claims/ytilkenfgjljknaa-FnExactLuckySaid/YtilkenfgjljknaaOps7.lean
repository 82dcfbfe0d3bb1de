/-
  One operation, continued: lengths, parts, appends.
-/
import Derived.Test.YtilkenfgjljknaaOps6
namespace Go.D
section
variable {C : Cx} {w0 : World} {outer own : Nat → Prop} {ρ : Nat → Option RI} {st st' : St} {a : Act} {w : World} {h : Nat → Option Row}

theorem args_list {α : Type} {xs : Array α} {l : List α} (h : xs.toList = l) : xs = l.toArray := by subst h; simp

/-- A row moves to another number, its block is written. -/
theorem HRel.move (hh : HRel w0 outer own ρ h w) {r i : Nat} {c : RowC} {ri ri' : RI} (hr : h r = some ⟨c, .own⟩) (hρ : ρ r = some ri) (hn : ri.nl = false) (hi : ρ i = none)
    (hb : ri'.b = ri.b) (hn' : ri'.nl = false) (w' : World)
    (hwx : Wx w w') (hsz : w'.heap.size = w.heap.size) (hw : ∀ b, b ≠ ri.b → w'.heap[b]? = w.heap[b]?) (c' : RowC)
    (hc : ∀ bad, (∀ u d, VR w ρ (Bad outer ρ h) u d → VR w' (upd ρ i (some ri')) bad u d) → RowOk w' (upd ρ i (some ri')) bad ri' c') :
    HRel w0 outer own (upd ρ i (some ri')) (upd (upd h r none) i (some ⟨c', .own⟩)) w' ∧
      ∀ u d, VR w ρ (Bad outer ρ h) u d → VR w' (upd ρ i (some ri')) (Bad outer (upd ρ i (some ri')) (upd (upd h r none) i (some ⟨c', .own⟩))) u d := by
  have hir : i ≠ r := by rintro rfl; simp [hρ] at hi
  have hρ' : ∀ q qi, ρ q = some qi → upd ρ i (some ri') q = some qi := fun q qi hq => by
    rw [upd_other]; exact hq; rintro rfl; simp [hi] at hq
  have hbr : Bad outer ρ h ri.b := .inr ⟨r, _, ri, hr, rfl, hρ, hn, rfl⟩
  have hrow : ∀ q row, q ≠ i → upd (upd h r none) i (some ⟨c', .own⟩) q = some row → q ≠ r ∧ h q = some row := fun q row hqi hq => by
    rw [upd_other _ _ _ _ hqi] at hq
    by_cases hqr : q = r
    · subst hqr; rw [upd_same] at hq; cases hq
    · rw [upd_other _ _ _ _ hqr] at hq; exact ⟨hqr, hq⟩
  have hbad : ∀ b, Bad outer (upd ρ i (some ri')) (upd (upd h r none) i (some ⟨c', .own⟩)) b → Bad outer ρ h b := by
    rintro b (hb' | ⟨q, row, qi, h1, h2, h3, h4, h5⟩)
    · exact .inl hb'
    · by_cases hq : q = i
      · subst hq; rw [upd_same] at h3; cases h3
        rw [← h5, hb]; exact hbr
      · rw [upd_other _ _ _ _ hq] at h3
        exact .inr ⟨q, row, qi, (hrow q row hq h1).2, h2, h3, h4, h5⟩
  have hv : ∀ u d, VR w ρ (Bad outer ρ h) u d → VR w' (upd ρ i (some ri')) (Bad outer (upd ρ i (some ri')) (upd (upd h r none) i (some ⟨c', .own⟩))) u d := fun u d hu =>
    hu.mono hρ' (fun b hb _ => hw b fun e => hb (e ▸ hbr)) fun b hb => .inl (hbad b hb)
  obtain ⟨ri2, h6, _, h7⟩ := hh.rows r _ hr
  rw [hρ] at h6; cases h6
  refine ⟨⟨hh.wx.trans hwx, fun b hb' ho => ?_, hh.outLt, ?_, ?_⟩, hv⟩
  · refine (hw b ?_).trans (hh.old b hb' ho)
    rintro rfl
    rcases (h7 hn).1.2 rfl with h8 | h8
    · omega
    · exact ho h8
  · intro q row hq
    by_cases hqi : q = i
    · subst hqi; rw [upd_same] at hq; cases hq
      exact ⟨ri', upd_same _ _ _, hc _ hv, fun _ => by rw [hb, hsz]; exact h7 hn⟩
    · obtain ⟨hqr, hq⟩ := hrow q row hqi hq
      obtain ⟨qi, h1, h2, h3⟩ := hh.rows q row hq
      refine ⟨qi, hρ' q qi h1, h2.keep (fun hnq => hw _ ?_) hv, fun hnq => by rw [hsz]; exact h3 hnq⟩
      intro e; exact hqr (hh.inj q r row _ qi ri hq hr h1 hρ hnq hn e)
  · intro q q' row row' qi qi' h1 h2 h3 h4 h5 h6 h7
    by_cases hq : q = i <;> by_cases hq' : q' = i
    · rw [hq, hq']
    · subst hq; rw [upd_same] at h3; cases h3
      obtain ⟨hqr, h2⟩ := hrow q' row' hq' h2
      rw [upd_other _ _ _ _ hq'] at h4
      exact absurd (hh.inj q' r row' _ qi' ri h2 hr h4 hρ h6 hn (by rw [← h7, hb])) hqr
    · subst hq'; rw [upd_same] at h4; cases h4
      obtain ⟨hqr, h1⟩ := hrow q row hq h1
      rw [upd_other _ _ _ _ hq] at h3
      exact absurd (hh.inj q r row _ qi ri h1 hr h3 hρ h5 hn (by rw [h7, hb])) hqr
    · obtain ⟨_, h1⟩ := hrow q row hq h1
      obtain ⟨_, h2⟩ := hrow q' row' hq' h2
      rw [upd_other _ _ _ _ hq] at h3; rw [upd_other _ _ _ _ hq'] at h4
      exact hh.inj q q' row row' qi qi' h1 h2 h3 h4 h5 h6 h7

variable {o : Oper} {i : Nat} (hr : Rel C w0 outer own ρ st a w)

theorem len_fits {n : Nat} (h : n ≤ maxLen) : Fits .i64 (n : Int) := by
  unfold maxLen at h
  simp only [Fits, IntKind.min, IntKind.max, IntKind.signed, IntKind.bits]; simp; omega

include hr

theorem lenOf_ok {d : V} {v : Value} {n : Nat} (hv : VR w ρ (Bad outer ρ st.h) v d) (hn : lenOfV st.h d = some n) :
    n ≤ maxLen ∧ ((∃ ao cap, v = .slice ao n cap ∧ n ≤ cap) ∨ ∃ s, d = .str s ∧ v = .string ⟨s.toArray⟩ ∧ n = s.length) := by
  unfold lenOfV at hn
  split at hn
  · cases hn
    obtain ⟨ao, cap, h1, h2, h3, _⟩ := hv.sl_inv
    exact ⟨Nat.le_trans h2 h3, .inl ⟨ao, cap, h1, h2⟩⟩
  · cases hn
    cases hv
    exact ⟨Nat.zero_le _, .inl ⟨none, 0, rfl, Nat.le_refl _⟩⟩
  · cases hn
    obtain ⟨h1, h2⟩ := hv.str_inv
    exact ⟨h2, .inr ⟨_, rfl, h1, rfl⟩⟩
  · split at hn
    case h_2 => cases hn
    rename_i t l m hrow
    cases hn
    obtain ⟨ri, hρ, hro⟩ := row_of hr hrow
    have hn1 : ri.n = l.length := hro.1
    rcases hv.ow_inv hρ with ⟨h1, h2, h3, h4⟩ | ⟨ao, h1, h2, h3⟩
    · rw [← hn1]; exact ⟨Nat.le_trans h3 h4, .inl ⟨_, _, h1, h3⟩⟩
    · rw [← hn1, h3]; exact ⟨Nat.zero_le _, .inl ⟨_, _, h1, Nat.le_refl _⟩⟩
  · cases hn
    obtain ⟨ri, hρ⟩ := hv.ov_row
    obtain ⟨ao, cap, h1, _, _, h2, h3⟩ := hv.ov_inv hρ
    exact ⟨Nat.le_trans h2 h3, .inl ⟨ao, cap, h1, h2⟩⟩
  · cases hn

theorem ok_len (args : Array Operand) (argTypes : Array TypeId) (ho : o.op = .call { callee := .builtin .len, args, argTypes }) (hk : stepK C i o st some = some st') : Does C.P o a w (After C w0 outer own i ρ st') := by
  simp only [stepK, ho] at hk
  split at hk
  case h_2 => cases hk
  rename_i x t hargs htys
  split at hk
  case h_2 => cases hk
  rename_i d n hu hlen
  cases hkind : lenKind d (opd st.s x)
  case false => simp [hkind] at hk
  simp only [hkind, cond_true] at hk
  obtain ⟨hmax, hl⟩ := lenOf_ok hr (hr.opd x) hlen
  have e1 := args_list hargs
  have e2 := args_list htys
  subst e1 e2
  refine does_value (v := .int .i64 (n : Int)) (w' := w) ?_ (hr.after (.int _ _ (len_fits hmax)) hk)
  rcases hl with ⟨ao, cap, h1, _⟩ | ⟨s, h0, h1, h2⟩
  · have hd : ∃ e, d = .slice e := by
      unfold lenKind at hkind
      split at hkind <;> first | exact ⟨_, rfl⟩ | skip
      · rename_i s hop
        have := hr.opd x
        rw [hop] at this
        rw [this.str_inv.1] at h1; cases h1
      · cases hkind
    obtain ⟨e, rfl⟩ := hd
    simp [execOp, ho, resolve, invoke, builtin, Builtin.len_, run_underlyingC hu, h1, goInt]
  · have hd : d = .string := by
      rw [h0] at hkind
      unfold lenKind at hkind
      split at hkind <;> first | rfl | (rename_i hh; cases hh) | cases hkind
    subst hd
    have hs1 : (⟨s.toArray⟩ : ByteArray).size = s.length := by simp [ByteArray.size]
    simp [execOp, ho, resolve, invoke, builtin, Builtin.len_, run_underlyingC hu, h1, h2, hs1, goInt]

theorem ok_min (args : Array Operand) (argTypes : Array TypeId) (ho : o.op = .call { callee := .builtin .min, args, argTypes }) (hk : stepK C i o st some = some st') : Does C.P o a w (After C w0 outer own i ρ st') := by
  simp only [stepK, ho] at hk
  split at hk
  case h_2 => cases hk
  rename_i k p k' q hargs
  by_cases hkk : k = k'
  case neg => simp [hkk] at hk
  subst hkk
  simp only [decide_true, cond_true] at hk
  obtain ⟨x, xs, hxs, h1, h2⟩ := List.map_eq_cons_iff.1 hargs
  obtain ⟨y, ys, hys, h3, h4⟩ := List.map_eq_cons_iff.1 h2
  have h5 := List.map_eq_nil_iff.1 h4
  subst h5 hys
  have e1 := args_list hxs
  subst e1
  have hx := hr.opd x; rw [h1] at hx
  have hy := hr.opd y; rw [h3] at hy
  refine does_value (v := .int k (if q < p then q else p)) (w' := w) ?_ (hr.after (.int _ _ (by split; exact hy.int_inv.2; exact hx.int_inv.2)) hk)
  simp [execOp, ho, resolve, invoke, builtin, Builtin.min_, hx.int_inv.1, hy.int_inv.1, Builtin.min2]

theorem ok_max (args : Array Operand) (argTypes : Array TypeId) (ho : o.op = .call { callee := .builtin .max, args, argTypes }) (hk : stepK C i o st some = some st') : Does C.P o a w (After C w0 outer own i ρ st') := by
  simp only [stepK, ho] at hk
  split at hk
  case h_2 => cases hk
  rename_i k p k' q hargs
  by_cases hkk : k = k'
  case neg => simp [hkk] at hk
  subst hkk
  simp only [decide_true, cond_true] at hk
  obtain ⟨x, xs, hxs, h1, h2⟩ := List.map_eq_cons_iff.1 hargs
  obtain ⟨y, ys, hys, h3, h4⟩ := List.map_eq_cons_iff.1 h2
  have h5 := List.map_eq_nil_iff.1 h4
  subst h5 hys
  have e1 := args_list hxs
  subst e1
  have hx := hr.opd x; rw [h1] at hx
  have hy := hr.opd y; rw [h3] at hy
  refine does_value (v := .int k (if q > p then q else p)) (w' := w) ?_ (hr.after (.int _ _ (by split; exact hy.int_inv.2; exact hx.int_inv.2)) hk)
  simp [execOp, ho, resolve, invoke, builtin, Builtin.max_, hx.int_inv.1, hy.int_inv.1, Builtin.max2]

end
end Go.D
