/-
  The plain state and the state of the machine: when they agree, and how they go on agreeing.
-/
import Derived.Test.YtilkenfgjljknaaRel
import Derived.Test.YtilkenfgjljknaaStep
import Derived.Deep.AppendSrc
namespace Go.D

def Mode.isRo : Mode → Bool
  | .ro => true
  | _ => false

structure Wx (w0 w : World) : Prop where
  os : w.os = w0.os
  tape : w.tape = w0.tape
  output : w.output = w0.output
  size : w0.heap.size ≤ w.heap.size

theorem Wx.refl (w : World) : Wx w w := ⟨rfl, rfl, rfl, Nat.le_refl _⟩
theorem Wx.trans {a b c : World} (h : Wx a b) (k : Wx b c) : Wx a c := ⟨k.os.trans h.os, k.tape.trans h.tape, k.output.trans h.output, Nat.le_trans h.size k.size⟩

/-- What lies in a row's block. -/
def RowOk (w : World) (ρ : Nat → Option RI) (bad : Nat → Prop) (ri : RI) : RowC → Prop
  | .box cs => ri.nl = false ∧ ∀ j (h : j < cs.length), w.frozen? (at_ ri.b j) = false ∧ ∃ u, w.cell? (at_ ri.b j) = some u ∧ VR w ρ bad u cs[j]
  | .arr t l => ri.n = l.length ∧ (ri.nl = true ∧ l = [] ∨ ri.nl = false ∧ ri.n ≤ ri.cap ∧ ri.cap ≤ maxLen ∧
      (∀ j, j < ri.cap * sz t → w.frozen? (at_ ri.b j) = false ∧ (w.cell? (at_ ri.b j)).isSome = true) ∧
      ∀ i (h : i < l.length) j, j < sz t → ∃ u, w.cell? (at_ ri.b (i * sz t + j)) = some u ∧ VR w ρ bad u ((enc t l[i]).getD j .undef))

/-- The blocks that what is frozen keeps clear of. -/
def Bad (outer : Nat → Prop) (ρ : Nat → Option RI) (h : Nat → Option Row) (b : Nat) : Prop :=
  outer b ∨ ∃ r row ri, h r = some row ∧ row.m.isRo = false ∧ ρ r = some ri ∧ ri.nl = false ∧ ri.b = b

/-- The heap of rows and memory. 'w0': memory as the call began. 'own': what of it the call may write. -/
structure HRel (w0 : World) (outer own : Nat → Prop) (ρ : Nat → Option RI) (h : Nat → Option Row) (w : World) : Prop where
  wx : Wx w0 w
  old : ∀ b, b < w0.heap.size → ¬ own b → w.heap[b]? = w0.heap[b]?
  outLt : ∀ b, outer b → b < w0.heap.size ∧ ¬ own b
  rows : ∀ r row, h r = some row → ∃ ri, ρ r = some ri ∧ RowOk w ρ (Bad outer ρ h) ri row.c ∧
    (ri.nl = false → (¬ outer ri.b ∧ (row.m.isRo = false → w0.heap.size ≤ ri.b ∨ own ri.b)) ∧ ri.b < w.heap.size)
  inj : ∀ r r' row row' ri ri', h r = some row → h r' = some row' → ρ r = some ri → ρ r' = some ri' → ri.nl = false → ri'.nl = false → ri.b = ri'.b → r = r'

structure Rel (C : Cx) (w0 : World) (outer own : Nat → Prop) (ρ : Nat → Option RI) (st : St) (a : Act) (w : World) : Prop where
  heap : HRel w0 outer own ρ st.h w
  slots : ∀ i, VR w ρ (Bad outer ρ st.h) (a.tmps.getD i undef) (st.s i)
  size : a.tmps.size = C.nt
  defers : a.defers = []

section
variable {C : Cx} {w0 : World} {outer own : Nat → Prop} {ρ : Nat → Option RI} {st : St} {a : Act} {w : World} {h : Nat → Option Row}

theorem upd_same {α : Type} (f : Nat → α) (i : Nat) (v : α) : upd f i v i = v := by simp [upd]
theorem upd_other {α : Type} (f : Nat → α) (i j : Nat) (v : α) (h : j ≠ i) : upd f i v j = f j := by
  simp only [upd]
  have : Nat.beq j i = false := by
    cases hb : Nat.beq j i with
    | false => rfl
    | true => exact absurd (Nat.eq_of_beq_eq_true hb) h
  rw [this]; rfl

/-! ### Slots -/

theorem getD_put (a : Act) (d : Nat) (v : Value) (hd : d < a.tmps.size) (i : Nat) :
    (a.put (some d) v).tmps.getD i undef = if i = d then v else a.tmps.getD i undef := by
  simp only [Act.put, Array.getD_eq_getD_getElem?, Array.getElem?_setIfInBounds]
  by_cases h : d = i
  · subst h; simp [hd]
  · simp [h, Ne.symm h]

theorem Rel.put (hr : Rel C w0 outer own ρ st a w) {dst : Option Nat} {v : Value} {d : V} (hv : VR w ρ (Bad outer ρ st.h) v d) {st' : St}
    (hk : putK C dst st d some = some st') : Rel C w0 outer own ρ st' (a.put dst v) w ∧ st'.h = st.h ∧ st'.nx = st.nx := by
  cases dst with
  | none => simp [putK] at hk; subst hk; exact ⟨hr, rfl, rfl⟩
  | some k =>
    simp only [putK] at hk
    cases hb : Nat.blt k C.nt with
    | false => simp [hb] at hk
    | true =>
      simp [hb] at hk; subst hk
      have hlt : k < a.tmps.size := by rw [hr.size]; simpa [Nat.blt_eq] using hb
      refine ⟨⟨hr.heap, fun i => ?_, by simp [Act.put, hr.size], hr.defers⟩, rfl, rfl⟩
      rw [getD_put a k v hlt i]
      show VR w ρ _ _ (upd st.s k d i)
      by_cases h : i = k
      · subst h; rw [if_pos rfl, upd_same]; exact hv
      · rw [if_neg h, upd_other _ _ _ _ h]; exact hr.slots i

/-! ### Memory that turns -/

theorem Bad.mono {h' : Nat → Option Row} {b : Nat} (hs : ∀ r row', h' r = some row' → row'.m.isRo = false → ∃ row, h r = some row ∧ row.m.isRo = false)
    (hb : Bad outer ρ h' b) : Bad outer ρ h b := by
  rcases hb with hb | ⟨r, row', ri, h1, h2, h3, h4, h5⟩
  · exact .inl hb
  · obtain ⟨row, h6, h7⟩ := hs r row' h1 h2
    exact .inr ⟨r, row, ri, h6, h7, h3, h4, h5⟩

theorem HRel.bad_lt (hh : HRel w0 outer own ρ h w) {b : Nat} (hb : Bad outer ρ h b) : b < w.heap.size := by
  rcases hb with hb | ⟨r, row, ri, h1, h2, h3, h4, h5⟩
  · exact Nat.lt_of_lt_of_le (hh.outLt b hb).1 hh.wx.size
  · obtain ⟨ri', h6, _, h7⟩ := hh.rows r row h1
    rw [h3] at h6; cases h6
    rw [← h5]; exact (h7 h4).2

theorem RowOk.keep {w' : World} {ρ' : Nat → Option RI} {bad bad' : Nat → Prop} {ri : RI} {c : RowC} (hr : RowOk w ρ bad ri c)
    (hw : ri.nl = false → w'.heap[ri.b]? = w.heap[ri.b]?)
    (hv : ∀ u d, VR w ρ bad u d → VR w' ρ' bad' u d) : RowOk w' ρ' bad' ri c := by
  cases c with
  | box cs =>
    refine ⟨hr.1, fun j hj => ?_⟩
    obtain ⟨h1, u, h2, h3⟩ := hr.2 j hj
    have hb := hw hr.1
    exact ⟨by rw [← h1]; simp [World.frozen?, at_, hb], u, by rw [← h2]; exact cell?_same hb, hv _ _ h3⟩
  | arr t l =>
    refine ⟨hr.1, ?_⟩
    rcases hr.2 with h | ⟨h0, h1, h2, h3, h4⟩
    · exact .inl h
    · have hb := hw h0
      refine .inr ⟨h0, h1, h2, fun j hj => ?_, fun i hi j hj => ?_⟩
      · have := h3 j hj
        exact ⟨by rw [← this.1]; simp [World.frozen?, at_, hb], by rw [← this.2]; congr 1; exact cell?_same hb⟩
      · obtain ⟨u, h5, h6⟩ := h4 i hi j hj
        exact ⟨u, by rw [← h5]; exact cell?_same hb, hv _ _ h6⟩

/-- A new block becomes a new row. -/
theorem HRel.alloc (hh : HRel w0 outer own ρ h w) (r : Nat) (hr : ρ r = none) (ri : RI) (hb : ri.nl = false → ri.b = w.heap.size) (w' : World) (hwx : Wx w w')
    (hw : ∀ b, b < w.heap.size → w'.heap[b]? = w.heap[b]?) (hsz : ri.nl = false → w.heap.size < w'.heap.size) (c : RowC)
    (hc : (∀ u d, VR w ρ (Bad outer ρ h) u d → VR w' (upd ρ r (some ri)) (Bad outer (upd ρ r (some ri)) (upd h r (some ⟨c, .own⟩))) u d) →
      RowOk w' (upd ρ r (some ri)) (Bad outer (upd ρ r (some ri)) (upd h r (some ⟨c, .own⟩))) ri c) :
    HRel w0 outer own (upd ρ r (some ri)) (upd h r (some ⟨c, .own⟩)) w' ∧
      ∀ u d, VR w ρ (Bad outer ρ h) u d → VR w' (upd ρ r (some ri)) (Bad outer (upd ρ r (some ri)) (upd h r (some ⟨c, .own⟩))) u d := by
  have hρ : ∀ q qi, ρ q = some qi → upd ρ r (some ri) q = some qi := fun q qi hq => by
    rw [upd_other]; exact hq; rintro rfl; simp [hr] at hq
  have hh' : ∀ q row, h q = some row → q ≠ r := fun q row hq => by
    rintro rfl; obtain ⟨qi, h1, _⟩ := hh.rows q row hq; simp [hr] at h1
  have hbad : ∀ b, Bad outer (upd ρ r (some ri)) (upd h r (some ⟨c, .own⟩)) b → Bad outer ρ h b ∨ w.heap.size ≤ b := by
    rintro b (hb' | ⟨q, row, qi, h1, h2, h3, h4, h5⟩)
    · exact .inl (.inl hb')
    · by_cases hq : q = r
      · subst hq; rw [upd_same] at h3; cases h3
        right; rw [← h5, hb h4]; exact Nat.le_refl _
      · rw [upd_other _ _ _ _ hq] at h1 h3
        exact .inl (.inr ⟨q, row, qi, h1, h2, h3, h4, h5⟩)
  have hv : ∀ u d, VR w ρ (Bad outer ρ h) u d → VR w' (upd ρ r (some ri)) (Bad outer (upd ρ r (some ri)) (upd h r (some ⟨c, .own⟩))) u d := fun u d hu =>
    hu.mono hρ (fun b _ hb => hw b hb) hbad
  refine ⟨⟨hh.wx.trans hwx, fun b hb ho => (hw b (Nat.lt_of_lt_of_le hb hh.wx.size)).trans (hh.old b hb ho), hh.outLt, ?_, ?_⟩, hv⟩
  · intro q row hq
    by_cases hqr : q = r
    · subst hqr; rw [upd_same] at hq; cases hq
      refine ⟨ri, upd_same _ _ _, hc hv, fun hn => ?_⟩
      rw [hb hn]; exact ⟨⟨fun ho => by have := (hh.outLt _ ho).1; have := hh.wx.size; omega, fun _ => .inl hh.wx.size⟩, hsz hn⟩
    · rw [upd_other _ _ _ _ hqr] at hq
      obtain ⟨qi, h1, h2, h3⟩ := hh.rows q row hq
      refine ⟨qi, hρ q qi h1, h2.keep (fun hn => hw _ (h3 hn).2) hv, fun hn => ⟨(h3 hn).1, Nat.lt_of_lt_of_le (h3 hn).2 hwx.size⟩⟩
  · intro q q' row row' qi qi' h1 h2 h3 h4 h5 h6 h7
    by_cases hq : q = r <;> by_cases hq' : q' = r
    · rw [hq, hq']
    · subst hq; rw [upd_same] at h3; cases h3
      rw [upd_other _ _ _ _ hq'] at h2 h4
      obtain ⟨qi'', h8, _, h9⟩ := hh.rows q' row' h2
      rw [h4] at h8; cases h8
      have := (h9 h6).2; rw [← h7, hb h5] at this; omega
    · subst hq'; rw [upd_same] at h4; cases h4
      rw [upd_other _ _ _ _ hq] at h1 h3
      obtain ⟨qi'', h8, _, h9⟩ := hh.rows q row h1
      rw [h3] at h8; cases h8
      have := (h9 h5).2; rw [h7, hb h6] at this; omega
    · rw [upd_other _ _ _ _ hq] at h1 h3; rw [upd_other _ _ _ _ hq'] at h2 h4
      exact hh.inj q q' row row' qi qi' h1 h2 h3 h4 h5 h6 h7

/-- A row of the call's own is written. -/
theorem HRel.write (hh : HRel w0 outer own ρ h w) {r : Nat} {c : RowC} {ri : RI} (hr : h r = some ⟨c, .own⟩) (hρ : ρ r = some ri) (hn : ri.nl = false) (w' : World)
    (hwx : Wx w w') (hsz : w'.heap.size = w.heap.size) (hw : ∀ b, b ≠ ri.b → w'.heap[b]? = w.heap[b]?) (c' : RowC)
    (hc : (∀ u d, VR w ρ (Bad outer ρ h) u d → VR w' ρ (Bad outer ρ (upd h r (some ⟨c', .own⟩))) u d) → RowOk w' ρ (Bad outer ρ (upd h r (some ⟨c', .own⟩))) ri c') :
    HRel w0 outer own ρ (upd h r (some ⟨c', .own⟩)) w' ∧ ∀ u d, VR w ρ (Bad outer ρ h) u d → VR w' ρ (Bad outer ρ (upd h r (some ⟨c', .own⟩))) u d := by
  have hbr : Bad outer ρ h ri.b := .inr ⟨r, _, ri, hr, rfl, hρ, hn, rfl⟩
  have hbad : ∀ b, Bad outer ρ (upd h r (some ⟨c', .own⟩)) b → Bad outer ρ h b := fun b hb => hb.mono fun q row' h1 h2 => by
    by_cases hq : q = r
    · subst hq; exact ⟨_, hr, rfl⟩
    · rw [upd_other _ _ _ _ hq] at h1; exact ⟨row', h1, h2⟩
  have hv : ∀ u d, VR w ρ (Bad outer ρ h) u d → VR w' ρ (Bad outer ρ (upd h r (some ⟨c', .own⟩))) u d := fun u d hu =>
    hu.mono (fun _ _ h => h) (fun b hb _ => hw b fun e => hb (e ▸ hbr)) fun b hb => .inl (hbad b hb)
  obtain ⟨ri', h6, _, h7⟩ := hh.rows r _ hr
  rw [hρ] at h6; cases h6
  refine ⟨⟨hh.wx.trans hwx, fun b hb ho => ?_, hh.outLt, ?_, ?_⟩, hv⟩
  · refine (hw b ?_).trans (hh.old b hb ho)
    rintro rfl
    rcases (h7 hn).1.2 rfl with h8 | h8
    · omega
    · exact ho h8
  · intro q row hq
    by_cases hqr : q = r
    · subst hqr; rw [upd_same] at hq; cases hq
      exact ⟨ri, hρ, hc hv, fun _ => by rw [hsz]; exact h7 hn⟩
    · rw [upd_other _ _ _ _ hqr] at hq
      obtain ⟨qi, h1, h2, h3⟩ := hh.rows q row hq
      refine ⟨qi, h1, h2.keep (fun hnq => hw _ ?_) hv, fun hnq => by rw [hsz]; exact h3 hnq⟩
      intro e; exact hqr (hh.inj q r row _ qi ri hq hr h1 hρ hnq hn e)
  · intro q q' row row' qi qi' h1 h2 h3 h4 h5 h6 h7
    have : ∀ x y, upd h r (some ⟨c', .own⟩) x = some y → ∃ z, h x = some z := fun x y hx => by
      by_cases hq : x = r
      · subst hq; exact ⟨_, hr⟩
      · rw [upd_other _ _ _ _ hq] at hx; exact ⟨_, hx⟩
    obtain ⟨z, hz⟩ := this _ _ h1; obtain ⟨z', hz'⟩ := this _ _ h2
    exact hh.inj q q' z z' qi qi' hz hz' h3 h4 h5 h6 h7

/-- Fewer rows, or rows that nobody writes any more. -/
theorem HRel.less (hh : HRel w0 outer own ρ h w) {h' : Nat → Option Row} (hs : ∀ r row', h' r = some row' → ∃ row, h r = some row ∧ row.c = row'.c ∧ (row'.m.isRo = false → row.m.isRo = false)) :
    HRel w0 outer own ρ h' w ∧ ∀ u d, VR w ρ (Bad outer ρ h) u d → VR w ρ (Bad outer ρ h') u d := by
  have hbad : ∀ b, Bad outer ρ h' b → Bad outer ρ h b := fun b hb => hb.mono fun q row' h1 h2 => by
    obtain ⟨row, h3, _, h4⟩ := hs q row' h1; exact ⟨row, h3, h4 h2⟩
  have hv : ∀ u d, VR w ρ (Bad outer ρ h) u d → VR w ρ (Bad outer ρ h') u d := fun u d hu => hu.mono (fun _ _ h => h) (fun _ _ _ => rfl) fun b hb => .inl (hbad b hb)
  refine ⟨⟨hh.wx, hh.old, hh.outLt, fun r row' hr => ?_, fun q q' row row' qi qi' h1 h2 h3 h4 h5 h6 h7 => ?_⟩, hv⟩
  · obtain ⟨row, h1, h2, h6⟩ := hs r row' hr
    obtain ⟨ri, h3, h4, h5⟩ := hh.rows r row h1
    exact ⟨ri, h3, by rw [← h2]; exact h4.keep (fun _ => rfl) hv, fun hn => ⟨⟨(h5 hn).1.1, fun hm => (h5 hn).1.2 (h6 hm)⟩, (h5 hn).2⟩⟩
  · obtain ⟨z, hz, _⟩ := hs _ _ h1; obtain ⟨z', hz', _⟩ := hs _ _ h2
    exact hh.inj q q' z z' qi qi' hz hz' h3 h4 h5 h6 h7

/-- The tape is asked. -/
theorem HRel.world (hh : HRel w0 outer own ρ h w) {w' : World} (hwx : Wx w w') (hheap : w'.heap = w.heap) :
    HRel w0 outer own ρ h w' ∧ ∀ u d, VR w ρ (Bad outer ρ h) u d → VR w' ρ (Bad outer ρ h) u d := by
  have hv : ∀ u d, VR w ρ (Bad outer ρ h) u d → VR w' ρ (Bad outer ρ h) u d := fun u d hu => hu.mono (fun _ _ h => h) (fun _ _ _ => by rw [hheap]) fun b hb => .inl hb
  refine ⟨⟨hh.wx.trans hwx, fun b hb ho => by rw [hheap]; exact hh.old b hb ho, hh.outLt, fun r row hr => ?_, hh.inj⟩, hv⟩
  obtain ⟨ri, h1, h2, h3⟩ := hh.rows r row hr
  exact ⟨ri, h1, h2.keep (fun _ => by rw [hheap]) hv, fun hn => by rw [hheap]; exact h3 hn⟩

end
end Go.D
