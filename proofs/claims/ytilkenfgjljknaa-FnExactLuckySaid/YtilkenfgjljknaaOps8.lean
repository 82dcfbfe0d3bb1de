/-
  One operation, continued: appends.
-/
import Derived.Test.YtilkenfgjljknaaOps7
import Derived.Deep.Upon
namespace Go.D
section
variable {C : Cx} {w0 : World} {outer own : Nat → Prop} {ρ : Nat → Option RI} {st st' : St} {a : Act} {w : World} {h : Nat → Option Row}

/-- Cells in a row that read as the elements of a list. -/
def ElemsAt (w : World) (ρ : Nat → Option RI) (bad : Nat → Prop) (t : TN) (l : List (El t)) (cs : List Value) : Prop :=
  cs.length = l.length * sz t ∧ ∀ i (hi : i < l.length) j, j < sz t → ∃ u, cs[i * sz t + j]? = some u ∧ VR w ρ bad u ((enc t l[i]).getD j .undef)

theorem div_mod_lt {n k m : Nat} (hm : 0 < m) (h : k < n * m) : k / m < n ∧ k % m < m ∧ k / m * m + k % m = k :=
  ⟨(Nat.div_lt_iff_lt_mul hm).2 h, Nat.mod_lt _ hm, by rw [Nat.mul_comm]; exact Nat.div_add_mod k m⟩

theorem ElemsAt.one {bad : Nat → Prop} {t : TN} {l : List (El t)} {cs : List Value} (h : ElemsAt w ρ bad t l cs) : ∀ u ∈ cs, u.oneCell' = true := by
  intro u hu
  obtain ⟨k, hk, rfl⟩ := List.mem_iff_getElem.1 hu
  obtain ⟨h1, h2, h3⟩ := div_mod_lt (sz_pos t) (by rw [← h.1]; exact hk)
  obtain ⟨u, h4, h5⟩ := h.2 _ h1 _ h2
  rw [h3, List.getElem?_eq_getElem hk] at h4
  cases h4
  exact h5.one (enc_getD_leaf _ _ _ h2)

/-- The cells of memory from an address on, as a list. -/
def cellsFrom (w : World) (b off n : Nat) : List Value := (List.range n).map fun k => (w.cell? (at_ b (off + k))).getD undef

theorem cellsFrom_len (w : World) (b off n : Nat) : (cellsFrom w b off n).length = n := by simp [cellsFrom]

theorem cellsFrom_get (w : World) (b off n k : Nat) (hk : k < n) : (cellsFrom w b off n)[k]? = some ((w.cell? (at_ b (off + k))).getD undef) := by
  simp [cellsFrom, hk]

theorem elems_from {bad : Nat → Prop} {t : TN} {l : List (El t)} {b off : Nat}
    (hv : ∀ i (hi : i < l.length) j, j < sz t → ∃ u, w.cell? (at_ b (off + i * sz t + j)) = some u ∧ VR w ρ bad u ((enc t l[i]).getD j .undef)) :
    ElemsAt w ρ bad t l (cellsFrom w b off (l.length * sz t)) ∧ ∀ j u, (cellsFrom w b off (l.length * sz t))[j]? = some u → w.cell? ((at_ b off).add j) = some u := by
  refine ⟨⟨cellsFrom_len _ _ _ _, fun i hi j hj => ?_⟩, fun k u hk => ?_⟩
  · obtain ⟨u, h1, h2⟩ := hv i hi j hj
    have hlt : i * sz t + j < l.length * sz t := by
      have : (i + 1) * sz t ≤ l.length * sz t := Nat.mul_le_mul_right _ hi
      rw [Nat.add_mul, Nat.one_mul] at this; omega
    refine ⟨u, ?_, h2⟩
    rw [cellsFrom_get _ _ _ _ _ hlt, ← Nat.add_assoc, h1]; rfl
  · have hlt : k < l.length * sz t := by
      rcases Nat.lt_or_ge k (l.length * sz t) with h | h
      · exact h
      · rw [List.getElem?_eq_none (by rw [cellsFrom_len]; exact h)] at hk; cases hk
    obtain ⟨h1, h2, h3⟩ := div_mod_lt (sz_pos t) hlt
    obtain ⟨u', h4, _⟩ := hv _ h1 _ h2
    rw [Nat.add_assoc, h3] at h4
    rw [cellsFrom_get _ _ _ _ _ hlt, h4] at hk
    rw [add_at, h4]; exact hk

theorem take_drop_get {α : Type} (l : List α) (off len i : Nat) (h : off + len ≤ l.length) (hi : i < ((l.drop off).take len).length) : ((l.drop off).take len)[i] = l[off + i]'(by simp at hi; omega) := by simp

variable {o : Oper} {i : Nat} (hr : Rel C w0 outer own ρ st a w)
include hr

/-- The elements of a slice, as they lie. -/
theorem elems_at {tn : TN} {v : Value} {d : V} {m : List (El tn)} (hv : VR w ρ (Bad outer ρ st.h) v d) (hm : elemsOf st.h tn d = some m) :
    ∃ ao cap, v = .slice ao m.length cap ∧ (m = [] ∨ ∃ b off, ao = some (at_ b off) ∧
      ∀ i (hi : i < m.length) j, j < sz tn → ∃ u, w.cell? (at_ b (off + i * sz tn + j)) = some u ∧ VR w ρ (Bad outer ρ st.h) u ((enc tn m[i]).getD j .undef)) := by
  have mk : ∀ (ao : Option Addr) (cap : Nat), v = .slice ao m.length cap → (m = [] ∨ ∃ b off, ao = some (at_ b off) ∧
      ∀ i (hi : i < m.length) j, j < sz tn → ∃ u, w.cell? (at_ b (off + i * sz tn + j)) = some u ∧ VR w ρ (Bad outer ρ st.h) u ((enc tn m[i]).getD j .undef)) →
      ∃ ao cap, v = .slice ao m.length cap ∧ (m = [] ∨ ∃ b off, ao = some (at_ b off) ∧
      ∀ i (hi : i < m.length) j, j < sz tn → ∃ u, w.cell? (at_ b (off + i * sz tn + j)) = some u ∧ VR w ρ (Bad outer ρ st.h) u ((enc tn m[i]).getD j .undef)) := fun ao cap h1 h2 => ⟨ao, cap, h1, h2⟩
  unfold elemsOf at hm
  split at hm
  · rename_i t' l
    split at hm
    case isFalse => cases hm
    rename_i e1
    subst e1
    simp only [cast_rfl, Option.some.injEq] at hm
    subst hm
    obtain ⟨ao, cap, h1, _, _, h4⟩ := hv.sl_inv
    refine mk ao cap h1 ?_
    rcases h4 with h4 | ⟨b, off, h5, _, h6⟩
    · exact .inl h4
    · exact .inr ⟨b, off, h5, h6⟩
  · cases hm
    cases hv
    exact mk none 0 rfl (.inl rfl)
  · rename_i r
    split at hm
    case h_2 => cases hm
    rename_i t' l mo hrow
    split at hm
    case isFalse => cases hm
    rename_i e1
    subst e1
    simp only [cast_rfl, Option.some.injEq] at hm
    subst hm
    obtain ⟨ri, hρ, hro⟩ := row_of hr hrow
    have hn1 : ri.n = l.length := hro.1
    rcases hv.ow_inv hρ with ⟨h1, h2, h3, h4⟩ | ⟨ao, h1, h2, h3⟩
    · refine mk _ ri.cap (by rw [← hn1]; exact h1) ?_
      rcases hro.2 with h5 | ⟨_, _, _, _, h6⟩
      · exact .inl h5.2
      · exact .inr ⟨ri.b, 0, rfl, fun i hi j hj => by rw [Nat.zero_add]; exact h6 i hi j hj⟩
    · have : l = [] := List.eq_nil_of_length_eq_zero (by omega)
      exact mk ao 0 (by rw [this]; exact h1) (.inl this)
  · rename_i r t0 off len
    split at hm
    case h_2 => cases hm
    rename_i t' l mo hrow
    by_cases ht0 : t0 = tn
    case neg => simp [ht0] at hm
    subst ht0
    simp only [decide_true, cond_true] at hm
    split at hm
    case isFalse => cases hm
    rename_i e1
    subst e1
    simp only [cast_rfl, Option.some.injEq] at hm
    subst hm
    obtain ⟨ri, hρ, hro⟩ := row_of hr hrow
    have hn1 : ri.n = l.length := hro.1
    obtain ⟨ao, cap, h1, h2, h3, h4, h5⟩ := hv.ov_inv hρ
    have hlen : ((l.drop off).take len).length = len := by simp; omega
    refine mk ao cap (by rw [hlen]; exact h1) ?_
    rcases h3 with ⟨rfl, _⟩ | ⟨rfl, hnl, _⟩
    · exact .inl (by simp)
    · rcases hro.2 with h5 | ⟨_, _, _, _, h6⟩
      · rw [hnl] at h5; cases h5.1
      · refine .inr ⟨ri.b, _, rfl, fun i hi j hj => ?_⟩
        rw [take_drop_get l off len i (by omega) hi, ← Nat.add_mul]
        exact h6 (off + i) (by omega) j hj
  · cases hm

/-- What is appended. -/
theorem elems_src {P : Program} {t e : TypeId} {tn : TN} {v : Value} {d : V} {m : List (El tn)} (hu : P.underlying t = some (.slice e)) (hv : VR w ρ (Bad outer ρ st.h) v d) (hm : elemsOf st.h tn d = some m) :
    ∃ news, Src P (sz tn) t v m.length news w ∧ ElemsAt w ρ (Bad outer ρ st.h) tn m news := by
  obtain ⟨ao, cap, rfl, h⟩ := elems_at hr hv hm
  rcases h with rfl | ⟨b, off, rfl, hc⟩
  · refine ⟨[], ?_, ⟨by simp, fun i hi => by simp at hi⟩⟩
    cases ao with
    | none => exact Src.ofNil w hu cap
    | some ad => exact Src.ofSlice w hu ad 0 cap [] (by simp) (fun j u h => by simp at h) (fun u h => by simp at h)
  · obtain ⟨h1, h2⟩ := elems_from hc
    exact ⟨_, Src.ofSlice w hu (at_ b off) m.length cap _ h1.1 h2 h1.one, h1⟩

omit hr in
theorem append_elems {bad bad' : Nat → Prop} {w' : World} {ρ' : Nat → Option RI} {t : TN} {l m : List (El t)} {olds news : List Value} (h1 : ElemsAt w ρ bad t l olds) (h2 : ElemsAt w ρ bad t m news)
    (hk : ∀ u d, VR w ρ bad u d → VR w' ρ' bad' u d) {b : Nat}
    (hc : ∀ j u, (olds ++ news)[j]? = some u → w'.cell? (at_ b j) = some u) : ∀ i (hi : i < (l ++ m).length) j, j < sz t → ∃ u, w'.cell? (at_ b (i * sz t + j)) = some u ∧ VR w' ρ' bad' u ((enc t (l ++ m)[i]).getD j .undef) := by
  intro i hi j hj
  by_cases hil : i < l.length
  · obtain ⟨u, h3, h4⟩ := h1.2 i hil j hj
    have hlt : i * sz t + j < olds.length := by
      rw [h1.1]
      have : (i + 1) * sz t ≤ l.length * sz t := Nat.mul_le_mul_right _ hil
      rw [Nat.add_mul, Nat.one_mul] at this; omega
    refine ⟨u, hc _ _ (by rw [List.getElem?_append_left hlt]; exact h3), ?_⟩
    rw [List.getElem_append_left hil]; exact hk _ _ h4
  · have him : i - l.length < m.length := by simp at hi; omega
    obtain ⟨u, h3, h4⟩ := h2.2 (i - l.length) him j hj
    have hge : olds.length ≤ i * sz t + j := by
      rw [h1.1]
      have : l.length * sz t ≤ i * sz t := Nat.mul_le_mul_right _ (by omega)
      omega
    refine ⟨u, hc _ _ ?_, ?_⟩
    · rw [List.getElem?_append_right hge, h1.1]
      have : i * sz t + j - l.length * sz t = (i - l.length) * sz t + j := by
        have h5 : l.length * sz t ≤ i * sz t := Nat.mul_le_mul_right _ (by omega)
        rw [Nat.sub_mul]; omega
      rw [this]; exact h3
    · rw [List.getElem_append_right (by omega)]; exact hk _ _ h4

theorem ok_append (hC : TnOk C) (args : Array Operand) (argTypes : Array TypeId) (ho : o.op = .call { callee := .builtin .append, args, argTypes }) (hi : ρ i = none) (hk : stepK C i o st some = some st') :
    Does C.P o a w (After C w0 outer own i ρ st') := by
  simp only [stepK, ho] at hk
  split at hk
  case h_2 => cases hk
  rename_i x y t t' hargs htys
  cases htt : Nat.beq t t'
  case false => simp [htt] at hk
  have htt := Nat.eq_of_beq_eq_true htt
  subst htt
  simp only [Nat.beq_refl, cond_true] at hk
  split at hk
  · cases hk
  rename_i tn htn
  obtain ⟨e, he, hte⟩ := Option.bind_eq_some_iff.1 htn
  have hu : C.P.underlying t = some (.slice e) := by
    unfold elemT at he
    split at he
    · rename_i h1; cases he; exact h1
    · cases he
  obtain ⟨info, z, hi1, hi2, hi3, hi4, hi5⟩ := hC.ok e tn hte
  split at hk
  case h_2 => cases hk
  rename_i l ro m htk hel
  cases hlim : decide (l.length + m.length ≤ LIM)
  case false => simp [hlim] at hk
  simp only [hlim, cond_true] at hk
  have hlim : l.length + m.length ≤ LIM := of_decide_eq_true hlim
  obtain ⟨news, hsrc, hnews⟩ := elems_src hr hu (hr.opd y) hel
  have hsrc' : Src C.P info.size t (a.eval y) m.length news w := by rw [hi2]; exact hsrc
  have e1 := args_list hargs
  have e2 := args_list htys
  subst e1 e2
  have hexec : ∀ v w', (Builtin.append_ #[t, t] o.type #[a.eval x, a.eval y]).run C.P w = .ok v w' → (execOp a.eval o).run C.P w = .ok (.value v) w' := fun v w' h1 => by
    simp [execOp, ho, resolve, invoke, builtin, h1]
  have hLIM : LIM * 1024 ≤ 140737488355328 := by unfold LIM; decide
  have hbytes : (l.length + m.length) * info.bytes ≤ 140737488355328 := Nat.le_trans (Nat.mul_le_mul hlim hi3) hLIM
  have hLIM2 : LIM ≤ 9223372036854775807 := by unfold LIM; decide
  -- a new row
  have grown : ∀ (ao : Option Addr) (cap : Nat) (olds : List Value) (h' : Nat → Option Row), a.eval x = .slice ao l.length cap → cap < l.length + m.length → ElemsAt w ρ (Bad outer ρ st.h) tn l olds →
      (Builtin.firstCells info.size l.length (.slice ao l.length cap)).run C.P w.drew = .ok olds.toArray w.drew →
      (∀ r row', h' r = some row' → ∃ row, st.h r = some row ∧ row.c = row'.c ∧ (row'.m.isRo = false → row.m.isRo = false)) →
      newK C o.dst { st with h := h' } i (.arr tn (l ++ m)) (.ow i) some = some st' → Does C.P o a w (After C w0 outer own i ρ st') := by
    intro ao cap olds h' hx hcap holds hfirst hless hk'
    have hrun := run_append_grow_src (P := C.P) w t t o.type e info z hu hi1 hi4 ao l.length cap olds hfirst (a.eval y) m.length news hsrc' (by omega)
      (by have : ((l.length + m.length : Nat) : Int) ≤ (LIM : Nat) := by omega
          omega) (growslice_fits (by omega) hbytes)
    rw [← hx] at hrun
    have hge := grownCap_ge w (l.length + m.length) cap e
    have hcm : grownCap w (l.length + m.length) cap e ≤ maxLen := grownCap_le_maxLen w (l.length + m.length) cap e (by unfold maxLen; omega)
    obtain ⟨hh1, hv1⟩ := hr.heap.less hless
    have hr1 : Rel C w0 outer own ρ { st with h := h' } a w := hr.turn hh1 hv1
    refine does_value (hexec _ _ hrun) (hr1.newRow hi ⟨w.heap.size, l.length + m.length, grownCap w (l.length + m.length) cap e, false⟩ (fun _ => rfl) _ (Wx.trans (wx_drew w) (wx_alloc _ _))
      (fun b hb => heap_alloc_lt w.drew _ b hb) (fun _ => by simp) (fun bad hk2 => ?_) (fun bad => ?_) hk')
    · generalize hcells : ((olds ++ news).toArray ++ Builtin.zeroCells z.cells (grownCap w (l.length + m.length) cap e - (l.length + m.length))) = cells at hk2 ⊢
      have hsize : cells.size = grownCap w (l.length + m.length) cap e * sz tn := by
        rw [← hcells, Array.size_append, size_zeroCells, hi5]
        have h5 : (olds ++ news).toArray.size = (l.length + m.length) * sz tn := by simp [holds.1, hnews.1, Nat.add_mul]
        rw [h5, ← Nat.add_mul]; congr 1; omega
      refine ⟨by simp, .inr ⟨rfl, hge, hcm, fun j hj => ⟨World.frozen?_alloc_new _ _ _ _, ?_⟩, ?_⟩⟩
      · have := cell?_new w.drew cells e j (by rw [hsize]; exact hj)
        rw [World.size_drew] at this
        rw [this]; rfl
      · refine append_elems (ρ' := upd ρ i _) (bad' := bad) ⟨holds.1, fun i hi j hj => ?_⟩ ⟨hnews.1, fun i hi j hj => ?_⟩ hk2 fun j u hj => ?_
        · obtain ⟨u, h6, h7⟩ := holds.2 i hi j hj; exact ⟨u, h6, hv1 _ _ h7⟩
        · obtain ⟨u, h6, h7⟩ := hnews.2 i hi j hj; exact ⟨u, h6, hv1 _ _ h7⟩
        · have hlt : j < (olds ++ news).length := by
            rcases Nat.lt_or_ge j (olds ++ news).length with h | h
            · exact h
            · rw [List.getElem?_eq_none h] at hj; cases hj
          have hlt2 : j < cells.size := by
            rw [← hcells, Array.size_append]; simp at hlt ⊢; omega
          have := cell?_new w.drew cells e j hlt2
          rw [World.size_drew] at this
          rw [this, Array.getD_eq_getD_getElem?, Array.getElem?_eq_getElem hlt2, Option.getD_some, ← hj, List.getElem?_eq_getElem hlt]
          congr 1
          subst hcells
          rw [Array.getElem_append_left (by simpa using hlt)]; simp
    · exact .ow i ⟨w.heap.size, l.length + m.length, grownCap w (l.length + m.length) cap e, false⟩ (upd_same _ _ _) hge hcm rfl
  -- nothing there, nothing appended, or a new row
  have empty : ∀ (ao : Option Addr) (h' : Nat → Option Row), l = [] → a.eval x = .slice ao 0 0 →
      (∀ r row', h' r = some row' → ∃ row, st.h r = some row ∧ row.c = row'.c ∧ (row'.m.isRo = false → row.m.isRo = false)) →
      newK C o.dst { st with h := h' } i (.arr tn (l ++ m)) (.ow i) some = some st' → Does C.P o a w (After C w0 outer own i ρ st') := by
    intro ao h' hl hx hless hk'
    subst hl
    by_cases hm : m = []
    · subst hm
      obtain ⟨hh1, hv1⟩ := hr.heap.less hless
      have hr1 : Rel C w0 outer own ρ { st with h := h' } a w := hr.turn hh1 hv1
      have hn0 : news = [] := List.eq_nil_of_length_eq_zero (by rw [hnews.1]; simp)
      subst hn0
      have hrun := run_append_nothing w t t o.type e info hu hi1 ao 0 0 (Nat.le_refl _) (a.eval y) hsrc'
      rw [← hx] at hrun
      refine does_value (hexec _ _ hrun) (hr1.newRow hi ⟨0, 0, 0, true⟩ (fun h => by cases h) w (Wx.refl _) (fun b hb => rfl) (fun h => by cases h) (c := .arr tn ([] ++ [])) (fun bad hk2 => ⟨rfl, .inl ⟨rfl, rfl⟩⟩) (fun bad => ?_) hk')
      rw [hx]; exact .owN i ⟨0, 0, 0, true⟩ ao (upd_same _ _ _) rfl rfl
    · have hpos : 0 < m.length := List.length_pos_iff.2 hm
      refine grown ao 0 [] h' hx (by simpa using hpos) ⟨by simp, fun i hi => by simp at hi⟩ ?_ hless hk'
      cases ao with
      | none => exact run_firstCells_none w.drew info.size 0 0 0
      | some ad => exact run_firstCells_some w.drew info.size 0 ad 0 0 [] (by simp) (fun j v h => by simp at h)
  have killLess : ∀ (r : Option Nat) (q : Nat) (row' : Row), killO st.h r q = some row' → ∃ row, st.h q = some row ∧ row.c = row'.c ∧ (row'.m.isRo = false → row.m.isRo = false) := by
    intro r q row' h1
    cases r with
    | none => exact ⟨row', h1, rfl, id⟩
    | some r =>
      simp only [killO] at h1
      by_cases hq : q = r
      · subst hq; rw [upd_same] at h1; cases h1
      · rw [upd_other _ _ _ _ hq] at h1; exact ⟨row', h1, rfl, id⟩
  -- a row of the call's own, or the beginning of one
  have full : ∀ (r : Nat) (l0 : List (El tn)) (ri : RI) (cap : Nat), st.h r = some ⟨.arr tn l0, .own⟩ → ρ r = some ri → ri.nl = false → l = l0.take l.length → l.length ≤ cap → cap ≤ ri.cap →
      a.eval x = .slice (some (at_ ri.b 0)) l.length cap → newK C o.dst { st with h := killO st.h (some r) } i (.arr tn (l ++ m)) (.ow i) some = some st' → Does C.P o a w (After C w0 outer own i ρ st') := by
    intro r l0 ri cap hrow hρ hnl hl hlc hcc hx hk'
    have hll0 : l.length ≤ l0.length := by rw [hl]; simp; omega
    obtain ⟨_, hρ2, hro, _⟩ := hr.heap.rows r _ hrow
    rw [hρ] at hρ2; cases hρ2
    rcases hro.2 with h5 | ⟨_, c1, c2, c3, c4⟩
    · rw [hnl] at h5; cases h5.1
    have holds := elems_from (w := w) (ρ := ρ) (bad := Bad outer ρ st.h) (t := tn) (l := l) (b := ri.b) (off := 0) (fun i hi j hj => by
      obtain ⟨u, h6, h7⟩ := c4 i (by omega) j hj
      refine ⟨u, by rw [Nat.zero_add]; exact h6, ?_⟩
      have : l[i] = l0[i]'(by omega) := by
        have h8 : l[i]? = (l0.take l.length)[i]? := by rw [← hl]
        rw [List.getElem?_eq_getElem hi, List.getElem?_take, if_pos hi, List.getElem?_eq_getElem (by omega)] at h8
        exact Option.some.inj h8
      rw [this]; exact h7)
    by_cases hroom : l.length + m.length ≤ cap
    · have hcz : cap * sz tn ≤ ri.cap * sz tn := Nat.mul_le_mul_right _ hcc
      have hrz : (l.length + m.length) * sz tn ≤ cap * sz tn := Nat.mul_le_mul_right _ hroom
      rw [Nat.add_mul] at hrz
      have hin : ∀ j, j < news.length → (w.cell? ⟨ri.b, 0 + l.length * info.size + j, none⟩).isSome = true := fun j hj => by
        rw [hi2, Nat.zero_add]; exact (c3 _ (by rw [hnews.1] at hj; omega)).2
      have hfr : ∀ j, j < news.length → w.frozen? ⟨ri.b, 0 + l.length * info.size + j, none⟩ = false := fun j hj => by
        rw [hi2, Nat.zero_add]; exact (c3 _ (by rw [hnews.1] at hj; omega)).1
      have hrun := run_append_room_src (P := C.P) w t t o.type e info hu hi1 ri.b 0 l.length cap (a.eval y) m.length news hsrc' hroom hin hfr
      rw [show (⟨ri.b, 0, none⟩ : Addr) = at_ ri.b 0 from rfl, ← hx, hi2, Nat.zero_add] at hrun
      rw [hi2, Nat.zero_add] at hin
      generalize hW : w.setCells ri.b (l.length * sz tn) news = W at hrun
      have hmv := hr.heap.move hrow hρ hnl hi (ri' := ⟨ri.b, l.length + m.length, cap, false⟩) rfl rfl W (by rw [← hW]; exact wx_setCells _ _ _ _) (by rw [← hW]; exact size_setCells _ _ _ _)
        (fun b hb => by rw [← hW]; exact heap_setCells _ _ _ _ _ hb) (.arr tn (l ++ m)) (fun bad hk2 => by
          refine ⟨by simp, .inr ⟨rfl, hroom, Nat.le_trans hcc c2, fun j hj => ⟨by rw [← hW, World.frozen?_setCells]; exact (c3 j (by have : j < cap * sz tn := hj; omega)).1, ?_⟩, ?_⟩⟩
          · by_cases hjj : l.length * sz tn ≤ j ∧ j < l.length * sz tn + news.length
            · have := World.cell?_setCells_in ri.b news (l.length * sz tn) w hin (j - l.length * sz tn) (by omega)
              rw [show l.length * sz tn + (j - l.length * sz tn) = j by omega, hW] at this
              show (W.cell? ⟨ri.b, j, none⟩).isSome = true
              rw [this]; rfl
            · rw [← hW, World.cell?_setCells_out]
              · exact (c3 j (by have : j < cap * sz tn := hj; omega)).2
              · intro _ _; simp only [at_]; omega
          · refine append_elems holds.1 hnews hk2 fun j u hj => ?_
            have hol := holds.1.1
            by_cases hjo : j < (cellsFrom w ri.b 0 (l.length * sz tn)).length
            · rw [List.getElem?_append_left hjo] at hj
              have := holds.2 j u hj
              rw [add_at, Nat.zero_add] at this
              rw [← hW, World.cell?_setCells_out]
              · exact this
              · intro _ _; simp only [at_]; left; rw [hol] at hjo; exact hjo
            · rw [List.getElem?_append_right (by omega), hol] at hj
              obtain ⟨hjl, rfl⟩ := List.getElem?_eq_some_iff.1 hj
              have := World.cell?_setCells_in ri.b news (l.length * sz tn) w hin (j - l.length * sz tn) hjl
              rw [show l.length * sz tn + (j - l.length * sz tn) = j by omega, hW] at this
              exact this)
      obtain ⟨hh, hv⟩ := hmv
      refine does_value (hexec _ _ hrun) ⟨_, ((hr.turn hh hv).put (?_ : VR W _ _ _ (.ow i)) hk').1, fun r' hn => upd_other _ _ _ _ (by rintro rfl; exact hn ⟨Nat.le_refl _, by omega⟩), fun q qi hq => by
        rw [upd_other]; exact hq; rintro rfl; simp [hi] at hq⟩
      exact .ow i ⟨ri.b, l.length + m.length, cap, false⟩ (upd_same _ _ _) hroom (Nat.le_trans hcc c2) rfl
    · refine grown (some (at_ ri.b 0)) cap _ _ hx (by omega) holds.1 ?_ (killLess (some r)) hk'
      exact run_firstCells_some w.drew info.size l.length (at_ ri.b 0) l.length cap _ (by rw [holds.1.1, hi2]) (by simpa using holds.2)
  unfold takenOf at htk
  split at htk
  · rename_i hop
    cases htk
    have hx := hr.opd x
    rw [hop] at hx
    have hxv : a.eval x = .slice none 0 0 := by generalize a.eval x = v at hx; cases hx; rfl
    exact empty none st.h rfl hxv (fun q row' h1 => ⟨row', h1, rfl, id⟩) hk
  · rename_i r hop
    split at htk
    case h_2 => cases htk
    rename_i t' l1 hrow
    split at htk
    case isFalse => cases htk
    rename_i e1
    subst e1
    simp only [cast_rfl, Option.some.injEq, Prod.mk.injEq] at htk
    obtain ⟨rfl, rfl⟩ := htk
    obtain ⟨ri, hρ, hro⟩ := row_of hr hrow
    have hn1 : ri.n = l1.length := hro.1
    have hx := hr.opd x
    rw [hop] at hx
    rcases hx.ow_inv hρ with ⟨h1, h2, h3, h4⟩ | ⟨ao, h1, h2, h3⟩
    · exact full r l1 ri ri.cap hrow hρ h2 (by simp) (by omega) (Nat.le_refl _) (by rw [← hn1]; exact h1) hk
    · exact empty ao _ (List.eq_nil_of_length_eq_zero (by omega)) h1 (killLess (some r)) hk
  · rename_i r t0 len hop
    split at htk
    case h_2 => cases htk
    rename_i t' l1 hrow
    split at htk
    case isFalse => cases htk
    rename_i e1
    subst e1
    simp only [cast_rfl, Option.some.injEq, Prod.mk.injEq] at htk
    obtain ⟨rfl, rfl⟩ := htk
    obtain ⟨ri, hρ, hro⟩ := row_of hr hrow
    have hn1 : ri.n = l1.length := hro.1
    have hx := hr.opd x
    rw [hop] at hx
    obtain ⟨ao, cap, h1, h2, h3, h4, h5⟩ := hx.ov_inv hρ
    have hlen : (l1.take len).length = len := by simp; omega
    rcases h3 with ⟨rfl, rfl⟩ | ⟨rfl, hnl, hc⟩
    · exact empty ao _ (by simp) h1 (killLess (some r)) hk
    · rw [Nat.zero_mul] at h1
      exact full r l1 ri cap hrow hρ hnl (by rw [hlen]) (by omega) (by omega) (by rw [hlen]; exact h1) hk
  · cases htk

end
end Go.D
