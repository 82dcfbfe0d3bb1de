/-
  One operation, continued: loads, stores, addresses, numbers.
-/
import Derived.Test.YtilkenfgjljknaaOps
namespace Go.D
section
variable {C : Cx} {w0 : World} {outer own : Nat → Prop} {ρ : Nat → Option RI} {st st' : St} {a : Act} {w : World} {h : Nat → Option Row}

theorem bp_cells {bad : Nat → Prop} {r off : Nat} {cs : List V} {ri : RI} {v : Value} (hρ : ρ r = some ri) (hro : RowOk w ρ bad ri (.box cs)) {bad' : Nat → Prop} (hv : VR w ρ bad' v (.bp r off)) :
    v = .pointer (some (at_ ri.b (0 + off))) ∧ CellsAt w ρ bad ri.b 0 cs := by
  cases hv with
  | bp _ _ ri' h1 h2 =>
    rw [hρ] at h1; cases h1
    refine ⟨by rw [Nat.zero_add], fun j hj => ?_⟩
    obtain ⟨_, u, h3, h4⟩ := hro.2 j hj
    exact ⟨u, by rw [Nat.zero_add]; exact h3, h4⟩

theorem getD_lt {α : Type} (l : List α) (j : Nat) (d : α) (hj : j < l.length) : l.getD j d = l[j] := by
  rw [List.getD_eq_getElem?_getD, List.getElem?_eq_getElem hj, Option.getD_some]

theorem ep_cells {bad : Nat → Prop} {r k off : Nat} {t : TN} {l : List (El t)} {ri : RI} {v : Value} (hρ : ρ r = some ri) (hro : RowOk w ρ bad ri (.arr t l)) {x : El t} (hx : l[k]? = some x)
    {bad' : Nat → Prop} (hv : VR w ρ bad' v (.ep r t k off)) : v = .pointer (some (at_ ri.b (k * sz t + off))) ∧ CellsAt w ρ bad ri.b (k * sz t) (enc t x) ∧ ri.nl = false := by
  cases hv with
  | ep _ _ _ _ ri' h1 h2 =>
    rw [hρ] at h1; cases h1
    refine ⟨rfl, fun j hj => ?_, h2⟩
    rcases hro.2 with h | ⟨h0, _, _, _, h4⟩
    · rw [h2] at h; cases h.1
    · obtain ⟨hk, rfl⟩ := List.getElem?_eq_some_iff.1 hx
      have hj' : j < sz t := by rw [← enc_length t l[k]]; exact hj
      obtain ⟨u, h5, h6⟩ := h4 k hk j hj'
      rw [getD_lt _ _ _ hj] at h6
      exact ⟨u, h5, h6⟩

theorem fp_cells {bad : Nat → Prop} {cs : List V} {off : Nat} {v : Value} (hv : VR w ρ bad v (.fp cs off)) :
    ∃ b o, v = .pointer (some (at_ b (o + off))) ∧ CellsAt w ρ bad b o cs := by
  cases hv with
  | fp _ _ b o u h0 hb hu hv => exact ⟨b, o, rfl, fun j hj => ⟨_, hu j hj, hv j hj⟩⟩

theorem Subs.get {cs ds : List V} (h : Subs cs ds) : ∀ (j : Nat) (hj : j < cs.length) (hj' : j < ds.length), Sub cs[j] ds[j] := by
  induction h with
  | nil => intro j hj; simp at hj
  | cons h1 h2 ih =>
    intro j hj hj'
    cases j with
    | zero => exact h1
    | succ j => exact ih j (by simpa using hj) (by simpa using hj')

theorem Subs.len {cs ds : List V} (h : Subs cs ds) : cs.length = ds.length := by
  induction h with
  | nil => rfl
  | cons _ _ ih => simp [ih]

variable {o : Oper} {i : Nat} (hr : Rel C w0 outer own ρ st a w)
include hr

theorem ok_loadAt (t : TypeId) (x : Operand) (ho : o.op = .load t x) {ag : Bool} {n b p off : Nat} {cs : List V} (h1 : isAggT C.P t = some ag) (h2 : sizeT C.P t = some n)
    (hx : a.eval x = .pointer (some (at_ b (p + off)))) (hc : CellsAt w ρ (Bad outer ρ st.h) b p cs) (hk : loadCells ag n cs off (fun v => putK C o.dst st v some) = some st') :
    Does C.P o a w (After C w0 outer own i ρ st') := by
  obtain ⟨d, v, h3, h4, h5⟩ := load_ok h1 h2 hc hk
  refine does_value (v := v) (w' := w) ?_ (hr.after h4 h3)
  simp [execOp, ho, hx, Instr.loadAt, Instr.sureAddr, h5]

theorem row_of {r : Nat} {c : RowC} {m : Mode} (h1 : st.h r = some ⟨c, m⟩) : ∃ ri, ρ r = some ri ∧ RowOk w ρ (Bad outer ρ st.h) ri c := by
  obtain ⟨ri, h2, h3, _⟩ := hr.heap.rows r _ h1
  exact ⟨ri, h2, h3⟩

theorem ok_load (t : TypeId) (x : Operand) (ho : o.op = .load t x) (hk : stepK C i o st some = some st') : Does C.P o a w (After C w0 outer own i ρ st') := by
  simp only [stepK, ho] at hk
  split at hk
  case h_2 => cases hk
  rename_i ag n h1 h2
  have hx := hr.opd x
  split at hk
  · rename_i r off hop
    rw [hop] at hx
    split at hk
    · rename_i cs m hrow
      obtain ⟨ri, hρ, hro⟩ := row_of hr hrow
      obtain ⟨e1, e2⟩ := bp_cells hρ hro hx
      exact ok_loadAt hr t x ho h1 h2 e1 e2 hk
    · cases hk
  · rename_i r t' k off hop
    rw [hop] at hx
    split at hk
    · rename_i t'' l m hrow
      obtain ⟨ri, hρ, hro⟩ := row_of hr hrow
      by_cases ht : t'' = t'
      · subst ht
        simp only [decide_true, cond_true, nthK, Option.bind_eq_some_iff] at hk
        obtain ⟨y, hy, hk⟩ := hk
        obtain ⟨e1, e2, _⟩ := ep_cells hρ hro hy hx
        exact ok_loadAt hr t x ho h1 h2 e1 e2 hk
      · simp [ht] at hk
    · cases hk
  · rename_i cs off hop
    rw [hop] at hx
    obtain ⟨b, p, e1, e2⟩ := fp_cells hx
    exact ok_loadAt hr t x ho h1 h2 e1 e2 hk
  · cases hk

/-- A store: into a variable, into an element of a slice of the call's own. -/
theorem ok_store (t : TypeId) (x y : Operand) (ho : o.op = .store t x y) (hk : stepK C i o st some = some st') : Does C.P o a w (After C w0 outer own i ρ st') := by
  simp only [stepK, ho] at hk
  split at hk
  · cases hk
  rename_i n h2
  cases hb : (Nat.beq n (cellsOf (opd st.s y)).length && leafs (cellsOf (opd st.s y)))
  case false => simp [hb] at hk
  simp only [hb, cond_true] at hk
  simp only [Bool.and_eq_true] at hb
  have hn : n = (cellsOf (opd st.s y)).length := Nat.eq_of_beq_eq_true hb.1
  obtain ⟨hs, hvs, hone⟩ := vr_cells (hr.opd y) hb.2
  have hx := hr.opd x
  split at hk
  · rename_i r off hop
    rw [hop] at hx
    split at hk
    · rename_i cs hrow
      cases hle : Nat.ble (off + n) cs.length
      case false => simp [hle] at hk
      simp only [hle, cond_true] at hk
      have hle := Nat.le_of_ble_eq_true hle
      obtain ⟨ri, hρ, hro⟩ := row_of hr hrow
      obtain ⟨e1, e2⟩ := bp_cells hρ hro hx
      rw [Nat.zero_add] at e1
      have hcell : ∀ j, j < n → (w.cell? (at_ ri.b (off + j))).isSome = true := fun j hj => by
        obtain ⟨_, u, h3, _⟩ := hro.2 (off + j) (by omega); rw [h3]; rfl
      have hfr : ∀ j, j < n → w.frozen? (at_ ri.b (off + j)) = false := fun j hj => (hro.2 (off + j) (by omega)).1
      have hrun := store_run (P := C.P) h2 (hs.trans hn.symm) hone hcell hfr
      generalize hW : w.setCells ri.b off (a.eval y).cells.toList = W at hrun
      have hwrite := hr.heap.write hrow hρ hro.1 W (by rw [← hW]; exact wx_setCells _ _ _ _) (by rw [← hW]; exact size_setCells _ _ _ _)
        (fun b hb => by rw [← hW]; exact heap_setCells _ _ _ _ _ hb) (.box (splice cs off (cellsOf (opd st.s y)))) (fun hk' => by
          obtain ⟨hl1, hl2⟩ := splice_get cs off (cellsOf (opd st.s y)) (by omega)
          refine ⟨hro.1, fun j hj => ?_⟩
          have hj' : j < cs.length := by omega
          refine ⟨by rw [← hW, World.frozen?_setCells]; exact (hro.2 j hj').1, ?_⟩
          rw [hl2 j hj' hj]
          split
          · rename_i hin
            have := World.cell?_setCells_in ri.b (a.eval y).cells.toList off w (fun j hj => hcell j (by simpa [hs, hn] using hj)) (j - off) (by simp [hs]; omega)
            refine ⟨_, by rw [← hW, show at_ ri.b j = ⟨ri.b, off + (j - off), none⟩ by rw [at_]; congr 1; omega]; exact this, ?_⟩
            have h4 := hvs (j - off) (by omega)
            rw [Array.getD_eq_getD_getElem?, Array.getElem?_eq_getElem (by omega), Option.getD_some] at h4
            exact hk' _ _ (by simpa using h4)
          · rename_i hout
            obtain ⟨_, u, h3, h4⟩ := hro.2 j hj'
            refine ⟨u, ?_, hk' _ _ h4⟩
            rw [← hW, World.cell?_setCells_out]
            · exact h3
            · intro _ _; simp only [at_, Array.length_toList, hs]; omega)
      refine does_skip (w' := W) ?_ ⟨ρ, ((hr.turn hwrite.1 hwrite.2).put (.undef _) hk).1, fun _ _ => rfl, fun _ _ h => h⟩
      simp [execOp, ho, e1, Instr.storeAt, Instr.sureAddr, hrun]
    · cases hk
  · rename_i r t' k off hop
    rw [hop] at hx
    split at hk
    · rename_i t'' l hrow
      obtain ⟨ri, hρ, hro⟩ := row_of hr hrow
      by_cases ht : t'' = t'
      case neg => simp [ht] at hk
      subst ht
      simp only [decide_true, cond_true] at hk
      split at hk
      · cases hk
      rename_i vs' ids hfz
      cases hids : ids.any (Nat.beq r)
      case true => simp [hids] at hk
      simp only [hids, cond_false, nthK, Option.bind_eq_some_iff] at hk
      obtain ⟨y0, hy0, hk⟩ := hk
      cases hle : Nat.ble (off + n) (sz t'')
      case false => simp [hle] at hk
      simp only [hle, cond_true, Option.bind_eq_some_iff] at hk
      have hle := Nat.le_of_ble_eq_true hle
      obtain ⟨z, hz, hk⟩ := hk
      obtain ⟨e1, e2, hnl⟩ := ep_cells hρ hro hy0 hx
      obtain ⟨hkl, hy0'⟩ := List.getElem?_eq_some_iff.1 hy0
      obtain ⟨hh1, hv1⟩ := hr.heap.mark ids
      have hrow1 : markRo st.h ids r = some ⟨.arr t'' l, .own⟩ := by
        rw [markRo_get, if_neg, hrow]
        intro hm
        have : ids.any (Nat.beq r) = true := List.any_eq_true.2 ⟨r, hm, Nat.beq_refl r⟩
        rw [this] at hids; cases hids
      obtain ⟨_, hρ1, hro1, _⟩ := hh1.rows r _ hrow1
      rw [hρ] at hρ1; cases hρ1
      obtain ⟨hfl, hfv⟩ := frzList_ok hr.heap (vs := fun j => (a.eval y).cells.getD j undef) hvs hfz
      rcases hro1.2 with hnil | ⟨_, c1, c2, c3, c4⟩
      · rw [hnl] at hnil; cases hnil.1
      have hn1 := hro1.1
      have hkn : (k + 1) * sz t'' ≤ ri.cap * sz t'' := Nat.mul_le_mul_right _ (by omega)
      rw [Nat.add_mul, Nat.one_mul] at hkn
      have hcell : ∀ j, j < n → (w.cell? (at_ ri.b (k * sz t'' + off + j))).isSome = true := fun j hj => (c3 (k * sz t'' + off + j) (by omega)).2
      have hfr : ∀ j, j < n → w.frozen? (at_ ri.b (k * sz t'' + off + j)) = false := fun j hj => (c3 (k * sz t'' + off + j) (by omega)).1
      have hrun := store_run (P := C.P) h2 (hs.trans hn.symm) hone hcell hfr
      generalize hW : w.setCells ri.b (k * sz t'' + off) (a.eval y).cells.toList = W at hrun
      have hin : ∀ j, j < n → W.cell? (at_ ri.b (k * sz t'' + off + j)) = some ((a.eval y).cells.getD j undef) := fun j hj => by
        have := World.cell?_setCells_in ri.b (a.eval y).cells.toList (k * sz t'' + off) w (fun j hj => hcell j (by simpa [hs, hn] using hj)) j (by simp [hs]; omega)
        rw [hW] at this
        refine this.trans ?_
        rw [Array.getD_eq_getD_getElem?, Array.getElem?_eq_getElem (by omega)]; simp
      have hout : ∀ j, (j < k * sz t'' + off ∨ k * sz t'' + off + n ≤ j) → W.cell? (at_ ri.b j) = w.cell? (at_ ri.b j) := fun j hj => by
        rw [← hW, World.cell?_setCells_out]
        intro _ _; simp only [at_, Array.length_toList, hs]; omega
      have hwrite := hh1.write hrow1 hρ hnl W (by rw [← hW]; exact wx_setCells _ _ _ _) (by rw [← hW]; exact size_setCells _ _ _ _)
        (fun b hb => by rw [← hW]; exact heap_setCells _ _ _ _ _ hb) (.arr t'' (l.set k z)) (fun hk' => by
          refine ⟨by simpa using hn1, .inr ⟨hnl, c1, c2, fun j hj => ⟨by rw [← hW, World.frozen?_setCells]; exact (c3 j hj).1, ?_⟩, fun i' hi' j hj => ?_⟩⟩
          · by_cases hjj : k * sz t'' + off ≤ j ∧ j < k * sz t'' + off + n
            · have := hin (j - (k * sz t'' + off)) (by omega)
              rw [show k * sz t'' + off + (j - (k * sz t'' + off)) = j by omega] at this
              rw [this]; rfl
            · rw [hout j (by omega)]; exact (c3 j hj).2
          · have hi2 : i' < l.length := by simpa using hi'
            by_cases hik : i' = k
            · subst hik
              have hsub := dec_sub t'' hz
              obtain ⟨hl1, hl2⟩ := splice_get (enc t'' y0) off vs' (by rw [enc_length]; omega)
              have hjl : j < (splice (enc t'' y0) off vs').length := by rw [hl1, enc_length]; exact hj
              have hset : (l.set i' z)[i'] = z := by simp
              rw [hset, getD_lt _ _ _ (by rw [enc_length]; exact hj)]
              have hsj := (hsub.get j hjl (by rw [enc_length]; exact hj))
              rw [hl2 j (by rw [enc_length]; exact hj) hjl] at hsj
              split at hsj
              · rename_i hjin
                refine ⟨_, by have := hin (j - off) (by omega); rw [show i' * sz t'' + off + (j - off) = i' * sz t'' + j by omega] at this; exact this, ?_⟩
                exact hk' _ _ (VR.sub hsj (hfv (j - off) (by omega)).1)
              · obtain ⟨u, h5, h6⟩ := c4 i' hi2 j hj
                rw [hy0', getD_lt _ _ _ (by rw [enc_length]; exact hj)] at h6
                exact ⟨u, by rw [hout _ (by omega)]; exact h5, hk' _ _ (VR.sub hsj h6)⟩
            · obtain ⟨u, h5, h6⟩ := c4 i' hi2 j hj
              have hset : (l.set k z)[i'] = l[i'] := by rw [List.getElem_set_ne (Ne.symm hik)]
              rw [hset]
              refine ⟨u, ?_, hk' _ _ h6⟩
              rw [hout]
              · exact h5
              · rcases Nat.lt_or_gt_of_ne hik with hlt | hgt
                · left
                  have : (i' + 1) * sz t'' ≤ k * sz t'' := Nat.mul_le_mul_right _ hlt
                  rw [Nat.add_mul, Nat.one_mul] at this; omega
                · right
                  have : (k + 1) * sz t'' ≤ i' * sz t'' := Nat.mul_le_mul_right _ hgt
                  rw [Nat.add_mul, Nat.one_mul] at this; omega)
      have hturn : Rel C w0 outer own ρ { st with h := upd (markRo st.h ids) r (some ⟨.arr t'' (l.set k z), .own⟩) } a W :=
        hr.turn hwrite.1 fun u d hu => hwrite.2 u d (hv1 u d hu)
      refine does_skip (w' := W) ?_ ⟨ρ, (hturn.put (.undef _) hk).1, fun _ _ => rfl, fun _ _ h => h⟩
      simp [execOp, ho, e1, Instr.storeAt, Instr.sureAddr, hrun]
    · cases hk
  · cases hk

end
end Go.D
