/-
  What is handed on becomes what nobody writes any more.
-/
import Derived.Test.YtilkenfgjljknaaSim
import Derived.Test.YtilkenfgjljknaaRelTypes
namespace Go.D
section
variable {C : Cx} {w0 : World} {outer own : Nat → Prop} {ρ : Nat → Option RI} {st : St} {a : Act} {w : World} {h : Nat → Option Row}

theorem markRo_get : ∀ (ids : List Nat) (h : Nat → Option Row) (r : Nat),
    markRo h ids r = if r ∈ ids then (h r).map (fun row => { row with m := .ro }) else h r
  | [], h, r => by simp [markRo]
  | q :: qs, h, r => by
    rw [markRo, markRo_get qs]
    by_cases hq : r = q
    · subst hq
      rw [upd_same]
      by_cases hm : r ∈ qs
      · simp only [hm, if_true, List.mem_cons, or_true, if_true]; cases h r <;> rfl
      · simp [hm]
    · rw [upd_other _ _ _ _ hq]
      simp [hq]

theorem markRo_less (h : Nat → Option Row) (ids : List Nat) : ∀ r row', markRo h ids r = some row' → ∃ row, h r = some row ∧ row.c = row'.c ∧ (row'.m.isRo = false → row.m.isRo = false) := by
  intro r row' hr
  rw [markRo_get] at hr
  by_cases hm : r ∈ ids
  · simp only [hm, if_true, Option.map_eq_some_iff] at hr
    obtain ⟨row, h1, rfl⟩ := hr
    exact ⟨row, h1, rfl, by simp [Mode.isRo]⟩
  · simp only [hm, if_false] at hr; exact ⟨row', hr, rfl, id⟩

theorem HRel.mark (hh : HRel w0 outer own ρ h w) (ids : List Nat) : HRel w0 outer own ρ (markRo h ids) w ∧
    ∀ u d, VR w ρ (Bad outer ρ h) u d → VR w ρ (Bad outer ρ (markRo h ids)) u d := hh.less (markRo_less h ids)

theorem bad_mark_mono {i j : List Nat} (hs : ∀ r ∈ i, r ∈ j) {b : Nat} (hb : Bad outer ρ (markRo h j) b) : Bad outer ρ (markRo h i) b :=
  hb.mono fun r row' h1 h2 => by
    rw [markRo_get] at h1
    by_cases hm : r ∈ j
    · simp only [hm, if_true, Option.map_eq_some_iff] at h1
      obtain ⟨row, _, rfl⟩ := h1
      simp [Mode.isRo] at h2
    · simp only [hm, if_false] at h1
      exact ⟨row', by rw [markRo_get, if_neg (fun h => hm (hs r h))]; exact h1, h2⟩

theorem vr_mark_mono {i j : List Nat} (hs : ∀ r ∈ i, r ∈ j) {u : Value} {d : V} (hv : VR w ρ (Bad outer ρ (markRo h i)) u d) : VR w ρ (Bad outer ρ (markRo h j)) u d :=
  hv.mono (fun _ _ h => h) (fun _ _ _ => rfl) fun _ hb => .inl (bad_mark_mono hs hb)

/-- A row that has been given up: what is frozen may lie in its block. -/
theorem not_bad_mark (hh : HRel w0 outer own ρ h w) {r : Nat} {row : Row} {ri : RI} (hr : h r = some row) (hρ : ρ r = some ri) (hn : ri.nl = false)
    {ids : List Nat} (hm : r ∈ ids) : ¬ Bad outer ρ (markRo h ids) ri.b := by
  obtain ⟨ri', h1, _, h2⟩ := hh.rows r row hr
  rw [hρ] at h1; cases h1
  rintro (hb | ⟨q, row', qi, h3, h4, h5, h6, h7⟩)
  · exact (h2 hn).1.1 hb
  · rw [markRo_get] at h3
    by_cases hq : q ∈ ids
    · simp only [hq, if_true, Option.map_eq_some_iff] at h3
      obtain ⟨_, _, rfl⟩ := h3; simp [Mode.isRo] at h4
    · simp only [hq, if_false] at h3
      exact hq (by rw [hh.inj q r row' row qi ri h3 hr h5 hρ h6 hn h7]; exact hm)

def NoRef (d : V) : Prop := ∀ S : Nat → Prop, RIn S d

theorem noRef_sl (t : TN) (l : List (El t)) : NoRef (.sl t l) := fun S => .sl t l fun i _ j _ => rin_enc S t _ j

theorem enc_getD_leaf (t : TN) (x : El t) (j : Nat) (hj : j < sz t) : ((enc t x).getD j .undef).leaf = true := by
  have h1 := enc_leaf t x
  have h2 : j < (enc t x).length := by rw [enc_length]; exact hj
  rw [List.getD_eq_getElem?_getD, List.getElem?_eq_getElem h2, Option.getD_some]
  exact List.all_eq_true.1 h1 _ (List.getElem_mem h2)

/-- A row of a slice reads as a frozen slice. -/
theorem arr_sl {bad : Nat → Prop} {ri : RI} {t : TN} {l : List (El t)} (hr : RowOk w ρ bad ri (.arr t l)) (hn : ri.nl = false) (hb : ¬ bad ri.b)
    (off len cap : Nat) (hlen : off + len ≤ l.length) (hcap : len ≤ cap) (hmax : cap ≤ maxLen) :
    VR w ρ bad (.slice (some (at_ ri.b (off * sz t))) len cap) (.sl t ((l.drop off).take len)) := by
  rcases hr.2 with h | ⟨h0, h1, h2, h3, h4⟩
  · rw [hn] at h; cases h.1
  have hl : ((l.drop off).take len).length = len := by simp; omega
  have := VR.slC (w := w) (ρ := ρ) (bad := bad) t ((l.drop off).take len) ri.b (off * sz t) cap (fun i j => (w.cell? (at_ ri.b (off * sz t + i * sz t + j))).getD undef) hb (by omega) hmax
    (fun i hi j hj => by
      obtain ⟨u, h5, h6⟩ := h4 (off + i) (by omega) j hj
      rw [Nat.add_mul] at h5; rw [h5]; rfl)
    (fun i hi j hj => by
      obtain ⟨u, h5, h6⟩ := h4 (off + i) (by omega) j hj
      rw [Nat.add_mul] at h5; rw [h5, Option.getD_some]
      have : ((l.drop off).take len)[i] = l[off + i]'(by omega) := by simp
      rw [this]; exact h6)
  rw [hl] at this; exact this

theorem cast_rfl {t : TN} (e : t = t) (l : List (El t)) : TN.cast e l = l := by cases e; rfl

theorem noRefN_ok : ∀ (n : Nat) (d : V), noRefN n d = true → NoRef d ∧ d.leaf = true
  | 0, d, h => by simp [noRefN] at h
  | n + 1, d, h => by
    cases d <;> simp only [noRefN, List.all_eq_true] at h <;> try (cases h; done)
    · exact ⟨fun _ => .bool _, rfl⟩
    · exact ⟨fun _ => .int _ _, rfl⟩
    · exact ⟨fun _ => .str _, rfl⟩
    · exact ⟨fun _ => .nil, rfl⟩
    · exact ⟨noRef_sl _ _, rfl⟩
    · exact ⟨fun S => .fp _ _ fun j hj => (noRefN_ok n _ (h _ (List.getElem_mem hj))).1 S, rfl⟩
    · exact ⟨fun S => .fn _ _ fun j hj => (noRefN_ok n _ (h _ (List.getElem_mem hj))).1 S, rfl⟩
    · exact ⟨fun _ => .nili, rfl⟩
    · exact ⟨fun _ => .ifc, rfl⟩

theorem frzLeaf_ok (hh : HRel w0 outer own ρ h w) {v : Value} {d d' : V} {ids : List Nat} (hv : VR w ρ (Bad outer ρ h) v d) (hf : frzLeaf h d = some (d', ids)) :
    VR w ρ (Bad outer ρ (markRo h ids)) v d' ∧ NoRef d' ∧ d'.leaf = true := by
  unfold frzLeaf at hf
  split at hf
  · rename_i r
    split at hf
    · rename_i t l m hr
      cases hlk : m.isLock <;> simp [hlk] at hf
      obtain ⟨rfl, rfl⟩ := hf
      refine ⟨?_, noRef_sl _ _, rfl⟩
      obtain ⟨hh', hmv⟩ := hh.mark [r]
      obtain ⟨ri, hρ, hro, hri⟩ := hh.rows r _ hr
      have hro' := hro.keep (fun _ => rfl) hmv
      cases hv with
      | ow _ ri' h1 h2 h3 h4 =>
        rw [hρ] at h1; cases h1
        have := arr_sl hro' h4 (not_bad_mark hh hr hρ h4 (by simp)) 0 ri.n ri.cap (by have := hro.1; omega) h2 h3
        have hln : l.length = ri.n := hro.1.symm
        rw [Nat.zero_mul, List.drop_zero, ← hln, List.take_length, hln] at this
        exact this
      | owN _ ri' ao h1 h2 h3 =>
        rw [hρ] at h1; cases h1
        rcases hro.2 with h | ⟨h, _⟩
        · rw [h.2]; exact .slE _ _ _ (Nat.zero_le _)
        · rw [h3] at h; cases h
    · cases hf
  · rename_i r t off len
    split at hf
    · rename_i t' l m hr
      cases hlk : m.isLock
      case true => simp [hlk] at hf
      simp only [hlk, cond_false] at hf
      split at hf
      case isFalse => cases hf
      rename_i e; subst e
      simp only [cast_rfl, Option.some.injEq, Prod.mk.injEq] at hf
      obtain ⟨rfl, rfl⟩ := hf
      refine ⟨?_, noRef_sl _ _, rfl⟩
      obtain ⟨hh', hmv⟩ := hh.mark [r]
      obtain ⟨ri, hρ, hro, hri⟩ := hh.rows r _ hr
      have hro' := hro.keep (fun _ => rfl) hmv
      cases hv with
      | ov _ _ _ _ cap ao ri' h1 hof ha hl hc =>
        rw [hρ] at h1; cases h1
        have hn := hro.1
        rcases ha with ⟨rfl, _⟩ | ⟨rfl, hnl, _⟩
        · rw [List.take_zero]; exact .slE _ _ _ hc
        · exact arr_sl hro' hnl (not_bad_mark hh hr hρ hnl (by simp)) off len cap (by omega) hl hc
    · cases hf
  · cases hb : noRefN 8 d <;> simp [hb] at hf
    obtain ⟨rfl, rfl⟩ := hf
    exact ⟨hv, noRefN_ok 8 _ hb⟩

theorem frzList_ok (hh : HRel w0 outer own ρ h w) : ∀ {ds ds' : List V} {ids : List Nat} {vs : Nat → Value} (_ : ∀ j (hj : j < ds.length), VR w ρ (Bad outer ρ h) (vs j) ds[j])
    (_ : frzList h ds = some (ds', ids)), ds'.length = ds.length ∧ ∀ j (hj : j < ds'.length), VR w ρ (Bad outer ρ (markRo h ids)) (vs j) ds'[j] ∧ NoRef ds'[j] ∧ (ds'[j]).leaf = true
  | [], ds', ids, vs, _, hf => by
    simp [frzList] at hf; obtain ⟨rfl, rfl⟩ := hf; exact ⟨rfl, fun j hj => by simp at hj⟩
  | d :: ds, ds', ids, vs, hv, hf => by
    simp only [frzList] at hf
    split at hf
    · cases hf
    · rename_i d' i h1
      split at hf
      · cases hf
      · rename_i ds'' j h2
        simp only [Option.some.injEq, Prod.mk.injEq] at hf
        obtain ⟨rfl, rfl⟩ := hf
        have h3 := frzLeaf_ok hh (hv 0 (by simp)) h1
        have h4 := frzList_ok hh (vs := fun j => vs (j + 1)) (fun j hj => hv (j + 1) (by simp; omega)) h2
        refine ⟨by simp [h4.1], fun k hk => ?_⟩
        cases k with
        | zero => exact ⟨vr_mark_mono (fun r hr => by simp [hr]) h3.1, h3.2⟩
        | succ k =>
          have := h4.2 k (by simpa using hk)
          exact ⟨vr_mark_mono (fun r hr => by simp [hr]) this.1, this.2⟩

theorem noRef_agg {cs : List V} (h : ∀ j (hj : j < cs.length), NoRef cs[j]) : NoRef (.agg cs) := fun S => .agg _ fun j hj => h j hj S

theorem frz_ok (hh : HRel w0 outer own ρ h w) {v : Value} {d d' : V} {ids : List Nat} (hv : VR w ρ (Bad outer ρ h) v d) (hf : frz h d = some (d', ids)) :
    VR w ρ (Bad outer ρ (markRo h ids)) v d' ∧ NoRef d' := by
  unfold frz at hf
  split at hf
  · rename_i cs
    split at hf
    · rename_i cs' i h1
      simp only [Option.some.injEq, Prod.mk.injEq] at hf
      obtain ⟨rfl, rfl⟩ := hf
      cases hv with
      | agg _ vs hs hv =>
        have := frzList_ok hh (vs := fun j => vs.getD j undef) hv h1
        exact ⟨.agg _ _ (by rw [hs, this.1]) fun j hj => (this.2 j hj).1, noRef_agg fun j hj => (this.2 j hj).2.1⟩
    · cases hf
  · rename_i r off
    split at hf
    · rename_i cs m hr
      cases hb : (m.isLock || cs.isEmpty)
      case true => simp [hb] at hf
      simp only [hb, cond_false] at hf
      split at hf
      · rename_i cs' i h1
        simp only [Option.some.injEq, Prod.mk.injEq] at hf
        obtain ⟨rfl, rfl⟩ := hf
        obtain ⟨ri, hρ, hro, hri⟩ := hh.rows r _ hr
        cases hv with
        | bp _ _ ri' h2 hn =>
          rw [hρ] at h2; cases h2
          have hcell : ∀ j, j < cs.length → w.cell? (at_ ri.b (0 + j)) = some ((w.cell? (at_ ri.b (0 + j))).getD undef) := fun j hj => by
            obtain ⟨_, u, h3, _⟩ := hro.2 j hj
            rw [Nat.zero_add, h3]; rfl
          have h4 := frzList_ok hh (vs := fun j => (w.cell? (at_ ri.b (0 + j))).getD undef) (fun j hj => by
            obtain ⟨_, u, h3, h5⟩ := hro.2 j hj
            rw [Nat.zero_add, h3]; exact h5) h1
          have hpos : 0 < cs.length := by
            cases cs with
            | nil => simp at hb
            | cons => simp
          have := VR.fp (w := w) (ρ := ρ) (bad := Bad outer ρ (markRo h (r :: i))) cs' off ri.b 0 (fun j => (w.cell? (at_ ri.b (0 + j))).getD undef) (by omega)
            (not_bad_mark hh hr hρ hn (by simp)) (fun j hj => hcell j (by omega)) (fun j hj => vr_mark_mono (fun q hq => by simp [hq]) (h4.2 j hj).1)
          rw [Nat.zero_add] at this
          exact ⟨this, fun S => .fp _ _ fun j hj => (h4.2 j hj).2.1 S⟩
      · cases hf
    · cases hf
  · have := frzLeaf_ok hh hv hf
    exact ⟨this.1, this.2.1⟩

theorem frzArgs_ok (hh : HRel w0 outer own ρ h w) : ∀ {ds ds' : List V} {ids : List Nat} {vs : Nat → Value} (_ : ∀ j (hj : j < ds.length), VR w ρ (Bad outer ρ h) (vs j) ds[j])
    (_ : frzArgs h ds = some (ds', ids)), ds'.length = ds.length ∧ ∀ j (hj : j < ds'.length), VR w ρ (Bad outer ρ (markRo h ids)) (vs j) ds'[j] ∧ NoRef ds'[j]
  | [], ds', ids, vs, _, hf => by
    simp [frzArgs] at hf; obtain ⟨rfl, rfl⟩ := hf; exact ⟨rfl, fun j hj => by simp at hj⟩
  | d :: ds, ds', ids, vs, hv, hf => by
    simp only [frzArgs] at hf
    split at hf
    · cases hf
    · rename_i d' i h1
      split at hf
      · cases hf
      · rename_i ds'' j h2
        simp only [Option.some.injEq, Prod.mk.injEq] at hf
        obtain ⟨rfl, rfl⟩ := hf
        have h3 := frz_ok hh (hv 0 (by simp)) h1
        have h4 := frzArgs_ok hh (vs := fun j => vs (j + 1)) (fun j hj => hv (j + 1) (by simp; omega)) h2
        refine ⟨by simp [h4.1], fun k hk => ?_⟩
        cases k with
        | zero => exact ⟨vr_mark_mono (fun r hr => by simp [hr]) h3.1, h3.2⟩
        | succ k =>
          have := h4.2 k (by simpa using hk)
          exact ⟨vr_mark_mono (fun r hr => by simp [hr]) this.1, this.2⟩

/-- What names no row may be looked at with other rows. -/
theorem VR.noRef {bad : Nat → Prop} {u : Value} {d : V} (hv : VR w ρ bad u d) (hd : NoRef d) (ρ' : Nat → Option RI) : VR w ρ' bad u d :=
  hv.keep (S := fun _ => False) (hd _) (fun _ _ h => h.elim) (fun _ _ _ => rfl) fun _ h => .inl h

end
end Go.D
