/-
  What is taken out of a variable, and laid anew.
-/
import Derived.Test.YtilkenfgjljknaaOps11
namespace Go.D

section
variable {C : Cx} {w0 : World} {outer own : Nat → Prop} {ρ : Nat → Option RI} {st st' : St} {a : Act} {w : World} {h : Nat → Option Row}

def Out (base N r : Nat) : Prop := ¬ (base ≤ r ∧ r < base + N)

theorem thawH_or (ow : List Nat) (base : Nat) (h : Nat → Option Row) : ∀ (es : List V) (p r : Nat), thawH ow base h p es r = match thawH ow base (fun _ => none) p es r with | some x => some x | none => h r
  | [], p, r => rfl
  | e :: es, p, r => by
    have ih := thawH_or ow base h es (p + 1) r
    cases e <;> simp only [thawH] <;> try exact ih
    cases hb : ow.any (Nat.beq p)
    · simpa using ih
    · simp only [cond_true]
      by_cases hr : r = base + p
      · subst hr; simp [upd_same]
      · simp only [upd_other _ _ _ _ hr]; exact ih

theorem thawH_none (ow : List Nat) (base : Nat) : ∀ (es : List V) (p r : Nat), (r < base + p ∨ base + p + es.length ≤ r) → thawH ow base (fun _ => none) p es r = none
  | [], p, r, _ => rfl
  | e :: es, p, r, hr => by
    have ih := thawH_none ow base es (p + 1) r (by simp at hr; omega)
    cases e <;> simp only [thawH] <;> try exact ih
    cases hb : ow.any (Nat.beq p)
    · simpa using ih
    · simp only [cond_true]
      rw [upd_other _ _ _ _ (by simp at hr; omega)]; exact ih

theorem thawL_len (ow : List Nat) (base : Nat) : ∀ (es : List V) (p : Nat), (thawL ow base p es).length = es.length
  | [], p => rfl
  | e :: es, p => by cases e <;> simp [thawL, thawL_len ow base es (p + 1)]

/-- A heap that lies in another. -/
def Lies (h g : Nat → Option Row) : Prop := ∀ r row, h r = some row → g r = some row

theorem frzLeaf_lies {c : V} {h g : Nat → Option Row} {x : V × List Nat} (hg : Lies h g) (hf : frzLeaf h c = some x) : frzLeaf g c = some x ∧ ∀ r ∈ x.2, ∃ row, h r = some row := by
  unfold frzLeaf at hf
  split at hf
  · rename_i r
    split at hf
    · rename_i t l m hr
      refine ⟨by simp only [frzLeaf, hg _ _ hr]; exact hf, ?_⟩
      cases hm : m.isLock <;> simp [hm] at hf
      subst hf; intro q hq; simp at hq; subst hq; exact ⟨_, hr⟩
    · cases hf
  · rename_i r t off len
    split at hf
    · rename_i t' l m hr
      refine ⟨by simp only [frzLeaf, hg _ _ hr]; exact hf, ?_⟩
      cases hm : m.isLock
      · simp only [hm, cond_false] at hf
        split at hf
        · simp at hf; subst hf; intro q hq; simp at hq; subst hq; exact ⟨_, hr⟩
        · cases hf
      · simp [hm] at hf
    · cases hf
  · cases hb : noRefN 8 c <;> simp [hb] at hf
    subst hf
    refine ⟨?_, by simp⟩
    unfold frzLeaf
    split
    · simp [noRefN] at hb
    · simp [noRefN] at hb
    · simp [hb]

theorem frzList_lies {h g : Nat → Option Row} (hg : Lies h g) : ∀ {cs : List V} {x : List V × List Nat}, frzList h cs = some x → frzList g cs = some x ∧ ∀ r ∈ x.2, ∃ row, h r = some row
  | [], x, hf => by simp [frzList] at hf; subst hf; simp [frzList]
  | c :: cs, x, hf => by
    simp only [frzList] at hf
    split at hf
    · cases hf
    rename_i c' i h1
    split at hf
    · cases hf
    rename_i cs' j h2
    cases hf
    obtain ⟨k1, k2⟩ := frzLeaf_lies hg h1
    obtain ⟨k3, k4⟩ := frzList_lies hg h2
    refine ⟨by simp [frzList, k1, k3], fun r hr => ?_⟩
    rcases List.mem_append.1 hr with hr | hr
    · exact k2 r hr
    · exact k4 r hr

theorem frz_lies {c : V} {h g : Nat → Option Row} {x : V × List Nat} (hg : Lies h g) (hf : frz h c = some x) : frz g c = some x ∧ ∀ r ∈ x.2, ∃ row, h r = some row := by
  unfold frz at hf
  split at hf
  · split at hf
    · rename_i cs cs' i h1
      cases hf
      obtain ⟨k1, k2⟩ := frzList_lies hg h1
      exact ⟨by simp [frz, k1], k2⟩
    · cases hf
  · rename_i r off
    split at hf
    · rename_i cs m hr
      cases hb : (m.isLock || cs.isEmpty)
      case true => simp [hb] at hf
      simp only [hb, cond_false] at hf
      split at hf
      · rename_i cs' i h1
        cases hf
        obtain ⟨k1, k2⟩ := frzList_lies hg h1
        refine ⟨by simp [frz, hg _ _ hr, hb, k1], fun q hq => ?_⟩
        rcases List.mem_cons.1 hq with rfl | hq
        · exact ⟨_, hr⟩
        · exact k2 q hq
      · cases hf
    · cases hf
  · rename_i h1 h2
    obtain ⟨k1, k2⟩ := frzLeaf_lies hg hf
    refine ⟨?_, k2⟩
    unfold frz
    split
    · exact absurd rfl (h1 _)
    · exact absurd rfl (h2 _ _)
    · exact k1

theorem lies_mark {h g : Nat → Option Row} (hg : Lies h g) (ids : List Nat) : Lies (markRo h ids) (markRo g ids) := by
  intro r row hr
  rw [markRo_get] at hr ⊢
  by_cases hm : r ∈ ids
  · simp only [hm, if_true, Option.map_eq_some_iff] at hr ⊢
    obtain ⟨row', h1, rfl⟩ := hr; exact ⟨row', hg _ _ h1, rfl⟩
  · simp only [hm, if_false] at hr ⊢; exact hg _ _ hr

theorem rowOk_arr {bad bad' : Nat → Prop} {ri : RI} {ρ' : Nat → Option RI} {t : TN} {l : List (El t)} (hr : RowOk w ρ bad ri (.arr t l))
    (hv : ∀ u d, VR w ρ bad u d → VR w ρ' bad' u d) : RowOk w ρ' bad' ri (.arr t l) := hr.keep (fun _ => rfl) hv

/-- A row moves to another number. -/
theorem HRel.rename (hh : HRel w0 outer own ρ h w) {r i : Nat} {t : TN} {l : List (El t)} {ri : RI} (hr : h r = some ⟨.arr t l, .own⟩) (hρ : ρ r = some ri) (hi : ρ i = none) :
    HRel w0 outer own (upd ρ i (some ri)) (upd (upd h r none) i (some ⟨.arr t l, .own⟩)) w ∧
      ∀ u d, VR w ρ (Bad outer ρ h) u d → VR w (upd ρ i (some ri)) (Bad outer (upd ρ i (some ri)) (upd (upd h r none) i (some ⟨.arr t l, .own⟩))) u d := by
  obtain ⟨ri', h1, h2, h3⟩ := hh.rows r _ hr
  rw [hρ] at h1; cases h1
  cases hn : ri.nl
  · exact hh.move hr hρ hn hi rfl hn w (Wx.refl _) rfl (fun _ _ => rfl) _ fun bad hv => rowOk_arr h2 hv
  · obtain ⟨k1, k2⟩ := hh.less (h' := upd h r none) (fun q row' hq => by
      by_cases hqr : q = r
      · subst hqr; rw [upd_same] at hq; cases hq
      · rw [upd_other _ _ _ _ hqr] at hq; exact ⟨row', hq, rfl, id⟩)
    obtain ⟨k3, k4⟩ := k1.alloc i hi ri (fun h => by rw [hn] at h; cases h) w (Wx.refl _) (fun _ _ => rfl) (fun h => by rw [hn] at h; cases h) (.arr t l)
      fun hv => rowOk_arr (rowOk_arr h2 k2) hv
    exact ⟨k3, fun u d hu => k4 _ _ (k2 _ _ hu)⟩

/-- An empty row that has no block. -/
theorem HRel.empty (hh : HRel w0 outer own ρ h w) {i : Nat} (t : TN) (hi : ρ i = none) :
    HRel w0 outer own (upd ρ i (some ⟨0, 0, 0, true⟩)) (upd h i (some ⟨.arr t [], .own⟩)) w ∧
      ∀ u d, VR w ρ (Bad outer ρ h) u d → VR w (upd ρ i (some ⟨0, 0, 0, true⟩)) (Bad outer (upd ρ i (some ⟨0, 0, 0, true⟩)) (upd h i (some ⟨.arr t [], .own⟩))) u d :=
  hh.alloc i hi ⟨0, 0, 0, true⟩ (fun h => by cases h) w (Wx.refl _) (fun _ _ => rfl) (fun h => by cases h) (.arr t []) fun _ => ⟨rfl, .inl ⟨rfl, rfl⟩⟩

structure Thawed (w0 : World) (outer own : Nat → Prop) (w : World) (ow : List Nat) (base N p : Nat) (ρ : Nat → Option RI) (g h h' : Nat → Option Row) (es : List V) (u : Nat → Value)
    (ρ' : Nat → Option RI) (g' : Nat → Option Row) : Prop where
  heap : HRel w0 outer own ρ' g' w
  lies : Lies h' g'
  out : ∀ r, Out base N r → ρ' r = ρ r ∧ (h r = none → g' r = g r)
  less : ∀ r, h r = none → h' r = none
  before : ∀ q, q < p → g' (base + q) = g (base + q) ∧ ρ' (base + q) = ρ (base + q)
  new : ∀ q, p ≤ q → q < N → g' (base + q) = thawH ow base (fun _ => none) p es (base + q)
  ext : ∀ r ri, ρ r = some ri → ρ' r = some ri
  keep : ∀ v d, VR w ρ (Bad outer ρ g) v d → VR w ρ' (Bad outer ρ' g') v d
  vals : ∀ j (hj : j < (thawL ow base p es).length), VR w ρ' (Bad outer ρ' g') (u j) (thawL ow base p es)[j]
  closed : ∀ j (hj : j < es.length), NoRef es[j] ∧ (es[j]).leaf = true

theorem Subs.closed1 {c e : V} (hs : Sub c e) (h : NoRef c ∧ c.leaf = true) : NoRef e ∧ e.leaf = true := by
  cases hs with
  | refl => exact h
  | byte n => exact ⟨fun _ => .int _ _, rfl⟩
  | nil t => exact ⟨noRef_sl _ _, rfl⟩

theorem take_thaw (ow : List Nat) (base N : Nat) : ∀ (cs : List V) (p : Nat) (h h' : Nat → Option Row) (cs' es : List V) (ρ : Nat → Option RI) (g : Nat → Option Row) (u : Nat → Value),
    takeLeaves ow p cs h = some (cs', h') → Subs cs' es → p + cs.length ≤ N → HRel w0 outer own ρ g w →
    (∀ j (hj : j < cs.length), VR w ρ (Bad outer ρ g) (u j) cs[j]) → Lies h g → (∀ q, q < N → h (base + q) = none) →
    (∀ q, p ≤ q → q < N → ρ (base + q) = none) → ∃ ρ' g', Thawed w0 outer own w ow base N p ρ g h h' es u ρ' g' ∧ es.length = cs.length
  | [], p, h, h', cs', es, ρ, g, u, ht, hs, hN, hh, hv, hg, hfr, hf => by
    simp only [takeLeaves, Option.some.injEq, Prod.mk.injEq] at ht
    obtain ⟨rfl, rfl⟩ := ht
    cases hs
    refine ⟨ρ, g, ⟨hh, hg, fun r hr => ⟨rfl, fun _ => rfl⟩, fun _ h => h, fun q hq => ⟨rfl, rfl⟩, fun q h1 h2 => ?_, fun _ _ h => h, fun _ _ h => h, fun j hj => by simp [thawL] at hj, fun j hj => by simp at hj⟩, rfl⟩
    cases hgq : g (base + q) with
    | none => rfl
    | some row => obtain ⟨ri, h3, _⟩ := hh.rows _ _ hgq; rw [hf q h1 h2] at h3; cases h3
  | c :: cs, p, h, h', cs', es, ρ, g, u, ht, hs, hN, hh, hv, hg, hfr, hf => by
    simp only [List.length_cons] at hN
    have hin : ¬ Out base N (base + p) := fun ho => ho ⟨by omega, by omega⟩
    have hinh : ∀ r row, h r = some row → Out base N r := fun r row hr => by
      rintro ⟨h1, h2⟩
      have := hfr (r - base) (by omega)
      rw [show base + (r - base) = r by omega, hr] at this; cases this
    -- behind a step
    have go : ∀ (ρ1 : Nat → Option RI) (g1 h1 : Nat → Option Row) (cs1 es1 : List V) (e : V), takeLeaves ow (p + 1) cs h1 = some (cs1, h') → Subs cs1 es1 → es = e :: es1 → HRel w0 outer own ρ1 g1 w →
        (∀ v d, VR w ρ (Bad outer ρ g) v d → VR w ρ1 (Bad outer ρ1 g1) v d) → Lies h1 g1 → (∀ r, Out base N r → ρ1 r = ρ r ∧ (h r = none → g1 r = g r)) → (∀ r, h r = none → h1 r = none) → (∀ q, q < p → g1 (base + q) = g (base + q) ∧ ρ1 (base + q) = ρ (base + q)) →
        (∀ q, p + 1 ≤ q → q < N → ρ1 (base + q) = ρ (base + q)) → (∀ r ri, ρ r = some ri → ρ1 r = some ri) → (NoRef e ∧ e.leaf = true) →
        (∀ (ρ' : Nat → Option RI) (g' : Nat → Option Row), (∀ v d, VR w ρ1 (Bad outer ρ1 g1) v d → VR w ρ' (Bad outer ρ' g') v d) →
          ∃ (hl : 0 < (thawL ow base p (e :: es1)).length), VR w ρ' (Bad outer ρ' g') (u 0) (thawL ow base p (e :: es1))[0]) →
        thawH ow base (fun _ => none) p (e :: es1) (base + p) = g1 (base + p) → (∀ q, q ≠ p → thawH ow base (fun _ => none) p (e :: es1) (base + q) = thawH ow base (fun _ => none) (p + 1) es1 (base + q)) →
        (∀ j (hj : j < (thawL ow base (p + 1) es1).length), ∃ (hl : j + 1 < (thawL ow base p (e :: es1)).length), (thawL ow base p (e :: es1))[j + 1] = (thawL ow base (p + 1) es1)[j]) →
        ∃ ρ' g', Thawed w0 outer own w ow base N p ρ g h h' es u ρ' g' ∧ es.length = (c :: cs).length := by
      rintro ρ1 g1 h1 cs1 es1 e ht1 hs1 rfl hh1 hk1 hl1 ho1 hless1 hb1 hf1 hx1 he hv0 hn0 hn1 hgl1
      obtain ⟨ρ', g', T, hlen⟩ := take_thaw ow base N cs (p + 1) h1 h' cs1 es1 ρ1 g1 (fun j => u (j + 1)) ht1 hs1 (by omega) hh1
        (fun j hj => hk1 _ _ (hv (j + 1) (by simp; omega))) hl1 (fun q hq => hless1 _ (hfr q hq))
        (fun q h1 h2 => by rw [hf1 q h1 h2]; exact hf q (by omega) h2)
      refine ⟨ρ', g', ⟨T.heap, T.lies, fun r hr => ⟨(T.out r hr).1.trans (ho1 r hr).1, fun hn => ((T.out r hr).2 (hless1 r hn)).trans ((ho1 r hr).2 hn)⟩, fun r hr => T.less r (hless1 r hr), fun q hq => ?_, fun q h1 h2 => ?_, fun r ri hr => T.ext _ _ (hx1 r ri hr), fun v d hd => T.keep _ _ (hk1 _ _ hd), fun j hj => ?_, fun j hj => ?_⟩, by simp [hlen]⟩
      · obtain ⟨b1, b2⟩ := T.before q (by omega)
        exact ⟨b1.trans (hb1 q hq).1, b2.trans (hb1 q hq).2⟩
      · by_cases hq : q = p
        · subst hq; rw [(T.before q (by omega)).1]; exact hn0.symm
        · rw [T.new q (by omega) h2, hn1 q hq]
      · cases j with
        | zero => exact (hv0 ρ' g' T.keep).2
        | succ j =>
          have hj' : j < (thawL ow base (p + 1) es1).length := by
            rw [thawL_len] at hj ⊢; simpa using hj
          obtain ⟨_, h2⟩ := hgl1 j hj'
          rw [h2]; exact T.vals j hj'
      · cases j with
        | zero => exact he
        | succ j => exact T.closed j (by simpa using hj)
    simp only [takeLeaves] at ht
    have hfp : ρ (base + p) = none := hf p (Nat.le_refl _) (by omega)
    have hgp : g (base + p) = none := by
      cases hgq : g (base + p) with
      | none => rfl
      | some row => obtain ⟨ri, h3, _⟩ := hh.rows _ _ hgq; rw [hfp] at h3; cases h3
    have hv00 := hv 0 (by simp)
    simp only [List.getElem_cons_zero] at hv00
    cases hb : ow.any (Nat.beq p)
    · simp only [hb, cond_false] at ht
      split at ht
      case h_2 => cases ht
      rename_i c' ids hfz
      split at ht
      case h_2 => cases ht
      rename_i cs1 h1 ht1
      simp only [Option.some.injEq, Prod.mk.injEq] at ht
      obtain ⟨rfl, rfl⟩ := ht
      cases hs with
      | cons hs0 hs1 =>
      rename_i e es1
      obtain ⟨hfz', hids⟩ := frzLeaf_lies hg hfz
      simp only at hids
      obtain ⟨k1, k2⟩ := hh.mark ids
      have k3 := frzLeaf_ok hh hv00 hfz'
      have hnn : ∀ r, h r = none → r ∉ ids := fun r hn hm => by obtain ⟨row, h5⟩ := hids r hm; rw [hn] at h5; cases h5
      have he := Subs.closed1 hs0 k3.2
      have hl : thawL ow base p (e :: es1) = e :: thawL ow base (p + 1) es1 := by cases e <;> simp [thawL, hb]
      have hth : ∀ q, thawH ow base (fun _ => none) p (e :: es1) q = thawH ow base (fun _ => none) (p + 1) es1 q := fun q => by cases e <;> simp [thawH, hb]
      refine go ρ (markRo g ids) (markRo h ids) cs1 es1 e ht1 hs1 rfl k1 k2 (lies_mark hg ids) (fun r hr => ⟨rfl, fun hn => ?_⟩) (fun r hn => ?_) (fun q hq => ⟨?_, rfl⟩) (fun _ _ _ => rfl) (fun _ _ h => h) he (fun ρ' g' hk => ?_) ?_ (fun q hq => hth _) (fun j hj => ?_)
      · rw [markRo_get, if_neg (hnn r hn)]
      · rw [markRo_get, if_neg (hnn r hn)]; exact hn
      · rw [markRo_get, if_neg (hnn _ (hfr q (by omega)))]
      · simp only [hl]
        exact ⟨by simp, (VR.sub hs0 (hk _ _ k3.1))⟩
      · rw [hth, thawH_none _ _ _ _ _ (by omega), markRo_get, if_neg (hnn _ (hfr p (by omega))), hgp]
      · simp only [hl]
        exact ⟨by simpa using hj, by simp⟩
    · simp only [hb, cond_true] at ht
      split at ht
      · rename_i r
        split at ht
        case h_2 => cases ht
        rename_i t l hrow
        split at ht
        case h_2 => cases ht
        rename_i cs1 h1 ht1
        simp only [Option.some.injEq, Prod.mk.injEq] at ht
        obtain ⟨rfl, rfl⟩ := ht
        cases hs with
        | cons hs0 hs1 =>
        rename_i e es1
        cases hs0
        have hro := hinh r _ hrow
        have hrg : g r = some ⟨.arr t l, .own⟩ := hg _ _ hrow
        obtain ⟨ri, hρr, _, _⟩ := hh.rows r _ hrg
        obtain ⟨k1, k2⟩ := hh.rename hrg hρr hfp
        have hrne : r ≠ base + p := by rintro rfl; exact hin hro
        have hl : thawL ow base p (.sl t l :: es1) = .ow (base + p) :: thawL ow base (p + 1) es1 := by simp [thawL, hb]
        refine go _ _ (upd h r none) cs1 es1 (.sl t l) ht1 hs1 rfl k1 k2 (fun q row hq => ?_) (fun q hq => ⟨upd_other _ _ _ _ ?_, fun hn => ?_⟩) (fun q hn => ?_) (fun q hq => ⟨?_, upd_other _ _ _ _ (by omega)⟩) (fun q h1 _ => upd_other _ _ _ _ (by omega))
          (fun q qi hq => by rw [upd_other]; exact hq; rintro rfl; rw [hfp] at hq; cases hq) ⟨noRef_sl _ _, rfl⟩ (fun ρ' g' hk => ?_) ?_ (fun q hq => ?_) (fun j hj => ?_)
        · by_cases hqr : q = r
          · subst hqr; rw [upd_same] at hq; cases hq
          · rw [upd_other _ _ _ _ hqr] at hq
            have : q ≠ base + p := by rintro rfl; exact hin (hinh _ _ hq)
            rw [upd_other _ _ _ _ this, upd_other _ _ _ _ hqr]; exact hg _ _ hq
        · rintro rfl; exact hin hq
        · have hqn : q ≠ base + p := by rintro rfl; exact hin hq
          have hqr : q ≠ r := by rintro rfl; rw [hrow] at hn; cases hn
          rw [upd_other _ _ _ _ hqn, upd_other _ _ _ _ hqr]
        · by_cases hqr : q = r
          · subst hqr; exact upd_same _ _ _
          · rw [upd_other _ _ _ _ hqr]; exact hn
        · rw [upd_other _ _ _ _ (by omega), upd_other]
          rintro rfl; exact hro ⟨by omega, by omega⟩
        · simp only [hl]
          refine ⟨by simp, ?_⟩
          have : VR w (upd ρ (base + p) (some ri)) (Bad outer (upd ρ (base + p) (some ri)) (upd (upd g r none) (base + p) (some ⟨.arr t l, .own⟩))) (u 0) (.ow (base + p)) := by
            rcases hv00.ow_inv hρr with ⟨e1, e2, e3, e4⟩ | ⟨ao, e1, e2, e3⟩
            · rw [e1]; exact .ow _ ri (upd_same _ _ _) e3 e4 e2
            · rw [e1]; exact .owN _ ri ao (upd_same _ _ _) e3 e2
          exact hk _ _ this
        · simp only [thawH, hb, cond_true, upd_same]
        · simp only [thawH, hb, cond_true]; rw [upd_other _ _ _ _ (by omega)]
        · simp only [hl]
          exact ⟨by simpa using hj, by simp⟩
      · split at ht
        case h_2 => cases ht
        rename_i cs1 h1 ht1
        simp only [Option.some.injEq, Prod.mk.injEq] at ht
        obtain ⟨rfl, rfl⟩ := ht
        have hu0 : u 0 = .slice none 0 0 := by generalize u 0 = x at hv00; cases hv00; rfl
        cases hs with
        | cons hs0 hs1 =>
        rename_i e es1
        cases hs0 with
        | refl =>
          have hl : thawL ow base p (.nil :: es1) = .nil :: thawL ow base (p + 1) es1 := by simp [thawL]
          have hth : ∀ q, thawH ow base (fun _ => none) p (.nil :: es1) q = thawH ow base (fun _ => none) (p + 1) es1 q := fun q => by simp [thawH]
          refine go ρ g h cs1 es1 .nil ht1 hs1 rfl hh (fun _ _ h => h) hg (fun r hr => ⟨rfl, fun _ => rfl⟩) (fun _ h => h) (fun q hq => ⟨rfl, rfl⟩) (fun _ _ _ => rfl) (fun _ _ h => h) ⟨fun _ => .nil, rfl⟩ (fun ρ' g' hk => ?_) ?_ (fun q hq => hth _) (fun j hj => ?_)
          · simp only [hl]; exact ⟨by simp, by rw [hu0]; exact .nil⟩
          · rw [hth, thawH_none _ _ _ _ _ (by omega), hgp]
          · simp only [hl]; exact ⟨by simpa using hj, by simp⟩
        | nil t =>
          have hl : thawL ow base p (.sl t [] :: es1) = .ow (base + p) :: thawL ow base (p + 1) es1 := by simp [thawL, hb]
          obtain ⟨k1, k2⟩ := hh.empty t hfp
          refine go _ _ h cs1 es1 (.sl t []) ht1 hs1 rfl k1 k2 (fun q row hq => ?_) (fun q hq => ⟨upd_other _ _ _ _ ?_, fun hn => upd_other _ _ _ _ ?_⟩) (fun _ h => h) (fun q hq => ⟨upd_other _ _ _ _ (by omega), upd_other _ _ _ _ (by omega)⟩) (fun q h1 _ => upd_other _ _ _ _ (by omega))
            (fun q qi hq => by rw [upd_other]; exact hq; rintro rfl; rw [hfp] at hq; cases hq) ⟨noRef_sl _ _, rfl⟩ (fun ρ' g' hk => ?_) ?_ (fun q hq => ?_) (fun j hj => ?_)
          · rw [upd_other _ _ _ _ (by rintro rfl; exact hin (hinh _ _ hq))]; exact hg _ _ hq
          · rintro rfl; exact hin hq
          · rintro rfl; exact hin hq
          · simp only [hl]
            refine ⟨by simp, hk _ _ ?_⟩
            rw [hu0]; exact .owN _ ⟨0, 0, 0, true⟩ none (upd_same _ _ _) rfl rfl
          · simp only [thawH, hb, cond_true, upd_same]
          · simp only [thawH, hb, cond_true]; rw [upd_other _ _ _ _ (by omega)]
          · simp only [hl]; exact ⟨by simpa using hj, by simp⟩
      · cases ht

/-- The same under other numbers. -/
theorem thawL_shift {bad bad2 : Nat → Prop} {ρ2 : Nat → Option RI} (ow : List Nat) (B B2 : Nat) : ∀ (es : List V) (p : Nat) (u : Nat → Value),
    (∀ q, p ≤ q → q < p + es.length → ρ2 (B2 + q) = ρ (B + q)) → (∀ j (hj : j < es.length), NoRef es[j]) → (∀ b, bad2 b → bad b) →
    (∀ j (hj : j < (thawL ow B p es).length), VR w ρ bad (u j) (thawL ow B p es)[j]) → ∀ j (hj : j < (thawL ow B2 p es).length), VR w ρ2 bad2 (u j) (thawL ow B2 p es)[j]
  | [], p, u, hρ, hc, hb, hv, j, hj => by simp [thawL] at hj
  | e :: es, p, u, hρ, hc, hb, hv, j, hj => by
    have split1 : ∀ (B : Nat), ∃ e', thawL ow B p (e :: es) = e' :: thawL ow B (p + 1) es ∧ (e' = e ∨ e' = .ow (B + p)) ∧ ((∃ t l, e = .sl t l ∧ ow.any (Nat.beq p) = true) → e' = .ow (B + p)) ∧
        ((¬ ∃ t l, e = .sl t l ∧ ow.any (Nat.beq p) = true) → e' = e) := fun B => by
      cases e <;> simp only [thawL] <;> try exact ⟨_, rfl, .inl rfl, fun ⟨_, _, h, _⟩ => (by cases h), fun _ => rfl⟩
      rename_i t l
      cases hb : ow.any (Nat.beq p)
      · exact ⟨_, rfl, .inl rfl, fun ⟨_, _, _, h⟩ => (by cases h), fun _ => rfl⟩
      · exact ⟨_, rfl, .inr rfl, fun _ => rfl, fun h => absurd ⟨t, l, rfl, rfl⟩ h⟩
    obtain ⟨e1, s1, _, s2, s3⟩ := split1 B
    obtain ⟨e2, t1, _, t2, t3⟩ := split1 B2
    have ih := thawL_shift ow B B2 es (p + 1) (fun j => u (j + 1)) (fun q h1 h2 => hρ q (by omega) (by simp; omega)) (fun j hj => hc (j + 1) (by simp; omega)) hb
      (fun j hj => by
        have := hv (j + 1) (by rw [s1]; simp; omega)
        simpa [s1] using this)
    simp only [t1] at hj ⊢
    cases j with
    | succ j => exact ih j (by simpa using hj)
    | zero =>
      have hv0 := hv 0 (by rw [s1]; simp)
      simp only [s1, List.getElem_cons_zero] at hv0 ⊢
      by_cases hs : ∃ t l, e = .sl t l ∧ ow.any (Nat.beq p) = true
      · rw [s2 hs] at hv0; rw [t2 hs]
        have hq := hρ p (Nat.le_refl _) (by simp)
        generalize u 0 = u0 at hv0
        cases hv0 with
        | ow _ ri h1 h2 h3 h4 => exact .ow _ ri (by rw [hq]; exact h1) h2 h3 h4
        | owN _ ri ao h1 h2 h3 => exact .owN _ ri ao (by rw [hq]; exact h1) h2 h3
      · rw [s3 hs] at hv0; rw [t3 hs]
        exact (hv0.noRef (hc 0 (by simp)) ρ2).mono (fun _ _ h => h) (fun _ _ _ => rfl) fun b h => .inl (hb b h)

/-- A variable, read otherwise. -/
theorem HRel.reread (hh : HRel w0 outer own ρ h w) {r : Nat} {cs es : List V} {m : Mode} (hr : h r = some ⟨.box cs, m⟩) (hlen : es.length = cs.length)
    (hv : ∀ ri, ρ r = some ri → ∀ j (hj : j < es.length), VR w ρ (Bad outer ρ h) ((w.cell? (at_ ri.b j)).getD undef) es[j]) :
    HRel w0 outer own ρ (upd h r (some ⟨.box es, m⟩)) w ∧ ∀ u d, VR w ρ (Bad outer ρ h) u d → VR w ρ (Bad outer ρ (upd h r (some ⟨.box es, m⟩))) u d := by
  have hbad : ∀ b, Bad outer ρ (upd h r (some ⟨.box es, m⟩)) b → Bad outer ρ h b := fun b hb => hb.mono fun q row' h1 h2 => by
    by_cases hq : q = r
    · subst hq; rw [upd_same] at h1; cases h1; exact ⟨_, hr, h2⟩
    · rw [upd_other _ _ _ _ hq] at h1; exact ⟨row', h1, h2⟩
  have hk : ∀ u d, VR w ρ (Bad outer ρ h) u d → VR w ρ (Bad outer ρ (upd h r (some ⟨.box es, m⟩))) u d := fun u d hu => hu.mono (fun _ _ h => h) (fun _ _ _ => rfl) fun b hb => .inl (hbad b hb)
  have old : ∀ q row, upd h r (some ⟨.box es, m⟩) q = some row → ∃ row', h q = some row' ∧ (q = r ∧ row = ⟨.box es, m⟩ ∨ row = row') := fun q row hq => by
    by_cases hqr : q = r
    · subst hqr; rw [upd_same] at hq; cases hq; exact ⟨_, hr, .inl ⟨rfl, rfl⟩⟩
    · rw [upd_other _ _ _ _ hqr] at hq; exact ⟨row, hq, .inr rfl⟩
  refine ⟨⟨hh.wx, hh.old, hh.outLt, fun q row hq => ?_, fun q q' row row' qi qi' h1 h2 h3 h4 => ?_⟩, hk⟩
  · obtain ⟨row', h1, h2⟩ := old q row hq
    obtain ⟨ri, h3, h4, h5⟩ := hh.rows q row' h1
    have h5' : ri.nl = false → (¬ outer ri.b ∧ (row.m.isRo = false → w0.heap.size ≤ ri.b ∨ own ri.b)) ∧ ri.b < w.heap.size := by
      rcases h2 with ⟨rfl, rfl⟩ | rfl
      · rw [hr] at h1; cases h1; exact h5
      · exact h5
    refine ⟨ri, h3, ?_, h5'⟩
    rcases h2 with ⟨rfl, rfl⟩ | rfl
    · rw [hr] at h1; cases h1
      refine ⟨h4.1, fun j hj => ?_⟩
      obtain ⟨f1, u, f2, _⟩ := h4.2 j (by omega)
      refine ⟨f1, u, f2, ?_⟩
      have := hv ri h3 j hj
      rw [f2] at this; exact hk _ _ this
    · exact h4.keep (fun _ => rfl) hk
  · obtain ⟨_, g1, _⟩ := old q row h1
    obtain ⟨_, g2, _⟩ := old q' row' h2
    exact hh.inj q q' _ _ qi qi' g1 g2 h3 h4

end
end Go.D
