/-
  The arguments of a call.
-/
import Derived.Test.YtilkenfgjljknaaOps12
namespace Go.D

/-- What a function finds as it begins: the variables that it is handed, under its own numbers. -/
def entH : List ArgK → Nat → List V → Nat → Option Row
  | .plain :: ks, k, _ :: as => entH ks (k + 1) as
  | .ptr ow :: ks, k, .agg cs :: as => upd (thawH ow (64 * k) (entH ks (k + 1) as) 0 cs) (64 * k + 63) (some ⟨.box (thawL ow (64 * k) 0 cs), .own⟩)
  | _, _, _ => fun _ => none

def entS : List ArgK → Nat → List V → List V
  | .plain :: ks, k, v :: as => v :: entS ks (k + 1) as
  | .ptr _ :: ks, k, _ :: as => .bp (64 * k + 63) 0 :: entS ks (k + 1) as
  | _, _, _ => []

def boxOf : List ArgK → Nat → List Nat → Nat → Option Nat
  | .plain :: ks, k, bs, q => boxOf ks (k + 1) bs q
  | .ptr _ :: ks, k, b :: bs, q => if q = 64 * k + 63 then some b else boxOf ks (k + 1) bs q
  | _, _, _, _ => none

theorem boxOf_ge : ∀ (ks : List ArgK) (k : Nat) (bs : List Nat) (q b : Nat), boxOf ks k bs q = some b → 64 * k + 63 ≤ q ∧ q % 64 = 63 ∧ b ∈ bs
  | [], k, bs, q, b, h => by simp [boxOf] at h
  | .plain :: ks, k, bs, q, b, h => by
    simp only [boxOf] at h
    obtain ⟨h1, h2, h3⟩ := boxOf_ge ks (k + 1) bs q b h
    exact ⟨by omega, h2, h3⟩
  | .ptr ow :: ks, k, [], q, b, h => by simp [boxOf] at h
  | .ptr ow :: ks, k, c :: bs, q, b, h => by
    simp only [boxOf] at h
    split at h
    · cases h; exact ⟨by omega, by omega, by simp⟩
    · obtain ⟨h1, h2, h3⟩ := boxOf_ge ks (k + 1) bs q b h
      exact ⟨by omega, h2, by simp [h3]⟩

theorem boxOf_inj : ∀ (ks : List ArgK) (k : Nat) (bs : List Nat) (q q' b : Nat), bs.Nodup → boxOf ks k bs q = some b → boxOf ks k bs q' = some b → q = q'
  | [], k, bs, q, q', b, hn, h, h' => by simp [boxOf] at h
  | .plain :: ks, k, bs, q, q', b, hn, h, h' => boxOf_inj ks (k + 1) bs q q' b hn h h'
  | .ptr ow :: ks, k, [], q, q', b, hn, h, h' => by simp [boxOf] at h
  | .ptr ow :: ks, k, c :: bs, q, q', b, hn, h, h' => by
    simp only [boxOf] at h h'
    simp only [List.nodup_cons] at hn
    split at h <;> split at h'
    · omega
    · cases h; exact absurd (boxOf_ge _ _ _ _ _ h').2.2 hn.1
    · cases h'; exact absurd (boxOf_ge _ _ _ _ _ h).2.2 hn.1
    · exact boxOf_inj ks (k + 1) bs q q' b hn.2 h h'

theorem boxOf_lt : ∀ (ks : List ArgK) (k : Nat) (bs : List Nat) (q b : Nat), boxOf ks k bs q = some b → q < 64 * (k + ks.length)
  | [], k, bs, q, b, h => by simp [boxOf] at h
  | .plain :: ks, k, bs, q, b, h => by
    simp only [boxOf] at h
    have := boxOf_lt ks (k + 1) bs q b h
    simp; omega
  | .ptr ow :: ks, k, [], q, b, h => by simp [boxOf] at h
  | .ptr ow :: ks, k, c :: bs, q, b, h => by
    simp only [boxOf] at h
    split at h
    · simp; omega
    · have := boxOf_lt ks (k + 1) bs q b h
      simp; omega

theorem thawH_shift (ow : List Nat) (B B2 : Nat) : ∀ (es : List V) (p q : Nat), thawH ow B (fun _ => none) p es (B + q) = thawH ow B2 (fun _ => none) p es (B2 + q)
  | [], p, q => rfl
  | e :: es, p, q => by
    have ih := thawH_shift ow B B2 es (p + 1) q
    cases e <;> simp only [thawH] <;> try exact ih
    cases hb : ow.any (Nat.beq p)
    · simpa using ih
    · simp only [cond_true]
      by_cases hq : q = p
      · subst hq; rw [upd_same, upd_same]
      · rw [upd_other _ _ _ _ (by omega), upd_other _ _ _ _ (by omega)]; exact ih

theorem thawH_arr (ow : List Nat) (B : Nat) : ∀ (es : List V) (p r : Nat) (row : Row), thawH ow B (fun _ => none) p es r = some row → ∃ t l, row = ⟨.arr t l, .own⟩ ∧ B + p ≤ r ∧ r < B + p + es.length
  | [], p, r, row, h => by simp [thawH] at h
  | e :: es, p, r, row, h => by
    have ih := thawH_arr ow B es (p + 1) r row
    have nx : thawH ow B (fun _ => none) (p + 1) es r = some row → ∃ t l, row = ⟨.arr t l, .own⟩ ∧ B + p ≤ r ∧ r < B + p + (e :: es).length := fun h => by
      obtain ⟨t, l, h1, h2, h3⟩ := ih h; exact ⟨t, l, h1, by omega, by simp; omega⟩
    cases e <;> simp only [thawH] at h <;> try exact nx h
    cases hb : ow.any (Nat.beq p)
    · simp only [hb, cond_false] at h; exact nx h
    · simp only [hb, cond_true] at h
      by_cases hr : r = B + p
      · subst hr; rw [upd_same] at h; cases h; exact ⟨_, _, rfl, Nat.le_refl _, by simp⟩
      · rw [upd_other _ _ _ _ hr] at h; exact nx h

section
variable {C : Cx} {w0 : World} {outer own : Nat → Prop} {ρ : Nat → Option RI} {st st' : St} {a : Act} {w : World} {h : Nat → Option Row}

inductive EntOk (w : World) (ρ : Nat → Option RI) (bad : Nat → Prop) (g : Nat → Option Row) (N0 : Nat) : List ArgK → Nat → List V → List Nat → (Nat → Value) → Prop
  | nil (k : Nat) (u : Nat → Value) : EntOk w ρ bad g N0 [] k [] [] u
  | plain {ks : List ArgK} {k : Nat} {v : V} {as : List V} {bs : List Nat} {u : Nat → Value} (hv : VR w ρ bad (u 0) v) (hn : NoRef v) (hr : EntOk w ρ bad g N0 ks (k + 1) as bs fun j => u (j + 1)) :
      EntOk w ρ bad g N0 (.plain :: ks) k (v :: as) bs u
  | ptr {ow : List Nat} {ks : List ArgK} {k b : Nat} {cs as : List V} {bs : List Nat} {u : Nat → Value} (ri : RI) (hρ : ρ b = some ri) (hnl : ri.nl = false) (hu : u 0 = .pointer (some (at_ ri.b 0)))
      (hg : g b = some ⟨.box (thawL ow (N0 + 64 * k) 0 cs), .own⟩) (hl : cs.length ≤ 63) (hq : ∀ q, q < 64 → g (N0 + 64 * k + q) = thawH ow (N0 + 64 * k) (fun _ => none) 0 cs (N0 + 64 * k + q))
      (hc : ∀ j (hj : j < cs.length), NoRef cs[j] ∧ (cs[j]).leaf = true) (hb : b < N0) (hr : EntOk w ρ bad g N0 ks (k + 1) as bs fun j => u (j + 1)) :
      EntOk w ρ bad g N0 (.ptr ow :: ks) k (.agg cs :: as) (b :: bs) u

theorem Subs.rfl' : ∀ (cs : List V), Subs cs cs
  | [] => .nil
  | c :: cs => .cons (.refl c) (Subs.rfl' cs)

theorem takeArgs_ptr {ow : List Nat} {ks : List ArgK} {v : V} {vs : List V} {x : List V × (Nat → Option Row) × List Nat} (ht : takeArgs (.ptr ow :: ks) (v :: vs) h = some x) : ∃ r, v = .bp r 0 := by
  unfold takeArgs at ht
  split at ht
  · simp_all
  · simp_all
  · rename_i e1 e2; simp only [List.cons.injEq] at e2; exact ⟨_, e2.1⟩
  · cases ht

theorem take_args (N0 : Nat) : ∀ (ks : List ArgK) (as : List V) (h h' : Nat → Option Row) (as' : List V) (bs : List Nat) (k : Nat) (ρ : Nat → Option RI) (g : Nat → Option Row) (u : Nat → Value),
    takeArgs ks as h = some (as', h', bs) → HRel w0 outer own ρ g w → (∀ j (hj : j < as.length), VR w ρ (Bad outer ρ g) (u j) as[j]) → Lies h g → (∀ r, N0 + 64 * k ≤ r → ρ r = none) → (∀ r, N0 ≤ r → h r = none) →
    ∃ ρ' g', HRel w0 outer own ρ' g' w ∧ Lies h' g' ∧ (∀ r, h r = none → h' r = none) ∧ (∀ r, h r = none → r < N0 + 64 * k → g' r = g r) ∧ (∀ r ri, ρ r = some ri → ρ' r = some ri) ∧
      (∀ v d, VR w ρ (Bad outer ρ g) v d → VR w ρ' (Bad outer ρ' g') v d) ∧ EntOk w ρ' (Bad outer ρ' g') g' N0 ks k as' bs u ∧
      (∀ b ∈ bs, h' b = none ∧ h b ≠ none) ∧ bs.Nodup ∧ as.length = ks.length ∧ (∀ r, r < N0 → ρ' r = ρ r)
  | [], [], h, h', as', bs, k, ρ, g, u, ht, hh, hv, hg, hf, hN => by
    simp only [takeArgs, Option.some.injEq, Prod.mk.injEq] at ht
    obtain ⟨rfl, rfl, rfl⟩ := ht
    exact ⟨ρ, g, hh, hg, fun _ h => h, fun _ _ _ => rfl, fun _ _ h => h, fun _ _ h => h, .nil _ _, fun b hb => by simp at hb, by simp, rfl, fun _ _ => rfl⟩
  | [], _ :: _, h, h', as', bs, k, ρ, g, u, ht, hh, hv, hg, hf, hN => by simp [takeArgs] at ht
  | .plain :: ks, [], h, h', as', bs, k, ρ, g, u, ht, hh, hv, hg, hf, hN => by simp [takeArgs] at ht
  | .ptr _ :: ks, [], h, h', as', bs, k, ρ, g, u, ht, hh, hv, hg, hf, hN => by simp [takeArgs] at ht
  | .plain :: ks, v :: vs, h, h', as', bs, k, ρ, g, u, ht, hh, hv, hg, hf, hN => by
    simp only [takeArgs] at ht
    split at ht
    · cases ht
    rename_i v' ids hfz
    split at ht
    · cases ht
    rename_i as2 h2 bs2 ht2
    simp only [Option.some.injEq, Prod.mk.injEq] at ht
    obtain ⟨rfl, rfl, rfl⟩ := ht
    obtain ⟨k1, k2⟩ := frz_lies hg hfz
    have k2 : ∀ r ∈ ids, ∃ row, h r = some row := k2
    obtain ⟨m1, m2⟩ := hh.mark ids
    obtain ⟨f1, f2⟩ := frz_ok hh (hv 0 (by simp)) k1
    have hnn : ∀ r, h r = none → r ∉ ids := fun r hn hm => by obtain ⟨row, h5⟩ := k2 r hm; rw [hn] at h5; cases h5
    have hmn : ∀ r, h r = none → markRo h ids r = none := fun r hn => by rw [markRo_get, if_neg (hnn r hn)]; exact hn
    obtain ⟨ρ', g', c1, c2, c3, c4, c5, c6, c7, c8, c9, c10, c11⟩ := take_args N0 ks vs (markRo h ids) h2 as2 bs2 (k + 1) ρ (markRo g ids) (fun j => u (j + 1)) ht2 m1
      (fun j hj => m2 _ _ (hv (j + 1) (by simp; omega))) (lies_mark hg ids) (fun r hr => hf r (by omega)) (fun r hr => hmn r (hN r hr))
    refine ⟨ρ', g', c1, c2, fun r hr => c3 r (hmn r hr), fun r hr hk => ?_, c5, fun v d hd => c6 _ _ (m2 _ _ hd), .plain (c6 _ _ f1) f2 c7, fun b hb => ?_, c9, by simp [c10], c11⟩
    · rw [c4 r (hmn r hr) (by omega), markRo_get, if_neg (hnn r hr)]
    · obtain ⟨d1, d2⟩ := c8 b hb
      exact ⟨d1, fun hn => d2 (hmn b hn)⟩
  | .ptr ow :: ks, v :: vs, h, h', as', bs, k, ρ, g, u, ht, hh, hv, hg, hf, hN => by
    obtain ⟨r, rfl⟩ := takeArgs_ptr ht
    simp only [takeArgs] at ht
    split at ht
    case h_2 => cases ht
    rename_i cs hrow
    cases hle : Nat.ble cs.length 63
    case false => simp [hle] at ht
    simp only [hle, cond_true] at ht
    have hle := Nat.le_of_ble_eq_true hle
    split at ht
    · cases ht
    rename_i cs' h1 htl
    split at ht
    · cases ht
    rename_i as2 h2 bs2 ht2
    simp only [Option.some.injEq, Prod.mk.injEq] at ht
    obtain ⟨rfl, rfl, rfl⟩ := ht
    have hrN : r < N0 := by
      rcases Nat.lt_or_ge r N0 with h3 | h3
      · exact h3
      · rw [hN r h3] at hrow; cases hrow
    have hgr := hg _ _ hrow
    have hv0 := hv 0 (by simp)
    simp only [List.getElem_cons_zero] at hv0
    obtain ⟨ri, hρ, hro, _⟩ := hh.rows r _ hgr
    have hu0 : u 0 = .pointer (some (at_ ri.b 0)) ∧ ri.nl = false := by
      generalize u 0 = x at hv0
      cases hv0 with
      | bp _ _ ri' h3 h4 => rw [hρ] at h3; cases h3; exact ⟨rfl, h4⟩
    have hless : ∀ q, h q = none → upd h r none q = none := fun q hq => by
      by_cases hqr : q = r
      · subst hqr; exact upd_same _ _ _
      · rw [upd_other _ _ _ _ hqr]; exact hq
    obtain ⟨ρ1, g1, T, hlen⟩ := take_thaw ow (N0 + 64 * k) 64 cs 0 (upd h r none) h1 cs' cs' ρ g (fun j => (w.cell? (at_ ri.b j)).getD undef) htl (Subs.rfl' _) (by omega) hh
      (fun j hj => by obtain ⟨_, x, f1, f2⟩ := hro.2 j hj; rw [f1]; exact f2)
      (fun q row hq => by
        by_cases hqr : q = r
        · subst hqr; rw [upd_same] at hq; cases hq
        · rw [upd_other _ _ _ _ hqr] at hq; exact hg _ _ hq)
      (fun q hq => hless _ (hN _ (by omega))) (fun q _ _ => hf _ (by omega))
    have hrout : Out (N0 + 64 * k) 64 r := fun h3 => by omega
    have hg1r : g1 r = some ⟨.box cs, .own⟩ := by rw [(T.out r hrout).2 (upd_same _ _ _)]; exact hgr
    have hρ1 : ρ1 r = some ri := T.ext _ _ hρ
    obtain ⟨n1, n2⟩ := T.heap.reread hg1r (es := thawL ow (N0 + 64 * k) 0 cs') (by rw [thawL_len]; exact hlen) (fun ri' h3 j hj => by rw [hρ1] at h3; cases h3; exact T.vals j hj)
    have hh1r : h1 r = none := T.less r (upd_same _ _ _)
    obtain ⟨ρ', g', c1, c2, c3, c4, c5, c6, c7, c8, c9, c10, c11⟩ := take_args N0 ks vs h1 h2 as2 bs2 (k + 1) ρ1 _ (fun j => u (j + 1)) ht2 n1
      (fun j hj => n2 _ _ (T.keep _ _ (hv (j + 1) (by simp; omega))))
      (fun q row hq => by
        have hqr : q ≠ r := by rintro rfl; rw [hh1r] at hq; cases hq
        rw [upd_other _ _ _ _ hqr]; exact T.lies _ _ hq)
      (fun q hq => by rw [(T.out q (fun h3 => by omega)).1]; exact hf q (by omega)) (fun q hq => T.less q (hless q (hN q hq)))
    have hout : ∀ q, h q = none → q < N0 + 64 * k → Out (N0 + 64 * k) 64 q := fun q _ h3 h4 => by omega
    refine ⟨ρ', g', c1, c2, fun q hq => c3 q (T.less q (hless q hq)), fun q hq hk => ?_, fun q qi hq => c5 _ _ (T.ext _ _ hq), fun v d hd => c6 _ _ (n2 _ _ (T.keep _ _ hd)),
      .ptr ri (c5 _ _ hρ1) hu0.2 hu0.1 ?_ (by omega) (fun q hq => ?_) T.closed hrN c7, fun b hb => ?_, ?_, by simp [c10], fun q hq => ?_⟩
    · have hqr : q ≠ r := by rintro rfl; rw [hrow] at hq; cases hq
      rw [c4 q (T.less q (hless q hq)) (by omega), upd_other _ _ _ _ hqr, (T.out q (hout q hq hk)).2 (hless q hq)]
    · rw [c4 r hh1r (by omega), upd_same]
    · rw [c4 _ (T.less _ (hless _ (hN _ (by omega)))) (by omega), upd_other _ _ _ _ (by omega), T.new q (by omega) hq]
    · rcases List.mem_cons.1 hb with rfl | hb
      · exact ⟨c3 _ hh1r, by rw [hrow]; simp⟩
      · obtain ⟨d1, d2⟩ := c8 b hb
        exact ⟨d1, fun hn => d2 (T.less b (hless b hn))⟩
    · refine List.nodup_cons.2 ⟨fun hm => (c8 r hm).2 hh1r, c9⟩
    · rw [c11 q hq, (T.out q (fun h3 => by omega)).1]

end
end Go.D
