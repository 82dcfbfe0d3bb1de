/-
  A function whose body the plain semantics computes: its contract.
-/
import Derived.Test.YtilkenfgjljknaaBd
namespace Go.D

section
variable {C : Cx} {w0 : World} {outer own D : Nat → Prop} {R : Type} {st st1 st2 : St} {ρ ρ1 ρ2 : Nat → Option RI} {a a1 a2 : Act} {w w1 w2 : World} {j : JI}

theorem tup_split {t : Ty} {ats : List Ty} {as : List V} {x : TyTup (t :: ats)} (hd : decTup (t :: ats) as = some x) :
    ∃ v vs y, as = v :: vs ∧ ∃ (x0 : t.T), decTy t v = some x0 ∧ decTup ats vs = some y ∧ encTup (t :: ats) x = encTy t x0 :: encTup ats y := by
  cases ats with
  | nil =>
    cases as with
    | nil => simp [decTup] at hd
    | cons v vs =>
      cases vs with
      | nil => exact ⟨v, [], (), rfl, x, by simpa [decTup] using hd, rfl, rfl⟩
      | cons => simp [decTup] at hd
  | cons d r =>
    cases as with
    | nil => simp [decTup] at hd
    | cons v vs =>
      simp only [decTup] at hd
      obtain ⟨x0, h1, h2⟩ := Option.bind_eq_some_iff.1 hd
      obtain ⟨y, h3, h4⟩ := Option.bind_eq_some_iff.1 h2
      cases h4
      exact ⟨v, vs, y, rfl, x0, h1, h3, rfl⟩

theorem putBoxes_enc : ∀ (ks : List ArgK) (ats : List Ty) (as : List V) (x : TyTup ats) (k : Nat), ksOk ks ats = true → decTup ats as = some x →
    (∀ bs vs h, putBoxes ks (encTup ats x) bs vs h = putBoxes ks as bs vs h) ∧ ∀ bs q b, boxOf ks k bs q = some b → ∃ row, entH ks k as q = some row := by
  intro ks
  induction ks with
  | nil =>
    intro ats as x k hk hd
    cases ats with
    | nil => cases as with
      | nil => exact ⟨fun _ _ _ => rfl, fun bs q b h => by simp [boxOf] at h⟩
      | cons => simp [decTup] at hd
    | cons => simp [ksOk] at hk
  | cons g ks ih =>
    intro ats as x k hk hd
    cases ats with
    | nil => cases g with
      | plain => simp [ksOk] at hk
      | ptr ow => cases ow <;> simp [ksOk] at hk
    | cons t ats =>
      obtain ⟨v, vs, y, rfl, x0, h1, h3, h4⟩ := tup_split hd
      rw [h4]
      cases g with
      | plain =>
        simp only [ksOk] at hk
        obtain ⟨e1, e2⟩ := ih ats vs y (k + 1) hk h3
        exact ⟨fun bs ws h => e1 bs ws h, fun bs q b h => by simp only [boxOf] at h; exact e2 bs q b h⟩
      | ptr ow =>
        cases ow with
        | cons => simp [ksOk] at hk
        | nil =>
        cases t with
        | cells t =>
          simp only [ksOk] at hk
          obtain ⟨e1, e2⟩ := ih ats vs y (k + 1) hk h3
          simp only [decTy] at h1
          split at h1
          · rename_i cs
            have hl := (dec_sub t h1).len
            refine ⟨fun bs ws h => ?_, fun bs q b h => ?_⟩
            · cases bs with
              | nil => rfl
              | cons b bs => simp only [encTy, putBoxes, ← hl, e1]
            · cases bs with
              | nil => simp [boxOf] at h
              | cons c bs =>
                simp only [boxOf] at h
                simp only [entH, thawL_nil, thawH_nil]
                by_cases hq : q = 64 * k + 63
                · subst hq; exact ⟨_, upd_same _ _ _⟩
                · rw [if_neg hq] at h
                  rw [upd_other _ _ _ _ hq]; exact e2 bs q b h
          · cases h1
        | _ => simp [ksOk] at hk

theorem box_vals (hh : HRel w0 outer own ρ st.h w) : ∀ (ks : List ArgK) (as : List V) (k : Nat) (us : List V), boxLeaves st ks as k = some us →
    ∃ uc : Nat → Value, (∀ j (hj : j < us.length), VR w ρ (Bad outer ρ st.h) (uc j) us[j]) ∧
      ∀ (bs : List Nat) (vs : List V) (h0 : Nat → Option Row) (r : Nat) (row : Row), putBoxes ks as bs vs h0 r = some row → h0 r = some row ∨
        ∃ q off n cs ri, boxOf ks k bs q = some r ∧ row = ⟨.box ((vs.drop off).take n), .own⟩ ∧ off + n ≤ us.length ∧ st.h q = some ⟨.box cs, .own⟩ ∧ ρ q = some ri ∧ ri.nl = false ∧
          ∀ i, i < n → w.frozen? (at_ ri.b i) = false ∧ w.cell? (at_ ri.b i) = some (uc (off + i)) := by
  intro ks
  induction ks with
  | nil =>
    intro as k us h
    cases as with
    | nil =>
      simp only [boxLeaves, Option.some.injEq] at h; subst h
      exact ⟨fun _ => undef, fun j hj => by simp at hj, fun bs vs h0 r row hr => .inl (by simpa [putBoxes] using hr)⟩
    | cons => simp [boxLeaves] at h
  | cons g ks ih =>
    intro as k us h
    cases g with
    | plain =>
      cases as with
      | nil => simp [boxLeaves] at h
      | cons v as =>
        simp only [boxLeaves] at h
        obtain ⟨uc, h1, h2⟩ := ih as (k + 1) us h
        exact ⟨uc, h1, fun bs vs h0 r row hr => by simp only [putBoxes] at hr; simp only [boxOf]; exact h2 bs vs h0 r row hr⟩
    | ptr ow =>
      cases as with
      | nil => simp [boxLeaves] at h
      | cons v as =>
        cases v with
        | agg cs0 =>
          simp only [boxLeaves] at h
          split at h
          case h_2 => cases h
          rename_i cs us' hrow hbl
          cases hb : Nat.beq cs.length cs0.length
          case false => simp [hb] at h
          simp only [hb, cond_true, Option.some.injEq] at h
          subst h
          have hl := Nat.eq_of_beq_eq_true hb
          obtain ⟨uc, h1, h2⟩ := ih as (k + 1) us' hbl
          obtain ⟨ri, hρ, hro, _⟩ := hh.rows _ _ hrow
          refine ⟨fun j => if j < cs.length then (w.cell? (at_ ri.b j)).getD undef else uc (j - cs.length), fun j hj => ?_, fun bs vs h0 r row hr => ?_⟩
          · dsimp only
            by_cases hj1 : j < cs.length
            · rw [if_pos hj1, List.getElem_append_left hj1]
              obtain ⟨_, u, f1, f2⟩ := hro.2 j hj1
              rw [f1]; exact f2
            · rw [if_neg hj1, List.getElem_append_right (by omega)]
              exact h1 _ _
          · cases bs with
            | nil => exact .inl (by simpa [putBoxes] using hr)
            | cons b bs =>
              simp only [putBoxes] at hr
              by_cases hrb : r = b
              · subst hrb
                rw [upd_same] at hr; cases hr
                refine .inr ⟨64 * k + 63, 0, cs0.length, cs, ri, by simp [boxOf], by simp, by simp; omega, hrow, hρ, hro.1, fun i hi => ?_⟩
                obtain ⟨f0, u, f1, f2⟩ := hro.2 i (by omega)
                refine ⟨f0, ?_⟩
                dsimp only
                rw [if_pos (by omega)]
                simp [f1]
              · rw [upd_other _ _ _ _ hrb] at hr
                rcases h2 bs _ h0 r row hr with h3 | ⟨q, off, n, cs', ri', e1, e2, e3, e4, e5, e6, e7⟩
                · exact .inl h3
                · refine .inr ⟨q, cs0.length + off, n, cs', ri', ?_, by rw [e2, List.drop_drop], by simp; omega, e4, e5, e6, fun i hi => ?_⟩
                  · have := (boxOf_ge _ _ _ _ _ e1).1
                    simp only [boxOf]; rw [if_neg (by omega)]; exact e1
                  · obtain ⟨g1, g2⟩ := e7 i hi
                    refine ⟨g1, ?_⟩
                    dsimp only
                    rw [g2, if_neg (by omega)]
                    congr 2; omega
        | _ => simp [boxLeaves] at h

theorem frzLeaf_arr {h : Nat → Option Row} {v : V} {x : V × List Nat} (hf : frzLeaf h v = some x) : ∀ r ∈ x.2, ∃ t l m, h r = some ⟨.arr t l, m⟩ := by
  unfold frzLeaf at hf
  split at hf
  · rename_i r
    split at hf
    · rename_i t l m hr
      cases hm : m.isLock <;> simp [hm] at hf
      subst hf; intro q hq; simp at hq; subst hq; exact ⟨_, _, _, hr⟩
    · cases hf
  · rename_i r t off len
    split at hf
    · rename_i t' l m hr
      cases hm : m.isLock
      · simp only [hm, cond_false] at hf
        split at hf
        · simp at hf; subst hf; intro q hq; simp at hq; subst hq; exact ⟨_, _, _, hr⟩
        · cases hf
      · simp [hm] at hf
    · cases hf
  · cases hb : noRefN 8 v <;> simp [hb] at hf
    subst hf; simp

theorem takeLeaves_box (ow : List Nat) : ∀ (cs : List V) (p : Nat) (h : Nat → Option Row) (x : List V × (Nat → Option Row)) (q : Nat) (c : List V), takeLeaves ow p cs h = some x → h q = some ⟨.box c, .own⟩ → x.2 q = some ⟨.box c, .own⟩
  | [], p, h, x, q, c, ht, hq => by simp [takeLeaves] at ht; subst ht; exact hq
  | v :: cs, p, h, x, q, c, ht, hq => by
    simp only [takeLeaves] at ht
    cases hb : ow.any (Nat.beq p)
    · simp only [hb, cond_false] at ht
      split at ht
      case h_2 => cases ht
      rename_i c' ids hfz
      split at ht
      case h_2 => cases ht
      rename_i hr
      cases ht
      have hx := takeLeaves_box ow cs _ _ _ q c hr
      refine hx ?_
      rw [markRo_get, if_neg]
      · exact hq
      · intro hm
        obtain ⟨t, l, m, h3⟩ := frzLeaf_arr hfz q hm
        rw [hq] at h3; cases h3
    · simp only [hb, cond_true] at ht
      split at ht
      · split at ht
        case h_2 => cases ht
        rename_i hrow
        split at ht
        case h_2 => cases ht
        rename_i hr
        cases ht
        have hx := takeLeaves_box ow cs _ _ _ q c hr
        refine hx ?_
        rw [upd_other _ _ _ _ (by rintro rfl; rw [hrow] at hq; cases hq)]; exact hq
      · split at ht
        case h_2 => cases ht
        rename_i hr
        cases ht
        have hx := takeLeaves_box ow cs _ _ _ q c hr
        exact hx hq
      · cases ht


open Classical in
theorem fin_ok {fn : Func} {ks : List ArgK} {as : List V} {bs ow : List Nat} {base : Nat} {shape : List (Bool × Nat)} {rts : List Ty} {vs us rs : List V} {h2 : Nat → Option Row} {r : TyTup rts}
    (hr : Rel C w0 outer own ρ st a w) (hf : ∀ q, st.nx ≤ q → ρ q = none) (hres : resLeaves C.P st fn.results.toList shape = some vs) (hbl : boxLeaves st ks as 0 = some us)
    (htk : takeLeaves ow 0 (vs ++ us) st.h = some (rs, h2)) (hun : unflat rts rs = some r) (hlen : (flatTup rts r).length ≤ 64) (hnd : bs.Nodup) (hbo : ∀ b ∈ bs, Out base 64 b) :
    ∃ v, (results fn a.tmps).run C.P w = .ok v w ∧ ∃ ρf, HRel w0 outer own ρf (exH ks as bs ow base shape (flatTup rts r)) w ∧
      VR w ρf (Bad outer ρf (exH ks as bs ow base shape (flatTup rts r))) v (pack shape (thawL ow base 0 (flatTup rts r))) ∧
      (∀ q b, boxOf ks 0 bs q = some b → ρf b = ρ q) ∧ (∀ r, ρf r ≠ none → (base ≤ r ∧ r < base + 64) ∨ r ∈ bs) := by
  obtain ⟨rv, cells, k1, k2, k3, k4⟩ := results_ok hr hres
  obtain ⟨uc, u1, u2⟩ := box_vals hr.heap ks as 0 us hbl
  have hsub := unflat_sub rts rs r hun
  have hrsl := takeLeaves_len ow _ _ _ _ htk
  simp only at hrsl
  generalize hR0 : flatTup rts r = R0 at *
  have hRl : R0.length = vs.length + us.length := by rw [← hsub.len, hrsl, List.length_append]
  have hsh : shapeLen shape = vs.length := by rw [k1.len.1, k2]
  let M := st.nx
  let u : Nat → Value := fun j => if j < vs.length then cells.getD j undef else uc (j - vs.length)
  have hhn : ∀ q, st.nx ≤ q → st.h q = none := fun q hq => by
    cases hg : st.h q with
    | none => rfl
    | some row => obtain ⟨ri, h3, _⟩ := hr.heap.rows _ _ hg; rw [hf q hq] at h3; cases h3
  obtain ⟨ρ2, g2, T, hTl⟩ := take_thaw ow M 64 (vs ++ us) 0 st.h h2 rs R0 ρ st.h u htk hsub (by rw [List.length_append]; omega) hr.heap (fun j hj => by
      simp only [u]
      by_cases hj1 : j < vs.length
      · rw [if_pos hj1, List.getElem_append_left hj1]; exact k3 j hj1
      · rw [if_neg hj1, List.getElem_append_right (by omega)]; exact u1 _ (by simp at hj; omega)) (fun _ _ h => h) (fun q _ => hhn _ (by simp only [M]; omega)) (fun q _ _ => hf _ (by simp only [M]; omega))
  let ρf : Nat → Option RI := fun r => if base ≤ r ∧ r < base + 64 then ρ2 (M + (r - base)) else if h : ∃ q, boxOf ks 0 bs q = some r then ρ (Classical.choose h) else none
  let φ : Nat → Nat := fun r => if base ≤ r ∧ r < base + 64 then M + (r - base) else if h : ∃ q, boxOf ks 0 bs q = some r then Classical.choose h else 0
  have hfn : ∀ q, q < 64 → ρf (base + q) = ρ2 (M + q) ∧ φ (base + q) = M + q := fun q hq => by
    have h1 : base ≤ base + q ∧ base + q < base + 64 := by omega
    simp only [ρf, φ, if_pos h1]
    have : base + q - base = q := by omega
    simp [this]
  have hfb : ∀ q b, boxOf ks 0 bs q = some b → ρf b = ρ q ∧ φ b = q := fun q b hq => by
    have h1 : ¬ (base ≤ b ∧ b < base + 64) := hbo b (boxOf_ge _ _ _ _ _ hq).2.2
    have h2 : ∃ q, boxOf ks 0 bs q = some b := ⟨q, hq⟩
    have h3 : Classical.choose h2 = q := boxOf_inj ks 0 bs _ _ b hnd (Classical.choose_spec h2) hq
    simp only [ρf, φ, if_neg h1, dif_pos h2, h3]
    exact ⟨trivial, trivial⟩
  -- the rows
  have hrow : ∀ q row, exH ks as bs ow base shape R0 q = some row →
      (∃ p t l, p < 64 ∧ q = base + p ∧ row = ⟨.arr t l, .own⟩ ∧ g2 (M + p) = some row) ∨
      ∃ p off n cs ri, boxOf ks 0 bs p = some q ∧ row = ⟨.box ((((thawL ow base 0 R0).drop (shapeLen shape)).drop off).take n), .own⟩ ∧ off + n ≤ us.length ∧ g2 p = some ⟨.box cs, .own⟩ ∧ ρ p = some ri ∧ ri.nl = false ∧ p < M ∧
        ∀ i, i < n → w.frozen? (at_ ri.b i) = false ∧ w.cell? (at_ ri.b i) = some (uc (off + i)) := fun q row hq => by
    rcases u2 bs _ _ q row hq with h1 | ⟨p, off, n, cs, ri, e1, e2, e3, e4, e5, e6, e7⟩
    · obtain ⟨t, l, h3, h4, h5⟩ := thawH_arr _ _ _ _ _ _ h1
      refine .inl ⟨q - base, t, l, by omega, by omega, h3, ?_⟩
      rw [T.new (q - base) (by omega) (by omega), ← thawH_shift ow base M R0 0 (q - base), show base + (q - base) = q by omega]
      exact h1
    · refine .inr ⟨p, off, n, cs, ri, e1, e2, e3, T.lies _ _ (takeLeaves_box ow _ _ _ _ p cs htk e4), e5, e6, ?_, e7⟩
      rcases Nat.lt_or_ge p st.nx with h | h
      · exact h
      · rw [hf p h] at e5; cases e5
  have hbad : ∀ b, Bad outer ρf (exH ks as bs ow base shape R0) b → Bad outer ρ2 g2 b := by
    rintro b (hb | ⟨q, row, ri, f1, f2, f3, f4, f5⟩)
    · exact .inl hb
    · rcases hrow q row f1 with ⟨p, t, l, h1, rfl, h3, h4⟩ | ⟨p, off, n, cs, ri', e1, e2, e3, e4, e5, e6, e7, e8⟩
      · rw [(hfn p h1).1] at f3
        exact .inr ⟨_, row, ri, h4, f2, f3, f4, f5⟩
      · rw [(hfb p q e1).1] at f3
        exact .inr ⟨p, _, ri, e4, rfl, T.ext _ _ f3, f4, f5⟩
  have hX : ∀ j (hj : j < (thawL ow base 0 R0).length), VR w ρf (Bad outer ρf (exH ks as bs ow base shape R0)) (u j) (thawL ow base 0 R0)[j] :=
    thawL_shift (w := w) (ρ := ρ2) (ρ2 := ρf) (bad := Bad outer ρ2 g2) (bad2 := Bad outer ρf (exH ks as bs ow base shape R0)) ow M base R0 0 u (fun q _ hq => (hfn q (by omega)).1) (fun j hj => (T.closed j hj).1) hbad T.vals
  refine ⟨_, k4, ρf, ?_, ?_, fun q b hq => (hfb q b hq).1, fun q hq => ?_⟩
  · refine T.heap.sub φ T.heap.wx T.heap.old T.heap.outLt (fun q row hq => ?_) (fun q q' row row' h1 h2 h3 => ?_)
    · rcases hrow q row hq with ⟨p, t, l, h1, rfl, rfl, h4⟩ | ⟨p, off, n, cs, ri, e1, e2, e3, e4, e5, e6, e7, e8⟩
      · obtain ⟨ri, f1, f2, f3⟩ := T.heap.rows _ _ h4
        exact ⟨_, ri, by rw [(hfn p h1).2]; exact h4, by rw [(hfn p h1).1]; exact f1, by rw [(hfn p h1).2]; exact f1, rowOk_closed f2 hbad ρf, fun hn => (f3 hn).1⟩
      · obtain ⟨ri', f1, f2, f3⟩ := T.heap.rows _ _ e4
        rw [T.ext _ _ e5] at f1; cases f1
        refine ⟨_, ri, by rw [(hfb p q e1).2]; exact e4, by rw [(hfb p q e1).1]; exact e5, by rw [(hfb p q e1).2]; exact T.ext _ _ e5, ?_, fun hn => ⟨(f3 hn).1.1, fun _ => (f3 hn).1.2 rfl⟩⟩
        rw [e2]
        refine ⟨e6, fun i hi => ?_⟩
        have hin : i < n ∧ vs.length + off + i < (thawL ow base 0 R0).length := by
          simp only [List.length_take, List.length_drop] at hi
          omega
        obtain ⟨g3, g4⟩ := e8 i hin.1
        refine ⟨g3, _, g4, ?_⟩
        have h5 := hX (vs.length + (off + i)) (by omega)
        simp only [u] at h5
        rw [if_neg (by omega), show vs.length + (off + i) - vs.length = off + i by omega] at h5
        simp only [List.getElem_take, List.getElem_drop, hsh]
        exact h5
    · rcases hrow q row h1 with ⟨p, t, l, f1, rfl, f3, f4⟩ | ⟨p, off, n, cs, ri, e1, e2, e3, e4, e5, e6, e7, e8⟩ <;>
      rcases hrow q' row' h2 with ⟨p', t', l', f1', rfl, f3', f4'⟩ | ⟨p', off', n', cs', ri', e1', e2', e3', e4', e5', e6', e7', e8'⟩
      · rw [(hfn p f1).2, (hfn p' f1').2] at h3; omega
      · rw [(hfn p f1).2, (hfb p' q' e1').2] at h3; omega
      · rw [(hfb p q e1).2, (hfn p' f1').2] at h3; omega
      · rw [(hfb p q e1).2, (hfb p' q' e1').2] at h3; subst h3
        rw [e1] at e1'; exact Option.some.inj e1'
  · refine pack_ok k1 (by rw [thawL_len]; omega) fun j hj hj2 => ?_
    have h5 := hX j hj
    simp only [u] at h5
    rw [if_pos (by omega)] at h5; exact h5
  · by_cases h1 : base ≤ q ∧ q < base + 64
    · exact .inl h1
    · by_cases h2 : ∃ p, boxOf ks 0 bs p = some q
      · obtain ⟨p, h2⟩ := h2
        exact .inr (boxOf_ge _ _ _ _ _ h2).2.2
      · simp only [ρf, if_neg h1, dif_neg h2] at hq; exact absurd rfl hq

theorem evalF_ok (hC : TnOk C) (hΦ : PhiOk C) {f : Nat} {fn : Func} {body : Code} (hf : C.P.funcs[f]? = some fn) (hb : fn.body = some body) (hname : (fn.name == "runtime.NumGoroutine") = false)
    (hnt : C.nt = fn.ntmps) (an : An) (ks : List ArgK) (ow : List Nat) (shape : List (Bool × Nat)) (ats rts : List Ty) (F : TyTup ats → Option (TyTup rts))
    (hks : ksOk ks ats = true) (hkl : Nat.ble ks.length fn.ntmps = true)
    (hev : ∀ x r, bdTup ats x → F x = some r → evalF C fn body an ks ow shape rts (encTup ats x) = some r) :
    Contract C.P f ⟨ks, TyTup ats, TyTup rts, decTup ats, F, flatTup rts, shape, ow⟩ := by
  intro w args as outer ownw ρ x r base bs hsz hel hh hvals hfr hnd hbo hdA hF hrl
  simp only at hsz hel hh hvals hfr hdA hF hrl
  have hkl := Nat.le_of_ble_eq_true hkl
  refine .inl ⟨?_, calls_of_wp hf hb ?_⟩
  · have hname' : ¬ fn.name = "runtime.NumGoroutine" := by simpa using hname
    simp [callFunc, program, hf, hb, hname', Sem.run]
  obtain ⟨pb1, pb2⟩ := putBoxes_enc ks ats as x 0 hks hdA
  obtain ⟨H1, H2⟩ := ent_heap hh fun q row' h => (entH_enc ks ats as x 0 q row' hks hdA h).2
  obtain ⟨e1, e2⟩ := entS_enc (w := w) (ρ := ρ) ks ats as x 0 _ (fun j => args.getD j undef) hks hdA hvals
  have hex : ∀ base rs, exH ks (encTup ats x) bs ow base shape rs = exH ks as bs ow base shape rs := fun base rs => by simp only [exH, pb1]
  have hrel : Rel C w outer ownw ρ { s := fun i => match (entS ks 0 (encTup ats x)).drop i with | v :: _ => v | [] => .undef, h := entH ks 0 (encTup ats x), nx := 64 * ks.length }
      { tmps := args ++ Array.replicate (fn.ntmps - args.size) undef, defers := [] } w := by
    refine ⟨H1, fun i => ?_, by simp; omega, rfl⟩
    show VR w ρ _ _ (match (entS ks 0 (encTup ats x)).drop i with | v :: _ => v | [] => .undef)
    by_cases hi : i < (entS ks 0 (encTup ats x)).length
    · rw [List.drop_eq_getElem_cons hi]
      have h3 := H2 _ _ (e2 i hi)
      have hia : i < args.size := by omega
      rw [Array.getD_eq_getD_getElem?] at h3 ⊢
      rw [Array.getElem?_append_left hia]; exact h3
    · rw [List.drop_eq_nil_of_le (by omega)]; exact .undef _
  refine runC_ok hC hΦ an body (fun _ => True) (touch_all an body) _ _ w ρ _ r _ hrel (fun q hq => hfr q hq) (hev x r (bdTup_of ats x (ent_bd H1 ks ats x 0 (fun j => args.getD j undef) hks (fun _ _ h => h) fun j hj => H2 _ _ (e2 j hj))) hF) fun e st' a' w' ρ' hg hk => ?_
  have key : (match resLeaves C.P st' fn.results.toList shape, boxLeaves st' ks (encTup ats x) 0 with
      | some vs, some us => match takeLeaves ow 0 (vs ++ us) st'.h with
        | some (rs, _) => unflat rts rs
        | none => none
      | _, _ => none) = some r → a'.defers = [] ∧ ∃ v, (results fn a'.tmps).run C.P w' = .ok v w' ∧ ∃ v', Ending.returned v = .returned v' ∧ ∃ ρf, HRel w outer ownw ρf (exH ks as bs ow base shape (flatTup rts r)) w' ∧
      VR w' ρf (Bad outer ρf (exH ks as bs ow base shape (flatTup rts r))) v' (pack shape (thawL ow base 0 (flatTup rts r))) ∧
      (∀ q b, boxOf ks 0 bs q = some b → ρf b = ρ q) ∧ (∀ r, ρf r ≠ none → (base ≤ r ∧ r < base + 64) ∨ r ∈ bs) := by
    intro hk
    split at hk
    case h_2 => cases hk
    rename_i vs us hres hbl
    split at hk
    case h_2 => cases hk
    rename_i rs h2 htk
    obtain ⟨v, h3, ρf, h4, h5, h6, h7⟩ := fin_ok (bs := bs) (base := base) hg.rel hg.fresh hres hbl htk hk hrl hnd hbo
    rw [hex] at h4 h5
    refine ⟨hg.rel.defers, v, h3, v, rfl, ρf, h4, h5, fun q b hq => ?_, h7⟩
    rw [h6 q b hq]
    obtain ⟨row, hrow⟩ := pb2 bs q b hq
    obtain ⟨ri, h8, _⟩ := hh.rows _ _ hrow
    rw [hg.ext _ _ h8, h8]
  cases e with
  | exit id => cases hk
  | normal => exact key hk
  | ret => exact key hk

end
end Go.D
