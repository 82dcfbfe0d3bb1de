/-
  A call.
-/
import Derived.Test.YtilkenfgjljknaaOps14
namespace Go.D

structure PhiOk (C : Cx) : Prop where
  ok : ∀ f ci, C.Φ f = some ci → Contract C.P f ci

section
variable {C : Cx} {w0 : World} {outer own : Nat → Prop} {ρ : Nat → Option RI} {st st' : St} {a : Act} {w : World} {h : Nat → Option Row}

variable {o : Oper} {i : Nat} (hr : Rel C w0 outer own ρ st a w)
include hr

theorem ok_callK (hΦ : PhiOk C) (hfin : ∃ N, ∀ r, N ≤ r → ρ r = none) (hfr : ∀ q, q < 64 → ρ (i + q) = none) (f : Nat) (args : Array Value) (as : List V) (hsz : args.size = as.length)
    (hargs : ∀ j (hj : j < as.length), VR w ρ (Bad outer ρ st.h) (args.getD j undef) as[j]) (hexec : (execOp a.eval o).run C.P w = (callFunc f args).run C.P w)
    (hk : callK C i o.dst st f as some = some st') : Does C.P o a w (After C w0 outer own i ρ st') := by
  unfold callK at hk
  split at hk
  · cases hk
  rename_i ci hci
  split at hk
  · cases hk
  rename_i as' h' bs hta
  obtain ⟨x, hdA, hk⟩ := Option.bind_eq_some_iff.1 hk
  obtain ⟨r, hF, hk⟩ := Option.bind_eq_some_iff.1 hk
  simp only [thawL_len] at hk
  cases hle : Nat.ble (ci.eR r).length 64
  case false => simp [hle] at hk
  simp only [hle, cond_true] at hk
  have hle := Nat.le_of_ble_eq_true hle
  obtain ⟨N, hN⟩ := hfin
  -- the arguments
  have hhN : ∀ q, N ≤ q → st.h q = none := fun q hq => by
    cases hg : st.h q with
    | none => rfl
    | some row => obtain ⟨ri, h3, _⟩ := hr.heap.rows _ _ hg; rw [hN q hq] at h3; cases h3
  obtain ⟨ρ', g', c1, c2, c3, c4, c5, c6, c7, c8, c9, c10, c11⟩ := take_args N ci.ks as st.h h' as' bs 0 ρ st.h (fun j => args.getD j undef) hta hr.heap hargs (fun _ _ h => h) (fun r hr => hN r (by omega)) hhN
  have hless := takeArgs_less _ _ _ _ hta
  simp only at hless
  let φ : Nat → Nat := fun q => (boxOf ci.ks 0 bs q).getD (N + q)
  let ρc : Nat → Option RI := fun q => if q < 64 * ci.ks.length then ρ' (φ q) else none
  let E := entH ci.ks 0 as'
  let ownc : Nat → Prop := fun b => ∃ q row ri, E q = some row ∧ ρc q = some ri ∧ ri.nl = false ∧ ri.b = b
  let outc : Nat → Prop := Bad outer ρ' h'
  have hbN : ∀ b ∈ bs, b < N := fun b hb => by
    rcases Nat.lt_or_ge b N with h3 | h3
    · exact h3
    · exact absurd (hhN b h3) (c8 b hb).2
  have hφbox : ∀ q b, boxOf ci.ks 0 bs q = some b → φ q = b := fun q b h => by simp [φ, h]
  have hφarr : ∀ q, q % 64 ≠ 63 → φ q = N + q := fun q hq => by
    have : boxOf ci.ks 0 bs q = none := by
      cases hb : boxOf ci.ks 0 bs q with
      | none => rfl
      | some b => exact absurd (boxOf_ge _ _ _ _ _ hb).2.1 hq
    simp [φ, this]
  -- the rows of the entry
  have hE : ∀ q row, E q = some row → ∃ row' ri, g' (φ q) = some row' ∧ row'.m = .own ∧ h' (φ q) = none ∧ ρc q = some ri ∧ ρ' (φ q) = some ri := fun q row hq => by
    obtain ⟨h1, h2, h3⟩ := c7.row hq
    have hlt : q < 64 * ci.ks.length := by omega
    rcases h3 with ⟨b, ow, k', cs, ri, e1, e2, e3, e4, e5, e6, e7, e8⟩ | ⟨t, l, e1, e2, e3⟩
    · refine ⟨_, ri, by rw [hφbox q b e1]; exact e6, rfl, by rw [hφbox q b e1]; exact (c8 b (boxOf_ge _ _ _ _ _ e1).2.2).1, ?_, by rw [hφbox q b e1]; exact e7⟩
      simp only [ρc, hlt, if_true, hφbox q b e1, e7]
    · obtain ⟨ri, f1, _⟩ := c1.rows _ _ e2
      subst e1
      refine ⟨_, ri, by rw [hφarr q e3]; exact e2, rfl, by rw [hφarr q e3]; exact c3 _ (hhN _ (by omega)), ?_, by rw [hφarr q e3]; exact f1⟩
      simp only [ρc, hlt, if_true, hφarr q e3, f1]
  have hown : ∀ b, ownc b → ∃ q row ri, g' q = some row ∧ row.m = .own ∧ h' q = none ∧ ρ' q = some ri ∧ ri.nl = false ∧ ri.b = b := by
    rintro b ⟨q, row, ri, h1, h2, h3, h4⟩
    obtain ⟨row', ri', f1, f2, f3, f4, f5⟩ := hE q row h1
    rw [h2] at f4; cases f4
    exact ⟨_, row', ri, f1, f2, f3, f5, h3, h4⟩
  have hrest : ∀ q row, h' q = some row → ∃ ri, ρ' q = some ri ∧ (ri.nl = false → ¬ ownc ri.b ∧ ri.b < w.heap.size ∧ (¬ outer ri.b ∧ (row.m.isRo = false → w0.heap.size ≤ ri.b ∨ own ri.b))) := fun q row hq => by
    obtain ⟨ri, f1, _, f2⟩ := c1.rows q row (c2 q row hq)
    refine ⟨ri, f1, fun hn => ⟨fun ho => ?_, (f2 hn).2, (f2 hn).1⟩⟩
    obtain ⟨q', row', ri', e1, e2, e3, e4, e5, e6⟩ := hown _ ho
    have := c1.inj q q' row row' ri ri' (c2 q row hq) e1 f1 e4 hn e5 e6.symm
    subst this; rw [hq] at e3; cases e3
  have hownlt : ∀ b, ownc b → b < w.heap.size ∧ (w0.heap.size ≤ b ∨ own b) := fun b hb => by
    obtain ⟨q', row', ri', e1, e2, e3, e4, e5, e6⟩ := hown _ hb
    obtain ⟨ri2, f1, _, f2⟩ := c1.rows q' row' e1
    rw [e4] at f1; cases f1
    rw [← e6]; exact ⟨(f2 e5).2, (f2 e5).1.2 (by rw [e2]; rfl)⟩
  have hout : ∀ b, outc b → b < w.heap.size ∧ ¬ ownc b := by
    rintro b (hb | ⟨q, row, ri, f1, f2, f3, f4, f5⟩)
    · obtain ⟨g1, g2⟩ := c1.outLt b hb
      refine ⟨Nat.lt_of_lt_of_le g1 c1.wx.size, fun ho => ?_⟩
      rcases (hownlt b ho).2 with h3 | h3
      · omega
      · exact g2 h3
    · obtain ⟨ri', k1, k2⟩ := hrest q row f1
      rw [f3] at k1; cases k1
      rw [← f5]; exact ⟨(k2 f4).2.1, (k2 f4).1⟩
  have hbadc : ∀ b, Bad outc ρc E b → Bad outer ρ' g' b := by
    rintro b (hb | ⟨q, row, ri, f1, f2, f3, f4, f5⟩)
    · exact hb.mono fun q row h1 h2 => ⟨row, c2 q row h1, h2⟩
    · obtain ⟨row', ri', k1, k2, k3, k4, k5⟩ := hE q row f1
      rw [f3] at k4; cases k4
      exact .inr ⟨_, row', ri, k1, by rw [k2]; rfl, k5, f4, f5⟩
  have hρcbox : ∀ q b, boxOf ci.ks 0 bs q = some b → q < 64 * ci.ks.length → ρc q = ρ' b := fun q b h hlt => by simp only [ρc, hlt, if_true, hφbox q b h]
  have hboxlt : ∀ q b, boxOf ci.ks 0 bs q = some b → q < 64 * ci.ks.length := fun q b h => by have := boxOf_lt _ _ _ _ _ h; omega
  have hent : HRel w outc ownc ρc E w := by
    refine c1.sub φ (Wx.refl _) (fun _ _ _ => rfl) hout (fun q row hq => ?_) (fun q q' row row' h1 h2 h3 => ?_)
    · obtain ⟨h1, h2, h3⟩ := c7.row hq
      obtain ⟨row', ri, f1, f2, f3, f4, f5⟩ := hE q row hq
      refine ⟨row', ri, f1, f4, f5, ?_, fun hn => ⟨fun ho => (hout _ ho).2 ⟨q, row, ri, hq, f4, hn, rfl⟩, fun _ => .inr ⟨q, row, ri, hq, f4, hn, rfl⟩⟩⟩
      obtain ⟨ri2, k1, k2, _⟩ := c1.rows _ _ f1
      rw [f5] at k1; cases k1
      rcases h3 with ⟨b, ow, k', cs, ri', e1, e2, e3, e4, e5, e6, e7, e8, e9, e10, e11⟩ | ⟨t, l, e1, e2, e3⟩
      · rw [hφbox q b e1, e6] at f1; cases f1
        subst e5
        refine ⟨k2.1, fun j hj => ?_⟩
        rw [thawL_len] at hj
        obtain ⟨g1, x, g2, g3⟩ := k2.2 j (by rw [thawL_len]; exact hj)
        refine ⟨g1, x, g2, ?_⟩
        have := thawL_shift (w := w) (ρ := ρ') (ρ2 := ρc) (bad := Bad outer ρ' g') (bad2 := Bad outc ρc E) ow (N + 64 * k') (64 * k') cs 0 (fun j => (w.cell? (at_ ri.b j)).getD undef) (fun q' _ h4 => by
            have hlt : 64 * k' + q' < 64 * ci.ks.length := by omega
            simp only [ρc, hlt, if_true]
            rw [hφarr _ (by omega)]; congr 1; omega) e10 hbadc (fun j hj => by
            obtain ⟨_, x, g2, g3⟩ := k2.2 j hj
            rw [g2]; exact g3) j (by rw [thawL_len]; exact hj)
        rw [g2] at this; exact this
      · subst e1
        rw [hφarr q e3, e2] at f1; cases f1
        exact rowOk_closed k2 hbadc ρc
    · obtain ⟨_, _, h4⟩ := c7.row h1
      obtain ⟨_, _, h5⟩ := c7.row h2
      rcases h4 with ⟨b, _, _, _, _, e1, _⟩ | ⟨_, _, _, _, e3⟩ <;> rcases h5 with ⟨b', _, _, _, _, e1', _⟩ | ⟨_, _, _, _, e3'⟩
      · rw [hφbox q b e1, hφbox q' b' e1'] at h3
        subst h3; exact boxOf_inj _ _ _ _ _ _ c9 e1 e1'
      · rw [hφbox q b e1, hφarr q' e3'] at h3
        have := hbN b (boxOf_ge _ _ _ _ _ e1).2.2; omega
      · rw [hφbox q' b' e1', hφarr q e3] at h3
        have := hbN b' (boxOf_ge _ _ _ _ _ e1').2.2; omega
      · rw [hφarr q e3, hφarr q' e3'] at h3; omega
  obtain ⟨hv1, hv2⟩ := c7.vals hbadc fun q b h => hρcbox q b h (hboxlt q b h)
  have hrange : ∀ q, ρ q ≠ none → Out i 64 q := fun q hq h3 => hq (by
    have := hfr (q - i) (by omega)
    rwa [show i + (q - i) = q by omega] at this)
  have hsthρ : ∀ q row, st.h q = some row → ρ q ≠ none := fun q row hq => by
    obtain ⟨ri, h3, _⟩ := hr.heap.rows _ _ hq; rw [h3]; simp
  have hbsρ : ∀ b ∈ bs, ρ b ≠ none := fun b hb => by
    cases hq : st.h b with
    | none => exact absurd hq (c8 b hb).2
    | some row => exact hsthρ b row hq
  have G := hΦ.ok f ci hci w args as' outc ownc ρc x r i bs (by rw [hsz, c10]) hv1 hent hv2 (fun q hq => by simp only [ρc]; rw [if_neg (by omega)]) c9 (fun b hb => hrange b (hbsρ b hb)) hdA hF hle
  -- behind the call
  have fin : ∀ v w1, (∃ ρx, HRel w outc ownc ρx (exH ci.ks as' bs ci.own i ci.shape (ci.eR r)) w1 ∧
      VR w1 ρx (Bad outc ρx (exH ci.ks as' bs ci.own i ci.shape (ci.eR r))) v (pack ci.shape (thawL ci.own i 0 (ci.eR r))) ∧
      (∀ q b, boxOf ci.ks 0 bs q = some b → ρx b = ρc q) ∧ (∀ r, ρx r ≠ none → (i ≤ r ∧ r < i + 64) ∨ r ∈ bs)) → After C w0 outer own i ρ st' (a.put o.dst v) w1 := by
    rintro v w1 ⟨ρx, hX, hV, hbox, hdom⟩
    generalize hXe : exH ci.ks as' bs ci.own i ci.shape (ci.eR r) = X at hX hV
    have hor : ∀ q, putBoxes ci.ks as' bs ((thawL ci.own i 0 (ci.eR r)).drop (shapeLen ci.shape)) (thawH ci.own i h' 0 (ci.eR r)) q = match X q with | some x => some x | none => h' q := fun q => by
      rw [exH_or, hXe]
      cases X q <;> rfl
    generalize hne : putBoxes ci.ks as' bs ((thawL ci.own i 0 (ci.eR r)).drop (shapeLen ci.shape)) (thawH ci.own i h' 0 (ci.eR r)) = hnew at hk hor
    let ρn : Nat → Option RI := fun q => if i ≤ q ∧ q < i + 64 then ρx q else ρ q
    have hρbs : ∀ b ∈ bs, ρx b = ρ b := fun b hb => by
      obtain ⟨q, hq⟩ := c7.surj b hb
      rw [hbox q b hq, hρcbox q b hq (hboxlt q b hq), c11 b (hbN b hb)]
    have hρx : ∀ q, ρx q ≠ none → ρn q = ρx q := fun q hq => by
      by_cases hin : i ≤ q ∧ q < i + 64
      · simp only [ρn, hin, and_self, if_true]
      · simp only [ρn, hin, if_false]
        rcases hdom q hq with h3 | h3
        · exact absurd h3 hin
        · exact (hρbs q h3).symm
    have hρo : ∀ q, ρ q ≠ none → ρn q = ρ q := fun q hq => by
      have : ¬ (i ≤ q ∧ q < i + 64) := hrange q hq
      simp only [ρn, this, if_false]
    have hρ' : ∀ q ri, ρ q ≠ none → ρ' q = some ri → ρ q = some ri := fun q ri hq h3 => by
      cases h4 : ρ q with
      | none => exact absurd h4 hq
      | some ri' => have := c5 _ _ h4; rw [h3] at this; rw [this]
    have hcases : ∀ q row, hnew q = some row → X q = some row ∨ (X q = none ∧ h' q = some row) := fun q row hq => by
      rw [hor] at hq
      cases hx : X q with
      | some y => rw [hx] at hq; exact .inl hq
      | none => rw [hx] at hq; exact .inr ⟨rfl, hq⟩
    have hh'ρ : ∀ q row, h' q = some row → ρ q ≠ none := fun q row hq => by
      obtain ⟨row', h3, _⟩ := hless q row hq; exact hsthρ q row' h3
    have hXρ : ∀ q row, X q = some row → ρn q = ρx q := fun q row hq => by
      obtain ⟨ri, h3, _⟩ := hX.rows q row hq
      exact hρx q (by rw [h3]; simp)
    have hbad1 : ∀ b, Bad outer ρn hnew b → Bad outc ρx X b := by
      rintro b (hb | ⟨q, row, ri, f1, f2, f3, f4, f5⟩)
      · exact .inl (.inl hb)
      · rcases hcases q row f1 with h3 | ⟨_, h3⟩
        · rw [hXρ q row h3] at f3; exact .inr ⟨q, row, ri, h3, f2, f3, f4, f5⟩
        · refine .inl (.inr ⟨q, row, ri, h3, f2, ?_, f4, f5⟩)
          rw [hρo q (hh'ρ q row h3)] at f3; exact c5 _ _ f3
    have hownbad : ∀ b, ownc b → Bad outer ρ' g' b := fun b hb => by
      obtain ⟨q, row, ri, e1, e2, e3, e4, e5, e6⟩ := hown b hb
      exact .inr ⟨q, row, ri, e1, by rw [e2]; rfl, e4, e5, e6⟩
    have hbad2 : ∀ b, Bad outc ρx X b → Bad outer ρ' g' b ∨ w.heap.size ≤ b := by
      rintro b (hb | ⟨q, row, ri, f1, f2, f3, f4, f5⟩)
      · exact .inl (hb.mono fun q row h1 h2 => ⟨row, c2 q row h1, h2⟩)
      · obtain ⟨ri', k1, _, k2⟩ := hX.rows q row f1
        rw [f3] at k1; cases k1
        rcases (k2 f4).1.2 f2 with h3 | h3
        · exact .inr (by omega)
        · exact .inl (by rw [← f5]; exact hownbad _ h3)
    have keepAll : ∀ u d, VR w ρ (Bad outer ρ st.h) u d → VR w1 ρn (Bad outer ρn hnew) u d := fun u d hu =>
      (c6 _ _ hu).keep hu.refs (fun q ri hq h3 => by rw [hρo q hq]; exact hρ' q ri hq h3) (fun b hb hlt => hX.old b hlt fun ho => hb (hownbad b ho)) fun b hb => hbad2 b (hbad1 b hb)
    have keepX : ∀ u d, VR w1 ρx (Bad outc ρx X) u d → VR w1 ρn (Bad outer ρn hnew) u d := fun u d hu =>
      hu.keep hu.refs (fun q ri hq h3 => by rw [hρx q hq]; exact h3) (fun _ _ _ => rfl) fun b hb => .inl (hbad1 b hb)
    have hXrow : ∀ q row, X q = some row → ∃ ri, ρn q = some ri ∧ ρx q = some ri ∧ RowOk w1 ρx (Bad outc ρx X) ri row.c ∧ (ri.nl = false → (w.heap.size ≤ ri.b ∨ ownc ri.b) ∧ ri.b < w1.heap.size) := fun q row hq => by
      obtain ⟨ri, k1, k2, k3⟩ := hX.rows q row hq
      exact ⟨ri, by rw [hXρ q row hq]; exact k1, k1, k2, fun hn => ⟨(k3 hn).1.2 (by rw [exH_own hle (by rw [← hXe] at hq; exact hq)]; rfl), (k3 hn).2⟩⟩
    have hRrow : ∀ q row, h' q = some row → ∃ ri, ρn q = some ri ∧ ρ q = some ri ∧ ρ' q = some ri ∧ RowOk w ρ (Bad outer ρ st.h) ri row.c ∧ (ri.nl = false → ¬ ownc ri.b ∧ ri.b < w.heap.size ∧ (¬ outer ri.b ∧ (row.m.isRo = false → w0.heap.size ≤ ri.b ∨ own ri.b))) := fun q row hq => by
      obtain ⟨row', h3, h4, _⟩ := hless q row hq
      obtain ⟨ri, k1, k2, _⟩ := hr.heap.rows q row' h3
      obtain ⟨ri', k3, k4⟩ := hrest q row hq
      have := c5 _ _ k1
      rw [k3] at this; cases this
      exact ⟨ri, by rw [hρo q (hh'ρ q row hq)]; exact k1, k1, k3, by rw [← h4]; exact k2, k4⟩
    have hnewH : HRel w0 outer own ρn hnew w1 := by
      refine ⟨hr.heap.wx.trans hX.wx, fun b hb ho => ?_, hr.heap.outLt, fun q row hq => ?_, fun q q' row row' qi qi' h1 h2 h3 h4 h5 h6 h7 => ?_⟩
      · rw [← hr.heap.old b hb ho]
        refine hX.old b (Nat.lt_of_lt_of_le hb hr.heap.wx.size) fun hoc => ?_
        rcases (hownlt b hoc).2 with h3 | h3
        · omega
        · exact ho h3
      · rcases hcases q row hq with h3 | ⟨_, h3⟩
        · obtain ⟨ri, k1, k2, k3, k4⟩ := hXrow q row h3
          refine ⟨ri, k1, k3.keep (fun _ => rfl) keepX, fun hn => ⟨?_, (k4 hn).2⟩⟩
          have hx : w0.heap.size ≤ ri.b ∨ own ri.b := by
            rcases (k4 hn).1 with h4 | h4
            · exact .inl (Nat.le_trans hr.heap.wx.size h4)
            · exact (hownlt _ h4).2
          refine ⟨fun ho => ?_, fun _ => hx⟩
          obtain ⟨g1, g2⟩ := hr.heap.outLt _ ho
          rcases hx with hx | hx
          · omega
          · exact g2 hx
        · obtain ⟨ri, k1, k2, k3, k4, k5⟩ := hRrow q row h3
          refine ⟨ri, k1, k4.keep (fun hn => hX.old _ (k5 hn).2.1 (k5 hn).1) keepAll, fun hn => ⟨(k5 hn).2.2, Nat.lt_of_lt_of_le (k5 hn).2.1 hX.wx.size⟩⟩
      · rcases hcases q row h1 with k1 | ⟨_, k1⟩ <;> rcases hcases q' row' h2 with k2 | ⟨_, k2⟩
        · obtain ⟨r1, e1, e2, _⟩ := hXrow q row k1
          obtain ⟨r2, e3, e4, _⟩ := hXrow q' row' k2
          rw [h3] at e1; cases e1; rw [h4] at e3; cases e3
          exact hX.inj q q' row row' qi qi' k1 k2 e2 e4 h5 h6 h7
        · obtain ⟨r1, e1, e2, _, e5⟩ := hXrow q row k1
          obtain ⟨r2, e3, e4, e6, _, e7⟩ := hRrow q' row' k2
          rw [h3] at e1; cases e1; rw [h4] at e3; cases e3
          rcases (e5 h5).1 with h8 | h8
          · have := (e7 h6).2.1; omega
          · rw [h7] at h8; exact absurd h8 (e7 h6).1
        · obtain ⟨r1, e1, e2, _, e5⟩ := hXrow q' row' k2
          obtain ⟨r2, e3, e4, e6, _, e7⟩ := hRrow q row k1
          rw [h4] at e1; cases e1; rw [h3] at e3; cases e3
          rcases (e5 h6).1 with h8 | h8
          · have := (e7 h5).2.1; omega
          · rw [← h7] at h8; exact absurd h8 (e7 h5).1
        · obtain ⟨r1, e1, e2, e2', _⟩ := hRrow q row k1
          obtain ⟨r2, e3, e4, e4', _⟩ := hRrow q' row' k2
          rw [h3] at e1; cases e1; rw [h4] at e3; cases e3
          exact c1.inj q q' row row' qi qi' (c2 q row k1) (c2 q' row' k2) e2' e4' h5 h6 h7
    have hr1 : Rel C w0 outer own ρn { st with h := hnew } a w1 := hr.turn hnewH keepAll
    refine ⟨ρn, (hr1.put (keepX _ _ hV) hk).1, fun q hq => ?_, fun q ri hq => ?_⟩
    · simp only [ρn, hq, if_false]
    · rw [hρo q (by rw [hq]; simp)]; exact hq
  intro next Q hn
  unfold Oper.wp
  rw [hexec]
  rcases G with ⟨G1, G2⟩ | ⟨v, w1, G1, G2⟩
  · rw [G1, Oper.upon_enter]
    refine Calls.mono' G2 ?_
    rintro e w1 ⟨v, rfl, h3⟩
    exact hn _ _ (fin v w1 h3)
  · rw [G1, Oper.upon_value]; exact hn _ _ (fin v w1 G2)
end
end Go.D
