/-
  Calls: what a function is known to do, and what a call comes to.
-/
import Derived.Test.YtilkenfgjljknaaOps13
namespace Go.D

/-- A function of the program, or one that the model knows: what it gives. -/
def Gives (P : Program) (f : Nat) (args : Array Value) (w : World) (post : Value → World → Prop) : Prop :=
  ((callFunc f args).run P w = .ok (.enter f args) w ∧ Calls P f args w fun e w' => ∃ v, e = .returned v ∧ post v w') ∨
  ∃ v w', (callFunc f args).run P w = .ok (.value v) w' ∧ post v w'

def exH (ks : List ArgK) (as : List V) (bs : List Nat) (ow : List Nat) (base : Nat) (shape : List (Bool × Nat)) (rs : List V) : Nat → Option Row :=
  putBoxes ks as bs ((thawL ow base 0 rs).drop (shapeLen shape)) (thawH ow base (fun _ => none) 0 rs)

def Contract (P : Program) (f : Nat) (ci : CInfo) : Prop :=
  ∀ (w : World) (args : Array Value) (as : List V) (outer own : Nat → Prop) (ρ : Nat → Option RI) (a : ci.A) (r : ci.R) (base : Nat) (bs : List Nat),
    args.size = ci.ks.length → (entS ci.ks 0 as).length = ci.ks.length → HRel w outer own ρ (entH ci.ks 0 as) w →
    (∀ j (hj : j < (entS ci.ks 0 as).length), VR w ρ (Bad outer ρ (entH ci.ks 0 as)) (args.getD j undef) (entS ci.ks 0 as)[j]) → (∀ r, 64 * ci.ks.length ≤ r → ρ r = none) →
    bs.Nodup → (∀ b ∈ bs, Out base 64 b) → ci.dA as = some a → ci.F a = some r → (ci.eR r).length ≤ 64 →
    Gives P f args w fun v w' => ∃ ρ', HRel w outer own ρ' (exH ci.ks as bs ci.own base ci.shape (ci.eR r)) w' ∧
      VR w' ρ' (Bad outer ρ' (exH ci.ks as bs ci.own base ci.shape (ci.eR r))) v (pack ci.shape (thawL ci.own base 0 (ci.eR r))) ∧
      (∀ q b, boxOf ci.ks 0 bs q = some b → ρ' b = ρ q) ∧ (∀ r, ρ' r ≠ none → (base ≤ r ∧ r < base + 64) ∨ r ∈ bs)

theorem Calls.mono' {P : Program} {f : Nat} {args : Array Value} {w : World} {R R' : Ending → World → Prop} (h : Calls P f args w R) (hr : ∀ e w', R e w' → R' e w') : Calls P f args w R' :=
  fun cs => let ⟨e, w', fr, h1, h2⟩ := h cs; ⟨e, w', fr, hr _ _ h1, h2⟩

theorem putBoxes_or : ∀ (ks : List ArgK) (as : List V) (bs : List Nat) (vs : List V) (h : Nat → Option Row) (r : Nat),
    putBoxes ks as bs vs h r = match putBoxes ks as bs vs (fun _ => none) r with | some x => some x | none => h r
  | [], as, bs, vs, h, r => by cases as <;> rfl
  | .plain :: ks, [], bs, vs, h, r => rfl
  | .plain :: ks, a :: as, bs, vs, h, r => by simp only [putBoxes]; exact putBoxes_or ks as bs vs h r
  | .ptr ow :: ks, [], bs, vs, h, r => rfl
  | .ptr ow :: ks, a :: as, [], vs, h, r => by cases a <;> rfl
  | .ptr ow :: ks, a :: as, b :: bs, vs, h, r => by
    cases a <;> try rfl
    simp only [putBoxes]
    by_cases hr : r = b
    · subst hr; simp [upd_same]
    · rw [upd_other _ _ _ _ hr, upd_other _ _ _ _ hr]; exact putBoxes_or ks as bs _ h r

theorem putBoxes_mem : ∀ (ks : List ArgK) (as : List V) (bs : List Nat) (vs : List V) (r : Nat) (row : Row), putBoxes ks as bs vs (fun _ => none) r = some row → r ∈ bs
  | [], as, bs, vs, r, row, h => by cases as <;> simp [putBoxes] at h
  | .plain :: ks, [], bs, vs, r, row, h => by simp [putBoxes] at h
  | .plain :: ks, a :: as, bs, vs, r, row, h => by simp only [putBoxes] at h; exact putBoxes_mem ks as bs vs r row h
  | .ptr ow :: ks, [], bs, vs, r, row, h => by simp [putBoxes] at h
  | .ptr ow :: ks, a :: as, [], vs, r, row, h => by cases a <;> simp [putBoxes] at h
  | .ptr ow :: ks, a :: as, b :: bs, vs, r, row, h => by
    cases a <;> try (simp [putBoxes] at h; done)
    simp only [putBoxes] at h
    by_cases hr : r = b
    · subst hr; simp
    · rw [upd_other _ _ _ _ hr] at h; exact List.mem_cons_of_mem _ (putBoxes_mem ks as bs _ r row h)

theorem exH_mem {ks : List ArgK} {as : List V} {bs ow : List Nat} {base : Nat} {shape : List (Bool × Nat)} {rs : List V} {r : Nat} {row : Row} (hl : rs.length ≤ 64)
    (h : exH ks as bs ow base shape rs r = some row) : r ∈ bs ∨ (base ≤ r ∧ r < base + 64) := by
  unfold exH at h
  rw [putBoxes_or] at h
  split at h
  · rename_i x hx; exact .inl (putBoxes_mem _ _ _ _ _ _ hx)
  · obtain ⟨_, _, _, h1, h2⟩ := thawH_arr _ _ _ _ _ _ h
    exact .inr ⟨by omega, by omega⟩

theorem putBoxes_own : ∀ (ks : List ArgK) (as : List V) (bs : List Nat) (vs : List V) (r : Nat) (row : Row), putBoxes ks as bs vs (fun _ => none) r = some row → row.m = .own
  | [], as, bs, vs, r, row, h => by cases as <;> simp [putBoxes] at h
  | .plain :: ks, [], bs, vs, r, row, h => by simp [putBoxes] at h
  | .plain :: ks, a :: as, bs, vs, r, row, h => by simp only [putBoxes] at h; exact putBoxes_own ks as bs vs r row h
  | .ptr ow :: ks, [], bs, vs, r, row, h => by simp [putBoxes] at h
  | .ptr ow :: ks, a :: as, [], vs, r, row, h => by cases a <;> simp [putBoxes] at h
  | .ptr ow :: ks, a :: as, b :: bs, vs, r, row, h => by
    cases a <;> try (simp [putBoxes] at h; done)
    simp only [putBoxes] at h
    by_cases hr : r = b
    · subst hr; rw [upd_same] at h; cases h; rfl
    · rw [upd_other _ _ _ _ hr] at h; exact putBoxes_own ks as bs _ r row h

theorem exH_own {ks : List ArgK} {as : List V} {bs ow : List Nat} {base : Nat} {shape : List (Bool × Nat)} {rs : List V} {r : Nat} {row : Row} (hl : rs.length ≤ 64)
    (h : exH ks as bs ow base shape rs r = some row) : row.m = .own := by
  unfold exH at h
  rw [putBoxes_or] at h
  split at h
  · rename_i x hx; cases h; exact putBoxes_own _ _ _ _ _ _ hx
  · obtain ⟨_, _, h0, _, _⟩ := thawH_arr _ _ _ _ _ _ h
    rw [h0]

theorem exH_or (ks : List ArgK) (as : List V) (bs ow : List Nat) (base : Nat) (shape : List (Bool × Nat)) (rs : List V) (h : Nat → Option Row) (r : Nat) :
    putBoxes ks as bs ((thawL ow base 0 rs).drop (shapeLen shape)) (thawH ow base h 0 rs) r = match exH ks as bs ow base shape rs r with | some x => some x | none => h r := by
  unfold exH
  rw [putBoxes_or ks as bs _ (thawH ow base h 0 rs), putBoxes_or ks as bs _ (thawH ow base (fun _ => none) 0 rs), thawH_or ow base h]
  cases putBoxes ks as bs ((thawL ow base 0 rs).drop (shapeLen shape)) (fun _ => none) r <;> rfl

def LessH (h' h : Nat → Option Row) : Prop := ∀ r row', h' r = some row' → ∃ row, h r = some row ∧ row.c = row'.c ∧ (row'.m.isRo = false → row.m.isRo = false)

theorem LessH.refl (h : Nat → Option Row) : LessH h h := fun _ row' h => ⟨row', h, rfl, id⟩
theorem LessH.trans {a b c : Nat → Option Row} (h : LessH a b) (k : LessH b c) : LessH a c := fun r row' hr => by
  obtain ⟨row, h1, h2, h3⟩ := h r row' hr
  obtain ⟨row2, k1, k2, k3⟩ := k r row h1
  exact ⟨row2, k1, k2.trans h2, fun h => k3 (h3 h)⟩
theorem less_kill (h : Nat → Option Row) (r : Nat) : LessH (upd h r none) h := fun q row' hq => by
  by_cases hqr : q = r
  · subst hqr; rw [upd_same] at hq; cases hq
  · rw [upd_other _ _ _ _ hqr] at hq; exact ⟨row', hq, rfl, id⟩

theorem takeLeaves_less (ow : List Nat) : ∀ (cs : List V) (p : Nat) (h : Nat → Option Row) (x : List V × (Nat → Option Row)), takeLeaves ow p cs h = some x → LessH x.2 h
  | [], p, h, x, ht => by simp [takeLeaves] at ht; subst ht; exact LessH.refl h
  | c :: cs, p, h, x, ht => by
    simp only [takeLeaves] at ht
    cases hb : ow.any (Nat.beq p)
    · simp only [hb, cond_false] at ht
      split at ht
      case h_2 => cases ht
      split at ht
      case h_2 => cases ht
      rename_i hr
      cases ht
      exact (takeLeaves_less ow cs _ _ _ hr).trans (markRo_less h _)
    · simp only [hb, cond_true] at ht
      split at ht
      · split at ht
        case h_2 => cases ht
        split at ht
        case h_2 => cases ht
        rename_i hr
        cases ht
        exact (takeLeaves_less ow cs _ _ _ hr).trans (less_kill h _)
      · split at ht
        case h_2 => cases ht
        rename_i hr
        cases ht
        have := takeLeaves_less ow cs _ _ _ hr
        exact this
      · cases ht

theorem takeArgs_less : ∀ (ks : List ArgK) (as : List V) (h : Nat → Option Row) (x : List V × (Nat → Option Row) × List Nat), takeArgs ks as h = some x → LessH x.2.1 h
  | [], [], h, x, ht => by simp [takeArgs] at ht; subst ht; exact LessH.refl h
  | [], _ :: _, h, x, ht => by simp [takeArgs] at ht
  | .plain :: ks, [], h, x, ht => by simp [takeArgs] at ht
  | .ptr _ :: ks, [], h, x, ht => by simp [takeArgs] at ht
  | .plain :: ks, v :: vs, h, x, ht => by
    simp only [takeArgs] at ht
    split at ht
    · cases ht
    split at ht
    · cases ht
    rename_i hr
    cases ht
    exact (takeArgs_less ks vs _ _ hr).trans (markRo_less h _)
  | .ptr ow :: ks, v :: vs, h, x, ht => by
    obtain ⟨r, rfl⟩ := takeArgs_ptr ht
    simp only [takeArgs] at ht
    split at ht
    case h_2 => cases ht
    rename_i cs _
    cases hb : Nat.ble cs.length 63
    case false => simp [hb] at ht
    simp only [hb, cond_true] at ht
    split at ht
    · cases ht
    rename_i hl
    split at ht
    · cases ht
    rename_i hr
    cases ht
    exact (takeArgs_less ks vs _ _ hr).trans ((takeLeaves_less _ _ _ _ _ hl).trans (less_kill h r))

section
variable {C : Cx} {w0 : World} {outer own : Nat → Prop} {ρ : Nat → Option RI} {st st' : St} {a : Act} {w : World} {h : Nat → Option Row}

theorem HRel.sub (hh : HRel w0 outer own ρ h w) {w1 : World} {outer' own' : Nat → Prop} {e : Nat → Option Row} {ρe : Nat → Option RI} (φ : Nat → Nat) (hwx : Wx w1 w)
    (hold : ∀ b, b < w1.heap.size → ¬ own' b → w.heap[b]? = w1.heap[b]?) (hout : ∀ b, outer' b → b < w1.heap.size ∧ ¬ own' b)
    (hrow : ∀ q row, e q = some row → ∃ row' ri, h (φ q) = some row' ∧ ρe q = some ri ∧ ρ (φ q) = some ri ∧ RowOk w ρe (Bad outer' ρe e) ri row.c ∧ (ri.nl = false → ¬ outer' ri.b ∧ (row.m.isRo = false → w1.heap.size ≤ ri.b ∨ own' ri.b)))
    (hinj : ∀ q q' row row', e q = some row → e q' = some row' → φ q = φ q' → q = q') : HRel w1 outer' own' ρe e w := by
  refine ⟨hwx, hold, hout, fun q row hq => ?_, fun q q' row row' qi qi' h1 h2 h3 h4 h5 h6 h7 => ?_⟩
  · obtain ⟨row', ri, h1, h2, h3, h4, h5⟩ := hrow q row hq
    obtain ⟨ri', k1, _, k2⟩ := hh.rows _ _ h1
    rw [h3] at k1; cases k1
    exact ⟨ri, h2, h4, fun hn => ⟨h5 hn, (k2 hn).2⟩⟩
  · obtain ⟨r1, ri1, g1, g2, g3, _, _⟩ := hrow q row h1
    obtain ⟨r2, ri2, g4, g5, g6, _, _⟩ := hrow q' row' h2
    rw [h3] at g2; cases g2; rw [h4] at g5; cases g5
    exact hinj q q' row row' h1 h2 (hh.inj _ _ _ _ _ _ g1 g4 g3 g6 h5 h6 h7)

variable {bad : Nat → Prop} {g : Nat → Option Row} {N0 : Nat}

/-- What the function finds is there. -/
theorem EntOk.row {ks : List ArgK} {k : Nat} {as : List V} {bs : List Nat} {u : Nat → Value} (he : EntOk w ρ bad g N0 ks k as bs u) : ∀ {q : Nat} {row : Row}, entH ks k as q = some row →
    64 * k ≤ q ∧ q < 64 * (k + ks.length) ∧
    ((∃ b ow k' cs ri, boxOf ks k bs q = some b ∧ q = 64 * k' + 63 ∧ k ≤ k' ∧ k' < k + ks.length ∧ row = ⟨.box (thawL ow (64 * k') 0 cs), .own⟩ ∧ g b = some ⟨.box (thawL ow (N0 + 64 * k') 0 cs), .own⟩ ∧ ρ b = some ri ∧ ri.nl = false ∧
      cs.length ≤ 63 ∧ (∀ j (hj : j < cs.length), NoRef cs[j]) ∧ b < N0) ∨
    (∃ t l, row = ⟨.arr t l, .own⟩ ∧ g (N0 + q) = some row ∧ q % 64 ≠ 63)) := by
  induction he with
  | nil => intro q row h; simp [entH] at h
  | plain hv hn hr ih =>
    rename_i ks k v as bs u
    intro q row h
    simp only [entH] at h
    obtain ⟨h1, h2, h3⟩ := ih h
    refine ⟨by omega, by simp; omega, ?_⟩
    rcases h3 with ⟨b, ow, k', cs, ri, e1, e2, e3, e4, e5⟩ | h3
    · exact .inl ⟨b, ow, k', cs, ri, e1, e2, by omega, by simp; omega, e5⟩
    · exact .inr h3
  | ptr ri hρ hnl hu hg hl hq hc hb hr ih =>
    rename_i ow ks k b cs as bs u
    intro q row h
    simp only [entH] at h
    by_cases hq63 : q = 64 * k + 63
    · subst hq63
      rw [upd_same] at h; cases h
      exact ⟨by omega, by simp; omega, .inl ⟨b, ow, k, cs, ri, by simp [boxOf], rfl, Nat.le_refl _, by simp, rfl, hg, hρ, hnl, hl, fun j hj => (hc j hj).1, hb⟩⟩
    · rw [upd_other _ _ _ _ hq63, thawH_or] at h
      split at h
      · rename_i x hx
        cases h
        obtain ⟨t, l, e1, e2, e3⟩ := thawH_arr _ _ _ _ _ _ hx
        refine ⟨by omega, by simp; omega, .inr ⟨t, l, e1, ?_, by omega⟩⟩
        have h1 := hq (q - 64 * k) (by omega)
        have h2 := thawH_shift ow (64 * k) (N0 + 64 * k) cs 0 (q - 64 * k)
        rw [show 64 * k + (q - 64 * k) = q by omega, hx] at h2
        rw [show N0 + 64 * k + (q - 64 * k) = N0 + q by omega] at h1 h2
        rw [h1, ← h2]
      · obtain ⟨h1, h2, h3⟩ := ih h
        refine ⟨by omega, by simp; omega, ?_⟩
        rcases h3 with ⟨b', ow', k', cs', ri', e1, e2, e3, e4, e5⟩ | h3
        · refine .inl ⟨b', ow', k', cs', ri', ?_, e2, by omega, by simp; omega, e5⟩
          simp only [boxOf]; rw [if_neg hq63]; exact e1
        · exact .inr h3

/-- The arguments, under the function's own numbers. -/
theorem EntOk.vals {ks : List ArgK} {k : Nat} {as : List V} {bs : List Nat} {u : Nat → Value} (he : EntOk w ρ bad g N0 ks k as bs u) {ρc : Nat → Option RI} {badc : Nat → Prop}
    (hb : ∀ b, badc b → bad b) (hρ : ∀ q b, boxOf ks k bs q = some b → ρc q = ρ b) :
    (entS ks k as).length = ks.length ∧ ∀ j (hj : j < (entS ks k as).length), VR w ρc badc (u j) (entS ks k as)[j] := by
  induction he with
  | nil => exact ⟨rfl, fun j hj => by simp [entS] at hj⟩
  | plain hv hn hr ih =>
    rename_i ks k v as bs u
    obtain ⟨h1, h2⟩ := ih (fun q b h => hρ q b h)
    refine ⟨by simp [entS, h1], fun j hj => ?_⟩
    cases j with
    | zero => exact (hv.noRef hn ρc).mono (fun _ _ h => h) (fun _ _ _ => rfl) fun b h => .inl (hb b h)
    | succ j => exact h2 j (by simpa [entS] using hj)
  | ptr ri hρb hnl hu hg hl hq hc hb0 hr ih =>
    rename_i ow ks k b cs as bs u
    obtain ⟨h1, h2⟩ := ih (fun q b' h => hρ q b' (by
      obtain ⟨h3, _⟩ := boxOf_ge _ _ _ _ _ h
      simp only [boxOf]; rw [if_neg (by omega)]; exact h))
    refine ⟨by simp [entS, h1], fun j hj => ?_⟩
    cases j with
    | zero =>
      show VR w ρc badc (u 0) (.bp (64 * k + 63) 0)
      rw [hu]
      exact .bp _ _ ri (by rw [hρ (64 * k + 63) b (by simp [boxOf])]; exact hρb) hnl
    | succ j => exact h2 j (by simpa [entS] using hj)

theorem EntOk.surj {ks : List ArgK} {k : Nat} {as : List V} {bs : List Nat} {u : Nat → Value} (he : EntOk w ρ bad g N0 ks k as bs u) : ∀ b ∈ bs, ∃ q, boxOf ks k bs q = some b := by
  induction he with
  | nil => intro b hb; simp at hb
  | plain hv hn hr ih => intro b hb; obtain ⟨q, h⟩ := ih b hb; exact ⟨q, h⟩
  | ptr ri hρb hnl hu hg hl hq hc hb0 hr ih =>
    rename_i ow ks k b cs as bs u
    intro b' hb'
    rcases List.mem_cons.1 hb' with rfl | hb'
    · exact ⟨64 * k + 63, by simp [boxOf]⟩
    · obtain ⟨q, h⟩ := ih b' hb'
      refine ⟨q, ?_⟩
      have := (boxOf_ge _ _ _ _ _ h).1
      simp only [boxOf]; rw [if_neg (by omega)]; exact h

theorem rowOk_closed {bad2 : Nat → Prop} {ri : RI} {t : TN} {l : List (El t)} (hr : RowOk w ρ bad ri (.arr t l)) (hb : ∀ b, bad2 b → bad b) (ρ2 : Nat → Option RI) : RowOk w ρ2 bad2 ri (.arr t l) := by
  refine ⟨hr.1, ?_⟩
  rcases hr.2 with h | ⟨h1, h2, h3, h4, h5⟩
  · exact .inl h
  · refine .inr ⟨h1, h2, h3, h4, fun i hi j hj => ?_⟩
    obtain ⟨u, h6, h7⟩ := h5 i hi j hj
    exact ⟨u, h6, (h7.noRef (fun S => rin_enc S t _ j) ρ2).mono (fun _ _ h => h) (fun _ _ _ => rfl) fun b h => .inl (hb b h)⟩

end
end Go.D
