/-
  A body's end: what the function gives.
-/
import Derived.Test.YtilkenfgjljknaaCode4
namespace Go.D

theorem Subs.app {a b c d : List V} (h : Subs a b) (k : Subs c d) : Subs (a ++ c) (b ++ d) := by
  induction h with
  | nil => exact k
  | cons h1 _ ih => exact .cons h1 ih

theorem unflatTy_sub (t : Ty) (vs : List V) (x : t.T × List V) (h : unflatTy t vs = some x) : ∃ us, vs = us ++ x.2 ∧ Subs us (flatTy t x.1) := by
  cases t with
  | v t =>
    simp only [unflatTy] at h
    obtain ⟨a, h1, h2⟩ := Option.bind_eq_some_iff.1 h
    cases h2
    exact ⟨_, (List.take_append_drop _ _).symm, dec_sub t h1⟩
  | cells t =>
    simp only [unflatTy] at h
    obtain ⟨a, h1, h2⟩ := Option.bind_eq_some_iff.1 h
    cases h2
    exact ⟨_, (List.take_append_drop _ _).symm, dec_sub t h1⟩
  | sl t =>
    cases vs with
    | nil => simp [unflatTy] at h
    | cons v vs =>
      simp only [unflatTy] at h
      obtain ⟨a, h1, h2⟩ := Option.bind_eq_some_iff.1 h
      cases h2
      exact ⟨[v], rfl, .cons (asL_sub h1) .nil⟩
  | raw =>
    cases vs with
    | nil => simp [unflatTy] at h
    | cons v vs => simp only [unflatTy, Option.some.injEq] at h; subst h; exact ⟨[v], rfl, .cons (.refl _) .nil⟩

theorem unflat_sub : ∀ (ts : List Ty) (vs : List V) (x : TyTup ts), unflat ts vs = some x → Subs vs (flatTup ts x)
  | [], [], x, h => .nil
  | [], _ :: _, x, h => by simp [unflat] at h
  | [t], vs, x, h => by
    simp only [unflat] at h
    obtain ⟨y, h1, h2⟩ := Option.bind_eq_some_iff.1 h
    obtain ⟨us, h3, h4⟩ := unflatTy_sub t vs y h1
    split at h2
    · rename_i h5
      cases h2
      rw [h5, List.append_nil] at h3; subst h3; exact h4
    · cases h2
  | t :: d :: r, vs, x, h => by
    simp only [unflat] at h
    obtain ⟨y, h1, h2⟩ := Option.bind_eq_some_iff.1 h
    obtain ⟨z, h3, h4⟩ := Option.bind_eq_some_iff.1 h2
    cases h4
    obtain ⟨us, h5, h6⟩ := unflatTy_sub t vs y h1
    rw [h5]
    exact h6.app (unflat_sub (d :: r) _ z h3)

section
variable {C : Cx} {w0 : World} {outer own D : Nat → Prop} {R : Type} {st st1 st2 : St} {ρ ρ1 ρ2 : Nat → Option RI} {a a1 a2 : Act} {w w1 w2 : World} {j : JI}

theorem touch_all (an : An) : ∀ c : Code, Touch an (fun _ => True) c := by
  have jd : ∀ o, JD (fun _ => True) o := fun o => by cases o <;> simp [JD]
  intro c
  induction c with
  | region id ops d => exact ⟨fun _ _ _ _ => trivial, jd _⟩
  | seq x y hx hy => exact ⟨hx, hy⟩
  | cond c x y hx hy => cases c <;> first | exact ⟨hx, hy, jd _⟩ | exact ⟨hx, hy⟩
  | block id x hx => exact ⟨hx, jd _⟩
  | loop x hx =>
    refine ⟨hx, ?_⟩
    split
    · exact jd _
    · trivial
  | scope x hx => exact hx
  | _ => trivial

/-- The arguments as their data say. -/
theorem entS_enc : ∀ (ks : List ArgK) (ats : List Ty) (as : List V) (x : TyTup ats) (k : Nat) (bad : Nat → Prop) (u : Nat → Value), ksOk ks ats = true → decTup ats as = some x →
    (∀ j (hj : j < (entS ks k as).length), VR w ρ bad (u j) (entS ks k as)[j]) →
    (entS ks k (encTup ats x)).length = (entS ks k as).length ∧ ∀ j (hj : j < (entS ks k (encTup ats x)).length), VR w ρ bad (u j) (entS ks k (encTup ats x))[j] := by
  intro ks
  induction ks with
  | nil =>
    intro ats as x k bad u hk hd hv
    cases ats with
    | nil => cases as with
      | nil => exact ⟨rfl, fun j hj => by simp [entS] at hj⟩
      | cons => simp [decTup] at hd
    | cons => simp [ksOk] at hk
  | cons q ks ih =>
    intro ats as x k bad u hk hd hv
    -- the first and the rest
    cases ats with
    | nil => cases q with
      | plain => simp [ksOk] at hk
      | ptr ow => cases ow <;> simp [ksOk] at hk
    | cons t ats =>
      have split1 : ∃ v vs y, as = v :: vs ∧ ∃ (x0 : t.T), decTy t v = some x0 ∧ decTup ats vs = some y ∧ encTup (t :: ats) x = encTy t x0 :: encTup ats y := by
        cases ats with
        | nil =>
          cases as with
          | nil => simp [decTup] at hd
          | cons v vs =>
            cases vs with
            | nil => exact ⟨v, [], (), rfl, x, by simpa [decTup] using hd, rfl, rfl⟩
            | cons => simp [decTup] at hd
        | cons d r =>
          cases as with
          | nil => simp [decTup] at hd
          | cons v vs =>
            simp only [decTup] at hd
            obtain ⟨x0, h1, h2⟩ := Option.bind_eq_some_iff.1 hd
            obtain ⟨y, h3, h4⟩ := Option.bind_eq_some_iff.1 h2
            cases h4
            exact ⟨v, vs, y, rfl, x0, h1, h3, rfl⟩
      obtain ⟨v, vs, y, rfl, x0, h1, h3, h4⟩ := split1
      rw [h4]
      cases q with
      | plain =>
        simp only [ksOk] at hk
        obtain ⟨e1, e2⟩ := ih ats vs y (k + 1) bad (fun j => u (j + 1)) hk h3 (fun j hj => hv (j + 1) (by simp [entS]; omega))
        refine ⟨by simp [entS, e1], fun j hj => ?_⟩
        cases j with
        | zero => exact decTy_ok t v x0 h1 (hv 0 (by simp [entS]))
        | succ j => exact e2 j (by simpa [entS] using hj)
      | ptr ow =>
        cases ow with
        | cons => simp [ksOk] at hk
        | nil =>
        cases t with
        | cells t =>
          simp only [ksOk] at hk
          obtain ⟨e1, e2⟩ := ih ats vs y (k + 1) bad (fun j => u (j + 1)) hk h3 (fun j hj => hv (j + 1) (by simp [entS]; omega))
          refine ⟨by simp [entS, e1], fun j hj => ?_⟩
          cases j with
          | zero => exact hv 0 (by simp [entS])
          | succ j => exact e2 j (by simpa [entS] using hj)
        | _ => simp [ksOk] at hk

theorem thawL_nil (base : Nat) : ∀ (cs : List V) (p : Nat), thawL [] base p cs = cs
  | [], p => rfl
  | c :: cs, p => by cases c <;> simp [thawL, thawL_nil base cs]
theorem thawH_nil (base : Nat) (h : Nat → Option Row) : ∀ (cs : List V) (p : Nat), thawH [] base h p cs = h
  | [], p => rfl
  | c :: cs, p => by cases c <;> simp [thawH, thawH_nil base h cs]

theorem entH_enc : ∀ (ks : List ArgK) (ats : List Ty) (as : List V) (x : TyTup ats) (k q : Nat) (row' : Row), ksOk ks ats = true → decTup ats as = some x → entH ks k (encTup ats x) q = some row' →
    64 * k ≤ q ∧ ∃ cs es, entH ks k as q = some ⟨.box cs, .own⟩ ∧ row' = ⟨.box es, .own⟩ ∧ Subs cs es := by
  intro ks
  induction ks with
  | nil =>
    intro ats as x k q row' hk hd hv
    cases ats with
    | nil => simp [entH] at hv
    | cons => simp [ksOk] at hk
  | cons g ks ih =>
    intro ats as x k q row' hk hd hv
    cases ats with
    | nil => cases g with
      | plain => simp [ksOk] at hk
      | ptr ow => cases ow <;> simp [ksOk] at hk
    | cons t ats =>
      have split1 : ∃ v vs y, as = v :: vs ∧ ∃ (x0 : t.T), decTy t v = some x0 ∧ decTup ats vs = some y ∧ encTup (t :: ats) x = encTy t x0 :: encTup ats y := by
        cases ats with
        | nil =>
          cases as with
          | nil => simp [decTup] at hd
          | cons v vs =>
            cases vs with
            | nil => exact ⟨v, [], (), rfl, x, by simpa [decTup] using hd, rfl, rfl⟩
            | cons => simp [decTup] at hd
        | cons d r =>
          cases as with
          | nil => simp [decTup] at hd
          | cons v vs =>
            simp only [decTup] at hd
            obtain ⟨x0, h1, h2⟩ := Option.bind_eq_some_iff.1 hd
            obtain ⟨y, h3, h4⟩ := Option.bind_eq_some_iff.1 h2
            cases h4
            exact ⟨v, vs, y, rfl, x0, h1, h3, rfl⟩
      obtain ⟨v, vs, y, rfl, x0, h1, h3, h4⟩ := split1
      rw [h4] at hv
      cases g with
      | plain =>
        simp only [ksOk] at hk
        simp only [entH] at hv ⊢
        obtain ⟨e0, e1⟩ := ih ats vs y (k + 1) q row' hk h3 hv
        exact ⟨by omega, e1⟩
      | ptr ow =>
        cases ow with
        | cons => simp [ksOk] at hk
        | nil =>
        cases t with
        | cells t =>
          simp only [ksOk] at hk
          simp only [decTy] at h1
          split at h1
          · rename_i cs
            simp only [encTy, entH, thawL_nil, thawH_nil] at hv ⊢
            by_cases hq : q = 64 * k + 63
            · subst hq
              rw [upd_same] at hv; cases hv
              exact ⟨by omega, cs, _, upd_same _ _ _, rfl, dec_sub t h1⟩
            · rw [upd_other _ _ _ _ hq] at hv ⊢
              obtain ⟨e0, e1⟩ := ih ats vs y (k + 1) q row' hk h3 hv
              exact ⟨by omega, e1⟩
          · cases h1
        | _ => simp [ksOk] at hk

theorem ent_heap {h h2 : Nat → Option Row} (hh : HRel w0 outer own ρ h w) (he : ∀ q row', h2 q = some row' → ∃ cs es, h q = some ⟨.box cs, .own⟩ ∧ row' = ⟨.box es, .own⟩ ∧ Subs cs es) :
    HRel w0 outer own ρ h2 w ∧ ∀ u d, VR w ρ (Bad outer ρ h) u d → VR w ρ (Bad outer ρ h2) u d := by
  have hbad : ∀ b, Bad outer ρ h2 b → Bad outer ρ h b := fun b hb => hb.mono fun q row' h1 h2 => by
    obtain ⟨cs, es, e1, _⟩ := he q row' h1; exact ⟨_, e1, rfl⟩
  have hv : ∀ u d, VR w ρ (Bad outer ρ h) u d → VR w ρ (Bad outer ρ h2) u d := fun u d hu => hu.mono (fun _ _ h => h) (fun _ _ _ => rfl) fun b hb => .inl (hbad b hb)
  refine ⟨⟨hh.wx, hh.old, hh.outLt, fun r row' hr => ?_, fun q q' row row' qi qi' h1 h2 h3 h4 h5 h6 h7 => ?_⟩, hv⟩
  · obtain ⟨cs, es, e1, rfl, e3⟩ := he r row' hr
    obtain ⟨ri, h3, h4, h5⟩ := hh.rows r _ e1
    refine ⟨ri, h3, ⟨h4.1, fun j hj => ?_⟩, h5⟩
    obtain ⟨f1, u, f2, f3⟩ := h4.2 j (by rw [e3.len]; exact hj)
    exact ⟨f1, u, f2, VR.sub (e3.get j (by rw [e3.len]; exact hj) hj) (hv _ _ f3)⟩
  · obtain ⟨_, _, e1, _⟩ := he _ _ h1; obtain ⟨_, _, e2, _⟩ := he _ _ h2
    exact hh.inj q q' _ _ qi qi' e1 e2 h3 h4 h5 h6 h7

end
end Go.D
