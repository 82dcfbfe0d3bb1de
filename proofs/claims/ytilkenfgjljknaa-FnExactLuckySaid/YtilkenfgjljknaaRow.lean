/-
  What comes in from outside: arguments that read as data are data of the plain semantics; what the row asks behind the call.
-/
import Derived.Test.YtilkenfgjljknaaKinds
import Derived.Test.YtilkenfgjljknaaFin3
import Derived.Carry
import Derived.WideKeyArgs
import Derived.ChangeSame
namespace Go.D
open Go.RowKit Go.ChangeShapes

section
variable {H : Type} {encH : TypeId × Value → H} {P : Program} {W : World}

def noRho : Nat → Option RI := fun _ => none
def noBad : Nat → Prop := fun _ => False

/-- The kinds of the cells of a type of values. -/
def kindsT (P : Program) (tn : TypeId → Option TN) : Nat → TypeId → Option (List LK)
  | 0, _ => none
  | d + 1, t => match P.underlying t with
    | some (.int .i64) => some [.i]
    | some (.int .u8) => some [.by]
    | some .bool => some [.b]
    | some .string => some [.s]
    | some (.slice e) => (tn e).map fun t => [.l t]
    | some (.struct fs) => (kindsF (kindsT P tn d) P 0 fs.toList).bind fun ks => bif Nat.beq (P.cellsOf t) ks.length then some ks else none
    | _ => none
where
  kindsF (f : TypeId → Option (List LK)) (P : Program) : Nat → List Field → Option (List LK)
    | _, [] => some []
    | k, x :: xs => bif Nat.beq x.offset k then
        match f x.type with
        | some ks => bif Nat.beq (P.cellsOf x.type) ks.length then (kindsF f P (k + ks.length) xs).map fun r => ks ++ r else none
        | none => none
      else none

structure KindsOk (P : Program) (tn : TypeId → Option TN) (D : Nat) : Prop where
  ok : ∀ e t, tn e = some t → kindsT P tn D e = some (lk t) ∧ P.cellsOf e = sz t

def VRs (W : World) (cs : List Value) (vs : List V) : Prop := cs.length = vs.length ∧ ∀ j (hj : j < vs.length), VR W noRho noBad (cs.getD j undef) vs[j]

theorem VRs.one {c : Value} {v : V} (h : VR W noRho noBad c v) : VRs W [c] [v] := ⟨rfl, fun j hj => by
  have : j = 0 := by simp at hj; omega
  subst this; exact h⟩

theorem VRs.app {a b : List Value} {x y : List V} (h : VRs W a x) (k : VRs W b y) : VRs W (a ++ b) (x ++ y) := by
  refine ⟨by simp [h.1, k.1], fun j hj => ?_⟩
  by_cases hj1 : j < x.length
  · rw [List.getElem_append_left hj1, getD_app1 _ _ _ _ (by rw [h.1]; exact hj1)]; exact h.2 j hj1
  · rw [List.getElem_append_right (by omega), getD_app2 _ _ _ _ (by rw [h.1]; omega), h.1]
    exact k.2 _ (by simp at hj; omega)

theorem fits_wf {k : IntKind} {n : Int} (h : (Lit.int k n).wf = true) : Fits k n := by
  simp only [Lit.wf, Bool.and_eq_true, decide_eq_true_eq] at h
  exact h

theorem mapM_some {α β : Type} {f : α → Option β} : ∀ {l : List α} {r : List β}, l.mapM f = some r → r.length = l.length ∧ ∀ i (hi : i < l.length) (hr : i < r.length), f l[i] = some r[i]
  | [], r, h => by simp at h; subst h; exact ⟨rfl, fun i hi => by simp at hi⟩
  | x :: l, r, h => by
    rw [List.mapM_cons] at h
    cases hx : f x with
    | none => rw [hx] at h; simp at h
    | some y =>
      rw [hx] at h
      cases hl : l.mapM f with
      | none => rw [hl] at h; simp at h
      | some ys =>
        rw [hl] at h; simp at h; subst h
        obtain ⟨h1, h2⟩ := mapM_some hl
        refine ⟨by simp [h1], fun i hi hr => ?_⟩
        cases i with
        | zero => exact hx
        | succ i => exact h2 i (by simpa using hi) (by simpa using hr)

theorem choose_list {α : Type} {p : Nat → α → Prop} : ∀ (n : Nat), (∀ i, i < n → ∃ x, p i x) → ∃ l : List α, l.length = n ∧ ∀ i (hi : i < l.length), p i l[i]
  | 0, _ => ⟨[], rfl, fun i hi => by simp at hi⟩
  | n + 1, h => by
    obtain ⟨l, h1, h2⟩ := choose_list n (fun i hi => h i (by omega))
    obtain ⟨x, hx⟩ := h n (by omega)
    refine ⟨l ++ [x], by simp [h1], fun i hi => ?_⟩
    by_cases hi1 : i < l.length
    · rw [List.getElem_append_left hi1]; exact h2 i hi1
    · have : i = n := by simp at hi; omega
      subst this
      rw [List.getElem_append_right (by omega)]
      simpa [h1] using hx

theorem cells_some {a : Addr} {n : Nat} {cs : List Value} (h : W.cells? 0 a n = some cs) : cs.length = n ∧ ∀ i (_ : i < n), W.cell? (a.add i) = some (cs.getD i undef) := by
  simp only [World.cells?, Nat.zero_le, if_true] at h
  obtain ⟨h1, h2⟩ := mapM_some h
  simp at h1
  refine ⟨h1, fun i hi => ?_⟩
  have := h2 i (by simpa using hi) (by omega)
  simp only [List.getElem_range] at this
  rw [this, List.getD_eq_getElem?_getD, List.getElem?_eq_getElem (by omega)]; rfl

theorem trod_vr {tn : TypeId → Option TN} {D : Nat} (hK : KindsOk P tn D) {sp : Nat → Bool} {held : Bool} : ∀ (fuel : Nat) (T : TypeId) (cs : List Value) (x : DataW H × List MemPlace) (d : Nat) (ks : List LK),
    DataW.trod encH P W 0 sp held fuel T cs = some x → kindsT P tn d T = some ks → ∃ vs, VRs W cs vs ∧ Mats ks vs
  | 0, T, cs, x, d, ks, h, hk => by simp [DataW.trod] at h
  | fuel + 1, T, cs, x, 0, ks, h, hk => by simp [kindsT] at hk
  | fuel + 1, T, cs, x, d + 1, ks, h, hk => by
    have slice : ∀ e, P.underlying T = some (.slice e) → (tn e).map (fun t => [LK.l t]) = some ks → ∃ vs, VRs W cs vs ∧ Mats ks vs := fun e hu hk => by
      obtain ⟨t, ht, hk⟩ := Option.map_eq_some_iff.1 hk
      subst hk
      obtain ⟨kk, hsz⟩ := hK.ok e t ht
      cases cs with
      | nil => simp [DataW.trod, hu] at h
      | cons v r =>
      cases r with
      | cons v2 r2 => cases v <;> simp [DataW.trod, hu] at h
      | nil =>
      have hv : ∃ ao len cap, v = .slice ao len cap := by cases v <;> first | exact ⟨_, _, _, rfl⟩ | simp [DataW.trod, hu] at h
      obtain ⟨ao, len, cap, rfl⟩ := hv
      cases ao with
      | none =>
        have hz : len = 0 ∧ cap = 0 := by
          cases len <;> cases cap <;> simp [DataW.trod, hu] at h
          exact ⟨rfl, rfl⟩
        obtain ⟨rfl, rfl⟩ := hz
        exact ⟨[.nil], VRs.one .nil, .cons ⟨[], rfl⟩ .nil⟩
      | some a =>
        simp only [DataW.trod, hu] at h
        split at h
        case isFalse => cases h
        rename_i hcnd
        obtain ⟨_, hlen, hcap⟩ := hcnd
        obtain ⟨elems, hel, _⟩ := Option.bind_eq_some_iff.1 h
        rw [hsz] at hel
        obtain ⟨m1, m2⟩ := mapM_some hel
        simp at m1
        have one : ∀ i, i < len → ∃ y : El t, ∃ u : List Value, W.cells? 0 (a.add (i * sz t)) (sz t) = some u ∧ ∀ j (_ : j < sz t), VR W noRho noBad (u.getD j undef) ((enc t y).getD j .undef) := fun i hi => by
          have h1 := m2 i (by simpa using hi) (by omega)
          simp only [List.getElem_range] at h1
          obtain ⟨u, h2, h3⟩ := Option.bind_eq_some_iff.1 h1
          obtain ⟨vs, h4, h5⟩ := trod_vr hK fuel e u _ D (lk t) h3 kk
          obtain ⟨y, h6⟩ := dec_total t vs h5
          have h7 := dec_sub t h6
          refine ⟨y, u, h2, fun j hj => ?_⟩
          have hj2 : j < (enc t y).length := by rw [enc_length]; exact hj
          have hj1 : j < vs.length := by rw [h7.len]; exact hj2
          rw [List.getD_eq_getElem?_getD (l := enc t y), List.getElem?_eq_getElem hj2]
          exact VR.sub (h7.get j hj1 hj2) (h4.2 j hj1)
        obtain ⟨l, hl1, hl2⟩ := choose_list (p := fun i y => ∃ u : List Value, W.cells? 0 (a.add (i * sz t)) (sz t) = some u ∧ ∀ j (_ : j < sz t), VR W noRho noBad (u.getD j undef) ((enc t y).getD j .undef)) len one
        refine ⟨[.sl t l], VRs.one ?_, .cons ⟨l, by simp [asL, TN.cast]⟩ .nil⟩
        cases l with
        | nil =>
          simp at hl1; subst hl1
          exact .slE t _ cap hcap
        | cons y0 l0 =>
        -- there is a cell: the address is a plain one
        obtain ⟨u0, hu0, _⟩ := hl2 0 (by simp)
        have hc0 := (cells_some hu0).2 0 (sz_pos t)
        have hspot : a.spot = none := by
          simp only [World.cell?] at hc0
          split at hc0
          · simp only [Addr.add, Nat.zero_mul, if_true] at hc0
            cases hs : a.spot with
            | none => rfl
            | some _ => rw [hs] at hc0; simp at hc0
          · cases hc0
        obtain ⟨b, off, spot⟩ := a
        simp only at hspot; subst hspot
        subst hl1
        refine .slC t _ b off cap (fun i j => (W.cell? (at_ b (off + i * sz t + j))).getD undef) (fun h => h) hlen hcap (fun i hi j hj => ?_) (fun i hi j hj => ?_)
        · obtain ⟨u, h1, _⟩ := hl2 i hi
          have := (cells_some h1).2 j hj
          have e : ((⟨b, off, none⟩ : Addr).add (i * sz t)).add j = at_ b (off + i * sz t + j) := by
            show ((at_ b off).add (i * sz t)).add j = _
            rw [add_at, add_at]
          rw [e] at this
          rw [this]; rfl
        · obtain ⟨u, h1, h2⟩ := hl2 i hi
          have := (cells_some h1).2 j hj
          have e : ((⟨b, off, none⟩ : Addr).add (i * sz t)).add j = at_ b (off + i * sz t + j) := by
            show ((at_ b off).add (i * sz t)).add j = _
            rw [add_at, add_at]
          rw [e] at this
          rw [this]; exact h2 j hj
    simp only [kindsT] at hk
    cases hu : P.underlying T with
    | none => rw [hu] at hk; cases hk
    | some td =>
      rw [hu] at hk
      cases td with
      | int k =>
        cases cs with
        | nil => simp [DataW.trod, hu] at h
        | cons v r =>
        cases r with
        | cons v2 r2 => cases v <;> simp [DataW.trod, hu] at h
        | nil =>
        cases v with
        | int k' n =>
          simp only [DataW.trod, hu] at h
          split at h
          case isFalse => cases h
          rename_i hcnd
          obtain ⟨rfl, hw⟩ := hcnd
          have hf := fits_wf hw
          refine ⟨[.int k' n], VRs.one (.int _ _ hf), ?_⟩
          cases k' <;> simp at hk <;> subst hk
          · exact .cons ⟨n, rfl⟩ .nil
          · exact .cons ⟨_, rfl⟩ .nil
        | _ => simp [DataW.trod, hu] at h
      | bool =>
        cases cs with
        | nil => simp [DataW.trod, hu] at h
        | cons v r =>
        cases r with
        | cons v2 r2 => cases v <;> simp [DataW.trod, hu] at h
        | nil =>
        cases v with
        | bool b =>
          simp at hk; subst hk
          exact ⟨[.bool b], VRs.one (.bool _), .cons ⟨b, rfl⟩ .nil⟩
        | _ => simp [DataW.trod, hu] at h
      | string =>
        cases cs with
        | nil => simp [DataW.trod, hu] at h
        | cons v r =>
        cases r with
        | cons v2 r2 => cases v <;> simp [DataW.trod, hu] at h
        | nil =>
        cases v with
        | string s =>
          simp only [DataW.trod, hu] at h
          split at h
          case isFalse => cases h
          rename_i hs
          simp at hk; subst hk
          refine ⟨[.str s.data.toList], VRs.one ?_, .cons ⟨_, rfl⟩ .nil⟩
          have hs2 : s.data.toList.length ≤ maxLen := by
            rw [Array.length_toList]; exact hs
          exact VR.str (w := W) (ρ := noRho) (bad := noBad) s.data.toList hs2
        | _ => simp [DataW.trod, hu] at h
      | slice e => exact slice e hu hk
      | struct fs =>
        unfold DataW.trod at h
        rw [hu] at h
        simp only at h
        split at h
        case isFalse => cases h
        rename_i hlen
        obtain ⟨xs, hxs, _⟩ := Option.map_eq_some_iff.1 h
        clear h slice
        -- the fields
        have go : ∀ (l : List Field) (k : Nat) (ks : List LK) (xs : List (DataW H × List MemPlace)), kindsT.kindsF (kindsT P tn d) P k l = some ks →
            l.mapM (fun f => DataW.trod encH P W 0 sp held fuel f.type ((cs.drop f.offset).take (P.cellsOf f.type))) = some xs →
            ∃ vs, Mats ks vs ∧ k + vs.length ≤ max k cs.length ∧ VRs W ((cs.drop k).take vs.length) vs := by
          intro l
          induction l with
          | nil =>
            intro k ks xs hk _
            simp [kindsT.kindsF] at hk; subst hk
            exact ⟨[], .nil, by simp; omega, by simp, fun j hj => by simp at hj⟩
          | cons f l ih =>
            intro k ks xs hk hx
            simp only [kindsT.kindsF] at hk
            cases hb : Nat.beq f.offset k
            case false => simp [hb] at hk
            have hoff := Nat.eq_of_beq_eq_true hb
            simp only [hb, cond_true] at hk
            split at hk
            case h_2 => cases hk
            rename_i k0 hk0
            cases hb2 : Nat.beq (P.cellsOf f.type) k0.length
            case false => simp [hb2] at hk
            have hcl := Nat.eq_of_beq_eq_true hb2
            simp only [hb2, cond_true] at hk
            obtain ⟨r, hr, rfl⟩ := Option.map_eq_some_iff.1 hk
            rw [List.mapM_cons] at hx
            cases h0 : DataW.trod encH P W 0 sp held fuel f.type ((cs.drop f.offset).take (P.cellsOf f.type)) with
            | none => rw [h0] at hx; simp at hx
            | some y =>
              rw [h0] at hx
              cases h1 : l.mapM (fun f => DataW.trod encH P W 0 sp held fuel f.type ((cs.drop f.offset).take (P.cellsOf f.type))) with
              | none => rw [h1] at hx; simp at hx
              | some ys =>
                obtain ⟨v0, g1, g2⟩ := trod_vr hK fuel f.type _ y d k0 h0 hk0
                have hv0 : v0.length = k0.length := g2.len.symm
                rw [← hoff] at hr ⊢
                obtain ⟨vs, e1, e2, e3⟩ := ih (f.offset + k0.length) r ys hr h1
                have hl0 := g1.1
                rw [hcl] at hl0 g1
                simp only [List.length_take, List.length_drop] at hl0
                refine ⟨v0 ++ vs, g2.app e1, by simp; omega, ?_⟩
                have es : (cs.drop f.offset).take (v0 ++ vs).length = (cs.drop f.offset).take k0.length ++ (cs.drop (f.offset + k0.length)).take vs.length := by
                  rw [List.length_append, hv0, List.take_add, List.drop_drop]
                rw [es]
                exact g1.app e3
        obtain ⟨ks', hk1, hk2⟩ := Option.bind_eq_some_iff.1 hk
        cases hb : Nat.beq (P.cellsOf T) ks'.length
        case false => simp [hb] at hk2
        have hcl := Nat.eq_of_beq_eq_true hb
        simp only [hb, cond_true, Option.some.injEq] at hk2
        subst hk2
        obtain ⟨vs, e1, e2, e3⟩ := go fs.toList 0 ks' xs hk1 hxs
        have hvl : vs.length = cs.length := by rw [← e1.len, hlen, hcl]
        refine ⟨vs, ?_, e1⟩
        rw [List.drop_zero, List.take_of_length_le (by omega)] at e3
        exact e3
      | _ => simp at hk


/-- A type of values and its data. -/
def tyOk (P : Program) (tn : TypeId → Option TN) (D : Nat) (T : TypeId) : Ty → Bool
  | .v t => (match P.underlying T with
      | some (.struct _) => t.isAgg
      | some (.int _) | some .bool | some .string => !t.isAgg
      | _ => false) && decide (kindsT P tn D T = some (lk t))
  | .sl t => (match P.underlying T with
      | some (.slice _) => true
      | _ => false) && decide (kindsT P tn D T = some [.l t])
  | _ => false

theorem arg_vr {tn : TypeId → Option TN} {D : Nat} (hK : KindsOk P tn D) {sp : Nat → Bool} {held : Bool} {T : TypeId} {ty : Ty} (hty : tyOk P tn D T ty = true) {v : Value} {d : DataW H} {ps : List MemPlace}
    (h : DataW.Trod encH P W 0 sp held T v d ps) {r : Reach} {b : Nat} (hw : Value.okWide P W r b T v) : ∃ x : ty.T, VR W noRho noBad v (encTy ty x) ∧ decTy ty (encTy ty x) = some x := by
  obtain ⟨fuel, h⟩ := h
  -- a value of one cell
  have hone : (∀ fs, P.underlying T ≠ some (.struct fs)) → (∀ n e, P.underlying T ≠ some (.array n e)) → v.cells.toList = [v] := fun h1 h2 => by
    unfold Value.okWide at hw
    split at hw
    · rename_i fs hu; exact absurd hu (h1 _)
    · rename_i hu; exact absurd hu (h2 _ _)
    · cases v with
      | agg cs =>
        exfalso
        unfold Cell.okWide at hw
        split at hw <;> simp_all [Cell.ok]
      | _ => rfl
  cases ty with
  | v t =>
    simp only [tyOk, Bool.and_eq_true, decide_eq_true_eq] at hty
    obtain ⟨vs, h1, h2⟩ := trod_vr hK fuel T _ _ D _ h hty.2
    obtain ⟨x, hx⟩ := dec_total t vs h2
    have hs := dec_sub t hx
    have hd : dec t (enc t x) = some x := by
      cases t <;> first | rfl | (simp [dec, enc, tk, asBy, fin]; done)
    refine ⟨x, ?_⟩
    have hcell : ∀ j (hj : j < (enc t x).length), VR W noRho noBad (v.cells.toList.getD j undef) (enc t x)[j] := fun j hj => VR.sub (hs.get j (by rw [hs.len]; exact hj) hj) (h1.2 j (by rw [hs.len]; exact hj))
    cases hag : t.isAgg
    · obtain ⟨c, hc⟩ := enc_one t hag x
      have hv : v.cells.toList = [v] := by
        refine hone (fun fs hu => ?_) (fun n e hu => ?_)
        · rw [hu] at hty; simp [hag] at hty
        · rw [hu] at hty; simp at hty
      have he : encTy (.v t) x = c := by simp [encTy, encV, hag, hc]
      rw [he]
      have h0 := hcell 0 (by rw [hc]; simp)
      simp only [hv, hc, List.getElem_cons_zero] at h0
      refine ⟨h0, ?_⟩
      rw [hc] at hd
      cases c <;> first | (simp only [decTy, hag, cond_false]; exact hd) | skip
      exfalso
      have := enc_leaf t x
      rw [hc] at this; simp [V.leaf] at this
    · have hu : ∃ fs, P.underlying T = some (.struct fs) := by
        revert hty
        cases P.underlying T with
        | none => simp
        | some td => cases td <;> simp [hag]
      obtain ⟨fs, hu⟩ := hu
      unfold Value.okWide at hw
      rw [hu] at hw
      obtain ⟨cs, rfl, hsz, _⟩ := hw
      have he : encTy (.v t) x = .agg (enc t x) := by simp [encTy, encV, hag]
      rw [he]
      refine ⟨.agg _ _ ?_ fun j hj => ?_, by simp only [decTy, hag, cond_true]; exact hd⟩
      · have := h1.1
        simp only [Value.cells, Array.length_toList] at this
        rw [this, hs.len]
      · have := hcell j hj
        simp only [Value.cells] at this
        rw [Array.getD_eq_getD_getElem?]; rw [List.getD_eq_getElem?_getD] at this
        simpa using this
  | sl t =>
    simp only [tyOk, Bool.and_eq_true, decide_eq_true_eq] at hty
    obtain ⟨vs, h1, h2⟩ := trod_vr hK fuel T _ _ D _ h hty.2
    obtain ⟨c, r, rfl, ⟨l, hl⟩, hr⟩ := h2.take
    cases hr
    have hv : v.cells.toList = [v] := by
      refine hone (fun fs hu => ?_) (fun n e hu => ?_)
      · rw [hu] at hty; simp at hty
      · rw [hu] at hty; simp at hty
    refine ⟨l, ?_, by simp [decTy, encTy, asL, TN.cast]⟩
    have h0 := h1.2 0 (by simp)
    simp only [hv] at h0
    exact VR.sub (asL_sub hl) h0
  | _ => simp [tyOk] at hty

def tysOk (P : Program) (tn : TypeId → Option TN) (D : Nat) : List TypeId → List Ty → Bool
  | [], [] => true
  | T :: Ts, t :: ts => tyOk P tn D T t && tysOk P tn D Ts ts
  | _, _ => false

/-- All arguments. -/
theorem args_vr {tn : TypeId → Option TN} {D : Nat} (hK : KindsOk P tn D) {sp : Nat → Bool} {held : Bool} {r : Reach} {b : Nat} : ∀ (Ts : List TypeId) (ats : List Ty) (vs : List Value) (ds : List (DataW H)) (ps : List MemPlace),
    tysOk P tn D Ts ats = true → DataW.TrodAll encH P W 0 sp held Ts vs ds ps → (∀ (j : Nat) t v, Ts[j]? = some t → vs[j]? = some v → Value.okWide P W r b t v) →
    vs.length = ats.length ∧ ∃ x : TyTup ats, decTup ats (encTup ats x) = some x ∧ (encTup ats x).length = ats.length ∧ ∀ j (hj : j < (encTup ats x).length), VR W noRho noBad (vs.getD j undef) (encTup ats x)[j]
  | [], [], vs, ds, ps, _, h, _ => by
    cases vs <;> cases ds <;> simp [DataW.TrodAll] at h
    exact ⟨rfl, (), rfl, rfl, fun j hj => by simp [encTup] at hj⟩
  | [], _ :: _, vs, ds, ps, ht, _, _ => by simp [tysOk] at ht
  | _ :: _, [], vs, ds, ps, ht, _, _ => by simp [tysOk] at ht
  | T :: Ts, t :: ts, vs, ds, ps, ht, h, hw => by
    simp only [tysOk, Bool.and_eq_true] at ht
    obtain ⟨v, vs', d, ds', p, q, rfl, rfl, rfl, h0, h1⟩ := ChangeShapes.trodAll_cons h
    obtain ⟨x0, k1, k2⟩ := arg_vr hK ht.1 h0 (hw 0 T v rfl rfl)
    obtain ⟨e1, y, e2, e3, e4⟩ := args_vr hK Ts ts vs' ds' q ht.2 h1 (fun j t v h1 h2 => hw (j + 1) t v h1 h2)
    refine ⟨by simp [e1], ?_⟩
    cases ts with
    | nil =>
      refine ⟨x0, by simpa [decTup, encTup] using k2, rfl, fun j hj => ?_⟩
      have : j = 0 := by simp [encTup] at hj; omega
      subst this; exact k1
    | cons d r =>
      refine ⟨(x0, y), ?_, by simp [encTup] at e3 ⊢; exact e3, fun j hj => ?_⟩
      · simp only [decTup, encTup]
        rw [k2]; simp only [Option.bind_some]; rw [e2]; rfl
      · cases j with
        | zero => exact k1
        | succ j => exact e4 j (by simpa [encTup] using hj)

def plains (n : Nat) : List ArgK := List.replicate n .plain

theorem entS_plain : ∀ (n k : Nat) (as : List V), as.length = n → entS (plains n) k as = as ∧ entH (plains n) k as = fun _ => none
  | 0, k, [], _ => ⟨rfl, rfl⟩
  | 0, k, _ :: _, h => by simp at h
  | n + 1, k, [], h => by simp at h
  | n + 1, k, a :: as, h => by
    obtain ⟨h1, h2⟩ := entS_plain n (k + 1) as (by simpa using h)
    refine ⟨?_, ?_⟩
    · show a :: entS (plains n) (k + 1) as = _; rw [h1]
    · show entH (plains n) (k + 1) as = _; exact h2

/-- A law that holds of all data holds of all arguments that read as data; nothing that was there has turned. -/
theorem law_calls {tn : TypeId → Option TN} {D : Nat} (hK : KindsOk P tn D) {f : Nat} {ats : List Ty} {F : TyTup ats → Option Bool} {n : Nat}
    (hc : Contract P f ⟨plains n, TyTup ats, TyTup [.v .bool], decTup ats, F, flatTup [.v .bool], [(false, 1)], []⟩) (hn : ats.length = n) (hF : ∀ x, F x = some true) {Ts : List TypeId} (ht : tysOk P tn D Ts ats = true)
    {sp : Nat → Bool} {held : Bool} {r : Reach} {b : Nat} {args : Array Value} {ds : List (DataW H)} {ps : List MemPlace} (h : DataW.TrodAll encH P W 0 sp held Ts args.toList ds ps)
    (hw : ∀ (j : Nat) t v, Ts[j]? = some t → args[j]? = some v → Value.okWide P W r b t v) (hent : (callFunc f args).run P W = .ok (.enter f args) W) :
    Calls P f args W fun e W' => e = .returned (.bool true) ∧ Below W.heap.size W W' := by
  obtain ⟨h1, x, h2, h3, h4⟩ := args_vr hK Ts ats args.toList ds ps ht h (fun j t v h5 h6 => hw j t v h5 (by simpa using h6))
  have hlen : (encTup ats x).length = n := by rw [h3, hn]
  obtain ⟨e1, e2⟩ := entS_plain n 0 (encTup ats x) hlen
  have hp : (plains n).length = n := by simp [plains]
  have hbad : ∀ b, Bad noBad noRho (entH (plains n) 0 (encTup ats x)) b → noBad b := by
    rintro b (h | ⟨q, row, ri, h, _⟩)
    · exact h
    · rw [e2] at h; cases h
  have hemp : ∀ h : Nat → Option Row, h = (fun _ => none) → HRel W noBad noBad noRho h W := fun h he => by
    subst he
    exact ⟨Wx.refl _, fun _ _ _ => rfl, fun b hb => hb.elim, fun r row hr => (by cases hr), fun q q' row row' qi qi' hq => (by cases hq)⟩
  have G := hc W args (encTup ats x) noBad noBad noRho x true 0 [] (by simp at h1; rw [hp]; omega) (by rw [e1, hp, hlen])
    (hemp (entH (plains n) 0 (encTup ats x)) e2)
    (fun j hj => by
      have hj2 : j < (encTup ats x).length := by rw [← e1]; exact hj
      have h5 := h4 j hj2
      have h6 : (entS (plains n) 0 (encTup ats x))[j] = (encTup ats x)[j] := by simp only [e1]
      rw [h6]
      rw [Array.getD_eq_getD_getElem?]; rw [List.getD_eq_getElem?_getD] at h5
      rw [Array.getElem?_toList] at h5
      exact h5.mono (fun _ _ h => h) (fun _ _ _ => rfl) fun b hb => .inl (hbad b hb))
    (fun _ _ => rfl) (by simp) (fun b hb => by simp at hb) h2 (hF x) (by simp [flatTup, flatTy, enc])
  rcases G with ⟨_, G⟩ | ⟨v, w', G, _⟩
  · refine Calls.mono' G fun e w' ⟨v, he, ρ', g1, g2, _⟩ => ?_
    subst he
    refine ⟨?_, g1.wx.os, g1.wx.tape, g1.wx.output, g1.wx.size, fun k hk => g1.old k hk fun h => h⟩
    have g3 : VR w' ρ' (Bad noBad ρ' (exH (plains n) (encTup ats x) [] [] 0 [(false, 1)] (flatTup [.v .bool] true))) v (.bool true) := g2
    cases g3; rfl
  · rw [hent] at G; cases G

theorem below_frozen {W W' : World} (hb : Below W.heap.size W W') {b off : Nat} (h : b < W.heap.size) : W'.frozen? ⟨b, off, none⟩ = W.frozen? ⟨b, off, none⟩ := by
  simp only [World.frozen?, hb.block b h]

theorem trodAll_below (hl : laidOutB P = true) {W' : World} (hb : Below W.heap.size W W') {sp' : Nat → Bool} : ∀ (ts : List TypeId) (vs : List Value) (ds : List (DataW H)) (ps : List MemPlace),
    (∀ t ∈ ts, P.readableRec t = true ∧ t < P.types.size) → DataW.TrodAll encH P W 0 (fun _ => true) true ts vs ds ps → (∀ x ∈ ps, x.block < W.heap.size) → (∀ x ∈ ps, sp' x.block = true) → DataW.TrodAll encH P W' 0 sp' true ts vs ds ps
  | [], vs, ds, ps, hr, h, hlt, hs => by
    cases vs <;> cases ds <;> simp [DataW.TrodAll] at h ⊢
    exact h
  | t :: ts, vs, ds, ps, hr, h, hlt, hs => by
    obtain ⟨v, vs', d, ds', p, q, rfl, rfl, rfl, h0, h1⟩ := ChangeShapes.trodAll_cons h
    refine ⟨p, q, WideElems.Trod_stays hl (hr t (by simp)).1 (hr t (by simp)).2 h0 (fun x hx => hb.same (hlt x (by simp [hx]))) (fun x hx => hs x (by simp [hx])),
      trodAll_below hl hb ts vs' ds' q (fun t ht => hr t (List.mem_cons_of_mem _ ht)) h1 (fun x hx => hlt x (by simp [hx])) (fun x hx => hs x (by simp [hx])), rfl⟩

/-- What the row asks behind the call. -/
theorem law_post (hl : laidOutB P = true) {f : Func} {s : ChangeSpec} {apart fresh handsOn again : Bool} {W' : World} {args : Array Value} {ds gs : List (DataW H)} {before : List MemPlace}
    (hts : ∀ t ∈ f.params.toList, P.readableRec t = true ∧ t < P.types.size) (hvars : s.vars = []) (hW : DataW.Whole encH P f.params.toList s.vars apart W args.toList ds gs before) (hb : Below W.heap.size W W')
    {T : TypeId} (hT : f.resultTypes = #[T]) (hbool : P.underlying T = some .bool) (hfn : s.fn H (ds ++ gs) = { results := [.lit (.bool true)], args := ds }) :
    s.post encH P f apart fresh handsOn again W args (.bool true) W' := by
  obtain ⟨p, q, h1, h2, rfl, h3, h4⟩ := id hW
  rw [hvars] at h2
  have hq : gs = [] ∧ q = [] := by cases gs <;> simp [DataW.TrodVars] at h2; exact ⟨rfl, h2⟩
  obtain ⟨rfl, rfl⟩ := hq
  have hlt : ∀ x ∈ p, x.block < W.heap.size := fun x hx => hW.lt x (by simp [hx])
  have hargs : ∀ sp : Nat → Bool, (∀ x ∈ p, sp x.block = true) → DataW.TrodAll encH P W' 0 sp true f.params.toList args.toList (s.fn H (ds ++ [])).args p := fun sp hs => by
    rw [hfn]; exact trodAll_below hl hb _ _ _ _ hts h1 hlt hs
  have hres : ∀ (b : Nat) (sp : Nat → Bool) (hd : Bool), DataW.TrodAll encH P W' b sp hd f.resultTypes.toList ((Value.bool true).resultList f.resultTypes.size) (s.fn H (ds ++ [])).results [] := fun b sp hd => by
    rw [hfn, hT]
    refine ⟨[], [], RowKit.shut_bool hbool _, rfl, rfl⟩
  have hvs : ∀ sp : Nat → Bool, DataW.TrodVars encH P W' sp s.vars (s.fn H (ds ++ [])).vars [] := fun sp => by
    rw [hfn, hvars]; rfl
  have hold : ∀ x ∈ p, (fun b => decide (b < W.heap.size)) x.block = true := fun x hx => by simpa using hlt x hx
  refine ⟨ds, [], p ++ [], [], p, [], hW, hres _ _ _, hargs _ hold, hvs _, ?_, fun _ => ⟨?_, _, _, ([] ++ p) ++ [], ⟨[] ++ p, [], trodAll_append (hargs _ (fun _ _ => rfl)) (hres _ _ _), hvs _, rfl, ?_, ?_⟩, ?_⟩⟩
  · refine ⟨hb.os, hb.output, fun i hi => ?_⟩
    rw [hb.block i hi]
    exact (World.keptBut_refl W (fun x => x ∈ p ++ [] ∧ (x ∈ [] ∨ x ∈ p ∨ x ∈ []))).2.2 i hi
  · exact ok_one hT rfl (okWide_bool_mk hbool _)
  · intro c off hp
    have hp' : MemPlace.cell c off ∈ p ++ [] := by simpa using hp
    have := hlt (.cell c off) (by simpa using hp')
    rw [below_frozen (b := c) (off := off) hb this]
    exact h3 c off hp'
  · intro ha
    have := h4 ha
    simpa using this
  · intro x hx _
    simpa using hx


theorem enter_ok {f : Nat} {fn : Func} {body : Code} (hf : P.funcs[f]? = some fn) (hb : fn.body = some body) (hname : (fn.name == "runtime.NumGoroutine") = false) (args : Array Value) :
    (callFunc f args).run P W = .ok (.enter f args) W := by
  have hname' : ¬ fn.name = "runtime.NumGoroutine" := by simpa using hname
  simp [callFunc, program, hf, hb, hname', Sem.run]

/-- A law's row: what is asked behind the call. -/
theorem law_row {tn : TypeId → Option TN} {D : Nat} (hK : KindsOk P tn D) {f : Nat} {fn : Func} {body : Code} {ats : List Ty} {F : TyTup ats → Option Bool} {n : Nat}
    (hc : Contract P f ⟨plains n, TyTup ats, TyTup [.v .bool], decTup ats, F, flatTup [.v .bool], [(false, 1)], []⟩) (hn : ats.length = n) (hF : ∀ x, F x = some true)
    (hf : P.funcs[f]? = some fn) (hb : fn.body = some body) (hname : (fn.name == "runtime.NumGoroutine") = false) (ht : tysOk P tn D fn.params.toList ats = true)
    (hl : laidOutB P = true) (hts : (fn.params.toList.all fun t => P.readableRec t && Nat.blt t P.types.size) = true) {T : TypeId} (hT : fn.resultTypes = #[T]) (hbool : P.underlying T = some .bool)
    {s : ChangeSpec} (hvars : s.vars = []) {apart fresh handsOn again : Bool} {args : Array Value} {ds gs : List (DataW H)} {before : List MemPlace} {r : Reach} {b : Nat}
    (hW : DataW.Whole encH P fn.params.toList s.vars apart W args.toList ds gs before) (hfn : gs = [] → s.fn H (ds ++ gs) = { results := [.lit (.bool true)], args := ds })
    (hval : ∀ (j : Nat) t v, fn.params[j]? = some t → args[j]? = some v → Value.okWide P W r b t v) :
    Calls P f args W fun e W' => ∃ v, e = .returned v ∧ s.post encH P fn apart fresh handsOn again W args v W' := by
  obtain ⟨p, q, h1, h2, h3⟩ := id hW
  have hgs : gs = [] := by
    rw [hvars] at h2
    cases gs
    · rfl
    · simp [DataW.TrodVars] at h2
  refine Calls.mono' (law_calls hK hc hn hF ht h1 (fun j t v h5 h6 => hval j t v (by simpa using h5) h6) (enter_ok hf hb hname args)) fun e W' ⟨he, hb⟩ => ⟨_, he, law_post hl (fun t ht => ?_) hvars hW hb hT hbool (hfn hgs)⟩
  have := List.all_eq_true.1 hts t ht
  simpa using this

end
end Go.D
