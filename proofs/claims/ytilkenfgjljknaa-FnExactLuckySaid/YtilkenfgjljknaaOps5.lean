/-
  One operation, continued: comparisons of structs; places in slices and texts.
-/
import Derived.Test.YtilkenfgjljknaaOps4
namespace Go.D
section
variable {C : Cx} {w0 : World} {outer own : Nat → Prop} {ρ : Nat → Option RI} {st st' : St} {a : Act} {w : World} {h : Nat → Option Row}

theorem eqIn_int {P : Program} {t : TypeId} {k : IntKind} (hu : P.underlying t = some (.int k)) (j : IntKind) (x y : Int) : (Op.equalIn 9999 t (.int j x) (.int j y)).run P w = .ok (x == y) w := by
  rw [Op.equalIn]; simp [run_underlyingC hu]

theorem eqIn_bool {P : Program} {t : TypeId} (hu : P.underlying t = some .bool) (x y : Bool) : (Op.equalIn 9999 t (.bool x) (.bool y)).run P w = .ok (x == y) w := by
  rw [Op.equalIn]; simp [run_underlyingC hu]

theorem part_one {P : Program} {t : TypeId} (h1 : isAggT P t = some false) {vs : Array Value} {k : Nat} (hk : k < vs.size) : (part t vs k).run P w = .ok (vs.getD k undef) w := by
  rw [Array.getD_eq_getD_getElem?, Array.getElem?_eq_getElem hk]
  simp [part, isAgg_run h1, Array.getElem?_eq_getElem hk]

def eqBody (xs ys : Array Value) (f : Field) (_ : Option Bool × Unit) : Sem (ForInStep (Option Bool × Unit)) :=
  if f.name ≠ "_" then do
    let __do_lift ← part f.type xs f.offset
    let __do_lift_1 ← part f.type ys f.offset
    let __do_lift ← Op.equalIn 9999 f.type __do_lift __do_lift_1
    if (!__do_lift) = true then pure (ForInStep.done (some false, ()))
      else pure (ForInStep.yield (none, ()))
  else pure (ForInStep.yield (none, ()))

theorem eq_loop {P : Program} {bad : Nat → Prop} (xs ys : Array Value) : ∀ (fl : List Field) (ks : List Bool) (k : Nat) (dxs dys : List V) (b : Bool), flatFields P k fl = some ks → eqCells ks dxs dys = some b →
    k + fl.length ≤ xs.size → k + fl.length ≤ ys.size → (∀ j (hj : j < dxs.length), VR w ρ bad (xs.getD (k + j) undef) dxs[j]) → (∀ j (hj : j < dys.length), VR w ρ bad (ys.getD (k + j) undef) dys[j]) →
    (forIn fl ((none, ()) : Option Bool × Unit) (eqBody xs ys)).run P w = .ok (bif b then (none, ()) else (some false, ())) w
  | [], ks, k, dxs, dys, b, hf, he, _, _, _, _ => by
    simp only [flatFields, Option.some.injEq] at hf
    subst hf
    cases dxs <;> cases dys <;> simp [eqCells] at he
    subst he; simp
  | f :: fl, ks, k, dxs, dys, b, hf, he, hx, hy, hvx, hvy => by
    simp only [flatFields] at hf
    cases hb : (f.name != "_" && Nat.beq f.offset k)
    case false => simp [hb] at hf
    simp only [hb, cond_true] at hf
    simp only [Bool.and_eq_true, bne_iff_ne, ne_eq] at hb
    obtain ⟨hname, hoff⟩ := hb
    have hoff := Nat.eq_of_beq_eq_true hoff
    simp only [List.length_cons] at hx hy
    have main : ∀ (dx dy : V) (dxs' dys' : List V) (ks' : List Bool) (q b' : Bool), dxs = dx :: dxs' → dys = dy :: dys' → flatFields P (k + 1) fl = some ks' → isAggT P f.type = some false →
        (Op.equalIn 9999 f.type (xs.getD k undef) (ys.getD k undef)).run P w = .ok q w → eqCells ks' dxs' dys' = some b' → b = (bif q then b' else false) →
        (forIn (f :: fl) ((none, ()) : Option Bool × Unit) (eqBody xs ys)).run P w = .ok (bif b then (none, ()) else (some false, ())) w := fun dx dy dxs' dys' ks' q b' hdx hdy hrest hag h1 h2 h3 => by
      subst hdx hdy
      have hpx := part_one (P := P) (w := w) hag (show k < xs.size by omega)
      have hpy := part_one (P := P) (w := w) hag (show k < ys.size by omega)
      have ih := eq_loop xs ys fl ks' (k + 1) dxs' dys' b' hrest h2 (by omega) (by omega)
        (fun j hj => by have := hvx (j + 1) (by simp; omega); rwa [show k + (j + 1) = k + 1 + j by omega] at this)
        (fun j hj => by have := hvy (j + 1) (by simp; omega); rwa [show k + (j + 1) = k + 1 + j by omega] at this)
      rw [List.forIn_cons, Sem.run_bind]
      have hb : (eqBody xs ys f (none, ())).run P w = .ok (bif q then ForInStep.yield (none, ()) else ForInStep.done (some false, ())) w := by
        unfold eqBody
        rw [if_pos hname, hoff]
        simp only [Sem.run_bind, hpx, hpy, Result.andThen_ok, h1]
        cases q <;> simp
      rw [hb, Result.andThen_ok]
      subst h3
      cases q with
      | false => simp
      | true => simpa using ih
    split at hf
    · rename_i ks' hu hrest
      cases hf
      unfold eqCells at he
      split at he
      · simp_all
      · simp_all
      · rename_i ks'' p xs' q ys' h1
        cases h1
        obtain ⟨b', h3, h4⟩ := Option.map_eq_some_iff.1 he
        have hx0 := hvx 0 (by simp)
        have hy0 := hvy 0 (by simp)
        simp only [Nat.add_zero, List.getElem_cons_zero] at hx0 hy0
        have e1 : xs.getD k undef = .bool p := by generalize xs.getD k undef = v at hx0; cases hx0; rfl
        have e2 : ys.getD k undef = .bool q := by generalize ys.getD k undef = v at hy0; cases hy0; rfl
        exact main _ _ _ _ _ (p == q) b' rfl rfl hrest (by simp [isAggT, hu]) (by rw [e1, e2]; exact eqIn_bool hu p q) h3 h4.symm
      · cases he
    · rename_i ki ks' hu hrest
      cases hf
      unfold eqCells at he
      split at he
      · simp_all
      · rename_i ks'' j p xs' k' q ys' h1
        cases h1
        by_cases hjk : j = k'
        case neg => simp [hjk] at he
        subst hjk
        simp only [decide_true, cond_true, Option.map_eq_some_iff] at he
        obtain ⟨b', h3, h4⟩ := he
        have hx0 := hvx 0 (by simp)
        have hy0 := hvy 0 (by simp)
        simp only [Nat.add_zero, List.getElem_cons_zero] at hx0 hy0
        have e1 : xs.getD k undef = .int j p := by generalize xs.getD k undef = v at hx0; cases hx0; rfl
        have e2 : ys.getD k undef = .int j q := by generalize ys.getD k undef = v at hy0; cases hy0; rfl
        exact main _ _ _ _ _ (p == q) b' rfl rfl hrest (by simp [isAggT, hu]) (by rw [e1, e2]; exact eqIn_int hu j p q) h3 h4.symm
      · rename_i h1; cases h1
      · cases he
    · cases hf

theorem flatFields_len {P : Program} : ∀ (fl : List Field) (k : Nat) (ks : List Bool), flatFields P k fl = some ks → ks.length = fl.length
  | [], _, _, h => by simp [flatFields] at h; subst h; rfl
  | f :: fl, k, ks, h => by
    simp only [flatFields] at h
    cases hb : (f.name != "_" && Nat.beq f.offset k)
    case false => simp [hb] at h
    simp only [hb, cond_true] at h
    split at h
    · rename_i ks' _ h1; cases h; simp [flatFields_len fl _ _ h1]
    · rename_i ks' _ h1; cases h; simp [flatFields_len fl _ _ h1]
    · cases h

theorem eqCells_len : ∀ (ks : List Bool) (xs ys : List V) (b : Bool), eqCells ks xs ys = some b → xs.length = ks.length ∧ ys.length = ks.length
  | [], xs, ys, b, h => by cases xs <;> cases ys <;> simp [eqCells] at h; exact ⟨rfl, rfl⟩
  | k :: ks, xs, ys, b, h => by
    unfold eqCells at h
    split at h
    · rename_i h1; cases h1
    · rename_i ks' j p xs' k' q ys' h1
      cases h1
      cases hjk : decide (j = k')
      · simp [hjk] at h
      · simp only [hjk, cond_true, Option.map_eq_some_iff] at h
        obtain ⟨b', h2, _⟩ := h
        have := eqCells_len _ _ _ _ h2
        simp [this]
    · rename_i ks' p xs' q ys' h1
      cases h1
      obtain ⟨b', h2, _⟩ := Option.map_eq_some_iff.1 h
      have := eqCells_len _ _ _ _ h2
      simp [this]
    · cases h

variable {o : Oper} {i : Nat} (hr : Rel C w0 outer own ρ st a w)
include hr

theorem ok_binOp (op : BinOp) (t t' : TypeId) (x y : Operand) (ho : o.op = .binOp op t x y t') (hk : stepK C i o st some = some st') : Does C.P o a w (After C w0 outer own i ρ st') := by
  simp only [stepK, ho] at hk
  have hx := hr.opd x
  have hy := hr.opd y
  split at hk
  · rename_i dxs dys h1 h2
    rw [h1] at hx; rw [h2] at hy
    split at hk
    case h_2 => cases hk
    rename_i ks hks
    split at hk
    case h_2 => cases hk
    rename_i b hb
    unfold flatStruct at hks
    split at hks
    case h_2 => cases hks
    rename_i fs hu
    cases hg : (!(C.P.stoodInHeld t) && !(C.P.eqGuardType C.P.depth t))
    case false => simp [hg] at hks
    simp only [hg, cond_true] at hks
    simp only [Bool.and_eq_true, Bool.not_eq_true'] at hg
    cases hx' : a.eval x <;> rw [hx'] at hx <;> cases hx
    cases hy' : a.eval y <;> rw [hy'] at hy <;> cases hy
    rename_i xs hxs hxv ys hys hyv
    have hlen := flatFields_len _ _ _ hks
    obtain ⟨l1, l2⟩ := eqCells_len _ _ _ _ hb
    have hloop := eq_loop (P := C.P) (w := w) xs ys fs.toList ks 0 dxs dys b hks hb (by omega) (by omega) (by simpa using hxv) (by simpa using hyv)
    have heq : (Op.equal t (.agg xs) (.agg ys)).run C.P w = .ok b w := by
      unfold Op.equal Op.maxDepth
      rw [Op.equalIn]
      simp only [Sem.run_bind, run_underlyingC hu, Result.andThen_ok, run_program, hg.1, Bool.false_eq_true, if_false]
      rw [← Array.forIn_toList]
      change ((forIn fs.toList ((none, ()) : Option Bool × Unit) (eqBody xs ys)).run C.P w).andThen _ = _
      rw [hloop, Result.andThen_ok]
      cases b <;> simp
    have hguard : ∀ op', (eqGuard op' t x y (.agg xs) (.agg ys)).run C.P w = .ok () w := fun op' => by
      unfold eqGuard
      split <;> simp [hg.2]
    cases op <;> first
      | (cases hk; done)
      | (refine does_value (w' := w) ?_ (hr.after (.bool _) hk)
         simp [execOp, ho, hx', hy', hguard, binOp, heq]; done)
  · rename_i p q h1 h2
    rw [h1] at hx; rw [h2] at hy
    split at hk
    case h_2 => cases hk
    rename_i hu
    cases hx' : a.eval x <;> rw [hx'] at hx <;> cases hx
    cases hy' : a.eval y <;> rw [hy'] at hy <;> cases hy
    have heq : (Op.equal t (.bool p) (.bool q)).run C.P w = .ok (p == q) w := by
      unfold Op.equal Op.maxDepth
      rw [Op.equalIn]; simp [run_underlyingC hu]
    cases op <;> first
      | (cases hk; done)
      | (refine does_value (w' := w) ?_ (hr.after (.bool _) hk)
         simp [execOp, ho, hx', hy', eqGuard, binOp, heq]; done)
  · obtain ⟨d, v, h3, h4, h5⟩ := binK_ok (C := C) hx hy hk (t := t) x y
    refine does_value (v := v) (w' := w) ?_ (hr.after h4 h3)
    have h5' : ((eqGuard op t x y (a.eval x) (a.eval y)).run C.P w).andThen (fun _ w' => (binOp op t (a.eval x) (a.eval y)).run C.P w') = .ok v w := by
      rw [← Sem.run_bind]; exact h5
    simp only [execOp, ho, Sem.run_bind, Sem.run_pure]
    rw [h5']; rfl

end
end Go.D
