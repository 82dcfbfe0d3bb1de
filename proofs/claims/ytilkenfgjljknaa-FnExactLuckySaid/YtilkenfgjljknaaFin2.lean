/-
  The results of a function.
-/
import Derived.Test.YtilkenfgjljknaaFin
namespace Go.D

section
variable {C : Cx} {w0 : World} {outer own D : Nat → Prop} {R : Type} {st st1 st2 : St} {ρ ρ1 ρ2 : Nat → Option RI} {a a1 a2 : Act} {w w1 w2 : World} {j : JI}

theorem getD_app1 {α : Type} (l m : List α) (i : Nat) (d : α) (h : i < l.length) : (l ++ m).getD i d = l.getD i d := by
  rw [List.getD_eq_getElem?_getD, List.getD_eq_getElem?_getD, List.getElem?_append_left h]
theorem getD_app2 {α : Type} (l m : List α) (i : Nat) (d : α) (h : l.length ≤ i) : (l ++ m).getD i d = m.getD (i - l.length) d := by
  rw [List.getD_eq_getElem?_getD, List.getD_eq_getElem?_getD, List.getElem?_append_right h]

inductive ResOk : List (Bool × Nat) → List Value → List Value → Prop
  | nil : ResOk [] [] []
  | agg {n : Nat} {sh : List (Bool × Nat)} {rv cells : List Value} (vs : Array Value) (h : vs.size = n) (hr : ResOk sh rv cells) : ResOk ((true, n) :: sh) (.agg vs :: rv) (vs.toList ++ cells)
  | one {sh : List (Bool × Nat)} {rv cells : List Value} (v : Value) (hr : ResOk sh rv cells) : ResOk ((false, 1) :: sh) (v :: rv) (v :: cells)

theorem ResOk.len {sh : List (Bool × Nat)} {rv cells : List Value} (h : ResOk sh rv cells) : shapeLen sh = cells.length ∧ rv.length = sh.length := by
  induction h with
  | nil => exact ⟨rfl, rfl⟩
  | agg vs h hr ih => simp only [shapeLen, List.map_cons, List.sum_cons, List.length_append, Array.length_toList, List.length_cons] at ih ⊢; omega
  | one v hr ih => simp only [shapeLen, List.map_cons, List.sum_cons, List.length_cons] at ih ⊢; omega

theorem packs_ok {bad : Nat → Prop} {sh : List (Bool × Nat)} {rv cells : List Value} (h : ResOk sh rv cells) : ∀ X : List V, cells.length ≤ X.length → (∀ j (hj : j < X.length), j < cells.length → VR w ρ bad (cells.getD j undef) X[j]) →
    (packs sh X).length = rv.length ∧ ∀ i (hi : i < (packs sh X).length), VR w ρ bad (rv.getD i undef) (packs sh X)[i] := by
  induction h with
  | nil => intro X _ _; exact ⟨rfl, fun i hi => by simp [packs] at hi⟩
  | agg vs hsz hr ih =>
    rename_i n sh rv cells
    intro X hX hv
    simp only [List.length_append, Array.length_toList] at hX
    obtain ⟨h1, h2⟩ := ih (X.drop n) (by simp; omega) (fun j hj hj2 => by
      have := hv (n + j) (by simp at hj; omega) (by simp; omega)
      rw [List.getElem_drop]
      rw [getD_app2 _ _ _ _ (by simp; omega)] at this
      simpa [hsz] using this)
    refine ⟨by simp [packs, h1], fun i hi => ?_⟩
    cases i with
    | zero =>
      show VR w ρ bad (.agg vs) (.agg (X.take n))
      refine .agg _ _ (by simp; omega) fun j hj => ?_
      have hjn : j < n := by simp at hj; omega
      have := hv j (by simp at hj; omega) (by simp; omega)
      rw [getD_app1 _ _ _ _ (by simp; omega)] at this
      rw [List.getElem_take]
      rw [Array.getD_eq_getD_getElem?]; rw [List.getD_eq_getElem?_getD] at this
      simpa using this
    | succ i => exact h2 i (by simpa [packs] using hi)
  | one v hr ih =>
    rename_i sh rv cells
    intro X hX hv
    cases X with
    | nil => simp at hX
    | cons x X =>
      simp only [List.length_cons] at hX
      obtain ⟨h1, h2⟩ := ih X (by omega) (fun j hj hj2 => hv (j + 1) (by simp; omega) (by simp; omega))
      refine ⟨by simp [packs, h1], fun i hi => ?_⟩
      cases i with
      | zero => exact hv 0 (by simp) (by simp)
      | succ i => exact h2 i (by simpa [packs] using hi)

theorem pack_one {sh : List (Bool × Nat)} {X : List V} {v : V} (h : packs sh X = [v]) : pack sh X = v := by simp [pack, h]
theorem pack_many {sh : List (Bool × Nat)} {X : List V} (h : ∀ v, packs sh X ≠ [v]) : pack sh X = .tup (packs sh X) := by
  unfold pack
  split
  · rename_i v hv; exact absurd hv (h v)
  · rfl

theorem pack_ok {bad : Nat → Prop} {sh : List (Bool × Nat)} {rv cells : List Value} (h : ResOk sh rv cells) {X : List V} (hX : cells.length ≤ X.length) (hv : ∀ j (hj : j < X.length), j < cells.length → VR w ρ bad (cells.getD j undef) X[j]) :
    VR w ρ bad (if h : rv.toArray.size = 1 then rv.toArray[0] else .tuple rv.toArray) (pack sh X) := by
  obtain ⟨h1, h2⟩ := packs_ok h X hX hv
  by_cases hY : ∃ v, packs sh X = [v]
  · obtain ⟨v, hY⟩ := hY
    rw [pack_one hY]
    rw [hY] at h1
    have hl : rv.toArray.size = 1 := by simpa using h1.symm
    rw [dif_pos hl]
    have h3 := h2 0 (by rw [hY]; simp)
    simp only [hY, List.getElem_cons_zero] at h3
    rw [List.getD_eq_getElem?_getD, List.getElem?_eq_getElem (by simp at hl; omega)] at h3
    simpa using h3
  · have hl : ¬ rv.toArray.size = 1 := fun hl => by
      have hl2 : (packs sh X).length = 1 := by rw [h1]; simpa using hl
      exact hY (List.length_eq_one_iff.1 hl2)
    rw [dif_neg hl, pack_many fun v hv => hY ⟨v, hv⟩]
    refine .tup _ _ (by simp [h1]) fun i hi => ?_
    have := h2 i hi
    rw [Array.getD_eq_getD_getElem?]; rw [List.getD_eq_getElem?_getD] at this
    simpa using this

theorem mapM_run {α β : Type} {P : Program} {w : World} (f : α → Sem β) : ∀ (l : List α) (r : List β), l.length = r.length → (∀ i (hi : i < l.length) (hr : i < r.length), (f l[i]).run P w = .ok r[i] w) → (l.mapM f).run P w = .ok r w
  | [], [], _, _ => by simp
  | [], _ :: _, h, _ => by simp at h
  | _ :: _, [], h, _ => by simp at h
  | x :: l, y :: r, h, hf => by
    have h0 := hf 0 (by simp) (by simp)
    simp only [List.getElem_cons_zero] at h0
    have h1 := mapM_run f l r (by simpa using h) (fun i hi hr => hf (i + 1) (by simp; omega) (by simp; omega))
    simp [List.mapM_cons, h0, h1, Result.andThen]

def resSem (tmps : Array Value) : ResultVar → Sem Value
  | .tmp t => pure (tmps.getD t undef)
  | .cell x t => do loadVar t (← asAddr (tmps.getD x undef))

theorem res_ok (hr : Rel C w0 outer own ρ st a w) : ∀ (rs : List ResultVar) (sh : List (Bool × Nat)) (vs : List V), resLeaves C.P st rs sh = some vs →
    ∃ rv cells, ResOk sh rv cells ∧ rs.length = rv.length ∧ cells.length = vs.length ∧ (∀ j (hj : j < vs.length), VR w ρ (Bad outer ρ st.h) (cells.getD j undef) vs[j]) ∧
      ∀ i (hi : i < rs.length) (h2 : i < rv.length), (resSem a.tmps rs[i]).run C.P w = .ok rv[i] w
  | [], [], vs, h => by
    simp only [resLeaves, Option.some.injEq] at h; subst h
    exact ⟨[], [], .nil, rfl, rfl, fun j hj => by simp at hj, fun i hi => by simp at hi⟩
  | [], _ :: _, vs, h => by simp [resLeaves] at h
  | .tmp t :: _, [], vs, h => by simp [resLeaves] at h
  | .cell .. :: _, [], vs, h => by simp [resLeaves] at h
  | .tmp t :: rs, (ag, n) :: sh, vs, h => by
    simp only [resLeaves] at h
    have hv := hr.slots t
    split at h
    · rename_i cs us hs hrs
      cases hb : (ag && Nat.beq n cs.length)
      case false => simp [hb] at h
      simp only [hb, cond_true, Option.some.injEq] at h
      subst h
      simp only [Bool.and_eq_true] at hb
      obtain ⟨rfl, hn⟩ := hb
      have hn := Nat.eq_of_beq_eq_true hn
      obtain ⟨rv, cells, h1, h2, h3, h4, h5⟩ := res_ok hr rs sh us hrs
      rw [hs] at hv
      generalize hA : a.tmps.getD t undef = A at hv
      cases hv with
      | agg _ vs hsz hvs =>
      refine ⟨.agg vs :: rv, vs.toList ++ cells, .agg vs (by omega) h1, by simp [h2], by simp [h3, hsz], fun j hj => ?_, fun i hi hi2 => ?_⟩
      · by_cases hj1 : j < cs.length
        · rw [List.getElem_append_left hj1, getD_app1 _ _ _ _ (by simp; omega)]
          have := hvs j hj1
          rw [Array.getD_eq_getD_getElem?] at this; rw [List.getD_eq_getElem?_getD]
          simpa using this
        · have hj2 : j - cs.length < us.length := by simp at hj; omega
          rw [List.getElem_append_right (by omega), getD_app2 _ _ _ _ (by simp; omega)]
          have := h4 _ hj2
          simpa [hsz] using this
      · cases i with
        | zero => simp only [List.getElem_cons_zero, resSem, hA]; rfl
        | succ i => exact h5 i (by simpa using hi) (by simpa using hi2)
    · rename_i us hrs hno
      cases hb : (!ag && Nat.beq n 1 && (st.s t).leaf)
      case false => simp [hb] at h
      simp only [hb, cond_true, Option.some.injEq] at h
      subst h
      simp only [Bool.and_eq_true, Bool.not_eq_true'] at hb
      obtain ⟨⟨rfl, hn⟩, hlf⟩ := hb
      have hn := Nat.eq_of_beq_eq_true hn
      subst hn
      obtain ⟨rv, cells, h1, h2, h3, h4, h5⟩ := res_ok hr rs sh us hrs
      refine ⟨a.tmps.getD t undef :: rv, a.tmps.getD t undef :: cells, .one _ h1, by simp [h2], by simp [h3], fun j hj => ?_, fun i hi hi2 => ?_⟩
      · cases j with
        | zero => exact hv
        | succ j => exact h4 j (by simpa using hj)
      · cases i with
        | zero => rfl
        | succ i => exact h5 i (by simpa using hi) (by simpa using hi2)
    · cases h
  | .cell x t :: rs, (ag, n) :: sh, vs, h => by
    simp only [resLeaves] at h
    have hv := hr.slots x
    split at h
    case h_2 => cases h
    rename_i b us ag' n' hs hrs hag hsz
    split at h
    case h_2 => cases h
    rename_i cs m hrow
    cases hb : ((ag == ag') && Nat.beq n n' && Nat.beq n cs.length && (ag || Nat.beq n 1))
    case false => simp [hb] at h
    simp only [hb, cond_true, Option.some.injEq] at h
    subst h
    simp only [Bool.and_eq_true, beq_iff_eq] at hb
    obtain ⟨⟨⟨rfl, h1⟩, h2⟩, h3⟩ := hb
    have h1 := Nat.eq_of_beq_eq_true h1
    have h2 := Nat.eq_of_beq_eq_true h2
    subst h1
    obtain ⟨rv, cells, k1, k2, k3, k4, k5⟩ := res_ok hr rs sh us hrs
    rw [hs] at hv
    obtain ⟨ri, hρ, hro, _⟩ := hr.heap.rows _ _ hrow
    obtain ⟨e1, e2⟩ := bp_cells hρ hro hv
    have hlt : loadCells ag n cs 0 some = some (if ag then .agg cs else cs.getD 0 .undef) := by
      unfold loadCells
      cases ag with
      | true =>
        have : Nat.ble (0 + n) cs.length = true := Nat.ble_eq_true_of_le (by omega)
        simp only [cond_true, this, if_true, List.drop_zero]
        rw [List.take_of_length_le (by omega)]
      | false =>
        simp only [Bool.false_or] at h3
        have := Nat.eq_of_beq_eq_true h3
        match cs, h2 with
        | [c], _ => rfl
        | [], h2 => simp at h2; omega
        | _ :: _ :: _, h2 => simp at h2; omega
    obtain ⟨d, v, g1, g2, g3⟩ := load_ok (K := some) hag hsz e2 hlt
    have g1 : d = if ag then V.agg cs else cs.getD 0 .undef := Option.some.inj g1
    subst g1
    have hrun : (resSem a.tmps (.cell x t)).run C.P w = .ok v w := by
      simp only [resSem, e1, asAddr, Sem.run_bind, Sem.run_pure, Result.andThen_ok]
      exact g3
    cases ag with
    | true =>
      simp only [if_true] at g2
      cases g2 with
      | agg _ vs hsz2 hvs =>
      refine ⟨.agg vs :: rv, vs.toList ++ cells, .agg vs (by omega) k1, by simp [k2], by simp [k3, hsz2], fun j hj => ?_, fun i hi hi2 => ?_⟩
      · by_cases hj1 : j < cs.length
        · rw [List.getElem_append_left hj1, getD_app1 _ _ _ _ (by simp; omega)]
          have := hvs j hj1
          rw [Array.getD_eq_getD_getElem?] at this; rw [List.getD_eq_getElem?_getD]
          simpa using this
        · have hj2 : j - cs.length < us.length := by simp at hj; omega
          rw [List.getElem_append_right (by omega), getD_app2 _ _ _ _ (by simp; omega)]
          have := k4 _ hj2
          simpa [hsz2] using this
      · cases i with
        | zero => exact hrun
        | succ i => exact k5 i (by simpa using hi) (by simpa using hi2)
    | false =>
      simp only [Bool.false_or] at h3
      have h3 := Nat.eq_of_beq_eq_true h3
      subst h3
      match cs, h2 with
      | [c], _ =>
        simp only [Bool.false_eq_true, if_false] at g2
        refine ⟨v :: rv, v :: cells, .one v k1, by simp [k2], by simp [k3], fun j hj => ?_, fun i hi hi2 => ?_⟩
        · cases j with
          | zero => exact g2
          | succ j => exact k4 j (by simpa using hj)
        · cases i with
          | zero => exact hrun
          | succ i => exact k5 i (by simpa using hi) (by simpa using hi2)
      | [], h2 => simp at h2
      | _ :: _ :: _, h2 => simp at h2

theorem results_ok (hr : Rel C w0 outer own ρ st a w) {fn : Func} {sh : List (Bool × Nat)} {vs : List V} (h : resLeaves C.P st fn.results.toList sh = some vs) :
    ∃ rv cells, ResOk sh rv cells ∧ cells.length = vs.length ∧ (∀ j (hj : j < vs.length), VR w ρ (Bad outer ρ st.h) (cells.getD j undef) vs[j]) ∧
      (results fn a.tmps).run C.P w = .ok (if h : rv.toArray.size = 1 then rv.toArray[0] else .tuple rv.toArray) w := by
  obtain ⟨rv, cells, h1, h2, h3, h4, h5⟩ := res_ok hr _ _ _ h
  refine ⟨rv, cells, h1, h3, h4, ?_⟩
  have := mapM_run (P := C.P) (w := w) (resSem a.tmps) fn.results.toList rv h2 h5
  show ((do let vs ← fn.results.mapM (resSem a.tmps); pure (if h : vs.size = 1 then vs[0] else .tuple vs)) : Sem Value).run C.P w = _
  rw [Array.mapM_eq_mapM_toList]
  simp only [Sem.run_bind, Sem.run_map, this, Result.andThen_ok, Sem.run_pure]

end
end Go.D
