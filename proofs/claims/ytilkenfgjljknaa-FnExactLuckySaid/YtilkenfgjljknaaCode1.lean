/-
  Regions in the order of the text.
-/
import Derived.Test.YtilkenfgjljknaaReg
namespace Go.D

structure Goes (C : Cx) (w0 : World) (outer own : Nat → Prop) (D : Nat → Prop) (st : St) (ρ : Nat → Option RI) (st' : St) (a' : Act) (w' : World) (ρ' : Nat → Option RI) : Prop where
  rel : Rel C w0 outer own ρ' st' a' w'
  ext : ∀ q qi, ρ q = some qi → ρ' q = some qi
  slots : ∀ s, ¬ D s → st'.s s = st.s s
  keeps : Keeps st.nx st.h st'.h
  nx : st.nx ≤ st'.nx
  fresh : ∀ q, st'.nx ≤ q → ρ' q = none

section
variable {C : Cx} {w0 : World} {outer own D : Nat → Prop} {R : Type}

theorem vr_tup0 {w : World} {ρ : Nat → Option RI} {bad : Nat → Prop} {v : Value} (h : VR w ρ bad v (.tup [])) : v = undef := by
  cases h with
  | tup _ vs hs hv =>
    have : vs = #[] := by simpa using hs
    subst this; rfl

theorem yielded_of {ops : Array Oper} {tmps : Array Value} {j dj : Nat} (h : (ops[j]?).bind (·.dst) = some dj) (hlt : dj < tmps.size) :
    yielded ops tmps j = match tmps.getD dj undef with | .bool b => some b | _ => none := by
  unfold yielded
  rw [h]
  simp only [Option.bind_some, Array.getElem?_eq_getElem hlt, Array.getD_eq_getD_getElem?, Option.getD_some]
  split <;> split <;> simp_all

theorem drop_zip (ops : Array Oper) {k : Nat} (hk : k < ops.size) : zipFrom k (ops.toList.drop k) = (k, ops[k]) :: zipFrom (k + 1) (ops.toList.drop (k + 1)) := by
  rw [List.drop_eq_getElem_cons (by simpa using hk)]; rfl

theorem upd_self (f : Nat → V) (i : Nat) (v : V) (h : f i = v) : upd f i v = f := by
  funext q
  by_cases hq : q = i
  · subst hq; rw [upd_same, h]
  · rw [upd_other _ _ _ _ hq]

theorem runG_ok (hC : TnOk C) (hΦ : PhiOk C) {ops : Array Oper} {Q : Exit → Act → World → Prop} {K : St → Option R} {r : R} (nx : Nat) (hD : ∀ o ∈ ops, ∀ d, o.dst = some d → D d) : ∀ (m k : Nat) (st : St) (a : Act) (w : World) (ρ : Nat → Option RI),
    k + m = ops.size → Rel C w0 outer own ρ st a w → (∀ q, nx + 64 * k ≤ q → ρ q = none) → runG C ops nx (zipFrom k (ops.toList.drop k)) st K = some r →
    (∀ st' a' w' ρ', Rel C w0 outer own ρ' st' a' w' → (∀ q, nx + 64 * ops.size ≤ q → ρ' q = none) → (∀ q qi, ρ q = some qi → ρ' q = some qi) → (∀ s, ¬ D s → st'.s s = st.s s) → Keeps nx st.h st'.h → st'.nx = st.nx →
      K st' = some r → Q .normal a' w') → wpOps C.P ops Q (List.range' k m) a w
  | 0, k, st, a, w, ρ, hk, hr, hf, hrun, hpost => by
    have : ops.toList.drop k = [] := List.drop_eq_nil_of_le (by simp; omega)
    rw [this] at hrun
    exact hpost st a w ρ hr (fun q hq => hf q (by omega)) (fun _ _ h => h) (fun _ _ => rfl) (Keeps.refl _ _) rfl hrun
  | m + 1, k, st, a, w, ρ, hk, hr, hf, hrun, hpost => by
    have hlt : k < ops.size := by omega
    have ho : ops[k]? = some ops[k] := Array.getElem?_eq_getElem hlt
    rw [drop_zip ops hlt] at hrun
    rw [List.range'_succ]
    simp only [wpOps, ho]
    have hDk : ∀ d, (ops[k]).dst = some d → D d := hD _ (Array.getElem_mem hlt)
    -- a step
    have step : ∀ (st0 : St), Rel C w0 outer own ρ st0 a w → st0.h = st.h → st0.nx = st.nx → (∀ s, ¬ D s → st0.s s = st.s s) → (stepK C (nx + 64 * k) ops[k] st0 fun st' => runG C ops nx (zipFrom (k + 1) (ops.toList.drop (k + 1))) st' K) = some r →
        (ops[k]).wp C.P a w (wpOps C.P ops Q (List.range' (k + 1) m)) Q := by
      intro st0 hr0 hh0 hnx0 hs0 hrun
      rw [stepK_nat] at hrun
      obtain ⟨st1, h1, h2⟩ := Option.bind_eq_some_iff.1 hrun
      have L := stepK_left (n := nx) (i := nx + 64 * k) (by omega) ops[k] st1 h1
      refine step_ok hr0 hC hΦ ⟨_, hf⟩ (fun q _ => hf _ (by omega)) h1 _ Q fun a1 w1 hA => ?_
      obtain ⟨ρ1, hr1, hE, hx⟩ := hA
      refine runG_ok hC hΦ nx hD m (k + 1) st1 a1 w1 ρ1 (by omega) hr1 (fun q hq => by rw [hE q (by omega)]; exact hf q (by omega)) h2 fun st' a' w' ρ' p1 p2 p3 p4 p5 p6 p7 => ?_
      refine hpost st' a' w' ρ' p1 p2 (fun q qi hq => p3 _ _ (hx q qi hq)) (fun s hs => ?_) ?_ (p6.trans (L.nx.trans hnx0)) p7
      · rw [p4 s hs, L.slots s (fun e => hs (hDk s e)), hs0 s hs]
      · rw [← hh0]; exact L.rows.trans p5
    have skip : (putK C (ops[k]).dst st (.tup []) fun st' => runG C ops nx (zipFrom (k + 1) (ops.toList.drop (k + 1))) st' K) = some r → wpOps C.P ops Q (List.range' (k + 1) m) (a.put (ops[k]).dst undef) w := by
      intro hrun
      rw [putK_nat] at hrun
      obtain ⟨st1, h1, h2⟩ := Option.bind_eq_some_iff.1 hrun
      have L := all_put0 (π := fun r => r < nx) (V.tup []) st1 h1
      obtain ⟨p1, _, _⟩ := hr.put (v := undef) (d := .tup []) (.tup [] #[] rfl fun j hj => by simp at hj) h1
      refine runG_ok hC hΦ nx hD m (k + 1) st1 _ w ρ (by omega) p1 (fun q hq => hf q (by omega)) h2 fun st' a' w' ρ' q1 q2 q3 q4 q5 q6 q7 => ?_
      refine hpost st' a' w' ρ' q1 q2 q3 (fun s hs => ?_) (L.rows.trans q5) (q6.trans L.nx) q7
      rw [q4 s hs, L.slots s (fun e => hs (hDk s e))]
    simp only [runG] at hrun
    split at hrun
    · rename_i hg
      rw [if_pos (by simp [Region.wanted, hg])]
      exact .inl (step st hr rfl rfl (fun _ _ => rfl) hrun)
    · rename_i j want hg
      split at hrun
      · cases hrun
      rename_i dj hdj
      have hDj : D dj := by
        obtain ⟨oj, h1, h2⟩ := Option.bind_eq_some_iff.1 hdj
        exact hD oj (Array.mem_of_getElem? h1) dj h2
      have hv := hr.slots dj
      have hyn : ∀ v, a.tmps.getD dj undef = v → (∀ b, v ≠ .bool b) → yielded ops a.tmps j = none := fun v hv hn => by
        unfold yielded
        rw [hdj]
        simp only [Option.bind_some]
        split
        · rename_i b hb
          rw [Array.getD_eq_getD_getElem?, hb] at hv
          exact absurd hv.symm (hn b)
        · rfl
      split at hrun
      · rename_i hs
        rw [hs] at hv
        have hy := hyn _ (vr_tup0 hv) (fun b h => by cases h)
        rw [if_neg (by simp [Region.wanted, hg, hy])]
        exact skip hrun
      · rename_i t hs
        rw [hs] at hv
        have hb : a.tmps.getD dj undef = .bool t := by
          generalize a.tmps.getD dj undef = v at hv; cases hv; rfl
        have hlt2 : dj < a.tmps.size := by
          rcases Nat.lt_or_ge dj a.tmps.size with h | h
          · exact h
          · rw [Array.getD_eq_getD_getElem?, Array.getElem?_eq_none h] at hb; cases hb
        have hy : yielded ops a.tmps j = some t := by rw [yielded_of hdj hlt2, hb]
        have hself : ({ st with s := upd st.s dj (.bool t) } : St) = st := by rw [upd_self _ _ _ hs]
        have hw : Region.wanted ops[k] (yielded ops a.tmps) = (t == want) := by
          simp only [Region.wanted, hg, hy]; cases t <;> cases want <;> rfl
        rw [hw]
        have hrun : (bif t == want then stepK C (nx + 64 * k) ops[k] { st with s := upd st.s dj (.bool t) } fun st' => runG C ops nx (zipFrom (k + 1) (ops.toList.drop (k + 1))) st' K
            else putK C (ops[k]).dst { st with s := upd st.s dj (.bool t) } (.tup []) fun st' => runG C ops nx (zipFrom (k + 1) (ops.toList.drop (k + 1))) st' K) = some r := by
          cases t <;> exact hrun
        rw [hself] at hrun
        cases htw : t == want
        · rw [htw] at hrun; simp only [Bool.false_eq_true, if_false]; exact skip hrun
        · rw [htw] at hrun; simp only [if_true]; exact .inl (step st hr rfl rfl (fun _ _ => rfl) hrun)
      · cases hrun

end
end Go.D
