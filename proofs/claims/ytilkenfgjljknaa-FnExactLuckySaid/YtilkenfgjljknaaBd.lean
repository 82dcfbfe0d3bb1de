/-
  What is known of every value that memory holds: its lengths are lengths.
-/
import Derived.Test.YtilkenfgjljknaaFin2
namespace Go.D

inductive Bd : V → Prop where
  | undef : Bd .undef
  | bool (b : Bool) : Bd (.bool b)
  | int (k : IntKind) (n : Int) (h : Fits k n) : Bd (.int k n)
  | str (s : List UInt8) (h : s.length ≤ maxLen) : Bd (.str s)
  | nil : Bd .nil
  | sl (t : TN) (l : List (El t)) (h : l.length ≤ maxLen) (hv : ∀ i (h : i < l.length) j, j < sz t → Bd ((enc t l[i]).getD j .undef)) : Bd (.sl t l)
  | ow (r : Nat) : Bd (.ow r)
  | ov (r : Nat) (t : TN) (off len : Nat) : Bd (.ov r t off len)
  | bp (r off : Nat) : Bd (.bp r off)
  | ep (r : Nat) (t : TN) (i off : Nat) : Bd (.ep r t i off)
  | fp (cs : List V) (off : Nat) (h : ∀ j (h : j < cs.length), Bd cs[j]) : Bd (.fp cs off)
  | fn (f : Nat) (cs : List V) (h : ∀ j (h : j < cs.length), Bd cs[j]) : Bd (.fn f cs)
  | agg (cs : List V) (h : ∀ j (h : j < cs.length), Bd cs[j]) : Bd (.agg cs)
  | tup (cs : List V) (h : ∀ j (h : j < cs.length), Bd cs[j]) : Bd (.tup cs)
  | nili : Bd .nili
  | ifc : Bd .ifc

section
variable {w : World} {ρ : Nat → Option RI} {bad : Nat → Prop} {v : Value} {d : V}

theorem VR.bd (h : VR w ρ bad v d) : Bd d := by
  induction h with
  | undef => exact .undef
  | bool => exact .bool _
  | int _ _ h => exact .int _ _ h
  | str _ h => exact .str _ h
  | nil => exact .nil
  | slE => exact .sl _ _ (Nat.zero_le _) (fun i h => by simp at h)
  | slC t l b off cap u hb hl hc hu hv ih => exact .sl _ _ (Nat.le_trans hl hc) ih
  | ow => exact .ow _
  | owN => exact .ow _
  | ov => exact .ov _ _ _ _
  | bp => exact .bp _ _
  | ep => exact .ep _ _ _ _
  | fp cs off b o u h0 hb hu hv ih => exact .fp _ _ ih
  | fn f cs caps hs hv ih => exact .fn _ _ ih
  | agg cs vs hs hv ih => exact .agg _ ih
  | tup cs vs hs hv ih => exact .tup _ ih
  | nili => exact .nili
  | ifc => exact .ifc

/-- The cells of data. -/
def bdx (t : TN) (x : El t) : Prop := ∀ j, j < sz t → Bd ((enc t x).getD j .undef)
def bdl (t : TN) (l : List (El t)) : Prop := l.length ≤ maxLen ∧ ∀ x ∈ l, bdx t x

theorem Bd.list {t : TN} {l : List (El t)} (h : Bd (.sl t l)) : bdl t l := by
  cases h with
  | sl _ _ h hv =>
    refine ⟨h, fun x hx j hj => ?_⟩
    obtain ⟨i, hi, rfl⟩ := List.mem_iff_getElem.1 hx
    exact hv i hi j hj
theorem Bd.len {s : List UInt8} (h : Bd (.str s)) : s.length ≤ maxLen := by cases h; assumption
theorem Bd.fits {k : IntKind} {n : Int} (h : Bd (.int k n)) : Fits k n := by cases h; assumption

theorem enc_one (t : TN) (h : t.isAgg = false) (x : El t) : ∃ c, enc t x = [c] := by cases t <;> first | exact ⟨_, rfl⟩ | simp [TN.isAgg] at h

/-- The lengths in an argument. -/
def bdTy : (t : Ty) → t.T → Prop
  | .v t, x => bdx t x
  | .sl t, l => bdl t l
  | .raw, v => Bd v
  | .cells t, x => bdx t x

def bdTup : (ts : List Ty) → TyTup ts → Prop
  | [], _ => True
  | [t], x => bdTy t x
  | t :: d :: r, x => bdTy t x.1 ∧ bdTup (d :: r) x.2

theorem bdTy_of {t : Ty} {x : t.T} (h : Bd (encTy t x)) : bdTy t x := by
  cases t with
  | v t =>
    intro j hj
    simp only [encTy, encV] at h
    have hj2 : j < (enc t x).length := by rw [enc_length]; exact hj
    cases hag : t.isAgg
    · simp only [hag, cond_false] at h
      have hsz : sz t = 1 := by cases t <;> first | rfl | simp [TN.isAgg] at hag
      obtain ⟨c, hc⟩ := enc_one t hag x
      simp only [hc] at h ⊢
      have : j = 0 := by omega
      subst this
      exact h
    · simp only [hag, cond_true] at h
      rw [List.getD_eq_getElem?_getD, List.getElem?_eq_getElem hj2]
      cases h with
      | agg _ h => exact h j hj2
  | sl t => exact Bd.list h
  | raw => exact h
  | cells t =>
    intro j hj
    have hj2 : j < (enc t x).length := by rw [enc_length]; exact hj
    rw [List.getD_eq_getElem?_getD, List.getElem?_eq_getElem hj2]
    cases h with
    | agg _ h => exact h j hj2

theorem bdTup_of : ∀ (ts : List Ty) (x : TyTup ts), (∀ v ∈ encTup ts x, Bd v) → bdTup ts x
  | [], x, h => trivial
  | [t], x, h => bdTy_of (h _ (by simp [encTup]))
  | t :: d :: r, x, h => ⟨bdTy_of (h _ (by simp [encTup])), bdTup_of (d :: r) x.2 fun v hv => h v (by simp [encTup, hv])⟩

theorem enc_split {t : Ty} {ats : List Ty} (x : TyTup (t :: ats)) : ∃ (x0 : t.T) (y : TyTup ats), encTup (t :: ats) x = encTy t x0 :: encTup ats y := by
  cases ats with
  | nil => exact ⟨x, (), rfl⟩
  | cons d r => exact ⟨x.1, x.2, rfl⟩

theorem entH_ge : ∀ (ks : List ArgK) (k : Nat) (as : List V) (q : Nat) (row : Row), entH ks k as q = some row → 64 * k ≤ q
    | [], k, as, q, row, h => by cases as <;> simp [entH] at h
    | .plain :: ks, k, [], q, row, h => by simp [entH] at h
    | .plain :: ks, k, a :: as, q, row, h => by
      have := entH_ge ks (k + 1) as q row (by simpa only [entH] using h); omega
    | .ptr ow :: ks, k, [], q, row, h => by simp [entH] at h
    | .ptr ow :: ks, k, a :: as, q, row, h => by
      cases a <;> simp only [entH] at h <;> try (cases h; done)
      by_cases hq : q = 64 * k + 63
      · omega
      · rw [upd_other _ _ _ _ hq, thawH_or] at h
        split at h
        · rename_i x hx
          obtain ⟨_, _, _, h1, _⟩ := thawH_arr _ _ _ _ _ _ hx
          omega
        · have := entH_ge ks (k + 1) as q row h; omega

theorem ent_bd {outer own : Nat → Prop} {w0 : World} {h : Nat → Option Row} (hh : HRel w0 outer own ρ h w) : ∀ (ks : List ArgK) (ats : List Ty) (x : TyTup ats) (k : Nat) (u : Nat → Value), ksOk ks ats = true →
    (∀ q row, entH ks k (encTup ats x) q = some row → h q = some row) →
    (∀ j (hj : j < (entS ks k (encTup ats x)).length), VR w ρ (Bad outer ρ h) (u j) (entS ks k (encTup ats x))[j]) → ∀ v ∈ encTup ats x, Bd v := by
  intro ks
  induction ks with
  | nil =>
    intro ats x k u hk hE hS v hv
    cases ats with
    | nil => simp [encTup] at hv
    | cons => simp [ksOk] at hk
  | cons g ks ih =>
    intro ats x k u hk hE hS v hv
    cases ats with
    | nil => cases g with
      | plain => simp [ksOk] at hk
      | ptr ow => cases ow <;> simp [ksOk] at hk
    | cons t ats =>
      obtain ⟨x0, y, he⟩ := enc_split x
      rw [he] at hE hS hv
      cases g with
      | plain =>
        simp only [ksOk] at hk
        rcases List.mem_cons.1 hv with rfl | hv
        · exact (hS 0 (by simp [entS])).bd
        · exact ih ats y (k + 1) (fun j => u (j + 1)) hk (fun q row hq => hE q row (by simpa only [entH] using hq)) (fun j hj => hS (j + 1) (by simp [entS]; omega)) v hv
      | ptr ow =>
        cases ow with
        | cons => simp [ksOk] at hk
        | nil =>
        cases t with
        | cells t =>
          simp only [ksOk] at hk
          simp only [encTy] at hE hS hv
          have hrow := hE (64 * k + 63) _ (by simp only [entH]; exact upd_same _ _ _)
          rw [thawL_nil] at hrow
          rcases List.mem_cons.1 hv with rfl | hv
          · obtain ⟨ri, _, hro, _⟩ := hh.rows _ _ hrow
            exact .agg _ fun j hj => by
              obtain ⟨_, x, _, h2⟩ := hro.2 j hj
              exact h2.bd
          · refine ih ats y (k + 1) (fun j => u (j + 1)) hk (fun q row hq => hE q row ?_) (fun j hj => hS (j + 1) (by simp [entS]; omega)) v hv
            have hge := entH_ge ks (k + 1) _ q row hq
            simp only [entH, thawH_nil]
            rw [upd_other _ _ _ _ (by omega)]; exact hq
        | _ => simp [ksOk] at hk

end
end Go.D
