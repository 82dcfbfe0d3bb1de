/-
  What one operation leaves alone: the slots it does not name, the rows that are not the call's own.
-/
import Derived.Test.YtilkenfgjljknaaNat1
namespace Go.D

/-- Rows of a kind that are locked or given up stay as they are. -/
def KeepP (π : Nat → Prop) (h h' : Nat → Option Row) : Prop := ∀ r row, π r → h r = some row → row.m.isOwn = false → h' r = some row

theorem KeepP.refl (π : Nat → Prop) (h : Nat → Option Row) : KeepP π h h := fun _ _ _ h _ => h
theorem KeepP.trans {π : Nat → Prop} {a b c : Nat → Option Row} (h : KeepP π a b) (k : KeepP π b c) : KeepP π a c := fun r row hn hr hm => k r row hn (h r row hn hr hm) hm

theorem keeps_upd {π : Nat → Prop} {h h' : Nat → Option Row} (k : KeepP π h h') (r : Nat) (x : Option Row) (hr : ¬ π r ∨ ∃ row, h r = some row ∧ row.m.isOwn = true) : KeepP π h (upd h' r x) := fun q row hn hq hm => by
  rw [upd_other]
  · exact k q row hn hq hm
  · rintro rfl
    rcases hr with hr | ⟨row', h1, h2⟩
    · exact hr hn
    · rw [hq] at h1; cases h1; rw [hm] at h2; cases h2

theorem keeps_mark {π : Nat → Prop} {h : Nat → Option Row} (ids : List Nat) (hl : ∀ r ∈ ids, ∀ row, h r = some row → row.m.isLock = false) : KeepP π h (markRo h ids) := fun q row hn hq hm => by
  rw [markRo_get]
  by_cases hi : q ∈ ids
  · have := hl q hi row hq
    obtain ⟨c, m⟩ := row
    cases m
    · cases hm
    · simp [hi, hq]
    · cases this
  · simp [hi, hq]

def NoLock (h : Nat → Option Row) (ids : List Nat) : Prop := ∀ r ∈ ids, ∀ row, h r = some row → row.m.isLock = false

theorem noLock_nil (h : Nat → Option Row) : NoLock h [] := fun r hr => by simp at hr
theorem noLock_app {h : Nat → Option Row} {i j : List Nat} (a : NoLock h i) (b : NoLock h j) : NoLock h (i ++ j) := fun r hr => by
  rcases List.mem_append.1 hr with hr | hr
  · exact a r hr
  · exact b r hr
theorem noLock_cons {h : Nat → Option Row} {r : Nat} {j : List Nat} (a : ∀ row, h r = some row → row.m.isLock = false) (b : NoLock h j) : NoLock h (r :: j) := fun q hq => by
  rcases List.mem_cons.1 hq with rfl | hq
  · exact a
  · exact b q hq

theorem frzLeaf_noLock {h : Nat → Option Row} {v : V} {x : V × List Nat} (hf : frzLeaf h v = some x) : NoLock h x.2 := by
  unfold frzLeaf at hf
  split at hf
  · split at hf
    · rename_i t l m hr
      cases hm : m.isLock <;> simp [hm] at hf
      subst hf
      exact noLock_cons (fun row h1 => by rw [hr] at h1; cases h1; exact hm) (noLock_nil _)
    · cases hf
  · split at hf
    · rename_i t' l m hr
      cases hm : m.isLock
      · simp only [hm, cond_false] at hf
        split at hf
        · simp at hf; subst hf
          exact noLock_cons (fun row h1 => by rw [hr] at h1; cases h1; exact hm) (noLock_nil _)
        · cases hf
      · simp [hm] at hf
    · cases hf
  · cases hb : noRefN 8 v <;> simp [hb] at hf
    subst hf; exact noLock_nil _

theorem frzList_noLock {h : Nat → Option Row} : ∀ {vs : List V} {x : List V × List Nat}, frzList h vs = some x → NoLock h x.2
  | [], x, hf => by simp [frzList] at hf; subst hf; exact noLock_nil _
  | v :: vs, x, hf => by
    simp only [frzList] at hf
    split at hf
    · cases hf
    rename_i h1
    split at hf
    · cases hf
    rename_i h2
    cases hf
    exact noLock_app (frzLeaf_noLock h1) (frzList_noLock h2)

theorem frz_noLock {h : Nat → Option Row} {v : V} {x : V × List Nat} (hf : frz h v = some x) : NoLock h x.2 := by
  unfold frz at hf
  split at hf
  · split at hf
    · rename_i h1
      cases hf; exact (frzList_noLock h1 : _)
    · cases hf
  · split at hf
    · rename_i cs m hr
      cases hb : (m.isLock || cs.isEmpty)
      case true => simp [hb] at hf
      simp only [hb, cond_false] at hf
      split at hf
      · rename_i h1
        cases hf
        refine noLock_cons (fun row h2 => ?_) (frzList_noLock h1)
        rw [hr] at h2; cases h2
        simp only [Bool.or_eq_false_iff] at hb; exact hb.1
      · cases hf
    · cases hf
  · exact frzLeaf_noLock hf

theorem frzArgs_noLock {h : Nat → Option Row} : ∀ {vs : List V} {x : List V × List Nat}, frzArgs h vs = some x → NoLock h x.2
  | [], x, hf => by simp [frzArgs] at hf; subst hf; exact noLock_nil _
  | v :: vs, x, hf => by
    simp only [frzArgs] at hf
    split at hf
    · cases hf
    rename_i h1
    split at hf
    · cases hf
    rename_i h2
    cases hf
    exact noLock_app (frz_noLock h1) (frzArgs_noLock h2)

theorem keeps_kill {π : Nat → Prop} {h : Nat → Option Row} {t : TN} {v : V} {l : List (El t)} {r : Option Nat} (ht : takenOf h t v = some (l, r)) : KeepP π h (killO h r) := by
  cases r with
  | none => exact KeepP.refl _ _
  | some r =>
    refine keeps_upd (KeepP.refl _ _) r none (.inr ?_)
    unfold takenOf at ht
    split at ht
    · cases ht
    · split at ht
      · rename_i hr
        split at ht
        · cases ht; exact ⟨_, hr, rfl⟩
        · cases ht
      · cases ht
    · split at ht
      · rename_i hr
        split at ht
        · cases ht; exact ⟨_, hr, rfl⟩
        · cases ht
      · cases ht
    · cases ht

theorem takeLeaves_keeps (π : Nat → Prop) (ow : List Nat) : ∀ (cs : List V) (p : Nat) (h : Nat → Option Row) (x : List V × (Nat → Option Row)), takeLeaves ow p cs h = some x → KeepP π h x.2
  | [], p, h, x, ht => by simp [takeLeaves] at ht; subst ht; exact KeepP.refl π h
  | c :: cs, p, h, x, ht => by
    simp only [takeLeaves] at ht
    cases hb : ow.any (Nat.beq p)
    · simp only [hb, cond_false] at ht
      split at ht
      case h_2 => cases ht
      rename_i hf
      split at ht
      case h_2 => cases ht
      rename_i hr
      cases ht
      have k := takeLeaves_keeps π ow cs (p + 1) _ _ hr
      exact (keeps_mark _ (frzLeaf_noLock hf)).trans k
    · simp only [hb, cond_true] at ht
      split at ht
      · split at ht
        case h_2 => cases ht
        rename_i hrow
        split at ht
        case h_2 => cases ht
        rename_i hr
        cases ht
        have k := takeLeaves_keeps π ow cs (p + 1) _ _ hr
        exact (keeps_upd (KeepP.refl π h) _ none (.inr ⟨_, hrow, rfl⟩)).trans k
      · split at ht
        case h_2 => cases ht
        rename_i hr
        cases ht
        have := takeLeaves_keeps π ow cs _ _ _ hr
        exact this
      · cases ht

theorem takeArgs_keeps (π : Nat → Prop) : ∀ (ks : List ArgK) (as : List V) (h : Nat → Option Row) (x : List V × (Nat → Option Row) × List Nat), takeArgs ks as h = some x →
    KeepP π h x.2.1 ∧ ∀ b ∈ x.2.2, ∃ row, h b = some row ∧ row.m.isOwn = true
  | [], [], h, x, ht => by simp [takeArgs] at ht; subst ht; exact ⟨KeepP.refl π h, fun b hb => by simp at hb⟩
  | [], _ :: _, h, x, ht => by simp [takeArgs] at ht
  | .plain :: ks, [], h, x, ht => by simp [takeArgs] at ht
  | .ptr _ :: ks, [], h, x, ht => by simp [takeArgs] at ht
  | .plain :: ks, v :: vs, h, x, ht => by
    simp only [takeArgs] at ht
    split at ht
    · cases ht
    rename_i v' ids hf
    split at ht
    · cases ht
    rename_i hr
    cases ht
    obtain ⟨k1, k2⟩ := takeArgs_keeps π ks vs _ _ hr
    refine ⟨(keeps_mark _ (frz_noLock hf)).trans k1, fun b hb => ?_⟩
    obtain ⟨row, h1, h2⟩ := k2 b hb
    obtain ⟨row', h3, h4, h5⟩ := markRo_less h ids b row h1
    rw [markRo_get] at h1
    by_cases hm : b ∈ ids
    · simp [hm, h3] at h1; subst h1; cases h2
    · simp [hm] at h1; exact ⟨row, h1, h2⟩
  | .ptr ow :: ks, v :: vs, h, x, ht => by
    obtain ⟨r, rfl⟩ := takeArgs_ptr ht
    simp only [takeArgs] at ht
    split at ht
    case h_2 => cases ht
    rename_i cs hrow
    cases hb : Nat.ble cs.length 63
    case false => simp [hb] at ht
    simp only [hb, cond_true] at ht
    split at ht
    · cases ht
    rename_i hl
    split at ht
    · cases ht
    rename_i hr
    cases ht
    obtain ⟨k1, k2⟩ := takeArgs_keeps π ks vs _ _ hr
    refine ⟨(keeps_upd (KeepP.refl π h) _ none (.inr ⟨_, hrow, rfl⟩)).trans ((takeLeaves_keeps π _ _ _ _ _ hl).trans k1), fun b hb => ?_⟩
    rcases List.mem_cons.1 hb with rfl | hb
    · exact ⟨_, hrow, rfl⟩
    · obtain ⟨row, h1, h2⟩ := k2 b hb
      obtain ⟨row2, h3, h4, h5⟩ := takeLeaves_less _ _ _ _ _ hl b row h1
      have hbr : b ≠ r := by rintro rfl; rw [upd_same] at h3; cases h3
      rw [upd_other _ _ _ _ hbr] at h3
      refine ⟨row2, h3, ?_⟩
      cases ho : row2.m.isOwn with
      | true => rfl
      | false =>
        have := takeLeaves_keeps (fun _ => True) _ _ _ _ _ hl b row2 trivial (by rw [upd_other _ _ _ _ hbr]; exact h3) ho
        have this := this.symm.trans h1; cases this; rw [h2] at ho; cases ho

def All {α : Type} (p : α → Prop) (x : Option α) : Prop := ∀ y, x = some y → p y

structure Left (π : Nat → Prop) (dst : Option Nat) (st st' : St) : Prop where
  slots : ∀ s, dst ≠ some s → st'.s s = st.s s
  rows : KeepP π st.h st'.h
  nx : st'.nx = st.nx

section
variable {C : Cx} {st : St} {π : Nat → Prop} {dst : Option Nat}

theorem all_none {α : Type} {p : α → Prop} : All p none := fun _ h => by cases h

theorem all_put {h' : Nat → Option Row} (hk : KeepP π st.h h') (v : V) : All (Left π dst st) (putK C dst { st with h := h' } v some) := by
  intro st' h
  cases dst with
  | none => simp [putK] at h; subst h; exact ⟨fun _ _ => rfl, hk, rfl⟩
  | some d =>
    simp only [putK] at h
    cases hb : Nat.blt d C.nt <;> simp [hb] at h
    subst h
    exact ⟨fun s hs => upd_other _ _ _ _ (fun e => hs (by rw [e])), hk, rfl⟩

theorem all_put0 (v : V) : All (Left π dst st) (putK C dst st v some) := all_put (KeepP.refl π st.h) v

theorem all_new {h' : Nat → Option Row} (hk : KeepP π st.h h') {i : Nat} (hi : ∀ q, q < 64 → ¬ π (i + q)) (c : RowC) (v : V) : All (Left π dst st) (newK C dst { st with h := h' } i c v some) := all_put (keeps_upd hk i _ (.inl (hi 0 (by omega)))) v
theorem all_new0 {i : Nat} (hi : ∀ q, q < 64 → ¬ π (i + q)) (c : RowC) (v : V) : All (Left π dst st) (newK C dst st i c v some) := all_put (keeps_upd (KeepP.refl π st.h) i _ (.inl (hi 0 (by omega)))) v

theorem all_cond {α : Type} {p : α → Prop} (b : Bool) {x : Option α} (h : b = true → All p x) : All p (bif b then x else none) := by
  cases b
  · exact all_none
  · exact h rfl
theorem all_ncond {α : Type} {p : α → Prop} (b : Bool) {x : Option α} (h : b = false → All p x) : All p (bif b then none else x) := by
  cases b
  · exact h rfl
  · exact all_none
theorem all_bind {α β : Type} {p : β → Prop} (x : Option α) {f : α → Option β} (h : ∀ v, x = some v → All p (f v)) : All p (Option.bind x f) := by
  cases x with
  | none => exact all_none
  | some v => exact h v rfl
theorem all_load {p : St → Prop} {K : V → Option St} (h : ∀ v, All p (K v)) (ag : Bool) (m : Nat) (cs : List V) (off : Nat) : All p (loadCells ag m cs off K) := by
  cases ag <;> simp only [loadCells, cond_true, cond_false]
  · split
    · exact h _
    · exact all_none
  · exact all_cond _ fun _ => h _
theorem all_bin {p : St → Prop} {K : V → Option St} (h : ∀ v, All p (K v)) (op : BinOp) (x y : V) : All p (binK op x y K) := by
  unfold binK
  split
  · exact all_cond _ fun _ => all_ncond _ fun _ => h _
  · exact all_cond _ fun _ => all_ncond _ fun _ => h _
  · exact all_ncond _ fun _ => h _
  · exact all_ncond _ fun _ => h _
  · exact all_cond _ fun _ => h _
  · split
    · exact h _
    · exact all_none
theorem all_chain {p : St → Prop} {f : Nat → Option St} (h : ∀ k, All p (f k)) (i : Int) : ∀ (m k : Nat), All p (chainK f i k m)
  | 0, k => all_none
  | m + 1, k => by
    simp only [chainK]
    cases i == (k : Int)
    · exact all_chain h i m (k + 1)
    · exact h k
theorem all_cut {p : St → Prop} {K : V → Option St} (h : ∀ v, All p (K v)) (d : TypeDesc) (tk : TypeId → TN → Bool) (hp : Nat → Option Row) (x : V) (lo hi : Option V) : All p (cutV d tk hp x lo hi K) := by
  unfold cutV
  split
  · exact all_none
  split
  case h_2 => exact all_none
  refine all_cond _ fun _ => ?_
  split
  · exact all_cond _ fun _ => h _
  · exact h _
  · split
    · exact all_cond _ fun _ => h _
    · exact all_none
  · exact all_cond _ fun _ => h _
  · exact all_none

theorem all_call {i : Nat} (hi : ∀ q, q < 64 → ¬ π (i + q)) (f : Nat) (as : List V) : All (Left π dst st) (callK C i dst st f as some) := by
  unfold callK
  split
  · exact all_none
  rename_i ci _
  split
  · exact all_none
  rename_i as' h' bs hta
  refine all_bind _ fun x _ => all_bind _ fun r _ => all_cond _ fun hlen => all_put ?_ _
  obtain ⟨k1, k2⟩ := takeArgs_keeps π _ _ _ _ hta
  intro q row hq hrow hm
  have hlen := Nat.le_of_ble_eq_true hlen
  rw [exH_or]
  have hno : exH ci.ks as' bs ci.own i ci.shape (ci.eR r) q = none := by
    cases hx : exH ci.ks as' bs ci.own i ci.shape (ci.eR r) q with
    | none => rfl
    | some y =>
      rcases exH_mem (by rw [thawL_len] at hlen; exact hlen) hx with h1 | h1
      · obtain ⟨row', h2, h3⟩ := k2 q h1
        rw [hrow] at h2; cases h2; rw [h3] at hm; cases hm
      · exact absurd hq (by have := hi (q - i) (by omega); rwa [show i + (q - i) = q by omega] at this)
  rw [hno]; exact k1 q row hq hrow hm

theorem stepK_leftP {i : Nat} (hi : ∀ q, q < 64 → ¬ π (i + q)) (o : Oper) : All (Left π o.dst st) (stepK C i o st some) := by
  unfold stepK
  repeat' first
    | exact all_none
    | exact all_put0 _
    | exact all_new0 hi _ _
    | exact all_call hi _ _
    | exact all_put (keeps_mark _ (frzArgs_noLock ‹_›)) _
    | exact all_new (keeps_mark _ (frzArgs_noLock ‹_›)) hi _ _
    | exact all_new (keeps_kill ‹_›) hi _ _
    | exact all_put (keeps_upd (KeepP.refl π st.h) _ _ (.inr ⟨_, ‹_›, rfl⟩)) _
    | exact all_put (keeps_upd (keeps_mark _ (frzList_noLock ‹_›)) _ _ (.inr ⟨_, ‹_›, rfl⟩)) _
    | refine all_load (fun _ => ?_) _ _ _ _
    | refine all_bin (fun _ => ?_) _ _ _
    | refine all_chain (fun _ => ?_) _ _ _
    | refine all_cut (fun _ => ?_) _ _ _ _ _ _
    | refine all_cond _ (fun _ => ?_)
    | refine all_ncond _ (fun _ => ?_)
    | refine all_bind _ (fun _ _ => ?_)
    | split
end

/-- Rows below 'n' that are locked or given up stay as they are. -/
abbrev Keeps (n : Nat) (h h' : Nat → Option Row) : Prop := KeepP (fun r => r < n) h h'
theorem Keeps.refl (n : Nat) (h : Nat → Option Row) : Keeps n h h := KeepP.refl _ h
theorem Keeps.trans {n : Nat} {a b c : Nat → Option Row} (h : Keeps n a b) (k : Keeps n b c) : Keeps n a c := KeepP.trans h k
theorem Keeps.le {n m : Nat} {a b : Nat → Option Row} (h : Keeps n a b) (hm : m ≤ n) : Keeps m a b := fun r row hr => h r row (by have : r < m := hr; show r < n; omega)

theorem stepK_left {C : Cx} {st : St} {n : Nat} {i : Nat} (hi : n ≤ i) (o : Oper) : All (Left (fun r => r < n) o.dst st) (stepK C i o st some) := stepK_leftP (fun q _ h => by omega) o
end Go.D
