/-
  Short names for what the plain semantics computes with numbers.
-/
import Derived.Test.YtnmnifbcflablaaDoorL7
namespace Go.D
def lookC (k : Nat) : List (Nat × CInfo) → Option CInfo
  | [] => none
  | (j, x) :: r => bif Nat.beq j k then some x else lookC k r
@[reducible] def iadd (k : IntKind) (a b : Int) : Int := k.wrap (a + b)
@[reducible] def isub (k : IntKind) (a b : Int) : Int := k.wrap (a - b)
@[reducible] def imul (k : IntKind) (a b : Int) : Int := k.wrap (a * b)
def iand (k : IntKind) (a b : Int) : Int := k.wrap (BitVec.ofInt k.bits a &&& BitVec.ofInt k.bits b).toNat
def ior (k : IntKind) (a b : Int) : Int := k.wrap (BitVec.ofInt k.bits a ||| BitVec.ofInt k.bits b).toNat
def ixor (k : IntKind) (a b : Int) : Int := k.wrap (BitVec.ofInt k.bits a ^^^ BitVec.ofInt k.bits b).toNat
def ishl (k : IntKind) (a b : Int) : Int := k.wrap (a * 2 ^ (min b.toNat k.bits))
def ishr (k : IntKind) (a b : Int) : Int := a.fdiv (2 ^ (min b.toNat k.bits))
def iquo (k : IntKind) (a b : Int) : Int := k.wrap (a.tdiv b)
def irem (_ : IntKind) (a b : Int) : Int := a.tmod b
/-! ### The tables of a program -/

def tnAll1 (P : Program) (p : TypeId × TN) : Bool := match P.info? p.1 with
  | some i => Nat.beq i.size (sz p.2) && Nat.ble i.bytes 1024 && (match i.zero with
    | some z => Nat.beq z.cells.size (sz p.2)
    | none => false)
  | none => false
def tnAll (P : Program) (l : List (TypeId × TN)) : Bool := l.all (tnAll1 P)

theorem look_mem {α : Type} {k : Nat} {x : α} : ∀ {l : List (Nat × α)}, look k l = some x → (k, x) ∈ l
  | [], h => by simp [look] at h
  | (j, y) :: r, h => by
    simp only [look] at h
    cases hb : Nat.beq j k
    · simp only [hb, cond_false] at h; exact List.mem_cons_of_mem _ (look_mem h)
    · simp only [hb, cond_true, Option.some.injEq] at h
      have := Nat.eq_of_beq_eq_true hb
      subst this h; simp

theorem tnOk_of {P : Program} {l : List (TypeId × TN)} (hm : P.follows .mixedOrders = true) (h : tnAll P l = true) (Φ : Nat → Option CInfo) (n : Nat) (g : Gl) : TnOk ⟨P, fun t => look t l, Φ, n, g⟩ := by
  refine ⟨hm, fun e t he => ?_⟩
  have h1 := List.all_eq_true.1 h _ (look_mem he)
  simp only [tnAll1] at h1
  split at h1
  case h_2 => cases h1
  rename_i i hi
  simp only [Bool.and_eq_true] at h1
  obtain ⟨⟨h2, h3⟩, h4⟩ := h1
  split at h4
  case h_2 => cases h4
  rename_i z hz
  exact ⟨i, z, hi, Nat.eq_of_beq_eq_true h2, Nat.le_of_ble_eq_true h3, hz, Nat.eq_of_beq_eq_true h4⟩

theorem phi_nil {P : Program} {tn : TypeId → Option TN} {n : Nat} {g : Gl} : PhiOk ⟨P, tn, fun f => lookC f [], n, g⟩ := ⟨fun _ _ h => by cases h⟩
theorem phi_cons {P : Program} {tn : TypeId → Option TN} {n g : Nat} {ci : CInfo} {l : List (Nat × CInfo)} {gl : Gl} (h : Contract P (g % 1048576) ci gl) (k : PhiOk ⟨P, tn, fun f => lookC f l, n, gl⟩) : PhiOk ⟨P, tn, fun f => lookC f ((g, ci) :: l), n, gl⟩ := ⟨fun f c hf => by
  simp only [lookC] at hf
  cases hb : Nat.beq g f
  · simp only [hb, cond_false] at hf; exact k.ok f c hf
  · simp only [hb, cond_true, Option.some.injEq] at hf
    have := Nat.eq_of_beq_eq_true hb
    subst this hf; exact h⟩

theorem kindsOk_of {P : Program} {l : List (TypeId × TN)} {D : Nat} (h : (l.all fun p => decide (kindsT P (fun t => look t l) D p.1 = some (lk p.2)) && Nat.beq (P.cellsOf p.1) (sz p.2)) = true) : KindsOk P (fun t => look t l) D := ⟨fun e t he => by
  have h1 := List.all_eq_true.1 h _ (look_mem he)
  simp only [Bool.and_eq_true, decide_eq_true_eq] at h1
  exact ⟨h1.1, Nat.eq_of_beq_eq_true h1.2⟩⟩

/-- What is known of a function: how its arguments and its results lie, and what it computes. -/
def mkCI (ks : List ArgK) (ats rts : List Ty) (F : TyTup ats → Option (TyTup rts)) (sh : List (Bool × Nat)) (own : List Nat) (pb : Bool) : CInfo :=
  ⟨ks, TyTup ats, TyTup rts, decTup ats, F, flatTup rts, sh, own, pb⟩

theorem evC {P : Program} {tl : List (TypeId × TN)} {f : Nat} {fn : Func} {ks : List ArgK} {ats rts : List Ty} {F : TyTup ats → Option (TyTup rts)} {sh : List (Bool × Nat)} {own : List Nat} (n : Nat) {l : List (Nat × CInfo)} {g : Gl}
    (hm : P.follows .mixedOrders = true) (ht : tnAll P tl = true) (hΦ : PhiOk ⟨P, fun t => look t tl, fun f => lookC f l, n, g⟩) (hf : P.funcs[f]? = some fn) (an : An) (Raw : TyTup ats → Option (TyTup rts))
    (h0 : (fn.body.isSome && !(fn.name == "runtime.NumGoroutine") && Nat.beq n fn.ntmps && ksOk ks ats && Nat.ble ks.length fn.ntmps) = true)
    (he : ∀ x, evalF ⟨P, fun t => look t tl, fun f => lookC f l, n, g⟩ fn (fn.body.getD .skip) an ks own sh rts (encTup ats x) = Raw x) (hok : ∀ x r, bdTup ats x → F x = some r → Raw x = some r) :
    Contract P f (mkCI ks ats rts F sh own false) g := by
  simp only [Bool.and_eq_true, Bool.not_eq_true'] at h0
  obtain ⟨⟨⟨⟨h1, h2⟩, h3⟩, h4⟩, h5⟩ := h0
  obtain ⟨b, hb⟩ := Option.isSome_iff_exists.1 h1
  have hbd : fn.body.getD .skip = b := by rw [hb]; rfl
  exact evalF_ok (C := ⟨P, fun t => look t tl, fun f => lookC f l, n, g⟩) (tnOk_of hm ht _ _ _) hΦ hf hb h2 (Nat.eq_of_beq_eq_true h3) an ks own sh ats rts F h4 h5 fun x r hx hr => by
    have := he x
    rw [hbd] at this
    exact this.trans (hok x r hx hr)

theorem evP {P : Program} {tl : List (TypeId × TN)} {f : Nat} {fn : Func} {m : Nat} {ats rts : List Ty} {F : TyTup ats → Option (TyTup rts)} {sh : List (Bool × Nat)} (n : Nat) {l : List (Nat × CInfo)} {g : Gl}
    (hm : P.follows .mixedOrders = true) (ht : tnAll P tl = true) (hΦ : PhiOk ⟨P, fun t => look t tl, fun f => lookC f l, n, g⟩) (hf : P.funcs[f]? = some fn) (an : An) (Raw : TyTup ats → Option (TyTup rts))
    (h0 : (fn.body.isSome && !(fn.name == "runtime.NumGoroutine") && Nat.beq n fn.ntmps && ksOk (plains m) ats && Nat.ble m fn.ntmps) = true)
    (he : ∀ x, evalP ⟨P, fun t => look t tl, fun f => lookC f l, n, g⟩ fn (fn.body.getD .skip) an (plains m) rts (encTup ats x) = Raw x) (hok : ∀ x r, bdTup ats x → F x = some r → Raw x = some r) :
    Contract P f (mkCI (plains m) ats rts F sh [] true) g := by
  simp only [Bool.and_eq_true, Bool.not_eq_true'] at h0
  obtain ⟨⟨⟨⟨h1, h2⟩, h3⟩, h4⟩, h5⟩ := h0
  obtain ⟨b, hb⟩ := Option.isSome_iff_exists.1 h1
  have hbd : fn.body.getD .skip = b := by rw [hb]; rfl
  exact evalP_ok (C := ⟨P, fun t => look t tl, fun f => lookC f l, n, g⟩) (tnOk_of hm ht _ _ _) hΦ hf hb h2 (Nat.eq_of_beq_eq_true h3) an m sh ats rts F h4 h5 fun x r hx hr => by
    have := he x
    rw [hbd] at this
    exact this.trans (hok x r hx hr)

end Go.D


/-
  Loops of the plain semantics come to what one round says.
-/
namespace Go.D

theorem loop_ind {σ R : Type} {f : σ → (σ → Option R) → Option R} {g : σ → Option R} {inv : σ → Prop} {μ : σ → Nat}
    (h : ∀ x, inv x → ∀ k : σ → Option R, (∀ y, inv y → μ y < μ x → k y = g y) → f x k = g x) : ∀ (n : Nat) (x : σ), inv x → μ x < n → loopK n f x = g x
  | 0, x, _, hn => by omega
  | n + 1, x, hx, hn => h x hx (loopK n f) fun y hy hlt => loop_ind h n y hy (by omega)

theorem loop_FU {σ R : Type} {f : σ → (σ → Option R) → Option R} {g : σ → Option R} (inv : σ → Prop) (μ : σ → Nat)
    (h : ∀ x, inv x → ∀ k : σ → Option R, (∀ y, inv y → μ y < μ x → k y = g y) → f x k = g x) {x : σ} (hx : inv x) (hμ : μ x < 2 ^ 64) : loopK FU f x = g x := by
  rw [FU_eq]; exact loop_ind h _ x hx hμ

theorem wrap_i64 {n : Int} (h1 : -9223372036854775808 ≤ n) (h2 : n ≤ 9223372036854775807) : IntKind.wrap .i64 n = n := by
  simp only [IntKind.wrap]
  first
    | (simp [IntKind.bits, IntKind.signed]; omega)
    | (unfold IntKind.bits; simp; omega)

theorem iadd_nat (i : Nat) (h : i < maxLen) : IntKind.wrap .i64 ((i : Int) + 1) = ((i + 1 : Nat) : Int) := by
  unfold maxLen at h
  rw [wrap_i64 (by omega) (by omega)]; omega

theorem idxI_nat {α : Type} (l : List α) (i : Nat) : idxI l (i : Int) = l[i]? := by simp [idxI]
theorem idxI_get {α : Type} {l : List α} {i : Nat} (h : i < l.length) : idxI l (i : Int) = some l[i] := by rw [idxI_nat, List.getElem?_eq_getElem h]
theorem bind_some' {α β : Type} (a : α) (f : α → Option β) : Option.bind (some a) f = f a := rfl

theorem bdx_fits {t : TN} {x : El t} {k : IntKind} {n : Int} (h : bdx t x) (j : Nat) (hj : j < sz t) (he : (enc t x).getD j .undef = .int k n) : Fits k n := (he ▸ h j hj).fits

theorem fits_i64 {n : Int} (h : Fits .i64 n) : -9223372036854775808 ≤ n ∧ n ≤ 9223372036854775807 := by
  obtain ⟨h1, h2⟩ := h
  simp [IntKind.min, IntKind.max, IntKind.signed, IntKind.bits] at h1 h2
  omega

end Go.D

/-
  What the laws' own functions compute: sizes, copies, equality.
-/
namespace Go.D

/-- An answer under a condition. -/
noncomputable def pt {α : Type} (p : Prop) (x : α) : Option α := @ite _ p (Classical.propDecidable p) (some x) none
theorem pt_some {α : Type} {p : Prop} {x : α} (h : p) : pt p x = some x := if_pos h
theorem pt_inv {α : Type} {p : Prop} {x r : α} (h : pt p x = some r) : p ∧ x = r := by
  unfold pt at h
  split at h
  · cases h; exact ⟨‹p›, rfl⟩
  · cases h
theorem pt_ok {α : Type} {p : Prop} {x r : α} {o : Option α} (h : p → o = some x) (hp : pt p x = some r) : o = some r := by
  obtain ⟨h1, rfl⟩ := pt_inv hp
  exact h h1
theorem pt_bind {α β : Type} {p : Prop} {x : α} {f : α → Option β} (h : p) : Option.bind (pt p x) f = f x := by rw [pt_some h]; rfl
/-! ### Sizes -/

class Wt (α : Type) where
  of : α → Nat
def wt {α : Type} [Wt α] (x : α) : Nat := Wt.of x
instance : Wt UInt8 := ⟨fun _ => 0⟩
instance : Wt Int := ⟨fun _ => 0⟩
instance : Wt Bool := ⟨fun _ => 0⟩
def wtl {α : Type} [Wt α] : List α → Nat
  | [] => 0
  | x :: l => wt x + wtl l + 1
instance {α : Type} [Wt α] : Wt (List α) := ⟨wtl⟩
/-! ### Copies -/

/-! ### Equality -/

/-! ### Some index below n -/

end Go.D

/-
  More about loops over lists and about truth values.
-/
namespace Go.D

theorem LIM_is : LIM = 68719476736 := rfl
theorem maxLen_is : maxLen = 9223372036854775807 := rfl
end Go.D

/-
  Functions of Go's library on plain data: what the kit's shelf says of them, as a contract.
-/
namespace Go.D

theorem thawL_nilO : ∀ (base p : Nat) (rs : List V), thawL [] base p rs = rs
  | base, p, [] => rfl
  | base, p, v :: vs => by cases v <;> simp [thawL, thawL_nilO]

theorem thawH_nilO : ∀ (base : Nat) (h : Nat → Option Row) (p : Nat) (rs : List V), thawH [] base h p rs = h
  | base, h, p, [] => rfl
  | base, h, p, v :: vs => by cases v <;> simp [thawH, thawH_nilO]

theorem putBoxes_plains : ∀ (m : Nat) (as : List V) (bs : List Nat) (vs : List V) (h : Nat → Option Row), putBoxes (plains m) as bs vs h = h
  | 0, as, bs, vs, h => by cases as <;> rfl
  | m + 1, [], bs, vs, h => rfl
  | m + 1, a :: as, bs, vs, h => putBoxes_plains m as bs vs h

theorem boxOf_plains : ∀ (m k : Nat) (bs : List Nat) (q : Nat), boxOf (plains m) k bs q = none
  | 0, k, bs, q => rfl
  | m + 1, k, bs, q => boxOf_plains m (k + 1) bs q

/-- A function whose arguments and results are scalars, and that leaves what was there as it was. -/
theorem ctr_plain {P : Program} {f : Nat} (ci : CInfo) (g : Gl) (m : Nat) (hk : ci.ks = plains m) (ho : ci.own = []) (hp : ci.pb = false) (hD : ∀ as a, ci.dA as = some a → as.length = m)
    (h : ∀ (w : World) (args : Array Value) (as : List V) (a : ci.A) (r : ci.R) (ρ : Nat → Option RI) (bad : Nat → Prop), args.size = m → as.length = m →
      (∀ j (hj : j < as.length), VR w ρ bad (args.getD j undef) as[j]) → ci.dA as = some a → ci.F a = some r → g.p w →
      Gives P f args w fun v w' => Wx w w' ∧ (∀ b, b < w.heap.size → w'.heap[b]? = w.heap[b]?) ∧ ∀ ρ' bad', VR w' ρ' bad' v (pack ci.shape (ci.eR r))) : Contract P f ci g := by
  intro w args as outer own ρ a r base bs hs hl hh hv hn hnd hbs hd hF hlen hg
  rw [hk] at hs hl hv hh hn
  have hlen' : as.length = m := hD as a hd
  obtain ⟨e1, e2⟩ := entS_plain m 0 as hlen'
  rw [e1] at hv
  rw [e2] at hh hv
  have key := h w args as a r ρ _ (by simpa [plains] using hs) hlen' hv hd hF hg.p
  have post : ∀ v w', (Wx w w' ∧ (∀ b, b < w.heap.size → w'.heap[b]? = w.heap[b]?) ∧ ∀ ρ' bad', VR w' ρ' bad' v (pack ci.shape (ci.eR r))) →
      ∃ ρ', HRel w outer own ρ' (exX ci as bs base (ci.eR r)) w' ∧
      VR w' ρ' (Bad outer ρ' (exX ci as bs base (ci.eR r))) v (resX ci base (ci.eR r)) ∧
      (∀ q b, boxOf ci.ks 0 bs q = some b → ρ' b = ρ q) ∧ (∀ r, ρ' r ≠ none → (base ≤ r ∧ r < base + 128) ∨ r ∈ bs) := by
    intro v w' ⟨h1, h2, h3⟩
    have hx : exX ci as bs base (ci.eR r) = fun _ => none := by
      unfold exX exH
      rw [hp, hk, ho, cond_false, thawH_nilO, putBoxes_plains]
    refine ⟨fun _ => none, ?_, ?_, ?_, ?_⟩
    · rw [hx]
      exact ⟨h1, fun b hb _ => h2 b hb, hh.outLt, fun r row hr => (by cases hr), fun q q' row row' qi qi' hq => (by cases hq)⟩
    · unfold resX
      rw [hp, ho, thawL_nilO, cond_false]
      exact h3 _ _
    · rw [hk]; intro q b hq; rw [boxOf_plains] at hq; cases hq
    · intro r hr; exact absurd rfl hr
  rcases key with ⟨h1, h2⟩ | ⟨v, w', h1, h2⟩
  · exact .inl ⟨h1, Calls.mono' h2 fun e w' ⟨v, he, hq⟩ => ⟨v, he, post v w' hq⟩⟩
  · exact .inr ⟨v, w', h1, post v w' h2⟩

end Go.D
