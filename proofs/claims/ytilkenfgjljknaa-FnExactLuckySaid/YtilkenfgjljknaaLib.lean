/-
  Short names for what the plain semantics computes with numbers.
-/
import Derived.Test.YtilkenfgjljknaaRow
namespace Go.D
def lookC (k : Nat) : List (Nat × CInfo) → Option CInfo
  | [] => none
  | (j, x) :: r => bif Nat.beq j k then some x else lookC k r
@[reducible] def iadd (k : IntKind) (a b : Int) : Int := k.wrap (a + b)
@[reducible] def isub (k : IntKind) (a b : Int) : Int := k.wrap (a - b)
@[reducible] def imul (k : IntKind) (a b : Int) : Int := k.wrap (a * b)
def iand (k : IntKind) (a b : Int) : Int := k.wrap (BitVec.ofInt k.bits a &&& BitVec.ofInt k.bits b).toNat
def ior (k : IntKind) (a b : Int) : Int := k.wrap (BitVec.ofInt k.bits a ||| BitVec.ofInt k.bits b).toNat
def ixor (k : IntKind) (a b : Int) : Int := k.wrap (BitVec.ofInt k.bits a ^^^ BitVec.ofInt k.bits b).toNat
def iandNot (k : IntKind) (a b : Int) : Int := k.wrap (BitVec.ofInt k.bits a &&& ~~~ BitVec.ofInt k.bits b).toNat
def ishl (k : IntKind) (a b : Int) : Int := k.wrap (a * 2 ^ (min b.toNat k.bits))
def ishr (k : IntKind) (a b : Int) : Int := a.fdiv (2 ^ (min b.toNat k.bits))
def iquo (k : IntKind) (a b : Int) : Int := k.wrap (a.tdiv b)
def irem (_ : IntKind) (a b : Int) : Int := a.tmod b
def imin (a b : Int) : Int := if b < a then b else a
def imax (a b : Int) : Int := if b > a then b else a

/-! ### The tables of a program -/

def tnAll1 (P : Program) (p : TypeId × TN) : Bool := match P.info? p.1 with
  | some i => Nat.beq i.size (sz p.2) && Nat.ble i.bytes 1024 && (match i.zero with
    | some z => Nat.beq z.cells.size (sz p.2)
    | none => false)
  | none => false
def tnAll (P : Program) (l : List (TypeId × TN)) : Bool := l.all (tnAll1 P)

theorem look_mem {α : Type} {k : Nat} {x : α} : ∀ {l : List (Nat × α)}, look k l = some x → (k, x) ∈ l
  | [], h => by simp [look] at h
  | (j, y) :: r, h => by
    simp only [look] at h
    cases hb : Nat.beq j k
    · simp only [hb, cond_false] at h; exact List.mem_cons_of_mem _ (look_mem h)
    · simp only [hb, cond_true, Option.some.injEq] at h
      have := Nat.eq_of_beq_eq_true hb
      subst this h; simp

theorem tnOk_of {P : Program} {l : List (TypeId × TN)} (hm : P.follows .mixedOrders = true) (h : tnAll P l = true) (Φ : Nat → Option CInfo) (n : Nat) : TnOk ⟨P, fun t => look t l, Φ, n⟩ := by
  refine ⟨hm, fun e t he => ?_⟩
  have h1 := List.all_eq_true.1 h _ (look_mem he)
  simp only [tnAll1] at h1
  split at h1
  case h_2 => cases h1
  rename_i i hi
  simp only [Bool.and_eq_true] at h1
  obtain ⟨⟨h2, h3⟩, h4⟩ := h1
  split at h4
  case h_2 => cases h4
  rename_i z hz
  exact ⟨i, z, hi, Nat.eq_of_beq_eq_true h2, Nat.le_of_ble_eq_true h3, hz, Nat.eq_of_beq_eq_true h4⟩

theorem phi_nil {P : Program} {tn : TypeId → Option TN} {n : Nat} : PhiOk ⟨P, tn, fun f => lookC f [], n⟩ := ⟨fun _ _ h => by cases h⟩
theorem phi_cons {P : Program} {tn : TypeId → Option TN} {n g : Nat} {ci : CInfo} {l : List (Nat × CInfo)} (h : Contract P g ci) (k : PhiOk ⟨P, tn, fun f => lookC f l, n⟩) : PhiOk ⟨P, tn, fun f => lookC f ((g, ci) :: l), n⟩ := ⟨fun f c hf => by
  simp only [lookC] at hf
  cases hb : Nat.beq g f
  · simp only [hb, cond_false] at hf; exact k.ok f c hf
  · simp only [hb, cond_true, Option.some.injEq] at hf
    have := Nat.eq_of_beq_eq_true hb
    subst this hf; exact h⟩

theorem kindsOk_of {P : Program} {l : List (TypeId × TN)} {D : Nat} (h : (l.all fun p => decide (kindsT P (fun t => look t l) D p.1 = some (lk p.2)) && Nat.beq (P.cellsOf p.1) (sz p.2)) = true) : KindsOk P (fun t => look t l) D := ⟨fun e t he => by
  have h1 := List.all_eq_true.1 h _ (look_mem he)
  simp only [Bool.and_eq_true, decide_eq_true_eq] at h1
  exact ⟨h1.1, Nat.eq_of_beq_eq_true h1.2⟩⟩

end Go.D
