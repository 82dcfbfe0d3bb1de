/-
  What the functions compute, in plain words.
-/
import Derived.Test.YtjbdhhdfmfaheaaLoop
namespace Go.D

/-- Equality, as the laws ask it. -/
noncomputable def eqq {α : Type} (a b : α) : Bool := @decide (a = b) (Classical.propDecidable _)
theorem eqq_true {α : Type} {a b : α} : eqq a b = true ↔ a = b := by simp [eqq]
theorem eqq_self {α : Type} (a : α) : eqq a a = true := eqq_true.2 rfl
theorem eqq_false {α : Type} {a b : α} : eqq a b = false ↔ a ≠ b := by simp [eqq]

def same {α : Type} (a : α) : α := a
/-- A copy, where there is room for it. -/
def small {α : Type} (l : List α) : Option (List α) := if l.length ≤ LIM then some l else none

def inR (n lo hi : Int) : Bool := decide (n ≥ lo) && decide (n ≤ hi)

def stName (n : Int) : List UInt8 :=
  if n = 0 then [105, 100, 108, 101] else if n = 1 then [105, 110, 105, 116] else if n = 2 then [102, 105, 110, 105, 115, 104] else if n = 3 then [117, 112] else []
def near (i : Int) : G.Addr := if 0 ≤ i ∧ i ≤ 255 then ⟨167772160 + i, 7000 + i⟩ else ⟨0, 0⟩
def hub : G.Addr := near 0
def szList {α : Type} (l : List α) (left : Int) : Int := if IntKind.wrap .i64 (left - l.length) < 0 then -1 else IntKind.wrap .i64 (left - l.length)
def addrOk (a : G.Addr) : Bool := inR a.Host 0 4294967295 && inR a.Port 0 65535
def sameA (a b : G.Addr) : Bool := a.Host == b.Host && a.Port == b.Port

/-- The place of the first credit of an address. -/
def cAtG (a : G.Addr) : List G.Credit → Int → Int
  | [], _ => -1
  | c :: l, i => bif sameA c.A a then i else cAtG a l (i + 1)
def cAt (l : List G.Credit) (a : G.Addr) : Int := cAtG a l 0

def creditOk (c : G.Credit) : Bool := addrOk c.A && inR c.Got 0 1000000 && inR c.Sent 0 (3 * c.Got)
def creditsOkG : List G.Credit → List G.Credit → Bool
  | _, [] => true
  | p, c :: l => creditOk c && !(p.any fun d => sameA d.A c.A) && creditsOkG (p ++ [c]) l
def creditsOk (l : List G.Credit) : Bool := decide (l.length ≤ 8) && creditsOkG [] l
def creditFor (l : List G.Credit) (a : G.Addr) : Bool :=
  bif creditsOk l then (bif decide (cAt l a < 0) then decide (l.length ≤ 6) else match l[(cAt l a).toNat]? with | some c => decide (c.Got ≤ 999000) | none => false) else false

def always (_ : Int) : Bool := true
def always0 : Bool := true
def always2 (_ : List G.Credit) (_ : G.Addr) : Bool := true

end Go.D
