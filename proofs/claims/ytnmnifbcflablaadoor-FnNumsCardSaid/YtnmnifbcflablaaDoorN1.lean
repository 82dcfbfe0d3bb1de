/-
  Sizes of the program's data.
-/
import Derived.Test.YtnmnifbcflablaaDoorL8
namespace Go.D

instance : Wt G.Addr := ⟨fun _ => 0⟩
instance : Wt G.Op := ⟨fun x => wt x.B⟩
instance : Wt G.Event := ⟨fun x => wt x.B + wt x.Ops⟩
instance : Wt G.Note := ⟨fun x => wt x.Cn + wt x.Sn + wt x.Body + wt x.Key + wt x.A⟩
end Go.D


/-
  What the functions compute, in plain words.
-/
namespace Go.D

def inR (n lo hi : Int) : Bool := decide (n ≥ lo) && decide (n ≤ hi)
def always {α : Type} (_ : α) : Bool := true
end Go.D

/-
  What the functions compute, as the plain semantics says it.
-/
namespace Go.D

noncomputable def spec_l1In.raw (a0 : Int) (a1 : Int) (a2 : Int) : Option Bool :=
  joinK (fun (y1 : Bool) =>
  some y1) fun k2 =>
  cond (decide (a0 ≥ a1))
  (k2 (decide (a0 ≤ a2)))
  (k2 false)

noncomputable def impl_within.raw (a0 : Int) (a1 : Int) (a2 : Int) : Option Bool :=
  joinK (fun (y1 : Bool) =>
  some y1) fun k2 =>
  cond (decide (a0 ≥ a1))
  (k2 (decide (a0 ≤ a2)))
  (k2 false)

end Go.D

/-
  What the laws' own functions compute.
-/
namespace Go.D

end Go.D

/-
  Each function computes what is said of it.
-/
namespace Go.D

theorem inR_raw (a b c : Int) : joinK (R := Bool) (fun (y : Bool) => some y) (fun k => cond (decide (a ≥ b)) (k (decide (a ≤ c))) (k false)) = some (inR a b c) := by
  simp only [joinK, inR]
  cases decide (a ≥ b) <;> rfl
theorem impl_within.ok {x : TyTup [.v .int, .v .int, .v .int]} (_ : bdTup [.v .int, .v .int, .v .int] x) : impl_within.raw x.1 x.2.1 x.2.2 = some (inR x.1 x.2.1 x.2.2) := inR_raw _ _ _
theorem spec_l1In.ok {x : TyTup [.v .int, .v .int, .v .int]} (_ : bdTup [.v .int, .v .int, .v .int] x) : spec_l1In.raw x.1 x.2.1 x.2.2 = some (inR x.1 x.2.1 x.2.2) := inR_raw _ _ _

/-! ### Events -/

/-! ### Bytes -/

/-! ### Shown -/

/-! ### Rolled -/

/-! ### KeyTwice -/

/-! ### Forged -/

/-! ### Lucky -/

/-! ### LuckyAt -/

end Go.D
