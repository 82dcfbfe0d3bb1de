/-
  Sizes of the program's data.
-/
import Derived.Test.YtnmnifbcflablaaDoorL8
namespace Go.D

instance : Wt G.Addr := ⟨fun _ => 0⟩
instance : Wt G.Op := ⟨fun x => wt x.B⟩
instance : Wt G.Event := ⟨fun x => wt x.B + wt x.Ops⟩
instance : Wt G.Note := ⟨fun x => wt x.Cn + wt x.Sn + wt x.Body + wt x.Key + wt x.A⟩
end Go.D


/-
  What the functions compute, in plain words.
-/
namespace Go.D

def always {α : Type} (_ : α) : Bool := true
end Go.D

/-
  What the functions compute, as the plain semantics says it.
-/
namespace Go.D

end Go.D

/-
  What the laws' own functions compute.
-/
namespace Go.D

end Go.D

/-
  Each function computes what is said of it.
-/
namespace Go.D

/-! ### Events -/

/-! ### Bytes -/

/-! ### Shown -/

/-! ### Rolled -/

/-! ### KeyTwice -/

/-! ### Forged -/

/-! ### Lucky -/

/-! ### LuckyAt -/

end Go.D
