/-
  Sizes of the program's data.
-/
import Derived.Test.YtnmnifbcflablaaDoorN1
namespace Go.D

instance : Wt G.Win := ⟨fun x => wt x.Bits⟩
instance : Wt G.Ep := ⟨fun x => wt x.Key + wt x.Win⟩
instance : Wt G.Chan := ⟨fun x => wt x.Sn + wt x.Cur + wt x.Old + wt x.Next⟩
end Go.D


/-
  Windows, epochs, channels: what their predicates say.
-/
namespace Go.D

end Go.D

/-
  What the functions compute, as the plain semantics says it.
-/
namespace Go.D

end Go.D

/-
  What the laws' own functions compute.
-/
namespace Go.D

end Go.D

/-
  Windows, epochs, channels: each function computes what is said of it.
-/
namespace Go.D

/-! ### Windows -/

/-! ### Channels -/

/-! ### Erased -/

end Go.D
