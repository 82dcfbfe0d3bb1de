/-
  Sizes of the program's data.
-/
import Derived.Test.YtnmnifbcflablaaDoorN3
namespace Go.D


end Go.D


/-
  Which notes fit those ahead of them.
-/
namespace Go.D

end Go.D

/-
  What the functions compute, as the plain semantics says it.
-/
namespace Go.D

end Go.D

/-
  What the laws' own functions compute.
-/
namespace Go.D


end Go.D

/-
  Which notes fit those ahead of them: each function computes what is said of it.
-/
namespace Go.D

/-! ### Counting -/

/-! ### What is asked of one note -/

/-! ### What is asked of all -/

end Go.D

/-
  The reference's Fits.
-/
namespace Go.D

/-! ### Serve -/

/-! ### A mark and what may not be -/

/-! ### Moves -/

end Go.D

/-
  The reference's Fits, kind by kind.
-/
namespace Go.D

end Go.D
