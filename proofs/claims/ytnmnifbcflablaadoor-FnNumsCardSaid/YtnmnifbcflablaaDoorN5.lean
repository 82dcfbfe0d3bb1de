/-
  Sizes of the program's data.
-/
import Derived.Test.YtnmnifbcflablaaDoorN4
namespace Go.D


end Go.D


/-
  Whether a client may move.
-/
namespace Go.D

end Go.D

/-
  What the functions compute, as the plain semantics says it.
-/
namespace Go.D

end Go.D

/-
  What the laws' own functions compute.
-/
namespace Go.D


end Go.D

/-
  Whether a client may move: each function computes what is said of it.
-/
namespace Go.D

end Go.D
