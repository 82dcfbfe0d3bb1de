/-
  Sizes of the program's data.
-/
import Derived.Test.YtccebfbadijmcaaGreatN4
namespace Go.D


end Go.D


/-
  Whether a client may move.
-/
namespace Go.D

end Go.D

/-
  What the functions compute, as the plain semantics says it.
-/
namespace Go.D

end Go.D

/-
  What the laws' own functions compute.
-/
namespace Go.D


end Go.D

/-
  Whether a client may move: each function computes what is said of it.
-/
namespace Go.D

theorem ble_LIM {a : Nat} (h : a ≤ LIM) : decide (([] : List UInt8).length + a ≤ LIM) = true := decide_eq_true (by simpa using h)
end Go.D
