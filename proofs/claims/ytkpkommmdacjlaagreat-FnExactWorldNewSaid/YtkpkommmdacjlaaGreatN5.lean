/-
 Sizes of the program's data.
-/
import Derived.Test.YtkpkommmdacjlaaGreatN4
set_option linter.all false
namespace Go.D
end Go.D
namespace Go.D
end Go.D
namespace Go.D
end Go.D
namespace Go.D
end Go.D
namespace Go.D
def xL{a:Nat}(h:a≤eA):decide (([]:List UInt8).length+a≤eA)=true:=decide_eq_true (by simpa using h)
end Go.D
