/-
 The reference's machine comes to an end, and what it gives is small.
-/
import Derived.Test.YtkpkommmdacjlaaGreatN8
set_option linter.all false
namespace Go.D
end Go.D
namespace Go.D
end Go.D
namespace Go.D
end Go.D
namespace Go.D
end Go.D
namespace Go.D
end Go.D
