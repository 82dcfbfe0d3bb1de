/-
 Sizes of the program's data.
-/
import Derived.Test.YtkpkommmdacjlaaGreatN8g
set_option linter.all false
namespace Go.D
end Go.D
namespace Go.D
end Go.D
namespace Go.D
end Go.D
namespace Go.D
end Go.D
namespace Go.D
end Go.D
namespace Go.D
end Go.D
