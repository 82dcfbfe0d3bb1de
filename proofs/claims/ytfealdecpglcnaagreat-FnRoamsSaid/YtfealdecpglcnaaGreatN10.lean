/-
 Sizes of the program's data.
-/
import Derived.Test.YtfealdecpglcnaaGreatN8g
set_option linter.all false
namespace Go.D
end Go.D
namespace Go.D
end Go.D
namespace Go.D
end Go.D
namespace Go.D
end Go.D
namespace Go.D
end Go.D
namespace Go.D
end Go.D
