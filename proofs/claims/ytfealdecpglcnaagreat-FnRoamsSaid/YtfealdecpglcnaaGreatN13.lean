/-
 Sizes of the program's data.
-/
import Derived.Test.YtfealdecpglcnaaGreatA1
import Derived.Test.YtfealdecpglcnaaGreatN12
import Derived.Test.YtfealdecpglcnaaGreatN11
set_option linter.all false
namespace Go.D
end Go.D
namespace Go.D
end Go.D
namespace Go.D
end Go.D
namespace Go.D
end Go.D
