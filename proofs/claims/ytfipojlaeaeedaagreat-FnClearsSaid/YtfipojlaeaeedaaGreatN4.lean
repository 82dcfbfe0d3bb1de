/-
 Sizes of the program's data.
-/
import Derived.Test.YtfipojlaeaeedaaGreatN3
set_option linter.all false
namespace Go.D
end Go.D
namespace Go.D
end Go.D
namespace Go.D
end Go.D
namespace Go.D
end Go.D
namespace Go.D
end Go.D
namespace Go.D
end Go.D
namespace Go.D
end Go.D
