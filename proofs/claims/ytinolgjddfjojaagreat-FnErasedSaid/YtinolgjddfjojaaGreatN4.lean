/-
  Sizes of the program's data.
-/
import Derived.Test.YtinolgjddfjojaaGreatN3
namespace Go.D
end Go.D
namespace Go.D
end Go.D
namespace Go.D
end Go.D
namespace Go.D
end Go.D
namespace Go.D
end Go.D
namespace Go.D
end Go.D
namespace Go.D
end Go.D
