/-
 Sizes of the program's data.
-/
import Derived.Test.YtkpkommmdacjlaaGreatN7
import Derived.Lib.AtoiAll
import Derived.Lib.ItoaLen
set_option linter.all false
namespace Go.D
end Go.D
namespace Go.D
end Go.D
namespace Go.D
end Go.D
namespace Go.D
end Go.D
namespace Go.D
open Go.Lib
end Go.D
namespace Go.D
open Go.Lib
end Go.D
