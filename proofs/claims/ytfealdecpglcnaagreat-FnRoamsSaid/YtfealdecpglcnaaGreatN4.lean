/-
 Sizes of the program's data.
-/
import Derived.Test.YtfealdecpglcnaaGreatN3
set_option linter.all false
namespace Go.D
end Go.D
namespace Go.D
def cnt(p:Ad→Bool)(l:List Ad):Nat:=(l.filter λm=>gC m&&p m).length
end Go.D
namespace Go.D
end Go.D
namespace Go.D
end Go.D
namespace Go.D
end Go.D
namespace Go.D
end Go.D
namespace Go.D
end Go.D
