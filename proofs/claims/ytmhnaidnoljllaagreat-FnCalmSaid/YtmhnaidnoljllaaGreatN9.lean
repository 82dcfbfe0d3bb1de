/-
 Sizes of the program's data.
-/
import Derived.Test.YtmhnaidnoljllaaGreatN7
import Derived.Lib.AtoiAll
import Derived.Lib.ItoaLen
set_option linter.all false
namespace Go.D
end Go.D
namespace Go.D
end Go.D
namespace Go.D
noncomputable def Cp(a0:Ar)(a1:Int):Option (Bool×Ar):=
 Option.bind (Ay a0 a1) λr1=>
 some (r1.1==0,r1.2)
end Go.D
namespace Go.D
end Go.D
namespace Go.D
open Go.Lib
end Go.D
namespace Go.D
open Go.Lib
def zs5{c:Ar}{n:Int}(h:nB c):Ok (Cp c n) λr=>nB r.2:=by
 unfold Cp;exact(zeS h).bind λr hr=> .some' hr.2.2.2
end Go.D
