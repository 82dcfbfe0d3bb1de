/-
 Sizes of the program's data.
-/
import Derived.Test.YtfealdecpglcnaaGreatN7
import Derived.Lib.AtoiAll
import Derived.Lib.ItoaLen
set_option linter.all false
namespace Go.D
end Go.D
namespace Go.D
end Go.D
namespace Go.D
noncomputable def Dc(a0:As)(a1:Int):Option (Bool×As):=
 Option.bind (Az a0 a1) λr1=>
 some (r1.1==0,r1.2)
end Go.D
namespace Go.D
end Go.D
namespace Go.D
open Go.Lib
end Go.D
namespace Go.D
open Go.Lib
def zuX{c:As}{n:Int}(h:zB c):Ok (Dc c n) λr=>zB r.2:=by
 unfold Dc;exact(zfN h).bind λr hr=> .some' hr.2.2.2
end Go.D
