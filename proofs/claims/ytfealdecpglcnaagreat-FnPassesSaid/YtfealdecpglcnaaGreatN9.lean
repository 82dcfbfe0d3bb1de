/-
 Sizes of the program's data.
-/
import Derived.Test.YtfealdecpglcnaaGreatN7
import Derived.Lib.AtoiAll
import Derived.Lib.ItoaLen
set_option linter.all false
namespace Go.D
end Go.D
namespace Go.D
end Go.D
namespace Go.D
noncomputable def Bb(a0:Af)(a1:Int):Option (Bool×Af):=
 Option.bind (Ar a0 a1) λr1=>
 some (r1.1==0,r1.2)
noncomputable def Im(a0:Af):Option (Int×Af):=
 let x1:List Int:=[(-1),0,1,2,255,256,65535,2147483647,2147483648,4294967295,4294967296,(-2147483648),9223372036854775807,(-9223372036854775808)]
 Option.bind (As a0 x1) λr2=>
 some (r2.1,r2.2)
end Go.D
namespace Go.D
end Go.D
namespace Go.D
open Go.Lib
end Go.D
namespace Go.D
open Go.Lib
def zuj{c:Af}{n:Int}(h:mA c):Ok (Bb c n) λr=>mA r.2:=by
 unfold Bb;exact(zfe h).bind λr hr=> .some' hr.2.2.2
end Go.D
