/-
 Sizes of the program's data.
-/
import Derived.Test.YtdmiplkjdpcbeaaGreatN7
import Derived.Lib.AtoiAll
import Derived.Lib.ItoaLen
namespace Go.D
end Go.D
namespace Go.D
end Go.D
namespace Go.D
noncomputable def nC.raw (a0:G.Cur) (a1:Int):Option (Bool × G.Cur):=
 Option.bind (BA.raw a0 a1) fun r1=>
 some (r1.1==0,r1.2)
noncomputable def mU.raw (a0:G.Cur):Option (Int × G.Cur):=
 let x1:List Int:=[(-1),0,1,2,255,256,65535,2147483647,2147483648,4294967295,4294967296,(-2147483648),9223372036854775807,(-9223372036854775808)]
 Option.bind (OA.raw a0 x1) fun r2=>
 some (r2.1,r2.2)
end Go.D
namespace Go.D
end Go.D
namespace Go.D
open Go.Lib
end Go.D
namespace Go.D
open Go.Lib
theorem zr0 {c:G.Cur} {n:Int} (h:jA c):Ok (nC.raw c n) fun r=>jA r.2:=by
 unfold nC.raw
 exact (vV h).bind fun r hr=> .some' hr.2.2.2
end Go.D
