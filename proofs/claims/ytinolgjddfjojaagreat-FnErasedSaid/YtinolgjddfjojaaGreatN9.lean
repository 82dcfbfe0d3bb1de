/-
  Sizes of the program's data.
-/
import Derived.Test.YtinolgjddfjojaaGreatN7
import Derived.Lib.AtoiAll
import Derived.Lib.ItoaLen
namespace Go.D
end Go.D
namespace Go.D
end Go.D
namespace Go.D
noncomputable def spec_l1Once.raw (a0:G.Cur) (a1:Int):Option (Bool × G.Cur):=
  Option.bind (spec_l1Below.raw a0 a1) fun r1=>
  some (r1.1==0,r1.2)
end Go.D
namespace Go.D
end Go.D
namespace Go.D
open Go.Lib
end Go.D
namespace Go.D
open Go.Lib
theorem once_tot {c:G.Cur} {n:Int} (h:CurOk c):Ok (spec_l1Once.raw c n) fun r=>CurOk r.2:=by
  unfold spec_l1Once.raw
  exact (below_tot h).bind fun r hr=> .some' hr.2.2.2
end Go.D
