/-
  Sizes of the program's data.
-/
import Derived.Test.YtilkenfgjljknaaBoil
namespace Go.D

instance : Wt G.Addr := ⟨fun _ => 0⟩
theorem wt_Addr (x : G.Addr) : wt x = 0 := rfl
instance : Wt G.Op := ⟨fun x => wt x.B⟩
theorem wt_Op (x : G.Op) : wt x = wt x.B := rfl
instance : Wt G.Event := ⟨fun x => wt x.B + wt x.Ops⟩
theorem wt_Event (x : G.Event) : wt x = wt x.B + wt x.Ops := rfl
instance : Wt G.Note := ⟨fun x => wt x.Cn + wt x.Sn + wt x.Body + wt x.Key + wt x.A⟩
theorem wt_Note (x : G.Note) : wt x = wt x.Cn + wt x.Sn + wt x.Body + wt x.Key + wt x.A := rfl

end Go.D
