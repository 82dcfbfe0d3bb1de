/-
 Sizes of the program's data.
-/
import Derived.Test.YtkpkommmdacjlaaGreatN4
set_option linter.all false
namespace Go.D
end Go.D
namespace Go.D
noncomputable def iM(c:Aj):Option Aj:=pt (wt c≤nA) c
end Go.D
namespace Go.D
noncomputable def Gg(a0:Aj):=
 cond (decide (([]:List UInt8).length+a0.Draw.length≤nA)) (some (⟨a0.A,[]++a0.Draw,a0.Until⟩:Aj)) none
end Go.D
namespace Go.D
end Go.D
namespace Go.D
def nS{a:Nat}(h:a≤nA):decide (([]:List UInt8).length+a≤nA)=true:=decide_eq_true (by simpa using h)
def yL.ok{x}(_:rA [.v .Cand] x){r}:iM x=some r→Gg x=some r:=CA λh=>by
 have h:wt (show Aj from x)≤nA:=h;rw[uG]at h;have h2:=jB (show Aj from x).Draw;show(cond (decide (([]:List UInt8).length+(show Aj from x).Draw.length≤nA)) _ _)=_
 rw[nS (by omega)];rfl
end Go.D
