/-
 Sizes of the program's data.
-/
import Derived.Test.YthmhafeaiaigoaaGreatL8
set_option linter.all false
namespace Go.D
instance:Wt Ai:=⟨λ_=>0⟩
def NE(x:Ai):wt x=0:=rfl
instance:Wt Bc:=⟨λx=>wt x.B⟩
def zxx(x:Bc):wt x=wt x.B:=rfl
instance:Wt Am:=⟨λx=>wt x.B+wt x.Ops⟩
def zuY(x:Am):wt x=wt x.B+wt x.Ops:=rfl
instance:Wt Ad:=⟨λx=>wt x.Cn+wt x.Sn+wt x.Body+wt x.Key+wt x.A⟩
def eJ(x:Ad):wt x=wt x.Cn+wt x.Sn+wt x.Body+wt x.Key+wt x.A:=rfl
end Go.D
namespace Go.D
def eA(n lo hi:Int):Bool:=decide (n≥lo)&&decide (n≤hi)
def zmu{α:Type}(_:α):Bool:=true
def fF(e:Am):Bool:=eA e.Kind 1 17&&eA e.I 0 10000&&eA e.J 0 10000&&eA e.N 0 10000&&decide ((e.B.length:Int)≤200)&&decide ((e.Ops.length:Int)≤16)
noncomputable def EB(a b:List UInt8):Option Bool:=pt (wt a≤bA∧wt b≤bA) (a==b)
end Go.D
namespace Go.D
noncomputable section
def Qs(a0:Int)(a1:Int)(a2:Int):=
 aA (λ(y1:Bool)=>
 some y1) λk2=>
 cond (decide (a0≥a1))
 (k2 (decide (a0≤a2)))
 (k2 false)
def Qt(a0:Am):=
 aA (λ(y1:Bool)=>
 some y1) λk2=>
 cond ((eA a0.Kind 1 17))
 (cond ((eA a0.I 0 10000))
 (cond ((eA a0.J 0 10000))
 (cond ((eA a0.N 0 10000))
 (cond (decide ((a0.B.length:Int)≤200))
 (k2 (decide ((a0.Ops.length:Int)≤16)))
 (k2 false))
 (k2 false))
 (k2 false))
 (k2 false))
 (k2 false)
def Qu(a0:Int)(a1:Int)(a2:Int):=
 aA (λ(y1:Bool)=>
 some y1) λk2=>
 cond (decide (a0≥a1))
 (k2 (decide (a0≤a2)))
 (k2 false)
def Qv(a0:Am):=
 aA (λ(y1:Bool)=>
 some y1) λk2=>
 cond ((eA a0.Kind 1 17))
 (cond ((eA a0.I 0 10000))
 (cond ((eA a0.J 0 10000))
 (cond ((eA a0.N 0 10000))
 (cond (decide ((a0.B.length:Int)≤200))
 (k2 (decide ((a0.Ops.length:Int)≤16)))
 (k2 false))
 (k2 false))
 (k2 false))
 (k2 false))
 (k2 false)
def Qw(a0:List UInt8)(a1:List UInt8):=
 cond (Nat.ble a0.length bA) (cond (Nat.ble a1.length bA) (some (a0==a1)) none) none
def Qx(a0:List UInt8)(a1:List UInt8):=
 cond (Nat.ble a0.length bA) (cond (Nat.ble a1.length bA) (some (a0==a1)) none) none
end
end Go.D
namespace Go.D
end Go.D
namespace Go.D
def zlK(a b c:Int):aA (R:=Bool) (λ(y:Bool)=>some y) (λk=>cond (decide (a≥b)) (k (decide (a≤c))) (k false))=some (eA a b c):=by
 simp only[aA,eA];cases decide (a≥b)<;>rfl
def zb0.ok{x}(_:xA [.v .int, .v .int, .v .int] x):Qu x.1 x.2.1 x.2.2=some (eA x.1 x.2.1 x.2.2):=zlK _ _ _
def zcW.ok{x}(_:xA [.v .int, .v .int, .v .int] x):Qs x.1 x.2.1 x.2.2=some (eA x.1 x.2.1 x.2.2):=zlK _ _ _
def BD{n i:Nat}(h:i<n):decide ((i:Int)<(n:Int))=true:=by simp;exact h
def XD{n:Nat}:decide ((n:Int)<(n:Int))=false:=by simp
def zxn{n i:Nat}(h:i≤n):(decide (0≤(0:Int))&&decide ((0:Int)≤(i:Int))&&decide ((i:Int)≤(n:Int)))=true:=by simp;exact h
def zxp{α:Type}(l:List α)(i:Nat):List.take (((i:Int) - 0).toNat) (List.drop 0 l)=l.take i:=by simp
def zjG(e:Am):aA (R:=Bool) (λ(y:Bool)=>some y) (λk=>cond (eA e.Kind 1 17) (cond (eA e.I 0 10000) (cond (eA e.J 0 10000) (cond (eA e.N 0 10000) (cond (decide ((e.B.length:Int)≤200))
  (k (decide ((e.Ops.length:Int)≤16))) (k false)) (k false)) (k false)) (k false)) (k false))=some (fF e):=by
 simp only[aA,fF];cases eA e.Kind 1 17<;>cases eA e.I 0 10000<;>cases eA e.J 0 10000<;>cases eA e.N 0 10000<;>cases decide ((e.B.length:Int)≤200)<;>rfl
def zbk.ok{x}(_:xA [.v .Event] x):Qt x=some (fF x):=zjG x
def zba.ok{x}(_:xA [.v .Event] x):Qv x=some (fF x):=zjG x
def zmE{n m:Nat}(h:n≤m):Nat.ble n m=true:=Nat.ble_eq_true_of_le h
def zkX(a b:List UInt8){r:Bool}:EB a b=some r→(cond (Nat.ble a.length bA) (cond (Nat.ble b.length bA) (some (a==b)) none) none)=some r:=
 TA λh=>by
  rw[zmE (by rw[←FA];exact h.1),zmE (by rw[←FA];exact h.2)];rfl
def zb4.ok{x}(_:xA [.sl .byte, .sl .byte] x){r}:EB x.1 x.2=some r→Qx x.1 x.2=some r:=zkX x.1 x.2
def zbU.ok{x}(_:xA [.sl .byte, .sl .byte] x){r}:EB x.1 x.2=some r→Qw x.1 x.2=some r:=zkX x.1 x.2
end Go.D
