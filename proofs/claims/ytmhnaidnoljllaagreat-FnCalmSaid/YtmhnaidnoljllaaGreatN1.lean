/-
 Sizes of the program's data.
-/
import Derived.Test.YtmhnaidnoljllaaGreatL8
set_option linter.all false
namespace Go.D
instance:Wt Af:=⟨λ_=>0⟩
def zE(x:Af):wt x=0:=rfl
instance:Wt Az:=⟨λx=>wt x.B⟩
def zvm(x:Az):wt x=wt x.B:=rfl
instance:Wt Aj:=⟨λx=>wt x.B+wt x.Ops⟩
def zsB(x:Aj):wt x=wt x.B+wt x.Ops:=rfl
instance:Wt Ad:=⟨λx=>wt x.Cn+wt x.Sn+wt x.Body+wt x.Key+wt x.A⟩
def dK(x:Ad):wt x=wt x.Cn+wt x.Sn+wt x.Body+wt x.Key+wt x.A:=rfl
end Go.D
namespace Go.D
def eA(n lo hi:Int):Bool:=decide (n≥lo)&&decide (n≤hi)
def zkL{α:Type}(_:α):Bool:=true
def PF(e:Aj):Bool:=eA e.Kind 1 17&&eA e.I 0 10000&&eA e.J 0 10000&&eA e.N 0 10000&&decide ((e.B.length:Int)≤200)&&decide ((e.Ops.length:Int)≤16)
noncomputable def DB(a b:List UInt8):Option Bool:=pt (wt a≤bA∧wt b≤bA) (a==b)
end Go.D
namespace Go.D
noncomputable section
def Oe(a0:Int)(a1:Int)(a2:Int):=
 aA (λ(y1:Bool)=>
 some y1) λk2=>
 cond (decide (a0≥a1))
 (k2 (decide (a0≤a2)))
 (k2 false)
def Of(a0:Aj):=
 aA (λ(y1:Bool)=>
 some y1) λk2=>
 cond ((eA a0.Kind 1 17))
 (cond ((eA a0.I 0 10000))
 (cond ((eA a0.J 0 10000))
 (cond ((eA a0.N 0 10000))
 (cond (decide ((a0.B.length:Int)≤200))
 (k2 (decide ((a0.Ops.length:Int)≤16)))
 (k2 false))
 (k2 false))
 (k2 false))
 (k2 false))
 (k2 false)
def Og(a0:Int)(a1:Int)(a2:Int):=
 aA (λ(y1:Bool)=>
 some y1) λk2=>
 cond (decide (a0≥a1))
 (k2 (decide (a0≤a2)))
 (k2 false)
def Oh(a0:List UInt8)(a1:List UInt8):=
 cond (Nat.ble a0.length bA) (cond (Nat.ble a1.length bA) (some (a0==a1)) none) none
def Oi(a0:List UInt8)(a1:List UInt8):=
 cond (Nat.ble a0.length bA) (cond (Nat.ble a1.length bA) (some (a0==a1)) none) none
end
end Go.D
namespace Go.D
end Go.D
namespace Go.D
def zjZ(a b c:Int):aA (R:=Bool) (λ(y:Bool)=>some y) (λk=>cond (decide (a≥b)) (k (decide (a≤c))) (k false))=some (eA a b c):=by
 simp only[aA,eA];cases decide (a≥b)<;>rfl
def zaR.ok{x}(_:xA [.v .int, .v .int, .v .int] x):Og x.1 x.2.1 x.2.2=some (eA x.1 x.2.1 x.2.2):=zjZ _ _ _
def zbG.ok{x}(_:xA [.v .int, .v .int, .v .int] x):Oe x.1 x.2.1 x.2.2=some (eA x.1 x.2.1 x.2.2):=zjZ _ _ _
def lD{n i:Nat}(h:i<n):decide ((i:Int)<(n:Int))=true:=by simp;exact h
def ED{n:Nat}:decide ((n:Int)<(n:Int))=false:=by simp
def zvc{n i:Nat}(h:i≤n):(decide (0≤(0:Int))&&decide ((0:Int)≤(i:Int))&&decide ((i:Int)≤(n:Int)))=true:=by simp;exact h
def zve{α:Type}(l:List α)(i:Nat):List.take (((i:Int) - 0).toNat) (List.drop 0 l)=l.take i:=by simp
def zpJ(e:Aj):aA (R:=Bool) (λ(y:Bool)=>some y) (λk=>cond (eA e.Kind 1 17) (cond (eA e.I 0 10000) (cond (eA e.J 0 10000) (cond (eA e.N 0 10000) (cond (decide ((e.B.length:Int)≤200))
  (k (decide ((e.Ops.length:Int)≤16))) (k false)) (k false)) (k false)) (k false)) (k false))=some (PF e):=by
 simp only[aA,PF];cases eA e.Kind 1 17<;>cases eA e.I 0 10000<;>cases eA e.J 0 10000<;>cases eA e.N 0 10000<;>cases decide ((e.B.length:Int)≤200)<;>rfl
def zat.ok{x}(_:xA [.v .Event] x):Of x=some (PF x):=zpJ x
def zkX{n m:Nat}(h:n≤m):Nat.ble n m=true:=Nat.ble_eq_true_of_le h
def zjc(a b:List UInt8){r:Bool}:DB a b=some r→(cond (Nat.ble a.length bA) (cond (Nat.ble b.length bA) (some (a==b)) none) none)=some r:=
 OA λh=>by
  rw[zkX (by rw[←FA];exact h.1),zkX (by rw[←FA];exact h.2)];rfl
def zaU.ok{x}(_:xA [.sl .byte, .sl .byte] x){r}:DB x.1 x.2=some r→Oi x.1 x.2=some r:=zjc x.1 x.2
def zaO.ok{x}(_:xA [.sl .byte, .sl .byte] x){r}:DB x.1 x.2=some r→Oh x.1 x.2=some r:=zjc x.1 x.2
end Go.D
