/-
 Sizes of the program's data.
-/
import Derived.Test.YthmhafeaiaigoaaGreatL8
set_option linter.all false
namespace Go.D
instance:Wt Ah:=⟨λ_=>0⟩
def NE(x:Ah):wt x=0:=rfl
instance:Wt Bc:=⟨λx=>wt x.B⟩
def zxo(x:Bc):wt x=wt x.B:=rfl
instance:Wt Ao:=⟨λx=>wt x.B+wt x.Ops⟩
def zuS(x:Ao):wt x=wt x.B+wt x.Ops:=rfl
instance:Wt Ae:=⟨λx=>wt x.Cn+wt x.Sn+wt x.Body+wt x.Key+wt x.A⟩
def jJ(x:Ae):wt x=wt x.Cn+wt x.Sn+wt x.Body+wt x.Key+wt x.A:=rfl
end Go.D
namespace Go.D
def eA(n lo hi:Int):Bool:=decide (n≥lo)&&decide (n≤hi)
def zmn{α:Type}(_:α):Bool:=true
def sG(e:Ao):Bool:=eA e.Kind 1 17&&eA e.I 0 10000&&eA e.J 0 10000&&eA e.N 0 10000&&decide ((e.B.length:Int)≤200)&&decide ((e.Ops.length:Int)≤16)
noncomputable def FB(a b:List UInt8):Option Bool:=pt (wt a≤bA∧wt b≤bA) (a==b)
end Go.D
namespace Go.D
noncomputable section
def Qp(a0:Int)(a1:Int)(a2:Int):=
 aA (λ(y1:Bool)=>
 some y1) λk2=>
 cond (decide (a0≥a1))
 (k2 (decide (a0≤a2)))
 (k2 false)
def Qq(a0:Ao):=
 aA (λ(y1:Bool)=>
 some y1) λk2=>
 cond ((eA a0.Kind 1 17))
 (cond ((eA a0.I 0 10000))
 (cond ((eA a0.J 0 10000))
 (cond ((eA a0.N 0 10000))
 (cond (decide ((a0.B.length:Int)≤200))
 (k2 (decide ((a0.Ops.length:Int)≤16)))
 (k2 false))
 (k2 false))
 (k2 false))
 (k2 false))
 (k2 false)
def Qr(a0:Int)(a1:Int)(a2:Int):=
 aA (λ(y1:Bool)=>
 some y1) λk2=>
 cond (decide (a0≥a1))
 (k2 (decide (a0≤a2)))
 (k2 false)
def Qs(a0:List UInt8)(a1:List UInt8):=
 cond (Nat.ble a0.length bA) (cond (Nat.ble a1.length bA) (some (a0==a1)) none) none
def Qt(a0:List UInt8)(a1:List UInt8):=
 cond (Nat.ble a0.length bA) (cond (Nat.ble a1.length bA) (some (a0==a1)) none) none
end
end Go.D
namespace Go.D
end Go.D
namespace Go.D
def zlC(a b c:Int):aA (R:=Bool) (λ(y:Bool)=>some y) (λk=>cond (decide (a≥b)) (k (decide (a≤c))) (k false))=some (eA a b c):=by
 simp only[aA,eA];cases decide (a≥b)<;>rfl
def zbT.ok{x}(_:xA [.v .int, .v .int, .v .int] x):Qr x.1 x.2.1 x.2.2=some (eA x.1 x.2.1 x.2.2):=zlC _ _ _
def zcN.ok{x}(_:xA [.v .int, .v .int, .v .int] x):Qp x.1 x.2.1 x.2.2=some (eA x.1 x.2.1 x.2.2):=zlC _ _ _
def yD{n i:Nat}(h:i<n):decide ((i:Int)<(n:Int))=true:=by simp;exact h
def YD{n:Nat}:decide ((n:Int)<(n:Int))=false:=by simp
def zxf{n i:Nat}(h:i≤n):(decide (0≤(0:Int))&&decide ((0:Int)≤(i:Int))&&decide ((i:Int)≤(n:Int)))=true:=by simp;exact h
def zxh{α:Type}(l:List α)(i:Nat):List.take (((i:Int) - 0).toNat) (List.drop 0 l)=l.take i:=by simp
def zr6(e:Ao):aA (R:=Bool) (λ(y:Bool)=>some y) (λk=>cond (eA e.Kind 1 17) (cond (eA e.I 0 10000) (cond (eA e.J 0 10000) (cond (eA e.N 0 10000) (cond (decide ((e.B.length:Int)≤200))
  (k (decide ((e.Ops.length:Int)≤16))) (k false)) (k false)) (k false)) (k false)) (k false))=some (sG e):=by
 simp only[aA,sG];cases eA e.Kind 1 17<;>cases eA e.I 0 10000<;>cases eA e.J 0 10000<;>cases eA e.N 0 10000<;>cases decide ((e.B.length:Int)≤200)<;>rfl
def zbd.ok{x}(_:xA [.v .Event] x):Qq x=some (sG x):=zr6 x
def zmx{n m:Nat}(h:n≤m):Nat.ble n m=true:=Nat.ble_eq_true_of_le h
def zkQ(a b:List UInt8){r:Bool}:FB a b=some r→(cond (Nat.ble a.length bA) (cond (Nat.ble b.length bA) (some (a==b)) none) none)=some r:=
 TA λh=>by
  rw[zmx (by rw[←EA];exact h.1),zmx (by rw[←EA];exact h.2)];rfl
def zbX.ok{x}(_:xA [.sl .byte, .sl .byte] x){r}:FB x.1 x.2=some r→Qt x.1 x.2=some r:=zkQ x.1 x.2
def zbN.ok{x}(_:xA [.sl .byte, .sl .byte] x){r}:FB x.1 x.2=some r→Qs x.1 x.2=some r:=zkQ x.1 x.2
end Go.D
