/-
 Sizes of the program's data.
-/
import Derived.Test.YtfipojlaeaeedaaGreatL8
set_option linter.all false
namespace Go.D
instance:Wt Ae:=⟨λ_=>0⟩
def vD(x:Ae):wt x=0:=rfl
instance:Wt Ay:=⟨λx=>wt x.B⟩
def znx(x:Ay):wt x=wt x.B:=rfl
instance:Wt Ai:=⟨λx=>wt x.B+wt x.Ops⟩
def zlx(x:Ai):wt x=wt x.B+wt x.Ops:=rfl
instance:Wt Af:=⟨λx=>wt x.Cn+wt x.Sn+wt x.Body+wt x.Key+wt x.A⟩
def YI(x:Af):wt x=wt x.Cn+wt x.Sn+wt x.Body+wt x.Key+wt x.A:=rfl
end Go.D
namespace Go.D
def gA(n lo hi:Int):Bool:=decide (n≥lo)&&decide (n≤hi)
def zfp{α:Type}(_:α):Bool:=true
def WJ(e:Ai):Bool:=gA e.Kind 1 17&&gA e.I 0 10000&&gA e.J 0 10000&&gA e.N 0 10000&&decide ((e.B.length:Int)≤200)&&decide ((e.Ops.length:Int)≤16)
noncomputable def PB(a b:List UInt8):Option Bool:=pt (wt a≤bA∧wt b≤bA) (a==b)
end Go.D
namespace Go.D
noncomputable section
def Kn(a0:Int)(a1:Int)(a2:Int):=
 aA (λ(y1:Bool)=>
 some y1) λk2=>
 cond (decide (a0≥a1))
 (k2 (decide (a0≤a2)))
 (k2 false)
def Ko(a0:Ai):=
 aA (λ(y1:Bool)=>
 some y1) λk2=>
 cond ((gA a0.Kind 1 17))
 (cond ((gA a0.I 0 10000))
 (cond ((gA a0.J 0 10000))
 (cond ((gA a0.N 0 10000))
 (cond (decide ((a0.B.length:Int)≤200))
 (k2 (decide ((a0.Ops.length:Int)≤16)))
 (k2 false))
 (k2 false))
 (k2 false))
 (k2 false))
 (k2 false)
def Kp(a0:Int)(a1:Int)(a2:Int):=
 aA (λ(y1:Bool)=>
 some y1) λk2=>
 cond (decide (a0≥a1))
 (k2 (decide (a0≤a2)))
 (k2 false)
def Kq(a0:List UInt8)(a1:List UInt8):=
 cond (Nat.ble a0.length bA) (cond (Nat.ble a1.length bA) (some (a0==a1)) none) none
def Kr(a0:List UInt8)(a1:List UInt8):=
 cond (Nat.ble a0.length bA) (cond (Nat.ble a1.length bA) (some (a0==a1)) none) none
end
end Go.D
namespace Go.D
end Go.D
namespace Go.D
def zeR(a b c:Int):aA (R:=Bool) (λ(y:Bool)=>some y) (λk=>cond (decide (a≥b)) (k (decide (a≤c))) (k false))=some (gA a b c):=by
 simp only[aA,gA];cases decide (a≥b)<;>rfl
def SR.ok{x}(_:rA [.v .int, .v .int, .v .int] x):Kp x.1 x.2.1 x.2.2=some (gA x.1 x.2.1 x.2.2):=zeR _ _ _
def cT.ok{x}(_:rA [.v .int, .v .int, .v .int] x):Kn x.1 x.2.1 x.2.2=some (gA x.1 x.2.1 x.2.2):=zeR _ _ _
def pC{n i:Nat}(h:i<n):decide ((i:Int)<(n:Int))=true:=by simp;exact h
def BC{n:Nat}:decide ((n:Int)<(n:Int))=false:=by simp
def znr{n i:Nat}(h:i≤n):(decide (0≤(0:Int))&&decide ((0:Int)≤(i:Int))&&decide ((i:Int)≤(n:Int)))=true:=by simp;exact h
def znt{α:Type}(l:List α)(i:Nat):List.take (((i:Int) - 0).toNat) (List.drop 0 l)=l.take i:=by simp
def zjb(e:Ai):aA (R:=Bool) (λ(y:Bool)=>some y) (λk=>cond (gA e.Kind 1 17) (cond (gA e.I 0 10000) (cond (gA e.J 0 10000) (cond (gA e.N 0 10000) (cond (decide ((e.B.length:Int)≤200))
  (k (decide ((e.Ops.length:Int)≤16))) (k false)) (k false)) (k false)) (k false)) (k false))=some (WJ e):=by
 simp only[aA,WJ];cases gA e.Kind 1 17<;>cases gA e.I 0 10000<;>cases gA e.J 0 10000<;>cases gA e.N 0 10000<;>cases decide ((e.B.length:Int)≤200)<;>rfl
def jR.ok{x}(_:rA [.v .Event] x):Ko x=some (WJ x):=zjb x
def zfw{n m:Nat}(h:n≤m):Nat.ble n m=true:=Nat.ble_eq_true_of_le h
def zd7(a b:List UInt8){r:Bool}:PB a b=some r→(cond (Nat.ble a.length bA) (cond (Nat.ble b.length bA) (some (a==b)) none) none)=some r:=
 KA λh=>by
  rw[zfw (by rw[←AA];exact h.1),zfw (by rw[←AA];exact h.2)];rfl
def ZR.ok{x}(_:rA [.sl .byte, .sl .byte] x){r}:PB x.1 x.2=some r→Kr x.1 x.2=some r:=zd7 x.1 x.2
def NR.ok{x}(_:rA [.sl .byte, .sl .byte] x){r}:PB x.1 x.2=some r→Kq x.1 x.2=some r:=zd7 x.1 x.2
end Go.D
