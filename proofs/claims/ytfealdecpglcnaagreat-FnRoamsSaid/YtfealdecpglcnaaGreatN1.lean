/-
 Sizes of the program's data.
-/
import Derived.Test.YtfealdecpglcnaaGreatL8
set_option linter.all false
namespace Go.D
instance:Wt Af:=⟨λ_=>0⟩
def GE(x:Af):wt x=0:=rfl
instance:Wt Bb:=⟨λx=>wt x.B⟩
def zxj(x:Bb):wt x=wt x.B:=rfl
instance:Wt Am:=⟨λx=>wt x.B+wt x.Ops⟩
def zus(x:Am):wt x=wt x.B+wt x.Ops:=rfl
instance:Wt Ad:=⟨λx=>wt x.Cn+wt x.Sn+wt x.Body+wt x.Key+wt x.A⟩
def KL(x:Ad):wt x=wt x.Cn+wt x.Sn+wt x.Body+wt x.Key+wt x.A:=rfl
end Go.D
namespace Go.D
def eA(n lo hi:Int):Bool:=decide (n≥lo)&&decide (n≤hi)
def zl0{α:Type}(_:α):Bool:=true
def xG(e:Am):Bool:=eA e.Kind 1 17&&eA e.I 0 10000&&eA e.J 0 10000&&eA e.N 0 10000&&decide ((e.B.length:Int)≤200)&&decide ((e.Ops.length:Int)≤16)
noncomputable def uB(a b:List UInt8):Option Bool:=pt (wt a≤bA∧wt b≤bA) (a==b)
end Go.D
namespace Go.D
noncomputable section
def Oo(a0:Int)(a1:Int)(a2:Int):=aA (λ(y1:Bool)=>some y1) λk2=>cond (a0≥a1) (k2 (decide (a0≤a2))) (k2 false)
def Oq(a0:Am):=aA (λ(y1:Bool)=>some y1) λk2=>cond ((eA a0.Kind 1 17)) (cond ((eA a0.I 0 10000)) (cond ((eA a0.J 0 10000)) (cond ((eA a0.N 0 10000)) (cond ((a0.B.length:Int)≤200) (k2 (decide ((a0.Ops.length:Int)≤16))) (k2 false)) (k2 false)) (k2 false)) (k2 false)) (k2 false)
def Or(a0:Int)(a1:Int)(a2:Int):=aA (λ(y1:Bool)=>some y1) λk2=>cond (a0≥a1) (k2 (decide (a0≤a2))) (k2 false)
def Ot(a0:List UInt8)(a1:List UInt8):=cond (Nat.ble a0.length bA) (cond (Nat.ble a1.length bA) (some (a0==a1)) none) none
def Ou(a0:List UInt8)(a1:List UInt8):=cond (Nat.ble a0.length bA) (cond (Nat.ble a1.length bA) (some (a0==a1)) none) none
end
end Go.D
namespace Go.D
end Go.D
namespace Go.D
def zle(a b c:Int):aA (R:=Bool) (λ(y:Bool)=>some y) (λk=>cond (a≥b) (k (decide (a≤c))) (k false))=some (eA a b c):=by
 simp only[aA,eA];cases decide (a≥b)<;>rfl
def zby.ok{x}(_:vA [.v .int, .v .int, .v .int] x):Or x.1 x.2.1 x.2.2=some (eA x.1 x.2.1 x.2.2):=zle _ _ _
def zcp.ok{x}(_:vA [.v .int, .v .int, .v .int] x):Oo x.1 x.2.1 x.2.2=some (eA x.1 x.2.1 x.2.2):=zle _ _ _
def sD{n i:Nat}(h:i<n):decide ((i:Int)<(n:Int))=true:=by simp;exact h
def UD{n:Nat}:decide ((n:Int)<(n:Int))=false:=by simp
def zw9{n i:Nat}(h:i≤n):(decide (0≤(0:Int))&&decide ((0:Int)≤(i:Int))&&decide ((i:Int)≤(n:Int)))=true:=by simp;exact h
def zxb{α:Type}(l:List α)(i:Nat):List.take (((i:Int) - 0).toNat) (List.drop 0 l)=l.take i:=by simp
def zrc(e:Am):aA (R:=Bool) (λ(y:Bool)=>some y) (λk=>cond (eA e.Kind 1 17) (cond (eA e.I 0 10000) (cond (eA e.J 0 10000) (cond (eA e.N 0 10000) (cond ((e.B.length:Int)≤200)
  (k (decide ((e.Ops.length:Int)≤16))) (k false)) (k false)) (k false)) (k false)) (k false))=some (xG e):=by
 simp only[aA,xG];cases eA e.Kind 1 17<;>cases eA e.I 0 10000<;>cases eA e.J 0 10000<;>cases eA e.N 0 10000<;>cases decide ((e.B.length:Int)≤200)<;>rfl
def za8.ok{x}(_:vA [.v .Event] x):Oq x=some (xG x):=zrc x
def zmc{n m:Nat}(h:n≤m):Nat.ble n m=true:=Nat.ble_eq_true_of_le h
def zkh(a b:List UInt8){r:Bool}:uB a b=some r→(cond (Nat.ble a.length bA) (cond (Nat.ble b.length bA) (some (a==b)) none) none)=some r:=
 QA λh=>by
  rw[zmc (by rw[←FA];exact h.1),zmc (by rw[←FA];exact h.2)];rfl
def zbB.ok{x}(_:vA [.sl .byte, .sl .byte] x){r}:uB x.1 x.2=some r→Ou x.1 x.2=some r:=zkh x.1 x.2
def zbu.ok{x}(_:vA [.sl .byte, .sl .byte] x){r}:uB x.1 x.2=some r→Ot x.1 x.2=some r:=zkh x.1 x.2
end Go.D
