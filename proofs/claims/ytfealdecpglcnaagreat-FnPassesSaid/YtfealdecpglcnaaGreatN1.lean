/-
 Sizes of the program's data.
-/
import Derived.Test.YtfealdecpglcnaaGreatL8
set_option linter.all false
namespace Go.D
instance:Wt Ai:=⟨λ_=>0⟩
def IE(x:Ai):wt x=0:=rfl
instance:Wt Bc:=⟨λx=>wt x.B⟩
def zwl(x:Bc):wt x=wt x.B:=rfl
instance:Wt Aq:=⟨λx=>wt x.B+wt x.Ops⟩
def ztQ(x:Aq):wt x=wt x.B+wt x.Ops:=rfl
instance:Wt Ae:=⟨λx=>wt x.Cn+wt x.Sn+wt x.Body+wt x.Key+wt x.A⟩
def PI(x:Ae):wt x=wt x.Cn+wt x.Sn+wt x.Body+wt x.Key+wt x.A:=rfl
end Go.D
namespace Go.D
def eA(n lo hi:Int):Bool:=decide (n≥lo)&&decide (n≤hi)
def zlv{α:Type}(_:α):Bool:=true
def nM(e:Aq):Bool:=eA e.Kind 1 17&&eA e.I 0 10000&&eA e.J 0 10000&&eA e.N 0 10000&&decide ((e.B.length:Int)≤200)&&decide ((e.Ops.length:Int)≤16)
noncomputable def BB(a b:List UInt8):Option Bool:=pt (wt a≤bA∧wt b≤bA) (a==b)
end Go.D
namespace Go.D
noncomputable section
def Qd(a0:Int)(a1:Int)(a2:Int):=
 aA (λ(y1:Bool)=>
 some y1) λk2=>
 cond (decide (a0≥a1))
 (k2 (decide (a0≤a2)))
 (k2 false)
def Qe(a0:Aq):=
 aA (λ(y1:Bool)=>
 some y1) λk2=>
 cond ((eA a0.Kind 1 17))
 (cond ((eA a0.I 0 10000))
 (cond ((eA a0.J 0 10000))
 (cond ((eA a0.N 0 10000))
 (cond (decide ((a0.B.length:Int)≤200))
 (k2 (decide ((a0.Ops.length:Int)≤16)))
 (k2 false))
 (k2 false))
 (k2 false))
 (k2 false))
 (k2 false)
def Qf(a0:Int)(a1:Int)(a2:Int):=
 aA (λ(y1:Bool)=>
 some y1) λk2=>
 cond (decide (a0≥a1))
 (k2 (decide (a0≤a2)))
 (k2 false)
def Qg(a0:List UInt8)(a1:List UInt8):=
 cond (Nat.ble a0.length bA) (cond (Nat.ble a1.length bA) (some (a0==a1)) none) none
def Qh(a0:List UInt8)(a1:List UInt8):=
 cond (Nat.ble a0.length bA) (cond (Nat.ble a1.length bA) (some (a0==a1)) none) none
end
end Go.D
namespace Go.D
end Go.D
namespace Go.D
def zkQ(a b c:Int):aA (R:=Bool) (λ(y:Bool)=>some y) (λk=>cond (decide (a≥b)) (k (decide (a≤c))) (k false))=some (eA a b c):=by
 simp only[aA,eA];cases decide (a≥b)<;>rfl
def zbh.ok{x}(_:xA [.v .int, .v .int, .v .int] x):Qf x.1 x.2.1 x.2.2=some (eA x.1 x.2.1 x.2.2):=zkQ _ _ _
def zcb.ok{x}(_:xA [.v .int, .v .int, .v .int] x):Qd x.1 x.2.1 x.2.2=some (eA x.1 x.2.1 x.2.2):=zkQ _ _ _
def wD{n i:Nat}(h:i<n):decide ((i:Int)<(n:Int))=true:=by simp;exact h
def SD{n:Nat}:decide ((n:Int)<(n:Int))=false:=by simp
def zwe{n i:Nat}(h:i≤n):(decide (0≤(0:Int))&&decide ((0:Int)≤(i:Int))&&decide ((i:Int)≤(n:Int)))=true:=by simp;exact h
def zwg{α:Type}(l:List α)(i:Nat):List.take (((i:Int) - 0).toNat) (List.drop 0 l)=l.take i:=by simp
def zq6(e:Aq):aA (R:=Bool) (λ(y:Bool)=>some y) (λk=>cond (eA e.Kind 1 17) (cond (eA e.I 0 10000) (cond (eA e.J 0 10000) (cond (eA e.N 0 10000) (cond (decide ((e.B.length:Int)≤200))
  (k (decide ((e.Ops.length:Int)≤16))) (k false)) (k false)) (k false)) (k false)) (k false))=some (nM e):=by
 simp only[aA,nM];cases eA e.Kind 1 17<;>cases eA e.I 0 10000<;>cases eA e.J 0 10000<;>cases eA e.N 0 10000<;>cases decide ((e.B.length:Int)≤200)<;>rfl
def zaH.ok{x}(_:xA [.v .Event] x):Qe x=some (nM x):=zq6 x
def zlE{n m:Nat}(h:n≤m):Nat.ble n m=true:=Nat.ble_eq_true_of_le h
def zj1(a b:List UInt8){r:Bool}:BB a b=some r→(cond (Nat.ble a.length bA) (cond (Nat.ble b.length bA) (some (a==b)) none) none)=some r:=
 UA λh=>by
  rw[zlE (by rw[←FA];exact h.1),zlE (by rw[←FA];exact h.2)];rfl
def zbl.ok{x}(_:xA [.sl .byte, .sl .byte] x){r}:BB x.1 x.2=some r→Qh x.1 x.2=some r:=zj1 x.1 x.2
def zbc.ok{x}(_:xA [.sl .byte, .sl .byte] x){r}:BB x.1 x.2=some r→Qg x.1 x.2=some r:=zj1 x.1 x.2
end Go.D
