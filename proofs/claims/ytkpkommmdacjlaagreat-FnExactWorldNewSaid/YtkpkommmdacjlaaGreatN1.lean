/-
 Sizes of the program's data.
-/
import Derived.Test.YtkpkommmdacjlaaGreatL0
import Derived.Test.YtkpkommmdacjlaaGreatL8
set_option linter.all false
namespace Go.D
instance:Wt Af:=⟨λ_=>0⟩
def bF(x:Af):wt x=0:=rfl
instance:Wt Ei:=⟨λx=>wt x.B⟩
def zjw(x:Ei):wt x=wt x.B:=rfl
instance:Wt Av:=⟨λx=>wt x.B+wt x.Ops⟩
def zgZ(x:Av):wt x=wt x.B+wt x.Ops:=rfl
instance:Wt Ak:=⟨λx=>wt x.Cn+wt x.Sn+wt x.Body+wt x.Key+wt x.A⟩
def oQ(x:Ak):wt x=wt x.Cn+wt x.Sn+wt x.Body+wt x.Key+wt x.A:=rfl
end Go.D
namespace Go.D
def oA(n lo hi:Int):Bool:=decide (n≥lo)&&decide (n≤hi)
noncomputable def wD(a b:List UInt8):Option Bool:=pt (wt a≤eA∧wt b≤eA) (a==b)
end Go.D
namespace Go.D
open Option renaming bind→ob
noncomputable section
def Fk(a0:List UInt8):=
 cond (decide (0≤(a0.length:Int))&&decide ((a0.length:Int)≤(eA:Int))&&((a0.length:Int)==(a0.length:Int))) (let x1:List UInt8:=List.replicate ((a0.length:Int):Int).toNat (UInt8.ofNat (0:Int).toNat:UInt8)
 fA (λ(y2:(List UInt8))=>
 some y2) λk3=>
 yA FU (λ(x4:Int×(List UInt8)) k5=>
 cond (decide (x4.1<(a0.length:Int)))
 (ob (vA a0 x4.1) λe6=>
 cond (decide (0≤x4.1)&&decide (x4.1<(x4.2.length:Int))) (ob (x4.2[x4.1.toNat]?) λe7=>
 let l8:List UInt8:=List.set x4.2 x4.1.toNat (UInt8.ofNat (((e6.toNat:Nat):Int):Int).toNat)
 k5 ((mA .i64 x4.1 1),l8)) none)
 (k3 x4.2)) (0,x1)) none
def Fl(a0:Int)(a1:Int)(a2:Int):=
 fA (λ(y1:Bool)=>
 some y1) λk2=>
 cond (decide (a0≥a1))
 (k2 (decide (a0≤a2)))
 (k2 false)
def Fm(a0:Int)(a1:Int)(a2:Int):=
 fA (λ(y1:Bool)=>
 some y1) λk2=>
 cond (decide (a0≥a1))
 (k2 (decide (a0≤a2)))
 (k2 false)
def Fn(a0:List UInt8)(a1:List UInt8):=
 cond ((a0.length:Int) !=(a1.length:Int))
 (some false)
 (fA (λ(y1:Unit)=>
 some true) λk2=>
 yA FU (λ(x3:Int) k4=>
 cond (decide (x3<(a0.length:Int)))
 (ob (vA a0 x3) λe5=>
 ob (vA a1 x3) λe6=>
 cond (((e5.toNat:Nat):Int) !=((e6.toNat:Nat):Int))
 (some false)
 (k4 (mA .i64 x3 1)))
 (k2 ())) 0)
def Fo(a0:List UInt8)(a1:List UInt8):=
 cond (Nat.ble a0.length eA) (cond (Nat.ble a1.length eA) (some (a0==a1)) none) none
def Fp(a0:List UInt8)(a1:List UInt8):=
 cond (Nat.ble a0.length eA) (cond (Nat.ble a1.length eA) (some (a0==a1)) none) none
def Bi(a0:Af)(a1:Af):=
 cond (a0.Host !=a1.Host)
 (some false)
 (cond (a0.Port !=a1.Port)
 (some false)
 (some true))
def Bj(a0:Ak)(a1:Ak):=
 cond (a0.Kind !=a1.Kind)
 (some false)
 (cond (a0.Id !=a1.Id)
 (some false)
 (cond (a0.Role !=a1.Role)
 (some false)
 (cond (!(qA a0.Cn a1.Cn))
 (some false)
 (cond (!(qA a0.Sn a1.Sn))
 (some false)
 (cond (a0.Epoch !=a1.Epoch)
 (some false)
 (cond (a0.Seq !=a1.Seq)
 (some false)
 (cond (!(qA a0.Body a1.Body))
 (some false)
 (cond (!(qA a0.Key a1.Key))
 (some false)
 (cond (!(qA a0.A a1.A))
 (some false)
 (cond (a0.Now !=a1.Now)
 (some false)
 (some true)))))))))))
def Fq(a0:List Ak)(a1:List Ak):=
 cond ((a0.length:Int) !=(a1.length:Int))
 (some false)
 (fA (λ(y1:Unit)=>
 some true) λk2=>
 yA FU (λ(x3:Int) k4=>
 cond (decide (x3<(a0.length:Int)))
 (ob (vA a0 x3) λe5=>
 ob (vA a1 x3) λe6=>
 cond (!(qA e5 e6))
 (some false)
 (k4 (mA .i64 x3 1)))
 (k2 ())) 0)
end
end Go.D
namespace Go.D
def zdI(a b:Af):Bi a b=some (qA a b):=by
 simp only[Bi];refine NB (λy:Af=>y.Host) λh0=>?_;refine NB (λy:Af=>y.Port) λh1=>?_;exact QD (by cases a;cases b;simp_all)
def uK.ok{x}(_:sA [.v .Addr, .v .Addr] x):Bi x.1 x.2=some (qA x.1 x.2):=zdI x.1 x.2
def jO.ok{x}(hb:sA [.sl .byte] x){r}:qE (α:=List UInt8) x=some r→Fk x=some r:=YA λh=>zfo (α:=UInt8) x _ hb.1 (by have h:wt (show List UInt8 from x)≤eA:=h;rw[LA]at h;exact h) _ zf4
def gO.ok{x}(hb:sA [.sl .Note, .sl .Note] x):Fq x.1 x.2=some (qA x.1 x.2):=DG (α:=Ak) x.1 x.2 hb.1.1 _ (λ_ _=>rfl)
def nO.ok{x}(hb:sA [.sl .byte, .sl .byte] x):Fn x.1 x.2=some (qA x.1 x.2):=DG (α:=UInt8) x.1 x.2 hb.1.1 _ zib
def zdD(a b:Ak):Bj a b=some (qA a b):=by
 simp only[Bj];refine NB (λy:Ak=>y.Kind) λh0=>?_;refine NB (λy:Ak=>y.Id) λh1=>?_;refine NB (λy:Ak=>y.Role) λh2=>?_;refine gB (λy:Ak=>y.Cn) λh3=>?_;refine gB (λy:Ak=>y.Sn) λh4=>?_;refine NB (λy:Ak=>y.Epoch) λh5=>?_;refine NB (λy:Ak=>y.Seq) λh6=>?_;refine gB (λy:Ak=>y.Body) λh7=>?_;refine gB (λy:Ak=>y.Key) λh8=>?_;refine gB (λy:Ak=>y.A) λh9=>?_;refine NB (λy:Ak=>y.Now) λiX=>?_;exact QD (by cases a;cases b;simp_all)
def tK.ok{x}(_:sA [.v .Note, .v .Note] x):Bj x.1 x.2=some (qA x.1 x.2):=zdD x.1 x.2
end Go.D
namespace Go.D
def zbt(a b c:Int):fA (R:=Bool) (λ(y:Bool)=>some y) (λk=>cond (decide (a≥b)) (k (decide (a≤c))) (k false))=some (oA a b c):=by
 simp only[fA,oA];cases decide (a≥b)<;>rfl
def DO.ok{x}(_:sA [.v .int, .v .int, .v .int] x):Fm x.1 x.2.1 x.2.2=some (oA x.1 x.2.1 x.2.2):=zbt _ _ _
def uP.ok{x}(_:sA [.v .int, .v .int, .v .int] x):Fl x.1 x.2.1 x.2.2=some (oA x.1 x.2.1 x.2.2):=zbt _ _ _
def bD{n i:Nat}(h:i<n):decide ((i:Int)<(n:Int))=true:=by simp;exact h
def sD{n:Nat}:decide ((n:Int)<(n:Int))=false:=by simp
def zi2{n i:Nat}(h:i≤n):(decide (0≤(0:Int))&&decide ((0:Int)≤(i:Int))&&decide ((i:Int)≤(n:Int)))=true:=by simp;exact h
def zi4{α:Type}(l:List α)(i:Nat):List.take (((i:Int) - 0).toNat) (List.drop 0 l)=l.take i:=by simp
def zco{n m:Nat}(h:n≤m):Nat.ble n m=true:=Nat.ble_eq_true_of_le h
def zaE(a b:List UInt8){r:Bool}:wD a b=some r→(cond (Nat.ble a.length eA) (cond (Nat.ble b.length eA) (some (a==b)) none) none)=some r:=
 YA λh=>by
  rw[zco (by rw[←LA];exact h.1),zco (by rw[←LA];exact h.2)];rfl
def FO.ok{x}(_:sA [.sl .byte, .sl .byte] x){r}:wD x.1 x.2=some r→Fp x.1 x.2=some r:=zaE x.1 x.2
def BO.ok{x}(_:sA [.sl .byte, .sl .byte] x){r}:wD x.1 x.2=some r→Fo x.1 x.2=some r:=zaE x.1 x.2
end Go.D
