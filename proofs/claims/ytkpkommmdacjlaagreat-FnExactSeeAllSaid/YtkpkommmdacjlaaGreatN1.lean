/-
 Sizes of the program's data.
-/
import Derived.Test.YtkpkommmdacjlaaGreatL0
import Derived.Test.YtkpkommmdacjlaaGreatL8
set_option linter.all false
namespace Go.D
instance:Wt Aq:=⟨λ_=>0⟩
def sB(x:Aq):wt x=0:=rfl
instance:Wt Ee:=⟨λx=>wt x.B⟩
def zeI(x:Ee):wt x=wt x.B:=rfl
instance:Wt Au:=⟨λx=>wt x.B+wt x.Ops⟩
def zcE(x:Au):wt x=wt x.B+wt x.Ops:=rfl
instance:Wt Ae:=⟨λx=>wt x.Cn+wt x.Sn+wt x.Body+wt x.Key+wt x.A⟩
def QE(x:Ae):wt x=wt x.Cn+wt x.Sn+wt x.Body+wt x.Key+wt x.A:=rfl
end Go.D
namespace Go.D
def YC(n lo hi:Int):Bool:=decide (n≥lo)&&decide (n≤hi)
def UO{α β:Type}(_:α)(_:β):Bool:=true
end Go.D
namespace Go.D
open Option renaming bind→ob
noncomputable section
def Eu(a0:List UInt8)(a1:Int):=
 cond (decide ((qC .i64 a1 (a0.length:Int))<0))
 (some (-1))
 (some (qC .i64 a1 (a0.length:Int)))
def Ew(a0:List UInt8):=
 cond (decide (0≤(a0.length:Int))&&decide ((a0.length:Int)≤(nA:Int))&&((a0.length:Int)==(a0.length:Int))) (let x1:List UInt8:=List.replicate ((a0.length:Int):Int).toNat (UInt8.ofNat (0:Int).toNat:UInt8)
 DA (λ(y2:(List UInt8))=>
 some y2) λk3=>
 KA FU (λ(x4:Int×(List UInt8)) k5=>
 cond (decide (x4.1<(a0.length:Int)))
 (ob (NA a0 x4.1) λe6=>
 cond (decide (0≤x4.1)&&decide (x4.1<(x4.2.length:Int))) (ob (x4.2[x4.1.toNat]?) λe7=>
 let l8:List UInt8:=List.set x4.2 x4.1.toNat (UInt8.ofNat (((e6.toNat:Nat):Int):Int).toNat)
 k5 ((PA .i64 x4.1 1),l8)) none)
 (k3 x4.2)) (0,x1)) none
def Ey(a0:Int)(a1:Int)(a2:Int):=
 DA (λ(y1:Bool)=>
 some y1) λk2=>
 cond (decide (a0≥a1))
 (k2 (decide (a0≤a2)))
 (k2 false)
def Ez(a0:Int)(a1:Int)(a2:Int):=
 DA (λ(y1:Bool)=>
 some y1) λk2=>
 cond (decide (a0≥a1))
 (k2 (decide (a0≤a2)))
 (k2 false)
def Fa(a0:List UInt8)(a1:List UInt8):=
 cond ((a0.length:Int) !=(a1.length:Int))
 (some false)
 (DA (λ(y1:Unit)=>
 some true) λk2=>
 KA FU (λ(x3:Int) k4=>
 cond (decide (x3<(a0.length:Int)))
 (ob (NA a0 x3) λe5=>
 ob (NA a1 x3) λe6=>
 cond (((e5.toNat:Nat):Int) !=((e6.toNat:Nat):Int))
 (some false)
 (k4 (PA .i64 x3 1)))
 (k2 ())) 0)
def Bh(a0:Ae)(a1:Int):=
 ob (vA a0.Cn a1) λr1=>
 cond (decide (r1<0))
 (some (-1))
 (ob (vA a0.Sn r1) λr2=>
 cond (decide (r2<0))
 (some (-1))
 (ob (vA a0.Body r2) λr3=>
 cond (decide (r3<0))
 (some (-1))
 (ob (vA a0.Key r3) λr4=>
 cond (decide (r4<0))
 (some (-1))
 (some r4))))
def Fb(a0:List Ae)(a1:Int):=
 cond (decide ((qC .i64 a1 (a0.length:Int))<0))
 (some (-1))
 (DA (λ(y1:Int)=>
 some y1) λk2=>
 KA FU (λ(x3:Int×Int) k4=>
 cond (decide (x3.2<(a0.length:Int)))
 (ob (NA a0 x3.2) λe5=>
 ob (vA e5 x3.1) λr6=>
 cond (decide (r6<0))
 (some (-1))
 (k4 (r6,(PA .i64 x3.2 1))))
 (k2 x3.1)) ((qC .i64 a1 (a0.length:Int)),0))
def Fc(a0:Aq):=
 some a0
def Bi(a0:Ae):=
 ob (eA a0.Cn) λr1=>
 ob (eA a0.Sn) λr2=>
 ob (eA a0.Body) λr3=>
 ob (eA a0.Key) λr4=>
 ob (eA a0.A) λr5=>
 some (⟨a0.Kind,a0.Id,a0.Role,r1,r2,a0.Epoch,a0.Seq,r3,r4,r5,a0.Now⟩:Ae)
def Fd(a0:List Ae):=
 cond (decide (0≤(a0.length:Int))&&decide ((a0.length:Int)≤(nA:Int))&&((a0.length:Int)==(a0.length:Int))) (let x1:List Ae:=List.replicate ((a0.length:Int):Int).toNat ((⟨0,0,0,[],[],0,0,[],[],(⟨0,0⟩:Aq),0⟩:Ae):Ae)
 DA (λ(y2:(List Ae))=>
 some y2) λk3=>
 KA FU (λ(x4:Int×(List Ae)) k5=>
 cond (decide (x4.1<(a0.length:Int)))
 (ob (NA a0 x4.1) λe6=>
 ob (eA e6) λr7=>
 cond (decide (0≤x4.1)&&decide (x4.1<(x4.2.length:Int))) (ob (x4.2[x4.1.toNat]?) λe8=>
 k5 ((PA .i64 x4.1 1),(List.set x4.2 x4.1.toNat r7))) none)
 (k3 x4.2)) (0,x1)) none
def Bj(a0:Aq)(a1:Aq):=
 cond (a0.Host !=a1.Host)
 (some false)
 (cond (a0.Port !=a1.Port)
 (some false)
 (some true))
def Bk(a0:Ae)(a1:Ae):=
 cond (a0.Kind !=a1.Kind)
 (some false)
 (cond (a0.Id !=a1.Id)
 (some false)
 (cond (a0.Role !=a1.Role)
 (some false)
 (cond (!(mA a0.Cn a1.Cn))
 (some false)
 (cond (!(mA a0.Sn a1.Sn))
 (some false)
 (cond (a0.Epoch !=a1.Epoch)
 (some false)
 (cond (a0.Seq !=a1.Seq)
 (some false)
 (cond (!(mA a0.Body a1.Body))
 (some false)
 (cond (!(mA a0.Key a1.Key))
 (some false)
 (cond (!(mA a0.A a1.A))
 (some false)
 (cond (a0.Now !=a1.Now)
 (some false)
 (some true)))))))))))
def Fe(a0:List Ae)(a1:List Ae):=
 cond ((a0.length:Int) !=(a1.length:Int))
 (some false)
 (DA (λ(y1:Unit)=>
 some true) λk2=>
 KA FU (λ(x3:Int) k4=>
 cond (decide (x3<(a0.length:Int)))
 (ob (NA a0 x3) λe5=>
 ob (NA a1 x3) λe6=>
 cond (!(mA e5 e6))
 (some false)
 (k4 (PA .i64 x3 1)))
 (k2 ())) 0)
end
end Go.D
namespace Go.D
def kV(a b:Aq):Bj a b=some (mA a b):=by
 simp only[Bj];refine GB (λy:Aq=>y.Host) λh0=>?_;refine GB (λy:Aq=>y.Port) λh1=>?_;exact kD (by cases a;cases b;simp_all)
def uI.ok{x}(_:rA [.v .Addr, .v .Addr] x):Bj x.1 x.2=some (mA x.1 x.2):=kV x.1 x.2
def QL.ok{x}(_:rA [.v .Addr] x){r}:eA (α:=Aq) x=some r→Fc x=some r:=CA λ_=>rfl
def xL.ok{x}(hb:rA [.sl .Note, .v .int] x){r}:vA (α:=List Ae) x.1 x.2=some r→Fb x.1 x.2=some r:=CA λh=>lJ (α:=Ae) x.1 h (PF hb.2) hb.1.1
def jL.ok{x}(hb:rA [.sl .Note] x){r}:eA (α:=List Ae) x=some r→Fd x=some r:=CA λh=>WG (α:=Ae) x _ hb.1 h
def oL.ok{x}(hb:rA [.sl .byte] x){r}:eA (α:=List UInt8) x=some r→Ew x=some r:=CA λh=>RQ (α:=UInt8) x _ hb.1 (by have h:wt (show List UInt8 from x)≤nA:=h;rw[jB]at h;exact h) _ zbL
def iL.ok{x}(hb:rA [.sl .Note, .sl .Note] x):Fe x.1 x.2=some (mA x.1 x.2):=JF (α:=Ae) x.1 x.2 hb.1.1 _ (λ_ _=>rfl)
def uL.ok{x}(hb:rA [.sl .byte, .sl .byte] x):Fa x.1 x.2=some (mA x.1 x.2):=JF (α:=UInt8) x.1 x.2 hb.1.1 _ zdE
def AL.ok{x}(hb:rA [.sl .byte, .v .int] x){r}:vA (α:=List UInt8) x.1 x.2=some r→Eu x.1 x.2=some r:=CA λh=>yO (α:=UInt8) (λ_=>rfl) x.1 h (PF hb.2) hb.1.1
def nV(a:Ae)(left:Int)(h:0≤left):Bh a left=some (OB a left):=by
 simp only[Bh];refine oB (by omega) (λhn=>pB (by rw[QE,sB];omega)) λh0=>?_;refine oB (by omega) (λhn=>pB (by rw[QE,sB];omega)) λh1=>?_;refine oB (by omega) (λhn=>pB (by rw[QE,sB];omega)) λh2=>?_;refine oB (by omega) (λhn=>pB (by rw[QE,sB];omega)) λh3=>?_;refine congrArg some ?_;have hp:=ID (left:=left) (a:=a) (by rw[QE,sB];omega);rw[QE,sB]at hp;omega
def cI.ok{x}(hb:rA [.v .Note, .v .int] x){r}:vA (α:=Ae) x.1 x.2=some r→Bh x.1 x.2=some r:=CA λh=>nV x.1 x.2 h
def lV(a:Ae)(h:wt a≤nA):Bi a=some a:=by
 rw[QE]at h;simp only[Bi,eA];rw[IA (by omega),IA (by omega),IA (by omega),IA (by omega),IA (by omega)]
def zI.ok{x}(_:rA [.v .Note] x){r}:eA (α:=Ae) x=some r→Bi x=some r:=CA λh=>lV x h
def fV(a b:Ae):Bk a b=some (mA a b):=by
 simp only[Bk];refine GB (λy:Ae=>y.Kind) λh0=>?_;refine GB (λy:Ae=>y.Id) λh1=>?_;refine GB (λy:Ae=>y.Role) λh2=>?_;refine fB (λy:Ae=>y.Cn) λh3=>?_;refine fB (λy:Ae=>y.Sn) λh4=>?_;refine GB (λy:Ae=>y.Epoch) λh5=>?_;refine GB (λy:Ae=>y.Seq) λh6=>?_;refine fB (λy:Ae=>y.Body) λh7=>?_;refine fB (λy:Ae=>y.Key) λh8=>?_;refine fB (λy:Ae=>y.A) λh9=>?_;refine GB (λy:Ae=>y.Now) λtX=>?_;exact kD (by cases a;cases b;simp_all)
def sI.ok{x}(_:rA [.v .Note, .v .Note] x):Bk x.1 x.2=some (mA x.1 x.2):=fV x.1 x.2
end Go.D
namespace Go.D
def dS(a b c:Int):DA (R:=Bool) (λ(y:Bool)=>some y) (λk=>cond (decide (a≥b)) (k (decide (a≤c))) (k false))=some (YC a b c):=by
 simp only[DA,YC];cases decide (a≥b)<;>rfl
def OL.ok{x}(_:rA [.v .int, .v .int, .v .int] x):Ez x.1 x.2.1 x.2.2=some (YC x.1 x.2.1 x.2.2):=dS _ _ _
def mM.ok{x}(_:rA [.v .int, .v .int, .v .int] x):Ey x.1 x.2.1 x.2.2=some (YC x.1 x.2.1 x.2.2):=dS _ _ _
def zd8{n i:Nat}(h:i<n):decide ((i:Int)<(n:Int))=true:=by simp;exact h
def zdZ{n:Nat}:decide ((n:Int)<(n:Int))=false:=by simp
end Go.D
