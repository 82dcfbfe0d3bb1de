/-
 Sizes of the program's data.
-/
import Derived.Test.YtkpkommmdacjlaaGreatN1
set_option linter.all false
namespace Go.D
instance:Wt Ap:=⟨λx=>wt x.Bits⟩
def ZF(x:Ap):wt x=wt x.Bits:=rfl
instance:Wt As:=⟨λx=>wt x.Key+wt x.Win⟩
def YE(x:As):wt x=wt x.Key+wt x.Win:=rfl
instance:Wt Al:=⟨λx=>wt x.Sn+wt x.Cur+wt x.Old+wt x.Next⟩
def tE(x:Al):wt x=wt x.Sn+wt x.Cur+wt x.Old+wt x.Next:=rfl
end Go.D
namespace Go.D
def RD(a:Aq):Bool:=YC a.Host 0 4294967295&&YC a.Port 0 65535
end Go.D
namespace Go.D
open Option renaming bind→ob
noncomputable section
def Ff(a0:List Int)(a1:Int):=
 cond (decide ((qC .i64 a1 (a0.length:Int))<0))
 (some (-1))
 (some (qC .i64 a1 (a0.length:Int)))
def Bl(a0:Ap)(a1:Int):=
 ob (vA a0.Bits a1) λr1=>
 cond (decide (r1<0))
 (some (-1))
 (some r1)
def Bm(a0:As)(a1:Int):=
 ob (vA a0.Key a1) λr1=>
 cond (decide (r1<0))
 (some (-1))
 (ob (vA a0.Win r1) λr2=>
 cond (decide (r2<0))
 (some (-1))
 (some r2))
def Bn(a0:Al)(a1:Int):=
 ob (vA a0.Sn a1) λr1=>
 cond (decide (r1<0))
 (some (-1))
 (ob (vA a0.Cur r1) λr2=>
 cond (decide (r2<0))
 (some (-1))
 (ob (vA a0.Old r2) λr3=>
 cond (decide (r3<0))
 (some (-1))
 (ob (vA a0.Next r3) λr4=>
 cond (decide (r4<0))
 (some (-1))
 (some r4))))
def Fg(a0:List Int):=
 cond (decide (0≤(a0.length:Int))&&decide ((a0.length:Int)≤(nA:Int))&&((a0.length:Int)==(a0.length:Int))) (DA (λ(y1:(List Int))=>
 some y1) λk2=>
 KA FU (λ(x3:Int×(List Int)) k4=>
 cond (decide (x3.1<(a0.length:Int)))
 (ob (NA a0 x3.1) λe5=>
 cond (decide (0≤x3.1)&&decide (x3.1<(x3.2.length:Int))) (ob (x3.2[x3.1.toNat]?) λe6=>
 k4 ((PA .i64 x3.1 1),(List.set x3.2 x3.1.toNat e5))) none)
 (k2 x3.2)) (0,(List.replicate ((a0.length:Int):Int).toNat (0:Int)))) none
def Bo(a0:Ap):=
 ob (eA a0.Bits) λr1=>
 some (⟨a0.Top,r1⟩:Ap)
def Bp(a0:As):=
 ob (eA a0.Key) λr1=>
 ob (eA a0.Win) λr2=>
 some (⟨a0.N,r1,a0.Seq,r2⟩:As)
def Bq(a0:Al):=
 ob (eA a0.Sn) λr1=>
 ob (eA a0.Cur) λr2=>
 ob (eA a0.Old) λr3=>
 ob (eA a0.Next) λr4=>
 some (⟨a0.Role,r1,r2,r3,a0.HasOld,a0.Until,r4⟩:Al)
def Fh(a0:List Int)(a1:List Int):=
 cond ((a0.length:Int) !=(a1.length:Int))
 (some false)
 (DA (λ(y1:Unit)=>
 some true) λk2=>
 KA FU (λ(x3:Int) k4=>
 cond (decide (x3<(a0.length:Int)))
 (ob (NA a0 x3) λe5=>
 ob (NA a1 x3) λe6=>
 cond (e5 !=e6)
 (some false)
 (k4 (PA .i64 x3 1)))
 (k2 ())) 0)
def Br(a0:Ap)(a1:Ap):=
 cond (a0.Top !=a1.Top)
 (some false)
 (cond (!(mA a0.Bits a1.Bits))
 (some false)
 (some true))
def Bs(a0:As)(a1:As):=
 cond (a0.N !=a1.N)
 (some false)
 (cond (!(mA a0.Key a1.Key))
 (some false)
 (cond (a0.Seq !=a1.Seq)
 (some false)
 (cond (!(mA a0.Win a1.Win))
 (some false)
 (some true))))
def Bt(a0:Al)(a1:Al):=
 cond (a0.Role !=a1.Role)
 (some false)
 (cond (!(mA a0.Sn a1.Sn))
 (some false)
 (cond (!(mA a0.Cur a1.Cur))
 (some false)
 (cond (!(mA a0.Old a1.Old))
 (some false)
 (cond (!(a0.HasOld==a1.HasOld))
 (some false)
 (cond (a0.Until !=a1.Until)
 (some false)
 (cond (!(mA a0.Next a1.Next))
 (some false)
 (some true)))))))
end
end Go.D
namespace Go.D
def aV(a:Al)(left:Int)(h:0≤left):Bn a left=some (OB a left):=by
 simp only[Bn];refine oB (by omega) (λhn=>pB (by rw[tE];omega)) λh0=>?_;refine oB (by omega) (λhn=>pB (by rw[tE];omega)) λh1=>?_;refine oB (by omega) (λhn=>pB (by rw[tE];omega)) λh2=>?_;refine oB (by omega) (λhn=>pB (by rw[tE];omega)) λh3=>?_;refine congrArg some ?_;have hp:=ID (left:=left) (a:=a) (by rw[tE];omega);rw[tE]at hp;omega
def wI.ok{x}(hb:rA [.v .Chan, .v .int] x){r}:vA (α:=Al) x.1 x.2=some r→Bn x.1 x.2=some r:=CA λh=>aV x.1 x.2 h
def wV(a:Al)(h:wt a≤nA):Bq a=some a:=by
 rw[tE]at h;simp only[Bq,eA];rw[IA (by omega),IA (by omega),IA (by omega),IA (by omega)]
def hI.ok{x}(_:rA [.v .Chan] x){r}:eA (α:=Al) x=some r→Bq x=some r:=CA λh=>wV x h
def qV(a b:Al):Bt a b=some (mA a b):=by
 simp only[Bt];refine GB (λy:Al=>y.Role) λh0=>?_;refine fB (λy:Al=>y.Sn) λh1=>?_;refine fB (λy:Al=>y.Cur) λh2=>?_;refine fB (λy:Al=>y.Old) λh3=>?_;refine dP (λy:Al=>y.HasOld) λh4=>?_;refine GB (λy:Al=>y.Until) λh5=>?_;refine fB (λy:Al=>y.Next) λh6=>?_;exact kD (by cases a;cases b;simp_all)
def iI.ok{x}(_:rA [.v .Chan, .v .Chan] x):Bt x.1 x.2=some (mA x.1 x.2):=qV x.1 x.2
def zag(a:As)(left:Int)(h:0≤left):Bm a left=some (OB a left):=by
 simp only[Bm];refine oB (by omega) (λhn=>pB (by rw[YE];omega)) λh0=>?_;refine oB (by omega) (λhn=>pB (by rw[YE];omega)) λh1=>?_;refine congrArg some ?_;have hp:=ID (left:=left) (a:=a) (by rw[YE];omega);rw[YE]at hp;omega
def QI.ok{x}(hb:rA [.v .Ep, .v .int] x){r}:vA (α:=As) x.1 x.2=some r→Bm x.1 x.2=some r:=CA λh=>zag x.1 x.2 h
def zam(a:As)(h:wt a≤nA):Bp a=some a:=by
 rw[YE]at h;simp only[Bp,eA];rw[IA (by omega),IA (by omega)]
def SI.ok{x}(_:rA [.v .Ep] x){r}:eA (α:=As) x=some r→Bp x=some r:=CA λh=>zam x h
def zaj(a b:As):Bs a b=some (mA a b):=by
 simp only[Bs];refine GB (λy:As=>y.N) λh0=>?_;refine fB (λy:As=>y.Key) λh1=>?_;refine GB (λy:As=>y.Seq) λh2=>?_;refine fB (λy:As=>y.Win) λh3=>?_;exact kD (by cases a;cases b;simp_all)
def ZI.ok{x}(_:rA [.v .Ep, .v .Ep] x):Bs x.1 x.2=some (mA x.1 x.2):=zaj x.1 x.2
def zab(a:Ap)(left:Int)(h:0≤left):Bl a left=some (OB a left):=by
 simp only[Bl];refine oB (by omega) (λhn=>pB (by rw[ZF];omega)) λh0=>?_;refine congrArg some ?_;have hp:=ID (left:=left) (a:=a) (by rw[ZF];omega);rw[ZF]at hp;omega
def HI.ok{x}(hb:rA [.v .Win, .v .int] x){r}:vA (α:=Ap) x.1 x.2=some r→Bl x.1 x.2=some r:=CA λh=>zab x.1 x.2 h
def zac(a:Ap)(h:wt a≤nA):Bo a=some a:=by
 rw[ZF]at h;simp only[Bo,eA];rw[IA (by omega)]
def KI.ok{x}(_:rA [.v .Win] x){r}:eA (α:=Ap) x=some r→Bo x=some r:=CA λh=>zac x h
def zV(a b:Ap):Br a b=some (mA a b):=by
 simp only[Br];refine GB (λy:Ap=>y.Top) λh0=>?_;refine fB (λy:Ap=>y.Bits) λh1=>?_;exact kD (by cases a;cases b;simp_all)
def LI.ok{x}(_:rA [.v .Win, .v .Win] x):Br x.1 x.2=some (mA x.1 x.2):=zV x.1 x.2
def GL.ok{x}(hb:rA [.sl .int, .v .int] x){r}:vA (α:=List Int) x.1 x.2=some r→Ff x.1 x.2=some r:=CA λh=>yO (α:=Int) (λ_=>rfl) x.1 h (PF hb.2) hb.1.1
def IL.ok{x}(hb:rA [.sl .int] x){r}:eA (α:=List Int) x=some r→Fg x=some r:=CA λh=>RQ (α:=Int) x _ hb.1 (by have h:wt (show List Int from x)≤nA:=h;rw[zK]at h;exact h) (λy=>y) (λ_=>rfl)
def LL.ok{x}(hb:rA [.sl .int, .sl .int] x):Fh x.1 x.2=some (mA x.1 x.2):=JF (α:=Int) x.1 x.2 hb.1.1 _ zd1
end Go.D
namespace Go.D
def AQ(a:Aq):DA (R:=Bool) (λ(y:Bool)=>some y) (λk=>cond (YC a.Host 0 4294967295) (k (YC a.Port 0 65535)) (k false))=some (RD a):=by
 simp only[DA,RD];cases YC a.Host 0 4294967295<;>rfl
end Go.D
