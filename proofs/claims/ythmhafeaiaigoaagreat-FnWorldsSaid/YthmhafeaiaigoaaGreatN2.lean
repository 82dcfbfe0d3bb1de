/-
 Sizes of the program's data.
-/
import Derived.Test.YthmhafeaiaigoaaGreatN1
set_option linter.all false
namespace Go.D
instance:Wt Aq:=⟨λx=>wt x.Bits⟩
def iT(x:Aq):wt x=wt x.Bits:=rfl
instance:Wt Ax:=⟨λx=>wt x.Key+wt x.Win⟩
def AL(x:Ax):wt x=wt x.Key+wt x.Win:=rfl
instance:Wt Ak:=⟨λx=>wt x.Sn+wt x.Cur+wt x.Old+wt x.Next⟩
def NH(x:Ak):wt x=wt x.Sn+wt x.Cur+wt x.Old+wt x.Next:=rfl
end Go.D
namespace Go.D
noncomputable section
def GA(a:Ah):Bool:=eA a.Host 0 4294967295&&eA a.Port 0 65535
def PA(n:Int):Bool:=n==0||n==1
def oA(b:List UInt8):Bool:=(b.length:Int)==12
def GC(l:List Int)(n:Int):Bool:=(l.all λe=>eA e 0 4294967295)&&(l.length:Int)==n
def cD(w:Aq)(n:Nat):Bool:=(w.Bits[n % 1024 / 32]?).any λe=>QB .i64 (GE .i64 e ((n % 32:Nat):Int)) 1==1
def XF(w:Aq)(n:Int):Option Bool:=pt (0≤n∧w.Bits.length=32) (cD w n.toNat)
def dD(w:Aq):Bool:=eA w.Top (-1) 281474976710655&&GC w.Bits 32&&!(IB 1024 λi=>decide (w.Top<(i:Int))&&cD w i)&&(w.Top== -1||cD w w.Top.toNat)
def zeb(a b:List Int):Bool:=a==b
def YC(e:Ax):Bool:=eA e.N 0 4294967295&&(e.Key.length:Int)==32&&eA e.Seq 0 281474976710656&&dD e.Win
def zan(a b:Ax):Bool:=a.N==b.N&&a.Key==b.Key&&a.Seq==b.Seq&&a.Win.Top==b.Win.Top&&a.Win.Bits==b.Win.Bits
def zO(a b:Ax):Option Bool:=pt (wt a≤bA∧wt b≤bA) (zan a b)
def VF(e:Ax):Bool:=e.N==0&&(e.Key.length:Int)==0&&e.Seq==0&&e.Win.Top==0&&(e.Win.Bits.length:Int)==0
def SG(c:Ak):Bool:=bif c.HasOld then YC c.Old&&c.Old.N==qA .i64 c.Cur.N 1&&(eA c.Until 0 1000005||(c.Until== -1&&c.Role==1))else VF c.Old&&c.Until==0
def zdK(c:Ak):Option Bool:=pt (wt c≤bA) (SG c)
def kC(c:Ak):Bool:=PA c.Role&&oA c.Sn&&YC c.Cur&&SG c&&((c.Next.length:Int)==0||(c.Role==0&&(c.Next.length:Int)==32&&decide (c.Cur.N<4294967295)))
def uC(c:Ak):Option Bool:=pt (wt c≤bA) (kC c)
end
end Go.D
namespace Go.D
open Option renaming bind→ob
noncomputable section
def Qu(a0:Aq)(a1:Int):=
 ob (kA a0.Bits (EC .i64 (zA .i64 a1 1024) 32)) λe1=>
 cond (decide ((zA .i64 (zA .i64 a1 1024) 32)<0)) none (let x2:Int:=GE .i64 e1 (zA .i64 (zA .i64 a1 1024) 32)
 some ((QB .i64 x2 1)==1))
def Li(a0:Aq):=
 aA (λy1=>
 cond (y1)
 (some false)
 (aA (λ(y4:Unit)=>
 aA (λy9=>
 cond (y9)
 (some false)
 (aA (λ(y12:Unit)=>
 some true) λk13=>
 sA FU (λ(x14:Int) k15=>
 cond (decide (x14<1024))
 (ob (XF a0 x14) λr16=>
 cond (r16)
 (some false)
 (k15 (iA .i64 x14 1)))
 (k13 ())) (iA .i64 a0.Top 1))) λk10=>
 cond (decide (a0.Top≥0))
 (ob (XF a0 a0.Top) λr11=>
 k10 (!r11))
 (k10 false)) λk5=>
 sA FU (λ(x6:Int) k7=>
 cond (decide (x6<32))
 (ob (kA a0.Bits x6) λe8=>
 cond (!(eA e8 0 4294967295))
 (some false)
 (k7 (iA .i64 x6 1)))
 (k5 ())) 0)) λk2=>
 cond ((a0.Bits.length:Int) !=32)
 (k2 true)
 (let r3:Bool:=eA a0.Top (-1) 281474976710655
 k2 (!r3))
def Qv(a0:Ax):=
 aA (λ(y1:Bool)=>
 some y1) λk2=>
 cond ((eA a0.N 0 4294967295))
 (cond ((a0.Key.length:Int)==32)
 (cond ((eA a0.Seq 0 281474976710656))
 (k2 (dD a0.Win))
 (k2 false))
 (k2 false))
 (k2 false)
def Lj(a0:Ax):=
 aA (λ(y1:Bool)=>
 some y1) λk2=>
 cond (a0.N==0)
 (cond ((a0.Key.length:Int)==0)
 (cond (a0.Seq==0)
 (cond (a0.Win.Top==0)
 (k2 ((a0.Win.Bits.length:Int)==0))
 (k2 false))
 (k2 false))
 (k2 false))
 (k2 false)
def Lk(a0:Ak):=
 aA (λy1=>
 cond (y1)
 (some false)
 (aA (λ(y3:Unit)=>
 cond ((a0.Next.length:Int)==0)
 (some true)
 (aA (λ(y11:Bool)=>
 some y11) λk12=>
 cond (a0.Role==0)
 (cond ((a0.Next.length:Int)==32)
 (k12 (decide (a0.Cur.N<4294967295)))
 (k12 false))
 (k12 false))) λk4=>
 cond (a0.HasOld)
 (aA (λ(y5:Int)=>
 aA (λy7=>
 cond (y7)
 (some false)
 (k4 ())) λk8=>
 cond (!(YC a0.Old))
 (k8 true)
 (cond (a0.Old.N !=(qA .i64 a0.Cur.N 1))
 (k8 true)
 (k8 (!(eA a0.Until y5 1000005))))) λk6=>
 cond (a0.Role==0)
 (k6 0)
 (k6 (-1)))
 (aA (λy9=>
 cond (y9)
 (some false)
 (k4 ())) λk10=>
 cond (!(VF a0.Old))
 (k10 true)
 (k10 (a0.Until !=0))))) λk2=>
 cond (!(eA a0.Role 0 1))
 (k2 true)
 (cond ((a0.Sn.length:Int) !=12)
 (k2 true)
 (k2 (!(YC a0.Cur))))
def Pm(a0:Int):=
 aA (λ(y1:Bool)=>
 some y1) λk2=>
 cond (a0==0)
 (k2 true)
 (k2 (a0==1))
def Qw(a0:List UInt8):=
 some ((a0.length:Int)==12)
def Pn(a0:List Int)(a1:Int):=
 aA (λ(y1:Unit)=>
 some ((a0.length:Int)==a1)) λk2=>
 sA FU (λ(x3:Int) k4=>
 cond (decide (x3<(a0.length:Int)))
 (ob (kA a0 x3) λe5=>
 cond (!(eA e5 0 4294967295))
 (some false)
 (k4 (iA .i64 x3 1)))
 (k2 ())) 0
def Qx(a0:Aq)(a1:Int):=
 ob (kA a0.Bits (EC .i64 (zA .i64 a1 1024) 32)) λe1=>
 cond (decide ((zA .i64 a1 32)<0)) none (let x2:Int:=QB .i64 (GE .i64 e1 (zA .i64 a1 32)) 1
 some (x2==1))
def Ll(a0:Aq):=
 aA (λy1=>
 cond (y1)
 (some false)
 (aA (λ(y4:Unit)=>
 aA (λ(y9:Bool)=>
 some y9) λk10=>
 cond (a0.Top==(-1))
 (k10 true)
 (ob (XF a0 a0.Top) λr11=>
 k10 r11)) λk5=>
 sA FU (λ(x6:Int) k7=>
 cond (decide (x6<1024))
 (ob (XF a0 x6) λr8=>
 cond (r8)
 (some false)
 (k7 (iA .i64 x6 1)))
 (k5 ())) (iA .i64 a0.Top 1))) λk2=>
 let r3:Bool:=eA a0.Top (-1) 281474976710655
 cond (!r3)
 (k2 true)
 (k2 (!(GC a0.Bits 32)))
def Qy(a0:Ax):=
 aA (λ(y1:Bool)=>
 some y1) λk2=>
 cond ((eA a0.N 0 4294967295))
 (cond ((a0.Key.length:Int)==32)
 (cond ((eA a0.Seq 0 281474976710656))
 (k2 (dD a0.Win))
 (k2 false))
 (k2 false))
 (k2 false)
def Qz(a0:List Int)(a1:List Int):=
 cond ((a0.length:Int) !=(a1.length:Int))
 (some false)
 (aA (λ(y1:Unit)=>
 some true) λk2=>
 sA FU (λ(x3:Int) k4=>
 cond (decide (x3<(a0.length:Int)))
 (ob (kA a0 x3) λe5=>
 ob (kA a1 x3) λe6=>
 cond (e5 !=e6)
 (some false)
 (k4 (iA .i64 x3 1)))
 (k2 ())) 0)
def Lm(a0:Ax)(a1:Ax):=
 aA (λ(y1:Bool)=>
 some y1) λk2=>
 cond (a0.N==a1.N)
 (ob (FB a0.Key a1.Key) λr3=>
 cond (r3)
 (cond (a0.Seq==a1.Seq)
 (cond (a0.Win.Top==a1.Win.Top)
 (k2 (zeb a0.Win.Bits a1.Win.Bits))
 (k2 false))
 (k2 false))
 (k2 false))
 (k2 false)
def Ln(a0:Ak):=
 cond (!a0.HasOld)
 (aA (λ(y1:Bool)=>
 some y1) λk2=>
 ob (zO a0.Old (⟨0,[],0,(⟨0,[]⟩:Aq)⟩:Ax)) λr3=>
 cond (r3)
 (k2 (a0.Until==0))
 (k2 false))
 (aA (λy4=>
 cond (y4)
 (some false)
 (aA (λ(y6:Bool)=>
 some y6) λk7=>
 cond ((eA a0.Until 0 1000005))
 (k7 true)
 (cond (a0.Until==(-1))
 (k7 (a0.Role==1))
 (k7 false)))) λk5=>
 cond (!(YC a0.Old))
 (k5 true)
 (k5 (a0.Old.N !=(qA .i64 a0.Cur.N 1))))
def Lo(a0:Ak):=
 aA (λy1=>
 cond (y1)
 (some false)
 (aA (λ(y4:Bool)=>
 some y4) λk5=>
 cond ((a0.Next.length:Int)==0)
 (k5 true)
 (cond (a0.Role==0)
 (cond ((a0.Next.length:Int)==32)
 (k5 (decide (a0.Cur.N<4294967295)))
 (k5 false))
 (k5 false)))) λk2=>
 cond (!(PA a0.Role))
 (k2 true)
 (cond (!(oA a0.Sn))
 (k2 true)
 (cond (!(YC a0.Cur))
 (k2 true)
 (ob (zdK a0) λr3=>
 k2 (!r3))))
end
end Go.D
namespace Go.D
end Go.D
namespace Go.D
def zj7(a:Ah):aA (R:=Bool) (λ(y:Bool)=>some y) (λk=>cond (eA a.Host 0 4294967295) (k (eA a.Port 0 65535)) (k false))=some (GA a):=by
 simp only[aA,GA];cases eA a.Host 0 4294967295<;>rfl
def bD{n lo hi:Int}:eA n lo hi=true↔lo≤n∧n≤hi:=by simp[eA]
def zvS{n lo hi:Int}:eA n lo hi=false↔¬(lo≤n∧n≤hi):=by
 rw[←bD];cases eA n lo hi<;>simp
def JU.ok{x}(_:xA [.v .int] x):Pm x=some (PA x):=by
 simp only[Pm,aA,ZC,Bool.cond_true_left];rfl
def za8.ok{x}(_:xA [.sl .byte] x):Qw x=some (oA x):=rfl
def ze4(l:List Int)(hl:l.length≤maxLen)(z:Option Bool):sA FU (λ(x3:Int) k4=>cond (decide (x3<(l.length:Int))) (Option.bind (kA l x3) λe5=>cond (!(eA e5 0 4294967295)) (some false) (k4 (iA .i64 x3 1))) z) 0
  =bif l.all λe=>eA e 0 4294967295 then z else some false:=by
 rw[wS l hl (λe=>!(eA e 0 4294967295)) (some false) z (λi k hi=>?_) (λk=>by simp only[YD,cond_false])]
 ·rw[List.all_eq_not_any_not];cases l.any _<;>rfl
 ·simp only[yD hi,cond_true,KB hi,mB]
def iU.ok{x}(hb:xA [.sl .int, .v .int] x):Pn x.1 x.2=some (GC x.1 x.2):=by
 simp only[Pn,aA];rw[ze4 (show List Int from x.1) hb.1.1,GC];cases List.all _ _<;>rfl
def zmc(w:Aq)(n:Nat)(h:w.Bits.length=32)(hn:n≤maxLen){b:Int}(hb:b=((n % 32:Nat):Int)):
  (Option.bind (kA w.Bits (EC .i64 (zA .i64 (n:Int) 1024) 32)) λe1=>cond (decide (b<0)) none (some (QB .i64 (GE .i64 e1 b) 1==1)))=some (cD w n):=by
 have e1:zA .i64 (n:Int) 1024=((n % 1024:Nat):Int):=PS n 1024;have e2:EC .i64 ((n % 1024:Nat):Int) 32=((n % 1024 / 32:Nat):Int):=zu6 _ 32 (by omega) (by omega);have hi:n % 1024 / 32<w.Bits.length:=by omega
 have hz:decide (b<0)=false:=by rw[decide_eq_false_iff_not];omega
 rw[e1,e2,KB hi,mB,hz,cond_false,cD,NF hi,hb]
def zmy(n:Nat):zA .i64 (n:Int) 32=((n % 32:Nat):Int):=PS n 32
def cG{n:Int}(h:0≤n):∃m:Nat,n=(m:Int):=Int.eq_ofNat_of_zero_le h
def zmq{n:Int}(hb:GI .int n):n≤9223372036854775807:=zv3 hb
def zbG.ok{x}(hb:xA [.v .Win, .v .int] x){r}:XF x.1 x.2=some r→Qx x.1 x.2=some r:=TA λh=>by
 obtain⟨w,n⟩:=x;obtain⟨m,hm⟩:=cG h.1;have hm:n=(m:Int):=hm;have h9:=zmq hb.2;have h9:(n:Int)≤9223372036854775807:=h9;subst hm;exact zmc (w:Aq) m h.2 (by unfold maxLen;omega) (zmy m)
def zcl.ok{x}(hb:xA [.v .Win, .v .int] x){r}:XF x.1 x.2=some r→Qu x.1 x.2=some r:=TA λh=>by
 obtain⟨w,n⟩:=x;obtain⟨m,hm⟩:=cG h.1;have hm:n=(m:Int):=hm;have h9:=zmq hb.2;have h9:(n:Int)≤9223372036854775807:=h9;subst hm;have e1:zA .i64 (m:Int) 1024=((m % 1024:Nat):Int):=PS m 1024;exact zmc (w:Aq) m h.2 (by unfold maxLen;omega) (b:=zA .i64 (zA .i64 (m:Int) 1024) 32) (by rw[e1,zmy];congr 1;omega)
def zkO(w:Aq)(h:w.Bits.length=32)(ht:eA w.Top (-1) 281474976710655=true)(z:Option Bool):
  sA FU (λ(x6:Int) k7=>cond (decide (x6<1024)) (Option.bind (XF w x6) λr=>cond r (some false) (k7 (iA .i64 x6 1))) z) (iA .i64 w.Top 1)
  =bif IB 1024 (λi=>decide (w.Top<(i:Int))&&cD w i)then some false else z:=by
 have ht:=bD.1 ht;obtain⟨a,ha⟩:=cG (n:=w.Top+1) (by omega);rw[iA,UB (by omega) (by omega),ha];rw[ztr a 1024 (by decide) (cD w) (some false) z (λi k hi=>?_) (λi k hi=>?_)]
 ·have e:IB 1024 (λi=>decide (a≤i)&&cD w i)=IB 1024 (λi=>decide (w.Top<(i:Int))&&cD w i):=zkc λi _=>by
   rw[show decide (w.Top<(i:Int))=decide (a≤i)from decide_eq_decide.2 (by omega)]
  rw[e]
 ·rw[decide_eq_true (p:=(i:Int)<1024) (by omega),cond_true,XF,UA ⟨by omega,h⟩,Int.toNat_natCast]
 ·rw[decide_eq_false (p:=(i:Int)<1024) (by omega),cond_false]
def TR.ok{x}(_:xA [.v .Win] x):Ll x=some (dD x):=by
 show Ll (x:Aq)=some (dD (x:Aq))
 generalize (show Aq from x)=w;simp only[Ll,aA,dD];cases ht:eA w.Top (-1) 281474976710655
 ·rfl
 cases hw:GC w.Bits 32
 ·rfl
 have hl:w.Bits.length=32:=by
  rw[GC,Bool.and_eq_true,beq_iff_eq]at hw;omega
 simp only[Bool.not_true,cond_false];rw[zkO w hl ht];cases IB 1024 _
 ·simp only[cond_false,Bool.not_false,Bool.true_and];cases hT:w.Top== -1
  ·simp only[cond_false,Bool.false_or];have:=bD.1 ht;have h1:w.Top≠ -1:=by simpa using hT
   rw[XF,UA ⟨by omega,hl⟩]
  ·rfl
 ·rfl
def ztD(l:List Int)(h:l.length=32)(z:Option Bool):sA FU (λ(x6:Int) k7=>cond (decide (x6<32)) (Option.bind (kA l x6) λe8=>cond (!(eA e8 0 4294967295)) (some false) (k7 (iA .i64 x6 1))) z) 0
  =bif l.all λe=>eA e 0 4294967295 then z else some false:=by
 have:=ze4 l (by rw[h];decide) z;simp only[h]at this;exact this
def YR.ok{x}(_:xA [.v .Win] x):Li x=some (dD x):=by
 show Li (x:Aq)=some (dD (x:Aq))
 generalize (show Aq from x)=w;simp only[Li,aA,dD,GC]
 by_cases hl:w.Bits.length=32
 ·have e1:((w.Bits.length:Int) !=32)=false:=by simp[hl]
  have e2:((w.Bits.length:Int)==32)=true:=by simp[hl]
  rw[e1,e2];cases ht:eA w.Top (-1) 281474976710655
  ·rfl
  simp only[Bool.not_true,cond_false,Bool.and_true,Bool.true_and];rw[ztD _ hl];cases w.Bits.all _
  ·rfl
  simp only[cond_true,Bool.true_and];rw[zkO w hl ht];have:=bD.1 ht
  by_cases h0:0≤w.Top
  ·have e3:decide (w.Top≥0)=true:=by simpa using h0
   have e4:(w.Top== -1)=false:=by simp;omega
   rw[e3,e4,XF,cond_true,UA ⟨h0,hl⟩];cases cD w w.Top.toNat<;>cases IB 1024 _<;>rfl
  ·have e3:decide (w.Top≥0)=false:=by simpa using h0
   have e4:(w.Top== -1)=true:=by simp;omega
   rw[e3,e4];cases IB 1024 _<;>rfl
 ·have e1:((w.Bits.length:Int) !=32)=true:=by simp;omega
  have e2:((w.Bits.length:Int)==32)=false:=by simp;omega
  rw[e1,e2];simp
def zlv(e:Ax):(aA (R:=Bool) (λ(y1:Bool)=>some y1) λk2=>cond ((eA e.N 0 4294967295)) (cond ((e.Key.length:Int)==32) (cond ((eA e.Seq 0 281474976710656)) (k2 (dD e.Win)) (k2 false)) (k2 false)) (k2 false))=some (YC e):=by
 simp only[aA,ZC,Bool.cond_false_right,YC]
 grind
def zcD.ok{x}(_:xA [.v .Ep] x):Qy x=some (YC x):=zlv x
def zcr.ok{x}(_:xA [.v .Ep] x):Qv x=some (YC x):=zlv x
def za2.ok{x}(hb:xA [.sl .int, .sl .int] x):Qz x.1 x.2=some (zeb x.1 x.2):=
 (zuT (α:=Int) x.1 x.2 hb.1.1 _ zwE).trans (congrArg some (zwq _ _))
def VI{β:Type}{a b:List UInt8}{f:Bool→Option β}(h1:wt a≤bA)(h2:wt b≤bA):Option.bind (FB a b) f=f (a==b):=UA ⟨h1,h2⟩
def zpR(a b:Ax)(h:wt a≤bA∧wt b≤bA):Lm a b=some (zan a b):=by
 simp only[AL]at h;simp(disch:=omega) only[Lm,aA,VI,ZC,Bool.cond_false_right,zan,zeb]
 grind
def HR.ok{x}(_:xA [.v .Ep, .v .Ep] x){r}:zO x.1 x.2=some r→Lm x.1 x.2=some r:=TA λh=>zpR x.1 x.2 h
def zn5{α:Type}(l:List α):((l.length:Int)==0)=l.isEmpty:=by cases l<;>simp;omega
def zkU(e:Ax):zan e (⟨0,[],0,(⟨0,[]⟩:Aq)⟩:Ax)=VF e:=by
 simp only[zan,VF,zn5];cases e.Key<;>cases e.Win.Bits<;>rfl
def zg1:wt (⟨0,[],0,(⟨0,[]⟩:Aq)⟩:Ax)≤bA:=Nat.zero_le _
def IQ.ok{x}(_:xA [.v .Ep] x):Lj x=some (VF x):=by
 show Lj (x:Ax)=some (VF (x:Ax))
 generalize (show Ax from x)=e;simp only[Lj,aA,ZC,Bool.cond_false_right,VF]
 grind
def zqo(c:Ak)(h:wt c≤bA):Ln c=some (SG c):=by
 rw[NH]at h;simp only[Ln,aA,zO,UA (p:=wt c.Old≤bA∧wt (⟨0,[],0,(⟨0,[]⟩:Aq)⟩:Ax)≤bA) ⟨by omega,zg1⟩,zkU,SG,ZC]
 grind
def SR.ok{x}(_:xA [.v .Chan] x){r}:zdK x=some r→Ln x=some r:=TA λh=>zqo x h
def zpP(c:Ak)(h:wt c≤bA):Lo c=some (kC c):=by
 simp only[Lo,aA,zdK,UA h,kC,ZC]
 grind
def pR.ok{x}(_:xA [.v .Chan] x){r}:uC x=some r→Lo x=some r:=TA λh=>zpP x h
def zpV(c:Ak):Lk c=some (kC c):=by
 have e1:eA c.Role 0 1=(c.Role==0||c.Role==1):=by rw[Bool.eq_iff_iff,bD];simp;omega
 have e2:eA c.Until (-1) 1000005=(eA c.Until 0 1000005||c.Until== -1):=by rw[Bool.eq_iff_iff,Bool.or_eq_true,bD,bD];simp;omega
 simp only[Lk,aA,kC,SG,PA,oA,e1]
 by_cases h0:c.Role=0
 ·simp only[h0];cases c.HasOld<;>simp[ZC]<;>grind
 ·by_cases h1:c.Role=1
  ·simp only[h1];cases c.HasOld<;>simp[ZC,e2]<;>grind
  ·rw[beq_false_of_ne h0,beq_false_of_ne h1];rfl
def dR.ok{x}(_:xA [.v .Chan] x){r}:uC x=some r→Lk x=some r:=TA λ_=>zpV x
end Go.D
