/-
 Sizes of the program's data.
-/
import Derived.Test.YthmhafeaiaigoaaGreatN1
set_option linter.all false
namespace Go.D
instance:Wt Aq:=⟨λx=>wt x.Bits⟩
def gT(x:Aq):wt x=wt x.Bits:=rfl
instance:Wt Ax:=⟨λx=>wt x.Key+wt x.Win⟩
def yL(x:Ax):wt x=wt x.Key+wt x.Win:=rfl
instance:Wt Ak:=⟨λx=>wt x.Sn+wt x.Cur+wt x.Old+wt x.Next⟩
def MH(x:Ak):wt x=wt x.Sn+wt x.Cur+wt x.Old+wt x.Next:=rfl
end Go.D
namespace Go.D
noncomputable section
def GA(a:Ai):Bool:=eA a.Host 0 4294967295&&eA a.Port 0 65535
def NA(n:Int):Bool:=n==0||n==1
def nA(b:List UInt8):Bool:=(b.length:Int)==12
def FC(l:List Int)(n:Int):Bool:=(l.all λe=>eA e 0 4294967295)&&(l.length:Int)==n
def gD(w:Aq)(n:Nat):Bool:=(w.Bits[n % 1024 / 32]?).any λe=>PB .i64 (GE .i64 e ((n % 32:Nat):Int)) 1==1
def YF(w:Aq)(n:Int):Option Bool:=pt (0≤n∧w.Bits.length=32) (gD w n.toNat)
def iD(w:Aq):Bool:=eA w.Top (-1) 281474976710655&&FC w.Bits 32&&!(HB 1024 λi=>decide (w.Top<(i:Int))&&gD w i)&&(w.Top== -1||gD w w.Top.toNat)
def zeo(a b:List Int):Bool:=a==b
def aD(e:Ax):Bool:=eA e.N 0 4294967295&&(e.Key.length:Int)==32&&eA e.Seq 0 281474976710656&&iD e.Win
def zau(a b:Ax):Bool:=a.N==b.N&&a.Key==b.Key&&a.Seq==b.Seq&&a.Win.Top==b.Win.Top&&a.Win.Bits==b.Win.Bits
def FO(a b:Ax):Option Bool:=pt (wt a≤bA∧wt b≤bA) (zau a b)
def XF(e:Ax):Bool:=e.N==0&&(e.Key.length:Int)==0&&e.Seq==0&&e.Win.Top==0&&(e.Win.Bits.length:Int)==0
def TG(c:Ak):Bool:=bif c.HasOld then aD c.Old&&c.Old.N==sA .i64 c.Cur.N 1&&(eA c.Until 0 1000005||(c.Until== -1&&c.Role==1))else XF c.Old&&c.Until==0
def zdX(c:Ak):Option Bool:=pt (wt c≤bA) (TG c)
def nC(c:Ak):Bool:=NA c.Role&&nA c.Sn&&aD c.Cur&&TG c&&((c.Next.length:Int)==0||(c.Role==0&&(c.Next.length:Int)==32&&decide (c.Cur.N<4294967295)))
def uC(c:Ak):Option Bool:=pt (wt c≤bA) (nC c)
end
end Go.D
namespace Go.D
open Option renaming bind→ob
noncomputable section
def Qy(a0:Aq)(a1:Int):=
 ob (kA a0.Bits (CC .i64 (zA .i64 a1 1024) 32)) λe1=>
 cond (decide ((zA .i64 (zA .i64 a1 1024) 32)<0)) none (let x2:Int:=GE .i64 e1 (zA .i64 (zA .i64 a1 1024) 32)
 some ((PB .i64 x2 1)==1))
def Lj(a0:Aq):=
 aA (λy1=>
 cond (y1)
 (some false)
 (aA (λ(y4:Unit)=>
 aA (λy9=>
 cond (y9)
 (some false)
 (aA (λ(y12:Unit)=>
 some true) λk13=>
 tA FU (λ(x14:Int) k15=>
 cond (decide (x14<1024))
 (ob (YF a0 x14) λr16=>
 cond (r16)
 (some false)
 (k15 (iA .i64 x14 1)))
 (k13 ())) (iA .i64 a0.Top 1))) λk10=>
 cond (decide (a0.Top≥0))
 (ob (YF a0 a0.Top) λr11=>
 k10 (!r11))
 (k10 false)) λk5=>
 tA FU (λ(x6:Int) k7=>
 cond (decide (x6<32))
 (ob (kA a0.Bits x6) λe8=>
 cond (!(eA e8 0 4294967295))
 (some false)
 (k7 (iA .i64 x6 1)))
 (k5 ())) 0)) λk2=>
 cond ((a0.Bits.length:Int) !=32)
 (k2 true)
 (let r3:Bool:=eA a0.Top (-1) 281474976710655
 k2 (!r3))
def Qz(a0:Ax):=
 aA (λ(y1:Bool)=>
 some y1) λk2=>
 cond ((eA a0.N 0 4294967295))
 (cond ((a0.Key.length:Int)==32)
 (cond ((eA a0.Seq 0 281474976710656))
 (k2 (iD a0.Win))
 (k2 false))
 (k2 false))
 (k2 false)
def Lk(a0:Ax):=
 aA (λ(y1:Bool)=>
 some y1) λk2=>
 cond (a0.N==0)
 (cond ((a0.Key.length:Int)==0)
 (cond (a0.Seq==0)
 (cond (a0.Win.Top==0)
 (k2 ((a0.Win.Bits.length:Int)==0))
 (k2 false))
 (k2 false))
 (k2 false))
 (k2 false)
def Ll(a0:Ak):=
 aA (λy1=>
 cond (y1)
 (some false)
 (aA (λ(y3:Unit)=>
 cond ((a0.Next.length:Int)==0)
 (some true)
 (aA (λ(y11:Bool)=>
 some y11) λk12=>
 cond (a0.Role==0)
 (cond ((a0.Next.length:Int)==32)
 (k12 (decide (a0.Cur.N<4294967295)))
 (k12 false))
 (k12 false))) λk4=>
 cond (a0.HasOld)
 (aA (λ(y5:Int)=>
 aA (λy7=>
 cond (y7)
 (some false)
 (k4 ())) λk8=>
 cond (!(aD a0.Old))
 (k8 true)
 (cond (a0.Old.N !=(sA .i64 a0.Cur.N 1))
 (k8 true)
 (k8 (!(eA a0.Until y5 1000005))))) λk6=>
 cond (a0.Role==0)
 (k6 0)
 (k6 (-1)))
 (aA (λy9=>
 cond (y9)
 (some false)
 (k4 ())) λk10=>
 cond (!(XF a0.Old))
 (k10 true)
 (k10 (a0.Until !=0))))) λk2=>
 cond (!(eA a0.Role 0 1))
 (k2 true)
 (cond ((a0.Sn.length:Int) !=12)
 (k2 true)
 (k2 (!(aD a0.Cur))))
def Pn(a0:Int):=
 aA (λ(y1:Bool)=>
 some y1) λk2=>
 cond (a0==0)
 (k2 true)
 (k2 (a0==1))
def Ra(a0:List UInt8):=
 some ((a0.length:Int)==12)
def Po(a0:List Int)(a1:Int):=
 aA (λ(y1:Unit)=>
 some ((a0.length:Int)==a1)) λk2=>
 tA FU (λ(x3:Int) k4=>
 cond (decide (x3<(a0.length:Int)))
 (ob (kA a0 x3) λe5=>
 cond (!(eA e5 0 4294967295))
 (some false)
 (k4 (iA .i64 x3 1)))
 (k2 ())) 0
def Rb(a0:Aq)(a1:Int):=
 ob (kA a0.Bits (CC .i64 (zA .i64 a1 1024) 32)) λe1=>
 cond (decide ((zA .i64 a1 32)<0)) none (let x2:Int:=PB .i64 (GE .i64 e1 (zA .i64 a1 32)) 1
 some (x2==1))
def Lm(a0:Aq):=
 aA (λy1=>
 cond (y1)
 (some false)
 (aA (λ(y4:Unit)=>
 aA (λ(y9:Bool)=>
 some y9) λk10=>
 cond (a0.Top==(-1))
 (k10 true)
 (ob (YF a0 a0.Top) λr11=>
 k10 r11)) λk5=>
 tA FU (λ(x6:Int) k7=>
 cond (decide (x6<1024))
 (ob (YF a0 x6) λr8=>
 cond (r8)
 (some false)
 (k7 (iA .i64 x6 1)))
 (k5 ())) (iA .i64 a0.Top 1))) λk2=>
 let r3:Bool:=eA a0.Top (-1) 281474976710655
 cond (!r3)
 (k2 true)
 (k2 (!(FC a0.Bits 32)))
def Rc(a0:Ax):=
 aA (λ(y1:Bool)=>
 some y1) λk2=>
 cond ((eA a0.N 0 4294967295))
 (cond ((a0.Key.length:Int)==32)
 (cond ((eA a0.Seq 0 281474976710656))
 (k2 (iD a0.Win))
 (k2 false))
 (k2 false))
 (k2 false)
def Rd(a0:List Int)(a1:List Int):=
 cond ((a0.length:Int) !=(a1.length:Int))
 (some false)
 (aA (λ(y1:Unit)=>
 some true) λk2=>
 tA FU (λ(x3:Int) k4=>
 cond (decide (x3<(a0.length:Int)))
 (ob (kA a0 x3) λe5=>
 ob (kA a1 x3) λe6=>
 cond (e5 !=e6)
 (some false)
 (k4 (iA .i64 x3 1)))
 (k2 ())) 0)
def Ln(a0:Ax)(a1:Ax):=
 aA (λ(y1:Bool)=>
 some y1) λk2=>
 cond (a0.N==a1.N)
 (ob (EB a0.Key a1.Key) λr3=>
 cond (r3)
 (cond (a0.Seq==a1.Seq)
 (cond (a0.Win.Top==a1.Win.Top)
 (k2 (zeo a0.Win.Bits a1.Win.Bits))
 (k2 false))
 (k2 false))
 (k2 false))
 (k2 false)
def Lo(a0:Ak):=
 cond (!a0.HasOld)
 (aA (λ(y1:Bool)=>
 some y1) λk2=>
 ob (FO a0.Old (⟨0,[],0,(⟨0,[]⟩:Aq)⟩:Ax)) λr3=>
 cond (r3)
 (k2 (a0.Until==0))
 (k2 false))
 (aA (λy4=>
 cond (y4)
 (some false)
 (aA (λ(y6:Bool)=>
 some y6) λk7=>
 cond ((eA a0.Until 0 1000005))
 (k7 true)
 (cond (a0.Until==(-1))
 (k7 (a0.Role==1))
 (k7 false)))) λk5=>
 cond (!(aD a0.Old))
 (k5 true)
 (k5 (a0.Old.N !=(sA .i64 a0.Cur.N 1))))
def Lp(a0:Ak):=
 aA (λy1=>
 cond (y1)
 (some false)
 (aA (λ(y4:Bool)=>
 some y4) λk5=>
 cond ((a0.Next.length:Int)==0)
 (k5 true)
 (cond (a0.Role==0)
 (cond ((a0.Next.length:Int)==32)
 (k5 (decide (a0.Cur.N<4294967295)))
 (k5 false))
 (k5 false)))) λk2=>
 cond (!(NA a0.Role))
 (k2 true)
 (cond (!(nA a0.Sn))
 (k2 true)
 (cond (!(aD a0.Cur))
 (k2 true)
 (ob (zdX a0) λr3=>
 k2 (!r3))))
end
end Go.D
namespace Go.D
end Go.D
namespace Go.D
def zke(a:Ai):aA (R:=Bool) (λ(y:Bool)=>some y) (λk=>cond (eA a.Host 0 4294967295) (k (eA a.Port 0 65535)) (k false))=some (GA a):=by
 simp only[aA,GA];cases eA a.Host 0 4294967295<;>rfl
def fD{n lo hi:Int}:eA n lo hi=true↔lo≤n∧n≤hi:=by simp[eA]
def zv0{n lo hi:Int}:eA n lo hi=false↔¬(lo≤n∧n≤hi):=by
 rw[←fD];cases eA n lo hi<;>simp
def MU.ok{x}(_:xA [.v .int] x):Pn x=some (NA x):=by
 simp only[Pn,aA,cD,Bool.cond_true_left];rfl
def zbf.ok{x}(_:xA [.sl .byte] x):Ra x=some (nA x):=rfl
def zfh(l:List Int)(hl:l.length≤maxLen)(z:Option Bool):tA FU (λ(x3:Int) k4=>cond (decide (x3<(l.length:Int))) (Option.bind (kA l x3) λe5=>cond (!(eA e5 0 4294967295)) (some false) (k4 (iA .i64 x3 1))) z) 0
  =bif l.all λe=>eA e 0 4294967295 then z else some false:=by
 rw[wS l hl (λe=>!(eA e 0 4294967295)) (some false) z (λi k hi=>?_) (λk=>by simp only[XD,cond_false])]
 ·rw[List.all_eq_not_any_not];cases l.any _<;>rfl
 ·simp only[BD hi,cond_true,JB hi,mB]
def kU.ok{x}(hb:xA [.sl .int, .v .int] x):Po x.1 x.2=some (FC x.1 x.2):=by
 simp only[Po,aA];rw[zfh (show List Int from x.1) hb.1.1,FC];cases List.all _ _<;>rfl
def zmj(w:Aq)(n:Nat)(h:w.Bits.length=32)(hn:n≤maxLen){b:Int}(hb:b=((n % 32:Nat):Int)):
  (Option.bind (kA w.Bits (CC .i64 (zA .i64 (n:Int) 1024) 32)) λe1=>cond (decide (b<0)) none (some (PB .i64 (GE .i64 e1 b) 1==1)))=some (gD w n):=by
 have e1:zA .i64 (n:Int) 1024=((n % 1024:Nat):Int):=NS n 1024;have e2:CC .i64 ((n % 1024:Nat):Int) 32=((n % 1024 / 32:Nat):Int):=zvc _ 32 (by omega) (by omega);have hi:n % 1024 / 32<w.Bits.length:=by omega
 have hz:decide (b<0)=false:=by rw[decide_eq_false_iff_not];omega
 rw[e1,e2,JB hi,mB,hz,cond_false,gD,PF hi,hb]
def zmF(n:Nat):zA .i64 (n:Int) 32=((n % 32:Nat):Int):=NS n 32
def cG{n:Int}(h:0≤n):∃m:Nat,n=(m:Int):=Int.eq_ofNat_of_zero_le h
def zmx{n:Int}(hb:DI .int n):n≤9223372036854775807:=zwd hb
def zbM.ok{x}(hb:xA [.v .Win, .v .int] x){r}:YF x.1 x.2=some r→Rb x.1 x.2=some r:=TA λh=>by
 obtain⟨w,n⟩:=x;obtain⟨m,hm⟩:=cG h.1;have hm:n=(m:Int):=hm;have h9:=zmx hb.2;have h9:(n:Int)≤9223372036854775807:=h9;subst hm;exact zmj (w:Aq) m h.2 (by unfold maxLen;omega) (zmF m)
def zcs.ok{x}(hb:xA [.v .Win, .v .int] x){r}:YF x.1 x.2=some r→Qy x.1 x.2=some r:=TA λh=>by
 obtain⟨w,n⟩:=x;obtain⟨m,hm⟩:=cG h.1;have hm:n=(m:Int):=hm;have h9:=zmx hb.2;have h9:(n:Int)≤9223372036854775807:=h9;subst hm;have e1:zA .i64 (m:Int) 1024=((m % 1024:Nat):Int):=NS m 1024;exact zmj (w:Aq) m h.2 (by unfold maxLen;omega) (b:=zA .i64 (zA .i64 (m:Int) 1024) 32) (by rw[e1,zmF];congr 1;omega)
def zkV(w:Aq)(h:w.Bits.length=32)(ht:eA w.Top (-1) 281474976710655=true)(z:Option Bool):
  tA FU (λ(x6:Int) k7=>cond (decide (x6<1024)) (Option.bind (YF w x6) λr=>cond r (some false) (k7 (iA .i64 x6 1))) z) (iA .i64 w.Top 1)
  =bif HB 1024 (λi=>decide (w.Top<(i:Int))&&gD w i)then some false else z:=by
 have ht:=fD.1 ht;obtain⟨a,ha⟩:=cG (n:=w.Top+1) (by omega);rw[iA,MB (by omega) (by omega),ha];rw[ztA a 1024 (by decide) (gD w) (some false) z (λi k hi=>?_) (λi k hi=>?_)]
 ·have e:HB 1024 (λi=>decide (a≤i)&&gD w i)=HB 1024 (λi=>decide (w.Top<(i:Int))&&gD w i):=zkj λi _=>by
   rw[show decide (w.Top<(i:Int))=decide (a≤i)from decide_eq_decide.2 (by omega)]
  rw[e]
 ·rw[decide_eq_true (p:=(i:Int)<1024) (by omega),cond_true,YF,UA ⟨by omega,h⟩,Int.toNat_natCast]
 ·rw[decide_eq_false (p:=(i:Int)<1024) (by omega),cond_false]
def WR.ok{x}(_:xA [.v .Win] x):Lm x=some (iD x):=by
 show Lm (x:Aq)=some (iD (x:Aq))
 generalize (show Aq from x)=w;simp only[Lm,aA,iD];cases ht:eA w.Top (-1) 281474976710655
 ·rfl
 cases hw:FC w.Bits 32
 ·rfl
 have hl:w.Bits.length=32:=by
  rw[FC,Bool.and_eq_true,beq_iff_eq]at hw;omega
 simp only[Bool.not_true,cond_false];rw[zkV w hl ht];cases HB 1024 _
 ·simp only[cond_false,Bool.not_false,Bool.true_and];cases hT:w.Top== -1
  ·simp only[cond_false,Bool.false_or];have:=fD.1 ht;have h1:w.Top≠ -1:=by simpa using hT
   rw[YF,UA ⟨by omega,hl⟩]
  ·rfl
 ·rfl
def ztM(l:List Int)(h:l.length=32)(z:Option Bool):tA FU (λ(x6:Int) k7=>cond (decide (x6<32)) (Option.bind (kA l x6) λe8=>cond (!(eA e8 0 4294967295)) (some false) (k7 (iA .i64 x6 1))) z) 0
  =bif l.all λe=>eA e 0 4294967295 then z else some false:=by
 have:=zfh l (by rw[h];decide) z;simp only[h]at this;exact this
def ZR.ok{x}(_:xA [.v .Win] x):Lj x=some (iD x):=by
 show Lj (x:Aq)=some (iD (x:Aq))
 generalize (show Aq from x)=w;simp only[Lj,aA,iD,FC]
 by_cases hl:w.Bits.length=32
 ·have e1:((w.Bits.length:Int) !=32)=false:=by simp[hl]
  have e2:((w.Bits.length:Int)==32)=true:=by simp[hl]
  rw[e1,e2];cases ht:eA w.Top (-1) 281474976710655
  ·rfl
  simp only[Bool.not_true,cond_false,Bool.and_true,Bool.true_and];rw[ztM _ hl];cases w.Bits.all _
  ·rfl
  simp only[cond_true,Bool.true_and];rw[zkV w hl ht];have:=fD.1 ht
  by_cases h0:0≤w.Top
  ·have e3:decide (w.Top≥0)=true:=by simpa using h0
   have e4:(w.Top== -1)=false:=by simp;omega
   rw[e3,e4,YF,cond_true,UA ⟨h0,hl⟩];cases gD w w.Top.toNat<;>cases HB 1024 _<;>rfl
  ·have e3:decide (w.Top≥0)=false:=by simpa using h0
   have e4:(w.Top== -1)=true:=by simp;omega
   rw[e3,e4];cases HB 1024 _<;>rfl
 ·have e1:((w.Bits.length:Int) !=32)=true:=by simp;omega
  have e2:((w.Bits.length:Int)==32)=false:=by simp;omega
  rw[e1,e2];simp
def zlD(e:Ax):(aA (R:=Bool) (λ(y1:Bool)=>some y1) λk2=>cond ((eA e.N 0 4294967295)) (cond ((e.Key.length:Int)==32) (cond ((eA e.Seq 0 281474976710656)) (k2 (iD e.Win)) (k2 false)) (k2 false)) (k2 false))=some (aD e):=by
 simp only[aA,cD,Bool.cond_false_right,aD]
 grind
def zcL.ok{x}(_:xA [.v .Ep] x):Rc x=some (aD x):=zlD x
def zcz.ok{x}(_:xA [.v .Ep] x):Qz x=some (aD x):=zlD x
def za7.ok{x}(hb:xA [.sl .int, .sl .int] x):Rd x.1 x.2=some (zeo x.1 x.2):=
 (zuZ (α:=Int) x.1 x.2 hb.1.1 _ zwN).trans (congrArg some (zwA _ _))
def QI{β:Type}{a b:List UInt8}{f:Bool→Option β}(h1:wt a≤bA)(h2:wt b≤bA):Option.bind (EB a b) f=f (a==b):=UA ⟨h1,h2⟩
def zpW(a b:Ax)(h:wt a≤bA∧wt b≤bA):Ln a b=some (zau a b):=by
 simp only[yL]at h;simp(disch:=omega) only[Ln,aA,QI,cD,Bool.cond_false_right,zau,zeo]
 grind
def KR.ok{x}(_:xA [.v .Ep, .v .Ep] x){r}:FO x.1 x.2=some r→Ln x.1 x.2=some r:=TA λh=>zpW x.1 x.2 h
def zoa{α:Type}(l:List α):((l.length:Int)==0)=l.isEmpty:=by cases l<;>simp;omega
def zk1(e:Ax):zau e (⟨0,[],0,(⟨0,[]⟩:Aq)⟩:Ax)=XF e:=by
 simp only[zau,XF,zoa];cases e.Key<;>cases e.Win.Bits<;>rfl
def zg9:wt (⟨0,[],0,(⟨0,[]⟩:Aq)⟩:Ax)≤bA:=Nat.zero_le _
def OQ.ok{x}(_:xA [.v .Ep] x):Lk x=some (XF x):=by
 show Lk (x:Ax)=some (XF (x:Ax))
 generalize (show Ax from x)=e;simp only[Lk,aA,cD,Bool.cond_false_right,XF]
 grind
def zqt(c:Ak)(h:wt c≤bA):Lo c=some (TG c):=by
 rw[MH]at h;simp only[Lo,aA,FO,UA (p:=wt c.Old≤bA∧wt (⟨0,[],0,(⟨0,[]⟩:Aq)⟩:Ax)≤bA) ⟨by omega,zg9⟩,zk1,TG,cD]
 grind
def UR.ok{x}(_:xA [.v .Chan] x){r}:zdX x=some r→Lo x=some r:=TA λh=>zqt x h
def zpU(c:Ak)(h:wt c≤bA):Lp c=some (nC c):=by
 simp only[Lp,aA,zdX,UA h,nC,cD]
 grind
def uR.ok{x}(_:xA [.v .Chan] x){r}:uC x=some r→Lp x=some r:=TA λh=>zpU x h
def zpZ(c:Ak):Ll c=some (nC c):=by
 have e1:eA c.Role 0 1=(c.Role==0||c.Role==1):=by rw[Bool.eq_iff_iff,fD];simp;omega
 have e2:eA c.Until (-1) 1000005=(eA c.Until 0 1000005||c.Until== -1):=by rw[Bool.eq_iff_iff,Bool.or_eq_true,fD,fD];simp;omega
 simp only[Ll,aA,nC,TG,NA,nA,e1]
 by_cases h0:c.Role=0
 ·simp only[h0];cases c.HasOld<;>simp[cD]<;>grind
 ·by_cases h1:c.Role=1
  ·simp only[h1];cases c.HasOld<;>simp[cD,e2]<;>grind
  ·rw[beq_false_of_ne h0,beq_false_of_ne h1];rfl
def kR.ok{x}(_:xA [.v .Chan] x){r}:uC x=some r→Ll x=some r:=TA λ_=>zpZ x
end Go.D
