/-
 Sizes of the program's data.
-/
import Derived.Test.YtmhnaidnoljllaaGreatN1
set_option linter.all false
namespace Go.D
instance:Wt Ap:=⟨λx=>wt x.Bits⟩
def ZU(x:Ap):wt x=wt x.Bits:=rfl
instance:Wt Av:=⟨λx=>wt x.Key+wt x.Win⟩
def EM(x:Av):wt x=wt x.Key+wt x.Win:=rfl
instance:Wt Am:=⟨λx=>wt x.Sn+wt x.Cur+wt x.Old+wt x.Next⟩
def fI(x:Am):wt x=wt x.Sn+wt x.Cur+wt x.Old+wt x.Next:=rfl
end Go.D
namespace Go.D
noncomputable section
def GA(a:Af):Bool:=eA a.Host 0 4294967295&&eA a.Port 0 65535
def LA(n:Int):Bool:=n==0||n==1
def mA(b:List UInt8):Bool:=(b.length:Int)==12
def uC(l:List Int)(n:Int):Bool:=(l.all λe=>eA e 0 4294967295)&&(l.length:Int)==n
def PC(w:Ap)(n:Nat):Bool:=(w.Bits[n % 1024 / 32]?).any λe=>zB .i64 (uE .i64 e ((n % 32:Nat):Int)) 1==1
def KF(w:Ap)(n:Int):Option Bool:=pt (0≤n∧w.Bits.length=32) (PC w n.toNat)
def RC(w:Ap):Bool:=eA w.Top (-1) 281474976710655&&uC w.Bits 32&&!(wB 1024 λi=>decide (w.Top<(i:Int))&&PC w i)&&(w.Top== -1||PC w w.Top.toNat)
def zdb(a b:List Int):Bool:=a==b
def JC(e:Av):Bool:=eA e.N 0 4294967295&&(e.Key.length:Int)==32&&eA e.Seq 0 281474976710656&&RC e.Win
def XU(a b:Av):Bool:=a.N==b.N&&a.Key==b.Key&&a.Seq==b.Seq&&a.Win.Top==b.Win.Top&&a.Win.Bits==b.Win.Bits
def nO(a b:Av):Option Bool:=pt (wt a≤bA∧wt b≤bA) (XU a b)
def JF(e:Av):Bool:=e.N==0&&(e.Key.length:Int)==0&&e.Seq==0&&e.Win.Top==0&&(e.Win.Bits.length:Int)==0
def GG(c:Am):Bool:=bif c.HasOld then JC c.Old&&c.Old.N==qA .i64 c.Cur.N 1&&(eA c.Until 0 1000005||(c.Until== -1&&c.Role==1))else JF c.Old&&c.Until==0
def zcK(c:Am):Option Bool:=pt (wt c≤bA) (GG c)
def XB(c:Am):Bool:=LA c.Role&&mA c.Sn&&JC c.Cur&&GG c&&((c.Next.length:Int)==0||(c.Role==0&&(c.Next.length:Int)==32&&decide (c.Cur.N<4294967295)))
def jC(c:Am):Option Bool:=pt (wt c≤bA) (XB c)
end
end Go.D
namespace Go.D
open Option renaming bind→ob
noncomputable section
def Oj(a0:Ap)(a1:Int):=
 ob (nA a0.Bits (sC .i64 (zA .i64 a1 1024) 32)) λe1=>
 cond (decide ((zA .i64 (zA .i64 a1 1024) 32)<0)) none (let x2:Int:=uE .i64 e1 (zA .i64 (zA .i64 a1 1024) 32)
 some ((zB .i64 x2 1)==1))
def Ju(a0:Ap):=
 aA (λy1=>
 cond (y1)
 (some false)
 (aA (λ(y4:Unit)=>
 aA (λy9=>
 cond (y9)
 (some false)
 (aA (λ(y12:Unit)=>
 some true) λk13=>
 wA FU (λ(x14:Int) k15=>
 cond (decide (x14<1024))
 (ob (KF a0 x14) λr16=>
 cond (r16)
 (some false)
 (k15 (gA .i64 x14 1)))
 (k13 ())) (gA .i64 a0.Top 1))) λk10=>
 cond (decide (a0.Top≥0))
 (ob (KF a0 a0.Top) λr11=>
 k10 (!r11))
 (k10 false)) λk5=>
 wA FU (λ(x6:Int) k7=>
 cond (decide (x6<32))
 (ob (nA a0.Bits x6) λe8=>
 cond (!(eA e8 0 4294967295))
 (some false)
 (k7 (gA .i64 x6 1)))
 (k5 ())) 0)) λk2=>
 cond ((a0.Bits.length:Int) !=32)
 (k2 true)
 (let r3:Bool:=eA a0.Top (-1) 281474976710655
 k2 (!r3))
def Ol(a0:Av):=
 aA (λ(y1:Bool)=>
 some y1) λk2=>
 cond ((eA a0.N 0 4294967295))
 (cond ((a0.Key.length:Int)==32)
 (cond ((eA a0.Seq 0 281474976710656))
 (k2 (RC a0.Win))
 (k2 false))
 (k2 false))
 (k2 false)
def Jv(a0:Av):=
 aA (λ(y1:Bool)=>
 some y1) λk2=>
 cond (a0.N==0)
 (cond ((a0.Key.length:Int)==0)
 (cond (a0.Seq==0)
 (cond (a0.Win.Top==0)
 (k2 ((a0.Win.Bits.length:Int)==0))
 (k2 false))
 (k2 false))
 (k2 false))
 (k2 false)
def Jw(a0:Am):=
 aA (λy1=>
 cond (y1)
 (some false)
 (aA (λ(y3:Unit)=>
 cond ((a0.Next.length:Int)==0)
 (some true)
 (aA (λ(y11:Bool)=>
 some y11) λk12=>
 cond (a0.Role==0)
 (cond ((a0.Next.length:Int)==32)
 (k12 (decide (a0.Cur.N<4294967295)))
 (k12 false))
 (k12 false))) λk4=>
 cond (a0.HasOld)
 (aA (λ(y5:Int)=>
 aA (λy7=>
 cond (y7)
 (some false)
 (k4 ())) λk8=>
 cond (!(JC a0.Old))
 (k8 true)
 (cond (a0.Old.N !=(qA .i64 a0.Cur.N 1))
 (k8 true)
 (k8 (!(eA a0.Until y5 1000005))))) λk6=>
 cond (a0.Role==0)
 (k6 0)
 (k6 (-1)))
 (aA (λy9=>
 cond (y9)
 (some false)
 (k4 ())) λk10=>
 cond (!(JF a0.Old))
 (k10 true)
 (k10 (a0.Until !=0))))) λk2=>
 cond (!(eA a0.Role 0 1))
 (k2 true)
 (cond ((a0.Sn.length:Int) !=12)
 (k2 true)
 (k2 (!(JC a0.Cur))))
def Nb(a0:Int):=
 aA (λ(y1:Bool)=>
 some y1) λk2=>
 cond (a0==0)
 (k2 true)
 (k2 (a0==1))
def Om(a0:List UInt8):=
 some ((a0.length:Int)==12)
def Nc(a0:List Int)(a1:Int):=
 aA (λ(y1:Unit)=>
 some ((a0.length:Int)==a1)) λk2=>
 wA FU (λ(x3:Int) k4=>
 cond (decide (x3<(a0.length:Int)))
 (ob (nA a0 x3) λe5=>
 cond (!(eA e5 0 4294967295))
 (some false)
 (k4 (gA .i64 x3 1)))
 (k2 ())) 0
def Oo(a0:Ap)(a1:Int):=
 ob (nA a0.Bits (sC .i64 (zA .i64 a1 1024) 32)) λe1=>
 cond (decide ((zA .i64 a1 32)<0)) none (let x2:Int:=zB .i64 (uE .i64 e1 (zA .i64 a1 32)) 1
 some (x2==1))
def Jx(a0:Ap):=
 aA (λy1=>
 cond (y1)
 (some false)
 (aA (λ(y4:Unit)=>
 aA (λ(y9:Bool)=>
 some y9) λk10=>
 cond (a0.Top==(-1))
 (k10 true)
 (ob (KF a0 a0.Top) λr11=>
 k10 r11)) λk5=>
 wA FU (λ(x6:Int) k7=>
 cond (decide (x6<1024))
 (ob (KF a0 x6) λr8=>
 cond (r8)
 (some false)
 (k7 (gA .i64 x6 1)))
 (k5 ())) (gA .i64 a0.Top 1))) λk2=>
 let r3:Bool:=eA a0.Top (-1) 281474976710655
 cond (!r3)
 (k2 true)
 (k2 (!(uC a0.Bits 32)))
def Oq(a0:Av):=
 aA (λ(y1:Bool)=>
 some y1) λk2=>
 cond ((eA a0.N 0 4294967295))
 (cond ((a0.Key.length:Int)==32)
 (cond ((eA a0.Seq 0 281474976710656))
 (k2 (RC a0.Win))
 (k2 false))
 (k2 false))
 (k2 false)
def Or(a0:List Int)(a1:List Int):=
 cond ((a0.length:Int) !=(a1.length:Int))
 (some false)
 (aA (λ(y1:Unit)=>
 some true) λk2=>
 wA FU (λ(x3:Int) k4=>
 cond (decide (x3<(a0.length:Int)))
 (ob (nA a0 x3) λe5=>
 ob (nA a1 x3) λe6=>
 cond (e5 !=e6)
 (some false)
 (k4 (gA .i64 x3 1)))
 (k2 ())) 0)
def Jy(a0:Av)(a1:Av):=
 aA (λ(y1:Bool)=>
 some y1) λk2=>
 cond (a0.N==a1.N)
 (ob (DB a0.Key a1.Key) λr3=>
 cond (r3)
 (cond (a0.Seq==a1.Seq)
 (cond (a0.Win.Top==a1.Win.Top)
 (k2 (zdb a0.Win.Bits a1.Win.Bits))
 (k2 false))
 (k2 false))
 (k2 false))
 (k2 false)
def Jz(a0:Am):=
 cond (!a0.HasOld)
 (aA (λ(y1:Bool)=>
 some y1) λk2=>
 ob (nO a0.Old (⟨0,[],0,(⟨0,[]⟩:Ap)⟩:Av)) λr3=>
 cond (r3)
 (k2 (a0.Until==0))
 (k2 false))
 (aA (λy4=>
 cond (y4)
 (some false)
 (aA (λ(y6:Bool)=>
 some y6) λk7=>
 cond ((eA a0.Until 0 1000005))
 (k7 true)
 (cond (a0.Until==(-1))
 (k7 (a0.Role==1))
 (k7 false)))) λk5=>
 cond (!(JC a0.Old))
 (k5 true)
 (k5 (a0.Old.N !=(qA .i64 a0.Cur.N 1))))
def Ka(a0:Am):=
 aA (λy1=>
 cond (y1)
 (some false)
 (aA (λ(y4:Bool)=>
 some y4) λk5=>
 cond ((a0.Next.length:Int)==0)
 (k5 true)
 (cond (a0.Role==0)
 (cond ((a0.Next.length:Int)==32)
 (k5 (decide (a0.Cur.N<4294967295)))
 (k5 false))
 (k5 false)))) λk2=>
 cond (!(LA a0.Role))
 (k2 true)
 (cond (!(mA a0.Sn))
 (k2 true)
 (cond (!(JC a0.Cur))
 (k2 true)
 (ob (zcK a0) λr3=>
 k2 (!r3))))
end
end Go.D
namespace Go.D
end Go.D
namespace Go.D
def ziu(a:Af):aA (R:=Bool) (λ(y:Bool)=>some y) (λk=>cond (eA a.Host 0 4294967295) (k (eA a.Port 0 65535)) (k false))=some (GA a):=by
 simp only[aA,GA];cases eA a.Host 0 4294967295<;>rfl
def yD{n lo hi:Int}:eA n lo hi=true↔lo≤n∧n≤hi:=by simp[eA]
def ztH{n lo hi:Int}:eA n lo hi=false↔¬(lo≤n∧n≤hi):=by
 rw[←yD];cases eA n lo hi<;>simp
def QT.ok{x}(_:xA [.v .int] x):Nb x=some (LA x):=by
 simp only[Nb,aA,dD,Bool.cond_true_left];rfl
def zap.ok{x}(_:xA [.sl .byte] x):Om x=some (mA x):=rfl
def zdQ(l:List Int)(hl:l.length≤maxLen)(z:Option Bool):wA FU (λ(x3:Int) k4=>cond (decide (x3<(l.length:Int))) (Option.bind (nA l x3) λe5=>cond (!(eA e5 0 4294967295)) (some false) (k4 (gA .i64 x3 1))) z) 0
  =bif l.all λe=>eA e 0 4294967295 then z else some false:=by
 rw[SN l hl (λe=>!(eA e 0 4294967295)) (some false) z (λi k hi=>?_) (λk=>by simp only[ED,cond_false])]
 ·rw[List.all_eq_not_any_not];cases l.any _<;>rfl
 ·simp only[lD hi,cond_true,WB hi,rB]
def wT.ok{x}(hb:xA [.sl .int, .v .int] x):Nc x.1 x.2=some (uC x.1 x.2):=by
 simp only[Nc,aA];rw[zdQ (show List Int from x.1) hb.1.1,uC];cases List.all _ _<;>rfl
def zkA(w:Ap)(n:Nat)(h:w.Bits.length=32)(hn:n≤maxLen){b:Int}(hb:b=((n % 32:Nat):Int)):
  (Option.bind (nA w.Bits (sC .i64 (zA .i64 (n:Int) 1024) 32)) λe1=>cond (decide (b<0)) none (some (zB .i64 (uE .i64 e1 b) 1==1)))=some (PC w n):=by
 have e1:zA .i64 (n:Int) 1024=((n % 1024:Nat):Int):=nS n 1024;have e2:sC .i64 ((n % 1024:Nat):Int) 32=((n % 1024 / 32:Nat):Int):=zsP _ 32 (by omega) (by omega);have hi:n % 1024 / 32<w.Bits.length:=by omega
 have hz:decide (b<0)=false:=by rw[decide_eq_false_iff_not];omega
 rw[e1,e2,WB hi,rB,hz,cond_false,PC,BF hi,hb]
def zkY(n:Nat):zA .i64 (n:Int) 32=((n % 32:Nat):Int):=nS n 32
def RF{n:Int}(h:0≤n):∃m:Nat,n=(m:Int):=Int.eq_ofNat_of_zero_le h
def zkO{n:Int}(hb:tI .int n):n≤9223372036854775807:=ztU hb
def zaJ.ok{x}(hb:xA [.v .Win, .v .int] x){r}:KF x.1 x.2=some r→Oo x.1 x.2=some r:=OA λh=>by
 obtain⟨w,n⟩:=x;obtain⟨m,hm⟩:=RF h.1;have hm:n=(m:Int):=hm;have h9:=zkO hb.2;have h9:(n:Int)≤9223372036854775807:=h9;subst hm;exact zkA (w:Ap) m h.2 (by unfold maxLen;omega) (zkY m)
def zbf.ok{x}(hb:xA [.v .Win, .v .int] x){r}:KF x.1 x.2=some r→Oj x.1 x.2=some r:=OA λh=>by
 obtain⟨w,n⟩:=x;obtain⟨m,hm⟩:=RF h.1;have hm:n=(m:Int):=hm;have h9:=zkO hb.2;have h9:(n:Int)≤9223372036854775807:=h9;subst hm;have e1:zA .i64 (m:Int) 1024=((m % 1024:Nat):Int):=nS m 1024;exact zkA (w:Ap) m h.2 (by unfold maxLen;omega) (b:=zA .i64 (zA .i64 (m:Int) 1024) 32) (by rw[e1,zkY];congr 1;omega)
def zja(w:Ap)(h:w.Bits.length=32)(ht:eA w.Top (-1) 281474976710655=true)(z:Option Bool):
  wA FU (λ(x6:Int) k7=>cond (decide (x6<1024)) (Option.bind (KF w x6) λr=>cond r (some false) (k7 (gA .i64 x6 1))) z) (gA .i64 w.Top 1)
  =bif wB 1024 (λi=>decide (w.Top<(i:Int))&&PC w i)then some false else z:=by
 have ht:=yD.1 ht;obtain⟨a,ha⟩:=RF (n:=w.Top+1) (by omega);rw[gA,IB (by omega) (by omega),ha];rw[zra a 1024 (by decide) (PC w) (some false) z (λi k hi=>?_) (λi k hi=>?_)]
 ·have e:wB 1024 (λi=>decide (a≤i)&&PC w i)=wB 1024 (λi=>decide (w.Top<(i:Int))&&PC w i):=ziz λi _=>by
   rw[show decide (w.Top<(i:Int))=decide (a≤i)from decide_eq_decide.2 (by omega)]
  rw[e]
 ·rw[decide_eq_true (p:=(i:Int)<1024) (by omega),cond_true,KF,RA ⟨by omega,h⟩,Int.toNat_natCast]
 ·rw[decide_eq_false (p:=(i:Int)<1024) (by omega),cond_false]
def vR.ok{x}(_:xA [.v .Win] x):Jx x=some (RC x):=by
 show Jx (x:Ap)=some (RC (x:Ap))
 generalize (show Ap from x)=w;simp only[Jx,aA,RC];cases ht:eA w.Top (-1) 281474976710655
 ·rfl
 cases hw:uC w.Bits 32
 ·rfl
 have hl:w.Bits.length=32:=by
  rw[uC,Bool.and_eq_true,beq_iff_eq]at hw;omega
 simp only[Bool.not_true,cond_false];rw[zja w hl ht];cases wB 1024 _
 ·simp only[cond_false,Bool.not_false,Bool.true_and];cases hT:w.Top== -1
  ·simp only[cond_false,Bool.false_or];have:=yD.1 ht;have h1:w.Top≠ -1:=by simpa using hT
   rw[KF,RA ⟨by omega,hl⟩]
  ·rfl
 ·rfl
def zrn(l:List Int)(h:l.length=32)(z:Option Bool):wA FU (λ(x6:Int) k7=>cond (decide (x6<32)) (Option.bind (nA l x6) λe8=>cond (!(eA e8 0 4294967295)) (some false) (k7 (gA .i64 x6 1))) z) 0
  =bif l.all λe=>eA e 0 4294967295 then z else some false:=by
 have:=zdQ l (by rw[h];decide) z;simp only[h]at this;exact this
def yR.ok{x}(_:xA [.v .Win] x):Ju x=some (RC x):=by
 show Ju (x:Ap)=some (RC (x:Ap))
 generalize (show Ap from x)=w;simp only[Ju,aA,RC,uC]
 by_cases hl:w.Bits.length=32
 ·have e1:((w.Bits.length:Int) !=32)=false:=by simp[hl]
  have e2:((w.Bits.length:Int)==32)=true:=by simp[hl]
  rw[e1,e2];cases ht:eA w.Top (-1) 281474976710655
  ·rfl
  simp only[Bool.not_true,cond_false,Bool.and_true,Bool.true_and];rw[zrn _ hl];cases w.Bits.all _
  ·rfl
  simp only[cond_true,Bool.true_and];rw[zja w hl ht];have:=yD.1 ht
  by_cases h0:0≤w.Top
  ·have e3:decide (w.Top≥0)=true:=by simpa using h0
   have e4:(w.Top== -1)=false:=by simp;omega
   rw[e3,e4,KF,cond_true,RA ⟨h0,hl⟩];cases PC w w.Top.toNat<;>cases wB 1024 _<;>rfl
  ·have e3:decide (w.Top≥0)=false:=by simpa using h0
   have e4:(w.Top== -1)=true:=by simp;omega
   rw[e3,e4];cases wB 1024 _<;>rfl
 ·have e1:((w.Bits.length:Int) !=32)=true:=by simp;omega
  have e2:((w.Bits.length:Int)==32)=false:=by simp;omega
  rw[e1,e2];simp
def zjS(e:Av):(aA (R:=Bool) (λ(y1:Bool)=>some y1) λk2=>cond ((eA e.N 0 4294967295)) (cond ((e.Key.length:Int)==32) (cond ((eA e.Seq 0 281474976710656)) (k2 (RC e.Win)) (k2 false)) (k2 false)) (k2 false))=some (JC e):=by
 simp only[aA,dD,Bool.cond_false_right,JC]
 grind
def zbx.ok{x}(_:xA [.v .Ep] x):Oq x=some (JC x):=zjS x
def zbl.ok{x}(_:xA [.v .Ep] x):Ol x=some (JC x):=zjS x
def zam.ok{x}(hb:xA [.sl .int, .sl .int] x):Or x.1 x.2=some (zdb x.1 x.2):=
 (zsC (α:=Int) x.1 x.2 hb.1.1 _ zuz).trans (congrArg some (zui _ _))
def IJ{β:Type}{a b:List UInt8}{f:Bool→Option β}(h1:wt a≤bA)(h2:wt b≤bA):Option.bind (DB a b) f=f (a==b):=RA ⟨h1,h2⟩
def znQ(a b:Av)(h:wt a≤bA∧wt b≤bA):Jy a b=some (XU a b):=by
 simp only[EM]at h;simp(disch:=omega) only[Jy,aA,IJ,dD,Bool.cond_false_right,XU,zdb]
 grind
def lR.ok{x}(_:xA [.v .Ep, .v .Ep] x){r}:nO x.1 x.2=some r→Jy x.1 x.2=some r:=OA λh=>znQ x.1 x.2 h
def zmf{α:Type}(l:List α):((l.length:Int)==0)=l.isEmpty:=by cases l<;>simp;omega
def zjg(e:Av):XU e (⟨0,[],0,(⟨0,[]⟩:Ap)⟩:Av)=JF e:=by
 simp only[XU,JF,zmf];cases e.Key<;>cases e.Win.Bits<;>rfl
def zfO:wt (⟨0,[],0,(⟨0,[]⟩:Ap)⟩:Av)≤bA:=Nat.zero_le _
def oQ.ok{x}(_:xA [.v .Ep] x):Jv x=some (JF x):=by
 show Jv (x:Av)=some (JF (x:Av))
 generalize (show Av from x)=e;simp only[Jv,aA,dD,Bool.cond_false_right,JF]
 grind
def zog(c:Am)(h:wt c≤bA):Jz c=some (GG c):=by
 rw[fI]at h;simp only[Jz,aA,nO,RA (p:=wt c.Old≤bA∧wt (⟨0,[],0,(⟨0,[]⟩:Ap)⟩:Av)≤bA) ⟨by omega,zfO⟩,zjg,GG,dD]
 grind
def uR.ok{x}(_:xA [.v .Chan] x){r}:zcK x=some r→Jz x=some r:=OA λh=>zog x h
def znO(c:Am)(h:wt c≤bA):Ka c=some (XB c):=by
 simp only[Ka,aA,zcK,RA h,XB,dD]
 grind
def SQ.ok{x}(_:xA [.v .Chan] x){r}:jC x=some r→Ka x=some r:=OA λh=>znO x h
def znU(c:Am):Jw c=some (XB c):=by
 have e1:eA c.Role 0 1=(c.Role==0||c.Role==1):=by rw[Bool.eq_iff_iff,yD];simp;omega
 have e2:eA c.Until (-1) 1000005=(eA c.Until 0 1000005||c.Until== -1):=by rw[Bool.eq_iff_iff,Bool.or_eq_true,yD,yD];simp;omega
 simp only[Jw,aA,XB,GG,LA,mA,e1]
 by_cases h0:c.Role=0
 ·simp only[h0];cases c.HasOld<;>simp[dD]<;>grind
 ·by_cases h1:c.Role=1
  ·simp only[h1];cases c.HasOld<;>simp[dD,e2]<;>grind
  ·rw[beq_false_of_ne h0,beq_false_of_ne h1];rfl
def IQ.ok{x}(_:xA [.v .Chan] x){r}:jC x=some r→Jw x=some r:=OA λ_=>znU x
end Go.D
