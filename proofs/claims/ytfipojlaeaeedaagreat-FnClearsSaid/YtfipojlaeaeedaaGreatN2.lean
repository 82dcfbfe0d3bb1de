/-
 Sizes of the program's data.
-/
import Derived.Test.YtfipojlaeaeedaaGreatN1
set_option linter.all false
namespace Go.D
instance:Wt Ao:=⟨λx=>wt x.Bits⟩
def KP(x:Ao):wt x=wt x.Bits:=rfl
instance:Wt Av:=⟨λx=>wt x.Key+wt x.Win⟩
def kI(x:Av):wt x=wt x.Key+wt x.Win:=rfl
instance:Wt Ak:=⟨λx=>wt x.Sn+wt x.Cur+wt x.Old+wt x.Next⟩
def gH(x:Ak):wt x=wt x.Sn+wt x.Cur+wt x.Old+wt x.Next:=rfl
end Go.D
namespace Go.D
noncomputable section
def bB(a:Ae):Bool:=gA a.Host 0 4294967295&&gA a.Port 0 65535
def LP(n:Int):Bool:=n==0||n==1
def IB(b:List UInt8):Bool:=(b.length:Int)==12
def MB(l:List Int)(n:Int):Bool:=(l.all λe=>gA e 0 4294967295)&&(l.length:Int)==n
def vH(w:Ao)(n:Nat):Bool:=(w.Bits[n % 1024 / 32]?).any λe=>jB .i64 (zD .i64 e ((n % 32:Nat):Int)) 1==1
def uF(w:Ao)(n:Int):Option Bool:=pt (0≤n∧w.Bits.length=32) (vH w n.toNat)
def FE(w:Ao):Bool:=gA w.Top (-1) 281474976710655&&MB w.Bits 32&&!(XA 1024 λi=>decide (w.Top<(i:Int))&&vH w i)&&(w.Top== -1||vH w w.Top.toNat)
def RU(a b:List Int):Bool:=a==b
def HE(e:Av):Bool:=gA e.N 0 4294967295&&(e.Key.length:Int)==32&&gA e.Seq 0 281474976710656&&FE e.Win
def IP(a b:Av):Bool:=a.N==b.N&&a.Key==b.Key&&a.Seq==b.Seq&&a.Win.Top==b.Win.Top&&a.Win.Bits==b.Win.Bits
def YJ(a b:Av):Option Bool:=pt (wt a≤bA∧wt b≤bA) (IP a b)
def sF(e:Av):Bool:=e.N==0&&(e.Key.length:Int)==0&&e.Seq==0&&e.Win.Top==0&&(e.Win.Bits.length:Int)==0
def AN(c:Ak):Bool:=bif c.HasOld then HE c.Old&&c.Old.N==oA .i64 c.Cur.N 1&&(gA c.Until 0 1000005||(c.Until== -1&&c.Role==1))else sF c.Old&&c.Until==0
def sU(c:Ak):Option Bool:=pt (wt c≤bA) (AN c)
def lH(c:Ak):Bool:=LP c.Role&&IB c.Sn&&HE c.Cur&&AN c&&((c.Next.length:Int)==0||(c.Role==0&&(c.Next.length:Int)==32&&decide (c.Cur.N<4294967295)))
def IC(c:Ak):Option Bool:=pt (wt c≤bA) (lH c)
end
end Go.D
namespace Go.D
open Option renaming bind→ob
noncomputable section
def Ks(a0:Ao)(a1:Int):=
 ob (lA a0.Bits (kD .i64 (DA .i64 a1 1024) 32)) λe1=>
 cond (decide ((DA .i64 (DA .i64 a1 1024) 32)<0)) none (let x2:Int:=zD .i64 e1 (DA .i64 (DA .i64 a1 1024) 32)
 some ((jB .i64 x2 1)==1))
def Dp(a0:Ao):=
 aA (λy1=>
 cond (y1)
 (some false)
 (aA (λ(y4:Unit)=>
 aA (λy9=>
 cond (y9)
 (some false)
 (aA (λ(y12:Unit)=>
 some true) λk13=>
 uA FU (λ(x14:Int) k15=>
 cond (decide (x14<1024))
 (ob (uF a0 x14) λr16=>
 cond (r16)
 (some false)
 (k15 (iA .i64 x14 1)))
 (k13 ())) (iA .i64 a0.Top 1))) λk10=>
 cond (decide (a0.Top≥0))
 (ob (uF a0 a0.Top) λr11=>
 k10 (!r11))
 (k10 false)) λk5=>
 uA FU (λ(x6:Int) k7=>
 cond (decide (x6<32))
 (ob (lA a0.Bits x6) λe8=>
 cond (!(gA e8 0 4294967295))
 (some false)
 (k7 (iA .i64 x6 1)))
 (k5 ())) 0)) λk2=>
 cond ((a0.Bits.length:Int) !=32)
 (k2 true)
 (let r3:Bool:=gA a0.Top (-1) 281474976710655
 k2 (!r3))
def Kt(a0:Av):=
 aA (λ(y1:Bool)=>
 some y1) λk2=>
 cond ((gA a0.N 0 4294967295))
 (cond ((a0.Key.length:Int)==32)
 (cond ((gA a0.Seq 0 281474976710656))
 (k2 (FE a0.Win))
 (k2 false))
 (k2 false))
 (k2 false)
def Dq(a0:Av):=
 aA (λ(y1:Bool)=>
 some y1) λk2=>
 cond (a0.N==0)
 (cond ((a0.Key.length:Int)==0)
 (cond (a0.Seq==0)
 (cond (a0.Win.Top==0)
 (k2 ((a0.Win.Bits.length:Int)==0))
 (k2 false))
 (k2 false))
 (k2 false))
 (k2 false)
def Dr(a0:Ak):=
 aA (λy1=>
 cond (y1)
 (some false)
 (aA (λ(y3:Unit)=>
 cond ((a0.Next.length:Int)==0)
 (some true)
 (aA (λ(y11:Bool)=>
 some y11) λk12=>
 cond (a0.Role==0)
 (cond ((a0.Next.length:Int)==32)
 (k12 (decide (a0.Cur.N<4294967295)))
 (k12 false))
 (k12 false))) λk4=>
 cond (a0.HasOld)
 (aA (λ(y5:Int)=>
 aA (λy7=>
 cond (y7)
 (some false)
 (k4 ())) λk8=>
 cond (!(HE a0.Old))
 (k8 true)
 (cond (a0.Old.N !=(oA .i64 a0.Cur.N 1))
 (k8 true)
 (k8 (!(gA a0.Until y5 1000005))))) λk6=>
 cond (a0.Role==0)
 (k6 0)
 (k6 (-1)))
 (aA (λy9=>
 cond (y9)
 (some false)
 (k4 ())) λk10=>
 cond (!(sF a0.Old))
 (k10 true)
 (k10 (a0.Until !=0))))) λk2=>
 cond (!(gA a0.Role 0 1))
 (k2 true)
 (cond ((a0.Sn.length:Int) !=12)
 (k2 true)
 (k2 (!(HE a0.Cur))))
def Jx(a0:Int):=
 aA (λ(y1:Bool)=>
 some y1) λk2=>
 cond (a0==0)
 (k2 true)
 (k2 (a0==1))
def Ku(a0:List UInt8):=
 some ((a0.length:Int)==12)
def Jy(a0:List Int)(a1:Int):=
 aA (λ(y1:Unit)=>
 some ((a0.length:Int)==a1)) λk2=>
 uA FU (λ(x3:Int) k4=>
 cond (decide (x3<(a0.length:Int)))
 (ob (lA a0 x3) λe5=>
 cond (!(gA e5 0 4294967295))
 (some false)
 (k4 (iA .i64 x3 1)))
 (k2 ())) 0
def Kv(a0:Ao)(a1:Int):=
 ob (lA a0.Bits (kD .i64 (DA .i64 a1 1024) 32)) λe1=>
 cond (decide ((DA .i64 a1 32)<0)) none (let x2:Int:=jB .i64 (zD .i64 e1 (DA .i64 a1 32)) 1
 some (x2==1))
def Ds(a0:Ao):=
 aA (λy1=>
 cond (y1)
 (some false)
 (aA (λ(y4:Unit)=>
 aA (λ(y9:Bool)=>
 some y9) λk10=>
 cond (a0.Top==(-1))
 (k10 true)
 (ob (uF a0 a0.Top) λr11=>
 k10 r11)) λk5=>
 uA FU (λ(x6:Int) k7=>
 cond (decide (x6<1024))
 (ob (uF a0 x6) λr8=>
 cond (r8)
 (some false)
 (k7 (iA .i64 x6 1)))
 (k5 ())) (iA .i64 a0.Top 1))) λk2=>
 let r3:Bool:=gA a0.Top (-1) 281474976710655
 cond (!r3)
 (k2 true)
 (k2 (!(MB a0.Bits 32)))
def Kw(a0:Av):=
 aA (λ(y1:Bool)=>
 some y1) λk2=>
 cond ((gA a0.N 0 4294967295))
 (cond ((a0.Key.length:Int)==32)
 (cond ((gA a0.Seq 0 281474976710656))
 (k2 (FE a0.Win))
 (k2 false))
 (k2 false))
 (k2 false)
def Kx(a0:List Int)(a1:List Int):=
 cond ((a0.length:Int) !=(a1.length:Int))
 (some false)
 (aA (λ(y1:Unit)=>
 some true) λk2=>
 uA FU (λ(x3:Int) k4=>
 cond (decide (x3<(a0.length:Int)))
 (ob (lA a0 x3) λe5=>
 ob (lA a1 x3) λe6=>
 cond (e5 !=e6)
 (some false)
 (k4 (iA .i64 x3 1)))
 (k2 ())) 0)
def Dt(a0:Av)(a1:Av):=
 aA (λ(y1:Bool)=>
 some y1) λk2=>
 cond (a0.N==a1.N)
 (ob (PB a0.Key a1.Key) λr3=>
 cond (r3)
 (cond (a0.Seq==a1.Seq)
 (cond (a0.Win.Top==a1.Win.Top)
 (k2 (RU a0.Win.Bits a1.Win.Bits))
 (k2 false))
 (k2 false))
 (k2 false))
 (k2 false)
def Du(a0:Ak):=
 cond (!a0.HasOld)
 (aA (λ(y1:Bool)=>
 some y1) λk2=>
 ob (YJ a0.Old (⟨0,[],0,(⟨0,[]⟩:Ao)⟩:Av)) λr3=>
 cond (r3)
 (k2 (a0.Until==0))
 (k2 false))
 (aA (λy4=>
 cond (y4)
 (some false)
 (aA (λ(y6:Bool)=>
 some y6) λk7=>
 cond ((gA a0.Until 0 1000005))
 (k7 true)
 (cond (a0.Until==(-1))
 (k7 (a0.Role==1))
 (k7 false)))) λk5=>
 cond (!(HE a0.Old))
 (k5 true)
 (k5 (a0.Old.N !=(oA .i64 a0.Cur.N 1))))
def Dv(a0:Ak):=
 aA (λy1=>
 cond (y1)
 (some false)
 (aA (λ(y4:Bool)=>
 some y4) λk5=>
 cond ((a0.Next.length:Int)==0)
 (k5 true)
 (cond (a0.Role==0)
 (cond ((a0.Next.length:Int)==32)
 (k5 (decide (a0.Cur.N<4294967295)))
 (k5 false))
 (k5 false)))) λk2=>
 cond (!(LP a0.Role))
 (k2 true)
 (cond (!(IB a0.Sn))
 (k2 true)
 (cond (!(HE a0.Cur))
 (k2 true)
 (ob (sU a0) λr3=>
 k2 (!r3))))
end
end Go.D
namespace Go.D
end Go.D
namespace Go.D
def zdq(a:Ae):aA (R:=Bool) (λ(y:Bool)=>some y) (λk=>cond (gA a.Host 0 4294967295) (k (gA a.Port 0 65535)) (k false))=some (bB a):=by
 simp only[aA,bB];cases gA a.Host 0 4294967295<;>rfl
def HC{n lo hi:Int}:gA n lo hi=true↔lo≤n∧n≤hi:=by simp[gA]
def zmp{n lo hi:Int}:gA n lo hi=false↔¬(lo≤n∧n≤hi):=by
 rw[←HC];cases gA n lo hi<;>simp
def yO.ok{x}(_:rA [.v .int] x):Jx x=some (LP x):=by
 simp only[Jx,aA,TB,Bool.cond_true_left];rfl
def bR.ok{x}(_:rA [.sl .byte] x):Ku x=some (IB x):=rfl
def FV(l:List Int)(hl:l.length≤maxLen)(z:Option Bool):uA FU (λ(x3:Int) k4=>cond (decide (x3<(l.length:Int))) (Option.bind (lA l x3) λe5=>cond (!(gA e5 0 4294967295)) (some false) (k4 (iA .i64 x3 1))) z) 0
  =bif l.all λe=>gA e 0 4294967295 then z else some false:=by
 rw[MM l hl (λe=>!(gA e 0 4294967295)) (some false) z (λi k hi=>?_) (λk=>by simp only[BC,cond_false])]
 ·rw[List.all_eq_not_any_not];cases l.any _<;>rfl
 ·simp only[pC hi,cond_true,dB hi,TA]
def ZN.ok{x}(hb:rA [.sl .int, .v .int] x):Jy x.1 x.2=some (MB x.1 x.2):=by
 simp only[Jy,aA];rw[FV (show List Int from x.1) hb.1.1,MB];cases List.all _ _<;>rfl
def zfh(w:Ao)(n:Nat)(h:w.Bits.length=32)(hn:n≤maxLen){b:Int}(hb:b=((n % 32:Nat):Int)):
  (Option.bind (lA w.Bits (kD .i64 (DA .i64 (n:Int) 1024) 32)) λe1=>cond (decide (b<0)) none (some (jB .i64 (zD .i64 e1 b) 1==1)))=some (vH w n):=by
 have e1:DA .i64 (n:Int) 1024=((n % 1024:Nat):Int):=dN n 1024;have e2:kD .i64 ((n % 1024:Nat):Int) 32=((n % 1024 / 32:Nat):Int):=zlJ _ 32 (by omega) (by omega);have hi:n % 1024 / 32<w.Bits.length:=by omega
 have hz:decide (b<0)=false:=by rw[decide_eq_false_iff_not];omega
 rw[e1,e2,dB hi,TA,hz,cond_false,vH,VB hi,hb]
def zfx(n:Nat):DA .i64 (n:Int) 32=((n % 32:Nat):Int):=dN n 32
def KD{n:Int}(h:0≤n):∃m:Nat,n=(m:Int):=Int.eq_ofNat_of_zero_le h
def zfs{n:Int}(hb:uG .int n):n≤9223372036854775807:=zmw hb
def IR.ok{x}(hb:rA [.v .Win, .v .int] x){r}:uF x.1 x.2=some r→Kv x.1 x.2=some r:=KA λh=>by
 obtain⟨w,n⟩:=x;obtain⟨m,hm⟩:=KD h.1;have hm:n=(m:Int):=hm;have h9:=zfs hb.2;have h9:(n:Int)≤9223372036854775807:=h9;subst hm;exact zfh (w:Ao) m h.2 (by unfold maxLen;omega) (zfx m)
def vS.ok{x}(hb:rA [.v .Win, .v .int] x){r}:uF x.1 x.2=some r→Ks x.1 x.2=some r:=KA λh=>by
 obtain⟨w,n⟩:=x;obtain⟨m,hm⟩:=KD h.1;have hm:n=(m:Int):=hm;have h9:=zfs hb.2;have h9:(n:Int)≤9223372036854775807:=h9;subst hm;have e1:DA .i64 (m:Int) 1024=((m % 1024:Nat):Int):=dN m 1024;exact zfh (w:Ao) m h.2 (by unfold maxLen;omega) (b:=DA .i64 (DA .i64 (m:Int) 1024) 32) (by rw[e1,zfx];congr 1;omega)
def zd4(w:Ao)(h:w.Bits.length=32)(ht:gA w.Top (-1) 281474976710655=true)(z:Option Bool):
  uA FU (λ(x6:Int) k7=>cond (decide (x6<1024)) (Option.bind (uF w x6) λr=>cond r (some false) (k7 (iA .i64 x6 1))) z) (iA .i64 w.Top 1)
  =bif XA 1024 (λi=>decide (w.Top<(i:Int))&&vH w i)then some false else z:=by
 have ht:=HC.1 ht;obtain⟨a,ha⟩:=KD (n:=w.Top+1) (by omega);rw[iA,yB (by omega) (by omega),ha];rw[zkm a 1024 (by decide) (vH w) (some false) z (λi k hi=>?_) (λi k hi=>?_)]
 ·have e:XA 1024 (λi=>decide (a≤i)&&vH w i)=XA 1024 (λi=>decide (w.Top<(i:Int))&&vH w i):=zdw λi _=>by
   rw[show decide (w.Top<(i:Int))=decide (a≤i)from decide_eq_decide.2 (by omega)]
  rw[e]
 ·rw[decide_eq_true (p:=(i:Int)<1024) (by omega),cond_true,uF,FA ⟨by omega,h⟩,Int.toNat_natCast]
 ·rw[decide_eq_false (p:=(i:Int)<1024) (by omega),cond_false]
def uM.ok{x}(_:rA [.v .Win] x):Ds x=some (FE x):=by
 show Ds (x:Ao)=some (FE (x:Ao))
 generalize (show Ao from x)=w;simp only[Ds,aA,FE];cases ht:gA w.Top (-1) 281474976710655
 ·rfl
 cases hw:MB w.Bits 32
 ·rfl
 have hl:w.Bits.length=32:=by
  rw[MB,Bool.and_eq_true,beq_iff_eq]at hw;omega
 simp only[Bool.not_true,cond_false];rw[zd4 w hl ht];cases XA 1024 _
 ·simp only[cond_false,Bool.not_false,Bool.true_and];cases hT:w.Top== -1
  ·simp only[cond_false,Bool.false_or];have:=HC.1 ht;have h1:w.Top≠ -1:=by simpa using hT
   rw[uF,FA ⟨by omega,hl⟩]
  ·rfl
 ·rfl
def zkw(l:List Int)(h:l.length=32)(z:Option Bool):uA FU (λ(x6:Int) k7=>cond (decide (x6<32)) (Option.bind (lA l x6) λe8=>cond (!(gA e8 0 4294967295)) (some false) (k7 (iA .i64 x6 1))) z) 0
  =bif l.all λe=>gA e 0 4294967295 then z else some false:=by
 have:=FV l (by rw[h];decide) z;simp only[h]at this;exact this
def wM.ok{x}(_:rA [.v .Win] x):Dp x=some (FE x):=by
 show Dp (x:Ao)=some (FE (x:Ao))
 generalize (show Ao from x)=w;simp only[Dp,aA,FE,MB]
 by_cases hl:w.Bits.length=32
 ·have e1:((w.Bits.length:Int) !=32)=false:=by simp[hl]
  have e2:((w.Bits.length:Int)==32)=true:=by simp[hl]
  rw[e1,e2];cases ht:gA w.Top (-1) 281474976710655
  ·rfl
  simp only[Bool.not_true,cond_false,Bool.and_true,Bool.true_and];rw[zkw _ hl];cases w.Bits.all _
  ·rfl
  simp only[cond_true,Bool.true_and];rw[zd4 w hl ht];have:=HC.1 ht
  by_cases h0:0≤w.Top
  ·have e3:decide (w.Top≥0)=true:=by simpa using h0
   have e4:(w.Top== -1)=false:=by simp;omega
   rw[e3,e4,uF,cond_true,FA ⟨h0,hl⟩];cases vH w w.Top.toNat<;>cases XA 1024 _<;>rfl
  ·have e3:decide (w.Top≥0)=false:=by simpa using h0
   have e4:(w.Top== -1)=true:=by simp;omega
   rw[e3,e4];cases XA 1024 _<;>rfl
 ·have e1:((w.Bits.length:Int) !=32)=true:=by simp;omega
  have e2:((w.Bits.length:Int)==32)=false:=by simp;omega
  rw[e1,e2];simp
def zeN(e:Av):(aA (R:=Bool) (λ(y1:Bool)=>some y1) λk2=>cond ((gA e.N 0 4294967295)) (cond ((e.Key.length:Int)==32) (cond ((gA e.Seq 0 281474976710656)) (k2 (FE e.Win)) (k2 false)) (k2 false)) (k2 false))=some (HE e):=by
 simp only[aA,TB,Bool.cond_false_right,HE]
 grind
def RS.ok{x}(_:rA [.v .Ep] x):Kw x=some (HE x):=zeN x
def DS.ok{x}(_:rA [.v .Ep] x):Kt x=some (HE x):=zeN x
def OQ.ok{x}(hb:rA [.sl .int, .sl .int] x):Kx x.1 x.2=some (RU x.1 x.2):=
 (zly (α:=Int) x.1 x.2 hb.1.1 _ zm0).trans (congrArg some (zmS _ _))
def CD{β:Type}{a b:List UInt8}{f:Bool→Option β}(h1:wt a≤bA)(h2:wt b≤bA):Option.bind (PB a b) f=f (a==b):=FA ⟨h1,h2⟩
def zhE(a b:Av)(h:wt a≤bA∧wt b≤bA):Dt a b=some (IP a b):=by
 simp only[kI]at h;simp(disch:=omega) only[Dt,aA,CD,TB,Bool.cond_false_right,IP,RU]
 grind
def mM.ok{x}(_:rA [.v .Ep, .v .Ep] x){r}:YJ x.1 x.2=some r→Dt x.1 x.2=some r:=KA λh=>zhE x.1 x.2 h
def zgm{α:Type}(l:List α):((l.length:Int)==0)=l.isEmpty:=by cases l<;>simp;omega
def zec(e:Av):IP e (⟨0,[],0,(⟨0,[]⟩:Ao)⟩:Av)=sF e:=by
 simp only[IP,sF,zgm];cases e.Key<;>cases e.Win.Bits<;>rfl
def zbB:wt (⟨0,[],0,(⟨0,[]⟩:Ao)⟩:Av)≤bA:=Nat.zero_le _
def uL.ok{x}(_:rA [.v .Ep] x):Dq x=some (sF x):=by
 show Dq (x:Av)=some (sF (x:Av))
 generalize (show Av from x)=e;simp only[Dq,aA,TB,Bool.cond_false_right,sF]
 grind
def zh1(c:Ak)(h:wt c≤bA):Du c=some (AN c):=by
 rw[gH]at h;simp only[Du,aA,YJ,FA (p:=wt c.Old≤bA∧wt (⟨0,[],0,(⟨0,[]⟩:Ao)⟩:Av)≤bA) ⟨by omega,zbB⟩,zec,AN,TB]
 grind
def tM.ok{x}(_:rA [.v .Chan] x){r}:sU x=some r→Du x=some r:=KA λh=>zh1 x h
def zhB(c:Ak)(h:wt c≤bA):Dv c=some (lH c):=by
 simp only[Dv,aA,sU,FA h,lH,TB]
 grind
def ZL.ok{x}(_:rA [.v .Chan] x){r}:IC x=some r→Dv x=some r:=KA λh=>zhB x h
def zhH(c:Ak):Dr c=some (lH c):=by
 have e1:gA c.Role 0 1=(c.Role==0||c.Role==1):=by rw[Bool.eq_iff_iff,HC];simp;omega
 have e2:gA c.Until (-1) 1000005=(gA c.Until 0 1000005||c.Until== -1):=by rw[Bool.eq_iff_iff,Bool.or_eq_true,HC,HC];simp;omega
 simp only[Dr,aA,lH,AN,LP,IB,e1]
 by_cases h0:c.Role=0
 ·simp only[h0];cases c.HasOld<;>simp[TB]<;>grind
 ·by_cases h1:c.Role=1
  ·simp only[h1];cases c.HasOld<;>simp[TB,e2]<;>grind
  ·rw[beq_false_of_ne h0,beq_false_of_ne h1];rfl
def PL.ok{x}(_:rA [.v .Chan] x){r}:IC x=some r→Dr x=some r:=KA λ_=>zhH x
end Go.D
