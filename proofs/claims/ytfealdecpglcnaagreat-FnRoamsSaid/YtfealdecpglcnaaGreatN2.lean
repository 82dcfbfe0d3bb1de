/-
 Sizes of the program's data.
-/
import Derived.Test.YtfealdecpglcnaaGreatN1
set_option linter.all false
namespace Go.D
instance:Wt Ap:=⟨λx=>wt x.Bits⟩
def zak(x:Ap):wt x=wt x.Bits:=rfl
instance:Wt Av:=⟨λx=>wt x.Key+wt x.Win⟩
def GK(x:Av):wt x=wt x.Key+wt x.Win:=rfl
instance:Wt Aj:=⟨λx=>wt x.Sn+wt x.Cur+wt x.Old+wt x.Next⟩
def QH(x:Aj):wt x=wt x.Sn+wt x.Cur+wt x.Old+wt x.Next:=rfl
end Go.D
namespace Go.D
noncomputable section
def EA(a:Af):Bool:=eA a.Host 0 4294967295&&eA a.Port 0 65535
def GA(n:Int):Bool:=n==0||n==1
def mA(b:List UInt8):Bool:=(b.length:Int)==12
def tC(l:List Int)(n:Int):Bool:=(l.all λe=>eA e 0 4294967295)&&(l.length:Int)==n
def WC(w:Ap)(n:Nat):Bool:=(w.Bits[n % 1024 / 32]?).any λe=>HB .i64 (iE .i64 e ((n % 32:Nat):Int)) 1==1
def VF(w:Ap)(n:Int):Option Bool:=pt (0≤n∧w.Bits.length=32) (WC w n.toNat)
def IC(w:Ap):Bool:=eA w.Top (-1) 281474976710655&&tC w.Bits 32&&!(qB 1024 λi=>decide (w.Top<(i:Int))&&WC w i)&&(w.Top== -1||WC w w.Top.toNat)
def zdQ(a b:List Int):Bool:=a==b
def cC(e:Av):Bool:=eA e.N 0 4294967295&&(e.Key.length:Int)==32&&eA e.Seq 0 281474976710656&&IC e.Win
def zai(a b:Av):Bool:=a.N==b.N&&a.Key==b.Key&&a.Seq==b.Seq&&a.Win.Top==b.Win.Top&&a.Win.Bits==b.Win.Bits
def LO(a b:Av):Option Bool:=pt (wt a≤bA∧wt b≤bA) (zai a b)
def UF(e:Av):Bool:=e.N==0&&(e.Key.length:Int)==0&&e.Seq==0&&e.Win.Top==0&&(e.Win.Bits.length:Int)==0
def DG(c:Aj):Bool:=bif c.HasOld then cC c.Old&&c.Old.N==oA .i64 c.Cur.N 1&&(eA c.Until 0 1000005||(c.Until== -1&&c.Role==1))else UF c.Old&&c.Until==0
def zdr(c:Aj):Option Bool:=pt (wt c≤bA) (DG c)
def rB(c:Aj):Bool:=GA c.Role&&mA c.Sn&&cC c.Cur&&DG c&&((c.Next.length:Int)==0||(c.Role==0&&(c.Next.length:Int)==32&&decide (c.Cur.N<4294967295)))
def lC(c:Aj):Option Bool:=pt (wt c≤bA) (rB c)
end
end Go.D
namespace Go.D
open Option renaming bind→ob
noncomputable section
def Ov(a0:Ap)(a1:Int):=
 ob (jA a0.Bits (NC .i64 (xA .i64 a1 1024) 32)) λe1=>
 cond ((xA .i64 (xA .i64 a1 1024) 32)<0) none (let x2:Int:=iE .i64 e1 (xA .i64 (xA .i64 a1 1024) 32)
 some ((HB .i64 x2 1)==1))
def Jt(a0:Ap):=
 aA (λy1=>
 cond (y1)
 (some false)
 (aA (λ(y4:Unit)=>
 aA (λy9=>
 cond (y9)
 (some false)
 (aA (λ(y12:Unit)=>
 some true) λk13=>
 uA FU (λ(x14:Int) k15=>
 cond (x14<1024)
 (ob (VF a0 x14) λr16=>
 cond (r16)
 (some false)
 (k15 (fA .i64 x14 1)))
 (k13 ())) (fA .i64 a0.Top 1))) λk10=>
 cond (a0.Top≥0)
 (ob (VF a0 a0.Top) λr11=>
 k10 (!r11))
 (k10 false)) λk5=>
 uA FU (λ(x6:Int) k7=>
 cond (x6<32)
 (ob (jA a0.Bits x6) λe8=>
 cond (!(eA e8 0 4294967295))
 (some false)
 (k7 (fA .i64 x6 1)))
 (k5 ())) 0)) λk2=>
 cond ((a0.Bits.length:Int) !=32)
 (k2 true)
 (let r3:Bool:=eA a0.Top (-1) 281474976710655
 k2 (!r3))
def Ow(a0:Av):=aA (λ(y1:Bool)=>some y1) λk2=>cond ((eA a0.N 0 4294967295)) (cond ((a0.Key.length:Int)==32) (cond ((eA a0.Seq 0 281474976710656)) (k2 (IC a0.Win)) (k2 false)) (k2 false)) (k2 false)
def Ju(a0:Av):=aA (λ(y1:Bool)=>some y1) λk2=>cond (a0.N==0) (cond ((a0.Key.length:Int)==0) (cond (a0.Seq==0) (cond (a0.Win.Top==0) (k2 ((a0.Win.Bits.length:Int)==0)) (k2 false)) (k2 false)) (k2 false)) (k2 false)
def Jv(a0:Aj):=aA (λy1=>cond (y1) (some false) (aA (λ(y3:Unit)=>cond ((a0.Next.length:Int)==0) (some true) (aA (λ(y11:Bool)=>some y11) λk12=>cond (a0.Role==0) (cond ((a0.Next.length:Int)==32) (k12 (decide (a0.Cur.N<4294967295))) (k12 false)) (k12 false))) λk4=>cond (a0.HasOld) (aA (λ(y5:Int)=>aA (λy7=>cond (y7) (some false) (k4 ())) λk8=>cond (!(cC a0.Old)) (k8 true) (cond (a0.Old.N !=(oA .i64 a0.Cur.N 1)) (k8 true) (k8 (!(eA a0.Until y5 1000005))))) λk6=>cond (a0.Role==0) (k6 0) (k6 (-1))) (aA (λy9=>cond (y9) (some false) (k4 ())) λk10=>cond (!(UF a0.Old)) (k10 true) (k10 (a0.Until !=0))))) λk2=>cond (!(eA a0.Role 0 1)) (k2 true) (cond ((a0.Sn.length:Int) !=12) (k2 true) (k2 (!(cC a0.Cur))))
def Nj(a0:Int):=aA (λ(y1:Bool)=>some y1) λk2=>cond (a0==0) (k2 true) (k2 (a0==1))
def Ox(a0:List UInt8):=some ((a0.length:Int)==12)
def Nk(a0:List Int)(a1:Int):=aA (λ(y1:Unit)=>some ((a0.length:Int)==a1)) λk2=>uA FU (λ(x3:Int) k4=>cond (x3<(a0.length:Int)) (ob (jA a0 x3) λe5=>cond (!(eA e5 0 4294967295)) (some false) (k4 (fA .i64 x3 1))) (k2 ())) 0
def Oy(a0:Ap)(a1:Int):=
 ob (jA a0.Bits (NC .i64 (xA .i64 a1 1024) 32)) λe1=>
 cond ((xA .i64 a1 32)<0) none (let x2:Int:=HB .i64 (iE .i64 e1 (xA .i64 a1 32)) 1
 some (x2==1))
def Jw(a0:Ap):=
 aA (λy1=>
 cond (y1)
 (some false)
 (aA (λ(y4:Unit)=>
 aA (λ(y9:Bool)=>
 some y9) λk10=>
 cond (a0.Top==(-1))
 (k10 true)
 (ob (VF a0 a0.Top) λr11=>
 k10 r11)) λk5=>
 uA FU (λ(x6:Int) k7=>
 cond (x6<1024)
 (ob (VF a0 x6) λr8=>
 cond (r8)
 (some false)
 (k7 (fA .i64 x6 1)))
 (k5 ())) (fA .i64 a0.Top 1))) λk2=>
 let r3:Bool:=eA a0.Top (-1) 281474976710655
 cond (!r3)
 (k2 true)
 (k2 (!(tC a0.Bits 32)))
def Oz(a0:Av):=aA (λ(y1:Bool)=>some y1) λk2=>cond ((eA a0.N 0 4294967295)) (cond ((a0.Key.length:Int)==32) (cond ((eA a0.Seq 0 281474976710656)) (k2 (IC a0.Win)) (k2 false)) (k2 false)) (k2 false)
def Pa(a0:List Int)(a1:List Int):=cond ((a0.length:Int) !=(a1.length:Int)) (some false) (aA (λ(y1:Unit)=>some true) λk2=>uA FU (λ(x3:Int) k4=>cond (x3<(a0.length:Int)) (ob (jA a0 x3) λe5=>ob (jA a1 x3) λe6=>cond (e5 !=e6) (some false) (k4 (fA .i64 x3 1))) (k2 ())) 0)
def Jx(a0:Av)(a1:Av):=aA (λ(y1:Bool)=>some y1) λk2=>cond (a0.N==a1.N) (ob (uB a0.Key a1.Key) λr3=>cond (r3) (cond (a0.Seq==a1.Seq) (cond (a0.Win.Top==a1.Win.Top) (k2 (zdQ a0.Win.Bits a1.Win.Bits)) (k2 false)) (k2 false)) (k2 false)) (k2 false)
def Jy(a0:Aj):=cond (!a0.HasOld) (aA (λ(y1:Bool)=>some y1) λk2=>ob (LO a0.Old (⟨0,[],0,(⟨0,[]⟩:Ap)⟩:Av)) λr3=>cond (r3) (k2 (a0.Until==0)) (k2 false)) (aA (λy4=>cond (y4) (some false) (aA (λ(y6:Bool)=>some y6) λk7=>cond ((eA a0.Until 0 1000005)) (k7 true) (cond (a0.Until==(-1)) (k7 (a0.Role==1)) (k7 false)))) λk5=>cond (!(cC a0.Old)) (k5 true) (k5 (a0.Old.N !=(oA .i64 a0.Cur.N 1))))
def Jz(a0:Aj):=aA (λy1=>cond (y1) (some false) (aA (λ(y4:Bool)=>some y4) λk5=>cond ((a0.Next.length:Int)==0) (k5 true) (cond (a0.Role==0) (cond ((a0.Next.length:Int)==32) (k5 (decide (a0.Cur.N<4294967295))) (k5 false)) (k5 false)))) λk2=>cond (!(GA a0.Role)) (k2 true) (cond (!(mA a0.Sn)) (k2 true) (cond (!(cC a0.Cur)) (k2 true) (ob (zdr a0) λr3=>k2 (!r3))))
end
end Go.D
namespace Go.D
end Go.D
namespace Go.D
def zjq(a:Af):aA (R:=Bool) (λ(y:Bool)=>some y) (λk=>cond (eA a.Host 0 4294967295) (k (eA a.Port 0 65535)) (k false))=some (EA a):=by
 simp only[aA,EA];cases eA a.Host 0 4294967295<;>rfl
def rD{n lo hi:Int}:eA n lo hi=true↔lo≤n∧n≤hi:=by simp[eA]
def zvA{n lo hi:Int}:eA n lo hi=false↔¬(lo≤n∧n≤hi):=by
 rw[←rD];cases eA n lo hi<;>simp
def BU.ok{x}(_:vA [.v .int] x):Nj x=some (GA x):=by
 simp only[Nj,aA,KC,Bool.cond_true_left];rfl
def za5.ok{x}(_:vA [.sl .byte] x):Ox x=some (mA x):=rfl
def zeG(l:List Int)(hl:l.length≤maxLen)(z:Option Bool):uA FU (λ(x3:Int) k4=>cond (x3<(l.length:Int)) (Option.bind (jA l x3) λe5=>cond (!(eA e5 0 4294967295)) (some false) (k4 (fA .i64 x3 1))) z) 0
  =bif l.all λe=>eA e 0 4294967295 then z else some false:=by
 rw[CS l hl (λe=>!(eA e 0 4294967295)) (some false) z (λi k hi=>?_) (λk=>by simp only[UD,cond_false])]
 ·rw[List.all_eq_not_any_not];cases l.any _<;>rfl
 ·simp only[sD hi,cond_true,DB hi,XA]
def hU.ok{x}(hb:vA [.sl .int, .v .int] x):Nk x.1 x.2=some (tC x.1 x.2):=by
 simp only[Nk,aA];rw[zeG (show List Int from x.1) hb.1.1,tC];cases List.all _ _<;>rfl
def zlO(w:Ap)(n:Nat)(h:w.Bits.length=32)(hn:n≤maxLen){b:Int}(hb:b=((n % 32:Nat):Int)):
  (Option.bind (jA w.Bits (NC .i64 (xA .i64 (n:Int) 1024) 32)) λe1=>cond (b<0) none (some (HB .i64 (iE .i64 e1 b) 1==1)))=some (WC w n):=by
 have e1:xA .i64 (n:Int) 1024=((n % 1024:Nat):Int):=SS n 1024;have e2:NC .i64 ((n % 1024:Nat):Int) 32=((n % 1024 / 32:Nat):Int):=zuH _ 32 (by omega) (by omega);have hi:n % 1024 / 32<w.Bits.length:=by omega
 have hz:decide (b<0)=false:=by rw[decide_eq_false_iff_not];omega
 rw[e1,e2,DB hi,XA,hz,cond_false,WC,FD hi,hb]
def zmd(n:Nat):xA .i64 (n:Int) 32=((n % 32:Nat):Int):=SS n 32
def rF{n:Int}(h:0≤n):∃m:Nat,n=(m:Int):=Int.eq_ofNat_of_zero_le h
def zl5{n:Int}(hb:TI .int n):n≤9223372036854775807:=zvP hb
def zbq.ok{x}(hb:vA [.v .Win, .v .int] x){r}:VF x.1 x.2=some r→Oy x.1 x.2=some r:=QA λh=>by
 obtain⟨w,n⟩:=x;obtain⟨m,hm⟩:=rF h.1;have hm:n=(m:Int):=hm;have h9:=zl5 hb.2;have h9:(n:Int)≤9223372036854775807:=h9;subst hm;exact zlO (w:Ap) m h.2 (by unfold maxLen;omega) (zmd m)
def zbY.ok{x}(hb:vA [.v .Win, .v .int] x){r}:VF x.1 x.2=some r→Ov x.1 x.2=some r:=QA λh=>by
 obtain⟨w,n⟩:=x;obtain⟨m,hm⟩:=rF h.1;have hm:n=(m:Int):=hm;have h9:=zl5 hb.2;have h9:(n:Int)≤9223372036854775807:=h9;subst hm;have e1:xA .i64 (m:Int) 1024=((m % 1024:Nat):Int):=SS m 1024;exact zlO (w:Ap) m h.2 (by unfold maxLen;omega) (b:=xA .i64 (xA .i64 (m:Int) 1024) 32) (by rw[e1,zmd];congr 1;omega)
def zkd(w:Ap)(h:w.Bits.length=32)(ht:eA w.Top (-1) 281474976710655=true)(z:Option Bool):
  uA FU (λ(x6:Int) k7=>cond (x6<1024) (Option.bind (VF w x6) λr=>cond r (some false) (k7 (fA .i64 x6 1))) z) (fA .i64 w.Top 1)
  =bif qB 1024 (λi=>decide (w.Top<(i:Int))&&WC w i)then some false else z:=by
 have ht:=rD.1 ht;obtain⟨a,ha⟩:=rF (n:=w.Top+1) (by omega);rw[fA,FB (by omega) (by omega),ha];rw[zsP a 1024 (by decide) (WC w) (some false) z (λi k hi=>?_) (λi k hi=>?_)]
 ·have e:qB 1024 (λi=>decide (a≤i)&&WC w i)=qB 1024 (λi=>decide (w.Top<(i:Int))&&WC w i):=zfm λi _=>by
   rw[show decide (w.Top<(i:Int))=decide (a≤i)from decide_eq_decide.2 (by omega)]
  rw[e]
 ·rw[decide_eq_true (p:=(i:Int)<1024) (by omega),cond_true,VF,PA ⟨by omega,h⟩,Int.toNat_natCast]
 ·rw[decide_eq_false (p:=(i:Int)<1024) (by omega),cond_false]
def WR.ok{x}(_:vA [.v .Win] x):Jw x=some (IC x):=by
 show Jw (x:Ap)=some (IC (x:Ap))
 generalize (show Ap from x)=w;simp only[Jw,aA,IC];cases ht:eA w.Top (-1) 281474976710655
 ·rfl
 cases hw:tC w.Bits 32
 ·rfl
 have hl:w.Bits.length=32:=by
  rw[tC,Bool.and_eq_true,beq_iff_eq]at hw;omega
 simp only[Bool.not_true,cond_false];rw[zkd w hl ht];cases qB 1024 _
 ·simp only[cond_false,Bool.not_false,Bool.true_and];cases hT:w.Top== -1
  ·simp only[cond_false,Bool.false_or];have:=rD.1 ht;have h1:w.Top≠ -1:=by simpa using hT
   rw[VF,PA ⟨by omega,hl⟩]
  ·rfl
 ·rfl
def zs3(l:List Int)(h:l.length=32)(z:Option Bool):uA FU (λ(x6:Int) k7=>cond (x6<32) (Option.bind (jA l x6) λe8=>cond (!(eA e8 0 4294967295)) (some false) (k7 (fA .i64 x6 1))) z) 0
  =bif l.all λe=>eA e 0 4294967295 then z else some false:=by
 have:=zeG l (by rw[h];decide) z;simp only[h]at this;exact this
def ZR.ok{x}(_:vA [.v .Win] x):Jt x=some (IC x):=by
 show Jt (x:Ap)=some (IC (x:Ap))
 generalize (show Ap from x)=w;simp only[Jt,aA,IC,tC]
 by_cases hl:w.Bits.length=32
 ·have e1:((w.Bits.length:Int) !=32)=false:=by simp[hl]
  have e2:((w.Bits.length:Int)==32)=true:=by simp[hl]
  rw[e1,e2];cases ht:eA w.Top (-1) 281474976710655
  ·rfl
  simp only[Bool.not_true,cond_false,Bool.and_true,Bool.true_and];rw[zs3 _ hl];cases w.Bits.all _
  ·rfl
  simp only[cond_true,Bool.true_and];rw[zkd w hl ht];have:=rD.1 ht
  by_cases h0:0≤w.Top
  ·have e3:decide (w.Top≥0)=true:=by simpa using h0
   have e4:(w.Top== -1)=false:=by simp;omega
   rw[e3,e4,VF,cond_true,PA ⟨h0,hl⟩];cases WC w w.Top.toNat<;>cases qB 1024 _<;>rfl
  ·have e3:decide (w.Top≥0)=false:=by simpa using h0
   have e4:(w.Top== -1)=true:=by simp;omega
   rw[e3,e4];cases qB 1024 _<;>rfl
 ·have e1:((w.Bits.length:Int) !=32)=true:=by simp;omega
  have e2:((w.Bits.length:Int)==32)=false:=by simp;omega
  rw[e1,e2];simp
def zk6(e:Av):(aA (R:=Bool) (λ(y1:Bool)=>some y1) λk2=>cond ((eA e.N 0 4294967295)) (cond ((e.Key.length:Int)==32) (cond ((eA e.Seq 0 281474976710656)) (k2 (IC e.Win)) (k2 false)) (k2 false)) (k2 false))=some (cC e):=by
 simp only[aA,KC,Bool.cond_false_right,cC]
 grind
def zcg.ok{x}(_:vA [.v .Ep] x):Oz x=some (cC x):=zk6 x
def zb4.ok{x}(_:vA [.v .Ep] x):Ow x=some (cC x):=zk6 x
def zaY.ok{x}(hb:vA [.sl .int, .sl .int] x):Pa x.1 x.2=some (zdQ x.1 x.2):=
 (zut (α:=Int) x.1 x.2 hb.1.1 _ zww).trans (congrArg some (zwj _ _))
def kF{β:Type}{a b:List UInt8}{f:Bool→Option β}(h1:wt a≤bA)(h2:wt b≤bA):Option.bind (uB a b) f=f (a==b):=PA ⟨h1,h2⟩
def zo3(a b:Av)(h:wt a≤bA∧wt b≤bA):Jx a b=some (zai a b):=by
 simp only[GK]at h;simp(disch:=omega) only[Jx,aA,kF,KC,Bool.cond_false_right,zai,zdQ]
 grind
def JR.ok{x}(_:vA [.v .Ep, .v .Ep] x){r}:LO x.1 x.2=some r→Jx x.1 x.2=some r:=QA λh=>zo3 x.1 x.2 h
def znB{α:Type}(l:List α):((l.length:Int)==0)=l.isEmpty:=by cases l<;>simp;omega
def zkl(e:Av):zai e (⟨0,[],0,(⟨0,[]⟩:Ap)⟩:Av)=UF e:=by
 simp only[zai,UF,znB];cases e.Key<;>cases e.Win.Bits<;>rfl
def zgN:wt (⟨0,[],0,(⟨0,[]⟩:Ap)⟩:Av)≤bA:=Nat.zero_le _
def IQ.ok{x}(_:vA [.v .Ep] x):Ju x=some (UF x):=by
 show Ju (x:Av)=some (UF (x:Av))
 generalize (show Av from x)=e;simp only[Ju,aA,KC,Bool.cond_false_right,UF]
 grind
def zpA(c:Aj)(h:wt c≤bA):Jy c=some (DG c):=by
 rw[QH]at h;simp only[Jy,aA,LO,PA (p:=wt c.Old≤bA∧wt (⟨0,[],0,(⟨0,[]⟩:Ap)⟩:Av)≤bA) ⟨by omega,zgN⟩,zkl,DG,KC]
 grind
def TR.ok{x}(_:vA [.v .Chan] x){r}:zdr x=some r→Jy x=some r:=QA λh=>zpA x h
def zo1(c:Aj)(h:wt c≤bA):Jz c=some (rB c):=by
 simp only[Jz,aA,zdr,PA h,rB,KC]
 grind
def rR.ok{x}(_:vA [.v .Chan] x){r}:lC x=some r→Jz x=some r:=QA λh=>zo1 x h
def zpa(c:Aj):Jv c=some (rB c):=by
 have e1:eA c.Role 0 1=(c.Role==0||c.Role==1):=by rw[Bool.eq_iff_iff,rD];simp;omega
 have e2:eA c.Until (-1) 1000005=(eA c.Until 0 1000005||c.Until== -1):=by rw[Bool.eq_iff_iff,Bool.or_eq_true,rD,rD];simp;omega
 simp only[Jv,aA,rB,DG,GA,mA,e1]
 by_cases h0:c.Role=0
 ·simp only[h0];cases c.HasOld<;>simp[KC]<;>grind
 ·by_cases h1:c.Role=1
  ·simp only[h1];cases c.HasOld<;>simp[KC,e2]<;>grind
  ·rw[beq_false_of_ne h0,beq_false_of_ne h1];rfl
def gR.ok{x}(_:vA [.v .Chan] x){r}:lC x=some r→Jv x=some r:=QA λ_=>zpa x
end Go.D
