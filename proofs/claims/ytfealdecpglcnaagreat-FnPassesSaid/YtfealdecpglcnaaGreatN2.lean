/-
 Sizes of the program's data.
-/
import Derived.Test.YtfealdecpglcnaaGreatN1
set_option linter.all false
namespace Go.D
instance:Wt Ap:=⟨λx=>wt x.Bits⟩
def IS(x:Ap):wt x=wt x.Bits:=rfl
instance:Wt Aw:=⟨λx=>wt x.Key+wt x.Win⟩
def fL(x:Aw):wt x=wt x.Key+wt x.Win:=rfl
instance:Wt Ak:=⟨λx=>wt x.Sn+wt x.Cur+wt x.Old+wt x.Next⟩
def xH(x:Ak):wt x=wt x.Sn+wt x.Cur+wt x.Old+wt x.Next:=rfl
end Go.D
namespace Go.D
noncomputable section
def MA(a:Ai):Bool:=eA a.Host 0 4294967295&&eA a.Port 0 65535
def NA(n:Int):Bool:=n==0||n==1
def oA(b:List UInt8):Bool:=(b.length:Int)==12
def AC(l:List Int)(n:Int):Bool:=(l.all λe=>eA e 0 4294967295)&&(l.length:Int)==n
def ZC(w:Ap)(n:Nat):Bool:=(w.Bits[n % 1024 / 32]?).any λe=>LB .i64 (DE .i64 e ((n % 32:Nat):Int)) 1==1
def NF(w:Ap)(n:Int):Option Bool:=pt (0≤n∧w.Bits.length=32) (ZC w n.toNat)
def bD(w:Ap):Bool:=eA w.Top (-1) 281474976710655&&AC w.Bits 32&&!(FB 1024 λi=>decide (w.Top<(i:Int))&&ZC w i)&&(w.Top== -1||ZC w w.Top.toNat)
def zdx(a b:List Int):Bool:=a==b
def cD(e:Aw):Bool:=eA e.N 0 4294967295&&(e.Key.length:Int)==32&&eA e.Seq 0 281474976710656&&bD e.Win
def vV(a b:Aw):Bool:=a.N==b.N&&a.Key==b.Key&&a.Seq==b.Seq&&a.Win.Top==b.Win.Top&&a.Win.Bits==b.Win.Bits
def fO(a b:Aw):Option Bool:=pt (wt a≤bA∧wt b≤bA) (vV a b)
def MF(e:Aw):Bool:=e.N==0&&(e.Key.length:Int)==0&&e.Seq==0&&e.Win.Top==0&&(e.Win.Bits.length:Int)==0
def CH(c:Ak):Bool:=bif c.HasOld then cD c.Old&&c.Old.N==wA .i64 c.Cur.N 1&&(eA c.Until 0 1000005||(c.Until== -1&&c.Role==1))else MF c.Old&&c.Until==0
def zc8(c:Ak):Option Bool:=pt (wt c≤bA) (CH c)
def xC(c:Ak):Bool:=NA c.Role&&oA c.Sn&&cD c.Cur&&CH c&&((c.Next.length:Int)==0||(c.Role==0&&(c.Next.length:Int)==32&&decide (c.Cur.N<4294967295)))
def sC(c:Ak):Option Bool:=pt (wt c≤bA) (xC c)
end
end Go.D
namespace Go.D
open Option renaming bind→ob
noncomputable section
def Qi(a0:Ap)(a1:Int):=
 ob (kA a0.Bits (PC .i64 (EA .i64 a1 1024) 32)) λe1=>
 cond (decide ((EA .i64 (EA .i64 a1 1024) 32)<0)) none (let x2:Int:=DE .i64 e1 (EA .i64 (EA .i64 a1 1024) 32)
 some ((LB .i64 x2 1)==1))
def Kv(a0:Ap):=
 aA (λy1=>
 cond (y1)
 (some false)
 (aA (λ(y4:Unit)=>
 aA (λy9=>
 cond (y9)
 (some false)
 (aA (λ(y12:Unit)=>
 some true) λk13=>
 qA FU (λ(x14:Int) k15=>
 cond (decide (x14<1024))
 (ob (NF a0 x14) λr16=>
 cond (r16)
 (some false)
 (k15 (iA .i64 x14 1)))
 (k13 ())) (iA .i64 a0.Top 1))) λk10=>
 cond (decide (a0.Top≥0))
 (ob (NF a0 a0.Top) λr11=>
 k10 (!r11))
 (k10 false)) λk5=>
 qA FU (λ(x6:Int) k7=>
 cond (decide (x6<32))
 (ob (kA a0.Bits x6) λe8=>
 cond (!(eA e8 0 4294967295))
 (some false)
 (k7 (iA .i64 x6 1)))
 (k5 ())) 0)) λk2=>
 cond ((a0.Bits.length:Int) !=32)
 (k2 true)
 (let r3:Bool:=eA a0.Top (-1) 281474976710655
 k2 (!r3))
def Qj(a0:Aw):=
 aA (λ(y1:Bool)=>
 some y1) λk2=>
 cond ((eA a0.N 0 4294967295))
 (cond ((a0.Key.length:Int)==32)
 (cond ((eA a0.Seq 0 281474976710656))
 (k2 (bD a0.Win))
 (k2 false))
 (k2 false))
 (k2 false)
def Kw(a0:Aw):=
 aA (λ(y1:Bool)=>
 some y1) λk2=>
 cond (a0.N==0)
 (cond ((a0.Key.length:Int)==0)
 (cond (a0.Seq==0)
 (cond (a0.Win.Top==0)
 (k2 ((a0.Win.Bits.length:Int)==0))
 (k2 false))
 (k2 false))
 (k2 false))
 (k2 false)
def Kx(a0:Ak):=
 aA (λy1=>
 cond (y1)
 (some false)
 (aA (λ(y3:Unit)=>
 cond ((a0.Next.length:Int)==0)
 (some true)
 (aA (λ(y11:Bool)=>
 some y11) λk12=>
 cond (a0.Role==0)
 (cond ((a0.Next.length:Int)==32)
 (k12 (decide (a0.Cur.N<4294967295)))
 (k12 false))
 (k12 false))) λk4=>
 cond (a0.HasOld)
 (aA (λ(y5:Int)=>
 aA (λy7=>
 cond (y7)
 (some false)
 (k4 ())) λk8=>
 cond (!(cD a0.Old))
 (k8 true)
 (cond (a0.Old.N !=(wA .i64 a0.Cur.N 1))
 (k8 true)
 (k8 (!(eA a0.Until y5 1000005))))) λk6=>
 cond (a0.Role==0)
 (k6 0)
 (k6 (-1)))
 (aA (λy9=>
 cond (y9)
 (some false)
 (k4 ())) λk10=>
 cond (!(MF a0.Old))
 (k10 true)
 (k10 (a0.Until !=0))))) λk2=>
 cond (!(eA a0.Role 0 1))
 (k2 true)
 (cond ((a0.Sn.length:Int) !=12)
 (k2 true)
 (k2 (!(cD a0.Cur))))
def Oy(a0:Int):=
 aA (λ(y1:Bool)=>
 some y1) λk2=>
 cond (a0==0)
 (k2 true)
 (k2 (a0==1))
def Qk(a0:List UInt8):=
 some ((a0.length:Int)==12)
def Oz(a0:List Int)(a1:Int):=
 aA (λ(y1:Unit)=>
 some ((a0.length:Int)==a1)) λk2=>
 qA FU (λ(x3:Int) k4=>
 cond (decide (x3<(a0.length:Int)))
 (ob (kA a0 x3) λe5=>
 cond (!(eA e5 0 4294967295))
 (some false)
 (k4 (iA .i64 x3 1)))
 (k2 ())) 0
def Ql(a0:Ap)(a1:Int):=
 ob (kA a0.Bits (PC .i64 (EA .i64 a1 1024) 32)) λe1=>
 cond (decide ((EA .i64 a1 32)<0)) none (let x2:Int:=LB .i64 (DE .i64 e1 (EA .i64 a1 32)) 1
 some (x2==1))
def Ky(a0:Ap):=
 aA (λy1=>
 cond (y1)
 (some false)
 (aA (λ(y4:Unit)=>
 aA (λ(y9:Bool)=>
 some y9) λk10=>
 cond (a0.Top==(-1))
 (k10 true)
 (ob (NF a0 a0.Top) λr11=>
 k10 r11)) λk5=>
 qA FU (λ(x6:Int) k7=>
 cond (decide (x6<1024))
 (ob (NF a0 x6) λr8=>
 cond (r8)
 (some false)
 (k7 (iA .i64 x6 1)))
 (k5 ())) (iA .i64 a0.Top 1))) λk2=>
 let r3:Bool:=eA a0.Top (-1) 281474976710655
 cond (!r3)
 (k2 true)
 (k2 (!(AC a0.Bits 32)))
def Qm(a0:Aw):=
 aA (λ(y1:Bool)=>
 some y1) λk2=>
 cond ((eA a0.N 0 4294967295))
 (cond ((a0.Key.length:Int)==32)
 (cond ((eA a0.Seq 0 281474976710656))
 (k2 (bD a0.Win))
 (k2 false))
 (k2 false))
 (k2 false)
def Qn(a0:List Int)(a1:List Int):=
 cond ((a0.length:Int) !=(a1.length:Int))
 (some false)
 (aA (λ(y1:Unit)=>
 some true) λk2=>
 qA FU (λ(x3:Int) k4=>
 cond (decide (x3<(a0.length:Int)))
 (ob (kA a0 x3) λe5=>
 ob (kA a1 x3) λe6=>
 cond (e5 !=e6)
 (some false)
 (k4 (iA .i64 x3 1)))
 (k2 ())) 0)
def Kz(a0:Aw)(a1:Aw):=
 aA (λ(y1:Bool)=>
 some y1) λk2=>
 cond (a0.N==a1.N)
 (ob (BB a0.Key a1.Key) λr3=>
 cond (r3)
 (cond (a0.Seq==a1.Seq)
 (cond (a0.Win.Top==a1.Win.Top)
 (k2 (zdx a0.Win.Bits a1.Win.Bits))
 (k2 false))
 (k2 false))
 (k2 false))
 (k2 false)
def La(a0:Ak):=
 cond (!a0.HasOld)
 (aA (λ(y1:Bool)=>
 some y1) λk2=>
 ob (fO a0.Old (⟨0,[],0,(⟨0,[]⟩:Ap)⟩:Aw)) λr3=>
 cond (r3)
 (k2 (a0.Until==0))
 (k2 false))
 (aA (λy4=>
 cond (y4)
 (some false)
 (aA (λ(y6:Bool)=>
 some y6) λk7=>
 cond ((eA a0.Until 0 1000005))
 (k7 true)
 (cond (a0.Until==(-1))
 (k7 (a0.Role==1))
 (k7 false)))) λk5=>
 cond (!(cD a0.Old))
 (k5 true)
 (k5 (a0.Old.N !=(wA .i64 a0.Cur.N 1))))
def Lb(a0:Ak):=
 aA (λy1=>
 cond (y1)
 (some false)
 (aA (λ(y4:Bool)=>
 some y4) λk5=>
 cond ((a0.Next.length:Int)==0)
 (k5 true)
 (cond (a0.Role==0)
 (cond ((a0.Next.length:Int)==32)
 (k5 (decide (a0.Cur.N<4294967295)))
 (k5 false))
 (k5 false)))) λk2=>
 cond (!(NA a0.Role))
 (k2 true)
 (cond (!(oA a0.Sn))
 (k2 true)
 (cond (!(cD a0.Cur))
 (k2 true)
 (ob (zc8 a0) λr3=>
 k2 (!r3))))
end
end Go.D
namespace Go.D
end Go.D
namespace Go.D
def zja(a:Ai):aA (R:=Bool) (λ(y:Bool)=>some y) (λk=>cond (eA a.Host 0 4294967295) (k (eA a.Port 0 65535)) (k false))=some (MA a):=by
 simp only[aA,MA];cases eA a.Host 0 4294967295<;>rfl
def YC{n lo hi:Int}:eA n lo hi=true↔lo≤n∧n≤hi:=by simp[eA]
def zuS{n lo hi:Int}:eA n lo hi=false↔¬(lo≤n∧n≤hi):=by
 rw[←YC];cases eA n lo hi<;>simp
def gU.ok{x}(_:xA [.v .int] x):Oy x=some (NA x):=by
 simp only[Oy,aA,WC,Bool.cond_true_left];rfl
def zaD.ok{x}(_:xA [.sl .byte] x):Qk x=some (oA x):=rfl
def zei(l:List Int)(hl:l.length≤maxLen)(z:Option Bool):qA FU (λ(x3:Int) k4=>cond (decide (x3<(l.length:Int))) (Option.bind (kA l x3) λe5=>cond (!(eA e5 0 4294967295)) (some false) (k4 (iA .i64 x3 1))) z) 0
  =bif l.all λe=>eA e 0 4294967295 then z else some false:=by
 rw[aS l hl (λe=>!(eA e 0 4294967295)) (some false) z (λi k hi=>?_) (λk=>by simp only[SD,cond_false])]
 ·rw[List.all_eq_not_any_not];cases l.any _<;>rfl
 ·simp only[wD hi,cond_true,HB hi,YA]
def ET.ok{x}(hb:xA [.sl .int, .v .int] x):Oz x.1 x.2=some (AC x.1 x.2):=by
 simp only[Oz,aA];rw[zei (show List Int from x.1) hb.1.1,AC];cases List.all _ _<;>rfl
def zll(w:Ap)(n:Nat)(h:w.Bits.length=32)(hn:n≤maxLen){b:Int}(hb:b=((n % 32:Nat):Int)):
  (Option.bind (kA w.Bits (PC .i64 (EA .i64 (n:Int) 1024) 32)) λe1=>cond (decide (b<0)) none (some (LB .i64 (DE .i64 e1 b) 1==1)))=some (ZC w n):=by
 have e1:EA .i64 (n:Int) 1024=((n % 1024:Nat):Int):=qS n 1024;have e2:PC .i64 ((n % 1024:Nat):Int) 32=((n % 1024 / 32:Nat):Int):=zt5 _ 32 (by omega) (by omega);have hi:n % 1024 / 32<w.Bits.length:=by omega
 have hz:decide (b<0)=false:=by rw[decide_eq_false_iff_not];omega
 rw[e1,e2,HB hi,YA,hz,cond_false,ZC,EF hi,hb]
def zlF(n:Nat):EA .i64 (n:Int) 32=((n % 32:Nat):Int):=qS n 32
def TF{n:Int}(h:0≤n):∃m:Nat,n=(m:Int):=Int.eq_ofNat_of_zero_le h
def zlx{n:Int}(hb:qI .int n):n≤9223372036854775807:=zu2 hb
def za7.ok{x}(hb:xA [.v .Win, .v .int] x){r}:NF x.1 x.2=some r→Ql x.1 x.2=some r:=UA λh=>by
 obtain⟨w,n⟩:=x;obtain⟨m,hm⟩:=TF h.1;have hm:n=(m:Int):=hm;have h9:=zlx hb.2;have h9:(n:Int)≤9223372036854775807:=h9;subst hm;exact zll (w:Ap) m h.2 (by unfold maxLen;omega) (zlF m)
def zbJ.ok{x}(hb:xA [.v .Win, .v .int] x){r}:NF x.1 x.2=some r→Qi x.1 x.2=some r:=UA λh=>by
 obtain⟨w,n⟩:=x;obtain⟨m,hm⟩:=TF h.1;have hm:n=(m:Int):=hm;have h9:=zlx hb.2;have h9:(n:Int)≤9223372036854775807:=h9;subst hm;have e1:EA .i64 (m:Int) 1024=((m % 1024:Nat):Int):=qS m 1024;exact zll (w:Ap) m h.2 (by unfold maxLen;omega) (b:=EA .i64 (EA .i64 (m:Int) 1024) 32) (by rw[e1,zlF];congr 1;omega)
def zjZ(w:Ap)(h:w.Bits.length=32)(ht:eA w.Top (-1) 281474976710655=true)(z:Option Bool):
  qA FU (λ(x6:Int) k7=>cond (decide (x6<1024)) (Option.bind (NF w x6) λr=>cond r (some false) (k7 (iA .i64 x6 1))) z) (iA .i64 w.Top 1)
  =bif FB 1024 (λi=>decide (w.Top<(i:Int))&&ZC w i)then some false else z:=by
 have ht:=YC.1 ht;obtain⟨a,ha⟩:=TF (n:=w.Top+1) (by omega);rw[iA,XB (by omega) (by omega),ha];rw[zss a 1024 (by decide) (ZC w) (some false) z (λi k hi=>?_) (λi k hi=>?_)]
 ·have e:FB 1024 (λi=>decide (a≤i)&&ZC w i)=FB 1024 (λi=>decide (w.Top<(i:Int))&&ZC w i):=zjh λi _=>by
   rw[show decide (w.Top<(i:Int))=decide (a≤i)from decide_eq_decide.2 (by omega)]
  rw[e]
 ·rw[decide_eq_true (p:=(i:Int)<1024) (by omega),cond_true,NF,HA ⟨by omega,h⟩,Int.toNat_natCast]
 ·rw[decide_eq_false (p:=(i:Int)<1024) (by omega),cond_false]
def xR.ok{x}(_:xA [.v .Win] x):Ky x=some (bD x):=by
 show Ky (x:Ap)=some (bD (x:Ap))
 generalize (show Ap from x)=w;simp only[Ky,aA,bD];cases ht:eA w.Top (-1) 281474976710655
 ·rfl
 cases hw:AC w.Bits 32
 ·rfl
 have hl:w.Bits.length=32:=by
  rw[AC,Bool.and_eq_true,beq_iff_eq]at hw;omega
 simp only[Bool.not_true,cond_false];rw[zjZ w hl ht];cases FB 1024 _
 ·simp only[cond_false,Bool.not_false,Bool.true_and];cases hT:w.Top== -1
  ·simp only[cond_false,Bool.false_or];have:=YC.1 ht;have h1:w.Top≠ -1:=by simpa using hT
   rw[NF,HA ⟨by omega,hl⟩]
  ·rfl
 ·rfl
def zsE(l:List Int)(h:l.length=32)(z:Option Bool):qA FU (λ(x6:Int) k7=>cond (decide (x6<32)) (Option.bind (kA l x6) λe8=>cond (!(eA e8 0 4294967295)) (some false) (k7 (iA .i64 x6 1))) z) 0
  =bif l.all λe=>eA e 0 4294967295 then z else some false:=by
 have:=zei l (by rw[h];decide) z;simp only[h]at this;exact this
def AR.ok{x}(_:xA [.v .Win] x):Kv x=some (bD x):=by
 show Kv (x:Ap)=some (bD (x:Ap))
 generalize (show Ap from x)=w;simp only[Kv,aA,bD,AC]
 by_cases hl:w.Bits.length=32
 ·have e1:((w.Bits.length:Int) !=32)=false:=by simp[hl]
  have e2:((w.Bits.length:Int)==32)=true:=by simp[hl]
  rw[e1,e2];cases ht:eA w.Top (-1) 281474976710655
  ·rfl
  simp only[Bool.not_true,cond_false,Bool.and_true,Bool.true_and];rw[zsE _ hl];cases w.Bits.all _
  ·rfl
  simp only[cond_true,Bool.true_and];rw[zjZ w hl ht];have:=YC.1 ht
  by_cases h0:0≤w.Top
  ·have e3:decide (w.Top≥0)=true:=by simpa using h0
   have e4:(w.Top== -1)=false:=by simp;omega
   rw[e3,e4,NF,cond_true,HA ⟨h0,hl⟩];cases ZC w w.Top.toNat<;>cases FB 1024 _<;>rfl
  ·have e3:decide (w.Top≥0)=false:=by simpa using h0
   have e4:(w.Top== -1)=true:=by simp;omega
   rw[e3,e4];cases FB 1024 _<;>rfl
 ·have e1:((w.Bits.length:Int) !=32)=true:=by simp;omega
  have e2:((w.Bits.length:Int)==32)=false:=by simp;omega
  rw[e1,e2];simp
def zkI(e:Aw):(aA (R:=Bool) (λ(y1:Bool)=>some y1) λk2=>cond ((eA e.N 0 4294967295)) (cond ((e.Key.length:Int)==32) (cond ((eA e.Seq 0 281474976710656)) (k2 (bD e.Win)) (k2 false)) (k2 false)) (k2 false))=some (cD e):=by
 simp only[aA,WC,Bool.cond_false_right,cD]
 grind
def zb1.ok{x}(_:xA [.v .Ep] x):Qm x=some (cD x):=zkI x
def zbQ.ok{x}(_:xA [.v .Ep] x):Qj x=some (cD x):=zkI x
def zax.ok{x}(hb:xA [.sl .int, .sl .int] x):Qn x.1 x.2=some (zdx x.1 x.2):=
 (ztR (α:=Int) x.1 x.2 hb.1.1 _ zvB).trans (congrArg some (zvp _ _))
def CI{β:Type}{a b:List UInt8}{f:Bool→Option β}(h1:wt a≤bA)(h2:wt b≤bA):Option.bind (BB a b) f=f (a==b):=HA ⟨h1,h2⟩
def zoW(a b:Aw)(h:wt a≤bA∧wt b≤bA):Kz a b=some (vV a b):=by
 simp only[fL]at h;simp(disch:=omega) only[Kz,aA,CI,WC,Bool.cond_false_right,vV,zdx]
 grind
def jR.ok{x}(_:xA [.v .Ep, .v .Ep] x){r}:fO x.1 x.2=some r→Kz x.1 x.2=some r:=UA λh=>zoW x.1 x.2 h
def zne{α:Type}(l:List α):((l.length:Int)==0)=l.isEmpty:=by cases l<;>simp;omega
def zj6(e:Aw):vV e (⟨0,[],0,(⟨0,[]⟩:Ap)⟩:Aw)=MF e:=by
 simp only[vV,MF,zne];cases e.Key<;>cases e.Win.Bits<;>rfl
def zf6:wt (⟨0,[],0,(⟨0,[]⟩:Ap)⟩:Aw)≤bA:=Nat.zero_le _
def lQ.ok{x}(_:xA [.v .Ep] x):Kw x=some (MF x):=by
 show Kw (x:Aw)=some (MF (x:Aw))
 generalize (show Aw from x)=e;simp only[Kw,aA,WC,Bool.cond_false_right,MF]
 grind
def zpt(c:Ak)(h:wt c≤bA):La c=some (CH c):=by
 rw[xH]at h;simp only[La,aA,fO,HA (p:=wt c.Old≤bA∧wt (⟨0,[],0,(⟨0,[]⟩:Ap)⟩:Aw)≤bA) ⟨by omega,zf6⟩,zj6,CH,WC]
 grind
def wR.ok{x}(_:xA [.v .Chan] x){r}:zc8 x=some r→La x=some r:=UA λh=>zpt x h
def zoU(c:Ak)(h:wt c≤bA):Lb c=some (xC c):=by
 simp only[Lb,aA,zc8,HA h,xC,WC]
 grind
def PQ.ok{x}(_:xA [.v .Chan] x){r}:sC x=some r→Lb x=some r:=UA λh=>zoU x h
def zoZ(c:Ak):Kx c=some (xC c):=by
 have e1:eA c.Role 0 1=(c.Role==0||c.Role==1):=by rw[Bool.eq_iff_iff,YC];simp;omega
 have e2:eA c.Until (-1) 1000005=(eA c.Until 0 1000005||c.Until== -1):=by rw[Bool.eq_iff_iff,Bool.or_eq_true,YC,YC];simp;omega
 simp only[Kx,aA,xC,CH,NA,oA,e1]
 by_cases h0:c.Role=0
 ·simp only[h0];cases c.HasOld<;>simp[WC]<;>grind
 ·by_cases h1:c.Role=1
  ·simp only[h1];cases c.HasOld<;>simp[WC,e2]<;>grind
  ·rw[beq_false_of_ne h0,beq_false_of_ne h1];rfl
def FQ.ok{x}(_:xA [.v .Chan] x){r}:sC x=some r→Kx x=some r:=UA λ_=>zoZ x
end Go.D
