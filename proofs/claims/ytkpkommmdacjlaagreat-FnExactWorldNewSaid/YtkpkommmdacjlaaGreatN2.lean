/-
 Sizes of the program's data.
-/
import Derived.Test.YtkpkommmdacjlaaGreatN1
set_option linter.all false
namespace Go.D
instance:Wt Al:=⟨λx=>wt x.Bits⟩
def xT(x:Al):wt x=wt x.Bits:=rfl
instance:Wt Aq:=⟨λx=>wt x.Key+wt x.Win⟩
def IN(x:Aq):wt x=wt x.Key+wt x.Win:=rfl
instance:Wt Ah:=⟨λx=>wt x.Sn+wt x.Cur+wt x.Old+wt x.Next⟩
def XH(x:Ah):wt x=wt x.Sn+wt x.Cur+wt x.Old+wt x.Next:=rfl
end Go.D
namespace Go.D
noncomputable section
def WB(a:Af):Bool:=oA a.Host 0 4294967295&&oA a.Port 0 65535
def DN(n:Int):Bool:=n==0||n==1
def PB(b:List UInt8):Bool:=(b.length:Int)==12
def BB(l:List Int)(n:Int):Bool:=(l.all λe=>oA e 0 4294967295)&&(l.length:Int)==n
def QG(w:Al)(n:Nat):Bool:=(w.Bits[n % 1024 / 32]?).any λe=>nB .i64 (aE .i64 e ((n % 32:Nat):Int)) 1==1
def IF(w:Al)(n:Int):Option Bool:=pt (0≤n∧w.Bits.length=32) (QG w n.toNat)
def BF(w:Al):Bool:=oA w.Top (-1) 281474976710655&&BB w.Bits 32&&!(jB 1024 λi=>decide (w.Top<(i:Int))&&QG w i)&&(w.Top== -1||QG w w.Top.toNat)
def XQ(a b:List Int):Bool:=a==b
def KF(e:Aq):Bool:=oA e.N 0 4294967295&&(e.Key.length:Int)==32&&oA e.Seq 0 281474976710656&&BF e.Win
def AN(a b:Aq):Bool:=a.N==b.N&&a.Key==b.Key&&a.Seq==b.Seq&&a.Win.Top==b.Win.Top&&a.Win.Bits==b.Win.Bits
def VI(a b:Aq):Option Bool:=pt (wt a≤eA∧wt b≤eA) (AN a b)
def FF(e:Aq):Bool:=e.N==0&&(e.Key.length:Int)==0&&e.Seq==0&&e.Win.Top==0&&(e.Win.Bits.length:Int)==0
def NN(c:Ah):Bool:=bif c.HasOld then KF c.Old&&c.Old.N==SA .i64 c.Cur.N 1&&(oA c.Until 0 1000005||(c.Until== -1&&c.Role==1))else FF c.Old&&c.Until==0
def vQ(c:Ah):Option Bool:=pt (wt c≤eA) (NN c)
def dI(c:Ah):Bool:=DN c.Role&&PB c.Sn&&KF c.Cur&&NN c&&((c.Next.length:Int)==0||(c.Role==0&&(c.Next.length:Int)==32&&decide (c.Cur.N<4294967295)))
def tF(c:Ah):Option Bool:=pt (wt c≤eA) (dI c)
end
end Go.D
namespace Go.D
open Option renaming bind→ob
noncomputable section
def Fr(a0:Al)(a1:Int):=
 ob (vA a0.Bits (QL .i64 (OC .i64 a1 1024) 32)) λe1=>
 cond (decide ((OC .i64 (OC .i64 a1 1024) 32)<0)) none (let x2:Int:=aE .i64 e1 (OC .i64 (OC .i64 a1 1024) 32)
 some ((nB .i64 x2 1)==1))
def Bk(a0:Al):=
 fA (λy1=>
 cond (y1)
 (some false)
 (fA (λ(y4:Unit)=>
 fA (λy9=>
 cond (y9)
 (some false)
 (fA (λ(y12:Unit)=>
 some true) λk13=>
 yA FU (λ(x14:Int) DH=>
 cond (decide (x14<1024))
 (ob (IF a0 x14) λr16=>
 cond (r16)
 (some false)
 (DH (mA .i64 x14 1)))
 (k13 ())) (mA .i64 a0.Top 1))) λk10=>
 cond (decide (a0.Top≥0))
 (ob (IF a0 a0.Top) λr11=>
 k10 (!r11))
 (k10 false)) λk5=>
 yA FU (λ(x6:Int) k7=>
 cond (decide (x6<32))
 (ob (vA a0.Bits x6) λe8=>
 cond (!(oA e8 0 4294967295))
 (some false)
 (k7 (mA .i64 x6 1)))
 (k5 ())) 0)) λk2=>
 cond ((a0.Bits.length:Int) !=32)
 (k2 true)
 (let r3:Bool:=oA a0.Top (-1) 281474976710655
 k2 (!r3))
def Fs(a0:Aq):=
 fA (λ(y1:Bool)=>
 some y1) λk2=>
 cond ((oA a0.N 0 4294967295))
 (cond ((a0.Key.length:Int)==32)
 (cond ((oA a0.Seq 0 281474976710656))
 (k2 (BF a0.Win))
 (k2 false))
 (k2 false))
 (k2 false)
def Bl(a0:Aq):=
 fA (λ(y1:Bool)=>
 some y1) λk2=>
 cond (a0.N==0)
 (cond ((a0.Key.length:Int)==0)
 (cond (a0.Seq==0)
 (cond (a0.Win.Top==0)
 (k2 ((a0.Win.Bits.length:Int)==0))
 (k2 false))
 (k2 false))
 (k2 false))
 (k2 false)
def Bm(a0:Ah):=
 fA (λy1=>
 cond (y1)
 (some false)
 (fA (λ(y3:Unit)=>
 cond ((a0.Next.length:Int)==0)
 (some true)
 (fA (λ(y11:Bool)=>
 some y11) λk12=>
 cond (a0.Role==0)
 (cond ((a0.Next.length:Int)==32)
 (k12 (decide (a0.Cur.N<4294967295)))
 (k12 false))
 (k12 false))) λk4=>
 cond (a0.HasOld)
 (fA (λ(y5:Int)=>
 fA (λy7=>
 cond (y7)
 (some false)
 (k4 ())) λk8=>
 cond (!(KF a0.Old))
 (k8 true)
 (cond (a0.Old.N !=(SA .i64 a0.Cur.N 1))
 (k8 true)
 (k8 (!(oA a0.Until y5 1000005))))) λk6=>
 cond (a0.Role==0)
 (k6 0)
 (k6 (-1)))
 (fA (λy9=>
 cond (y9)
 (some false)
 (k4 ())) λk10=>
 cond (!(FF a0.Old))
 (k10 true)
 (k10 (a0.Until !=0))))) λk2=>
 cond (!(oA a0.Role 0 1))
 (k2 true)
 (cond ((a0.Sn.length:Int) !=12)
 (k2 true)
 (k2 (!(KF a0.Cur))))
def Ej(a0:Int):=
 fA (λ(y1:Bool)=>
 some y1) λk2=>
 cond (a0==0)
 (k2 true)
 (k2 (a0==1))
def Ft(a0:List UInt8):=
 some ((a0.length:Int)==12)
def Ek(a0:List Int)(a1:Int):=
 fA (λ(y1:Unit)=>
 some ((a0.length:Int)==a1)) λk2=>
 yA FU (λ(x3:Int) k4=>
 cond (decide (x3<(a0.length:Int)))
 (ob (vA a0 x3) λe5=>
 cond (!(oA e5 0 4294967295))
 (some false)
 (k4 (mA .i64 x3 1)))
 (k2 ())) 0
def Fu(a0:Al)(a1:Int):=
 ob (vA a0.Bits (QL .i64 (OC .i64 a1 1024) 32)) λe1=>
 cond (decide ((OC .i64 a1 32)<0)) none (let x2:Int:=nB .i64 (aE .i64 e1 (OC .i64 a1 32)) 1
 some (x2==1))
def Bn(a0:Al):=
 fA (λy1=>
 cond (y1)
 (some false)
 (fA (λ(y4:Unit)=>
 fA (λ(y9:Bool)=>
 some y9) λk10=>
 cond (a0.Top==(-1))
 (k10 true)
 (ob (IF a0 a0.Top) λr11=>
 k10 r11)) λk5=>
 yA FU (λ(x6:Int) k7=>
 cond (decide (x6<1024))
 (ob (IF a0 x6) λr8=>
 cond (r8)
 (some false)
 (k7 (mA .i64 x6 1)))
 (k5 ())) (mA .i64 a0.Top 1))) λk2=>
 let r3:Bool:=oA a0.Top (-1) 281474976710655
 cond (!r3)
 (k2 true)
 (k2 (!(BB a0.Bits 32)))
def Fv(a0:Aq):=
 fA (λ(y1:Bool)=>
 some y1) λk2=>
 cond ((oA a0.N 0 4294967295))
 (cond ((a0.Key.length:Int)==32)
 (cond ((oA a0.Seq 0 281474976710656))
 (k2 (BF a0.Win))
 (k2 false))
 (k2 false))
 (k2 false)
def Fw(a0:List Int)(a1:List Int):=
 cond ((a0.length:Int) !=(a1.length:Int))
 (some false)
 (fA (λ(y1:Unit)=>
 some true) λk2=>
 yA FU (λ(x3:Int) k4=>
 cond (decide (x3<(a0.length:Int)))
 (ob (vA a0 x3) λe5=>
 ob (vA a1 x3) λe6=>
 cond (e5 !=e6)
 (some false)
 (k4 (mA .i64 x3 1)))
 (k2 ())) 0)
def Bo(a0:Aq)(a1:Aq):=
 fA (λ(y1:Bool)=>
 some y1) λk2=>
 cond (a0.N==a1.N)
 (ob (wD a0.Key a1.Key) λr3=>
 cond (r3)
 (cond (a0.Seq==a1.Seq)
 (cond (a0.Win.Top==a1.Win.Top)
 (k2 (XQ a0.Win.Bits a1.Win.Bits))
 (k2 false))
 (k2 false))
 (k2 false))
 (k2 false)
def Bp(a0:Ah):=
 cond (!a0.HasOld)
 (fA (λ(y1:Bool)=>
 some y1) λk2=>
 ob (VI a0.Old (⟨0,[],0,(⟨0,[]⟩:Al)⟩:Aq)) λr3=>
 cond (r3)
 (k2 (a0.Until==0))
 (k2 false))
 (fA (λy4=>
 cond (y4)
 (some false)
 (fA (λ(y6:Bool)=>
 some y6) λk7=>
 cond ((oA a0.Until 0 1000005))
 (k7 true)
 (cond (a0.Until==(-1))
 (k7 (a0.Role==1))
 (k7 false)))) λk5=>
 cond (!(KF a0.Old))
 (k5 true)
 (k5 (a0.Old.N !=(SA .i64 a0.Cur.N 1))))
def Bq(a0:Ah):=
 fA (λy1=>
 cond (y1)
 (some false)
 (fA (λ(y4:Bool)=>
 some y4) λk5=>
 cond ((a0.Next.length:Int)==0)
 (k5 true)
 (cond (a0.Role==0)
 (cond ((a0.Next.length:Int)==32)
 (k5 (decide (a0.Cur.N<4294967295)))
 (k5 false))
 (k5 false)))) λk2=>
 cond (!(DN a0.Role))
 (k2 true)
 (cond (!(PB a0.Sn))
 (k2 true)
 (cond (!(KF a0.Cur))
 (k2 true)
 (ob (vQ a0) λr3=>
 k2 (!r3))))
def Fx(a0:List Int)(a1:List Int):=
 cond ((a0.length:Int) !=(a1.length:Int))
 (some false)
 (fA (λ(y1:Unit)=>
 some true) λk2=>
 yA FU (λ(x3:Int) k4=>
 cond (decide (x3<(a0.length:Int)))
 (ob (vA a0 x3) λe5=>
 ob (vA a1 x3) λe6=>
 cond (e5 !=e6)
 (some false)
 (k4 (mA .i64 x3 1)))
 (k2 ())) 0)
def Br(a0:Al)(a1:Al):=
 cond (a0.Top !=a1.Top)
 (some false)
 (cond (!(qA a0.Bits a1.Bits))
 (some false)
 (some true))
def Bs(a0:Aq)(a1:Aq):=
 cond (a0.N !=a1.N)
 (some false)
 (cond (!(qA a0.Key a1.Key))
 (some false)
 (cond (a0.Seq !=a1.Seq)
 (some false)
 (cond (!(qA a0.Win a1.Win))
 (some false)
 (some true))))
def Bt(a0:Ah)(a1:Ah):=
 cond (a0.Role !=a1.Role)
 (some false)
 (cond (!(qA a0.Sn a1.Sn))
 (some false)
 (cond (!(qA a0.Cur a1.Cur))
 (some false)
 (cond (!(qA a0.Old a1.Old))
 (some false)
 (cond (!(a0.HasOld==a1.HasOld))
 (some false)
 (cond (a0.Until !=a1.Until)
 (some false)
 (cond (!(qA a0.Next a1.Next))
 (some false)
 (some true)))))))
end
end Go.D
namespace Go.D
def zdK(a b:Ah):Bt a b=some (qA a b):=by
 simp only[Bt];refine NB (λy:Ah=>y.Role) λh0=>?_;refine gB (λy:Ah=>y.Sn) λh1=>?_;refine gB (λy:Ah=>y.Cur) λh2=>?_;refine gB (λy:Ah=>y.Old) λh3=>?_;refine gT (λy:Ah=>y.HasOld) λh4=>?_;refine NB (λy:Ah=>y.Until) λh5=>?_;refine gB (λy:Ah=>y.Next) λh6=>?_;exact QD (by cases a;cases b;simp_all)
def mK.ok{x}(_:sA [.v .Chan, .v .Chan] x):Bt x.1 x.2=some (qA x.1 x.2):=zdK x.1 x.2
def zd3(a b:Aq):Bs a b=some (qA a b):=by
 simp only[Bs];refine NB (λy:Aq=>y.N) λh0=>?_;refine gB (λy:Aq=>y.Key) λh1=>?_;refine NB (λy:Aq=>y.Seq) λh2=>?_;refine gB (λy:Aq=>y.Win) λh3=>?_;exact QD (by cases a;cases b;simp_all)
def WK.ok{x}(_:sA [.v .Ep, .v .Ep] x):Bs x.1 x.2=some (qA x.1 x.2):=zd3 x.1 x.2
def zdS(a b:Al):Br a b=some (qA a b):=by
 simp only[Br];refine NB (λy:Al=>y.Top) λh0=>?_;refine gB (λy:Al=>y.Bits) λh1=>?_;exact QD (by cases a;cases b;simp_all)
def HK.ok{x}(_:sA [.v .Win, .v .Win] x):Br x.1 x.2=some (qA x.1 x.2):=zdS x.1 x.2
def xO.ok{x}(hb:sA [.sl .int, .sl .int] x):Fx x.1 x.2=some (qA x.1 x.2):=DG (α:=Int) x.1 x.2 hb.1.1 _ zcb
end Go.D
namespace Go.D
def cV(a:Af):fA (R:=Bool) (λ(y:Bool)=>some y) (λk=>cond (oA a.Host 0 4294967295) (k (oA a.Port 0 65535)) (k false))=some (WB a):=by
 simp only[fA,WB];cases oA a.Host 0 4294967295<;>rfl
def GD{n lo hi:Int}:oA n lo hi=true↔lo≤n∧n≤hi:=by simp[oA]
def zhU{n lo hi:Int}:oA n lo hi=false↔¬(lo≤n∧n≤hi):=by
 rw[←GD];cases oA n lo hi<;>simp
def BM.ok{x}(_:sA [.v .int] x):Ej x=some (DN x):=by
 simp only[Ej,fA,HC,Bool.cond_true_left];rfl
def kO.ok{x}(_:sA [.sl .byte] x):Ft x=some (PB x):=rfl
def tR(l:List Int)(hl:l.length≤maxLen)(z:Option Bool):yA FU (λ(x3:Int) k4=>cond (decide (x3<(l.length:Int))) (Option.bind (vA l x3) λe5=>cond (!(oA e5 0 4294967295)) (some false) (k4 (mA .i64 x3 1))) z) 0
  =bif l.all λe=>oA e 0 4294967295 then z else some false:=by
 rw[jS l hl (λe=>!(oA e 0 4294967295)) (some false) z (λi k hi=>?_) (λk=>by simp only[sD,cond_false])]
 ·rw[List.all_eq_not_any_not];cases l.any _<;>rfl
 ·simp only[bD hi,cond_true,rC hi,lB]
def lM.ok{x}(hb:sA [.sl .int, .v .int] x):Ek x.1 x.2=some (BB x.1 x.2):=by
 simp only[Ek,fA];rw[tR (show List Int from x.1) hb.1.1,BB];cases List.all _ _<;>rfl
def zb3(w:Al)(n:Nat)(h:w.Bits.length=32)(hn:n≤maxLen){b:Int}(hb:b=((n % 32:Nat):Int)):
  (Option.bind (vA w.Bits (QL .i64 (OC .i64 (n:Int) 1024) 32)) λe1=>cond (decide (b<0)) none (some (nB .i64 (aE .i64 e1 b) 1==1)))=some (QG w n):=by
 have e1:OC .i64 (n:Int) 1024=((n % 1024:Nat):Int):=qL n 1024;have e2:QL .i64 ((n % 1024:Nat):Int) 32=((n % 1024 / 32:Nat):Int):=zha _ 32 (by omega) (by omega);have hi:n % 1024 / 32<w.Bits.length:=by omega
 have hz:decide (b<0)=false:=by rw[decide_eq_false_iff_not];omega
 rw[e1,e2,rC hi,lB,hz,cond_false,QG,BE hi,hb]
def zcp(n:Nat):OC .i64 (n:Int) 32=((n % 32:Nat):Int):=qL n 32
def kE{n:Int}(h:0≤n):∃m:Nat,n=(m:Int):=Int.eq_ofNat_of_zero_le h
def zci{n:Int}(hb:TF .int n):n≤9223372036854775807:=zh4 hb
def yO.ok{x}(hb:sA [.v .Win, .v .int] x){r}:IF x.1 x.2=some r→Fu x.1 x.2=some r:=YA λh=>by
 obtain⟨w,n⟩:=x;obtain⟨m,hm⟩:=kE h.1;have hm:n=(m:Int):=hm;have h9:=zci hb.2;have h9:(n:Int)≤9223372036854775807:=h9;subst hm;exact zb3 (w:Al) m h.2 (by unfold maxLen;omega) (zcp m)
def UO.ok{x}(hb:sA [.v .Win, .v .int] x){r}:IF x.1 x.2=some r→Fr x.1 x.2=some r:=YA λh=>by
 obtain⟨w,n⟩:=x;obtain⟨m,hm⟩:=kE h.1;have hm:n=(m:Int):=hm;have h9:=zci hb.2;have h9:(n:Int)≤9223372036854775807:=h9;subst hm;have e1:OC .i64 (m:Int) 1024=((m % 1024:Nat):Int):=qL m 1024;exact zb3 (w:Al) m h.2 (by unfold maxLen;omega) (b:=OC .i64 (OC .i64 (m:Int) 1024) 32) (by rw[e1,zcp];congr 1;omega)
def zaB(w:Al)(h:w.Bits.length=32)(ht:oA w.Top (-1) 281474976710655=true)(z:Option Bool):
  yA FU (λ(x6:Int) k7=>cond (decide (x6<1024)) (Option.bind (IF w x6) λr=>cond r (some false) (k7 (mA .i64 x6 1))) z) (mA .i64 w.Top 1)
  =bif jB 1024 (λi=>decide (w.Top<(i:Int))&&QG w i)then some false else z:=by
 have ht:=GD.1 ht;obtain⟨a,ha⟩:=kE (n:=w.Top+1) (by omega);rw[mA,sB (by omega) (by omega),ha];rw[zfB a 1024 (by decide) (QG w) (some false) z (λi k hi=>?_) (λi k hi=>?_)]
 ·have e:jB 1024 (λi=>decide (a≤i)&&QG w i)=jB 1024 (λi=>decide (w.Top<(i:Int))&&QG w i):=jV λi _=>by
   rw[show decide (w.Top<(i:Int))=decide (a≤i)from decide_eq_decide.2 (by omega)]
  rw[e]
 ·rw[decide_eq_true (p:=(i:Int)<1024) (by omega),cond_true,IF,FA ⟨by omega,h⟩,Int.toNat_natCast]
 ·rw[decide_eq_false (p:=(i:Int)<1024) (by omega),cond_false]
def IK.ok{x}(_:sA [.v .Win] x):Bn x=some (BF x):=by
 show Bn (x:Al)=some (BF (x:Al))
 generalize (show Al from x)=w;simp only[Bn,fA,BF];cases ht:oA w.Top (-1) 281474976710655
 ·rfl
 cases hw:BB w.Bits 32
 ·rfl
 have hl:w.Bits.length=32:=by
  rw[BB,Bool.and_eq_true,beq_iff_eq]at hw;omega
 simp only[Bool.not_true,cond_false];rw[zaB w hl ht];cases jB 1024 _
 ·simp only[cond_false,Bool.not_false,Bool.true_and];cases hT:w.Top== -1
  ·simp only[cond_false,Bool.false_or];have:=GD.1 ht;have h1:w.Top≠ -1:=by simpa using hT
   rw[IF,FA ⟨by omega,hl⟩]
  ·rfl
 ·rfl
def zfQ(l:List Int)(h:l.length=32)(z:Option Bool):yA FU (λ(x6:Int) k7=>cond (decide (x6<32)) (Option.bind (vA l x6) λe8=>cond (!(oA e8 0 4294967295)) (some false) (k7 (mA .i64 x6 1))) z) 0
  =bif l.all λe=>oA e 0 4294967295 then z else some false:=by
 have:=tR l (by rw[h];decide) z;simp only[h]at this;exact this
def KK.ok{x}(_:sA [.v .Win] x):Bk x=some (BF x):=by
 show Bk (x:Al)=some (BF (x:Al))
 generalize (show Al from x)=w;simp only[Bk,fA,BF,BB]
 by_cases hl:w.Bits.length=32
 ·have e1:((w.Bits.length:Int) !=32)=false:=by simp[hl]
  have e2:((w.Bits.length:Int)==32)=true:=by simp[hl]
  rw[e1,e2];cases ht:oA w.Top (-1) 281474976710655
  ·rfl
  simp only[Bool.not_true,cond_false,Bool.and_true,Bool.true_and];rw[zfQ _ hl];cases w.Bits.all _
  ·rfl
  simp only[cond_true,Bool.true_and];rw[zaB w hl ht];have:=GD.1 ht
  by_cases h0:0≤w.Top
  ·have e3:decide (w.Top≥0)=true:=by simpa using h0
   have e4:(w.Top== -1)=false:=by simp;omega
   rw[e3,e4,IF,cond_true,FA ⟨h0,hl⟩];cases QG w w.Top.toNat<;>cases jB 1024 _<;>rfl
  ·have e3:decide (w.Top≥0)=false:=by simpa using h0
   have e4:(w.Top== -1)=true:=by simp;omega
   rw[e3,e4];cases jB 1024 _<;>rfl
 ·have e1:((w.Bits.length:Int) !=32)=true:=by simp;omega
  have e2:((w.Bits.length:Int)==32)=false:=by simp;omega
  rw[e1,e2];simp
def zbo(e:Aq):(fA (R:=Bool) (λ(y1:Bool)=>some y1) λk2=>cond ((oA e.N 0 4294967295)) (cond ((e.Key.length:Int)==32) (cond ((oA e.Seq 0 281474976710656)) (k2 (BF e.Win)) (k2 false)) (k2 false)) (k2 false))=some (KF e):=by
 simp only[fA,HC,Bool.cond_false_right,KF]
 grind
def nP.ok{x}(_:sA [.v .Ep] x):Fv x=some (KF x):=zbo x
def aP.ok{x}(_:sA [.v .Ep] x):Fs x=some (KF x):=zbo x
def dO.ok{x}(hb:sA [.sl .int, .sl .int] x):Fw x.1 x.2=some (XQ x.1 x.2):=
 (DG (α:=Int) x.1 x.2 hb.1.1 _ zcb).trans (congrArg some (zio _ _))
def GI{β:Type}{a b:List UInt8}{f:Bool→Option β}(h1:wt a≤eA)(h2:wt b≤eA):Option.bind (wD a b) f=f (a==b):=FA ⟨h1,h2⟩
def zdJ(a b:Aq)(h:wt a≤eA∧wt b≤eA):Bo a b=some (AN a b):=by
 simp only[IN]at h;simp(disch:=omega) only[Bo,fA,GI,HC,Bool.cond_false_right,AN,XQ]
 grind
def xK.ok{x}(_:sA [.v .Ep, .v .Ep] x){r}:VI x.1 x.2=some r→Bo x.1 x.2=some r:=YA λh=>zdJ x.1 x.2 h
def zc5{α:Type}(l:List α):((l.length:Int)==0)=l.isEmpty:=by cases l<;>simp;omega
def zaL(e:Aq):AN e (⟨0,[],0,(⟨0,[]⟩:Al)⟩:Aq)=FF e:=by
 simp only[AN,FF,zc5];cases e.Key<;>cases e.Win.Bits<;>rfl
def lT:wt (⟨0,[],0,(⟨0,[]⟩:Al)⟩:Aq)≤eA:=Nat.zero_le _
def XJ.ok{x}(_:sA [.v .Ep] x):Bl x=some (FF x):=by
 show Bl (x:Aq)=some (FF (x:Aq))
 generalize (show Aq from x)=e;simp only[Bl,fA,HC,Bool.cond_false_right,FF]
 grind
def zdU(c:Ah)(h:wt c≤eA):Bp c=some (NN c):=by
 rw[XH]at h;simp only[Bp,fA,VI,FA (p:=wt c.Old≤eA∧wt (⟨0,[],0,(⟨0,[]⟩:Al)⟩:Aq)≤eA) ⟨by omega,lT⟩,zaL,NN,HC]
 grind
def GK.ok{x}(_:sA [.v .Chan] x){r}:vQ x=some r→Bp x=some r:=YA λh=>zdU x h
def zdG(c:Ah)(h:wt c≤eA):Bq c=some (dI c):=by
 simp only[Bq,fA,vQ,FA h,dI,HC]
 grind
def kK.ok{x}(_:sA [.v .Chan] x){r}:tF x=some r→Bq x=some r:=YA λh=>zdG x h
def zdL(c:Ah):Bm c=some (dI c):=by
 have e1:oA c.Role 0 1=(c.Role==0||c.Role==1):=by rw[Bool.eq_iff_iff,GD];simp;omega
 have e2:oA c.Until (-1) 1000005=(oA c.Until 0 1000005||c.Until== -1):=by rw[Bool.eq_iff_iff,Bool.or_eq_true,GD,GD];simp;omega
 simp only[Bm,fA,dI,NN,DN,PB,e1]
 by_cases h0:c.Role=0
 ·simp only[h0];cases c.HasOld<;>simp[HC]<;>grind
 ·by_cases h1:c.Role=1
  ·simp only[h1];cases c.HasOld<;>simp[HC,e2]<;>grind
  ·rw[beq_false_of_ne h0,beq_false_of_ne h1];rfl
def eK.ok{x}(_:sA [.v .Chan] x){r}:tF x=some r→Bm x=some r:=YA λ_=>zdL x
end Go.D
