/-
 Sizes of the program's data.
-/
import Derived.Test.YtdmiplkjdpcbeaaGreatN1
namespace Go.D
instance:Wt G.Win:=⟨fun x=>wt x.Bits⟩
theorem HP (x:G.Win):wt x=wt x.Bits:=rfl
instance:Wt G.Ep:=⟨fun x=>wt x.Key+wt x.Win⟩
theorem VH (x:G.Ep):wt x=wt x.Key+wt x.Win:=rfl
instance:Wt G.Chan:=⟨fun x=>wt x.Sn+wt x.Cur+wt x.Old+wt x.Next⟩
theorem mH (x:G.Chan):wt x=wt x.Sn+wt x.Cur+wt x.Old+wt x.Next:=rfl
end Go.D
namespace Go.D
noncomputable section
def oB (a:G.Addr):Bool:=iA a.Host 0 4294967295&&iA a.Port 0 65535
def ON (n:Int):Bool:=n==0||n==1
def MB (b:List UInt8):Bool:=(b.length:Int)==12
def vC (l:List Int) (n:Int):Bool:=(l.all fun e=>iA e 0 4294967295)&&(l.length:Int)==n
def HG (w:G.Win) (n:Nat):Bool:=(w.Bits[n % 1024 / 32]?).any fun e=>JB .i64 (wE .i64 e ((n % 32:Nat):Int)) 1==1
def KE (w:G.Win) (n:Int):Option Bool:=pt (0≤n∧w.Bits.length=32) (HG w n.toNat)
def lE (w:G.Win):Bool:=iA w.Top (-1) 281474976710655&&vC w.Bits 32&&!(YA 1024 fun i=>decide (w.Top<(i:Int))&&HG w i)&&(w.Top== -1||HG w w.Top.toNat)
def zS (a b:List Int):Bool:=a==b
def fE (e:G.Ep):Bool:=iA e.N 0 4294967295&&(e.Key.length:Int)==32&&iA e.Seq 0 281474976710656&&lE e.Win
def jO (a b:G.Ep):Bool:=a.N==b.N&&a.Key==b.Key&&a.Seq==b.Seq&&a.Win.Top==b.Win.Top&&a.Win.Bits==b.Win.Bits
def DJ (a b:G.Ep):Option Bool:=pt (wt a≤bA∧wt b≤bA) (jO a b)
def WE (e:G.Ep):Bool:=e.N==0&&(e.Key.length:Int)==0&&e.Seq==0&&e.Win.Top==0&&(e.Win.Bits.length:Int)==0
def iL (c:G.Chan):Bool:=bif c.HasOld then fE c.Old&&c.Old.N==sA .i64 c.Cur.N 1&&(iA c.Until 0 1000005||(c.Until== -1&&c.Role==1)) else WE c.Old&&c.Until==0
def mS (c:G.Chan):Option Bool:=pt (wt c≤bA) (iL c)
def MG (c:G.Chan):Bool:=ON c.Role&&MB c.Sn&&fE c.Cur&&iL c&&((c.Next.length:Int)==0||(c.Role==0&&(c.Next.length:Int)==32&&decide (c.Cur.N<4294967295)))
def yC (c:G.Chan):Option Bool:=pt (wt c≤bA) (MG c)
end
end Go.D
namespace Go.D
open Option renaming bind → ob
noncomputable section
def OU.raw (a0:G.Win) (a1:Int):Option Bool:=
 ob (pA a0.Bits (SC .i64 (GA .i64 a1 1024) 32)) fun e1=>
 cond (decide ((GA .i64 (GA .i64 a1 1024) 32)<0)) none (let x2:Int:=wE .i64 e1 (GA .i64 (GA .i64 a1 1024) 32)
 some ((JB .i64 x2 1)==1))
def cM.raw (a0:G.Win):Option Bool:=
 aA (fun (y1:Bool)=>
 cond (y1)
 (some false)
 (aA (fun (y4:Unit)=>
 aA (fun (y9:Bool)=>
 cond (y9)
 (some false)
 (aA (fun (y12:Unit)=>
 some true) fun k13=>
 tA FU (fun (x14:Int) k15=>
 cond (decide (x14<1024))
 (ob (KE a0 x14) fun r16=>
 cond (r16)
 (some false)
 (k15 (cA .i64 x14 1)))
 (k13 ())) (cA .i64 a0.Top 1))) fun k10=>
 cond (decide (a0.Top≥0))
 (ob (KE a0 a0.Top) fun r11=>
 k10 (!r11))
 (k10 false)) fun k5=>
 tA FU (fun (x6:Int) k7=>
 cond (decide (x6<32))
 (ob (pA a0.Bits x6) fun e8=>
 cond (!(iA e8 0 4294967295))
 (some false)
 (k7 (cA .i64 x6 1)))
 (k5 ())) 0)) fun k2=>
 cond ((a0.Bits.length:Int) !=32)
 (k2 true)
 (let r3:Bool:=iA a0.Top (-1) 281474976710655
 k2 (!r3))
def ZS.raw (a0:G.Ep):Option Bool:=
 aA (fun (y1:Bool)=>
 some y1) fun k2=>
 cond ((iA a0.N 0 4294967295))
 (cond ((a0.Key.length:Int)==32)
 (cond ((iA a0.Seq 0 281474976710656))
 (k2 (lE a0.Win))
 (k2 false))
 (k2 false))
 (k2 false)
def hM.raw (a0:G.Ep):Option Bool:=
 aA (fun (y1:Bool)=>
 some y1) fun k2=>
 cond (a0.N==0)
 (cond ((a0.Key.length:Int)==0)
 (cond (a0.Seq==0)
 (cond (a0.Win.Top==0)
 (k2 ((a0.Win.Bits.length:Int)==0))
 (k2 false))
 (k2 false))
 (k2 false))
 (k2 false)
def tL.raw (a0:G.Chan):Option Bool:=
 aA (fun (y1:Bool)=>
 cond (y1)
 (some false)
 (aA (fun (y3:Unit)=>
 cond ((a0.Next.length:Int)==0)
 (some true)
 (aA (fun (y11:Bool)=>
 some y11) fun k12=>
 cond (a0.Role==0)
 (cond ((a0.Next.length:Int)==32)
 (k12 (decide (a0.Cur.N<4294967295)))
 (k12 false))
 (k12 false))) fun k4=>
 cond (a0.HasOld)
 (aA (fun (y5:Int)=>
 aA (fun (y7:Bool)=>
 cond (y7)
 (some false)
 (k4 ())) fun k8=>
 cond (!(fE a0.Old))
 (k8 true)
 (cond (a0.Old.N !=(sA .i64 a0.Cur.N 1))
 (k8 true)
 (k8 (!(iA a0.Until y5 1000005))))) fun k6=>
 cond (a0.Role==0)
 (k6 0)
 (k6 (-1)))
 (aA (fun (y9:Bool)=>
 cond (y9)
 (some false)
 (k4 ())) fun k10=>
 cond (!(WE a0.Old))
 (k10 true)
 (k10 (a0.Until !=0))))) fun k2=>
 cond (!(iA a0.Role 0 1))
 (k2 true)
 (cond ((a0.Sn.length:Int) !=12)
 (k2 true)
 (k2 (!(fE a0.Cur))))
def AN.raw (a0:Int):Option Bool:=
 aA (fun (y1:Bool)=>
 some y1) fun k2=>
 cond (a0==0)
 (k2 true)
 (k2 (a0==1))
def UR.raw (a0:List UInt8):Option Bool:=
 some ((a0.length:Int)==12)
def sN.raw (a0:List Int) (a1:Int):Option Bool:=
 aA (fun (y1:Unit)=>
 some ((a0.length:Int)==a1)) fun k2=>
 tA FU (fun (x3:Int) k4=>
 cond (decide (x3<(a0.length:Int)))
 (ob (pA a0 x3) fun e5=>
 cond (!(iA e5 0 4294967295))
 (some false)
 (k4 (cA .i64 x3 1)))
 (k2 ())) 0
def TR.raw (a0:G.Win) (a1:Int):Option Bool:=
 ob (pA a0.Bits (SC .i64 (GA .i64 a1 1024) 32)) fun e1=>
 cond (decide ((GA .i64 a1 32)<0)) none (let x2:Int:=JB .i64 (wE .i64 e1 (GA .i64 a1 32)) 1
 some (x2==1))
def UK.raw (a0:G.Win):Option Bool:=
 aA (fun (y1:Bool)=>
 cond (y1)
 (some false)
 (aA (fun (y4:Unit)=>
 aA (fun (y9:Bool)=>
 some y9) fun k10=>
 cond (a0.Top==(-1))
 (k10 true)
 (ob (KE a0 a0.Top) fun r11=>
 k10 r11)) fun k5=>
 tA FU (fun (x6:Int) k7=>
 cond (decide (x6<1024))
 (ob (KE a0 x6) fun r8=>
 cond (r8)
 (some false)
 (k7 (cA .i64 x6 1)))
 (k5 ())) (cA .i64 a0.Top 1))) fun k2=>
 let r3:Bool:=iA a0.Top (-1) 281474976710655
 cond (!r3)
 (k2 true)
 (k2 (!(vC a0.Bits 32)))
def vR.raw (a0:G.Ep):Option Bool:=
 aA (fun (y1:Bool)=>
 some y1) fun k2=>
 cond ((iA a0.N 0 4294967295))
 (cond ((a0.Key.length:Int)==32)
 (cond ((iA a0.Seq 0 281474976710656))
 (k2 (lE a0.Win))
 (k2 false))
 (k2 false))
 (k2 false)
def WR.raw (a0:List Int) (a1:List Int):Option Bool:=
 cond ((a0.length:Int) !=(a1.length:Int))
 (some false)
 (aA (fun (y1:Unit)=>
 some true) fun k2=>
 tA FU (fun (x3:Int) k4=>
 cond (decide (x3<(a0.length:Int)))
 (ob (pA a0 x3) fun e5=>
 ob (pA a1 x3) fun e6=>
 cond (e5 !=e6)
 (some false)
 (k4 (cA .i64 x3 1)))
 (k2 ())) 0)
def bL.raw (a0:G.Ep) (a1:G.Ep):Option Bool:=
 aA (fun (y1:Bool)=>
 some y1) fun k2=>
 cond (a0.N==a1.N)
 (ob (eB a0.Key a1.Key) fun r3=>
 cond (r3)
 (cond (a0.Seq==a1.Seq)
 (cond (a0.Win.Top==a1.Win.Top)
 (k2 (zS a0.Win.Bits a1.Win.Bits))
 (k2 false))
 (k2 false))
 (k2 false))
 (k2 false)
def aL.raw (a0:G.Chan):Option Bool:=
 cond (!a0.HasOld)
 (aA (fun (y1:Bool)=>
 some y1) fun k2=>
 ob (DJ a0.Old (⟨0,[],0,(⟨0,[]⟩:G.Win)⟩:G.Ep)) fun r3=>
 cond (r3)
 (k2 (a0.Until==0))
 (k2 false))
 (aA (fun (y4:Bool)=>
 cond (y4)
 (some false)
 (aA (fun (y6:Bool)=>
 some y6) fun k7=>
 cond ((iA a0.Until 0 1000005))
 (k7 true)
 (cond (a0.Until==(-1))
 (k7 (a0.Role==1))
 (k7 false)))) fun k5=>
 cond (!(fE a0.Old))
 (k5 true)
 (k5 (a0.Old.N !=(sA .i64 a0.Cur.N 1))))
def GK.raw (a0:G.Chan):Option Bool:=
 aA (fun (y1:Bool)=>
 cond (y1)
 (some false)
 (aA (fun (y4:Bool)=>
 some y4) fun k5=>
 cond ((a0.Next.length:Int)==0)
 (k5 true)
 (cond (a0.Role==0)
 (cond ((a0.Next.length:Int)==32)
 (k5 (decide (a0.Cur.N<4294967295)))
 (k5 false))
 (k5 false)))) fun k2=>
 cond (!(ON a0.Role))
 (k2 true)
 (cond (!(MB a0.Sn))
 (k2 true)
 (cond (!(fE a0.Cur))
 (k2 true)
 (ob (mS a0) fun r3=>
 k2 (!r3))))
end
end Go.D
namespace Go.D
end Go.D
namespace Go.D
theorem zcp (a:G.Addr):aA (R:=Bool) (fun (y:Bool)=>some y) (fun k=>cond (iA a.Host 0 4294967295) (k (iA a.Port 0 65535)) (k false))=some (oB a):=by
 simp only [aA,oB]
 cases iA a.Host 0 4294967295 <;> rfl
theorem OC {n lo hi:Int}:iA n lo hi=true↔lo≤n∧n≤hi:=by simp [iA]
theorem zqB {n lo hi:Int}:iA n lo hi=false↔¬ (lo≤n∧n≤hi):=by
 rw [← OC];cases iA n lo hi <;> simp
theorem AN.ok {x:lA [.v .int]} (_:rA [.v .int] x):AN.raw x=some (ON x):=by
 simp only [AN.raw,aA,jB,Bool.cond_true_left];rfl
theorem UR.ok {x:lA [.sl .byte]} (_:rA [.sl .byte] x):UR.raw x=some (MB x):=rfl
theorem sV (l:List Int) (hl:l.length≤maxLen) (z:Option Bool):tA FU (fun (x3:Int) k4=>cond (decide (x3<(l.length:Int))) (Option.bind (pA l x3) fun e5=>cond (!(iA e5 0 4294967295)) (some false) (k4 (cA .i64 x3 1))) z) 0
  =bif l.all fun e=>iA e 0 4294967295 then z else some false:=by
 rw [gL l hl (fun e=>!(iA e 0 4294967295)) (some false) z (fun i k hi=>?_) (fun k=>by simp only [dC,cond_false])]
 ·rw [List.all_eq_not_any_not];cases l.any _ <;> rfl
 ·simp only [TB hi,cond_true,nB hi,dB]
theorem sN.ok {x:lA [.sl .int, .v .int]} (hb:rA [.sl .int, .v .int] x):sN.raw x.1 x.2=some (vC x.1 x.2):=by
 simp only [sN.raw,aA]
 rw [sV (show List Int from x.1) hb.1.1,vC]
 cases List.all _ _ <;> rfl
theorem zcK (w:G.Win) (n:Nat) (h:w.Bits.length=32) (hn:n≤maxLen) {b:Int} (hb:b=((n % 32:Nat):Int)):
  (Option.bind (pA w.Bits (SC .i64 (GA .i64 (n:Int) 1024) 32)) fun e1=>cond (decide (b<0)) none (some (JB .i64 (wE .i64 e1 b) 1==1)))=some (HG w n):=by
 have e1:GA .i64 (n:Int) 1024=((n % 1024:Nat):Int):=ZR n 1024
 have e2:SC .i64 ((n % 1024:Nat):Int) 32=((n % 1024 / 32:Nat):Int):=zqI _ 32 (by omega) (by omega)
 have hi:n % 1024 / 32<w.Bits.length:=by omega
 have hz:decide (b<0)=false:=by rw [decide_eq_false_iff_not];omega
 rw [e1,e2,nB hi,dB,hz,cond_false,HG,pC hi,hb]
theorem ze7 (n:Nat):GA .i64 (n:Int) 32=((n % 32:Nat):Int):=ZR n 32
theorem hG {n:Int} (h:0≤n):∃ m:Nat,n=(m:Int):=Int.eq_ofNat_of_zero_le h
theorem zcG {n:Int} (hb:BF .int n):n≤9223372036854775807:=zhy hb
theorem TR.ok {x:lA [.v .Win, .v .int]} (hb:rA [.v .Win, .v .int] x) {r:Bool}:KE x.1 x.2=some r→TR.raw x.1 x.2=some r:=HA fun h=>by
 obtain ⟨w,n⟩:=x
 obtain ⟨m,hm⟩:=hG h.1
 have hm:n=(m:Int):=hm
 have h9:=zcG hb.2
 have h9:(n:Int)≤9223372036854775807:=h9
 subst hm
 exact zcK (w:G.Win) m h.2 (by unfold maxLen;omega) (ze7 m)
theorem OU.ok {x:lA [.v .Win, .v .int]} (hb:rA [.v .Win, .v .int] x) {r:Bool}:KE x.1 x.2=some r→OU.raw x.1 x.2=some r:=HA fun h=>by
 obtain ⟨w,n⟩:=x
 obtain ⟨m,hm⟩:=hG h.1
 have hm:n=(m:Int):=hm
 have h9:=zcG hb.2
 have h9:(n:Int)≤9223372036854775807:=h9
 subst hm
 have e1:GA .i64 (m:Int) 1024=((m % 1024:Nat):Int):=ZR m 1024
 exact zcK (w:G.Win) m h.2 (by unfold maxLen;omega) (b:=GA .i64 (GA .i64 (m:Int) 1024) 32) (by rw [e1,ze7];congr 1;omega)
theorem zcL (w:G.Win) (h:w.Bits.length=32) (ht:iA w.Top (-1) 281474976710655=true) (z:Option Bool):
  tA FU (fun (x6:Int) k7=>cond (decide (x6<1024)) (Option.bind (KE w x6) fun r=>cond r (some false) (k7 (cA .i64 x6 1))) z) (cA .i64 w.Top 1)
  =bif YA 1024 (fun i=>decide (w.Top<(i:Int))&&HG w i) then some false else z:=by
 have ht:=OC.1 ht
 obtain ⟨a,ha⟩:=hG (n:=w.Top+1) (by omega)
 rw [cA,fC (by omega) (by omega),ha]
 rw [zqZ a 1024 (by decide) (HG w) (some false) z (fun i k hi=>?_) (fun i k hi=>?_)]
 ·have e:YA 1024 (fun i=>decide (a≤i)&&HG w i)=YA 1024 (fun i=>decide (w.Top<(i:Int))&&HG w i):=zcx fun i _=>by
   rw [show decide (w.Top<(i:Int))=decide (a≤i) from decide_eq_decide.2 (by omega)]
  rw [e]
 ·rw [decide_eq_true (p:=(i:Int)<1024) (by omega),cond_true,KE,QA ⟨by omega,h⟩,Int.toNat_natCast]
 ·rw [decide_eq_false (p:=(i:Int)<1024) (by omega),cond_false]
theorem UK.ok {x:lA [.v .Win]} (_:rA [.v .Win] x):UK.raw x=some (lE x):=by
 show UK.raw (x:G.Win)=some (lE (x:G.Win))
 generalize (show G.Win from x)=w
 simp only [UK.raw,aA,lE]
 cases ht:iA w.Top (-1) 281474976710655
 ·rfl
 cases hw:vC w.Bits 32
 ·rfl
 have hl:w.Bits.length=32:=by
  rw [vC,Bool.and_eq_true,beq_iff_eq] at hw;omega
 simp only [Bool.not_true,cond_false]
 rw [zcL w hl ht]
 cases YA 1024 _
 ·simp only [cond_false,Bool.not_false,Bool.true_and]
  cases hT:w.Top== -1
  ·simp only [cond_false,Bool.false_or]
   have:=OC.1 ht
   have h1:w.Top≠ -1:=by simpa using hT
   rw [KE,QA ⟨by omega,hl⟩]
  ·rfl
 ·rfl
theorem zhj (l:List Int) (h:l.length=32) (z:Option Bool):tA FU (fun (x6:Int) k7=>cond (decide (x6<32)) (Option.bind (pA l x6) fun e8=>cond (!(iA e8 0 4294967295)) (some false) (k7 (cA .i64 x6 1))) z) 0
  =bif l.all fun e=>iA e 0 4294967295 then z else some false:=by
 have:=sV l (by rw [h];decide) z
 simp only [h] at this
 exact this
theorem cM.ok {x:lA [.v .Win]} (_:rA [.v .Win] x):cM.raw x=some (lE x):=by
 show cM.raw (x:G.Win)=some (lE (x:G.Win))
 generalize (show G.Win from x)=w
 simp only [cM.raw,aA,lE,vC]
 by_cases hl:w.Bits.length=32
 ·have e1:((w.Bits.length:Int) !=32)=false:=by simp [hl]
  have e2:((w.Bits.length:Int)==32)=true:=by simp [hl]
  rw [e1,e2]
  cases ht:iA w.Top (-1) 281474976710655
  ·rfl
  simp only [Bool.not_true,cond_false,Bool.and_true,Bool.true_and]
  rw [zhj _ hl]
  cases w.Bits.all _
  ·rfl
  simp only [cond_true,Bool.true_and]
  rw [zcL w hl ht]
  have:=OC.1 ht
  by_cases h0:0≤w.Top
  ·have e3:decide (w.Top≥0)=true:=by simpa using h0
   have e4:(w.Top== -1)=false:=by simp;omega
   rw [e3,e4,KE,cond_true,QA ⟨h0,hl⟩]
   cases HG w w.Top.toNat <;> cases YA 1024 _ <;> rfl
  ·have e3:decide (w.Top≥0)=false:=by simpa using h0
   have e4:(w.Top== -1)=true:=by simp;omega
   rw [e3,e4]
   cases YA 1024 _ <;> rfl
 ·have e1:((w.Bits.length:Int) !=32)=true:=by simp;omega
  have e2:((w.Bits.length:Int)==32)=false:=by simp;omega
  rw [e1,e2]
  simp
theorem zeC (e:G.Ep):(aA (R:=Bool) (fun (y1:Bool)=>some y1) fun k2=>cond ((iA e.N 0 4294967295)) (cond ((e.Key.length:Int)==32) (cond ((iA e.Seq 0 281474976710656)) (k2 (lE e.Win)) (k2 false)) (k2 false)) (k2 false))=some (fE e):=by
 simp only [aA,jB,Bool.cond_false_right,fE]
 grind
theorem vR.ok {x:lA [.v .Ep]} (_:rA [.v .Ep] x):vR.raw x=some (fE x):=zeC x
theorem ZS.ok {x:lA [.v .Ep]} (_:rA [.v .Ep] x):ZS.raw x=some (fE x):=zeC x
theorem WR.ok {x:lA [.sl .int, .sl .int]} (hb:rA [.sl .int, .sl .int] x):WR.raw x.1 x.2=some (zS x.1 x.2):=
 (zoT (α:=Int) x.1 x.2 hb.1.1 _ zrg).trans (congrArg some (zpJ _ _))
theorem kB {β:Type} {a b:List UInt8} {f:Bool→Option β} (h1:wt a≤bA) (h2:wt b≤bA):Option.bind (eB a b) f=f (a==b):=QA ⟨h1,h2⟩
theorem zqx (a b:G.Ep) (h:wt a≤bA∧wt b≤bA):bL.raw a b=some (jO a b):=by
 simp only [VH] at h
 simp (disch:=omega) only [bL.raw,aA,kB,jB,Bool.cond_false_right,jO,zS]
 grind
theorem bL.ok {x:lA [.v .Ep, .v .Ep]} (_:rA [.v .Ep, .v .Ep] x) {r:Bool}:DJ x.1 x.2=some r→bL.raw x.1 x.2=some r:=HA fun h=>zqx x.1 x.2 h
theorem zfh {α:Type} (l:List α):((l.length:Int)==0)=l.isEmpty:=by cases l <;> simp;omega
theorem zf0 (e:G.Ep):jO e (⟨0,[],0,(⟨0,[]⟩:G.Win)⟩:G.Ep)=WE e:=by
 simp only [jO,WE,zfh]
 cases e.Key <;> cases e.Win.Bits <;> rfl
theorem zck:wt (⟨0,[],0,(⟨0,[]⟩:G.Win)⟩:G.Ep)≤bA:=Nat.zero_le _
theorem hM.ok {x:lA [.v .Ep]} (_:rA [.v .Ep] x):hM.raw x=some (WE x):=by
 show hM.raw (x:G.Ep)=some (WE (x:G.Ep))
 generalize (show G.Ep from x)=e
 simp only [hM.raw,aA,jB,Bool.cond_false_right,WE]
 grind
theorem zqw (c:G.Chan) (h:wt c≤bA):aL.raw c=some (iL c):=by
 rw [mH] at h
 simp only [aL.raw,aA,DJ,QA (p:=wt c.Old≤bA∧wt (⟨0,[],0,(⟨0,[]⟩:G.Win)⟩:G.Ep)≤bA) ⟨by omega,zck⟩,zf0,iL,jB]
 grind
theorem aL.ok {x:lA [.v .Chan]} (_:rA [.v .Chan] x) {r:Bool}:mS x=some r→aL.raw x=some r:=HA fun h=>zqw x h
theorem zqk (c:G.Chan) (h:wt c≤bA):GK.raw c=some (MG c):=by
 simp only [GK.raw,aA,mS,QA h,MG,jB]
 grind
theorem GK.ok {x:lA [.v .Chan]} (_:rA [.v .Chan] x) {r:Bool}:yC x=some r→GK.raw x=some r:=HA fun h=>zqk x h
theorem zqz (n a b:Int):iA n a b=(decide (a≤n)&&decide (n≤b)):=rfl
theorem zs2 (c:G.Chan):tL.raw c=some (MG c):=by
 have e1:iA c.Role 0 1=(c.Role==0||c.Role==1):=by rw [Bool.eq_iff_iff,OC];simp;omega
 have e2:iA c.Until (-1) 1000005=(iA c.Until 0 1000005||c.Until== -1):=by rw [Bool.eq_iff_iff,Bool.or_eq_true,OC,OC];simp;omega
 simp only [tL.raw,aA,MG,iL,ON,MB,e1]
 by_cases h0:c.Role=0
 ·simp only [h0]
  cases c.HasOld <;> simp [jB] <;> grind
 ·by_cases h1:c.Role=1
  ·simp only [h1]
   cases c.HasOld <;> simp [jB,e2] <;> grind
  ·rw [beq_false_of_ne h0,beq_false_of_ne h1];rfl
theorem tL.ok {x:lA [.v .Chan]} (_:rA [.v .Chan] x) {r:Bool}:yC x=some r→tL.raw x=some r:=HA fun _=>zs2 x
end Go.D
