/-
 Sizes of the program's data.
-/
import Derived.Test.YtdmiplkjdpcbeaaGreatL8
namespace Go.D
instance:Wt G.Addr:=⟨fun _=>0⟩
theorem PD (x:G.Addr):wt x=0:=rfl
instance:Wt G.Op:=⟨fun x=>wt x.B⟩
theorem zvs (x:G.Op):wt x=wt x.B:=rfl
instance:Wt G.Event:=⟨fun x=>wt x.B+wt x.Ops⟩
theorem zvr (x:G.Event):wt x=wt x.B+wt x.Ops:=rfl
instance:Wt G.Note:=⟨fun x=>wt x.Cn+wt x.Sn+wt x.Body+wt x.Key+wt x.A⟩
theorem AG (x:G.Note):wt x=wt x.Cn+wt x.Sn+wt x.Body+wt x.Key+wt x.A:=rfl
end Go.D
namespace Go.D
def iA (n lo hi:Int):Bool:=decide (n≥lo)&&decide (n≤hi)
def qV {α:Type} (_:α):Bool:=true
def nJ (e:G.Event):Bool:=iA e.Kind 1 17&&iA e.I 0 10000&&iA e.J 0 10000&&iA e.N 0 10000&&decide ((e.B.length:Int)≤200)&&decide ((e.Ops.length:Int)≤16)
noncomputable def eB (a b:List UInt8):Option Bool:=pt (wt a≤bA∧wt b≤bA) (a==b)
def GI (l:List G.Note) (b:List UInt8):Bool:=YA l.length fun i=>(l[i]?).any fun e=>e.Kind==13&&e.Sn==b
noncomputable def HI (l:List G.Note) (b:List UInt8):Option Bool:=pt (wt l≤bA∧wt b≤bA) (GI l b)
end Go.D
namespace Go.D
noncomputable section
def lU.raw (a0:Int) (a1:Int) (a2:Int):Option Bool:=
 aA (fun (y1:Bool)=>
 some y1) fun k2=>
 cond (decide (a0≥a1))
 (k2 (decide (a0≤a2)))
 (k2 false)
def bT.raw (a0:G.Event):Option Bool:=
 aA (fun (y1:Bool)=>
 some y1) fun k2=>
 cond ((iA a0.Kind 1 17))
 (cond ((iA a0.I 0 10000))
 (cond ((iA a0.J 0 10000))
 (cond ((iA a0.N 0 10000))
 (cond (decide ((a0.B.length:Int)≤200))
 (k2 (decide ((a0.Ops.length:Int)≤16)))
 (k2 false))
 (k2 false))
 (k2 false))
 (k2 false))
 (k2 false)
def XR.raw (a0:Int) (a1:Int) (a2:Int):Option Bool:=
 aA (fun (y1:Bool)=>
 some y1) fun k2=>
 cond (decide (a0≥a1))
 (k2 (decide (a0≤a2)))
 (k2 false)
def oU.raw (a0:List UInt8) (a1:List UInt8):Option Bool:=
 cond (Nat.ble a0.length bA) (cond (Nat.ble a1.length bA) (some (a0==a1)) none) none
def ZL.raw (a0:List G.Note) (a1:List UInt8):Option Bool:=
 aA (fun (y1:Unit)=>
 some false) fun k2=>
 tA FU (fun (x3:Int) k4=>
 cond (decide (x3<(a0.length:Int)))
 (aA (fun (y5:Bool)=>
 cond (y5)
 (some true)
 (k4 (cA .i64 x3 1))) fun k6=>
 Option.bind (pA a0 x3) fun e7=>
 cond (e7.Kind==13)
 (Option.bind (pA a0 x3) fun e8=>
 Option.bind (eB e8.Sn a1) fun r9=>
 k6 r9)
 (k6 false))
 (k2 ())) 0
def TP.raw (a0:List UInt8) (a1:List UInt8):Option Bool:=
 cond (Nat.ble a0.length bA) (cond (Nat.ble a1.length bA) (some (a0==a1)) none) none
def RK.raw (a0:List G.Note) (a1:List UInt8):Option Bool:=
 aA (fun (y1:Unit)=>
 some false) fun k2=>
 tA FU (fun (x3:Int) k4=>
 cond (decide (x3<(a0.length:Int)))
 (Option.bind (pA a0 x3) fun e5=>
 aA (fun (y6:Bool)=>
 cond (y6)
 (some true)
 (k4 (cA .i64 x3 1))) fun k7=>
 cond (e5.Kind==13)
 (Option.bind (eB e5.Sn a1) fun r8=>
 k7 r8)
 (k7 false))
 (k2 ())) 0
end
end Go.D
namespace Go.D
end Go.D
namespace Go.D
theorem ze5 (a b c:Int):aA (R:=Bool) (fun (y:Bool)=>some y) (fun k=>cond (decide (a≥b)) (k (decide (a≤c))) (k false))=some (iA a b c):=by
 simp only [aA,iA]
 cases decide (a≥b) <;> rfl
theorem XR.ok {x:lA [.v .int, .v .int, .v .int]} (_:rA [.v .int, .v .int, .v .int] x):XR.raw x.1 x.2.1 x.2.2=some (iA x.1 x.2.1 x.2.2):=ze5 _ _ _
theorem lU.ok {x:lA [.v .int, .v .int, .v .int]} (_:rA [.v .int, .v .int, .v .int] x):lU.raw x.1 x.2.1 x.2.2=some (iA x.1 x.2.1 x.2.2):=ze5 _ _ _
theorem TB {n i:Nat} (h:i<n):decide ((i:Int)<(n:Int))=true:=by simp;exact h
theorem dC {n:Nat}:decide ((n:Int)<(n:Int))=false:=by simp
theorem zo6 {n i:Nat} (h:i≤n):(decide (0≤(0:Int))&&decide ((0:Int)≤(i:Int))&&decide ((i:Int)≤(n:Int)))=true:=by simp;exact h
theorem zaA {α:Type} (l:List α) (i:Nat):List.take (((i:Int) - 0).toNat) (List.drop 0 l)=l.take i:=by simp
theorem zpP (e:G.Event):aA (R:=Bool) (fun (y:Bool)=>some y) (fun k=>cond (iA e.Kind 1 17) (cond (iA e.I 0 10000) (cond (iA e.J 0 10000) (cond (iA e.N 0 10000) (cond (decide ((e.B.length:Int)≤200))
  (k (decide ((e.Ops.length:Int)≤16))) (k false)) (k false)) (k false)) (k false)) (k false))=some (nJ e):=by
 simp only [aA,nJ]
 cases iA e.Kind 1 17 <;> cases iA e.I 0 10000 <;> cases iA e.J 0 10000 <;> cases iA e.N 0 10000 <;> cases decide ((e.B.length:Int)≤200) <;> rfl
theorem bT.ok {x:lA [.v .Event]} (_:rA [.v .Event] x):bT.raw x=some (nJ x):=zpP x
theorem zcM {n m:Nat} (h:n≤m):Nat.ble n m=true:=Nat.ble_eq_true_of_le h
theorem zfZ (a b:List UInt8) {r:Bool}:eB a b=some r→(cond (Nat.ble a.length bA) (cond (Nat.ble b.length bA) (some (a==b)) none) none)=some r:=
 HA fun h=>by
  rw [zcM (by rw [← LA];exact h.1),zcM (by rw [← LA];exact h.2)];rfl
theorem TP.ok {x:lA [.sl .byte, .sl .byte]} (_:rA [.sl .byte, .sl .byte] x) {r:Bool}:eB x.1 x.2=some r→TP.raw x.1 x.2=some r:=zfZ x.1 x.2
theorem oU.ok {x:lA [.sl .byte, .sl .byte]} (_:rA [.sl .byte, .sl .byte] x) {r:Bool}:eB x.1 x.2=some r→oU.raw x.1 x.2=some r:=zfZ x.1 x.2
theorem zfB {l:List G.Note} (h:wt l≤bA) {i:Nat} (hi:i<l.length):wt l[i]≤bA∧wt l[i].Cn≤bA∧wt l[i].Sn≤bA∧wt l[i].Body≤bA∧wt l[i].Key≤bA:=by
 have:=mD hi
 rw [AG] at this
 have h2:=AG l[i]
 omega
theorem zqq (l:List G.Note) (b:List UInt8) (hl:l.length≤maxLen) (h:wt l≤bA∧wt b≤bA):RK.raw l b=some (GI l b):=by
 simp only [RK.raw,aA,GI]
 rw [UE l.length hl (fun i=>(l[i]?).any fun e=>e.Kind==13&&e.Sn==b) (some true) (some false) (fun i k hi=>?_) (fun k=>by simp only [dC,cond_false])]
 ·cases YA _ _ <;> rfl
 ·simp only [TB hi,cond_true,nB hi,dB,pC hi,eB]
  rw [QA ⟨(zfB h.1 hi).2.2.1,h.2⟩]
  cases l[i].Kind==13 <;> cases l[i].Sn==b <;> rfl
theorem RK.ok {x:lA [.sl .Note, .sl .byte]} (hb:rA [.sl .Note, .sl .byte] x) {r:Bool}:HI x.1 x.2=some r→RK.raw x.1 x.2=some r:=HA fun h=>zqq x.1 x.2 hb.1.1 h
theorem ztI (l:List G.Note) (b:List UInt8) (hl:l.length≤maxLen) (h:wt l≤bA∧wt b≤bA):ZL.raw l b=some (GI l b):=by
 simp only [ZL.raw,aA,GI]
 rw [UE l.length hl (fun i=>(l[i]?).any fun e=>e.Kind==13&&e.Sn==b) (some true) (some false) (fun i k hi=>?_) (fun k=>by simp only [dC,cond_false])]
 ·cases YA _ _ <;> rfl
 ·simp only [TB hi,cond_true,nB hi,dB,pC hi,eB]
  rw [QA ⟨(zfB h.1 hi).2.2.1,h.2⟩]
  cases l[i].Kind==13 <;> cases l[i].Sn==b <;> rfl
theorem ZL.ok {x:lA [.sl .Note, .sl .byte]} (hb:rA [.sl .Note, .sl .byte] x) {r:Bool}:HI x.1 x.2=some r→ZL.raw x.1 x.2=some r:=HA fun h=>ztI x.1 x.2 hb.1.1 h
theorem zgY {l:List G.Note} (h:wt l≤bA) (i:Nat):wt (l.take i)≤bA:=Nat.le_trans (FE l i) h
end Go.D
