/-
 Sizes of the program's data.
-/
import Derived.Test.YtdmiplkjdpcbeaaGreatN9
namespace Go.D
end Go.D
namespace Go.D
noncomputable def VQ (e:G.Ep) (_:Bool):Option G.Ep:=pt (wt e≤bA) e
end Go.D
namespace Go.D
open Option renaming bind → ob
noncomputable section
def IU.raw (a0:G.Cur):Option (G.World × G.Cur):=
 ob (mB.raw a0 8) fun r1=>
 ob (mB.raw r1.2 6) fun r2=>
 ob (mB.raw r2.2 9) fun r3=>
 ob (BA.raw r3.2 3) fun r4=>
 ob (dV r1.1 r2.1 r3.1 (cA .i64 1 r4.1)) fun r5=>
 some (r5,r4.2)
def zM.raw (a0:G.Win):Option G.Win:=
 cond (decide (([]:List Int).length+a0.Bits.length≤bA)) (some (⟨a0.Top,[]++a0.Bits⟩:G.Win)) none
def BM.raw (a0:G.Ep):Option G.Ep:=
 cond (decide (([]:List UInt8).length+a0.Key.length≤bA)) (ob (KA a0.Win) fun r1=>
 some (⟨a0.N,[]++a0.Key,a0.Seq,r1⟩:G.Ep)) none
def gM.raw (a0:G.Ep) (a1:Bool):Option G.Ep:=
 cond (!a1)
 (cond (decide (([]:List UInt8).length+a0.Key.length≤bA)) (cond (decide (([]:List Int).length+a0.Win.Bits.length≤bA)) (some (⟨a0.N,[]++a0.Key,a0.Seq,(⟨a0.Win.Top,[]++a0.Win.Bits⟩:G.Win)⟩:G.Ep)) none) none)
 (ob (KA a0) fun r1=>
 some r1)
def fM.raw (a0:G.Chan):Option G.Chan:=
 cond (decide (([]:List UInt8).length+a0.Sn.length≤bA)) (ob (KA a0.Cur) fun r1=>
 ob (VQ a0.Old a0.HasOld) fun r2=>
 cond (decide (([]:List UInt8).length+a0.Next.length≤bA)) (some (⟨a0.Role,[]++a0.Sn,r1,r2,a0.HasOld,a0.Until,[]++a0.Next⟩:G.Chan)) none) none
def iM.raw (a0:G.Paths):Option G.Paths:=
 aA (fun (y1:G.Paths)=>
 some y1) fun k2=>
 tA FU (fun (x3:Int × G.Paths) k4=>
 cond (decide (x3.1<(a0.Cands.length:Int)))
 (ob (pA a0.Cands x3.1) fun e5=>
 ob (gI e5) fun r6=>
 cond (decide (x3.2.Cands.length+[r6].length≤bA)) (k4 ((cA .i64 x3.1 1),(⟨x3.2.At,x3.2.Cands++[r6]⟩:G.Paths))) none)
 (k2 x3.2)) (0,(⟨a0.At,[]⟩:G.Paths))
def oM.raw (a0:G.Sess):Option G.Sess:=
 cond (decide (([]:List UInt8).length+a0.Cn.length≤bA)) (cond (decide (([]:List UInt8).length+a0.Sn.length≤bA)) (ob (KA a0.C) fun r1=>
 ob (KA a0.P) fun r2=>
 some (⟨a0.Id,[]++a0.Cn,[]++a0.Sn,r1,r2,a0.Tick,a0.Last,a0.Dead⟩:G.Sess)) none) none
def pM.raw (a0:G.Tab):Option G.Tab:=
 aA (fun (y1:G.Tab)=>
 some y1) fun k2=>
 tA FU (fun (x3:Int × G.Tab) k4=>
 cond (decide (x3.1<(a0.L.length:Int)))
 (ob (pA a0.L x3.1) fun e5=>
 ob (KA e5) fun r6=>
 cond (decide (x3.2.L.length+[r6].length≤bA)) (k4 ((cA .i64 x3.1 1),(⟨x3.2.Cap,x3.2.L++[r6]⟩:G.Tab))) none)
 (k2 x3.2)) (0,(⟨a0.Cap,[]⟩:G.Tab))
def qM.raw (a0:G.Server):Option G.Server:=
 cond (decide (([]:List UInt8).length+a0.J.Secret.length≤bA)) (ob (wH a0.D) fun r1=>
 ob (KA a0.T) fun r2=>
 cond (decide (([]:List G.Credit).length+a0.Cr.length≤bA)) (aA (fun (y3:G.Server)=>
 some y3) fun k4=>
 tA FU (fun (x5:Int × G.Server) k6=>
 cond (decide (x5.1<(a0.Psks.length:Int)))
 (ob (pA a0.Psks x5.1) fun e7=>
 cond (decide (([]:List UInt8).length+e7.length≤bA)) (cond (decide (x5.2.Psks.length+[[]++e7].length≤bA)) (k6 ((cA .i64 x5.1 1),(⟨x5.2.Psks++[[]++e7],x5.2.J,x5.2.D,x5.2.T,x5.2.Cr⟩:G.Server))) none) none)
 (k4 x5.2)) (0,(⟨[],(⟨[]++a0.J.Secret⟩:G.Jar),r1,r2,[]++a0.Cr⟩:G.Server))) none) none
def rM.raw (a0:List G.Wire):Option (List G.Wire):=
 aA (fun (y1:(List G.Wire))=>
 some y1) fun k2=>
 tA FU (fun (x3:(List G.Wire) × Int) k4=>
 cond (decide (x3.2<(a0.length:Int)))
 (ob (pA a0 x3.2) fun e5=>
 ob (pA a0 x3.2) fun e6=>
 ob (pA a0 x3.2) fun e7=>
 cond (decide (([]:List UInt8).length+e7.B.length≤bA)) (cond (decide (x3.1.length+[(⟨e5.From,e6.To,[]++e7.B⟩:G.Wire)].length≤bA)) (k4 ((x3.1++[(⟨e5.From,e6.To,[]++e7.B⟩:G.Wire)]),(cA .i64 x3.2 1))) none) none)
 (k2 x3.1)) ([],0)
def kM.raw (a0:G.Note):Option G.Note:=
 cond (decide (([]:List UInt8).length+a0.Cn.length≤bA)) (cond (decide (([]:List UInt8).length+a0.Sn.length≤bA)) (cond (decide (([]:List UInt8).length+a0.Body.length≤bA)) (cond (decide (([]:List UInt8).length+a0.Key.length≤bA)) (some (⟨a0.Kind,a0.Id,a0.Role,[]++a0.Cn,[]++a0.Sn,a0.Epoch,a0.Seq,[]++a0.Body,[]++a0.Key,a0.A,a0.Now⟩:G.Note)) none) none) none) none
def jM.raw (a0:List G.Note):Option (List G.Note):=
 aA (fun (y1:(List G.Note))=>
 some y1) fun k2=>
 tA FU (fun (x3:(List G.Note) × Int) k4=>
 cond (decide (x3.2<(a0.length:Int)))
 (ob (pA a0 x3.2) fun e5=>
 ob (KA e5) fun r6=>
 cond (decide (x3.1.length+[r6].length≤bA)) (k4 ((x3.1++[r6]),(cA .i64 x3.2 1))) none)
 (k2 x3.1)) ([],0)
def yM.raw (a0:G.Frame):Option G.Frame:=
 cond (decide (([]:List UInt8).length+a0.Cn.length≤bA)) (cond (decide (([]:List UInt8).length+a0.Sn.length≤bA)) (cond (decide (([]:List UInt8).length+a0.Cookie.length≤bA)) (cond (decide (([]:List UInt8).length+a0.Proof.length≤bA)) (cond (decide (([]:List UInt8).length+a0.Body.length≤bA)) (cond (decide (([]:List UInt8).length+a0.Tag.length≤bA)) (some (⟨a0.Kind,a0.Id,[]++a0.Cn,[]++a0.Sn,a0.Tick,[]++a0.Cookie,[]++a0.Proof,a0.Epoch,a0.Seq,[]++a0.Body,[]++a0.Tag⟩:G.Frame)) none) none) none) none) none) none
def lM.raw (a0:G.Client):Option G.Client:=
 cond (decide (([]:List UInt8).length+a0.Psk.length≤bA)) (cond (decide (([]:List UInt8).length+a0.Cn.length≤bA)) (ob (KA a0.Fin) fun r1=>
 ob (KA a0.C) fun r2=>
 some (⟨a0.Id,[]++a0.Psk,a0.At,a0.St,[]++a0.Cn,r1,r2,a0.T,a0.R,a0.Last⟩:G.Client)) none) none
def tM.raw (a0:G.World):Option G.World:=
 ob (KA a0.S) fun r1=>
 ob (wH a0.D) fun r2=>
 ob (KA a0.Seen) fun r3=>
 ob (KA a0.Notes) fun r4=>
 aA (fun (y5:G.World)=>
 aA (fun (y11:G.World)=>
 some y11) fun k12=>
 tA FU (fun (x13:Int × G.World) k14=>
 cond (decide (x13.1<(a0.Known.length:Int)))
 (ob (pA a0.Known x13.1) fun e15=>
 cond (decide (([]:List UInt8).length+e15.length≤bA)) (cond (decide (x13.2.Known.length+[[]++e15].length≤bA)) (k14 ((cA .i64 x13.1 1),(⟨x13.2.Now,x13.2.Clients,x13.2.S,x13.2.D,x13.2.Seen,x13.2.Known++[[]++e15],x13.2.Notes⟩:G.World))) none) none)
 (k12 x13.2)) (0,y5)) fun k6=>
 tA FU (fun (x7:Int × G.World) k8=>
 cond (decide (x7.1<(a0.Clients.length:Int)))
 (ob (pA a0.Clients x7.1) fun e9=>
 ob (KA e9) fun r10=>
 cond (decide (x7.2.Clients.length+[r10].length≤bA)) (k8 ((cA .i64 x7.1 1),(⟨x7.2.Now,x7.2.Clients++[r10],x7.2.S,x7.2.D,x7.2.Seen,x7.2.Known,x7.2.Notes⟩:G.World))) none)
 (k6 x7.2)) (0,(⟨a0.Now,[],r1,r2,r3,[],r4⟩:G.World))
def mP.raw (a0:G.Cur):Option (G.Op × G.Cur):=
 ob (OA.raw a0 [1,1,2,2,3,4,4,5,5,6,7,8,9,10]) fun r1=>
 aA (fun (y2:G.Cur × G.Op)=>
 ob (BA.raw y2.1 5) fun r6=>
 ob (OA.raw r6.2 [0,1,4,12,16]) fun r7=>
 some ((⟨y2.2.Kind,r6.1,r7.1,y2.2.B⟩:G.Op),r7.2)) fun k3=>
 cond (r1.1==1)
 (ob (OA.raw r1.2 [0,1,4,12,32]) fun r4=>
 ob (mB.raw r4.2 r4.1) fun r5=>
 k3 (r5.2,(⟨r1.1,0,0,r5.1⟩:G.Op)))
 (k3 (r1.2,(⟨r1.1,0,0,[]⟩:G.Op)))
def sM.raw (a0:Int):Option Int:=
 cond (decide (0≤a0)&&decide (a0<([0,0,0,0,1,2,2,2,2,1,3].length:Int))) (ob ([0,0,0,0,1,2,2,2,2,1,3][a0.toNat]?) fun e1=>
 some e1) none
def AU.raw (a0:G.Cur) (a1:Int):Option ((List G.Op) × G.Cur):=
 ob (BA.raw a0 a1) fun r1=>
 aA (fun (y2:(List G.Op) × Int × G.Cur)=>
 aA (fun (y16:(List G.Op))=>
 some (y16,y2.2.2)) fun k17=>
 tA FU (fun (x18:(List G.Op) × Int) k19=>
 cond (decide (x18.2>1))
 (cond (decide (x18.1.length+[(⟨5,0,0,[]⟩:G.Op)].length≤bA)) (k19 ((x18.1++[(⟨5,0,0,[]⟩:G.Op)]),(sA .i64 x18.2 1))) none)
 (k17 x18.1)) (y2.1,y2.2.1)) fun k3=>
 tA FU (fun (x4:(List G.Op) × Int × Int × G.Cur) k5=>
 cond (decide (x4.2.2.1>0))
 (ob (mP.raw x4.2.2.2) fun r6=>
 aA (fun (y7:G.Cur × G.Op)=>
 ob (sM.raw y7.2.Kind) fun r15=>
 cond (decide (x4.1.length+[y7.2].length≤bA)) (k5 ((x4.1++[y7.2]),(cA .i64 (sA .i64 x4.2.1 r15) 1),(sA .i64 x4.2.2.1 1),y7.1)) none) fun k8=>
 tA FU (fun (x9:Int × G.Cur × G.Op) k10=>
 aA (fun (y11:Bool)=>
 cond (y11)
 (ob (mP.raw x9.2.1) fun r14=>
 k10 ((cA .i64 x9.1 1),r14.2,r14.1))
 (k8 (x9.2.1,x9.2.2))) fun k12=>
 cond (decide (x9.1<6))
 (ob (sM.raw x9.2.2.Kind) fun r13=>
 k12 (decide (r13>x4.2.1)))
 (k12 false)) (0,r6.2,r6.1))
 (k3 (x4.1,x4.2.1,x4.2.2.2))) ([],0,(cA .i64 1 r1.1),r1.2)
def SU.raw (a0:G.Cur):Option (Int × (List UInt8) × G.Cur):=
 ob (BA.raw a0 6) fun r1=>
 cond (r1.1==0)
 (ob (BA.raw r1.2 2) fun r2=>
 ob (mB.raw r2.2 12) fun r3=>
 some (cA .i64 5 r2.1,r3.1,r3.2))
 (cond (r1.1==1)
 (ob (BA.raw r1.2 2) fun r4=>
 ob (mB.raw r4.2 4) fun r5=>
 some (cA .i64 7 r4.1,r5.1,r5.2))
 (ob (OA.raw r1.2 [0,1,3,12,33,40]) fun r6=>
 ob (mB.raw r6.2 r6.1) fun r7=>
 some (4,r7.1,r7.2)))
def JJ.raw (a0:Int) (a1:List UInt8) (a2:Int) (a3:Int):Option (List UInt8):=
 aA (fun (y1:Bool)=>
 cond (y1)
 (some [])
 (cond (decide ([UInt8.ofNat (IntKind.wrap .u8 a0:Int).toNat].length+a1.length≤bA)) (ob (LC ([UInt8.ofNat (IntKind.wrap .u8 a0:Int).toNat]++a1) a2 4) fun r3=>
 ob (LC r3 a3 6) fun r4=>
 some r4) none)) fun k2=>
 cond (!(iA a0 0 1))
 (k2 true)
 (cond ((a1.length:Int) !=12)
 (k2 true)
 (cond (!(iA a2 0 4294967295))
 (k2 true)
 (k2 (!(iA a3 0 281474976710655)))))
def NS.raw (a0:List UInt8) (a1:List UInt8) (a2:Int):Option (List UInt8):=
 aA (fun (y1:Bool)=>
 cond (y1)
 (some [])
 (cond (decide ([UInt8.ofNat (115:Int).toNat].length+a1.length≤bA)) (ob (LC ([UInt8.ofNat (115:Int).toNat]++a1) a2 4) fun r3=>
 let r4:(List UInt8):=FD a0 r3
 some r4) none)) fun k2=>
 cond (!(iA a2 0 6))
 (k2 true)
 (k2 (decide ((a1.length:Int)>100)))
def MT.raw (a0:List UInt8) (a1:List UInt8) (a2:Int):Option (List UInt8):=
 aA (fun (y1:Bool)=>
 cond (y1)
 (some [])
 (aA (fun (y3:(List UInt8))=>
 cond (decide (0≤(0:Int))&&decide ((0:Int)≤a2)&&decide (a2≤(y3.length:Int))) (cond (decide (([]:List UInt8).length+(List.take ((a2 - 0).toNat) (List.drop 0 y3)).length≤bA)) (some ([]++(List.take ((a2 - 0).toNat) (List.drop 0 y3)))) none) none) fun k4=>
 tA FU (fun (x5:(List UInt8) × Int) k6=>
 cond (decide ((x5.1.length:Int)<a2))
 (ob (NS.raw a0 a1 x5.2) fun r7=>
 cond (decide (x5.1.length+r7.length≤bA)) (k6 ((x5.1++r7),(cA .i64 x5.2 1))) none)
 (k4 x5.1)) ([],0))) fun k2=>
 cond (!(iA a2 0 200))
 (k2 true)
 (cond (decide ((a1.length:Int)>100))
 (k2 true)
 (k2 (decide ((a0.length:Int)>1048576))))
def LL.raw (a0:List UInt8) (a1:List UInt8) (a2:List UInt8):Option (List UInt8):=
 aA (fun (y1:Bool)=>
 cond (y1)
 (some [])
 (ob (MT.raw a0 a1 (a2.length:Int)) fun r3=>
 aA (fun (y4:(List UInt8))=>
 some y4) fun k5=>
 tA FU (fun (x6:(List UInt8) × Int) k7=>
 cond (decide (x6.2<(a2.length:Int)))
 (ob (pA a2 x6.2) fun e8=>
 cond (decide (0≤x6.2)&&decide (x6.2<(r3.length:Int))) (ob (r3[x6.2.toNat]?) fun e9=>
 let x10:Int:=bC .u8 ((e8.toNat:Nat):Int) ((e9.toNat:Nat):Int)
 cond (decide (x6.1.length+[UInt8.ofNat (x10:Int).toNat].length≤bA)) (k7 ((x6.1++[UInt8.ofNat (x10:Int).toNat]),(cA .i64 x6.2 1))) none) none)
 (k5 x6.1)) ([],0))) fun k2=>
 cond (decide ((a2.length:Int)>200))
 (k2 true)
 (cond (decide ((a1.length:Int)>100))
 (k2 true)
 (k2 (decide ((a0.length:Int)>1048576))))
def fH.raw (a0:Int) (a1:G.Frame):Option (List UInt8):=
 aA (fun (y1:Bool)=>
 cond (y1)
 (some [])
 (ob (JJ.raw a0 a1.Sn a1.Epoch a1.Seq) fun r3=>
 cond (decide ([UInt8.ofNat (116:Int).toNat].length+r3.length≤bA)) (cond (decide (([UInt8.ofNat (116:Int).toNat]++r3).length+[UInt8.ofNat (IntKind.wrap .u8 a1.Kind:Int).toNat].length≤bA)) (let x4:List UInt8:=([UInt8.ofNat (116:Int).toNat]++r3)++[UInt8.ofNat (IntKind.wrap .u8 a1.Kind:Int).toNat]
 cond (decide (x4.length+a1.Body.length≤bA)) (some (x4++a1.Body)) none) none) none)) fun k2=>
 cond (!(iA a0 0 1))
 (k2 true)
 (cond (!(qD a1))
 (k2 true)
 (k2 (!(GC a1.Kind))))
def KI.raw (a0:List UInt8) (a1:List UInt8):Option (List UInt8):=
 let r1:(List UInt8):=FD a0 a1
 cond (decide ((r1.length:Int)<16))
 (some [])
 (cond (decide (0≤(0:Int))&&decide ((0:Int)≤16)&&decide (16≤(r1.length:Int))) (cond (decide (([]:List UInt8).length+(List.take 16 (List.drop 0 r1)).length≤bA)) (some ([]++(List.take 16 (List.drop 0 r1)))) none) none)
def WL.raw (a0:List UInt8) (a1:Int) (a2:List UInt8) (a3:Int) (a4:Int) (a5:Int) (a6:List UInt8):Option (G.Frame × Bool):=
 ob (JJ.raw a1 a2 a3 a4) fun r1=>
 aA (fun (y2:Bool)=>
 cond (y2)
 (some ((⟨0,0,[],[],0,[],[],0,0,[],[]⟩:G.Frame),false))
 (cond (decide (([]:List UInt8).length+a2.length≤bA)) (ob (LL.raw a0 r1 a6) fun r4=>
 aA (fun (y5:G.Frame)=>
 ob (fH.raw a1 y5) fun r9=>
 ob (KI.raw a0 r9) fun r10=>
 some ((⟨y5.Kind,y5.Id,y5.Cn,y5.Sn,y5.Tick,y5.Cookie,y5.Proof,y5.Epoch,y5.Seq,y5.Body,r10⟩:G.Frame),true)) fun k6=>
 tA FU (fun (x7:Int × G.Frame) k8=>
 cond (decide (x7.1<16))
 (cond (decide (x7.2.Tag.length+[UInt8.ofNat (0:Int).toNat].length≤bA)) (k8 ((cA .i64 x7.1 1),(⟨x7.2.Kind,x7.2.Id,x7.2.Cn,x7.2.Sn,x7.2.Tick,x7.2.Cookie,x7.2.Proof,x7.2.Epoch,x7.2.Seq,x7.2.Body,x7.2.Tag++[UInt8.ofNat (0:Int).toNat]⟩:G.Frame))) none)
 (k6 x7.2)) (0,(⟨a5,0,[],[]++a2,0,[],[],a3,a4,r4,[]⟩:G.Frame))) none)) fun k3=>
 cond ((a0.length:Int) !=32)
 (k3 true)
 (cond ((r1.length:Int)==0)
 (k3 true)
 (cond (!(GC a5))
 (k3 true)
 (k3 (!(DF a5 (a6.length:Int))))))
def eT.raw (a0:List UInt8) (a1:Int) (a2:Int) (a3:List UInt8) (a4:Int) (a5:Int) (a6:Int) (a7:List UInt8):Option (List G.Op):=
 ob (WL.raw a0 a2 a3 a4 a5 a6 a7) fun r1=>
 aA (fun (y2:Bool)=>
 cond (y2)
 (some [])
 (cond (decide ([UInt8.ofNat (IntKind.wrap .u8 a6:Int).toNat].length+a3.length≤bA)) (ob (LC ([UInt8.ofNat (IntKind.wrap .u8 a6:Int).toNat]++a3) a4 4) fun r4=>
 ob (LC r4 a5 6) fun r5=>
 ob (fH.raw a2 r1.1) fun r6=>
 cond (decide (([]:List UInt8).length+r1.1.Body.length≤bA)) (let x7:List G.Op:=[(⟨1,0,0,r5⟩:G.Op),(⟨3,a1,0,[]⟩:G.Op),(⟨1,0,0,r6⟩:G.Op),(⟨8,0,0,[]⟩:G.Op),(⟨5,0,0,[]⟩:G.Op),(⟨1,0,0,[]++r1.1.Body⟩:G.Op),(⟨5,0,0,[]⟩:G.Op)]
 some x7) none) none)) fun k3=>
 cond (!r1.2)
 (k3 true)
 (k3 (!(iA a1 0 11)))
def JU.raw (a0:G.Cur) (a1:G.World) (a2:Int) (a3:Bool):Option (G.Event × G.Cur × Int):=
 ob (BA.raw a0 2) fun r1=>
 ob (BA.raw r1.2 3) fun r2=>
 ob (BA.raw r2.2 40) fun r3=>
 aA (fun (y4:Bool × G.Cur)=>
 cond (y4.1)
 (some ((⟨7,a2,r2.1,r3.1,[],[]⟩:G.Event),y4.2,cA .i64 a2 1))
 (aA (fun (y7:Bool × G.Cur)=>
 cond (y7.1)
 (some ((⟨1,r1.1,r2.1,r3.1,[],[]⟩:G.Event),y7.2,a2))
 (ob (BA.raw y7.2 16) fun r11=>
 aA (fun (y12:Bool)=>
 aA (fun (y16:G.Event × G.Cur × G.Event)=>
 some (y16.1,y16.2.1,a2)) fun k17=>
 cond (y12)
 (ob (BA.raw r11.2 6) fun r18=>
 ob (mB.raw r18.2 r18.1) fun r19=>
 k17 ((⟨2,r1.1,r2.1,r3.1,r19.1,[]⟩:G.Event),r19.2,(⟨0,0,0,0,[],[]⟩:G.Event)))
 (aA (fun (y20:Bool)=>
 aA (fun (y22:G.Event × G.Cur × G.Event)=>
 k17 (y22.1,y22.2.1,y22.2.2)) fun k23=>
 cond (y20)
 (ob (BA.raw r11.2 3) fun r24=>
 ob (BA.raw r24.2 6) fun r25=>
 ob (mB.raw r25.2 r25.1) fun r26=>
 k23 ((⟨3,r24.1,r2.1,r3.1,r26.1,[]⟩:G.Event),r26.2,(⟨0,0,0,0,[],[]⟩:G.Event)))
 (aA (fun (y27:Bool)=>
 aA (fun (y29:G.Event × G.Cur × G.Event)=>
 k23 (y29.1,y29.2.1,y29.2.2)) fun k30=>
 cond (y27)
 (k30 ((⟨4,r1.1,r2.1,r3.1,[],[]⟩:G.Event),r11.2,(⟨0,0,0,0,[],[]⟩:G.Event)))
 (aA (fun (y31:G.Event × G.Cur × G.Event)=>
 k30 (y31.1,y31.2.1,y31.2.2)) fun k32=>
 cond (r11.1==7)
 (k32 ((⟨5,r1.1,r2.1,r3.1,[],[]⟩:G.Event),r11.2,(⟨0,0,0,0,[],[]⟩:G.Event)))
 (aA (fun (y33:Bool)=>
 aA (fun (y35:G.Event × G.Cur × G.Event)=>
 k32 (y35.1,y35.2.1,y35.2.2)) fun k36=>
 cond (y33)
 (k36 ((⟨6,r1.1,r2.1,r3.1,[],[]⟩:G.Event),r11.2,(⟨0,0,0,0,[],[]⟩:G.Event)))
 (ob (BA.raw r11.2 4) fun r37=>
 ob (BA.raw r37.2 90) fun r38=>
 aA (fun (y39:Bool × G.Cur)=>
 aA (fun (y42:G.Cur × G.Event)=>
 ob (BA.raw y42.1 256) fun r46=>
 cond (!a3)
 (some ((⟨y42.2.Kind,y42.2.I,r46.1,y42.2.N,y42.2.B,y42.2.Ops⟩:G.Event),r46.2,a2))
 (ob (BA.raw r46.2 12) fun r47=>
 aA (fun (y48:Bool)=>
 aA (fun (y50:G.Event × G.Cur)=>
 k36 (y50.1,y50.2,(⟨0,0,0,0,[],[]⟩:G.Event))) fun k51=>
 cond (y48)
 (ob (AU.raw r47.2 6) fun r52=>
 aA (fun (y53:G.Cur × G.Event)=>
 k51 (y53.2,y53.1)) fun k54=>
 cond (decide ((a1.Known.length:Int)>0))
 (ob (BA.raw r52.2 (a1.Known.length:Int)) fun r55=>
 ob (pA a1.Clients 0) fun e56=>
 aA (fun (y57:Bool × G.Cur)=>
 aA (fun (y60:(List UInt8))=>
 ob (SU.raw y57.2) fun r63=>
 ob (pA a1.Known r55.1) fun e64=>
 ob (BA.raw r63.2.2 2) fun r65=>
 ob (BA.raw r65.2 3) fun r66=>
 ob (BA.raw r66.2 30) fun r67=>
 ob (eT.raw e64 r55.1 r65.1 y60 r66.1 r67.1 r63.1 r63.2.1) fun r68=>
 aA (fun (y69:G.Event)=>
 k54 (r67.2,y69)) fun k70=>
 cond (decide ((r68.length:Int)>0))
 (k70 (⟨11,y42.2.I,r46.1,y42.2.N,y42.2.B,r68⟩:G.Event))
 (k70 (⟨11,y42.2.I,r46.1,y42.2.N,y42.2.B,r52.1⟩:G.Event))) fun k61=>
 cond (y57.1)
 (ob (pA a1.Clients 1) fun e62=>
 k61 e62.C.Sn)
 (k61 e56.C.Sn)) fun k58=>
 cond ((e56.C.Sn.length:Int)==0)
 (k58 (true,r55.2))
 (ob (nC.raw r55.2 3) fun r59=>
 k58 (r59.1,r59.2)))
 (k54 (r52.2,(⟨11,y42.2.I,r46.1,y42.2.N,y42.2.B,r52.1⟩:G.Event))))
 (aA (fun (y71:G.Event × G.Cur)=>
 k51 (y71.1,y71.2)) fun k72=>
 cond (r47.1==2)
 (k72 ((⟨12,y42.2.I,r46.1,y42.2.N,y42.2.B,y42.2.Ops⟩:G.Event),r47.2))
 (aA (fun (y73:G.Event × G.Cur)=>
 k72 (y73.1,y73.2)) fun k74=>
 cond (r47.1==3)
 (k74 ((⟨13,y42.2.I,r46.1,y42.2.N,y42.2.B,y42.2.Ops⟩:G.Event),r47.2))
 (aA (fun (y75:G.Event × G.Cur)=>
 k74 (y75.1,y75.2)) fun k76=>
 cond (r47.1==4)
 (ob (BA.raw r47.2 3) fun r77=>
 k76 ((⟨14,r77.1,r46.1,y42.2.N,y42.2.B,y42.2.Ops⟩:G.Event),r77.2))
 (aA (fun (y78:G.Event × G.Cur)=>
 k76 (y78.1,y78.2)) fun k79=>
 cond (r47.1==5)
 (k79 ((⟨15,y42.2.I,r46.1,y42.2.N,y42.2.B,y42.2.Ops⟩:G.Event),r47.2))
 (aA (fun (y80:G.Event × G.Cur)=>
 k79 (y80.1,y80.2)) fun k81=>
 cond (r47.1==6)
 (ob (BA.raw r47.2 3) fun r82=>
 k81 ((⟨16,r82.1,r46.1,y42.2.N,y42.2.B,y42.2.Ops⟩:G.Event),r82.2))
 (aA (fun (y83:G.Cur × G.Event)=>
 k81 (y83.2,y83.1)) fun k84=>
 cond (r47.1==7)
 (ob (nC.raw r47.2 3) fun r85=>
 aA (fun (y86:G.Event × G.Cur)=>
 k84 (y86.2,y86.1)) fun k87=>
 cond (r85.1)
 (ob (BA.raw r85.2 12) fun r88=>
 k87 ((⟨17,y42.2.I,r46.1,r88.1,y42.2.B,y42.2.Ops⟩:G.Event),r88.2))
 (k87 ((⟨y42.2.Kind,y42.2.I,r46.1,y42.2.N,y42.2.B,y42.2.Ops⟩:G.Event),r85.2)))
 (aA (fun (y89:G.Event × G.Cur)=>
 k84 (y89.2,y89.1)) fun k90=>
 cond (r47.1==8)
 (ob (OA.raw r47.2 [2,3,4]) fun r91=>
 ob (OA.raw r91.2 [24,28,44,33]) fun r92=>
 let x93:List G.Op:=[(⟨1,0,0,[UInt8.ofNat (IntKind.wrap .u8 r91.1:Int).toNat]⟩:G.Op),(⟨2,y42.2.I,0,[]⟩:G.Op),(⟨4,1,r92.1,[]⟩:G.Op),(⟨5,0,0,[]⟩:G.Op)]
 k90 ((⟨11,y42.2.I,r46.1,y42.2.N,y42.2.B,x93⟩:G.Event),r92.2))
 (k90 ((⟨y42.2.Kind,y42.2.I,r46.1,y42.2.N,y42.2.B,y42.2.Ops⟩:G.Event),r47.2)))))))))) fun k49=>
 cond (r47.1==0)
 (k49 (r47.1==0))
 (k49 (r47.1==1)))) fun k43=>
 cond (y39.1)
 (ob (BA.raw y39.2 4) fun r44=>
 let x45:Int:=sA .i64 (sA .i64 (a1.Seen.length:Int) 1) r44.1
 k43 (r44.2,(⟨cA .i64 7 r37.1,x45,r2.1,r3.1,[],[]⟩:G.Event)))
 (k43 (y39.2,(⟨cA .i64 7 r37.1,r38.1,r2.1,r3.1,[],[]⟩:G.Event)))) fun k40=>
 cond (decide ((a1.Seen.length:Int)>4))
 (ob (nC.raw r38.2 2) fun r41=>
 k40 (r41.1,r41.2))
 (k40 (false,r38.2)))) fun k34=>
 cond (r11.1==8)
 (k34 (r11.1==8))
 (k34 (r11.1==9))))) fun k28=>
 cond (r11.1==5)
 (k28 (r11.1==5))
 (k28 (r11.1==6)))) fun k21=>
 cond (r11.1==3)
 (k21 (r11.1==3))
 (k21 (r11.1==4)))) fun k13=>
 cond (r11.1==0)
 (k13 (r11.1==0))
 (aA (fun (y14:Bool)=>
 k13 y14) fun k15=>
 cond (r11.1==1)
 (k15 (r11.1==1))
 (k15 (r11.1==2))))) fun k8=>
 ob (pA a1.Clients r1.1) fun e9=>
 cond (e9.St==0)
 (ob (nC.raw y4.2 4) fun r10=>
 k8 ((!r10.1),r10.2))
 (k8 (false,y4.2)))) fun k5=>
 cond (decide (a2<(a1.Seen.length:Int)))
 (ob (nC.raw r3.2 4) fun r6=>
 k5 ((!r6.1),r6.2))
 (k5 (false,r3.2))
def gH.raw (a0:Int):Option G.Timer:=
 cond (!(iA a0 0 1000000))
 (some (⟨false,0,0,0⟩:G.Timer))
 (some (⟨true,cA .i64 a0 1,1,1⟩:G.Timer))
def iP.raw (a0:G.Client):Option G.Frame:=
 cond (decide (([]:List UInt8).length+a0.Cn.length≤bA)) (some (⟨1,a0.Id,[]++a0.Cn,[],0,[],[],0,0,[],[]⟩:G.Frame)) none
def vO.raw (a0:G.Client) (a1:Int) (a2:List UInt8):Option (G.Client × (List G.Frame) × (List G.Note) × Int):=
 ob (KA a0) fun r1=>
 aA (fun (y2:Bool)=>
 cond (y2)
 (some (r1,[],[],1))
 (cond (a0.St !=0)
 (some (r1,[],[],6))
 (cond (decide (([]:List UInt8).length+a2.length≤bA)) (ob (gH.raw a1) fun r5=>
 cond (decide (([]:List UInt8).length+a2.length≤bA)) (ob (iP.raw (⟨r1.Id,r1.Psk,r1.At,1,[]++a2,r1.Fin,r1.C,r5,r1.R,r1.Last⟩:G.Client)) fun r6=>
 let x7:List G.Note:=[(⟨1,a0.Id,0,[]++a2,[],0,0,[],[],(⟨0,0⟩:G.Addr),a1⟩:G.Note)]
 some ((⟨r1.Id,r1.Psk,r1.At,1,[]++a2,r1.Fin,r1.C,r5,r1.R,r1.Last⟩:G.Client),[r6],x7,0)) none) none))) fun k3=>
 ob (dE a0) fun r4=>
 cond (!r4)
 (k3 true)
 (cond (!(iA a1 0 1000000))
 (k3 true)
 (k3 ((a2.length:Int) !=12)))
def RL.raw (a0:G.Frame):Option (List UInt8):=
 cond (!(qD a0))
 (some [])
 (aA (fun (y1:(List UInt8))=>
 some y1) fun k2=>
 cond (a0.Kind==1)
 (cond (decide ([UInt8.ofNat (IntKind.wrap .u8 a0.Kind:Int).toNat].length+[UInt8.ofNat (IntKind.wrap .u8 a0.Id:Int).toNat].length≤bA)) (let x3:List UInt8:=[UInt8.ofNat (IntKind.wrap .u8 a0.Kind:Int).toNat]++[UInt8.ofNat (IntKind.wrap .u8 a0.Id:Int).toNat]
 cond (decide (x3.length+a0.Cn.length≤bA)) (aA (fun (y4:(List UInt8))=>
 k2 y4) fun k5=>
 tA FU (fun (x6:(List UInt8) × Int) k7=>
 cond (decide (x6.2<20))
 (cond (decide (x6.1.length+[UInt8.ofNat (0:Int).toNat].length≤bA)) (k7 ((x6.1++[UInt8.ofNat (0:Int).toNat]),(cA .i64 x6.2 1))) none)
 (k5 x6.1)) ((x3++a0.Cn),0)) none) none)
 (aA (fun (y8:(List UInt8))=>
 k2 y8) fun k9=>
 cond (a0.Kind==2)
 (cond (decide ([UInt8.ofNat (IntKind.wrap .u8 a0.Kind:Int).toNat].length+a0.Cn.length≤bA)) (let x10:List UInt8:=[UInt8.ofNat (IntKind.wrap .u8 a0.Kind:Int).toNat]++a0.Cn
 cond (decide (x10.length+a0.Sn.length≤bA)) (ob (LC (x10++a0.Sn) a0.Tick 4) fun r11=>
 cond (decide (r11.length+a0.Cookie.length≤bA)) (k9 (r11++a0.Cookie)) none) none) none)
 (aA (fun (y12:(List UInt8))=>
 k9 y12) fun k13=>
 cond (a0.Kind==3)
 (cond (decide ([UInt8.ofNat (IntKind.wrap .u8 a0.Kind:Int).toNat].length+[UInt8.ofNat (IntKind.wrap .u8 a0.Id:Int).toNat].length≤bA)) (let x14:List UInt8:=[UInt8.ofNat (IntKind.wrap .u8 a0.Kind:Int).toNat]++[UInt8.ofNat (IntKind.wrap .u8 a0.Id:Int).toNat]
 cond (decide (x14.length+a0.Cn.length≤bA)) (cond (decide ((x14++a0.Cn).length+a0.Sn.length≤bA)) (ob (LC ((x14++a0.Cn)++a0.Sn) a0.Tick 4) fun r15=>
 cond (decide (r15.length+a0.Cookie.length≤bA)) (cond (decide ((r15++a0.Cookie).length+a0.Proof.length≤bA)) (k13 ((r15++a0.Cookie)++a0.Proof)) none) none) none) none) none)
 (cond (decide ([UInt8.ofNat (IntKind.wrap .u8 a0.Kind:Int).toNat].length+a0.Sn.length≤bA)) (let x16:List UInt8:=[UInt8.ofNat (IntKind.wrap .u8 a0.Kind:Int).toNat]++a0.Sn
 ob (LC x16 a0.Epoch 4) fun r17=>
 ob (LC r17 a0.Seq 6) fun r18=>
 cond (decide (r18.length+a0.Tag.length≤bA)) (cond (decide ((r18++a0.Tag).length+a0.Body.length≤bA)) (k13 ((r18++a0.Tag)++a0.Body)) none) none) none))))
def dM.raw (a0:G.Addr) (a1:G.Addr) (a2:G.Frame):Option G.Wire:=
 ob (RL.raw a2) fun r1=>
 some (⟨a0,a1,r1⟩:G.Wire)
def uM.raw (a0:G.Client) (a1:List G.Frame):Option (List G.Wire):=
 aA (fun (y1:(List G.Wire))=>
 some y1) fun k2=>
 tA FU (fun (x3:(List G.Wire) × Int) k4=>
 cond (decide (x3.2<(a1.length:Int)))
 (let r5:G.Addr:=oI
 ob (pA a1 x3.2) fun e6=>
 ob (dM.raw a0.At r5 e6) fun r7=>
 cond (decide (x3.1.length+[r7].length≤bA)) (k4 ((x3.1++[r7]),(cA .i64 x3.2 1))) none)
 (k2 x3.1)) ([],0)
def TH.raw (a0:G.World) (a1:List G.Wire) (a2:List G.Note):Option G.World:=
 aA (fun (y1:G.World)=>
 cond (decide (y1.Notes.length+a2.length≤bA)) (some (⟨y1.Now,y1.Clients,y1.S,y1.D,y1.Seen,y1.Known,y1.Notes++a2⟩:G.World)) none) fun k2=>
 tA FU (fun (x3:Int × G.World) k4=>
 cond (decide (x3.1<(a1.length:Int)))
 (aA (fun (y5:G.World)=>
 k4 ((cA .i64 x3.1 1),y5)) fun k6=>
 cond (decide ((x3.2.Seen.length:Int)<90))
 (ob (pA a1 x3.1) fun e7=>
 cond (decide (x3.2.Seen.length+[e7].length≤bA)) (k6 (⟨x3.2.Now,x3.2.Clients,x3.2.S,x3.2.D,x3.2.Seen++[e7],x3.2.Known,x3.2.Notes⟩:G.World)) none)
 (k6 x3.2))
 (k2 x3.2)) (0,a0)
def TJ.raw (a0:G.World) (a1:Int) (a2:G.Client) (a3:List G.Frame) (a4:List G.Note):Option G.World:=
 cond (decide (0≤a1)&&decide (a1<(a0.Clients.length:Int))) (ob (a0.Clients[a1.toNat]?) fun e1=>
 ob (uM.raw a2 a3) fun r2=>
 ob (TH.raw (⟨a0.Now,List.set a0.Clients a1.toNat a2,a0.S,a0.D,a0.Seen,a0.Known,a0.Notes⟩:G.World) r2 a4) fun r3=>
 some r3) none
def aT.raw (a0:G.Ep) (a1:Int) (a2:List UInt8) (a3:Int) (a4:List UInt8):Option (G.Ep × G.Frame × Int):=
 ob (KA a0) fun r1=>
 aA (fun (y2:Bool)=>
 cond (y2)
 (some (r1,(⟨0,0,[],[],0,[],[],0,0,[],[]⟩:G.Frame),1))
 (aA (fun (y5:Bool)=>
 cond (y5)
 (some (r1,(⟨0,0,[],[],0,[],[],0,0,[],[]⟩:G.Frame),4))
 (cond (a0.Seq==281474976710656)
 (some (r1,(⟨0,0,[],[],0,[],[],0,0,[],[]⟩:G.Frame),5))
 (ob (WL.raw a0.Key a1 a2 a0.N a0.Seq a3 a4) fun r7=>
 some ((⟨r1.N,r1.Key,cA .i64 a0.Seq 1,r1.Win⟩:G.Ep),r7.1,0)))) fun k6=>
 cond (a3==4)
 (k6 (decide (a0.Seq≥281474976709656)))
 (k6 false))) fun k3=>
 cond (!(fE a0))
 (k3 true)
 (ob (JJ.raw a1 a2 a0.N 0) fun r4=>
 cond ((r4.length:Int)==0)
 (k3 true)
 (cond (!(GC a3))
 (k3 true)
 (k3 (!(DF a3 (a4.length:Int))))))
def SH.raw (a0:G.Chan) (a1:Int) (a2:List UInt8):Option (G.Chan × G.Frame × Int):=
 ob (KA a0) fun r1=>
 ob (yC a0) fun r2=>
 cond (!r2)
 (some (r1,(⟨0,0,[],[],0,[],[],0,0,[],[]⟩:G.Frame),1))
 (ob (aT.raw a0.Cur a0.Role a0.Sn a1 a2) fun r3=>
 aA (fun (y4:G.Chan)=>
 some (y4,r3.2.1,r3.2.2)) fun k5=>
 cond (r3.2.2==0)
 (k5 (⟨r1.Role,r1.Sn,r3.1,r1.Old,r1.HasOld,r1.Until,r1.Next⟩:G.Chan))
 (k5 r1))
def JL.raw (a0:List UInt8) (a1:List UInt8):Option G.Note:=
 cond (decide (([]:List UInt8).length+a0.length≤bA)) (cond (decide (([]:List UInt8).length+a1.length≤bA)) (some (⟨15,0,0,[],[],0,0,[]++a1,[]++a0,(⟨0,0⟩:G.Addr),0⟩:G.Note)) none) none
def tG.raw (a0:G.Chan) (a1:G.Frame):Option G.Note:=
 ob (fH.raw a0.Role a1) fun r1=>
 ob (JL.raw a0.Cur.Key r1) fun r2=>
 some r2
def RS.raw (a0:G.Client) (a1:Int) (a2:List UInt8):Option (G.Client × (List G.Frame) × (List G.Note) × Int):=
 ob (KA a0) fun r1=>
 aA (fun (y2:Bool)=>
 cond (y2)
 (some (r1,[],[],1))
 (cond (a0.St !=3)
 (some (r1,[],[],6))
 (ob (SH.raw a0.C 4 a2) fun r5=>
 cond (r5.2.2 !=0)
 (some (r1,[],[],r5.2.2))
 (cond (decide (([]:List UInt8).length+r5.2.1.Sn.length≤bA)) (cond (decide (([]:List UInt8).length+a2.length≤bA)) (ob (tG.raw r5.1 r5.2.1) fun r6=>
 let x7:List G.Note:=[r6,(⟨5,0,0,[],[]++r5.2.1.Sn,r5.2.1.Epoch,r5.2.1.Seq,[]++a2,[],(⟨0,0⟩:G.Addr),0⟩:G.Note)]
 some ((⟨r1.Id,r1.Psk,r1.At,r1.St,r1.Cn,r1.Fin,r5.1,r1.T,r1.R,r1.Last⟩:G.Client),[r5.2.1],x7,0)) none) none)))) fun k3=>
 ob (dE a0) fun r4=>
 cond (!r4)
 (k3 true)
 (cond (!(iA a1 0 1000000))
 (k3 true)
 (k3 (decide ((a2.length:Int)>40))))
def HT.raw (a0:G.Sess) (a1:List UInt8):Option (G.Sess × (List G.Out) × (List G.Note) × Int):=
 ob (KA a0) fun r1=>
 aA (fun (y2:Bool)=>
 cond (y2)
 (some (r1,[],[],1))
 (cond (a0.Dead)
 (some (r1,[],[],6))
 (ob (SH.raw a0.C 4 a1) fun r5=>
 cond (r5.2.2 !=0)
 (some (r1,[],[],r5.2.2))
 (cond (decide (([]:List UInt8).length+a0.Sn.length≤bA)) (cond (decide (([]:List UInt8).length+a1.length≤bA)) (ob (tG.raw r5.1 r5.2.1) fun r6=>
 let x7:List G.Note:=[r6,(⟨5,0,1,[],[]++a0.Sn,r5.2.1.Epoch,r5.2.1.Seq,[]++a1,[],(⟨0,0⟩:G.Addr),0⟩:G.Note)]
 some ((⟨r1.Id,r1.Cn,r1.Sn,r5.1,r1.P,r1.Tick,r1.Last,r1.Dead⟩:G.Sess),[(⟨a0.P.At,r5.2.1⟩:G.Out)],x7,0)) none) none)))) fun k3=>
 ob (XD a0) fun r4=>
 cond (!r4)
 (k3 true)
 (k3 (decide ((a1.length:Int)>40)))
def DT.raw (a0:G.Server) (a1:Int) (a2:Int) (a3:List UInt8):Option (G.Server × (List G.Out) × (List G.Note) × Int):=
 ob (KA a0) fun r1=>
 aA (fun (y2:Bool)=>
 cond (y2)
 (some (r1,[],[],1))
 (let r5:Bool:=iA a2 0 (sA .i64 (a0.T.L.length:Int) 1)
 cond (!r5)
 (some (r1,[],[],8))
 (ob (pA a0.T.L a2) fun e6=>
 ob (HT.raw e6 a3) fun r7=>
 aA (fun (y8:G.Server)=>
 some (y8,r7.2.1,r7.2.2.1,r7.2.2.2)) fun k9=>
 cond (r7.2.2.2==0)
 (cond (decide (0≤a2)&&decide (a2<(r1.T.L.length:Int))) (ob (r1.T.L[a2.toNat]?) fun e10=>
 k9 (⟨r1.Psks,r1.J,r1.D,(⟨r1.T.Cap,List.set r1.T.L a2.toNat r7.1⟩:G.Tab),r1.Cr⟩:G.Server)) none)
 (k9 r1)))) fun k3=>
 ob (dD a0) fun r4=>
 cond (!r4)
 (k3 true)
 (k3 (!(iA a1 0 1000000)))
def nP.raw (a0:List G.Out):Option (List G.Wire):=
 aA (fun (y1:(List G.Wire))=>
 some y1) fun k2=>
 tA FU (fun (x3:(List G.Wire) × Int) k4=>
 cond (decide (x3.2<(a0.length:Int)))
 (let r5:G.Addr:=oI
 ob (pA a0 x3.2) fun e6=>
 ob (pA a0 x3.2) fun e7=>
 ob (dM.raw r5 e6.To e7.F) fun r8=>
 cond (decide (x3.1.length+[r8].length≤bA)) (k4 ((x3.1++[r8]),(cA .i64 x3.2 1))) none)
 (k2 x3.1)) ([],0)
def OT.raw (a0:G.Timer) (a1:Int):Option Bool:=
 aA (fun (y1:Bool)=>
 some y1) fun k2=>
 cond ((wD a0))
 (cond (a0.On)
 (cond ((iA a1 0 1000000))
 (k2 (decide (a1≥a0.Due)))
 (k2 false))
 (k2 false))
 (k2 false)
def LI.raw (a0:G.Timer) (a1:Int):Option (G.Timer × Int):=
 ob (OT.raw a0 a1) fun r1=>
 cond (!r1)
 (some (a0,0))
 (cond (a0.Tries==5)
 (some ((⟨false,0,0,0⟩:G.Timer),2))
 (aA (fun (y2:Int)=>
 some ((⟨true,cA .i64 a1 y2,y2,cA .i64 a0.Tries 1⟩:G.Timer),1)) fun k3=>
 cond (decide ((LB .i64 2 a0.Wait)>8))
 (k3 8)
 (k3 (LB .i64 2 a0.Wait))))
def QJ.raw (a0:G.Client):Option G.Client:=
 ob (uH a0.Id a0.Psk a0.At) fun r1=>
 some r1
def sO.raw (a0:G.Chan) (a1:Int):Option G.Chan:=
 ob (KA a0) fun r1=>
 aA (fun (y2:Bool)=>
 aA (fun (y5:G.Chan)=>
 some y5) fun k6=>
 cond (y2)
 (k6 (⟨r1.Role,r1.Sn,r1.Cur,(⟨0,[],0,(⟨0,[]⟩:G.Win)⟩:G.Ep),false,0,r1.Next⟩:G.Chan))
 (k6 r1)) fun k3=>
 ob (yC a0) fun r4=>
 cond (r4)
 (cond ((iA a1 0 1000000))
 (cond (a0.HasOld)
 (cond (a0.Until !=(-1))
 (k3 (decide (a1>a0.Until)))
 (k3 false))
 (k3 false))
 (k3 false))
 (k3 false)
def KJ.raw (a0:Int):Option (List UInt8):=
 cond (!(iA a0 0 4294967295))
 (some [])
 (ob (LC [] a0 4) fun r1=>
 some r1)
def pO.raw (a0:G.Chan):Option (G.Chan × G.Frame × Int):=
 aA (fun (y1:Bool)=>
 cond (y1)
 (ob (KA a0) fun r4=>
 some (r4,(⟨0,0,[],[],0,[],[],0,0,[],[]⟩:G.Frame),6))
 (ob (KJ.raw (cA .i64 a0.Cur.N 1)) fun r5=>
 ob (SH.raw a0 7 r5) fun r6=>
 some (r6.1,r6.2.1,r6.2.2))) fun k2=>
 ob (yC a0) fun r3=>
 cond (!r3)
 (k2 true)
 (k2 ((a0.Next.length:Int)==0))
def SS.raw (a0:G.Client) (a1:Int):Option (G.Client × (List G.Frame) × (List G.Note)):=
 ob (KA a0) fun r1=>
 aA (fun (y2:Bool)=>
 cond (y2)
 (some (r1,[],[]))
 (cond (a0.St !=3)
 (ob (LI.raw a0.T a1) fun r5=>
 cond (r5.2==2)
 (ob (QJ.raw a0) fun r6=>
 cond (decide (([]:List UInt8).length+a0.Cn.length≤bA)) (let x7:List G.Note:=[(⟨17,a0.Id,0,[]++a0.Cn,[],0,0,[],[],(⟨0,0⟩:G.Addr),0⟩:G.Note)]
 cond (decide (([]:List G.Note).length+x7.length≤bA)) (some (r6,[],[]++x7)) none) none)
 (aA (fun (y8:Bool)=>
 aA (fun (y10:(List G.Frame))=>
 aA (fun (y13:Bool)=>
 aA (fun (y15:(List G.Frame))=>
 some ((⟨r1.Id,r1.Psk,r1.At,r1.St,r1.Cn,r1.Fin,r1.C,r5.1,r1.R,r1.Last⟩:G.Client),y15,[])) fun k16=>
 cond (y13)
 (ob (KA a0.Fin) fun r17=>
 cond (decide (y10.length+[r17].length≤bA)) (k16 (y10++[r17])) none)
 (k16 y10)) fun k14=>
 cond (r5.2==1)
 (k14 (a0.St==2))
 (k14 false)) fun k11=>
 cond (y8)
 (ob (iP.raw a0) fun r12=>
 cond (decide (([]:List G.Frame).length+[r12].length≤bA)) (k11 ([]++[r12])) none)
 (k11 [])) fun k9=>
 cond (r5.2==1)
 (k9 (a0.St==1))
 (k9 false)))
 (cond (decide ((sA .i64 a1 a0.Last)>60))
 (ob (QJ.raw a0) fun r18=>
 cond (decide (([]:List UInt8).length+a0.C.Sn.length≤bA)) (let x19:List G.Note:=[(⟨11,a0.Id,0,[],[]++a0.C.Sn,0,0,[],[],(⟨0,0⟩:G.Addr),0⟩:G.Note)]
 cond (decide (([]:List G.Note).length+x19.length≤bA)) (some (r18,[],[]++x19)) none) none)
 (ob (sO.raw a0.C a1) fun r20=>
 ob (LI.raw a0.R a1) fun r21=>
 cond (r21.2==0)
 (some ((⟨r1.Id,r1.Psk,r1.At,r1.St,r1.Cn,r1.Fin,r20,r1.T,r1.R,r1.Last⟩:G.Client),[],[]))
 (aA (fun (y22:G.Client)=>
 ob (pO.raw y22.C) fun r25=>
 aA (fun (y26:(List G.Frame) × (List G.Note) × G.Client)=>
 some (y26.2.2,y26.1,y26.2.1)) fun k27=>
 cond (r25.2.2==0)
 (cond (decide (([]:List G.Frame).length+[r25.2.1].length≤bA)) (ob (tG.raw r25.1 r25.2.1) fun r28=>
 cond (decide (([]:List G.Note).length+[r28].length≤bA)) (k27 (([]++[r25.2.1]),([]++[r28]),(⟨y22.Id,y22.Psk,y22.At,y22.St,y22.Cn,y22.Fin,r25.1,y22.T,y22.R,y22.Last⟩:G.Client))) none) none)
 (k27 ([],[],y22))) fun k23=>
 cond (r21.2==2)
 (ob (gH.raw a1) fun r24=>
 k23 (⟨r1.Id,r1.Psk,r1.At,r1.St,r1.Cn,r1.Fin,r20,r1.T,r24,r1.Last⟩:G.Client))
 (k23 (⟨r1.Id,r1.Psk,r1.At,r1.St,r1.Cn,r1.Fin,r20,r1.T,r21.1,r1.Last⟩:G.Client))))))) fun k3=>
 ob (dE a0) fun r4=>
 cond (!r4)
 (k3 true)
 (cond (!(iA a1 0 1000000))
 (k3 true)
 (k3 (a0.St==0)))
def RH.raw (a0:G.Sess):Option G.Sess:=
 ob (XD a0) fun r1=>
 cond (!r1)
 (ob (KA a0) fun r2=>
 some r2)
 (cond (decide (([]:List UInt8).length+a0.Cn.length≤bA)) (cond (decide (([]:List UInt8).length+a0.Sn.length≤bA)) (some (⟨a0.Id,[]++a0.Cn,[]++a0.Sn,(⟨0,[],(⟨0,[],0,(⟨0,[]⟩:G.Win)⟩:G.Ep),(⟨0,[],0,(⟨0,[]⟩:G.Win)⟩:G.Ep),false,0,[]⟩:G.Chan),(⟨(⟨0,0⟩:G.Addr),[]⟩:G.Paths),a0.Tick,0,true⟩:G.Sess)) none) none)
def HO.raw (a0:G.Paths) (a1:Int):Option G.Paths:=
 aA (fun (y1:Bool)=>
 cond (y1)
 (ob (KA a0) fun r3=>
 some r3)
 (aA (fun (y4:G.Paths)=>
 some y4) fun k5=>
 tA FU (fun (x6:Int × G.Paths) k7=>
 cond (decide (x6.1<(a0.Cands.length:Int)))
 (ob (pA a0.Cands x6.1) fun e8=>
 aA (fun (y9:G.Paths)=>
 k7 ((cA .i64 x6.1 1),y9)) fun k10=>
 cond (decide (e8.Until≥a1))
 (ob (pA a0.Cands x6.1) fun e11=>
 ob (gI e11) fun r12=>
 cond (decide (x6.2.Cands.length+[r12].length≤bA)) (k10 (⟨x6.2.At,x6.2.Cands++[r12]⟩:G.Paths)) none)
 (k10 x6.2))
 (k5 x6.2)) (0,(⟨a0.At,[]⟩:G.Paths)))) fun k2=>
 cond (!(sD a0))
 (k2 true)
 (k2 (!(iA a1 0 1000000)))
def IT.raw (a0:G.Sess) (a1:Int):Option G.Sess:=
 ob (KA a0) fun r1=>
 aA (fun (y2:Bool)=>
 cond (y2)
 (some r1)
 (cond (decide ((sA .i64 a1 a0.Last)>60))
 (ob (RH.raw a0) fun r5=>
 some r5)
 (ob (sO.raw a0.C a1) fun r6=>
 ob (HO.raw a0.P a1) fun r7=>
 some (⟨r1.Id,r1.Cn,r1.Sn,r6,r7,r1.Tick,r1.Last,r1.Dead⟩:G.Sess)))) fun k3=>
 ob (XD a0) fun r4=>
 cond (!r4)
 (k3 true)
 (cond (a0.Dead)
 (k3 true)
 (k3 (!(iA a1 0 1000000))))
def NT.raw (a0:G.Tab) (a1:Int):Option G.Tab:=
 aA (fun (y1:Bool)=>
 cond (y1)
 (ob (KA a0) fun r4=>
 some r4)
 (aA (fun (y5:G.Tab)=>
 some y5) fun k6=>
 tA FU (fun (x7:Int × G.Tab) k8=>
 cond (decide (x7.1<(a0.L.length:Int)))
 (ob (pA a0.L x7.1) fun e9=>
 ob (IT.raw e9 a1) fun r10=>
 aA (fun (y11:Bool)=>
 aA (fun (y13:G.Tab)=>
 k8 ((cA .i64 x7.1 1),y13)) fun k14=>
 cond (y11)
 (cond (decide (x7.2.L.length+[r10].length≤bA)) (k14 (⟨x7.2.Cap,x7.2.L++[r10]⟩:G.Tab)) none)
 (k14 x7.2)) fun k12=>
 cond (!r10.Dead)
 (k12 true)
 (k12 (decide ((sA .i64 a1 r10.Tick)≤10))))
 (k6 x7.2)) (0,(⟨a0.Cap,[]⟩:G.Tab)))) fun k2=>
 ob (kH a0) fun r3=>
 cond (!r3)
 (k2 true)
 (k2 (!(iA a1 0 1000000)))
def kP.raw (a0:G.Sess):Option G.Note:=
 cond (decide (([]:List UInt8).length+a0.Sn.length≤bA)) (some (⟨11,a0.Id,1,[],[]++a0.Sn,0,0,[],[],(⟨0,0⟩:G.Addr),0⟩:G.Note)) none
def ET.raw (a0:G.Server) (a1:Int):Option (G.Server × (List G.Note)):=
 ob (KA a0) fun r1=>
 aA (fun (y2:Bool)=>
 cond (y2)
 (some (r1,[]))
 (ob (NT.raw a0.T a1) fun r5=>
 aA (fun (y6:(List G.Note))=>
 some ((⟨r1.Psks,r1.J,r1.D,r5,r1.Cr⟩:G.Server),y6)) fun k7=>
 tA FU (fun (x8:(List G.Note) × Int) k9=>
 cond (decide (x8.2<(a0.T.L.length:Int)))
 (ob (pA a0.T.L x8.2) fun e10=>
 ob (pD r5 e10.Sn) fun r11=>
 aA (fun (y12:Bool)=>
 aA (fun (y16:(List G.Note))=>
 k9 (y16,(cA .i64 x8.2 1))) fun k17=>
 cond (y12)
 (ob (pA a0.T.L x8.2) fun e18=>
 ob (kP.raw e18) fun r19=>
 cond (decide (x8.1.length+[r19].length≤bA)) (k17 (x8.1++[r19])) none)
 (k17 x8.1)) fun k13=>
 ob (pA a0.T.L x8.2) fun e14=>
 cond (!e14.Dead)
 (cond (decide (r11<0))
 (k13 true)
 (cond (decide (0≤r11)&&decide (r11<(r5.L.length:Int))) (ob (r5.L[r11.toNat]?) fun e15=>
 k13 e15.Dead) none))
 (k13 false))
 (k7 x8.1)) ([],0))) fun k3=>
 ob (dD a0) fun r4=>
 cond (!r4)
 (k3 true)
 (k3 (!(iA a1 0 1000000)))
def CU.raw (a0:G.World):Option ((List G.Wire) × G.World):=
 aA (fun (y1:(List G.Wire) × G.World)=>
 ob (ET.raw y1.2.S y1.2.Now) fun r9=>
 cond (decide (y1.2.Notes.length+r9.2.length≤bA)) (some (y1.1,(⟨y1.2.Now,y1.2.Clients,r9.1,y1.2.D,y1.2.Seen,y1.2.Known,y1.2.Notes++r9.2⟩:G.World))) none) fun k2=>
 tA FU (fun (x3:(List G.Wire) × Int × G.World) k4=>
 cond (decide (x3.2.1<2))
 (cond (decide (0≤x3.2.1)&&decide (x3.2.1<(x3.2.2.Clients.length:Int))) (ob (x3.2.2.Clients[x3.2.1.toNat]?) fun e5=>
 ob (SS.raw e5 x3.2.2.Now) fun r6=>
 cond (decide (0≤x3.2.1)&&decide (x3.2.1<(x3.2.2.Clients.length:Int))) (ob (x3.2.2.Clients[x3.2.1.toNat]?) fun e7=>
 cond (decide (x3.2.2.Notes.length+r6.2.2.length≤bA)) (ob (uM.raw r6.1 r6.2.1) fun r8=>
 cond (decide (x3.1.length+r8.length≤bA)) (k4 ((x3.1++r8),(cA .i64 x3.2.1 1),(⟨x3.2.2.Now,List.set x3.2.2.Clients x3.2.1.toNat r6.1,x3.2.2.S,x3.2.2.D,x3.2.2.Seen,x3.2.2.Known,x3.2.2.Notes++r6.2.2⟩:G.World))) none) none) none) none)
 (k2 (x3.1,x3.2.2))) ([],0,(⟨cA .i64 a0.Now 1,a0.Clients,a0.S,a0.D,a0.Seen,a0.Known,a0.Notes⟩:G.World))
def xT.raw (a0:G.Client) (a1:G.Addr):Option G.Client:=
 ob (KA a0) fun r1=>
 aA (fun (y2:Bool)=>
 aA (fun (y5:G.Client)=>
 some y5) fun k6=>
 cond (y2)
 (k6 (⟨r1.Id,r1.Psk,a1,r1.St,r1.Cn,r1.Fin,r1.C,r1.T,r1.R,r1.Last⟩:G.Client))
 (k6 r1)) fun k3=>
 ob (dE a0) fun r4=>
 cond (r4)
 (k3 (oB a1))
 (k3 false)
def ST.raw (a0:G.Chan):Option (G.Chan × Bool):=
 ob (KA a0) fun r1=>
 aA (fun (y2:Bool)=>
 cond (y2)
 (some (r1,false))
 (ob (jF a0.Cur.Key [114,101,107,101,121]) fun r5=>
 some ((⟨r1.Role,r1.Sn,r1.Cur,r1.Old,r1.HasOld,r1.Until,r5⟩:G.Chan),true))) fun k3=>
 ob (yC a0) fun r4=>
 cond (!r4)
 (k3 true)
 (cond (a0.Role !=0)
 (k3 true)
 (cond (decide ((a0.Next.length:Int)>0))
 (k3 true)
 (k3 (a0.Cur.N==4294967295))))
def QS.raw (a0:G.Client) (a1:Int):Option (G.Client × (List G.Frame) × (List G.Note) × Int):=
 ob (KA a0) fun r1=>
 aA (fun (y2:Bool)=>
 cond (y2)
 (some (r1,[],[],1))
 (aA (fun (y5:Bool)=>
 cond (y5)
 (some (r1,[],[],6))
 (ob (ST.raw a0.C) fun r7=>
 ob (pO.raw r7.1) fun r8=>
 aA (fun (y9:Bool)=>
 cond (y9)
 (some (r1,[],[],5))
 (ob (gH.raw a1) fun r11=>
 ob (tG.raw r8.1 r8.2.1) fun r12=>
 some ((⟨r1.Id,r1.Psk,r1.At,r1.St,r1.Cn,r1.Fin,r8.1,r1.T,r11,r1.Last⟩:G.Client),[r8.2.1],[r12],0))) fun k10=>
 cond (!r7.2)
 (k10 true)
 (k10 (r8.2.2 !=0)))) fun k6=>
 cond (a0.St !=3)
 (k6 true)
 (k6 (decide ((a0.C.Next.length:Int)>0))))) fun k3=>
 ob (dE a0) fun r4=>
 cond (!r4)
 (k3 true)
 (k3 (!(iA a1 0 1000000)))
def AO.raw (a0:List G.Credit) (a1:G.Addr) (a2:Int):Option (List G.Credit):=
 cond (decide (([]:List G.Credit).length+a0.length≤bA)) (aA (fun (y1:Bool)=>
 cond (y1)
 (some ([]++a0))
 (cond (decide ((BB a0 a1)<0))
 (cond ((a0.length:Int)==8)
 (some ([]++a0))
 (cond (decide (([]++a0).length+[(⟨a1,a2,0⟩:G.Credit)].length≤bA)) (some (([]++a0)++[(⟨a1,a2,0⟩:G.Credit)])) none))
 (cond (decide (0≤(BB a0 a1))&&decide ((BB a0 a1)<(([]++a0).length:Int))) (ob (([]++a0)[(BB a0 a1).toNat]?) fun e3=>
 cond (decide (0≤(BB a0 a1))&&decide ((BB a0 a1)<(([]++a0).length:Int))) (ob (([]++a0)[(BB a0 a1).toNat]?) fun e4=>
 let l5:List G.Credit:=List.set ([]++a0) ((BB a0 a1).toNat) (⟨e4.A,cA .i64 e3.Got a2,e4.Sent⟩:G.Credit)
 cond (decide (0≤(BB a0 a1))&&decide ((BB a0 a1)<(l5.length:Int))) (ob (l5[(BB a0 a1).toNat]?) fun e6=>
 aA (fun (y7:(List G.Credit))=>
 some y7) fun k8=>
 cond (decide (e6.Got>1000000))
 (cond (decide (0≤(BB a0 a1))&&decide ((BB a0 a1)<(l5.length:Int))) (ob (l5[(BB a0 a1).toNat]?) fun e9=>
 let l10:List G.Credit:=List.set l5 ((BB a0 a1).toNat) (⟨e9.A,1000000,e9.Sent⟩:G.Credit)
 k8 l10) none)
 (k8 l5)) none) none) none))) fun k2=>
 cond (!(SD a0))
 (k2 true)
 (cond (!(oB a1))
 (k2 true)
 (k2 (!(iA a2 0 1000000))))) none
def BO.raw (a0:List UInt8):Option (G.Frame × Bool):=
 cond ((a0.length:Int)==0)
 (some ((⟨0,0,[],[],0,[],[],0,0,[],[]⟩:G.Frame),false))
 (ob (pA a0 0) fun e1=>
 let x2:Int:=IntKind.wrap .i64 ((e1.toNat:Nat):Int)
 aA (fun (y3:G.Frame × G.Frame)=>
 ob (RL.raw y3.2) fun r28=>
 cond (Nat.ble r28.length bA) (cond (Nat.ble a0.length bA) (cond (!(r28==a0))
 (some ((⟨0,0,[],[],0,[],[],0,0,[],[]⟩:G.Frame),false))
 (some (y3.2,true))) none) none) fun k4=>
 cond (x2==1)
 (cond ((a0.length:Int) !=34)
 (some ((⟨0,0,[],[],0,[],[],0,0,[],[]⟩:G.Frame),false))
 (ob (pA a0 1) fun e5=>
 let x6:Int:=IntKind.wrap .i64 ((e5.toNat:Nat):Int)
 cond (decide (0≤(2:Int))&&decide ((2:Int)≤14)&&decide (14≤(a0.length:Int))) (let l7:List UInt8:=List.take 12 (List.drop 2 a0)
 cond (decide (([]:List UInt8).length+l7.length≤bA)) (k4 ((⟨0,0,[],[],0,[],[],0,0,[],[]⟩:G.Frame),(⟨x2,x6,[]++l7,[],0,[],[],0,0,[],[]⟩:G.Frame))) none) none))
 (aA (fun (y8:G.Frame × G.Frame)=>
 k4 (y8.1,y8.2)) fun k9=>
 cond (x2==2)
 (cond ((a0.length:Int) !=45)
 (some ((⟨0,0,[],[],0,[],[],0,0,[],[]⟩:G.Frame),false))
 (cond (decide (0≤(1:Int))&&decide ((1:Int)≤13)&&decide (13≤(a0.length:Int))) (let l10:List UInt8:=List.take 12 (List.drop 1 a0)
 cond (decide (([]:List UInt8).length+l10.length≤bA)) (cond (decide (0≤(13:Int))&&decide ((13:Int)≤25)&&decide (25≤(a0.length:Int))) (let l11:List UInt8:=List.take 12 (List.drop 13 a0)
 cond (decide (([]:List UInt8).length+l11.length≤bA)) (ob (CH a0 25 4) fun r12=>
 cond (decide (0≤(29:Int))&&decide ((29:Int)≤(a0.length:Int))&&decide ((a0.length:Int)≤(a0.length:Int))) (let l13:List UInt8:=List.take (((a0.length:Int) - 29).toNat) (List.drop 29 a0)
 cond (decide (([]:List UInt8).length+l13.length≤bA)) (k9 ((⟨0,0,[],[],0,[],[],0,0,[],[]⟩:G.Frame),(⟨x2,0,[]++l10,[]++l11,r12.1,[]++l13,[],0,0,[],[]⟩:G.Frame))) none) none) none) none) none) none))
 (aA (fun (y14:G.Frame × G.Frame)=>
 k9 (y14.1,y14.2)) fun k15=>
 cond (x2==3)
 (cond ((a0.length:Int) !=62)
 (some ((⟨0,0,[],[],0,[],[],0,0,[],[]⟩:G.Frame),false))
 (ob (pA a0 1) fun e16=>
 let x17:Int:=IntKind.wrap .i64 ((e16.toNat:Nat):Int)
 cond (decide (0≤(2:Int))&&decide ((2:Int)≤14)&&decide (14≤(a0.length:Int))) (let l18:List UInt8:=List.take 12 (List.drop 2 a0)
 cond (decide (([]:List UInt8).length+l18.length≤bA)) (cond (decide (0≤(14:Int))&&decide ((14:Int)≤26)&&decide (26≤(a0.length:Int))) (let l19:List UInt8:=List.take 12 (List.drop 14 a0)
 cond (decide (([]:List UInt8).length+l19.length≤bA)) (ob (CH a0 26 4) fun r20=>
 cond (decide (0≤(30:Int))&&decide ((30:Int)≤46)&&decide (46≤(a0.length:Int))) (let l21:List UInt8:=List.take 16 (List.drop 30 a0)
 cond (decide (([]:List UInt8).length+l21.length≤bA)) (cond (decide (0≤(46:Int))&&decide ((46:Int)≤(a0.length:Int))&&decide ((a0.length:Int)≤(a0.length:Int))) (let l22:List UInt8:=List.take (((a0.length:Int) - 46).toNat) (List.drop 46 a0)
 cond (decide (([]:List UInt8).length+l22.length≤bA)) (k15 ((⟨0,0,[],[],0,[],[],0,0,[],[]⟩:G.Frame),(⟨x2,x17,[]++l18,[]++l19,r20.1,[]++l21,[]++l22,0,0,[],[]⟩:G.Frame))) none) none) none) none) none) none) none) none))
 (cond (decide ((a0.length:Int)<39))
 (some ((⟨0,0,[],[],0,[],[],0,0,[],[]⟩:G.Frame),false))
 (cond (decide (0≤(1:Int))&&decide ((1:Int)≤13)&&decide (13≤(a0.length:Int))) (let l23:List UInt8:=List.take 12 (List.drop 1 a0)
 cond (decide (([]:List UInt8).length+l23.length≤bA)) (ob (CH a0 13 4) fun r24=>
 ob (CH a0 17 6) fun r25=>
 cond (decide (0≤(23:Int))&&decide ((23:Int)≤39)&&decide (39≤(a0.length:Int))) (let l26:List UInt8:=List.take 16 (List.drop 23 a0)
 cond (decide (([]:List UInt8).length+l26.length≤bA)) (cond (decide (0≤(39:Int))&&decide ((39:Int)≤(a0.length:Int))&&decide ((a0.length:Int)≤(a0.length:Int))) (let l27:List UInt8:=List.take (((a0.length:Int) - 39).toNat) (List.drop 39 a0)
 cond (decide (([]:List UInt8).length+l27.length≤bA)) (k15 ((⟨0,0,[],[],0,[],[],0,0,[],[]⟩:G.Frame),(⟨x2,0,[],[]++l23,0,[],[],r24.1,r25.1,[]++l27,[]++l26⟩:G.Frame))) none) none) none) none) none) none)))))
def qO.raw (a0:G.Tab) (a1:G.Addr):Option Bool:=
 aA (fun (y1:Unit)=>
 some false) fun k2=>
 tA FU (fun (x3:Int) k4=>
 cond (decide (x3<(a0.L.length:Int)))
 (aA (fun (y5:Bool)=>
 cond (y5)
 (some true)
 (k4 (cA .i64 x3 1))) fun k6=>
 ob (pA a0.L x3) fun e7=>
 cond (!e7.Dead)
 (ob (pA a0.L x3) fun e8=>
 let x9:Bool:=cond (e8.P.At.Host==a1.Host) (cond (e8.P.At.Port==a1.Port) (true) false) false
 k6 x9)
 (k6 false))
 (k2 ())) 0
def MO.raw (a0:List G.Credit) (a1:G.Addr):Option Int:=
 aA (fun (y1:Bool)=>
 cond (y1)
 (some 0)
 (ob (pA a0 (BB a0 a1)) fun e3=>
 ob (pA a0 (BB a0 a1)) fun e4=>
 some (sA .i64 (LB .i64 3 e3.Got) e4.Sent))) fun k2=>
 cond (!(SD a0))
 (k2 true)
 (k2 (decide ((BB a0 a1)<0)))
def EO.raw (a0:G.Server) (a1:G.Addr) (a2:Int):Option Bool:=
 aA (fun (y1:Bool)=>
 some y1) fun k2=>
 ob (qO.raw a0.T a1) fun r3=>
 cond (r3)
 (k2 true)
 (ob (MO.raw a0.Cr a1) fun r4=>
 k2 (decide (r4≥a2)))
def uT.raw (a0:List UInt8) (a1:G.Addr):Option (List UInt8):=
 cond (!(oB a1))
 (cond (decide (([]:List UInt8).length+a0.length≤bA)) (some ([]++a0)) none)
 (ob (LC a0 a1.Host 4) fun r1=>
 ob (LC r1 a1.Port 2) fun r2=>
 some r2)
def KL.raw (a0:G.Addr) (a1:Int) (a2:List UInt8) (a3:List UInt8) (a4:Int):Option (List UInt8):=
 aA (fun (y1:Bool)=>
 cond (y1)
 (some [])
 (ob (uT.raw [UInt8.ofNat (99:Int).toNat] a0) fun r3=>
 cond (decide (r3.length+[UInt8.ofNat (IntKind.wrap .u8 a1:Int).toNat].length≤bA)) (cond (decide ((r3++[UInt8.ofNat (IntKind.wrap .u8 a1:Int).toNat]).length+a2.length≤bA)) (let x4:List UInt8:=(r3++[UInt8.ofNat (IntKind.wrap .u8 a1:Int).toNat])++a2
 cond (decide (x4.length+a3.length≤bA)) (ob (LC (x4++a3) a4 4) fun r5=>
 some r5) none) none) none)) fun k2=>
 cond (!(oB a0))
 (k2 true)
 (cond (!(iA a1 1 9))
 (k2 true)
 (cond ((a2.length:Int) !=12)
 (k2 true)
 (cond ((a3.length:Int) !=12)
 (k2 true)
 (k2 (!(iA a4 0 1000000))))))
def FO.raw (a0:G.Jar) (a1:G.Addr) (a2:Int) (a3:List UInt8) (a4:List UInt8) (a5:Int):Option (List UInt8):=
 ob (KL.raw a1 a2 a3 a4 a5) fun r1=>
 aA (fun (y2:Bool)=>
 cond (y2)
 (some [])
 (ob (KI.raw a0.Secret r1) fun r4=>
 some r4)) fun k3=>
 cond (!(xE a0))
 (k3 true)
 (k3 ((r1.length:Int)==0))
def fT.raw (a0:Int) (a1:Int):Option Bool:=
 aA (fun (y1:Bool)=>
 some y1) fun k2=>
 cond ((iA a0 0 1000000))
 (cond ((iA a1 0 1000000))
 (k2 (iA (sA .i64 a0 a1) 0 10))
 (k2 false))
 (k2 false)
def VS.raw (a0:List UInt8) (a1:List UInt8):Option Int:=
 cond ((a0.length:Int) !=(a1.length:Int))
 (some (-1))
 (aA (fun (y1:Int)=>
 some y1) fun k2=>
 tA FU (fun (x3:Int × Int) k4=>
 cond (decide (x3.2<(a0.length:Int)))
 (ob (pA a0 x3.2) fun e5=>
 ob (pA a1 x3.2) fun e6=>
 let x7:Int:=bC .u8 ((e5.toNat:Nat):Int) ((e6.toNat:Nat):Int)
 k4 ((YR .i64 x3.1 (IntKind.wrap .i64 x7)),(cA .i64 x3.2 1)))
 (k2 x3.1)) (0,0))
def UL.raw (a0:List UInt8) (a1:List UInt8):Option Bool:=
 aA (fun (y1:Bool)=>
 some y1) fun k2=>
 cond ((a0.length:Int)==16)
 (ob (VS.raw a0 a1) fun r3=>
 k2 (r3==0))
 (k2 false)
def nT.raw (a0:G.Jar) (a1:Int) (a2:G.Addr) (a3:G.Frame):Option Int:=
 aA (fun (y1:Bool)=>
 cond (y1)
 (some 1)
 (ob (fT.raw a1 a3.Tick) fun r3=>
 cond (!r3)
 (some 9)
 (ob (FO.raw a0 a2 a3.Id a3.Cn a3.Sn a3.Tick) fun r4=>
 ob (UL.raw a3.Cookie r4) fun r5=>
 cond (!r5)
 (some 2)
 (some 0)))) fun k2=>
 cond (!(xE a0))
 (k2 true)
 (cond (!(iA a1 0 1000000))
 (k2 true)
 (cond (!(oB a2))
 (k2 true)
 (cond (!(qD a3))
 (k2 true)
 (k2 (a3.Kind !=3)))))
def yO.raw (a0:List UInt8) (a1:List UInt8):Option (List UInt8):=
 let r1:(List UInt8):=FD a0 a1
 some r1
def EL.raw (a0:List UInt8):Option (List UInt8):=
 cond (!(mC a0))
 (some [])
 (let x1:List UInt8:=[UInt8.ofNat (114:Int).toNat,UInt8.ofNat (111:Int).toNat,UInt8.ofNat (97:Int).toNat,UInt8.ofNat (109:Int).toNat]
 ob (yO.raw x1 a0) fun r2=>
 ob (jF r2 [102,105,110,105,115,104]) fun r3=>
 some r3)
def QL.raw (a0:Int) (a1:List UInt8) (a2:List UInt8) (a3:Int) (a4:List UInt8):Option (List UInt8):=
 aA (fun (y1:Bool)=>
 cond (y1)
 (some [])
 (let x3:List UInt8:=[UInt8.ofNat (102:Int).toNat,UInt8.ofNat (IntKind.wrap .u8 a0:Int).toNat]
 cond (decide (x3.length+a1.length≤bA)) (cond (decide ((x3++a1).length+a2.length≤bA)) (ob (LC ((x3++a1)++a2) a3 4) fun r4=>
 cond (decide (r4.length+a4.length≤bA)) (some (r4++a4)) none) none) none)) fun k2=>
 cond (!(iA a0 1 9))
 (k2 true)
 (cond ((a1.length:Int) !=12)
 (k2 true)
 (cond ((a2.length:Int) !=12)
 (k2 true)
 (cond (!(iA a3 0 1000000))
 (k2 true)
 (k2 ((a4.length:Int) !=16)))))
def KO.raw (a0:List UInt8) (a1:Int) (a2:List UInt8) (a3:List UInt8) (a4:Int) (a5:List UInt8):Option (List UInt8):=
 ob (EL.raw a0) fun r1=>
 ob (QL.raw a1 a2 a3 a4 a5) fun r2=>
 aA (fun (y3:Bool)=>
 cond (y3)
 (some [])
 (ob (KI.raw r1 r2) fun r5=>
 some r5)) fun k4=>
 cond ((r1.length:Int)==0)
 (k4 true)
 (k4 ((r2.length:Int)==0))
def sT.raw (a0:List UInt8) (a1:G.Frame):Option Bool:=
 aA (fun (y1:Bool)=>
 some y1) fun k2=>
 cond ((qD a1))
 (cond (a1.Kind==3)
 (ob (KO.raw a0 a1.Id a1.Cn a1.Sn a1.Tick a1.Cookie) fun r3=>
 ob (UL.raw a1.Proof r3) fun r4=>
 k2 r4)
 (k2 false))
 (k2 false)
def yT.raw (a0:List UInt8) (a1:List UInt8) (a2:List UInt8):Option (List UInt8):=
 aA (fun (y1:Bool)=>
 cond (y1)
 (some [])
 (cond (decide (([]:List UInt8).length+a1.length≤bA)) (cond (decide (([]++a1).length+a2.length≤bA)) (ob (yO.raw (([]++a1)++a2) a0) fun r3=>
 some r3) none) none)) fun k2=>
 cond (!(mC a0))
 (k2 true)
 (cond ((a1.length:Int) !=12)
 (k2 true)
 (k2 ((a2.length:Int) !=12)))
def dT.raw (a0:List UInt8):Option (List UInt8):=
 cond ((a0.length:Int) !=32)
 (some [])
 (ob (jF a0 [101,112,111,99,104]) fun r1=>
 some r1)
def PS.raw (a0:List UInt8) (a1:Int):Option (List UInt8):=
 cond (!(iA a1 0 64))
 (some [])
 (cond (decide (([]:List UInt8).length+a0.length≤bA)) (aA (fun (y1:(List UInt8))=>
 some y1) fun k2=>
 tA FU (fun (x3:(List UInt8) × Int) k4=>
 cond (decide (x3.2<a1))
 (ob (jF x3.1 [114,101,107,101,121]) fun r5=>
 k4 (r5,(cA .i64 x3.2 1)))
 (k2 x3.1)) (([]++a0),0)) none)
def xO.raw (a0:List UInt8) (a1:List UInt8) (a2:List UInt8) (a3:Int):Option (List UInt8):=
 ob (yT.raw a0 a1 a2) fun r1=>
 ob (dT.raw r1) fun r2=>
 cond ((r2.length:Int)==0)
 (some r2)
 (ob (PS.raw r2 a3) fun r3=>
 some r3)
def VO.raw:Option G.Win:=
 aA (fun (y1:G.Win)=>
 some y1) fun k2=>
 tA FU (fun (x3:Int × G.Win) k4=>
 cond (decide (x3.1<32))
 (cond (decide (x3.2.Bits.length+[0].length≤bA)) (k4 ((cA .i64 x3.1 1),(⟨x3.2.Top,x3.2.Bits++[0]⟩:G.Win))) none)
 (k2 x3.2)) (0,(⟨(-1),[]⟩:G.Win))
def II.raw (a0:Int) (a1:List UInt8):Option G.Ep:=
 aA (fun (y1:Bool)=>
 cond (y1)
 (some (⟨0,[],0,(⟨0,[]⟩:G.Win)⟩:G.Ep))
 (cond (decide (([]:List UInt8).length+a1.length≤bA)) (ob (VO.raw) fun r3=>
 some (⟨a0,[]++a1,0,r3⟩:G.Ep)) none)) fun k2=>
 cond (!(iA a0 0 4294967295))
 (k2 true)
 (k2 ((a1.length:Int) !=32))
def sL.raw (a0:Int) (a1:List UInt8) (a2:List UInt8):Option G.Chan:=
 aA (fun (y1:Bool)=>
 cond (y1)
 (some (⟨0,[],(⟨0,[],0,(⟨0,[]⟩:G.Win)⟩:G.Ep),(⟨0,[],0,(⟨0,[]⟩:G.Win)⟩:G.Ep),false,0,[]⟩:G.Chan))
 (cond (decide (([]:List UInt8).length+a1.length≤bA)) (ob (II.raw 0 a2) fun r3=>
 some (⟨a0,[]++a1,r3,(⟨0,[],0,(⟨0,[]⟩:G.Win)⟩:G.Ep),false,0,[]⟩:G.Chan)) none)) fun k2=>
 cond (!(iA a0 0 1))
 (k2 true)
 (cond ((a1.length:Int) !=12)
 (k2 true)
 (k2 ((a2.length:Int) !=32)))
def JO.raw (a0:G.Addr):Option G.Paths:=
 some (⟨a0,[]⟩:G.Paths)
def OO.raw (a0:List UInt8) (a1:Int) (a2:G.Addr) (a3:G.Frame):Option G.Sess:=
 aA (fun (y1:Bool)=>
 cond (y1)
 (some (⟨0,[],[],(⟨0,[],(⟨0,[],0,(⟨0,[]⟩:G.Win)⟩:G.Ep),(⟨0,[],0,(⟨0,[]⟩:G.Win)⟩:G.Ep),false,0,[]⟩:G.Chan),(⟨(⟨0,0⟩:G.Addr),[]⟩:G.Paths),0,0,false⟩:G.Sess))
 (cond (decide (([]:List UInt8).length+a3.Cn.length≤bA)) (cond (decide (([]:List UInt8).length+a3.Sn.length≤bA)) (ob (xO.raw a0 a3.Cn a3.Sn 0) fun r3=>
 ob (sL.raw 1 a3.Sn r3) fun r4=>
 ob (JO.raw a2) fun r5=>
 some (⟨a3.Id,[]++a3.Cn,[]++a3.Sn,r4,r5,a3.Tick,a1,false⟩:G.Sess)) none) none)) fun k2=>
 cond (!(mC a0))
 (k2 true)
 (cond (!(iA a1 0 1000000))
 (k2 true)
 (cond (!(oB a2))
 (k2 true)
 (cond (!(qD a3))
 (k2 true)
 (k2 (a3.Kind !=3)))))
def oL.raw (a0:G.Tab) (a1:G.Sess):Option (G.Tab × Int):=
 ob (KA a0) fun r1=>
 aA (fun (y2:Bool)=>
 cond (y2)
 (some (r1,1))
 (ob (pD a0 a1.Sn) fun r6=>
 cond (decide (r6≥0))
 (some (r1,3))
 (aA (fun (y7:Bool)=>
 cond (y7)
 (some (r1,7))
 (ob (KA a1) fun r10=>
 cond (decide (r1.L.length+[r10].length≤bA)) (some ((⟨r1.Cap,r1.L++[r10]⟩:G.Tab),0)) none)) fun k8=>
 ob (VG a0) fun r9=>
 cond (r9==a0.Cap)
 (k8 true)
 (k8 ((a0.L.length:Int)==12))))) fun k3=>
 ob (kH a0) fun r4=>
 cond (!r4)
 (k3 true)
 (ob (XD a1) fun r5=>
 cond (!r5)
 (k3 true)
 (k3 a1.Dead))
def NJ.raw (a0:List UInt8) (a1:List UInt8) (a2:List UInt8):Option G.Note:=
 cond (decide (([]:List UInt8).length+a0.length≤bA)) (cond (decide (([]:List UInt8).length+a1.length≤bA)) (cond (decide (([]:List UInt8).length+a2.length≤bA)) (some (⟨16,0,0,[],[]++a1,0,0,[]++a2,[]++a0,(⟨0,0⟩:G.Addr),0⟩:G.Note)) none) none) none
def oO.raw (a0:G.Chan):Option (G.Chan × G.Frame × Int):=
 aA (fun (y1:Bool)=>
 cond (y1)
 (ob (KA a0) fun r4=>
 some (r4,(⟨0,0,[],[],0,[],[],0,0,[],[]⟩:G.Frame),6))
 (ob (KJ.raw a0.Cur.N) fun r5=>
 ob (SH.raw a0 8 r5) fun r6=>
 some (r6.1,r6.2.1,r6.2.2))) fun k2=>
 ob (yC a0) fun r3=>
 cond (!r3)
 (k2 true)
 (k2 (a0.Role !=1))
def FT.raw (a0:G.Sess):Option (G.Sess × (List G.Out) × (List G.Note)):=
 ob (KA a0) fun r1=>
 aA (fun (y2:Bool)=>
 cond (y2)
 (some (r1,[],[]))
 (ob (oO.raw a0.C) fun r5=>
 cond (r5.2.2 !=0)
 (some (r1,[],[]))
 (ob (tG.raw r5.1 r5.2.1) fun r6=>
 some ((⟨r1.Id,r1.Cn,r1.Sn,r5.1,r1.P,r1.Tick,r1.Last,r1.Dead⟩:G.Sess),[(⟨a0.P.At,r5.2.1⟩:G.Out)],[r6])))) fun k3=>
 ob (XD a0) fun r4=>
 cond (!r4)
 (k3 true)
 (cond (a0.Dead)
 (k3 true)
 (k3 (a0.C.Cur.N !=0)))
def PU.raw (a0:Int):Option Int:=
 cond (decide (a0<1024))
 (some 0)
 (some (cA .i64 (sA .i64 a0 1024) 1))
def UO.raw (a0:G.Win) (a1:Int):Option Bool:=
 aA (fun (y1:Bool)=>
 cond (y1)
 (some false)
 (aA (fun (y3:Bool)=>
 some y3) fun k4=>
 cond (decide (a1>a0.Top))
 (k4 true)
 (ob (PU.raw a0.Top) fun r5=>
 cond (decide (a1≥r5))
 (ob (KE a0 a1) fun r6=>
 k4 (!r6))
 (k4 false)))) fun k2=>
 cond (!(lE a0))
 (k2 true)
 (k2 (!(iA a1 0 281474976710655)))
def RT.raw (a0:List UInt8) (a1:Int) (a2:G.Frame):Option ((List UInt8) × Bool):=
 ob (fH.raw a1 a2) fun r1=>
 aA (fun (y2:Bool)=>
 cond (y2)
 (some ([],false))
 (ob (JJ.raw a1 a2.Sn a2.Epoch a2.Seq) fun r6=>
 ob (LL.raw a0 r6 a2.Body) fun r7=>
 some (r7,true))) fun k3=>
 cond ((a0.length:Int) !=32)
 (k3 true)
 (cond ((r1.length:Int)==0)
 (k3 true)
 (ob (KI.raw a0 r1) fun r4=>
 ob (UL.raw a2.Tag r4) fun r5=>
 k3 (!r5)))
def TO.raw (a0:G.Win) (a1:Int):Option (G.Win × Bool):=
 ob (KA a0) fun r1=>
 ob (UO.raw a0 a1) fun r2=>
 cond (!r2)
 (some (r1,false))
 (aA (fun (y3:G.Win)=>
 cond (decide (0≤SC .i64 (GA .i64 a1 1024) 32)&&decide (SC .i64 (GA .i64 a1 1024) 32<(y3.Bits.length:Int))) (ob (y3.Bits[(SC .i64 (GA .i64 a1 1024) 32).toNat]?) fun e13=>
 cond (decide ((GA .i64 (GA .i64 a1 1024) 32)<0)) none (let x14:Int:=aS .i64 1 (GA .i64 (GA .i64 a1 1024) 32)
 cond (decide (0≤SC .i64 (GA .i64 a1 1024) 32)&&decide (SC .i64 (GA .i64 a1 1024) 32<(y3.Bits.length:Int))) (ob (y3.Bits[(SC .i64 (GA .i64 a1 1024) 32).toNat]?) fun e15=>
 let l16:List Int:=List.set y3.Bits ((SC .i64 (GA .i64 a1 1024) 32).toNat) (YR .i64 e13 x14)
 aA (fun (y17:G.Win)=>
 some (y17,true)) fun k18=>
 cond (decide (a1>a0.Top))
 (k18 (⟨a1,l16⟩:G.Win))
 (k18 (⟨y3.Top,l16⟩:G.Win))) none)) none) fun k4=>
 tA FU (fun (x5:Int × Int × G.Win) k6=>
 aA (fun (y7:Bool)=>
 cond (y7)
 (cond (decide (0≤SC .i64 (GA .i64 x5.2.1 1024) 32)&&decide (SC .i64 (GA .i64 x5.2.1 1024) 32<(x5.2.2.Bits.length:Int))) (ob (x5.2.2.Bits[(SC .i64 (GA .i64 x5.2.1 1024) 32).toNat]?) fun e9=>
 cond (decide ((GA .i64 (GA .i64 x5.2.1 1024) 32)<0)) none (let x10:Int:=aS .i64 1 (GA .i64 (GA .i64 x5.2.1 1024) 32)
 cond (decide (0≤SC .i64 (GA .i64 x5.2.1 1024) 32)&&decide (SC .i64 (GA .i64 x5.2.1 1024) 32<(x5.2.2.Bits.length:Int))) (ob (x5.2.2.Bits[(SC .i64 (GA .i64 x5.2.1 1024) 32).toNat]?) fun e11=>
 let l12:List Int:=List.set x5.2.2.Bits ((SC .i64 (GA .i64 x5.2.1 1024) 32).toNat) (zqh .i64 e9 x10)
 k6 ((cA .i64 x5.1 1),(cA .i64 x5.2.1 1),(⟨x5.2.2.Top,l12⟩:G.Win))) none)) none)
 (k4 x5.2.2)) fun k8=>
 cond (decide (x5.2.1≤a1))
 (k8 (decide (x5.1<1024)))
 (k8 false)) (0,(cA .i64 a0.Top 1),r1))
def BL.raw (a0:G.Ep) (a1:Int) (a2:G.Frame):Option (G.Ep × (List UInt8) × Int):=
 ob (KA a0) fun r1=>
 aA (fun (y2:Bool)=>
 cond (y2)
 (some (r1,[],1))
 (ob (UO.raw a0.Win a2.Seq) fun r5=>
 cond (!r5)
 (some (r1,[],3))
 (ob (RT.raw a0.Key a1 a2) fun r6=>
 cond (!r6.2)
 (some (r1,[],2))
 (ob (TO.raw a0.Win a2.Seq) fun r7=>
 some ((⟨r1.N,r1.Key,r1.Seq,r7.1⟩:G.Ep),r6.1,0))))) fun k3=>
 cond (!(fE a0))
 (k3 true)
 (ob (fH.raw a1 a2) fun r4=>
 cond ((r4.length:Int)==0)
 (k3 true)
 (k3 (a2.Epoch !=a0.N)))
def rO.raw (a0:G.Chan) (a1:Int) (a2:G.Frame):Option (G.Chan × (List UInt8) × Int):=
 ob (KA a0) fun r1=>
 aA (fun (y2:Bool)=>
 cond (y2)
 (some (r1,[],1))
 (ob (eB a2.Sn a0.Sn) fun r5=>
 cond (!r5)
 (some (r1,[],8))
 (cond (a2.Epoch==a0.Cur.N)
 (ob (BL.raw a0.Cur (sA .i64 1 a0.Role) a2) fun r6=>
 cond (r6.2.2 !=0)
 (some (r1,[],r6.2.2))
 (aA (fun (y7:Bool)=>
 aA (fun (y9:G.Chan)=>
 some (y9,r6.2.1,0)) fun k10=>
 cond (y7)
 (k10 (⟨r1.Role,r1.Sn,r6.1,r1.Old,r1.HasOld,cA .i64 a1 5,r1.Next⟩:G.Chan))
 (k10 (⟨r1.Role,r1.Sn,r6.1,r1.Old,r1.HasOld,r1.Until,r1.Next⟩:G.Chan))) fun k8=>
 cond (a0.HasOld)
 (k8 (a0.Until==(-1)))
 (k8 false)))
 (aA (fun (y11:Bool)=>
 cond (y11)
 (aA (fun (y13:Bool)=>
 cond (y13)
 (some (r1,[],9))
 (ob (BL.raw a0.Old (sA .i64 1 a0.Role) a2) fun r15=>
 cond (r15.2.2 !=0)
 (some (r1,[],r15.2.2))
 (some ((⟨r1.Role,r1.Sn,r1.Cur,r15.1,r1.HasOld,r1.Until,r1.Next⟩:G.Chan),r15.2.1,0)))) fun k14=>
 cond (a0.Until !=(-1))
 (k14 (decide (a1>a0.Until)))
 (k14 false))
 (aA (fun (y16:Bool)=>
 cond (y16)
 (ob (II.raw (cA .i64 a0.Cur.N 1) a0.Next) fun r18=>
 ob (BL.raw r18 (sA .i64 1 a0.Role) a2) fun r19=>
 cond (r19.2.2 !=0)
 (some (r1,[],r19.2.2))
 (some ((⟨r1.Role,r1.Sn,r19.1,r1.Cur,true,cA .i64 a1 5,[]⟩:G.Chan),r19.2.1,0)))
 (some (r1,[],8))) fun k17=>
 cond (decide ((a0.Next.length:Int)>0))
 (k17 (a2.Epoch==(cA .i64 a0.Cur.N 1)))
 (k17 false))) fun k12=>
 cond (a0.HasOld)
 (k12 (a2.Epoch==a0.Old.N))
 (k12 false))))) fun k3=>
 ob (yC a0) fun r4=>
 cond (!r4)
 (k3 true)
 (cond (!(iA a1 0 1000000))
 (k3 true)
 (cond (!(qD a2))
 (k3 true)
 (k3 (!(GC a2.Kind)))))
def DO.raw (a0:G.Chan) (a1:Int):Option ((List UInt8) × Bool):=
 ob (yC a0) fun r1=>
 cond (!r1)
 (some ([],false))
 (aA (fun (y2:Bool)=>
 cond (y2)
 (cond (decide (([]:List UInt8).length+a0.Old.Key.length≤bA)) (some ([]++a0.Old.Key,true)) none)
 (cond (a1==a0.Cur.N)
 (cond (decide (([]:List UInt8).length+a0.Cur.Key.length≤bA)) (some ([]++a0.Cur.Key,true)) none)
 (aA (fun (y4:Bool)=>
 cond (y4)
 (cond (decide (([]:List UInt8).length+a0.Next.length≤bA)) (some ([]++a0.Next,true)) none)
 (some ([],false))) fun k5=>
 cond (decide ((a0.Next.length:Int)>0))
 (k5 (a1==(cA .i64 a0.Cur.N 1)))
 (k5 false)))) fun k3=>
 cond (a0.HasOld)
 (k3 (a1==a0.Old.N))
 (k3 false))
def MS.raw (a0:G.Paths) (a1:Int) (a2:G.Addr) (a3:List UInt8):Option (G.Paths × Bool):=
 ob (lQ a0 a2) fun r1=>
 aA (fun (y2:Bool)=>
 cond (y2)
 (ob (KA a0) fun r5=>
 some (r5,false))
 (aA (fun (y6:G.Paths)=>
 some (y6,true)) fun k7=>
 tA FU (fun (x8:Int × G.Paths) k9=>
 cond (decide (x8.1<(a0.Cands.length:Int)))
 (ob (pA a0.Cands x8.1) fun e10=>
 let x11:Bool:=!(cond (e10.A.Host==a2.Host) (cond (e10.A.Port==a2.Port) (true) false) false)
 aA (fun (y12:G.Paths)=>
 k9 ((cA .i64 x8.1 1),y12)) fun k13=>
 cond (x11)
 (ob (pA a0.Cands x8.1) fun e14=>
 ob (gI e14) fun r15=>
 cond (decide (x8.2.Cands.length+[r15].length≤bA)) (k13 (⟨x8.2.At,x8.2.Cands++[r15]⟩:G.Paths)) none)
 (k13 x8.2))
 (k7 x8.2)) (0,(⟨a2,[]⟩:G.Paths)))) fun k3=>
 cond (!r1.2)
 (k3 true)
 (cond (!(iA a1 0 1000000))
 (k3 true)
 (ob (eB r1.1.Draw a3) fun r4=>
 cond (!r4)
 (k3 true)
 (k3 (decide (a1>r1.1.Until)))))
def QT.raw (a0:G.Chan):Option (G.Chan × Bool):=
 ob (KA a0) fun r1=>
 aA (fun (y2:Bool)=>
 cond (y2)
 (some (r1,false))
 (ob (jF a0.Cur.Key [114,101,107,101,121]) fun r5=>
 ob (II.raw (cA .i64 a0.Cur.N 1) r5) fun r6=>
 some ((⟨r1.Role,r1.Sn,r6,r1.Cur,true,(-1),r1.Next⟩:G.Chan),true))) fun k3=>
 ob (yC a0) fun r4=>
 cond (!r4)
 (k3 true)
 (cond (a0.Role !=1)
 (k3 true)
 (k3 (a0.Cur.N==4294967295)))
def jT.raw (a0:G.Chan) (a1:Int) (a2:List UInt8):Option (G.Chan × Int):=
 ob (KA a0) fun r1=>
 aA (fun (y2:Bool)=>
 cond (y2)
 (some (r1,6))
 (cond (a1==a0.Cur.N)
 (ob (QT.raw a0) fun r7=>
 cond (!r7.2)
 (some (r1,6))
 (some (r7.1,0)))
 (cond (a1==(sA .i64 a0.Cur.N 1))
 (some (r1,0))
 (some (r1,6))))) fun k3=>
 ob (yC a0) fun r4=>
 cond (!r4)
 (k3 true)
 (cond (a0.Role !=1)
 (k3 true)
 (cond (!(iA a1 0 4294967294))
 (k3 true)
 (ob (KJ.raw (cA .i64 a1 1)) fun r5=>
 ob (eB a2 r5) fun r6=>
 k3 (!r6))))
def GO.raw (a0:G.Paths) (a1:Int) (a2:G.Addr) (a3:List UInt8):Option (G.Paths × Bool):=
 aA (fun (y1:Bool)=>
 cond (y1)
 (ob (KA a0) fun r4=>
 some (r4,false))
 (ob (HO.raw a0 a1) fun r5=>
 aA (fun (y6:G.Paths)=>
 cond ((r5.Cands.length:Int)==3)
 (ob (KA a0) fun r13=>
 some (r13,false))
 (cond (decide (([]:List UInt8).length+a3.length≤bA)) (cond (decide (r5.Cands.length+[(⟨a2,[]++a3,cA .i64 a1 6⟩:G.Cand)].length≤bA)) (some ((⟨r5.At,r5.Cands++[(⟨a2,[]++a3,cA .i64 a1 6⟩:G.Cand)]⟩:G.Paths),true)) none) none)) fun k7=>
 tA FU (fun (x8:Int × G.Paths) k9=>
 cond (decide (x8.1<(r5.Cands.length:Int)))
 (cond (decide (0≤x8.1)&&decide (x8.1<(r5.Cands.length:Int))) (ob (r5.Cands[x8.1.toNat]?) fun e10=>
 let x11:Bool:=cond (e10.A.Host==a2.Host) (cond (e10.A.Port==a2.Port) (true) false) false
 cond (x11)
 (ob (KA a0) fun r12=>
 some (r12,false))
 (k9 ((cA .i64 x8.1 1),x8.2))) none)
 (k7 x8.2)) (0,(⟨(⟨0,0⟩:G.Addr),[]⟩:G.Paths)))) fun k2=>
 cond (!(sD a0))
 (k2 true)
 (cond (!(iA a1 0 1000000))
 (k2 true)
 (cond (!(oB a2))
 (k2 true)
 (cond ((a3.length:Int) !=12)
 (k2 true)
 (let x3:Bool:=cond (a2.Host==a0.At.Host) (cond (a2.Port==a0.At.Port) (true) false) false
 k2 x3))))
def GT.raw (a0:G.Sess) (a1:Int) (a2:G.Addr) (a3:G.Frame) (a4:List UInt8):Option (G.Sess × (List G.Out) × (List G.Note) × Bool):=
 ob (KA a0) fun r1=>
 aA (fun (y2:Bool)=>
 cond (y2)
 (some (r1,[],[],false))
 (ob (rO.raw a0.C a1 a3) fun r5=>
 cond (r5.2.2 !=0)
 (some (r1,[],[],false))
 (ob (DO.raw a0.C a3.Epoch) fun r6=>
 ob (fH.raw 0 a3) fun r7=>
 ob (NJ.raw r6.1 a0.Sn r7) fun r8=>
 cond (decide (([]:List G.Note).length+[r8].length≤bA)) (aA (fun (y9:(List G.Out) × (List G.Note) × G.Sess)=>
 ob (GO.raw y9.2.2.P a1 a2 a4) fun r30=>
 ob (SH.raw y9.2.2.C 5 a4) fun r31=>
 aA (fun (y32:Bool)=>
 cond (y32)
 (some (y9.2.2,y9.1,y9.2.1,false))
 (cond (decide (y9.1.length+[(⟨a2,r31.2.1⟩:G.Out)].length≤bA)) (ob (tG.raw r31.1 r31.2.1) fun r34=>
 cond (decide (y9.2.1.length+[r34].length≤bA)) (some ((⟨y9.2.2.Id,y9.2.2.Cn,y9.2.2.Sn,r31.1,r30.1,y9.2.2.Tick,y9.2.2.Last,y9.2.2.Dead⟩:G.Sess),y9.1++[(⟨a2,r31.2.1⟩:G.Out)],y9.2.1++[r34],true)) none) none)) fun k33=>
 cond (!r30.2)
 (k33 true)
 (k33 (r31.2.2 !=0))) fun k10=>
 cond (a3.Kind==4)
 (cond (decide (([]:List UInt8).length+a0.Sn.length≤bA)) (cond (decide (([]:List UInt8).length+r5.2.1.length≤bA)) (let x11:List G.Note:=[(⟨6,0,0,[],[]++a0.Sn,a3.Epoch,a3.Seq,[]++r5.2.1,[],(⟨0,0⟩:G.Addr),a1⟩:G.Note)]
 cond (decide (([]++[r8]).length+x11.length≤bA)) (k10 ([],(([]++[r8])++x11),(⟨r1.Id,r1.Cn,r1.Sn,r5.1,r1.P,r1.Tick,a1,r1.Dead⟩:G.Sess))) none) none) none)
 (aA (fun (y12:(List G.Out) × (List G.Note) × G.Sess)=>
 k10 (y12.1,y12.2.1,y12.2.2)) fun k13=>
 cond (a3.Kind==6)
 (ob (MS.raw r1.P a1 a2 r5.2.1) fun r14=>
 aA (fun (y15:(List G.Note) × G.Sess)=>
 k13 ([],y15.1,y15.2)) fun k16=>
 cond (r14.2)
 (cond (decide (([]:List UInt8).length+a0.Sn.length≤bA)) (cond (decide (([]:List UInt8).length+r5.2.1.length≤bA)) (let x17:List G.Note:=[(⟨9,0,0,[],[]++a0.Sn,0,0,[]++r5.2.1,[],a2,a1⟩:G.Note)]
 cond (decide (([]++[r8]).length+x17.length≤bA)) (k16 ((([]++[r8])++x17),(⟨r1.Id,r1.Cn,r1.Sn,r5.1,r14.1,r1.Tick,a1,r1.Dead⟩:G.Sess))) none) none) none)
 (k16 (([]++[r8]),(⟨r1.Id,r1.Cn,r1.Sn,r5.1,r1.P,r1.Tick,a1,r1.Dead⟩:G.Sess))))
 (aA (fun (y18:(List G.Out) × (List G.Note) × G.Sess)=>
 k13 (y18.1,y18.2.1,y18.2.2)) fun k19=>
 cond (a3.Kind==7)
 (ob (jT.raw r5.1 a3.Epoch r5.2.1) fun r20=>
 aA (fun (y21:(List G.Out) × (List G.Note) × G.Sess)=>
 k19 (y21.1,y21.2.1,y21.2.2)) fun k22=>
 cond (r20.2==0)
 (aA (fun (y23:(List G.Note))=>
 ob (oO.raw r20.1) fun r26=>
 aA (fun (y27:(List G.Out) × (List G.Note) × G.Sess)=>
 k22 (y27.1,y27.2.1,y27.2.2)) fun k28=>
 cond (r26.2.2==0)
 (cond (decide (([]:List G.Out).length+[(⟨r1.P.At,r26.2.1⟩:G.Out)].length≤bA)) (ob (tG.raw r26.1 r26.2.1) fun r29=>
 cond (decide (y23.length+[r29].length≤bA)) (k28 (([]++[(⟨r1.P.At,r26.2.1⟩:G.Out)]),(y23++[r29]),(⟨r1.Id,r1.Cn,r1.Sn,r26.1,r1.P,r1.Tick,a1,r1.Dead⟩:G.Sess))) none) none)
 (k28 ([],y23,(⟨r1.Id,r1.Cn,r1.Sn,r20.1,r1.P,r1.Tick,a1,r1.Dead⟩:G.Sess)))) fun k24=>
 cond (r20.1.Cur.N !=r5.1.Cur.N)
 (cond (decide (([]:List UInt8).length+a0.Sn.length≤bA)) (cond (decide (([]:List UInt8).length+r20.1.Cur.Key.length≤bA)) (let x25:List G.Note:=[(⟨10,0,1,[],[]++a0.Sn,r20.1.Cur.N,0,[],[]++r20.1.Cur.Key,(⟨0,0⟩:G.Addr),0⟩:G.Note)]
 cond (decide (([]++[r8]).length+x25.length≤bA)) (k24 (([]++[r8])++x25)) none) none) none)
 (k24 ([]++[r8])))
 (k22 ([],([]++[r8]),(⟨r1.Id,r1.Cn,r1.Sn,r5.1,r1.P,r1.Tick,a1,r1.Dead⟩:G.Sess))))
 (k19 ([],([]++[r8]),(⟨r1.Id,r1.Cn,r1.Sn,r5.1,r1.P,r1.Tick,a1,r1.Dead⟩:G.Sess)))))) none))) fun k3=>
 ob (XD a0) fun r4=>
 cond (!r4)
 (k3 true)
 (cond (a0.Dead)
 (k3 true)
 (k3 (!(oB a2))))
def JT.raw (a0:G.Frame):Option Int:=
 ob (RL.raw a0) fun r1=>
 some (r1.length:Int)
def PO.raw (a0:List G.Credit) (a1:G.Addr) (a2:Int):Option ((List G.Credit) × Bool):=
 cond (decide (([]:List G.Credit).length+a0.length≤bA)) (aA (fun (y1:Bool)=>
 cond (y1)
 (some ([]++a0,false))
 (cond (decide (0≤(BB a0 a1))&&decide ((BB a0 a1)<(([]++a0).length:Int))) (ob (([]++a0)[(BB a0 a1).toNat]?) fun e4=>
 cond (decide (0≤(BB a0 a1))&&decide ((BB a0 a1)<(([]++a0).length:Int))) (ob (([]++a0)[(BB a0 a1).toNat]?) fun e5=>
 let l6:List G.Credit:=List.set ([]++a0) ((BB a0 a1).toNat) (⟨e5.A,e5.Got,cA .i64 e4.Sent a2⟩:G.Credit)
 some (l6,true)) none) none)) fun k2=>
 cond (decide ((BB a0 a1)<0))
 (k2 true)
 (cond (!(SD a0))
 (k2 true)
 (ob (MO.raw a0 a1) fun r3=>
 k2 (!(iA a2 0 r3))))) none
def vU.raw (a0:G.Server) (a1:List G.Out):Option ((List G.Out) × G.Server):=
 aA (fun (y1:(List G.Out) × G.Server)=>
 some (y1.1,y1.2)) fun k2=>
 tA FU (fun (x3:(List G.Out) × Int × G.Server) k4=>
 cond (decide (x3.2.1<(a1.length:Int)))
 (aA (fun (y5:(List G.Out) × G.Server)=>
 k4 (y5.1,(cA .i64 x3.2.1 1),y5.2)) fun k6=>
 ob (pA a1 x3.2.1) fun e7=>
 ob (qO.raw x3.2.2.T e7.To) fun r8=>
 aA (fun (y9:G.Server)=>
 ob (pA a1 x3.2.1) fun e15=>
 cond (decide (x3.1.length+[e15].length≤bA)) (k6 ((x3.1++[e15]),y9)) none) fun k10=>
 cond (!r8)
 (ob (pA a1 x3.2.1) fun e11=>
 ob (pA a1 x3.2.1) fun e12=>
 ob (JT.raw e12.F) fun r13=>
 ob (PO.raw x3.2.2.Cr e11.To r13) fun r14=>
 cond (!r14.2)
 (k6 (x3.1,x3.2.2))
 (k10 (⟨x3.2.2.Psks,x3.2.2.J,x3.2.2.D,x3.2.2.T,r14.1⟩:G.Server)))
 (k10 x3.2.2))
 (k2 (x3.1,x3.2.2))) ([],0,a0)
def BT.raw (a0:G.Server) (a1:Int) (a2:G.Addr) (a3:List UInt8):Option (G.Server × (List G.Out) × (List G.Note)):=
 ob (KA a0) fun r1=>
 aA (fun (y2:Bool)=>
 cond (y2)
 (some (r1,[],[]))
 (ob (AO.raw a0.Cr a2 (a3.length:Int)) fun r5=>
 ob (BO.raw a3) fun r6=>
 cond (!r6.2)
 (some ((⟨r1.Psks,r1.J,r1.D,r1.T,r5⟩:G.Server),[],[]))
 (aA (fun (y7:(List G.Out) × (List G.Note) × G.Server × G.Server)=>
 ob (vU.raw y7.2.2.1 y7.1) fun r65=>
 some (r65.2,r65.1,y7.2.1)) fun k8=>
 cond (r6.1.Kind==1)
 (aA (fun (y9:Bool)=>
 cond (y9)
 (some ((⟨r1.Psks,r1.J,r1.D,r1.T,r5⟩:G.Server),[],[]))
 (ob (NH a0.D) fun r12=>
 cond (decide (([]:List UInt8).length+r6.1.Cn.length≤bA)) (ob (FO.raw a0.J a2 r6.1.Id r6.1.Cn r12.2 a1) fun r13=>
 ob (KH r12.2) fun r14=>
 ob (KL.raw a2 r6.1.Id r6.1.Cn r12.2 a1) fun r15=>
 ob (JL.raw a0.J.Secret r15) fun r16=>
 cond (decide (([]:List G.Note).length+[r14,r16].length≤bA)) (let x17:List G.Out:=[(⟨a2,(⟨2,0,[]++r6.1.Cn,r12.2,a1,r13,[],0,0,[],[]⟩:G.Frame)⟩:G.Out)]
 cond (decide (([]:List G.Out).length+x17.length≤bA)) (k8 (([]++x17),([]++[r14,r16]),(⟨r1.Psks,r1.J,r12.1,r1.T,r5⟩:G.Server),(⟨[],(⟨[]⟩:G.Jar),(⟨[],0⟩:G.Dice),(⟨0,[]⟩:G.Tab),[]⟩:G.Server))) none) none) none)) fun k10=>
 cond (decide (r6.1.Id>(a0.Psks.length:Int)))
 (k10 true)
 (ob (EO.raw (⟨r1.Psks,r1.J,r1.D,r1.T,r5⟩:G.Server) a2 45) fun r11=>
 cond (!r11)
 (k10 true)
 (k10 (a0.D.N==10000))))
 (aA (fun (y18:(List G.Out) × (List G.Note) × G.Server × G.Server)=>
 k8 (y18.1,y18.2.1,y18.2.2.2,y18.2.2.1)) fun k19=>
 cond (r6.1.Kind==3)
 (aA (fun (y20:Bool)=>
 cond (y20)
 (some ((⟨r1.Psks,r1.J,r1.D,r1.T,r5⟩:G.Server),[],[]))
 (ob (pD a0.T r6.1.Sn) fun r25=>
 aA (fun (y26:(List G.Note) × Int × G.Server × G.Server)=>
 cond (decide (0≤y26.2.1)&&decide (y26.2.1<(y26.2.2.2.T.L.length:Int))) (ob (y26.2.2.2.T.L[y26.2.1.toNat]?) fun e38=>
 aA (fun (y39:Bool)=>
 aA (fun (y42:(List G.Out) × (List G.Note) × G.Server)=>
 k19 (y42.1,y42.2.1,y26.2.2.1,y42.2.2)) fun k43=>
 cond (y39)
 (ob (FT.raw e38) fun r44=>
 cond (decide (0≤y26.2.1)&&decide (y26.2.1<(y26.2.2.2.T.L.length:Int))) (ob (y26.2.2.2.T.L[y26.2.1.toNat]?) fun e45=>
 cond (decide (([]:List G.Out).length+r44.2.1.length≤bA)) (cond (decide (y26.1.length+r44.2.2.length≤bA)) (k43 (([]++r44.2.1),(y26.1++r44.2.2),(⟨y26.2.2.2.Psks,y26.2.2.2.J,y26.2.2.2.D,(⟨y26.2.2.2.T.Cap,List.set y26.2.2.2.T.L y26.2.1.toNat r44.1⟩:G.Tab),y26.2.2.2.Cr⟩:G.Server))) none) none) none)
 (k43 ([],y26.1,y26.2.2.2))) fun k40=>
 cond (!e38.Dead)
 (cond (e38.Id==r6.1.Id)
 (ob (eB e38.Cn r6.1.Cn) fun r41=>
 k40 r41)
 (k40 false))
 (k40 false)) none) fun k27=>
 cond (decide (r25<0))
 (ob (pA a0.Psks (sA .i64 r6.1.Id 1)) fun e28=>
 ob (OO.raw e28 a1 a2 r6.1) fun r29=>
 ob (oL.raw a0.T r29) fun r30=>
 cond (r30.2 !=0)
 (some ((⟨r1.Psks,r1.J,r1.D,r1.T,r5⟩:G.Server),[],[]))
 (ob (KL.raw a2 r6.1.Id r6.1.Cn r6.1.Sn r6.1.Tick) fun r31=>
 ob (NJ.raw a0.J.Secret r6.1.Sn r31) fun r32=>
 cond (decide (([]:List G.Note).length+[r32].length≤bA)) (ob (pA a0.Psks (sA .i64 r6.1.Id 1)) fun e33=>
 ob (EL.raw e33) fun r34=>
 ob (QL.raw r6.1.Id r6.1.Cn r6.1.Sn r6.1.Tick r6.1.Cookie) fun r35=>
 ob (NJ.raw r34 r6.1.Sn r35) fun r36=>
 cond (decide (([]++[r32]).length+[r36].length≤bA)) (cond (decide (([]:List UInt8).length+r6.1.Cn.length≤bA)) (cond (decide (([]:List UInt8).length+r6.1.Sn.length≤bA)) (cond (decide (([]:List UInt8).length+r29.C.Cur.Key.length≤bA)) (let x37:List G.Note:=[(⟨4,r6.1.Id,0,[]++r6.1.Cn,[]++r6.1.Sn,0,0,[],[]++r29.C.Cur.Key,a2,a1⟩:G.Note)]
 cond (decide ((([]++[r32])++[r36]).length+x37.length≤bA)) (k27 (((([]++[r32])++[r36])++x37),(sA .i64 (r30.1.L.length:Int) 1),(⟨[],(⟨[]⟩:G.Jar),(⟨[],0⟩:G.Dice),(⟨0,[]⟩:G.Tab),[]⟩:G.Server),(⟨r1.Psks,r1.J,r1.D,r30.1,r5⟩:G.Server))) none) none) none) none) none) none))
 (k27 ([],r25,(⟨[],(⟨[]⟩:G.Jar),(⟨[],0⟩:G.Dice),(⟨0,[]⟩:G.Tab),[]⟩:G.Server),(⟨r1.Psks,r1.J,r1.D,r1.T,r5⟩:G.Server))))) fun k21=>
 ob (nT.raw a0.J a1 a2 r6.1) fun r22=>
 cond (r22 !=0)
 (k21 true)
 (cond (decide (r6.1.Id>(a0.Psks.length:Int)))
 (k21 true)
 (ob (pA a0.Psks (sA .i64 r6.1.Id 1)) fun e23=>
 ob (sT.raw e23 r6.1) fun r24=>
 k21 (!r24))))
 (aA (fun (y46:(List G.Out) × (List G.Note) × G.Server × G.Server)=>
 k19 (y46.1,y46.2.1,y46.2.2.1,y46.2.2.2)) fun k47=>
 cond ((GC r6.1.Kind))
 (ob (pD a0.T r6.1.Sn) fun r48=>
 aA (fun (y49:Bool)=>
 cond (y49)
 (some ((⟨r1.Psks,r1.J,r1.D,r1.T,r5⟩:G.Server),[],[]))
 (ob (NH a0.D) fun r52=>
 ob (EO.raw (⟨r1.Psks,r1.J,r1.D,r1.T,r5⟩:G.Server) a2 51) fun r53=>
 aA (fun (y54:(List UInt8))=>
 ob (pA a0.T.L r48) fun e56=>
 ob (GT.raw e56 a1 a2 r6.1 y54) fun r57=>
 cond (decide (0≤r48)&&decide (r48<(r1.T.L.length:Int))) (ob (r1.T.L[r48.toNat]?) fun e58=>
 cond (decide (([]:List G.Out).length+r57.2.1.length≤bA)) (aA (fun (y59:(List G.Note) × G.Server)=>
 cond (decide (y59.1.length+r57.2.2.1.length≤bA)) (aA (fun (y62:(List G.Note))=>
 k47 (([]++r57.2.1),y62,(⟨[],(⟨[]⟩:G.Jar),(⟨[],0⟩:G.Dice),(⟨0,[]⟩:G.Tab),[]⟩:G.Server),y59.2)) fun k63=>
 cond (r57.2.2.2)
 (cond (decide (([]:List UInt8).length+r6.1.Sn.length≤bA)) (cond (decide (([]:List UInt8).length+y54.length≤bA)) (let x64:List G.Note:=[(⟨7,0,0,[],[]++r6.1.Sn,0,0,[]++y54,[],a2,a1⟩:G.Note)]
 cond (decide ((y59.1++r57.2.2.1).length+x64.length≤bA)) (k63 ((y59.1++r57.2.2.1)++x64)) none) none) none)
 (k63 (y59.1++r57.2.2.1))) none) fun k60=>
 cond (r57.2.2.2)
 (ob (KH y54) fun r61=>
 cond (decide (([]:List G.Note).length+[r61].length≤bA)) (k60 (([]++[r61]),(⟨r1.Psks,r1.J,r52.1,(⟨r1.T.Cap,List.set r1.T.L r48.toNat r57.1⟩:G.Tab),r5⟩:G.Server))) none)
 (k60 ([],(⟨r1.Psks,r1.J,r1.D,(⟨r1.T.Cap,List.set r1.T.L r48.toNat r57.1⟩:G.Tab),r5⟩:G.Server)))) none) none) fun k55=>
 cond (!r53)
 (k55 [])
 (k55 r52.2))) fun k50=>
 cond (decide (r48<0))
 (k50 true)
 (ob (pA a0.T.L r48) fun e51=>
 k50 e51.Dead))
 (k47 ([],[],(⟨[],(⟨[]⟩:G.Jar),(⟨[],0⟩:G.Dice),(⟨0,[]⟩:G.Tab),[]⟩:G.Server),(⟨r1.Psks,r1.J,r1.D,r1.T,r5⟩:G.Server)))))))) fun k3=>
 ob (dD a0) fun r4=>
 cond (!r4)
 (k3 true)
 (cond (!(iA a1 0 1000000))
 (k3 true)
 (k3 (!(oB a2))))
def zO.raw (a0:List UInt8) (a1:Int) (a2:G.Frame):Option (G.Frame × Bool):=
 aA (fun (y1:Bool)=>
 cond (y1)
 (some ((⟨0,0,[],[],0,[],[],0,0,[],[]⟩:G.Frame),false))
 (ob (KO.raw a0 a1 a2.Cn a2.Sn a2.Tick a2.Cookie) fun r3=>
 cond ((r3.length:Int)==0)
 (some ((⟨0,0,[],[],0,[],[],0,0,[],[]⟩:G.Frame),false))
 (ob (KA a2) fun r4=>
 some ((⟨3,a1,r4.Cn,r4.Sn,r4.Tick,r4.Cookie,r3,r4.Epoch,r4.Seq,r4.Body,r4.Tag⟩:G.Frame),true)))) fun k2=>
 cond (!(qD a2))
 (k2 true)
 (k2 (a2.Kind !=2))
def vL.raw (a0:G.Client) (a1:Int) (a2:G.Frame):Option (G.Client × (List G.Frame) × (List G.Note)):=
 ob (KA a0) fun r1=>
 aA (fun (y2:Bool)=>
 cond (y2)
 (some (r1,[],[]))
 (aA (fun (y5:Bool)=>
 cond (y5)
 (ob (zO.raw a0.Psk a0.Id a2) fun r8=>
 ob (xO.raw a0.Psk a0.Cn a2.Sn 0) fun r9=>
 ob (sL.raw 0 a2.Sn r9) fun r10=>
 ob (gH.raw a1) fun r11=>
 cond (decide (([]:List UInt8).length+a0.Cn.length≤bA)) (cond (decide (([]:List UInt8).length+a2.Sn.length≤bA)) (let x12:List G.Note:=[(⟨2,a0.Id,0,[]++a0.Cn,[]++a2.Sn,0,0,[],[],(⟨0,0⟩:G.Addr),a1⟩:G.Note)]
 cond (decide (([]:List G.Note).length+x12.length≤bA)) (ob (EL.raw a0.Psk) fun r13=>
 ob (QL.raw r8.1.Id r8.1.Cn r8.1.Sn r8.1.Tick r8.1.Cookie) fun r14=>
 ob (JL.raw r13 r14) fun r15=>
 cond (decide (([]++x12).length+[r15].length≤bA)) (ob (KA r8.1) fun r16=>
 cond (decide (([]:List G.Frame).length+[r16].length≤bA)) (some ((⟨r1.Id,r1.Psk,r1.At,2,r1.Cn,r8.1,r10,r11,r1.R,r1.Last⟩:G.Client),[]++[r16],([]++x12)++[r15])) none) none) none) none) none)
 (aA (fun (y17:Bool)=>
 cond (y17)
 (some (r1,[],[]))
 (ob (rO.raw a0.C a1 a2) fun r19=>
 cond (r19.2.2 !=0)
 (some (r1,[],[]))
 (ob (DO.raw a0.C a2.Epoch) fun r20=>
 ob (fH.raw 1 a2) fun r21=>
 ob (NJ.raw r20.1 a2.Sn r21) fun r22=>
 cond (decide (([]:List G.Note).length+[r22].length≤bA)) (aA (fun (y23:(List G.Note) × G.Client)=>
 aA (fun (y26:(List G.Note) × G.Client)=>
 aA (fun (y29:(List G.Note))=>
 aA (fun (y32:(List G.Frame) × (List G.Note) × G.Client)=>
 some (y32.2.2,y32.1,y32.2.1)) fun k33=>
 cond (a2.Kind==5)
 (ob (SH.raw r19.1 6 r19.2.1) fun r34=>
 aA (fun (y35:(List G.Frame) × (List G.Note) × G.Client)=>
 k33 (y35.1,y35.2.1,y35.2.2)) fun k36=>
 cond (r34.2.2==0)
 (cond (decide (([]:List G.Frame).length+[r34.2.1].length≤bA)) (ob (tG.raw r34.1 r34.2.1) fun r37=>
 cond (decide (y29.length+[r37].length≤bA)) (cond (decide (([]:List UInt8).length+a2.Sn.length≤bA)) (cond (decide (([]:List UInt8).length+r19.2.1.length≤bA)) (let x38:List G.Note:=[(⟨8,0,0,[],[]++a2.Sn,r34.2.1.Epoch,0,[]++r19.2.1,[],(⟨0,0⟩:G.Addr),0⟩:G.Note)]
 cond (decide ((y29++[r37]).length+x38.length≤bA)) (k36 (([]++[r34.2.1]),((y29++[r37])++x38),(⟨y26.2.Id,y26.2.Psk,y26.2.At,y26.2.St,y26.2.Cn,y26.2.Fin,r34.1,y26.2.T,y26.2.R,y26.2.Last⟩:G.Client))) none) none) none) none) none)
 (k36 ([],y29,y26.2)))
 (k33 ([],y29,y26.2))) fun k30=>
 cond (a2.Kind==4)
 (cond (decide (([]:List UInt8).length+a2.Sn.length≤bA)) (cond (decide (([]:List UInt8).length+r19.2.1.length≤bA)) (let x31:List G.Note:=[(⟨6,0,1,[],[]++a2.Sn,a2.Epoch,a2.Seq,[]++r19.2.1,[],(⟨0,0⟩:G.Addr),a1⟩:G.Note)]
 cond (decide (y26.1.length+x31.length≤bA)) (k30 (y26.1++x31)) none) none) none)
 (k30 y26.1)) fun k27=>
 cond (r19.1.Cur.N !=a0.C.Cur.N)
 (cond (decide (([]:List UInt8).length+a2.Sn.length≤bA)) (cond (decide (([]:List UInt8).length+r19.1.Cur.Key.length≤bA)) (let x28:List G.Note:=[(⟨10,0,0,[],[]++a2.Sn,r19.1.Cur.N,0,[],[]++r19.1.Cur.Key,(⟨0,0⟩:G.Addr),0⟩:G.Note)]
 cond (decide (y23.1.length+x28.length≤bA)) (k27 ((y23.1++x28),(⟨y23.2.Id,y23.2.Psk,y23.2.At,y23.2.St,y23.2.Cn,y23.2.Fin,y23.2.C,y23.2.T,(⟨false,0,0,0⟩:G.Timer),y23.2.Last⟩:G.Client))) none) none) none)
 (k27 (y23.1,y23.2))) fun k24=>
 cond (a0.St==2)
 (cond (decide (([]:List UInt8).length+a0.Cn.length≤bA)) (cond (decide (([]:List UInt8).length+a2.Sn.length≤bA)) (cond (decide (([]:List UInt8).length+a0.C.Cur.Key.length≤bA)) (let x25:List G.Note:=[(⟨3,a0.Id,0,[]++a0.Cn,[]++a2.Sn,0,0,[],[]++a0.C.Cur.Key,(⟨0,0⟩:G.Addr),0⟩:G.Note)]
 cond (decide (([]++[r22]).length+x25.length≤bA)) (k24 ((([]++[r22])++x25),(⟨r1.Id,r1.Psk,r1.At,3,r1.Cn,(⟨0,0,[],[],0,[],[],0,0,[],[]⟩:G.Frame),r19.1,(⟨false,0,0,0⟩:G.Timer),r1.R,a1⟩:G.Client))) none) none) none) none)
 (k24 (([]++[r22]),(⟨r1.Id,r1.Psk,r1.At,r1.St,r1.Cn,r1.Fin,r19.1,r1.T,r1.R,a1⟩:G.Client)))) none))) fun k18=>
 cond (!(GC a2.Kind))
 (k18 true)
 (k18 (decide (a0.St<2))))) fun k6=>
 cond (a2.Kind==2)
 (cond (a0.St==1)
 (ob (eB a2.Cn a0.Cn) fun r7=>
 k6 r7)
 (k6 false))
 (k6 false))) fun k3=>
 ob (dE a0) fun r4=>
 cond (!r4)
 (k3 true)
 (cond (!(iA a1 0 1000000))
 (k3 true)
 (k3 (!(qD a2))))
def BU.raw (a0:G.World) (a1:Int) (a2:G.Addr) (a3:List UInt8):Option ((List G.Wire) × G.World):=
 cond (a1==0)
 (ob (BT.raw a0.S a0.Now a2 a3) fun r1=>
 cond (decide (a0.Notes.length+r1.2.2.length≤bA)) (ob (nP.raw r1.2.1) fun r2=>
 some (r2,(⟨a0.Now,a0.Clients,r1.1,a0.D,a0.Seen,a0.Known,a0.Notes++r1.2.2⟩:G.World))) none)
 (ob (BO.raw a3) fun r3=>
 cond (!r3.2)
 (some ([],a0))
 (cond (decide (0≤sA .i64 a1 1)&&decide (sA .i64 a1 1<(a0.Clients.length:Int))) (ob (a0.Clients[(sA .i64 a1 1).toNat]?) fun e4=>
 ob (vL.raw e4 a0.Now r3.1) fun r5=>
 cond (decide (0≤sA .i64 a1 1)&&decide (sA .i64 a1 1<(a0.Clients.length:Int))) (ob (a0.Clients[(sA .i64 a1 1).toNat]?) fun e6=>
 cond (decide (a0.Notes.length+r5.2.2.length≤bA)) (ob (uM.raw r5.1 r5.2.1) fun r7=>
 some (r7,(⟨a0.Now,List.set a0.Clients ((sA .i64 a1 1).toNat) r5.1,a0.S,a0.D,a0.Seen,a0.Known,a0.Notes++r5.2.2⟩:G.World))) none) none) none))
def NI.raw (a0:G.World) (a1:Int) (a2:G.Addr) (a3:List UInt8):Option G.World:=
 ob (BU.raw a0 a1 a2 a3) fun r1=>
 ob (TH.raw r1.2 r1.1 []) fun r2=>
 some r2
def LT.raw (a0:G.Op):Option Bool:=
 aA (fun (y1:Bool)=>
 some y1) fun k2=>
 cond ((iA a0.Kind 1 10))
 (cond (decide ((a0.B.length:Int)≤200))
 (cond ((iA a0.I 0 200))
 (k2 (iA a0.J 0 200))
 (k2 false))
 (k2 false))
 (k2 false)
def zL.raw (a0:List UInt8) (a1:Int) (a2:Int):Option ((List UInt8) × Bool):=
 aA (fun (y1:Bool)=>
 cond (y1)
 (some ([],false))
 (cond (decide (0≤a1)&&decide (a1≤(cA .i64 a1 a2))&&decide ((cA .i64 a1 a2)≤(a0.length:Int))) (let l3:List UInt8:=List.take ((cA .i64 a1 a2 - a1).toNat) (List.drop a1.toNat a0)
 cond (decide (([]:List UInt8).length+l3.length≤bA)) (some ([]++l3,true)) none) none)) fun k2=>
 cond (decide (a2<0))
 (k2 true)
 (cond (decide (a1<0))
 (k2 true)
 (cond (decide (a2>(a0.length:Int)))
 (k2 true)
 (k2 (decide (a1>(sA .i64 (a0.length:Int) a2))))))
def TS.raw (a0:List G.Op) (a1:List G.Wire) (a2:List (List UInt8)):Option ((List UInt8) × Bool):=
 cond (decide ((a0.length:Int)>16))
 (some ([],false))
 (aA (fun (y1:(List (List UInt8)))=>
 cond ((y1.length:Int) !=1)
 (some ([],false))
 (cond (decide (0≤(0:Int))&&decide ((0:Int)<(y1.length:Int))) (ob (y1[0]?) fun e71=>
 cond (decide (([]:List UInt8).length+e71.length≤bA)) (some ([]++e71,true)) none) none)) fun k2=>
 tA FU (fun (x3:(List (List UInt8)) × Int) k4=>
 cond (decide (x3.2<(a0.length:Int)))
 (ob (pA a0 x3.2) fun e5=>
 aA (fun (y6:Bool)=>
 cond (y6)
 (some ([],false))
 (ob (sM.raw e5.Kind) fun r10=>
 aA (fun (y11:(List UInt8))=>
 aA (fun (y68:Bool)=>
 cond (y68)
 (some ([],false))
 (cond (decide (0≤(0:Int))&&decide ((0:Int)≤(sA .i64 (x3.1.length:Int) r10))&&decide ((sA .i64 (x3.1.length:Int) r10)≤(x3.1.length:Int))) (cond (decide ((List.take ((sA .i64 (x3.1.length:Int) r10 - 0).toNat) x3.1).length+[y11].length≤bA)) (let x70:List (List UInt8):=(List.take ((sA .i64 (x3.1.length:Int) r10 - 0).toNat) x3.1)++[y11]
 k4 (x70,(cA .i64 x3.2 1))) none) none)) fun k69=>
 cond (decide ((y11.length:Int)>200))
 (k69 true)
 (k69 ((sA .i64 (x3.1.length:Int) r10)==8))) fun k12=>
 cond (e5.Kind==1)
 (cond (decide (([]:List UInt8).length+e5.B.length≤bA)) (k12 ([]++e5.B)) none)
 (aA (fun (y13:(List UInt8))=>
 k12 y13) fun k14=>
 cond (e5.Kind==2)
 (cond (decide (e5.I≥(a1.length:Int)))
 (some ([],false))
 (ob (pA a1 e5.I) fun e15=>
 cond (decide (([]:List UInt8).length+e15.B.length≤bA)) (k14 ([]++e15.B)) none))
 (aA (fun (y16:(List UInt8))=>
 k14 y16) fun k17=>
 cond (e5.Kind==3)
 (cond (decide (e5.I≥(a2.length:Int)))
 (some ([],false))
 (ob (pA a2 e5.I) fun e18=>
 cond (decide (([]:List UInt8).length+e18.length≤bA)) (k17 ([]++e18)) none))
 (aA (fun (y19:(List UInt8))=>
 k17 y19) fun k20=>
 cond (e5.Kind==4)
 (cond (decide (0≤sA .i64 (x3.1.length:Int) r10)&&decide (sA .i64 (x3.1.length:Int) r10<(x3.1.length:Int))) (ob (x3.1[(sA .i64 (x3.1.length:Int) r10).toNat]?) fun e21=>
 ob (pQ e21 e5.I e5.J) fun r22=>
 cond (!r22.2)
 (some ([],false))
 (k20 r22.1)) none)
 (aA (fun (y23:(List UInt8))=>
 k20 y23) fun k24=>
 cond (e5.Kind==5)
 (cond (decide (0≤sA .i64 (x3.1.length:Int) r10)&&decide (sA .i64 (x3.1.length:Int) r10<(x3.1.length:Int))) (ob (x3.1[(sA .i64 (x3.1.length:Int) r10).toNat]?) fun e25=>
 cond (decide (([]:List UInt8).length+e25.length≤bA)) (let x26:Int:=cA .i64 (sA .i64 (x3.1.length:Int) r10) 1
 cond (decide (0≤x26)&&decide (x26<(x3.1.length:Int))) (ob (x3.1[x26.toNat]?) fun e27=>
 cond (decide (([]++e25).length+e27.length≤bA)) (k24 (([]++e25)++e27)) none) none) none) none)
 (aA (fun (y28:(List UInt8))=>
 k24 y28) fun k29=>
 cond (e5.Kind==6)
 (cond (decide (0≤sA .i64 (x3.1.length:Int) r10)&&decide (sA .i64 (x3.1.length:Int) r10<(x3.1.length:Int))) (ob (x3.1[(sA .i64 (x3.1.length:Int) r10).toNat]?) fun e30=>
 let x31:Int:=cA .i64 (sA .i64 (x3.1.length:Int) r10) 1
 cond (decide (0≤x31)&&decide (x31<(x3.1.length:Int))) (ob (x3.1[x31.toNat]?) fun e32=>
 cond ((e30.length:Int) !=(e32.length:Int))
 (some ([],false))
 (aA (fun (y33:(List UInt8))=>
 k29 y33) fun k34=>
 tA FU (fun (x35:(List UInt8) × Int) k36=>
 cond (decide (0≤sA .i64 (x3.1.length:Int) r10)&&decide (sA .i64 (x3.1.length:Int) r10<(x3.1.length:Int))) (ob (x3.1[(sA .i64 (x3.1.length:Int) r10).toNat]?) fun e37=>
 cond (decide (x35.2<(e37.length:Int)))
 (cond (decide (0≤sA .i64 (x3.1.length:Int) r10)&&decide (sA .i64 (x3.1.length:Int) r10<(x3.1.length:Int))) (ob (x3.1[(sA .i64 (x3.1.length:Int) r10).toNat]?) fun e38=>
 ob (pA e38 x35.2) fun e39=>
 let x40:Int:=cA .i64 (sA .i64 (x3.1.length:Int) r10) 1
 cond (decide (0≤x40)&&decide (x40<(x3.1.length:Int))) (ob (x3.1[x40.toNat]?) fun e41=>
 ob (pA e41 x35.2) fun e42=>
 let x43:Int:=bC .u8 ((e39.toNat:Nat):Int) ((e42.toNat:Nat):Int)
 cond (decide (x35.1.length+[UInt8.ofNat (x43:Int).toNat].length≤bA)) (k36 ((x35.1++[UInt8.ofNat (x43:Int).toNat]),(cA .i64 x35.2 1))) none) none) none)
 (k34 x35.1)) none) ([],0))) none) none)
 (aA (fun (y44:(List UInt8))=>
 k29 y44) fun k45=>
 cond (e5.Kind==7)
 (cond (decide (0≤sA .i64 (x3.1.length:Int) r10)&&decide (sA .i64 (x3.1.length:Int) r10<(x3.1.length:Int))) (ob (x3.1[(sA .i64 (x3.1.length:Int) r10).toNat]?) fun e46=>
 let x47:Int:=cA .i64 (sA .i64 (x3.1.length:Int) r10) 1
 cond (decide (0≤x47)&&decide (x47<(x3.1.length:Int))) (ob (x3.1[x47.toNat]?) fun e48=>
 let r49:(List UInt8):=FD e46 e48
 k45 r49) none) none)
 (aA (fun (y50:(List UInt8))=>
 k45 y50) fun k51=>
 cond (e5.Kind==8)
 (cond (decide (0≤sA .i64 (x3.1.length:Int) r10)&&decide (sA .i64 (x3.1.length:Int) r10<(x3.1.length:Int))) (ob (x3.1[(sA .i64 (x3.1.length:Int) r10).toNat]?) fun e52=>
 let x53:Int:=cA .i64 (sA .i64 (x3.1.length:Int) r10) 1
 cond (decide (0≤x53)&&decide (x53<(x3.1.length:Int))) (ob (x3.1[x53.toNat]?) fun e54=>
 ob (KI.raw e52 e54) fun r55=>
 k51 r55) none) none)
 (aA (fun (y56:(List UInt8))=>
 k51 y56) fun k57=>
 cond (e5.Kind==9)
 (cond (decide (0≤sA .i64 (x3.1.length:Int) r10)&&decide (sA .i64 (x3.1.length:Int) r10<(x3.1.length:Int))) (ob (x3.1[(sA .i64 (x3.1.length:Int) r10).toNat]?) fun e58=>
 ob (jF e58 [114,101,107,101,121]) fun r59=>
 k57 r59) none)
 (aA (fun (y60:(List UInt8))=>
 k57 y60) fun k61=>
 cond (e5.Kind==10)
 (cond (decide (0≤sA .i64 (x3.1.length:Int) r10)&&decide (sA .i64 (x3.1.length:Int) r10<(x3.1.length:Int))) (ob (x3.1[(sA .i64 (x3.1.length:Int) r10).toNat]?) fun e62=>
 let x63:Int:=cA .i64 (sA .i64 (x3.1.length:Int) r10) 1
 cond (decide (0≤x63)&&decide (x63<(x3.1.length:Int))) (ob (x3.1[x63.toNat]?) fun e64=>
 let x65:Int:=cA .i64 (sA .i64 (x3.1.length:Int) r10) 2
 cond (decide (0≤x65)&&decide (x65<(x3.1.length:Int))) (ob (x3.1[x65.toNat]?) fun e66=>
 ob (LL.raw e62 e64 e66) fun r67=>
 k61 r67) none) none) none)
 (k61 [])))))))))))) fun k7=>
 ob (LT.raw e5) fun r8=>
 cond (!r8)
 (k7 true)
 (ob (sM.raw e5.Kind) fun r9=>
 k7 (decide ((x3.1.length:Int)<r9))))
 (k2 x3.1)) ([],0))
def OS.raw (a0:G.Server):Option (G.Server × (List G.Note)):=
 ob (KA a0) fun r1=>
 aA (fun (y2:Bool)=>
 cond (y2)
 (some (r1,[]))
 (ob (NH a0.D) fun r5=>
 let r6:G.Jar:=nF r5.2
 let r7:G.Tab:=YD a0.T.Cap
 ob (KH r5.2) fun r8=>
 cond (decide (([]:List UInt8).length+r6.Secret.length≤bA)) (let x9:List G.Note:=[r8,(⟨12,0,0,[],[],0,0,[],[]++r6.Secret,(⟨0,0⟩:G.Addr),0⟩:G.Note)]
 some ((⟨r1.Psks,r6,r5.1,r7,[]⟩:G.Server),x9)) none)) fun k3=>
 ob (dD a0) fun r4=>
 cond (!r4)
 (k3 true)
 (k3 (a0.D.N==10000))
def gT.raw (a0:G.Client):Option (G.Client × (List G.Note)):=
 ob (dE a0) fun r1=>
 cond (!r1)
 (ob (KA a0) fun r2=>
 some (r2,[]))
 (cond (a0.St==3)
 (ob (QJ.raw a0) fun r3=>
 cond (decide (([]:List UInt8).length+a0.C.Sn.length≤bA)) (let x4:List G.Note:=[(⟨11,a0.Id,0,[],[]++a0.C.Sn,0,0,[],[],(⟨0,0⟩:G.Addr),0⟩:G.Note)]
 some (r3,x4)) none)
 (ob (QJ.raw a0) fun r5=>
 some (r5,[])))
def AT.raw (a0:G.Server) (a1:Int):Option (G.Server × (List G.Note) × Int):=
 ob (KA a0) fun r1=>
 ob (dD a0) fun r2=>
 cond (!r2)
 (some (r1,[],1))
 (aA (fun (y3:Bool)=>
 cond (y3)
 (some (r1,[],8))
 (ob (pA a0.T.L a1) fun e7=>
 ob (RH.raw e7) fun r8=>
 cond (decide (0≤a1)&&decide (a1<(r1.T.L.length:Int))) (ob (r1.T.L[a1.toNat]?) fun e9=>
 ob (pA a0.T.L a1) fun e10=>
 ob (kP.raw e10) fun r11=>
 some ((⟨r1.Psks,r1.J,r1.D,(⟨r1.T.Cap,List.set r1.T.L a1.toNat r8⟩:G.Tab),r1.Cr⟩:G.Server),[r11],0)) none)) fun k4=>
 let r5:Bool:=iA a1 0 (sA .i64 (a0.T.L.length:Int) 1)
 cond (!r5)
 (k4 true)
 (ob (pA a0.T.L a1) fun e6=>
 k4 e6.Dead))
def oT.raw (a0:G.Chan):Option (List (List UInt8)):=
 ob (yC a0) fun r1=>
 cond (!r1)
 (some [])
 (aA (fun (y2:(List (List UInt8)))=>
 cond (decide (([]:List UInt8).length+a0.Cur.Key.length≤bA)) (cond (decide (y2.length+[[]++a0.Cur.Key].length≤bA)) (aA (fun (y4:(List (List UInt8)))=>
 some y4) fun k5=>
 cond (decide ((a0.Next.length:Int)>0))
 (cond (decide (([]:List UInt8).length+a0.Next.length≤bA)) (cond (decide ((y2++[[]++a0.Cur.Key]).length+[[]++a0.Next].length≤bA)) (k5 ((y2++[[]++a0.Cur.Key])++[[]++a0.Next])) none) none)
 (k5 (y2++[[]++a0.Cur.Key]))) none) none) fun k3=>
 cond (a0.HasOld)
 (cond (decide (([]:List UInt8).length+a0.Old.Key.length≤bA)) (cond (decide (([]:List (List UInt8)).length+[[]++a0.Old.Key].length≤bA)) (k3 ([]++[[]++a0.Old.Key])) none) none)
 (k3 []))
def qP.raw (a0:G.World) (a1:G.Chan):Option (Bool × G.World):=
 ob (oT.raw a1) fun r1=>
 let x2:Int:=cA .i64 (a0.Known.length:Int) (r1.length:Int)
 cond (decide (x2>12))
 (some (false,a0))
 (cond (decide (a0.Known.length+r1.length≤bA)) (cond (decide (([]:List UInt8).length+a1.Sn.length≤bA)) (let x3:List G.Note:=[(⟨13,0,0,[],[]++a1.Sn,0,0,[],[],(⟨0,0⟩:G.Addr),0⟩:G.Note)]
 cond (decide (a0.Notes.length+x3.length≤bA)) (some (true,(⟨a0.Now,a0.Clients,a0.S,a0.D,a0.Seen,a0.Known++r1,a0.Notes++x3⟩:G.World))) none) none) none)
def WO.raw (a0:G.Dice) (a1:Int):Option G.Dice:=
 ob (wH a0) fun r1=>
 aA (fun (y2:Bool)=>
 aA (fun (y4:G.Dice)=>
 some y4) fun k5=>
 cond (y2)
 (k5 (⟨r1.Seed,a1⟩:G.Dice))
 (k5 r1)) fun k3=>
 cond ((tC a0))
 (k3 (iA a1 0 10000))
 (k3 false)
def GU.raw (a0:G.World) (a1:G.Event):Option (Bool × G.World):=
 aA (fun (y1:Bool)=>
 aA (fun (y3:G.Wire)=>
 aA (fun (y6:G.World)=>
 some (true,y6)) fun k7=>
 cond (a1.Kind==1)
 (ob (NH a0.D) fun r8=>
 cond (decide (0≤GA .i64 a1.I 2)&&decide (GA .i64 a1.I 2<(a0.Clients.length:Int))) (ob (a0.Clients[(GA .i64 a1.I 2).toNat]?) fun e9=>
 ob (vO.raw e9 a0.Now r8.2) fun r10=>
 cond (r10.2.2.2 !=0)
 (some (false,a0))
 (ob (KH r8.2) fun r11=>
 cond (decide (a0.Notes.length+[r11].length≤bA)) (ob (TJ.raw (⟨a0.Now,a0.Clients,a0.S,r8.1,a0.Seen,a0.Known,a0.Notes++[r11]⟩:G.World) (GA .i64 a1.I 2) r10.1 r10.2.1 r10.2.2.1) fun r12=>
 k7 r12) none)) none)
 (aA (fun (y13:G.World)=>
 k7 y13) fun k14=>
 cond (a1.Kind==2)
 (cond (decide (0≤GA .i64 a1.I 2)&&decide (GA .i64 a1.I 2<(a0.Clients.length:Int))) (ob (a0.Clients[(GA .i64 a1.I 2).toNat]?) fun e15=>
 ob (RS.raw e15 a0.Now a1.B) fun r16=>
 cond (r16.2.2.2 !=0)
 (some (false,a0))
 (ob (TJ.raw a0 (GA .i64 a1.I 2) r16.1 r16.2.1 r16.2.2.1) fun r17=>
 k14 r17)) none)
 (aA (fun (y18:G.World)=>
 k14 y18) fun k19=>
 cond (a1.Kind==3)
 (ob (DT.raw a0.S a0.Now a1.I a1.B) fun r20=>
 cond (r20.2.2.2 !=0)
 (some (false,a0))
 (ob (nP.raw r20.2.1) fun r21=>
 ob (TH.raw (⟨a0.Now,a0.Clients,r20.1,a0.D,a0.Seen,a0.Known,a0.Notes⟩:G.World) r21 r20.2.2.1) fun r22=>
 k19 r22))
 (aA (fun (y23:G.World)=>
 k19 y23) fun k24=>
 cond (a1.Kind==4)
 (cond (a0.Now==1000000)
 (some (false,a0))
 (ob (CU.raw a0) fun r25=>
 ob (TH.raw r25.2 r25.1 []) fun r26=>
 k24 r26))
 (aA (fun (y27:G.World)=>
 k24 y27) fun k28=>
 cond (a1.Kind==5)
 (cond (decide (0≤GA .i64 a1.I 2)&&decide (GA .i64 a1.I 2<(a0.Clients.length:Int))) (ob (a0.Clients[(GA .i64 a1.I 2).toNat]?) fun e29=>
 let r30:G.Addr:=pB (cA .i64 1 (GA .i64 a1.N 30))
 ob (xT.raw e29 r30) fun r31=>
 cond (decide (0≤GA .i64 a1.I 2)&&decide (GA .i64 a1.I 2<(a0.Clients.length:Int))) (ob (a0.Clients[(GA .i64 a1.I 2).toNat]?) fun e32=>
 k28 (⟨a0.Now,List.set a0.Clients ((GA .i64 a1.I 2).toNat) r31,a0.S,a0.D,a0.Seen,a0.Known,a0.Notes⟩:G.World)) none) none)
 (aA (fun (y33:G.World)=>
 k28 y33) fun k34=>
 cond (a1.Kind==6)
 (cond (decide (0≤GA .i64 a1.I 2)&&decide (GA .i64 a1.I 2<(a0.Clients.length:Int))) (ob (a0.Clients[(GA .i64 a1.I 2).toNat]?) fun e35=>
 ob (QS.raw e35 a0.Now) fun r36=>
 cond (r36.2.2.2 !=0)
 (some (false,a0))
 (ob (TJ.raw a0 (GA .i64 a1.I 2) r36.1 r36.2.1 r36.2.2.1) fun r37=>
 k34 r37)) none)
 (aA (fun (y38:G.World)=>
 k34 y38) fun k39=>
 cond (a1.Kind==7)
 (ob (eO a0 y3.To) fun r40=>
 cond (decide (r40<0))
 (some (false,a0))
 (ob (NI.raw a0 r40 y3.From y3.B) fun r41=>
 k39 r41))
 (aA (fun (y42:G.World)=>
 k39 y42) fun k43=>
 cond (a1.Kind==8)
 (let r44:G.Addr:=pB (GA .i64 a1.N 256)
 ob (NI.raw a0 0 r44 y3.B) fun r45=>
 k43 r45)
 (aA (fun (y46:G.World)=>
 k43 y46) fun k47=>
 cond (a1.Kind==9)
 (ob (NI.raw a0 (GA .i64 a1.J 3) y3.From y3.B) fun r48=>
 k47 r48)
 (aA (fun (y49:G.World)=>
 k47 y49) fun k50=>
 cond (a1.Kind==10)
 (ob (eO a0 y3.To) fun r51=>
 aA (fun (y52:Bool)=>
 cond (y52)
 (some (false,a0))
 (cond (decide (([]:List UInt8).length+y3.B.length≤bA)) (cond ((([]++y3.B).length:Int)==0) none (let x54:Int:=GA .i64 a1.N (([]++y3.B).length:Int)
 cond (decide (0≤x54)&&decide (x54<(([]++y3.B).length:Int))) (ob (([]++y3.B)[x54.toNat]?) fun e55=>
 let x56:Int:=IntKind.wrap .u8 (cA .i64 1 (GA .i64 a1.J 255))
 cond (decide (0≤x54)&&decide (x54<(([]++y3.B).length:Int))) (ob (([]++y3.B)[x54.toNat]?) fun e57=>
 let l58:List UInt8:=List.set ([]++y3.B) x54.toNat (UInt8.ofNat (bC .u8 ((e55.toNat:Nat):Int) x56:Int).toNat)
 ob (NI.raw a0 r51 y3.From l58) fun r59=>
 k50 r59) none) none)) none)) fun k53=>
 cond (decide (r51<0))
 (k53 true)
 (k53 ((y3.B.length:Int)==0)))
 (aA (fun (y60:G.World)=>
 k50 y60) fun k61=>
 cond (a1.Kind==11)
 (ob (TS.raw a1.Ops a0.Seen a0.Known) fun r62=>
 cond (!r62.2)
 (some (false,a0))
 (let r63:G.Addr:=pB (GA .i64 a1.N 256)
 ob (NI.raw a0 (GA .i64 a1.J 3) r63 r62.1) fun r64=>
 k61 r64))
 (aA (fun (y65:G.World)=>
 k61 y65) fun k66=>
 cond (a1.Kind==12)
 (ob (OS.raw a0.S) fun r67=>
 cond ((r67.2.length:Int)==0)
 (some (false,a0))
 (ob (TH.raw (⟨a0.Now,a0.Clients,r67.1,a0.D,a0.Seen,a0.Known,a0.Notes⟩:G.World) [] r67.2) fun r68=>
 k66 r68))
 (aA (fun (y69:G.World)=>
 k66 y69) fun k70=>
 cond (a1.Kind==13)
 (cond (decide (0≤GA .i64 a1.I 2)&&decide (GA .i64 a1.I 2<(a0.Clients.length:Int))) (ob (a0.Clients[(GA .i64 a1.I 2).toNat]?) fun e71=>
 cond (e71.St==0)
 (some (false,a0))
 (cond (decide (0≤GA .i64 a1.I 2)&&decide (GA .i64 a1.I 2<(a0.Clients.length:Int))) (ob (a0.Clients[(GA .i64 a1.I 2).toNat]?) fun e72=>
 ob (gT.raw e72) fun r73=>
 ob (TJ.raw a0 (GA .i64 a1.I 2) r73.1 [] r73.2) fun r74=>
 k70 r74) none)) none)
 (aA (fun (y75:G.World)=>
 k70 y75) fun k76=>
 cond (a1.Kind==14)
 (ob (AT.raw a0.S a1.I) fun r77=>
 cond (r77.2.2 !=0)
 (some (false,a0))
 (ob (TH.raw (⟨a0.Now,a0.Clients,r77.1,a0.D,a0.Seen,a0.Known,a0.Notes⟩:G.World) [] r77.2.1) fun r78=>
 k76 r78))
 (cond (a1.Kind==15)
 (aA (fun (y79:Bool × G.World)=>
 some (y79.1,y79.2)) fun k80=>
 cond (decide (0≤GA .i64 a1.I 2)&&decide (GA .i64 a1.I 2<(a0.Clients.length:Int))) (ob (a0.Clients[(GA .i64 a1.I 2).toNat]?) fun e81=>
 cond (e81.St==3)
 (cond (decide (0≤GA .i64 a1.I 2)&&decide (GA .i64 a1.I 2<(a0.Clients.length:Int))) (ob (a0.Clients[(GA .i64 a1.I 2).toNat]?) fun e82=>
 ob (qP.raw a0 e82.C) fun r83=>
 k80 (r83.1,r83.2)) none)
 (k80 (false,a0))) none)
 (cond (a1.Kind==16)
 (aA (fun (y84:Bool × G.World)=>
 some (y84.1,y84.2)) fun k85=>
 cond (decide (a1.I<(a0.S.T.L.length:Int)))
 (ob (pA a0.S.T.L a1.I) fun e86=>
 cond (!e86.Dead)
 (ob (pA a0.S.T.L a1.I) fun e87=>
 ob (qP.raw a0 e87.C) fun r88=>
 k85 (r88.1,r88.2))
 (k85 (false,a0)))
 (k85 (false,a0)))
 (aA (fun (y89:G.World)=>
 k76 y89) fun k90=>
 cond (a1.Kind==17)
 (aA (fun (y91:G.World)=>
 k90 y91) fun k92=>
 cond ((GA .i64 a1.J 2)==0)
 (ob (WO.raw a0.D a1.N) fun r93=>
 k92 (⟨a0.Now,a0.Clients,a0.S,r93,a0.Seen,a0.Known,a0.Notes⟩:G.World))
 (ob (WO.raw a0.S.D a1.N) fun r94=>
 k92 (⟨a0.Now,a0.Clients,(⟨a0.S.Psks,a0.S.J,r94,a0.S.T,a0.S.Cr⟩:G.Server),a0.D,a0.Seen,a0.Known,a0.Notes⟩:G.World)))
 (k90 a0)))))))))))))))))) fun k4=>
 cond (y1)
 (cond ((a0.Seen.length:Int)==0)
 (some (false,a0))
 (cond ((a0.Seen.length:Int)==0) none (cond (decide (0≤GA .i64 a1.I (a0.Seen.length:Int))&&decide (GA .i64 a1.I (a0.Seen.length:Int)<(a0.Seen.length:Int))) (ob (a0.Seen[(GA .i64 a1.I (a0.Seen.length:Int)).toNat]?) fun e5=>
 k4 e5) none)))
 (k4 (⟨(⟨0,0⟩:G.Addr),(⟨0,0⟩:G.Addr),[]⟩:G.Wire))) fun k2=>
 cond (decide (a1.Kind≥7))
 (k2 (decide (a1.Kind≤10)))
 (k2 false)
def HU.raw (a0:G.Cur) (a1:Int) (a2:Bool):Option (G.World × (List G.Event) × G.World × G.Cur):=
 ob (IU.raw a0) fun r1=>
 ob (KA r1.1) fun r2=>
 ob (BA.raw r1.2 a1) fun r3=>
 aA (fun (y4:(List G.Event) × G.Cur × Int × G.World)=>
 some (r1.1,y4.1,y4.2.2.2,y4.2.1)) fun k5=>
 tA FU (fun (x6:(List G.Event) × Int × G.Cur × Int × G.World) k7=>
 cond (decide (x6.2.1>0))
 (ob (JU.raw x6.2.2.1 x6.2.2.2.2 x6.2.2.2.1 a2) fun r8=>
 cond (decide (x6.1.length+[r8.1].length≤bA)) (ob (KA x6.2.2.2.2) fun r9=>
 aA (fun (y10:Bool × G.World)=>
 aA (fun (y13:G.World × Unit)=>
 k7 ((x6.1++[r8.1]),(sA .i64 x6.2.1 1),r8.2.1,r8.2.2,y13.1)) fun k14=>
 cond (y10.1)
 (k14 (y10.2,()))
 (k14 (x6.2.2.2.2,()))) fun k11=>
 cond (decide ((x6.2.2.2.2.Notes.length:Int)≤500))
 (cond ((nJ r8.1))
 (ob (GU.raw r9 r8.1) fun r12=>
 k11 (r12.1,r12.2))
 (k11 (false,r9)))
 (k11 (false,r9))) none)
 (k5 (x6.1,x6.2.2.1,x6.2.2.2.1,x6.2.2.2.2))) ([],(cA .i64 4 r3.1),r3.2,0,r2)
def rP.raw (a0:G.Cur) (a1:Int):Option (G.World × G.Cur):=
 ob (nC.raw a0 3) fun r1=>
 ob (HU.raw r1.2 a1 (!r1.1)) fun r2=>
 some (r2.2.2.1,r2.2.2.2)
def PJ.raw (a0:G.Cur):Option ((List UInt8) × G.Cur):=
 ob (BA.raw a0 4) fun r1=>
 aA (fun (y2:(List UInt8))=>
 some (y2,r1.2)) fun k3=>
 tA FU (fun (x4:(List UInt8) × Int) k5=>
 cond (decide (x4.2<12))
 (cond (decide (x4.1.length+[UInt8.ofNat (IntKind.wrap .u8 r1.1:Int).toNat].length≤bA)) (k5 ((x4.1++[UInt8.ofNat (IntKind.wrap .u8 r1.1:Int).toNat]),(cA .i64 x4.2 1))) none)
 (k3 x4.1)) ([],0)
def fU.raw (a0:G.Cur):Option ((List UInt8) × G.Cur):=
 ob (BA.raw a0 3) fun r1=>
 aA (fun (y2:(List UInt8))=>
 some (y2,r1.2)) fun k3=>
 tA FU (fun (x4:(List UInt8) × Int) k5=>
 cond (decide (x4.2<32))
 (cond (decide (x4.1.length+[UInt8.ofNat (IntKind.wrap .u8 r1.1:Int).toNat].length≤bA)) (k5 ((x4.1++[UInt8.ofNat (IntKind.wrap .u8 r1.1:Int).toNat]),(cA .i64 x4.2 1))) none)
 (k3 x4.1)) ([],0)
def eU.raw (a0:G.Cur):Option (G.Note × G.Cur):=
 ob (BA.raw a0 17) fun r1=>
 ob (BA.raw r1.2 3) fun r2=>
 ob (BA.raw r2.2 2) fun r3=>
 ob (BA.raw r3.2 2) fun r4=>
 ob (BA.raw r4.2 3) fun r5=>
 ob (PJ.raw r5.2) fun r6=>
 ob (PJ.raw r6.2) fun r7=>
 ob (fU.raw r7.2) fun r8=>
 ob (PJ.raw r8.2) fun r9=>
 ob (BA.raw r9.2 3) fun r10=>
 let r11:G.Addr:=pB r10.1
 ob (BA.raw r10.2 12) fun r12=>
 some ((⟨cA .i64 1 r1.1,r2.1,r3.1,r6.1,r7.1,r4.1,r5.1,r9.1,r8.1,r11,r12.1⟩:G.Note),r12.2)
def LU.raw (a0:G.Cur):Option (G.Addr × G.Cur):=
 ob (nC.raw a0 3) fun r1=>
 cond (r1.1)
 (ob (BA.raw r1.2 16777216) fun r2=>
 ob (iH.raw r2.2) fun r3=>
 ob (BA.raw r3.2 65536) fun r4=>
 some ((⟨cA .i64 (LB .i64 r2.1 256) r3.1,r4.1⟩:G.Addr),r4.2))
 (ob (BA.raw r1.2 6) fun r5=>
 let r6:G.Addr:=pB r5.1
 some (r6,r5.2))
def jH.raw (a0:G.Cur):Option (G.Addr × G.Cur):=
 ob (LU.raw a0) fun r1=>
 ob (BA.raw r1.2 10) fun r2=>
 aA (fun (y3:G.Cur × G.Addr)=>
 some (y3.2,y3.1)) fun k4=>
 cond (r2.1==0)
 (ob (mU.raw r2.2) fun r5=>
 k4 (r5.2,(⟨r5.1,r1.1.Port⟩:G.Addr)))
 (aA (fun (y6:G.Cur × G.Addr)=>
 k4 (y6.1,y6.2)) fun k7=>
 cond (r2.1==1)
 (ob (OA.raw r2.2 [(-1),65535,65536,0]) fun r8=>
 k7 (r8.2,(⟨r1.1.Host,r8.1⟩:G.Addr)))
 (k7 (r2.2,r1.1)))
def gP.raw (a0:G.Cur):Option (G.Note × G.Cur):=
 ob (eU.raw a0) fun r1=>
 ob (BA.raw r1.2 20) fun r2=>
 aA (fun (y3:G.Cur × G.Note)=>
 some (y3.2,y3.1)) fun k4=>
 cond (r2.1==0)
 (ob (OA.raw r2.2 [(-1),0,17,18]) fun r5=>
 k4 (r5.2,(⟨r5.1,r1.1.Id,r1.1.Role,r1.1.Cn,r1.1.Sn,r1.1.Epoch,r1.1.Seq,r1.1.Body,r1.1.Key,r1.1.A,r1.1.Now⟩:G.Note)))
 (aA (fun (y6:G.Cur × G.Note)=>
 k4 (y6.1,y6.2)) fun k7=>
 cond (r2.1==1)
 (ob (OA.raw r2.2 [(-1),10]) fun r8=>
 k7 (r8.2,(⟨r1.1.Kind,r8.1,r1.1.Role,r1.1.Cn,r1.1.Sn,r1.1.Epoch,r1.1.Seq,r1.1.Body,r1.1.Key,r1.1.A,r1.1.Now⟩:G.Note)))
 (aA (fun (y9:G.Cur × G.Note)=>
 k7 (y9.1,y9.2)) fun k10=>
 cond (r2.1==2)
 (ob (OA.raw r2.2 [(-1),2]) fun r11=>
 k10 (r11.2,(⟨r1.1.Kind,r1.1.Id,r11.1,r1.1.Cn,r1.1.Sn,r1.1.Epoch,r1.1.Seq,r1.1.Body,r1.1.Key,r1.1.A,r1.1.Now⟩:G.Note)))
 (aA (fun (y12:G.Cur × G.Note)=>
 k10 (y12.1,y12.2)) fun k13=>
 cond (r2.1==3)
 (ob (OA.raw r2.2 [0,11]) fun r14=>
 ob (mB.raw r14.2 r14.1) fun r15=>
 k13 (r15.2,(⟨r1.1.Kind,r1.1.Id,r1.1.Role,r15.1,r1.1.Sn,r1.1.Epoch,r1.1.Seq,r1.1.Body,r1.1.Key,r1.1.A,r1.1.Now⟩:G.Note)))
 (aA (fun (y16:G.Cur × G.Note)=>
 k13 (y16.1,y16.2)) fun k17=>
 cond (r2.1==4)
 (ob (OA.raw r2.2 [0,13]) fun r18=>
 ob (mB.raw r18.2 r18.1) fun r19=>
 k17 (r19.2,(⟨r1.1.Kind,r1.1.Id,r1.1.Role,r1.1.Cn,r19.1,r1.1.Epoch,r1.1.Seq,r1.1.Body,r1.1.Key,r1.1.A,r1.1.Now⟩:G.Note)))
 (aA (fun (y20:G.Cur × G.Note)=>
 k17 (y20.1,y20.2)) fun k21=>
 cond (r2.1==5)
 (ob (OA.raw r2.2 [(-1),4294967296]) fun r22=>
 k21 (r22.2,(⟨r1.1.Kind,r1.1.Id,r1.1.Role,r1.1.Cn,r1.1.Sn,r22.1,r1.1.Seq,r1.1.Body,r1.1.Key,r1.1.A,r1.1.Now⟩:G.Note)))
 (aA (fun (y23:G.Cur × G.Note)=>
 k21 (y23.1,y23.2)) fun k24=>
 cond (r2.1==6)
 (ob (OA.raw r2.2 [(-1),281474976710656]) fun r25=>
 k24 (r25.2,(⟨r1.1.Kind,r1.1.Id,r1.1.Role,r1.1.Cn,r1.1.Sn,r1.1.Epoch,r25.1,r1.1.Body,r1.1.Key,r1.1.A,r1.1.Now⟩:G.Note)))
 (aA (fun (y26:G.Cur × G.Note)=>
 k24 (y26.1,y26.2)) fun k27=>
 cond (r2.1==7)
 (ob (OA.raw r2.2 [0,100,101]) fun r28=>
 ob (mB.raw r28.2 r28.1) fun r29=>
 k27 (r29.2,(⟨r1.1.Kind,r1.1.Id,r1.1.Role,r1.1.Cn,r1.1.Sn,r1.1.Epoch,r1.1.Seq,r29.1,r1.1.Key,r1.1.A,r1.1.Now⟩:G.Note)))
 (aA (fun (y30:G.Cur × G.Note)=>
 k27 (y30.1,y30.2)) fun k31=>
 cond (r2.1==8)
 (ob (OA.raw r2.2 [0,31]) fun r32=>
 ob (mB.raw r32.2 r32.1) fun r33=>
 k31 (r33.2,(⟨r1.1.Kind,r1.1.Id,r1.1.Role,r1.1.Cn,r1.1.Sn,r1.1.Epoch,r1.1.Seq,r1.1.Body,r33.1,r1.1.A,r1.1.Now⟩:G.Note)))
 (aA (fun (y34:G.Cur × G.Note)=>
 k31 (y34.1,y34.2)) fun k35=>
 cond (r2.1==9)
 (ob (jH.raw r2.2) fun r36=>
 k35 (r36.2,(⟨r1.1.Kind,r1.1.Id,r1.1.Role,r1.1.Cn,r1.1.Sn,r1.1.Epoch,r1.1.Seq,r1.1.Body,r1.1.Key,r36.1,r1.1.Now⟩:G.Note)))
 (aA (fun (y37:G.Cur × G.Note)=>
 k35 (y37.1,y37.2)) fun k38=>
 cond (r2.1==10)
 (ob (OA.raw r2.2 [(-1),1000001]) fun r39=>
 k38 (r39.2,(⟨r1.1.Kind,r1.1.Id,r1.1.Role,r1.1.Cn,r1.1.Sn,r1.1.Epoch,r1.1.Seq,r1.1.Body,r1.1.Key,r1.1.A,r39.1⟩:G.Note)))
 (k38 (r2.2,r1.1))))))))))))
def gU.raw (a0:G.Cur) (a1:Int):Option ((List G.Note) × G.Cur):=
 ob (BA.raw a0 (cA .i64 a1 1)) fun r1=>
 aA (fun (y2:(List G.Note) × G.Cur)=>
 some (y2.1,y2.2)) fun k3=>
 tA FU (fun (x4:(List G.Note) × Int × G.Cur) k5=>
 cond (decide (x4.2.1>0))
 (ob (gP.raw x4.2.2) fun r6=>
 cond (decide (x4.1.length+[r6.1].length≤bA)) (k5 ((x4.1++[r6.1]),(sA .i64 x4.2.1 1),r6.2)) none)
 (k3 (x4.1,x4.2.2))) ([],r1.1,r1.2)
def sP.raw (a0:G.Cur) (a1:Int):Option ((List G.Note) × G.Cur):=
 ob (rP.raw a0 a1) fun r1=>
 ob (KA r1.1.Notes) fun r2=>
 ob (nC.raw r1.2 4) fun r3=>
 cond (r3.1)
 (ob (gU.raw r3.2 14) fun r4=>
 some (r4.1,r4.2))
 (aA (fun (y5:(List G.Note) × G.Cur)=>
 aA (fun (y12:Bool × G.Cur)=>
 cond (y12.1)
 (some (y5.1,y12.2))
 (ob (BA.raw y12.2 (y5.1.length:Int)) fun r15=>
 ob (BA.raw r15.2 (y5.1.length:Int)) fun r16=>
 ob (BA.raw r16.2 12) fun r17=>
 aA (fun (y18:(List G.Note) × G.Cur)=>
 some (y18.1,y18.2)) fun k19=>
 cond (r17.1==0)
 (cond (decide (0≤r15.1)&&decide (r15.1<(y5.1.length:Int))) (ob (y5.1[r15.1.toNat]?) fun e20=>
 ob (KA e20) fun r21=>
 cond (decide (y5.1.length+[r21].length≤bA)) (k19 ((y5.1++[r21]),r17.2)) none) none)
 (aA (fun (y22:(List G.Note) × G.Cur)=>
 k19 (y22.1,y22.2)) fun k23=>
 cond (r17.1==1)
 (cond (decide (0≤(0:Int))&&decide ((0:Int)≤r15.1)&&decide (r15.1≤(y5.1.length:Int))) (ob (KA (List.take ((r15.1 - 0).toNat) (List.drop 0 y5.1))) fun r24=>
 cond (decide (0≤(cA .i64 r15.1 1))&&decide ((cA .i64 r15.1 1)≤(y5.1.length:Int))&&decide ((y5.1.length:Int)≤(y5.1.length:Int))) (ob (KA (List.take (((y5.1.length:Int) - (cA .i64 r15.1 1)).toNat) (List.drop ((cA .i64 r15.1 1).toNat) y5.1))) fun r25=>
 cond (decide (r24.length+r25.length≤bA)) (k23 ((r24++r25),r17.2)) none) none) none)
 (aA (fun (y26:(List G.Note) × G.Cur)=>
 k23 (y26.1,y26.2)) fun k27=>
 cond (r17.1==2)
 (cond (decide (0≤r16.1)&&decide (r16.1<(y5.1.length:Int))) (ob (y5.1[r16.1.toNat]?) fun e28=>
 ob (KA e28) fun r29=>
 cond (decide (0≤r15.1)&&decide (r15.1<(y5.1.length:Int))) (ob (y5.1[r15.1.toNat]?) fun e30=>
 let l31:List G.Note:=List.set y5.1 r15.1.toNat (⟨e30.Kind,e30.Id,e30.Role,e30.Cn,r29.Sn,e30.Epoch,e30.Seq,e30.Body,e30.Key,e30.A,e30.Now⟩:G.Note)
 k27 (l31,r17.2)) none) none)
 (aA (fun (y32:(List G.Note) × G.Cur)=>
 k27 (y32.1,y32.2)) fun k33=>
 cond (r17.1==3)
 (cond (decide (0≤r16.1)&&decide (r16.1<(y5.1.length:Int))) (ob (y5.1[r16.1.toNat]?) fun e34=>
 ob (KA e34) fun r35=>
 cond (decide (0≤r15.1)&&decide (r15.1<(y5.1.length:Int))) (ob (y5.1[r15.1.toNat]?) fun e36=>
 let l37:List G.Note:=List.set y5.1 r15.1.toNat (⟨e36.Kind,e36.Id,e36.Role,e36.Cn,e36.Sn,e36.Epoch,e36.Seq,e36.Body,r35.Key,e36.A,e36.Now⟩:G.Note)
 k33 (l37,r17.2)) none) none)
 (aA (fun (y38:G.Cur × (List G.Note))=>
 k33 (y38.2,y38.1)) fun k39=>
 cond (r17.1==4)
 (ob (PJ.raw r17.2) fun r40=>
 cond (decide (0≤r15.1)&&decide (r15.1<(y5.1.length:Int))) (ob (y5.1[r15.1.toNat]?) fun e41=>
 let l42:List G.Note:=List.set y5.1 r15.1.toNat (⟨e41.Kind,e41.Id,e41.Role,r40.1,e41.Sn,e41.Epoch,e41.Seq,e41.Body,e41.Key,e41.A,e41.Now⟩:G.Note)
 k39 (r40.2,l42)) none)
 (aA (fun (y43:(List G.Note) × G.Cur)=>
 k39 (y43.2,y43.1)) fun k44=>
 cond (r17.1==5)
 (cond (decide (0≤r15.1)&&decide (r15.1<(y5.1.length:Int))) (ob (y5.1[r15.1.toNat]?) fun e45=>
 cond (decide (0≤r15.1)&&decide (r15.1<(y5.1.length:Int))) (ob (y5.1[r15.1.toNat]?) fun e46=>
 let l47:List G.Note:=List.set y5.1 r15.1.toNat (⟨e46.Kind,e46.Id,e46.Role,e46.Cn,e46.Sn,cA .i64 e45.Epoch 1,e46.Seq,e46.Body,e46.Key,e46.A,e46.Now⟩:G.Note)
 k44 (l47,r17.2)) none) none)
 (aA (fun (y48:(List G.Note) × G.Cur)=>
 k44 (y48.1,y48.2)) fun k49=>
 cond (r17.1==6)
 (cond (decide (0≤r16.1)&&decide (r16.1<(y5.1.length:Int))) (ob (y5.1[r16.1.toNat]?) fun e50=>
 ob (KA e50) fun r51=>
 cond (decide (0≤r15.1)&&decide (r15.1<(y5.1.length:Int))) (ob (y5.1[r15.1.toNat]?) fun e52=>
 let l53:List G.Note:=List.set y5.1 r15.1.toNat (⟨e52.Kind,e52.Id,e52.Role,e52.Cn,e52.Sn,e52.Epoch,e52.Seq,r51.Body,e52.Key,e52.A,e52.Now⟩:G.Note)
 k49 (l53,r17.2)) none) none)
 (aA (fun (y54:(List G.Note) × G.Cur)=>
 k49 (y54.1,y54.2)) fun k55=>
 cond (r17.1==7)
 (cond (decide (0≤r15.1)&&decide (r15.1<(y5.1.length:Int))) (ob (y5.1[r15.1.toNat]?) fun e56=>
 cond (decide (0≤r15.1)&&decide (r15.1<(y5.1.length:Int))) (ob (y5.1[r15.1.toNat]?) fun e57=>
 let l58:List G.Note:=List.set y5.1 r15.1.toNat (⟨e57.Kind,e57.Id,e57.Role,e57.Cn,e57.Sn,e57.Epoch,e57.Seq,e57.Body,e57.Key,e57.A,cA .i64 e56.Now 9⟩:G.Note)
 k55 (l58,r17.2)) none) none)
 (aA (fun (y59:G.Cur × (List G.Note))=>
 k55 (y59.2,y59.1)) fun k60=>
 cond (r17.1==8)
 (ob (BA.raw r17.2 9) fun r61=>
 let r62:G.Addr:=pB r61.1
 cond (decide (0≤r15.1)&&decide (r15.1<(y5.1.length:Int))) (ob (y5.1[r15.1.toNat]?) fun e63=>
 let l64:List G.Note:=List.set y5.1 r15.1.toNat (⟨e63.Kind,e63.Id,e63.Role,e63.Cn,e63.Sn,e63.Epoch,e63.Seq,e63.Body,e63.Key,r62,e63.Now⟩:G.Note)
 k60 (r61.2,l64)) none)
 (aA (fun (y65:G.Cur × (List G.Note))=>
 k60 (y65.1,y65.2)) fun k66=>
 cond (r17.1==9)
 (ob (BA.raw r17.2 2) fun r67=>
 cond (decide (0≤r15.1)&&decide (r15.1<(y5.1.length:Int))) (ob (y5.1[r15.1.toNat]?) fun e68=>
 let l69:List G.Note:=List.set y5.1 r15.1.toNat (⟨e68.Kind,cA .i64 1 r67.1,e68.Role,e68.Cn,e68.Sn,e68.Epoch,e68.Seq,e68.Body,e68.Key,e68.A,e68.Now⟩:G.Note)
 k66 (r67.2,l69)) none)
 (aA (fun (y70:(List G.Note))=>
 k66 (r17.2,y70)) fun k71=>
 cond (r17.1==10)
 (cond (decide (0≤r15.1)&&decide (r15.1<(y5.1.length:Int))) (ob (y5.1[r15.1.toNat]?) fun e72=>
 cond (decide (0≤r15.1)&&decide (r15.1<(y5.1.length:Int))) (ob (y5.1[r15.1.toNat]?) fun e73=>
 let l74:List G.Note:=List.set y5.1 r15.1.toNat (⟨e73.Kind,e73.Id,sA .i64 1 e72.Role,e73.Cn,e73.Sn,e73.Epoch,e73.Seq,e73.Body,e73.Key,e73.A,e73.Now⟩:G.Note)
 k71 l74) none) none)
 (aA (fun (y75:(List G.Note))=>
 k71 y75) fun k76=>
 cond (r17.1==11)
 (cond (decide (0≤r15.1)&&decide (r15.1<(y5.1.length:Int))) (ob (y5.1[r15.1.toNat]?) fun e77=>
 ob (KA e77) fun r78=>
 cond (decide (0≤r16.1)&&decide (r16.1<(y5.1.length:Int))) (ob (y5.1[r16.1.toNat]?) fun e79=>
 ob (KA e79) fun r80=>
 cond (decide (0≤r15.1)&&decide (r15.1<(y5.1.length:Int))) (ob (y5.1[r15.1.toNat]?) fun e81=>
 cond (decide (0≤r16.1)&&decide (r16.1<((List.set y5.1 r15.1.toNat r80).length:Int))) (ob ((List.set y5.1 r15.1.toNat r80)[r16.1.toNat]?) fun e82=>
 k76 (List.set (List.set y5.1 r15.1.toNat r80) r16.1.toNat r78)) none) none) none) none)
 (k76 y5.1)))))))))))))) fun k13=>
 cond ((y5.1.length:Int)==0)
 (k13 (true,y5.2))
 (ob (nC.raw y5.2 3) fun r14=>
 k13 (r14.1,r14.2))) fun k6=>
 cond (decide ((r2.length:Int)>34))
 (ob (BA.raw r3.2 (sA .i64 (r2.length:Int) 34)) fun r7=>
 ob (nC.raw r7.2 2) fun r8=>
 aA (fun (y9:Int)=>
 cond (decide (0≤y9)&&decide (y9≤(cA .i64 y9 34))&&decide ((cA .i64 y9 34)≤(r2.length:Int))) (ob (KA (List.take ((cA .i64 y9 34 - y9).toNat) (List.drop y9.toNat r2))) fun r11=>
 k6 (r11,r8.2)) none) fun k10=>
 cond (r8.1)
 (k10 0)
 (k10 r7.1))
 (k6 (r2,r3.2)))
def cS.raw (a0:List UInt8) (a1:Int):Option Int:=
 cond (decide (a1<(a0.length:Int)))
 (ob (pA a0 a1) fun e1=>
 let x2:Int:=IntKind.wrap .i64 ((e1.toNat:Nat):Int)
 some x2)
 (let x3:Int:=cA .i64 (LB .i64 a1 31) (LB .i64 (a0.length:Int) 7)
 some (GA .i64 x3 256))
end
end Go.D
namespace Go.D
end Go.D
namespace Go.D
theorem jJ {α σ R:Type} [Wt α] (l:List α) (hl:wt l≤bA) (st:Int→List α→σ) (K:List α→Option R) {f:σ→(σ→Option R)→Option R}
  (hf:∀ (i:Nat) (hi:i<l.length) (acc:List α) (k:σ→Option R),f (st (i:Int) acc) k=cond (decide (acc.length+1≤bA)) (k (st (cA .i64 (i:Int) 1) (acc++[l[i]]))) none)
  (hz:∀ (acc:List α) (k:σ→Option R),f (st (l.length:Int) acc) k=K acc):tA FU f (st 0 [])=K l:=by
 have hL:=qA
 have hll:=CB l
 have key:∀ (n i:Nat),i≤l.length→l.length - i<n→tA n f (st (i:Int) (l.take i))=K l:=by
  intro n
  induction n with
  | zero=>intro i _ h;omega
  | succ n ih=>
   intro i hi hn
   show f (st (i:Int) (l.take i)) (tA n f)=K l
   rcases Nat.lt_or_ge i l.length with h | h
   ·rw [hf i h]
    have h1:decide ((l.take i).length+1≤bA)=true:=by
     rw [List.length_take];simp;omega
    rw [h1,cond_true]
    have h2:cA .i64 (i:Int) 1=((i+1:Nat):Int):=XC i (by rw [QC];omega)
    rw [h2,List.take_append_getElem h]
    exact ih (i+1) h (by omega)
   ·have:i=l.length:=by omega
    subst this
    rw [hz,List.take_length]
 rw [oV]
 exact key _ 0 (Nat.zero_le _) (by omega)
theorem FC {α β:Type} {l:List α} {x:Option β} (h:l.length≤bA):cond (decide (([]:List α).length+l.length≤bA)) x none=x:=by
 rw [decide_eq_true (by simpa using h)];rfl
theorem ME {α β:Type} [Wt α] {a:α} {f:α→Option β} (h:wt a≤bA):Option.bind (KA a) f=f a:=QA h
theorem zuE (x:G.Win) (h:wt x≤bA):zM.raw x=some x:=by
 rw [HP,UI] at h
 unfold zM.raw
 rw [FC h];rfl
theorem zuH (x:G.Ep) (h:wt x≤bA):BM.raw x=some x:=by
 rw [VH,LA] at h
 unfold BM.raw
 rw [FC (by omega),ME (by omega)];rfl
theorem ztZ (x:G.Ep) (b:Bool) (h:wt x≤bA):gM.raw x b=some x:=by
 unfold gM.raw
 rw [ME h]
 rw [VH,HP,UI,LA] at h
 rw [FC (by omega),FC (by omega)]
 cases b <;> rfl
theorem ztY (x:G.Chan) (h:wt x≤bA):fM.raw x=some x:=by
 rw [mH,LA,LA] at h
 unfold fM.raw
 rw [FC (by omega),ME (by omega),VQ,QA (by omega),FC (by omega)];rfl
theorem zt1 (x:G.Paths) (h:wt x≤bA):iM.raw x=some x:=by
 have hw:wt x=wt x.Cands:=by rw [aK,PD];omega
 rw [hw] at h
 unfold iM.raw
 simp only [aA]
 refine jJ x.Cands h (fun i acc=>(i,(⟨x.At,acc⟩:G.Paths))) (fun acc=>some (⟨x.At,acc⟩:G.Paths)) (fun i hi acc k=>?_) (fun acc k=>?_)
 ·have CW:((i:Int)<(x.Cands.length:Int)):=by omega
  have hm:=mD hi
  simp only [decide_eq_true CW,cond_true,nB hi,dB]
  rw [gI,QA (by omega)];rfl
 ·have CW:¬ ((x.Cands.length:Int)<(x.Cands.length:Int)):=by omega
  simp only [decide_eq_false CW,cond_false]
theorem zuf (x:G.Sess) (h:wt x≤bA):oM.raw x=some x:=by
 rw [TI,LA,LA] at h
 unfold oM.raw
 rw [FC (by omega),FC (by omega),ME (by omega),ME (by omega)];rfl
theorem zuh (x:G.Tab) (h:wt x≤bA):pM.raw x=some x:=by
 rw [nH] at h
 unfold pM.raw
 simp only [aA]
 refine jJ x.L h (fun i acc=>(i,(⟨x.Cap,acc⟩:G.Tab))) (fun acc=>some (⟨x.Cap,acc⟩:G.Tab)) (fun i hi acc k=>?_) (fun acc k=>?_)
 ·have CW:((i:Int)<(x.L.length:Int)):=by omega
  have hm:=mD hi
  simp only [decide_eq_true CW,cond_true,nB hi,dB]
  rw [ME (by omega)];rfl
 ·have CW:¬ ((x.L.length:Int)<(x.L.length:Int)):=by omega
  simp only [decide_eq_false CW,cond_false]
theorem zuj (x:G.Server) (h:wt x≤bA):qM.raw x=some x:=by
 rw [LM,fV,LA] at h
 have hc:=CB x.Cr
 unfold qM.raw
 rw [FC (by omega),wH,QA (by omega),ME (by omega),FC (by omega)]
 simp only [aA]
 refine jJ x.Psks (by omega) (fun i acc=>(i,(⟨acc,(⟨[]++x.J.Secret⟩:G.Jar),x.D,x.T,[]++x.Cr⟩:G.Server))) (fun acc=>some (⟨acc,(⟨[]++x.J.Secret⟩:G.Jar),x.D,x.T,[]++x.Cr⟩:G.Server)) (fun i hi acc k=>?_) (fun acc k=>?_)
 ·have CW:((i:Int)<(x.Psks.length:Int)):=by omega
  have hm:=mD hi
  rw [LA] at hm
  simp only [decide_eq_true CW,cond_true,nB hi,dB]
  rw [FC (by omega)];rfl
 ·have CW:¬ ((x.Psks.length:Int)<(x.Psks.length:Int)):=by omega
  simp only [decide_eq_false CW,cond_false]
theorem zuo (x:List G.Wire) (h:wt x≤bA):rM.raw x=some x:=by
 unfold rM.raw
 simp only [aA]
 refine jJ x h (fun i acc=>(acc,i)) (fun acc=>some acc) (fun i hi acc k=>?_) (fun acc k=>?_)
 ·have CW:((i:Int)<(x.length:Int)):=by omega
  have hm:=mD hi
  rw [zhb,LA] at hm
  simp only [decide_eq_true CW,cond_true,nB hi,dB]
  rw [FC (by omega)];rfl
 ·have CW:¬ ((x.length:Int)<(x.length:Int)):=by omega
  simp only [decide_eq_false CW,cond_false]
theorem zt4 (x:G.Note) (h:wt x≤bA):kM.raw x=some x:=by
 rw [AG,LA,LA,LA,LA] at h
 unfold kM.raw
 rw [FC (by omega),FC (by omega),FC (by omega),FC (by omega)];rfl
theorem zt3 (x:List G.Note) (h:wt x≤bA):jM.raw x=some x:=by
 unfold jM.raw
 simp only [aA]
 refine jJ x h (fun i acc=>(acc,i)) (fun acc=>some acc) (fun i hi acc k=>?_) (fun acc k=>?_)
 ·have CW:((i:Int)<(x.length:Int)):=by omega
  have hm:=mD hi
  simp only [decide_eq_true CW,cond_true,nB hi,dB]
  rw [ME (by omega)];rfl
 ·have CW:¬ ((x.length:Int)<(x.length:Int)):=by omega
  simp only [decide_eq_false CW,cond_false]
theorem zuC (x:G.Frame) (h:wt x≤bA):yM.raw x=some x:=by
 rw [zG,LA,LA,LA,LA,LA,LA] at h
 unfold yM.raw
 rw [FC (by omega),FC (by omega),FC (by omega),FC (by omega),FC (by omega),FC (by omega)];rfl
theorem zt9 (x:G.Client) (h:wt x≤bA):lM.raw x=some x:=by
 rw [JM,LA,LA] at h
 unfold lM.raw
 rw [FC (by omega),FC (by omega),ME (by omega),ME (by omega)];rfl
theorem zur (x:G.World) (h:wt x≤bA):tM.raw x=some x:=by
 rw [IP] at h
 unfold tM.raw
 rw [ME (by omega),wH,QA (by omega),ME (by omega),ME (by omega)]
 have key2:∀ w:G.World,w.Known=[]→tA FU (fun (x13:Int × G.World) k14=>
   cond (decide (x13.1<(x.Known.length:Int)))
   (Option.bind (pA x.Known x13.1) fun e15=>
   cond (decide (([]:List UInt8).length+e15.length≤bA)) (cond (decide (x13.2.Known.length+[[]++e15].length≤bA)) (k14 ((cA .i64 x13.1 1),(⟨x13.2.Now,x13.2.Clients,x13.2.S,x13.2.D,x13.2.Seen,x13.2.Known++[[]++e15],x13.2.Notes⟩:G.World))) none) none)
   (some x13.2)) (0,w)=some (⟨w.Now,w.Clients,w.S,w.D,w.Seen,x.Known,w.Notes⟩:G.World):=fun w hw=>by
  obtain ⟨w1,w2,w3,w4,w5,w6,w7⟩:=w
  cases hw
  refine jJ x.Known (by omega) (fun i acc=>(i,(⟨w1,w2,w3,w4,w5,acc,w7⟩:G.World))) (fun acc=>some (⟨w1,w2,w3,w4,w5,acc,w7⟩:G.World)) (fun i hi acc k=>?_) (fun acc k=>?_)
  ·have CW:((i:Int)<(x.Known.length:Int)):=by omega
   have hm:=mD hi
   rw [LA] at hm
   simp only [decide_eq_true CW,cond_true,nB hi,dB]
   rw [FC (by omega)];rfl
  ·have CW:¬ ((x.Known.length:Int)<(x.Known.length:Int)):=by omega
   simp only [decide_eq_false CW,cond_false]
 simp only [aA]
 refine jJ x.Clients (by omega) (fun i acc=>(i,(⟨x.Now,acc,x.S,x.D,x.Seen,[],x.Notes⟩:G.World))) (fun acc=>some (⟨x.Now,acc,x.S,x.D,x.Seen,x.Known,x.Notes⟩:G.World)) (fun i hi acc k=>?_) (fun acc k=>?_)
 ·have CW:((i:Int)<(x.Clients.length:Int)):=by omega
  have hm:=mD hi
  simp only [decide_eq_true CW,cond_true,nB hi,dB]
  rw [ME (by omega)];rfl
 ·have CW:¬ ((x.Clients.length:Int)<(x.Clients.length:Int)):=by omega
  simp only [decide_eq_false CW,cond_false]
  exact key2 _ rfl
theorem zM.ok {x:lA [.v .Win]} (_:rA [.v .Win] x) {r:G.Win}:KA (α:=G.Win) x=some r→zM.raw x=some r:=HA fun h=>zuE x h
theorem BM.ok {x:lA [.v .Ep]} (_:rA [.v .Ep] x) {r:G.Ep}:KA (α:=G.Ep) x=some r→BM.raw x=some r:=HA fun h=>zuH x h
theorem fM.ok {x:lA [.v .Chan]} (_:rA [.v .Chan] x) {r:G.Chan}:KA (α:=G.Chan) x=some r→fM.raw x=some r:=HA fun h=>ztY x h
theorem iM.ok {x:lA [.v .Paths]} (_:rA [.v .Paths] x) {r:G.Paths}:KA (α:=G.Paths) x=some r→iM.raw x=some r:=HA fun h=>zt1 x h
theorem oM.ok {x:lA [.v .Sess]} (_:rA [.v .Sess] x) {r:G.Sess}:KA (α:=G.Sess) x=some r→oM.raw x=some r:=HA fun h=>zuf x h
theorem pM.ok {x:lA [.v .Tab]} (_:rA [.v .Tab] x) {r:G.Tab}:KA (α:=G.Tab) x=some r→pM.raw x=some r:=HA fun h=>zuh x h
theorem qM.ok {x:lA [.v .Server]} (_:rA [.v .Server] x) {r:G.Server}:KA (α:=G.Server) x=some r→qM.raw x=some r:=HA fun h=>zuj x h
theorem rM.ok {x:lA [.sl .Wire]} (_:rA [.sl .Wire] x) {r:List G.Wire}:KA (α:=List G.Wire) x=some r→rM.raw x=some r:=HA fun h=>zuo x h
theorem kM.ok {x:lA [.v .Note]} (_:rA [.v .Note] x) {r:G.Note}:KA (α:=G.Note) x=some r→kM.raw x=some r:=HA fun h=>zt4 x h
theorem jM.ok {x:lA [.sl .Note]} (_:rA [.sl .Note] x) {r:List G.Note}:KA (α:=List G.Note) x=some r→jM.raw x=some r:=HA fun h=>zt3 x h
theorem yM.ok {x:lA [.v .Frame]} (_:rA [.v .Frame] x) {r:G.Frame}:KA (α:=G.Frame) x=some r→yM.raw x=some r:=HA fun h=>zuC x h
theorem lM.ok {x:lA [.v .Client]} (_:rA [.v .Client] x) {r:G.Client}:KA (α:=G.Client) x=some r→lM.raw x=some r:=HA fun h=>zt9 x h
theorem tM.ok {x:lA [.v .World]} (_:rA [.v .World] x) {r:G.World}:KA (α:=G.World) x=some r→tM.raw x=some r:=HA fun h=>zur x h
theorem gM.ok {x:lA [.v .Ep, .v .bool]} (_:rA [.v .Ep, .v .bool] x) {r:G.Ep}:VQ x.1 x.2=some r→gM.raw x.1 x.2=some r:=HA fun h=>ztZ x.1 x.2 h
end Go.D
namespace Go.D
instance:Wt G.Out:=⟨fun x=>wt x.To+wt x.F⟩
theorem zvt (x:G.Out):wt x=wt x.To+wt x.F:=rfl
instance:Wt Nat:=⟨fun _=>0⟩
theorem Ok.guard {α γ β:Type} [Wt α] [Wt γ] {l:List α} {m:List γ} {x:Option β} {P:β→Prop} (h:wt l+wt m≤bA) (k:Ok x P):Ok (cond (decide (l.length+m.length≤bA)) x none) P:=by
 have h1:=CB l
 have h2:=CB m
 rw [decide_eq_true (by omega)];exact k
theorem Ok.ble {α β:Type} [Wt α] {l:List α} {x:Option β} {P:β→Prop} (h:wt l≤bA) (k:Ok x P):Ok (cond (Nat.ble l.length bA) x none) P:=by
 have h1:=CB l
 rw [Nat.ble_eq_true_of_le (by omega)];exact k
theorem Ok.chk {β:Type} {b:Bool} {x:Option β} {P:β→Prop} (h:b=true) (k:Ok x P):Ok (cond b x none) P:=by rw [h];exact k
theorem Ok.chkn {β:Type} {b:Bool} {x:Option β} {P:β→Prop} (h:b=false) (k:Ok x P):Ok (cond b none x) P:=by rw [h];exact k
theorem Ok.join {α β:Type} {F:α→Option β} {G:(α→Option β)→Option β} {P:β→Prop} (Q:α→Prop) (h1:∀ y,Q y→Ok (F y) P) (h2:∀ k:α→Option β,(∀ y,Q y→Ok (k y) P)→Ok (G k) P):
  Ok (aA F G) P:=h2 F h1
theorem Ok.joinR {α β:Type} {F:α→Option β} {G:(α→Option β)→Option β} {P:β→Prop} (Q:α→Prop) (h2:∀ k:α→Option β,(∀ y,Q y→Ok (k y) P)→Ok (G k) P) (h1:∀ y,Q y→Ok (F y) P):
  Ok (aA F G) P:=h2 F h1
theorem Ok.condR {α:Type} {b:Bool} {x y:Option α} {P:α→Prop} (h2:b=false→Ok y P) (h1:b=true→Ok x P):Ok (cond b x y) P:=Ok.cond' h1 h2
theorem Ok.loopR {σ R:Type} {f:σ→(σ→Option R)→Option R} {P:R→Prop} (inv:σ→Prop) (μ:σ→Nat) {x:σ} (hx:inv x) (hμ:μ x<2^64)
  (h:∀ x,inv x→∀ k:σ→Option R,(∀ y,inv y→μ y<μ x→Ok (k y) P)→Ok (f x k) P):Ok (tA FU f x) P:=Ok.loop inv μ h hx hμ
theorem Ok.idx {α:Type} {l:List α} {i:Int} (h0:0≤i) (h1:i<(l.length:Int)):Ok (pA l i) fun x=>l[i.toNat]?=some x:=by
 obtain ⟨j,rfl⟩:=Int.eq_ofNat_of_zero_le h0
 have hj:j<l.length:=by omega
 exact ⟨l[j],nB hj,by rw [Int.toNat_natCast,List.getElem?_eq_getElem hj]⟩
theorem Ok.get {α:Type} {l:List α} {i:Nat} (h:i<l.length):Ok (l[i]?) fun x=>l[i]?=some x:=⟨l[i],List.getElem?_eq_getElem h,List.getElem?_eq_getElem h⟩
theorem Ok.same {α β:Type} {o:Option α} {a:α} {f:α→Option β} {P:β→Prop} (h:o=some a) (k:Ok (f a) P):Ok (Option.bind o f) P:=by rw [h];exact k
theorem wA {α:Type} [Wt α] {l:List α} {i:Nat} {x:α} (h:l[i]?=some x):wt x+1≤wt l:=kV (List.mem_of_getElem? h)
theorem EB {α:Type} [Wt α]:∀ (l:List α) (i:Nat) (x:α),wt (l.set i x)≤wt l+wt x
 | [],i,x=>by simp [BG]
 | y :: l,0,x=>by rw [List.set_cons_zero,fD,fD];omega
 | y :: l,i+1,x=>by rw [List.set_cons_succ,fD,fD];have:=EB l i x;omega
theorem GD {x a b:Int}:iA x a b=true↔a≤x∧x≤b:=by simp [iA]
theorem zqA {x a b:Int}:iA x a b=false↔¬ (a≤x∧x≤b):=by rw [← Bool.not_eq_true,GD]
theorem zA {a b:Int} (h1: -9223372036854775808≤a+b) (h2:a+b≤9223372036854775807):cA .i64 a b=a+b:=fC h1 h2
theorem PA {a b:Int} (h1: -9223372036854775808≤a - b) (h2:a - b≤9223372036854775807):sA .i64 a b=a - b:=fC h1 h2
theorem zbg {a b:Int} (h1:0≤a):GA .i64 a b=a % b:=Int.tmod_eq_emod_of_nonneg h1
theorem WQ {e:G.Ep} (h:fE e=true):e.Key.length=32∧e.Win.Bits.length=32:=by
 simp only [fE,lE,vC,Bool.and_eq_true,beq_iff_eq] at h
 omega
theorem zvj {w:G.Win} (h:lE w=true):w.Bits.length=32∧ -1≤w.Top∧w.Top≤281474976710655:=by
 simp only [lE,vC,Bool.and_eq_true,beq_iff_eq,GD] at h
 omega
theorem mI {f:G.Frame} (h:qD f=true):f.Cn.length≤12∧f.Sn.length≤12∧f.Cookie.length≤16∧f.Proof.length≤16∧f.Body.length≤40∧f.Tag.length≤16∧(f.Kind=3→1≤f.Id∧f.Id≤9):=by
 unfold qD at h
 cases hs:GC f.Kind
 ·rw [hs,cond_false] at h
  simp only [Bool.and_eq_true,beq_iff_eq] at h
  obtain ⟨⟨⟨⟨⟨h1,h2⟩,h3⟩,h4⟩,h5⟩,h6⟩:=h
  by_cases k1:f.Kind=1
  ·simp only [k1,beq_self_eq_true,cond_true,Bool.and_eq_true,beq_iff_eq,GD] at h6;omega
  ·have k1':(f.Kind==1)=false:=by simpa using k1
   rw [k1',cond_false] at h6
   by_cases k2:f.Kind=2
   ·simp only [k2,beq_self_eq_true,cond_true,Bool.and_eq_true,beq_iff_eq,GD] at h6;omega
   ·have k2':(f.Kind==2)=false:=by simpa using k2
    simp only [k2',cond_false,Bool.and_eq_true,beq_iff_eq,GD] at h6
    omega
 ·rw [hs,cond_true] at h
  simp only [Bool.and_eq_true,beq_iff_eq,GD] at h
  have hb:f.Body.length≤40:=by
   have hb:=h.1.2
   unfold DF at hb
   cases k4:f.Kind==4 <;> rw [k4] at hb
   ·cases k5:f.Kind==5||f.Kind==6 <;> rw [k5] at hb <;> simp at hb <;> omega
   ·simp at hb;omega
  unfold GC at hs
  rw [GD] at hs
  omega
theorem zbt {e:G.Ep} (h:WE e=true):e.Key.length=0∧e.Win.Bits.length=0:=by
 simp only [WE,Bool.and_eq_true,beq_iff_eq] at h
 omega
theorem mQ {c:G.Chan} (h:MG c=true):wt c≤172∧c.Sn.length=12∧c.Cur.Key.length=32:=by
 simp only [MG,iL,MB,Bool.and_eq_true,Bool.or_eq_true,beq_iff_eq] at h
 obtain ⟨⟨⟨⟨h1,h2⟩,h3⟩,h4⟩,h5⟩:=h
 have h3:=WQ h3
 have h6:c.Old.Key.length≤32∧c.Old.Win.Bits.length≤32:=by
  cases ho:c.HasOld
  ·rw [ho,cond_false,Bool.and_eq_true] at h4
   have:=zbt h4.1;omega
  ·rw [ho,cond_true] at h4
   simp only [Bool.and_eq_true] at h4
   have:=WQ h4.1.1;omega
 simp only [mH,VH,HP,LA,UI]
 omega
theorem zbs {c:G.Chan} (h:zE c=true):wt c=0:=by
 simp only [zE,Bool.and_eq_true,beq_iff_eq] at h
 obtain ⟨⟨⟨⟨⟨⟨h1,h2⟩,h3⟩,h4⟩,h5⟩,h6⟩,h7⟩:=h
 have h3:=zbt h3
 have h4:=zbt h4
 simp only [mH,VH,HP,LA,UI]
 omega
theorem zbu {f:G.Frame} (h:AE f=true):wt f=0:=by
 simp only [AE,Bool.and_eq_true,beq_iff_eq] at h
 simp only [zG,LA]
 omega
theorem jV {α:Type} [Wt α] (n:Nat):∀ l:List α,(∀ x ∈ l,wt x≤n)→wt l≤(n+1) *l.length
 | [],_=>by simp [BG]
 | x :: l,h=>by
  have h1:=h x (by simp)
  have h2:=jV n l fun y hy=>h y (by simp [hy])
  rw [fD,List.length_cons,Nat.mul_add];omega
theorem zcy {n:Nat} {p:Nat→Bool} (h:(!YA n p)=true) {i:Nat} (hi:i<n):p i=false:=by
 cases hp:p i
 ·rfl
 ·have:YA n p=true:=EG.2 ⟨i,hi,hp⟩
  rw [this] at h;cases h
theorem pS {p:G.Paths} (h:sD p=true):wt p≤39∧p.Cands.length≤3:=by
 simp only [sD,Bool.and_eq_true,decide_eq_true_eq] at h
 obtain ⟨⟨h1,h2⟩,h3⟩:=h
 have hb:wt p.Cands≤(12+1) *p.Cands.length:=jV 12 p.Cands fun x hx=>by
  obtain ⟨i,hi,rfl⟩:=List.mem_iff_getElem.1 hx
  have:=zcy h3 hi
  unfold wK at this
  rw [List.getElem?_eq_getElem hi] at this
  simp only [Option.any_some,Bool.or_eq_false_iff,Bool.not_eq_false',MB,beq_iff_eq] at this
  simp only [zcj,PD,LA]
  omega
 simp only [aK,PD]
 omega
theorem zf6 {s:G.Sess} (h:eH s=true):wt s≤235∧s.Sn.length=12:=by
 simp only [eH,MB,Bool.and_eq_true,beq_iff_eq] at h
 obtain ⟨⟨⟨⟨h1,h2⟩,h3⟩,h4⟩,h5⟩:=h
 have h6:wt s.C+wt s.P≤211:=by
  cases hd:s.Dead
  ·rw [hd,cond_false] at h5
   simp only [Bool.and_eq_true] at h5
   have:=mQ h5.1.1.1.1
   have:=pS h5.1.2
   omega
  ·rw [hd,cond_true] at h5
   simp only [Bool.and_eq_true,beq_iff_eq] at h5
   have:=zbs h5.1.1.1
   have hl:s.P.Cands=[]:=List.eq_nil_of_length_eq_zero (by omega)
   have:wt s.P=0:=by rw [aK,hl,PD];rfl
   omega
 simp only [TI,LA]
 omega
theorem zgV {t:G.Tab} (h:vG t=true):wt t≤2832∧t.L.length≤12:=by
 simp only [vG,Bool.and_eq_true,decide_eq_true_eq] at h
 obtain ⟨⟨⟨h1,h2⟩,h3⟩,h4⟩:=h
 have hb:wt t.L≤(235+1) *t.L.length:=jV 235 t.L fun x hx=>by
  obtain ⟨i,hi,rfl⟩:=List.mem_iff_getElem.1 hx
  have:=zcy h4 hi
  unfold FI at this
  rw [List.getElem?_eq_getElem hi] at this
  simp only [Option.any_some,Bool.or_eq_false_iff,Bool.not_eq_false'] at this
  exact (zf6 this.1).1
 rw [nH]
 omega
theorem oQ {l:List G.Credit} (h:SD l=true):wt l≤8∧l.length≤8:=by
 simp only [SD,Bool.and_eq_true,decide_eq_true_eq] at h
 have:=lV (α:=G.Credit) (fun _=>rfl) l
 omega
theorem fO {b:List UInt8} (h:mC b=true):1≤b.length∧b.length≤32:=by
 simp only [mC,GD] at h;omega
theorem XH {a:G.Addr} (h:oB a=true):0≤a.Host∧a.Host≤4294967295∧0≤a.Port∧a.Port≤65535:=by
 simp only [oB,Bool.and_eq_true,GD] at h;omega
theorem zfa {j:G.Jar} (h:xE j=true):j.Secret.length=32:=by
 simp only [xE,beq_iff_eq] at h;omega
theorem zpw {d:G.Dice} (h:tC d=true):d.Seed.length≤32:=by
 simp only [tC,Bool.and_eq_true,GD] at h;omega
def SF (s:G.Server):Prop:=wt s≤3300∧s.T.L.length≤12∧s.Psks.length≤9∧s.J.Secret.length=32
theorem zsP {s:G.Server} (h:cD s=true):SF s:=by
 simp only [cD,Bool.and_eq_true,GD] at h
 obtain ⟨⟨⟨⟨⟨⟨h1,h2⟩,h3⟩,h4⟩,h5⟩,h6⟩,h7⟩:=h
 have h2:=zfa h2
 have h3:=zpw h3
 have h4:=zgV h4
 have h5:=oQ h5
 have hb:wt s.Psks≤(32+1) *s.Psks.length:=jV 32 s.Psks fun x hx=>by
  rw [Bool.not_eq_true',List.any_eq_false] at h6
  have:=h6 x hx
  simp only [Bool.not_eq_true',Bool.not_eq_false] at this
  have:=fO this
  rw [LA];omega
 simp only [SF,LM,fV,KM,LA]
 omega
def CF (c:G.Client):Prop:=wt c≤350∧1≤c.Id∧c.Id≤9∧1≤c.Psk.length∧c.Psk.length≤32∧0≤c.At.Host∧c.At.Host≤4294967295∧0≤c.At.Port∧c.At.Port≤65535
theorem zoS {c:G.Client} (h:LE c=true):CF c:=by
 simp only [LE,Bool.and_eq_true,GD] at h
 obtain ⟨⟨⟨h1,h2⟩,h3⟩,h4⟩:=h
 have h2:=fO h2
 have h3:=XH h3
 have h5:wt c.Cn+wt c.Fin+wt c.C≤310:=by
  cases k0:c.St==0
  ·rw [k0,cond_false] at h4
   cases k1:c.St==1
   ·rw [k1,cond_false] at h4
    cases k2:c.St==2
    ·rw [k2,cond_false] at h4
     simp only [Bool.and_eq_true,MB,beq_iff_eq] at h4
     obtain ⟨⟨⟨⟨⟨⟨⟨⟨_,a1⟩,a2⟩,a3⟩,_⟩,_⟩,_⟩,_⟩,_⟩:=h4
     have a2:=zbu a2
     have a3:=mQ a3
     rw [LA];omega
    ·rw [k2,cond_true] at h4
     simp only [Bool.and_eq_true] at h4
     have hf:=h4.1.1.1.1
     simp only [BK,Bool.and_eq_true,MB,beq_iff_eq] at hf
     obtain ⟨⟨⟨⟨⟨⟨⟨⟨⟨⟨a1,_⟩,a2⟩,_⟩,_⟩,a3⟩,_⟩,_⟩,_⟩,_⟩,_⟩:=hf
     have a2:=mI a2
     have a3:=mQ a3
     simp only [zG,LA];omega
   ·rw [k1,cond_true] at h4
    simp only [Bool.and_eq_true,MB,beq_iff_eq] at h4
    obtain ⟨⟨⟨⟨⟨⟨a1,a2⟩,a3⟩,_⟩,_⟩,_⟩,_⟩:=h4
    have a2:=zbu a2
    have a3:=zbs a3
    rw [LA];omega
  ·rw [k0,cond_true] at h4
   simp only [Bool.and_eq_true,beq_iff_eq] at h4
   obtain ⟨⟨⟨⟨⟨a1,a2⟩,a3⟩,_⟩,_⟩,_⟩:=h4
   have a2:=zbu a2
   have a3:=zbs a3
   rw [LA];omega
 simp only [CF,JM,PD,gV,LA] at h5 ⊢
 omega
theorem tD {α:Type} {p:Prop} {x:α} {P:α→Prop} (h:p) (k:P x):Ok (pt p x) P:=⟨x,XA h,k⟩
theorem gJ {c:G.Client} (h:wt c≤bA):Ok (dE c) fun r=>r=true→CF c:=tD h zoS
theorem NG {c:G.Chan} (h:wt c≤bA):Ok (yC c) fun r=>r=true→wt c≤172:=tD h fun k=>(mQ k).1
theorem nL {c:G.Sess} (h:wt c≤bA):Ok (XD c) fun r=>r=true→wt c≤235:=tD h fun k=>(zf6 k).1
theorem zgU {c:G.Tab} (h:wt c≤bA):Ok (kH c) fun r=>r=true→wt c≤2832∧c.L.length≤12:=tD h zgV
theorem nO {c:G.Server} (h:wt c≤bA):Ok (dD c) fun r=>r=true→SF c:=tD h zsP
theorem ZE {b:List UInt8} {n k:Int} (h:wt b+6≤bA):Ok (LC b n k) fun r=>r.length≤b.length+6:=tD h (by
 unfold LH
 cases hc:decide (k<1)||decide (k>6)
 ·rw [cond_false,List.length_append,oK]
  simp only [Bool.or_eq_false_iff,decide_eq_false_iff_not] at hc
  omega
 ·rw [cond_true];omega)
theorem pR {b:List UInt8} {n k:Int} (h:wt b≤bA):Ok (CH b n k) fun _=>True:=tD h trivial
theorem rR (k b:List UInt8):(FD k b).length≤32:=by
 unfold FD
 cases decide ((k.length:Int)>1048576)||decide ((b.length:Int)>1048512)
 ·exact IS _
 ·exact Nat.zero_le _
theorem xS {d:G.Dice} (h:wt d≤bA):Ok (NH d) fun r=>wt r.1≤wt d∧r.2.length≤12:=tD h (by
 unfold CE
 cases !tC d||d.N==10000
 ·exact ⟨Nat.le_refl _,OQ _ _⟩
 ·exact ⟨Nat.le_refl _,Nat.zero_le _⟩)
theorem jI {k l:List UInt8} (h:wt l≤bA):Ok (jF k l) fun r=>r.length≤32:=tD h (zem k l)
theorem zp2 (t:G.Tab) (b:List UInt8): -1≤kF t b∧kF t b<(t.L.length:Int):=by
 unfold kF
 rcases bR t.L.length (nI t b) with ⟨_,h⟩ | ⟨m,h1,_,_,h⟩ <;> rw [h] <;> omega
theorem zas (l:List G.Credit) (a:G.Addr): -1≤BB l a∧BB l a<(l.length:Int):=by
 unfold BB
 rcases bR l.length (dG l a) with ⟨_,h⟩ | ⟨m,h1,_,_,h⟩ <;> rw [h] <;> omega
theorem cR {t:G.Tab} {b:List UInt8} (h:wt t≤bA∧wt b≤bA):Ok (pD t b) fun r=> -1≤r∧r<(t.L.length:Int):=tD h (zp2 t b)
theorem zqV {t:G.Tab} (h:wt t≤bA):Ok (VG t) fun _=>True:=tD h trivial
theorem kO {a b:List UInt8} (h:wt a≤bA∧wt b≤bA):Ok (eB a b) fun _=>True:=tD h trivial
theorem zhE {w:G.Win} {n:Int} (h:0≤n∧w.Bits.length=32):Ok (KE w n) fun _=>True:=tD h trivial
theorem zec {id:Int} {p:List UInt8} {a:G.Addr} (h:wt p≤bA) (h1:1≤id∧id≤9) (h2:1≤p.length∧p.length≤32) (h3:0≤a.Host∧a.Host≤4294967295∧0≤a.Port∧a.Port≤65535):
  Ok (uH id p a) fun r=>wt r≤p.length∧r.Id=id:=tD h (by
 have e1:iA id 1 9=true:=GD.2 h1
 have e2:mC p=true:=GD.2 (by omega)
 have e3:oB a=true:=by
  unfold oB
  rw [Bool.and_eq_true,GD,GD];omega
 unfold CC
 rw [e1,e2,e3]
 refine ⟨?_,rfl⟩
 simp only [Bool.and_self,cond_true,bG,JM,PD,gV,LA]
 show p.length+0+0+wt za2+wt zav+0+0≤p.length
 have:wt za2=0:=rfl
 have:wt zav=0:=rfl
 omega)
theorem kS {b:List UInt8} (h:wt b≤bA):KH b=some (BE b):=XA h
theorem zj3 {p:G.Paths} {a:G.Addr} (h:wt p≤bA):Ok (lQ p a) fun r=>wt r.1≤39∧(r.2=true→wt p≤39∧p.Cands.length≤3):=tD h (by
 unfold kQ
 cases hp:sD p
 ·exact ⟨Nat.zero_le _,fun h=>nomatch h⟩
 ·have hf:=pS hp
  rw [cond_true]
  cases hc:p.Cands.find? fun e=>MC e.A a with
  | none=>exact ⟨Nat.zero_le _,fun h=>nomatch h⟩
  | some e=>
   have:=kV (List.mem_of_find?_eq_some hc)
   have hw:wt p=wt p.Cands:=by rw [aK,PD];omega
   refine ⟨?_,fun _=>hf⟩
   show wt e≤39
   omega)
def eG (l:List G.Client) (i:Nat):Int:=match l[i]? with
 | some c=>c.Id
 | none=>0
def TW (w:G.World):Prop:=w.Clients.length=2∧eG w.Clients 0=1∧eG w.Clients 1=2
theorem uE {l:List G.Client} {i:Nat} {x:G.Client} (h:l[i]?=some x):eG l i=x.Id:=by unfold eG;rw [h]
theorem pI {l:List G.Client} {i:Nat} {x:G.Client} (h:x.Id=eG l i) (hi:i<l.length) (j:Nat):eG (l.set i x) j=eG l j:=by
 unfold eG at h ⊢
 rw [List.getElem?_set]
 by_cases hj:i=j
 ·subst hj
  rw [if_pos rfl,if_pos hi]
  exact h
 ·rw [if_neg hj]
theorem zfJ {w:G.World} {a:G.Addr} (h:wt w≤bA) (h2:TW w):Ok (eO w a) fun r=> -1≤r∧r≤2:=tD h (by
 unfold oS
 cases MC a oI
 ·rw [cond_false]
  cases hc:w.Clients.find? fun c=>MC c.At a with
  | none=>show -1≤(-1:Int)∧(-1:Int)≤2;omega
  | some c=>
   obtain ⟨i,hi,he⟩:=List.mem_iff_getElem.1 (List.mem_of_find?_eq_some hc)
   have:=uE (List.getElem?_eq_getElem hi)
   rw [he] at this
   obtain ⟨h1,h3,h4⟩:=h2
   show -1≤c.Id∧c.Id≤2
   have:i=0∨i=1:=by omega
   rcases this with rfl | rfl <;> omega
 ·rw [cond_true];omega)
theorem xI {α:Type} {l:List α} {i:Nat} {x:α} (h:l[i]?=some x):i<l.length:=(List.getElem?_eq_some_iff.1 h).1
theorem TA {c:G.Cur} {l:List Int} (lo hi:Int) (h:jA c) (hl:l≠[]) (hb:∀ x ∈ l,lo≤x∧x≤hi):Ok (OA.raw c l) fun r=>(lo≤r.1∧r.1≤hi)∧jA r.2:=
 (zbf h hl).mono fun r hr=>⟨hb _ hr.1,hr.2⟩
theorem EA {c:G.Cur} {n:Int} (h:jA c):Ok (BA.raw c n) fun r=>0≤r.1∧(0<n→r.1<n)∧(n≤0→r.1=0)∧jA r.2:=vV h
theorem zub {c:G.Cur} (h:jA c):Ok (iH.raw c) fun r=>0≤r.1∧r.1≤255∧jA r.2:=nK h
theorem qB {c:G.Cur} {n:Int} (h:jA c) (hn:n≤1048576):Ok (mB.raw c n) fun r=>r.1.length=n.toNat∧jA r.2:=zhH h hn
theorem zC {c:G.Cur} {n:Int} (h:jA c):Ok (nC.raw c n) fun r=>jA r.2:=zr0 h
theorem zb1 {code:List UInt8} (h:code.length≤1048576):Ok (RJ.raw code) jA:=zrp h
theorem N:(∀ x:G.Client,wt x=wt x.Psk+wt x.Cn+wt x.Fin+wt x.C)∧(∀ x:G.Chan,wt x=x.Sn.length+wt x.Cur+wt x.Old+x.Next.length)∧(∀ x:G.Ep,wt x=x.Key.length+wt x.Win)∧(∀ x:G.Win,wt x=x.Bits.length)∧
  (∀ x:G.Frame,wt x=x.Cn.length+x.Sn.length+x.Cookie.length+x.Proof.length+x.Body.length+x.Tag.length)∧(∀ x:G.Note,wt x=x.Cn.length+x.Sn.length+x.Body.length+x.Key.length)∧
  (∀ x:G.Sess,wt x=x.Cn.length+x.Sn.length+wt x.C+wt x.P)∧(∀ x:G.Paths,wt x=wt x.Cands)∧(∀ x:G.Cand,wt x=x.Draw.length)∧(∀ x:G.Tab,wt x=wt x.L)∧
  (∀ x:G.Server,wt x=wt x.Psks+wt x.J+wt x.D+wt x.T+wt x.Cr)∧(∀ x:G.Jar,wt x=x.Secret.length)∧(∀ x:G.Dice,wt x=x.Seed.length)∧(∀ x:G.Credit,wt x=0)∧(∀ x:G.Wire,wt x=x.B.length)∧
  (∀ x:G.World,wt x=wt x.Clients+wt x.S+wt x.D+wt x.Seen+wt x.Known+wt x.Notes)∧(∀ x:G.Op,wt x=x.B.length)∧(∀ x:G.Event,wt x=x.B.length+wt x.Ops)∧(∀ x:G.Out,wt x=wt x.F)∧
  (∀ p:Prop,(True∧p)=p)∧(∀ p:Prop,(p∧True)=p)∧(∀ x:UInt8,wt x=0)∧(∀ x:Int,wt x=0)∧(∀ x:Nat,wt x=0)∧(∀ x:List UInt8,wt x=x.length)∧(∀ x:List Int,wt x=x.length)∧(∀ (α:Type) [Wt α] (l m:List α),wt (l++m)=wt l+wt m)∧(∀ (α:Type) [Wt α] (x:α) (l:List α),wt (x :: l)=wt x+wt l+1)∧(∀ (α:Type) [Wt α],wt ([]:List α)=0)∧
  (∀ (α:Type) (l m:List α),(l++m).length=l.length+m.length)∧(∀ (α:Type) (x:α) (l:List α),(x :: l).length=l.length+1)∧(∀ (α:Type),([]:List α).length=0)∧(∀ (α:Type) (l:List α) (i:Nat) (x:α),(l.set i x).length=l.length)∧
  (∀ (α:Type) (l:List α) (i:Nat),(l.take i).length=min i l.length)∧(∀ (α:Type) (l:List α) (i:Nat),(l.drop i).length=l.length - i)∧
  (∀ c,CF c↔(wt c≤350∧1≤c.Id∧c.Id≤9∧1≤c.Psk.length∧c.Psk.length≤32∧0≤c.At.Host∧c.At.Host≤4294967295∧0≤c.At.Port∧c.At.Port≤65535))∧
  (∀ s,SF s↔(wt s≤3300∧s.T.L.length≤12∧s.Psks.length≤9∧s.J.Secret.length=32))∧(∀ w,TW w↔(w.Clients.length=2∧eG w.Clients 0=1∧eG w.Clients 1=2))∧(∀ c,jA c↔(0≤c.i∧c.i≤c.b.length∧c.b.length≤1048576)):=by
 refine ⟨fun x=>?_,fun x=>?_,fun x=>?_,fun x=>?_,fun x=>?_,fun x=>?_,fun x=>?_,fun x=>?_,fun x=>?_,fun x=>?_,fun x=>?_,fun x=>?_,fun x=>?_,fun x=>?_,fun x=>?_,fun x=>?_,fun x=>?_,fun x=>?_,fun x=>?_,
  true_and,and_true,fun _=>rfl,fun _=>rfl,fun _=>rfl,LA,UI,fun _ _=>iV,fun _ _=>fD,fun _ _=>BG,fun _ _ _=>List.length_append,fun _ _ _=>List.length_cons,fun _=>List.length_nil,fun _ _ _ _=>List.length_set,fun _ _ _=>List.length_take,fun _ _ _=>List.length_drop,
  fun _=>Iff.rfl,fun _=>Iff.rfl,fun _=>Iff.rfl,fun _=>Iff.rfl⟩
 ·rw [JM,PD,gV,gV];omega
 ·rw [mH,LA,LA]
 ·rw [VH,LA]
 ·rw [HP,UI]
 ·rw [zG,LA,LA,LA,LA,LA,LA]
 ·rw [AG,LA,LA,LA,LA,PD];omega
 ·rw [TI,LA,LA]
 ·rw [aK,PD];omega
 ·rw [zcj,PD,LA];omega
 ·rw [nH]
 ·rw [LM]
 ·rw [fV,LA]
 ·rw [KM,LA]
 ·rfl
 ·rw [zhb,PD,PD,LA];omega
 ·rw [IP]
 ·rw [zvs,LA]
 ·rw [zvr,LA]
 ·rw [zvt,PD];omega
theorem B:(∀ b:Bool,((!b)=true)=(b=false))∧(∀ b:Bool,((!b)=false)=(b=true))∧(∀ (p:Prop) [Decidable p],(decide p=true)=p)∧(∀ (p:Prop) [Decidable p],(decide p=false)=¬ p)∧
  (∀ (α:Type) [BEq α] [LawfulBEq α] (a b:α),((a==b)=true)=(a=b))∧(∀ (α:Type) [BEq α] [LawfulBEq α] (a b:α),((a==b)=false)=¬ (a=b))∧
  (∀ (α:Type) [BEq α] [LawfulBEq α] (a b:α),((a !=b)=true)=¬ (a=b))∧(∀ (α:Type) [BEq α] [LawfulBEq α] (a b:α),((a !=b)=false)=(a=b))∧
  (∀ x a b:Int,(iA x a b=true)=(a≤x∧x≤b))∧(∀ x a b:Int,(iA x a b=false)=¬ (a≤x∧x≤b))∧(∀ a b:Bool,((a&&b)=true)=(a=true∧b=true))∧(∀ a b:Bool,((a||b)=true)=(a=true∨b=true)):=by
 refine ⟨fun b=>by cases b <;> simp,fun b=>by cases b <;> simp,fun p _=>by simp,fun p _=>by simp,fun _ _ _ a b=>by simp,fun _ _ _ a b=>by simp,fun _ _ _ a b=>by simp,fun _ _ _ a b=>by simp,
  fun x a b=>propext GD,fun x a b=>propext zqA,fun a b=>by simp,fun a b=>by simp⟩
end Go.D
