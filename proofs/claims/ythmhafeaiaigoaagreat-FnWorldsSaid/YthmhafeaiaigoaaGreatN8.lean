/-
 Sizes of the program's data.
-/
import Derived.Test.YthmhafeaiaigoaaGreatN9
set_option linter.all false
namespace Go.D
end Go.D
namespace Go.D
noncomputable def zdI(e:Ax)(_:Bool):Option Ax:=pt (wt e≤bA) e
end Go.D
namespace Go.D
open Option renaming bind→ob
noncomputable section
def Gj(a0:Af):=
 ob (Ay a0 8) λr1=>
 ob (Ay r1.2 6) λr2=>
 ob (Ay r2.2 9) λr3=>
 ob (Ar r3.2 3) λr4=>
 ob (zcJ r1.1 r2.1 r3.1 (iA .i64 1 r4.1)) λr5=>
 some (r5,r4.2)
def Or(a0:Aq):=
 cond (decide (([]:List Int).length+a0.Bits.length≤bA)) (some (⟨a0.Top,[]++a0.Bits⟩:Aq)) none
def Ot(a0:Ax):=
 cond (decide (([]:List UInt8).length+a0.Key.length≤bA)) (ob (nA a0.Win) λr1=>
 some (⟨a0.N,[]++a0.Key,a0.Seq,r1⟩:Ax)) none
def Ou(a0:Ax)(a1:Bool):=
 cond (!a1)
 (cond (decide (([]:List UInt8).length+a0.Key.length≤bA)) (cond (decide (([]:List Int).length+a0.Win.Bits.length≤bA)) (some (⟨a0.N,[]++a0.Key,a0.Seq,(⟨a0.Win.Top,[]++a0.Win.Bits⟩:Aq)⟩:Ax)) none) none)
 (ob (nA a0) λr1=>
 some r1)
def Ov(a0:Ak):=
 cond (decide (([]:List UInt8).length+a0.Sn.length≤bA)) (ob (nA a0.Cur) λr1=>
 ob (zdI a0.Old a0.HasOld) λr2=>
 cond (decide (([]:List UInt8).length+a0.Next.length≤bA)) (some (⟨a0.Role,[]++a0.Sn,r1,r2,a0.HasOld,a0.Until,[]++a0.Next⟩:Ak)) none) none
def Ow(a0:Aj):=
 aA (λ(y1:Aj)=>
 some y1) λk2=>
 sA FU (λ(x3:Int×Aj) k4=>
 cond (decide (x3.1<(a0.Cands.length:Int)))
 (ob (kA a0.Cands x3.1) λe5=>
 ob (DH e5) λr6=>
 cond (decide (x3.2.Cands.length+[r6].length≤bA)) (k4 ((iA .i64 x3.1 1),(⟨x3.2.At,x3.2.Cands++[r6]⟩:Aj))) none)
 (k2 x3.2)) (0,(⟨a0.At,[]⟩:Aj))
def Ox(a0:Ai):=
 cond (decide (([]:List UInt8).length+a0.Cn.length≤bA)) (cond (decide (([]:List UInt8).length+a0.Sn.length≤bA)) (ob (nA a0.C) λr1=>
 ob (nA a0.P) λr2=>
 some (⟨a0.Id,[]++a0.Cn,[]++a0.Sn,r1,r2,a0.Tick,a0.Last,a0.Dead⟩:Ai)) none) none
def Oy(a0:Ap):=
 aA (λ(y1:Ap)=>
 some y1) λk2=>
 sA FU (λ(x3:Int×Ap) k4=>
 cond (decide (x3.1<(a0.L.length:Int)))
 (ob (kA a0.L x3.1) λe5=>
 ob (nA e5) λr6=>
 cond (decide (x3.2.L.length+[r6].length≤bA)) (k4 ((iA .i64 x3.1 1),(⟨x3.2.Cap,x3.2.L++[r6]⟩:Ap))) none)
 (k2 x3.2)) (0,(⟨a0.Cap,[]⟩:Ap))
def Oz(a0:Ac):=
 cond (decide (([]:List UInt8).length+a0.J.Secret.length≤bA)) (ob (dK a0.D) λr1=>
 ob (nA a0.T) λr2=>
 cond (decide (([]:List Al).length+a0.Cr.length≤bA)) (aA (λ(y3:Ac)=>
 some y3) λk4=>
 sA FU (λ(x5:Int×Ac) k6=>
 cond (decide (x5.1<(a0.Psks.length:Int)))
 (ob (kA a0.Psks x5.1) λe7=>
 cond (decide (([]:List UInt8).length+e7.length≤bA)) (cond (decide (x5.2.Psks.length+[[]++e7].length≤bA)) (k6 ((iA .i64 x5.1 1),(⟨x5.2.Psks++[[]++e7],x5.2.J,x5.2.D,x5.2.T,x5.2.Cr⟩:Ac))) none) none)
 (k4 x5.2)) (0,(⟨[],(⟨[]++a0.J.Secret⟩:Ba),r1,r2,[]++a0.Cr⟩:Ac))) none) none
def Pa(a0:List Am):=
 aA (λ(y1:(List Am))=>
 some y1) λk2=>
 sA FU (λ(x3:(List Am)×Int) k4=>
 cond (decide (x3.2<(a0.length:Int)))
 (ob (kA a0 x3.2) λe5=>
 ob (kA a0 x3.2) λe6=>
 ob (kA a0 x3.2) λe7=>
 cond (decide (([]:List UInt8).length+e7.B.length≤bA)) (cond (decide (x3.1.length+[(⟨e5.From,e6.To,[]++e7.B⟩:Am)].length≤bA)) (k4 ((x3.1++[(⟨e5.From,e6.To,[]++e7.B⟩:Am)]),(iA .i64 x3.2 1))) none) none)
 (k2 x3.1)) ([],0)
def Pb(a0:Ae):=
 cond (decide (([]:List UInt8).length+a0.Cn.length≤bA)) (cond (decide (([]:List UInt8).length+a0.Sn.length≤bA)) (cond (decide (([]:List UInt8).length+a0.Body.length≤bA)) (cond (decide (([]:List UInt8).length+a0.Key.length≤bA)) (some (⟨a0.Kind,a0.Id,a0.Role,[]++a0.Cn,[]++a0.Sn,a0.Epoch,a0.Seq,[]++a0.Body,[]++a0.Key,a0.A,a0.Now⟩:Ae)) none) none) none) none
def Pd(a0:List Ae):=
 aA (λ(y1:(List Ae))=>
 some y1) λk2=>
 sA FU (λ(x3:(List Ae)×Int) k4=>
 cond (decide (x3.2<(a0.length:Int)))
 (ob (kA a0 x3.2) λe5=>
 ob (nA e5) λr6=>
 cond (decide (x3.1.length+[r6].length≤bA)) (k4 ((x3.1++[r6]),(iA .i64 x3.2 1))) none)
 (k2 x3.1)) ([],0)
def Pe(a0:Ab):=
 cond (decide (([]:List UInt8).length+a0.Cn.length≤bA)) (cond (decide (([]:List UInt8).length+a0.Sn.length≤bA)) (cond (decide (([]:List UInt8).length+a0.Cookie.length≤bA)) (cond (decide (([]:List UInt8).length+a0.Proof.length≤bA)) (cond (decide (([]:List UInt8).length+a0.Body.length≤bA)) (cond (decide (([]:List UInt8).length+a0.Tag.length≤bA)) (some (⟨a0.Kind,a0.Id,[]++a0.Cn,[]++a0.Sn,a0.Tick,[]++a0.Cookie,[]++a0.Proof,a0.Epoch,a0.Seq,[]++a0.Body,[]++a0.Tag⟩:Ab)) none) none) none) none) none) none
def Pf(a0:Ad):=
 cond (decide (([]:List UInt8).length+a0.Psk.length≤bA)) (cond (decide (([]:List UInt8).length+a0.Cn.length≤bA)) (ob (nA a0.Fin) λr1=>
 ob (nA a0.C) λr2=>
 some (⟨a0.Id,[]++a0.Psk,a0.At,a0.St,[]++a0.Cn,r1,r2,a0.T,a0.R,a0.Last⟩:Ad)) none) none
def Pg(a0:Aa):=
 ob (nA a0.S) λr1=>
 ob (dK a0.D) λr2=>
 ob (nA a0.Seen) λr3=>
 ob (nA a0.Notes) λr4=>
 aA (λ(y5:Aa)=>
 aA (λ(y11:Aa)=>
 some y11) λk12=>
 sA FU (λ(x13:Int×Aa) k14=>
 cond (decide (x13.1<(a0.Known.length:Int)))
 (ob (kA a0.Known x13.1) λe15=>
 cond (decide (([]:List UInt8).length+e15.length≤bA)) (cond (decide (x13.2.Known.length+[[]++e15].length≤bA)) (k14 ((iA .i64 x13.1 1),(⟨x13.2.Now,x13.2.Clients,x13.2.S,x13.2.D,x13.2.Seen,x13.2.Known++[[]++e15],x13.2.Notes⟩:Aa))) none) none)
 (k12 x13.2)) (0,y5)) λk6=>
 sA FU (λ(x7:Int×Aa) k8=>
 cond (decide (x7.1<(a0.Clients.length:Int)))
 (ob (kA a0.Clients x7.1) λe9=>
 ob (nA e9) λr10=>
 cond (decide (x7.2.Clients.length+[r10].length≤bA)) (k8 ((iA .i64 x7.1 1),(⟨x7.2.Now,x7.2.Clients++[r10],x7.2.S,x7.2.D,x7.2.Seen,x7.2.Known,x7.2.Notes⟩:Aa))) none)
 (k6 x7.2)) (0,(⟨a0.Now,[],r1,r2,r3,[],r4⟩:Aa))
def Kd(a0:Af):=
 ob (As a0 [1,1,2,2,3,4,4,5,5,6,7,8,9,10]) λr1=>
 aA (λ(y2:Af×Bc)=>
 ob (Ar y2.1 5) λr6=>
 ob (As r6.2 [0,1,4,12,16]) λr7=>
 some ((⟨y2.2.Kind,r6.1,r7.1,y2.2.B⟩:Bc),r7.2)) λk3=>
 cond (r1.1==1)
 (ob (As r1.2 [0,1,4,12,32]) λr4=>
 ob (Ay r4.2 r4.1) λr5=>
 k3 (r5.2,(⟨r1.1,0,0,r5.1⟩:Bc)))
 (k3 (r1.2,(⟨r1.1,0,0,[]⟩:Bc)))
def Di(a0:Int):Option Int:=
 cond (decide (0≤a0)&&decide (a0<([0,0,0,0,1,2,2,2,2,1,3].length:Int))) (ob ([0,0,0,0,1,2,2,2,2,1,3][a0.toNat]?) λe1=>
 some e1) none
def Is(a0:Af)(a1:Int):Option ((List Bc)×Af):=
 ob (Ar a0 a1) λr1=>
 aA (λ(y2:(List Bc)×Int×Af)=>
 aA (λ(y16:(List Bc))=>
 some (y16,y2.2.2)) λk17=>
 sA FU (λ(x18:(List Bc)×Int) k19=>
 cond (decide (x18.2>1))
 (cond (decide (x18.1.length+[(⟨5,0,0,[]⟩:Bc)].length≤bA)) (k19 ((x18.1++[(⟨5,0,0,[]⟩:Bc)]),(qA .i64 x18.2 1))) none)
 (k17 x18.1)) (y2.1,y2.2.1)) λk3=>
 sA FU (λ(x4:(List Bc)×Int×Int×Af) k5=>
 cond (decide (x4.2.2.1>0))
 (ob (Kd x4.2.2.2) λr6=>
 aA (λ(y7:Af×Bc)=>
 ob (Di y7.2.Kind) λr15=>
 cond (decide (x4.1.length+[y7.2].length≤bA)) (k5 ((x4.1++[y7.2]),(iA .i64 (qA .i64 x4.2.1 r15) 1),(qA .i64 x4.2.2.1 1),y7.1)) none) λk8=>
 sA FU (λ(x9:Int×Af×Bc) k10=>
 aA (λy11=>
 cond (y11)
 (ob (Kd x9.2.1) λr14=>
 k10 ((iA .i64 x9.1 1),r14.2,r14.1))
 (k8 (x9.2.1,x9.2.2))) λk12=>
 cond (decide (x9.1<6))
 (ob (Di x9.2.2.Kind) λr13=>
 k12 (decide (r13>x4.2.1)))
 (k12 false)) (0,r6.2,r6.1))
 (k3 (x4.1,x4.2.1,x4.2.2.2))) ([],0,(iA .i64 1 r1.1),r1.2)
def Iu(a0:Af):=
 ob (Ar a0 6) λr1=>
 cond (r1.1==0)
 (ob (Ar r1.2 2) λr2=>
 ob (Ay r2.2 12) λr3=>
 some (iA .i64 5 r2.1,r3.1,r3.2))
 (cond (r1.1==1)
 (ob (Ar r1.2 2) λr4=>
 ob (Ay r4.2 4) λr5=>
 some (iA .i64 7 r4.1,r5.1,r5.2))
 (ob (As r1.2 [0,1,3,12,33,40]) λr6=>
 ob (Ay r6.2 r6.1) λr7=>
 some (4,r7.1,r7.2)))
def Ce(a0:Int)(a1:List UInt8)(a2:Int)(a3:Int):=
 aA (λy1=>
 cond (y1)
 (some [])
 (cond (decide ([UInt8.ofNat (IntKind.wrap .u8 a0:Int).toNat].length+a1.length≤bA)) (ob (VB ([UInt8.ofNat (IntKind.wrap .u8 a0:Int).toNat]++a1) a2 4) λr3=>
 ob (VB r3 a3 6) λr4=>
 some r4) none)) λk2=>
 cond (!(eA a0 0 1))
 (k2 true)
 (cond ((a1.length:Int) !=12)
 (k2 true)
 (cond (!(eA a2 0 4294967295))
 (k2 true)
 (k2 (!(eA a3 0 281474976710655)))))
def Gk(a0:List UInt8)(a1:List UInt8)(a2:Int):=
 aA (λy1=>
 cond (y1)
 (some [])
 (cond (decide ([UInt8.ofNat (115:Int).toNat].length+a1.length≤bA)) (ob (VB ([UInt8.ofNat (115:Int).toNat]++a1) a2 4) λr3=>
 let r4:(List UInt8):=XC a0 r3
 some r4) none)) λk2=>
 cond (!(eA a2 0 6))
 (k2 true)
 (k2 (decide ((a1.length:Int)>100)))
def Fa(a0:List UInt8)(a1:List UInt8)(a2:Int):=
 aA (λy1=>
 cond (y1)
 (some [])
 (aA (λ(y3:(List UInt8))=>
 cond (decide (0≤(0:Int))&&decide ((0:Int)≤a2)&&decide (a2≤(y3.length:Int))) (cond (decide (([]:List UInt8).length+(List.take ((a2 - 0).toNat) (List.drop 0 y3)).length≤bA)) (some ([]++(List.take ((a2 - 0).toNat) (List.drop 0 y3)))) none) none) λk4=>
 sA FU (λ(x5:(List UInt8)×Int) k6=>
 cond (decide ((x5.1.length:Int)<a2))
 (ob (Gk a0 a1 x5.2) λr7=>
 cond (decide (x5.1.length+r7.length≤bA)) (k6 ((x5.1++r7),(iA .i64 x5.2 1))) none)
 (k4 x5.1)) ([],0))) λk2=>
 cond (!(eA a2 0 200))
 (k2 true)
 (cond (decide ((a1.length:Int)>100))
 (k2 true)
 (k2 (decide ((a0.length:Int)>1048576))))
def Ea(a0:List UInt8)(a1:List UInt8)(a2:List UInt8):=
 aA (λy1=>
 cond (y1)
 (some [])
 (ob (Fa a0 a1 (a2.length:Int)) λr3=>
 aA (λ(y4:(List UInt8))=>
 some y4) λk5=>
 sA FU (λ(x6:(List UInt8)×Int) k7=>
 cond (decide (x6.2<(a2.length:Int)))
 (ob (kA a2 x6.2) λe8=>
 cond (decide (0≤x6.2)&&decide (x6.2<(r3.length:Int))) (ob (r3[x6.2.toNat]?) λe9=>
 let x10:Int:=xB .u8 ((e8.toNat:Nat):Int) ((e9.toNat:Nat):Int)
 cond (decide (x6.1.length+[UInt8.ofNat (x10:Int).toNat].length≤bA)) (k7 ((x6.1++[UInt8.ofNat (x10:Int).toNat]),(iA .i64 x6.2 1))) none) none)
 (k5 x6.1)) ([],0))) λk2=>
 cond (decide ((a2.length:Int)>200))
 (k2 true)
 (cond (decide ((a1.length:Int)>100))
 (k2 true)
 (k2 (decide ((a0.length:Int)>1048576))))
def Bv(a0:Int)(a1:Ab):=
 aA (λy1=>
 cond (y1)
 (some [])
 (ob (Ce a0 a1.Sn a1.Epoch a1.Seq) λr3=>
 cond (decide ([UInt8.ofNat (116:Int).toNat].length+r3.length≤bA)) (cond (decide (([UInt8.ofNat (116:Int).toNat]++r3).length+[UInt8.ofNat (IntKind.wrap .u8 a1.Kind:Int).toNat].length≤bA)) (let x4:List UInt8:=([UInt8.ofNat (116:Int).toNat]++r3)++[UInt8.ofNat (IntKind.wrap .u8 a1.Kind:Int).toNat]
 cond (decide (x4.length+a1.Body.length≤bA)) (some (x4++a1.Body)) none) none) none)) λk2=>
 cond (!(eA a0 0 1))
 (k2 true)
 (cond (!(AB a1))
 (k2 true)
 (k2 (!(fC a1.Kind))))
def Ct(a0:List UInt8)(a1:List UInt8):=
 let r1:(List UInt8):=XC a0 a1
 cond (decide ((r1.length:Int)<16))
 (some [])
 (cond (decide (0≤(0:Int))&&decide ((0:Int)≤16)&&decide (16≤(r1.length:Int))) (cond (decide (([]:List UInt8).length+(List.take 16 (List.drop 0 r1)).length≤bA)) (some ([]++(List.take 16 (List.drop 0 r1)))) none) none)
def Eb(a0:List UInt8)(a1:Int)(a2:List UInt8)(a3:Int)(a4:Int)(a5:Int)(a6:List UInt8):=
 ob (Ce a1 a2 a3 a4) λr1=>
 aA (λy2=>
 cond (y2)
 (some ((⟨0,0,[],[],0,[],[],0,0,[],[]⟩:Ab),false))
 (cond (decide (([]:List UInt8).length+a2.length≤bA)) (ob (Ea a0 r1 a6) λr4=>
 aA (λ(y5:Ab)=>
 ob (Bv a1 y5) λr9=>
 ob (Ct a0 r9) λr10=>
 some ((⟨y5.Kind,y5.Id,y5.Cn,y5.Sn,y5.Tick,y5.Cookie,y5.Proof,y5.Epoch,y5.Seq,y5.Body,r10⟩:Ab),true)) λk6=>
 sA FU (λ(x7:Int×Ab) k8=>
 cond (decide (x7.1<16))
 (cond (decide (x7.2.Tag.length+[UInt8.ofNat (0:Int).toNat].length≤bA)) (k8 ((iA .i64 x7.1 1),(⟨x7.2.Kind,x7.2.Id,x7.2.Cn,x7.2.Sn,x7.2.Tick,x7.2.Cookie,x7.2.Proof,x7.2.Epoch,x7.2.Seq,x7.2.Body,x7.2.Tag++[UInt8.ofNat (0:Int).toNat]⟩:Ab))) none)
 (k6 x7.2)) (0,(⟨a5,0,[],[]++a2,0,[],[],a3,a4,r4,[]⟩:Ab))) none)) λk3=>
 cond ((a0.length:Int) !=32)
 (k3 true)
 (cond ((r1.length:Int)==0)
 (k3 true)
 (cond (!(fC a5))
 (k3 true)
 (k3 (!(dG a5 (a6.length:Int))))))
def Iv(a0:List UInt8)(a1:Int)(a2:Int)(a3:List UInt8)(a4:Int)(a5:Int)(a6:Int)(a7:List UInt8):=
 ob (Eb a0 a2 a3 a4 a5 a6 a7) λr1=>
 aA (λy2=>
 cond (y2)
 (some [])
 (cond (decide ([UInt8.ofNat (IntKind.wrap .u8 a6:Int).toNat].length+a3.length≤bA)) (ob (VB ([UInt8.ofNat (IntKind.wrap .u8 a6:Int).toNat]++a3) a4 4) λr4=>
 ob (VB r4 a5 6) λr5=>
 ob (Bv a2 r1.1) λr6=>
 cond (decide (([]:List UInt8).length+r1.1.Body.length≤bA)) (let x7:List Bc:=[(⟨1,0,0,r5⟩:Bc),(⟨3,a1,0,[]⟩:Bc),(⟨1,0,0,r6⟩:Bc),(⟨8,0,0,[]⟩:Bc),(⟨5,0,0,[]⟩:Bc),(⟨1,0,0,[]++r1.1.Body⟩:Bc),(⟨5,0,0,[]⟩:Bc)]
 some x7) none) none)) λk3=>
 cond (!r1.2)
 (k3 true)
 (k3 (!(eA a1 0 11)))
def Iw(a0:Af)(a1:Aa)(a2:Int)(a3:Bool):Option (Ao×Af×Int):=
 ob (Ar a0 2) λr1=>
 ob (Ar r1.2 3) λr2=>
 ob (Ar r2.2 40) λr3=>
 aA (λ(y4:Bool×Af)=>
 cond (y4.1)
 (some ((⟨7,a2,r2.1,r3.1,[],[]⟩:Ao),y4.2,iA .i64 a2 1))
 (aA (λ(y7:Bool×Af)=>
 cond (y7.1)
 (some ((⟨1,r1.1,r2.1,r3.1,[],[]⟩:Ao),y7.2,a2))
 (ob (Ar y7.2 16) λr11=>
 aA (λ(y12:Bool)=>
 aA (λ(y16:Ao×Af×Ao)=>
 some (y16.1,y16.2.1,a2)) λk17=>
 cond (y12)
 (ob (Ar r11.2 6) λr18=>
 ob (Ay r18.2 r18.1) λr19=>
 k17 ((⟨2,r1.1,r2.1,r3.1,r19.1,[]⟩:Ao),r19.2,(⟨0,0,0,0,[],[]⟩:Ao)))
 (aA (λ(y20:Bool)=>
 aA (λ(y22:Ao×Af×Ao)=>
 k17 (y22.1,y22.2.1,y22.2.2)) λk23=>
 cond (y20)
 (ob (Ar r11.2 3) λr24=>
 ob (Ar r24.2 6) λr25=>
 ob (Ay r25.2 r25.1) λr26=>
 k23 ((⟨3,r24.1,r2.1,r3.1,r26.1,[]⟩:Ao),r26.2,(⟨0,0,0,0,[],[]⟩:Ao)))
 (aA (λ(y27:Bool)=>
 aA (λ(y29:Ao×Af×Ao)=>
 k23 (y29.1,y29.2.1,y29.2.2)) λk30=>
 cond (y27)
 (k30 ((⟨4,r1.1,r2.1,r3.1,[],[]⟩:Ao),r11.2,(⟨0,0,0,0,[],[]⟩:Ao)))
 (aA (λ(y31:Ao×Af×Ao)=>
 k30 (y31.1,y31.2.1,y31.2.2)) λk32=>
 cond (r11.1==7)
 (k32 ((⟨5,r1.1,r2.1,r3.1,[],[]⟩:Ao),r11.2,(⟨0,0,0,0,[],[]⟩:Ao)))
 (aA (λ(y33:Bool)=>
 aA (λ(y35:Ao×Af×Ao)=>
 k32 (y35.1,y35.2.1,y35.2.2)) λk36=>
 cond (y33)
 (k36 ((⟨6,r1.1,r2.1,r3.1,[],[]⟩:Ao),r11.2,(⟨0,0,0,0,[],[]⟩:Ao)))
 (ob (Ar r11.2 4) λr37=>
 ob (Ar r37.2 90) λr38=>
 aA (λ(y39:Bool×Af)=>
 aA (λ(y42:Af×Ao)=>
 ob (Ar y42.1 256) λr46=>
 cond (!a3)
 (some ((⟨y42.2.Kind,y42.2.I,r46.1,y42.2.N,y42.2.B,y42.2.Ops⟩:Ao),r46.2,a2))
 (ob (Ar r46.2 12) λr47=>
 aA (λ(y48:Bool)=>
 aA (λ(y50:Ao×Af)=>
 k36 (y50.1,y50.2,(⟨0,0,0,0,[],[]⟩:Ao))) λk51=>
 cond (y48)
 (ob (Is r47.2 6) λr52=>
 aA (λ(y53:Af×Ao)=>
 k51 (y53.2,y53.1)) λk54=>
 cond (decide ((a1.Known.length:Int)>0))
 (ob (Ar r52.2 (a1.Known.length:Int)) λr55=>
 ob (kA a1.Clients 0) λe56=>
 aA (λ(y57:Bool×Af)=>
 aA (λ(y60:(List UInt8))=>
 ob (Iu y57.2) λr63=>
 ob (kA a1.Known r55.1) λe64=>
 ob (Ar r63.2.2 2) λr65=>
 ob (Ar r65.2 3) λr66=>
 ob (Ar r66.2 30) λr67=>
 ob (Iv e64 r55.1 r65.1 y60 r66.1 r67.1 r63.1 r63.2.1) λr68=>
 aA (λ(y69:Ao)=>
 k54 (r67.2,y69)) λk70=>
 cond (decide ((r68.length:Int)>0))
 (k70 (⟨11,y42.2.I,r46.1,y42.2.N,y42.2.B,r68⟩:Ao))
 (k70 (⟨11,y42.2.I,r46.1,y42.2.N,y42.2.B,r52.1⟩:Ao))) λk61=>
 cond (y57.1)
 (ob (kA a1.Clients 1) λe62=>
 k61 e62.C.Sn)
 (k61 e56.C.Sn)) λk58=>
 cond ((e56.C.Sn.length:Int)==0)
 (k58 (true,r55.2))
 (ob (Bb r55.2 3) λr59=>
 k58 (r59.1,r59.2)))
 (k54 (r52.2,(⟨11,y42.2.I,r46.1,y42.2.N,y42.2.B,r52.1⟩:Ao))))
 (aA (λ(y71:Ao×Af)=>
 k51 (y71.1,y71.2)) λk72=>
 cond (r47.1==2)
 (k72 ((⟨12,y42.2.I,r46.1,y42.2.N,y42.2.B,y42.2.Ops⟩:Ao),r47.2))
 (aA (λ(y73:Ao×Af)=>
 k72 (y73.1,y73.2)) λk74=>
 cond (r47.1==3)
 (k74 ((⟨13,y42.2.I,r46.1,y42.2.N,y42.2.B,y42.2.Ops⟩:Ao),r47.2))
 (aA (λ(y75:Ao×Af)=>
 k74 (y75.1,y75.2)) λk76=>
 cond (r47.1==4)
 (ob (Ar r47.2 3) λr77=>
 k76 ((⟨14,r77.1,r46.1,y42.2.N,y42.2.B,y42.2.Ops⟩:Ao),r77.2))
 (aA (λ(y78:Ao×Af)=>
 k76 (y78.1,y78.2)) λk79=>
 cond (r47.1==5)
 (k79 ((⟨15,y42.2.I,r46.1,y42.2.N,y42.2.B,y42.2.Ops⟩:Ao),r47.2))
 (aA (λ(y80:Ao×Af)=>
 k79 (y80.1,y80.2)) λk81=>
 cond (r47.1==6)
 (ob (Ar r47.2 3) λr82=>
 k81 ((⟨16,r82.1,r46.1,y42.2.N,y42.2.B,y42.2.Ops⟩:Ao),r82.2))
 (aA (λ(y83:Af×Ao)=>
 k81 (y83.2,y83.1)) λk84=>
 cond (r47.1==7)
 (ob (Bb r47.2 3) λr85=>
 aA (λ(y86:Ao×Af)=>
 k84 (y86.2,y86.1)) λk87=>
 cond (r85.1)
 (ob (Ar r85.2 12) λr88=>
 k87 ((⟨17,y42.2.I,r46.1,r88.1,y42.2.B,y42.2.Ops⟩:Ao),r88.2))
 (k87 ((⟨y42.2.Kind,y42.2.I,r46.1,y42.2.N,y42.2.B,y42.2.Ops⟩:Ao),r85.2)))
 (aA (λ(y89:Ao×Af)=>
 k84 (y89.2,y89.1)) λk90=>
 cond (r47.1==8)
 (ob (As r47.2 [2,3,4]) λr91=>
 ob (As r91.2 [24,28,44,33]) λr92=>
 let x93:List Bc:=[(⟨1,0,0,[UInt8.ofNat (IntKind.wrap .u8 r91.1:Int).toNat]⟩:Bc),(⟨2,y42.2.I,0,[]⟩:Bc),(⟨4,1,r92.1,[]⟩:Bc),(⟨5,0,0,[]⟩:Bc)]
 k90 ((⟨11,y42.2.I,r46.1,y42.2.N,y42.2.B,x93⟩:Ao),r92.2))
 (k90 ((⟨y42.2.Kind,y42.2.I,r46.1,y42.2.N,y42.2.B,y42.2.Ops⟩:Ao),r47.2)))))))))) λk49=>
 cond (r47.1==0)
 (k49 (r47.1==0))
 (k49 (r47.1==1)))) λk43=>
 cond (y39.1)
 (ob (Ar y39.2 4) λr44=>
 let x45:Int:=qA .i64 (qA .i64 (a1.Seen.length:Int) 1) r44.1
 k43 (r44.2,(⟨iA .i64 7 r37.1,x45,r2.1,r3.1,[],[]⟩:Ao)))
 (k43 (y39.2,(⟨iA .i64 7 r37.1,r38.1,r2.1,r3.1,[],[]⟩:Ao)))) λk40=>
 cond (decide ((a1.Seen.length:Int)>4))
 (ob (Bb r38.2 2) λr41=>
 k40 (r41.1,r41.2))
 (k40 (false,r38.2)))) λk34=>
 cond (r11.1==8)
 (k34 (r11.1==8))
 (k34 (r11.1==9))))) λk28=>
 cond (r11.1==5)
 (k28 (r11.1==5))
 (k28 (r11.1==6)))) λk21=>
 cond (r11.1==3)
 (k21 (r11.1==3))
 (k21 (r11.1==4)))) λk13=>
 cond (r11.1==0)
 (k13 (r11.1==0))
 (aA (λ(y14:Bool)=>
 k13 y14) λk15=>
 cond (r11.1==1)
 (k15 (r11.1==1))
 (k15 (r11.1==2))))) λk8=>
 ob (kA a1.Clients r1.1) λe9=>
 cond (e9.St==0)
 (ob (Bb y4.2 4) λr10=>
 k8 ((!r10.1),r10.2))
 (k8 (false,y4.2)))) λk5=>
 cond (decide (a2<(a1.Seen.length:Int)))
 (ob (Bb r3.2 4) λr6=>
 k5 ((!r6.1),r6.2))
 (k5 (false,r3.2))
def Bf(a0:Int):=
 cond (!(eA a0 0 1000000))
 (some (⟨false,0,0,0⟩:Aw))
 (some (⟨true,iA .i64 a0 1,1,1⟩:Aw))
def Fb(a0:Ad):=
 cond (decide (([]:List UInt8).length+a0.Cn.length≤bA)) (some (⟨1,a0.Id,[]++a0.Cn,[],0,[],[],0,0,[],[]⟩:Ab)) none
def Fc(a0:Ad)(a1:Int)(a2:List UInt8):Option (Ad×(List Ab)×(List Ae)×Int):=
 ob (nA a0) λr1=>
 aA (λy2=>
 cond (y2)
 (some (r1,[],[],1))
 (cond (a0.St !=0)
 (some (r1,[],[],6))
 (cond (decide (([]:List UInt8).length+a2.length≤bA)) (ob (Bf a1) λr5=>
 cond (decide (([]:List UInt8).length+a2.length≤bA)) (ob (Fb (⟨r1.Id,r1.Psk,r1.At,1,[]++a2,r1.Fin,r1.C,r5,r1.R,r1.Last⟩:Ad)) λr6=>
 let x7:List Ae:=[(⟨1,a0.Id,0,[]++a2,[],0,0,[],[],(⟨0,0⟩:Ah),a1⟩:Ae)]
 some ((⟨r1.Id,r1.Psk,r1.At,1,[]++a2,r1.Fin,r1.C,r5,r1.R,r1.Last⟩:Ad),[r6],x7,0)) none) none))) λk3=>
 ob (GD a0) λr4=>
 cond (!r4)
 (k3 true)
 (cond (!(eA a1 0 1000000))
 (k3 true)
 (k3 ((a2.length:Int) !=12)))
def Bj(a0:Ab):=
 cond (!(AB a0))
 (some [])
 (aA (λ(y1:(List UInt8))=>
 some y1) λk2=>
 cond (a0.Kind==1)
 (cond (decide ([UInt8.ofNat (IntKind.wrap .u8 a0.Kind:Int).toNat].length+[UInt8.ofNat (IntKind.wrap .u8 a0.Id:Int).toNat].length≤bA)) (let x3:List UInt8:=[UInt8.ofNat (IntKind.wrap .u8 a0.Kind:Int).toNat]++[UInt8.ofNat (IntKind.wrap .u8 a0.Id:Int).toNat]
 cond (decide (x3.length+a0.Cn.length≤bA)) (aA (λ(y4:(List UInt8))=>
 k2 y4) λk5=>
 sA FU (λ(x6:(List UInt8)×Int) k7=>
 cond (decide (x6.2<20))
 (cond (decide (x6.1.length+[UInt8.ofNat (0:Int).toNat].length≤bA)) (k7 ((x6.1++[UInt8.ofNat (0:Int).toNat]),(iA .i64 x6.2 1))) none)
 (k5 x6.1)) ((x3++a0.Cn),0)) none) none)
 (aA (λ(y8:(List UInt8))=>
 k2 y8) λk9=>
 cond (a0.Kind==2)
 (cond (decide ([UInt8.ofNat (IntKind.wrap .u8 a0.Kind:Int).toNat].length+a0.Cn.length≤bA)) (let x10:List UInt8:=[UInt8.ofNat (IntKind.wrap .u8 a0.Kind:Int).toNat]++a0.Cn
 cond (decide (x10.length+a0.Sn.length≤bA)) (ob (VB (x10++a0.Sn) a0.Tick 4) λr11=>
 cond (decide (r11.length+a0.Cookie.length≤bA)) (k9 (r11++a0.Cookie)) none) none) none)
 (aA (λ(y12:(List UInt8))=>
 k9 y12) λk13=>
 cond (a0.Kind==3)
 (cond (decide ([UInt8.ofNat (IntKind.wrap .u8 a0.Kind:Int).toNat].length+[UInt8.ofNat (IntKind.wrap .u8 a0.Id:Int).toNat].length≤bA)) (let x14:List UInt8:=[UInt8.ofNat (IntKind.wrap .u8 a0.Kind:Int).toNat]++[UInt8.ofNat (IntKind.wrap .u8 a0.Id:Int).toNat]
 cond (decide (x14.length+a0.Cn.length≤bA)) (cond (decide ((x14++a0.Cn).length+a0.Sn.length≤bA)) (ob (VB ((x14++a0.Cn)++a0.Sn) a0.Tick 4) λr15=>
 cond (decide (r15.length+a0.Cookie.length≤bA)) (cond (decide ((r15++a0.Cookie).length+a0.Proof.length≤bA)) (k13 ((r15++a0.Cookie)++a0.Proof)) none) none) none) none) none)
 (cond (decide ([UInt8.ofNat (IntKind.wrap .u8 a0.Kind:Int).toNat].length+a0.Sn.length≤bA)) (let x16:List UInt8:=[UInt8.ofNat (IntKind.wrap .u8 a0.Kind:Int).toNat]++a0.Sn
 ob (VB x16 a0.Epoch 4) λr17=>
 ob (VB r17 a0.Seq 6) λr18=>
 cond (decide (r18.length+a0.Tag.length≤bA)) (cond (decide ((r18++a0.Tag).length+a0.Body.length≤bA)) (k13 ((r18++a0.Tag)++a0.Body)) none) none) none))))
def Ec(a0:Ah)(a1:Ah)(a2:Ab):=
 ob (Bj a2) λr1=>
 some (⟨a0,a1,r1⟩:Am)
def Ed(a0:Ad)(a1:List Ab):=
 aA (λ(y1:(List Am))=>
 some y1) λk2=>
 sA FU (λ(x3:(List Am)×Int) k4=>
 cond (decide (x3.2<(a1.length:Int)))
 (let r5:Ah:=MD
 ob (kA a1 x3.2) λe6=>
 ob (Ec a0.At r5 e6) λr7=>
 cond (decide (x3.1.length+[r7].length≤bA)) (k4 ((x3.1++[r7]),(iA .i64 x3.2 1))) none)
 (k2 x3.1)) ([],0)
def Cf(a0:Aa)(a1:List Am)(a2:List Ae):=
 aA (λ(y1:Aa)=>
 cond (decide (y1.Notes.length+a2.length≤bA)) (some (⟨y1.Now,y1.Clients,y1.S,y1.D,y1.Seen,y1.Known,y1.Notes++a2⟩:Aa)) none) λk2=>
 sA FU (λ(x3:Int×Aa) k4=>
 cond (decide (x3.1<(a1.length:Int)))
 (aA (λ(y5:Aa)=>
 k4 ((iA .i64 x3.1 1),y5)) λk6=>
 cond (decide ((x3.2.Seen.length:Int)<90))
 (ob (kA a1 x3.1) λe7=>
 cond (decide (x3.2.Seen.length+[e7].length≤bA)) (k6 (⟨x3.2.Now,x3.2.Clients,x3.2.S,x3.2.D,x3.2.Seen++[e7],x3.2.Known,x3.2.Notes⟩:Aa)) none)
 (k6 x3.2))
 (k2 x3.2)) (0,a0)
def Dj(a0:Aa)(a1:Int)(a2:Ad)(a3:List Ab)(a4:List Ae):=
 cond (decide (0≤a1)&&decide (a1<(a0.Clients.length:Int))) (ob (a0.Clients[a1.toNat]?) λe1=>
 ob (Ed a2 a3) λr2=>
 ob (Cf (⟨a0.Now,List.set a0.Clients a1.toNat a2,a0.S,a0.D,a0.Seen,a0.Known,a0.Notes⟩:Aa) r2 a4) λr3=>
 some r3) none
def Gm(a0:Ax)(a1:Int)(a2:List UInt8)(a3:Int)(a4:List UInt8):Option (Ax×Ab×Int):=
 ob (nA a0) λr1=>
 aA (λy2=>
 cond (y2)
 (some (r1,(⟨0,0,[],[],0,[],[],0,0,[],[]⟩:Ab),1))
 (aA (λy5=>
 cond (y5)
 (some (r1,(⟨0,0,[],[],0,[],[],0,0,[],[]⟩:Ab),4))
 (cond (a0.Seq==281474976710656)
 (some (r1,(⟨0,0,[],[],0,[],[],0,0,[],[]⟩:Ab),5))
 (ob (Eb a0.Key a1 a2 a0.N a0.Seq a3 a4) λr7=>
 some ((⟨r1.N,r1.Key,iA .i64 a0.Seq 1,r1.Win⟩:Ax),r7.1,0)))) λk6=>
 cond (a3==4)
 (k6 (decide (a0.Seq≥281474976709656)))
 (k6 false))) λk3=>
 cond (!(YC a0))
 (k3 true)
 (ob (Ce a1 a2 a0.N 0) λr4=>
 cond ((r4.length:Int)==0)
 (k3 true)
 (cond (!(fC a3))
 (k3 true)
 (k3 (!(dG a3 (a4.length:Int))))))
def Cg(a0:Ak)(a1:Int)(a2:List UInt8):Option (Ak×Ab×Int):=
 ob (nA a0) λr1=>
 ob (uC a0) λr2=>
 cond (!r2)
 (some (r1,(⟨0,0,[],[],0,[],[],0,0,[],[]⟩:Ab),1))
 (ob (Gm a0.Cur a0.Role a0.Sn a1 a2) λr3=>
 aA (λ(y4:Ak)=>
 some (y4,r3.2.1,r3.2.2)) λk5=>
 cond (r3.2.2==0)
 (k5 (⟨r1.Role,r1.Sn,r3.1,r1.Old,r1.HasOld,r1.Until,r1.Next⟩:Ak))
 (k5 r1))
def Ee(a0:List UInt8)(a1:List UInt8):=
 cond (decide (([]:List UInt8).length+a0.length≤bA)) (cond (decide (([]:List UInt8).length+a1.length≤bA)) (some (⟨15,0,0,[],[],0,0,[]++a1,[]++a0,(⟨0,0⟩:Ah),0⟩:Ae)) none) none
def Bp(a0:Ak)(a1:Ab):=
 ob (Bv a0.Role a1) λr1=>
 ob (Ee a0.Cur.Key r1) λr2=>
 some r2
def Gn(a0:Ad)(a1:Int)(a2:List UInt8):Option (Ad×(List Ab)×(List Ae)×Int):=
 ob (nA a0) λr1=>
 aA (λy2=>
 cond (y2)
 (some (r1,[],[],1))
 (cond (a0.St !=3)
 (some (r1,[],[],6))
 (ob (Cg a0.C 4 a2) λr5=>
 cond (r5.2.2 !=0)
 (some (r1,[],[],r5.2.2))
 (cond (decide (([]:List UInt8).length+r5.2.1.Sn.length≤bA)) (cond (decide (([]:List UInt8).length+a2.length≤bA)) (ob (Bp r5.1 r5.2.1) λr6=>
 let x7:List Ae:=[r6,(⟨5,0,0,[],[]++r5.2.1.Sn,r5.2.1.Epoch,r5.2.1.Seq,[]++a2,[],(⟨0,0⟩:Ah),0⟩:Ae)]
 some ((⟨r1.Id,r1.Psk,r1.At,r1.St,r1.Cn,r1.Fin,r5.1,r1.T,r1.R,r1.Last⟩:Ad),[r5.2.1],x7,0)) none) none)))) λk3=>
 ob (GD a0) λr4=>
 cond (!r4)
 (k3 true)
 (cond (!(eA a1 0 1000000))
 (k3 true)
 (k3 (decide ((a2.length:Int)>40))))
def Gp(a0:Ai)(a1:List UInt8):Option (Ai×(List Av)×(List Ae)×Int):=
 ob (nA a0) λr1=>
 aA (λy2=>
 cond (y2)
 (some (r1,[],[],1))
 (cond (a0.Dead)
 (some (r1,[],[],6))
 (ob (Cg a0.C 4 a1) λr5=>
 cond (r5.2.2 !=0)
 (some (r1,[],[],r5.2.2))
 (cond (decide (([]:List UInt8).length+a0.Sn.length≤bA)) (cond (decide (([]:List UInt8).length+a1.length≤bA)) (ob (Bp r5.1 r5.2.1) λr6=>
 let x7:List Ae:=[r6,(⟨5,0,1,[],[]++a0.Sn,r5.2.1.Epoch,r5.2.1.Seq,[]++a1,[],(⟨0,0⟩:Ah),0⟩:Ae)]
 some ((⟨r1.Id,r1.Cn,r1.Sn,r5.1,r1.P,r1.Tick,r1.Last,r1.Dead⟩:Ai),[(⟨a0.P.At,r5.2.1⟩:Av)],x7,0)) none) none)))) λk3=>
 ob (KD a0) λr4=>
 cond (!r4)
 (k3 true)
 (k3 (decide ((a1.length:Int)>40)))
def Gq(a0:Ac)(a1:Int)(a2:Int)(a3:List UInt8):Option (Ac×(List Av)×(List Ae)×Int):=
 ob (nA a0) λr1=>
 aA (λy2=>
 cond (y2)
 (some (r1,[],[],1))
 (let r5:Bool:=eA a2 0 (qA .i64 (a0.T.L.length:Int) 1)
 cond (!r5)
 (some (r1,[],[],8))
 (ob (kA a0.T.L a2) λe6=>
 ob (Gp e6 a3) λr7=>
 aA (λ(y8:Ac)=>
 some (y8,r7.2.1,r7.2.2.1,r7.2.2.2)) λk9=>
 cond (r7.2.2.2==0)
 (cond (decide (0≤a2)&&decide (a2<(r1.T.L.length:Int))) (ob (r1.T.L[a2.toNat]?) λe10=>
 k9 (⟨r1.Psks,r1.J,r1.D,(⟨r1.T.Cap,List.set r1.T.L a2.toNat r7.1⟩:Ap),r1.Cr⟩:Ac)) none)
 (k9 r1)))) λk3=>
 ob (HC a0) λr4=>
 cond (!r4)
 (k3 true)
 (k3 (!(eA a1 0 1000000)))
def Fd(a0:List Av):=
 aA (λ(y1:(List Am))=>
 some y1) λk2=>
 sA FU (λ(x3:(List Am)×Int) k4=>
 cond (decide (x3.2<(a0.length:Int)))
 (let r5:Ah:=MD
 ob (kA a0 x3.2) λe6=>
 ob (kA a0 x3.2) λe7=>
 ob (Ec r5 e6.To e7.F) λr8=>
 cond (decide (x3.1.length+[r8].length≤bA)) (k4 ((x3.1++[r8]),(iA .i64 x3.2 1))) none)
 (k2 x3.1)) ([],0)
def Cu(a0:Aw)(a1:Int):=
 aA (λ(y1:Bool)=>
 some y1) λk2=>
 cond ((tD a0))
 (cond (a0.On)
 (cond ((eA a1 0 1000000))
 (k2 (decide (a1≥a0.Due)))
 (k2 false))
 (k2 false))
 (k2 false)
def Cv(a0:Aw)(a1:Int):Option (Aw×Int):=
 ob (Cu a0 a1) λr1=>
 cond (!r1)
 (some (a0,0))
 (cond (a0.Tries==5)
 (some ((⟨false,0,0,0⟩:Aw),2))
 (aA (λ(y2:Int)=>
 some ((⟨true,iA .i64 a1 y2,y2,iA .i64 a0.Tries 1⟩:Aw),1)) λk3=>
 cond (decide ((XB .i64 2 a0.Wait)>8))
 (k3 8)
 (k3 (XB .i64 2 a0.Wait))))
def Dk(a0:Ad):=
 ob (XI a0.Id a0.Psk a0.At) λr1=>
 some r1
def Bw(a0:Ak)(a1:Int):=
 ob (nA a0) λr1=>
 aA (λ(y2:Bool)=>
 aA (λ(y5:Ak)=>
 some y5) λk6=>
 cond (y2)
 (k6 (⟨r1.Role,r1.Sn,r1.Cur,(⟨0,[],0,(⟨0,[]⟩:Aq)⟩:Ax),false,0,r1.Next⟩:Ak))
 (k6 r1)) λk3=>
 ob (uC a0) λr4=>
 cond (r4)
 (cond ((eA a1 0 1000000))
 (cond (a0.HasOld)
 (cond (a0.Until !=(-1))
 (k3 (decide (a1>a0.Until)))
 (k3 false))
 (k3 false))
 (k3 false))
 (k3 false)
def Bk(a0:Int):=
 cond (!(eA a0 0 4294967295))
 (some [])
 (ob (VB [] a0 4) λr1=>
 some r1)
def Fe(a0:Ak):Option (Ak×Ab×Int):=
 aA (λy1=>
 cond (y1)
 (ob (nA a0) λr4=>
 some (r4,(⟨0,0,[],[],0,[],[],0,0,[],[]⟩:Ab),6))
 (ob (Bk (iA .i64 a0.Cur.N 1)) λr5=>
 ob (Cg a0 7 r5) λr6=>
 some (r6.1,r6.2.1,r6.2.2))) λk2=>
 ob (uC a0) λr3=>
 cond (!r3)
 (k2 true)
 (k2 ((a0.Next.length:Int)==0))
def Gr(a0:Ad)(a1:Int):Option (Ad×(List Ab)×(List Ae)):=
 ob (nA a0) λr1=>
 aA (λy2=>
 cond (y2)
 (some (r1,[],[]))
 (cond (a0.St !=3)
 (ob (Cv a0.T a1) λr5=>
 cond (r5.2==2)
 (ob (Dk a0) λr6=>
 cond (decide (([]:List UInt8).length+a0.Cn.length≤bA)) (let x7:List Ae:=[(⟨17,a0.Id,0,[]++a0.Cn,[],0,0,[],[],(⟨0,0⟩:Ah),0⟩:Ae)]
 cond (decide (([]:List Ae).length+x7.length≤bA)) (some (r6,[],[]++x7)) none) none)
 (aA (λ(y8:Bool)=>
 aA (λ(y10:(List Ab))=>
 aA (λ(y13:Bool)=>
 aA (λ(y15:(List Ab))=>
 some ((⟨r1.Id,r1.Psk,r1.At,r1.St,r1.Cn,r1.Fin,r1.C,r5.1,r1.R,r1.Last⟩:Ad),y15,[])) λk16=>
 cond (y13)
 (ob (nA a0.Fin) λr17=>
 cond (decide (y10.length+[r17].length≤bA)) (k16 (y10++[r17])) none)
 (k16 y10)) λk14=>
 cond (r5.2==1)
 (k14 (a0.St==2))
 (k14 false)) λk11=>
 cond (y8)
 (ob (Fb a0) λr12=>
 cond (decide (([]:List Ab).length+[r12].length≤bA)) (k11 ([]++[r12])) none)
 (k11 [])) λk9=>
 cond (r5.2==1)
 (k9 (a0.St==1))
 (k9 false)))
 (cond (decide ((qA .i64 a1 a0.Last)>60))
 (ob (Dk a0) λr18=>
 cond (decide (([]:List UInt8).length+a0.C.Sn.length≤bA)) (let x19:List Ae:=[(⟨11,a0.Id,0,[],[]++a0.C.Sn,0,0,[],[],(⟨0,0⟩:Ah),0⟩:Ae)]
 cond (decide (([]:List Ae).length+x19.length≤bA)) (some (r18,[],[]++x19)) none) none)
 (ob (Bw a0.C a1) λr20=>
 ob (Cv a0.R a1) λr21=>
 cond (r21.2==0)
 (some ((⟨r1.Id,r1.Psk,r1.At,r1.St,r1.Cn,r1.Fin,r20,r1.T,r1.R,r1.Last⟩:Ad),[],[]))
 (aA (λ(y22:Ad)=>
 ob (Fe y22.C) λr25=>
 aA (λ(y26:(List Ab)×(List Ae)×Ad)=>
 some (y26.2.2,y26.1,y26.2.1)) λk27=>
 cond (r25.2.2==0)
 (cond (decide (([]:List Ab).length+[r25.2.1].length≤bA)) (ob (Bp r25.1 r25.2.1) λr28=>
 cond (decide (([]:List Ae).length+[r28].length≤bA)) (k27 (([]++[r25.2.1]),([]++[r28]),(⟨y22.Id,y22.Psk,y22.At,y22.St,y22.Cn,y22.Fin,r25.1,y22.T,y22.R,y22.Last⟩:Ad))) none) none)
 (k27 ([],[],y22))) λk23=>
 cond (r21.2==2)
 (ob (Bf a1) λr24=>
 k23 (⟨r1.Id,r1.Psk,r1.At,r1.St,r1.Cn,r1.Fin,r20,r1.T,r24,r1.Last⟩:Ad))
 (k23 (⟨r1.Id,r1.Psk,r1.At,r1.St,r1.Cn,r1.Fin,r20,r1.T,r21.1,r1.Last⟩:Ad))))))) λk3=>
 ob (GD a0) λr4=>
 cond (!r4)
 (k3 true)
 (cond (!(eA a1 0 1000000))
 (k3 true)
 (k3 (a0.St==0)))
def Ch(a0:Ai):=
 ob (KD a0) λr1=>
 cond (!r1)
 (ob (nA a0) λr2=>
 some r2)
 (cond (decide (([]:List UInt8).length+a0.Cn.length≤bA)) (cond (decide (([]:List UInt8).length+a0.Sn.length≤bA)) (some (⟨a0.Id,[]++a0.Cn,[]++a0.Sn,(⟨0,[],(⟨0,[],0,(⟨0,[]⟩:Aq)⟩:Ax),(⟨0,[],0,(⟨0,[]⟩:Aq)⟩:Ax),false,0,[]⟩:Ak),(⟨(⟨0,0⟩:Ah),[]⟩:Aj),a0.Tick,0,true⟩:Ai)) none) none)
def Bx(a0:Aj)(a1:Int):=
 aA (λy1=>
 cond (y1)
 (ob (nA a0) λr3=>
 some r3)
 (aA (λ(y4:Aj)=>
 some y4) λk5=>
 sA FU (λ(x6:Int×Aj) k7=>
 cond (decide (x6.1<(a0.Cands.length:Int)))
 (ob (kA a0.Cands x6.1) λe8=>
 aA (λ(y9:Aj)=>
 k7 ((iA .i64 x6.1 1),y9)) λk10=>
 cond (decide (e8.Until≥a1))
 (ob (kA a0.Cands x6.1) λe11=>
 ob (DH e11) λr12=>
 cond (decide (x6.2.Cands.length+[r12].length≤bA)) (k10 (⟨x6.2.At,x6.2.Cands++[r12]⟩:Aj)) none)
 (k10 x6.2))
 (k5 x6.2)) (0,(⟨a0.At,[]⟩:Aj)))) λk2=>
 cond (!(sC a0))
 (k2 true)
 (k2 (!(eA a1 0 1000000)))
def Gs(a0:Ai)(a1:Int):=
 ob (nA a0) λr1=>
 aA (λy2=>
 cond (y2)
 (some r1)
 (cond (decide ((qA .i64 a1 a0.Last)>60))
 (ob (Ch a0) λr5=>
 some r5)
 (ob (Bw a0.C a1) λr6=>
 ob (Bx a0.P a1) λr7=>
 some (⟨r1.Id,r1.Cn,r1.Sn,r6,r7,r1.Tick,r1.Last,r1.Dead⟩:Ai)))) λk3=>
 ob (KD a0) λr4=>
 cond (!r4)
 (k3 true)
 (cond (a0.Dead)
 (k3 true)
 (k3 (!(eA a1 0 1000000))))
def Gt(a0:Ap)(a1:Int):=
 aA (λy1=>
 cond (y1)
 (ob (nA a0) λr4=>
 some r4)
 (aA (λ(y5:Ap)=>
 some y5) λk6=>
 sA FU (λ(x7:Int×Ap) k8=>
 cond (decide (x7.1<(a0.L.length:Int)))
 (ob (kA a0.L x7.1) λe9=>
 ob (Gs e9 a1) λr10=>
 aA (λ(y11:Bool)=>
 aA (λ(y13:Ap)=>
 k8 ((iA .i64 x7.1 1),y13)) λk14=>
 cond (y11)
 (cond (decide (x7.2.L.length+[r10].length≤bA)) (k14 (⟨x7.2.Cap,x7.2.L++[r10]⟩:Ap)) none)
 (k14 x7.2)) λk12=>
 cond (!r10.Dead)
 (k12 true)
 (k12 (decide ((qA .i64 a1 r10.Tick)≤10))))
 (k6 x7.2)) (0,(⟨a0.Cap,[]⟩:Ap)))) λk2=>
 ob (uG a0) λr3=>
 cond (!r3)
 (k2 true)
 (k2 (!(eA a1 0 1000000)))
def Ff(a0:Ai):=
 cond (decide (([]:List UInt8).length+a0.Sn.length≤bA)) (some (⟨11,a0.Id,1,[],[]++a0.Sn,0,0,[],[],(⟨0,0⟩:Ah),0⟩:Ae)) none
def Gu(a0:Ac)(a1:Int):=
 ob (nA a0) λr1=>
 aA (λy2=>
 cond (y2)
 (some (r1,[]))
 (ob (Gt a0.T a1) λr5=>
 aA (λ(y6:(List Ae))=>
 some ((⟨r1.Psks,r1.J,r1.D,r5,r1.Cr⟩:Ac),y6)) λk7=>
 sA FU (λ(x8:(List Ae)×Int) k9=>
 cond (decide (x8.2<(a0.T.L.length:Int)))
 (ob (kA a0.T.L x8.2) λe10=>
 ob (ID r5 e10.Sn) λr11=>
 aA (λ(y12:Bool)=>
 aA (λ(y16:(List Ae))=>
 k9 (y16,(iA .i64 x8.2 1))) λk17=>
 cond (y12)
 (ob (kA a0.T.L x8.2) λe18=>
 ob (Ff e18) λr19=>
 cond (decide (x8.1.length+[r19].length≤bA)) (k17 (x8.1++[r19])) none)
 (k17 x8.1)) λk13=>
 ob (kA a0.T.L x8.2) λe14=>
 cond (!e14.Dead)
 (cond (decide (r11<0))
 (k13 true)
 (cond (decide (0≤r11)&&decide (r11<(r5.L.length:Int))) (ob (r5.L[r11.toNat]?) λe15=>
 k13 e15.Dead) none))
 (k13 false))
 (k7 x8.1)) ([],0))) λk3=>
 ob (HC a0) λr4=>
 cond (!r4)
 (k3 true)
 (k3 (!(eA a1 0 1000000)))
def Gv(a0:Aa):Option ((List Am)×Aa):=
 aA (λ(y1:(List Am)×Aa)=>
 ob (Gu y1.2.S y1.2.Now) λr9=>
 cond (decide (y1.2.Notes.length+r9.2.length≤bA)) (some (y1.1,(⟨y1.2.Now,y1.2.Clients,r9.1,y1.2.D,y1.2.Seen,y1.2.Known,y1.2.Notes++r9.2⟩:Aa))) none) λk2=>
 sA FU (λ(x3:(List Am)×Int×Aa) k4=>
 cond (decide (x3.2.1<2))
 (cond (decide (0≤x3.2.1)&&decide (x3.2.1<(x3.2.2.Clients.length:Int))) (ob (x3.2.2.Clients[x3.2.1.toNat]?) λe5=>
 ob (Gr e5 x3.2.2.Now) λr6=>
 cond (decide (0≤x3.2.1)&&decide (x3.2.1<(x3.2.2.Clients.length:Int))) (ob (x3.2.2.Clients[x3.2.1.toNat]?) λe7=>
 cond (decide (x3.2.2.Notes.length+r6.2.2.length≤bA)) (ob (Ed r6.1 r6.2.1) λr8=>
 cond (decide (x3.1.length+r8.length≤bA)) (k4 ((x3.1++r8),(iA .i64 x3.2.1 1),(⟨x3.2.2.Now,List.set x3.2.2.Clients x3.2.1.toNat r6.1,x3.2.2.S,x3.2.2.D,x3.2.2.Seen,x3.2.2.Known,x3.2.2.Notes++r6.2.2⟩:Aa))) none) none) none) none)
 (k2 (x3.1,x3.2.2))) ([],0,(⟨iA .i64 a0.Now 1,a0.Clients,a0.S,a0.D,a0.Seen,a0.Known,a0.Notes⟩:Aa))
def Ci(a0:Ad)(a1:Ah):=
 ob (nA a0) λr1=>
 aA (λ(y2:Bool)=>
 aA (λ(y5:Ad)=>
 some y5) λk6=>
 cond (y2)
 (k6 (⟨r1.Id,r1.Psk,a1,r1.St,r1.Cn,r1.Fin,r1.C,r1.T,r1.R,r1.Last⟩:Ad))
 (k6 r1)) λk3=>
 ob (GD a0) λr4=>
 cond (r4)
 (k3 (GA a1))
 (k3 false)
def Dl(a0:Ak):=
 ob (nA a0) λr1=>
 aA (λy2=>
 cond (y2)
 (some (r1,false))
 (ob (ME a0.Cur.Key [114,101,107,101,121]) λr5=>
 some ((⟨r1.Role,r1.Sn,r1.Cur,r1.Old,r1.HasOld,r1.Until,r5⟩:Ak),true))) λk3=>
 ob (uC a0) λr4=>
 cond (!r4)
 (k3 true)
 (cond (a0.Role !=0)
 (k3 true)
 (cond (decide ((a0.Next.length:Int)>0))
 (k3 true)
 (k3 (a0.Cur.N==4294967295))))
def Gw(a0:Ad)(a1:Int):Option (Ad×(List Ab)×(List Ae)×Int):=
 ob (nA a0) λr1=>
 aA (λy2=>
 cond (y2)
 (some (r1,[],[],1))
 (aA (λy5=>
 cond (y5)
 (some (r1,[],[],6))
 (ob (Dl a0.C) λr7=>
 ob (Fe r7.1) λr8=>
 aA (λy9=>
 cond (y9)
 (some (r1,[],[],5))
 (ob (Bf a1) λr11=>
 ob (Bp r8.1 r8.2.1) λr12=>
 some ((⟨r1.Id,r1.Psk,r1.At,r1.St,r1.Cn,r1.Fin,r8.1,r1.T,r11,r1.Last⟩:Ad),[r8.2.1],[r12],0))) λk10=>
 cond (!r7.2)
 (k10 true)
 (k10 (r8.2.2 !=0)))) λk6=>
 cond (a0.St !=3)
 (k6 true)
 (k6 (decide ((a0.C.Next.length:Int)>0))))) λk3=>
 ob (GD a0) λr4=>
 cond (!r4)
 (k3 true)
 (k3 (!(eA a1 0 1000000)))
def Fg(a0:List Al)(a1:Ah)(a2:Int):=
 cond (decide (([]:List Al).length+a0.length≤bA)) (aA (λy1=>
 cond (y1)
 (some ([]++a0))
 (cond (decide ((oB a0 a1)<0))
 (cond ((a0.length:Int)==8)
 (some ([]++a0))
 (cond (decide (([]++a0).length+[(⟨a1,a2,0⟩:Al)].length≤bA)) (some (([]++a0)++[(⟨a1,a2,0⟩:Al)])) none))
 (cond (decide (0≤(oB a0 a1))&&decide ((oB a0 a1)<(([]++a0).length:Int))) (ob (([]++a0)[(oB a0 a1).toNat]?) λe3=>
 cond (decide (0≤(oB a0 a1))&&decide ((oB a0 a1)<(([]++a0).length:Int))) (ob (([]++a0)[(oB a0 a1).toNat]?) λe4=>
 let l5:List Al:=List.set ([]++a0) ((oB a0 a1).toNat) (⟨e4.A,iA .i64 e3.Got a2,e4.Sent⟩:Al)
 cond (decide (0≤(oB a0 a1))&&decide ((oB a0 a1)<(l5.length:Int))) (ob (l5[(oB a0 a1).toNat]?) λe6=>
 aA (λ(y7:(List Al))=>
 some y7) λk8=>
 cond (decide (e6.Got>1000000))
 (cond (decide (0≤(oB a0 a1))&&decide ((oB a0 a1)<(l5.length:Int))) (ob (l5[(oB a0 a1).toNat]?) λe9=>
 let l10:List Al:=List.set l5 ((oB a0 a1).toNat) (⟨e9.A,1000000,e9.Sent⟩:Al)
 k8 l10) none)
 (k8 l5)) none) none) none))) λk2=>
 cond (!(iD a0))
 (k2 true)
 (cond (!(GA a1))
 (k2 true)
 (k2 (!(eA a2 0 1000000))))) none
def Ef(a0:List UInt8):=
 cond ((a0.length:Int)==0)
 (some ((⟨0,0,[],[],0,[],[],0,0,[],[]⟩:Ab),false))
 (ob (kA a0 0) λe1=>
 let x2:Int:=IntKind.wrap .i64 ((e1.toNat:Nat):Int)
 aA (λ(y3:Ab×Ab)=>
 ob (Bj y3.2) λr28=>
 cond (Nat.ble r28.length bA) (cond (Nat.ble a0.length bA) (cond (!(r28==a0))
 (some ((⟨0,0,[],[],0,[],[],0,0,[],[]⟩:Ab),false))
 (some (y3.2,true))) none) none) λk4=>
 cond (x2==1)
 (cond ((a0.length:Int) !=34)
 (some ((⟨0,0,[],[],0,[],[],0,0,[],[]⟩:Ab),false))
 (ob (kA a0 1) λe5=>
 let x6:Int:=IntKind.wrap .i64 ((e5.toNat:Nat):Int)
 cond (decide (0≤(2:Int))&&decide ((2:Int)≤14)&&decide (14≤(a0.length:Int))) (let l7:List UInt8:=List.take 12 (List.drop 2 a0)
 cond (decide (([]:List UInt8).length+l7.length≤bA)) (k4 ((⟨0,0,[],[],0,[],[],0,0,[],[]⟩:Ab),(⟨x2,x6,[]++l7,[],0,[],[],0,0,[],[]⟩:Ab))) none) none))
 (aA (λ(y8:Ab×Ab)=>
 k4 (y8.1,y8.2)) λk9=>
 cond (x2==2)
 (cond ((a0.length:Int) !=45)
 (some ((⟨0,0,[],[],0,[],[],0,0,[],[]⟩:Ab),false))
 (cond (decide (0≤(1:Int))&&decide ((1:Int)≤13)&&decide (13≤(a0.length:Int))) (let l10:List UInt8:=List.take 12 (List.drop 1 a0)
 cond (decide (([]:List UInt8).length+l10.length≤bA)) (cond (decide (0≤(13:Int))&&decide ((13:Int)≤25)&&decide (25≤(a0.length:Int))) (let l11:List UInt8:=List.take 12 (List.drop 13 a0)
 cond (decide (([]:List UInt8).length+l11.length≤bA)) (ob (kH a0 25 4) λr12=>
 cond (decide (0≤(29:Int))&&decide ((29:Int)≤(a0.length:Int))&&decide ((a0.length:Int)≤(a0.length:Int))) (let l13:List UInt8:=List.take (((a0.length:Int) - 29).toNat) (List.drop 29 a0)
 cond (decide (([]:List UInt8).length+l13.length≤bA)) (k9 ((⟨0,0,[],[],0,[],[],0,0,[],[]⟩:Ab),(⟨x2,0,[]++l10,[]++l11,r12.1,[]++l13,[],0,0,[],[]⟩:Ab))) none) none) none) none) none) none))
 (aA (λ(y14:Ab×Ab)=>
 k9 (y14.1,y14.2)) λk15=>
 cond (x2==3)
 (cond ((a0.length:Int) !=62)
 (some ((⟨0,0,[],[],0,[],[],0,0,[],[]⟩:Ab),false))
 (ob (kA a0 1) λe16=>
 let x17:Int:=IntKind.wrap .i64 ((e16.toNat:Nat):Int)
 cond (decide (0≤(2:Int))&&decide ((2:Int)≤14)&&decide (14≤(a0.length:Int))) (let l18:List UInt8:=List.take 12 (List.drop 2 a0)
 cond (decide (([]:List UInt8).length+l18.length≤bA)) (cond (decide (0≤(14:Int))&&decide ((14:Int)≤26)&&decide (26≤(a0.length:Int))) (let l19:List UInt8:=List.take 12 (List.drop 14 a0)
 cond (decide (([]:List UInt8).length+l19.length≤bA)) (ob (kH a0 26 4) λr20=>
 cond (decide (0≤(30:Int))&&decide ((30:Int)≤46)&&decide (46≤(a0.length:Int))) (let l21:List UInt8:=List.take 16 (List.drop 30 a0)
 cond (decide (([]:List UInt8).length+l21.length≤bA)) (cond (decide (0≤(46:Int))&&decide ((46:Int)≤(a0.length:Int))&&decide ((a0.length:Int)≤(a0.length:Int))) (let l22:List UInt8:=List.take (((a0.length:Int) - 46).toNat) (List.drop 46 a0)
 cond (decide (([]:List UInt8).length+l22.length≤bA)) (k15 ((⟨0,0,[],[],0,[],[],0,0,[],[]⟩:Ab),(⟨x2,x17,[]++l18,[]++l19,r20.1,[]++l21,[]++l22,0,0,[],[]⟩:Ab))) none) none) none) none) none) none) none) none))
 (cond (decide ((a0.length:Int)<39))
 (some ((⟨0,0,[],[],0,[],[],0,0,[],[]⟩:Ab),false))
 (cond (decide (0≤(1:Int))&&decide ((1:Int)≤13)&&decide (13≤(a0.length:Int))) (let l23:List UInt8:=List.take 12 (List.drop 1 a0)
 cond (decide (([]:List UInt8).length+l23.length≤bA)) (ob (kH a0 13 4) λr24=>
 ob (kH a0 17 6) λr25=>
 cond (decide (0≤(23:Int))&&decide ((23:Int)≤39)&&decide (39≤(a0.length:Int))) (let l26:List UInt8:=List.take 16 (List.drop 23 a0)
 cond (decide (([]:List UInt8).length+l26.length≤bA)) (cond (decide (0≤(39:Int))&&decide ((39:Int)≤(a0.length:Int))&&decide ((a0.length:Int)≤(a0.length:Int))) (let l27:List UInt8:=List.take (((a0.length:Int) - 39).toNat) (List.drop 39 a0)
 cond (decide (([]:List UInt8).length+l27.length≤bA)) (k15 ((⟨0,0,[],[],0,[],[],0,0,[],[]⟩:Ab),(⟨x2,0,[],[]++l23,0,[],[],r24.1,r25.1,[]++l27,[]++l26⟩:Ab))) none) none) none) none) none) none)))))
def Dm(a0:Ap)(a1:Ah):=
 aA (λ(y1:Unit)=>
 some false) λk2=>
 sA FU (λ(x3:Int) k4=>
 cond (decide (x3<(a0.L.length:Int)))
 (aA (λy5=>
 cond (y5)
 (some true)
 (k4 (iA .i64 x3 1))) λk6=>
 ob (kA a0.L x3) λe7=>
 cond (!e7.Dead)
 (ob (kA a0.L x3) λe8=>
 let x9:Bool:=cond (e8.P.At.Host==a1.Host) (cond (e8.P.At.Port==a1.Port) (true) false) false
 k6 x9)
 (k6 false))
 (k2 ())) 0
def By(a0:List Al)(a1:Ah):=
 aA (λy1=>
 cond (y1)
 (some 0)
 (ob (kA a0 (oB a0 a1)) λe3=>
 ob (kA a0 (oB a0 a1)) λe4=>
 some (qA .i64 (XB .i64 3 e3.Got) e4.Sent))) λk2=>
 cond (!(iD a0))
 (k2 true)
 (k2 (decide ((oB a0 a1)<0)))
def Fh(a0:Ac)(a1:Ah)(a2:Int):=
 aA (λ(y1:Bool)=>
 some y1) λk2=>
 ob (Dm a0.T a1) λr3=>
 cond (r3)
 (k2 true)
 (ob (By a0.Cr a1) λr4=>
 k2 (decide (r4≥a2)))
def Gx(a0:List UInt8)(a1:Ah):=
 cond (!(GA a1))
 (cond (decide (([]:List UInt8).length+a0.length≤bA)) (some ([]++a0)) none)
 (ob (VB a0 a1.Host 4) λr1=>
 ob (VB r1 a1.Port 2) λr2=>
 some r2)
def Eg(a0:Ah)(a1:Int)(a2:List UInt8)(a3:List UInt8)(a4:Int):=
 aA (λy1=>
 cond (y1)
 (some [])
 (ob (Gx [UInt8.ofNat (99:Int).toNat] a0) λr3=>
 cond (decide (r3.length+[UInt8.ofNat (IntKind.wrap .u8 a1:Int).toNat].length≤bA)) (cond (decide ((r3++[UInt8.ofNat (IntKind.wrap .u8 a1:Int).toNat]).length+a2.length≤bA)) (let x4:List UInt8:=(r3++[UInt8.ofNat (IntKind.wrap .u8 a1:Int).toNat])++a2
 cond (decide (x4.length+a3.length≤bA)) (ob (VB (x4++a3) a4 4) λr5=>
 some r5) none) none) none)) λk2=>
 cond (!(GA a0))
 (k2 true)
 (cond (!(eA a1 1 9))
 (k2 true)
 (cond ((a2.length:Int) !=12)
 (k2 true)
 (cond ((a3.length:Int) !=12)
 (k2 true)
 (k2 (!(eA a4 0 1000000))))))
def Fi(a0:Ba)(a1:Ah)(a2:Int)(a3:List UInt8)(a4:List UInt8)(a5:Int):=
 ob (Eg a1 a2 a3 a4 a5) λr1=>
 aA (λy2=>
 cond (y2)
 (some [])
 (ob (Ct a0.Secret r1) λr4=>
 some r4)) λk3=>
 cond (!(PE a0))
 (k3 true)
 (k3 ((r1.length:Int)==0))
def Cw(a0:Int)(a1:Int):=
 aA (λ(y1:Bool)=>
 some y1) λk2=>
 cond ((eA a0 0 1000000))
 (cond ((eA a1 0 1000000))
 (k2 (eA (qA .i64 a0 a1) 0 10))
 (k2 false))
 (k2 false)
def Bq(a0:List UInt8)(a1:List UInt8):=
 cond ((a0.length:Int) !=(a1.length:Int))
 (some (-1))
 (aA (λ(y1:Int)=>
 some y1) λk2=>
 sA FU (λ(x3:Int×Int) k4=>
 cond (decide (x3.2<(a0.length:Int)))
 (ob (kA a0 x3.2) λe5=>
 ob (kA a1 x3.2) λe6=>
 let x7:Int:=xB .u8 ((e5.toNat:Nat):Int) ((e6.toNat:Nat):Int)
 k4 ((CK .i64 x3.1 (IntKind.wrap .i64 x7)),(iA .i64 x3.2 1)))
 (k2 x3.1)) (0,0))
def Bm(a0:List UInt8)(a1:List UInt8):=
 aA (λ(y1:Bool)=>
 some y1) λk2=>
 cond ((a0.length:Int)==16)
 (ob (Bq a0 a1) λr3=>
 k2 (r3==0))
 (k2 false)
def Gy(a0:Ba)(a1:Int)(a2:Ah)(a3:Ab):Option Int:=
 aA (λy1=>
 cond (y1)
 (some 1)
 (ob (Cw a1 a3.Tick) λr3=>
 cond (!r3)
 (some 9)
 (ob (Fi a0 a2 a3.Id a3.Cn a3.Sn a3.Tick) λr4=>
 ob (Bm a3.Cookie r4) λr5=>
 cond (!r5)
 (some 2)
 (some 0)))) λk2=>
 cond (!(PE a0))
 (k2 true)
 (cond (!(eA a1 0 1000000))
 (k2 true)
 (cond (!(GA a2))
 (k2 true)
 (cond (!(AB a3))
 (k2 true)
 (k2 (a3.Kind !=3)))))
def Bz(a0:List UInt8)(a1:List UInt8):=
 let r1:(List UInt8):=XC a0 a1
 some r1
def Bh(a0:List UInt8):=
 cond (!(AC a0))
 (some [])
 (let x1:List UInt8:=[UInt8.ofNat (114:Int).toNat,UInt8.ofNat (111:Int).toNat,UInt8.ofNat (97:Int).toNat,UInt8.ofNat (109:Int).toNat]
 ob (Bz x1 a0) λr2=>
 ob (ME r2 [102,105,110,105,115,104]) λr3=>
 some r3)
def Eh(a0:Int)(a1:List UInt8)(a2:List UInt8)(a3:Int)(a4:List UInt8):=
 aA (λy1=>
 cond (y1)
 (some [])
 (let x3:List UInt8:=[UInt8.ofNat (102:Int).toNat,UInt8.ofNat (IntKind.wrap .u8 a0:Int).toNat]
 cond (decide (x3.length+a1.length≤bA)) (cond (decide ((x3++a1).length+a2.length≤bA)) (ob (VB ((x3++a1)++a2) a3 4) λr4=>
 cond (decide (r4.length+a4.length≤bA)) (some (r4++a4)) none) none) none)) λk2=>
 cond (!(eA a0 1 9))
 (k2 true)
 (cond ((a1.length:Int) !=12)
 (k2 true)
 (cond ((a2.length:Int) !=12)
 (k2 true)
 (cond (!(eA a3 0 1000000))
 (k2 true)
 (k2 ((a4.length:Int) !=16)))))
def Fj(a0:List UInt8)(a1:Int)(a2:List UInt8)(a3:List UInt8)(a4:Int)(a5:List UInt8):=
 ob (Bh a0) λr1=>
 ob (Eh a1 a2 a3 a4 a5) λr2=>
 aA (λy3=>
 cond (y3)
 (some [])
 (ob (Ct r1 r2) λr5=>
 some r5)) λk4=>
 cond ((r1.length:Int)==0)
 (k4 true)
 (k4 ((r2.length:Int)==0))
def Gz(a0:List UInt8)(a1:Ab):=
 aA (λ(y1:Bool)=>
 some y1) λk2=>
 cond ((AB a1))
 (cond (a1.Kind==3)
 (ob (Fj a0 a1.Id a1.Cn a1.Sn a1.Tick a1.Cookie) λr3=>
 ob (Bm a1.Proof r3) λr4=>
 k2 r4)
 (k2 false))
 (k2 false)
def Ha(a0:List UInt8)(a1:List UInt8)(a2:List UInt8):=
 aA (λy1=>
 cond (y1)
 (some [])
 (cond (decide (([]:List UInt8).length+a1.length≤bA)) (cond (decide (([]++a1).length+a2.length≤bA)) (ob (Bz (([]++a1)++a2) a0) λr3=>
 some r3) none) none)) λk2=>
 cond (!(AC a0))
 (k2 true)
 (cond ((a1.length:Int) !=12)
 (k2 true)
 (k2 ((a2.length:Int) !=12)))
def Cy(a0:List UInt8):=
 cond ((a0.length:Int) !=32)
 (some [])
 (ob (ME a0 [101,112,111,99,104]) λr1=>
 some r1)
def Hb(a0:List UInt8)(a1:Int):=
 cond (!(eA a1 0 64))
 (some [])
 (cond (decide (([]:List UInt8).length+a0.length≤bA)) (aA (λ(y1:(List UInt8))=>
 some y1) λk2=>
 sA FU (λ(x3:(List UInt8)×Int) k4=>
 cond (decide (x3.2<a1))
 (ob (ME x3.1 [114,101,107,101,121]) λr5=>
 k4 (r5,(iA .i64 x3.2 1)))
 (k2 x3.1)) (([]++a0),0)) none)
def Fk(a0:List UInt8)(a1:List UInt8)(a2:List UInt8)(a3:Int):=
 ob (Ha a0 a1 a2) λr1=>
 ob (Cy r1) λr2=>
 cond ((r2.length:Int)==0)
 (some r2)
 (ob (Hb r2 a3) λr3=>
 some r3)
def Fl:=
 aA (λ(y1:Aq)=>
 some y1) λk2=>
 sA FU (λ(x3:Int×Aq) k4=>
 cond (decide (x3.1<32))
 (cond (decide (x3.2.Bits.length+[0].length≤bA)) (k4 ((iA .i64 x3.1 1),(⟨x3.2.Top,x3.2.Bits++[0]⟩:Aq))) none)
 (k2 x3.2)) (0,(⟨(-1),[]⟩:Aq))
def Ca(a0:Int)(a1:List UInt8):=
 aA (λy1=>
 cond (y1)
 (some (⟨0,[],0,(⟨0,[]⟩:Aq)⟩:Ax))
 (cond (decide (([]:List UInt8).length+a1.length≤bA)) (ob (Fl) λr3=>
 some (⟨a0,[]++a1,0,r3⟩:Ax)) none)) λk2=>
 cond (!(eA a0 0 4294967295))
 (k2 true)
 (k2 ((a1.length:Int) !=32))
def Ei(a0:Int)(a1:List UInt8)(a2:List UInt8):=
 aA (λy1=>
 cond (y1)
 (some (⟨0,[],(⟨0,[],0,(⟨0,[]⟩:Aq)⟩:Ax),(⟨0,[],0,(⟨0,[]⟩:Aq)⟩:Ax),false,0,[]⟩:Ak))
 (cond (decide (([]:List UInt8).length+a1.length≤bA)) (ob (Ca 0 a2) λr3=>
 some (⟨a0,[]++a1,r3,(⟨0,[],0,(⟨0,[]⟩:Aq)⟩:Ax),false,0,[]⟩:Ak)) none)) λk2=>
 cond (!(eA a0 0 1))
 (k2 true)
 (cond ((a1.length:Int) !=12)
 (k2 true)
 (k2 ((a2.length:Int) !=32)))
def Cj(a0:Ah):=
 some (⟨a0,[]⟩:Aj)
def Fm(a0:List UInt8)(a1:Int)(a2:Ah)(a3:Ab):=
 aA (λy1=>
 cond (y1)
 (some (⟨0,[],[],(⟨0,[],(⟨0,[],0,(⟨0,[]⟩:Aq)⟩:Ax),(⟨0,[],0,(⟨0,[]⟩:Aq)⟩:Ax),false,0,[]⟩:Ak),(⟨(⟨0,0⟩:Ah),[]⟩:Aj),0,0,false⟩:Ai))
 (cond (decide (([]:List UInt8).length+a3.Cn.length≤bA)) (cond (decide (([]:List UInt8).length+a3.Sn.length≤bA)) (ob (Fk a0 a3.Cn a3.Sn 0) λr3=>
 ob (Ei 1 a3.Sn r3) λr4=>
 ob (Cj a2) λr5=>
 some (⟨a3.Id,[]++a3.Cn,[]++a3.Sn,r4,r5,a3.Tick,a1,false⟩:Ai)) none) none)) λk2=>
 cond (!(AC a0))
 (k2 true)
 (cond (!(eA a1 0 1000000))
 (k2 true)
 (cond (!(GA a2))
 (k2 true)
 (cond (!(AB a3))
 (k2 true)
 (k2 (a3.Kind !=3)))))
def Bi(a0:Ap)(a1:Ai):Option (Ap×Int):=
 ob (nA a0) λr1=>
 aA (λy2=>
 cond (y2)
 (some (r1,1))
 (ob (ID a0 a1.Sn) λr6=>
 cond (decide (r6≥0))
 (some (r1,3))
 (aA (λy7=>
 cond (y7)
 (some (r1,7))
 (ob (nA a1) λr10=>
 cond (decide (r1.L.length+[r10].length≤bA)) (some ((⟨r1.Cap,r1.L++[r10]⟩:Ap),0)) none)) λk8=>
 ob (wJ a0) λr9=>
 cond (r9==a0.Cap)
 (k8 true)
 (k8 ((a0.L.length:Int)==12))))) λk3=>
 ob (uG a0) λr4=>
 cond (!r4)
 (k3 true)
 (ob (KD a1) λr5=>
 cond (!r5)
 (k3 true)
 (k3 a1.Dead))
def Dn(a0:List UInt8)(a1:List UInt8)(a2:List UInt8):=
 cond (decide (([]:List UInt8).length+a0.length≤bA)) (cond (decide (([]:List UInt8).length+a1.length≤bA)) (cond (decide (([]:List UInt8).length+a2.length≤bA)) (some (⟨16,0,0,[],[]++a1,0,0,[]++a2,[]++a0,(⟨0,0⟩:Ah),0⟩:Ae)) none) none) none
def Fn(a0:Ak):Option (Ak×Ab×Int):=
 aA (λy1=>
 cond (y1)
 (ob (nA a0) λr4=>
 some (r4,(⟨0,0,[],[],0,[],[],0,0,[],[]⟩:Ab),6))
 (ob (Bk a0.Cur.N) λr5=>
 ob (Cg a0 8 r5) λr6=>
 some (r6.1,r6.2.1,r6.2.2))) λk2=>
 ob (uC a0) λr3=>
 cond (!r3)
 (k2 true)
 (k2 (a0.Role !=1))
def Hc(a0:Ai):Option (Ai×(List Av)×(List Ae)):=
 ob (nA a0) λr1=>
 aA (λy2=>
 cond (y2)
 (some (r1,[],[]))
 (ob (Fn a0.C) λr5=>
 cond (r5.2.2 !=0)
 (some (r1,[],[]))
 (ob (Bp r5.1 r5.2.1) λr6=>
 some ((⟨r1.Id,r1.Cn,r1.Sn,r5.1,r1.P,r1.Tick,r1.Last,r1.Dead⟩:Ai),[(⟨a0.P.At,r5.2.1⟩:Av)],[r6])))) λk3=>
 ob (KD a0) λr4=>
 cond (!r4)
 (k3 true)
 (cond (a0.Dead)
 (k3 true)
 (k3 (a0.C.Cur.N !=0)))
def Hd(a0:Int):=
 cond (decide (a0<1024))
 (some 0)
 (some (iA .i64 (qA .i64 a0 1024) 1))
def Br(a0:Aq)(a1:Int):=
 aA (λy1=>
 cond (y1)
 (some false)
 (aA (λ(y3:Bool)=>
 some y3) λk4=>
 cond (decide (a1>a0.Top))
 (k4 true)
 (ob (Hd a0.Top) λr5=>
 cond (decide (a1≥r5))
 (ob (XF a0 a1) λr6=>
 k4 (!r6))
 (k4 false)))) λk2=>
 cond (!(dD a0))
 (k2 true)
 (k2 (!(eA a1 0 281474976710655)))
def He(a0:List UInt8)(a1:Int)(a2:Ab):=
 ob (Bv a1 a2) λr1=>
 aA (λy2=>
 cond (y2)
 (some ([],false))
 (ob (Ce a1 a2.Sn a2.Epoch a2.Seq) λr6=>
 ob (Ea a0 r6 a2.Body) λr7=>
 some (r7,true))) λk3=>
 cond ((a0.length:Int) !=32)
 (k3 true)
 (cond ((r1.length:Int)==0)
 (k3 true)
 (ob (Ct a0 r1) λr4=>
 ob (Bm a2.Tag r4) λr5=>
 k3 (!r5)))
def Ck(a0:Aq)(a1:Int):=
 ob (nA a0) λr1=>
 ob (Br a0 a1) λr2=>
 cond (!r2)
 (some (r1,false))
 (aA (λ(y3:Aq)=>
 cond (decide (0≤EC .i64 (zA .i64 a1 1024) 32)&&decide (EC .i64 (zA .i64 a1 1024) 32<(y3.Bits.length:Int))) (ob (y3.Bits[(EC .i64 (zA .i64 a1 1024) 32).toNat]?) λe13=>
 cond (decide ((zA .i64 (zA .i64 a1 1024) 32)<0)) none (let x14:Int:=DJ .i64 1 (zA .i64 (zA .i64 a1 1024) 32)
 cond (decide (0≤EC .i64 (zA .i64 a1 1024) 32)&&decide (EC .i64 (zA .i64 a1 1024) 32<(y3.Bits.length:Int))) (ob (y3.Bits[(EC .i64 (zA .i64 a1 1024) 32).toNat]?) λe15=>
 let l16:List Int:=List.set y3.Bits ((EC .i64 (zA .i64 a1 1024) 32).toNat) (CK .i64 e13 x14)
 aA (λ(y17:Aq)=>
 some (y17,true)) λk18=>
 cond (decide (a1>a0.Top))
 (k18 (⟨a1,l16⟩:Aq))
 (k18 (⟨y3.Top,l16⟩:Aq))) none)) none) λk4=>
 sA FU (λ(x5:Int×Int×Aq) k6=>
 aA (λy7=>
 cond (y7)
 (cond (decide (0≤EC .i64 (zA .i64 x5.2.1 1024) 32)&&decide (EC .i64 (zA .i64 x5.2.1 1024) 32<(x5.2.2.Bits.length:Int))) (ob (x5.2.2.Bits[(EC .i64 (zA .i64 x5.2.1 1024) 32).toNat]?) λe9=>
 cond (decide ((zA .i64 (zA .i64 x5.2.1 1024) 32)<0)) none (let x10:Int:=DJ .i64 1 (zA .i64 (zA .i64 x5.2.1 1024) 32)
 cond (decide (0≤EC .i64 (zA .i64 x5.2.1 1024) 32)&&decide (EC .i64 (zA .i64 x5.2.1 1024) 32<(x5.2.2.Bits.length:Int))) (ob (x5.2.2.Bits[(EC .i64 (zA .i64 x5.2.1 1024) 32).toNat]?) λe11=>
 let l12:List Int:=List.set x5.2.2.Bits ((EC .i64 (zA .i64 x5.2.1 1024) 32).toNat) (zdk .i64 e9 x10)
 k6 ((iA .i64 x5.1 1),(iA .i64 x5.2.1 1),(⟨x5.2.2.Top,l12⟩:Aq))) none)) none)
 (k4 x5.2.2)) λk8=>
 cond (decide (x5.2.1≤a1))
 (k8 (decide (x5.1<1024)))
 (k8 false)) (0,(iA .i64 a0.Top 1),r1))
def Cz(a0:Ax)(a1:Int)(a2:Ab):Option (Ax×(List UInt8)×Int):=
 ob (nA a0) λr1=>
 aA (λy2=>
 cond (y2)
 (some (r1,[],1))
 (ob (Br a0.Win a2.Seq) λr5=>
 cond (!r5)
 (some (r1,[],3))
 (ob (He a0.Key a1 a2) λr6=>
 cond (!r6.2)
 (some (r1,[],2))
 (ob (Ck a0.Win a2.Seq) λr7=>
 some ((⟨r1.N,r1.Key,r1.Seq,r7.1⟩:Ax),r6.1,0))))) λk3=>
 cond (!(YC a0))
 (k3 true)
 (ob (Bv a1 a2) λr4=>
 cond ((r4.length:Int)==0)
 (k3 true)
 (k3 (a2.Epoch !=a0.N)))
def Ej(a0:Ak)(a1:Int)(a2:Ab):Option (Ak×(List UInt8)×Int):=
 ob (nA a0) λr1=>
 aA (λy2=>
 cond (y2)
 (some (r1,[],1))
 (ob (FB a2.Sn a0.Sn) λr5=>
 cond (!r5)
 (some (r1,[],8))
 (cond (a2.Epoch==a0.Cur.N)
 (ob (Cz a0.Cur (qA .i64 1 a0.Role) a2) λr6=>
 cond (r6.2.2 !=0)
 (some (r1,[],r6.2.2))
 (aA (λ(y7:Bool)=>
 aA (λ(y9:Ak)=>
 some (y9,r6.2.1,0)) λk10=>
 cond (y7)
 (k10 (⟨r1.Role,r1.Sn,r6.1,r1.Old,r1.HasOld,iA .i64 a1 5,r1.Next⟩:Ak))
 (k10 (⟨r1.Role,r1.Sn,r6.1,r1.Old,r1.HasOld,r1.Until,r1.Next⟩:Ak))) λk8=>
 cond (a0.HasOld)
 (k8 (a0.Until==(-1)))
 (k8 false)))
 (aA (λy11=>
 cond (y11)
 (aA (λy13=>
 cond (y13)
 (some (r1,[],9))
 (ob (Cz a0.Old (qA .i64 1 a0.Role) a2) λr15=>
 cond (r15.2.2 !=0)
 (some (r1,[],r15.2.2))
 (some ((⟨r1.Role,r1.Sn,r1.Cur,r15.1,r1.HasOld,r1.Until,r1.Next⟩:Ak),r15.2.1,0)))) λk14=>
 cond (a0.Until !=(-1))
 (k14 (decide (a1>a0.Until)))
 (k14 false))
 (aA (λy16=>
 cond (y16)
 (ob (Ca (iA .i64 a0.Cur.N 1) a0.Next) λr18=>
 ob (Cz r18 (qA .i64 1 a0.Role) a2) λr19=>
 cond (r19.2.2 !=0)
 (some (r1,[],r19.2.2))
 (some ((⟨r1.Role,r1.Sn,r19.1,r1.Cur,true,iA .i64 a1 5,[]⟩:Ak),r19.2.1,0)))
 (some (r1,[],8))) λk17=>
 cond (decide ((a0.Next.length:Int)>0))
 (k17 (a2.Epoch==(iA .i64 a0.Cur.N 1)))
 (k17 false))) λk12=>
 cond (a0.HasOld)
 (k12 (a2.Epoch==a0.Old.N))
 (k12 false))))) λk3=>
 ob (uC a0) λr4=>
 cond (!r4)
 (k3 true)
 (cond (!(eA a1 0 1000000))
 (k3 true)
 (cond (!(AB a2))
 (k3 true)
 (k3 (!(fC a2.Kind)))))
def Fo(a0:Ak)(a1:Int):=
 ob (uC a0) λr1=>
 cond (!r1)
 (some ([],false))
 (aA (λy2=>
 cond (y2)
 (cond (decide (([]:List UInt8).length+a0.Old.Key.length≤bA)) (some ([]++a0.Old.Key,true)) none)
 (cond (a1==a0.Cur.N)
 (cond (decide (([]:List UInt8).length+a0.Cur.Key.length≤bA)) (some ([]++a0.Cur.Key,true)) none)
 (aA (λy4=>
 cond (y4)
 (cond (decide (([]:List UInt8).length+a0.Next.length≤bA)) (some ([]++a0.Next,true)) none)
 (some ([],false))) λk5=>
 cond (decide ((a0.Next.length:Int)>0))
 (k5 (a1==(iA .i64 a0.Cur.N 1)))
 (k5 false)))) λk3=>
 cond (a0.HasOld)
 (k3 (a1==a0.Old.N))
 (k3 false))
def Fp(a0:Aj)(a1:Int)(a2:Ah)(a3:List UInt8):=
 ob (OM a0 a2) λr1=>
 aA (λy2=>
 cond (y2)
 (ob (nA a0) λr5=>
 some (r5,false))
 (aA (λ(y6:Aj)=>
 some (y6,true)) λk7=>
 sA FU (λ(x8:Int×Aj) k9=>
 cond (decide (x8.1<(a0.Cands.length:Int)))
 (ob (kA a0.Cands x8.1) λe10=>
 let x11:Bool:=!(cond (e10.A.Host==a2.Host) (cond (e10.A.Port==a2.Port) (true) false) false)
 aA (λ(y12:Aj)=>
 k9 ((iA .i64 x8.1 1),y12)) λk13=>
 cond (x11)
 (ob (kA a0.Cands x8.1) λe14=>
 ob (DH e14) λr15=>
 cond (decide (x8.2.Cands.length+[r15].length≤bA)) (k13 (⟨x8.2.At,x8.2.Cands++[r15]⟩:Aj)) none)
 (k13 x8.2))
 (k7 x8.2)) (0,(⟨a2,[]⟩:Aj)))) λk3=>
 cond (!r1.2)
 (k3 true)
 (cond (!(eA a1 0 1000000))
 (k3 true)
 (ob (FB r1.1.Draw a3) λr4=>
 cond (!r4)
 (k3 true)
 (k3 (decide (a1>r1.1.Until)))))
def Hf(a0:Ak):=
 ob (nA a0) λr1=>
 aA (λy2=>
 cond (y2)
 (some (r1,false))
 (ob (ME a0.Cur.Key [114,101,107,101,121]) λr5=>
 ob (Ca (iA .i64 a0.Cur.N 1) r5) λr6=>
 some ((⟨r1.Role,r1.Sn,r6,r1.Cur,true,(-1),r1.Next⟩:Ak),true))) λk3=>
 ob (uC a0) λr4=>
 cond (!r4)
 (k3 true)
 (cond (a0.Role !=1)
 (k3 true)
 (k3 (a0.Cur.N==4294967295)))
def Hg(a0:Ak)(a1:Int)(a2:List UInt8):Option (Ak×Int):=
 ob (nA a0) λr1=>
 aA (λy2=>
 cond (y2)
 (some (r1,6))
 (cond (a1==a0.Cur.N)
 (ob (Hf a0) λr7=>
 cond (!r7.2)
 (some (r1,6))
 (some (r7.1,0)))
 (cond (a1==(qA .i64 a0.Cur.N 1))
 (some (r1,0))
 (some (r1,6))))) λk3=>
 ob (uC a0) λr4=>
 cond (!r4)
 (k3 true)
 (cond (a0.Role !=1)
 (k3 true)
 (cond (!(eA a1 0 4294967294))
 (k3 true)
 (ob (Bk (iA .i64 a1 1)) λr5=>
 ob (FB a2 r5) λr6=>
 k3 (!r6))))
def Ek(a0:Aj)(a1:Int)(a2:Ah)(a3:List UInt8):=
 aA (λy1=>
 cond (y1)
 (ob (nA a0) λr4=>
 some (r4,false))
 (ob (Bx a0 a1) λr5=>
 aA (λ(y6:Aj)=>
 cond ((r5.Cands.length:Int)==3)
 (ob (nA a0) λr13=>
 some (r13,false))
 (cond (decide (([]:List UInt8).length+a3.length≤bA)) (cond (decide (r5.Cands.length+[(⟨a2,[]++a3,iA .i64 a1 6⟩:Az)].length≤bA)) (some ((⟨r5.At,r5.Cands++[(⟨a2,[]++a3,iA .i64 a1 6⟩:Az)]⟩:Aj),true)) none) none)) λk7=>
 sA FU (λ(x8:Int×Aj) k9=>
 cond (decide (x8.1<(r5.Cands.length:Int)))
 (cond (decide (0≤x8.1)&&decide (x8.1<(r5.Cands.length:Int))) (ob (r5.Cands[x8.1.toNat]?) λe10=>
 let x11:Bool:=cond (e10.A.Host==a2.Host) (cond (e10.A.Port==a2.Port) (true) false) false
 cond (x11)
 (ob (nA a0) λr12=>
 some (r12,false))
 (k9 ((iA .i64 x8.1 1),x8.2))) none)
 (k7 x8.2)) (0,(⟨(⟨0,0⟩:Ah),[]⟩:Aj)))) λk2=>
 cond (!(sC a0))
 (k2 true)
 (cond (!(eA a1 0 1000000))
 (k2 true)
 (cond (!(GA a2))
 (k2 true)
 (cond ((a3.length:Int) !=12)
 (k2 true)
 (let x3:Bool:=cond (a2.Host==a0.At.Host) (cond (a2.Port==a0.At.Port) (true) false) false
 k2 x3))))
def Hh(a0:Ai)(a1:Int)(a2:Ah)(a3:Ab)(a4:List UInt8):Option (Ai×(List Av)×(List Ae)×Bool):=
 ob (nA a0) λr1=>
 aA (λy2=>
 cond (y2)
 (some (r1,[],[],false))
 (ob (Ej a0.C a1 a3) λr5=>
 cond (r5.2.2 !=0)
 (some (r1,[],[],false))
 (ob (Fo a0.C a3.Epoch) λr6=>
 ob (Bv 0 a3) λr7=>
 ob (Dn r6.1 a0.Sn r7) λr8=>
 cond (decide (([]:List Ae).length+[r8].length≤bA)) (aA (λ(y9:(List Av)×(List Ae)×Ai)=>
 ob (Ek y9.2.2.P a1 a2 a4) λr30=>
 ob (Cg y9.2.2.C 5 a4) λr31=>
 aA (λy32=>
 cond (y32)
 (some (y9.2.2,y9.1,y9.2.1,false))
 (cond (decide (y9.1.length+[(⟨a2,r31.2.1⟩:Av)].length≤bA)) (ob (Bp r31.1 r31.2.1) λr34=>
 cond (decide (y9.2.1.length+[r34].length≤bA)) (some ((⟨y9.2.2.Id,y9.2.2.Cn,y9.2.2.Sn,r31.1,r30.1,y9.2.2.Tick,y9.2.2.Last,y9.2.2.Dead⟩:Ai),y9.1++[(⟨a2,r31.2.1⟩:Av)],y9.2.1++[r34],true)) none) none)) λk33=>
 cond (!r30.2)
 (k33 true)
 (k33 (r31.2.2 !=0))) λk10=>
 cond (a3.Kind==4)
 (cond (decide (([]:List UInt8).length+a0.Sn.length≤bA)) (cond (decide (([]:List UInt8).length+r5.2.1.length≤bA)) (let x11:List Ae:=[(⟨6,0,0,[],[]++a0.Sn,a3.Epoch,a3.Seq,[]++r5.2.1,[],(⟨0,0⟩:Ah),a1⟩:Ae)]
 cond (decide (([]++[r8]).length+x11.length≤bA)) (k10 ([],(([]++[r8])++x11),(⟨r1.Id,r1.Cn,r1.Sn,r5.1,r1.P,r1.Tick,a1,r1.Dead⟩:Ai))) none) none) none)
 (aA (λ(y12:(List Av)×(List Ae)×Ai)=>
 k10 (y12.1,y12.2.1,y12.2.2)) λk13=>
 cond (a3.Kind==6)
 (ob (Fp r1.P a1 a2 r5.2.1) λr14=>
 aA (λ(y15:(List Ae)×Ai)=>
 k13 ([],y15.1,y15.2)) λk16=>
 cond (r14.2)
 (cond (decide (([]:List UInt8).length+a0.Sn.length≤bA)) (cond (decide (([]:List UInt8).length+r5.2.1.length≤bA)) (let x17:List Ae:=[(⟨9,0,0,[],[]++a0.Sn,0,0,[]++r5.2.1,[],a2,a1⟩:Ae)]
 cond (decide (([]++[r8]).length+x17.length≤bA)) (k16 ((([]++[r8])++x17),(⟨r1.Id,r1.Cn,r1.Sn,r5.1,r14.1,r1.Tick,a1,r1.Dead⟩:Ai))) none) none) none)
 (k16 (([]++[r8]),(⟨r1.Id,r1.Cn,r1.Sn,r5.1,r1.P,r1.Tick,a1,r1.Dead⟩:Ai))))
 (aA (λ(y18:(List Av)×(List Ae)×Ai)=>
 k13 (y18.1,y18.2.1,y18.2.2)) λk19=>
 cond (a3.Kind==7)
 (ob (Hg r5.1 a3.Epoch r5.2.1) λr20=>
 aA (λ(y21:(List Av)×(List Ae)×Ai)=>
 k19 (y21.1,y21.2.1,y21.2.2)) λk22=>
 cond (r20.2==0)
 (aA (λ(y23:(List Ae))=>
 ob (Fn r20.1) λr26=>
 aA (λ(y27:(List Av)×(List Ae)×Ai)=>
 k22 (y27.1,y27.2.1,y27.2.2)) λk28=>
 cond (r26.2.2==0)
 (cond (decide (([]:List Av).length+[(⟨r1.P.At,r26.2.1⟩:Av)].length≤bA)) (ob (Bp r26.1 r26.2.1) λr29=>
 cond (decide (y23.length+[r29].length≤bA)) (k28 (([]++[(⟨r1.P.At,r26.2.1⟩:Av)]),(y23++[r29]),(⟨r1.Id,r1.Cn,r1.Sn,r26.1,r1.P,r1.Tick,a1,r1.Dead⟩:Ai))) none) none)
 (k28 ([],y23,(⟨r1.Id,r1.Cn,r1.Sn,r20.1,r1.P,r1.Tick,a1,r1.Dead⟩:Ai)))) λk24=>
 cond (r20.1.Cur.N !=r5.1.Cur.N)
 (cond (decide (([]:List UInt8).length+a0.Sn.length≤bA)) (cond (decide (([]:List UInt8).length+r20.1.Cur.Key.length≤bA)) (let x25:List Ae:=[(⟨10,0,1,[],[]++a0.Sn,r20.1.Cur.N,0,[],[]++r20.1.Cur.Key,(⟨0,0⟩:Ah),0⟩:Ae)]
 cond (decide (([]++[r8]).length+x25.length≤bA)) (k24 (([]++[r8])++x25)) none) none) none)
 (k24 ([]++[r8])))
 (k22 ([],([]++[r8]),(⟨r1.Id,r1.Cn,r1.Sn,r5.1,r1.P,r1.Tick,a1,r1.Dead⟩:Ai))))
 (k19 ([],([]++[r8]),(⟨r1.Id,r1.Cn,r1.Sn,r5.1,r1.P,r1.Tick,a1,r1.Dead⟩:Ai)))))) none))) λk3=>
 ob (KD a0) λr4=>
 cond (!r4)
 (k3 true)
 (cond (a0.Dead)
 (k3 true)
 (k3 (!(GA a2))))
def Em(a0:Ab):=
 ob (Bj a0) λr1=>
 some (r1.length:Int)
def Do(a0:List Al)(a1:Ah)(a2:Int):=
 cond (decide (([]:List Al).length+a0.length≤bA)) (aA (λy1=>
 cond (y1)
 (some ([]++a0,false))
 (cond (decide (0≤(oB a0 a1))&&decide ((oB a0 a1)<(([]++a0).length:Int))) (ob (([]++a0)[(oB a0 a1).toNat]?) λe4=>
 cond (decide (0≤(oB a0 a1))&&decide ((oB a0 a1)<(([]++a0).length:Int))) (ob (([]++a0)[(oB a0 a1).toNat]?) λe5=>
 let l6:List Al:=List.set ([]++a0) ((oB a0 a1).toNat) (⟨e5.A,e5.Got,iA .i64 e4.Sent a2⟩:Al)
 some (l6,true)) none) none)) λk2=>
 cond (decide ((oB a0 a1)<0))
 (k2 true)
 (cond (!(iD a0))
 (k2 true)
 (ob (By a0 a1) λr3=>
 k2 (!(eA a2 0 r3))))) none
def Hi(a0:Ac)(a1:List Av):=
 aA (λ(y1:(List Av)×Ac)=>
 some (y1.1,y1.2)) λk2=>
 sA FU (λ(x3:(List Av)×Int×Ac) k4=>
 cond (decide (x3.2.1<(a1.length:Int)))
 (aA (λ(y5:(List Av)×Ac)=>
 k4 (y5.1,(iA .i64 x3.2.1 1),y5.2)) λk6=>
 ob (kA a1 x3.2.1) λe7=>
 ob (Dm x3.2.2.T e7.To) λr8=>
 aA (λ(y9:Ac)=>
 ob (kA a1 x3.2.1) λe15=>
 cond (decide (x3.1.length+[e15].length≤bA)) (k6 ((x3.1++[e15]),y9)) none) λk10=>
 cond (!r8)
 (ob (kA a1 x3.2.1) λe11=>
 ob (kA a1 x3.2.1) λe12=>
 ob (Em e12.F) λr13=>
 ob (Do x3.2.2.Cr e11.To r13) λr14=>
 cond (!r14.2)
 (k6 (x3.1,x3.2.2))
 (k10 (⟨x3.2.2.Psks,x3.2.2.J,x3.2.2.D,x3.2.2.T,r14.1⟩:Ac)))
 (k10 x3.2.2))
 (k2 (x3.1,x3.2.2))) ([],0,a0)
def Hj(a0:Ac)(a1:Int)(a2:Ah)(a3:List UInt8):Option (Ac×(List Av)×(List Ae)):=
 ob (nA a0) λr1=>
 aA (λy2=>
 cond (y2)
 (some (r1,[],[]))
 (ob (Fg a0.Cr a2 (a3.length:Int)) λr5=>
 ob (Ef a3) λr6=>
 cond (!r6.2)
 (some ((⟨r1.Psks,r1.J,r1.D,r1.T,r5⟩:Ac),[],[]))
 (aA (λ(y7:(List Av)×(List Ae)×Ac×Ac)=>
 ob (Hi y7.2.2.1 y7.1) λr65=>
 some (r65.2,r65.1,y7.2.1)) λk8=>
 cond (r6.1.Kind==1)
 (aA (λy9=>
 cond (y9)
 (some ((⟨r1.Psks,r1.J,r1.D,r1.T,r5⟩:Ac),[],[]))
 (ob (ZD a0.D) λr12=>
 cond (decide (([]:List UInt8).length+r6.1.Cn.length≤bA)) (ob (Fi a0.J a2 r6.1.Id r6.1.Cn r12.2 a1) λr13=>
 ob (TD r12.2) λr14=>
 ob (Eg a2 r6.1.Id r6.1.Cn r12.2 a1) λr15=>
 ob (Ee a0.J.Secret r15) λr16=>
 cond (decide (([]:List Ae).length+[r14,r16].length≤bA)) (let x17:List Av:=[(⟨a2,(⟨2,0,[]++r6.1.Cn,r12.2,a1,r13,[],0,0,[],[]⟩:Ab)⟩:Av)]
 cond (decide (([]:List Av).length+x17.length≤bA)) (k8 (([]++x17),([]++[r14,r16]),(⟨r1.Psks,r1.J,r12.1,r1.T,r5⟩:Ac),(⟨[],(⟨[]⟩:Ba),(⟨[],0⟩:Au),(⟨0,[]⟩:Ap),[]⟩:Ac))) none) none) none)) λk10=>
 cond (decide (r6.1.Id>(a0.Psks.length:Int)))
 (k10 true)
 (ob (Fh (⟨r1.Psks,r1.J,r1.D,r1.T,r5⟩:Ac) a2 45) λr11=>
 cond (!r11)
 (k10 true)
 (k10 (a0.D.N==10000))))
 (aA (λ(y18:(List Av)×(List Ae)×Ac×Ac)=>
 k8 (y18.1,y18.2.1,y18.2.2.2,y18.2.2.1)) λk19=>
 cond (r6.1.Kind==3)
 (aA (λy20=>
 cond (y20)
 (some ((⟨r1.Psks,r1.J,r1.D,r1.T,r5⟩:Ac),[],[]))
 (ob (ID a0.T r6.1.Sn) λr25=>
 aA (λ(y26:(List Ae)×Int×Ac×Ac)=>
 cond (decide (0≤y26.2.1)&&decide (y26.2.1<(y26.2.2.2.T.L.length:Int))) (ob (y26.2.2.2.T.L[y26.2.1.toNat]?) λe38=>
 aA (λ(y39:Bool)=>
 aA (λ(y42:(List Av)×(List Ae)×Ac)=>
 k19 (y42.1,y42.2.1,y26.2.2.1,y42.2.2)) λk43=>
 cond (y39)
 (ob (Hc e38) λr44=>
 cond (decide (0≤y26.2.1)&&decide (y26.2.1<(y26.2.2.2.T.L.length:Int))) (ob (y26.2.2.2.T.L[y26.2.1.toNat]?) λe45=>
 cond (decide (([]:List Av).length+r44.2.1.length≤bA)) (cond (decide (y26.1.length+r44.2.2.length≤bA)) (k43 (([]++r44.2.1),(y26.1++r44.2.2),(⟨y26.2.2.2.Psks,y26.2.2.2.J,y26.2.2.2.D,(⟨y26.2.2.2.T.Cap,List.set y26.2.2.2.T.L y26.2.1.toNat r44.1⟩:Ap),y26.2.2.2.Cr⟩:Ac))) none) none) none)
 (k43 ([],y26.1,y26.2.2.2))) λk40=>
 cond (!e38.Dead)
 (cond (e38.Id==r6.1.Id)
 (ob (FB e38.Cn r6.1.Cn) λr41=>
 k40 r41)
 (k40 false))
 (k40 false)) none) λk27=>
 cond (decide (r25<0))
 (ob (kA a0.Psks (qA .i64 r6.1.Id 1)) λe28=>
 ob (Fm e28 a1 a2 r6.1) λr29=>
 ob (Bi a0.T r29) λr30=>
 cond (r30.2 !=0)
 (some ((⟨r1.Psks,r1.J,r1.D,r1.T,r5⟩:Ac),[],[]))
 (ob (Eg a2 r6.1.Id r6.1.Cn r6.1.Sn r6.1.Tick) λr31=>
 ob (Dn a0.J.Secret r6.1.Sn r31) λr32=>
 cond (decide (([]:List Ae).length+[r32].length≤bA)) (ob (kA a0.Psks (qA .i64 r6.1.Id 1)) λe33=>
 ob (Bh e33) λr34=>
 ob (Eh r6.1.Id r6.1.Cn r6.1.Sn r6.1.Tick r6.1.Cookie) λr35=>
 ob (Dn r34 r6.1.Sn r35) λr36=>
 cond (decide (([]++[r32]).length+[r36].length≤bA)) (cond (decide (([]:List UInt8).length+r6.1.Cn.length≤bA)) (cond (decide (([]:List UInt8).length+r6.1.Sn.length≤bA)) (cond (decide (([]:List UInt8).length+r29.C.Cur.Key.length≤bA)) (let x37:List Ae:=[(⟨4,r6.1.Id,0,[]++r6.1.Cn,[]++r6.1.Sn,0,0,[],[]++r29.C.Cur.Key,a2,a1⟩:Ae)]
 cond (decide ((([]++[r32])++[r36]).length+x37.length≤bA)) (k27 (((([]++[r32])++[r36])++x37),(qA .i64 (r30.1.L.length:Int) 1),(⟨[],(⟨[]⟩:Ba),(⟨[],0⟩:Au),(⟨0,[]⟩:Ap),[]⟩:Ac),(⟨r1.Psks,r1.J,r1.D,r30.1,r5⟩:Ac))) none) none) none) none) none) none))
 (k27 ([],r25,(⟨[],(⟨[]⟩:Ba),(⟨[],0⟩:Au),(⟨0,[]⟩:Ap),[]⟩:Ac),(⟨r1.Psks,r1.J,r1.D,r1.T,r5⟩:Ac))))) λk21=>
 ob (Gy a0.J a1 a2 r6.1) λr22=>
 cond (r22 !=0)
 (k21 true)
 (cond (decide (r6.1.Id>(a0.Psks.length:Int)))
 (k21 true)
 (ob (kA a0.Psks (qA .i64 r6.1.Id 1)) λe23=>
 ob (Gz e23 r6.1) λr24=>
 k21 (!r24))))
 (aA (λ(y46:(List Av)×(List Ae)×Ac×Ac)=>
 k19 (y46.1,y46.2.1,y46.2.2.1,y46.2.2.2)) λk47=>
 cond ((fC r6.1.Kind))
 (ob (ID a0.T r6.1.Sn) λr48=>
 aA (λy49=>
 cond (y49)
 (some ((⟨r1.Psks,r1.J,r1.D,r1.T,r5⟩:Ac),[],[]))
 (ob (ZD a0.D) λr52=>
 ob (Fh (⟨r1.Psks,r1.J,r1.D,r1.T,r5⟩:Ac) a2 51) λr53=>
 aA (λ(y54:(List UInt8))=>
 ob (kA a0.T.L r48) λe56=>
 ob (Hh e56 a1 a2 r6.1 y54) λr57=>
 cond (decide (0≤r48)&&decide (r48<(r1.T.L.length:Int))) (ob (r1.T.L[r48.toNat]?) λe58=>
 cond (decide (([]:List Av).length+r57.2.1.length≤bA)) (aA (λ(y59:(List Ae)×Ac)=>
 cond (decide (y59.1.length+r57.2.2.1.length≤bA)) (aA (λ(y62:(List Ae))=>
 k47 (([]++r57.2.1),y62,(⟨[],(⟨[]⟩:Ba),(⟨[],0⟩:Au),(⟨0,[]⟩:Ap),[]⟩:Ac),y59.2)) λk63=>
 cond (r57.2.2.2)
 (cond (decide (([]:List UInt8).length+r6.1.Sn.length≤bA)) (cond (decide (([]:List UInt8).length+y54.length≤bA)) (let x64:List Ae:=[(⟨7,0,0,[],[]++r6.1.Sn,0,0,[]++y54,[],a2,a1⟩:Ae)]
 cond (decide ((y59.1++r57.2.2.1).length+x64.length≤bA)) (k63 ((y59.1++r57.2.2.1)++x64)) none) none) none)
 (k63 (y59.1++r57.2.2.1))) none) λk60=>
 cond (r57.2.2.2)
 (ob (TD y54) λr61=>
 cond (decide (([]:List Ae).length+[r61].length≤bA)) (k60 (([]++[r61]),(⟨r1.Psks,r1.J,r52.1,(⟨r1.T.Cap,List.set r1.T.L r48.toNat r57.1⟩:Ap),r5⟩:Ac))) none)
 (k60 ([],(⟨r1.Psks,r1.J,r1.D,(⟨r1.T.Cap,List.set r1.T.L r48.toNat r57.1⟩:Ap),r5⟩:Ac)))) none) none) λk55=>
 cond (!r53)
 (k55 [])
 (k55 r52.2))) λk50=>
 cond (decide (r48<0))
 (k50 true)
 (ob (kA a0.T.L r48) λe51=>
 k50 e51.Dead))
 (k47 ([],[],(⟨[],(⟨[]⟩:Ba),(⟨[],0⟩:Au),(⟨0,[]⟩:Ap),[]⟩:Ac),(⟨r1.Psks,r1.J,r1.D,r1.T,r5⟩:Ac)))))))) λk3=>
 ob (HC a0) λr4=>
 cond (!r4)
 (k3 true)
 (cond (!(eA a1 0 1000000))
 (k3 true)
 (k3 (!(GA a2))))
def Fq(a0:List UInt8)(a1:Int)(a2:Ab):=
 aA (λy1=>
 cond (y1)
 (some ((⟨0,0,[],[],0,[],[],0,0,[],[]⟩:Ab),false))
 (ob (Fj a0 a1 a2.Cn a2.Sn a2.Tick a2.Cookie) λr3=>
 cond ((r3.length:Int)==0)
 (some ((⟨0,0,[],[],0,[],[],0,0,[],[]⟩:Ab),false))
 (ob (nA a2) λr4=>
 some ((⟨3,a1,r4.Cn,r4.Sn,r4.Tick,r4.Cookie,r3,r4.Epoch,r4.Seq,r4.Body,r4.Tag⟩:Ab),true)))) λk2=>
 cond (!(AB a2))
 (k2 true)
 (k2 (a2.Kind !=2))
def En(a0:Ad)(a1:Int)(a2:Ab):Option (Ad×(List Ab)×(List Ae)):=
 ob (nA a0) λr1=>
 aA (λy2=>
 cond (y2)
 (some (r1,[],[]))
 (aA (λy5=>
 cond (y5)
 (ob (Fq a0.Psk a0.Id a2) λr8=>
 ob (Fk a0.Psk a0.Cn a2.Sn 0) λr9=>
 ob (Ei 0 a2.Sn r9) λr10=>
 ob (Bf a1) λr11=>
 cond (decide (([]:List UInt8).length+a0.Cn.length≤bA)) (cond (decide (([]:List UInt8).length+a2.Sn.length≤bA)) (let x12:List Ae:=[(⟨2,a0.Id,0,[]++a0.Cn,[]++a2.Sn,0,0,[],[],(⟨0,0⟩:Ah),a1⟩:Ae)]
 cond (decide (([]:List Ae).length+x12.length≤bA)) (ob (Bh a0.Psk) λr13=>
 ob (Eh r8.1.Id r8.1.Cn r8.1.Sn r8.1.Tick r8.1.Cookie) λr14=>
 ob (Ee r13 r14) λr15=>
 cond (decide (([]++x12).length+[r15].length≤bA)) (ob (nA r8.1) λr16=>
 cond (decide (([]:List Ab).length+[r16].length≤bA)) (some ((⟨r1.Id,r1.Psk,r1.At,2,r1.Cn,r8.1,r10,r11,r1.R,r1.Last⟩:Ad),[]++[r16],([]++x12)++[r15])) none) none) none) none) none)
 (aA (λy17=>
 cond (y17)
 (some (r1,[],[]))
 (ob (Ej a0.C a1 a2) λr19=>
 cond (r19.2.2 !=0)
 (some (r1,[],[]))
 (ob (Fo a0.C a2.Epoch) λr20=>
 ob (Bv 1 a2) λr21=>
 ob (Dn r20.1 a2.Sn r21) λr22=>
 cond (decide (([]:List Ae).length+[r22].length≤bA)) (aA (λ(y23:(List Ae)×Ad)=>
 aA (λ(y26:(List Ae)×Ad)=>
 aA (λ(y29:(List Ae))=>
 aA (λ(y32:(List Ab)×(List Ae)×Ad)=>
 some (y32.2.2,y32.1,y32.2.1)) λk33=>
 cond (a2.Kind==5)
 (ob (Cg r19.1 6 r19.2.1) λr34=>
 aA (λ(y35:(List Ab)×(List Ae)×Ad)=>
 k33 (y35.1,y35.2.1,y35.2.2)) λk36=>
 cond (r34.2.2==0)
 (cond (decide (([]:List Ab).length+[r34.2.1].length≤bA)) (ob (Bp r34.1 r34.2.1) λr37=>
 cond (decide (y29.length+[r37].length≤bA)) (cond (decide (([]:List UInt8).length+a2.Sn.length≤bA)) (cond (decide (([]:List UInt8).length+r19.2.1.length≤bA)) (let x38:List Ae:=[(⟨8,0,0,[],[]++a2.Sn,r34.2.1.Epoch,0,[]++r19.2.1,[],(⟨0,0⟩:Ah),0⟩:Ae)]
 cond (decide ((y29++[r37]).length+x38.length≤bA)) (k36 (([]++[r34.2.1]),((y29++[r37])++x38),(⟨y26.2.Id,y26.2.Psk,y26.2.At,y26.2.St,y26.2.Cn,y26.2.Fin,r34.1,y26.2.T,y26.2.R,y26.2.Last⟩:Ad))) none) none) none) none) none)
 (k36 ([],y29,y26.2)))
 (k33 ([],y29,y26.2))) λk30=>
 cond (a2.Kind==4)
 (cond (decide (([]:List UInt8).length+a2.Sn.length≤bA)) (cond (decide (([]:List UInt8).length+r19.2.1.length≤bA)) (let x31:List Ae:=[(⟨6,0,1,[],[]++a2.Sn,a2.Epoch,a2.Seq,[]++r19.2.1,[],(⟨0,0⟩:Ah),a1⟩:Ae)]
 cond (decide (y26.1.length+x31.length≤bA)) (k30 (y26.1++x31)) none) none) none)
 (k30 y26.1)) λk27=>
 cond (r19.1.Cur.N !=a0.C.Cur.N)
 (cond (decide (([]:List UInt8).length+a2.Sn.length≤bA)) (cond (decide (([]:List UInt8).length+r19.1.Cur.Key.length≤bA)) (let x28:List Ae:=[(⟨10,0,0,[],[]++a2.Sn,r19.1.Cur.N,0,[],[]++r19.1.Cur.Key,(⟨0,0⟩:Ah),0⟩:Ae)]
 cond (decide (y23.1.length+x28.length≤bA)) (k27 ((y23.1++x28),(⟨y23.2.Id,y23.2.Psk,y23.2.At,y23.2.St,y23.2.Cn,y23.2.Fin,y23.2.C,y23.2.T,(⟨false,0,0,0⟩:Aw),y23.2.Last⟩:Ad))) none) none) none)
 (k27 (y23.1,y23.2))) λk24=>
 cond (a0.St==2)
 (cond (decide (([]:List UInt8).length+a0.Cn.length≤bA)) (cond (decide (([]:List UInt8).length+a2.Sn.length≤bA)) (cond (decide (([]:List UInt8).length+a0.C.Cur.Key.length≤bA)) (let x25:List Ae:=[(⟨3,a0.Id,0,[]++a0.Cn,[]++a2.Sn,0,0,[],[]++a0.C.Cur.Key,(⟨0,0⟩:Ah),0⟩:Ae)]
 cond (decide (([]++[r22]).length+x25.length≤bA)) (k24 ((([]++[r22])++x25),(⟨r1.Id,r1.Psk,r1.At,3,r1.Cn,(⟨0,0,[],[],0,[],[],0,0,[],[]⟩:Ab),r19.1,(⟨false,0,0,0⟩:Aw),r1.R,a1⟩:Ad))) none) none) none) none)
 (k24 (([]++[r22]),(⟨r1.Id,r1.Psk,r1.At,r1.St,r1.Cn,r1.Fin,r19.1,r1.T,r1.R,a1⟩:Ad)))) none))) λk18=>
 cond (!(fC a2.Kind))
 (k18 true)
 (k18 (decide (a0.St<2))))) λk6=>
 cond (a2.Kind==2)
 (cond (a0.St==1)
 (ob (FB a2.Cn a0.Cn) λr7=>
 k6 r7)
 (k6 false))
 (k6 false))) λk3=>
 ob (GD a0) λr4=>
 cond (!r4)
 (k3 true)
 (cond (!(eA a1 0 1000000))
 (k3 true)
 (k3 (!(AB a2))))
def Hk(a0:Aa)(a1:Int)(a2:Ah)(a3:List UInt8):Option ((List Am)×Aa):=
 cond (a1==0)
 (ob (Hj a0.S a0.Now a2 a3) λr1=>
 cond (decide (a0.Notes.length+r1.2.2.length≤bA)) (ob (Fd r1.2.1) λr2=>
 some (r2,(⟨a0.Now,a0.Clients,r1.1,a0.D,a0.Seen,a0.Known,a0.Notes++r1.2.2⟩:Aa))) none)
 (ob (Ef a3) λr3=>
 cond (!r3.2)
 (some ([],a0))
 (cond (decide (0≤qA .i64 a1 1)&&decide (qA .i64 a1 1<(a0.Clients.length:Int))) (ob (a0.Clients[(qA .i64 a1 1).toNat]?) λe4=>
 ob (En e4 a0.Now r3.1) λr5=>
 cond (decide (0≤qA .i64 a1 1)&&decide (qA .i64 a1 1<(a0.Clients.length:Int))) (ob (a0.Clients[(qA .i64 a1 1).toNat]?) λe6=>
 cond (decide (a0.Notes.length+r5.2.2.length≤bA)) (ob (Ed r5.1 r5.2.1) λr7=>
 some (r7,(⟨a0.Now,List.set a0.Clients ((qA .i64 a1 1).toNat) r5.1,a0.S,a0.D,a0.Seen,a0.Known,a0.Notes++r5.2.2⟩:Aa))) none) none) none))
def Da(a0:Aa)(a1:Int)(a2:Ah)(a3:List UInt8):Option Aa:=
 ob (Hk a0 a1 a2 a3) λr1=>
 ob (Cf r1.2 r1.1 []) λr2=>
 some r2
def Dp(a0:Bc):=
 aA (λ(y1:Bool)=>
 some y1) λk2=>
 cond ((eA a0.Kind 1 10))
 (cond (decide ((a0.B.length:Int)≤200))
 (cond ((eA a0.I 0 200))
 (k2 (eA a0.J 0 200))
 (k2 false))
 (k2 false))
 (k2 false)
def Pi(a0:List UInt8)(a1:Int)(a2:Int):=
 aA (λy1=>
 cond (y1)
 (some ([],false))
 (cond (decide (0≤a1)&&decide (a1≤(iA .i64 a1 a2))&&decide ((iA .i64 a1 a2)≤(a0.length:Int))) (let l3:List UInt8:=List.take ((iA .i64 a1 a2 - a1).toNat) (List.drop a1.toNat a0)
 cond (decide (([]:List UInt8).length+l3.length≤bA)) (some ([]++l3,true)) none) none)) λk2=>
 cond (decide (a2<0))
 (k2 true)
 (cond (decide (a1<0))
 (k2 true)
 (cond (decide (a2>(a0.length:Int)))
 (k2 true)
 (k2 (decide (a1>(qA .i64 (a0.length:Int) a2))))))
def Fr(a0:List Bc)(a1:List Am)(a2:List (List UInt8)):Option ((List UInt8)×Bool):=
 cond (decide ((a0.length:Int)>16))
 (some ([],false))
 (aA (λ(y1:(List (List UInt8)))=>
 cond ((y1.length:Int) !=1)
 (some ([],false))
 (cond (decide (0≤(0:Int))&&decide ((0:Int)<(y1.length:Int))) (ob (y1[0]?) λe71=>
 cond (decide (([]:List UInt8).length+e71.length≤bA)) (some ([]++e71,true)) none) none)) λk2=>
 sA FU (λ(x3:(List (List UInt8))×Int) k4=>
 cond (decide (x3.2<(a0.length:Int)))
 (ob (kA a0 x3.2) λe5=>
 aA (λy6=>
 cond (y6)
 (some ([],false))
 (ob (Di e5.Kind) λr10=>
 aA (λ(y11:(List UInt8))=>
 aA (λy68=>
 cond (y68)
 (some ([],false))
 (cond (decide (0≤(0:Int))&&decide ((0:Int)≤(qA .i64 (x3.1.length:Int) r10))&&decide ((qA .i64 (x3.1.length:Int) r10)≤(x3.1.length:Int))) (cond (decide ((List.take ((qA .i64 (x3.1.length:Int) r10 - 0).toNat) x3.1).length+[y11].length≤bA)) (let x70:List (List UInt8):=(List.take ((qA .i64 (x3.1.length:Int) r10 - 0).toNat) x3.1)++[y11]
 k4 (x70,(iA .i64 x3.2 1))) none) none)) λk69=>
 cond (decide ((y11.length:Int)>200))
 (k69 true)
 (k69 ((qA .i64 (x3.1.length:Int) r10)==8))) λk12=>
 cond (e5.Kind==1)
 (cond (decide (([]:List UInt8).length+e5.B.length≤bA)) (k12 ([]++e5.B)) none)
 (aA (λ(y13:(List UInt8))=>
 k12 y13) λk14=>
 cond (e5.Kind==2)
 (cond (decide (e5.I≥(a1.length:Int)))
 (some ([],false))
 (ob (kA a1 e5.I) λe15=>
 cond (decide (([]:List UInt8).length+e15.B.length≤bA)) (k14 ([]++e15.B)) none))
 (aA (λ(y16:(List UInt8))=>
 k14 y16) λk17=>
 cond (e5.Kind==3)
 (cond (decide (e5.I≥(a2.length:Int)))
 (some ([],false))
 (ob (kA a2 e5.I) λe18=>
 cond (decide (([]:List UInt8).length+e18.length≤bA)) (k17 ([]++e18)) none))
 (aA (λ(y19:(List UInt8))=>
 k17 y19) λk20=>
 cond (e5.Kind==4)
 (cond (decide (0≤qA .i64 (x3.1.length:Int) r10)&&decide (qA .i64 (x3.1.length:Int) r10<(x3.1.length:Int))) (ob (x3.1[(qA .i64 (x3.1.length:Int) r10).toNat]?) λe21=>
 ob (GJ e21 e5.I e5.J) λr22=>
 cond (!r22.2)
 (some ([],false))
 (k20 r22.1)) none)
 (aA (λ(y23:(List UInt8))=>
 k20 y23) λk24=>
 cond (e5.Kind==5)
 (cond (decide (0≤qA .i64 (x3.1.length:Int) r10)&&decide (qA .i64 (x3.1.length:Int) r10<(x3.1.length:Int))) (ob (x3.1[(qA .i64 (x3.1.length:Int) r10).toNat]?) λe25=>
 cond (decide (([]:List UInt8).length+e25.length≤bA)) (let x26:Int:=iA .i64 (qA .i64 (x3.1.length:Int) r10) 1
 cond (decide (0≤x26)&&decide (x26<(x3.1.length:Int))) (ob (x3.1[x26.toNat]?) λe27=>
 cond (decide (([]++e25).length+e27.length≤bA)) (k24 (([]++e25)++e27)) none) none) none) none)
 (aA (λ(y28:(List UInt8))=>
 k24 y28) λk29=>
 cond (e5.Kind==6)
 (cond (decide (0≤qA .i64 (x3.1.length:Int) r10)&&decide (qA .i64 (x3.1.length:Int) r10<(x3.1.length:Int))) (ob (x3.1[(qA .i64 (x3.1.length:Int) r10).toNat]?) λe30=>
 let x31:Int:=iA .i64 (qA .i64 (x3.1.length:Int) r10) 1
 cond (decide (0≤x31)&&decide (x31<(x3.1.length:Int))) (ob (x3.1[x31.toNat]?) λe32=>
 cond ((e30.length:Int) !=(e32.length:Int))
 (some ([],false))
 (aA (λ(y33:(List UInt8))=>
 k29 y33) λk34=>
 sA FU (λ(x35:(List UInt8)×Int) k36=>
 cond (decide (0≤qA .i64 (x3.1.length:Int) r10)&&decide (qA .i64 (x3.1.length:Int) r10<(x3.1.length:Int))) (ob (x3.1[(qA .i64 (x3.1.length:Int) r10).toNat]?) λe37=>
 cond (decide (x35.2<(e37.length:Int)))
 (cond (decide (0≤qA .i64 (x3.1.length:Int) r10)&&decide (qA .i64 (x3.1.length:Int) r10<(x3.1.length:Int))) (ob (x3.1[(qA .i64 (x3.1.length:Int) r10).toNat]?) λe38=>
 ob (kA e38 x35.2) λe39=>
 let x40:Int:=iA .i64 (qA .i64 (x3.1.length:Int) r10) 1
 cond (decide (0≤x40)&&decide (x40<(x3.1.length:Int))) (ob (x3.1[x40.toNat]?) λe41=>
 ob (kA e41 x35.2) λe42=>
 let x43:Int:=xB .u8 ((e39.toNat:Nat):Int) ((e42.toNat:Nat):Int)
 cond (decide (x35.1.length+[UInt8.ofNat (x43:Int).toNat].length≤bA)) (k36 ((x35.1++[UInt8.ofNat (x43:Int).toNat]),(iA .i64 x35.2 1))) none) none) none)
 (k34 x35.1)) none) ([],0))) none) none)
 (aA (λ(y44:(List UInt8))=>
 k29 y44) λk45=>
 cond (e5.Kind==7)
 (cond (decide (0≤qA .i64 (x3.1.length:Int) r10)&&decide (qA .i64 (x3.1.length:Int) r10<(x3.1.length:Int))) (ob (x3.1[(qA .i64 (x3.1.length:Int) r10).toNat]?) λe46=>
 let x47:Int:=iA .i64 (qA .i64 (x3.1.length:Int) r10) 1
 cond (decide (0≤x47)&&decide (x47<(x3.1.length:Int))) (ob (x3.1[x47.toNat]?) λe48=>
 let r49:(List UInt8):=XC e46 e48
 k45 r49) none) none)
 (aA (λ(y50:(List UInt8))=>
 k45 y50) λk51=>
 cond (e5.Kind==8)
 (cond (decide (0≤qA .i64 (x3.1.length:Int) r10)&&decide (qA .i64 (x3.1.length:Int) r10<(x3.1.length:Int))) (ob (x3.1[(qA .i64 (x3.1.length:Int) r10).toNat]?) λe52=>
 let x53:Int:=iA .i64 (qA .i64 (x3.1.length:Int) r10) 1
 cond (decide (0≤x53)&&decide (x53<(x3.1.length:Int))) (ob (x3.1[x53.toNat]?) λe54=>
 ob (Ct e52 e54) λr55=>
 k51 r55) none) none)
 (aA (λ(y56:(List UInt8))=>
 k51 y56) λk57=>
 cond (e5.Kind==9)
 (cond (decide (0≤qA .i64 (x3.1.length:Int) r10)&&decide (qA .i64 (x3.1.length:Int) r10<(x3.1.length:Int))) (ob (x3.1[(qA .i64 (x3.1.length:Int) r10).toNat]?) λe58=>
 ob (ME e58 [114,101,107,101,121]) λr59=>
 k57 r59) none)
 (aA (λ(y60:(List UInt8))=>
 k57 y60) λk61=>
 cond (e5.Kind==10)
 (cond (decide (0≤qA .i64 (x3.1.length:Int) r10)&&decide (qA .i64 (x3.1.length:Int) r10<(x3.1.length:Int))) (ob (x3.1[(qA .i64 (x3.1.length:Int) r10).toNat]?) λe62=>
 let x63:Int:=iA .i64 (qA .i64 (x3.1.length:Int) r10) 1
 cond (decide (0≤x63)&&decide (x63<(x3.1.length:Int))) (ob (x3.1[x63.toNat]?) λe64=>
 let x65:Int:=iA .i64 (qA .i64 (x3.1.length:Int) r10) 2
 cond (decide (0≤x65)&&decide (x65<(x3.1.length:Int))) (ob (x3.1[x65.toNat]?) λe66=>
 ob (Ea e62 e64 e66) λr67=>
 k61 r67) none) none) none)
 (k61 [])))))))))))) λk7=>
 ob (Dp e5) λr8=>
 cond (!r8)
 (k7 true)
 (ob (Di e5.Kind) λr9=>
 k7 (decide ((x3.1.length:Int)<r9))))
 (k2 x3.1)) ([],0))
def Hl(a0:Ac):=
 ob (nA a0) λr1=>
 aA (λy2=>
 cond (y2)
 (some (r1,[]))
 (ob (ZD a0.D) λr5=>
 let r6:Ba:=eG r5.2;let r7:Ap:=lE a0.T.Cap
 ob (TD r5.2) λr8=>
 cond (decide (([]:List UInt8).length+r6.Secret.length≤bA)) (let x9:List Ae:=[r8,(⟨12,0,0,[],[],0,0,[],[]++r6.Secret,(⟨0,0⟩:Ah),0⟩:Ae)]
 some ((⟨r1.Psks,r6,r5.1,r7,[]⟩:Ac),x9)) none)) λk3=>
 ob (HC a0) λr4=>
 cond (!r4)
 (k3 true)
 (k3 (a0.D.N==10000))
def Hm(a0:Ad):=
 ob (GD a0) λr1=>
 cond (!r1)
 (ob (nA a0) λr2=>
 some (r2,[]))
 (cond (a0.St==3)
 (ob (Dk a0) λr3=>
 cond (decide (([]:List UInt8).length+a0.C.Sn.length≤bA)) (let x4:List Ae:=[(⟨11,a0.Id,0,[],[]++a0.C.Sn,0,0,[],[],(⟨0,0⟩:Ah),0⟩:Ae)]
 some (r3,x4)) none)
 (ob (Dk a0) λr5=>
 some (r5,[])))
def Hn(a0:Ac)(a1:Int):Option (Ac×(List Ae)×Int):=
 ob (nA a0) λr1=>
 ob (HC a0) λr2=>
 cond (!r2)
 (some (r1,[],1))
 (aA (λy3=>
 cond (y3)
 (some (r1,[],8))
 (ob (kA a0.T.L a1) λe7=>
 ob (Ch e7) λr8=>
 cond (decide (0≤a1)&&decide (a1<(r1.T.L.length:Int))) (ob (r1.T.L[a1.toNat]?) λe9=>
 ob (kA a0.T.L a1) λe10=>
 ob (Ff e10) λr11=>
 some ((⟨r1.Psks,r1.J,r1.D,(⟨r1.T.Cap,List.set r1.T.L a1.toNat r8⟩:Ap),r1.Cr⟩:Ac),[r11],0)) none)) λk4=>
 let r5:Bool:=eA a1 0 (qA .i64 (a0.T.L.length:Int) 1)
 cond (!r5)
 (k4 true)
 (ob (kA a0.T.L a1) λe6=>
 k4 e6.Dead))
def Ho(a0:Ak):=
 ob (uC a0) λr1=>
 cond (!r1)
 (some [])
 (aA (λ(y2:(List (List UInt8)))=>
 cond (decide (([]:List UInt8).length+a0.Cur.Key.length≤bA)) (cond (decide (y2.length+[[]++a0.Cur.Key].length≤bA)) (aA (λ(y4:(List (List UInt8)))=>
 some y4) λk5=>
 cond (decide ((a0.Next.length:Int)>0))
 (cond (decide (([]:List UInt8).length+a0.Next.length≤bA)) (cond (decide ((y2++[[]++a0.Cur.Key]).length+[[]++a0.Next].length≤bA)) (k5 ((y2++[[]++a0.Cur.Key])++[[]++a0.Next])) none) none)
 (k5 (y2++[[]++a0.Cur.Key]))) none) none) λk3=>
 cond (a0.HasOld)
 (cond (decide (([]:List UInt8).length+a0.Old.Key.length≤bA)) (cond (decide (([]:List (List UInt8)).length+[[]++a0.Old.Key].length≤bA)) (k3 ([]++[[]++a0.Old.Key])) none) none)
 (k3 []))
def Fs(a0:Aa)(a1:Ak):=
 ob (Ho a1) λr1=>
 let x2:Int:=iA .i64 (a0.Known.length:Int) (r1.length:Int)
 cond (decide (x2>12))
 (some (false,a0))
 (cond (decide (a0.Known.length+r1.length≤bA)) (cond (decide (([]:List UInt8).length+a1.Sn.length≤bA)) (let x3:List Ae:=[(⟨13,0,0,[],[]++a1.Sn,0,0,[],[],(⟨0,0⟩:Ah),0⟩:Ae)]
 cond (decide (a0.Notes.length+x3.length≤bA)) (some (true,(⟨a0.Now,a0.Clients,a0.S,a0.D,a0.Seen,a0.Known++r1,a0.Notes++x3⟩:Aa))) none) none) none)
def Ft(a0:Au)(a1:Int):=
 ob (dK a0) λr1=>
 aA (λ(y2:Bool)=>
 aA (λ(y4:Au)=>
 some y4) λk5=>
 cond (y2)
 (k5 (⟨r1.Seed,a1⟩:Au))
 (k5 r1)) λk3=>
 cond ((ZB a0))
 (k3 (eA a1 0 10000))
 (k3 false)
def Hp(a0:Aa)(a1:Ao):Option (Bool×Aa):=
 aA (λ(y1:Bool)=>
 aA (λ(y3:Am)=>
 aA (λ(y6:Aa)=>
 some (true,y6)) λk7=>
 cond (a1.Kind==1)
 (ob (ZD a0.D) λr8=>
 cond (decide (0≤zA .i64 a1.I 2)&&decide (zA .i64 a1.I 2<(a0.Clients.length:Int))) (ob (a0.Clients[(zA .i64 a1.I 2).toNat]?) λe9=>
 ob (Fc e9 a0.Now r8.2) λr10=>
 cond (r10.2.2.2 !=0)
 (some (false,a0))
 (ob (TD r8.2) λr11=>
 cond (decide (a0.Notes.length+[r11].length≤bA)) (ob (Dj (⟨a0.Now,a0.Clients,a0.S,r8.1,a0.Seen,a0.Known,a0.Notes++[r11]⟩:Aa) (zA .i64 a1.I 2) r10.1 r10.2.1 r10.2.2.1) λr12=>
 k7 r12) none)) none)
 (aA (λ(y13:Aa)=>
 k7 y13) λk14=>
 cond (a1.Kind==2)
 (cond (decide (0≤zA .i64 a1.I 2)&&decide (zA .i64 a1.I 2<(a0.Clients.length:Int))) (ob (a0.Clients[(zA .i64 a1.I 2).toNat]?) λe15=>
 ob (Gn e15 a0.Now a1.B) λr16=>
 cond (r16.2.2.2 !=0)
 (some (false,a0))
 (ob (Dj a0 (zA .i64 a1.I 2) r16.1 r16.2.1 r16.2.2.1) λr17=>
 k14 r17)) none)
 (aA (λ(y18:Aa)=>
 k14 y18) λk19=>
 cond (a1.Kind==3)
 (ob (Gq a0.S a0.Now a1.I a1.B) λr20=>
 cond (r20.2.2.2 !=0)
 (some (false,a0))
 (ob (Fd r20.2.1) λr21=>
 ob (Cf (⟨a0.Now,a0.Clients,r20.1,a0.D,a0.Seen,a0.Known,a0.Notes⟩:Aa) r21 r20.2.2.1) λr22=>
 k19 r22))
 (aA (λ(y23:Aa)=>
 k19 y23) λk24=>
 cond (a1.Kind==4)
 (cond (a0.Now==1000000)
 (some (false,a0))
 (ob (Gv a0) λr25=>
 ob (Cf r25.2 r25.1 []) λr26=>
 k24 r26))
 (aA (λ(y27:Aa)=>
 k24 y27) λk28=>
 cond (a1.Kind==5)
 (cond (decide (0≤zA .i64 a1.I 2)&&decide (zA .i64 a1.I 2<(a0.Clients.length:Int))) (ob (a0.Clients[(zA .i64 a1.I 2).toNat]?) λe29=>
 let r30:Ah:=vB (iA .i64 1 (zA .i64 a1.N 30))
 ob (Ci e29 r30) λr31=>
 cond (decide (0≤zA .i64 a1.I 2)&&decide (zA .i64 a1.I 2<(a0.Clients.length:Int))) (ob (a0.Clients[(zA .i64 a1.I 2).toNat]?) λe32=>
 k28 (⟨a0.Now,List.set a0.Clients ((zA .i64 a1.I 2).toNat) r31,a0.S,a0.D,a0.Seen,a0.Known,a0.Notes⟩:Aa)) none) none)
 (aA (λ(y33:Aa)=>
 k28 y33) λk34=>
 cond (a1.Kind==6)
 (cond (decide (0≤zA .i64 a1.I 2)&&decide (zA .i64 a1.I 2<(a0.Clients.length:Int))) (ob (a0.Clients[(zA .i64 a1.I 2).toNat]?) λe35=>
 ob (Gw e35 a0.Now) λr36=>
 cond (r36.2.2.2 !=0)
 (some (false,a0))
 (ob (Dj a0 (zA .i64 a1.I 2) r36.1 r36.2.1 r36.2.2.1) λr37=>
 k34 r37)) none)
 (aA (λ(y38:Aa)=>
 k34 y38) λk39=>
 cond (a1.Kind==7)
 (ob (KH a0 y3.To) λr40=>
 cond (decide (r40<0))
 (some (false,a0))
 (ob (Da a0 r40 y3.From y3.B) λr41=>
 k39 r41))
 (aA (λ(y42:Aa)=>
 k39 y42) λk43=>
 cond (a1.Kind==8)
 (let r44:Ah:=vB (zA .i64 a1.N 256)
 ob (Da a0 0 r44 y3.B) λr45=>
 k43 r45)
 (aA (λ(y46:Aa)=>
 k43 y46) λk47=>
 cond (a1.Kind==9)
 (ob (Da a0 (zA .i64 a1.J 3) y3.From y3.B) λr48=>
 k47 r48)
 (aA (λ(y49:Aa)=>
 k47 y49) λk50=>
 cond (a1.Kind==10)
 (ob (KH a0 y3.To) λr51=>
 aA (λy52=>
 cond (y52)
 (some (false,a0))
 (cond (decide (([]:List UInt8).length+y3.B.length≤bA)) (cond ((([]++y3.B).length:Int)==0) none (let x54:Int:=zA .i64 a1.N (([]++y3.B).length:Int)
 cond (decide (0≤x54)&&decide (x54<(([]++y3.B).length:Int))) (ob (([]++y3.B)[x54.toNat]?) λe55=>
 let x56:Int:=IntKind.wrap .u8 (iA .i64 1 (zA .i64 a1.J 255))
 cond (decide (0≤x54)&&decide (x54<(([]++y3.B).length:Int))) (ob (([]++y3.B)[x54.toNat]?) λe57=>
 let l58:List UInt8:=List.set ([]++y3.B) x54.toNat (UInt8.ofNat (xB .u8 ((e55.toNat:Nat):Int) x56:Int).toNat)
 ob (Da a0 r51 y3.From l58) λr59=>
 k50 r59) none) none)) none)) λk53=>
 cond (decide (r51<0))
 (k53 true)
 (k53 ((y3.B.length:Int)==0)))
 (aA (λ(y60:Aa)=>
 k50 y60) λk61=>
 cond (a1.Kind==11)
 (ob (Fr a1.Ops a0.Seen a0.Known) λr62=>
 cond (!r62.2)
 (some (false,a0))
 (let r63:Ah:=vB (zA .i64 a1.N 256)
 ob (Da a0 (zA .i64 a1.J 3) r63 r62.1) λr64=>
 k61 r64))
 (aA (λ(y65:Aa)=>
 k61 y65) λk66=>
 cond (a1.Kind==12)
 (ob (Hl a0.S) λr67=>
 cond ((r67.2.length:Int)==0)
 (some (false,a0))
 (ob (Cf (⟨a0.Now,a0.Clients,r67.1,a0.D,a0.Seen,a0.Known,a0.Notes⟩:Aa) [] r67.2) λr68=>
 k66 r68))
 (aA (λ(y69:Aa)=>
 k66 y69) λk70=>
 cond (a1.Kind==13)
 (cond (decide (0≤zA .i64 a1.I 2)&&decide (zA .i64 a1.I 2<(a0.Clients.length:Int))) (ob (a0.Clients[(zA .i64 a1.I 2).toNat]?) λe71=>
 cond (e71.St==0)
 (some (false,a0))
 (cond (decide (0≤zA .i64 a1.I 2)&&decide (zA .i64 a1.I 2<(a0.Clients.length:Int))) (ob (a0.Clients[(zA .i64 a1.I 2).toNat]?) λe72=>
 ob (Hm e72) λr73=>
 ob (Dj a0 (zA .i64 a1.I 2) r73.1 [] r73.2) λr74=>
 k70 r74) none)) none)
 (aA (λ(y75:Aa)=>
 k70 y75) λk76=>
 cond (a1.Kind==14)
 (ob (Hn a0.S a1.I) λr77=>
 cond (r77.2.2 !=0)
 (some (false,a0))
 (ob (Cf (⟨a0.Now,a0.Clients,r77.1,a0.D,a0.Seen,a0.Known,a0.Notes⟩:Aa) [] r77.2.1) λr78=>
 k76 r78))
 (cond (a1.Kind==15)
 (aA (λ(y79:Bool×Aa)=>
 some (y79.1,y79.2)) λk80=>
 cond (decide (0≤zA .i64 a1.I 2)&&decide (zA .i64 a1.I 2<(a0.Clients.length:Int))) (ob (a0.Clients[(zA .i64 a1.I 2).toNat]?) λe81=>
 cond (e81.St==3)
 (cond (decide (0≤zA .i64 a1.I 2)&&decide (zA .i64 a1.I 2<(a0.Clients.length:Int))) (ob (a0.Clients[(zA .i64 a1.I 2).toNat]?) λe82=>
 ob (Fs a0 e82.C) λr83=>
 k80 (r83.1,r83.2)) none)
 (k80 (false,a0))) none)
 (cond (a1.Kind==16)
 (aA (λ(y84:Bool×Aa)=>
 some (y84.1,y84.2)) λk85=>
 cond (decide (a1.I<(a0.S.T.L.length:Int)))
 (ob (kA a0.S.T.L a1.I) λe86=>
 cond (!e86.Dead)
 (ob (kA a0.S.T.L a1.I) λe87=>
 ob (Fs a0 e87.C) λr88=>
 k85 (r88.1,r88.2))
 (k85 (false,a0)))
 (k85 (false,a0)))
 (aA (λ(y89:Aa)=>
 k76 y89) λk90=>
 cond (a1.Kind==17)
 (aA (λ(y91:Aa)=>
 k90 y91) λk92=>
 cond ((zA .i64 a1.J 2)==0)
 (ob (Ft a0.D a1.N) λr93=>
 k92 (⟨a0.Now,a0.Clients,a0.S,r93,a0.Seen,a0.Known,a0.Notes⟩:Aa))
 (ob (Ft a0.S.D a1.N) λr94=>
 k92 (⟨a0.Now,a0.Clients,(⟨a0.S.Psks,a0.S.J,r94,a0.S.T,a0.S.Cr⟩:Ac),a0.D,a0.Seen,a0.Known,a0.Notes⟩:Aa)))
 (k90 a0)))))))))))))))))) λk4=>
 cond (y1)
 (cond ((a0.Seen.length:Int)==0)
 (some (false,a0))
 (cond ((a0.Seen.length:Int)==0) none (cond (decide (0≤zA .i64 a1.I (a0.Seen.length:Int))&&decide (zA .i64 a1.I (a0.Seen.length:Int)<(a0.Seen.length:Int))) (ob (a0.Seen[(zA .i64 a1.I (a0.Seen.length:Int)).toNat]?) λe5=>
 k4 e5) none)))
 (k4 (⟨(⟨0,0⟩:Ah),(⟨0,0⟩:Ah),[]⟩:Am))) λk2=>
 cond (decide (a1.Kind≥7))
 (k2 (decide (a1.Kind≤10)))
 (k2 false)
def Hq(a0:Af)(a1:Int)(a2:Bool):Option (Aa×(List Ao)×Aa×Af):=
 ob (Gj a0) λr1=>
 ob (nA r1.1) λr2=>
 ob (Ar r1.2 a1) λr3=>
 aA (λ(y4:(List Ao)×Af×Int×Aa)=>
 some (r1.1,y4.1,y4.2.2.2,y4.2.1)) λk5=>
 sA FU (λ(x6:(List Ao)×Int×Af×Int×Aa) k7=>
 cond (decide (x6.2.1>0))
 (ob (Iw x6.2.2.1 x6.2.2.2.2 x6.2.2.2.1 a2) λr8=>
 cond (decide (x6.1.length+[r8.1].length≤bA)) (ob (nA x6.2.2.2.2) λr9=>
 aA (λ(y10:Bool×Aa)=>
 aA (λ(y13:Aa×Unit)=>
 k7 ((x6.1++[r8.1]),(qA .i64 x6.2.1 1),r8.2.1,r8.2.2,y13.1)) λk14=>
 cond (y10.1)
 (k14 (y10.2,()))
 (k14 (x6.2.2.2.2,()))) λk11=>
 cond (decide ((x6.2.2.2.2.Notes.length:Int)≤500))
 (cond ((sG r8.1))
 (ob (Hp r9 r8.1) λr12=>
 k11 (r12.1,r12.2))
 (k11 (false,r9)))
 (k11 (false,r9))) none)
 (k5 (x6.1,x6.2.2.1,x6.2.2.2.1,x6.2.2.2.2))) ([],(iA .i64 4 r3.1),r3.2,0,r2)
def Hr(a0:Af)(a1:Int):Option (Aa×Af):=
 ob (Bb a0 3) λr1=>
 ob (Hq r1.2 a1 (!r1.1)) λr2=>
 some (r2.2.2.1,r2.2.2.2)
def Hs(a0:Af):=
 ob (Ar a0 4) λr1=>
 aA (λ(y2:(List UInt8))=>
 some (y2,r1.2)) λk3=>
 sA FU (λ(x4:(List UInt8)×Int) k5=>
 cond (decide (x4.2<12))
 (cond (decide (x4.1.length+[UInt8.ofNat (IntKind.wrap .u8 r1.1:Int).toNat].length≤bA)) (k5 ((x4.1++[UInt8.ofNat (IntKind.wrap .u8 r1.1:Int).toNat]),(iA .i64 x4.2 1))) none)
 (k3 x4.1)) ([],0)
def Ix(a0:Af):=
 ob (Ar a0 3) λr1=>
 aA (λ(y2:(List UInt8))=>
 some (y2,r1.2)) λk3=>
 sA FU (λ(x4:(List UInt8)×Int) k5=>
 cond (decide (x4.2<32))
 (cond (decide (x4.1.length+[UInt8.ofNat (IntKind.wrap .u8 r1.1:Int).toNat].length≤bA)) (k5 ((x4.1++[UInt8.ofNat (IntKind.wrap .u8 r1.1:Int).toNat]),(iA .i64 x4.2 1))) none)
 (k3 x4.1)) ([],0)
def Iy(a0:Af):=
 ob (Ar a0 17) λr1=>
 ob (Ar r1.2 3) λr2=>
 ob (Ar r2.2 2) λr3=>
 ob (Ar r3.2 2) λr4=>
 ob (Ar r4.2 3) λr5=>
 ob (Hs r5.2) λr6=>
 ob (Hs r6.2) λr7=>
 ob (Ix r7.2) λr8=>
 ob (Hs r8.2) λr9=>
 ob (Ar r9.2 3) λr10=>
 let r11:Ah:=vB r10.1
 ob (Ar r10.2 12) λr12=>
 some ((⟨iA .i64 1 r1.1,r2.1,r3.1,r6.1,r7.1,r4.1,r5.1,r9.1,r8.1,r11,r12.1⟩:Ae),r12.2)
def Iz(a0:Af):=
 ob (Bb a0 3) λr1=>
 cond (r1.1)
 (ob (Ar r1.2 16777216) λr2=>
 ob (Cd r2.2) λr3=>
 ob (Ar r3.2 65536) λr4=>
 some ((⟨iA .i64 (XB .i64 r2.1 256) r3.1,r4.1⟩:Ah),r4.2))
 (ob (Ar r1.2 6) λr5=>
 let r6:Ah:=vB r5.1
 some (r6,r5.2))
def Cl(a0:Af):=
 ob (Iz a0) λr1=>
 ob (Ar r1.2 10) λr2=>
 aA (λ(y3:Af×Ah)=>
 some (y3.2,y3.1)) λk4=>
 cond (r2.1==0)
 (ob (Ir r2.2) λr5=>
 k4 (r5.2,(⟨r5.1,r1.1.Port⟩:Ah)))
 (aA (λ(y6:Af×Ah)=>
 k4 (y6.1,y6.2)) λk7=>
 cond (r2.1==1)
 (ob (As r2.2 [(-1),65535,65536,0]) λr8=>
 k7 (r8.2,(⟨r1.1.Host,r8.1⟩:Ah)))
 (k7 (r2.2,r1.1)))
def Ja(a0:Af):=
 ob (Iy a0) λr1=>
 ob (Ar r1.2 20) λr2=>
 aA (λ(y3:Af×Ae)=>
 some (y3.2,y3.1)) λk4=>
 cond (r2.1==0)
 (ob (As r2.2 [(-1),0,17,18]) λr5=>
 k4 (r5.2,(⟨r5.1,r1.1.Id,r1.1.Role,r1.1.Cn,r1.1.Sn,r1.1.Epoch,r1.1.Seq,r1.1.Body,r1.1.Key,r1.1.A,r1.1.Now⟩:Ae)))
 (aA (λ(y6:Af×Ae)=>
 k4 (y6.1,y6.2)) λk7=>
 cond (r2.1==1)
 (ob (As r2.2 [(-1),10]) λr8=>
 k7 (r8.2,(⟨r1.1.Kind,r8.1,r1.1.Role,r1.1.Cn,r1.1.Sn,r1.1.Epoch,r1.1.Seq,r1.1.Body,r1.1.Key,r1.1.A,r1.1.Now⟩:Ae)))
 (aA (λ(y9:Af×Ae)=>
 k7 (y9.1,y9.2)) λk10=>
 cond (r2.1==2)
 (ob (As r2.2 [(-1),2]) λr11=>
 k10 (r11.2,(⟨r1.1.Kind,r1.1.Id,r11.1,r1.1.Cn,r1.1.Sn,r1.1.Epoch,r1.1.Seq,r1.1.Body,r1.1.Key,r1.1.A,r1.1.Now⟩:Ae)))
 (aA (λ(y12:Af×Ae)=>
 k10 (y12.1,y12.2)) λk13=>
 cond (r2.1==3)
 (ob (As r2.2 [0,11]) λr14=>
 ob (Ay r14.2 r14.1) λr15=>
 k13 (r15.2,(⟨r1.1.Kind,r1.1.Id,r1.1.Role,r15.1,r1.1.Sn,r1.1.Epoch,r1.1.Seq,r1.1.Body,r1.1.Key,r1.1.A,r1.1.Now⟩:Ae)))
 (aA (λ(y16:Af×Ae)=>
 k13 (y16.1,y16.2)) λk17=>
 cond (r2.1==4)
 (ob (As r2.2 [0,13]) λr18=>
 ob (Ay r18.2 r18.1) λr19=>
 k17 (r19.2,(⟨r1.1.Kind,r1.1.Id,r1.1.Role,r1.1.Cn,r19.1,r1.1.Epoch,r1.1.Seq,r1.1.Body,r1.1.Key,r1.1.A,r1.1.Now⟩:Ae)))
 (aA (λ(y20:Af×Ae)=>
 k17 (y20.1,y20.2)) λk21=>
 cond (r2.1==5)
 (ob (As r2.2 [(-1),4294967296]) λr22=>
 k21 (r22.2,(⟨r1.1.Kind,r1.1.Id,r1.1.Role,r1.1.Cn,r1.1.Sn,r22.1,r1.1.Seq,r1.1.Body,r1.1.Key,r1.1.A,r1.1.Now⟩:Ae)))
 (aA (λ(y23:Af×Ae)=>
 k21 (y23.1,y23.2)) λk24=>
 cond (r2.1==6)
 (ob (As r2.2 [(-1),281474976710656]) λr25=>
 k24 (r25.2,(⟨r1.1.Kind,r1.1.Id,r1.1.Role,r1.1.Cn,r1.1.Sn,r1.1.Epoch,r25.1,r1.1.Body,r1.1.Key,r1.1.A,r1.1.Now⟩:Ae)))
 (aA (λ(y26:Af×Ae)=>
 k24 (y26.1,y26.2)) λk27=>
 cond (r2.1==7)
 (ob (As r2.2 [0,100,101]) λr28=>
 ob (Ay r28.2 r28.1) λr29=>
 k27 (r29.2,(⟨r1.1.Kind,r1.1.Id,r1.1.Role,r1.1.Cn,r1.1.Sn,r1.1.Epoch,r1.1.Seq,r29.1,r1.1.Key,r1.1.A,r1.1.Now⟩:Ae)))
 (aA (λ(y30:Af×Ae)=>
 k27 (y30.1,y30.2)) λk31=>
 cond (r2.1==8)
 (ob (As r2.2 [0,31]) λr32=>
 ob (Ay r32.2 r32.1) λr33=>
 k31 (r33.2,(⟨r1.1.Kind,r1.1.Id,r1.1.Role,r1.1.Cn,r1.1.Sn,r1.1.Epoch,r1.1.Seq,r1.1.Body,r33.1,r1.1.A,r1.1.Now⟩:Ae)))
 (aA (λ(y34:Af×Ae)=>
 k31 (y34.1,y34.2)) λk35=>
 cond (r2.1==9)
 (ob (Cl r2.2) λr36=>
 k35 (r36.2,(⟨r1.1.Kind,r1.1.Id,r1.1.Role,r1.1.Cn,r1.1.Sn,r1.1.Epoch,r1.1.Seq,r1.1.Body,r1.1.Key,r36.1,r1.1.Now⟩:Ae)))
 (aA (λ(y37:Af×Ae)=>
 k35 (y37.1,y37.2)) λk38=>
 cond (r2.1==10)
 (ob (As r2.2 [(-1),1000001]) λr39=>
 k38 (r39.2,(⟨r1.1.Kind,r1.1.Id,r1.1.Role,r1.1.Cn,r1.1.Sn,r1.1.Epoch,r1.1.Seq,r1.1.Body,r1.1.Key,r1.1.A,r39.1⟩:Ae)))
 (k38 (r2.2,r1.1))))))))))))
end
end Go.D
namespace Go.D
end Go.D
namespace Go.D
def kK{α σ R:Type}[Wt α](l:List α)(hl:wt l≤bA)(st:Int→List α→σ)(K:List α→Option R){f:σ→(σ→Option R)→Option R}
  (hf:∀(i:Nat) (hi:i<l.length) (acc:List α) (k:σ→Option R),f (st (i:Int) acc) k=cond (decide (acc.length+1≤bA)) (k (st (iA .i64 (i:Int) 1) (acc++[l[i]]))) none)
  (hz:∀(acc:List α) (k:σ→Option R),f (st (l.length:Int) acc) k=K acc):sA FU f (st 0 [])=K l:=by
 have hL:=CB;have Q8:=tB l
 have key:∀(n i:Nat),i≤l.length→l.length - i<n→sA n f (st (i:Int) (l.take i))=K l:=by
  intro n;induction n with
  | zero=>intro i _ h;omega
  | succ n ih=>
   intro i hi hn;show f (st (i:Int) (l.take i)) (sA n f)=K l
   rcases Nat.lt_or_ge i l.length with h | h
   ·rw[hf i h]
    have h1:decide ((l.take i).length+1≤bA)=true:=by
     rw[List.length_take];simp;omega
    rw[h1,cond_true];have h2:iA .i64 (i:Int) 1=((i+1:Nat):Int):=HG i (by rw[xD];omega);rw[h2,List.take_append_getElem h];exact ih (i+1) h (by omega)
   ·have:i=l.length:=by omega
    subst this;rw[hz,List.take_length]
 rw[zhd];exact key _ 0 (Nat.zero_le _) (by omega)
def fE{α β:Type}{l:List α}{x:Option β}(h:l.length≤bA):cond (decide (([]:List α).length+l.length≤bA)) x none=x:=by
 rw[decide_eq_true (by simpa using h)];rfl
def nH{α β:Type}[Wt α]{a:α}{f:α→Option β}(h:wt a≤bA):Option.bind (nA a) f=f a:=UA h
def zin(x:Aq)(h:wt x≤bA):Or x=some x:=by
 rw[iT,uL]at h;unfold Or;rw[fE h];rfl
def zpG(x:Ax)(h:wt x≤bA):Ot x=some x:=by
 rw[AL,EA]at h;unfold Ot;rw[fE (by omega),nH (by omega)];rfl
def zqq(x:Ax)(b:Bool)(h:wt x≤bA):Ou x b=some x:=by
 unfold Ou;rw[nH h];rw[AL,iT,uL,EA]at h;rw[fE (by omega),fE (by omega)];cases b<;>rfl
def zpn(x:Ak)(h:wt x≤bA):Ov x=some x:=by
 rw[NH,EA,EA]at h;unfold Ov;rw[fE (by omega),nH (by omega),zdI,UA (by omega),fE (by omega)];rfl
def zpg(x:Aj)(h:wt x≤bA):Ow x=some x:=by
 have hw:wt x=wt x.Cands:=by rw[eJ,NE];omega
 rw[hw]at h;unfold Ow;simp only[aA];refine kK x.Cands h (λi acc=>(i,(⟨x.At,acc⟩:Aj))) (λacc=>some (⟨x.At,acc⟩:Aj)) (λi hi acc k=>?_) (λacc k=>?_)
 ·have rW:((i:Int)<(x.Cands.length:Int)):=by omega
  have hm:=xE hi;simp only[decide_eq_true rW,cond_true,KB hi,mB];rw[DH,UA (by omega)];rfl
 ·have rW:¬((x.Cands.length:Int)<(x.Cands.length:Int)):=by omega
  simp only[decide_eq_false rW,cond_false]
def zpf(x:Ai)(h:wt x≤bA):Ox x=some x:=by
 rw[pL,EA,EA]at h;unfold Ox;rw[fE (by omega),fE (by omega),nH (by omega),nH (by omega)];rfl
def zib(x:Ap)(h:wt x≤bA):Oy x=some x:=by
 rw[sJ]at h;unfold Oy;simp only[aA];refine kK x.L h (λi acc=>(i,(⟨x.Cap,acc⟩:Ap))) (λacc=>some (⟨x.Cap,acc⟩:Ap)) (λi hi acc k=>?_) (λacc k=>?_)
 ·have rW:((i:Int)<(x.L.length:Int)):=by omega
  have hm:=xE hi;simp only[decide_eq_true rW,cond_true,KB hi,mB];rw[nH (by omega)];rfl
 ·have rW:¬((x.L.length:Int)<(x.L.length:Int)):=by omega
  simp only[decide_eq_false rW,cond_false]
def zpd(x:Ac)(h:wt x≤bA):Oz x=some x:=by
 rw[rM,kT,EA]at h;have hc:=tB x.Cr;unfold Oz;rw[fE (by omega),dK,UA (by omega),nH (by omega),fE (by omega)];simp only[aA];refine kK x.Psks (by omega) (λi acc=>(i,(⟨acc,(⟨[]++x.J.Secret⟩:Ba),x.D,x.T,[]++x.Cr⟩:Ac))) (λacc=>some (⟨acc,(⟨[]++x.J.Secret⟩:Ba),x.D,x.T,[]++x.Cr⟩:Ac)) (λi hi acc k=>?_) (λacc k=>?_)
 ·have rW:((i:Int)<(x.Psks.length:Int)):=by omega
  have hm:=xE hi;rw[EA]at hm;simp only[decide_eq_true rW,cond_true,KB hi,mB];rw[fE (by omega)];rfl
 ·have rW:¬((x.Psks.length:Int)<(x.Psks.length:Int)):=by omega
  simp only[decide_eq_false rW,cond_false]
def zpw(x:List Am)(h:wt x≤bA):Pa x=some x:=by
 unfold Pa;simp only[aA];refine kK x h (λi acc=>(acc,i)) (λacc=>some acc) (λi hi acc k=>?_) (λacc k=>?_)
 ·have rW:((i:Int)<(x.length:Int)):=by omega
  have hm:=xE hi;rw[zac,EA]at hm;simp only[decide_eq_true rW,cond_true,KB hi,mB];rw[fE (by omega)];rfl
 ·have rW:¬((x.length:Int)<(x.length:Int)):=by omega
  simp only[decide_eq_false rW,cond_false]
def zps(x:Ae)(h:wt x≤bA):Pb x=some x:=by
 rw[jJ,EA,EA,EA,EA]at h;unfold Pb;rw[fE (by omega),fE (by omega),fE (by omega),fE (by omega)];rfl
def zis(x:List Ae)(h:wt x≤bA):Pd x=some x:=by
 unfold Pd;simp only[aA];refine kK x h (λi acc=>(acc,i)) (λacc=>some acc) (λi hi acc k=>?_) (λacc k=>?_)
 ·have rW:((i:Int)<(x.length:Int)):=by omega
  have hm:=xE hi;simp only[decide_eq_true rW,cond_true,KB hi,mB];rw[nH (by omega)];rfl
 ·have rW:¬((x.length:Int)<(x.length:Int)):=by omega
  simp only[decide_eq_false rW,cond_false]
def zpF(x:Ab)(h:wt x≤bA):Pe x=some x:=by
 rw[HH,EA,EA,EA,EA,EA,EA]at h;unfold Pe;rw[fE (by omega),fE (by omega),fE (by omega),fE (by omega),fE (by omega),fE (by omega)];rfl
def zpq(x:Ad)(h:wt x≤bA):Pf x=some x:=by
 rw[CM,EA,EA]at h;unfold Pf;rw[fE (by omega),fE (by omega),nH (by omega),nH (by omega)];rfl
def zpu(x:Aa)(h:wt x≤bA):Pg x=some x:=by
 rw[aG]at h;unfold Pg;rw[nH (by omega),dK,UA (by omega),nH (by omega),nH (by omega)]
 have key2:∀w:Aa,w.Known=[]→sA FU (λ(x13:Int×Aa) k14=>
   cond (decide (x13.1<(x.Known.length:Int)))
   (Option.bind (kA x.Known x13.1) λe15=>
   cond (decide (([]:List UInt8).length+e15.length≤bA)) (cond (decide (x13.2.Known.length+[[]++e15].length≤bA)) (k14 ((iA .i64 x13.1 1),(⟨x13.2.Now,x13.2.Clients,x13.2.S,x13.2.D,x13.2.Seen,x13.2.Known++[[]++e15],x13.2.Notes⟩:Aa))) none) none)
   (some x13.2)) (0,w)=some (⟨w.Now,w.Clients,w.S,w.D,w.Seen,x.Known,w.Notes⟩:Aa):=λw hw=>by
  obtain⟨w1,w2,w3,w4,w5,w6,w7⟩:=w;cases hw;refine kK x.Known (by omega) (λi acc=>(i,(⟨w1,w2,w3,w4,w5,acc,w7⟩:Aa))) (λacc=>some (⟨w1,w2,w3,w4,w5,acc,w7⟩:Aa)) (λi hi acc k=>?_) (λacc k=>?_)
  ·have rW:((i:Int)<(x.Known.length:Int)):=by omega
   have hm:=xE hi;rw[EA]at hm;simp only[decide_eq_true rW,cond_true,KB hi,mB];rw[fE (by omega)];rfl
  ·have rW:¬((x.Known.length:Int)<(x.Known.length:Int)):=by omega
   simp only[decide_eq_false rW,cond_false]
 simp only[aA];refine kK x.Clients (by omega) (λi acc=>(i,(⟨x.Now,acc,x.S,x.D,x.Seen,[],x.Notes⟩:Aa))) (λacc=>some (⟨x.Now,acc,x.S,x.D,x.Seen,x.Known,x.Notes⟩:Aa)) (λi hi acc k=>?_) (λacc k=>?_)
 ·have rW:((i:Int)<(x.Clients.length:Int)):=by omega
  have hm:=xE hi;simp only[decide_eq_true rW,cond_true,KB hi,mB];rw[nH (by omega)];rfl
 ·have rW:¬((x.Clients.length:Int)<(x.Clients.length:Int)):=by omega
  simp only[decide_eq_false rW,cond_false];exact key2 _ rfl
def uR.ok{x}(_:xA [.v .Win] x){r}:nA (α:=Aq) x=some r→Or x=some r:=TA λh=>zin x h
def tR.ok{x}(_:xA [.v .Ep] x){r}:nA (α:=Ax) x=some r→Ot x=some r:=TA λh=>zpG x h
def aR.ok{x}(_:xA [.v .Chan] x){r}:nA (α:=Ak) x=some r→Ov x=some r:=TA λh=>zpn x h
def QQ.ok{x}(_:xA [.v .Paths] x){r}:nA (α:=Aj) x=some r→Ow x=some r:=TA λh=>zpg x h
def RQ.ok{x}(_:xA [.v .Sess] x){r}:nA (α:=Ai) x=some r→Ox x=some r:=TA λh=>zpf x h
def uQ.ok{x}(_:xA [.v .Tab] x){r}:nA (α:=Ap) x=some r→Oy x=some r:=TA λh=>zib x h
def MQ.ok{x}(_:xA [.v .Server] x){r}:nA (α:=Ac) x=some r→Oz x=some r:=TA λh=>zpd x h
def wQ.ok{x}(_:xA [.sl .Wire] x){r}:nA (α:=List Am) x=some r→Pa x=some r:=TA λh=>zpw x h
def ZQ.ok{x}(_:xA [.v .Note] x){r}:nA (α:=Ae) x=some r→Pb x=some r:=TA λh=>zps x h
def JR.ok{x}(_:xA [.sl .Note] x){r}:nA (α:=List Ae) x=some r→Pd x=some r:=TA λh=>zis x h
def BR.ok{x}(_:xA [.v .Frame] x){r}:nA (α:=Ab) x=some r→Pe x=some r:=TA λh=>zpF x h
def DQ.ok{x}(_:xA [.v .Client] x){r}:nA (α:=Ad) x=some r→Pf x=some r:=TA λh=>zpq x h
def KQ.ok{x}(_:xA [.v .World] x){r}:nA (α:=Aa) x=some r→Pg x=some r:=TA λh=>zpu x h
def PR.ok{x}(_:xA [.v .Ep, .v .bool] x){r}:zdI x.1 x.2=some r→Ou x.1 x.2=some r:=TA λh=>zqq x.1 x.2 h
end Go.D
namespace Go.D
instance:Wt Av:=⟨λx=>wt x.To+wt x.F⟩
def zxd(x:Av):wt x=wt x.To+wt x.F:=rfl
instance:Wt Nat:=⟨λ_=>0⟩
def Ok.guard{α γ β:Type}[Wt α][Wt γ]{l:List α}{m:List γ}{x:Option β}{P:β→Prop}(h:wt l+wt m≤bA)(k:Ok x P):Ok (cond (decide (l.length+m.length≤bA)) x none) P:=by
 have h1:=tB l;have h2:=tB m;rw[decide_eq_true (by omega)];exact k
def Ok.ble{α β:Type}[Wt α]{l:List α}{x:Option β}{P:β→Prop}(h:wt l≤bA)(k:Ok x P):Ok (cond (Nat.ble l.length bA) x none) P:=by
 have h1:=tB l;rw[Nat.ble_eq_true_of_le (by omega)];exact k
def Ok.chk{β:Type}{b:Bool}{x:Option β}{P:β→Prop}(h:b=true)(k:Ok x P):Ok (cond b x none) P:=by rw[h];exact k
def Ok.chkn{β:Type}{b:Bool}{x:Option β}{P:β→Prop}(h:b=false)(k:Ok x P):Ok (cond b none x) P:=by rw[h];exact k
def Ok.join{α β:Type}{F:α→Option β}{G:(α→Option β)→Option β}{P:β→Prop}(Q:α→Prop)(h1:∀y,Q y→Ok (F y) P)(h2:∀k:α→Option β,(∀y,Q y→Ok (k y) P)→Ok (G k) P):
  Ok (aA F G) P:=h2 F h1
def Ok.condR{α:Type}{b:Bool}{x y:Option α}{P:α→Prop}(h2:b=false→Ok y P)(h1:b=true→Ok x P):Ok (cond b x y) P:=Ok.cond' h1 h2
def Ok.loopR{σ R:Type}{f:σ→(σ→Option R)→Option R}{P:R→Prop}(inv:σ→Prop)(μ:σ→Nat){x:σ}(hx:inv x)(hμ:μ x<2^64)
  (h:∀x,inv x→∀k:σ→Option R,(∀y,inv y→μ y<μ x→Ok (k y) P)→Ok (f x k) P):Ok (sA FU f x) P:=Ok.loop inv μ h hx hμ
def Ok.idx{α:Type}{l:List α}{i:Int}(h0:0≤i)(h1:i<(l.length:Int)):Ok (kA l i) λx=>l[i.toNat]?=some x:=by
 obtain⟨j,rfl⟩:=Int.eq_ofNat_of_zero_le h0;have hj:j<l.length:=by omega
 exact⟨l[j],KB hj,by rw[Int.toNat_natCast,List.getElem?_eq_getElem hj]⟩
def Ok.get{α:Type}{l:List α}{i:Nat}(h:i<l.length):Ok (l[i]?) λx=>l[i]?=some x:=⟨l[i],List.getElem?_eq_getElem h,List.getElem?_eq_getElem h⟩
def Ok.same{α β:Type}{o:Option α}{a:α}{f:α→Option β}{P:β→Prop}(h:o=some a)(k:Ok (f a) P):Ok (Option.bind o f) P:=by rw[h];exact k
def zhe{α:Type}[Wt α]{l:List α}{i:Nat}{x:α}(h:l[i]?=some x):wt x+1≤wt l:=zai (List.mem_of_getElem? h)
def BC{α:Type}[Wt α]:∀(l:List α) (i:Nat) (x:α),wt (l.set i x)≤wt l+wt x
 | [],i,x=>by simp[LF]
 | y :: l,0,x=>by rw[List.set_cons_zero,jD,jD];omega
 | y :: l,i+1,x=>by rw[List.set_cons_succ,jD,jD];have:=BC l i x;omega
def OB{x a b:Int}:eA x a b=true↔a≤x∧x≤b:=by simp[eA]
def zt6{x a b:Int}:eA x a b=false↔¬(a≤x∧x≤b):=by rw[←Bool.not_eq_true,OB]
theorem AA{a b:Int}(h1: -9223372036854775808≤a+b)(h2:a+b≤9223372036854775807):iA .i64 a b=a+b:=UB h1 h2
theorem IA{a b:Int}(h1: -9223372036854775808≤a - b)(h2:a - b≤9223372036854775807):qA .i64 a b=a - b:=UB h1 h2
def AO{a b:Int}(h1:0≤a):zA .i64 a b=a % b:=Int.tmod_eq_emod_of_nonneg h1
def zaf{e:Ax}(h:YC e=true):e.Key.length=32∧e.Win.Bits.length=32:=by
 simp only[YC,dD,GC,Bool.and_eq_true,beq_iff_eq]at h;omega
def zgu{w:Aq}(h:dD w=true):w.Bits.length=32∧ -1≤w.Top∧w.Top≤281474976710655:=by
 simp only[dD,GC,Bool.and_eq_true,beq_iff_eq,OB]at h;omega
def rD{f:Ab}(h:AB f=true):f.Cn.length≤12∧f.Sn.length≤12∧f.Cookie.length≤16∧f.Proof.length≤16∧f.Body.length≤40∧f.Tag.length≤16∧(f.Kind=3→1≤f.Id∧f.Id≤9):=by
 unfold AB at h;cases hs:fC f.Kind
 ·rw[hs,cond_false]at h;simp only[Bool.and_eq_true,beq_iff_eq]at h;obtain⟨⟨⟨⟨⟨h1,h2⟩,h3⟩,h4⟩,h5⟩,h6⟩:=h
  by_cases k1:f.Kind=1
  ·simp only[k1,beq_self_eq_true,cond_true,Bool.and_eq_true,beq_iff_eq,OB]at h6;omega
  ·have k1':(f.Kind==1)=false:=by simpa using k1
   rw[k1',cond_false]at h6
   by_cases k2:f.Kind=2
   ·simp only[k2,beq_self_eq_true,cond_true,Bool.and_eq_true,beq_iff_eq,OB]at h6;omega
   ·have k2':(f.Kind==2)=false:=by simpa using k2
    simp only[k2',cond_false,Bool.and_eq_true,beq_iff_eq,OB]at h6;omega
 ·rw[hs,cond_true]at h;simp only[Bool.and_eq_true,beq_iff_eq,OB]at h
  have hb:f.Body.length≤40:=by
   have hb:=h.1.2;unfold dG at hb;cases k4:f.Kind==4<;>rw[k4]at hb
   ·cases k5:f.Kind==5||f.Kind==6<;>rw[k5]at hb<;>simp at hb<;>omega
   ·simp at hb;omega
  unfold fC at hs;rw[OB]at hs;omega
def zgW{e:Ax}(h:VF e=true):e.Key.length=0∧e.Win.Bits.length=0:=by
 simp only[VF,Bool.and_eq_true,beq_iff_eq]at h;omega
def AV{c:Ak}(h:kC c=true):wt c≤172∧c.Sn.length=12∧c.Cur.Key.length=32:=by
 simp only[kC,SG,oA,Bool.and_eq_true,Bool.or_eq_true,beq_iff_eq]at h;obtain⟨⟨⟨⟨h1,h2⟩,h3⟩,h4⟩,h5⟩:=h;have h3:=zaf h3
 have h6:c.Old.Key.length≤32∧c.Old.Win.Bits.length≤32:=by
  cases ho:c.HasOld
  ·rw[ho,cond_false,Bool.and_eq_true]at h4;have:=zgW h4.1;omega
  ·rw[ho,cond_true]at h4;simp only[Bool.and_eq_true]at h4;have:=zaf h4.1.1;omega
 simp only[NH,AL,iT,EA,uL];omega
def zgo{c:Ak}(h:tC c=true):wt c=0:=by
 simp only[tC,Bool.and_eq_true,beq_iff_eq]at h;obtain⟨⟨⟨⟨⟨⟨h1,h2⟩,h3⟩,h4⟩,h5⟩,h6⟩,h7⟩:=h;have h3:=zgW h3;have h4:=zgW h4;simp only[NH,AL,iT,EA,uL];omega
def zf2{f:Ab}(h:IF f=true):wt f=0:=by
 simp only[IF,Bool.and_eq_true,beq_iff_eq]at h;simp only[HH,EA];omega
def IM{α:Type}[Wt α](n:Nat):∀l:List α,(∀x∈l,wt x≤n)→wt l≤(n+1) *l.length
 | [],_=>by simp[LF]
 | x :: l,h=>by
  have h1:=h x (by simp);have h2:=IM n l λy hy=>h y (by simp[hy]);rw[jD,List.length_cons,Nat.mul_add];omega
def yS{n:Nat}{p:Nat→Bool}(h:(!IB n p)=true){i:Nat}(hi:i<n):p i=false:=by
 cases hp:p i
 ·rfl
 ·have:IB n p=true:=lO.2 ⟨i,hi,hp⟩;rw[this]at h;cases h
def hI{p:Aj}(h:sC p=true):wt p≤39∧p.Cands.length≤3:=by
 simp only[sC,Bool.and_eq_true,decide_eq_true_eq]at h;obtain⟨⟨h1,h2⟩,h3⟩:=h
 have hb:wt p.Cands≤(12+1) *p.Cands.length:=IM 12 p.Cands λx hx=>by
  obtain⟨i,hi,rfl⟩:=List.mem_iff_getElem.1 hx;have:=yS h3 hi;unfold yO at this;rw[List.getElem?_eq_getElem hi]at this;simp only[Option.any_some,Bool.or_eq_false_iff,Bool.not_eq_false',oA,beq_iff_eq]at this;simp only[zad,NE,EA];omega
 simp only[eJ,NE];omega
def gL{s:Ai}(h:vC s=true):wt s≤235∧s.Sn.length=12:=by
 simp only[vC,oA,Bool.and_eq_true,beq_iff_eq]at h;obtain⟨⟨⟨⟨h1,h2⟩,h3⟩,h4⟩,h5⟩:=h
 have h6:wt s.C+wt s.P≤211:=by
  cases hd:s.Dead
  ·rw[hd,cond_false]at h5;simp only[Bool.and_eq_true]at h5;have:=AV h5.1.1.1.1;have:=hI h5.1.2;omega
  ·rw[hd,cond_true]at h5;simp only[Bool.and_eq_true,beq_iff_eq]at h5;have:=zgo h5.1.1.1;have hl:s.P.Cands=[]:=List.eq_nil_of_length_eq_zero (by omega);have:wt s.P=0:=by rw[eJ,hl,NE];rfl
   omega
 simp only[pL,EA];omega
def tL{t:Ap}(h:QC t=true):wt t≤2832∧t.L.length≤12:=by
 simp only[QC,Bool.and_eq_true,decide_eq_true_eq]at h;obtain⟨⟨⟨h1,h2⟩,h3⟩,h4⟩:=h
 have hb:wt t.L≤(235+1) *t.L.length:=IM 235 t.L λx hx=>by
  obtain⟨i,hi,rfl⟩:=List.mem_iff_getElem.1 hx;have:=yS h4 hi;unfold rL at this;rw[List.getElem?_eq_getElem hi]at this;simp only[Option.any_some,Bool.or_eq_false_iff,Bool.not_eq_false']at this;exact(gL this.1).1
 rw[sJ];omega
theorem NI{l:List Al}(h:iD l=true):wt l≤8∧l.length≤8:=by
 simp only[iD,Bool.and_eq_true,decide_eq_true_eq]at h;have:=zcW (α:=Al) (λ_=>rfl) l;omega
def oL{b:List UInt8}(h:AC b=true):1≤b.length∧b.length≤32:=by
 simp only[AC,OB]at h;omega
def EF{a:Ah}(h:GA a=true):0≤a.Host∧a.Host≤4294967295∧0≤a.Port∧a.Port≤65535:=by
 simp only[GA,Bool.and_eq_true,OB]at h;omega
def zdp{j:Ba}(h:PE j=true):j.Secret.length=32:=by
 simp only[PE,beq_iff_eq]at h;omega
def zgn{d:Au}(h:ZB d=true):d.Seed.length≤32:=by
 simp only[ZB,Bool.and_eq_true,OB]at h;omega
def SF(s:Ac):Prop:=wt s≤3300∧s.T.L.length≤12∧s.Psks.length≤9∧s.J.Secret.length=32
def zF{s:Ac}(h:LB s=true):SF s:=by
 simp only[LB,Bool.and_eq_true,OB]at h;obtain⟨⟨⟨⟨⟨⟨h1,h2⟩,h3⟩,h4⟩,h5⟩,h6⟩,h7⟩:=h;have h2:=zdp h2;have h3:=zgn h3;have h4:=tL h4;have h5:=NI h5
 have hb:wt s.Psks≤(32+1) *s.Psks.length:=IM 32 s.Psks λx hx=>by
  rw[Bool.not_eq_true',List.any_eq_false]at h6;have:=h6 x hx;simp only[Bool.not_eq_true',Bool.not_eq_false]at this;have:=oL this;rw[EA];omega
 simp only[SF,rM,kT,gJ,EA];omega
def CF(c:Ad):Prop:=wt c≤350∧1≤c.Id∧c.Id≤9∧1≤c.Psk.length∧c.Psk.length≤32∧0≤c.At.Host∧c.At.Host≤4294967295∧0≤c.At.Port∧c.At.Port≤65535
def VD{c:Ad}(h:pB c=true):CF c:=by
 simp only[pB,Bool.and_eq_true,OB]at h;obtain⟨⟨⟨h1,h2⟩,h3⟩,h4⟩:=h;have h2:=oL h2;have h3:=EF h3
 have h5:wt c.Cn+wt c.Fin+wt c.C≤310:=by
  cases k0:c.St==0
  ·rw[k0,cond_false]at h4;cases k1:c.St==1
   ·rw[k1,cond_false]at h4;cases k2:c.St==2
    ·rw[k2,cond_false]at h4;simp only[Bool.and_eq_true,oA,beq_iff_eq]at h4;obtain⟨⟨⟨⟨⟨⟨⟨⟨_,a1⟩,a2⟩,a3⟩,_⟩,_⟩,_⟩,_⟩,_⟩:=h4;have a2:=zf2 a2;have a3:=AV a3;rw[EA];omega
    ·rw[k2,cond_true]at h4;simp only[Bool.and_eq_true]at h4;have hf:=h4.1.1.1.1;simp only[fJ,Bool.and_eq_true,oA,beq_iff_eq]at hf;obtain⟨⟨⟨⟨⟨⟨⟨⟨⟨⟨a1,_⟩,a2⟩,_⟩,_⟩,a3⟩,_⟩,_⟩,_⟩,_⟩,_⟩:=hf;have a2:=rD a2;have a3:=AV a3;simp only[HH,EA];omega
   ·rw[k1,cond_true]at h4;simp only[Bool.and_eq_true,oA,beq_iff_eq]at h4;obtain⟨⟨⟨⟨⟨⟨a1,a2⟩,a3⟩,_⟩,_⟩,_⟩,_⟩:=h4;have a2:=zf2 a2;have a3:=zgo a3;rw[EA];omega
  ·rw[k0,cond_true]at h4;simp only[Bool.and_eq_true,beq_iff_eq]at h4;obtain⟨⟨⟨⟨⟨a1,a2⟩,a3⟩,_⟩,_⟩,_⟩:=h4;have a2:=zf2 a2;have a3:=zgo a3;rw[EA];omega
 simp only[CF,CM,NE,zc5,EA]at h5⊢;omega
def kF{α:Type}{p:Prop}{x:α}{P:α→Prop}(h:p)(k:P x):Ok (pt p x) P:=⟨x,pA h,k⟩
def FN{c:Ad}(h:wt c≤bA):Ok (GD c) λr=>r=true→CF c:=kF h VD
def eK{c:Ak}(h:wt c≤bA):Ok (uC c) λr=>r=true→wt c≤172:=kF h λk=>(AV k).1
def nS{c:Ai}(h:wt c≤bA):Ok (KD c) λr=>r=true→wt c≤235:=kF h λk=>(gL k).1
def zlo{c:Ap}(h:wt c≤bA):Ok (uG c) λr=>r=true→wt c≤2832∧c.L.length≤12:=kF h tL
def LU{c:Ac}(h:wt c≤bA):Ok (HC c) λr=>r=true→SF c:=kF h zF
def JG{b:List UInt8}{n k:Int}(h:wt b+6≤bA):Ok (VB b n k) λr=>r.length≤b.length+6:=kF h (by
 unfold CD;cases hc:decide (k<1)||decide (k>6)
 ·rw[cond_false,List.length_append,IN];simp only[Bool.or_eq_false_iff,decide_eq_false_iff_not]at hc;omega
 ·rw[cond_true];omega)
def zdv{b:List UInt8}{n k:Int}(h:wt b≤bA):Ok (kH b n k) λ_=>True:=kF h trivial
def mL(k b:List UInt8):(XC k b).length≤32:=by
 unfold XC;cases decide ((k.length:Int)>1048576)||decide ((b.length:Int)>1048512)
 ·exact zal _
 ·exact Nat.zero_le _
def zdy{d:Au}(h:wt d≤bA):Ok (ZD d) λr=>wt r.1≤wt d∧r.2.length≤12:=kF h (by
 unfold MC;cases !ZB d||d.N==10000
 ·exact⟨Nat.le_refl _,pV _ _⟩
 ·exact⟨Nat.le_refl _,Nat.zero_le _⟩)
def uM{k l:List UInt8}(h:wt l≤bA):Ok (ME k l) λr=>r.length≤32:=kF h (AM k l)
def bO(t:Ap)(b:List UInt8): -1≤OE t b∧OE t b<(t.L.length:Int):=by
 unfold OE
 rcases SJ t.L.length (xG t b)with⟨_,h⟩ | ⟨m,h1,_,_,h⟩<;>rw[h]<;>omega
def jT(l:List Al)(a:Ah): -1≤oB l a∧oB l a<(l.length:Int):=by
 unfold oB
 rcases SJ l.length (UG l a)with⟨_,h⟩ | ⟨m,h1,_,_,h⟩<;>rw[h]<;>omega
def zcL{t:Ap}{b:List UInt8}(h:wt t≤bA∧wt b≤bA):Ok (ID t b) λr=> -1≤r∧r<(t.L.length:Int)∧r=OE t b:=kF h ⟨(bO t b).1,(bO t b).2,rfl⟩
def zwb{t:Ap}(h:wt t≤bA):Ok (wJ t) λ_=>True:=kF h trivial
def CV{a b:List UInt8}(h:wt a≤bA∧wt b≤bA):Ok (FB a b) λ_=>True:=kF h trivial
def zxa{w:Aq}{n:Int}(h:0≤n∧w.Bits.length=32):Ok (XF w n) λ_=>True:=kF h trivial
def zi9{id:Int}{p:List UInt8}{a:Ah}(h:wt p≤bA)(h1:1≤id∧id≤9)(h2:1≤p.length∧p.length≤32)(h3:0≤a.Host∧a.Host≤4294967295∧0≤a.Port∧a.Port≤65535):
  Ok (XI id p a) λr=>wt r≤p.length∧r.Id=id:=kF h (by
 have e1:eA id 1 9=true:=OB.2 h1;have e2:AC p=true:=OB.2 (by omega)
 have e3:GA a=true:=by
  unfold GA;rw[Bool.and_eq_true,OB,OB];omega
 unfold MB;rw[e1,e2,e3];refine⟨?_,rfl⟩;simp only[Bool.and_self,cond_true,aJ,CM,NE,zc5,EA];show p.length+0+0+wt zgY+wt zhk+0+0≤p.length
 have:wt zgY=0:=rfl;have:wt zhk=0:=rfl;omega)
def zaW{b:List UInt8}(h:wt b≤bA):TD b=some (KE b):=pA h
def ztV{p:Aj}{a:Ah}(h:wt p≤bA):Ok (OM p a) λr=>wt r.1≤39∧(r.2=true→wt p≤39∧p.Cands.length≤3):=kF h (by
 unfold uK;cases hp:sC p
 ·exact⟨Nat.zero_le _,λh=>nomatch h⟩
 ·have hf:=hI hp;rw[cond_true];cases hc:p.Cands.find? λe=>wB e.A a with
  | none=>exact⟨Nat.zero_le _,λh=>nomatch h⟩
  | some e=>
   have:=zai (List.mem_of_find?_eq_some hc);have hw:wt p=wt p.Cands:=by rw[eJ,NE];omega
   refine⟨?_,λ_=>hf⟩;show wt e≤39
   omega)
def BJ(l:List Ad)(i:Nat):Int:=match l[i]? with
 | some c=>c.Id
 | none=>0
def TW(w:Aa):Prop:=w.Clients.length=2∧BJ w.Clients 0=1∧BJ w.Clients 1=2
def GG{l:List Ad}{i:Nat}{x:Ad}(h:l[i]?=some x):BJ l i=x.Id:=by unfold BJ;rw[h]
def JM{l:List Ad}{i:Nat}{x:Ad}(h:x.Id=BJ l i)(hi:i<l.length)(j:Nat):BJ (l.set i x) j=BJ l j:=by
 unfold BJ at h⊢;rw[List.getElem?_set]
 by_cases hj:i=j
 ·subst hj;rw[if_pos rfl,if_pos hi];exact h
 ·rw[if_neg hj]
def zcm{w:Aa}{a:Ah}(h:wt w≤bA)(h2:TW w):Ok (KH w a) λr=> -1≤r∧r≤2:=kF h (by
 unfold nK;cases wB a MD
 ·rw[cond_false];cases hc:w.Clients.find? λc=>wB c.At a with
  | none=>show -1≤(-1:Int)∧(-1:Int)≤2;omega
  | some c=>
   obtain⟨i,hi,he⟩:=List.mem_iff_getElem.1 (List.mem_of_find?_eq_some hc);have:=GG (List.getElem?_eq_getElem hi);rw[he]at this;obtain⟨h1,h3,h4⟩:=h2;show -1≤c.Id∧c.Id≤2
   have:i=0∨i=1:=by omega
   rcases this with rfl | rfl<;>omega
 ·rw[cond_true];omega)
def UM{α:Type}{l:List α}{i:Nat}{x:α}(h:l[i]?=some x):i<l.length:=(List.getElem?_eq_some_iff.1 h).1
def aB{c:Af}{l:List Int}(lo hi:Int)(h:lA c)(hl:l≠[])(hb:∀x∈l,lo≤x∧x≤hi):Ok (As c l) λr=>(lo≤r.1∧r.1≤hi)∧lA r.2:=
 (zgG h hl).mono λr hr=>⟨hb _ hr.1,hr.2⟩
def NA{c:Af}{n:Int}(h:lA c):Ok (Ar c n) λr=>0≤r.1∧(0<n→r.1<n)∧(n≤0→r.1=0)∧lA r.2:=zf5 h
def zi3{c:Af}(h:lA c):Ok (Cd c) λr=>0≤r.1∧r.1≤255∧lA r.2:=MS h
def HB{c:Af}{n:Int}(h:lA c)(hn:n≤1048576):Ok (Ay c n) λr=>r.1.length=n.toNat∧lA r.2:=ztd h hn
def sE{c:Af}{n:Int}(h:lA c):Ok (Bb c n) λr=>lA r.2:=zvk h
def zjb{code:List UInt8}(h:code.length≤1048576):Ok (Gi code) lA:=zvW h
def N:(∀x:Ad,wt x=wt x.Psk+wt x.Cn+wt x.Fin+wt x.C)∧(∀x:Ak,wt x=x.Sn.length+wt x.Cur+wt x.Old+x.Next.length)∧(∀x:Ax,wt x=x.Key.length+wt x.Win)∧(∀x:Aq,wt x=x.Bits.length)∧
  (∀x:Ab,wt x=x.Cn.length+x.Sn.length+x.Cookie.length+x.Proof.length+x.Body.length+x.Tag.length)∧(∀x:Ae,wt x=x.Cn.length+x.Sn.length+x.Body.length+x.Key.length)∧
  (∀x:Ai,wt x=x.Cn.length+x.Sn.length+wt x.C+wt x.P)∧(∀x:Aj,wt x=wt x.Cands)∧(∀x:Az,wt x=x.Draw.length)∧(∀x:Ap,wt x=wt x.L)∧
  (∀x:Ac,wt x=wt x.Psks+wt x.J+wt x.D+wt x.T+wt x.Cr)∧(∀x:Ba,wt x=x.Secret.length)∧(∀x:Au,wt x=x.Seed.length)∧(∀x:Al,wt x=0)∧(∀x:Am,wt x=x.B.length)∧
  (∀x:Aa,wt x=wt x.Clients+wt x.S+wt x.D+wt x.Seen+wt x.Known+wt x.Notes)∧(∀x:Bc,wt x=x.B.length)∧(∀x:Ao,wt x=x.B.length+wt x.Ops)∧(∀x:Av,wt x=wt x.F)∧
  (∀p:Prop,(True∧p)=p)∧(∀p:Prop,(p∧True)=p)∧(∀x:UInt8,wt x=0)∧(∀x:Int,wt x=0)∧(∀x:Nat,wt x=0)∧(∀x:List UInt8,wt x=x.length)∧(∀x:List Int,wt x=x.length)∧(∀(α:Type) [Wt α] (l m:List α),wt (l++m)=wt l+wt m)∧(∀(α:Type) [Wt α] (x:α) (l:List α),wt (x :: l)=wt x+wt l+1)∧(∀(α:Type) [Wt α],wt ([]:List α)=0)∧
  (∀(α:Type) (l m:List α),(l++m).length=l.length+m.length)∧(∀(α:Type) (x:α) (l:List α),(x :: l).length=l.length+1)∧(∀(α:Type),([]:List α).length=0)∧(∀(α:Type) (l:List α) (i:Nat) (x:α),(l.set i x).length=l.length)∧
  (∀(α:Type) (l:List α) (i:Nat),(l.take i).length=min i l.length)∧(∀(α:Type) (l:List α) (i:Nat),(l.drop i).length=l.length - i)∧
  (∀c,CF c↔(wt c≤350∧1≤c.Id∧c.Id≤9∧1≤c.Psk.length∧c.Psk.length≤32∧0≤c.At.Host∧c.At.Host≤4294967295∧0≤c.At.Port∧c.At.Port≤65535))∧
  (∀s,SF s↔(wt s≤3300∧s.T.L.length≤12∧s.Psks.length≤9∧s.J.Secret.length=32))∧(∀w,TW w↔(w.Clients.length=2∧BJ w.Clients 0=1∧BJ w.Clients 1=2))∧(∀c,lA c↔(0≤c.i∧c.i≤c.b.length∧c.b.length≤1048576)):=by
 refine⟨λx=>?_,λx=>?_,λx=>?_,λx=>?_,λx=>?_,λx=>?_,λx=>?_,λx=>?_,λx=>?_,λx=>?_,λx=>?_,λx=>?_,λx=>?_,λx=>?_,λx=>?_,λx=>?_,λx=>?_,λx=>?_,λx=>?_,
  true_and,and_true,λ_=>rfl,λ_=>rfl,λ_=>rfl,EA,uL,λ_ _=>jS,λ_ _=>jD,λ_ _=>LF,λ_ _ _=>List.length_append,λ_ _ _=>List.length_cons,λ_=>List.length_nil,λ_ _ _ _=>List.length_set,λ_ _ _=>List.length_take,λ_ _ _=>List.length_drop,
  λ_=>Iff.rfl,λ_=>Iff.rfl,λ_=>Iff.rfl,λ_=>Iff.rfl⟩
 ·rw[CM,NE,zc5,zc5];omega
 ·rw[NH,EA,EA]
 ·rw[AL,EA]
 ·rw[iT,uL]
 ·rw[HH,EA,EA,EA,EA,EA,EA]
 ·rw[jJ,EA,EA,EA,EA,NE];omega
 ·rw[pL,EA,EA]
 ·rw[eJ,NE];omega
 ·rw[zad,NE,EA];omega
 ·rw[sJ]
 ·rw[rM]
 ·rw[kT,EA]
 ·rw[gJ,EA]
 ·rfl
 ·rw[zac,NE,NE,EA];omega
 ·rw[aG]
 ·rw[zxo,EA]
 ·rw[zuS,EA]
 ·rw[zxd,NE];omega
def B:(∀b:Bool,((!b)=true)=(b=false))∧(∀b:Bool,((!b)=false)=(b=true))∧(∀(p:Prop) [Decidable p],(decide p=true)=p)∧(∀(p:Prop) [Decidable p],(decide p=false)=¬p)∧
  (∀(α:Type) [BEq α] [LawfulBEq α] (a b:α),((a==b)=true)=(a=b))∧(∀(α:Type) [BEq α] [LawfulBEq α] (a b:α),((a==b)=false)=¬(a=b))∧
  (∀(α:Type) [BEq α] [LawfulBEq α] (a b:α),((a !=b)=true)=¬(a=b))∧(∀(α:Type) [BEq α] [LawfulBEq α] (a b:α),((a !=b)=false)=(a=b))∧
  (∀x a b:Int,(eA x a b=true)=(a≤x∧x≤b))∧(∀x a b:Int,(eA x a b=false)=¬(a≤x∧x≤b))∧(∀a b:Bool,((a&&b)=true)=(a=true∧b=true))∧(∀a b:Bool,((a||b)=true)=(a=true∨b=true)):=by
 refine⟨λb=>by cases b<;>simp,λb=>by cases b<;>simp,λp _=>by simp,λp _=>by simp,λ_ _ _ a b=>by simp,λ_ _ _ a b=>by simp,λ_ _ _ a b=>by simp,λ_ _ _ a b=>by simp,
  λx a b=>propext OB,λx a b=>propext zt6,λa b=>by simp,λa b=>by simp⟩
end Go.D
namespace Go.D
namespace Ok
variable {α β σ:Type} {P:β→Prop}
def s{x:α}{P:α→Prop}(h:P x):Ok (some x) P:=⟨x,rfl,h⟩
def x{P:α→Prop}(h:False):Ok (none:Option α) P:=h.elim
def c{b:Bool}{x y:Option β}(h1:b=true→Ok x P)(h2:b=false→Ok y P):Ok (cond b x y) P:=Ok.cond' h1 h2
def b{o:Option α}{P:α→Prop}{Q:β→Prop}{f:α→Option β}(h:Ok o P)(k:∀r,P r→Ok (f r) Q):Ok (Option.bind o f) Q:=Ok.bind h k
def g{γ:Type}[Wt α][Wt γ]{l:List α}{m:List γ}{x:Option β}(h:wt l+wt m≤bA)(k:Ok x P):Ok (cond (decide (l.length+m.length≤bA)) x none) P:=Ok.guard h k
def e[Wt α]{l:List α}{x:Option β}(h:wt l≤bA)(k:Ok x P):Ok (cond (Nat.ble l.length bA) x none) P:=Ok.ble h k
def h{b:Bool}{x:Option β}(h:b=true)(k:Ok x P):Ok (cond b x none) P:=Ok.chk h k
def n{b:Bool}{x:Option β}(h:b=false)(k:Ok x P):Ok (cond b none x) P:=Ok.chkn h k
def j{F:α→Option β}{G:(α→Option β)→Option β}(Q:α→Prop)(h1:∀y,Q y→Ok (F y) P)(h2:∀k:α→Option β,(∀y,Q y→Ok (k y) P)→Ok (G k) P):Ok (aA F G) P:=h2 F h1
def jt{F:α→Option β}{G:(α→Option β)→Option β}(h1:∀y,Ok (F y) P)(h2:∀k:α→Option β,(∀y,Ok (k y) P)→Ok (G k) P):Ok (aA F G) P:=h2 F h1
def bi[Wt α]{l:List α}{i:Int}{f:α→Option β}(h0:0≤i)(h1:i<(l.length:Int))(k:∀x,l[i.toNat]?=some x→wt x+1≤wt l→Ok (f x) P):Ok (Option.bind (kA l i) f) P:=Ok.bind (Ok.idx h0 h1) λx hx=>k x hx (zhe hx)
def bg[Wt α]{l:List α}{i:Nat}{f:α→Option β}(h:i<l.length)(k:∀x,l[i]?=some x→wt x+1≤wt l→Ok (f x) P):Ok (Option.bind (l[i]?) f) P:=Ok.bind (Ok.get h) λx hx=>k x hx (zhe hx)
def m{o:Option α}{a:α}{f:α→Option β}(h:o=some a)(k:Ok (f a) P):Ok (Option.bind o f) P:=Ok.same h k
def cp[Wt α]{a:α}{f:α→Option β}(h:wt a≤bA)(k:Ok (f a) P):Ok (Option.bind (nA a) f) P:=Ok.same (pA h) k
def l{f:σ→(σ→Option β)→Option β}{x:σ}(inv:σ→Prop)(μ:σ→Nat)(h:∀x,inv x→∀k:σ→Option β,(∀y,inv y→μ y<μ x→Ok (k y) P)→Ok (f x k) P)(hx:inv x)(hμ:μ x<2^64):Ok (sA FU f x) P:=Ok.loop inv μ h hx hμ
end Ok
def NB:=And.intro B (And.intro N CB)
def nf{b:Bool}(h:(!b)=false):b=true:=by simpa using h
def nt{b:Bool}(h:(!b)=true):b=false:=by simpa using h
end Go.D
