/-
 Sizes of the program's data.
-/
import Derived.Test.YtfealdecpglcnaaGreatN9
set_option linter.all false
namespace Go.D
end Go.D
namespace Go.D
noncomputable def zc5(e:Aw)(_:Bool):Option Aw:=pt (wt e≤bA) e
end Go.D
namespace Go.D
open Option renaming bind→ob
noncomputable section
def In(a0:Af):=
 ob (Ay a0 8) λr1=>
 ob (Ay r1.2 6) λr2=>
 ob (Ay r2.2 9) λr3=>
 ob (Ar r3.2 3) λr4=>
 ob (zb6 r1.1 r2.1 r3.1 (iA .i64 1 r4.1)) λr5=>
 some (r5,r4.2)
def Ob(a0:Ap):=
 cond (decide (([]:List Int).length+a0.Bits.length≤bA)) (some (⟨a0.Top,[]++a0.Bits⟩:Ap)) none
def Oc(a0:Aw):=
 cond (decide (([]:List UInt8).length+a0.Key.length≤bA)) (ob (nA a0.Win) λr1=>
 some (⟨a0.N,[]++a0.Key,a0.Seq,r1⟩:Aw)) none
def Od(a0:Aw)(a1:Bool):=
 cond (!a1)
 (cond (decide (([]:List UInt8).length+a0.Key.length≤bA)) (cond (decide (([]:List Int).length+a0.Win.Bits.length≤bA)) (some (⟨a0.N,[]++a0.Key,a0.Seq,(⟨a0.Win.Top,[]++a0.Win.Bits⟩:Ap)⟩:Aw)) none) none)
 (ob (nA a0) λr1=>
 some r1)
def Oe(a0:Ak):=
 cond (decide (([]:List UInt8).length+a0.Sn.length≤bA)) (ob (nA a0.Cur) λr1=>
 ob (zc5 a0.Old a0.HasOld) λr2=>
 cond (decide (([]:List UInt8).length+a0.Next.length≤bA)) (some (⟨a0.Role,[]++a0.Sn,r1,r2,a0.HasOld,a0.Until,[]++a0.Next⟩:Ak)) none) none
def Of(a0:Aj):=
 aA (λ(y1:Aj)=>
 some y1) λk2=>
 qA FU (λ(x3:Int×Aj) k4=>
 cond (decide (x3.1<(a0.Cands.length:Int)))
 (ob (kA a0.Cands x3.1) λe5=>
 ob (qH e5) λr6=>
 cond (decide (x3.2.Cands.length+[r6].length≤bA)) (k4 ((iA .i64 x3.1 1),(⟨x3.2.At,x3.2.Cands++[r6]⟩:Aj))) none)
 (k2 x3.2)) (0,(⟨a0.At,[]⟩:Aj))
def Og(a0:Ah):=
 cond (decide (([]:List UInt8).length+a0.Cn.length≤bA)) (cond (decide (([]:List UInt8).length+a0.Sn.length≤bA)) (ob (nA a0.C) λr1=>
 ob (nA a0.P) λr2=>
 some (⟨a0.Id,[]++a0.Cn,[]++a0.Sn,r1,r2,a0.Tick,a0.Last,a0.Dead⟩:Ah)) none) none
def Oh(a0:Ao):=
 aA (λ(y1:Ao)=>
 some y1) λk2=>
 qA FU (λ(x3:Int×Ao) k4=>
 cond (decide (x3.1<(a0.L.length:Int)))
 (ob (kA a0.L x3.1) λe5=>
 ob (nA e5) λr6=>
 cond (decide (x3.2.L.length+[r6].length≤bA)) (k4 ((iA .i64 x3.1 1),(⟨x3.2.Cap,x3.2.L++[r6]⟩:Ao))) none)
 (k2 x3.2)) (0,(⟨a0.Cap,[]⟩:Ao))
def Oi(a0:Ac):=
 cond (decide (([]:List UInt8).length+a0.J.Secret.length≤bA)) (ob (OJ a0.D) λr1=>
 ob (nA a0.T) λr2=>
 cond (decide (([]:List Al).length+a0.Cr.length≤bA)) (aA (λ(y3:Ac)=>
 some y3) λk4=>
 qA FU (λ(x5:Int×Ac) k6=>
 cond (decide (x5.1<(a0.Psks.length:Int)))
 (ob (kA a0.Psks x5.1) λe7=>
 cond (decide (([]:List UInt8).length+e7.length≤bA)) (cond (decide (x5.2.Psks.length+[[]++e7].length≤bA)) (k6 ((iA .i64 x5.1 1),(⟨x5.2.Psks++[[]++e7],x5.2.J,x5.2.D,x5.2.T,x5.2.Cr⟩:Ac))) none) none)
 (k4 x5.2)) (0,(⟨[],(⟨[]++a0.J.Secret⟩:Ba),r1,r2,[]++a0.Cr⟩:Ac))) none) none
def Oj(a0:List Am):=
 aA (λ(y1:(List Am))=>
 some y1) λk2=>
 qA FU (λ(x3:(List Am)×Int) k4=>
 cond (decide (x3.2<(a0.length:Int)))
 (ob (kA a0 x3.2) λe5=>
 ob (kA a0 x3.2) λe6=>
 ob (kA a0 x3.2) λe7=>
 cond (decide (([]:List UInt8).length+e7.B.length≤bA)) (cond (decide (x3.1.length+[(⟨e5.From,e6.To,[]++e7.B⟩:Am)].length≤bA)) (k4 ((x3.1++[(⟨e5.From,e6.To,[]++e7.B⟩:Am)]),(iA .i64 x3.2 1))) none) none)
 (k2 x3.1)) ([],0)
def Ol(a0:Ae):=
 cond (decide (([]:List UInt8).length+a0.Cn.length≤bA)) (cond (decide (([]:List UInt8).length+a0.Sn.length≤bA)) (cond (decide (([]:List UInt8).length+a0.Body.length≤bA)) (cond (decide (([]:List UInt8).length+a0.Key.length≤bA)) (some (⟨a0.Kind,a0.Id,a0.Role,[]++a0.Cn,[]++a0.Sn,a0.Epoch,a0.Seq,[]++a0.Body,[]++a0.Key,a0.A,a0.Now⟩:Ae)) none) none) none) none
def Om(a0:List Ae):=
 aA (λ(y1:(List Ae))=>
 some y1) λk2=>
 qA FU (λ(x3:(List Ae)×Int) k4=>
 cond (decide (x3.2<(a0.length:Int)))
 (ob (kA a0 x3.2) λe5=>
 ob (nA e5) λr6=>
 cond (decide (x3.1.length+[r6].length≤bA)) (k4 ((x3.1++[r6]),(iA .i64 x3.2 1))) none)
 (k2 x3.1)) ([],0)
def Oo(a0:Aa):=
 cond (decide (([]:List UInt8).length+a0.Cn.length≤bA)) (cond (decide (([]:List UInt8).length+a0.Sn.length≤bA)) (cond (decide (([]:List UInt8).length+a0.Cookie.length≤bA)) (cond (decide (([]:List UInt8).length+a0.Proof.length≤bA)) (cond (decide (([]:List UInt8).length+a0.Body.length≤bA)) (cond (decide (([]:List UInt8).length+a0.Tag.length≤bA)) (some (⟨a0.Kind,a0.Id,[]++a0.Cn,[]++a0.Sn,a0.Tick,[]++a0.Cookie,[]++a0.Proof,a0.Epoch,a0.Seq,[]++a0.Body,[]++a0.Tag⟩:Aa)) none) none) none) none) none) none
def Oq(a0:Ad):=
 cond (decide (([]:List UInt8).length+a0.Psk.length≤bA)) (cond (decide (([]:List UInt8).length+a0.Cn.length≤bA)) (ob (nA a0.Fin) λr1=>
 ob (nA a0.C) λr2=>
 some (⟨a0.Id,[]++a0.Psk,a0.At,a0.St,[]++a0.Cn,r1,r2,a0.T,a0.R,a0.Last⟩:Ad)) none) none
def Or(a0:Ab):=
 ob (nA a0.S) λr1=>
 ob (OJ a0.D) λr2=>
 ob (nA a0.Seen) λr3=>
 ob (nA a0.Notes) λr4=>
 aA (λ(y5:Ab)=>
 aA (λ(y11:Ab)=>
 some y11) λk12=>
 qA FU (λ(x13:Int×Ab) k14=>
 cond (decide (x13.1<(a0.Known.length:Int)))
 (ob (kA a0.Known x13.1) λe15=>
 cond (decide (([]:List UInt8).length+e15.length≤bA)) (cond (decide (x13.2.Known.length+[[]++e15].length≤bA)) (k14 ((iA .i64 x13.1 1),(⟨x13.2.Now,x13.2.Clients,x13.2.S,x13.2.D,x13.2.Seen,x13.2.Known++[[]++e15],x13.2.Notes⟩:Ab))) none) none)
 (k12 x13.2)) (0,y5)) λk6=>
 qA FU (λ(x7:Int×Ab) k8=>
 cond (decide (x7.1<(a0.Clients.length:Int)))
 (ob (kA a0.Clients x7.1) λe9=>
 ob (nA e9) λr10=>
 cond (decide (x7.2.Clients.length+[r10].length≤bA)) (k8 ((iA .i64 x7.1 1),(⟨x7.2.Now,x7.2.Clients++[r10],x7.2.S,x7.2.D,x7.2.Seen,x7.2.Known,x7.2.Notes⟩:Ab))) none)
 (k6 x7.2)) (0,(⟨a0.Now,[],r1,r2,r3,[],r4⟩:Ab))
def Jy(a0:Af):=
 ob (As a0 [1,1,2,2,3,4,4,5,5,6,7,8,9,10]) λr1=>
 aA (λ(y2:Af×Bc)=>
 ob (Ar y2.1 5) λr6=>
 ob (As r6.2 [0,1,4,12,16]) λr7=>
 some ((⟨y2.2.Kind,r6.1,r7.1,y2.2.B⟩:Bc),r7.2)) λk3=>
 cond (r1.1==1)
 (ob (As r1.2 [0,1,4,12,32]) λr4=>
 ob (Ay r4.2 r4.1) λr5=>
 k3 (r5.2,(⟨r1.1,0,0,r5.1⟩:Bc)))
 (k3 (r1.2,(⟨r1.1,0,0,[]⟩:Bc)))
def Df(a0:Int):Option Int:=
 cond (decide (0≤a0)&&decide (a0<([0,0,0,0,1,2,2,2,2,1,3].length:Int))) (ob ([0,0,0,0,1,2,2,2,2,1,3][a0.toNat]?) λe1=>
 some e1) none
def Io(a0:Af)(a1:Int):Option ((List Bc)×Af):=
 ob (Ar a0 a1) λr1=>
 aA (λ(y2:(List Bc)×Int×Af)=>
 aA (λ(y16:(List Bc))=>
 some (y16,y2.2.2)) λk17=>
 qA FU (λ(x18:(List Bc)×Int) k19=>
 cond (decide (x18.2>1))
 (cond (decide (x18.1.length+[(⟨5,0,0,[]⟩:Bc)].length≤bA)) (k19 ((x18.1++[(⟨5,0,0,[]⟩:Bc)]),(wA .i64 x18.2 1))) none)
 (k17 x18.1)) (y2.1,y2.2.1)) λk3=>
 qA FU (λ(x4:(List Bc)×Int×Int×Af) k5=>
 cond (decide (x4.2.2.1>0))
 (ob (Jy x4.2.2.2) λr6=>
 aA (λ(y7:Af×Bc)=>
 ob (Df y7.2.Kind) λr15=>
 cond (decide (x4.1.length+[y7.2].length≤bA)) (k5 ((x4.1++[y7.2]),(iA .i64 (wA .i64 x4.2.1 r15) 1),(wA .i64 x4.2.2.1 1),y7.1)) none) λk8=>
 qA FU (λ(x9:Int×Af×Bc) k10=>
 aA (λy11=>
 cond (y11)
 (ob (Jy x9.2.1) λr14=>
 k10 ((iA .i64 x9.1 1),r14.2,r14.1))
 (k8 (x9.2.1,x9.2.2))) λk12=>
 cond (decide (x9.1<6))
 (ob (Df x9.2.2.Kind) λr13=>
 k12 (decide (r13>x4.2.1)))
 (k12 false)) (0,r6.2,r6.1))
 (k3 (x4.1,x4.2.1,x4.2.2.2))) ([],0,(iA .i64 1 r1.1),r1.2)
def Ip(a0:Af):=
 ob (Ar a0 6) λr1=>
 cond (r1.1==0)
 (ob (Ar r1.2 2) λr2=>
 ob (Ay r2.2 12) λr3=>
 some (iA .i64 5 r2.1,r3.1,r3.2))
 (cond (r1.1==1)
 (ob (Ar r1.2 2) λr4=>
 ob (Ay r4.2 4) λr5=>
 some (iA .i64 7 r4.1,r5.1,r5.2))
 (ob (As r1.2 [0,1,3,12,33,40]) λr6=>
 ob (Ay r6.2 r6.1) λr7=>
 some (4,r7.1,r7.2)))
def Cb(a0:Int)(a1:List UInt8)(a2:Int)(a3:Int):=
 aA (λy1=>
 cond (y1)
 (some [])
 (cond (decide ([UInt8.ofNat (IntKind.wrap .u8 a0:Int).toNat].length+a1.length≤bA)) (ob (UB ([UInt8.ofNat (IntKind.wrap .u8 a0:Int).toNat]++a1) a2 4) λr3=>
 ob (UB r3 a3 6) λr4=>
 some r4) none)) λk2=>
 cond (!(eA a0 0 1))
 (k2 true)
 (cond ((a1.length:Int) !=12)
 (k2 true)
 (cond (!(eA a2 0 4294967295))
 (k2 true)
 (k2 (!(eA a3 0 281474976710655)))))
def Gj(a0:List UInt8)(a1:List UInt8)(a2:Int):=
 aA (λy1=>
 cond (y1)
 (some [])
 (cond (decide ([UInt8.ofNat (115:Int).toNat].length+a1.length≤bA)) (ob (UB ([UInt8.ofNat (115:Int).toNat]++a1) a2 4) λr3=>
 let r4:(List UInt8):=VC a0 r3
 some r4) none)) λk2=>
 cond (!(eA a2 0 6))
 (k2 true)
 (k2 (decide ((a1.length:Int)>100)))
def Ey(a0:List UInt8)(a1:List UInt8)(a2:Int):=
 aA (λy1=>
 cond (y1)
 (some [])
 (aA (λ(y3:(List UInt8))=>
 cond (decide (0≤(0:Int))&&decide ((0:Int)≤a2)&&decide (a2≤(y3.length:Int))) (cond (decide (([]:List UInt8).length+(List.take ((a2 - 0).toNat) (List.drop 0 y3)).length≤bA)) (some ([]++(List.take ((a2 - 0).toNat) (List.drop 0 y3)))) none) none) λk4=>
 qA FU (λ(x5:(List UInt8)×Int) k6=>
 cond (decide ((x5.1.length:Int)<a2))
 (ob (Gj a0 a1 x5.2) λr7=>
 cond (decide (x5.1.length+r7.length≤bA)) (k6 ((x5.1++r7),(iA .i64 x5.2 1))) none)
 (k4 x5.1)) ([],0))) λk2=>
 cond (!(eA a2 0 200))
 (k2 true)
 (cond (decide ((a1.length:Int)>100))
 (k2 true)
 (k2 (decide ((a0.length:Int)>1048576))))
def Dv(a0:List UInt8)(a1:List UInt8)(a2:List UInt8):=
 aA (λy1=>
 cond (y1)
 (some [])
 (ob (Ey a0 a1 (a2.length:Int)) λr3=>
 aA (λ(y4:(List UInt8))=>
 some y4) λk5=>
 qA FU (λ(x6:(List UInt8)×Int) k7=>
 cond (decide (x6.2<(a2.length:Int)))
 (ob (kA a2 x6.2) λe8=>
 cond (decide (0≤x6.2)&&decide (x6.2<(r3.length:Int))) (ob (r3[x6.2.toNat]?) λe9=>
 let x10:Int:=CB .u8 ((e8.toNat:Nat):Int) ((e9.toNat:Nat):Int)
 cond (decide (x6.1.length+[UInt8.ofNat (x10:Int).toNat].length≤bA)) (k7 ((x6.1++[UInt8.ofNat (x10:Int).toNat]),(iA .i64 x6.2 1))) none) none)
 (k5 x6.1)) ([],0))) λk2=>
 cond (decide ((a2.length:Int)>200))
 (k2 true)
 (cond (decide ((a1.length:Int)>100))
 (k2 true)
 (k2 (decide ((a0.length:Int)>1048576))))
def Bu(a0:Int)(a1:Aa):=
 aA (λy1=>
 cond (y1)
 (some [])
 (ob (Cb a0 a1.Sn a1.Epoch a1.Seq) λr3=>
 cond (decide ([UInt8.ofNat (116:Int).toNat].length+r3.length≤bA)) (cond (decide (([UInt8.ofNat (116:Int).toNat]++r3).length+[UInt8.ofNat (IntKind.wrap .u8 a1.Kind:Int).toNat].length≤bA)) (let x4:List UInt8:=([UInt8.ofNat (116:Int).toNat]++r3)++[UInt8.ofNat (IntKind.wrap .u8 a1.Kind:Int).toNat]
 cond (decide (x4.length+a1.Body.length≤bA)) (some (x4++a1.Body)) none) none) none)) λk2=>
 cond (!(eA a0 0 1))
 (k2 true)
 (cond (!(wB a1))
 (k2 true)
 (k2 (!(gC a1.Kind))))
def Cm(a0:List UInt8)(a1:List UInt8):=
 let r1:(List UInt8):=VC a0 a1
 cond (decide ((r1.length:Int)<16))
 (some [])
 (cond (decide (0≤(0:Int))&&decide ((0:Int)≤16)&&decide (16≤(r1.length:Int))) (cond (decide (([]:List UInt8).length+(List.take 16 (List.drop 0 r1)).length≤bA)) (some ([]++(List.take 16 (List.drop 0 r1)))) none) none)
def Dw(a0:List UInt8)(a1:Int)(a2:List UInt8)(a3:Int)(a4:Int)(a5:Int)(a6:List UInt8):=
 ob (Cb a1 a2 a3 a4) λr1=>
 aA (λy2=>
 cond (y2)
 (some ((⟨0,0,[],[],0,[],[],0,0,[],[]⟩:Aa),false))
 (cond (decide (([]:List UInt8).length+a2.length≤bA)) (ob (Dv a0 r1 a6) λr4=>
 aA (λ(y5:Aa)=>
 ob (Bu a1 y5) λr9=>
 ob (Cm a0 r9) λr10=>
 some ((⟨y5.Kind,y5.Id,y5.Cn,y5.Sn,y5.Tick,y5.Cookie,y5.Proof,y5.Epoch,y5.Seq,y5.Body,r10⟩:Aa),true)) λk6=>
 qA FU (λ(x7:Int×Aa) k8=>
 cond (decide (x7.1<16))
 (cond (decide (x7.2.Tag.length+[UInt8.ofNat (0:Int).toNat].length≤bA)) (k8 ((iA .i64 x7.1 1),(⟨x7.2.Kind,x7.2.Id,x7.2.Cn,x7.2.Sn,x7.2.Tick,x7.2.Cookie,x7.2.Proof,x7.2.Epoch,x7.2.Seq,x7.2.Body,x7.2.Tag++[UInt8.ofNat (0:Int).toNat]⟩:Aa))) none)
 (k6 x7.2)) (0,(⟨a5,0,[],[]++a2,0,[],[],a3,a4,r4,[]⟩:Aa))) none)) λk3=>
 cond ((a0.length:Int) !=32)
 (k3 true)
 (cond ((r1.length:Int)==0)
 (k3 true)
 (cond (!(gC a5))
 (k3 true)
 (k3 (!(VF a5 (a6.length:Int))))))
def Iq(a0:List UInt8)(a1:Int)(a2:Int)(a3:List UInt8)(a4:Int)(a5:Int)(a6:Int)(a7:List UInt8):=
 ob (Dw a0 a2 a3 a4 a5 a6 a7) λr1=>
 aA (λy2=>
 cond (y2)
 (some [])
 (cond (decide ([UInt8.ofNat (IntKind.wrap .u8 a6:Int).toNat].length+a3.length≤bA)) (ob (UB ([UInt8.ofNat (IntKind.wrap .u8 a6:Int).toNat]++a3) a4 4) λr4=>
 ob (UB r4 a5 6) λr5=>
 ob (Bu a2 r1.1) λr6=>
 cond (decide (([]:List UInt8).length+r1.1.Body.length≤bA)) (let x7:List Bc:=[(⟨1,0,0,r5⟩:Bc),(⟨3,a1,0,[]⟩:Bc),(⟨1,0,0,r6⟩:Bc),(⟨8,0,0,[]⟩:Bc),(⟨5,0,0,[]⟩:Bc),(⟨1,0,0,[]++r1.1.Body⟩:Bc),(⟨5,0,0,[]⟩:Bc)]
 some x7) none) none)) λk3=>
 cond (!r1.2)
 (k3 true)
 (k3 (!(eA a1 0 11)))
def Ir(a0:Af)(a1:Ab)(a2:Int)(a3:Bool):Option (Aq×Af×Int):=
 ob (Ar a0 2) λr1=>
 ob (Ar r1.2 3) λr2=>
 ob (Ar r2.2 40) λr3=>
 aA (λ(y4:Bool×Af)=>
 cond (y4.1)
 (some ((⟨7,a2,r2.1,r3.1,[],[]⟩:Aq),y4.2,iA .i64 a2 1))
 (aA (λ(y7:Bool×Af)=>
 cond (y7.1)
 (some ((⟨1,r1.1,r2.1,r3.1,[],[]⟩:Aq),y7.2,a2))
 (ob (Ar y7.2 16) λr11=>
 aA (λ(y12:Bool)=>
 aA (λ(y16:Aq×Af×Aq)=>
 some (y16.1,y16.2.1,a2)) λk17=>
 cond (y12)
 (ob (Ar r11.2 6) λr18=>
 ob (Ay r18.2 r18.1) λr19=>
 k17 ((⟨2,r1.1,r2.1,r3.1,r19.1,[]⟩:Aq),r19.2,(⟨0,0,0,0,[],[]⟩:Aq)))
 (aA (λ(y20:Bool)=>
 aA (λ(y22:Aq×Af×Aq)=>
 k17 (y22.1,y22.2.1,y22.2.2)) λk23=>
 cond (y20)
 (ob (Ar r11.2 3) λr24=>
 ob (Ar r24.2 6) λr25=>
 ob (Ay r25.2 r25.1) λr26=>
 k23 ((⟨3,r24.1,r2.1,r3.1,r26.1,[]⟩:Aq),r26.2,(⟨0,0,0,0,[],[]⟩:Aq)))
 (aA (λ(y27:Bool)=>
 aA (λ(y29:Aq×Af×Aq)=>
 k23 (y29.1,y29.2.1,y29.2.2)) λk30=>
 cond (y27)
 (k30 ((⟨4,r1.1,r2.1,r3.1,[],[]⟩:Aq),r11.2,(⟨0,0,0,0,[],[]⟩:Aq)))
 (aA (λ(y31:Aq×Af×Aq)=>
 k30 (y31.1,y31.2.1,y31.2.2)) λk32=>
 cond (r11.1==7)
 (k32 ((⟨5,r1.1,r2.1,r3.1,[],[]⟩:Aq),r11.2,(⟨0,0,0,0,[],[]⟩:Aq)))
 (aA (λ(y33:Bool)=>
 aA (λ(y35:Aq×Af×Aq)=>
 k32 (y35.1,y35.2.1,y35.2.2)) λk36=>
 cond (y33)
 (k36 ((⟨6,r1.1,r2.1,r3.1,[],[]⟩:Aq),r11.2,(⟨0,0,0,0,[],[]⟩:Aq)))
 (ob (Ar r11.2 4) λr37=>
 ob (Ar r37.2 90) λr38=>
 aA (λ(y39:Bool×Af)=>
 aA (λ(y42:Af×Aq)=>
 ob (Ar y42.1 256) λr46=>
 cond (!a3)
 (some ((⟨y42.2.Kind,y42.2.I,r46.1,y42.2.N,y42.2.B,y42.2.Ops⟩:Aq),r46.2,a2))
 (ob (Ar r46.2 12) λr47=>
 aA (λ(y48:Bool)=>
 aA (λ(y50:Aq×Af)=>
 k36 (y50.1,y50.2,(⟨0,0,0,0,[],[]⟩:Aq))) λk51=>
 cond (y48)
 (ob (Io r47.2 6) λr52=>
 aA (λ(y53:Af×Aq)=>
 k51 (y53.2,y53.1)) λk54=>
 cond (decide ((a1.Known.length:Int)>0))
 (ob (Ar r52.2 (a1.Known.length:Int)) λr55=>
 ob (kA a1.Clients 0) λe56=>
 aA (λ(y57:Bool×Af)=>
 aA (λ(y60:(List UInt8))=>
 ob (Ip y57.2) λr63=>
 ob (kA a1.Known r55.1) λe64=>
 ob (Ar r63.2.2 2) λr65=>
 ob (Ar r65.2 3) λr66=>
 ob (Ar r66.2 30) λr67=>
 ob (Iq e64 r55.1 r65.1 y60 r66.1 r67.1 r63.1 r63.2.1) λr68=>
 aA (λ(y69:Aq)=>
 k54 (r67.2,y69)) λk70=>
 cond (decide ((r68.length:Int)>0))
 (k70 (⟨11,y42.2.I,r46.1,y42.2.N,y42.2.B,r68⟩:Aq))
 (k70 (⟨11,y42.2.I,r46.1,y42.2.N,y42.2.B,r52.1⟩:Aq))) λk61=>
 cond (y57.1)
 (ob (kA a1.Clients 1) λe62=>
 k61 e62.C.Sn)
 (k61 e56.C.Sn)) λk58=>
 cond ((e56.C.Sn.length:Int)==0)
 (k58 (true,r55.2))
 (ob (Bb r55.2 3) λr59=>
 k58 (r59.1,r59.2)))
 (k54 (r52.2,(⟨11,y42.2.I,r46.1,y42.2.N,y42.2.B,r52.1⟩:Aq))))
 (aA (λ(y71:Aq×Af)=>
 k51 (y71.1,y71.2)) λk72=>
 cond (r47.1==2)
 (k72 ((⟨12,y42.2.I,r46.1,y42.2.N,y42.2.B,y42.2.Ops⟩:Aq),r47.2))
 (aA (λ(y73:Aq×Af)=>
 k72 (y73.1,y73.2)) λk74=>
 cond (r47.1==3)
 (k74 ((⟨13,y42.2.I,r46.1,y42.2.N,y42.2.B,y42.2.Ops⟩:Aq),r47.2))
 (aA (λ(y75:Aq×Af)=>
 k74 (y75.1,y75.2)) λk76=>
 cond (r47.1==4)
 (ob (Ar r47.2 3) λr77=>
 k76 ((⟨14,r77.1,r46.1,y42.2.N,y42.2.B,y42.2.Ops⟩:Aq),r77.2))
 (aA (λ(y78:Aq×Af)=>
 k76 (y78.1,y78.2)) λk79=>
 cond (r47.1==5)
 (k79 ((⟨15,y42.2.I,r46.1,y42.2.N,y42.2.B,y42.2.Ops⟩:Aq),r47.2))
 (aA (λ(y80:Aq×Af)=>
 k79 (y80.1,y80.2)) λk81=>
 cond (r47.1==6)
 (ob (Ar r47.2 3) λr82=>
 k81 ((⟨16,r82.1,r46.1,y42.2.N,y42.2.B,y42.2.Ops⟩:Aq),r82.2))
 (aA (λ(y83:Af×Aq)=>
 k81 (y83.2,y83.1)) λk84=>
 cond (r47.1==7)
 (ob (Bb r47.2 3) λr85=>
 aA (λ(y86:Aq×Af)=>
 k84 (y86.2,y86.1)) λk87=>
 cond (r85.1)
 (ob (Ar r85.2 12) λr88=>
 k87 ((⟨17,y42.2.I,r46.1,r88.1,y42.2.B,y42.2.Ops⟩:Aq),r88.2))
 (k87 ((⟨y42.2.Kind,y42.2.I,r46.1,y42.2.N,y42.2.B,y42.2.Ops⟩:Aq),r85.2)))
 (aA (λ(y89:Aq×Af)=>
 k84 (y89.2,y89.1)) λk90=>
 cond (r47.1==8)
 (ob (As r47.2 [2,3,4]) λr91=>
 ob (As r91.2 [24,28,44,33]) λr92=>
 let x93:List Bc:=[(⟨1,0,0,[UInt8.ofNat (IntKind.wrap .u8 r91.1:Int).toNat]⟩:Bc),(⟨2,y42.2.I,0,[]⟩:Bc),(⟨4,1,r92.1,[]⟩:Bc),(⟨5,0,0,[]⟩:Bc)]
 k90 ((⟨11,y42.2.I,r46.1,y42.2.N,y42.2.B,x93⟩:Aq),r92.2))
 (k90 ((⟨y42.2.Kind,y42.2.I,r46.1,y42.2.N,y42.2.B,y42.2.Ops⟩:Aq),r47.2)))))))))) λk49=>
 cond (r47.1==0)
 (k49 (r47.1==0))
 (k49 (r47.1==1)))) λk43=>
 cond (y39.1)
 (ob (Ar y39.2 4) λr44=>
 let x45:Int:=wA .i64 (wA .i64 (a1.Seen.length:Int) 1) r44.1
 k43 (r44.2,(⟨iA .i64 7 r37.1,x45,r2.1,r3.1,[],[]⟩:Aq)))
 (k43 (y39.2,(⟨iA .i64 7 r37.1,r38.1,r2.1,r3.1,[],[]⟩:Aq)))) λk40=>
 cond (decide ((a1.Seen.length:Int)>4))
 (ob (Bb r38.2 2) λr41=>
 k40 (r41.1,r41.2))
 (k40 (false,r38.2)))) λk34=>
 cond (r11.1==8)
 (k34 (r11.1==8))
 (k34 (r11.1==9))))) λk28=>
 cond (r11.1==5)
 (k28 (r11.1==5))
 (k28 (r11.1==6)))) λk21=>
 cond (r11.1==3)
 (k21 (r11.1==3))
 (k21 (r11.1==4)))) λk13=>
 cond (r11.1==0)
 (k13 (r11.1==0))
 (aA (λ(y14:Bool)=>
 k13 y14) λk15=>
 cond (r11.1==1)
 (k15 (r11.1==1))
 (k15 (r11.1==2))))) λk8=>
 ob (kA a1.Clients r1.1) λe9=>
 cond (e9.St==0)
 (ob (Bb y4.2 4) λr10=>
 k8 ((!r10.1),r10.2))
 (k8 (false,y4.2)))) λk5=>
 cond (decide (a2<(a1.Seen.length:Int)))
 (ob (Bb r3.2 4) λr6=>
 k5 ((!r6.1),r6.2))
 (k5 (false,r3.2))
def Bf(a0:Int):=
 cond (!(eA a0 0 1000000))
 (some (⟨false,0,0,0⟩:Av))
 (some (⟨true,iA .i64 a0 1,1,1⟩:Av))
def Ez(a0:Ad):=
 cond (decide (([]:List UInt8).length+a0.Cn.length≤bA)) (some (⟨1,a0.Id,[]++a0.Cn,[],0,[],[],0,0,[],[]⟩:Aa)) none
def Fa(a0:Ad)(a1:Int)(a2:List UInt8):Option (Ad×(List Aa)×(List Ae)×Int):=
 ob (nA a0) λr1=>
 aA (λy2=>
 cond (y2)
 (some (r1,[],[],1))
 (cond (a0.St !=0)
 (some (r1,[],[],6))
 (cond (decide (([]:List UInt8).length+a2.length≤bA)) (ob (Bf a1) λr5=>
 cond (decide (([]:List UInt8).length+a2.length≤bA)) (ob (Ez (⟨r1.Id,r1.Psk,r1.At,1,[]++a2,r1.Fin,r1.C,r5,r1.R,r1.Last⟩:Ad)) λr6=>
 let x7:List Ae:=[(⟨1,a0.Id,0,[]++a2,[],0,0,[],[],(⟨0,0⟩:Ai),a1⟩:Ae)]
 some ((⟨r1.Id,r1.Psk,r1.At,1,[]++a2,r1.Fin,r1.C,r5,r1.R,r1.Last⟩:Ad),[r6],x7,0)) none) none))) λk3=>
 ob (ID a0) λr4=>
 cond (!r4)
 (k3 true)
 (cond (!(eA a1 0 1000000))
 (k3 true)
 (k3 ((a2.length:Int) !=12)))
def Bj(a0:Aa):=
 cond (!(wB a0))
 (some [])
 (aA (λ(y1:(List UInt8))=>
 some y1) λk2=>
 cond (a0.Kind==1)
 (cond (decide ([UInt8.ofNat (IntKind.wrap .u8 a0.Kind:Int).toNat].length+[UInt8.ofNat (IntKind.wrap .u8 a0.Id:Int).toNat].length≤bA)) (let x3:List UInt8:=[UInt8.ofNat (IntKind.wrap .u8 a0.Kind:Int).toNat]++[UInt8.ofNat (IntKind.wrap .u8 a0.Id:Int).toNat]
 cond (decide (x3.length+a0.Cn.length≤bA)) (aA (λ(y4:(List UInt8))=>
 k2 y4) λk5=>
 qA FU (λ(x6:(List UInt8)×Int) k7=>
 cond (decide (x6.2<20))
 (cond (decide (x6.1.length+[UInt8.ofNat (0:Int).toNat].length≤bA)) (k7 ((x6.1++[UInt8.ofNat (0:Int).toNat]),(iA .i64 x6.2 1))) none)
 (k5 x6.1)) ((x3++a0.Cn),0)) none) none)
 (aA (λ(y8:(List UInt8))=>
 k2 y8) λk9=>
 cond (a0.Kind==2)
 (cond (decide ([UInt8.ofNat (IntKind.wrap .u8 a0.Kind:Int).toNat].length+a0.Cn.length≤bA)) (let x10:List UInt8:=[UInt8.ofNat (IntKind.wrap .u8 a0.Kind:Int).toNat]++a0.Cn
 cond (decide (x10.length+a0.Sn.length≤bA)) (ob (UB (x10++a0.Sn) a0.Tick 4) λr11=>
 cond (decide (r11.length+a0.Cookie.length≤bA)) (k9 (r11++a0.Cookie)) none) none) none)
 (aA (λ(y12:(List UInt8))=>
 k9 y12) λk13=>
 cond (a0.Kind==3)
 (cond (decide ([UInt8.ofNat (IntKind.wrap .u8 a0.Kind:Int).toNat].length+[UInt8.ofNat (IntKind.wrap .u8 a0.Id:Int).toNat].length≤bA)) (let x14:List UInt8:=[UInt8.ofNat (IntKind.wrap .u8 a0.Kind:Int).toNat]++[UInt8.ofNat (IntKind.wrap .u8 a0.Id:Int).toNat]
 cond (decide (x14.length+a0.Cn.length≤bA)) (cond (decide ((x14++a0.Cn).length+a0.Sn.length≤bA)) (ob (UB ((x14++a0.Cn)++a0.Sn) a0.Tick 4) λr15=>
 cond (decide (r15.length+a0.Cookie.length≤bA)) (cond (decide ((r15++a0.Cookie).length+a0.Proof.length≤bA)) (k13 ((r15++a0.Cookie)++a0.Proof)) none) none) none) none) none)
 (cond (decide ([UInt8.ofNat (IntKind.wrap .u8 a0.Kind:Int).toNat].length+a0.Sn.length≤bA)) (let x16:List UInt8:=[UInt8.ofNat (IntKind.wrap .u8 a0.Kind:Int).toNat]++a0.Sn
 ob (UB x16 a0.Epoch 4) λr17=>
 ob (UB r17 a0.Seq 6) λr18=>
 cond (decide (r18.length+a0.Tag.length≤bA)) (cond (decide ((r18++a0.Tag).length+a0.Body.length≤bA)) (k13 ((r18++a0.Tag)++a0.Body)) none) none) none))))
def Dx(a0:Ai)(a1:Ai)(a2:Aa):=
 ob (Bj a2) λr1=>
 some (⟨a0,a1,r1⟩:Am)
def Dy(a0:Ad)(a1:List Aa):=
 aA (λ(y1:(List Am))=>
 some y1) λk2=>
 qA FU (λ(x3:(List Am)×Int) k4=>
 cond (decide (x3.2<(a1.length:Int)))
 (let r5:Ai:=tE
 ob (kA a1 x3.2) λe6=>
 ob (Dx a0.At r5 e6) λr7=>
 cond (decide (x3.1.length+[r7].length≤bA)) (k4 ((x3.1++[r7]),(iA .i64 x3.2 1))) none)
 (k2 x3.1)) ([],0)
def Bm(a0:Ab)(a1:List Am)(a2:List Ae):=
 aA (λ(y1:Ab)=>
 cond (decide (y1.Notes.length+a2.length≤bA)) (some (⟨y1.Now,y1.Clients,y1.S,y1.D,y1.Seen,y1.Known,y1.Notes++a2⟩:Ab)) none) λk2=>
 qA FU (λ(x3:Int×Ab) k4=>
 cond (decide (x3.1<(a1.length:Int)))
 (aA (λ(y5:Ab)=>
 k4 ((iA .i64 x3.1 1),y5)) λk6=>
 cond (decide ((x3.2.Seen.length:Int)<90))
 (ob (kA a1 x3.1) λe7=>
 cond (decide (x3.2.Seen.length+[e7].length≤bA)) (k6 (⟨x3.2.Now,x3.2.Clients,x3.2.S,x3.2.D,x3.2.Seen++[e7],x3.2.Known,x3.2.Notes⟩:Ab)) none)
 (k6 x3.2))
 (k2 x3.2)) (0,a0)
def Fb(a0:Ab)(a1:Int)(a2:Ad)(a3:List Aa)(a4:List Ae):=
 cond (decide (0≤a1)&&decide (a1<(a0.Clients.length:Int))) (ob (a0.Clients[a1.toNat]?) λe1=>
 ob (Dy a2 a3) λr2=>
 ob (Bm (⟨a0.Now,List.set a0.Clients a1.toNat a2,a0.S,a0.D,a0.Seen,a0.Known,a0.Notes⟩:Ab) r2 a4) λr3=>
 some r3) none
def Gk(a0:Aw)(a1:Int)(a2:List UInt8)(a3:Int)(a4:List UInt8):Option (Aw×Aa×Int):=
 ob (nA a0) λr1=>
 aA (λy2=>
 cond (y2)
 (some (r1,(⟨0,0,[],[],0,[],[],0,0,[],[]⟩:Aa),1))
 (aA (λy5=>
 cond (y5)
 (some (r1,(⟨0,0,[],[],0,[],[],0,0,[],[]⟩:Aa),4))
 (cond (a0.Seq==281474976710656)
 (some (r1,(⟨0,0,[],[],0,[],[],0,0,[],[]⟩:Aa),5))
 (ob (Dw a0.Key a1 a2 a0.N a0.Seq a3 a4) λr7=>
 some ((⟨r1.N,r1.Key,iA .i64 a0.Seq 1,r1.Win⟩:Aw),r7.1,0)))) λk6=>
 cond (a3==4)
 (k6 (decide (a0.Seq≥281474976709656)))
 (k6 false))) λk3=>
 cond (!(cD a0))
 (k3 true)
 (ob (Cb a1 a2 a0.N 0) λr4=>
 cond ((r4.length:Int)==0)
 (k3 true)
 (cond (!(gC a3))
 (k3 true)
 (k3 (!(VF a3 (a4.length:Int))))))
def Cc(a0:Ak)(a1:Int)(a2:List UInt8):Option (Ak×Aa×Int):=
 ob (nA a0) λr1=>
 ob (sC a0) λr2=>
 cond (!r2)
 (some (r1,(⟨0,0,[],[],0,[],[],0,0,[],[]⟩:Aa),1))
 (ob (Gk a0.Cur a0.Role a0.Sn a1 a2) λr3=>
 aA (λ(y4:Ak)=>
 some (y4,r3.2.1,r3.2.2)) λk5=>
 cond (r3.2.2==0)
 (k5 (⟨r1.Role,r1.Sn,r3.1,r1.Old,r1.HasOld,r1.Until,r1.Next⟩:Ak))
 (k5 r1))
def Dz(a0:List UInt8)(a1:List UInt8):=
 cond (decide (([]:List UInt8).length+a0.length≤bA)) (cond (decide (([]:List UInt8).length+a1.length≤bA)) (some (⟨15,0,0,[],[],0,0,[]++a1,[]++a0,(⟨0,0⟩:Ai),0⟩:Ae)) none) none
def Bo(a0:Ak)(a1:Aa):=
 ob (Bu a0.Role a1) λr1=>
 ob (Dz a0.Cur.Key r1) λr2=>
 some r2
def Gm(a0:Ad)(a1:Int)(a2:List UInt8):Option (Ad×(List Aa)×(List Ae)×Int):=
 ob (nA a0) λr1=>
 aA (λy2=>
 cond (y2)
 (some (r1,[],[],1))
 (cond (a0.St !=3)
 (some (r1,[],[],6))
 (ob (Cc a0.C 4 a2) λr5=>
 cond (r5.2.2 !=0)
 (some (r1,[],[],r5.2.2))
 (cond (decide (([]:List UInt8).length+r5.2.1.Sn.length≤bA)) (cond (decide (([]:List UInt8).length+a2.length≤bA)) (ob (Bo r5.1 r5.2.1) λr6=>
 let x7:List Ae:=[r6,(⟨5,0,0,[],[]++r5.2.1.Sn,r5.2.1.Epoch,r5.2.1.Seq,[]++a2,[],(⟨0,0⟩:Ai),0⟩:Ae)]
 some ((⟨r1.Id,r1.Psk,r1.At,r1.St,r1.Cn,r1.Fin,r5.1,r1.T,r1.R,r1.Last⟩:Ad),[r5.2.1],x7,0)) none) none)))) λk3=>
 ob (ID a0) λr4=>
 cond (!r4)
 (k3 true)
 (cond (!(eA a1 0 1000000))
 (k3 true)
 (k3 (decide ((a2.length:Int)>40))))
def Gn(a0:Ah)(a1:List UInt8):Option (Ah×(List Au)×(List Ae)×Int):=
 ob (nA a0) λr1=>
 aA (λy2=>
 cond (y2)
 (some (r1,[],[],1))
 (cond (a0.Dead)
 (some (r1,[],[],6))
 (ob (Cc a0.C 4 a1) λr5=>
 cond (r5.2.2 !=0)
 (some (r1,[],[],r5.2.2))
 (cond (decide (([]:List UInt8).length+a0.Sn.length≤bA)) (cond (decide (([]:List UInt8).length+a1.length≤bA)) (ob (Bo r5.1 r5.2.1) λr6=>
 let x7:List Ae:=[r6,(⟨5,0,1,[],[]++a0.Sn,r5.2.1.Epoch,r5.2.1.Seq,[]++a1,[],(⟨0,0⟩:Ai),0⟩:Ae)]
 some ((⟨r1.Id,r1.Cn,r1.Sn,r5.1,r1.P,r1.Tick,r1.Last,r1.Dead⟩:Ah),[(⟨a0.P.At,r5.2.1⟩:Au)],x7,0)) none) none)))) λk3=>
 ob (FD a0) λr4=>
 cond (!r4)
 (k3 true)
 (k3 (decide ((a1.length:Int)>40)))
def Gp(a0:Ac)(a1:Int)(a2:Int)(a3:List UInt8):Option (Ac×(List Au)×(List Ae)×Int):=
 ob (nA a0) λr1=>
 aA (λy2=>
 cond (y2)
 (some (r1,[],[],1))
 (let r5:Bool:=eA a2 0 (wA .i64 (a0.T.L.length:Int) 1)
 cond (!r5)
 (some (r1,[],[],8))
 (ob (kA a0.T.L a2) λe6=>
 ob (Gn e6 a3) λr7=>
 aA (λ(y8:Ac)=>
 some (y8,r7.2.1,r7.2.2.1,r7.2.2.2)) λk9=>
 cond (r7.2.2.2==0)
 (cond (decide (0≤a2)&&decide (a2<(r1.T.L.length:Int))) (ob (r1.T.L[a2.toNat]?) λe10=>
 k9 (⟨r1.Psks,r1.J,r1.D,(⟨r1.T.Cap,List.set r1.T.L a2.toNat r7.1⟩:Ao),r1.Cr⟩:Ac)) none)
 (k9 r1)))) λk3=>
 ob (GC a0) λr4=>
 cond (!r4)
 (k3 true)
 (k3 (!(eA a1 0 1000000)))
def Fc(a0:List Au):=
 aA (λ(y1:(List Am))=>
 some y1) λk2=>
 qA FU (λ(x3:(List Am)×Int) k4=>
 cond (decide (x3.2<(a0.length:Int)))
 (let r5:Ai:=tE
 ob (kA a0 x3.2) λe6=>
 ob (kA a0 x3.2) λe7=>
 ob (Dx r5 e6.To e7.F) λr8=>
 cond (decide (x3.1.length+[r8].length≤bA)) (k4 ((x3.1++[r8]),(iA .i64 x3.2 1))) none)
 (k2 x3.1)) ([],0)
def Co(a0:Av)(a1:Int):=
 aA (λ(y1:Bool)=>
 some y1) λk2=>
 cond ((qD a0))
 (cond (a0.On)
 (cond ((eA a1 0 1000000))
 (k2 (decide (a1≥a0.Due)))
 (k2 false))
 (k2 false))
 (k2 false)
def Cp(a0:Av)(a1:Int):Option (Av×Int):=
 ob (Co a0 a1) λr1=>
 cond (!r1)
 (some (a0,0))
 (cond (a0.Tries==5)
 (some ((⟨false,0,0,0⟩:Av),2))
 (aA (λ(y2:Int)=>
 some ((⟨true,iA .i64 a1 y2,y2,iA .i64 a0.Tries 1⟩:Av),1)) λk3=>
 cond (decide ((YB .i64 2 a0.Wait)>8))
 (k3 8)
 (k3 (YB .i64 2 a0.Wait))))
def Dg(a0:Ad):=
 ob (DI a0.Id a0.Psk a0.At) λr1=>
 some r1
def Bv(a0:Ak)(a1:Int):=
 ob (nA a0) λr1=>
 aA (λ(y2:Bool)=>
 aA (λ(y5:Ak)=>
 some y5) λk6=>
 cond (y2)
 (k6 (⟨r1.Role,r1.Sn,r1.Cur,(⟨0,[],0,(⟨0,[]⟩:Ap)⟩:Aw),false,0,r1.Next⟩:Ak))
 (k6 r1)) λk3=>
 ob (sC a0) λr4=>
 cond (r4)
 (cond ((eA a1 0 1000000))
 (cond (a0.HasOld)
 (cond (a0.Until !=(-1))
 (k3 (decide (a1>a0.Until)))
 (k3 false))
 (k3 false))
 (k3 false))
 (k3 false)
def Bk(a0:Int):=
 cond (!(eA a0 0 4294967295))
 (some [])
 (ob (UB [] a0 4) λr1=>
 some r1)
def Fd(a0:Ak):Option (Ak×Aa×Int):=
 aA (λy1=>
 cond (y1)
 (ob (nA a0) λr4=>
 some (r4,(⟨0,0,[],[],0,[],[],0,0,[],[]⟩:Aa),6))
 (ob (Bk (iA .i64 a0.Cur.N 1)) λr5=>
 ob (Cc a0 7 r5) λr6=>
 some (r6.1,r6.2.1,r6.2.2))) λk2=>
 ob (sC a0) λr3=>
 cond (!r3)
 (k2 true)
 (k2 ((a0.Next.length:Int)==0))
def Gq(a0:Ad)(a1:Int):Option (Ad×(List Aa)×(List Ae)):=
 ob (nA a0) λr1=>
 aA (λy2=>
 cond (y2)
 (some (r1,[],[]))
 (cond (a0.St !=3)
 (ob (Cp a0.T a1) λr5=>
 cond (r5.2==2)
 (ob (Dg a0) λr6=>
 cond (decide (([]:List UInt8).length+a0.Cn.length≤bA)) (let x7:List Ae:=[(⟨17,a0.Id,0,[]++a0.Cn,[],0,0,[],[],(⟨0,0⟩:Ai),0⟩:Ae)]
 cond (decide (([]:List Ae).length+x7.length≤bA)) (some (r6,[],[]++x7)) none) none)
 (aA (λ(y8:Bool)=>
 aA (λ(y10:(List Aa))=>
 aA (λ(y13:Bool)=>
 aA (λ(y15:(List Aa))=>
 some ((⟨r1.Id,r1.Psk,r1.At,r1.St,r1.Cn,r1.Fin,r1.C,r5.1,r1.R,r1.Last⟩:Ad),y15,[])) λk16=>
 cond (y13)
 (ob (nA a0.Fin) λr17=>
 cond (decide (y10.length+[r17].length≤bA)) (k16 (y10++[r17])) none)
 (k16 y10)) λk14=>
 cond (r5.2==1)
 (k14 (a0.St==2))
 (k14 false)) λk11=>
 cond (y8)
 (ob (Ez a0) λr12=>
 cond (decide (([]:List Aa).length+[r12].length≤bA)) (k11 ([]++[r12])) none)
 (k11 [])) λk9=>
 cond (r5.2==1)
 (k9 (a0.St==1))
 (k9 false)))
 (cond (decide ((wA .i64 a1 a0.Last)>60))
 (ob (Dg a0) λr18=>
 cond (decide (([]:List UInt8).length+a0.C.Sn.length≤bA)) (let x19:List Ae:=[(⟨11,a0.Id,0,[],[]++a0.C.Sn,0,0,[],[],(⟨0,0⟩:Ai),0⟩:Ae)]
 cond (decide (([]:List Ae).length+x19.length≤bA)) (some (r18,[],[]++x19)) none) none)
 (ob (Bv a0.C a1) λr20=>
 ob (Cp a0.R a1) λr21=>
 cond (r21.2==0)
 (some ((⟨r1.Id,r1.Psk,r1.At,r1.St,r1.Cn,r1.Fin,r20,r1.T,r1.R,r1.Last⟩:Ad),[],[]))
 (aA (λ(y22:Ad)=>
 ob (Fd y22.C) λr25=>
 aA (λ(y26:(List Aa)×(List Ae)×Ad)=>
 some (y26.2.2,y26.1,y26.2.1)) λk27=>
 cond (r25.2.2==0)
 (cond (decide (([]:List Aa).length+[r25.2.1].length≤bA)) (ob (Bo r25.1 r25.2.1) λr28=>
 cond (decide (([]:List Ae).length+[r28].length≤bA)) (k27 (([]++[r25.2.1]),([]++[r28]),(⟨y22.Id,y22.Psk,y22.At,y22.St,y22.Cn,y22.Fin,r25.1,y22.T,y22.R,y22.Last⟩:Ad))) none) none)
 (k27 ([],[],y22))) λk23=>
 cond (r21.2==2)
 (ob (Bf a1) λr24=>
 k23 (⟨r1.Id,r1.Psk,r1.At,r1.St,r1.Cn,r1.Fin,r20,r1.T,r24,r1.Last⟩:Ad))
 (k23 (⟨r1.Id,r1.Psk,r1.At,r1.St,r1.Cn,r1.Fin,r20,r1.T,r21.1,r1.Last⟩:Ad))))))) λk3=>
 ob (ID a0) λr4=>
 cond (!r4)
 (k3 true)
 (cond (!(eA a1 0 1000000))
 (k3 true)
 (k3 (a0.St==0)))
def Cd(a0:Ah):=
 ob (FD a0) λr1=>
 cond (!r1)
 (ob (nA a0) λr2=>
 some r2)
 (cond (decide (([]:List UInt8).length+a0.Cn.length≤bA)) (cond (decide (([]:List UInt8).length+a0.Sn.length≤bA)) (some (⟨a0.Id,[]++a0.Cn,[]++a0.Sn,(⟨0,[],(⟨0,[],0,(⟨0,[]⟩:Ap)⟩:Aw),(⟨0,[],0,(⟨0,[]⟩:Ap)⟩:Aw),false,0,[]⟩:Ak),(⟨(⟨0,0⟩:Ai),[]⟩:Aj),a0.Tick,0,true⟩:Ah)) none) none)
def Bw(a0:Aj)(a1:Int):=
 aA (λy1=>
 cond (y1)
 (ob (nA a0) λr3=>
 some r3)
 (aA (λ(y4:Aj)=>
 some y4) λk5=>
 qA FU (λ(x6:Int×Aj) k7=>
 cond (decide (x6.1<(a0.Cands.length:Int)))
 (ob (kA a0.Cands x6.1) λe8=>
 aA (λ(y9:Aj)=>
 k7 ((iA .i64 x6.1 1),y9)) λk10=>
 cond (decide (e8.Until≥a1))
 (ob (kA a0.Cands x6.1) λe11=>
 ob (qH e11) λr12=>
 cond (decide (x6.2.Cands.length+[r12].length≤bA)) (k10 (⟨x6.2.At,x6.2.Cands++[r12]⟩:Aj)) none)
 (k10 x6.2))
 (k5 x6.2)) (0,(⟨a0.At,[]⟩:Aj)))) λk2=>
 cond (!(qC a0))
 (k2 true)
 (k2 (!(eA a1 0 1000000)))
def Gr(a0:Ah)(a1:Int):=
 ob (nA a0) λr1=>
 aA (λy2=>
 cond (y2)
 (some r1)
 (cond (decide ((wA .i64 a1 a0.Last)>60))
 (ob (Cd a0) λr5=>
 some r5)
 (ob (Bv a0.C a1) λr6=>
 ob (Bw a0.P a1) λr7=>
 some (⟨r1.Id,r1.Cn,r1.Sn,r6,r7,r1.Tick,r1.Last,r1.Dead⟩:Ah)))) λk3=>
 ob (FD a0) λr4=>
 cond (!r4)
 (k3 true)
 (cond (a0.Dead)
 (k3 true)
 (k3 (!(eA a1 0 1000000))))
def Gs(a0:Ao)(a1:Int):=
 aA (λy1=>
 cond (y1)
 (ob (nA a0) λr4=>
 some r4)
 (aA (λ(y5:Ao)=>
 some y5) λk6=>
 qA FU (λ(x7:Int×Ao) k8=>
 cond (decide (x7.1<(a0.L.length:Int)))
 (ob (kA a0.L x7.1) λe9=>
 ob (Gr e9 a1) λr10=>
 aA (λ(y11:Bool)=>
 aA (λ(y13:Ao)=>
 k8 ((iA .i64 x7.1 1),y13)) λk14=>
 cond (y11)
 (cond (decide (x7.2.L.length+[r10].length≤bA)) (k14 (⟨x7.2.Cap,x7.2.L++[r10]⟩:Ao)) none)
 (k14 x7.2)) λk12=>
 cond (!r10.Dead)
 (k12 true)
 (k12 (decide ((wA .i64 a1 r10.Tick)≤10))))
 (k6 x7.2)) (0,(⟨a0.Cap,[]⟩:Ao)))) λk2=>
 ob (iG a0) λr3=>
 cond (!r3)
 (k2 true)
 (k2 (!(eA a1 0 1000000)))
def Fe(a0:Ah):=
 cond (decide (([]:List UInt8).length+a0.Sn.length≤bA)) (some (⟨11,a0.Id,1,[],[]++a0.Sn,0,0,[],[],(⟨0,0⟩:Ai),0⟩:Ae)) none
def Gt(a0:Ac)(a1:Int):=
 ob (nA a0) λr1=>
 aA (λy2=>
 cond (y2)
 (some (r1,[]))
 (ob (Gs a0.T a1) λr5=>
 aA (λ(y6:(List Ae))=>
 some ((⟨r1.Psks,r1.J,r1.D,r5,r1.Cr⟩:Ac),y6)) λk7=>
 qA FU (λ(x8:(List Ae)×Int) k9=>
 cond (decide (x8.2<(a0.T.L.length:Int)))
 (ob (kA a0.T.L x8.2) λe10=>
 ob (ED r5 e10.Sn) λr11=>
 aA (λ(y12:Bool)=>
 aA (λ(y16:(List Ae))=>
 k9 (y16,(iA .i64 x8.2 1))) λk17=>
 cond (y12)
 (ob (kA a0.T.L x8.2) λe18=>
 ob (Fe e18) λr19=>
 cond (decide (x8.1.length+[r19].length≤bA)) (k17 (x8.1++[r19])) none)
 (k17 x8.1)) λk13=>
 ob (kA a0.T.L x8.2) λe14=>
 cond (!e14.Dead)
 (cond (decide (r11<0))
 (k13 true)
 (cond (decide (0≤r11)&&decide (r11<(r5.L.length:Int))) (ob (r5.L[r11.toNat]?) λe15=>
 k13 e15.Dead) none))
 (k13 false))
 (k7 x8.1)) ([],0))) λk3=>
 ob (GC a0) λr4=>
 cond (!r4)
 (k3 true)
 (k3 (!(eA a1 0 1000000)))
def Ea(a0:Ab):Option ((List Am)×Ab):=
 aA (λ(y1:(List Am)×Ab)=>
 ob (Gt y1.2.S y1.2.Now) λr9=>
 cond (decide (y1.2.Notes.length+r9.2.length≤bA)) (some (y1.1,(⟨y1.2.Now,y1.2.Clients,r9.1,y1.2.D,y1.2.Seen,y1.2.Known,y1.2.Notes++r9.2⟩:Ab))) none) λk2=>
 qA FU (λ(x3:(List Am)×Int×Ab) k4=>
 cond (decide (x3.2.1<2))
 (cond (decide (0≤x3.2.1)&&decide (x3.2.1<(x3.2.2.Clients.length:Int))) (ob (x3.2.2.Clients[x3.2.1.toNat]?) λe5=>
 ob (Gq e5 x3.2.2.Now) λr6=>
 cond (decide (0≤x3.2.1)&&decide (x3.2.1<(x3.2.2.Clients.length:Int))) (ob (x3.2.2.Clients[x3.2.1.toNat]?) λe7=>
 cond (decide (x3.2.2.Notes.length+r6.2.2.length≤bA)) (ob (Dy r6.1 r6.2.1) λr8=>
 cond (decide (x3.1.length+r8.length≤bA)) (k4 ((x3.1++r8),(iA .i64 x3.2.1 1),(⟨x3.2.2.Now,List.set x3.2.2.Clients x3.2.1.toNat r6.1,x3.2.2.S,x3.2.2.D,x3.2.2.Seen,x3.2.2.Known,x3.2.2.Notes++r6.2.2⟩:Ab))) none) none) none) none)
 (k2 (x3.1,x3.2.2))) ([],0,(⟨iA .i64 a0.Now 1,a0.Clients,a0.S,a0.D,a0.Seen,a0.Known,a0.Notes⟩:Ab))
def Gu(a0:Ad)(a1:Ai):=
 ob (nA a0) λr1=>
 aA (λ(y2:Bool)=>
 aA (λ(y5:Ad)=>
 some y5) λk6=>
 cond (y2)
 (k6 (⟨r1.Id,r1.Psk,a1,r1.St,r1.Cn,r1.Fin,r1.C,r1.T,r1.R,r1.Last⟩:Ad))
 (k6 r1)) λk3=>
 ob (ID a0) λr4=>
 cond (r4)
 (k3 (MA a1))
 (k3 false)
def Ff(a0:Ak):=
 ob (nA a0) λr1=>
 aA (λy2=>
 cond (y2)
 (some (r1,false))
 (ob (GE a0.Cur.Key [114,101,107,101,121]) λr5=>
 some ((⟨r1.Role,r1.Sn,r1.Cur,r1.Old,r1.HasOld,r1.Until,r5⟩:Ak),true))) λk3=>
 ob (sC a0) λr4=>
 cond (!r4)
 (k3 true)
 (cond (a0.Role !=0)
 (k3 true)
 (cond (decide ((a0.Next.length:Int)>0))
 (k3 true)
 (k3 (a0.Cur.N==4294967295))))
def Gv(a0:Ad)(a1:Int):Option (Ad×(List Aa)×(List Ae)×Int):=
 ob (nA a0) λr1=>
 aA (λy2=>
 cond (y2)
 (some (r1,[],[],1))
 (aA (λy5=>
 cond (y5)
 (some (r1,[],[],6))
 (ob (Ff a0.C) λr7=>
 ob (Fd r7.1) λr8=>
 aA (λy9=>
 cond (y9)
 (some (r1,[],[],5))
 (ob (Bf a1) λr11=>
 ob (Bo r8.1 r8.2.1) λr12=>
 some ((⟨r1.Id,r1.Psk,r1.At,r1.St,r1.Cn,r1.Fin,r8.1,r1.T,r11,r1.Last⟩:Ad),[r8.2.1],[r12],0))) λk10=>
 cond (!r7.2)
 (k10 true)
 (k10 (r8.2.2 !=0)))) λk6=>
 cond (a0.St !=3)
 (k6 true)
 (k6 (decide ((a0.C.Next.length:Int)>0))))) λk3=>
 ob (ID a0) λr4=>
 cond (!r4)
 (k3 true)
 (k3 (!(eA a1 0 1000000)))
def Fg(a0:List Al)(a1:Ai)(a2:Int):=
 cond (decide (([]:List Al).length+a0.length≤bA)) (aA (λy1=>
 cond (y1)
 (some ([]++a0))
 (cond (decide ((qB a0 a1)<0))
 (cond ((a0.length:Int)==8)
 (some ([]++a0))
 (cond (decide (([]++a0).length+[(⟨a1,a2,0⟩:Al)].length≤bA)) (some (([]++a0)++[(⟨a1,a2,0⟩:Al)])) none))
 (cond (decide (0≤(qB a0 a1))&&decide ((qB a0 a1)<(([]++a0).length:Int))) (ob (([]++a0)[(qB a0 a1).toNat]?) λe3=>
 cond (decide (0≤(qB a0 a1))&&decide ((qB a0 a1)<(([]++a0).length:Int))) (ob (([]++a0)[(qB a0 a1).toNat]?) λe4=>
 let l5:List Al:=List.set ([]++a0) ((qB a0 a1).toNat) (⟨e4.A,iA .i64 e3.Got a2,e4.Sent⟩:Al)
 cond (decide (0≤(qB a0 a1))&&decide ((qB a0 a1)<(l5.length:Int))) (ob (l5[(qB a0 a1).toNat]?) λe6=>
 aA (λ(y7:(List Al))=>
 some y7) λk8=>
 cond (decide (e6.Got>1000000))
 (cond (decide (0≤(qB a0 a1))&&decide ((qB a0 a1)<(l5.length:Int))) (ob (l5[(qB a0 a1).toNat]?) λe9=>
 let l10:List Al:=List.set l5 ((qB a0 a1).toNat) (⟨e9.A,1000000,e9.Sent⟩:Al)
 k8 l10) none)
 (k8 l5)) none) none) none))) λk2=>
 cond (!(gD a0))
 (k2 true)
 (cond (!(MA a1))
 (k2 true)
 (k2 (!(eA a2 0 1000000))))) none
def Eb(a0:List UInt8):=
 cond ((a0.length:Int)==0)
 (some ((⟨0,0,[],[],0,[],[],0,0,[],[]⟩:Aa),false))
 (ob (kA a0 0) λe1=>
 let x2:Int:=IntKind.wrap .i64 ((e1.toNat:Nat):Int)
 aA (λ(y3:Aa×Aa)=>
 ob (Bj y3.2) λr28=>
 cond (Nat.ble r28.length bA) (cond (Nat.ble a0.length bA) (cond (!(r28==a0))
 (some ((⟨0,0,[],[],0,[],[],0,0,[],[]⟩:Aa),false))
 (some (y3.2,true))) none) none) λk4=>
 cond (x2==1)
 (cond ((a0.length:Int) !=34)
 (some ((⟨0,0,[],[],0,[],[],0,0,[],[]⟩:Aa),false))
 (ob (kA a0 1) λe5=>
 let x6:Int:=IntKind.wrap .i64 ((e5.toNat:Nat):Int)
 cond (decide (0≤(2:Int))&&decide ((2:Int)≤14)&&decide (14≤(a0.length:Int))) (let l7:List UInt8:=List.take 12 (List.drop 2 a0)
 cond (decide (([]:List UInt8).length+l7.length≤bA)) (k4 ((⟨0,0,[],[],0,[],[],0,0,[],[]⟩:Aa),(⟨x2,x6,[]++l7,[],0,[],[],0,0,[],[]⟩:Aa))) none) none))
 (aA (λ(y8:Aa×Aa)=>
 k4 (y8.1,y8.2)) λk9=>
 cond (x2==2)
 (cond ((a0.length:Int) !=45)
 (some ((⟨0,0,[],[],0,[],[],0,0,[],[]⟩:Aa),false))
 (cond (decide (0≤(1:Int))&&decide ((1:Int)≤13)&&decide (13≤(a0.length:Int))) (let l10:List UInt8:=List.take 12 (List.drop 1 a0)
 cond (decide (([]:List UInt8).length+l10.length≤bA)) (cond (decide (0≤(13:Int))&&decide ((13:Int)≤25)&&decide (25≤(a0.length:Int))) (let l11:List UInt8:=List.take 12 (List.drop 13 a0)
 cond (decide (([]:List UInt8).length+l11.length≤bA)) (ob (ZG a0 25 4) λr12=>
 cond (decide (0≤(29:Int))&&decide ((29:Int)≤(a0.length:Int))&&decide ((a0.length:Int)≤(a0.length:Int))) (let l13:List UInt8:=List.take (((a0.length:Int) - 29).toNat) (List.drop 29 a0)
 cond (decide (([]:List UInt8).length+l13.length≤bA)) (k9 ((⟨0,0,[],[],0,[],[],0,0,[],[]⟩:Aa),(⟨x2,0,[]++l10,[]++l11,r12.1,[]++l13,[],0,0,[],[]⟩:Aa))) none) none) none) none) none) none))
 (aA (λ(y14:Aa×Aa)=>
 k9 (y14.1,y14.2)) λk15=>
 cond (x2==3)
 (cond ((a0.length:Int) !=62)
 (some ((⟨0,0,[],[],0,[],[],0,0,[],[]⟩:Aa),false))
 (ob (kA a0 1) λe16=>
 let x17:Int:=IntKind.wrap .i64 ((e16.toNat:Nat):Int)
 cond (decide (0≤(2:Int))&&decide ((2:Int)≤14)&&decide (14≤(a0.length:Int))) (let l18:List UInt8:=List.take 12 (List.drop 2 a0)
 cond (decide (([]:List UInt8).length+l18.length≤bA)) (cond (decide (0≤(14:Int))&&decide ((14:Int)≤26)&&decide (26≤(a0.length:Int))) (let l19:List UInt8:=List.take 12 (List.drop 14 a0)
 cond (decide (([]:List UInt8).length+l19.length≤bA)) (ob (ZG a0 26 4) λr20=>
 cond (decide (0≤(30:Int))&&decide ((30:Int)≤46)&&decide (46≤(a0.length:Int))) (let l21:List UInt8:=List.take 16 (List.drop 30 a0)
 cond (decide (([]:List UInt8).length+l21.length≤bA)) (cond (decide (0≤(46:Int))&&decide ((46:Int)≤(a0.length:Int))&&decide ((a0.length:Int)≤(a0.length:Int))) (let l22:List UInt8:=List.take (((a0.length:Int) - 46).toNat) (List.drop 46 a0)
 cond (decide (([]:List UInt8).length+l22.length≤bA)) (k15 ((⟨0,0,[],[],0,[],[],0,0,[],[]⟩:Aa),(⟨x2,x17,[]++l18,[]++l19,r20.1,[]++l21,[]++l22,0,0,[],[]⟩:Aa))) none) none) none) none) none) none) none) none))
 (cond (decide ((a0.length:Int)<39))
 (some ((⟨0,0,[],[],0,[],[],0,0,[],[]⟩:Aa),false))
 (cond (decide (0≤(1:Int))&&decide ((1:Int)≤13)&&decide (13≤(a0.length:Int))) (let l23:List UInt8:=List.take 12 (List.drop 1 a0)
 cond (decide (([]:List UInt8).length+l23.length≤bA)) (ob (ZG a0 13 4) λr24=>
 ob (ZG a0 17 6) λr25=>
 cond (decide (0≤(23:Int))&&decide ((23:Int)≤39)&&decide (39≤(a0.length:Int))) (let l26:List UInt8:=List.take 16 (List.drop 23 a0)
 cond (decide (([]:List UInt8).length+l26.length≤bA)) (cond (decide (0≤(39:Int))&&decide ((39:Int)≤(a0.length:Int))&&decide ((a0.length:Int)≤(a0.length:Int))) (let l27:List UInt8:=List.take (((a0.length:Int) - 39).toNat) (List.drop 39 a0)
 cond (decide (([]:List UInt8).length+l27.length≤bA)) (k15 ((⟨0,0,[],[],0,[],[],0,0,[],[]⟩:Aa),(⟨x2,0,[],[]++l23,0,[],[],r24.1,r25.1,[]++l27,[]++l26⟩:Aa))) none) none) none) none) none) none)))))
def Dh(a0:Ao)(a1:Ai):=
 aA (λ(y1:Unit)=>
 some false) λk2=>
 qA FU (λ(x3:Int) k4=>
 cond (decide (x3<(a0.L.length:Int)))
 (aA (λy5=>
 cond (y5)
 (some true)
 (k4 (iA .i64 x3 1))) λk6=>
 ob (kA a0.L x3) λe7=>
 cond (!e7.Dead)
 (ob (kA a0.L x3) λe8=>
 let x9:Bool:=cond (e8.P.At.Host==a1.Host) (cond (e8.P.At.Port==a1.Port) (true) false) false
 k6 x9)
 (k6 false))
 (k2 ())) 0
def Bx(a0:List Al)(a1:Ai):=
 aA (λy1=>
 cond (y1)
 (some 0)
 (ob (kA a0 (qB a0 a1)) λe3=>
 ob (kA a0 (qB a0 a1)) λe4=>
 some (wA .i64 (YB .i64 3 e3.Got) e4.Sent))) λk2=>
 cond (!(gD a0))
 (k2 true)
 (k2 (decide ((qB a0 a1)<0)))
def Fh(a0:Ac)(a1:Ai)(a2:Int):=
 aA (λ(y1:Bool)=>
 some y1) λk2=>
 ob (Dh a0.T a1) λr3=>
 cond (r3)
 (k2 true)
 (ob (Bx a0.Cr a1) λr4=>
 k2 (decide (r4≥a2)))
def Gw(a0:List UInt8)(a1:Ai):=
 cond (!(MA a1))
 (cond (decide (([]:List UInt8).length+a0.length≤bA)) (some ([]++a0)) none)
 (ob (UB a0 a1.Host 4) λr1=>
 ob (UB r1 a1.Port 2) λr2=>
 some r2)
def Ec(a0:Ai)(a1:Int)(a2:List UInt8)(a3:List UInt8)(a4:Int):=
 aA (λy1=>
 cond (y1)
 (some [])
 (ob (Gw [UInt8.ofNat (99:Int).toNat] a0) λr3=>
 cond (decide (r3.length+[UInt8.ofNat (IntKind.wrap .u8 a1:Int).toNat].length≤bA)) (cond (decide ((r3++[UInt8.ofNat (IntKind.wrap .u8 a1:Int).toNat]).length+a2.length≤bA)) (let x4:List UInt8:=(r3++[UInt8.ofNat (IntKind.wrap .u8 a1:Int).toNat])++a2
 cond (decide (x4.length+a3.length≤bA)) (ob (UB (x4++a3) a4 4) λr5=>
 some r5) none) none) none)) λk2=>
 cond (!(MA a0))
 (k2 true)
 (cond (!(eA a1 1 9))
 (k2 true)
 (cond ((a2.length:Int) !=12)
 (k2 true)
 (cond ((a3.length:Int) !=12)
 (k2 true)
 (k2 (!(eA a4 0 1000000))))))
def Fi(a0:Ba)(a1:Ai)(a2:Int)(a3:List UInt8)(a4:List UInt8)(a5:Int):=
 ob (Ec a1 a2 a3 a4 a5) λr1=>
 aA (λy2=>
 cond (y2)
 (some [])
 (ob (Cm a0.Secret r1) λr4=>
 some r4)) λk3=>
 cond (!(dF a0))
 (k3 true)
 (k3 ((r1.length:Int)==0))
def Cq(a0:Int)(a1:Int):=
 aA (λ(y1:Bool)=>
 some y1) λk2=>
 cond ((eA a0 0 1000000))
 (cond ((eA a1 0 1000000))
 (k2 (eA (wA .i64 a0 a1) 0 10))
 (k2 false))
 (k2 false)
def Bp(a0:List UInt8)(a1:List UInt8):=
 cond ((a0.length:Int) !=(a1.length:Int))
 (some (-1))
 (aA (λ(y1:Int)=>
 some y1) λk2=>
 qA FU (λ(x3:Int×Int) k4=>
 cond (decide (x3.2<(a0.length:Int)))
 (ob (kA a0 x3.2) λe5=>
 ob (kA a1 x3.2) λe6=>
 let x7:Int:=CB .u8 ((e5.toNat:Nat):Int) ((e6.toNat:Nat):Int)
 k4 ((mK .i64 x3.1 (IntKind.wrap .i64 x7)),(iA .i64 x3.2 1)))
 (k2 x3.1)) (0,0))
def Bn(a0:List UInt8)(a1:List UInt8):=
 aA (λ(y1:Bool)=>
 some y1) λk2=>
 cond ((a0.length:Int)==16)
 (ob (Bp a0 a1) λr3=>
 k2 (r3==0))
 (k2 false)
def Gx(a0:Ba)(a1:Int)(a2:Ai)(a3:Aa):Option Int:=
 aA (λy1=>
 cond (y1)
 (some 1)
 (ob (Cq a1 a3.Tick) λr3=>
 cond (!r3)
 (some 9)
 (ob (Fi a0 a2 a3.Id a3.Cn a3.Sn a3.Tick) λr4=>
 ob (Bn a3.Cookie r4) λr5=>
 cond (!r5)
 (some 2)
 (some 0)))) λk2=>
 cond (!(dF a0))
 (k2 true)
 (cond (!(eA a1 0 1000000))
 (k2 true)
 (cond (!(MA a2))
 (k2 true)
 (cond (!(wB a3))
 (k2 true)
 (k2 (a3.Kind !=3)))))
def By(a0:List UInt8)(a1:List UInt8):=
 let r1:(List UInt8):=VC a0 a1
 some r1
def Bh(a0:List UInt8):=
 cond (!(CC a0))
 (some [])
 (let x1:List UInt8:=[UInt8.ofNat (114:Int).toNat,UInt8.ofNat (111:Int).toNat,UInt8.ofNat (97:Int).toNat,UInt8.ofNat (109:Int).toNat]
 ob (By x1 a0) λr2=>
 ob (GE r2 [102,105,110,105,115,104]) λr3=>
 some r3)
def Ed(a0:Int)(a1:List UInt8)(a2:List UInt8)(a3:Int)(a4:List UInt8):=
 aA (λy1=>
 cond (y1)
 (some [])
 (let x3:List UInt8:=[UInt8.ofNat (102:Int).toNat,UInt8.ofNat (IntKind.wrap .u8 a0:Int).toNat]
 cond (decide (x3.length+a1.length≤bA)) (cond (decide ((x3++a1).length+a2.length≤bA)) (ob (UB ((x3++a1)++a2) a3 4) λr4=>
 cond (decide (r4.length+a4.length≤bA)) (some (r4++a4)) none) none) none)) λk2=>
 cond (!(eA a0 1 9))
 (k2 true)
 (cond ((a1.length:Int) !=12)
 (k2 true)
 (cond ((a2.length:Int) !=12)
 (k2 true)
 (cond (!(eA a3 0 1000000))
 (k2 true)
 (k2 ((a4.length:Int) !=16)))))
def Fj(a0:List UInt8)(a1:Int)(a2:List UInt8)(a3:List UInt8)(a4:Int)(a5:List UInt8):=
 ob (Bh a0) λr1=>
 ob (Ed a1 a2 a3 a4 a5) λr2=>
 aA (λy3=>
 cond (y3)
 (some [])
 (ob (Cm r1 r2) λr5=>
 some r5)) λk4=>
 cond ((r1.length:Int)==0)
 (k4 true)
 (k4 ((r2.length:Int)==0))
def Gy(a0:List UInt8)(a1:Aa):=
 aA (λ(y1:Bool)=>
 some y1) λk2=>
 cond ((wB a1))
 (cond (a1.Kind==3)
 (ob (Fj a0 a1.Id a1.Cn a1.Sn a1.Tick a1.Cookie) λr3=>
 ob (Bn a1.Proof r3) λr4=>
 k2 r4)
 (k2 false))
 (k2 false)
def Gz(a0:List UInt8)(a1:List UInt8)(a2:List UInt8):=
 aA (λy1=>
 cond (y1)
 (some [])
 (cond (decide (([]:List UInt8).length+a1.length≤bA)) (cond (decide (([]++a1).length+a2.length≤bA)) (ob (By (([]++a1)++a2) a0) λr3=>
 some r3) none) none)) λk2=>
 cond (!(CC a0))
 (k2 true)
 (cond ((a1.length:Int) !=12)
 (k2 true)
 (k2 ((a2.length:Int) !=12)))
def Cs(a0:List UInt8):=
 cond ((a0.length:Int) !=32)
 (some [])
 (ob (GE a0 [101,112,111,99,104]) λr1=>
 some r1)
def Ha(a0:List UInt8)(a1:Int):=
 cond (!(eA a1 0 64))
 (some [])
 (cond (decide (([]:List UInt8).length+a0.length≤bA)) (aA (λ(y1:(List UInt8))=>
 some y1) λk2=>
 qA FU (λ(x3:(List UInt8)×Int) k4=>
 cond (decide (x3.2<a1))
 (ob (GE x3.1 [114,101,107,101,121]) λr5=>
 k4 (r5,(iA .i64 x3.2 1)))
 (k2 x3.1)) (([]++a0),0)) none)
def Fk(a0:List UInt8)(a1:List UInt8)(a2:List UInt8)(a3:Int):=
 ob (Gz a0 a1 a2) λr1=>
 ob (Cs r1) λr2=>
 cond ((r2.length:Int)==0)
 (some r2)
 (ob (Ha r2 a3) λr3=>
 some r3)
def Fl:=
 aA (λ(y1:Ap)=>
 some y1) λk2=>
 qA FU (λ(x3:Int×Ap) k4=>
 cond (decide (x3.1<32))
 (cond (decide (x3.2.Bits.length+[0].length≤bA)) (k4 ((iA .i64 x3.1 1),(⟨x3.2.Top,x3.2.Bits++[0]⟩:Ap))) none)
 (k2 x3.2)) (0,(⟨(-1),[]⟩:Ap))
def Bz(a0:Int)(a1:List UInt8):=
 aA (λy1=>
 cond (y1)
 (some (⟨0,[],0,(⟨0,[]⟩:Ap)⟩:Aw))
 (cond (decide (([]:List UInt8).length+a1.length≤bA)) (ob (Fl) λr3=>
 some (⟨a0,[]++a1,0,r3⟩:Aw)) none)) λk2=>
 cond (!(eA a0 0 4294967295))
 (k2 true)
 (k2 ((a1.length:Int) !=32))
def Ee(a0:Int)(a1:List UInt8)(a2:List UInt8):=
 aA (λy1=>
 cond (y1)
 (some (⟨0,[],(⟨0,[],0,(⟨0,[]⟩:Ap)⟩:Aw),(⟨0,[],0,(⟨0,[]⟩:Ap)⟩:Aw),false,0,[]⟩:Ak))
 (cond (decide (([]:List UInt8).length+a1.length≤bA)) (ob (Bz 0 a2) λr3=>
 some (⟨a0,[]++a1,r3,(⟨0,[],0,(⟨0,[]⟩:Ap)⟩:Aw),false,0,[]⟩:Ak)) none)) λk2=>
 cond (!(eA a0 0 1))
 (k2 true)
 (cond ((a1.length:Int) !=12)
 (k2 true)
 (k2 ((a2.length:Int) !=32)))
def Ce(a0:Ai):=
 some (⟨a0,[]⟩:Aj)
def Fm(a0:List UInt8)(a1:Int)(a2:Ai)(a3:Aa):=
 aA (λy1=>
 cond (y1)
 (some (⟨0,[],[],(⟨0,[],(⟨0,[],0,(⟨0,[]⟩:Ap)⟩:Aw),(⟨0,[],0,(⟨0,[]⟩:Ap)⟩:Aw),false,0,[]⟩:Ak),(⟨(⟨0,0⟩:Ai),[]⟩:Aj),0,0,false⟩:Ah))
 (cond (decide (([]:List UInt8).length+a3.Cn.length≤bA)) (cond (decide (([]:List UInt8).length+a3.Sn.length≤bA)) (ob (Fk a0 a3.Cn a3.Sn 0) λr3=>
 ob (Ee 1 a3.Sn r3) λr4=>
 ob (Ce a2) λr5=>
 some (⟨a3.Id,[]++a3.Cn,[]++a3.Sn,r4,r5,a3.Tick,a1,false⟩:Ah)) none) none)) λk2=>
 cond (!(CC a0))
 (k2 true)
 (cond (!(eA a1 0 1000000))
 (k2 true)
 (cond (!(MA a2))
 (k2 true)
 (cond (!(wB a3))
 (k2 true)
 (k2 (a3.Kind !=3)))))
def Bi(a0:Ao)(a1:Ah):Option (Ao×Int):=
 ob (nA a0) λr1=>
 aA (λy2=>
 cond (y2)
 (some (r1,1))
 (ob (ED a0 a1.Sn) λr6=>
 cond (decide (r6≥0))
 (some (r1,3))
 (aA (λy7=>
 cond (y7)
 (some (r1,7))
 (ob (nA a1) λr10=>
 cond (decide (r1.L.length+[r10].length≤bA)) (some ((⟨r1.Cap,r1.L++[r10]⟩:Ao),0)) none)) λk8=>
 ob (bJ a0) λr9=>
 cond (r9==a0.Cap)
 (k8 true)
 (k8 ((a0.L.length:Int)==12))))) λk3=>
 ob (iG a0) λr4=>
 cond (!r4)
 (k3 true)
 (ob (FD a1) λr5=>
 cond (!r5)
 (k3 true)
 (k3 a1.Dead))
def Di(a0:List UInt8)(a1:List UInt8)(a2:List UInt8):=
 cond (decide (([]:List UInt8).length+a0.length≤bA)) (cond (decide (([]:List UInt8).length+a1.length≤bA)) (cond (decide (([]:List UInt8).length+a2.length≤bA)) (some (⟨16,0,0,[],[]++a1,0,0,[]++a2,[]++a0,(⟨0,0⟩:Ai),0⟩:Ae)) none) none) none
def Fn(a0:Ak):Option (Ak×Aa×Int):=
 aA (λy1=>
 cond (y1)
 (ob (nA a0) λr4=>
 some (r4,(⟨0,0,[],[],0,[],[],0,0,[],[]⟩:Aa),6))
 (ob (Bk a0.Cur.N) λr5=>
 ob (Cc a0 8 r5) λr6=>
 some (r6.1,r6.2.1,r6.2.2))) λk2=>
 ob (sC a0) λr3=>
 cond (!r3)
 (k2 true)
 (k2 (a0.Role !=1))
def Hb(a0:Ah):Option (Ah×(List Au)×(List Ae)):=
 ob (nA a0) λr1=>
 aA (λy2=>
 cond (y2)
 (some (r1,[],[]))
 (ob (Fn a0.C) λr5=>
 cond (r5.2.2 !=0)
 (some (r1,[],[]))
 (ob (Bo r5.1 r5.2.1) λr6=>
 some ((⟨r1.Id,r1.Cn,r1.Sn,r5.1,r1.P,r1.Tick,r1.Last,r1.Dead⟩:Ah),[(⟨a0.P.At,r5.2.1⟩:Au)],[r6])))) λk3=>
 ob (FD a0) λr4=>
 cond (!r4)
 (k3 true)
 (cond (a0.Dead)
 (k3 true)
 (k3 (a0.C.Cur.N !=0)))
def Hc(a0:Int):=
 cond (decide (a0<1024))
 (some 0)
 (some (iA .i64 (wA .i64 a0 1024) 1))
def Bq(a0:Ap)(a1:Int):=
 aA (λy1=>
 cond (y1)
 (some false)
 (aA (λ(y3:Bool)=>
 some y3) λk4=>
 cond (decide (a1>a0.Top))
 (k4 true)
 (ob (Hc a0.Top) λr5=>
 cond (decide (a1≥r5))
 (ob (NF a0 a1) λr6=>
 k4 (!r6))
 (k4 false)))) λk2=>
 cond (!(bD a0))
 (k2 true)
 (k2 (!(eA a1 0 281474976710655)))
def Hd(a0:List UInt8)(a1:Int)(a2:Aa):=
 ob (Bu a1 a2) λr1=>
 aA (λy2=>
 cond (y2)
 (some ([],false))
 (ob (Cb a1 a2.Sn a2.Epoch a2.Seq) λr6=>
 ob (Dv a0 r6 a2.Body) λr7=>
 some (r7,true))) λk3=>
 cond ((a0.length:Int) !=32)
 (k3 true)
 (cond ((r1.length:Int)==0)
 (k3 true)
 (ob (Cm a0 r1) λr4=>
 ob (Bn a2.Tag r4) λr5=>
 k3 (!r5)))
def Cf(a0:Ap)(a1:Int):=
 ob (nA a0) λr1=>
 ob (Bq a0 a1) λr2=>
 cond (!r2)
 (some (r1,false))
 (aA (λ(y3:Ap)=>
 cond (decide (0≤PC .i64 (EA .i64 a1 1024) 32)&&decide (PC .i64 (EA .i64 a1 1024) 32<(y3.Bits.length:Int))) (ob (y3.Bits[(PC .i64 (EA .i64 a1 1024) 32).toNat]?) λe13=>
 cond (decide ((EA .i64 (EA .i64 a1 1024) 32)<0)) none (let x14:Int:=gJ .i64 1 (EA .i64 (EA .i64 a1 1024) 32)
 cond (decide (0≤PC .i64 (EA .i64 a1 1024) 32)&&decide (PC .i64 (EA .i64 a1 1024) 32<(y3.Bits.length:Int))) (ob (y3.Bits[(PC .i64 (EA .i64 a1 1024) 32).toNat]?) λe15=>
 let l16:List Int:=List.set y3.Bits ((PC .i64 (EA .i64 a1 1024) 32).toNat) (mK .i64 e13 x14)
 aA (λ(y17:Ap)=>
 some (y17,true)) λk18=>
 cond (decide (a1>a0.Top))
 (k18 (⟨a1,l16⟩:Ap))
 (k18 (⟨y3.Top,l16⟩:Ap))) none)) none) λk4=>
 qA FU (λ(x5:Int×Int×Ap) k6=>
 aA (λy7=>
 cond (y7)
 (cond (decide (0≤PC .i64 (EA .i64 x5.2.1 1024) 32)&&decide (PC .i64 (EA .i64 x5.2.1 1024) 32<(x5.2.2.Bits.length:Int))) (ob (x5.2.2.Bits[(PC .i64 (EA .i64 x5.2.1 1024) 32).toNat]?) λe9=>
 cond (decide ((EA .i64 (EA .i64 x5.2.1 1024) 32)<0)) none (let x10:Int:=gJ .i64 1 (EA .i64 (EA .i64 x5.2.1 1024) 32)
 cond (decide (0≤PC .i64 (EA .i64 x5.2.1 1024) 32)&&decide (PC .i64 (EA .i64 x5.2.1 1024) 32<(x5.2.2.Bits.length:Int))) (ob (x5.2.2.Bits[(PC .i64 (EA .i64 x5.2.1 1024) 32).toNat]?) λe11=>
 let l12:List Int:=List.set x5.2.2.Bits ((PC .i64 (EA .i64 x5.2.1 1024) 32).toNat) (zcG .i64 e9 x10)
 k6 ((iA .i64 x5.1 1),(iA .i64 x5.2.1 1),(⟨x5.2.2.Top,l12⟩:Ap))) none)) none)
 (k4 x5.2.2)) λk8=>
 cond (decide (x5.2.1≤a1))
 (k8 (decide (x5.1<1024)))
 (k8 false)) (0,(iA .i64 a0.Top 1),r1))
def Ct(a0:Aw)(a1:Int)(a2:Aa):Option (Aw×(List UInt8)×Int):=
 ob (nA a0) λr1=>
 aA (λy2=>
 cond (y2)
 (some (r1,[],1))
 (ob (Bq a0.Win a2.Seq) λr5=>
 cond (!r5)
 (some (r1,[],3))
 (ob (Hd a0.Key a1 a2) λr6=>
 cond (!r6.2)
 (some (r1,[],2))
 (ob (Cf a0.Win a2.Seq) λr7=>
 some ((⟨r1.N,r1.Key,r1.Seq,r7.1⟩:Aw),r6.1,0))))) λk3=>
 cond (!(cD a0))
 (k3 true)
 (ob (Bu a1 a2) λr4=>
 cond ((r4.length:Int)==0)
 (k3 true)
 (k3 (a2.Epoch !=a0.N)))
def Ef(a0:Ak)(a1:Int)(a2:Aa):Option (Ak×(List UInt8)×Int):=
 ob (nA a0) λr1=>
 aA (λy2=>
 cond (y2)
 (some (r1,[],1))
 (ob (BB a2.Sn a0.Sn) λr5=>
 cond (!r5)
 (some (r1,[],8))
 (cond (a2.Epoch==a0.Cur.N)
 (ob (Ct a0.Cur (wA .i64 1 a0.Role) a2) λr6=>
 cond (r6.2.2 !=0)
 (some (r1,[],r6.2.2))
 (aA (λ(y7:Bool)=>
 aA (λ(y9:Ak)=>
 some (y9,r6.2.1,0)) λk10=>
 cond (y7)
 (k10 (⟨r1.Role,r1.Sn,r6.1,r1.Old,r1.HasOld,iA .i64 a1 5,r1.Next⟩:Ak))
 (k10 (⟨r1.Role,r1.Sn,r6.1,r1.Old,r1.HasOld,r1.Until,r1.Next⟩:Ak))) λk8=>
 cond (a0.HasOld)
 (k8 (a0.Until==(-1)))
 (k8 false)))
 (aA (λy11=>
 cond (y11)
 (aA (λy13=>
 cond (y13)
 (some (r1,[],9))
 (ob (Ct a0.Old (wA .i64 1 a0.Role) a2) λr15=>
 cond (r15.2.2 !=0)
 (some (r1,[],r15.2.2))
 (some ((⟨r1.Role,r1.Sn,r1.Cur,r15.1,r1.HasOld,r1.Until,r1.Next⟩:Ak),r15.2.1,0)))) λk14=>
 cond (a0.Until !=(-1))
 (k14 (decide (a1>a0.Until)))
 (k14 false))
 (aA (λy16=>
 cond (y16)
 (ob (Bz (iA .i64 a0.Cur.N 1) a0.Next) λr18=>
 ob (Ct r18 (wA .i64 1 a0.Role) a2) λr19=>
 cond (r19.2.2 !=0)
 (some (r1,[],r19.2.2))
 (some ((⟨r1.Role,r1.Sn,r19.1,r1.Cur,true,iA .i64 a1 5,[]⟩:Ak),r19.2.1,0)))
 (some (r1,[],8))) λk17=>
 cond (decide ((a0.Next.length:Int)>0))
 (k17 (a2.Epoch==(iA .i64 a0.Cur.N 1)))
 (k17 false))) λk12=>
 cond (a0.HasOld)
 (k12 (a2.Epoch==a0.Old.N))
 (k12 false))))) λk3=>
 ob (sC a0) λr4=>
 cond (!r4)
 (k3 true)
 (cond (!(eA a1 0 1000000))
 (k3 true)
 (cond (!(wB a2))
 (k3 true)
 (k3 (!(gC a2.Kind)))))
def Fo(a0:Ak)(a1:Int):=
 ob (sC a0) λr1=>
 cond (!r1)
 (some ([],false))
 (aA (λy2=>
 cond (y2)
 (cond (decide (([]:List UInt8).length+a0.Old.Key.length≤bA)) (some ([]++a0.Old.Key,true)) none)
 (cond (a1==a0.Cur.N)
 (cond (decide (([]:List UInt8).length+a0.Cur.Key.length≤bA)) (some ([]++a0.Cur.Key,true)) none)
 (aA (λy4=>
 cond (y4)
 (cond (decide (([]:List UInt8).length+a0.Next.length≤bA)) (some ([]++a0.Next,true)) none)
 (some ([],false))) λk5=>
 cond (decide ((a0.Next.length:Int)>0))
 (k5 (a1==(iA .i64 a0.Cur.N 1)))
 (k5 false)))) λk3=>
 cond (a0.HasOld)
 (k3 (a1==a0.Old.N))
 (k3 false))
def Fp(a0:Aj)(a1:Int)(a2:Ai)(a3:List UInt8):=
 ob (pM a0 a2) λr1=>
 aA (λy2=>
 cond (y2)
 (ob (nA a0) λr5=>
 some (r5,false))
 (aA (λ(y6:Aj)=>
 some (y6,true)) λk7=>
 qA FU (λ(x8:Int×Aj) k9=>
 cond (decide (x8.1<(a0.Cands.length:Int)))
 (ob (kA a0.Cands x8.1) λe10=>
 let x11:Bool:=!(cond (e10.A.Host==a2.Host) (cond (e10.A.Port==a2.Port) (true) false) false)
 aA (λ(y12:Aj)=>
 k9 ((iA .i64 x8.1 1),y12)) λk13=>
 cond (x11)
 (ob (kA a0.Cands x8.1) λe14=>
 ob (qH e14) λr15=>
 cond (decide (x8.2.Cands.length+[r15].length≤bA)) (k13 (⟨x8.2.At,x8.2.Cands++[r15]⟩:Aj)) none)
 (k13 x8.2))
 (k7 x8.2)) (0,(⟨a2,[]⟩:Aj)))) λk3=>
 cond (!r1.2)
 (k3 true)
 (cond (!(eA a1 0 1000000))
 (k3 true)
 (ob (BB r1.1.Draw a3) λr4=>
 cond (!r4)
 (k3 true)
 (k3 (decide (a1>r1.1.Until)))))
def He(a0:Ak):=
 ob (nA a0) λr1=>
 aA (λy2=>
 cond (y2)
 (some (r1,false))
 (ob (GE a0.Cur.Key [114,101,107,101,121]) λr5=>
 ob (Bz (iA .i64 a0.Cur.N 1) r5) λr6=>
 some ((⟨r1.Role,r1.Sn,r6,r1.Cur,true,(-1),r1.Next⟩:Ak),true))) λk3=>
 ob (sC a0) λr4=>
 cond (!r4)
 (k3 true)
 (cond (a0.Role !=1)
 (k3 true)
 (k3 (a0.Cur.N==4294967295)))
def Hf(a0:Ak)(a1:Int)(a2:List UInt8):Option (Ak×Int):=
 ob (nA a0) λr1=>
 aA (λy2=>
 cond (y2)
 (some (r1,6))
 (cond (a1==a0.Cur.N)
 (ob (He a0) λr7=>
 cond (!r7.2)
 (some (r1,6))
 (some (r7.1,0)))
 (cond (a1==(wA .i64 a0.Cur.N 1))
 (some (r1,0))
 (some (r1,6))))) λk3=>
 ob (sC a0) λr4=>
 cond (!r4)
 (k3 true)
 (cond (a0.Role !=1)
 (k3 true)
 (cond (!(eA a1 0 4294967294))
 (k3 true)
 (ob (Bk (iA .i64 a1 1)) λr5=>
 ob (BB a2 r5) λr6=>
 k3 (!r6))))
def Eg(a0:Aj)(a1:Int)(a2:Ai)(a3:List UInt8):=
 aA (λy1=>
 cond (y1)
 (ob (nA a0) λr4=>
 some (r4,false))
 (ob (Bw a0 a1) λr5=>
 aA (λ(y6:Aj)=>
 cond ((r5.Cands.length:Int)==3)
 (ob (nA a0) λr13=>
 some (r13,false))
 (cond (decide (([]:List UInt8).length+a3.length≤bA)) (cond (decide (r5.Cands.length+[(⟨a2,[]++a3,iA .i64 a1 6⟩:Az)].length≤bA)) (some ((⟨r5.At,r5.Cands++[(⟨a2,[]++a3,iA .i64 a1 6⟩:Az)]⟩:Aj),true)) none) none)) λk7=>
 qA FU (λ(x8:Int×Aj) k9=>
 cond (decide (x8.1<(r5.Cands.length:Int)))
 (cond (decide (0≤x8.1)&&decide (x8.1<(r5.Cands.length:Int))) (ob (r5.Cands[x8.1.toNat]?) λe10=>
 let x11:Bool:=cond (e10.A.Host==a2.Host) (cond (e10.A.Port==a2.Port) (true) false) false
 cond (x11)
 (ob (nA a0) λr12=>
 some (r12,false))
 (k9 ((iA .i64 x8.1 1),x8.2))) none)
 (k7 x8.2)) (0,(⟨(⟨0,0⟩:Ai),[]⟩:Aj)))) λk2=>
 cond (!(qC a0))
 (k2 true)
 (cond (!(eA a1 0 1000000))
 (k2 true)
 (cond (!(MA a2))
 (k2 true)
 (cond ((a3.length:Int) !=12)
 (k2 true)
 (let x3:Bool:=cond (a2.Host==a0.At.Host) (cond (a2.Port==a0.At.Port) (true) false) false
 k2 x3))))
def Hg(a0:Ah)(a1:Int)(a2:Ai)(a3:Aa)(a4:List UInt8):Option (Ah×(List Au)×(List Ae)×Bool):=
 ob (nA a0) λr1=>
 aA (λy2=>
 cond (y2)
 (some (r1,[],[],false))
 (ob (Ef a0.C a1 a3) λr5=>
 cond (r5.2.2 !=0)
 (some (r1,[],[],false))
 (ob (Fo a0.C a3.Epoch) λr6=>
 ob (Bu 0 a3) λr7=>
 ob (Di r6.1 a0.Sn r7) λr8=>
 cond (decide (([]:List Ae).length+[r8].length≤bA)) (aA (λ(y9:(List Au)×(List Ae)×Ah)=>
 ob (Eg y9.2.2.P a1 a2 a4) λr30=>
 ob (Cc y9.2.2.C 5 a4) λr31=>
 aA (λy32=>
 cond (y32)
 (some (y9.2.2,y9.1,y9.2.1,false))
 (cond (decide (y9.1.length+[(⟨a2,r31.2.1⟩:Au)].length≤bA)) (ob (Bo r31.1 r31.2.1) λr34=>
 cond (decide (y9.2.1.length+[r34].length≤bA)) (some ((⟨y9.2.2.Id,y9.2.2.Cn,y9.2.2.Sn,r31.1,r30.1,y9.2.2.Tick,y9.2.2.Last,y9.2.2.Dead⟩:Ah),y9.1++[(⟨a2,r31.2.1⟩:Au)],y9.2.1++[r34],true)) none) none)) λk33=>
 cond (!r30.2)
 (k33 true)
 (k33 (r31.2.2 !=0))) λk10=>
 cond (a3.Kind==4)
 (cond (decide (([]:List UInt8).length+a0.Sn.length≤bA)) (cond (decide (([]:List UInt8).length+r5.2.1.length≤bA)) (let x11:List Ae:=[(⟨6,0,0,[],[]++a0.Sn,a3.Epoch,a3.Seq,[]++r5.2.1,[],(⟨0,0⟩:Ai),a1⟩:Ae)]
 cond (decide (([]++[r8]).length+x11.length≤bA)) (k10 ([],(([]++[r8])++x11),(⟨r1.Id,r1.Cn,r1.Sn,r5.1,r1.P,r1.Tick,a1,r1.Dead⟩:Ah))) none) none) none)
 (aA (λ(y12:(List Au)×(List Ae)×Ah)=>
 k10 (y12.1,y12.2.1,y12.2.2)) λk13=>
 cond (a3.Kind==6)
 (ob (Fp r1.P a1 a2 r5.2.1) λr14=>
 aA (λ(y15:(List Ae)×Ah)=>
 k13 ([],y15.1,y15.2)) λk16=>
 cond (r14.2)
 (cond (decide (([]:List UInt8).length+a0.Sn.length≤bA)) (cond (decide (([]:List UInt8).length+r5.2.1.length≤bA)) (let x17:List Ae:=[(⟨9,0,0,[],[]++a0.Sn,0,0,[]++r5.2.1,[],a2,a1⟩:Ae)]
 cond (decide (([]++[r8]).length+x17.length≤bA)) (k16 ((([]++[r8])++x17),(⟨r1.Id,r1.Cn,r1.Sn,r5.1,r14.1,r1.Tick,a1,r1.Dead⟩:Ah))) none) none) none)
 (k16 (([]++[r8]),(⟨r1.Id,r1.Cn,r1.Sn,r5.1,r1.P,r1.Tick,a1,r1.Dead⟩:Ah))))
 (aA (λ(y18:(List Au)×(List Ae)×Ah)=>
 k13 (y18.1,y18.2.1,y18.2.2)) λk19=>
 cond (a3.Kind==7)
 (ob (Hf r5.1 a3.Epoch r5.2.1) λr20=>
 aA (λ(y21:(List Au)×(List Ae)×Ah)=>
 k19 (y21.1,y21.2.1,y21.2.2)) λk22=>
 cond (r20.2==0)
 (aA (λ(y23:(List Ae))=>
 ob (Fn r20.1) λr26=>
 aA (λ(y27:(List Au)×(List Ae)×Ah)=>
 k22 (y27.1,y27.2.1,y27.2.2)) λk28=>
 cond (r26.2.2==0)
 (cond (decide (([]:List Au).length+[(⟨r1.P.At,r26.2.1⟩:Au)].length≤bA)) (ob (Bo r26.1 r26.2.1) λr29=>
 cond (decide (y23.length+[r29].length≤bA)) (k28 (([]++[(⟨r1.P.At,r26.2.1⟩:Au)]),(y23++[r29]),(⟨r1.Id,r1.Cn,r1.Sn,r26.1,r1.P,r1.Tick,a1,r1.Dead⟩:Ah))) none) none)
 (k28 ([],y23,(⟨r1.Id,r1.Cn,r1.Sn,r20.1,r1.P,r1.Tick,a1,r1.Dead⟩:Ah)))) λk24=>
 cond (r20.1.Cur.N !=r5.1.Cur.N)
 (cond (decide (([]:List UInt8).length+a0.Sn.length≤bA)) (cond (decide (([]:List UInt8).length+r20.1.Cur.Key.length≤bA)) (let x25:List Ae:=[(⟨10,0,1,[],[]++a0.Sn,r20.1.Cur.N,0,[],[]++r20.1.Cur.Key,(⟨0,0⟩:Ai),0⟩:Ae)]
 cond (decide (([]++[r8]).length+x25.length≤bA)) (k24 (([]++[r8])++x25)) none) none) none)
 (k24 ([]++[r8])))
 (k22 ([],([]++[r8]),(⟨r1.Id,r1.Cn,r1.Sn,r5.1,r1.P,r1.Tick,a1,r1.Dead⟩:Ah))))
 (k19 ([],([]++[r8]),(⟨r1.Id,r1.Cn,r1.Sn,r5.1,r1.P,r1.Tick,a1,r1.Dead⟩:Ah)))))) none))) λk3=>
 ob (FD a0) λr4=>
 cond (!r4)
 (k3 true)
 (cond (a0.Dead)
 (k3 true)
 (k3 (!(MA a2))))
def Eh(a0:Aa):=
 ob (Bj a0) λr1=>
 some (r1.length:Int)
def Dj(a0:List Al)(a1:Ai)(a2:Int):=
 cond (decide (([]:List Al).length+a0.length≤bA)) (aA (λy1=>
 cond (y1)
 (some ([]++a0,false))
 (cond (decide (0≤(qB a0 a1))&&decide ((qB a0 a1)<(([]++a0).length:Int))) (ob (([]++a0)[(qB a0 a1).toNat]?) λe4=>
 cond (decide (0≤(qB a0 a1))&&decide ((qB a0 a1)<(([]++a0).length:Int))) (ob (([]++a0)[(qB a0 a1).toNat]?) λe5=>
 let l6:List Al:=List.set ([]++a0) ((qB a0 a1).toNat) (⟨e5.A,e5.Got,iA .i64 e4.Sent a2⟩:Al)
 some (l6,true)) none) none)) λk2=>
 cond (decide ((qB a0 a1)<0))
 (k2 true)
 (cond (!(gD a0))
 (k2 true)
 (ob (Bx a0 a1) λr3=>
 k2 (!(eA a2 0 r3))))) none
def Hh(a0:Ac)(a1:List Au):=
 aA (λ(y1:(List Au)×Ac)=>
 some (y1.1,y1.2)) λk2=>
 qA FU (λ(x3:(List Au)×Int×Ac) k4=>
 cond (decide (x3.2.1<(a1.length:Int)))
 (aA (λ(y5:(List Au)×Ac)=>
 k4 (y5.1,(iA .i64 x3.2.1 1),y5.2)) λk6=>
 ob (kA a1 x3.2.1) λe7=>
 ob (Dh x3.2.2.T e7.To) λr8=>
 aA (λ(y9:Ac)=>
 ob (kA a1 x3.2.1) λe15=>
 cond (decide (x3.1.length+[e15].length≤bA)) (k6 ((x3.1++[e15]),y9)) none) λk10=>
 cond (!r8)
 (ob (kA a1 x3.2.1) λe11=>
 ob (kA a1 x3.2.1) λe12=>
 ob (Eh e12.F) λr13=>
 ob (Dj x3.2.2.Cr e11.To r13) λr14=>
 cond (!r14.2)
 (k6 (x3.1,x3.2.2))
 (k10 (⟨x3.2.2.Psks,x3.2.2.J,x3.2.2.D,x3.2.2.T,r14.1⟩:Ac)))
 (k10 x3.2.2))
 (k2 (x3.1,x3.2.2))) ([],0,a0)
def Hi(a0:Ac)(a1:Int)(a2:Ai)(a3:List UInt8):Option (Ac×(List Au)×(List Ae)):=
 ob (nA a0) λr1=>
 aA (λy2=>
 cond (y2)
 (some (r1,[],[]))
 (ob (Fg a0.Cr a2 (a3.length:Int)) λr5=>
 ob (Eb a3) λr6=>
 cond (!r6.2)
 (some ((⟨r1.Psks,r1.J,r1.D,r1.T,r5⟩:Ac),[],[]))
 (aA (λ(y7:(List Au)×(List Ae)×Ac×Ac)=>
 ob (Hh y7.2.2.1 y7.1) λr65=>
 some (r65.2,r65.1,y7.2.1)) λk8=>
 cond (r6.1.Kind==1)
 (aA (λy9=>
 cond (y9)
 (some ((⟨r1.Psks,r1.J,r1.D,r1.T,r5⟩:Ac),[],[]))
 (ob (zE a0.D) λr12=>
 cond (decide (([]:List UInt8).length+r6.1.Cn.length≤bA)) (ob (Fi a0.J a2 r6.1.Id r6.1.Cn r12.2 a1) λr13=>
 ob (vE r12.2) λr14=>
 ob (Ec a2 r6.1.Id r6.1.Cn r12.2 a1) λr15=>
 ob (Dz a0.J.Secret r15) λr16=>
 cond (decide (([]:List Ae).length+[r14,r16].length≤bA)) (let x17:List Au:=[(⟨a2,(⟨2,0,[]++r6.1.Cn,r12.2,a1,r13,[],0,0,[],[]⟩:Aa)⟩:Au)]
 cond (decide (([]:List Au).length+x17.length≤bA)) (k8 (([]++x17),([]++[r14,r16]),(⟨r1.Psks,r1.J,r12.1,r1.T,r5⟩:Ac),(⟨[],(⟨[]⟩:Ba),(⟨[],0⟩:Ax),(⟨0,[]⟩:Ao),[]⟩:Ac))) none) none) none)) λk10=>
 cond (decide (r6.1.Id>(a0.Psks.length:Int)))
 (k10 true)
 (ob (Fh (⟨r1.Psks,r1.J,r1.D,r1.T,r5⟩:Ac) a2 45) λr11=>
 cond (!r11)
 (k10 true)
 (k10 (a0.D.N==10000))))
 (aA (λ(y18:(List Au)×(List Ae)×Ac×Ac)=>
 k8 (y18.1,y18.2.1,y18.2.2.2,y18.2.2.1)) λk19=>
 cond (r6.1.Kind==3)
 (aA (λy20=>
 cond (y20)
 (some ((⟨r1.Psks,r1.J,r1.D,r1.T,r5⟩:Ac),[],[]))
 (ob (ED a0.T r6.1.Sn) λr25=>
 aA (λ(y26:(List Ae)×Int×Ac×Ac)=>
 cond (decide (0≤y26.2.1)&&decide (y26.2.1<(y26.2.2.2.T.L.length:Int))) (ob (y26.2.2.2.T.L[y26.2.1.toNat]?) λe38=>
 aA (λ(y39:Bool)=>
 aA (λ(y42:(List Au)×(List Ae)×Ac)=>
 k19 (y42.1,y42.2.1,y26.2.2.1,y42.2.2)) λk43=>
 cond (y39)
 (ob (Hb e38) λr44=>
 cond (decide (0≤y26.2.1)&&decide (y26.2.1<(y26.2.2.2.T.L.length:Int))) (ob (y26.2.2.2.T.L[y26.2.1.toNat]?) λe45=>
 cond (decide (([]:List Au).length+r44.2.1.length≤bA)) (cond (decide (y26.1.length+r44.2.2.length≤bA)) (k43 (([]++r44.2.1),(y26.1++r44.2.2),(⟨y26.2.2.2.Psks,y26.2.2.2.J,y26.2.2.2.D,(⟨y26.2.2.2.T.Cap,List.set y26.2.2.2.T.L y26.2.1.toNat r44.1⟩:Ao),y26.2.2.2.Cr⟩:Ac))) none) none) none)
 (k43 ([],y26.1,y26.2.2.2))) λk40=>
 cond (!e38.Dead)
 (cond (e38.Id==r6.1.Id)
 (ob (BB e38.Cn r6.1.Cn) λr41=>
 k40 r41)
 (k40 false))
 (k40 false)) none) λk27=>
 cond (decide (r25<0))
 (ob (kA a0.Psks (wA .i64 r6.1.Id 1)) λe28=>
 ob (Fm e28 a1 a2 r6.1) λr29=>
 ob (Bi a0.T r29) λr30=>
 cond (r30.2 !=0)
 (some ((⟨r1.Psks,r1.J,r1.D,r1.T,r5⟩:Ac),[],[]))
 (ob (Ec a2 r6.1.Id r6.1.Cn r6.1.Sn r6.1.Tick) λr31=>
 ob (Di a0.J.Secret r6.1.Sn r31) λr32=>
 cond (decide (([]:List Ae).length+[r32].length≤bA)) (ob (kA a0.Psks (wA .i64 r6.1.Id 1)) λe33=>
 ob (Bh e33) λr34=>
 ob (Ed r6.1.Id r6.1.Cn r6.1.Sn r6.1.Tick r6.1.Cookie) λr35=>
 ob (Di r34 r6.1.Sn r35) λr36=>
 cond (decide (([]++[r32]).length+[r36].length≤bA)) (cond (decide (([]:List UInt8).length+r6.1.Cn.length≤bA)) (cond (decide (([]:List UInt8).length+r6.1.Sn.length≤bA)) (cond (decide (([]:List UInt8).length+r29.C.Cur.Key.length≤bA)) (let x37:List Ae:=[(⟨4,r6.1.Id,0,[]++r6.1.Cn,[]++r6.1.Sn,0,0,[],[]++r29.C.Cur.Key,a2,a1⟩:Ae)]
 cond (decide ((([]++[r32])++[r36]).length+x37.length≤bA)) (k27 (((([]++[r32])++[r36])++x37),(wA .i64 (r30.1.L.length:Int) 1),(⟨[],(⟨[]⟩:Ba),(⟨[],0⟩:Ax),(⟨0,[]⟩:Ao),[]⟩:Ac),(⟨r1.Psks,r1.J,r1.D,r30.1,r5⟩:Ac))) none) none) none) none) none) none))
 (k27 ([],r25,(⟨[],(⟨[]⟩:Ba),(⟨[],0⟩:Ax),(⟨0,[]⟩:Ao),[]⟩:Ac),(⟨r1.Psks,r1.J,r1.D,r1.T,r5⟩:Ac))))) λk21=>
 ob (Gx a0.J a1 a2 r6.1) λr22=>
 cond (r22 !=0)
 (k21 true)
 (cond (decide (r6.1.Id>(a0.Psks.length:Int)))
 (k21 true)
 (ob (kA a0.Psks (wA .i64 r6.1.Id 1)) λe23=>
 ob (Gy e23 r6.1) λr24=>
 k21 (!r24))))
 (aA (λ(y46:(List Au)×(List Ae)×Ac×Ac)=>
 k19 (y46.1,y46.2.1,y46.2.2.1,y46.2.2.2)) λk47=>
 cond ((gC r6.1.Kind))
 (ob (ED a0.T r6.1.Sn) λr48=>
 aA (λy49=>
 cond (y49)
 (some ((⟨r1.Psks,r1.J,r1.D,r1.T,r5⟩:Ac),[],[]))
 (ob (zE a0.D) λr52=>
 ob (Fh (⟨r1.Psks,r1.J,r1.D,r1.T,r5⟩:Ac) a2 51) λr53=>
 aA (λ(y54:(List UInt8))=>
 ob (kA a0.T.L r48) λe56=>
 ob (Hg e56 a1 a2 r6.1 y54) λr57=>
 cond (decide (0≤r48)&&decide (r48<(r1.T.L.length:Int))) (ob (r1.T.L[r48.toNat]?) λe58=>
 cond (decide (([]:List Au).length+r57.2.1.length≤bA)) (aA (λ(y59:(List Ae)×Ac)=>
 cond (decide (y59.1.length+r57.2.2.1.length≤bA)) (aA (λ(y62:(List Ae))=>
 k47 (([]++r57.2.1),y62,(⟨[],(⟨[]⟩:Ba),(⟨[],0⟩:Ax),(⟨0,[]⟩:Ao),[]⟩:Ac),y59.2)) λk63=>
 cond (r57.2.2.2)
 (cond (decide (([]:List UInt8).length+r6.1.Sn.length≤bA)) (cond (decide (([]:List UInt8).length+y54.length≤bA)) (let x64:List Ae:=[(⟨7,0,0,[],[]++r6.1.Sn,0,0,[]++y54,[],a2,a1⟩:Ae)]
 cond (decide ((y59.1++r57.2.2.1).length+x64.length≤bA)) (k63 ((y59.1++r57.2.2.1)++x64)) none) none) none)
 (k63 (y59.1++r57.2.2.1))) none) λk60=>
 cond (r57.2.2.2)
 (ob (vE y54) λr61=>
 cond (decide (([]:List Ae).length+[r61].length≤bA)) (k60 (([]++[r61]),(⟨r1.Psks,r1.J,r52.1,(⟨r1.T.Cap,List.set r1.T.L r48.toNat r57.1⟩:Ao),r5⟩:Ac))) none)
 (k60 ([],(⟨r1.Psks,r1.J,r1.D,(⟨r1.T.Cap,List.set r1.T.L r48.toNat r57.1⟩:Ao),r5⟩:Ac)))) none) none) λk55=>
 cond (!r53)
 (k55 [])
 (k55 r52.2))) λk50=>
 cond (decide (r48<0))
 (k50 true)
 (ob (kA a0.T.L r48) λe51=>
 k50 e51.Dead))
 (k47 ([],[],(⟨[],(⟨[]⟩:Ba),(⟨[],0⟩:Ax),(⟨0,[]⟩:Ao),[]⟩:Ac),(⟨r1.Psks,r1.J,r1.D,r1.T,r5⟩:Ac)))))))) λk3=>
 ob (GC a0) λr4=>
 cond (!r4)
 (k3 true)
 (cond (!(eA a1 0 1000000))
 (k3 true)
 (k3 (!(MA a2))))
def Fq(a0:List UInt8)(a1:Int)(a2:Aa):=
 aA (λy1=>
 cond (y1)
 (some ((⟨0,0,[],[],0,[],[],0,0,[],[]⟩:Aa),false))
 (ob (Fj a0 a1 a2.Cn a2.Sn a2.Tick a2.Cookie) λr3=>
 cond ((r3.length:Int)==0)
 (some ((⟨0,0,[],[],0,[],[],0,0,[],[]⟩:Aa),false))
 (ob (nA a2) λr4=>
 some ((⟨3,a1,r4.Cn,r4.Sn,r4.Tick,r4.Cookie,r3,r4.Epoch,r4.Seq,r4.Body,r4.Tag⟩:Aa),true)))) λk2=>
 cond (!(wB a2))
 (k2 true)
 (k2 (a2.Kind !=2))
def Ei(a0:Ad)(a1:Int)(a2:Aa):Option (Ad×(List Aa)×(List Ae)):=
 ob (nA a0) λr1=>
 aA (λy2=>
 cond (y2)
 (some (r1,[],[]))
 (aA (λy5=>
 cond (y5)
 (ob (Fq a0.Psk a0.Id a2) λr8=>
 ob (Fk a0.Psk a0.Cn a2.Sn 0) λr9=>
 ob (Ee 0 a2.Sn r9) λr10=>
 ob (Bf a1) λr11=>
 cond (decide (([]:List UInt8).length+a0.Cn.length≤bA)) (cond (decide (([]:List UInt8).length+a2.Sn.length≤bA)) (let x12:List Ae:=[(⟨2,a0.Id,0,[]++a0.Cn,[]++a2.Sn,0,0,[],[],(⟨0,0⟩:Ai),a1⟩:Ae)]
 cond (decide (([]:List Ae).length+x12.length≤bA)) (ob (Bh a0.Psk) λr13=>
 ob (Ed r8.1.Id r8.1.Cn r8.1.Sn r8.1.Tick r8.1.Cookie) λr14=>
 ob (Dz r13 r14) λr15=>
 cond (decide (([]++x12).length+[r15].length≤bA)) (ob (nA r8.1) λr16=>
 cond (decide (([]:List Aa).length+[r16].length≤bA)) (some ((⟨r1.Id,r1.Psk,r1.At,2,r1.Cn,r8.1,r10,r11,r1.R,r1.Last⟩:Ad),[]++[r16],([]++x12)++[r15])) none) none) none) none) none)
 (aA (λy17=>
 cond (y17)
 (some (r1,[],[]))
 (ob (Ef a0.C a1 a2) λr19=>
 cond (r19.2.2 !=0)
 (some (r1,[],[]))
 (ob (Fo a0.C a2.Epoch) λr20=>
 ob (Bu 1 a2) λr21=>
 ob (Di r20.1 a2.Sn r21) λr22=>
 cond (decide (([]:List Ae).length+[r22].length≤bA)) (aA (λ(y23:(List Ae)×Ad)=>
 aA (λ(y26:(List Ae)×Ad)=>
 aA (λ(y29:(List Ae))=>
 aA (λ(y32:(List Aa)×(List Ae)×Ad)=>
 some (y32.2.2,y32.1,y32.2.1)) λk33=>
 cond (a2.Kind==5)
 (ob (Cc r19.1 6 r19.2.1) λr34=>
 aA (λ(y35:(List Aa)×(List Ae)×Ad)=>
 k33 (y35.1,y35.2.1,y35.2.2)) λk36=>
 cond (r34.2.2==0)
 (cond (decide (([]:List Aa).length+[r34.2.1].length≤bA)) (ob (Bo r34.1 r34.2.1) λr37=>
 cond (decide (y29.length+[r37].length≤bA)) (cond (decide (([]:List UInt8).length+a2.Sn.length≤bA)) (cond (decide (([]:List UInt8).length+r19.2.1.length≤bA)) (let x38:List Ae:=[(⟨8,0,0,[],[]++a2.Sn,r34.2.1.Epoch,0,[]++r19.2.1,[],(⟨0,0⟩:Ai),0⟩:Ae)]
 cond (decide ((y29++[r37]).length+x38.length≤bA)) (k36 (([]++[r34.2.1]),((y29++[r37])++x38),(⟨y26.2.Id,y26.2.Psk,y26.2.At,y26.2.St,y26.2.Cn,y26.2.Fin,r34.1,y26.2.T,y26.2.R,y26.2.Last⟩:Ad))) none) none) none) none) none)
 (k36 ([],y29,y26.2)))
 (k33 ([],y29,y26.2))) λk30=>
 cond (a2.Kind==4)
 (cond (decide (([]:List UInt8).length+a2.Sn.length≤bA)) (cond (decide (([]:List UInt8).length+r19.2.1.length≤bA)) (let x31:List Ae:=[(⟨6,0,1,[],[]++a2.Sn,a2.Epoch,a2.Seq,[]++r19.2.1,[],(⟨0,0⟩:Ai),a1⟩:Ae)]
 cond (decide (y26.1.length+x31.length≤bA)) (k30 (y26.1++x31)) none) none) none)
 (k30 y26.1)) λk27=>
 cond (r19.1.Cur.N !=a0.C.Cur.N)
 (cond (decide (([]:List UInt8).length+a2.Sn.length≤bA)) (cond (decide (([]:List UInt8).length+r19.1.Cur.Key.length≤bA)) (let x28:List Ae:=[(⟨10,0,0,[],[]++a2.Sn,r19.1.Cur.N,0,[],[]++r19.1.Cur.Key,(⟨0,0⟩:Ai),0⟩:Ae)]
 cond (decide (y23.1.length+x28.length≤bA)) (k27 ((y23.1++x28),(⟨y23.2.Id,y23.2.Psk,y23.2.At,y23.2.St,y23.2.Cn,y23.2.Fin,y23.2.C,y23.2.T,(⟨false,0,0,0⟩:Av),y23.2.Last⟩:Ad))) none) none) none)
 (k27 (y23.1,y23.2))) λk24=>
 cond (a0.St==2)
 (cond (decide (([]:List UInt8).length+a0.Cn.length≤bA)) (cond (decide (([]:List UInt8).length+a2.Sn.length≤bA)) (cond (decide (([]:List UInt8).length+a0.C.Cur.Key.length≤bA)) (let x25:List Ae:=[(⟨3,a0.Id,0,[]++a0.Cn,[]++a2.Sn,0,0,[],[]++a0.C.Cur.Key,(⟨0,0⟩:Ai),0⟩:Ae)]
 cond (decide (([]++[r22]).length+x25.length≤bA)) (k24 ((([]++[r22])++x25),(⟨r1.Id,r1.Psk,r1.At,3,r1.Cn,(⟨0,0,[],[],0,[],[],0,0,[],[]⟩:Aa),r19.1,(⟨false,0,0,0⟩:Av),r1.R,a1⟩:Ad))) none) none) none) none)
 (k24 (([]++[r22]),(⟨r1.Id,r1.Psk,r1.At,r1.St,r1.Cn,r1.Fin,r19.1,r1.T,r1.R,a1⟩:Ad)))) none))) λk18=>
 cond (!(gC a2.Kind))
 (k18 true)
 (k18 (decide (a0.St<2))))) λk6=>
 cond (a2.Kind==2)
 (cond (a0.St==1)
 (ob (BB a2.Cn a0.Cn) λr7=>
 k6 r7)
 (k6 false))
 (k6 false))) λk3=>
 ob (ID a0) λr4=>
 cond (!r4)
 (k3 true)
 (cond (!(eA a1 0 1000000))
 (k3 true)
 (k3 (!(wB a2))))
def Ej(a0:Ab)(a1:Int)(a2:Ai)(a3:List UInt8):Option ((List Am)×Ab):=
 cond (a1==0)
 (ob (Hi a0.S a0.Now a2 a3) λr1=>
 cond (decide (a0.Notes.length+r1.2.2.length≤bA)) (ob (Fc r1.2.1) λr2=>
 some (r2,(⟨a0.Now,a0.Clients,r1.1,a0.D,a0.Seen,a0.Known,a0.Notes++r1.2.2⟩:Ab))) none)
 (ob (Eb a3) λr3=>
 cond (!r3.2)
 (some ([],a0))
 (cond (decide (0≤wA .i64 a1 1)&&decide (wA .i64 a1 1<(a0.Clients.length:Int))) (ob (a0.Clients[(wA .i64 a1 1).toNat]?) λe4=>
 ob (Ei e4 a0.Now r3.1) λr5=>
 cond (decide (0≤wA .i64 a1 1)&&decide (wA .i64 a1 1<(a0.Clients.length:Int))) (ob (a0.Clients[(wA .i64 a1 1).toNat]?) λe6=>
 cond (decide (a0.Notes.length+r5.2.2.length≤bA)) (ob (Dy r5.1 r5.2.1) λr7=>
 some (r7,(⟨a0.Now,List.set a0.Clients ((wA .i64 a1 1).toNat) r5.1,a0.S,a0.D,a0.Seen,a0.Known,a0.Notes++r5.2.2⟩:Ab))) none) none) none))
def Ek(a0:Ab)(a1:Int)(a2:Ai)(a3:List UInt8):Option Ab:=
 ob (Ej a0 a1 a2 a3) λr1=>
 ob (Bm r1.2 r1.1 []) λr2=>
 some r2
def Dk(a0:Bc):=
 aA (λ(y1:Bool)=>
 some y1) λk2=>
 cond ((eA a0.Kind 1 10))
 (cond (decide ((a0.B.length:Int)≤200))
 (cond ((eA a0.I 0 200))
 (k2 (eA a0.J 0 200))
 (k2 false))
 (k2 false))
 (k2 false)
def Ot(a0:List UInt8)(a1:Int)(a2:Int):=
 aA (λy1=>
 cond (y1)
 (some ([],false))
 (cond (decide (0≤a1)&&decide (a1≤(iA .i64 a1 a2))&&decide ((iA .i64 a1 a2)≤(a0.length:Int))) (let l3:List UInt8:=List.take ((iA .i64 a1 a2 - a1).toNat) (List.drop a1.toNat a0)
 cond (decide (([]:List UInt8).length+l3.length≤bA)) (some ([]++l3,true)) none) none)) λk2=>
 cond (decide (a2<0))
 (k2 true)
 (cond (decide (a1<0))
 (k2 true)
 (cond (decide (a2>(a0.length:Int)))
 (k2 true)
 (k2 (decide (a1>(wA .i64 (a0.length:Int) a2))))))
def Fr(a0:List Bc)(a1:List Am)(a2:List (List UInt8)):Option ((List UInt8)×Bool):=
 cond (decide ((a0.length:Int)>16))
 (some ([],false))
 (aA (λ(y1:(List (List UInt8)))=>
 cond ((y1.length:Int) !=1)
 (some ([],false))
 (cond (decide (0≤(0:Int))&&decide ((0:Int)<(y1.length:Int))) (ob (y1[0]?) λe71=>
 cond (decide (([]:List UInt8).length+e71.length≤bA)) (some ([]++e71,true)) none) none)) λk2=>
 qA FU (λ(x3:(List (List UInt8))×Int) k4=>
 cond (decide (x3.2<(a0.length:Int)))
 (ob (kA a0 x3.2) λe5=>
 aA (λy6=>
 cond (y6)
 (some ([],false))
 (ob (Df e5.Kind) λr10=>
 aA (λ(y11:(List UInt8))=>
 aA (λy68=>
 cond (y68)
 (some ([],false))
 (cond (decide (0≤(0:Int))&&decide ((0:Int)≤(wA .i64 (x3.1.length:Int) r10))&&decide ((wA .i64 (x3.1.length:Int) r10)≤(x3.1.length:Int))) (cond (decide ((List.take ((wA .i64 (x3.1.length:Int) r10 - 0).toNat) x3.1).length+[y11].length≤bA)) (let x70:List (List UInt8):=(List.take ((wA .i64 (x3.1.length:Int) r10 - 0).toNat) x3.1)++[y11]
 k4 (x70,(iA .i64 x3.2 1))) none) none)) λk69=>
 cond (decide ((y11.length:Int)>200))
 (k69 true)
 (k69 ((wA .i64 (x3.1.length:Int) r10)==8))) λk12=>
 cond (e5.Kind==1)
 (cond (decide (([]:List UInt8).length+e5.B.length≤bA)) (k12 ([]++e5.B)) none)
 (aA (λ(y13:(List UInt8))=>
 k12 y13) λk14=>
 cond (e5.Kind==2)
 (cond (decide (e5.I≥(a1.length:Int)))
 (some ([],false))
 (ob (kA a1 e5.I) λe15=>
 cond (decide (([]:List UInt8).length+e15.B.length≤bA)) (k14 ([]++e15.B)) none))
 (aA (λ(y16:(List UInt8))=>
 k14 y16) λk17=>
 cond (e5.Kind==3)
 (cond (decide (e5.I≥(a2.length:Int)))
 (some ([],false))
 (ob (kA a2 e5.I) λe18=>
 cond (decide (([]:List UInt8).length+e18.length≤bA)) (k17 ([]++e18)) none))
 (aA (λ(y19:(List UInt8))=>
 k17 y19) λk20=>
 cond (e5.Kind==4)
 (cond (decide (0≤wA .i64 (x3.1.length:Int) r10)&&decide (wA .i64 (x3.1.length:Int) r10<(x3.1.length:Int))) (ob (x3.1[(wA .i64 (x3.1.length:Int) r10).toNat]?) λe21=>
 ob (mJ e21 e5.I e5.J) λr22=>
 cond (!r22.2)
 (some ([],false))
 (k20 r22.1)) none)
 (aA (λ(y23:(List UInt8))=>
 k20 y23) λk24=>
 cond (e5.Kind==5)
 (cond (decide (0≤wA .i64 (x3.1.length:Int) r10)&&decide (wA .i64 (x3.1.length:Int) r10<(x3.1.length:Int))) (ob (x3.1[(wA .i64 (x3.1.length:Int) r10).toNat]?) λe25=>
 cond (decide (([]:List UInt8).length+e25.length≤bA)) (let x26:Int:=iA .i64 (wA .i64 (x3.1.length:Int) r10) 1
 cond (decide (0≤x26)&&decide (x26<(x3.1.length:Int))) (ob (x3.1[x26.toNat]?) λe27=>
 cond (decide (([]++e25).length+e27.length≤bA)) (k24 (([]++e25)++e27)) none) none) none) none)
 (aA (λ(y28:(List UInt8))=>
 k24 y28) λk29=>
 cond (e5.Kind==6)
 (cond (decide (0≤wA .i64 (x3.1.length:Int) r10)&&decide (wA .i64 (x3.1.length:Int) r10<(x3.1.length:Int))) (ob (x3.1[(wA .i64 (x3.1.length:Int) r10).toNat]?) λe30=>
 let x31:Int:=iA .i64 (wA .i64 (x3.1.length:Int) r10) 1
 cond (decide (0≤x31)&&decide (x31<(x3.1.length:Int))) (ob (x3.1[x31.toNat]?) λe32=>
 cond ((e30.length:Int) !=(e32.length:Int))
 (some ([],false))
 (aA (λ(y33:(List UInt8))=>
 k29 y33) λk34=>
 qA FU (λ(x35:(List UInt8)×Int) k36=>
 cond (decide (0≤wA .i64 (x3.1.length:Int) r10)&&decide (wA .i64 (x3.1.length:Int) r10<(x3.1.length:Int))) (ob (x3.1[(wA .i64 (x3.1.length:Int) r10).toNat]?) λe37=>
 cond (decide (x35.2<(e37.length:Int)))
 (cond (decide (0≤wA .i64 (x3.1.length:Int) r10)&&decide (wA .i64 (x3.1.length:Int) r10<(x3.1.length:Int))) (ob (x3.1[(wA .i64 (x3.1.length:Int) r10).toNat]?) λe38=>
 ob (kA e38 x35.2) λe39=>
 let x40:Int:=iA .i64 (wA .i64 (x3.1.length:Int) r10) 1
 cond (decide (0≤x40)&&decide (x40<(x3.1.length:Int))) (ob (x3.1[x40.toNat]?) λe41=>
 ob (kA e41 x35.2) λe42=>
 let x43:Int:=CB .u8 ((e39.toNat:Nat):Int) ((e42.toNat:Nat):Int)
 cond (decide (x35.1.length+[UInt8.ofNat (x43:Int).toNat].length≤bA)) (k36 ((x35.1++[UInt8.ofNat (x43:Int).toNat]),(iA .i64 x35.2 1))) none) none) none)
 (k34 x35.1)) none) ([],0))) none) none)
 (aA (λ(y44:(List UInt8))=>
 k29 y44) λk45=>
 cond (e5.Kind==7)
 (cond (decide (0≤wA .i64 (x3.1.length:Int) r10)&&decide (wA .i64 (x3.1.length:Int) r10<(x3.1.length:Int))) (ob (x3.1[(wA .i64 (x3.1.length:Int) r10).toNat]?) λe46=>
 let x47:Int:=iA .i64 (wA .i64 (x3.1.length:Int) r10) 1
 cond (decide (0≤x47)&&decide (x47<(x3.1.length:Int))) (ob (x3.1[x47.toNat]?) λe48=>
 let r49:(List UInt8):=VC e46 e48
 k45 r49) none) none)
 (aA (λ(y50:(List UInt8))=>
 k45 y50) λk51=>
 cond (e5.Kind==8)
 (cond (decide (0≤wA .i64 (x3.1.length:Int) r10)&&decide (wA .i64 (x3.1.length:Int) r10<(x3.1.length:Int))) (ob (x3.1[(wA .i64 (x3.1.length:Int) r10).toNat]?) λe52=>
 let x53:Int:=iA .i64 (wA .i64 (x3.1.length:Int) r10) 1
 cond (decide (0≤x53)&&decide (x53<(x3.1.length:Int))) (ob (x3.1[x53.toNat]?) λe54=>
 ob (Cm e52 e54) λr55=>
 k51 r55) none) none)
 (aA (λ(y56:(List UInt8))=>
 k51 y56) λk57=>
 cond (e5.Kind==9)
 (cond (decide (0≤wA .i64 (x3.1.length:Int) r10)&&decide (wA .i64 (x3.1.length:Int) r10<(x3.1.length:Int))) (ob (x3.1[(wA .i64 (x3.1.length:Int) r10).toNat]?) λe58=>
 ob (GE e58 [114,101,107,101,121]) λr59=>
 k57 r59) none)
 (aA (λ(y60:(List UInt8))=>
 k57 y60) λk61=>
 cond (e5.Kind==10)
 (cond (decide (0≤wA .i64 (x3.1.length:Int) r10)&&decide (wA .i64 (x3.1.length:Int) r10<(x3.1.length:Int))) (ob (x3.1[(wA .i64 (x3.1.length:Int) r10).toNat]?) λe62=>
 let x63:Int:=iA .i64 (wA .i64 (x3.1.length:Int) r10) 1
 cond (decide (0≤x63)&&decide (x63<(x3.1.length:Int))) (ob (x3.1[x63.toNat]?) λe64=>
 let x65:Int:=iA .i64 (wA .i64 (x3.1.length:Int) r10) 2
 cond (decide (0≤x65)&&decide (x65<(x3.1.length:Int))) (ob (x3.1[x65.toNat]?) λe66=>
 ob (Dv e62 e64 e66) λr67=>
 k61 r67) none) none) none)
 (k61 [])))))))))))) λk7=>
 ob (Dk e5) λr8=>
 cond (!r8)
 (k7 true)
 (ob (Df e5.Kind) λr9=>
 k7 (decide ((x3.1.length:Int)<r9))))
 (k2 x3.1)) ([],0))
def Hj(a0:Ac):=
 ob (nA a0) λr1=>
 aA (λy2=>
 cond (y2)
 (some (r1,[]))
 (ob (zE a0.D) λr5=>
 let r6:Ba:=XG r5.2;let r7:Ao:=FF a0.T.Cap
 ob (vE r5.2) λr8=>
 cond (decide (([]:List UInt8).length+r6.Secret.length≤bA)) (let x9:List Ae:=[r8,(⟨12,0,0,[],[],0,0,[],[]++r6.Secret,(⟨0,0⟩:Ai),0⟩:Ae)]
 some ((⟨r1.Psks,r6,r5.1,r7,[]⟩:Ac),x9)) none)) λk3=>
 ob (GC a0) λr4=>
 cond (!r4)
 (k3 true)
 (k3 (a0.D.N==10000))
def Hk(a0:Ad):=
 ob (ID a0) λr1=>
 cond (!r1)
 (ob (nA a0) λr2=>
 some (r2,[]))
 (cond (a0.St==3)
 (ob (Dg a0) λr3=>
 cond (decide (([]:List UInt8).length+a0.C.Sn.length≤bA)) (let x4:List Ae:=[(⟨11,a0.Id,0,[],[]++a0.C.Sn,0,0,[],[],(⟨0,0⟩:Ai),0⟩:Ae)]
 some (r3,x4)) none)
 (ob (Dg a0) λr5=>
 some (r5,[])))
def Hl(a0:Ac)(a1:Int):Option (Ac×(List Ae)×Int):=
 ob (nA a0) λr1=>
 ob (GC a0) λr2=>
 cond (!r2)
 (some (r1,[],1))
 (aA (λy3=>
 cond (y3)
 (some (r1,[],8))
 (ob (kA a0.T.L a1) λe7=>
 ob (Cd e7) λr8=>
 cond (decide (0≤a1)&&decide (a1<(r1.T.L.length:Int))) (ob (r1.T.L[a1.toNat]?) λe9=>
 ob (kA a0.T.L a1) λe10=>
 ob (Fe e10) λr11=>
 some ((⟨r1.Psks,r1.J,r1.D,(⟨r1.T.Cap,List.set r1.T.L a1.toNat r8⟩:Ao),r1.Cr⟩:Ac),[r11],0)) none)) λk4=>
 let r5:Bool:=eA a1 0 (wA .i64 (a0.T.L.length:Int) 1)
 cond (!r5)
 (k4 true)
 (ob (kA a0.T.L a1) λe6=>
 k4 e6.Dead))
def Hm(a0:Ak):=
 ob (sC a0) λr1=>
 cond (!r1)
 (some [])
 (aA (λ(y2:(List (List UInt8)))=>
 cond (decide (([]:List UInt8).length+a0.Cur.Key.length≤bA)) (cond (decide (y2.length+[[]++a0.Cur.Key].length≤bA)) (aA (λ(y4:(List (List UInt8)))=>
 some y4) λk5=>
 cond (decide ((a0.Next.length:Int)>0))
 (cond (decide (([]:List UInt8).length+a0.Next.length≤bA)) (cond (decide ((y2++[[]++a0.Cur.Key]).length+[[]++a0.Next].length≤bA)) (k5 ((y2++[[]++a0.Cur.Key])++[[]++a0.Next])) none) none)
 (k5 (y2++[[]++a0.Cur.Key]))) none) none) λk3=>
 cond (a0.HasOld)
 (cond (decide (([]:List UInt8).length+a0.Old.Key.length≤bA)) (cond (decide (([]:List (List UInt8)).length+[[]++a0.Old.Key].length≤bA)) (k3 ([]++[[]++a0.Old.Key])) none) none)
 (k3 []))
def Jz(a0:Ab)(a1:Ak):=
 ob (Hm a1) λr1=>
 let x2:Int:=iA .i64 (a0.Known.length:Int) (r1.length:Int)
 cond (decide (x2>12))
 (some (false,a0))
 (cond (decide (a0.Known.length+r1.length≤bA)) (cond (decide (([]:List UInt8).length+a1.Sn.length≤bA)) (let x3:List Ae:=[(⟨13,0,0,[],[]++a1.Sn,0,0,[],[],(⟨0,0⟩:Ai),0⟩:Ae)]
 cond (decide (a0.Notes.length+x3.length≤bA)) (some (true,(⟨a0.Now,a0.Clients,a0.S,a0.D,a0.Seen,a0.Known++r1,a0.Notes++x3⟩:Ab))) none) none) none)
def Fs(a0:Ax)(a1:Int):=
 ob (OJ a0) λr1=>
 aA (λ(y2:Bool)=>
 aA (λ(y4:Ax)=>
 some y4) λk5=>
 cond (y2)
 (k5 (⟨r1.Seed,a1⟩:Ax))
 (k5 r1)) λk3=>
 cond ((BC a0))
 (k3 (eA a1 0 10000))
 (k3 false)
def Is(a0:Ab)(a1:Aq):Option (Bool×Ab):=
 aA (λ(y1:Bool)=>
 aA (λ(y3:Am)=>
 aA (λ(y6:Ab)=>
 some (true,y6)) λk7=>
 cond (a1.Kind==1)
 (ob (zE a0.D) λr8=>
 cond (decide (0≤EA .i64 a1.I 2)&&decide (EA .i64 a1.I 2<(a0.Clients.length:Int))) (ob (a0.Clients[(EA .i64 a1.I 2).toNat]?) λe9=>
 ob (Fa e9 a0.Now r8.2) λr10=>
 cond (r10.2.2.2 !=0)
 (some (false,a0))
 (ob (vE r8.2) λr11=>
 cond (decide (a0.Notes.length+[r11].length≤bA)) (ob (Fb (⟨a0.Now,a0.Clients,a0.S,r8.1,a0.Seen,a0.Known,a0.Notes++[r11]⟩:Ab) (EA .i64 a1.I 2) r10.1 r10.2.1 r10.2.2.1) λr12=>
 k7 r12) none)) none)
 (aA (λ(y13:Ab)=>
 k7 y13) λk14=>
 cond (a1.Kind==2)
 (cond (decide (0≤EA .i64 a1.I 2)&&decide (EA .i64 a1.I 2<(a0.Clients.length:Int))) (ob (a0.Clients[(EA .i64 a1.I 2).toNat]?) λe15=>
 ob (Gm e15 a0.Now a1.B) λr16=>
 cond (r16.2.2.2 !=0)
 (some (false,a0))
 (ob (Fb a0 (EA .i64 a1.I 2) r16.1 r16.2.1 r16.2.2.1) λr17=>
 k14 r17)) none)
 (aA (λ(y18:Ab)=>
 k14 y18) λk19=>
 cond (a1.Kind==3)
 (ob (Gp a0.S a0.Now a1.I a1.B) λr20=>
 cond (r20.2.2.2 !=0)
 (some (false,a0))
 (ob (Fc r20.2.1) λr21=>
 ob (Bm (⟨a0.Now,a0.Clients,r20.1,a0.D,a0.Seen,a0.Known,a0.Notes⟩:Ab) r21 r20.2.2.1) λr22=>
 k19 r22))
 (aA (λ(y23:Ab)=>
 k19 y23) λk24=>
 cond (a1.Kind==4)
 (cond (a0.Now==1000000)
 (some (false,a0))
 (ob (Ea a0) λr25=>
 ob (Bm r25.2 r25.1 []) λr26=>
 k24 r26))
 (aA (λ(y27:Ab)=>
 k24 y27) λk28=>
 cond (a1.Kind==5)
 (cond (decide (0≤EA .i64 a1.I 2)&&decide (EA .i64 a1.I 2<(a0.Clients.length:Int))) (ob (a0.Clients[(EA .i64 a1.I 2).toNat]?) λe29=>
 let r30:Ai:=KB (iA .i64 1 (EA .i64 a1.N 30))
 ob (Gu e29 r30) λr31=>
 cond (decide (0≤EA .i64 a1.I 2)&&decide (EA .i64 a1.I 2<(a0.Clients.length:Int))) (ob (a0.Clients[(EA .i64 a1.I 2).toNat]?) λe32=>
 k28 (⟨a0.Now,List.set a0.Clients ((EA .i64 a1.I 2).toNat) r31,a0.S,a0.D,a0.Seen,a0.Known,a0.Notes⟩:Ab)) none) none)
 (aA (λ(y33:Ab)=>
 k28 y33) λk34=>
 cond (a1.Kind==6)
 (cond (decide (0≤EA .i64 a1.I 2)&&decide (EA .i64 a1.I 2<(a0.Clients.length:Int))) (ob (a0.Clients[(EA .i64 a1.I 2).toNat]?) λe35=>
 ob (Gv e35 a0.Now) λr36=>
 cond (r36.2.2.2 !=0)
 (some (false,a0))
 (ob (Fb a0 (EA .i64 a1.I 2) r36.1 r36.2.1 r36.2.2.1) λr37=>
 k34 r37)) none)
 (aA (λ(y38:Ab)=>
 k34 y38) λk39=>
 cond (a1.Kind==7)
 (ob (SK a0 y3.To) λr40=>
 cond (decide (r40<0))
 (some (false,a0))
 (ob (Ek a0 r40 y3.From y3.B) λr41=>
 k39 r41))
 (aA (λ(y42:Ab)=>
 k39 y42) λk43=>
 cond (a1.Kind==8)
 (let r44:Ai:=KB (EA .i64 a1.N 256)
 ob (Ek a0 0 r44 y3.B) λr45=>
 k43 r45)
 (aA (λ(y46:Ab)=>
 k43 y46) λk47=>
 cond (a1.Kind==9)
 (ob (Ek a0 (EA .i64 a1.J 3) y3.From y3.B) λr48=>
 k47 r48)
 (aA (λ(y49:Ab)=>
 k47 y49) λk50=>
 cond (a1.Kind==10)
 (ob (SK a0 y3.To) λr51=>
 aA (λy52=>
 cond (y52)
 (some (false,a0))
 (cond (decide (([]:List UInt8).length+y3.B.length≤bA)) (cond ((([]++y3.B).length:Int)==0) none (let x54:Int:=EA .i64 a1.N (([]++y3.B).length:Int)
 cond (decide (0≤x54)&&decide (x54<(([]++y3.B).length:Int))) (ob (([]++y3.B)[x54.toNat]?) λe55=>
 let x56:Int:=IntKind.wrap .u8 (iA .i64 1 (EA .i64 a1.J 255))
 cond (decide (0≤x54)&&decide (x54<(([]++y3.B).length:Int))) (ob (([]++y3.B)[x54.toNat]?) λe57=>
 let l58:List UInt8:=List.set ([]++y3.B) x54.toNat (UInt8.ofNat (CB .u8 ((e55.toNat:Nat):Int) x56:Int).toNat)
 ob (Ek a0 r51 y3.From l58) λr59=>
 k50 r59) none) none)) none)) λk53=>
 cond (decide (r51<0))
 (k53 true)
 (k53 ((y3.B.length:Int)==0)))
 (aA (λ(y60:Ab)=>
 k50 y60) λk61=>
 cond (a1.Kind==11)
 (ob (Fr a1.Ops a0.Seen a0.Known) λr62=>
 cond (!r62.2)
 (some (false,a0))
 (let r63:Ai:=KB (EA .i64 a1.N 256)
 ob (Ek a0 (EA .i64 a1.J 3) r63 r62.1) λr64=>
 k61 r64))
 (aA (λ(y65:Ab)=>
 k61 y65) λk66=>
 cond (a1.Kind==12)
 (ob (Hj a0.S) λr67=>
 cond ((r67.2.length:Int)==0)
 (some (false,a0))
 (ob (Bm (⟨a0.Now,a0.Clients,r67.1,a0.D,a0.Seen,a0.Known,a0.Notes⟩:Ab) [] r67.2) λr68=>
 k66 r68))
 (aA (λ(y69:Ab)=>
 k66 y69) λk70=>
 cond (a1.Kind==13)
 (cond (decide (0≤EA .i64 a1.I 2)&&decide (EA .i64 a1.I 2<(a0.Clients.length:Int))) (ob (a0.Clients[(EA .i64 a1.I 2).toNat]?) λe71=>
 cond (e71.St==0)
 (some (false,a0))
 (cond (decide (0≤EA .i64 a1.I 2)&&decide (EA .i64 a1.I 2<(a0.Clients.length:Int))) (ob (a0.Clients[(EA .i64 a1.I 2).toNat]?) λe72=>
 ob (Hk e72) λr73=>
 ob (Fb a0 (EA .i64 a1.I 2) r73.1 [] r73.2) λr74=>
 k70 r74) none)) none)
 (aA (λ(y75:Ab)=>
 k70 y75) λk76=>
 cond (a1.Kind==14)
 (ob (Hl a0.S a1.I) λr77=>
 cond (r77.2.2 !=0)
 (some (false,a0))
 (ob (Bm (⟨a0.Now,a0.Clients,r77.1,a0.D,a0.Seen,a0.Known,a0.Notes⟩:Ab) [] r77.2.1) λr78=>
 k76 r78))
 (cond (a1.Kind==15)
 (aA (λ(y79:Bool×Ab)=>
 some (y79.1,y79.2)) λk80=>
 cond (decide (0≤EA .i64 a1.I 2)&&decide (EA .i64 a1.I 2<(a0.Clients.length:Int))) (ob (a0.Clients[(EA .i64 a1.I 2).toNat]?) λe81=>
 cond (e81.St==3)
 (cond (decide (0≤EA .i64 a1.I 2)&&decide (EA .i64 a1.I 2<(a0.Clients.length:Int))) (ob (a0.Clients[(EA .i64 a1.I 2).toNat]?) λe82=>
 ob (Jz a0 e82.C) λr83=>
 k80 (r83.1,r83.2)) none)
 (k80 (false,a0))) none)
 (cond (a1.Kind==16)
 (aA (λ(y84:Bool×Ab)=>
 some (y84.1,y84.2)) λk85=>
 cond (decide (a1.I<(a0.S.T.L.length:Int)))
 (ob (kA a0.S.T.L a1.I) λe86=>
 cond (!e86.Dead)
 (ob (kA a0.S.T.L a1.I) λe87=>
 ob (Jz a0 e87.C) λr88=>
 k85 (r88.1,r88.2))
 (k85 (false,a0)))
 (k85 (false,a0)))
 (aA (λ(y89:Ab)=>
 k76 y89) λk90=>
 cond (a1.Kind==17)
 (aA (λ(y91:Ab)=>
 k90 y91) λk92=>
 cond ((EA .i64 a1.J 2)==0)
 (ob (Fs a0.D a1.N) λr93=>
 k92 (⟨a0.Now,a0.Clients,a0.S,r93,a0.Seen,a0.Known,a0.Notes⟩:Ab))
 (ob (Fs a0.S.D a1.N) λr94=>
 k92 (⟨a0.Now,a0.Clients,(⟨a0.S.Psks,a0.S.J,r94,a0.S.T,a0.S.Cr⟩:Ac),a0.D,a0.Seen,a0.Known,a0.Notes⟩:Ab)))
 (k90 a0)))))))))))))))))) λk4=>
 cond (y1)
 (cond ((a0.Seen.length:Int)==0)
 (some (false,a0))
 (cond ((a0.Seen.length:Int)==0) none (cond (decide (0≤EA .i64 a1.I (a0.Seen.length:Int))&&decide (EA .i64 a1.I (a0.Seen.length:Int)<(a0.Seen.length:Int))) (ob (a0.Seen[(EA .i64 a1.I (a0.Seen.length:Int)).toNat]?) λe5=>
 k4 e5) none)))
 (k4 (⟨(⟨0,0⟩:Ai),(⟨0,0⟩:Ai),[]⟩:Am))) λk2=>
 cond (decide (a1.Kind≥7))
 (k2 (decide (a1.Kind≤10)))
 (k2 false)
def Iu(a0:Af)(a1:Int)(a2:Bool):Option (Ab×(List Aq)×Ab×Af):=
 ob (In a0) λr1=>
 ob (nA r1.1) λr2=>
 ob (Ar r1.2 a1) λr3=>
 aA (λ(y4:(List Aq)×Af×Int×Ab)=>
 some (r1.1,y4.1,y4.2.2.2,y4.2.1)) λk5=>
 qA FU (λ(x6:(List Aq)×Int×Af×Int×Ab) k7=>
 cond (decide (x6.2.1>0))
 (ob (Ir x6.2.2.1 x6.2.2.2.2 x6.2.2.2.1 a2) λr8=>
 cond (decide (x6.1.length+[r8.1].length≤bA)) (ob (nA x6.2.2.2.2) λr9=>
 aA (λ(y10:Bool×Ab)=>
 aA (λ(y13:Ab×Unit)=>
 k7 ((x6.1++[r8.1]),(wA .i64 x6.2.1 1),r8.2.1,r8.2.2,y13.1)) λk14=>
 cond (y10.1)
 (k14 (y10.2,()))
 (k14 (x6.2.2.2.2,()))) λk11=>
 cond (decide ((x6.2.2.2.2.Notes.length:Int)≤500))
 (cond ((nM r8.1))
 (ob (Is r9 r8.1) λr12=>
 k11 (r12.1,r12.2))
 (k11 (false,r9)))
 (k11 (false,r9))) none)
 (k5 (x6.1,x6.2.2.1,x6.2.2.2.1,x6.2.2.2.2))) ([],(iA .i64 4 r3.1),r3.2,0,r2)
def Iv(a0:Af)(a1:Int):Option (Ab×Af):=
 ob (Bb a0 3) λr1=>
 ob (Iu r1.2 a1 (!r1.1)) λr2=>
 some (r2.2.2.1,r2.2.2.2)
def Hn(a0:Af):=
 ob (Ar a0 4) λr1=>
 aA (λ(y2:(List UInt8))=>
 some (y2,r1.2)) λk3=>
 qA FU (λ(x4:(List UInt8)×Int) k5=>
 cond (decide (x4.2<12))
 (cond (decide (x4.1.length+[UInt8.ofNat (IntKind.wrap .u8 r1.1:Int).toNat].length≤bA)) (k5 ((x4.1++[UInt8.ofNat (IntKind.wrap .u8 r1.1:Int).toNat]),(iA .i64 x4.2 1))) none)
 (k3 x4.1)) ([],0)
def Iw(a0:Af):=
 ob (Ar a0 3) λr1=>
 aA (λ(y2:(List UInt8))=>
 some (y2,r1.2)) λk3=>
 qA FU (λ(x4:(List UInt8)×Int) k5=>
 cond (decide (x4.2<32))
 (cond (decide (x4.1.length+[UInt8.ofNat (IntKind.wrap .u8 r1.1:Int).toNat].length≤bA)) (k5 ((x4.1++[UInt8.ofNat (IntKind.wrap .u8 r1.1:Int).toNat]),(iA .i64 x4.2 1))) none)
 (k3 x4.1)) ([],0)
def Ix(a0:Af):=
 ob (Ar a0 17) λr1=>
 ob (Ar r1.2 3) λr2=>
 ob (Ar r2.2 2) λr3=>
 ob (Ar r3.2 2) λr4=>
 ob (Ar r4.2 3) λr5=>
 ob (Hn r5.2) λr6=>
 ob (Hn r6.2) λr7=>
 ob (Iw r7.2) λr8=>
 ob (Hn r8.2) λr9=>
 ob (Ar r9.2 3) λr10=>
 let r11:Ai:=KB r10.1
 ob (Ar r10.2 12) λr12=>
 some ((⟨iA .i64 1 r1.1,r2.1,r3.1,r6.1,r7.1,r4.1,r5.1,r9.1,r8.1,r11,r12.1⟩:Ae),r12.2)
def Iy(a0:Af):=
 ob (Bb a0 3) λr1=>
 cond (r1.1)
 (ob (Ar r1.2 16777216) λr2=>
 ob (Cl r2.2) λr3=>
 ob (Ar r3.2 65536) λr4=>
 some ((⟨iA .i64 (YB .i64 r2.1 256) r3.1,r4.1⟩:Ai),r4.2))
 (ob (Ar r1.2 6) λr5=>
 let r6:Ai:=KB r5.1
 some (r6,r5.2))
def Cu(a0:Af):=
 ob (Iy a0) λr1=>
 ob (Ar r1.2 10) λr2=>
 aA (λ(y3:Af×Ai)=>
 some (y3.2,y3.1)) λk4=>
 cond (r2.1==0)
 (ob (Im r2.2) λr5=>
 k4 (r5.2,(⟨r5.1,r1.1.Port⟩:Ai)))
 (aA (λ(y6:Af×Ai)=>
 k4 (y6.1,y6.2)) λk7=>
 cond (r2.1==1)
 (ob (As r2.2 [(-1),65535,65536,0]) λr8=>
 k7 (r8.2,(⟨r1.1.Host,r8.1⟩:Ai)))
 (k7 (r2.2,r1.1)))
def Iz(a0:Af):=
 ob (Ix a0) λr1=>
 ob (Ar r1.2 20) λr2=>
 aA (λ(y3:Af×Ae)=>
 some (y3.2,y3.1)) λk4=>
 cond (r2.1==0)
 (ob (As r2.2 [(-1),0,17,18]) λr5=>
 k4 (r5.2,(⟨r5.1,r1.1.Id,r1.1.Role,r1.1.Cn,r1.1.Sn,r1.1.Epoch,r1.1.Seq,r1.1.Body,r1.1.Key,r1.1.A,r1.1.Now⟩:Ae)))
 (aA (λ(y6:Af×Ae)=>
 k4 (y6.1,y6.2)) λk7=>
 cond (r2.1==1)
 (ob (As r2.2 [(-1),10]) λr8=>
 k7 (r8.2,(⟨r1.1.Kind,r8.1,r1.1.Role,r1.1.Cn,r1.1.Sn,r1.1.Epoch,r1.1.Seq,r1.1.Body,r1.1.Key,r1.1.A,r1.1.Now⟩:Ae)))
 (aA (λ(y9:Af×Ae)=>
 k7 (y9.1,y9.2)) λk10=>
 cond (r2.1==2)
 (ob (As r2.2 [(-1),2]) λr11=>
 k10 (r11.2,(⟨r1.1.Kind,r1.1.Id,r11.1,r1.1.Cn,r1.1.Sn,r1.1.Epoch,r1.1.Seq,r1.1.Body,r1.1.Key,r1.1.A,r1.1.Now⟩:Ae)))
 (aA (λ(y12:Af×Ae)=>
 k10 (y12.1,y12.2)) λk13=>
 cond (r2.1==3)
 (ob (As r2.2 [0,11]) λr14=>
 ob (Ay r14.2 r14.1) λr15=>
 k13 (r15.2,(⟨r1.1.Kind,r1.1.Id,r1.1.Role,r15.1,r1.1.Sn,r1.1.Epoch,r1.1.Seq,r1.1.Body,r1.1.Key,r1.1.A,r1.1.Now⟩:Ae)))
 (aA (λ(y16:Af×Ae)=>
 k13 (y16.1,y16.2)) λk17=>
 cond (r2.1==4)
 (ob (As r2.2 [0,13]) λr18=>
 ob (Ay r18.2 r18.1) λr19=>
 k17 (r19.2,(⟨r1.1.Kind,r1.1.Id,r1.1.Role,r1.1.Cn,r19.1,r1.1.Epoch,r1.1.Seq,r1.1.Body,r1.1.Key,r1.1.A,r1.1.Now⟩:Ae)))
 (aA (λ(y20:Af×Ae)=>
 k17 (y20.1,y20.2)) λk21=>
 cond (r2.1==5)
 (ob (As r2.2 [(-1),4294967296]) λr22=>
 k21 (r22.2,(⟨r1.1.Kind,r1.1.Id,r1.1.Role,r1.1.Cn,r1.1.Sn,r22.1,r1.1.Seq,r1.1.Body,r1.1.Key,r1.1.A,r1.1.Now⟩:Ae)))
 (aA (λ(y23:Af×Ae)=>
 k21 (y23.1,y23.2)) λk24=>
 cond (r2.1==6)
 (ob (As r2.2 [(-1),281474976710656]) λr25=>
 k24 (r25.2,(⟨r1.1.Kind,r1.1.Id,r1.1.Role,r1.1.Cn,r1.1.Sn,r1.1.Epoch,r25.1,r1.1.Body,r1.1.Key,r1.1.A,r1.1.Now⟩:Ae)))
 (aA (λ(y26:Af×Ae)=>
 k24 (y26.1,y26.2)) λk27=>
 cond (r2.1==7)
 (ob (As r2.2 [0,100,101]) λr28=>
 ob (Ay r28.2 r28.1) λr29=>
 k27 (r29.2,(⟨r1.1.Kind,r1.1.Id,r1.1.Role,r1.1.Cn,r1.1.Sn,r1.1.Epoch,r1.1.Seq,r29.1,r1.1.Key,r1.1.A,r1.1.Now⟩:Ae)))
 (aA (λ(y30:Af×Ae)=>
 k27 (y30.1,y30.2)) λk31=>
 cond (r2.1==8)
 (ob (As r2.2 [0,31]) λr32=>
 ob (Ay r32.2 r32.1) λr33=>
 k31 (r33.2,(⟨r1.1.Kind,r1.1.Id,r1.1.Role,r1.1.Cn,r1.1.Sn,r1.1.Epoch,r1.1.Seq,r1.1.Body,r33.1,r1.1.A,r1.1.Now⟩:Ae)))
 (aA (λ(y34:Af×Ae)=>
 k31 (y34.1,y34.2)) λk35=>
 cond (r2.1==9)
 (ob (Cu r2.2) λr36=>
 k35 (r36.2,(⟨r1.1.Kind,r1.1.Id,r1.1.Role,r1.1.Cn,r1.1.Sn,r1.1.Epoch,r1.1.Seq,r1.1.Body,r1.1.Key,r36.1,r1.1.Now⟩:Ae)))
 (aA (λ(y37:Af×Ae)=>
 k35 (y37.1,y37.2)) λk38=>
 cond (r2.1==10)
 (ob (As r2.2 [(-1),1000001]) λr39=>
 k38 (r39.2,(⟨r1.1.Kind,r1.1.Id,r1.1.Role,r1.1.Cn,r1.1.Sn,r1.1.Epoch,r1.1.Seq,r1.1.Body,r1.1.Key,r1.1.A,r39.1⟩:Ae)))
 (k38 (r2.2,r1.1))))))))))))
end
end Go.D
namespace Go.D
end Go.D
namespace Go.D
def TJ{α σ R:Type}[Wt α](l:List α)(hl:wt l≤bA)(st:Int→List α→σ)(K:List α→Option R){f:σ→(σ→Option R)→Option R}
  (hf:∀(i:Nat) (hi:i<l.length) (acc:List α) (k:σ→Option R),f (st (i:Int) acc) k=cond (decide (acc.length+1≤bA)) (k (st (iA .i64 (i:Int) 1) (acc++[l[i]]))) none)
  (hz:∀(acc:List α) (k:σ→Option R),f (st (l.length:Int) acc) k=K acc):qA FU f (st 0 [])=K l:=by
 have hL:=IB;have D8:=JB l
 have key:∀(n i:Nat),i≤l.length→l.length - i<n→qA n f (st (i:Int) (l.take i))=K l:=by
  intro n;induction n with
  | zero=>intro i _ h;omega
  | succ n ih=>
   intro i hi hn;show f (st (i:Int) (l.take i)) (qA n f)=K l
   rcases Nat.lt_or_ge i l.length with h | h
   ·rw[hf i h]
    have h1:decide ((l.take i).length+1≤bA)=true:=by
     rw[List.length_take];simp;omega
    rw[h1,cond_true];have h2:iA .i64 (i:Int) 1=((i+1:Nat):Int):=wG i (by rw[tD];omega);rw[h2,List.take_append_getElem h];exact ih (i+1) h (by omega)
   ·have:i=l.length:=by omega
    subst this;rw[hz,List.take_length]
 rw[zds];exact key _ 0 (Nat.zero_le _) (by omega)
def YD{α β:Type}{l:List α}{x:Option β}(h:l.length≤bA):cond (decide (([]:List α).length+l.length≤bA)) x none=x:=by
 rw[decide_eq_true (by simpa using h)];rfl
def bH{α β:Type}[Wt α]{a:α}{f:α→Option β}(h:wt a≤bA):Option.bind (nA a) f=f a:=HA h
def zhp(x:Ap)(h:wt x≤bA):Ob x=some x:=by
 rw[IS,aL]at h;unfold Ob;rw[YD h];rfl
def zoK(x:Aw)(h:wt x≤bA):Oc x=some x:=by
 rw[fL,FA]at h;unfold Oc;rw[YD (by omega),bH (by omega)];rfl
def zpv(x:Aw)(b:Bool)(h:wt x≤bA):Od x b=some x:=by
 unfold Od;rw[bH h];rw[fL,IS,aL,FA]at h;rw[YD (by omega),YD (by omega)];cases b<;>rfl
def zor(x:Ak)(h:wt x≤bA):Oe x=some x:=by
 rw[xH,FA,FA]at h;unfold Oe;rw[YD (by omega),bH (by omega),zc5,HA (by omega),YD (by omega)];rfl
def zok(x:Aj)(h:wt x≤bA):Of x=some x:=by
 have hw:wt x=wt x.Cands:=by rw[II,IE];omega
 rw[hw]at h;unfold Of;simp only[aA];refine TJ x.Cands h (λi acc=>(i,(⟨x.At,acc⟩:Aj))) (λacc=>some (⟨x.At,acc⟩:Aj)) (λi hi acc k=>?_) (λacc k=>?_)
 ·have kW:((i:Int)<(x.Cands.length:Int)):=by omega
  have hm:=rE hi;simp only[decide_eq_true kW,cond_true,HB hi,YA];rw[qH,HA (by omega)];rfl
 ·have kW:¬((x.Cands.length:Int)<(x.Cands.length:Int)):=by omega
  simp only[decide_eq_false kW,cond_false]
def zoj(x:Ah)(h:wt x≤bA):Og x=some x:=by
 rw[VK,FA,FA]at h;unfold Og;rw[YD (by omega),YD (by omega),bH (by omega),bH (by omega)];rfl
def zhc(x:Ao)(h:wt x≤bA):Oh x=some x:=by
 rw[XI]at h;unfold Oh;simp only[aA];refine TJ x.L h (λi acc=>(i,(⟨x.Cap,acc⟩:Ao))) (λacc=>some (⟨x.Cap,acc⟩:Ao)) (λi hi acc k=>?_) (λacc k=>?_)
 ·have kW:((i:Int)<(x.L.length:Int)):=by omega
  have hm:=rE hi;simp only[decide_eq_true kW,cond_true,HB hi,YA];rw[bH (by omega)];rfl
 ·have kW:¬((x.L.length:Int)<(x.L.length:Int)):=by omega
  simp only[decide_eq_false kW,cond_false]
def zoi(x:Ac)(h:wt x≤bA):Oi x=some x:=by
 rw[UL,KS,FA]at h;have hc:=JB x.Cr;unfold Oi;rw[YD (by omega),OJ,HA (by omega),bH (by omega),YD (by omega)];simp only[aA];refine TJ x.Psks (by omega) (λi acc=>(i,(⟨acc,(⟨[]++x.J.Secret⟩:Ba),x.D,x.T,[]++x.Cr⟩:Ac))) (λacc=>some (⟨acc,(⟨[]++x.J.Secret⟩:Ba),x.D,x.T,[]++x.Cr⟩:Ac)) (λi hi acc k=>?_) (λacc k=>?_)
 ·have kW:((i:Int)<(x.Psks.length:Int)):=by omega
  have hm:=rE hi;rw[FA]at hm;simp only[decide_eq_true kW,cond_true,HB hi,YA];rw[YD (by omega)];rfl
 ·have kW:¬((x.Psks.length:Int)<(x.Psks.length:Int)):=by omega
  simp only[decide_eq_false kW,cond_false]
def zoz(x:List Am)(h:wt x≤bA):Oj x=some x:=by
 unfold Oj;simp only[aA];refine TJ x h (λi acc=>(acc,i)) (λacc=>some acc) (λi hi acc k=>?_) (λacc k=>?_)
 ·have kW:((i:Int)<(x.length:Int)):=by omega
  have hm:=rE hi;rw[kV,FA]at hm;simp only[decide_eq_true kW,cond_true,HB hi,YA];rw[YD (by omega)];rfl
 ·have kW:¬((x.length:Int)<(x.length:Int)):=by omega
  simp only[decide_eq_false kW,cond_false]
def zou(x:Ae)(h:wt x≤bA):Ol x=some x:=by
 rw[PI,FA,FA,FA,FA]at h;unfold Ol;rw[YD (by omega),YD (by omega),YD (by omega),YD (by omega)];rfl
def zhw(x:List Ae)(h:wt x≤bA):Om x=some x:=by
 unfold Om;simp only[aA];refine TJ x h (λi acc=>(acc,i)) (λacc=>some acc) (λi hi acc k=>?_) (λacc k=>?_)
 ·have kW:((i:Int)<(x.length:Int)):=by omega
  have hm:=rE hi;simp only[decide_eq_true kW,cond_true,HB hi,YA];rw[bH (by omega)];rfl
 ·have kW:¬((x.length:Int)<(x.length:Int)):=by omega
  simp only[decide_eq_false kW,cond_false]
def zoJ(x:Aa)(h:wt x≤bA):Oo x=some x:=by
 rw[uH,FA,FA,FA,FA,FA,FA]at h;unfold Oo;rw[YD (by omega),YD (by omega),YD (by omega),YD (by omega),YD (by omega),YD (by omega)];rfl
def zos(x:Ad)(h:wt x≤bA):Oq x=some x:=by
 rw[cM,FA,FA]at h;unfold Oq;rw[YD (by omega),YD (by omega),bH (by omega),bH (by omega)];rfl
def zow(x:Ab)(h:wt x≤bA):Or x=some x:=by
 rw[KI]at h;unfold Or;rw[bH (by omega),OJ,HA (by omega),bH (by omega),bH (by omega)]
 have key2:∀w:Ab,w.Known=[]→qA FU (λ(x13:Int×Ab) k14=>
   cond (decide (x13.1<(x.Known.length:Int)))
   (Option.bind (kA x.Known x13.1) λe15=>
   cond (decide (([]:List UInt8).length+e15.length≤bA)) (cond (decide (x13.2.Known.length+[[]++e15].length≤bA)) (k14 ((iA .i64 x13.1 1),(⟨x13.2.Now,x13.2.Clients,x13.2.S,x13.2.D,x13.2.Seen,x13.2.Known++[[]++e15],x13.2.Notes⟩:Ab))) none) none)
   (some x13.2)) (0,w)=some (⟨w.Now,w.Clients,w.S,w.D,w.Seen,x.Known,w.Notes⟩:Ab):=λw hw=>by
  obtain⟨w1,w2,w3,w4,w5,w6,w7⟩:=w;cases hw;refine TJ x.Known (by omega) (λi acc=>(i,(⟨w1,w2,w3,w4,w5,acc,w7⟩:Ab))) (λacc=>some (⟨w1,w2,w3,w4,w5,acc,w7⟩:Ab)) (λi hi acc k=>?_) (λacc k=>?_)
  ·have kW:((i:Int)<(x.Known.length:Int)):=by omega
   have hm:=rE hi;rw[FA]at hm;simp only[decide_eq_true kW,cond_true,HB hi,YA];rw[YD (by omega)];rfl
  ·have kW:¬((x.Known.length:Int)<(x.Known.length:Int)):=by omega
   simp only[decide_eq_false kW,cond_false]
 simp only[aA];refine TJ x.Clients (by omega) (λi acc=>(i,(⟨x.Now,acc,x.S,x.D,x.Seen,[],x.Notes⟩:Ab))) (λacc=>some (⟨x.Now,acc,x.S,x.D,x.Seen,x.Known,x.Notes⟩:Ab)) (λi hi acc k=>?_) (λacc k=>?_)
 ·have kW:((i:Int)<(x.Clients.length:Int)):=by omega
  have hm:=rE hi;simp only[decide_eq_true kW,cond_true,HB hi,YA];rw[bH (by omega)];rfl
 ·have kW:¬((x.Clients.length:Int)<(x.Clients.length:Int)):=by omega
  simp only[decide_eq_false kW,cond_false];exact key2 _ rfl
def TQ.ok{x}(_:xA [.v .Win] x){r}:nA (α:=Ap) x=some r→Ob x=some r:=UA λh=>zhp x h
def SQ.ok{x}(_:xA [.v .Ep] x){r}:nA (α:=Aw) x=some r→Oc x=some r:=UA λh=>zoK x h
def DQ.ok{x}(_:xA [.v .Chan] x){r}:nA (α:=Ak) x=some r→Oe x=some r:=UA λh=>zor x h
def uQ.ok{x}(_:xA [.v .Paths] x){r}:nA (α:=Aj) x=some r→Of x=some r:=UA λh=>zok x h
def vQ.ok{x}(_:xA [.v .Sess] x){r}:nA (α:=Ah) x=some r→Og x=some r:=UA λh=>zoj x h
def YP.ok{x}(_:xA [.v .Tab] x){r}:nA (α:=Ao) x=some r→Oh x=some r:=UA λh=>zhc x h
def qQ.ok{x}(_:xA [.v .Server] x){r}:nA (α:=Ac) x=some r→Oi x=some r:=UA λh=>zoi x h
def aQ.ok{x}(_:xA [.sl .Wire] x){r}:nA (α:=List Am) x=some r→Oj x=some r:=UA λh=>zoz x h
def CQ.ok{x}(_:xA [.v .Note] x){r}:nA (α:=Ae) x=some r→Ol x=some r:=UA λh=>zou x h
def mR.ok{x}(_:xA [.sl .Note] x){r}:nA (α:=List Ae) x=some r→Om x=some r:=UA λh=>zhw x h
def ZQ.ok{x}(_:xA [.v .Frame] x){r}:nA (α:=Aa) x=some r→Oo x=some r:=UA λh=>zoJ x h
def gQ.ok{x}(_:xA [.v .Client] x){r}:nA (α:=Ad) x=some r→Oq x=some r:=UA λh=>zos x h
def nQ.ok{x}(_:xA [.v .World] x){r}:nA (α:=Ab) x=some r→Or x=some r:=UA λh=>zow x h
def tR.ok{x}(_:xA [.v .Ep, .v .bool] x){r}:zc5 x.1 x.2=some r→Od x.1 x.2=some r:=UA λh=>zpv x.1 x.2 h
end Go.D
namespace Go.D
instance:Wt Au:=⟨λx=>wt x.To+wt x.F⟩
def zwb(x:Au):wt x=wt x.To+wt x.F:=rfl
instance:Wt Nat:=⟨λ_=>0⟩
def Ok.guard{α γ β:Type}[Wt α][Wt γ]{l:List α}{m:List γ}{x:Option β}{P:β→Prop}(h:wt l+wt m≤bA)(k:Ok x P):Ok (cond (decide (l.length+m.length≤bA)) x none) P:=by
 have h1:=JB l;have h2:=JB m;rw[decide_eq_true (by omega)];exact k
def Ok.ble{α β:Type}[Wt α]{l:List α}{x:Option β}{P:β→Prop}(h:wt l≤bA)(k:Ok x P):Ok (cond (Nat.ble l.length bA) x none) P:=by
 have h1:=JB l;rw[Nat.ble_eq_true_of_le (by omega)];exact k
def Ok.chk{β:Type}{b:Bool}{x:Option β}{P:β→Prop}(h:b=true)(k:Ok x P):Ok (cond b x none) P:=by rw[h];exact k
def Ok.chkn{β:Type}{b:Bool}{x:Option β}{P:β→Prop}(h:b=false)(k:Ok x P):Ok (cond b none x) P:=by rw[h];exact k
def Ok.join{α β:Type}{F:α→Option β}{G:(α→Option β)→Option β}{P:β→Prop}(Q:α→Prop)(h1:∀y,Q y→Ok (F y) P)(h2:∀k:α→Option β,(∀y,Q y→Ok (k y) P)→Ok (G k) P):
  Ok (aA F G) P:=h2 F h1
def Ok.condR{α:Type}{b:Bool}{x y:Option α}{P:α→Prop}(h2:b=false→Ok y P)(h1:b=true→Ok x P):Ok (cond b x y) P:=Ok.cond' h1 h2
def Ok.loopR{σ R:Type}{f:σ→(σ→Option R)→Option R}{P:R→Prop}(inv:σ→Prop)(μ:σ→Nat){x:σ}(hx:inv x)(hμ:μ x<2^64)
  (h:∀x,inv x→∀k:σ→Option R,(∀y,inv y→μ y<μ x→Ok (k y) P)→Ok (f x k) P):Ok (qA FU f x) P:=Ok.loop inv μ h hx hμ
def Ok.idx{α:Type}{l:List α}{i:Int}(h0:0≤i)(h1:i<(l.length:Int)):Ok (kA l i) λx=>l[i.toNat]?=some x:=by
 obtain⟨j,rfl⟩:=Int.eq_ofNat_of_zero_le h0;have hj:j<l.length:=by omega
 exact⟨l[j],HB hj,by rw[Int.toNat_natCast,List.getElem?_eq_getElem hj]⟩
def Ok.get{α:Type}{l:List α}{i:Nat}(h:i<l.length):Ok (l[i]?) λx=>l[i]?=some x:=⟨l[i],List.getElem?_eq_getElem h,List.getElem?_eq_getElem h⟩
def Ok.same{α β:Type}{o:Option α}{a:α}{f:α→Option β}{P:β→Prop}(h:o=some a)(k:Ok (f a) P):Ok (Option.bind o f) P:=by rw[h];exact k
def zlV{α:Type}[Wt α]{l:List α}{i:Nat}{x:α}(h:l[i]?=some x):wt x+1≤wt l:=qV (List.mem_of_getElem? h)
def zC{α:Type}[Wt α]:∀(l:List α) (i:Nat) (x:α),wt (l.set i x)≤wt l+wt x
 | [],i,x=>by simp[DG]
 | y :: l,0,x=>by rw[List.set_cons_zero,vD,vD];omega
 | y :: l,i+1,x=>by rw[List.set_cons_succ,vD,vD];have:=zC l i x;omega
def pC{x a b:Int}:eA x a b=true↔a≤x∧x≤b:=by simp[eA]
def zs5{x a b:Int}:eA x a b=false↔¬(a≤x∧x≤b):=by rw[←Bool.not_eq_true,pC]
theorem DA{a b:Int}(h1: -9223372036854775808≤a+b)(h2:a+b≤9223372036854775807):iA .i64 a b=a+b:=XB h1 h2
theorem PA{a b:Int}(h1: -9223372036854775808≤a - b)(h2:a - b≤9223372036854775807):wA .i64 a b=a - b:=XB h1 h2
def hO{a b:Int}(h1:0≤a):EA .i64 a b=a % b:=Int.tmod_eq_emod_of_nonneg h1
def nV{e:Aw}(h:cD e=true):e.Key.length=32∧e.Win.Bits.length=32:=by
 simp only[cD,bD,AC,Bool.and_eq_true,beq_iff_eq]at h;omega
def zfA{w:Ap}(h:bD w=true):w.Bits.length=32∧ -1≤w.Top∧w.Top≤281474976710655:=by
 simp only[bD,AC,Bool.and_eq_true,beq_iff_eq,pC]at h;omega
def pD{f:Aa}(h:wB f=true):f.Cn.length≤12∧f.Sn.length≤12∧f.Cookie.length≤16∧f.Proof.length≤16∧f.Body.length≤40∧f.Tag.length≤16∧(f.Kind=3→1≤f.Id∧f.Id≤9):=by
 unfold wB at h;cases hs:gC f.Kind
 ·rw[hs,cond_false]at h;simp only[Bool.and_eq_true,beq_iff_eq]at h;obtain⟨⟨⟨⟨⟨h1,h2⟩,h3⟩,h4⟩,h5⟩,h6⟩:=h
  by_cases k1:f.Kind=1
  ·simp only[k1,beq_self_eq_true,cond_true,Bool.and_eq_true,beq_iff_eq,pC]at h6;omega
  ·have k1':(f.Kind==1)=false:=by simpa using k1
   rw[k1',cond_false]at h6
   by_cases k2:f.Kind=2
   ·simp only[k2,beq_self_eq_true,cond_true,Bool.and_eq_true,beq_iff_eq,pC]at h6;omega
   ·have k2':(f.Kind==2)=false:=by simpa using k2
    simp only[k2',cond_false,Bool.and_eq_true,beq_iff_eq,pC]at h6;omega
 ·rw[hs,cond_true]at h;simp only[Bool.and_eq_true,beq_iff_eq,pC]at h
  have hb:f.Body.length≤40:=by
   have hb:=h.1.2;unfold VF at hb;cases k4:f.Kind==4<;>rw[k4]at hb
   ·cases k5:f.Kind==5||f.Kind==6<;>rw[k5]at hb<;>simp at hb<;>omega
   ·simp at hb;omega
  unfold gC at hs;rw[pC]at hs;omega
def zf1{e:Aw}(h:MF e=true):e.Key.length=0∧e.Win.Bits.length=0:=by
 simp only[MF,Bool.and_eq_true,beq_iff_eq]at h;omega
def aV{c:Ak}(h:xC c=true):wt c≤172∧c.Sn.length=12∧c.Cur.Key.length=32:=by
 simp only[xC,CH,oA,Bool.and_eq_true,Bool.or_eq_true,beq_iff_eq]at h;obtain⟨⟨⟨⟨h1,h2⟩,h3⟩,h4⟩,h5⟩:=h;have h3:=nV h3
 have h6:c.Old.Key.length≤32∧c.Old.Win.Bits.length≤32:=by
  cases ho:c.HasOld
  ·rw[ho,cond_false,Bool.and_eq_true]at h4;have:=zf1 h4.1;omega
  ·rw[ho,cond_true]at h4;simp only[Bool.and_eq_true]at h4;have:=nV h4.1.1;omega
 simp only[xH,fL,IS,FA,aL];omega
def zfu{c:Ak}(h:rC c=true):wt c=0:=by
 simp only[rC,Bool.and_eq_true,beq_iff_eq]at h;obtain⟨⟨⟨⟨⟨⟨h1,h2⟩,h3⟩,h4⟩,h5⟩,h6⟩,h7⟩:=h;have h3:=zf1 h3;have h4:=zf1 h4;simp only[xH,fL,IS,FA,aL];omega
def zfa{f:Aa}(h:zF f=true):wt f=0:=by
 simp only[zF,Bool.and_eq_true,beq_iff_eq]at h;simp only[uH,FA];omega
def hM{α:Type}[Wt α](n:Nat):∀l:List α,(∀x∈l,wt x≤n)→wt l≤(n+1) *l.length
 | [],_=>by simp[DG]
 | x :: l,h=>by
  have h1:=h x (by simp);have h2:=hM n l λy hy=>h y (by simp[hy]);rw[vD,List.length_cons,Nat.mul_add];omega
def cS{n:Nat}{p:Nat→Bool}(h:(!FB n p)=true){i:Nat}(hi:i<n):p i=false:=by
 cases hp:p i
 ·rfl
 ·have:FB n p=true:=PN.2 ⟨i,hi,hp⟩;rw[this]at h;cases h
def SH{p:Aj}(h:qC p=true):wt p≤39∧p.Cands.length≤3:=by
 simp only[qC,Bool.and_eq_true,decide_eq_true_eq]at h;obtain⟨⟨h1,h2⟩,h3⟩:=h
 have hb:wt p.Cands≤(12+1) *p.Cands.length:=hM 12 p.Cands λx hx=>by
  obtain⟨i,hi,rfl⟩:=List.mem_iff_getElem.1 hx;have:=cS h3 hi;unfold eO at this;rw[List.getElem?_eq_getElem hi]at this;simp only[Option.any_some,Bool.or_eq_false_iff,Bool.not_eq_false',oA,beq_iff_eq]at this;simp only[lV,IE,FA];omega
 simp only[II,IE];omega
def NK{s:Ah}(h:uC s=true):wt s≤235∧s.Sn.length=12:=by
 simp only[uC,oA,Bool.and_eq_true,beq_iff_eq]at h;obtain⟨⟨⟨⟨h1,h2⟩,h3⟩,h4⟩,h5⟩:=h
 have h6:wt s.C+wt s.P≤211:=by
  cases hd:s.Dead
  ·rw[hd,cond_false]at h5;simp only[Bool.and_eq_true]at h5;have:=aV h5.1.1.1.1;have:=SH h5.1.2;omega
  ·rw[hd,cond_true]at h5;simp only[Bool.and_eq_true,beq_iff_eq]at h5;have:=zfu h5.1.1.1;have hl:s.P.Cands=[]:=List.eq_nil_of_length_eq_zero (by omega);have:wt s.P=0:=by rw[II,hl,IE];rfl
   omega
 simp only[VK,FA];omega
def ZK{t:Ao}(h:UC t=true):wt t≤2832∧t.L.length≤12:=by
 simp only[UC,Bool.and_eq_true,decide_eq_true_eq]at h;obtain⟨⟨⟨h1,h2⟩,h3⟩,h4⟩:=h
 have hb:wt t.L≤(235+1) *t.L.length:=hM 235 t.L λx hx=>by
  obtain⟨i,hi,rfl⟩:=List.mem_iff_getElem.1 hx;have:=cS h4 hi;unfold XK at this;rw[List.getElem?_eq_getElem hi]at this;simp only[Option.any_some,Bool.or_eq_false_iff,Bool.not_eq_false']at this;exact(NK this.1).1
 rw[XI];omega
theorem wI{l:List Al}(h:gD l=true):wt l≤8∧l.length≤8:=by
 simp only[gD,Bool.and_eq_true,decide_eq_true_eq]at h;have:=zci (α:=Al) (λ_=>rfl) l;omega
def UK{b:List UInt8}(h:CC b=true):1≤b.length∧b.length≤32:=by
 simp only[CC,pC]at h;omega
def QF{a:Ai}(h:MA a=true):0≤a.Host∧a.Host≤4294967295∧0≤a.Port∧a.Port≤65535:=by
 simp only[MA,Bool.and_eq_true,pC]at h;omega
def zcL{j:Ba}(h:dF j=true):j.Secret.length=32:=by
 simp only[dF,beq_iff_eq]at h;omega
def zkF{d:Ax}(h:BC d=true):d.Seed.length≤32:=by
 simp only[BC,Bool.and_eq_true,pC]at h;omega
def SF(s:Ac):Prop:=wt s≤3300∧s.T.L.length≤12∧s.Psks.length≤9∧s.J.Secret.length=32
def QH{s:Ac}(h:fC s=true):SF s:=by
 simp only[fC,Bool.and_eq_true,pC]at h;obtain⟨⟨⟨⟨⟨⟨h1,h2⟩,h3⟩,h4⟩,h5⟩,h6⟩,h7⟩:=h;have h2:=zcL h2;have h3:=zkF h3;have h4:=ZK h4;have h5:=wI h5
 have hb:wt s.Psks≤(32+1) *s.Psks.length:=hM 32 s.Psks λx hx=>by
  rw[Bool.not_eq_true',List.any_eq_false]at h6;have:=h6 x hx;simp only[Bool.not_eq_true',Bool.not_eq_false]at this;have:=UK this;rw[FA];omega
 simp only[SF,UL,KS,LI,FA];omega
def CF(c:Ad):Prop:=wt c≤350∧1≤c.Id∧c.Id≤9∧1≤c.Psk.length∧c.Psk.length≤32∧0≤c.At.Host∧c.At.Host≤4294967295∧0≤c.At.Port∧c.At.Port≤65535
def uG{c:Ad}(h:aC c=true):CF c:=by
 simp only[aC,Bool.and_eq_true,pC]at h;obtain⟨⟨⟨h1,h2⟩,h3⟩,h4⟩:=h;have h2:=UK h2;have h3:=QF h3
 have h5:wt c.Cn+wt c.Fin+wt c.C≤310:=by
  cases k0:c.St==0
  ·rw[k0,cond_false]at h4;cases k1:c.St==1
   ·rw[k1,cond_false]at h4;cases k2:c.St==2
    ·rw[k2,cond_false]at h4;simp only[Bool.and_eq_true,oA,beq_iff_eq]at h4;obtain⟨⟨⟨⟨⟨⟨⟨⟨_,a1⟩,a2⟩,a3⟩,_⟩,_⟩,_⟩,_⟩,_⟩:=h4;have a2:=zfa a2;have a3:=aV a3;rw[FA];omega
    ·rw[k2,cond_true]at h4;simp only[Bool.and_eq_true]at h4;have hf:=h4.1.1.1.1;simp only[UJ,Bool.and_eq_true,oA,beq_iff_eq]at hf;obtain⟨⟨⟨⟨⟨⟨⟨⟨⟨⟨a1,_⟩,a2⟩,_⟩,_⟩,a3⟩,_⟩,_⟩,_⟩,_⟩,_⟩:=hf;have a2:=pD a2;have a3:=aV a3;simp only[uH,FA];omega
   ·rw[k1,cond_true]at h4;simp only[Bool.and_eq_true,oA,beq_iff_eq]at h4;obtain⟨⟨⟨⟨⟨⟨a1,a2⟩,a3⟩,_⟩,_⟩,_⟩,_⟩:=h4;have a2:=zfa a2;have a3:=zfu a3;rw[FA];omega
  ·rw[k0,cond_true]at h4;simp only[Bool.and_eq_true,beq_iff_eq]at h4;obtain⟨⟨⟨⟨⟨a1,a2⟩,a3⟩,_⟩,_⟩,_⟩:=h4;have a2:=zfa a2;have a3:=zfu a3;rw[FA];omega
 simp only[CF,cM,IE,zcr,FA]at h5⊢;omega
def eF{α:Type}{p:Prop}{x:α}{P:α→Prop}(h:p)(k:P x):Ok (pt p x) P:=⟨x,uA h,k⟩
def lN{c:Ad}(h:wt c≤bA):Ok (ID c) λr=>r=true→CF c:=eF h uG
def PJ{c:Ak}(h:wt c≤bA):Ok (sC c) λr=>r=true→wt c≤172:=eF h λk=>(aV k).1
def LR{c:Ah}(h:wt c≤bA):Ok (FD c) λr=>r=true→wt c≤235:=eF h λk=>(NK k).1
def zkA{c:Ao}(h:wt c≤bA):Ok (iG c) λr=>r=true→wt c≤2832∧c.L.length≤12:=eF h ZK
def iU{c:Ac}(h:wt c≤bA):Ok (GC c) λr=>r=true→SF c:=eF h QH
def zG{b:List UInt8}{n k:Int}(h:wt b+6≤bA):Ok (UB b n k) λr=>r.length≤b.length+6:=eF h (by
 unfold AD;cases hc:decide (k<1)||decide (k>6)
 ·rw[cond_false,List.length_append,oN];simp only[Bool.or_eq_false_iff,decide_eq_false_iff_not]at hc;omega
 ·rw[cond_true];omega)
def zcR{b:List UInt8}{n k:Int}(h:wt b≤bA):Ok (ZG b n k) λ_=>True:=eF h trivial
def mM(k b:List UInt8):(VC k b).length≤32:=by
 unfold VC;cases decide ((k.length:Int)>1048576)||decide ((b.length:Int)>1048512)
 ·exact tV _
 ·exact Nat.zero_le _
def zcU{d:Ax}(h:wt d≤bA):Ok (zE d) λr=>wt r.1≤wt d∧r.2.length≤12:=eF h (by
 unfold iE;cases !BC d||d.N==10000
 ·exact⟨Nat.le_refl _,KU _ _⟩
 ·exact⟨Nat.le_refl _,Nat.zero_le _⟩)
def XL{k l:List UInt8}(h:wt l≤bA):Ok (GE k l) λr=>r.length≤32:=eF h (UR k l)
def FN(t:Ao)(b:List UInt8): -1≤JE t b∧JE t b<(t.L.length:Int):=by
 unfold JE
 rcases AJ t.L.length (lG t b)with⟨_,h⟩ | ⟨m,h1,_,_,h⟩<;>rw[h]<;>omega
def JS(l:List Al)(a:Ai): -1≤qB l a∧qB l a<(l.length:Int):=by
 unfold qB
 rcases AJ l.length (JG l a)with⟨_,h⟩ | ⟨m,h1,_,_,h⟩<;>rw[h]<;>omega
def zb9{t:Ao}{b:List UInt8}(h:wt t≤bA∧wt b≤bA):Ok (ED t b) λr=> -1≤r∧r<(t.L.length:Int)∧r=JE t b:=eF h ⟨(FN t b).1,(FN t b).2,rfl⟩
def zva{t:Ao}(h:wt t≤bA):Ok (bJ t) λ_=>True:=eF h trivial
def cV{a b:List UInt8}(h:wt a≤bA∧wt b≤bA):Ok (BB a b) λ_=>True:=eF h trivial
def zv7{w:Ap}{n:Int}(h:0≤n∧w.Bits.length=32):Ok (NF w n) λ_=>True:=eF h trivial
def zic{id:Int}{p:List UInt8}{a:Ai}(h:wt p≤bA)(h1:1≤id∧id≤9)(h2:1≤p.length∧p.length≤32)(h3:0≤a.Host∧a.Host≤4294967295∧0≤a.Port∧a.Port≤65535):
  Ok (DI id p a) λr=>wt r≤p.length∧r.Id=id:=eF h (by
 have e1:eA id 1 9=true:=pC.2 h1;have e2:CC p=true:=pC.2 (by omega)
 have e3:MA a=true:=by
  unfold MA;rw[Bool.and_eq_true,pC,pC];omega
 unfold QB;rw[e1,e2,e3];refine⟨?_,rfl⟩;simp only[Bool.and_self,cond_true,FI,cM,IE,zcr,FA];show p.length+0+0+wt zf2+wt zgn+0+0≤p.length
 have:wt zf2=0:=rfl;have:wt zgn=0:=rfl;omega)
def zaq{b:List UInt8}(h:wt b≤bA):vE b=some (VE b):=uA h
def zsV{p:Aj}{a:Ai}(h:wt p≤bA):Ok (pM p a) λr=>wt r.1≤39∧(r.2=true→wt p≤39∧p.Cands.length≤3):=eF h (by
 unfold dK;cases hp:qC p
 ·exact⟨Nat.zero_le _,λh=>nomatch h⟩
 ·have hf:=SH hp;rw[cond_true];cases hc:p.Cands.find? λe=>PB e.A a with
  | none=>exact⟨Nat.zero_le _,λh=>nomatch h⟩
  | some e=>
   have:=qV (List.mem_of_find?_eq_some hc);have hw:wt p=wt p.Cands:=by rw[II,IE];omega
   refine⟨?_,λ_=>hf⟩;show wt e≤39
   omega)
def eJ(l:List Ad)(i:Nat):Int:=match l[i]? with
 | some c=>c.Id
 | none=>0
def TW(w:Ab):Prop:=w.Clients.length=2∧eJ w.Clients 0=1∧eJ w.Clients 1=2
def vG{l:List Ad}{i:Nat}{x:Ad}(h:l[i]?=some x):eJ l i=x.Id:=by unfold eJ;rw[h]
def iM{l:List Ad}{i:Nat}{x:Ad}(h:x.Id=eJ l i)(hi:i<l.length)(j:Nat):eJ (l.set i x) j=eJ l j:=by
 unfold eJ at h⊢;rw[List.getElem?_set]
 by_cases hj:i=j
 ·subst hj;rw[if_pos rfl,if_pos hi];exact h
 ·rw[if_neg hj]
def zeX{w:Ab}{a:Ai}(h:wt w≤bA)(h2:TW w):Ok (SK w a) λr=> -1≤r∧r≤2:=eF h (by
 unfold gO;cases PB a tE
 ·rw[cond_false];cases hc:w.Clients.find? λc=>PB c.At a with
  | none=>show -1≤(-1:Int)∧(-1:Int)≤2;omega
  | some c=>
   obtain⟨i,hi,he⟩:=List.mem_iff_getElem.1 (List.mem_of_find?_eq_some hc);have:=vG (List.getElem?_eq_getElem hi);rw[he]at this;obtain⟨h1,h3,h4⟩:=h2;show -1≤c.Id∧c.Id≤2
   have:i=0∨i=1:=by omega
   rcases this with rfl | rfl<;>omega
 ·rw[cond_true];omega)
def wM{α:Type}{l:List α}{i:Nat}{x:α}(h:l[i]?=some x):i<l.length:=(List.getElem?_eq_some_iff.1 h).1
def dB{c:Af}{l:List Int}(lo hi:Int)(h:mA c)(hl:l≠[])(hb:∀x∈l,lo≤x∧x≤hi):Ok (As c l) λr=>(lo≤r.1∧r.1≤hi)∧mA r.2:=
 (zfL h hl).mono λr hr=>⟨hb _ hr.1,hr.2⟩
def TA{c:Af}{n:Int}(h:mA c):Ok (Ar c n) λr=>0≤r.1∧(0<n→r.1<n)∧(n≤0→r.1=0)∧mA r.2:=zfe h
def zqa{c:Af}(h:mA c):Ok (Cl c) λr=>0≤r.1∧r.1≤255∧mA r.2:=nS h
def MB{c:Af}{n:Int}(h:mA c)(hn:n≤1048576):Ok (Ay c n) λr=>r.1.length=n.toNat∧mA r.2:=zsf h hn
def uE{c:Af}{n:Int}(h:mA c):Ok (Bb c n) λr=>mA r.2:=zuj h
def zie{code:List UInt8}(h:code.length≤1048576):Ok (Gi code) mA:=zuW h
def N:(∀x:Ad,wt x=wt x.Psk+wt x.Cn+wt x.Fin+wt x.C)∧(∀x:Ak,wt x=x.Sn.length+wt x.Cur+wt x.Old+x.Next.length)∧(∀x:Aw,wt x=x.Key.length+wt x.Win)∧(∀x:Ap,wt x=x.Bits.length)∧
  (∀x:Aa,wt x=x.Cn.length+x.Sn.length+x.Cookie.length+x.Proof.length+x.Body.length+x.Tag.length)∧(∀x:Ae,wt x=x.Cn.length+x.Sn.length+x.Body.length+x.Key.length)∧
  (∀x:Ah,wt x=x.Cn.length+x.Sn.length+wt x.C+wt x.P)∧(∀x:Aj,wt x=wt x.Cands)∧(∀x:Az,wt x=x.Draw.length)∧(∀x:Ao,wt x=wt x.L)∧
  (∀x:Ac,wt x=wt x.Psks+wt x.J+wt x.D+wt x.T+wt x.Cr)∧(∀x:Ba,wt x=x.Secret.length)∧(∀x:Ax,wt x=x.Seed.length)∧(∀x:Al,wt x=0)∧(∀x:Am,wt x=x.B.length)∧
  (∀x:Ab,wt x=wt x.Clients+wt x.S+wt x.D+wt x.Seen+wt x.Known+wt x.Notes)∧(∀x:Bc,wt x=x.B.length)∧(∀x:Aq,wt x=x.B.length+wt x.Ops)∧(∀x:Au,wt x=wt x.F)∧
  (∀p:Prop,(True∧p)=p)∧(∀p:Prop,(p∧True)=p)∧(∀x:UInt8,wt x=0)∧(∀x:Int,wt x=0)∧(∀x:Nat,wt x=0)∧(∀x:List UInt8,wt x=x.length)∧(∀x:List Int,wt x=x.length)∧(∀(α:Type) [Wt α] (l m:List α),wt (l++m)=wt l+wt m)∧(∀(α:Type) [Wt α] (x:α) (l:List α),wt (x :: l)=wt x+wt l+1)∧(∀(α:Type) [Wt α],wt ([]:List α)=0)∧
  (∀(α:Type) (l m:List α),(l++m).length=l.length+m.length)∧(∀(α:Type) (x:α) (l:List α),(x :: l).length=l.length+1)∧(∀(α:Type),([]:List α).length=0)∧(∀(α:Type) (l:List α) (i:Nat) (x:α),(l.set i x).length=l.length)∧
  (∀(α:Type) (l:List α) (i:Nat),(l.take i).length=min i l.length)∧(∀(α:Type) (l:List α) (i:Nat),(l.drop i).length=l.length - i)∧
  (∀c,CF c↔(wt c≤350∧1≤c.Id∧c.Id≤9∧1≤c.Psk.length∧c.Psk.length≤32∧0≤c.At.Host∧c.At.Host≤4294967295∧0≤c.At.Port∧c.At.Port≤65535))∧
  (∀s,SF s↔(wt s≤3300∧s.T.L.length≤12∧s.Psks.length≤9∧s.J.Secret.length=32))∧(∀w,TW w↔(w.Clients.length=2∧eJ w.Clients 0=1∧eJ w.Clients 1=2))∧(∀c,mA c↔(0≤c.i∧c.i≤c.b.length∧c.b.length≤1048576)):=by
 refine⟨λx=>?_,λx=>?_,λx=>?_,λx=>?_,λx=>?_,λx=>?_,λx=>?_,λx=>?_,λx=>?_,λx=>?_,λx=>?_,λx=>?_,λx=>?_,λx=>?_,λx=>?_,λx=>?_,λx=>?_,λx=>?_,λx=>?_,
  true_and,and_true,λ_=>rfl,λ_=>rfl,λ_=>rfl,FA,aL,λ_ _=>EU,λ_ _=>vD,λ_ _=>DG,λ_ _ _=>List.length_append,λ_ _ _=>List.length_cons,λ_=>List.length_nil,λ_ _ _ _=>List.length_set,λ_ _ _=>List.length_take,λ_ _ _=>List.length_drop,
  λ_=>Iff.rfl,λ_=>Iff.rfl,λ_=>Iff.rfl,λ_=>Iff.rfl⟩
 ·rw[cM,IE,zcr,zcr];omega
 ·rw[xH,FA,FA]
 ·rw[fL,FA]
 ·rw[IS,aL]
 ·rw[uH,FA,FA,FA,FA,FA,FA]
 ·rw[PI,FA,FA,FA,FA,IE];omega
 ·rw[VK,FA,FA]
 ·rw[II,IE];omega
 ·rw[lV,IE,FA];omega
 ·rw[XI]
 ·rw[UL]
 ·rw[KS,FA]
 ·rw[LI,FA]
 ·rfl
 ·rw[kV,IE,IE,FA];omega
 ·rw[KI]
 ·rw[zwl,FA]
 ·rw[ztQ,FA]
 ·rw[zwb,IE];omega
def B:(∀b:Bool,((!b)=true)=(b=false))∧(∀b:Bool,((!b)=false)=(b=true))∧(∀(p:Prop) [Decidable p],(decide p=true)=p)∧(∀(p:Prop) [Decidable p],(decide p=false)=¬p)∧
  (∀(α:Type) [BEq α] [LawfulBEq α] (a b:α),((a==b)=true)=(a=b))∧(∀(α:Type) [BEq α] [LawfulBEq α] (a b:α),((a==b)=false)=¬(a=b))∧
  (∀(α:Type) [BEq α] [LawfulBEq α] (a b:α),((a !=b)=true)=¬(a=b))∧(∀(α:Type) [BEq α] [LawfulBEq α] (a b:α),((a !=b)=false)=(a=b))∧
  (∀x a b:Int,(eA x a b=true)=(a≤x∧x≤b))∧(∀x a b:Int,(eA x a b=false)=¬(a≤x∧x≤b))∧(∀a b:Bool,((a&&b)=true)=(a=true∧b=true))∧(∀a b:Bool,((a||b)=true)=(a=true∨b=true)):=by
 refine⟨λb=>by cases b<;>simp,λb=>by cases b<;>simp,λp _=>by simp,λp _=>by simp,λ_ _ _ a b=>by simp,λ_ _ _ a b=>by simp,λ_ _ _ a b=>by simp,λ_ _ _ a b=>by simp,
  λx a b=>propext pC,λx a b=>propext zs5,λa b=>by simp,λa b=>by simp⟩
end Go.D
namespace Go.D
namespace Ok
variable {α β σ:Type} {P:β→Prop}
def s{x:α}{P:α→Prop}(h:P x):Ok (some x) P:=⟨x,rfl,h⟩
def x{P:α→Prop}(h:False):Ok (none:Option α) P:=h.elim
def c{b:Bool}{x y:Option β}(h1:b=true→Ok x P)(h2:b=false→Ok y P):Ok (cond b x y) P:=Ok.cond' h1 h2
def b{o:Option α}{P:α→Prop}{Q:β→Prop}{f:α→Option β}(h:Ok o P)(k:∀r,P r→Ok (f r) Q):Ok (Option.bind o f) Q:=Ok.bind h k
def g{γ:Type}[Wt α][Wt γ]{l:List α}{m:List γ}{x:Option β}(h:wt l+wt m≤bA)(k:Ok x P):Ok (cond (decide (l.length+m.length≤bA)) x none) P:=Ok.guard h k
def e[Wt α]{l:List α}{x:Option β}(h:wt l≤bA)(k:Ok x P):Ok (cond (Nat.ble l.length bA) x none) P:=Ok.ble h k
def h{b:Bool}{x:Option β}(h:b=true)(k:Ok x P):Ok (cond b x none) P:=Ok.chk h k
def n{b:Bool}{x:Option β}(h:b=false)(k:Ok x P):Ok (cond b none x) P:=Ok.chkn h k
def j{F:α→Option β}{G:(α→Option β)→Option β}(Q:α→Prop)(h1:∀y,Q y→Ok (F y) P)(h2:∀k:α→Option β,(∀y,Q y→Ok (k y) P)→Ok (G k) P):Ok (aA F G) P:=h2 F h1
def jt{F:α→Option β}{G:(α→Option β)→Option β}(h1:∀y,Ok (F y) P)(h2:∀k:α→Option β,(∀y,Ok (k y) P)→Ok (G k) P):Ok (aA F G) P:=h2 F h1
def bi[Wt α]{l:List α}{i:Int}{f:α→Option β}(h0:0≤i)(h1:i<(l.length:Int))(k:∀x,l[i.toNat]?=some x→wt x+1≤wt l→Ok (f x) P):Ok (Option.bind (kA l i) f) P:=Ok.bind (Ok.idx h0 h1) λx hx=>k x hx (zlV hx)
def bg[Wt α]{l:List α}{i:Nat}{f:α→Option β}(h:i<l.length)(k:∀x,l[i]?=some x→wt x+1≤wt l→Ok (f x) P):Ok (Option.bind (l[i]?) f) P:=Ok.bind (Ok.get h) λx hx=>k x hx (zlV hx)
def m{o:Option α}{a:α}{f:α→Option β}(h:o=some a)(k:Ok (f a) P):Ok (Option.bind o f) P:=Ok.same h k
def cp[Wt α]{a:α}{f:α→Option β}(h:wt a≤bA)(k:Ok (f a) P):Ok (Option.bind (nA a) f) P:=Ok.same (uA h) k
def l{f:σ→(σ→Option β)→Option β}{x:σ}(inv:σ→Prop)(μ:σ→Nat)(h:∀x,inv x→∀k:σ→Option β,(∀y,inv y→μ y<μ x→Ok (k y) P)→Ok (f x k) P)(hx:inv x)(hμ:μ x<2^64):Ok (qA FU f x) P:=Ok.loop inv μ h hx hμ
end Ok
def NB:=And.intro B (And.intro N IB)
def nf{b:Bool}(h:(!b)=false):b=true:=by simpa using h
def nt{b:Bool}(h:(!b)=true):b=false:=by simpa using h
end Go.D
