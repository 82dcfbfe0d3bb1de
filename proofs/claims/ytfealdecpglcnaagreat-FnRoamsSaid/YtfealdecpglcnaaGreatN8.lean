/-
 Sizes of the program's data.
-/
import Derived.Test.YtfealdecpglcnaaGreatN9
set_option linter.all false
namespace Go.D
end Go.D
namespace Go.D
noncomputable def zdp(e:Av)(_:Bool):Option Av:=pt (wt e≤bA) e
end Go.D
namespace Go.D
open Option renaming bind→ob
noncomputable section
def Iw(a0:As):=ob (Bt a0 8) λr1=>ob (Bt r1.2 6) λr2=>ob (Bt r2.2 9) λr3=>ob (Az r3.2 3) λr4=>ob (zfF r1.1 r2.1 r3.1 (fA .i64 1 r4.1)) λr5=>some (r5,r4.2)
def Mp(a0:Ap):=cond (([]:List Int).length+a0.Bits.length≤bA) (some (⟨a0.Top,[]++a0.Bits⟩:Ap)) none
def Mq(a0:Av):=cond (([]:List UInt8).length+a0.Key.length≤bA) (ob (kA a0.Win) λr1=>some (⟨a0.N,[]++a0.Key,a0.Seq,r1⟩:Av)) none
def Mr(a0:Av)(a1:Bool):=cond (!a1) (cond (([]:List UInt8).length+a0.Key.length≤bA) (cond (([]:List Int).length+a0.Win.Bits.length≤bA) (some (⟨a0.N,[]++a0.Key,a0.Seq,(⟨a0.Win.Top,[]++a0.Win.Bits⟩:Ap)⟩:Av)) none) none) (ob (kA a0) λr1=>some r1)
def Ms(a0:Aj):=cond (([]:List UInt8).length+a0.Sn.length≤bA) (ob (kA a0.Cur) λr1=>ob (zdp a0.Old a0.HasOld) λr2=>cond (([]:List UInt8).length+a0.Next.length≤bA) (some (⟨a0.Role,[]++a0.Sn,r1,r2,a0.HasOld,a0.Until,[]++a0.Next⟩:Aj)) none) none
def Mt(a0:Ai):=aA (λ(y1:Ai)=>some y1) λk2=>uA FU (λ(x3:Int×Ai) k4=>cond (x3.1<(a0.Cands.length:Int)) (ob (jA a0.Cands x3.1) λe5=>ob (GH e5) λr6=>cond (x3.2.Cands.length+[r6].length≤bA) (k4 ((fA .i64 x3.1 1),(⟨x3.2.At,x3.2.Cands++[r6]⟩:Ai))) none) (k2 x3.2)) (0,(⟨a0.At,[]⟩:Ai))
def Mu(a0:Ah):=cond (([]:List UInt8).length+a0.Cn.length≤bA) (cond (([]:List UInt8).length+a0.Sn.length≤bA) (ob (kA a0.C) λr1=>ob (kA a0.P) λr2=>some (⟨a0.Id,[]++a0.Cn,[]++a0.Sn,r1,r2,a0.Tick,a0.Last,a0.Dead⟩:Ah)) none) none
def Mw(a0:Ao):=aA (λ(y1:Ao)=>some y1) λk2=>uA FU (λ(x3:Int×Ao) k4=>cond (x3.1<(a0.L.length:Int)) (ob (jA a0.L x3.1) λe5=>ob (kA e5) λr6=>cond (x3.2.L.length+[r6].length≤bA) (k4 ((fA .i64 x3.1 1),(⟨x3.2.Cap,x3.2.L++[r6]⟩:Ao))) none) (k2 x3.2)) (0,(⟨a0.Cap,[]⟩:Ao))
def Mx(a0:Ac):=cond (([]:List UInt8).length+a0.J.Secret.length≤bA) (ob (mK a0.D) λr1=>ob (kA a0.T) λr2=>cond (([]:List Ak).length+a0.Cr.length≤bA) (aA (λ(y3:Ac)=>some y3) λk4=>uA FU (λ(x5:Int×Ac) k6=>cond (x5.1<(a0.Psks.length:Int)) (ob (jA a0.Psks x5.1) λe7=>cond (([]:List UInt8).length+e7.length≤bA) (cond (x5.2.Psks.length+[[]++e7].length≤bA) (k6 ((fA .i64 x5.1 1),(⟨x5.2.Psks++[[]++e7],x5.2.J,x5.2.D,x5.2.T,x5.2.Cr⟩:Ac))) none) none) (k4 x5.2)) (0,(⟨[],(⟨[]++a0.J.Secret⟩:Ay),r1,r2,[]++a0.Cr⟩:Ac))) none) none
def My(a0:List Al):=aA (λ(y1:(List Al))=>some y1) λk2=>uA FU (λ(x3:(List Al)×Int) k4=>cond (x3.2<(a0.length:Int)) (ob (jA a0 x3.2) λe5=>ob (jA a0 x3.2) λe6=>ob (jA a0 x3.2) λe7=>cond (([]:List UInt8).length+e7.B.length≤bA) (cond (x3.1.length+[(⟨e5.From,e6.To,[]++e7.B⟩:Al)].length≤bA) (k4 ((x3.1++[(⟨e5.From,e6.To,[]++e7.B⟩:Al)]),(fA .i64 x3.2 1))) none) none) (k2 x3.1)) ([],0)
def Mz(a0:Ad):=cond (([]:List UInt8).length+a0.Cn.length≤bA) (cond (([]:List UInt8).length+a0.Sn.length≤bA) (cond (([]:List UInt8).length+a0.Body.length≤bA) (cond (([]:List UInt8).length+a0.Key.length≤bA) (some (⟨a0.Kind,a0.Id,a0.Role,[]++a0.Cn,[]++a0.Sn,a0.Epoch,a0.Seq,[]++a0.Body,[]++a0.Key,a0.A,a0.Now⟩:Ad)) none) none) none) none
def Na(a0:List Ad):=aA (λ(y1:(List Ad))=>some y1) λk2=>uA FU (λ(x3:(List Ad)×Int) k4=>cond (x3.2<(a0.length:Int)) (ob (jA a0 x3.2) λe5=>ob (kA e5) λr6=>cond (x3.1.length+[r6].length≤bA) (k4 ((x3.1++[r6]),(fA .i64 x3.2 1))) none) (k2 x3.1)) ([],0)
def Nb(a0:Ab):=cond (([]:List UInt8).length+a0.Cn.length≤bA) (cond (([]:List UInt8).length+a0.Sn.length≤bA) (cond (([]:List UInt8).length+a0.Cookie.length≤bA) (cond (([]:List UInt8).length+a0.Proof.length≤bA) (cond (([]:List UInt8).length+a0.Body.length≤bA) (cond (([]:List UInt8).length+a0.Tag.length≤bA) (some (⟨a0.Kind,a0.Id,[]++a0.Cn,[]++a0.Sn,a0.Tick,[]++a0.Cookie,[]++a0.Proof,a0.Epoch,a0.Seq,[]++a0.Body,[]++a0.Tag⟩:Ab)) none) none) none) none) none) none
def Nc(a0:Ae):=cond (([]:List UInt8).length+a0.Psk.length≤bA) (cond (([]:List UInt8).length+a0.Cn.length≤bA) (ob (kA a0.Fin) λr1=>ob (kA a0.C) λr2=>some (⟨a0.Id,[]++a0.Psk,a0.At,a0.St,[]++a0.Cn,r1,r2,a0.T,a0.R,a0.Last⟩:Ae)) none) none
def Nd(a0:Aa):=ob (kA a0.S) λr1=>ob (mK a0.D) λr2=>ob (kA a0.Seen) λr3=>ob (kA a0.Notes) λr4=>aA (λ(y5:Aa)=>aA (λ(y11:Aa)=>some y11) λk12=>uA FU (λ(x13:Int×Aa) k14=>cond (x13.1<(a0.Known.length:Int)) (ob (jA a0.Known x13.1) λe15=>cond (([]:List UInt8).length+e15.length≤bA) (cond (x13.2.Known.length+[[]++e15].length≤bA) (k14 ((fA .i64 x13.1 1),(⟨x13.2.Now,x13.2.Clients,x13.2.S,x13.2.D,x13.2.Seen,x13.2.Known++[[]++e15],x13.2.Notes⟩:Aa))) none) none) (k12 x13.2)) (0,y5)) λk6=>uA FU (λ(x7:Int×Aa) k8=>cond (x7.1<(a0.Clients.length:Int)) (ob (jA a0.Clients x7.1) λe9=>ob (kA e9) λr10=>cond (x7.2.Clients.length+[r10].length≤bA) (k8 ((fA .i64 x7.1 1),(⟨x7.2.Now,x7.2.Clients++[r10],x7.2.S,x7.2.D,x7.2.Seen,x7.2.Known,x7.2.Notes⟩:Aa))) none) (k6 x7.2)) (0,(⟨a0.Now,[],r1,r2,r3,[],r4⟩:Aa))
def Ji(a0:As):=ob (Db a0 [1,1,2,2,3,4,4,5,5,6,7,8,9,10]) λr1=>aA (λ(y2:As×Bb)=>ob (Az y2.1 5) λr6=>ob (Db r6.2 [0,1,4,12,16]) λr7=>some ((⟨y2.2.Kind,r6.1,r7.1,y2.2.B⟩:Bb),r7.2)) λk3=>cond (r1.1==1) (ob (Db r1.2 [0,1,4,12,32]) λr4=>ob (Bt r4.2 r4.1) λr5=>k3 (r5.2,(⟨r1.1,0,0,r5.1⟩:Bb))) (k3 (r1.2,(⟨r1.1,0,0,[]⟩:Bb)))
def Dt(a0:Int):Option Int:=cond (0≤a0&&a0<([0,0,0,0,1,2,2,2,2,1,3].length:Int)) (ob ([0,0,0,0,1,2,2,2,2,1,3][a0.toNat]?) λe1=>some e1) none
def Ix(a0:As)(a1:Int):Option ((List Bb)×As):=ob (Az a0 a1) λr1=>aA (λ(y2:(List Bb)×Int×As)=>aA (λ(y16:(List Bb))=>some (y16,y2.2.2)) λk17=>uA FU (λ(x18:(List Bb)×Int) k19=>cond (x18.2>1) (cond (x18.1.length+[(⟨5,0,0,[]⟩:Bb)].length≤bA) (k19 ((x18.1++[(⟨5,0,0,[]⟩:Bb)]),(oA .i64 x18.2 1))) none) (k17 x18.1)) (y2.1,y2.2.1)) λk3=>uA FU (λ(x4:(List Bb)×Int×Int×As) k5=>cond (x4.2.2.1>0) (ob (Ji x4.2.2.2) λr6=>aA (λ(y7:As×Bb)=>ob (Dt y7.2.Kind) λr15=>cond (x4.1.length+[y7.2].length≤bA) (k5 ((x4.1++[y7.2]),(fA .i64 (oA .i64 x4.2.1 r15) 1),(oA .i64 x4.2.2.1 1),y7.1)) none) λk8=>uA FU (λ(x9:Int×As×Bb) k10=>aA (λy11=>cond (y11) (ob (Ji x9.2.1) λr14=>k10 ((fA .i64 x9.1 1),r14.2,r14.1)) (k8 (x9.2.1,x9.2.2))) λk12=>cond (x9.1<6) (ob (Dt x9.2.2.Kind) λr13=>k12 (decide (r13>x4.2.1))) (k12 false)) (0,r6.2,r6.1)) (k3 (x4.1,x4.2.1,x4.2.2.2))) ([],0,(fA .i64 1 r1.1),r1.2)
def Iy(a0:As):=ob (Az a0 6) λr1=>cond (r1.1==0) (ob (Az r1.2 2) λr2=>ob (Bt r2.2 12) λr3=>some (fA .i64 5 r2.1,r3.1,r3.2)) (cond (r1.1==1) (ob (Az r1.2 2) λr4=>ob (Bt r4.2 4) λr5=>some (fA .i64 7 r4.1,r5.1,r5.2)) (ob (Db r1.2 [0,1,3,12,33,40]) λr6=>ob (Bt r6.2 r6.1) λr7=>some (4,r7.1,r7.2)))
def Cm(a0:Int)(a1:List UInt8)(a2:Int)(a3:Int):=aA (λy1=>cond (y1) (some []) (cond ([UInt8.ofNat (IntKind.wrap .u8 a0:Int).toNat].length+a1.length≤bA) (ob (JB ([UInt8.ofNat (IntKind.wrap .u8 a0:Int).toNat]++a1) a2 4) λr3=>ob (JB r3 a3 6) λr4=>some r4) none)) λk2=>cond (!(eA a0 0 1)) (k2 true) (cond ((a1.length:Int) !=12) (k2 true) (cond (!(eA a2 0 4294967295)) (k2 true) (k2 (!(eA a3 0 281474976710655)))))
def Gv(a0:List UInt8)(a1:List UInt8)(a2:Int):=
 aA (λy1=>
 cond (y1)
 (some [])
 (cond ([UInt8.ofNat (115:Int).toNat].length+a1.length≤bA) (ob (JB ([UInt8.ofNat (115:Int).toNat]++a1) a2 4) λr3=>
 let r4:(List UInt8):=TC a0 r3
 some r4) none)) λk2=>
 cond (!(eA a2 0 6))
 (k2 true)
 (k2 (decide ((a1.length:Int)>100)))
def Er(a0:List UInt8)(a1:List UInt8)(a2:Int):=aA (λy1=>cond (y1) (some []) (aA (λ(y3:(List UInt8))=>cond (decide (0≤(0:Int))&&decide ((0:Int)≤a2)&&decide (a2≤(y3.length:Int))) (cond (([]:List UInt8).length+(List.take ((a2 - 0).toNat) (List.drop 0 y3)).length≤bA) (some ([]++(List.take ((a2 - 0).toNat) (List.drop 0 y3)))) none) none) λk4=>uA FU (λ(x5:(List UInt8)×Int) k6=>cond ((x5.1.length:Int)<a2) (ob (Gv a0 a1 x5.2) λr7=>cond (x5.1.length+r7.length≤bA) (k6 ((x5.1++r7),(fA .i64 x5.2 1))) none) (k4 x5.1)) ([],0))) λk2=>cond (!(eA a2 0 200)) (k2 true) (cond ((a1.length:Int)>100) (k2 true) (k2 (decide ((a0.length:Int)>1048576))))
def Es(a0:List UInt8)(a1:List UInt8)(a2:List UInt8):=
 aA (λy1=>
 cond (y1)
 (some [])
 (ob (Er a0 a1 (a2.length:Int)) λr3=>
 aA (λ(y4:(List UInt8))=>
 some y4) λk5=>
 uA FU (λ(x6:(List UInt8)×Int) k7=>
 cond (x6.2<(a2.length:Int))
 (ob (jA a2 x6.2) λe8=>
 cond (0≤x6.2&&x6.2<(r3.length:Int)) (ob (r3[x6.2.toNat]?) λe9=>
 let x10:Int:=AB .u8 ((e8.toNat:Nat):Int) ((e9.toNat:Nat):Int)
 cond (x6.1.length+[UInt8.ofNat (x10:Int).toNat].length≤bA) (k7 ((x6.1++[UInt8.ofNat (x10:Int).toNat]),(fA .i64 x6.2 1))) none) none)
 (k5 x6.1)) ([],0))) λk2=>
 cond ((a2.length:Int)>200)
 (k2 true)
 (cond ((a1.length:Int)>100)
 (k2 true)
 (k2 (decide ((a0.length:Int)>1048576))))
def Ce(a0:Int)(a1:Ab):=
 aA (λy1=>
 cond (y1)
 (some [])
 (ob (Cm a0 a1.Sn a1.Epoch a1.Seq) λr3=>
 cond ([UInt8.ofNat (116:Int).toNat].length+r3.length≤bA) (cond (([UInt8.ofNat (116:Int).toNat]++r3).length+[UInt8.ofNat (IntKind.wrap .u8 a1.Kind:Int).toNat].length≤bA) (let x4:List UInt8:=([UInt8.ofNat (116:Int).toNat]++r3)++[UInt8.ofNat (IntKind.wrap .u8 a1.Kind:Int).toNat]
 cond (x4.length+a1.Body.length≤bA) (some (x4++a1.Body)) none) none) none)) λk2=>
 cond (!(eA a0 0 1))
 (k2 true)
 (cond (!(TA a1))
 (k2 true)
 (k2 (!(nB a1.Kind))))
def Dd(a0:List UInt8)(a1:List UInt8):=
 let r1:(List UInt8):=TC a0 a1
 cond ((r1.length:Int)<16)
 (some [])
 (cond (decide (0≤(0:Int))&&decide ((0:Int)≤16)&&decide (16≤(r1.length:Int))) (cond (([]:List UInt8).length+(List.take 16 (List.drop 0 r1)).length≤bA) (some ([]++(List.take 16 (List.drop 0 r1)))) none) none)
def Fl(a0:List UInt8)(a1:Int)(a2:List UInt8)(a3:Int)(a4:Int)(a5:Int)(a6:List UInt8):=ob (Cm a1 a2 a3 a4) λr1=>aA (λy2=>cond (y2) (some ((⟨0,0,[],[],0,[],[],0,0,[],[]⟩:Ab),false)) (cond (([]:List UInt8).length+a2.length≤bA) (ob (Es a0 r1 a6) λr4=>aA (λ(y5:Ab)=>ob (Ce a1 y5) λr9=>ob (Dd a0 r9) λr10=>some ((⟨y5.Kind,y5.Id,y5.Cn,y5.Sn,y5.Tick,y5.Cookie,y5.Proof,y5.Epoch,y5.Seq,y5.Body,r10⟩:Ab),true)) λk6=>uA FU (λ(x7:Int×Ab) k8=>cond (x7.1<16) (cond (x7.2.Tag.length+[UInt8.ofNat (0:Int).toNat].length≤bA) (k8 ((fA .i64 x7.1 1),(⟨x7.2.Kind,x7.2.Id,x7.2.Cn,x7.2.Sn,x7.2.Tick,x7.2.Cookie,x7.2.Proof,x7.2.Epoch,x7.2.Seq,x7.2.Body,x7.2.Tag++[UInt8.ofNat (0:Int).toNat]⟩:Ab))) none) (k6 x7.2)) (0,(⟨a5,0,[],[]++a2,0,[],[],a3,a4,r4,[]⟩:Ab))) none)) λk3=>cond ((a0.length:Int) !=32) (k3 true) (cond ((r1.length:Int)==0) (k3 true) (cond (!(nB a5)) (k3 true) (k3 (!(tE a5 (a6.length:Int))))))
def Iz(a0:List UInt8)(a1:Int)(a2:Int)(a3:List UInt8)(a4:Int)(a5:Int)(a6:Int)(a7:List UInt8):=
 ob (Fl a0 a2 a3 a4 a5 a6 a7) λr1=>
 aA (λy2=>
 cond (y2)
 (some [])
 (cond ([UInt8.ofNat (IntKind.wrap .u8 a6:Int).toNat].length+a3.length≤bA) (ob (JB ([UInt8.ofNat (IntKind.wrap .u8 a6:Int).toNat]++a3) a4 4) λr4=>
 ob (JB r4 a5 6) λr5=>
 ob (Ce a2 r1.1) λr6=>
 cond (([]:List UInt8).length+r1.1.Body.length≤bA) (let x7:List Bb:=[(⟨1,0,0,r5⟩:Bb),(⟨3,a1,0,[]⟩:Bb),(⟨1,0,0,r6⟩:Bb),(⟨8,0,0,[]⟩:Bb),(⟨5,0,0,[]⟩:Bb),(⟨1,0,0,[]++r1.1.Body⟩:Bb),(⟨5,0,0,[]⟩:Bb)]
 some x7) none) none)) λk3=>
 cond (!r1.2)
 (k3 true)
 (k3 (!(eA a1 0 11)))
def Ja(a0:As)(a1:Aa)(a2:Int)(a3:Bool):Option (Am×As×Int):=
 ob (Az a0 2) λr1=>
 ob (Az r1.2 3) λr2=>
 ob (Az r2.2 40) λr3=>
 aA (λ(y4:Bool×As)=>
 cond (y4.1)
 (some ((⟨7,a2,r2.1,r3.1,[],[]⟩:Am),y4.2,fA .i64 a2 1))
 (aA (λ(y7:Bool×As)=>
 cond (y7.1)
 (some ((⟨1,r1.1,r2.1,r3.1,[],[]⟩:Am),y7.2,a2))
 (ob (Az y7.2 16) λr11=>
 aA (λ(y12:Bool)=>
 aA (λ(y16:Am×As×Am)=>
 some (y16.1,y16.2.1,a2)) λk17=>
 cond (y12)
 (ob (Az r11.2 6) λr18=>
 ob (Bt r18.2 r18.1) λr19=>
 k17 ((⟨2,r1.1,r2.1,r3.1,r19.1,[]⟩:Am),r19.2,(⟨0,0,0,0,[],[]⟩:Am)))
 (aA (λ(y20:Bool)=>
 aA (λ(y22:Am×As×Am)=>
 k17 (y22.1,y22.2.1,y22.2.2)) λk23=>
 cond (y20)
 (ob (Az r11.2 3) λr24=>
 ob (Az r24.2 6) λr25=>
 ob (Bt r25.2 r25.1) λr26=>
 k23 ((⟨3,r24.1,r2.1,r3.1,r26.1,[]⟩:Am),r26.2,(⟨0,0,0,0,[],[]⟩:Am)))
 (aA (λ(y27:Bool)=>
 aA (λ(y29:Am×As×Am)=>
 k23 (y29.1,y29.2.1,y29.2.2)) λk30=>
 cond (y27)
 (k30 ((⟨4,r1.1,r2.1,r3.1,[],[]⟩:Am),r11.2,(⟨0,0,0,0,[],[]⟩:Am)))
 (aA (λ(y31:Am×As×Am)=>
 k30 (y31.1,y31.2.1,y31.2.2)) λk32=>
 cond (r11.1==7)
 (k32 ((⟨5,r1.1,r2.1,r3.1,[],[]⟩:Am),r11.2,(⟨0,0,0,0,[],[]⟩:Am)))
 (aA (λ(y33:Bool)=>
 aA (λ(y35:Am×As×Am)=>
 k32 (y35.1,y35.2.1,y35.2.2)) λk36=>
 cond (y33)
 (k36 ((⟨6,r1.1,r2.1,r3.1,[],[]⟩:Am),r11.2,(⟨0,0,0,0,[],[]⟩:Am)))
 (ob (Az r11.2 4) λr37=>
 ob (Az r37.2 90) λr38=>
 aA (λ(y39:Bool×As)=>
 aA (λ(y42:As×Am)=>
 ob (Az y42.1 256) λr46=>
 cond (!a3)
 (some ((⟨y42.2.Kind,y42.2.I,r46.1,y42.2.N,y42.2.B,y42.2.Ops⟩:Am),r46.2,a2))
 (ob (Az r46.2 12) λr47=>
 aA (λ(y48:Bool)=>
 aA (λ(y50:Am×As)=>
 k36 (y50.1,y50.2,(⟨0,0,0,0,[],[]⟩:Am))) λk51=>
 cond (y48)
 (ob (Ix r47.2 6) λr52=>
 aA (λ(y53:As×Am)=>
 k51 (y53.2,y53.1)) λk54=>
 cond ((a1.Known.length:Int)>0)
 (ob (Az r52.2 (a1.Known.length:Int)) λr55=>
 ob (jA a1.Clients 0) λe56=>
 aA (λ(y57:Bool×As)=>
 aA (λ(y60:(List UInt8))=>
 ob (Iy y57.2) λr63=>
 ob (jA a1.Known r55.1) λe64=>
 ob (Az r63.2.2 2) λr65=>
 ob (Az r65.2 3) λr66=>
 ob (Az r66.2 30) λr67=>
 ob (Iz e64 r55.1 r65.1 y60 r66.1 r67.1 r63.1 r63.2.1) λr68=>
 aA (λ(y69:Am)=>
 k54 (r67.2,y69)) λk70=>
 cond ((r68.length:Int)>0)
 (k70 (⟨11,y42.2.I,r46.1,y42.2.N,y42.2.B,r68⟩:Am))
 (k70 (⟨11,y42.2.I,r46.1,y42.2.N,y42.2.B,r52.1⟩:Am))) λk61=>
 cond (y57.1)
 (ob (jA a1.Clients 1) λe62=>
 k61 e62.C.Sn)
 (k61 e56.C.Sn)) λk58=>
 cond ((e56.C.Sn.length:Int)==0)
 (k58 (true,r55.2))
 (ob (Dc r55.2 3) λr59=>
 k58 (r59.1,r59.2)))
 (k54 (r52.2,(⟨11,y42.2.I,r46.1,y42.2.N,y42.2.B,r52.1⟩:Am))))
 (aA (λ(y71:Am×As)=>
 k51 (y71.1,y71.2)) λk72=>
 cond (r47.1==2)
 (k72 ((⟨12,y42.2.I,r46.1,y42.2.N,y42.2.B,y42.2.Ops⟩:Am),r47.2))
 (aA (λ(y73:Am×As)=>
 k72 (y73.1,y73.2)) λk74=>
 cond (r47.1==3)
 (k74 ((⟨13,y42.2.I,r46.1,y42.2.N,y42.2.B,y42.2.Ops⟩:Am),r47.2))
 (aA (λ(y75:Am×As)=>
 k74 (y75.1,y75.2)) λk76=>
 cond (r47.1==4)
 (ob (Az r47.2 3) λr77=>
 k76 ((⟨14,r77.1,r46.1,y42.2.N,y42.2.B,y42.2.Ops⟩:Am),r77.2))
 (aA (λ(y78:Am×As)=>
 k76 (y78.1,y78.2)) λk79=>
 cond (r47.1==5)
 (k79 ((⟨15,y42.2.I,r46.1,y42.2.N,y42.2.B,y42.2.Ops⟩:Am),r47.2))
 (aA (λ(y80:Am×As)=>
 k79 (y80.1,y80.2)) λk81=>
 cond (r47.1==6)
 (ob (Az r47.2 3) λr82=>
 k81 ((⟨16,r82.1,r46.1,y42.2.N,y42.2.B,y42.2.Ops⟩:Am),r82.2))
 (aA (λ(y83:As×Am)=>
 k81 (y83.2,y83.1)) λk84=>
 cond (r47.1==7)
 (ob (Dc r47.2 3) λr85=>
 aA (λ(y86:Am×As)=>
 k84 (y86.2,y86.1)) λk87=>
 cond (r85.1)
 (ob (Az r85.2 12) λr88=>
 k87 ((⟨17,y42.2.I,r46.1,r88.1,y42.2.B,y42.2.Ops⟩:Am),r88.2))
 (k87 ((⟨y42.2.Kind,y42.2.I,r46.1,y42.2.N,y42.2.B,y42.2.Ops⟩:Am),r85.2)))
 (aA (λ(y89:Am×As)=>
 k84 (y89.2,y89.1)) λk90=>
 cond (r47.1==8)
 (ob (Db r47.2 [2,3,4]) λr91=>
 ob (Db r91.2 [24,28,44,33]) λr92=>
 let x93:List Bb:=[(⟨1,0,0,[UInt8.ofNat (IntKind.wrap .u8 r91.1:Int).toNat]⟩:Bb),(⟨2,y42.2.I,0,[]⟩:Bb),(⟨4,1,r92.1,[]⟩:Bb),(⟨5,0,0,[]⟩:Bb)]
 k90 ((⟨11,y42.2.I,r46.1,y42.2.N,y42.2.B,x93⟩:Am),r92.2))
 (k90 ((⟨y42.2.Kind,y42.2.I,r46.1,y42.2.N,y42.2.B,y42.2.Ops⟩:Am),r47.2)))))))))) λk49=>
 cond (r47.1==0)
 (k49 (r47.1==0))
 (k49 (r47.1==1)))) λk43=>
 cond (y39.1)
 (ob (Az y39.2 4) λr44=>
 let x45:Int:=oA .i64 (oA .i64 (a1.Seen.length:Int) 1) r44.1
 k43 (r44.2,(⟨fA .i64 7 r37.1,x45,r2.1,r3.1,[],[]⟩:Am)))
 (k43 (y39.2,(⟨fA .i64 7 r37.1,r38.1,r2.1,r3.1,[],[]⟩:Am)))) λk40=>
 cond ((a1.Seen.length:Int)>4)
 (ob (Dc r38.2 2) λr41=>
 k40 (r41.1,r41.2))
 (k40 (false,r38.2)))) λk34=>
 cond (r11.1==8)
 (k34 (r11.1==8))
 (k34 (r11.1==9))))) λk28=>
 cond (r11.1==5)
 (k28 (r11.1==5))
 (k28 (r11.1==6)))) λk21=>
 cond (r11.1==3)
 (k21 (r11.1==3))
 (k21 (r11.1==4)))) λk13=>
 cond (r11.1==0)
 (k13 (r11.1==0))
 (aA (λ(y14:Bool)=>
 k13 y14) λk15=>
 cond (r11.1==1)
 (k15 (r11.1==1))
 (k15 (r11.1==2))))) λk8=>
 ob (jA a1.Clients r1.1) λe9=>
 cond (e9.St==0)
 (ob (Dc y4.2 4) λr10=>
 k8 ((!r10.1),r10.2))
 (k8 (false,y4.2)))) λk5=>
 cond (a2<(a1.Seen.length:Int))
 (ob (Dc r3.2 4) λr6=>
 k5 ((!r6.1),r6.2))
 (k5 (false,r3.2))
def Bi(a0:Int):=cond (!(eA a0 0 1000000)) (some (⟨false,0,0,0⟩:Au)) (some (⟨true,fA .i64 a0 1,1,1⟩:Au))
def Fm(a0:Ae):=cond (([]:List UInt8).length+a0.Cn.length≤bA) (some (⟨1,a0.Id,[]++a0.Cn,[],0,[],[],0,0,[],[]⟩:Ab)) none
def Gw(a0:Ae)(a1:Int)(a2:List UInt8):Option (Ae×(List Ab)×(List Ad)×Int):=
 ob (kA a0) λr1=>
 aA (λy2=>
 cond (y2)
 (some (r1,[],[],1))
 (cond (a0.St !=0)
 (some (r1,[],[],6))
 (cond (([]:List UInt8).length+a2.length≤bA) (ob (Bi a1) λr5=>
 cond (([]:List UInt8).length+a2.length≤bA) (ob (Fm (⟨r1.Id,r1.Psk,r1.At,1,[]++a2,r1.Fin,r1.C,r5,r1.R,r1.Last⟩:Ae)) λr6=>
 let x7:List Ad:=[(⟨1,a0.Id,0,[]++a2,[],0,0,[],[],(⟨0,0⟩:Af),a1⟩:Ad)]
 some ((⟨r1.Id,r1.Psk,r1.At,1,[]++a2,r1.Fin,r1.C,r5,r1.R,r1.Last⟩:Ae),[r6],x7,0)) none) none))) λk3=>
 ob (qD a0) λr4=>
 cond (!r4)
 (k3 true)
 (cond (!(eA a1 0 1000000))
 (k3 true)
 (k3 ((a2.length:Int) !=12)))
def Bm(a0:Ab):=
 cond (!(TA a0))
 (some [])
 (aA (λ(y1:(List UInt8))=>
 some y1) λk2=>
 cond (a0.Kind==1)
 (cond ([UInt8.ofNat (IntKind.wrap .u8 a0.Kind:Int).toNat].length+[UInt8.ofNat (IntKind.wrap .u8 a0.Id:Int).toNat].length≤bA) (let x3:List UInt8:=[UInt8.ofNat (IntKind.wrap .u8 a0.Kind:Int).toNat]++[UInt8.ofNat (IntKind.wrap .u8 a0.Id:Int).toNat]
 cond (x3.length+a0.Cn.length≤bA) (aA (λ(y4:(List UInt8))=>
 k2 y4) λk5=>
 uA FU (λ(x6:(List UInt8)×Int) k7=>
 cond (x6.2<20)
 (cond (x6.1.length+[UInt8.ofNat (0:Int).toNat].length≤bA) (k7 ((x6.1++[UInt8.ofNat (0:Int).toNat]),(fA .i64 x6.2 1))) none)
 (k5 x6.1)) ((x3++a0.Cn),0)) none) none)
 (aA (λ(y8:(List UInt8))=>
 k2 y8) λk9=>
 cond (a0.Kind==2)
 (cond ([UInt8.ofNat (IntKind.wrap .u8 a0.Kind:Int).toNat].length+a0.Cn.length≤bA) (let x10:List UInt8:=[UInt8.ofNat (IntKind.wrap .u8 a0.Kind:Int).toNat]++a0.Cn
 cond (x10.length+a0.Sn.length≤bA) (ob (JB (x10++a0.Sn) a0.Tick 4) λr11=>
 cond (r11.length+a0.Cookie.length≤bA) (k9 (r11++a0.Cookie)) none) none) none)
 (aA (λ(y12:(List UInt8))=>
 k9 y12) λk13=>
 cond (a0.Kind==3)
 (cond ([UInt8.ofNat (IntKind.wrap .u8 a0.Kind:Int).toNat].length+[UInt8.ofNat (IntKind.wrap .u8 a0.Id:Int).toNat].length≤bA) (let x14:List UInt8:=[UInt8.ofNat (IntKind.wrap .u8 a0.Kind:Int).toNat]++[UInt8.ofNat (IntKind.wrap .u8 a0.Id:Int).toNat]
 cond (x14.length+a0.Cn.length≤bA) (cond ((x14++a0.Cn).length+a0.Sn.length≤bA) (ob (JB ((x14++a0.Cn)++a0.Sn) a0.Tick 4) λr15=>
 cond (r15.length+a0.Cookie.length≤bA) (cond ((r15++a0.Cookie).length+a0.Proof.length≤bA) (k13 ((r15++a0.Cookie)++a0.Proof)) none) none) none) none) none)
 (cond ([UInt8.ofNat (IntKind.wrap .u8 a0.Kind:Int).toNat].length+a0.Sn.length≤bA) (let x16:List UInt8:=[UInt8.ofNat (IntKind.wrap .u8 a0.Kind:Int).toNat]++a0.Sn
 ob (JB x16 a0.Epoch 4) λr17=>
 ob (JB r17 a0.Seq 6) λr18=>
 cond (r18.length+a0.Tag.length≤bA) (cond ((r18++a0.Tag).length+a0.Body.length≤bA) (k13 ((r18++a0.Tag)++a0.Body)) none) none) none))))
def Fn(a0:Af)(a1:Af)(a2:Ab):=ob (Bm a2) λr1=>some (⟨a0,a1,r1⟩:Al)
def Et(a0:Ae)(a1:List Ab):=
 aA (λ(y1:(List Al))=>
 some y1) λk2=>
 uA FU (λ(x3:(List Al)×Int) k4=>
 cond (x3.2<(a1.length:Int))
 (let r5:Af:=SB
 ob (jA a1 x3.2) λe6=>
 ob (Fn a0.At r5 e6) λr7=>
 cond (x3.1.length+[r7].length≤bA) (k4 ((x3.1++[r7]),(fA .i64 x3.2 1))) none)
 (k2 x3.1)) ([],0)
def Co(a0:Aa)(a1:List Al)(a2:List Ad):=aA (λ(y1:Aa)=>cond (y1.Notes.length+a2.length≤bA) (some (⟨y1.Now,y1.Clients,y1.S,y1.D,y1.Seen,y1.Known,y1.Notes++a2⟩:Aa)) none) λk2=>uA FU (λ(x3:Int×Aa) k4=>cond (x3.1<(a1.length:Int)) (aA (λ(y5:Aa)=>k4 ((fA .i64 x3.1 1),y5)) λk6=>cond ((x3.2.Seen.length:Int)<90) (ob (jA a1 x3.1) λe7=>cond (x3.2.Seen.length+[e7].length≤bA) (k6 (⟨x3.2.Now,x3.2.Clients,x3.2.S,x3.2.D,x3.2.Seen++[e7],x3.2.Known,x3.2.Notes⟩:Aa)) none) (k6 x3.2)) (k2 x3.2)) (0,a0)
def Du(a0:Aa)(a1:Int)(a2:Ae)(a3:List Ab)(a4:List Ad):=cond (0≤a1&&a1<(a0.Clients.length:Int)) (ob (a0.Clients[a1.toNat]?) λe1=>ob (Et a2 a3) λr2=>ob (Co (⟨a0.Now,List.set a0.Clients a1.toNat a2,a0.S,a0.D,a0.Seen,a0.Known,a0.Notes⟩:Aa) r2 a4) λr3=>some r3) none
def Gx(a0:Av)(a1:Int)(a2:List UInt8)(a3:Int)(a4:List UInt8):Option (Av×Ab×Int):=ob (kA a0) λr1=>aA (λy2=>cond (y2) (some (r1,(⟨0,0,[],[],0,[],[],0,0,[],[]⟩:Ab),1)) (aA (λy5=>cond (y5) (some (r1,(⟨0,0,[],[],0,[],[],0,0,[],[]⟩:Ab),4)) (cond (a0.Seq==281474976710656) (some (r1,(⟨0,0,[],[],0,[],[],0,0,[],[]⟩:Ab),5)) (ob (Fl a0.Key a1 a2 a0.N a0.Seq a3 a4) λr7=>some ((⟨r1.N,r1.Key,fA .i64 a0.Seq 1,r1.Win⟩:Av),r7.1,0)))) λk6=>cond (a3==4) (k6 (decide (a0.Seq≥281474976709656))) (k6 false))) λk3=>cond (!(cC a0)) (k3 true) (ob (Cm a1 a2 a0.N 0) λr4=>cond ((r4.length:Int)==0) (k3 true) (cond (!(nB a3)) (k3 true) (k3 (!(tE a3 (a4.length:Int))))))
def Cp(a0:Aj)(a1:Int)(a2:List UInt8):Option (Aj×Ab×Int):=ob (kA a0) λr1=>ob (lC a0) λr2=>cond (!r2) (some (r1,(⟨0,0,[],[],0,[],[],0,0,[],[]⟩:Ab),1)) (ob (Gx a0.Cur a0.Role a0.Sn a1 a2) λr3=>aA (λ(y4:Aj)=>some (y4,r3.2.1,r3.2.2)) λk5=>cond (r3.2.2==0) (k5 (⟨r1.Role,r1.Sn,r3.1,r1.Old,r1.HasOld,r1.Until,r1.Next⟩:Aj)) (k5 r1))
def Eu(a0:List UInt8)(a1:List UInt8):=cond (([]:List UInt8).length+a0.length≤bA) (cond (([]:List UInt8).length+a1.length≤bA) (some (⟨15,0,0,[],[],0,0,[]++a1,[]++a0,(⟨0,0⟩:Af),0⟩:Ad)) none) none
def Bu(a0:Aj)(a1:Ab):=ob (Ce a0.Role a1) λr1=>ob (Eu a0.Cur.Key r1) λr2=>some r2
def Gy(a0:Ae)(a1:Int)(a2:List UInt8):Option (Ae×(List Ab)×(List Ad)×Int):=
 ob (kA a0) λr1=>
 aA (λy2=>
 cond (y2)
 (some (r1,[],[],1))
 (cond (a0.St !=3)
 (some (r1,[],[],6))
 (ob (Cp a0.C 4 a2) λr5=>
 cond (r5.2.2 !=0)
 (some (r1,[],[],r5.2.2))
 (cond (([]:List UInt8).length+r5.2.1.Sn.length≤bA) (cond (([]:List UInt8).length+a2.length≤bA) (ob (Bu r5.1 r5.2.1) λr6=>
 let x7:List Ad:=[r6,(⟨5,0,0,[],[]++r5.2.1.Sn,r5.2.1.Epoch,r5.2.1.Seq,[]++a2,[],(⟨0,0⟩:Af),0⟩:Ad)]
 some ((⟨r1.Id,r1.Psk,r1.At,r1.St,r1.Cn,r1.Fin,r5.1,r1.T,r1.R,r1.Last⟩:Ae),[r5.2.1],x7,0)) none) none)))) λk3=>
 ob (qD a0) λr4=>
 cond (!r4)
 (k3 true)
 (cond (!(eA a1 0 1000000))
 (k3 true)
 (k3 (decide ((a2.length:Int)>40))))
def Gz(a0:Ah)(a1:List UInt8):Option (Ah×(List Aq)×(List Ad)×Int):=
 ob (kA a0) λr1=>
 aA (λy2=>
 cond (y2)
 (some (r1,[],[],1))
 (cond (a0.Dead)
 (some (r1,[],[],6))
 (ob (Cp a0.C 4 a1) λr5=>
 cond (r5.2.2 !=0)
 (some (r1,[],[],r5.2.2))
 (cond (([]:List UInt8).length+a0.Sn.length≤bA) (cond (([]:List UInt8).length+a1.length≤bA) (ob (Bu r5.1 r5.2.1) λr6=>
 let x7:List Ad:=[r6,(⟨5,0,1,[],[]++a0.Sn,r5.2.1.Epoch,r5.2.1.Seq,[]++a1,[],(⟨0,0⟩:Af),0⟩:Ad)]
 some ((⟨r1.Id,r1.Cn,r1.Sn,r5.1,r1.P,r1.Tick,r1.Last,r1.Dead⟩:Ah),[(⟨a0.P.At,r5.2.1⟩:Aq)],x7,0)) none) none)))) λk3=>
 ob (ED a0) λr4=>
 cond (!r4)
 (k3 true)
 (k3 (decide ((a1.length:Int)>40)))
def Ha(a0:Ac)(a1:Int)(a2:Int)(a3:List UInt8):Option (Ac×(List Aq)×(List Ad)×Int):=
 ob (kA a0) λr1=>
 aA (λy2=>
 cond (y2)
 (some (r1,[],[],1))
 (let r5:Bool:=eA a2 0 (oA .i64 (a0.T.L.length:Int) 1)
 cond (!r5)
 (some (r1,[],[],8))
 (ob (jA a0.T.L a2) λe6=>
 ob (Gz e6 a3) λr7=>
 aA (λ(y8:Ac)=>
 some (y8,r7.2.1,r7.2.2.1,r7.2.2.2)) λk9=>
 cond (r7.2.2.2==0)
 (cond (0≤a2&&a2<(r1.T.L.length:Int)) (ob (r1.T.L[a2.toNat]?) λe10=>
 k9 (⟨r1.Psks,r1.J,r1.D,(⟨r1.T.Cap,List.set r1.T.L a2.toNat r7.1⟩:Ao),r1.Cr⟩:Ac)) none)
 (k9 r1)))) λk3=>
 ob (xC a0) λr4=>
 cond (!r4)
 (k3 true)
 (k3 (!(eA a1 0 1000000)))
def Fo(a0:List Aq):=
 aA (λ(y1:(List Al))=>
 some y1) λk2=>
 uA FU (λ(x3:(List Al)×Int) k4=>
 cond (x3.2<(a0.length:Int))
 (let r5:Af:=SB
 ob (jA a0 x3.2) λe6=>
 ob (jA a0 x3.2) λe7=>
 ob (Fn r5 e6.To e7.F) λr8=>
 cond (x3.1.length+[r8].length≤bA) (k4 ((x3.1++[r8]),(fA .i64 x3.2 1))) none)
 (k2 x3.1)) ([],0)
def Dv(a0:Au)(a1:Int):=aA (λ(y1:Bool)=>some y1) λk2=>cond ((mD a0)) (cond (a0.On) (cond ((eA a1 0 1000000)) (k2 (decide (a1≥a0.Due))) (k2 false)) (k2 false)) (k2 false)
def Fp(a0:Au)(a1:Int):Option (Au×Int):=ob (Dv a0 a1) λr1=>cond (!r1) (some (a0,0)) (cond (a0.Tries==5) (some ((⟨false,0,0,0⟩:Au),2)) (aA (λ(y2:Int)=>some ((⟨true,fA .i64 a1 y2,y2,fA .i64 a0.Tries 1⟩:Au),1)) λk3=>cond ((GB .i64 2 a0.Wait)>8) (k3 8) (k3 (GB .i64 2 a0.Wait))))
def Dw(a0:Ae):=ob (fK a0.Id a0.Psk a0.At) λr1=>some r1
def Bv(a0:Aj)(a1:Int):=ob (kA a0) λr1=>aA (λ(y2:Bool)=>aA (λ(y5:Aj)=>some y5) λk6=>cond (y2) (k6 (⟨r1.Role,r1.Sn,r1.Cur,(⟨0,[],0,(⟨0,[]⟩:Ap)⟩:Av),false,0,r1.Next⟩:Aj)) (k6 r1)) λk3=>ob (lC a0) λr4=>cond (r4) (cond ((eA a1 0 1000000)) (cond (a0.HasOld) (cond (a0.Until !=(-1)) (k3 (decide (a1>a0.Until))) (k3 false)) (k3 false)) (k3 false)) (k3 false)
def Bp(a0:Int):=cond (!(eA a0 0 4294967295)) (some []) (ob (JB [] a0 4) λr1=>some r1)
def Fq(a0:Aj):Option (Aj×Ab×Int):=aA (λy1=>cond (y1) (ob (kA a0) λr4=>some (r4,(⟨0,0,[],[],0,[],[],0,0,[],[]⟩:Ab),6)) (ob (Bp (fA .i64 a0.Cur.N 1)) λr5=>ob (Cp a0 7 r5) λr6=>some (r6.1,r6.2.1,r6.2.2))) λk2=>ob (lC a0) λr3=>cond (!r3) (k2 true) (k2 ((a0.Next.length:Int)==0))
def Hb(a0:Ae)(a1:Int):Option (Ae×(List Ab)×(List Ad)):=
 ob (kA a0) λr1=>
 aA (λy2=>
 cond (y2)
 (some (r1,[],[]))
 (cond (a0.St !=3)
 (ob (Fp a0.T a1) λr5=>
 cond (r5.2==2)
 (ob (Dw a0) λr6=>
 cond (([]:List UInt8).length+a0.Cn.length≤bA) (let x7:List Ad:=[(⟨17,a0.Id,0,[]++a0.Cn,[],0,0,[],[],(⟨0,0⟩:Af),0⟩:Ad)]
 cond (([]:List Ad).length+x7.length≤bA) (some (r6,[],[]++x7)) none) none)
 (aA (λ(y8:Bool)=>
 aA (λ(y10:(List Ab))=>
 aA (λ(y13:Bool)=>
 aA (λ(y15:(List Ab))=>
 some ((⟨r1.Id,r1.Psk,r1.At,r1.St,r1.Cn,r1.Fin,r1.C,r5.1,r1.R,r1.Last⟩:Ae),y15,[])) λk16=>
 cond (y13)
 (ob (kA a0.Fin) λr17=>
 cond (y10.length+[r17].length≤bA) (k16 (y10++[r17])) none)
 (k16 y10)) λk14=>
 cond (r5.2==1)
 (k14 (a0.St==2))
 (k14 false)) λk11=>
 cond (y8)
 (ob (Fm a0) λr12=>
 cond (([]:List Ab).length+[r12].length≤bA) (k11 ([]++[r12])) none)
 (k11 [])) λk9=>
 cond (r5.2==1)
 (k9 (a0.St==1))
 (k9 false)))
 (cond ((oA .i64 a1 a0.Last)>60)
 (ob (Dw a0) λr18=>
 cond (([]:List UInt8).length+a0.C.Sn.length≤bA) (let x19:List Ad:=[(⟨11,a0.Id,0,[],[]++a0.C.Sn,0,0,[],[],(⟨0,0⟩:Af),0⟩:Ad)]
 cond (([]:List Ad).length+x19.length≤bA) (some (r18,[],[]++x19)) none) none)
 (ob (Bv a0.C a1) λr20=>
 ob (Fp a0.R a1) λr21=>
 cond (r21.2==0)
 (some ((⟨r1.Id,r1.Psk,r1.At,r1.St,r1.Cn,r1.Fin,r20,r1.T,r1.R,r1.Last⟩:Ae),[],[]))
 (aA (λ(y22:Ae)=>
 ob (Fq y22.C) λr25=>
 aA (λ(y26:(List Ab)×(List Ad)×Ae)=>
 some (y26.2.2,y26.1,y26.2.1)) λk27=>
 cond (r25.2.2==0)
 (cond (([]:List Ab).length+[r25.2.1].length≤bA) (ob (Bu r25.1 r25.2.1) λr28=>
 cond (([]:List Ad).length+[r28].length≤bA) (k27 (([]++[r25.2.1]),([]++[r28]),(⟨y22.Id,y22.Psk,y22.At,y22.St,y22.Cn,y22.Fin,r25.1,y22.T,y22.R,y22.Last⟩:Ae))) none) none)
 (k27 ([],[],y22))) λk23=>
 cond (r21.2==2)
 (ob (Bi a1) λr24=>
 k23 (⟨r1.Id,r1.Psk,r1.At,r1.St,r1.Cn,r1.Fin,r20,r1.T,r24,r1.Last⟩:Ae))
 (k23 (⟨r1.Id,r1.Psk,r1.At,r1.St,r1.Cn,r1.Fin,r20,r1.T,r21.1,r1.Last⟩:Ae))))))) λk3=>
 ob (qD a0) λr4=>
 cond (!r4)
 (k3 true)
 (cond (!(eA a1 0 1000000))
 (k3 true)
 (k3 (a0.St==0)))
def Fr(a0:Ah):=ob (ED a0) λr1=>cond (!r1) (ob (kA a0) λr2=>some r2) (cond (([]:List UInt8).length+a0.Cn.length≤bA) (cond (([]:List UInt8).length+a0.Sn.length≤bA) (some (⟨a0.Id,[]++a0.Cn,[]++a0.Sn,(⟨0,[],(⟨0,[],0,(⟨0,[]⟩:Ap)⟩:Av),(⟨0,[],0,(⟨0,[]⟩:Ap)⟩:Av),false,0,[]⟩:Aj),(⟨(⟨0,0⟩:Af),[]⟩:Ai),a0.Tick,0,true⟩:Ah)) none) none)
def Cf(a0:Ai)(a1:Int):=aA (λy1=>cond (y1) (ob (kA a0) λr3=>some r3) (aA (λ(y4:Ai)=>some y4) λk5=>uA FU (λ(x6:Int×Ai) k7=>cond (x6.1<(a0.Cands.length:Int)) (ob (jA a0.Cands x6.1) λe8=>aA (λ(y9:Ai)=>k7 ((fA .i64 x6.1 1),y9)) λk10=>cond (e8.Until≥a1) (ob (jA a0.Cands x6.1) λe11=>ob (GH e11) λr12=>cond (x6.2.Cands.length+[r12].length≤bA) (k10 (⟨x6.2.At,x6.2.Cands++[r12]⟩:Ai)) none) (k10 x6.2)) (k5 x6.2)) (0,(⟨a0.At,[]⟩:Ai)))) λk2=>cond (!(VB a0)) (k2 true) (k2 (!(eA a1 0 1000000)))
def Hc(a0:Ah)(a1:Int):=ob (kA a0) λr1=>aA (λy2=>cond (y2) (some r1) (cond ((oA .i64 a1 a0.Last)>60) (ob (Fr a0) λr5=>some r5) (ob (Bv a0.C a1) λr6=>ob (Cf a0.P a1) λr7=>some (⟨r1.Id,r1.Cn,r1.Sn,r6,r7,r1.Tick,r1.Last,r1.Dead⟩:Ah)))) λk3=>ob (ED a0) λr4=>cond (!r4) (k3 true) (cond (a0.Dead) (k3 true) (k3 (!(eA a1 0 1000000))))
def Hd(a0:Ao)(a1:Int):=aA (λy1=>cond (y1) (ob (kA a0) λr4=>some r4) (aA (λ(y5:Ao)=>some y5) λk6=>uA FU (λ(x7:Int×Ao) k8=>cond (x7.1<(a0.L.length:Int)) (ob (jA a0.L x7.1) λe9=>ob (Hc e9 a1) λr10=>aA (λ(y11:Bool)=>aA (λ(y13:Ao)=>k8 ((fA .i64 x7.1 1),y13)) λk14=>cond (y11) (cond (x7.2.L.length+[r10].length≤bA) (k14 (⟨x7.2.Cap,x7.2.L++[r10]⟩:Ao)) none) (k14 x7.2)) λk12=>cond (!r10.Dead) (k12 true) (k12 (decide ((oA .i64 a1 r10.Tick)≤10)))) (k6 x7.2)) (0,(⟨a0.Cap,[]⟩:Ao)))) λk2=>ob (AG a0) λr3=>cond (!r3) (k2 true) (k2 (!(eA a1 0 1000000)))
def Fs(a0:Ah):=cond (([]:List UInt8).length+a0.Sn.length≤bA) (some (⟨11,a0.Id,1,[],[]++a0.Sn,0,0,[],[],(⟨0,0⟩:Af),0⟩:Ad)) none
def He(a0:Ac)(a1:Int):=ob (kA a0) λr1=>aA (λy2=>cond (y2) (some (r1,[])) (ob (Hd a0.T a1) λr5=>aA (λ(y6:(List Ad))=>some ((⟨r1.Psks,r1.J,r1.D,r5,r1.Cr⟩:Ac),y6)) λk7=>uA FU (λ(x8:(List Ad)×Int) k9=>cond (x8.2<(a0.T.L.length:Int)) (ob (jA a0.T.L x8.2) λe10=>ob (CC r5 e10.Sn) λr11=>aA (λ(y12:Bool)=>aA (λ(y16:(List Ad))=>k9 (y16,(fA .i64 x8.2 1))) λk17=>cond (y12) (ob (jA a0.T.L x8.2) λe18=>ob (Fs e18) λr19=>cond (x8.1.length+[r19].length≤bA) (k17 (x8.1++[r19])) none) (k17 x8.1)) λk13=>ob (jA a0.T.L x8.2) λe14=>cond (!e14.Dead) (cond (r11<0) (k13 true) (cond (0≤r11&&r11<(r5.L.length:Int)) (ob (r5.L[r11.toNat]?) λe15=>k13 e15.Dead) none)) (k13 false)) (k7 x8.1)) ([],0))) λk3=>ob (xC a0) λr4=>cond (!r4) (k3 true) (k3 (!(eA a1 0 1000000)))
def Hf(a0:Aa):Option ((List Al)×Aa):=aA (λ(y1:(List Al)×Aa)=>ob (He y1.2.S y1.2.Now) λr9=>cond (y1.2.Notes.length+r9.2.length≤bA) (some (y1.1,(⟨y1.2.Now,y1.2.Clients,r9.1,y1.2.D,y1.2.Seen,y1.2.Known,y1.2.Notes++r9.2⟩:Aa))) none) λk2=>uA FU (λ(x3:(List Al)×Int×Aa) k4=>cond (x3.2.1<2) (cond (0≤x3.2.1&&x3.2.1<(x3.2.2.Clients.length:Int)) (ob (x3.2.2.Clients[x3.2.1.toNat]?) λe5=>ob (Hb e5 x3.2.2.Now) λr6=>cond (0≤x3.2.1&&x3.2.1<(x3.2.2.Clients.length:Int)) (ob (x3.2.2.Clients[x3.2.1.toNat]?) λe7=>cond (x3.2.2.Notes.length+r6.2.2.length≤bA) (ob (Et r6.1 r6.2.1) λr8=>cond (x3.1.length+r8.length≤bA) (k4 ((x3.1++r8),(fA .i64 x3.2.1 1),(⟨x3.2.2.Now,List.set x3.2.2.Clients x3.2.1.toNat r6.1,x3.2.2.S,x3.2.2.D,x3.2.2.Seen,x3.2.2.Known,x3.2.2.Notes++r6.2.2⟩:Aa))) none) none) none) none) (k2 (x3.1,x3.2.2))) ([],0,(⟨fA .i64 a0.Now 1,a0.Clients,a0.S,a0.D,a0.Seen,a0.Known,a0.Notes⟩:Aa))
def Bw(a0:Ae)(a1:Af):=ob (kA a0) λr1=>aA (λ(y2:Bool)=>aA (λ(y5:Ae)=>some y5) λk6=>cond (y2) (k6 (⟨r1.Id,r1.Psk,a1,r1.St,r1.Cn,r1.Fin,r1.C,r1.T,r1.R,r1.Last⟩:Ae)) (k6 r1)) λk3=>ob (qD a0) λr4=>cond (r4) (k3 (EA a1)) (k3 false)
def Dx(a0:Aj):=ob (kA a0) λr1=>aA (λy2=>cond (y2) (some (r1,false)) (ob (LE a0.Cur.Key [114,101,107,101,121]) λr5=>some ((⟨r1.Role,r1.Sn,r1.Cur,r1.Old,r1.HasOld,r1.Until,r5⟩:Aj),true))) λk3=>ob (lC a0) λr4=>cond (!r4) (k3 true) (cond (a0.Role !=0) (k3 true) (cond ((a0.Next.length:Int)>0) (k3 true) (k3 (a0.Cur.N==4294967295))))
def Hg(a0:Ae)(a1:Int):Option (Ae×(List Ab)×(List Ad)×Int):=ob (kA a0) λr1=>aA (λy2=>cond (y2) (some (r1,[],[],1)) (aA (λy5=>cond (y5) (some (r1,[],[],6)) (ob (Dx a0.C) λr7=>ob (Fq r7.1) λr8=>aA (λy9=>cond (y9) (some (r1,[],[],5)) (ob (Bi a1) λr11=>ob (Bu r8.1 r8.2.1) λr12=>some ((⟨r1.Id,r1.Psk,r1.At,r1.St,r1.Cn,r1.Fin,r8.1,r1.T,r11,r1.Last⟩:Ae),[r8.2.1],[r12],0))) λk10=>cond (!r7.2) (k10 true) (k10 (r8.2.2 !=0)))) λk6=>cond (a0.St !=3) (k6 true) (k6 (decide ((a0.C.Next.length:Int)>0))))) λk3=>ob (qD a0) λr4=>cond (!r4) (k3 true) (k3 (!(eA a1 0 1000000)))
def Hh(a0:List Ak)(a1:Af)(a2:Int):=
 cond (([]:List Ak).length+a0.length≤bA) (aA (λy1=>
 cond (y1)
 (some ([]++a0))
 (cond ((VA a0 a1)<0)
 (cond ((a0.length:Int)==8)
 (some ([]++a0))
 (cond (([]++a0).length+[(⟨a1,a2,0⟩:Ak)].length≤bA) (some (([]++a0)++[(⟨a1,a2,0⟩:Ak)])) none))
 (cond (0≤(VA a0 a1)&&(VA a0 a1)<(([]++a0).length:Int)) (ob (([]++a0)[(VA a0 a1).toNat]?) λe3=>
 cond (0≤(VA a0 a1)&&(VA a0 a1)<(([]++a0).length:Int)) (ob (([]++a0)[(VA a0 a1).toNat]?) λe4=>
 let l5:List Ak:=List.set ([]++a0) ((VA a0 a1).toNat) (⟨e4.A,fA .i64 e3.Got a2,e4.Sent⟩:Ak)
 cond (0≤(VA a0 a1)&&(VA a0 a1)<(l5.length:Int)) (ob (l5[(VA a0 a1).toNat]?) λe6=>
 aA (λ(y7:(List Ak))=>
 some y7) λk8=>
 cond (e6.Got>1000000)
 (cond (0≤(VA a0 a1)&&(VA a0 a1)<(l5.length:Int)) (ob (l5[(VA a0 a1).toNat]?) λe9=>
 let l10:List Ak:=List.set l5 ((VA a0 a1).toNat) (⟨e9.A,1000000,e9.Sent⟩:Ak)
 k8 l10) none)
 (k8 l5)) none) none) none))) λk2=>
 cond (!(pC a0))
 (k2 true)
 (cond (!(EA a1))
 (k2 true)
 (k2 (!(eA a2 0 1000000))))) none
def Ev(a0:List UInt8):=
 cond ((a0.length:Int)==0)
 (some ((⟨0,0,[],[],0,[],[],0,0,[],[]⟩:Ab),false))
 (ob (jA a0 0) λe1=>
 let x2:Int:=IntKind.wrap .i64 ((e1.toNat:Nat):Int)
 aA (λ(y3:Ab×Ab)=>
 ob (Bm y3.2) λr28=>
 cond (Nat.ble r28.length bA) (cond (Nat.ble a0.length bA) (cond (!(r28==a0))
 (some ((⟨0,0,[],[],0,[],[],0,0,[],[]⟩:Ab),false))
 (some (y3.2,true))) none) none) λk4=>
 cond (x2==1)
 (cond ((a0.length:Int) !=34)
 (some ((⟨0,0,[],[],0,[],[],0,0,[],[]⟩:Ab),false))
 (ob (jA a0 1) λe5=>
 let x6:Int:=IntKind.wrap .i64 ((e5.toNat:Nat):Int)
 cond (decide (0≤(2:Int))&&decide ((2:Int)≤14)&&decide (14≤(a0.length:Int))) (let l7:List UInt8:=List.take 12 (List.drop 2 a0)
 cond (([]:List UInt8).length+l7.length≤bA) (k4 ((⟨0,0,[],[],0,[],[],0,0,[],[]⟩:Ab),(⟨x2,x6,[]++l7,[],0,[],[],0,0,[],[]⟩:Ab))) none) none))
 (aA (λ(y8:Ab×Ab)=>
 k4 (y8.1,y8.2)) λk9=>
 cond (x2==2)
 (cond ((a0.length:Int) !=45)
 (some ((⟨0,0,[],[],0,[],[],0,0,[],[]⟩:Ab),false))
 (cond (decide (0≤(1:Int))&&decide ((1:Int)≤13)&&decide (13≤(a0.length:Int))) (let l10:List UInt8:=List.take 12 (List.drop 1 a0)
 cond (([]:List UInt8).length+l10.length≤bA) (cond (decide (0≤(13:Int))&&decide ((13:Int)≤25)&&decide (25≤(a0.length:Int))) (let l11:List UInt8:=List.take 12 (List.drop 13 a0)
 cond (([]:List UInt8).length+l11.length≤bA) (ob (mH a0 25 4) λr12=>
 cond (decide (0≤(29:Int))&&decide ((29:Int)≤(a0.length:Int))&&decide ((a0.length:Int)≤(a0.length:Int))) (let l13:List UInt8:=List.take (((a0.length:Int) - 29).toNat) (List.drop 29 a0)
 cond (([]:List UInt8).length+l13.length≤bA) (k9 ((⟨0,0,[],[],0,[],[],0,0,[],[]⟩:Ab),(⟨x2,0,[]++l10,[]++l11,r12.1,[]++l13,[],0,0,[],[]⟩:Ab))) none) none) none) none) none) none))
 (aA (λ(y14:Ab×Ab)=>
 k9 (y14.1,y14.2)) λk15=>
 cond (x2==3)
 (cond ((a0.length:Int) !=62)
 (some ((⟨0,0,[],[],0,[],[],0,0,[],[]⟩:Ab),false))
 (ob (jA a0 1) λe16=>
 let x17:Int:=IntKind.wrap .i64 ((e16.toNat:Nat):Int)
 cond (decide (0≤(2:Int))&&decide ((2:Int)≤14)&&decide (14≤(a0.length:Int))) (let l18:List UInt8:=List.take 12 (List.drop 2 a0)
 cond (([]:List UInt8).length+l18.length≤bA) (cond (decide (0≤(14:Int))&&decide ((14:Int)≤26)&&decide (26≤(a0.length:Int))) (let l19:List UInt8:=List.take 12 (List.drop 14 a0)
 cond (([]:List UInt8).length+l19.length≤bA) (ob (mH a0 26 4) λr20=>
 cond (decide (0≤(30:Int))&&decide ((30:Int)≤46)&&decide (46≤(a0.length:Int))) (let l21:List UInt8:=List.take 16 (List.drop 30 a0)
 cond (([]:List UInt8).length+l21.length≤bA) (cond (decide (0≤(46:Int))&&decide ((46:Int)≤(a0.length:Int))&&decide ((a0.length:Int)≤(a0.length:Int))) (let l22:List UInt8:=List.take (((a0.length:Int) - 46).toNat) (List.drop 46 a0)
 cond (([]:List UInt8).length+l22.length≤bA) (k15 ((⟨0,0,[],[],0,[],[],0,0,[],[]⟩:Ab),(⟨x2,x17,[]++l18,[]++l19,r20.1,[]++l21,[]++l22,0,0,[],[]⟩:Ab))) none) none) none) none) none) none) none) none))
 (cond ((a0.length:Int)<39)
 (some ((⟨0,0,[],[],0,[],[],0,0,[],[]⟩:Ab),false))
 (cond (decide (0≤(1:Int))&&decide ((1:Int)≤13)&&decide (13≤(a0.length:Int))) (let l23:List UInt8:=List.take 12 (List.drop 1 a0)
 cond (([]:List UInt8).length+l23.length≤bA) (ob (mH a0 13 4) λr24=>
 ob (mH a0 17 6) λr25=>
 cond (decide (0≤(23:Int))&&decide ((23:Int)≤39)&&decide (39≤(a0.length:Int))) (let l26:List UInt8:=List.take 16 (List.drop 23 a0)
 cond (([]:List UInt8).length+l26.length≤bA) (cond (decide (0≤(39:Int))&&decide ((39:Int)≤(a0.length:Int))&&decide ((a0.length:Int)≤(a0.length:Int))) (let l27:List UInt8:=List.take (((a0.length:Int) - 39).toNat) (List.drop 39 a0)
 cond (([]:List UInt8).length+l27.length≤bA) (k15 ((⟨0,0,[],[],0,[],[],0,0,[],[]⟩:Ab),(⟨x2,0,[],[]++l23,0,[],[],r24.1,r25.1,[]++l27,[]++l26⟩:Ab))) none) none) none) none) none) none)))))
def Dy(a0:Ao)(a1:Af):=
 aA (λ(y1:Unit)=>
 some false) λk2=>
 uA FU (λ(x3:Int) k4=>
 cond (x3<(a0.L.length:Int))
 (aA (λy5=>
 cond (y5)
 (some true)
 (k4 (fA .i64 x3 1))) λk6=>
 ob (jA a0.L x3) λe7=>
 cond (!e7.Dead)
 (ob (jA a0.L x3) λe8=>
 let x9:Bool:=cond (e8.P.At.Host==a1.Host) (cond (e8.P.At.Port==a1.Port) (true) false) false
 k6 x9)
 (k6 false))
 (k2 ())) 0
def Bc(a0:List Ak)(a1:Af):=aA (λy1=>cond (y1) (some 0) (ob (jA a0 (VA a0 a1)) λe3=>ob (jA a0 (VA a0 a1)) λe4=>some (oA .i64 (GB .i64 3 e3.Got) e4.Sent))) λk2=>cond (!(pC a0)) (k2 true) (k2 (decide ((VA a0 a1)<0)))
def Ft(a0:Ac)(a1:Af)(a2:Int):=aA (λ(y1:Bool)=>some y1) λk2=>ob (Dy a0.T a1) λr3=>cond (r3) (k2 true) (ob (Bc a0.Cr a1) λr4=>k2 (decide (r4≥a2)))
def Hi(a0:List UInt8)(a1:Af):=cond (!(EA a1)) (cond (([]:List UInt8).length+a0.length≤bA) (some ([]++a0)) none) (ob (JB a0 a1.Host 4) λr1=>ob (JB r1 a1.Port 2) λr2=>some r2)
def Ew(a0:Af)(a1:Int)(a2:List UInt8)(a3:List UInt8)(a4:Int):=
 aA (λy1=>
 cond (y1)
 (some [])
 (ob (Hi [UInt8.ofNat (99:Int).toNat] a0) λr3=>
 cond (r3.length+[UInt8.ofNat (IntKind.wrap .u8 a1:Int).toNat].length≤bA) (cond ((r3++[UInt8.ofNat (IntKind.wrap .u8 a1:Int).toNat]).length+a2.length≤bA) (let x4:List UInt8:=(r3++[UInt8.ofNat (IntKind.wrap .u8 a1:Int).toNat])++a2
 cond (x4.length+a3.length≤bA) (ob (JB (x4++a3) a4 4) λr5=>
 some r5) none) none) none)) λk2=>
 cond (!(EA a0))
 (k2 true)
 (cond (!(eA a1 1 9))
 (k2 true)
 (cond ((a2.length:Int) !=12)
 (k2 true)
 (cond ((a3.length:Int) !=12)
 (k2 true)
 (k2 (!(eA a4 0 1000000))))))
def Fu(a0:Ay)(a1:Af)(a2:Int)(a3:List UInt8)(a4:List UInt8)(a5:Int):=ob (Ew a1 a2 a3 a4 a5) λr1=>aA (λy2=>cond (y2) (some []) (ob (Dd a0.Secret r1) λr4=>some r4)) λk3=>cond (!(gF a0)) (k3 true) (k3 ((r1.length:Int)==0))
def De(a0:Int)(a1:Int):=aA (λ(y1:Bool)=>some y1) λk2=>cond ((eA a0 0 1000000)) (cond ((eA a1 0 1000000)) (k2 (eA (oA .i64 a0 a1) 0 10)) (k2 false)) (k2 false)
def Bx(a0:List UInt8)(a1:List UInt8):=
 cond ((a0.length:Int) !=(a1.length:Int))
 (some (-1))
 (aA (λ(y1:Int)=>
 some y1) λk2=>
 uA FU (λ(x3:Int×Int) k4=>
 cond (x3.2<(a0.length:Int))
 (ob (jA a0 x3.2) λe5=>
 ob (jA a1 x3.2) λe6=>
 let x7:Int:=AB .u8 ((e5.toNat:Nat):Int) ((e6.toNat:Nat):Int)
 k4 ((OK .i64 x3.1 (IntKind.wrap .i64 x7)),(fA .i64 x3.2 1)))
 (k2 x3.1)) (0,0))
def Bn(a0:List UInt8)(a1:List UInt8):=aA (λ(y1:Bool)=>some y1) λk2=>cond ((a0.length:Int)==16) (ob (Bx a0 a1) λr3=>k2 (r3==0)) (k2 false)
def Hj(a0:Ay)(a1:Int)(a2:Af)(a3:Ab):Option Int:=aA (λy1=>cond (y1) (some 1) (ob (De a1 a3.Tick) λr3=>cond (!r3) (some 9) (ob (Fu a0 a2 a3.Id a3.Cn a3.Sn a3.Tick) λr4=>ob (Bn a3.Cookie r4) λr5=>cond (!r5) (some 2) (some 0)))) λk2=>cond (!(gF a0)) (k2 true) (cond (!(eA a1 0 1000000)) (k2 true) (cond (!(EA a2)) (k2 true) (cond (!(TA a3)) (k2 true) (k2 (a3.Kind !=3)))))
def Cg(a0:List UInt8)(a1:List UInt8):=
 let r1:(List UInt8):=TC a0 a1
 some r1
def Bj(a0:List UInt8):=
 cond (!(JC a0))
 (some [])
 (let x1:List UInt8:=[UInt8.ofNat (114:Int).toNat,UInt8.ofNat (111:Int).toNat,UInt8.ofNat (97:Int).toNat,UInt8.ofNat (109:Int).toNat]
 ob (Cg x1 a0) λr2=>
 ob (LE r2 [102,105,110,105,115,104]) λr3=>
 some r3)
def Ey(a0:Int)(a1:List UInt8)(a2:List UInt8)(a3:Int)(a4:List UInt8):=
 aA (λy1=>
 cond (y1)
 (some [])
 (let x3:List UInt8:=[UInt8.ofNat (102:Int).toNat,UInt8.ofNat (IntKind.wrap .u8 a0:Int).toNat]
 cond (x3.length+a1.length≤bA) (cond ((x3++a1).length+a2.length≤bA) (ob (JB ((x3++a1)++a2) a3 4) λr4=>
 cond (r4.length+a4.length≤bA) (some (r4++a4)) none) none) none)) λk2=>
 cond (!(eA a0 1 9))
 (k2 true)
 (cond ((a1.length:Int) !=12)
 (k2 true)
 (cond ((a2.length:Int) !=12)
 (k2 true)
 (cond (!(eA a3 0 1000000))
 (k2 true)
 (k2 ((a4.length:Int) !=16)))))
def Fv(a0:List UInt8)(a1:Int)(a2:List UInt8)(a3:List UInt8)(a4:Int)(a5:List UInt8):=ob (Bj a0) λr1=>ob (Ey a1 a2 a3 a4 a5) λr2=>aA (λy3=>cond (y3) (some []) (ob (Dd r1 r2) λr5=>some r5)) λk4=>cond ((r1.length:Int)==0) (k4 true) (k4 ((r2.length:Int)==0))
def Hk(a0:List UInt8)(a1:Ab):=aA (λ(y1:Bool)=>some y1) λk2=>cond ((TA a1)) (cond (a1.Kind==3) (ob (Fv a0 a1.Id a1.Cn a1.Sn a1.Tick a1.Cookie) λr3=>ob (Bn a1.Proof r3) λr4=>k2 r4) (k2 false)) (k2 false)
def Hl(a0:List UInt8)(a1:List UInt8)(a2:List UInt8):=aA (λy1=>cond (y1) (some []) (cond (([]:List UInt8).length+a1.length≤bA) (cond (([]++a1).length+a2.length≤bA) (ob (Cg (([]++a1)++a2) a0) λr3=>some r3) none) none)) λk2=>cond (!(JC a0)) (k2 true) (cond ((a1.length:Int) !=12) (k2 true) (k2 ((a2.length:Int) !=12)))
def Df(a0:List UInt8):=cond ((a0.length:Int) !=32) (some []) (ob (LE a0 [101,112,111,99,104]) λr1=>some r1)
def Hm(a0:List UInt8)(a1:Int):=cond (!(eA a1 0 64)) (some []) (cond (([]:List UInt8).length+a0.length≤bA) (aA (λ(y1:(List UInt8))=>some y1) λk2=>uA FU (λ(x3:(List UInt8)×Int) k4=>cond (x3.2<a1) (ob (LE x3.1 [114,101,107,101,121]) λr5=>k4 (r5,(fA .i64 x3.2 1))) (k2 x3.1)) (([]++a0),0)) none)
def Fw(a0:List UInt8)(a1:List UInt8)(a2:List UInt8)(a3:Int):=ob (Hl a0 a1 a2) λr1=>ob (Df r1) λr2=>cond ((r2.length:Int)==0) (some r2) (ob (Hm r2 a3) λr3=>some r3)
def Hn:=aA (λ(y1:Ap)=>some y1) λk2=>uA FU (λ(x3:Int×Ap) k4=>cond (x3.1<32) (cond (x3.2.Bits.length+[0].length≤bA) (k4 ((fA .i64 x3.1 1),(⟨x3.2.Top,x3.2.Bits++[0]⟩:Ap))) none) (k2 x3.2)) (0,(⟨(-1),[]⟩:Ap))
def Dg(a0:Int)(a1:List UInt8):=aA (λy1=>cond (y1) (some (⟨0,[],0,(⟨0,[]⟩:Ap)⟩:Av)) (cond (([]:List UInt8).length+a1.length≤bA) (ob (Hn) λr3=>some (⟨a0,[]++a1,0,r3⟩:Av)) none)) λk2=>cond (!(eA a0 0 4294967295)) (k2 true) (k2 ((a1.length:Int) !=32))
def Fx(a0:Int)(a1:List UInt8)(a2:List UInt8):=aA (λy1=>cond (y1) (some (⟨0,[],(⟨0,[],0,(⟨0,[]⟩:Ap)⟩:Av),(⟨0,[],0,(⟨0,[]⟩:Ap)⟩:Av),false,0,[]⟩:Aj)) (cond (([]:List UInt8).length+a1.length≤bA) (ob (Dg 0 a2) λr3=>some (⟨a0,[]++a1,r3,(⟨0,[],0,(⟨0,[]⟩:Ap)⟩:Av),false,0,[]⟩:Aj)) none)) λk2=>cond (!(eA a0 0 1)) (k2 true) (cond ((a1.length:Int) !=12) (k2 true) (k2 ((a2.length:Int) !=32)))
def Dh(a0:Af):=some (⟨a0,[]⟩:Ai)
def Ho(a0:List UInt8)(a1:Int)(a2:Af)(a3:Ab):=aA (λy1=>cond (y1) (some (⟨0,[],[],(⟨0,[],(⟨0,[],0,(⟨0,[]⟩:Ap)⟩:Av),(⟨0,[],0,(⟨0,[]⟩:Ap)⟩:Av),false,0,[]⟩:Aj),(⟨(⟨0,0⟩:Af),[]⟩:Ai),0,0,false⟩:Ah)) (cond (([]:List UInt8).length+a3.Cn.length≤bA) (cond (([]:List UInt8).length+a3.Sn.length≤bA) (ob (Fw a0 a3.Cn a3.Sn 0) λr3=>ob (Fx 1 a3.Sn r3) λr4=>ob (Dh a2) λr5=>some (⟨a3.Id,[]++a3.Cn,[]++a3.Sn,r4,r5,a3.Tick,a1,false⟩:Ah)) none) none)) λk2=>cond (!(JC a0)) (k2 true) (cond (!(eA a1 0 1000000)) (k2 true) (cond (!(EA a2)) (k2 true) (cond (!(TA a3)) (k2 true) (k2 (a3.Kind !=3)))))
def Bk(a0:Ao)(a1:Ah):Option (Ao×Int):=ob (kA a0) λr1=>aA (λy2=>cond (y2) (some (r1,1)) (ob (CC a0 a1.Sn) λr6=>cond (r6≥0) (some (r1,3)) (aA (λy7=>cond (y7) (some (r1,7)) (ob (kA a1) λr10=>cond (r1.L.length+[r10].length≤bA) (some ((⟨r1.Cap,r1.L++[r10]⟩:Ao),0)) none)) λk8=>ob (CJ a0) λr9=>cond (r9==a0.Cap) (k8 true) (k8 ((a0.L.length:Int)==12))))) λk3=>ob (AG a0) λr4=>cond (!r4) (k3 true) (ob (ED a1) λr5=>cond (!r5) (k3 true) (k3 a1.Dead))
def Dz(a0:List UInt8)(a1:List UInt8)(a2:List UInt8):=cond (([]:List UInt8).length+a0.length≤bA) (cond (([]:List UInt8).length+a1.length≤bA) (cond (([]:List UInt8).length+a2.length≤bA) (some (⟨16,0,0,[],[]++a1,0,0,[]++a2,[]++a0,(⟨0,0⟩:Af),0⟩:Ad)) none) none) none
def Fy(a0:Aj):Option (Aj×Ab×Int):=aA (λy1=>cond (y1) (ob (kA a0) λr4=>some (r4,(⟨0,0,[],[],0,[],[],0,0,[],[]⟩:Ab),6)) (ob (Bp a0.Cur.N) λr5=>ob (Cp a0 8 r5) λr6=>some (r6.1,r6.2.1,r6.2.2))) λk2=>ob (lC a0) λr3=>cond (!r3) (k2 true) (k2 (a0.Role !=1))
def Hp(a0:Ah):Option (Ah×(List Aq)×(List Ad)):=ob (kA a0) λr1=>aA (λy2=>cond (y2) (some (r1,[],[])) (ob (Fy a0.C) λr5=>cond (r5.2.2 !=0) (some (r1,[],[])) (ob (Bu r5.1 r5.2.1) λr6=>some ((⟨r1.Id,r1.Cn,r1.Sn,r5.1,r1.P,r1.Tick,r1.Last,r1.Dead⟩:Ah),[(⟨a0.P.At,r5.2.1⟩:Aq)],[r6])))) λk3=>ob (ED a0) λr4=>cond (!r4) (k3 true) (cond (a0.Dead) (k3 true) (k3 (a0.C.Cur.N !=0)))
def Hq(a0:Int):=cond (a0<1024) (some 0) (some (fA .i64 (oA .i64 a0 1024) 1))
def By(a0:Ap)(a1:Int):=aA (λy1=>cond (y1) (some false) (aA (λ(y3:Bool)=>some y3) λk4=>cond (a1>a0.Top) (k4 true) (ob (Hq a0.Top) λr5=>cond (a1≥r5) (ob (VF a0 a1) λr6=>k4 (!r6)) (k4 false)))) λk2=>cond (!(IC a0)) (k2 true) (k2 (!(eA a1 0 281474976710655)))
def Hr(a0:List UInt8)(a1:Int)(a2:Ab):=ob (Ce a1 a2) λr1=>aA (λy2=>cond (y2) (some ([],false)) (ob (Cm a1 a2.Sn a2.Epoch a2.Seq) λr6=>ob (Es a0 r6 a2.Body) λr7=>some (r7,true))) λk3=>cond ((a0.length:Int) !=32) (k3 true) (cond ((r1.length:Int)==0) (k3 true) (ob (Dd a0 r1) λr4=>ob (Bn a2.Tag r4) λr5=>k3 (!r5)))
def Di(a0:Ap)(a1:Int):=
 ob (kA a0) λr1=>
 ob (By a0 a1) λr2=>
 cond (!r2)
 (some (r1,false))
 (aA (λ(y3:Ap)=>
 cond (0≤NC .i64 (xA .i64 a1 1024) 32&&NC .i64 (xA .i64 a1 1024) 32<(y3.Bits.length:Int)) (ob (y3.Bits[(NC .i64 (xA .i64 a1 1024) 32).toNat]?) λe13=>
 cond ((xA .i64 (xA .i64 a1 1024) 32)<0) none (let x14:Int:=HJ .i64 1 (xA .i64 (xA .i64 a1 1024) 32)
 cond (0≤NC .i64 (xA .i64 a1 1024) 32&&NC .i64 (xA .i64 a1 1024) 32<(y3.Bits.length:Int)) (ob (y3.Bits[(NC .i64 (xA .i64 a1 1024) 32).toNat]?) λe15=>
 let l16:List Int:=List.set y3.Bits ((NC .i64 (xA .i64 a1 1024) 32).toNat) (OK .i64 e13 x14)
 aA (λ(y17:Ap)=>
 some (y17,true)) λk18=>
 cond (a1>a0.Top)
 (k18 (⟨a1,l16⟩:Ap))
 (k18 (⟨y3.Top,l16⟩:Ap))) none)) none) λk4=>
 uA FU (λ(x5:Int×Int×Ap) k6=>
 aA (λy7=>
 cond (y7)
 (cond (0≤NC .i64 (xA .i64 x5.2.1 1024) 32&&NC .i64 (xA .i64 x5.2.1 1024) 32<(x5.2.2.Bits.length:Int)) (ob (x5.2.2.Bits[(NC .i64 (xA .i64 x5.2.1 1024) 32).toNat]?) λe9=>
 cond ((xA .i64 (xA .i64 x5.2.1 1024) 32)<0) none (let x10:Int:=HJ .i64 1 (xA .i64 (xA .i64 x5.2.1 1024) 32)
 cond (0≤NC .i64 (xA .i64 x5.2.1 1024) 32&&NC .i64 (xA .i64 x5.2.1 1024) 32<(x5.2.2.Bits.length:Int)) (ob (x5.2.2.Bits[(NC .i64 (xA .i64 x5.2.1 1024) 32).toNat]?) λe11=>
 let l12:List Int:=List.set x5.2.2.Bits ((NC .i64 (xA .i64 x5.2.1 1024) 32).toNat) (zcX .i64 e9 x10)
 k6 ((fA .i64 x5.1 1),(fA .i64 x5.2.1 1),(⟨x5.2.2.Top,l12⟩:Ap))) none)) none)
 (k4 x5.2.2)) λk8=>
 cond (x5.2.1≤a1)
 (k8 (decide (x5.1<1024)))
 (k8 false)) (0,(fA .i64 a0.Top 1),r1))
def Dj(a0:Av)(a1:Int)(a2:Ab):Option (Av×(List UInt8)×Int):=ob (kA a0) λr1=>aA (λy2=>cond (y2) (some (r1,[],1)) (ob (By a0.Win a2.Seq) λr5=>cond (!r5) (some (r1,[],3)) (ob (Hr a0.Key a1 a2) λr6=>cond (!r6.2) (some (r1,[],2)) (ob (Di a0.Win a2.Seq) λr7=>some ((⟨r1.N,r1.Key,r1.Seq,r7.1⟩:Av),r6.1,0))))) λk3=>cond (!(cC a0)) (k3 true) (ob (Ce a1 a2) λr4=>cond ((r4.length:Int)==0) (k3 true) (k3 (a2.Epoch !=a0.N)))
def Ez(a0:Aj)(a1:Int)(a2:Ab):Option (Aj×(List UInt8)×Int):=ob (kA a0) λr1=>aA (λy2=>cond (y2) (some (r1,[],1)) (ob (uB a2.Sn a0.Sn) λr5=>cond (!r5) (some (r1,[],8)) (cond (a2.Epoch==a0.Cur.N) (ob (Dj a0.Cur (oA .i64 1 a0.Role) a2) λr6=>cond (r6.2.2 !=0) (some (r1,[],r6.2.2)) (aA (λ(y7:Bool)=>aA (λ(y9:Aj)=>some (y9,r6.2.1,0)) λk10=>cond (y7) (k10 (⟨r1.Role,r1.Sn,r6.1,r1.Old,r1.HasOld,fA .i64 a1 5,r1.Next⟩:Aj)) (k10 (⟨r1.Role,r1.Sn,r6.1,r1.Old,r1.HasOld,r1.Until,r1.Next⟩:Aj))) λk8=>cond (a0.HasOld) (k8 (a0.Until==(-1))) (k8 false))) (aA (λy11=>cond (y11) (aA (λy13=>cond (y13) (some (r1,[],9)) (ob (Dj a0.Old (oA .i64 1 a0.Role) a2) λr15=>cond (r15.2.2 !=0) (some (r1,[],r15.2.2)) (some ((⟨r1.Role,r1.Sn,r1.Cur,r15.1,r1.HasOld,r1.Until,r1.Next⟩:Aj),r15.2.1,0)))) λk14=>cond (a0.Until !=(-1)) (k14 (decide (a1>a0.Until))) (k14 false)) (aA (λy16=>cond (y16) (ob (Dg (fA .i64 a0.Cur.N 1) a0.Next) λr18=>ob (Dj r18 (oA .i64 1 a0.Role) a2) λr19=>cond (r19.2.2 !=0) (some (r1,[],r19.2.2)) (some ((⟨r1.Role,r1.Sn,r19.1,r1.Cur,true,fA .i64 a1 5,[]⟩:Aj),r19.2.1,0))) (some (r1,[],8))) λk17=>cond ((a0.Next.length:Int)>0) (k17 (a2.Epoch==(fA .i64 a0.Cur.N 1))) (k17 false))) λk12=>cond (a0.HasOld) (k12 (a2.Epoch==a0.Old.N)) (k12 false))))) λk3=>ob (lC a0) λr4=>cond (!r4) (k3 true) (cond (!(eA a1 0 1000000)) (k3 true) (cond (!(TA a2)) (k3 true) (k3 (!(nB a2.Kind)))))
def Fz(a0:Aj)(a1:Int):=ob (lC a0) λr1=>cond (!r1) (some ([],false)) (aA (λy2=>cond (y2) (cond (([]:List UInt8).length+a0.Old.Key.length≤bA) (some ([]++a0.Old.Key,true)) none) (cond (a1==a0.Cur.N) (cond (([]:List UInt8).length+a0.Cur.Key.length≤bA) (some ([]++a0.Cur.Key,true)) none) (aA (λy4=>cond (y4) (cond (([]:List UInt8).length+a0.Next.length≤bA) (some ([]++a0.Next,true)) none) (some ([],false))) λk5=>cond ((a0.Next.length:Int)>0) (k5 (a1==(fA .i64 a0.Cur.N 1))) (k5 false)))) λk3=>cond (a0.HasOld) (k3 (a1==a0.Old.N)) (k3 false))
def Ga(a0:Ai)(a1:Int)(a2:Af)(a3:List UInt8):=
 ob (wK a0 a2) λr1=>
 aA (λy2=>
 cond (y2)
 (ob (kA a0) λr5=>
 some (r5,false))
 (aA (λ(y6:Ai)=>
 some (y6,true)) λk7=>
 uA FU (λ(x8:Int×Ai) k9=>
 cond (x8.1<(a0.Cands.length:Int))
 (ob (jA a0.Cands x8.1) λe10=>
 let x11:Bool:=!(cond (e10.A.Host==a2.Host) (cond (e10.A.Port==a2.Port) (true) false) false)
 aA (λ(y12:Ai)=>
 k9 ((fA .i64 x8.1 1),y12)) λk13=>
 cond (x11)
 (ob (jA a0.Cands x8.1) λe14=>
 ob (GH e14) λr15=>
 cond (x8.2.Cands.length+[r15].length≤bA) (k13 (⟨x8.2.At,x8.2.Cands++[r15]⟩:Ai)) none)
 (k13 x8.2))
 (k7 x8.2)) (0,(⟨a2,[]⟩:Ai)))) λk3=>
 cond (!r1.2)
 (k3 true)
 (cond (!(eA a1 0 1000000))
 (k3 true)
 (ob (uB r1.1.Draw a3) λr4=>
 cond (!r4)
 (k3 true)
 (k3 (decide (a1>r1.1.Until)))))
def Hs(a0:Aj):=ob (kA a0) λr1=>aA (λy2=>cond (y2) (some (r1,false)) (ob (LE a0.Cur.Key [114,101,107,101,121]) λr5=>ob (Dg (fA .i64 a0.Cur.N 1) r5) λr6=>some ((⟨r1.Role,r1.Sn,r6,r1.Cur,true,(-1),r1.Next⟩:Aj),true))) λk3=>ob (lC a0) λr4=>cond (!r4) (k3 true) (cond (a0.Role !=1) (k3 true) (k3 (a0.Cur.N==4294967295)))
def Ht(a0:Aj)(a1:Int)(a2:List UInt8):Option (Aj×Int):=ob (kA a0) λr1=>aA (λy2=>cond (y2) (some (r1,6)) (cond (a1==a0.Cur.N) (ob (Hs a0) λr7=>cond (!r7.2) (some (r1,6)) (some (r7.1,0))) (cond (a1==(oA .i64 a0.Cur.N 1)) (some (r1,0)) (some (r1,6))))) λk3=>ob (lC a0) λr4=>cond (!r4) (k3 true) (cond (a0.Role !=1) (k3 true) (cond (!(eA a1 0 4294967294)) (k3 true) (ob (Bp (fA .i64 a1 1)) λr5=>ob (uB a2 r5) λr6=>k3 (!r6))))
def Gb(a0:Ai)(a1:Int)(a2:Af)(a3:List UInt8):=
 aA (λy1=>
 cond (y1)
 (ob (kA a0) λr4=>
 some (r4,false))
 (ob (Cf a0 a1) λr5=>
 aA (λ(y6:Ai)=>
 cond ((r5.Cands.length:Int)==3)
 (ob (kA a0) λr13=>
 some (r13,false))
 (cond (([]:List UInt8).length+a3.length≤bA) (cond (r5.Cands.length+[(⟨a2,[]++a3,fA .i64 a1 6⟩:Aw)].length≤bA) (some ((⟨r5.At,r5.Cands++[(⟨a2,[]++a3,fA .i64 a1 6⟩:Aw)]⟩:Ai),true)) none) none)) λk7=>
 uA FU (λ(x8:Int×Ai) k9=>
 cond (x8.1<(r5.Cands.length:Int))
 (cond (0≤x8.1&&x8.1<(r5.Cands.length:Int)) (ob (r5.Cands[x8.1.toNat]?) λe10=>
 let x11:Bool:=cond (e10.A.Host==a2.Host) (cond (e10.A.Port==a2.Port) (true) false) false
 cond (x11)
 (ob (kA a0) λr12=>
 some (r12,false))
 (k9 ((fA .i64 x8.1 1),x8.2))) none)
 (k7 x8.2)) (0,(⟨(⟨0,0⟩:Af),[]⟩:Ai)))) λk2=>
 cond (!(VB a0))
 (k2 true)
 (cond (!(eA a1 0 1000000))
 (k2 true)
 (cond (!(EA a2))
 (k2 true)
 (cond ((a3.length:Int) !=12)
 (k2 true)
 (let x3:Bool:=cond (a2.Host==a0.At.Host) (cond (a2.Port==a0.At.Port) (true) false) false
 k2 x3))))
def Hu(a0:Ah)(a1:Int)(a2:Af)(a3:Ab)(a4:List UInt8):Option (Ah×(List Aq)×(List Ad)×Bool):=
 ob (kA a0) λr1=>
 aA (λy2=>
 cond (y2)
 (some (r1,[],[],false))
 (ob (Ez a0.C a1 a3) λr5=>
 cond (r5.2.2 !=0)
 (some (r1,[],[],false))
 (ob (Fz a0.C a3.Epoch) λr6=>
 ob (Ce 0 a3) λr7=>
 ob (Dz r6.1 a0.Sn r7) λr8=>
 cond (([]:List Ad).length+[r8].length≤bA) (aA (λ(y9:(List Aq)×(List Ad)×Ah)=>
 ob (Gb y9.2.2.P a1 a2 a4) λr30=>
 ob (Cp y9.2.2.C 5 a4) λr31=>
 aA (λy32=>
 cond (y32)
 (some (y9.2.2,y9.1,y9.2.1,false))
 (cond (y9.1.length+[(⟨a2,r31.2.1⟩:Aq)].length≤bA) (ob (Bu r31.1 r31.2.1) λr34=>
 cond (y9.2.1.length+[r34].length≤bA) (some ((⟨y9.2.2.Id,y9.2.2.Cn,y9.2.2.Sn,r31.1,r30.1,y9.2.2.Tick,y9.2.2.Last,y9.2.2.Dead⟩:Ah),y9.1++[(⟨a2,r31.2.1⟩:Aq)],y9.2.1++[r34],true)) none) none)) λk33=>
 cond (!r30.2)
 (k33 true)
 (k33 (r31.2.2 !=0))) λk10=>
 cond (a3.Kind==4)
 (cond (([]:List UInt8).length+a0.Sn.length≤bA) (cond (([]:List UInt8).length+r5.2.1.length≤bA) (let x11:List Ad:=[(⟨6,0,0,[],[]++a0.Sn,a3.Epoch,a3.Seq,[]++r5.2.1,[],(⟨0,0⟩:Af),a1⟩:Ad)]
 cond (([]++[r8]).length+x11.length≤bA) (k10 ([],(([]++[r8])++x11),(⟨r1.Id,r1.Cn,r1.Sn,r5.1,r1.P,r1.Tick,a1,r1.Dead⟩:Ah))) none) none) none)
 (aA (λ(y12:(List Aq)×(List Ad)×Ah)=>
 k10 (y12.1,y12.2.1,y12.2.2)) λk13=>
 cond (a3.Kind==6)
 (ob (Ga r1.P a1 a2 r5.2.1) λr14=>
 aA (λ(y15:(List Ad)×Ah)=>
 k13 ([],y15.1,y15.2)) λk16=>
 cond (r14.2)
 (cond (([]:List UInt8).length+a0.Sn.length≤bA) (cond (([]:List UInt8).length+r5.2.1.length≤bA) (let x17:List Ad:=[(⟨9,0,0,[],[]++a0.Sn,0,0,[]++r5.2.1,[],a2,a1⟩:Ad)]
 cond (([]++[r8]).length+x17.length≤bA) (k16 ((([]++[r8])++x17),(⟨r1.Id,r1.Cn,r1.Sn,r5.1,r14.1,r1.Tick,a1,r1.Dead⟩:Ah))) none) none) none)
 (k16 (([]++[r8]),(⟨r1.Id,r1.Cn,r1.Sn,r5.1,r1.P,r1.Tick,a1,r1.Dead⟩:Ah))))
 (aA (λ(y18:(List Aq)×(List Ad)×Ah)=>
 k13 (y18.1,y18.2.1,y18.2.2)) λk19=>
 cond (a3.Kind==7)
 (ob (Ht r5.1 a3.Epoch r5.2.1) λr20=>
 aA (λ(y21:(List Aq)×(List Ad)×Ah)=>
 k19 (y21.1,y21.2.1,y21.2.2)) λk22=>
 cond (r20.2==0)
 (aA (λ(y23:(List Ad))=>
 ob (Fy r20.1) λr26=>
 aA (λ(y27:(List Aq)×(List Ad)×Ah)=>
 k22 (y27.1,y27.2.1,y27.2.2)) λk28=>
 cond (r26.2.2==0)
 (cond (([]:List Aq).length+[(⟨r1.P.At,r26.2.1⟩:Aq)].length≤bA) (ob (Bu r26.1 r26.2.1) λr29=>
 cond (y23.length+[r29].length≤bA) (k28 (([]++[(⟨r1.P.At,r26.2.1⟩:Aq)]),(y23++[r29]),(⟨r1.Id,r1.Cn,r1.Sn,r26.1,r1.P,r1.Tick,a1,r1.Dead⟩:Ah))) none) none)
 (k28 ([],y23,(⟨r1.Id,r1.Cn,r1.Sn,r20.1,r1.P,r1.Tick,a1,r1.Dead⟩:Ah)))) λk24=>
 cond (r20.1.Cur.N !=r5.1.Cur.N)
 (cond (([]:List UInt8).length+a0.Sn.length≤bA) (cond (([]:List UInt8).length+r20.1.Cur.Key.length≤bA) (let x25:List Ad:=[(⟨10,0,1,[],[]++a0.Sn,r20.1.Cur.N,0,[],[]++r20.1.Cur.Key,(⟨0,0⟩:Af),0⟩:Ad)]
 cond (([]++[r8]).length+x25.length≤bA) (k24 (([]++[r8])++x25)) none) none) none)
 (k24 ([]++[r8])))
 (k22 ([],([]++[r8]),(⟨r1.Id,r1.Cn,r1.Sn,r5.1,r1.P,r1.Tick,a1,r1.Dead⟩:Ah))))
 (k19 ([],([]++[r8]),(⟨r1.Id,r1.Cn,r1.Sn,r5.1,r1.P,r1.Tick,a1,r1.Dead⟩:Ah)))))) none))) λk3=>
 ob (ED a0) λr4=>
 cond (!r4)
 (k3 true)
 (cond (a0.Dead)
 (k3 true)
 (k3 (!(EA a2))))
def Fa(a0:Ab):=ob (Bm a0) λr1=>some (r1.length:Int)
def Fb(a0:List Ak)(a1:Af)(a2:Int):=
 cond (([]:List Ak).length+a0.length≤bA) (aA (λy1=>
 cond (y1)
 (some ([]++a0,false))
 (cond (0≤(VA a0 a1)&&(VA a0 a1)<(([]++a0).length:Int)) (ob (([]++a0)[(VA a0 a1).toNat]?) λe4=>
 cond (0≤(VA a0 a1)&&(VA a0 a1)<(([]++a0).length:Int)) (ob (([]++a0)[(VA a0 a1).toNat]?) λe5=>
 let l6:List Ak:=List.set ([]++a0) ((VA a0 a1).toNat) (⟨e5.A,e5.Got,fA .i64 e4.Sent a2⟩:Ak)
 some (l6,true)) none) none)) λk2=>
 cond ((VA a0 a1)<0)
 (k2 true)
 (cond (!(pC a0))
 (k2 true)
 (ob (Bc a0 a1) λr3=>
 k2 (!(eA a2 0 r3))))) none
def Hv(a0:Ac)(a1:List Aq):=aA (λ(y1:(List Aq)×Ac)=>some (y1.1,y1.2)) λk2=>uA FU (λ(x3:(List Aq)×Int×Ac) k4=>cond (x3.2.1<(a1.length:Int)) (aA (λ(y5:(List Aq)×Ac)=>k4 (y5.1,(fA .i64 x3.2.1 1),y5.2)) λk6=>ob (jA a1 x3.2.1) λe7=>ob (Dy x3.2.2.T e7.To) λr8=>aA (λ(y9:Ac)=>ob (jA a1 x3.2.1) λe15=>cond (x3.1.length+[e15].length≤bA) (k6 ((x3.1++[e15]),y9)) none) λk10=>cond (!r8) (ob (jA a1 x3.2.1) λe11=>ob (jA a1 x3.2.1) λe12=>ob (Fa e12.F) λr13=>ob (Fb x3.2.2.Cr e11.To r13) λr14=>cond (!r14.2) (k6 (x3.1,x3.2.2)) (k10 (⟨x3.2.2.Psks,x3.2.2.J,x3.2.2.D,x3.2.2.T,r14.1⟩:Ac))) (k10 x3.2.2)) (k2 (x3.1,x3.2.2))) ([],0,a0)
def Hw(a0:Ac)(a1:Int)(a2:Af)(a3:List UInt8):Option (Ac×(List Aq)×(List Ad)):=
 ob (kA a0) λr1=>
 aA (λy2=>
 cond (y2)
 (some (r1,[],[]))
 (ob (Hh a0.Cr a2 (a3.length:Int)) λr5=>
 ob (Ev a3) λr6=>
 cond (!r6.2)
 (some ((⟨r1.Psks,r1.J,r1.D,r1.T,r5⟩:Ac),[],[]))
 (aA (λ(y7:(List Aq)×(List Ad)×Ac×Ac)=>
 ob (Hv y7.2.2.1 y7.1) λr65=>
 some (r65.2,r65.1,y7.2.1)) λk8=>
 cond (r6.1.Kind==1)
 (aA (λy9=>
 cond (y9)
 (some ((⟨r1.Psks,r1.J,r1.D,r1.T,r5⟩:Ac),[],[]))
 (ob (VD a0.D) λr12=>
 cond (([]:List UInt8).length+r6.1.Cn.length≤bA) (ob (Fu a0.J a2 r6.1.Id r6.1.Cn r12.2 a1) λr13=>
 ob (OD r12.2) λr14=>
 ob (Ew a2 r6.1.Id r6.1.Cn r12.2 a1) λr15=>
 ob (Eu a0.J.Secret r15) λr16=>
 cond (([]:List Ad).length+[r14,r16].length≤bA) (let x17:List Aq:=[(⟨a2,(⟨2,0,[]++r6.1.Cn,r12.2,a1,r13,[],0,0,[],[]⟩:Ab)⟩:Aq)]
 cond (([]:List Aq).length+x17.length≤bA) (k8 (([]++x17),([]++[r14,r16]),(⟨r1.Psks,r1.J,r12.1,r1.T,r5⟩:Ac),(⟨[],(⟨[]⟩:Ay),(⟨[],0⟩:Ar),(⟨0,[]⟩:Ao),[]⟩:Ac))) none) none) none)) λk10=>
 cond (r6.1.Id>(a0.Psks.length:Int))
 (k10 true)
 (ob (Ft (⟨r1.Psks,r1.J,r1.D,r1.T,r5⟩:Ac) a2 45) λr11=>
 cond (!r11)
 (k10 true)
 (k10 (a0.D.N==10000))))
 (aA (λ(y18:(List Aq)×(List Ad)×Ac×Ac)=>
 k8 (y18.1,y18.2.1,y18.2.2.2,y18.2.2.1)) λk19=>
 cond (r6.1.Kind==3)
 (aA (λy20=>
 cond (y20)
 (some ((⟨r1.Psks,r1.J,r1.D,r1.T,r5⟩:Ac),[],[]))
 (ob (CC a0.T r6.1.Sn) λr25=>
 aA (λ(y26:(List Ad)×Int×Ac×Ac)=>
 cond (0≤y26.2.1&&y26.2.1<(y26.2.2.2.T.L.length:Int)) (ob (y26.2.2.2.T.L[y26.2.1.toNat]?) λe38=>
 aA (λ(y39:Bool)=>
 aA (λ(y42:(List Aq)×(List Ad)×Ac)=>
 k19 (y42.1,y42.2.1,y26.2.2.1,y42.2.2)) λk43=>
 cond (y39)
 (ob (Hp e38) λr44=>
 cond (0≤y26.2.1&&y26.2.1<(y26.2.2.2.T.L.length:Int)) (ob (y26.2.2.2.T.L[y26.2.1.toNat]?) λe45=>
 cond (([]:List Aq).length+r44.2.1.length≤bA) (cond (y26.1.length+r44.2.2.length≤bA) (k43 (([]++r44.2.1),(y26.1++r44.2.2),(⟨y26.2.2.2.Psks,y26.2.2.2.J,y26.2.2.2.D,(⟨y26.2.2.2.T.Cap,List.set y26.2.2.2.T.L y26.2.1.toNat r44.1⟩:Ao),y26.2.2.2.Cr⟩:Ac))) none) none) none)
 (k43 ([],y26.1,y26.2.2.2))) λk40=>
 cond (!e38.Dead)
 (cond (e38.Id==r6.1.Id)
 (ob (uB e38.Cn r6.1.Cn) λr41=>
 k40 r41)
 (k40 false))
 (k40 false)) none) λk27=>
 cond (r25<0)
 (ob (jA a0.Psks (oA .i64 r6.1.Id 1)) λe28=>
 ob (Ho e28 a1 a2 r6.1) λr29=>
 ob (Bk a0.T r29) λr30=>
 cond (r30.2 !=0)
 (some ((⟨r1.Psks,r1.J,r1.D,r1.T,r5⟩:Ac),[],[]))
 (ob (Ew a2 r6.1.Id r6.1.Cn r6.1.Sn r6.1.Tick) λr31=>
 ob (Dz a0.J.Secret r6.1.Sn r31) λr32=>
 cond (([]:List Ad).length+[r32].length≤bA) (ob (jA a0.Psks (oA .i64 r6.1.Id 1)) λe33=>
 ob (Bj e33) λr34=>
 ob (Ey r6.1.Id r6.1.Cn r6.1.Sn r6.1.Tick r6.1.Cookie) λr35=>
 ob (Dz r34 r6.1.Sn r35) λr36=>
 cond (([]++[r32]).length+[r36].length≤bA) (cond (([]:List UInt8).length+r6.1.Cn.length≤bA) (cond (([]:List UInt8).length+r6.1.Sn.length≤bA) (cond (([]:List UInt8).length+r29.C.Cur.Key.length≤bA) (let x37:List Ad:=[(⟨4,r6.1.Id,0,[]++r6.1.Cn,[]++r6.1.Sn,0,0,[],[]++r29.C.Cur.Key,a2,a1⟩:Ad)]
 cond ((([]++[r32])++[r36]).length+x37.length≤bA) (k27 (((([]++[r32])++[r36])++x37),(oA .i64 (r30.1.L.length:Int) 1),(⟨[],(⟨[]⟩:Ay),(⟨[],0⟩:Ar),(⟨0,[]⟩:Ao),[]⟩:Ac),(⟨r1.Psks,r1.J,r1.D,r30.1,r5⟩:Ac))) none) none) none) none) none) none))
 (k27 ([],r25,(⟨[],(⟨[]⟩:Ay),(⟨[],0⟩:Ar),(⟨0,[]⟩:Ao),[]⟩:Ac),(⟨r1.Psks,r1.J,r1.D,r1.T,r5⟩:Ac))))) λk21=>
 ob (Hj a0.J a1 a2 r6.1) λr22=>
 cond (r22 !=0)
 (k21 true)
 (cond (r6.1.Id>(a0.Psks.length:Int))
 (k21 true)
 (ob (jA a0.Psks (oA .i64 r6.1.Id 1)) λe23=>
 ob (Hk e23 r6.1) λr24=>
 k21 (!r24))))
 (aA (λ(y46:(List Aq)×(List Ad)×Ac×Ac)=>
 k19 (y46.1,y46.2.1,y46.2.2.1,y46.2.2.2)) λk47=>
 cond ((nB r6.1.Kind))
 (ob (CC a0.T r6.1.Sn) λr48=>
 aA (λy49=>
 cond (y49)
 (some ((⟨r1.Psks,r1.J,r1.D,r1.T,r5⟩:Ac),[],[]))
 (ob (VD a0.D) λr52=>
 ob (Ft (⟨r1.Psks,r1.J,r1.D,r1.T,r5⟩:Ac) a2 51) λr53=>
 aA (λ(y54:(List UInt8))=>
 ob (jA a0.T.L r48) λe56=>
 ob (Hu e56 a1 a2 r6.1 y54) λr57=>
 cond (0≤r48&&r48<(r1.T.L.length:Int)) (ob (r1.T.L[r48.toNat]?) λe58=>
 cond (([]:List Aq).length+r57.2.1.length≤bA) (aA (λ(y59:(List Ad)×Ac)=>
 cond (y59.1.length+r57.2.2.1.length≤bA) (aA (λ(y62:(List Ad))=>
 k47 (([]++r57.2.1),y62,(⟨[],(⟨[]⟩:Ay),(⟨[],0⟩:Ar),(⟨0,[]⟩:Ao),[]⟩:Ac),y59.2)) λk63=>
 cond (r57.2.2.2)
 (cond (([]:List UInt8).length+r6.1.Sn.length≤bA) (cond (([]:List UInt8).length+y54.length≤bA) (let x64:List Ad:=[(⟨7,0,0,[],[]++r6.1.Sn,0,0,[]++y54,[],a2,a1⟩:Ad)]
 cond ((y59.1++r57.2.2.1).length+x64.length≤bA) (k63 ((y59.1++r57.2.2.1)++x64)) none) none) none)
 (k63 (y59.1++r57.2.2.1))) none) λk60=>
 cond (r57.2.2.2)
 (ob (OD y54) λr61=>
 cond (([]:List Ad).length+[r61].length≤bA) (k60 (([]++[r61]),(⟨r1.Psks,r1.J,r52.1,(⟨r1.T.Cap,List.set r1.T.L r48.toNat r57.1⟩:Ao),r5⟩:Ac))) none)
 (k60 ([],(⟨r1.Psks,r1.J,r1.D,(⟨r1.T.Cap,List.set r1.T.L r48.toNat r57.1⟩:Ao),r5⟩:Ac)))) none) none) λk55=>
 cond (!r53)
 (k55 [])
 (k55 r52.2))) λk50=>
 cond (r48<0)
 (k50 true)
 (ob (jA a0.T.L r48) λe51=>
 k50 e51.Dead))
 (k47 ([],[],(⟨[],(⟨[]⟩:Ay),(⟨[],0⟩:Ar),(⟨0,[]⟩:Ao),[]⟩:Ac),(⟨r1.Psks,r1.J,r1.D,r1.T,r5⟩:Ac)))))))) λk3=>
 ob (xC a0) λr4=>
 cond (!r4)
 (k3 true)
 (cond (!(eA a1 0 1000000))
 (k3 true)
 (k3 (!(EA a2))))
def Hx(a0:List UInt8)(a1:Int)(a2:Ab):=aA (λy1=>cond (y1) (some ((⟨0,0,[],[],0,[],[],0,0,[],[]⟩:Ab),false)) (ob (Fv a0 a1 a2.Cn a2.Sn a2.Tick a2.Cookie) λr3=>cond ((r3.length:Int)==0) (some ((⟨0,0,[],[],0,[],[],0,0,[],[]⟩:Ab),false)) (ob (kA a2) λr4=>some ((⟨3,a1,r4.Cn,r4.Sn,r4.Tick,r4.Cookie,r3,r4.Epoch,r4.Seq,r4.Body,r4.Tag⟩:Ab),true)))) λk2=>cond (!(TA a2)) (k2 true) (k2 (a2.Kind !=2))
def Hy(a0:Ae)(a1:Int)(a2:Ab):Option (Ae×(List Ab)×(List Ad)):=
 ob (kA a0) λr1=>
 aA (λy2=>
 cond (y2)
 (some (r1,[],[]))
 (aA (λy5=>
 cond (y5)
 (ob (Hx a0.Psk a0.Id a2) λr8=>
 ob (Fw a0.Psk a0.Cn a2.Sn 0) λr9=>
 ob (Fx 0 a2.Sn r9) λr10=>
 ob (Bi a1) λr11=>
 cond (([]:List UInt8).length+a0.Cn.length≤bA) (cond (([]:List UInt8).length+a2.Sn.length≤bA) (let x12:List Ad:=[(⟨2,a0.Id,0,[]++a0.Cn,[]++a2.Sn,0,0,[],[],(⟨0,0⟩:Af),a1⟩:Ad)]
 cond (([]:List Ad).length+x12.length≤bA) (ob (Bj a0.Psk) λr13=>
 ob (Ey r8.1.Id r8.1.Cn r8.1.Sn r8.1.Tick r8.1.Cookie) λr14=>
 ob (Eu r13 r14) λr15=>
 cond (([]++x12).length+[r15].length≤bA) (ob (kA r8.1) λr16=>
 cond (([]:List Ab).length+[r16].length≤bA) (some ((⟨r1.Id,r1.Psk,r1.At,2,r1.Cn,r8.1,r10,r11,r1.R,r1.Last⟩:Ae),[]++[r16],([]++x12)++[r15])) none) none) none) none) none)
 (aA (λy17=>
 cond (y17)
 (some (r1,[],[]))
 (ob (Ez a0.C a1 a2) λr19=>
 cond (r19.2.2 !=0)
 (some (r1,[],[]))
 (ob (Fz a0.C a2.Epoch) λr20=>
 ob (Ce 1 a2) λr21=>
 ob (Dz r20.1 a2.Sn r21) λr22=>
 cond (([]:List Ad).length+[r22].length≤bA) (aA (λ(y23:(List Ad)×Ae)=>
 aA (λ(y26:(List Ad)×Ae)=>
 aA (λ(y29:(List Ad))=>
 aA (λ(y32:(List Ab)×(List Ad)×Ae)=>
 some (y32.2.2,y32.1,y32.2.1)) λk33=>
 cond (a2.Kind==5)
 (ob (Cp r19.1 6 r19.2.1) λr34=>
 aA (λ(y35:(List Ab)×(List Ad)×Ae)=>
 k33 (y35.1,y35.2.1,y35.2.2)) λk36=>
 cond (r34.2.2==0)
 (cond (([]:List Ab).length+[r34.2.1].length≤bA) (ob (Bu r34.1 r34.2.1) λr37=>
 cond (y29.length+[r37].length≤bA) (cond (([]:List UInt8).length+a2.Sn.length≤bA) (cond (([]:List UInt8).length+r19.2.1.length≤bA) (let x38:List Ad:=[(⟨8,0,0,[],[]++a2.Sn,r34.2.1.Epoch,0,[]++r19.2.1,[],(⟨0,0⟩:Af),0⟩:Ad)]
 cond ((y29++[r37]).length+x38.length≤bA) (k36 (([]++[r34.2.1]),((y29++[r37])++x38),(⟨y26.2.Id,y26.2.Psk,y26.2.At,y26.2.St,y26.2.Cn,y26.2.Fin,r34.1,y26.2.T,y26.2.R,y26.2.Last⟩:Ae))) none) none) none) none) none)
 (k36 ([],y29,y26.2)))
 (k33 ([],y29,y26.2))) λk30=>
 cond (a2.Kind==4)
 (cond (([]:List UInt8).length+a2.Sn.length≤bA) (cond (([]:List UInt8).length+r19.2.1.length≤bA) (let x31:List Ad:=[(⟨6,0,1,[],[]++a2.Sn,a2.Epoch,a2.Seq,[]++r19.2.1,[],(⟨0,0⟩:Af),a1⟩:Ad)]
 cond (y26.1.length+x31.length≤bA) (k30 (y26.1++x31)) none) none) none)
 (k30 y26.1)) λk27=>
 cond (r19.1.Cur.N !=a0.C.Cur.N)
 (cond (([]:List UInt8).length+a2.Sn.length≤bA) (cond (([]:List UInt8).length+r19.1.Cur.Key.length≤bA) (let x28:List Ad:=[(⟨10,0,0,[],[]++a2.Sn,r19.1.Cur.N,0,[],[]++r19.1.Cur.Key,(⟨0,0⟩:Af),0⟩:Ad)]
 cond (y23.1.length+x28.length≤bA) (k27 ((y23.1++x28),(⟨y23.2.Id,y23.2.Psk,y23.2.At,y23.2.St,y23.2.Cn,y23.2.Fin,y23.2.C,y23.2.T,(⟨false,0,0,0⟩:Au),y23.2.Last⟩:Ae))) none) none) none)
 (k27 (y23.1,y23.2))) λk24=>
 cond (a0.St==2)
 (cond (([]:List UInt8).length+a0.Cn.length≤bA) (cond (([]:List UInt8).length+a2.Sn.length≤bA) (cond (([]:List UInt8).length+a0.C.Cur.Key.length≤bA) (let x25:List Ad:=[(⟨3,a0.Id,0,[]++a0.Cn,[]++a2.Sn,0,0,[],[]++a0.C.Cur.Key,(⟨0,0⟩:Af),0⟩:Ad)]
 cond (([]++[r22]).length+x25.length≤bA) (k24 ((([]++[r22])++x25),(⟨r1.Id,r1.Psk,r1.At,3,r1.Cn,(⟨0,0,[],[],0,[],[],0,0,[],[]⟩:Ab),r19.1,(⟨false,0,0,0⟩:Au),r1.R,a1⟩:Ae))) none) none) none) none)
 (k24 (([]++[r22]),(⟨r1.Id,r1.Psk,r1.At,r1.St,r1.Cn,r1.Fin,r19.1,r1.T,r1.R,a1⟩:Ae)))) none))) λk18=>
 cond (!(nB a2.Kind))
 (k18 true)
 (k18 (decide (a0.St<2))))) λk6=>
 cond (a2.Kind==2)
 (cond (a0.St==1)
 (ob (uB a2.Cn a0.Cn) λr7=>
 k6 r7)
 (k6 false))
 (k6 false))) λk3=>
 ob (qD a0) λr4=>
 cond (!r4)
 (k3 true)
 (cond (!(eA a1 0 1000000))
 (k3 true)
 (k3 (!(TA a2))))
def Hz(a0:Aa)(a1:Int)(a2:Af)(a3:List UInt8):Option ((List Al)×Aa):=cond (a1==0) (ob (Hw a0.S a0.Now a2 a3) λr1=>cond (a0.Notes.length+r1.2.2.length≤bA) (ob (Fo r1.2.1) λr2=>some (r2,(⟨a0.Now,a0.Clients,r1.1,a0.D,a0.Seen,a0.Known,a0.Notes++r1.2.2⟩:Aa))) none) (ob (Ev a3) λr3=>cond (!r3.2) (some ([],a0)) (cond (0≤oA .i64 a1 1&&oA .i64 a1 1<(a0.Clients.length:Int)) (ob (a0.Clients[(oA .i64 a1 1).toNat]?) λe4=>ob (Hy e4 a0.Now r3.1) λr5=>cond (0≤oA .i64 a1 1&&oA .i64 a1 1<(a0.Clients.length:Int)) (ob (a0.Clients[(oA .i64 a1 1).toNat]?) λe6=>cond (a0.Notes.length+r5.2.2.length≤bA) (ob (Et r5.1 r5.2.1) λr7=>some (r7,(⟨a0.Now,List.set a0.Clients ((oA .i64 a1 1).toNat) r5.1,a0.S,a0.D,a0.Seen,a0.Known,a0.Notes++r5.2.2⟩:Aa))) none) none) none))
def Dk(a0:Aa)(a1:Int)(a2:Af)(a3:List UInt8):Option Aa:=ob (Hz a0 a1 a2 a3) λr1=>ob (Co r1.2 r1.1 []) λr2=>some r2
def Ea(a0:Bb):=aA (λ(y1:Bool)=>some y1) λk2=>cond ((eA a0.Kind 1 10)) (cond ((a0.B.length:Int)≤200) (cond ((eA a0.I 0 200)) (k2 (eA a0.J 0 200)) (k2 false)) (k2 false)) (k2 false)
def Nf(a0:List UInt8)(a1:Int)(a2:Int):=
 aA (λy1=>
 cond (y1)
 (some ([],false))
 (cond (decide (0≤a1)&&decide (a1≤(fA .i64 a1 a2))&&decide ((fA .i64 a1 a2)≤(a0.length:Int))) (let l3:List UInt8:=List.take ((fA .i64 a1 a2 - a1).toNat) (List.drop a1.toNat a0)
 cond (([]:List UInt8).length+l3.length≤bA) (some ([]++l3,true)) none) none)) λk2=>
 cond (a2<0)
 (k2 true)
 (cond (a1<0)
 (k2 true)
 (cond (a2>(a0.length:Int))
 (k2 true)
 (k2 (decide (a1>(oA .i64 (a0.length:Int) a2))))))
def Gc(a0:List Bb)(a1:List Al)(a2:List (List UInt8)):Option ((List UInt8)×Bool):=
 cond ((a0.length:Int)>16)
 (some ([],false))
 (aA (λ(y1:(List (List UInt8)))=>
 cond ((y1.length:Int) !=1)
 (some ([],false))
 (cond (0≤(0:Int)&&(0:Int)<(y1.length:Int)) (ob (y1[0]?) λe71=>
 cond (([]:List UInt8).length+e71.length≤bA) (some ([]++e71,true)) none) none)) λk2=>
 uA FU (λ(x3:(List (List UInt8))×Int) k4=>
 cond (x3.2<(a0.length:Int))
 (ob (jA a0 x3.2) λe5=>
 aA (λy6=>
 cond (y6)
 (some ([],false))
 (ob (Dt e5.Kind) λr10=>
 aA (λ(y11:(List UInt8))=>
 aA (λy68=>
 cond (y68)
 (some ([],false))
 (cond (decide (0≤(0:Int))&&decide ((0:Int)≤(oA .i64 (x3.1.length:Int) r10))&&decide ((oA .i64 (x3.1.length:Int) r10)≤(x3.1.length:Int))) (cond ((List.take ((oA .i64 (x3.1.length:Int) r10 - 0).toNat) x3.1).length+[y11].length≤bA) (let x70:List (List UInt8):=(List.take ((oA .i64 (x3.1.length:Int) r10 - 0).toNat) x3.1)++[y11]
 k4 (x70,(fA .i64 x3.2 1))) none) none)) λk69=>
 cond ((y11.length:Int)>200)
 (k69 true)
 (k69 ((oA .i64 (x3.1.length:Int) r10)==8))) λk12=>
 cond (e5.Kind==1)
 (cond (([]:List UInt8).length+e5.B.length≤bA) (k12 ([]++e5.B)) none)
 (aA (λ(y13:(List UInt8))=>
 k12 y13) λk14=>
 cond (e5.Kind==2)
 (cond (e5.I≥(a1.length:Int))
 (some ([],false))
 (ob (jA a1 e5.I) λe15=>
 cond (([]:List UInt8).length+e15.B.length≤bA) (k14 ([]++e15.B)) none))
 (aA (λ(y16:(List UInt8))=>
 k14 y16) λk17=>
 cond (e5.Kind==3)
 (cond (e5.I≥(a2.length:Int))
 (some ([],false))
 (ob (jA a2 e5.I) λe18=>
 cond (([]:List UInt8).length+e18.length≤bA) (k17 ([]++e18)) none))
 (aA (λ(y19:(List UInt8))=>
 k17 y19) λk20=>
 cond (e5.Kind==4)
 (cond (0≤oA .i64 (x3.1.length:Int) r10&&oA .i64 (x3.1.length:Int) r10<(x3.1.length:Int)) (ob (x3.1[(oA .i64 (x3.1.length:Int) r10).toNat]?) λe21=>
 ob (LJ e21 e5.I e5.J) λr22=>
 cond (!r22.2)
 (some ([],false))
 (k20 r22.1)) none)
 (aA (λ(y23:(List UInt8))=>
 k20 y23) λk24=>
 cond (e5.Kind==5)
 (cond (0≤oA .i64 (x3.1.length:Int) r10&&oA .i64 (x3.1.length:Int) r10<(x3.1.length:Int)) (ob (x3.1[(oA .i64 (x3.1.length:Int) r10).toNat]?) λe25=>
 cond (([]:List UInt8).length+e25.length≤bA) (let x26:Int:=fA .i64 (oA .i64 (x3.1.length:Int) r10) 1
 cond (0≤x26&&x26<(x3.1.length:Int)) (ob (x3.1[x26.toNat]?) λe27=>
 cond (([]++e25).length+e27.length≤bA) (k24 (([]++e25)++e27)) none) none) none) none)
 (aA (λ(y28:(List UInt8))=>
 k24 y28) λk29=>
 cond (e5.Kind==6)
 (cond (0≤oA .i64 (x3.1.length:Int) r10&&oA .i64 (x3.1.length:Int) r10<(x3.1.length:Int)) (ob (x3.1[(oA .i64 (x3.1.length:Int) r10).toNat]?) λe30=>
 let x31:Int:=fA .i64 (oA .i64 (x3.1.length:Int) r10) 1
 cond (0≤x31&&x31<(x3.1.length:Int)) (ob (x3.1[x31.toNat]?) λe32=>
 cond ((e30.length:Int) !=(e32.length:Int))
 (some ([],false))
 (aA (λ(y33:(List UInt8))=>
 k29 y33) λk34=>
 uA FU (λ(x35:(List UInt8)×Int) k36=>
 cond (0≤oA .i64 (x3.1.length:Int) r10&&oA .i64 (x3.1.length:Int) r10<(x3.1.length:Int)) (ob (x3.1[(oA .i64 (x3.1.length:Int) r10).toNat]?) λe37=>
 cond (x35.2<(e37.length:Int))
 (cond (0≤oA .i64 (x3.1.length:Int) r10&&oA .i64 (x3.1.length:Int) r10<(x3.1.length:Int)) (ob (x3.1[(oA .i64 (x3.1.length:Int) r10).toNat]?) λe38=>
 ob (jA e38 x35.2) λe39=>
 let x40:Int:=fA .i64 (oA .i64 (x3.1.length:Int) r10) 1
 cond (0≤x40&&x40<(x3.1.length:Int)) (ob (x3.1[x40.toNat]?) λe41=>
 ob (jA e41 x35.2) λe42=>
 let x43:Int:=AB .u8 ((e39.toNat:Nat):Int) ((e42.toNat:Nat):Int)
 cond (x35.1.length+[UInt8.ofNat (x43:Int).toNat].length≤bA) (k36 ((x35.1++[UInt8.ofNat (x43:Int).toNat]),(fA .i64 x35.2 1))) none) none) none)
 (k34 x35.1)) none) ([],0))) none) none)
 (aA (λ(y44:(List UInt8))=>
 k29 y44) λk45=>
 cond (e5.Kind==7)
 (cond (0≤oA .i64 (x3.1.length:Int) r10&&oA .i64 (x3.1.length:Int) r10<(x3.1.length:Int)) (ob (x3.1[(oA .i64 (x3.1.length:Int) r10).toNat]?) λe46=>
 let x47:Int:=fA .i64 (oA .i64 (x3.1.length:Int) r10) 1
 cond (0≤x47&&x47<(x3.1.length:Int)) (ob (x3.1[x47.toNat]?) λe48=>
 let r49:(List UInt8):=TC e46 e48
 k45 r49) none) none)
 (aA (λ(y50:(List UInt8))=>
 k45 y50) λk51=>
 cond (e5.Kind==8)
 (cond (0≤oA .i64 (x3.1.length:Int) r10&&oA .i64 (x3.1.length:Int) r10<(x3.1.length:Int)) (ob (x3.1[(oA .i64 (x3.1.length:Int) r10).toNat]?) λe52=>
 let x53:Int:=fA .i64 (oA .i64 (x3.1.length:Int) r10) 1
 cond (0≤x53&&x53<(x3.1.length:Int)) (ob (x3.1[x53.toNat]?) λe54=>
 ob (Dd e52 e54) λr55=>
 k51 r55) none) none)
 (aA (λ(y56:(List UInt8))=>
 k51 y56) λk57=>
 cond (e5.Kind==9)
 (cond (0≤oA .i64 (x3.1.length:Int) r10&&oA .i64 (x3.1.length:Int) r10<(x3.1.length:Int)) (ob (x3.1[(oA .i64 (x3.1.length:Int) r10).toNat]?) λe58=>
 ob (LE e58 [114,101,107,101,121]) λr59=>
 k57 r59) none)
 (aA (λ(y60:(List UInt8))=>
 k57 y60) λk61=>
 cond (e5.Kind==10)
 (cond (0≤oA .i64 (x3.1.length:Int) r10&&oA .i64 (x3.1.length:Int) r10<(x3.1.length:Int)) (ob (x3.1[(oA .i64 (x3.1.length:Int) r10).toNat]?) λe62=>
 let x63:Int:=fA .i64 (oA .i64 (x3.1.length:Int) r10) 1
 cond (0≤x63&&x63<(x3.1.length:Int)) (ob (x3.1[x63.toNat]?) λe64=>
 let x65:Int:=fA .i64 (oA .i64 (x3.1.length:Int) r10) 2
 cond (0≤x65&&x65<(x3.1.length:Int)) (ob (x3.1[x65.toNat]?) λe66=>
 ob (Es e62 e64 e66) λr67=>
 k61 r67) none) none) none)
 (k61 [])))))))))))) λk7=>
 ob (Ea e5) λr8=>
 cond (!r8)
 (k7 true)
 (ob (Dt e5.Kind) λr9=>
 k7 (decide ((x3.1.length:Int)<r9))))
 (k2 x3.1)) ([],0))
def Ia(a0:Ac):=
 ob (kA a0) λr1=>
 aA (λy2=>
 cond (y2)
 (some (r1,[]))
 (ob (VD a0.D) λr5=>
 let r6:Ay:=TH r5.2;let r7:Ao:=OE a0.T.Cap
 ob (OD r5.2) λr8=>
 cond (([]:List UInt8).length+r6.Secret.length≤bA) (let x9:List Ad:=[r8,(⟨12,0,0,[],[],0,0,[],[]++r6.Secret,(⟨0,0⟩:Af),0⟩:Ad)]
 some ((⟨r1.Psks,r6,r5.1,r7,[]⟩:Ac),x9)) none)) λk3=>
 ob (xC a0) λr4=>
 cond (!r4)
 (k3 true)
 (k3 (a0.D.N==10000))
def Ib(a0:Ae):=
 ob (qD a0) λr1=>
 cond (!r1)
 (ob (kA a0) λr2=>
 some (r2,[]))
 (cond (a0.St==3)
 (ob (Dw a0) λr3=>
 cond (([]:List UInt8).length+a0.C.Sn.length≤bA) (let x4:List Ad:=[(⟨11,a0.Id,0,[],[]++a0.C.Sn,0,0,[],[],(⟨0,0⟩:Af),0⟩:Ad)]
 some (r3,x4)) none)
 (ob (Dw a0) λr5=>
 some (r5,[])))
def Ic(a0:Ac)(a1:Int):Option (Ac×(List Ad)×Int):=
 ob (kA a0) λr1=>
 ob (xC a0) λr2=>
 cond (!r2)
 (some (r1,[],1))
 (aA (λy3=>
 cond (y3)
 (some (r1,[],8))
 (ob (jA a0.T.L a1) λe7=>
 ob (Fr e7) λr8=>
 cond (0≤a1&&a1<(r1.T.L.length:Int)) (ob (r1.T.L[a1.toNat]?) λe9=>
 ob (jA a0.T.L a1) λe10=>
 ob (Fs e10) λr11=>
 some ((⟨r1.Psks,r1.J,r1.D,(⟨r1.T.Cap,List.set r1.T.L a1.toNat r8⟩:Ao),r1.Cr⟩:Ac),[r11],0)) none)) λk4=>
 let r5:Bool:=eA a1 0 (oA .i64 (a0.T.L.length:Int) 1)
 cond (!r5)
 (k4 true)
 (ob (jA a0.T.L a1) λe6=>
 k4 e6.Dead))
def Ie(a0:Aj):=ob (lC a0) λr1=>cond (!r1) (some []) (aA (λ(y2:(List (List UInt8)))=>cond (([]:List UInt8).length+a0.Cur.Key.length≤bA) (cond (y2.length+[[]++a0.Cur.Key].length≤bA) (aA (λ(y4:(List (List UInt8)))=>some y4) λk5=>cond ((a0.Next.length:Int)>0) (cond (([]:List UInt8).length+a0.Next.length≤bA) (cond ((y2++[[]++a0.Cur.Key]).length+[[]++a0.Next].length≤bA) (k5 ((y2++[[]++a0.Cur.Key])++[[]++a0.Next])) none) none) (k5 (y2++[[]++a0.Cur.Key]))) none) none) λk3=>cond (a0.HasOld) (cond (([]:List UInt8).length+a0.Old.Key.length≤bA) (cond (([]:List (List UInt8)).length+[[]++a0.Old.Key].length≤bA) (k3 ([]++[[]++a0.Old.Key])) none) none) (k3 []))
def Gd(a0:Aa)(a1:Aj):=
 ob (Ie a1) λr1=>
 let x2:Int:=fA .i64 (a0.Known.length:Int) (r1.length:Int)
 cond (x2>12)
 (some (false,a0))
 (cond (a0.Known.length+r1.length≤bA) (cond (([]:List UInt8).length+a1.Sn.length≤bA) (let x3:List Ad:=[(⟨13,0,0,[],[]++a1.Sn,0,0,[],[],(⟨0,0⟩:Af),0⟩:Ad)]
 cond (a0.Notes.length+x3.length≤bA) (some (true,(⟨a0.Now,a0.Clients,a0.S,a0.D,a0.Seen,a0.Known++r1,a0.Notes++x3⟩:Aa))) none) none) none)
def Ge(a0:Ar)(a1:Int):=ob (mK a0) λr1=>aA (λ(y2:Bool)=>aA (λ(y4:Ar)=>some y4) λk5=>cond (y2) (k5 (⟨r1.Seed,a1⟩:Ar)) (k5 r1)) λk3=>cond ((YB a0)) (k3 (eA a1 0 10000)) (k3 false)
def If(a0:Aa)(a1:Am):Option (Bool×Aa):=
 aA (λ(y1:Bool)=>
 aA (λ(y3:Al)=>
 aA (λ(y6:Aa)=>
 some (true,y6)) λk7=>
 cond (a1.Kind==1)
 (ob (VD a0.D) λr8=>
 cond (0≤xA .i64 a1.I 2&&xA .i64 a1.I 2<(a0.Clients.length:Int)) (ob (a0.Clients[(xA .i64 a1.I 2).toNat]?) λe9=>
 ob (Gw e9 a0.Now r8.2) λr10=>
 cond (r10.2.2.2 !=0)
 (some (false,a0))
 (ob (OD r8.2) λr11=>
 cond (a0.Notes.length+[r11].length≤bA) (ob (Du (⟨a0.Now,a0.Clients,a0.S,r8.1,a0.Seen,a0.Known,a0.Notes++[r11]⟩:Aa) (xA .i64 a1.I 2) r10.1 r10.2.1 r10.2.2.1) λr12=>
 k7 r12) none)) none)
 (aA (λ(y13:Aa)=>
 k7 y13) λk14=>
 cond (a1.Kind==2)
 (cond (0≤xA .i64 a1.I 2&&xA .i64 a1.I 2<(a0.Clients.length:Int)) (ob (a0.Clients[(xA .i64 a1.I 2).toNat]?) λe15=>
 ob (Gy e15 a0.Now a1.B) λr16=>
 cond (r16.2.2.2 !=0)
 (some (false,a0))
 (ob (Du a0 (xA .i64 a1.I 2) r16.1 r16.2.1 r16.2.2.1) λr17=>
 k14 r17)) none)
 (aA (λ(y18:Aa)=>
 k14 y18) λk19=>
 cond (a1.Kind==3)
 (ob (Ha a0.S a0.Now a1.I a1.B) λr20=>
 cond (r20.2.2.2 !=0)
 (some (false,a0))
 (ob (Fo r20.2.1) λr21=>
 ob (Co (⟨a0.Now,a0.Clients,r20.1,a0.D,a0.Seen,a0.Known,a0.Notes⟩:Aa) r21 r20.2.2.1) λr22=>
 k19 r22))
 (aA (λ(y23:Aa)=>
 k19 y23) λk24=>
 cond (a1.Kind==4)
 (cond (a0.Now==1000000)
 (some (false,a0))
 (ob (Hf a0) λr25=>
 ob (Co r25.2 r25.1 []) λr26=>
 k24 r26))
 (aA (λ(y27:Aa)=>
 k24 y27) λk28=>
 cond (a1.Kind==5)
 (cond (0≤xA .i64 a1.I 2&&xA .i64 a1.I 2<(a0.Clients.length:Int)) (ob (a0.Clients[(xA .i64 a1.I 2).toNat]?) λe29=>
 let r30:Af:=vC (fA .i64 1 (xA .i64 a1.N 30))
 ob (Bw e29 r30) λr31=>
 cond (0≤xA .i64 a1.I 2&&xA .i64 a1.I 2<(a0.Clients.length:Int)) (ob (a0.Clients[(xA .i64 a1.I 2).toNat]?) λe32=>
 k28 (⟨a0.Now,List.set a0.Clients ((xA .i64 a1.I 2).toNat) r31,a0.S,a0.D,a0.Seen,a0.Known,a0.Notes⟩:Aa)) none) none)
 (aA (λ(y33:Aa)=>
 k28 y33) λk34=>
 cond (a1.Kind==6)
 (cond (0≤xA .i64 a1.I 2&&xA .i64 a1.I 2<(a0.Clients.length:Int)) (ob (a0.Clients[(xA .i64 a1.I 2).toNat]?) λe35=>
 ob (Hg e35 a0.Now) λr36=>
 cond (r36.2.2.2 !=0)
 (some (false,a0))
 (ob (Du a0 (xA .i64 a1.I 2) r36.1 r36.2.1 r36.2.2.1) λr37=>
 k34 r37)) none)
 (aA (λ(y38:Aa)=>
 k34 y38) λk39=>
 cond (a1.Kind==7)
 (ob (pJ a0 y3.To) λr40=>
 cond (r40<0)
 (some (false,a0))
 (ob (Dk a0 r40 y3.From y3.B) λr41=>
 k39 r41))
 (aA (λ(y42:Aa)=>
 k39 y42) λk43=>
 cond (a1.Kind==8)
 (let r44:Af:=vC (xA .i64 a1.N 256)
 ob (Dk a0 0 r44 y3.B) λr45=>
 k43 r45)
 (aA (λ(y46:Aa)=>
 k43 y46) λk47=>
 cond (a1.Kind==9)
 (ob (Dk a0 (xA .i64 a1.J 3) y3.From y3.B) λr48=>
 k47 r48)
 (aA (λ(y49:Aa)=>
 k47 y49) λk50=>
 cond (a1.Kind==10)
 (ob (pJ a0 y3.To) λr51=>
 aA (λy52=>
 cond (y52)
 (some (false,a0))
 (cond (([]:List UInt8).length+y3.B.length≤bA) (cond ((([]++y3.B).length:Int)==0) none (let x54:Int:=xA .i64 a1.N (([]++y3.B).length:Int)
 cond (0≤x54&&x54<(([]++y3.B).length:Int)) (ob (([]++y3.B)[x54.toNat]?) λe55=>
 let x56:Int:=IntKind.wrap .u8 (fA .i64 1 (xA .i64 a1.J 255))
 cond (0≤x54&&x54<(([]++y3.B).length:Int)) (ob (([]++y3.B)[x54.toNat]?) λe57=>
 let l58:List UInt8:=List.set ([]++y3.B) x54.toNat (UInt8.ofNat (AB .u8 ((e55.toNat:Nat):Int) x56:Int).toNat)
 ob (Dk a0 r51 y3.From l58) λr59=>
 k50 r59) none) none)) none)) λk53=>
 cond (r51<0)
 (k53 true)
 (k53 ((y3.B.length:Int)==0)))
 (aA (λ(y60:Aa)=>
 k50 y60) λk61=>
 cond (a1.Kind==11)
 (ob (Gc a1.Ops a0.Seen a0.Known) λr62=>
 cond (!r62.2)
 (some (false,a0))
 (let r63:Af:=vC (xA .i64 a1.N 256)
 ob (Dk a0 (xA .i64 a1.J 3) r63 r62.1) λr64=>
 k61 r64))
 (aA (λ(y65:Aa)=>
 k61 y65) λk66=>
 cond (a1.Kind==12)
 (ob (Ia a0.S) λr67=>
 cond ((r67.2.length:Int)==0)
 (some (false,a0))
 (ob (Co (⟨a0.Now,a0.Clients,r67.1,a0.D,a0.Seen,a0.Known,a0.Notes⟩:Aa) [] r67.2) λr68=>
 k66 r68))
 (aA (λ(y69:Aa)=>
 k66 y69) λk70=>
 cond (a1.Kind==13)
 (cond (0≤xA .i64 a1.I 2&&xA .i64 a1.I 2<(a0.Clients.length:Int)) (ob (a0.Clients[(xA .i64 a1.I 2).toNat]?) λe71=>
 cond (e71.St==0)
 (some (false,a0))
 (cond (0≤xA .i64 a1.I 2&&xA .i64 a1.I 2<(a0.Clients.length:Int)) (ob (a0.Clients[(xA .i64 a1.I 2).toNat]?) λe72=>
 ob (Ib e72) λr73=>
 ob (Du a0 (xA .i64 a1.I 2) r73.1 [] r73.2) λr74=>
 k70 r74) none)) none)
 (aA (λ(y75:Aa)=>
 k70 y75) λk76=>
 cond (a1.Kind==14)
 (ob (Ic a0.S a1.I) λr77=>
 cond (r77.2.2 !=0)
 (some (false,a0))
 (ob (Co (⟨a0.Now,a0.Clients,r77.1,a0.D,a0.Seen,a0.Known,a0.Notes⟩:Aa) [] r77.2.1) λr78=>
 k76 r78))
 (cond (a1.Kind==15)
 (aA (λ(y79:Bool×Aa)=>
 some (y79.1,y79.2)) λk80=>
 cond (0≤xA .i64 a1.I 2&&xA .i64 a1.I 2<(a0.Clients.length:Int)) (ob (a0.Clients[(xA .i64 a1.I 2).toNat]?) λe81=>
 cond (e81.St==3)
 (cond (0≤xA .i64 a1.I 2&&xA .i64 a1.I 2<(a0.Clients.length:Int)) (ob (a0.Clients[(xA .i64 a1.I 2).toNat]?) λe82=>
 ob (Gd a0 e82.C) λr83=>
 k80 (r83.1,r83.2)) none)
 (k80 (false,a0))) none)
 (cond (a1.Kind==16)
 (aA (λ(y84:Bool×Aa)=>
 some (y84.1,y84.2)) λk85=>
 cond (a1.I<(a0.S.T.L.length:Int))
 (ob (jA a0.S.T.L a1.I) λe86=>
 cond (!e86.Dead)
 (ob (jA a0.S.T.L a1.I) λe87=>
 ob (Gd a0 e87.C) λr88=>
 k85 (r88.1,r88.2))
 (k85 (false,a0)))
 (k85 (false,a0)))
 (aA (λ(y89:Aa)=>
 k76 y89) λk90=>
 cond (a1.Kind==17)
 (aA (λ(y91:Aa)=>
 k90 y91) λk92=>
 cond ((xA .i64 a1.J 2)==0)
 (ob (Ge a0.D a1.N) λr93=>
 k92 (⟨a0.Now,a0.Clients,a0.S,r93,a0.Seen,a0.Known,a0.Notes⟩:Aa))
 (ob (Ge a0.S.D a1.N) λr94=>
 k92 (⟨a0.Now,a0.Clients,(⟨a0.S.Psks,a0.S.J,r94,a0.S.T,a0.S.Cr⟩:Ac),a0.D,a0.Seen,a0.Known,a0.Notes⟩:Aa)))
 (k90 a0)))))))))))))))))) λk4=>
 cond (y1)
 (cond ((a0.Seen.length:Int)==0)
 (some (false,a0))
 (cond ((a0.Seen.length:Int)==0) none (cond (0≤xA .i64 a1.I (a0.Seen.length:Int)&&xA .i64 a1.I (a0.Seen.length:Int)<(a0.Seen.length:Int)) (ob (a0.Seen[(xA .i64 a1.I (a0.Seen.length:Int)).toNat]?) λe5=>
 k4 e5) none)))
 (k4 (⟨(⟨0,0⟩:Af),(⟨0,0⟩:Af),[]⟩:Al))) λk2=>
 cond (a1.Kind≥7)
 (k2 (decide (a1.Kind≤10)))
 (k2 false)
end
end Go.D
namespace Go.D
end Go.D
namespace Go.D
def qK{α σ R:Type}[Wt α](l:List α)(hl:wt l≤bA)(st:Int→List α→σ)(K:List α→Option R){f:σ→(σ→Option R)→Option R}
  (hf:∀(i:Nat) (hi:i<l.length) (acc:List α) (k:σ→Option R),f (st (i:Int) acc) k=cond (acc.length+1≤bA) (k (st (fA .i64 (i:Int) 1) (acc++[l[i]]))) none)
  (hz:∀(acc:List α) (k:σ→Option R),f (st (l.length:Int) acc) k=K acc):uA FU f (st 0 [])=K l:=by
 have hL:=yB;have Y8:=QB l
 have key:∀(n i:Nat),i≤l.length→l.length - i<n→uA n f (st (i:Int) (l.take i))=K l:=by
  intro n;induction n with
  | zero=>intro i _ h;omega
  | succ n ih=>
   intro i hi hn;show f (st (i:Int) (l.take i)) (uA n f)=K l
   rcases Nat.lt_or_ge i l.length with h|h
   ·rw[hf i h]
    have h1:decide ((l.take i).length+1≤bA)=true:=by
     rw[List.length_take];simp;omega
    rw[h1,cond_true];have h2:fA .i64 (i:Int) 1=((i+1:Nat):Int):=OG i (by rw[dD];omega);rw[h2,List.take_append_getElem h];exact ih (i+1) h (by omega)
   ·have:i=l.length:=by omega
    subst this;rw[hz,List.take_length]
 rw[zg0];exact key _ 0 (Nat.zero_le _) (by omega)
def ZD{α β:Type}{l:List α}{x:Option β}(h:l.length≤bA):cond (([]:List α).length+l.length≤bA) x none=x:=by
 rw[decide_eq_true (by simpa using h)];rfl
def pH{α β:Type}[Wt α]{a:α}{f:α→Option β}(h:wt a≤bA):Option.bind (kA a) f=f a:=PA h
def zhW(x:Ap)(h:wt x≤bA):Mp x=some x:=by
 rw[zak,ML]at h;unfold Mp;rw[ZD h];rfl
def zoR(x:Av)(h:wt x≤bA):Mq x=some x:=by
 rw[GK,FA]at h;unfold Mq;rw[ZD (by omega),pH (by omega)];rfl
def zpD(x:Av)(b:Bool)(h:wt x≤bA):Mr x b=some x:=by
 unfold Mr;rw[pH h];rw[GK,zak,ML,FA]at h;rw[ZD (by omega),ZD (by omega)];cases b<;>rfl
def zoy(x:Aj)(h:wt x≤bA):Ms x=some x:=by
 rw[QH,FA,FA]at h;unfold Ms;rw[ZD (by omega),pH (by omega),zdp,PA (by omega),ZD (by omega)];rfl
def zos(x:Ai)(h:wt x≤bA):Mt x=some x:=by
 have hw:wt x=wt x.Cands:=by rw[tK,GE];omega
 rw[hw]at h;unfold Mt;simp only[aA];refine qK x.Cands h (λi acc=>(i,(⟨x.At,acc⟩:Ai))) (λacc=>some (⟨x.At,acc⟩:Ai)) (λi hi acc k=>?_) (λacc k=>?_)
 ·have ZV:((i:Int)<(x.Cands.length:Int)):=by omega
  have hm:=fG hi;simp only[decide_eq_true ZV,cond_true,DB hi,XA];rw[GH,PA (by omega)];rfl
 ·have ZV:¬((x.Cands.length:Int)<(x.Cands.length:Int)):=by omega
  simp only[decide_eq_false ZV,cond_false]
def zoq(x:Ah)(h:wt x≤bA):Mu x=some x:=by
 rw[vK,FA,FA]at h;unfold Mu;rw[ZD (by omega),ZD (by omega),pH (by omega),pH (by omega)];rfl
def zhN(x:Ao)(h:wt x≤bA):Mw x=some x:=by
 rw[CK]at h;unfold Mw;simp only[aA];refine qK x.L h (λi acc=>(i,(⟨x.Cap,acc⟩:Ao))) (λacc=>some (⟨x.Cap,acc⟩:Ao)) (λi hi acc k=>?_) (λacc k=>?_)
 ·have ZV:((i:Int)<(x.L.length:Int)):=by omega
  have hm:=fG hi;simp only[decide_eq_true ZV,cond_true,DB hi,XA];rw[pH (by omega)];rfl
 ·have ZV:¬((x.L.length:Int)<(x.L.length:Int)):=by omega
  simp only[decide_eq_false ZV,cond_false]
def zop(x:Ac)(h:wt x≤bA):Mx x=some x:=by
 rw[lO,zam,FA]at h;have hc:=QB x.Cr;unfold Mx;rw[ZD (by omega),mK,PA (by omega),pH (by omega),ZD (by omega)];simp only[aA];refine qK x.Psks (by omega) (λi acc=>(i,(⟨acc,(⟨[]++x.J.Secret⟩:Ay),x.D,x.T,[]++x.Cr⟩:Ac))) (λacc=>some (⟨acc,(⟨[]++x.J.Secret⟩:Ay),x.D,x.T,[]++x.Cr⟩:Ac)) (λi hi acc k=>?_) (λacc k=>?_)
 ·have ZV:((i:Int)<(x.Psks.length:Int)):=by omega
  have hm:=fG hi;rw[FA]at hm;simp only[decide_eq_true ZV,cond_true,DB hi,XA];rw[ZD (by omega)];rfl
 ·have ZV:¬((x.Psks.length:Int)<(x.Psks.length:Int)):=by omega
  simp only[decide_eq_false ZV,cond_false]
def zoH(x:List Al)(h:wt x≤bA):My x=some x:=by
 unfold My;simp only[aA];refine qK x h (λi acc=>(acc,i)) (λacc=>some acc) (λi hi acc k=>?_) (λacc k=>?_)
 ·have ZV:((i:Int)<(x.length:Int)):=by omega
  have hm:=fG hi;rw[zdh,FA]at hm;simp only[decide_eq_true ZV,cond_true,DB hi,XA];rw[ZD (by omega)];rfl
 ·have ZV:¬((x.length:Int)<(x.length:Int)):=by omega
  simp only[decide_eq_false ZV,cond_false]
def zoC(x:Ad)(h:wt x≤bA):Mz x=some x:=by
 rw[KL,FA,FA,FA,FA]at h;unfold Mz;rw[ZD (by omega),ZD (by omega),ZD (by omega),ZD (by omega)];rfl
def zh0(x:List Ad)(h:wt x≤bA):Na x=some x:=by
 unfold Na;simp only[aA];refine qK x h (λi acc=>(acc,i)) (λacc=>some acc) (λi hi acc k=>?_) (λacc k=>?_)
 ·have ZV:((i:Int)<(x.length:Int)):=by omega
  have hm:=fG hi;simp only[decide_eq_true ZV,cond_true,DB hi,XA];rw[pH (by omega)];rfl
 ·have ZV:¬((x.length:Int)<(x.length:Int)):=by omega
  simp only[decide_eq_false ZV,cond_false]
def zoQ(x:Ab)(h:wt x≤bA):Nb x=some x:=by
 rw[tI,FA,FA,FA,FA,FA,FA]at h;unfold Nb;rw[ZD (by omega),ZD (by omega),ZD (by omega),ZD (by omega),ZD (by omega),ZD (by omega)];rfl
def zoA(x:Ae)(h:wt x≤bA):Nc x=some x:=by
 rw[GS,FA,FA]at h;unfold Nc;rw[ZD (by omega),ZD (by omega),pH (by omega),pH (by omega)];rfl
def zoF(x:Aa)(h:wt x≤bA):Nd x=some x:=by
 rw[cG]at h;unfold Nd;rw[pH (by omega),mK,PA (by omega),pH (by omega),pH (by omega)]
 have key2:∀w:Aa,w.Known=[]→uA FU (λ(x13:Int×Aa) k14=>
   cond (x13.1<(x.Known.length:Int))
   (Option.bind (jA x.Known x13.1) λe15=>
   cond (([]:List UInt8).length+e15.length≤bA) (cond (x13.2.Known.length+[[]++e15].length≤bA) (k14 ((fA .i64 x13.1 1),(⟨x13.2.Now,x13.2.Clients,x13.2.S,x13.2.D,x13.2.Seen,x13.2.Known++[[]++e15],x13.2.Notes⟩:Aa))) none) none)
   (some x13.2)) (0,w)=some (⟨w.Now,w.Clients,w.S,w.D,w.Seen,x.Known,w.Notes⟩:Aa):=λw hw=>by
  obtain⟨w1,w2,w3,w4,w5,w6,w7⟩:=w;cases hw;refine qK x.Known (by omega) (λi acc=>(i,(⟨w1,w2,w3,w4,w5,acc,w7⟩:Aa))) (λacc=>some (⟨w1,w2,w3,w4,w5,acc,w7⟩:Aa)) (λi hi acc k=>?_) (λacc k=>?_)
  ·have ZV:((i:Int)<(x.Known.length:Int)):=by omega
   have hm:=fG hi;rw[FA]at hm;simp only[decide_eq_true ZV,cond_true,DB hi,XA];rw[ZD (by omega)];rfl
  ·have ZV:¬((x.Known.length:Int)<(x.Known.length:Int)):=by omega
   simp only[decide_eq_false ZV,cond_false]
 simp only[aA];refine qK x.Clients (by omega) (λi acc=>(i,(⟨x.Now,acc,x.S,x.D,x.Seen,[],x.Notes⟩:Aa))) (λacc=>some (⟨x.Now,acc,x.S,x.D,x.Seen,x.Known,x.Notes⟩:Aa)) (λi hi acc k=>?_) (λacc k=>?_)
 ·have ZV:((i:Int)<(x.Clients.length:Int)):=by omega
  have hm:=fG hi;simp only[decide_eq_true ZV,cond_true,DB hi,XA];rw[pH (by omega)];rfl
 ·have ZV:¬((x.Clients.length:Int)<(x.Clients.length:Int)):=by omega
  simp only[decide_eq_false ZV,cond_false];exact key2 _ rfl
def wR.ok{x}(_:vA [.v .Win] x){r}:kA (α:=Ap) x=some r→Mp x=some r:=QA λh=>zhW x h
def vR.ok{x}(_:vA [.v .Ep] x){r}:kA (α:=Av) x=some r→Mq x=some r:=QA λh=>zoR x h
def dR.ok{x}(_:vA [.v .Chan] x){r}:kA (α:=Aj) x=some r→Ms x=some r:=QA λh=>zoy x h
def RQ.ok{x}(_:vA [.v .Paths] x){r}:kA (α:=Ai) x=some r→Mt x=some r:=QA λh=>zos x h
def SQ.ok{x}(_:vA [.v .Sess] x){r}:kA (α:=Ah) x=some r→Mu x=some r:=QA λh=>zoq x h
def uQ.ok{x}(_:vA [.v .Tab] x){r}:kA (α:=Ao) x=some r→Mw x=some r:=QA λh=>zhN x h
def MQ.ok{x}(_:vA [.v .Server] x){r}:kA (α:=Ac) x=some r→Mx x=some r:=QA λh=>zop x h
def wQ.ok{x}(_:vA [.sl .Wire] x){r}:kA (α:=List Al) x=some r→My x=some r:=QA λh=>zoH x h
def cR.ok{x}(_:vA [.v .Note] x){r}:kA (α:=Ad) x=some r→Mz x=some r:=QA λh=>zoC x h
def MR.ok{x}(_:vA [.sl .Note] x){r}:kA (α:=List Ad) x=some r→Na x=some r:=QA λh=>zh0 x h
def AR.ok{x}(_:vA [.v .Frame] x){r}:kA (α:=Ab) x=some r→Nb x=some r:=QA λh=>zoQ x h
def CQ.ok{x}(_:vA [.v .Client] x){r}:kA (α:=Ae) x=some r→Nc x=some r:=QA λh=>zoA x h
def KQ.ok{x}(_:vA [.v .World] x){r}:kA (α:=Aa) x=some r→Nd x=some r:=QA λh=>zoF x h
def QR.ok{x}(_:vA [.v .Ep, .v .bool] x){r}:zdp x.1 x.2=some r→Mr x.1 x.2=some r:=QA λh=>zpD x.1 x.2 h
end Go.D
namespace Go.D
instance:Wt Aq:=⟨λx=>wt x.To+wt x.F⟩
def zw7(x:Aq):wt x=wt x.To+wt x.F:=rfl
instance:Wt Nat:=⟨λ_=>0⟩
def Ok.guard{α γ β:Type}[Wt α][Wt γ]{l:List α}{m:List γ}{x:Option β}{P:β→Prop}(h:wt l+wt m≤bA)(k:Ok x P):Ok (cond (l.length+m.length≤bA) x none) P:=by
 have h1:=QB l;have h2:=QB m;rw[decide_eq_true (by omega)];exact k
def Ok.ble{α β:Type}[Wt α]{l:List α}{x:Option β}{P:β→Prop}(h:wt l≤bA)(k:Ok x P):Ok (cond (Nat.ble l.length bA) x none) P:=by
 have h1:=QB l;rw[Nat.ble_eq_true_of_le (by omega)];exact k
def Ok.chk{β:Type}{b:Bool}{x:Option β}{P:β→Prop}(h:b=true)(k:Ok x P):Ok (cond b x none) P:=by rw[h];exact k
def Ok.chkn{β:Type}{b:Bool}{x:Option β}{P:β→Prop}(h:b=false)(k:Ok x P):Ok (cond b none x) P:=by rw[h];exact k
def Ok.join{α β:Type}{F:α→Option β}{G:(α→Option β)→Option β}{P:β→Prop}(Q:α→Prop)(h1:∀y,Q y→Ok (F y) P)(h2:∀k:α→Option β,(∀y,Q y→Ok (k y) P)→Ok (G k) P):
  Ok (aA F G) P:=h2 F h1
def Ok.idx{α:Type}{l:List α}{i:Int}(h0:0≤i)(h1:i<(l.length:Int)):Ok (jA l i) λx=>l[i.toNat]?=some x:=by
 obtain⟨j,rfl⟩:=Int.eq_ofNat_of_zero_le h0;have hj:j<l.length:=by omega
 exact⟨l[j],DB hj,by rw[Int.toNat_natCast,List.getElem?_eq_getElem hj]⟩
def Ok.get{α:Type}{l:List α}{i:Nat}(h:i<l.length):Ok (l[i]?) λx=>l[i]?=some x:=⟨l[i],List.getElem?_eq_getElem h,List.getElem?_eq_getElem h⟩
def Ok.same{α β:Type}{o:Option α}{a:α}{f:α→Option β}{P:β→Prop}(h:o=some a)(k:Ok (f a) P):Ok (Option.bind o f) P:=by rw[h];exact k
def zg1{α:Type}[Wt α]{l:List α}{i:Nat}{x:α}(h:l[i]?=some x):wt x+1≤wt l:=zad (List.mem_of_getElem? h)
def AD{α:Type}[Wt α]:∀(l:List α) (i:Nat) (x:α),wt (l.set i x)≤wt l+wt x
 | [],i,x=>by simp[SG]
 | y :: l,0,x=>by rw[List.set_cons_zero,TD,TD];omega
 | y :: l,i+1,x=>by rw[List.set_cons_succ,TD,TD];have:=AD l i x;omega
def YA{x a b:Int}:eA x a b=true↔a≤x∧x≤b:=by simp[eA]
def ztA{x a b:Int}:eA x a b=false↔¬(a≤x∧x≤b):=by rw[←Bool.not_eq_true,YA]
theorem DA{a b:Int}(h1: -9223372036854775808≤a+b)(h2:a+b≤9223372036854775807):fA .i64 a b=a+b:=FB h1 h2
theorem RA{a b:Int}(h1: -9223372036854775808≤a - b)(h2:a - b≤9223372036854775807):oA .i64 a b=a - b:=FB h1 h2
def NO{a b:Int}(h1:0≤a):xA .i64 a b=a % b:=Int.tmod_eq_emod_of_nonneg h1
def lT{e:Av}(h:cC e=true):e.Key.length=32∧e.Win.Bits.length=32:=by
 simp only[cC,IC,tC,Bool.and_eq_true,beq_iff_eq]at h;omega
def zgd{w:Ap}(h:IC w=true):w.Bits.length=32∧ -1≤w.Top∧w.Top≤281474976710655:=by
 simp only[IC,tC,Bool.and_eq_true,beq_iff_eq,YA]at h;omega
def LC{f:Ab}(h:TA f=true):f.Cn.length≤12∧f.Sn.length≤12∧f.Cookie.length≤16∧f.Proof.length≤16∧f.Body.length≤40∧f.Tag.length≤16∧(f.Kind=3→1≤f.Id∧f.Id≤9):=by
 unfold TA at h;cases hs:nB f.Kind
 ·rw[hs,cond_false]at h;simp only[Bool.and_eq_true,beq_iff_eq]at h;obtain⟨⟨⟨⟨⟨h1,h2⟩,h3⟩,h4⟩,h5⟩,h6⟩:=h
  by_cases k1:f.Kind=1
  ·simp only[k1,beq_self_eq_true,cond_true,Bool.and_eq_true,beq_iff_eq,YA]at h6;omega
  ·have k1':(f.Kind==1)=false:=by simpa using k1
   rw[k1',cond_false]at h6
   by_cases k2:f.Kind=2
   ·simp only[k2,beq_self_eq_true,cond_true,Bool.and_eq_true,beq_iff_eq,YA]at h6;omega
   ·have k2':(f.Kind==2)=false:=by simpa using k2
    simp only[k2',cond_false,Bool.and_eq_true,beq_iff_eq,YA]at h6;omega
 ·rw[hs,cond_true]at h;simp only[Bool.and_eq_true,beq_iff_eq,YA]at h
  have hb:f.Body.length≤40:=by
   have hb:=h.1.2;unfold tE at hb;cases k4:f.Kind==4<;>rw[k4]at hb
   ·cases k5:f.Kind==5||f.Kind==6<;>rw[k5]at hb<;>simp at hb<;>omega
   ·simp at hb;omega
  unfold nB at hs;rw[YA]at hs;omega
def zgI{e:Av}(h:UF e=true):e.Key.length=0∧e.Win.Bits.length=0:=by
 simp only[UF,Bool.and_eq_true,beq_iff_eq]at h;omega
def aT{c:Aj}(h:rB c=true):wt c≤172∧c.Sn.length=12∧c.Cur.Key.length=32:=by
 simp only[rB,DG,mA,Bool.and_eq_true,Bool.or_eq_true,beq_iff_eq]at h;obtain⟨⟨⟨⟨h1,h2⟩,h3⟩,h4⟩,h5⟩:=h;have h3:=lT h3
 have h6:c.Old.Key.length≤32∧c.Old.Win.Bits.length≤32:=by
  cases ho:c.HasOld
  ·rw[ho,cond_false,Bool.and_eq_true]at h4;have:=zgI h4.1;omega
  ·rw[ho,cond_true]at h4;simp only[Bool.and_eq_true]at h4;have:=lT h4.1.1;omega
 simp only[QH,GK,zak,FA,ML];omega
def zf5{c:Aj}(h:oC c=true):wt c=0:=by
 simp only[oC,Bool.and_eq_true,beq_iff_eq]at h;obtain⟨⟨⟨⟨⟨⟨h1,h2⟩,h3⟩,h4⟩,h5⟩,h6⟩,h7⟩:=h;have h3:=zgI h3;have h4:=zgI h4;simp only[QH,GK,zak,FA,ML];omega
def zfK{f:Ab}(h:HF f=true):wt f=0:=by
 simp only[HF,Bool.and_eq_true,beq_iff_eq]at h;simp only[tI,FA];omega
def OM{α:Type}[Wt α](n:Nat):∀l:List α,(∀x∈l,wt x≤n)→wt l≤(n+1) *l.length
 | [],_=>by simp[SG]
 | x :: l,h=>by
  have h1:=h x (by simp);have h2:=OM n l λy hy=>h y (by simp[hy]);rw[TD,List.length_cons,Nat.mul_add];omega
def uO{n:Nat}{p:Nat→Bool}(h:(!qB n p)=true){i:Nat}(hi:i<n):p i=false:=by
 cases hp:p i
 ·rfl
 ·have:qB n p=true:=JM.2 ⟨i,hi,hp⟩;rw[this]at h;cases h
def oI{p:Ai}(h:VB p=true):wt p≤39∧p.Cands.length≤3:=by
 simp only[VB,Bool.and_eq_true,decide_eq_true_eq]at h;obtain⟨⟨h1,h2⟩,h3⟩:=h
 have hb:wt p.Cands≤(12+1) *p.Cands.length:=OM 12 p.Cands λx hx=>by
  obtain⟨i,hi,rfl⟩:=List.mem_iff_getElem.1 hx;have:=uO h3 hi;unfold KO at this;rw[List.getElem?_eq_getElem hi]at this;simp only[Option.any_some,Bool.or_eq_false_iff,Bool.not_eq_false',mA,beq_iff_eq]at this;simp only[zdj,GE,FA];omega
 simp only[tK,GE];omega
def BL{s:Ah}(h:TB s=true):wt s≤235∧s.Sn.length=12:=by
 simp only[TB,mA,Bool.and_eq_true,beq_iff_eq]at h;obtain⟨⟨⟨⟨h1,h2⟩,h3⟩,h4⟩,h5⟩:=h
 have h6:wt s.C+wt s.P≤211:=by
  cases hd:s.Dead
  ·rw[hd,cond_false]at h5;simp only[Bool.and_eq_true]at h5;have:=aT h5.1.1.1.1;have:=oI h5.1.2;omega
  ·rw[hd,cond_true]at h5;simp only[Bool.and_eq_true,beq_iff_eq]at h5;have:=zf5 h5.1.1.1;have hl:s.P.Cands=[]:=List.eq_nil_of_length_eq_zero (by omega);have:wt s.P=0:=by rw[tK,hl,GE];rfl
   omega
 simp only[vK,FA];omega
def LL{t:Ao}(h:GC t=true):wt t≤2832∧t.L.length≤12:=by
 simp only[GC,Bool.and_eq_true,decide_eq_true_eq]at h;obtain⟨⟨⟨h1,h2⟩,h3⟩,h4⟩:=h
 have hb:wt t.L≤(235+1) *t.L.length:=OM 235 t.L λx hx=>by
  obtain⟨i,hi,rfl⟩:=List.mem_iff_getElem.1 hx;have:=uO h4 hi;unfold xK at this;rw[List.getElem?_eq_getElem hi]at this;simp only[Option.any_some,Bool.or_eq_false_iff,Bool.not_eq_false']at this;exact(BL this.1).1
 rw[CK];omega
theorem cJ{l:List Ak}(h:pC l=true):wt l≤8∧l.length≤8:=by
 simp only[pC,Bool.and_eq_true,decide_eq_true_eq]at h;have:=zcx (α:=Ak) (λ_=>rfl) l;omega
def HL{b:List UInt8}(h:JC b=true):1≤b.length∧b.length≤32:=by
 simp only[JC,YA]at h;omega
def EF{a:Af}(h:EA a=true):0≤a.Host∧a.Host≤4294967295∧0≤a.Port∧a.Port≤65535:=by
 simp only[EA,Bool.and_eq_true,YA]at h;omega
def zc3{j:Ay}(h:gF j=true):j.Secret.length=32:=by
 simp only[gF,beq_iff_eq]at h;omega
def zf4{d:Ar}(h:YB d=true):d.Seed.length≤32:=by
 simp only[YB,Bool.and_eq_true,YA]at h;omega
def SF(s:Ac):Prop:=wt s≤3300∧s.T.L.length≤12∧s.Psks.length≤9∧s.J.Secret.length=32
def BF{s:Ac}(h:wB s=true):SF s:=by
 simp only[wB,Bool.and_eq_true,YA]at h;obtain⟨⟨⟨⟨⟨⟨h1,h2⟩,h3⟩,h4⟩,h5⟩,h6⟩,h7⟩:=h;have h2:=zc3 h2;have h3:=zf4 h3;have h4:=LL h4;have h5:=cJ h5
 have hb:wt s.Psks≤(32+1) *s.Psks.length:=OM 32 s.Psks λx hx=>by
  rw[Bool.not_eq_true',List.any_eq_false]at h6;have:=h6 x hx;simp only[Bool.not_eq_true',Bool.not_eq_false]at this;have:=HL this;rw[FA];omega
 simp only[SF,lO,zam,RM,FA];omega
def CF(c:Ae):Prop:=wt c≤350∧1≤c.Id∧c.Id≤9∧1≤c.Psk.length∧c.Psk.length≤32∧0≤c.At.Host∧c.At.Host≤4294967295∧0≤c.At.Port∧c.At.Port≤65535
def RD{c:Ae}(h:fB c=true):CF c:=by
 simp only[fB,Bool.and_eq_true,YA]at h;obtain⟨⟨⟨h1,h2⟩,h3⟩,h4⟩:=h;have h2:=HL h2;have h3:=EF h3
 have h5:wt c.Cn+wt c.Fin+wt c.C≤310:=by
  cases k0:c.St==0
  ·rw[k0,cond_false]at h4;cases k1:c.St==1
   ·rw[k1,cond_false]at h4;cases k2:c.St==2
    ·rw[k2,cond_false]at h4;simp only[Bool.and_eq_true,mA,beq_iff_eq]at h4;obtain⟨⟨⟨⟨⟨⟨⟨⟨_,a1⟩,a2⟩,a3⟩,_⟩,_⟩,_⟩,_⟩,_⟩:=h4;have a2:=zfK a2;have a3:=aT a3;rw[FA];omega
    ·rw[k2,cond_true]at h4;simp only[Bool.and_eq_true]at h4;have hf:=h4.1.1.1.1;simp only[oJ,Bool.and_eq_true,mA,beq_iff_eq]at hf;obtain⟨⟨⟨⟨⟨⟨⟨⟨⟨⟨a1,_⟩,a2⟩,_⟩,_⟩,a3⟩,_⟩,_⟩,_⟩,_⟩,_⟩:=hf;have a2:=LC a2;have a3:=aT a3;simp only[tI,FA];omega
   ·rw[k1,cond_true]at h4;simp only[Bool.and_eq_true,mA,beq_iff_eq]at h4;obtain⟨⟨⟨⟨⟨⟨a1,a2⟩,a3⟩,_⟩,_⟩,_⟩,_⟩:=h4;have a2:=zfK a2;have a3:=zf5 a3;rw[FA];omega
  ·rw[k0,cond_true]at h4;simp only[Bool.and_eq_true,beq_iff_eq]at h4;obtain⟨⟨⟨⟨⟨a1,a2⟩,a3⟩,_⟩,_⟩,_⟩:=h4;have a2:=zfK a2;have a3:=zf5 a3;rw[FA];omega
 simp only[CF,GS,GE,zcI,FA]at h5⊢;omega
def XF{α:Type}{p:Prop}{x:α}{P:α→Prop}(h:p)(k:P x):Ok (pt p x) P:=⟨x,nA h,k⟩
def UN{c:Ae}(h:wt c≤bA):Ok (qD c) λr=>r=true→CF c:=XF h RD
def nK{c:Aj}(h:wt c≤bA):Ok (lC c) λr=>r=true→wt c≤172:=XF h λk=>(aT k).1
def sS{c:Ah}(h:wt c≤bA):Ok (ED c) λr=>r=true→wt c≤235:=XF h λk=>(BL k).1
def zkX{c:Ao}(h:wt c≤bA):Ok (AG c) λr=>r=true→wt c≤2832∧c.L.length≤12:=XF h LL
def DU{c:Ac}(h:wt c≤bA):Ok (xC c) λr=>r=true→SF c:=XF h BF
def RG{b:List UInt8}{n k:Int}(h:wt b+6≤bA):Ok (JB b n k) λr=>r.length≤b.length+6:=XF h (by
 unfold xD;cases hc:decide (k<1)||decide (k>6)
 ·rw[cond_false,List.length_append,jI];simp only[Bool.or_eq_false_iff,decide_eq_false_iff_not]at hc;omega
 ·rw[cond_true];omega)
def zda{b:List UInt8}{n k:Int}(h:wt b≤bA):Ok (mH b n k) λ_=>True:=XF h trivial
def FL(k b:List UInt8):(TC k b).length≤32:=by
 unfold TC;cases decide ((k.length:Int)>1048576)||decide ((b.length:Int)>1048512)
 ·exact zag _
 ·exact Nat.zero_le _
def zdd{d:Ar}(h:wt d≤bA):Ok (VD d) λr=>wt r.1≤wt d∧r.2.length≤12:=XF h (by
 unfold uC;cases !YB d||d.N==10000
 ·exact⟨Nat.le_refl _,zcn _ _⟩
 ·exact⟨Nat.le_refl _,Nat.zero_le _⟩)
def lS{k l:List UInt8}(h:wt l≤bA):Ok (LE k l) λr=>r.length≤32:=XF h (GM k l)
def mO(t:Ao)(b:List UInt8): -1≤XB t b∧XB t b<(t.L.length:Int):=by
 unfold XB
 rcases KG t.L.length (eF t b)with⟨_,h⟩|⟨m,h1,_,_,h⟩<;>rw[h]<;>omega
def qT(l:List Ak)(a:Af): -1≤VA l a∧VA l a<(l.length:Int):=by
 unfold VA
 rcases KG l.length (uF l a)with⟨_,h⟩|⟨m,h1,_,_,h⟩<;>rw[h]<;>omega
def zcl{t:Ao}{b:List UInt8}(h:wt t≤bA∧wt b≤bA):Ok (CC t b) λr=> -1≤r∧r<(t.L.length:Int)∧r=XB t b:=XF h ⟨(mO t b).1,(mO t b).2,rfl⟩
def zv0{t:Ao}(h:wt t≤bA):Ok (CJ t) λ_=>True:=XF h trivial
def rV{a b:List UInt8}(h:wt a≤bA∧wt b≤bA):Ok (uB a b) λ_=>True:=XF h trivial
def zw4{w:Ap}{n:Int}(h:0≤n∧w.Bits.length=32):Ok (VF w n) λ_=>True:=XF h trivial
def zqp{id:Int}{p:List UInt8}{a:Af}(h:wt p≤bA)(h1:1≤id∧id≤9)(h2:1≤p.length∧p.length≤32)(h3:0≤a.Host∧a.Host≤4294967295∧0≤a.Port∧a.Port≤65535):
  Ok (fK id p a) λr=>wt r≤p.length∧r.Id=id:=XF h (by
 have e1:eA id 1 9=true:=YA.2 h1;have e2:JC p=true:=YA.2 (by omega)
 have e3:EA a=true:=by
  unfold EA;rw[Bool.and_eq_true,YA,YA];omega
 unfold jC;rw[e1,e2,e3];refine⟨?_,rfl⟩;simp only[Bool.and_self,cond_true,rK,GS,GE,zcI,FA];show p.length+0+0+wt zgJ+wt zg7+0+0≤p.length
 have:wt zgJ=0:=rfl;have:wt zg7=0:=rfl;omega)
def zaT{b:List UInt8}(h:wt b≤bA):OD b=some (VE b):=nA h
def ztq{p:Ai}{a:Af}(h:wt p≤bA):Ok (wK p a) λr=>wt r.1≤39∧(r.2=true→wt p≤39∧p.Cands.length≤3):=XF h (by
 unfold FI;cases hp:VB p
 ·exact⟨Nat.zero_le _,λh=>nomatch h⟩
 ·have hf:=oI hp;rw[cond_true];cases hc:p.Cands.find? λe=>IA e.A a with
  | none=>exact⟨Nat.zero_le _,λh=>nomatch h⟩
  | some e=>
   have:=zad (List.mem_of_find?_eq_some hc);have hw:wt p=wt p.Cands:=by rw[tK,GE];omega
   refine⟨?_,λ_=>hf⟩;show wt e≤39
   omega)
def FJ(l:List Ae)(i:Nat):Int:=match l[i]? with
 | some c=>c.Id
 | none=>0
def TW(w:Aa):Prop:=w.Clients.length=2∧FJ w.Clients 0=1∧FJ w.Clients 1=2
def NG{l:List Ae}{i:Nat}{x:Ae}(h:l[i]?=some x):FJ l i=x.Id:=by unfold FJ;rw[h]
def PM{l:List Ae}{i:Nat}{x:Ae}(h:x.Id=FJ l i)(hi:i<l.length)(j:Nat):FJ (l.set i x) j=FJ l j:=by
 unfold FJ at h⊢;rw[List.getElem?_set]
 by_cases hj:i=j
 ·subst hj;rw[if_pos rfl,if_pos hi];exact h
 ·rw[if_neg hj]
def TU{w:Aa}{a:Af}(h:wt w≤bA)(h2:TW w):Ok (pJ w a) λr=> -1≤r∧r≤2:=XF h (by
 unfold PH;cases IA a SB
 ·rw[cond_false];cases hc:w.Clients.find? λc=>IA c.At a with
  | none=>show -1≤(-1:Int)∧(-1:Int)≤2;omega
  | some c=>
   obtain⟨i,hi,he⟩:=List.mem_iff_getElem.1 (List.mem_of_find?_eq_some hc);have:=NG (List.getElem?_eq_getElem hi);rw[he]at this;obtain⟨h1,h3,h4⟩:=h2;show -1≤c.Id∧c.Id≤2
   have:i=0∨i=1:=by omega
   rcases this with rfl|rfl<;>omega
 ·rw[cond_true];omega)
def aN{α:Type}{l:List α}{i:Nat}{x:α}(h:l[i]?=some x):i<l.length:=(List.getElem?_eq_some_iff.1 h).1
def uT{c:As}{l:List Int}(lo hi:Int)(h:zB c)(hl:l≠[])(hb:∀x∈l,lo≤x∧x≤hi):Ok (Db c l) λr=>(lo≤r.1∧r.1≤hi)∧zB r.2:=(zvJ h hl).mono λr hr=>⟨hb _ hr.1,hr.2⟩
def KD{c:As}{n:Int}(h:zB c):Ok (Az c n) λr=>0≤r.1∧(0<n→r.1<n)∧(n≤0→r.1=0)∧zB r.2:=zfN h
def VK{c:As}{n:Int}(h:zB c)(hn:n≤1048576):Ok (Bt c n) λr=>r.1.length=n.toNat∧zB r.2:=zsx h hn
def jQ{c:As}{n:Int}(h:zB c):Ok (Dc c n) λr=>zB r.2:=zuX h
def zqq{code:List UInt8}(h:code.length≤1048576):Ok (Jh code) zB:=zvF h
def N:(∀x:Ae,wt x=wt x.Psk+wt x.Cn+wt x.Fin+wt x.C)∧(∀x:Aj,wt x=x.Sn.length+wt x.Cur+wt x.Old+x.Next.length)∧(∀x:Av,wt x=x.Key.length+wt x.Win)∧(∀x:Ap,wt x=x.Bits.length)∧
  (∀x:Ab,wt x=x.Cn.length+x.Sn.length+x.Cookie.length+x.Proof.length+x.Body.length+x.Tag.length)∧(∀x:Ad,wt x=x.Cn.length+x.Sn.length+x.Body.length+x.Key.length)∧
  (∀x:Ah,wt x=x.Cn.length+x.Sn.length+wt x.C+wt x.P)∧(∀x:Ai,wt x=wt x.Cands)∧(∀x:Aw,wt x=x.Draw.length)∧(∀x:Ao,wt x=wt x.L)∧
  (∀x:Ac,wt x=wt x.Psks+wt x.J+wt x.D+wt x.T+wt x.Cr)∧(∀x:Ay,wt x=x.Secret.length)∧(∀x:Ar,wt x=x.Seed.length)∧(∀x:Ak,wt x=0)∧(∀x:Al,wt x=x.B.length)∧
  (∀x:Aa,wt x=wt x.Clients+wt x.S+wt x.D+wt x.Seen+wt x.Known+wt x.Notes)∧(∀x:Bb,wt x=x.B.length)∧(∀x:Am,wt x=x.B.length+wt x.Ops)∧(∀x:Aq,wt x=wt x.F)∧
  (∀p:Prop,(True∧p)=p)∧(∀p:Prop,(p∧True)=p)∧(∀x:UInt8,wt x=0)∧(∀x:Int,wt x=0)∧(∀x:Nat,wt x=0)∧(∀x:List UInt8,wt x=x.length)∧(∀x:List Int,wt x=x.length)∧(∀(α:Type) [Wt α] (l m:List α),wt (l++m)=wt l+wt m)∧(∀(α:Type) [Wt α] (x:α) (l:List α),wt (x :: l)=wt x+wt l+1)∧(∀(α:Type) [Wt α],wt ([]:List α)=0)∧
  (∀(α:Type) (l m:List α),(l++m).length=l.length+m.length)∧(∀(α:Type) (x:α) (l:List α),(x :: l).length=l.length+1)∧(∀(α:Type),([]:List α).length=0)∧(∀(α:Type) (l:List α) (i:Nat) (x:α),(l.set i x).length=l.length)∧
  (∀(α:Type) (l:List α) (i:Nat),(l.take i).length=min i l.length)∧(∀(α:Type) (l:List α) (i:Nat),(l.drop i).length=l.length - i)∧
  (∀c,CF c↔(wt c≤350∧1≤c.Id∧c.Id≤9∧1≤c.Psk.length∧c.Psk.length≤32∧0≤c.At.Host∧c.At.Host≤4294967295∧0≤c.At.Port∧c.At.Port≤65535))∧
  (∀s,SF s↔(wt s≤3300∧s.T.L.length≤12∧s.Psks.length≤9∧s.J.Secret.length=32))∧(∀w,TW w↔(w.Clients.length=2∧FJ w.Clients 0=1∧FJ w.Clients 1=2))∧(∀c,zB c↔(0≤c.i∧c.i≤c.b.length∧c.b.length≤1048576)):=by
 refine⟨λx=>?_,λx=>?_,λx=>?_,λx=>?_,λx=>?_,λx=>?_,λx=>?_,λx=>?_,λx=>?_,λx=>?_,λx=>?_,λx=>?_,λx=>?_,λx=>?_,λx=>?_,λx=>?_,λx=>?_,λx=>?_,λx=>?_,
  true_and,and_true,λ_=>rfl,λ_=>rfl,λ_=>rfl,FA,ML,λ_ _=>nS,λ_ _=>TD,λ_ _=>SG,λ_ _ _=>List.length_append,λ_ _ _=>List.length_cons,λ_=>List.length_nil,λ_ _ _ _=>List.length_set,λ_ _ _=>List.length_take,λ_ _ _=>List.length_drop,
  λ_=>Iff.rfl,λ_=>Iff.rfl,λ_=>Iff.rfl,λ_=>Iff.rfl⟩
 ·rw[GS,GE,zcI,zcI];omega
 ·rw[QH,FA,FA]
 ·rw[GK,FA]
 ·rw[zak,ML]
 ·rw[tI,FA,FA,FA,FA,FA,FA]
 ·rw[KL,FA,FA,FA,FA,GE];omega
 ·rw[vK,FA,FA]
 ·rw[tK,GE];omega
 ·rw[zdj,GE,FA];omega
 ·rw[CK]
 ·rw[lO]
 ·rw[zam,FA]
 ·rw[RM,FA]
 ·rfl
 ·rw[zdh,GE,GE,FA];omega
 ·rw[cG]
 ·rw[zxj,FA]
 ·rw[zus,FA]
 ·rw[zw7,GE];omega
def B:(∀b:Bool,((!b)=true)=(b=false))∧(∀b:Bool,((!b)=false)=(b=true))∧(∀(p:Prop) [Decidable p],(decide p=true)=p)∧(∀(p:Prop) [Decidable p],(decide p=false)=¬p)∧
  (∀(α:Type) [BEq α] [LawfulBEq α] (a b:α),((a==b)=true)=(a=b))∧(∀(α:Type) [BEq α] [LawfulBEq α] (a b:α),((a==b)=false)=¬(a=b))∧
  (∀(α:Type) [BEq α] [LawfulBEq α] (a b:α),((a !=b)=true)=¬(a=b))∧(∀(α:Type) [BEq α] [LawfulBEq α] (a b:α),((a !=b)=false)=(a=b))∧
  (∀x a b:Int,(eA x a b=true)=(a≤x∧x≤b))∧(∀x a b:Int,(eA x a b=false)=¬(a≤x∧x≤b))∧(∀a b:Bool,((a&&b)=true)=(a=true∧b=true))∧(∀a b:Bool,((a||b)=true)=(a=true∨b=true)):=by
 refine⟨λb=>by cases b<;>simp,λb=>by cases b<;>simp,λp _=>by simp,λp _=>by simp,λ_ _ _ a b=>by simp,λ_ _ _ a b=>by simp,λ_ _ _ a b=>by simp,λ_ _ _ a b=>by simp,
  λx a b=>propext YA,λx a b=>propext ztA,λa b=>by simp,λa b=>by simp⟩
end Go.D
namespace Go.D
namespace Ok
variable {α β σ:Type} {P:β→Prop}
def s{x:α}{P:α→Prop}(h:P x):Ok (some x) P:=⟨x,rfl,h⟩
def x{P:α→Prop}(h:False):Ok (none:Option α) P:=h.elim
def c{b:Bool}{x y:Option β}(h1:b=true→Ok x P)(h2:b=false→Ok y P):Ok (cond b x y) P:=Ok.cond' h1 h2
def b{o:Option α}{P:α→Prop}{Q:β→Prop}{f:α→Option β}(h:Ok o P)(k:∀r,P r→Ok (f r) Q):Ok (Option.bind o f) Q:=Ok.bind h k
def g{γ:Type}[Wt α][Wt γ]{l:List α}{m:List γ}{x:Option β}(h:wt l+wt m≤bA)(k:Ok x P):Ok (cond (l.length+m.length≤bA) x none) P:=Ok.guard h k
def e[Wt α]{l:List α}{x:Option β}(h:wt l≤bA)(k:Ok x P):Ok (cond (Nat.ble l.length bA) x none) P:=Ok.ble h k
def h{b:Bool}{x:Option β}(h:b=true)(k:Ok x P):Ok (cond b x none) P:=Ok.chk h k
def n{b:Bool}{x:Option β}(h:b=false)(k:Ok x P):Ok (cond b none x) P:=Ok.chkn h k
def j{F:α→Option β}{G:(α→Option β)→Option β}(Q:α→Prop)(h1:∀y,Q y→Ok (F y) P)(h2:∀k:α→Option β,(∀y,Q y→Ok (k y) P)→Ok (G k) P):Ok (aA F G) P:=h2 F h1
def jt{F:α→Option β}{G:(α→Option β)→Option β}(h1:∀y,Ok (F y) P)(h2:∀k:α→Option β,(∀y,Ok (k y) P)→Ok (G k) P):Ok (aA F G) P:=h2 F h1
def bi[Wt α]{l:List α}{i:Int}{f:α→Option β}(h0:0≤i)(h1:i<(l.length:Int))(k:∀x,l[i.toNat]?=some x→wt x+1≤wt l→Ok (f x) P):Ok (Option.bind (jA l i) f) P:=Ok.bind (Ok.idx h0 h1) λx hx=>k x hx (zg1 hx)
def bg[Wt α]{l:List α}{i:Nat}{f:α→Option β}(h:i<l.length)(k:∀x,l[i]?=some x→wt x+1≤wt l→Ok (f x) P):Ok (Option.bind (l[i]?) f) P:=Ok.bind (Ok.get h) λx hx=>k x hx (zg1 hx)
def m{o:Option α}{a:α}{f:α→Option β}(h:o=some a)(k:Ok (f a) P):Ok (Option.bind o f) P:=Ok.same h k
def cp[Wt α]{a:α}{f:α→Option β}(h:wt a≤bA)(k:Ok (f a) P):Ok (Option.bind (kA a) f) P:=Ok.same (nA h) k
def l{f:σ→(σ→Option β)→Option β}{x:σ}(inv:σ→Prop)(μ:σ→Nat)(h:∀x,inv x→∀k:σ→Option β,(∀y,inv y→μ y<μ x→Ok (k y) P)→Ok (f x k) P)(hx:inv x)(hμ:μ x<2^64):Ok (uA FU f x) P:=Ok.loop inv μ h hx hμ
end Ok
def NB:=And.intro B (And.intro N yB)
def nf{b:Bool}(h:(!b)=false):b=true:=by simpa using h
def nt{b:Bool}(h:(!b)=true):b=false:=by simpa using h
end Go.D
