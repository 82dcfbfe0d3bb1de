/-
 Sizes of the program's data.
-/
import Derived.Test.YtfealdecpglcnaaGreatN12
import Derived.Test.YtfealdecpglcnaaGreatN10
set_option linter.all false
namespace Go.D
end Go.D
namespace Go.D
end Go.D
namespace Go.D
open Option renaming bind→ob
noncomputable section
def Rw(a0:Ap):=
 cond (decide (([]:List Int).length+a0.Bits.length≤bA)) (some (⟨a0.Top,[]++a0.Bits⟩:Ap)) none
def Pu(a0:Aw):=
 ob (CA a0.Key) λr1=>
 ob (nA a0.Win) λr2=>
 some (⟨a0.N,r1,a0.Seq,r2⟩:Aw)
def Pv(a0:Ak):=
 ob (CA a0.Sn) λr1=>
 ob (CA a0.Next) λr2=>
 ob (nA a0.Cur) λr3=>
 ob (nA a0.Old) λr4=>
 some (⟨a0.Role,r1,r3,r4,a0.HasOld,a0.Until,r2⟩:Ak)
def Ou(a0:Aj):=
 aA (λ(y1:Aj)=>
 some y1) λk2=>
 qA FU (λ(x3:Int×Aj) k4=>
 cond (decide (x3.1<(a0.Cands.length:Int)))
 (ob (kA a0.Cands x3.1) λe5=>
 ob (CA e5.Draw) λr6=>
 cond (decide (x3.2.Cands.length+[(⟨e5.A,r6,e5.Until⟩:Az)].length≤bA)) (k4 ((iA .i64 x3.1 1),(⟨x3.2.At,x3.2.Cands++[(⟨e5.A,r6,e5.Until⟩:Az)]⟩:Aj))) none)
 (k2 x3.2)) (0,(⟨a0.At,[]⟩:Aj))
def Pw(a0:Ah):=
 ob (CA a0.Cn) λr1=>
 ob (CA a0.Sn) λr2=>
 ob (nA a0.C) λr3=>
 ob (nA a0.P) λr4=>
 some (⟨a0.Id,r1,r2,r3,r4,a0.Tick,a0.Last,a0.Dead⟩:Ah)
def Rx(a0:Ao):=
 aA (λ(y1:Ao)=>
 some y1) λk2=>
 qA FU (λ(x3:Int×Ao) k4=>
 cond (decide (x3.1<(a0.L.length:Int)))
 (ob (kA a0.L x3.1) λe5=>
 ob (nA e5) λr6=>
 cond (decide (x3.2.L.length+[r6].length≤bA)) (k4 ((iA .i64 x3.1 1),(⟨x3.2.Cap,x3.2.L++[r6]⟩:Ao))) none)
 (k2 x3.2)) (0,(⟨a0.Cap,[]⟩:Ao))
def Px(a0:List Al):=
 cond (decide (([]:List Al).length+a0.length≤bA)) (some ([]++a0)) none
def Py(a0:Ac):=
 ob (MR a0.Psks) λr1=>
 ob (CA a0.J.Secret) λr2=>
 ob (CA a0.D.Seed) λr3=>
 ob (nA a0.T) λr4=>
 ob (nA a0.Cr) λr5=>
 some (⟨r1,(⟨r2⟩:Ba),(⟨r3,a0.D.N⟩:Ax),r4,r5⟩:Ac)
def Pz(a0:Aa):=
 ob (CA a0.Cn) λr1=>
 ob (CA a0.Sn) λr2=>
 ob (CA a0.Cookie) λr3=>
 ob (CA a0.Proof) λr4=>
 ob (CA a0.Body) λr5=>
 ob (CA a0.Tag) λr6=>
 some (⟨a0.Kind,a0.Id,r1,r2,a0.Tick,r3,r4,a0.Epoch,a0.Seq,r5,r6⟩:Aa)
def Qa(a0:Ad):=
 ob (CA a0.Psk) λr1=>
 ob (CA a0.Cn) λr2=>
 ob (nA a0.Fin) λr3=>
 ob (nA a0.C) λr4=>
 some (⟨a0.Id,r1,a0.At,a0.St,r2,r3,r4,a0.T,a0.R,a0.Last⟩:Ad)
def Ov(a0:List Am):=
 aA (λ(y1:(List Am))=>
 some y1) λk2=>
 qA FU (λ(x3:(List Am)×Int) k4=>
 cond (decide (x3.2<(a0.length:Int)))
 (ob (kA a0 x3.2) λe5=>
 ob (CA e5.B) λr6=>
 cond (decide (x3.1.length+[(⟨e5.From,e5.To,r6⟩:Am)].length≤bA)) (k4 ((x3.1++[(⟨e5.From,e5.To,r6⟩:Am)]),(iA .i64 x3.2 1))) none)
 (k2 x3.1)) ([],0)
def Qb(a0:Ae):=
 ob (CA a0.Cn) λr1=>
 ob (CA a0.Sn) λr2=>
 ob (CA a0.Body) λr3=>
 ob (CA a0.Key) λr4=>
 some (⟨a0.Kind,a0.Id,a0.Role,r1,r2,a0.Epoch,a0.Seq,r3,r4,a0.A,a0.Now⟩:Ae)
def Ry(a0:List Ae):=
 aA (λ(y1:(List Ae))=>
 some y1) λk2=>
 qA FU (λ(x3:(List Ae)×Int) k4=>
 cond (decide (x3.2<(a0.length:Int)))
 (ob (kA a0 x3.2) λe5=>
 ob (nA e5) λr6=>
 cond (decide (x3.1.length+[r6].length≤bA)) (k4 ((x3.1++[r6]),(iA .i64 x3.2 1))) none)
 (k2 x3.1)) ([],0)
def Qc(a0:Ab):=
 ob (nA a0.S) λr1=>
 ob (CA a0.D.Seed) λr2=>
 aA (λ(y3:Ab)=>
 ob (nA a0.Seen) λr9=>
 ob (MR a0.Known) λr10=>
 ob (nA a0.Notes) λr11=>
 some (⟨y3.Now,y3.Clients,y3.S,y3.D,r9,r10,r11⟩:Ab)) λk4=>
 qA FU (λ(x5:Int×Ab) k6=>
 cond (decide (x5.1<(a0.Clients.length:Int)))
 (ob (kA a0.Clients x5.1) λe7=>
 ob (nA e7) λr8=>
 cond (decide (x5.2.Clients.length+[r8].length≤bA)) (k6 ((iA .i64 x5.1 1),(⟨x5.2.Now,x5.2.Clients++[r8],x5.2.S,x5.2.D,x5.2.Seen,x5.2.Known,x5.2.Notes⟩:Ab))) none)
 (k4 x5.2)) (0,(⟨a0.Now,[],r1,(⟨r2,a0.D.N⟩:Ax),[],[],[]⟩:Ab))
def Fu(a0:Ad):=
 ob (CA a0.Cn) λr1=>
 some (⟨1,a0.Id,r1,[],0,[],[],0,0,[],[]⟩:Aa)
def Rz(a0:Ad)(a1:Int)(a2:List UInt8):Option (Ad×(List Aa)×(List Ae)×Int):=
 ob (nA a0) λr1=>
 aA (λy2=>
 cond (y2)
 (some (r1,[],[],1))
 (cond (a0.St !=0)
 (some (r1,[],[],6))
 (ob (CA a2) λr5=>
 ob (Bf a1) λr6=>
 ob (CA a2) λr7=>
 ob (Fu (⟨r1.Id,r1.Psk,r1.At,1,r5,r1.Fin,r1.C,r6,r1.R,r1.Last⟩:Ad)) λr8=>
 let x9:List Ae:=[(⟨1,a0.Id,0,r7,[],0,0,[],[],(⟨0,0⟩:Ai),a1⟩:Ae)]
 some ((⟨r1.Id,r1.Psk,r1.At,1,r5,r1.Fin,r1.C,r6,r1.R,r1.Last⟩:Ad),[r8],x9,0)))) λk3=>
 ob (ID a0) λr4=>
 cond (!r4)
 (k3 true)
 (cond (!(eA a1 0 1000000))
 (k3 true)
 (k3 (!(oA a2))))
def Em(a0:Int)(a1:List UInt8)(a2:Int)(a3:Int):=
 aA (λy1=>
 cond (y1)
 (some [])
 (ob (UB [] a2 4) λr3=>
 ob (UB [] a3 6) λr4=>
 let x5:List (List UInt8):=[[UInt8.ofNat (IntKind.wrap .u8 a0:Int).toNat],a1,r3,r4]
 ob (jD x5) λr6=>
 some r6)) λk2=>
 cond (!(NA a0))
 (k2 true)
 (cond (!(oA a1))
 (k2 true)
 (cond (!(eA a2 0 4294967295))
 (k2 true)
 (k2 (!(eA a3 0 281474976710655)))))
def Hq(a0:List UInt8)(a1:List UInt8)(a2:Int):=
 aA (λy1=>
 cond (y1)
 (some [])
 (ob (jD [[UInt8.ofNat (115:Int).toNat],a1]) λr3=>
 ob (UB r3 a2 4) λr4=>
 let r5:(List UInt8):=VC a0 r4
 some r5)) λk2=>
 cond (!(eA a2 0 6))
 (k2 true)
 (k2 (decide ((a1.length:Int)>100)))
def Hr(a0:List UInt8)(a1:List UInt8)(a2:Int):=
 aA (λy1=>
 cond (y1)
 (some [])
 (aA (λ(y3:(List UInt8))=>
 cond (decide (0≤(0:Int))&&decide ((0:Int)≤a2)&&decide (a2≤(y3.length:Int))) (ob (CA (List.take ((a2 - 0).toNat) (List.drop 0 y3))) λr8=>
 some r8) none) λk4=>
 qA FU (λ(x5:(List UInt8)×Int) k6=>
 cond (decide ((x5.1.length:Int)<a2))
 (ob (Hq a0 a1 x5.2) λr7=>
 cond (decide (x5.1.length+r7.length≤bA)) (k6 ((x5.1++r7),(iA .i64 x5.2 1))) none)
 (k4 x5.1)) ([],0))) λk2=>
 cond (!(eA a2 0 200))
 (k2 true)
 (cond (decide ((a1.length:Int)>100))
 (k2 true)
 (k2 (decide ((a0.length:Int)>1048576))))
def En(a0:List UInt8)(a1:List UInt8)(a2:List UInt8):=
 aA (λy1=>
 cond (y1)
 (some [])
 (ob (Hr a0 a1 (a2.length:Int)) λr3=>
 aA (λ(y4:(List UInt8))=>
 some y4) λk5=>
 qA FU (λ(x6:(List UInt8)×Int) k7=>
 cond (decide (x6.2<(r3.length:Int)))
 (cond (decide (0≤x6.2)&&decide (x6.2<(r3.length:Int))) (ob (r3[x6.2.toNat]?) λe8=>
 ob (kA a2 x6.2) λe9=>
 let x10:Int:=CB .u8 ((e8.toNat:Nat):Int) ((e9.toNat:Nat):Int)
 cond (decide (x6.1.length+[UInt8.ofNat (x10:Int).toNat].length≤bA)) (k7 ((x6.1++[UInt8.ofNat (x10:Int).toNat]),(iA .i64 x6.2 1))) none) none)
 (k5 x6.1)) ([],0))) λk2=>
 cond (decide ((a2.length:Int)>200))
 (k2 true)
 (cond (decide ((a1.length:Int)>100))
 (k2 true)
 (k2 (decide ((a0.length:Int)>1048576))))
def Cg(a0:Int)(a1:Aa):=
 aA (λy1=>
 cond (y1)
 (some [])
 (ob (Em a0 a1.Sn a1.Epoch a1.Seq) λr4=>
 let x5:List (List UInt8):=[[UInt8.ofNat (116:Int).toNat],r4,[UInt8.ofNat (IntKind.wrap .u8 a1.Kind:Int).toNat],a1.Body]
 ob (jD x5) λr6=>
 some r6)) λk2=>
 cond (!(NA a0))
 (k2 true)
 (cond (!(gC a1.Kind))
 (k2 true)
 (ob (TC a1) λr3=>
 k2 (!r3)))
def Ca(a0:List UInt8)(a1:List UInt8):=
 let r1:(List UInt8):=VC a0 a1
 cond ((r1.length:Int)==0)
 (some [])
 (cond (decide (0≤(0:Int))&&decide ((0:Int)≤16)&&decide (16≤(r1.length:Int))) (ob (CA (List.take 16 (List.drop 0 r1))) λr2=>
 some r2) none)
def Dl(a0:List UInt8)(a1:Int)(a2:List UInt8)(a3:Int)(a4:Int)(a5:Int)(a6:List UInt8):=
 ob (CA a2) λr1=>
 ob (CA a6) λr2=>
 let x3:List UInt8:=List.replicate (16:Int).toNat (UInt8.ofNat (0:Int).toNat:UInt8)
 aA (λy4=>
 cond (y4)
 (some ((⟨0,0,[],[],0,[],[],0,0,[],[]⟩:Aa),false))
 (ob (Em a1 a2 a3 a4) λr7=>
 ob (En a0 r7 a6) λr8=>
 ob (Cg a1 (⟨a5,0,[],r1,0,[],[],a3,a4,r8,x3⟩:Aa)) λr9=>
 ob (Ca a0 r9) λr10=>
 some ((⟨a5,0,[],r1,0,[],[],a3,a4,r8,r10⟩:Aa),true))) λk5=>
 cond ((a0.length:Int) !=32)
 (k5 true)
 (cond (!(NA a1))
 (k5 true)
 (cond (!(gC a5))
 (k5 true)
 (ob (TC (⟨a5,0,[],r1,0,[],[],a3,a4,r2,x3⟩:Aa)) λr6=>
 k5 (!r6))))
def Eo(a0:Aw)(a1:Int)(a2:List UInt8)(a3:Int)(a4:List UInt8):Option (Aw×Aa×Int):=
 ob (nA a0) λr1=>
 cond (!(cD a0))
 (some (r1,(⟨0,0,[],[],0,[],[],0,0,[],[]⟩:Aa),1))
 (ob (Dl a0.Key a1 a2 a0.N 0 a3 a4) λr2=>
 cond (!r2.2)
 (some (r1,(⟨0,0,[],[],0,[],[],0,0,[],[]⟩:Aa),1))
 (aA (λy3=>
 cond (y3)
 (some (r1,(⟨0,0,[],[],0,[],[],0,0,[],[]⟩:Aa),4))
 (cond (a0.Seq==281474976710656)
 (some (r1,(⟨0,0,[],[],0,[],[],0,0,[],[]⟩:Aa),5))
 (ob (Dl a0.Key a1 a2 a0.N a0.Seq a3 a4) λr5=>
 some ((⟨r1.N,r1.Key,iA .i64 r1.Seq 1,r1.Win⟩:Aw),r5.1,0)))) λk4=>
 cond (a3==4)
 (k4 (decide (a0.Seq≥281474976709656)))
 (k4 false)))
def Br(a0:Ak)(a1:Int)(a2:List UInt8):Option (Ak×Aa×Int):=
 ob (nA a0) λr1=>
 ob (sC a0) λr2=>
 cond (!r2)
 (some (r1,(⟨0,0,[],[],0,[],[],0,0,[],[]⟩:Aa),1))
 (ob (Eo a0.Cur a0.Role a0.Sn a1 a2) λr3=>
 some ((⟨r1.Role,r1.Sn,r3.1,r1.Old,r1.HasOld,r1.Until,r1.Next⟩:Ak),r3.2.1,r3.2.2))
def Eq(a0:List UInt8)(a1:List UInt8):=
 ob (CA a0) λr1=>
 ob (CA a1) λr2=>
 some (⟨15,0,0,[],[],0,0,r2,r1,(⟨0,0⟩:Ai),0⟩:Ae)
def Bs(a0:Ak)(a1:Aa):=
 ob (Cg a0.Role a1) λr1=>
 ob (Eq a0.Cur.Key r1) λr2=>
 some r2
def Sa(a0:Ad)(a1:Int)(a2:List UInt8):Option (Ad×(List Aa)×(List Ae)×Int):=
 ob (nA a0) λr1=>
 aA (λy2=>
 cond (y2)
 (some (r1,[],[],1))
 (cond (a0.St !=3)
 (some (r1,[],[],6))
 (ob (Br a0.C 4 a2) λr5=>
 cond (r5.2.2 !=0)
 (some (r1,[],[],r5.2.2))
 (ob (CA r5.2.1.Sn) λr6=>
 ob (CA a2) λr7=>
 ob (Bs r5.1 r5.2.1) λr8=>
 let x9:List Ae:=[r8,(⟨5,0,0,[],r6,r5.2.1.Epoch,r5.2.1.Seq,r7,[],(⟨0,0⟩:Ai),0⟩:Ae)]
 some ((⟨r1.Id,r1.Psk,r1.At,r1.St,r1.Cn,r1.Fin,r5.1,r1.T,r1.R,r1.Last⟩:Ad),[r5.2.1],x9,0))))) λk3=>
 ob (ID a0) λr4=>
 cond (!r4)
 (k3 true)
 (cond (!(eA a1 0 1000000))
 (k3 true)
 (k3 (decide ((a2.length:Int)>40))))
def Fv(a0:Ak):Option (Ak×Aa×Int):=
 aA (λy1=>
 cond (y1)
 (ob (nA a0) λr4=>
 some (r4,(⟨0,0,[],[],0,[],[],0,0,[],[]⟩:Aa),6))
 (ob (Bk (iA .i64 a0.Cur.N 1)) λr5=>
 ob (Br a0 7 r5) λr6=>
 some (r6.1,r6.2.1,r6.2.2))) λk2=>
 ob (sC a0) λr3=>
 cond (!r3)
 (k2 true)
 (k2 ((a0.Next.length:Int)==0))
def Sb(a0:Ad)(a1:Int):Option (Ad×(List Aa)×(List Ae)×Int):=
 ob (nA a0) λr1=>
 aA (λy2=>
 cond (y2)
 (some (r1,[],[],1))
 (aA (λy5=>
 cond (y5)
 (some (r1,[],[],6))
 (ob (Ff a0.C) λr7=>
 ob (Fv r7.1) λr8=>
 aA (λy9=>
 cond (y9)
 (some (r1,[],[],5))
 (ob (Bf a1) λr11=>
 ob (Bs r8.1 r8.2.1) λr12=>
 some ((⟨r1.Id,r1.Psk,r1.At,r1.St,r1.Cn,r1.Fin,r8.1,r1.T,r11,r1.Last⟩:Ad),[r8.2.1],[r12],0))) λk10=>
 cond (!r7.2)
 (k10 true)
 (k10 (r8.2.2 !=0)))) λk6=>
 cond (a0.St !=3)
 (k6 true)
 (k6 (decide ((a0.C.Next.length:Int)>0))))) λk3=>
 ob (ID a0) λr4=>
 cond (!r4)
 (k3 true)
 (k3 (!(eA a1 0 1000000)))
def Dm(a0:Ad):=
 ob (CA a0.Psk) λr1=>
 some (⟨a0.Id,r1,a0.At,0,[],(⟨0,0,[],[],0,[],[],0,0,[],[]⟩:Aa),(⟨0,[],(⟨0,[],0,(⟨0,[]⟩:Ap)⟩:Aw),(⟨0,[],0,(⟨0,[]⟩:Ap)⟩:Aw),false,0,[]⟩:Ak),(⟨false,0,0,0⟩:Av),(⟨false,0,0,0⟩:Av),0⟩:Ad)
def Ch(a0:Int)(a1:Int)(a2:List UInt8):=
 ob (CA a2) λr1=>
 some (⟨11,a0,a1,[],r1,0,0,[],[],(⟨0,0⟩:Ai),0⟩:Ae)
def Sd(a0:Ad):=
 ob (ID a0) λr1=>
 cond (!r1)
 (ob (nA a0) λr2=>
 some (r2,[]))
 (cond (a0.St !=3)
 (ob (Dm a0) λr3=>
 some (r3,[]))
 (ob (Dm a0) λr4=>
 ob (Ch a0.Id 0 a0.C.Sn) λr5=>
 some (r4,[r5])))
def Bg(a0:Aa):=
 ob (TC a0) λr1=>
 cond (!r1)
 (some [])
 (cond (a0.Kind==1)
 (let x2:List UInt8:=List.replicate (20:Int).toNat (UInt8.ofNat (0:Int).toNat:UInt8)
 let x3:List (List UInt8):=[[UInt8.ofNat (IntKind.wrap .u8 a0.Kind:Int).toNat],[UInt8.ofNat (IntKind.wrap .u8 a0.Id:Int).toNat],a0.Cn,x2]
 ob (jD x3) λr4=>
 some r4)
 (cond (a0.Kind==2)
 (ob (UB [] a0.Tick 4) λr5=>
 let x6:List (List UInt8):=[[UInt8.ofNat (IntKind.wrap .u8 a0.Kind:Int).toNat],a0.Cn,a0.Sn,r5,a0.Cookie]
 ob (jD x6) λr7=>
 some r7)
 (cond (a0.Kind==3)
 (ob (UB [] a0.Tick 4) λr8=>
 let x9:List (List UInt8):=[[UInt8.ofNat (IntKind.wrap .u8 a0.Kind:Int).toNat],[UInt8.ofNat (IntKind.wrap .u8 a0.Id:Int).toNat],a0.Cn,a0.Sn,r8,a0.Cookie,a0.Proof]
 ob (jD x9) λr10=>
 some r10)
 (ob (UB [] a0.Epoch 4) λr11=>
 ob (UB [] a0.Seq 6) λr12=>
 let x13:List (List UInt8):=[[UInt8.ofNat (IntKind.wrap .u8 a0.Kind:Int).toNat],a0.Sn,r11,r12,a0.Tag,a0.Body]
 ob (jD x13) λr14=>
 some r14))))
def Fw(a0:Ai)(a1:Ai)(a2:Aa):=
 ob (Bg a2) λr1=>
 some (⟨a0,a1,r1⟩:Am)
def Fx(a0:Ad)(a1:List Aa):=
 aA (λ(y1:(List Am))=>
 some y1) λk2=>
 qA FU (λ(x3:(List Am)×Int) k4=>
 cond (decide (x3.2<(a1.length:Int)))
 (ob (kA a1 x3.2) λe5=>
 let r6:Ai:=tE
 ob (Fw a0.At r6 e5) λr7=>
 cond (decide (x3.1.length+[r7].length≤bA)) (k4 ((x3.1++[r7]),(iA .i64 x3.2 1))) none)
 (k2 x3.1)) ([],0)
def Kl(a0:Int):Option Int:=
 aA (λy1=>
 cond (y1)
 (some 1)
 (aA (λy3=>
 cond (y3)
 (some 2)
 (cond (a0==10)
 (some 3)
 (some 0))) λk4=>
 cond (a0==5)
 (k4 (a0==5))
 (aA (λ(y5:Bool)=>
 k4 y5) λk6=>
 cond (a0==6)
 (k6 (a0==6))
 (aA (λ(y7:Bool)=>
 k6 y7) λk8=>
 cond (a0==7)
 (k8 (a0==7))
 (k8 (a0==8)))))) λk2=>
 cond (a0==4)
 (k2 (a0==4))
 (k2 (a0==9))
def Se(a0:List UInt8)(a1:List UInt8):=
 aA (λ(y1:(List UInt8))=>
 some y1) λk2=>
 qA FU (λ(x3:(List UInt8)×Int) k4=>
 cond (decide (x3.2<(a0.length:Int)))
 (ob (kA a0 x3.2) λe5=>
 ob (kA a1 x3.2) λe6=>
 let x7:Int:=CB .u8 ((e5.toNat:Nat):Int) ((e6.toNat:Nat):Int)
 cond (decide (x3.1.length+[UInt8.ofNat (x7:Int).toNat].length≤bA)) (k4 ((x3.1++[UInt8.ofNat (x7:Int).toNat]),(iA .i64 x3.2 1))) none)
 (k2 x3.1)) ([],0)
def Sf(a0:Bc)(a1:List (List UInt8))(a2:List Am)(a3:List (List UInt8)):=
 cond (a0.Kind==1)
 (some (a0.B,true))
 (aA (λ(y1:Unit)=>
 some ([],false)) λk2=>
 cond (a0.Kind==2)
 (cond (decide (a0.I<(a2.length:Int)))
 (ob (kA a2 a0.I) λe3=>
 some (e3.B,true))
 (k2 ()))
 (aA (λ(y4:Unit)=>
 k2 ()) λk5=>
 cond (a0.Kind==3)
 (cond (decide (a0.I<(a3.length:Int)))
 (ob (kA a3 a0.I) λe6=>
 some (e6,true))
 (k5 ()))
 (cond (a0.Kind==4)
 (ob (kA a1 0) λe7=>
 ob (mJ e7 a0.I a0.J) λr8=>
 some (r8.1,r8.2))
 (cond (a0.Kind==5)
 (ob (kA a1 0) λe9=>
 ob (kA a1 1) λe10=>
 ob (jD [e9,e10]) λr11=>
 some (r11,true))
 (aA (λ(y12:Unit)=>
 k5 ()) λk13=>
 cond (a0.Kind==6)
 (ob (kA a1 0) λe14=>
 ob (kA a1 1) λe15=>
 cond ((e14.length:Int)==(e15.length:Int))
 (ob (kA a1 0) λe16=>
 ob (kA a1 1) λe17=>
 ob (Se e16 e17) λr18=>
 some (r18,true))
 (k13 ()))
 (cond (a0.Kind==7)
 (ob (kA a1 0) λe19=>
 ob (kA a1 1) λe20=>
 let r21:(List UInt8):=VC e19 e20
 some (r21,true))
 (cond (a0.Kind==8)
 (ob (kA a1 0) λe22=>
 ob (kA a1 1) λe23=>
 ob (Ca e22 e23) λr24=>
 some (r24,true))
 (cond (a0.Kind==9)
 (ob (kA a1 0) λe25=>
 ob (GE e25 [114,101,107,101,121]) λr26=>
 some (r26,true))
 (cond (a0.Kind==10)
 (ob (kA a1 0) λe27=>
 ob (kA a1 1) λe28=>
 ob (kA a1 2) λe29=>
 ob (En e27 e28 e29) λr30=>
 some (r30,true))
 (k13 ()))))))))))
def Ow(a0:List Bc)(a1:List Am)(a2:List (List UInt8)):Option ((List UInt8)×Bool):=
 cond (decide ((a0.length:Int)>16))
 (some ([],false))
 (aA (λ(y1:(List (List UInt8)))=>
 cond ((y1.length:Int) !=1)
 (some ([],false))
 (cond (decide (0≤(0:Int))&&decide ((0:Int)<(y1.length:Int))) (ob (y1[0]?) λe15=>
 ob (CA e15) λr16=>
 some (r16,true)) none)) λk2=>
 qA FU (λ(x3:(List (List UInt8))×Int) k4=>
 cond (decide (x3.2<(a0.length:Int)))
 (ob (kA a0 x3.2) λe5=>
 ob (Kl e5.Kind) λr6=>
 aA (λy7=>
 cond (y7)
 (some ([],false))
 (cond (decide (0≤(wA .i64 (x3.1.length:Int) r6))&&decide ((wA .i64 (x3.1.length:Int) r6)≤(x3.1.length:Int))&&decide ((x3.1.length:Int)≤(x3.1.length:Int))) (ob (Sf e5 (List.take (((x3.1.length:Int) - (wA .i64 (x3.1.length:Int) r6)).toNat) (List.drop ((wA .i64 (x3.1.length:Int) r6).toNat) x3.1)) a1 a2) λr10=>
 aA (λy11=>
 cond (y11)
 (some ([],false))
 (cond (decide (0≤(0:Int))&&decide ((0:Int)≤(wA .i64 (x3.1.length:Int) r6))&&decide ((wA .i64 (x3.1.length:Int) r6)≤(x3.1.length:Int))) (cond (decide (([]:List (List UInt8)).length+(List.take ((wA .i64 (x3.1.length:Int) r6 - 0).toNat) (List.drop 0 x3.1)).length≤bA)) (let x14:List (List UInt8):=[]++(List.take ((wA .i64 (x3.1.length:Int) r6 - 0).toNat) (List.drop 0 x3.1))
 cond (decide (x14.length+[r10.1].length≤bA)) (k4 ((x14++[r10.1]),(iA .i64 x3.2 1))) none) none) none)) λk12=>
 cond (!r10.2)
 (k12 true)
 (cond (decide ((r10.1.length:Int)>200))
 (k12 true)
 (let x13:Int:=iA .i64 (wA .i64 (x3.1.length:Int) r6) 1
 k12 (decide (x13>8))))) none)) λk8=>
 ob (Dk e5) λr9=>
 cond (!r9)
 (k8 true)
 (k8 (decide ((wA .i64 (x3.1.length:Int) r6)<0))))
 (k2 x3.1)) ([],0))
def Hs(a0:List Al)(a1:Ai)(a2:Int):=
 ob (nA a0) λr1=>
 aA (λy2=>
 cond (y2)
 (some r1)
 (aA (λ(y4:(List Al))=>
 some y4) λk5=>
 cond (decide ((qB a0 a1)≥0))
 (cond (decide (0≤(qB a0 a1))&&decide ((qB a0 a1)<(r1.length:Int))) (ob (r1[(qB a0 a1).toNat]?) λe6=>
 cond (decide (0≤(qB a0 a1))&&decide ((qB a0 a1)<(r1.length:Int))) (ob (r1[(qB a0 a1).toNat]?) λe7=>
 let l8:List Al:=List.set r1 ((qB a0 a1).toNat) (⟨e7.A,UD (iA .i64 e6.Got a2) 1000000,e7.Sent⟩:Al)
 k5 l8) none) none)
 (aA (λ(y9:(List Al))=>
 k5 y9) λk10=>
 cond (decide ((a0.length:Int)<8))
 (cond (decide (r1.length+[(⟨a1,a2,0⟩:Al)].length≤bA)) (k10 (r1++[(⟨a1,a2,0⟩:Al)])) none)
 (k10 r1)))) λk3=>
 cond (!(gD a0))
 (k3 true)
 (cond (!(MA a1))
 (k3 true)
 (k3 (!(eA a2 0 1000000))))
def Bl(a0:List UInt8)(a1:Int):=
 cond (decide (0≤(0:Int))&&decide ((0:Int)≤(UD a1 (a0.length:Int)))&&decide ((UD a1 (a0.length:Int))≤(a0.length:Int))) (let l1:List UInt8:=List.take ((UD a1 (a0.length:Int) - 0).toNat) (List.drop 0 a0)
 ob (CA l1) λr2=>
 cond (decide (0≤(UD a1 (a0.length:Int)))&&decide ((UD a1 (a0.length:Int))≤(a0.length:Int))&&decide ((a0.length:Int)≤(a0.length:Int))) (let l3:List UInt8:=List.take (((a0.length:Int) - (UD a1 (a0.length:Int))).toNat) (List.drop ((UD a1 (a0.length:Int)).toNat) a0)
 some (r2,l3)) none) none
def Ci(a0:List UInt8)(a1:Int):=
 ob (Bl a0 a1) λr1=>
 ob (ZG r1.1 0 a1) λr2=>
 some (r2.1,r1.2)
def Cv(a0:List UInt8):=
 ob (Ci a0 1) λr1=>
 aA (λ(y2:(List UInt8)×Aa)=>
 aA (λy27=>
 cond (y27)
 (some ((⟨0,0,[],[],0,[],[],0,0,[],[]⟩:Aa),false))
 (some (y2.2,true))) λk28=>
 ob (TC y2.2) λr29=>
 cond (!r29)
 (k28 true)
 (ob (Bg y2.2) λr30=>
 ob (BB r30 a0) λr31=>
 k28 (!r31))) λk3=>
 cond (r1.1==1)
 (ob (Ci r1.2 1) λr4=>
 ob (Bl r4.2 12) λr5=>
 k3 (r5.2,(⟨r1.1,r4.1,r5.1,[],0,[],[],0,0,[],[]⟩:Aa)))
 (aA (λ(y6:Bool)=>
 aA (λ(y8:(List UInt8)×Aa)=>
 k3 (y8.1,y8.2)) λk9=>
 cond (y6)
 (aA (λ(y10:(List UInt8)×Aa)=>
 ob (Bl y10.1 12) λr13=>
 ob (Bl r13.2 12) λr14=>
 ob (Ci r14.2 4) λr15=>
 ob (Bl r15.2 16) λr16=>
 aA (λ(y17:(List UInt8)×Aa)=>
 k9 (y17.1,y17.2)) λk18=>
 cond (y10.2.Kind==3)
 (ob (Bl r16.2 16) λr19=>
 k18 (r19.2,(⟨y10.2.Kind,y10.2.Id,r13.1,r14.1,r15.1,r16.1,r19.1,y10.2.Epoch,y10.2.Seq,y10.2.Body,y10.2.Tag⟩:Aa)))
 (k18 (r16.2,(⟨y10.2.Kind,y10.2.Id,r13.1,r14.1,r15.1,r16.1,y10.2.Proof,y10.2.Epoch,y10.2.Seq,y10.2.Body,y10.2.Tag⟩:Aa)))) λk11=>
 cond (r1.1==3)
 (ob (Ci r1.2 1) λr12=>
 k11 (r12.2,(⟨r1.1,r12.1,[],[],0,[],[],0,0,[],[]⟩:Aa)))
 (k11 (r1.2,(⟨r1.1,0,[],[],0,[],[],0,0,[],[]⟩:Aa))))
 (aA (λ(y20:(List UInt8)×Aa)=>
 k9 (y20.1,y20.2)) λk21=>
 cond ((gC r1.1))
 (ob (Bl r1.2 12) λr22=>
 ob (Ci r22.2 4) λr23=>
 ob (Ci r23.2 6) λr24=>
 ob (Bl r24.2 16) λr25=>
 ob (Bl r25.2 41) λr26=>
 k21 (r26.2,(⟨r1.1,0,[],r22.1,0,[],[],r23.1,r24.1,r26.1,r25.1⟩:Aa)))
 (k21 (r1.2,(⟨r1.1,0,[],[],0,[],[],0,0,[],[]⟩:Aa))))) λk7=>
 cond (r1.1==2)
 (k7 true)
 (k7 (r1.1==3)))
def Cw(a0:Ao)(a1:Ai):=
 aA (λ(y1:Unit)=>
 some false) λk2=>
 qA FU (λ(x3:Int) k4=>
 cond (decide (x3<(a0.L.length:Int)))
 (ob (kA a0.L x3) λe5=>
 aA (λy6=>
 cond (y6)
 (some true)
 (k4 (iA .i64 x3 1))) λk7=>
 cond (!e5.Dead)
 (let x8:Bool:=cond (e5.P.At.Host==a1.Host) (cond (e5.P.At.Port==a1.Port) (true) false) false
 k7 x8)
 (k7 false))
 (k2 ())) 0
def Fy(a0:Ac)(a1:Ai)(a2:Int):=
 aA (λ(y1:Bool)=>
 some y1) λk2=>
 ob (Cw a0.T a1) λr3=>
 cond (r3)
 (k2 true)
 (ob (Bx a0.Cr a1) λr4=>
 k2 (decide (r4≥a2)))
def Ht(a0:List UInt8)(a1:Ai):=
 cond (!(MA a1))
 (ob (CA a0) λr1=>
 some r1)
 (ob (UB a0 a1.Host 4) λr2=>
 ob (UB r2 a1.Port 2) λr3=>
 some r3)
def Er(a0:Ai)(a1:Int)(a2:List UInt8)(a3:List UInt8)(a4:Int):=
 aA (λy1=>
 cond (y1)
 (some [])
 (ob (Ht [UInt8.ofNat (99:Int).toNat] a0) λr3=>
 ob (UB [] a4 4) λr4=>
 let x5:List (List UInt8):=[r3,[UInt8.ofNat (IntKind.wrap .u8 a1:Int).toNat],a2,a3,r4]
 ob (jD x5) λr6=>
 some r6)) λk2=>
 cond (!(MA a0))
 (k2 true)
 (cond (!(eA a1 1 9))
 (k2 true)
 (cond (!(oA a2))
 (k2 true)
 (cond (!(oA a3))
 (k2 true)
 (k2 (!(eA a4 0 1000000))))))
def Fz(a0:Ba)(a1:Ai)(a2:Int)(a3:List UInt8)(a4:List UInt8)(a5:Int):=
 ob (Er a1 a2 a3 a4 a5) λr1=>
 aA (λy2=>
 cond (y2)
 (some [])
 (ob (Ca a0.Secret r1) λr4=>
 some r4)) λk3=>
 cond (!(dF a0))
 (k3 true)
 (k3 ((r1.length:Int)==0))
def Km(a0:Ac)(a1:Int)(a2:Ai)(a3:Aa):=
 aA (λy1=>
 cond (y1)
 (some (a0,[],[]))
 (ob (zE a0.D) λr4=>
 ob (Fz a0.J a2 a3.Id a3.Cn r4.2 a1) λr5=>
 ob (CA a3.Cn) λr6=>
 ob (CA r4.2) λr7=>
 ob (Er a2 a3.Id a3.Cn r4.2 a1) λr8=>
 ob (Eq a0.J.Secret r8) λr9=>
 let x10:List Au:=[(⟨a2,(⟨2,0,r6,r7,a1,r5,[],0,0,[],[]⟩:Aa)⟩:Au)]
 ob (vE r4.2) λr11=>
 some ((⟨a0.Psks,a0.J,r4.1,a0.T,a0.Cr⟩:Ac),x10,[r11,r9]))) λk2=>
 cond (decide (a3.Id>(a0.Psks.length:Int)))
 (k2 true)
 (ob (Fy a0 a2 45) λr3=>
 cond (!r3)
 (k2 true)
 (k2 (decide (a0.D.N≥10000))))
def Hu(a0:Ba)(a1:Int)(a2:Ai)(a3:Aa):Option Int:=
 aA (λy1=>
 cond (y1)
 (some 1)
 (ob (Cq a1 a3.Tick) λr4=>
 cond (!r4)
 (some 9)
 (ob (Fz a0 a2 a3.Id a3.Cn a3.Sn a3.Tick) λr5=>
 ob (Bn a3.Cookie r5) λr6=>
 cond (!r6)
 (some 2)
 (some 0)))) λk2=>
 cond (!(dF a0))
 (k2 true)
 (cond (!(eA a1 0 1000000))
 (k2 true)
 (cond (!(MA a2))
 (k2 true)
 (cond (a3.Kind !=3)
 (k2 true)
 (ob (TC a3) λr3=>
 k2 (!r3)))))
def Cy(a0:Int)(a1:List UInt8)(a2:List UInt8)(a3:Int)(a4:List UInt8):=
 aA (λy1=>
 cond (y1)
 (some [])
 (let x3:List UInt8:=[UInt8.ofNat (102:Int).toNat,UInt8.ofNat (IntKind.wrap .u8 a0:Int).toNat]
 ob (UB [] a3 4) λr4=>
 ob (jD [x3,a1,a2,r4,a4]) λr5=>
 some r5)) λk2=>
 cond (!(eA a0 1 9))
 (k2 true)
 (cond (!(oA a1))
 (k2 true)
 (cond (!(oA a2))
 (k2 true)
 (cond (!(eA a3 0 1000000))
 (k2 true)
 (k2 ((a4.length:Int) !=16)))))
def Dn(a0:List UInt8)(a1:Int)(a2:List UInt8)(a3:List UInt8)(a4:Int)(a5:List UInt8):=
 ob (Bh a0) λr1=>
 ob (Cy a1 a2 a3 a4 a5) λr2=>
 aA (λy3=>
 cond (y3)
 (some [])
 (ob (Ca r1 r2) λr5=>
 some r5)) λk4=>
 cond ((r1.length:Int)==0)
 (k4 true)
 (k4 ((r2.length:Int)==0))
def Hv(a0:List UInt8)(a1:Aa):=
 aA (λ(y1:Bool)=>
 some y1) λk2=>
 cond (a1.Kind==3)
 (ob (TC a1) λr3=>
 cond (r3)
 (ob (Dn a0 a1.Id a1.Cn a1.Sn a1.Tick a1.Cookie) λr4=>
 ob (Bn a1.Proof r4) λr5=>
 k2 r5)
 (k2 false))
 (k2 false)
def Hw(a0:List UInt8)(a1:List UInt8)(a2:List UInt8):=
 aA (λy1=>
 cond (y1)
 (some [])
 (ob (jD [a1,a2]) λr3=>
 ob (By r3 a0) λr4=>
 some r4)) λk2=>
 cond (!(CC a0))
 (k2 true)
 (cond (!(oA a1))
 (k2 true)
 (k2 (!(oA a2))))
def Hx(a0:List UInt8)(a1:Int):=
 cond (!(eA a1 0 64))
 (some [])
 (ob (CA a0) λr1=>
 aA (λ(y2:(List UInt8))=>
 some y2) λk3=>
 qA FU (λ(x4:(List UInt8)×Int) k5=>
 cond (decide (x4.2<a1))
 (ob (GE x4.1 [114,101,107,101,121]) λr6=>
 k5 (r6,(iA .i64 x4.2 1)))
 (k3 x4.1)) (r1,0))
def Ga(a0:List UInt8)(a1:List UInt8)(a2:List UInt8)(a3:Int):=
 ob (Hw a0 a1 a2) λr1=>
 ob (Cs r1) λr2=>
 cond ((r2.length:Int)==0)
 (some [])
 (ob (Hx r2 a3) λr3=>
 some r3)
def Kn:=
 some (⟨(-1),List.replicate (32:Int).toNat (0:Int)⟩:Ap)
def Cz(a0:Int)(a1:List UInt8):=
 aA (λy1=>
 cond (y1)
 (some (⟨0,[],0,(⟨0,[]⟩:Ap)⟩:Aw))
 (ob (CA a1) λr3=>
 ob (Kn) λr4=>
 some (⟨a0,r3,0,r4⟩:Aw))) λk2=>
 cond (!(eA a0 0 4294967295))
 (k2 true)
 (k2 ((a1.length:Int) !=32))
def Gb(a0:Int)(a1:List UInt8)(a2:List UInt8):=
 aA (λy1=>
 cond (y1)
 (some (⟨0,[],(⟨0,[],0,(⟨0,[]⟩:Ap)⟩:Aw),(⟨0,[],0,(⟨0,[]⟩:Ap)⟩:Aw),false,0,[]⟩:Ak))
 (ob (CA a1) λr3=>
 ob (Cz 0 a2) λr4=>
 some (⟨a0,r3,r4,(⟨0,[],0,(⟨0,[]⟩:Ap)⟩:Aw),false,0,[]⟩:Ak))) λk2=>
 cond (!(NA a0))
 (k2 true)
 (cond (!(oA a1))
 (k2 true)
 (k2 ((a2.length:Int) !=32)))
def Es(a0:List UInt8)(a1:Int)(a2:Ai)(a3:Aa):=
 aA (λy1=>
 cond (y1)
 (some (⟨0,[],[],(⟨0,[],(⟨0,[],0,(⟨0,[]⟩:Ap)⟩:Aw),(⟨0,[],0,(⟨0,[]⟩:Ap)⟩:Aw),false,0,[]⟩:Ak),(⟨(⟨0,0⟩:Ai),[]⟩:Aj),0,0,false⟩:Ah))
 (ob (CA a3.Cn) λr4=>
 ob (CA a3.Sn) λr5=>
 ob (Ce a2) λr6=>
 ob (Ga a0 a3.Cn a3.Sn 0) λr7=>
 ob (Gb 1 a3.Sn r7) λr8=>
 some (⟨a3.Id,r4,r5,r8,r6,a3.Tick,a1,false⟩:Ah))) λk2=>
 cond (!(CC a0))
 (k2 true)
 (cond (!(eA a1 0 1000000))
 (k2 true)
 (cond (!(MA a2))
 (k2 true)
 (cond (a3.Kind !=3)
 (k2 true)
 (ob (TC a3) λr3=>
 k2 (!r3)))))
def Do(a0:List UInt8)(a1:List UInt8)(a2:List UInt8):=
 ob (CA a0) λr1=>
 ob (CA a1) λr2=>
 ob (CA a2) λr3=>
 some (⟨16,0,0,[],r2,0,0,r3,r1,(⟨0,0⟩:Ai),0⟩:Ae)
def Gc(a0:Ak):Option (Ak×Aa×Int):=
 aA (λy1=>
 cond (y1)
 (ob (nA a0) λr4=>
 some (r4,(⟨0,0,[],[],0,[],[],0,0,[],[]⟩:Aa),6))
 (ob (Bk a0.Cur.N) λr5=>
 ob (Br a0 8 r5) λr6=>
 some (r6.1,r6.2.1,r6.2.2))) λk2=>
 ob (sC a0) λr3=>
 cond (!r3)
 (k2 true)
 (k2 (a0.Role !=1))
def Et(a0:Ah):Option (Ah×(List Au)×(List Ae)):=
 ob (nA a0) λr1=>
 aA (λy2=>
 cond (y2)
 (some (r1,[],[]))
 (ob (Gc a0.C) λr5=>
 cond (r5.2.2 !=0)
 (some (r1,[],[]))
 (ob (Bs r5.1 r5.2.1) λr6=>
 some ((⟨r1.Id,r1.Cn,r1.Sn,r5.1,r1.P,r1.Tick,r1.Last,r1.Dead⟩:Ah),[(⟨a0.P.At,r5.2.1⟩:Au)],[r6])))) λk3=>
 ob (FD a0) λr4=>
 cond (!r4)
 (k3 true)
 (cond (a0.Dead)
 (k3 true)
 (k3 (a0.C.Cur.N !=0)))
def Bt(a0:Ao)(a1:Int)(a2:Ah):=
 ob (nA a0) λr1=>
 aA (λy2=>
 cond (y2)
 (some (r1,false))
 (ob (nA a2) λr5=>
 cond (decide (0≤a1)&&decide (a1<(r1.L.length:Int))) (ob (r1.L[a1.toNat]?) λe6=>
 ob (iG (⟨r1.Cap,List.set r1.L a1.toNat r5⟩:Ao)) λr7=>
 cond (!r7)
 (ob (nA a0) λr8=>
 some (r8,false))
 (some ((⟨r1.Cap,List.set r1.L a1.toNat r5⟩:Ao),true))) none)) λk3=>
 ob (iG a0) λr4=>
 cond (!r4)
 (k3 true)
 (cond (decide (a1<0))
 (k3 true)
 (k3 (decide (a1≥(a0.L.length:Int)))))
def Ko(a0:Ac)(a1:Int)(a2:Ai)(a3:Aa):Option (Ac×(List Au)×(List Ae)):=
 aA (λy1=>
 cond (y1)
 (some (a0,[],[]))
 (ob (ED a0.T a3.Sn) λr6=>
 aA (λ(y7:(List Ae)×Ac×Ac)=>
 ob (ED y7.2.2.T a3.Sn) λr21=>
 ob (kA y7.2.2.T.L r21) λe22=>
 aA (λy23=>
 cond (y23)
 (some (y7.2.2,[],y7.1))
 (ob (Et e22) λr26=>
 ob (Bt y7.2.2.T r21 r26.1) λr27=>
 cond (decide (y7.1.length+r26.2.2.length≤bA)) (some ((⟨y7.2.2.Psks,y7.2.2.J,y7.2.2.D,r27.1,y7.2.2.Cr⟩:Ac),r26.2.1,y7.1++r26.2.2)) none)) λk24=>
 cond (e22.Dead)
 (k24 true)
 (cond (e22.Id !=a3.Id)
 (k24 true)
 (ob (BB e22.Cn a3.Cn) λr25=>
 k24 (!r25)))) λk8=>
 cond (decide (r6<0))
 (ob (kA a0.Psks (wA .i64 a3.Id 1)) λe9=>
 ob (Es e9 a1 a2 a3) λr10=>
 ob (Bi a0.T r10) λr11=>
 cond (r11.2 !=0)
 (some (a0,[],[]))
 (ob (Er a2 a3.Id a3.Cn a3.Sn a3.Tick) λr12=>
 ob (Do a0.J.Secret a3.Sn r12) λr13=>
 ob (Bh e9) λr14=>
 ob (Cy a3.Id a3.Cn a3.Sn a3.Tick a3.Cookie) λr15=>
 ob (Do r14 a3.Sn r15) λr16=>
 ob (CA a3.Cn) λr17=>
 ob (CA a3.Sn) λr18=>
 ob (CA r10.C.Cur.Key) λr19=>
 let x20:List Ae:=[r13,r16,(⟨4,a3.Id,0,r17,r18,0,0,[],r19,a2,a1⟩:Ae)]
 cond (decide (([]:List Ae).length+x20.length≤bA)) (k8 (([]++x20),(⟨[],(⟨[]⟩:Ba),(⟨[],0⟩:Ax),(⟨0,[]⟩:Ao),[]⟩:Ac),(⟨a0.Psks,a0.J,a0.D,r11.1,a0.Cr⟩:Ac))) none))
 (k8 ([],(⟨[],(⟨[]⟩:Ba),(⟨[],0⟩:Ax),(⟨0,[]⟩:Ao),[]⟩:Ac),a0)))) λk2=>
 ob (Hu a0.J a1 a2 a3) λr3=>
 cond (r3 !=0)
 (k2 true)
 (cond (decide (a3.Id>(a0.Psks.length:Int)))
 (k2 true)
 (ob (kA a0.Psks (wA .i64 a3.Id 1)) λe4=>
 ob (Hv e4 a3) λr5=>
 k2 (!r5)))
def Cj(a0:Ap)(a1:Int):=
 aA (λy1=>
 cond (y1)
 (some false)
 (aA (λ(y3:Bool)=>
 some y3) λk4=>
 cond (decide (a1>a0.Top))
 (k4 true)
 (cond (decide (a1≥(iA .i64 (wA .i64 a0.Top 1024) 1)))
 (ob (NF a0 a1) λr5=>
 k4 (!r5))
 (k4 false)))) λk2=>
 cond (!(bD a0))
 (k2 true)
 (k2 (!(eA a1 0 281474976710655)))
def Da(a0:Ap)(a1:Int):=
 ob (nA a0) λr1=>
 ob (Cj a0 a1) λr2=>
 cond (!r2)
 (some (r1,false))
 (let x3:Int:=qG (iA .i64 a0.Top 1) (iA .i64 (wA .i64 a1 1024) 1)
 aA (λ(y4:Ap)=>
 cond (decide (0≤PC .i64 (EA .i64 a1 1024) 32)&&decide (PC .i64 (EA .i64 a1 1024) 32<(y4.Bits.length:Int))) (ob (y4.Bits[(PC .i64 (EA .i64 a1 1024) 32).toNat]?) λe12=>
 cond (decide ((EA .i64 a1 32)<0)) none (let x13:Int:=mK .i64 e12 (gJ .i64 1 (EA .i64 a1 32))
 cond (decide (0≤PC .i64 (EA .i64 a1 1024) 32)&&decide (PC .i64 (EA .i64 a1 1024) 32<(y4.Bits.length:Int))) (ob (y4.Bits[(PC .i64 (EA .i64 a1 1024) 32).toNat]?) λe14=>
 let l15:List Int:=List.set y4.Bits ((PC .i64 (EA .i64 a1 1024) 32).toNat) x13
 some ((⟨qG a0.Top a1,l15⟩:Ap),true)) none)) none) λk5=>
 qA FU (λ(x6:Int×Ap) k7=>
 cond (decide (x6.1<a1))
 (cond (decide (0≤PC .i64 (EA .i64 x6.1 1024) 32)&&decide (PC .i64 (EA .i64 x6.1 1024) 32<(x6.2.Bits.length:Int))) (ob (x6.2.Bits[(PC .i64 (EA .i64 x6.1 1024) 32).toNat]?) λe8=>
 cond (decide ((EA .i64 x6.1 32)<0)) none (let x9:Int:=zcG .i64 e8 (gJ .i64 1 (EA .i64 x6.1 32))
 cond (decide (0≤PC .i64 (EA .i64 x6.1 1024) 32)&&decide (PC .i64 (EA .i64 x6.1 1024) 32<(x6.2.Bits.length:Int))) (ob (x6.2.Bits[(PC .i64 (EA .i64 x6.1 1024) 32).toNat]?) λe10=>
 let l11:List Int:=List.set x6.2.Bits ((PC .i64 (EA .i64 x6.1 1024) 32).toNat) x9
 k7 ((iA .i64 x6.1 1),(⟨x6.2.Top,l11⟩:Ap))) none)) none)
 (k5 x6.2)) (x3,r1))
def Hy(a0:List UInt8)(a1:Int)(a2:Aa):=
 ob (Cg a1 a2) λr1=>
 aA (λy2=>
 cond (y2)
 (some ([],false))
 (ob (Em a1 a2.Sn a2.Epoch a2.Seq) λr6=>
 ob (En a0 r6 a2.Body) λr7=>
 some (r7,true))) λk3=>
 cond ((a0.length:Int) !=32)
 (k3 true)
 (cond ((r1.length:Int)==0)
 (k3 true)
 (ob (Ca a0 r1) λr4=>
 ob (Bn a2.Tag r4) λr5=>
 k3 (!r5)))
def Eu(a0:Aw)(a1:Int)(a2:Aa):Option (Aw×(List UInt8)×Int):=
 ob (nA a0) λr1=>
 aA (λy2=>
 cond (y2)
 (some (r1,[],1))
 (ob (Da a0.Win a2.Seq) λr5=>
 cond (!r5.2)
 (some (r1,[],3))
 (ob (Hy a0.Key a1 a2) λr6=>
 cond (!r6.2)
 (some (r1,[],2))
 (some ((⟨r1.N,r1.Key,r1.Seq,r5.1⟩:Aw),r6.1,0))))) λk3=>
 cond (!(cD a0))
 (k3 true)
 (ob (Cg a1 a2) λr4=>
 cond ((r4.length:Int)==0)
 (k3 true)
 (k3 (a2.Epoch !=a0.N)))
def Db(a0:Ak)(a1:Int)(a2:Aa):Option (Ak×(List UInt8)×Int):=
 ob (nA a0) λr1=>
 aA (λy2=>
 cond (y2)
 (some (r1,[],1))
 (aA (λ(y6:Bool)=>
 aA (λ(y8:Bool)=>
 aA (λy10=>
 cond (y10)
 (some (r1,[],8))
 (aA (λy13=>
 cond (y13)
 (some (r1,[],9))
 (aA (λ(y15:Aw)=>
 aA (λ(y17:Aw)=>
 ob (Eu y17 (wA .i64 1 a0.Role) a2) λr20=>
 cond (r20.2.2 !=0)
 (some (r1,[],r20.2.2))
 (aA (λ(y21:Ak)=>
 some (y21,r20.2.1,0)) λk22=>
 cond (a2.Epoch==a0.Cur.N)
 (aA (λ(y23:Bool)=>
 aA (λ(y25:Ak)=>
 k22 y25) λk26=>
 cond (y23)
 (k26 (⟨r1.Role,r1.Sn,r20.1,r1.Old,r1.HasOld,iA .i64 a1 5,r1.Next⟩:Ak))
 (k26 (⟨r1.Role,r1.Sn,r20.1,r1.Old,r1.HasOld,r1.Until,r1.Next⟩:Ak))) λk24=>
 cond (a0.HasOld)
 (k24 (a0.Until==(-1)))
 (k24 false))
 (aA (λ(y27:Ak)=>
 k22 y27) λk28=>
 cond (y6)
 (k28 (⟨r1.Role,r1.Sn,r1.Cur,r20.1,r1.HasOld,r1.Until,r1.Next⟩:Ak))
 (k28 (⟨r1.Role,r1.Sn,r20.1,r1.Cur,true,iA .i64 a1 5,[]⟩:Ak))))) λk18=>
 cond (y8)
 (ob (Cz (iA .i64 a0.Cur.N 1) a0.Next) λr19=>
 k18 r19)
 (k18 y15)) λk16=>
 cond (y6)
 (k16 a0.Old)
 (k16 a0.Cur))) λk14=>
 cond (y6)
 (cond (a0.Until !=(-1))
 (k14 (decide (a1>a0.Until)))
 (k14 false))
 (k14 false))) λk11=>
 ob (Bp a2.Sn a0.Sn) λr12=>
 cond (r12 !=0)
 (k11 true)
 (cond (!(a2.Epoch==a0.Cur.N))
 (cond (!y6)
 (k11 (!y8))
 (k11 false))
 (k11 false))) λk9=>
 cond (decide ((a0.Next.length:Int)>0))
 (k9 (a2.Epoch==(iA .i64 a0.Cur.N 1)))
 (k9 false)) λk7=>
 cond (a0.HasOld)
 (k7 (a2.Epoch==a0.Old.N))
 (k7 false))) λk3=>
 ob (sC a0) λr4=>
 cond (!r4)
 (k3 true)
 (cond (!(eA a1 0 1000000))
 (k3 true)
 (cond (!(gC a2.Kind))
 (k3 true)
 (ob (TC a2) λr5=>
 k3 (!r5))))
def Gd(a0:Ak)(a1:Int):=
 ob (sC a0) λr1=>
 cond (!r1)
 (some ([],false))
 (aA (λy2=>
 cond (y2)
 (ob (CA a0.Old.Key) λr4=>
 some (r4,true))
 (cond (a1==a0.Cur.N)
 (ob (CA a0.Cur.Key) λr5=>
 some (r5,true))
 (aA (λy6=>
 cond (y6)
 (ob (CA a0.Next) λr8=>
 some (r8,true))
 (some ([],false))) λk7=>
 cond (decide ((a0.Next.length:Int)>0))
 (k7 (a1==(iA .i64 a0.Cur.N 1)))
 (k7 false)))) λk3=>
 cond (a0.HasOld)
 (k3 (a1==a0.Old.N))
 (k3 false))
def Ge(a0:Aj)(a1:Int)(a2:Ai)(a3:List UInt8):=
 ob (nA a0) λr1=>
 ob (MI a0 a2) λr2=>
 aA (λy3=>
 cond (y3)
 (some (r1,false))
 (cond (decide (0≤(0:Int))&&decide ((0:Int)≤r2)&&decide (r2≤(r1.Cands.length:Int))) (cond (decide (0≤(iA .i64 r2 1))&&decide ((iA .i64 r2 1)≤(r1.Cands.length:Int))&&decide ((r1.Cands.length:Int)≤(r1.Cands.length:Int))) (cond (decide ((List.take ((r2 - 0).toNat) r1.Cands).length+(List.take (((r1.Cands.length:Int) - (iA .i64 r2 1)).toNat) (List.drop ((iA .i64 r2 1).toNat) r1.Cands)).length≤bA)) (let x8:List Az:=(List.take ((r2 - 0).toNat) r1.Cands)++(List.take (((r1.Cands.length:Int) - (iA .i64 r2 1)).toNat) (List.drop ((iA .i64 r2 1).toNat) r1.Cands))
 some ((⟨a2,x8⟩:Aj),true)) none) none) none)) λk4=>
 cond (!(qC a0))
 (k4 true)
 (cond (!(eA a1 0 1000000))
 (k4 true)
 (cond (decide (r2<0))
 (k4 true)
 (ob (kA a0.Cands r2) λe5=>
 ob (BB a3 e5.Draw) λr6=>
 cond (!r6)
 (k4 true)
 (ob (kA a0.Cands r2) λe7=>
 k4 (decide (a1>e7.Until))))))
def Hz(a0:Ak):=
 ob (nA a0) λr1=>
 aA (λy2=>
 cond (y2)
 (some (r1,false))
 (ob (GE a0.Cur.Key [114,101,107,101,121]) λr5=>
 ob (Cz (iA .i64 a0.Cur.N 1) r5) λr6=>
 some ((⟨r1.Role,r1.Sn,r6,r1.Cur,true,(-1),r1.Next⟩:Ak),true))) λk3=>
 ob (sC a0) λr4=>
 cond (!r4)
 (k3 true)
 (cond (a0.Role !=1)
 (k3 true)
 (k3 (a0.Cur.N==4294967295)))
def Ia(a0:Ak)(a1:Int)(a2:List UInt8):Option (Ak×Int):=
 ob (nA a0) λr1=>
 aA (λy2=>
 cond (y2)
 (some (r1,6))
 (cond (a1==(wA .i64 a0.Cur.N 1))
 (some (r1,0))
 (ob (Hz a0) λr7=>
 aA (λy8=>
 cond (y8)
 (some (r1,6))
 (some (r7.1,0))) λk9=>
 cond (a1 !=a0.Cur.N)
 (k9 true)
 (k9 (!r7.2))))) λk3=>
 ob (sC a0) λr4=>
 cond (!r4)
 (k3 true)
 (cond (a0.Role !=1)
 (k3 true)
 (cond (!(eA a1 0 4294967294))
 (k3 true)
 (ob (Bk (iA .i64 a1 1)) λr5=>
 ob (BB a2 r5) λr6=>
 k3 (!r6))))
def Kp(a0:Ah)(a1:Int)(a2:List UInt8):Option (Ah×(List Au)×(List Ae)):=
 ob (Ia a0.C a1 a2) λr1=>
 cond (r1.2 !=0)
 (some (a0,[],[]))
 (aA (λ(y2:(List Ae))=>
 ob (Gc r1.1) λr7=>
 cond (r7.2.2 !=0)
 (some ((⟨a0.Id,a0.Cn,a0.Sn,r1.1,a0.P,a0.Tick,a0.Last,a0.Dead⟩:Ah),[],y2))
 (ob (Bs r7.1 r7.2.1) λr8=>
 cond (decide (y2.length+[r8].length≤bA)) (some ((⟨a0.Id,a0.Cn,a0.Sn,r7.1,a0.P,a0.Tick,a0.Last,a0.Dead⟩:Ah),[(⟨a0.P.At,r7.2.1⟩:Au)],y2++[r8])) none)) λk3=>
 cond (r1.1.Cur.N !=a0.C.Cur.N)
 (ob (CA a0.Sn) λr4=>
 ob (CA r1.1.Cur.Key) λr5=>
 let x6:List Ae:=[(⟨10,0,1,[],r4,r1.1.Cur.N,0,[],r5,(⟨0,0⟩:Ai),0⟩:Ae)]
 cond (decide (([]:List Ae).length+x6.length≤bA)) (k3 ([]++x6)) none)
 (k3 []))
def Dp(a0:Aj)(a1:Int):=
 ob (nA a0) λr1=>
 aA (λ(y2:Aj)=>
 some y2) λk3=>
 qA FU (λ(x4:Int×Aj) k5=>
 cond (decide (x4.1<(r1.Cands.length:Int)))
 (cond (decide (0≤x4.1)&&decide (x4.1<(r1.Cands.length:Int))) (ob (r1.Cands[x4.1.toNat]?) λe6=>
 aA (λ(y7:Aj)=>
 k5 ((iA .i64 x4.1 1),y7)) λk8=>
 cond (decide (e6.Until≥a1))
 (cond (decide (x4.2.Cands.length+[e6].length≤bA)) (k8 (⟨x4.2.At,x4.2.Cands++[e6]⟩:Aj)) none)
 (k8 x4.2)) none)
 (k3 x4.2)) (0,(⟨a0.At,[]⟩:Aj))
def Gf(a0:Aj)(a1:Int)(a2:Ai)(a3:List UInt8):=
 aA (λy1=>
 cond (y1)
 (ob (nA a0) λr4=>
 some (r4,false))
 (ob (Dp a0 a1) λr5=>
 aA (λy6=>
 cond (y6)
 (ob (nA a0) λr9=>
 some (r9,false))
 (ob (CA a3) λr10=>
 cond (decide (r5.Cands.length+[(⟨a2,r10,iA .i64 a1 6⟩:Az)].length≤bA)) (some ((⟨r5.At,r5.Cands++[(⟨a2,r10,iA .i64 a1 6⟩:Az)]⟩:Aj),true)) none)) λk7=>
 ob (MI r5 a2) λr8=>
 cond (decide (r8≥0))
 (k7 true)
 (k7 ((r5.Cands.length:Int)==3)))) λk2=>
 cond (!(qC a0))
 (k2 true)
 (cond (!(eA a1 0 1000000))
 (k2 true)
 (cond (!(MA a2))
 (k2 true)
 (cond (!(oA a3))
 (k2 true)
 (let x3:Bool:=cond (a2.Host==a0.At.Host) (cond (a2.Port==a0.At.Port) (true) false) false
 k2 x3))))
def Gg(a0:Ah)(a1:Int)(a2:Ai)(a3:Aa)(a4:List UInt8):Option (Ah×(List Au)×(List Ae)×Bool):=
 ob (nA a0) λr1=>
 aA (λy2=>
 cond (y2)
 (some (r1,[],[],false))
 (ob (Db a0.C a1 a3) λr5=>
 cond (r5.2.2 !=0)
 (some (r1,[],[],false))
 (ob (Gd a0.C a3.Epoch) λr6=>
 ob (Cg 0 a3) λr7=>
 ob (Do r6.1 a0.Sn r7) λr8=>
 aA (λ(y9:(List Ae)×(List Au)×Ah)=>
 ob (Gf y9.2.2.P a1 a2 a4) λr23=>
 ob (Br y9.2.2.C 5 a4) λr24=>
 aA (λy25=>
 cond (y25)
 (some (y9.2.2,y9.2.1,y9.1,false))
 (cond (decide (y9.2.1.length+[(⟨a2,r24.2.1⟩:Au)].length≤bA)) (ob (Bs r24.1 r24.2.1) λr27=>
 cond (decide (y9.1.length+[r27].length≤bA)) (some ((⟨y9.2.2.Id,y9.2.2.Cn,y9.2.2.Sn,r24.1,r23.1,y9.2.2.Tick,y9.2.2.Last,y9.2.2.Dead⟩:Ah),y9.2.1++[(⟨a2,r24.2.1⟩:Au)],y9.1++[r27],true)) none) none)) λk26=>
 cond (!r23.2)
 (k26 true)
 (k26 (r24.2.2 !=0))) λk10=>
 cond (a3.Kind==4)
 (ob (CA a0.Sn) λr11=>
 let x12:List Ae:=[(⟨6,0,0,[],r11,a3.Epoch,a3.Seq,r5.2.1,[],(⟨0,0⟩:Ai),a1⟩:Ae)]
 cond (decide ([r8].length+x12.length≤bA)) (k10 (([r8]++x12),[],(⟨r1.Id,r1.Cn,r1.Sn,r5.1,r1.P,r1.Tick,a1,r1.Dead⟩:Ah))) none)
 (aA (λ(y13:(List Ae)×(List Au)×Ah)=>
 k10 (y13.1,y13.2.1,y13.2.2)) λk14=>
 cond (a3.Kind==6)
 (ob (Ge a0.P a1 a2 r5.2.1) λr15=>
 aA (λ(y16:(List Ae)×Ah)=>
 k14 (y16.1,[],y16.2)) λk17=>
 cond (r15.2)
 (ob (CA a0.Sn) λr18=>
 cond (decide ([r8].length+[(⟨9,0,0,[],r18,0,0,r5.2.1,[],a2,a1⟩:Ae)].length≤bA)) (let x19:List Ae:=[r8]++[(⟨9,0,0,[],r18,0,0,r5.2.1,[],a2,a1⟩:Ae)]
 k17 (x19,(⟨r1.Id,r1.Cn,r1.Sn,r5.1,r15.1,r1.Tick,a1,r1.Dead⟩:Ah))) none)
 (k17 ([r8],(⟨r1.Id,r1.Cn,r1.Sn,r5.1,r1.P,r1.Tick,a1,r1.Dead⟩:Ah))))
 (aA (λ(y20:(List Ae)×(List Au)×Ah)=>
 k14 (y20.1,y20.2.1,y20.2.2)) λk21=>
 cond (a3.Kind==7)
 (ob (Kp (⟨r1.Id,r1.Cn,r1.Sn,r5.1,r1.P,r1.Tick,a1,r1.Dead⟩:Ah) a3.Epoch r5.2.1) λr22=>
 cond (decide (([]:List Au).length+r22.2.1.length≤bA)) (cond (decide ([r8].length+r22.2.2.length≤bA)) (k21 (([r8]++r22.2.2),([]++r22.2.1),r22.1)) none) none)
 (k21 ([r8],[],(⟨r1.Id,r1.Cn,r1.Sn,r5.1,r1.P,r1.Tick,a1,r1.Dead⟩:Ah)))))))) λk3=>
 ob (FD a0) λr4=>
 cond (!r4)
 (k3 true)
 (cond (a0.Dead)
 (k3 true)
 (k3 (!(MA a2))))
def Kq(a0:Ac)(a1:Int)(a2:Ai)(a3:Aa):Option (Ac×(List Au)×(List Ae)):=
 ob (ED a0.T a3.Sn) λr1=>
 aA (λy2=>
 cond (y2)
 (some (a0,[],[]))
 (ob (zE a0.D) λr5=>
 ob (Fy a0 a2 51) λr6=>
 aA (λ(y7:(List UInt8))=>
 ob (kA a0.T.L r1) λe9=>
 ob (Gg e9 a1 a2 a3 y7) λr10=>
 ob (Bt a0.T r1 r10.1) λr11=>
 aA (λ(y12:(List Ae)×Ac)=>
 some (y12.2,r10.2.1,y12.1)) λk13=>
 cond (r10.2.2.2)
 (ob (CA a3.Sn) λr14=>
 ob (CA y7) λr15=>
 ob (vE y7) λr16=>
 cond (decide ([r16].length+r10.2.2.1.length≤bA)) (cond (decide (([r16]++r10.2.2.1).length+[(⟨7,0,0,[],r14,0,0,r15,[],a2,a1⟩:Ae)].length≤bA)) (let x17:List Ae:=([r16]++r10.2.2.1)++[(⟨7,0,0,[],r14,0,0,r15,[],a2,a1⟩:Ae)]
 k13 (x17,(⟨a0.Psks,a0.J,r5.1,r11.1,a0.Cr⟩:Ac))) none) none)
 (k13 (r10.2.2.1,(⟨a0.Psks,a0.J,a0.D,r11.1,a0.Cr⟩:Ac)))) λk8=>
 cond (!r6)
 (k8 [])
 (k8 r5.2))) λk3=>
 cond (decide (r1<0))
 (k3 true)
 (ob (kA a0.T.L r1) λe4=>
 k3 e4.Dead)
def Dq(a0:Aa):=
 ob (Bg a0) λr1=>
 some (r1.length:Int)
def Dr(a0:List Al)(a1:Ai)(a2:Int):=
 ob (nA a0) λr1=>
 aA (λy2=>
 cond (y2)
 (some (r1,false))
 (cond (decide (0≤(qB a0 a1))&&decide ((qB a0 a1)<(r1.length:Int))) (ob (r1[(qB a0 a1).toNat]?) λe5=>
 cond (decide (0≤(qB a0 a1))&&decide ((qB a0 a1)<(r1.length:Int))) (ob (r1[(qB a0 a1).toNat]?) λe6=>
 let l7:List Al:=List.set r1 ((qB a0 a1).toNat) (⟨e6.A,e6.Got,iA .i64 e5.Sent a2⟩:Al)
 some (l7,true)) none) none)) λk3=>
 cond (!(gD a0))
 (k3 true)
 (cond (decide ((qB a0 a1)<0))
 (k3 true)
 (ob (Bx a0 a1) λr4=>
 k3 (!(eA a2 0 r4))))
def Ib(a0:Ac)(a1:Int)(a2:Ai)(a3:List UInt8):Option (Ac×(List Au)×(List Ae)):=
 ob (nA a0) λr1=>
 aA (λy2=>
 cond (y2)
 (some (r1,[],[]))
 (ob (Hs a0.Cr a2 (a3.length:Int)) λr5=>
 ob (Cv a3) λr6=>
 aA (λ(y7:(List Au)×(List Ae)×Ac)=>
 aA (λ(y18:(List Au)×Ac)=>
 some (y18.2,y18.1,y7.2.1)) λk19=>
 qA FU (λ(x20:(List Au)×Int×Ac) k21=>
 cond (decide (x20.2.1<(y7.1.length:Int)))
 (aA (λ(y22:(List Au)×Ac)=>
 k21 (y22.1,(iA .i64 x20.2.1 1),y22.2)) λk23=>
 cond (decide (0≤x20.2.1)&&decide (x20.2.1<(y7.1.length:Int))) (ob (y7.1[x20.2.1.toNat]?) λe24=>
 ob (Cw x20.2.2.T e24.To) λr25=>
 aA (λ(y26:Ac)=>
 cond (decide (x20.1.length+[e24].length≤bA)) (k23 ((x20.1++[e24]),y26)) none) λk27=>
 cond (!r25)
 (ob (Dq e24.F) λr28=>
 ob (Dr x20.2.2.Cr e24.To r28) λr29=>
 cond (!r29.2)
 (k23 (x20.1,x20.2.2))
 (k27 (⟨x20.2.2.Psks,x20.2.2.J,x20.2.2.D,x20.2.2.T,r29.1⟩:Ac)))
 (k27 x20.2.2)) none)
 (k19 (x20.1,x20.2.2))) ([],0,y7.2.2)) λk8=>
 cond (!r6.2)
 (k8 ([],[],(⟨r1.Psks,r1.J,r1.D,r1.T,r5⟩:Ac)))
 (aA (λ(y9:(List Au)×(List Ae)×Ac)=>
 k8 (y9.1,y9.2.1,y9.2.2)) λk10=>
 cond (r6.1.Kind==1)
 (ob (Km (⟨r1.Psks,r1.J,r1.D,r1.T,r5⟩:Ac) a1 a2 r6.1) λr11=>
 k10 (r11.2.1,r11.2.2,r11.1))
 (aA (λ(y12:(List Au)×(List Ae)×Ac)=>
 k10 (y12.1,y12.2.1,y12.2.2)) λk13=>
 cond (r6.1.Kind==3)
 (ob (Ko (⟨r1.Psks,r1.J,r1.D,r1.T,r5⟩:Ac) a1 a2 r6.1) λr14=>
 k13 (r14.2.1,r14.2.2,r14.1))
 (aA (λ(y15:(List Au)×(List Ae)×Ac)=>
 k13 (y15.1,y15.2.1,y15.2.2)) λk16=>
 cond ((gC r6.1.Kind))
 (ob (Kq (⟨r1.Psks,r1.J,r1.D,r1.T,r5⟩:Ac) a1 a2 r6.1) λr17=>
 k16 (r17.2.1,r17.2.2,r17.1))
 (k16 ([],[],(⟨r1.Psks,r1.J,r1.D,r1.T,r5⟩:Ac)))))))) λk3=>
 ob (GC a0) λr4=>
 cond (!r4)
 (k3 true)
 (cond (!(eA a1 0 1000000))
 (k3 true)
 (k3 (!(MA a2))))
def Ic(a0:List Au):=
 aA (λ(y1:(List Am))=>
 some y1) λk2=>
 qA FU (λ(x3:(List Am)×Int) k4=>
 cond (decide (x3.2<(a0.length:Int)))
 (ob (kA a0 x3.2) λe5=>
 let r6:Ai:=tE
 ob (Fw r6 e5.To e5.F) λr7=>
 cond (decide (x3.1.length+[r7].length≤bA)) (k4 ((x3.1++[r7]),(iA .i64 x3.2 1))) none)
 (k2 x3.1)) ([],0)
def Ev(a0:List UInt8)(a1:Int)(a2:Aa):=
 aA (λy1=>
 cond (y1)
 (some ((⟨0,0,[],[],0,[],[],0,0,[],[]⟩:Aa),false))
 (ob (Dn a0 a1 a2.Cn a2.Sn a2.Tick a2.Cookie) λr4=>
 cond ((r4.length:Int)==0)
 (some ((⟨0,0,[],[],0,[],[],0,0,[],[]⟩:Aa),false))
 (ob (CA a2.Cn) λr5=>
 ob (CA a2.Sn) λr6=>
 ob (CA a2.Cookie) λr7=>
 some ((⟨3,a1,r5,r6,a2.Tick,r7,r4,0,0,[],[]⟩:Aa),true)))) λk2=>
 cond (a2.Kind !=2)
 (k2 true)
 (ob (TC a2) λr3=>
 k2 (!r3))
def Kr(a0:Ad)(a1:Int)(a2:Aa):=
 ob (nA a0) λr1=>
 ob (Ev a0.Psk a0.Id a2) λr2=>
 cond (!r2.2)
 (some (r1,[],[]))
 (ob (Bf a1) λr3=>
 ob (Ga a0.Psk a0.Cn a2.Sn 0) λr4=>
 ob (Gb 0 a2.Sn r4) λr5=>
 ob (CA a0.Cn) λr6=>
 ob (CA a2.Sn) λr7=>
 ob (Bh a0.Psk) λr8=>
 ob (Cy r2.1.Id r2.1.Cn r2.1.Sn r2.1.Tick r2.1.Cookie) λr9=>
 ob (Eq r8 r9) λr10=>
 ob (nA r2.1) λr11=>
 let x12:List Ae:=[(⟨2,a0.Id,0,r6,r7,0,0,[],[],(⟨0,0⟩:Ai),a1⟩:Ae),r10]
 some ((⟨r1.Id,r1.Psk,r1.At,2,r1.Cn,r2.1,r5,r3,r1.R,r1.Last⟩:Ad),[r11],x12))
def Ks(a0:Ad)(a1:Int)(a2:Aa):Option (Ad×(List Aa)×(List Ae)):=
 ob (nA a0) λr1=>
 ob (Db a0.C a1 a2) λr2=>
 cond (r2.2.2 !=0)
 (some (r1,[],[]))
 (ob (Gd a0.C a2.Epoch) λr3=>
 ob (Cg 1 a2) λr4=>
 ob (Do r3.1 a2.Sn r4) λr5=>
 aA (λ(y6:(List Ae)×Ad)=>
 aA (λ(y12:(List Ae)×Ad)=>
 aA (λ(y17:(List Ae))=>
 cond (a2.Kind !=5)
 (some (y12.2,[],y17))
 (ob (Br r2.1 6 r2.2.1) λr21=>
 cond (r21.2.2 !=0)
 (some (y12.2,[],y17))
 (ob (CA r21.2.1.Sn) λr22=>
 ob (Bs r21.1 r21.2.1) λr23=>
 let x24:List Ae:=[r23,(⟨8,0,0,[],r22,r21.2.1.Epoch,0,r2.2.1,[],(⟨0,0⟩:Ai),0⟩:Ae)]
 cond (decide (y17.length+x24.length≤bA)) (some ((⟨y12.2.Id,y12.2.Psk,y12.2.At,y12.2.St,y12.2.Cn,y12.2.Fin,r21.1,y12.2.T,y12.2.R,y12.2.Last⟩:Ad),[r21.2.1],y17++x24)) none))) λk18=>
 cond (a2.Kind==4)
 (ob (CA a2.Sn) λr19=>
 let x20:List Ae:=[(⟨6,0,1,[],r19,a2.Epoch,a2.Seq,r2.2.1,[],(⟨0,0⟩:Ai),a1⟩:Ae)]
 cond (decide (y12.1.length+x20.length≤bA)) (k18 (y12.1++x20)) none)
 (k18 y12.1)) λk13=>
 cond (r2.1.Cur.N !=a0.C.Cur.N)
 (ob (CA r2.1.Sn) λr14=>
 ob (CA r2.1.Cur.Key) λr15=>
 let x16:List Ae:=[(⟨10,0,0,[],r14,r2.1.Cur.N,0,[],r15,(⟨0,0⟩:Ai),0⟩:Ae)]
 cond (decide (y6.1.length+x16.length≤bA)) (k13 ((y6.1++x16),(⟨y6.2.Id,y6.2.Psk,y6.2.At,y6.2.St,y6.2.Cn,y6.2.Fin,y6.2.C,y6.2.T,(⟨false,0,0,0⟩:Av),y6.2.Last⟩:Ad))) none)
 (k13 (y6.1,y6.2))) λk7=>
 cond (a0.St==2)
 (ob (CA a0.Cn) λr8=>
 ob (CA r2.1.Sn) λr9=>
 ob (CA a0.C.Cur.Key) λr10=>
 let x11:List Ae:=[(⟨3,a0.Id,0,r8,r9,0,0,[],r10,(⟨0,0⟩:Ai),0⟩:Ae)]
 cond (decide ([r5].length+x11.length≤bA)) (k7 (([r5]++x11),(⟨r1.Id,r1.Psk,r1.At,3,r1.Cn,(⟨0,0,[],[],0,[],[],0,0,[],[]⟩:Aa),r2.1,(⟨false,0,0,0⟩:Av),r1.R,a1⟩:Ad))) none)
 (k7 ([r5],(⟨r1.Id,r1.Psk,r1.At,r1.St,r1.Cn,r1.Fin,r2.1,r1.T,r1.R,a1⟩:Ad))))
def Ie(a0:Ad)(a1:Int)(a2:Aa):Option (Ad×(List Aa)×(List Ae)):=
 aA (λy1=>
 cond (y1)
 (ob (nA a0) λr5=>
 some (r5,[],[]))
 (aA (λy6=>
 cond (y6)
 (ob (Kr a0 a1 a2) λr9=>
 some (r9.1,r9.2.1,r9.2.2))
 (aA (λy10=>
 cond (y10)
 (ob (Ks a0 a1 a2) λr12=>
 some (r12.1,r12.2.1,r12.2.2))
 (ob (nA a0) λr13=>
 some (r13,[],[]))) λk11=>
 cond ((gC a2.Kind))
 (cond (a0.St==2)
 (k11 true)
 (k11 (a0.St==3)))
 (k11 false))) λk7=>
 cond (a2.Kind==2)
 (cond (a0.St==1)
 (ob (BB a2.Cn a0.Cn) λr8=>
 k7 r8)
 (k7 false))
 (k7 false))) λk2=>
 ob (ID a0) λr3=>
 cond (!r3)
 (k2 true)
 (cond (!(eA a1 0 1000000))
 (k2 true)
 (ob (TC a2) λr4=>
 k2 (!r4)))
def Gh(a0:Ab)(a1:Int)(a2:Ai)(a3:List UInt8):Option (Ab×(List Am)):=
 ob (nA a0) λr1=>
 aA (λy2=>
 cond (y2)
 (some (r1,[]))
 (cond (a1==0)
 (ob (Ib a0.S a0.Now a2 a3) λr5=>
 cond (decide (r1.Notes.length+r5.2.2.length≤bA)) (ob (Ic r5.2.1) λr6=>
 some ((⟨r1.Now,r1.Clients,r5.1,r1.D,r1.Seen,r1.Known,r1.Notes++r5.2.2⟩:Ab),r6)) none)
 (ob (Cv a3) λr7=>
 cond (!r7.2)
 (some (r1,[]))
 (ob (kA a0.Clients (wA .i64 a1 1)) λe8=>
 ob (Ie e8 a0.Now r7.1) λr9=>
 cond (decide (0≤wA .i64 a1 1)&&decide (wA .i64 a1 1<(r1.Clients.length:Int))) (ob (r1.Clients[(wA .i64 a1 1).toNat]?) λe10=>
 cond (decide (r1.Notes.length+r9.2.2.length≤bA)) (ob (Fx r9.1 r9.2.1) λr11=>
 some ((⟨r1.Now,List.set r1.Clients ((wA .i64 a1 1).toNat) r9.1,r1.S,r1.D,r1.Seen,r1.Known,r1.Notes++r9.2.2⟩:Ab),r11)) none) none)))) λk3=>
 ob (bE a0) λr4=>
 cond (!r4)
 (k3 true)
 (cond (!(eA a1 0 2))
 (k3 true)
 (k3 (!(MA a2))))
def Ds(a0:Ah)(a1:List UInt8):Option (Ah×(List Au)×(List Ae)×Int):=
 ob (nA a0) λr1=>
 aA (λy2=>
 cond (y2)
 (some (r1,[],[],1))
 (cond (a0.Dead)
 (some (r1,[],[],6))
 (ob (Br a0.C 4 a1) λr5=>
 cond (r5.2.2 !=0)
 (some (r1,[],[],r5.2.2))
 (ob (CA r5.2.1.Sn) λr6=>
 ob (CA a1) λr7=>
 ob (Bs r5.1 r5.2.1) λr8=>
 let x9:List Ae:=[r8,(⟨5,0,1,[],r6,r5.2.1.Epoch,r5.2.1.Seq,r7,[],(⟨0,0⟩:Ai),0⟩:Ae)]
 some ((⟨r1.Id,r1.Cn,r1.Sn,r5.1,r1.P,r1.Tick,r1.Last,r1.Dead⟩:Ah),[(⟨a0.P.At,r5.2.1⟩:Au)],x9,0))))) λk3=>
 ob (FD a0) λr4=>
 cond (!r4)
 (k3 true)
 (k3 (decide ((a1.length:Int)>40)))
def Sg(a0:Ac)(a1:Int)(a2:Int)(a3:List UInt8):Option (Ac×(List Au)×(List Ae)×Int):=
 ob (nA a0) λr1=>
 aA (λy2=>
 cond (y2)
 (some (r1,[],[],1))
 (aA (λy5=>
 cond (y5)
 (some (r1,[],[],8))
 (ob (kA a0.T.L a2) λe7=>
 ob (Ds e7 a3) λr8=>
 cond (r8.2.2.2 !=0)
 (some (r1,[],[],r8.2.2.2))
 (ob (Bt a0.T a2 r8.1) λr9=>
 some ((⟨r1.Psks,r1.J,r1.D,r9.1,r1.Cr⟩:Ac),r8.2.1,r8.2.2.1,0)))) λk6=>
 cond (decide (a2<0))
 (k6 true)
 (k6 (decide (a2≥(a0.T.L.length:Int)))))) λk3=>
 ob (GC a0) λr4=>
 cond (!r4)
 (k3 true)
 (k3 (!(eA a1 0 1000000)))
def Sh(a0:Ac):=
 ob (nA a0) λr1=>
 aA (λy2=>
 cond (y2)
 (some (r1,[]))
 (ob (zE a0.D) λr5=>
 let r6:Ba:=XG r5.2;let r7:Ao:=FF a0.T.Cap
 ob (vE r5.2) λr8=>
 ob (CA r6.Secret) λr9=>
 let x10:List Ae:=[r8,(⟨12,0,0,[],[],0,0,[],r9,(⟨0,0⟩:Ai),0⟩:Ae)]
 some ((⟨r1.Psks,r6,r5.1,r7,[]⟩:Ac),x10))) λk3=>
 ob (GC a0) λr4=>
 cond (!r4)
 (k3 true)
 (k3 (a0.D.N==10000))
def Ew(a0:Ah):=
 ob (FD a0) λr1=>
 cond (!r1)
 (ob (nA a0) λr2=>
 some r2)
 (ob (CA a0.Cn) λr3=>
 ob (CA a0.Sn) λr4=>
 some (⟨a0.Id,r3,r4,(⟨0,[],(⟨0,[],0,(⟨0,[]⟩:Ap)⟩:Aw),(⟨0,[],0,(⟨0,[]⟩:Ap)⟩:Aw),false,0,[]⟩:Ak),(⟨(⟨0,0⟩:Ai),[]⟩:Aj),a0.Tick,0,true⟩:Ah))
def Si(a0:Ac)(a1:Int):Option (Ac×(List Ae)×Int):=
 ob (nA a0) λr1=>
 ob (GC a0) λr2=>
 cond (!r2)
 (some (r1,[],1))
 (aA (λy3=>
 cond (y3)
 (some (r1,[],8))
 (ob (kA a0.T.L a1) λe6=>
 ob (Ew e6) λr7=>
 ob (Bt a0.T a1 r7) λr8=>
 ob (Ch e6.Id 1 e6.Sn) λr9=>
 some ((⟨r1.Psks,r1.J,r1.D,r8.1,r1.Cr⟩:Ac),[r9],0))) λk4=>
 cond (decide (a1<0))
 (k4 true)
 (cond (decide (a1≥(a0.T.L.length:Int)))
 (k4 true)
 (ob (kA a0.T.L a1) λe5=>
 k4 e5.Dead)))
def Sj(a0:Ak):=
 ob (sC a0) λr1=>
 cond (!r1)
 (some [])
 (aA (λ(y2:(List (List UInt8)))=>
 ob (CA a0.Cur.Key) λr5=>
 cond (decide (y2.length+[r5].length≤bA)) (aA (λ(y6:(List (List UInt8)))=>
 some y6) λk7=>
 cond (decide ((a0.Next.length:Int)>0))
 (ob (CA a0.Next) λr8=>
 cond (decide ((y2++[r5]).length+[r8].length≤bA)) (k7 ((y2++[r5])++[r8])) none)
 (k7 (y2++[r5]))) none) λk3=>
 cond (a0.HasOld)
 (ob (CA a0.Old.Key) λr4=>
 cond (decide (([]:List (List UInt8)).length+[r4].length≤bA)) (k3 ([]++[r4])) none)
 (k3 []))
def Dt(a0:Av)(a1:Int):Option (Av×Int):=
 ob (Co a0 a1) λr1=>
 cond (!r1)
 (some (a0,0))
 (cond (a0.Tries==5)
 (some ((⟨false,0,0,0⟩:Av),2))
 (let x2:Int:=iA .i64 a1 (UD (YB .i64 2 a0.Wait) 8)
 some ((⟨true,x2,UD (YB .i64 2 a0.Wait) 8,iA .i64 a0.Tries 1⟩:Av),1)))
def Kt(a0:Ad)(a1:Int):Option (Ad×(List Aa)×(List Ae)):=
 cond (decide ((wA .i64 a1 a0.Last)>60))
 (ob (Dm a0) λr1=>
 ob (Ch a0.Id 0 a0.C.Sn) λr2=>
 some (r1,[],[r2]))
 (ob (nA a0) λr3=>
 ob (Bv a0.C a1) λr4=>
 ob (Dt a0.R a1) λr5=>
 cond (r5.2==0)
 (some ((⟨r3.Id,r3.Psk,r3.At,r3.St,r3.Cn,r3.Fin,r4,r3.T,r5.1,r3.Last⟩:Ad),[],[]))
 (aA (λ(y6:Ad)=>
 ob (Fv y6.C) λr9=>
 cond (r9.2.2 !=0)
 (some (y6,[],[]))
 (ob (Bs r9.1 r9.2.1) λr10=>
 some ((⟨y6.Id,y6.Psk,y6.At,y6.St,y6.Cn,y6.Fin,r9.1,y6.T,y6.R,y6.Last⟩:Ad),[r9.2.1],[r10]))) λk7=>
 cond (r5.2==2)
 (ob (Bf a1) λr8=>
 k7 (⟨r3.Id,r3.Psk,r3.At,r3.St,r3.Cn,r3.Fin,r4,r3.T,r8,r3.Last⟩:Ad))
 (k7 (⟨r3.Id,r3.Psk,r3.At,r3.St,r3.Cn,r3.Fin,r4,r3.T,r5.1,r3.Last⟩:Ad))))
def If(a0:Ad)(a1:Int):Option (Ad×(List Aa)×(List Ae)):=
 ob (nA a0) λr1=>
 aA (λy2=>
 cond (y2)
 (some (r1,[],[]))
 (cond (a0.St==3)
 (ob (Kt a0 a1) λr5=>
 some (r5.1,r5.2.1,r5.2.2))
 (ob (Dt a0.T a1) λr6=>
 cond (r6.2==2)
 (ob (Dm a0) λr7=>
 ob (CA a0.Cn) λr8=>
 let x9:List Ae:=[(⟨17,a0.Id,0,r8,[],0,0,[],[],(⟨0,0⟩:Ai),0⟩:Ae)]
 some (r7,[],x9))
 (aA (λy10=>
 cond (y10)
 (ob (Fu a0) λr12=>
 some ((⟨r1.Id,r1.Psk,r1.At,r1.St,r1.Cn,r1.Fin,r1.C,r6.1,r1.R,r1.Last⟩:Ad),[r12],[]))
 (cond (r6.2==1)
 (ob (nA a0.Fin) λr13=>
 some ((⟨r1.Id,r1.Psk,r1.At,r1.St,r1.Cn,r1.Fin,r1.C,r6.1,r1.R,r1.Last⟩:Ad),[r13],[]))
 (some ((⟨r1.Id,r1.Psk,r1.At,r1.St,r1.Cn,r1.Fin,r1.C,r6.1,r1.R,r1.Last⟩:Ad),[],[])))) λk11=>
 cond (r6.2==1)
 (k11 (a0.St==1))
 (k11 false))))) λk3=>
 ob (ID a0) λr4=>
 cond (!r4)
 (k3 true)
 (cond (!(eA a1 0 1000000))
 (k3 true)
 (k3 (a0.St==0)))
def Dc(a0:Aj)(a1:Int):=
 aA (λy1=>
 cond (y1)
 (ob (nA a0) λr3=>
 some r3)
 (ob (Dp a0 a1) λr4=>
 some r4)) λk2=>
 cond (!(qC a0))
 (k2 true)
 (k2 (!(eA a1 0 1000000)))
def Ig(a0:Ah)(a1:Int):=
 ob (nA a0) λr1=>
 aA (λy2=>
 cond (y2)
 (some r1)
 (cond (decide ((wA .i64 a1 a0.Last)>60))
 (ob (Ew a0) λr5=>
 some r5)
 (ob (Bv a0.C a1) λr6=>
 ob (Dc a0.P a1) λr7=>
 some (⟨r1.Id,r1.Cn,r1.Sn,r6,r7,r1.Tick,r1.Last,r1.Dead⟩:Ah)))) λk3=>
 ob (FD a0) λr4=>
 cond (!r4)
 (k3 true)
 (cond (a0.Dead)
 (k3 true)
 (k3 (!(eA a1 0 1000000))))
def Ih(a0:Ao)(a1:Int):=
 aA (λy1=>
 cond (y1)
 (ob (nA a0) λr4=>
 some r4)
 (aA (λ(y5:Ao)=>
 some y5) λk6=>
 qA FU (λ(x7:Int×Ao) k8=>
 cond (decide (x7.1<(a0.L.length:Int)))
 (ob (kA a0.L x7.1) λe9=>
 ob (Ig e9 a1) λr10=>
 aA (λ(y11:Bool)=>
 aA (λ(y13:Ao)=>
 k8 ((iA .i64 x7.1 1),y13)) λk14=>
 cond (y11)
 (cond (decide (x7.2.L.length+[r10].length≤bA)) (k14 (⟨x7.2.Cap,x7.2.L++[r10]⟩:Ao)) none)
 (k14 x7.2)) λk12=>
 cond (!r10.Dead)
 (k12 true)
 (k12 (decide ((wA .i64 a1 r10.Tick)≤10))))
 (k6 x7.2)) (0,(⟨a0.Cap,[]⟩:Ao)))) λk2=>
 ob (iG a0) λr3=>
 cond (!r3)
 (k2 true)
 (k2 (!(eA a1 0 1000000)))
def Ii(a0:Ac)(a1:Int):=
 ob (nA a0) λr1=>
 aA (λy2=>
 cond (y2)
 (some (r1,[]))
 (ob (Ih a0.T a1) λr5=>
 aA (λ(y6:(List Ae))=>
 some ((⟨r1.Psks,r1.J,r1.D,r5,r1.Cr⟩:Ac),y6)) λk7=>
 qA FU (λ(x8:(List Ae)×Int) k9=>
 cond (decide (x8.2<(a0.T.L.length:Int)))
 (ob (kA a0.T.L x8.2) λe10=>
 ob (ED r5 e10.Sn) λr11=>
 aA (λ(y12:Bool)=>
 aA (λ(y15:(List Ae))=>
 k9 (y15,(iA .i64 x8.2 1))) λk16=>
 cond (y12)
 (ob (Ch e10.Id 1 e10.Sn) λr17=>
 cond (decide (x8.1.length+[r17].length≤bA)) (k16 (x8.1++[r17])) none)
 (k16 x8.1)) λk13=>
 cond (!e10.Dead)
 (cond (decide (r11<0))
 (k13 true)
 (cond (decide (0≤r11)&&decide (r11<(r5.L.length:Int))) (ob (r5.L[r11.toNat]?) λe14=>
 k13 e14.Dead) none))
 (k13 false))
 (k7 x8.1)) ([],0))) λk3=>
 ob (GC a0) λr4=>
 cond (!r4)
 (k3 true)
 (k3 (!(eA a1 0 1000000)))
def Du(a0:Ab):Option (Ab×(List Am)):=
 ob (nA a0) λr1=>
 aA (λy2=>
 cond (y2)
 (some (r1,[]))
 (aA (λ(y5:(List Am)×Ab)=>
 ob (Ii y5.2.S y5.2.Now) λr13=>
 cond (decide (y5.2.Notes.length+r13.2.length≤bA)) (some ((⟨y5.2.Now,y5.2.Clients,r13.1,y5.2.D,y5.2.Seen,y5.2.Known,y5.2.Notes++r13.2⟩:Ab),y5.1)) none) λk6=>
 qA FU (λ(x7:(List Am)×Int×Ab) k8=>
 cond (decide (x7.2.1<(r1.Clients.length:Int)))
 (cond (decide (0≤x7.2.1)&&decide (x7.2.1<(x7.2.2.Clients.length:Int))) (ob (x7.2.2.Clients[x7.2.1.toNat]?) λe9=>
 ob (If e9 x7.2.2.Now) λr10=>
 cond (decide (0≤x7.2.1)&&decide (x7.2.1<(x7.2.2.Clients.length:Int))) (ob (x7.2.2.Clients[x7.2.1.toNat]?) λe11=>
 cond (decide (x7.2.2.Notes.length+r10.2.2.length≤bA)) (ob (Fx r10.1 r10.2.1) λr12=>
 cond (decide (x7.1.length+r12.length≤bA)) (k8 ((x7.1++r12),(iA .i64 x7.2.1 1),(⟨x7.2.2.Now,List.set x7.2.2.Clients x7.2.1.toNat r10.1,x7.2.2.S,x7.2.2.D,x7.2.2.Seen,x7.2.2.Known,x7.2.2.Notes++r10.2.2⟩:Ab))) none) none) none) none)
 (k6 (x7.1,x7.2.2))) ([],0,(⟨iA .i64 r1.Now 1,r1.Clients,r1.S,r1.D,r1.Seen,r1.Known,r1.Notes⟩:Ab)))) λk3=>
 ob (bE a0) λr4=>
 cond (!r4)
 (k3 true)
 (k3 (a0.Now==1000000))
def Sk(a0:Ax)(a1:Int):=
 ob (CA a0.Seed) λr1=>
 aA (λ(y2:Bool)=>
 aA (λ(y4:Ax)=>
 some y4) λk5=>
 cond (y2)
 (k5 (⟨r1,a1⟩:Ax))
 (k5 (⟨r1,a0.N⟩:Ax))) λk3=>
 cond ((BC a0))
 (k3 (eA a1 0 10000))
 (k3 false)
def Ij(a0:List Am)(a1:Am):=
 cond (decide (([]:List Am).length+a0.length≤bA)) (cond (decide (([]++a0).length+[a1].length≤bA)) (ob (nA (([]++a0)++[a1])) λr1=>
 cond (!(WD r1))
 (ob (nA a0) λr2=>
 some r2)
 (some r1)) none) none
def Ck(a0:Ab)(a1:List Am):=
 ob (nA a0) λr1=>
 aA (λ(y2:Ab)=>
 some y2) λk3=>
 qA FU (λ(x4:Int×Ab) k5=>
 cond (decide (x4.1<(a1.length:Int)))
 (ob (kA a1 x4.1) λe6=>
 ob (Ij x4.2.Seen e6) λr7=>
 k5 ((iA .i64 x4.1 1),(⟨x4.2.Now,x4.2.Clients,x4.2.S,x4.2.D,r7,x4.2.Known,x4.2.Notes⟩:Ab)))
 (k3 x4.2)) (0,r1)
end
end Go.D
namespace Go.D
def zaG.ok{x}(_:xA [.v .Win] x){r}:nA (α:=Ap) x=some r→Rw x=some r:=UA λh=>zhp x h
def kU.ok{x}(_:xA [.v .Ep] x){r}:nA (α:=Aw) x=some r→Pu x=some r:=UA λh=>by
 rw[fL]at h;simp(disch:=omega) only[Pu,CA,nA,HA]
def IT.ok{x}(_:xA [.v .Chan] x){r}:nA (α:=Ak) x=some r→Pv x=some r:=UA λh=>by
 rw[xH]at h;simp(disch:=omega) only[Pv,CA,nA,HA]
def znD(x:Aj)(h:wt x≤bA):Ou x=some x:=by
 have hw:wt x=wt x.Cands:=by rw[II,IE];omega
 rw[hw]at h;unfold Ou;simp only[aA];refine TJ x.Cands h (λi acc=>(i,(⟨x.At,acc⟩:Aj))) (λacc=>some (⟨x.At,acc⟩:Aj)) (λi hi acc k=>?_) (λacc k=>?_)
 ·have kW:((i:Int)<(x.Cands.length:Int)):=by omega
  have hm:=rE hi;rw[lV]at hm;simp only[decide_eq_true kW,cond_true,HB hi,YA];rw[CA,HA (by omega)];rfl
 ·have kW:¬((x.Cands.length:Int)<(x.Cands.length:Int)):=by omega
  simp only[decide_eq_false kW,cond_false]
def qP.ok{x}(_:xA [.v .Paths] x){r}:nA (α:=Aj) x=some r→Ou x=some r:=UA λh=>znD x h
def NT.ok{x}(_:xA [.v .Sess] x){r}:nA (α:=Ah) x=some r→Pw x=some r:=UA λh=>by
 rw[VK]at h;simp(disch:=omega) only[Pw,CA,nA,HA]
def zaF.ok{x}(_:xA [.v .Tab] x){r}:nA (α:=Ao) x=some r→Rx x=some r:=UA λh=>zhc x h
def kT.ok{x}(_:xA [.sl .Credit] x){r}:nA (α:=List Al) x=some r→Px x=some r:=UA λh=>by
 unfold Px;rw[YD (Nat.le_trans (JB _) h)];rfl
def nT.ok{x}(_:xA [.v .Server] x){r}:nA (α:=Ac) x=some r→Py x=some r:=UA λh=>by
 rw[UL,KS,LI]at h;simp(disch:=omega) only[Py,CA,MR,nA,HA]
def BT.ok{x}(_:xA [.v .Frame] x){r}:nA (α:=Aa) x=some r→Pz x=some r:=UA λh=>by
 rw[uH]at h;simp(disch:=omega) only[Pz,CA,nA,HA]
def qT.ok{x}(_:xA [.v .Client] x){r}:nA (α:=Ad) x=some r→Qa x=some r:=UA λh=>by
 rw[cM]at h;simp(disch:=omega) only[Qa,CA,nA,HA]
def znA(x:List Am)(h:wt x≤bA):Ov x=some x:=by
 unfold Ov;simp only[aA];refine TJ x h (λi acc=>(acc,i)) (λacc=>some acc) (λi hi acc k=>?_) (λacc k=>?_)
 ·have kW:((i:Int)<(x.length:Int)):=by omega
  have hm:=rE hi;rw[kV]at hm;simp only[decide_eq_true kW,cond_true,HB hi,YA];rw[CA,HA (by omega)];rfl
 ·have kW:¬((x.length:Int)<(x.length:Int)):=by omega
  simp only[decide_eq_false kW,cond_false]
def cP.ok{x}(_:xA [.sl .Wire] x){r}:nA (α:=List Am) x=some r→Ov x=some r:=UA λh=>znA x h
def LT.ok{x}(_:xA [.v .Note] x){r}:nA (α:=Ae) x=some r→Qb x=some r:=UA λh=>by
 rw[PI]at h;simp(disch:=omega) only[Qb,CA,nA,HA]
def zaj.ok{x}(_:xA [.sl .Note] x){r}:nA (α:=List Ae) x=some r→Ry x=some r:=UA λh=>zhw x h
def DT.ok{x}(_:xA [.v .World] x){r}:nA (α:=Ab) x=some r→Qc x=some r:=UA λh=>by
 obtain⟨w1,w2,w3,w4,w5,w6,w7⟩:=x;rw[KI,LI]at h;dsimp only at h;unfold Qc;simp(disch:=omega) only[CA,MR,nA,HA,aA];refine TJ w2 (by omega) (λi acc=>(i,(⟨w1,acc,w3,w4,[],[],[]⟩:Ab))) (λacc=>some (⟨w1,acc,w3,w4,w5,w6,w7⟩:Ab)) (λi hi acc k=>?_) (λacc k=>?_)
 ·have kW:((i:Int)<(w2.length:Int)):=by omega
  have hm:=rE hi;simp only[decide_eq_true kW,cond_true,HB hi,YA];rw[HA (by omega)];rfl
 ·have kW:¬((w2.length:Int)<(w2.length:Int)):=by omega
  simp only[decide_eq_false kW,cond_false]
end Go.D
