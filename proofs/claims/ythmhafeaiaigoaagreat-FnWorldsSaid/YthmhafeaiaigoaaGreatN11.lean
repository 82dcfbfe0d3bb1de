/-
 Sizes of the program's data.
-/
import Derived.Test.YthmhafeaiaigoaaGreatN12
import Derived.Test.YthmhafeaiaigoaaGreatN10
set_option linter.all false
namespace Go.D
end Go.D
namespace Go.D
end Go.D
namespace Go.D
open Option renaming bind→ob
noncomputable section
def Sj(a0:Aq):=
 cond (decide (([]:List Int).length+a0.Bits.length≤bA)) (some (⟨a0.Top,[]++a0.Bits⟩:Aq)) none
def Qg(a0:Ax):=
 ob (BA a0.Key) λr1=>
 ob (nA a0.Win) λr2=>
 some (⟨a0.N,r1,a0.Seq,r2⟩:Ax)
def Qh(a0:Ak):=
 ob (BA a0.Sn) λr1=>
 ob (BA a0.Next) λr2=>
 ob (nA a0.Cur) λr3=>
 ob (nA a0.Old) λr4=>
 some (⟨a0.Role,r1,r3,r4,a0.HasOld,a0.Until,r2⟩:Ak)
def Pj(a0:Aj):=
 aA (λ(y1:Aj)=>
 some y1) λk2=>
 sA FU (λ(x3:Int×Aj) k4=>
 cond (decide (x3.1<(a0.Cands.length:Int)))
 (ob (kA a0.Cands x3.1) λe5=>
 ob (BA e5.Draw) λr6=>
 cond (decide (x3.2.Cands.length+[(⟨e5.A,r6,e5.Until⟩:Az)].length≤bA)) (k4 ((iA .i64 x3.1 1),(⟨x3.2.At,x3.2.Cands++[(⟨e5.A,r6,e5.Until⟩:Az)]⟩:Aj))) none)
 (k2 x3.2)) (0,(⟨a0.At,[]⟩:Aj))
def Qi(a0:Ai):=
 ob (BA a0.Cn) λr1=>
 ob (BA a0.Sn) λr2=>
 ob (nA a0.C) λr3=>
 ob (nA a0.P) λr4=>
 some (⟨a0.Id,r1,r2,r3,r4,a0.Tick,a0.Last,a0.Dead⟩:Ai)
def Sk(a0:Ap):=
 aA (λ(y1:Ap)=>
 some y1) λk2=>
 sA FU (λ(x3:Int×Ap) k4=>
 cond (decide (x3.1<(a0.L.length:Int)))
 (ob (kA a0.L x3.1) λe5=>
 ob (nA e5) λr6=>
 cond (decide (x3.2.L.length+[r6].length≤bA)) (k4 ((iA .i64 x3.1 1),(⟨x3.2.Cap,x3.2.L++[r6]⟩:Ap))) none)
 (k2 x3.2)) (0,(⟨a0.Cap,[]⟩:Ap))
def Qj(a0:List Al):=
 cond (decide (([]:List Al).length+a0.length≤bA)) (some ([]++a0)) none
def Qk(a0:Ac):=
 ob (oS a0.Psks) λr1=>
 ob (BA a0.J.Secret) λr2=>
 ob (BA a0.D.Seed) λr3=>
 ob (nA a0.T) λr4=>
 ob (nA a0.Cr) λr5=>
 some (⟨r1,(⟨r2⟩:Ba),(⟨r3,a0.D.N⟩:Au),r4,r5⟩:Ac)
def Ql(a0:Ab):=
 ob (BA a0.Cn) λr1=>
 ob (BA a0.Sn) λr2=>
 ob (BA a0.Cookie) λr3=>
 ob (BA a0.Proof) λr4=>
 ob (BA a0.Body) λr5=>
 ob (BA a0.Tag) λr6=>
 some (⟨a0.Kind,a0.Id,r1,r2,a0.Tick,r3,r4,a0.Epoch,a0.Seq,r5,r6⟩:Ab)
def Qm(a0:Ad):=
 ob (BA a0.Psk) λr1=>
 ob (BA a0.Cn) λr2=>
 ob (nA a0.Fin) λr3=>
 ob (nA a0.C) λr4=>
 some (⟨a0.Id,r1,a0.At,a0.St,r2,r3,r4,a0.T,a0.R,a0.Last⟩:Ad)
def Pk(a0:List Am):=
 aA (λ(y1:(List Am))=>
 some y1) λk2=>
 sA FU (λ(x3:(List Am)×Int) k4=>
 cond (decide (x3.2<(a0.length:Int)))
 (ob (kA a0 x3.2) λe5=>
 ob (BA e5.B) λr6=>
 cond (decide (x3.1.length+[(⟨e5.From,e5.To,r6⟩:Am)].length≤bA)) (k4 ((x3.1++[(⟨e5.From,e5.To,r6⟩:Am)]),(iA .i64 x3.2 1))) none)
 (k2 x3.1)) ([],0)
def Qn(a0:Ae):=
 ob (BA a0.Cn) λr1=>
 ob (BA a0.Sn) λr2=>
 ob (BA a0.Body) λr3=>
 ob (BA a0.Key) λr4=>
 some (⟨a0.Kind,a0.Id,a0.Role,r1,r2,a0.Epoch,a0.Seq,r3,r4,a0.A,a0.Now⟩:Ae)
def Sl(a0:List Ae):=
 aA (λ(y1:(List Ae))=>
 some y1) λk2=>
 sA FU (λ(x3:(List Ae)×Int) k4=>
 cond (decide (x3.2<(a0.length:Int)))
 (ob (kA a0 x3.2) λe5=>
 ob (nA e5) λr6=>
 cond (decide (x3.1.length+[r6].length≤bA)) (k4 ((x3.1++[r6]),(iA .i64 x3.2 1))) none)
 (k2 x3.1)) ([],0)
def Qo(a0:Aa):=
 ob (nA a0.S) λr1=>
 ob (BA a0.D.Seed) λr2=>
 aA (λ(y3:Aa)=>
 ob (nA a0.Seen) λr9=>
 ob (oS a0.Known) λr10=>
 ob (nA a0.Notes) λr11=>
 some (⟨y3.Now,y3.Clients,y3.S,y3.D,r9,r10,r11⟩:Aa)) λk4=>
 sA FU (λ(x5:Int×Aa) k6=>
 cond (decide (x5.1<(a0.Clients.length:Int)))
 (ob (kA a0.Clients x5.1) λe7=>
 ob (nA e7) λr8=>
 cond (decide (x5.2.Clients.length+[r8].length≤bA)) (k6 ((iA .i64 x5.1 1),(⟨x5.2.Now,x5.2.Clients++[r8],x5.2.S,x5.2.D,x5.2.Seen,x5.2.Known,x5.2.Notes⟩:Aa))) none)
 (k4 x5.2)) (0,(⟨a0.Now,[],r1,(⟨r2,a0.D.N⟩:Au),[],[],[]⟩:Aa))
def Fv(a0:Ad):=
 ob (BA a0.Cn) λr1=>
 some (⟨1,a0.Id,r1,[],0,[],[],0,0,[],[]⟩:Ab)
def Ko(a0:Ad)(a1:Int)(a2:List UInt8):Option (Ad×(List Ab)×(List Ae)×Int):=
 ob (nA a0) λr1=>
 aA (λy2=>
 cond (y2)
 (some (r1,[],[],1))
 (cond (a0.St !=0)
 (some (r1,[],[],6))
 (ob (BA a2) λr5=>
 ob (Bf a1) λr6=>
 ob (BA a2) λr7=>
 ob (Fv (⟨r1.Id,r1.Psk,r1.At,1,r5,r1.Fin,r1.C,r6,r1.R,r1.Last⟩:Ad)) λr8=>
 let x9:List Ae:=[(⟨1,a0.Id,0,r7,[],0,0,[],[],(⟨0,0⟩:Ah),a1⟩:Ae)]
 some ((⟨r1.Id,r1.Psk,r1.At,1,r5,r1.Fin,r1.C,r6,r1.R,r1.Last⟩:Ad),[r8],x9,0)))) λk3=>
 ob (GD a0) λr4=>
 cond (!r4)
 (k3 true)
 (cond (!(eA a1 0 1000000))
 (k3 true)
 (k3 (!(oA a2))))
def Eo(a0:Int)(a1:List UInt8)(a2:Int)(a3:Int):=
 aA (λy1=>
 cond (y1)
 (some [])
 (ob (VB [] a2 4) λr3=>
 ob (VB [] a3 6) λr4=>
 let x5:List (List UInt8):=[[UInt8.ofNat (IntKind.wrap .u8 a0:Int).toNat],a1,r3,r4]
 ob (lD x5) λr6=>
 some r6)) λk2=>
 cond (!(PA a0))
 (k2 true)
 (cond (!(oA a1))
 (k2 true)
 (cond (!(eA a2 0 4294967295))
 (k2 true)
 (k2 (!(eA a3 0 281474976710655)))))
def Hv(a0:List UInt8)(a1:List UInt8)(a2:Int):=
 aA (λy1=>
 cond (y1)
 (some [])
 (ob (lD [[UInt8.ofNat (115:Int).toNat],a1]) λr3=>
 ob (VB r3 a2 4) λr4=>
 let r5:(List UInt8):=XC a0 r4
 some r5)) λk2=>
 cond (!(eA a2 0 6))
 (k2 true)
 (k2 (decide ((a1.length:Int)>100)))
def Hw(a0:List UInt8)(a1:List UInt8)(a2:Int):=
 aA (λy1=>
 cond (y1)
 (some [])
 (aA (λ(y3:(List UInt8))=>
 cond (decide (0≤(0:Int))&&decide ((0:Int)≤a2)&&decide (a2≤(y3.length:Int))) (ob (BA (List.take ((a2 - 0).toNat) (List.drop 0 y3))) λr8=>
 some r8) none) λk4=>
 sA FU (λ(x5:(List UInt8)×Int) k6=>
 cond (decide ((x5.1.length:Int)<a2))
 (ob (Hv a0 a1 x5.2) λr7=>
 cond (decide (x5.1.length+r7.length≤bA)) (k6 ((x5.1++r7),(iA .i64 x5.2 1))) none)
 (k4 x5.1)) ([],0))) λk2=>
 cond (!(eA a2 0 200))
 (k2 true)
 (cond (decide ((a1.length:Int)>100))
 (k2 true)
 (k2 (decide ((a0.length:Int)>1048576))))
def Eq(a0:List UInt8)(a1:List UInt8)(a2:List UInt8):=
 aA (λy1=>
 cond (y1)
 (some [])
 (ob (Hw a0 a1 (a2.length:Int)) λr3=>
 aA (λ(y4:(List UInt8))=>
 some y4) λk5=>
 sA FU (λ(x6:(List UInt8)×Int) k7=>
 cond (decide (x6.2<(r3.length:Int)))
 (cond (decide (0≤x6.2)&&decide (x6.2<(r3.length:Int))) (ob (r3[x6.2.toNat]?) λe8=>
 ob (kA a2 x6.2) λe9=>
 let x10:Int:=xB .u8 ((e8.toNat:Nat):Int) ((e9.toNat:Nat):Int)
 cond (decide (x6.1.length+[UInt8.ofNat (x10:Int).toNat].length≤bA)) (k7 ((x6.1++[UInt8.ofNat (x10:Int).toNat]),(iA .i64 x6.2 1))) none) none)
 (k5 x6.1)) ([],0))) λk2=>
 cond (decide ((a2.length:Int)>200))
 (k2 true)
 (cond (decide ((a1.length:Int)>100))
 (k2 true)
 (k2 (decide ((a0.length:Int)>1048576))))
def Cm(a0:Int)(a1:Ab):=
 aA (λy1=>
 cond (y1)
 (some [])
 (ob (Eo a0 a1.Sn a1.Epoch a1.Seq) λr4=>
 let x5:List (List UInt8):=[[UInt8.ofNat (116:Int).toNat],r4,[UInt8.ofNat (IntKind.wrap .u8 a1.Kind:Int).toNat],a1.Body]
 ob (lD x5) λr6=>
 some r6)) λk2=>
 cond (!(PA a0))
 (k2 true)
 (cond (!(fC a1.Kind))
 (k2 true)
 (ob (TC a1) λr3=>
 k2 (!r3)))
def Cb(a0:List UInt8)(a1:List UInt8):=
 let r1:(List UInt8):=XC a0 a1
 cond ((r1.length:Int)==0)
 (some [])
 (cond (decide (0≤(0:Int))&&decide ((0:Int)≤16)&&decide (16≤(r1.length:Int))) (ob (BA (List.take 16 (List.drop 0 r1))) λr2=>
 some r2) none)
def Dq(a0:List UInt8)(a1:Int)(a2:List UInt8)(a3:Int)(a4:Int)(a5:Int)(a6:List UInt8):=
 ob (BA a2) λr1=>
 ob (BA a6) λr2=>
 let x3:List UInt8:=List.replicate (16:Int).toNat (UInt8.ofNat (0:Int).toNat:UInt8)
 aA (λy4=>
 cond (y4)
 (some ((⟨0,0,[],[],0,[],[],0,0,[],[]⟩:Ab),false))
 (ob (Eo a1 a2 a3 a4) λr7=>
 ob (Eq a0 r7 a6) λr8=>
 ob (Cm a1 (⟨a5,0,[],r1,0,[],[],a3,a4,r8,x3⟩:Ab)) λr9=>
 ob (Cb a0 r9) λr10=>
 some ((⟨a5,0,[],r1,0,[],[],a3,a4,r8,r10⟩:Ab),true))) λk5=>
 cond ((a0.length:Int) !=32)
 (k5 true)
 (cond (!(PA a1))
 (k5 true)
 (cond (!(fC a5))
 (k5 true)
 (ob (TC (⟨a5,0,[],r1,0,[],[],a3,a4,r2,x3⟩:Ab)) λr6=>
 k5 (!r6))))
def Er(a0:Ax)(a1:Int)(a2:List UInt8)(a3:Int)(a4:List UInt8):Option (Ax×Ab×Int):=
 ob (nA a0) λr1=>
 cond (!(YC a0))
 (some (r1,(⟨0,0,[],[],0,[],[],0,0,[],[]⟩:Ab),1))
 (ob (Dq a0.Key a1 a2 a0.N 0 a3 a4) λr2=>
 cond (!r2.2)
 (some (r1,(⟨0,0,[],[],0,[],[],0,0,[],[]⟩:Ab),1))
 (aA (λy3=>
 cond (y3)
 (some (r1,(⟨0,0,[],[],0,[],[],0,0,[],[]⟩:Ab),4))
 (cond (a0.Seq==281474976710656)
 (some (r1,(⟨0,0,[],[],0,[],[],0,0,[],[]⟩:Ab),5))
 (ob (Dq a0.Key a1 a2 a0.N a0.Seq a3 a4) λr5=>
 some ((⟨r1.N,r1.Key,iA .i64 r1.Seq 1,r1.Win⟩:Ax),r5.1,0)))) λk4=>
 cond (a3==4)
 (k4 (decide (a0.Seq≥281474976709656)))
 (k4 false)))
def Bs(a0:Ak)(a1:Int)(a2:List UInt8):Option (Ak×Ab×Int):=
 ob (nA a0) λr1=>
 ob (uC a0) λr2=>
 cond (!r2)
 (some (r1,(⟨0,0,[],[],0,[],[],0,0,[],[]⟩:Ab),1))
 (ob (Er a0.Cur a0.Role a0.Sn a1 a2) λr3=>
 some ((⟨r1.Role,r1.Sn,r3.1,r1.Old,r1.HasOld,r1.Until,r1.Next⟩:Ak),r3.2.1,r3.2.2))
def Es(a0:List UInt8)(a1:List UInt8):=
 ob (BA a0) λr1=>
 ob (BA a1) λr2=>
 some (⟨15,0,0,[],[],0,0,r2,r1,(⟨0,0⟩:Ah),0⟩:Ae)
def Bt(a0:Ak)(a1:Ab):=
 ob (Cm a0.Role a1) λr1=>
 ob (Es a0.Cur.Key r1) λr2=>
 some r2
def Kp(a0:Ad)(a1:Int)(a2:List UInt8):Option (Ad×(List Ab)×(List Ae)×Int):=
 ob (nA a0) λr1=>
 aA (λy2=>
 cond (y2)
 (some (r1,[],[],1))
 (cond (a0.St !=3)
 (some (r1,[],[],6))
 (ob (Bs a0.C 4 a2) λr5=>
 cond (r5.2.2 !=0)
 (some (r1,[],[],r5.2.2))
 (ob (BA r5.2.1.Sn) λr6=>
 ob (BA a2) λr7=>
 ob (Bt r5.1 r5.2.1) λr8=>
 let x9:List Ae:=[r8,(⟨5,0,0,[],r6,r5.2.1.Epoch,r5.2.1.Seq,r7,[],(⟨0,0⟩:Ah),0⟩:Ae)]
 some ((⟨r1.Id,r1.Psk,r1.At,r1.St,r1.Cn,r1.Fin,r5.1,r1.T,r1.R,r1.Last⟩:Ad),[r5.2.1],x9,0))))) λk3=>
 ob (GD a0) λr4=>
 cond (!r4)
 (k3 true)
 (cond (!(eA a1 0 1000000))
 (k3 true)
 (k3 (decide ((a2.length:Int)>40))))
def Fw(a0:Ak):Option (Ak×Ab×Int):=
 aA (λy1=>
 cond (y1)
 (ob (nA a0) λr4=>
 some (r4,(⟨0,0,[],[],0,[],[],0,0,[],[]⟩:Ab),6))
 (ob (Bk (iA .i64 a0.Cur.N 1)) λr5=>
 ob (Bs a0 7 r5) λr6=>
 some (r6.1,r6.2.1,r6.2.2))) λk2=>
 ob (uC a0) λr3=>
 cond (!r3)
 (k2 true)
 (k2 ((a0.Next.length:Int)==0))
def Kq(a0:Ad)(a1:Int):Option (Ad×(List Ab)×(List Ae)×Int):=
 ob (nA a0) λr1=>
 aA (λy2=>
 cond (y2)
 (some (r1,[],[],1))
 (aA (λy5=>
 cond (y5)
 (some (r1,[],[],6))
 (ob (Dl a0.C) λr7=>
 ob (Fw r7.1) λr8=>
 aA (λy9=>
 cond (y9)
 (some (r1,[],[],5))
 (ob (Bf a1) λr11=>
 ob (Bt r8.1 r8.2.1) λr12=>
 some ((⟨r1.Id,r1.Psk,r1.At,r1.St,r1.Cn,r1.Fin,r8.1,r1.T,r11,r1.Last⟩:Ad),[r8.2.1],[r12],0))) λk10=>
 cond (!r7.2)
 (k10 true)
 (k10 (r8.2.2 !=0)))) λk6=>
 cond (a0.St !=3)
 (k6 true)
 (k6 (decide ((a0.C.Next.length:Int)>0))))) λk3=>
 ob (GD a0) λr4=>
 cond (!r4)
 (k3 true)
 (k3 (!(eA a1 0 1000000)))
def Dr(a0:Ad):=
 ob (BA a0.Psk) λr1=>
 some (⟨a0.Id,r1,a0.At,0,[],(⟨0,0,[],[],0,[],[],0,0,[],[]⟩:Ab),(⟨0,[],(⟨0,[],0,(⟨0,[]⟩:Aq)⟩:Ax),(⟨0,[],0,(⟨0,[]⟩:Aq)⟩:Ax),false,0,[]⟩:Ak),(⟨false,0,0,0⟩:Aw),(⟨false,0,0,0⟩:Aw),0⟩:Ad)
def Co(a0:Int)(a1:Int)(a2:List UInt8):=
 ob (BA a2) λr1=>
 some (⟨11,a0,a1,[],r1,0,0,[],[],(⟨0,0⟩:Ah),0⟩:Ae)
def Kr(a0:Ad):=
 ob (GD a0) λr1=>
 cond (!r1)
 (ob (nA a0) λr2=>
 some (r2,[]))
 (cond (a0.St !=3)
 (ob (Dr a0) λr3=>
 some (r3,[]))
 (ob (Dr a0) λr4=>
 ob (Co a0.Id 0 a0.C.Sn) λr5=>
 some (r4,[r5])))
def Bg(a0:Ab):=
 ob (TC a0) λr1=>
 cond (!r1)
 (some [])
 (cond (a0.Kind==1)
 (let x2:List UInt8:=List.replicate (20:Int).toNat (UInt8.ofNat (0:Int).toNat:UInt8)
 let x3:List (List UInt8):=[[UInt8.ofNat (IntKind.wrap .u8 a0.Kind:Int).toNat],[UInt8.ofNat (IntKind.wrap .u8 a0.Id:Int).toNat],a0.Cn,x2]
 ob (lD x3) λr4=>
 some r4)
 (cond (a0.Kind==2)
 (ob (VB [] a0.Tick 4) λr5=>
 let x6:List (List UInt8):=[[UInt8.ofNat (IntKind.wrap .u8 a0.Kind:Int).toNat],a0.Cn,a0.Sn,r5,a0.Cookie]
 ob (lD x6) λr7=>
 some r7)
 (cond (a0.Kind==3)
 (ob (VB [] a0.Tick 4) λr8=>
 let x9:List (List UInt8):=[[UInt8.ofNat (IntKind.wrap .u8 a0.Kind:Int).toNat],[UInt8.ofNat (IntKind.wrap .u8 a0.Id:Int).toNat],a0.Cn,a0.Sn,r8,a0.Cookie,a0.Proof]
 ob (lD x9) λr10=>
 some r10)
 (ob (VB [] a0.Epoch 4) λr11=>
 ob (VB [] a0.Seq 6) λr12=>
 let x13:List (List UInt8):=[[UInt8.ofNat (IntKind.wrap .u8 a0.Kind:Int).toNat],a0.Sn,r11,r12,a0.Tag,a0.Body]
 ob (lD x13) λr14=>
 some r14))))
def Fx(a0:Ah)(a1:Ah)(a2:Ab):=
 ob (Bg a2) λr1=>
 some (⟨a0,a1,r1⟩:Am)
def Cp(a0:Ad)(a1:List Ab):=
 aA (λ(y1:(List Am))=>
 some y1) λk2=>
 sA FU (λ(x3:(List Am)×Int) k4=>
 cond (decide (x3.2<(a1.length:Int)))
 (ob (kA a1 x3.2) λe5=>
 let r6:Ah:=MD
 ob (Fx a0.At r6 e5) λr7=>
 cond (decide (x3.1.length+[r7].length≤bA)) (k4 ((x3.1++[r7]),(iA .i64 x3.2 1))) none)
 (k2 x3.1)) ([],0)
def Ks(a0:Aa)(a1:Ao):Option (Aa×(List Am)×Bool):=
 cond (decide (0≤zA .i64 a1.I 2)&&decide (zA .i64 a1.I 2<(a0.Clients.length:Int))) (ob (a0.Clients[(zA .i64 a1.I 2).toNat]?) λe1=>
 aA (λ(y2:(List Ab)×(List Ae)×Int×Aa×Ad)=>
 cond (decide (0≤zA .i64 a1.I 2)&&decide (zA .i64 a1.I 2<(y2.2.2.2.1.Clients.length:Int))) (ob (y2.2.2.2.1.Clients[(zA .i64 a1.I 2).toNat]?) λe22=>
 let l23:List Ad:=List.set y2.2.2.2.1.Clients ((zA .i64 a1.I 2).toNat) y2.2.2.2.2
 cond (decide (y2.2.2.2.1.Notes.length+y2.2.1.length≤bA)) (ob (Cp y2.2.2.2.2 y2.1) λr24=>
 some ((⟨y2.2.2.2.1.Now,l23,y2.2.2.2.1.S,y2.2.2.2.1.D,y2.2.2.2.1.Seen,y2.2.2.2.1.Known,y2.2.2.2.1.Notes++y2.2.1⟩:Aa),r24,y2.2.2.1==0)) none) none) λk3=>
 cond (a1.Kind==1)
 (ob (ZD a0.D) λr4=>
 ob (TD r4.2) λr5=>
 cond (decide (a0.Notes.length+[r5].length≤bA)) (ob (Ko e1 a0.Now r4.2) λr6=>
 k3 (r6.2.1,r6.2.2.1,r6.2.2.2,(⟨a0.Now,a0.Clients,a0.S,r4.1,a0.Seen,a0.Known,a0.Notes++[r5]⟩:Aa),r6.1)) none)
 (aA (λ(y7:(List Ab)×(List Ae)×Int×Ad)=>
 k3 (y7.1,y7.2.1,y7.2.2.1,a0,y7.2.2.2)) λk8=>
 cond (a1.Kind==2)
 (ob (Kp e1 a0.Now a1.B) λr9=>
 k8 (r9.2.1,r9.2.2.1,r9.2.2.2,r9.1))
 (aA (λ(y10:(List Ab)×(List Ae)×Int×Ad)=>
 k8 (y10.1,y10.2.1,y10.2.2.1,y10.2.2.2)) λk11=>
 cond (a1.Kind==6)
 (ob (Kq e1 a0.Now) λr12=>
 k11 (r12.2.1,r12.2.2.1,r12.2.2.2,r12.1))
 (aA (λ(y13:(List Ae)×Int×Ad)=>
 k11 ([],y13.1,y13.2.1,y13.2.2)) λk14=>
 cond (a1.Kind==5)
 (let r15:Ah:=vB (iA .i64 1 (zA .i64 a1.N 30))
 ob (Ci e1 r15) λr16=>
 k14 ([],0,r16))
 (aA (λ(y17:(List Ae)×Int×Ad)=>
 k14 (y17.1,y17.2.1,y17.2.2)) λk18=>
 cond (a1.Kind==13)
 (aA (λ(y19:Int)=>
 ob (Kr e1) λr21=>
 k18 (r21.2,y19,r21.1)) λk20=>
 cond (e1.St==0)
 (k20 6)
 (k20 0))
 (k18 ([],0,e1))))))) none
def Kt(a0:Int):Option Int:=
 aA (λy1=>
 cond (y1)
 (some 1)
 (aA (λy3=>
 cond (y3)
 (some 2)
 (cond (a0==10)
 (some 3)
 (some 0))) λk4=>
 cond (a0==5)
 (k4 (a0==5))
 (aA (λ(y5:Bool)=>
 k4 y5) λk6=>
 cond (a0==6)
 (k6 (a0==6))
 (aA (λ(y7:Bool)=>
 k6 y7) λk8=>
 cond (a0==7)
 (k8 (a0==7))
 (k8 (a0==8)))))) λk2=>
 cond (a0==4)
 (k2 (a0==4))
 (k2 (a0==9))
def Jx(a0:List UInt8)(a1:List UInt8):=
 aA (λ(y1:(List UInt8))=>
 some y1) λk2=>
 sA FU (λ(x3:(List UInt8)×Int) k4=>
 cond (decide (x3.2<(a0.length:Int)))
 (ob (kA a0 x3.2) λe5=>
 ob (kA a1 x3.2) λe6=>
 let x7:Int:=xB .u8 ((e5.toNat:Nat):Int) ((e6.toNat:Nat):Int)
 cond (decide (x3.1.length+[UInt8.ofNat (x7:Int).toNat].length≤bA)) (k4 ((x3.1++[UInt8.ofNat (x7:Int).toNat]),(iA .i64 x3.2 1))) none)
 (k2 x3.1)) ([],0)
def Jy(a0:Bc)(a1:List (List UInt8))(a2:List Am)(a3:List (List UInt8)):=
 cond (a0.Kind==1)
 (some (a0.B,true))
 (aA (λ(y1:Unit)=>
 some ([],false)) λk2=>
 cond (a0.Kind==2)
 (cond (decide (a0.I<(a2.length:Int)))
 (ob (kA a2 a0.I) λe3=>
 some (e3.B,true))
 (k2 ()))
 (aA (λ(y4:Unit)=>
 k2 ()) λk5=>
 cond (a0.Kind==3)
 (cond (decide (a0.I<(a3.length:Int)))
 (ob (kA a3 a0.I) λe6=>
 some (e6,true))
 (k5 ()))
 (cond (a0.Kind==4)
 (ob (kA a1 0) λe7=>
 ob (GJ e7 a0.I a0.J) λr8=>
 some (r8.1,r8.2))
 (cond (a0.Kind==5)
 (ob (kA a1 0) λe9=>
 ob (kA a1 1) λe10=>
 ob (lD [e9,e10]) λr11=>
 some (r11,true))
 (aA (λ(y12:Unit)=>
 k5 ()) λk13=>
 cond (a0.Kind==6)
 (ob (kA a1 0) λe14=>
 ob (kA a1 1) λe15=>
 cond ((e14.length:Int)==(e15.length:Int))
 (ob (kA a1 0) λe16=>
 ob (kA a1 1) λe17=>
 ob (Jx e16 e17) λr18=>
 some (r18,true))
 (k13 ()))
 (cond (a0.Kind==7)
 (ob (kA a1 0) λe19=>
 ob (kA a1 1) λe20=>
 let r21:(List UInt8):=XC e19 e20
 some (r21,true))
 (cond (a0.Kind==8)
 (ob (kA a1 0) λe22=>
 ob (kA a1 1) λe23=>
 ob (Cb e22 e23) λr24=>
 some (r24,true))
 (cond (a0.Kind==9)
 (ob (kA a1 0) λe25=>
 ob (ME e25 [114,101,107,101,121]) λr26=>
 some (r26,true))
 (cond (a0.Kind==10)
 (ob (kA a1 0) λe27=>
 ob (kA a1 1) λe28=>
 ob (kA a1 2) λe29=>
 ob (Eq e27 e28 e29) λr30=>
 some (r30,true))
 (k13 ()))))))))))
def Hx(a0:List Bc)(a1:List Am)(a2:List (List UInt8)):Option ((List UInt8)×Bool):=
 cond (decide ((a0.length:Int)>16))
 (some ([],false))
 (aA (λ(y1:(List (List UInt8)))=>
 cond ((y1.length:Int) !=1)
 (some ([],false))
 (cond (decide (0≤(0:Int))&&decide ((0:Int)<(y1.length:Int))) (ob (y1[0]?) λe15=>
 ob (BA e15) λr16=>
 some (r16,true)) none)) λk2=>
 sA FU (λ(x3:(List (List UInt8))×Int) k4=>
 cond (decide (x3.2<(a0.length:Int)))
 (ob (kA a0 x3.2) λe5=>
 ob (Kt e5.Kind) λr6=>
 aA (λy7=>
 cond (y7)
 (some ([],false))
 (cond (decide (0≤(qA .i64 (x3.1.length:Int) r6))&&decide ((qA .i64 (x3.1.length:Int) r6)≤(x3.1.length:Int))&&decide ((x3.1.length:Int)≤(x3.1.length:Int))) (ob (Jy e5 (List.take (((x3.1.length:Int) - (qA .i64 (x3.1.length:Int) r6)).toNat) (List.drop ((qA .i64 (x3.1.length:Int) r6).toNat) x3.1)) a1 a2) λr10=>
 aA (λy11=>
 cond (y11)
 (some ([],false))
 (cond (decide (0≤(0:Int))&&decide ((0:Int)≤(qA .i64 (x3.1.length:Int) r6))&&decide ((qA .i64 (x3.1.length:Int) r6)≤(x3.1.length:Int))) (cond (decide (([]:List (List UInt8)).length+(List.take ((qA .i64 (x3.1.length:Int) r6 - 0).toNat) (List.drop 0 x3.1)).length≤bA)) (let x14:List (List UInt8):=[]++(List.take ((qA .i64 (x3.1.length:Int) r6 - 0).toNat) (List.drop 0 x3.1))
 cond (decide (x14.length+[r10.1].length≤bA)) (k4 ((x14++[r10.1]),(iA .i64 x3.2 1))) none) none) none)) λk12=>
 cond (!r10.2)
 (k12 true)
 (cond (decide ((r10.1.length:Int)>200))
 (k12 true)
 (let x13:Int:=iA .i64 (qA .i64 (x3.1.length:Int) r6) 1
 k12 (decide (x13>8))))) none)) λk8=>
 ob (Dp e5) λr9=>
 cond (!r9)
 (k8 true)
 (k8 (decide ((qA .i64 (x3.1.length:Int) r6)<0))))
 (k2 x3.1)) ([],0))
def Hy(a0:List Al)(a1:Ah)(a2:Int):=
 ob (nA a0) λr1=>
 aA (λy2=>
 cond (y2)
 (some r1)
 (aA (λ(y4:(List Al))=>
 some y4) λk5=>
 cond (decide ((oB a0 a1)≥0))
 (cond (decide (0≤(oB a0 a1))&&decide ((oB a0 a1)<(r1.length:Int))) (ob (r1[(oB a0 a1).toNat]?) λe6=>
 cond (decide (0≤(oB a0 a1))&&decide ((oB a0 a1)<(r1.length:Int))) (ob (r1[(oB a0 a1).toNat]?) λe7=>
 let l8:List Al:=List.set r1 ((oB a0 a1).toNat) (⟨e7.A,aE (iA .i64 e6.Got a2) 1000000,e7.Sent⟩:Al)
 k5 l8) none) none)
 (aA (λ(y9:(List Al))=>
 k5 y9) λk10=>
 cond (decide ((a0.length:Int)<8))
 (cond (decide (r1.length+[(⟨a1,a2,0⟩:Al)].length≤bA)) (k10 (r1++[(⟨a1,a2,0⟩:Al)])) none)
 (k10 r1)))) λk3=>
 cond (!(iD a0))
 (k3 true)
 (cond (!(GA a1))
 (k3 true)
 (k3 (!(eA a2 0 1000000))))
def Bl(a0:List UInt8)(a1:Int):=
 cond (decide (0≤(0:Int))&&decide ((0:Int)≤(aE a1 (a0.length:Int)))&&decide ((aE a1 (a0.length:Int))≤(a0.length:Int))) (let l1:List UInt8:=List.take ((aE a1 (a0.length:Int) - 0).toNat) (List.drop 0 a0)
 ob (BA l1) λr2=>
 cond (decide (0≤(aE a1 (a0.length:Int)))&&decide ((aE a1 (a0.length:Int))≤(a0.length:Int))&&decide ((a0.length:Int)≤(a0.length:Int))) (let l3:List UInt8:=List.take (((a0.length:Int) - (aE a1 (a0.length:Int))).toNat) (List.drop ((aE a1 (a0.length:Int)).toNat) a0)
 some (r2,l3)) none) none
def Cq(a0:List UInt8)(a1:Int):=
 ob (Bl a0 a1) λr1=>
 ob (kH r1.1 0 a1) λr2=>
 some (r2.1,r1.2)
def Db(a0:List UInt8):=
 ob (Cq a0 1) λr1=>
 aA (λ(y2:(List UInt8)×Ab)=>
 aA (λy27=>
 cond (y27)
 (some ((⟨0,0,[],[],0,[],[],0,0,[],[]⟩:Ab),false))
 (some (y2.2,true))) λk28=>
 ob (TC y2.2) λr29=>
 cond (!r29)
 (k28 true)
 (ob (Bg y2.2) λr30=>
 ob (FB r30 a0) λr31=>
 k28 (!r31))) λk3=>
 cond (r1.1==1)
 (ob (Cq r1.2 1) λr4=>
 ob (Bl r4.2 12) λr5=>
 k3 (r5.2,(⟨r1.1,r4.1,r5.1,[],0,[],[],0,0,[],[]⟩:Ab)))
 (aA (λ(y6:Bool)=>
 aA (λ(y8:(List UInt8)×Ab)=>
 k3 (y8.1,y8.2)) λk9=>
 cond (y6)
 (aA (λ(y10:(List UInt8)×Ab)=>
 ob (Bl y10.1 12) λr13=>
 ob (Bl r13.2 12) λr14=>
 ob (Cq r14.2 4) λr15=>
 ob (Bl r15.2 16) λr16=>
 aA (λ(y17:(List UInt8)×Ab)=>
 k9 (y17.1,y17.2)) λk18=>
 cond (y10.2.Kind==3)
 (ob (Bl r16.2 16) λr19=>
 k18 (r19.2,(⟨y10.2.Kind,y10.2.Id,r13.1,r14.1,r15.1,r16.1,r19.1,y10.2.Epoch,y10.2.Seq,y10.2.Body,y10.2.Tag⟩:Ab)))
 (k18 (r16.2,(⟨y10.2.Kind,y10.2.Id,r13.1,r14.1,r15.1,r16.1,y10.2.Proof,y10.2.Epoch,y10.2.Seq,y10.2.Body,y10.2.Tag⟩:Ab)))) λk11=>
 cond (r1.1==3)
 (ob (Cq r1.2 1) λr12=>
 k11 (r12.2,(⟨r1.1,r12.1,[],[],0,[],[],0,0,[],[]⟩:Ab)))
 (k11 (r1.2,(⟨r1.1,0,[],[],0,[],[],0,0,[],[]⟩:Ab))))
 (aA (λ(y20:(List UInt8)×Ab)=>
 k9 (y20.1,y20.2)) λk21=>
 cond ((fC r1.1))
 (ob (Bl r1.2 12) λr22=>
 ob (Cq r22.2 4) λr23=>
 ob (Cq r23.2 6) λr24=>
 ob (Bl r24.2 16) λr25=>
 ob (Bl r25.2 41) λr26=>
 k21 (r26.2,(⟨r1.1,0,[],r22.1,0,[],[],r23.1,r24.1,r26.1,r25.1⟩:Ab)))
 (k21 (r1.2,(⟨r1.1,0,[],[],0,[],[],0,0,[],[]⟩:Ab))))) λk7=>
 cond (r1.1==2)
 (k7 true)
 (k7 (r1.1==3)))
def Dc(a0:Ap)(a1:Ah):=
 aA (λ(y1:Unit)=>
 some false) λk2=>
 sA FU (λ(x3:Int) k4=>
 cond (decide (x3<(a0.L.length:Int)))
 (ob (kA a0.L x3) λe5=>
 aA (λy6=>
 cond (y6)
 (some true)
 (k4 (iA .i64 x3 1))) λk7=>
 cond (!e5.Dead)
 (let x8:Bool:=cond (e5.P.At.Host==a1.Host) (cond (e5.P.At.Port==a1.Port) (true) false) false
 k7 x8)
 (k7 false))
 (k2 ())) 0
def Fy(a0:Ac)(a1:Ah)(a2:Int):=
 aA (λ(y1:Bool)=>
 some y1) λk2=>
 ob (Dc a0.T a1) λr3=>
 cond (r3)
 (k2 true)
 (ob (By a0.Cr a1) λr4=>
 k2 (decide (r4≥a2)))
def Hz(a0:List UInt8)(a1:Ah):=
 cond (!(GA a1))
 (ob (BA a0) λr1=>
 some r1)
 (ob (VB a0 a1.Host 4) λr2=>
 ob (VB r2 a1.Port 2) λr3=>
 some r3)
def Et(a0:Ah)(a1:Int)(a2:List UInt8)(a3:List UInt8)(a4:Int):=
 aA (λy1=>
 cond (y1)
 (some [])
 (ob (Hz [UInt8.ofNat (99:Int).toNat] a0) λr3=>
 ob (VB [] a4 4) λr4=>
 let x5:List (List UInt8):=[r3,[UInt8.ofNat (IntKind.wrap .u8 a1:Int).toNat],a2,a3,r4]
 ob (lD x5) λr6=>
 some r6)) λk2=>
 cond (!(GA a0))
 (k2 true)
 (cond (!(eA a1 1 9))
 (k2 true)
 (cond (!(oA a2))
 (k2 true)
 (cond (!(oA a3))
 (k2 true)
 (k2 (!(eA a4 0 1000000))))))
def Fz(a0:Ba)(a1:Ah)(a2:Int)(a3:List UInt8)(a4:List UInt8)(a5:Int):=
 ob (Et a1 a2 a3 a4 a5) λr1=>
 aA (λy2=>
 cond (y2)
 (some [])
 (ob (Cb a0.Secret r1) λr4=>
 some r4)) λk3=>
 cond (!(PE a0))
 (k3 true)
 (k3 ((r1.length:Int)==0))
def Ku(a0:Ac)(a1:Int)(a2:Ah)(a3:Ab):=
 aA (λy1=>
 cond (y1)
 (some (a0,[],[]))
 (ob (ZD a0.D) λr4=>
 ob (Fz a0.J a2 a3.Id a3.Cn r4.2 a1) λr5=>
 ob (BA a3.Cn) λr6=>
 ob (BA r4.2) λr7=>
 ob (Et a2 a3.Id a3.Cn r4.2 a1) λr8=>
 ob (Es a0.J.Secret r8) λr9=>
 let x10:List Av:=[(⟨a2,(⟨2,0,r6,r7,a1,r5,[],0,0,[],[]⟩:Ab)⟩:Av)]
 ob (TD r4.2) λr11=>
 some ((⟨a0.Psks,a0.J,r4.1,a0.T,a0.Cr⟩:Ac),x10,[r11,r9]))) λk2=>
 cond (decide (a3.Id>(a0.Psks.length:Int)))
 (k2 true)
 (ob (Fy a0 a2 45) λr3=>
 cond (!r3)
 (k2 true)
 (k2 (decide (a0.D.N≥10000))))
def Ia(a0:Ba)(a1:Int)(a2:Ah)(a3:Ab):Option Int:=
 aA (λy1=>
 cond (y1)
 (some 1)
 (ob (Cw a1 a3.Tick) λr4=>
 cond (!r4)
 (some 9)
 (ob (Fz a0 a2 a3.Id a3.Cn a3.Sn a3.Tick) λr5=>
 ob (Bm a3.Cookie r5) λr6=>
 cond (!r6)
 (some 2)
 (some 0)))) λk2=>
 cond (!(PE a0))
 (k2 true)
 (cond (!(eA a1 0 1000000))
 (k2 true)
 (cond (!(GA a2))
 (k2 true)
 (cond (a3.Kind !=3)
 (k2 true)
 (ob (TC a3) λr3=>
 k2 (!r3)))))
def Dd(a0:Int)(a1:List UInt8)(a2:List UInt8)(a3:Int)(a4:List UInt8):=
 aA (λy1=>
 cond (y1)
 (some [])
 (let x3:List UInt8:=[UInt8.ofNat (102:Int).toNat,UInt8.ofNat (IntKind.wrap .u8 a0:Int).toNat]
 ob (VB [] a3 4) λr4=>
 ob (lD [x3,a1,a2,r4,a4]) λr5=>
 some r5)) λk2=>
 cond (!(eA a0 1 9))
 (k2 true)
 (cond (!(oA a1))
 (k2 true)
 (cond (!(oA a2))
 (k2 true)
 (cond (!(eA a3 0 1000000))
 (k2 true)
 (k2 ((a4.length:Int) !=16)))))
def Ds(a0:List UInt8)(a1:Int)(a2:List UInt8)(a3:List UInt8)(a4:Int)(a5:List UInt8):=
 ob (Bh a0) λr1=>
 ob (Dd a1 a2 a3 a4 a5) λr2=>
 aA (λy3=>
 cond (y3)
 (some [])
 (ob (Cb r1 r2) λr5=>
 some r5)) λk4=>
 cond ((r1.length:Int)==0)
 (k4 true)
 (k4 ((r2.length:Int)==0))
def Ib(a0:List UInt8)(a1:Ab):=
 aA (λ(y1:Bool)=>
 some y1) λk2=>
 cond (a1.Kind==3)
 (ob (TC a1) λr3=>
 cond (r3)
 (ob (Ds a0 a1.Id a1.Cn a1.Sn a1.Tick a1.Cookie) λr4=>
 ob (Bm a1.Proof r4) λr5=>
 k2 r5)
 (k2 false))
 (k2 false)
def Ic(a0:List UInt8)(a1:List UInt8)(a2:List UInt8):=
 aA (λy1=>
 cond (y1)
 (some [])
 (ob (lD [a1,a2]) λr3=>
 ob (Bz r3 a0) λr4=>
 some r4)) λk2=>
 cond (!(AC a0))
 (k2 true)
 (cond (!(oA a1))
 (k2 true)
 (k2 (!(oA a2))))
def Ie(a0:List UInt8)(a1:Int):=
 cond (!(eA a1 0 64))
 (some [])
 (ob (BA a0) λr1=>
 aA (λ(y2:(List UInt8))=>
 some y2) λk3=>
 sA FU (λ(x4:(List UInt8)×Int) k5=>
 cond (decide (x4.2<a1))
 (ob (ME x4.1 [114,101,107,101,121]) λr6=>
 k5 (r6,(iA .i64 x4.2 1)))
 (k3 x4.1)) (r1,0))
def Ga(a0:List UInt8)(a1:List UInt8)(a2:List UInt8)(a3:Int):=
 ob (Ic a0 a1 a2) λr1=>
 ob (Cy r1) λr2=>
 cond ((r2.length:Int)==0)
 (some [])
 (ob (Ie r2 a3) λr3=>
 some r3)
def Kv:=
 some (⟨(-1),List.replicate (32:Int).toNat (0:Int)⟩:Aq)
def De(a0:Int)(a1:List UInt8):=
 aA (λy1=>
 cond (y1)
 (some (⟨0,[],0,(⟨0,[]⟩:Aq)⟩:Ax))
 (ob (BA a1) λr3=>
 ob (Kv) λr4=>
 some (⟨a0,r3,0,r4⟩:Ax))) λk2=>
 cond (!(eA a0 0 4294967295))
 (k2 true)
 (k2 ((a1.length:Int) !=32))
def Gb(a0:Int)(a1:List UInt8)(a2:List UInt8):=
 aA (λy1=>
 cond (y1)
 (some (⟨0,[],(⟨0,[],0,(⟨0,[]⟩:Aq)⟩:Ax),(⟨0,[],0,(⟨0,[]⟩:Aq)⟩:Ax),false,0,[]⟩:Ak))
 (ob (BA a1) λr3=>
 ob (De 0 a2) λr4=>
 some (⟨a0,r3,r4,(⟨0,[],0,(⟨0,[]⟩:Aq)⟩:Ax),false,0,[]⟩:Ak))) λk2=>
 cond (!(PA a0))
 (k2 true)
 (cond (!(oA a1))
 (k2 true)
 (k2 ((a2.length:Int) !=32)))
def Eu(a0:List UInt8)(a1:Int)(a2:Ah)(a3:Ab):=
 aA (λy1=>
 cond (y1)
 (some (⟨0,[],[],(⟨0,[],(⟨0,[],0,(⟨0,[]⟩:Aq)⟩:Ax),(⟨0,[],0,(⟨0,[]⟩:Aq)⟩:Ax),false,0,[]⟩:Ak),(⟨(⟨0,0⟩:Ah),[]⟩:Aj),0,0,false⟩:Ai))
 (ob (BA a3.Cn) λr4=>
 ob (BA a3.Sn) λr5=>
 ob (Cj a2) λr6=>
 ob (Ga a0 a3.Cn a3.Sn 0) λr7=>
 ob (Gb 1 a3.Sn r7) λr8=>
 some (⟨a3.Id,r4,r5,r8,r6,a3.Tick,a1,false⟩:Ai))) λk2=>
 cond (!(AC a0))
 (k2 true)
 (cond (!(eA a1 0 1000000))
 (k2 true)
 (cond (!(GA a2))
 (k2 true)
 (cond (a3.Kind !=3)
 (k2 true)
 (ob (TC a3) λr3=>
 k2 (!r3)))))
def Dt(a0:List UInt8)(a1:List UInt8)(a2:List UInt8):=
 ob (BA a0) λr1=>
 ob (BA a1) λr2=>
 ob (BA a2) λr3=>
 some (⟨16,0,0,[],r2,0,0,r3,r1,(⟨0,0⟩:Ah),0⟩:Ae)
def Gc(a0:Ak):Option (Ak×Ab×Int):=
 aA (λy1=>
 cond (y1)
 (ob (nA a0) λr4=>
 some (r4,(⟨0,0,[],[],0,[],[],0,0,[],[]⟩:Ab),6))
 (ob (Bk a0.Cur.N) λr5=>
 ob (Bs a0 8 r5) λr6=>
 some (r6.1,r6.2.1,r6.2.2))) λk2=>
 ob (uC a0) λr3=>
 cond (!r3)
 (k2 true)
 (k2 (a0.Role !=1))
def Ev(a0:Ai):Option (Ai×(List Av)×(List Ae)):=
 ob (nA a0) λr1=>
 aA (λy2=>
 cond (y2)
 (some (r1,[],[]))
 (ob (Gc a0.C) λr5=>
 cond (r5.2.2 !=0)
 (some (r1,[],[]))
 (ob (Bt r5.1 r5.2.1) λr6=>
 some ((⟨r1.Id,r1.Cn,r1.Sn,r5.1,r1.P,r1.Tick,r1.Last,r1.Dead⟩:Ai),[(⟨a0.P.At,r5.2.1⟩:Av)],[r6])))) λk3=>
 ob (KD a0) λr4=>
 cond (!r4)
 (k3 true)
 (cond (a0.Dead)
 (k3 true)
 (k3 (a0.C.Cur.N !=0)))
def Bu(a0:Ap)(a1:Int)(a2:Ai):=
 ob (nA a0) λr1=>
 aA (λy2=>
 cond (y2)
 (some (r1,false))
 (ob (nA a2) λr5=>
 cond (decide (0≤a1)&&decide (a1<(r1.L.length:Int))) (ob (r1.L[a1.toNat]?) λe6=>
 ob (uG (⟨r1.Cap,List.set r1.L a1.toNat r5⟩:Ap)) λr7=>
 cond (!r7)
 (ob (nA a0) λr8=>
 some (r8,false))
 (some ((⟨r1.Cap,List.set r1.L a1.toNat r5⟩:Ap),true))) none)) λk3=>
 ob (uG a0) λr4=>
 cond (!r4)
 (k3 true)
 (cond (decide (a1<0))
 (k3 true)
 (k3 (decide (a1≥(a0.L.length:Int)))))
def Kw(a0:Ac)(a1:Int)(a2:Ah)(a3:Ab):Option (Ac×(List Av)×(List Ae)):=
 aA (λy1=>
 cond (y1)
 (some (a0,[],[]))
 (ob (ID a0.T a3.Sn) λr6=>
 aA (λ(y7:(List Ae)×Ac×Ac)=>
 ob (ID y7.2.2.T a3.Sn) λr21=>
 ob (kA y7.2.2.T.L r21) λe22=>
 aA (λy23=>
 cond (y23)
 (some (y7.2.2,[],y7.1))
 (ob (Ev e22) λr26=>
 ob (Bu y7.2.2.T r21 r26.1) λr27=>
 cond (decide (y7.1.length+r26.2.2.length≤bA)) (some ((⟨y7.2.2.Psks,y7.2.2.J,y7.2.2.D,r27.1,y7.2.2.Cr⟩:Ac),r26.2.1,y7.1++r26.2.2)) none)) λk24=>
 cond (e22.Dead)
 (k24 true)
 (cond (e22.Id !=a3.Id)
 (k24 true)
 (ob (FB e22.Cn a3.Cn) λr25=>
 k24 (!r25)))) λk8=>
 cond (decide (r6<0))
 (ob (kA a0.Psks (qA .i64 a3.Id 1)) λe9=>
 ob (Eu e9 a1 a2 a3) λr10=>
 ob (Bi a0.T r10) λr11=>
 cond (r11.2 !=0)
 (some (a0,[],[]))
 (ob (Et a2 a3.Id a3.Cn a3.Sn a3.Tick) λr12=>
 ob (Dt a0.J.Secret a3.Sn r12) λr13=>
 ob (Bh e9) λr14=>
 ob (Dd a3.Id a3.Cn a3.Sn a3.Tick a3.Cookie) λr15=>
 ob (Dt r14 a3.Sn r15) λr16=>
 ob (BA a3.Cn) λr17=>
 ob (BA a3.Sn) λr18=>
 ob (BA r10.C.Cur.Key) λr19=>
 let x20:List Ae:=[r13,r16,(⟨4,a3.Id,0,r17,r18,0,0,[],r19,a2,a1⟩:Ae)]
 cond (decide (([]:List Ae).length+x20.length≤bA)) (k8 (([]++x20),(⟨[],(⟨[]⟩:Ba),(⟨[],0⟩:Au),(⟨0,[]⟩:Ap),[]⟩:Ac),(⟨a0.Psks,a0.J,a0.D,r11.1,a0.Cr⟩:Ac))) none))
 (k8 ([],(⟨[],(⟨[]⟩:Ba),(⟨[],0⟩:Au),(⟨0,[]⟩:Ap),[]⟩:Ac),a0)))) λk2=>
 ob (Ia a0.J a1 a2 a3) λr3=>
 cond (r3 !=0)
 (k2 true)
 (cond (decide (a3.Id>(a0.Psks.length:Int)))
 (k2 true)
 (ob (kA a0.Psks (qA .i64 a3.Id 1)) λe4=>
 ob (Ib e4 a3) λr5=>
 k2 (!r5)))
def Cs(a0:Aq)(a1:Int):=
 aA (λy1=>
 cond (y1)
 (some false)
 (aA (λ(y3:Bool)=>
 some y3) λk4=>
 cond (decide (a1>a0.Top))
 (k4 true)
 (cond (decide (a1≥(iA .i64 (qA .i64 a0.Top 1024) 1)))
 (ob (XF a0 a1) λr5=>
 k4 (!r5))
 (k4 false)))) λk2=>
 cond (!(dD a0))
 (k2 true)
 (k2 (!(eA a1 0 281474976710655)))
def Df(a0:Aq)(a1:Int):=
 ob (nA a0) λr1=>
 ob (Cs a0 a1) λr2=>
 cond (!r2)
 (some (r1,false))
 (let x3:Int:=BG (iA .i64 a0.Top 1) (iA .i64 (qA .i64 a1 1024) 1)
 aA (λ(y4:Aq)=>
 cond (decide (0≤EC .i64 (zA .i64 a1 1024) 32)&&decide (EC .i64 (zA .i64 a1 1024) 32<(y4.Bits.length:Int))) (ob (y4.Bits[(EC .i64 (zA .i64 a1 1024) 32).toNat]?) λe12=>
 cond (decide ((zA .i64 a1 32)<0)) none (let x13:Int:=CK .i64 e12 (DJ .i64 1 (zA .i64 a1 32))
 cond (decide (0≤EC .i64 (zA .i64 a1 1024) 32)&&decide (EC .i64 (zA .i64 a1 1024) 32<(y4.Bits.length:Int))) (ob (y4.Bits[(EC .i64 (zA .i64 a1 1024) 32).toNat]?) λe14=>
 let l15:List Int:=List.set y4.Bits ((EC .i64 (zA .i64 a1 1024) 32).toNat) x13
 some ((⟨BG a0.Top a1,l15⟩:Aq),true)) none)) none) λk5=>
 sA FU (λ(x6:Int×Aq) k7=>
 cond (decide (x6.1<a1))
 (cond (decide (0≤EC .i64 (zA .i64 x6.1 1024) 32)&&decide (EC .i64 (zA .i64 x6.1 1024) 32<(x6.2.Bits.length:Int))) (ob (x6.2.Bits[(EC .i64 (zA .i64 x6.1 1024) 32).toNat]?) λe8=>
 cond (decide ((zA .i64 x6.1 32)<0)) none (let x9:Int:=zdk .i64 e8 (DJ .i64 1 (zA .i64 x6.1 32))
 cond (decide (0≤EC .i64 (zA .i64 x6.1 1024) 32)&&decide (EC .i64 (zA .i64 x6.1 1024) 32<(x6.2.Bits.length:Int))) (ob (x6.2.Bits[(EC .i64 (zA .i64 x6.1 1024) 32).toNat]?) λe10=>
 let l11:List Int:=List.set x6.2.Bits ((EC .i64 (zA .i64 x6.1 1024) 32).toNat) x9
 k7 ((iA .i64 x6.1 1),(⟨x6.2.Top,l11⟩:Aq))) none)) none)
 (k5 x6.2)) (x3,r1))
def If(a0:List UInt8)(a1:Int)(a2:Ab):=
 ob (Cm a1 a2) λr1=>
 aA (λy2=>
 cond (y2)
 (some ([],false))
 (ob (Eo a1 a2.Sn a2.Epoch a2.Seq) λr6=>
 ob (Eq a0 r6 a2.Body) λr7=>
 some (r7,true))) λk3=>
 cond ((a0.length:Int) !=32)
 (k3 true)
 (cond ((r1.length:Int)==0)
 (k3 true)
 (ob (Cb a0 r1) λr4=>
 ob (Bm a2.Tag r4) λr5=>
 k3 (!r5)))
def Ew(a0:Ax)(a1:Int)(a2:Ab):Option (Ax×(List UInt8)×Int):=
 ob (nA a0) λr1=>
 aA (λy2=>
 cond (y2)
 (some (r1,[],1))
 (ob (Df a0.Win a2.Seq) λr5=>
 cond (!r5.2)
 (some (r1,[],3))
 (ob (If a0.Key a1 a2) λr6=>
 cond (!r6.2)
 (some (r1,[],2))
 (some ((⟨r1.N,r1.Key,r1.Seq,r5.1⟩:Ax),r6.1,0))))) λk3=>
 cond (!(YC a0))
 (k3 true)
 (ob (Cm a1 a2) λr4=>
 cond ((r4.length:Int)==0)
 (k3 true)
 (k3 (a2.Epoch !=a0.N)))
def Dg(a0:Ak)(a1:Int)(a2:Ab):Option (Ak×(List UInt8)×Int):=
 ob (nA a0) λr1=>
 aA (λy2=>
 cond (y2)
 (some (r1,[],1))
 (aA (λ(y6:Bool)=>
 aA (λ(y8:Bool)=>
 aA (λy10=>
 cond (y10)
 (some (r1,[],8))
 (aA (λy13=>
 cond (y13)
 (some (r1,[],9))
 (aA (λ(y15:Ax)=>
 aA (λ(y17:Ax)=>
 ob (Ew y17 (qA .i64 1 a0.Role) a2) λr20=>
 cond (r20.2.2 !=0)
 (some (r1,[],r20.2.2))
 (aA (λ(y21:Ak)=>
 some (y21,r20.2.1,0)) λk22=>
 cond (a2.Epoch==a0.Cur.N)
 (aA (λ(y23:Bool)=>
 aA (λ(y25:Ak)=>
 k22 y25) λk26=>
 cond (y23)
 (k26 (⟨r1.Role,r1.Sn,r20.1,r1.Old,r1.HasOld,iA .i64 a1 5,r1.Next⟩:Ak))
 (k26 (⟨r1.Role,r1.Sn,r20.1,r1.Old,r1.HasOld,r1.Until,r1.Next⟩:Ak))) λk24=>
 cond (a0.HasOld)
 (k24 (a0.Until==(-1)))
 (k24 false))
 (aA (λ(y27:Ak)=>
 k22 y27) λk28=>
 cond (y6)
 (k28 (⟨r1.Role,r1.Sn,r1.Cur,r20.1,r1.HasOld,r1.Until,r1.Next⟩:Ak))
 (k28 (⟨r1.Role,r1.Sn,r20.1,r1.Cur,true,iA .i64 a1 5,[]⟩:Ak))))) λk18=>
 cond (y8)
 (ob (De (iA .i64 a0.Cur.N 1) a0.Next) λr19=>
 k18 r19)
 (k18 y15)) λk16=>
 cond (y6)
 (k16 a0.Old)
 (k16 a0.Cur))) λk14=>
 cond (y6)
 (cond (a0.Until !=(-1))
 (k14 (decide (a1>a0.Until)))
 (k14 false))
 (k14 false))) λk11=>
 ob (Bq a2.Sn a0.Sn) λr12=>
 cond (r12 !=0)
 (k11 true)
 (cond (!(a2.Epoch==a0.Cur.N))
 (cond (!y6)
 (k11 (!y8))
 (k11 false))
 (k11 false))) λk9=>
 cond (decide ((a0.Next.length:Int)>0))
 (k9 (a2.Epoch==(iA .i64 a0.Cur.N 1)))
 (k9 false)) λk7=>
 cond (a0.HasOld)
 (k7 (a2.Epoch==a0.Old.N))
 (k7 false))) λk3=>
 ob (uC a0) λr4=>
 cond (!r4)
 (k3 true)
 (cond (!(eA a1 0 1000000))
 (k3 true)
 (cond (!(fC a2.Kind))
 (k3 true)
 (ob (TC a2) λr5=>
 k3 (!r5))))
def Gd(a0:Ak)(a1:Int):=
 ob (uC a0) λr1=>
 cond (!r1)
 (some ([],false))
 (aA (λy2=>
 cond (y2)
 (ob (BA a0.Old.Key) λr4=>
 some (r4,true))
 (cond (a1==a0.Cur.N)
 (ob (BA a0.Cur.Key) λr5=>
 some (r5,true))
 (aA (λy6=>
 cond (y6)
 (ob (BA a0.Next) λr8=>
 some (r8,true))
 (some ([],false))) λk7=>
 cond (decide ((a0.Next.length:Int)>0))
 (k7 (a1==(iA .i64 a0.Cur.N 1)))
 (k7 false)))) λk3=>
 cond (a0.HasOld)
 (k3 (a1==a0.Old.N))
 (k3 false))
def Ge(a0:Aj)(a1:Int)(a2:Ah)(a3:List UInt8):=
 ob (nA a0) λr1=>
 ob (hJ a0 a2) λr2=>
 aA (λy3=>
 cond (y3)
 (some (r1,false))
 (cond (decide (0≤(0:Int))&&decide ((0:Int)≤r2)&&decide (r2≤(r1.Cands.length:Int))) (cond (decide (0≤(iA .i64 r2 1))&&decide ((iA .i64 r2 1)≤(r1.Cands.length:Int))&&decide ((r1.Cands.length:Int)≤(r1.Cands.length:Int))) (cond (decide ((List.take ((r2 - 0).toNat) r1.Cands).length+(List.take (((r1.Cands.length:Int) - (iA .i64 r2 1)).toNat) (List.drop ((iA .i64 r2 1).toNat) r1.Cands)).length≤bA)) (let x8:List Az:=(List.take ((r2 - 0).toNat) r1.Cands)++(List.take (((r1.Cands.length:Int) - (iA .i64 r2 1)).toNat) (List.drop ((iA .i64 r2 1).toNat) r1.Cands))
 some ((⟨a2,x8⟩:Aj),true)) none) none) none)) λk4=>
 cond (!(sC a0))
 (k4 true)
 (cond (!(eA a1 0 1000000))
 (k4 true)
 (cond (decide (r2<0))
 (k4 true)
 (ob (kA a0.Cands r2) λe5=>
 ob (FB a3 e5.Draw) λr6=>
 cond (!r6)
 (k4 true)
 (ob (kA a0.Cands r2) λe7=>
 k4 (decide (a1>e7.Until))))))
def Ig(a0:Ak):=
 ob (nA a0) λr1=>
 aA (λy2=>
 cond (y2)
 (some (r1,false))
 (ob (ME a0.Cur.Key [114,101,107,101,121]) λr5=>
 ob (De (iA .i64 a0.Cur.N 1) r5) λr6=>
 some ((⟨r1.Role,r1.Sn,r6,r1.Cur,true,(-1),r1.Next⟩:Ak),true))) λk3=>
 ob (uC a0) λr4=>
 cond (!r4)
 (k3 true)
 (cond (a0.Role !=1)
 (k3 true)
 (k3 (a0.Cur.N==4294967295)))
def Ih(a0:Ak)(a1:Int)(a2:List UInt8):Option (Ak×Int):=
 ob (nA a0) λr1=>
 aA (λy2=>
 cond (y2)
 (some (r1,6))
 (cond (a1==(qA .i64 a0.Cur.N 1))
 (some (r1,0))
 (ob (Ig a0) λr7=>
 aA (λy8=>
 cond (y8)
 (some (r1,6))
 (some (r7.1,0))) λk9=>
 cond (a1 !=a0.Cur.N)
 (k9 true)
 (k9 (!r7.2))))) λk3=>
 ob (uC a0) λr4=>
 cond (!r4)
 (k3 true)
 (cond (a0.Role !=1)
 (k3 true)
 (cond (!(eA a1 0 4294967294))
 (k3 true)
 (ob (Bk (iA .i64 a1 1)) λr5=>
 ob (FB a2 r5) λr6=>
 k3 (!r6))))
def Kx(a0:Ai)(a1:Int)(a2:List UInt8):Option (Ai×(List Av)×(List Ae)):=
 ob (Ih a0.C a1 a2) λr1=>
 cond (r1.2 !=0)
 (some (a0,[],[]))
 (aA (λ(y2:(List Ae))=>
 ob (Gc r1.1) λr7=>
 cond (r7.2.2 !=0)
 (some ((⟨a0.Id,a0.Cn,a0.Sn,r1.1,a0.P,a0.Tick,a0.Last,a0.Dead⟩:Ai),[],y2))
 (ob (Bt r7.1 r7.2.1) λr8=>
 cond (decide (y2.length+[r8].length≤bA)) (some ((⟨a0.Id,a0.Cn,a0.Sn,r7.1,a0.P,a0.Tick,a0.Last,a0.Dead⟩:Ai),[(⟨a0.P.At,r7.2.1⟩:Av)],y2++[r8])) none)) λk3=>
 cond (r1.1.Cur.N !=a0.C.Cur.N)
 (ob (BA a0.Sn) λr4=>
 ob (BA r1.1.Cur.Key) λr5=>
 let x6:List Ae:=[(⟨10,0,1,[],r4,r1.1.Cur.N,0,[],r5,(⟨0,0⟩:Ah),0⟩:Ae)]
 cond (decide (([]:List Ae).length+x6.length≤bA)) (k3 ([]++x6)) none)
 (k3 []))
def Du(a0:Aj)(a1:Int):=
 ob (nA a0) λr1=>
 aA (λ(y2:Aj)=>
 some y2) λk3=>
 sA FU (λ(x4:Int×Aj) k5=>
 cond (decide (x4.1<(r1.Cands.length:Int)))
 (cond (decide (0≤x4.1)&&decide (x4.1<(r1.Cands.length:Int))) (ob (r1.Cands[x4.1.toNat]?) λe6=>
 aA (λ(y7:Aj)=>
 k5 ((iA .i64 x4.1 1),y7)) λk8=>
 cond (decide (e6.Until≥a1))
 (cond (decide (x4.2.Cands.length+[e6].length≤bA)) (k8 (⟨x4.2.At,x4.2.Cands++[e6]⟩:Aj)) none)
 (k8 x4.2)) none)
 (k3 x4.2)) (0,(⟨a0.At,[]⟩:Aj))
def Gf(a0:Aj)(a1:Int)(a2:Ah)(a3:List UInt8):=
 aA (λy1=>
 cond (y1)
 (ob (nA a0) λr4=>
 some (r4,false))
 (ob (Du a0 a1) λr5=>
 aA (λy6=>
 cond (y6)
 (ob (nA a0) λr9=>
 some (r9,false))
 (ob (BA a3) λr10=>
 cond (decide (r5.Cands.length+[(⟨a2,r10,iA .i64 a1 6⟩:Az)].length≤bA)) (some ((⟨r5.At,r5.Cands++[(⟨a2,r10,iA .i64 a1 6⟩:Az)]⟩:Aj),true)) none)) λk7=>
 ob (hJ r5 a2) λr8=>
 cond (decide (r8≥0))
 (k7 true)
 (k7 ((r5.Cands.length:Int)==3)))) λk2=>
 cond (!(sC a0))
 (k2 true)
 (cond (!(eA a1 0 1000000))
 (k2 true)
 (cond (!(GA a2))
 (k2 true)
 (cond (!(oA a3))
 (k2 true)
 (let x3:Bool:=cond (a2.Host==a0.At.Host) (cond (a2.Port==a0.At.Port) (true) false) false
 k2 x3))))
def Gg(a0:Ai)(a1:Int)(a2:Ah)(a3:Ab)(a4:List UInt8):Option (Ai×(List Av)×(List Ae)×Bool):=
 ob (nA a0) λr1=>
 aA (λy2=>
 cond (y2)
 (some (r1,[],[],false))
 (ob (Dg a0.C a1 a3) λr5=>
 cond (r5.2.2 !=0)
 (some (r1,[],[],false))
 (ob (Gd a0.C a3.Epoch) λr6=>
 ob (Cm 0 a3) λr7=>
 ob (Dt r6.1 a0.Sn r7) λr8=>
 aA (λ(y9:(List Ae)×(List Av)×Ai)=>
 ob (Gf y9.2.2.P a1 a2 a4) λr23=>
 ob (Bs y9.2.2.C 5 a4) λr24=>
 aA (λy25=>
 cond (y25)
 (some (y9.2.2,y9.2.1,y9.1,false))
 (cond (decide (y9.2.1.length+[(⟨a2,r24.2.1⟩:Av)].length≤bA)) (ob (Bt r24.1 r24.2.1) λr27=>
 cond (decide (y9.1.length+[r27].length≤bA)) (some ((⟨y9.2.2.Id,y9.2.2.Cn,y9.2.2.Sn,r24.1,r23.1,y9.2.2.Tick,y9.2.2.Last,y9.2.2.Dead⟩:Ai),y9.2.1++[(⟨a2,r24.2.1⟩:Av)],y9.1++[r27],true)) none) none)) λk26=>
 cond (!r23.2)
 (k26 true)
 (k26 (r24.2.2 !=0))) λk10=>
 cond (a3.Kind==4)
 (ob (BA a0.Sn) λr11=>
 let x12:List Ae:=[(⟨6,0,0,[],r11,a3.Epoch,a3.Seq,r5.2.1,[],(⟨0,0⟩:Ah),a1⟩:Ae)]
 cond (decide ([r8].length+x12.length≤bA)) (k10 (([r8]++x12),[],(⟨r1.Id,r1.Cn,r1.Sn,r5.1,r1.P,r1.Tick,a1,r1.Dead⟩:Ai))) none)
 (aA (λ(y13:(List Ae)×(List Av)×Ai)=>
 k10 (y13.1,y13.2.1,y13.2.2)) λk14=>
 cond (a3.Kind==6)
 (ob (Ge a0.P a1 a2 r5.2.1) λr15=>
 aA (λ(y16:(List Ae)×Ai)=>
 k14 (y16.1,[],y16.2)) λk17=>
 cond (r15.2)
 (ob (BA a0.Sn) λr18=>
 cond (decide ([r8].length+[(⟨9,0,0,[],r18,0,0,r5.2.1,[],a2,a1⟩:Ae)].length≤bA)) (let x19:List Ae:=[r8]++[(⟨9,0,0,[],r18,0,0,r5.2.1,[],a2,a1⟩:Ae)]
 k17 (x19,(⟨r1.Id,r1.Cn,r1.Sn,r5.1,r15.1,r1.Tick,a1,r1.Dead⟩:Ai))) none)
 (k17 ([r8],(⟨r1.Id,r1.Cn,r1.Sn,r5.1,r1.P,r1.Tick,a1,r1.Dead⟩:Ai))))
 (aA (λ(y20:(List Ae)×(List Av)×Ai)=>
 k14 (y20.1,y20.2.1,y20.2.2)) λk21=>
 cond (a3.Kind==7)
 (ob (Kx (⟨r1.Id,r1.Cn,r1.Sn,r5.1,r1.P,r1.Tick,a1,r1.Dead⟩:Ai) a3.Epoch r5.2.1) λr22=>
 cond (decide (([]:List Av).length+r22.2.1.length≤bA)) (cond (decide ([r8].length+r22.2.2.length≤bA)) (k21 (([r8]++r22.2.2),([]++r22.2.1),r22.1)) none) none)
 (k21 ([r8],[],(⟨r1.Id,r1.Cn,r1.Sn,r5.1,r1.P,r1.Tick,a1,r1.Dead⟩:Ai)))))))) λk3=>
 ob (KD a0) λr4=>
 cond (!r4)
 (k3 true)
 (cond (a0.Dead)
 (k3 true)
 (k3 (!(GA a2))))
def Ky(a0:Ac)(a1:Int)(a2:Ah)(a3:Ab):Option (Ac×(List Av)×(List Ae)):=
 ob (ID a0.T a3.Sn) λr1=>
 aA (λy2=>
 cond (y2)
 (some (a0,[],[]))
 (ob (ZD a0.D) λr5=>
 ob (Fy a0 a2 51) λr6=>
 aA (λ(y7:(List UInt8))=>
 ob (kA a0.T.L r1) λe9=>
 ob (Gg e9 a1 a2 a3 y7) λr10=>
 ob (Bu a0.T r1 r10.1) λr11=>
 aA (λ(y12:(List Ae)×Ac)=>
 some (y12.2,r10.2.1,y12.1)) λk13=>
 cond (r10.2.2.2)
 (ob (BA a3.Sn) λr14=>
 ob (BA y7) λr15=>
 ob (TD y7) λr16=>
 cond (decide ([r16].length+r10.2.2.1.length≤bA)) (cond (decide (([r16]++r10.2.2.1).length+[(⟨7,0,0,[],r14,0,0,r15,[],a2,a1⟩:Ae)].length≤bA)) (let x17:List Ae:=([r16]++r10.2.2.1)++[(⟨7,0,0,[],r14,0,0,r15,[],a2,a1⟩:Ae)]
 k13 (x17,(⟨a0.Psks,a0.J,r5.1,r11.1,a0.Cr⟩:Ac))) none) none)
 (k13 (r10.2.2.1,(⟨a0.Psks,a0.J,a0.D,r11.1,a0.Cr⟩:Ac)))) λk8=>
 cond (!r6)
 (k8 [])
 (k8 r5.2))) λk3=>
 cond (decide (r1<0))
 (k3 true)
 (ob (kA a0.T.L r1) λe4=>
 k3 e4.Dead)
def Dv(a0:Ab):=
 ob (Bg a0) λr1=>
 some (r1.length:Int)
def Dw(a0:List Al)(a1:Ah)(a2:Int):=
 ob (nA a0) λr1=>
 aA (λy2=>
 cond (y2)
 (some (r1,false))
 (cond (decide (0≤(oB a0 a1))&&decide ((oB a0 a1)<(r1.length:Int))) (ob (r1[(oB a0 a1).toNat]?) λe5=>
 cond (decide (0≤(oB a0 a1))&&decide ((oB a0 a1)<(r1.length:Int))) (ob (r1[(oB a0 a1).toNat]?) λe6=>
 let l7:List Al:=List.set r1 ((oB a0 a1).toNat) (⟨e6.A,e6.Got,iA .i64 e5.Sent a2⟩:Al)
 some (l7,true)) none) none)) λk3=>
 cond (!(iD a0))
 (k3 true)
 (cond (decide ((oB a0 a1)<0))
 (k3 true)
 (ob (By a0 a1) λr4=>
 k3 (!(eA a2 0 r4))))
def Ii(a0:Ac)(a1:Int)(a2:Ah)(a3:List UInt8):Option (Ac×(List Av)×(List Ae)):=
 ob (nA a0) λr1=>
 aA (λy2=>
 cond (y2)
 (some (r1,[],[]))
 (ob (Hy a0.Cr a2 (a3.length:Int)) λr5=>
 ob (Db a3) λr6=>
 aA (λ(y7:(List Av)×(List Ae)×Ac)=>
 aA (λ(y18:(List Av)×Ac)=>
 some (y18.2,y18.1,y7.2.1)) λk19=>
 sA FU (λ(x20:(List Av)×Int×Ac) k21=>
 cond (decide (x20.2.1<(y7.1.length:Int)))
 (aA (λ(y22:(List Av)×Ac)=>
 k21 (y22.1,(iA .i64 x20.2.1 1),y22.2)) λk23=>
 cond (decide (0≤x20.2.1)&&decide (x20.2.1<(y7.1.length:Int))) (ob (y7.1[x20.2.1.toNat]?) λe24=>
 ob (Dc x20.2.2.T e24.To) λr25=>
 aA (λ(y26:Ac)=>
 cond (decide (x20.1.length+[e24].length≤bA)) (k23 ((x20.1++[e24]),y26)) none) λk27=>
 cond (!r25)
 (ob (Dv e24.F) λr28=>
 ob (Dw x20.2.2.Cr e24.To r28) λr29=>
 cond (!r29.2)
 (k23 (x20.1,x20.2.2))
 (k27 (⟨x20.2.2.Psks,x20.2.2.J,x20.2.2.D,x20.2.2.T,r29.1⟩:Ac)))
 (k27 x20.2.2)) none)
 (k19 (x20.1,x20.2.2))) ([],0,y7.2.2)) λk8=>
 cond (!r6.2)
 (k8 ([],[],(⟨r1.Psks,r1.J,r1.D,r1.T,r5⟩:Ac)))
 (aA (λ(y9:(List Av)×(List Ae)×Ac)=>
 k8 (y9.1,y9.2.1,y9.2.2)) λk10=>
 cond (r6.1.Kind==1)
 (ob (Ku (⟨r1.Psks,r1.J,r1.D,r1.T,r5⟩:Ac) a1 a2 r6.1) λr11=>
 k10 (r11.2.1,r11.2.2,r11.1))
 (aA (λ(y12:(List Av)×(List Ae)×Ac)=>
 k10 (y12.1,y12.2.1,y12.2.2)) λk13=>
 cond (r6.1.Kind==3)
 (ob (Kw (⟨r1.Psks,r1.J,r1.D,r1.T,r5⟩:Ac) a1 a2 r6.1) λr14=>
 k13 (r14.2.1,r14.2.2,r14.1))
 (aA (λ(y15:(List Av)×(List Ae)×Ac)=>
 k13 (y15.1,y15.2.1,y15.2.2)) λk16=>
 cond ((fC r6.1.Kind))
 (ob (Ky (⟨r1.Psks,r1.J,r1.D,r1.T,r5⟩:Ac) a1 a2 r6.1) λr17=>
 k16 (r17.2.1,r17.2.2,r17.1))
 (k16 ([],[],(⟨r1.Psks,r1.J,r1.D,r1.T,r5⟩:Ac)))))))) λk3=>
 ob (HC a0) λr4=>
 cond (!r4)
 (k3 true)
 (cond (!(eA a1 0 1000000))
 (k3 true)
 (k3 (!(GA a2))))
def Dx(a0:List Av):=
 aA (λ(y1:(List Am))=>
 some y1) λk2=>
 sA FU (λ(x3:(List Am)×Int) k4=>
 cond (decide (x3.2<(a0.length:Int)))
 (ob (kA a0 x3.2) λe5=>
 let r6:Ah:=MD
 ob (Fx r6 e5.To e5.F) λr7=>
 cond (decide (x3.1.length+[r7].length≤bA)) (k4 ((x3.1++[r7]),(iA .i64 x3.2 1))) none)
 (k2 x3.1)) ([],0)
def Ey(a0:List UInt8)(a1:Int)(a2:Ab):=
 aA (λy1=>
 cond (y1)
 (some ((⟨0,0,[],[],0,[],[],0,0,[],[]⟩:Ab),false))
 (ob (Ds a0 a1 a2.Cn a2.Sn a2.Tick a2.Cookie) λr4=>
 cond ((r4.length:Int)==0)
 (some ((⟨0,0,[],[],0,[],[],0,0,[],[]⟩:Ab),false))
 (ob (BA a2.Cn) λr5=>
 ob (BA a2.Sn) λr6=>
 ob (BA a2.Cookie) λr7=>
 some ((⟨3,a1,r5,r6,a2.Tick,r7,r4,0,0,[],[]⟩:Ab),true)))) λk2=>
 cond (a2.Kind !=2)
 (k2 true)
 (ob (TC a2) λr3=>
 k2 (!r3))
def Kz(a0:Ad)(a1:Int)(a2:Ab):=
 ob (nA a0) λr1=>
 ob (Ey a0.Psk a0.Id a2) λr2=>
 cond (!r2.2)
 (some (r1,[],[]))
 (ob (Bf a1) λr3=>
 ob (Ga a0.Psk a0.Cn a2.Sn 0) λr4=>
 ob (Gb 0 a2.Sn r4) λr5=>
 ob (BA a0.Cn) λr6=>
 ob (BA a2.Sn) λr7=>
 ob (Bh a0.Psk) λr8=>
 ob (Dd r2.1.Id r2.1.Cn r2.1.Sn r2.1.Tick r2.1.Cookie) λr9=>
 ob (Es r8 r9) λr10=>
 ob (nA r2.1) λr11=>
 let x12:List Ae:=[(⟨2,a0.Id,0,r6,r7,0,0,[],[],(⟨0,0⟩:Ah),a1⟩:Ae),r10]
 some ((⟨r1.Id,r1.Psk,r1.At,2,r1.Cn,r2.1,r5,r3,r1.R,r1.Last⟩:Ad),[r11],x12))
def La(a0:Ad)(a1:Int)(a2:Ab):Option (Ad×(List Ab)×(List Ae)):=
 ob (nA a0) λr1=>
 ob (Dg a0.C a1 a2) λr2=>
 cond (r2.2.2 !=0)
 (some (r1,[],[]))
 (ob (Gd a0.C a2.Epoch) λr3=>
 ob (Cm 1 a2) λr4=>
 ob (Dt r3.1 a2.Sn r4) λr5=>
 aA (λ(y6:(List Ae)×Ad)=>
 aA (λ(y12:(List Ae)×Ad)=>
 aA (λ(y17:(List Ae))=>
 cond (a2.Kind !=5)
 (some (y12.2,[],y17))
 (ob (Bs r2.1 6 r2.2.1) λr21=>
 cond (r21.2.2 !=0)
 (some (y12.2,[],y17))
 (ob (BA r21.2.1.Sn) λr22=>
 ob (Bt r21.1 r21.2.1) λr23=>
 let x24:List Ae:=[r23,(⟨8,0,0,[],r22,r21.2.1.Epoch,0,r2.2.1,[],(⟨0,0⟩:Ah),0⟩:Ae)]
 cond (decide (y17.length+x24.length≤bA)) (some ((⟨y12.2.Id,y12.2.Psk,y12.2.At,y12.2.St,y12.2.Cn,y12.2.Fin,r21.1,y12.2.T,y12.2.R,y12.2.Last⟩:Ad),[r21.2.1],y17++x24)) none))) λk18=>
 cond (a2.Kind==4)
 (ob (BA a2.Sn) λr19=>
 let x20:List Ae:=[(⟨6,0,1,[],r19,a2.Epoch,a2.Seq,r2.2.1,[],(⟨0,0⟩:Ah),a1⟩:Ae)]
 cond (decide (y12.1.length+x20.length≤bA)) (k18 (y12.1++x20)) none)
 (k18 y12.1)) λk13=>
 cond (r2.1.Cur.N !=a0.C.Cur.N)
 (ob (BA r2.1.Sn) λr14=>
 ob (BA r2.1.Cur.Key) λr15=>
 let x16:List Ae:=[(⟨10,0,0,[],r14,r2.1.Cur.N,0,[],r15,(⟨0,0⟩:Ah),0⟩:Ae)]
 cond (decide (y6.1.length+x16.length≤bA)) (k13 ((y6.1++x16),(⟨y6.2.Id,y6.2.Psk,y6.2.At,y6.2.St,y6.2.Cn,y6.2.Fin,y6.2.C,y6.2.T,(⟨false,0,0,0⟩:Aw),y6.2.Last⟩:Ad))) none)
 (k13 (y6.1,y6.2))) λk7=>
 cond (a0.St==2)
 (ob (BA a0.Cn) λr8=>
 ob (BA r2.1.Sn) λr9=>
 ob (BA a0.C.Cur.Key) λr10=>
 let x11:List Ae:=[(⟨3,a0.Id,0,r8,r9,0,0,[],r10,(⟨0,0⟩:Ah),0⟩:Ae)]
 cond (decide ([r5].length+x11.length≤bA)) (k7 (([r5]++x11),(⟨r1.Id,r1.Psk,r1.At,3,r1.Cn,(⟨0,0,[],[],0,[],[],0,0,[],[]⟩:Ab),r2.1,(⟨false,0,0,0⟩:Aw),r1.R,a1⟩:Ad))) none)
 (k7 ([r5],(⟨r1.Id,r1.Psk,r1.At,r1.St,r1.Cn,r1.Fin,r2.1,r1.T,r1.R,a1⟩:Ad))))
def Ij(a0:Ad)(a1:Int)(a2:Ab):Option (Ad×(List Ab)×(List Ae)):=
 aA (λy1=>
 cond (y1)
 (ob (nA a0) λr5=>
 some (r5,[],[]))
 (aA (λy6=>
 cond (y6)
 (ob (Kz a0 a1 a2) λr9=>
 some (r9.1,r9.2.1,r9.2.2))
 (aA (λy10=>
 cond (y10)
 (ob (La a0 a1 a2) λr12=>
 some (r12.1,r12.2.1,r12.2.2))
 (ob (nA a0) λr13=>
 some (r13,[],[]))) λk11=>
 cond ((fC a2.Kind))
 (cond (a0.St==2)
 (k11 true)
 (k11 (a0.St==3)))
 (k11 false))) λk7=>
 cond (a2.Kind==2)
 (cond (a0.St==1)
 (ob (FB a2.Cn a0.Cn) λr8=>
 k7 r8)
 (k7 false))
 (k7 false))) λk2=>
 ob (GD a0) λr3=>
 cond (!r3)
 (k2 true)
 (cond (!(eA a1 0 1000000))
 (k2 true)
 (ob (TC a2) λr4=>
 k2 (!r4)))
def Bn(a0:Aa)(a1:Int)(a2:Ah)(a3:List UInt8):Option (Aa×(List Am)):=
 ob (nA a0) λr1=>
 aA (λy2=>
 cond (y2)
 (some (r1,[]))
 (cond (a1==0)
 (ob (Ii a0.S a0.Now a2 a3) λr5=>
 cond (decide (r1.Notes.length+r5.2.2.length≤bA)) (ob (Dx r5.2.1) λr6=>
 some ((⟨r1.Now,r1.Clients,r5.1,r1.D,r1.Seen,r1.Known,r1.Notes++r5.2.2⟩:Aa),r6)) none)
 (ob (Db a3) λr7=>
 cond (!r7.2)
 (some (r1,[]))
 (ob (kA a0.Clients (qA .i64 a1 1)) λe8=>
 ob (Ij e8 a0.Now r7.1) λr9=>
 cond (decide (0≤qA .i64 a1 1)&&decide (qA .i64 a1 1<(r1.Clients.length:Int))) (ob (r1.Clients[(qA .i64 a1 1).toNat]?) λe10=>
 cond (decide (r1.Notes.length+r9.2.2.length≤bA)) (ob (Cp r9.1 r9.2.1) λr11=>
 some ((⟨r1.Now,List.set r1.Clients ((qA .i64 a1 1).toNat) r9.1,r1.S,r1.D,r1.Seen,r1.Known,r1.Notes++r9.2.2⟩:Aa),r11)) none) none)))) λk3=>
 ob (AE a0) λr4=>
 cond (!r4)
 (k3 true)
 (cond (!(eA a1 0 2))
 (k3 true)
 (k3 (!(GA a2))))
def Lb(a0:Aa)(a1:Ao):Option (Aa×(List Am)×Bool):=
 cond (a1.Kind==11)
 (ob (Hx a1.Ops a0.Seen a0.Known) λr1=>
 let r2:Ah:=vB (zA .i64 a1.N 256)
 ob (Bn a0 (zA .i64 a1.J 3) r2 r1.1) λr3=>
 some (r3.1,r3.2,r1.2))
 (cond ((a0.Seen.length:Int)==0)
 (some (a0,[],false))
 (cond ((a0.Seen.length:Int)==0) none (ob (kA a0.Seen (zA .i64 a1.I (a0.Seen.length:Int))) λe4=>
 ob (KH a0 e4.To) λr5=>
 ob (BA e4.B) λr6=>
 aA (λ(y7:Int×Ah×Aa×(List UInt8))=>
 cond (decide (y7.1<0))
 (some (a0,[],false))
 (ob (Bn a0 y7.1 y7.2.1 y7.2.2.2) λr18=>
 some (r18.1,r18.2,true))) λk8=>
 cond (a1.Kind==8)
 (let r9:Ah:=vB (zA .i64 a1.N 256)
 k8 (0,r9,(⟨0,[],(⟨[],(⟨[]⟩:Ba),(⟨[],0⟩:Au),(⟨0,[]⟩:Ap),[]⟩:Ac),(⟨[],0⟩:Au),[],[],[]⟩:Aa),r6))
 (aA (λ(y10:Int×Aa×(List UInt8))=>
 k8 (y10.1,e4.From,y10.2.1,y10.2.2)) λk11=>
 cond (a1.Kind==9)
 (k11 ((zA .i64 a1.J 3),(⟨0,[],(⟨[],(⟨[]⟩:Ba),(⟨[],0⟩:Au),(⟨0,[]⟩:Ap),[]⟩:Ac),(⟨[],0⟩:Au),[],[],[]⟩:Aa),r6))
 (aA (λ(y12:Aa×(List UInt8))=>
 k11 (r5,y12.1,y12.2)) λk13=>
 cond (a1.Kind==10)
 (cond ((r6.length:Int)==0)
 (some (a0,[],false))
 (cond ((r6.length:Int)==0) none (cond (decide (0≤zA .i64 a1.N (r6.length:Int))&&decide (zA .i64 a1.N (r6.length:Int)<(r6.length:Int))) (ob (r6[(zA .i64 a1.N (r6.length:Int)).toNat]?) λe14=>
 let x15:Int:=IntKind.wrap .u8 (iA .i64 1 (zA .i64 a1.J 255))
 cond (decide (0≤zA .i64 a1.N (r6.length:Int))&&decide (zA .i64 a1.N (r6.length:Int)<(r6.length:Int))) (ob (r6[(zA .i64 a1.N (r6.length:Int)).toNat]?) λe16=>
 let l17:List UInt8:=List.set r6 ((zA .i64 a1.N (r6.length:Int)).toNat) (UInt8.ofNat (xB .u8 ((e14.toNat:Nat):Int) x15:Int).toNat)
 k13 ((⟨0,[],(⟨[],(⟨[]⟩:Ba),(⟨[],0⟩:Au),(⟨0,[]⟩:Ap),[]⟩:Ac),(⟨[],0⟩:Au),[],[],[]⟩:Aa),l17)) none) none)))
 (k13 ((⟨0,[],(⟨[],(⟨[]⟩:Ba),(⟨[],0⟩:Au),(⟨0,[]⟩:Ap),[]⟩:Ac),(⟨[],0⟩:Au),[],[],[]⟩:Aa),r6)))))))
def Dy(a0:Ai)(a1:List UInt8):Option (Ai×(List Av)×(List Ae)×Int):=
 ob (nA a0) λr1=>
 aA (λy2=>
 cond (y2)
 (some (r1,[],[],1))
 (cond (a0.Dead)
 (some (r1,[],[],6))
 (ob (Bs a0.C 4 a1) λr5=>
 cond (r5.2.2 !=0)
 (some (r1,[],[],r5.2.2))
 (ob (BA r5.2.1.Sn) λr6=>
 ob (BA a1) λr7=>
 ob (Bt r5.1 r5.2.1) λr8=>
 let x9:List Ae:=[r8,(⟨5,0,1,[],r6,r5.2.1.Epoch,r5.2.1.Seq,r7,[],(⟨0,0⟩:Ah),0⟩:Ae)]
 some ((⟨r1.Id,r1.Cn,r1.Sn,r5.1,r1.P,r1.Tick,r1.Last,r1.Dead⟩:Ai),[(⟨a0.P.At,r5.2.1⟩:Av)],x9,0))))) λk3=>
 ob (KD a0) λr4=>
 cond (!r4)
 (k3 true)
 (k3 (decide ((a1.length:Int)>40)))
def Lc(a0:Ac)(a1:Int)(a2:Int)(a3:List UInt8):Option (Ac×(List Av)×(List Ae)×Int):=
 ob (nA a0) λr1=>
 aA (λy2=>
 cond (y2)
 (some (r1,[],[],1))
 (aA (λy5=>
 cond (y5)
 (some (r1,[],[],8))
 (ob (kA a0.T.L a2) λe7=>
 ob (Dy e7 a3) λr8=>
 cond (r8.2.2.2 !=0)
 (some (r1,[],[],r8.2.2.2))
 (ob (Bu a0.T a2 r8.1) λr9=>
 some ((⟨r1.Psks,r1.J,r1.D,r9.1,r1.Cr⟩:Ac),r8.2.1,r8.2.2.1,0)))) λk6=>
 cond (decide (a2<0))
 (k6 true)
 (k6 (decide (a2≥(a0.T.L.length:Int)))))) λk3=>
 ob (HC a0) λr4=>
 cond (!r4)
 (k3 true)
 (k3 (!(eA a1 0 1000000)))
def Gh(a0:Ac):=
 ob (nA a0) λr1=>
 aA (λy2=>
 cond (y2)
 (some (r1,[]))
 (ob (ZD a0.D) λr5=>
 let r6:Ba:=eG r5.2;let r7:Ap:=lE a0.T.Cap
 ob (TD r5.2) λr8=>
 ob (BA r6.Secret) λr9=>
 let x10:List Ae:=[r8,(⟨12,0,0,[],[],0,0,[],r9,(⟨0,0⟩:Ah),0⟩:Ae)]
 some ((⟨r1.Psks,r6,r5.1,r7,[]⟩:Ac),x10))) λk3=>
 ob (HC a0) λr4=>
 cond (!r4)
 (k3 true)
 (k3 (a0.D.N==10000))
def Ez(a0:Ai):=
 ob (KD a0) λr1=>
 cond (!r1)
 (ob (nA a0) λr2=>
 some r2)
 (ob (BA a0.Cn) λr3=>
 ob (BA a0.Sn) λr4=>
 some (⟨a0.Id,r3,r4,(⟨0,[],(⟨0,[],0,(⟨0,[]⟩:Aq)⟩:Ax),(⟨0,[],0,(⟨0,[]⟩:Aq)⟩:Ax),false,0,[]⟩:Ak),(⟨(⟨0,0⟩:Ah),[]⟩:Aj),a0.Tick,0,true⟩:Ai))
def Ld(a0:Ac)(a1:Int):Option (Ac×(List Ae)×Int):=
 ob (nA a0) λr1=>
 ob (HC a0) λr2=>
 cond (!r2)
 (some (r1,[],1))
 (aA (λy3=>
 cond (y3)
 (some (r1,[],8))
 (ob (kA a0.T.L a1) λe6=>
 ob (Ez e6) λr7=>
 ob (Bu a0.T a1 r7) λr8=>
 ob (Co e6.Id 1 e6.Sn) λr9=>
 some ((⟨r1.Psks,r1.J,r1.D,r8.1,r1.Cr⟩:Ac),[r9],0))) λk4=>
 cond (decide (a1<0))
 (k4 true)
 (cond (decide (a1≥(a0.T.L.length:Int)))
 (k4 true)
 (ob (kA a0.T.L a1) λe5=>
 k4 e5.Dead)))
def Le(a0:Aa)(a1:Ao):Option (Aa×(List Am)×Bool):=
 aA (λ(y1:(List Av)×(List Ae)×Bool×Aa)=>
 cond (decide (y1.2.2.2.Notes.length+y1.2.1.length≤bA)) (ob (Dx y1.1) λr10=>
 some ((⟨y1.2.2.2.Now,y1.2.2.2.Clients,y1.2.2.2.S,y1.2.2.2.D,y1.2.2.2.Seen,y1.2.2.2.Known,y1.2.2.2.Notes++y1.2.1⟩:Aa),r10,y1.2.2.1)) none) λk2=>
 cond (a1.Kind==3)
 (ob (Lc a0.S a0.Now a1.I a1.B) λr3=>
 k2 (r3.2.1,r3.2.2.1,(r3.2.2.2==0),(⟨a0.Now,a0.Clients,r3.1,a0.D,a0.Seen,a0.Known,a0.Notes⟩:Aa)))
 (aA (λ(y4:(List Ae)×Bool×Aa)=>
 k2 ([],y4.1,y4.2.1,y4.2.2)) λk5=>
 cond (a1.Kind==12)
 (ob (Gh a0.S) λr6=>
 k5 (r6.2,(decide (a0.S.D.N<10000)),(⟨a0.Now,a0.Clients,r6.1,a0.D,a0.Seen,a0.Known,a0.Notes⟩:Aa)))
 (aA (λ(y7:(List Ae)×Bool×Aa)=>
 k5 (y7.1,y7.2.1,y7.2.2)) λk8=>
 cond (a1.Kind==14)
 (ob (Ld a0.S a1.I) λr9=>
 k8 (r9.2.1,(r9.2.2==0),(⟨a0.Now,a0.Clients,r9.1,a0.D,a0.Seen,a0.Known,a0.Notes⟩:Aa)))
 (k8 ([],true,a0))))
def Ik(a0:Ak):=
 ob (uC a0) λr1=>
 cond (!r1)
 (some [])
 (aA (λ(y2:(List (List UInt8)))=>
 ob (BA a0.Cur.Key) λr5=>
 cond (decide (y2.length+[r5].length≤bA)) (aA (λ(y6:(List (List UInt8)))=>
 some y6) λk7=>
 cond (decide ((a0.Next.length:Int)>0))
 (ob (BA a0.Next) λr8=>
 cond (decide ((y2++[r5]).length+[r8].length≤bA)) (k7 ((y2++[r5])++[r8])) none)
 (k7 (y2++[r5]))) none) λk3=>
 cond (a0.HasOld)
 (ob (BA a0.Old.Key) λr4=>
 cond (decide (([]:List (List UInt8)).length+[r4].length≤bA)) (k3 ([]++[r4])) none)
 (k3 []))
def Lf(a0:Aa)(a1:Ao):=
 aA (λ(y1:Aa×Ak)=>
 ob (Ik y1.2) λr8=>
 cond (decide (a0.Known.length+r8.length≤bA)) (ob (BA y1.2.Sn) λr9=>
 let x10:List Ae:=[(⟨13,0,0,[],r9,0,0,[],[],(⟨0,0⟩:Ah),0⟩:Ae)]
 cond (decide (a0.Notes.length+x10.length≤bA)) (some ((⟨a0.Now,a0.Clients,a0.S,a0.D,a0.Seen,a0.Known++r8,a0.Notes++x10⟩:Aa),decide (((a0.Known++r8).length:Int)≤12))) none) none) λk2=>
 cond (a1.Kind==15)
 (cond (decide (0≤zA .i64 a1.I 2)&&decide (zA .i64 a1.I 2<(a0.Clients.length:Int))) (ob (a0.Clients[(zA .i64 a1.I 2).toNat]?) λe3=>
 cond (e3.St !=3)
 (some (a0,false))
 (k2 ((⟨0,[],(⟨[],(⟨[]⟩:Ba),(⟨[],0⟩:Au),(⟨0,[]⟩:Ap),[]⟩:Ac),(⟨[],0⟩:Au),[],[],[]⟩:Aa),e3.C))) none)
 (aA (λy4=>
 cond (y4)
 (some (a0,false))
 (cond (decide (0≤a1.I)&&decide (a1.I<(a0.S.T.L.length:Int))) (ob (a0.S.T.L[a1.I.toNat]?) λe7=>
 k2 ((⟨0,[],(⟨[],(⟨[]⟩:Ba),(⟨[],0⟩:Au),(⟨0,[]⟩:Ap),[]⟩:Ac),(⟨[],0⟩:Au),[],[],[]⟩:Aa),e7.C)) none)) λk5=>
 cond (decide (a1.I≥(a0.S.T.L.length:Int)))
 (k5 true)
 (cond (decide (0≤a1.I)&&decide (a1.I<(a0.S.T.L.length:Int))) (ob (a0.S.T.L[a1.I.toNat]?) λe6=>
 k5 e6.Dead) none))
def Dz(a0:Aw)(a1:Int):Option (Aw×Int):=
 ob (Cu a0 a1) λr1=>
 cond (!r1)
 (some (a0,0))
 (cond (a0.Tries==5)
 (some ((⟨false,0,0,0⟩:Aw),2))
 (let x2:Int:=iA .i64 a1 (aE (XB .i64 2 a0.Wait) 8)
 some ((⟨true,x2,aE (XB .i64 2 a0.Wait) 8,iA .i64 a0.Tries 1⟩:Aw),1)))
def Lg(a0:Ad)(a1:Int):Option (Ad×(List Ab)×(List Ae)):=
 cond (decide ((qA .i64 a1 a0.Last)>60))
 (ob (Dr a0) λr1=>
 ob (Co a0.Id 0 a0.C.Sn) λr2=>
 some (r1,[],[r2]))
 (ob (nA a0) λr3=>
 ob (Bw a0.C a1) λr4=>
 ob (Dz a0.R a1) λr5=>
 cond (r5.2==0)
 (some ((⟨r3.Id,r3.Psk,r3.At,r3.St,r3.Cn,r3.Fin,r4,r3.T,r5.1,r3.Last⟩:Ad),[],[]))
 (aA (λ(y6:Ad)=>
 ob (Fw y6.C) λr9=>
 cond (r9.2.2 !=0)
 (some (y6,[],[]))
 (ob (Bt r9.1 r9.2.1) λr10=>
 some ((⟨y6.Id,y6.Psk,y6.At,y6.St,y6.Cn,y6.Fin,r9.1,y6.T,y6.R,y6.Last⟩:Ad),[r9.2.1],[r10]))) λk7=>
 cond (r5.2==2)
 (ob (Bf a1) λr8=>
 k7 (⟨r3.Id,r3.Psk,r3.At,r3.St,r3.Cn,r3.Fin,r4,r3.T,r8,r3.Last⟩:Ad))
 (k7 (⟨r3.Id,r3.Psk,r3.At,r3.St,r3.Cn,r3.Fin,r4,r3.T,r5.1,r3.Last⟩:Ad))))
def Il(a0:Ad)(a1:Int):Option (Ad×(List Ab)×(List Ae)):=
 ob (nA a0) λr1=>
 aA (λy2=>
 cond (y2)
 (some (r1,[],[]))
 (cond (a0.St==3)
 (ob (Lg a0 a1) λr5=>
 some (r5.1,r5.2.1,r5.2.2))
 (ob (Dz a0.T a1) λr6=>
 cond (r6.2==2)
 (ob (Dr a0) λr7=>
 ob (BA a0.Cn) λr8=>
 let x9:List Ae:=[(⟨17,a0.Id,0,r8,[],0,0,[],[],(⟨0,0⟩:Ah),0⟩:Ae)]
 some (r7,[],x9))
 (aA (λy10=>
 cond (y10)
 (ob (Fv a0) λr12=>
 some ((⟨r1.Id,r1.Psk,r1.At,r1.St,r1.Cn,r1.Fin,r1.C,r6.1,r1.R,r1.Last⟩:Ad),[r12],[]))
 (cond (r6.2==1)
 (ob (nA a0.Fin) λr13=>
 some ((⟨r1.Id,r1.Psk,r1.At,r1.St,r1.Cn,r1.Fin,r1.C,r6.1,r1.R,r1.Last⟩:Ad),[r13],[]))
 (some ((⟨r1.Id,r1.Psk,r1.At,r1.St,r1.Cn,r1.Fin,r1.C,r6.1,r1.R,r1.Last⟩:Ad),[],[])))) λk11=>
 cond (r6.2==1)
 (k11 (a0.St==1))
 (k11 false))))) λk3=>
 ob (GD a0) λr4=>
 cond (!r4)
 (k3 true)
 (cond (!(eA a1 0 1000000))
 (k3 true)
 (k3 (a0.St==0)))
def Dh(a0:Aj)(a1:Int):=
 aA (λy1=>
 cond (y1)
 (ob (nA a0) λr3=>
 some r3)
 (ob (Du a0 a1) λr4=>
 some r4)) λk2=>
 cond (!(sC a0))
 (k2 true)
 (k2 (!(eA a1 0 1000000)))
def Im(a0:Ai)(a1:Int):=
 ob (nA a0) λr1=>
 aA (λy2=>
 cond (y2)
 (some r1)
 (cond (decide ((qA .i64 a1 a0.Last)>60))
 (ob (Ez a0) λr5=>
 some r5)
 (ob (Bw a0.C a1) λr6=>
 ob (Dh a0.P a1) λr7=>
 some (⟨r1.Id,r1.Cn,r1.Sn,r6,r7,r1.Tick,r1.Last,r1.Dead⟩:Ai)))) λk3=>
 ob (KD a0) λr4=>
 cond (!r4)
 (k3 true)
 (cond (a0.Dead)
 (k3 true)
 (k3 (!(eA a1 0 1000000))))
def In(a0:Ap)(a1:Int):=
 aA (λy1=>
 cond (y1)
 (ob (nA a0) λr4=>
 some r4)
 (aA (λ(y5:Ap)=>
 some y5) λk6=>
 sA FU (λ(x7:Int×Ap) k8=>
 cond (decide (x7.1<(a0.L.length:Int)))
 (ob (kA a0.L x7.1) λe9=>
 ob (Im e9 a1) λr10=>
 aA (λ(y11:Bool)=>
 aA (λ(y13:Ap)=>
 k8 ((iA .i64 x7.1 1),y13)) λk14=>
 cond (y11)
 (cond (decide (x7.2.L.length+[r10].length≤bA)) (k14 (⟨x7.2.Cap,x7.2.L++[r10]⟩:Ap)) none)
 (k14 x7.2)) λk12=>
 cond (!r10.Dead)
 (k12 true)
 (k12 (decide ((qA .i64 a1 r10.Tick)≤10))))
 (k6 x7.2)) (0,(⟨a0.Cap,[]⟩:Ap)))) λk2=>
 ob (uG a0) λr3=>
 cond (!r3)
 (k2 true)
 (k2 (!(eA a1 0 1000000)))
def Io(a0:Ac)(a1:Int):=
 ob (nA a0) λr1=>
 aA (λy2=>
 cond (y2)
 (some (r1,[]))
 (ob (In a0.T a1) λr5=>
 aA (λ(y6:(List Ae))=>
 some ((⟨r1.Psks,r1.J,r1.D,r5,r1.Cr⟩:Ac),y6)) λk7=>
 sA FU (λ(x8:(List Ae)×Int) k9=>
 cond (decide (x8.2<(a0.T.L.length:Int)))
 (ob (kA a0.T.L x8.2) λe10=>
 ob (ID r5 e10.Sn) λr11=>
 aA (λ(y12:Bool)=>
 aA (λ(y15:(List Ae))=>
 k9 (y15,(iA .i64 x8.2 1))) λk16=>
 cond (y12)
 (ob (Co e10.Id 1 e10.Sn) λr17=>
 cond (decide (x8.1.length+[r17].length≤bA)) (k16 (x8.1++[r17])) none)
 (k16 x8.1)) λk13=>
 cond (!e10.Dead)
 (cond (decide (r11<0))
 (k13 true)
 (cond (decide (0≤r11)&&decide (r11<(r5.L.length:Int))) (ob (r5.L[r11.toNat]?) λe14=>
 k13 e14.Dead) none))
 (k13 false))
 (k7 x8.1)) ([],0))) λk3=>
 ob (HC a0) λr4=>
 cond (!r4)
 (k3 true)
 (k3 (!(eA a1 0 1000000)))
def Cc(a0:Aa):Option (Aa×(List Am)):=
 ob (nA a0) λr1=>
 aA (λy2=>
 cond (y2)
 (some (r1,[]))
 (aA (λ(y5:(List Am)×Aa)=>
 ob (Io y5.2.S y5.2.Now) λr13=>
 cond (decide (y5.2.Notes.length+r13.2.length≤bA)) (some ((⟨y5.2.Now,y5.2.Clients,r13.1,y5.2.D,y5.2.Seen,y5.2.Known,y5.2.Notes++r13.2⟩:Aa),y5.1)) none) λk6=>
 sA FU (λ(x7:(List Am)×Int×Aa) k8=>
 cond (decide (x7.2.1<(r1.Clients.length:Int)))
 (cond (decide (0≤x7.2.1)&&decide (x7.2.1<(x7.2.2.Clients.length:Int))) (ob (x7.2.2.Clients[x7.2.1.toNat]?) λe9=>
 ob (Il e9 x7.2.2.Now) λr10=>
 cond (decide (0≤x7.2.1)&&decide (x7.2.1<(x7.2.2.Clients.length:Int))) (ob (x7.2.2.Clients[x7.2.1.toNat]?) λe11=>
 cond (decide (x7.2.2.Notes.length+r10.2.2.length≤bA)) (ob (Cp r10.1 r10.2.1) λr12=>
 cond (decide (x7.1.length+r12.length≤bA)) (k8 ((x7.1++r12),(iA .i64 x7.2.1 1),(⟨x7.2.2.Now,List.set x7.2.2.Clients x7.2.1.toNat r10.1,x7.2.2.S,x7.2.2.D,x7.2.2.Seen,x7.2.2.Known,x7.2.2.Notes++r10.2.2⟩:Aa))) none) none) none) none)
 (k6 (x7.1,x7.2.2))) ([],0,(⟨iA .i64 r1.Now 1,r1.Clients,r1.S,r1.D,r1.Seen,r1.Known,r1.Notes⟩:Aa)))) λk3=>
 ob (AE a0) λr4=>
 cond (!r4)
 (k3 true)
 (k3 (a0.Now==1000000))
def Ip(a0:Au)(a1:Int):=
 ob (BA a0.Seed) λr1=>
 aA (λ(y2:Bool)=>
 aA (λ(y4:Au)=>
 some y4) λk5=>
 cond (y2)
 (k5 (⟨r1,a1⟩:Au))
 (k5 (⟨r1,a0.N⟩:Au))) λk3=>
 cond ((ZB a0))
 (k3 (eA a1 0 10000))
 (k3 false)
def Lh(a0:List Am)(a1:Am):=
 cond (decide (([]:List Am).length+a0.length≤bA)) (cond (decide (([]++a0).length+[a1].length≤bA)) (ob (nA (([]++a0)++[a1])) λr1=>
 cond (!(PD r1))
 (ob (nA a0) λr2=>
 some r2)
 (some r1)) none) none
def Bo(a0:Aa)(a1:List Am):=
 ob (nA a0) λr1=>
 aA (λ(y2:Aa)=>
 some y2) λk3=>
 sA FU (λ(x4:Int×Aa) k5=>
 cond (decide (x4.1<(a1.length:Int)))
 (ob (kA a1 x4.1) λe6=>
 ob (Lh x4.2.Seen e6) λr7=>
 k5 ((iA .i64 x4.1 1),(⟨x4.2.Now,x4.2.Clients,x4.2.S,x4.2.D,r7,x4.2.Known,x4.2.Notes⟩:Aa)))
 (k3 x4.2)) (0,r1)
def Iq(a0:Aa)(a1:Ao):Option (Aa×Bool):=
 aA (λy1=>
 cond (y1)
 (ob (nA a0) λr4=>
 some (r4,false))
 (aA (λ(y5:Bool)=>
 aA (λ(y13:(List Am)×Bool×Aa)=>
 cond (!y13.2.1)
 (ob (nA a0) λr52=>
 some (r52,false))
 (ob (Bo y13.2.2 y13.1) λr53=>
 some (r53,true))) λk14=>
 cond (y5)
 (ob (nA a0) λr15=>
 ob (Ks r15 a1) λr16=>
 k14 (r16.2.1,r16.2.2,r16.1))
 (aA (λ(y17:Bool)=>
 aA (λ(y25:(List Am)×Bool×Aa)=>
 k14 (y25.1,y25.2.1,y25.2.2)) λk26=>
 cond (y17)
 (ob (Lb a0 a1) λr27=>
 k26 (r27.2.1,r27.2.2,r27.1))
 (aA (λ(y28:Bool)=>
 aA (λ(y32:(List Am)×Bool×Aa)=>
 k26 (y32.1,y32.2.1,y32.2.2)) λk33=>
 cond (y28)
 (ob (nA a0) λr34=>
 ob (Le r34 a1) λr35=>
 k33 (r35.2.1,r35.2.2,r35.1))
 (aA (λ(y36:Bool)=>
 aA (λ(y38:(List Am)×Bool×Aa)=>
 k33 (y38.1,y38.2.1,y38.2.2)) λk39=>
 cond (y36)
 (ob (nA a0) λr40=>
 ob (Lf r40 a1) λr41=>
 k39 ([],r41.2,r41.1))
 (aA (λ(y42:(List Am)×Bool×Aa)=>
 k39 (y42.1,y42.2.1,y42.2.2)) λk43=>
 cond (a1.Kind==4)
 (ob (Cc a0) λr44=>
 k43 (r44.2,(decide (a0.Now<1000000)),r44.1))
 (aA (λ(y45:Bool×Aa)=>
 k43 ([],y45.1,y45.2)) λk46=>
 cond (a1.Kind==17)
 (ob (nA a0) λr47=>
 aA (λ(y48:Aa)=>
 k46 (true,y48)) λk49=>
 cond ((zA .i64 a1.J 2)==0)
 (ob (Ip a0.D a1.N) λr50=>
 k49 (⟨r47.Now,r47.Clients,r47.S,r50,r47.Seen,r47.Known,r47.Notes⟩:Aa))
 (ob (Ip a0.S.D a1.N) λr51=>
 k49 (⟨r47.Now,r47.Clients,(⟨r47.S.Psks,r47.S.J,r51,r47.S.T,r47.S.Cr⟩:Ac),r47.D,r47.Seen,r47.Known,r47.Notes⟩:Aa)))
 (k46 (false,(⟨0,[],(⟨[],(⟨[]⟩:Ba),(⟨[],0⟩:Au),(⟨0,[]⟩:Ap),[]⟩:Ac),(⟨[],0⟩:Au),[],[],[]⟩:Aa)))))) λk37=>
 cond (a1.Kind==15)
 (k37 (a1.Kind==15))
 (k37 (a1.Kind==16)))) λk29=>
 cond (a1.Kind==3)
 (k29 (a1.Kind==3))
 (aA (λ(y30:Bool)=>
 k29 y30) λk31=>
 cond (a1.Kind==12)
 (k31 (a1.Kind==12))
 (k31 (a1.Kind==14))))) λk18=>
 cond (a1.Kind==7)
 (k18 (a1.Kind==7))
 (aA (λ(y19:Bool)=>
 k18 y19) λk20=>
 cond (a1.Kind==8)
 (k20 (a1.Kind==8))
 (aA (λ(y21:Bool)=>
 k20 y21) λk22=>
 cond (a1.Kind==9)
 (k22 (a1.Kind==9))
 (aA (λ(y23:Bool)=>
 k22 y23) λk24=>
 cond (a1.Kind==10)
 (k24 (a1.Kind==10))
 (k24 (a1.Kind==11))))))) λk6=>
 cond (a1.Kind==1)
 (k6 (a1.Kind==1))
 (aA (λ(y7:Bool)=>
 k6 y7) λk8=>
 cond (a1.Kind==2)
 (k8 (a1.Kind==2))
 (aA (λ(y9:Bool)=>
 k8 y9) λk10=>
 cond (a1.Kind==6)
 (k10 (a1.Kind==6))
 (aA (λ(y11:Bool)=>
 k10 y11) λk12=>
 cond (a1.Kind==5)
 (k12 (a1.Kind==5))
 (k12 (a1.Kind==13))))))) λk2=>
 ob (AE a0) λr3=>
 cond (!r3)
 (k2 true)
 (cond (!(sG a1))
 (k2 true)
 (k2 (decide ((a0.Notes.length:Int)>500))))
end
end Go.D
namespace Go.D
def zbc.ok{x}(_:xA [.v .Win] x){r}:nA (α:=Aq) x=some r→Sj x=some r:=TA λh=>zin x h
def NU.ok{x}(_:xA [.v .Ep] x){r}:nA (α:=Ax) x=some r→Qg x=some r:=TA λh=>by
 rw[AL]at h;simp(disch:=omega) only[Qg,BA,nA,UA]
def mU.ok{x}(_:xA [.v .Chan] x){r}:nA (α:=Ak) x=some r→Qh x=some r:=TA λh=>by
 rw[NH]at h;simp(disch:=omega) only[Qh,BA,nA,UA]
def zoy(x:Aj)(h:wt x≤bA):Pj x=some x:=by
 have hw:wt x=wt x.Cands:=by rw[eJ,NE];omega
 rw[hw]at h;unfold Pj;simp only[aA];refine kK x.Cands h (λi acc=>(i,(⟨x.At,acc⟩:Aj))) (λacc=>some (⟨x.At,acc⟩:Aj)) (λi hi acc k=>?_) (λacc k=>?_)
 ·have rW:((i:Int)<(x.Cands.length:Int)):=by omega
  have hm:=xE hi;rw[zad]at hm;simp only[decide_eq_true rW,cond_true,KB hi,mB];rw[BA,UA (by omega)];rfl
 ·have rW:¬((x.Cands.length:Int)<(x.Cands.length:Int)):=by omega
  simp only[decide_eq_false rW,cond_false]
def LP.ok{x}(_:xA [.v .Paths] x){r}:nA (α:=Aj) x=some r→Pj x=some r:=TA λh=>zoy x h
def sU.ok{x}(_:xA [.v .Sess] x){r}:nA (α:=Ai) x=some r→Qi x=some r:=TA λh=>by
 rw[pL]at h;simp(disch:=omega) only[Qi,BA,nA,UA]
def zbb.ok{x}(_:xA [.v .Tab] x){r}:nA (α:=Ap) x=some r→Sk x=some r:=TA λh=>zib x h
def OT.ok{x}(_:xA [.sl .Credit] x){r}:nA (α:=List Al) x=some r→Qj x=some r:=TA λh=>by
 unfold Qj;rw[fE (Nat.le_trans (tB _) h)];rfl
def RT.ok{x}(_:xA [.v .Server] x){r}:nA (α:=Ac) x=some r→Qk x=some r:=TA λh=>by
 rw[rM,kT,gJ]at h;simp(disch:=omega) only[Qk,BA,oS,nA,UA]
def eU.ok{x}(_:xA [.v .Frame] x){r}:nA (α:=Ab) x=some r→Ql x=some r:=TA λh=>by
 rw[HH]at h;simp(disch:=omega) only[Ql,BA,nA,UA]
def VT.ok{x}(_:xA [.v .Client] x){r}:nA (α:=Ad) x=some r→Qm x=some r:=TA λh=>by
 rw[CM]at h;simp(disch:=omega) only[Qm,BA,nA,UA]
def zot(x:List Am)(h:wt x≤bA):Pk x=some x:=by
 unfold Pk;simp only[aA];refine kK x h (λi acc=>(acc,i)) (λacc=>some acc) (λi hi acc k=>?_) (λacc k=>?_)
 ·have rW:((i:Int)<(x.length:Int)):=by omega
  have hm:=xE hi;rw[zac]at hm;simp only[decide_eq_true rW,cond_true,KB hi,mB];rw[BA,UA (by omega)];rfl
 ·have rW:¬((x.length:Int)<(x.length:Int)):=by omega
  simp only[decide_eq_false rW,cond_false]
def yP.ok{x}(_:xA [.sl .Wire] x){r}:nA (α:=List Am) x=some r→Pk x=some r:=TA λh=>zot x h
def pU.ok{x}(_:xA [.v .Note] x){r}:nA (α:=Ae) x=some r→Qn x=some r:=TA λh=>by
 rw[jJ]at h;simp(disch:=omega) only[Qn,BA,nA,UA]
def zaP.ok{x}(_:xA [.sl .Note] x){r}:nA (α:=List Ae) x=some r→Sl x=some r:=TA λh=>zis x h
def gU.ok{x}(_:xA [.v .World] x){r}:nA (α:=Aa) x=some r→Qo x=some r:=TA λh=>by
 obtain⟨w1,w2,w3,w4,w5,w6,w7⟩:=x;rw[aG,gJ]at h;dsimp only at h;unfold Qo;simp(disch:=omega) only[BA,oS,nA,UA,aA];refine kK w2 (by omega) (λi acc=>(i,(⟨w1,acc,w3,w4,[],[],[]⟩:Aa))) (λacc=>some (⟨w1,acc,w3,w4,w5,w6,w7⟩:Aa)) (λi hi acc k=>?_) (λacc k=>?_)
 ·have rW:((i:Int)<(w2.length:Int)):=by omega
  have hm:=xE hi;simp only[decide_eq_true rW,cond_true,KB hi,mB];rw[UA (by omega)];rfl
 ·have rW:¬((w2.length:Int)<(w2.length:Int)):=by omega
  simp only[decide_eq_false rW,cond_false]
end Go.D
