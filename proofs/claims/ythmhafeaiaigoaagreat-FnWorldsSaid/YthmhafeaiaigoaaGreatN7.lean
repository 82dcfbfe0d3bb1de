/-
 Sizes of the program's data.
-/
import Derived.Test.YthmhafeaiaigoaaGreatN6
set_option linter.all false
namespace Go.D
end Go.D
namespace Go.D
noncomputable section
def DT(code:List UInt8):Bool:=decide ((code.length:Int)>1048576)
def kB{α:Type}[Wt α](a b:α):Option Bool:=pt (a=b∧wt a≤bA) true
def dK(d:Au):Option Au:=pt (wt d≤bA) d
def MC(d:Au):Au×List UInt8:=bif !ZB d||d.N==10000 then(d,[])else(⟨d.Seed,iA .i64 d.N 1⟩,zD d.Seed d.N)
def ZD(d:Au):Option (Au×List UInt8):=pt (wt d≤bA) (MC d)
def oS(l:List (List UInt8)):Option (List (List UInt8)):=pt (wt l≤bA) l
def OH(k info:List UInt8):Nat→List UInt8
 | 0=>[]
 | j+1=>XC k (OH k info j++info++[UInt8.ofNat (IntKind.wrap .u8 ((j+1:Nat):Int)).toNat])
def tI(k info:List UInt8):Nat→List UInt8
 | 0=>[]
 | j+1=>tI k info j++OH k info (j+1)
def gH(k info:List UInt8)(n:Int):List UInt8×Bool:=
 bif !eA n 0 8160||decide ((info.length:Int)>100)||decide ((k.length:Int)>1048576)then([],false)else((tI k info ((n.toNat+31) / 32)).take n.toNat,true)
def yL(k label:List UInt8):List UInt8:=(gH k label 32).1
def ME(k label:List UInt8):Option (List UInt8):=pt (wt label≤bA) (yL k label)
def eG(b:List UInt8):Ba:=bif oA b then⟨yL b [106,97,114]⟩else⟨[]⟩
def lE(n:Int):Ap:=bif eA n 1 6 then⟨n,[]⟩else⟨0,[]⟩
def zdo:Ac:=⟨[],⟨[]⟩,⟨[],0⟩,⟨0,[]⟩,[]⟩
def IC(psks:List (List UInt8))(seed:List UInt8)(most:Int):Ac:=⟨psks,eG (MC ⟨seed,0⟩).2,(MC ⟨seed,0⟩).1,lE most,[]⟩
def dO(psks:List (List UInt8))(seed:List UInt8)(most:Int):Ac:=bif LB (IC psks seed most)then IC psks seed most else zdo
def KR(psks:List (List UInt8))(seed:List UInt8)(most:Int):Option Ac:=pt (wt psks+wt seed+1000≤bA) (dO psks seed most)
def zgY:Ab:=⟨0,0,[],[],0,[],[],0,0,[],[]⟩
def zhk:Ak:=⟨0,[],znK,znK,false,0,[]⟩
def zmI:Aw:=⟨false,0,0,0⟩
def aJ(id:Int)(psk:List UInt8)(a:Ah):Ad:=⟨id,psk,a,0,[],zgY,zhk,zmI,zmI,0⟩
def MB(id:Int)(psk:List UInt8)(a:Ah):Ad:=bif eA id 1 9&&AC psk&&GA a then aJ id psk a else aJ 0 [] ⟨0,0⟩
def XI(id:Int)(psk:List UInt8)(a:Ah):Option Ad:=pt (wt psk≤bA) (MB id psk a)
def KE(b:List UInt8):Ae:=⟨14,0,0,[],[],0,0,b,[],⟨0,0⟩,0⟩
def uV(k:List UInt8):Ae:=⟨12,0,0,[],[],0,0,[],k,⟨0,0⟩,0⟩
def TD(b:List UInt8):Option Ae:=pt (wt b≤bA) (KE b)
def uI(s:List UInt8):List UInt8:=s.take 31++[99]
def zdh(s:List UInt8):Option (List UInt8):=pt (wt s≤bA) (uI s)
def zwL:Aa:=⟨0,[],zdo,⟨[],0⟩,[],[],[]⟩
def HV(s a b:List UInt8)(most:Int):Aa:=⟨0,[MB 1 a (vB 1),MB 2 b (vB 2)],IC [a,b] s most,⟨uI s,0⟩,[],[],[KE (zD s 0),uV (IC [a,b] s most).J.Secret]⟩
def fL(s a b:List UInt8)(most:Int):Aa:=bif LB (IC [a,b] s most)then HV s a b most else zwL
def zcJ(s a b:List UInt8)(most:Int):Option Aa:=pt (wt a+wt b+wt s+2000≤bA) (fL s a b most)
end
end Go.D
namespace Go.D
open Option renaming bind→ob
noncomputable section
def Si(a0:List UInt8):=
 some (decide ((a0.length:Int)>1048576))
def Gi(a0:List UInt8):=
 aA (λ(y1:Int)=>
 some (⟨a0,0,y1⟩:Af)) λk2=>
 sA FU (λ(x3:Int×Int) k4=>
 aA (λy5=>
 cond (y5)
 (ob (kA a0 x3.2) λe7=>
 let x8:Int:=IntKind.wrap .i64 ((e7.toNat:Nat):Int);let x9:Int:=iA .i64 (iA .i64 (XB .i64 x3.1 137) x8) 11
 k4 ((QB .i64 x9 1073741823),(iA .i64 x3.2 1)))
 (k2 x3.1)) λk6=>
 cond (decide (x3.2<(a0.length:Int)))
 (k6 (decide (x3.2<4000)))
 (k6 false)) ((iA .i64 127812 (a0.length:Int)),0)
def Cd(a0:Af):=
 let x1:Int:=iA .i64 (XB .i64 a0.h 6364136223846793005) 1442695040888963407;let x2:Int:=xB .i64 (GE .i64 x1 33) (GE .i64 x1 47)
 aA (λ(y3:Int×Af)=>
 some (y3.1,y3.2)) λk4=>
 cond (decide (a0.i<(a0.b.length:Int)))
 (ob (kA a0.b a0.i) λe5=>
 let x6:Int:=IntKind.wrap .i64 ((e5.toNat:Nat):Int);let x7:Int:=QB .i64 (iA .i64 (QB .i64 x2 255) x6) 255
 k4 (x7,(⟨a0.b,iA .i64 a0.i 1,x1⟩:Af)))
 (k4 ((QB .i64 x2 255),(⟨a0.b,a0.i,x1⟩:Af)))
def Ar(a0:Af)(a1:Int):=
 cond (decide (a1≤0))
 (some (0,a0))
 (cond (decide (a1≤256))
 (ob (Cd a0) λr1=>
 cond (a1==0) none (some (zA .i64 r1.1 a1,r1.2)))
 (ob (Cd a0) λr2=>
 ob (Cd r2.2) λr3=>
 ob (Cd r3.2) λr4=>
 let x5:Int:=iA .i64 (XB .i64 r2.1 65536) (XB .i64 r3.1 256)
 cond (a1==0) none (some (zA .i64 (iA .i64 x5 r4.1) a1,r4.2))))
def As(a0:Af)(a1:List Int):=
 ob (Ar a0 (a1.length:Int)) λr1=>
 ob (kA a1 r1.1) λe2=>
 some (e2,r1.2)
def Ay(a0:Af)(a1:Int):=
 aA (λ(y1:(List UInt8)×Af)=>
 some (y1.1,y1.2)) λk2=>
 sA FU (λ(x3:(List UInt8)×Int×Af) k4=>
 cond (decide (x3.2.1<a1))
 (ob (Cd x3.2.2) λr5=>
 cond (decide (x3.1.length+[UInt8.ofNat (IntKind.wrap .u8 r5.1:Int).toNat].length≤bA)) (k4 ((x3.1++[UInt8.ofNat (IntKind.wrap .u8 r5.1:Int).toNat]),(iA .i64 x3.2.1 1),r5.2)) none)
 (k2 (x3.1,x3.2.2))) ([],0,a0)
def Ps(a0:Au):=
 ob (BA a0.Seed) λr1=>
 aA (λy2=>
 cond (y2)
 (some ((⟨r1,a0.N⟩:Au),[]))
 (let r4:(List UInt8):=zD a0.Seed a0.N
 some ((⟨r1,iA .i64 a0.N 1⟩:Au),r4))) λk3=>
 cond (!(ZB a0))
 (k3 true)
 (k3 (a0.N==10000))
def Pt(a0:List (List UInt8)):=
 aA (λ(y1:(List (List UInt8)))=>
 some y1) λk2=>
 sA FU (λ(x3:(List (List UInt8))×Int) k4=>
 cond (decide (x3.2<(a0.length:Int)))
 (ob (kA a0 x3.2) λe5=>
 ob (BA e5) λr6=>
 cond (decide (x3.1.length+[r6].length≤bA)) (k4 ((x3.1++[r6]),(iA .i64 x3.2 1))) none)
 (k2 x3.1)) ([],0)
def Nw(a0:List UInt8)(a1:List UInt8)(a2:Int):=
 aA (λy1=>
 cond (y1)
 (some ([],false))
 (aA (λ(y3:(List UInt8)×(List UInt8))=>
 cond (decide (0≤(0:Int))&&decide ((0:Int)≤a2)&&decide (a2≤(y3.1.length:Int))) (ob (BA (List.take ((a2 - 0).toNat) (List.drop 0 y3.1))) λr10=>
 some (r10,true)) none) λk4=>
 sA FU (λ(x5:(List UInt8)×(List UInt8)×Int) k6=>
 cond (decide ((x5.1.length:Int)<a2))
 (let x7:List (List UInt8):=[x5.2.1,a1,[UInt8.ofNat (IntKind.wrap .u8 x5.2.2:Int).toNat]]
 ob (lD x7) λr8=>
 let r9:(List UInt8):=XC a0 r8
 cond (decide (x5.1.length+r9.length≤bA)) (k6 ((x5.1++r9),r9,(iA .i64 x5.2.2 1))) none)
 (k4 (x5.1,x5.2.1))) ([],[],1))) λk2=>
 cond (!(eA a2 0 8160))
 (k2 true)
 (cond (decide ((a1.length:Int)>100))
 (k2 true)
 (k2 (decide ((a0.length:Int)>1048576))))
def Pu(a0:List UInt8)(a1:List UInt8):=
 cond (Nat.ble a1.length bA) (let r1:(List UInt8)×Bool:=gH a0 a1 32
 some r1.1) none
def Pv(a0:List UInt8):=
 ob (BA a0) λr1=>
 some (⟨14,0,0,[],[],0,0,r1,[],(⟨0,0⟩:Ah),0⟩:Ae)
def Pw(a0:Au):=
 cond (decide (([]:List UInt8).length+a0.Seed.length≤bA)) (some (⟨[]++a0.Seed,a0.N⟩:Au)) none
def Px(a0:Au):=
 ob (dK a0) λr1=>
 aA (λy2=>
 cond (y2)
 (some (r1,[]))
 (let r4:(List UInt8):=zD a0.Seed a0.N
 some ((⟨r1.Seed,iA .i64 a0.N 1⟩:Au),r4))) λk3=>
 cond (!(ZB a0))
 (k3 true)
 (k3 (a0.N==10000))
def Nx(a0:List UInt8)(a1:List UInt8)(a2:Int):=
 aA (λy1=>
 cond (y1)
 (some ([],false))
 (aA (λ(y3:(List UInt8)×(List UInt8))=>
 cond (decide (0≤(0:Int))&&decide ((0:Int)≤a2)&&decide (a2≤(y3.1.length:Int))) (cond (decide (([]:List UInt8).length+(List.take ((a2 - 0).toNat) (List.drop 0 y3.1)).length≤bA)) (some ([]++(List.take ((a2 - 0).toNat) (List.drop 0 y3.1)),true)) none) none) λk4=>
 sA FU (λ(x5:(List UInt8)×(List UInt8)×Int) k6=>
 cond (decide ((x5.1.length:Int)<a2))
 (cond (decide (([]:List UInt8).length+x5.2.1.length≤bA)) (cond (decide (([]++x5.2.1).length+a1.length≤bA)) (cond (decide ((([]++x5.2.1)++a1).length+[UInt8.ofNat (IntKind.wrap .u8 x5.2.2:Int).toNat].length≤bA)) (let x7:List UInt8:=(([]++x5.2.1)++a1)++[UInt8.ofNat (IntKind.wrap .u8 x5.2.2:Int).toNat]
 let r8:(List UInt8):=XC a0 x7
 cond (decide (x5.1.length+r8.length≤bA)) (k6 ((x5.1++r8),r8,(iA .i64 x5.2.2 1))) none) none) none) none)
 (k4 (x5.1,x5.2.1))) ([],[],1))) λk2=>
 cond (!(eA a2 0 8160))
 (k2 true)
 (cond (decide ((a1.length:Int)>100))
 (k2 true)
 (k2 (decide ((a0.length:Int)>1048576))))
def Py(a0:List UInt8)(a1:List UInt8):=
 cond (Nat.ble a1.length bA) (let r1:(List UInt8)×Bool:=gH a0 a1 32
 some r1.1) none
def Pz(a0:List UInt8):=
 cond ((a0.length:Int) !=12)
 (some (⟨[]⟩:Ba))
 (ob (ME a0 [106,97,114]) λr1=>
 some (⟨r1⟩:Ba))
def Qa(a0:Int):=
 cond (!(eA a0 1 6))
 (some (⟨0,[]⟩:Ap))
 (some (⟨a0,[]⟩:Ap))
def Qb(a0:List (List UInt8))(a1:List UInt8)(a2:Int):=
 ob (ZD (⟨a1,0⟩:Au)) λr1=>
 let r2:Ba:=eG r1.2;let r3:Ap:=lE a2
 aA (λ(y4:Ac)=>
 ob (HC y4) λr9=>
 cond (!r9)
 (some (⟨[],(⟨[]⟩:Ba),(⟨[],0⟩:Au),(⟨0,[]⟩:Ap),[]⟩:Ac))
 (some y4)) λk5=>
 sA FU (λ(x6:Int×Ac) k7=>
 cond (decide (x6.1<(a0.length:Int)))
 (ob (kA a0 x6.1) λe8=>
 cond (decide (([]:List UInt8).length+e8.length≤bA)) (cond (decide (x6.2.Psks.length+[[]++e8].length≤bA)) (k7 ((iA .i64 x6.1 1),(⟨x6.2.Psks++[[]++e8],x6.2.J,x6.2.D,x6.2.T,x6.2.Cr⟩:Ac))) none) none)
 (k5 x6.2)) (0,(⟨[],r2,r1.1,r3,[]⟩:Ac))
def Qc(a0:List UInt8):=
 cond (decide (([]:List UInt8).length+a0.length≤bA)) (aA (λ(y1:(List UInt8))=>
 cond (decide (y1.length+[UInt8.ofNat (99:Int).toNat].length≤bA)) (some (y1++[UInt8.ofNat (99:Int).toNat])) none) λk2=>
 cond (decide ((([]++a0).length:Int)>31))
 (cond (decide (0≤(0:Int))&&decide ((0:Int)≤31)&&decide (31≤(([]++a0).length:Int))) (k2 (List.take 31 ([]++a0))) none)
 (k2 ([]++a0))) none
def Qd(a0:Int)(a1:List UInt8)(a2:Ah):=
 aA (λy1=>
 cond (y1)
 (some (⟨0,[],(⟨0,0⟩:Ah),0,[],(⟨0,0,[],[],0,[],[],0,0,[],[]⟩:Ab),(⟨0,[],(⟨0,[],0,(⟨0,[]⟩:Aq)⟩:Ax),(⟨0,[],0,(⟨0,[]⟩:Aq)⟩:Ax),false,0,[]⟩:Ak),(⟨false,0,0,0⟩:Aw),(⟨false,0,0,0⟩:Aw),0⟩:Ad))
 (cond (decide (([]:List UInt8).length+a1.length≤bA)) (some (⟨a0,[]++a1,a2,0,[],(⟨0,0,[],[],0,[],[],0,0,[],[]⟩:Ab),(⟨0,[],(⟨0,[],0,(⟨0,[]⟩:Aq)⟩:Ax),(⟨0,[],0,(⟨0,[]⟩:Aq)⟩:Ax),false,0,[]⟩:Ak),(⟨false,0,0,0⟩:Aw),(⟨false,0,0,0⟩:Aw),0⟩:Ad)) none)) λk2=>
 cond (!(eA a0 1 9))
 (k2 true)
 (cond (!(AC a1))
 (k2 true)
 (k2 (!(GA a2))))
def Qe(a0:List UInt8):=
 cond (decide (([]:List UInt8).length+a0.length≤bA)) (some (⟨14,0,0,[],[],0,0,[]++a0,[],(⟨0,0⟩:Ah),0⟩:Ae)) none
def Qf(a0:List UInt8)(a1:List UInt8)(a2:List UInt8)(a3:Int):=
 ob (KR [a1,a2] a0 a3) λr1=>
 ob (HC r1) λr2=>
 cond (!r2)
 (some (⟨0,[],(⟨[],(⟨[]⟩:Ba),(⟨[],0⟩:Au),(⟨0,[]⟩:Ap),[]⟩:Ac),(⟨[],0⟩:Au),[],[],[]⟩:Aa))
 (ob (zdh a0) λr3=>
 let r4:Ah:=vB 1
 ob (XI 1 a1 r4) λr5=>
 let r6:Ah:=vB 2
 ob (XI 2 a2 r6) λr7=>
 let r8:(List UInt8):=zD a0 0
 ob (TD r8) λr9=>
 cond (decide (([]:List UInt8).length+r1.J.Secret.length≤bA)) (let x10:List Ae:=[r9,(⟨12,0,0,[],[],0,0,[],[]++r1.J.Secret,(⟨0,0⟩:Ah),0⟩:Ae)]
 some (⟨0,[r5,r7],r1,(⟨r3,0⟩:Au),[],[],x10⟩:Aa)) none)
def Ny(a0:List UInt8)(a1:List UInt8):=
 cond (Nat.ble a0.length bA) (cond (Nat.ble a1.length bA) (some (a0==a1)) none) none
def Nz(a0:List Int)(a1:List Int):=
 cond ((a0.length:Int) !=(a1.length:Int))
 (some false)
 (aA (λ(y1:Unit)=>
 some true) λk2=>
 sA FU (λ(x3:Int) k4=>
 cond (decide (x3<(a0.length:Int)))
 (ob (kA a0 x3) λe5=>
 ob (kA a1 x3) λe6=>
 cond (e5 !=e6)
 (some false)
 (k4 (iA .i64 x3 1)))
 (k2 ())) 0)
def Oa(a0:Aq)(a1:Aq):=
 aA (λ(y1:Bool)=>
 some y1) λk2=>
 cond (a0.Top==a1.Top)
 (ob (kB a0.Bits a1.Bits) λr3=>
 k2 r3)
 (k2 false)
def Ob(a0:Ax)(a1:Ax):=
 aA (λ(y1:Bool)=>
 some y1) λk2=>
 cond (a0.N==a1.N)
 (ob (kB a0.Key a1.Key) λr3=>
 cond (r3)
 (cond (a0.Seq==a1.Seq)
 (ob (kB a0.Win a1.Win) λr4=>
 k2 r4)
 (k2 false))
 (k2 false))
 (k2 false)
def Oc(a0:Ak)(a1:Ak):=
 aA (λ(y1:Bool)=>
 some y1) λk2=>
 cond (a0.Role==a1.Role)
 (ob (kB a0.Sn a1.Sn) λr3=>
 cond (r3)
 (ob (kB a0.Cur a1.Cur) λr4=>
 cond (r4)
 (ob (kB a0.Old a1.Old) λr5=>
 cond (r5)
 (cond (a0.HasOld==a1.HasOld)
 (cond (a0.Until==a1.Until)
 (ob (kB a0.Next a1.Next) λr6=>
 k2 r6)
 (k2 false))
 (k2 false))
 (k2 false))
 (k2 false))
 (k2 false))
 (k2 false)
def Od(a0:Aj)(a1:Aj):=
 aA (λy1=>
 cond (y1)
 (some false)
 (aA (λ(y4:Unit)=>
 some true) λk5=>
 sA FU (λ(x6:Int) k7=>
 cond (decide (x6<(a0.Cands.length:Int)))
 (aA (λy8=>
 cond (y8)
 (some false)
 (k7 (iA .i64 x6 1))) λk9=>
 ob (kA a0.Cands x6) λe10=>
 ob (kA a1.Cands x6) λe11=>
 let x12:Bool:=!(cond (e10.A.Host==e11.A.Host) (cond (e10.A.Port==e11.A.Port) (true) false) false)
 cond (x12)
 (k9 true)
 (ob (kA a0.Cands x6) λe13=>
 ob (kA a1.Cands x6) λe14=>
 ob (kB e13.Draw e14.Draw) λr15=>
 cond (!r15)
 (k9 true)
 (ob (kA a0.Cands x6) λe16=>
 ob (kA a1.Cands x6) λe17=>
 k9 (e16.Until !=e17.Until))))
 (k5 ())) 0)) λk2=>
 let x3:Bool:=!(cond (a0.At.Host==a1.At.Host) (cond (a0.At.Port==a1.At.Port) (true) false) false)
 cond (x3)
 (k2 true)
 (k2 ((a0.Cands.length:Int) !=(a1.Cands.length:Int)))
def Oe(a0:Ai)(a1:Ai):=
 aA (λ(y1:Bool)=>
 some y1) λk2=>
 cond (a0.Id==a1.Id)
 (ob (kB a0.Cn a1.Cn) λr3=>
 cond (r3)
 (ob (kB a0.Sn a1.Sn) λr4=>
 cond (r4)
 (ob (kB a0.C a1.C) λr5=>
 cond (r5)
 (ob (kB a0.P a1.P) λr6=>
 cond (r6)
 (cond (a0.Tick==a1.Tick)
 (cond (a0.Last==a1.Last)
 (k2 (a0.Dead==a1.Dead))
 (k2 false))
 (k2 false))
 (k2 false))
 (k2 false))
 (k2 false))
 (k2 false))
 (k2 false)
def Of(a0:Ap)(a1:Ap):=
 aA (λy1=>
 cond (y1)
 (some false)
 (aA (λ(y3:Unit)=>
 some true) λk4=>
 sA FU (λ(x5:Int) k6=>
 cond (decide (x5<(a0.L.length:Int)))
 (ob (kA a0.L x5) λe7=>
 ob (kA a1.L x5) λe8=>
 ob (kB e7 e8) λr9=>
 cond (!r9)
 (some false)
 (k6 (iA .i64 x5 1)))
 (k4 ())) 0)) λk2=>
 cond (a0.Cap !=a1.Cap)
 (k2 true)
 (k2 ((a0.L.length:Int) !=(a1.L.length:Int)))
def Og(a0:List Al)(a1:List Al):=
 cond ((a0.length:Int) !=(a1.length:Int))
 (some false)
 (aA (λ(y1:Unit)=>
 some true) λk2=>
 sA FU (λ(x3:Int) k4=>
 cond (decide (x3<(a0.length:Int)))
 (ob (kA a0 x3) λe5=>
 ob (kA a1 x3) λe6=>
 let x7:Bool:=!(cond (e5.A.Host==e6.A.Host) (cond (e5.A.Port==e6.A.Port) (cond (e5.Got==e6.Got) (cond (e5.Sent==e6.Sent) (true) false) false) false) false)
 cond (x7)
 (some false)
 (k4 (iA .i64 x3 1)))
 (k2 ())) 0)
def Oh(a0:Ac)(a1:Ac):=
 aA (λy1=>
 cond (y1)
 (some false)
 (aA (λ(y7:Unit)=>
 some true) λk8=>
 sA FU (λ(x9:Int) k10=>
 cond (decide (x9<(a0.Psks.length:Int)))
 (ob (kA a0.Psks x9) λe11=>
 ob (kA a1.Psks x9) λe12=>
 ob (kB e11 e12) λr13=>
 cond (!r13)
 (some false)
 (k10 (iA .i64 x9 1)))
 (k8 ())) 0)) λk2=>
 cond ((a0.Psks.length:Int) !=(a1.Psks.length:Int))
 (k2 true)
 (ob (kB a0.J.Secret a1.J.Secret) λr3=>
 cond (!r3)
 (k2 true)
 (ob (kB a0.D.Seed a1.D.Seed) λr4=>
 cond (!r4)
 (k2 true)
 (cond (a0.D.N !=a1.D.N)
 (k2 true)
 (ob (kB a0.T a1.T) λr5=>
 cond (!r5)
 (k2 true)
 (ob (kB a0.Cr a1.Cr) λr6=>
 k2 (!r6))))))
def Oi(a0:List Am)(a1:List Am):=
 cond ((a0.length:Int) !=(a1.length:Int))
 (some false)
 (aA (λ(y1:Unit)=>
 some true) λk2=>
 sA FU (λ(x3:Int) k4=>
 cond (decide (x3<(a0.length:Int)))
 (aA (λy5=>
 cond (y5)
 (some false)
 (k4 (iA .i64 x3 1))) λk6=>
 ob (kA a0 x3) λe7=>
 ob (kA a1 x3) λe8=>
 let x9:Bool:=!(cond (e7.From.Host==e8.From.Host) (cond (e7.From.Port==e8.From.Port) (true) false) false)
 cond (x9)
 (k6 true)
 (ob (kA a0 x3) λe10=>
 ob (kA a1 x3) λe11=>
 let x12:Bool:=!(cond (e10.To.Host==e11.To.Host) (cond (e10.To.Port==e11.To.Port) (true) false) false)
 cond (x12)
 (k6 true)
 (ob (kA a0 x3) λe13=>
 ob (kA a1 x3) λe14=>
 ob (kB e13.B e14.B) λr15=>
 k6 (!r15))))
 (k2 ())) 0)
def Oj(a0:Ae)(a1:Ae):=
 aA (λ(y1:Bool)=>
 some y1) λk2=>
 cond (a0.Kind==a1.Kind)
 (cond (a0.Id==a1.Id)
 (cond (a0.Role==a1.Role)
 (cond (a0.Epoch==a1.Epoch)
 (cond (a0.Seq==a1.Seq)
 (let x3:Bool:=cond (a0.A.Host==a1.A.Host) (cond (a0.A.Port==a1.A.Port) (true) false) false
 cond (x3)
 (cond (a0.Now==a1.Now)
 (ob (FB a0.Cn a1.Cn) λr4=>
 cond (r4)
 (ob (FB a0.Sn a1.Sn) λr5=>
 cond (r5)
 (ob (FB a0.Body a1.Body) λr6=>
 cond (r6)
 (ob (FB a0.Key a1.Key) λr7=>
 k2 r7)
 (k2 false))
 (k2 false))
 (k2 false))
 (k2 false))
 (k2 false))
 (k2 false))
 (k2 false))
 (k2 false))
 (k2 false))
 (k2 false)
def Ol(a0:List Ae)(a1:List Ae):=
 cond ((a0.length:Int) !=(a1.length:Int))
 (some false)
 (aA (λ(y1:Unit)=>
 some true) λk2=>
 sA FU (λ(x3:Int) k4=>
 cond (decide (x3<(a0.length:Int)))
 (ob (kA a0 x3) λe5=>
 ob (kA a1 x3) λe6=>
 ob (kB e5 e6) λr7=>
 cond (!r7)
 (some false)
 (k4 (iA .i64 x3 1)))
 (k2 ())) 0)
def Om(a0:Ab)(a1:Ab):=
 aA (λ(y1:Bool)=>
 some y1) λk2=>
 cond (a0.Kind==a1.Kind)
 (cond (a0.Id==a1.Id)
 (ob (kB a0.Cn a1.Cn) λr3=>
 cond (r3)
 (ob (kB a0.Sn a1.Sn) λr4=>
 cond (r4)
 (cond (a0.Tick==a1.Tick)
 (ob (kB a0.Cookie a1.Cookie) λr5=>
 cond (r5)
 (ob (kB a0.Proof a1.Proof) λr6=>
 cond (r6)
 (cond (a0.Epoch==a1.Epoch)
 (cond (a0.Seq==a1.Seq)
 (ob (kB a0.Body a1.Body) λr7=>
 cond (r7)
 (ob (kB a0.Tag a1.Tag) λr8=>
 k2 r8)
 (k2 false))
 (k2 false))
 (k2 false))
 (k2 false))
 (k2 false))
 (k2 false))
 (k2 false))
 (k2 false))
 (k2 false))
 (k2 false)
def Oo(a0:Ad)(a1:Ad):=
 aA (λ(y1:Bool)=>
 some y1) λk2=>
 cond (a0.Id==a1.Id)
 (ob (kB a0.Psk a1.Psk) λr3=>
 cond (r3)
 (let x4:Bool:=cond (a0.At.Host==a1.At.Host) (cond (a0.At.Port==a1.At.Port) (true) false) false
 cond (x4)
 (cond (a0.St==a1.St)
 (ob (kB a0.Cn a1.Cn) λr5=>
 cond (r5)
 (ob (kB a0.Fin a1.Fin) λr6=>
 cond (r6)
 (ob (kB a0.C a1.C) λr7=>
 cond (r7)
 (let x8:Bool:=cond (a0.T.On==a1.T.On) (cond (a0.T.Due==a1.T.Due) (cond (a0.T.Wait==a1.T.Wait) (cond (a0.T.Tries==a1.T.Tries) (true) false) false) false) false
 cond (x8)
 (let x9:Bool:=cond (a0.R.On==a1.R.On) (cond (a0.R.Due==a1.R.Due) (cond (a0.R.Wait==a1.R.Wait) (cond (a0.R.Tries==a1.R.Tries) (true) false) false) false) false
 cond (x9)
 (k2 (a0.Last==a1.Last))
 (k2 false))
 (k2 false))
 (k2 false))
 (k2 false))
 (k2 false))
 (k2 false))
 (k2 false))
 (k2 false))
 (k2 false)
def Oq(a0:Aa)(a1:Aa):=
 aA (λy1=>
 cond (y1)
 (some false)
 (aA (λ(y7:Unit)=>
 aA (λ(y14:Unit)=>
 some true) λk15=>
 sA FU (λ(x16:Int) k17=>
 cond (decide (x16<(a0.Known.length:Int)))
 (ob (kA a0.Known x16) λe18=>
 ob (kA a1.Known x16) λe19=>
 ob (kB e18 e19) λr20=>
 cond (!r20)
 (some false)
 (k17 (iA .i64 x16 1)))
 (k15 ())) 0) λk8=>
 sA FU (λ(x9:Int) k10=>
 cond (decide (x9<(a0.Clients.length:Int)))
 (ob (kA a0.Clients x9) λe11=>
 ob (kA a1.Clients x9) λe12=>
 ob (kB e11 e12) λr13=>
 cond (!r13)
 (some false)
 (k10 (iA .i64 x9 1)))
 (k8 ())) 0)) λk2=>
 cond (a0.Now !=a1.Now)
 (k2 true)
 (cond ((a0.Clients.length:Int) !=(a1.Clients.length:Int))
 (k2 true)
 (ob (kB a0.S a1.S) λr3=>
 cond (!r3)
 (k2 true)
 (ob (kB a0.D.Seed a1.D.Seed) λr4=>
 cond (!r4)
 (k2 true)
 (cond (a0.D.N !=a1.D.N)
 (k2 true)
 (ob (kB a0.Seen a1.Seen) λr5=>
 cond (!r5)
 (k2 true)
 (cond ((a0.Known.length:Int) !=(a1.Known.length:Int))
 (k2 true)
 (ob (kB a0.Notes a1.Notes) λr6=>
 k2 (!r6))))))))
end
end Go.D
namespace Go.D
end Go.D
namespace Go.D
def Ok{α:Type}(o:Option α)(P:α→Prop):Prop:=∃r,o=some r∧P r
def Ok.bind{α β:Type}{o:Option α}{P:α→Prop}{Q:β→Prop}{f:α→Option β}(h:Ok o P)(k:∀r,P r→Ok (f r) Q):Ok (Option.bind o f) Q:=by
 obtain⟨r,rfl,h⟩:=h;exact k r h
def Ok.some'{α:Type}{x:α}{P:α→Prop}(h:P x):Ok (some x) P:=⟨x,rfl,h⟩
def Ok.mono{α:Type}{o:Option α}{P Q:α→Prop}(h:Ok o P)(k:∀r,P r→Q r):Ok o Q:=by
 obtain⟨r,h1,h2⟩:=h;exact⟨r,h1,k r h2⟩
def Ok.cond'{α:Type}{b:Bool}{x y:Option α}{P:α→Prop}(h1:b=true→Ok x P)(h2:b=false→Ok y P):Ok (cond b x y) P:=by
 cases b
 ·exact h2 rfl
 ·exact h1 rfl
def Ok.loop{σ R:Type}{f:σ→(σ→Option R)→Option R}{P:R→Prop}(inv:σ→Prop)(μ:σ→Nat)
  (h:∀x,inv x→∀k:σ→Option R,(∀y,inv y→μ y<μ x→Ok (k y) P)→Ok (f x k) P) {x:σ} (hx:inv x) (hμ:μ x<2^64):Ok (sA FU f x) P:=by
 rw[zhd]
 have:∀(n:Nat) (x:σ),inv x→μ x<n→Ok (sA n f x) P:=by
  intro n;induction n with
  | zero=>intro x _ hn;omega
  | succ n ih=>intro x hx hn;exact h x hx (sA n f) λy hy OV=>ih y hy (by omega)
 exact this _ x hx hμ
def zwx(x:Int)(j:Nat)(hj:j<63):0≤QB .i64 x ((2^j - 1:Nat):Int)∧QB .i64 x ((2^j - 1:Nat):Int)≤((2^j - 1:Nat):Int):=by
 have h1:2^j<2^63:=Nat.pow_lt_pow_right (by decide) hj;have h0:0<2^j:=Nat.two_pow_pos j;unfold QB;show 0≤IntKind.wrap .i64 ((BitVec.ofInt 64 x&&&BitVec.ofInt 64 ((2^j - 1:Nat):Int)).toNat:Int)∧IntKind.wrap .i64 ((BitVec.ofInt 64 x&&&BitVec.ofInt 64 ((2^j - 1:Nat):Int)).toNat:Int)≤_
 have h2:(BitVec.ofInt 64 x&&&BitVec.ofInt 64 ((2^j - 1:Nat):Int)).toNat≤2^j - 1:=by
  rw[BitVec.toNat_and,kO _ (by omega)];exact Nat.and_le_right
 generalize (BitVec.ofInt 64 x&&&BitVec.ofInt 64 ((2^j - 1:Nat):Int)).toNat=m at h2;rw[UB (by omega) (by omega)];omega
def zda(x:Int):0≤QB .i64 x 255∧QB .i64 x 255≤255:=zwx x 8 (by decide)
def lA(c:Af):Prop:=0≤c.i∧c.i≤c.b.length∧c.b.length≤1048576
def zvW{code:List UInt8}(h:code.length≤1048576):Ok (Gi code) lA:=by
 simp only[Gi,aA];refine Ok.loop (λx:Int×Int=>0≤x.2∧x.2≤(code.length:Int)) (λx=>code.length - x.2.toNat) (λx hx k hk=>?_) ⟨Int.le_refl _,by show(0:Int)≤(code.length:Int);omega⟩ (by show code.length - Int.toNat 0<_;omega);obtain⟨s,i⟩:=x;obtain⟨h0,h1⟩:=hx;simp only at h0 h1 hk⊢;obtain⟨j,rfl⟩:=Int.eq_ofNat_of_zero_le h0;have cC:Ok (some (⟨code,0,s⟩:Af)) lA:= .some' ⟨Int.le_refl _,by show(0:Int)≤_;omega,h⟩;refine .cond' (λhj=>?_) λ_=>cC;have hj:j<code.length:=by simpa using hj
 refine .cond' (λ_=>?_) λ_=>cC;rw[KB hj,mB];have:iA .i64 (j:Int) 1=((j+1:Nat):Int):=HG j (by rw[xD];omega);rw[this];exact hk _ ⟨by show(0:Int)≤((j+1:Nat):Int);omega,by show((j+1:Nat):Int)≤_;omega⟩ (by simp only[Int.toNat_natCast];omega)
def MS{c:Af}(h:lA c):Ok (Cd c) λr=>0≤r.1∧r.1≤255∧lA r.2:=by
 obtain⟨h0,h1,h2⟩:=h;simp only[Cd,aA];refine .cond' (λhc=>?_) λ_=> .some' ⟨(zda _).1,(zda _).2,h0,h1,h2⟩;have hc:c.i<(c.b.length:Int):=by simpa using hc
 obtain⟨j,hj⟩:=Int.eq_ofNat_of_zero_le h0;rw[hj]at hc⊢;have F0:j<c.b.length:=by omega
 rw[KB F0,mB];refine .some' ⟨(zda _).1,(zda _).2,?_,?_,h2⟩
 ·show 0≤iA .i64 (j:Int) 1
  rw[iA,HG j (by rw[xD];omega)];omega
 ·show iA .i64 (j:Int) 1≤(c.b.length:Int)
  rw[iA,HG j (by rw[xD];omega)];omega
def MH{a n:Int}(ha:0≤a)(hn:0<n):0≤zA .i64 a n∧zA .i64 a n<n:=by
 unfold zA;rw[Int.tmod_eq_emod_of_nonneg ha];exact⟨Int.emod_nonneg _ (by omega),Int.emod_lt_of_pos _ hn⟩
def zf5{c:Af}{n:Int}(h:lA c):Ok (Ar c n) λr=>0≤r.1∧(0<n→r.1<n)∧(n≤0→r.1=0)∧lA r.2:=by
 simp only[Ar];refine .cond' (λhn=>?_) λhn=>?_
 ·have hn:n≤0:=by simpa using hn
  exact .some' ⟨Int.le_refl _,λh=>by omega,λ_=>rfl,h⟩
 ·have hn:0<n:=by simpa using hn
  have U1:(n==0)=false:=by simp;omega
  refine .cond' (λ_=>?_) λ_=>?_
  ·refine(MS h).bind λr hr=>?_;rw[U1];have:=MH hr.1 hn;exact .some' ⟨this.1,λ_=>this.2,λh=>by omega,hr.2.2⟩
  ·refine(MS h).bind λr hr=>(MS hr.2.2).bind λr2 dW=>(MS dW.2.2).bind λr3 pW=>?_;rw[U1];have h1:XB .i64 r.1 65536=r.1 *65536:=UB (by omega) (by omega);have h2:XB .i64 r2.1 256=r2.1 *256:=UB (by omega) (by omega);have h3:iA .i64 (XB .i64 r.1 65536) (XB .i64 r2.1 256)=r.1 *65536+r2.1 *256:=by rw[h1,h2];exact UB (by omega) (by omega)
   have h4:iA .i64 (iA .i64 (XB .i64 r.1 65536) (XB .i64 r2.1 256)) r3.1=r.1 *65536+r2.1 *256+r3.1:=by rw[h3];exact UB (by omega) (by omega)
   simp only[cond_false,h4];have:=MH (a:=r.1 *65536+r2.1 *256+r3.1) (by omega) hn;exact .some' ⟨this.1,λ_=>this.2,λh=>by omega,pW.2.2⟩
def zgG{c:Af}{l:List Int}(h:lA c)(hl:l≠[]):Ok (As c l) λr=>r.1∈l∧lA r.2:=by
 simp only[As];have h0:0<l.length:=List.length_pos_iff.2 hl;refine(zf5 h).bind λr hr=>?_;obtain⟨j,hj⟩:=Int.eq_ofNat_of_zero_le hr.1;have:=hr.2.1 (by omega);rw[hj]at this⊢;have F0:j<l.length:=by omega
 rw[KB F0,mB];exact .some' ⟨List.getElem_mem F0,hr.2.2.2⟩
def ztd{c:Af}{n:Int}(h:lA c)(hn:n≤1048576):Ok (Ay c n) λr=>r.1.length=n.toNat∧lA r.2:=by
 have hL:=CB;simp only[Ay,aA];refine Ok.loop (λx:List UInt8×Int×Af=>x.2.1=(x.1.length:Int)∧x.1.length≤n.toNat∧lA x.2.2) (λx=>n.toNat - x.1.length) (λx hx k hk=>?_) ⟨rfl,Nat.zero_le _,h⟩ (by show n.toNat - 0<_;omega);obtain⟨l,i,d⟩:=x;obtain⟨hi,h1,h2⟩:=hx;simp only at hi h1 h2 hk⊢;subst hi;refine .cond' (λhc=>?_) λhc=>?_
 ·have hc:(l.length:Int)<n:=by simpa using hc
  refine(MS h2).bind λr hr=>?_;rw[decide_eq_true (by simp;omega),cond_true];have:iA .i64 (l.length:Int) 1=((l.length+1:Nat):Int):=HG _ (by rw[xD];omega);rw[this];exact hk _ ⟨by simp,by simp;omega,hr.2.2⟩ (by simp;omega)
 ·have hc:¬(l.length:Int)<n:=by simpa using hc
  exact .some' ⟨by show l.length=_;omega,h2⟩
def zc3.ok{x}(_:xA [.sl .byte] x):Si x=some (DT x):=rfl
end Go.D
namespace Go.D
def LG{α β:Type}[Wt α]{a:α}{f:Bool→Option β}(h:wt a≤bA):Option.bind (kB a a) f=f true:=UA ⟨rfl,h⟩
def zG{α:Type}[Wt α]{a b:α}{r:Bool}{o:α→α→Option Bool}(h:wt a≤bA→o a a=some true):kB a b=some r→o a b=some r:=
 TA λhp=>by obtain⟨rfl,hw⟩:=hp;exact h hw
def iL{R:Type}(n:Nat)(hn:n≤maxLen)(z:Option R){f:Int→(Int→Option R)→Option R}
  (hf:∀(i:Nat) (k:Int→Option R),i<n→f (i:Int) k=k (IntKind.wrap .i64 ((i:Int)+1))) (hz:∀k,f (n:Int) k=z):sA FU f (0:Int)=z:=
 BV n hn (f:=f) (g:=λ_=>z) (λi k hi hk=>by rw[hf i k hi,hk]) hz 0 (Nat.zero_le _)
def iJ{i n:Nat}(h:i<n):decide ((i:Int)<(n:Int))=true:=by simpa using h
def oK(n:Nat):decide ((n:Int)<(n:Int))=false:=by simp
def zq1{a:List UInt8}(h:wt a≤bA):Ny a a=some true:=by
 rw[EA]at h;simp only[Ny,Nat.ble_eq_true_of_le h,cond_true,beq_self_eq_true]
def zo3{a:List Int}(h:wt a≤bA):Nz a a=some true:=by
 simp only[Nz,bne_self_eq_false,cond_false,aA];refine iL a.length (jE h) _ (λi k hi=>?_) (λk=>by rw[oK];rfl);rw[iJ hi,cond_true,KB hi,mB,mB,bne_self_eq_false,cond_false]
def zpa{a:Aq}(h:wt a≤bA):Oa a a=some true:=by
 simp only[iT]at h;simp only[Oa,aA,beq_self_eq_true,bne_self_eq_false,cond_true,cond_false,Bool.not_true];rw[LG (by omega)]
def zpW{a:Ax}(h:wt a≤bA):Ob a a=some true:=by
 simp only[AL]at h;simp only[Ob,aA,beq_self_eq_true,bne_self_eq_false,cond_true,cond_false,Bool.not_true]
 repeat (rw[LG (by omega)]<;>try simp only[cond_true,cond_false,Bool.not_true])
def zoL{a:Ak}(h:wt a≤bA):Oc a a=some true:=by
 simp only[NH]at h;simp only[Oc,aA,beq_self_eq_true,bne_self_eq_false,cond_true,cond_false,Bool.not_true]
 repeat (rw[LG (by omega)]<;>try simp only[cond_true,cond_false,Bool.not_true])
def zoI{a:Aj}(h:wt a≤bA):Od a a=some true:=by
 simp only[eJ]at h;simp only[Od,aA,beq_self_eq_true,bne_self_eq_false,cond_true,cond_false,Bool.not_true];refine iL a.Cands.length (jE (by omega)) _ (λi k hi=>?_) (λk=>by rw[oK];rfl);have:=xE hi;have h2:=zad a.Cands[i];rw[iJ hi];simp only[cond_true,KB hi,mB,beq_self_eq_true,Bool.not_true,cond_false];rw[LG (by omega)];simp only[Bool.not_true,cond_false,bne_self_eq_false]
def zoK{a:Ai}(h:wt a≤bA):Oe a a=some true:=by
 simp only[pL]at h;simp only[Oe,aA,beq_self_eq_true,bne_self_eq_false,cond_true,cond_false,Bool.not_true]
 repeat (rw[LG (by omega)]<;>try simp only[cond_true,cond_false,Bool.not_true])
def zpl{a:Ap}(h:wt a≤bA):Of a a=some true:=by
 simp only[sJ]at h;simp only[Of,aA,beq_self_eq_true,bne_self_eq_false,cond_true,cond_false,Bool.not_true];refine iL a.L.length (jE (by omega)) _ (λi k hi=>?_) (λk=>by rw[oK];rfl);have:=xE hi;rw[iJ hi];simp only[cond_true,KB hi,mB];rw[LG (by omega)];simp only[Bool.not_true,cond_false]
def zon{a:List Al}(h:wt a≤bA):Og a a=some true:=by
 simp only[Og,aA,beq_self_eq_true,bne_self_eq_false,cond_true,cond_false,Bool.not_true];refine iL a.length (jE (by omega)) _ (λi k hi=>?_) (λk=>by rw[oK];rfl);rw[iJ hi];simp only[cond_true,KB hi,mB,beq_self_eq_true,Bool.not_true,cond_false]
def zoq{a:Ac}(h:wt a≤bA):Oh a a=some true:=by
 simp only[rM,kT,gJ]at h;simp only[Oh,aA,beq_self_eq_true,bne_self_eq_false,cond_true,cond_false,Bool.not_true]
 repeat (rw[LG (by omega)]<;>try simp only[cond_true,cond_false,Bool.not_true])
 refine iL a.Psks.length (jE (by omega)) _ (λi k hi=>?_) (λk=>by rw[oK];rfl);have:=xE hi;rw[iJ hi];simp only[cond_true,KB hi,mB];rw[LG (by omega)];simp only[Bool.not_true,cond_false]
def zow{a:List Am}(h:wt a≤bA):Oi a a=some true:=by
 simp only[Oi,aA,beq_self_eq_true,bne_self_eq_false,cond_true,cond_false,Bool.not_true];refine iL a.length (jE (by omega)) _ (λi k hi=>?_) (λk=>by rw[oK];rfl);have:=xE hi;have h2:=zac a[i];rw[iJ hi];simp only[cond_true,KB hi,mB,beq_self_eq_true,Bool.not_true,cond_false];rw[LG (by omega)];simp only[Bool.not_true,cond_false]
def zsN{β:Type}{a:List UInt8}{f:Bool→Option β}(h:wt a≤bA):Option.bind (FB a a) f=f true:=by
 rw[FB,UA ⟨h,h⟩,beq_self_eq_true]
def zoJ{a:Ae}(h:wt a≤bA):Oj a a=some true:=by
 simp only[jJ]at h;simp only[Oj,aA,beq_self_eq_true,cond_true]
 repeat (rw[zsN (by omega)]<;>try simp only[cond_true])
def jQ.ok{x}(_:xA [.v .Note, .v .Note] x){r}:kB x.1 x.2=some r→Oj x.1 x.2=some r:=zG λh=>zoJ h
def zoF{a:List Ae}(h:wt a≤bA):Ol a a=some true:=by
 simp only[Ol,aA,bne_self_eq_false,cond_false];refine iL a.length (jE (by omega)) _ (λi k hi=>?_) (λk=>by rw[oK];rfl);have:=xE hi;rw[iJ hi];simp only[cond_true,KB hi,mB];rw[LG (by omega)];simp only[Bool.not_true,cond_false]
def zox{a:Ab}(h:wt a≤bA):Om a a=some true:=by
 simp only[HH]at h;simp only[Om,aA,beq_self_eq_true,bne_self_eq_false,cond_true,cond_false,Bool.not_true]
 repeat (rw[LG (by omega)]<;>try simp only[cond_true,cond_false,Bool.not_true])
def zor{a:Ad}(h:wt a≤bA):Oo a a=some true:=by
 simp only[CM]at h;simp only[Oo,aA,beq_self_eq_true,bne_self_eq_false,cond_true,cond_false,Bool.not_true]
 repeat (rw[LG (by omega)]<;>try simp only[cond_true,cond_false,Bool.not_true])
def zoC{a:Aa}(h:wt a≤bA):Oq a a=some true:=by
 simp only[aG,gJ]at h;simp only[Oq,aA,beq_self_eq_true,bne_self_eq_false,cond_true,cond_false,Bool.not_true]
 repeat (rw[LG (by omega)]<;>try simp only[cond_true,cond_false,Bool.not_true])
 refine iL a.Clients.length (jE (by omega)) _ (λi k hi=>?_) (λk=>?_)
 ·have:=xE hi;rw[iJ hi];simp only[cond_true,KB hi,mB];rw[LG (by omega)];simp only[Bool.not_true,cond_false]
 ·rw[oK,cond_false];refine iL a.Known.length (jE (by omega)) _ (λi k hi=>?_) (λk=>by rw[oK];rfl);have:=xE hi;rw[iJ hi];simp only[cond_true,KB hi,mB];rw[LG (by omega)];simp only[Bool.not_true,cond_false]
def tS.ok{x}(_:xA [.sl .byte, .sl .byte] x){r}:kB (α:=List UInt8) x.1 x.2=some r→Ny x.1 x.2=some r:=zG λh=>zq1 h
def QP.ok{x}(_:xA [.sl .int, .sl .int] x){r}:kB (α:=List Int) x.1 x.2=some r→Nz x.1 x.2=some r:=zG λh=>zo3 h
def nQ.ok{x}(_:xA [.v .Win, .v .Win] x){r}:kB (α:=Aq) x.1 x.2=some r→Oa x.1 x.2=some r:=zG λh=>zpa h
def nR.ok{x}(_:xA [.v .Ep, .v .Ep] x){r}:kB (α:=Ax) x.1 x.2=some r→Ob x.1 x.2=some r:=zG λh=>zpW h
def ZP.ok{x}(_:xA [.v .Chan, .v .Chan] x){r}:kB (α:=Ak) x.1 x.2=some r→Oc x.1 x.2=some r:=zG λh=>zoL h
def CP.ok{x}(_:xA [.v .Paths, .v .Paths] x){r}:kB (α:=Aj) x.1 x.2=some r→Od x.1 x.2=some r:=zG λh=>zoI h
def iQ.ok{x}(_:xA [.v .Sess, .v .Sess] x){r}:kB (α:=Ai) x.1 x.2=some r→Oe x.1 x.2=some r:=zG λh=>zoK h
def mQ.ok{x}(_:xA [.v .Tab, .v .Tab] x){r}:kB (α:=Ap) x.1 x.2=some r→Of x.1 x.2=some r:=zG λh=>zpl h
def dP.ok{x}(_:xA [.sl .Credit, .sl .Credit] x){r}:kB (α:=List Al) x.1 x.2=some r→Og x.1 x.2=some r:=zG λh=>zon h
def jP.ok{x}(_:xA [.v .Server, .v .Server] x){r}:kB (α:=Ac) x.1 x.2=some r→Oh x.1 x.2=some r:=zG λh=>zoq h
def GP.ok{x}(_:xA [.sl .Wire, .sl .Wire] x){r}:kB (α:=List Am) x.1 x.2=some r→Oi x.1 x.2=some r:=zG λh=>zow h
def HP.ok{x}(_:xA [.sl .Note, .sl .Note] x){r}:kB (α:=List Ae) x.1 x.2=some r→Ol x.1 x.2=some r:=zG λh=>zoF h
def EP.ok{x}(_:xA [.v .Frame, .v .Frame] x){r}:kB (α:=Ab) x.1 x.2=some r→Om x.1 x.2=some r:=zG λh=>zox h
def xP.ok{x}(_:xA [.v .Client, .v .Client] x){r}:kB (α:=Ad) x.1 x.2=some r→Oo x.1 x.2=some r:=zG λh=>zor h
def BP.ok{x}(_:xA [.v .World, .v .World] x){r}:kB (α:=Aa) x.1 x.2=some r→Oq x.1 x.2=some r:=zG λh=>zoC h
end Go.D
namespace Go.D
open Option renaming bind→ob
def aN{n:Nat}{α:Type}(h:n≤bA):decide (([]:List α).length+n≤bA)=true:=by simpa using h
def zc9{β:Type}{a:List UInt8}{f:List UInt8→Option β}(h:wt a≤bA):ob (BA a) f=f a:=UA h
def rV.ok{x}(_:xA [.v .Dice] x){r}:ZD x=some r→Ps x=some r:=TA λh=>by
 rw[gJ]at h;simp only[Ps,aA,MC];rw[zc9 h];cases h1:ZB x
 ·rfl
 ·simp only[Bool.not_true,cond_false,Bool.false_or];cases(Au.N x==10000)<;>rfl
def AU.ok{x}(_:xA [.v .Dice] x){r}:dK x=some r→Pw x=some r:=TA λh=>by
 rw[gJ,EA]at h;simp only[Pw];rw[aN h];rfl
def gV.ok{x}(_:xA [.v .Dice] x){r}:ZD x=some r→Px x=some r:=TA λh=>by
 simp only[Px,aA,MC];rw[dK,UA h];cases h1:ZB x
 ·rfl
 ·simp only[Bool.not_true,cond_false,Bool.false_or];cases(Au.N x==10000)<;>rfl
def qU.ok{x}(_:xA [.sl .bs] x){r}:oS x=some r→Pt x=some r:=TA λh=>by
 have hl:=tB (α:=List UInt8) x;simp only[Pt,aA]
 have key:=LH (f:=λ(x3:(List (List UInt8))×Int) k4=>cond (decide (x3.2<(List.length (α:=List UInt8) x:Int))) (ob (kA (α:=List UInt8) x x3.2) λe5=>ob (BA e5) λr6=>
   cond (decide (x3.1.length+[r6].length≤bA)) (k4 ((x3.1++[r6]),(iA .i64 x3.2 1))) none) (some x3.1)) (g:=λ_=>some x)
  (fun y:List (List UInt8) × Int=>y.2=(y.1.length:Int)∧y.1=List.take (α:=List UInt8) y.1.length x) (fun y=>List.length (α:=List UInt8) x - y.1.length) (fun y hy k hk=>by
   obtain⟨o,i⟩:=y;obtain⟨h1,h2⟩:=hy;simp only at h1 h2 hk⊢;subst h1
   by_cases hi:o.length<List.length (α:=List UInt8) x
   ·have hw:=xE (l:=x) hi;rw[iJ hi,cond_true,KB hi,mB,zc9 (by omega),decide_eq_true (by simp;omega),cond_true];rw[iA,HG _ (by rw[xD];have:=CB;omega)];refine hk _ ⟨by simp,?_⟩ (by simp;omega);simp only[List.length_append,List.length_cons,List.length_nil];rw[tM (l:=x) hi, ←h2]
   ·have ho:o=x:=by rw[h2,List.take_of_length_le (by omega)]
    rw[decide_eq_false (by omega),cond_false,ho]) (x:=([],(0:Int))) ⟨rfl,rfl⟩ (by show List.length (α:=List UInt8) x - 0<2^64;have:=CB;omega)
 exact key
def VU{k info:List UInt8}(hk:k.length≤1048576)(hi:info.length≤100):∀j,(OH k info (j+1)).length=32
 | 0=>JH hk (by simp[OH];omega)
 | j+1=>JH hk (by rw[List.length_append,List.length_append,VU hk hi j];simp;omega)
def zj4{k info:List UInt8}(hk:k.length≤1048576)(hi:info.length≤100)(j:Nat):(OH k info j).length≤32:=by
 cases j with
 | zero=>exact Nat.zero_le _
 | succ j=>rw[VU hk hi];exact Nat.le_refl _
def WN{k info:List UInt8}(hk:k.length≤1048576)(hi:info.length≤100):∀j,(tI k info j).length=32 *j
 | 0=>rfl
 | j+1=>by rw[tI,List.length_append,WN hk hi j,VU hk hi];omega
def zld{k info:List UInt8}(hk:k.length≤1048576)(hi:info.length≤100)(n:Nat)(hn:n≤8160){R:Type}(z:List UInt8→Option R)
  {f:List UInt8×List UInt8×Int→(List UInt8×List UInt8×Int→Option R)→Option R}
  (hf:∀(j:Nat) (K:List UInt8×List UInt8×Int→Option R),32 *j<n→f (tI k info j,OH k info j,((j+1:Nat):Int)) K=K (tI k info (j+1),OH k info (j+1),((j+2:Nat):Int)))
  (hz:∀(j:Nat) (K:List UInt8×List UInt8×Int→Option R),n≤32 *j→f (tI k info j,OH k info j,((j+1:Nat):Int)) K=z (tI k info j)):
  sA FU f ([],[],(1:Int))=z (tI k info ((n+31) / 32)):=by
 have key:=LH (f:=f) (g:=λ_=>z (tI k info ((n+31) / 32))) (λx=>∃j,x=(tI k info j,OH k info j,((j+1:Nat):Int))∧j≤(n+31) / 32) (λx=>10000 - x.1.length) (λx hx K hK=>by
  obtain⟨j,rfl,hj⟩:=hx
  by_cases hc:32 *j<n
  ·rw[hf j K hc];refine hK _ ⟨j+1,rfl,by omega⟩ ?_;simp only[WN hk hi];omega
  ·rw[hz j K (by omega)];have:j=(n+31) / 32:=by omega
   rw[this]) (x:=([],[],(1:Int))) ⟨0,rfl,Nat.zero_le _⟩ (by show 10000 - 0<2^64;omega)
 exact key
def zsV(a b c:List UInt8):([a,b,c]:List (List UInt8)).flatten=a++b++c:=by simp
def zuQ(a b c:List UInt8):wt ([a,b,c]:List (List UInt8))=a.length+b.length+c.length+3:=by
 rw[jD,jD,jD,LF,EA,EA,EA];omega
def LR{k info:List UInt8}{n:Int}(h:(!eA n 0 8160||decide ((info.length:Int)>100)||decide ((k.length:Int)>1048576))=true):gH k info n=([],false):=by rw[gH,h];rfl
def zfu{k info:List UInt8}{n:Int}(h:(!eA n 0 8160||decide ((info.length:Int)>100)||decide ((k.length:Int)>1048576))=false):gH k info n=((tI k info ((n.toNat+31) / 32)).take n.toNat,true):=by rw[gH,h];rfl
def zpE(k info:List UInt8)(n:Int):Nw k info n=some (gH k info n):=by
 have hL:=CB;simp only[Nw,aA];cases h1:eA n 0 8160
 ·rw[LR (by rw[h1];rfl)];rfl
 cases h2:decide ((info.length:Int)>100)
 case true=>rw[LR (by rw[h1,h2];rfl)];rfl
 cases h3:decide ((k.length:Int)>1048576)
 case true=>rw[LR (by rw[h1,h2,h3];rfl)];rfl
 rw[zfu (by rw[h1,h2,h3];rfl)];have h1:=bD.1 h1;have h2:info.length≤100:=by have:=of_decide_eq_false h2;omega
 have h3:k.length≤1048576:=by have:=of_decide_eq_false h3;omega
 obtain⟨m,rfl⟩:=Int.eq_ofNat_of_zero_le h1.1;simp only[Bool.not_true,cond_false,Int.toNat_natCast];refine zld (R:=List UInt8×Bool) h3 h2 m (by omega) (λo=>some (o.take m,true)) (λj K hj=>?_) (λj K hj=>?_)
 ·have yW:=zj4 h3 h2 j;rw[WN h3 h2,decide_eq_true (by omega),cond_true,lD,UA (by rw[zuQ];simp;omega),zsV];have:XC k (OH k info j++info++[UInt8.ofNat (IntKind.wrap .u8 ((j+1:Nat):Int)).toNat])=OH k info (j+1):=rfl;rw[this,VU h3 h2,decide_eq_true (by omega),cond_true,iA,HG (j+1) (by rw[xD];omega)];rfl
 ·rw[WN h3 h2,decide_eq_false (by omega),cond_false,decide_eq_true (by omega),decide_eq_true (by omega),decide_eq_true (by omega)];simp only[Bool.and_self,cond_true,List.drop_zero,Int.sub_zero,Int.toNat_natCast];rw[zc9 (by rw[EA,List.length_take];omega)]
def qR.ok{x}(_:xA [.sl .byte, .sl .byte, .v .int] x):Nw x.1 x.2.1 x.2.2=some (gH x.1 x.2.1 x.2.2):=zpE x.1 x.2.1 x.2.2
def zpC(k info:List UInt8)(n:Int):Nx k info n=some (gH k info n):=by
 have hL:=CB;simp only[Nx,aA];cases h1:eA n 0 8160
 ·rw[LR (by rw[h1];rfl)];rfl
 cases h2:decide ((info.length:Int)>100)
 case true=>rw[LR (by rw[h1,h2];rfl)];rfl
 cases h3:decide ((k.length:Int)>1048576)
 case true=>rw[LR (by rw[h1,h2,h3];rfl)];rfl
 rw[zfu (by rw[h1,h2,h3];rfl)];have h1:=bD.1 h1;have h2:info.length≤100:=by have:=of_decide_eq_false h2;omega
 have h3:k.length≤1048576:=by have:=of_decide_eq_false h3;omega
 obtain⟨m,rfl⟩:=Int.eq_ofNat_of_zero_le h1.1;simp only[Bool.not_true,cond_false,Int.toNat_natCast];refine zld (R:=List UInt8×Bool) h3 h2 m (by omega) (λo=>some (o.take m,true)) (λj K hj=>?_) (λj K hj=>?_)
 ·have yW:=zj4 h3 h2 j;simp only;rw[WN h3 h2,decide_eq_true (by omega),cond_true,aN (by omega),cond_true,List.nil_append,decide_eq_true (by omega),cond_true,decide_eq_true (by simp;omega),cond_true];have:XC k (OH k info j++info++[UInt8.ofNat (IntKind.wrap .u8 ((j+1:Nat):Int)).toNat])=OH k info (j+1):=rfl;rw[this,VU h3 h2,decide_eq_true (by omega),cond_true,iA,HG (j+1) (by rw[xD];omega)];rfl
 ·rw[WN h3 h2,decide_eq_false (by omega),cond_false,decide_eq_true (by omega),decide_eq_true (by omega),decide_eq_true (by omega)];simp only[Bool.and_self,cond_true,List.drop_zero,Int.sub_zero,Int.toNat_natCast];rw[aN (by rw[List.length_take];omega)];rfl
def FR.ok{x}(_:xA [.sl .byte, .sl .byte, .v .int] x):Nx x.1 x.2.1 x.2.2=some (gH x.1 x.2.1 x.2.2):=zpC x.1 x.2.1 x.2.2
def YU.ok{x}(_:xA [.sl .byte, .v .str] x){r}:ME x.1 x.2=some r→Pu x.1 x.2=some r:=TA λh=>by
 rw[EA]at h;simp only[Pu,Nat.ble_eq_true_of_le h,cond_true];rfl
def PU.ok{x}(_:xA [.sl .byte, .v .str] x){r}:ME x.1 x.2=some r→Py x.1 x.2=some r:=TA λh=>by
 rw[EA]at h;simp only[Py,Nat.ble_eq_true_of_le h,cond_true];rfl
def zkr{k l:List UInt8}(hk:k.length≤1048576)(hl:l.length≤100):(yL k l).length=32:=by
 rw[yL,zfu (by rw[show eA 32 0 8160=true from rfl,decide_eq_false (by omega),decide_eq_false (by omega)];rfl)];show(List.take 32 _).length=32
 rw[List.length_take,WN hk hl];rfl
def AM(k l:List UInt8):(yL k l).length≤32:=by
 rw[yL,gH];cases(!eA 32 0 8160||decide ((l.length:Int)>100)||decide ((k.length:Int)>1048576))
 ·show(List.take 32 _).length≤32
  rw[List.length_take];omega
 ·exact Nat.zero_le _
def zx4:wt ([106,97,114]:List UInt8)≤bA:=by rw[EA,CB];decide
def WU.ok{x}(_:xA [.sl .byte] x):Pz x=some (eG x):=by
 simp only[Pz,eG,oA];rw[ME,UA zx4,bne];cases((List.length (α:=UInt8) x:Int)==12)<;>rfl
def KU.ok{x}(_:xA [.v .int] x):Qa x=some (lE x):=by
 simp only[Qa,lE];cases eA x 1 6<;>rfl
def CS(b:List UInt8):(eG b).Secret.length≤32:=by
 rw[eG];cases oA b
 ·exact Nat.zero_le _
 ·exact AM _ _
def zjU(d:Au):(MC d).1.Seed=d.Seed:=by
 rw[MC];cases(!ZB d||d.N==10000)<;>rfl
def zcs(n:Int):wt (lE n)=0:=by
 rw[lE];cases eA n 1 6<;>rfl
def zbO(p:List (List UInt8))(s:List UInt8)(m:Int):wt (IC p s m)≤wt p+wt s+32:=by
 rw[rM,kT,gJ];have h1:=CS (MC ⟨s,0⟩).2;have h2:=zjU ⟨s,0⟩;have h3:=zcs m;show wt p+wt (eG (MC ⟨s,0⟩).2).Secret+wt (MC ⟨s,0⟩).1.Seed+wt (lE m)+0≤_
 rw[h2,h3,EA];show wt p+_+wt s+0+0≤_;omega
def WT.ok{x}(_:xA [.sl .bs, .sl .byte, .v .int] x){r}:KR x.1 x.2.1 x.2.2=some r→Qb x.1 x.2.1 x.2.2=some r:=TA λh=>by
 obtain⟨p,s,m⟩:=x;simp only at h;have hL:=CB;have hw:=zbO p s m;have hl:=tB p;simp only[Qb,dO];rw[ZD,UA (by rw[gJ];show wt s≤bA;omega)];simp only[aA]
 have key:=zly (σ:=Ac) (R:=Ac) p.length (by rw[xD];omega) (f:=λ(x6:Int×Ac) k7=>cond (decide (x6.1<(p.length:Int))) (ob (kA p x6.1) λe8=>
   cond (decide (([]:List UInt8).length+e8.length≤bA)) (cond (decide (x6.2.Psks.length+[[]++e8].length≤bA)) (k7 ((iA .i64 x6.1 1),(⟨x6.2.Psks++[[]++e8],x6.2.J,x6.2.D,x6.2.T,x6.2.Cr⟩:Ac))) none) none)
   (ob (HC x6.2) λr9=>cond (!r9) (some (⟨[],(⟨[]⟩:Ba),(⟨[],0⟩:Au),(⟨0,[]⟩:Ap),[]⟩:Ac)) (some x6.2)))
  (g:=λ_ _=>some (bif LB (IC p s m)then IC p s m else zdo)) (λi t=>t=⟨p.take i,(IC p s m).J,(IC p s m).D,(IC p s m).T,[]⟩)
  (fun i t k hi ht hk=>by
   subst ht;have hwg:=xE hi;rw[EA]at hwg;simp only;rw[iJ hi,cond_true,KB hi,mB,aN (by omega),cond_true,decide_eq_true (by simp;omega),cond_true,List.nil_append, ←tM p hi];exact hk _ rfl)
  (fun t k ht=>by
   subst ht;simp only[List.take_length];rw[oK,cond_false];show ob (HC (IC p s m)) _=_
   rw[HC,UA (by omega)];cases LB (IC p s m)<;>rfl) 0 ⟨[],(IC p s m).J,(IC p s m).D,(IC p s m).T,[]⟩ (Nat.zero_le _) rfl
 exact key
def zjN(id:Int)(psk:List UInt8)(a:Ah):wt (aJ id psk a)=wt psk:=by
 rw[CM];show wt psk+0+0+0+0+0+0=_
 omega
def zju(id:Int)(psk:List UInt8)(a:Ah):pB (aJ id psk a)=(eA id 1 9&&AC psk&&GA a):=by
 show(eA id 1 9&&AC psk&&GA a&&true)=_
 rw[Bool.and_true]
def cU.ok{x}(_:xA [.v .int, .sl .byte, .v .Addr] x){r}:XI x.1 x.2.1 x.2.2=some r→Qd x.1 x.2.1 x.2.2=some r:=TA λh=>by
 obtain⟨id,psk,a⟩:=x;simp only at h;rw[EA]at h;simp only[Qd,MB,aA];rw[aN h];cases eA id 1 9
 ·rfl
 cases AC psk
 ·rfl
 cases GA a<;>rfl
def oU.ok{x}(_:xA [.sl .byte] x){r}:TD x=some r→Pv x=some r:=TA λh=>by
 simp only[Pv];rw[zc9 h];rfl
def aU.ok{x}(_:xA [.sl .byte] x){r}:TD x=some r→Qe x=some r:=TA λh=>by
 rw[EA]at h;simp only[Qe];rw[aN h];rfl
def DU.ok{x}(_:xA [.sl .byte] x){r}:zdh x=some r→Qc x=some r:=TA λh=>by
 rw[EA]at h;have hL:=CB;simp only[Qc,aA,List.nil_append];rw[aN h,cond_true]
 by_cases hc:31<List.length (α:=UInt8) x
 ·rw[decide_eq_true (by omega),cond_true,decide_eq_true (by omega),decide_eq_true (by omega),decide_eq_true (by omega)];simp only[Bool.and_self,cond_true];rw[decide_eq_true (by simp;omega)];rfl
 ·rw[decide_eq_false (by omega),cond_false,decide_eq_true (by simp;omega),cond_true,uI,List.take_of_length_le (by omega)];rfl
def zgk(a b:List UInt8):wt ([a,b]:List (List UInt8))=wt a+wt b+2:=by rw[jD,jD,LF];omega
def ztn{s a b:List UInt8}{m:Int}(h:LB (IC [a,b] s m)=true):1≤s.length∧s.length≤32:=by
 simp only[LB,Bool.and_eq_true]at h;have h1:=h.1.1.1.1.2;rw[show(IC [a,b] s m).D=(MC ⟨s,0⟩).1 from rfl,ZB,Bool.and_eq_true,zjU]at h1;have h2:1≤(s.length:Int)∧(s.length:Int)≤32:=bD.1 h1.1;exact⟨by omega,by omega⟩
def pV(s:List UInt8)(n:Int):(zD s n).length≤12:=by
 rw[zD];cases eA (s.length:Int) 1 32&&eA n 0 10000
 ·exact Nat.zero_le _
 ·simp only[cond_true,List.length_take];omega
def lU.ok{x}(_:xA [.sl .byte, .sl .byte, .sl .byte, .v .int] x){r}:zcJ x.1 x.2.1 x.2.2.1 x.2.2.2=some r→Qf x.1 x.2.1 x.2.2.1 x.2.2.2=some r:=TA λh=>by
 obtain⟨s,a,b,m⟩:=x;simp only at h;have hL:=CB;have hw:=zbO [a,b] s m;rw[zgk]at hw;simp only[Qf,fL];rw[KR,UA (by rw[zgk];omega)];cases hs:LB (IC [a,b] s m)
 ·have e:dO [a,b] s m=zdo:=by rw[dO,hs];rfl
  rw[e,HC,UA (by show 0≤_;omega)];rfl
 have e:dO [a,b] s m=IC [a,b] s m:=by rw[dO,hs];rfl
 have hj:((IC [a,b] s m).J).Secret.length≤32:=CS _;have hdl:=pV s 0;rw[e,HC,UA (by omega),hs];simp only[Bool.not_true,cond_false,cond_true];rw[zdh,UA (by omega),XI,UA (by omega),XI,UA (by omega),TD,UA (by rw[EA];omega),aN (by omega)];rfl
end Go.D
namespace Go.D
def zjq(id:Int)(psk:List UInt8)(a:Ah):wt (MB id psk a)≤wt psk:=by
 rw[MB];cases(eA id 1 9&&AC psk&&GA a)
 ·rw[cond_false,zjN];exact Nat.zero_le _
 ·rw[cond_true,zjN];exact Nat.le_refl _
def zqw(b:List UInt8):wt (KE b)=b.length:=by
 rw[jJ];show 0+0+wt b+0+0=_
 rw[EA];omega
def zsp(b:List UInt8):wt (uV b)=b.length:=by
 rw[jJ];show 0+0+0+wt b+0=_
 rw[EA];omega
def zjQ(s a b:List UInt8)(m:Int):wt (fL s a b m)≤2 *wt a+2 *wt b+wt s+200:=by
 rw[fL];cases LB (IC [a,b] s m)
 ·exact Nat.zero_le _
 ·have h1:=zjq 1 a (vB 1);have h2:=zjq 2 b (vB 2);have h3:=zbO [a,b] s m;have h4:=pV s 0;have h5:(IC [a,b] s m).J.Secret.length≤32:=CS _;have h6:(uI s).length≤32:=by rw[uI,List.length_append,List.length_take];simp;omega
  have h7:=zqw (zD s 0);have h8:=zsp (IC [a,b] s m).J.Secret;rw[zgk]at h3;rw[cond_true,aG,gJ];show wt [MB 1 a (vB 1),MB 2 b (vB 2)]+wt (IC [a,b] s m)+wt (uI s)+0+0+wt [KE (zD s 0),uV (IC [a,b] s m).J.Secret]≤_
  rw[jD,jD,LF,jD,jD,LF,EA,h7,h8];omega
def zj6{s a b:List UInt8}{m:Int}(h:LB (IC [a,b] s m)=true):iB (HV s a b m)=true∧MB 1 a (vB 1)=aJ 1 a (vB 1)∧MB 2 b (vB 2)=aJ 2 b (vB 2)∧
  (IC [a,b] s m).J.Secret.length=32∧(IC [a,b] s m).T.L=[]:=by
 have hd:=ztn h;have hs:=h;simp only[LB,Bool.and_eq_true]at h
 have hj:(IC [a,b] s m).J.Secret.length=32:=by
  have:=h.1.1.1.1.1.2;simp only[PE,beq_iff_eq]at this;omega
 have hp:=h.1.2
 have W1:AC a=true∧AC b=true:=by
  have:(IC [a,b] s m).Psks=[a,b]:=rfl;rw[this]at hp;simpa using hp
 have ha:MB 1 a (vB 1)=aJ 1 a (vB 1):=by rw[MB,W1.1];rfl
 have hb:MB 2 b (vB 2)=aJ 2 b (vB 2):=by rw[MB,W1.2];rfl
 have hdl:=pV s 0
 have hT:(IC [a,b] s m).T.L=[]:=by
  show(lE m).L=[]
  rw[lE];cases eA m 1 6<;>rfl
 refine⟨?_,ha,hb,hj,hT⟩
 have jZ:jC (KE (zD s 0))=true:=by
  have:(zD s 0).length=12:=by
   rw[zD,show eA (s.length:Int) 1 32=true from bD.2 ⟨by omega,by omega⟩];show(List.take 12 _).length=12
   rw[List.length_take,JH (by omega) (by rw[vV];omega)];rfl
  show(eA 14 1 17&&eA 0 0 9&&eA 0 0 1&&UC [] 12&&UC [] 12&&eA 0 0 4294967295&&eA 0 0 281474976710655&&decide (((zD s 0).length:Int)≤100)&&UC [] 32&&GA ⟨0,0⟩&&eA 0 0 1000000)=true
  rw[this];rfl
 have M4:jC (uV (IC [a,b] s m).J.Secret)=true:=by
  show(eA 12 1 17&&eA 0 0 9&&eA 0 0 1&&UC [] 12&&UC [] 12&&eA 0 0 4294967295&&eA 0 0 281474976710655&&decide ((([]:List UInt8).length:Int)≤100)&&SD ((IC [a,b] s m).J.Secret.length:Int) 32&&GA ⟨0,0⟩&&eA 0 0 1000000)=true
  rw[hj];rfl
 have m7:ZB ⟨uI s,0⟩=true:=by
  have:1≤(uI s).length∧(uI s).length≤32:=by rw[uI,List.length_append,List.length_take];simp;omega
  show(eA ((uI s).length:Int) 1 32&&eA 0 0 10000)=true
  rw[bD.2 ⟨by omega,by omega⟩];rfl
 have hcb:IB 2 (iI (HV s a b m))=false:=by
  refine dH.2 λi hi=>?_
  match i,hi with
  | 0,_=>
   show(!pB (MB 1 a (vB 1))||(MB 1 a (vB 1)).Id !=((0+1:Nat):Int)||!((MB 1 a (vB 1)).Psk==a))=false
   rw[ha,zju,W1.1];simp[aJ];decide
  | 1,_=>
   show(!pB (MB 2 b (vB 2))||(MB 2 b (vB 2)).Id !=((1+1:Nat):Int)||!((MB 2 b (vB 2)).Psk==b))=false
   rw[hb,zju,W1.2];simp[aJ];decide
 show(eA 0 0 1000000&&true&&LB (IC [a,b] s m)&&true&&ZB ⟨uI s,0⟩&&true&&true&&!(IB 2 (iI (HV s a b m)))&&true&&!(!jC (KE (zD s 0))||(!jC (uV (IC [a,b] s m).J.Secret)||false)))=true
 rw[hs,m7,hcb,jZ,M4];rfl
end Go.D
