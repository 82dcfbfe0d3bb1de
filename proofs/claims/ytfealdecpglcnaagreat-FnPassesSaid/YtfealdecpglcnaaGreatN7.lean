/-
 Sizes of the program's data.
-/
import Derived.Test.YtfealdecpglcnaaGreatN6
set_option linter.all false
namespace Go.D
end Go.D
namespace Go.D
noncomputable section
def cT(code:List UInt8):Bool:=decide ((code.length:Int)>1048576)
def gB{α:Type}[Wt α](a b:α):Option Bool:=pt (a=b∧wt a≤bA) true
def OJ(d:Ax):Option Ax:=pt (wt d≤bA) d
def iE(d:Ax):Ax×List UInt8:=bif !BC d||d.N==10000 then(d,[])else(⟨d.Seed,iA .i64 d.N 1⟩,xD d.Seed d.N)
def zE(d:Ax):Option (Ax×List UInt8):=pt (wt d≤bA) (iE d)
def MR(l:List (List UInt8)):Option (List (List UInt8)):=pt (wt l≤bA) l
def yH(k info:List UInt8):Nat→List UInt8
 | 0=>[]
 | j+1=>VC k (yH k info j++info++[UInt8.ofNat (IntKind.wrap .u8 ((j+1:Nat):Int)).toNat])
def dI(k info:List UInt8):Nat→List UInt8
 | 0=>[]
 | j+1=>dI k info j++yH k info (j+1)
def VG(k info:List UInt8)(n:Int):List UInt8×Bool:=
 bif !eA n 0 8160||decide ((info.length:Int)>100)||decide ((k.length:Int)>1048576)then([],false)else((dI k info ((n.toNat+31) / 32)).take n.toNat,true)
def zM(k label:List UInt8):List UInt8:=(VG k label 32).1
def GE(k label:List UInt8):Option (List UInt8):=pt (wt label≤bA) (zM k label)
def XG(b:List UInt8):Ba:=bif oA b then⟨zM b [106,97,114]⟩else⟨[]⟩
def FF(n:Int):Ao:=bif eA n 1 6 then⟨n,[]⟩else⟨0,[]⟩
def zcK:Ac:=⟨[],⟨[]⟩,⟨[],0⟩,⟨0,[]⟩,[]⟩
def HC(psks:List (List UInt8))(seed:List UInt8)(most:Int):Ac:=⟨psks,XG (iE ⟨seed,0⟩).2,(iE ⟨seed,0⟩).1,FF most,[]⟩
def HN(psks:List (List UInt8))(seed:List UInt8)(most:Int):Ac:=bif fC (HC psks seed most)then HC psks seed most else zcK
def oR(psks:List (List UInt8))(seed:List UInt8)(most:Int):Option Ac:=pt (wt psks+wt seed+1000≤bA) (HN psks seed most)
def zf2:Aa:=⟨0,0,[],[],0,[],[],0,0,[],[]⟩
def zgn:Ak:=⟨0,[],zmM,zmM,false,0,[]⟩
def zlP:Av:=⟨false,0,0,0⟩
def FI(id:Int)(psk:List UInt8)(a:Ai):Ad:=⟨id,psk,a,0,[],zf2,zgn,zlP,zlP,0⟩
def QB(id:Int)(psk:List UInt8)(a:Ai):Ad:=bif eA id 1 9&&CC psk&&MA a then FI id psk a else FI 0 [] ⟨0,0⟩
def DI(id:Int)(psk:List UInt8)(a:Ai):Option Ad:=pt (wt psk≤bA) (QB id psk a)
def VE(b:List UInt8):Ae:=⟨14,0,0,[],[],0,0,b,[],⟨0,0⟩,0⟩
def VU(k:List UInt8):Ae:=⟨12,0,0,[],[],0,0,[],k,⟨0,0⟩,0⟩
def vE(b:List UInt8):Option Ae:=pt (wt b≤bA) (VE b)
def eI(s:List UInt8):List UInt8:=s.take 31++[99]
def zcD(s:List UInt8):Option (List UInt8):=pt (wt s≤bA) (eI s)
def zvI:Ab:=⟨0,[],zcK,⟨[],0⟩,[],[],[]⟩
def zcY(s a b:List UInt8)(most:Int):Ab:=⟨0,[QB 1 a (KB 1),QB 2 b (KB 2)],HC [a,b] s most,⟨eI s,0⟩,[],[],[VE (xD s 0),VU (HC [a,b] s most).J.Secret]⟩
def SU(s a b:List UInt8)(most:Int):Ab:=bif fC (HC [a,b] s most)then zcY s a b most else zvI
def zb6(s a b:List UInt8)(most:Int):Option Ab:=pt (wt a+wt b+wt s+2000≤bA) (SU s a b most)
end
end Go.D
namespace Go.D
open Option renaming bind→ob
noncomputable section
def Rv(a0:List UInt8):=
 some (decide ((a0.length:Int)>1048576))
def Gi(a0:List UInt8):=
 aA (λ(y1:Int)=>
 some (⟨a0,0,y1⟩:Af)) λk2=>
 qA FU (λ(x3:Int×Int) k4=>
 aA (λy5=>
 cond (y5)
 (ob (kA a0 x3.2) λe7=>
 let x8:Int:=IntKind.wrap .i64 ((e7.toNat:Nat):Int);let x9:Int:=iA .i64 (iA .i64 (YB .i64 x3.1 137) x8) 11
 k4 ((LB .i64 x9 1073741823),(iA .i64 x3.2 1)))
 (k2 x3.1)) λk6=>
 cond (decide (x3.2<(a0.length:Int)))
 (k6 (decide (x3.2<4000)))
 (k6 false)) ((iA .i64 127812 (a0.length:Int)),0)
def Cl(a0:Af):=
 let x1:Int:=iA .i64 (YB .i64 a0.h 6364136223846793005) 1442695040888963407;let x2:Int:=CB .i64 (DE .i64 x1 33) (DE .i64 x1 47)
 aA (λ(y3:Int×Af)=>
 some (y3.1,y3.2)) λk4=>
 cond (decide (a0.i<(a0.b.length:Int)))
 (ob (kA a0.b a0.i) λe5=>
 let x6:Int:=IntKind.wrap .i64 ((e5.toNat:Nat):Int);let x7:Int:=LB .i64 (iA .i64 (LB .i64 x2 255) x6) 255
 k4 (x7,(⟨a0.b,iA .i64 a0.i 1,x1⟩:Af)))
 (k4 ((LB .i64 x2 255),(⟨a0.b,a0.i,x1⟩:Af)))
def Ar(a0:Af)(a1:Int):=
 cond (decide (a1≤0))
 (some (0,a0))
 (cond (decide (a1≤256))
 (ob (Cl a0) λr1=>
 cond (a1==0) none (some (EA .i64 r1.1 a1,r1.2)))
 (ob (Cl a0) λr2=>
 ob (Cl r2.2) λr3=>
 ob (Cl r3.2) λr4=>
 let x5:Int:=iA .i64 (YB .i64 r2.1 65536) (YB .i64 r3.1 256)
 cond (a1==0) none (some (EA .i64 (iA .i64 x5 r4.1) a1,r4.2))))
def As(a0:Af)(a1:List Int):=
 ob (Ar a0 (a1.length:Int)) λr1=>
 ob (kA a1 r1.1) λe2=>
 some (e2,r1.2)
def Ay(a0:Af)(a1:Int):=
 aA (λ(y1:(List UInt8)×Af)=>
 some (y1.1,y1.2)) λk2=>
 qA FU (λ(x3:(List UInt8)×Int×Af) k4=>
 cond (decide (x3.2.1<a1))
 (ob (Cl x3.2.2) λr5=>
 cond (decide (x3.1.length+[UInt8.ofNat (IntKind.wrap .u8 r5.1:Int).toNat].length≤bA)) (k4 ((x3.1++[UInt8.ofNat (IntKind.wrap .u8 r5.1:Int).toNat]),(iA .i64 x3.2.1 1),r5.2)) none)
 (k2 (x3.1,x3.2.2))) ([],0,a0)
def Pf(a0:Ax):=
 ob (CA a0.Seed) λr1=>
 aA (λy2=>
 cond (y2)
 (some ((⟨r1,a0.N⟩:Ax),[]))
 (let r4:(List UInt8):=xD a0.Seed a0.N
 some ((⟨r1,iA .i64 a0.N 1⟩:Ax),r4))) λk3=>
 cond (!(BC a0))
 (k3 true)
 (k3 (a0.N==10000))
def Pg(a0:List (List UInt8)):=
 aA (λ(y1:(List (List UInt8)))=>
 some y1) λk2=>
 qA FU (λ(x3:(List (List UInt8))×Int) k4=>
 cond (decide (x3.2<(a0.length:Int)))
 (ob (kA a0 x3.2) λe5=>
 ob (CA e5) λr6=>
 cond (decide (x3.1.length+[r6].length≤bA)) (k4 ((x3.1++[r6]),(iA .i64 x3.2 1))) none)
 (k2 x3.1)) ([],0)
def Nj(a0:List UInt8)(a1:List UInt8)(a2:Int):=
 aA (λy1=>
 cond (y1)
 (some ([],false))
 (aA (λ(y3:(List UInt8)×(List UInt8))=>
 cond (decide (0≤(0:Int))&&decide ((0:Int)≤a2)&&decide (a2≤(y3.1.length:Int))) (ob (CA (List.take ((a2 - 0).toNat) (List.drop 0 y3.1))) λr10=>
 some (r10,true)) none) λk4=>
 qA FU (λ(x5:(List UInt8)×(List UInt8)×Int) k6=>
 cond (decide ((x5.1.length:Int)<a2))
 (let x7:List (List UInt8):=[x5.2.1,a1,[UInt8.ofNat (IntKind.wrap .u8 x5.2.2:Int).toNat]]
 ob (jD x7) λr8=>
 let r9:(List UInt8):=VC a0 r8
 cond (decide (x5.1.length+r9.length≤bA)) (k6 ((x5.1++r9),r9,(iA .i64 x5.2.2 1))) none)
 (k4 (x5.1,x5.2.1))) ([],[],1))) λk2=>
 cond (!(eA a2 0 8160))
 (k2 true)
 (cond (decide ((a1.length:Int)>100))
 (k2 true)
 (k2 (decide ((a0.length:Int)>1048576))))
def Pi(a0:List UInt8)(a1:List UInt8):=
 cond (Nat.ble a1.length bA) (let r1:(List UInt8)×Bool:=VG a0 a1 32
 some r1.1) none
def Pj(a0:List UInt8):=
 ob (CA a0) λr1=>
 some (⟨14,0,0,[],[],0,0,r1,[],(⟨0,0⟩:Ai),0⟩:Ae)
def Pk(a0:Ax):=
 cond (decide (([]:List UInt8).length+a0.Seed.length≤bA)) (some (⟨[]++a0.Seed,a0.N⟩:Ax)) none
def Pl(a0:Ax):=
 ob (OJ a0) λr1=>
 aA (λy2=>
 cond (y2)
 (some (r1,[]))
 (let r4:(List UInt8):=xD a0.Seed a0.N
 some ((⟨r1.Seed,iA .i64 a0.N 1⟩:Ax),r4))) λk3=>
 cond (!(BC a0))
 (k3 true)
 (k3 (a0.N==10000))
def Nk(a0:List UInt8)(a1:List UInt8)(a2:Int):=
 aA (λy1=>
 cond (y1)
 (some ([],false))
 (aA (λ(y3:(List UInt8)×(List UInt8))=>
 cond (decide (0≤(0:Int))&&decide ((0:Int)≤a2)&&decide (a2≤(y3.1.length:Int))) (cond (decide (([]:List UInt8).length+(List.take ((a2 - 0).toNat) (List.drop 0 y3.1)).length≤bA)) (some ([]++(List.take ((a2 - 0).toNat) (List.drop 0 y3.1)),true)) none) none) λk4=>
 qA FU (λ(x5:(List UInt8)×(List UInt8)×Int) k6=>
 cond (decide ((x5.1.length:Int)<a2))
 (cond (decide (([]:List UInt8).length+x5.2.1.length≤bA)) (cond (decide (([]++x5.2.1).length+a1.length≤bA)) (cond (decide ((([]++x5.2.1)++a1).length+[UInt8.ofNat (IntKind.wrap .u8 x5.2.2:Int).toNat].length≤bA)) (let x7:List UInt8:=(([]++x5.2.1)++a1)++[UInt8.ofNat (IntKind.wrap .u8 x5.2.2:Int).toNat]
 let r8:(List UInt8):=VC a0 x7
 cond (decide (x5.1.length+r8.length≤bA)) (k6 ((x5.1++r8),r8,(iA .i64 x5.2.2 1))) none) none) none) none)
 (k4 (x5.1,x5.2.1))) ([],[],1))) λk2=>
 cond (!(eA a2 0 8160))
 (k2 true)
 (cond (decide ((a1.length:Int)>100))
 (k2 true)
 (k2 (decide ((a0.length:Int)>1048576))))
def Pm(a0:List UInt8)(a1:List UInt8):=
 cond (Nat.ble a1.length bA) (let r1:(List UInt8)×Bool:=VG a0 a1 32
 some r1.1) none
def Pn(a0:List UInt8):=
 cond ((a0.length:Int) !=12)
 (some (⟨[]⟩:Ba))
 (ob (GE a0 [106,97,114]) λr1=>
 some (⟨r1⟩:Ba))
def Po(a0:Int):=
 cond (!(eA a0 1 6))
 (some (⟨0,[]⟩:Ao))
 (some (⟨a0,[]⟩:Ao))
def Pp(a0:List (List UInt8))(a1:List UInt8)(a2:Int):=
 ob (zE (⟨a1,0⟩:Ax)) λr1=>
 let r2:Ba:=XG r1.2;let r3:Ao:=FF a2
 aA (λ(y4:Ac)=>
 ob (GC y4) λr9=>
 cond (!r9)
 (some (⟨[],(⟨[]⟩:Ba),(⟨[],0⟩:Ax),(⟨0,[]⟩:Ao),[]⟩:Ac))
 (some y4)) λk5=>
 qA FU (λ(x6:Int×Ac) k7=>
 cond (decide (x6.1<(a0.length:Int)))
 (ob (kA a0 x6.1) λe8=>
 cond (decide (([]:List UInt8).length+e8.length≤bA)) (cond (decide (x6.2.Psks.length+[[]++e8].length≤bA)) (k7 ((iA .i64 x6.1 1),(⟨x6.2.Psks++[[]++e8],x6.2.J,x6.2.D,x6.2.T,x6.2.Cr⟩:Ac))) none) none)
 (k5 x6.2)) (0,(⟨[],r2,r1.1,r3,[]⟩:Ac))
def Pq(a0:List UInt8):=
 cond (decide (([]:List UInt8).length+a0.length≤bA)) (aA (λ(y1:(List UInt8))=>
 cond (decide (y1.length+[UInt8.ofNat (99:Int).toNat].length≤bA)) (some (y1++[UInt8.ofNat (99:Int).toNat])) none) λk2=>
 cond (decide ((([]++a0).length:Int)>31))
 (cond (decide (0≤(0:Int))&&decide ((0:Int)≤31)&&decide (31≤(([]++a0).length:Int))) (k2 (List.take 31 ([]++a0))) none)
 (k2 ([]++a0))) none
def Pr(a0:Int)(a1:List UInt8)(a2:Ai):=
 aA (λy1=>
 cond (y1)
 (some (⟨0,[],(⟨0,0⟩:Ai),0,[],(⟨0,0,[],[],0,[],[],0,0,[],[]⟩:Aa),(⟨0,[],(⟨0,[],0,(⟨0,[]⟩:Ap)⟩:Aw),(⟨0,[],0,(⟨0,[]⟩:Ap)⟩:Aw),false,0,[]⟩:Ak),(⟨false,0,0,0⟩:Av),(⟨false,0,0,0⟩:Av),0⟩:Ad))
 (cond (decide (([]:List UInt8).length+a1.length≤bA)) (some (⟨a0,[]++a1,a2,0,[],(⟨0,0,[],[],0,[],[],0,0,[],[]⟩:Aa),(⟨0,[],(⟨0,[],0,(⟨0,[]⟩:Ap)⟩:Aw),(⟨0,[],0,(⟨0,[]⟩:Ap)⟩:Aw),false,0,[]⟩:Ak),(⟨false,0,0,0⟩:Av),(⟨false,0,0,0⟩:Av),0⟩:Ad)) none)) λk2=>
 cond (!(eA a0 1 9))
 (k2 true)
 (cond (!(CC a1))
 (k2 true)
 (k2 (!(MA a2))))
def Ps(a0:List UInt8):=
 cond (decide (([]:List UInt8).length+a0.length≤bA)) (some (⟨14,0,0,[],[],0,0,[]++a0,[],(⟨0,0⟩:Ai),0⟩:Ae)) none
def Pt(a0:List UInt8)(a1:List UInt8)(a2:List UInt8)(a3:Int):=
 ob (oR [a1,a2] a0 a3) λr1=>
 ob (GC r1) λr2=>
 cond (!r2)
 (some (⟨0,[],(⟨[],(⟨[]⟩:Ba),(⟨[],0⟩:Ax),(⟨0,[]⟩:Ao),[]⟩:Ac),(⟨[],0⟩:Ax),[],[],[]⟩:Ab))
 (ob (zcD a0) λr3=>
 let r4:Ai:=KB 1
 ob (DI 1 a1 r4) λr5=>
 let r6:Ai:=KB 2
 ob (DI 2 a2 r6) λr7=>
 let r8:(List UInt8):=xD a0 0
 ob (vE r8) λr9=>
 cond (decide (([]:List UInt8).length+r1.J.Secret.length≤bA)) (let x10:List Ae:=[r9,(⟨12,0,0,[],[],0,0,[],[]++r1.J.Secret,(⟨0,0⟩:Ai),0⟩:Ae)]
 some (⟨0,[r5,r7],r1,(⟨r3,0⟩:Ax),[],[],x10⟩:Ab)) none)
def Nl(a0:List UInt8)(a1:List UInt8):=
 cond (Nat.ble a0.length bA) (cond (Nat.ble a1.length bA) (some (a0==a1)) none) none
def Nm(a0:List Int)(a1:List Int):=
 cond ((a0.length:Int) !=(a1.length:Int))
 (some false)
 (aA (λ(y1:Unit)=>
 some true) λk2=>
 qA FU (λ(x3:Int) k4=>
 cond (decide (x3<(a0.length:Int)))
 (ob (kA a0 x3) λe5=>
 ob (kA a1 x3) λe6=>
 cond (e5 !=e6)
 (some false)
 (k4 (iA .i64 x3 1)))
 (k2 ())) 0)
def Nn(a0:Ap)(a1:Ap):=
 aA (λ(y1:Bool)=>
 some y1) λk2=>
 cond (a0.Top==a1.Top)
 (ob (gB a0.Bits a1.Bits) λr3=>
 k2 r3)
 (k2 false)
def No(a0:Aw)(a1:Aw):=
 aA (λ(y1:Bool)=>
 some y1) λk2=>
 cond (a0.N==a1.N)
 (ob (gB a0.Key a1.Key) λr3=>
 cond (r3)
 (cond (a0.Seq==a1.Seq)
 (ob (gB a0.Win a1.Win) λr4=>
 k2 r4)
 (k2 false))
 (k2 false))
 (k2 false)
def Np(a0:Ak)(a1:Ak):=
 aA (λ(y1:Bool)=>
 some y1) λk2=>
 cond (a0.Role==a1.Role)
 (ob (gB a0.Sn a1.Sn) λr3=>
 cond (r3)
 (ob (gB a0.Cur a1.Cur) λr4=>
 cond (r4)
 (ob (gB a0.Old a1.Old) λr5=>
 cond (r5)
 (cond (a0.HasOld==a1.HasOld)
 (cond (a0.Until==a1.Until)
 (ob (gB a0.Next a1.Next) λr6=>
 k2 r6)
 (k2 false))
 (k2 false))
 (k2 false))
 (k2 false))
 (k2 false))
 (k2 false)
def Nq(a0:Aj)(a1:Aj):=
 aA (λy1=>
 cond (y1)
 (some false)
 (aA (λ(y4:Unit)=>
 some true) λk5=>
 qA FU (λ(x6:Int) k7=>
 cond (decide (x6<(a0.Cands.length:Int)))
 (aA (λy8=>
 cond (y8)
 (some false)
 (k7 (iA .i64 x6 1))) λk9=>
 ob (kA a0.Cands x6) λe10=>
 ob (kA a1.Cands x6) λe11=>
 let x12:Bool:=!(cond (e10.A.Host==e11.A.Host) (cond (e10.A.Port==e11.A.Port) (true) false) false)
 cond (x12)
 (k9 true)
 (ob (kA a0.Cands x6) λe13=>
 ob (kA a1.Cands x6) λe14=>
 ob (gB e13.Draw e14.Draw) λr15=>
 cond (!r15)
 (k9 true)
 (ob (kA a0.Cands x6) λe16=>
 ob (kA a1.Cands x6) λe17=>
 k9 (e16.Until !=e17.Until))))
 (k5 ())) 0)) λk2=>
 let x3:Bool:=!(cond (a0.At.Host==a1.At.Host) (cond (a0.At.Port==a1.At.Port) (true) false) false)
 cond (x3)
 (k2 true)
 (k2 ((a0.Cands.length:Int) !=(a1.Cands.length:Int)))
def Nr(a0:Ah)(a1:Ah):=
 aA (λ(y1:Bool)=>
 some y1) λk2=>
 cond (a0.Id==a1.Id)
 (ob (gB a0.Cn a1.Cn) λr3=>
 cond (r3)
 (ob (gB a0.Sn a1.Sn) λr4=>
 cond (r4)
 (ob (gB a0.C a1.C) λr5=>
 cond (r5)
 (ob (gB a0.P a1.P) λr6=>
 cond (r6)
 (cond (a0.Tick==a1.Tick)
 (cond (a0.Last==a1.Last)
 (k2 (a0.Dead==a1.Dead))
 (k2 false))
 (k2 false))
 (k2 false))
 (k2 false))
 (k2 false))
 (k2 false))
 (k2 false)
def Ns(a0:Ao)(a1:Ao):=
 aA (λy1=>
 cond (y1)
 (some false)
 (aA (λ(y3:Unit)=>
 some true) λk4=>
 qA FU (λ(x5:Int) k6=>
 cond (decide (x5<(a0.L.length:Int)))
 (ob (kA a0.L x5) λe7=>
 ob (kA a1.L x5) λe8=>
 ob (gB e7 e8) λr9=>
 cond (!r9)
 (some false)
 (k6 (iA .i64 x5 1)))
 (k4 ())) 0)) λk2=>
 cond (a0.Cap !=a1.Cap)
 (k2 true)
 (k2 ((a0.L.length:Int) !=(a1.L.length:Int)))
def Nt(a0:List Al)(a1:List Al):=
 cond ((a0.length:Int) !=(a1.length:Int))
 (some false)
 (aA (λ(y1:Unit)=>
 some true) λk2=>
 qA FU (λ(x3:Int) k4=>
 cond (decide (x3<(a0.length:Int)))
 (ob (kA a0 x3) λe5=>
 ob (kA a1 x3) λe6=>
 let x7:Bool:=!(cond (e5.A.Host==e6.A.Host) (cond (e5.A.Port==e6.A.Port) (cond (e5.Got==e6.Got) (cond (e5.Sent==e6.Sent) (true) false) false) false) false)
 cond (x7)
 (some false)
 (k4 (iA .i64 x3 1)))
 (k2 ())) 0)
def Nu(a0:Ac)(a1:Ac):=
 aA (λy1=>
 cond (y1)
 (some false)
 (aA (λ(y7:Unit)=>
 some true) λk8=>
 qA FU (λ(x9:Int) k10=>
 cond (decide (x9<(a0.Psks.length:Int)))
 (ob (kA a0.Psks x9) λe11=>
 ob (kA a1.Psks x9) λe12=>
 ob (gB e11 e12) λr13=>
 cond (!r13)
 (some false)
 (k10 (iA .i64 x9 1)))
 (k8 ())) 0)) λk2=>
 cond ((a0.Psks.length:Int) !=(a1.Psks.length:Int))
 (k2 true)
 (ob (gB a0.J.Secret a1.J.Secret) λr3=>
 cond (!r3)
 (k2 true)
 (ob (gB a0.D.Seed a1.D.Seed) λr4=>
 cond (!r4)
 (k2 true)
 (cond (a0.D.N !=a1.D.N)
 (k2 true)
 (ob (gB a0.T a1.T) λr5=>
 cond (!r5)
 (k2 true)
 (ob (gB a0.Cr a1.Cr) λr6=>
 k2 (!r6))))))
def Nv(a0:List Am)(a1:List Am):=
 cond ((a0.length:Int) !=(a1.length:Int))
 (some false)
 (aA (λ(y1:Unit)=>
 some true) λk2=>
 qA FU (λ(x3:Int) k4=>
 cond (decide (x3<(a0.length:Int)))
 (aA (λy5=>
 cond (y5)
 (some false)
 (k4 (iA .i64 x3 1))) λk6=>
 ob (kA a0 x3) λe7=>
 ob (kA a1 x3) λe8=>
 let x9:Bool:=!(cond (e7.From.Host==e8.From.Host) (cond (e7.From.Port==e8.From.Port) (true) false) false)
 cond (x9)
 (k6 true)
 (ob (kA a0 x3) λe10=>
 ob (kA a1 x3) λe11=>
 let x12:Bool:=!(cond (e10.To.Host==e11.To.Host) (cond (e10.To.Port==e11.To.Port) (true) false) false)
 cond (x12)
 (k6 true)
 (ob (kA a0 x3) λe13=>
 ob (kA a1 x3) λe14=>
 ob (gB e13.B e14.B) λr15=>
 k6 (!r15))))
 (k2 ())) 0)
def Nw(a0:Ae)(a1:Ae):=
 aA (λ(y1:Bool)=>
 some y1) λk2=>
 cond (a0.Kind==a1.Kind)
 (cond (a0.Id==a1.Id)
 (cond (a0.Role==a1.Role)
 (cond (a0.Epoch==a1.Epoch)
 (cond (a0.Seq==a1.Seq)
 (let x3:Bool:=cond (a0.A.Host==a1.A.Host) (cond (a0.A.Port==a1.A.Port) (true) false) false
 cond (x3)
 (cond (a0.Now==a1.Now)
 (ob (BB a0.Cn a1.Cn) λr4=>
 cond (r4)
 (ob (BB a0.Sn a1.Sn) λr5=>
 cond (r5)
 (ob (BB a0.Body a1.Body) λr6=>
 cond (r6)
 (ob (BB a0.Key a1.Key) λr7=>
 k2 r7)
 (k2 false))
 (k2 false))
 (k2 false))
 (k2 false))
 (k2 false))
 (k2 false))
 (k2 false))
 (k2 false))
 (k2 false))
 (k2 false)
def Nx(a0:List Ae)(a1:List Ae):=
 cond ((a0.length:Int) !=(a1.length:Int))
 (some false)
 (aA (λ(y1:Unit)=>
 some true) λk2=>
 qA FU (λ(x3:Int) k4=>
 cond (decide (x3<(a0.length:Int)))
 (ob (kA a0 x3) λe5=>
 ob (kA a1 x3) λe6=>
 ob (gB e5 e6) λr7=>
 cond (!r7)
 (some false)
 (k4 (iA .i64 x3 1)))
 (k2 ())) 0)
def Ny(a0:Aa)(a1:Aa):=
 aA (λ(y1:Bool)=>
 some y1) λk2=>
 cond (a0.Kind==a1.Kind)
 (cond (a0.Id==a1.Id)
 (ob (gB a0.Cn a1.Cn) λr3=>
 cond (r3)
 (ob (gB a0.Sn a1.Sn) λr4=>
 cond (r4)
 (cond (a0.Tick==a1.Tick)
 (ob (gB a0.Cookie a1.Cookie) λr5=>
 cond (r5)
 (ob (gB a0.Proof a1.Proof) λr6=>
 cond (r6)
 (cond (a0.Epoch==a1.Epoch)
 (cond (a0.Seq==a1.Seq)
 (ob (gB a0.Body a1.Body) λr7=>
 cond (r7)
 (ob (gB a0.Tag a1.Tag) λr8=>
 k2 r8)
 (k2 false))
 (k2 false))
 (k2 false))
 (k2 false))
 (k2 false))
 (k2 false))
 (k2 false))
 (k2 false))
 (k2 false))
 (k2 false)
def Nz(a0:Ad)(a1:Ad):=
 aA (λ(y1:Bool)=>
 some y1) λk2=>
 cond (a0.Id==a1.Id)
 (ob (gB a0.Psk a1.Psk) λr3=>
 cond (r3)
 (let x4:Bool:=cond (a0.At.Host==a1.At.Host) (cond (a0.At.Port==a1.At.Port) (true) false) false
 cond (x4)
 (cond (a0.St==a1.St)
 (ob (gB a0.Cn a1.Cn) λr5=>
 cond (r5)
 (ob (gB a0.Fin a1.Fin) λr6=>
 cond (r6)
 (ob (gB a0.C a1.C) λr7=>
 cond (r7)
 (let x8:Bool:=cond (a0.T.On==a1.T.On) (cond (a0.T.Due==a1.T.Due) (cond (a0.T.Wait==a1.T.Wait) (cond (a0.T.Tries==a1.T.Tries) (true) false) false) false) false
 cond (x8)
 (let x9:Bool:=cond (a0.R.On==a1.R.On) (cond (a0.R.Due==a1.R.Due) (cond (a0.R.Wait==a1.R.Wait) (cond (a0.R.Tries==a1.R.Tries) (true) false) false) false) false
 cond (x9)
 (k2 (a0.Last==a1.Last))
 (k2 false))
 (k2 false))
 (k2 false))
 (k2 false))
 (k2 false))
 (k2 false))
 (k2 false))
 (k2 false))
 (k2 false)
def Oa(a0:Ab)(a1:Ab):=
 aA (λy1=>
 cond (y1)
 (some false)
 (aA (λ(y7:Unit)=>
 aA (λ(y14:Unit)=>
 some true) λk15=>
 qA FU (λ(x16:Int) k17=>
 cond (decide (x16<(a0.Known.length:Int)))
 (ob (kA a0.Known x16) λe18=>
 ob (kA a1.Known x16) λe19=>
 ob (gB e18 e19) λr20=>
 cond (!r20)
 (some false)
 (k17 (iA .i64 x16 1)))
 (k15 ())) 0) λk8=>
 qA FU (λ(x9:Int) k10=>
 cond (decide (x9<(a0.Clients.length:Int)))
 (ob (kA a0.Clients x9) λe11=>
 ob (kA a1.Clients x9) λe12=>
 ob (gB e11 e12) λr13=>
 cond (!r13)
 (some false)
 (k10 (iA .i64 x9 1)))
 (k8 ())) 0)) λk2=>
 cond (a0.Now !=a1.Now)
 (k2 true)
 (cond ((a0.Clients.length:Int) !=(a1.Clients.length:Int))
 (k2 true)
 (ob (gB a0.S a1.S) λr3=>
 cond (!r3)
 (k2 true)
 (ob (gB a0.D.Seed a1.D.Seed) λr4=>
 cond (!r4)
 (k2 true)
 (cond (a0.D.N !=a1.D.N)
 (k2 true)
 (ob (gB a0.Seen a1.Seen) λr5=>
 cond (!r5)
 (k2 true)
 (cond ((a0.Known.length:Int) !=(a1.Known.length:Int))
 (k2 true)
 (ob (gB a0.Notes a1.Notes) λr6=>
 k2 (!r6))))))))
end
end Go.D
namespace Go.D
end Go.D
namespace Go.D
def Ok{α:Type}(o:Option α)(P:α→Prop):Prop:=∃r,o=some r∧P r
def Ok.bind{α β:Type}{o:Option α}{P:α→Prop}{Q:β→Prop}{f:α→Option β}(h:Ok o P)(k:∀r,P r→Ok (f r) Q):Ok (Option.bind o f) Q:=by
 obtain⟨r,rfl,h⟩:=h;exact k r h
def Ok.some'{α:Type}{x:α}{P:α→Prop}(h:P x):Ok (some x) P:=⟨x,rfl,h⟩
def Ok.mono{α:Type}{o:Option α}{P Q:α→Prop}(h:Ok o P)(k:∀r,P r→Q r):Ok o Q:=by
 obtain⟨r,h1,h2⟩:=h;exact⟨r,h1,k r h2⟩
def Ok.cond'{α:Type}{b:Bool}{x y:Option α}{P:α→Prop}(h1:b=true→Ok x P)(h2:b=false→Ok y P):Ok (cond b x y) P:=by
 cases b
 ·exact h2 rfl
 ·exact h1 rfl
def Ok.loop{σ R:Type}{f:σ→(σ→Option R)→Option R}{P:R→Prop}(inv:σ→Prop)(μ:σ→Nat)
  (h:∀x,inv x→∀k:σ→Option R,(∀y,inv y→μ y<μ x→Ok (k y) P)→Ok (f x k) P) {x:σ} (hx:inv x) (hμ:μ x<2^64):Ok (qA FU f x) P:=by
 rw[zds]
 have:∀(n:Nat) (x:σ),inv x→μ x<n→Ok (qA n f x) P:=by
  intro n;induction n with
  | zero=>intro x _ hn;omega
  | succ n ih=>intro x hx hn;exact h x hx (qA n f) λy hy NV=>ih y hy (by omega)
 exact this _ x hx hμ
def zvw(x:Int)(j:Nat)(hj:j<63):0≤LB .i64 x ((2^j - 1:Nat):Int)∧LB .i64 x ((2^j - 1:Nat):Int)≤((2^j - 1:Nat):Int):=by
 have h1:2^j<2^63:=Nat.pow_lt_pow_right (by decide) hj;have h0:0<2^j:=Nat.two_pow_pos j;unfold LB;show 0≤IntKind.wrap .i64 ((BitVec.ofInt 64 x&&&BitVec.ofInt 64 ((2^j - 1:Nat):Int)).toNat:Int)∧IntKind.wrap .i64 ((BitVec.ofInt 64 x&&&BitVec.ofInt 64 ((2^j - 1:Nat):Int)).toNat:Int)≤_
 have h2:(BitVec.ofInt 64 x&&&BitVec.ofInt 64 ((2^j - 1:Nat):Int)).toNat≤2^j - 1:=by
  rw[BitVec.toNat_and,ON _ (by omega)];exact Nat.and_le_right
 generalize (BitVec.ofInt 64 x&&&BitVec.ofInt 64 ((2^j - 1:Nat):Int)).toNat=m at h2;rw[XB (by omega) (by omega)];omega
def zcw(x:Int):0≤LB .i64 x 255∧LB .i64 x 255≤255:=zvw x 8 (by decide)
def mA(c:Af):Prop:=0≤c.i∧c.i≤c.b.length∧c.b.length≤1048576
def zuW{code:List UInt8}(h:code.length≤1048576):Ok (Gi code) mA:=by
 simp only[Gi,aA];refine Ok.loop (λx:Int×Int=>0≤x.2∧x.2≤(code.length:Int)) (λx=>code.length - x.2.toNat) (λx hx k hk=>?_) ⟨Int.le_refl _,by show(0:Int)≤(code.length:Int);omega⟩ (by show code.length - Int.toNat 0<_;omega);obtain⟨s,i⟩:=x;obtain⟨h0,h1⟩:=hx;simp only at h0 h1 hk⊢;obtain⟨j,rfl⟩:=Int.eq_ofNat_of_zero_le h0;have WB:Ok (some (⟨code,0,s⟩:Af)) mA:= .some' ⟨Int.le_refl _,by show(0:Int)≤_;omega,h⟩;refine .cond' (λhj=>?_) λ_=>WB;have hj:j<code.length:=by simpa using hj
 refine .cond' (λ_=>?_) λ_=>WB;rw[HB hj,YA];have:iA .i64 (j:Int) 1=((j+1:Nat):Int):=wG j (by rw[tD];omega);rw[this];exact hk _ ⟨by show(0:Int)≤((j+1:Nat):Int);omega,by show((j+1:Nat):Int)≤_;omega⟩ (by simp only[Int.toNat_natCast];omega)
def nS{c:Af}(h:mA c):Ok (Cl c) λr=>0≤r.1∧r.1≤255∧mA r.2:=by
 obtain⟨h0,h1,h2⟩:=h;simp only[Cl,aA];refine .cond' (λhc=>?_) λ_=> .some' ⟨(zcw _).1,(zcw _).2,h0,h1,h2⟩;have hc:c.i<(c.b.length:Int):=by simpa using hc
 obtain⟨j,hj⟩:=Int.eq_ofNat_of_zero_le h0;rw[hj]at hc⊢;have RZ:j<c.b.length:=by omega
 rw[HB RZ,YA];refine .some' ⟨(zcw _).1,(zcw _).2,?_,?_,h2⟩
 ·show 0≤iA .i64 (j:Int) 1
  rw[iA,wG j (by rw[tD];omega)];omega
 ·show iA .i64 (j:Int) 1≤(c.b.length:Int)
  rw[iA,wG j (by rw[tD];omega)];omega
def BS{a n:Int}(ha:0≤a)(hn:0<n):0≤EA .i64 a n∧EA .i64 a n<n:=by
 unfold EA;rw[Int.tmod_eq_emod_of_nonneg ha];exact⟨Int.emod_nonneg _ (by omega),Int.emod_lt_of_pos _ hn⟩
def zfe{c:Af}{n:Int}(h:mA c):Ok (Ar c n) λr=>0≤r.1∧(0<n→r.1<n)∧(n≤0→r.1=0)∧mA r.2:=by
 simp only[Ar];refine .cond' (λhn=>?_) λhn=>?_
 ·have hn:n≤0:=by simpa using hn
  exact .some' ⟨Int.le_refl _,λh=>by omega,λ_=>rfl,h⟩
 ·have hn:0<n:=by simpa using hn
  have C1:(n==0)=false:=by simp;omega
  refine .cond' (λ_=>?_) λ_=>?_
  ·refine(nS h).bind λr hr=>?_;rw[C1];have:=BS hr.1 hn;exact .some' ⟨this.1,λ_=>this.2,λh=>by omega,hr.2.2⟩
  ·refine(nS h).bind λr hr=>(nS hr.2.2).bind λr2 dW=>(nS dW.2.2).bind λr3 tW=>?_;rw[C1];have h1:YB .i64 r.1 65536=r.1 *65536:=XB (by omega) (by omega);have h2:YB .i64 r2.1 256=r2.1 *256:=XB (by omega) (by omega);have h3:iA .i64 (YB .i64 r.1 65536) (YB .i64 r2.1 256)=r.1 *65536+r2.1 *256:=by rw[h1,h2];exact XB (by omega) (by omega)
   have h4:iA .i64 (iA .i64 (YB .i64 r.1 65536) (YB .i64 r2.1 256)) r3.1=r.1 *65536+r2.1 *256+r3.1:=by rw[h3];exact XB (by omega) (by omega)
   simp only[cond_false,h4];have:=BS (a:=r.1 *65536+r2.1 *256+r3.1) (by omega) hn;exact .some' ⟨this.1,λ_=>this.2,λh=>by omega,tW.2.2⟩
def zfL{c:Af}{l:List Int}(h:mA c)(hl:l≠[]):Ok (As c l) λr=>r.1∈l∧mA r.2:=by
 simp only[As];have h0:0<l.length:=List.length_pos_iff.2 hl;refine(zfe h).bind λr hr=>?_;obtain⟨j,hj⟩:=Int.eq_ofNat_of_zero_le hr.1;have:=hr.2.1 (by omega);rw[hj]at this⊢;have RZ:j<l.length:=by omega
 rw[HB RZ,YA];exact .some' ⟨List.getElem_mem RZ,hr.2.2.2⟩
def zsf{c:Af}{n:Int}(h:mA c)(hn:n≤1048576):Ok (Ay c n) λr=>r.1.length=n.toNat∧mA r.2:=by
 have hL:=IB;simp only[Ay,aA];refine Ok.loop (λx:List UInt8×Int×Af=>x.2.1=(x.1.length:Int)∧x.1.length≤n.toNat∧mA x.2.2) (λx=>n.toNat - x.1.length) (λx hx k hk=>?_) ⟨rfl,Nat.zero_le _,h⟩ (by show n.toNat - 0<_;omega);obtain⟨l,i,d⟩:=x;obtain⟨hi,h1,h2⟩:=hx;simp only at hi h1 h2 hk⊢;subst hi;refine .cond' (λhc=>?_) λhc=>?_
 ·have hc:(l.length:Int)<n:=by simpa using hc
  refine(nS h2).bind λr hr=>?_;rw[decide_eq_true (by simp;omega),cond_true];have:iA .i64 (l.length:Int) 1=((l.length+1:Nat):Int):=wG _ (by rw[tD];omega);rw[this];exact hk _ ⟨by simp,by simp;omega,hr.2.2⟩ (by simp;omega)
 ·have hc:¬(l.length:Int)<n:=by simpa using hc
  exact .some' ⟨by show l.length=_;omega,h2⟩
def zcp.ok{x}(_:xA [.sl .byte] x):Rv x=some (cT x):=rfl
end Go.D
namespace Go.D
def BG{α β:Type}[Wt α]{a:α}{f:Bool→Option β}(h:wt a≤bA):Option.bind (gB a a) f=f true:=HA ⟨rfl,h⟩
def nG{α:Type}[Wt α]{a b:α}{r:Bool}{o:α→α→Option Bool}(h:wt a≤bA→o a a=some true):gB a b=some r→o a b=some r:=
 UA λhp=>by obtain⟨rfl,hw⟩:=hp;exact h hw
def OK{R:Type}(n:Nat)(hn:n≤maxLen)(z:Option R){f:Int→(Int→Option R)→Option R}
  (hf:∀(i:Nat) (k:Int→Option R),i<n→f (i:Int) k=k (IntKind.wrap .i64 ((i:Int)+1))) (hz:∀k,f (n:Int) k=z):qA FU f (0:Int)=z:=
 bV n hn (f:=f) (g:=λ_=>z) (λi k hi hk=>by rw[hf i k hi,hk]) hz 0 (Nat.zero_le _)
def NI{i n:Nat}(h:i<n):decide ((i:Int)<(n:Int))=true:=by simpa using h
def XJ(n:Nat):decide ((n:Int)<(n:Int))=false:=by simp
def zp3{a:List UInt8}(h:wt a≤bA):Nl a a=some true:=by
 rw[FA]at h;simp only[Nl,Nat.ble_eq_true_of_le h,cond_true,beq_self_eq_true]
def zn7{a:List Int}(h:wt a≤bA):Nm a a=some true:=by
 simp only[Nm,bne_self_eq_false,cond_false,aA];refine OK a.length (eE h) _ (λi k hi=>?_) (λk=>by rw[XJ];rfl);rw[NI hi,cond_true,HB hi,YA,YA,bne_self_eq_false,cond_false]
def zof{a:Ap}(h:wt a≤bA):Nn a a=some true:=by
 simp only[IS]at h;simp only[Nn,aA,beq_self_eq_true,bne_self_eq_false,cond_true,cond_false,Bool.not_true];rw[BG (by omega)]
def zo0{a:Aw}(h:wt a≤bA):No a a=some true:=by
 simp only[fL]at h;simp only[No,aA,beq_self_eq_true,bne_self_eq_false,cond_true,cond_false,Bool.not_true]
 repeat (rw[BG (by omega)]<;>try simp only[cond_true,cond_false,Bool.not_true])
def znO{a:Ak}(h:wt a≤bA):Np a a=some true:=by
 simp only[xH]at h;simp only[Np,aA,beq_self_eq_true,bne_self_eq_false,cond_true,cond_false,Bool.not_true]
 repeat (rw[BG (by omega)]<;>try simp only[cond_true,cond_false,Bool.not_true])
def znL{a:Aj}(h:wt a≤bA):Nq a a=some true:=by
 simp only[II]at h;simp only[Nq,aA,beq_self_eq_true,bne_self_eq_false,cond_true,cond_false,Bool.not_true];refine OK a.Cands.length (eE (by omega)) _ (λi k hi=>?_) (λk=>by rw[XJ];rfl);have:=rE hi;have h2:=lV a.Cands[i];rw[NI hi];simp only[cond_true,HB hi,YA,beq_self_eq_true,Bool.not_true,cond_false];rw[BG (by omega)];simp only[Bool.not_true,cond_false,bne_self_eq_false]
def znN{a:Ah}(h:wt a≤bA):Nr a a=some true:=by
 simp only[VK]at h;simp only[Nr,aA,beq_self_eq_true,bne_self_eq_false,cond_true,cond_false,Bool.not_true]
 repeat (rw[BG (by omega)]<;>try simp only[cond_true,cond_false,Bool.not_true])
def zop{a:Ao}(h:wt a≤bA):Ns a a=some true:=by
 simp only[XI]at h;simp only[Ns,aA,beq_self_eq_true,bne_self_eq_false,cond_true,cond_false,Bool.not_true];refine OK a.L.length (eE (by omega)) _ (λi k hi=>?_) (λk=>by rw[XJ];rfl);have:=rE hi;rw[NI hi];simp only[cond_true,HB hi,YA];rw[BG (by omega)];simp only[Bool.not_true,cond_false]
def znu{a:List Al}(h:wt a≤bA):Nt a a=some true:=by
 simp only[Nt,aA,beq_self_eq_true,bne_self_eq_false,cond_true,cond_false,Bool.not_true];refine OK a.length (eE (by omega)) _ (λi k hi=>?_) (λk=>by rw[XJ];rfl);rw[NI hi];simp only[cond_true,HB hi,YA,beq_self_eq_true,Bool.not_true,cond_false]
def znx{a:Ac}(h:wt a≤bA):Nu a a=some true:=by
 simp only[UL,KS,LI]at h;simp only[Nu,aA,beq_self_eq_true,bne_self_eq_false,cond_true,cond_false,Bool.not_true]
 repeat (rw[BG (by omega)]<;>try simp only[cond_true,cond_false,Bool.not_true])
 refine OK a.Psks.length (eE (by omega)) _ (λi k hi=>?_) (λk=>by rw[XJ];rfl);have:=rE hi;rw[NI hi];simp only[cond_true,HB hi,YA];rw[BG (by omega)];simp only[Bool.not_true,cond_false]
def znB{a:List Am}(h:wt a≤bA):Nv a a=some true:=by
 simp only[Nv,aA,beq_self_eq_true,bne_self_eq_false,cond_true,cond_false,Bool.not_true];refine OK a.length (eE (by omega)) _ (λi k hi=>?_) (λk=>by rw[XJ];rfl);have:=rE hi;have h2:=kV a[i];rw[NI hi];simp only[cond_true,HB hi,YA,beq_self_eq_true,Bool.not_true,cond_false];rw[BG (by omega)];simp only[Bool.not_true,cond_false]
def zrP{β:Type}{a:List UInt8}{f:Bool→Option β}(h:wt a≤bA):Option.bind (BB a a) f=f true:=by
 rw[BB,HA ⟨h,h⟩,beq_self_eq_true]
def znM{a:Ae}(h:wt a≤bA):Nw a a=some true:=by
 simp only[PI]at h;simp only[Nw,aA,beq_self_eq_true,cond_true]
 repeat (rw[zrP (by omega)]<;>try simp only[cond_true])
def MP.ok{x}(_:xA [.v .Note, .v .Note] x){r}:gB x.1 x.2=some r→Nw x.1 x.2=some r:=nG λh=>znM h
def znK{a:List Ae}(h:wt a≤bA):Nx a a=some true:=by
 simp only[Nx,aA,bne_self_eq_false,cond_false];refine OK a.length (eE (by omega)) _ (λi k hi=>?_) (λk=>by rw[XJ];rfl);have:=rE hi;rw[NI hi];simp only[cond_true,HB hi,YA];rw[BG (by omega)];simp only[Bool.not_true,cond_false]
def znC{a:Aa}(h:wt a≤bA):Ny a a=some true:=by
 simp only[uH]at h;simp only[Ny,aA,beq_self_eq_true,bne_self_eq_false,cond_true,cond_false,Bool.not_true]
 repeat (rw[BG (by omega)]<;>try simp only[cond_true,cond_false,Bool.not_true])
def zny{a:Ad}(h:wt a≤bA):Nz a a=some true:=by
 simp only[cM]at h;simp only[Nz,aA,beq_self_eq_true,bne_self_eq_false,cond_true,cond_false,Bool.not_true]
 repeat (rw[BG (by omega)]<;>try simp only[cond_true,cond_false,Bool.not_true])
def znH{a:Ab}(h:wt a≤bA):Oa a a=some true:=by
 simp only[KI,LI]at h;simp only[Oa,aA,beq_self_eq_true,bne_self_eq_false,cond_true,cond_false,Bool.not_true]
 repeat (rw[BG (by omega)]<;>try simp only[cond_true,cond_false,Bool.not_true])
 refine OK a.Clients.length (eE (by omega)) _ (λi k hi=>?_) (λk=>?_)
 ·have:=rE hi;rw[NI hi];simp only[cond_true,HB hi,YA];rw[BG (by omega)];simp only[Bool.not_true,cond_false]
 ·rw[XJ,cond_false];refine OK a.Known.length (eE (by omega)) _ (λi k hi=>?_) (λk=>by rw[XJ];rfl);have:=rE hi;rw[NI hi];simp only[cond_true,HB hi,YA];rw[BG (by omega)];simp only[Bool.not_true,cond_false]
def TR.ok{x}(_:xA [.sl .byte, .sl .byte] x){r}:gB (α:=List UInt8) x.1 x.2=some r→Nl x.1 x.2=some r:=nG λh=>zp3 h
def vP.ok{x}(_:xA [.sl .int, .sl .int] x){r}:gB (α:=List Int) x.1 x.2=some r→Nm x.1 x.2=some r:=nG λh=>zn7 h
def RP.ok{x}(_:xA [.v .Win, .v .Win] x){r}:gB (α:=Ap) x.1 x.2=some r→Nn x.1 x.2=some r:=nG λh=>zof h
def NQ.ok{x}(_:xA [.v .Ep, .v .Ep] x){r}:gB (α:=Aw) x.1 x.2=some r→No x.1 x.2=some r:=nG λh=>zo0 h
def DP.ok{x}(_:xA [.v .Chan, .v .Chan] x){r}:gB (α:=Ak) x.1 x.2=some r→Np x.1 x.2=some r:=nG λh=>znO h
def iP.ok{x}(_:xA [.v .Paths, .v .Paths] x){r}:gB (α:=Aj) x.1 x.2=some r→Nq x.1 x.2=some r:=nG λh=>znL h
def KP.ok{x}(_:xA [.v .Sess, .v .Sess] x){r}:gB (α:=Ah) x.1 x.2=some r→Nr x.1 x.2=some r:=nG λh=>znN h
def PP.ok{x}(_:xA [.v .Tab, .v .Tab] x){r}:gB (α:=Ao) x.1 x.2=some r→Ns x.1 x.2=some r:=nG λh=>zop h
def KO.ok{x}(_:xA [.sl .Credit, .sl .Credit] x){r}:gB (α:=List Al) x.1 x.2=some r→Nt x.1 x.2=some r:=nG λh=>znu h
def OO.ok{x}(_:xA [.v .Server, .v .Server] x){r}:gB (α:=Ac) x.1 x.2=some r→Nu x.1 x.2=some r:=nG λh=>znx h
def mP.ok{x}(_:xA [.sl .Wire, .sl .Wire] x){r}:gB (α:=List Am) x.1 x.2=some r→Nv x.1 x.2=some r:=nG λh=>znB h
def nP.ok{x}(_:xA [.sl .Note, .sl .Note] x){r}:gB (α:=List Ae) x.1 x.2=some r→Nx x.1 x.2=some r:=nG λh=>znK h
def kP.ok{x}(_:xA [.v .Frame, .v .Frame] x){r}:gB (α:=Aa) x.1 x.2=some r→Ny x.1 x.2=some r:=nG λh=>znC h
def bP.ok{x}(_:xA [.v .Client, .v .Client] x){r}:gB (α:=Ad) x.1 x.2=some r→Nz x.1 x.2=some r:=nG λh=>zny h
def gP.ok{x}(_:xA [.v .World, .v .World] x){r}:gB (α:=Ab) x.1 x.2=some r→Oa x.1 x.2=some r:=nG λh=>znH h
end Go.D
namespace Go.D
open Option renaming bind→ob
def DM{n:Nat}{α:Type}(h:n≤bA):decide (([]:List α).length+n≤bA)=true:=by simpa using h
def zcv{β:Type}{a:List UInt8}{f:List UInt8→Option β}(h:wt a≤bA):ob (CA a) f=f a:=HA h
def OU.ok{x}(_:xA [.v .Dice] x){r}:zE x=some r→Pf x=some r:=UA λh=>by
 rw[LI]at h;simp only[Pf,aA,iE];rw[zcv h];cases h1:BC x
 ·rfl
 ·simp only[Bool.not_true,cond_false,Bool.false_or];cases(Ax.N x==10000)<;>rfl
def WT.ok{x}(_:xA [.v .Dice] x){r}:OJ x=some r→Pk x=some r:=UA λh=>by
 rw[LI,FA]at h;simp only[Pk];rw[DM h];rfl
def CU.ok{x}(_:xA [.v .Dice] x){r}:zE x=some r→Pl x=some r:=UA λh=>by
 simp only[Pl,aA,iE];rw[OJ,HA h];cases h1:BC x
 ·rfl
 ·simp only[Bool.not_true,cond_false,Bool.false_or];cases(Ax.N x==10000)<;>rfl
def MT.ok{x}(_:xA [.sl .bs] x){r}:MR x=some r→Pg x=some r:=UA λh=>by
 have hl:=JB (α:=List UInt8) x;simp only[Pg,aA]
 have key:=AG (f:=λ(x3:(List (List UInt8))×Int) k4=>cond (decide (x3.2<(List.length (α:=List UInt8) x:Int))) (ob (kA (α:=List UInt8) x x3.2) λe5=>ob (CA e5) λr6=>
   cond (decide (x3.1.length+[r6].length≤bA)) (k4 ((x3.1++[r6]),(iA .i64 x3.2 1))) none) (some x3.1)) (g:=λ_=>some x)
  (fun y:List (List UInt8) × Int=>y.2=(y.1.length:Int)∧y.1=List.take (α:=List UInt8) y.1.length x) (fun y=>List.length (α:=List UInt8) x - y.1.length) (fun y hy k hk=>by
   obtain⟨o,i⟩:=y;obtain⟨h1,h2⟩:=hy;simp only at h1 h2 hk⊢;subst h1
   by_cases hi:o.length<List.length (α:=List UInt8) x
   ·have hw:=rE (l:=x) hi;rw[NI hi,cond_true,HB hi,YA,zcv (by omega),decide_eq_true (by simp;omega),cond_true];rw[iA,wG _ (by rw[tD];have:=IB;omega)];refine hk _ ⟨by simp,?_⟩ (by simp;omega);simp only[List.length_append,List.length_cons,List.length_nil];rw[WL (l:=x) hi, ←h2]
   ·have ho:o=x:=by rw[h2,List.take_of_length_le (by omega)]
    rw[decide_eq_false (by omega),cond_false,ho]) (x:=([],(0:Int))) ⟨rfl,rfl⟩ (by show List.length (α:=List UInt8) x - 0<2^64;have:=IB;omega)
 exact key
def tU{k info:List UInt8}(hk:k.length≤1048576)(hi:info.length≤100):∀j,(yH k info (j+1)).length=32
 | 0=>wH hk (by simp[yH];omega)
 | j+1=>wH hk (by rw[List.length_append,List.length_append,tU hk hi j];simp;omega)
def zi8{k info:List UInt8}(hk:k.length≤1048576)(hi:info.length≤100)(j:Nat):(yH k info j).length≤32:=by
 cases j with
 | zero=>exact Nat.zero_le _
 | succ j=>rw[tU hk hi];exact Nat.le_refl _
def AN{k info:List UInt8}(hk:k.length≤1048576)(hi:info.length≤100):∀j,(dI k info j).length=32 *j
 | 0=>rfl
 | j+1=>by rw[dI,List.length_append,AN hk hi j,tU hk hi];omega
def zkp{k info:List UInt8}(hk:k.length≤1048576)(hi:info.length≤100)(n:Nat)(hn:n≤8160){R:Type}(z:List UInt8→Option R)
  {f:List UInt8×List UInt8×Int→(List UInt8×List UInt8×Int→Option R)→Option R}
  (hf:∀(j:Nat) (K:List UInt8×List UInt8×Int→Option R),32 *j<n→f (dI k info j,yH k info j,((j+1:Nat):Int)) K=K (dI k info (j+1),yH k info (j+1),((j+2:Nat):Int)))
  (hz:∀(j:Nat) (K:List UInt8×List UInt8×Int→Option R),n≤32 *j→f (dI k info j,yH k info j,((j+1:Nat):Int)) K=z (dI k info j)):
  qA FU f ([],[],(1:Int))=z (dI k info ((n+31) / 32)):=by
 have key:=AG (f:=f) (g:=λ_=>z (dI k info ((n+31) / 32))) (λx=>∃j,x=(dI k info j,yH k info j,((j+1:Nat):Int))∧j≤(n+31) / 32) (λx=>10000 - x.1.length) (λx hx K hK=>by
  obtain⟨j,rfl,hj⟩:=hx
  by_cases hc:32 *j<n
  ·rw[hf j K hc];refine hK _ ⟨j+1,rfl,by omega⟩ ?_;simp only[AN hk hi];omega
  ·rw[hz j K (by omega)];have:j=(n+31) / 32:=by omega
   rw[this]) (x:=([],[],(1:Int))) ⟨0,rfl,Nat.zero_le _⟩ (by show 10000 - 0<2^64;omega)
 exact key
def zrX(a b c:List UInt8):([a,b,c]:List (List UInt8)).flatten=a++b++c:=by simp
def ztO(a b c:List UInt8):wt ([a,b,c]:List (List UInt8))=a.length+b.length+c.length+3:=by
 rw[vD,vD,vD,DG,FA,FA,FA];omega
def pR{k info:List UInt8}{n:Int}(h:(!eA n 0 8160||decide ((info.length:Int)>100)||decide ((k.length:Int)>1048576))=true):VG k info n=([],false):=by rw[VG,h];rfl
def zeE{k info:List UInt8}{n:Int}(h:(!eA n 0 8160||decide ((info.length:Int)>100)||decide ((k.length:Int)>1048576))=false):VG k info n=((dI k info ((n.toNat+31) / 32)).take n.toNat,true):=by rw[VG,h];rfl
def zoI(k info:List UInt8)(n:Int):Nj k info n=some (VG k info n):=by
 have hL:=IB;simp only[Nj,aA];cases h1:eA n 0 8160
 ·rw[pR (by rw[h1];rfl)];rfl
 cases h2:decide ((info.length:Int)>100)
 case true=>rw[pR (by rw[h1,h2];rfl)];rfl
 cases h3:decide ((k.length:Int)>1048576)
 case true=>rw[pR (by rw[h1,h2,h3];rfl)];rfl
 rw[zeE (by rw[h1,h2,h3];rfl)];have h1:=YC.1 h1;have h2:info.length≤100:=by have:=of_decide_eq_false h2;omega
 have h3:k.length≤1048576:=by have:=of_decide_eq_false h3;omega
 obtain⟨m,rfl⟩:=Int.eq_ofNat_of_zero_le h1.1;simp only[Bool.not_true,cond_false,Int.toNat_natCast];refine zkp (R:=List UInt8×Bool) h3 h2 m (by omega) (λo=>some (o.take m,true)) (λj K hj=>?_) (λj K hj=>?_)
 ·have sW:=zi8 h3 h2 j;rw[AN h3 h2,decide_eq_true (by omega),cond_true,jD,HA (by rw[ztO];simp;omega),zrX];have:VC k (yH k info j++info++[UInt8.ofNat (IntKind.wrap .u8 ((j+1:Nat):Int)).toNat])=yH k info (j+1):=rfl;rw[this,tU h3 h2,decide_eq_true (by omega),cond_true,iA,wG (j+1) (by rw[tD];omega)];rfl
 ·rw[AN h3 h2,decide_eq_false (by omega),cond_false,decide_eq_true (by omega),decide_eq_true (by omega),decide_eq_true (by omega)];simp only[Bool.and_self,cond_true,List.drop_zero,Int.sub_zero,Int.toNat_natCast];rw[zcv (by rw[FA,List.length_take];omega)]
def QQ.ok{x}(_:xA [.sl .byte, .sl .byte, .v .int] x):Nj x.1 x.2.1 x.2.2=some (VG x.1 x.2.1 x.2.2):=zoI x.1 x.2.1 x.2.2
def zoF(k info:List UInt8)(n:Int):Nk k info n=some (VG k info n):=by
 have hL:=IB;simp only[Nk,aA];cases h1:eA n 0 8160
 ·rw[pR (by rw[h1];rfl)];rfl
 cases h2:decide ((info.length:Int)>100)
 case true=>rw[pR (by rw[h1,h2];rfl)];rfl
 cases h3:decide ((k.length:Int)>1048576)
 case true=>rw[pR (by rw[h1,h2,h3];rfl)];rfl
 rw[zeE (by rw[h1,h2,h3];rfl)];have h1:=YC.1 h1;have h2:info.length≤100:=by have:=of_decide_eq_false h2;omega
 have h3:k.length≤1048576:=by have:=of_decide_eq_false h3;omega
 obtain⟨m,rfl⟩:=Int.eq_ofNat_of_zero_le h1.1;simp only[Bool.not_true,cond_false,Int.toNat_natCast];refine zkp (R:=List UInt8×Bool) h3 h2 m (by omega) (λo=>some (o.take m,true)) (λj K hj=>?_) (λj K hj=>?_)
 ·have sW:=zi8 h3 h2 j;simp only;rw[AN h3 h2,decide_eq_true (by omega),cond_true,DM (by omega),cond_true,List.nil_append,decide_eq_true (by omega),cond_true,decide_eq_true (by simp;omega),cond_true];have:VC k (yH k info j++info++[UInt8.ofNat (IntKind.wrap .u8 ((j+1:Nat):Int)).toNat])=yH k info (j+1):=rfl;rw[this,tU h3 h2,decide_eq_true (by omega),cond_true,iA,wG (j+1) (by rw[tD];omega)];rfl
 ·rw[AN h3 h2,decide_eq_false (by omega),cond_false,decide_eq_true (by omega),decide_eq_true (by omega),decide_eq_true (by omega)];simp only[Bool.and_self,cond_true,List.drop_zero,Int.sub_zero,Int.toNat_natCast];rw[DM (by rw[List.length_take];omega)];rfl
def gR.ok{x}(_:xA [.sl .byte, .sl .byte, .v .int] x):Nk x.1 x.2.1 x.2.2=some (VG x.1 x.2.1 x.2.2):=zoF x.1 x.2.1 x.2.2
def wU.ok{x}(_:xA [.sl .byte, .v .str] x){r}:GE x.1 x.2=some r→Pi x.1 x.2=some r:=UA λh=>by
 rw[FA]at h;simp only[Pi,Nat.ble_eq_true_of_le h,cond_true];rfl
def mU.ok{x}(_:xA [.sl .byte, .v .str] x){r}:GE x.1 x.2=some r→Pm x.1 x.2=some r:=UA λh=>by
 rw[FA]at h;simp only[Pm,Nat.ble_eq_true_of_le h,cond_true];rfl
def zjw{k l:List UInt8}(hk:k.length≤1048576)(hl:l.length≤100):(zM k l).length=32:=by
 rw[zM,zeE (by rw[show eA 32 0 8160=true from rfl,decide_eq_false (by omega),decide_eq_false (by omega)];rfl)];show(List.take 32 _).length=32
 rw[List.length_take,AN hk hl];rfl
def UR(k l:List UInt8):(zM k l).length≤32:=by
 rw[zM,VG];cases(!eA 32 0 8160||decide ((l.length:Int)>100)||decide ((k.length:Int)>1048576))
 ·show(List.take 32 _).length≤32
  rw[List.length_take];omega
 ·exact Nat.zero_le _
def zwV:wt ([106,97,114]:List UInt8)≤bA:=by rw[FA,IB];decide
def uU.ok{x}(_:xA [.sl .byte] x):Pn x=some (XG x):=by
 simp only[Pn,XG,oA];rw[GE,HA zwV,bne];cases((List.length (α:=UInt8) x:Int)==12)<;>rfl
def hU.ok{x}(_:xA [.v .int] x):Po x=some (FF x):=by
 simp only[Po,FF];cases eA x 1 6<;>rfl
def PU(b:List UInt8):(XG b).Secret.length≤32:=by
 rw[XG];cases oA b
 ·exact Nat.zero_le _
 ·exact UR _ _
def ziX(d:Ax):(iE d).1.Seed=d.Seed:=by
 rw[iE];cases(!BC d||d.N==10000)<;>rfl
def ze2(n:Int):wt (FF n)=0:=by
 rw[FF];cases eA n 1 6<;>rfl
def zbd(p:List (List UInt8))(s:List UInt8)(m:Int):wt (HC p s m)≤wt p+wt s+32:=by
 rw[UL,KS,LI];have h1:=PU (iE ⟨s,0⟩).2;have h2:=ziX ⟨s,0⟩;have h3:=ze2 m;show wt p+wt (XG (iE ⟨s,0⟩).2).Secret+wt (iE ⟨s,0⟩).1.Seed+wt (FF m)+0≤_
 rw[h2,h3,FA];show wt p+_+wt s+0+0≤_;omega
def sT.ok{x}(_:xA [.sl .bs, .sl .byte, .v .int] x){r}:oR x.1 x.2.1 x.2.2=some r→Pp x.1 x.2.1 x.2.2=some r:=UA λh=>by
 obtain⟨p,s,m⟩:=x;simp only at h;have hL:=IB;have hw:=zbd p s m;have hl:=JB p;simp only[Pp,HN];rw[zE,HA (by rw[LI];show wt s≤bA;omega)];simp only[aA]
 have key:=zkM (σ:=Ac) (R:=Ac) p.length (by rw[tD];omega) (f:=λ(x6:Int×Ac) k7=>cond (decide (x6.1<(p.length:Int))) (ob (kA p x6.1) λe8=>
   cond (decide (([]:List UInt8).length+e8.length≤bA)) (cond (decide (x6.2.Psks.length+[[]++e8].length≤bA)) (k7 ((iA .i64 x6.1 1),(⟨x6.2.Psks++[[]++e8],x6.2.J,x6.2.D,x6.2.T,x6.2.Cr⟩:Ac))) none) none)
   (ob (GC x6.2) λr9=>cond (!r9) (some (⟨[],(⟨[]⟩:Ba),(⟨[],0⟩:Ax),(⟨0,[]⟩:Ao),[]⟩:Ac)) (some x6.2)))
  (g:=λ_ _=>some (bif fC (HC p s m)then HC p s m else zcK)) (λi t=>t=⟨p.take i,(HC p s m).J,(HC p s m).D,(HC p s m).T,[]⟩)
  (fun i t k hi ht hk=>by
   subst ht;have hwg:=rE hi;rw[FA]at hwg;simp only;rw[NI hi,cond_true,HB hi,YA,DM (by omega),cond_true,decide_eq_true (by simp;omega),cond_true,List.nil_append, ←WL p hi];exact hk _ rfl)
  (fun t k ht=>by
   subst ht;simp only[List.take_length];rw[XJ,cond_false];show ob (GC (HC p s m)) _=_
   rw[GC,HA (by omega)];cases fC (HC p s m)<;>rfl) 0 ⟨[],(HC p s m).J,(HC p s m).D,(HC p s m).T,[]⟩ (Nat.zero_le _) rfl
 exact key
def ziQ(id:Int)(psk:List UInt8)(a:Ai):wt (FI id psk a)=wt psk:=by
 rw[cM];show wt psk+0+0+0+0+0+0=_
 omega
def zix(id:Int)(psk:List UInt8)(a:Ai):aC (FI id psk a)=(eA id 1 9&&CC psk&&MA a):=by
 show(eA id 1 9&&CC psk&&MA a&&true)=_
 rw[Bool.and_true]
def yT.ok{x}(_:xA [.v .int, .sl .byte, .v .Addr] x){r}:DI x.1 x.2.1 x.2.2=some r→Pr x.1 x.2.1 x.2.2=some r:=UA λh=>by
 obtain⟨id,psk,a⟩:=x;simp only at h;rw[FA]at h;simp only[Pr,QB,aA];rw[DM h];cases eA id 1 9
 ·rfl
 cases CC psk
 ·rfl
 cases MA a<;>rfl
def KT.ok{x}(_:xA [.sl .byte] x){r}:vE x=some r→Pj x=some r:=UA λh=>by
 simp only[Pj];rw[zcv h];rfl
def wT.ok{x}(_:xA [.sl .byte] x){r}:vE x=some r→Ps x=some r:=UA λh=>by
 rw[FA]at h;simp only[Ps];rw[DM h];rfl
def aU.ok{x}(_:xA [.sl .byte] x){r}:zcD x=some r→Pq x=some r:=UA λh=>by
 rw[FA]at h;have hL:=IB;simp only[Pq,aA,List.nil_append];rw[DM h,cond_true]
 by_cases hc:31<List.length (α:=UInt8) x
 ·rw[decide_eq_true (by omega),cond_true,decide_eq_true (by omega),decide_eq_true (by omega),decide_eq_true (by omega)];simp only[Bool.and_self,cond_true];rw[decide_eq_true (by simp;omega)];rfl
 ·rw[decide_eq_false (by omega),cond_false,decide_eq_true (by simp;omega),cond_true,eI,List.take_of_length_le (by omega)];rfl
def zfr(a b:List UInt8):wt ([a,b]:List (List UInt8))=wt a+wt b+2:=by rw[vD,vD,DG];omega
def zsp{s a b:List UInt8}{m:Int}(h:fC (HC [a,b] s m)=true):1≤s.length∧s.length≤32:=by
 simp only[fC,Bool.and_eq_true]at h;have h1:=h.1.1.1.1.2;rw[show(HC [a,b] s m).D=(iE ⟨s,0⟩).1 from rfl,BC,Bool.and_eq_true,ziX]at h1;have h2:1≤(s.length:Int)∧(s.length:Int)≤32:=YC.1 h1.1;exact⟨by omega,by omega⟩
def KU(s:List UInt8)(n:Int):(xD s n).length≤12:=by
 rw[xD];cases eA (s.length:Int) 1 32&&eA n 0 10000
 ·exact Nat.zero_le _
 ·simp only[cond_true,List.length_take];omega
def HT.ok{x}(_:xA [.sl .byte, .sl .byte, .sl .byte, .v .int] x){r}:zb6 x.1 x.2.1 x.2.2.1 x.2.2.2=some r→Pt x.1 x.2.1 x.2.2.1 x.2.2.2=some r:=UA λh=>by
 obtain⟨s,a,b,m⟩:=x;simp only at h;have hL:=IB;have hw:=zbd [a,b] s m;rw[zfr]at hw;simp only[Pt,SU];rw[oR,HA (by rw[zfr];omega)];cases hs:fC (HC [a,b] s m)
 ·have e:HN [a,b] s m=zcK:=by rw[HN,hs];rfl
  rw[e,GC,HA (by show 0≤_;omega)];rfl
 have e:HN [a,b] s m=HC [a,b] s m:=by rw[HN,hs];rfl
 have hj:((HC [a,b] s m).J).Secret.length≤32:=PU _;have hdl:=KU s 0;rw[e,GC,HA (by omega),hs];simp only[Bool.not_true,cond_false,cond_true];rw[zcD,HA (by omega),DI,HA (by omega),DI,HA (by omega),vE,HA (by rw[FA];omega),DM (by omega)];rfl
end Go.D
namespace Go.D
def zis(id:Int)(psk:List UInt8)(a:Ai):wt (QB id psk a)≤wt psk:=by
 rw[QB];cases(eA id 1 9&&CC psk&&MA a)
 ·rw[cond_false,ziQ];exact Nat.zero_le _
 ·rw[cond_true,ziQ];exact Nat.le_refl _
def zpB(b:List UInt8):wt (VE b)=b.length:=by
 rw[PI];show 0+0+wt b+0+0=_
 rw[FA];omega
def zrp(b:List UInt8):wt (VU b)=b.length:=by
 rw[PI];show 0+0+0+wt b+0=_
 rw[FA];omega
def zrx(s a b:List UInt8)(m:Int):wt (SU s a b m)≤2 *wt a+2 *wt b+wt s+200:=by
 rw[SU];cases fC (HC [a,b] s m)
 ·exact Nat.zero_le _
 ·have h1:=zis 1 a (KB 1);have h2:=zis 2 b (KB 2);have h3:=zbd [a,b] s m;have h4:=KU s 0;have h5:(HC [a,b] s m).J.Secret.length≤32:=PU _;have h6:(eI s).length≤32:=by rw[eI,List.length_append,List.length_take];simp;omega
  have h7:=zpB (xD s 0);have h8:=zrp (HC [a,b] s m).J.Secret;rw[zfr]at h3;rw[cond_true,KI,LI];show wt [QB 1 a (KB 1),QB 2 b (KB 2)]+wt (HC [a,b] s m)+wt (eI s)+0+0+wt [VE (xD s 0),VU (HC [a,b] s m).J.Secret]≤_
  rw[vD,vD,DG,vD,vD,DG,FA,h7,h8];omega
def zrJ{s a b:List UInt8}{m:Int}(h:fC (HC [a,b] s m)=true):oB (zcY s a b m)=true∧QB 1 a (KB 1)=FI 1 a (KB 1)∧QB 2 b (KB 2)=FI 2 b (KB 2)∧
  (HC [a,b] s m).J.Secret.length=32∧(HC [a,b] s m).T.L=[]:=by
 have hd:=zsp h;have hs:=h;simp only[fC,Bool.and_eq_true]at h
 have hj:(HC [a,b] s m).J.Secret.length=32:=by
  have:=h.1.1.1.1.1.2;simp only[dF,beq_iff_eq]at this;omega
 have hp:=h.1.2
 have E1:CC a=true∧CC b=true:=by
  have:(HC [a,b] s m).Psks=[a,b]:=rfl;rw[this]at hp;simpa using hp
 have ha:QB 1 a (KB 1)=FI 1 a (KB 1):=by rw[QB,E1.1];rfl
 have hb:QB 2 b (KB 2)=FI 2 b (KB 2):=by rw[QB,E1.2];rfl
 have hdl:=KU s 0
 have hT:(HC [a,b] s m).T.L=[]:=by
  show(FF m).L=[]
  rw[FF];cases eA m 1 6<;>rfl
 refine⟨?_,ha,hb,hj,hT⟩
 have RY:tC (VE (xD s 0))=true:=by
  have:(xD s 0).length=12:=by
   rw[xD,show eA (s.length:Int) 1 32=true from YC.2 ⟨by omega,by omega⟩];show(List.take 12 _).length=12
   rw[List.length_take,wH (by omega) (by rw[WU];omega)];rfl
  show(eA 14 1 17&&eA 0 0 9&&eA 0 0 1&&uD [] 12&&uD [] 12&&eA 0 0 4294967295&&eA 0 0 281474976710655&&decide (((xD s 0).length:Int)≤100)&&uD [] 32&&MA ⟨0,0⟩&&eA 0 0 1000000)=true
  rw[this];rfl
 have z4:tC (VU (HC [a,b] s m).J.Secret)=true:=by
  show(eA 12 1 17&&eA 0 0 9&&eA 0 0 1&&uD [] 12&&uD [] 12&&eA 0 0 4294967295&&eA 0 0 281474976710655&&decide ((([]:List UInt8).length:Int)≤100)&&CE ((HC [a,b] s m).J.Secret.length:Int) 32&&MA ⟨0,0⟩&&eA 0 0 1000000)=true
  rw[hj];rfl
 have Q6:BC ⟨eI s,0⟩=true:=by
  have:1≤(eI s).length∧(eI s).length≤32:=by rw[eI,List.length_append,List.length_take];simp;omega
  show(eA ((eI s).length:Int) 1 32&&eA 0 0 10000)=true
  rw[YC.2 ⟨by omega,by omega⟩];rfl
 have hcb:FB 2 (TH (zcY s a b m))=false:=by
  refine TG.2 λi hi=>?_
  match i,hi with
  | 0,_=>
   show(!aC (QB 1 a (KB 1))||(QB 1 a (KB 1)).Id !=((0+1:Nat):Int)||!((QB 1 a (KB 1)).Psk==a))=false
   rw[ha,zix,E1.1];simp[FI];decide
  | 1,_=>
   show(!aC (QB 2 b (KB 2))||(QB 2 b (KB 2)).Id !=((1+1:Nat):Int)||!((QB 2 b (KB 2)).Psk==b))=false
   rw[hb,zix,E1.2];simp[FI];decide
 show(eA 0 0 1000000&&true&&fC (HC [a,b] s m)&&true&&BC ⟨eI s,0⟩&&true&&true&&!(FB 2 (TH (zcY s a b m)))&&true&&!(!tC (VE (xD s 0))||(!tC (VU (HC [a,b] s m).J.Secret)||false)))=true
 rw[hs,Q6,hcb,RY,z4];rfl
end Go.D
