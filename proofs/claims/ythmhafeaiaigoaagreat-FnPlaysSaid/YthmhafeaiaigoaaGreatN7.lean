/-
 Sizes of the program's data.
-/
import Derived.Test.YthmhafeaiaigoaaGreatN6
set_option linter.all false
namespace Go.D
end Go.D
namespace Go.D
noncomputable section
def DT(code:List UInt8):Bool:=decide ((code.length:Int)>1048576)
def kB{α:Type}[Wt α](a b:α):Option Bool:=pt (a=b∧wt a≤bA) true
def aK(d:Au):Option Au:=pt (wt d≤bA) d
def RC(d:Au):Au×List UInt8:=bif !gC d||d.N==10000 then(d,[])else(⟨d.Seed,iA .i64 d.N 1⟩,CD d.Seed d.N)
def iE(d:Au):Option (Au×List UInt8):=pt (wt d≤bA) (RC d)
def oS(l:List (List UInt8)):Option (List (List UInt8)):=pt (wt l≤bA) l
def NH(k info:List UInt8):Nat→List UInt8
 | 0=>[]
 | j+1=>ZC k (NH k info j++info++[UInt8.ofNat (IntKind.wrap .u8 ((j+1:Nat):Int)).toNat])
def qI(k info:List UInt8):Nat→List UInt8
 | 0=>[]
 | j+1=>qI k info j++NH k info (j+1)
def jH(k info:List UInt8)(n:Int):List UInt8×Bool:=
 bif !eA n 0 8160||decide ((info.length:Int)>100)||decide ((k.length:Int)>1048576)then([],false)else((qI k info ((n.toNat+31) / 32)).take n.toNat,true)
def wL(k label:List UInt8):List UInt8:=(jH k label 32).1
def uE(k label:List UInt8):Option (List UInt8):=pt (wt label≤bA) (wL k label)
def lF(b:List UInt8):Ba:=bif nA b then⟨wL b [106,97,114]⟩else⟨[]⟩
def YD(n:Int):Ao:=bif eA n 1 6 then⟨n,[]⟩else⟨0,[]⟩
def zdx:Ac:=⟨[],⟨[]⟩,⟨[],0⟩,⟨0,[]⟩,[]⟩
def MC(psks:List (List UInt8))(seed:List UInt8)(most:Int):Ac:=⟨psks,lF (RC ⟨seed,0⟩).2,(RC ⟨seed,0⟩).1,YD most,[]⟩
def gO(psks:List (List UInt8))(seed:List UInt8)(most:Int):Ac:=bif KB (MC psks seed most)then MC psks seed most else zdx
def NR(psks:List (List UInt8))(seed:List UInt8)(most:Int):Option Ac:=pt (wt psks+wt seed+1000≤bA) (gO psks seed most)
def zg6:Ab:=⟨0,0,[],[],0,[],[],0,0,[],[]⟩
def zhs:Ak:=⟨0,[],znP,znP,false,0,[]⟩
def zmP:Aw:=⟨false,0,0,0⟩
def VI(id:Int)(psk:List UInt8)(a:Ai):Ae:=⟨id,psk,a,0,[],zg6,zhs,zmP,zmP,0⟩
def TB(id:Int)(psk:List UInt8)(a:Ai):Ae:=bif eA id 1 9&&GC psk&&GA a then VI id psk a else VI 0 [] ⟨0,0⟩
def SI(id:Int)(psk:List UInt8)(a:Ai):Option Ae:=pt (wt psk≤bA) (TB id psk a)
def LE(b:List UInt8):Ad:=⟨14,0,0,[],[],0,0,b,[],⟨0,0⟩,0⟩
def AV(k:List UInt8):Ad:=⟨12,0,0,[],[],0,0,[],k,⟨0,0⟩,0⟩
def ZD(b:List UInt8):Option Ad:=pt (wt b≤bA) (LE b)
def rI(s:List UInt8):List UInt8:=s.take 31++[99]
def zdq(s:List UInt8):Option (List UInt8):=pt (wt s≤bA) (rI s)
def zwU:Aa:=⟨0,[],zdx,⟨[],0⟩,[],[],[]⟩
def zdN(s a b:List UInt8)(most:Int):Aa:=⟨0,[TB 1 a (AB 1),TB 2 b (AB 2)],MC [a,b] s most,⟨rI s,0⟩,[],[],[LE (CD s 0),AV (MC [a,b] s most).J.Secret]⟩
def xV(s a b:List UInt8)(most:Int):Aa:=bif KB (MC [a,b] s most)then zdN s a b most else zwU
def zcR(s a b:List UInt8)(most:Int):Option Aa:=pt (wt a+wt b+wt s+2000≤bA) (xV s a b most)
end
end Go.D
namespace Go.D
open Option renaming bind→ob
noncomputable section
def Sm(a0:List UInt8):=
 some (decide ((a0.length:Int)>1048576))
def Kj(a0:List UInt8):=
 aA (λ(y1:Int)=>
 some (⟨a0,0,y1⟩:Af)) λk2=>
 tA FU (λ(x3:Int×Int) k4=>
 aA (λy5=>
 cond (y5)
 (ob (kA a0 x3.2) λe7=>
 let x8:Int:=IntKind.wrap .i64 ((e7.toNat:Nat):Int);let x9:Int:=iA .i64 (iA .i64 (OB .i64 x3.1 137) x8) 11
 k4 ((PB .i64 x9 1073741823),(iA .i64 x3.2 1)))
 (k2 x3.1)) λk6=>
 cond (decide (x3.2<(a0.length:Int)))
 (k6 (decide (x3.2<4000)))
 (k6 false)) ((iA .i64 127812 (a0.length:Int)),0)
def Co(a0:Af):=
 let x1:Int:=iA .i64 (OB .i64 a0.h 6364136223846793005) 1442695040888963407;let x2:Int:=BB .i64 (GE .i64 x1 33) (GE .i64 x1 47)
 aA (λ(y3:Int×Af)=>
 some (y3.1,y3.2)) λk4=>
 cond (decide (a0.i<(a0.b.length:Int)))
 (ob (kA a0.b a0.i) λe5=>
 let x6:Int:=IntKind.wrap .i64 ((e5.toNat:Nat):Int);let x7:Int:=PB .i64 (iA .i64 (PB .i64 x2 255) x6) 255
 k4 (x7,(⟨a0.b,iA .i64 a0.i 1,x1⟩:Af)))
 (k4 ((PB .i64 x2 255),(⟨a0.b,a0.i,x1⟩:Af)))
def Ar(a0:Af)(a1:Int):=
 cond (decide (a1≤0))
 (some (0,a0))
 (cond (decide (a1≤256))
 (ob (Co a0) λr1=>
 cond (a1==0) none (some (zA .i64 r1.1 a1,r1.2)))
 (ob (Co a0) λr2=>
 ob (Co r2.2) λr3=>
 ob (Co r3.2) λr4=>
 let x5:Int:=iA .i64 (OB .i64 r2.1 65536) (OB .i64 r3.1 256)
 cond (a1==0) none (some (zA .i64 (iA .i64 x5 r4.1) a1,r4.2))))
def As(a0:Af)(a1:List Int):=
 ob (Ar a0 (a1.length:Int)) λr1=>
 ob (kA a1 r1.1) λe2=>
 some (e2,r1.2)
def Ay(a0:Af)(a1:Int):=
 aA (λ(y1:(List UInt8)×Af)=>
 some (y1.1,y1.2)) λk2=>
 tA FU (λ(x3:(List UInt8)×Int×Af) k4=>
 cond (decide (x3.2.1<a1))
 (ob (Co x3.2.2) λr5=>
 cond (decide (x3.1.length+[UInt8.ofNat (IntKind.wrap .u8 r5.1:Int).toNat].length≤bA)) (k4 ((x3.1++[UInt8.ofNat (IntKind.wrap .u8 r5.1:Int).toNat]),(iA .i64 x3.2.1 1),r5.2)) none)
 (k2 (x3.1,x3.2.2))) ([],0,a0)
def Pt(a0:Au):=
 ob (BA a0.Seed) λr1=>
 aA (λy2=>
 cond (y2)
 (some ((⟨r1,a0.N⟩:Au),[]))
 (let r4:(List UInt8):=CD a0.Seed a0.N
 some ((⟨r1,iA .i64 a0.N 1⟩:Au),r4))) λk3=>
 cond (!(gC a0))
 (k3 true)
 (k3 (a0.N==10000))
def Pu(a0:List (List UInt8)):=
 aA (λ(y1:(List (List UInt8)))=>
 some y1) λk2=>
 tA FU (λ(x3:(List (List UInt8))×Int) k4=>
 cond (decide (x3.2<(a0.length:Int)))
 (ob (kA a0 x3.2) λe5=>
 ob (BA e5) λr6=>
 cond (decide (x3.1.length+[r6].length≤bA)) (k4 ((x3.1++[r6]),(iA .i64 x3.2 1))) none)
 (k2 x3.1)) ([],0)
def Nx(a0:List UInt8)(a1:List UInt8)(a2:Int):=
 aA (λy1=>
 cond (y1)
 (some ([],false))
 (aA (λ(y3:(List UInt8)×(List UInt8))=>
 cond (decide (0≤(0:Int))&&decide ((0:Int)≤a2)&&decide (a2≤(y3.1.length:Int))) (ob (BA (List.take ((a2 - 0).toNat) (List.drop 0 y3.1))) λr10=>
 some (r10,true)) none) λk4=>
 tA FU (λ(x5:(List UInt8)×(List UInt8)×Int) k6=>
 cond (decide ((x5.1.length:Int)<a2))
 (let x7:List (List UInt8):=[x5.2.1,a1,[UInt8.ofNat (IntKind.wrap .u8 x5.2.2:Int).toNat]]
 ob (mD x7) λr8=>
 let r9:(List UInt8):=ZC a0 r8
 cond (decide (x5.1.length+r9.length≤bA)) (k6 ((x5.1++r9),r9,(iA .i64 x5.2.2 1))) none)
 (k4 (x5.1,x5.2.1))) ([],[],1))) λk2=>
 cond (!(eA a2 0 8160))
 (k2 true)
 (cond (decide ((a1.length:Int)>100))
 (k2 true)
 (k2 (decide ((a0.length:Int)>1048576))))
def Pv(a0:List UInt8)(a1:List UInt8):=
 cond (Nat.ble a1.length bA) (let r1:(List UInt8)×Bool:=jH a0 a1 32
 some r1.1) none
def Pw(a0:List UInt8):=
 cond (!(nA a0))
 (some (⟨[]⟩:Ba))
 (ob (uE a0 [106,97,114]) λr1=>
 some (⟨r1⟩:Ba))
def Px(a0:Int):=
 cond (!(eA a0 1 6))
 (some (⟨0,[]⟩:Ao))
 (some (⟨a0,[]⟩:Ao))
def Py(a0:List UInt8):=
 ob (BA a0) λr1=>
 some (⟨14,0,0,[],[],0,0,r1,[],(⟨0,0⟩:Ai),0⟩:Ad)
def Pz(a0:Au):=
 cond (decide (([]:List UInt8).length+a0.Seed.length≤bA)) (some (⟨[]++a0.Seed,a0.N⟩:Au)) none
def Qa(a0:Au):=
 ob (aK a0) λr1=>
 aA (λy2=>
 cond (y2)
 (some (r1,[]))
 (let r4:(List UInt8):=CD a0.Seed a0.N
 some ((⟨r1.Seed,iA .i64 a0.N 1⟩:Au),r4))) λk3=>
 cond (!(gC a0))
 (k3 true)
 (k3 (a0.N==10000))
def Ny(a0:List UInt8)(a1:List UInt8)(a2:Int):=
 aA (λy1=>
 cond (y1)
 (some ([],false))
 (aA (λ(y3:(List UInt8)×(List UInt8))=>
 cond (decide (0≤(0:Int))&&decide ((0:Int)≤a2)&&decide (a2≤(y3.1.length:Int))) (cond (decide (([]:List UInt8).length+(List.take ((a2 - 0).toNat) (List.drop 0 y3.1)).length≤bA)) (some ([]++(List.take ((a2 - 0).toNat) (List.drop 0 y3.1)),true)) none) none) λk4=>
 tA FU (λ(x5:(List UInt8)×(List UInt8)×Int) k6=>
 cond (decide ((x5.1.length:Int)<a2))
 (cond (decide (([]:List UInt8).length+x5.2.1.length≤bA)) (cond (decide (([]++x5.2.1).length+a1.length≤bA)) (cond (decide ((([]++x5.2.1)++a1).length+[UInt8.ofNat (IntKind.wrap .u8 x5.2.2:Int).toNat].length≤bA)) (let x7:List UInt8:=(([]++x5.2.1)++a1)++[UInt8.ofNat (IntKind.wrap .u8 x5.2.2:Int).toNat]
 let r8:(List UInt8):=ZC a0 x7
 cond (decide (x5.1.length+r8.length≤bA)) (k6 ((x5.1++r8),r8,(iA .i64 x5.2.2 1))) none) none) none) none)
 (k4 (x5.1,x5.2.1))) ([],[],1))) λk2=>
 cond (!(eA a2 0 8160))
 (k2 true)
 (cond (decide ((a1.length:Int)>100))
 (k2 true)
 (k2 (decide ((a0.length:Int)>1048576))))
def Qb(a0:List UInt8)(a1:List UInt8):=
 cond (Nat.ble a1.length bA) (let r1:(List UInt8)×Bool:=jH a0 a1 32
 some r1.1) none
def Qc(a0:List UInt8):=
 cond ((a0.length:Int) !=12)
 (some (⟨[]⟩:Ba))
 (ob (uE a0 [106,97,114]) λr1=>
 some (⟨r1⟩:Ba))
def Qd(a0:Int):=
 cond (!(eA a0 1 6))
 (some (⟨0,[]⟩:Ao))
 (some (⟨a0,[]⟩:Ao))
def Qe(a0:List (List UInt8))(a1:List UInt8)(a2:Int):=
 ob (iE (⟨a1,0⟩:Au)) λr1=>
 let r2:Ba:=lF r1.2;let r3:Ao:=YD a2
 aA (λ(y4:Ac)=>
 ob (JC y4) λr9=>
 cond (!r9)
 (some (⟨[],(⟨[]⟩:Ba),(⟨[],0⟩:Au),(⟨0,[]⟩:Ao),[]⟩:Ac))
 (some y4)) λk5=>
 tA FU (λ(x6:Int×Ac) k7=>
 cond (decide (x6.1<(a0.length:Int)))
 (ob (kA a0 x6.1) λe8=>
 cond (decide (([]:List UInt8).length+e8.length≤bA)) (cond (decide (x6.2.Psks.length+[[]++e8].length≤bA)) (k7 ((iA .i64 x6.1 1),(⟨x6.2.Psks++[[]++e8],x6.2.J,x6.2.D,x6.2.T,x6.2.Cr⟩:Ac))) none) none)
 (k5 x6.2)) (0,(⟨[],r2,r1.1,r3,[]⟩:Ac))
def Qf(a0:List UInt8):=
 cond (decide (([]:List UInt8).length+a0.length≤bA)) (aA (λ(y1:(List UInt8))=>
 cond (decide (y1.length+[UInt8.ofNat (99:Int).toNat].length≤bA)) (some (y1++[UInt8.ofNat (99:Int).toNat])) none) λk2=>
 cond (decide ((([]++a0).length:Int)>31))
 (cond (decide (0≤(0:Int))&&decide ((0:Int)≤31)&&decide (31≤(([]++a0).length:Int))) (k2 (List.take 31 ([]++a0))) none)
 (k2 ([]++a0))) none
def Qg(a0:Int)(a1:List UInt8)(a2:Ai):=
 aA (λy1=>
 cond (y1)
 (some (⟨0,[],(⟨0,0⟩:Ai),0,[],(⟨0,0,[],[],0,[],[],0,0,[],[]⟩:Ab),(⟨0,[],(⟨0,[],0,(⟨0,[]⟩:Aq)⟩:Ax),(⟨0,[],0,(⟨0,[]⟩:Aq)⟩:Ax),false,0,[]⟩:Ak),(⟨false,0,0,0⟩:Aw),(⟨false,0,0,0⟩:Aw),0⟩:Ae))
 (cond (decide (([]:List UInt8).length+a1.length≤bA)) (some (⟨a0,[]++a1,a2,0,[],(⟨0,0,[],[],0,[],[],0,0,[],[]⟩:Ab),(⟨0,[],(⟨0,[],0,(⟨0,[]⟩:Aq)⟩:Ax),(⟨0,[],0,(⟨0,[]⟩:Aq)⟩:Ax),false,0,[]⟩:Ak),(⟨false,0,0,0⟩:Aw),(⟨false,0,0,0⟩:Aw),0⟩:Ae)) none)) λk2=>
 cond (!(eA a0 1 9))
 (k2 true)
 (cond (!(GC a1))
 (k2 true)
 (k2 (!(GA a2))))
def Qh(a0:List UInt8):=
 cond (decide (([]:List UInt8).length+a0.length≤bA)) (some (⟨14,0,0,[],[],0,0,[]++a0,[],(⟨0,0⟩:Ai),0⟩:Ad)) none
def Qi(a0:List UInt8)(a1:List UInt8)(a2:List UInt8)(a3:Int):=
 ob (NR [a1,a2] a0 a3) λr1=>
 ob (JC r1) λr2=>
 cond (!r2)
 (some (⟨0,[],(⟨[],(⟨[]⟩:Ba),(⟨[],0⟩:Au),(⟨0,[]⟩:Ao),[]⟩:Ac),(⟨[],0⟩:Au),[],[],[]⟩:Aa))
 (ob (zdq a0) λr3=>
 let r4:Ai:=AB 1
 ob (SI 1 a1 r4) λr5=>
 let r6:Ai:=AB 2
 ob (SI 2 a2 r6) λr7=>
 let r8:(List UInt8):=CD a0 0
 ob (ZD r8) λr9=>
 cond (decide (([]:List UInt8).length+r1.J.Secret.length≤bA)) (let x10:List Ad:=[r9,(⟨12,0,0,[],[],0,0,[],[]++r1.J.Secret,(⟨0,0⟩:Ai),0⟩:Ad)]
 some (⟨0,[r5,r7],r1,(⟨r3,0⟩:Au),[],[],x10⟩:Aa)) none)
def Nz(a0:List UInt8)(a1:List UInt8):=
 cond (Nat.ble a0.length bA) (cond (Nat.ble a1.length bA) (some (a0==a1)) none) none
def Oa(a0:List Int)(a1:List Int):=
 cond ((a0.length:Int) !=(a1.length:Int))
 (some false)
 (aA (λ(y1:Unit)=>
 some true) λk2=>
 tA FU (λ(x3:Int) k4=>
 cond (decide (x3<(a0.length:Int)))
 (ob (kA a0 x3) λe5=>
 ob (kA a1 x3) λe6=>
 cond (e5 !=e6)
 (some false)
 (k4 (iA .i64 x3 1)))
 (k2 ())) 0)
def Ob(a0:Aq)(a1:Aq):=
 aA (λ(y1:Bool)=>
 some y1) λk2=>
 cond (a0.Top==a1.Top)
 (ob (kB a0.Bits a1.Bits) λr3=>
 k2 r3)
 (k2 false)
def Oc(a0:Ax)(a1:Ax):=
 aA (λ(y1:Bool)=>
 some y1) λk2=>
 cond (a0.N==a1.N)
 (ob (kB a0.Key a1.Key) λr3=>
 cond (r3)
 (cond (a0.Seq==a1.Seq)
 (ob (kB a0.Win a1.Win) λr4=>
 k2 r4)
 (k2 false))
 (k2 false))
 (k2 false)
def Od(a0:Ak)(a1:Ak):=
 aA (λ(y1:Bool)=>
 some y1) λk2=>
 cond (a0.Role==a1.Role)
 (ob (kB a0.Sn a1.Sn) λr3=>
 cond (r3)
 (ob (kB a0.Cur a1.Cur) λr4=>
 cond (r4)
 (ob (kB a0.Old a1.Old) λr5=>
 cond (r5)
 (cond (a0.HasOld==a1.HasOld)
 (cond (a0.Until==a1.Until)
 (ob (kB a0.Next a1.Next) λr6=>
 k2 r6)
 (k2 false))
 (k2 false))
 (k2 false))
 (k2 false))
 (k2 false))
 (k2 false)
def Oe(a0:Aj)(a1:Aj):=
 aA (λy1=>
 cond (y1)
 (some false)
 (aA (λ(y4:Unit)=>
 some true) λk5=>
 tA FU (λ(x6:Int) k7=>
 cond (decide (x6<(a0.Cands.length:Int)))
 (aA (λy8=>
 cond (y8)
 (some false)
 (k7 (iA .i64 x6 1))) λk9=>
 ob (kA a0.Cands x6) λe10=>
 ob (kA a1.Cands x6) λe11=>
 let x12:Bool:=!(cond (e10.A.Host==e11.A.Host) (cond (e10.A.Port==e11.A.Port) (true) false) false)
 cond (x12)
 (k9 true)
 (ob (kA a0.Cands x6) λe13=>
 ob (kA a1.Cands x6) λe14=>
 ob (kB e13.Draw e14.Draw) λr15=>
 cond (!r15)
 (k9 true)
 (ob (kA a0.Cands x6) λe16=>
 ob (kA a1.Cands x6) λe17=>
 k9 (e16.Until !=e17.Until))))
 (k5 ())) 0)) λk2=>
 let x3:Bool:=!(cond (a0.At.Host==a1.At.Host) (cond (a0.At.Port==a1.At.Port) (true) false) false)
 cond (x3)
 (k2 true)
 (k2 ((a0.Cands.length:Int) !=(a1.Cands.length:Int)))
def Of(a0:Ah)(a1:Ah):=
 aA (λ(y1:Bool)=>
 some y1) λk2=>
 cond (a0.Id==a1.Id)
 (ob (kB a0.Cn a1.Cn) λr3=>
 cond (r3)
 (ob (kB a0.Sn a1.Sn) λr4=>
 cond (r4)
 (ob (kB a0.C a1.C) λr5=>
 cond (r5)
 (ob (kB a0.P a1.P) λr6=>
 cond (r6)
 (cond (a0.Tick==a1.Tick)
 (cond (a0.Last==a1.Last)
 (k2 (a0.Dead==a1.Dead))
 (k2 false))
 (k2 false))
 (k2 false))
 (k2 false))
 (k2 false))
 (k2 false))
 (k2 false)
def Og(a0:Ao)(a1:Ao):=
 aA (λy1=>
 cond (y1)
 (some false)
 (aA (λ(y3:Unit)=>
 some true) λk4=>
 tA FU (λ(x5:Int) k6=>
 cond (decide (x5<(a0.L.length:Int)))
 (ob (kA a0.L x5) λe7=>
 ob (kA a1.L x5) λe8=>
 ob (kB e7 e8) λr9=>
 cond (!r9)
 (some false)
 (k6 (iA .i64 x5 1)))
 (k4 ())) 0)) λk2=>
 cond (a0.Cap !=a1.Cap)
 (k2 true)
 (k2 ((a0.L.length:Int) !=(a1.L.length:Int)))
def Oh(a0:List Al)(a1:List Al):=
 cond ((a0.length:Int) !=(a1.length:Int))
 (some false)
 (aA (λ(y1:Unit)=>
 some true) λk2=>
 tA FU (λ(x3:Int) k4=>
 cond (decide (x3<(a0.length:Int)))
 (ob (kA a0 x3) λe5=>
 ob (kA a1 x3) λe6=>
 let x7:Bool:=!(cond (e5.A.Host==e6.A.Host) (cond (e5.A.Port==e6.A.Port) (cond (e5.Got==e6.Got) (cond (e5.Sent==e6.Sent) (true) false) false) false) false)
 cond (x7)
 (some false)
 (k4 (iA .i64 x3 1)))
 (k2 ())) 0)
def Oi(a0:Ac)(a1:Ac):=
 aA (λy1=>
 cond (y1)
 (some false)
 (aA (λ(y7:Unit)=>
 some true) λk8=>
 tA FU (λ(x9:Int) k10=>
 cond (decide (x9<(a0.Psks.length:Int)))
 (ob (kA a0.Psks x9) λe11=>
 ob (kA a1.Psks x9) λe12=>
 ob (kB e11 e12) λr13=>
 cond (!r13)
 (some false)
 (k10 (iA .i64 x9 1)))
 (k8 ())) 0)) λk2=>
 cond ((a0.Psks.length:Int) !=(a1.Psks.length:Int))
 (k2 true)
 (ob (kB a0.J.Secret a1.J.Secret) λr3=>
 cond (!r3)
 (k2 true)
 (ob (kB a0.D.Seed a1.D.Seed) λr4=>
 cond (!r4)
 (k2 true)
 (cond (a0.D.N !=a1.D.N)
 (k2 true)
 (ob (kB a0.T a1.T) λr5=>
 cond (!r5)
 (k2 true)
 (ob (kB a0.Cr a1.Cr) λr6=>
 k2 (!r6))))))
def Oj(a0:List Ap)(a1:List Ap):=
 cond ((a0.length:Int) !=(a1.length:Int))
 (some false)
 (aA (λ(y1:Unit)=>
 some true) λk2=>
 tA FU (λ(x3:Int) k4=>
 cond (decide (x3<(a0.length:Int)))
 (aA (λy5=>
 cond (y5)
 (some false)
 (k4 (iA .i64 x3 1))) λk6=>
 ob (kA a0 x3) λe7=>
 ob (kA a1 x3) λe8=>
 let x9:Bool:=!(cond (e7.From.Host==e8.From.Host) (cond (e7.From.Port==e8.From.Port) (true) false) false)
 cond (x9)
 (k6 true)
 (ob (kA a0 x3) λe10=>
 ob (kA a1 x3) λe11=>
 let x12:Bool:=!(cond (e10.To.Host==e11.To.Host) (cond (e10.To.Port==e11.To.Port) (true) false) false)
 cond (x12)
 (k6 true)
 (ob (kA a0 x3) λe13=>
 ob (kA a1 x3) λe14=>
 ob (kB e13.B e14.B) λr15=>
 k6 (!r15))))
 (k2 ())) 0)
def Ol(a0:Ad)(a1:Ad):=
 aA (λ(y1:Bool)=>
 some y1) λk2=>
 cond (a0.Kind==a1.Kind)
 (cond (a0.Id==a1.Id)
 (cond (a0.Role==a1.Role)
 (cond (a0.Epoch==a1.Epoch)
 (cond (a0.Seq==a1.Seq)
 (let x3:Bool:=cond (a0.A.Host==a1.A.Host) (cond (a0.A.Port==a1.A.Port) (true) false) false
 cond (x3)
 (cond (a0.Now==a1.Now)
 (ob (EB a0.Cn a1.Cn) λr4=>
 cond (r4)
 (ob (EB a0.Sn a1.Sn) λr5=>
 cond (r5)
 (ob (EB a0.Body a1.Body) λr6=>
 cond (r6)
 (ob (EB a0.Key a1.Key) λr7=>
 k2 r7)
 (k2 false))
 (k2 false))
 (k2 false))
 (k2 false))
 (k2 false))
 (k2 false))
 (k2 false))
 (k2 false))
 (k2 false))
 (k2 false)
def Om(a0:List Ad)(a1:List Ad):=
 cond ((a0.length:Int) !=(a1.length:Int))
 (some false)
 (aA (λ(y1:Unit)=>
 some true) λk2=>
 tA FU (λ(x3:Int) k4=>
 cond (decide (x3<(a0.length:Int)))
 (ob (kA a0 x3) λe5=>
 ob (kA a1 x3) λe6=>
 ob (kB e5 e6) λr7=>
 cond (!r7)
 (some false)
 (k4 (iA .i64 x3 1)))
 (k2 ())) 0)
def Oo(a0:Ab)(a1:Ab):=
 aA (λ(y1:Bool)=>
 some y1) λk2=>
 cond (a0.Kind==a1.Kind)
 (cond (a0.Id==a1.Id)
 (ob (kB a0.Cn a1.Cn) λr3=>
 cond (r3)
 (ob (kB a0.Sn a1.Sn) λr4=>
 cond (r4)
 (cond (a0.Tick==a1.Tick)
 (ob (kB a0.Cookie a1.Cookie) λr5=>
 cond (r5)
 (ob (kB a0.Proof a1.Proof) λr6=>
 cond (r6)
 (cond (a0.Epoch==a1.Epoch)
 (cond (a0.Seq==a1.Seq)
 (ob (kB a0.Body a1.Body) λr7=>
 cond (r7)
 (ob (kB a0.Tag a1.Tag) λr8=>
 k2 r8)
 (k2 false))
 (k2 false))
 (k2 false))
 (k2 false))
 (k2 false))
 (k2 false))
 (k2 false))
 (k2 false))
 (k2 false))
 (k2 false)
def Oq(a0:Ae)(a1:Ae):=
 aA (λ(y1:Bool)=>
 some y1) λk2=>
 cond (a0.Id==a1.Id)
 (ob (kB a0.Psk a1.Psk) λr3=>
 cond (r3)
 (let x4:Bool:=cond (a0.At.Host==a1.At.Host) (cond (a0.At.Port==a1.At.Port) (true) false) false
 cond (x4)
 (cond (a0.St==a1.St)
 (ob (kB a0.Cn a1.Cn) λr5=>
 cond (r5)
 (ob (kB a0.Fin a1.Fin) λr6=>
 cond (r6)
 (ob (kB a0.C a1.C) λr7=>
 cond (r7)
 (let x8:Bool:=cond (a0.T.On==a1.T.On) (cond (a0.T.Due==a1.T.Due) (cond (a0.T.Wait==a1.T.Wait) (cond (a0.T.Tries==a1.T.Tries) (true) false) false) false) false
 cond (x8)
 (let x9:Bool:=cond (a0.R.On==a1.R.On) (cond (a0.R.Due==a1.R.Due) (cond (a0.R.Wait==a1.R.Wait) (cond (a0.R.Tries==a1.R.Tries) (true) false) false) false) false
 cond (x9)
 (k2 (a0.Last==a1.Last))
 (k2 false))
 (k2 false))
 (k2 false))
 (k2 false))
 (k2 false))
 (k2 false))
 (k2 false))
 (k2 false))
 (k2 false)
def Or(a0:Aa)(a1:Aa):=
 aA (λy1=>
 cond (y1)
 (some false)
 (aA (λ(y7:Unit)=>
 aA (λ(y14:Unit)=>
 some true) λk15=>
 tA FU (λ(x16:Int) k17=>
 cond (decide (x16<(a0.Known.length:Int)))
 (ob (kA a0.Known x16) λe18=>
 ob (kA a1.Known x16) λe19=>
 ob (kB e18 e19) λr20=>
 cond (!r20)
 (some false)
 (k17 (iA .i64 x16 1)))
 (k15 ())) 0) λk8=>
 tA FU (λ(x9:Int) k10=>
 cond (decide (x9<(a0.Clients.length:Int)))
 (ob (kA a0.Clients x9) λe11=>
 ob (kA a1.Clients x9) λe12=>
 ob (kB e11 e12) λr13=>
 cond (!r13)
 (some false)
 (k10 (iA .i64 x9 1)))
 (k8 ())) 0)) λk2=>
 cond (a0.Now !=a1.Now)
 (k2 true)
 (cond ((a0.Clients.length:Int) !=(a1.Clients.length:Int))
 (k2 true)
 (ob (kB a0.S a1.S) λr3=>
 cond (!r3)
 (k2 true)
 (ob (kB a0.D.Seed a1.D.Seed) λr4=>
 cond (!r4)
 (k2 true)
 (cond (a0.D.N !=a1.D.N)
 (k2 true)
 (ob (kB a0.Seen a1.Seen) λr5=>
 cond (!r5)
 (k2 true)
 (cond ((a0.Known.length:Int) !=(a1.Known.length:Int))
 (k2 true)
 (ob (kB a0.Notes a1.Notes) λr6=>
 k2 (!r6))))))))
end
end Go.D
namespace Go.D
end Go.D
namespace Go.D
def Ok{α:Type}(o:Option α)(P:α→Prop):Prop:=∃r,o=some r∧P r
def Ok.bind{α β:Type}{o:Option α}{P:α→Prop}{Q:β→Prop}{f:α→Option β}(h:Ok o P)(k:∀r,P r→Ok (f r) Q):Ok (Option.bind o f) Q:=by
 obtain⟨r,rfl,h⟩:=h;exact k r h
def Ok.some'{α:Type}{x:α}{P:α→Prop}(h:P x):Ok (some x) P:=⟨x,rfl,h⟩
def Ok.mono{α:Type}{o:Option α}{P Q:α→Prop}(h:Ok o P)(k:∀r,P r→Q r):Ok o Q:=by
 obtain⟨r,h1,h2⟩:=h;exact⟨r,h1,k r h2⟩
def Ok.cond'{α:Type}{b:Bool}{x y:Option α}{P:α→Prop}(h1:b=true→Ok x P)(h2:b=false→Ok y P):Ok (cond b x y) P:=by
 cases b
 ·exact h2 rfl
 ·exact h1 rfl
def Ok.loop{σ R:Type}{f:σ→(σ→Option R)→Option R}{P:R→Prop}(inv:σ→Prop)(μ:σ→Nat)
  (h:∀x,inv x→∀k:σ→Option R,(∀y,inv y→μ y<μ x→Ok (k y) P)→Ok (f x k) P) {x:σ} (hx:inv x) (hμ:μ x<2^64):Ok (tA FU f x) P:=by
 rw[zhl]
 have:∀(n:Nat) (x:σ),inv x→μ x<n→Ok (tA n f x) P:=by
  intro n;induction n with
  | zero=>intro x _ hn;omega
  | succ n ih=>intro x hx hn;exact h x hx (tA n f) λy hy MV=>ih y hy (by omega)
 exact this _ x hx hμ
def zwH(x:Int)(j:Nat)(hj:j<63):0≤PB .i64 x ((2^j - 1:Nat):Int)∧PB .i64 x ((2^j - 1:Nat):Int)≤((2^j - 1:Nat):Int):=by
 have h1:2^j<2^63:=Nat.pow_lt_pow_right (by decide) hj;have h0:0<2^j:=Nat.two_pow_pos j;unfold PB;show 0≤IntKind.wrap .i64 ((BitVec.ofInt 64 x&&&BitVec.ofInt 64 ((2^j - 1:Nat):Int)).toNat:Int)∧IntKind.wrap .i64 ((BitVec.ofInt 64 x&&&BitVec.ofInt 64 ((2^j - 1:Nat):Int)).toNat:Int)≤_
 have h2:(BitVec.ofInt 64 x&&&BitVec.ofInt 64 ((2^j - 1:Nat):Int)).toNat≤2^j - 1:=by
  rw[BitVec.toNat_and,pO _ (by omega)];exact Nat.and_le_right
 generalize (BitVec.ofInt 64 x&&&BitVec.ofInt 64 ((2^j - 1:Nat):Int)).toNat=m at h2;rw[MB (by omega) (by omega)];omega
def zdj(x:Int):0≤PB .i64 x 255∧PB .i64 x 255≤255:=zwH x 8 (by decide)
def mA(c:Af):Prop:=0≤c.i∧c.i≤c.b.length∧c.b.length≤1048576
def zv4{code:List UInt8}(h:code.length≤1048576):Ok (Kj code) mA:=by
 simp only[Kj,aA];refine Ok.loop (λx:Int×Int=>0≤x.2∧x.2≤(code.length:Int)) (λx=>code.length - x.2.toNat) (λx hx k hk=>?_) ⟨Int.le_refl _,by show(0:Int)≤(code.length:Int);omega⟩ (by show code.length - Int.toNat 0<_;omega);obtain⟨s,i⟩:=x;obtain⟨h0,h1⟩:=hx;simp only at h0 h1 hk⊢;obtain⟨j,rfl⟩:=Int.eq_ofNat_of_zero_le h0;have cC:Ok (some (⟨code,0,s⟩:Af)) mA:= .some' ⟨Int.le_refl _,by show(0:Int)≤_;omega,h⟩;refine .cond' (λhj=>?_) λ_=>cC;have hj:j<code.length:=by simpa using hj
 refine .cond' (λ_=>?_) λ_=>cC;rw[JB hj,mB];have:iA .i64 (j:Int) 1=((j+1:Nat):Int):=HG j (by rw[AD];omega);rw[this];exact hk _ ⟨by show(0:Int)≤((j+1:Nat):Int);omega,by show((j+1:Nat):Int)≤_;omega⟩ (by simp only[Int.toNat_natCast];omega)
def KS{c:Af}(h:mA c):Ok (Co c) λr=>0≤r.1∧r.1≤255∧mA r.2:=by
 obtain⟨h0,h1,h2⟩:=h;simp only[Co,aA];refine .cond' (λhc=>?_) λ_=> .some' ⟨(zdj _).1,(zdj _).2,h0,h1,h2⟩;have hc:c.i<(c.b.length:Int):=by simpa using hc
 obtain⟨j,hj⟩:=Int.eq_ofNat_of_zero_le h0;rw[hj]at hc⊢;have B0:j<c.b.length:=by omega
 rw[JB B0,mB];refine .some' ⟨(zdj _).1,(zdj _).2,?_,?_,h2⟩
 ·show 0≤iA .i64 (j:Int) 1
  rw[iA,HG j (by rw[AD];omega)];omega
 ·show iA .i64 (j:Int) 1≤(c.b.length:Int)
  rw[iA,HG j (by rw[AD];omega)];omega
def gH{a n:Int}(ha:0≤a)(hn:0<n):0≤zA .i64 a n∧zA .i64 a n<n:=by
 unfold zA;rw[Int.tmod_eq_emod_of_nonneg ha];exact⟨Int.emod_nonneg _ (by omega),Int.emod_lt_of_pos _ hn⟩
def zgf{c:Af}{n:Int}(h:mA c):Ok (Ar c n) λr=>0≤r.1∧(0<n→r.1<n)∧(n≤0→r.1=0)∧mA r.2:=by
 simp only[Ar];refine .cond' (λhn=>?_) λhn=>?_
 ·have hn:n≤0:=by simpa using hn
  exact .some' ⟨Int.le_refl _,λh=>by omega,λ_=>rfl,h⟩
 ·have hn:0<n:=by simpa using hn
  have O1:(n==0)=false:=by simp;omega
  refine .cond' (λ_=>?_) λ_=>?_
  ·refine(KS h).bind λr hr=>?_;rw[O1];have:=gH hr.1 hn;exact .some' ⟨this.1,λ_=>this.2,λh=>by omega,hr.2.2⟩
  ·refine(KS h).bind λr hr=>(KS hr.2.2).bind λr2 eW=>(KS eW.2.2).bind λr3 uW=>?_;rw[O1];have h1:OB .i64 r.1 65536=r.1 *65536:=MB (by omega) (by omega);have h2:OB .i64 r2.1 256=r2.1 *256:=MB (by omega) (by omega);have h3:iA .i64 (OB .i64 r.1 65536) (OB .i64 r2.1 256)=r.1 *65536+r2.1 *256:=by rw[h1,h2];exact MB (by omega) (by omega)
   have h4:iA .i64 (iA .i64 (OB .i64 r.1 65536) (OB .i64 r2.1 256)) r3.1=r.1 *65536+r2.1 *256+r3.1:=by rw[h3];exact MB (by omega) (by omega)
   simp only[cond_false,h4];have:=gH (a:=r.1 *65536+r2.1 *256+r3.1) (by omega) hn;exact .some' ⟨this.1,λ_=>this.2,λh=>by omega,uW.2.2⟩
def zgP{c:Af}{l:List Int}(h:mA c)(hl:l≠[]):Ok (As c l) λr=>r.1∈l∧mA r.2:=by
 simp only[As];have h0:0<l.length:=List.length_pos_iff.2 hl;refine(zgf h).bind λr hr=>?_;obtain⟨j,hj⟩:=Int.eq_ofNat_of_zero_le hr.1;have:=hr.2.1 (by omega);rw[hj]at this⊢;have B0:j<l.length:=by omega
 rw[JB B0,mB];exact .some' ⟨List.getElem_mem B0,hr.2.2.2⟩
def ztm{c:Af}{n:Int}(h:mA c)(hn:n≤1048576):Ok (Ay c n) λr=>r.1.length=n.toNat∧mA r.2:=by
 have hL:=DB;simp only[Ay,aA];refine Ok.loop (λx:List UInt8×Int×Af=>x.2.1=(x.1.length:Int)∧x.1.length≤n.toNat∧mA x.2.2) (λx=>n.toNat - x.1.length) (λx hx k hk=>?_) ⟨rfl,Nat.zero_le _,h⟩ (by show n.toNat - 0<_;omega);obtain⟨l,i,d⟩:=x;obtain⟨hi,h1,h2⟩:=hx;simp only at hi h1 h2 hk⊢;subst hi;refine .cond' (λhc=>?_) λhc=>?_
 ·have hc:(l.length:Int)<n:=by simpa using hc
  refine(KS h2).bind λr hr=>?_;rw[decide_eq_true (by simp;omega),cond_true];have:iA .i64 (l.length:Int) 1=((l.length+1:Nat):Int):=HG _ (by rw[AD];omega);rw[this];exact hk _ ⟨by simp,by simp;omega,hr.2.2⟩ (by simp;omega)
 ·have hc:¬(l.length:Int)<n:=by simpa using hc
  exact .some' ⟨by show l.length=_;omega,h2⟩
def zdc.ok{x}(_:xA [.sl .byte] x):Sm x=some (DT x):=rfl
end Go.D
namespace Go.D
def LG{α β:Type}[Wt α]{a:α}{f:Bool→Option β}(h:wt a≤bA):Option.bind (kB a a) f=f true:=UA ⟨rfl,h⟩
def xG{α:Type}[Wt α]{a b:α}{r:Bool}{o:α→α→Option Bool}(h:wt a≤bA→o a a=some true):kB a b=some r→o a b=some r:=
 TA λhp=>by obtain⟨rfl,hw⟩:=hp;exact h hw
def cL{R:Type}(n:Nat)(hn:n≤maxLen)(z:Option R){f:Int→(Int→Option R)→Option R}
  (hf:∀(i:Nat) (k:Int→Option R),i<n→f (i:Int) k=k (IntKind.wrap .i64 ((i:Int)+1))) (hz:∀k,f (n:Int) k=z):tA FU f (0:Int)=z:=
 zaa n hn (f:=f) (g:=λ_=>z) (λi k hi hk=>by rw[hf i k hi,hk]) hz 0 (Nat.zero_le _)
def dJ{i n:Nat}(h:i<n):decide ((i:Int)<(n:Int))=true:=by simpa using h
def kK(n:Nat):decide ((n:Int)<(n:Int))=false:=by simp
def zq6{a:List UInt8}(h:wt a≤bA):Nz a a=some true:=by
 rw[FA]at h;simp only[Nz,Nat.ble_eq_true_of_le h,cond_true,beq_self_eq_true]
def zo9{a:List Int}(h:wt a≤bA):Oa a a=some true:=by
 simp only[Oa,bne_self_eq_false,cond_false,aA];refine cL a.length (lE h) _ (λi k hi=>?_) (λk=>by rw[kK];rfl);rw[dJ hi,cond_true,JB hi,mB,mB,bne_self_eq_false,cond_false]
def zpg{a:Aq}(h:wt a≤bA):Ob a a=some true:=by
 simp only[gT]at h;simp only[Ob,aA,beq_self_eq_true,bne_self_eq_false,cond_true,cond_false,Bool.not_true];rw[LG (by omega)]
def zp0{a:Ax}(h:wt a≤bA):Oc a a=some true:=by
 simp only[yL]at h;simp only[Oc,aA,beq_self_eq_true,bne_self_eq_false,cond_true,cond_false,Bool.not_true]
 repeat (rw[LG (by omega)]<;>try simp only[cond_true,cond_false,Bool.not_true])
def zoQ{a:Ak}(h:wt a≤bA):Od a a=some true:=by
 simp only[MH]at h;simp only[Od,aA,beq_self_eq_true,bne_self_eq_false,cond_true,cond_false,Bool.not_true]
 repeat (rw[LG (by omega)]<;>try simp only[cond_true,cond_false,Bool.not_true])
def zoN{a:Aj}(h:wt a≤bA):Oe a a=some true:=by
 simp only[YI]at h;simp only[Oe,aA,beq_self_eq_true,bne_self_eq_false,cond_true,cond_false,Bool.not_true];refine cL a.Cands.length (lE (by omega)) _ (λi k hi=>?_) (λk=>by rw[kK];rfl);have:=yE hi;have h2:=zaj a.Cands[i];rw[dJ hi];simp only[cond_true,JB hi,mB,beq_self_eq_true,Bool.not_true,cond_false];rw[LG (by omega)];simp only[Bool.not_true,cond_false,bne_self_eq_false]
def zoP{a:Ah}(h:wt a≤bA):Of a a=some true:=by
 simp only[lL]at h;simp only[Of,aA,beq_self_eq_true,bne_self_eq_false,cond_true,cond_false,Bool.not_true]
 repeat (rw[LG (by omega)]<;>try simp only[cond_true,cond_false,Bool.not_true])
def zpq{a:Ao}(h:wt a≤bA):Og a a=some true:=by
 simp only[mJ]at h;simp only[Og,aA,beq_self_eq_true,bne_self_eq_false,cond_true,cond_false,Bool.not_true];refine cL a.L.length (lE (by omega)) _ (λi k hi=>?_) (λk=>by rw[kK];rfl);have:=yE hi;rw[dJ hi];simp only[cond_true,JB hi,mB];rw[LG (by omega)];simp only[Bool.not_true,cond_false]
def zos{a:List Al}(h:wt a≤bA):Oh a a=some true:=by
 simp only[Oh,aA,beq_self_eq_true,bne_self_eq_false,cond_true,cond_false,Bool.not_true];refine cL a.length (lE (by omega)) _ (λi k hi=>?_) (λk=>by rw[kK];rfl);rw[dJ hi];simp only[cond_true,JB hi,mB,beq_self_eq_true,Bool.not_true,cond_false]
def zov{a:Ac}(h:wt a≤bA):Oi a a=some true:=by
 simp only[oM,jT,aJ]at h;simp only[Oi,aA,beq_self_eq_true,bne_self_eq_false,cond_true,cond_false,Bool.not_true]
 repeat (rw[LG (by omega)]<;>try simp only[cond_true,cond_false,Bool.not_true])
 refine cL a.Psks.length (lE (by omega)) _ (λi k hi=>?_) (λk=>by rw[kK];rfl);have:=yE hi;rw[dJ hi];simp only[cond_true,JB hi,mB];rw[LG (by omega)];simp only[Bool.not_true,cond_false]
def zoB{a:List Ap}(h:wt a≤bA):Oj a a=some true:=by
 simp only[Oj,aA,beq_self_eq_true,bne_self_eq_false,cond_true,cond_false,Bool.not_true];refine cL a.length (lE (by omega)) _ (λi k hi=>?_) (λk=>by rw[kK];rfl);have:=yE hi;have h2:=zai a[i];rw[dJ hi];simp only[cond_true,JB hi,mB,beq_self_eq_true,Bool.not_true,cond_false];rw[LG (by omega)];simp only[Bool.not_true,cond_false]
def zsW{β:Type}{a:List UInt8}{f:Bool→Option β}(h:wt a≤bA):Option.bind (EB a a) f=f true:=by
 rw[EB,UA ⟨h,h⟩,beq_self_eq_true]
def zoO{a:Ad}(h:wt a≤bA):Ol a a=some true:=by
 simp only[eJ]at h;simp only[Ol,aA,beq_self_eq_true,cond_true]
 repeat (rw[zsW (by omega)]<;>try simp only[cond_true])
def oQ.ok{x}(_:xA [.v .Note, .v .Note] x){r}:kB x.1 x.2=some r→Ol x.1 x.2=some r:=xG λh=>zoO h
def zoK{a:List Ad}(h:wt a≤bA):Om a a=some true:=by
 simp only[Om,aA,bne_self_eq_false,cond_false];refine cL a.length (lE (by omega)) _ (λi k hi=>?_) (λk=>by rw[kK];rfl);have:=yE hi;rw[dJ hi];simp only[cond_true,JB hi,mB];rw[LG (by omega)];simp only[Bool.not_true,cond_false]
def zoC{a:Ab}(h:wt a≤bA):Oo a a=some true:=by
 simp only[IH]at h;simp only[Oo,aA,beq_self_eq_true,bne_self_eq_false,cond_true,cond_false,Bool.not_true]
 repeat (rw[LG (by omega)]<;>try simp only[cond_true,cond_false,Bool.not_true])
def zow{a:Ae}(h:wt a≤bA):Oq a a=some true:=by
 simp only[yM]at h;simp only[Oq,aA,beq_self_eq_true,bne_self_eq_false,cond_true,cond_false,Bool.not_true]
 repeat (rw[LG (by omega)]<;>try simp only[cond_true,cond_false,Bool.not_true])
def zoH{a:Aa}(h:wt a≤bA):Or a a=some true:=by
 simp only[qG,aJ]at h;simp only[Or,aA,beq_self_eq_true,bne_self_eq_false,cond_true,cond_false,Bool.not_true]
 repeat (rw[LG (by omega)]<;>try simp only[cond_true,cond_false,Bool.not_true])
 refine cL a.Clients.length (lE (by omega)) _ (λi k hi=>?_) (λk=>?_)
 ·have:=yE hi;rw[dJ hi];simp only[cond_true,JB hi,mB];rw[LG (by omega)];simp only[Bool.not_true,cond_false]
 ·rw[kK,cond_false];refine cL a.Known.length (lE (by omega)) _ (λi k hi=>?_) (λk=>by rw[kK];rfl);have:=yE hi;rw[dJ hi];simp only[cond_true,JB hi,mB];rw[LG (by omega)];simp only[Bool.not_true,cond_false]
def tS.ok{x}(_:xA [.sl .byte, .sl .byte] x){r}:kB (α:=List UInt8) x.1 x.2=some r→Nz x.1 x.2=some r:=xG λh=>zq6 h
def WP.ok{x}(_:xA [.sl .int, .sl .int] x){r}:kB (α:=List Int) x.1 x.2=some r→Oa x.1 x.2=some r:=xG λh=>zo9 h
def sQ.ok{x}(_:xA [.v .Win, .v .Win] x){r}:kB (α:=Aq) x.1 x.2=some r→Ob x.1 x.2=some r:=xG λh=>zpg h
def sR.ok{x}(_:xA [.v .Ep, .v .Ep] x){r}:kB (α:=Ax) x.1 x.2=some r→Oc x.1 x.2=some r:=xG λh=>zp0 h
def gQ.ok{x}(_:xA [.v .Chan, .v .Chan] x){r}:kB (α:=Ak) x.1 x.2=some r→Od x.1 x.2=some r:=xG λh=>zoQ h
def KP.ok{x}(_:xA [.v .Paths, .v .Paths] x){r}:kB (α:=Aj) x.1 x.2=some r→Oe x.1 x.2=some r:=xG λh=>zoN h
def nQ.ok{x}(_:xA [.v .Sess, .v .Sess] x){r}:kB (α:=Ah) x.1 x.2=some r→Of x.1 x.2=some r:=xG λh=>zoP h
def rQ.ok{x}(_:xA [.v .Tab, .v .Tab] x){r}:kB (α:=Ao) x.1 x.2=some r→Og x.1 x.2=some r:=xG λh=>zpq h
def lP.ok{x}(_:xA [.sl .Credit, .sl .Credit] x){r}:kB (α:=List Al) x.1 x.2=some r→Oh x.1 x.2=some r:=xG λh=>zos h
def pP.ok{x}(_:xA [.v .Server, .v .Server] x){r}:kB (α:=Ac) x.1 x.2=some r→Oi x.1 x.2=some r:=xG λh=>zov h
def OP.ok{x}(_:xA [.sl .Wire, .sl .Wire] x){r}:kB (α:=List Ap) x.1 x.2=some r→Oj x.1 x.2=some r:=xG λh=>zoB h
def PP.ok{x}(_:xA [.sl .Note, .sl .Note] x){r}:kB (α:=List Ad) x.1 x.2=some r→Om x.1 x.2=some r:=xG λh=>zoK h
def MP.ok{x}(_:xA [.v .Frame, .v .Frame] x){r}:kB (α:=Ab) x.1 x.2=some r→Oo x.1 x.2=some r:=xG λh=>zoC h
def FP.ok{x}(_:xA [.v .Client, .v .Client] x){r}:kB (α:=Ae) x.1 x.2=some r→Oq x.1 x.2=some r:=xG λh=>zow h
def JP.ok{x}(_:xA [.v .World, .v .World] x){r}:kB (α:=Aa) x.1 x.2=some r→Or x.1 x.2=some r:=xG λh=>zoH h
end Go.D
namespace Go.D
open Option renaming bind→ob
def XM{n:Nat}{α:Type}(h:n≤bA):decide (([]:List α).length+n≤bA)=true:=by simpa using h
def zdi{β:Type}{a:List UInt8}{f:List UInt8→Option β}(h:wt a≤bA):ob (BA a) f=f a:=UA h
def vV.ok{x}(_:xA [.v .Dice] x){r}:iE x=some r→Pt x=some r:=TA λh=>by
 rw[aJ]at h;simp only[Pt,aA,RC];rw[zdi h];cases h1:gC x
 ·rfl
 ·simp only[Bool.not_true,cond_false,Bool.false_or];cases(Au.N x==10000)<;>rfl
def BU.ok{x}(_:xA [.v .Dice] x){r}:aK x=some r→Pz x=some r:=TA λh=>by
 rw[aJ,FA]at h;simp only[Pz];rw[XM h];rfl
def mV.ok{x}(_:xA [.v .Dice] x){r}:iE x=some r→Qa x=some r:=TA λh=>by
 simp only[Qa,aA,RC];rw[aK,UA h];cases h1:gC x
 ·rfl
 ·simp only[Bool.not_true,cond_false,Bool.false_or];cases(Au.N x==10000)<;>rfl
def sU.ok{x}(_:xA [.sl .bs] x){r}:oS x=some r→Pu x=some r:=TA λh=>by
 have hl:=zB (α:=List UInt8) x;simp only[Pu,aA]
 have key:=LH (f:=λ(x3:(List (List UInt8))×Int) k4=>cond (decide (x3.2<(List.length (α:=List UInt8) x:Int))) (ob (kA (α:=List UInt8) x x3.2) λe5=>ob (BA e5) λr6=>
   cond (decide (x3.1.length+[r6].length≤bA)) (k4 ((x3.1++[r6]),(iA .i64 x3.2 1))) none) (some x3.1)) (g:=λ_=>some x)
  (fun y:List (List UInt8) × Int=>y.2=(y.1.length:Int)∧y.1=List.take (α:=List UInt8) y.1.length x) (fun y=>List.length (α:=List UInt8) x - y.1.length) (fun y hy k hk=>by
   obtain⟨o,i⟩:=y;obtain⟨h1,h2⟩:=hy;simp only at h1 h2 hk⊢;subst h1
   by_cases hi:o.length<List.length (α:=List UInt8) x
   ·have hw:=yE (l:=x) hi;rw[dJ hi,cond_true,JB hi,mB,zdi (by omega),decide_eq_true (by simp;omega),cond_true];rw[iA,HG _ (by rw[AD];have:=DB;omega)];refine hk _ ⟨by simp,?_⟩ (by simp;omega);simp only[List.length_append,List.length_cons,List.length_nil];rw[qM (l:=x) hi, ←h2]
   ·have ho:o=x:=by rw[h2,List.take_of_length_le (by omega)]
    rw[decide_eq_false (by omega),cond_false,ho]) (x:=([],(0:Int))) ⟨rfl,rfl⟩ (by show List.length (α:=List UInt8) x - 0<2^64;have:=DB;omega)
 exact key
def YU{k info:List UInt8}(hk:k.length≤1048576)(hi:info.length≤100):∀j,(NH k info (j+1)).length=32
 | 0=>KH hk (by simp[NH];omega)
 | j+1=>KH hk (by rw[List.length_append,List.length_append,YU hk hi j];simp;omega)
def zkc{k info:List UInt8}(hk:k.length≤1048576)(hi:info.length≤100)(j:Nat):(NH k info j).length≤32:=by
 cases j with
 | zero=>exact Nat.zero_le _
 | succ j=>rw[YU hk hi];exact Nat.le_refl _
def YN{k info:List UInt8}(hk:k.length≤1048576)(hi:info.length≤100):∀j,(qI k info j).length=32 *j
 | 0=>rfl
 | j+1=>by rw[qI,List.length_append,YN hk hi j,YU hk hi];omega
def zlk{k info:List UInt8}(hk:k.length≤1048576)(hi:info.length≤100)(n:Nat)(hn:n≤8160){R:Type}(z:List UInt8→Option R)
  {f:List UInt8×List UInt8×Int→(List UInt8×List UInt8×Int→Option R)→Option R}
  (hf:∀(j:Nat) (K:List UInt8×List UInt8×Int→Option R),32 *j<n→f (qI k info j,NH k info j,((j+1:Nat):Int)) K=K (qI k info (j+1),NH k info (j+1),((j+2:Nat):Int)))
  (hz:∀(j:Nat) (K:List UInt8×List UInt8×Int→Option R),n≤32 *j→f (qI k info j,NH k info j,((j+1:Nat):Int)) K=z (qI k info j)):
  tA FU f ([],[],(1:Int))=z (qI k info ((n+31) / 32)):=by
 have key:=LH (f:=f) (g:=λ_=>z (qI k info ((n+31) / 32))) (λx=>∃j,x=(qI k info j,NH k info j,((j+1:Nat):Int))∧j≤(n+31) / 32) (λx=>10000 - x.1.length) (λx hx K hK=>by
  obtain⟨j,rfl,hj⟩:=hx
  by_cases hc:32 *j<n
  ·rw[hf j K hc];refine hK _ ⟨j+1,rfl,by omega⟩ ?_;simp only[YN hk hi];omega
  ·rw[hz j K (by omega)];have:j=(n+31) / 32:=by omega
   rw[this]) (x:=([],[],(1:Int))) ⟨0,rfl,Nat.zero_le _⟩ (by show 10000 - 0<2^64;omega)
 exact key
def zs4(a b c:List UInt8):([a,b,c]:List (List UInt8)).flatten=a++b++c:=by simp
def zuW(a b c:List UInt8):wt ([a,b,c]:List (List UInt8))=a.length+b.length+c.length+3:=by
 rw[sD,sD,sD,NG,FA,FA,FA];omega
def OR{k info:List UInt8}{n:Int}(h:(!eA n 0 8160||decide ((info.length:Int)>100)||decide ((k.length:Int)>1048576))=true):jH k info n=([],false):=by rw[jH,h];rfl
def zfF{k info:List UInt8}{n:Int}(h:(!eA n 0 8160||decide ((info.length:Int)>100)||decide ((k.length:Int)>1048576))=false):jH k info n=((qI k info ((n.toNat+31) / 32)).take n.toNat,true):=by rw[jH,h];rfl
def zpJ(k info:List UInt8)(n:Int):Nx k info n=some (jH k info n):=by
 have hL:=DB;simp only[Nx,aA];cases h1:eA n 0 8160
 ·rw[OR (by rw[h1];rfl)];rfl
 cases h2:decide ((info.length:Int)>100)
 case true=>rw[OR (by rw[h1,h2];rfl)];rfl
 cases h3:decide ((k.length:Int)>1048576)
 case true=>rw[OR (by rw[h1,h2,h3];rfl)];rfl
 rw[zfF (by rw[h1,h2,h3];rfl)];have h1:=fD.1 h1;have h2:info.length≤100:=by have:=of_decide_eq_false h2;omega
 have h3:k.length≤1048576:=by have:=of_decide_eq_false h3;omega
 obtain⟨m,rfl⟩:=Int.eq_ofNat_of_zero_le h1.1;simp only[Bool.not_true,cond_false,Int.toNat_natCast];refine zlk (R:=List UInt8×Bool) h3 h2 m (by omega) (λo=>some (o.take m,true)) (λj K hj=>?_) (λj K hj=>?_)
 ·have wW:=zkc h3 h2 j;rw[YN h3 h2,decide_eq_true (by omega),cond_true,mD,UA (by rw[zuW];simp;omega),zs4];have:ZC k (NH k info j++info++[UInt8.ofNat (IntKind.wrap .u8 ((j+1:Nat):Int)).toNat])=NH k info (j+1):=rfl;rw[this,YU h3 h2,decide_eq_true (by omega),cond_true,iA,HG (j+1) (by rw[AD];omega)];rfl
 ·rw[YN h3 h2,decide_eq_false (by omega),cond_false,decide_eq_true (by omega),decide_eq_true (by omega),decide_eq_true (by omega)];simp only[Bool.and_self,cond_true,List.drop_zero,Int.sub_zero,Int.toNat_natCast];rw[zdi (by rw[FA,List.length_take];omega)]
def vR.ok{x}(_:xA [.sl .byte, .sl .byte, .v .int] x):Nx x.1 x.2.1 x.2.2=some (jH x.1 x.2.1 x.2.2):=zpJ x.1 x.2.1 x.2.2
def zpG(k info:List UInt8)(n:Int):Ny k info n=some (jH k info n):=by
 have hL:=DB;simp only[Ny,aA];cases h1:eA n 0 8160
 ·rw[OR (by rw[h1];rfl)];rfl
 cases h2:decide ((info.length:Int)>100)
 case true=>rw[OR (by rw[h1,h2];rfl)];rfl
 cases h3:decide ((k.length:Int)>1048576)
 case true=>rw[OR (by rw[h1,h2,h3];rfl)];rfl
 rw[zfF (by rw[h1,h2,h3];rfl)];have h1:=fD.1 h1;have h2:info.length≤100:=by have:=of_decide_eq_false h2;omega
 have h3:k.length≤1048576:=by have:=of_decide_eq_false h3;omega
 obtain⟨m,rfl⟩:=Int.eq_ofNat_of_zero_le h1.1;simp only[Bool.not_true,cond_false,Int.toNat_natCast];refine zlk (R:=List UInt8×Bool) h3 h2 m (by omega) (λo=>some (o.take m,true)) (λj K hj=>?_) (λj K hj=>?_)
 ·have wW:=zkc h3 h2 j;simp only;rw[YN h3 h2,decide_eq_true (by omega),cond_true,XM (by omega),cond_true,List.nil_append,decide_eq_true (by omega),cond_true,decide_eq_true (by simp;omega),cond_true];have:ZC k (NH k info j++info++[UInt8.ofNat (IntKind.wrap .u8 ((j+1:Nat):Int)).toNat])=NH k info (j+1):=rfl;rw[this,YU h3 h2,decide_eq_true (by omega),cond_true,iA,HG (j+1) (by rw[AD];omega)];rfl
 ·rw[YN h3 h2,decide_eq_false (by omega),cond_false,decide_eq_true (by omega),decide_eq_true (by omega),decide_eq_true (by omega)];simp only[Bool.and_self,cond_true,List.drop_zero,Int.sub_zero,Int.toNat_natCast];rw[XM (by rw[List.length_take];omega)];rfl
def IR.ok{x}(_:xA [.sl .byte, .sl .byte, .v .int] x):Ny x.1 x.2.1 x.2.2=some (jH x.1 x.2.1 x.2.2):=zpG x.1 x.2.1 x.2.2
def bV.ok{x}(_:xA [.sl .byte, .v .str] x){r}:uE x.1 x.2=some r→Pv x.1 x.2=some r:=TA λh=>by
 rw[FA]at h;simp only[Pv,Nat.ble_eq_true_of_le h,cond_true];rfl
def SU.ok{x}(_:xA [.sl .byte, .v .str] x){r}:uE x.1 x.2=some r→Qb x.1 x.2=some r:=TA λh=>by
 rw[FA]at h;simp only[Qb,Nat.ble_eq_true_of_le h,cond_true];rfl
def zky{k l:List UInt8}(hk:k.length≤1048576)(hl:l.length≤100):(wL k l).length=32:=by
 rw[wL,zfF (by rw[show eA 32 0 8160=true from rfl,decide_eq_false (by omega),decide_eq_false (by omega)];rfl)];show(List.take 32 _).length=32
 rw[List.length_take,YN hk hl];rfl
def wM(k l:List UInt8):(wL k l).length≤32:=by
 rw[wL,jH];cases(!eA 32 0 8160||decide ((l.length:Int)>100)||decide ((k.length:Int)>1048576))
 ·show(List.take 32 _).length≤32
  rw[List.length_take];omega
 ·exact Nat.zero_le _
def znc:wt ([106,97,114]:List UInt8)≤bA:=by rw[FA,DB];decide
def UU.ok{x}(_:xA [.sl .byte] x):Pw x=some (lF x):=by
 simp only[Pw,lF];rw[uE,UA znc];cases nA x<;>rfl
def ZU.ok{x}(_:xA [.sl .byte] x):Qc x=some (lF x):=by
 simp only[Qc,lF,nA];rw[uE,UA znc,bne];cases((List.length (α:=UInt8) x:Int)==12)<;>rfl
def KU.ok{x}(_:xA [.v .int] x):Px x=some (YD x):=by
 simp only[Px,YD];cases eA x 1 6<;>rfl
def NU.ok{x}(_:xA [.v .int] x):Qd x=some (YD x):=by
 simp only[Qd,YD];cases eA x 1 6<;>rfl
def BS(b:List UInt8):(lF b).Secret.length≤32:=by
 rw[lF];cases nA b
 ·exact Nat.zero_le _
 ·exact wM _ _
def zj2(d:Au):(RC d).1.Seed=d.Seed:=by
 rw[RC];cases(!gC d||d.N==10000)<;>rfl
def zcA(n:Int):wt (YD n)=0:=by
 rw[YD];cases eA n 1 6<;>rfl
def zbV(p:List (List UInt8))(s:List UInt8)(m:Int):wt (MC p s m)≤wt p+wt s+32:=by
 rw[oM,jT,aJ];have h1:=BS (RC ⟨s,0⟩).2;have h2:=zj2 ⟨s,0⟩;have h3:=zcA m;show wt p+wt (lF (RC ⟨s,0⟩).2).Secret+wt (RC ⟨s,0⟩).1.Seed+wt (YD m)+0≤_
 rw[h2,h3,FA];show wt p+_+wt s+0+0≤_;omega
def XT.ok{x}(_:xA [.sl .bs, .sl .byte, .v .int] x){r}:NR x.1 x.2.1 x.2.2=some r→Qe x.1 x.2.1 x.2.2=some r:=TA λh=>by
 obtain⟨p,s,m⟩:=x;simp only at h;have hL:=DB;have hw:=zbV p s m;have hl:=zB p;simp only[Qe,gO];rw[iE,UA (by rw[aJ];show wt s≤bA;omega)];simp only[aA]
 have key:=zlG (σ:=Ac) (R:=Ac) p.length (by rw[AD];omega) (f:=λ(x6:Int×Ac) k7=>cond (decide (x6.1<(p.length:Int))) (ob (kA p x6.1) λe8=>
   cond (decide (([]:List UInt8).length+e8.length≤bA)) (cond (decide (x6.2.Psks.length+[[]++e8].length≤bA)) (k7 ((iA .i64 x6.1 1),(⟨x6.2.Psks++[[]++e8],x6.2.J,x6.2.D,x6.2.T,x6.2.Cr⟩:Ac))) none) none)
   (ob (JC x6.2) λr9=>cond (!r9) (some (⟨[],(⟨[]⟩:Ba),(⟨[],0⟩:Au),(⟨0,[]⟩:Ao),[]⟩:Ac)) (some x6.2)))
  (g:=λ_ _=>some (bif KB (MC p s m)then MC p s m else zdx)) (λi t=>t=⟨p.take i,(MC p s m).J,(MC p s m).D,(MC p s m).T,[]⟩)
  (fun i t k hi ht hk=>by
   subst ht;have hwg:=yE hi;rw[FA]at hwg;simp only;rw[dJ hi,cond_true,JB hi,mB,XM (by omega),cond_true,decide_eq_true (by simp;omega),cond_true,List.nil_append, ←qM p hi];exact hk _ rfl)
  (fun t k ht=>by
   subst ht;simp only[List.take_length];rw[kK,cond_false];show ob (JC (MC p s m)) _=_
   rw[JC,UA (by omega)];cases KB (MC p s m)<;>rfl) 0 ⟨[],(MC p s m).J,(MC p s m).D,(MC p s m).T,[]⟩ (Nat.zero_le _) rfl
 exact key
def zjW(id:Int)(psk:List UInt8)(a:Ai):wt (VI id psk a)=wt psk:=by
 rw[yM];show wt psk+0+0+0+0+0+0=_
 omega
def zjA(id:Int)(psk:List UInt8)(a:Ai):tB (VI id psk a)=(eA id 1 9&&GC psk&&GA a):=by
 show(eA id 1 9&&GC psk&&GA a&&true)=_
 rw[Bool.and_true]
def dU.ok{x}(_:xA [.v .int, .sl .byte, .v .Addr] x){r}:SI x.1 x.2.1 x.2.2=some r→Qg x.1 x.2.1 x.2.2=some r:=TA λh=>by
 obtain⟨id,psk,a⟩:=x;simp only at h;rw[FA]at h;simp only[Qg,TB,aA];rw[XM h];cases eA id 1 9
 ·rfl
 cases GC psk
 ·rfl
 cases GA a<;>rfl
def pU.ok{x}(_:xA [.sl .byte] x){r}:ZD x=some r→Py x=some r:=TA λh=>by
 simp only[Py];rw[zdi h];rfl
def bU.ok{x}(_:xA [.sl .byte] x){r}:ZD x=some r→Qh x=some r:=TA λh=>by
 rw[FA]at h;simp only[Qh];rw[XM h];rfl
def EU.ok{x}(_:xA [.sl .byte] x){r}:zdq x=some r→Qf x=some r:=TA λh=>by
 rw[FA]at h;have hL:=DB;simp only[Qf,aA,List.nil_append];rw[XM h,cond_true]
 by_cases hc:31<List.length (α:=UInt8) x
 ·rw[decide_eq_true (by omega),cond_true,decide_eq_true (by omega),decide_eq_true (by omega),decide_eq_true (by omega)];simp only[Bool.and_self,cond_true];rw[decide_eq_true (by simp;omega)];rfl
 ·rw[decide_eq_false (by omega),cond_false,decide_eq_true (by simp;omega),cond_true,rI,List.take_of_length_le (by omega)];rfl
def zgt(a b:List UInt8):wt ([a,b]:List (List UInt8))=wt a+wt b+2:=by rw[sD,sD,NG];omega
def ztw{s a b:List UInt8}{m:Int}(h:KB (MC [a,b] s m)=true):1≤s.length∧s.length≤32:=by
 simp only[KB,Bool.and_eq_true]at h;have h1:=h.1.1.1.1.2;rw[show(MC [a,b] s m).D=(RC ⟨s,0⟩).1 from rfl,gC,Bool.and_eq_true,zj2]at h1;have h2:1≤(s.length:Int)∧(s.length:Int)≤32:=fD.1 h1.1;exact⟨by omega,by omega⟩
def tV(s:List UInt8)(n:Int):(CD s n).length≤12:=by
 rw[CD];cases eA (s.length:Int) 1 32&&eA n 0 10000
 ·exact Nat.zero_le _
 ·simp only[cond_true,List.length_take];omega
def mU.ok{x}(_:xA [.sl .byte, .sl .byte, .sl .byte, .v .int] x){r}:zcR x.1 x.2.1 x.2.2.1 x.2.2.2=some r→Qi x.1 x.2.1 x.2.2.1 x.2.2.2=some r:=TA λh=>by
 obtain⟨s,a,b,m⟩:=x;simp only at h;have hL:=DB;have hw:=zbV [a,b] s m;rw[zgt]at hw;simp only[Qi,xV];rw[NR,UA (by rw[zgt];omega)];cases hs:KB (MC [a,b] s m)
 ·have e:gO [a,b] s m=zdx:=by rw[gO,hs];rfl
  rw[e,JC,UA (by show 0≤_;omega)];rfl
 have e:gO [a,b] s m=MC [a,b] s m:=by rw[gO,hs];rfl
 have hj:((MC [a,b] s m).J).Secret.length≤32:=BS _;have hdl:=tV s 0;rw[e,JC,UA (by omega),hs];simp only[Bool.not_true,cond_false,cond_true];rw[zdq,UA (by omega),SI,UA (by omega),SI,UA (by omega),ZD,UA (by rw[FA];omega),XM (by omega)];rfl
end Go.D
namespace Go.D
def zjx(id:Int)(psk:List UInt8)(a:Ai):wt (TB id psk a)≤wt psk:=by
 rw[TB];cases(eA id 1 9&&GC psk&&GA a)
 ·rw[cond_false,zjW];exact Nat.zero_le _
 ·rw[cond_true,zjW];exact Nat.le_refl _
def zqC(b:List UInt8):wt (LE b)=b.length:=by
 rw[eJ];show 0+0+wt b+0+0=_
 rw[FA];omega
def zsw(b:List UInt8):wt (AV b)=b.length:=by
 rw[eJ];show 0+0+0+wt b+0=_
 rw[FA];omega
def zsE(s a b:List UInt8)(m:Int):wt (xV s a b m)≤2 *wt a+2 *wt b+wt s+200:=by
 rw[xV];cases KB (MC [a,b] s m)
 ·exact Nat.zero_le _
 ·have h1:=zjx 1 a (AB 1);have h2:=zjx 2 b (AB 2);have h3:=zbV [a,b] s m;have h4:=tV s 0;have h5:(MC [a,b] s m).J.Secret.length≤32:=BS _;have h6:(rI s).length≤32:=by rw[rI,List.length_append,List.length_take];simp;omega
  have h7:=zqC (CD s 0);have h8:=zsw (MC [a,b] s m).J.Secret;rw[zgt]at h3;rw[cond_true,qG,aJ];show wt [TB 1 a (AB 1),TB 2 b (AB 2)]+wt (MC [a,b] s m)+wt (rI s)+0+0+wt [LE (CD s 0),AV (MC [a,b] s m).J.Secret]≤_
  rw[sD,sD,NG,sD,sD,NG,FA,h7,h8];omega
def zsQ{s a b:List UInt8}{m:Int}(h:KB (MC [a,b] s m)=true):eB (zdN s a b m)=true∧TB 1 a (AB 1)=VI 1 a (AB 1)∧TB 2 b (AB 2)=VI 2 b (AB 2)∧
  (MC [a,b] s m).J.Secret.length=32∧(MC [a,b] s m).T.L=[]:=by
 have hd:=ztw h;have hs:=h;simp only[KB,Bool.and_eq_true]at h
 have hj:(MC [a,b] s m).J.Secret.length=32:=by
  have:=h.1.1.1.1.1.2;simp only[QE,beq_iff_eq]at this;omega
 have hp:=h.1.2
 have Q1:GC a=true∧GC b=true:=by
  have:(MC [a,b] s m).Psks=[a,b]:=rfl;rw[this]at hp;simpa using hp
 have ha:TB 1 a (AB 1)=VI 1 a (AB 1):=by rw[TB,Q1.1];rfl
 have hb:TB 2 b (AB 2)=VI 2 b (AB 2):=by rw[TB,Q1.2];rfl
 have hdl:=tV s 0
 have hT:(MC [a,b] s m).T.L=[]:=by
  show(YD m).L=[]
  rw[YD];cases eA m 1 6<;>rfl
 refine⟨?_,ha,hb,hj,hT⟩
 have dZ:mC (LE (CD s 0))=true:=by
  have:(CD s 0).length=12:=by
   rw[CD,show eA (s.length:Int) 1 32=true from fD.2 ⟨by omega,by omega⟩];show(List.take 12 _).length=12
   rw[List.length_take,KH (by omega) (by rw[BV];omega)];rfl
  show(eA 14 1 17&&eA 0 0 9&&eA 0 0 1&&WC [] 12&&WC [] 12&&eA 0 0 4294967295&&eA 0 0 281474976710655&&decide (((CD s 0).length:Int)≤100)&&WC [] 32&&GA ⟨0,0⟩&&eA 0 0 1000000)=true
  rw[this];rfl
 have I4:mC (AV (MC [a,b] s m).J.Secret)=true:=by
  show(eA 12 1 17&&eA 0 0 9&&eA 0 0 1&&WC [] 12&&WC [] 12&&eA 0 0 4294967295&&eA 0 0 281474976710655&&decide ((([]:List UInt8).length:Int)≤100)&&UD ((MC [a,b] s m).J.Secret.length:Int) 32&&GA ⟨0,0⟩&&eA 0 0 1000000)=true
  rw[hj];rfl
 have Z6:gC ⟨rI s,0⟩=true:=by
  have:1≤(rI s).length∧(rI s).length≤32:=by rw[rI,List.length_append,List.length_take];simp;omega
  show(eA ((rI s).length:Int) 1 32&&eA 0 0 10000)=true
  rw[fD.2 ⟨by omega,by omega⟩];rfl
 have hcb:HB 2 (hI (zdN s a b m))=false:=by
  refine dH.2 λi hi=>?_
  match i,hi with
  | 0,_=>
   show(!tB (TB 1 a (AB 1))||(TB 1 a (AB 1)).Id !=((0+1:Nat):Int)||!((TB 1 a (AB 1)).Psk==a))=false
   rw[ha,zjA,Q1.1];simp[VI];decide
  | 1,_=>
   show(!tB (TB 2 b (AB 2))||(TB 2 b (AB 2)).Id !=((1+1:Nat):Int)||!((TB 2 b (AB 2)).Psk==b))=false
   rw[hb,zjA,Q1.2];simp[VI];decide
 show(eA 0 0 1000000&&true&&KB (MC [a,b] s m)&&true&&gC ⟨rI s,0⟩&&true&&true&&!(HB 2 (hI (zdN s a b m)))&&true&&!(!mC (LE (CD s 0))||(!mC (AV (MC [a,b] s m).J.Secret)||false)))=true
 rw[hs,Z6,hcb,dZ,I4];rfl
end Go.D
