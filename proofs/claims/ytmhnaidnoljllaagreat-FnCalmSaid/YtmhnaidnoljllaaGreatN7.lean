/-
 Sizes of the program's data.
-/
import Derived.Test.YtmhnaidnoljllaaGreatN6
set_option linter.all false
namespace Go.D
end Go.D
namespace Go.D
noncomputable section
def XS(code:List UInt8):Bool:=decide ((code.length:Int)>1048576)
def SJ(d:As):Option As:=pt (wt d≤bA) d
def QC(d:As):As×List UInt8:=bif !YB d||d.N==10000 then(d,[])else(⟨d.Seed,gA .i64 d.N 1⟩,mE d.Seed d.N)
def FD(d:As):Option (As×List UInt8):=pt (wt d≤bA) (QC d)
def PR(l:List (List UInt8)):Option (List (List UInt8)):=pt (wt l≤bA) l
def zH(k info:List UInt8):Nat→List UInt8
 | 0=>[]
 | j+1=>IC k (zH k info j++info++[UInt8.ofNat (IntKind.wrap .u8 ((j+1:Nat):Int)).toNat])
def iI(k info:List UInt8):Nat→List UInt8
 | 0=>[]
 | j+1=>iI k info j++zH k info (j+1)
def VG(k info:List UInt8)(n:Int):List UInt8×Bool:=
 bif !eA n 0 8160||decide ((info.length:Int)>100)||decide ((k.length:Int)>1048576)then([],false)else((iI k info ((n.toNat+31) / 32)).take n.toNat,true)
def CM(k label:List UInt8):List UInt8:=(VG k label 32).1
def OE(k label:List UInt8):Option (List UInt8):=pt (wt label≤bA) (CM k label)
def BH(b:List UInt8):Ax:=bif mA b then⟨CM b [106,97,114]⟩else⟨[]⟩
def dF(n:Int):Ao:=bif eA n 1 6 then⟨n,[]⟩else⟨0,[]⟩
def zck:Ac:=⟨[],⟨[]⟩,⟨[],0⟩,⟨0,[]⟩,[]⟩
def yC(psks:List (List UInt8))(seed:List UInt8)(most:Int):Ac:=⟨psks,BH (QC ⟨seed,0⟩).2,(QC ⟨seed,0⟩).1,dF most,[]⟩
def KR(psks:List (List UInt8))(seed:List UInt8)(most:Int):Ac:=bif BB (yC psks seed most)then yC psks seed most else zck
def za1(psks:List (List UInt8))(seed:List UInt8)(most:Int):Option Ac:=pt (wt psks+wt seed+1000≤bA) (KR psks seed most)
def zfL:Ab:=⟨0,0,[],[],0,[],[],0,0,[],[]⟩
def zf8:Am:=⟨0,[],zlW,zlW,false,0,[]⟩
def zk8:Au:=⟨false,0,0,0⟩
def II(id:Int)(psk:List UInt8)(a:Af):Ae:=⟨id,psk,a,0,[],zfL,zf8,zk8,zk8,0⟩
def yB(id:Int)(psk:List UInt8)(a:Af):Ae:=bif eA id 1 9&&vC psk&&GA a then II id psk a else II 0 [] ⟨0,0⟩
def LJ(id:Int)(psk:List UInt8)(a:Af):Option Ae:=pt (wt psk≤bA) (yB id psk a)
def xE(b:List UInt8):Ad:=⟨14,0,0,[],[],0,0,b,[],⟨0,0⟩,0⟩
def yU(k:List UInt8):Ad:=⟨12,0,0,[],[],0,0,[],k,⟨0,0⟩,0⟩
def CD(b:List UInt8):Option Ad:=pt (wt b≤bA) (xE b)
def jI(s:List UInt8):List UInt8:=s.take 31++[99]
def zcc(s:List UInt8):Option (List UInt8):=pt (wt s≤bA) (jI s)
def zuH:Aa:=⟨0,[],zck,⟨[],0⟩,[],[],[]⟩
def KU(s a b:List UInt8)(most:Int):Aa:=⟨0,[yB 1 a (aC 1),yB 2 b (aC 2)],yC [a,b] s most,⟨jI s,0⟩,[],[],[xE (mE s 0),yU (yC [a,b] s most).J.Secret]⟩
def XJ(s a b:List UInt8)(most:Int):Aa:=bif BB (yC [a,b] s most)then KU s a b most else zuH
def zeL(s a b:List UInt8)(most:Int):Option Aa:=pt (wt a+wt b+wt s+2000≤bA) (XJ s a b most)
end
end Go.D
namespace Go.D
open Option renaming bind→ob
noncomputable section
def Pz(a0:List UInt8):=
 some (decide ((a0.length:Int)>1048576))
def Jk(a0:List UInt8):=
 aA (λ(y1:Int)=>
 some (⟨a0,0,y1⟩:Ar)) λk2=>
 wA FU (λ(x3:Int×Int) k4=>
 aA (λy5=>
 cond (y5)
 (ob (nA a0 x3.2) λe7=>
 let x8:Int:=IntKind.wrap .i64 ((e7.toNat:Nat):Int);let x9:Int:=gA .i64 (gA .i64 (KB .i64 x3.1 137) x8) 11
 k4 ((zB .i64 x9 1073741823),(gA .i64 x3.2 1)))
 (k2 x3.1)) λk6=>
 cond (decide (x3.2<(a0.length:Int)))
 (k6 (decide (x3.2<4000)))
 (k6 false)) ((gA .i64 127812 (a0.length:Int)),0)
def Dx(a0:Ar):=
 let x1:Int:=gA .i64 (KB .i64 a0.h 6364136223846793005) 1442695040888963407;let x2:Int:=qB .i64 (uE .i64 x1 33) (uE .i64 x1 47)
 aA (λ(y3:Int×Ar)=>
 some (y3.1,y3.2)) λk4=>
 cond (decide (a0.i<(a0.b.length:Int)))
 (ob (nA a0.b a0.i) λe5=>
 let x6:Int:=IntKind.wrap .i64 ((e5.toNat:Nat):Int);let x7:Int:=zB .i64 (gA .i64 (zB .i64 x2 255) x6) 255
 k4 (x7,(⟨a0.b,gA .i64 a0.i 1,x1⟩:Ar)))
 (k4 ((zB .i64 x2 255),(⟨a0.b,a0.i,x1⟩:Ar)))
def Ay(a0:Ar)(a1:Int):=
 cond (decide (a1≤0))
 (some (0,a0))
 (cond (decide (a1≤256))
 (ob (Dx a0) λr1=>
 cond (a1==0) none (some (zA .i64 r1.1 a1,r1.2)))
 (ob (Dx a0) λr2=>
 ob (Dx r2.2) λr3=>
 ob (Dx r3.2) λr4=>
 let x5:Int:=gA .i64 (KB .i64 r2.1 65536) (KB .i64 r3.1 256)
 cond (a1==0) none (some (zA .i64 (gA .i64 x5 r4.1) a1,r4.2))))
def Co(a0:Ar)(a1:List Int):=
 ob (Ay a0 (a1.length:Int)) λr1=>
 ob (nA a1 r1.1) λe2=>
 some (e2,r1.2)
def Bn(a0:Ar)(a1:Int):=
 aA (λ(y1:(List UInt8)×Ar)=>
 some (y1.1,y1.2)) λk2=>
 wA FU (λ(x3:(List UInt8)×Int×Ar) k4=>
 cond (decide (x3.2.1<a1))
 (ob (Dx x3.2.2) λr5=>
 cond (decide (x3.1.length+[UInt8.ofNat (IntKind.wrap .u8 r5.1:Int).toNat].length≤bA)) (k4 ((x3.1++[UInt8.ofNat (IntKind.wrap .u8 r5.1:Int).toNat]),(gA .i64 x3.2.1 1),r5.2)) none)
 (k2 (x3.1,x3.2.2))) ([],0,a0)
def Nh(a0:As):=
 ob (yA a0.Seed) λr1=>
 aA (λy2=>
 cond (y2)
 (some ((⟨r1,a0.N⟩:As),[]))
 (let r4:(List UInt8):=mE a0.Seed a0.N
 some ((⟨r1,gA .i64 a0.N 1⟩:As),r4))) λk3=>
 cond (!(YB a0))
 (k3 true)
 (k3 (a0.N==10000))
def Ni(a0:List (List UInt8)):=
 aA (λ(y1:(List (List UInt8)))=>
 some y1) λk2=>
 wA FU (λ(x3:(List (List UInt8))×Int) k4=>
 cond (decide (x3.2<(a0.length:Int)))
 (ob (nA a0 x3.2) λe5=>
 ob (yA e5) λr6=>
 cond (decide (x3.1.length+[r6].length≤bA)) (k4 ((x3.1++[r6]),(gA .i64 x3.2 1))) none)
 (k2 x3.1)) ([],0)
def Mg(a0:List UInt8)(a1:List UInt8)(a2:Int):=
 aA (λy1=>
 cond (y1)
 (some ([],false))
 (aA (λ(y3:(List UInt8)×(List UInt8))=>
 cond (decide (0≤(0:Int))&&decide ((0:Int)≤a2)&&decide (a2≤(y3.1.length:Int))) (ob (yA (List.take ((a2 - 0).toNat) (List.drop 0 y3.1))) λr10=>
 some (r10,true)) none) λk4=>
 wA FU (λ(x5:(List UInt8)×(List UInt8)×Int) k6=>
 cond (decide ((x5.1.length:Int)<a2))
 (let x7:List (List UInt8):=[x5.2.1,a1,[UInt8.ofNat (IntKind.wrap .u8 x5.2.2:Int).toNat]]
 ob (XC x7) λr8=>
 let r9:(List UInt8):=IC a0 r8
 cond (decide (x5.1.length+r9.length≤bA)) (k6 ((x5.1++r9),r9,(gA .i64 x5.2.2 1))) none)
 (k4 (x5.1,x5.2.1))) ([],[],1))) λk2=>
 cond (!(eA a2 0 8160))
 (k2 true)
 (cond (decide ((a1.length:Int)>100))
 (k2 true)
 (k2 (decide ((a0.length:Int)>1048576))))
def Nj(a0:List UInt8)(a1:List UInt8):=
 cond (Nat.ble a1.length bA) (let r1:(List UInt8)×Bool:=VG a0 a1 32
 some r1.1) none
def Nk(a0:List UInt8):=
 ob (yA a0) λr1=>
 some (⟨14,0,0,[],[],0,0,r1,[],(⟨0,0⟩:Af),0⟩:Ad)
def Nl(a0:As):=
 cond (decide (([]:List UInt8).length+a0.Seed.length≤bA)) (some (⟨[]++a0.Seed,a0.N⟩:As)) none
def Nm(a0:As):=
 ob (SJ a0) λr1=>
 aA (λy2=>
 cond (y2)
 (some (r1,[]))
 (let r4:(List UInt8):=mE a0.Seed a0.N
 some ((⟨r1.Seed,gA .i64 a0.N 1⟩:As),r4))) λk3=>
 cond (!(YB a0))
 (k3 true)
 (k3 (a0.N==10000))
def Mh(a0:List UInt8)(a1:List UInt8)(a2:Int):=
 aA (λy1=>
 cond (y1)
 (some ([],false))
 (aA (λ(y3:(List UInt8)×(List UInt8))=>
 cond (decide (0≤(0:Int))&&decide ((0:Int)≤a2)&&decide (a2≤(y3.1.length:Int))) (cond (decide (([]:List UInt8).length+(List.take ((a2 - 0).toNat) (List.drop 0 y3.1)).length≤bA)) (some ([]++(List.take ((a2 - 0).toNat) (List.drop 0 y3.1)),true)) none) none) λk4=>
 wA FU (λ(x5:(List UInt8)×(List UInt8)×Int) k6=>
 cond (decide ((x5.1.length:Int)<a2))
 (cond (decide (([]:List UInt8).length+x5.2.1.length≤bA)) (cond (decide (([]++x5.2.1).length+a1.length≤bA)) (cond (decide ((([]++x5.2.1)++a1).length+[UInt8.ofNat (IntKind.wrap .u8 x5.2.2:Int).toNat].length≤bA)) (let x7:List UInt8:=(([]++x5.2.1)++a1)++[UInt8.ofNat (IntKind.wrap .u8 x5.2.2:Int).toNat]
 let r8:(List UInt8):=IC a0 x7
 cond (decide (x5.1.length+r8.length≤bA)) (k6 ((x5.1++r8),r8,(gA .i64 x5.2.2 1))) none) none) none) none)
 (k4 (x5.1,x5.2.1))) ([],[],1))) λk2=>
 cond (!(eA a2 0 8160))
 (k2 true)
 (cond (decide ((a1.length:Int)>100))
 (k2 true)
 (k2 (decide ((a0.length:Int)>1048576))))
def Nn(a0:List UInt8)(a1:List UInt8):=
 cond (Nat.ble a1.length bA) (let r1:(List UInt8)×Bool:=VG a0 a1 32
 some r1.1) none
def No(a0:List UInt8):=
 cond ((a0.length:Int) !=12)
 (some (⟨[]⟩:Ax))
 (ob (OE a0 [106,97,114]) λr1=>
 some (⟨r1⟩:Ax))
def Np(a0:Int):=
 cond (!(eA a0 1 6))
 (some (⟨0,[]⟩:Ao))
 (some (⟨a0,[]⟩:Ao))
def Nq(a0:List (List UInt8))(a1:List UInt8)(a2:Int):=
 ob (FD (⟨a1,0⟩:As)) λr1=>
 let r2:Ax:=BH r1.2;let r3:Ao:=dF a2
 aA (λ(y4:Ac)=>
 ob (CC y4) λr9=>
 cond (!r9)
 (some (⟨[],(⟨[]⟩:Ax),(⟨[],0⟩:As),(⟨0,[]⟩:Ao),[]⟩:Ac))
 (some y4)) λk5=>
 wA FU (λ(x6:Int×Ac) k7=>
 cond (decide (x6.1<(a0.length:Int)))
 (ob (nA a0 x6.1) λe8=>
 cond (decide (([]:List UInt8).length+e8.length≤bA)) (cond (decide (x6.2.Psks.length+[[]++e8].length≤bA)) (k7 ((gA .i64 x6.1 1),(⟨x6.2.Psks++[[]++e8],x6.2.J,x6.2.D,x6.2.T,x6.2.Cr⟩:Ac))) none) none)
 (k5 x6.2)) (0,(⟨[],r2,r1.1,r3,[]⟩:Ac))
def Nr(a0:List UInt8):=
 cond (decide (([]:List UInt8).length+a0.length≤bA)) (aA (λ(y1:(List UInt8))=>
 cond (decide (y1.length+[UInt8.ofNat (99:Int).toNat].length≤bA)) (some (y1++[UInt8.ofNat (99:Int).toNat])) none) λk2=>
 cond (decide ((([]++a0).length:Int)>31))
 (cond (decide (0≤(0:Int))&&decide ((0:Int)≤31)&&decide (31≤(([]++a0).length:Int))) (k2 (List.take 31 ([]++a0))) none)
 (k2 ([]++a0))) none
def Ns(a0:Int)(a1:List UInt8)(a2:Af):=
 aA (λy1=>
 cond (y1)
 (some (⟨0,[],(⟨0,0⟩:Af),0,[],(⟨0,0,[],[],0,[],[],0,0,[],[]⟩:Ab),(⟨0,[],(⟨0,[],0,(⟨0,[]⟩:Ap)⟩:Av),(⟨0,[],0,(⟨0,[]⟩:Ap)⟩:Av),false,0,[]⟩:Am),(⟨false,0,0,0⟩:Au),(⟨false,0,0,0⟩:Au),0⟩:Ae))
 (cond (decide (([]:List UInt8).length+a1.length≤bA)) (some (⟨a0,[]++a1,a2,0,[],(⟨0,0,[],[],0,[],[],0,0,[],[]⟩:Ab),(⟨0,[],(⟨0,[],0,(⟨0,[]⟩:Ap)⟩:Av),(⟨0,[],0,(⟨0,[]⟩:Ap)⟩:Av),false,0,[]⟩:Am),(⟨false,0,0,0⟩:Au),(⟨false,0,0,0⟩:Au),0⟩:Ae)) none)) λk2=>
 cond (!(eA a0 1 9))
 (k2 true)
 (cond (!(vC a1))
 (k2 true)
 (k2 (!(GA a2))))
def Nt(a0:List UInt8):=
 cond (decide (([]:List UInt8).length+a0.length≤bA)) (some (⟨14,0,0,[],[],0,0,[]++a0,[],(⟨0,0⟩:Af),0⟩:Ad)) none
def Nu(a0:List UInt8)(a1:List UInt8)(a2:List UInt8)(a3:Int):=
 ob (za1 [a1,a2] a0 a3) λr1=>
 ob (CC r1) λr2=>
 cond (!r2)
 (some (⟨0,[],(⟨[],(⟨[]⟩:Ax),(⟨[],0⟩:As),(⟨0,[]⟩:Ao),[]⟩:Ac),(⟨[],0⟩:As),[],[],[]⟩:Aa))
 (ob (zcc a0) λr3=>
 let r4:Af:=aC 1
 ob (LJ 1 a1 r4) λr5=>
 let r6:Af:=aC 2
 ob (LJ 2 a2 r6) λr7=>
 let r8:(List UInt8):=mE a0 0
 ob (CD r8) λr9=>
 cond (decide (([]:List UInt8).length+r1.J.Secret.length≤bA)) (let x10:List Ad:=[r9,(⟨12,0,0,[],[],0,0,[],[]++r1.J.Secret,(⟨0,0⟩:Af),0⟩:Ad)]
 some (⟨0,[r5,r7],r1,(⟨r3,0⟩:As),[],[],x10⟩:Aa)) none)
end
end Go.D
namespace Go.D
end Go.D
namespace Go.D
def Ok{α:Type}(o:Option α)(P:α→Prop):Prop:=∃r,o=some r∧P r
def Ok.bind{α β:Type}{o:Option α}{P:α→Prop}{Q:β→Prop}{f:α→Option β}(h:Ok o P)(k:∀r,P r→Ok (f r) Q):Ok (Option.bind o f) Q:=by
 obtain⟨r,rfl,h⟩:=h;exact k r h
def Ok.some'{α:Type}{x:α}{P:α→Prop}(h:P x):Ok (some x) P:=⟨x,rfl,h⟩
def Ok.mono{α:Type}{o:Option α}{P Q:α→Prop}(h:Ok o P)(k:∀r,P r→Q r):Ok o Q:=by
 obtain⟨r,h1,h2⟩:=h;exact⟨r,h1,k r h2⟩
def Ok.cond'{α:Type}{b:Bool}{x y:Option α}{P:α→Prop}(h1:b=true→Ok x P)(h2:b=false→Ok y P):Ok (cond b x y) P:=by
 cases b
 ·exact h2 rfl
 ·exact h1 rfl
def Ok.loop{σ R:Type}{f:σ→(σ→Option R)→Option R}{P:R→Prop}(inv:σ→Prop)(μ:σ→Nat)
  (h:∀x,inv x→∀k:σ→Option R,(∀y,inv y→μ y<μ x→Ok (k y) P)→Ok (f x k) P) {x:σ} (hx:inv x) (hμ:μ x<2^64):Ok (wA FU f x) P:=by
 rw[zf1]
 have:∀(n:Nat) (x:σ),inv x→μ x<n→Ok (wA n f x) P:=by
  intro n;induction n with
  | zero=>intro x _ hn;omega
  | succ n ih=>intro x hx hn;exact h x hx (wA n f) λy hy MV=>ih y hy (by omega)
 exact this _ x hx hμ
def zur(x:Int)(j:Nat)(hj:j<63):0≤zB .i64 x ((2^j - 1:Nat):Int)∧zB .i64 x ((2^j - 1:Nat):Int)≤((2^j - 1:Nat):Int):=by
 have h1:2^j<2^63:=Nat.pow_lt_pow_right (by decide) hj;have h0:0<2^j:=Nat.two_pow_pos j;unfold zB;show 0≤IntKind.wrap .i64 ((BitVec.ofInt 64 x&&&BitVec.ofInt 64 ((2^j - 1:Nat):Int)).toNat:Int)∧IntKind.wrap .i64 ((BitVec.ofInt 64 x&&&BitVec.ofInt 64 ((2^j - 1:Nat):Int)).toNat:Int)≤_
 have h2:(BitVec.ofInt 64 x&&&BitVec.ofInt 64 ((2^j - 1:Nat):Int)).toNat≤2^j - 1:=by
  rw[BitVec.toNat_and,XN _ (by omega)];exact Nat.and_le_right
 generalize (BitVec.ofInt 64 x&&&BitVec.ofInt 64 ((2^j - 1:Nat):Int)).toNat=m at h2;rw[IB (by omega) (by omega)];omega
def zb5(x:Int):0≤zB .i64 x 255∧zB .i64 x 255≤255:=zur x 8 (by decide)
def nB(c:Ar):Prop:=0≤c.i∧c.i≤c.b.length∧c.b.length≤1048576
def ztM{code:List UInt8}(h:code.length≤1048576):Ok (Jk code) nB:=by
 simp only[Jk,aA];refine Ok.loop (λx:Int×Int=>0≤x.2∧x.2≤(code.length:Int)) (λx=>code.length - x.2.toNat) (λx hx k hk=>?_) ⟨Int.le_refl _,by show(0:Int)≤(code.length:Int);omega⟩ (by show code.length - Int.toNat 0<_;omega);obtain⟨s,i⟩:=x;obtain⟨h0,h1⟩:=hx;simp only at h0 h1 hk⊢;obtain⟨j,rfl⟩:=Int.eq_ofNat_of_zero_le h0;have RB:Ok (some (⟨code,0,s⟩:Ar)) nB:= .some' ⟨Int.le_refl _,by show(0:Int)≤_;omega,h⟩;refine .cond' (λhj=>?_) λ_=>RB;have hj:j<code.length:=by simpa using hj
 refine .cond' (λ_=>?_) λ_=>RB;rw[WB hj,rB];have:gA .i64 (j:Int) 1=((j+1:Nat):Int):=uG j (by rw[oD];omega);rw[this];exact hk _ ⟨by show(0:Int)≤((j+1:Nat):Int);omega,by show((j+1:Nat):Int)≤_;omega⟩ (by simp only[Int.toNat_natCast];omega)
def xU{c:Ar}(h:nB c):Ok (Dx c) λr=>0≤r.1∧r.1≤255∧nB r.2:=by
 obtain⟨h0,h1,h2⟩:=h;simp only[Dx,aA];refine .cond' (λhc=>?_) λ_=> .some' ⟨(zb5 _).1,(zb5 _).2,h0,h1,h2⟩;have hc:c.i<(c.b.length:Int):=by simpa using hc
 obtain⟨j,hj⟩:=Int.eq_ofNat_of_zero_le h0;rw[hj]at hc⊢;have FZ:j<c.b.length:=by omega
 rw[WB FZ,rB];refine .some' ⟨(zb5 _).1,(zb5 _).2,?_,?_,h2⟩
 ·show 0≤gA .i64 (j:Int) 1
  rw[gA,uG j (by rw[oD];omega)];omega
 ·show gA .i64 (j:Int) 1≤(c.b.length:Int)
  rw[gA,uG j (by rw[oD];omega)];omega
def yH{a n:Int}(ha:0≤a)(hn:0<n):0≤zA .i64 a n∧zA .i64 a n<n:=by
 unfold zA;rw[Int.tmod_eq_emod_of_nonneg ha];exact⟨Int.emod_nonneg _ (by omega),Int.emod_lt_of_pos _ hn⟩
def zeS{c:Ar}{n:Int}(h:nB c):Ok (Ay c n) λr=>0≤r.1∧(0<n→r.1<n)∧(n≤0→r.1=0)∧nB r.2:=by
 simp only[Ay];refine .cond' (λhn=>?_) λhn=>?_
 ·have hn:n≤0:=by simpa using hn
  exact .some' ⟨Int.le_refl _,λh=>by omega,λ_=>rfl,h⟩
 ·have hn:0<n:=by simpa using hn
  have V0:(n==0)=false:=by simp;omega
  refine .cond' (λ_=>?_) λ_=>?_
  ·refine(xU h).bind λr hr=>?_;rw[V0];have:=yH hr.1 hn;exact .some' ⟨this.1,λ_=>this.2,λh=>by omega,hr.2.2⟩
  ·refine(xU h).bind λr hr=>(xU hr.2.2).bind λr2 DW=>(xU DW.2.2).bind λr3 pW=>?_;rw[V0];have h1:KB .i64 r.1 65536=r.1 *65536:=IB (by omega) (by omega);have h2:KB .i64 r2.1 256=r2.1 *256:=IB (by omega) (by omega);have h3:gA .i64 (KB .i64 r.1 65536) (KB .i64 r2.1 256)=r.1 *65536+r2.1 *256:=by rw[h1,h2];exact IB (by omega) (by omega)
   have h4:gA .i64 (gA .i64 (KB .i64 r.1 65536) (KB .i64 r2.1 256)) r3.1=r.1 *65536+r2.1 *256+r3.1:=by rw[h3];exact IB (by omega) (by omega)
   simp only[cond_false,h4];have:=yH (a:=r.1 *65536+r2.1 *256+r3.1) (by omega) hn;exact .some' ⟨this.1,λ_=>this.2,λh=>by omega,pW.2.2⟩
def ztP{c:Ar}{l:List Int}(h:nB c)(hl:l≠[]):Ok (Co c l) λr=>r.1∈l∧nB r.2:=by
 simp only[Co];have h0:0<l.length:=List.length_pos_iff.2 hl;refine(zeS h).bind λr hr=>?_;obtain⟨j,hj⟩:=Int.eq_ofNat_of_zero_le hr.1;have:=hr.2.1 (by omega);rw[hj]at this⊢;have FZ:j<l.length:=by omega
 rw[WB FZ,rB];exact .some' ⟨List.getElem_mem FZ,hr.2.2.2⟩
def zqW{c:Ar}{n:Int}(h:nB c)(hn:n≤1048576):Ok (Bn c n) λr=>r.1.length=n.toNat∧nB r.2:=by
 have hL:=mB;simp only[Bn,aA];refine Ok.loop (λx:List UInt8×Int×Ar=>x.2.1=(x.1.length:Int)∧x.1.length≤n.toNat∧nB x.2.2) (λx=>n.toNat - x.1.length) (λx hx k hk=>?_) ⟨rfl,Nat.zero_le _,h⟩ (by show n.toNat - 0<_;omega);obtain⟨l,i,d⟩:=x;obtain⟨hi,h1,h2⟩:=hx;simp only at hi h1 h2 hk⊢;subst hi;refine .cond' (λhc=>?_) λhc=>?_
 ·have hc:(l.length:Int)<n:=by simpa using hc
  refine(xU h2).bind λr hr=>?_;rw[decide_eq_true (by simp;omega),cond_true];have:gA .i64 (l.length:Int) 1=((l.length+1:Nat):Int):=uG _ (by rw[oD];omega);rw[this];exact hk _ ⟨by simp,by simp;omega,hr.2.2⟩ (by simp;omega)
 ·have hc:¬(l.length:Int)<n:=by simpa using hc
  exact .some' ⟨by show l.length=_;omega,h2⟩
def zbX.ok{x}(_:xA [.sl .byte] x):Pz x=some (XS x):=rfl
end Go.D
namespace Go.D
def zkp{i n:Nat}(h:i<n):decide ((i:Int)<(n:Int))=true:=by simpa using h
def zt0(n:Nat):decide ((n:Int)<(n:Int))=false:=by simp
end Go.D
namespace Go.D
open Option renaming bind→ob
def HM{n:Nat}{α:Type}(h:n≤bA):decide (([]:List α).length+n≤bA)=true:=by simpa using h
def zb4{β:Type}{a:List UInt8}{f:List UInt8→Option β}(h:wt a≤bA):ob (yA a) f=f a:=RA h
def tU.ok{x}(_:xA [.v .Dice] x){r}:FD x=some r→Nh x=some r:=OA λh=>by
 rw[WK]at h;simp only[Nh,aA,QC];rw[zb4 h];cases h1:YB x
 ·rfl
 ·simp only[Bool.not_true,cond_false,Bool.false_or];cases(As.N x==10000)<;>rfl
def LT.ok{x}(_:xA [.v .Dice] x){r}:SJ x=some r→Nl x=some r:=OA λh=>by
 rw[WK,FA]at h;simp only[Nl];rw[HM h];rfl
def jU.ok{x}(_:xA [.v .Dice] x){r}:FD x=some r→Nm x=some r:=OA λh=>by
 simp only[Nm,aA,QC];rw[SJ,RA h];cases h1:YB x
 ·rfl
 ·simp only[Bool.not_true,cond_false,Bool.false_or];cases(As.N x==10000)<;>rfl
def FT.ok{x}(_:xA [.sl .bs] x){r}:PR x=some r→Ni x=some r:=OA λh=>by
 have hl:=QB (α:=List UInt8) x;simp only[Ni,aA]
 have key:=xH (f:=λ(x3:(List (List UInt8))×Int) k4=>cond (decide (x3.2<(List.length (α:=List UInt8) x:Int))) (ob (nA (α:=List UInt8) x x3.2) λe5=>ob (yA e5) λr6=>
   cond (decide (x3.1.length+[r6].length≤bA)) (k4 ((x3.1++[r6]),(gA .i64 x3.2 1))) none) (some x3.1)) (g:=λ_=>some x)
  (fun y:List (List UInt8) × Int=>y.2=(y.1.length:Int)∧y.1=List.take (α:=List UInt8) y.1.length x) (fun y=>List.length (α:=List UInt8) x - y.1.length) (fun y hy k hk=>by
   obtain⟨o,i⟩:=y;obtain⟨h1,h2⟩:=hy;simp only at h1 h2 hk⊢;subst h1
   by_cases hi:o.length<List.length (α:=List UInt8) x
   ·have hw:=TF (l:=x) hi;rw[zkp hi,cond_true,WB hi,rB,zb4 (by omega),decide_eq_true (by simp;omega),cond_true];rw[gA,uG _ (by rw[oD];have:=mB;omega)];refine hk _ ⟨by simp,?_⟩ (by simp;omega);simp only[List.length_append,List.length_cons,List.length_nil];rw[aM (l:=x) hi, ←h2]
   ·have ho:o=x:=by rw[h2,List.take_of_length_le (by omega)]
    rw[decide_eq_false (by omega),cond_false,ho]) (x:=([],(0:Int))) ⟨rfl,rfl⟩ (by show List.length (α:=List UInt8) x - 0<2^64;have:=mB;omega)
 exact key
def YT{k info:List UInt8}(hk:k.length≤1048576)(hi:info.length≤100):∀j,(zH k info (j+1)).length=32
 | 0=>aI hk (by simp[zH];omega)
 | j+1=>aI hk (by rw[List.length_append,List.length_append,YT hk hi j];simp;omega)
def zis{k info:List UInt8}(hk:k.length≤1048576)(hi:info.length≤100)(j:Nat):(zH k info j).length≤32:=by
 cases j with
 | zero=>exact Nat.zero_le _
 | succ j=>rw[YT hk hi];exact Nat.le_refl _
def EN{k info:List UInt8}(hk:k.length≤1048576)(hi:info.length≤100):∀j,(iI k info j).length=32 *j
 | 0=>rfl
 | j+1=>by rw[iI,List.length_append,EN hk hi j,YT hk hi];omega
def zjA{k info:List UInt8}(hk:k.length≤1048576)(hi:info.length≤100)(n:Nat)(hn:n≤8160){R:Type}(z:List UInt8→Option R)
  {f:List UInt8×List UInt8×Int→(List UInt8×List UInt8×Int→Option R)→Option R}
  (hf:∀(j:Nat) (K:List UInt8×List UInt8×Int→Option R),32 *j<n→f (iI k info j,zH k info j,((j+1:Nat):Int)) K=K (iI k info (j+1),zH k info (j+1),((j+2:Nat):Int)))
  (hz:∀(j:Nat) (K:List UInt8×List UInt8×Int→Option R),n≤32 *j→f (iI k info j,zH k info j,((j+1:Nat):Int)) K=z (iI k info j)):
  wA FU f ([],[],(1:Int))=z (iI k info ((n+31) / 32)):=by
 have key:=xH (f:=f) (g:=λ_=>z (iI k info ((n+31) / 32))) (λx=>∃j,x=(iI k info j,zH k info j,((j+1:Nat):Int))∧j≤(n+31) / 32) (λx=>10000 - x.1.length) (λx hx K hK=>by
  obtain⟨j,rfl,hj⟩:=hx
  by_cases hc:32 *j<n
  ·rw[hf j K hc];refine hK _ ⟨j+1,rfl,by omega⟩ ?_;simp only[EN hk hi];omega
  ·rw[hz j K (by omega)];have:j=(n+31) / 32:=by omega
   rw[this]) (x:=([],[],(1:Int))) ⟨0,rfl,Nat.zero_le _⟩ (by show 10000 - 0<2^64;omega)
 exact key
def zqC(a b c:List UInt8):([a,b,c]:List (List UInt8)).flatten=a++b++c:=by simp
def zsz(a b c:List UInt8):wt ([a,b,c]:List (List UInt8))=a.length+b.length+c.length+3:=by
 rw[VC,VC,VC,zF,FA,FA,FA];omega
def oR{k info:List UInt8}{n:Int}(h:(!eA n 0 8160||decide ((info.length:Int)>100)||decide ((k.length:Int)>1048576))=true):VG k info n=([],false):=by rw[VG,h];rfl
def zeg{k info:List UInt8}{n:Int}(h:(!eA n 0 8160||decide ((info.length:Int)>100)||decide ((k.length:Int)>1048576))=false):VG k info n=((iI k info ((n.toNat+31) / 32)).take n.toNat,true):=by rw[VG,h];rfl
def znD(k info:List UInt8)(n:Int):Mg k info n=some (VG k info n):=by
 have hL:=mB;simp only[Mg,aA];cases h1:eA n 0 8160
 ·rw[oR (by rw[h1];rfl)];rfl
 cases h2:decide ((info.length:Int)>100)
 case true=>rw[oR (by rw[h1,h2];rfl)];rfl
 cases h3:decide ((k.length:Int)>1048576)
 case true=>rw[oR (by rw[h1,h2,h3];rfl)];rfl
 rw[zeg (by rw[h1,h2,h3];rfl)];have h1:=yD.1 h1;have h2:info.length≤100:=by have:=of_decide_eq_false h2;omega
 have h3:k.length≤1048576:=by have:=of_decide_eq_false h3;omega
 obtain⟨m,rfl⟩:=Int.eq_ofNat_of_zero_le h1.1;simp only[Bool.not_true,cond_false,Int.toNat_natCast];refine zjA (R:=List UInt8×Bool) h3 h2 m (by omega) (λo=>some (o.take m,true)) (λj K hj=>?_) (λj K hj=>?_)
 ·have jW:=zis h3 h2 j;rw[EN h3 h2,decide_eq_true (by omega),cond_true,XC,RA (by rw[zsz];simp;omega),zqC];have:IC k (zH k info j++info++[UInt8.ofNat (IntKind.wrap .u8 ((j+1:Nat):Int)).toNat])=zH k info (j+1):=rfl;rw[this,YT h3 h2,decide_eq_true (by omega),cond_true,gA,uG (j+1) (by rw[oD];omega)];rfl
 ·rw[EN h3 h2,decide_eq_false (by omega),cond_false,decide_eq_true (by omega),decide_eq_true (by omega),decide_eq_true (by omega)];simp only[Bool.and_self,cond_true,List.drop_zero,Int.sub_zero,Int.toNat_natCast];rw[zb4 (by rw[FA,List.length_take];omega)]
def TQ.ok{x}(_:xA [.sl .byte, .sl .byte, .v .int] x):Mg x.1 x.2.1 x.2.2=some (VG x.1 x.2.1 x.2.2):=znD x.1 x.2.1 x.2.2
def znB(k info:List UInt8)(n:Int):Mh k info n=some (VG k info n):=by
 have hL:=mB;simp only[Mh,aA];cases h1:eA n 0 8160
 ·rw[oR (by rw[h1];rfl)];rfl
 cases h2:decide ((info.length:Int)>100)
 case true=>rw[oR (by rw[h1,h2];rfl)];rfl
 cases h3:decide ((k.length:Int)>1048576)
 case true=>rw[oR (by rw[h1,h2,h3];rfl)];rfl
 rw[zeg (by rw[h1,h2,h3];rfl)];have h1:=yD.1 h1;have h2:info.length≤100:=by have:=of_decide_eq_false h2;omega
 have h3:k.length≤1048576:=by have:=of_decide_eq_false h3;omega
 obtain⟨m,rfl⟩:=Int.eq_ofNat_of_zero_le h1.1;simp only[Bool.not_true,cond_false,Int.toNat_natCast];refine zjA (R:=List UInt8×Bool) h3 h2 m (by omega) (λo=>some (o.take m,true)) (λj K hj=>?_) (λj K hj=>?_)
 ·have jW:=zis h3 h2 j;simp only;rw[EN h3 h2,decide_eq_true (by omega),cond_true,HM (by omega),cond_true,List.nil_append,decide_eq_true (by omega),cond_true,decide_eq_true (by simp;omega),cond_true];have:IC k (zH k info j++info++[UInt8.ofNat (IntKind.wrap .u8 ((j+1:Nat):Int)).toNat])=zH k info (j+1):=rfl;rw[this,YT h3 h2,decide_eq_true (by omega),cond_true,gA,uG (j+1) (by rw[oD];omega)];rfl
 ·rw[EN h3 h2,decide_eq_false (by omega),cond_false,decide_eq_true (by omega),decide_eq_true (by omega),decide_eq_true (by omega)];simp only[Bool.and_self,cond_true,List.drop_zero,Int.sub_zero,Int.toNat_natCast];rw[HM (by rw[List.length_take];omega)];rfl
def jR.ok{x}(_:xA [.sl .byte, .sl .byte, .v .int] x):Mh x.1 x.2.1 x.2.2=some (VG x.1 x.2.1 x.2.2):=znB x.1 x.2.1 x.2.2
def aU.ok{x}(_:xA [.sl .byte, .v .str] x){r}:OE x.1 x.2=some r→Nj x.1 x.2=some r:=OA λh=>by
 rw[FA]at h;simp only[Nj,Nat.ble_eq_true_of_le h,cond_true];rfl
def VT.ok{x}(_:xA [.sl .byte, .v .str] x){r}:OE x.1 x.2=some r→Nn x.1 x.2=some r:=OA λh=>by
 rw[FA]at h;simp only[Nn,Nat.ble_eq_true_of_le h,cond_true];rfl
def zqN{k l:List UInt8}(hk:k.length≤1048576)(hl:l.length≤100):(CM k l).length=32:=by
 rw[CM,zeg (by rw[show eA 32 0 8160=true from rfl,decide_eq_false (by omega),decide_eq_false (by omega)];rfl)];show(List.take 32 _).length=32
 rw[List.length_take,EN hk hl];rfl
def gM(k l:List UInt8):(CM k l).length≤32:=by
 rw[CM,VG];cases(!eA 32 0 8160||decide ((l.length:Int)>100)||decide ((k.length:Int)>1048576))
 ·show(List.take 32 _).length≤32
  rw[List.length_take];omega
 ·exact Nat.zero_le _
def zv3:wt ([106,97,114]:List UInt8)≤bA:=by rw[FA,mB];decide
def ZT.ok{x}(_:xA [.sl .byte] x):No x=some (BH x):=by
 simp only[No,BH,mA];rw[OE,RA zv3,bne];cases((List.length (α:=UInt8) x:Int)==12)<;>rfl
def RT.ok{x}(_:xA [.v .int] x):Np x=some (dF x):=by
 simp only[Np,dF];cases eA x 1 6<;>rfl
def uU(b:List UInt8):(BH b).Secret.length≤32:=by
 rw[BH];cases mA b
 ·exact Nat.zero_le _
 ·exact gM _ _
def zij(d:As):(QC d).1.Seed=d.Seed:=by
 rw[QC];cases(!YB d||d.N==10000)<;>rfl
def zeE(n:Int):wt (dF n)=0:=by
 rw[dF];cases eA n 1 6<;>rfl
def zee(p:List (List UInt8))(s:List UInt8)(m:Int):wt (yC p s m)≤wt p+wt s+32:=by
 rw[IN,bV,WK];have h1:=uU (QC ⟨s,0⟩).2;have h2:=zij ⟨s,0⟩;have h3:=zeE m;show wt p+wt (BH (QC ⟨s,0⟩).2).Secret+wt (QC ⟨s,0⟩).1.Seed+wt (dF m)+0≤_
 rw[h2,h3,FA];show wt p+_+wt s+0+0≤_;omega
def lT.ok{x}(_:xA [.sl .bs, .sl .byte, .v .int] x){r}:za1 x.1 x.2.1 x.2.2=some r→Nq x.1 x.2.1 x.2.2=some r:=OA λh=>by
 obtain⟨p,s,m⟩:=x;simp only at h;have hL:=mB;have hw:=zee p s m;have hl:=QB p;simp only[Nq,KR];rw[FD,RA (by rw[WK];show wt s≤bA;omega)];simp only[aA]
 have key:=zjV (σ:=Ac) (R:=Ac) p.length (by rw[oD];omega) (f:=λ(x6:Int×Ac) k7=>cond (decide (x6.1<(p.length:Int))) (ob (nA p x6.1) λe8=>
   cond (decide (([]:List UInt8).length+e8.length≤bA)) (cond (decide (x6.2.Psks.length+[[]++e8].length≤bA)) (k7 ((gA .i64 x6.1 1),(⟨x6.2.Psks++[[]++e8],x6.2.J,x6.2.D,x6.2.T,x6.2.Cr⟩:Ac))) none) none)
   (ob (CC x6.2) λr9=>cond (!r9) (some (⟨[],(⟨[]⟩:Ax),(⟨[],0⟩:As),(⟨0,[]⟩:Ao),[]⟩:Ac)) (some x6.2)))
  (g:=λ_ _=>some (bif BB (yC p s m)then yC p s m else zck)) (λi t=>t=⟨p.take i,(yC p s m).J,(yC p s m).D,(yC p s m).T,[]⟩)
  (fun i t k hi ht hk=>by
   subst ht;have hwg:=TF hi;rw[FA]at hwg;simp only;rw[zkp hi,cond_true,WB hi,rB,HM (by omega),cond_true,decide_eq_true (by simp;omega),cond_true,List.nil_append, ←aM p hi];exact hk _ rfl)
  (fun t k ht=>by
   subst ht;simp only[List.take_length];rw[zt0,cond_false];show ob (CC (yC p s m)) _=_
   rw[CC,RA (by omega)];cases BB (yC p s m)<;>rfl) 0 ⟨[],(yC p s m).J,(yC p s m).D,(yC p s m).T,[]⟩ (Nat.zero_le _) rfl
 exact key
def zie(id:Int)(psk:List UInt8)(a:Af):wt (II id psk a)=wt psk:=by
 rw[UN];show wt psk+0+0+0+0+0+0=_
 omega
def zhU(id:Int)(psk:List UInt8)(a:Af):dB (II id psk a)=(eA id 1 9&&vC psk&&GA a):=by
 show(eA id 1 9&&vC psk&&GA a&&true)=_
 rw[Bool.and_true]
def qT.ok{x}(_:xA [.v .int, .sl .byte, .v .Addr] x){r}:LJ x.1 x.2.1 x.2.2=some r→Ns x.1 x.2.1 x.2.2=some r:=OA λh=>by
 obtain⟨id,psk,a⟩:=x;simp only at h;rw[FA]at h;simp only[Ns,yB,aA];rw[HM h];cases eA id 1 9
 ·rfl
 cases vC psk
 ·rfl
 cases GA a<;>rfl
def DT.ok{x}(_:xA [.sl .byte] x){r}:CD x=some r→Nk x=some r:=OA λh=>by
 simp only[Nk];rw[zb4 h];rfl
def oT.ok{x}(_:xA [.sl .byte] x){r}:CD x=some r→Nt x=some r:=OA λh=>by
 rw[FA]at h;simp only[Nt];rw[HM h];rfl
def MT.ok{x}(_:xA [.sl .byte] x){r}:zcc x=some r→Nr x=some r:=OA λh=>by
 rw[FA]at h;have hL:=mB;simp only[Nr,aA,List.nil_append];rw[HM h,cond_true]
 by_cases hc:31<List.length (α:=UInt8) x
 ·rw[decide_eq_true (by omega),cond_true,decide_eq_true (by omega),decide_eq_true (by omega),decide_eq_true (by omega)];simp only[Bool.and_self,cond_true];rw[decide_eq_true (by simp;omega)];rfl
 ·rw[decide_eq_false (by omega),cond_false,decide_eq_true (by simp;omega),cond_true,jI,List.take_of_length_le (by omega)];rfl
def ze7(a b:List UInt8):wt ([a,b]:List (List UInt8))=wt a+wt b+2:=by rw[VC,VC,zF];omega
def zq7{s a b:List UInt8}{m:Int}(h:BB (yC [a,b] s m)=true):1≤s.length∧s.length≤32:=by
 simp only[BB,Bool.and_eq_true]at h;have h1:=h.1.1.1.1.2;rw[show(yC [a,b] s m).D=(QC ⟨s,0⟩).1 from rfl,YB,Bool.and_eq_true,zij]at h1;have h2:1≤(s.length:Int)∧(s.length:Int)≤32:=yD.1 h1.1;exact⟨by omega,by omega⟩
def qU(s:List UInt8)(n:Int):(mE s n).length≤12:=by
 rw[mE];cases eA (s.length:Int) 1 32&&eA n 0 10000
 ·exact Nat.zero_le _
 ·simp only[cond_true,List.length_take];omega
def zT.ok{x}(_:xA [.sl .byte, .sl .byte, .sl .byte, .v .int] x){r}:zeL x.1 x.2.1 x.2.2.1 x.2.2.2=some r→Nu x.1 x.2.1 x.2.2.1 x.2.2.2=some r:=OA λh=>by
 obtain⟨s,a,b,m⟩:=x;simp only at h;have hL:=mB;have hw:=zee [a,b] s m;rw[ze7]at hw;simp only[Nu,XJ];rw[za1,RA (by rw[ze7];omega)];cases hs:BB (yC [a,b] s m)
 ·have e:KR [a,b] s m=zck:=by rw[KR,hs];rfl
  rw[e,CC,RA (by show 0≤_;omega)];rfl
 have e:KR [a,b] s m=yC [a,b] s m:=by rw[KR,hs];rfl
 have hj:((yC [a,b] s m).J).Secret.length≤32:=uU _;have hdl:=qU s 0;rw[e,CC,RA (by omega),hs];simp only[Bool.not_true,cond_false,cond_true];rw[zcc,RA (by omega),LJ,RA (by omega),LJ,RA (by omega),CD,RA (by rw[FA];omega),HM (by omega)];rfl
end Go.D
namespace Go.D
def zhQ(id:Int)(psk:List UInt8)(a:Af):wt (yB id psk a)≤wt psk:=by
 rw[yB];cases(eA id 1 9&&vC psk&&GA a)
 ·rw[cond_false,zie];exact Nat.zero_le _
 ·rw[cond_true,zie];exact Nat.le_refl _
def zoo(b:List UInt8):wt (xE b)=b.length:=by
 rw[dK];show 0+0+wt b+0+0=_
 rw[FA];omega
def zp1(b:List UInt8):wt (yU b)=b.length:=by
 rw[dK];show 0+0+0+wt b+0=_
 rw[FA];omega
def zp9(s a b:List UInt8)(m:Int):wt (XJ s a b m)≤2 *wt a+2 *wt b+wt s+200:=by
 rw[XJ];cases BB (yC [a,b] s m)
 ·exact Nat.zero_le _
 ·have h1:=zhQ 1 a (aC 1);have h2:=zhQ 2 b (aC 2);have h3:=zee [a,b] s m;have h4:=qU s 0;have h5:(yC [a,b] s m).J.Secret.length≤32:=uU _;have h6:(jI s).length≤32:=by rw[jI,List.length_append,List.length_take];simp;omega
  have h7:=zoo (mE s 0);have h8:=zp1 (yC [a,b] s m).J.Secret;rw[ze7]at h3;rw[cond_true,gG,WK];show wt [yB 1 a (aC 1),yB 2 b (aC 2)]+wt (yC [a,b] s m)+wt (jI s)+0+0+wt [xE (mE s 0),yU (yC [a,b] s m).J.Secret]≤_
  rw[VC,VC,zF,VC,VC,zF,FA,h7,h8];omega
def zqn{s a b:List UInt8}{m:Int}(h:BB (yC [a,b] s m)=true):ZA (KU s a b m)=true∧yB 1 a (aC 1)=II 1 a (aC 1)∧yB 2 b (aC 2)=II 2 b (aC 2)∧
  (yC [a,b] s m).J.Secret.length=32∧(yC [a,b] s m).T.L=[]:=by
 have hd:=zq7 h;have hs:=h;simp only[BB,Bool.and_eq_true]at h
 have hj:(yC [a,b] s m).J.Secret.length=32:=by
  have:=h.1.1.1.1.1.2;simp only[UE,beq_iff_eq]at this;omega
 have hp:=h.1.2
 have X0:vC a=true∧vC b=true:=by
  have:(yC [a,b] s m).Psks=[a,b]:=rfl;rw[this]at hp;simpa using hp
 have ha:yB 1 a (aC 1)=II 1 a (aC 1):=by rw[yB,X0.1];rfl
 have hb:yB 2 b (aC 2)=II 2 b (aC 2):=by rw[yB,X0.2];rfl
 have hdl:=qU s 0
 have hT:(yC [a,b] s m).T.L=[]:=by
  show(dF m).L=[]
  rw[dF];cases eA m 1 6<;>rfl
 refine⟨?_,ha,hb,hj,hT⟩
 have kY:nC (xE (mE s 0))=true:=by
  have:(mE s 0).length=12:=by
   rw[mE,show eA (s.length:Int) 1 32=true from yD.2 ⟨by omega,by omega⟩];show(List.take 12 _).length=12
   rw[List.length_take,aI (by omega) (by rw[zbZ];omega)];rfl
  show(eA 14 1 17&&eA 0 0 9&&eA 0 0 1&&LC [] 12&&LC [] 12&&eA 0 0 4294967295&&eA 0 0 281474976710655&&decide (((mE s 0).length:Int)≤100)&&LC [] 32&&GA ⟨0,0⟩&&eA 0 0 1000000)=true
  rw[this];rfl
 have N2:nC (yU (yC [a,b] s m).J.Secret)=true:=by
  show(eA 12 1 17&&eA 0 0 9&&eA 0 0 1&&LC [] 12&&LC [] 12&&eA 0 0 4294967295&&eA 0 0 281474976710655&&decide ((([]:List UInt8).length:Int)≤100)&&tE ((yC [a,b] s m).J.Secret.length:Int) 32&&GA ⟨0,0⟩&&eA 0 0 1000000)=true
  rw[hj];rfl
 have v6:YB ⟨jI s,0⟩=true:=by
  have:1≤(jI s).length∧(jI s).length≤32:=by rw[jI,List.length_append,List.length_take];simp;omega
  show(eA ((jI s).length:Int) 1 32&&eA 0 0 10000)=true
  rw[yD.2 ⟨by omega,by omega⟩];rfl
 have hcb:wB 2 (GI (KU s a b m))=false:=by
  refine TG.2 λi hi=>?_
  match i,hi with
  | 0,_=>
   show(!dB (yB 1 a (aC 1))||(yB 1 a (aC 1)).Id !=((0+1:Nat):Int)||!((yB 1 a (aC 1)).Psk==a))=false
   rw[ha,zhU,X0.1];simp[II];decide
  | 1,_=>
   show(!dB (yB 2 b (aC 2))||(yB 2 b (aC 2)).Id !=((1+1:Nat):Int)||!((yB 2 b (aC 2)).Psk==b))=false
   rw[hb,zhU,X0.2];simp[II];decide
 show(eA 0 0 1000000&&true&&BB (yC [a,b] s m)&&true&&YB ⟨jI s,0⟩&&true&&true&&!(wB 2 (GI (KU s a b m)))&&true&&!(!nC (xE (mE s 0))||(!nC (yU (yC [a,b] s m).J.Secret)||false)))=true
 rw[hs,v6,hcb,kY,N2];rfl
end Go.D
