/-
 Sizes of the program's data.
-/
import Derived.Test.YtfealdecpglcnaaGreatN6
set_option linter.all false
namespace Go.D
end Go.D
namespace Go.D
noncomputable section
def KT(code:List UInt8):Bool:=decide ((code.length:Int)>1048576)
def mK(d:Ar):Option Ar:=pt (wt d≤bA) d
def uC(d:Ar):Ar×List UInt8:=bif !YB d||d.N==10000 then(d,[])else(⟨d.Seed,fA .i64 d.N 1⟩,HE d.Seed d.N)
def VD(d:Ar):Option (Ar×List UInt8):=pt (wt d≤bA) (uC d)
def tS(l:List (List UInt8)):Option (List (List UInt8)):=pt (wt l≤bA) l
def RH(k info:List UInt8):Nat→List UInt8
 | 0=>[]
 | j+1=>TC k (RH k info j++info++[UInt8.ofNat (IntKind.wrap .u8 ((j+1:Nat):Int)).toNat])
def DI(k info:List UInt8):Nat→List UInt8
 | 0=>[]
 | j+1=>DI k info j++RH k info (j+1)
def jH(k info:List UInt8)(n:Int):List UInt8×Bool:=bif !eA n 0 8160||decide ((info.length:Int)>100)||decide ((k.length:Int)>1048576)then([],false)else((DI k info ((n.toNat+31) / 32)).take n.toNat,true)
def fN(k label:List UInt8):List UInt8:=(jH k label 32).1
def LE(k label:List UInt8):Option (List UInt8):=pt (wt label≤bA) (fN k label)
def TH(b:List UInt8):Ay:=bif mA b then⟨fN b [106,97,114]⟩else⟨[]⟩
def OE(n:Int):Ao:=bif eA n 1 6 then⟨n,[]⟩else⟨0,[]⟩
def zc1:Ac:=⟨[],⟨[]⟩,⟨[],0⟩,⟨0,[]⟩,[]⟩
def fD(psks:List (List UInt8))(seed:List UInt8)(most:Int):Ac:=⟨psks,TH (uC ⟨seed,0⟩).2,(uC ⟨seed,0⟩).1,OE most,[]⟩
def oS(psks:List (List UInt8))(seed:List UInt8)(most:Int):Ac:=bif wB (fD psks seed most)then fD psks seed most else zc1
def zbJ(psks:List (List UInt8))(seed:List UInt8)(most:Int):Option Ac:=pt (wt psks+wt seed+1000≤bA) (oS psks seed most)
def zgJ:Ab:=⟨0,0,[],[],0,[],[],0,0,[],[]⟩
def zg7:Aj:=⟨0,[],zec,zec,false,0,[]⟩
def zmo:Au:=⟨false,0,0,0⟩
def rK(id:Int)(psk:List UInt8)(a:Af):Ae:=⟨id,psk,a,0,[],zgJ,zg7,zmo,zmo,0⟩
def jC(id:Int)(psk:List UInt8)(a:Af):Ae:=bif eA id 1 9&&JC psk&&EA a then rK id psk a else rK 0 [] ⟨0,0⟩
def fK(id:Int)(psk:List UInt8)(a:Af):Option Ae:=pt (wt psk≤bA) (jC id psk a)
def VE(b:List UInt8):Ad:=⟨14,0,0,[],[],0,0,b,[],⟨0,0⟩,0⟩
def zfX(k:List UInt8):Ad:=⟨12,0,0,[],[],0,0,[],k,⟨0,0⟩,0⟩
def OD(b:List UInt8):Option Ad:=pt (wt b≤bA) (VE b)
def PL(s:List UInt8):List UInt8:=s.take 31++[99]
def zcT(s:List UInt8):Option (List UInt8):=pt (wt s≤bA) (PL s)
def zwF:Aa:=⟨0,[],zc1,⟨[],0⟩,[],[],[]⟩
def wV(s a b:List UInt8)(most:Int):Aa:=⟨0,[jC 1 a (vC 1),jC 2 b (vC 2)],fD [a,b] s most,⟨PL s,0⟩,[],[],[VE (HE s 0),zfX (fD [a,b] s most).J.Secret]⟩
def kV(s a b:List UInt8)(most:Int):Aa:=bif wB (fD [a,b] s most)then wV s a b most else zwF
def zfF(s a b:List UInt8)(most:Int):Option Aa:=pt (wt a+wt b+wt s+2000≤bA) (kV s a b most)
end
end Go.D
namespace Go.D
open Option renaming bind→ob
noncomputable section
def Ql(a0:List UInt8):=some (decide ((a0.length:Int)>1048576))
def Jh(a0:List UInt8):=
 aA (λ(y1:Int)=>
 some (⟨a0,0,y1⟩:As)) λk2=>
 uA FU (λ(x3:Int×Int) k4=>
 aA (λy5=>
 cond (y5)
 (ob (jA a0 x3.2) λe7=>
 let x8:Int:=IntKind.wrap .i64 ((e7.toNat:Nat):Int);let x9:Int:=fA .i64 (fA .i64 (GB .i64 x3.1 137) x8) 11
 k4 ((HB .i64 x9 1073741823),(fA .i64 x3.2 1)))
 (k2 x3.1)) λk6=>
 cond (x3.2<(a0.length:Int))
 (k6 (decide (x3.2<4000)))
 (k6 false)) ((fA .i64 127812 (a0.length:Int)),0)
def Eo(a0:As):=
 let x1:Int:=fA .i64 (GB .i64 a0.h 6364136223846793005) 1442695040888963407;let x2:Int:=AB .i64 (iE .i64 x1 33) (iE .i64 x1 47)
 aA (λ(y3:Int×As)=>
 some (y3.1,y3.2)) λk4=>
 cond (a0.i<(a0.b.length:Int))
 (ob (jA a0.b a0.i) λe5=>
 let x6:Int:=IntKind.wrap .i64 ((e5.toNat:Nat):Int);let x7:Int:=HB .i64 (fA .i64 (HB .i64 x2 255) x6) 255
 k4 (x7,(⟨a0.b,fA .i64 a0.i 1,x1⟩:As)))
 (k4 ((HB .i64 x2 255),(⟨a0.b,a0.i,x1⟩:As)))
def Az(a0:As)(a1:Int):=
 cond (a1≤0)
 (some (0,a0))
 (cond (a1≤256)
 (ob (Eo a0) λr1=>
 cond (a1==0) none (some (xA .i64 r1.1 a1,r1.2)))
 (ob (Eo a0) λr2=>
 ob (Eo r2.2) λr3=>
 ob (Eo r3.2) λr4=>
 let x5:Int:=fA .i64 (GB .i64 r2.1 65536) (GB .i64 r3.1 256)
 cond (a1==0) none (some (xA .i64 (fA .i64 x5 r4.1) a1,r4.2))))
def Db(a0:As)(a1:List Int):=ob (Az a0 (a1.length:Int)) λr1=>ob (jA a1 r1.1) λe2=>some (e2,r1.2)
def Bt(a0:As)(a1:Int):=aA (λ(y1:(List UInt8)×As)=>some (y1.1,y1.2)) λk2=>uA FU (λ(x3:(List UInt8)×Int×As) k4=>cond (x3.2.1<a1) (ob (Eo x3.2.2) λr5=>cond (x3.1.length+[UInt8.ofNat (IntKind.wrap .u8 r5.1:Int).toNat].length≤bA) (k4 ((x3.1++[UInt8.ofNat (IntKind.wrap .u8 r5.1:Int).toNat]),(fA .i64 x3.2.1 1),r5.2)) none) (k2 (x3.1,x3.2.2))) ([],0,a0)
def Np(a0:Ar):=
 ob (yA a0.Seed) λr1=>
 aA (λy2=>
 cond (y2)
 (some ((⟨r1,a0.N⟩:Ar),[]))
 (let r4:(List UInt8):=HE a0.Seed a0.N
 some ((⟨r1,fA .i64 a0.N 1⟩:Ar),r4))) λk3=>
 cond (!(YB a0))
 (k3 true)
 (k3 (a0.N==10000))
def Nq(a0:List (List UInt8)):=aA (λ(y1:(List (List UInt8)))=>some y1) λk2=>uA FU (λ(x3:(List (List UInt8))×Int) k4=>cond (x3.2<(a0.length:Int)) (ob (jA a0 x3.2) λe5=>ob (yA e5) λr6=>cond (x3.1.length+[r6].length≤bA) (k4 ((x3.1++[r6]),(fA .i64 x3.2 1))) none) (k2 x3.1)) ([],0)
def Mn(a0:List UInt8)(a1:List UInt8)(a2:Int):=
 aA (λy1=>
 cond (y1)
 (some ([],false))
 (aA (λ(y3:(List UInt8)×(List UInt8))=>
 cond (decide (0≤(0:Int))&&decide ((0:Int)≤a2)&&decide (a2≤(y3.1.length:Int))) (ob (yA (List.take ((a2 - 0).toNat) (List.drop 0 y3.1))) λr10=>
 some (r10,true)) none) λk4=>
 uA FU (λ(x5:(List UInt8)×(List UInt8)×Int) k6=>
 cond ((x5.1.length:Int)<a2)
 (let x7:List (List UInt8):=[x5.2.1,a1,[UInt8.ofNat (IntKind.wrap .u8 x5.2.2:Int).toNat]]
 ob (aD x7) λr8=>
 let r9:(List UInt8):=TC a0 r8
 cond (x5.1.length+r9.length≤bA) (k6 ((x5.1++r9),r9,(fA .i64 x5.2.2 1))) none)
 (k4 (x5.1,x5.2.1))) ([],[],1))) λk2=>
 cond (!(eA a2 0 8160))
 (k2 true)
 (cond ((a1.length:Int)>100)
 (k2 true)
 (k2 (decide ((a0.length:Int)>1048576))))
def Nr(a0:List UInt8)(a1:List UInt8):=
 cond (Nat.ble a1.length bA) (let r1:(List UInt8)×Bool:=jH a0 a1 32
 some r1.1) none
def Ns(a0:List UInt8):=ob (yA a0) λr1=>some (⟨14,0,0,[],[],0,0,r1,[],(⟨0,0⟩:Af),0⟩:Ad)
def Nt(a0:Ar):=cond (([]:List UInt8).length+a0.Seed.length≤bA) (some (⟨[]++a0.Seed,a0.N⟩:Ar)) none
def Nu(a0:Ar):=
 ob (mK a0) λr1=>
 aA (λy2=>
 cond (y2)
 (some (r1,[]))
 (let r4:(List UInt8):=HE a0.Seed a0.N
 some ((⟨r1.Seed,fA .i64 a0.N 1⟩:Ar),r4))) λk3=>
 cond (!(YB a0))
 (k3 true)
 (k3 (a0.N==10000))
def Mo(a0:List UInt8)(a1:List UInt8)(a2:Int):=
 aA (λy1=>
 cond (y1)
 (some ([],false))
 (aA (λ(y3:(List UInt8)×(List UInt8))=>
 cond (decide (0≤(0:Int))&&decide ((0:Int)≤a2)&&decide (a2≤(y3.1.length:Int))) (cond (([]:List UInt8).length+(List.take ((a2 - 0).toNat) (List.drop 0 y3.1)).length≤bA) (some ([]++(List.take ((a2 - 0).toNat) (List.drop 0 y3.1)),true)) none) none) λk4=>
 uA FU (λ(x5:(List UInt8)×(List UInt8)×Int) k6=>
 cond ((x5.1.length:Int)<a2)
 (cond (([]:List UInt8).length+x5.2.1.length≤bA) (cond (([]++x5.2.1).length+a1.length≤bA) (cond ((([]++x5.2.1)++a1).length+[UInt8.ofNat (IntKind.wrap .u8 x5.2.2:Int).toNat].length≤bA) (let x7:List UInt8:=(([]++x5.2.1)++a1)++[UInt8.ofNat (IntKind.wrap .u8 x5.2.2:Int).toNat]
 let r8:(List UInt8):=TC a0 x7
 cond (x5.1.length+r8.length≤bA) (k6 ((x5.1++r8),r8,(fA .i64 x5.2.2 1))) none) none) none) none)
 (k4 (x5.1,x5.2.1))) ([],[],1))) λk2=>
 cond (!(eA a2 0 8160))
 (k2 true)
 (cond ((a1.length:Int)>100)
 (k2 true)
 (k2 (decide ((a0.length:Int)>1048576))))
def Nv(a0:List UInt8)(a1:List UInt8):=
 cond (Nat.ble a1.length bA) (let r1:(List UInt8)×Bool:=jH a0 a1 32
 some r1.1) none
def Nw(a0:List UInt8):=cond ((a0.length:Int) !=12) (some (⟨[]⟩:Ay)) (ob (LE a0 [106,97,114]) λr1=>some (⟨r1⟩:Ay))
def Nx(a0:Int):=cond (!(eA a0 1 6)) (some (⟨0,[]⟩:Ao)) (some (⟨a0,[]⟩:Ao))
def Ny(a0:List (List UInt8))(a1:List UInt8)(a2:Int):=
 ob (VD (⟨a1,0⟩:Ar)) λr1=>
 let r2:Ay:=TH r1.2;let r3:Ao:=OE a2
 aA (λ(y4:Ac)=>
 ob (xC y4) λr9=>
 cond (!r9)
 (some (⟨[],(⟨[]⟩:Ay),(⟨[],0⟩:Ar),(⟨0,[]⟩:Ao),[]⟩:Ac))
 (some y4)) λk5=>
 uA FU (λ(x6:Int×Ac) k7=>
 cond (x6.1<(a0.length:Int))
 (ob (jA a0 x6.1) λe8=>
 cond (([]:List UInt8).length+e8.length≤bA) (cond (x6.2.Psks.length+[[]++e8].length≤bA) (k7 ((fA .i64 x6.1 1),(⟨x6.2.Psks++[[]++e8],x6.2.J,x6.2.D,x6.2.T,x6.2.Cr⟩:Ac))) none) none)
 (k5 x6.2)) (0,(⟨[],r2,r1.1,r3,[]⟩:Ac))
def Nz(a0:List UInt8):=cond (([]:List UInt8).length+a0.length≤bA) (aA (λ(y1:(List UInt8))=>cond (y1.length+[UInt8.ofNat (99:Int).toNat].length≤bA) (some (y1++[UInt8.ofNat (99:Int).toNat])) none) λk2=>cond ((([]++a0).length:Int)>31) (cond (decide (0≤(0:Int))&&decide ((0:Int)≤31)&&decide (31≤(([]++a0).length:Int))) (k2 (List.take 31 ([]++a0))) none) (k2 ([]++a0))) none
def Oa(a0:Int)(a1:List UInt8)(a2:Af):=aA (λy1=>cond (y1) (some (⟨0,[],(⟨0,0⟩:Af),0,[],(⟨0,0,[],[],0,[],[],0,0,[],[]⟩:Ab),(⟨0,[],(⟨0,[],0,(⟨0,[]⟩:Ap)⟩:Av),(⟨0,[],0,(⟨0,[]⟩:Ap)⟩:Av),false,0,[]⟩:Aj),(⟨false,0,0,0⟩:Au),(⟨false,0,0,0⟩:Au),0⟩:Ae)) (cond (([]:List UInt8).length+a1.length≤bA) (some (⟨a0,[]++a1,a2,0,[],(⟨0,0,[],[],0,[],[],0,0,[],[]⟩:Ab),(⟨0,[],(⟨0,[],0,(⟨0,[]⟩:Ap)⟩:Av),(⟨0,[],0,(⟨0,[]⟩:Ap)⟩:Av),false,0,[]⟩:Aj),(⟨false,0,0,0⟩:Au),(⟨false,0,0,0⟩:Au),0⟩:Ae)) none)) λk2=>cond (!(eA a0 1 9)) (k2 true) (cond (!(JC a1)) (k2 true) (k2 (!(EA a2))))
def Ob(a0:List UInt8):=cond (([]:List UInt8).length+a0.length≤bA) (some (⟨14,0,0,[],[],0,0,[]++a0,[],(⟨0,0⟩:Af),0⟩:Ad)) none
def Oc(a0:List UInt8)(a1:List UInt8)(a2:List UInt8)(a3:Int):=
 ob (zbJ [a1,a2] a0 a3) λr1=>
 ob (xC r1) λr2=>
 cond (!r2)
 (some (⟨0,[],(⟨[],(⟨[]⟩:Ay),(⟨[],0⟩:Ar),(⟨0,[]⟩:Ao),[]⟩:Ac),(⟨[],0⟩:Ar),[],[],[]⟩:Aa))
 (ob (zcT a0) λr3=>
 let r4:Af:=vC 1
 ob (fK 1 a1 r4) λr5=>
 let r6:Af:=vC 2
 ob (fK 2 a2 r6) λr7=>
 let r8:(List UInt8):=HE a0 0
 ob (OD r8) λr9=>
 cond (([]:List UInt8).length+r1.J.Secret.length≤bA) (let x10:List Ad:=[r9,(⟨12,0,0,[],[],0,0,[],[]++r1.J.Secret,(⟨0,0⟩:Af),0⟩:Ad)]
 some (⟨0,[r5,r7],r1,(⟨r3,0⟩:Ar),[],[],x10⟩:Aa)) none)
def Gu(a0:List UInt8)(a1:List UInt8):=cond (Nat.ble a0.length bA) (cond (Nat.ble a1.length bA) (some (a0==a1)) none) none
end
end Go.D
namespace Go.D
end Go.D
namespace Go.D
def Ok{α:Type}(o:Option α)(P:α→Prop):Prop:=∃r,o=some r∧P r
def Ok.bind{α β:Type}{o:Option α}{P:α→Prop}{Q:β→Prop}{f:α→Option β}(h:Ok o P)(k:∀r,P r→Ok (f r) Q):Ok (Option.bind o f) Q:=by
 obtain⟨r,rfl,h⟩:=h;exact k r h
def Ok.some'{α:Type}{x:α}{P:α→Prop}(h:P x):Ok (some x) P:=⟨x,rfl,h⟩
def Ok.mono{α:Type}{o:Option α}{P Q:α→Prop}(h:Ok o P)(k:∀r,P r→Q r):Ok o Q:=by
 obtain⟨r,h1,h2⟩:=h;exact⟨r,h1,k r h2⟩
def Ok.cond'{α:Type}{b:Bool}{x y:Option α}{P:α→Prop}(h1:b=true→Ok x P)(h2:b=false→Ok y P):Ok (cond b x y) P:=by
 cases b
 ·exact h2 rfl
 ·exact h1 rfl
def Ok.loop{σ R:Type}{f:σ→(σ→Option R)→Option R}{P:R→Prop}(inv:σ→Prop)(μ:σ→Nat)
  (h:∀x,inv x→∀k:σ→Option R,(∀y,inv y→μ y<μ x→Ok (k y) P)→Ok (f x k) P) {x:σ} (hx:inv x) (hμ:μ x<2^64):Ok (uA FU f x) P:=by
 rw[zg0]
 have:∀(n:Nat) (x:σ),inv x→μ x<n→Ok (uA n f x) P:=by
  intro n;induction n with
  | zero=>intro x _ hn;omega
  | succ n ih=>intro x hx hn;exact h x hx (uA n f) λy hy FV=>ih y hy (by omega)
 exact this _ x hx hμ
def zwq(x:Int)(j:Nat)(hj:j<63):0≤HB .i64 x ((2^j - 1:Nat):Int)∧HB .i64 x ((2^j - 1:Nat):Int)≤((2^j - 1:Nat):Int):=by
 have h1:2^j<2^63:=Nat.pow_lt_pow_right (by decide) hj;have h0:0<2^j:=Nat.two_pow_pos j;unfold HB;show 0≤IntKind.wrap .i64 ((BitVec.ofInt 64 x&&&BitVec.ofInt 64 ((2^j - 1:Nat):Int)).toNat:Int)∧IntKind.wrap .i64 ((BitVec.ofInt 64 x&&&BitVec.ofInt 64 ((2^j - 1:Nat):Int)).toNat:Int)≤_
 have h2:(BitVec.ofInt 64 x&&&BitVec.ofInt 64 ((2^j - 1:Nat):Int)).toNat≤2^j - 1:=by
  rw[BitVec.toNat_and,wO _ (by omega)];exact Nat.and_le_right
 generalize (BitVec.ofInt 64 x&&&BitVec.ofInt 64 ((2^j - 1:Nat):Int)).toNat=m at h2;rw[FB (by omega) (by omega)];omega
def zcN(x:Int):0≤HB .i64 x 255∧HB .i64 x 255≤255:=zwq x 8 (by decide)
def zB(c:As):Prop:=0≤c.i∧c.i≤c.b.length∧c.b.length≤1048576
def zvF{code:List UInt8}(h:code.length≤1048576):Ok (Jh code) zB:=by
 simp only[Jh,aA];refine Ok.loop (λx:Int×Int=>0≤x.2∧x.2≤(code.length:Int)) (λx=>code.length - x.2.toNat) (λx hx k hk=>?_) ⟨Int.le_refl _,by show(0:Int)≤(code.length:Int);omega⟩ (by show code.length - Int.toNat 0<_;omega);obtain⟨s,i⟩:=x;obtain⟨h0,h1⟩:=hx;simp only at h0 h1 hk⊢;obtain⟨j,rfl⟩:=Int.eq_ofNat_of_zero_le h0;have fin:Ok (some (⟨code,0,s⟩:As)) zB:= .some' ⟨Int.le_refl _,by show(0:Int)≤_;omega,h⟩;refine .cond' (λhj=>?_) λ_=>fin;have hj:j<code.length:=by simpa using hj
 refine .cond' (λ_=>?_) λ_=>fin;rw[DB hj,XA];have:fA .i64 (j:Int) 1=((j+1:Nat):Int):=OG j (by rw[dD];omega);rw[this];exact hk _ ⟨by show(0:Int)≤((j+1:Nat):Int);omega,by show((j+1:Nat):Int)≤_;omega⟩ (by simp only[Int.toNat_natCast];omega)
def nV{c:As}(h:zB c):Ok (Eo c) λr=>0≤r.1∧r.1≤255∧zB r.2:=by
 obtain⟨h0,h1,h2⟩:=h;simp only[Eo,aA];refine .cond' (λhc=>?_) λ_=> .some' ⟨(zcN _).1,(zcN _).2,h0,h1,h2⟩;have hc:c.i<(c.b.length:Int):=by simpa using hc
 obtain⟨j,hj⟩:=Int.eq_ofNat_of_zero_le h0;rw[hj]at hc⊢;have LZ:j<c.b.length:=by omega
 rw[DB LZ,XA];refine .some' ⟨(zcN _).1,(zcN _).2,?_,?_,h2⟩
 ·show 0≤fA .i64 (j:Int) 1
  rw[fA,OG j (by rw[dD];omega)];omega
 ·show fA .i64 (j:Int) 1≤(c.b.length:Int)
  rw[fA,OG j (by rw[dD];omega)];omega
def zI{a n:Int}(ha:0≤a)(hn:0<n):0≤xA .i64 a n∧xA .i64 a n<n:=by
 unfold xA;rw[Int.tmod_eq_emod_of_nonneg ha];exact⟨Int.emod_nonneg _ (by omega),Int.emod_lt_of_pos _ hn⟩
def zfN{c:As}{n:Int}(h:zB c):Ok (Az c n) λr=>0≤r.1∧(0<n→r.1<n)∧(n≤0→r.1=0)∧zB r.2:=by
 simp only[Az];refine .cond' (λhn=>?_) λhn=>?_
 ·have hn:n≤0:=by simpa using hn
  exact .some' ⟨Int.le_refl _,λh=>by omega,λ_=>rfl,h⟩
 ·have hn:0<n:=by simpa using hn
  have N1:(n==0)=false:=by simp;omega
  refine .cond' (λ_=>?_) λ_=>?_
  ·refine(nV h).bind λr hr=>?_;rw[N1];have:=zI hr.1 hn;exact .some' ⟨this.1,λ_=>this.2,λh=>by omega,hr.2.2⟩
  ·refine(nV h).bind λr hr=>(nV hr.2.2).bind λr2 jW=>(nV jW.2.2).bind λr3 sW=>?_;rw[N1];have h1:GB .i64 r.1 65536=r.1 *65536:=FB (by omega) (by omega);have h2:GB .i64 r2.1 256=r2.1 *256:=FB (by omega) (by omega);have h3:fA .i64 (GB .i64 r.1 65536) (GB .i64 r2.1 256)=r.1 *65536+r2.1 *256:=by rw[h1,h2];exact FB (by omega) (by omega)
   have h4:fA .i64 (fA .i64 (GB .i64 r.1 65536) (GB .i64 r2.1 256)) r3.1=r.1 *65536+r2.1 *256+r3.1:=by rw[h3];exact FB (by omega) (by omega)
   simp only[cond_false,h4];have:=zI (a:=r.1 *65536+r2.1 *256+r3.1) (by omega) hn;exact .some' ⟨this.1,λ_=>this.2,λh=>by omega,sW.2.2⟩
def zvJ{c:As}{l:List Int}(h:zB c)(hl:l≠[]):Ok (Db c l) λr=>r.1∈l∧zB r.2:=by
 simp only[Db];have h0:0<l.length:=List.length_pos_iff.2 hl;refine(zfN h).bind λr hr=>?_;obtain⟨j,hj⟩:=Int.eq_ofNat_of_zero_le hr.1;have:=hr.2.1 (by omega);rw[hj]at this⊢;have LZ:j<l.length:=by omega
 rw[DB LZ,XA];exact .some' ⟨List.getElem_mem LZ,hr.2.2.2⟩
def zsx{c:As}{n:Int}(h:zB c)(hn:n≤1048576):Ok (Bt c n) λr=>r.1.length=n.toNat∧zB r.2:=by
 have hL:=yB;simp only[Bt,aA];refine Ok.loop (λx:List UInt8×Int×As=>x.2.1=(x.1.length:Int)∧x.1.length≤n.toNat∧zB x.2.2) (λx=>n.toNat - x.1.length) (λx hx k hk=>?_) ⟨rfl,Nat.zero_le _,h⟩ (by show n.toNat - 0<_;omega);obtain⟨l,i,d⟩:=x;obtain⟨hi,h1,h2⟩:=hx;simp only at hi h1 h2 hk⊢;subst hi;refine .cond' (λhc=>?_) λhc=>?_
 ·have hc:(l.length:Int)<n:=by simpa using hc
  refine(nV h2).bind λr hr=>?_;rw[decide_eq_true (by simp;omega),cond_true];have:fA .i64 (l.length:Int) 1=((l.length+1:Nat):Int):=OG _ (by rw[dD];omega);rw[this];exact hk _ ⟨by simp,by simp;omega,hr.2.2⟩ (by simp;omega)
 ·have hc:¬(l.length:Int)<n:=by simpa using hc
  exact .some' ⟨by show l.length=_;omega,h2⟩
def zcF.ok{x}(_:vA [.sl .byte] x):Ql x=some (KT x):=rfl
end Go.D
namespace Go.D
def zlC{i n:Nat}(h:i<n):decide ((i:Int)<(n:Int))=true:=by simpa using h
def zvV(n:Nat):decide ((n:Int)<(n:Int))=false:=by simp
end Go.D
namespace Go.D
open Option renaming bind→ob
def lN{n:Nat}{α:Type}(h:n≤bA):decide (([]:List α).length+n≤bA)=true:=by simpa using h
def zcM{β:Type}{a:List UInt8}{f:List UInt8→Option β}(h:wt a≤bA):ob (yA a) f=f a:=PA h
def fV.ok{x}(_:vA [.v .Dice] x){r}:VD x=some r→Np x=some r:=QA λh=>by
 rw[RM]at h;simp only[Np,aA,uC];rw[zcM h];cases h1:YB x
 ·rfl
 ·simp only[Bool.not_true,cond_false,Bool.false_or];cases(Ar.N x==10000)<;>rfl
def vU.ok{x}(_:vA [.v .Dice] x){r}:mK x=some r→Nt x=some r:=QA λh=>by
 rw[RM,FA]at h;simp only[Nt];rw[lN h];rfl
def UU.ok{x}(_:vA [.v .Dice] x){r}:VD x=some r→Nu x=some r:=QA λh=>by
 simp only[Nu,aA,uC];rw[mK,PA h];cases h1:YB x
 ·rfl
 ·simp only[Bool.not_true,cond_false,Bool.false_or];cases(Ar.N x==10000)<;>rfl
def nU.ok{x}(_:vA [.sl .bs] x){r}:tS x=some r→Nq x=some r:=QA λh=>by
 have hl:=QB (α:=List UInt8) x;simp only[Nq,aA]
 have key:=OH (f:=λ(x3:(List (List UInt8))×Int) k4=>cond (x3.2<(List.length (α:=List UInt8) x:Int)) (ob (jA (α:=List UInt8) x x3.2) λe5=>ob (yA e5) λr6=>
   cond (x3.1.length+[r6].length≤bA) (k4 ((x3.1++[r6]),(fA .i64 x3.2 1))) none) (some x3.1)) (g:=λ_=>some x)
  (fun y:List (List UInt8) × Int=>y.2=(y.1.length:Int)∧y.1=List.take (α:=List UInt8) y.1.length x) (fun y=>List.length (α:=List UInt8) x - y.1.length) (fun y hy k hk=>by
   obtain⟨o,i⟩:=y;obtain⟨h1,h2⟩:=hy;simp only at h1 h2 hk⊢;subst h1
   by_cases hi:o.length<List.length (α:=List UInt8) x
   ·have hw:=fG (l:=x) hi;rw[zlC hi,cond_true,DB hi,XA,zcM (by omega),decide_eq_true (by simp;omega),cond_true];rw[fA,OG _ (by rw[dD];have:=yB;omega)];refine hk _ ⟨by simp,?_⟩ (by simp;omega);simp only[List.length_append,List.length_cons,List.length_nil];rw[CM (l:=x) hi, ←h2]
   ·have ho:o=x:=by rw[h2,List.take_of_length_le (by omega)]
    rw[decide_eq_false (by omega),cond_false,ho]) (x:=([],(0:Int))) ⟨rfl,rfl⟩ (by show List.length (α:=List UInt8) x - 0<2^64;have:=yB;omega)
 exact key
def KU{k info:List UInt8}(hk:k.length≤1048576)(hi:info.length≤100):∀j,(RH k info (j+1)).length=32
 | 0=>wI hk (by simp[RH];omega)
 | j+1=>wI hk (by rw[List.length_append,List.length_append,KU hk hi j];simp;omega)
def zjo{k info:List UInt8}(hk:k.length≤1048576)(hi:info.length≤100)(j:Nat):(RH k info j).length≤32:=by
 cases j with
 | zero=>exact Nat.zero_le _
 | succ j=>rw[KU hk hi];exact Nat.le_refl _
def fO{k info:List UInt8}(hk:k.length≤1048576)(hi:info.length≤100):∀j,(DI k info j).length=32 *j
 | 0=>rfl
 | j+1=>by rw[DI,List.length_append,fO hk hi j,KU hk hi];omega
def zkH{k info:List UInt8}(hk:k.length≤1048576)(hi:info.length≤100)(n:Nat)(hn:n≤8160){R:Type}(z:List UInt8→Option R)
  {f:List UInt8×List UInt8×Int→(List UInt8×List UInt8×Int→Option R)→Option R}
  (hf:∀(j:Nat) (K:List UInt8×List UInt8×Int→Option R),32 *j<n→f (DI k info j,RH k info j,((j+1:Nat):Int)) K=K (DI k info (j+1),RH k info (j+1),((j+2:Nat):Int)))
  (hz:∀(j:Nat) (K:List UInt8×List UInt8×Int→Option R),n≤32 *j→f (DI k info j,RH k info j,((j+1:Nat):Int)) K=z (DI k info j)):
  uA FU f ([],[],(1:Int))=z (DI k info ((n+31) / 32)):=by
 have key:=OH (f:=f) (g:=λ_=>z (DI k info ((n+31) / 32))) (λx=>∃j,x=(DI k info j,RH k info j,((j+1:Nat):Int))∧j≤(n+31) / 32) (λx=>10000 - x.1.length) (λx hx K hK=>by
  obtain⟨j,rfl,hj⟩:=hx
  by_cases hc:32 *j<n
  ·rw[hf j K hc];refine hK _ ⟨j+1,rfl,by omega⟩ ?_;simp only[fO hk hi];omega
  ·rw[hz j K (by omega)];have:j=(n+31) / 32:=by omega
   rw[this]) (x:=([],[],(1:Int))) ⟨0,rfl,Nat.zero_le _⟩ (by show 10000 - 0<2^64;omega)
 exact key
def zsc(a b c:List UInt8):([a,b,c]:List (List UInt8)).flatten=a++b++c:=by simp
def zuq(a b c:List UInt8):wt ([a,b,c]:List (List UInt8))=a.length+b.length+c.length+3:=by
 rw[TD,TD,TD,SG,FA,FA,FA];omega
def NR{k info:List UInt8}{n:Int}(h:(!eA n 0 8160||decide ((info.length:Int)>100)||decide ((k.length:Int)>1048576))=true):jH k info n=([],false):=by rw[jH,h];rfl
def ze7{k info:List UInt8}{n:Int}(h:(!eA n 0 8160||decide ((info.length:Int)>100)||decide ((k.length:Int)>1048576))=false):jH k info n=((DI k info ((n.toNat+31) / 32)).take n.toNat,true):=by rw[jH,h];rfl
def zoP(k info:List UInt8)(n:Int):Mn k info n=some (jH k info n):=by
 have hL:=yB;simp only[Mn,aA];cases h1:eA n 0 8160
 ·rw[NR (by rw[h1];rfl)];rfl
 cases h2:decide ((info.length:Int)>100)
 case true=>rw[NR (by rw[h1,h2];rfl)];rfl
 cases h3:decide ((k.length:Int)>1048576)
 case true=>rw[NR (by rw[h1,h2,h3];rfl)];rfl
 rw[ze7 (by rw[h1,h2,h3];rfl)];have h1:=rD.1 h1;have h2:info.length≤100:=by have:=of_decide_eq_false h2;omega
 have h3:k.length≤1048576:=by have:=of_decide_eq_false h3;omega
 obtain⟨m,rfl⟩:=Int.eq_ofNat_of_zero_le h1.1;simp only[Bool.not_true,cond_false,Int.toNat_natCast];refine zkH (R:=List UInt8×Bool) h3 h2 m (by omega) (λo=>some (o.take m,true)) (λj K hj=>?_) (λj K hj=>?_)
 ·have fW:=zjo h3 h2 j;rw[fO h3 h2,decide_eq_true (by omega),cond_true,aD,PA (by rw[zuq];simp;omega),zsc];have:TC k (RH k info j++info++[UInt8.ofNat (IntKind.wrap .u8 ((j+1:Nat):Int)).toNat])=RH k info (j+1):=rfl;rw[this,KU h3 h2,decide_eq_true (by omega),cond_true,fA,OG (j+1) (by rw[dD];omega)];rfl
 ·rw[fO h3 h2,decide_eq_false (by omega),cond_false,decide_eq_true (by omega),decide_eq_true (by omega),decide_eq_true (by omega)];simp only[Bool.and_self,cond_true,List.drop_zero,Int.sub_zero,Int.toNat_natCast];rw[zcM (by rw[FA,List.length_take];omega)]
def tR.ok{x}(_:vA [.sl .byte, .sl .byte, .v .int] x):Mn x.1 x.2.1 x.2.2=some (jH x.1 x.2.1 x.2.2):=zoP x.1 x.2.1 x.2.2
def zoN(k info:List UInt8)(n:Int):Mo k info n=some (jH k info n):=by
 have hL:=yB;simp only[Mo,aA];cases h1:eA n 0 8160
 ·rw[NR (by rw[h1];rfl)];rfl
 cases h2:decide ((info.length:Int)>100)
 case true=>rw[NR (by rw[h1,h2];rfl)];rfl
 cases h3:decide ((k.length:Int)>1048576)
 case true=>rw[NR (by rw[h1,h2,h3];rfl)];rfl
 rw[ze7 (by rw[h1,h2,h3];rfl)];have h1:=rD.1 h1;have h2:info.length≤100:=by have:=of_decide_eq_false h2;omega
 have h3:k.length≤1048576:=by have:=of_decide_eq_false h3;omega
 obtain⟨m,rfl⟩:=Int.eq_ofNat_of_zero_le h1.1;simp only[Bool.not_true,cond_false,Int.toNat_natCast];refine zkH (R:=List UInt8×Bool) h3 h2 m (by omega) (λo=>some (o.take m,true)) (λj K hj=>?_) (λj K hj=>?_)
 ·have fW:=zjo h3 h2 j;simp only;rw[fO h3 h2,decide_eq_true (by omega),cond_true,lN (by omega),cond_true,List.nil_append,decide_eq_true (by omega),cond_true,decide_eq_true (by simp;omega),cond_true];have:TC k (RH k info j++info++[UInt8.ofNat (IntKind.wrap .u8 ((j+1:Nat):Int)).toNat])=RH k info (j+1):=rfl;rw[this,KU h3 h2,decide_eq_true (by omega),cond_true,fA,OG (j+1) (by rw[dD];omega)];rfl
 ·rw[fO h3 h2,decide_eq_false (by omega),cond_false,decide_eq_true (by omega),decide_eq_true (by omega),decide_eq_true (by omega)];simp only[Bool.and_self,cond_true,List.drop_zero,Int.sub_zero,Int.toNat_natCast];rw[lN (by rw[List.length_take];omega)];rfl
def HR.ok{x}(_:vA [.sl .byte, .sl .byte, .v .int] x):Mo x.1 x.2.1 x.2.2=some (jH x.1 x.2.1 x.2.2):=zoN x.1 x.2.1 x.2.2
def MU.ok{x}(_:vA [.sl .byte, .v .str] x){r}:LE x.1 x.2=some r→Nr x.1 x.2=some r:=QA λh=>by
 rw[FA]at h;simp only[Nr,Nat.ble_eq_true_of_le h,cond_true];rfl
def HU.ok{x}(_:vA [.sl .byte, .v .str] x){r}:LE x.1 x.2=some r→Nv x.1 x.2=some r:=QA λh=>by
 rw[FA]at h;simp only[Nv,Nat.ble_eq_true_of_le h,cond_true];rfl
def zsn{k l:List UInt8}(hk:k.length≤1048576)(hl:l.length≤100):(fN k l).length=32:=by
 rw[fN,ze7 (by rw[show eA 32 0 8160=true from rfl,decide_eq_false (by omega),decide_eq_false (by omega)];rfl)];show(List.take 32 _).length=32
 rw[List.length_take,fO hk hl];rfl
def GM(k l:List UInt8):(fN k l).length≤32:=by
 rw[fN,jH];cases(!eA 32 0 8160||decide ((l.length:Int)>100)||decide ((k.length:Int)>1048576))
 ·show(List.take 32 _).length≤32
  rw[List.length_take];omega
 ·exact Nat.zero_le _
def zxW:wt ([106,97,114]:List UInt8)≤bA:=by rw[FA,yB];decide
def LU.ok{x}(_:vA [.sl .byte] x):Nw x=some (TH x):=by
 simp only[Nw,TH,mA];rw[LE,PA zxW,bne];cases((List.length (α:=UInt8) x:Int)==12)<;>rfl
def CU.ok{x}(_:vA [.v .int] x):Nx x=some (OE x):=by
 simp only[Nx,OE];cases eA x 1 6<;>rfl
def zcr(b:List UInt8):(TH b).Secret.length≤32:=by
 rw[TH];cases mA b
 ·exact Nat.zero_le _
 ·exact GM _ _
def zje(d:Ar):(uC d).1.Seed=d.Seed:=by
 rw[uC];cases(!YB d||d.N==10000)<;>rfl
def zfx(n:Int):wt (OE n)=0:=by
 rw[OE];cases eA n 1 6<;>rfl
def zi8(p:List (List UInt8))(s:List UInt8)(m:Int):wt (fD p s m)≤wt p+wt s+32:=by
 rw[lO,zam,RM];have h1:=zcr (uC ⟨s,0⟩).2;have h2:=zje ⟨s,0⟩;have h3:=zfx m;show wt p+wt (TH (uC ⟨s,0⟩).2).Secret+wt (uC ⟨s,0⟩).1.Seed+wt (OE m)+0≤_
 rw[h2,h3,FA];show wt p+_+wt s+0+0≤_;omega
def XT.ok{x}(_:vA [.sl .bs, .sl .byte, .v .int] x){r}:zbJ x.1 x.2.1 x.2.2=some r→Ny x.1 x.2.1 x.2.2=some r:=QA λh=>by
 obtain⟨p,s,m⟩:=x;simp only at h;have hL:=yB;have hw:=zi8 p s m;have hl:=QB p;simp only[Ny,oS];rw[VD,PA (by rw[RM];show wt s≤bA;omega)];simp only[aA]
 have key:=zla (σ:=Ac) (R:=Ac) p.length (by rw[dD];omega) (f:=λ(x6:Int×Ac) k7=>cond (x6.1<(p.length:Int)) (ob (jA p x6.1) λe8=>
   cond (([]:List UInt8).length+e8.length≤bA) (cond (x6.2.Psks.length+[[]++e8].length≤bA) (k7 ((fA .i64 x6.1 1),(⟨x6.2.Psks++[[]++e8],x6.2.J,x6.2.D,x6.2.T,x6.2.Cr⟩:Ac))) none) none)
   (ob (xC x6.2) λr9=>cond (!r9) (some (⟨[],(⟨[]⟩:Ay),(⟨[],0⟩:Ar),(⟨0,[]⟩:Ao),[]⟩:Ac)) (some x6.2)))
  (g:=λ_ _=>some (bif wB (fD p s m)then fD p s m else zc1)) (λi t=>t=⟨p.take i,(fD p s m).J,(fD p s m).D,(fD p s m).T,[]⟩)
  (fun i t k hi ht hk=>by
   subst ht;have hwg:=fG hi;rw[FA]at hwg;simp only;rw[zlC hi,cond_true,DB hi,XA,lN (by omega),cond_true,decide_eq_true (by simp;omega),cond_true,List.nil_append, ←CM p hi];exact hk _ rfl)
  (fun t k ht=>by
   subst ht;simp only[List.take_length];rw[zvV,cond_false];show ob (xC (fD p s m)) _=_
   rw[xC,PA (by omega)];cases wB (fD p s m)<;>rfl) 0 ⟨[],(fD p s m).J,(fD p s m).D,(fD p s m).T,[]⟩ (Nat.zero_le _) rfl
 exact key
def ziL(id:Int)(psk:List UInt8)(a:Af):fB (rK id psk a)=(eA id 1 9&&JC psk&&EA a):=by
 show(eA id 1 9&&JC psk&&EA a&&true)=_
 rw[Bool.and_true]
def bU.ok{x}(_:vA [.v .int, .sl .byte, .v .Addr] x){r}:fK x.1 x.2.1 x.2.2=some r→Oa x.1 x.2.1 x.2.2=some r:=QA λh=>by
 obtain⟨id,psk,a⟩:=x;simp only at h;rw[FA]at h;simp only[Oa,jC,aA];rw[lN h];cases eA id 1 9
 ·rfl
 cases JC psk
 ·rfl
 cases EA a<;>rfl
def lU.ok{x}(_:vA [.sl .byte] x){r}:OD x=some r→Ns x=some r:=QA λh=>by
 simp only[Ns];rw[zcM h];rfl
def ZT.ok{x}(_:vA [.sl .byte] x){r}:OD x=some r→Ob x=some r:=QA λh=>by
 rw[FA]at h;simp only[Ob];rw[lN h];rfl
def wU.ok{x}(_:vA [.sl .byte] x){r}:zcT x=some r→Nz x=some r:=QA λh=>by
 rw[FA]at h;have hL:=yB;simp only[Nz,aA,List.nil_append];rw[lN h,cond_true]
 by_cases hc:31<List.length (α:=UInt8) x
 ·rw[decide_eq_true (by omega),cond_true,decide_eq_true (by omega),decide_eq_true (by omega),decide_eq_true (by omega)];simp only[Bool.and_self,cond_true];rw[decide_eq_true (by simp;omega)];rfl
 ·rw[decide_eq_false (by omega),cond_false,decide_eq_true (by simp;omega),cond_true,PL,List.take_of_length_le (by omega)];rfl
def zkV(a b:List UInt8):wt ([a,b]:List (List UInt8))=wt a+wt b+2:=by rw[TD,TD,SG];omega
def zsL{s a b:List UInt8}{m:Int}(h:wB (fD [a,b] s m)=true):1≤s.length∧s.length≤32:=by
 simp only[wB,Bool.and_eq_true]at h;have h1:=h.1.1.1.1.2;rw[show(fD [a,b] s m).D=(uC ⟨s,0⟩).1 from rfl,YB,Bool.and_eq_true,zje]at h1;have h2:1≤(s.length:Int)∧(s.length:Int)≤32:=rD.1 h1.1;exact⟨by omega,by omega⟩
def zcn(s:List UInt8)(n:Int):(HE s n).length≤12:=by
 rw[HE];cases eA (s.length:Int) 1 32&&eA n 0 10000
 ·exact Nat.zero_le _
 ·simp only[cond_true,List.length_take];omega
def jU.ok{x}(_:vA [.sl .byte, .sl .byte, .sl .byte, .v .int] x){r}:zfF x.1 x.2.1 x.2.2.1 x.2.2.2=some r→Oc x.1 x.2.1 x.2.2.1 x.2.2.2=some r:=QA λh=>by
 obtain⟨s,a,b,m⟩:=x;simp only at h;have hL:=yB;have hw:=zi8 [a,b] s m;rw[zkV]at hw;simp only[Oc,kV];rw[zbJ,PA (by rw[zkV];omega)];cases hs:wB (fD [a,b] s m)
 ·have e:oS [a,b] s m=zc1:=by rw[oS,hs];rfl
  rw[e,xC,PA (by show 0≤_;omega)];rfl
 have e:oS [a,b] s m=fD [a,b] s m:=by rw[oS,hs];rfl
 have hj:((fD [a,b] s m).J).Secret.length≤32:=zcr _;have hdl:=zcn s 0;rw[e,xC,PA (by omega),hs];simp only[Bool.not_true,cond_false,cond_true];rw[zcT,PA (by omega),fK,PA (by omega),fK,PA (by omega),OD,PA (by rw[FA];omega),lN (by omega)];rfl
end Go.D
namespace Go.D
def zrT{s a b:List UInt8}{m:Int}(h:wB (fD [a,b] s m)=true):NA (wV s a b m)=true∧jC 1 a (vC 1)=rK 1 a (vC 1)∧jC 2 b (vC 2)=rK 2 b (vC 2)∧
  (fD [a,b] s m).J.Secret.length=32∧(fD [a,b] s m).T.L=[]:=by
 have hd:=zsL h;have hs:=h;simp only[wB,Bool.and_eq_true]at h
 have hj:(fD [a,b] s m).J.Secret.length=32:=by
  have:=h.1.1.1.1.1.2;simp only[gF,beq_iff_eq]at this;omega
 have hp:=h.1.2
 have OZ:JC a=true∧JC b=true:=by
  have:(fD [a,b] s m).Psks=[a,b]:=rfl;rw[this]at hp;simpa using hp
 have ha:jC 1 a (vC 1)=rK 1 a (vC 1):=by rw[jC,OZ.1];rfl
 have hb:jC 2 b (vC 2)=rK 2 b (vC 2):=by rw[jC,OZ.2];rfl
 have hdl:=zcn s 0
 have hT:(fD [a,b] s m).T.L=[]:=by
  show(OE m).L=[]
  rw[OE];cases eA m 1 6<;>rfl
 refine⟨?_,ha,hb,hj,hT⟩
 have JY:gC (VE (HE s 0))=true:=by
  have:(HE s 0).length=12:=by
   rw[HE,show eA (s.length:Int) 1 32=true from rD.2 ⟨by omega,by omega⟩];show(List.take 12 _).length=12
   rw[List.length_take,wI (by omega) (by rw[zcH];omega)];rfl
  show(eA 14 1 17&&eA 0 0 9&&eA 0 0 1&&RC [] 12&&RC [] 12&&eA 0 0 4294967295&&eA 0 0 281474976710655&&decide (((HE s 0).length:Int)≤100)&&RC [] 32&&EA ⟨0,0⟩&&eA 0 0 1000000)=true
  rw[this];rfl
 have K4:gC (zfX (fD [a,b] s m).J.Secret)=true:=by
  show(eA 12 1 17&&eA 0 0 9&&eA 0 0 1&&RC [] 12&&RC [] 12&&eA 0 0 4294967295&&eA 0 0 281474976710655&&decide ((([]:List UInt8).length:Int)≤100)&&ND ((fD [a,b] s m).J.Secret.length:Int) 32&&EA ⟨0,0⟩&&eA 0 0 1000000)=true
  rw[hj];rfl
 have b7:YB ⟨PL s,0⟩=true:=by
  have:1≤(PL s).length∧(PL s).length≤32:=by rw[PL,List.length_append,List.length_take];simp;omega
  show(eA ((PL s).length:Int) 1 32&&eA 0 0 10000)=true
  rw[rD.2 ⟨by omega,by omega⟩];rfl
 have hcb:qB 2 (pI (wV s a b m))=false:=by
  refine uG.2 λi hi=>?_
  match i,hi with
  | 0,_=>
   show(!fB (jC 1 a (vC 1))||(jC 1 a (vC 1)).Id !=((0+1:Nat):Int)||!((jC 1 a (vC 1)).Psk==a))=false
   rw[ha,ziL,OZ.1];simp[rK];decide
  | 1,_=>
   show(!fB (jC 2 b (vC 2))||(jC 2 b (vC 2)).Id !=((1+1:Nat):Int)||!((jC 2 b (vC 2)).Psk==b))=false
   rw[hb,ziL,OZ.2];simp[rK];decide
 show(eA 0 0 1000000&&true&&wB (fD [a,b] s m)&&true&&YB ⟨PL s,0⟩&&true&&true&&!(qB 2 (pI (wV s a b m)))&&true&&!(!gC (VE (HE s 0))||(!gC (zfX (fD [a,b] s m).J.Secret)||false)))=true
 rw[hs,b7,hcb,JY,K4];rfl
end Go.D
