/-
 Sizes of the program's data.
-/
import Derived.Test.YtfipojlaeaeedaaGreatN6
set_option linter.all false
namespace Go.D
end Go.D
namespace Go.D
noncomputable section
def big(code:List UInt8):Bool:=decide ((code.length:Int)>1048576)
def MH(d:Ar):Option Ar:=pt (wt d≤bA) d
def VE(d:Ar):Ar×List UInt8:=bif !zC d||d.N==10000 then(d,[])else(⟨d.Seed,iA .i64 d.N 1⟩,aC d.Seed d.N)
def iI(d:Ar):Option (Ar×List UInt8):=pt (wt d≤bA) (VE d)
def EG(k info:List UInt8):Nat→List UInt8
 | 0=>[]
 | j+1=>YC k (EG k info j++info++[UInt8.ofNat (IntKind.wrap .u8 ((j+1:Nat):Int)).toNat])
def hG(k info:List UInt8):Nat→List UInt8
 | 0=>[]
 | j+1=>hG k info j++EG k info (j+1)
def mH(k info:List UInt8)(n:Int):List UInt8×Bool:=
 bif !gA n 0 8160||decide ((info.length:Int)>100)||decide ((k.length:Int)>1048576)then([],false)else((hG k info ((n.toNat+31) / 32)).take n.toNat,true)
def gK(k label:List UInt8):List UInt8:=(mH k label 32).1
def BG(k label:List UInt8):Option (List UInt8):=pt (wt label≤bA) (gK k label)
def jG(b:List UInt8):Az:=bif IB b then⟨gK b [106,97,114]⟩else⟨[]⟩
def PE(n:Int):Am:=bif gA n 1 6 then⟨n,[]⟩else⟨0,[]⟩
def UT:Ac:=⟨[],⟨[]⟩,⟨[],0⟩,⟨0,[]⟩,[]⟩
def SB(psks:List (List UInt8))(seed:List UInt8)(most:Int):Ac:=⟨psks,jG (VE ⟨seed,0⟩).2,(VE ⟨seed,0⟩).1,PE most,[]⟩
def FM(psks:List (List UInt8))(seed:List UInt8)(most:Int):Ac:=bif bD (SB psks seed most)then SB psks seed most else UT
def iS(psks:List (List UInt8))(seed:List UInt8)(most:Int):Option Ac:=pt (wt psks+wt seed+1000≤bA) (FM psks seed most)
def aK:Ab:=⟨0,0,[],[],0,[],[],0,0,[],[]⟩
def lK:Ak:=⟨0,[],ZU,ZU,false,0,[]⟩
def zfD:As:=⟨false,0,0,0⟩
def GF(id:Int)(psk:List UInt8)(a:Ae):Ad:=⟨id,psk,a,0,[],aK,lK,zfD,zfD,0⟩
def FC(id:Int)(psk:List UInt8)(a:Ae):Ad:=bif gA id 1 9&&mC psk&&bB a then GF id psk a else GF 0 [] ⟨0,0⟩
def AI(id:Int)(psk:List UInt8)(a:Ae):Option Ad:=pt (wt psk≤bA) (FC id psk a)
def KE(b:List UInt8):Af:=⟨14,0,0,[],[],0,0,b,[],⟨0,0⟩,0⟩
def pP(k:List UInt8):Af:=⟨12,0,0,[],[],0,0,[],k,⟨0,0⟩,0⟩
def FH(b:List UInt8):Option Af:=pt (wt b≤bA) (KE b)
def iG(s:List UInt8):List UInt8:=s.take 31++[99]
def MT(s:List UInt8):Option (List UInt8):=pt (wt s≤bA) (iG s)
def zm6:Aa:=⟨0,[],UT,⟨[],0⟩,[],[],[]⟩
def iU(s a b:List UInt8)(most:Int):Aa:=⟨0,[FC 1 a (uB 1),FC 2 b (uB 2)],SB [a,b] s most,⟨iG s,0⟩,[],[],[KE (aC s 0),pP (SB [a,b] s most).J.Secret]⟩
def mP(s a b:List UInt8)(most:Int):Aa:=bif bD (SB [a,b] s most)then iU s a b most else zm6
def WS(s a b:List UInt8)(most:Int):Option Aa:=pt (wt a+wt b+wt s+2000≤bA) (mP s a b most)
end
end Go.D
namespace Go.D
open Option renaming bind→ob
noncomputable section
def Mg(a0:List UInt8):=
 some (decide ((a0.length:Int)>1048576))
def Bi(a0:List UInt8):=
 aA (λ(y1:Int)=>
 some (⟨a0,0,y1⟩:Ah)) λk2=>
 uA FU (λ(x3:Int×Int) k4=>
 aA (λy5=>
 cond (y5)
 (ob (lA a0 x3.2) λe7=>
 let x8:Int:=IntKind.wrap .i64 ((e7.toNat:Nat):Int);let x9:Int:=iA .i64 (iA .i64 (BB .i64 x3.1 137) x8) 11
 k4 ((jB .i64 x9 1073741823),(iA .i64 x3.2 1)))
 (k2 x3.1)) λk6=>
 cond (decide (x3.2<(a0.length:Int)))
 (k6 (decide (x3.2<4000)))
 (k6 false)) ((iA .i64 127812 (a0.length:Int)),0)
def Bf(a0:Ah):=
 let x1:Int:=iA .i64 (BB .i64 a0.h 6364136223846793005) 1442695040888963407;let x2:Int:=kB .i64 (zD .i64 x1 33) (zD .i64 x1 47)
 aA (λ(y3:Int×Ah)=>
 some (y3.1,y3.2)) λk4=>
 cond (decide (a0.i<(a0.b.length:Int)))
 (ob (lA a0.b a0.i) λe5=>
 let x6:Int:=IntKind.wrap .i64 ((e5.toNat:Nat):Int);let x7:Int:=jB .i64 (iA .i64 (jB .i64 x2 255) x6) 255
 k4 (x7,(⟨a0.b,iA .i64 a0.i 1,x1⟩:Ah)))
 (k4 ((jB .i64 x2 255),(⟨a0.b,a0.i,x1⟩:Ah)))
def Ap(a0:Ah)(a1:Int):=
 cond (decide (a1≤0))
 (some (0,a0))
 (cond (decide (a1≤256))
 (ob (Bf a0) λr1=>
 cond (a1==0) none (some (DA .i64 r1.1 a1,r1.2)))
 (ob (Bf a0) λr2=>
 ob (Bf r2.2) λr3=>
 ob (Bf r3.2) λr4=>
 let x5:Int:=iA .i64 (BB .i64 r2.1 65536) (BB .i64 r3.1 256)
 cond (a1==0) none (some (DA .i64 (iA .i64 x5 r4.1) a1,r4.2))))
def Ax(a0:Ah)(a1:List Int):=
 ob (Ap a0 (a1.length:Int)) λr1=>
 ob (lA a1 r1.1) λe2=>
 some (e2,r1.2)
def Bb(a0:Ah)(a1:Int):=
 aA (λ(y1:(List UInt8)×Ah)=>
 some (y1.1,y1.2)) λk2=>
 uA FU (λ(x3:(List UInt8)×Int×Ah) k4=>
 cond (decide (x3.2.1<a1))
 (ob (Bf x3.2.2) λr5=>
 cond (decide (x3.1.length+[UInt8.ofNat (IntKind.wrap .u8 r5.1:Int).toNat].length≤bA)) (k4 ((x3.1++[UInt8.ofNat (IntKind.wrap .u8 r5.1:Int).toNat]),(iA .i64 x3.2.1 1),r5.2)) none)
 (k2 (x3.1,x3.2.2))) ([],0,a0)
def Kd(a0:Ar):=
 cond (decide (([]:List UInt8).length+a0.Seed.length≤bA)) (some (⟨[]++a0.Seed,a0.N⟩:Ar)) none
def Ke(a0:Ar):=
 ob (MH a0) λr1=>
 aA (λy2=>
 cond (y2)
 (some (r1,[]))
 (let r4:(List UInt8):=aC a0.Seed a0.N
 some ((⟨r1.Seed,iA .i64 a0.N 1⟩:Ar),r4))) λk3=>
 cond (!(zC a0))
 (k3 true)
 (k3 (a0.N==10000))
def Gs(a0:List UInt8)(a1:List UInt8)(a2:Int):=
 aA (λy1=>
 cond (y1)
 (some ([],false))
 (aA (λ(y3:(List UInt8)×(List UInt8))=>
 cond (decide (0≤(0:Int))&&decide ((0:Int)≤a2)&&decide (a2≤(y3.1.length:Int))) (cond (decide (([]:List UInt8).length+(List.take ((a2 - 0).toNat) (List.drop 0 y3.1)).length≤bA)) (some ([]++(List.take ((a2 - 0).toNat) (List.drop 0 y3.1)),true)) none) none) λk4=>
 uA FU (λ(x5:(List UInt8)×(List UInt8)×Int) k6=>
 cond (decide ((x5.1.length:Int)<a2))
 (cond (decide (([]:List UInt8).length+x5.2.1.length≤bA)) (cond (decide (([]++x5.2.1).length+a1.length≤bA)) (cond (decide ((([]++x5.2.1)++a1).length+[UInt8.ofNat (IntKind.wrap .u8 x5.2.2:Int).toNat].length≤bA)) (let x7:List UInt8:=(([]++x5.2.1)++a1)++[UInt8.ofNat (IntKind.wrap .u8 x5.2.2:Int).toNat]
 let r8:(List UInt8):=YC a0 x7
 cond (decide (x5.1.length+r8.length≤bA)) (k6 ((x5.1++r8),r8,(iA .i64 x5.2.2 1))) none) none) none) none)
 (k4 (x5.1,x5.2.1))) ([],[],1))) λk2=>
 cond (!(gA a2 0 8160))
 (k2 true)
 (cond (decide ((a1.length:Int)>100))
 (k2 true)
 (k2 (decide ((a0.length:Int)>1048576))))
def Kf(a0:List UInt8)(a1:List UInt8):=
 cond (Nat.ble a1.length bA) (let r1:(List UInt8)×Bool:=mH a0 a1 32
 some r1.1) none
def Kg(a0:List UInt8):=
 cond ((a0.length:Int) !=12)
 (some (⟨[]⟩:Az))
 (ob (BG a0 [106,97,114]) λr1=>
 some (⟨r1⟩:Az))
def Kh(a0:Int):=
 cond (!(gA a0 1 6))
 (some (⟨0,[]⟩:Am))
 (some (⟨a0,[]⟩:Am))
def Ki(a0:List (List UInt8))(a1:List UInt8)(a2:Int):=
 ob (iI (⟨a1,0⟩:Ar)) λr1=>
 let r2:Az:=jG r1.2;let r3:Am:=PE a2
 aA (λ(y4:Ac)=>
 ob (lD y4) λr9=>
 cond (!r9)
 (some (⟨[],(⟨[]⟩:Az),(⟨[],0⟩:Ar),(⟨0,[]⟩:Am),[]⟩:Ac))
 (some y4)) λk5=>
 uA FU (λ(x6:Int×Ac) k7=>
 cond (decide (x6.1<(a0.length:Int)))
 (ob (lA a0 x6.1) λe8=>
 cond (decide (([]:List UInt8).length+e8.length≤bA)) (cond (decide (x6.2.Psks.length+[[]++e8].length≤bA)) (k7 ((iA .i64 x6.1 1),(⟨x6.2.Psks++[[]++e8],x6.2.J,x6.2.D,x6.2.T,x6.2.Cr⟩:Ac))) none) none)
 (k5 x6.2)) (0,(⟨[],r2,r1.1,r3,[]⟩:Ac))
def Kj(a0:List UInt8):=
 cond (decide (([]:List UInt8).length+a0.length≤bA)) (aA (λ(y1:(List UInt8))=>
 cond (decide (y1.length+[UInt8.ofNat (99:Int).toNat].length≤bA)) (some (y1++[UInt8.ofNat (99:Int).toNat])) none) λk2=>
 cond (decide ((([]++a0).length:Int)>31))
 (cond (decide (0≤(0:Int))&&decide ((0:Int)≤31)&&decide (31≤(([]++a0).length:Int))) (k2 (List.take 31 ([]++a0))) none)
 (k2 ([]++a0))) none
def Kk(a0:Int)(a1:List UInt8)(a2:Ae):=
 aA (λy1=>
 cond (y1)
 (some (⟨0,[],(⟨0,0⟩:Ae),0,[],(⟨0,0,[],[],0,[],[],0,0,[],[]⟩:Ab),(⟨0,[],(⟨0,[],0,(⟨0,[]⟩:Ao)⟩:Av),(⟨0,[],0,(⟨0,[]⟩:Ao)⟩:Av),false,0,[]⟩:Ak),(⟨false,0,0,0⟩:As),(⟨false,0,0,0⟩:As),0⟩:Ad))
 (cond (decide (([]:List UInt8).length+a1.length≤bA)) (some (⟨a0,[]++a1,a2,0,[],(⟨0,0,[],[],0,[],[],0,0,[],[]⟩:Ab),(⟨0,[],(⟨0,[],0,(⟨0,[]⟩:Ao)⟩:Av),(⟨0,[],0,(⟨0,[]⟩:Ao)⟩:Av),false,0,[]⟩:Ak),(⟨false,0,0,0⟩:As),(⟨false,0,0,0⟩:As),0⟩:Ad)) none)) λk2=>
 cond (!(gA a0 1 9))
 (k2 true)
 (cond (!(mC a1))
 (k2 true)
 (k2 (!(bB a2))))
def Kl(a0:List UInt8):=
 cond (decide (([]:List UInt8).length+a0.length≤bA)) (some (⟨14,0,0,[],[],0,0,[]++a0,[],(⟨0,0⟩:Ae),0⟩:Af)) none
def Km(a0:List UInt8)(a1:List UInt8)(a2:List UInt8)(a3:Int):=
 ob (iS [a1,a2] a0 a3) λr1=>
 ob (lD r1) λr2=>
 cond (!r2)
 (some (⟨0,[],(⟨[],(⟨[]⟩:Az),(⟨[],0⟩:Ar),(⟨0,[]⟩:Am),[]⟩:Ac),(⟨[],0⟩:Ar),[],[],[]⟩:Aa))
 (ob (MT a0) λr3=>
 let r4:Ae:=uB 1
 ob (AI 1 a1 r4) λr5=>
 let r6:Ae:=uB 2
 ob (AI 2 a2 r6) λr7=>
 let r8:(List UInt8):=aC a0 0
 ob (FH r8) λr9=>
 cond (decide (([]:List UInt8).length+r1.J.Secret.length≤bA)) (let x10:List Af:=[r9,(⟨12,0,0,[],[],0,0,[],[]++r1.J.Secret,(⟨0,0⟩:Ae),0⟩:Af)]
 some (⟨0,[r5,r7],r1,(⟨r3,0⟩:Ar),[],[],x10⟩:Aa)) none)
end
end Go.D
namespace Go.D
end Go.D
namespace Go.D
def Ok{α:Type}(o:Option α)(P:α→Prop):Prop:=∃r,o=some r∧P r
def Ok.bind{α β:Type}{o:Option α}{P:α→Prop}{Q:β→Prop}{f:α→Option β}(h:Ok o P)(k:∀r,P r→Ok (f r) Q):Ok (Option.bind o f) Q:=by
 obtain⟨r,rfl,h⟩:=h;exact k r h
def Ok.some'{α:Type}{x:α}{P:α→Prop}(h:P x):Ok (some x) P:=⟨x,rfl,h⟩
def Ok.mono{α:Type}{o:Option α}{P Q:α→Prop}(h:Ok o P)(k:∀r,P r→Q r):Ok o Q:=by
 obtain⟨r,h1,h2⟩:=h;exact⟨r,h1,k r h2⟩
def Ok.cond'{α:Type}{b:Bool}{x y:Option α}{P:α→Prop}(h1:b=true→Ok x P)(h2:b=false→Ok y P):Ok (cond b x y) P:=by
 cases b
 ·exact h2 rfl
 ·exact h1 rfl
def Ok.loop{σ R:Type}{f:σ→(σ→Option R)→Option R}{P:R→Prop}(inv:σ→Prop)(μ:σ→Nat)
  (h:∀x,inv x→∀k:σ→Option R,(∀y,inv y→μ y<μ x→Ok (k y) P)→Ok (f x k) P) {x:σ} (hx:inv x) (hμ:μ x<2^64):Ok (uA FU f x) P:=by
 rw[zbL]
 have:∀(n:Nat) (x:σ),inv x→μ x<n→Ok (uA n f x) P:=by
  intro n;induction n with
  | zero=>intro x _ hn;omega
  | succ n ih=>intro x hx hn;exact h x hx (uA n f) λy hy NV=>ih y hy (by omega)
 exact this _ x hx hμ
def zmW(x:Int)(j:Nat)(hj:j<63):0≤jB .i64 x ((2^j - 1:Nat):Int)∧jB .i64 x ((2^j - 1:Nat):Int)≤((2^j - 1:Nat):Int):=by
 have h1:2^j<2^63:=Nat.pow_lt_pow_right (by decide) hj;have h0:0<2^j:=Nat.two_pow_pos j;unfold jB;show 0≤IntKind.wrap .i64 ((BitVec.ofInt 64 x&&&BitVec.ofInt 64 ((2^j - 1:Nat):Int)).toNat:Int)∧IntKind.wrap .i64 ((BitVec.ofInt 64 x&&&BitVec.ofInt 64 ((2^j - 1:Nat):Int)).toNat:Int)≤_
 have h2:(BitVec.ofInt 64 x&&&BitVec.ofInt 64 ((2^j - 1:Nat):Int)).toNat≤2^j - 1:=by
  rw[BitVec.toNat_and,MJ _ (by omega)];exact Nat.and_le_right
 generalize (BitVec.ofInt 64 x&&&BitVec.ofInt 64 ((2^j - 1:Nat):Int)).toNat=m at h2;rw[yB (by omega) (by omega)];omega
def ET(x:Int):0≤jB .i64 x 255∧jB .i64 x 255≤255:=zmW x 8 (by decide)
def GA(c:Ah):Prop:=0≤c.i∧c.i≤c.b.length∧c.b.length≤1048576
def zmt{code:List UInt8}(h:code.length≤1048576):Ok (Bi code) GA:=by
 simp only[Bi,aA];refine Ok.loop (λx:Int×Int=>0≤x.2∧x.2≤(code.length:Int)) (λx=>code.length - x.2.toNat) (λx hx k hk=>?_) ⟨Int.le_refl _,by show(0:Int)≤(code.length:Int);omega⟩ (by show code.length - Int.toNat 0<_;omega);obtain⟨s,i⟩:=x;obtain⟨h0,h1⟩:=hx;simp only at h0 h1 hk⊢;obtain⟨j,rfl⟩:=Int.eq_ofNat_of_zero_le h0;have oB:Ok (some (⟨code,0,s⟩:Ah)) GA:= .some' ⟨Int.le_refl _,by show(0:Int)≤_;omega,h⟩;refine .cond' (λhj=>?_) λ_=>oB;have hj:j<code.length:=by simpa using hj
 refine .cond' (λ_=>?_) λ_=>oB;rw[dB hj,TA];have:iA .i64 (j:Int) 1=((j+1:Nat):Int):=FF j (by rw[oC];omega);rw[this];exact hk _ ⟨by show(0:Int)≤((j+1:Nat):Int);omega,by show((j+1:Nat):Int)≤_;omega⟩ (by simp only[Int.toNat_natCast];omega)
def XM{c:Ah}(h:GA c):Ok (Bf c) λr=>0≤r.1∧r.1≤255∧GA r.2:=by
 obtain⟨h0,h1,h2⟩:=h;simp only[Bf,aA];refine .cond' (λhc=>?_) λ_=> .some' ⟨(ET _).1,(ET _).2,h0,h1,h2⟩;have hc:c.i<(c.b.length:Int):=by simpa using hc
 obtain⟨j,hj⟩:=Int.eq_ofNat_of_zero_le h0;rw[hj]at hc⊢;have OY:j<c.b.length:=by omega
 rw[dB OY,TA];refine .some' ⟨(ET _).1,(ET _).2,?_,?_,h2⟩
 ·show 0≤iA .i64 (j:Int) 1
  rw[iA,FF j (by rw[oC];omega)];omega
 ·show iA .i64 (j:Int) 1≤(c.b.length:Int)
  rw[iA,FF j (by rw[oC];omega)];omega
def sN{a n:Int}(ha:0≤a)(hn:0<n):0≤DA .i64 a n∧DA .i64 a n<n:=by
 unfold DA;rw[Int.tmod_eq_emod_of_nonneg ha];exact⟨Int.emod_nonneg _ (by omega),Int.emod_lt_of_pos _ hn⟩
def zaQ{c:Ah}{n:Int}(h:GA c):Ok (Ap c n) λr=>0≤r.1∧(0<n→r.1<n)∧(n≤0→r.1=0)∧GA r.2:=by
 simp only[Ap];refine .cond' (λhn=>?_) λhn=>?_
 ·have hn:n≤0:=by simpa using hn
  exact .some' ⟨Int.le_refl _,λh=>by omega,λ_=>rfl,h⟩
 ·have hn:0<n:=by simpa using hn
  have GZ:(n==0)=false:=by simp;omega
  refine .cond' (λ_=>?_) λ_=>?_
  ·refine(XM h).bind λr hr=>?_;rw[GZ];have:=sN hr.1 hn;exact .some' ⟨this.1,λ_=>this.2,λh=>by omega,hr.2.2⟩
  ·refine(XM h).bind λr hr=>(XM hr.2.2).bind λr2 HW=>(XM HW.2.2).bind λr3 wW=>?_;rw[GZ];have h1:BB .i64 r.1 65536=r.1 *65536:=yB (by omega) (by omega);have h2:BB .i64 r2.1 256=r2.1 *256:=yB (by omega) (by omega);have h3:iA .i64 (BB .i64 r.1 65536) (BB .i64 r2.1 256)=r.1 *65536+r2.1 *256:=by rw[h1,h2];exact yB (by omega) (by omega)
   have h4:iA .i64 (iA .i64 (BB .i64 r.1 65536) (BB .i64 r2.1 256)) r3.1=r.1 *65536+r2.1 *256+r3.1:=by rw[h3];exact yB (by omega) (by omega)
   simp only[cond_false,h4];have:=sN (a:=r.1 *65536+r2.1 *256+r3.1) (by omega) hn;exact .some' ⟨this.1,λ_=>this.2,λh=>by omega,wW.2.2⟩
def zbj{c:Ah}{l:List Int}(h:GA c)(hl:l≠[]):Ok (Ax c l) λr=>r.1∈l∧GA r.2:=by
 simp only[Ax];have h0:0<l.length:=List.length_pos_iff.2 hl;refine(zaQ h).bind λr hr=>?_;obtain⟨j,hj⟩:=Int.eq_ofNat_of_zero_le hr.1;have:=hr.2.1 (by omega);rw[hj]at this⊢;have OY:j<l.length:=by omega
 rw[dB OY,TA];exact .some' ⟨List.getElem_mem OY,hr.2.2.2⟩
def zj8{c:Ah}{n:Int}(h:GA c)(hn:n≤1048576):Ok (Bb c n) λr=>r.1.length=n.toNat∧GA r.2:=by
 have hL:=sB;simp only[Bb,aA];refine Ok.loop (λx:List UInt8×Int×Ah=>x.2.1=(x.1.length:Int)∧x.1.length≤n.toNat∧GA x.2.2) (λx=>n.toNat - x.1.length) (λx hx k hk=>?_) ⟨rfl,Nat.zero_le _,h⟩ (by show n.toNat - 0<_;omega);obtain⟨l,i,d⟩:=x;obtain⟨hi,h1,h2⟩:=hx;simp only at hi h1 h2 hk⊢;subst hi;refine .cond' (λhc=>?_) λhc=>?_
 ·have hc:(l.length:Int)<n:=by simpa using hc
  refine(XM h2).bind λr hr=>?_;rw[decide_eq_true (by simp;omega),cond_true];have:iA .i64 (l.length:Int) 1=((l.length+1:Nat):Int):=FF _ (by rw[oC];omega);rw[this];exact hk _ ⟨by simp,by simp;omega,hr.2.2⟩ (by simp;omega)
 ·have hc:¬(l.length:Int)<n:=by simpa using hc
  exact .some' ⟨by show l.length=_;omega,h2⟩
def wT.ok{x}(_:rA [.sl .byte] x):Mg x=some (big x):=rfl
end Go.D
namespace Go.D
def zmA{i n:Nat}(h:i<n):decide ((i:Int)<(n:Int))=true:=by simpa using h
def zmD(n:Nat):decide ((n:Int)<(n:Int))=false:=by simp
end Go.D
namespace Go.D
def jJ{n:Nat}{α:Type}(h:n≤bA):decide (([]:List α).length+n≤bA)=true:=by simpa using h
def rO.ok{x}(_:rA [.v .Dice] x){r}:MH x=some r→Kd x=some r:=KA λh=>by
 rw[mN,AA]at h;simp only[Kd];rw[jJ h];rfl
def VO.ok{x}(_:rA [.v .Dice] x){r}:iI x=some r→Ke x=some r:=KA λh=>by
 simp only[Ke,aA,VE];rw[MH,FA h];cases h1:zC x
 ·rfl
 ·simp only[Bool.not_true,cond_false,Bool.false_or];cases(Ar.N x==10000)<;>rfl
def OR{k info:List UInt8}(hk:k.length≤1048576)(hi:info.length≤100):∀j,(EG k info (j+1)).length=32
 | 0=>RJ hk (by simp[EG];omega)
 | j+1=>RJ hk (by rw[List.length_append,List.length_append,OR hk hi j];simp;omega)
def zjE{k info:List UInt8}(hk:k.length≤1048576)(hi:info.length≤100)(j:Nat):(EG k info j).length≤32:=by
 cases j with
 | zero=>exact Nat.zero_le _
 | succ j=>rw[OR hk hi];exact Nat.le_refl _
def SO{k info:List UInt8}(hk:k.length≤1048576)(hi:info.length≤100):∀j,(hG k info j).length=32 *j
 | 0=>rfl
 | j+1=>by rw[hG,List.length_append,SO hk hi j,OR hk hi];omega
def zlm{k info:List UInt8}(hk:k.length≤1048576)(hi:info.length≤100)(n:Nat)(hn:n≤8160){R:Type}(z:List UInt8→Option R)
  {f:List UInt8×List UInt8×Int→(List UInt8×List UInt8×Int→Option R)→Option R}
  (hf:∀(j:Nat) (K:List UInt8×List UInt8×Int→Option R),32 *j<n→f (hG k info j,EG k info j,((j+1:Nat):Int)) K=K (hG k info (j+1),EG k info (j+1),((j+2:Nat):Int)))
  (hz:∀(j:Nat) (K:List UInt8×List UInt8×Int→Option R),n≤32 *j→f (hG k info j,EG k info j,((j+1:Nat):Int)) K=z (hG k info j)):
  uA FU f ([],[],(1:Int))=z (hG k info ((n+31) / 32)):=by
 have key:=dG (f:=f) (g:=λ_=>z (hG k info ((n+31) / 32))) (λx=>∃j,x=(hG k info j,EG k info j,((j+1:Nat):Int))∧j≤(n+31) / 32) (λx=>10000 - x.1.length) (λx hx K hK=>by
  obtain⟨j,rfl,hj⟩:=hx
  by_cases hc:32 *j<n
  ·rw[hf j K hc];refine hK _ ⟨j+1,rfl,by omega⟩ ?_;simp only[SO hk hi];omega
  ·rw[hz j K (by omega)];have:j=(n+31) / 32:=by omega
   rw[this]) (x:=([],[],(1:Int))) ⟨0,rfl,Nat.zero_le _⟩ (by show 10000 - 0<2^64;omega)
 exact key
def zaq{k info:List UInt8}{n:Int}(h:(!gA n 0 8160||decide ((info.length:Int)>100)||decide ((k.length:Int)>1048576))=true):mH k info n=([],false):=by rw[mH,h];rfl
def zda{k info:List UInt8}{n:Int}(h:(!gA n 0 8160||decide ((info.length:Int)>100)||decide ((k.length:Int)>1048576))=false):mH k info n=((hG k info ((n.toNat+31) / 32)).take n.toNat,true):=by rw[mH,h];rfl
def zhq(k info:List UInt8)(n:Int):Gs k info n=some (mH k info n):=by
 have hL:=sB;simp only[Gs,aA];cases h1:gA n 0 8160
 ·rw[zaq (by rw[h1];rfl)];rfl
 cases h2:decide ((info.length:Int)>100)
 case true=>rw[zaq (by rw[h1,h2];rfl)];rfl
 cases h3:decide ((k.length:Int)>1048576)
 case true=>rw[zaq (by rw[h1,h2,h3];rfl)];rfl
 rw[zda (by rw[h1,h2,h3];rfl)];have h1:=HC.1 h1;have h2:info.length≤100:=by have:=of_decide_eq_false h2;omega
 have h3:k.length≤1048576:=by have:=of_decide_eq_false h3;omega
 obtain⟨m,rfl⟩:=Int.eq_ofNat_of_zero_le h1.1;simp only[Bool.not_true,cond_false,Int.toNat_natCast];refine zlm (R:=List UInt8×Bool) h3 h2 m (by omega) (λo=>some (o.take m,true)) (λj K hj=>?_) (λj K hj=>?_)
 ·have cW:=zjE h3 h2 j;simp only;rw[SO h3 h2,decide_eq_true (by omega),cond_true,jJ (by omega),cond_true,List.nil_append,decide_eq_true (by omega),cond_true,decide_eq_true (by simp;omega),cond_true];have:YC k (EG k info j++info++[UInt8.ofNat (IntKind.wrap .u8 ((j+1:Nat):Int)).toNat])=EG k info (j+1):=rfl;rw[this,OR h3 h2,decide_eq_true (by omega),cond_true,iA,FF (j+1) (by rw[oC];omega)];rfl
 ·rw[SO h3 h2,decide_eq_false (by omega),cond_false,decide_eq_true (by omega),decide_eq_true (by omega),decide_eq_true (by omega)];simp only[Bool.and_self,cond_true,List.drop_zero,Int.sub_zero,Int.toNat_natCast];rw[jJ (by rw[List.length_take];omega)];rfl
def lM.ok{x}(_:rA [.sl .byte, .sl .byte, .v .int] x):Gs x.1 x.2.1 x.2.2=some (mH x.1 x.2.1 x.2.2):=zhq x.1 x.2.1 x.2.2
def CO.ok{x}(_:rA [.sl .byte, .v .str] x){r}:BG x.1 x.2=some r→Kf x.1 x.2=some r:=KA λh=>by
 rw[AA]at h;simp only[Kf,Nat.ble_eq_true_of_le h,cond_true];rfl
def zj0{k l:List UInt8}(hk:k.length≤1048576)(hl:l.length≤100):(gK k l).length=32:=by
 rw[gK,zda (by rw[show gA 32 0 8160=true from rfl,decide_eq_false (by omega),decide_eq_false (by omega)];rfl)];show(List.take 32 _).length=32
 rw[List.length_take,SO hk hl];rfl
def zd5(k l:List UInt8):(gK k l).length≤32:=by
 rw[gK,mH];cases(!gA 32 0 8160||decide ((l.length:Int)>100)||decide ((k.length:Int)>1048576))
 ·show(List.take 32 _).length≤32
  rw[List.length_take];omega
 ·exact Nat.zero_le _
def zn0:wt ([106,97,114]:List UInt8)≤bA:=by rw[AA,sB];decide
def JO.ok{x}(_:rA [.sl .byte] x):Kg x=some (jG x):=by
 simp only[Kg,jG,IB];rw[BG,FA zn0,bne];cases((List.length (α:=UInt8) x:Int)==12)<;>rfl
def zO.ok{x}(_:rA [.v .int] x):Kh x=some (PE x):=by
 simp only[Kh,PE];cases gA x 1 6<;>rfl
def gT(b:List UInt8):(jG b).Secret.length≤32:=by
 rw[jG];cases IB b
 ·exact Nat.zero_le _
 ·exact zd5 _ _
def zde(d:Ar):(VE d).1.Seed=d.Seed:=by
 rw[VE];cases(!zC d||d.N==10000)<;>rfl
def zdL(n:Int):wt (PE n)=0:=by
 rw[PE];cases gA n 1 6<;>rfl
def zak(p:List (List UInt8))(s:List UInt8)(m:Int):wt (SB p s m)≤wt p+wt s+32:=by
 rw[BM,HU,mN];have h1:=gT (VE ⟨s,0⟩).2;have h2:=zde ⟨s,0⟩;have h3:=zdL m;show wt p+wt (jG (VE ⟨s,0⟩).2).Secret+wt (VE ⟨s,0⟩).1.Seed+wt (PE m)+0≤_
 rw[h2,h3,AA];show wt p+_+wt s+0+0≤_;omega
def ON.ok{x}(_:rA [.sl .bs, .sl .byte, .v .int] x){r}:iS x.1 x.2.1 x.2.2=some r→Ki x.1 x.2.1 x.2.2=some r:=KA λh=>by
 obtain⟨p,s,m⟩:=x;simp only at h;have hL:=sB;have hw:=zak p s m;have hl:=lC p;simp only[Ki,FM];rw[iI,FA (by rw[mN];show wt s≤bA;omega)];simp only[aA]
 have key:=zeO (σ:=Ac) (R:=Ac) p.length (by rw[oC];omega) (f:=λ(x6:Int×Ac) k7=>cond (decide (x6.1<(p.length:Int))) (Option.bind (lA p x6.1) λe8=>
   cond (decide (([]:List UInt8).length+e8.length≤bA)) (cond (decide (x6.2.Psks.length+[[]++e8].length≤bA)) (k7 ((iA .i64 x6.1 1),(⟨x6.2.Psks++[[]++e8],x6.2.J,x6.2.D,x6.2.T,x6.2.Cr⟩:Ac))) none) none)
   (Option.bind (lD x6.2) λr9=>cond (!r9) (some (⟨[],(⟨[]⟩:Az),(⟨[],0⟩:Ar),(⟨0,[]⟩:Am),[]⟩:Ac)) (some x6.2)))
  (g:=λ_ _=>some (bif bD (SB p s m)then SB p s m else UT)) (λi t=>t=⟨p.take i,(SB p s m).J,(SB p s m).D,(SB p s m).T,[]⟩)
  (fun i t k hi ht hk=>by
   subst ht;have hwg:=LF hi;rw[AA]at hwg;simp only;rw[zmA hi,cond_true,dB hi,TA,jJ (by omega),cond_true,decide_eq_true (by simp;omega),cond_true,List.nil_append, ←IJ p hi];exact hk _ rfl)
  (fun t k ht=>by
   subst ht;simp only[List.take_length];rw[zmD,cond_false];show Option.bind (lD (SB p s m)) _=_
   rw[lD,FA (by omega)];cases bD (SB p s m)<;>rfl) 0 ⟨[],(SB p s m).J,(SB p s m).D,(SB p s m).T,[]⟩ (Nat.zero_le _) rfl
 exact key
def zc9(id:Int)(psk:List UInt8)(a:Ae):wt (GF id psk a)=wt psk:=by
 rw[II];show wt psk+0+0+0+0+0+0=_
 omega
def zcW(id:Int)(psk:List UInt8)(a:Ae):iF (GF id psk a)=(gA id 1 9&&mC psk&&bB a):=by
 show(gA id 1 9&&mC psk&&bB a&&true)=_
 rw[Bool.and_true]
def SN.ok{x}(_:rA [.v .int, .sl .byte, .v .Addr] x){r}:AI x.1 x.2.1 x.2.2=some r→Kk x.1 x.2.1 x.2.2=some r:=KA λh=>by
 obtain⟨id,psk,a⟩:=x;simp only at h;rw[AA]at h;simp only[Kk,FC,aA];rw[jJ h];cases gA id 1 9
 ·rfl
 cases mC psk
 ·rfl
 cases bB a<;>rfl
def QN.ok{x}(_:rA [.sl .byte] x){r}:FH x=some r→Kl x=some r:=KA λh=>by
 rw[AA]at h;simp only[Kl];rw[jJ h];rfl
def uO.ok{x}(_:rA [.sl .byte] x){r}:MT x=some r→Kj x=some r:=KA λh=>by
 rw[AA]at h;have hL:=sB;simp only[Kj,aA,List.nil_append];rw[jJ h,cond_true]
 by_cases hc:31<List.length (α:=UInt8) x
 ·rw[decide_eq_true (by omega),cond_true,decide_eq_true (by omega),decide_eq_true (by omega),decide_eq_true (by omega)];simp only[Bool.and_self,cond_true];rw[decide_eq_true (by simp;omega)];rfl
 ·rw[decide_eq_false (by omega),cond_false,decide_eq_true (by simp;omega),cond_true,iG,List.take_of_length_le (by omega)];rfl
def za5(a b:List UInt8):wt ([a,b]:List (List UInt8))=wt a+wt b+2:=by rw[VC,VC,fG];omega
def zkj{s a b:List UInt8}{m:Int}(h:bD (SB [a,b] s m)=true):1≤s.length∧s.length≤32:=by
 simp only[bD,Bool.and_eq_true]at h;have h1:=h.1.1.1.1.2;rw[show(SB [a,b] s m).D=(VE ⟨s,0⟩).1 from rfl,zC,Bool.and_eq_true,zde]at h1;have h2:1≤(s.length:Int)∧(s.length:Int)≤32:=HC.1 h1.1;exact⟨by omega,by omega⟩
def bT(s:List UInt8)(n:Int):(aC s n).length≤12:=by
 rw[aC];cases gA (s.length:Int) 1 32&&gA n 0 10000
 ·exact Nat.zero_le _
 ·simp only[cond_true,List.length_take];omega
def bO.ok{x}(_:rA [.sl .byte, .sl .byte, .sl .byte, .v .int] x){r}:WS x.1 x.2.1 x.2.2.1 x.2.2.2=some r→Km x.1 x.2.1 x.2.2.1 x.2.2.2=some r:=KA λh=>by
 obtain⟨s,a,b,m⟩:=x;simp only at h;have hL:=sB;have hw:=zak [a,b] s m;rw[za5]at hw;simp only[Km,mP];rw[iS,FA (by rw[za5];omega)];cases hs:bD (SB [a,b] s m)
 ·have e:FM [a,b] s m=UT:=by rw[FM,hs];rfl
  rw[e,lD,FA (by show 0≤_;omega)];rfl
 have e:FM [a,b] s m=SB [a,b] s m:=by rw[FM,hs];rfl
 have hj:((SB [a,b] s m).J).Secret.length≤32:=gT _;have l9:=bT s 0;rw[e,lD,FA (by omega),hs];simp only[Bool.not_true,cond_false,cond_true];rw[MT,FA (by omega),AI,FA (by omega),AI,FA (by omega),FH,FA (by rw[AA];omega),jJ (by omega)];rfl
end Go.D
namespace Go.D
def zcT(id:Int)(psk:List UInt8)(a:Ae):wt (FC id psk a)≤wt psk:=by
 rw[FC];cases(gA id 1 9&&mC psk&&bB a)
 ·rw[cond_false,zc9];exact Nat.zero_le _
 ·rw[cond_true,zc9];exact Nat.le_refl _
def zh7(b:List UInt8):wt (KE b)=b.length:=by
 rw[YI];show 0+0+wt b+0+0=_
 rw[AA];omega
def zjq(b:List UInt8):wt (pP b)=b.length:=by
 rw[YI];show 0+0+0+wt b+0=_
 rw[AA];omega
def zjw(s a b:List UInt8)(m:Int):wt (mP s a b m)≤2 *wt a+2 *wt b+wt s+200:=by
 rw[mP];cases bD (SB [a,b] s m)
 ·exact Nat.zero_le _
 ·have h1:=zcT 1 a (uB 1);have h2:=zcT 2 b (uB 2);have h3:=zak [a,b] s m;have h4:=bT s 0;have h5:(SB [a,b] s m).J.Secret.length≤32:=gT _;have h6:(iG s).length≤32:=by rw[iG,List.length_append,List.length_take];simp;omega
  have h7:=zh7 (aC s 0);have h8:=zjq (SB [a,b] s m).J.Secret;rw[za5]at h3;rw[cond_true,lN,mN];show wt [FC 1 a (uB 1),FC 2 b (uB 2)]+wt (SB [a,b] s m)+wt (iG s)+0+0+wt [KE (aC s 0),pP (SB [a,b] s m).J.Secret]≤_
  rw[VC,VC,fG,VC,VC,fG,AA,h7,h8];omega
def zjG{s a b:List UInt8}{m:Int}(h:bD (SB [a,b] s m)=true):mD (iU s a b m)=true∧FC 1 a (uB 1)=GF 1 a (uB 1)∧FC 2 b (uB 2)=GF 2 b (uB 2)∧
  (SB [a,b] s m).J.Secret.length=32∧(SB [a,b] s m).T.L=[]:=by
 have hd:=zkj h;have hs:=h;simp only[bD,Bool.and_eq_true]at h
 have hj:(SB [a,b] s m).J.Secret.length=32:=by
  have:=h.1.1.1.1.1.2;simp only[UE,beq_iff_eq]at this;omega
 have hp:=h.1.2
 have SY:mC a=true∧mC b=true:=by
  have:(SB [a,b] s m).Psks=[a,b]:=rfl;rw[this]at hp;simpa using hp
 have ha:FC 1 a (uB 1)=GF 1 a (uB 1):=by rw[FC,SY.1];rfl
 have hb:FC 2 b (uB 2)=GF 2 b (uB 2):=by rw[FC,SY.2];rfl
 have l9:=bT s 0
 have hT:(SB [a,b] s m).T.L=[]:=by
  show(PE m).L=[]
  rw[PE];cases gA m 1 6<;>rfl
 refine⟨?_,ha,hb,hj,hT⟩
 have YX:aE (KE (aC s 0))=true:=by
  have:(aC s 0).length=12:=by
   rw[aC,show gA (s.length:Int) 1 32=true from HC.2 ⟨by omega,by omega⟩];show(List.take 12 _).length=12
   rw[List.length_take,RJ (by omega) (by rw[yT];omega)];rfl
  show(gA 14 1 17&&gA 0 0 9&&gA 0 0 1&&kF [] 12&&kF [] 12&&gA 0 0 4294967295&&gA 0 0 281474976710655&&decide (((aC s 0).length:Int)≤100)&&kF [] 32&&bB ⟨0,0⟩&&gA 0 0 1000000)=true
  rw[this];rfl
 have S1:aE (pP (SB [a,b] s m).J.Secret)=true:=by
  show(gA 12 1 17&&gA 0 0 9&&gA 0 0 1&&kF [] 12&&kF [] 12&&gA 0 0 4294967295&&gA 0 0 281474976710655&&decide ((([]:List UInt8).length:Int)≤100)&&kK ((SB [a,b] s m).J.Secret.length:Int) 32&&bB ⟨0,0⟩&&gA 0 0 1000000)=true
  rw[hj];rfl
 have X4:zC ⟨iG s,0⟩=true:=by
  have:1≤(iG s).length∧(iG s).length≤32:=by rw[iG,List.length_append,List.length_take];simp;omega
  show(gA ((iG s).length:Int) 1 32&&gA 0 0 10000)=true
  rw[HC.2 ⟨by omega,by omega⟩];rfl
 have hcb:XA 2 (EI (iU s a b m))=false:=by
  refine xM.2 λi hi=>?_
  match i,hi with
  | 0,_=>
   show(!iF (FC 1 a (uB 1))||(FC 1 a (uB 1)).Id !=((0+1:Nat):Int)||!((FC 1 a (uB 1)).Psk==a))=false
   rw[ha,zcW,SY.1];simp[GF];decide
  | 1,_=>
   show(!iF (FC 2 b (uB 2))||(FC 2 b (uB 2)).Id !=((1+1:Nat):Int)||!((FC 2 b (uB 2)).Psk==b))=false
   rw[hb,zcW,SY.2];simp[GF];decide
 show(gA 0 0 1000000&&true&&bD (SB [a,b] s m)&&true&&zC ⟨iG s,0⟩&&true&&true&&!(XA 2 (EI (iU s a b m)))&&true&&!(!aE (KE (aC s 0))||(!aE (pP (SB [a,b] s m).J.Secret)||false)))=true
 rw[hs,X4,hcb,YX,S1];rfl
end Go.D
