/-
 Sizes of the program's data.
-/
import Derived.Test.YtdmiplkjdpcbeaaGreatN6
namespace Go.D
end Go.D
namespace Go.D
noncomputable section
def QP (code:List UInt8):Bool:=decide ((code.length:Int)>1048576)
def wH (d:G.Dice):Option G.Dice:=pt (wt d≤bA) d
def CE (d:G.Dice):G.Dice × List UInt8:=bif !tC d||d.N==10000 then (d,[]) else (⟨d.Seed,cA .i64 d.N 1⟩,NC d.Seed d.N)
def NH (d:G.Dice):Option (G.Dice × List UInt8):=pt (wt d≤bA) (CE d)
def cG (k info:List UInt8):Nat→List UInt8
 | 0=>[]
 | j+1=>FD k (cG k info j++info++[UInt8.ofNat (IntKind.wrap .u8 ((j+1:Nat):Int)).toNat])
def HF (k info:List UInt8):Nat→List UInt8
 | 0=>[]
 | j+1=>HF k info j++cG k info (j+1)
def RG (k info:List UInt8) (n:Int):List UInt8 × Bool:=
 bif !iA n 0 8160||decide ((info.length:Int)>100)||decide ((k.length:Int)>1048576) then ([],false) else ((HF k info ((n.toNat+31) / 32)).take n.toNat,true)
def lJ (k label:List UInt8):List UInt8:=(RG k label 32).1
def jF (k label:List UInt8):Option (List UInt8):=pt (wt label≤bA) (lJ k label)
def nF (b:List UInt8):G.Jar:=bif MB b then ⟨lJ b [106,97,114]⟩ else ⟨[]⟩
def YD (n:Int):G.Tab:=bif iA n 1 6 then ⟨n,[]⟩ else ⟨0,[]⟩
def DS:G.Server:=⟨[],⟨[]⟩,⟨[],0⟩,⟨0,[]⟩,[]⟩
def QB (psks:List (List UInt8)) (seed:List UInt8) (most:Int):G.Server:=⟨psks,nF (CE ⟨seed,0⟩).2,(CE ⟨seed,0⟩).1,YD most,[]⟩
def GJ (psks:List (List UInt8)) (seed:List UInt8) (most:Int):G.Server:=bif cD (QB psks seed most) then QB psks seed most else DS
def mL (psks:List (List UInt8)) (seed:List UInt8) (most:Int):Option G.Server:=pt (wt psks+wt seed+1000≤bA) (GJ psks seed most)
def za2:G.Frame:=⟨0,0,[],[],0,[],[],0,0,[],[]⟩
def zav:G.Chan:=⟨0,[],UQ,UQ,false,0,[]⟩
def zgZ:G.Timer:=⟨false,0,0,0⟩
def bG (id:Int) (psk:List UInt8) (a:G.Addr):G.Client:=⟨id,psk,a,0,[],za2,zav,zgZ,zgZ,0⟩
def CC (id:Int) (psk:List UInt8) (a:G.Addr):G.Client:=bif iA id 1 9&&mC psk&&oB a then bG id psk a else bG 0 [] ⟨0,0⟩
def uH (id:Int) (psk:List UInt8) (a:G.Addr):Option G.Client:=pt (wt psk≤bA) (CC id psk a)
def BE (b:List UInt8):G.Note:=⟨14,0,0,[],[],0,0,b,[],⟨0,0⟩,0⟩
def aO (k:List UInt8):G.Note:=⟨12,0,0,[],[],0,0,[],k,⟨0,0⟩,0⟩
def KH (b:List UInt8):Option G.Note:=pt (wt b≤bA) (BE b)
def TF (s:List UInt8):List UInt8:=s.take 31++[99]
def CS (s:List UInt8):Option (List UInt8):=pt (wt s≤bA) (TF s)
def zvl:G.World:=⟨0,[],DS,⟨[],0⟩,[],[],[]⟩
def eV (s a b:List UInt8) (most:Int):G.World:=⟨0,[CC 1 a (pB 1),CC 2 b (pB 2)],QB [a,b] s most,⟨TF s,0⟩,[],[],[BE (NC s 0),aO (QB [a,b] s most).J.Secret]⟩
def GP (s a b:List UInt8) (most:Int):G.World:=bif cD (QB [a,b] s most) then eV s a b most else zvl
def dV (s a b:List UInt8) (most:Int):Option G.World:=pt (wt a+wt b+wt s+2000≤bA) (GP s a b most)
end
end Go.D
namespace Go.D
open Option renaming bind → ob
noncomputable section
def dS.raw (a0:List UInt8):Option Bool:=
 some (decide ((a0.length:Int)>1048576))
def RJ.raw (a0:List UInt8):Option G.Cur:=
 aA (fun (y1:Int)=>
 some (⟨a0,0,y1⟩:G.Cur)) fun k2=>
 tA FU (fun (x3:Int × Int) k4=>
 aA (fun (y5:Bool)=>
 cond (y5)
 (ob (pA a0 x3.2) fun e7=>
 let x8:Int:=IntKind.wrap .i64 ((e7.toNat:Nat):Int)
 let x9:Int:=cA .i64 (cA .i64 (LB .i64 x3.1 137) x8) 11
 k4 ((JB .i64 x9 1073741823),(cA .i64 x3.2 1)))
 (k2 x3.1)) fun k6=>
 cond (decide (x3.2<(a0.length:Int)))
 (k6 (decide (x3.2<4000)))
 (k6 false)) ((cA .i64 127812 (a0.length:Int)),0)
def iH.raw (a0:G.Cur):Option (Int × G.Cur):=
 let x1:Int:=cA .i64 (LB .i64 a0.h 6364136223846793005) 1442695040888963407
 let x2:Int:=bC .i64 (wE .i64 x1 33) (wE .i64 x1 47)
 aA (fun (y3:Int × G.Cur)=>
 some (y3.1,y3.2)) fun k4=>
 cond (decide (a0.i<(a0.b.length:Int)))
 (ob (pA a0.b a0.i) fun e5=>
 let x6:Int:=IntKind.wrap .i64 ((e5.toNat:Nat):Int)
 let x7:Int:=JB .i64 (cA .i64 (JB .i64 x2 255) x6) 255
 k4 (x7,(⟨a0.b,cA .i64 a0.i 1,x1⟩:G.Cur)))
 (k4 ((JB .i64 x2 255),(⟨a0.b,a0.i,x1⟩:G.Cur)))
def BA.raw (a0:G.Cur) (a1:Int):Option (Int × G.Cur):=
 cond (decide (a1≤0))
 (some (0,a0))
 (cond (decide (a1≤256))
 (ob (iH.raw a0) fun r1=>
 cond (a1==0) none (some (GA .i64 r1.1 a1,r1.2)))
 (ob (iH.raw a0) fun r2=>
 ob (iH.raw r2.2) fun r3=>
 ob (iH.raw r3.2) fun r4=>
 let x5:Int:=cA .i64 (LB .i64 r2.1 65536) (LB .i64 r3.1 256)
 cond (a1==0) none (some (GA .i64 (cA .i64 x5 r4.1) a1,r4.2))))
def OA.raw (a0:G.Cur) (a1:List Int):Option (Int × G.Cur):=
 ob (BA.raw a0 (a1.length:Int)) fun r1=>
 ob (pA a1 r1.1) fun e2=>
 some (e2,r1.2)
def mB.raw (a0:G.Cur) (a1:Int):Option ((List UInt8) × G.Cur):=
 aA (fun (y1:(List UInt8) × G.Cur)=>
 some (y1.1,y1.2)) fun k2=>
 tA FU (fun (x3:(List UInt8) × Int × G.Cur) k4=>
 cond (decide (x3.2.1<a1))
 (ob (iH.raw x3.2.2) fun r5=>
 cond (decide (x3.1.length+[UInt8.ofNat (IntKind.wrap .u8 r5.1:Int).toNat].length≤bA)) (k4 ((x3.1++[UInt8.ofNat (IntKind.wrap .u8 r5.1:Int).toNat]),(cA .i64 x3.2.1 1),r5.2)) none)
 (k2 (x3.1,x3.2.2))) ([],0,a0)
def YO.raw (a0:G.Dice):Option G.Dice:=
 cond (decide (([]:List UInt8).length+a0.Seed.length≤bA)) (some (⟨[]++a0.Seed,a0.N⟩:G.Dice)) none
def LO.raw (a0:G.Dice):Option (G.Dice × (List UInt8)):=
 ob (wH a0) fun r1=>
 aA (fun (y2:Bool)=>
 cond (y2)
 (some (r1,[]))
 (let r4:(List UInt8):=NC a0.Seed a0.N
 some ((⟨r1.Seed,cA .i64 a0.N 1⟩:G.Dice),r4))) fun k3=>
 cond (!(tC a0))
 (k3 true)
 (k3 (a0.N==10000))
def DL.raw (a0:List UInt8) (a1:List UInt8) (a2:Int):Option ((List UInt8) × Bool):=
 aA (fun (y1:Bool)=>
 cond (y1)
 (some ([],false))
 (aA (fun (y3:(List UInt8) × (List UInt8))=>
 cond (decide (0≤(0:Int))&&decide ((0:Int)≤a2)&&decide (a2≤(y3.1.length:Int))) (cond (decide (([]:List UInt8).length+(List.take ((a2 - 0).toNat) (List.drop 0 y3.1)).length≤bA)) (some ([]++(List.take ((a2 - 0).toNat) (List.drop 0 y3.1)),true)) none) none) fun k4=>
 tA FU (fun (x5:(List UInt8) × (List UInt8) × Int) k6=>
 cond (decide ((x5.1.length:Int)<a2))
 (cond (decide (([]:List UInt8).length+x5.2.1.length≤bA)) (cond (decide (([]++x5.2.1).length+a1.length≤bA)) (cond (decide ((([]++x5.2.1)++a1).length+[UInt8.ofNat (IntKind.wrap .u8 x5.2.2:Int).toNat].length≤bA)) (let x7:List UInt8:=(([]++x5.2.1)++a1)++[UInt8.ofNat (IntKind.wrap .u8 x5.2.2:Int).toNat]
 let r8:(List UInt8):=FD a0 x7
 cond (decide (x5.1.length+r8.length≤bA)) (k6 ((x5.1++r8),r8,(cA .i64 x5.2.2 1))) none) none) none) none)
 (k4 (x5.1,x5.2.1))) ([],[],1))) fun k2=>
 cond (!(iA a2 0 8160))
 (k2 true)
 (cond (decide ((a1.length:Int)>100))
 (k2 true)
 (k2 (decide ((a0.length:Int)>1048576))))
def uO.raw (a0:List UInt8) (a1:List UInt8):Option (List UInt8):=
 cond (Nat.ble a1.length bA) (let r1:(List UInt8) × Bool:=RG a0 a1 32
 some r1.1) none
def CO.raw (a0:List UInt8):Option G.Jar:=
 cond ((a0.length:Int) !=12)
 (some (⟨[]⟩:G.Jar))
 (ob (jF a0 [106,97,114]) fun r1=>
 some (⟨r1⟩:G.Jar))
def QO.raw (a0:Int):Option G.Tab:=
 cond (!(iA a0 1 6))
 (some (⟨0,[]⟩:G.Tab))
 (some (⟨a0,[]⟩:G.Tab))
def NO.raw (a0:List (List UInt8)) (a1:List UInt8) (a2:Int):Option G.Server:=
 ob (NH (⟨a1,0⟩:G.Dice)) fun r1=>
 let r2:G.Jar:=nF r1.2
 let r3:G.Tab:=YD a2
 aA (fun (y4:G.Server)=>
 ob (dD y4) fun r9=>
 cond (!r9)
 (some (⟨[],(⟨[]⟩:G.Jar),(⟨[],0⟩:G.Dice),(⟨0,[]⟩:G.Tab),[]⟩:G.Server))
 (some y4)) fun k5=>
 tA FU (fun (x6:Int × G.Server) k7=>
 cond (decide (x6.1<(a0.length:Int)))
 (ob (pA a0 x6.1) fun e8=>
 cond (decide (([]:List UInt8).length+e8.length≤bA)) (cond (decide (x6.2.Psks.length+[[]++e8].length≤bA)) (k7 ((cA .i64 x6.1 1),(⟨x6.2.Psks++[[]++e8],x6.2.J,x6.2.D,x6.2.T,x6.2.Cr⟩:G.Server))) none) none)
 (k5 x6.2)) (0,(⟨[],r2,r1.1,r3,[]⟩:G.Server))
def oP.raw (a0:List UInt8):Option (List UInt8):=
 cond (decide (([]:List UInt8).length+a0.length≤bA)) (aA (fun (y1:(List UInt8))=>
 cond (decide (y1.length+[UInt8.ofNat (99:Int).toNat].length≤bA)) (some (y1++[UInt8.ofNat (99:Int).toNat])) none) fun k2=>
 cond (decide ((([]++a0).length:Int)>31))
 (cond (decide (0≤(0:Int))&&decide ((0:Int)≤31)&&decide (31≤(([]++a0).length:Int))) (k2 (List.take 31 ([]++a0))) none)
 (k2 ([]++a0))) none
def tO.raw (a0:Int) (a1:List UInt8) (a2:G.Addr):Option G.Client:=
 aA (fun (y1:Bool)=>
 cond (y1)
 (some (⟨0,[],(⟨0,0⟩:G.Addr),0,[],(⟨0,0,[],[],0,[],[],0,0,[],[]⟩:G.Frame),(⟨0,[],(⟨0,[],0,(⟨0,[]⟩:G.Win)⟩:G.Ep),(⟨0,[],0,(⟨0,[]⟩:G.Win)⟩:G.Ep),false,0,[]⟩:G.Chan),(⟨false,0,0,0⟩:G.Timer),(⟨false,0,0,0⟩:G.Timer),0⟩:G.Client))
 (cond (decide (([]:List UInt8).length+a1.length≤bA)) (some (⟨a0,[]++a1,a2,0,[],(⟨0,0,[],[],0,[],[],0,0,[],[]⟩:G.Frame),(⟨0,[],(⟨0,[],0,(⟨0,[]⟩:G.Win)⟩:G.Ep),(⟨0,[],0,(⟨0,[]⟩:G.Win)⟩:G.Ep),false,0,[]⟩:G.Chan),(⟨false,0,0,0⟩:G.Timer),(⟨false,0,0,0⟩:G.Timer),0⟩:G.Client)) none)) fun k2=>
 cond (!(iA a0 1 9))
 (k2 true)
 (cond (!(mC a1))
 (k2 true)
 (k2 (!(oB a2))))
def lP.raw (a0:List UInt8):Option G.Note:=
 cond (decide (([]:List UInt8).length+a0.length≤bA)) (some (⟨14,0,0,[],[],0,0,[]++a0,[],(⟨0,0⟩:G.Addr),0⟩:G.Note)) none
def XO.raw (a0:List UInt8) (a1:List UInt8) (a2:List UInt8) (a3:Int):Option G.World:=
 ob (mL [a1,a2] a0 a3) fun r1=>
 ob (dD r1) fun r2=>
 cond (!r2)
 (some (⟨0,[],(⟨[],(⟨[]⟩:G.Jar),(⟨[],0⟩:G.Dice),(⟨0,[]⟩:G.Tab),[]⟩:G.Server),(⟨[],0⟩:G.Dice),[],[],[]⟩:G.World))
 (ob (CS a0) fun r3=>
 let r4:G.Addr:=pB 1
 ob (uH 1 a1 r4) fun r5=>
 let r6:G.Addr:=pB 2
 ob (uH 2 a2 r6) fun r7=>
 let r8:(List UInt8):=NC a0 0
 ob (KH r8) fun r9=>
 cond (decide (([]:List UInt8).length+r1.J.Secret.length≤bA)) (let x10:List G.Note:=[r9,(⟨12,0,0,[],[],0,0,[],[]++r1.J.Secret,(⟨0,0⟩:G.Addr),0⟩:G.Note)]
 some (⟨0,[r5,r7],r1,(⟨r3,0⟩:G.Dice),[],[],x10⟩:G.World)) none)
end
end Go.D
namespace Go.D
end Go.D
namespace Go.D
def Ok {α:Type} (o:Option α) (P:α→Prop):Prop:=∃ r,o=some r∧P r
theorem Ok.bind {α β:Type} {o:Option α} {P:α→Prop} {Q:β→Prop} {f:α→Option β} (h:Ok o P) (k:∀ r,P r→Ok (f r) Q):Ok (Option.bind o f) Q:=by
 obtain ⟨r,rfl,h⟩:=h;exact k r h
theorem Ok.some' {α:Type} {x:α} {P:α→Prop} (h:P x):Ok (some x) P:=⟨x,rfl,h⟩
theorem Ok.mono {α:Type} {o:Option α} {P Q:α→Prop} (h:Ok o P) (k:∀ r,P r→Q r):Ok o Q:=by
 obtain ⟨r,h1,h2⟩:=h;exact ⟨r,h1,k r h2⟩
theorem Ok.cond' {α:Type} {b:Bool} {x y:Option α} {P:α→Prop} (h1:b=true→Ok x P) (h2:b=false→Ok y P):Ok (cond b x y) P:=by
 cases b
 ·exact h2 rfl
 ·exact h1 rfl
theorem Ok.loop {σ R:Type} {f:σ→(σ→Option R)→Option R} {P:R→Prop} (inv:σ→Prop) (μ:σ→Nat)
  (h:∀ x,inv x→∀ k:σ→Option R,(∀ y,inv y→μ y<μ x→Ok (k y) P)→Ok (f x k) P) {x:σ} (hx:inv x) (hμ:μ x<2^64):Ok (tA FU f x) P:=by
 rw [oV]
 have:∀ (n:Nat) (x:σ),inv x→μ x<n→Ok (tA n f x) P:=by
  intro n
  induction n with
  | zero=>intro x _ hn;omega
  | succ n ih=>intro x hx hn;exact h x hx (tA n f) fun y hy RV=>ih y hy (by omega)
 exact this _ x hx hμ
theorem zqi (x:Int) (j:Nat) (hj:j<63):0≤JB .i64 x ((2^j - 1:Nat):Int)∧JB .i64 x ((2^j - 1:Nat):Int)≤((2^j - 1:Nat):Int):=by
 have h1:2^j<2^63:=Nat.pow_lt_pow_right (by decide) hj
 have h0:0<2^j:=Nat.two_pow_pos j
 unfold JB
 show 0≤IntKind.wrap .i64 ((BitVec.ofInt 64 x&&&BitVec.ofInt 64 ((2^j - 1:Nat):Int)).toNat:Int)∧IntKind.wrap .i64 ((BitVec.ofInt 64 x&&&BitVec.ofInt 64 ((2^j - 1:Nat):Int)).toNat:Int)≤_
 have h2:(BitVec.ofInt 64 x&&&BitVec.ofInt 64 ((2^j - 1:Nat):Int)).toNat≤2^j - 1:=by
  rw [BitVec.toNat_and,zrx _ (by omega)]
  exact Nat.and_le_right
 generalize (BitVec.ofInt 64 x&&&BitVec.ofInt 64 ((2^j - 1:Nat):Int)).toNat=m at h2
 rw [fC (by omega) (by omega)]
 omega
theorem sR (x:Int):0≤JB .i64 x 255∧JB .i64 x 255≤255:=zqi x 8 (by decide)
def jA (c:G.Cur):Prop:=0≤c.i∧c.i≤c.b.length∧c.b.length≤1048576
theorem zrp {code:List UInt8} (h:code.length≤1048576):Ok (RJ.raw code) jA:=by
 simp only [RJ.raw,aA]
 refine Ok.loop (fun x:Int × Int=>0≤x.2∧x.2≤(code.length:Int)) (fun x=>code.length - x.2.toNat) (fun x hx k hk=>?_) ⟨Int.le_refl _,by show (0:Int)≤(code.length:Int);omega⟩ (by show code.length - Int.toNat 0<_;omega)
 obtain ⟨s,i⟩:=x
 obtain ⟨h0,h1⟩:=hx
 simp only at h0 h1 hk ⊢
 obtain ⟨j,rfl⟩:=Int.eq_ofNat_of_zero_le h0
 have gB:Ok (some (⟨code,0,s⟩:G.Cur)) jA:= .some' ⟨Int.le_refl _,by show (0:Int)≤_;omega,h⟩
 refine .cond' (fun hj=>?_) fun _=>gB
 have hj:j<code.length:=by simpa using hj
 refine .cond' (fun _=>?_) fun _=>gB
 rw [nB hj,dB]
 have:cA .i64 (j:Int) 1=((j+1:Nat):Int):=XC j (by rw [QC];omega)
 rw [this]
 exact hk _ ⟨by show (0:Int)≤((j+1:Nat):Int);omega,by show ((j+1:Nat):Int)≤_;omega⟩ (by simp only [Int.toNat_natCast];omega)
theorem nK {c:G.Cur} (h:jA c):Ok (iH.raw c) fun r=>0≤r.1∧r.1≤255∧jA r.2:=by
 obtain ⟨h0,h1,h2⟩:=h
 simp only [iH.raw,aA]
 refine .cond' (fun hc=>?_) fun _=> .some' ⟨(sR _).1,(sR _).2,h0,h1,h2⟩
 have hc:c.i<(c.b.length:Int):=by simpa using hc
 obtain ⟨j,hj⟩:=Int.eq_ofNat_of_zero_le h0
 rw [hj] at hc ⊢
 have PY:j<c.b.length:=by omega
 rw [nB PY,dB]
 refine .some' ⟨(sR _).1,(sR _).2,?_,?_,h2⟩
 ·show 0≤cA .i64 (j:Int) 1
  rw [cA,XC j (by rw [QC];omega)];omega
 ·show cA .i64 (j:Int) 1≤(c.b.length:Int)
  rw [cA,XC j (by rw [QC];omega)];omega
theorem sI {a n:Int} (ha:0≤a) (hn:0<n):0≤GA .i64 a n∧GA .i64 a n<n:=by
 unfold GA
 rw [Int.tmod_eq_emod_of_nonneg ha]
 exact ⟨Int.emod_nonneg _ (by omega),Int.emod_lt_of_pos _ hn⟩
theorem vV {c:G.Cur} {n:Int} (h:jA c):Ok (BA.raw c n) fun r=>0≤r.1∧(0<n→r.1<n)∧(n≤0→r.1=0)∧jA r.2:=by
 simp only [BA.raw]
 refine .cond' (fun hn=>?_) fun hn=>?_
 ·have hn:n≤0:=by simpa using hn
  exact .some' ⟨Int.le_refl _,fun h=>by omega,fun _=>rfl,h⟩
 ·have hn:0<n:=by simpa using hn
  have d4:(n==0)=false:=by simp;omega
  refine .cond' (fun _=>?_) fun _=>?_
  ·refine (nK h).bind fun r hr=>?_
   rw [d4]
   have:=sI hr.1 hn
   exact .some' ⟨this.1,fun _=>this.2,fun h=>by omega,hr.2.2⟩
  ·refine (nK h).bind fun r hr=>(nK hr.2.2).bind fun r2 VV=>(nK VV.2.2).bind fun r3 YV=>?_
   rw [d4]
   have h1:LB .i64 r.1 65536=r.1 *65536:=fC (by omega) (by omega)
   have h2:LB .i64 r2.1 256=r2.1 *256:=fC (by omega) (by omega)
   have h3:cA .i64 (LB .i64 r.1 65536) (LB .i64 r2.1 256)=r.1 *65536+r2.1 *256:=by rw [h1,h2];exact fC (by omega) (by omega)
   have h4:cA .i64 (cA .i64 (LB .i64 r.1 65536) (LB .i64 r2.1 256)) r3.1=r.1 *65536+r2.1 *256+r3.1:=by rw [h3];exact fC (by omega) (by omega)
   simp only [cond_false,h4]
   have:=sI (a:=r.1 *65536+r2.1 *256+r3.1) (by omega) hn
   exact .some' ⟨this.1,fun _=>this.2,fun h=>by omega,YV.2.2⟩
theorem zbf {c:G.Cur} {l:List Int} (h:jA c) (hl:l≠[]):Ok (OA.raw c l) fun r=>r.1 ∈ l∧jA r.2:=by
 simp only [OA.raw]
 have h0:0<l.length:=List.length_pos_iff.2 hl
 refine (vV h).bind fun r hr=>?_
 obtain ⟨j,hj⟩:=Int.eq_ofNat_of_zero_le hr.1
 have:=hr.2.1 (by omega)
 rw [hj] at this ⊢
 have PY:j<l.length:=by omega
 rw [nB PY,dB]
 exact .some' ⟨List.getElem_mem PY,hr.2.2.2⟩
theorem zhH {c:G.Cur} {n:Int} (h:jA c) (hn:n≤1048576):Ok (mB.raw c n) fun r=>r.1.length=n.toNat∧jA r.2:=by
 have hL:=qA
 simp only [mB.raw,aA]
 refine Ok.loop (fun x:List UInt8 × Int × G.Cur=>x.2.1=(x.1.length:Int)∧x.1.length≤n.toNat∧jA x.2.2) (fun x=>n.toNat - x.1.length) (fun x hx k hk=>?_) ⟨rfl,Nat.zero_le _,h⟩ (by show n.toNat - 0<_;omega)
 obtain ⟨l,i,d⟩:=x
 obtain ⟨hi,h1,h2⟩:=hx
 simp only at hi h1 h2 hk ⊢
 subst hi
 refine .cond' (fun hc=>?_) fun hc=>?_
 ·have hc:(l.length:Int)<n:=by simpa using hc
  refine (nK h2).bind fun r hr=>?_
  rw [decide_eq_true (by simp;omega),cond_true]
  have:cA .i64 (l.length:Int) 1=((l.length+1:Nat):Int):=XC _ (by rw [QC];omega)
  rw [this]
  exact hk _ ⟨by simp,by simp;omega,hr.2.2⟩ (by simp;omega)
 ·have hc:¬ (l.length:Int)<n:=by simpa using hc
  exact .some' ⟨by show l.length=_;omega,h2⟩
theorem dS.ok {x:lA [.sl .byte]} (_:rA [.sl .byte] x):dS.raw x=some (QP x):=rfl
end Go.D
namespace Go.D
theorem zq7 {i n:Nat} (h:i<n):decide ((i:Int)<(n:Int))=true:=by simpa using h
theorem zq6 (n:Nat):decide ((n:Int)<(n:Int))=false:=by simp
end Go.D
namespace Go.D
theorem DI {n:Nat} {α:Type} (h:n≤bA):decide (([]:List α).length+n≤bA)=true:=by simpa using h
theorem YO.ok {x:lA [.v .Dice]} (_:rA [.v .Dice] x) {r:G.Dice}:wH x=some r→YO.raw x=some r:=HA fun h=>by
 rw [KM,LA] at h
 simp only [YO.raw]
 rw [DI h];rfl
theorem LO.ok {x:lA [.v .Dice]} (_:rA [.v .Dice] x) {r:G.Dice × List UInt8}:NH x=some r→LO.raw x=some r:=HA fun h=>by
 simp only [LO.raw,aA,CE]
 rw [wH,QA h]
 cases h1:tC x
 ·rfl
 ·simp only [Bool.not_true,cond_false,Bool.false_or]
  cases (G.Dice.N x==10000) <;> rfl
theorem ZQ {k info:List UInt8} (hk:k.length≤1048576) (hi:info.length≤100):∀ j,(cG k info (j+1)).length=32
 | 0=>EK hk (by simp [cG];omega)
 | j+1=>EK hk (by rw [List.length_append,List.length_append,ZQ hk hi j];simp;omega)
theorem zpU {k info:List UInt8} (hk:k.length≤1048576) (hi:info.length≤100) (j:Nat):(cG k info j).length≤32:=by
 cases j with
 | zero=>exact Nat.zero_le _
 | succ j=>rw [ZQ hk hi];exact Nat.le_refl _
theorem jN {k info:List UInt8} (hk:k.length≤1048576) (hi:info.length≤100):∀ j,(HF k info j).length=32 *j
 | 0=>rfl
 | j+1=>by rw [HF,List.length_append,jN hk hi j,ZQ hk hi];omega
theorem zpV {k info:List UInt8} (hk:k.length≤1048576) (hi:info.length≤100) (n:Nat) (hn:n≤8160) {R:Type} (z:List UInt8→Option R)
  {f:List UInt8 × List UInt8 × Int→(List UInt8 × List UInt8 × Int→Option R)→Option R}
  (hf:∀ (j:Nat) (K:List UInt8 × List UInt8 × Int→Option R),32 *j<n→f (HF k info j,cG k info j,((j+1:Nat):Int)) K=K (HF k info (j+1),cG k info (j+1),((j+2:Nat):Int)))
  (hz:∀ (j:Nat) (K:List UInt8 × List UInt8 × Int→Option R),n≤32 *j→f (HF k info j,cG k info j,((j+1:Nat):Int)) K=z (HF k info j)):
  tA FU f ([],[],(1:Int))=z (HF k info ((n+31) / 32)):=by
 have key:=TE (f:=f) (g:=fun _=>z (HF k info ((n+31) / 32))) (fun x=>∃ j,x=(HF k info j,cG k info j,((j+1:Nat):Int))∧j≤(n+31) / 32) (fun x=>10000 - x.1.length) (fun x hx K hK=>by
  obtain ⟨j,rfl,hj⟩:=hx
  by_cases hc:32 *j<n
  ·rw [hf j K hc]
   refine hK _ ⟨j+1,rfl,by omega⟩ ?_
   simp only [jN hk hi];omega
  ·rw [hz j K (by omega)]
   have:j=(n+31) / 32:=by omega
   rw [this]) (x:=([],[],(1:Int))) ⟨0,rfl,Nat.zero_le _⟩ (by show 10000 - 0<2^64;omega)
 exact key
theorem zaZ {k info:List UInt8} {n:Int} (h:(!iA n 0 8160||decide ((info.length:Int)>100)||decide ((k.length:Int)>1048576))=true):RG k info n=([],false):=by rw [RG,h];rfl
theorem zeM {k info:List UInt8} {n:Int} (h:(!iA n 0 8160||decide ((info.length:Int)>100)||decide ((k.length:Int)>1048576))=false):RG k info n=((HF k info ((n.toNat+31) / 32)).take n.toNat,true):=by rw [RG,h];rfl
theorem ztg (k info:List UInt8) (n:Int):DL.raw k info n=some (RG k info n):=by
 have hL:=qA
 simp only [DL.raw,aA]
 cases h1:iA n 0 8160
 ·rw [zaZ (by rw [h1];rfl)];rfl
 cases h2:decide ((info.length:Int)>100)
 case true=>rw [zaZ (by rw [h1,h2];rfl)];rfl
 cases h3:decide ((k.length:Int)>1048576)
 case true=>rw [zaZ (by rw [h1,h2,h3];rfl)];rfl
 rw [zeM (by rw [h1,h2,h3];rfl)]
 have h1:=OC.1 h1
 have h2:info.length≤100:=by have:=of_decide_eq_false h2;omega
 have h3:k.length≤1048576:=by have:=of_decide_eq_false h3;omega
 obtain ⟨m,rfl⟩:=Int.eq_ofNat_of_zero_le h1.1
 simp only [Bool.not_true,cond_false,Int.toNat_natCast]
 refine zpV (R:=List UInt8 × Bool) h3 h2 m (by omega) (fun o=>some (o.take m,true)) (fun j K hj=>?_) (fun j K hj=>?_)
 ·have AW:=zpU h3 h2 j
  simp only
  rw [jN h3 h2,decide_eq_true (by omega),cond_true,DI (by omega),cond_true,List.nil_append,decide_eq_true (by omega),cond_true,decide_eq_true (by simp;omega),cond_true]
  have:FD k (cG k info j++info++[UInt8.ofNat (IntKind.wrap .u8 ((j+1:Nat):Int)).toNat])=cG k info (j+1):=rfl
  rw [this,ZQ h3 h2,decide_eq_true (by omega),cond_true,cA,XC (j+1) (by rw [QC];omega)]
  rfl
 ·rw [jN h3 h2,decide_eq_false (by omega),cond_false,decide_eq_true (by omega),decide_eq_true (by omega),decide_eq_true (by omega)]
  simp only [Bool.and_self,cond_true,List.drop_zero,Int.sub_zero,Int.toNat_natCast]
  rw [DI (by rw [List.length_take];omega)];rfl
theorem DL.ok {x:lA [.sl .byte, .sl .byte, .v .int]} (_:rA [.sl .byte, .sl .byte, .v .int] x):DL.raw x.1 x.2.1 x.2.2=some (RG x.1 x.2.1 x.2.2):=ztg x.1 x.2.1 x.2.2
theorem uO.ok {x:lA [.sl .byte, .v .str]} (_:rA [.sl .byte, .v .str] x) {r:List UInt8}:jF x.1 x.2=some r→uO.raw x.1 x.2=some r:=HA fun h=>by
 rw [LA] at h
 simp only [uO.raw,Nat.ble_eq_true_of_le h,cond_true];rfl
theorem zpv {k l:List UInt8} (hk:k.length≤1048576) (hl:l.length≤100):(lJ k l).length=32:=by
 rw [lJ,zeM (by rw [show iA 32 0 8160=true from rfl,decide_eq_false (by omega),decide_eq_false (by omega)];rfl)]
 show (List.take 32 _).length=32
 rw [List.length_take,jN hk hl];rfl
theorem zem (k l:List UInt8):(lJ k l).length≤32:=by
 rw [lJ,RG]
 cases (!iA 32 0 8160||decide ((l.length:Int)>100)||decide ((k.length:Int)>1048576))
 ·show (List.take 32 _).length≤32
  rw [List.length_take];omega
 ·exact Nat.zero_le _
theorem zqJ:wt ([106,97,114]:List UInt8)≤bA:=by rw [LA,qA];decide
theorem CO.ok {x:lA [.sl .byte]} (_:rA [.sl .byte] x):CO.raw x=some (nF x):=by
 simp only [CO.raw,nF,MB]
 rw [jF,QA zqJ,bne]
 cases ((List.length (α:=UInt8) x:Int)==12) <;> rfl
theorem QO.ok {x:lA [.v .int]} (_:rA [.v .int] x):QO.raw x=some (YD x):=by
 simp only [QO.raw,YD]
 cases iA x 1 6 <;> rfl
theorem QN (b:List UInt8):(nF b).Secret.length≤32:=by
 rw [nF]
 cases MB b
 ·exact Nat.zero_le _
 ·exact zem _ _
theorem zfT (d:G.Dice):(CE d).1.Seed=d.Seed:=by
 rw [CE]
 cases (!tC d||d.N==10000) <;> rfl
theorem zb8 (n:Int):wt (YD n)=0:=by
 rw [YD]
 cases iA n 1 6 <;> rfl
theorem ES (p:List (List UInt8)) (s:List UInt8) (m:Int):wt (QB p s m)≤wt p+wt s+32:=by
 rw [LM,fV,KM]
 have h1:=QN (CE ⟨s,0⟩).2
 have h2:=zfT ⟨s,0⟩
 have h3:=zb8 m
 show wt p+wt (nF (CE ⟨s,0⟩).2).Secret+wt (CE ⟨s,0⟩).1.Seed+wt (YD m)+0≤_
 rw [h2,h3,LA];show wt p+_+wt s+0+0≤_;omega
theorem NO.ok {x:lA [.sl .bs, .sl .byte, .v .int]} (_:rA [.sl .bs, .sl .byte, .v .int] x) {r:G.Server}:mL x.1 x.2.1 x.2.2=some r→NO.raw x.1 x.2.1 x.2.2=some r:=HA fun h=>by
 obtain ⟨p,s,m⟩:=x
 simp only at h
 have hL:=qA
 have hw:=ES p s m
 have hl:=CB p
 simp only [NO.raw,GJ]
 rw [NH,QA (by rw [KM];show wt s≤bA;omega)]
 simp only [aA]
 have key:=zfq (σ:=G.Server) (R:=G.Server) p.length (by rw [QC];omega) (f:=fun (x6:Int × G.Server) k7=>cond (decide (x6.1<(p.length:Int))) (Option.bind (pA p x6.1) fun e8=>
   cond (decide (([]:List UInt8).length+e8.length≤bA)) (cond (decide (x6.2.Psks.length+[[]++e8].length≤bA)) (k7 ((cA .i64 x6.1 1),(⟨x6.2.Psks++[[]++e8],x6.2.J,x6.2.D,x6.2.T,x6.2.Cr⟩:G.Server))) none) none)
   (Option.bind (dD x6.2) fun r9=>cond (!r9) (some (⟨[],(⟨[]⟩:G.Jar),(⟨[],0⟩:G.Dice),(⟨0,[]⟩:G.Tab),[]⟩:G.Server)) (some x6.2)))
  (g:=fun _ _=>some (bif cD (QB p s m) then QB p s m else DS)) (fun i t=>t=⟨p.take i,(QB p s m).J,(QB p s m).D,(QB p s m).T,[]⟩)
  (fun i t k hi ht hk=>by
   subst ht
   have hwg:=mD hi
   rw [LA] at hwg
   simp only
   rw [zq7 hi,cond_true,nB hi,dB,DI (by omega),cond_true,decide_eq_true (by simp;omega),cond_true,List.nil_append, ← EM p hi]
   exact hk _ rfl)
  (fun t k ht=>by
   subst ht
   simp only [List.take_length]
   rw [zq6,cond_false]
   show Option.bind (dD (QB p s m)) _=_
   rw [dD,QA (by omega)]
   cases cD (QB p s m) <;> rfl) 0 ⟨[],(QB p s m).J,(QB p s m).D,(QB p s m).T,[]⟩ (Nat.zero_le _) rfl
 exact key
theorem zef (id:Int) (psk:List UInt8) (a:G.Addr):wt (bG id psk a)=wt psk:=by
 rw [JM]
 show wt psk+0+0+0+0+0+0=_
 omega
theorem zee (id:Int) (psk:List UInt8) (a:G.Addr):LE (bG id psk a)=(iA id 1 9&&mC psk&&oB a):=by
 show (iA id 1 9&&mC psk&&oB a&&true)=_
 rw [Bool.and_true]
theorem tO.ok {x:lA [.v .int, .sl .byte, .v .Addr]} (_:rA [.v .int, .sl .byte, .v .Addr] x) {r:G.Client}:uH x.1 x.2.1 x.2.2=some r→tO.raw x.1 x.2.1 x.2.2=some r:=HA fun h=>by
 obtain ⟨id,psk,a⟩:=x
 simp only at h
 rw [LA] at h
 simp only [tO.raw,CC,aA]
 rw [DI h]
 cases iA id 1 9
 ·rfl
 cases mC psk
 ·rfl
 cases oB a <;> rfl
theorem lP.ok {x:lA [.sl .byte]} (_:rA [.sl .byte] x) {r:G.Note}:KH x=some r→lP.raw x=some r:=HA fun h=>by
 rw [LA] at h
 simp only [lP.raw]
 rw [DI h];rfl
theorem oP.ok {x:lA [.sl .byte]} (_:rA [.sl .byte] x) {r:List UInt8}:CS x=some r→oP.raw x=some r:=HA fun h=>by
 rw [LA] at h
 have hL:=qA
 simp only [oP.raw,aA,List.nil_append]
 rw [DI h,cond_true]
 by_cases hc:31<List.length (α:=UInt8) x
 ·rw [decide_eq_true (by omega),cond_true,decide_eq_true (by omega),decide_eq_true (by omega),decide_eq_true (by omega)]
  simp only [Bool.and_self,cond_true]
  rw [decide_eq_true (by simp;omega)];rfl
 ·rw [decide_eq_false (by omega),cond_false,decide_eq_true (by simp;omega),cond_true,TF,List.take_of_length_le (by omega)];rfl
theorem zcf (a b:List UInt8):wt ([a,b]:List (List UInt8))=wt a+wt b+2:=by rw [fD,fD,BG];omega
theorem zpx {s a b:List UInt8} {m:Int} (h:cD (QB [a,b] s m)=true):1≤s.length∧s.length≤32:=by
 simp only [cD,Bool.and_eq_true] at h
 have h1:=h.1.1.1.1.2
 rw [show (QB [a,b] s m).D=(CE ⟨s,0⟩).1 from rfl,tC,Bool.and_eq_true,zfT] at h1
 have h2:1≤(s.length:Int)∧(s.length:Int)≤32:=OC.1 h1.1
 exact ⟨by omega,by omega⟩
theorem OQ (s:List UInt8) (n:Int):(NC s n).length≤12:=by
 rw [NC]
 cases iA (s.length:Int) 1 32&&iA n 0 10000
 ·exact Nat.zero_le _
 ·simp only [cond_true,List.length_take];omega
theorem XO.ok {x:lA [.sl .byte, .sl .byte, .sl .byte, .v .int]} (_:rA [.sl .byte, .sl .byte, .sl .byte, .v .int] x) {r:G.World}:dV x.1 x.2.1 x.2.2.1 x.2.2.2=some r→XO.raw x.1 x.2.1 x.2.2.1 x.2.2.2=some r:=HA fun h=>by
 obtain ⟨s,a,b,m⟩:=x
 simp only at h
 have hL:=qA
 have hw:=ES [a,b] s m
 rw [zcf] at hw
 simp only [XO.raw,GP]
 rw [mL,QA (by rw [zcf];omega)]
 cases hs:cD (QB [a,b] s m)
 ·have e:GJ [a,b] s m=DS:=by rw [GJ,hs];rfl
  rw [e,dD,QA (by show 0≤_;omega)];rfl
 have e:GJ [a,b] s m=QB [a,b] s m:=by rw [GJ,hs];rfl
 have hj:((QB [a,b] s m).J).Secret.length≤32:=QN _
 have hdl:=OQ s 0
 rw [e,dD,QA (by omega),hs]
 simp only [Bool.not_true,cond_false,cond_true]
 rw [CS,QA (by omega),uH,QA (by omega),uH,QA (by omega),KH,QA (by rw [LA];omega),DI (by omega)]
 rfl
end Go.D
namespace Go.D
theorem zed (id:Int) (psk:List UInt8) (a:G.Addr):wt (CC id psk a)≤wt psk:=by
 rw [CC]
 cases (iA id 1 9&&mC psk&&oB a)
 ·rw [cond_false,zef];exact Nat.zero_le _
 ·rw [cond_true,zef];exact Nat.le_refl _
theorem zrw (b:List UInt8):wt (BE b)=b.length:=by
 rw [AG]
 show 0+0+wt b+0+0=_
 rw [LA];omega
theorem zrv (b:List UInt8):wt (aO b)=b.length:=by
 rw [AG]
 show 0+0+0+wt b+0=_
 rw [LA];omega
theorem zvn (s a b:List UInt8) (m:Int):wt (GP s a b m)≤2 *wt a+2 *wt b+wt s+200:=by
 rw [GP]
 cases cD (QB [a,b] s m)
 ·exact Nat.zero_le _
 ·have h1:=zed 1 a (pB 1)
  have h2:=zed 2 b (pB 2)
  have h3:=ES [a,b] s m
  have h4:=OQ s 0
  have h5:(QB [a,b] s m).J.Secret.length≤32:=QN _
  have h6:(TF s).length≤32:=by rw [TF,List.length_append,List.length_take];simp;omega
  have h7:=zrw (NC s 0)
  have h8:=zrv (QB [a,b] s m).J.Secret
  rw [zcf] at h3
  rw [cond_true,IP,KM]
  show wt [CC 1 a (pB 1),CC 2 b (pB 2)]+wt (QB [a,b] s m)+wt (TF s)+0+0+wt [BE (NC s 0),aO (QB [a,b] s m).J.Secret]≤_
  rw [fD,fD,BG,fD,fD,BG,LA,h7,h8]
  omega
theorem zvo {s a b:List UInt8} {m:Int} (h:cD (QB [a,b] s m)=true):VF (eV s a b m)=true∧CC 1 a (pB 1)=bG 1 a (pB 1)∧CC 2 b (pB 2)=bG 2 b (pB 2)∧
  (QB [a,b] s m).J.Secret.length=32∧(QB [a,b] s m).T.L=[]:=by
 have hd:=zpx h
 have hs:=h
 simp only [cD,Bool.and_eq_true] at h
 have hj:(QB [a,b] s m).J.Secret.length=32:=by
  have:=h.1.1.1.1.1.2
  simp only [xE,beq_iff_eq] at this
  omega
 have hp:=h.1.2
 have F1:mC a=true∧mC b=true:=by
  have:(QB [a,b] s m).Psks=[a,b]:=rfl
  rw [this] at hp
  simpa using hp
 have ha:CC 1 a (pB 1)=bG 1 a (pB 1):=by rw [CC,F1.1];rfl
 have hb:CC 2 b (pB 2)=bG 2 b (pB 2):=by rw [CC,F1.2];rfl
 have hdl:=OQ s 0
 have hT:(QB [a,b] s m).T.L=[]:=by
  show (YD m).L=[]
  rw [YD];cases iA m 1 6 <;> rfl
 refine ⟨?_,ha,hb,hj,hT⟩
 have dZ:AA (BE (NC s 0))=true:=by
  have:(NC s 0).length=12:=by
   rw [NC,show iA (s.length:Int) 1 32=true from OC.2 ⟨by omega,by omega⟩]
   show (List.take 12 _).length=12
   rw [List.length_take,EK (by omega) (by rw [zbF];omega)];rfl
  show (iA 14 1 17&&iA 0 0 9&&iA 0 0 1&&NE [] 12&&NE [] 12&&iA 0 0 4294967295&&iA 0 0 281474976710655&&decide (((NC s 0).length:Int)≤100)&&NE [] 32&&oB ⟨0,0⟩&&iA 0 0 1000000)=true
  rw [this];rfl
 have I6:AA (aO (QB [a,b] s m).J.Secret)=true:=by
  show (iA 12 1 17&&iA 0 0 9&&iA 0 0 1&&NE [] 12&&NE [] 12&&iA 0 0 4294967295&&iA 0 0 281474976710655&&decide ((([]:List UInt8).length:Int)≤100)&&tJ ((QB [a,b] s m).J.Secret.length:Int) 32&&oB ⟨0,0⟩&&iA 0 0 1000000)=true
  rw [hj];rfl
 have bAA:tC ⟨TF s,0⟩=true:=by
  have:1≤(TF s).length∧(TF s).length≤32:=by rw [TF,List.length_append,List.length_take];simp;omega
  show (iA ((TF s).length:Int) 1 32&&iA 0 0 10000)=true
  rw [OC.2 ⟨by omega,by omega⟩];rfl
 have hcb:YA 2 (iI (eV s a b m))=false:=by
  refine ZH.2 fun i hi=>?_
  match i,hi with
  | 0,_=>
   show (!LE (CC 1 a (pB 1))||(CC 1 a (pB 1)).Id !=((0+1:Nat):Int)||!((CC 1 a (pB 1)).Psk==a))=false
   rw [ha,zee,F1.1]
   simp [bG];decide
  | 1,_=>
   show (!LE (CC 2 b (pB 2))||(CC 2 b (pB 2)).Id !=((1+1:Nat):Int)||!((CC 2 b (pB 2)).Psk==b))=false
   rw [hb,zee,F1.2]
   simp [bG];decide
 show (iA 0 0 1000000&&true&&cD (QB [a,b] s m)&&true&&tC ⟨TF s,0⟩&&true&&true&&!(YA 2 (iI (eV s a b m)))&&true&&!(!AA (BE (NC s 0))||(!AA (aO (QB [a,b] s m).J.Secret)||false)))=true
 rw [hs,bAA,hcb,dZ,I6];rfl
end Go.D
