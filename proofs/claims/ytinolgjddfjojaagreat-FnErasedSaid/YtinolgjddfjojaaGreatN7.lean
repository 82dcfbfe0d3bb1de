/-
  Sizes of the program's data.
-/
import Derived.Test.YtinolgjddfjojaaGreatN6
namespace Go.D
end Go.D
namespace Go.D
noncomputable section
def big (code:List UInt8):Bool:=decide ((code.length:Int)>1048576)
def diceCopyO (d:G.Dice):Option G.Dice:=pt (wt d≤LIM) d
def rollD (d:G.Dice):G.Dice × List UInt8:=bif !diceOk d||d.N==10000 then (d,[]) else (⟨d.Seed,iadd .i64 d.N 1⟩,diceAt d.Seed d.N)
def rollO (d:G.Dice):Option (G.Dice × List UInt8):=pt (wt d≤LIM) (rollD d)
def expLast (k info:List UInt8):Nat→List UInt8
  | 0=>[]
  | j+1=>hmac k (expLast k info j++info++[UInt8.ofNat (IntKind.wrap .u8 ((j+1:Nat):Int)).toNat])
def expOut (k info:List UInt8):Nat→List UInt8
  | 0=>[]
  | j+1=>expOut k info j++expLast k info (j+1)
def expand (k info:List UInt8) (n:Int):List UInt8 × Bool:=
  bif !inR n 0 8160||decide ((info.length:Int)>100)||decide ((k.length:Int)>1048576) then ([],false) else ((expOut k info ((n.toNat+31) / 32)).take n.toNat,true)
def derive (k label:List UInt8):List UInt8:=(expand k label 32).1
def deriveO (k label:List UInt8):Option (List UInt8):=pt (wt label≤LIM) (derive k label)
def jarNew (b:List UInt8):G.Jar:=bif isNonce b then ⟨derive b [106,97,114]⟩ else ⟨[]⟩
def tabNew (n:Int):G.Tab:=bif inR n 1 6 then ⟨n,[]⟩ else ⟨0,[]⟩
def server0:G.Server:=⟨[],⟨[]⟩,⟨[],0⟩,⟨0,[]⟩,[]⟩
def serverOf (psks:List (List UInt8)) (seed:List UInt8) (most:Int):G.Server:=⟨psks,jarNew (rollD ⟨seed,0⟩).2,(rollD ⟨seed,0⟩).1,tabNew most,[]⟩
def serverNew (psks:List (List UInt8)) (seed:List UInt8) (most:Int):G.Server:=bif serverOk (serverOf psks seed most) then serverOf psks seed most else server0
def serverNewO (psks:List (List UInt8)) (seed:List UInt8) (most:Int):Option G.Server:=pt (wt psks+wt seed+1000≤LIM) (serverNew psks seed most)
def frame0:G.Frame:=⟨0,0,[],[],0,[],[],0,0,[],[]⟩
def chan0:G.Chan:=⟨0,[],ep00,ep00,false,0,[]⟩
def timer0:G.Timer:=⟨false,0,0,0⟩
def clientOf (id:Int) (psk:List UInt8) (a:G.Addr):G.Client:=⟨id,psk,a,0,[],frame0,chan0,timer0,timer0,0⟩
def clientNew (id:Int) (psk:List UInt8) (a:G.Addr):G.Client:=bif inR id 1 9&&pskOk psk&&addrOk a then clientOf id psk a else clientOf 0 [] ⟨0,0⟩
def clientNewO (id:Int) (psk:List UInt8) (a:G.Addr):Option G.Client:=pt (wt psk≤LIM) (clientNew id psk a)
def noteRolled (b:List UInt8):G.Note:=⟨14,0,0,[],[],0,0,b,[],⟨0,0⟩,0⟩
def noteBoot (k:List UInt8):G.Note:=⟨12,0,0,[],[],0,0,[],k,⟨0,0⟩,0⟩
def noteRolledO (b:List UInt8):Option G.Note:=pt (wt b≤LIM) (noteRolled b)
def seed25 (s:List UInt8):List UInt8:=s.take 31++[99]
def seed25O (s:List UInt8):Option (List UInt8):=pt (wt s≤LIM) (seed25 s)
def world0:G.World:=⟨0,[],server0,⟨[],0⟩,[],[],[]⟩
def worldOf (s a b:List UInt8) (most:Int):G.World:=⟨0,[clientNew 1 a (near 1),clientNew 2 b (near 2)],serverOf [a,b] s most,⟨seed25 s,0⟩,[],[],[noteRolled (diceAt s 0),noteBoot (serverOf [a,b] s most).J.Secret]⟩
def worldNew (s a b:List UInt8) (most:Int):G.World:=bif serverOk (serverOf [a,b] s most) then worldOf s a b most else world0
def worldNewO (s a b:List UInt8) (most:Int):Option G.World:=pt (wt a+wt b+wt s+2000≤LIM) (worldNew s a b most)
end
end Go.D
namespace Go.D
noncomputable section
def laws_big.raw (a0:List UInt8):Option Bool:=
  some (decide ((a0.length:Int)>1048576))
def spec_l1New.raw (a0:List UInt8):Option G.Cur:=
  joinK (fun (y1:Int)=>
  some (⟨a0,0,y1⟩:G.Cur)) fun k2=>
  loopK FU (fun (x3:Int × Int) k4=>
  joinK (fun (y5:Bool)=>
  cond (y5)
  (Option.bind (idxI a0 x3.2) fun e7=>
  let x8:Int:=IntKind.wrap .i64 ((e7.toNat:Nat):Int)
  let x9:Int:=iadd .i64 (iadd .i64 (imul .i64 x3.1 137) x8) 11
  k4 ((iand .i64 x9 1073741823),(iadd .i64 x3.2 1)))
  (k2 x3.1)) fun k6=>
  cond (decide (x3.2<(a0.length:Int)))
  (k6 (decide (x3.2<4000)))
  (k6 false)) ((iadd .i64 127812 (a0.length:Int)),0)
def spec_l1Byte.raw (a0:G.Cur):Option (Int × G.Cur):=
  let x1:Int:=iadd .i64 (imul .i64 a0.h 6364136223846793005) 1442695040888963407
  let x2:Int:=ixor .i64 (ishr .i64 x1 33) (ishr .i64 x1 47)
  joinK (fun (y3:Int × G.Cur)=>
  some (y3.1,y3.2)) fun k4=>
  cond (decide (a0.i<(a0.b.length:Int)))
  (Option.bind (idxI a0.b a0.i) fun e5=>
  let x6:Int:=IntKind.wrap .i64 ((e5.toNat:Nat):Int)
  let x7:Int:=iand .i64 (iadd .i64 (iand .i64 x2 255) x6) 255
  k4 (x7,(⟨a0.b,iadd .i64 a0.i 1,x1⟩:G.Cur)))
  (k4 ((iand .i64 x2 255),(⟨a0.b,a0.i,x1⟩:G.Cur)))
def spec_l1Below.raw (a0:G.Cur) (a1:Int):Option (Int × G.Cur):=
  cond (decide (a1≤0))
  (some (0,a0))
  (cond (decide (a1≤256))
  (Option.bind (spec_l1Byte.raw a0) fun r1=>
  cond (a1==0) none (some (irem .i64 r1.1 a1,r1.2)))
  (Option.bind (spec_l1Byte.raw a0) fun r2=>
  Option.bind (spec_l1Byte.raw r2.2) fun r3=>
  Option.bind (spec_l1Byte.raw r3.2) fun r4=>
  let x5:Int:=iadd .i64 (imul .i64 r2.1 65536) (imul .i64 r3.1 256)
  cond (a1==0) none (some (irem .i64 (iadd .i64 x5 r4.1) a1,r4.2))))
def spec_l1Int.raw (a0:G.Cur) (a1:List Int):Option (Int × G.Cur):=
  Option.bind (spec_l1Below.raw a0 (a1.length:Int)) fun r1=>
  Option.bind (idxI a1 r1.1) fun e2=>
  some (e2,r1.2)
def spec_l1Bytes.raw (a0:G.Cur) (a1:Int):Option ((List UInt8) × G.Cur):=
  joinK (fun (y1:(List UInt8) × G.Cur)=>
  some (y1.1,y1.2)) fun k2=>
  loopK FU (fun (x3:(List UInt8) × Int × G.Cur) k4=>
  cond (decide (x3.2.1<a1))
  (Option.bind (spec_l1Byte.raw x3.2.2) fun r5=>
  cond (decide (x3.1.length+[UInt8.ofNat (IntKind.wrap .u8 r5.1:Int).toNat].length≤LIM)) (k4 ((x3.1++[UInt8.ofNat (IntKind.wrap .u8 r5.1:Int).toNat]),(iadd .i64 x3.2.1 1),r5.2)) none)
  (k2 (x3.1,x3.2.2))) ([],0,a0)
def spec_l10Copy.raw (a0:G.Dice):Option G.Dice:=
  cond (decide (([]:List UInt8).length+a0.Seed.length≤LIM)) (some (⟨[]++a0.Seed,a0.N⟩:G.Dice)) none
def spec_Roll.raw (a0:G.Dice):Option (G.Dice × (List UInt8)):=
  Option.bind (diceCopyO a0) fun r1=>
  joinK (fun (y2:Bool)=>
  cond (y2)
  (some (r1,[]))
  (let r4:(List UInt8):=diceAt a0.Seed a0.N
  some ((⟨r1.Seed,iadd .i64 a0.N 1⟩:G.Dice),r4))) fun k3=>
  cond (!(diceOk a0))
  (k3 true)
  (k3 (a0.N==10000))
def spec_Expand.raw (a0:List UInt8) (a1:List UInt8) (a2:Int):Option ((List UInt8) × Bool):=
  joinK (fun (y1:Bool)=>
  cond (y1)
  (some ([],false))
  (joinK (fun (y3:(List UInt8) × (List UInt8))=>
  cond (decide (0≤(0:Int))&&decide ((0:Int)≤a2)&&decide (a2≤(y3.1.length:Int))) (cond (decide (([]:List UInt8).length+(List.take ((a2 - 0).toNat) (List.drop 0 y3.1)).length≤LIM)) (some ([]++(List.take ((a2 - 0).toNat) (List.drop 0 y3.1)),true)) none) none) fun k4=>
  loopK FU (fun (x5:(List UInt8) × (List UInt8) × Int) k6=>
  cond (decide ((x5.1.length:Int)<a2))
  (cond (decide (([]:List UInt8).length+x5.2.1.length≤LIM)) (cond (decide (([]++x5.2.1).length+a1.length≤LIM)) (cond (decide ((([]++x5.2.1)++a1).length+[UInt8.ofNat (IntKind.wrap .u8 x5.2.2:Int).toNat].length≤LIM)) (let x7:List UInt8:=(([]++x5.2.1)++a1)++[UInt8.ofNat (IntKind.wrap .u8 x5.2.2:Int).toNat]
  let r8:(List UInt8):=hmac a0 x7
  cond (decide (x5.1.length+r8.length≤LIM)) (k6 ((x5.1++r8),r8,(iadd .i64 x5.2.2 1))) none) none) none) none)
  (k4 (x5.1,x5.2.1))) ([],[],1))) fun k2=>
  cond (!(inR a2 0 8160))
  (k2 true)
  (cond (decide ((a1.length:Int)>100))
  (k2 true)
  (k2 (decide ((a0.length:Int)>1048576))))
def spec_Derive.raw (a0:List UInt8) (a1:List UInt8):Option (List UInt8):=
  cond (Nat.ble a1.length LIM) (let r1:(List UInt8) × Bool:=expand a0 a1 32
  some r1.1) none
def spec_JarNew.raw (a0:List UInt8):Option G.Jar:=
  cond ((a0.length:Int) !=12)
  (some (⟨[]⟩:G.Jar))
  (Option.bind (deriveO a0 [106,97,114]) fun r1=>
  some (⟨r1⟩:G.Jar))
def spec_TabNew.raw (a0:Int):Option G.Tab:=
  cond (!(inR a0 1 6))
  (some (⟨0,[]⟩:G.Tab))
  (some (⟨a0,[]⟩:G.Tab))
def spec_ServerNew.raw (a0:List (List UInt8)) (a1:List UInt8) (a2:Int):Option G.Server:=
  Option.bind (rollO (⟨a1,0⟩:G.Dice)) fun r1=>
  let r2:G.Jar:=jarNew r1.2
  let r3:G.Tab:=tabNew a2
  joinK (fun (y4:G.Server)=>
  Option.bind (serverOkO y4) fun r9=>
  cond (!r9)
  (some (⟨[],(⟨[]⟩:G.Jar),(⟨[],0⟩:G.Dice),(⟨0,[]⟩:G.Tab),[]⟩:G.Server))
  (some y4)) fun k5=>
  loopK FU (fun (x6:Int × G.Server) k7=>
  cond (decide (x6.1<(a0.length:Int)))
  (Option.bind (idxI a0 x6.1) fun e8=>
  cond (decide (([]:List UInt8).length+e8.length≤LIM)) (cond (decide (x6.2.Psks.length+[[]++e8].length≤LIM)) (k7 ((iadd .i64 x6.1 1),(⟨x6.2.Psks++[[]++e8],x6.2.J,x6.2.D,x6.2.T,x6.2.Cr⟩:G.Server))) none) none)
  (k5 x6.2)) (0,(⟨[],r2,r1.1,r3,[]⟩:G.Server))
def spec_l25Seed.raw (a0:List UInt8):Option (List UInt8):=
  cond (decide (([]:List UInt8).length+a0.length≤LIM)) (joinK (fun (y1:(List UInt8))=>
  cond (decide (y1.length+[UInt8.ofNat (99:Int).toNat].length≤LIM)) (some (y1++[UInt8.ofNat (99:Int).toNat])) none) fun k2=>
  cond (decide ((([]++a0).length:Int)>31))
  (cond (decide (0≤(0:Int))&&decide ((0:Int)≤31)&&decide (31≤(([]++a0).length:Int))) (k2 (List.take 31 ([]++a0))) none)
  (k2 ([]++a0))) none
def spec_ClientNew.raw (a0:Int) (a1:List UInt8) (a2:G.Addr):Option G.Client:=
  joinK (fun (y1:Bool)=>
  cond (y1)
  (some (⟨0,[],(⟨0,0⟩:G.Addr),0,[],(⟨0,0,[],[],0,[],[],0,0,[],[]⟩:G.Frame),(⟨0,[],(⟨0,[],0,(⟨0,[]⟩:G.Win)⟩:G.Ep),(⟨0,[],0,(⟨0,[]⟩:G.Win)⟩:G.Ep),false,0,[]⟩:G.Chan),(⟨false,0,0,0⟩:G.Timer),(⟨false,0,0,0⟩:G.Timer),0⟩:G.Client))
  (cond (decide (([]:List UInt8).length+a1.length≤LIM)) (some (⟨a0,[]++a1,a2,0,[],(⟨0,0,[],[],0,[],[],0,0,[],[]⟩:G.Frame),(⟨0,[],(⟨0,[],0,(⟨0,[]⟩:G.Win)⟩:G.Ep),(⟨0,[],0,(⟨0,[]⟩:G.Win)⟩:G.Ep),false,0,[]⟩:G.Chan),(⟨false,0,0,0⟩:G.Timer),(⟨false,0,0,0⟩:G.Timer),0⟩:G.Client)) none)) fun k2=>
  cond (!(inR a0 1 9))
  (k2 true)
  (cond (!(pskOk a1))
  (k2 true)
  (k2 (!(addrOk a2))))
def spec_l22Rolled.raw (a0:List UInt8):Option G.Note:=
  cond (decide (([]:List UInt8).length+a0.length≤LIM)) (some (⟨14,0,0,[],[],0,0,[]++a0,[],(⟨0,0⟩:G.Addr),0⟩:G.Note)) none
def spec_WorldNew.raw (a0:List UInt8) (a1:List UInt8) (a2:List UInt8) (a3:Int):Option G.World:=
  Option.bind (serverNewO [a1,a2] a0 a3) fun r1=>
  Option.bind (serverOkO r1) fun r2=>
  cond (!r2)
  (some (⟨0,[],(⟨[],(⟨[]⟩:G.Jar),(⟨[],0⟩:G.Dice),(⟨0,[]⟩:G.Tab),[]⟩:G.Server),(⟨[],0⟩:G.Dice),[],[],[]⟩:G.World))
  (Option.bind (seed25O a0) fun r3=>
  let r4:G.Addr:=near 1
  Option.bind (clientNewO 1 a1 r4) fun r5=>
  let r6:G.Addr:=near 2
  Option.bind (clientNewO 2 a2 r6) fun r7=>
  let r8:(List UInt8):=diceAt a0 0
  Option.bind (noteRolledO r8) fun r9=>
  cond (decide (([]:List UInt8).length+r1.J.Secret.length≤LIM)) (let x10:List G.Note:=[r9,(⟨12,0,0,[],[],0,0,[],[]++r1.J.Secret,(⟨0,0⟩:G.Addr),0⟩:G.Note)]
  some (⟨0,[r5,r7],r1,(⟨r3,0⟩:G.Dice),[],[],x10⟩:G.World)) none)
end
end Go.D
namespace Go.D
end Go.D
namespace Go.D
def Ok {α:Type} (o:Option α) (P:α→Prop):Prop:=∃ r,o=some r∧P r
theorem Ok.bind {α β:Type} {o:Option α} {P:α→Prop} {Q:β→Prop} {f:α→Option β} (h:Ok o P) (k:∀ r,P r→Ok (f r) Q):Ok (Option.bind o f) Q:=by
  obtain ⟨r,rfl,h⟩:=h;exact k r h
theorem Ok.some' {α:Type} {x:α} {P:α→Prop} (h:P x):Ok (some x) P:=⟨x,rfl,h⟩
theorem Ok.mono {α:Type} {o:Option α} {P Q:α→Prop} (h:Ok o P) (k:∀ r,P r→Q r):Ok o Q:=by
  obtain ⟨r,h1,h2⟩:=h;exact ⟨r,h1,k r h2⟩
theorem Ok.cond' {α:Type} {b:Bool} {x y:Option α} {P:α→Prop} (h1:b=true→Ok x P) (h2:b=false→Ok y P):Ok (cond b x y) P:=by
  cases b
  · exact h2 rfl
  · exact h1 rfl
theorem Ok.loop {σ R:Type} {f:σ→(σ→Option R)→Option R} {P:R→Prop} (inv:σ→Prop) (μ:σ→Nat)
    (h:∀ x,inv x→∀ k:σ→Option R,(∀ y,inv y→μ y<μ x→Ok (k y) P)→Ok (f x k) P) {x:σ} (hx:inv x) (hμ:μ x<2^64):Ok (loopK FU f x) P:=by
  rw [FU_eq]
  have:∀ (n:Nat) (x:σ),inv x→μ x<n→Ok (loopK n f x) P:=by
    intro n
    induction n with
    | zero=>intro x _ hn;omega
    | succ n ih=>intro x hx hn;exact h x hx (loopK n f) fun y hy hlt=>ih y hy (by omega)
  exact this _ x hx hμ
theorem iand_lo (x:Int) (j:Nat) (hj:j<63):0≤iand .i64 x ((2^j - 1:Nat):Int)∧iand .i64 x ((2^j - 1:Nat):Int)≤((2^j - 1:Nat):Int):=by
  have h1:2^j<2^63:=Nat.pow_lt_pow_right (by decide) hj
  have h0:0<2^j:=Nat.two_pow_pos j
  unfold iand
  show 0≤IntKind.wrap .i64 ((BitVec.ofInt 64 x&&&BitVec.ofInt 64 ((2^j - 1:Nat):Int)).toNat:Int)∧IntKind.wrap .i64 ((BitVec.ofInt 64 x&&&BitVec.ofInt 64 ((2^j - 1:Nat):Int)).toNat:Int)≤_
  have h2:(BitVec.ofInt 64 x&&&BitVec.ofInt 64 ((2^j - 1:Nat):Int)).toNat≤2^j - 1:=by
    rw [BitVec.toNat_and,ofInt_nat _ (by omega)]
    exact Nat.and_le_right
  generalize (BitVec.ofInt 64 x&&&BitVec.ofInt 64 ((2^j - 1:Nat):Int)).toNat=m at h2
  rw [wrap_i64 (by omega) (by omega)]
  omega
theorem iand_255 (x:Int):0≤iand .i64 x 255∧iand .i64 x 255≤255:=iand_lo x 8 (by decide)
def CurOk (c:G.Cur):Prop:=0≤c.i∧c.i≤c.b.length∧c.b.length≤1048576
theorem new_tot {code:List UInt8} (h:code.length≤1048576):Ok (spec_l1New.raw code) CurOk:=by
  simp only [spec_l1New.raw,joinK]
  refine Ok.loop (fun x:Int × Int=>0≤x.2∧x.2≤(code.length:Int)) (fun x=>code.length - x.2.toNat) (fun x hx k hk=>?_) ⟨Int.le_refl _,by show (0:Int)≤(code.length:Int);omega⟩ (by show code.length - Int.toNat 0<_;omega)
  obtain ⟨s,i⟩:=x
  obtain ⟨h0,h1⟩:=hx
  simp only at h0 h1 hk ⊢
  obtain ⟨j,rfl⟩:=Int.eq_ofNat_of_zero_le h0
  have fin:Ok (some (⟨code,0,s⟩:G.Cur)) CurOk:= .some' ⟨Int.le_refl _,by show (0:Int)≤_;omega,h⟩
  refine .cond' (fun hj=>?_) fun _=>fin
  have hj:j<code.length:=by simpa using hj
  refine .cond' (fun _=>?_) fun _=>fin
  rw [idxI_get hj,bind_some']
  have:iadd .i64 (j:Int) 1=((j+1:Nat):Int):=iadd_nat j (by rw [maxLen_is];omega)
  rw [this]
  exact hk _ ⟨by show (0:Int)≤((j+1:Nat):Int);omega,by show ((j+1:Nat):Int)≤_;omega⟩ (by simp only [Int.toNat_natCast];omega)
theorem byte_tot {c:G.Cur} (h:CurOk c):Ok (spec_l1Byte.raw c) fun r=>0≤r.1∧r.1≤255∧CurOk r.2:=by
  obtain ⟨h0,h1,h2⟩:=h
  simp only [spec_l1Byte.raw,joinK]
  refine .cond' (fun hc=>?_) fun _=> .some' ⟨(iand_255 _).1,(iand_255 _).2,h0,h1,h2⟩
  have hc:c.i<(c.b.length:Int):=by simpa using hc
  obtain ⟨j,hj⟩:=Int.eq_ofNat_of_zero_le h0
  rw [hj] at hc ⊢
  have hjl:j<c.b.length:=by omega
  rw [idxI_get hjl,bind_some']
  refine .some' ⟨(iand_255 _).1,(iand_255 _).2,?_,?_,h2⟩
  · show 0≤iadd .i64 (j:Int) 1
    rw [iadd,iadd_nat j (by rw [maxLen_is];omega)];omega
  · show iadd .i64 (j:Int) 1≤(c.b.length:Int)
    rw [iadd,iadd_nat j (by rw [maxLen_is];omega)];omega
theorem irem_lo {a n:Int} (ha:0≤a) (hn:0<n):0≤irem .i64 a n∧irem .i64 a n<n:=by
  unfold irem
  rw [Int.tmod_eq_emod_of_nonneg ha]
  exact ⟨Int.emod_nonneg _ (by omega),Int.emod_lt_of_pos _ hn⟩
theorem below_tot {c:G.Cur} {n:Int} (h:CurOk c):Ok (spec_l1Below.raw c n) fun r=>0≤r.1∧(0<n→r.1<n)∧(n≤0→r.1=0)∧CurOk r.2:=by
  simp only [spec_l1Below.raw]
  refine .cond' (fun hn=>?_) fun hn=>?_
  · have hn:n≤0:=by simpa using hn
    exact .some' ⟨Int.le_refl _,fun h=>by omega,fun _=>rfl,h⟩
  · have hn:0<n:=by simpa using hn
    have hn0:(n==0)=false:=by simp;omega
    refine .cond' (fun _=>?_) fun _=>?_
    · refine (byte_tot h).bind fun r hr=>?_
      rw [hn0]
      have:=irem_lo hr.1 hn
      exact .some' ⟨this.1,fun _=>this.2,fun h=>by omega,hr.2.2⟩
    · refine (byte_tot h).bind fun r hr=>(byte_tot hr.2.2).bind fun r2 hr2=>(byte_tot hr2.2.2).bind fun r3 hr3=>?_
      rw [hn0]
      have h1:imul .i64 r.1 65536=r.1 *65536:=wrap_i64 (by omega) (by omega)
      have h2:imul .i64 r2.1 256=r2.1 *256:=wrap_i64 (by omega) (by omega)
      have h3:iadd .i64 (imul .i64 r.1 65536) (imul .i64 r2.1 256)=r.1 *65536+r2.1 *256:=by rw [h1,h2];exact wrap_i64 (by omega) (by omega)
      have h4:iadd .i64 (iadd .i64 (imul .i64 r.1 65536) (imul .i64 r2.1 256)) r3.1=r.1 *65536+r2.1 *256+r3.1:=by rw [h3];exact wrap_i64 (by omega) (by omega)
      simp only [cond_false,h4]
      have:=irem_lo (a:=r.1 *65536+r2.1 *256+r3.1) (by omega) hn
      exact .some' ⟨this.1,fun _=>this.2,fun h=>by omega,hr3.2.2⟩
theorem int_tot {c:G.Cur} {l:List Int} (h:CurOk c) (hl:l≠[]):Ok (spec_l1Int.raw c l) fun r=>r.1 ∈ l∧CurOk r.2:=by
  simp only [spec_l1Int.raw]
  have h0:0<l.length:=List.length_pos_iff.2 hl
  refine (below_tot h).bind fun r hr=>?_
  obtain ⟨j,hj⟩:=Int.eq_ofNat_of_zero_le hr.1
  have:=hr.2.1 (by omega)
  rw [hj] at this ⊢
  have hjl:j<l.length:=by omega
  rw [idxI_get hjl,bind_some']
  exact .some' ⟨List.getElem_mem hjl,hr.2.2.2⟩
theorem bytes_tot {c:G.Cur} {n:Int} (h:CurOk c) (hn:n≤1048576):Ok (spec_l1Bytes.raw c n) fun r=>r.1.length=n.toNat∧CurOk r.2:=by
  have hL:=LIM_is
  simp only [spec_l1Bytes.raw,joinK]
  refine Ok.loop (fun x:List UInt8 × Int × G.Cur=>x.2.1=(x.1.length:Int)∧x.1.length≤n.toNat∧CurOk x.2.2) (fun x=>n.toNat - x.1.length) (fun x hx k hk=>?_) ⟨rfl,Nat.zero_le _,h⟩ (by show n.toNat - 0<_;omega)
  obtain ⟨l,i,d⟩:=x
  obtain ⟨hi,h1,h2⟩:=hx
  simp only at hi h1 h2 hk ⊢
  subst hi
  refine .cond' (fun hc=>?_) fun hc=>?_
  · have hc:(l.length:Int)<n:=by simpa using hc
    refine (byte_tot h2).bind fun r hr=>?_
    rw [decide_eq_true (by simp;omega),cond_true]
    have:iadd .i64 (l.length:Int) 1=((l.length+1:Nat):Int):=iadd_nat _ (by rw [maxLen_is];omega)
    rw [this]
    exact hk _ ⟨by simp,by simp;omega,hr.2.2⟩ (by simp;omega)
  · have hc:¬ (l.length:Int)<n:=by simpa using hc
    exact .some' ⟨by show l.length=_;omega,h2⟩
theorem laws_big.ok {x:TyTup [.sl .byte]} (_:bdTup [.sl .byte] x):laws_big.raw x=some (big x):=rfl
end Go.D
namespace Go.D
theorem loop_all {R:Type} (n:Nat) (hn:n≤maxLen) (z:Option R) {f:Int→(Int→Option R)→Option R}
    (hf:∀ (i:Nat) (k:Int→Option R),i<n→f (i:Int) k=k (IntKind.wrap .i64 ((i:Int)+1))) (hz:∀ k,f (n:Int) k=z):loopK FU f (0:Int)=z:=
  loop_up n hn (f:=f) (g:=fun _=>z) (fun i k hi hk=>by rw [hf i k hi,hk]) hz 0 (Nat.zero_le _)
theorem lt_true {i n:Nat} (h:i<n):decide ((i:Int)<(n:Int))=true:=by simpa using h
theorem lt_self (n:Nat):decide ((n:Int)<(n:Int))=false:=by simp
end Go.D
namespace Go.D
theorem room0 {n:Nat} {α:Type} (h:n≤LIM):decide (([]:List α).length+n≤LIM)=true:=by simpa using h
theorem spec_l10Copy.ok {x:TyTup [.v .Dice]} (_:bdTup [.v .Dice] x) {r:G.Dice}:diceCopyO x=some r→spec_l10Copy.raw x=some r:=pt_ok fun h=>by
  rw [wt_Dice,wt_bytes] at h
  simp only [spec_l10Copy.raw]
  rw [room0 h];rfl
theorem spec_Roll.ok {x:TyTup [.v .Dice]} (_:bdTup [.v .Dice] x) {r:G.Dice × List UInt8}:rollO x=some r→spec_Roll.raw x=some r:=pt_ok fun h=>by
  simp only [spec_Roll.raw,joinK,rollD]
  rw [diceCopyO,pt_bind h]
  cases h1:diceOk x
  · rfl
  · simp only [Bool.not_true,cond_false,Bool.false_or]
    cases (G.Dice.N x==10000) <;> rfl
theorem expLast_len {k info:List UInt8} (hk:k.length≤1048576) (hi:info.length≤100):∀ j,(expLast k info (j+1)).length=32
  | 0=>hmac_len hk (by simp [expLast];omega)
  | j+1=>hmac_len hk (by rw [List.length_append,List.length_append,expLast_len hk hi j];simp;omega)
theorem expLast_le {k info:List UInt8} (hk:k.length≤1048576) (hi:info.length≤100) (j:Nat):(expLast k info j).length≤32:=by
  cases j with
  | zero=>exact Nat.zero_le _
  | succ j=>rw [expLast_len hk hi];exact Nat.le_refl _
theorem expOut_len {k info:List UInt8} (hk:k.length≤1048576) (hi:info.length≤100):∀ j,(expOut k info j).length=32 *j
  | 0=>rfl
  | j+1=>by rw [expOut,List.length_append,expOut_len hk hi j,expLast_len hk hi];omega
theorem exp_loop {k info:List UInt8} (hk:k.length≤1048576) (hi:info.length≤100) (n:Nat) (hn:n≤8160) {R:Type} (z:List UInt8→Option R)
    {f:List UInt8 × List UInt8 × Int→(List UInt8 × List UInt8 × Int→Option R)→Option R}
    (hf:∀ (j:Nat) (K:List UInt8 × List UInt8 × Int→Option R),32 *j<n→f (expOut k info j,expLast k info j,((j+1:Nat):Int)) K=K (expOut k info (j+1),expLast k info (j+1),((j+2:Nat):Int)))
    (hz:∀ (j:Nat) (K:List UInt8 × List UInt8 × Int→Option R),n≤32 *j→f (expOut k info j,expLast k info j,((j+1:Nat):Int)) K=z (expOut k info j)):
    loopK FU f ([],[],(1:Int))=z (expOut k info ((n+31) / 32)):=by
  have key:=loop_FU (f:=f) (g:=fun _=>z (expOut k info ((n+31) / 32))) (fun x=>∃ j,x=(expOut k info j,expLast k info j,((j+1:Nat):Int))∧j≤(n+31) / 32) (fun x=>10000 - x.1.length) (fun x hx K hK=>by
    obtain ⟨j,rfl,hj⟩:=hx
    by_cases hc:32 *j<n
    · rw [hf j K hc]
      refine hK _ ⟨j+1,rfl,by omega⟩ ?_
      simp only [expOut_len hk hi];omega
    · rw [hz j K (by omega)]
      have:j=(n+31) / 32:=by omega
      rw [this]) (x:=([],[],(1:Int))) ⟨0,rfl,Nat.zero_le _⟩ (by show 10000 - 0<2^64;omega)
  exact key
theorem expand_bad {k info:List UInt8} {n:Int} (h:(!inR n 0 8160||decide ((info.length:Int)>100)||decide ((k.length:Int)>1048576))=true):expand k info n=([],false):=by rw [expand,h];rfl
theorem expand_good {k info:List UInt8} {n:Int} (h:(!inR n 0 8160||decide ((info.length:Int)>100)||decide ((k.length:Int)>1048576))=false):expand k info n=((expOut k info ((n.toNat+31) / 32)).take n.toNat,true):=by rw [expand,h];rfl
theorem spec_Expand_raw (k info:List UInt8) (n:Int):spec_Expand.raw k info n=some (expand k info n):=by
  have hL:=LIM_is
  simp only [spec_Expand.raw,joinK]
  cases h1:inR n 0 8160
  · rw [expand_bad (by rw [h1];rfl)];rfl
  cases h2:decide ((info.length:Int)>100)
  case true=>rw [expand_bad (by rw [h1,h2];rfl)];rfl
  cases h3:decide ((k.length:Int)>1048576)
  case true=>rw [expand_bad (by rw [h1,h2,h3];rfl)];rfl
  rw [expand_good (by rw [h1,h2,h3];rfl)]
  have h1:=inR_iff.1 h1
  have h2:info.length≤100:=by have:=of_decide_eq_false h2;omega
  have h3:k.length≤1048576:=by have:=of_decide_eq_false h3;omega
  obtain ⟨m,rfl⟩:=Int.eq_ofNat_of_zero_le h1.1
  simp only [Bool.not_true,cond_false,Int.toNat_natCast]
  refine exp_loop (R:=List UInt8 × Bool) h3 h2 m (by omega) (fun o=>some (o.take m,true)) (fun j K hj=>?_) (fun j K hj=>?_)
  · have hle:=expLast_le h3 h2 j
    simp only
    rw [expOut_len h3 h2,decide_eq_true (by omega),cond_true,room0 (by omega),cond_true,List.nil_append,decide_eq_true (by omega),cond_true,decide_eq_true (by simp;omega),cond_true]
    have:hmac k (expLast k info j++info++[UInt8.ofNat (IntKind.wrap .u8 ((j+1:Nat):Int)).toNat])=expLast k info (j+1):=rfl
    rw [this,expLast_len h3 h2,decide_eq_true (by omega),cond_true,iadd,iadd_nat (j+1) (by rw [maxLen_is];omega)]
    rfl
  · rw [expOut_len h3 h2,decide_eq_false (by omega),cond_false,decide_eq_true (by omega),decide_eq_true (by omega),decide_eq_true (by omega)]
    simp only [Bool.and_self,cond_true,List.drop_zero,Int.sub_zero,Int.toNat_natCast]
    rw [room0 (by rw [List.length_take];omega)];rfl
theorem spec_Expand.ok {x:TyTup [.sl .byte, .sl .byte, .v .int]} (_:bdTup [.sl .byte, .sl .byte, .v .int] x):spec_Expand.raw x.1 x.2.1 x.2.2=some (expand x.1 x.2.1 x.2.2):=spec_Expand_raw x.1 x.2.1 x.2.2
theorem spec_Derive.ok {x:TyTup [.sl .byte, .v .str]} (_:bdTup [.sl .byte, .v .str] x) {r:List UInt8}:deriveO x.1 x.2=some r→spec_Derive.raw x.1 x.2=some r:=pt_ok fun h=>by
  rw [wt_bytes] at h
  simp only [spec_Derive.raw,Nat.ble_eq_true_of_le h,cond_true];rfl
theorem derive_len {k l:List UInt8} (hk:k.length≤1048576) (hl:l.length≤100):(derive k l).length=32:=by
  rw [derive,expand_good (by rw [show inR 32 0 8160=true from rfl,decide_eq_false (by omega),decide_eq_false (by omega)];rfl)]
  show (List.take 32 _).length=32
  rw [List.length_take,expOut_len hk hl];rfl
theorem derive_le (k l:List UInt8):(derive k l).length≤32:=by
  rw [derive,expand]
  cases (!inR 32 0 8160||decide ((l.length:Int)>100)||decide ((k.length:Int)>1048576))
  · show (List.take 32 _).length≤32
    rw [List.length_take];omega
  · exact Nat.zero_le _
theorem jarB:wt ([106,97,114]:List UInt8)≤LIM:=by rw [wt_bytes,LIM_is];decide
theorem spec_JarNew.ok {x:TyTup [.sl .byte]} (_:bdTup [.sl .byte] x):spec_JarNew.raw x=some (jarNew x):=by
  simp only [spec_JarNew.raw,jarNew,isNonce]
  rw [deriveO,pt_bind jarB,bne]
  cases ((List.length (α:=UInt8) x:Int)==12) <;> rfl
theorem spec_TabNew.ok {x:TyTup [.v .int]} (_:bdTup [.v .int] x):spec_TabNew.raw x=some (tabNew x):=by
  simp only [spec_TabNew.raw,tabNew]
  cases inR x 1 6 <;> rfl
theorem jarNew_le (b:List UInt8):(jarNew b).Secret.length≤32:=by
  rw [jarNew]
  cases isNonce b
  · exact Nat.zero_le _
  · exact derive_le _ _
theorem rollD_seed (d:G.Dice):(rollD d).1.Seed=d.Seed:=by
  rw [rollD]
  cases (!diceOk d||d.N==10000) <;> rfl
theorem tabNew_wt (n:Int):wt (tabNew n)=0:=by
  rw [tabNew]
  cases inR n 1 6 <;> rfl
theorem serverOf_wt (p:List (List UInt8)) (s:List UInt8) (m:Int):wt (serverOf p s m)≤wt p+wt s+32:=by
  rw [wt_Server,wt_Jar,wt_Dice]
  have h1:=jarNew_le (rollD ⟨s,0⟩).2
  have h2:=rollD_seed ⟨s,0⟩
  have h3:=tabNew_wt m
  show wt p+wt (jarNew (rollD ⟨s,0⟩).2).Secret+wt (rollD ⟨s,0⟩).1.Seed+wt (tabNew m)+0≤_
  rw [h2,h3,wt_bytes];show wt p+_+wt s+0+0≤_;omega
theorem spec_ServerNew.ok {x:TyTup [.sl .bs, .sl .byte, .v .int]} (_:bdTup [.sl .bs, .sl .byte, .v .int] x) {r:G.Server}:serverNewO x.1 x.2.1 x.2.2=some r→spec_ServerNew.raw x.1 x.2.1 x.2.2=some r:=pt_ok fun h=>by
  obtain ⟨p,s,m⟩:=x
  simp only at h
  have hL:=LIM_is
  have hw:=serverOf_wt p s m
  have hl:=wt_len p
  simp only [spec_ServerNew.raw,serverNew]
  rw [rollO,pt_bind (by rw [wt_Dice];show wt s≤LIM;omega)]
  simp only [joinK]
  have key:=loop_upS (σ:=G.Server) (R:=G.Server) p.length (by rw [maxLen_is];omega) (f:=fun (x6:Int × G.Server) k7=>cond (decide (x6.1<(p.length:Int))) (Option.bind (idxI p x6.1) fun e8=>
      cond (decide (([]:List UInt8).length+e8.length≤LIM)) (cond (decide (x6.2.Psks.length+[[]++e8].length≤LIM)) (k7 ((iadd .i64 x6.1 1),(⟨x6.2.Psks++[[]++e8],x6.2.J,x6.2.D,x6.2.T,x6.2.Cr⟩:G.Server))) none) none)
      (Option.bind (serverOkO x6.2) fun r9=>cond (!r9) (some (⟨[],(⟨[]⟩:G.Jar),(⟨[],0⟩:G.Dice),(⟨0,[]⟩:G.Tab),[]⟩:G.Server)) (some x6.2)))
    (g:=fun _ _=>some (bif serverOk (serverOf p s m) then serverOf p s m else server0)) (fun i t=>t=⟨p.take i,(serverOf p s m).J,(serverOf p s m).D,(serverOf p s m).T,[]⟩)
    (fun i t k hi ht hk=>by
      subst ht
      have hwg:=wt_get hi
      rw [wt_bytes] at hwg
      simp only
      rw [lt_true hi,cond_true,idxI_get hi,bind_some',room0 (by omega),cond_true,decide_eq_true (by simp;omega),cond_true,List.nil_append, ← take_next p hi]
      exact hk _ rfl)
    (fun t k ht=>by
      subst ht
      simp only [List.take_length]
      rw [lt_self,cond_false]
      show Option.bind (serverOkO (serverOf p s m)) _=_
      rw [serverOkO,pt_bind (by omega)]
      cases serverOk (serverOf p s m) <;> rfl) 0 ⟨[],(serverOf p s m).J,(serverOf p s m).D,(serverOf p s m).T,[]⟩ (Nat.zero_le _) rfl
  exact key
theorem clientOf_wt (id:Int) (psk:List UInt8) (a:G.Addr):wt (clientOf id psk a)=wt psk:=by
  rw [wt_Client]
  show wt psk+0+0+0+0+0+0=_
  omega
theorem clientOf_ok (id:Int) (psk:List UInt8) (a:G.Addr):clientOk (clientOf id psk a)=(inR id 1 9&&pskOk psk&&addrOk a):=by
  show (inR id 1 9&&pskOk psk&&addrOk a&&true)=_
  rw [Bool.and_true]
theorem spec_ClientNew.ok {x:TyTup [.v .int, .sl .byte, .v .Addr]} (_:bdTup [.v .int, .sl .byte, .v .Addr] x) {r:G.Client}:clientNewO x.1 x.2.1 x.2.2=some r→spec_ClientNew.raw x.1 x.2.1 x.2.2=some r:=pt_ok fun h=>by
  obtain ⟨id,psk,a⟩:=x
  simp only at h
  rw [wt_bytes] at h
  simp only [spec_ClientNew.raw,clientNew,joinK]
  rw [room0 h]
  cases inR id 1 9
  · rfl
  cases pskOk psk
  · rfl
  cases addrOk a <;> rfl
theorem spec_l22Rolled.ok {x:TyTup [.sl .byte]} (_:bdTup [.sl .byte] x) {r:G.Note}:noteRolledO x=some r→spec_l22Rolled.raw x=some r:=pt_ok fun h=>by
  rw [wt_bytes] at h
  simp only [spec_l22Rolled.raw]
  rw [room0 h];rfl
theorem spec_l25Seed.ok {x:TyTup [.sl .byte]} (_:bdTup [.sl .byte] x) {r:List UInt8}:seed25O x=some r→spec_l25Seed.raw x=some r:=pt_ok fun h=>by
  rw [wt_bytes] at h
  have hL:=LIM_is
  simp only [spec_l25Seed.raw,joinK,List.nil_append]
  rw [room0 h,cond_true]
  by_cases hc:31<List.length (α:=UInt8) x
  · rw [decide_eq_true (by omega),cond_true,decide_eq_true (by omega),decide_eq_true (by omega),decide_eq_true (by omega)]
    simp only [Bool.and_self,cond_true]
    rw [decide_eq_true (by simp;omega)];rfl
  · rw [decide_eq_false (by omega),cond_false,decide_eq_true (by simp;omega),cond_true,seed25,List.take_of_length_le (by omega)];rfl
theorem two_psks (a b:List UInt8):wt ([a,b]:List (List UInt8))=wt a+wt b+2:=by rw [wt_cons,wt_cons,wt_nil];omega
theorem dice_seed {s a b:List UInt8} {m:Int} (h:serverOk (serverOf [a,b] s m)=true):1≤s.length∧s.length≤32:=by
  simp only [serverOk,Bool.and_eq_true] at h
  have h1:=h.1.1.1.1.2
  rw [show (serverOf [a,b] s m).D=(rollD ⟨s,0⟩).1 from rfl,diceOk,Bool.and_eq_true,rollD_seed] at h1
  have h2:1≤(s.length:Int)∧(s.length:Int)≤32:=inR_iff.1 h1.1
  exact ⟨by omega,by omega⟩
theorem diceAt_le (s:List UInt8) (n:Int):(diceAt s n).length≤12:=by
  rw [diceAt]
  cases inR (s.length:Int) 1 32&&inR n 0 10000
  · exact Nat.zero_le _
  · simp only [cond_true,List.length_take];omega
theorem spec_WorldNew.ok {x:TyTup [.sl .byte, .sl .byte, .sl .byte, .v .int]} (_:bdTup [.sl .byte, .sl .byte, .sl .byte, .v .int] x) {r:G.World}:worldNewO x.1 x.2.1 x.2.2.1 x.2.2.2=some r→spec_WorldNew.raw x.1 x.2.1 x.2.2.1 x.2.2.2=some r:=pt_ok fun h=>by
  obtain ⟨s,a,b,m⟩:=x
  simp only at h
  have hL:=LIM_is
  have hw:=serverOf_wt [a,b] s m
  rw [two_psks] at hw
  simp only [spec_WorldNew.raw,worldNew]
  rw [serverNewO,pt_bind (by rw [two_psks];omega)]
  cases hs:serverOk (serverOf [a,b] s m)
  · have e:serverNew [a,b] s m=server0:=by rw [serverNew,hs];rfl
    rw [e,serverOkO,pt_bind (by show 0≤_;omega)];rfl
  have e:serverNew [a,b] s m=serverOf [a,b] s m:=by rw [serverNew,hs];rfl
  have hj:((serverOf [a,b] s m).J).Secret.length≤32:=jarNew_le _
  have hdl:=diceAt_le s 0
  rw [e,serverOkO,pt_bind (by omega),hs]
  simp only [Bool.not_true,cond_false,cond_true]
  rw [seed25O,pt_bind (by omega),clientNewO,pt_bind (by omega),clientNewO,pt_bind (by omega),noteRolledO,pt_bind (by rw [wt_bytes];omega),room0 (by omega)]
  rfl
end Go.D
namespace Go.D
theorem clientNew_wt (id:Int) (psk:List UInt8) (a:G.Addr):wt (clientNew id psk a)≤wt psk:=by
  rw [clientNew]
  cases (inR id 1 9&&pskOk psk&&addrOk a)
  · rw [cond_false,clientOf_wt];exact Nat.zero_le _
  · rw [cond_true,clientOf_wt];exact Nat.le_refl _
theorem noteRolled_wt (b:List UInt8):wt (noteRolled b)=b.length:=by
  rw [wt_Note]
  show 0+0+wt b+0+0=_
  rw [wt_bytes];omega
theorem noteBoot_wt (b:List UInt8):wt (noteBoot b)=b.length:=by
  rw [wt_Note]
  show 0+0+0+wt b+0=_
  rw [wt_bytes];omega
theorem worldNew_wt (s a b:List UInt8) (m:Int):wt (worldNew s a b m)≤2 *wt a+2 *wt b+wt s+200:=by
  rw [worldNew]
  cases serverOk (serverOf [a,b] s m)
  · exact Nat.zero_le _
  · have h1:=clientNew_wt 1 a (near 1)
    have h2:=clientNew_wt 2 b (near 2)
    have h3:=serverOf_wt [a,b] s m
    have h4:=diceAt_le s 0
    have h5:(serverOf [a,b] s m).J.Secret.length≤32:=jarNew_le _
    have h6:(seed25 s).length≤32:=by rw [seed25,List.length_append,List.length_take];simp;omega
    have h7:=noteRolled_wt (diceAt s 0)
    have h8:=noteBoot_wt (serverOf [a,b] s m).J.Secret
    rw [two_psks] at h3
    rw [cond_true,wt_World,wt_Dice]
    show wt [clientNew 1 a (near 1),clientNew 2 b (near 2)]+wt (serverOf [a,b] s m)+wt (seed25 s)+0+0+wt [noteRolled (diceAt s 0),noteBoot (serverOf [a,b] s m).J.Secret]≤_
    rw [wt_cons,wt_cons,wt_nil,wt_cons,wt_cons,wt_nil,wt_bytes,h7,h8]
    omega
theorem worldOf_ok {s a b:List UInt8} {m:Int} (h:serverOk (serverOf [a,b] s m)=true):worldOk (worldOf s a b m)=true∧clientNew 1 a (near 1)=clientOf 1 a (near 1)∧clientNew 2 b (near 2)=clientOf 2 b (near 2)∧
    (serverOf [a,b] s m).J.Secret.length=32∧(serverOf [a,b] s m).T.L=[]:=by
  have hd:=dice_seed h
  have hs:=h
  simp only [serverOk,Bool.and_eq_true] at h
  have hj:(serverOf [a,b] s m).J.Secret.length=32:=by
    have:=h.1.1.1.1.1.2
    simp only [jarOk,beq_iff_eq] at this
    omega
  have hp:=h.1.2
  have hpa:pskOk a=true∧pskOk b=true:=by
    have:(serverOf [a,b] s m).Psks=[a,b]:=rfl
    rw [this] at hp
    simpa using hp
  have ha:clientNew 1 a (near 1)=clientOf 1 a (near 1):=by rw [clientNew,hpa.1];rfl
  have hb:clientNew 2 b (near 2)=clientOf 2 b (near 2):=by rw [clientNew,hpa.2];rfl
  have hdl:=diceAt_le s 0
  have hT:(serverOf [a,b] s m).T.L=[]:=by
    show (tabNew m).L=[]
    rw [tabNew];cases inR m 1 6 <;> rfl
  refine ⟨?_,ha,hb,hj,hT⟩
  have hn1:noteOk (noteRolled (diceAt s 0))=true:=by
    have:(diceAt s 0).length=12:=by
      rw [diceAt,show inR (s.length:Int) 1 32=true from inR_iff.2 ⟨by omega,by omega⟩]
      show (List.take 12 _).length=12
      rw [List.length_take,hmac_len (by omega) (by rw [roll_len];omega)];rfl
    show (inR 14 1 17&&inR 0 0 9&&inR 0 0 1&&emptyOr [] 12&&emptyOr [] 12&&inR 0 0 4294967295&&inR 0 0 281474976710655&&decide (((diceAt s 0).length:Int)≤100)&&emptyOr [] 32&&addrOk ⟨0,0⟩&&inR 0 0 1000000)=true
    rw [this];rfl
  have hn2:noteOk (noteBoot (serverOf [a,b] s m).J.Secret)=true:=by
    show (inR 12 1 17&&inR 0 0 9&&inR 0 0 1&&emptyOr [] 12&&emptyOr [] 12&&inR 0 0 4294967295&&inR 0 0 281474976710655&&decide ((([]:List UInt8).length:Int)≤100)&&isLen ((serverOf [a,b] s m).J.Secret.length:Int) 32&&addrOk ⟨0,0⟩&&inR 0 0 1000000)=true
    rw [hj];rfl
  have hseed:diceOk ⟨seed25 s,0⟩=true:=by
    have:1≤(seed25 s).length∧(seed25 s).length≤32:=by rw [seed25,List.length_append,List.length_take];simp;omega
    show (inR ((seed25 s).length:Int) 1 32&&inR 0 0 10000)=true
    rw [inR_iff.2 ⟨by omega,by omega⟩];rfl
  have hcb:anyN 2 (clientBad (worldOf s a b m))=false:=by
    refine anyN_false.2 fun i hi=>?_
    match i,hi with
    | 0,_=>
      show (!clientOk (clientNew 1 a (near 1))||(clientNew 1 a (near 1)).Id !=((0+1:Nat):Int)||!((clientNew 1 a (near 1)).Psk==a))=false
      rw [ha,clientOf_ok,hpa.1]
      simp [clientOf];decide
    | 1,_=>
      show (!clientOk (clientNew 2 b (near 2))||(clientNew 2 b (near 2)).Id !=((1+1:Nat):Int)||!((clientNew 2 b (near 2)).Psk==b))=false
      rw [hb,clientOf_ok,hpa.2]
      simp [clientOf];decide
  show (inR 0 0 1000000&&true&&serverOk (serverOf [a,b] s m)&&true&&diceOk ⟨seed25 s,0⟩&&true&&true&&!(anyN 2 (clientBad (worldOf s a b m)))&&true&&!(!noteOk (noteRolled (diceAt s 0))||(!noteOk (noteBoot (serverOf [a,b] s m).J.Secret)||false)))=true
  rw [hs,hseed,hcb,hn1,hn2];rfl
end Go.D
