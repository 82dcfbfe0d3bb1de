/-
  Sizes of the program's data.
-/
import Derived.Test.YtccebfbadijmcaaGreatN6
namespace Go.D


end Go.D


/-
  A new world.
-/
namespace Go.D

def big (code : List UInt8) : Bool := decide ((code.length : Int) > 1048576)
/-- Equal things are told to be equal; of others nothing is said. -/
noncomputable def sqO {α : Type} [Wt α] (a b : α) : Option Bool := pt (a = b ∧ wt a ≤ LIM) true
noncomputable def diceCopyO (d : G.Dice) : Option G.Dice := pt (wt d ≤ LIM) d
def rollD (d : G.Dice) : G.Dice × List UInt8 := bif !diceOk d || d.N == 10000 then (d, []) else (⟨d.Seed, iadd .i64 d.N 1⟩, diceAt d.Seed d.N)
noncomputable def rollO (d : G.Dice) : Option (G.Dice × List UInt8) := pt (wt d ≤ LIM) (rollD d)
noncomputable def cloneAllO (l : List (List UInt8)) : Option (List (List UInt8)) := pt (wt l ≤ LIM) l

def expLast (k info : List UInt8) : Nat → List UInt8
  | 0 => []
  | j + 1 => hmac k (expLast k info j ++ info ++ [UInt8.ofNat (IntKind.wrap .u8 ((j + 1 : Nat) : Int)).toNat])
def expOut (k info : List UInt8) : Nat → List UInt8
  | 0 => []
  | j + 1 => expOut k info j ++ expLast k info (j + 1)
def expand (k info : List UInt8) (n : Int) : List UInt8 × Bool :=
  bif !inR n 0 8160 || decide ((info.length : Int) > 100) || decide ((k.length : Int) > 1048576) then ([], false) else ((expOut k info ((n.toNat + 31) / 32)).take n.toNat, true)
def derive (k label : List UInt8) : List UInt8 := (expand k label 32).1
noncomputable def deriveO (k label : List UInt8) : Option (List UInt8) := pt (wt label ≤ LIM) (derive k label)
def jarNew (b : List UInt8) : G.Jar := bif isNonce b then ⟨derive b [106, 97, 114]⟩ else ⟨[]⟩
def tabNew (n : Int) : G.Tab := bif inR n 1 6 then ⟨n, []⟩ else ⟨0, []⟩
def server0 : G.Server := ⟨[], ⟨[]⟩, ⟨[], 0⟩, ⟨0, []⟩, []⟩
def serverOf (psks : List (List UInt8)) (seed : List UInt8) (most : Int) : G.Server := ⟨psks, jarNew (rollD ⟨seed, 0⟩).2, (rollD ⟨seed, 0⟩).1, tabNew most, []⟩
def serverNew (psks : List (List UInt8)) (seed : List UInt8) (most : Int) : G.Server := bif serverOk (serverOf psks seed most) then serverOf psks seed most else server0
noncomputable def serverNewO (psks : List (List UInt8)) (seed : List UInt8) (most : Int) : Option G.Server := pt (wt psks + wt seed + 1000 ≤ LIM) (serverNew psks seed most)
def frame0 : G.Frame := ⟨0, 0, [], [], 0, [], [], 0, 0, [], []⟩
def chan0 : G.Chan := ⟨0, [], ep00, ep00, false, 0, []⟩
def timer0 : G.Timer := ⟨false, 0, 0, 0⟩
def clientOf (id : Int) (psk : List UInt8) (a : G.Addr) : G.Client := ⟨id, psk, a, 0, [], frame0, chan0, timer0, timer0, 0⟩
def clientNew (id : Int) (psk : List UInt8) (a : G.Addr) : G.Client := bif inR id 1 9 && pskOk psk && addrOk a then clientOf id psk a else clientOf 0 [] ⟨0, 0⟩
noncomputable def clientNewO (id : Int) (psk : List UInt8) (a : G.Addr) : Option G.Client := pt (wt psk ≤ LIM) (clientNew id psk a)
def noteRolled (b : List UInt8) : G.Note := ⟨14, 0, 0, [], [], 0, 0, b, [], ⟨0, 0⟩, 0⟩
def noteBoot (k : List UInt8) : G.Note := ⟨12, 0, 0, [], [], 0, 0, [], k, ⟨0, 0⟩, 0⟩
noncomputable def noteRolledO (b : List UInt8) : Option G.Note := pt (wt b ≤ LIM) (noteRolled b)
def seed25 (s : List UInt8) : List UInt8 := s.take 31 ++ [99]
noncomputable def seed25O (s : List UInt8) : Option (List UInt8) := pt (wt s ≤ LIM) (seed25 s)
def world0 : G.World := ⟨0, [], server0, ⟨[], 0⟩, [], [], []⟩
def worldOf (s a b : List UInt8) (most : Int) : G.World := ⟨0, [clientNew 1 a (near 1), clientNew 2 b (near 2)], serverOf [a, b] s most, ⟨seed25 s, 0⟩, [], [], [noteRolled (diceAt s 0), noteBoot (serverOf [a, b] s most).J.Secret]⟩
def worldNew (s a b : List UInt8) (most : Int) : G.World := bif serverOk (serverOf [a, b] s most) then worldOf s a b most else world0
noncomputable def worldNewO (s a b : List UInt8) (most : Int) : Option G.World := pt (wt a + wt b + wt s + 2000 ≤ LIM) (worldNew s a b most)

end Go.D

/-
  What the functions compute, as the plain semantics says it.
-/
namespace Go.D

noncomputable def laws_big.raw (a0 : List UInt8) : Option Bool :=
  some (decide ((a0.length : Int) > 1048576))

noncomputable def spec_l1New.raw (a0 : List UInt8) : Option G.Cur :=
  joinK (fun (y1 : Int) =>
  some (⟨a0, 0, y1⟩ : G.Cur)) fun k2 =>
  loopK FU (fun (x3 : Int × Int) k4 =>
  joinK (fun (y5 : Bool) =>
  cond (y5)
  (Option.bind (idxI a0 x3.2) fun e7 =>
  let x8 : Int := IntKind.wrap .i64 ((e7.toNat : Nat) : Int)
  let x9 : Int := iadd .i64 (iadd .i64 (imul .i64 x3.1 137) x8) 11
  k4 ((iand .i64 x9 1073741823), (iadd .i64 x3.2 1)))
  (k2 x3.1)) fun k6 =>
  cond (decide (x3.2 < (a0.length : Int)))
  (k6 (decide (x3.2 < 4000)))
  (k6 false)) ((iadd .i64 127812 (a0.length : Int)), 0)

noncomputable def spec_l1Byte.raw (a0 : G.Cur) : Option (Int × G.Cur) :=
  let x1 : Int := iadd .i64 (imul .i64 a0.h 6364136223846793005) 1442695040888963407
  let x2 : Int := ixor .i64 (ishr .i64 x1 33) (ishr .i64 x1 47)
  joinK (fun (y3 : Int × G.Cur) =>
  some (y3.1, y3.2)) fun k4 =>
  cond (decide (a0.i < (a0.b.length : Int)))
  (Option.bind (idxI a0.b a0.i) fun e5 =>
  let x6 : Int := IntKind.wrap .i64 ((e5.toNat : Nat) : Int)
  let x7 : Int := iand .i64 (iadd .i64 (iand .i64 x2 255) x6) 255
  k4 (x7, (⟨a0.b, iadd .i64 a0.i 1, x1⟩ : G.Cur)))
  (k4 ((iand .i64 x2 255), (⟨a0.b, a0.i, x1⟩ : G.Cur)))

noncomputable def spec_l1Below.raw (a0 : G.Cur) (a1 : Int) : Option (Int × G.Cur) :=
  cond (decide (a1 ≤ 0))
  (some (0, a0))
  (cond (decide (a1 ≤ 256))
  (Option.bind (spec_l1Byte.raw a0) fun r1 =>
  cond (a1 == 0) none (some (irem .i64 r1.1 a1, r1.2)))
  (Option.bind (spec_l1Byte.raw a0) fun r2 =>
  Option.bind (spec_l1Byte.raw r2.2) fun r3 =>
  Option.bind (spec_l1Byte.raw r3.2) fun r4 =>
  let x5 : Int := iadd .i64 (imul .i64 r2.1 65536) (imul .i64 r3.1 256)
  cond (a1 == 0) none (some (irem .i64 (iadd .i64 x5 r4.1) a1, r4.2))))

noncomputable def spec_l1Int.raw (a0 : G.Cur) (a1 : List Int) : Option (Int × G.Cur) :=
  Option.bind (spec_l1Below.raw a0 (a1.length : Int)) fun r1 =>
  Option.bind (idxI a1 r1.1) fun e2 =>
  some (e2, r1.2)

noncomputable def spec_l1Bytes.raw (a0 : G.Cur) (a1 : Int) : Option ((List UInt8) × G.Cur) :=
  joinK (fun (y1 : (List UInt8) × G.Cur) =>
  some (y1.1, y1.2)) fun k2 =>
  loopK FU (fun (x3 : (List UInt8) × Int × G.Cur) k4 =>
  cond (decide (x3.2.1 < a1))
  (Option.bind (spec_l1Byte.raw x3.2.2) fun r5 =>
  cond (decide (x3.1.length + [UInt8.ofNat (IntKind.wrap .u8 r5.1 : Int).toNat].length ≤ LIM)) (k4 ((x3.1 ++ [UInt8.ofNat (IntKind.wrap .u8 r5.1 : Int).toNat]), (iadd .i64 x3.2.1 1), r5.2)) none)
  (k2 (x3.1, x3.2.2))) ([], 0, a0)

noncomputable def spec_l12Psk.raw (a0 : G.Cur) : Option ((List UInt8) × G.Cur) :=
  Option.bind (spec_l1Int.raw a0 [1, 5, 16, 32, 32, 0, 33, 16]) fun r1 =>
  Option.bind (spec_l1Bytes.raw r1.2 r1.1) fun r2 =>
  some (r2.1, r2.2)

noncomputable def spec_DrawWorldNew.raw (a0 : List UInt8) : Option ((List UInt8) × (List UInt8) × (List UInt8) × Int) :=
  Option.bind (spec_l1New.raw a0) fun r1 =>
  Option.bind (spec_l1Int.raw r1 [8, 8, 1, 31, 32, 33, 0]) fun r2 =>
  Option.bind (spec_l1Bytes.raw r2.2 r2.1) fun r3 =>
  Option.bind (spec_l12Psk.raw r3.2) fun r4 =>
  Option.bind (spec_l12Psk.raw r4.2) fun r5 =>
  Option.bind (spec_l1Int.raw r5.2 [1, 2, 6, 3, 0, 7]) fun r6 =>
  some (r3.1, r4.1, r5.1, r6.1)

noncomputable def impl_Roll.raw (a0 : G.Dice) : Option (G.Dice × (List UInt8)) :=
  Option.bind (cloneO a0.Seed) fun r1 =>
  joinK (fun (y2 : Bool) =>
  cond (y2)
  (some ((⟨r1, a0.N⟩ : G.Dice), []))
  (let r4 : (List UInt8) := diceAt a0.Seed a0.N
  some ((⟨r1, iadd .i64 a0.N 1⟩ : G.Dice), r4))) fun k3 =>
  cond (!(diceOk a0))
  (k3 true)
  (k3 (a0.N == 10000))

noncomputable def impl_cloneAll.raw (a0 : List (List UInt8)) : Option (List (List UInt8)) :=
  joinK (fun (y1 : (List (List UInt8))) =>
  some y1) fun k2 =>
  loopK FU (fun (x3 : (List (List UInt8)) × Int) k4 =>
  cond (decide (x3.2 < (a0.length : Int)))
  (Option.bind (idxI a0 x3.2) fun e5 =>
  Option.bind (cloneO e5) fun r6 =>
  cond (decide (x3.1.length + [r6].length ≤ LIM)) (k4 ((x3.1 ++ [r6]), (iadd .i64 x3.2 1))) none)
  (k2 x3.1)) ([], 0)

noncomputable def impl_Expand.raw (a0 : List UInt8) (a1 : List UInt8) (a2 : Int) : Option ((List UInt8) × Bool) :=
  joinK (fun (y1 : Bool) =>
  cond (y1)
  (some ([], false))
  (joinK (fun (y3 : (List UInt8) × (List UInt8)) =>
  cond (decide (0 ≤ (0 : Int)) && decide ((0 : Int) ≤ a2) && decide (a2 ≤ (y3.1.length : Int))) (Option.bind (cloneO (List.take ((a2 - 0).toNat) (List.drop 0 y3.1))) fun r10 =>
  some (r10, true)) none) fun k4 =>
  loopK FU (fun (x5 : (List UInt8) × (List UInt8) × Int) k6 =>
  cond (decide ((x5.1.length : Int) < a2))
  (let x7 : List (List UInt8) := [x5.2.1, a1, [UInt8.ofNat (IntKind.wrap .u8 x5.2.2 : Int).toNat]]
  Option.bind (joinedO x7) fun r8 =>
  let r9 : (List UInt8) := hmac a0 r8
  cond (decide (x5.1.length + r9.length ≤ LIM)) (k6 ((x5.1 ++ r9), r9, (iadd .i64 x5.2.2 1))) none)
  (k4 (x5.1, x5.2.1))) ([], [], 1))) fun k2 =>
  cond (!(inR a2 0 8160))
  (k2 true)
  (cond (decide ((a1.length : Int) > 100))
  (k2 true)
  (k2 (decide ((a0.length : Int) > 1048576))))

noncomputable def impl_Derive.raw (a0 : List UInt8) (a1 : List UInt8) : Option (List UInt8) :=
  cond (Nat.ble a1.length LIM) (let r1 : (List UInt8) × Bool := expand a0 a1 32
  some r1.1) none

noncomputable def impl_JarNew.raw (a0 : List UInt8) : Option G.Jar :=
  cond (!(isNonce a0))
  (some (⟨[]⟩ : G.Jar))
  (Option.bind (deriveO a0 [106, 97, 114]) fun r1 =>
  some (⟨r1⟩ : G.Jar))

noncomputable def impl_TabNew.raw (a0 : Int) : Option G.Tab :=
  cond (!(inR a0 1 6))
  (some (⟨0, []⟩ : G.Tab))
  (some (⟨a0, []⟩ : G.Tab))

noncomputable def impl_ServerNew.raw (a0 : List (List UInt8)) (a1 : List UInt8) (a2 : Int) : Option G.Server :=
  Option.bind (rollO (⟨a1, 0⟩ : G.Dice)) fun r1 =>
  Option.bind (cloneAllO a0) fun r2 =>
  let r3 : G.Jar := jarNew r1.2
  let r4 : G.Tab := tabNew a2
  Option.bind (serverOkO (⟨r2, r3, r1.1, r4, []⟩ : G.Server)) fun r5 =>
  cond (!r5)
  (some (⟨[], (⟨[]⟩ : G.Jar), (⟨[], 0⟩ : G.Dice), (⟨0, []⟩ : G.Tab), []⟩ : G.Server))
  (some (⟨r2, r3, r1.1, r4, []⟩ : G.Server))

noncomputable def impl_ClientNew.raw (a0 : Int) (a1 : List UInt8) (a2 : G.Addr) : Option G.Client :=
  Option.bind (cloneO a1) fun r1 =>
  Option.bind (clientOkO (⟨a0, r1, a2, 0, [], (⟨0, 0, [], [], 0, [], [], 0, 0, [], []⟩ : G.Frame), (⟨0, [], (⟨0, [], 0, (⟨0, []⟩ : G.Win)⟩ : G.Ep), (⟨0, [], 0, (⟨0, []⟩ : G.Win)⟩ : G.Ep), false, 0, []⟩ : G.Chan), (⟨false, 0, 0, 0⟩ : G.Timer), (⟨false, 0, 0, 0⟩ : G.Timer), 0⟩ : G.Client)) fun r2 =>
  cond (!r2)
  (some (⟨0, [], (⟨0, 0⟩ : G.Addr), 0, [], (⟨0, 0, [], [], 0, [], [], 0, 0, [], []⟩ : G.Frame), (⟨0, [], (⟨0, [], 0, (⟨0, []⟩ : G.Win)⟩ : G.Ep), (⟨0, [], 0, (⟨0, []⟩ : G.Win)⟩ : G.Ep), false, 0, []⟩ : G.Chan), (⟨false, 0, 0, 0⟩ : G.Timer), (⟨false, 0, 0, 0⟩ : G.Timer), 0⟩ : G.Client))
  (some (⟨a0, r1, a2, 0, [], (⟨0, 0, [], [], 0, [], [], 0, 0, [], []⟩ : G.Frame), (⟨0, [], (⟨0, [], 0, (⟨0, []⟩ : G.Win)⟩ : G.Ep), (⟨0, [], 0, (⟨0, []⟩ : G.Win)⟩ : G.Ep), false, 0, []⟩ : G.Chan), (⟨false, 0, 0, 0⟩ : G.Timer), (⟨false, 0, 0, 0⟩ : G.Timer), 0⟩ : G.Client))

noncomputable def impl_rollNote.raw (a0 : List UInt8) : Option G.Note :=
  Option.bind (cloneO a0) fun r1 =>
  some (⟨14, 0, 0, [], [], 0, 0, r1, [], (⟨0, 0⟩ : G.Addr), 0⟩ : G.Note)

noncomputable def impl_WorldNew.raw (a0 : List UInt8) (a1 : List UInt8) (a2 : List UInt8) (a3 : Int) : Option G.World :=
  Option.bind (serverNewO [a1, a2] a0 a3) fun r1 =>
  Option.bind (serverOkO r1) fun r2 =>
  cond (!r2)
  (some (⟨0, [], (⟨[], (⟨[]⟩ : G.Jar), (⟨[], 0⟩ : G.Dice), (⟨0, []⟩ : G.Tab), []⟩ : G.Server), (⟨[], 0⟩ : G.Dice), [], [], []⟩ : G.World))
  (Option.bind (joinedO [a0, [UInt8.ofNat (99 : Int).toNat]]) fun r3 =>
  joinK (fun (y4 : (List UInt8)) =>
  let r8 : G.Addr := near 1
  Option.bind (clientNewO 1 a1 r8) fun r9 =>
  let r10 : G.Addr := near 2
  Option.bind (clientNewO 2 a2 r10) fun r11 =>
  let r12 : (List UInt8) := diceAt a0 0
  Option.bind (noteRolledO r12) fun r13 =>
  Option.bind (cloneO r1.J.Secret) fun r14 =>
  let x15 : List G.Note := [r13, (⟨12, 0, 0, [], [], 0, 0, [], r14, (⟨0, 0⟩ : G.Addr), 0⟩ : G.Note)]
  some (⟨0, [r9, r11], r1, (⟨y4, 0⟩ : G.Dice), [], [], x15⟩ : G.World)) fun k5 =>
  cond ((a0.length : Int) == 32)
  (cond (decide (0 ≤ (0 : Int)) && decide ((0 : Int) ≤ 31) && decide (31 ≤ (a0.length : Int))) (let l6 : List UInt8 := List.take 31 (List.drop 0 a0)
  Option.bind (joinedO [l6, [UInt8.ofNat (99 : Int).toNat]]) fun r7 =>
  k5 r7) none)
  (k5 r3))

noncomputable def spec_l10Copy.raw (a0 : G.Dice) : Option G.Dice :=
  cond (decide (([] : List UInt8).length + a0.Seed.length ≤ LIM)) (some (⟨[] ++ a0.Seed, a0.N⟩ : G.Dice)) none

noncomputable def spec_Roll.raw (a0 : G.Dice) : Option (G.Dice × (List UInt8)) :=
  Option.bind (diceCopyO a0) fun r1 =>
  joinK (fun (y2 : Bool) =>
  cond (y2)
  (some (r1, []))
  (let r4 : (List UInt8) := diceAt a0.Seed a0.N
  some ((⟨r1.Seed, iadd .i64 a0.N 1⟩ : G.Dice), r4))) fun k3 =>
  cond (!(diceOk a0))
  (k3 true)
  (k3 (a0.N == 10000))

noncomputable def spec_Expand.raw (a0 : List UInt8) (a1 : List UInt8) (a2 : Int) : Option ((List UInt8) × Bool) :=
  joinK (fun (y1 : Bool) =>
  cond (y1)
  (some ([], false))
  (joinK (fun (y3 : (List UInt8) × (List UInt8)) =>
  cond (decide (0 ≤ (0 : Int)) && decide ((0 : Int) ≤ a2) && decide (a2 ≤ (y3.1.length : Int))) (cond (decide (([] : List UInt8).length + (List.take ((a2 - 0).toNat) (List.drop 0 y3.1)).length ≤ LIM)) (some ([] ++ (List.take ((a2 - 0).toNat) (List.drop 0 y3.1)), true)) none) none) fun k4 =>
  loopK FU (fun (x5 : (List UInt8) × (List UInt8) × Int) k6 =>
  cond (decide ((x5.1.length : Int) < a2))
  (cond (decide (([] : List UInt8).length + x5.2.1.length ≤ LIM)) (cond (decide (([] ++ x5.2.1).length + a1.length ≤ LIM)) (cond (decide ((([] ++ x5.2.1) ++ a1).length + [UInt8.ofNat (IntKind.wrap .u8 x5.2.2 : Int).toNat].length ≤ LIM)) (let x7 : List UInt8 := (([] ++ x5.2.1) ++ a1) ++ [UInt8.ofNat (IntKind.wrap .u8 x5.2.2 : Int).toNat]
  let r8 : (List UInt8) := hmac a0 x7
  cond (decide (x5.1.length + r8.length ≤ LIM)) (k6 ((x5.1 ++ r8), r8, (iadd .i64 x5.2.2 1))) none) none) none) none)
  (k4 (x5.1, x5.2.1))) ([], [], 1))) fun k2 =>
  cond (!(inR a2 0 8160))
  (k2 true)
  (cond (decide ((a1.length : Int) > 100))
  (k2 true)
  (k2 (decide ((a0.length : Int) > 1048576))))

noncomputable def spec_Derive.raw (a0 : List UInt8) (a1 : List UInt8) : Option (List UInt8) :=
  cond (Nat.ble a1.length LIM) (let r1 : (List UInt8) × Bool := expand a0 a1 32
  some r1.1) none

noncomputable def spec_JarNew.raw (a0 : List UInt8) : Option G.Jar :=
  cond ((a0.length : Int) != 12)
  (some (⟨[]⟩ : G.Jar))
  (Option.bind (deriveO a0 [106, 97, 114]) fun r1 =>
  some (⟨r1⟩ : G.Jar))

noncomputable def spec_TabNew.raw (a0 : Int) : Option G.Tab :=
  cond (!(inR a0 1 6))
  (some (⟨0, []⟩ : G.Tab))
  (some (⟨a0, []⟩ : G.Tab))

noncomputable def spec_ServerNew.raw (a0 : List (List UInt8)) (a1 : List UInt8) (a2 : Int) : Option G.Server :=
  Option.bind (rollO (⟨a1, 0⟩ : G.Dice)) fun r1 =>
  let r2 : G.Jar := jarNew r1.2
  let r3 : G.Tab := tabNew a2
  joinK (fun (y4 : G.Server) =>
  Option.bind (serverOkO y4) fun r9 =>
  cond (!r9)
  (some (⟨[], (⟨[]⟩ : G.Jar), (⟨[], 0⟩ : G.Dice), (⟨0, []⟩ : G.Tab), []⟩ : G.Server))
  (some y4)) fun k5 =>
  loopK FU (fun (x6 : Int × G.Server) k7 =>
  cond (decide (x6.1 < (a0.length : Int)))
  (Option.bind (idxI a0 x6.1) fun e8 =>
  cond (decide (([] : List UInt8).length + e8.length ≤ LIM)) (cond (decide (x6.2.Psks.length + [[] ++ e8].length ≤ LIM)) (k7 ((iadd .i64 x6.1 1), (⟨x6.2.Psks ++ [[] ++ e8], x6.2.J, x6.2.D, x6.2.T, x6.2.Cr⟩ : G.Server))) none) none)
  (k5 x6.2)) (0, (⟨[], r2, r1.1, r3, []⟩ : G.Server))

noncomputable def spec_l25Seed.raw (a0 : List UInt8) : Option (List UInt8) :=
  cond (decide (([] : List UInt8).length + a0.length ≤ LIM)) (joinK (fun (y1 : (List UInt8)) =>
  cond (decide (y1.length + [UInt8.ofNat (99 : Int).toNat].length ≤ LIM)) (some (y1 ++ [UInt8.ofNat (99 : Int).toNat])) none) fun k2 =>
  cond (decide ((([] ++ a0).length : Int) > 31))
  (cond (decide (0 ≤ (0 : Int)) && decide ((0 : Int) ≤ 31) && decide (31 ≤ (([] ++ a0).length : Int))) (k2 (List.take 31 ([] ++ a0))) none)
  (k2 ([] ++ a0))) none

noncomputable def spec_ClientNew.raw (a0 : Int) (a1 : List UInt8) (a2 : G.Addr) : Option G.Client :=
  joinK (fun (y1 : Bool) =>
  cond (y1)
  (some (⟨0, [], (⟨0, 0⟩ : G.Addr), 0, [], (⟨0, 0, [], [], 0, [], [], 0, 0, [], []⟩ : G.Frame), (⟨0, [], (⟨0, [], 0, (⟨0, []⟩ : G.Win)⟩ : G.Ep), (⟨0, [], 0, (⟨0, []⟩ : G.Win)⟩ : G.Ep), false, 0, []⟩ : G.Chan), (⟨false, 0, 0, 0⟩ : G.Timer), (⟨false, 0, 0, 0⟩ : G.Timer), 0⟩ : G.Client))
  (cond (decide (([] : List UInt8).length + a1.length ≤ LIM)) (some (⟨a0, [] ++ a1, a2, 0, [], (⟨0, 0, [], [], 0, [], [], 0, 0, [], []⟩ : G.Frame), (⟨0, [], (⟨0, [], 0, (⟨0, []⟩ : G.Win)⟩ : G.Ep), (⟨0, [], 0, (⟨0, []⟩ : G.Win)⟩ : G.Ep), false, 0, []⟩ : G.Chan), (⟨false, 0, 0, 0⟩ : G.Timer), (⟨false, 0, 0, 0⟩ : G.Timer), 0⟩ : G.Client)) none)) fun k2 =>
  cond (!(inR a0 1 9))
  (k2 true)
  (cond (!(pskOk a1))
  (k2 true)
  (k2 (!(addrOk a2))))

noncomputable def spec_l22Rolled.raw (a0 : List UInt8) : Option G.Note :=
  cond (decide (([] : List UInt8).length + a0.length ≤ LIM)) (some (⟨14, 0, 0, [], [], 0, 0, [] ++ a0, [], (⟨0, 0⟩ : G.Addr), 0⟩ : G.Note)) none

noncomputable def spec_WorldNew.raw (a0 : List UInt8) (a1 : List UInt8) (a2 : List UInt8) (a3 : Int) : Option G.World :=
  Option.bind (serverNewO [a1, a2] a0 a3) fun r1 =>
  Option.bind (serverOkO r1) fun r2 =>
  cond (!r2)
  (some (⟨0, [], (⟨[], (⟨[]⟩ : G.Jar), (⟨[], 0⟩ : G.Dice), (⟨0, []⟩ : G.Tab), []⟩ : G.Server), (⟨[], 0⟩ : G.Dice), [], [], []⟩ : G.World))
  (Option.bind (seed25O a0) fun r3 =>
  let r4 : G.Addr := near 1
  Option.bind (clientNewO 1 a1 r4) fun r5 =>
  let r6 : G.Addr := near 2
  Option.bind (clientNewO 2 a2 r6) fun r7 =>
  let r8 : (List UInt8) := diceAt a0 0
  Option.bind (noteRolledO r8) fun r9 =>
  cond (decide (([] : List UInt8).length + r1.J.Secret.length ≤ LIM)) (let x10 : List G.Note := [r9, (⟨12, 0, 0, [], [], 0, 0, [], [] ++ r1.J.Secret, (⟨0, 0⟩ : G.Addr), 0⟩ : G.Note)]
  some (⟨0, [r5, r7], r1, (⟨r3, 0⟩ : G.Dice), [], [], x10⟩ : G.World)) none)

noncomputable def laws_same.raw (a0 : List UInt8) (a1 : List UInt8) : Option Bool :=
  cond (Nat.ble a0.length LIM) (cond (Nat.ble a1.length LIM) (some (a0 == a1)) none) none

noncomputable def laws_sameInts.raw (a0 : List Int) (a1 : List Int) : Option Bool :=
  cond ((a0.length : Int) != (a1.length : Int))
  (some false)
  (joinK (fun (y1 : Unit) =>
  some true) fun k2 =>
  loopK FU (fun (x3 : Int) k4 =>
  cond (decide (x3 < (a0.length : Int)))
  (Option.bind (idxI a0 x3) fun e5 =>
  Option.bind (idxI a1 x3) fun e6 =>
  cond (e5 != e6)
  (some false)
  (k4 (iadd .i64 x3 1)))
  (k2 ())) 0)

noncomputable def laws_sameWin.raw (a0 : G.Win) (a1 : G.Win) : Option Bool :=
  joinK (fun (y1 : Bool) =>
  some y1) fun k2 =>
  cond (a0.Top == a1.Top)
  (Option.bind (sqO a0.Bits a1.Bits) fun r3 =>
  k2 r3)
  (k2 false)

noncomputable def laws_sameEp.raw (a0 : G.Ep) (a1 : G.Ep) : Option Bool :=
  joinK (fun (y1 : Bool) =>
  some y1) fun k2 =>
  cond (a0.N == a1.N)
  (Option.bind (sqO a0.Key a1.Key) fun r3 =>
  cond (r3)
  (cond (a0.Seq == a1.Seq)
  (Option.bind (sqO a0.Win a1.Win) fun r4 =>
  k2 r4)
  (k2 false))
  (k2 false))
  (k2 false)

noncomputable def laws_sameChan.raw (a0 : G.Chan) (a1 : G.Chan) : Option Bool :=
  joinK (fun (y1 : Bool) =>
  some y1) fun k2 =>
  cond (a0.Role == a1.Role)
  (Option.bind (sqO a0.Sn a1.Sn) fun r3 =>
  cond (r3)
  (Option.bind (sqO a0.Cur a1.Cur) fun r4 =>
  cond (r4)
  (Option.bind (sqO a0.Old a1.Old) fun r5 =>
  cond (r5)
  (cond (a0.HasOld == a1.HasOld)
  (cond (a0.Until == a1.Until)
  (Option.bind (sqO a0.Next a1.Next) fun r6 =>
  k2 r6)
  (k2 false))
  (k2 false))
  (k2 false))
  (k2 false))
  (k2 false))
  (k2 false)

noncomputable def laws_samePaths.raw (a0 : G.Paths) (a1 : G.Paths) : Option Bool :=
  joinK (fun (y1 : Bool) =>
  cond (y1)
  (some false)
  (joinK (fun (y4 : Unit) =>
  some true) fun k5 =>
  loopK FU (fun (x6 : Int) k7 =>
  cond (decide (x6 < (a0.Cands.length : Int)))
  (joinK (fun (y8 : Bool) =>
  cond (y8)
  (some false)
  (k7 (iadd .i64 x6 1))) fun k9 =>
  Option.bind (idxI a0.Cands x6) fun e10 =>
  Option.bind (idxI a1.Cands x6) fun e11 =>
  let x12 : Bool := !(cond (e10.A.Host == e11.A.Host) (cond (e10.A.Port == e11.A.Port) (true) false) false)
  cond (x12)
  (k9 true)
  (Option.bind (idxI a0.Cands x6) fun e13 =>
  Option.bind (idxI a1.Cands x6) fun e14 =>
  Option.bind (sqO e13.Draw e14.Draw) fun r15 =>
  cond (!r15)
  (k9 true)
  (Option.bind (idxI a0.Cands x6) fun e16 =>
  Option.bind (idxI a1.Cands x6) fun e17 =>
  k9 (e16.Until != e17.Until))))
  (k5 ())) 0)) fun k2 =>
  let x3 : Bool := !(cond (a0.At.Host == a1.At.Host) (cond (a0.At.Port == a1.At.Port) (true) false) false)
  cond (x3)
  (k2 true)
  (k2 ((a0.Cands.length : Int) != (a1.Cands.length : Int)))

noncomputable def laws_sameSess.raw (a0 : G.Sess) (a1 : G.Sess) : Option Bool :=
  joinK (fun (y1 : Bool) =>
  some y1) fun k2 =>
  cond (a0.Id == a1.Id)
  (Option.bind (sqO a0.Cn a1.Cn) fun r3 =>
  cond (r3)
  (Option.bind (sqO a0.Sn a1.Sn) fun r4 =>
  cond (r4)
  (Option.bind (sqO a0.C a1.C) fun r5 =>
  cond (r5)
  (Option.bind (sqO a0.P a1.P) fun r6 =>
  cond (r6)
  (cond (a0.Tick == a1.Tick)
  (cond (a0.Last == a1.Last)
  (k2 (a0.Dead == a1.Dead))
  (k2 false))
  (k2 false))
  (k2 false))
  (k2 false))
  (k2 false))
  (k2 false))
  (k2 false)

noncomputable def laws_sameTab.raw (a0 : G.Tab) (a1 : G.Tab) : Option Bool :=
  joinK (fun (y1 : Bool) =>
  cond (y1)
  (some false)
  (joinK (fun (y3 : Unit) =>
  some true) fun k4 =>
  loopK FU (fun (x5 : Int) k6 =>
  cond (decide (x5 < (a0.L.length : Int)))
  (Option.bind (idxI a0.L x5) fun e7 =>
  Option.bind (idxI a1.L x5) fun e8 =>
  Option.bind (sqO e7 e8) fun r9 =>
  cond (!r9)
  (some false)
  (k6 (iadd .i64 x5 1)))
  (k4 ())) 0)) fun k2 =>
  cond (a0.Cap != a1.Cap)
  (k2 true)
  (k2 ((a0.L.length : Int) != (a1.L.length : Int)))

noncomputable def laws_sameCredits.raw (a0 : List G.Credit) (a1 : List G.Credit) : Option Bool :=
  cond ((a0.length : Int) != (a1.length : Int))
  (some false)
  (joinK (fun (y1 : Unit) =>
  some true) fun k2 =>
  loopK FU (fun (x3 : Int) k4 =>
  cond (decide (x3 < (a0.length : Int)))
  (Option.bind (idxI a0 x3) fun e5 =>
  Option.bind (idxI a1 x3) fun e6 =>
  let x7 : Bool := !(cond (e5.A.Host == e6.A.Host) (cond (e5.A.Port == e6.A.Port) (cond (e5.Got == e6.Got) (cond (e5.Sent == e6.Sent) (true) false) false) false) false)
  cond (x7)
  (some false)
  (k4 (iadd .i64 x3 1)))
  (k2 ())) 0)

noncomputable def laws_sameServer.raw (a0 : G.Server) (a1 : G.Server) : Option Bool :=
  joinK (fun (y1 : Bool) =>
  cond (y1)
  (some false)
  (joinK (fun (y7 : Unit) =>
  some true) fun k8 =>
  loopK FU (fun (x9 : Int) k10 =>
  cond (decide (x9 < (a0.Psks.length : Int)))
  (Option.bind (idxI a0.Psks x9) fun e11 =>
  Option.bind (idxI a1.Psks x9) fun e12 =>
  Option.bind (sqO e11 e12) fun r13 =>
  cond (!r13)
  (some false)
  (k10 (iadd .i64 x9 1)))
  (k8 ())) 0)) fun k2 =>
  cond ((a0.Psks.length : Int) != (a1.Psks.length : Int))
  (k2 true)
  (Option.bind (sqO a0.J.Secret a1.J.Secret) fun r3 =>
  cond (!r3)
  (k2 true)
  (Option.bind (sqO a0.D.Seed a1.D.Seed) fun r4 =>
  cond (!r4)
  (k2 true)
  (cond (a0.D.N != a1.D.N)
  (k2 true)
  (Option.bind (sqO a0.T a1.T) fun r5 =>
  cond (!r5)
  (k2 true)
  (Option.bind (sqO a0.Cr a1.Cr) fun r6 =>
  k2 (!r6))))))

noncomputable def laws_sameWires.raw (a0 : List G.Wire) (a1 : List G.Wire) : Option Bool :=
  cond ((a0.length : Int) != (a1.length : Int))
  (some false)
  (joinK (fun (y1 : Unit) =>
  some true) fun k2 =>
  loopK FU (fun (x3 : Int) k4 =>
  cond (decide (x3 < (a0.length : Int)))
  (joinK (fun (y5 : Bool) =>
  cond (y5)
  (some false)
  (k4 (iadd .i64 x3 1))) fun k6 =>
  Option.bind (idxI a0 x3) fun e7 =>
  Option.bind (idxI a1 x3) fun e8 =>
  let x9 : Bool := !(cond (e7.From.Host == e8.From.Host) (cond (e7.From.Port == e8.From.Port) (true) false) false)
  cond (x9)
  (k6 true)
  (Option.bind (idxI a0 x3) fun e10 =>
  Option.bind (idxI a1 x3) fun e11 =>
  let x12 : Bool := !(cond (e10.To.Host == e11.To.Host) (cond (e10.To.Port == e11.To.Port) (true) false) false)
  cond (x12)
  (k6 true)
  (Option.bind (idxI a0 x3) fun e13 =>
  Option.bind (idxI a1 x3) fun e14 =>
  Option.bind (sqO e13.B e14.B) fun r15 =>
  k6 (!r15))))
  (k2 ())) 0)

noncomputable def impl_SameNote.raw (a0 : G.Note) (a1 : G.Note) : Option Bool :=
  joinK (fun (y1 : Bool) =>
  some y1) fun k2 =>
  cond (a0.Kind == a1.Kind)
  (cond (a0.Id == a1.Id)
  (cond (a0.Role == a1.Role)
  (cond (a0.Epoch == a1.Epoch)
  (cond (a0.Seq == a1.Seq)
  (let x3 : Bool := cond (a0.A.Host == a1.A.Host) (cond (a0.A.Port == a1.A.Port) (true) false) false
  cond (x3)
  (cond (a0.Now == a1.Now)
  (Option.bind (sameO a0.Cn a1.Cn) fun r4 =>
  cond (r4)
  (Option.bind (sameO a0.Sn a1.Sn) fun r5 =>
  cond (r5)
  (Option.bind (sameO a0.Body a1.Body) fun r6 =>
  cond (r6)
  (Option.bind (sameO a0.Key a1.Key) fun r7 =>
  k2 r7)
  (k2 false))
  (k2 false))
  (k2 false))
  (k2 false))
  (k2 false))
  (k2 false))
  (k2 false))
  (k2 false))
  (k2 false))
  (k2 false)

noncomputable def laws_sameNotes.raw (a0 : List G.Note) (a1 : List G.Note) : Option Bool :=
  cond ((a0.length : Int) != (a1.length : Int))
  (some false)
  (joinK (fun (y1 : Unit) =>
  some true) fun k2 =>
  loopK FU (fun (x3 : Int) k4 =>
  cond (decide (x3 < (a0.length : Int)))
  (Option.bind (idxI a0 x3) fun e5 =>
  Option.bind (idxI a1 x3) fun e6 =>
  Option.bind (sqO e5 e6) fun r7 =>
  cond (!r7)
  (some false)
  (k4 (iadd .i64 x3 1)))
  (k2 ())) 0)

noncomputable def laws_sameFrame.raw (a0 : G.Frame) (a1 : G.Frame) : Option Bool :=
  joinK (fun (y1 : Bool) =>
  some y1) fun k2 =>
  cond (a0.Kind == a1.Kind)
  (cond (a0.Id == a1.Id)
  (Option.bind (sqO a0.Cn a1.Cn) fun r3 =>
  cond (r3)
  (Option.bind (sqO a0.Sn a1.Sn) fun r4 =>
  cond (r4)
  (cond (a0.Tick == a1.Tick)
  (Option.bind (sqO a0.Cookie a1.Cookie) fun r5 =>
  cond (r5)
  (Option.bind (sqO a0.Proof a1.Proof) fun r6 =>
  cond (r6)
  (cond (a0.Epoch == a1.Epoch)
  (cond (a0.Seq == a1.Seq)
  (Option.bind (sqO a0.Body a1.Body) fun r7 =>
  cond (r7)
  (Option.bind (sqO a0.Tag a1.Tag) fun r8 =>
  k2 r8)
  (k2 false))
  (k2 false))
  (k2 false))
  (k2 false))
  (k2 false))
  (k2 false))
  (k2 false))
  (k2 false))
  (k2 false))
  (k2 false)

noncomputable def laws_sameClient.raw (a0 : G.Client) (a1 : G.Client) : Option Bool :=
  joinK (fun (y1 : Bool) =>
  some y1) fun k2 =>
  cond (a0.Id == a1.Id)
  (Option.bind (sqO a0.Psk a1.Psk) fun r3 =>
  cond (r3)
  (let x4 : Bool := cond (a0.At.Host == a1.At.Host) (cond (a0.At.Port == a1.At.Port) (true) false) false
  cond (x4)
  (cond (a0.St == a1.St)
  (Option.bind (sqO a0.Cn a1.Cn) fun r5 =>
  cond (r5)
  (Option.bind (sqO a0.Fin a1.Fin) fun r6 =>
  cond (r6)
  (Option.bind (sqO a0.C a1.C) fun r7 =>
  cond (r7)
  (let x8 : Bool := cond (a0.T.On == a1.T.On) (cond (a0.T.Due == a1.T.Due) (cond (a0.T.Wait == a1.T.Wait) (cond (a0.T.Tries == a1.T.Tries) (true) false) false) false) false
  cond (x8)
  (let x9 : Bool := cond (a0.R.On == a1.R.On) (cond (a0.R.Due == a1.R.Due) (cond (a0.R.Wait == a1.R.Wait) (cond (a0.R.Tries == a1.R.Tries) (true) false) false) false) false
  cond (x9)
  (k2 (a0.Last == a1.Last))
  (k2 false))
  (k2 false))
  (k2 false))
  (k2 false))
  (k2 false))
  (k2 false))
  (k2 false))
  (k2 false))
  (k2 false)

noncomputable def laws_sameWorld.raw (a0 : G.World) (a1 : G.World) : Option Bool :=
  joinK (fun (y1 : Bool) =>
  cond (y1)
  (some false)
  (joinK (fun (y7 : Unit) =>
  joinK (fun (y14 : Unit) =>
  some true) fun k15 =>
  loopK FU (fun (x16 : Int) k17 =>
  cond (decide (x16 < (a0.Known.length : Int)))
  (Option.bind (idxI a0.Known x16) fun e18 =>
  Option.bind (idxI a1.Known x16) fun e19 =>
  Option.bind (sqO e18 e19) fun r20 =>
  cond (!r20)
  (some false)
  (k17 (iadd .i64 x16 1)))
  (k15 ())) 0) fun k8 =>
  loopK FU (fun (x9 : Int) k10 =>
  cond (decide (x9 < (a0.Clients.length : Int)))
  (Option.bind (idxI a0.Clients x9) fun e11 =>
  Option.bind (idxI a1.Clients x9) fun e12 =>
  Option.bind (sqO e11 e12) fun r13 =>
  cond (!r13)
  (some false)
  (k10 (iadd .i64 x9 1)))
  (k8 ())) 0)) fun k2 =>
  cond (a0.Now != a1.Now)
  (k2 true)
  (cond ((a0.Clients.length : Int) != (a1.Clients.length : Int))
  (k2 true)
  (Option.bind (sqO a0.S a1.S) fun r3 =>
  cond (!r3)
  (k2 true)
  (Option.bind (sqO a0.D.Seed a1.D.Seed) fun r4 =>
  cond (!r4)
  (k2 true)
  (cond (a0.D.N != a1.D.N)
  (k2 true)
  (Option.bind (sqO a0.Seen a1.Seen) fun r5 =>
  cond (!r5)
  (k2 true)
  (cond ((a0.Known.length : Int) != (a1.Known.length : Int))
  (k2 true)
  (Option.bind (sqO a0.Notes a1.Notes) fun r6 =>
  k2 (!r6))))))))

noncomputable def laws_FnBegins.raw (a0 : List UInt8) : Option Bool :=
  cond ((big a0))
  (some true)
  (Option.bind (spec_DrawWorldNew.raw a0) fun r1 =>
  Option.bind (worldNewO r1.1 r1.2.1 r1.2.2.1 r1.2.2.2) fun r2 =>
  Option.bind (worldNewO r1.1 r1.2.1 r1.2.2.1 r1.2.2.2) fun r3 =>
  Option.bind (sqO r2 r3) fun r4 =>
  cond (!r4)
  (some false)
  (Option.bind (worldOkO r3) fun r5 =>
  cond (!r5)
  (joinK (fun (y6 : Bool) =>
  some y6) fun k7 =>
  Option.bind (worldOkO r2) fun r8 =>
  cond (!r8)
  (k7 ((r2.Notes.length : Int) == 0))
  (k7 false))
  (joinK (fun (y9 : Bool) =>
  some y9) fun k10 =>
  Option.bind (worldOkO r2) fun r11 =>
  cond (r11)
  (Option.bind (luckyO r2.Notes) fun r12 =>
  cond (!r12)
  (Option.bind (idealO r2.Notes) fun r13 =>
  cond (r13)
  (Option.bind (sleepsO r2) fun r14 =>
  cond (r14)
  (Option.bind (settledO r2) fun r15 =>
  cond (r15)
  (Option.bind (epochsFitO r2 1) fun r16 =>
  cond (r16)
  (Option.bind (epochsFitO r2 2) fun r17 =>
  k10 r17)
  (k10 false))
  (k10 false))
  (k10 false))
  (k10 false))
  (k10 false))
  (k10 false))))

end Go.D

/-
  What the laws' own functions compute.
-/
namespace Go.D


end Go.D

/-
  What is drawn.
-/
namespace Go.D

/-- An answer that is there, and what is known of it. -/
def Ok {α : Type} (o : Option α) (P : α → Prop) : Prop := ∃ r, o = some r ∧ P r
theorem Ok.bind {α β : Type} {o : Option α} {P : α → Prop} {Q : β → Prop} {f : α → Option β} (h : Ok o P) (k : ∀ r, P r → Ok (f r) Q) : Ok (Option.bind o f) Q := by
  obtain ⟨r, rfl, h⟩ := h; exact k r h
theorem Ok.some' {α : Type} {x : α} {P : α → Prop} (h : P x) : Ok (some x) P := ⟨x, rfl, h⟩
theorem Ok.mono {α : Type} {o : Option α} {P Q : α → Prop} (h : Ok o P) (k : ∀ r, P r → Q r) : Ok o Q := by
  obtain ⟨r, h1, h2⟩ := h; exact ⟨r, h1, k r h2⟩
theorem Ok.cond' {α : Type} {b : Bool} {x y : Option α} {P : α → Prop} (h1 : b = true → Ok x P) (h2 : b = false → Ok y P) : Ok (cond b x y) P := by
  cases b
  · exact h2 rfl
  · exact h1 rfl

/-- A loop that comes to an end. -/
theorem Ok.loop {σ R : Type} {f : σ → (σ → Option R) → Option R} {P : R → Prop} (inv : σ → Prop) (μ : σ → Nat)
    (h : ∀ x, inv x → ∀ k : σ → Option R, (∀ y, inv y → μ y < μ x → Ok (k y) P) → Ok (f x k) P) {x : σ} (hx : inv x) (hμ : μ x < 2 ^ 64) : Ok (loopK FU f x) P := by
  rw [FU_eq]
  have : ∀ (n : Nat) (x : σ), inv x → μ x < n → Ok (loopK n f x) P := by
    intro n
    induction n with
    | zero => intro x _ hn; omega
    | succ n ih => intro x hx hn; exact h x hx (loopK n f) fun y hy hlt => ih y hy (by omega)
  exact this _ x hx hμ

theorem iand_lo (x : Int) (j : Nat) (hj : j < 63) : 0 ≤ iand .i64 x ((2 ^ j - 1 : Nat) : Int) ∧ iand .i64 x ((2 ^ j - 1 : Nat) : Int) ≤ ((2 ^ j - 1 : Nat) : Int) := by
  have h1 : 2 ^ j < 2 ^ 63 := Nat.pow_lt_pow_right (by decide) hj
  have h0 : 0 < 2 ^ j := Nat.two_pow_pos j
  unfold iand
  show 0 ≤ IntKind.wrap .i64 ((BitVec.ofInt 64 x &&& BitVec.ofInt 64 ((2 ^ j - 1 : Nat) : Int)).toNat : Int) ∧ IntKind.wrap .i64 ((BitVec.ofInt 64 x &&& BitVec.ofInt 64 ((2 ^ j - 1 : Nat) : Int)).toNat : Int) ≤ _
  have h2 : (BitVec.ofInt 64 x &&& BitVec.ofInt 64 ((2 ^ j - 1 : Nat) : Int)).toNat ≤ 2 ^ j - 1 := by
    rw [BitVec.toNat_and, ofInt_nat _ (by omega)]
    exact Nat.and_le_right
  generalize (BitVec.ofInt 64 x &&& BitVec.ofInt 64 ((2 ^ j - 1 : Nat) : Int)).toNat = m at h2
  rw [wrap_i64 (by omega) (by omega)]
  omega
theorem iand_255 (x : Int) : 0 ≤ iand .i64 x 255 ∧ iand .i64 x 255 ≤ 255 := iand_lo x 8 (by decide)

/-- What is drawn from. -/
def CurOk (c : G.Cur) : Prop := 0 ≤ c.i ∧ c.i ≤ c.b.length ∧ c.b.length ≤ 1048576

theorem new_tot {code : List UInt8} (h : code.length ≤ 1048576) : Ok (spec_l1New.raw code) CurOk := by
  simp only [spec_l1New.raw, joinK]
  refine Ok.loop (fun x : Int × Int => 0 ≤ x.2 ∧ x.2 ≤ (code.length : Int)) (fun x => code.length - x.2.toNat) (fun x hx k hk => ?_) ⟨Int.le_refl _, by show (0 : Int) ≤ (code.length : Int); omega⟩ (by show code.length - Int.toNat 0 < _; omega)
  obtain ⟨s, i⟩ := x
  obtain ⟨h0, h1⟩ := hx
  simp only at h0 h1 hk ⊢
  obtain ⟨j, rfl⟩ := Int.eq_ofNat_of_zero_le h0
  have fin : Ok (some (⟨code, 0, s⟩ : G.Cur)) CurOk := .some' ⟨Int.le_refl _, by show (0 : Int) ≤ _; omega, h⟩
  refine .cond' (fun hj => ?_) fun _ => fin
  have hj : j < code.length := by simpa using hj
  refine .cond' (fun _ => ?_) fun _ => fin
  rw [idxI_get hj, bind_some']
  have : iadd .i64 (j : Int) 1 = ((j + 1 : Nat) : Int) := iadd_nat j (by rw [maxLen_is]; omega)
  rw [this]
  exact hk _ ⟨by show (0 : Int) ≤ ((j + 1 : Nat) : Int); omega, by show ((j + 1 : Nat) : Int) ≤ _; omega⟩ (by simp only [Int.toNat_natCast]; omega)

theorem byte_tot {c : G.Cur} (h : CurOk c) : Ok (spec_l1Byte.raw c) fun r => 0 ≤ r.1 ∧ r.1 ≤ 255 ∧ CurOk r.2 := by
  obtain ⟨h0, h1, h2⟩ := h
  simp only [spec_l1Byte.raw, joinK]
  refine .cond' (fun hc => ?_) fun _ => .some' ⟨(iand_255 _).1, (iand_255 _).2, h0, h1, h2⟩
  have hc : c.i < (c.b.length : Int) := by simpa using hc
  obtain ⟨j, hj⟩ := Int.eq_ofNat_of_zero_le h0
  rw [hj] at hc ⊢
  have hjl : j < c.b.length := by omega
  rw [idxI_get hjl, bind_some']
  refine .some' ⟨(iand_255 _).1, (iand_255 _).2, ?_, ?_, h2⟩
  · show 0 ≤ iadd .i64 (j : Int) 1
    rw [iadd, iadd_nat j (by rw [maxLen_is]; omega)]; omega
  · show iadd .i64 (j : Int) 1 ≤ (c.b.length : Int)
    rw [iadd, iadd_nat j (by rw [maxLen_is]; omega)]; omega

theorem irem_lo {a n : Int} (ha : 0 ≤ a) (hn : 0 < n) : 0 ≤ irem .i64 a n ∧ irem .i64 a n < n := by
  unfold irem
  rw [Int.tmod_eq_emod_of_nonneg ha]
  exact ⟨Int.emod_nonneg _ (by omega), Int.emod_lt_of_pos _ hn⟩

theorem below_tot {c : G.Cur} {n : Int} (h : CurOk c) : Ok (spec_l1Below.raw c n) fun r => 0 ≤ r.1 ∧ (0 < n → r.1 < n) ∧ (n ≤ 0 → r.1 = 0) ∧ CurOk r.2 := by
  simp only [spec_l1Below.raw]
  refine .cond' (fun hn => ?_) fun hn => ?_
  · have hn : n ≤ 0 := by simpa using hn
    exact .some' ⟨Int.le_refl _, fun h => by omega, fun _ => rfl, h⟩
  · have hn : 0 < n := by simpa using hn
    have hn0 : (n == 0) = false := by simp; omega
    refine .cond' (fun _ => ?_) fun _ => ?_
    · refine (byte_tot h).bind fun r hr => ?_
      rw [hn0]
      have := irem_lo hr.1 hn
      exact .some' ⟨this.1, fun _ => this.2, fun h => by omega, hr.2.2⟩
    · refine (byte_tot h).bind fun r hr => (byte_tot hr.2.2).bind fun r2 hr2 => (byte_tot hr2.2.2).bind fun r3 hr3 => ?_
      rw [hn0]
      have h1 : imul .i64 r.1 65536 = r.1 * 65536 := wrap_i64 (by omega) (by omega)
      have h2 : imul .i64 r2.1 256 = r2.1 * 256 := wrap_i64 (by omega) (by omega)
      have h3 : iadd .i64 (imul .i64 r.1 65536) (imul .i64 r2.1 256) = r.1 * 65536 + r2.1 * 256 := by rw [h1, h2]; exact wrap_i64 (by omega) (by omega)
      have h4 : iadd .i64 (iadd .i64 (imul .i64 r.1 65536) (imul .i64 r2.1 256)) r3.1 = r.1 * 65536 + r2.1 * 256 + r3.1 := by rw [h3]; exact wrap_i64 (by omega) (by omega)
      simp only [cond_false, h4]
      have := irem_lo (a := r.1 * 65536 + r2.1 * 256 + r3.1) (by omega) hn
      exact .some' ⟨this.1, fun _ => this.2, fun h => by omega, hr3.2.2⟩

theorem int_tot {c : G.Cur} {l : List Int} (h : CurOk c) (hl : l ≠ []) : Ok (spec_l1Int.raw c l) fun r => r.1 ∈ l ∧ CurOk r.2 := by
  simp only [spec_l1Int.raw]
  have h0 : 0 < l.length := List.length_pos_iff.2 hl
  refine (below_tot h).bind fun r hr => ?_
  obtain ⟨j, hj⟩ := Int.eq_ofNat_of_zero_le hr.1
  have := hr.2.1 (by omega)
  rw [hj] at this ⊢
  have hjl : j < l.length := by omega
  rw [idxI_get hjl, bind_some']
  exact .some' ⟨List.getElem_mem hjl, hr.2.2.2⟩

theorem bytes_tot {c : G.Cur} {n : Int} (h : CurOk c) (hn : n ≤ 1048576) : Ok (spec_l1Bytes.raw c n) fun r => r.1.length = n.toNat ∧ CurOk r.2 := by
  have hL := LIM_is
  simp only [spec_l1Bytes.raw, joinK]
  refine Ok.loop (fun x : List UInt8 × Int × G.Cur => x.2.1 = (x.1.length : Int) ∧ x.1.length ≤ n.toNat ∧ CurOk x.2.2) (fun x => n.toNat - x.1.length) (fun x hx k hk => ?_) ⟨rfl, Nat.zero_le _, h⟩ (by show n.toNat - 0 < _; omega)
  obtain ⟨l, i, d⟩ := x
  obtain ⟨hi, h1, h2⟩ := hx
  simp only at hi h1 h2 hk ⊢
  subst hi
  refine .cond' (fun hc => ?_) fun hc => ?_
  · have hc : (l.length : Int) < n := by simpa using hc
    refine (byte_tot h2).bind fun r hr => ?_
    rw [decide_eq_true (by simp; omega), cond_true]
    have : iadd .i64 (l.length : Int) 1 = ((l.length + 1 : Nat) : Int) := iadd_nat _ (by rw [maxLen_is]; omega)
    rw [this]
    exact hk _ ⟨by simp, by simp; omega, hr.2.2⟩ (by simp; omega)
  · have hc : ¬ (l.length : Int) < n := by simpa using hc
    exact .some' ⟨by show l.length = _; omega, h2⟩

theorem psk_tot {c : G.Cur} (h : CurOk c) : Ok (spec_l12Psk.raw c) fun r => r.1.length ≤ 33 ∧ CurOk r.2 := by
  simp only [spec_l12Psk.raw]
  refine (int_tot h (by simp)).bind fun r hr => ?_
  have hm : r.1 ≤ 33 := by
    have := hr.1
    simp only [List.mem_cons, List.not_mem_nil, or_false] at this
    omega
  refine (bytes_tot hr.2 (by omega)).bind fun r2 hr2 => .some' ⟨by have := hr2.1; show r2.1.length ≤ 33; omega, hr2.2⟩

theorem drawNew_tot {code : List UInt8} (h : code.length ≤ 1048576) : Ok (spec_DrawWorldNew.raw code) fun r => r.1.length ≤ 33 ∧ r.2.1.length ≤ 33 ∧ r.2.2.1.length ≤ 33 := by
  simp only [spec_DrawWorldNew.raw]
  refine (new_tot h).bind fun c hc => (int_tot hc (by simp)).bind fun r hr => ?_
  have hm : r.1 ≤ 33 := by
    have := hr.1
    simp only [List.mem_cons, List.not_mem_nil, or_false] at this
    omega
  refine (bytes_tot hr.2 (by omega)).bind fun r2 h2 => (psk_tot h2.2).bind fun r3 h3 => (psk_tot h3.2).bind fun r4 h4 => (int_tot h4.2 (by simp)).bind fun r5 h5 => .some' ⟨?_, h3.1, h4.1⟩
  have := h2.1
  show r2.1.length ≤ 33; omega

theorem laws_big.ok {x : TyTup [.sl .byte]} (_ : bdTup [.sl .byte] x) : laws_big.raw x = some (big x) := rfl

end Go.D

/-
  Equal things are told to be equal.
-/
namespace Go.D

theorem sq_refl {α β : Type} [Wt α] {a : α} {f : Bool → Option β} (h : wt a ≤ LIM) : Option.bind (sqO a a) f = f true := pt_bind ⟨rfl, h⟩
theorem sq_ok {α : Type} [Wt α] {a b : α} {r : Bool} {o : α → α → Option Bool} (h : wt a ≤ LIM → o a a = some true) : sqO a b = some r → o a b = some r :=
  pt_ok fun hp => by obtain ⟨rfl, hw⟩ := hp; exact h hw

/-- A loop in which nothing is met. -/
theorem loop_all {R : Type} (n : Nat) (hn : n ≤ maxLen) (z : Option R) {f : Int → (Int → Option R) → Option R}
    (hf : ∀ (i : Nat) (k : Int → Option R), i < n → f (i : Int) k = k (IntKind.wrap .i64 ((i : Int) + 1))) (hz : ∀ k, f (n : Int) k = z) : loopK FU f (0 : Int) = z :=
  loop_up n hn (f := f) (g := fun _ => z) (fun i k hi hk => by rw [hf i k hi, hk]) hz 0 (Nat.zero_le _)
theorem lt_true {i n : Nat} (h : i < n) : decide ((i : Int) < (n : Int)) = true := by simpa using h
theorem lt_self (n : Nat) : decide ((n : Int) < (n : Int)) = false := by simp

theorem laws_same_raw {a : List UInt8} (h : wt a ≤ LIM) : laws_same.raw a a = some true := by
  rw [wt_bytes] at h
  simp only [laws_same.raw, Nat.ble_eq_true_of_le h, cond_true, beq_self_eq_true]
theorem laws_sameInts_raw {a : List Int} (h : wt a ≤ LIM) : laws_sameInts.raw a a = some true := by
  simp only [laws_sameInts.raw, bne_self_eq_false, cond_false, joinK]
  refine loop_all a.length (len_lim h) _ (fun i k hi => ?_) (fun k => by rw [lt_self]; rfl)
  rw [lt_true hi, cond_true, idxI_get hi, bind_some', bind_some', bne_self_eq_false, cond_false]
theorem laws_sameWin_raw {a : G.Win} (h : wt a ≤ LIM) : laws_sameWin.raw a a = some true := by
  simp only [wt_Win] at h
  simp only [laws_sameWin.raw, joinK, beq_self_eq_true, bne_self_eq_false, cond_true, cond_false, Bool.not_true]
  rw [sq_refl (by omega)]
theorem laws_sameEp_raw {a : G.Ep} (h : wt a ≤ LIM) : laws_sameEp.raw a a = some true := by
  simp only [wt_Ep] at h
  simp only [laws_sameEp.raw, joinK, beq_self_eq_true, bne_self_eq_false, cond_true, cond_false, Bool.not_true]
  repeat (rw [sq_refl (by omega)] <;> try simp only [cond_true, cond_false, Bool.not_true])
theorem laws_sameChan_raw {a : G.Chan} (h : wt a ≤ LIM) : laws_sameChan.raw a a = some true := by
  simp only [wt_Chan] at h
  simp only [laws_sameChan.raw, joinK, beq_self_eq_true, bne_self_eq_false, cond_true, cond_false, Bool.not_true]
  repeat (rw [sq_refl (by omega)] <;> try simp only [cond_true, cond_false, Bool.not_true])
theorem laws_samePaths_raw {a : G.Paths} (h : wt a ≤ LIM) : laws_samePaths.raw a a = some true := by
  simp only [wt_Paths] at h
  simp only [laws_samePaths.raw, joinK, beq_self_eq_true, bne_self_eq_false, cond_true, cond_false, Bool.not_true]
  refine loop_all a.Cands.length (len_lim (by omega)) _ (fun i k hi => ?_) (fun k => by rw [lt_self]; rfl)
  have := wt_get hi
  have h2 := wt_Cand a.Cands[i]
  rw [lt_true hi]
  simp only [cond_true, idxI_get hi, bind_some', beq_self_eq_true, Bool.not_true, cond_false]
  rw [sq_refl (by omega)]
  simp only [Bool.not_true, cond_false, bne_self_eq_false]
theorem laws_sameSess_raw {a : G.Sess} (h : wt a ≤ LIM) : laws_sameSess.raw a a = some true := by
  simp only [wt_Sess] at h
  simp only [laws_sameSess.raw, joinK, beq_self_eq_true, bne_self_eq_false, cond_true, cond_false, Bool.not_true]
  repeat (rw [sq_refl (by omega)] <;> try simp only [cond_true, cond_false, Bool.not_true])
theorem laws_sameTab_raw {a : G.Tab} (h : wt a ≤ LIM) : laws_sameTab.raw a a = some true := by
  simp only [wt_Tab] at h
  simp only [laws_sameTab.raw, joinK, beq_self_eq_true, bne_self_eq_false, cond_true, cond_false, Bool.not_true]
  refine loop_all a.L.length (len_lim (by omega)) _ (fun i k hi => ?_) (fun k => by rw [lt_self]; rfl)
  have := wt_get hi
  rw [lt_true hi]
  simp only [cond_true, idxI_get hi, bind_some']
  rw [sq_refl (by omega)]
  simp only [Bool.not_true, cond_false]
theorem laws_sameCredits_raw {a : List G.Credit} (h : wt a ≤ LIM) : laws_sameCredits.raw a a = some true := by
  simp only [laws_sameCredits.raw, joinK, beq_self_eq_true, bne_self_eq_false, cond_true, cond_false, Bool.not_true]
  refine loop_all a.length (len_lim (by omega)) _ (fun i k hi => ?_) (fun k => by rw [lt_self]; rfl)
  rw [lt_true hi]
  simp only [cond_true, idxI_get hi, bind_some', beq_self_eq_true, Bool.not_true, cond_false]
theorem laws_sameServer_raw {a : G.Server} (h : wt a ≤ LIM) : laws_sameServer.raw a a = some true := by
  simp only [wt_Server, wt_Jar, wt_Dice] at h
  simp only [laws_sameServer.raw, joinK, beq_self_eq_true, bne_self_eq_false, cond_true, cond_false, Bool.not_true]
  repeat (rw [sq_refl (by omega)] <;> try simp only [cond_true, cond_false, Bool.not_true])
  refine loop_all a.Psks.length (len_lim (by omega)) _ (fun i k hi => ?_) (fun k => by rw [lt_self]; rfl)
  have := wt_get hi
  rw [lt_true hi]
  simp only [cond_true, idxI_get hi, bind_some']
  rw [sq_refl (by omega)]
  simp only [Bool.not_true, cond_false]
theorem laws_sameWires_raw {a : List G.Wire} (h : wt a ≤ LIM) : laws_sameWires.raw a a = some true := by
  simp only [laws_sameWires.raw, joinK, beq_self_eq_true, bne_self_eq_false, cond_true, cond_false, Bool.not_true]
  refine loop_all a.length (len_lim (by omega)) _ (fun i k hi => ?_) (fun k => by rw [lt_self]; rfl)
  have := wt_get hi
  have h2 := wt_Wire a[i]
  rw [lt_true hi]
  simp only [cond_true, idxI_get hi, bind_some', beq_self_eq_true, Bool.not_true, cond_false]
  rw [sq_refl (by omega)]
  simp only [Bool.not_true, cond_false]
theorem sameO_refl {β : Type} {a : List UInt8} {f : Bool → Option β} (h : wt a ≤ LIM) : Option.bind (sameO a a) f = f true := by
  rw [sameO, pt_bind ⟨h, h⟩, beq_self_eq_true]
theorem impl_SameNote_raw {a : G.Note} (h : wt a ≤ LIM) : impl_SameNote.raw a a = some true := by
  simp only [wt_Note] at h
  simp only [impl_SameNote.raw, joinK, beq_self_eq_true, cond_true]
  repeat (rw [sameO_refl (by omega)] <;> try simp only [cond_true])
theorem impl_SameNote.ok {x : TyTup [.v .Note, .v .Note]} (_ : bdTup [.v .Note, .v .Note] x) {r : Bool} : sqO x.1 x.2 = some r → impl_SameNote.raw x.1 x.2 = some r := sq_ok fun h => impl_SameNote_raw h
theorem laws_sameNotes_raw {a : List G.Note} (h : wt a ≤ LIM) : laws_sameNotes.raw a a = some true := by
  simp only [laws_sameNotes.raw, joinK, bne_self_eq_false, cond_false]
  refine loop_all a.length (len_lim (by omega)) _ (fun i k hi => ?_) (fun k => by rw [lt_self]; rfl)
  have := wt_get hi
  rw [lt_true hi]
  simp only [cond_true, idxI_get hi, bind_some']
  rw [sq_refl (by omega)]
  simp only [Bool.not_true, cond_false]
theorem laws_sameFrame_raw {a : G.Frame} (h : wt a ≤ LIM) : laws_sameFrame.raw a a = some true := by
  simp only [wt_Frame] at h
  simp only [laws_sameFrame.raw, joinK, beq_self_eq_true, bne_self_eq_false, cond_true, cond_false, Bool.not_true]
  repeat (rw [sq_refl (by omega)] <;> try simp only [cond_true, cond_false, Bool.not_true])
theorem laws_sameClient_raw {a : G.Client} (h : wt a ≤ LIM) : laws_sameClient.raw a a = some true := by
  simp only [wt_Client] at h
  simp only [laws_sameClient.raw, joinK, beq_self_eq_true, bne_self_eq_false, cond_true, cond_false, Bool.not_true]
  repeat (rw [sq_refl (by omega)] <;> try simp only [cond_true, cond_false, Bool.not_true])
theorem laws_sameWorld_raw {a : G.World} (h : wt a ≤ LIM) : laws_sameWorld.raw a a = some true := by
  simp only [wt_World, wt_Dice] at h
  simp only [laws_sameWorld.raw, joinK, beq_self_eq_true, bne_self_eq_false, cond_true, cond_false, Bool.not_true]
  repeat (rw [sq_refl (by omega)] <;> try simp only [cond_true, cond_false, Bool.not_true])
  refine loop_all a.Clients.length (len_lim (by omega)) _ (fun i k hi => ?_) (fun k => ?_)
  · have := wt_get hi
    rw [lt_true hi]
    simp only [cond_true, idxI_get hi, bind_some']
    rw [sq_refl (by omega)]
    simp only [Bool.not_true, cond_false]
  · rw [lt_self, cond_false]
    refine loop_all a.Known.length (len_lim (by omega)) _ (fun i k hi => ?_) (fun k => by rw [lt_self]; rfl)
    have := wt_get hi
    rw [lt_true hi]
    simp only [cond_true, idxI_get hi, bind_some']
    rw [sq_refl (by omega)]
    simp only [Bool.not_true, cond_false]
theorem laws_same.ok {x : TyTup [.sl .byte, .sl .byte]} (_ : bdTup [.sl .byte, .sl .byte] x) {r : Bool} : sqO (α := List UInt8) x.1 x.2 = some r → laws_same.raw x.1 x.2 = some r := sq_ok fun h => laws_same_raw h
theorem laws_sameInts.ok {x : TyTup [.sl .int, .sl .int]} (_ : bdTup [.sl .int, .sl .int] x) {r : Bool} : sqO (α := List Int) x.1 x.2 = some r → laws_sameInts.raw x.1 x.2 = some r := sq_ok fun h => laws_sameInts_raw h
theorem laws_sameWin.ok {x : TyTup [.v .Win, .v .Win]} (_ : bdTup [.v .Win, .v .Win] x) {r : Bool} : sqO (α := G.Win) x.1 x.2 = some r → laws_sameWin.raw x.1 x.2 = some r := sq_ok fun h => laws_sameWin_raw h
theorem laws_sameEp.ok {x : TyTup [.v .Ep, .v .Ep]} (_ : bdTup [.v .Ep, .v .Ep] x) {r : Bool} : sqO (α := G.Ep) x.1 x.2 = some r → laws_sameEp.raw x.1 x.2 = some r := sq_ok fun h => laws_sameEp_raw h
theorem laws_sameChan.ok {x : TyTup [.v .Chan, .v .Chan]} (_ : bdTup [.v .Chan, .v .Chan] x) {r : Bool} : sqO (α := G.Chan) x.1 x.2 = some r → laws_sameChan.raw x.1 x.2 = some r := sq_ok fun h => laws_sameChan_raw h
theorem laws_samePaths.ok {x : TyTup [.v .Paths, .v .Paths]} (_ : bdTup [.v .Paths, .v .Paths] x) {r : Bool} : sqO (α := G.Paths) x.1 x.2 = some r → laws_samePaths.raw x.1 x.2 = some r := sq_ok fun h => laws_samePaths_raw h
theorem laws_sameSess.ok {x : TyTup [.v .Sess, .v .Sess]} (_ : bdTup [.v .Sess, .v .Sess] x) {r : Bool} : sqO (α := G.Sess) x.1 x.2 = some r → laws_sameSess.raw x.1 x.2 = some r := sq_ok fun h => laws_sameSess_raw h
theorem laws_sameTab.ok {x : TyTup [.v .Tab, .v .Tab]} (_ : bdTup [.v .Tab, .v .Tab] x) {r : Bool} : sqO (α := G.Tab) x.1 x.2 = some r → laws_sameTab.raw x.1 x.2 = some r := sq_ok fun h => laws_sameTab_raw h
theorem laws_sameCredits.ok {x : TyTup [.sl .Credit, .sl .Credit]} (_ : bdTup [.sl .Credit, .sl .Credit] x) {r : Bool} : sqO (α := List G.Credit) x.1 x.2 = some r → laws_sameCredits.raw x.1 x.2 = some r := sq_ok fun h => laws_sameCredits_raw h
theorem laws_sameServer.ok {x : TyTup [.v .Server, .v .Server]} (_ : bdTup [.v .Server, .v .Server] x) {r : Bool} : sqO (α := G.Server) x.1 x.2 = some r → laws_sameServer.raw x.1 x.2 = some r := sq_ok fun h => laws_sameServer_raw h
theorem laws_sameWires.ok {x : TyTup [.sl .Wire, .sl .Wire]} (_ : bdTup [.sl .Wire, .sl .Wire] x) {r : Bool} : sqO (α := List G.Wire) x.1 x.2 = some r → laws_sameWires.raw x.1 x.2 = some r := sq_ok fun h => laws_sameWires_raw h
theorem laws_sameNotes.ok {x : TyTup [.sl .Note, .sl .Note]} (_ : bdTup [.sl .Note, .sl .Note] x) {r : Bool} : sqO (α := List G.Note) x.1 x.2 = some r → laws_sameNotes.raw x.1 x.2 = some r := sq_ok fun h => laws_sameNotes_raw h
theorem laws_sameFrame.ok {x : TyTup [.v .Frame, .v .Frame]} (_ : bdTup [.v .Frame, .v .Frame] x) {r : Bool} : sqO (α := G.Frame) x.1 x.2 = some r → laws_sameFrame.raw x.1 x.2 = some r := sq_ok fun h => laws_sameFrame_raw h
theorem laws_sameClient.ok {x : TyTup [.v .Client, .v .Client]} (_ : bdTup [.v .Client, .v .Client] x) {r : Bool} : sqO (α := G.Client) x.1 x.2 = some r → laws_sameClient.raw x.1 x.2 = some r := sq_ok fun h => laws_sameClient_raw h
theorem laws_sameWorld.ok {x : TyTup [.v .World, .v .World]} (_ : bdTup [.v .World, .v .World] x) {r : Bool} : sqO (α := G.World) x.1 x.2 = some r → laws_sameWorld.raw x.1 x.2 = some r := sq_ok fun h => laws_sameWorld_raw h

end Go.D

/-
  What a new world is made of.
-/
namespace Go.D

theorem room0 {n : Nat} {α : Type} (h : n ≤ LIM) : decide (([] : List α).length + n ≤ LIM) = true := by simpa using h
theorem clone_eq {β : Type} {a : List UInt8} {f : List UInt8 → Option β} (h : wt a ≤ LIM) : Option.bind (cloneO a) f = f a := pt_bind h

theorem impl_Roll.ok {x : TyTup [.v .Dice]} (_ : bdTup [.v .Dice] x) {r : G.Dice × List UInt8} : rollO x = some r → impl_Roll.raw x = some r := pt_ok fun h => by
  rw [wt_Dice] at h
  simp only [impl_Roll.raw, joinK, rollD]
  rw [clone_eq h]
  cases h1 : diceOk x
  · rfl
  · simp only [Bool.not_true, cond_false, Bool.false_or]
    cases (G.Dice.N x == 10000) <;> rfl
theorem spec_l10Copy.ok {x : TyTup [.v .Dice]} (_ : bdTup [.v .Dice] x) {r : G.Dice} : diceCopyO x = some r → spec_l10Copy.raw x = some r := pt_ok fun h => by
  rw [wt_Dice, wt_bytes] at h
  simp only [spec_l10Copy.raw]
  rw [room0 h]; rfl
theorem spec_Roll.ok {x : TyTup [.v .Dice]} (_ : bdTup [.v .Dice] x) {r : G.Dice × List UInt8} : rollO x = some r → spec_Roll.raw x = some r := pt_ok fun h => by
  simp only [spec_Roll.raw, joinK, rollD]
  rw [diceCopyO, pt_bind h]
  cases h1 : diceOk x
  · rfl
  · simp only [Bool.not_true, cond_false, Bool.false_or]
    cases (G.Dice.N x == 10000) <;> rfl

theorem impl_cloneAll.ok {x : TyTup [.sl .bs]} (_ : bdTup [.sl .bs] x) {r : List (List UInt8)} : cloneAllO x = some r → impl_cloneAll.raw x = some r := pt_ok fun h => by
  have hl := wt_len (α := List UInt8) x
  simp only [impl_cloneAll.raw, joinK]
  have key := loop_FU (f := fun (x3 : (List (List UInt8)) × Int) k4 => cond (decide (x3.2 < (List.length (α := List UInt8) x : Int))) (Option.bind (idxI (α := List UInt8) x x3.2) fun e5 => Option.bind (cloneO e5) fun r6 =>
      cond (decide (x3.1.length + [r6].length ≤ LIM)) (k4 ((x3.1 ++ [r6]), (iadd .i64 x3.2 1))) none) (some x3.1)) (g := fun _ => some x)
    (fun y : List (List UInt8) × Int => y.2 = (y.1.length : Int) ∧ y.1 = List.take (α := List UInt8) y.1.length x) (fun y => List.length (α := List UInt8) x - y.1.length) (fun y hy k hk => by
      obtain ⟨o, i⟩ := y
      obtain ⟨h1, h2⟩ := hy
      simp only at h1 h2 hk ⊢
      subst h1
      by_cases hi : o.length < List.length (α := List UInt8) x
      · have hw := wt_get (l := x) hi
        rw [lt_true hi, cond_true, idxI_get hi, bind_some', clone_eq (by omega), decide_eq_true (by simp; omega), cond_true]
        rw [iadd, iadd_nat _ (by rw [maxLen_is]; have := LIM_is; omega)]
        refine hk _ ⟨by simp, ?_⟩ (by simp; omega)
        simp only [List.length_append, List.length_cons, List.length_nil]
        rw [take_next (l := x) hi, ← h2]
      · have ho : o = x := by rw [h2, List.take_of_length_le (by omega)]
        rw [decide_eq_false (by omega), cond_false, ho]) (x := ([], (0 : Int))) ⟨rfl, rfl⟩ (by show List.length (α := List UInt8) x - 0 < 2 ^ 64; have := LIM_is; omega)
  exact key

theorem expLast_len {k info : List UInt8} (hk : k.length ≤ 1048576) (hi : info.length ≤ 100) : ∀ j, (expLast k info (j + 1)).length = 32
  | 0 => hmac_len hk (by simp [expLast]; omega)
  | j + 1 => hmac_len hk (by rw [List.length_append, List.length_append, expLast_len hk hi j]; simp; omega)
theorem expLast_le {k info : List UInt8} (hk : k.length ≤ 1048576) (hi : info.length ≤ 100) (j : Nat) : (expLast k info j).length ≤ 32 := by
  cases j with
  | zero => exact Nat.zero_le _
  | succ j => rw [expLast_len hk hi]; exact Nat.le_refl _
theorem expOut_len {k info : List UInt8} (hk : k.length ≤ 1048576) (hi : info.length ≤ 100) : ∀ j, (expOut k info j).length = 32 * j
  | 0 => rfl
  | j + 1 => by rw [expOut, List.length_append, expOut_len hk hi j, expLast_len hk hi]; omega

/-- The rounds of expansion. -/
theorem exp_loop {k info : List UInt8} (hk : k.length ≤ 1048576) (hi : info.length ≤ 100) (n : Nat) (hn : n ≤ 8160) {R : Type} (z : List UInt8 → Option R)
    {f : List UInt8 × List UInt8 × Int → (List UInt8 × List UInt8 × Int → Option R) → Option R}
    (hf : ∀ (j : Nat) (K : List UInt8 × List UInt8 × Int → Option R), 32 * j < n → f (expOut k info j, expLast k info j, ((j + 1 : Nat) : Int)) K = K (expOut k info (j + 1), expLast k info (j + 1), ((j + 2 : Nat) : Int)))
    (hz : ∀ (j : Nat) (K : List UInt8 × List UInt8 × Int → Option R), n ≤ 32 * j → f (expOut k info j, expLast k info j, ((j + 1 : Nat) : Int)) K = z (expOut k info j)) :
    loopK FU f ([], [], (1 : Int)) = z (expOut k info ((n + 31) / 32)) := by
  have key := loop_FU (f := f) (g := fun _ => z (expOut k info ((n + 31) / 32))) (fun x => ∃ j, x = (expOut k info j, expLast k info j, ((j + 1 : Nat) : Int)) ∧ j ≤ (n + 31) / 32) (fun x => 10000 - x.1.length) (fun x hx K hK => by
    obtain ⟨j, rfl, hj⟩ := hx
    by_cases hc : 32 * j < n
    · rw [hf j K hc]
      refine hK _ ⟨j + 1, rfl, by omega⟩ ?_
      simp only [expOut_len hk hi]; omega
    · rw [hz j K (by omega)]
      have : j = (n + 31) / 32 := by omega
      rw [this]) (x := ([], [], (1 : Int))) ⟨0, rfl, Nat.zero_le _⟩ (by show 10000 - 0 < 2 ^ 64; omega)
  exact key

theorem three_flat (a b c : List UInt8) : ([a, b, c] : List (List UInt8)).flatten = a ++ b ++ c := by simp
theorem three_wt (a b c : List UInt8) : wt ([a, b, c] : List (List UInt8)) = a.length + b.length + c.length + 3 := by
  rw [wt_cons, wt_cons, wt_cons, wt_nil, wt_bytes, wt_bytes, wt_bytes]; omega

theorem expand_bad {k info : List UInt8} {n : Int} (h : (!inR n 0 8160 || decide ((info.length : Int) > 100) || decide ((k.length : Int) > 1048576)) = true) : expand k info n = ([], false) := by rw [expand, h]; rfl
theorem expand_good {k info : List UInt8} {n : Int} (h : (!inR n 0 8160 || decide ((info.length : Int) > 100) || decide ((k.length : Int) > 1048576)) = false) : expand k info n = ((expOut k info ((n.toNat + 31) / 32)).take n.toNat, true) := by rw [expand, h]; rfl

theorem impl_Expand_raw (k info : List UInt8) (n : Int) : impl_Expand.raw k info n = some (expand k info n) := by
  have hL := LIM_is
  simp only [impl_Expand.raw, joinK]
  cases h1 : inR n 0 8160
  · rw [expand_bad (by rw [h1]; rfl)]; rfl
  cases h2 : decide ((info.length : Int) > 100)
  case true => rw [expand_bad (by rw [h1, h2]; rfl)]; rfl
  cases h3 : decide ((k.length : Int) > 1048576)
  case true => rw [expand_bad (by rw [h1, h2, h3]; rfl)]; rfl
  rw [expand_good (by rw [h1, h2, h3]; rfl)]
  have h1 := inR_iff.1 h1
  have h2 : info.length ≤ 100 := by have := of_decide_eq_false h2; omega
  have h3 : k.length ≤ 1048576 := by have := of_decide_eq_false h3; omega
  obtain ⟨m, rfl⟩ := Int.eq_ofNat_of_zero_le h1.1
  simp only [Bool.not_true, cond_false, Int.toNat_natCast]
  refine exp_loop (R := List UInt8 × Bool) h3 h2 m (by omega) (fun o => some (o.take m, true)) (fun j K hj => ?_) (fun j K hj => ?_)
  · have hle := expLast_le h3 h2 j
    rw [expOut_len h3 h2, decide_eq_true (by omega), cond_true, joinedO, pt_bind (by rw [three_wt]; simp; omega), three_flat]
    have : hmac k (expLast k info j ++ info ++ [UInt8.ofNat (IntKind.wrap .u8 ((j + 1 : Nat) : Int)).toNat]) = expLast k info (j + 1) := rfl
    rw [this, expLast_len h3 h2, decide_eq_true (by omega), cond_true, iadd, iadd_nat (j + 1) (by rw [maxLen_is]; omega)]
    rfl
  · rw [expOut_len h3 h2, decide_eq_false (by omega), cond_false, decide_eq_true (by omega), decide_eq_true (by omega), decide_eq_true (by omega)]
    simp only [Bool.and_self, cond_true, List.drop_zero, Int.sub_zero, Int.toNat_natCast]
    rw [clone_eq (by rw [wt_bytes, List.length_take]; omega)]
theorem impl_Expand.ok {x : TyTup [.sl .byte, .sl .byte, .v .int]} (_ : bdTup [.sl .byte, .sl .byte, .v .int] x) : impl_Expand.raw x.1 x.2.1 x.2.2 = some (expand x.1 x.2.1 x.2.2) := impl_Expand_raw x.1 x.2.1 x.2.2

theorem spec_Expand_raw (k info : List UInt8) (n : Int) : spec_Expand.raw k info n = some (expand k info n) := by
  have hL := LIM_is
  simp only [spec_Expand.raw, joinK]
  cases h1 : inR n 0 8160
  · rw [expand_bad (by rw [h1]; rfl)]; rfl
  cases h2 : decide ((info.length : Int) > 100)
  case true => rw [expand_bad (by rw [h1, h2]; rfl)]; rfl
  cases h3 : decide ((k.length : Int) > 1048576)
  case true => rw [expand_bad (by rw [h1, h2, h3]; rfl)]; rfl
  rw [expand_good (by rw [h1, h2, h3]; rfl)]
  have h1 := inR_iff.1 h1
  have h2 : info.length ≤ 100 := by have := of_decide_eq_false h2; omega
  have h3 : k.length ≤ 1048576 := by have := of_decide_eq_false h3; omega
  obtain ⟨m, rfl⟩ := Int.eq_ofNat_of_zero_le h1.1
  simp only [Bool.not_true, cond_false, Int.toNat_natCast]
  refine exp_loop (R := List UInt8 × Bool) h3 h2 m (by omega) (fun o => some (o.take m, true)) (fun j K hj => ?_) (fun j K hj => ?_)
  · have hle := expLast_le h3 h2 j
    simp only
    rw [expOut_len h3 h2, decide_eq_true (by omega), cond_true, room0 (by omega), cond_true, List.nil_append, decide_eq_true (by omega), cond_true, decide_eq_true (by simp; omega), cond_true]
    have : hmac k (expLast k info j ++ info ++ [UInt8.ofNat (IntKind.wrap .u8 ((j + 1 : Nat) : Int)).toNat]) = expLast k info (j + 1) := rfl
    rw [this, expLast_len h3 h2, decide_eq_true (by omega), cond_true, iadd, iadd_nat (j + 1) (by rw [maxLen_is]; omega)]
    rfl
  · rw [expOut_len h3 h2, decide_eq_false (by omega), cond_false, decide_eq_true (by omega), decide_eq_true (by omega), decide_eq_true (by omega)]
    simp only [Bool.and_self, cond_true, List.drop_zero, Int.sub_zero, Int.toNat_natCast]
    rw [room0 (by rw [List.length_take]; omega)]; rfl
theorem spec_Expand.ok {x : TyTup [.sl .byte, .sl .byte, .v .int]} (_ : bdTup [.sl .byte, .sl .byte, .v .int] x) : spec_Expand.raw x.1 x.2.1 x.2.2 = some (expand x.1 x.2.1 x.2.2) := spec_Expand_raw x.1 x.2.1 x.2.2

theorem impl_Derive.ok {x : TyTup [.sl .byte, .v .str]} (_ : bdTup [.sl .byte, .v .str] x) {r : List UInt8} : deriveO x.1 x.2 = some r → impl_Derive.raw x.1 x.2 = some r := pt_ok fun h => by
  rw [wt_bytes] at h
  simp only [impl_Derive.raw, Nat.ble_eq_true_of_le h, cond_true]; rfl
theorem spec_Derive.ok {x : TyTup [.sl .byte, .v .str]} (_ : bdTup [.sl .byte, .v .str] x) {r : List UInt8} : deriveO x.1 x.2 = some r → spec_Derive.raw x.1 x.2 = some r := pt_ok fun h => by
  rw [wt_bytes] at h
  simp only [spec_Derive.raw, Nat.ble_eq_true_of_le h, cond_true]; rfl
theorem derive_le (k l : List UInt8) : (derive k l).length ≤ 32 := by
  rw [derive, expand]
  cases (!inR 32 0 8160 || decide ((l.length : Int) > 100) || decide ((k.length : Int) > 1048576))
  · show (List.take 32 _).length ≤ 32
    rw [List.length_take]; omega
  · exact Nat.zero_le _

theorem jarB : wt ([106, 97, 114] : List UInt8) ≤ LIM := by rw [wt_bytes, LIM_is]; decide
theorem impl_JarNew.ok {x : TyTup [.sl .byte]} (_ : bdTup [.sl .byte] x) : impl_JarNew.raw x = some (jarNew x) := by
  simp only [impl_JarNew.raw, jarNew]
  rw [deriveO, pt_bind jarB]
  cases isNonce x <;> rfl
theorem spec_JarNew.ok {x : TyTup [.sl .byte]} (_ : bdTup [.sl .byte] x) : spec_JarNew.raw x = some (jarNew x) := by
  simp only [spec_JarNew.raw, jarNew, isNonce]
  rw [deriveO, pt_bind jarB, bne]
  cases ((List.length (α := UInt8) x : Int) == 12) <;> rfl
theorem impl_TabNew.ok {x : TyTup [.v .int]} (_ : bdTup [.v .int] x) : impl_TabNew.raw x = some (tabNew x) := by
  simp only [impl_TabNew.raw, tabNew]
  cases inR x 1 6 <;> rfl
theorem spec_TabNew.ok {x : TyTup [.v .int]} (_ : bdTup [.v .int] x) : spec_TabNew.raw x = some (tabNew x) := by
  simp only [spec_TabNew.raw, tabNew]
  cases inR x 1 6 <;> rfl

theorem jarNew_le (b : List UInt8) : (jarNew b).Secret.length ≤ 32 := by
  rw [jarNew]
  cases isNonce b
  · exact Nat.zero_le _
  · exact derive_le _ _
theorem rollD_seed (d : G.Dice) : (rollD d).1.Seed = d.Seed := by
  rw [rollD]
  cases (!diceOk d || d.N == 10000) <;> rfl
theorem tabNew_wt (n : Int) : wt (tabNew n) = 0 := by
  rw [tabNew]
  cases inR n 1 6 <;> rfl
theorem serverOf_wt (p : List (List UInt8)) (s : List UInt8) (m : Int) : wt (serverOf p s m) ≤ wt p + wt s + 32 := by
  rw [wt_Server, wt_Jar, wt_Dice]
  have h1 := jarNew_le (rollD ⟨s, 0⟩).2
  have h2 := rollD_seed ⟨s, 0⟩
  have h3 := tabNew_wt m
  show wt p + wt (jarNew (rollD ⟨s, 0⟩).2).Secret + wt (rollD ⟨s, 0⟩).1.Seed + wt (tabNew m) + 0 ≤ _
  rw [h2, h3, wt_bytes]; show wt p + _ + wt s + 0 + 0 ≤ _; omega

theorem impl_ServerNew.ok {x : TyTup [.sl .bs, .sl .byte, .v .int]} (_ : bdTup [.sl .bs, .sl .byte, .v .int] x) {r : G.Server} : serverNewO x.1 x.2.1 x.2.2 = some r → impl_ServerNew.raw x.1 x.2.1 x.2.2 = some r := pt_ok fun h => by
  obtain ⟨p, s, m⟩ := x
  simp only at h
  have hw := serverOf_wt p s m
  simp only [impl_ServerNew.raw, serverNew]
  rw [rollO, pt_bind (by rw [wt_Dice]; show wt s ≤ LIM; omega), cloneAllO, pt_bind (by omega)]
  show Option.bind (serverOkO (serverOf p s m)) _ = _
  rw [serverOkO, pt_bind (by omega)]
  cases serverOk (serverOf p s m) <;> rfl
theorem spec_ServerNew.ok {x : TyTup [.sl .bs, .sl .byte, .v .int]} (_ : bdTup [.sl .bs, .sl .byte, .v .int] x) {r : G.Server} : serverNewO x.1 x.2.1 x.2.2 = some r → spec_ServerNew.raw x.1 x.2.1 x.2.2 = some r := pt_ok fun h => by
  obtain ⟨p, s, m⟩ := x
  simp only at h
  have hL := LIM_is
  have hw := serverOf_wt p s m
  have hl := wt_len p
  simp only [spec_ServerNew.raw, serverNew]
  rw [rollO, pt_bind (by rw [wt_Dice]; show wt s ≤ LIM; omega)]
  simp only [joinK]
  have key := loop_upS (σ := G.Server) (R := G.Server) p.length (by rw [maxLen_is]; omega) (f := fun (x6 : Int × G.Server) k7 => cond (decide (x6.1 < (p.length : Int))) (Option.bind (idxI p x6.1) fun e8 =>
      cond (decide (([] : List UInt8).length + e8.length ≤ LIM)) (cond (decide (x6.2.Psks.length + [[] ++ e8].length ≤ LIM)) (k7 ((iadd .i64 x6.1 1), (⟨x6.2.Psks ++ [[] ++ e8], x6.2.J, x6.2.D, x6.2.T, x6.2.Cr⟩ : G.Server))) none) none)
      (Option.bind (serverOkO x6.2) fun r9 => cond (!r9) (some (⟨[], (⟨[]⟩ : G.Jar), (⟨[], 0⟩ : G.Dice), (⟨0, []⟩ : G.Tab), []⟩ : G.Server)) (some x6.2)))
    (g := fun _ _ => some (bif serverOk (serverOf p s m) then serverOf p s m else server0)) (fun i t => t = ⟨p.take i, (serverOf p s m).J, (serverOf p s m).D, (serverOf p s m).T, []⟩)
    (fun i t k hi ht hk => by
      subst ht
      have hwg := wt_get hi
      rw [wt_bytes] at hwg
      simp only
      rw [lt_true hi, cond_true, idxI_get hi, bind_some', room0 (by omega), cond_true, decide_eq_true (by simp; omega), cond_true, List.nil_append, ← take_next p hi]
      exact hk _ rfl)
    (fun t k ht => by
      subst ht
      simp only [List.take_length]
      rw [lt_self, cond_false]
      show Option.bind (serverOkO (serverOf p s m)) _ = _
      rw [serverOkO, pt_bind (by omega)]
      cases serverOk (serverOf p s m) <;> rfl) 0 ⟨[], (serverOf p s m).J, (serverOf p s m).D, (serverOf p s m).T, []⟩ (Nat.zero_le _) rfl
  exact key

theorem clientOf_wt (id : Int) (psk : List UInt8) (a : G.Addr) : wt (clientOf id psk a) = wt psk := by
  rw [wt_Client]
  show wt psk + 0 + 0 + 0 + 0 + 0 + 0 = _
  omega
theorem clientOf_ok (id : Int) (psk : List UInt8) (a : G.Addr) : clientOk (clientOf id psk a) = (inR id 1 9 && pskOk psk && addrOk a) := by
  show (inR id 1 9 && pskOk psk && addrOk a && true) = _
  rw [Bool.and_true]
theorem impl_ClientNew.ok {x : TyTup [.v .int, .sl .byte, .v .Addr]} (_ : bdTup [.v .int, .sl .byte, .v .Addr] x) {r : G.Client} : clientNewO x.1 x.2.1 x.2.2 = some r → impl_ClientNew.raw x.1 x.2.1 x.2.2 = some r := pt_ok fun h => by
  obtain ⟨id, psk, a⟩ := x
  simp only at h
  simp only [impl_ClientNew.raw, clientNew]
  rw [clone_eq h]
  show Option.bind (clientOkO (clientOf id psk a)) _ = _
  rw [clientOkO, pt_bind (by rw [clientOf_wt]; exact h), clientOf_ok]
  cases (inR id 1 9 && pskOk psk && addrOk a) <;> rfl
theorem spec_ClientNew.ok {x : TyTup [.v .int, .sl .byte, .v .Addr]} (_ : bdTup [.v .int, .sl .byte, .v .Addr] x) {r : G.Client} : clientNewO x.1 x.2.1 x.2.2 = some r → spec_ClientNew.raw x.1 x.2.1 x.2.2 = some r := pt_ok fun h => by
  obtain ⟨id, psk, a⟩ := x
  simp only at h
  rw [wt_bytes] at h
  simp only [spec_ClientNew.raw, clientNew, joinK]
  rw [room0 h]
  cases inR id 1 9
  · rfl
  cases pskOk psk
  · rfl
  cases addrOk a <;> rfl
theorem impl_rollNote.ok {x : TyTup [.sl .byte]} (_ : bdTup [.sl .byte] x) {r : G.Note} : noteRolledO x = some r → impl_rollNote.raw x = some r := pt_ok fun h => by
  simp only [impl_rollNote.raw]
  rw [clone_eq h]; rfl
theorem spec_l22Rolled.ok {x : TyTup [.sl .byte]} (_ : bdTup [.sl .byte] x) {r : G.Note} : noteRolledO x = some r → spec_l22Rolled.raw x = some r := pt_ok fun h => by
  rw [wt_bytes] at h
  simp only [spec_l22Rolled.raw]
  rw [room0 h]; rfl
theorem spec_l25Seed.ok {x : TyTup [.sl .byte]} (_ : bdTup [.sl .byte] x) {r : List UInt8} : seed25O x = some r → spec_l25Seed.raw x = some r := pt_ok fun h => by
  rw [wt_bytes] at h
  have hL := LIM_is
  simp only [spec_l25Seed.raw, joinK, List.nil_append]
  rw [room0 h, cond_true]
  by_cases hc : 31 < List.length (α := UInt8) x
  · rw [decide_eq_true (by omega), cond_true, decide_eq_true (by omega), decide_eq_true (by omega), decide_eq_true (by omega)]
    simp only [Bool.and_self, cond_true]
    rw [decide_eq_true (by simp; omega)]; rfl
  · rw [decide_eq_false (by omega), cond_false, decide_eq_true (by simp; omega), cond_true, seed25, List.take_of_length_le (by omega)]; rfl

theorem two_psks (a b : List UInt8) : wt ([a, b] : List (List UInt8)) = wt a + wt b + 2 := by rw [wt_cons, wt_cons, wt_nil]; omega
theorem dice_seed {s a b : List UInt8} {m : Int} (h : serverOk (serverOf [a, b] s m) = true) : 1 ≤ s.length ∧ s.length ≤ 32 := by
  simp only [serverOk, Bool.and_eq_true] at h
  have h1 := h.1.1.1.1.2
  rw [show (serverOf [a, b] s m).D = (rollD ⟨s, 0⟩).1 from rfl, diceOk, Bool.and_eq_true, rollD_seed] at h1
  have h2 : 1 ≤ (s.length : Int) ∧ (s.length : Int) ≤ 32 := inR_iff.1 h1.1
  exact ⟨by omega, by omega⟩
theorem diceAt_le (s : List UInt8) (n : Int) : (diceAt s n).length ≤ 12 := by
  rw [diceAt]
  cases inR (s.length : Int) 1 32 && inR n 0 10000
  · exact Nat.zero_le _
  · simp only [cond_true, List.length_take]; omega

theorem impl_WorldNew.ok {x : TyTup [.sl .byte, .sl .byte, .sl .byte, .v .int]} (_ : bdTup [.sl .byte, .sl .byte, .sl .byte, .v .int] x) {r : G.World} : worldNewO x.1 x.2.1 x.2.2.1 x.2.2.2 = some r → impl_WorldNew.raw x.1 x.2.1 x.2.2.1 x.2.2.2 = some r := pt_ok fun h => by
  obtain ⟨s, a, b, m⟩ := x
  simp only at h
  have hL := LIM_is
  have hw := serverOf_wt [a, b] s m
  rw [two_psks] at hw
  simp only [impl_WorldNew.raw, worldNew, joinK]
  rw [serverNewO, pt_bind (by rw [two_psks]; omega)]
  cases hs : serverOk (serverOf [a, b] s m)
  · have e : serverNew [a, b] s m = server0 := by rw [serverNew, hs]; rfl
    rw [e, serverOkO, pt_bind (by show 0 ≤ _; omega)]; rfl
  have e : serverNew [a, b] s m = serverOf [a, b] s m := by rw [serverNew, hs]; rfl
  have hd := dice_seed hs
  have hj : ((serverOf [a, b] s m).J).Secret.length ≤ 32 := jarNew_le _
  have hdl := diceAt_le s 0
  rw [e, serverOkO, pt_bind (by omega), hs]
  simp only [Bool.not_true, cond_false, cond_true]
  rw [joinedO, pt_bind (by rw [two_wt]; simp; omega), two_flat]
  by_cases hc : s.length = 32
  · have h31 : (List.drop 0 s) = s := rfl
    rw [show ((s.length : Int) == 32) = true by rw [hc]; rfl, cond_true, decide_eq_true (by omega), decide_eq_true (by omega), decide_eq_true (by omega)]
    simp only [Bool.and_self, cond_true]
    rw [joinedO, pt_bind (by rw [two_wt]; simp; omega), two_flat, clientNewO, pt_bind (by omega), clientNewO, pt_bind (by omega), noteRolledO, pt_bind (by rw [wt_bytes]; omega), clone_eq (by rw [wt_bytes]; omega)]
    rfl
  · rw [show ((s.length : Int) == 32) = false by simp; omega, cond_false, clientNewO, pt_bind (by omega), clientNewO, pt_bind (by omega), noteRolledO, pt_bind (by rw [wt_bytes]; omega), clone_eq (by rw [wt_bytes]; omega)]
    have : s ++ [UInt8.ofNat (99 : Int).toNat] = seed25 s := by rw [seed25, List.take_of_length_le (by omega)]; rfl
    rw [this]; rfl
theorem spec_WorldNew.ok {x : TyTup [.sl .byte, .sl .byte, .sl .byte, .v .int]} (_ : bdTup [.sl .byte, .sl .byte, .sl .byte, .v .int] x) {r : G.World} : worldNewO x.1 x.2.1 x.2.2.1 x.2.2.2 = some r → spec_WorldNew.raw x.1 x.2.1 x.2.2.1 x.2.2.2 = some r := pt_ok fun h => by
  obtain ⟨s, a, b, m⟩ := x
  simp only at h
  have hL := LIM_is
  have hw := serverOf_wt [a, b] s m
  rw [two_psks] at hw
  simp only [spec_WorldNew.raw, worldNew]
  rw [serverNewO, pt_bind (by rw [two_psks]; omega)]
  cases hs : serverOk (serverOf [a, b] s m)
  · have e : serverNew [a, b] s m = server0 := by rw [serverNew, hs]; rfl
    rw [e, serverOkO, pt_bind (by show 0 ≤ _; omega)]; rfl
  have e : serverNew [a, b] s m = serverOf [a, b] s m := by rw [serverNew, hs]; rfl
  have hj : ((serverOf [a, b] s m).J).Secret.length ≤ 32 := jarNew_le _
  have hdl := diceAt_le s 0
  rw [e, serverOkO, pt_bind (by omega), hs]
  simp only [Bool.not_true, cond_false, cond_true]
  rw [seed25O, pt_bind (by omega), clientNewO, pt_bind (by omega), clientNewO, pt_bind (by omega), noteRolledO, pt_bind (by rw [wt_bytes]; omega), room0 (by omega)]
  rfl

end Go.D

/-
  A new world is right, and nobody is there.
-/
namespace Go.D

theorem clientNew_wt (id : Int) (psk : List UInt8) (a : G.Addr) : wt (clientNew id psk a) ≤ wt psk := by
  rw [clientNew]
  cases (inR id 1 9 && pskOk psk && addrOk a)
  · rw [cond_false, clientOf_wt]; exact Nat.zero_le _
  · rw [cond_true, clientOf_wt]; exact Nat.le_refl _
theorem noteRolled_wt (b : List UInt8) : wt (noteRolled b) = b.length := by
  rw [wt_Note]
  show 0 + 0 + wt b + 0 + 0 = _
  rw [wt_bytes]; omega
theorem noteBoot_wt (b : List UInt8) : wt (noteBoot b) = b.length := by
  rw [wt_Note]
  show 0 + 0 + 0 + wt b + 0 = _
  rw [wt_bytes]; omega
theorem worldNew_wt (s a b : List UInt8) (m : Int) : wt (worldNew s a b m) ≤ 2 * wt a + 2 * wt b + wt s + 200 := by
  rw [worldNew]
  cases serverOk (serverOf [a, b] s m)
  · exact Nat.zero_le _
  · have h1 := clientNew_wt 1 a (near 1)
    have h2 := clientNew_wt 2 b (near 2)
    have h3 := serverOf_wt [a, b] s m
    have h4 := diceAt_le s 0
    have h5 : (serverOf [a, b] s m).J.Secret.length ≤ 32 := jarNew_le _
    have h6 : (seed25 s).length ≤ 32 := by rw [seed25, List.length_append, List.length_take]; simp; omega
    have h7 := noteRolled_wt (diceAt s 0)
    have h8 := noteBoot_wt (serverOf [a, b] s m).J.Secret
    rw [two_psks] at h3
    rw [cond_true, wt_World, wt_Dice]
    show wt [clientNew 1 a (near 1), clientNew 2 b (near 2)] + wt (serverOf [a, b] s m) + wt (seed25 s) + 0 + 0 + wt [noteRolled (diceAt s 0), noteBoot (serverOf [a, b] s m).J.Secret] ≤ _
    rw [wt_cons, wt_cons, wt_nil, wt_cons, wt_cons, wt_nil, wt_bytes, h7, h8]
    omega

theorem world0_bad : worldOk world0 = false := rfl
theorem worldOf_ok {s a b : List UInt8} {m : Int} (h : serverOk (serverOf [a, b] s m) = true) : worldOk (worldOf s a b m) = true ∧ clientNew 1 a (near 1) = clientOf 1 a (near 1) ∧ clientNew 2 b (near 2) = clientOf 2 b (near 2) ∧
    (serverOf [a, b] s m).J.Secret.length = 32 ∧ (serverOf [a, b] s m).T.L = [] := by
  have hd := dice_seed h
  have hs := h
  simp only [serverOk, Bool.and_eq_true] at h
  have hj : (serverOf [a, b] s m).J.Secret.length = 32 := by
    have := h.1.1.1.1.1.2
    simp only [jarOk, beq_iff_eq] at this
    omega
  have hp := h.1.2
  have hpa : pskOk a = true ∧ pskOk b = true := by
    have : (serverOf [a, b] s m).Psks = [a, b] := rfl
    rw [this] at hp
    simpa using hp
  have ha : clientNew 1 a (near 1) = clientOf 1 a (near 1) := by rw [clientNew, hpa.1]; rfl
  have hb : clientNew 2 b (near 2) = clientOf 2 b (near 2) := by rw [clientNew, hpa.2]; rfl
  have hdl := diceAt_le s 0
  have hT : (serverOf [a, b] s m).T.L = [] := by
    show (tabNew m).L = []
    rw [tabNew]; cases inR m 1 6 <;> rfl
  refine ⟨?_, ha, hb, hj, hT⟩
  have hn1 : noteOk (noteRolled (diceAt s 0)) = true := by
    have : (diceAt s 0).length = 12 := by
      rw [diceAt, show inR (s.length : Int) 1 32 = true from inR_iff.2 ⟨by omega, by omega⟩]
      show (List.take 12 _).length = 12
      rw [List.length_take, hmac_len (by omega) (by rw [roll_len]; omega)]; rfl
    show (inR 14 1 17 && inR 0 0 9 && inR 0 0 1 && emptyOr [] 12 && emptyOr [] 12 && inR 0 0 4294967295 && inR 0 0 281474976710655 && decide (((diceAt s 0).length : Int) ≤ 100) && emptyOr [] 32 && addrOk ⟨0, 0⟩ && inR 0 0 1000000) = true
    rw [this]; rfl
  have hn2 : noteOk (noteBoot (serverOf [a, b] s m).J.Secret) = true := by
    show (inR 12 1 17 && inR 0 0 9 && inR 0 0 1 && emptyOr [] 12 && emptyOr [] 12 && inR 0 0 4294967295 && inR 0 0 281474976710655 && decide ((([] : List UInt8).length : Int) ≤ 100) && isLen ((serverOf [a, b] s m).J.Secret.length : Int) 32 && addrOk ⟨0, 0⟩ && inR 0 0 1000000) = true
    rw [hj]; rfl
  have hseed : diceOk ⟨seed25 s, 0⟩ = true := by
    have : 1 ≤ (seed25 s).length ∧ (seed25 s).length ≤ 32 := by rw [seed25, List.length_append, List.length_take]; simp; omega
    show (inR ((seed25 s).length : Int) 1 32 && inR 0 0 10000) = true
    rw [inR_iff.2 ⟨by omega, by omega⟩]; rfl
  have hcb : anyN 2 (clientBad (worldOf s a b m)) = false := by
    refine anyN_false.2 fun i hi => ?_
    match i, hi with
    | 0, _ =>
      show (!clientOk (clientNew 1 a (near 1)) || (clientNew 1 a (near 1)).Id != ((0 + 1 : Nat) : Int) || !((clientNew 1 a (near 1)).Psk == a)) = false
      rw [ha, clientOf_ok, hpa.1]
      simp [clientOf]; decide
    | 1, _ =>
      show (!clientOk (clientNew 2 b (near 2)) || (clientNew 2 b (near 2)).Id != ((1 + 1 : Nat) : Int) || !((clientNew 2 b (near 2)).Psk == b)) = false
      rw [hb, clientOf_ok, hpa.2]
      simp [clientOf]; decide
  show (inR 0 0 1000000 && true && serverOk (serverOf [a, b] s m) && true && diceOk ⟨seed25 s, 0⟩ && true && true && !(anyN 2 (clientBad (worldOf s a b m))) && true && !(!noteOk (noteRolled (diceAt s 0)) || (!noteOk (noteBoot (serverOf [a, b] s m).J.Secret) || false))) = true
  rw [hs, hseed, hcb, hn1, hn2]; rfl

theorem two_notes {d k : List UInt8} (hk : k.length = 32) : lucky [noteRolled d, noteBoot k] = false ∧ (noteOk (noteRolled d) = true → noteOk (noteBoot k) = true → ideal [noteRolled d, noteBoot k] = true) := by
  have hne : k ≠ [] := by rintro rfl; simp at hk
  have hne2 : (([] : List UInt8) == k) = false := by rw [beq_eq_false_iff_ne]; exact fun h => hne h.symm
  refine ⟨?_, fun h1 h2 => ?_⟩
  · have e1 : rolled [noteRolled d, noteBoot k] = false := by
      refine anyN_false.2 fun i hi => anyN_false.2 fun j hj => ?_
      match i, j, hi, hj with
      | 1, 0, _, _ => rfl
    have e2 : forged [noteRolled d, noteBoot k] = false := by
      refine anyN_false.2 fun i hi => ?_
      match i, hi with
      | 0, _ => rfl
      | 1, _ => rfl
    have e3 : twice [noteRolled d, noteBoot k] = false := by
      refine anyN_false.2 fun i hi => anyN_false.2 fun j hj => ?_
      match i, j, hi, hj with
      | 1, 0, _, _ =>
        show (([] : List UInt8) == k && differ (noteRolled d) (noteBoot k)) = false
        rw [hne2]; rfl
    rw [lucky, e1, e2, e3]; rfl
  · rw [ideal, anyN_false.2]
    · rfl
    intro i hi
    match i, hi with
    | 0, _ =>
      show (!(noteOk (noteRolled d) && (false || true))) = false
      rw [h1]; rfl
    | 1, _ =>
      show (!(noteOk (noteBoot k) && _)) = false
      rw [h2]
      show (!(true && (shown [noteRolled d] [] || true))) = false
      rw [Bool.or_true]; rfl

theorem laws_FnBegins.ok {x : TyTup [.sl .byte]} (_ : bdTup [.sl .byte] x) : laws_FnBegins.raw x = some (always (α := List UInt8) x) := by
  have hL := LIM_is
  simp only [laws_FnBegins.raw, always]
  cases hb : big x
  case true => rfl
  rw [cond_false]
  have hb : List.length (α := UInt8) x ≤ 1048576 := by have := of_decide_eq_false hb; omega
  obtain ⟨⟨s, a, b, m⟩, hr, h1, h2, h3⟩ := drawNew_tot hb
  rw [hr, bind_some']
  simp only at h1 h2 h3 ⊢
  have hw := worldNew_wt s a b m
  rw [wt_bytes, wt_bytes, wt_bytes] at hw
  rw [worldNewO, pt_bind (by rw [wt_bytes, wt_bytes, wt_bytes]; omega), pt_bind (by rw [wt_bytes, wt_bytes, wt_bytes]; omega), sq_refl (by omega)]
  simp only [joinK, Bool.not_true, cond_false]
  rw [worldOkO, pt_bind (by omega)]
  cases hs : serverOk (serverOf [a, b] s m)
  · have e : worldNew s a b m = world0 := by rw [worldNew, hs]; rfl
    rw [e, world0_bad]
    simp only [Bool.not_false, cond_true]
    rw [pt_bind (by rw [hL]; exact Nat.zero_le _)]; rfl
  · have e : worldNew s a b m = worldOf s a b m := by rw [worldNew, hs]; rfl
    rw [e] at hw ⊢
    obtain ⟨k1, ka, kb, kj, kT⟩ := worldOf_ok hs
    rw [k1]
    simp only [Bool.not_true, cond_false]
    rw [pt_bind (by omega), cond_true]
    have hno : noteOk (noteRolled (diceAt s 0)) = true ∧ noteOk (noteBoot (serverOf [a, b] s m).J.Secret) = true := by
      have := k1
      simp only [worldOk, Bool.and_eq_true] at this
      have := this.2
      have hN : (worldOf s a b m).Notes = [noteRolled (diceAt s 0), noteBoot (serverOf [a, b] s m).J.Secret] := rfl
      rw [hN] at this
      simpa using this
    have hN : (worldOf s a b m).Notes = [noteRolled (diceAt s 0), noteBoot (serverOf [a, b] s m).J.Secret] := rfl
    have hwN : wt (worldOf s a b m).Notes ≤ LIM := by
      have := wt_World (worldOf s a b m)
      omega
    have hC : (worldOf s a b m).Clients = [clientOf 1 a (near 1), clientOf 2 b (near 2)] := by
      show [clientNew 1 a (near 1), clientNew 2 b (near 2)] = _
      rw [ka, kb]
    obtain ⟨l1, l2⟩ := two_notes (d := diceAt s 0) kj
    rw [luckyO, pt_bind hwN, hN, l1]
    simp only [Bool.not_false, cond_true]
    rw [idealO, pt_bind (by rw [← hN]; exact hwN), l2 hno.1 hno.2, cond_true]
    have hsl : sleeps (worldOf s a b m) = true := by
      rw [sleeps, k1, hC, live, show (worldOf s a b m).S.T.L = [] from kT]; rfl
    have hst : settled (worldOf s a b m) = true := by rw [settled, k1, hC]; rfl
    have he : ∀ i : Int, i = 1 ∨ i = 2 → epochsFit (worldOf s a b m) i = true := fun i hi => by
      rcases hi with rfl | rfl <;> rw [epochsFit, k1, hC] <;> rfl
    rw [sleepsO, pt_bind (by omega), hsl, cond_true, settledO, pt_bind (by omega), hst, cond_true, epochsFitO, pt_bind (by omega), he 1 (.inl rfl), cond_true, epochsFitO, pt_bind (by omega), he 2 (.inr rfl)]

end Go.D
