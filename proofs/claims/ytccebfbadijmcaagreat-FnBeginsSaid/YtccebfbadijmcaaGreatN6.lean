/-
  Sizes of the program's data.
-/
import Derived.Test.YtccebfbadijmcaaGreatN5
namespace Go.D


end Go.D


/-
  Words, hashes, message authentication; whether a client may dial.
-/
namespace Go.D

/-! ### Bytes of numbers -/

def byteAt (n : Int) (i : Nat) : UInt8 := UInt8.ofNat (IntKind.wrap .u8 (iand .i64 (ishr .i64 n (imul .i64 8 (i : Int))) 255)).toNat
def bytesOf (n : Int) : Nat → List UInt8
  | 0 => []
  | i + 1 => byteAt n i :: bytesOf n i
def putN (b : List UInt8) (n k : Int) : List UInt8 := bif decide (k < 1) || decide (k > 6) then b else b ++ bytesOf n k.toNat
noncomputable def putNO (b : List UInt8) (n k : Int) : Option (List UInt8) := pt (wt b + 6 ≤ LIM) (putN b n k)
def getVal (l : List UInt8) : Int := l.foldl (fun n x => iadd .i64 (imul .i64 n 256) (IntKind.wrap .i64 ((x.toNat : Nat) : Int))) 0
def getN (b : List UInt8) (at_ k : Int) : Int × Int × Bool := bif decide (k < 1) || (decide (k > 6) || (decide (at_ < 0) || decide (at_ > (b.length : Int) - k))) then (0, 0, false) else (getVal ((b.drop at_.toNat).take k.toNat), iadd .i64 at_ k, true)
noncomputable def getNO (b : List UInt8) (at_ k : Int) : Option (Int × Int × Bool) := pt (wt b ≤ LIM) (getN b at_ k)
def cut (b : List UInt8) (f n : Int) : List UInt8 × Bool := bif decide (f < 0) || (decide (n < 0) || (decide (f > (b.length : Int)) || decide (n > (b.length : Int) - f))) then ([], false) else ((b.drop f.toNat).take n.toNat, true)
noncomputable def cutO (b : List UInt8) (f n : Int) : Option (List UInt8 × Bool) := pt (wt b ≤ LIM) (cut b f n)
noncomputable def cloneO (b : List UInt8) : Option (List UInt8) := pt (wt b ≤ LIM) b
noncomputable def joinedO (l : List (List UInt8)) : Option (List UInt8) := pt (wt l ≤ LIM) l.flatten

/-! ### Words -/

def m32 (a : Int) : Int := iand .i64 a 4294967295
def rot (x n : Int) : Int := m32 (ior .i64 (ishr .i64 (m32 x) n) (ishl .i64 (m32 x) (isub .i64 32 n)))
noncomputable def rotO (x n : Int) : Option Int := pt (1 ≤ n ∧ n ≤ 31) (rot x n)
def add32 (a b : Int) : Int := m32 (iadd .i64 a b)
def start : List Int := [1779033703, 3144134277, 1013904242, 2773480762, 1359893119, 2600822924, 528734635, 1541459225]
def kTab : List Int := [1116352408, 1899447441, 3049323471, 3921009573, 961987163, 1508970993, 2453635748, 2870763221, 3624381080, 310598401, 607225278, 1426881987, 1925078388, 2162078206, 2614888103, 3248222580, 3835390401, 4022224774, 264347078, 604807628, 770255983, 1249150122, 1555081692, 1996064986, 2554220882, 2821834349, 2952996808, 3210313671, 3336571891, 3584528711, 113926993, 338241895, 666307205, 773529912, 1294757372, 1396182291, 1695183700, 1986661051, 2177026350, 2456956037, 2730485921, 2820302411, 3259730800, 3345764771, 3516065817, 3600352804, 4094571909, 275423344, 430227734, 506948616, 659060556, 883997877, 958139571, 1322822218, 1537002063, 1747873779, 1955562222, 2024104815, 2227730452, 2361852424, 2428436474, 2756734187, 3204031479, 3329325298]
def roundWord (i : Int) : Int := if 0 ≤ i ∧ i ≤ 63 then kTab.getD i.toNat 0 else 0

/-! ### The hash -/

def schedNext (b : List UInt8) (w : List Int) (i : Nat) : Int := if i < 16 then (getN b (4 * i : Nat) 4).1 else
  let x := w.getD (i - 15) 0
  let y := w.getD (i - 2) 0
  m32 (iadd .i64 (iadd .i64 (iadd .i64 (w.getD (i - 7) 0) (w.getD (i - 16) 0)) (ixor .i64 (ixor .i64 (rot x 7) (rot x 18)) (ishr .i64 x 3))) (ixor .i64 (ixor .i64 (rot y 17) (rot y 19)) (ishr .i64 y 10)))
def sched (b : List UInt8) : Nat → List Int
  | 0 => []
  | i + 1 => sched b i ++ [schedNext b (sched b i) i]
def schedule (b : List UInt8) : List Int := if b.length = 64 then sched b 64 else []
noncomputable def scheduleO (b : List UInt8) : Option (List Int) := pt (wt b ≤ LIM) (schedule b)

abbrev S8 := Int × Int × Int × Int × Int × Int × Int × Int
def rT (k w : Int) (s : S8) : Int :=
  iadd .i64 (iadd .i64 (iadd .i64 (iadd .i64 s.2.2.2.2.2.2.2 (ixor .i64 (ixor .i64 (rot s.2.2.2.2.1 6) (rot s.2.2.2.2.1 11)) (rot s.2.2.2.2.1 25)))
    (ixor .i64 (iand .i64 s.2.2.2.2.1 s.2.2.2.2.2.1) (iand .i64 (ixor .i64 s.2.2.2.2.1 4294967295) s.2.2.2.2.2.2.1))) k) w
def rU (s : S8) : Int := iadd .i64 (ixor .i64 (ixor .i64 (rot s.1 2) (rot s.1 13)) (rot s.1 22)) (ixor .i64 (ixor .i64 (iand .i64 s.1 s.2.1) (iand .i64 s.1 s.2.2.1)) (iand .i64 s.2.1 s.2.2.1))
def words8 (l : List Int) : Bool := areWords l 8
def rStep (k w : Int) (s : S8) : S8 := (m32 (iadd .i64 (m32 (rT k w s)) (m32 (rU s))), s.1, s.2.1, s.2.2.1, m32 (iadd .i64 s.2.2.2.1 (m32 (rT k w s))), s.2.2.2.2.1, s.2.2.2.2.2.1, s.2.2.2.2.2.2.1)
def rounds (w : List Int) (s : S8) : Nat → S8
  | 0 => s
  | i + 1 => rStep (kTab.getD i 0) (w.getD i 0) (rounds w s i)
def at8 (h : List Int) : S8 := (h.getD 0 0, h.getD 1 0, h.getD 2 0, h.getD 3 0, h.getD 4 0, h.getD 5 0, h.getD 6 0, h.getD 7 0)
def list8 (s : S8) : List Int := [s.1, s.2.1, s.2.2.1, s.2.2.2.1, s.2.2.2.2.1, s.2.2.2.2.2.1, s.2.2.2.2.2.2.1, s.2.2.2.2.2.2.2]
def comp (h : List Int) (b : List UInt8) : List Int := List.zipWith add32 h (list8 (rounds (schedule b) (at8 h) 64))
def compress (h : List Int) (b : List UInt8) : List Int := bif areWords h 8 && b.length == 64 then comp h b else h
noncomputable def compressO (h : List Int) (b : List UInt8) : Option (List Int) := pt (wt h ≤ LIM ∧ wt b ≤ LIM) (compress h b)
def blocks (h : List Int) : Nat → List UInt8 → List Int
  | 0, _ => h
  | n + 1, b => blocks (compress h (b.take 64)) n (b.drop 64)
noncomputable def allO (h : List Int) (b : List UInt8) : Option (List Int × List UInt8) := pt (wt h ≤ LIM ∧ areWords h 8 = true ∧ wt b ≤ LIM) (blocks h (b.length / 64) b, b.drop (64 * (b.length / 64)))
def wordBytes (h : List Int) : List UInt8 := h.flatMap fun x => bytesOf x 4
noncomputable def wordBytesO (h : List Int) : Option (List UInt8) := pt (h.length = 8) (wordBytes h)
def padZ (n : Nat) : Nat := (119 - n % 64) % 64
def pad (n : Nat) : List UInt8 := (128 :: List.replicate (padZ n) 0) ++ ([0, 0, 0, 0] ++ bytesOf ((8 * n : Nat) : Int) 4)
noncomputable def padO (n : Int) : Option (List UInt8) := pt (0 ≤ n ∧ n ≤ 1048576) (pad n.toNat)
def shaAll (b : List UInt8) : List UInt8 := wordBytes (blocks start ((b ++ pad b.length).length / 64) (b ++ pad b.length))
def sha (b : List UInt8) : List UInt8 := bif decide ((b.length : Int) > 1048576) then [] else shaAll b
def hashOk (h : G.Hash) : Bool := areWords h.H 8 && inR h.N 0 1048576 && irem .i64 h.N 64 == (h.Held.length : Int)
noncomputable def hashAddO (h : G.Hash) (b : List UInt8) : Option G.Hash := pt (hashOk h = true ∧ (b.length : Int) ≤ 1048576 - h.N) ⟨blocks h.H ((h.Held ++ b).length / 64) (h.Held ++ b), (h.Held ++ b).drop (64 * ((h.Held ++ b).length / 64)), h.N + b.length⟩
noncomputable def hashEndO (h : G.Hash) : Option (List UInt8) := pt (hashOk h = true) (wordBytes (blocks h.H ((h.Held ++ pad h.N.toNat).length / 64) (h.Held ++ pad h.N.toNat)))
def hashNew : G.Hash := ⟨start, [], 0⟩

/-! ### Message authentication -/

def pad64 (l : List UInt8) : List UInt8 := l ++ List.replicate (64 - l.length) 0
def blockKey (k : List UInt8) : List UInt8 := bif decide ((k.length : Int) > 1048576) then [] else pad64 (bif decide ((k.length : Int) > 64) then sha k else k)
def xorB (x y : UInt8) : UInt8 := UInt8.ofNat (ixor .u8 ((x.toNat : Nat) : Int) ((y.toNat : Nat) : Int)).toNat
def masked (b : List UInt8) (x : UInt8) : List UInt8 := b.map fun y => xorB y x
noncomputable def maskedO (b : List UInt8) (x : UInt8) : Option (List UInt8) := pt (wt b ≤ LIM) (masked b x)
def hmac (k b : List UInt8) : List UInt8 := bif decide ((k.length : Int) > 1048576) || decide ((b.length : Int) > 1048512) then [] else sha (masked (blockKey k) 92 ++ sha (masked (blockKey k) 54 ++ b))
def roll : List UInt8 := [114, 111, 108, 108]
def diceAt (s : List UInt8) (n : Int) : List UInt8 := bif inR (s.length : Int) 1 32 && inR n 0 10000 then (hmac s (putN roll n 4)).take 12 else []

/-! ### Dialling -/

end Go.D

/-
  What the functions compute, as the plain semantics says it.
-/
namespace Go.D

noncomputable def impl_clone.raw (a0 : List UInt8) : Option (List UInt8) :=
  cond (decide (([] : List UInt8).length + a0.length ≤ LIM)) (some ([] ++ a0)) none

noncomputable def impl_PutN.raw (a0 : List UInt8) (a1 : Int) (a2 : Int) : Option (List UInt8) :=
  cond (decide (([] : List UInt8).length + a0.length ≤ LIM)) (joinK (fun (y1 : Bool) =>
  cond (y1)
  (some ([] ++ a0))
  (joinK (fun (y3 : (List UInt8)) =>
  some y3) fun k4 =>
  loopK FU (fun (x5 : (List UInt8) × Int) k6 =>
  cond (decide (x5.2 ≥ 0))
  (cond (decide ((imul .i64 8 x5.2) < 0)) none (let x7 : Int := iand .i64 (ishr .i64 a1 (imul .i64 8 x5.2)) 255
  cond (decide (x5.1.length + [UInt8.ofNat (IntKind.wrap .u8 x7 : Int).toNat].length ≤ LIM)) (k6 ((x5.1 ++ [UInt8.ofNat (IntKind.wrap .u8 x7 : Int).toNat]), (isub .i64 x5.2 1))) none))
  (k4 x5.1)) (([] ++ a0), (isub .i64 a2 1)))) fun k2 =>
  cond (decide (a2 < 1))
  (k2 true)
  (k2 (decide (a2 > 6)))) none

noncomputable def impl_Start.raw  : Option (List Int) :=
  let x1 : List Int := [1779033703, 3144134277, 1013904242, 2773480762, 1359893119, 2600822924, 528734635, 1541459225]
  some x1

noncomputable def impl_HashNew.raw  : Option G.Hash :=
  let r1 : (List Int) := start
  some (⟨r1, [], 0⟩ : G.Hash)

noncomputable def impl_HashOk.raw (a0 : G.Hash) : Option Bool :=
  joinK (fun (y1 : Bool) =>
  some y1) fun k2 =>
  cond ((areWords a0.H 8))
  (cond ((inR a0.N 0 1048576))
  (k2 ((irem .i64 a0.N 64) == (a0.Held.length : Int)))
  (k2 false))
  (k2 false)

noncomputable def impl_joined.raw (a0 : List (List UInt8)) : Option (List UInt8) :=
  joinK (fun (y1 : (List UInt8)) =>
  some y1) fun k2 =>
  loopK FU (fun (x3 : (List UInt8) × Int) k4 =>
  cond (decide (x3.2 < (a0.length : Int)))
  (Option.bind (idxI a0 x3.2) fun e5 =>
  cond (decide (x3.1.length + e5.length ≤ LIM)) (k4 ((x3.1 ++ e5), (iadd .i64 x3.2 1))) none)
  (k2 x3.1)) ([], 0)

noncomputable def impl_Cut.raw (a0 : List UInt8) (a1 : Int) (a2 : Int) : Option ((List UInt8) × Bool) :=
  joinK (fun (y1 : Bool) =>
  cond (y1)
  (some ([], false))
  (cond (decide (0 ≤ a1) && decide (a1 ≤ (iadd .i64 a1 a2)) && decide ((iadd .i64 a1 a2) ≤ (a0.length : Int))) (let l3 : List UInt8 := List.take ((iadd .i64 a1 a2 - a1).toNat) (List.drop a1.toNat a0)
  cond (decide (([] : List UInt8).length + l3.length ≤ LIM)) (some ([] ++ l3, true)) none) none)) fun k2 =>
  cond (decide (a1 < 0))
  (k2 true)
  (cond (decide (a2 < 0))
  (k2 true)
  (cond (decide (a1 > (a0.length : Int)))
  (k2 true)
  (k2 (decide (a2 > (isub .i64 (a0.length : Int) a1))))))

noncomputable def impl_GetN.raw (a0 : List UInt8) (a1 : Int) (a2 : Int) : Option (Int × Int × Bool) :=
  joinK (fun (y1 : Bool) =>
  cond (y1)
  (some (0, 0, false))
  (Option.bind (cutO a0 a1 a2) fun r3 =>
  cond (!r3.2)
  (some (0, 0, false))
  (joinK (fun (y4 : Int) =>
  some (y4, iadd .i64 a1 a2, true)) fun k5 =>
  loopK FU (fun (x6 : Int × Int) k7 =>
  cond (decide (x6.2 < (r3.1.length : Int)))
  (cond (decide (0 ≤ x6.2) && decide (x6.2 < (r3.1.length : Int))) (Option.bind (r3.1[x6.2.toNat]?) fun e8 =>
  let x9 : Int := IntKind.wrap .i64 ((e8.toNat : Nat) : Int)
  k7 ((iadd .i64 (imul .i64 256 x6.1) x9), (iadd .i64 x6.2 1))) none)
  (k5 x6.1)) (0, 0)))) fun k2 =>
  cond (decide (a2 < 1))
  (k2 true)
  (k2 (decide (a2 > 6)))

noncomputable def impl_Rot.raw (a0 : Int) (a1 : Int) : Option Int :=
  joinK (fun (y1 : Bool) =>
  cond (y1)
  (some (iand .i64 a0 4294967295))
  (cond (decide (a1 < 0)) none (cond (decide ((isub .i64 32 a1) < 0)) none (let x3 : Int := ishl .i64 (iand .i64 a0 4294967295) (isub .i64 32 a1)
  let x4 : Int := ior .i64 (ishr .i64 (iand .i64 a0 4294967295) a1) x3
  some (iand .i64 x4 4294967295))))) fun k2 =>
  cond (decide (a1 < 0))
  (k2 true)
  (k2 (decide (a1 > 31)))

noncomputable def impl_Schedule.raw (a0 : List UInt8) : Option (List Int) :=
  cond ((a0.length : Int) != 64)
  (some [])
  (joinK (fun (y1 : (List Int)) =>
  joinK (fun (y7 : (List Int)) =>
  some y7) fun k8 =>
  loopK FU (fun (x9 : Int × (List Int)) k10 =>
  cond (decide (x9.1 < 64))
  (cond (decide (0 ≤ isub .i64 x9.1 15) && decide (isub .i64 x9.1 15 < (x9.2.length : Int))) (Option.bind (x9.2[(isub .i64 x9.1 15).toNat]?) fun e11 =>
  cond (decide (0 ≤ isub .i64 x9.1 2) && decide (isub .i64 x9.1 2 < (x9.2.length : Int))) (Option.bind (x9.2[(isub .i64 x9.1 2).toNat]?) fun e12 =>
  Option.bind (rotO e11 7) fun r13 =>
  Option.bind (rotO e11 18) fun r14 =>
  let x15 : Int := ixor .i64 (ixor .i64 r13 r14) (ishr .i64 e11 3)
  Option.bind (rotO e12 17) fun r16 =>
  Option.bind (rotO e12 19) fun r17 =>
  let x18 : Int := ixor .i64 (ixor .i64 r16 r17) (ishr .i64 e12 10)
  cond (decide (0 ≤ isub .i64 x9.1 7) && decide (isub .i64 x9.1 7 < (x9.2.length : Int))) (Option.bind (x9.2[(isub .i64 x9.1 7).toNat]?) fun e19 =>
  cond (decide (0 ≤ isub .i64 x9.1 16) && decide (isub .i64 x9.1 16 < (x9.2.length : Int))) (Option.bind (x9.2[(isub .i64 x9.1 16).toNat]?) fun e20 =>
  let x21 : Int := iadd .i64 (iadd .i64 (iadd .i64 e19 e20) x15) x18
  cond (decide (0 ≤ x9.1) && decide (x9.1 < (x9.2.length : Int))) (Option.bind (x9.2[x9.1.toNat]?) fun e22 =>
  k10 ((iadd .i64 x9.1 1), (List.set x9.2 x9.1.toNat (iand .i64 x21 4294967295)))) none) none) none) none) none)
  (k8 x9.2)) (16, y1)) fun k2 =>
  loopK FU (fun (x3 : Int × (List Int)) k4 =>
  cond (decide (x3.1 < 16))
  (Option.bind (getNO a0 (imul .i64 4 x3.1) 4) fun r5 =>
  cond (decide (0 ≤ x3.1) && decide (x3.1 < (x3.2.length : Int))) (Option.bind (x3.2[x3.1.toNat]?) fun e6 =>
  k4 ((iadd .i64 x3.1 1), (List.set x3.2 x3.1.toNat r5.1))) none)
  (k2 x3.2)) (0, (List.replicate (64 : Int).toNat (0 : Int))))

noncomputable def impl_RoundWord.raw (a0 : Int) : Option Int :=
  joinK (fun (y1 : Bool) =>
  cond (y1)
  (some 0)
  (cond (a0 == (0 : Int)) (some 1116352408) (cond (a0 == (1 : Int)) (some 1899447441) (cond (a0 == (2 : Int)) (some 3049323471) (cond (a0 == (3 : Int)) (some 3921009573) (cond (a0 == (4 : Int)) (some 961987163) (cond (a0 == (5 : Int)) (some 1508970993) (cond (a0 == (6 : Int)) (some 2453635748) (cond (a0 == (7 : Int)) (some 2870763221) (cond (a0 == (8 : Int)) (some 3624381080) (cond (a0 == (9 : Int)) (some 310598401) (cond (a0 == (10 : Int)) (some 607225278) (cond (a0 == (11 : Int)) (some 1426881987) (cond (a0 == (12 : Int)) (some 1925078388) (cond (a0 == (13 : Int)) (some 2162078206) (cond (a0 == (14 : Int)) (some 2614888103) (cond (a0 == (15 : Int)) (some 3248222580) (cond (a0 == (16 : Int)) (some 3835390401) (cond (a0 == (17 : Int)) (some 4022224774) (cond (a0 == (18 : Int)) (some 264347078) (cond (a0 == (19 : Int)) (some 604807628) (cond (a0 == (20 : Int)) (some 770255983) (cond (a0 == (21 : Int)) (some 1249150122) (cond (a0 == (22 : Int)) (some 1555081692) (cond (a0 == (23 : Int)) (some 1996064986) (cond (a0 == (24 : Int)) (some 2554220882) (cond (a0 == (25 : Int)) (some 2821834349) (cond (a0 == (26 : Int)) (some 2952996808) (cond (a0 == (27 : Int)) (some 3210313671) (cond (a0 == (28 : Int)) (some 3336571891) (cond (a0 == (29 : Int)) (some 3584528711) (cond (a0 == (30 : Int)) (some 113926993) (cond (a0 == (31 : Int)) (some 338241895) (cond (a0 == (32 : Int)) (some 666307205) (cond (a0 == (33 : Int)) (some 773529912) (cond (a0 == (34 : Int)) (some 1294757372) (cond (a0 == (35 : Int)) (some 1396182291) (cond (a0 == (36 : Int)) (some 1695183700) (cond (a0 == (37 : Int)) (some 1986661051) (cond (a0 == (38 : Int)) (some 2177026350) (cond (a0 == (39 : Int)) (some 2456956037) (cond (a0 == (40 : Int)) (some 2730485921) (cond (a0 == (41 : Int)) (some 2820302411) (cond (a0 == (42 : Int)) (some 3259730800) (cond (a0 == (43 : Int)) (some 3345764771) (cond (a0 == (44 : Int)) (some 3516065817) (cond (a0 == (45 : Int)) (some 3600352804) (cond (a0 == (46 : Int)) (some 4094571909) (cond (a0 == (47 : Int)) (some 275423344) (cond (a0 == (48 : Int)) (some 430227734) (cond (a0 == (49 : Int)) (some 506948616) (cond (a0 == (50 : Int)) (some 659060556) (cond (a0 == (51 : Int)) (some 883997877) (cond (a0 == (52 : Int)) (some 958139571) (cond (a0 == (53 : Int)) (some 1322822218) (cond (a0 == (54 : Int)) (some 1537002063) (cond (a0 == (55 : Int)) (some 1747873779) (cond (a0 == (56 : Int)) (some 1955562222) (cond (a0 == (57 : Int)) (some 2024104815) (cond (a0 == (58 : Int)) (some 2227730452) (cond (a0 == (59 : Int)) (some 2361852424) (cond (a0 == (60 : Int)) (some 2428436474) (cond (a0 == (61 : Int)) (some 2756734187) (cond (a0 == (62 : Int)) (some 3204031479) (cond (a0 == (63 : Int)) (some 3329325298) (none)))))))))))))))))))))))))))))))))))))))))))))))))))))))))))))))))) fun k2 =>
  cond (decide (a0 < 0))
  (k2 true)
  (k2 (decide (a0 > 63)))

noncomputable def impl_Add32.raw (a0 : Int) (a1 : Int) : Option Int :=
  some (iand .i64 (iadd .i64 a0 a1) 4294967295)

noncomputable def impl_Compress.raw (a0 : List Int) (a1 : List UInt8) : Option (List Int) :=
  cond (decide (([] : List Int).length + a0.length ≤ LIM)) (joinK (fun (y1 : Bool) =>
  cond (y1)
  (some ([] ++ a0))
  (Option.bind (scheduleO a1) fun r3 =>
  Option.bind (idxI a0 0) fun e4 =>
  Option.bind (idxI a0 1) fun e5 =>
  Option.bind (idxI a0 2) fun e6 =>
  Option.bind (idxI a0 3) fun e7 =>
  Option.bind (idxI a0 4) fun e8 =>
  Option.bind (idxI a0 5) fun e9 =>
  Option.bind (idxI a0 6) fun e10 =>
  Option.bind (idxI a0 7) fun e11 =>
  joinK (fun (y12 : Int × Int × Int × Int × Int × Int × Int × Int) =>
  let x31 : List Int := [y12.1, y12.2.1, y12.2.2.1, y12.2.2.2.1, y12.2.2.2.2.1, y12.2.2.2.2.2.1, y12.2.2.2.2.2.2.1, y12.2.2.2.2.2.2.2]
  joinK (fun (y32 : (List Int)) =>
  some y32) fun k33 =>
  loopK FU (fun (x34 : Int × (List Int)) k35 =>
  cond (decide (x34.1 < (x31.length : Int)))
  (cond (decide (0 ≤ x34.1) && decide (x34.1 < (x31.length : Int))) (Option.bind (x31[x34.1.toNat]?) fun e36 =>
  Option.bind (idxI a0 x34.1) fun e37 =>
  cond (decide (0 ≤ x34.1) && decide (x34.1 < (x34.2.length : Int))) (Option.bind (x34.2[x34.1.toNat]?) fun e38 =>
  k35 ((iadd .i64 x34.1 1), (List.set x34.2 x34.1.toNat (add32 e37 e36)))) none) none)
  (k33 x34.2)) (0, ([] ++ a0))) fun k13 =>
  loopK FU (fun (x14 : Int × Int × Int × Int × Int × Int × Int × Int × Int) k15 =>
  cond (decide (x14.2.2.2.2.2.2.2.2 < 64))
  (let x16 : Int := iand .i64 (ixor .i64 4294967295 x14.2.2.2.2.1) x14.2.2.2.2.2.2.1
  let x17 : Int := ixor .i64 (iand .i64 x14.2.2.2.2.1 x14.2.2.2.2.2.1) x16
  let x18 : Int := ixor .i64 (iand .i64 x14.1 x14.2.1) (iand .i64 x14.1 x14.2.2.1)
  let x19 : Int := ixor .i64 x18 (iand .i64 x14.2.1 x14.2.2.1)
  Option.bind (rotO x14.2.2.2.2.1 6) fun r20 =>
  Option.bind (rotO x14.2.2.2.2.1 11) fun r21 =>
  Option.bind (rotO x14.2.2.2.2.1 25) fun r22 =>
  let x23 : Int := iadd .i64 x14.2.2.2.2.2.2.2.1 (ixor .i64 (ixor .i64 r20 r21) r22)
  let x24 : Int := iadd .i64 (iadd .i64 x23 x17) (roundWord x14.2.2.2.2.2.2.2.2)
  cond (decide (0 ≤ x14.2.2.2.2.2.2.2.2) && decide (x14.2.2.2.2.2.2.2.2 < (r3.length : Int))) (Option.bind (r3[x14.2.2.2.2.2.2.2.2.toNat]?) fun e25 =>
  Option.bind (rotO x14.1 2) fun r26 =>
  Option.bind (rotO x14.1 13) fun r27 =>
  Option.bind (rotO x14.1 22) fun r28 =>
  let x29 : Int := iadd .i64 (ixor .i64 (ixor .i64 r26 r27) r28) x19
  let r30 : Int := add32 x14.2.2.2.1 (iadd .i64 x24 e25)
  k15 ((add32 (iadd .i64 x24 e25) x29), x14.1, x14.2.1, x14.2.2.1, r30, x14.2.2.2.2.1, x14.2.2.2.2.2.1, x14.2.2.2.2.2.2.1, (iadd .i64 x14.2.2.2.2.2.2.2.2 1))) none)
  (k13 (x14.1, x14.2.1, x14.2.2.1, x14.2.2.2.1, x14.2.2.2.2.1, x14.2.2.2.2.2.1, x14.2.2.2.2.2.2.1, x14.2.2.2.2.2.2.2.1))) (e4, e5, e6, e7, e8, e9, e10, e11, 0))) fun k2 =>
  cond (!(areWords a0 8))
  (k2 true)
  (k2 ((a1.length : Int) != 64))) none

noncomputable def impl_compressAll.raw (a0 : List Int) (a1 : List UInt8) : Option ((List Int) × (List UInt8)) :=
  joinK (fun (y1 : (List Int) × (List UInt8)) =>
  some (y1.1, y1.2)) fun k2 =>
  loopK FU (fun (x3 : (List Int) × (List UInt8)) k4 =>
  cond (decide ((x3.2.length : Int) ≥ 64))
  (cond (decide (0 ≤ (0 : Int)) && decide ((0 : Int) ≤ 64) && decide (64 ≤ (x3.2.length : Int))) (let l5 : List UInt8 := List.take 64 (List.drop 0 x3.2)
  Option.bind (compressO x3.1 l5) fun r6 =>
  cond (decide (0 ≤ (64 : Int)) && decide ((64 : Int) ≤ (x3.2.length : Int)) && decide ((x3.2.length : Int) ≤ (x3.2.length : Int))) (let l7 : List UInt8 := List.take (((x3.2.length : Int) - 64).toNat) (List.drop 64 x3.2)
  k4 (r6, l7)) none) none)
  (k2 (x3.1, x3.2))) (a0, a1)

noncomputable def impl_HashAdd.raw (a0 : G.Hash) (a1 : List UInt8) : Option G.Hash :=
  joinK (fun (y1 : Bool) =>
  cond (y1)
  (cond (decide (([] : List Int).length + a0.H.length ≤ LIM)) (Option.bind (cloneO a0.Held) fun r3 =>
  some (⟨[] ++ a0.H, r3, a0.N⟩ : G.Hash)) none)
  (Option.bind (joinedO [a0.Held, a1]) fun r4 =>
  Option.bind (allO a0.H r4) fun r5 =>
  cond (decide (([] : List Int).length + r5.1.length ≤ LIM)) (Option.bind (cloneO r5.2) fun r6 =>
  some (⟨[] ++ r5.1, r6, iadd .i64 a0.N (a1.length : Int)⟩ : G.Hash)) none)) fun k2 =>
  cond (!(hashOk a0))
  (k2 true)
  (k2 (decide ((a1.length : Int) > (isub .i64 1048576 a0.N))))

noncomputable def impl_Pad.raw (a0 : Int) : Option (List UInt8) :=
  cond (!(inR a0 0 1048576))
  (some [])
  (joinK (fun (y1 : (List UInt8)) =>
  cond (decide (y1.length + [UInt8.ofNat (0 : Int).toNat, UInt8.ofNat (0 : Int).toNat].length ≤ LIM)) (let x6 : List UInt8 := y1 ++ [UInt8.ofNat (0 : Int).toNat, UInt8.ofNat (0 : Int).toNat]
  Option.bind (putNO x6 (imul .i64 8 a0) 6) fun r7 =>
  some r7) none) fun k2 =>
  loopK FU (fun (x3 : (List UInt8)) k4 =>
  let x5 : Int := iadd .i64 (iadd .i64 a0 (x3.length : Int)) 8
  cond ((irem .i64 x5 64) != 0)
  (cond (decide (x3.length + [UInt8.ofNat (0 : Int).toNat].length ≤ LIM)) (k4 (x3 ++ [UInt8.ofNat (0 : Int).toNat])) none)
  (k2 x3)) [UInt8.ofNat (128 : Int).toNat])

noncomputable def impl_wordBytes.raw (a0 : List Int) : Option (List UInt8) :=
  joinK (fun (y1 : (List UInt8)) =>
  some y1) fun k2 =>
  loopK FU (fun (x3 : (List UInt8) × Int) k4 =>
  cond (decide (x3.2 < (a0.length : Int)))
  (Option.bind (idxI a0 x3.2) fun e5 =>
  Option.bind (putNO x3.1 e5 4) fun r6 =>
  k4 (r6, (iadd .i64 x3.2 1)))
  (k2 x3.1)) ([], 0)

noncomputable def impl_HashEnd.raw (a0 : G.Hash) : Option (List UInt8) :=
  cond (!(hashOk a0))
  (some [])
  (Option.bind (padO a0.N) fun r1 =>
  Option.bind (joinedO [a0.Held, r1]) fun r2 =>
  Option.bind (allO a0.H r2) fun r3 =>
  Option.bind (wordBytesO r3.1) fun r4 =>
  some r4)

noncomputable def impl_Sha.raw (a0 : List UInt8) : Option (List UInt8) :=
  cond (decide ((a0.length : Int) > 1048576))
  (some [])
  (let r1 : G.Hash := hashNew
  Option.bind (hashAddO r1 a0) fun r2 =>
  Option.bind (hashEndO r2) fun r3 =>
  some r3)

noncomputable def impl_BlockKey.raw (a0 : List UInt8) : Option (List UInt8) :=
  cond (decide ((a0.length : Int) > 1048576))
  (some [])
  (Option.bind (cloneO a0) fun r1 =>
  joinK (fun (y2 : (List UInt8)) =>
  joinK (fun (y5 : (List UInt8)) =>
  some y5) fun k6 =>
  loopK FU (fun (x7 : (List UInt8)) k8 =>
  cond (decide ((x7.length : Int) < 64))
  (cond (decide (x7.length + [UInt8.ofNat (0 : Int).toNat].length ≤ LIM)) (k8 (x7 ++ [UInt8.ofNat (0 : Int).toNat])) none)
  (k6 x7)) y2) fun k3 =>
  cond (decide ((a0.length : Int) > 64))
  (let r4 : (List UInt8) := sha a0
  k3 r4)
  (k3 r1))

noncomputable def impl_masked.raw (a0 : List UInt8) (a1 : UInt8) : Option (List UInt8) :=
  joinK (fun (y1 : (List UInt8)) =>
  some y1) fun k2 =>
  loopK FU (fun (x3 : (List UInt8) × Int) k4 =>
  cond (decide (x3.2 < (a0.length : Int)))
  (Option.bind (idxI a0 x3.2) fun e5 =>
  let x6 : Int := ixor .u8 ((e5.toNat : Nat) : Int) ((a1.toNat : Nat) : Int)
  cond (decide (x3.1.length + [UInt8.ofNat (x6 : Int).toNat].length ≤ LIM)) (k4 ((x3.1 ++ [UInt8.ofNat (x6 : Int).toNat]), (iadd .i64 x3.2 1))) none)
  (k2 x3.1)) ([], 0)

noncomputable def impl_Hmac.raw (a0 : List UInt8) (a1 : List UInt8) : Option (List UInt8) :=
  joinK (fun (y1 : Bool) =>
  cond (y1)
  (some [])
  (let r3 : (List UInt8) := blockKey a0
  Option.bind (maskedO r3 (UInt8.ofNat (92 : Int).toNat)) fun r4 =>
  Option.bind (maskedO r3 (UInt8.ofNat (54 : Int).toNat)) fun r5 =>
  Option.bind (joinedO [r5, a1]) fun r6 =>
  let r7 : (List UInt8) := sha r6
  Option.bind (joinedO [r4, r7]) fun r8 =>
  let r9 : (List UInt8) := sha r8
  some r9)) fun k2 =>
  cond (decide ((a0.length : Int) > 1048576))
  (k2 true)
  (k2 (decide ((a1.length : Int) > 1048512)))

noncomputable def impl_DiceAt.raw (a0 : List UInt8) (a1 : Int) : Option (List UInt8) :=
  joinK (fun (y1 : Bool) =>
  cond (y1)
  (some [])
  (let x3 : List UInt8 := [UInt8.ofNat (114 : Int).toNat, UInt8.ofNat (111 : Int).toNat, UInt8.ofNat (108 : Int).toNat, UInt8.ofNat (108 : Int).toNat]
  Option.bind (putNO x3 a1 4) fun r4 =>
  let r5 : (List UInt8) := hmac a0 r4
  cond (decide (0 ≤ (0 : Int)) && decide ((0 : Int) ≤ 12) && decide (12 ≤ (r5.length : Int))) (Option.bind (cloneO (List.take 12 (List.drop 0 r5))) fun r6 =>
  some r6) none)) fun k2 =>
  cond (!(inR (a0.length : Int) 1 32))
  (k2 true)
  (k2 (!(inR a1 0 10000)))

noncomputable def spec_PutN.raw (a0 : List UInt8) (a1 : Int) (a2 : Int) : Option (List UInt8) :=
  cond (decide (([] : List UInt8).length + a0.length ≤ LIM)) (joinK (fun (y1 : Bool) =>
  cond (y1)
  (some ([] ++ a0))
  (joinK (fun (y3 : (List UInt8)) =>
  some y3) fun k4 =>
  loopK FU (fun (x5 : (List UInt8) × Int) k6 =>
  cond (decide (x5.2 ≥ 0))
  (cond (decide ((imul .i64 8 x5.2) < 0)) none (let x7 : Int := iand .i64 (ishr .i64 a1 (imul .i64 8 x5.2)) 255
  cond (decide (x5.1.length + [UInt8.ofNat (IntKind.wrap .u8 x7 : Int).toNat].length ≤ LIM)) (k6 ((x5.1 ++ [UInt8.ofNat (IntKind.wrap .u8 x7 : Int).toNat]), (isub .i64 x5.2 1))) none))
  (k4 x5.1)) (([] ++ a0), (isub .i64 a2 1)))) fun k2 =>
  cond (decide (a2 < 1))
  (k2 true)
  (k2 (decide (a2 > 6)))) none

noncomputable def spec_Pad.raw (a0 : Int) : Option (List UInt8) :=
  joinK (fun (y1 : Bool) =>
  cond (y1)
  (some [])
  (joinK (fun (y3 : (List UInt8)) =>
  Option.bind (putNO y3 0 4) fun r8 =>
  Option.bind (putNO r8 (imul .i64 8 a0) 4) fun r9 =>
  some r9) fun k4 =>
  loopK FU (fun (x5 : (List UInt8)) k6 =>
  let x7 : Int := iadd .i64 (iadd .i64 a0 (x5.length : Int)) 8
  cond ((irem .i64 x7 64) != 0)
  (cond (decide (x5.length + [UInt8.ofNat (0 : Int).toNat].length ≤ LIM)) (k6 (x5 ++ [UInt8.ofNat (0 : Int).toNat])) none)
  (k4 x5)) [UInt8.ofNat (128 : Int).toNat])) fun k2 =>
  cond (decide (a0 < 0))
  (k2 true)
  (k2 (decide (a0 > 1048576)))

noncomputable def spec_Start.raw  : Option (List Int) :=
  let x1 : List Int := [1779033703, 3144134277, 1013904242, 2773480762, 1359893119, 2600822924, 528734635, 1541459225]
  some x1

noncomputable def spec_l2Words.raw (a0 : List Int) : Option Bool :=
  joinK (fun (y1 : Unit) =>
  some ((a0.length : Int) == 8)) fun k2 =>
  loopK FU (fun (x3 : Int) k4 =>
  cond (decide (x3 < (a0.length : Int)))
  (Option.bind (idxI a0 x3) fun e5 =>
  cond (!(inR e5 0 4294967295))
  (some false)
  (k4 (iadd .i64 x3 1)))
  (k2 ())) 0

noncomputable def spec_l2K.raw  : Option (List Int) :=
  let x1 : List Int := [1116352408, 1899447441, 3049323471, 3921009573, 961987163, 1508970993, 2453635748, 2870763221, 3624381080, 310598401, 607225278, 1426881987, 1925078388, 2162078206, 2614888103, 3248222580, 3835390401, 4022224774, 264347078, 604807628, 770255983, 1249150122, 1555081692, 1996064986, 2554220882, 2821834349, 2952996808, 3210313671, 3336571891, 3584528711, 113926993, 338241895, 666307205, 773529912, 1294757372, 1396182291, 1695183700, 1986661051, 2177026350, 2456956037, 2730485921, 2820302411, 3259730800, 3345764771, 3516065817, 3600352804, 4094571909, 275423344, 430227734, 506948616, 659060556, 883997877, 958139571, 1322822218, 1537002063, 1747873779, 1955562222, 2024104815, 2227730452, 2361852424, 2428436474, 2756734187, 3204031479, 3329325298]
  some x1

noncomputable def spec_GetN.raw (a0 : List UInt8) (a1 : Int) (a2 : Int) : Option (Int × Int × Bool) :=
  joinK (fun (y1 : Bool) =>
  cond (y1)
  (some (0, 0, false))
  (joinK (fun (y3 : Int) =>
  some (y3, iadd .i64 a1 a2, true)) fun k4 =>
  loopK FU (fun (x5 : Int × Int) k6 =>
  cond (decide (x5.2 < a2))
  (Option.bind (idxI a0 (iadd .i64 a1 x5.2)) fun e7 =>
  let x8 : Int := IntKind.wrap .i64 ((e7.toNat : Nat) : Int)
  k6 ((iadd .i64 (imul .i64 x5.1 256) x8), (iadd .i64 x5.2 1)))
  (k4 x5.1)) (0, 0))) fun k2 =>
  cond (decide (a2 < 1))
  (k2 true)
  (cond (decide (a2 > 6))
  (k2 true)
  (cond (decide (a1 < 0))
  (k2 true)
  (k2 (decide (a1 > (isub .i64 (a0.length : Int) a2))))))

noncomputable def spec_Rot.raw (a0 : Int) (a1 : Int) : Option Int :=
  joinK (fun (y1 : Bool) =>
  cond (y1)
  (some (iand .i64 a0 4294967295))
  (cond (decide (a1 < 0)) none (cond (decide ((isub .i64 32 a1) < 0)) none (let x3 : Int := ishl .i64 (iand .i64 a0 4294967295) (isub .i64 32 a1)
  let x4 : Int := ior .i64 (ishr .i64 (iand .i64 a0 4294967295) a1) x3
  some (iand .i64 x4 4294967295))))) fun k2 =>
  cond (decide (a1 < 1))
  (k2 true)
  (k2 (decide (a1 > 31)))

noncomputable def spec_Schedule.raw (a0 : List UInt8) : Option (List Int) :=
  cond ((a0.length : Int) != 64)
  (some [])
  (joinK (fun (y1 : (List Int)) =>
  joinK (fun (y6 : (List Int)) =>
  some y6) fun k7 =>
  loopK FU (fun (x8 : (List Int) × Int) k9 =>
  cond (decide (x8.2 < 64))
  (cond (decide (0 ≤ isub .i64 x8.2 15) && decide (isub .i64 x8.2 15 < (x8.1.length : Int))) (Option.bind (x8.1[(isub .i64 x8.2 15).toNat]?) fun e10 =>
  cond (decide (0 ≤ isub .i64 x8.2 2) && decide (isub .i64 x8.2 2 < (x8.1.length : Int))) (Option.bind (x8.1[(isub .i64 x8.2 2).toNat]?) fun e11 =>
  Option.bind (rotO e10 7) fun r12 =>
  Option.bind (rotO e10 18) fun r13 =>
  let x14 : Int := ixor .i64 (ixor .i64 r12 r13) (ishr .i64 e10 3)
  Option.bind (rotO e11 17) fun r15 =>
  Option.bind (rotO e11 19) fun r16 =>
  let x17 : Int := ixor .i64 (ixor .i64 r15 r16) (ishr .i64 e11 10)
  cond (decide (0 ≤ isub .i64 x8.2 7) && decide (isub .i64 x8.2 7 < (x8.1.length : Int))) (Option.bind (x8.1[(isub .i64 x8.2 7).toNat]?) fun e18 =>
  cond (decide (0 ≤ isub .i64 x8.2 16) && decide (isub .i64 x8.2 16 < (x8.1.length : Int))) (Option.bind (x8.1[(isub .i64 x8.2 16).toNat]?) fun e19 =>
  let x20 : Int := iadd .i64 (iadd .i64 (iadd .i64 e18 e19) x14) x17
  cond (decide (x8.1.length + [iand .i64 x20 4294967295].length ≤ LIM)) (k9 ((x8.1 ++ [iand .i64 x20 4294967295]), (iadd .i64 x8.2 1))) none) none) none) none) none)
  (k7 x8.1)) (y1, 16)) fun k2 =>
  loopK FU (fun (x3 : (List Int) × Int) k4 =>
  cond (decide (x3.2 < 16))
  (Option.bind (getNO a0 (imul .i64 4 x3.2) 4) fun r5 =>
  cond (decide (x3.1.length + [r5.1].length ≤ LIM)) (k4 ((x3.1 ++ [r5.1]), (iadd .i64 x3.2 1))) none)
  (k2 x3.1)) ([], 0))

noncomputable def spec_Compress.raw (a0 : List Int) (a1 : List UInt8) : Option (List Int) :=
  cond (decide (([] : List Int).length + a0.length ≤ LIM)) (joinK (fun (y1 : Bool) =>
  cond (y1)
  (some ([] ++ a0))
  (let r3 : (List Int) := kTab
  Option.bind (scheduleO a1) fun r4 =>
  Option.bind (idxI a0 0) fun e5 =>
  Option.bind (idxI a0 1) fun e6 =>
  Option.bind (idxI a0 2) fun e7 =>
  Option.bind (idxI a0 3) fun e8 =>
  Option.bind (idxI a0 4) fun e9 =>
  Option.bind (idxI a0 5) fun e10 =>
  Option.bind (idxI a0 6) fun e11 =>
  Option.bind (idxI a0 7) fun e12 =>
  joinK (fun (y13 : Int × Int × Int × Int × Int × Int × Int × Int) =>
  let x34 : List Int := [y13.1, y13.2.1, y13.2.2.1, y13.2.2.2.1, y13.2.2.2.2.1, y13.2.2.2.2.2.1, y13.2.2.2.2.2.2.1, y13.2.2.2.2.2.2.2]
  joinK (fun (y35 : (List Int)) =>
  some y35) fun k36 =>
  loopK FU (fun (x37 : Int × (List Int)) k38 =>
  cond (decide (x37.1 < 8))
  (Option.bind (idxI a0 x37.1) fun e39 =>
  cond (decide (0 ≤ x37.1) && decide (x37.1 < (x34.length : Int))) (Option.bind (x34[x37.1.toNat]?) fun e40 =>
  cond (decide (0 ≤ x37.1) && decide (x37.1 < (x37.2.length : Int))) (Option.bind (x37.2[x37.1.toNat]?) fun e41 =>
  let l42 : List Int := List.set x37.2 x37.1.toNat (iand .i64 (iadd .i64 e39 e40) 4294967295)
  k38 ((iadd .i64 x37.1 1), l42)) none) none)
  (k36 x37.2)) (0, ([] ++ a0))) fun k14 =>
  loopK FU (fun (x15 : Int × Int × Int × Int × Int × Int × Int × Int × Int) k16 =>
  cond (decide (x15.2.2.2.2.2.2.2.2 < 64))
  (Option.bind (rotO x15.2.2.2.2.1 6) fun r17 =>
  Option.bind (rotO x15.2.2.2.2.1 11) fun r18 =>
  Option.bind (rotO x15.2.2.2.2.1 25) fun r19 =>
  let x20 : Int := iadd .i64 x15.2.2.2.2.2.2.2.1 (ixor .i64 (ixor .i64 r17 r18) r19)
  let x21 : Int := iand .i64 (ixor .i64 x15.2.2.2.2.1 4294967295) x15.2.2.2.2.2.2.1
  let x22 : Int := ixor .i64 (iand .i64 x15.2.2.2.2.1 x15.2.2.2.2.2.1) x21
  cond (decide (0 ≤ x15.2.2.2.2.2.2.2.2) && decide (x15.2.2.2.2.2.2.2.2 < (r3.length : Int))) (Option.bind (r3[x15.2.2.2.2.2.2.2.2.toNat]?) fun e23 =>
  cond (decide (0 ≤ x15.2.2.2.2.2.2.2.2) && decide (x15.2.2.2.2.2.2.2.2 < (r4.length : Int))) (Option.bind (r4[x15.2.2.2.2.2.2.2.2.toNat]?) fun e24 =>
  let x25 : Int := iadd .i64 (iadd .i64 (iadd .i64 x20 x22) e23) e24
  Option.bind (rotO x15.1 2) fun r26 =>
  Option.bind (rotO x15.1 13) fun r27 =>
  Option.bind (rotO x15.1 22) fun r28 =>
  let x29 : Int := ixor .i64 (iand .i64 x15.1 x15.2.1) (iand .i64 x15.1 x15.2.2.1)
  let x30 : Int := ixor .i64 x29 (iand .i64 x15.2.1 x15.2.2.1)
  let x31 : Int := iadd .i64 (ixor .i64 (ixor .i64 r26 r27) r28) x30
  let x32 : Int := iadd .i64 x15.2.2.2.1 (iand .i64 x25 4294967295)
  let x33 : Int := iadd .i64 (iand .i64 x25 4294967295) (iand .i64 x31 4294967295)
  k16 ((iand .i64 x33 4294967295), x15.1, x15.2.1, x15.2.2.1, (iand .i64 x32 4294967295), x15.2.2.2.2.1, x15.2.2.2.2.2.1, x15.2.2.2.2.2.2.1, (iadd .i64 x15.2.2.2.2.2.2.2.2 1))) none) none)
  (k14 (x15.1, x15.2.1, x15.2.2.1, x15.2.2.2.1, x15.2.2.2.2.1, x15.2.2.2.2.2.1, x15.2.2.2.2.2.2.1, x15.2.2.2.2.2.2.2.1))) (e5, e6, e7, e8, e9, e10, e11, e12, 0))) fun k2 =>
  cond (!(words8 a0))
  (k2 true)
  (k2 ((a1.length : Int) != 64))) none

noncomputable def spec_l2Out.raw (a0 : List Int) : Option (List UInt8) :=
  joinK (fun (y1 : (List UInt8)) =>
  some y1) fun k2 =>
  loopK FU (fun (x3 : (List UInt8) × Int) k4 =>
  cond (decide (x3.2 < 8))
  (Option.bind (idxI a0 x3.2) fun e5 =>
  Option.bind (putNO x3.1 e5 4) fun r6 =>
  k4 (r6, (iadd .i64 x3.2 1)))
  (k2 x3.1)) ([], 0)

noncomputable def spec_Sha.raw (a0 : List UInt8) : Option (List UInt8) :=
  cond (decide ((a0.length : Int) > 1048576))
  (some [])
  (cond (decide (([] : List UInt8).length + a0.length ≤ LIM)) (Option.bind (padO (a0.length : Int)) fun r1 =>
  cond (decide (([] ++ a0).length + r1.length ≤ LIM)) (let r2 : (List Int) := start
  joinK (fun (y3 : (List Int)) =>
  Option.bind (wordBytesO y3) fun r8 =>
  some r8) fun k4 =>
  loopK FU (fun (x5 : (List Int) × Int) k6 =>
  cond (decide (x5.2 < ((([] ++ a0) ++ r1).length : Int)))
  (cond (decide (0 ≤ x5.2) && decide (x5.2 ≤ (iadd .i64 x5.2 64)) && decide ((iadd .i64 x5.2 64) ≤ ((([] ++ a0) ++ r1).length : Int))) (Option.bind (compressO x5.1 (List.take ((iadd .i64 x5.2 64 - x5.2).toNat) (List.drop x5.2.toNat (([] ++ a0) ++ r1)))) fun r7 =>
  k6 (r7, (iadd .i64 x5.2 64))) none)
  (k4 x5.1)) (r2, 0)) none) none)

noncomputable def spec_BlockKey.raw (a0 : List UInt8) : Option (List UInt8) :=
  cond (decide ((a0.length : Int) > 1048576))
  (some [])
  (cond (decide (([] : List UInt8).length + a0.length ≤ LIM)) (joinK (fun (y1 : (List UInt8)) =>
  joinK (fun (y4 : (List UInt8)) =>
  some y4) fun k5 =>
  loopK FU (fun (x6 : (List UInt8)) k7 =>
  cond (decide ((x6.length : Int) < 64))
  (cond (decide (x6.length + [UInt8.ofNat (0 : Int).toNat].length ≤ LIM)) (k7 (x6 ++ [UInt8.ofNat (0 : Int).toNat])) none)
  (k5 x6)) y1) fun k2 =>
  cond (decide ((a0.length : Int) > 64))
  (let r3 : (List UInt8) := sha a0
  k2 r3)
  (k2 ([] ++ a0))) none)

noncomputable def spec_Hmac.raw (a0 : List UInt8) (a1 : List UInt8) : Option (List UInt8) :=
  joinK (fun (y1 : Bool) =>
  cond (y1)
  (some [])
  (let r3 : (List UInt8) := blockKey a0
  joinK (fun (y4 : (List UInt8) × (List UInt8)) =>
  cond (decide (y4.1.length + a1.length ≤ LIM)) (let r12 : (List UInt8) := sha (y4.1 ++ a1)
  cond (decide (y4.2.length + r12.length ≤ LIM)) (let r13 : (List UInt8) := sha (y4.2 ++ r12)
  some r13) none) none) fun k5 =>
  loopK FU (fun (x6 : (List UInt8) × (List UInt8) × Int) k7 =>
  cond (decide (x6.2.2 < 64))
  (cond (decide (0 ≤ x6.2.2) && decide (x6.2.2 < (r3.length : Int))) (Option.bind (r3[x6.2.2.toNat]?) fun e8 =>
  let x9 : List UInt8 := [UInt8.ofNat (ixor .u8 ((e8.toNat : Nat) : Int) 54 : Int).toNat]
  cond (decide (x6.1.length + x9.length ≤ LIM)) (cond (decide (0 ≤ x6.2.2) && decide (x6.2.2 < (r3.length : Int))) (Option.bind (r3[x6.2.2.toNat]?) fun e10 =>
  let x11 : List UInt8 := [UInt8.ofNat (ixor .u8 ((e10.toNat : Nat) : Int) 92 : Int).toNat]
  cond (decide (x6.2.1.length + x11.length ≤ LIM)) (k7 ((x6.1 ++ x9), (x6.2.1 ++ x11), (iadd .i64 x6.2.2 1))) none) none) none) none)
  (k5 (x6.1, x6.2.1))) ([], [], 0))) fun k2 =>
  cond (decide ((a0.length : Int) > 1048576))
  (k2 true)
  (k2 (decide ((a1.length : Int) > 1048512)))

noncomputable def spec_DiceAt.raw (a0 : List UInt8) (a1 : Int) : Option (List UInt8) :=
  joinK (fun (y1 : Bool) =>
  cond (y1)
  (some [])
  (let x3 : List UInt8 := [UInt8.ofNat (114 : Int).toNat, UInt8.ofNat (111 : Int).toNat, UInt8.ofNat (108 : Int).toNat, UInt8.ofNat (108 : Int).toNat]
  Option.bind (putNO x3 a1 4) fun r4 =>
  let r5 : (List UInt8) := hmac a0 r4
  cond (decide (0 ≤ (0 : Int)) && decide ((0 : Int) ≤ 12) && decide (12 ≤ (r5.length : Int))) (cond (decide (([] : List UInt8).length + (List.take 12 (List.drop 0 r5)).length ≤ LIM)) (some ([] ++ (List.take 12 (List.drop 0 r5)))) none) none)) fun k2 =>
  cond (!(inR (a0.length : Int) 1 32))
  (k2 true)
  (k2 (!(inR a1 0 10000)))

end Go.D

/-
  What the laws' own functions compute.
-/
namespace Go.D


end Go.D

/-
  Bytes of numbers and words: each function computes what is said of it.
-/
namespace Go.D

/-- A loop whose state is known at each step. -/
theorem loop_st {σ R : Type} (n : Nat) (hn : n ≤ maxLen) (S : Nat → σ) (z : Option R) {f : σ × Int → (σ × Int → Option R) → Option R}
    (hf : ∀ (i : Nat) k, i < n → f (S i, (i : Int)) k = k (S (i + 1), IntKind.wrap .i64 ((i : Int) + 1))) (hz : ∀ k, f (S n, (n : Int)) k = z) (a : Nat) (ha : a ≤ n) : loopK FU f (S a, (a : Int)) = z := by
  refine loop_FU (g := fun _ => z) (fun x => ∃ i : Nat, i ≤ n ∧ x = (S i, (i : Int))) (fun x => n - x.2.toNat) (fun x hx k hk => ?_) ⟨a, ha, rfl⟩ (by unfold maxLen at hn; simp only [Int.toNat_natCast]; omega)
  obtain ⟨i, hi, rfl⟩ := hx
  rcases Nat.lt_or_eq_of_le hi with hlt | rfl
  · rw [hf i k hlt, iadd_nat i (by omega)]
    exact hk _ ⟨i + 1, hlt, rfl⟩ (by simp only [Int.toNat_natCast]; omega)
  · exact hz k
/-! ### Bits -/

theorem ofInt_nat (n : Nat) (h : n < 2 ^ 64) : (BitVec.ofInt 64 (n : Int)).toNat = n := by
  rw [BitVec.toNat_ofInt]; omega
theorem m32_le (a : Int) : 0 ≤ m32 a ∧ m32 a ≤ 4294967295 := by
  have h : (BitVec.ofInt 64 a &&& BitVec.ofInt 64 4294967295).toNat ≤ 4294967295 := by
    rw [BitVec.toNat_and]
    exact Nat.le_trans Nat.and_le_right (by decide)
  unfold m32 iand
  show 0 ≤ IntKind.wrap .i64 ((BitVec.ofInt 64 a &&& BitVec.ofInt 64 4294967295).toNat : Int) ∧ IntKind.wrap .i64 ((BitVec.ofInt 64 a &&& BitVec.ofInt 64 4294967295).toNat : Int) ≤ 4294967295
  rw [wrap_i64 (by omega) (by omega)]; omega
theorem m32_mod {a : Int} (h0 : 0 ≤ a) (h1 : a ≤ 9223372036854775807) : m32 a = a % 4294967296 := by
  obtain ⟨n, rfl⟩ := int_nat h0
  unfold m32 iand
  show IntKind.wrap .i64 ((BitVec.ofInt 64 (n : Int) &&& BitVec.ofInt 64 ((4294967295 : Nat) : Int)).toNat : Int) = _
  rw [BitVec.toNat_and, ofInt_nat n (by omega), ofInt_nat _ (by decide)]
  have := Nat.and_two_pow_sub_one_eq_mod n 32
  rw [show (4294967295 : Nat) = 2 ^ 32 - 1 from rfl, this, wrap_i64 (by omega) (by omega)]
  omega
def W32 (a : Int) : Prop := 0 ≤ a ∧ a ≤ 4294967295
theorem m32_w (a : Int) : W32 (m32 a) := m32_le a
theorem ixor_w {a b : Int} (ha : W32 a) (hb : W32 b) : W32 (ixor .i64 a b) := by
  obtain ⟨n, rfl⟩ := int_nat ha.1
  obtain ⟨m, rfl⟩ := int_nat hb.1
  have h1 := ha.2
  have h2 := hb.2
  have h : (n ^^^ m) < 2 ^ 32 := Nat.xor_lt_two_pow (by omega) (by omega)
  unfold ixor
  show W32 (IntKind.wrap .i64 ((BitVec.ofInt 64 (n : Int) ^^^ BitVec.ofInt 64 (m : Int)).toNat : Int))
  rw [BitVec.toNat_xor, ofInt_nat n (by omega), ofInt_nat m (by omega), wrap_i64 (by omega) (by omega)]
  exact ⟨by omega, by omega⟩
theorem ixor_comm (a b : Int) : ixor .i64 a b = ixor .i64 b a := by
  unfold ixor; rw [BitVec.xor_comm]
theorem iand_w {a b : Int} (ha : W32 a) (hb : W32 b) : W32 (iand .i64 a b) := by
  obtain ⟨n, rfl⟩ := int_nat ha.1
  obtain ⟨m, rfl⟩ := int_nat hb.1
  have h1 := ha.2
  have h2 := hb.2
  have h : (n &&& m) ≤ m := Nat.and_le_right
  unfold iand
  show W32 (IntKind.wrap .i64 ((BitVec.ofInt 64 (n : Int) &&& BitVec.ofInt 64 (m : Int)).toNat : Int))
  rw [BitVec.toNat_and, ofInt_nat n (by omega), ofInt_nat m (by omega), wrap_i64 (by omega) (by omega)]
  exact ⟨by omega, by omega⟩
theorem rot_w (x n : Int) : W32 (rot x n) := m32_w _
/-! ### Bytes -/

theorem app_room {a b : Nat} (h : a + b ≤ LIM) : decide (a + b ≤ LIM) = true := decide_eq_true h
theorem impl_clone.ok {x : TyTup [.sl .byte]} (_ : bdTup [.sl .byte] x) {r : List UInt8} : cloneO x = some r → impl_clone.raw x = some r := pt_ok fun h => by
  have h2 : (show List UInt8 from x).length ≤ LIM := by rw [← wt_bytes]; exact h
  show cond (decide (([] : List UInt8).length + (show List UInt8 from x).length ≤ LIM)) _ _ = _
  rw [ble_LIM h2]; rfl

theorem putN_raw (b : List UInt8) (n k : Int) (h : wt b + 6 ≤ LIM) : impl_PutN.raw b n k = some (putN b n k) := by
  rw [wt_bytes] at h
  simp only [impl_PutN.raw, joinK, putN, List.nil_append]
  rw [ble_LIM (by omega)]
  simp only [cond_true]
  by_cases h1 : k < 1
  · rw [decide_eq_true h1]; rfl
  by_cases h2 : k > 6
  · rw [decide_eq_false h1, decide_eq_true h2]; rfl
  rw [decide_eq_false h1, decide_eq_false h2]
  simp only [cond_false, Bool.or_false]
  have hk : isub .i64 k 1 = k - 1 := by rw [isub, wrap_i64 (by omega) (by omega)]
  rw [hk]
  rw [loop_FU (g := fun x : List UInt8 × Int => some (x.1 ++ bytesOf n (x.2 + 1).toNat)) (fun x => -1 ≤ x.2 ∧ x.2 ≤ 5 ∧ (x.1.length : Int) + x.2 + 1 ≤ (LIM : Int)) (fun x => (x.2 + 1).toNat) (fun x hx kk hkk => ?_) (x := (b, k - 1)) ⟨by show -1 ≤ k - 1; omega, by show k - 1 ≤ 5; omega, by show (b.length : Int) + (k - 1) + 1 ≤ (LIM : Int); omega⟩ (by show (k - 1 + 1).toNat < 2 ^ 64; omega)]
  · rw [show k - 1 + 1 = k by omega]
  · obtain ⟨l, i⟩ := x
    obtain ⟨g1, g2, g3⟩ := hx
    simp only at g1 g2 g3 ⊢
    by_cases hi : 0 ≤ i
    · obtain ⟨j, rfl⟩ := int_nat hi
      have e1 : imul .i64 8 (j : Int) = 8 * (j : Int) := wrap_i64 (by omega) (by omega)
      have e2 : isub .i64 (j : Int) 1 = (j : Int) - 1 := by rw [isub, wrap_i64 (by omega) (by omega)]
      have e3 : decide (imul .i64 8 (j : Int) < 0) = false := decide_eq_false (by rw [e1]; omega)
      rw [decide_eq_true (p := (j : Int) ≥ 0) hi, cond_true, e3, cond_false, app_room (by simp; omega), cond_true, e2]
      refine (hkk (l ++ [byteAt n j], (j : Int) - 1) ⟨by show -1 ≤ (j : Int) - 1; omega, by show (j : Int) - 1 ≤ 5; omega, by show ((l ++ [byteAt n j]).length : Int) + ((j : Int) - 1) + 1 ≤ (LIM : Int); simp; omega⟩ (by show ((j : Int) - 1 + 1).toNat < ((j : Int) + 1).toNat; omega)).trans ?_
      simp only
      rw [show ((j : Int) - 1 + 1).toNat = j by omega, show ((j : Int) + 1).toNat = j + 1 by omega, bytesOf, List.append_assoc]; rfl
    · have : i = -1 := by omega
      subst this
      simp [bytesOf]
theorem impl_PutN.ok {x : TyTup [.sl .byte, .v .int, .v .int]} (_ : bdTup [.sl .byte, .v .int, .v .int] x) {r : List UInt8} : putNO x.1 x.2.1 x.2.2 = some r → impl_PutN.raw x.1 x.2.1 x.2.2 = some r := pt_ok fun h => putN_raw x.1 x.2.1 x.2.2 h
theorem spec_PutN.ok {x : TyTup [.sl .byte, .v .int, .v .int]} (_ : bdTup [.sl .byte, .v .int, .v .int] x) {r : List UInt8} : putNO x.1 x.2.1 x.2.2 = some r → spec_PutN.raw x.1 x.2.1 x.2.2 = some r := pt_ok fun h => putN_raw x.1 x.2.1 x.2.2 h

theorem flat_len : ∀ l : List (List UInt8), l.flatten.length ≤ wt l
  | [] => Nat.zero_le _
  | x :: l => by
    have := flat_len l
    rw [wt_cons, wt_bytes, List.flatten_cons, List.length_append]; omega
theorem impl_joined_raw (l : List (List UInt8)) (h : wt l ≤ LIM) : impl_joined.raw l = some l.flatten := by
  simp only [impl_joined.raw, joinK]
  refine loop_st l.length (len_lim h) (fun i => (l.take i).flatten) (some l.flatten) (fun i k hi => ?_) (fun k => by simp only [lt_end, cond_false, List.take_length]) 0 (Nat.zero_le _)
  have e : (l.take (i + 1)).flatten = (l.take i).flatten ++ l[i] := by rw [take_next l hi, List.flatten_append]; simp
  have hlen := flat_len (l.take (i + 1))
  have h2 := wt_take l (i + 1)
  rw [e, List.length_append] at hlen
  simp only [lt_len hi, cond_true, idxI_get hi, bind_some', app_room (show (l.take i).flatten.length + l[i].length ≤ LIM by omega), e]
theorem impl_joined.ok {x : TyTup [.sl .bs]} (_ : bdTup [.sl .bs] x) {r : List UInt8} : joinedO x = some r → impl_joined.raw x = some r := pt_ok fun h => impl_joined_raw x h

theorem cut_raw (b : List UInt8) (f n : Int) (h : wt b ≤ LIM) (hf : Fits .i64 f) (hn : Fits .i64 n) : impl_Cut.raw b f n = some (cut b f n) := by
  have hl : b.length ≤ LIM := by rw [← wt_bytes]; exact h
  have hL := LIM_is
  have hf := fits_i64 hf
  simp only [impl_Cut.raw, joinK, cut, List.nil_append]
  by_cases h1 : f < 0
  · rw [decide_eq_true h1]; rfl
  by_cases h2 : n < 0
  · rw [decide_eq_false h1, decide_eq_true h2]; rfl
  by_cases h3 : f > (b.length : Int)
  · rw [decide_eq_false h1, decide_eq_false h2, decide_eq_true h3]; rfl
  have e : isub .i64 (b.length : Int) f = (b.length : Int) - f := by rw [isub, wrap_i64 (by omega) (by omega)]
  rw [e]
  by_cases h4 : n > (b.length : Int) - f
  · rw [decide_eq_false h1, decide_eq_false h2, decide_eq_false h3, decide_eq_true h4]; rfl
  have e2 : iadd .i64 f n = f + n := by rw [iadd, wrap_i64 (by omega) (by omega)]
  have e3 : (decide (0 ≤ f) && decide (f ≤ f + n) && decide (f + n ≤ (b.length : Int))) = true := by simp; omega
  rw [decide_eq_false h1, decide_eq_false h2, decide_eq_false h3, decide_eq_false h4]
  simp only [cond_false, e2]
  rw [e3, show f + n - f = n by omega]
  have : ((b.drop f.toNat).take n.toNat).length ≤ LIM := by rw [List.length_take, List.length_drop]; omega
  rw [ble_LIM this]; rfl
theorem impl_Cut.ok {x : TyTup [.sl .byte, .v .int, .v .int]} (hb : bdTup [.sl .byte, .v .int, .v .int] x) {r : List UInt8 × Bool} : cutO x.1 x.2.1 x.2.2 = some r → impl_Cut.raw x.1 x.2.1 x.2.2 = some r := pt_ok fun h =>
  cut_raw x.1 x.2.1 x.2.2 h (bdx_fits hb.2.1 0 (by decide) rfl) (bdx_fits hb.2.2 0 (by decide) rfl)

theorem getVal_next (l : List UInt8) {i : Nat} (hi : i < l.length) : getVal (l.take (i + 1)) = iadd .i64 (imul .i64 (getVal (l.take i)) 256) (IntKind.wrap .i64 ((l[i].toNat : Nat) : Int)) := by
  rw [getVal, take_next l hi, List.foldl_append]; rfl
theorem spec_GetN_raw (b : List UInt8) (f k : Int) (h : wt b ≤ LIM) (hf : Fits .i64 f) : spec_GetN.raw b f k = some (getN b f k) := by
  have hl : b.length ≤ LIM := by rw [← wt_bytes]; exact h
  have hL := LIM_is
  have hf := fits_i64 hf
  simp only [spec_GetN.raw, joinK, getN]
  by_cases h1 : k < 1
  · rw [decide_eq_true h1]; rfl
  by_cases h2 : k > 6
  · rw [decide_eq_false h1, decide_eq_true h2]; rfl
  by_cases h3 : f < 0
  · rw [decide_eq_false h1, decide_eq_false h2, decide_eq_true h3]; rfl
  have e : isub .i64 (b.length : Int) k = (b.length : Int) - k := by rw [isub, wrap_i64 (by omega) (by omega)]
  rw [e]
  by_cases h4 : f > (b.length : Int) - k
  · rw [decide_eq_false h1, decide_eq_false h2, decide_eq_false h3, decide_eq_true h4]; rfl
  rw [decide_eq_false h1, decide_eq_false h2, decide_eq_false h3, decide_eq_false h4]
  simp only [cond_false, Bool.or_false]
  obtain ⟨a, rfl⟩ := int_nat (n := f) (by omega)
  obtain ⟨m, rfl⟩ := int_nat (n := k) (by omega)
  simp only [Int.toNat_natCast]
  refine loop_st m (by rw [maxLen_is]; omega) (fun i => getVal (((b.drop a).take m).take i)) _ (fun i k hi => ?_) (fun k => ?_) 0 (Nat.zero_le _)
  · have e1 : iadd .i64 (a : Int) (i : Int) = ((a + i : Nat) : Int) := by rw [iadd, wrap_i64 (by omega) (by omega)]; omega
    have hlt : i < ((b.drop a).take m).length := by rw [List.length_take, List.length_drop]; omega
    have hai : a + i < b.length := by omega
    rw [lt_len hi, cond_true, e1, idxI_get hai, bind_some', getVal_next _ hlt]
    simp only [List.getElem_take, List.getElem_drop]
  · rw [lt_end, cond_false, List.take_of_length_le (i := m) (by rw [List.length_take]; omega)]
theorem spec_GetN.ok {x : TyTup [.sl .byte, .v .int, .v .int]} (hb : bdTup [.sl .byte, .v .int, .v .int] x) {r : Int × Int × Bool} : getNO x.1 x.2.1 x.2.2 = some r → spec_GetN.raw x.1 x.2.1 x.2.2 = some r := pt_ok fun h =>
  spec_GetN_raw x.1 x.2.1 x.2.2 h (bdx_fits hb.2.1 0 (by decide) rfl)
theorem val_loop (p : List UInt8) (hp : p.length ≤ maxLen) (c : Int) : loopK FU (fun (x6 : Int × Int) k7 => cond (decide (x6.2 < (p.length : Int))) (cond (decide (0 ≤ x6.2) && decide (x6.2 < (p.length : Int))) (Option.bind (p[x6.2.toNat]?) fun e8 =>
    k7 ((iadd .i64 (imul .i64 256 x6.1) (IntKind.wrap .i64 ((e8.toNat : Nat) : Int))), (iadd .i64 x6.2 1))) none) (some (x6.1, c, true))) ((0 : Int), (0 : Int)) = some (getVal p, c, true) := by
  refine loop_st p.length hp (fun i => getVal (p.take i)) _ (fun i k hi => ?_) (fun k => ?_) 0 (Nat.zero_le _)
  · have e3 : (decide ((0 : Int) ≤ (i : Int)) && decide ((i : Int) < (p.length : Int))) = true := by simp; exact hi
    simp only [e3, lt_len hi, cond_true, Int.toNat_natCast, List.getElem?_eq_getElem hi, bind_some', getVal_next _ hi, imul, Int.mul_comm 256]
    rw [show decide ((0 : Int) ≤ (i : Int)) = true from decide_eq_true (by omega)]; rfl
  · rw [lt_end, cond_false, List.take_length]
theorem impl_GetN_raw (b : List UInt8) (f k : Int) (h : wt b ≤ LIM) (hf : Fits .i64 f) : impl_GetN.raw b f k = some (getN b f k) := by
  have hl : b.length ≤ LIM := by rw [← wt_bytes]; exact h
  have hL := LIM_is
  have hf := fits_i64 hf
  simp only [impl_GetN.raw, joinK, getN, cutO, pt_bind h, cut]
  by_cases h1 : k < 1
  · rw [decide_eq_true h1]; rfl
  by_cases h2 : k > 6
  · rw [decide_eq_false h1, decide_eq_true h2]; rfl
  by_cases h3 : f < 0
  · rw [decide_eq_false h1, decide_eq_false h2, decide_eq_true h3]; rfl
  rw [decide_eq_false h1, decide_eq_false h2, decide_eq_false h3, decide_eq_false (p := k < 0) (by omega)]
  by_cases h4 : f > (b.length : Int) - k
  · rw [decide_eq_true h4]
    by_cases h5 : f > (b.length : Int)
    · rw [decide_eq_true h5]; rfl
    · rw [decide_eq_false h5, decide_eq_true (p := k > (b.length : Int) - f) (by omega)]; rfl
  rw [decide_eq_false h4, decide_eq_false (p := f > (b.length : Int)) (by omega), decide_eq_false (p := k > (b.length : Int) - f) (by omega)]
  simp only [cond_false, Bool.or_false, Bool.not_true]
  obtain ⟨a, rfl⟩ := int_nat (n := f) (by omega)
  obtain ⟨m, rfl⟩ := int_nat (n := k) (by omega)
  simp only [Int.toNat_natCast]
  have hlen : ((b.drop a).take m).length = m := by rw [List.length_take, List.length_drop]; omega
  exact val_loop _ (by rw [hlen, maxLen_is]; omega) _
theorem impl_GetN.ok {x : TyTup [.sl .byte, .v .int, .v .int]} (hb : bdTup [.sl .byte, .v .int, .v .int] x) {r : Int × Int × Bool} : getNO x.1 x.2.1 x.2.2 = some r → impl_GetN.raw x.1 x.2.1 x.2.2 = some r := pt_ok fun h =>
  impl_GetN_raw x.1 x.2.1 x.2.2 h (bdx_fits hb.2.1 0 (by decide) rfl)
theorem getVal_w (l : List UInt8) (h : l.length ≤ 4) : 0 ≤ getVal l ∧ getVal l < 256 ^ l.length := by
  have key : ∀ i, i ≤ l.length → 0 ≤ getVal (l.take i) ∧ getVal (l.take i) < 256 ^ i := by
    intro i
    induction i with
    | zero => intro _; simp [getVal]
    | succ i ih =>
      intro hi
      have hlt : i < l.length := by omega
      obtain ⟨h1, h2⟩ := ih (by omega)
      have hb := UInt8.toNat_lt l[i]
      have hp : (256 : Int) ^ i ≤ 16777216 := by
        have : i = 0 ∨ i = 1 ∨ i = 2 ∨ i = 3 := by omega
        rcases this with rfl | rfl | rfl | rfl <;> decide
      rw [getVal_next l hlt, Int.pow_succ]
      generalize (256 : Int) ^ i = q at *
      generalize getVal (l.take i) = v at *
      have e1 : IntKind.wrap .i64 ((l[i].toNat : Nat) : Int) = (l[i].toNat : Int) := wrap_i64 (by omega) (by omega)
      have e2 : imul .i64 v 256 = v * 256 := wrap_i64 (by omega) (by omega)
      rw [e1, e2, iadd, wrap_i64 (by omega) (by omega)]
      omega
  have := key l.length (Nat.le_refl _)
  rwa [List.take_length] at this

/-! ### Words -/

theorem rot_raw (x n : Int) (h : 1 ≤ n ∧ n ≤ 31) : impl_Rot.raw x n = some (rot x n) := by
  simp only [impl_Rot.raw, joinK, rot, m32]
  rw [decide_eq_false (p := n < 0) (by omega), decide_eq_false (p := n > 31) (by omega)]
  have : isub .i64 32 n = 32 - n := by rw [isub, wrap_i64 (by omega) (by omega)]
  rw [this, decide_eq_false (p := 32 - n < 0) (by omega)]; rfl
theorem impl_Rot.ok {x : TyTup [.v .int, .v .int]} (_ : bdTup [.v .int, .v .int] x) {r : Int} : rotO x.1 x.2 = some r → impl_Rot.raw x.1 x.2 = some r := pt_ok fun h => rot_raw x.1 x.2 h
theorem spec_rot_raw (a n : Int) (h : 1 ≤ n ∧ n ≤ 31) : spec_Rot.raw a n = some (rot a n) := by
  simp only [spec_Rot.raw, joinK, rot, m32]
  rw [decide_eq_false (p := n < 1) (by omega), decide_eq_false (p := n > 31) (by omega), decide_eq_false (p := n < 0) (by omega)]
  have : isub .i64 32 n = 32 - n := by rw [isub, wrap_i64 (by omega) (by omega)]
  rw [this, decide_eq_false (p := 32 - n < 0) (by omega)]; rfl
theorem spec_Rot.ok {x : TyTup [.v .int, .v .int]} (_ : bdTup [.v .int, .v .int] x) {r : Int} : rotO x.1 x.2 = some r → spec_Rot.raw x.1 x.2 = some r := pt_ok fun h => spec_rot_raw x.1 x.2 h
theorem impl_Add32.ok {x : TyTup [.v .int, .v .int]} (_ : bdTup [.v .int, .v .int] x) : impl_Add32.raw x.1 x.2 = some (add32 x.1 x.2) := rfl
theorem impl_Start.ok {x : TyTup []} (_ : bdTup [] x) : impl_Start.raw = some start := rfl
theorem spec_Start.ok {x : TyTup []} (_ : bdTup [] x) : spec_Start.raw = some start := rfl
theorem spec_l2K.ok {x : TyTup []} (_ : bdTup [] x) : spec_l2K.raw = some kTab := rfl
theorem spec_l2Words.ok {x : TyTup [.sl .int]} (hb : bdTup [.sl .int] x) : spec_l2Words.raw x = some (words8 x) := by
  show spec_l2Words.raw (x : List Int) = some (areWords (x : List Int) 8)
  have hl : (show List Int from x).length ≤ maxLen := hb.1
  generalize (show List Int from x) = l at hl ⊢
  simp only [spec_l2Words.raw, joinK]
  rw [areWords_loop l hl, areWords]
  cases List.all _ _ <;> rfl
theorem round_tab : ∀ m : Fin 64, impl_RoundWord.raw (m.val : Int) = some (roundWord (m.val : Int)) := by decide +kernel
theorem impl_RoundWord.ok {x : TyTup [.v .int]} (_ : bdTup [.v .int] x) : impl_RoundWord.raw x = some (roundWord x) := by
  show impl_RoundWord.raw (x : Int) = some (roundWord (x : Int))
  generalize (show Int from x) = i
  by_cases h : 0 ≤ i ∧ i ≤ 63
  · obtain ⟨m, rfl⟩ := int_nat h.1
    exact round_tab ⟨m, by omega⟩
  · simp only [impl_RoundWord.raw, joinK, roundWord, if_neg h]
    by_cases h1 : i < 0
    · rw [decide_eq_true h1]; rfl
    · rw [decide_eq_false h1, decide_eq_true (p := i > 63) (by omega)]; rfl

end Go.D

/-
  The hash: each function computes what is said of it.
-/
namespace Go.D

/-- A loop whose state is known at each step; idx: where the step stands in the state. -/
theorem loop_emb {X R : Type} (idx : X → Int) (E : Nat → X) (hidx : ∀ i, idx (E i) = (i : Int)) (n : Nat) (hn : n ≤ maxLen) (z : Option R) {f : X → (X → Option R) → Option R} (a : Nat) (ha : a ≤ n)
    (hf : ∀ (i : Nat) k, a ≤ i → i < n → f (E i) k = k (E (i + 1))) (hz : ∀ k, f (E n) k = z) : loopK FU f (E a) = z := by
  refine loop_FU (g := fun _ => z) (fun x => ∃ i : Nat, a ≤ i ∧ i ≤ n ∧ x = E i) (fun x => n - (idx x).toNat) (fun x hx k hk => ?_) ⟨a, Nat.le_refl _, ha, rfl⟩ (by rw [hidx]; unfold maxLen at hn; simp only [Int.toNat_natCast]; omega)
  obtain ⟨i, h0, hi, rfl⟩ := hx
  rcases Nat.lt_or_eq_of_le hi with hlt | rfl
  · rw [hf i k h0 hlt]
    exact hk _ ⟨i + 1, by omega, hlt, rfl⟩ (by rw [hidx, hidx]; simp only [Int.toNat_natCast]; omega)
  · exact hz k

theorem in_row {n i : Nat} (h : i < n) : (decide ((0 : Int) ≤ (i : Int)) && decide ((i : Int) < (n : Int))) = true := by simp; exact h
theorem getD_get {l : List Int} {i : Nat} (h : i < l.length) : l[i]? = some (l.getD i 0) := by
  rw [List.getD_eq_getElem?_getD, List.getElem?_eq_getElem h]; rfl
theorem isub_nat {i c : Nat} (h : i ≤ maxLen) (hc : c ≤ i) : isub .i64 (i : Int) (c : Int) = ((i - c : Nat) : Int) := by
  rw [maxLen_is] at h
  rw [isub, wrap_i64 (by omega) (by omega)]; omega
theorem iadd_one {i : Nat} (h : i < maxLen) : iadd .i64 (i : Int) 1 = ((i + 1 : Nat) : Int) := iadd_nat i h
theorem lt_lit {i n : Nat} (h : i < n) : decide ((i : Int) < (n : Int)) = true := decide_eq_true (by omega)

/-! ### The schedule -/

theorem sched_len (b : List UInt8) : ∀ i, (sched b i).length = i
  | 0 => rfl
  | i + 1 => by rw [sched, List.length_append, sched_len b i]; rfl
theorem schedNext_w (b : List UInt8) (w : List Int) (i : Nat) : W32 (schedNext b w i) := by
  unfold schedNext
  split
  · unfold getN
    cases decide ((4 : Int) < 1) || (decide ((4 : Int) > 6) || (decide (((4 * i : Nat) : Int) < 0) || decide (((4 * i : Nat) : Int) > (b.length : Int) - 4)))
    · simp only [cond_false]
      have h4 : ((b.drop ((4 * i : Nat) : Int).toNat).take (4 : Int).toNat).length ≤ 4 := by rw [List.length_take]; exact Nat.min_le_left _ _
      have := getVal_w _ h4
      have hp : (256 : Int) ^ ((b.drop ((4 * i : Nat) : Int).toNat).take (4 : Int).toNat).length ≤ 4294967296 := by
        generalize ((b.drop ((4 * i : Nat) : Int).toNat).take (4 : Int).toNat).length = q at h4
        have : q = 0 ∨ q = 1 ∨ q = 2 ∨ q = 3 ∨ q = 4 := by omega
        rcases this with rfl | rfl | rfl | rfl | rfl <;> decide
      exact ⟨this.1, by omega⟩
    · show W32 0
      exact ⟨by decide, by decide⟩
  · exact m32_w _
theorem sched_w (b : List UInt8) : ∀ (i j : Nat), W32 ((sched b i).getD j 0)
  | 0, j => by rw [show (sched b 0) = [] from rfl]; simp; exact ⟨by decide, by decide⟩
  | i + 1, j => by
    rw [sched, List.getD_eq_getElem?_getD, List.getElem?_append]
    split
    · have := sched_w b i j
      rwa [List.getD_eq_getElem?_getD] at this
    · cases hj : j - (sched b i).length with
      | zero => exact schedNext_w b _ i
      | succ m => simp; exact ⟨by decide, by decide⟩

theorem mul4 {i : Nat} (h : i < 16) : imul .i64 4 (i : Int) = ((4 * i : Nat) : Int) := by
  rw [show imul .i64 4 (i : Int) = IntKind.wrap .i64 (4 * (i : Int)) from rfl, wrap_i64 (by omega) (by omega)]; omega
theorem rotO_lit {β : Type} {x n : Int} {f : Int → Option β} (h : 1 ≤ n ∧ n ≤ 31) : Option.bind (rotO x n) f = f (rot x n) := pt_bind h

theorem spec_Schedule_raw (b : List UInt8) (h : wt b ≤ LIM) : spec_Schedule.raw b = some (schedule b) := by
  simp only [spec_Schedule.raw, joinK, schedule]
  by_cases hl : b.length = 64
  case neg =>
    rw [show ((b.length : Int) != 64) = true from bne_iff_ne.2 (by omega), if_neg hl]; rfl
  rw [show ((b.length : Int) != 64) = false by simp [hl], if_pos hl, cond_false]
  have hL := LIM_is
  refine (loop_emb (X := List Int × Int) (fun x => x.2) (fun i => (sched b i, (i : Int))) (fun _ => rfl) 16 (by decide) (some (sched b 64)) 0 (by decide) (fun i k _ hi => ?_) (fun k => ?_))
  · simp only [lt_lit (show i < 16 from hi), show ((16 : Nat) : Int) = 16 from rfl, decide_eq_true (p := (i : Int) < 16) (by omega), cond_true, mul4 hi, getNO, pt_bind h, iadd_one (i := i) (by rw [maxLen_is]; omega)]
    rw [app_room (by rw [sched_len]; simp; omega), cond_true, sched, schedNext, if_pos hi]
  · simp only [show ((16 : Nat) : Int) = 16 from rfl, show decide ((16 : Int) < 16) = false from rfl, cond_false]
    refine (loop_emb (X := List Int × Int) (fun x => x.2) (fun i => (sched b i, (i : Int))) (fun _ => rfl) 64 (by decide) (some (sched b 64)) 16 (by decide) (fun i k h16 hi => ?_) (fun k => ?_))
    · have hm : i ≤ maxLen := by rw [maxLen_is]; omega
      have e15 : isub .i64 (i : Int) 15 = ((i - 15 : Nat) : Int) := isub_nat (c := 15) hm (by omega)
      have e2 : isub .i64 (i : Int) 2 = ((i - 2 : Nat) : Int) := isub_nat (c := 2) hm (by omega)
      have e7 : isub .i64 (i : Int) 7 = ((i - 7 : Nat) : Int) := isub_nat (c := 7) hm (by omega)
      have e16 : isub .i64 (i : Int) 16 = ((i - 16 : Nat) : Int) := isub_nat (c := 16) hm (by omega)
      have hs := sched_len b i
      simp only [decide_eq_true (p := (i : Int) < 64) (by omega), cond_true, e15, e2, e7, e16, in_row (show i - 15 < (sched b i).length by omega), in_row (show i - 2 < (sched b i).length by omega), in_row (show i - 7 < (sched b i).length by omega), in_row (show i - 16 < (sched b i).length by omega), Int.toNat_natCast,
        getD_get (show i - 15 < (sched b i).length by omega), getD_get (show i - 2 < (sched b i).length by omega), getD_get (show i - 7 < (sched b i).length by omega), getD_get (show i - 16 < (sched b i).length by omega), bind_some', rotO_lit (show (1 : Int) ≤ 7 ∧ (7 : Int) ≤ 31 by decide), rotO_lit (show (1 : Int) ≤ 18 ∧ (18 : Int) ≤ 31 by decide), rotO_lit (show (1 : Int) ≤ 17 ∧ (17 : Int) ≤ 31 by decide), rotO_lit (show (1 : Int) ≤ 19 ∧ (19 : Int) ≤ 31 by decide), iadd_one (i := i) (by rw [maxLen_is]; omega)]
      rw [app_room (by rw [sched_len]; simp; omega), cond_true, sched, schedNext, if_neg (by omega)]; rfl
    · simp only [show ((64 : Nat) : Int) = 64 from rfl, show decide ((64 : Int) < 64) = false from rfl, cond_false]
theorem spec_Schedule.ok {x : TyTup [.sl .byte]} (_ : bdTup [.sl .byte] x) {r : List Int} : scheduleO x = some r → spec_Schedule.raw x = some r := pt_ok fun h => spec_Schedule_raw x h

/-- The schedule, under way in a list of 64. -/
def schedRow (b : List UInt8) (i : Nat) : List Int := sched b i ++ List.replicate (64 - i) 0
theorem schedRow_set (b : List UInt8) {i : Nat} (hi : i < 64) (v : Int) (hv : v = schedNext b (sched b i) i) : List.set (schedRow b i) i v = schedRow b (i + 1) := by
  subst hv
  rw [schedRow, show 64 - i = (64 - (i + 1)) + 1 by omega, List.replicate_succ, set_at _ _ _ _ (sched_len b i), schedRow, sched, List.append_assoc]; rfl
theorem schedRow_get (b : List UInt8) {i j : Nat} (hj : j < i) : (schedRow b i)[j]? = some ((sched b i).getD j 0) := by
  rw [schedRow, List.getElem?_append_left (by rw [sched_len]; exact hj), getD_get (by rw [sched_len]; exact hj)]
theorem schedRow_len (b : List UInt8) {i : Nat} (h : i ≤ 64) : (schedRow b i).length = 64 := by
  rw [schedRow, List.length_append, sched_len, List.length_replicate]; omega
theorem schedRow_some (b : List UInt8) {i j : Nat} (hi : i ≤ 64) (hj : j < 64) : ∃ v, (schedRow b i)[j]? = some v := ⟨_, List.getElem?_eq_getElem (by rw [schedRow_len b hi]; exact hj)⟩
theorem impl_Schedule_raw (b : List UInt8) (h : wt b ≤ LIM) : impl_Schedule.raw b = some (schedule b) := by
  simp only [impl_Schedule.raw, joinK, schedule]
  by_cases hl : b.length = 64
  case neg =>
    rw [show ((b.length : Int) != 64) = true from bne_iff_ne.2 (by omega), if_neg hl]; rfl
  rw [show ((b.length : Int) != 64) = false by simp [hl], if_pos hl, cond_false]
  have hend : schedRow b 64 = sched b 64 := by simp [schedRow]
  refine (loop_emb (X := Int × List Int) (fun x => x.1) (fun i => ((i : Int), schedRow b i)) (fun _ => rfl) 16 (by decide) (some (sched b 64)) 0 (by decide) (fun i k _ hi => ?_) (fun k => ?_))
  · have hlen := schedRow_len b (i := i) (by omega)
    obtain ⟨v, hv⟩ := schedRow_some b (i := i) (j := i) (by omega) (by omega)
    simp only [decide_eq_true (p := (i : Int) < 16) (by omega), cond_true, mul4 hi, getNO, pt_bind h, in_row (show i < (schedRow b i).length by omega), Int.toNat_natCast, hv, bind_some', iadd_one (i := i) (by rw [maxLen_is]; omega)]
    rw [schedRow_set b (by omega) _ (by rw [schedNext, if_pos hi])]
  · simp only [show ((16 : Nat) : Int) = 16 from rfl, show decide ((16 : Int) < 16) = false from rfl, cond_false]
    refine (loop_emb (X := Int × List Int) (fun x => x.1) (fun i => ((i : Int), schedRow b i)) (fun _ => rfl) 64 (by decide) (some (sched b 64)) 16 (by decide) (fun i k h16 hi => ?_) (fun k => ?_))
    · have hm : i ≤ maxLen := by rw [maxLen_is]; omega
      have hlen := schedRow_len b (i := i) (by omega)
      obtain ⟨v, hv⟩ := schedRow_some b (i := i) (j := i) (by omega) (by omega)
      have e15 : isub .i64 (i : Int) 15 = ((i - 15 : Nat) : Int) := isub_nat (c := 15) hm (by omega)
      have e2 : isub .i64 (i : Int) 2 = ((i - 2 : Nat) : Int) := isub_nat (c := 2) hm (by omega)
      have e7 : isub .i64 (i : Int) 7 = ((i - 7 : Nat) : Int) := isub_nat (c := 7) hm (by omega)
      have e16 : isub .i64 (i : Int) 16 = ((i - 16 : Nat) : Int) := isub_nat (c := 16) hm (by omega)
      simp only [decide_eq_true (p := (i : Int) < 64) (by omega), cond_true, e15, e2, e7, e16, in_row (show i - 15 < (schedRow b i).length by omega), in_row (show i - 2 < (schedRow b i).length by omega), in_row (show i - 7 < (schedRow b i).length by omega), in_row (show i - 16 < (schedRow b i).length by omega), in_row (show i < (schedRow b i).length by omega), Int.toNat_natCast,
        schedRow_get b (show i - 15 < i by omega), schedRow_get b (show i - 2 < i by omega), schedRow_get b (show i - 7 < i by omega), schedRow_get b (show i - 16 < i by omega), hv, bind_some', rotO_lit (show (1 : Int) ≤ 7 ∧ (7 : Int) ≤ 31 by decide), rotO_lit (show (1 : Int) ≤ 18 ∧ (18 : Int) ≤ 31 by decide), rotO_lit (show (1 : Int) ≤ 17 ∧ (17 : Int) ≤ 31 by decide), rotO_lit (show (1 : Int) ≤ 19 ∧ (19 : Int) ≤ 31 by decide), iadd_one (i := i) (by rw [maxLen_is]; omega)]
      rw [schedRow_set b hi _ (by rw [schedNext, if_neg (by omega)]; rfl)]
    · simp only [show ((64 : Nat) : Int) = 64 from rfl, show decide ((64 : Int) < 64) = false from rfl, cond_false, hend]
theorem impl_Schedule.ok {x : TyTup [.sl .byte]} (_ : bdTup [.sl .byte] x) {r : List Int} : scheduleO x = some r → impl_Schedule.raw x = some r := pt_ok fun h => impl_Schedule_raw x h
theorem schedule_w (b : List UInt8) (j : Nat) : W32 ((schedule b).getD j 0) := by
  unfold schedule
  split
  · exact sched_w b 64 j
  · simp; exact ⟨by decide, by decide⟩

end Go.D

/-
  The hash's compression and its blocks: each function computes what is said of it.
-/
namespace Go.D

theorem kTab_len : kTab.length = 64 := by decide
theorem kTab_w : ∀ m : Fin 64, decide (0 ≤ kTab.getD m.val 0) && decide (kTab.getD m.val 0 ≤ 4294967295) = true := by decide +kernel
theorem k_w {i : Nat} (h : i < 64) : W32 (kTab.getD i 0) := by
  have := kTab_w ⟨i, h⟩
  simp only [Bool.and_eq_true, decide_eq_true_eq] at this
  exact this
theorem roundWord_nat {i : Nat} (h : i < 64) : roundWord (i : Int) = kTab.getD i 0 := by
  rw [roundWord, if_pos (by omega), Int.toNat_natCast]

def W8 (s : S8) : Prop := W32 s.1 ∧ W32 s.2.1 ∧ W32 s.2.2.1 ∧ W32 s.2.2.2.1 ∧ W32 s.2.2.2.2.1 ∧ W32 s.2.2.2.2.2.1 ∧ W32 s.2.2.2.2.2.2.1 ∧ W32 s.2.2.2.2.2.2.2
theorem rStep_w (k w : Int) {s : S8} (h : W8 s) : W8 (rStep k w s) := ⟨m32_w _, h.1, h.2.1, h.2.2.1, m32_w _, h.2.2.2.2.1, h.2.2.2.2.2.1, h.2.2.2.2.2.2.1⟩
theorem rounds_w (w : List Int) {s : S8} (h : W8 s) : ∀ i, W8 (rounds w s i)
  | 0 => h
  | i + 1 => rStep_w _ _ (rounds_w w h i)
theorem iadd_w {a b : Int} {m n : Int} (ha : 0 ≤ a ∧ a ≤ m) (hb : 0 ≤ b ∧ b ≤ n) (h : m + n ≤ 9223372036854775807) : 0 ≤ iadd .i64 a b ∧ iadd .i64 a b ≤ m + n := by
  rw [iadd, wrap_i64 (by omega) (by omega)]; omega
theorem ones_w : W32 4294967295 := ⟨by decide, by decide⟩
theorem rT_w {k w : Int} {s : S8} (hk : W32 k) (hw : W32 w) (h : W8 s) : 0 ≤ rT k w s ∧ rT k w s ≤ 21474836475 := by
  obtain ⟨_, _, _, _, h5, h6, h7, h8⟩ := h
  have a1 := ixor_w (ixor_w (rot_w s.2.2.2.2.1 6) (rot_w s.2.2.2.2.1 11)) (rot_w s.2.2.2.2.1 25)
  have a2 := ixor_w (iand_w h5 h6) (iand_w (ixor_w h5 ones_w) h7)
  have b1 := iadd_w h8 a1 (by decide)
  have b2 := iadd_w b1 a2 (by decide)
  have b3 := iadd_w b2 hk (by decide)
  exact iadd_w b3 hw (by decide)
theorem rU_w {s : S8} (h : W8 s) : 0 ≤ rU s ∧ rU s ≤ 8589934590 := by
  obtain ⟨h1, h2, h3, _⟩ := h
  exact iadd_w (ixor_w (ixor_w (rot_w s.1 2) (rot_w s.1 13)) (rot_w s.1 22)) (ixor_w (ixor_w (iand_w h1 h2) (iand_w h1 h3)) (iand_w h2 h3)) (by decide)
theorem m32_add {a b : Int} (ha : 0 ≤ a ∧ a ≤ 1099511627776) (hb : 0 ≤ b ∧ b ≤ 1099511627776) : m32 (iadd .i64 a b) = m32 (iadd .i64 (m32 a) (m32 b)) := by
  have h1 := m32_le a
  have h2 := m32_le b
  rw [iadd, iadd, wrap_i64 (by omega) (by omega), wrap_i64 (by omega) (by omega), m32_mod (by omega) (by omega), m32_mod (a := m32 a + m32 b) (by omega) (by omega), m32_mod ha.1 (by omega), m32_mod hb.1 (by omega)]
  omega
theorem m32_id {a : Int} (h : W32 a) : m32 a = a := by
  rw [m32_mod h.1 (Int.le_trans h.2 (by decide))]
  have := h.1; have := h.2; omega

theorem words_parts {h : List Int} (hw : areWords h 8 = true) : h.length = 8 ∧ ∀ j, W32 (h.getD j 0) := by
  simp only [areWords, Bool.and_eq_true, beq_iff_eq, List.all_eq_true] at hw
  refine ⟨by omega, fun j => ?_⟩
  by_cases hj : j < h.length
  · rw [List.getD_eq_getElem?_getD, List.getElem?_eq_getElem hj]
    exact inR_iff.1 (hw.1 _ (List.getElem_mem hj))
  · rw [List.getD_eq_getElem?_getD, List.getElem?_eq_none (by omega)]
    exact ⟨by decide, by decide⟩
theorem at8_w {h : List Int} (hw : areWords h 8 = true) : W8 (at8 h) := by
  have := (words_parts hw).2
  exact ⟨this 0, this 1, this 2, this 3, this 4, this 5, this 6, this 7⟩
theorem zip_len (h : List Int) (s : S8) (hl : h.length = 8) : (List.zipWith add32 h (list8 s)).length = 8 := by
  rw [List.length_zipWith, hl]; rfl
theorem comp_words {h : List Int} (b : List UInt8) (hw : areWords h 8 = true) : areWords (comp h b) 8 = true := by
  have hl := (words_parts hw).1
  simp only [areWords, Bool.and_eq_true, beq_iff_eq, List.all_eq_true]
  refine ⟨fun x hx => ?_, ?_⟩
  · obtain ⟨i, hi, rfl⟩ := List.getElem_of_mem hx
    have hi2 : i < (List.zipWith add32 h (list8 (rounds (schedule b) (at8 h) 64))).length := hi
    show inR ((List.zipWith add32 h (list8 (rounds (schedule b) (at8 h) 64)))[i]'hi2) 0 4294967295 = true
    rw [List.getElem_zipWith]
    exact inR_iff.2 (m32_le _)
  · have := zip_len h (rounds (schedule b) (at8 h) 64) hl
    show ((List.zipWith add32 h (list8 (rounds (schedule b) (at8 h) 64))).length : Int) = 8
    omega
theorem compress_words {h : List Int} (b : List UInt8) (hw : areWords h 8 = true) : areWords (compress h b) 8 = true := by
  unfold compress
  cases areWords h 8 && b.length == 64
  · exact hw
  · exact comp_words b hw

theorem schedule_len {b : List UInt8} (h : b.length = 64) : (schedule b).length = 64 := by
  rw [schedule, if_pos h, sched_len]
def outRow (h : List Int) (z : List Int) (i : Nat) : List Int := z.take i ++ h.drop i
theorem outRow_set {h z : List Int} (hl : h.length = z.length) {i : Nat} (hi : i < z.length) (v : Int) (hv : v = z[i]) : List.set (outRow h z i) i v = outRow h z (i + 1) := by
  subst hv
  have hi2 : i < h.length := by omega
  rw [outRow, drop_next h hi2, set_at _ _ _ _ (by rw [List.length_take]; omega), outRow, take_next z hi, List.append_assoc]; rfl
theorem outRow_len {h z : List Int} (hl : h.length = z.length) {i : Nat} (hi : i ≤ z.length) : (outRow h z i).length = z.length := by
  rw [outRow, List.length_append, List.length_take, List.length_drop]; omega
theorem idx_getD {l : List Int} {i : Nat} (h : i < l.length) : idxI l (i : Int) = some (l.getD i 0) := by rw [idxI_nat, getD_get h]
theorem zip_get (h : List Int) (s : S8) (hl : h.length = 8) {i : Nat} (hi : i < (List.zipWith add32 h (list8 s)).length) : (List.zipWith add32 h (list8 s))[i] = add32 (h.getD i 0) ((list8 s).getD i 0) := by
  have h8 := zip_len h s hl
  rw [List.getElem_zipWith, List.getD_eq_getElem?_getD, List.getD_eq_getElem?_getD, List.getElem?_eq_getElem (by omega), List.getElem?_eq_getElem (by show i < 8; omega)]; rfl

theorem comp_len {h : List Int} (b : List UInt8) (h8 : h.length = 8) : (comp h b).length = 8 := zip_len h _ h8
theorem comp_set {h : List Int} (b : List UInt8) (h8 : h.length = 8) {i : Nat} (hi : i < 8) : List.set (outRow h (comp h b) i) i (add32 (h.getD i 0) ((list8 (rounds (schedule b) (at8 h) 64)).getD i 0)) = outRow h (comp h b) (i + 1) :=
  outRow_set (by rw [comp_len b h8, h8]) (by rw [comp_len b h8]; exact hi) _ (zip_get h _ h8 (by rw [zip_len h _ h8]; exact hi)).symm

theorem spec_Compress_raw (h : List Int) (b : List UInt8) (hh : wt h ≤ LIM ∧ wt b ≤ LIM) : spec_Compress.raw h b = some (compress h b) := by
  have hlen : h.length ≤ LIM := by rw [← wt_ints]; exact hh.1
  simp only [spec_Compress.raw, joinK, List.nil_append, compress, words8, scheduleO, pt_bind hh.2]
  rw [show decide (([] : List Int).length + h.length ≤ LIM) = true from decide_eq_true (by simpa using hlen)]
  simp only [cond_true]
  cases hw : areWords h 8
  · rfl
  by_cases hb : b.length = 64
  case neg =>
    rw [show ((b.length : Int) != 64) = true from bne_iff_ne.2 (by omega), beq_false_of_ne hb]; rfl
  rw [show ((b.length : Int) != 64) = false by simp [hb], show (b.length == 64) = true by simp [hb]]
  obtain ⟨h8, hW⟩ := words_parts hw
  have i0 : idxI h 0 = some (h.getD 0 0) := idx_getD (i := 0) (by omega)
  have i1 : idxI h 1 = some (h.getD 1 0) := idx_getD (i := 1) (by omega)
  have i2 : idxI h 2 = some (h.getD 2 0) := idx_getD (i := 2) (by omega)
  have i3 : idxI h 3 = some (h.getD 3 0) := idx_getD (i := 3) (by omega)
  have i4 : idxI h 4 = some (h.getD 4 0) := idx_getD (i := 4) (by omega)
  have i5 : idxI h 5 = some (h.getD 5 0) := idx_getD (i := 5) (by omega)
  have i6 : idxI h 6 = some (h.getD 6 0) := idx_getD (i := 6) (by omega)
  have i7 : idxI h 7 = some (h.getD 7 0) := idx_getD (i := 7) (by omega)
  simp only [Bool.not_true, cond_false, Bool.and_true, cond_true, i0, i1, i2, i3, i4, i5, i6, i7, bind_some']
  have hsl := schedule_len hb
  refine loop_emb (fun x => x.2.2.2.2.2.2.2.2) (fun i => ((rounds (schedule b) (at8 h) i).1, (rounds (schedule b) (at8 h) i).2.1, (rounds (schedule b) (at8 h) i).2.2.1, (rounds (schedule b) (at8 h) i).2.2.2.1, (rounds (schedule b) (at8 h) i).2.2.2.2.1, (rounds (schedule b) (at8 h) i).2.2.2.2.2.1, (rounds (schedule b) (at8 h) i).2.2.2.2.2.2.1, (rounds (schedule b) (at8 h) i).2.2.2.2.2.2.2, (i : Int))) (fun _ => rfl) 64 (by decide) (some (comp h b)) 0 (by decide) (fun i k _ hi => ?_) (fun k => ?_)
  · simp only [decide_eq_true (p := (i : Int) < 64) (by omega), cond_true, Int.toNat_natCast, in_row (show i < kTab.length by rw [kTab_len]; exact hi), in_row (show i < (schedule b).length by omega), getD_get (show i < kTab.length by rw [kTab_len]; exact hi), getD_get (show i < (schedule b).length by omega), bind_some',
      rotO_lit (show (1 : Int) ≤ 6 ∧ (6 : Int) ≤ 31 by decide), rotO_lit (show (1 : Int) ≤ 11 ∧ (11 : Int) ≤ 31 by decide), rotO_lit (show (1 : Int) ≤ 25 ∧ (25 : Int) ≤ 31 by decide), rotO_lit (show (1 : Int) ≤ 2 ∧ (2 : Int) ≤ 31 by decide), rotO_lit (show (1 : Int) ≤ 13 ∧ (13 : Int) ≤ 31 by decide), rotO_lit (show (1 : Int) ≤ 22 ∧ (22 : Int) ≤ 31 by decide), iadd_one (i := i) (by rw [maxLen_is]; omega)]
    rfl
  · simp only [show ((64 : Nat) : Int) = 64 from rfl, show decide ((64 : Int) < 64) = false from rfl, cond_false]
    have hz8 := comp_len b h8
    refine loop_emb (X := Int × List Int) (fun x => x.1) (fun i => ((i : Int), outRow h (comp h b) i)) (fun _ => rfl) 8 (by decide) (some (comp h b)) 0 (by decide) (fun i k _ hi => ?_) (fun k => ?_)
    · have hol : (outRow h (comp h b) i).length = 8 := by rw [outRow_len (by rw [hz8, h8]) (by rw [hz8]; omega), hz8]
      have hi8 : i < (list8 (rounds (schedule b) (at8 h) 64)).length := hi
      have ho : (outRow h (comp h b) i)[i]? = some ((outRow h (comp h b) i).getD i 0) := getD_get (by omega)
      simp only [decide_eq_true (p := (i : Int) < 8) (by omega), cond_true, idx_getD (show i < h.length by omega), bind_some', in_row (show i < (outRow h (comp h b) i).length by omega), ho, Int.toNat_natCast, iadd_one (i := i) (by rw [maxLen_is]; omega)]
      have e1 := in_row hi8
      have e2 := getD_get hi8
      unfold list8 at e1 e2
      rw [e1, cond_true, e2, bind_some']
      exact congrArg (fun l => k (((i + 1 : Nat) : Int), l)) (comp_set b h8 hi)
    · simp only [show ((8 : Nat) : Int) = 8 from rfl, show decide ((8 : Int) < 8) = false from rfl, cond_false]
      rw [outRow, List.take_of_length_le (by rw [hz8]; exact Nat.le_refl _), List.drop_eq_nil_of_le (by omega), List.append_nil]
theorem spec_Compress.ok {x : TyTup [.sl .int, .sl .byte]} (_ : bdTup [.sl .int, .sl .byte] x) {r : List Int} : compressO x.1 x.2 = some r → spec_Compress.raw x.1 x.2 = some r := pt_ok fun h => spec_Compress_raw x.1 x.2 h

theorem impl_step {k w : Int} {s : S8} (hk : W32 k) (hw : W32 w) (h : W8 s) : rStep k w s = (add32 (rT k w s) (rU s), s.1, s.2.1, s.2.2.1, add32 s.2.2.2.1 (rT k w s), s.2.2.2.2.1, s.2.2.2.2.2.1, s.2.2.2.2.2.2.1) := by
  have ht := rT_w hk hw h
  have hu := rU_w h
  have hd := h.2.2.2.1
  rw [rStep, add32, add32, m32_add (a := rT k w s) (b := rU s) ⟨ht.1, by omega⟩ ⟨hu.1, by omega⟩, m32_add (a := s.2.2.2.1) (b := rT k w s) ⟨hd.1, Int.le_trans hd.2 (by decide)⟩ ⟨ht.1, by omega⟩, m32_id hd]
theorem impl_Compress_raw (h : List Int) (b : List UInt8) (hh : wt h ≤ LIM ∧ wt b ≤ LIM) : impl_Compress.raw h b = some (compress h b) := by
  have hlen : h.length ≤ LIM := by rw [← wt_ints]; exact hh.1
  simp only [impl_Compress.raw, joinK, List.nil_append, compress, scheduleO, pt_bind hh.2]
  rw [show decide (([] : List Int).length + h.length ≤ LIM) = true from decide_eq_true (by simpa using hlen)]
  simp only [cond_true]
  cases hw : areWords h 8
  · rfl
  by_cases hb : b.length = 64
  case neg =>
    rw [show ((b.length : Int) != 64) = true from bne_iff_ne.2 (by omega), beq_false_of_ne hb]; rfl
  rw [show ((b.length : Int) != 64) = false by simp [hb], show (b.length == 64) = true by simp [hb]]
  obtain ⟨h8, hW⟩ := words_parts hw
  have i0 : idxI h 0 = some (h.getD 0 0) := idx_getD (i := 0) (by omega)
  have i1 : idxI h 1 = some (h.getD 1 0) := idx_getD (i := 1) (by omega)
  have i2 : idxI h 2 = some (h.getD 2 0) := idx_getD (i := 2) (by omega)
  have i3 : idxI h 3 = some (h.getD 3 0) := idx_getD (i := 3) (by omega)
  have i4 : idxI h 4 = some (h.getD 4 0) := idx_getD (i := 4) (by omega)
  have i5 : idxI h 5 = some (h.getD 5 0) := idx_getD (i := 5) (by omega)
  have i6 : idxI h 6 = some (h.getD 6 0) := idx_getD (i := 6) (by omega)
  have i7 : idxI h 7 = some (h.getD 7 0) := idx_getD (i := 7) (by omega)
  simp only [Bool.not_true, cond_false, Bool.and_true, cond_true, i0, i1, i2, i3, i4, i5, i6, i7, bind_some']
  have hsl := schedule_len hb
  refine loop_emb (fun x => x.2.2.2.2.2.2.2.2) (fun i => ((rounds (schedule b) (at8 h) i).1, (rounds (schedule b) (at8 h) i).2.1, (rounds (schedule b) (at8 h) i).2.2.1, (rounds (schedule b) (at8 h) i).2.2.2.1, (rounds (schedule b) (at8 h) i).2.2.2.2.1, (rounds (schedule b) (at8 h) i).2.2.2.2.2.1, (rounds (schedule b) (at8 h) i).2.2.2.2.2.2.1, (rounds (schedule b) (at8 h) i).2.2.2.2.2.2.2, (i : Int))) (fun _ => rfl) 64 (by decide) (some (comp h b)) 0 (by decide) (fun i k _ hi => ?_) (fun k => ?_)
  · have hs := impl_step (k_w hi) (schedule_w b i) (rounds_w (schedule b) (at8_w hw) i)
    simp only [decide_eq_true (p := (i : Int) < 64) (by omega), cond_true, Int.toNat_natCast, in_row (show i < (schedule b).length by omega), getD_get (show i < (schedule b).length by omega), bind_some', roundWord_nat hi, ixor_comm 4294967295,
      rotO_lit (show (1 : Int) ≤ 6 ∧ (6 : Int) ≤ 31 by decide), rotO_lit (show (1 : Int) ≤ 11 ∧ (11 : Int) ≤ 31 by decide), rotO_lit (show (1 : Int) ≤ 25 ∧ (25 : Int) ≤ 31 by decide), rotO_lit (show (1 : Int) ≤ 2 ∧ (2 : Int) ≤ 31 by decide), rotO_lit (show (1 : Int) ≤ 13 ∧ (13 : Int) ≤ 31 by decide), rotO_lit (show (1 : Int) ≤ 22 ∧ (22 : Int) ≤ 31 by decide), iadd_one (i := i) (by rw [maxLen_is]; omega)]
    rw [rounds, hs]; rfl
  · simp only [show ((64 : Nat) : Int) = 64 from rfl, show decide ((64 : Int) < 64) = false from rfl, cond_false]
    have hz8 := comp_len b h8
    refine loop_emb (X := Int × List Int) (fun x => x.1) (fun i => ((i : Int), outRow h (comp h b) i)) (fun _ => rfl) 8 (by decide) (some (comp h b)) 0 (by decide) (fun i k _ hi => ?_) (fun k => ?_)
    · have hol : (outRow h (comp h b) i).length = 8 := by rw [outRow_len (by rw [hz8, h8]) (by rw [hz8]; omega), hz8]
      have hi8 : i < (list8 (rounds (schedule b) (at8 h) 64)).length := hi
      have ho : (outRow h (comp h b) i)[i]? = some ((outRow h (comp h b) i).getD i 0) := getD_get (by omega)
      simp only [cond_true, idx_getD (show i < h.length by omega), bind_some', in_row (show i < (outRow h (comp h b) i).length by omega), ho, Int.toNat_natCast, iadd_one (i := i) (by rw [maxLen_is]; omega)]
      have e0 := lt_len hi8
      have e1 := in_row hi8
      have e2 := getD_get hi8
      unfold list8 at e0 e1 e2
      rw [e0, cond_true, show decide ((0 : Int) ≤ (i : Int)) = true from decide_eq_true (by omega), Bool.and_true, cond_true, e2, bind_some']
      exact congrArg (fun l => k (((i + 1 : Nat) : Int), l)) (comp_set b h8 hi)
    · simp only [List.length_cons, List.length_nil]
      rw [show decide (((8 : Nat) : Int) < ((0 + 1 + 1 + 1 + 1 + 1 + 1 + 1 + 1 : Nat) : Int)) = false from rfl, cond_false]
      rw [outRow, List.take_of_length_le (by rw [hz8]; exact Nat.le_refl _), List.drop_eq_nil_of_le (by omega), List.append_nil]
theorem impl_Compress.ok {x : TyTup [.sl .int, .sl .byte]} (_ : bdTup [.sl .int, .sl .byte] x) {r : List Int} : compressO x.1 x.2 = some r → impl_Compress.raw x.1 x.2 = some r := pt_ok fun h => impl_Compress_raw x.1 x.2 h

end Go.D

/-
  The hash as a whole: each function computes what is said of it.
-/
namespace Go.D

/-! ### Blocks -/

theorem blocks_words : ∀ (n : Nat) (h : List Int) (b : List UInt8), areWords h 8 = true → areWords (blocks h n b) 8 = true
  | 0, h, b, hw => hw
  | n + 1, h, b, hw => blocks_words n _ _ (compress_words _ hw)
theorem blocks_snoc : ∀ (n : Nat) (h : List Int) (b : List UInt8), blocks h (n + 1) b = compress (blocks h n b) ((b.drop (64 * n)).take 64)
  | 0, h, b => rfl
  | n + 1, h, b => by
    rw [blocks, blocks_snoc n, blocks, List.drop_drop]
    rw [show 64 + 64 * n = 64 * (n + 1) by omega]
theorem blocks_add : ∀ (m k : Nat) (h : List Int) (b : List UInt8), blocks h (m + k) b = blocks (blocks h m b) k (b.drop (64 * m))
  | 0, k, h, b => by simp [blocks]
  | m + 1, k, h, b => by
    rw [show m + 1 + k = (m + k) + 1 by omega, blocks, blocks_add m k, blocks, List.drop_drop, show 64 + 64 * m = 64 * (m + 1) by omega]
theorem blocks_app : ∀ (m : Nat) (h : List Int) (b p : List UInt8), 64 * m ≤ b.length → blocks h m (b ++ p) = blocks h m b
  | 0, h, b, p, _ => rfl
  | m + 1, h, b, p, hl => by
    rw [blocks, blocks, List.take_append_of_le_length (by omega), List.drop_append_of_le_length (by omega), blocks_app m _ _ _ (by rw [List.length_drop]; omega)]
theorem wt_w8 {h : List Int} (hw : areWords h 8 = true) : wt h ≤ LIM := by
  rw [wt_ints, (words_parts hw).1, LIM_is]; decide
theorem drop_rest (l : List UInt8) (h : 64 ≤ l.length) : List.take (((l.length : Int) - 64).toNat) (List.drop 64 l) = l.drop 64 := by
  rw [List.take_of_length_le]
  rw [List.length_drop]; omega
theorem div_le64 (n : Nat) : 64 * (n / 64) ≤ n := Nat.mul_div_le n 64
theorem impl_compressAll_raw (h : List Int) (b : List UInt8) (hb : wt b ≤ LIM) (hw : areWords h 8 = true) : impl_compressAll.raw h b = some (blocks h (b.length / 64) b, b.drop (64 * (b.length / 64))) := by
  have hl : b.length ≤ LIM := by rw [← wt_bytes]; exact hb
  simp only [impl_compressAll.raw, joinK]
  refine loop_FU (g := fun _ => some (blocks h (b.length / 64) b, b.drop (64 * (b.length / 64)))) (fun x => ∃ i : Nat, 64 * i ≤ b.length ∧ x = (blocks h i b, b.drop (64 * i))) (fun x => x.2.length) (fun x hx k hk => ?_) (x := (h, b)) ⟨0, Nat.zero_le _, by simp [blocks]⟩ (by show b.length < 2 ^ 64; rw [LIM_is] at hl; omega)
  obtain ⟨i, hi, rfl⟩ := hx
  have hdl : (b.drop (64 * i)).length = b.length - 64 * i := List.length_drop
  have hds := wt_drop b (64 * i)
  by_cases hge : 64 * (i + 1) ≤ b.length
  · have e1 : decide (((b.drop (64 * i)).length : Int) ≥ 64) = true := decide_eq_true (by omega)
    have e2 : (decide ((0 : Int) ≤ 0) && decide ((0 : Int) ≤ 64) && true) = true := rfl
    have e3 : (decide ((0 : Int) ≤ 64) && true && decide (((b.drop (64 * i)).length : Int) ≤ ((b.drop (64 * i)).length : Int))) = true := by simp
    have hst := hk (blocks h (i + 1) b, b.drop (64 * (i + 1))) ⟨i + 1, hge, rfl⟩ (by show (b.drop (64 * (i + 1))).length < (b.drop (64 * i)).length; rw [List.length_drop, List.length_drop]; omega)
    rw [blocks_snoc, show 64 * (i + 1) = 64 * i + 64 by omega, ← List.drop_drop] at hst
    simp only [e1, e2, e3, cond_true, List.drop_zero, compressO, pt_bind (p := wt (blocks h i b) ≤ LIM ∧ wt ((b.drop (64 * i)).take 64) ≤ LIM) ⟨wt_w8 (blocks_words i h b hw), Nat.le_trans (wt_take _ _) (Nat.le_trans hds hb)⟩, drop_rest _ (show 64 ≤ (b.drop (64 * i)).length by omega)]
    exact hst
  · have e1 : decide (((b.drop (64 * i)).length : Int) ≥ 64) = false := decide_eq_false (by omega)
    have : i = b.length / 64 := by omega
    simp only [e1, cond_false, ← this]
theorem impl_compressAll.ok {x : TyTup [.sl .int, .sl .byte]} (_ : bdTup [.sl .int, .sl .byte] x) {r : List Int × List UInt8} : allO x.1 x.2 = some r → impl_compressAll.raw x.1 x.2 = some r := pt_ok fun h => impl_compressAll_raw x.1 x.2 h.2.2 h.2.1

theorem bytesOf_len (n : Int) : ∀ i, (bytesOf n i).length = i
  | 0 => rfl
  | i + 1 => by rw [bytesOf, List.length_cons, bytesOf_len n i]
theorem putN4 (b : List UInt8) (n : Int) : putN b n 4 = b ++ bytesOf n 4 := rfl
theorem putN6 (b : List UInt8) (n : Int) : putN b n 6 = b ++ bytesOf n 6 := rfl
theorem wordBytes_take (h : List Int) {i : Nat} (hi : i < h.length) : wordBytes (h.take (i + 1)) = wordBytes (h.take i) ++ bytesOf (h.getD i 0) 4 := by
  rw [wordBytes, take_next h hi, List.flatMap_append]
  simp [wordBytes, List.getD_eq_getElem?_getD, hi]
theorem wordBytes_len : ∀ h : List Int, (wordBytes h).length = 4 * h.length
  | [] => rfl
  | x :: h => by
    rw [wordBytes, List.flatMap_cons, List.length_append, bytesOf_len, List.length_cons]
    have := wordBytes_len h
    rw [wordBytes] at this
    omega
theorem impl_wordBytes_raw (h : List Int) (h8 : h.length = 8) : impl_wordBytes.raw h = some (wordBytes h) := by
  have hL := LIM_is
  simp only [impl_wordBytes.raw, joinK]
  refine loop_emb (X := List UInt8 × Int) (fun x => x.2) (fun i => (wordBytes (h.take i), (i : Int))) (fun _ => rfl) h.length (by rw [h8]; decide) _ 0 (Nat.zero_le _) (fun i k _ hi => ?_) (fun k => by simp only [lt_end, cond_false, List.take_length])
  have hwl := wordBytes_len (h.take i)
  rw [List.length_take] at hwl
  simp only [lt_len hi, cond_true, idx_getD hi, bind_some', putNO, pt_bind (p := wt (wordBytes (h.take i)) + 6 ≤ LIM) (by rw [wt_bytes]; omega), putN4, iadd_one (i := i) (by rw [maxLen_is]; omega), wordBytes_take h hi]
theorem impl_wordBytes.ok {x : TyTup [.sl .int]} (_ : bdTup [.sl .int] x) {r : List UInt8} : wordBytesO x = some r → impl_wordBytes.raw x = some r := pt_ok fun h => impl_wordBytes_raw x h
theorem spec_l2Out_raw (h : List Int) (h8 : h.length = 8) : spec_l2Out.raw h = some (wordBytes h) := by
  have hL := LIM_is
  simp only [spec_l2Out.raw, joinK]
  refine loop_emb (X := List UInt8 × Int) (fun x => x.2) (fun i => (wordBytes (h.take i), (i : Int))) (fun _ => rfl) 8 (by decide) _ 0 (Nat.zero_le _) (fun i k _ hi => ?_) (fun k => ?_)
  · have hwl := wordBytes_len (h.take i)
    rw [List.length_take] at hwl
    simp only [decide_eq_true (p := (i : Int) < 8) (by omega), cond_true, idx_getD (show i < h.length by omega), bind_some', putNO, pt_bind (p := wt (wordBytes (h.take i)) + 6 ≤ LIM) (by rw [wt_bytes]; omega), putN4, iadd_one (i := i) (by rw [maxLen_is]; omega), wordBytes_take h (show i < h.length by omega)]
  · simp only [show ((8 : Nat) : Int) = 8 from rfl, show decide ((8 : Int) < 8) = false from rfl, cond_false]
    rw [List.take_of_length_le (by omega)]
theorem spec_l2Out.ok {x : TyTup [.sl .int]} (_ : bdTup [.sl .int] x) {r : List UInt8} : wordBytesO x = some r → spec_l2Out.raw x = some r := pt_ok fun h => spec_l2Out_raw x h

/-! ### The end of a message -/

theorem byte_zero : (UInt8.ofNat (0 : Int).toNat) = 0 := rfl
theorem pad_loop (n : Nat) (hn : n ≤ 1048576) (z : List UInt8 → Option (List UInt8)) : loopK FU (fun (x5 : (List UInt8)) k6 => cond ((irem .i64 (iadd .i64 (iadd .i64 (n : Int) (x5.length : Int)) 8) 64) != 0)
    (cond (decide (x5.length + [UInt8.ofNat (0 : Int).toNat].length ≤ LIM)) (k6 (x5 ++ [UInt8.ofNat (0 : Int).toNat])) none) (z x5)) [UInt8.ofNat (128 : Int).toNat] = z (128 :: List.replicate (padZ n) 0) := by
  have hz : padZ n < 64 := Nat.mod_lt _ (by decide)
  have hL := LIM_is
  refine loop_FU (g := fun _ => z (128 :: List.replicate (padZ n) 0)) (fun x => ∃ j : Nat, j ≤ padZ n ∧ x = 128 :: List.replicate j 0) (fun x => padZ n + 1 - x.length) (fun x hx k hk => ?_) ⟨0, Nat.zero_le _, rfl⟩ (by show padZ n + 1 - 1 < 2 ^ 64; omega)
  obtain ⟨j, hj, rfl⟩ := hx
  have e1 : iadd .i64 (iadd .i64 (n : Int) (((128 :: List.replicate j 0 : List UInt8).length : Nat) : Int)) 8 = ((n + (j + 1) + 8 : Nat) : Int) := by
    rw [List.length_cons, List.length_replicate]
    have a1 : iadd .i64 (n : Int) ((j + 1 : Nat) : Int) = ((n + (j + 1) : Nat) : Int) := by rw [iadd, wrap_i64 (by omega) (by omega)]; omega
    rw [a1, iadd, wrap_i64 (by omega) (by omega)]; omega
  have e2 : irem .i64 ((n + (j + 1) + 8 : Nat) : Int) 64 = (((n + (j + 1) + 8) % 64 : Nat) : Int) := irem_nat _ 64
  simp only [e1, e2]
  rcases Nat.lt_or_eq_of_le hj with hlt | rfl
  · have : (n + (j + 1) + 8) % 64 ≠ 0 := by unfold padZ at hlt; omega
    rw [show ((((n + (j + 1) + 8) % 64 : Nat) : Int) != 0) = true from bne_iff_ne.2 (by omega), cond_true, app_room (by simp; omega), cond_true]
    refine hk _ ⟨j + 1, hlt, ?_⟩ (by simp; omega)
    rw [byte_zero, List.cons_append, List.replicate_succ']
  · have : (n + (padZ n + 1) + 8) % 64 = 0 := by unfold padZ; omega
    rw [this]; rfl
theorem hi_zero (n : Nat) (hn : n ≤ 1048576) : bytesOf ((8 * n : Nat) : Int) 6 = [0, 0] ++ bytesOf ((8 * n : Nat) : Int) 4 := by
  have h5 : ishr .i64 ((8 * n : Nat) : Int) (imul .i64 8 ((5 : Nat) : Int)) = 0 := by
    show Int.fdiv ((8 * n : Nat) : Int) 1099511627776 = 0
    rw [Int.fdiv_eq_ediv_of_nonneg _ (by decide)]; omega
  have h4 : ishr .i64 ((8 * n : Nat) : Int) (imul .i64 8 ((4 : Nat) : Int)) = 0 := by
    show Int.fdiv ((8 * n : Nat) : Int) 4294967296 = 0
    rw [Int.fdiv_eq_ediv_of_nonneg _ (by decide)]; omega
  rw [bytesOf, bytesOf]
  rw [show byteAt ((8 * n : Nat) : Int) 5 = 0 by rw [byteAt, h5]; rfl, show byteAt ((8 * n : Nat) : Int) 4 = 0 by rw [byteAt, h4]; rfl]; rfl
theorem mul8 {n : Nat} (h : n ≤ 1048576) : imul .i64 8 (n : Int) = ((8 * n : Nat) : Int) := by
  rw [show imul .i64 8 (n : Int) = IntKind.wrap .i64 (8 * (n : Int)) from rfl, wrap_i64 (by omega) (by omega)]; omega
theorem pad_pre_len (n : Nat) : (128 :: List.replicate (padZ n) 0 : List UInt8).length = padZ n + 1 := by simp
theorem spec_Pad_raw (n : Nat) (hn : n ≤ 1048576) : spec_Pad.raw (n : Int) = some (pad n) := by
  have hz : padZ n < 64 := Nat.mod_lt _ (by decide)
  have hL := LIM_is
  simp only [spec_Pad.raw, joinK, decide_eq_false (p := (n : Int) < 0) (by omega), decide_eq_false (p := (n : Int) > 1048576) (by omega), cond_false]
  rw [pad_loop n hn]
  simp only [putNO, pt_bind (p := wt (128 :: List.replicate (padZ n) 0 : List UInt8) + 6 ≤ LIM) (by rw [wt_bytes, pad_pre_len]; omega), putN4, mul8 hn]
  rw [pt_bind (by rw [wt_bytes, List.length_append, pad_pre_len, bytesOf_len]; omega), pad, List.append_assoc]; rfl
theorem spec_Pad.ok {x : TyTup [.v .int]} (_ : bdTup [.v .int] x) {r : List UInt8} : padO x = some r → spec_Pad.raw x = some r := pt_ok fun h => by
  obtain ⟨n, hn⟩ := int_nat h.1
  have hn : x = (n : Int) := hn
  have h2 : (x : Int) ≤ 1048576 := h.2
  subst hn
  exact spec_Pad_raw n (by omega)
theorem impl_Pad_raw (n : Nat) (hn : n ≤ 1048576) : impl_Pad.raw (n : Int) = some (pad n) := by
  have hz : padZ n < 64 := Nat.mod_lt _ (by decide)
  have hL := LIM_is
  have hin : inR (n : Int) 0 1048576 = true := inR_iff.2 ⟨by omega, by omega⟩
  simp only [impl_Pad.raw, joinK, hin, Bool.not_true, cond_false]
  rw [pad_loop n hn (fun y1 => cond (decide (y1.length + [UInt8.ofNat (0 : Int).toNat, UInt8.ofNat (0 : Int).toNat].length ≤ LIM)) (Option.bind (putNO (y1 ++ [UInt8.ofNat (0 : Int).toNat, UInt8.ofNat (0 : Int).toNat]) (imul .i64 8 (n : Int)) 6) fun r7 => some r7) none)]
  rw [app_room (by rw [pad_pre_len]; simp; omega), cond_true, putNO, pt_bind (by rw [wt_bytes, List.length_append, pad_pre_len]; simp; omega), putN6, mul8 hn, hi_zero n hn, pad, List.append_assoc]; rfl
theorem impl_Pad.ok {x : TyTup [.v .int]} (_ : bdTup [.v .int] x) {r : List UInt8} : padO x = some r → impl_Pad.raw x = some r := pt_ok fun h => by
  obtain ⟨n, hn⟩ := int_nat h.1
  have hn : x = (n : Int) := hn
  have h2 : (x : Int) ≤ 1048576 := h.2
  subst hn
  exact impl_Pad_raw n (by omega)
theorem pad_len (n : Nat) : (pad n).length = padZ n + 9 := by
  rw [pad, List.length_append, pad_pre_len, List.length_append, bytesOf_len]; rfl
theorem pad_whole (n : Nat) : (n + (pad n).length) % 64 = 0 := by
  rw [pad_len]; unfold padZ; omega

/-! ### The hash -/

theorem impl_HashNew.ok {x : TyTup []} (_ : bdTup [] x) : impl_HashNew.raw = some hashNew := rfl
theorem hashOk_raw (h : G.Hash) : impl_HashOk.raw h = some (hashOk h) := by
  simp only [impl_HashOk.raw, joinK, cond_some, Bool.cond_false_right, hashOk, Bool.and_assoc]
theorem impl_HashOk.ok {x : TyTup [.v .Hash]} (_ : bdTup [.v .Hash] x) : impl_HashOk.raw x = some (hashOk x) := hashOk_raw x
theorem hash_parts {h : G.Hash} (hk : hashOk h = true) : areWords h.H 8 = true ∧ 0 ≤ h.N ∧ h.N ≤ 1048576 ∧ h.Held.length < 64 ∧ ∃ n : Nat, h.N = (n : Int) ∧ n % 64 = h.Held.length := by
  simp only [hashOk, Bool.and_eq_true, inR_iff, beq_iff_eq] at hk
  obtain ⟨⟨h1, h2⟩, h3⟩ := hk
  obtain ⟨n, hn⟩ := int_nat h2.1
  rw [hn, show irem .i64 (n : Int) 64 = ((n % 64 : Nat) : Int) from irem_nat n 64] at h3
  exact ⟨h1, h2.1, h2.2, by omega, n, hn, by omega⟩
theorem words_room {h : List Int} (hw : areWords h 8 = true) : decide (([] : List Int).length + h.length ≤ LIM) = true := by
  have := (words_parts hw).1
  rw [this]; decide
theorem two_flat (a b : List UInt8) : ([a, b] : List (List UInt8)).flatten = a ++ b := by simp
theorem two_wt (a b : List UInt8) : wt ([a, b] : List (List UInt8)) = a.length + b.length + 2 := by
  rw [wt_cons, wt_cons, wt_nil, wt_bytes, wt_bytes]; omega
theorem impl_HashAdd_raw (h : G.Hash) (b : List UInt8) (hk : hashOk h = true) (hb : (b.length : Int) ≤ 1048576 - h.N) :
    impl_HashAdd.raw h b = some ⟨blocks h.H ((h.Held ++ b).length / 64) (h.Held ++ b), (h.Held ++ b).drop (64 * ((h.Held ++ b).length / 64)), h.N + b.length⟩ := by
  obtain ⟨hw, n0, n1, hl, _⟩ := hash_parts hk
  have hL := LIM_is
  have hwb : wt (h.Held ++ b) ≤ LIM := by rw [wt_bytes, List.length_append]; omega
  have e1 : isub .i64 1048576 h.N = 1048576 - h.N := by rw [isub, wrap_i64 (by omega) (by omega)]
  have e2 : iadd .i64 h.N (b.length : Int) = h.N + b.length := by rw [iadd, wrap_i64 (by omega) (by omega)]
  simp only [impl_HashAdd.raw, joinK, hk, Bool.not_true, cond_false, e1, decide_eq_false (p := (b.length : Int) > 1048576 - h.N) (by omega), joinedO, pt_bind (p := wt ([h.Held, b] : List (List UInt8)) ≤ LIM) (by rw [two_wt]; omega), two_flat, allO,
    pt_bind (p := wt h.H ≤ LIM ∧ areWords h.H 8 = true ∧ wt (h.Held ++ b) ≤ LIM) ⟨wt_w8 hw, hw, hwb⟩, words_room (blocks_words ((h.Held ++ b).length / 64) h.H (h.Held ++ b) hw), cond_true, cloneO, pt_bind (p := wt ((h.Held ++ b).drop (64 * ((h.Held ++ b).length / 64))) ≤ LIM) (Nat.le_trans (wt_drop _ _) hwb), List.nil_append, e2]
theorem impl_HashAdd.ok {x : TyTup [.v .Hash, .sl .byte]} (_ : bdTup [.v .Hash, .sl .byte] x) {r : G.Hash} : hashAddO x.1 x.2 = some r → impl_HashAdd.raw x.1 x.2 = some r := pt_ok fun h => impl_HashAdd_raw x.1 x.2 h.1 h.2
theorem impl_HashEnd_raw (h : G.Hash) (hk : hashOk h = true) : impl_HashEnd.raw h = some (wordBytes (blocks h.H ((h.Held ++ pad h.N.toNat).length / 64) (h.Held ++ pad h.N.toNat))) := by
  obtain ⟨hw, n0, n1, hl, n, hn, _⟩ := hash_parts hk
  have hL := LIM_is
  have hp := pad_len h.N.toNat
  have hz : padZ h.N.toNat < 64 := Nat.mod_lt _ (by decide)
  have hwb : wt (h.Held ++ pad h.N.toNat) ≤ LIM := by rw [wt_bytes, List.length_append]; omega
  have hbw := blocks_words ((h.Held ++ pad h.N.toNat).length / 64) h.H (h.Held ++ pad h.N.toNat) hw
  simp only [impl_HashEnd.raw, hk, Bool.not_true, cond_false, padO, pt_bind (p := 0 ≤ h.N ∧ h.N ≤ 1048576) ⟨n0, n1⟩, joinedO, pt_bind (p := wt ([h.Held, pad h.N.toNat] : List (List UInt8)) ≤ LIM) (by rw [two_wt]; omega), two_flat, allO,
    pt_bind (p := wt h.H ≤ LIM ∧ areWords h.H 8 = true ∧ wt (h.Held ++ pad h.N.toNat) ≤ LIM) ⟨wt_w8 hw, hw, hwb⟩, wordBytesO, pt_bind (words_parts hbw).1]
theorem impl_HashEnd.ok {x : TyTup [.v .Hash]} (_ : bdTup [.v .Hash] x) {r : List UInt8} : hashEndO x = some r → impl_HashEnd.raw x = some r := pt_ok fun h => impl_HashEnd_raw x h
theorem start_words : areWords start 8 = true := by decide
theorem new_ok : hashOk hashNew = true := by decide
theorem sha_join (b : List UInt8) (hb : b.length ≤ 1048576) :
    blocks (blocks start (b.length / 64) b) ((b.drop (64 * (b.length / 64)) ++ pad b.length).length / 64) (b.drop (64 * (b.length / 64)) ++ pad b.length) = blocks start ((b ++ pad b.length).length / 64) (b ++ pad b.length) := by
  have hd := div_le64 b.length
  have h1 : (b.drop (64 * (b.length / 64)) ++ pad b.length).length = b.length - 64 * (b.length / 64) + (pad b.length).length := by rw [List.length_append, List.length_drop]
  have h2 : (b ++ pad b.length).length / 64 = b.length / 64 + (b.drop (64 * (b.length / 64)) ++ pad b.length).length / 64 := by rw [h1, List.length_append]; omega
  rw [h2, blocks_add, blocks_app _ _ _ _ hd, List.drop_append_of_le_length hd]
theorem impl_Sha_raw (b : List UInt8) : impl_Sha.raw b = some (sha b) := by
  simp only [impl_Sha.raw, sha]
  by_cases h : (b.length : Int) > 1048576
  · rw [decide_eq_true h]; rfl
  rw [decide_eq_false h]
  simp only [cond_false, hashAddO]
  rw [pt_bind ⟨new_ok, by show (b.length : Int) ≤ 1048576 - 0; omega⟩]
  have e0 : hashNew.Held ++ b = b := rfl
  have en : hashNew.N + (b.length : Int) = (b.length : Int) := Int.zero_add _
  have eh : hashNew.H = start := rfl
  rw [e0, en, eh]
  have hdl := div_le64 b.length
  have hok : hashOk ⟨blocks start (b.length / 64) b, b.drop (64 * (b.length / 64)), (b.length : Int)⟩ = true := by
    simp only [hashOk, Bool.and_eq_true, inR_iff, beq_iff_eq]
    refine ⟨⟨blocks_words _ _ _ start_words, by omega, by omega⟩, ?_⟩
    rw [show irem .i64 (b.length : Int) 64 = ((b.length % 64 : Nat) : Int) from irem_nat _ 64, List.length_drop]; omega
  rw [hashEndO, pt_bind hok, Int.toNat_natCast, sha_join b (by omega)]; rfl
theorem impl_Sha.ok {x : TyTup [.sl .byte]} (_ : bdTup [.sl .byte] x) : impl_Sha.raw x = some (sha x) := impl_Sha_raw x
theorem sha_loop (all : List UInt8) (hwa : wt all ≤ LIM) (hm : 64 * (all.length / 64) = all.length) : loopK FU (fun (x5 : (List Int) × Int) k6 => cond (decide (x5.2 < (all.length : Int)))
    (cond (decide (0 ≤ x5.2) && decide (x5.2 ≤ (iadd .i64 x5.2 64)) && decide ((iadd .i64 x5.2 64) ≤ (all.length : Int))) (Option.bind (compressO x5.1 (List.take ((iadd .i64 x5.2 64 - x5.2).toNat) (List.drop x5.2.toNat all))) fun r7 => k6 (r7, (iadd .i64 x5.2 64))) none)
    (Option.bind (wordBytesO x5.1) fun r8 => some r8)) (start, 0) = some (wordBytes (blocks start (all.length / 64) all)) := by
  have hL := LIM_is
  have hla : all.length ≤ LIM := by rw [← wt_bytes]; exact hwa
  refine loop_FU (g := fun _ => some (wordBytes (blocks start (all.length / 64) all))) (fun x => ∃ i : Nat, 64 * i ≤ all.length ∧ x = (blocks start i all, ((64 * i : Nat) : Int))) (fun x => all.length - x.2.toNat) (fun x hx k hk => ?_) (x := (start, 0)) ⟨0, Nat.zero_le _, rfl⟩ (by show all.length - Int.toNat 0 < 2 ^ 64; simp; omega)
  obtain ⟨i, hi, rfl⟩ := hx
  by_cases hlt : 64 * i < all.length
  · have hge : 64 * (i + 1) ≤ all.length := by omega
    have e1 : iadd .i64 ((64 * i : Nat) : Int) 64 = ((64 * (i + 1) : Nat) : Int) := by rw [iadd, wrap_i64 (by omega) (by omega)]; omega
    have e2 : (decide ((0 : Int) ≤ ((64 * i : Nat) : Int)) && decide (((64 * i : Nat) : Int) ≤ ((64 * (i + 1) : Nat) : Int)) && decide (((64 * (i + 1) : Nat) : Int) ≤ (all.length : Int))) = true := by simp; omega
    have e3 : (((64 * (i + 1) : Nat) : Int) - ((64 * i : Nat) : Int)).toNat = 64 := by omega
    have hst := hk (blocks start (i + 1) all, ((64 * (i + 1) : Nat) : Int)) ⟨i + 1, hge, rfl⟩ (by simp only [Int.toNat_natCast]; omega)
    rw [blocks_snoc] at hst
    simp only [lt_len hlt, cond_true, e1, e2, e3, Int.toNat_natCast, compressO, pt_bind (p := wt (blocks start i all) ≤ LIM ∧ wt ((all.drop (64 * i)).take 64) ≤ LIM) ⟨wt_w8 (blocks_words i start all start_words), Nat.le_trans (wt_take _ _) (Nat.le_trans (wt_drop _ _) hwa)⟩]
    exact hst
  · have hi2 : i = all.length / 64 := by omega
    have e1 : decide (((64 * i : Nat) : Int) < (all.length : Int)) = false := decide_eq_false (by omega)
    simp only [e1, cond_false, wordBytesO, pt_bind (words_parts (blocks_words i start all start_words)).1, ← hi2]
theorem spec_Sha_raw (b : List UInt8) : spec_Sha.raw b = some (sha b) := by
  have hL := LIM_is
  simp only [spec_Sha.raw, joinK, sha, List.nil_append]
  by_cases h : (b.length : Int) > 1048576
  · rw [decide_eq_true h]; rfl
  rw [decide_eq_false h]
  have hp := pad_len b.length
  have hz : padZ b.length < 64 := Nat.mod_lt _ (by decide)
  have hwh := pad_whole b.length
  have hal : (b ++ pad b.length).length = b.length + (pad b.length).length := List.length_append
  simp only [cond_false]
  rw [ble_LIM (show b.length ≤ LIM by omega), cond_true, padO, pt_bind ⟨by omega, by omega⟩, Int.toNat_natCast, app_room (by omega), cond_true, shaAll]
  exact sha_loop (b ++ pad b.length) (by rw [wt_bytes]; omega) (by omega)
theorem spec_Sha.ok {x : TyTup [.sl .byte]} (_ : bdTup [.sl .byte] x) : spec_Sha.raw x = some (sha x) := spec_Sha_raw x
theorem shaAll_len (b : List UInt8) : (shaAll b).length = 32 := by
  rw [shaAll, wordBytes_len, (words_parts (blocks_words _ start _ start_words)).1]
theorem sha_le (b : List UInt8) : (sha b).length ≤ 32 := by
  unfold sha
  cases decide ((b.length : Int) > 1048576)
  · exact Nat.le_of_eq (shaAll_len b)
  · exact Nat.zero_le _
theorem sha_len {b : List UInt8} (h : b.length ≤ 1048576) : (sha b).length = 32 := by
  rw [sha, decide_eq_false (by omega)]; exact shaAll_len b

end Go.D

/-
  Message authentication, dice, dialling: each function computes what is said of it.
-/
namespace Go.D

theorem pad64_loop (l : List UInt8) : loopK FU (fun (x6 : (List UInt8)) k7 => cond (decide ((x6.length : Int) < 64)) (cond (decide (x6.length + [UInt8.ofNat (0 : Int).toNat].length ≤ LIM)) (k7 (x6 ++ [UInt8.ofNat (0 : Int).toNat])) none) (some x6)) l = some (pad64 l) := by
  have hL := LIM_is
  refine loop_FU (g := fun _ => some (pad64 l)) (fun x => ∃ j : Nat, j ≤ 64 - l.length ∧ x = l ++ List.replicate j 0) (fun x => 64 - x.length) (fun x hx k hk => ?_) ⟨0, Nat.zero_le _, by simp⟩ (by show 64 - l.length < 2 ^ 64; omega)
  obtain ⟨j, hj, rfl⟩ := hx
  have hlen : (l ++ List.replicate j (0 : UInt8)).length = l.length + j := by simp
  by_cases hlt : l.length + j < 64
  · rw [decide_eq_true (p := ((l ++ List.replicate j (0 : UInt8)).length : Int) < 64) (by omega), cond_true, app_room (by rw [hlen]; simp; omega), cond_true]
    refine hk _ ⟨j + 1, by omega, ?_⟩ (by simp; omega)
    rw [byte_zero, List.append_assoc, ← List.replicate_succ']
  · rw [decide_eq_false (p := ((l ++ List.replicate j (0 : UInt8)).length : Int) < 64) (by omega), cond_false, pad64]
    have : j = 64 - l.length := by omega
    rw [this]
theorem spec_BlockKey_raw (b : List UInt8) : spec_BlockKey.raw b = some (blockKey b) := by
  have hL := LIM_is
  simp only [spec_BlockKey.raw, joinK, blockKey, List.nil_append]
  by_cases h : (b.length : Int) > 1048576
  · rw [decide_eq_true h]; rfl
  rw [decide_eq_false h, ble_LIM (show b.length ≤ LIM by omega)]
  simp only [cond_false, cond_true]
  cases decide ((b.length : Int) > 64)
  · exact pad64_loop b
  · exact pad64_loop (sha b)
theorem spec_BlockKey.ok {x : TyTup [.sl .byte]} (_ : bdTup [.sl .byte] x) : spec_BlockKey.raw x = some (blockKey x) := spec_BlockKey_raw x
theorem impl_BlockKey_raw (b : List UInt8) : impl_BlockKey.raw b = some (blockKey b) := by
  have hL := LIM_is
  simp only [impl_BlockKey.raw, joinK, blockKey, cloneO]
  by_cases h : (b.length : Int) > 1048576
  · rw [decide_eq_true h]; rfl
  rw [decide_eq_false h, pt_bind (p := wt b ≤ LIM) (by rw [wt_bytes]; omega)]
  simp only [cond_false]
  cases decide ((b.length : Int) > 64)
  · exact pad64_loop b
  · exact pad64_loop (sha b)
theorem impl_BlockKey.ok {x : TyTup [.sl .byte]} (_ : bdTup [.sl .byte] x) : impl_BlockKey.raw x = some (blockKey x) := impl_BlockKey_raw x
theorem blockKey_len {b : List UInt8} (h : b.length ≤ 1048576) : (blockKey b).length = 64 := by
  rw [blockKey, decide_eq_false (by omega), cond_false, pad64, List.length_append, List.length_replicate]
  cases hd : decide ((b.length : Int) > 64)
  · have := of_decide_eq_false hd
    simp only [cond_false]; omega
  · have := sha_le b
    simp only [cond_true]; omega

theorem impl_masked_raw (b : List UInt8) (x : UInt8) (h : wt b ≤ LIM) : impl_masked.raw b x = some (masked b x) := by
  have hl : b.length ≤ LIM := by rw [← wt_bytes]; exact h
  have hL := LIM_is
  simp only [impl_masked.raw, joinK]
  refine loop_emb (X := List UInt8 × Int) (fun y => y.2) (fun i => (masked (b.take i) x, (i : Int))) (fun _ => rfl) b.length (len_lim h) _ 0 (Nat.zero_le _) (fun i k _ hi => ?_) (fun k => by simp only [lt_end, cond_false, List.take_length])
  have e : masked (b.take (i + 1)) x = masked (b.take i) x ++ [xorB b[i] x] := by rw [masked, take_next b hi, List.map_append]; rfl
  have hml : (masked (b.take i) x).length = i := by rw [masked, List.length_map, List.length_take]; omega
  simp only [lt_len hi, cond_true, idxI_get hi, bind_some', iadd_one (i := i) (by rw [maxLen_is]; omega)]
  rw [app_room (by rw [hml]; simp; omega), cond_true, e]; rfl
theorem impl_masked.ok {x : TyTup [.sl .byte, .v .byte]} (_ : bdTup [.sl .byte, .v .byte] x) {r : List UInt8} : maskedO x.1 x.2 = some r → impl_masked.raw x.1 x.2 = some r := pt_ok fun h => impl_masked_raw x.1 x.2 h
theorem masked_len (b : List UInt8) (x : UInt8) : (masked b x).length = b.length := List.length_map ..

theorem impl_Hmac_raw (k b : List UInt8) : impl_Hmac.raw k b = some (hmac k b) := by
  have hL := LIM_is
  simp only [impl_Hmac.raw, joinK, hmac]
  by_cases h1 : (k.length : Int) > 1048576
  · rw [decide_eq_true h1]; rfl
  by_cases h2 : (b.length : Int) > 1048512
  · rw [decide_eq_false h1, decide_eq_true h2]; rfl
  have hk := blockKey_len (b := k) (by omega)
  rw [decide_eq_false h1, decide_eq_false h2]
  simp only [cond_false, Bool.or_false, maskedO, pt_bind (p := wt (blockKey k) ≤ LIM) (by rw [wt_bytes]; omega), joinedO]
  rw [pt_bind (by rw [two_wt, masked_len]; omega), two_flat, pt_bind (by rw [two_wt, masked_len]; have := sha_le (masked (blockKey k) (UInt8.ofNat (54 : Int).toNat) ++ b); omega), two_flat]; rfl
theorem impl_Hmac.ok {x : TyTup [.sl .byte, .sl .byte]} (_ : bdTup [.sl .byte, .sl .byte] x) : impl_Hmac.raw x.1 x.2 = some (hmac x.1 x.2) := impl_Hmac_raw x.1 x.2
theorem getB {l : List UInt8} {i : Nat} (h : i < l.length) : l[i]? = some l[i] := List.getElem?_eq_getElem h
theorem masked_next (b : List UInt8) (x : UInt8) {i : Nat} (hi : i < b.length) : masked (b.take (i + 1)) x = masked (b.take i) x ++ [xorB b[i] x] := by rw [masked, take_next b hi, List.map_append]; rfl
theorem spec_Hmac_raw (k b : List UInt8) : spec_Hmac.raw k b = some (hmac k b) := by
  have hL := LIM_is
  simp only [spec_Hmac.raw, joinK, hmac]
  by_cases h1 : (k.length : Int) > 1048576
  · rw [decide_eq_true h1]; rfl
  by_cases h2 : (b.length : Int) > 1048512
  · rw [decide_eq_false h1, decide_eq_true h2]; rfl
  have hk := blockKey_len (b := k) (by omega)
  rw [decide_eq_false h1, decide_eq_false h2]
  simp only [cond_false, Bool.or_false]
  refine loop_emb (X := List UInt8 × List UInt8 × Int) (fun y => y.2.2) (fun i => (masked ((blockKey k).take i) 54, masked ((blockKey k).take i) 92, (i : Int))) (fun _ => rfl) 64 (by decide) _ 0 (Nat.zero_le _) (fun i kk _ hi => ?_) (fun kk => ?_)
  · have hib : i < (blockKey k).length := by omega
    have m1 : (masked ((blockKey k).take i) 54).length = i := by rw [masked_len, List.length_take]; omega
    have m2 : (masked ((blockKey k).take i) 92).length = i := by rw [masked_len, List.length_take]; omega
    simp only [decide_eq_true (p := (i : Int) < 64) (by omega), cond_true, in_row hib, Int.toNat_natCast, getB hib, bind_some', iadd_one (i := i) (by rw [maxLen_is]; omega)]
    rw [app_room (by rw [m1]; simp; omega), cond_true, app_room (by rw [m2]; simp; omega), cond_true, masked_next _ _ hib, masked_next _ _ hib]; rfl
  · have ht : (blockKey k).take 64 = blockKey k := List.take_of_length_le (by omega)
    simp only [show ((64 : Nat) : Int) = 64 from rfl, show decide ((64 : Int) < 64) = false from rfl, cond_false, ht]
    have hs := sha_le (masked (blockKey k) 54 ++ b)
    rw [app_room (by rw [masked_len]; omega), cond_true, app_room (by rw [masked_len]; omega), cond_true]
theorem spec_Hmac.ok {x : TyTup [.sl .byte, .sl .byte]} (_ : bdTup [.sl .byte, .sl .byte] x) : spec_Hmac.raw x.1 x.2 = some (hmac x.1 x.2) := spec_Hmac_raw x.1 x.2
theorem hmac_len {k b : List UInt8} (h1 : k.length ≤ 1048576) (h2 : b.length ≤ 1048512) : (hmac k b).length = 32 := by
  rw [hmac, decide_eq_false (by omega), decide_eq_false (by omega)]
  simp only [Bool.or_false, cond_false]
  refine sha_len ?_
  have := sha_le (masked (blockKey k) 54 ++ b)
  rw [List.length_append, masked_len, blockKey_len h1]; omega

theorem roll_len (n : Int) : (putN roll n 4).length = 8 := by rw [putN4, List.length_append, bytesOf_len]; rfl
theorem impl_DiceAt_raw (s : List UInt8) (n : Int) : impl_DiceAt.raw s n = some (diceAt s n) := by
  have hL := LIM_is
  simp only [impl_DiceAt.raw, joinK, diceAt]
  cases h1 : inR (s.length : Int) 1 32
  · rfl
  cases h2 : inR n 0 10000
  · rfl
  have h1 := inR_iff.1 h1
  have hh := hmac_len (k := s) (b := putN roll n 4) (by omega) (by rw [roll_len]; omega)
  simp only [Bool.not_true, cond_false, Bool.and_true, cond_true, putNO]
  rw [pt_bind (by rw [wt_bytes]; simp; omega)]
  have hr : [UInt8.ofNat (114 : Int).toNat, UInt8.ofNat (111 : Int).toNat, UInt8.ofNat (108 : Int).toNat, UInt8.ofNat (108 : Int).toNat] = roll := rfl
  rw [hr, show (decide ((0 : Int) ≤ 0) && decide ((0 : Int) ≤ 12) && decide (12 ≤ ((hmac s (putN roll n 4)).length : Int))) = true by rw [hh]; rfl, cond_true, List.drop_zero, cloneO, pt_bind (by rw [wt_bytes, List.length_take]; omega)]
theorem impl_DiceAt.ok {x : TyTup [.sl .byte, .v .int]} (_ : bdTup [.sl .byte, .v .int] x) : impl_DiceAt.raw x.1 x.2 = some (diceAt x.1 x.2) := impl_DiceAt_raw x.1 x.2
theorem spec_DiceAt_raw (s : List UInt8) (n : Int) : spec_DiceAt.raw s n = some (diceAt s n) := by
  have hL := LIM_is
  simp only [spec_DiceAt.raw, joinK, diceAt]
  cases h1 : inR (s.length : Int) 1 32
  · rfl
  cases h2 : inR n 0 10000
  · rfl
  have h1 := inR_iff.1 h1
  have hh := hmac_len (k := s) (b := putN roll n 4) (by omega) (by rw [roll_len]; omega)
  simp only [Bool.not_true, cond_false, Bool.and_true, cond_true, putNO]
  rw [pt_bind (by rw [wt_bytes]; simp; omega)]
  have hr : [UInt8.ofNat (114 : Int).toNat, UInt8.ofNat (111 : Int).toNat, UInt8.ofNat (108 : Int).toNat, UInt8.ofNat (108 : Int).toNat] = roll := rfl
  rw [hr, show (decide ((0 : Int) ≤ 0) && decide ((0 : Int) ≤ 12) && decide (12 ≤ ((hmac s (putN roll n 4)).length : Int))) = true by rw [hh]; rfl, cond_true, List.drop_zero, ble_LIM (by rw [List.length_take]; omega), cond_true, List.nil_append]
theorem spec_DiceAt.ok {x : TyTup [.sl .byte, .v .int]} (_ : bdTup [.sl .byte, .v .int] x) : spec_DiceAt.raw x.1 x.2 = some (diceAt x.1 x.2) := spec_DiceAt_raw x.1 x.2
/-! ### Dialling -/

end Go.D
