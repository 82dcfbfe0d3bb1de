/-
  Sizes of the program's data.
-/
import Derived.Test.YtnmnifbcflablaaDoorN5
namespace Go.D


end Go.D


/-
  Words, hashes, message authentication; whether a client may dial.
-/
namespace Go.D

/-! ### Bytes of numbers -/

/-! ### Words -/

def m32 (a : Int) : Int := iand .i64 a 4294967295
def rot (x n : Int) : Int := m32 (ior .i64 (ishr .i64 (m32 x) n) (ishl .i64 (m32 x) (isub .i64 32 n)))
def kTab : List Int := [1116352408, 1899447441, 3049323471, 3921009573, 961987163, 1508970993, 2453635748, 2870763221, 3624381080, 310598401, 607225278, 1426881987, 1925078388, 2162078206, 2614888103, 3248222580, 3835390401, 4022224774, 264347078, 604807628, 770255983, 1249150122, 1555081692, 1996064986, 2554220882, 2821834349, 2952996808, 3210313671, 3336571891, 3584528711, 113926993, 338241895, 666307205, 773529912, 1294757372, 1396182291, 1695183700, 1986661051, 2177026350, 2456956037, 2730485921, 2820302411, 3259730800, 3345764771, 3516065817, 3600352804, 4094571909, 275423344, 430227734, 506948616, 659060556, 883997877, 958139571, 1322822218, 1537002063, 1747873779, 1955562222, 2024104815, 2227730452, 2361852424, 2428436474, 2756734187, 3204031479, 3329325298]
/-! ### The hash -/

abbrev S8 := Int × Int × Int × Int × Int × Int × Int × Int
def rT (k w : Int) (s : S8) : Int :=
  iadd .i64 (iadd .i64 (iadd .i64 (iadd .i64 s.2.2.2.2.2.2.2 (ixor .i64 (ixor .i64 (rot s.2.2.2.2.1 6) (rot s.2.2.2.2.1 11)) (rot s.2.2.2.2.1 25)))
    (ixor .i64 (iand .i64 s.2.2.2.2.1 s.2.2.2.2.2.1) (iand .i64 (ixor .i64 s.2.2.2.2.1 4294967295) s.2.2.2.2.2.2.1))) k) w
def rU (s : S8) : Int := iadd .i64 (ixor .i64 (ixor .i64 (rot s.1 2) (rot s.1 13)) (rot s.1 22)) (ixor .i64 (ixor .i64 (iand .i64 s.1 s.2.1) (iand .i64 s.1 s.2.2.1)) (iand .i64 s.2.1 s.2.2.1))
def rStep (k w : Int) (s : S8) : S8 := (m32 (iadd .i64 (m32 (rT k w s)) (m32 (rU s))), s.1, s.2.1, s.2.2.1, m32 (iadd .i64 s.2.2.2.1 (m32 (rT k w s))), s.2.2.2.2.1, s.2.2.2.2.2.1, s.2.2.2.2.2.2.1)
def rounds (w : List Int) (s : S8) : Nat → S8
  | 0 => s
  | i + 1 => rStep (kTab.getD i 0) (w.getD i 0) (rounds w s i)
/-! ### Message authentication -/

/-! ### Dialling -/

end Go.D

/-
  What the functions compute, as the plain semantics says it.
-/
namespace Go.D

end Go.D

/-
  What the laws' own functions compute.
-/
namespace Go.D


end Go.D

/-
  Bytes of numbers and words: each function computes what is said of it.
-/
namespace Go.D

/-! ### Bits -/

theorem ofInt_nat (n : Nat) (h : n < 2 ^ 64) : (BitVec.ofInt 64 (n : Int)).toNat = n := by
  rw [BitVec.toNat_ofInt]; omega
/-! ### Bytes -/

/-! ### Words -/

end Go.D

/-
  The hash: each function computes what is said of it.
-/
namespace Go.D

/-! ### The schedule -/

end Go.D

/-
  The hash's compression and its blocks: each function computes what is said of it.
-/
namespace Go.D

end Go.D

/-
  The hash as a whole: each function computes what is said of it.
-/
namespace Go.D

/-! ### Blocks -/

/-! ### The end of a message -/

/-! ### The hash -/

end Go.D

/-
  Message authentication, dice, dialling: each function computes what is said of it.
-/
namespace Go.D

/-! ### Dialling -/

end Go.D
