/-
 Sizes of the program's data.
-/
import Derived.Test.YtkpkommmdacjlaaGreatN5
set_option linter.all false
namespace Go.D
end Go.D
namespace Go.D
def cut(b:List UInt8)(f n:Int):List UInt8×Bool:=bif decide (f<0)||(decide (n<0)||(decide (f>(b.length:Int))||decide (n>(b.length:Int) - f)))then([],false)else((b.drop f.toNat).take n.toNat,true)
noncomputable def wB(b:List UInt8):Option (List UInt8):=pt (wt b≤nA) b
def MG(a:Int):Int:=wJ .i64 a 4294967295
def EJ(x n:Int):Int:=MG (ior .i64 (zg5 .i64 (MG x) n) (zgI .i64 (MG x) (qC .i64 32 n)))
def zfT:List Int:=[1116352408,1899447441,3049323471,3921009573,961987163,1508970993,2453635748,2870763221,3624381080,310598401,607225278,1426881987,1925078388,2162078206,2614888103,3248222580,3835390401,4022224774,264347078,604807628,770255983,1249150122,1555081692,1996064986,2554220882,2821834349,2952996808,3210313671,3336571891,3584528711,113926993,338241895,666307205,773529912,1294757372,1396182291,1695183700,1986661051,2177026350,2456956037,2730485921,2820302411,3259730800,3345764771,3516065817,3600352804,4094571909,275423344,430227734,506948616,659060556,883997877,958139571,1322822218,1537002063,1747873779,1955562222,2024104815,2227730452,2361852424,2428436474,2756734187,3204031479,3329325298]
abbrev S8:=Int×Int×Int×Int×Int×Int×Int×Int
def rT(k w:Int)(s:S8):Int:=
 PA .i64 (PA .i64 (PA .i64 (PA .i64 s.2.2.2.2.2.2.2 (KG .i64 (KG .i64 (EJ s.2.2.2.2.1 6) (EJ s.2.2.2.2.1 11)) (EJ s.2.2.2.2.1 25)))
  (KG .i64 (wJ .i64 s.2.2.2.2.1 s.2.2.2.2.2.1) (wJ .i64 (KG .i64 s.2.2.2.2.1 4294967295) s.2.2.2.2.2.2.1))) k) w
def rU(s:S8):Int:=PA .i64 (KG .i64 (KG .i64 (EJ s.1 2) (EJ s.1 13)) (EJ s.1 22)) (KG .i64 (KG .i64 (wJ .i64 s.1 s.2.1) (wJ .i64 s.1 s.2.2.1)) (wJ .i64 s.2.1 s.2.2.1))
def zfh(k w:Int)(s:S8):S8:=(MG (PA .i64 (MG (rT k w s)) (MG (rU s))),s.1,s.2.1,s.2.2.1,MG (PA .i64 s.2.2.2.1 (MG (rT k w s))),s.2.2.2.2.1,s.2.2.2.2.2.1,s.2.2.2.2.2.2.1)
def rounds(w:List Int)(s:S8):Nat→S8
 | 0=>s
 | i+1=>zfh (zfT.getD i 0) (w.getD i 0) (rounds w s i)
end Go.D
namespace Go.D
noncomputable def Gh(a0:List UInt8):=
 cond (decide (([]:List UInt8).length+a0.length≤nA)) (some ([]++a0)) none
end Go.D
namespace Go.D
end Go.D
namespace Go.D
def VL.ok{x}(_:rA [.sl .byte] x){r}:wB x=some r→Gh x=some r:=CA λh=>by
 have h2:(show List UInt8 from x).length≤nA:=by rw[←jB];exact h
 show cond (decide (([]:List UInt8).length+(show List UInt8 from x).length≤nA)) _ _=_
 rw[nS h2];rfl
end Go.D
namespace Go.D
end Go.D
namespace Go.D
end Go.D
namespace Go.D
end Go.D
namespace Go.D
end Go.D
