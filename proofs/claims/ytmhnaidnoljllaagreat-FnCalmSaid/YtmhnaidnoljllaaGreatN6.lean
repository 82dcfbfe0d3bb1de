/-
 Sizes of the program's data.
-/
import Derived.Test.YtmhnaidnoljllaaGreatN5
set_option linter.all false
namespace Go.D
end Go.D
namespace Go.D
noncomputable section
def vO(n:Int)(i:Nat):UInt8:=UInt8.ofNat (IntKind.wrap .u8 (zB .i64 (uE .i64 n (KB .i64 8 (i:Int))) 255)).toNat
def hG(n:Int):Nat→List UInt8
 | 0=>[]
 | i+1=>vO n i :: hG n i
def rD(b:List UInt8)(n k:Int):List UInt8:=bif decide (k<1)||decide (k>6)then b else b++hG n k.toNat
def JB(b:List UInt8)(n k:Int):Option (List UInt8):=pt (wt b+6≤bA) (rD b n k)
def AG(l:List UInt8):Int:=l.foldl (λn x=>gA .i64 (KB .i64 n 256) (IntKind.wrap .i64 ((x.toNat:Nat):Int))) 0
def cH(b:List UInt8)(at_ k:Int):Int×Int×Bool:=bif decide (k<1)||(decide (k>6)||(decide (at_<0)||decide (at_>(b.length:Int) - k)))then(0,0,false)else(AG ((b.drop at_.toNat).take k.toNat),gA .i64 at_ k,true)
def YG(b:List UInt8)(at_ k:Int):Option (Int×Int×Bool):=pt (wt b≤bA) (cH b at_ k)
def cut(b:List UInt8)(f n:Int):List UInt8×Bool:=bif decide (f<0)||(decide (n<0)||(decide (f>(b.length:Int))||decide (n>(b.length:Int) - f)))then([],false)else((b.drop f.toNat).take n.toNat,true)
def mJ(b:List UInt8)(f n:Int):Option (List UInt8×Bool):=pt (wt b≤bA) (cut b f n)
def yA(b:List UInt8):Option (List UInt8):=pt (wt b≤bA) b
def XC(l:List (List UInt8)):Option (List UInt8):=pt (wt l≤bA) l.flatten
def YD(a:Int):Int:=zB .i64 a 4294967295
def aG(x n:Int):Int:=YD (sK .i64 (uE .i64 (YD x) n) (jJ .i64 (YD x) (qA .i64 32 n)))
def WD(x n:Int):Option Int:=pt (1≤n∧n≤31) (aG x n)
def HF(a b:Int):Int:=YD (gA .i64 a b)
def rE:List Int:=[1779033703,3144134277,1013904242,2773480762,1359893119,2600822924,528734635,1541459225]
def nI:List Int:=[1116352408,1899447441,3049323471,3921009573,961987163,1508970993,2453635748,2870763221,3624381080,310598401,607225278,1426881987,1925078388,2162078206,2614888103,3248222580,3835390401,4022224774,264347078,604807628,770255983,1249150122,1555081692,1996064986,2554220882,2821834349,2952996808,3210313671,3336571891,3584528711,113926993,338241895,666307205,773529912,1294757372,1396182291,1695183700,1986661051,2177026350,2456956037,2730485921,2820302411,3259730800,3345764771,3516065817,3600352804,4094571909,275423344,430227734,506948616,659060556,883997877,958139571,1322822218,1537002063,1747873779,1955562222,2024104815,2227730452,2361852424,2428436474,2756734187,3204031479,3329325298]
def dM(i:Int):Int:=if 0≤i∧i≤63 then nI.getD i.toNat 0 else 0
def cM(b:List UInt8)(w:List Int)(i:Nat):Int:=if i<16 then(cH b (4 *i:Nat) 4).1 else
 let x:=w.getD (i - 15) 0;let y:=w.getD (i - 2) 0
 YD (gA .i64 (gA .i64 (gA .i64 (w.getD (i - 7) 0) (w.getD (i - 16) 0)) (qB .i64 (qB .i64 (aG x 7) (aG x 18)) (uE .i64 x 3))) (qB .i64 (qB .i64 (aG y 17) (aG y 19)) (uE .i64 y 10)))
def qD(b:List UInt8):Nat→List Int
 | 0=>[]
 | i+1=>qD b i++[cM b (qD b i) i]
def zC(b:List UInt8):List Int:=if b.length=64 then qD b 64 else[]
def XL(b:List UInt8):Option (List Int):=pt (wt b≤bA) (zC b)
abbrev S8:=Int×Int×Int×Int×Int×Int×Int×Int
def rT(k w:Int)(s:S8):Int:=
 gA .i64 (gA .i64 (gA .i64 (gA .i64 s.2.2.2.2.2.2.2 (qB .i64 (qB .i64 (aG s.2.2.2.2.1 6) (aG s.2.2.2.2.1 11)) (aG s.2.2.2.2.1 25)))
  (qB .i64 (zB .i64 s.2.2.2.2.1 s.2.2.2.2.2.1) (zB .i64 (qB .i64 s.2.2.2.2.1 4294967295) s.2.2.2.2.2.2.1))) k) w
def rU(s:S8):Int:=gA .i64 (qB .i64 (qB .i64 (aG s.1 2) (aG s.1 13)) (aG s.1 22)) (qB .i64 (qB .i64 (zB .i64 s.1 s.2.1) (zB .i64 s.1 s.2.2.1)) (zB .i64 s.2.1 s.2.2.1))
def zcL(l:List Int):Bool:=uC l 8
def zdc(k w:Int)(s:S8):S8:=(YD (gA .i64 (YD (rT k w s)) (YD (rU s))),s.1,s.2.1,s.2.2.1,YD (gA .i64 s.2.2.2.1 (YD (rT k w s))),s.2.2.2.2.1,s.2.2.2.2.2.1,s.2.2.2.2.2.2.1)
def rounds(w:List Int)(s:S8):Nat→S8
 | 0=>s
 | i+1=>zdc (nI.getD i 0) (w.getD i 0) (rounds w s i)
def ZD(h:List Int):S8:=(h.getD 0 0,h.getD 1 0,h.getD 2 0,h.getD 3 0,h.getD 4 0,h.getD 5 0,h.getD 6 0,h.getD 7 0)
def DH(s:S8):List Int:=[s.1,s.2.1,s.2.2.1,s.2.2.2.1,s.2.2.2.2.1,s.2.2.2.2.2.1,s.2.2.2.2.2.2.1,s.2.2.2.2.2.2.2]
def kF(h:List Int)(b:List UInt8):List Int:=List.zipWith HF h (DH (rounds (zC b) (ZD h) 64))
def VK(h:List Int)(b:List UInt8):List Int:=bif uC h 8&&b.length==64 then kF h b else h
def OK(h:List Int)(b:List UInt8):Option (List Int):=pt (wt h≤bA∧wt b≤bA) (VK h b)
def AC(h:List Int):Nat→List UInt8→List Int
 | 0,_=>h
 | n+1,b=>AC (VK h (b.take 64)) n (b.drop 64)
def VS(h:List Int)(b:List UInt8):Option (List Int×List UInt8):=pt (wt h≤bA∧uC h 8=true∧wt b≤bA) (AC h (b.length / 64) b,b.drop (64 *(b.length / 64)))
def ZE(h:List Int):List UInt8:=h.flatMap λx=>hG x 4
def HK(h:List Int):Option (List UInt8):=pt (h.length=8) (ZE h)
def fF(n:Nat):Nat:=(119 - n % 64) % 64
def uD(n:Nat):List UInt8:=(128 :: List.replicate (fF n) 0)++([0,0,0,0]++hG ((8 *n:Nat):Int) 4)
def JM(n:Int):Option (List UInt8):=pt (0≤n∧n≤1048576) (uD n.toNat)
def zcV(b:List UInt8):List UInt8:=ZE (AC rE ((b++uD b.length).length / 64) (b++uD b.length))
def wE(b:List UInt8):List UInt8:=bif decide ((b.length:Int)>1048576)then[]else zcV b
def BG(h:Ba):Bool:=uC h.H 8&&eA h.N 0 1048576&&zA .i64 h.N 64==(h.Held.length:Int)
def zb7(h:Ba)(b:List UInt8):Option Ba:=pt (BG h=true∧(b.length:Int)≤1048576 - h.N) ⟨AC h.H ((h.Held++b).length / 64) (h.Held++b),(h.Held++b).drop (64 *((h.Held++b).length / 64)),h.N+b.length⟩
def zbR(h:Ba):Option (List UInt8):=pt (BG h=true) (ZE (AC h.H ((h.Held++uD h.N.toNat).length / 64) (h.Held++uD h.N.toNat)))
def rO:Ba:=⟨rE,[],0⟩
def jV(l:List UInt8):List UInt8:=l++List.replicate (64 - l.length) 0
def SD(k:List UInt8):List UInt8:=bif decide ((k.length:Int)>1048576)then[]else jV (bif decide ((k.length:Int)>64)then wE k else k)
def zgg(x y:UInt8):UInt8:=UInt8.ofNat (qB .u8 ((x.toNat:Nat):Int) ((y.toNat:Nat):Int)).toNat
def CE(b:List UInt8)(x:UInt8):List UInt8:=b.map λy=>zgg y x
def NU(b:List UInt8)(x:UInt8):Option (List UInt8):=pt (wt b≤bA) (CE b x)
def IC(k b:List UInt8):List UInt8:=bif decide ((k.length:Int)>1048576)||decide ((b.length:Int)>1048512)then[]else wE (CE (SD k) 92++wE (CE (SD k) 54++b))
def NM:List UInt8:=[114,111,108,108]
def mE(s:List UInt8)(n:Int):List UInt8:=bif eA (s.length:Int) 1 32&&eA n 0 10000 then(IC s (rD NM n 4)).take 12 else[]
end
end Go.D
namespace Go.D
open Option renaming bind→ob
noncomputable section
def Ps(a0:List UInt8):=
 cond (decide (([]:List UInt8).length+a0.length≤bA)) (some ([]++a0)) none
def Ld(a0:List UInt8)(a1:Int)(a2:Int):=
 cond (decide (([]:List UInt8).length+a0.length≤bA)) (aA (λy1=>
 cond (y1)
 (some ([]++a0))
 (aA (λ(y3:(List UInt8))=>
 some y3) λk4=>
 wA FU (λ(x5:(List UInt8)×Int) k6=>
 cond (decide (x5.2≥0))
 (cond (decide ((KB .i64 8 x5.2)<0)) none (let x7:Int:=zB .i64 (uE .i64 a1 (KB .i64 8 x5.2)) 255
 cond (decide (x5.1.length+[UInt8.ofNat (IntKind.wrap .u8 x7:Int).toNat].length≤bA)) (k6 ((x5.1++[UInt8.ofNat (IntKind.wrap .u8 x7:Int).toNat]),(qA .i64 x5.2 1))) none))
 (k4 x5.1)) (([]++a0),(qA .i64 a2 1)))) λk2=>
 cond (decide (a2<1))
 (k2 true)
 (k2 (decide (a2>6)))) none
def Pt:=
 let x1:List Int:=[1779033703,3144134277,1013904242,2773480762,1359893119,2600822924,528734635,1541459225]
 some x1
def Pu:=
 let r1:(List Int):=rE
 some (⟨r1,[],0⟩:Ba)
def Le(a0:Ba):=
 aA (λ(y1:Bool)=>
 some y1) λk2=>
 cond ((uC a0.H 8))
 (cond ((eA a0.N 0 1048576))
 (k2 ((zA .i64 a0.N 64)==(a0.Held.length:Int)))
 (k2 false))
 (k2 false)
def Lf(a0:List (List UInt8)):=
 aA (λ(y1:(List UInt8))=>
 some y1) λk2=>
 wA FU (λ(x3:(List UInt8)×Int) k4=>
 cond (decide (x3.2<(a0.length:Int)))
 (ob (nA a0 x3.2) λe5=>
 cond (decide (x3.1.length+e5.length≤bA)) (k4 ((x3.1++e5),(gA .i64 x3.2 1))) none)
 (k2 x3.1)) ([],0)
def Lg(a0:List UInt8)(a1:Int)(a2:Int):=
 aA (λy1=>
 cond (y1)
 (some ([],false))
 (cond (decide (0≤a1)&&decide (a1≤(gA .i64 a1 a2))&&decide ((gA .i64 a1 a2)≤(a0.length:Int))) (let l3:List UInt8:=List.take ((gA .i64 a1 a2 - a1).toNat) (List.drop a1.toNat a0)
 cond (decide (([]:List UInt8).length+l3.length≤bA)) (some ([]++l3,true)) none) none)) λk2=>
 cond (decide (a1<0))
 (k2 true)
 (cond (decide (a2<0))
 (k2 true)
 (cond (decide (a1>(a0.length:Int)))
 (k2 true)
 (k2 (decide (a2>(qA .i64 (a0.length:Int) a1))))))
def Lh(a0:List UInt8)(a1:Int)(a2:Int):=
 aA (λy1=>
 cond (y1)
 (some (0,0,false))
 (ob (mJ a0 a1 a2) λr3=>
 cond (!r3.2)
 (some (0,0,false))
 (aA (λ(y4:Int)=>
 some (y4,gA .i64 a1 a2,true)) λk5=>
 wA FU (λ(x6:Int×Int) k7=>
 cond (decide (x6.2<(r3.1.length:Int)))
 (cond (decide (0≤x6.2)&&decide (x6.2<(r3.1.length:Int))) (ob (r3.1[x6.2.toNat]?) λe8=>
 let x9:Int:=IntKind.wrap .i64 ((e8.toNat:Nat):Int)
 k7 ((gA .i64 (KB .i64 256 x6.1) x9),(gA .i64 x6.2 1))) none)
 (k5 x6.1)) (0,0)))) λk2=>
 cond (decide (a2<1))
 (k2 true)
 (k2 (decide (a2>6)))
def Li(a0:Int)(a1:Int):=
 aA (λy1=>
 cond (y1)
 (some (zB .i64 a0 4294967295))
 (cond (decide (a1<0)) none (cond (decide ((qA .i64 32 a1)<0)) none (let x3:Int:=jJ .i64 (zB .i64 a0 4294967295) (qA .i64 32 a1)
 let x4:Int:=sK .i64 (uE .i64 (zB .i64 a0 4294967295) a1) x3
 some (zB .i64 x4 4294967295))))) λk2=>
 cond (decide (a1<0))
 (k2 true)
 (k2 (decide (a1>31)))
def Lj(a0:List UInt8):=
 cond ((a0.length:Int) !=64)
 (some [])
 (aA (λ(y1:(List Int))=>
 aA (λ(y7:(List Int))=>
 some y7) λk8=>
 wA FU (λ(x9:Int×(List Int)) k10=>
 cond (decide (x9.1<64))
 (cond (decide (0≤qA .i64 x9.1 15)&&decide (qA .i64 x9.1 15<(x9.2.length:Int))) (ob (x9.2[(qA .i64 x9.1 15).toNat]?) λe11=>
 cond (decide (0≤qA .i64 x9.1 2)&&decide (qA .i64 x9.1 2<(x9.2.length:Int))) (ob (x9.2[(qA .i64 x9.1 2).toNat]?) λe12=>
 ob (WD e11 7) λr13=>
 ob (WD e11 18) λr14=>
 let x15:Int:=qB .i64 (qB .i64 r13 r14) (uE .i64 e11 3)
 ob (WD e12 17) λr16=>
 ob (WD e12 19) λr17=>
 let x18:Int:=qB .i64 (qB .i64 r16 r17) (uE .i64 e12 10)
 cond (decide (0≤qA .i64 x9.1 7)&&decide (qA .i64 x9.1 7<(x9.2.length:Int))) (ob (x9.2[(qA .i64 x9.1 7).toNat]?) λe19=>
 cond (decide (0≤qA .i64 x9.1 16)&&decide (qA .i64 x9.1 16<(x9.2.length:Int))) (ob (x9.2[(qA .i64 x9.1 16).toNat]?) λe20=>
 let x21:Int:=gA .i64 (gA .i64 (gA .i64 e19 e20) x15) x18
 cond (decide (0≤x9.1)&&decide (x9.1<(x9.2.length:Int))) (ob (x9.2[x9.1.toNat]?) λe22=>
 k10 ((gA .i64 x9.1 1),(List.set x9.2 x9.1.toNat (zB .i64 x21 4294967295)))) none) none) none) none) none)
 (k8 x9.2)) (16,y1)) λk2=>
 wA FU (λ(x3:Int×(List Int)) k4=>
 cond (decide (x3.1<16))
 (ob (YG a0 (KB .i64 4 x3.1) 4) λr5=>
 cond (decide (0≤x3.1)&&decide (x3.1<(x3.2.length:Int))) (ob (x3.2[x3.1.toNat]?) λe6=>
 k4 ((gA .i64 x3.1 1),(List.set x3.2 x3.1.toNat r5.1))) none)
 (k2 x3.2)) (0,(List.replicate (64:Int).toNat (0:Int))))
def Jj(a0:Int):Option Int:=
 aA (λy1=>
 cond (y1)
 (some 0)
 (cond (a0==(0:Int)) (some 1116352408) (cond (a0==(1:Int)) (some 1899447441) (cond (a0==(2:Int)) (some 3049323471) (cond (a0==(3:Int)) (some 3921009573) (cond (a0==(4:Int)) (some 961987163) (cond (a0==(5:Int)) (some 1508970993) (cond (a0==(6:Int)) (some 2453635748) (cond (a0==(7:Int)) (some 2870763221) (cond (a0==(8:Int)) (some 3624381080) (cond (a0==(9:Int)) (some 310598401) (cond (a0==(10:Int)) (some 607225278) (cond (a0==(11:Int)) (some 1426881987) (cond (a0==(12:Int)) (some 1925078388) (cond (a0==(13:Int)) (some 2162078206) (cond (a0==(14:Int)) (some 2614888103) (cond (a0==(15:Int)) (some 3248222580) (cond (a0==(16:Int)) (some 3835390401) (cond (a0==(17:Int)) (some 4022224774) (cond (a0==(18:Int)) (some 264347078) (cond (a0==(19:Int)) (some 604807628) (cond (a0==(20:Int)) (some 770255983) (cond (a0==(21:Int)) (some 1249150122) (cond (a0==(22:Int)) (some 1555081692) (cond (a0==(23:Int)) (some 1996064986) (cond (a0==(24:Int)) (some 2554220882) (cond (a0==(25:Int)) (some 2821834349) (cond (a0==(26:Int)) (some 2952996808) (cond (a0==(27:Int)) (some 3210313671) (cond (a0==(28:Int)) (some 3336571891) (cond (a0==(29:Int)) (some 3584528711) (cond (a0==(30:Int)) (some 113926993) (cond (a0==(31:Int)) (some 338241895) (cond (a0==(32:Int)) (some 666307205) (cond (a0==(33:Int)) (some 773529912) (cond (a0==(34:Int)) (some 1294757372) (cond (a0==(35:Int)) (some 1396182291) (cond (a0==(36:Int)) (some 1695183700) (cond (a0==(37:Int)) (some 1986661051) (cond (a0==(38:Int)) (some 2177026350) (cond (a0==(39:Int)) (some 2456956037) (cond (a0==(40:Int)) (some 2730485921) (cond (a0==(41:Int)) (some 2820302411) (cond (a0==(42:Int)) (some 3259730800) (cond (a0==(43:Int)) (some 3345764771) (cond (a0==(44:Int)) (some 3516065817) (cond (a0==(45:Int)) (some 3600352804) (cond (a0==(46:Int)) (some 4094571909) (cond (a0==(47:Int)) (some 275423344) (cond (a0==(48:Int)) (some 430227734) (cond (a0==(49:Int)) (some 506948616) (cond (a0==(50:Int)) (some 659060556) (cond (a0==(51:Int)) (some 883997877) (cond (a0==(52:Int)) (some 958139571) (cond (a0==(53:Int)) (some 1322822218) (cond (a0==(54:Int)) (some 1537002063) (cond (a0==(55:Int)) (some 1747873779) (cond (a0==(56:Int)) (some 1955562222) (cond (a0==(57:Int)) (some 2024104815) (cond (a0==(58:Int)) (some 2227730452) (cond (a0==(59:Int)) (some 2361852424) (cond (a0==(60:Int)) (some 2428436474) (cond (a0==(61:Int)) (some 2756734187) (cond (a0==(62:Int)) (some 3204031479) (cond (a0==(63:Int)) (some 3329325298) (none)))))))))))))))))))))))))))))))))))))))))))))))))))))))))))))))))) λk2=>
 cond (decide (a0<0))
 (k2 true)
 (k2 (decide (a0>63)))
def Pv(a0:Int)(a1:Int):=
 some (zB .i64 (gA .i64 a0 a1) 4294967295)
def Lk(a0:List Int)(a1:List UInt8):=
 cond (decide (([]:List Int).length+a0.length≤bA)) (aA (λy1=>
 cond (y1)
 (some ([]++a0))
 (ob (XL a1) λr3=>
 ob (nA a0 0) λe4=>
 ob (nA a0 1) λe5=>
 ob (nA a0 2) λe6=>
 ob (nA a0 3) λe7=>
 ob (nA a0 4) λe8=>
 ob (nA a0 5) λe9=>
 ob (nA a0 6) λe10=>
 ob (nA a0 7) λe11=>
 aA (λ(y12:Int×Int×Int×Int×Int×Int×Int×Int)=>
 let x31:List Int:=[y12.1,y12.2.1,y12.2.2.1,y12.2.2.2.1,y12.2.2.2.2.1,y12.2.2.2.2.2.1,y12.2.2.2.2.2.2.1,y12.2.2.2.2.2.2.2]
 aA (λ(y32:(List Int))=>
 some y32) λk33=>
 wA FU (λ(x34:Int×(List Int)) k35=>
 cond (decide (x34.1<(x31.length:Int)))
 (cond (decide (0≤x34.1)&&decide (x34.1<(x31.length:Int))) (ob (x31[x34.1.toNat]?) λe36=>
 ob (nA a0 x34.1) λe37=>
 cond (decide (0≤x34.1)&&decide (x34.1<(x34.2.length:Int))) (ob (x34.2[x34.1.toNat]?) λe38=>
 k35 ((gA .i64 x34.1 1),(List.set x34.2 x34.1.toNat (HF e37 e36)))) none) none)
 (k33 x34.2)) (0,([]++a0))) λk13=>
 wA FU (λ(x14:Int×Int×Int×Int×Int×Int×Int×Int×Int) k15=>
 cond (decide (x14.2.2.2.2.2.2.2.2<64))
 (let x16:Int:=zB .i64 (qB .i64 4294967295 x14.2.2.2.2.1) x14.2.2.2.2.2.2.1
 let x17:Int:=qB .i64 (zB .i64 x14.2.2.2.2.1 x14.2.2.2.2.2.1) x16;let x18:Int:=qB .i64 (zB .i64 x14.1 x14.2.1) (zB .i64 x14.1 x14.2.2.1);let x19:Int:=qB .i64 x18 (zB .i64 x14.2.1 x14.2.2.1)
 ob (WD x14.2.2.2.2.1 6) λr20=>
 ob (WD x14.2.2.2.2.1 11) λr21=>
 ob (WD x14.2.2.2.2.1 25) λr22=>
 let x23:Int:=gA .i64 x14.2.2.2.2.2.2.2.1 (qB .i64 (qB .i64 r20 r21) r22);let x24:Int:=gA .i64 (gA .i64 x23 x17) (dM x14.2.2.2.2.2.2.2.2)
 cond (decide (0≤x14.2.2.2.2.2.2.2.2)&&decide (x14.2.2.2.2.2.2.2.2<(r3.length:Int))) (ob (r3[x14.2.2.2.2.2.2.2.2.toNat]?) λe25=>
 ob (WD x14.1 2) λr26=>
 ob (WD x14.1 13) λr27=>
 ob (WD x14.1 22) λr28=>
 let x29:Int:=gA .i64 (qB .i64 (qB .i64 r26 r27) r28) x19;let r30:Int:=HF x14.2.2.2.1 (gA .i64 x24 e25)
 k15 ((HF (gA .i64 x24 e25) x29),x14.1,x14.2.1,x14.2.2.1,r30,x14.2.2.2.2.1,x14.2.2.2.2.2.1,x14.2.2.2.2.2.2.1,(gA .i64 x14.2.2.2.2.2.2.2.2 1))) none)
 (k13 (x14.1,x14.2.1,x14.2.2.1,x14.2.2.2.1,x14.2.2.2.2.1,x14.2.2.2.2.2.1,x14.2.2.2.2.2.2.1,x14.2.2.2.2.2.2.2.1))) (e4,e5,e6,e7,e8,e9,e10,e11,0))) λk2=>
 cond (!(uC a0 8))
 (k2 true)
 (k2 ((a1.length:Int) !=64))) none
def Ll(a0:List Int)(a1:List UInt8):=
 aA (λ(y1:(List Int)×(List UInt8))=>
 some (y1.1,y1.2)) λk2=>
 wA FU (λ(x3:(List Int)×(List UInt8)) k4=>
 cond (decide ((x3.2.length:Int)≥64))
 (cond (decide (0≤(0:Int))&&decide ((0:Int)≤64)&&decide (64≤(x3.2.length:Int))) (let l5:List UInt8:=List.take 64 (List.drop 0 x3.2)
 ob (OK x3.1 l5) λr6=>
 cond (decide (0≤(64:Int))&&decide ((64:Int)≤(x3.2.length:Int))&&decide ((x3.2.length:Int)≤(x3.2.length:Int))) (let l7:List UInt8:=List.take (((x3.2.length:Int) - 64).toNat) (List.drop 64 x3.2)
 k4 (r6,l7)) none) none)
 (k2 (x3.1,x3.2))) (a0,a1)
def Lm(a0:Ba)(a1:List UInt8):=
 aA (λy1=>
 cond (y1)
 (cond (decide (([]:List Int).length+a0.H.length≤bA)) (ob (yA a0.Held) λr3=>
 some (⟨[]++a0.H,r3,a0.N⟩:Ba)) none)
 (ob (XC [a0.Held,a1]) λr4=>
 ob (VS a0.H r4) λr5=>
 cond (decide (([]:List Int).length+r5.1.length≤bA)) (ob (yA r5.2) λr6=>
 some (⟨[]++r5.1,r6,gA .i64 a0.N (a1.length:Int)⟩:Ba)) none)) λk2=>
 cond (!(BG a0))
 (k2 true)
 (k2 (decide ((a1.length:Int)>(qA .i64 1048576 a0.N))))
def Ln(a0:Int):=
 cond (!(eA a0 0 1048576))
 (some [])
 (aA (λ(y1:(List UInt8))=>
 cond (decide (y1.length+[UInt8.ofNat (0:Int).toNat,UInt8.ofNat (0:Int).toNat].length≤bA)) (let x6:List UInt8:=y1++[UInt8.ofNat (0:Int).toNat,UInt8.ofNat (0:Int).toNat]
 ob (JB x6 (KB .i64 8 a0) 6) λr7=>
 some r7) none) λk2=>
 wA FU (λ(x3:(List UInt8)) k4=>
 let x5:Int:=gA .i64 (gA .i64 a0 (x3.length:Int)) 8
 cond ((zA .i64 x5 64) !=0)
 (cond (decide (x3.length+[UInt8.ofNat (0:Int).toNat].length≤bA)) (k4 (x3++[UInt8.ofNat (0:Int).toNat])) none)
 (k2 x3)) [UInt8.ofNat (128:Int).toNat])
def Lo(a0:List Int):=
 aA (λ(y1:(List UInt8))=>
 some y1) λk2=>
 wA FU (λ(x3:(List UInt8)×Int) k4=>
 cond (decide (x3.2<(a0.length:Int)))
 (ob (nA a0 x3.2) λe5=>
 ob (JB x3.1 e5 4) λr6=>
 k4 (r6,(gA .i64 x3.2 1)))
 (k2 x3.1)) ([],0)
def Lp(a0:Ba):=
 cond (!(BG a0))
 (some [])
 (ob (JM a0.N) λr1=>
 ob (XC [a0.Held,r1]) λr2=>
 ob (VS a0.H r2) λr3=>
 ob (HK r3.1) λr4=>
 some r4)
def Lq(a0:List UInt8):=
 cond (decide ((a0.length:Int)>1048576))
 (some [])
 (let r1:Ba:=rO
 ob (zb7 r1 a0) λr2=>
 ob (zbR r2) λr3=>
 some r3)
def Lr(a0:List UInt8):=
 cond (decide ((a0.length:Int)>1048576))
 (some [])
 (ob (yA a0) λr1=>
 aA (λ(y2:(List UInt8))=>
 aA (λ(y5:(List UInt8))=>
 some y5) λk6=>
 wA FU (λ(x7:(List UInt8)) k8=>
 cond (decide ((x7.length:Int)<64))
 (cond (decide (x7.length+[UInt8.ofNat (0:Int).toNat].length≤bA)) (k8 (x7++[UInt8.ofNat (0:Int).toNat])) none)
 (k6 x7)) y2) λk3=>
 cond (decide ((a0.length:Int)>64))
 (let r4:(List UInt8):=wE a0
 k3 r4)
 (k3 r1))
def Ls(a0:List UInt8)(a1:UInt8):=
 aA (λ(y1:(List UInt8))=>
 some y1) λk2=>
 wA FU (λ(x3:(List UInt8)×Int) k4=>
 cond (decide (x3.2<(a0.length:Int)))
 (ob (nA a0 x3.2) λe5=>
 let x6:Int:=qB .u8 ((e5.toNat:Nat):Int) ((a1.toNat:Nat):Int)
 cond (decide (x3.1.length+[UInt8.ofNat (x6:Int).toNat].length≤bA)) (k4 ((x3.1++[UInt8.ofNat (x6:Int).toNat]),(gA .i64 x3.2 1))) none)
 (k2 x3.1)) ([],0)
def Lt(a0:List UInt8)(a1:List UInt8):=
 aA (λy1=>
 cond (y1)
 (some [])
 (let r3:(List UInt8):=SD a0
 ob (NU r3 (UInt8.ofNat (92:Int).toNat)) λr4=>
 ob (NU r3 (UInt8.ofNat (54:Int).toNat)) λr5=>
 ob (XC [r5,a1]) λr6=>
 let r7:(List UInt8):=wE r6
 ob (XC [r4,r7]) λr8=>
 let r9:(List UInt8):=wE r8
 some r9)) λk2=>
 cond (decide ((a0.length:Int)>1048576))
 (k2 true)
 (k2 (decide ((a1.length:Int)>1048512)))
def Lu(a0:List UInt8)(a1:Int):=
 aA (λy1=>
 cond (y1)
 (some [])
 (let x3:List UInt8:=[UInt8.ofNat (114:Int).toNat,UInt8.ofNat (111:Int).toNat,UInt8.ofNat (108:Int).toNat,UInt8.ofNat (108:Int).toNat]
 ob (JB x3 a1 4) λr4=>
 let r5:(List UInt8):=IC a0 r4
 cond (decide (0≤(0:Int))&&decide ((0:Int)≤12)&&decide (12≤(r5.length:Int))) (ob (yA (List.take 12 (List.drop 0 r5))) λr6=>
 some r6) none)) λk2=>
 cond (!(eA (a0.length:Int) 1 32))
 (k2 true)
 (k2 (!(eA a1 0 10000)))
def Pw(a0:List UInt8)(a1:Int)(a2:Int):=
 cond (decide (([]:List UInt8).length+a0.length≤bA)) (aA (λy1=>
 cond (y1)
 (some ([]++a0))
 (aA (λ(y3:(List UInt8))=>
 some y3) λk4=>
 wA FU (λ(x5:(List UInt8)×Int) k6=>
 cond (decide (x5.2≥0))
 (cond (decide ((KB .i64 8 x5.2)<0)) none (let x7:Int:=zB .i64 (uE .i64 a1 (KB .i64 8 x5.2)) 255
 cond (decide (x5.1.length+[UInt8.ofNat (IntKind.wrap .u8 x7:Int).toNat].length≤bA)) (k6 ((x5.1++[UInt8.ofNat (IntKind.wrap .u8 x7:Int).toNat]),(qA .i64 x5.2 1))) none))
 (k4 x5.1)) (([]++a0),(qA .i64 a2 1)))) λk2=>
 cond (decide (a2<1))
 (k2 true)
 (k2 (decide (a2>6)))) none
def Lv(a0:Int):=
 aA (λy1=>
 cond (y1)
 (some [])
 (aA (λ(y3:(List UInt8))=>
 ob (JB y3 0 4) λr8=>
 ob (JB r8 (KB .i64 8 a0) 4) λr9=>
 some r9) λk4=>
 wA FU (λ(x5:(List UInt8)) k6=>
 let x7:Int:=gA .i64 (gA .i64 a0 (x5.length:Int)) 8
 cond ((zA .i64 x7 64) !=0)
 (cond (decide (x5.length+[UInt8.ofNat (0:Int).toNat].length≤bA)) (k6 (x5++[UInt8.ofNat (0:Int).toNat])) none)
 (k4 x5)) [UInt8.ofNat (128:Int).toNat])) λk2=>
 cond (decide (a0<0))
 (k2 true)
 (k2 (decide (a0>1048576)))
def Px:=
 let x1:List Int:=[1779033703,3144134277,1013904242,2773480762,1359893119,2600822924,528734635,1541459225]
 some x1
def Lw(a0:List Int):=
 aA (λ(y1:Unit)=>
 some ((a0.length:Int)==8)) λk2=>
 wA FU (λ(x3:Int) k4=>
 cond (decide (x3<(a0.length:Int)))
 (ob (nA a0 x3) λe5=>
 cond (!(eA e5 0 4294967295))
 (some false)
 (k4 (gA .i64 x3 1)))
 (k2 ())) 0
def Py:=
 let x1:List Int:=[1116352408,1899447441,3049323471,3921009573,961987163,1508970993,2453635748,2870763221,3624381080,310598401,607225278,1426881987,1925078388,2162078206,2614888103,3248222580,3835390401,4022224774,264347078,604807628,770255983,1249150122,1555081692,1996064986,2554220882,2821834349,2952996808,3210313671,3336571891,3584528711,113926993,338241895,666307205,773529912,1294757372,1396182291,1695183700,1986661051,2177026350,2456956037,2730485921,2820302411,3259730800,3345764771,3516065817,3600352804,4094571909,275423344,430227734,506948616,659060556,883997877,958139571,1322822218,1537002063,1747873779,1955562222,2024104815,2227730452,2361852424,2428436474,2756734187,3204031479,3329325298]
 some x1
def Lx(a0:List UInt8)(a1:Int)(a2:Int):=
 aA (λy1=>
 cond (y1)
 (some (0,0,false))
 (aA (λ(y3:Int)=>
 some (y3,gA .i64 a1 a2,true)) λk4=>
 wA FU (λ(x5:Int×Int) k6=>
 cond (decide (x5.2<a2))
 (ob (nA a0 (gA .i64 a1 x5.2)) λe7=>
 let x8:Int:=IntKind.wrap .i64 ((e7.toNat:Nat):Int)
 k6 ((gA .i64 (KB .i64 x5.1 256) x8),(gA .i64 x5.2 1)))
 (k4 x5.1)) (0,0))) λk2=>
 cond (decide (a2<1))
 (k2 true)
 (cond (decide (a2>6))
 (k2 true)
 (cond (decide (a1<0))
 (k2 true)
 (k2 (decide (a1>(qA .i64 (a0.length:Int) a2))))))
def Ly(a0:Int)(a1:Int):=
 aA (λy1=>
 cond (y1)
 (some (zB .i64 a0 4294967295))
 (cond (decide (a1<0)) none (cond (decide ((qA .i64 32 a1)<0)) none (let x3:Int:=jJ .i64 (zB .i64 a0 4294967295) (qA .i64 32 a1)
 let x4:Int:=sK .i64 (uE .i64 (zB .i64 a0 4294967295) a1) x3
 some (zB .i64 x4 4294967295))))) λk2=>
 cond (decide (a1<1))
 (k2 true)
 (k2 (decide (a1>31)))
def Lz(a0:List UInt8):=
 cond ((a0.length:Int) !=64)
 (some [])
 (aA (λ(y1:(List Int))=>
 aA (λ(y6:(List Int))=>
 some y6) λk7=>
 wA FU (λ(x8:(List Int)×Int) k9=>
 cond (decide (x8.2<64))
 (cond (decide (0≤qA .i64 x8.2 15)&&decide (qA .i64 x8.2 15<(x8.1.length:Int))) (ob (x8.1[(qA .i64 x8.2 15).toNat]?) λe10=>
 cond (decide (0≤qA .i64 x8.2 2)&&decide (qA .i64 x8.2 2<(x8.1.length:Int))) (ob (x8.1[(qA .i64 x8.2 2).toNat]?) λe11=>
 ob (WD e10 7) λr12=>
 ob (WD e10 18) λr13=>
 let x14:Int:=qB .i64 (qB .i64 r12 r13) (uE .i64 e10 3)
 ob (WD e11 17) λr15=>
 ob (WD e11 19) λr16=>
 let x17:Int:=qB .i64 (qB .i64 r15 r16) (uE .i64 e11 10)
 cond (decide (0≤qA .i64 x8.2 7)&&decide (qA .i64 x8.2 7<(x8.1.length:Int))) (ob (x8.1[(qA .i64 x8.2 7).toNat]?) λe18=>
 cond (decide (0≤qA .i64 x8.2 16)&&decide (qA .i64 x8.2 16<(x8.1.length:Int))) (ob (x8.1[(qA .i64 x8.2 16).toNat]?) λe19=>
 let x20:Int:=gA .i64 (gA .i64 (gA .i64 e18 e19) x14) x17
 cond (decide (x8.1.length+[zB .i64 x20 4294967295].length≤bA)) (k9 ((x8.1++[zB .i64 x20 4294967295]),(gA .i64 x8.2 1))) none) none) none) none) none)
 (k7 x8.1)) (y1,16)) λk2=>
 wA FU (λ(x3:(List Int)×Int) k4=>
 cond (decide (x3.2<16))
 (ob (YG a0 (KB .i64 4 x3.2) 4) λr5=>
 cond (decide (x3.1.length+[r5.1].length≤bA)) (k4 ((x3.1++[r5.1]),(gA .i64 x3.2 1))) none)
 (k2 x3.1)) ([],0))
def Ma(a0:List Int)(a1:List UInt8):=
 cond (decide (([]:List Int).length+a0.length≤bA)) (aA (λy1=>
 cond (y1)
 (some ([]++a0))
 (let r3:(List Int):=nI
 ob (XL a1) λr4=>
 ob (nA a0 0) λe5=>
 ob (nA a0 1) λe6=>
 ob (nA a0 2) λe7=>
 ob (nA a0 3) λe8=>
 ob (nA a0 4) λe9=>
 ob (nA a0 5) λe10=>
 ob (nA a0 6) λe11=>
 ob (nA a0 7) λe12=>
 aA (λ(y13:Int×Int×Int×Int×Int×Int×Int×Int)=>
 let x34:List Int:=[y13.1,y13.2.1,y13.2.2.1,y13.2.2.2.1,y13.2.2.2.2.1,y13.2.2.2.2.2.1,y13.2.2.2.2.2.2.1,y13.2.2.2.2.2.2.2]
 aA (λ(y35:(List Int))=>
 some y35) λk36=>
 wA FU (λ(x37:Int×(List Int)) k38=>
 cond (decide (x37.1<8))
 (ob (nA a0 x37.1) λe39=>
 cond (decide (0≤x37.1)&&decide (x37.1<(x34.length:Int))) (ob (x34[x37.1.toNat]?) λe40=>
 cond (decide (0≤x37.1)&&decide (x37.1<(x37.2.length:Int))) (ob (x37.2[x37.1.toNat]?) λe41=>
 let l42:List Int:=List.set x37.2 x37.1.toNat (zB .i64 (gA .i64 e39 e40) 4294967295)
 k38 ((gA .i64 x37.1 1),l42)) none) none)
 (k36 x37.2)) (0,([]++a0))) λk14=>
 wA FU (λ(x15:Int×Int×Int×Int×Int×Int×Int×Int×Int) k16=>
 cond (decide (x15.2.2.2.2.2.2.2.2<64))
 (ob (WD x15.2.2.2.2.1 6) λr17=>
 ob (WD x15.2.2.2.2.1 11) λr18=>
 ob (WD x15.2.2.2.2.1 25) λr19=>
 let x20:Int:=gA .i64 x15.2.2.2.2.2.2.2.1 (qB .i64 (qB .i64 r17 r18) r19);let x21:Int:=zB .i64 (qB .i64 x15.2.2.2.2.1 4294967295) x15.2.2.2.2.2.2.1;let x22:Int:=qB .i64 (zB .i64 x15.2.2.2.2.1 x15.2.2.2.2.2.1) x21
 cond (decide (0≤x15.2.2.2.2.2.2.2.2)&&decide (x15.2.2.2.2.2.2.2.2<(r3.length:Int))) (ob (r3[x15.2.2.2.2.2.2.2.2.toNat]?) λe23=>
 cond (decide (0≤x15.2.2.2.2.2.2.2.2)&&decide (x15.2.2.2.2.2.2.2.2<(r4.length:Int))) (ob (r4[x15.2.2.2.2.2.2.2.2.toNat]?) λe24=>
 let x25:Int:=gA .i64 (gA .i64 (gA .i64 x20 x22) e23) e24
 ob (WD x15.1 2) λr26=>
 ob (WD x15.1 13) λr27=>
 ob (WD x15.1 22) λr28=>
 let x29:Int:=qB .i64 (zB .i64 x15.1 x15.2.1) (zB .i64 x15.1 x15.2.2.1);let x30:Int:=qB .i64 x29 (zB .i64 x15.2.1 x15.2.2.1);let x31:Int:=gA .i64 (qB .i64 (qB .i64 r26 r27) r28) x30;let x32:Int:=gA .i64 x15.2.2.2.1 (zB .i64 x25 4294967295);let x33:Int:=gA .i64 (zB .i64 x25 4294967295) (zB .i64 x31 4294967295)
 k16 ((zB .i64 x33 4294967295),x15.1,x15.2.1,x15.2.2.1,(zB .i64 x32 4294967295),x15.2.2.2.2.1,x15.2.2.2.2.2.1,x15.2.2.2.2.2.2.1,(gA .i64 x15.2.2.2.2.2.2.2.2 1))) none) none)
 (k14 (x15.1,x15.2.1,x15.2.2.1,x15.2.2.2.1,x15.2.2.2.2.1,x15.2.2.2.2.2.1,x15.2.2.2.2.2.2.1,x15.2.2.2.2.2.2.2.1))) (e5,e6,e7,e8,e9,e10,e11,e12,0))) λk2=>
 cond (!(zcL a0))
 (k2 true)
 (k2 ((a1.length:Int) !=64))) none
def Mb(a0:List Int):=
 aA (λ(y1:(List UInt8))=>
 some y1) λk2=>
 wA FU (λ(x3:(List UInt8)×Int) k4=>
 cond (decide (x3.2<8))
 (ob (nA a0 x3.2) λe5=>
 ob (JB x3.1 e5 4) λr6=>
 k4 (r6,(gA .i64 x3.2 1)))
 (k2 x3.1)) ([],0)
def Mc(a0:List UInt8):=
 cond (decide ((a0.length:Int)>1048576))
 (some [])
 (cond (decide (([]:List UInt8).length+a0.length≤bA)) (ob (JM (a0.length:Int)) λr1=>
 cond (decide (([]++a0).length+r1.length≤bA)) (let r2:(List Int):=rE
 aA (λ(y3:(List Int))=>
 ob (HK y3) λr8=>
 some r8) λk4=>
 wA FU (λ(x5:(List Int)×Int) k6=>
 cond (decide (x5.2<((([]++a0)++r1).length:Int)))
 (cond (decide (0≤x5.2)&&decide (x5.2≤(gA .i64 x5.2 64))&&decide ((gA .i64 x5.2 64)≤((([]++a0)++r1).length:Int))) (ob (OK x5.1 (List.take ((gA .i64 x5.2 64 - x5.2).toNat) (List.drop x5.2.toNat (([]++a0)++r1)))) λr7=>
 k6 (r7,(gA .i64 x5.2 64))) none)
 (k4 x5.1)) (r2,0)) none) none)
def Md(a0:List UInt8):=
 cond (decide ((a0.length:Int)>1048576))
 (some [])
 (cond (decide (([]:List UInt8).length+a0.length≤bA)) (aA (λ(y1:(List UInt8))=>
 aA (λ(y4:(List UInt8))=>
 some y4) λk5=>
 wA FU (λ(x6:(List UInt8)) k7=>
 cond (decide ((x6.length:Int)<64))
 (cond (decide (x6.length+[UInt8.ofNat (0:Int).toNat].length≤bA)) (k7 (x6++[UInt8.ofNat (0:Int).toNat])) none)
 (k5 x6)) y1) λk2=>
 cond (decide ((a0.length:Int)>64))
 (let r3:(List UInt8):=wE a0
 k2 r3)
 (k2 ([]++a0))) none)
def Me(a0:List UInt8)(a1:List UInt8):=
 aA (λy1=>
 cond (y1)
 (some [])
 (let r3:(List UInt8):=SD a0
 aA (λ(y4:(List UInt8)×(List UInt8))=>
 cond (decide (y4.1.length+a1.length≤bA)) (let r12:(List UInt8):=wE (y4.1++a1)
 cond (decide (y4.2.length+r12.length≤bA)) (let r13:(List UInt8):=wE (y4.2++r12)
 some r13) none) none) λk5=>
 wA FU (λ(x6:(List UInt8)×(List UInt8)×Int) k7=>
 cond (decide (x6.2.2<64))
 (cond (decide (0≤x6.2.2)&&decide (x6.2.2<(r3.length:Int))) (ob (r3[x6.2.2.toNat]?) λe8=>
 let x9:List UInt8:=[UInt8.ofNat (qB .u8 ((e8.toNat:Nat):Int) 54:Int).toNat]
 cond (decide (x6.1.length+x9.length≤bA)) (cond (decide (0≤x6.2.2)&&decide (x6.2.2<(r3.length:Int))) (ob (r3[x6.2.2.toNat]?) λe10=>
 let x11:List UInt8:=[UInt8.ofNat (qB .u8 ((e10.toNat:Nat):Int) 92:Int).toNat]
 cond (decide (x6.2.1.length+x11.length≤bA)) (k7 ((x6.1++x9),(x6.2.1++x11),(gA .i64 x6.2.2 1))) none) none) none) none)
 (k5 (x6.1,x6.2.1))) ([],[],0))) λk2=>
 cond (decide ((a0.length:Int)>1048576))
 (k2 true)
 (k2 (decide ((a1.length:Int)>1048512)))
def Mf(a0:List UInt8)(a1:Int):=
 aA (λy1=>
 cond (y1)
 (some [])
 (let x3:List UInt8:=[UInt8.ofNat (114:Int).toNat,UInt8.ofNat (111:Int).toNat,UInt8.ofNat (108:Int).toNat,UInt8.ofNat (108:Int).toNat]
 ob (JB x3 a1 4) λr4=>
 let r5:(List UInt8):=IC a0 r4
 cond (decide (0≤(0:Int))&&decide ((0:Int)≤12)&&decide (12≤(r5.length:Int))) (cond (decide (([]:List UInt8).length+(List.take 12 (List.drop 0 r5)).length≤bA)) (some ([]++(List.take 12 (List.drop 0 r5)))) none) none)) λk2=>
 cond (!(eA (a0.length:Int) 1 32))
 (k2 true)
 (k2 (!(eA a1 0 10000)))
end
end Go.D
namespace Go.D
end Go.D
namespace Go.D
def zfB{σ R:Type}(n:Nat)(hn:n≤maxLen)(S:Nat→σ)(z:Option R){f:σ×Int→(σ×Int→Option R)→Option R}
  (hf:∀(i:Nat) k,i<n→f (S i,(i:Int)) k=k (S (i+1),IntKind.wrap .i64 ((i:Int)+1))) (hz:∀k,f (S n,(n:Int)) k=z) (a:Nat) (ha:a≤n):wA FU f (S a,(a:Int))=z:=by
 refine xH (g:=λ_=>z) (λx=>∃i:Nat,i≤n∧x=(S i,(i:Int))) (λx=>n - x.2.toNat) (λx hx k hk=>?_) ⟨a,ha,rfl⟩ (by unfold maxLen at hn;simp only[Int.toNat_natCast];omega);obtain⟨i,hi,rfl⟩:=hx
 rcases Nat.lt_or_eq_of_le hi with MV | rfl
 ·rw[hf i k MV,uG i (by omega)];exact hk _ ⟨i+1,MV,rfl⟩ (by simp only[Int.toNat_natCast];omega)
 ·exact hz k
def XN(n:Nat)(h:n<2^64):(BitVec.ofInt 64 (n:Int)).toNat=n:=by
 rw[BitVec.toNat_ofInt];omega
def zcX(a:Int):0≤YD a∧YD a≤4294967295:=by
 have h:(BitVec.ofInt 64 a&&&BitVec.ofInt 64 4294967295).toNat≤4294967295:=by
  rw[BitVec.toNat_and];exact Nat.le_trans Nat.and_le_right (by decide)
 unfold YD zB;show 0≤IntKind.wrap .i64 ((BitVec.ofInt 64 a&&&BitVec.ofInt 64 4294967295).toNat:Int)∧IntKind.wrap .i64 ((BitVec.ofInt 64 a&&&BitVec.ofInt 64 4294967295).toNat:Int)≤4294967295
 rw[IB (by omega) (by omega)];omega
def GU{a:Int}(h0:0≤a)(h1:a≤9223372036854775807):YD a=a % 4294967296:=by
 obtain⟨n,rfl⟩:=RF h0;unfold YD zB;show IntKind.wrap .i64 ((BitVec.ofInt 64 (n:Int)&&&BitVec.ofInt 64 ((4294967295:Nat):Int)).toNat:Int)=_
 rw[BitVec.toNat_and,XN n (by omega),XN _ (by decide)];have:=Nat.and_two_pow_sub_one_eq_mod n 32;rw[show(4294967295:Nat)=2^32 - 1 from rfl,this,IB (by omega) (by omega)];omega
def tD(a:Int):Prop:=0≤a∧a≤4294967295
def zdg(a:Int):tD (YD a):=zcX a
def AM{a b:Int}(ha:tD a)(hb:tD b):tD (qB .i64 a b):=by
 obtain⟨n,rfl⟩:=RF ha.1;obtain⟨m,rfl⟩:=RF hb.1;have h1:=ha.2;have h2:=hb.2;have h:(n^^^m)<2^32:=Nat.xor_lt_two_pow (by omega) (by omega);unfold qB;show tD (IntKind.wrap .i64 ((BitVec.ofInt 64 (n:Int)^^^BitVec.ofInt 64 (m:Int)).toNat:Int))
 rw[BitVec.toNat_xor,XN n (by omega),XN m (by omega),IB (by omega) (by omega)];exact⟨by omega,by omega⟩
def zrH(a b:Int):qB .i64 a b=qB .i64 b a:=by
 unfold qB;rw[BitVec.xor_comm]
def RU{a b:Int}(ha:tD a)(hb:tD b):tD (zB .i64 a b):=by
 obtain⟨n,rfl⟩:=RF ha.1;obtain⟨m,rfl⟩:=RF hb.1;have h1:=ha.2;have h2:=hb.2;have h:(n&&&m)≤m:=Nat.and_le_right;unfold zB;show tD (IntKind.wrap .i64 ((BitVec.ofInt 64 (n:Int)&&&BitVec.ofInt 64 (m:Int)).toNat:Int))
 rw[BitVec.toNat_and,XN n (by omega),XN m (by omega),IB (by omega) (by omega)];exact⟨by omega,by omega⟩
def NS(x n:Int):tD (aG x n):=zdg _
def wH{a b:Nat}(h:a+b≤bA):decide (a+b≤bA)=true:=decide_eq_true h
def za6.ok{x}(_:xA [.sl .byte] x){r}:yA x=some r→Ps x=some r:=OA λh=>by
 have h2:(show List UInt8 from x).length≤bA:=by rw[←FA];exact h
 show cond (decide (([]:List UInt8).length+(show List UInt8 from x).length≤bA)) _ _=_
 rw[lO h2];rfl
def zjB(b:List UInt8)(n k:Int)(h:wt b+6≤bA):Ld b n k=some (rD b n k):=by
 rw[FA]at h;simp only[Ld,aA,rD,List.nil_append];rw[lO (by omega)];simp only[cond_true]
 by_cases h1:k<1
 ·rw[decide_eq_true h1];rfl
 by_cases h2:k>6
 ·rw[decide_eq_false h1,decide_eq_true h2];rfl
 rw[decide_eq_false h1,decide_eq_false h2];simp only[cond_false,Bool.or_false];have hk:qA .i64 k 1=k - 1:=by rw[qA,IB (by omega) (by omega)]
 rw[hk];rw[xH (g:=λx:List UInt8×Int=>some (x.1++hG n (x.2+1).toNat)) (λx=> -1≤x.2∧x.2≤5∧(x.1.length:Int)+x.2+1≤(bA:Int)) (λx=>(x.2+1).toNat) (λx hx kk tZ=>?_) (x:=(b,k - 1)) ⟨by show -1≤k - 1;omega,by show k - 1≤5;omega,by show(b.length:Int)+(k - 1)+1≤(bA:Int);omega⟩ (by show(k - 1+1).toNat<2^64;omega)]
 ·rw[show k - 1+1=k by omega]
 ·obtain⟨l,i⟩:=x;obtain⟨g1,g2,g3⟩:=hx;simp only at g1 g2 g3⊢
  by_cases hi:0≤i
  ·obtain⟨j,rfl⟩:=RF hi;have e1:KB .i64 8 (j:Int)=8 *(j:Int):=IB (by omega) (by omega);have e2:qA .i64 (j:Int) 1=(j:Int) - 1:=by rw[qA,IB (by omega) (by omega)]
   have e3:decide (KB .i64 8 (j:Int)<0)=false:=decide_eq_false (by rw[e1];omega);rw[decide_eq_true (p:=(j:Int)≥0) hi,cond_true,e3,cond_false,wH (by simp;omega),cond_true,e2];refine(tZ (l++[vO n j],(j:Int) - 1) ⟨by show -1≤(j:Int) - 1;omega,by show(j:Int) - 1≤5;omega,by show((l++[vO n j]).length:Int)+((j:Int) - 1)+1≤(bA:Int);simp;omega⟩ (by show((j:Int) - 1+1).toNat<((j:Int)+1).toNat;omega)).trans ?_;simp only;rw[show((j:Int) - 1+1).toNat=j by omega,show((j:Int)+1).toNat=j+1 by omega,hG,List.append_assoc];rfl
  ·have:i= -1:=by omega
   subst this;simp[hG]
def bS.ok{x}(_:xA [.sl .byte, .v .int, .v .int] x){r}:JB x.1 x.2.1 x.2.2=some r→Ld x.1 x.2.1 x.2.2=some r:=OA λh=>zjB x.1 x.2.1 x.2.2 h
def zbp.ok{x}(_:xA [.sl .byte, .v .int, .v .int] x){r}:JB x.1 x.2.1 x.2.2=some r→Pw x.1 x.2.1 x.2.2=some r:=OA λh=>zjB x.1 x.2.1 x.2.2 h
def zjh:∀l:List (List UInt8),l.flatten.length≤wt l
 | []=>Nat.zero_le _
 | x :: l=>by
  have:=zjh l;rw[VC,FA,List.flatten_cons,List.length_append];omega
def znL(l:List (List UInt8))(h:wt l≤bA):Lf l=some l.flatten:=by
 simp only[Lf,aA];refine zfB l.length (wG h) (λi=>(l.take i).flatten) (some l.flatten) (λi k hi=>?_) (λk=>by simp only[ED,cond_false,List.take_length]) 0 (Nat.zero_le _);have e:(l.take (i+1)).flatten=(l.take i).flatten++l[i]:=by rw[aM l hi,List.flatten_append];simp
 have KV:=zjh (l.take (i+1));have h2:=TD l (i+1);rw[e,List.length_append]at KV;simp only[lD hi,cond_true,WB hi,rB,wH (show(l.take i).flatten.length+l[i].length≤bA by omega),e]
def NQ.ok{x}(_:xA [.sl .bs] x){r}:XC x=some r→Lf x=some r:=OA λh=>znL x h
def ztK(b:List UInt8)(f n:Int)(h:wt b≤bA)(hf:oE .i64 f)(hn:oE .i64 n):Lg b f n=some (cut b f n):=by
 have hl:b.length≤bA:=by rw[←FA];exact h
 have hL:=mB;have hf:=eS hf;simp only[Lg,aA,cut,List.nil_append]
 by_cases h1:f<0
 ·rw[decide_eq_true h1];rfl
 by_cases h2:n<0
 ·rw[decide_eq_false h1,decide_eq_true h2];rfl
 by_cases h3:f>(b.length:Int)
 ·rw[decide_eq_false h1,decide_eq_false h2,decide_eq_true h3];rfl
 have e:qA .i64 (b.length:Int) f=(b.length:Int) - f:=by rw[qA,IB (by omega) (by omega)]
 rw[e]
 by_cases h4:n>(b.length:Int) - f
 ·rw[decide_eq_false h1,decide_eq_false h2,decide_eq_false h3,decide_eq_true h4];rfl
 have e2:gA .i64 f n=f+n:=by rw[gA,IB (by omega) (by omega)]
 have e3:(decide (0≤f)&&decide (f≤f+n)&&decide (f+n≤(b.length:Int)))=true:=by simp;omega
 rw[decide_eq_false h1,decide_eq_false h2,decide_eq_false h3,decide_eq_false h4];simp only[cond_false,e2];rw[e3,show f+n - f=n by omega];have:((b.drop f.toNat).take n.toNat).length≤bA:=by rw[List.length_take,List.length_drop];omega
 rw[lO this];rfl
def gS.ok{x}(hb:xA [.sl .byte, .v .int, .v .int] x){r}:mJ x.1 x.2.1 x.2.2=some r→Lg x.1 x.2.1 x.2.2=some r:=OA λh=>
 ztK x.1 x.2.1 x.2.2 h (ZN hb.2.1 0 (by decide) rfl) (ZN hb.2.2 0 (by decide) rfl)
def zec(l:List UInt8){i:Nat}(hi:i<l.length):AG (l.take (i+1))=gA .i64 (KB .i64 (AG (l.take i)) 256) (IntKind.wrap .i64 ((l[i].toNat:Nat):Int)):=by
 rw[AG,aM l hi,List.foldl_append];rfl
def zov(b:List UInt8)(f k:Int)(h:wt b≤bA)(hf:oE .i64 f):Lx b f k=some (cH b f k):=by
 have hl:b.length≤bA:=by rw[←FA];exact h
 have hL:=mB;have hf:=eS hf;simp only[Lx,aA,cH]
 by_cases h1:k<1
 ·rw[decide_eq_true h1];rfl
 by_cases h2:k>6
 ·rw[decide_eq_false h1,decide_eq_true h2];rfl
 by_cases h3:f<0
 ·rw[decide_eq_false h1,decide_eq_false h2,decide_eq_true h3];rfl
 have e:qA .i64 (b.length:Int) k=(b.length:Int) - k:=by rw[qA,IB (by omega) (by omega)]
 rw[e]
 by_cases h4:f>(b.length:Int) - k
 ·rw[decide_eq_false h1,decide_eq_false h2,decide_eq_false h3,decide_eq_true h4];rfl
 rw[decide_eq_false h1,decide_eq_false h2,decide_eq_false h3,decide_eq_false h4];simp only[cond_false,Bool.or_false];obtain⟨a,rfl⟩:=RF (n:=f) (by omega);obtain⟨m,rfl⟩:=RF (n:=k) (by omega);simp only[Int.toNat_natCast];refine zfB m (by rw[oD];omega) (λi=>AG (((b.drop a).take m).take i)) _ (λi k hi=>?_) (λk=>?_) 0 (Nat.zero_le _)
 ·have e1:gA .i64 (a:Int) (i:Int)=((a+i:Nat):Int):=by rw[gA,IB (by omega) (by omega)];omega
  have MV:i<((b.drop a).take m).length:=by rw[List.length_take,List.length_drop];omega
  have hai:a+i<b.length:=by omega
  rw[lD hi,cond_true,e1,WB hai,rB,zec _ MV];simp only[List.getElem_take,List.getElem_drop]
 ·rw[ED,cond_false,List.take_of_length_le (i:=m) (by rw[List.length_take];omega)]
def NR.ok{x}(hb:xA [.sl .byte, .v .int, .v .int] x){r}:YG x.1 x.2.1 x.2.2=some r→Lx x.1 x.2.1 x.2.2=some r:=OA λh=>
 zov x.1 x.2.1 x.2.2 h (ZN hb.2.1 0 (by decide) rfl)
def zsA(p:List UInt8)(hp:p.length≤maxLen)(c:Int):wA FU (λ(x6:Int×Int) k7=>cond (decide (x6.2<(p.length:Int))) (cond (decide (0≤x6.2)&&decide (x6.2<(p.length:Int))) (Option.bind (p[x6.2.toNat]?) λe8=>
  k7 ((gA .i64 (KB .i64 256 x6.1) (IntKind.wrap .i64 ((e8.toNat:Nat):Int))),(gA .i64 x6.2 1))) none) (some (x6.1,c,true))) ((0:Int),(0:Int))=some (AG p,c,true):=by
 refine zfB p.length hp (λi=>AG (p.take i)) _ (λi k hi=>?_) (λk=>?_) 0 (Nat.zero_le _)
 ·have e3:(decide ((0:Int)≤(i:Int))&&decide ((i:Int)<(p.length:Int)))=true:=by simp;exact hi
  simp only[e3,lD hi,cond_true,Int.toNat_natCast,List.getElem?_eq_getElem hi,rB,zec _ hi,KB,Int.mul_comm 256];rw[show decide ((0:Int)≤(i:Int))=true from decide_eq_true (by omega)];rfl
 ·rw[ED,cond_false,List.take_length]
def zoR(b:List UInt8)(f k:Int)(h:wt b≤bA)(hf:oE .i64 f):Lh b f k=some (cH b f k):=by
 have hl:b.length≤bA:=by rw[←FA];exact h
 have hL:=mB;have hf:=eS hf;simp only[Lh,aA,cH,mJ,RA h,cut]
 by_cases h1:k<1
 ·rw[decide_eq_true h1];rfl
 by_cases h2:k>6
 ·rw[decide_eq_false h1,decide_eq_true h2];rfl
 by_cases h3:f<0
 ·rw[decide_eq_false h1,decide_eq_false h2,decide_eq_true h3];rfl
 rw[decide_eq_false h1,decide_eq_false h2,decide_eq_false h3,decide_eq_false (p:=k<0) (by omega)]
 by_cases h4:f>(b.length:Int) - k
 ·rw[decide_eq_true h4]
  by_cases h5:f>(b.length:Int)
  ·rw[decide_eq_true h5];rfl
  ·rw[decide_eq_false h5,decide_eq_true (p:=k>(b.length:Int) - f) (by omega)];rfl
 rw[decide_eq_false h4,decide_eq_false (p:=f>(b.length:Int)) (by omega),decide_eq_false (p:=k>(b.length:Int) - f) (by omega)];simp only[cond_false,Bool.or_false,Bool.not_true];obtain⟨a,rfl⟩:=RF (n:=f) (by omega);obtain⟨m,rfl⟩:=RF (n:=k) (by omega);simp only[Int.toNat_natCast];have KV:((b.drop a).take m).length=m:=by rw[List.length_take,List.length_drop];omega
 exact zsA _ (by rw[KV,oD];omega) _
def TR.ok{x}(hb:xA [.sl .byte, .v .int, .v .int] x){r}:YG x.1 x.2.1 x.2.2=some r→Lh x.1 x.2.1 x.2.2=some r:=OA λh=>
 zoR x.1 x.2.1 x.2.2 h (ZN hb.2.1 0 (by decide) rfl)
def zsG(l:List UInt8)(h:l.length≤4):0≤AG l∧AG l<256^l.length:=by
 have key:∀i,i≤l.length→0≤AG (l.take i)∧AG (l.take i)<256^i:=by
  intro i;induction i with
  | zero=>intro _;simp[AG]
  | succ i ih=>
   intro hi;have MV:i<l.length:=by omega
   obtain⟨h1,h2⟩:=ih (by omega);have hb:=UInt8.toNat_lt l[i]
   have hp:(256:Int)^i≤16777216:=by
    have:i=0∨i=1∨i=2∨i=3:=by omega
    rcases this with rfl | rfl | rfl | rfl<;>decide
   rw[zec l MV,Int.pow_succ];generalize (256:Int)^i=q at *;generalize AG (l.take i)=v at *;have e1:IntKind.wrap .i64 ((l[i].toNat:Nat):Int)=(l[i].toNat:Int):=IB (by omega) (by omega);have e2:KB .i64 v 256=v *256:=IB (by omega) (by omega);rw[e1,e2,gA,IB (by omega) (by omega)];omega
 have:=key l.length (Nat.le_refl _);rwa [List.take_length]at this
def ztV(x n:Int)(h:1≤n∧n≤31):Li x n=some (aG x n):=by
 simp only[Li,aA,aG,YD];rw[decide_eq_false (p:=n<0) (by omega),decide_eq_false (p:=n>31) (by omega)];have:qA .i64 32 n=32 - n:=by rw[qA,IB (by omega) (by omega)]
 rw[this,decide_eq_false (p:=32 - n<0) (by omega)];rfl
def sS.ok{x}(_:xA [.v .int, .v .int] x){r}:WD x.1 x.2=some r→Li x.1 x.2=some r:=OA λh=>ztV x.1 x.2 h
def zpr(a n:Int)(h:1≤n∧n≤31):Ly a n=some (aG a n):=by
 simp only[Ly,aA,aG,YD];rw[decide_eq_false (p:=n<1) (by omega),decide_eq_false (p:=n>31) (by omega),decide_eq_false (p:=n<0) (by omega)];have:qA .i64 32 n=32 - n:=by rw[qA,IB (by omega) (by omega)]
 rw[this,decide_eq_false (p:=32 - n<0) (by omega)];rfl
def qS.ok{x}(_:xA [.v .int, .v .int] x){r}:WD x.1 x.2=some r→Ly x.1 x.2=some r:=OA λh=>zpr x.1 x.2 h
def za8.ok{x}(_:xA [.v .int, .v .int] x):Pv x.1 x.2=some (HF x.1 x.2):=rfl
def zbh.ok{x}(_:xA [] x):Pt=some rE:=rfl
def zbg.ok{x}(_:xA [] x):Px=some rE:=rfl
def zb1.ok{x}(_:xA [] x):Py=some nI:=rfl
def lQ.ok{x}(hb:xA [.sl .int] x):Lw x=some (zcL x):=by
 show Lw (x:List Int)=some (uC (x:List Int) 8)
 have hl:(show List Int from x).length≤maxLen:=hb.1;generalize (show List Int from x)=l at hl⊢;simp only[Lw,aA];rw[zdQ l hl,uC];cases List.all _ _<;>rfl
def zrD:∀m:Fin 64,Jj (m.val:Int)=some (dM (m.val:Int)):=by decide+kernel
def VM.ok{x}(_:xA [.v .int] x):Jj x=some (dM x):=by
 show Jj (x:Int)=some (dM (x:Int))
 generalize (show Int from x)=i
 by_cases h:0≤i∧i≤63
 ·obtain⟨m,rfl⟩:=RF h.1;exact zrD ⟨m,by omega⟩
 ·simp only[Jj,aA,dM,if_neg h]
  by_cases h1:i<0
  ·rw[decide_eq_true h1];rfl
  ·rw[decide_eq_false h1,decide_eq_true (p:=i>63) (by omega)];rfl
end Go.D
namespace Go.D
def cI{X R:Type}(idx:X→Int)(E:Nat→X)(o4:∀i,idx (E i)=(i:Int))(n:Nat)(hn:n≤maxLen)(z:Option R){f:X→(X→Option R)→Option R}(a:Nat)(ha:a≤n)
  (hf:∀(i:Nat) k,a≤i→i<n→f (E i) k=k (E (i+1))) (hz:∀k,f (E n) k=z):wA FU f (E a)=z:=by
 refine xH (g:=λ_=>z) (λx=>∃i:Nat,a≤i∧i≤n∧x=E i) (λx=>n - (idx x).toNat) (λx hx k hk=>?_) ⟨a,Nat.le_refl _,ha,rfl⟩ (by rw[o4];unfold maxLen at hn;simp only[Int.toNat_natCast];omega);obtain⟨i,h0,hi,rfl⟩:=hx
 rcases Nat.lt_or_eq_of_le hi with MV | rfl
 ·rw[hf i k h0 MV];exact hk _ ⟨i+1,by omega,MV,rfl⟩ (by rw[o4,o4];simp only[Int.toNat_natCast];omega)
 ·exact hz k
def yF{n i:Nat}(h:i<n):(decide ((0:Int)≤(i:Int))&&decide ((i:Int)<(n:Int)))=true:=by simp;exact h
def uH{l:List Int}{i:Nat}(h:i<l.length):l[i]?=some (l.getD i 0):=by
 rw[List.getD_eq_getElem?_getD,List.getElem?_eq_getElem h];rfl
def jM{i c:Nat}(h:i≤maxLen)(hc:c≤i):qA .i64 (i:Int) (c:Int)=((i - c:Nat):Int):=by
 rw[oD]at h;rw[qA,IB (by omega) (by omega)];omega
def XH{i:Nat}(h:i<maxLen):gA .i64 (i:Int) 1=((i+1:Nat):Int):=uG i h
def zuD{i n:Nat}(h:i<n):decide ((i:Int)<(n:Int))=true:=decide_eq_true (by omega)
def JK(b:List UInt8):∀i,(qD b i).length=i
 | 0=>rfl
 | i+1=>by rw[qD,List.length_append,JK b i];rfl
def zp4(b:List UInt8)(w:List Int)(i:Nat):tD (cM b w i):=by
 unfold cM;split
 ·unfold cH;cases decide ((4:Int)<1)||(decide ((4:Int)>6)||(decide (((4 *i:Nat):Int)<0)||decide (((4 *i:Nat):Int)>(b.length:Int) - 4)))
  ·simp only[cond_false];have h4:((b.drop ((4 *i:Nat):Int).toNat).take (4:Int).toNat).length≤4:=by rw[List.length_take];exact Nat.min_le_left _ _
   have:=zsG _ h4
   have hp:(256:Int)^((b.drop ((4 *i:Nat):Int).toNat).take (4:Int).toNat).length≤4294967296:=by
    generalize ((b.drop ((4 *i:Nat):Int).toNat).take (4:Int).toNat).length=q at h4;have:q=0∨q=1∨q=2∨q=3∨q=4:=by omega
    rcases this with rfl | rfl | rfl | rfl | rfl<;>decide
   exact⟨this.1,by omega⟩
  ·show tD 0
   exact⟨by decide,by decide⟩
 ·exact zdg _
def zkC(b:List UInt8):∀(i j:Nat),tD ((qD b i).getD j 0)
 | 0,j=>by rw[show(qD b 0)=[]from rfl];simp;exact⟨by decide,by decide⟩
 | i+1,j=>by
  rw[qD,List.getD_eq_getElem?_getD,List.getElem?_append];split
  ·have:=zkC b i j;rwa [List.getD_eq_getElem?_getD]at this
  ·cases hj:j - (qD b i).length with
   | zero=>exact zp4 b _ i
   | succ m=>simp;exact⟨by decide,by decide⟩
def zlt{i:Nat}(h:i<16):KB .i64 4 (i:Int)=((4 *i:Nat):Int):=by
 rw[show KB .i64 4 (i:Int)=IntKind.wrap .i64 (4 *(i:Int))from rfl,IB (by omega) (by omega)];omega
def LE{β:Type}{x n:Int}{f:Int→Option β}(h:1≤n∧n≤31):Option.bind (WD x n) f=f (aG x n):=RA h
def zm5(b:List UInt8)(h:wt b≤bA):Lz b=some (zC b):=by
 simp only[Lz,aA,zC]
 by_cases hl:b.length=64
 case neg=>
  rw[show((b.length:Int) !=64)=true from bne_iff_ne.2 (by omega),if_neg hl];rfl
 rw[show((b.length:Int) !=64)=false by simp[hl],if_pos hl,cond_false];have hL:=mB;refine(cI (X:=List Int×Int) (λx=>x.2) (λi=>(qD b i,(i:Int))) (λ_=>rfl) 16 (by decide) (some (qD b 64)) 0 (by decide) (λi k _ hi=>?_) (λk=>?_))
 ·simp only[zuD (show i<16 from hi),show((16:Nat):Int)=16 from rfl,decide_eq_true (p:=(i:Int)<16) (by omega),cond_true,zlt hi,YG,RA h,XH (i:=i) (by rw[oD];omega)];rw[wH (by rw[JK];simp;omega),cond_true,qD,cM,if_pos hi]
 ·simp only[show((16:Nat):Int)=16 from rfl,show decide ((16:Int)<16)=false from rfl,cond_false];refine(cI (X:=List Int×Int) (λx=>x.2) (λi=>(qD b i,(i:Int))) (λ_=>rfl) 64 (by decide) (some (qD b 64)) 16 (by decide) (λi k oY hi=>?_) (λk=>?_))
  ·have hm:i≤maxLen:=by rw[oD];omega
   have e15:qA .i64 (i:Int) 15=((i - 15:Nat):Int):=jM (c:=15) hm (by omega);have e2:qA .i64 (i:Int) 2=((i - 2:Nat):Int):=jM (c:=2) hm (by omega);have e7:qA .i64 (i:Int) 7=((i - 7:Nat):Int):=jM (c:=7) hm (by omega);have e16:qA .i64 (i:Int) 16=((i - 16:Nat):Int):=jM (c:=16) hm (by omega);have hs:=JK b i
   simp only[decide_eq_true (p:=(i:Int)<64) (by omega),cond_true,e15,e2,e7,e16,yF (show i - 15<(qD b i).length by omega),yF (show i - 2<(qD b i).length by omega),yF (show i - 7<(qD b i).length by omega),yF (show i - 16<(qD b i).length by omega),Int.toNat_natCast,
    uH (show i - 15<(qD b i).length by omega),uH (show i - 2<(qD b i).length by omega),uH (show i - 7<(qD b i).length by omega),uH (show i - 16<(qD b i).length by omega),rB,LE (show(1:Int)≤7∧(7:Int)≤31 by decide),LE (show(1:Int)≤18∧(18:Int)≤31 by decide),LE (show(1:Int)≤17∧(17:Int)≤31 by decide),LE (show(1:Int)≤19∧(19:Int)≤31 by decide),XH (i:=i) (by rw[oD];omega)]
   rw[wH (by rw[JK];simp;omega),cond_true,qD,cM,if_neg (by omega)];rfl
  ·simp only[show((64:Nat):Int)=64 from rfl,show decide ((64:Int)<64)=false from rfl,cond_false]
def DP.ok{x}(_:xA [.sl .byte] x){r}:XL x=some r→Lz x=some r:=OA λh=>zm5 x h
def bF(b:List UInt8)(i:Nat):List Int:=qD b i++List.replicate (64 - i) 0
def zhR(b:List UInt8){i:Nat}(hi:i<64)(v:Int)(hv:v=cM b (qD b i) i):List.set (bF b i) i v=bF b (i+1):=by
 subst hv;rw[bF,show 64 - i=(64 - (i+1))+1 by omega,List.replicate_succ,zk6 _ _ _ _ (JK b i),bF,qD,List.append_assoc];rfl
def zao(b:List UInt8){i j:Nat}(hj:j<i):(bF b i)[j]?=some ((qD b i).getD j 0):=by
 rw[bF,List.getElem?_append_left (by rw[JK];exact hj),uH (by rw[JK];exact hj)]
def zdY(b:List UInt8){i:Nat}(h:i≤64):(bF b i).length=64:=by
 rw[bF,List.length_append,JK,List.length_replicate];omega
def zhz(b:List UInt8){i j:Nat}(hi:i≤64)(hj:j<64):∃v,(bF b i)[j]?=some v:=⟨_,List.getElem?_eq_getElem (by rw[zdY b hi];exact hj)⟩
def zmW(b:List UInt8)(h:wt b≤bA):Lj b=some (zC b):=by
 simp only[Lj,aA,zC]
 by_cases hl:b.length=64
 case neg=>
  rw[show((b.length:Int) !=64)=true from bne_iff_ne.2 (by omega),if_neg hl];rfl
 rw[show((b.length:Int) !=64)=false by simp[hl],if_pos hl,cond_false];have hend:bF b 64=qD b 64:=by simp[bF]
 refine(cI (X:=Int×List Int) (λx=>x.1) (λi=>((i:Int),bF b i)) (λ_=>rfl) 16 (by decide) (some (qD b 64)) 0 (by decide) (λi k _ hi=>?_) (λk=>?_))
 ·have KV:=zdY b (i:=i) (by omega);obtain⟨v,hv⟩:=zhz b (i:=i) (j:=i) (by omega) (by omega);simp only[decide_eq_true (p:=(i:Int)<16) (by omega),cond_true,zlt hi,YG,RA h,yF (show i<(bF b i).length by omega),Int.toNat_natCast,hv,rB,XH (i:=i) (by rw[oD];omega)];rw[zhR b (by omega) _ (by rw[cM,if_pos hi])]
 ·simp only[show((16:Nat):Int)=16 from rfl,show decide ((16:Int)<16)=false from rfl,cond_false];refine(cI (X:=Int×List Int) (λx=>x.1) (λi=>((i:Int),bF b i)) (λ_=>rfl) 64 (by decide) (some (qD b 64)) 16 (by decide) (λi k oY hi=>?_) (λk=>?_))
  ·have hm:i≤maxLen:=by rw[oD];omega
   have KV:=zdY b (i:=i) (by omega);obtain⟨v,hv⟩:=zhz b (i:=i) (j:=i) (by omega) (by omega);have e15:qA .i64 (i:Int) 15=((i - 15:Nat):Int):=jM (c:=15) hm (by omega);have e2:qA .i64 (i:Int) 2=((i - 2:Nat):Int):=jM (c:=2) hm (by omega);have e7:qA .i64 (i:Int) 7=((i - 7:Nat):Int):=jM (c:=7) hm (by omega);have e16:qA .i64 (i:Int) 16=((i - 16:Nat):Int):=jM (c:=16) hm (by omega)
   simp only[decide_eq_true (p:=(i:Int)<64) (by omega),cond_true,e15,e2,e7,e16,yF (show i - 15<(bF b i).length by omega),yF (show i - 2<(bF b i).length by omega),yF (show i - 7<(bF b i).length by omega),yF (show i - 16<(bF b i).length by omega),yF (show i<(bF b i).length by omega),Int.toNat_natCast,
    zao b (show i - 15<i by omega),zao b (show i - 2<i by omega),zao b (show i - 7<i by omega),zao b (show i - 16<i by omega),hv,rB,LE (show(1:Int)≤7∧(7:Int)≤31 by decide),LE (show(1:Int)≤18∧(18:Int)≤31 by decide),LE (show(1:Int)≤17∧(17:Int)≤31 by decide),LE (show(1:Int)≤19∧(19:Int)≤31 by decide),XH (i:=i) (by rw[oD];omega)]
   rw[zhR b hi _ (by rw[cM,if_neg (by omega)];rfl)]
  ·simp only[show((64:Nat):Int)=64 from rfl,show decide ((64:Int)<64)=false from rfl,cond_false,hend]
def NP.ok{x}(_:xA [.sl .byte] x){r}:XL x=some r→Lj x=some r:=OA λh=>zmW x h
def zqx(b:List UInt8)(j:Nat):tD ((zC b).getD j 0):=by
 unfold zC;split
 ·exact zkC b 64 j
 ·simp;exact⟨by decide,by decide⟩
end Go.D
namespace Go.D
def zjo:nI.length=64:=by decide
def zuT:∀m:Fin 64,decide (0≤nI.getD m.val 0)&&decide (nI.getD m.val 0≤4294967295)=true:=by decide+kernel
def k_w{i:Nat}(h:i<64):tD (nI.getD i 0):=by
 have:=zuT ⟨i,h⟩;simp only[Bool.and_eq_true,decide_eq_true_eq]at this;exact this
def zok{i:Nat}(h:i<64):dM (i:Int)=nI.getD i 0:=by
 rw[dM,if_pos (by omega),Int.toNat_natCast]
def W8(s:S8):Prop:=tD s.1∧tD s.2.1∧tD s.2.2.1∧tD s.2.2.2.1∧tD s.2.2.2.2.1∧tD s.2.2.2.2.2.1∧tD s.2.2.2.2.2.2.1∧tD s.2.2.2.2.2.2.2
def ztv(k w:Int){s:S8}(h:W8 s):W8 (zdc k w s):=⟨zdg _,h.1,h.2.1,h.2.2.1,zdg _,h.2.2.2.2.1,h.2.2.2.2.2.1,h.2.2.2.2.2.2.1⟩
def zje(w:List Int){s:S8}(h:W8 s):∀i,W8 (rounds w s i)
 | 0=>h
 | i+1=>ztv _ _ (zje w h i)
def WU{a b:Int}{m n:Int}(ha:0≤a∧a≤m)(hb:0≤b∧b≤n)(h:m+n≤9223372036854775807):0≤gA .i64 a b∧gA .i64 a b≤m+n:=by
 rw[gA,IB (by omega) (by omega)];omega
def zuN:tD 4294967295:=⟨by decide,by decide⟩
def zxx{k w:Int}{s:S8}(hk:tD k)(hw:tD w)(h:W8 s):0≤rT k w s∧rT k w s≤21474836475:=by
 obtain⟨_,_,_,_,h5,h6,h7,h8⟩:=h;have a1:=AM (AM (NS s.2.2.2.2.1 6) (NS s.2.2.2.2.1 11)) (NS s.2.2.2.2.1 25);have a2:=AM (RU h5 h6) (RU (AM h5 zuN) h7);have b1:=WU h8 a1 (by decide);have b2:=WU b1 a2 (by decide);have b3:=WU b2 hk (by decide);exact WU b3 hw (by decide)
def zwJ{s:S8}(h:W8 s):0≤rU s∧rU s≤8589934590:=by
 obtain⟨h1,h2,h3,_⟩:=h;exact WU (AM (AM (NS s.1 2) (NS s.1 13)) (NS s.1 22)) (AM (AM (RU h1 h2) (RU h1 h3)) (RU h2 h3)) (by decide)
def zke{a b:Int}(ha:0≤a∧a≤1099511627776)(hb:0≤b∧b≤1099511627776):YD (gA .i64 a b)=YD (gA .i64 (YD a) (YD b)):=by
 have h1:=zcX a;have h2:=zcX b;rw[gA,gA,IB (by omega) (by omega),IB (by omega) (by omega),GU (by omega) (by omega),GU (a:=YD a+YD b) (by omega) (by omega),GU ha.1 (by omega),GU hb.1 (by omega)];omega
def zuQ{a:Int}(h:tD a):YD a=a:=by
 rw[GU h.1 (Int.le_trans h.2 (by decide))];have:=h.1;have:=h.2;omega
def CK{h:List Int}(hw:uC h 8=true):h.length=8∧∀j,tD (h.getD j 0):=by
 simp only[uC,Bool.and_eq_true,beq_iff_eq,List.all_eq_true]at hw;refine⟨by omega,λj=>?_⟩
 by_cases hj:j<h.length
 ·rw[List.getD_eq_getElem?_getD,List.getElem?_eq_getElem hj];exact yD.1 (hw.1 _ (List.getElem_mem hj))
 ·rw[List.getD_eq_getElem?_getD,List.getElem?_eq_none (by omega)];exact⟨by decide,by decide⟩
def zvj{h:List Int}(hw:uC h 8=true):W8 (ZD h):=by
 have:=(CK hw).2;exact⟨this 0,this 1,this 2,this 3,this 4,this 5,this 6,this 7⟩
def zcd(h:List Int)(s:S8)(hl:h.length=8):(List.zipWith HF h (DH s)).length=8:=by
 rw[List.length_zipWith,hl];rfl
def zqi{h:List Int}(b:List UInt8)(hw:uC h 8=true):uC (kF h b) 8=true:=by
 have hl:=(CK hw).1;simp only[uC,Bool.and_eq_true,beq_iff_eq,List.all_eq_true];refine⟨λx hx=>?_,?_⟩
 ·obtain⟨i,hi,rfl⟩:=List.getElem_of_mem hx;have hi2:i<(List.zipWith HF h (DH (rounds (zC b) (ZD h) 64))).length:=hi;show eA ((List.zipWith HF h (DH (rounds (zC b) (ZD h) 64)))[i]'hi2) 0 4294967295=true
  rw[List.getElem_zipWith];exact yD.2 (zcX _)
 ·have:=zcd h (rounds (zC b) (ZD h) 64) hl;show((List.zipWith HF h (DH (rounds (zC b) (ZD h) 64))).length:Int)=8
  omega
def znZ{h:List Int}(b:List UInt8)(hw:uC h 8=true):uC (VK h b) 8=true:=by
 unfold VK;cases uC h 8&&b.length==64
 ·exact hw
 ·exact zqi b hw
def zhM{b:List UInt8}(h:b.length=64):(zC b).length=64:=by
 rw[zC,if_pos h,JK]
def QE(h:List Int)(z:List Int)(i:Nat):List Int:=z.take i++h.drop i
def zqQ{h z:List Int}(hl:h.length=z.length){i:Nat}(hi:i<z.length)(v:Int)(hv:v=z[i]):List.set (QE h z i) i v=QE h z (i+1):=by
 subst hv;have hi2:i<h.length:=by omega
 rw[QE,RR h hi2,zk6 _ _ _ _ (by rw[List.length_take];omega),QE,aM z hi,List.append_assoc];rfl
def zik{h z:List Int}(hl:h.length=z.length){i:Nat}(hi:i≤z.length):(QE h z i).length=z.length:=by
 rw[QE,List.length_append,List.length_take,List.length_drop];omega
def NE{l:List Int}{i:Nat}(h:i<l.length):nA l (i:Int)=some (l.getD i 0):=by rw[zjn,uH h]
def ztC(h:List Int)(s:S8)(hl:h.length=8){i:Nat}(hi:i<(List.zipWith HF h (DH s)).length):(List.zipWith HF h (DH s))[i]=HF (h.getD i 0) ((DH s).getD i 0):=by
 have h8:=zcd h s hl;rw[List.getElem_zipWith,List.getD_eq_getElem?_getD,List.getD_eq_getElem?_getD,List.getElem?_eq_getElem (by omega),List.getElem?_eq_getElem (by show i<8;omega)];rfl
def zbU{h:List Int}(b:List UInt8)(h8:h.length=8):(kF h b).length=8:=zcd h _ h8
def zjk{h:List Int}(b:List UInt8)(h8:h.length=8){i:Nat}(hi:i<8):List.set (QE h (kF h b) i) i (HF (h.getD i 0) ((DH (rounds (zC b) (ZD h) 64)).getD i 0))=QE h (kF h b) (i+1):=
 zqQ (by rw[zbU b h8,h8]) (by rw[zbU b h8];exact hi) _ (ztC h _ h8 (by rw[zcd h _ h8];exact hi)).symm
def zm1(h:List Int)(b:List UInt8)(hh:wt h≤bA∧wt b≤bA):Ma h b=some (VK h b):=by
 have KV:h.length≤bA:=by rw[←eL];exact hh.1
 simp only[Ma,aA,List.nil_append,VK,zcL,XL,RA hh.2];rw[show decide (([]:List Int).length+h.length≤bA)=true from decide_eq_true (by simpa using KV)];simp only[cond_true];cases hw:uC h 8
 ·rfl
 by_cases hb:b.length=64
 case neg=>
  rw[show((b.length:Int) !=64)=true from bne_iff_ne.2 (by omega),beq_false_of_ne hb];rfl
 rw[show((b.length:Int) !=64)=false by simp[hb],show(b.length==64)=true by simp[hb]];obtain⟨h8,hW⟩:=CK hw;have i0:nA h 0=some (h.getD 0 0):=NE (i:=0) (by omega);have i1:nA h 1=some (h.getD 1 0):=NE (i:=1) (by omega);have i2:nA h 2=some (h.getD 2 0):=NE (i:=2) (by omega);have i3:nA h 3=some (h.getD 3 0):=NE (i:=3) (by omega);have i4:nA h 4=some (h.getD 4 0):=NE (i:=4) (by omega);have i5:nA h 5=some (h.getD 5 0):=NE (i:=5) (by omega);have i6:nA h 6=some (h.getD 6 0):=NE (i:=6) (by omega);have i7:nA h 7=some (h.getD 7 0):=NE (i:=7) (by omega);simp only[Bool.not_true,cond_false,Bool.and_true,cond_true,i0,i1,i2,i3,i4,i5,i6,i7,rB];have I3:=zhM hb;refine cI (λx=>x.2.2.2.2.2.2.2.2) (λi=>((rounds (zC b) (ZD h) i).1,(rounds (zC b) (ZD h) i).2.1,(rounds (zC b) (ZD h) i).2.2.1,(rounds (zC b) (ZD h) i).2.2.2.1,(rounds (zC b) (ZD h) i).2.2.2.2.1,(rounds (zC b) (ZD h) i).2.2.2.2.2.1,(rounds (zC b) (ZD h) i).2.2.2.2.2.2.1,(rounds (zC b) (ZD h) i).2.2.2.2.2.2.2,(i:Int))) (λ_=>rfl) 64 (by decide) (some (kF h b)) 0 (by decide) (λi k _ hi=>?_) (λk=>?_)
 ·simp only[decide_eq_true (p:=(i:Int)<64) (by omega),cond_true,Int.toNat_natCast,yF (show i<nI.length by rw[zjo];exact hi),yF (show i<(zC b).length by omega),uH (show i<nI.length by rw[zjo];exact hi),uH (show i<(zC b).length by omega),rB,
   LE (show(1:Int)≤6∧(6:Int)≤31 by decide),LE (show(1:Int)≤11∧(11:Int)≤31 by decide),LE (show(1:Int)≤25∧(25:Int)≤31 by decide),LE (show(1:Int)≤2∧(2:Int)≤31 by decide),LE (show(1:Int)≤13∧(13:Int)≤31 by decide),LE (show(1:Int)≤22∧(22:Int)≤31 by decide),XH (i:=i) (by rw[oD];omega)]
  rfl
 ·simp only[show((64:Nat):Int)=64 from rfl,show decide ((64:Int)<64)=false from rfl,cond_false];have P1:=zbU b h8;refine cI (X:=Int×List Int) (λx=>x.1) (λi=>((i:Int),QE h (kF h b) i)) (λ_=>rfl) 8 (by decide) (some (kF h b)) 0 (by decide) (λi k _ hi=>?_) (λk=>?_)
  ·have d8:(QE h (kF h b) i).length=8:=by rw[zik (by rw[P1,h8]) (by rw[P1];omega),P1]
   have U4:i<(DH (rounds (zC b) (ZD h) 64)).length:=hi;have ho:(QE h (kF h b) i)[i]?=some ((QE h (kF h b) i).getD i 0):=uH (by omega);simp only[decide_eq_true (p:=(i:Int)<8) (by omega),cond_true,NE (show i<h.length by omega),rB,yF (show i<(QE h (kF h b) i).length by omega),ho,Int.toNat_natCast,XH (i:=i) (by rw[oD];omega)];have e1:=yF U4;have e2:=uH U4;unfold DH at e1 e2;rw[e1,cond_true,e2,rB];exact congrArg (λl=>k (((i+1:Nat):Int),l)) (zjk b h8 hi)
  ·simp only[show((8:Nat):Int)=8 from rfl,show decide ((8:Int)<8)=false from rfl,cond_false];rw[QE,List.take_of_length_le (by rw[P1];exact Nat.le_refl _),List.drop_eq_nil_of_le (by omega),List.append_nil]
def HP.ok{x}(_:xA [.sl .int, .sl .byte] x){r}:OK x.1 x.2=some r→Ma x.1 x.2=some r:=OA λh=>zm1 x.1 x.2 h
def zrx{k w:Int}{s:S8}(hk:tD k)(hw:tD w)(h:W8 s):zdc k w s=(HF (rT k w s) (rU s),s.1,s.2.1,s.2.2.1,HF s.2.2.2.1 (rT k w s),s.2.2.2.2.1,s.2.2.2.2.2.1,s.2.2.2.2.2.2.1):=by
 have ht:=zxx hk hw h;have hu:=zwJ h;have hd:=h.2.2.2.1;rw[zdc,HF,HF,zke (a:=rT k w s) (b:=rU s) ⟨ht.1,by omega⟩ ⟨hu.1,by omega⟩,zke (a:=s.2.2.2.1) (b:=rT k w s) ⟨hd.1,Int.le_trans hd.2 (by decide)⟩ ⟨ht.1,by omega⟩,zuQ hd]
def zm4(h:List Int)(b:List UInt8)(hh:wt h≤bA∧wt b≤bA):Lk h b=some (VK h b):=by
 have KV:h.length≤bA:=by rw[←eL];exact hh.1
 simp only[Lk,aA,List.nil_append,VK,XL,RA hh.2];rw[show decide (([]:List Int).length+h.length≤bA)=true from decide_eq_true (by simpa using KV)];simp only[cond_true];cases hw:uC h 8
 ·rfl
 by_cases hb:b.length=64
 case neg=>
  rw[show((b.length:Int) !=64)=true from bne_iff_ne.2 (by omega),beq_false_of_ne hb];rfl
 rw[show((b.length:Int) !=64)=false by simp[hb],show(b.length==64)=true by simp[hb]];obtain⟨h8,hW⟩:=CK hw;have i0:nA h 0=some (h.getD 0 0):=NE (i:=0) (by omega);have i1:nA h 1=some (h.getD 1 0):=NE (i:=1) (by omega);have i2:nA h 2=some (h.getD 2 0):=NE (i:=2) (by omega);have i3:nA h 3=some (h.getD 3 0):=NE (i:=3) (by omega);have i4:nA h 4=some (h.getD 4 0):=NE (i:=4) (by omega);have i5:nA h 5=some (h.getD 5 0):=NE (i:=5) (by omega);have i6:nA h 6=some (h.getD 6 0):=NE (i:=6) (by omega);have i7:nA h 7=some (h.getD 7 0):=NE (i:=7) (by omega);simp only[Bool.not_true,cond_false,Bool.and_true,cond_true,i0,i1,i2,i3,i4,i5,i6,i7,rB];have I3:=zhM hb;refine cI (λx=>x.2.2.2.2.2.2.2.2) (λi=>((rounds (zC b) (ZD h) i).1,(rounds (zC b) (ZD h) i).2.1,(rounds (zC b) (ZD h) i).2.2.1,(rounds (zC b) (ZD h) i).2.2.2.1,(rounds (zC b) (ZD h) i).2.2.2.2.1,(rounds (zC b) (ZD h) i).2.2.2.2.2.1,(rounds (zC b) (ZD h) i).2.2.2.2.2.2.1,(rounds (zC b) (ZD h) i).2.2.2.2.2.2.2,(i:Int))) (λ_=>rfl) 64 (by decide) (some (kF h b)) 0 (by decide) (λi k _ hi=>?_) (λk=>?_)
 ·have hs:=zrx (k_w hi) (zqx b i) (zje (zC b) (zvj hw) i)
  simp only[decide_eq_true (p:=(i:Int)<64) (by omega),cond_true,Int.toNat_natCast,yF (show i<(zC b).length by omega),uH (show i<(zC b).length by omega),rB,zok hi,zrH 4294967295,
   LE (show(1:Int)≤6∧(6:Int)≤31 by decide),LE (show(1:Int)≤11∧(11:Int)≤31 by decide),LE (show(1:Int)≤25∧(25:Int)≤31 by decide),LE (show(1:Int)≤2∧(2:Int)≤31 by decide),LE (show(1:Int)≤13∧(13:Int)≤31 by decide),LE (show(1:Int)≤22∧(22:Int)≤31 by decide),XH (i:=i) (by rw[oD];omega)]
  rw[rounds,hs];rfl
 ·simp only[show((64:Nat):Int)=64 from rfl,show decide ((64:Int)<64)=false from rfl,cond_false];have P1:=zbU b h8;refine cI (X:=Int×List Int) (λx=>x.1) (λi=>((i:Int),QE h (kF h b) i)) (λ_=>rfl) 8 (by decide) (some (kF h b)) 0 (by decide) (λi k _ hi=>?_) (λk=>?_)
  ·have d8:(QE h (kF h b) i).length=8:=by rw[zik (by rw[P1,h8]) (by rw[P1];omega),P1]
   have U4:i<(DH (rounds (zC b) (ZD h) 64)).length:=hi;have ho:(QE h (kF h b) i)[i]?=some ((QE h (kF h b) i).getD i 0):=uH (by omega);simp only[cond_true,NE (show i<h.length by omega),rB,yF (show i<(QE h (kF h b) i).length by omega),ho,Int.toNat_natCast,XH (i:=i) (by rw[oD];omega)];have e0:=lD U4;have e1:=yF U4;have e2:=uH U4;unfold DH at e0 e1 e2;rw[e0,cond_true,show decide ((0:Int)≤(i:Int))=true from decide_eq_true (by omega),Bool.and_true,cond_true,e2,rB];exact congrArg (λl=>k (((i+1:Nat):Int),l)) (zjk b h8 hi)
  ·simp only[List.length_cons,List.length_nil];rw[show decide (((8:Nat):Int)<((0+1+1+1+1+1+1+1+1:Nat):Int))=false from rfl,cond_false];rw[QE,List.take_of_length_le (by rw[P1];exact Nat.le_refl _),List.drop_eq_nil_of_le (by omega),List.append_nil]
def JP.ok{x}(_:xA [.sl .int, .sl .byte] x){r}:OK x.1 x.2=some r→Lk x.1 x.2=some r:=OA λh=>zm4 x.1 x.2 h
end Go.D
namespace Go.D
def KL:∀(n:Nat) (h:List Int) (b:List UInt8),uC h 8=true→uC (AC h n b) 8=true
 | 0,h,b,hw=>hw
 | n+1,h,b,hw=>KL n _ _ (znZ _ hw)
def zej:∀(n:Nat) (h:List Int) (b:List UInt8),AC h (n+1) b=VK (AC h n b) ((b.drop (64 *n)).take 64)
 | 0,h,b=>rfl
 | n+1,h,b=>by
  rw[AC,zej n,AC,List.drop_drop];rw[show 64+64 *n=64 *(n+1) by omega]
def zin:∀(m k:Nat) (h:List Int) (b:List UInt8),AC h (m+k) b=AC (AC h m b) k (b.drop (64 *m))
 | 0,k,h,b=>by simp[AC]
 | m+1,k,h,b=>by
  rw[show m+1+k=(m+k)+1 by omega,AC,zin m k,AC,List.drop_drop,show 64+64 *m=64 *(m+1) by omega]
def ziK:∀(m:Nat) (h:List Int) (b p:List UInt8),64 *m≤b.length→AC h m (b++p)=AC h m b
 | 0,h,b,p,_=>rfl
 | m+1,h,b,p,hl=>by
  rw[AC,AC,List.take_append_of_le_length (by omega),List.drop_append_of_le_length (by omega),ziK m _ _ _ (by rw[List.length_drop];omega)]
def zc5{h:List Int}(hw:uC h 8=true):wt h≤bA:=by
 rw[eL,(CK hw).1,mB];decide
def zqU(l:List UInt8)(h:64≤l.length):List.take (((l.length:Int) - 64).toNat) (List.drop 64 l)=l.drop 64:=by
 rw[List.take_of_length_le];rw[List.length_drop];omega
def zjv(n:Nat):64 *(n / 64)≤n:=Nat.mul_div_le n 64
def zmB(h:List Int)(b:List UInt8)(hb:wt b≤bA)(hw:uC h 8=true):Ll h b=some (AC h (b.length / 64) b,b.drop (64 *(b.length / 64))):=by
 have hl:b.length≤bA:=by rw[←FA];exact hb
 simp only[Ll,aA];refine xH (g:=λ_=>some (AC h (b.length / 64) b,b.drop (64 *(b.length / 64)))) (λx=>∃i:Nat,64 *i≤b.length∧x=(AC h i b,b.drop (64 *i))) (λx=>x.2.length) (λx hx k hk=>?_) (x:=(h,b)) ⟨0,Nat.zero_le _,by simp[AC]⟩ (by show b.length<2^64;rw[mB]at hl;omega);obtain⟨i,hi,rfl⟩:=hx;have hdl:(b.drop (64 *i)).length=b.length - 64 *i:=List.length_drop;have hds:=cF b (64 *i)
 by_cases tX:64 *(i+1)≤b.length
 ·have e1:decide (((b.drop (64 *i)).length:Int)≥64)=true:=decide_eq_true (by omega);have e2:(decide ((0:Int)≤0)&&decide ((0:Int)≤64)&&true)=true:=rfl;have e3:(decide ((0:Int)≤64)&&true&&decide (((b.drop (64 *i)).length:Int)≤((b.drop (64 *i)).length:Int)))=true:=by simp
  have U0:=hk (AC h (i+1) b,b.drop (64 *(i+1))) ⟨i+1,tX,rfl⟩ (by show(b.drop (64 *(i+1))).length<(b.drop (64 *i)).length;rw[List.length_drop,List.length_drop];omega);rw[zej,show 64 *(i+1)=64 *i+64 by omega, ←List.drop_drop]at U0;simp only[e1,e2,e3,cond_true,List.drop_zero,OK,RA (p:=wt (AC h i b)≤bA∧wt ((b.drop (64 *i)).take 64)≤bA) ⟨zc5 (KL i h b hw),Nat.le_trans (TD _ _) (Nat.le_trans hds hb)⟩,zqU _ (show 64≤(b.drop (64 *i)).length by omega)];exact U0
 ·have e1:decide (((b.drop (64 *i)).length:Int)≥64)=false:=decide_eq_false (by omega);have:i=b.length / 64:=by omega
  simp only[e1,cond_false, ←this]
def WO.ok{x}(_:xA [.sl .int, .sl .byte] x){r}:VS x.1 x.2=some r→Ll x.1 x.2=some r:=OA λh=>zmB x.1 x.2 h.2.2 h.2.1
def sN(n:Int):∀i,(hG n i).length=i
 | 0=>rfl
 | i+1=>by rw[hG,List.length_cons,sN n i]
def zc6(b:List UInt8)(n:Int):rD b n 4=b++hG n 4:=rfl
def zvv(b:List UInt8)(n:Int):rD b n 6=b++hG n 6:=rfl
def zhg(h:List Int){i:Nat}(hi:i<h.length):ZE (h.take (i+1))=ZE (h.take i)++hG (h.getD i 0) 4:=by
 rw[ZE,aM h hi,List.flatMap_append];simp[ZE,List.getD_eq_getElem?_getD,hi]
def zaj:∀h:List Int,(ZE h).length=4 *h.length
 | []=>rfl
 | x :: h=>by
  rw[ZE,List.flatMap_cons,List.length_append,sN,List.length_cons];have:=zaj h;rw[ZE]at this;omega
def zmL(h:List Int)(h8:h.length=8):Lo h=some (ZE h):=by
 have hL:=mB;simp only[Lo,aA];refine cI (X:=List UInt8×Int) (λx=>x.2) (λi=>(ZE (h.take i),(i:Int))) (λ_=>rfl) h.length (by rw[h8];decide) _ 0 (Nat.zero_le _) (λi k _ hi=>?_) (λk=>by simp only[ED,cond_false,List.take_length]);have hwl:=zaj (h.take i);rw[List.length_take]at hwl;simp only[lD hi,cond_true,NE hi,rB,JB,RA (p:=wt (ZE (h.take i))+6≤bA) (by rw[FA];omega),zc6,XH (i:=i) (by rw[oD];omega),zhg h hi]
def AP.ok{x}(_:xA [.sl .int] x){r}:HK x=some r→Lo x=some r:=OA λh=>zmL x h
def zod(h:List Int)(h8:h.length=8):Mb h=some (ZE h):=by
 have hL:=mB;simp only[Mb,aA];refine cI (X:=List UInt8×Int) (λx=>x.2) (λi=>(ZE (h.take i),(i:Int))) (λ_=>rfl) 8 (by decide) _ 0 (Nat.zero_le _) (λi k _ hi=>?_) (λk=>?_)
 ·have hwl:=zaj (h.take i);rw[List.length_take]at hwl;simp only[decide_eq_true (p:=(i:Int)<8) (by omega),cond_true,NE (show i<h.length by omega),rB,JB,RA (p:=wt (ZE (h.take i))+6≤bA) (by rw[FA];omega),zc6,XH (i:=i) (by rw[oD];omega),zhg h (show i<h.length by omega)]
 ·simp only[show((8:Nat):Int)=8 from rfl,show decide ((8:Int)<8)=false from rfl,cond_false];rw[List.take_of_length_le (by omega)]
def wR.ok{x}(_:xA [.sl .int] x){r}:HK x=some r→Mb x=some r:=OA λh=>zod x h
def ziQ:(UInt8.ofNat (0:Int).toNat)=0:=rfl
def zjj(n:Nat)(hn:n≤1048576)(z:List UInt8→Option (List UInt8)):wA FU (λ(x5:(List UInt8)) k6=>cond ((zA .i64 (gA .i64 (gA .i64 (n:Int) (x5.length:Int)) 8) 64) !=0)
  (cond (decide (x5.length+[UInt8.ofNat (0:Int).toNat].length≤bA)) (k6 (x5++[UInt8.ofNat (0:Int).toNat])) none) (z x5)) [UInt8.ofNat (128:Int).toNat]=z (128 :: List.replicate (fF n) 0):=by
 have hz:fF n<64:=Nat.mod_lt _ (by decide);have hL:=mB;refine xH (g:=λ_=>z (128 :: List.replicate (fF n) 0)) (λx=>∃j:Nat,j≤fF n∧x=128 :: List.replicate j 0) (λx=>fF n+1 - x.length) (λx hx k hk=>?_) ⟨0,Nat.zero_le _,rfl⟩ (by show fF n+1 - 1<2^64;omega);obtain⟨j,hj,rfl⟩:=hx
 have e1:gA .i64 (gA .i64 (n:Int) (((128 :: List.replicate j 0:List UInt8).length:Nat):Int)) 8=((n+(j+1)+8:Nat):Int):=by
  rw[List.length_cons,List.length_replicate];have a1:gA .i64 (n:Int) ((j+1:Nat):Int)=((n+(j+1):Nat):Int):=by rw[gA,IB (by omega) (by omega)];omega
  rw[a1,gA,IB (by omega) (by omega)];omega
 have e2:zA .i64 ((n+(j+1)+8:Nat):Int) 64=(((n+(j+1)+8) % 64:Nat):Int):=nS _ 64;simp only[e1,e2]
 rcases Nat.lt_or_eq_of_le hj with MV | rfl
 ·have:(n+(j+1)+8) % 64≠0:=by unfold fF at MV;omega
  rw[show((((n+(j+1)+8) % 64:Nat):Int) !=0)=true from bne_iff_ne.2 (by omega),cond_true,wH (by simp;omega),cond_true];refine hk _ ⟨j+1,MV,?_⟩ (by simp;omega);rw[ziQ,List.cons_append,List.replicate_succ']
 ·have:(n+(fF n+1)+8) % 64=0:=by unfold fF;omega
  rw[this];rfl
def ztq(n:Nat)(hn:n≤1048576):hG ((8 *n:Nat):Int) 6=[0,0]++hG ((8 *n:Nat):Int) 4:=by
 have h5:uE .i64 ((8 *n:Nat):Int) (KB .i64 8 ((5:Nat):Int))=0:=by
  show Int.fdiv ((8 *n:Nat):Int) 1099511627776=0
  rw[Int.fdiv_eq_ediv_of_nonneg _ (by decide)];omega
 have h4:uE .i64 ((8 *n:Nat):Int) (KB .i64 8 ((4:Nat):Int))=0:=by
  show Int.fdiv ((8 *n:Nat):Int) 4294967296=0
  rw[Int.fdiv_eq_ediv_of_nonneg _ (by decide)];omega
 rw[hG,hG];rw[show vO ((8 *n:Nat):Int) 5=0 by rw[vO,h5];rfl,show vO ((8 *n:Nat):Int) 4=0 by rw[vO,h4];rfl];rfl
def zll{n:Nat}(h:n≤1048576):KB .i64 8 (n:Int)=((8 *n:Nat):Int):=by
 rw[show KB .i64 8 (n:Int)=IntKind.wrap .i64 (8 *(n:Int))from rfl,IB (by omega) (by omega)];omega
def WT(n:Nat):(128 :: List.replicate (fF n) 0:List UInt8).length=fF n+1:=by simp
def zpm(n:Nat)(hn:n≤1048576):Lv (n:Int)=some (uD n):=by
 have hz:fF n<64:=Nat.mod_lt _ (by decide);have hL:=mB;simp only[Lv,aA,decide_eq_false (p:=(n:Int)<0) (by omega),decide_eq_false (p:=(n:Int)>1048576) (by omega),cond_false];rw[zjj n hn];simp only[JB,RA (p:=wt (128 :: List.replicate (fF n) 0:List UInt8)+6≤bA) (by rw[FA,WT];omega),zc6,zll hn];rw[RA (by rw[FA,List.length_append,WT,sN];omega),uD,List.append_assoc];rfl
def kS.ok{x}(_:xA [.v .int] x){r}:JM x=some r→Lv x=some r:=OA λh=>by
 obtain⟨n,hn⟩:=RF h.1;have hn:x=(n:Int):=hn;have h2:(x:Int)≤1048576:=h.2;subst hn;exact zpm n (by omega)
def zoW(n:Nat)(hn:n≤1048576):Ln (n:Int)=some (uD n):=by
 have hz:fF n<64:=Nat.mod_lt _ (by decide);have hL:=mB;have tW:eA (n:Int) 0 1048576=true:=yD.2 ⟨by omega,by omega⟩;simp only[Ln,aA,tW,Bool.not_true,cond_false];rw[zjj n hn (λy1=>cond (decide (y1.length+[UInt8.ofNat (0:Int).toNat,UInt8.ofNat (0:Int).toNat].length≤bA)) (Option.bind (JB (y1++[UInt8.ofNat (0:Int).toNat,UInt8.ofNat (0:Int).toNat]) (KB .i64 8 (n:Int)) 6) λr7=>some r7) none)];rw[wH (by rw[WT];simp;omega),cond_true,JB,RA (by rw[FA,List.length_append,WT];simp;omega),zvv,zll hn,ztq n hn,uD,List.append_assoc];rfl
def fS.ok{x}(_:xA [.v .int] x){r}:JM x=some r→Ln x=some r:=OA λh=>by
 obtain⟨n,hn⟩:=RF h.1;have hn:x=(n:Int):=hn;have h2:(x:Int)≤1048576:=h.2;subst hn;exact zoW n (by omega)
def zfz(n:Nat):(uD n).length=fF n+9:=by
 rw[uD,List.length_append,WT,List.length_append,sN];rfl
def zry(n:Nat):(n+(uD n).length) % 64=0:=by
 rw[zfz];unfold fF;omega
def zax.ok{x}(_:xA [] x):Pu=some rO:=rfl
def zqK(h:Ba):Le h=some (BG h):=by
 simp only[Le,aA,dD,Bool.cond_false_right,BG,Bool.and_assoc]
def fR.ok{x}(_:xA [.v .Hash] x):Le x=some (BG x):=zqK x
def zir{h:Ba}(hk:BG h=true):uC h.H 8=true∧0≤h.N∧h.N≤1048576∧h.Held.length<64∧∃n:Nat,h.N=(n:Int)∧n % 64=h.Held.length:=by
 simp only[BG,Bool.and_eq_true,yD,beq_iff_eq]at hk;obtain⟨⟨h1,h2⟩,h3⟩:=hk;obtain⟨n,hn⟩:=RF h2.1;rw[hn,show zA .i64 (n:Int) 64=((n % 64:Nat):Int)from nS n 64]at h3;exact⟨h1,h2.1,h2.2,by omega,n,hn,by omega⟩
def zqS{h:List Int}(hw:uC h 8=true):decide (([]:List Int).length+h.length≤bA)=true:=by
 have:=(CK hw).1;rw[this];decide
def zbP(a b:List UInt8):([a,b]:List (List UInt8)).flatten=a++b:=by simp
def zcW(a b:List UInt8):wt ([a,b]:List (List UInt8))=a.length+b.length+2:=by
 rw[VC,VC,zF,FA,FA];omega
def zna(h:Ba)(b:List UInt8)(hk:BG h=true)(hb:(b.length:Int)≤1048576 - h.N):
  Lm h b=some ⟨AC h.H ((h.Held++b).length / 64) (h.Held++b),(h.Held++b).drop (64 *((h.Held++b).length / 64)),h.N+b.length⟩:=by
 obtain⟨hw,n0,n1,hl,_⟩:=zir hk;have hL:=mB;have H8:wt (h.Held++b)≤bA:=by rw[FA,List.length_append];omega
 have e1:qA .i64 1048576 h.N=1048576 - h.N:=by rw[qA,IB (by omega) (by omega)]
 have e2:gA .i64 h.N (b.length:Int)=h.N+b.length:=by rw[gA,IB (by omega) (by omega)]
 simp only[Lm,aA,hk,Bool.not_true,cond_false,e1,decide_eq_false (p:=(b.length:Int)>1048576 - h.N) (by omega),XC,RA (p:=wt ([h.Held,b]:List (List UInt8))≤bA) (by rw[zcW];omega),zbP,VS,
  RA (p:=wt h.H≤bA∧uC h.H 8=true∧wt (h.Held++b)≤bA) ⟨zc5 hw,hw,H8⟩,zqS (KL ((h.Held++b).length / 64) h.H (h.Held++b) hw),cond_true,yA,RA (p:=wt ((h.Held++b).drop (64 *((h.Held++b).length / 64)))≤bA) (Nat.le_trans (cF _ _) H8),List.nil_append,e2]
def FQ.ok{x}(_:xA [.v .Hash, .sl .byte] x){r}:zb7 x.1 x.2=some r→Lm x.1 x.2=some r:=OA λh=>zna x.1 x.2 h.1 h.2
def znq(h:Ba)(hk:BG h=true):Lp h=some (ZE (AC h.H ((h.Held++uD h.N.toNat).length / 64) (h.Held++uD h.N.toNat))):=by
 obtain⟨hw,n0,n1,hl,n,hn,_⟩:=zir hk;have hL:=mB;have hp:=zfz h.N.toNat;have hz:fF h.N.toNat<64:=Nat.mod_lt _ (by decide);have H8:wt (h.Held++uD h.N.toNat)≤bA:=by rw[FA,List.length_append];omega
 have hbw:=KL ((h.Held++uD h.N.toNat).length / 64) h.H (h.Held++uD h.N.toNat) hw
 simp only[Lp,hk,Bool.not_true,cond_false,JM,RA (p:=0≤h.N∧h.N≤1048576) ⟨n0,n1⟩,XC,RA (p:=wt ([h.Held,uD h.N.toNat]:List (List UInt8))≤bA) (by rw[zcW];omega),zbP,VS,
  RA (p:=wt h.H≤bA∧uC h.H 8=true∧wt (h.Held++uD h.N.toNat)≤bA) ⟨zc5 hw,hw,H8⟩,HK,RA (CK hbw).1]
def ZP.ok{x}(_:xA [.v .Hash] x){r}:zbR x=some r→Lp x=some r:=OA λh=>znq x h
def zaD:uC rE 8=true:=by decide
def zu8:BG rO=true:=by decide
def zsF(b:List UInt8)(hb:b.length≤1048576):
  AC (AC rE (b.length / 64) b) ((b.drop (64 *(b.length / 64))++uD b.length).length / 64) (b.drop (64 *(b.length / 64))++uD b.length)=AC rE ((b++uD b.length).length / 64) (b++uD b.length):=by
 have hd:=zjv b.length;have h1:(b.drop (64 *(b.length / 64))++uD b.length).length=b.length - 64 *(b.length / 64)+(uD b.length).length:=by rw[List.length_append,List.length_drop]
 have h2:(b++uD b.length).length / 64=b.length / 64+(b.drop (64 *(b.length / 64))++uD b.length).length / 64:=by rw[h1,List.length_append];omega
 rw[h2,zin,ziK _ _ _ _ hd,List.drop_append_of_le_length hd]
def zpt(b:List UInt8):Lq b=some (wE b):=by
 simp only[Lq,wE]
 by_cases h:(b.length:Int)>1048576
 ·rw[decide_eq_true h];rfl
 rw[decide_eq_false h];simp only[cond_false,zb7];rw[RA ⟨zu8,by show(b.length:Int)≤1048576 - 0;omega⟩];have e0:rO.Held++b=b:=rfl;have en:rO.N+(b.length:Int)=(b.length:Int):=Int.zero_add _;have eh:rO.H=rE:=rfl;rw[e0,en,eh];have hdl:=zjv b.length
 have fX:BG ⟨AC rE (b.length / 64) b,b.drop (64 *(b.length / 64)),(b.length:Int)⟩=true:=by
  simp only[BG,Bool.and_eq_true,yD,beq_iff_eq];refine⟨⟨KL _ _ _ zaD,by omega,by omega⟩,?_⟩;rw[show zA .i64 (b.length:Int) 64=((b.length % 64:Nat):Int)from nS _ 64,List.length_drop];omega
 rw[zbR,RA fX,Int.toNat_natCast,zsF b (by omega)];rfl
def pS.ok{x}(_:xA [.sl .byte] x):Lq x=some (wE x):=zpt x
def zsS(all:List UInt8)(hwa:wt all≤bA)(hm:64 *(all.length / 64)=all.length):wA FU (λ(x5:(List Int)×Int) k6=>cond (decide (x5.2<(all.length:Int)))
  (cond (decide (0≤x5.2)&&decide (x5.2≤(gA .i64 x5.2 64))&&decide ((gA .i64 x5.2 64)≤(all.length:Int))) (Option.bind (OK x5.1 (List.take ((gA .i64 x5.2 64 - x5.2).toNat) (List.drop x5.2.toNat all))) λr7=>k6 (r7,(gA .i64 x5.2 64))) none)
  (Option.bind (HK x5.1) λr8=>some r8)) (rE,0)=some (ZE (AC rE (all.length / 64) all)):=by
 have hL:=mB;have hla:all.length≤bA:=by rw[←FA];exact hwa
 refine xH (g:=λ_=>some (ZE (AC rE (all.length / 64) all))) (λx=>∃i:Nat,64 *i≤all.length∧x=(AC rE i all,((64 *i:Nat):Int))) (λx=>all.length - x.2.toNat) (λx hx k hk=>?_) (x:=(rE,0)) ⟨0,Nat.zero_le _,rfl⟩ (by show all.length - Int.toNat 0<2^64;simp;omega);obtain⟨i,hi,rfl⟩:=hx
 by_cases MV:64 *i<all.length
 ·have tX:64 *(i+1)≤all.length:=by omega
  have e1:gA .i64 ((64 *i:Nat):Int) 64=((64 *(i+1):Nat):Int):=by rw[gA,IB (by omega) (by omega)];omega
  have e2:(decide ((0:Int)≤((64 *i:Nat):Int))&&decide (((64 *i:Nat):Int)≤((64 *(i+1):Nat):Int))&&decide (((64 *(i+1):Nat):Int)≤(all.length:Int)))=true:=by simp;omega
  have e3:(((64 *(i+1):Nat):Int) - ((64 *i:Nat):Int)).toNat=64:=by omega
  have U0:=hk (AC rE (i+1) all,((64 *(i+1):Nat):Int)) ⟨i+1,tX,rfl⟩ (by simp only[Int.toNat_natCast];omega);rw[zej]at U0;simp only[lD MV,cond_true,e1,e2,e3,Int.toNat_natCast,OK,RA (p:=wt (AC rE i all)≤bA∧wt ((all.drop (64 *i)).take 64)≤bA) ⟨zc5 (KL i rE all zaD),Nat.le_trans (TD _ _) (Nat.le_trans (cF _ _) hwa)⟩];exact U0
 ·have hi2:i=all.length / 64:=by omega
  have e1:decide (((64 *i:Nat):Int)<(all.length:Int))=false:=decide_eq_false (by omega);simp only[e1,cond_false,HK,RA (CK (KL i rE all zaD)).1, ←hi2]
def zo0(b:List UInt8):Mc b=some (wE b):=by
 have hL:=mB;simp only[Mc,aA,wE,List.nil_append]
 by_cases h:(b.length:Int)>1048576
 ·rw[decide_eq_true h];rfl
 rw[decide_eq_false h];have hp:=zfz b.length;have hz:fF b.length<64:=Nat.mod_lt _ (by decide);have hwh:=zry b.length;have hal:(b++uD b.length).length=b.length+(uD b.length).length:=List.length_append;simp only[cond_false];rw[lO (show b.length≤bA by omega),cond_true,JM,RA ⟨by omega,by omega⟩,Int.toNat_natCast,wH (by omega),cond_true,zcV];exact zsS (b++uD b.length) (by rw[FA];omega) (by omega)
def oS.ok{x}(_:xA [.sl .byte] x):Mc x=some (wE x):=zo0 x
def zil(b:List UInt8):(zcV b).length=32:=by
 rw[zcV,zaj,(CK (KL _ rE _ zaD)).1]
def VU(b:List UInt8):(wE b).length≤32:=by
 unfold wE;cases decide ((b.length:Int)>1048576)
 ·exact Nat.le_of_eq (zil b)
 ·exact Nat.zero_le _
def zua{b:List UInt8}(h:b.length≤1048576):(wE b).length=32:=by
 rw[wE,decide_eq_false (by omega)];exact zil b
end Go.D
namespace Go.D
def zaY(l:List UInt8):wA FU (λ(x6:(List UInt8)) k7=>cond (decide ((x6.length:Int)<64)) (cond (decide (x6.length+[UInt8.ofNat (0:Int).toNat].length≤bA)) (k7 (x6++[UInt8.ofNat (0:Int).toNat])) none) (some x6)) l=some (jV l):=by
 have hL:=mB;refine xH (g:=λ_=>some (jV l)) (λx=>∃j:Nat,j≤64 - l.length∧x=l++List.replicate j 0) (λx=>64 - x.length) (λx hx k hk=>?_) ⟨0,Nat.zero_le _,by simp⟩ (by show 64 - l.length<2^64;omega);obtain⟨j,hj,rfl⟩:=hx;have KV:(l++List.replicate j (0:UInt8)).length=l.length+j:=by simp
 by_cases MV:l.length+j<64
 ·rw[decide_eq_true (p:=((l++List.replicate j (0:UInt8)).length:Int)<64) (by omega),cond_true,wH (by rw[KV];simp;omega),cond_true];refine hk _ ⟨j+1,by omega,?_⟩ (by simp;omega);rw[ziQ,List.append_assoc, ←List.replicate_succ']
 ·rw[decide_eq_false (p:=((l++List.replicate j (0:UInt8)).length:Int)<64) (by omega),cond_false,jV];have:j=64 - l.length:=by omega
  rw[this]
def zmQ(b:List UInt8):Md b=some (SD b):=by
 have hL:=mB;simp only[Md,aA,SD,List.nil_append]
 by_cases h:(b.length:Int)>1048576
 ·rw[decide_eq_true h];rfl
 rw[decide_eq_false h,lO (show b.length≤bA by omega)];simp only[cond_false,cond_true];cases decide ((b.length:Int)>64)
 ·exact zaY b
 ·exact zaY (wE b)
def LP.ok{x}(_:xA [.sl .byte] x):Md x=some (SD x):=zmQ x
def zmO(b:List UInt8):Lr b=some (SD b):=by
 have hL:=mB;simp only[Lr,aA,SD,yA]
 by_cases h:(b.length:Int)>1048576
 ·rw[decide_eq_true h];rfl
 rw[decide_eq_false h,RA (p:=wt b≤bA) (by rw[FA];omega)];simp only[cond_false];cases decide ((b.length:Int)>64)
 ·exact zaY b
 ·exact zaY (wE b)
def FP.ok{x}(_:xA [.sl .byte] x):Lr x=some (SD x):=zmO x
def zd4{b:List UInt8}(h:b.length≤1048576):(SD b).length=64:=by
 rw[SD,decide_eq_false (by omega),cond_false,jV,List.length_append,List.length_replicate];cases hd:decide ((b.length:Int)>64)
 ·have:=of_decide_eq_false hd;simp only[cond_false];omega
 ·have:=VU b;simp only[cond_true];omega
def znx(b:List UInt8)(x:UInt8)(h:wt b≤bA):Ls b x=some (CE b x):=by
 have hl:b.length≤bA:=by rw[←FA];exact h
 have hL:=mB;simp only[Ls,aA];refine cI (X:=List UInt8×Int) (λy=>y.2) (λi=>(CE (b.take i) x,(i:Int))) (λ_=>rfl) b.length (wG h) _ 0 (Nat.zero_le _) (λi k _ hi=>?_) (λk=>by simp only[ED,cond_false,List.take_length]);have e:CE (b.take (i+1)) x=CE (b.take i) x++[zgg b[i] x]:=by rw[CE,aM b hi,List.map_append];rfl
 have hml:(CE (b.take i) x).length=i:=by rw[CE,List.length_map,List.length_take];omega
 simp only[lD hi,cond_true,WB hi,rB,XH (i:=i) (by rw[oD];omega)];rw[wH (by rw[hml];simp;omega),cond_true,e];rfl
def LQ.ok{x}(_:xA [.sl .byte, .v .byte] x){r}:NU x.1 x.2=some r→Ls x.1 x.2=some r:=OA λh=>znx x.1 x.2 h
def BN(b:List UInt8)(x:UInt8):(CE b x).length=b.length:=List.length_map ..
def zoy(k b:List UInt8):Lt k b=some (IC k b):=by
 have hL:=mB;simp only[Lt,aA,IC]
 by_cases h1:(k.length:Int)>1048576
 ·rw[decide_eq_true h1];rfl
 by_cases h2:(b.length:Int)>1048512
 ·rw[decide_eq_false h1,decide_eq_true h2];rfl
 have hk:=zd4 (b:=k) (by omega);rw[decide_eq_false h1,decide_eq_false h2];simp only[cond_false,Bool.or_false,NU,RA (p:=wt (SD k)≤bA) (by rw[FA];omega),XC];rw[RA (by rw[zcW,BN];omega),zbP,RA (by rw[zcW,BN];have:=VU (CE (SD k) (UInt8.ofNat (54:Int).toNat)++b);omega),zbP];rfl
def YR.ok{x}(_:xA [.sl .byte, .sl .byte] x):Lt x.1 x.2=some (IC x.1 x.2):=zoy x.1 x.2
def zvM{l:List UInt8}{i:Nat}(h:i<l.length):l[i]?=some l[i]:=List.getElem?_eq_getElem h
def zh0(b:List UInt8)(x:UInt8){i:Nat}(hi:i<b.length):CE (b.take (i+1)) x=CE (b.take i) x++[zgg b[i] x]:=by rw[CE,aM b hi,List.map_append];rfl
def zoz(k b:List UInt8):Me k b=some (IC k b):=by
 have hL:=mB;simp only[Me,aA,IC]
 by_cases h1:(k.length:Int)>1048576
 ·rw[decide_eq_true h1];rfl
 by_cases h2:(b.length:Int)>1048512
 ·rw[decide_eq_false h1,decide_eq_true h2];rfl
 have hk:=zd4 (b:=k) (by omega);rw[decide_eq_false h1,decide_eq_false h2];simp only[cond_false,Bool.or_false];refine cI (X:=List UInt8×List UInt8×Int) (λy=>y.2.2) (λi=>(CE ((SD k).take i) 54,CE ((SD k).take i) 92,(i:Int))) (λ_=>rfl) 64 (by decide) _ 0 (Nat.zero_le _) (λi kk _ hi=>?_) (λkk=>?_)
 ·have I8:i<(SD k).length:=by omega
  have m1:(CE ((SD k).take i) 54).length=i:=by rw[BN,List.length_take];omega
  have m2:(CE ((SD k).take i) 92).length=i:=by rw[BN,List.length_take];omega
  simp only[decide_eq_true (p:=(i:Int)<64) (by omega),cond_true,yF I8,Int.toNat_natCast,zvM I8,rB,XH (i:=i) (by rw[oD];omega)];rw[wH (by rw[m1];simp;omega),cond_true,wH (by rw[m2];simp;omega),cond_true,zh0 _ _ I8,zh0 _ _ I8];rfl
 ·have ht:(SD k).take 64=SD k:=List.take_of_length_le (by omega);simp only[show((64:Nat):Int)=64 from rfl,show decide ((64:Int)<64)=false from rfl,cond_false,ht];have hs:=VU (CE (SD k) 54++b);rw[wH (by rw[BN];omega),cond_true,wH (by rw[BN];omega),cond_true]
def aS.ok{x}(_:xA [.sl .byte, .sl .byte] x):Me x.1 x.2=some (IC x.1 x.2):=zoz x.1 x.2
def aI{k b:List UInt8}(h1:k.length≤1048576)(h2:b.length≤1048512):(IC k b).length=32:=by
 rw[IC,decide_eq_false (by omega),decide_eq_false (by omega)];simp only[Bool.or_false,cond_false];refine zua ?_;have:=VU (CE (SD k) 54++b);rw[List.length_append,BN,zd4 h1];omega
def zbZ(n:Int):(rD NM n 4).length=8:=by rw[zc6,List.length_append,sN];rfl
def znH(s:List UInt8)(n:Int):Lu s n=some (mE s n):=by
 have hL:=mB;simp only[Lu,aA,mE];cases h1:eA (s.length:Int) 1 32
 ·rfl
 cases h2:eA n 0 10000
 ·rfl
 have h1:=yD.1 h1;have hh:=aI (k:=s) (b:=rD NM n 4) (by omega) (by rw[zbZ];omega);simp only[Bool.not_true,cond_false,Bool.and_true,cond_true,JB];rw[RA (by rw[FA];simp;omega)];have hr:[UInt8.ofNat (114:Int).toNat,UInt8.ofNat (111:Int).toNat,UInt8.ofNat (108:Int).toNat,UInt8.ofNat (108:Int).toNat]=NM:=rfl;rw[hr,show(decide ((0:Int)≤0)&&decide ((0:Int)≤12)&&decide (12≤((IC s (rD NM n 4)).length:Int)))=true by rw[hh];rfl,cond_true,List.drop_zero,yA,RA (by rw[FA,List.length_take];omega)]
def UQ.ok{x}(_:xA [.sl .byte, .v .int] x):Lu x.1 x.2=some (mE x.1 x.2):=znH x.1 x.2
def znK(s:List UInt8)(n:Int):Mf s n=some (mE s n):=by
 have hL:=mB;simp only[Mf,aA,mE];cases h1:eA (s.length:Int) 1 32
 ·rfl
 cases h2:eA n 0 10000
 ·rfl
 have h1:=yD.1 h1;have hh:=aI (k:=s) (b:=rD NM n 4) (by omega) (by rw[zbZ];omega);simp only[Bool.not_true,cond_false,Bool.and_true,cond_true,JB];rw[RA (by rw[FA];simp;omega)];have hr:[UInt8.ofNat (114:Int).toNat,UInt8.ofNat (111:Int).toNat,UInt8.ofNat (108:Int).toNat,UInt8.ofNat (108:Int).toNat]=NM:=rfl;rw[hr,show(decide ((0:Int)≤0)&&decide ((0:Int)≤12)&&decide (12≤((IC s (rD NM n 4)).length:Int)))=true by rw[hh];rfl,cond_true,List.drop_zero,lO (by rw[List.length_take];omega),cond_true,List.nil_append]
def aR.ok{x}(_:xA [.sl .byte, .v .int] x):Mf x.1 x.2=some (mE x.1 x.2):=znK x.1 x.2
end Go.D
