/-
 Sizes of the program's data.
-/
import Derived.Test.YtfealdecpglcnaaGreatN5
set_option linter.all false
namespace Go.D
end Go.D
namespace Go.D
noncomputable section
def nO(n:Int)(i:Nat):UInt8:=UInt8.ofNat (IntKind.wrap .u8 (LB .i64 (DE .i64 n (YB .i64 8 (i:Int))) 255)).toNat
def hG(n:Int):Nat→List UInt8
 | 0=>[]
 | i+1=>nO n i :: hG n i
def AD(b:List UInt8)(n k:Int):List UInt8:=bif decide (k<1)||decide (k>6)then b else b++hG n k.toNat
def UB(b:List UInt8)(n k:Int):Option (List UInt8):=pt (wt b+6≤bA) (AD b n k)
def CG(l:List UInt8):Int:=l.foldl (λn x=>iA .i64 (YB .i64 n 256) (IntKind.wrap .i64 ((x.toNat:Nat):Int))) 0
def dH(b:List UInt8)(at_ k:Int):Int×Int×Bool:=bif decide (k<1)||(decide (k>6)||(decide (at_<0)||decide (at_>(b.length:Int) - k)))then(0,0,false)else(CG ((b.drop at_.toNat).take k.toNat),iA .i64 at_ k,true)
def ZG(b:List UInt8)(at_ k:Int):Option (Int×Int×Bool):=pt (wt b≤bA) (dH b at_ k)
def cut(b:List UInt8)(f n:Int):List UInt8×Bool:=bif decide (f<0)||(decide (n<0)||(decide (f>(b.length:Int))||decide (n>(b.length:Int) - f)))then([],false)else((b.drop f.toNat).take n.toNat,true)
def mJ(b:List UInt8)(f n:Int):Option (List UInt8×Bool):=pt (wt b≤bA) (cut b f n)
def CA(b:List UInt8):Option (List UInt8):=pt (wt b≤bA) b
def jD(l:List (List UInt8)):Option (List UInt8):=pt (wt l≤bA) l.flatten
def lE(a:Int):Int:=LB .i64 a 4294967295
def bG(x n:Int):Int:=lE (mK .i64 (DE .i64 (lE x) n) (gJ .i64 (lE x) (wA .i64 32 n)))
def kE(x n:Int):Option Int:=pt (1≤n∧n≤31) (bG x n)
def KF(a b:Int):Int:=lE (iA .i64 a b)
def AE:List Int:=[1779033703,3144134277,1013904242,2773480762,1359893119,2600822924,528734635,1541459225]
def hI:List Int:=[1116352408,1899447441,3049323471,3921009573,961987163,1508970993,2453635748,2870763221,3624381080,310598401,607225278,1426881987,1925078388,2162078206,2614888103,3248222580,3835390401,4022224774,264347078,604807628,770255983,1249150122,1555081692,1996064986,2554220882,2821834349,2952996808,3210313671,3336571891,3584528711,113926993,338241895,666307205,773529912,1294757372,1396182291,1695183700,1986661051,2177026350,2456956037,2730485921,2820302411,3259730800,3345764771,3516065817,3600352804,4094571909,275423344,430227734,506948616,659060556,883997877,958139571,1322822218,1537002063,1747873779,1955562222,2024104815,2227730452,2361852424,2428436474,2756734187,3204031479,3329325298]
def ZL(i:Int):Int:=if 0≤i∧i≤63 then hI.getD i.toNat 0 else 0
def YL(b:List UInt8)(w:List Int)(i:Nat):Int:=if i<16 then(dH b (4 *i:Nat) 4).1 else
 let x:=w.getD (i - 15) 0;let y:=w.getD (i - 2) 0
 lE (iA .i64 (iA .i64 (iA .i64 (w.getD (i - 7) 0) (w.getD (i - 16) 0)) (CB .i64 (CB .i64 (bG x 7) (bG x 18)) (DE .i64 x 3))) (CB .i64 (CB .i64 (bG y 17) (bG y 19)) (DE .i64 y 10)))
def zD(b:List UInt8):Nat→List Int
 | 0=>[]
 | i+1=>zD b i++[YL b (zD b i) i]
def IC(b:List UInt8):List Int:=if b.length=64 then zD b 64 else[]
def RL(b:List UInt8):Option (List Int):=pt (wt b≤bA) (IC b)
abbrev S8:=Int×Int×Int×Int×Int×Int×Int×Int
def rT(k w:Int)(s:S8):Int:=
 iA .i64 (iA .i64 (iA .i64 (iA .i64 s.2.2.2.2.2.2.2 (CB .i64 (CB .i64 (bG s.2.2.2.2.1 6) (bG s.2.2.2.2.1 11)) (bG s.2.2.2.2.1 25)))
  (CB .i64 (LB .i64 s.2.2.2.2.1 s.2.2.2.2.2.1) (LB .i64 (CB .i64 s.2.2.2.2.1 4294967295) s.2.2.2.2.2.2.1))) k) w
def rU(s:S8):Int:=iA .i64 (CB .i64 (CB .i64 (bG s.1 2) (bG s.1 13)) (bG s.1 22)) (CB .i64 (CB .i64 (LB .i64 s.1 s.2.1) (LB .i64 s.1 s.2.2.1)) (LB .i64 s.2.1 s.2.2.1))
def zc9(l:List Int):Bool:=AC l 8
def zdz(k w:Int)(s:S8):S8:=(lE (iA .i64 (lE (rT k w s)) (lE (rU s))),s.1,s.2.1,s.2.2.1,lE (iA .i64 s.2.2.2.1 (lE (rT k w s))),s.2.2.2.2.1,s.2.2.2.2.2.1,s.2.2.2.2.2.2.1)
def rounds(w:List Int)(s:S8):Nat→S8
 | 0=>s
 | i+1=>zdz (hI.getD i 0) (w.getD i 0) (rounds w s i)
def mE(h:List Int):S8:=(h.getD 0 0,h.getD 1 0,h.getD 2 0,h.getD 3 0,h.getD 4 0,h.getD 5 0,h.getD 6 0,h.getD 7 0)
def zH(s:S8):List Int:=[s.1,s.2.1,s.2.2.1,s.2.2.2.1,s.2.2.2.2.1,s.2.2.2.2.2.1,s.2.2.2.2.2.2.1,s.2.2.2.2.2.2.2]
def sF(h:List Int)(b:List UInt8):List Int:=List.zipWith KF h (zH (rounds (IC b) (mE h) 64))
def RK(h:List Int)(b:List UInt8):List Int:=bif AC h 8&&b.length==64 then sF h b else h
def HK(h:List Int)(b:List UInt8):Option (List Int):=pt (wt h≤bA∧wt b≤bA) (RK h b)
def JC(h:List Int):Nat→List UInt8→List Int
 | 0,_=>h
 | n+1,b=>JC (RK h (b.take 64)) n (b.drop 64)
def XS(h:List Int)(b:List UInt8):Option (List Int×List UInt8):=pt (wt h≤bA∧AC h 8=true∧wt b≤bA) (JC h (b.length / 64) b,b.drop (64 *(b.length / 64)))
def kF(h:List Int):List UInt8:=h.flatMap λx=>hG x 4
def BK(h:List Int):Option (List UInt8):=pt (h.length=8) (kF h)
def pF(n:Nat):Nat:=(119 - n % 64) % 64
def CD(n:Nat):List UInt8:=(128 :: List.replicate (pF n) 0)++([0,0,0,0]++hG ((8 *n:Nat):Int) 4)
def FM(n:Int):Option (List UInt8):=pt (0≤n∧n≤1048576) (CD n.toNat)
def zdi(b:List UInt8):List UInt8:=kF (JC AE ((b++CD b.length).length / 64) (b++CD b.length))
def FE(b:List UInt8):List UInt8:=bif decide ((b.length:Int)>1048576)then[]else zdi b
def EG(h:Be):Bool:=AC h.H 8&&eA h.N 0 1048576&&EA .i64 h.N 64==(h.Held.length:Int)
def zcy(h:Be)(b:List UInt8):Option Be:=pt (EG h=true∧(b.length:Int)≤1048576 - h.N) ⟨JC h.H ((h.Held++b).length / 64) (h.Held++b),(h.Held++b).drop (64 *((h.Held++b).length / 64)),h.N+b.length⟩
def zcj(h:Be):Option (List UInt8):=pt (EG h=true) (kF (JC h.H ((h.Held++CD h.N.toNat).length / 64) (h.Held++CD h.N.toNat)))
def jO:Be:=⟨AE,[],0⟩
def EV(l:List UInt8):List UInt8:=l++List.replicate (64 - l.length) 0
def dE(k:List UInt8):List UInt8:=bif decide ((k.length:Int)>1048576)then[]else EV (bif decide ((k.length:Int)>64)then FE k else k)
def zgw(x y:UInt8):UInt8:=UInt8.ofNat (CB .u8 ((x.toNat:Nat):Int) ((y.toNat:Nat):Int)).toNat
def NE(b:List UInt8)(x:UInt8):List UInt8:=b.map λy=>zgw y x
def mV(b:List UInt8)(x:UInt8):Option (List UInt8):=pt (wt b≤bA) (NE b x)
def VC(k b:List UInt8):List UInt8:=bif decide ((k.length:Int)>1048576)||decide ((b.length:Int)>1048512)then[]else FE (NE (dE k) 92++FE (NE (dE k) 54++b))
def MM:List UInt8:=[114,111,108,108]
def xD(s:List UInt8)(n:Int):List UInt8:=bif eA (s.length:Int) 1 32&&eA n 0 10000 then(VC s (AD MM n 4)).take 12 else[]
end
end Go.D
namespace Go.D
open Option renaming bind→ob
noncomputable section
def Ro(a0:List UInt8):=
 cond (decide (([]:List UInt8).length+a0.length≤bA)) (some ([]++a0)) none
def Mf(a0:List UInt8)(a1:Int)(a2:Int):=
 cond (decide (([]:List UInt8).length+a0.length≤bA)) (aA (λy1=>
 cond (y1)
 (some ([]++a0))
 (aA (λ(y3:(List UInt8))=>
 some y3) λk4=>
 qA FU (λ(x5:(List UInt8)×Int) k6=>
 cond (decide (x5.2≥0))
 (cond (decide ((YB .i64 8 x5.2)<0)) none (let x7:Int:=LB .i64 (DE .i64 a1 (YB .i64 8 x5.2)) 255
 cond (decide (x5.1.length+[UInt8.ofNat (IntKind.wrap .u8 x7:Int).toNat].length≤bA)) (k6 ((x5.1++[UInt8.ofNat (IntKind.wrap .u8 x7:Int).toNat]),(wA .i64 x5.2 1))) none))
 (k4 x5.1)) (([]++a0),(wA .i64 a2 1)))) λk2=>
 cond (decide (a2<1))
 (k2 true)
 (k2 (decide (a2>6)))) none
def Rp:=
 let x1:List Int:=[1779033703,3144134277,1013904242,2773480762,1359893119,2600822924,528734635,1541459225]
 some x1
def Rq:=
 let r1:(List Int):=AE
 some (⟨r1,[],0⟩:Be)
def Mg(a0:Be):=
 aA (λ(y1:Bool)=>
 some y1) λk2=>
 cond ((AC a0.H 8))
 (cond ((eA a0.N 0 1048576))
 (k2 ((EA .i64 a0.N 64)==(a0.Held.length:Int)))
 (k2 false))
 (k2 false)
def Mh(a0:List (List UInt8)):=
 aA (λ(y1:(List UInt8))=>
 some y1) λk2=>
 qA FU (λ(x3:(List UInt8)×Int) k4=>
 cond (decide (x3.2<(a0.length:Int)))
 (ob (kA a0 x3.2) λe5=>
 cond (decide (x3.1.length+e5.length≤bA)) (k4 ((x3.1++e5),(iA .i64 x3.2 1))) none)
 (k2 x3.1)) ([],0)
def Mi(a0:List UInt8)(a1:Int)(a2:Int):=
 aA (λy1=>
 cond (y1)
 (some ([],false))
 (cond (decide (0≤a1)&&decide (a1≤(iA .i64 a1 a2))&&decide ((iA .i64 a1 a2)≤(a0.length:Int))) (let l3:List UInt8:=List.take ((iA .i64 a1 a2 - a1).toNat) (List.drop a1.toNat a0)
 cond (decide (([]:List UInt8).length+l3.length≤bA)) (some ([]++l3,true)) none) none)) λk2=>
 cond (decide (a1<0))
 (k2 true)
 (cond (decide (a2<0))
 (k2 true)
 (cond (decide (a1>(a0.length:Int)))
 (k2 true)
 (k2 (decide (a2>(wA .i64 (a0.length:Int) a1))))))
def Mj(a0:List UInt8)(a1:Int)(a2:Int):=
 aA (λy1=>
 cond (y1)
 (some (0,0,false))
 (ob (mJ a0 a1 a2) λr3=>
 cond (!r3.2)
 (some (0,0,false))
 (aA (λ(y4:Int)=>
 some (y4,iA .i64 a1 a2,true)) λk5=>
 qA FU (λ(x6:Int×Int) k7=>
 cond (decide (x6.2<(r3.1.length:Int)))
 (cond (decide (0≤x6.2)&&decide (x6.2<(r3.1.length:Int))) (ob (r3.1[x6.2.toNat]?) λe8=>
 let x9:Int:=IntKind.wrap .i64 ((e8.toNat:Nat):Int)
 k7 ((iA .i64 (YB .i64 256 x6.1) x9),(iA .i64 x6.2 1))) none)
 (k5 x6.1)) (0,0)))) λk2=>
 cond (decide (a2<1))
 (k2 true)
 (k2 (decide (a2>6)))
def Mk(a0:Int)(a1:Int):=
 aA (λy1=>
 cond (y1)
 (some (LB .i64 a0 4294967295))
 (cond (decide (a1<0)) none (cond (decide ((wA .i64 32 a1)<0)) none (let x3:Int:=gJ .i64 (LB .i64 a0 4294967295) (wA .i64 32 a1)
 let x4:Int:=mK .i64 (DE .i64 (LB .i64 a0 4294967295) a1) x3
 some (LB .i64 x4 4294967295))))) λk2=>
 cond (decide (a1<0))
 (k2 true)
 (k2 (decide (a1>31)))
def Ml(a0:List UInt8):=
 cond ((a0.length:Int) !=64)
 (some [])
 (aA (λ(y1:(List Int))=>
 aA (λ(y7:(List Int))=>
 some y7) λk8=>
 qA FU (λ(x9:Int×(List Int)) k10=>
 cond (decide (x9.1<64))
 (cond (decide (0≤wA .i64 x9.1 15)&&decide (wA .i64 x9.1 15<(x9.2.length:Int))) (ob (x9.2[(wA .i64 x9.1 15).toNat]?) λe11=>
 cond (decide (0≤wA .i64 x9.1 2)&&decide (wA .i64 x9.1 2<(x9.2.length:Int))) (ob (x9.2[(wA .i64 x9.1 2).toNat]?) λe12=>
 ob (kE e11 7) λr13=>
 ob (kE e11 18) λr14=>
 let x15:Int:=CB .i64 (CB .i64 r13 r14) (DE .i64 e11 3)
 ob (kE e12 17) λr16=>
 ob (kE e12 19) λr17=>
 let x18:Int:=CB .i64 (CB .i64 r16 r17) (DE .i64 e12 10)
 cond (decide (0≤wA .i64 x9.1 7)&&decide (wA .i64 x9.1 7<(x9.2.length:Int))) (ob (x9.2[(wA .i64 x9.1 7).toNat]?) λe19=>
 cond (decide (0≤wA .i64 x9.1 16)&&decide (wA .i64 x9.1 16<(x9.2.length:Int))) (ob (x9.2[(wA .i64 x9.1 16).toNat]?) λe20=>
 let x21:Int:=iA .i64 (iA .i64 (iA .i64 e19 e20) x15) x18
 cond (decide (0≤x9.1)&&decide (x9.1<(x9.2.length:Int))) (ob (x9.2[x9.1.toNat]?) λe22=>
 k10 ((iA .i64 x9.1 1),(List.set x9.2 x9.1.toNat (LB .i64 x21 4294967295)))) none) none) none) none) none)
 (k8 x9.2)) (16,y1)) λk2=>
 qA FU (λ(x3:Int×(List Int)) k4=>
 cond (decide (x3.1<16))
 (ob (ZG a0 (YB .i64 4 x3.1) 4) λr5=>
 cond (decide (0≤x3.1)&&decide (x3.1<(x3.2.length:Int))) (ob (x3.2[x3.1.toNat]?) λe6=>
 k4 ((iA .i64 x3.1 1),(List.set x3.2 x3.1.toNat r5.1))) none)
 (k2 x3.2)) (0,(List.replicate (64:Int).toNat (0:Int))))
def Jx(a0:Int):Option Int:=
 aA (λy1=>
 cond (y1)
 (some 0)
 (cond (a0==(0:Int)) (some 1116352408) (cond (a0==(1:Int)) (some 1899447441) (cond (a0==(2:Int)) (some 3049323471) (cond (a0==(3:Int)) (some 3921009573) (cond (a0==(4:Int)) (some 961987163) (cond (a0==(5:Int)) (some 1508970993) (cond (a0==(6:Int)) (some 2453635748) (cond (a0==(7:Int)) (some 2870763221) (cond (a0==(8:Int)) (some 3624381080) (cond (a0==(9:Int)) (some 310598401) (cond (a0==(10:Int)) (some 607225278) (cond (a0==(11:Int)) (some 1426881987) (cond (a0==(12:Int)) (some 1925078388) (cond (a0==(13:Int)) (some 2162078206) (cond (a0==(14:Int)) (some 2614888103) (cond (a0==(15:Int)) (some 3248222580) (cond (a0==(16:Int)) (some 3835390401) (cond (a0==(17:Int)) (some 4022224774) (cond (a0==(18:Int)) (some 264347078) (cond (a0==(19:Int)) (some 604807628) (cond (a0==(20:Int)) (some 770255983) (cond (a0==(21:Int)) (some 1249150122) (cond (a0==(22:Int)) (some 1555081692) (cond (a0==(23:Int)) (some 1996064986) (cond (a0==(24:Int)) (some 2554220882) (cond (a0==(25:Int)) (some 2821834349) (cond (a0==(26:Int)) (some 2952996808) (cond (a0==(27:Int)) (some 3210313671) (cond (a0==(28:Int)) (some 3336571891) (cond (a0==(29:Int)) (some 3584528711) (cond (a0==(30:Int)) (some 113926993) (cond (a0==(31:Int)) (some 338241895) (cond (a0==(32:Int)) (some 666307205) (cond (a0==(33:Int)) (some 773529912) (cond (a0==(34:Int)) (some 1294757372) (cond (a0==(35:Int)) (some 1396182291) (cond (a0==(36:Int)) (some 1695183700) (cond (a0==(37:Int)) (some 1986661051) (cond (a0==(38:Int)) (some 2177026350) (cond (a0==(39:Int)) (some 2456956037) (cond (a0==(40:Int)) (some 2730485921) (cond (a0==(41:Int)) (some 2820302411) (cond (a0==(42:Int)) (some 3259730800) (cond (a0==(43:Int)) (some 3345764771) (cond (a0==(44:Int)) (some 3516065817) (cond (a0==(45:Int)) (some 3600352804) (cond (a0==(46:Int)) (some 4094571909) (cond (a0==(47:Int)) (some 275423344) (cond (a0==(48:Int)) (some 430227734) (cond (a0==(49:Int)) (some 506948616) (cond (a0==(50:Int)) (some 659060556) (cond (a0==(51:Int)) (some 883997877) (cond (a0==(52:Int)) (some 958139571) (cond (a0==(53:Int)) (some 1322822218) (cond (a0==(54:Int)) (some 1537002063) (cond (a0==(55:Int)) (some 1747873779) (cond (a0==(56:Int)) (some 1955562222) (cond (a0==(57:Int)) (some 2024104815) (cond (a0==(58:Int)) (some 2227730452) (cond (a0==(59:Int)) (some 2361852424) (cond (a0==(60:Int)) (some 2428436474) (cond (a0==(61:Int)) (some 2756734187) (cond (a0==(62:Int)) (some 3204031479) (cond (a0==(63:Int)) (some 3329325298) (none)))))))))))))))))))))))))))))))))))))))))))))))))))))))))))))))))) λk2=>
 cond (decide (a0<0))
 (k2 true)
 (k2 (decide (a0>63)))
def Rr(a0:Int)(a1:Int):=
 some (LB .i64 (iA .i64 a0 a1) 4294967295)
def Mm(a0:List Int)(a1:List UInt8):=
 cond (decide (([]:List Int).length+a0.length≤bA)) (aA (λy1=>
 cond (y1)
 (some ([]++a0))
 (ob (RL a1) λr3=>
 ob (kA a0 0) λe4=>
 ob (kA a0 1) λe5=>
 ob (kA a0 2) λe6=>
 ob (kA a0 3) λe7=>
 ob (kA a0 4) λe8=>
 ob (kA a0 5) λe9=>
 ob (kA a0 6) λe10=>
 ob (kA a0 7) λe11=>
 aA (λ(y12:Int×Int×Int×Int×Int×Int×Int×Int)=>
 let x31:List Int:=[y12.1,y12.2.1,y12.2.2.1,y12.2.2.2.1,y12.2.2.2.2.1,y12.2.2.2.2.2.1,y12.2.2.2.2.2.2.1,y12.2.2.2.2.2.2.2]
 aA (λ(y32:(List Int))=>
 some y32) λk33=>
 qA FU (λ(x34:Int×(List Int)) k35=>
 cond (decide (x34.1<(x31.length:Int)))
 (cond (decide (0≤x34.1)&&decide (x34.1<(x31.length:Int))) (ob (x31[x34.1.toNat]?) λe36=>
 ob (kA a0 x34.1) λe37=>
 cond (decide (0≤x34.1)&&decide (x34.1<(x34.2.length:Int))) (ob (x34.2[x34.1.toNat]?) λe38=>
 k35 ((iA .i64 x34.1 1),(List.set x34.2 x34.1.toNat (KF e37 e36)))) none) none)
 (k33 x34.2)) (0,([]++a0))) λk13=>
 qA FU (λ(x14:Int×Int×Int×Int×Int×Int×Int×Int×Int) k15=>
 cond (decide (x14.2.2.2.2.2.2.2.2<64))
 (let x16:Int:=LB .i64 (CB .i64 4294967295 x14.2.2.2.2.1) x14.2.2.2.2.2.2.1
 let x17:Int:=CB .i64 (LB .i64 x14.2.2.2.2.1 x14.2.2.2.2.2.1) x16;let x18:Int:=CB .i64 (LB .i64 x14.1 x14.2.1) (LB .i64 x14.1 x14.2.2.1);let x19:Int:=CB .i64 x18 (LB .i64 x14.2.1 x14.2.2.1)
 ob (kE x14.2.2.2.2.1 6) λr20=>
 ob (kE x14.2.2.2.2.1 11) λr21=>
 ob (kE x14.2.2.2.2.1 25) λr22=>
 let x23:Int:=iA .i64 x14.2.2.2.2.2.2.2.1 (CB .i64 (CB .i64 r20 r21) r22);let x24:Int:=iA .i64 (iA .i64 x23 x17) (ZL x14.2.2.2.2.2.2.2.2)
 cond (decide (0≤x14.2.2.2.2.2.2.2.2)&&decide (x14.2.2.2.2.2.2.2.2<(r3.length:Int))) (ob (r3[x14.2.2.2.2.2.2.2.2.toNat]?) λe25=>
 ob (kE x14.1 2) λr26=>
 ob (kE x14.1 13) λr27=>
 ob (kE x14.1 22) λr28=>
 let x29:Int:=iA .i64 (CB .i64 (CB .i64 r26 r27) r28) x19;let r30:Int:=KF x14.2.2.2.1 (iA .i64 x24 e25)
 k15 ((KF (iA .i64 x24 e25) x29),x14.1,x14.2.1,x14.2.2.1,r30,x14.2.2.2.2.1,x14.2.2.2.2.2.1,x14.2.2.2.2.2.2.1,(iA .i64 x14.2.2.2.2.2.2.2.2 1))) none)
 (k13 (x14.1,x14.2.1,x14.2.2.1,x14.2.2.2.1,x14.2.2.2.2.1,x14.2.2.2.2.2.1,x14.2.2.2.2.2.2.1,x14.2.2.2.2.2.2.2.1))) (e4,e5,e6,e7,e8,e9,e10,e11,0))) λk2=>
 cond (!(AC a0 8))
 (k2 true)
 (k2 ((a1.length:Int) !=64))) none
def Mn(a0:List Int)(a1:List UInt8):=
 aA (λ(y1:(List Int)×(List UInt8))=>
 some (y1.1,y1.2)) λk2=>
 qA FU (λ(x3:(List Int)×(List UInt8)) k4=>
 cond (decide ((x3.2.length:Int)≥64))
 (cond (decide (0≤(0:Int))&&decide ((0:Int)≤64)&&decide (64≤(x3.2.length:Int))) (let l5:List UInt8:=List.take 64 (List.drop 0 x3.2)
 ob (HK x3.1 l5) λr6=>
 cond (decide (0≤(64:Int))&&decide ((64:Int)≤(x3.2.length:Int))&&decide ((x3.2.length:Int)≤(x3.2.length:Int))) (let l7:List UInt8:=List.take (((x3.2.length:Int) - 64).toNat) (List.drop 64 x3.2)
 k4 (r6,l7)) none) none)
 (k2 (x3.1,x3.2))) (a0,a1)
def Mo(a0:Be)(a1:List UInt8):=
 aA (λy1=>
 cond (y1)
 (cond (decide (([]:List Int).length+a0.H.length≤bA)) (ob (CA a0.Held) λr3=>
 some (⟨[]++a0.H,r3,a0.N⟩:Be)) none)
 (ob (jD [a0.Held,a1]) λr4=>
 ob (XS a0.H r4) λr5=>
 cond (decide (([]:List Int).length+r5.1.length≤bA)) (ob (CA r5.2) λr6=>
 some (⟨[]++r5.1,r6,iA .i64 a0.N (a1.length:Int)⟩:Be)) none)) λk2=>
 cond (!(EG a0))
 (k2 true)
 (k2 (decide ((a1.length:Int)>(wA .i64 1048576 a0.N))))
def Mp(a0:Int):=
 cond (!(eA a0 0 1048576))
 (some [])
 (aA (λ(y1:(List UInt8))=>
 cond (decide (y1.length+[UInt8.ofNat (0:Int).toNat,UInt8.ofNat (0:Int).toNat].length≤bA)) (let x6:List UInt8:=y1++[UInt8.ofNat (0:Int).toNat,UInt8.ofNat (0:Int).toNat]
 ob (UB x6 (YB .i64 8 a0) 6) λr7=>
 some r7) none) λk2=>
 qA FU (λ(x3:(List UInt8)) k4=>
 let x5:Int:=iA .i64 (iA .i64 a0 (x3.length:Int)) 8
 cond ((EA .i64 x5 64) !=0)
 (cond (decide (x3.length+[UInt8.ofNat (0:Int).toNat].length≤bA)) (k4 (x3++[UInt8.ofNat (0:Int).toNat])) none)
 (k2 x3)) [UInt8.ofNat (128:Int).toNat])
def Mq(a0:List Int):=
 aA (λ(y1:(List UInt8))=>
 some y1) λk2=>
 qA FU (λ(x3:(List UInt8)×Int) k4=>
 cond (decide (x3.2<(a0.length:Int)))
 (ob (kA a0 x3.2) λe5=>
 ob (UB x3.1 e5 4) λr6=>
 k4 (r6,(iA .i64 x3.2 1)))
 (k2 x3.1)) ([],0)
def Mr(a0:Be):=
 cond (!(EG a0))
 (some [])
 (ob (FM a0.N) λr1=>
 ob (jD [a0.Held,r1]) λr2=>
 ob (XS a0.H r2) λr3=>
 ob (BK r3.1) λr4=>
 some r4)
def Ms(a0:List UInt8):=
 cond (decide ((a0.length:Int)>1048576))
 (some [])
 (let r1:Be:=jO
 ob (zcy r1 a0) λr2=>
 ob (zcj r2) λr3=>
 some r3)
def Mt(a0:List UInt8):=
 cond (decide ((a0.length:Int)>1048576))
 (some [])
 (ob (CA a0) λr1=>
 aA (λ(y2:(List UInt8))=>
 aA (λ(y5:(List UInt8))=>
 some y5) λk6=>
 qA FU (λ(x7:(List UInt8)) k8=>
 cond (decide ((x7.length:Int)<64))
 (cond (decide (x7.length+[UInt8.ofNat (0:Int).toNat].length≤bA)) (k8 (x7++[UInt8.ofNat (0:Int).toNat])) none)
 (k6 x7)) y2) λk3=>
 cond (decide ((a0.length:Int)>64))
 (let r4:(List UInt8):=FE a0
 k3 r4)
 (k3 r1))
def Mu(a0:List UInt8)(a1:UInt8):=
 aA (λ(y1:(List UInt8))=>
 some y1) λk2=>
 qA FU (λ(x3:(List UInt8)×Int) k4=>
 cond (decide (x3.2<(a0.length:Int)))
 (ob (kA a0 x3.2) λe5=>
 let x6:Int:=CB .u8 ((e5.toNat:Nat):Int) ((a1.toNat:Nat):Int)
 cond (decide (x3.1.length+[UInt8.ofNat (x6:Int).toNat].length≤bA)) (k4 ((x3.1++[UInt8.ofNat (x6:Int).toNat]),(iA .i64 x3.2 1))) none)
 (k2 x3.1)) ([],0)
def Mv(a0:List UInt8)(a1:List UInt8):=
 aA (λy1=>
 cond (y1)
 (some [])
 (let r3:(List UInt8):=dE a0
 ob (mV r3 (UInt8.ofNat (92:Int).toNat)) λr4=>
 ob (mV r3 (UInt8.ofNat (54:Int).toNat)) λr5=>
 ob (jD [r5,a1]) λr6=>
 let r7:(List UInt8):=FE r6
 ob (jD [r4,r7]) λr8=>
 let r9:(List UInt8):=FE r8
 some r9)) λk2=>
 cond (decide ((a0.length:Int)>1048576))
 (k2 true)
 (k2 (decide ((a1.length:Int)>1048512)))
def Mw(a0:List UInt8)(a1:Int):=
 aA (λy1=>
 cond (y1)
 (some [])
 (let x3:List UInt8:=[UInt8.ofNat (114:Int).toNat,UInt8.ofNat (111:Int).toNat,UInt8.ofNat (108:Int).toNat,UInt8.ofNat (108:Int).toNat]
 ob (UB x3 a1 4) λr4=>
 let r5:(List UInt8):=VC a0 r4
 cond (decide (0≤(0:Int))&&decide ((0:Int)≤12)&&decide (12≤(r5.length:Int))) (ob (CA (List.take 12 (List.drop 0 r5))) λr6=>
 some r6) none)) λk2=>
 cond (!(eA (a0.length:Int) 1 32))
 (k2 true)
 (k2 (!(eA a1 0 10000)))
def Rs(a0:List UInt8)(a1:Int)(a2:Int):=
 cond (decide (([]:List UInt8).length+a0.length≤bA)) (aA (λy1=>
 cond (y1)
 (some ([]++a0))
 (aA (λ(y3:(List UInt8))=>
 some y3) λk4=>
 qA FU (λ(x5:(List UInt8)×Int) k6=>
 cond (decide (x5.2≥0))
 (cond (decide ((YB .i64 8 x5.2)<0)) none (let x7:Int:=LB .i64 (DE .i64 a1 (YB .i64 8 x5.2)) 255
 cond (decide (x5.1.length+[UInt8.ofNat (IntKind.wrap .u8 x7:Int).toNat].length≤bA)) (k6 ((x5.1++[UInt8.ofNat (IntKind.wrap .u8 x7:Int).toNat]),(wA .i64 x5.2 1))) none))
 (k4 x5.1)) (([]++a0),(wA .i64 a2 1)))) λk2=>
 cond (decide (a2<1))
 (k2 true)
 (k2 (decide (a2>6)))) none
def Mx(a0:Int):=
 aA (λy1=>
 cond (y1)
 (some [])
 (aA (λ(y3:(List UInt8))=>
 ob (UB y3 0 4) λr8=>
 ob (UB r8 (YB .i64 8 a0) 4) λr9=>
 some r9) λk4=>
 qA FU (λ(x5:(List UInt8)) k6=>
 let x7:Int:=iA .i64 (iA .i64 a0 (x5.length:Int)) 8
 cond ((EA .i64 x7 64) !=0)
 (cond (decide (x5.length+[UInt8.ofNat (0:Int).toNat].length≤bA)) (k6 (x5++[UInt8.ofNat (0:Int).toNat])) none)
 (k4 x5)) [UInt8.ofNat (128:Int).toNat])) λk2=>
 cond (decide (a0<0))
 (k2 true)
 (k2 (decide (a0>1048576)))
def Rt:=
 let x1:List Int:=[1779033703,3144134277,1013904242,2773480762,1359893119,2600822924,528734635,1541459225]
 some x1
def My(a0:List Int):=
 aA (λ(y1:Unit)=>
 some ((a0.length:Int)==8)) λk2=>
 qA FU (λ(x3:Int) k4=>
 cond (decide (x3<(a0.length:Int)))
 (ob (kA a0 x3) λe5=>
 cond (!(eA e5 0 4294967295))
 (some false)
 (k4 (iA .i64 x3 1)))
 (k2 ())) 0
def Ru:=
 let x1:List Int:=[1116352408,1899447441,3049323471,3921009573,961987163,1508970993,2453635748,2870763221,3624381080,310598401,607225278,1426881987,1925078388,2162078206,2614888103,3248222580,3835390401,4022224774,264347078,604807628,770255983,1249150122,1555081692,1996064986,2554220882,2821834349,2952996808,3210313671,3336571891,3584528711,113926993,338241895,666307205,773529912,1294757372,1396182291,1695183700,1986661051,2177026350,2456956037,2730485921,2820302411,3259730800,3345764771,3516065817,3600352804,4094571909,275423344,430227734,506948616,659060556,883997877,958139571,1322822218,1537002063,1747873779,1955562222,2024104815,2227730452,2361852424,2428436474,2756734187,3204031479,3329325298]
 some x1
def Mz(a0:List UInt8)(a1:Int)(a2:Int):=
 aA (λy1=>
 cond (y1)
 (some (0,0,false))
 (aA (λ(y3:Int)=>
 some (y3,iA .i64 a1 a2,true)) λk4=>
 qA FU (λ(x5:Int×Int) k6=>
 cond (decide (x5.2<a2))
 (ob (kA a0 (iA .i64 a1 x5.2)) λe7=>
 let x8:Int:=IntKind.wrap .i64 ((e7.toNat:Nat):Int)
 k6 ((iA .i64 (YB .i64 x5.1 256) x8),(iA .i64 x5.2 1)))
 (k4 x5.1)) (0,0))) λk2=>
 cond (decide (a2<1))
 (k2 true)
 (cond (decide (a2>6))
 (k2 true)
 (cond (decide (a1<0))
 (k2 true)
 (k2 (decide (a1>(wA .i64 (a0.length:Int) a2))))))
def Na(a0:Int)(a1:Int):=
 aA (λy1=>
 cond (y1)
 (some (LB .i64 a0 4294967295))
 (cond (decide (a1<0)) none (cond (decide ((wA .i64 32 a1)<0)) none (let x3:Int:=gJ .i64 (LB .i64 a0 4294967295) (wA .i64 32 a1)
 let x4:Int:=mK .i64 (DE .i64 (LB .i64 a0 4294967295) a1) x3
 some (LB .i64 x4 4294967295))))) λk2=>
 cond (decide (a1<1))
 (k2 true)
 (k2 (decide (a1>31)))
def Nb(a0:List UInt8):=
 cond ((a0.length:Int) !=64)
 (some [])
 (aA (λ(y1:(List Int))=>
 aA (λ(y6:(List Int))=>
 some y6) λk7=>
 qA FU (λ(x8:(List Int)×Int) k9=>
 cond (decide (x8.2<64))
 (cond (decide (0≤wA .i64 x8.2 15)&&decide (wA .i64 x8.2 15<(x8.1.length:Int))) (ob (x8.1[(wA .i64 x8.2 15).toNat]?) λe10=>
 cond (decide (0≤wA .i64 x8.2 2)&&decide (wA .i64 x8.2 2<(x8.1.length:Int))) (ob (x8.1[(wA .i64 x8.2 2).toNat]?) λe11=>
 ob (kE e10 7) λr12=>
 ob (kE e10 18) λr13=>
 let x14:Int:=CB .i64 (CB .i64 r12 r13) (DE .i64 e10 3)
 ob (kE e11 17) λr15=>
 ob (kE e11 19) λr16=>
 let x17:Int:=CB .i64 (CB .i64 r15 r16) (DE .i64 e11 10)
 cond (decide (0≤wA .i64 x8.2 7)&&decide (wA .i64 x8.2 7<(x8.1.length:Int))) (ob (x8.1[(wA .i64 x8.2 7).toNat]?) λe18=>
 cond (decide (0≤wA .i64 x8.2 16)&&decide (wA .i64 x8.2 16<(x8.1.length:Int))) (ob (x8.1[(wA .i64 x8.2 16).toNat]?) λe19=>
 let x20:Int:=iA .i64 (iA .i64 (iA .i64 e18 e19) x14) x17
 cond (decide (x8.1.length+[LB .i64 x20 4294967295].length≤bA)) (k9 ((x8.1++[LB .i64 x20 4294967295]),(iA .i64 x8.2 1))) none) none) none) none) none)
 (k7 x8.1)) (y1,16)) λk2=>
 qA FU (λ(x3:(List Int)×Int) k4=>
 cond (decide (x3.2<16))
 (ob (ZG a0 (YB .i64 4 x3.2) 4) λr5=>
 cond (decide (x3.1.length+[r5.1].length≤bA)) (k4 ((x3.1++[r5.1]),(iA .i64 x3.2 1))) none)
 (k2 x3.1)) ([],0))
def Nc(a0:List Int)(a1:List UInt8):=
 cond (decide (([]:List Int).length+a0.length≤bA)) (aA (λy1=>
 cond (y1)
 (some ([]++a0))
 (let r3:(List Int):=hI
 ob (RL a1) λr4=>
 ob (kA a0 0) λe5=>
 ob (kA a0 1) λe6=>
 ob (kA a0 2) λe7=>
 ob (kA a0 3) λe8=>
 ob (kA a0 4) λe9=>
 ob (kA a0 5) λe10=>
 ob (kA a0 6) λe11=>
 ob (kA a0 7) λe12=>
 aA (λ(y13:Int×Int×Int×Int×Int×Int×Int×Int)=>
 let x34:List Int:=[y13.1,y13.2.1,y13.2.2.1,y13.2.2.2.1,y13.2.2.2.2.1,y13.2.2.2.2.2.1,y13.2.2.2.2.2.2.1,y13.2.2.2.2.2.2.2]
 aA (λ(y35:(List Int))=>
 some y35) λk36=>
 qA FU (λ(x37:Int×(List Int)) k38=>
 cond (decide (x37.1<8))
 (ob (kA a0 x37.1) λe39=>
 cond (decide (0≤x37.1)&&decide (x37.1<(x34.length:Int))) (ob (x34[x37.1.toNat]?) λe40=>
 cond (decide (0≤x37.1)&&decide (x37.1<(x37.2.length:Int))) (ob (x37.2[x37.1.toNat]?) λe41=>
 let l42:List Int:=List.set x37.2 x37.1.toNat (LB .i64 (iA .i64 e39 e40) 4294967295)
 k38 ((iA .i64 x37.1 1),l42)) none) none)
 (k36 x37.2)) (0,([]++a0))) λk14=>
 qA FU (λ(x15:Int×Int×Int×Int×Int×Int×Int×Int×Int) k16=>
 cond (decide (x15.2.2.2.2.2.2.2.2<64))
 (ob (kE x15.2.2.2.2.1 6) λr17=>
 ob (kE x15.2.2.2.2.1 11) λr18=>
 ob (kE x15.2.2.2.2.1 25) λr19=>
 let x20:Int:=iA .i64 x15.2.2.2.2.2.2.2.1 (CB .i64 (CB .i64 r17 r18) r19);let x21:Int:=LB .i64 (CB .i64 x15.2.2.2.2.1 4294967295) x15.2.2.2.2.2.2.1;let x22:Int:=CB .i64 (LB .i64 x15.2.2.2.2.1 x15.2.2.2.2.2.1) x21
 cond (decide (0≤x15.2.2.2.2.2.2.2.2)&&decide (x15.2.2.2.2.2.2.2.2<(r3.length:Int))) (ob (r3[x15.2.2.2.2.2.2.2.2.toNat]?) λe23=>
 cond (decide (0≤x15.2.2.2.2.2.2.2.2)&&decide (x15.2.2.2.2.2.2.2.2<(r4.length:Int))) (ob (r4[x15.2.2.2.2.2.2.2.2.toNat]?) λe24=>
 let x25:Int:=iA .i64 (iA .i64 (iA .i64 x20 x22) e23) e24
 ob (kE x15.1 2) λr26=>
 ob (kE x15.1 13) λr27=>
 ob (kE x15.1 22) λr28=>
 let x29:Int:=CB .i64 (LB .i64 x15.1 x15.2.1) (LB .i64 x15.1 x15.2.2.1);let x30:Int:=CB .i64 x29 (LB .i64 x15.2.1 x15.2.2.1);let x31:Int:=iA .i64 (CB .i64 (CB .i64 r26 r27) r28) x30;let x32:Int:=iA .i64 x15.2.2.2.1 (LB .i64 x25 4294967295);let x33:Int:=iA .i64 (LB .i64 x25 4294967295) (LB .i64 x31 4294967295)
 k16 ((LB .i64 x33 4294967295),x15.1,x15.2.1,x15.2.2.1,(LB .i64 x32 4294967295),x15.2.2.2.2.1,x15.2.2.2.2.2.1,x15.2.2.2.2.2.2.1,(iA .i64 x15.2.2.2.2.2.2.2.2 1))) none) none)
 (k14 (x15.1,x15.2.1,x15.2.2.1,x15.2.2.2.1,x15.2.2.2.2.1,x15.2.2.2.2.2.1,x15.2.2.2.2.2.2.1,x15.2.2.2.2.2.2.2.1))) (e5,e6,e7,e8,e9,e10,e11,e12,0))) λk2=>
 cond (!(zc9 a0))
 (k2 true)
 (k2 ((a1.length:Int) !=64))) none
def Nd(a0:List Int):=
 aA (λ(y1:(List UInt8))=>
 some y1) λk2=>
 qA FU (λ(x3:(List UInt8)×Int) k4=>
 cond (decide (x3.2<8))
 (ob (kA a0 x3.2) λe5=>
 ob (UB x3.1 e5 4) λr6=>
 k4 (r6,(iA .i64 x3.2 1)))
 (k2 x3.1)) ([],0)
def Nf(a0:List UInt8):=
 cond (decide ((a0.length:Int)>1048576))
 (some [])
 (cond (decide (([]:List UInt8).length+a0.length≤bA)) (ob (FM (a0.length:Int)) λr1=>
 cond (decide (([]++a0).length+r1.length≤bA)) (let r2:(List Int):=AE
 aA (λ(y3:(List Int))=>
 ob (BK y3) λr8=>
 some r8) λk4=>
 qA FU (λ(x5:(List Int)×Int) k6=>
 cond (decide (x5.2<((([]++a0)++r1).length:Int)))
 (cond (decide (0≤x5.2)&&decide (x5.2≤(iA .i64 x5.2 64))&&decide ((iA .i64 x5.2 64)≤((([]++a0)++r1).length:Int))) (ob (HK x5.1 (List.take ((iA .i64 x5.2 64 - x5.2).toNat) (List.drop x5.2.toNat (([]++a0)++r1)))) λr7=>
 k6 (r7,(iA .i64 x5.2 64))) none)
 (k4 x5.1)) (r2,0)) none) none)
def Ng(a0:List UInt8):=
 cond (decide ((a0.length:Int)>1048576))
 (some [])
 (cond (decide (([]:List UInt8).length+a0.length≤bA)) (aA (λ(y1:(List UInt8))=>
 aA (λ(y4:(List UInt8))=>
 some y4) λk5=>
 qA FU (λ(x6:(List UInt8)) k7=>
 cond (decide ((x6.length:Int)<64))
 (cond (decide (x6.length+[UInt8.ofNat (0:Int).toNat].length≤bA)) (k7 (x6++[UInt8.ofNat (0:Int).toNat])) none)
 (k5 x6)) y1) λk2=>
 cond (decide ((a0.length:Int)>64))
 (let r3:(List UInt8):=FE a0
 k2 r3)
 (k2 ([]++a0))) none)
def Nh(a0:List UInt8)(a1:List UInt8):=
 aA (λy1=>
 cond (y1)
 (some [])
 (let r3:(List UInt8):=dE a0
 aA (λ(y4:(List UInt8)×(List UInt8))=>
 cond (decide (y4.1.length+a1.length≤bA)) (let r12:(List UInt8):=FE (y4.1++a1)
 cond (decide (y4.2.length+r12.length≤bA)) (let r13:(List UInt8):=FE (y4.2++r12)
 some r13) none) none) λk5=>
 qA FU (λ(x6:(List UInt8)×(List UInt8)×Int) k7=>
 cond (decide (x6.2.2<64))
 (cond (decide (0≤x6.2.2)&&decide (x6.2.2<(r3.length:Int))) (ob (r3[x6.2.2.toNat]?) λe8=>
 let x9:List UInt8:=[UInt8.ofNat (CB .u8 ((e8.toNat:Nat):Int) 54:Int).toNat]
 cond (decide (x6.1.length+x9.length≤bA)) (cond (decide (0≤x6.2.2)&&decide (x6.2.2<(r3.length:Int))) (ob (r3[x6.2.2.toNat]?) λe10=>
 let x11:List UInt8:=[UInt8.ofNat (CB .u8 ((e10.toNat:Nat):Int) 92:Int).toNat]
 cond (decide (x6.2.1.length+x11.length≤bA)) (k7 ((x6.1++x9),(x6.2.1++x11),(iA .i64 x6.2.2 1))) none) none) none) none)
 (k5 (x6.1,x6.2.1))) ([],[],0))) λk2=>
 cond (decide ((a0.length:Int)>1048576))
 (k2 true)
 (k2 (decide ((a1.length:Int)>1048512)))
def Ni(a0:List UInt8)(a1:Int):=
 aA (λy1=>
 cond (y1)
 (some [])
 (let x3:List UInt8:=[UInt8.ofNat (114:Int).toNat,UInt8.ofNat (111:Int).toNat,UInt8.ofNat (108:Int).toNat,UInt8.ofNat (108:Int).toNat]
 ob (UB x3 a1 4) λr4=>
 let r5:(List UInt8):=VC a0 r4
 cond (decide (0≤(0:Int))&&decide ((0:Int)≤12)&&decide (12≤(r5.length:Int))) (cond (decide (([]:List UInt8).length+(List.take 12 (List.drop 0 r5)).length≤bA)) (some ([]++(List.take 12 (List.drop 0 r5)))) none) none)) λk2=>
 cond (!(eA (a0.length:Int) 1 32))
 (k2 true)
 (k2 (!(eA a1 0 10000)))
end
end Go.D
namespace Go.D
end Go.D
namespace Go.D
def zfT{σ R:Type}(n:Nat)(hn:n≤maxLen)(S:Nat→σ)(z:Option R){f:σ×Int→(σ×Int→Option R)→Option R}
  (hf:∀(i:Nat) k,i<n→f (S i,(i:Int)) k=k (S (i+1),IntKind.wrap .i64 ((i:Int)+1))) (hz:∀k,f (S n,(n:Int)) k=z) (a:Nat) (ha:a≤n):qA FU f (S a,(a:Int))=z:=by
 refine AG (g:=λ_=>z) (λx=>∃i:Nat,i≤n∧x=(S i,(i:Int))) (λx=>n - x.2.toNat) (λx hx k hk=>?_) ⟨a,ha,rfl⟩ (by unfold maxLen at hn;simp only[Int.toNat_natCast];omega);obtain⟨i,hi,rfl⟩:=hx
 rcases Nat.lt_or_eq_of_le hi with NV | rfl
 ·rw[hf i k NV,wG i (by omega)];exact hk _ ⟨i+1,NV,rfl⟩ (by simp only[Int.toNat_natCast];omega)
 ·exact hz k
def ON(n:Nat)(h:n<2^64):(BitVec.ofInt 64 (n:Int)).toNat=n:=by
 rw[BitVec.toNat_ofInt];omega
def zdk(a:Int):0≤lE a∧lE a≤4294967295:=by
 have h:(BitVec.ofInt 64 a&&&BitVec.ofInt 64 4294967295).toNat≤4294967295:=by
  rw[BitVec.toNat_and];exact Nat.le_trans Nat.and_le_right (by decide)
 unfold lE LB;show 0≤IntKind.wrap .i64 ((BitVec.ofInt 64 a&&&BitVec.ofInt 64 4294967295).toNat:Int)∧IntKind.wrap .i64 ((BitVec.ofInt 64 a&&&BitVec.ofInt 64 4294967295).toNat:Int)≤4294967295
 rw[XB (by omega) (by omega)];omega
def dV{a:Int}(h0:0≤a)(h1:a≤9223372036854775807):lE a=a % 4294967296:=by
 obtain⟨n,rfl⟩:=TF h0;unfold lE LB;show IntKind.wrap .i64 ((BitVec.ofInt 64 (n:Int)&&&BitVec.ofInt 64 ((4294967295:Nat):Int)).toNat:Int)=_
 rw[BitVec.toNat_and,ON n (by omega),ON _ (by decide)];have:=Nat.and_two_pow_sub_one_eq_mod n 32;rw[show(4294967295:Nat)=2^32 - 1 from rfl,this,XB (by omega) (by omega)];omega
def BD(a:Int):Prop:=0≤a∧a≤4294967295
def zdD(a:Int):BD (lE a):=zdk a
def xM{a b:Int}(ha:BD a)(hb:BD b):BD (CB .i64 a b):=by
 obtain⟨n,rfl⟩:=TF ha.1;obtain⟨m,rfl⟩:=TF hb.1;have h1:=ha.2;have h2:=hb.2;have h:(n^^^m)<2^32:=Nat.xor_lt_two_pow (by omega) (by omega);unfold CB;show BD (IntKind.wrap .i64 ((BitVec.ofInt 64 (n:Int)^^^BitVec.ofInt 64 (m:Int)).toNat:Int))
 rw[BitVec.toNat_xor,ON n (by omega),ON m (by omega),XB (by omega) (by omega)];exact⟨by omega,by omega⟩
def zsY(a b:Int):CB .i64 a b=CB .i64 b a:=by
 unfold CB;rw[BitVec.xor_comm]
def pV{a b:Int}(ha:BD a)(hb:BD b):BD (LB .i64 a b):=by
 obtain⟨n,rfl⟩:=TF ha.1;obtain⟨m,rfl⟩:=TF hb.1;have h1:=ha.2;have h2:=hb.2;have h:(n&&&m)≤m:=Nat.and_le_right;unfold LB;show BD (IntKind.wrap .i64 ((BitVec.ofInt 64 (n:Int)&&&BitVec.ofInt 64 (m:Int)).toNat:Int))
 rw[BitVec.toNat_and,ON n (by omega),ON m (by omega),XB (by omega) (by omega)];exact⟨by omega,by omega⟩
def OS(x n:Int):BD (bG x n):=zdD _
def vH{a b:Nat}(h:a+b≤bA):decide (a+b≤bA)=true:=decide_eq_true h
def zby.ok{x}(_:xA [.sl .byte] x){r}:CA x=some r→Ro x=some r:=UA λh=>by
 have h2:(show List UInt8 from x).length≤bA:=by rw[←FA];exact h
 show cond (decide (([]:List UInt8).length+(show List UInt8 from x).length≤bA)) _ _=_
 rw[dO h2];rfl
def zkq(b:List UInt8)(n k:Int)(h:wt b+6≤bA):Mf b n k=some (AD b n k):=by
 rw[FA]at h;simp only[Mf,aA,AD,List.nil_append];rw[dO (by omega)];simp only[cond_true]
 by_cases h1:k<1
 ·rw[decide_eq_true h1];rfl
 by_cases h2:k>6
 ·rw[decide_eq_false h1,decide_eq_true h2];rfl
 rw[decide_eq_false h1,decide_eq_false h2];simp only[cond_false,Bool.or_false];have hk:wA .i64 k 1=k - 1:=by rw[wA,XB (by omega) (by omega)]
 rw[hk];rw[AG (g:=λx:List UInt8×Int=>some (x.1++hG n (x.2+1).toNat)) (λx=> -1≤x.2∧x.2≤5∧(x.1.length:Int)+x.2+1≤(bA:Int)) (λx=>(x.2+1).toNat) (λx hx kk AZ=>?_) (x:=(b,k - 1)) ⟨by show -1≤k - 1;omega,by show k - 1≤5;omega,by show(b.length:Int)+(k - 1)+1≤(bA:Int);omega⟩ (by show(k - 1+1).toNat<2^64;omega)]
 ·rw[show k - 1+1=k by omega]
 ·obtain⟨l,i⟩:=x;obtain⟨g1,g2,g3⟩:=hx;simp only at g1 g2 g3⊢
  by_cases hi:0≤i
  ·obtain⟨j,rfl⟩:=TF hi;have e1:YB .i64 8 (j:Int)=8 *(j:Int):=XB (by omega) (by omega);have e2:wA .i64 (j:Int) 1=(j:Int) - 1:=by rw[wA,XB (by omega) (by omega)]
   have e3:decide (YB .i64 8 (j:Int)<0)=false:=decide_eq_false (by rw[e1];omega);rw[decide_eq_true (p:=(j:Int)≥0) hi,cond_true,e3,cond_false,vH (by simp;omega),cond_true,e2];refine(AZ (l++[nO n j],(j:Int) - 1) ⟨by show -1≤(j:Int) - 1;omega,by show(j:Int) - 1≤5;omega,by show((l++[nO n j]).length:Int)+((j:Int) - 1)+1≤(bA:Int);simp;omega⟩ (by show((j:Int) - 1+1).toNat<((j:Int)+1).toNat;omega)).trans ?_;simp only;rw[show((j:Int) - 1+1).toNat=j by omega,show((j:Int)+1).toNat=j+1 by omega,hG,List.append_assoc];rfl
  ·have:i= -1:=by omega
   subst this;simp[hG]
def eS.ok{x}(_:xA [.sl .byte, .v .int, .v .int] x){r}:UB x.1 x.2.1 x.2.2=some r→Mf x.1 x.2.1 x.2.2=some r:=UA λh=>zkq x.1 x.2.1 x.2.2 h
def zbT.ok{x}(_:xA [.sl .byte, .v .int, .v .int] x){r}:UB x.1 x.2.1 x.2.2=some r→Rs x.1 x.2.1 x.2.2=some r:=UA λh=>zkq x.1 x.2.1 x.2.2 h
def zj7:∀l:List (List UInt8),l.flatten.length≤wt l
 | []=>Nat.zero_le _
 | x :: l=>by
  have:=zj7 l;rw[vD,FA,List.flatten_cons,List.length_append];omega
def zoS(l:List (List UInt8))(h:wt l≤bA):Mh l=some l.flatten:=by
 simp only[Mh,aA];refine zfT l.length (eE h) (λi=>(l.take i).flatten) (some l.flatten) (λi k hi=>?_) (λk=>by simp only[SD,cond_false,List.take_length]) 0 (Nat.zero_le _);have e:(l.take (i+1)).flatten=(l.take i).flatten++l[i]:=by rw[WL l hi,List.flatten_append];simp
 have LV:=zj7 (l.take (i+1));have h2:=yG l (i+1);rw[e,List.length_append]at LV;simp only[wD hi,cond_true,HB hi,YA,vH (show(l.take i).flatten.length+l[i].length≤bA by omega),e]
def KQ.ok{x}(_:xA [.sl .bs] x){r}:jD x=some r→Mh x=some r:=UA λh=>zoS x h
def zuU(b:List UInt8)(f n:Int)(h:wt b≤bA)(hf:sE .i64 f)(hn:sE .i64 n):Mi b f n=some (cut b f n):=by
 have hl:b.length≤bA:=by rw[←FA];exact h
 have hL:=IB;have hf:=gS hf;simp only[Mi,aA,cut,List.nil_append]
 by_cases h1:f<0
 ·rw[decide_eq_true h1];rfl
 by_cases h2:n<0
 ·rw[decide_eq_false h1,decide_eq_true h2];rfl
 by_cases h3:f>(b.length:Int)
 ·rw[decide_eq_false h1,decide_eq_false h2,decide_eq_true h3];rfl
 have e:wA .i64 (b.length:Int) f=(b.length:Int) - f:=by rw[wA,XB (by omega) (by omega)]
 rw[e]
 by_cases h4:n>(b.length:Int) - f
 ·rw[decide_eq_false h1,decide_eq_false h2,decide_eq_false h3,decide_eq_true h4];rfl
 have e2:iA .i64 f n=f+n:=by rw[iA,XB (by omega) (by omega)]
 have e3:(decide (0≤f)&&decide (f≤f+n)&&decide (f+n≤(b.length:Int)))=true:=by simp;omega
 rw[decide_eq_false h1,decide_eq_false h2,decide_eq_false h3,decide_eq_false h4];simp only[cond_false,e2];rw[e3,show f+n - f=n by omega];have:((b.drop f.toNat).take n.toNat).length≤bA:=by rw[List.length_take,List.length_drop];omega
 rw[dO this];rfl
def jS.ok{x}(hb:xA [.sl .byte, .v .int, .v .int] x){r}:mJ x.1 x.2.1 x.2.2=some r→Mi x.1 x.2.1 x.2.2=some r:=UA λh=>
 zuU x.1 x.2.1 x.2.2 h (RN hb.2.1 0 (by decide) rfl) (RN hb.2.2 0 (by decide) rfl)
def zeC(l:List UInt8){i:Nat}(hi:i<l.length):CG (l.take (i+1))=iA .i64 (YB .i64 (CG (l.take i)) 256) (IntKind.wrap .i64 ((l[i].toNat:Nat):Int)):=by
 rw[CG,WL l hi,List.foldl_append];rfl
def zpK(b:List UInt8)(f k:Int)(h:wt b≤bA)(hf:sE .i64 f):Mz b f k=some (dH b f k):=by
 have hl:b.length≤bA:=by rw[←FA];exact h
 have hL:=IB;have hf:=gS hf;simp only[Mz,aA,dH]
 by_cases h1:k<1
 ·rw[decide_eq_true h1];rfl
 by_cases h2:k>6
 ·rw[decide_eq_false h1,decide_eq_true h2];rfl
 by_cases h3:f<0
 ·rw[decide_eq_false h1,decide_eq_false h2,decide_eq_true h3];rfl
 have e:wA .i64 (b.length:Int) k=(b.length:Int) - k:=by rw[wA,XB (by omega) (by omega)]
 rw[e]
 by_cases h4:f>(b.length:Int) - k
 ·rw[decide_eq_false h1,decide_eq_false h2,decide_eq_false h3,decide_eq_true h4];rfl
 rw[decide_eq_false h1,decide_eq_false h2,decide_eq_false h3,decide_eq_false h4];simp only[cond_false,Bool.or_false];obtain⟨a,rfl⟩:=TF (n:=f) (by omega);obtain⟨m,rfl⟩:=TF (n:=k) (by omega);simp only[Int.toNat_natCast];refine zfT m (by rw[tD];omega) (λi=>CG (((b.drop a).take m).take i)) _ (λi k hi=>?_) (λk=>?_) 0 (Nat.zero_le _)
 ·have e1:iA .i64 (a:Int) (i:Int)=((a+i:Nat):Int):=by rw[iA,XB (by omega) (by omega)];omega
  have NV:i<((b.drop a).take m).length:=by rw[List.length_take,List.length_drop];omega
  have hai:a+i<b.length:=by omega
  rw[wD hi,cond_true,e1,HB hai,YA,zeC _ NV];simp only[List.getElem_take,List.getElem_drop]
 ·rw[SD,cond_false,List.take_of_length_le (i:=m) (by rw[List.length_take];omega)]
def JR.ok{x}(hb:xA [.sl .byte, .v .int, .v .int] x){r}:ZG x.1 x.2.1 x.2.2=some r→Mz x.1 x.2.1 x.2.2=some r:=UA λh=>
 zpK x.1 x.2.1 x.2.2 h (RN hb.2.1 0 (by decide) rfl)
def ztP(p:List UInt8)(hp:p.length≤maxLen)(c:Int):qA FU (λ(x6:Int×Int) k7=>cond (decide (x6.2<(p.length:Int))) (cond (decide (0≤x6.2)&&decide (x6.2<(p.length:Int))) (Option.bind (p[x6.2.toNat]?) λe8=>
  k7 ((iA .i64 (YB .i64 256 x6.1) (IntKind.wrap .i64 ((e8.toNat:Nat):Int))),(iA .i64 x6.2 1))) none) (some (x6.1,c,true))) ((0:Int),(0:Int))=some (CG p,c,true):=by
 refine zfT p.length hp (λi=>CG (p.take i)) _ (λi k hi=>?_) (λk=>?_) 0 (Nat.zero_le _)
 ·have e3:(decide ((0:Int)≤(i:Int))&&decide ((i:Int)<(p.length:Int)))=true:=by simp;exact hi
  simp only[e3,wD hi,cond_true,Int.toNat_natCast,List.getElem?_eq_getElem hi,YA,zeC _ hi,YB,Int.mul_comm 256];rw[show decide ((0:Int)≤(i:Int))=true from decide_eq_true (by omega)];rfl
 ·rw[SD,cond_false,List.take_length]
def zqh(b:List UInt8)(f k:Int)(h:wt b≤bA)(hf:sE .i64 f):Mj b f k=some (dH b f k):=by
 have hl:b.length≤bA:=by rw[←FA];exact h
 have hL:=IB;have hf:=gS hf;simp only[Mj,aA,dH,mJ,HA h,cut]
 by_cases h1:k<1
 ·rw[decide_eq_true h1];rfl
 by_cases h2:k>6
 ·rw[decide_eq_false h1,decide_eq_true h2];rfl
 by_cases h3:f<0
 ·rw[decide_eq_false h1,decide_eq_false h2,decide_eq_true h3];rfl
 rw[decide_eq_false h1,decide_eq_false h2,decide_eq_false h3,decide_eq_false (p:=k<0) (by omega)]
 by_cases h4:f>(b.length:Int) - k
 ·rw[decide_eq_true h4]
  by_cases h5:f>(b.length:Int)
  ·rw[decide_eq_true h5];rfl
  ·rw[decide_eq_false h5,decide_eq_true (p:=k>(b.length:Int) - f) (by omega)];rfl
 rw[decide_eq_false h4,decide_eq_false (p:=f>(b.length:Int)) (by omega),decide_eq_false (p:=k>(b.length:Int) - f) (by omega)];simp only[cond_false,Bool.or_false,Bool.not_true];obtain⟨a,rfl⟩:=TF (n:=f) (by omega);obtain⟨m,rfl⟩:=TF (n:=k) (by omega);simp only[Int.toNat_natCast];have LV:((b.drop a).take m).length=m:=by rw[List.length_take,List.length_drop];omega
 exact ztP _ (by rw[LV,tD];omega) _
def SR.ok{x}(hb:xA [.sl .byte, .v .int, .v .int] x){r}:ZG x.1 x.2.1 x.2.2=some r→Mj x.1 x.2.1 x.2.2=some r:=UA λh=>
 zqh x.1 x.2.1 x.2.2 h (RN hb.2.1 0 (by decide) rfl)
def ztW(l:List UInt8)(h:l.length≤4):0≤CG l∧CG l<256^l.length:=by
 have key:∀i,i≤l.length→0≤CG (l.take i)∧CG (l.take i)<256^i:=by
  intro i;induction i with
  | zero=>intro _;simp[CG]
  | succ i ih=>
   intro hi;have NV:i<l.length:=by omega
   obtain⟨h1,h2⟩:=ih (by omega);have hb:=UInt8.toNat_lt l[i]
   have hp:(256:Int)^i≤16777216:=by
    have:i=0∨i=1∨i=2∨i=3:=by omega
    rcases this with rfl | rfl | rfl | rfl<;>decide
   rw[zeC l NV,Int.pow_succ];generalize (256:Int)^i=q at *;generalize CG (l.take i)=v at *;have e1:IntKind.wrap .i64 ((l[i].toNat:Nat):Int)=(l[i].toNat:Int):=XB (by omega) (by omega);have e2:YB .i64 v 256=v *256:=XB (by omega) (by omega);rw[e1,e2,iA,XB (by omega) (by omega)];omega
 have:=key l.length (Nat.le_refl _);rwa [List.take_length]at this
def zu3(x n:Int)(h:1≤n∧n≤31):Mk x n=some (bG x n):=by
 simp only[Mk,aA,bG,lE];rw[decide_eq_false (p:=n<0) (by omega),decide_eq_false (p:=n>31) (by omega)];have:wA .i64 32 n=32 - n:=by rw[wA,XB (by omega) (by omega)]
 rw[this,decide_eq_false (p:=32 - n<0) (by omega)];rfl
def vS.ok{x}(_:xA [.v .int, .v .int] x){r}:kE x.1 x.2=some r→Mk x.1 x.2=some r:=UA λh=>zu3 x.1 x.2 h
def zqR(a n:Int)(h:1≤n∧n≤31):Na a n=some (bG a n):=by
 simp only[Na,aA,bG,lE];rw[decide_eq_false (p:=n<1) (by omega),decide_eq_false (p:=n>31) (by omega),decide_eq_false (p:=n<0) (by omega)];have:wA .i64 32 n=32 - n:=by rw[wA,XB (by omega) (by omega)]
 rw[this,decide_eq_false (p:=32 - n<0) (by omega)];rfl
def tS.ok{x}(_:xA [.v .int, .v .int] x){r}:kE x.1 x.2=some r→Na x.1 x.2=some r:=UA λh=>zqR x.1 x.2 h
def zbz.ok{x}(_:xA [.v .int, .v .int] x):Rr x.1 x.2=some (KF x.1 x.2):=rfl
def zbM.ok{x}(_:xA [] x):Rp=some AE:=rfl
def zbL.ok{x}(_:xA [] x):Rt=some AE:=rfl
def zcs.ok{x}(_:xA [] x):Ru=some hI:=rfl
def iQ.ok{x}(hb:xA [.sl .int] x):My x=some (zc9 x):=by
 show My (x:List Int)=some (AC (x:List Int) 8)
 have hl:(show List Int from x).length≤maxLen:=hb.1;generalize (show List Int from x)=l at hl⊢;simp only[My,aA];rw[zei l hl,AC];cases List.all _ _<;>rfl
def zsU:∀m:Fin 64,Jx (m.val:Int)=some (ZL (m.val:Int)):=by decide+kernel
def SM.ok{x}(_:xA [.v .int] x):Jx x=some (ZL x):=by
 show Jx (x:Int)=some (ZL (x:Int))
 generalize (show Int from x)=i
 by_cases h:0≤i∧i≤63
 ·obtain⟨m,rfl⟩:=TF h.1;exact zsU ⟨m,by omega⟩
 ·simp only[Jx,aA,ZL,if_neg h]
  by_cases h1:i<0
  ·rw[decide_eq_true h1];rfl
  ·rw[decide_eq_false h1,decide_eq_true (p:=i>63) (by omega)];rfl
end Go.D
namespace Go.D
def YH{X R:Type}(idx:X→Int)(E:Nat→X)(N4:∀i,idx (E i)=(i:Int))(n:Nat)(hn:n≤maxLen)(z:Option R){f:X→(X→Option R)→Option R}(a:Nat)(ha:a≤n)
  (hf:∀(i:Nat) k,a≤i→i<n→f (E i) k=k (E (i+1))) (hz:∀k,f (E n) k=z):qA FU f (E a)=z:=by
 refine AG (g:=λ_=>z) (λx=>∃i:Nat,a≤i∧i≤n∧x=E i) (λx=>n - (idx x).toNat) (λx hx k hk=>?_) ⟨a,Nat.le_refl _,ha,rfl⟩ (by rw[N4];unfold maxLen at hn;simp only[Int.toNat_natCast];omega);obtain⟨i,h0,hi,rfl⟩:=hx
 rcases Nat.lt_or_eq_of_le hi with NV | rfl
 ·rw[hf i k h0 NV];exact hk _ ⟨i+1,by omega,NV,rfl⟩ (by rw[N4,N4];simp only[Int.toNat_natCast];omega)
 ·exact hz k
def BF{n i:Nat}(h:i<n):(decide ((0:Int)≤(i:Int))&&decide ((i:Int)<(n:Int)))=true:=by simp;exact h
def sH{l:List Int}{i:Nat}(h:i<l.length):l[i]?=some (l.getD i 0):=by
 rw[List.getD_eq_getElem?_getD,List.getElem?_eq_getElem h];rfl
def eM{i c:Nat}(h:i≤maxLen)(hc:c≤i):wA .i64 (i:Int) (c:Int)=((i - c:Nat):Int):=by
 rw[tD]at h;rw[wA,XB (by omega) (by omega)];omega
def VH{i:Nat}(h:i<maxLen):iA .i64 (i:Int) 1=((i+1:Nat):Int):=wG i h
def zvE{i n:Nat}(h:i<n):decide ((i:Int)<(n:Int))=true:=decide_eq_true (by omega)
def DK(b:List UInt8):∀i,(zD b i).length=i
 | 0=>rfl
 | i+1=>by rw[zD,List.length_append,DK b i];rfl
def zrs(b:List UInt8)(w:List Int)(i:Nat):BD (YL b w i):=by
 unfold YL;split
 ·unfold dH;cases decide ((4:Int)<1)||(decide ((4:Int)>6)||(decide (((4 *i:Nat):Int)<0)||decide (((4 *i:Nat):Int)>(b.length:Int) - 4)))
  ·simp only[cond_false];have h4:((b.drop ((4 *i:Nat):Int).toNat).take (4:Int).toNat).length≤4:=by rw[List.length_take];exact Nat.min_le_left _ _
   have:=ztW _ h4
   have hp:(256:Int)^((b.drop ((4 *i:Nat):Int).toNat).take (4:Int).toNat).length≤4294967296:=by
    generalize ((b.drop ((4 *i:Nat):Int).toNat).take (4:Int).toNat).length=q at h4;have:q=0∨q=1∨q=2∨q=3∨q=4:=by omega
    rcases this with rfl | rfl | rfl | rfl | rfl<;>decide
   exact⟨this.1,by omega⟩
  ·show BD 0
   exact⟨by decide,by decide⟩
 ·exact zdD _
def zln(b:List UInt8):∀(i j:Nat),BD ((zD b i).getD j 0)
 | 0,j=>by rw[show(zD b 0)=[]from rfl];simp;exact⟨by decide,by decide⟩
 | i+1,j=>by
  rw[zD,List.getD_eq_getElem?_getD,List.getElem?_append];split
  ·have:=zln b i j;rwa [List.getD_eq_getElem?_getD]at this
  ·cases hj:j - (zD b i).length with
   | zero=>exact zrs b _ i
   | succ m=>simp;exact⟨by decide,by decide⟩
def zmi{i:Nat}(h:i<16):YB .i64 4 (i:Int)=((4 *i:Nat):Int):=by
 rw[show YB .i64 4 (i:Int)=IntKind.wrap .i64 (4 *(i:Int))from rfl,XB (by omega) (by omega)];omega
def WE{β:Type}{x n:Int}{f:Int→Option β}(h:1≤n∧n≤31):Option.bind (kE x n) f=f (bG x n):=HA h
def zn6(b:List UInt8)(h:wt b≤bA):Nb b=some (IC b):=by
 simp only[Nb,aA,IC]
 by_cases hl:b.length=64
 case neg=>
  rw[show((b.length:Int) !=64)=true from bne_iff_ne.2 (by omega),if_neg hl];rfl
 rw[show((b.length:Int) !=64)=false by simp[hl],if_pos hl,cond_false];have hL:=IB;refine(YH (X:=List Int×Int) (λx=>x.2) (λi=>(zD b i,(i:Int))) (λ_=>rfl) 16 (by decide) (some (zD b 64)) 0 (by decide) (λi k _ hi=>?_) (λk=>?_))
 ·simp only[zvE (show i<16 from hi),show((16:Nat):Int)=16 from rfl,decide_eq_true (p:=(i:Int)<16) (by omega),cond_true,zmi hi,ZG,HA h,VH (i:=i) (by rw[tD];omega)];rw[vH (by rw[DK];simp;omega),cond_true,zD,YL,if_pos hi]
 ·simp only[show((16:Nat):Int)=16 from rfl,show decide ((16:Int)<16)=false from rfl,cond_false];refine(YH (X:=List Int×Int) (λx=>x.2) (λi=>(zD b i,(i:Int))) (λ_=>rfl) 64 (by decide) (some (zD b 64)) 16 (by decide) (λi k UY hi=>?_) (λk=>?_))
  ·have hm:i≤maxLen:=by rw[tD];omega
   have e15:wA .i64 (i:Int) 15=((i - 15:Nat):Int):=eM (c:=15) hm (by omega);have e2:wA .i64 (i:Int) 2=((i - 2:Nat):Int):=eM (c:=2) hm (by omega);have e7:wA .i64 (i:Int) 7=((i - 7:Nat):Int):=eM (c:=7) hm (by omega);have e16:wA .i64 (i:Int) 16=((i - 16:Nat):Int):=eM (c:=16) hm (by omega);have hs:=DK b i
   simp only[decide_eq_true (p:=(i:Int)<64) (by omega),cond_true,e15,e2,e7,e16,BF (show i - 15<(zD b i).length by omega),BF (show i - 2<(zD b i).length by omega),BF (show i - 7<(zD b i).length by omega),BF (show i - 16<(zD b i).length by omega),Int.toNat_natCast,
    sH (show i - 15<(zD b i).length by omega),sH (show i - 2<(zD b i).length by omega),sH (show i - 7<(zD b i).length by omega),sH (show i - 16<(zD b i).length by omega),YA,WE (show(1:Int)≤7∧(7:Int)≤31 by decide),WE (show(1:Int)≤18∧(18:Int)≤31 by decide),WE (show(1:Int)≤17∧(17:Int)≤31 by decide),WE (show(1:Int)≤19∧(19:Int)≤31 by decide),VH (i:=i) (by rw[tD];omega)]
   rw[vH (by rw[DK];simp;omega),cond_true,zD,YL,if_neg (by omega)];rfl
  ·simp only[show((64:Nat):Int)=64 from rfl,show decide ((64:Int)<64)=false from rfl,cond_false]
def tP.ok{x}(_:xA [.sl .byte] x){r}:RL x=some r→Nb x=some r:=UA λh=>zn6 x h
def mF(b:List UInt8)(i:Nat):List Int:=zD b i++List.replicate (64 - i) 0
def zit(b:List UInt8){i:Nat}(hi:i<64)(v:Int)(hv:v=YL b (zD b i) i):List.set (mF b i) i v=mF b (i+1):=by
 subst hv;rw[mF,show 64 - i=(64 - (i+1))+1 by omega,List.replicate_succ,zlN _ _ _ _ (DK b i),mF,zD,List.append_assoc];rfl
def zaA(b:List UInt8){i j:Nat}(hj:j<i):(mF b i)[j]?=some ((zD b i).getD j 0):=by
 rw[mF,List.getElem?_append_left (by rw[DK];exact hj),sH (by rw[DK];exact hj)]
def zer(b:List UInt8){i:Nat}(h:i≤64):(mF b i).length=64:=by
 rw[mF,List.length_append,DK,List.length_replicate];omega
def zh6(b:List UInt8){i j:Nat}(hi:i≤64)(hj:j<64):∃v,(mF b i)[j]?=some v:=⟨_,List.getElem?_eq_getElem (by rw[zer b hi];exact hj)⟩
def znY(b:List UInt8)(h:wt b≤bA):Ml b=some (IC b):=by
 simp only[Ml,aA,IC]
 by_cases hl:b.length=64
 case neg=>
  rw[show((b.length:Int) !=64)=true from bne_iff_ne.2 (by omega),if_neg hl];rfl
 rw[show((b.length:Int) !=64)=false by simp[hl],if_pos hl,cond_false];have hend:mF b 64=zD b 64:=by simp[mF]
 refine(YH (X:=Int×List Int) (λx=>x.1) (λi=>((i:Int),mF b i)) (λ_=>rfl) 16 (by decide) (some (zD b 64)) 0 (by decide) (λi k _ hi=>?_) (λk=>?_))
 ·have LV:=zer b (i:=i) (by omega);obtain⟨v,hv⟩:=zh6 b (i:=i) (j:=i) (by omega) (by omega);simp only[decide_eq_true (p:=(i:Int)<16) (by omega),cond_true,zmi hi,ZG,HA h,BF (show i<(mF b i).length by omega),Int.toNat_natCast,hv,YA,VH (i:=i) (by rw[tD];omega)];rw[zit b (by omega) _ (by rw[YL,if_pos hi])]
 ·simp only[show((16:Nat):Int)=16 from rfl,show decide ((16:Int)<16)=false from rfl,cond_false];refine(YH (X:=Int×List Int) (λx=>x.1) (λi=>((i:Int),mF b i)) (λ_=>rfl) 64 (by decide) (some (zD b 64)) 16 (by decide) (λi k UY hi=>?_) (λk=>?_))
  ·have hm:i≤maxLen:=by rw[tD];omega
   have LV:=zer b (i:=i) (by omega);obtain⟨v,hv⟩:=zh6 b (i:=i) (j:=i) (by omega) (by omega);have e15:wA .i64 (i:Int) 15=((i - 15:Nat):Int):=eM (c:=15) hm (by omega);have e2:wA .i64 (i:Int) 2=((i - 2:Nat):Int):=eM (c:=2) hm (by omega);have e7:wA .i64 (i:Int) 7=((i - 7:Nat):Int):=eM (c:=7) hm (by omega);have e16:wA .i64 (i:Int) 16=((i - 16:Nat):Int):=eM (c:=16) hm (by omega)
   simp only[decide_eq_true (p:=(i:Int)<64) (by omega),cond_true,e15,e2,e7,e16,BF (show i - 15<(mF b i).length by omega),BF (show i - 2<(mF b i).length by omega),BF (show i - 7<(mF b i).length by omega),BF (show i - 16<(mF b i).length by omega),BF (show i<(mF b i).length by omega),Int.toNat_natCast,
    zaA b (show i - 15<i by omega),zaA b (show i - 2<i by omega),zaA b (show i - 7<i by omega),zaA b (show i - 16<i by omega),hv,YA,WE (show(1:Int)≤7∧(7:Int)≤31 by decide),WE (show(1:Int)≤18∧(18:Int)≤31 by decide),WE (show(1:Int)≤17∧(17:Int)≤31 by decide),WE (show(1:Int)≤19∧(19:Int)≤31 by decide),VH (i:=i) (by rw[tD];omega)]
   rw[zit b hi _ (by rw[YL,if_neg (by omega)];rfl)]
  ·simp only[show((64:Nat):Int)=64 from rfl,show decide ((64:Int)<64)=false from rfl,cond_false,hend]
def GP.ok{x}(_:xA [.sl .byte] x){r}:RL x=some r→Ml x=some r:=UA λh=>znY x h
def zrT(b:List UInt8)(j:Nat):BD ((IC b).getD j 0):=by
 unfold IC;split
 ·exact zln b 64 j
 ·simp;exact⟨by decide,by decide⟩
end Go.D
namespace Go.D
def zke:hI.length=64:=by decide
def zvV:∀m:Fin 64,decide (0≤hI.getD m.val 0)&&decide (hI.getD m.val 0≤4294967295)=true:=by decide+kernel
def k_w{i:Nat}(h:i<64):BD (hI.getD i 0):=by
 have:=zvV ⟨i,h⟩;simp only[Bool.and_eq_true,decide_eq_true_eq]at this;exact this
def zpw{i:Nat}(h:i<64):ZL (i:Int)=hI.getD i 0:=by
 rw[ZL,if_pos (by omega),Int.toNat_natCast]
def W8(s:S8):Prop:=BD s.1∧BD s.2.1∧BD s.2.2.1∧BD s.2.2.2.1∧BD s.2.2.2.2.1∧BD s.2.2.2.2.2.1∧BD s.2.2.2.2.2.2.1∧BD s.2.2.2.2.2.2.2
def zuI(k w:Int){s:S8}(h:W8 s):W8 (zdz k w s):=⟨zdD _,h.1,h.2.1,h.2.2.1,zdD _,h.2.2.2.2.1,h.2.2.2.2.2.1,h.2.2.2.2.2.2.1⟩
def zj4(w:List Int){s:S8}(h:W8 s):∀i,W8 (rounds w s i)
 | 0=>h
 | i+1=>zuI _ _ (zj4 w h i)
def uV{a b:Int}{m n:Int}(ha:0≤a∧a≤m)(hb:0≤b∧b≤n)(h:m+n≤9223372036854775807):0≤iA .i64 a b∧iA .i64 a b≤m+n:=by
 rw[iA,XB (by omega) (by omega)];omega
def zvQ:BD 4294967295:=⟨by decide,by decide⟩
def zy5{k w:Int}{s:S8}(hk:BD k)(hw:BD w)(h:W8 s):0≤rT k w s∧rT k w s≤21474836475:=by
 obtain⟨_,_,_,_,h5,h6,h7,h8⟩:=h;have a1:=xM (xM (OS s.2.2.2.2.1 6) (OS s.2.2.2.2.1 11)) (OS s.2.2.2.2.1 25);have a2:=xM (pV h5 h6) (pV (xM h5 zvQ) h7);have b1:=uV h8 a1 (by decide);have b2:=uV b1 a2 (by decide);have b3:=uV b2 hk (by decide);exact uV b3 hw (by decide)
def zxW{s:S8}(h:W8 s):0≤rU s∧rU s≤8589934590:=by
 obtain⟨h1,h2,h3,_⟩:=h;exact uV (xM (xM (OS s.1 2) (OS s.1 13)) (OS s.1 22)) (xM (xM (pV h1 h2) (pV h1 h3)) (pV h2 h3)) (by decide)
def zk3{a b:Int}(ha:0≤a∧a≤1099511627776)(hb:0≤b∧b≤1099511627776):lE (iA .i64 a b)=lE (iA .i64 (lE a) (lE b)):=by
 have h1:=zdk a;have h2:=zdk b;rw[iA,iA,XB (by omega) (by omega),XB (by omega) (by omega),dV (by omega) (by omega),dV (a:=lE a+lE b) (by omega) (by omega),dV ha.1 (by omega),dV hb.1 (by omega)];omega
def zvS{a:Int}(h:BD a):lE a=a:=by
 rw[dV h.1 (Int.le_trans h.2 (by decide))];have:=h.1;have:=h.2;omega
def uK{h:List Int}(hw:AC h 8=true):h.length=8∧∀j,BD (h.getD j 0):=by
 simp only[AC,Bool.and_eq_true,beq_iff_eq,List.all_eq_true]at hw;refine⟨by omega,λj=>?_⟩
 by_cases hj:j<h.length
 ·rw[List.getD_eq_getElem?_getD,List.getElem?_eq_getElem hj];exact YC.1 (hw.1 _ (List.getElem_mem hj))
 ·rw[List.getD_eq_getElem?_getD,List.getElem?_eq_none (by omega)];exact⟨by decide,by decide⟩
def zwj{h:List Int}(hw:AC h 8=true):W8 (mE h):=by
 have:=(uK hw).2;exact⟨this 0,this 1,this 2,this 3,this 4,this 5,this 6,this 7⟩
def zcE(h:List Int)(s:S8)(hl:h.length=8):(List.zipWith KF h (zH s)).length=8:=by
 rw[List.length_zipWith,hl];rfl
def zrE{h:List Int}(b:List UInt8)(hw:AC h 8=true):AC (sF h b) 8=true:=by
 have hl:=(uK hw).1;simp only[AC,Bool.and_eq_true,beq_iff_eq,List.all_eq_true];refine⟨λx hx=>?_,?_⟩
 ·obtain⟨i,hi,rfl⟩:=List.getElem_of_mem hx;have hi2:i<(List.zipWith KF h (zH (rounds (IC b) (mE h) 64))).length:=hi;show eA ((List.zipWith KF h (zH (rounds (IC b) (mE h) 64)))[i]'hi2) 0 4294967295=true
  rw[List.getElem_zipWith];exact YC.2 (zdk _)
 ·have:=zcE h (rounds (IC b) (mE h) 64) hl;show((List.zipWith KF h (zH (rounds (IC b) (mE h) 64))).length:Int)=8
  omega
def zo6{h:List Int}(b:List UInt8)(hw:AC h 8=true):AC (RK h b) 8=true:=by
 unfold RK;cases AC h 8&&b.length==64
 ·exact hw
 ·exact zrE b hw
def zio{b:List UInt8}(h:b.length=64):(IC b).length=64:=by
 rw[IC,if_pos h,DK]
def aF(h:List Int)(z:List Int)(i:Nat):List Int:=z.take i++h.drop i
def zr9{h z:List Int}(hl:h.length=z.length){i:Nat}(hi:i<z.length)(v:Int)(hv:v=z[i]):List.set (aF h z i) i v=aF h z (i+1):=by
 subst hv;have hi2:i<h.length:=by omega
 rw[aF,OR h hi2,zlN _ _ _ _ (by rw[List.length_take];omega),aF,WL z hi,List.append_assoc];rfl
def ziY{h z:List Int}(hl:h.length=z.length){i:Nat}(hi:i≤z.length):(aF h z i).length=z.length:=by
 rw[aF,List.length_append,List.length_take,List.length_drop];omega
def XE{l:List Int}{i:Nat}(h:i<l.length):kA l (i:Int)=some (l.getD i 0):=by rw[zkd,sH h]
def zuN(h:List Int)(s:S8)(hl:h.length=8){i:Nat}(hi:i<(List.zipWith KF h (zH s)).length):(List.zipWith KF h (zH s))[i]=KF (h.getD i 0) ((zH s).getD i 0):=by
 have h8:=zcE h s hl;rw[List.getElem_zipWith,List.getD_eq_getElem?_getD,List.getD_eq_getElem?_getD,List.getElem?_eq_getElem (by omega),List.getElem?_eq_getElem (by show i<8;omega)];rfl
def zcm{h:List Int}(b:List UInt8)(h8:h.length=8):(sF h b).length=8:=zcE h _ h8
def zka{h:List Int}(b:List UInt8)(h8:h.length=8){i:Nat}(hi:i<8):List.set (aF h (sF h b) i) i (KF (h.getD i 0) ((zH (rounds (IC b) (mE h) 64)).getD i 0))=aF h (sF h b) (i+1):=
 zr9 (by rw[zcm b h8,h8]) (by rw[zcm b h8];exact hi) _ (zuN h _ h8 (by rw[zcE h _ h8];exact hi)).symm
def zn3(h:List Int)(b:List UInt8)(hh:wt h≤bA∧wt b≤bA):Nc h b=some (RK h b):=by
 have LV:h.length≤bA:=by rw[←aL];exact hh.1
 simp only[Nc,aA,List.nil_append,RK,zc9,RL,HA hh.2];rw[show decide (([]:List Int).length+h.length≤bA)=true from decide_eq_true (by simpa using LV)];simp only[cond_true];cases hw:AC h 8
 ·rfl
 by_cases hb:b.length=64
 case neg=>
  rw[show((b.length:Int) !=64)=true from bne_iff_ne.2 (by omega),beq_false_of_ne hb];rfl
 rw[show((b.length:Int) !=64)=false by simp[hb],show(b.length==64)=true by simp[hb]];obtain⟨h8,hW⟩:=uK hw;have i0:kA h 0=some (h.getD 0 0):=XE (i:=0) (by omega);have i1:kA h 1=some (h.getD 1 0):=XE (i:=1) (by omega);have i2:kA h 2=some (h.getD 2 0):=XE (i:=2) (by omega);have i3:kA h 3=some (h.getD 3 0):=XE (i:=3) (by omega);have i4:kA h 4=some (h.getD 4 0):=XE (i:=4) (by omega);have i5:kA h 5=some (h.getD 5 0):=XE (i:=5) (by omega);have i6:kA h 6=some (h.getD 6 0):=XE (i:=6) (by omega);have i7:kA h 7=some (h.getD 7 0):=XE (i:=7) (by omega);simp only[Bool.not_true,cond_false,Bool.and_true,cond_true,i0,i1,i2,i3,i4,i5,i6,i7,YA];have W2:=zio hb;refine YH (λx=>x.2.2.2.2.2.2.2.2) (λi=>((rounds (IC b) (mE h) i).1,(rounds (IC b) (mE h) i).2.1,(rounds (IC b) (mE h) i).2.2.1,(rounds (IC b) (mE h) i).2.2.2.1,(rounds (IC b) (mE h) i).2.2.2.2.1,(rounds (IC b) (mE h) i).2.2.2.2.2.1,(rounds (IC b) (mE h) i).2.2.2.2.2.2.1,(rounds (IC b) (mE h) i).2.2.2.2.2.2.2,(i:Int))) (λ_=>rfl) 64 (by decide) (some (sF h b)) 0 (by decide) (λi k _ hi=>?_) (λk=>?_)
 ·simp only[decide_eq_true (p:=(i:Int)<64) (by omega),cond_true,Int.toNat_natCast,BF (show i<hI.length by rw[zke];exact hi),BF (show i<(IC b).length by omega),sH (show i<hI.length by rw[zke];exact hi),sH (show i<(IC b).length by omega),YA,
   WE (show(1:Int)≤6∧(6:Int)≤31 by decide),WE (show(1:Int)≤11∧(11:Int)≤31 by decide),WE (show(1:Int)≤25∧(25:Int)≤31 by decide),WE (show(1:Int)≤2∧(2:Int)≤31 by decide),WE (show(1:Int)≤13∧(13:Int)≤31 by decide),WE (show(1:Int)≤22∧(22:Int)≤31 by decide),VH (i:=i) (by rw[tD];omega)]
  rfl
 ·simp only[show((64:Nat):Int)=64 from rfl,show decide ((64:Int)<64)=false from rfl,cond_false];have E2:=zcm b h8;refine YH (X:=Int×List Int) (λx=>x.1) (λi=>((i:Int),aF h (sF h b) i)) (λ_=>rfl) 8 (by decide) (some (sF h b)) 0 (by decide) (λi k _ hi=>?_) (λk=>?_)
  ·have B8:(aF h (sF h b) i).length=8:=by rw[ziY (by rw[E2,h8]) (by rw[E2];omega),E2]
   have F5:i<(zH (rounds (IC b) (mE h) 64)).length:=hi;have ho:(aF h (sF h b) i)[i]?=some ((aF h (sF h b) i).getD i 0):=sH (by omega);simp only[decide_eq_true (p:=(i:Int)<8) (by omega),cond_true,XE (show i<h.length by omega),YA,BF (show i<(aF h (sF h b) i).length by omega),ho,Int.toNat_natCast,VH (i:=i) (by rw[tD];omega)];have e1:=BF F5;have e2:=sH F5;unfold zH at e1 e2;rw[e1,cond_true,e2,YA];exact congrArg (λl=>k (((i+1:Nat):Int),l)) (zka b h8 hi)
  ·simp only[show((8:Nat):Int)=8 from rfl,show decide ((8:Int)<8)=false from rfl,cond_false];rw[aF,List.take_of_length_le (by rw[E2];exact Nat.le_refl _),List.drop_eq_nil_of_le (by omega),List.append_nil]
def yP.ok{x}(_:xA [.sl .int, .sl .byte] x){r}:HK x.1 x.2=some r→Nc x.1 x.2=some r:=UA λh=>zn3 x.1 x.2 h
def zsO{k w:Int}{s:S8}(hk:BD k)(hw:BD w)(h:W8 s):zdz k w s=(KF (rT k w s) (rU s),s.1,s.2.1,s.2.2.1,KF s.2.2.2.1 (rT k w s),s.2.2.2.2.1,s.2.2.2.2.2.1,s.2.2.2.2.2.2.1):=by
 have ht:=zy5 hk hw h;have hu:=zxW h;have hd:=h.2.2.2.1;rw[zdz,KF,KF,zk3 (a:=rT k w s) (b:=rU s) ⟨ht.1,by omega⟩ ⟨hu.1,by omega⟩,zk3 (a:=s.2.2.2.1) (b:=rT k w s) ⟨hd.1,Int.le_trans hd.2 (by decide)⟩ ⟨ht.1,by omega⟩,zvS hd]
def zn5(h:List Int)(b:List UInt8)(hh:wt h≤bA∧wt b≤bA):Mm h b=some (RK h b):=by
 have LV:h.length≤bA:=by rw[←aL];exact hh.1
 simp only[Mm,aA,List.nil_append,RK,RL,HA hh.2];rw[show decide (([]:List Int).length+h.length≤bA)=true from decide_eq_true (by simpa using LV)];simp only[cond_true];cases hw:AC h 8
 ·rfl
 by_cases hb:b.length=64
 case neg=>
  rw[show((b.length:Int) !=64)=true from bne_iff_ne.2 (by omega),beq_false_of_ne hb];rfl
 rw[show((b.length:Int) !=64)=false by simp[hb],show(b.length==64)=true by simp[hb]];obtain⟨h8,hW⟩:=uK hw;have i0:kA h 0=some (h.getD 0 0):=XE (i:=0) (by omega);have i1:kA h 1=some (h.getD 1 0):=XE (i:=1) (by omega);have i2:kA h 2=some (h.getD 2 0):=XE (i:=2) (by omega);have i3:kA h 3=some (h.getD 3 0):=XE (i:=3) (by omega);have i4:kA h 4=some (h.getD 4 0):=XE (i:=4) (by omega);have i5:kA h 5=some (h.getD 5 0):=XE (i:=5) (by omega);have i6:kA h 6=some (h.getD 6 0):=XE (i:=6) (by omega);have i7:kA h 7=some (h.getD 7 0):=XE (i:=7) (by omega);simp only[Bool.not_true,cond_false,Bool.and_true,cond_true,i0,i1,i2,i3,i4,i5,i6,i7,YA];have W2:=zio hb;refine YH (λx=>x.2.2.2.2.2.2.2.2) (λi=>((rounds (IC b) (mE h) i).1,(rounds (IC b) (mE h) i).2.1,(rounds (IC b) (mE h) i).2.2.1,(rounds (IC b) (mE h) i).2.2.2.1,(rounds (IC b) (mE h) i).2.2.2.2.1,(rounds (IC b) (mE h) i).2.2.2.2.2.1,(rounds (IC b) (mE h) i).2.2.2.2.2.2.1,(rounds (IC b) (mE h) i).2.2.2.2.2.2.2,(i:Int))) (λ_=>rfl) 64 (by decide) (some (sF h b)) 0 (by decide) (λi k _ hi=>?_) (λk=>?_)
 ·have hs:=zsO (k_w hi) (zrT b i) (zj4 (IC b) (zwj hw) i)
  simp only[decide_eq_true (p:=(i:Int)<64) (by omega),cond_true,Int.toNat_natCast,BF (show i<(IC b).length by omega),sH (show i<(IC b).length by omega),YA,zpw hi,zsY 4294967295,
   WE (show(1:Int)≤6∧(6:Int)≤31 by decide),WE (show(1:Int)≤11∧(11:Int)≤31 by decide),WE (show(1:Int)≤25∧(25:Int)≤31 by decide),WE (show(1:Int)≤2∧(2:Int)≤31 by decide),WE (show(1:Int)≤13∧(13:Int)≤31 by decide),WE (show(1:Int)≤22∧(22:Int)≤31 by decide),VH (i:=i) (by rw[tD];omega)]
  rw[rounds,hs];rfl
 ·simp only[show((64:Nat):Int)=64 from rfl,show decide ((64:Int)<64)=false from rfl,cond_false];have E2:=zcm b h8;refine YH (X:=Int×List Int) (λx=>x.1) (λi=>((i:Int),aF h (sF h b) i)) (λ_=>rfl) 8 (by decide) (some (sF h b)) 0 (by decide) (λi k _ hi=>?_) (λk=>?_)
  ·have B8:(aF h (sF h b) i).length=8:=by rw[ziY (by rw[E2,h8]) (by rw[E2];omega),E2]
   have F5:i<(zH (rounds (IC b) (mE h) 64)).length:=hi;have ho:(aF h (sF h b) i)[i]?=some ((aF h (sF h b) i).getD i 0):=sH (by omega);simp only[cond_true,XE (show i<h.length by omega),YA,BF (show i<(aF h (sF h b) i).length by omega),ho,Int.toNat_natCast,VH (i:=i) (by rw[tD];omega)];have e0:=wD F5;have e1:=BF F5;have e2:=sH F5;unfold zH at e0 e1 e2;rw[e0,cond_true,show decide ((0:Int)≤(i:Int))=true from decide_eq_true (by omega),Bool.and_true,cond_true,e2,YA];exact congrArg (λl=>k (((i+1:Nat):Int),l)) (zka b h8 hi)
  ·simp only[List.length_cons,List.length_nil];rw[show decide (((8:Nat):Int)<((0+1+1+1+1+1+1+1+1:Nat):Int))=false from rfl,cond_false];rw[aF,List.take_of_length_le (by rw[E2];exact Nat.le_refl _),List.drop_eq_nil_of_le (by omega),List.append_nil]
def AP.ok{x}(_:xA [.sl .int, .sl .byte] x){r}:HK x.1 x.2=some r→Mm x.1 x.2=some r:=UA λh=>zn5 x.1 x.2 h
end Go.D
namespace Go.D
def HL:∀(n:Nat) (h:List Int) (b:List UInt8),AC h 8=true→AC (JC h n b) 8=true
 | 0,h,b,hw=>hw
 | n+1,h,b,hw=>HL n _ _ (zo6 _ hw)
def zeH:∀(n:Nat) (h:List Int) (b:List UInt8),JC h (n+1) b=RK (JC h n b) ((b.drop (64 *n)).take 64)
 | 0,h,b=>rfl
 | n+1,h,b=>by
  rw[JC,zeH n,JC,List.drop_drop];rw[show 64+64 *n=64 *(n+1) by omega]
def zi3:∀(m k:Nat) (h:List Int) (b:List UInt8),JC h (m+k) b=JC (JC h m b) k (b.drop (64 *m))
 | 0,k,h,b=>by simp[JC]
 | m+1,k,h,b=>by
  rw[show m+1+k=(m+k)+1 by omega,JC,zi3 m k,JC,List.drop_drop,show 64+64 *m=64 *(m+1) by omega]
def zju:∀(m:Nat) (h:List Int) (b p:List UInt8),64 *m≤b.length→JC h m (b++p)=JC h m b
 | 0,h,b,p,_=>rfl
 | m+1,h,b,p,hl=>by
  rw[JC,JC,List.take_append_of_le_length (by omega),List.drop_append_of_le_length (by omega),zju m _ _ _ (by rw[List.length_drop];omega)]
def zdr{h:List Int}(hw:AC h 8=true):wt h≤bA:=by
 rw[aL,(uK hw).1,IB];decide
def zsd(l:List UInt8)(h:64≤l.length):List.take (((l.length:Int) - 64).toNat) (List.drop 64 l)=l.drop 64:=by
 rw[List.take_of_length_le];rw[List.length_drop];omega
def zkl(n:Nat):64 *(n / 64)≤n:=Nat.mul_div_le n 64
def znw(h:List Int)(b:List UInt8)(hb:wt b≤bA)(hw:AC h 8=true):Mn h b=some (JC h (b.length / 64) b,b.drop (64 *(b.length / 64))):=by
 have hl:b.length≤bA:=by rw[←FA];exact hb
 simp only[Mn,aA];refine AG (g:=λ_=>some (JC h (b.length / 64) b,b.drop (64 *(b.length / 64)))) (λx=>∃i:Nat,64 *i≤b.length∧x=(JC h i b,b.drop (64 *i))) (λx=>x.2.length) (λx hx k hk=>?_) (x:=(h,b)) ⟨0,Nat.zero_le _,by simp[JC]⟩ (by show b.length<2^64;rw[IB]at hl;omega);obtain⟨i,hi,rfl⟩:=hx;have hdl:(b.drop (64 *i)).length=b.length - 64 *i:=List.length_drop;have hds:=qM b (64 *i)
 by_cases HX:64 *(i+1)≤b.length
 ·have e1:decide (((b.drop (64 *i)).length:Int)≥64)=true:=decide_eq_true (by omega);have e2:(decide ((0:Int)≤0)&&decide ((0:Int)≤64)&&true)=true:=rfl;have e3:(decide ((0:Int)≤64)&&true&&decide (((b.drop (64 *i)).length:Int)≤((b.drop (64 *i)).length:Int)))=true:=by simp
  have B1:=hk (JC h (i+1) b,b.drop (64 *(i+1))) ⟨i+1,HX,rfl⟩ (by show(b.drop (64 *(i+1))).length<(b.drop (64 *i)).length;rw[List.length_drop,List.length_drop];omega);rw[zeH,show 64 *(i+1)=64 *i+64 by omega, ←List.drop_drop]at B1;simp only[e1,e2,e3,cond_true,List.drop_zero,HK,HA (p:=wt (JC h i b)≤bA∧wt ((b.drop (64 *i)).take 64)≤bA) ⟨zdr (HL i h b hw),Nat.le_trans (yG _ _) (Nat.le_trans hds hb)⟩,zsd _ (show 64≤(b.drop (64 *i)).length by omega)];exact B1
 ·have e1:decide (((b.drop (64 *i)).length:Int)≥64)=false:=decide_eq_false (by omega);have:i=b.length / 64:=by omega
  simp only[e1,cond_false, ←this]
def LO.ok{x}(_:xA [.sl .int, .sl .byte] x){r}:XS x.1 x.2=some r→Mn x.1 x.2=some r:=UA λh=>znw x.1 x.2 h.2.2 h.2.1
def oN(n:Int):∀i,(hG n i).length=i
 | 0=>rfl
 | i+1=>by rw[hG,List.length_cons,oN n i]
def zdt(b:List UInt8)(n:Int):AD b n 4=b++hG n 4:=rfl
def zwt(b:List UInt8)(n:Int):AD b n 6=b++hG n 6:=rfl
def zhJ(h:List Int){i:Nat}(hi:i<h.length):kF (h.take (i+1))=kF (h.take i)++hG (h.getD i 0) 4:=by
 rw[kF,WL h hi,List.flatMap_append];simp[kF,List.getD_eq_getElem?_getD,hi]
def zau:∀h:List Int,(kF h).length=4 *h.length
 | []=>rfl
 | x :: h=>by
  rw[kF,List.flatMap_cons,List.length_append,oN,List.length_cons];have:=zau h;rw[kF]at this;omega
def znJ(h:List Int)(h8:h.length=8):Mq h=some (kF h):=by
 have hL:=IB;simp only[Mq,aA];refine YH (X:=List UInt8×Int) (λx=>x.2) (λi=>(kF (h.take i),(i:Int))) (λ_=>rfl) h.length (by rw[h8];decide) _ 0 (Nat.zero_le _) (λi k _ hi=>?_) (λk=>by simp only[SD,cond_false,List.take_length]);have hwl:=zau (h.take i);rw[List.length_take]at hwl;simp only[wD hi,cond_true,XE hi,YA,UB,HA (p:=wt (kF (h.take i))+6≤bA) (by rw[FA];omega),zdt,VH (i:=i) (by rw[tD];omega),zhJ h hi]
def rP.ok{x}(_:xA [.sl .int] x){r}:BK x=some r→Mq x=some r:=UA λh=>znJ x h
def zpp(h:List Int)(h8:h.length=8):Nd h=some (kF h):=by
 have hL:=IB;simp only[Nd,aA];refine YH (X:=List UInt8×Int) (λx=>x.2) (λi=>(kF (h.take i),(i:Int))) (λ_=>rfl) 8 (by decide) _ 0 (Nat.zero_le _) (λi k _ hi=>?_) (λk=>?_)
 ·have hwl:=zau (h.take i);rw[List.length_take]at hwl;simp only[decide_eq_true (p:=(i:Int)<8) (by omega),cond_true,XE (show i<h.length by omega),YA,UB,HA (p:=wt (kF (h.take i))+6≤bA) (by rw[FA];omega),zdt,VH (i:=i) (by rw[tD];omega),zhJ h (show i<h.length by omega)]
 ·simp only[show((8:Nat):Int)=8 from rfl,show decide ((8:Int)<8)=false from rfl,cond_false];rw[List.take_of_length_le (by omega)]
def yR.ok{x}(_:xA [.sl .int] x){r}:BK x=some r→Nd x=some r:=UA λh=>zpp x h
def zjD:(UInt8.ofNat (0:Int).toNat)=0:=rfl
def zj9(n:Nat)(hn:n≤1048576)(z:List UInt8→Option (List UInt8)):qA FU (λ(x5:(List UInt8)) k6=>cond ((EA .i64 (iA .i64 (iA .i64 (n:Int) (x5.length:Int)) 8) 64) !=0)
  (cond (decide (x5.length+[UInt8.ofNat (0:Int).toNat].length≤bA)) (k6 (x5++[UInt8.ofNat (0:Int).toNat])) none) (z x5)) [UInt8.ofNat (128:Int).toNat]=z (128 :: List.replicate (pF n) 0):=by
 have hz:pF n<64:=Nat.mod_lt _ (by decide);have hL:=IB;refine AG (g:=λ_=>z (128 :: List.replicate (pF n) 0)) (λx=>∃j:Nat,j≤pF n∧x=128 :: List.replicate j 0) (λx=>pF n+1 - x.length) (λx hx k hk=>?_) ⟨0,Nat.zero_le _,rfl⟩ (by show pF n+1 - 1<2^64;omega);obtain⟨j,hj,rfl⟩:=hx
 have e1:iA .i64 (iA .i64 (n:Int) (((128 :: List.replicate j 0:List UInt8).length:Nat):Int)) 8=((n+(j+1)+8:Nat):Int):=by
  rw[List.length_cons,List.length_replicate];have a1:iA .i64 (n:Int) ((j+1:Nat):Int)=((n+(j+1):Nat):Int):=by rw[iA,XB (by omega) (by omega)];omega
  rw[a1,iA,XB (by omega) (by omega)];omega
 have e2:EA .i64 ((n+(j+1)+8:Nat):Int) 64=(((n+(j+1)+8) % 64:Nat):Int):=qS _ 64;simp only[e1,e2]
 rcases Nat.lt_or_eq_of_le hj with NV | rfl
 ·have:(n+(j+1)+8) % 64≠0:=by unfold pF at NV;omega
  rw[show((((n+(j+1)+8) % 64:Nat):Int) !=0)=true from bne_iff_ne.2 (by omega),cond_true,vH (by simp;omega),cond_true];refine hk _ ⟨j+1,NV,?_⟩ (by simp;omega);rw[zjD,List.cons_append,List.replicate_succ']
 ·have:(n+(pF n+1)+8) % 64=0:=by unfold pF;omega
  rw[this];rfl
def zuE(n:Nat)(hn:n≤1048576):hG ((8 *n:Nat):Int) 6=[0,0]++hG ((8 *n:Nat):Int) 4:=by
 have h5:DE .i64 ((8 *n:Nat):Int) (YB .i64 8 ((5:Nat):Int))=0:=by
  show Int.fdiv ((8 *n:Nat):Int) 1099511627776=0
  rw[Int.fdiv_eq_ediv_of_nonneg _ (by decide)];omega
 have h4:DE .i64 ((8 *n:Nat):Int) (YB .i64 8 ((4:Nat):Int))=0:=by
  show Int.fdiv ((8 *n:Nat):Int) 4294967296=0
  rw[Int.fdiv_eq_ediv_of_nonneg _ (by decide)];omega
 rw[hG,hG];rw[show nO ((8 *n:Nat):Int) 5=0 by rw[nO,h5];rfl,show nO ((8 *n:Nat):Int) 4=0 by rw[nO,h4];rfl];rfl
def zl1{n:Nat}(h:n≤1048576):YB .i64 8 (n:Int)=((8 *n:Nat):Int):=by
 rw[show YB .i64 8 (n:Int)=IntKind.wrap .i64 (8 *(n:Int))from rfl,XB (by omega) (by omega)];omega
def qU(n:Nat):(128 :: List.replicate (pF n) 0:List UInt8).length=pF n+1:=by simp
def zqM(n:Nat)(hn:n≤1048576):Mx (n:Int)=some (CD n):=by
 have hz:pF n<64:=Nat.mod_lt _ (by decide);have hL:=IB;simp only[Mx,aA,decide_eq_false (p:=(n:Int)<0) (by omega),decide_eq_false (p:=(n:Int)>1048576) (by omega),cond_false];rw[zj9 n hn];simp only[UB,HA (p:=wt (128 :: List.replicate (pF n) 0:List UInt8)+6≤bA) (by rw[FA,qU];omega),zdt,zl1 hn];rw[HA (by rw[FA,List.length_append,qU,oN];omega),CD,List.append_assoc];rfl
def mS.ok{x}(_:xA [.v .int] x){r}:FM x=some r→Mx x=some r:=UA λh=>by
 obtain⟨n,hn⟩:=TF h.1;have hn:x=(n:Int):=hn;have h2:(x:Int)≤1048576:=h.2;subst hn;exact zqM n (by omega)
def zqn(n:Nat)(hn:n≤1048576):Mp (n:Int)=some (CD n):=by
 have hz:pF n<64:=Nat.mod_lt _ (by decide);have hL:=IB;have FW:eA (n:Int) 0 1048576=true:=YC.2 ⟨by omega,by omega⟩;simp only[Mp,aA,FW,Bool.not_true,cond_false];rw[zj9 n hn (λy1=>cond (decide (y1.length+[UInt8.ofNat (0:Int).toNat,UInt8.ofNat (0:Int).toNat].length≤bA)) (Option.bind (UB (y1++[UInt8.ofNat (0:Int).toNat,UInt8.ofNat (0:Int).toNat]) (YB .i64 8 (n:Int)) 6) λr7=>some r7) none)];rw[vH (by rw[qU];simp;omega),cond_true,UB,HA (by rw[FA,List.length_append,qU];simp;omega),zwt,zl1 hn,zuE n hn,CD,List.append_assoc];rfl
def iS.ok{x}(_:xA [.v .int] x){r}:FM x=some r→Mp x=some r:=UA λh=>by
 obtain⟨n,hn⟩:=TF h.1;have hn:x=(n:Int):=hn;have h2:(x:Int)≤1048576:=h.2;subst hn;exact zqn n (by omega)
def zfR(n:Nat):(CD n).length=pF n+9:=by
 rw[CD,List.length_append,qU,List.length_append,oN];rfl
def zsP(n:Nat):(n+(CD n).length) % 64=0:=by
 rw[zfR];unfold pF;omega
def zaN.ok{x}(_:xA [] x):Rq=some jO:=rfl
def zr4(h:Be):Mg h=some (EG h):=by
 simp only[Mg,aA,WC,Bool.cond_false_right,EG,Bool.and_assoc]
def aR.ok{x}(_:xA [.v .Hash] x):Mg x=some (EG x):=zr4 x
def zi7{h:Be}(hk:EG h=true):AC h.H 8=true∧0≤h.N∧h.N≤1048576∧h.Held.length<64∧∃n:Nat,h.N=(n:Int)∧n % 64=h.Held.length:=by
 simp only[EG,Bool.and_eq_true,YC,beq_iff_eq]at hk;obtain⟨⟨h1,h2⟩,h3⟩:=hk;obtain⟨n,hn⟩:=TF h2.1;rw[hn,show EA .i64 (n:Int) 64=((n % 64:Nat):Int)from qS n 64]at h3;exact⟨h1,h2.1,h2.2,by omega,n,hn,by omega⟩
def zsb{h:List Int}(hw:AC h 8=true):decide (([]:List Int).length+h.length≤bA)=true:=by
 have:=(uK hw).1;rw[this];decide
def zch(a b:List UInt8):([a,b]:List (List UInt8)).flatten=a++b:=by simp
def zdj(a b:List UInt8):wt ([a,b]:List (List UInt8))=a.length+b.length+2:=by
 rw[vD,vD,DG,FA,FA];omega
def zoe(h:Be)(b:List UInt8)(hk:EG h=true)(hb:(b.length:Int)≤1048576 - h.N):
  Mo h b=some ⟨JC h.H ((h.Held++b).length / 64) (h.Held++b),(h.Held++b).drop (64 *((h.Held++b).length / 64)),h.N+b.length⟩:=by
 obtain⟨hw,n0,n1,hl,_⟩:=zi7 hk;have hL:=IB;have Q8:wt (h.Held++b)≤bA:=by rw[FA,List.length_append];omega
 have e1:wA .i64 1048576 h.N=1048576 - h.N:=by rw[wA,XB (by omega) (by omega)]
 have e2:iA .i64 h.N (b.length:Int)=h.N+b.length:=by rw[iA,XB (by omega) (by omega)]
 simp only[Mo,aA,hk,Bool.not_true,cond_false,e1,decide_eq_false (p:=(b.length:Int)>1048576 - h.N) (by omega),jD,HA (p:=wt ([h.Held,b]:List (List UInt8))≤bA) (by rw[zdj];omega),zch,XS,
  HA (p:=wt h.H≤bA∧AC h.H 8=true∧wt (h.Held++b)≤bA) ⟨zdr hw,hw,Q8⟩,zsb (HL ((h.Held++b).length / 64) h.H (h.Held++b) hw),cond_true,CA,HA (p:=wt ((h.Held++b).drop (64 *((h.Held++b).length / 64)))≤bA) (Nat.le_trans (qM _ _) Q8),List.nil_append,e2]
def BQ.ok{x}(_:xA [.v .Hash, .sl .byte] x){r}:zcy x.1 x.2=some r→Mo x.1 x.2=some r:=UA λh=>zoe x.1 x.2 h.1 h.2
def zot(h:Be)(hk:EG h=true):Mr h=some (kF (JC h.H ((h.Held++CD h.N.toNat).length / 64) (h.Held++CD h.N.toNat))):=by
 obtain⟨hw,n0,n1,hl,n,hn,_⟩:=zi7 hk;have hL:=IB;have hp:=zfR h.N.toNat;have hz:pF h.N.toNat<64:=Nat.mod_lt _ (by decide);have Q8:wt (h.Held++CD h.N.toNat)≤bA:=by rw[FA,List.length_append];omega
 have hbw:=HL ((h.Held++CD h.N.toNat).length / 64) h.H (h.Held++CD h.N.toNat) hw
 simp only[Mr,hk,Bool.not_true,cond_false,FM,HA (p:=0≤h.N∧h.N≤1048576) ⟨n0,n1⟩,jD,HA (p:=wt ([h.Held,CD h.N.toNat]:List (List UInt8))≤bA) (by rw[zdj];omega),zch,XS,
  HA (p:=wt h.H≤bA∧AC h.H 8=true∧wt (h.Held++CD h.N.toNat)≤bA) ⟨zdr hw,hw,Q8⟩,BK,HA (uK hbw).1]
def XP.ok{x}(_:xA [.v .Hash] x){r}:zcj x=some r→Mr x=some r:=UA λh=>zot x h
def zaU:AC AE 8=true:=by decide
def zwa:EG jO=true:=by decide
def ztV(b:List UInt8)(hb:b.length≤1048576):
  JC (JC AE (b.length / 64) b) ((b.drop (64 *(b.length / 64))++CD b.length).length / 64) (b.drop (64 *(b.length / 64))++CD b.length)=JC AE ((b++CD b.length).length / 64) (b++CD b.length):=by
 have hd:=zkl b.length;have h1:(b.drop (64 *(b.length / 64))++CD b.length).length=b.length - 64 *(b.length / 64)+(CD b.length).length:=by rw[List.length_append,List.length_drop]
 have h2:(b++CD b.length).length / 64=b.length / 64+(b.drop (64 *(b.length / 64))++CD b.length).length / 64:=by rw[h1,List.length_append];omega
 rw[h2,zi3,zju _ _ _ _ hd,List.drop_append_of_le_length hd]
def zqT(b:List UInt8):Ms b=some (FE b):=by
 simp only[Ms,FE]
 by_cases h:(b.length:Int)>1048576
 ·rw[decide_eq_true h];rfl
 rw[decide_eq_false h];simp only[cond_false,zcy];rw[HA ⟨zwa,by show(b.length:Int)≤1048576 - 0;omega⟩];have e0:jO.Held++b=b:=rfl;have en:jO.N+(b.length:Int)=(b.length:Int):=Int.zero_add _;have eh:jO.H=AE:=rfl;rw[e0,en,eh];have hdl:=zkl b.length
 have uX:EG ⟨JC AE (b.length / 64) b,b.drop (64 *(b.length / 64)),(b.length:Int)⟩=true:=by
  simp only[EG,Bool.and_eq_true,YC,beq_iff_eq];refine⟨⟨HL _ _ _ zaU,by omega,by omega⟩,?_⟩;rw[show EA .i64 (b.length:Int) 64=((b.length % 64:Nat):Int)from qS _ 64,List.length_drop];omega
 rw[zcj,HA uX,Int.toNat_natCast,ztV b (by omega)];rfl
def sS.ok{x}(_:xA [.sl .byte] x):Ms x=some (FE x):=zqT x
def zt8(all:List UInt8)(hwa:wt all≤bA)(hm:64 *(all.length / 64)=all.length):qA FU (λ(x5:(List Int)×Int) k6=>cond (decide (x5.2<(all.length:Int)))
  (cond (decide (0≤x5.2)&&decide (x5.2≤(iA .i64 x5.2 64))&&decide ((iA .i64 x5.2 64)≤(all.length:Int))) (Option.bind (HK x5.1 (List.take ((iA .i64 x5.2 64 - x5.2).toNat) (List.drop x5.2.toNat all))) λr7=>k6 (r7,(iA .i64 x5.2 64))) none)
  (Option.bind (BK x5.1) λr8=>some r8)) (AE,0)=some (kF (JC AE (all.length / 64) all)):=by
 have hL:=IB;have hla:all.length≤bA:=by rw[←FA];exact hwa
 refine AG (g:=λ_=>some (kF (JC AE (all.length / 64) all))) (λx=>∃i:Nat,64 *i≤all.length∧x=(JC AE i all,((64 *i:Nat):Int))) (λx=>all.length - x.2.toNat) (λx hx k hk=>?_) (x:=(AE,0)) ⟨0,Nat.zero_le _,rfl⟩ (by show all.length - Int.toNat 0<2^64;simp;omega);obtain⟨i,hi,rfl⟩:=hx
 by_cases NV:64 *i<all.length
 ·have HX:64 *(i+1)≤all.length:=by omega
  have e1:iA .i64 ((64 *i:Nat):Int) 64=((64 *(i+1):Nat):Int):=by rw[iA,XB (by omega) (by omega)];omega
  have e2:(decide ((0:Int)≤((64 *i:Nat):Int))&&decide (((64 *i:Nat):Int)≤((64 *(i+1):Nat):Int))&&decide (((64 *(i+1):Nat):Int)≤(all.length:Int)))=true:=by simp;omega
  have e3:(((64 *(i+1):Nat):Int) - ((64 *i:Nat):Int)).toNat=64:=by omega
  have B1:=hk (JC AE (i+1) all,((64 *(i+1):Nat):Int)) ⟨i+1,HX,rfl⟩ (by simp only[Int.toNat_natCast];omega);rw[zeH]at B1;simp only[wD NV,cond_true,e1,e2,e3,Int.toNat_natCast,HK,HA (p:=wt (JC AE i all)≤bA∧wt ((all.drop (64 *i)).take 64)≤bA) ⟨zdr (HL i AE all zaU),Nat.le_trans (yG _ _) (Nat.le_trans (qM _ _) hwa)⟩];exact B1
 ·have hi2:i=all.length / 64:=by omega
  have e1:decide (((64 *i:Nat):Int)<(all.length:Int))=false:=decide_eq_false (by omega);simp only[e1,cond_false,BK,HA (uK (HL i AE all zaU)).1, ←hi2]
def zqp(b:List UInt8):Nf b=some (FE b):=by
 have hL:=IB;simp only[Nf,aA,FE,List.nil_append]
 by_cases h:(b.length:Int)>1048576
 ·rw[decide_eq_true h];rfl
 rw[decide_eq_false h];have hp:=zfR b.length;have hz:pF b.length<64:=Nat.mod_lt _ (by decide);have hwh:=zsP b.length;have hal:(b++CD b.length).length=b.length+(CD b.length).length:=List.length_append;simp only[cond_false];rw[dO (show b.length≤bA by omega),cond_true,FM,HA ⟨by omega,by omega⟩,Int.toNat_natCast,vH (by omega),cond_true,zdi];exact zt8 (b++CD b.length) (by rw[FA];omega) (by omega)
def rS.ok{x}(_:xA [.sl .byte] x):Nf x=some (FE x):=zqp x
def ziZ(b:List UInt8):(zdi b).length=32:=by
 rw[zdi,zau,(uK (HL _ AE _ zaU)).1]
def tV(b:List UInt8):(FE b).length≤32:=by
 unfold FE;cases decide ((b.length:Int)>1048576)
 ·exact Nat.le_of_eq (ziZ b)
 ·exact Nat.zero_le _
def zvh{b:List UInt8}(h:b.length≤1048576):(FE b).length=32:=by
 rw[FE,decide_eq_false (by omega)];exact ziZ b
end Go.D
namespace Go.D
def zbr(l:List UInt8):qA FU (λ(x6:(List UInt8)) k7=>cond (decide ((x6.length:Int)<64)) (cond (decide (x6.length+[UInt8.ofNat (0:Int).toNat].length≤bA)) (k7 (x6++[UInt8.ofNat (0:Int).toNat])) none) (some x6)) l=some (EV l):=by
 have hL:=IB;refine AG (g:=λ_=>some (EV l)) (λx=>∃j:Nat,j≤64 - l.length∧x=l++List.replicate j 0) (λx=>64 - x.length) (λx hx k hk=>?_) ⟨0,Nat.zero_le _,by simp⟩ (by show 64 - l.length<2^64;omega);obtain⟨j,hj,rfl⟩:=hx;have LV:(l++List.replicate j (0:UInt8)).length=l.length+j:=by simp
 by_cases NV:l.length+j<64
 ·rw[decide_eq_true (p:=((l++List.replicate j (0:UInt8)).length:Int)<64) (by omega),cond_true,vH (by rw[LV];simp;omega),cond_true];refine hk _ ⟨j+1,by omega,?_⟩ (by simp;omega);rw[zjD,List.append_assoc, ←List.replicate_succ']
 ·rw[decide_eq_false (p:=((l++List.replicate j (0:UInt8)).length:Int)<64) (by omega),cond_false,EV];have:j=64 - l.length:=by omega
  rw[this]
def znR(b:List UInt8):Ng b=some (dE b):=by
 have hL:=IB;simp only[Ng,aA,dE,List.nil_append]
 by_cases h:(b.length:Int)>1048576
 ·rw[decide_eq_true h];rfl
 rw[decide_eq_false h,dO (show b.length≤bA by omega)];simp only[cond_false,cond_true];cases decide ((b.length:Int)>64)
 ·exact zbr b
 ·exact zbr (FE b)
def BP.ok{x}(_:xA [.sl .byte] x):Ng x=some (dE x):=znR x
def znP(b:List UInt8):Mt b=some (dE b):=by
 have hL:=IB;simp only[Mt,aA,dE,CA]
 by_cases h:(b.length:Int)>1048576
 ·rw[decide_eq_true h];rfl
 rw[decide_eq_false h,HA (p:=wt b≤bA) (by rw[FA];omega)];simp only[cond_false];cases decide ((b.length:Int)>64)
 ·exact zbr b
 ·exact zbr (FE b)
def xP.ok{x}(_:xA [.sl .byte] x):Mt x=some (dE x):=znP x
def zew{b:List UInt8}(h:b.length≤1048576):(dE b).length=64:=by
 rw[dE,decide_eq_false (by omega),cond_false,EV,List.length_append,List.length_replicate];cases hd:decide ((b.length:Int)>64)
 ·have:=of_decide_eq_false hd;simp only[cond_false];omega
 ·have:=tV b;simp only[cond_true];omega
def zoB(b:List UInt8)(x:UInt8)(h:wt b≤bA):Mu b x=some (NE b x):=by
 have hl:b.length≤bA:=by rw[←FA];exact h
 have hL:=IB;simp only[Mu,aA];refine YH (X:=List UInt8×Int) (λy=>y.2) (λi=>(NE (b.take i) x,(i:Int))) (λ_=>rfl) b.length (eE h) _ 0 (Nat.zero_le _) (λi k _ hi=>?_) (λk=>by simp only[SD,cond_false,List.take_length]);have e:NE (b.take (i+1)) x=NE (b.take i) x++[zgw b[i] x]:=by rw[NE,WL b hi,List.map_append];rfl
 have hml:(NE (b.take i) x).length=i:=by rw[NE,List.length_map,List.length_take];omega
 simp only[wD hi,cond_true,HB hi,YA,VH (i:=i) (by rw[tD];omega)];rw[vH (by rw[hml];simp;omega),cond_true,e];rfl
def IQ.ok{x}(_:xA [.sl .byte, .v .byte] x){r}:mV x.1 x.2=some r→Mu x.1 x.2=some r:=UA λh=>zoB x.1 x.2 h
def xN(b:List UInt8)(x:UInt8):(NE b x).length=b.length:=List.length_map ..
def zpO(k b:List UInt8):Mv k b=some (VC k b):=by
 have hL:=IB;simp only[Mv,aA,VC]
 by_cases h1:(k.length:Int)>1048576
 ·rw[decide_eq_true h1];rfl
 by_cases h2:(b.length:Int)>1048512
 ·rw[decide_eq_false h1,decide_eq_true h2];rfl
 have hk:=zew (b:=k) (by omega);rw[decide_eq_false h1,decide_eq_false h2];simp only[cond_false,Bool.or_false,mV,HA (p:=wt (dE k)≤bA) (by rw[FA];omega),jD];rw[HA (by rw[zdj,xN];omega),zch,HA (by rw[zdj,xN];have:=tV (NE (dE k) (UInt8.ofNat (54:Int).toNat)++b);omega),zch];rfl
def bS.ok{x}(_:xA [.sl .byte, .sl .byte] x):Mv x.1 x.2=some (VC x.1 x.2):=zpO x.1 x.2
def zwF{l:List UInt8}{i:Nat}(h:i<l.length):l[i]?=some l[i]:=List.getElem?_eq_getElem h
def ziF(b:List UInt8)(x:UInt8){i:Nat}(hi:i<b.length):NE (b.take (i+1)) x=NE (b.take i) x++[zgw b[i] x]:=by rw[NE,WL b hi,List.map_append];rfl
def zpU(k b:List UInt8):Nh k b=some (VC k b):=by
 have hL:=IB;simp only[Nh,aA,VC]
 by_cases h1:(k.length:Int)>1048576
 ·rw[decide_eq_true h1];rfl
 by_cases h2:(b.length:Int)>1048512
 ·rw[decide_eq_false h1,decide_eq_true h2];rfl
 have hk:=zew (b:=k) (by omega);rw[decide_eq_false h1,decide_eq_false h2];simp only[cond_false,Bool.or_false];refine YH (X:=List UInt8×List UInt8×Int) (λy=>y.2.2) (λi=>(NE ((dE k).take i) 54,NE ((dE k).take i) 92,(i:Int))) (λ_=>rfl) 64 (by decide) _ 0 (Nat.zero_le _) (λi kk _ hi=>?_) (λkk=>?_)
 ·have R8:i<(dE k).length:=by omega
  have m1:(NE ((dE k).take i) 54).length=i:=by rw[xN,List.length_take];omega
  have m2:(NE ((dE k).take i) 92).length=i:=by rw[xN,List.length_take];omega
  simp only[decide_eq_true (p:=(i:Int)<64) (by omega),cond_true,BF R8,Int.toNat_natCast,zwF R8,YA,VH (i:=i) (by rw[tD];omega)];rw[vH (by rw[m1];simp;omega),cond_true,vH (by rw[m2];simp;omega),cond_true,ziF _ _ R8,ziF _ _ R8];rfl
 ·have ht:(dE k).take 64=dE k:=List.take_of_length_le (by omega);simp only[show((64:Nat):Int)=64 from rfl,show decide ((64:Int)<64)=false from rfl,cond_false,ht];have hs:=tV (NE (dE k) 54++b);rw[vH (by rw[xN];omega),cond_true,vH (by rw[xN];omega),cond_true]
def dS.ok{x}(_:xA [.sl .byte, .sl .byte] x):Nh x.1 x.2=some (VC x.1 x.2):=zpU x.1 x.2
def wH{k b:List UInt8}(h1:k.length≤1048576)(h2:b.length≤1048512):(VC k b).length=32:=by
 rw[VC,decide_eq_false (by omega),decide_eq_false (by omega)];simp only[Bool.or_false,cond_false];refine zvh ?_;have:=tV (NE (dE k) 54++b);rw[List.length_append,xN,zew h1];omega
def WU(n:Int):(AD MM n 4).length=8:=by rw[zdt,List.length_append,oN];rfl
def zoM(s:List UInt8)(n:Int):Mw s n=some (xD s n):=by
 have hL:=IB;simp only[Mw,aA,xD];cases h1:eA (s.length:Int) 1 32
 ·rfl
 cases h2:eA n 0 10000
 ·rfl
 have h1:=YC.1 h1;have hh:=wH (k:=s) (b:=AD MM n 4) (by omega) (by rw[WU];omega);simp only[Bool.not_true,cond_false,Bool.and_true,cond_true,UB];rw[HA (by rw[FA];simp;omega)];have hr:[UInt8.ofNat (114:Int).toNat,UInt8.ofNat (111:Int).toNat,UInt8.ofNat (108:Int).toNat,UInt8.ofNat (108:Int).toNat]=MM:=rfl;rw[hr,show(decide ((0:Int)≤0)&&decide ((0:Int)≤12)&&decide (12≤((VC s (AD MM n 4)).length:Int)))=true by rw[hh];rfl,cond_true,List.drop_zero,CA,HA (by rw[FA,List.length_take];omega)]
def RQ.ok{x}(_:xA [.sl .byte, .v .int] x):Mw x.1 x.2=some (xD x.1 x.2):=zoM x.1 x.2
def zoR(s:List UInt8)(n:Int):Ni s n=some (xD s n):=by
 have hL:=IB;simp only[Ni,aA,xD];cases h1:eA (s.length:Int) 1 32
 ·rfl
 cases h2:eA n 0 10000
 ·rfl
 have h1:=YC.1 h1;have hh:=wH (k:=s) (b:=AD MM n 4) (by omega) (by rw[WU];omega);simp only[Bool.not_true,cond_false,Bool.and_true,cond_true,UB];rw[HA (by rw[FA];simp;omega)];have hr:[UInt8.ofNat (114:Int).toNat,UInt8.ofNat (111:Int).toNat,UInt8.ofNat (108:Int).toNat,UInt8.ofNat (108:Int).toNat]=MM:=rfl;rw[hr,show(decide ((0:Int)≤0)&&decide ((0:Int)≤12)&&decide (12≤((VC s (AD MM n 4)).length:Int)))=true by rw[hh];rfl,cond_true,List.drop_zero,dO (by rw[List.length_take];omega),cond_true,List.nil_append]
def XQ.ok{x}(_:xA [.sl .byte, .v .int] x):Ni x.1 x.2=some (xD x.1 x.2):=zoR x.1 x.2
end Go.D
