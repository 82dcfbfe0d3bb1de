/-
 Sizes of the program's data.
-/
import Derived.Test.YtkpkommmdacjlaaGreatN5
set_option linter.all false
namespace Go.D
end Go.D
namespace Go.D
noncomputable section
def eJ(n:Int)(i:Nat):UInt8:=UInt8.ofNat (IntKind.wrap .u8 (nB .i64 (aE .i64 n (mC .i64 8 (i:Int))) 255)).toNat
def wE(n:Int):Nat→List UInt8
 | 0=>[]
 | i+1=>eJ n i :: wE n i
def qG(b:List UInt8)(n k:Int):List UInt8:=bif decide (k<1)||decide (k>6)then b else b++wE n k.toNat
def TD(b:List UInt8)(n k:Int):Option (List UInt8):=pt (wt b+6≤eA) (qG b n k)
def dF(l:List UInt8):Int:=l.foldl (λn x=>mA .i64 (mC .i64 n 256) (IntKind.wrap .i64 ((x.toNat:Nat):Int))) 0
def rJ(b:List UInt8)(iA k:Int):Int×Int×Bool:=bif decide (k<1)||(decide (k>6)||(decide (iA<0)||decide (iA>(b.length:Int) - k)))then(0,0,false)else(dF ((b.drop iA.toNat).take k.toNat),mA .i64 iA k,true)
def tI(b:List UInt8)(iA k:Int):Option (Int×Int×Bool):=pt (wt b≤eA) (rJ b iA k)
def cut(b:List UInt8)(f n:Int):List UInt8×Bool:=bif decide (f<0)||(decide (n<0)||(decide (f>(b.length:Int))||decide (n>(b.length:Int) - f)))then([],false)else((b.drop f.toNat).take n.toNat,true)
def jR(b:List UInt8)(f n:Int):Option (List UInt8×Bool):=pt (wt b≤eA) (cut b f n)
def lE(b:List UInt8):Option (List UInt8):=pt (wt b≤eA) b
def AE(l:List (List UInt8)):Option (List UInt8):=pt (wt l≤eA) l.flatten
def EC(a:Int):Int:=nB .i64 a 4294967295
def rE(x n:Int):Int:=EC (eU .i64 (aE .i64 (EC x) n) (VT .i64 (EC x) (SA .i64 32 n)))
def DC(x n:Int):Option Int:=pt (1≤n∧n≤31) (rE x n)
def YD(a b:Int):Int:=EC (mA .i64 a b)
def TC:List Int:=[1779033703,3144134277,1013904242,2773480762,1359893119,2600822924,528734635,1541459225]
def DF:List Int:=[1116352408,1899447441,3049323471,3921009573,961987163,1508970993,2453635748,2870763221,3624381080,310598401,607225278,1426881987,1925078388,2162078206,2614888103,3248222580,3835390401,4022224774,264347078,604807628,770255983,1249150122,1555081692,1996064986,2554220882,2821834349,2952996808,3210313671,3336571891,3584528711,113926993,338241895,666307205,773529912,1294757372,1396182291,1695183700,1986661051,2177026350,2456956037,2730485921,2820302411,3259730800,3345764771,3516065817,3600352804,4094571909,275423344,430227734,506948616,659060556,883997877,958139571,1322822218,1537002063,1747873779,1955562222,2024104815,2227730452,2361852424,2428436474,2756734187,3204031479,3329325298]
def MH(i:Int):Int:=if 0≤i∧i≤63 then DF.getD i.toNat 0 else 0
def LH(b:List UInt8)(w:List Int)(i:Nat):Int:=if i<16 then(rJ b (4 *i:Nat) 4).1 else
 let x:=w.getD (i - 15) 0;let y:=w.getD (i - 2) 0
 EC (mA .i64 (mA .i64 (mA .i64 (w.getD (i - 7) 0) (w.getD (i - 16) 0)) (oB .i64 (oB .i64 (rE x 7) (rE x 18)) (aE .i64 x 3))) (oB .i64 (oB .i64 (rE y 17) (rE y 19)) (aE .i64 y 10)))
def XB(b:List UInt8):Nat→List Int
 | 0=>[]
 | i+1=>XB b i++[LH b (XB b i) i]
def wB(b:List UInt8):List Int:=if b.length=64 then XB b 64 else[]
def KH(b:List UInt8):Option (List Int):=pt (wt b≤eA) (wB b)
abbrev S8:=Int×Int×Int×Int×Int×Int×Int×Int
def rT(k w:Int)(s:S8):Int:=
 mA .i64 (mA .i64 (mA .i64 (mA .i64 s.2.2.2.2.2.2.2 (oB .i64 (oB .i64 (rE s.2.2.2.2.1 6) (rE s.2.2.2.2.1 11)) (rE s.2.2.2.2.1 25)))
  (oB .i64 (nB .i64 s.2.2.2.2.1 s.2.2.2.2.2.1) (nB .i64 (oB .i64 s.2.2.2.2.1 4294967295) s.2.2.2.2.2.2.1))) k) w
def rU(s:S8):Int:=mA .i64 (oB .i64 (oB .i64 (rE s.1 2) (rE s.1 13)) (rE s.1 22)) (oB .i64 (oB .i64 (nB .i64 s.1 s.2.1) (nB .i64 s.1 s.2.2.1)) (nB .i64 s.2.1 s.2.2.1))
def xQ(l:List Int):Bool:=BB l 8
def ZQ(k w:Int)(s:S8):S8:=(EC (mA .i64 (EC (rT k w s)) (EC (rU s))),s.1,s.2.1,s.2.2.1,EC (mA .i64 s.2.2.2.1 (EC (rT k w s))),s.2.2.2.2.1,s.2.2.2.2.2.1,s.2.2.2.2.2.2.1)
def rounds(w:List Int)(s:S8):Nat→S8
 | 0=>s
 | i+1=>ZQ (DF.getD i 0) (w.getD i 0) (rounds w s i)
def FC(h:List Int):S8:=(h.getD 0 0,h.getD 1 0,h.getD 2 0,h.getD 3 0,h.getD 4 0,h.getD 5 0,h.getD 6 0,h.getD 7 0)
def iF(s:S8):List Int:=[s.1,s.2.1,s.2.2.1,s.2.2.2.1,s.2.2.2.2.1,s.2.2.2.2.2.1,s.2.2.2.2.2.2.1,s.2.2.2.2.2.2.2]
def MD(h:List Int)(b:List UInt8):List Int:=List.zipWith YD h (iF (rounds (wB b) (FC h) 64))
def jH(h:List Int)(b:List UInt8):List Int:=bif BB h 8&&b.length==64 then MD h b else h
def dH(h:List Int)(b:List UInt8):Option (List Int):=pt (wt h≤eA∧wt b≤eA) (jH h b)
def xB(h:List Int):Nat→List UInt8→List Int
 | 0,_=>h
 | n+1,b=>xB (jH h (b.take 64)) n (b.drop 64)
def UL(h:List Int)(b:List UInt8):Option (List Int×List UInt8):=pt (wt h≤eA∧BB h 8=true∧wt b≤eA) (xB h (b.length / 64) b,b.drop (64 *(b.length / 64)))
def DD(h:List Int):List UInt8:=h.flatMap λx=>wE x 4
def ZG(h:List Int):Option (List UInt8):=pt (h.length=8) (DD h)
def LD(n:Nat):Nat:=(119 - n % 64) % 64
def ZB(n:Nat):List UInt8:=(128 :: List.replicate (LD n) 0)++([0,0,0,0]++wE ((8 *n:Nat):Int) 4)
def uI(n:Int):Option (List UInt8):=pt (0≤n∧n≤1048576) (ZB n.toNat)
def IQ(b:List UInt8):List UInt8:=DD (xB TC ((b++ZB b.length).length / 64) (b++ZB b.length))
def YC(b:List UInt8):List UInt8:=bif decide ((b.length:Int)>1048576)then[]else IQ b
def CE(h:Au):Bool:=BB h.H 8&&oA h.N 0 1048576&&OC .i64 h.N 64==(h.Held.length:Int)
def QP(h:Au)(b:List UInt8):Option Au:=pt (CE h=true∧(b.length:Int)≤1048576 - h.N) ⟨xB h.H ((h.Held++b).length / 64) (h.Held++b),(h.Held++b).drop (64 *((h.Held++b).length / 64)),h.N+b.length⟩
def HP(h:Au):Option (List UInt8):=pt (CE h=true) (DD (xB h.H ((h.Held++ZB h.N.toNat).length / 64) (h.Held++ZB h.N.toNat)))
def YI:Au:=⟨TC,[],0⟩
def KN(l:List UInt8):List UInt8:=l++List.replicate (64 - l.length) 0
def xC(k:List UInt8):List UInt8:=bif decide ((k.length:Int)>1048576)then[]else KN (bif decide ((k.length:Int)>64)then YC k else k)
def RT(x y:UInt8):UInt8:=UInt8.ofNat (oB .u8 ((x.toNat:Nat):Int) ((y.toNat:Nat):Int)).toNat
def jD(b:List UInt8)(x:UInt8):List UInt8:=b.map λy=>RT y x
def tN(b:List UInt8)(x:UInt8):Option (List UInt8):=pt (wt b≤eA) (jD b x)
def xD(k b:List UInt8):List UInt8:=bif decide ((k.length:Int)>1048576)||decide ((b.length:Int)>1048512)then[]else YC (jD (xC k) 92++YC (jD (xC k) 54++b))
def zI:List UInt8:=[114,111,108,108]
def SD(s:List UInt8)(n:Int):List UInt8:=bif oA (s.length:Int) 1 32&&oA n 0 10000 then(xD s (qG zI n 4)).take 12 else[]
end
end Go.D
namespace Go.D
open Option renaming bind→ob
noncomputable section
def Gx(a0:List UInt8):=
 cond (decide (([]:List UInt8).length+a0.length≤eA)) (some ([]++a0)) none
def Da(a0:List UInt8)(a1:Int)(a2:Int):=
 cond (decide (([]:List UInt8).length+a0.length≤eA)) (fA (λy1=>
 cond (y1)
 (some ([]++a0))
 (fA (λ(y3:(List UInt8))=>
 some y3) λk4=>
 yA FU (λ(x5:(List UInt8)×Int) k6=>
 cond (decide (x5.2≥0))
 (cond (decide ((mC .i64 8 x5.2)<0)) none (let x7:Int:=nB .i64 (aE .i64 a1 (mC .i64 8 x5.2)) 255
 cond (decide (x5.1.length+[UInt8.ofNat (IntKind.wrap .u8 x7:Int).toNat].length≤eA)) (k6 ((x5.1++[UInt8.ofNat (IntKind.wrap .u8 x7:Int).toNat]),(SA .i64 x5.2 1))) none))
 (k4 x5.1)) (([]++a0),(SA .i64 a2 1)))) λk2=>
 cond (decide (a2<1))
 (k2 true)
 (k2 (decide (a2>6)))) none
def Gy:=
 let x1:List Int:=[1779033703,3144134277,1013904242,2773480762,1359893119,2600822924,528734635,1541459225]
 some x1
def Gz:=
 let r1:(List Int):=TC
 some (⟨r1,[],0⟩:Au)
def Db(a0:Au):=
 fA (λ(y1:Bool)=>
 some y1) λk2=>
 cond ((BB a0.H 8))
 (cond ((oA a0.N 0 1048576))
 (k2 ((OC .i64 a0.N 64)==(a0.Held.length:Int)))
 (k2 false))
 (k2 false)
def Dc(a0:List (List UInt8)):=
 fA (λ(y1:(List UInt8))=>
 some y1) λk2=>
 yA FU (λ(x3:(List UInt8)×Int) k4=>
 cond (decide (x3.2<(a0.length:Int)))
 (ob (vA a0 x3.2) λe5=>
 cond (decide (x3.1.length+e5.length≤eA)) (k4 ((x3.1++e5),(mA .i64 x3.2 1))) none)
 (k2 x3.1)) ([],0)
def Dd(a0:List UInt8)(a1:Int)(a2:Int):=
 fA (λy1=>
 cond (y1)
 (some ([],false))
 (cond (decide (0≤a1)&&decide (a1≤(mA .i64 a1 a2))&&decide ((mA .i64 a1 a2)≤(a0.length:Int))) (let l3:List UInt8:=List.take ((mA .i64 a1 a2 - a1).toNat) (List.drop a1.toNat a0)
 cond (decide (([]:List UInt8).length+l3.length≤eA)) (some ([]++l3,true)) none) none)) λk2=>
 cond (decide (a1<0))
 (k2 true)
 (cond (decide (a2<0))
 (k2 true)
 (cond (decide (a1>(a0.length:Int)))
 (k2 true)
 (k2 (decide (a2>(SA .i64 (a0.length:Int) a1))))))
def De(a0:List UInt8)(a1:Int)(a2:Int):=
 fA (λy1=>
 cond (y1)
 (some (0,0,false))
 (ob (jR a0 a1 a2) λr3=>
 cond (!r3.2)
 (some (0,0,false))
 (fA (λ(y4:Int)=>
 some (y4,mA .i64 a1 a2,true)) λk5=>
 yA FU (λ(x6:Int×Int) k7=>
 cond (decide (x6.2<(r3.1.length:Int)))
 (cond (decide (0≤x6.2)&&decide (x6.2<(r3.1.length:Int))) (ob (r3.1[x6.2.toNat]?) λe8=>
 let x9:Int:=IntKind.wrap .i64 ((e8.toNat:Nat):Int)
 k7 ((mA .i64 (mC .i64 256 x6.1) x9),(mA .i64 x6.2 1))) none)
 (k5 x6.1)) (0,0)))) λk2=>
 cond (decide (a2<1))
 (k2 true)
 (k2 (decide (a2>6)))
def Df(a0:Int)(a1:Int):=
 fA (λy1=>
 cond (y1)
 (some (nB .i64 a0 4294967295))
 (cond (decide (a1<0)) none (cond (decide ((SA .i64 32 a1)<0)) none (let x3:Int:=VT .i64 (nB .i64 a0 4294967295) (SA .i64 32 a1)
 let x4:Int:=eU .i64 (aE .i64 (nB .i64 a0 4294967295) a1) x3
 some (nB .i64 x4 4294967295))))) λk2=>
 cond (decide (a1<0))
 (k2 true)
 (k2 (decide (a1>31)))
def Dg(a0:List UInt8):=
 cond ((a0.length:Int) !=64)
 (some [])
 (fA (λ(y1:(List Int))=>
 fA (λ(y7:(List Int))=>
 some y7) λk8=>
 yA FU (λ(x9:Int×(List Int)) k10=>
 cond (decide (x9.1<64))
 (cond (decide (0≤SA .i64 x9.1 15)&&decide (SA .i64 x9.1 15<(x9.2.length:Int))) (ob (x9.2[(SA .i64 x9.1 15).toNat]?) λe11=>
 cond (decide (0≤SA .i64 x9.1 2)&&decide (SA .i64 x9.1 2<(x9.2.length:Int))) (ob (x9.2[(SA .i64 x9.1 2).toNat]?) λe12=>
 ob (DC e11 7) λr13=>
 ob (DC e11 18) λr14=>
 let x15:Int:=oB .i64 (oB .i64 r13 r14) (aE .i64 e11 3)
 ob (DC e12 17) λr16=>
 ob (DC e12 19) λr17=>
 let x18:Int:=oB .i64 (oB .i64 r16 r17) (aE .i64 e12 10)
 cond (decide (0≤SA .i64 x9.1 7)&&decide (SA .i64 x9.1 7<(x9.2.length:Int))) (ob (x9.2[(SA .i64 x9.1 7).toNat]?) λe19=>
 cond (decide (0≤SA .i64 x9.1 16)&&decide (SA .i64 x9.1 16<(x9.2.length:Int))) (ob (x9.2[(SA .i64 x9.1 16).toNat]?) λe20=>
 let x21:Int:=mA .i64 (mA .i64 (mA .i64 e19 e20) x15) x18
 cond (decide (0≤x9.1)&&decide (x9.1<(x9.2.length:Int))) (ob (x9.2[x9.1.toNat]?) λe22=>
 k10 ((mA .i64 x9.1 1),(List.set x9.2 x9.1.toNat (nB .i64 x21 4294967295)))) none) none) none) none) none)
 (k8 x9.2)) (16,y1)) λk2=>
 yA FU (λ(x3:Int×(List Int)) k4=>
 cond (decide (x3.1<16))
 (ob (tI a0 (mC .i64 4 x3.1) 4) λr5=>
 cond (decide (0≤x3.1)&&decide (x3.1<(x3.2.length:Int))) (ob (x3.2[x3.1.toNat]?) λe6=>
 k4 ((mA .i64 x3.1 1),(List.set x3.2 x3.1.toNat r5.1))) none)
 (k2 x3.2)) (0,(List.replicate (64:Int).toNat (0:Int))))
def Be(a0:Int):Option Int:=
 fA (λy1=>
 cond (y1)
 (some 0)
 (cond (a0==(0:Int)) (some 1116352408) (cond (a0==(1:Int)) (some 1899447441) (cond (a0==(2:Int)) (some 3049323471) (cond (a0==(3:Int)) (some 3921009573) (cond (a0==(4:Int)) (some 961987163) (cond (a0==(5:Int)) (some 1508970993) (cond (a0==(6:Int)) (some 2453635748) (cond (a0==(7:Int)) (some 2870763221) (cond (a0==(8:Int)) (some 3624381080) (cond (a0==(9:Int)) (some 310598401) (cond (a0==(10:Int)) (some 607225278) (cond (a0==(11:Int)) (some 1426881987) (cond (a0==(12:Int)) (some 1925078388) (cond (a0==(13:Int)) (some 2162078206) (cond (a0==(14:Int)) (some 2614888103) (cond (a0==(15:Int)) (some 3248222580) (cond (a0==(16:Int)) (some 3835390401) (cond (a0==(17:Int)) (some 4022224774) (cond (a0==(18:Int)) (some 264347078) (cond (a0==(19:Int)) (some 604807628) (cond (a0==(20:Int)) (some 770255983) (cond (a0==(21:Int)) (some 1249150122) (cond (a0==(22:Int)) (some 1555081692) (cond (a0==(23:Int)) (some 1996064986) (cond (a0==(24:Int)) (some 2554220882) (cond (a0==(25:Int)) (some 2821834349) (cond (a0==(26:Int)) (some 2952996808) (cond (a0==(27:Int)) (some 3210313671) (cond (a0==(28:Int)) (some 3336571891) (cond (a0==(29:Int)) (some 3584528711) (cond (a0==(30:Int)) (some 113926993) (cond (a0==(31:Int)) (some 338241895) (cond (a0==(32:Int)) (some 666307205) (cond (a0==(33:Int)) (some 773529912) (cond (a0==(34:Int)) (some 1294757372) (cond (a0==(35:Int)) (some 1396182291) (cond (a0==(36:Int)) (some 1695183700) (cond (a0==(37:Int)) (some 1986661051) (cond (a0==(38:Int)) (some 2177026350) (cond (a0==(39:Int)) (some 2456956037) (cond (a0==(40:Int)) (some 2730485921) (cond (a0==(41:Int)) (some 2820302411) (cond (a0==(42:Int)) (some 3259730800) (cond (a0==(43:Int)) (some 3345764771) (cond (a0==(44:Int)) (some 3516065817) (cond (a0==(45:Int)) (some 3600352804) (cond (a0==(46:Int)) (some 4094571909) (cond (a0==(47:Int)) (some 275423344) (cond (a0==(48:Int)) (some 430227734) (cond (a0==(49:Int)) (some 506948616) (cond (a0==(50:Int)) (some 659060556) (cond (a0==(51:Int)) (some 883997877) (cond (a0==(52:Int)) (some 958139571) (cond (a0==(53:Int)) (some 1322822218) (cond (a0==(54:Int)) (some 1537002063) (cond (a0==(55:Int)) (some 1747873779) (cond (a0==(56:Int)) (some 1955562222) (cond (a0==(57:Int)) (some 2024104815) (cond (a0==(58:Int)) (some 2227730452) (cond (a0==(59:Int)) (some 2361852424) (cond (a0==(60:Int)) (some 2428436474) (cond (a0==(61:Int)) (some 2756734187) (cond (a0==(62:Int)) (some 3204031479) (cond (a0==(63:Int)) (some 3329325298) (none)))))))))))))))))))))))))))))))))))))))))))))))))))))))))))))))))) λk2=>
 cond (decide (a0<0))
 (k2 true)
 (k2 (decide (a0>63)))
def Ha(a0:Int)(a1:Int):=
 some (nB .i64 (mA .i64 a0 a1) 4294967295)
def Dh(a0:List Int)(a1:List UInt8):=
 cond (decide (([]:List Int).length+a0.length≤eA)) (fA (λy1=>
 cond (y1)
 (some ([]++a0))
 (ob (KH a1) λr3=>
 ob (vA a0 0) λe4=>
 ob (vA a0 1) λe5=>
 ob (vA a0 2) λe6=>
 ob (vA a0 3) λe7=>
 ob (vA a0 4) λe8=>
 ob (vA a0 5) λe9=>
 ob (vA a0 6) λe10=>
 ob (vA a0 7) λe11=>
 fA (λ(y12:Int×Int×Int×Int×Int×Int×Int×Int)=>
 let x31:List Int:=[y12.1,y12.2.1,y12.2.2.1,y12.2.2.2.1,y12.2.2.2.2.1,y12.2.2.2.2.2.1,y12.2.2.2.2.2.2.1,y12.2.2.2.2.2.2.2]
 fA (λ(y32:(List Int))=>
 some y32) λk33=>
 yA FU (λ(x34:Int×(List Int)) k35=>
 cond (decide (x34.1<(x31.length:Int)))
 (cond (decide (0≤x34.1)&&decide (x34.1<(x31.length:Int))) (ob (x31[x34.1.toNat]?) λe36=>
 ob (vA a0 x34.1) λe37=>
 cond (decide (0≤x34.1)&&decide (x34.1<(x34.2.length:Int))) (ob (x34.2[x34.1.toNat]?) λe38=>
 k35 ((mA .i64 x34.1 1),(List.set x34.2 x34.1.toNat (YD e37 e36)))) none) none)
 (k33 x34.2)) (0,([]++a0))) λk13=>
 yA FU (λ(x14:Int×Int×Int×Int×Int×Int×Int×Int×Int) DH=>
 cond (decide (x14.2.2.2.2.2.2.2.2<64))
 (let x16:Int:=nB .i64 (oB .i64 4294967295 x14.2.2.2.2.1) x14.2.2.2.2.2.2.1
 let x17:Int:=oB .i64 (nB .i64 x14.2.2.2.2.1 x14.2.2.2.2.2.1) x16;let x18:Int:=oB .i64 (nB .i64 x14.1 x14.2.1) (nB .i64 x14.1 x14.2.2.1);let x19:Int:=oB .i64 x18 (nB .i64 x14.2.1 x14.2.2.1)
 ob (DC x14.2.2.2.2.1 6) λr20=>
 ob (DC x14.2.2.2.2.1 11) λr21=>
 ob (DC x14.2.2.2.2.1 25) λr22=>
 let x23:Int:=mA .i64 x14.2.2.2.2.2.2.2.1 (oB .i64 (oB .i64 r20 r21) r22);let x24:Int:=mA .i64 (mA .i64 x23 x17) (MH x14.2.2.2.2.2.2.2.2)
 cond (decide (0≤x14.2.2.2.2.2.2.2.2)&&decide (x14.2.2.2.2.2.2.2.2<(r3.length:Int))) (ob (r3[x14.2.2.2.2.2.2.2.2.toNat]?) λe25=>
 ob (DC x14.1 2) λr26=>
 ob (DC x14.1 13) λr27=>
 ob (DC x14.1 22) λr28=>
 let x29:Int:=mA .i64 (oB .i64 (oB .i64 r26 r27) r28) x19;let r30:Int:=YD x14.2.2.2.1 (mA .i64 x24 e25)
 DH ((YD (mA .i64 x24 e25) x29),x14.1,x14.2.1,x14.2.2.1,r30,x14.2.2.2.2.1,x14.2.2.2.2.2.1,x14.2.2.2.2.2.2.1,(mA .i64 x14.2.2.2.2.2.2.2.2 1))) none)
 (k13 (x14.1,x14.2.1,x14.2.2.1,x14.2.2.2.1,x14.2.2.2.2.1,x14.2.2.2.2.2.1,x14.2.2.2.2.2.2.1,x14.2.2.2.2.2.2.2.1))) (e4,e5,e6,e7,e8,e9,e10,e11,0))) λk2=>
 cond (!(BB a0 8))
 (k2 true)
 (k2 ((a1.length:Int) !=64))) none
def Di(a0:List Int)(a1:List UInt8):=
 fA (λ(y1:(List Int)×(List UInt8))=>
 some (y1.1,y1.2)) λk2=>
 yA FU (λ(x3:(List Int)×(List UInt8)) k4=>
 cond (decide ((x3.2.length:Int)≥64))
 (cond (decide (0≤(0:Int))&&decide ((0:Int)≤64)&&decide (64≤(x3.2.length:Int))) (let l5:List UInt8:=List.take 64 (List.drop 0 x3.2)
 ob (dH x3.1 l5) λr6=>
 cond (decide (0≤(64:Int))&&decide ((64:Int)≤(x3.2.length:Int))&&decide ((x3.2.length:Int)≤(x3.2.length:Int))) (let l7:List UInt8:=List.take (((x3.2.length:Int) - 64).toNat) (List.drop 64 x3.2)
 k4 (r6,l7)) none) none)
 (k2 (x3.1,x3.2))) (a0,a1)
def Dj(a0:Au)(a1:List UInt8):=
 fA (λy1=>
 cond (y1)
 (cond (decide (([]:List Int).length+a0.H.length≤eA)) (ob (lE a0.Held) λr3=>
 some (⟨[]++a0.H,r3,a0.N⟩:Au)) none)
 (ob (AE [a0.Held,a1]) λr4=>
 ob (UL a0.H r4) λr5=>
 cond (decide (([]:List Int).length+r5.1.length≤eA)) (ob (lE r5.2) λr6=>
 some (⟨[]++r5.1,r6,mA .i64 a0.N (a1.length:Int)⟩:Au)) none)) λk2=>
 cond (!(CE a0))
 (k2 true)
 (k2 (decide ((a1.length:Int)>(SA .i64 1048576 a0.N))))
def Dk(a0:Int):=
 cond (!(oA a0 0 1048576))
 (some [])
 (fA (λ(y1:(List UInt8))=>
 cond (decide (y1.length+[UInt8.ofNat (0:Int).toNat,UInt8.ofNat (0:Int).toNat].length≤eA)) (let x6:List UInt8:=y1++[UInt8.ofNat (0:Int).toNat,UInt8.ofNat (0:Int).toNat]
 ob (TD x6 (mC .i64 8 a0) 6) λr7=>
 some r7) none) λk2=>
 yA FU (λ(x3:(List UInt8)) k4=>
 let x5:Int:=mA .i64 (mA .i64 a0 (x3.length:Int)) 8
 cond ((OC .i64 x5 64) !=0)
 (cond (decide (x3.length+[UInt8.ofNat (0:Int).toNat].length≤eA)) (k4 (x3++[UInt8.ofNat (0:Int).toNat])) none)
 (k2 x3)) [UInt8.ofNat (128:Int).toNat])
def Dl(a0:List Int):=
 fA (λ(y1:(List UInt8))=>
 some y1) λk2=>
 yA FU (λ(x3:(List UInt8)×Int) k4=>
 cond (decide (x3.2<(a0.length:Int)))
 (ob (vA a0 x3.2) λe5=>
 ob (TD x3.1 e5 4) λr6=>
 k4 (r6,(mA .i64 x3.2 1)))
 (k2 x3.1)) ([],0)
def Dm(a0:Au):=
 cond (!(CE a0))
 (some [])
 (ob (uI a0.N) λr1=>
 ob (AE [a0.Held,r1]) λr2=>
 ob (UL a0.H r2) λr3=>
 ob (ZG r3.1) λr4=>
 some r4)
def Dn(a0:List UInt8):=
 cond (decide ((a0.length:Int)>1048576))
 (some [])
 (let r1:Au:=YI
 ob (QP r1 a0) λr2=>
 ob (HP r2) λr3=>
 some r3)
def Do(a0:List UInt8):=
 cond (decide ((a0.length:Int)>1048576))
 (some [])
 (ob (lE a0) λr1=>
 fA (λ(y2:(List UInt8))=>
 fA (λ(y5:(List UInt8))=>
 some y5) λk6=>
 yA FU (λ(x7:(List UInt8)) k8=>
 cond (decide ((x7.length:Int)<64))
 (cond (decide (x7.length+[UInt8.ofNat (0:Int).toNat].length≤eA)) (k8 (x7++[UInt8.ofNat (0:Int).toNat])) none)
 (k6 x7)) y2) λk3=>
 cond (decide ((a0.length:Int)>64))
 (let r4:(List UInt8):=YC a0
 k3 r4)
 (k3 r1))
def Dp(a0:List UInt8)(a1:UInt8):=
 fA (λ(y1:(List UInt8))=>
 some y1) λk2=>
 yA FU (λ(x3:(List UInt8)×Int) k4=>
 cond (decide (x3.2<(a0.length:Int)))
 (ob (vA a0 x3.2) λe5=>
 let x6:Int:=oB .u8 ((e5.toNat:Nat):Int) ((a1.toNat:Nat):Int)
 cond (decide (x3.1.length+[UInt8.ofNat (x6:Int).toNat].length≤eA)) (k4 ((x3.1++[UInt8.ofNat (x6:Int).toNat]),(mA .i64 x3.2 1))) none)
 (k2 x3.1)) ([],0)
def Dq(a0:List UInt8)(a1:List UInt8):=
 fA (λy1=>
 cond (y1)
 (some [])
 (let r3:(List UInt8):=xC a0
 ob (tN r3 (UInt8.ofNat (92:Int).toNat)) λr4=>
 ob (tN r3 (UInt8.ofNat (54:Int).toNat)) λr5=>
 ob (AE [r5,a1]) λr6=>
 let r7:(List UInt8):=YC r6
 ob (AE [r4,r7]) λr8=>
 let r9:(List UInt8):=YC r8
 some r9)) λk2=>
 cond (decide ((a0.length:Int)>1048576))
 (k2 true)
 (k2 (decide ((a1.length:Int)>1048512)))
def Dr(a0:List UInt8)(a1:Int):=
 fA (λy1=>
 cond (y1)
 (some [])
 (let x3:List UInt8:=[UInt8.ofNat (114:Int).toNat,UInt8.ofNat (111:Int).toNat,UInt8.ofNat (108:Int).toNat,UInt8.ofNat (108:Int).toNat]
 ob (TD x3 a1 4) λr4=>
 let r5:(List UInt8):=xD a0 r4
 cond (decide (0≤(0:Int))&&decide ((0:Int)≤12)&&decide (12≤(r5.length:Int))) (ob (lE (List.take 12 (List.drop 0 r5))) λr6=>
 some r6) none)) λk2=>
 cond (!(oA (a0.length:Int) 1 32))
 (k2 true)
 (k2 (!(oA a1 0 10000)))
def Hb(a0:List UInt8)(a1:Int)(a2:Int):=
 cond (decide (([]:List UInt8).length+a0.length≤eA)) (fA (λy1=>
 cond (y1)
 (some ([]++a0))
 (fA (λ(y3:(List UInt8))=>
 some y3) λk4=>
 yA FU (λ(x5:(List UInt8)×Int) k6=>
 cond (decide (x5.2≥0))
 (cond (decide ((mC .i64 8 x5.2)<0)) none (let x7:Int:=nB .i64 (aE .i64 a1 (mC .i64 8 x5.2)) 255
 cond (decide (x5.1.length+[UInt8.ofNat (IntKind.wrap .u8 x7:Int).toNat].length≤eA)) (k6 ((x5.1++[UInt8.ofNat (IntKind.wrap .u8 x7:Int).toNat]),(SA .i64 x5.2 1))) none))
 (k4 x5.1)) (([]++a0),(SA .i64 a2 1)))) λk2=>
 cond (decide (a2<1))
 (k2 true)
 (k2 (decide (a2>6)))) none
def Ds(a0:Int):=
 fA (λy1=>
 cond (y1)
 (some [])
 (fA (λ(y3:(List UInt8))=>
 ob (TD y3 0 4) λr8=>
 ob (TD r8 (mC .i64 8 a0) 4) λr9=>
 some r9) λk4=>
 yA FU (λ(x5:(List UInt8)) k6=>
 let x7:Int:=mA .i64 (mA .i64 a0 (x5.length:Int)) 8
 cond ((OC .i64 x7 64) !=0)
 (cond (decide (x5.length+[UInt8.ofNat (0:Int).toNat].length≤eA)) (k6 (x5++[UInt8.ofNat (0:Int).toNat])) none)
 (k4 x5)) [UInt8.ofNat (128:Int).toNat])) λk2=>
 cond (decide (a0<0))
 (k2 true)
 (k2 (decide (a0>1048576)))
def Hc:=
 let x1:List Int:=[1779033703,3144134277,1013904242,2773480762,1359893119,2600822924,528734635,1541459225]
 some x1
def Dt(a0:List Int):=
 fA (λ(y1:Unit)=>
 some ((a0.length:Int)==8)) λk2=>
 yA FU (λ(x3:Int) k4=>
 cond (decide (x3<(a0.length:Int)))
 (ob (vA a0 x3) λe5=>
 cond (!(oA e5 0 4294967295))
 (some false)
 (k4 (mA .i64 x3 1)))
 (k2 ())) 0
def Hd:=
 let x1:List Int:=[1116352408,1899447441,3049323471,3921009573,961987163,1508970993,2453635748,2870763221,3624381080,310598401,607225278,1426881987,1925078388,2162078206,2614888103,3248222580,3835390401,4022224774,264347078,604807628,770255983,1249150122,1555081692,1996064986,2554220882,2821834349,2952996808,3210313671,3336571891,3584528711,113926993,338241895,666307205,773529912,1294757372,1396182291,1695183700,1986661051,2177026350,2456956037,2730485921,2820302411,3259730800,3345764771,3516065817,3600352804,4094571909,275423344,430227734,506948616,659060556,883997877,958139571,1322822218,1537002063,1747873779,1955562222,2024104815,2227730452,2361852424,2428436474,2756734187,3204031479,3329325298]
 some x1
def Du(a0:List UInt8)(a1:Int)(a2:Int):=
 fA (λy1=>
 cond (y1)
 (some (0,0,false))
 (fA (λ(y3:Int)=>
 some (y3,mA .i64 a1 a2,true)) λk4=>
 yA FU (λ(x5:Int×Int) k6=>
 cond (decide (x5.2<a2))
 (ob (vA a0 (mA .i64 a1 x5.2)) λe7=>
 let x8:Int:=IntKind.wrap .i64 ((e7.toNat:Nat):Int)
 k6 ((mA .i64 (mC .i64 x5.1 256) x8),(mA .i64 x5.2 1)))
 (k4 x5.1)) (0,0))) λk2=>
 cond (decide (a2<1))
 (k2 true)
 (cond (decide (a2>6))
 (k2 true)
 (cond (decide (a1<0))
 (k2 true)
 (k2 (decide (a1>(SA .i64 (a0.length:Int) a2))))))
def Dv(a0:Int)(a1:Int):=
 fA (λy1=>
 cond (y1)
 (some (nB .i64 a0 4294967295))
 (cond (decide (a1<0)) none (cond (decide ((SA .i64 32 a1)<0)) none (let x3:Int:=VT .i64 (nB .i64 a0 4294967295) (SA .i64 32 a1)
 let x4:Int:=eU .i64 (aE .i64 (nB .i64 a0 4294967295) a1) x3
 some (nB .i64 x4 4294967295))))) λk2=>
 cond (decide (a1<1))
 (k2 true)
 (k2 (decide (a1>31)))
def Dw(a0:List UInt8):=
 cond ((a0.length:Int) !=64)
 (some [])
 (fA (λ(y1:(List Int))=>
 fA (λ(y6:(List Int))=>
 some y6) λk7=>
 yA FU (λ(x8:(List Int)×Int) k9=>
 cond (decide (x8.2<64))
 (cond (decide (0≤SA .i64 x8.2 15)&&decide (SA .i64 x8.2 15<(x8.1.length:Int))) (ob (x8.1[(SA .i64 x8.2 15).toNat]?) λe10=>
 cond (decide (0≤SA .i64 x8.2 2)&&decide (SA .i64 x8.2 2<(x8.1.length:Int))) (ob (x8.1[(SA .i64 x8.2 2).toNat]?) λe11=>
 ob (DC e10 7) λr12=>
 ob (DC e10 18) λr13=>
 let x14:Int:=oB .i64 (oB .i64 r12 r13) (aE .i64 e10 3)
 ob (DC e11 17) λr15=>
 ob (DC e11 19) λr16=>
 let x17:Int:=oB .i64 (oB .i64 r15 r16) (aE .i64 e11 10)
 cond (decide (0≤SA .i64 x8.2 7)&&decide (SA .i64 x8.2 7<(x8.1.length:Int))) (ob (x8.1[(SA .i64 x8.2 7).toNat]?) λe18=>
 cond (decide (0≤SA .i64 x8.2 16)&&decide (SA .i64 x8.2 16<(x8.1.length:Int))) (ob (x8.1[(SA .i64 x8.2 16).toNat]?) λe19=>
 let x20:Int:=mA .i64 (mA .i64 (mA .i64 e18 e19) x14) x17
 cond (decide (x8.1.length+[nB .i64 x20 4294967295].length≤eA)) (k9 ((x8.1++[nB .i64 x20 4294967295]),(mA .i64 x8.2 1))) none) none) none) none) none)
 (k7 x8.1)) (y1,16)) λk2=>
 yA FU (λ(x3:(List Int)×Int) k4=>
 cond (decide (x3.2<16))
 (ob (tI a0 (mC .i64 4 x3.2) 4) λr5=>
 cond (decide (x3.1.length+[r5.1].length≤eA)) (k4 ((x3.1++[r5.1]),(mA .i64 x3.2 1))) none)
 (k2 x3.1)) ([],0))
def Dx(a0:List Int)(a1:List UInt8):=
 cond (decide (([]:List Int).length+a0.length≤eA)) (fA (λy1=>
 cond (y1)
 (some ([]++a0))
 (let r3:(List Int):=DF
 ob (KH a1) λr4=>
 ob (vA a0 0) λe5=>
 ob (vA a0 1) λe6=>
 ob (vA a0 2) λe7=>
 ob (vA a0 3) λe8=>
 ob (vA a0 4) λe9=>
 ob (vA a0 5) λe10=>
 ob (vA a0 6) λe11=>
 ob (vA a0 7) λe12=>
 fA (λ(y13:Int×Int×Int×Int×Int×Int×Int×Int)=>
 let x34:List Int:=[y13.1,y13.2.1,y13.2.2.1,y13.2.2.2.1,y13.2.2.2.2.1,y13.2.2.2.2.2.1,y13.2.2.2.2.2.2.1,y13.2.2.2.2.2.2.2]
 fA (λ(y35:(List Int))=>
 some y35) λk36=>
 yA FU (λ(x37:Int×(List Int)) k38=>
 cond (decide (x37.1<8))
 (ob (vA a0 x37.1) λe39=>
 cond (decide (0≤x37.1)&&decide (x37.1<(x34.length:Int))) (ob (x34[x37.1.toNat]?) λe40=>
 cond (decide (0≤x37.1)&&decide (x37.1<(x37.2.length:Int))) (ob (x37.2[x37.1.toNat]?) λe41=>
 let l42:List Int:=List.set x37.2 x37.1.toNat (nB .i64 (mA .i64 e39 e40) 4294967295)
 k38 ((mA .i64 x37.1 1),l42)) none) none)
 (k36 x37.2)) (0,([]++a0))) λTE=>
 yA FU (λ(x15:Int×Int×Int×Int×Int×Int×Int×Int×Int) k16=>
 cond (decide (x15.2.2.2.2.2.2.2.2<64))
 (ob (DC x15.2.2.2.2.1 6) λr17=>
 ob (DC x15.2.2.2.2.1 11) λr18=>
 ob (DC x15.2.2.2.2.1 25) λr19=>
 let x20:Int:=mA .i64 x15.2.2.2.2.2.2.2.1 (oB .i64 (oB .i64 r17 r18) r19);let x21:Int:=nB .i64 (oB .i64 x15.2.2.2.2.1 4294967295) x15.2.2.2.2.2.2.1;let x22:Int:=oB .i64 (nB .i64 x15.2.2.2.2.1 x15.2.2.2.2.2.1) x21
 cond (decide (0≤x15.2.2.2.2.2.2.2.2)&&decide (x15.2.2.2.2.2.2.2.2<(r3.length:Int))) (ob (r3[x15.2.2.2.2.2.2.2.2.toNat]?) λe23=>
 cond (decide (0≤x15.2.2.2.2.2.2.2.2)&&decide (x15.2.2.2.2.2.2.2.2<(r4.length:Int))) (ob (r4[x15.2.2.2.2.2.2.2.2.toNat]?) λe24=>
 let x25:Int:=mA .i64 (mA .i64 (mA .i64 x20 x22) e23) e24
 ob (DC x15.1 2) λr26=>
 ob (DC x15.1 13) λr27=>
 ob (DC x15.1 22) λr28=>
 let x29:Int:=oB .i64 (nB .i64 x15.1 x15.2.1) (nB .i64 x15.1 x15.2.2.1);let x30:Int:=oB .i64 x29 (nB .i64 x15.2.1 x15.2.2.1);let x31:Int:=mA .i64 (oB .i64 (oB .i64 r26 r27) r28) x30;let x32:Int:=mA .i64 x15.2.2.2.1 (nB .i64 x25 4294967295);let x33:Int:=mA .i64 (nB .i64 x25 4294967295) (nB .i64 x31 4294967295)
 k16 ((nB .i64 x33 4294967295),x15.1,x15.2.1,x15.2.2.1,(nB .i64 x32 4294967295),x15.2.2.2.2.1,x15.2.2.2.2.2.1,x15.2.2.2.2.2.2.1,(mA .i64 x15.2.2.2.2.2.2.2.2 1))) none) none)
 (TE (x15.1,x15.2.1,x15.2.2.1,x15.2.2.2.1,x15.2.2.2.2.1,x15.2.2.2.2.2.1,x15.2.2.2.2.2.2.1,x15.2.2.2.2.2.2.2.1))) (e5,e6,e7,e8,e9,e10,e11,e12,0))) λk2=>
 cond (!(xQ a0))
 (k2 true)
 (k2 ((a1.length:Int) !=64))) none
def Dy(a0:List Int):=
 fA (λ(y1:(List UInt8))=>
 some y1) λk2=>
 yA FU (λ(x3:(List UInt8)×Int) k4=>
 cond (decide (x3.2<8))
 (ob (vA a0 x3.2) λe5=>
 ob (TD x3.1 e5 4) λr6=>
 k4 (r6,(mA .i64 x3.2 1)))
 (k2 x3.1)) ([],0)
def Dz(a0:List UInt8):=
 cond (decide ((a0.length:Int)>1048576))
 (some [])
 (cond (decide (([]:List UInt8).length+a0.length≤eA)) (ob (uI (a0.length:Int)) λr1=>
 cond (decide (([]++a0).length+r1.length≤eA)) (let r2:(List Int):=TC
 fA (λ(y3:(List Int))=>
 ob (ZG y3) λr8=>
 some r8) λk4=>
 yA FU (λ(x5:(List Int)×Int) k6=>
 cond (decide (x5.2<((([]++a0)++r1).length:Int)))
 (cond (decide (0≤x5.2)&&decide (x5.2≤(mA .i64 x5.2 64))&&decide ((mA .i64 x5.2 64)≤((([]++a0)++r1).length:Int))) (ob (dH x5.1 (List.take ((mA .i64 x5.2 64 - x5.2).toNat) (List.drop x5.2.toNat (([]++a0)++r1)))) λr7=>
 k6 (r7,(mA .i64 x5.2 64))) none)
 (k4 x5.1)) (r2,0)) none) none)
def Ea(a0:List UInt8):=
 cond (decide ((a0.length:Int)>1048576))
 (some [])
 (cond (decide (([]:List UInt8).length+a0.length≤eA)) (fA (λ(y1:(List UInt8))=>
 fA (λ(y4:(List UInt8))=>
 some y4) λk5=>
 yA FU (λ(x6:(List UInt8)) k7=>
 cond (decide ((x6.length:Int)<64))
 (cond (decide (x6.length+[UInt8.ofNat (0:Int).toNat].length≤eA)) (k7 (x6++[UInt8.ofNat (0:Int).toNat])) none)
 (k5 x6)) y1) λk2=>
 cond (decide ((a0.length:Int)>64))
 (let r3:(List UInt8):=YC a0
 k2 r3)
 (k2 ([]++a0))) none)
def Eb(a0:List UInt8)(a1:List UInt8):=
 fA (λy1=>
 cond (y1)
 (some [])
 (let r3:(List UInt8):=xC a0
 fA (λ(y4:(List UInt8)×(List UInt8))=>
 cond (decide (y4.1.length+a1.length≤eA)) (let r12:(List UInt8):=YC (y4.1++a1)
 cond (decide (y4.2.length+r12.length≤eA)) (let r13:(List UInt8):=YC (y4.2++r12)
 some r13) none) none) λk5=>
 yA FU (λ(x6:(List UInt8)×(List UInt8)×Int) k7=>
 cond (decide (x6.2.2<64))
 (cond (decide (0≤x6.2.2)&&decide (x6.2.2<(r3.length:Int))) (ob (r3[x6.2.2.toNat]?) λe8=>
 let x9:List UInt8:=[UInt8.ofNat (oB .u8 ((e8.toNat:Nat):Int) 54:Int).toNat]
 cond (decide (x6.1.length+x9.length≤eA)) (cond (decide (0≤x6.2.2)&&decide (x6.2.2<(r3.length:Int))) (ob (r3[x6.2.2.toNat]?) λe10=>
 let x11:List UInt8:=[UInt8.ofNat (oB .u8 ((e10.toNat:Nat):Int) 92:Int).toNat]
 cond (decide (x6.2.1.length+x11.length≤eA)) (k7 ((x6.1++x9),(x6.2.1++x11),(mA .i64 x6.2.2 1))) none) none) none) none)
 (k5 (x6.1,x6.2.1))) ([],[],0))) λk2=>
 cond (decide ((a0.length:Int)>1048576))
 (k2 true)
 (k2 (decide ((a1.length:Int)>1048512)))
def Ec(a0:List UInt8)(a1:Int):=
 fA (λy1=>
 cond (y1)
 (some [])
 (let x3:List UInt8:=[UInt8.ofNat (114:Int).toNat,UInt8.ofNat (111:Int).toNat,UInt8.ofNat (108:Int).toNat,UInt8.ofNat (108:Int).toNat]
 ob (TD x3 a1 4) λr4=>
 let r5:(List UInt8):=xD a0 r4
 cond (decide (0≤(0:Int))&&decide ((0:Int)≤12)&&decide (12≤(r5.length:Int))) (cond (decide (([]:List UInt8).length+(List.take 12 (List.drop 0 r5)).length≤eA)) (some ([]++(List.take 12 (List.drop 0 r5)))) none) none)) λk2=>
 cond (!(oA (a0.length:Int) 1 32))
 (k2 true)
 (k2 (!(oA a1 0 10000)))
end
end Go.D
namespace Go.D
end Go.D
namespace Go.D
def ZS{σ R:Type}(n:Nat)(hn:n≤maxLen)(S:Nat→σ)(z:Option R){f:σ×Int→(σ×Int→Option R)→Option R}
  (hf:∀(i:Nat) k,i<n→f (S i,(i:Int)) k=k (S (i+1),IntKind.wrap .i64 ((i:Int)+1))) (hz:∀k,f (S n,(n:Int)) k=z) (a:Nat) (ha:a≤n):yA FU f (S a,(a:Int))=z:=by
 refine zE (g:=λ_=>z) (λx=>∃i:Nat,i≤n∧x=(S i,(i:Int))) (λx=>n - x.2.toNat) (λx hx k hk=>?_) ⟨a,ha,rfl⟩ (by unfold maxLen at hn;simp only[Int.toNat_natCast];omega);obtain⟨i,hi,rfl⟩:=hx
 rcases Nat.lt_or_eq_of_le hi with vV | rfl
 ·rw[hf i k vV,fH i (by omega)];exact hk _ ⟨i+1,vV,rfl⟩ (by simp only[Int.toNat_natCast];omega)
 ·exact hz k
def bL(n:Nat)(h:n<2^64):(BitVec.ofInt 64 (n:Int)).toNat=n:=by
 rw[BitVec.toNat_ofInt];omega
def KQ(a:Int):0≤EC a∧EC a≤4294967295:=by
 have h:(BitVec.ofInt 64 a&&&BitVec.ofInt 64 4294967295).toNat≤4294967295:=by
  rw[BitVec.toNat_and];exact Nat.le_trans Nat.and_le_right (by decide)
 unfold EC nB;show 0≤IntKind.wrap .i64 ((BitVec.ofInt 64 a&&&BitVec.ofInt 64 4294967295).toNat:Int)∧IntKind.wrap .i64 ((BitVec.ofInt 64 a&&&BitVec.ofInt 64 4294967295).toNat:Int)≤4294967295
 rw[sB (by omega) (by omega)];omega
def oN{a:Int}(h0:0≤a)(h1:a≤9223372036854775807):EC a=a % 4294967296:=by
 obtain⟨n,rfl⟩:=kE h0;unfold EC nB;show IntKind.wrap .i64 ((BitVec.ofInt 64 (n:Int)&&&BitVec.ofInt 64 ((4294967295:Nat):Int)).toNat:Int)=_
 rw[BitVec.toNat_and,bL n (by omega),bL _ (by decide)];have:=Nat.and_two_pow_sub_one_eq_mod n 32;rw[show(4294967295:Nat)=2^32 - 1 from rfl,this,sB (by omega) (by omega)];omega
def YB(a:Int):Prop:=0≤a∧a≤4294967295
def fR(a:Int):YB (EC a):=KQ a
def cI{a b:Int}(ha:YB a)(hb:YB b):YB (oB .i64 a b):=by
 obtain⟨n,rfl⟩:=kE ha.1;obtain⟨m,rfl⟩:=kE hb.1;have h1:=ha.2;have h2:=hb.2;have h:(n^^^m)<2^32:=Nat.xor_lt_two_pow (by omega) (by omega);unfold oB;show YB (IntKind.wrap .i64 ((BitVec.ofInt 64 (n:Int)^^^BitVec.ofInt 64 (m:Int)).toNat:Int))
 rw[BitVec.toNat_xor,bL n (by omega),bL m (by omega),sB (by omega) (by omega)];exact⟨by omega,by omega⟩
def zga(a b:Int):oB .i64 a b=oB .i64 b a:=by
 unfold oB;rw[BitVec.xor_comm]
def wN{a b:Int}(ha:YB a)(hb:YB b):YB (nB .i64 a b):=by
 obtain⟨n,rfl⟩:=kE ha.1;obtain⟨m,rfl⟩:=kE hb.1;have h1:=ha.2;have h2:=hb.2;have h:(n&&&m)≤m:=Nat.and_le_right;unfold nB;show YB (IntKind.wrap .i64 ((BitVec.ofInt 64 (n:Int)&&&BitVec.ofInt 64 (m:Int)).toNat:Int))
 rw[BitVec.toNat_and,bL n (by omega),bL m (by omega),sB (by omega) (by omega)];exact⟨by omega,by omega⟩
def ML(x n:Int):YB (rE x n):=fR _
def ZE{a b:Nat}(h:a+b≤eA):decide (a+b≤eA)=true:=decide_eq_true h
def OO.ok{x}(_:sA [.sl .byte] x){r}:lE x=some r→Gx x=some r:=YA λh=>by
 have h2:(show List UInt8 from x).length≤eA:=by rw[←LA];exact h
 show cond (decide (([]:List UInt8).length+(show List UInt8 from x).length≤eA)) _ _=_
 rw[xL h2];rfl
def za5(b:List UInt8)(n k:Int)(h:wt b+6≤eA):Da b n k=some (qG b n k):=by
 rw[LA]at h;simp only[Da,fA,qG,List.nil_append];rw[xL (by omega)];simp only[cond_true]
 by_cases h1:k<1
 ·rw[decide_eq_true h1];rfl
 by_cases h2:k>6
 ·rw[decide_eq_false h1,decide_eq_true h2];rfl
 rw[decide_eq_false h1,decide_eq_false h2];simp only[cond_false,Bool.or_false];have hk:SA .i64 k 1=k - 1:=by rw[SA,sB (by omega) (by omega)]
 rw[hk];rw[zE (g:=λx:List UInt8×Int=>some (x.1++wE n (x.2+1).toNat)) (λx=> -1≤x.2∧x.2≤5∧(x.1.length:Int)+x.2+1≤(eA:Int)) (λx=>(x.2+1).toNat) (λx hx kk OW=>?_) (x:=(b,k - 1)) ⟨by show -1≤k - 1;omega,by show k - 1≤5;omega,by show(b.length:Int)+(k - 1)+1≤(eA:Int);omega⟩ (by show(k - 1+1).toNat<2^64;omega)]
 ·rw[show k - 1+1=k by omega]
 ·obtain⟨l,i⟩:=x;obtain⟨g1,g2,g3⟩:=hx;simp only at g1 g2 g3⊢
  by_cases hi:0≤i
  ·obtain⟨j,rfl⟩:=kE hi;have e1:mC .i64 8 (j:Int)=8 *(j:Int):=sB (by omega) (by omega);have e2:SA .i64 (j:Int) 1=(j:Int) - 1:=by rw[SA,sB (by omega) (by omega)]
   have e3:decide (mC .i64 8 (j:Int)<0)=false:=decide_eq_false (by rw[e1];omega);rw[decide_eq_true (p:=(j:Int)≥0) hi,cond_true,e3,cond_false,ZE (by simp;omega),cond_true,e2];refine(OW (l++[eJ n j],(j:Int) - 1) ⟨by show -1≤(j:Int) - 1;omega,by show(j:Int) - 1≤5;omega,by show((l++[eJ n j]).length:Int)+((j:Int) - 1)+1≤(eA:Int);simp;omega⟩ (by show((j:Int) - 1+1).toNat<((j:Int)+1).toNat;omega)).trans ?_;simp only;rw[show((j:Int) - 1+1).toNat=j by omega,show((j:Int)+1).toNat=j+1 by omega,wE,List.append_assoc];rfl
  ·have:i= -1:=by omega
   subst this;simp[wE]
def aL.ok{x}(_:sA [.sl .byte, .v .int, .v .int] x){r}:TD x.1 x.2.1 x.2.2=some r→Da x.1 x.2.1 x.2.2=some r:=YA λh=>za5 x.1 x.2.1 x.2.2 h
def fP.ok{x}(_:sA [.sl .byte, .v .int, .v .int] x){r}:TD x.1 x.2.1 x.2.2=some r→Hb x.1 x.2.1 x.2.2=some r:=YA λh=>za5 x.1 x.2.1 x.2.2 h
def zaN:∀l:List (List UInt8),l.flatten.length≤wt l
 | []=>Nat.zero_le _
 | x :: l=>by
  have:=zaN l;rw[HD,LA,List.flatten_cons,List.length_append];omega
def zdF(l:List (List UInt8))(h:wt l≤eA):Dc l=some l.flatten:=by
 simp only[Dc,fA];refine ZS l.length (SH h) (λi=>(l.take i).flatten) (some l.flatten) (λi k hi=>?_) (λk=>by simp only[sD,cond_false,List.take_length]) 0 (Nat.zero_le _);have e:(l.take (i+1)).flatten=(l.take i).flatten++l[i]:=by rw[cH l hi,List.flatten_append];simp
 have tV:=zaN (l.take (i+1));have h2:=OS l (i+1);rw[e,List.length_append]at tV;simp only[bD hi,cond_true,rC hi,lB,ZE (show(l.take i).flatten.length+l[i].length≤eA by omega),e]
def iK.ok{x}(_:sA [.sl .bs] x){r}:AE x=some r→Dc x=some r:=YA λh=>zdF x h
def zhW(b:List UInt8)(f n:Int)(h:wt b≤eA)(hf:FB .i64 f)(hn:FB .i64 n):Dd b f n=some (cut b f n):=by
 have hl:b.length≤eA:=by rw[←LA];exact h
 have hL:=HB;have hf:=AP hf;simp only[Dd,fA,cut,List.nil_append]
 by_cases h1:f<0
 ·rw[decide_eq_true h1];rfl
 by_cases h2:n<0
 ·rw[decide_eq_false h1,decide_eq_true h2];rfl
 by_cases h3:f>(b.length:Int)
 ·rw[decide_eq_false h1,decide_eq_false h2,decide_eq_true h3];rfl
 have e:SA .i64 (b.length:Int) f=(b.length:Int) - f:=by rw[SA,sB (by omega) (by omega)]
 rw[e]
 by_cases h4:n>(b.length:Int) - f
 ·rw[decide_eq_false h1,decide_eq_false h2,decide_eq_false h3,decide_eq_true h4];rfl
 have e2:mA .i64 f n=f+n:=by rw[mA,sB (by omega) (by omega)]
 have e3:(decide (0≤f)&&decide (f≤f+n)&&decide (f+n≤(b.length:Int)))=true:=by simp;omega
 rw[decide_eq_false h1,decide_eq_false h2,decide_eq_false h3,decide_eq_false h4];simp only[cond_false,e2];rw[e3,show f+n - f=n by omega];have:((b.drop f.toNat).take n.toNat).length≤eA:=by rw[List.length_take,List.length_drop];omega
 rw[xL this];rfl
def gL.ok{x}(hb:sA [.sl .byte, .v .int, .v .int] x){r}:jR x.1 x.2.1 x.2.2=some r→Dd x.1 x.2.1 x.2.2=some r:=YA λh=>
 zhW x.1 x.2.1 x.2.2 h (bN hb.2.1 0 (by decide) rfl) (bN hb.2.2 0 (by decide) rfl)
def ER(l:List UInt8){i:Nat}(hi:i<l.length):dF (l.take (i+1))=mA .i64 (mC .i64 (dF (l.take i)) 256) (IntKind.wrap .i64 ((l[i].toNat:Nat):Int)):=by
 rw[dF,cH l hi,List.foldl_append];rfl
def zd0(b:List UInt8)(f k:Int)(h:wt b≤eA)(hf:FB .i64 f):Du b f k=some (rJ b f k):=by
 have hl:b.length≤eA:=by rw[←LA];exact h
 have hL:=HB;have hf:=AP hf;simp only[Du,fA,rJ]
 by_cases h1:k<1
 ·rw[decide_eq_true h1];rfl
 by_cases h2:k>6
 ·rw[decide_eq_false h1,decide_eq_true h2];rfl
 by_cases h3:f<0
 ·rw[decide_eq_false h1,decide_eq_false h2,decide_eq_true h3];rfl
 have e:SA .i64 (b.length:Int) k=(b.length:Int) - k:=by rw[SA,sB (by omega) (by omega)]
 rw[e]
 by_cases h4:f>(b.length:Int) - k
 ·rw[decide_eq_false h1,decide_eq_false h2,decide_eq_false h3,decide_eq_true h4];rfl
 rw[decide_eq_false h1,decide_eq_false h2,decide_eq_false h3,decide_eq_false h4];simp only[cond_false,Bool.or_false];obtain⟨a,rfl⟩:=kE (n:=f) (by omega);obtain⟨m,rfl⟩:=kE (n:=k) (by omega);simp only[Int.toNat_natCast];refine ZS m (by rw[IC];omega) (λi=>dF (((b.drop a).take m).take i)) _ (λi k hi=>?_) (λk=>?_) 0 (Nat.zero_le _)
 ·have e1:mA .i64 (a:Int) (i:Int)=((a+i:Nat):Int):=by rw[mA,sB (by omega) (by omega)];omega
  have vV:i<((b.drop a).take m).length:=by rw[List.length_take,List.length_drop];omega
  have hai:a+i<b.length:=by omega
  rw[bD hi,cond_true,e1,rC hai,lB,ER _ vV];simp only[List.getElem_take,List.getElem_drop]
 ·rw[sD,cond_false,List.take_of_length_le (i:=m) (by rw[List.length_take];omega)]
def RK.ok{x}(hb:sA [.sl .byte, .v .int, .v .int] x){r}:tI x.1 x.2.1 x.2.2=some r→Du x.1 x.2.1 x.2.2=some r:=YA λh=>
 zd0 x.1 x.2.1 x.2.2 h (bN hb.2.1 0 (by decide) rfl)
def zgY(p:List UInt8)(hp:p.length≤maxLen)(c:Int):yA FU (λ(x6:Int×Int) k7=>cond (decide (x6.2<(p.length:Int))) (cond (decide (0≤x6.2)&&decide (x6.2<(p.length:Int))) (Option.bind (p[x6.2.toNat]?) λe8=>
  k7 ((mA .i64 (mC .i64 256 x6.1) (IntKind.wrap .i64 ((e8.toNat:Nat):Int))),(mA .i64 x6.2 1))) none) (some (x6.1,c,true))) ((0:Int),(0:Int))=some (dF p,c,true):=by
 refine ZS p.length hp (λi=>dF (p.take i)) _ (λi k hi=>?_) (λk=>?_) 0 (Nat.zero_le _)
 ·have e3:(decide ((0:Int)≤(i:Int))&&decide ((i:Int)<(p.length:Int)))=true:=by simp;exact hi
  simp only[e3,bD hi,cond_true,Int.toNat_natCast,List.getElem?_eq_getElem hi,lB,ER _ hi,mC,Int.mul_comm 256];rw[show decide ((0:Int)≤(i:Int))=true from decide_eq_true (by omega)];rfl
 ·rw[sD,cond_false,List.take_length]
def zd9(b:List UInt8)(f k:Int)(h:wt b≤eA)(hf:FB .i64 f):De b f k=some (rJ b f k):=by
 have hl:b.length≤eA:=by rw[←LA];exact h
 have hL:=HB;have hf:=AP hf;simp only[De,fA,rJ,jR,FA h,cut]
 by_cases h1:k<1
 ·rw[decide_eq_true h1];rfl
 by_cases h2:k>6
 ·rw[decide_eq_false h1,decide_eq_true h2];rfl
 by_cases h3:f<0
 ·rw[decide_eq_false h1,decide_eq_false h2,decide_eq_true h3];rfl
 rw[decide_eq_false h1,decide_eq_false h2,decide_eq_false h3,decide_eq_false (p:=k<0) (by omega)]
 by_cases h4:f>(b.length:Int) - k
 ·rw[decide_eq_true h4]
  by_cases h5:f>(b.length:Int)
  ·rw[decide_eq_true h5];rfl
  ·rw[decide_eq_false h5,decide_eq_true (p:=k>(b.length:Int) - f) (by omega)];rfl
 rw[decide_eq_false h4,decide_eq_false (p:=f>(b.length:Int)) (by omega),decide_eq_false (p:=k>(b.length:Int) - f) (by omega)];simp only[cond_false,Bool.or_false,Bool.not_true];obtain⟨a,rfl⟩:=kE (n:=f) (by omega);obtain⟨m,rfl⟩:=kE (n:=k) (by omega);simp only[Int.toNat_natCast];have tV:((b.drop a).take m).length=m:=by rw[List.length_take,List.length_drop];omega
 exact zgY _ (by rw[tV,IC];omega) _
def UK.ok{x}(hb:sA [.sl .byte, .v .int, .v .int] x){r}:tI x.1 x.2.1 x.2.2=some r→De x.1 x.2.1 x.2.2=some r:=YA λh=>
 zd9 x.1 x.2.1 x.2.2 h (bN hb.2.1 0 (by decide) rfl)
def zg2(l:List UInt8)(h:l.length≤4):0≤dF l∧dF l<256^l.length:=by
 have key:∀i,i≤l.length→0≤dF (l.take i)∧dF (l.take i)<256^i:=by
  intro i;induction i with
  | zero=>intro _;simp[dF]
  | succ i ih=>
   intro hi;have vV:i<l.length:=by omega
   obtain⟨h1,h2⟩:=ih (by omega);have hb:=UInt8.toNat_lt l[i]
   have hp:(256:Int)^i≤16777216:=by
    have:i=0∨i=1∨i=2∨i=3:=by omega
    rcases this with rfl | rfl | rfl | rfl<;>decide
   rw[ER l vV,Int.pow_succ];generalize (256:Int)^i=q at *;generalize dF (l.take i)=v at *;have e1:IntKind.wrap .i64 ((l[i].toNat:Nat):Int)=(l[i].toNat:Int):=sB (by omega) (by omega);have e2:mC .i64 v 256=v *256:=sB (by omega) (by omega);rw[e1,e2,mA,sB (by omega) (by omega)];omega
 have:=key l.length (Nat.le_refl _);rwa [List.take_length]at this
def zh5(x n:Int)(h:1≤n∧n≤31):Df x n=some (rE x n):=by
 simp only[Df,fA,rE,EC];rw[decide_eq_false (p:=n<0) (by omega),decide_eq_false (p:=n>31) (by omega)];have:SA .i64 32 n=32 - n:=by rw[SA,sB (by omega) (by omega)]
 rw[this,decide_eq_false (p:=32 - n<0) (by omega)];rfl
def uL.ok{x}(_:sA [.v .int, .v .int] x){r}:DC x.1 x.2=some r→Df x.1 x.2=some r:=YA λh=>zh5 x.1 x.2 h
def zeq(a n:Int)(h:1≤n∧n≤31):Dv a n=some (rE a n):=by
 simp only[Dv,fA,rE,EC];rw[decide_eq_false (p:=n<1) (by omega),decide_eq_false (p:=n>31) (by omega),decide_eq_false (p:=n<0) (by omega)];have:SA .i64 32 n=32 - n:=by rw[SA,sB (by omega) (by omega)]
 rw[this,decide_eq_false (p:=32 - n<0) (by omega)];rfl
def tL.ok{x}(_:sA [.v .int, .v .int] x){r}:DC x.1 x.2=some r→Dv x.1 x.2=some r:=YA λh=>zeq x.1 x.2 h
def PO.ok{x}(_:sA [.v .int, .v .int] x):Ha x.1 x.2=some (YD x.1 x.2):=rfl
def XO.ok{x}(_:sA [] x):Gy=some TC:=rfl
def WO.ok{x}(_:sA [] x):Hc=some TC:=rfl
def NP.ok{x}(_:sA [] x):Hd=some DF:=rfl
def WJ.ok{x}(hb:sA [.sl .int] x):Dt x=some (xQ x):=by
 show Dt (x:List Int)=some (BB (x:List Int) 8)
 have hl:(show List Int from x).length≤maxLen:=hb.1;generalize (show List Int from x)=l at hl⊢;simp only[Dt,fA];rw[tR l hl,BB];cases List.all _ _<;>rfl
def zf8:∀m:Fin 64,Be (m.val:Int)=some (MH (m.val:Int)):=by decide+kernel
def DI.ok{x}(_:sA [.v .int] x):Be x=some (MH x):=by
 show Be (x:Int)=some (MH (x:Int))
 generalize (show Int from x)=i
 by_cases h:0≤i∧i≤63
 ·obtain⟨m,rfl⟩:=kE h.1;exact zf8 ⟨m,by omega⟩
 ·simp only[Be,fA,MH,if_neg h]
  by_cases h1:i<0
  ·rw[decide_eq_true h1];rfl
  ·rw[decide_eq_false h1,decide_eq_true (p:=i>63) (by omega)];rfl
end Go.D
namespace Go.D
def rF{X R:Type}(idx:X→Int)(E:Nat→X)(UW:∀i,idx (E i)=(i:Int))(n:Nat)(hn:n≤maxLen)(z:Option R){f:X→(X→Option R)→Option R}(a:Nat)(ha:a≤n)
  (hf:∀(i:Nat) k,a≤i→i<n→f (E i) k=k (E (i+1))) (hz:∀k,f (E n) k=z):yA FU f (E a)=z:=by
 refine zE (g:=λ_=>z) (λx=>∃i:Nat,a≤i∧i≤n∧x=E i) (λx=>n - (idx x).toNat) (λx hx k hk=>?_) ⟨a,Nat.le_refl _,ha,rfl⟩ (by rw[UW];unfold maxLen at hn;simp only[Int.toNat_natCast];omega);obtain⟨i,h0,hi,rfl⟩:=hx
 rcases Nat.lt_or_eq_of_le hi with vV | rfl
 ·rw[hf i k h0 vV];exact hk _ ⟨i+1,by omega,vV,rfl⟩ (by rw[UW,UW];simp only[Int.toNat_natCast];omega)
 ·exact hz k
def PD{n i:Nat}(h:i<n):(decide ((0:Int)≤(i:Int))&&decide ((i:Int)<(n:Int)))=true:=by simp;exact h
def VE{l:List Int}{i:Nat}(h:i<l.length):l[i]?=some (l.getD i 0):=by
 rw[List.getD_eq_getElem?_getD,List.getElem?_eq_getElem h];rfl
def PH{i c:Nat}(h:i≤maxLen)(hc:c≤i):SA .i64 (i:Int) (c:Int)=((i - c:Nat):Int):=by
 rw[IC]at h;rw[SA,sB (by omega) (by omega)];omega
def qF{i:Nat}(h:i<maxLen):mA .i64 (i:Int) 1=((i+1:Nat):Int):=fH i h
def ziE{i n:Nat}(h:i<n):decide ((i:Int)<(n:Int))=true:=decide_eq_true (by omega)
def bH(b:List UInt8):∀i,(XB b i).length=i
 | 0=>rfl
 | i+1=>by rw[XB,List.length_append,bH b i];rfl
def zeM(b:List UInt8)(w:List Int)(i:Nat):YB (LH b w i):=by
 unfold LH;split
 ·unfold rJ;cases decide ((4:Int)<1)||(decide ((4:Int)>6)||(decide (((4 *i:Nat):Int)<0)||decide (((4 *i:Nat):Int)>(b.length:Int) - 4)))
  ·simp only[cond_false];have h4:((b.drop ((4 *i:Nat):Int).toNat).take (4:Int).toNat).length≤4:=by rw[List.length_take];exact Nat.min_le_left _ _
   have:=zg2 _ h4
   have hp:(256:Int)^((b.drop ((4 *i:Nat):Int).toNat).take (4:Int).toNat).length≤4294967296:=by
    generalize ((b.drop ((4 *i:Nat):Int).toNat).take (4:Int).toNat).length=q at h4;have:q=0∨q=1∨q=2∨q=3∨q=4:=by omega
    rcases this with rfl | rfl | rfl | rfl | rfl<;>decide
   exact⟨this.1,by omega⟩
  ·show YB 0
   exact⟨by decide,by decide⟩
 ·exact fR _
def zb5(b:List UInt8):∀(i j:Nat),YB ((XB b i).getD j 0)
 | 0,j=>by rw[show(XB b 0)=[]from rfl];simp;exact⟨by decide,by decide⟩
 | i+1,j=>by
  rw[XB,List.getD_eq_getElem?_getD,List.getElem?_append];split
  ·have:=zb5 b i j;rwa [List.getD_eq_getElem?_getD]at this
  ·cases hj:j - (XB b i).length with
   | zero=>exact zeM b _ i
   | succ m=>simp;exact⟨by decide,by decide⟩
def zcK{i:Nat}(h:i<16):mC .i64 4 (i:Int)=((4 *i:Nat):Int):=by
 rw[show mC .i64 4 (i:Int)=IntKind.wrap .i64 (4 *(i:Int))from rfl,sB (by omega) (by omega)];omega
def qD{β:Type}{x n:Int}{f:Int→Option β}(h:1≤n∧n≤31):Option.bind (DC x n) f=f (rE x n):=FA h
def zdo(b:List UInt8)(h:wt b≤eA):Dw b=some (wB b):=by
 simp only[Dw,fA,wB]
 by_cases hl:b.length=64
 case neg=>
  rw[show((b.length:Int) !=64)=true from bne_iff_ne.2 (by omega),if_neg hl];rfl
 rw[show((b.length:Int) !=64)=false by simp[hl],if_pos hl,cond_false];have hL:=HB;refine(rF (X:=List Int×Int) (λx=>x.2) (λi=>(XB b i,(i:Int))) (λ_=>rfl) 16 (by decide) (some (XB b 64)) 0 (by decide) (λi k _ hi=>?_) (λk=>?_))
 ·simp only[ziE (show i<16 from hi),show((16:Nat):Int)=16 from rfl,decide_eq_true (p:=(i:Int)<16) (by omega),cond_true,zcK hi,tI,FA h,qF (i:=i) (by rw[IC];omega)];rw[ZE (by rw[bH];simp;omega),cond_true,XB,LH,if_pos hi]
 ·simp only[show((16:Nat):Int)=16 from rfl,show decide ((16:Int)<16)=false from rfl,cond_false];refine(rF (X:=List Int×Int) (λx=>x.2) (λi=>(XB b i,(i:Int))) (λ_=>rfl) 64 (by decide) (some (XB b 64)) 16 (by decide) (λi k R1 hi=>?_) (λk=>?_))
  ·have hm:i≤maxLen:=by rw[IC];omega
   have e15:SA .i64 (i:Int) 15=((i - 15:Nat):Int):=PH (c:=15) hm (by omega);have e2:SA .i64 (i:Int) 2=((i - 2:Nat):Int):=PH (c:=2) hm (by omega);have e7:SA .i64 (i:Int) 7=((i - 7:Nat):Int):=PH (c:=7) hm (by omega);have e16:SA .i64 (i:Int) 16=((i - 16:Nat):Int):=PH (c:=16) hm (by omega);have hs:=bH b i
   simp only[decide_eq_true (p:=(i:Int)<64) (by omega),cond_true,e15,e2,e7,e16,PD (show i - 15<(XB b i).length by omega),PD (show i - 2<(XB b i).length by omega),PD (show i - 7<(XB b i).length by omega),PD (show i - 16<(XB b i).length by omega),Int.toNat_natCast,
    VE (show i - 15<(XB b i).length by omega),VE (show i - 2<(XB b i).length by omega),VE (show i - 7<(XB b i).length by omega),VE (show i - 16<(XB b i).length by omega),lB,qD (show(1:Int)≤7∧(7:Int)≤31 by decide),qD (show(1:Int)≤18∧(18:Int)≤31 by decide),qD (show(1:Int)≤17∧(17:Int)≤31 by decide),qD (show(1:Int)≤19∧(19:Int)≤31 by decide),qF (i:=i) (by rw[IC];omega)]
   rw[ZE (by rw[bH];simp;omega),cond_true,XB,LH,if_neg (by omega)];rfl
  ·simp only[show((64:Nat):Int)=64 from rfl,show decide ((64:Int)<64)=false from rfl,cond_false]
def EJ.ok{x}(_:sA [.sl .byte] x){r}:KH x=some r→Dw x=some r:=YA λh=>zdo x h
def FD(b:List UInt8)(i:Nat):List Int:=XB b i++List.replicate (64 - i) 0
def BU(b:List UInt8){i:Nat}(hi:i<64)(v:Int)(hv:v=LH b (XB b i) i):List.set (FD b i) i v=FD b (i+1):=by
 subst hv;rw[FD,show 64 - i=(64 - (i+1))+1 by omega,List.replicate_succ,AT _ _ _ _ (bH b i),FD,XB,List.append_assoc];rfl
def hO(b:List UInt8){i j:Nat}(hj:j<i):(FD b i)[j]?=some ((XB b i).getD j 0):=by
 rw[FD,List.getElem?_append_left (by rw[bH];exact hj),VE (by rw[bH];exact hj)]
def yR(b:List UInt8){i:Nat}(h:i≤64):(FD b i).length=64:=by
 rw[FD,List.length_append,bH,List.length_replicate];omega
def qU(b:List UInt8){i j:Nat}(hi:i≤64)(hj:j<64):∃v,(FD b i)[j]?=some v:=⟨_,List.getElem?_eq_getElem (by rw[yR b hi];exact hj)⟩
def zdj(b:List UInt8)(h:wt b≤eA):Dg b=some (wB b):=by
 simp only[Dg,fA,wB]
 by_cases hl:b.length=64
 case neg=>
  rw[show((b.length:Int) !=64)=true from bne_iff_ne.2 (by omega),if_neg hl];rfl
 rw[show((b.length:Int) !=64)=false by simp[hl],if_pos hl,cond_false];have H7:FD b 64=XB b 64:=by simp[FD]
 refine(rF (X:=Int×List Int) (λx=>x.1) (λi=>((i:Int),FD b i)) (λ_=>rfl) 16 (by decide) (some (XB b 64)) 0 (by decide) (λi k _ hi=>?_) (λk=>?_))
 ·have tV:=yR b (i:=i) (by omega);obtain⟨v,hv⟩:=qU b (i:=i) (j:=i) (by omega) (by omega);simp only[decide_eq_true (p:=(i:Int)<16) (by omega),cond_true,zcK hi,tI,FA h,PD (show i<(FD b i).length by omega),Int.toNat_natCast,hv,lB,qF (i:=i) (by rw[IC];omega)];rw[BU b (by omega) _ (by rw[LH,if_pos hi])]
 ·simp only[show((16:Nat):Int)=16 from rfl,show decide ((16:Int)<16)=false from rfl,cond_false];refine(rF (X:=Int×List Int) (λx=>x.1) (λi=>((i:Int),FD b i)) (λ_=>rfl) 64 (by decide) (some (XB b 64)) 16 (by decide) (λi k R1 hi=>?_) (λk=>?_))
  ·have hm:i≤maxLen:=by rw[IC];omega
   have tV:=yR b (i:=i) (by omega);obtain⟨v,hv⟩:=qU b (i:=i) (j:=i) (by omega) (by omega);have e15:SA .i64 (i:Int) 15=((i - 15:Nat):Int):=PH (c:=15) hm (by omega);have e2:SA .i64 (i:Int) 2=((i - 2:Nat):Int):=PH (c:=2) hm (by omega);have e7:SA .i64 (i:Int) 7=((i - 7:Nat):Int):=PH (c:=7) hm (by omega);have e16:SA .i64 (i:Int) 16=((i - 16:Nat):Int):=PH (c:=16) hm (by omega)
   simp only[decide_eq_true (p:=(i:Int)<64) (by omega),cond_true,e15,e2,e7,e16,PD (show i - 15<(FD b i).length by omega),PD (show i - 2<(FD b i).length by omega),PD (show i - 7<(FD b i).length by omega),PD (show i - 16<(FD b i).length by omega),PD (show i<(FD b i).length by omega),Int.toNat_natCast,
    hO b (show i - 15<i by omega),hO b (show i - 2<i by omega),hO b (show i - 7<i by omega),hO b (show i - 16<i by omega),hv,lB,qD (show(1:Int)≤7∧(7:Int)≤31 by decide),qD (show(1:Int)≤18∧(18:Int)≤31 by decide),qD (show(1:Int)≤17∧(17:Int)≤31 by decide),qD (show(1:Int)≤19∧(19:Int)≤31 by decide),qF (i:=i) (by rw[IC];omega)]
   rw[BU b hi _ (by rw[LH,if_neg (by omega)];rfl)]
  ·simp only[show((64:Nat):Int)=64 from rfl,show decide ((64:Int)<64)=false from rfl,cond_false,H7]
def OJ.ok{x}(_:sA [.sl .byte] x){r}:KH x=some r→Dg x=some r:=YA λh=>zdj x h
def ze6(b:List UInt8)(j:Nat):YB ((wB b).getD j 0):=by
 unfold wB;split
 ·exact zb5 b 64 j
 ·simp;exact⟨by decide,by decide⟩
end Go.D
namespace Go.D
def zaT:DF.length=64:=by decide
def ziO:∀m:Fin 64,decide (0≤DF.getD m.val 0)&&decide (DF.getD m.val 0≤4294967295)=true:=by decide+kernel
def k_w{i:Nat}(h:i<64):YB (DF.getD i 0):=by
 have:=ziO ⟨i,h⟩;simp only[Bool.and_eq_true,decide_eq_true_eq]at this;exact this
def zdX{i:Nat}(h:i<64):MH (i:Int)=DF.getD i 0:=by
 rw[MH,if_pos (by omega),Int.toNat_natCast]
def W8(s:S8):Prop:=YB s.1∧YB s.2.1∧YB s.2.2.1∧YB s.2.2.2.1∧YB s.2.2.2.2.1∧YB s.2.2.2.2.2.1∧YB s.2.2.2.2.2.2.1∧YB s.2.2.2.2.2.2.2
def zhL(k w:Int){s:S8}(h:W8 s):W8 (ZQ k w s):=⟨fR _,h.1,h.2.1,h.2.2.1,fR _,h.2.2.2.2.1,h.2.2.2.2.2.1,h.2.2.2.2.2.2.1⟩
def zaG(w:List Int){s:S8}(h:W8 s):∀i,W8 (rounds w s i)
 | 0=>h
 | i+1=>zhL _ _ (zaG w h i)
def zN{a b:Int}{m n:Int}(ha:0≤a∧a≤m)(hb:0≤b∧b≤n)(h:m+n≤9223372036854775807):0≤mA .i64 a b∧mA .i64 a b≤m+n:=by
 rw[mA,sB (by omega) (by omega)];omega
def ziK:YB 4294967295:=⟨by decide,by decide⟩
def zmU{k w:Int}{s:S8}(hk:YB k)(hw:YB w)(h:W8 s):0≤rT k w s∧rT k w s≤21474836475:=by
 obtain⟨_,_,_,_,h5,h6,h7,h8⟩:=h;have a1:=cI (cI (ML s.2.2.2.2.1 6) (ML s.2.2.2.2.1 11)) (ML s.2.2.2.2.1 25);have a2:=cI (wN h5 h6) (wN (cI h5 ziK) h7);have b1:=zN h8 a1 (by decide);have b2:=zN b1 a2 (by decide);have b3:=zN b2 hk (by decide);exact zN b3 hw (by decide)
def zl6{s:S8}(h:W8 s):0≤rU s∧rU s≤8589934590:=by
 obtain⟨h1,h2,h3,_⟩:=h;exact zN (cI (cI (ML s.1 2) (ML s.1 13)) (ML s.1 22)) (cI (cI (wN h1 h2) (wN h1 h3)) (wN h2 h3)) (by decide)
def zbG{a b:Int}(ha:0≤a∧a≤1099511627776)(hb:0≤b∧b≤1099511627776):EC (mA .i64 a b)=EC (mA .i64 (EC a) (EC b)):=by
 have h1:=KQ a;have h2:=KQ b;rw[mA,mA,sB (by omega) (by omega),sB (by omega) (by omega),oN (by omega) (by omega),oN (a:=EC a+EC b) (by omega) (by omega),oN ha.1 (by omega),oN hb.1 (by omega)];omega
def ziL{a:Int}(h:YB a):EC a=a:=by
 rw[oN h.1 (Int.le_trans h.2 (by decide))];have:=h.1;have:=h.2;omega
def XG{h:List Int}(hw:BB h 8=true):h.length=8∧∀j,YB (h.getD j 0):=by
 simp only[BB,Bool.and_eq_true,beq_iff_eq,List.all_eq_true]at hw;refine⟨by omega,λj=>?_⟩
 by_cases hj:j<h.length
 ·rw[List.getD_eq_getElem?_getD,List.getElem?_eq_getElem hj];exact GD.1 (hw.1 _ (List.getElem_mem hj))
 ·rw[List.getD_eq_getElem?_getD,List.getElem?_eq_none (by omega)];exact⟨by decide,by decide⟩
def zjm{h:List Int}(hw:BB h 8=true):W8 (FC h):=by
 have:=(XG hw).2;exact⟨this 0,this 1,this 2,this 3,this 4,this 5,this 6,this 7⟩
def VP(h:List Int)(s:S8)(hl:h.length=8):(List.zipWith YD h (iF s)).length=8:=by
 rw[List.length_zipWith,hl];rfl
def zeV{h:List Int}(b:List UInt8)(hw:BB h 8=true):BB (MD h b) 8=true:=by
 have hl:=(XG hw).1;simp only[BB,Bool.and_eq_true,beq_iff_eq,List.all_eq_true];refine⟨λx hx=>?_,?_⟩
 ·obtain⟨i,hi,rfl⟩:=List.getElem_of_mem hx;have hi2:i<(List.zipWith YD h (iF (rounds (wB b) (FC h) 64))).length:=hi;show oA ((List.zipWith YD h (iF (rounds (wB b) (FC h) 64)))[i]'hi2) 0 4294967295=true
  rw[List.getElem_zipWith];exact GD.2 (KQ _)
 ·have:=VP h (rounds (wB b) (FC h) 64) hl;show((List.zipWith YD h (iF (rounds (wB b) (FC h) 64))).length:Int)=8
  omega
def zdQ{h:List Int}(b:List UInt8)(hw:BB h 8=true):BB (jH h b) 8=true:=by
 unfold jH;cases BB h 8&&b.length==64
 ·exact hw
 ·exact zeV b hw
def xU{b:List UInt8}(h:b.length=64):(wB b).length=64:=by
 rw[wB,if_pos h,bH]
def tD(h:List Int)(z:List Int)(i:Nat):List Int:=z.take i++h.drop i
def zfg{h z:List Int}(hl:h.length=z.length){i:Nat}(hi:i<z.length)(v:Int)(hv:v=z[i]):List.set (tD h z i) i v=tD h z (i+1):=by
 subst hv;have hi2:i<h.length:=by omega
 rw[tD,qP h hi2,AT _ _ _ _ (by rw[List.length_take];omega),tD,cH z hi,List.append_assoc];rfl
def RU{h z:List Int}(hl:h.length=z.length){i:Nat}(hi:i≤z.length):(tD h z i).length=z.length:=by
 rw[tD,List.length_append,List.length_take,List.length_drop];omega
def rD{l:List Int}{i:Nat}(h:i<l.length):vA l (i:Int)=some (l.getD i 0):=by rw[zaS,VE h]
def zhR(h:List Int)(s:S8)(hl:h.length=8){i:Nat}(hi:i<(List.zipWith YD h (iF s)).length):(List.zipWith YD h (iF s))[i]=YD (h.getD i 0) ((iF s).getD i 0):=by
 have h8:=VP h s hl;rw[List.getElem_zipWith,List.getD_eq_getElem?_getD,List.getD_eq_getElem?_getD,List.getElem?_eq_getElem (by omega),List.getElem?_eq_getElem (by show i<8;omega)];rfl
def JP{h:List Int}(b:List UInt8)(h8:h.length=8):(MD h b).length=8:=VP h _ h8
def zaQ{h:List Int}(b:List UInt8)(h8:h.length=8){i:Nat}(hi:i<8):List.set (tD h (MD h b) i) i (YD (h.getD i 0) ((iF (rounds (wB b) (FC h) 64)).getD i 0))=tD h (MD h b) (i+1):=
 zfg (by rw[JP b h8,h8]) (by rw[JP b h8];exact hi) _ (zhR h _ h8 (by rw[VP h _ h8];exact hi)).symm
def zdm(h:List Int)(b:List UInt8)(hh:wt h≤eA∧wt b≤eA):Dx h b=some (jH h b):=by
 have tV:h.length≤eA:=by rw[←sN];exact hh.1
 simp only[Dx,fA,List.nil_append,jH,xQ,KH,FA hh.2];rw[show decide (([]:List Int).length+h.length≤eA)=true from decide_eq_true (by simpa using tV)];simp only[cond_true];cases hw:BB h 8
 ·rfl
 by_cases hb:b.length=64
 case neg=>
  rw[show((b.length:Int) !=64)=true from bne_iff_ne.2 (by omega),beq_false_of_ne hb];rfl
 rw[show((b.length:Int) !=64)=false by simp[hb],show(b.length==64)=true by simp[hb]];obtain⟨h8,hW⟩:=XG hw;have i0:vA h 0=some (h.getD 0 0):=rD (i:=0) (by omega);have i1:vA h 1=some (h.getD 1 0):=rD (i:=1) (by omega);have i2:vA h 2=some (h.getD 2 0):=rD (i:=2) (by omega);have i3:vA h 3=some (h.getD 3 0):=rD (i:=3) (by omega);have i4:vA h 4=some (h.getD 4 0):=rD (i:=4) (by omega);have i5:vA h 5=some (h.getD 5 0):=rD (i:=5) (by omega);have i6:vA h 6=some (h.getD 6 0):=rD (i:=6) (by omega);have i7:vA h 7=some (h.getD 7 0):=rD (i:=7) (by omega);simp only[Bool.not_true,cond_false,Bool.and_true,cond_true,i0,i1,i2,i3,i4,i5,i6,i7,lB];have rY:=xU hb;refine rF (λx=>x.2.2.2.2.2.2.2.2) (λi=>((rounds (wB b) (FC h) i).1,(rounds (wB b) (FC h) i).2.1,(rounds (wB b) (FC h) i).2.2.1,(rounds (wB b) (FC h) i).2.2.2.1,(rounds (wB b) (FC h) i).2.2.2.2.1,(rounds (wB b) (FC h) i).2.2.2.2.2.1,(rounds (wB b) (FC h) i).2.2.2.2.2.2.1,(rounds (wB b) (FC h) i).2.2.2.2.2.2.2,(i:Int))) (λ_=>rfl) 64 (by decide) (some (MD h b)) 0 (by decide) (λi k _ hi=>?_) (λk=>?_)
 ·simp only[decide_eq_true (p:=(i:Int)<64) (by omega),cond_true,Int.toNat_natCast,PD (show i<DF.length by rw[zaT];exact hi),PD (show i<(wB b).length by omega),VE (show i<DF.length by rw[zaT];exact hi),VE (show i<(wB b).length by omega),lB,
   qD (show(1:Int)≤6∧(6:Int)≤31 by decide),qD (show(1:Int)≤11∧(11:Int)≤31 by decide),qD (show(1:Int)≤25∧(25:Int)≤31 by decide),qD (show(1:Int)≤2∧(2:Int)≤31 by decide),qD (show(1:Int)≤13∧(13:Int)≤31 by decide),qD (show(1:Int)≤22∧(22:Int)≤31 by decide),qF (i:=i) (by rw[IC];omega)]
  rfl
 ·simp only[show((64:Nat):Int)=64 from rfl,show decide ((64:Int)<64)=false from rfl,cond_false];have FZ:=JP b h8;refine rF (X:=Int×List Int) (λx=>x.1) (λi=>((i:Int),tD h (MD h b) i)) (λ_=>rfl) 8 (by decide) (some (MD h b)) 0 (by decide) (λi k _ hi=>?_) (λk=>?_)
  ·have A4:(tD h (MD h b) i).length=8:=by rw[RU (by rw[FZ,h8]) (by rw[FZ];omega),FZ]
   have P1:i<(iF (rounds (wB b) (FC h) 64)).length:=hi;have ho:(tD h (MD h b) i)[i]?=some ((tD h (MD h b) i).getD i 0):=VE (by omega);simp only[decide_eq_true (p:=(i:Int)<8) (by omega),cond_true,rD (show i<h.length by omega),lB,PD (show i<(tD h (MD h b) i).length by omega),ho,Int.toNat_natCast,qF (i:=i) (by rw[IC];omega)];have e1:=PD P1;have e2:=VE P1;unfold iF at e1 e2;rw[e1,cond_true,e2,lB];exact congrArg (λl=>k (((i+1:Nat):Int),l)) (zaQ b h8 hi)
  ·simp only[show((8:Nat):Int)=8 from rfl,show decide ((8:Int)<8)=false from rfl,cond_false];rw[tD,List.take_of_length_le (by rw[FZ];exact Nat.le_refl _),List.drop_eq_nil_of_le (by omega),List.append_nil]
def KJ.ok{x}(_:sA [.sl .int, .sl .byte] x){r}:dH x.1 x.2=some r→Dx x.1 x.2=some r:=YA λh=>zdm x.1 x.2 h
def zf1{k w:Int}{s:S8}(hk:YB k)(hw:YB w)(h:W8 s):ZQ k w s=(YD (rT k w s) (rU s),s.1,s.2.1,s.2.2.1,YD s.2.2.2.1 (rT k w s),s.2.2.2.2.1,s.2.2.2.2.2.1,s.2.2.2.2.2.2.1):=by
 have ht:=zmU hk hw h;have hu:=zl6 h;have hd:=h.2.2.2.1;rw[ZQ,YD,YD,zbG (a:=rT k w s) (b:=rU s) ⟨ht.1,by omega⟩ ⟨hu.1,by omega⟩,zbG (a:=s.2.2.2.1) (b:=rT k w s) ⟨hd.1,Int.le_trans hd.2 (by decide)⟩ ⟨ht.1,by omega⟩,ziL hd]
def zdn(h:List Int)(b:List UInt8)(hh:wt h≤eA∧wt b≤eA):Dh h b=some (jH h b):=by
 have tV:h.length≤eA:=by rw[←sN];exact hh.1
 simp only[Dh,fA,List.nil_append,jH,KH,FA hh.2];rw[show decide (([]:List Int).length+h.length≤eA)=true from decide_eq_true (by simpa using tV)];simp only[cond_true];cases hw:BB h 8
 ·rfl
 by_cases hb:b.length=64
 case neg=>
  rw[show((b.length:Int) !=64)=true from bne_iff_ne.2 (by omega),beq_false_of_ne hb];rfl
 rw[show((b.length:Int) !=64)=false by simp[hb],show(b.length==64)=true by simp[hb]];obtain⟨h8,hW⟩:=XG hw;have i0:vA h 0=some (h.getD 0 0):=rD (i:=0) (by omega);have i1:vA h 1=some (h.getD 1 0):=rD (i:=1) (by omega);have i2:vA h 2=some (h.getD 2 0):=rD (i:=2) (by omega);have i3:vA h 3=some (h.getD 3 0):=rD (i:=3) (by omega);have i4:vA h 4=some (h.getD 4 0):=rD (i:=4) (by omega);have i5:vA h 5=some (h.getD 5 0):=rD (i:=5) (by omega);have i6:vA h 6=some (h.getD 6 0):=rD (i:=6) (by omega);have i7:vA h 7=some (h.getD 7 0):=rD (i:=7) (by omega);simp only[Bool.not_true,cond_false,Bool.and_true,cond_true,i0,i1,i2,i3,i4,i5,i6,i7,lB];have rY:=xU hb;refine rF (λx=>x.2.2.2.2.2.2.2.2) (λi=>((rounds (wB b) (FC h) i).1,(rounds (wB b) (FC h) i).2.1,(rounds (wB b) (FC h) i).2.2.1,(rounds (wB b) (FC h) i).2.2.2.1,(rounds (wB b) (FC h) i).2.2.2.2.1,(rounds (wB b) (FC h) i).2.2.2.2.2.1,(rounds (wB b) (FC h) i).2.2.2.2.2.2.1,(rounds (wB b) (FC h) i).2.2.2.2.2.2.2,(i:Int))) (λ_=>rfl) 64 (by decide) (some (MD h b)) 0 (by decide) (λi k _ hi=>?_) (λk=>?_)
 ·have hs:=zf1 (k_w hi) (ze6 b i) (zaG (wB b) (zjm hw) i)
  simp only[decide_eq_true (p:=(i:Int)<64) (by omega),cond_true,Int.toNat_natCast,PD (show i<(wB b).length by omega),VE (show i<(wB b).length by omega),lB,zdX hi,zga 4294967295,
   qD (show(1:Int)≤6∧(6:Int)≤31 by decide),qD (show(1:Int)≤11∧(11:Int)≤31 by decide),qD (show(1:Int)≤25∧(25:Int)≤31 by decide),qD (show(1:Int)≤2∧(2:Int)≤31 by decide),qD (show(1:Int)≤13∧(13:Int)≤31 by decide),qD (show(1:Int)≤22∧(22:Int)≤31 by decide),qF (i:=i) (by rw[IC];omega)]
  rw[rounds,hs];rfl
 ·simp only[show((64:Nat):Int)=64 from rfl,show decide ((64:Int)<64)=false from rfl,cond_false];have FZ:=JP b h8;refine rF (X:=Int×List Int) (λx=>x.1) (λi=>((i:Int),tD h (MD h b) i)) (λ_=>rfl) 8 (by decide) (some (MD h b)) 0 (by decide) (λi k _ hi=>?_) (λk=>?_)
  ·have A4:(tD h (MD h b) i).length=8:=by rw[RU (by rw[FZ,h8]) (by rw[FZ];omega),FZ]
   have P1:i<(iF (rounds (wB b) (FC h) 64)).length:=hi;have ho:(tD h (MD h b) i)[i]?=some ((tD h (MD h b) i).getD i 0):=VE (by omega);simp only[cond_true,rD (show i<h.length by omega),lB,PD (show i<(tD h (MD h b) i).length by omega),ho,Int.toNat_natCast,qF (i:=i) (by rw[IC];omega)];have e0:=bD P1;have e1:=PD P1;have e2:=VE P1;unfold iF at e0 e1 e2;rw[e0,cond_true,show decide ((0:Int)≤(i:Int))=true from decide_eq_true (by omega),Bool.and_true,cond_true,e2,lB];exact congrArg (λl=>k (((i+1:Nat):Int),l)) (zaQ b h8 hi)
  ·simp only[List.length_cons,List.length_nil];rw[show decide (((8:Nat):Int)<((0+1+1+1+1+1+1+1+1:Nat):Int))=false from rfl,cond_false];rw[tD,List.take_of_length_le (by rw[FZ];exact Nat.le_refl _),List.drop_eq_nil_of_le (by omega),List.append_nil]
def LJ.ok{x}(_:sA [.sl .int, .sl .byte] x){r}:dH x.1 x.2=some r→Dh x.1 x.2=some r:=YA λh=>zdn x.1 x.2 h
end Go.D
namespace Go.D
def GH:∀(n:Nat) (h:List Int) (b:List UInt8),BB h 8=true→BB (xB h n b) 8=true
 | 0,h,b,hw=>hw
 | n+1,h,b,hw=>GH n _ _ (zdQ _ hw)
def HR:∀(n:Nat) (h:List Int) (b:List UInt8),xB h (n+1) b=jH (xB h n b) ((b.drop (64 *n)).take 64)
 | 0,h,b=>rfl
 | n+1,h,b=>by
  rw[xB,HR n,xB,List.drop_drop];rw[show 64+64 *n=64 *(n+1) by omega]
def VU:∀(m k:Nat) (h:List Int) (b:List UInt8),xB h (m+k) b=xB (xB h m b) k (b.drop (64 *m))
 | 0,k,h,b=>by simp[xB]
 | m+1,k,h,b=>by
  rw[show m+1+k=(m+k)+1 by omega,xB,VU m k,xB,List.drop_drop,show 64+64 *m=64 *(m+1) by omega]
def zad:∀(m:Nat) (h:List Int) (b p:List UInt8),64 *m≤b.length→xB h m (b++p)=xB h m b
 | 0,h,b,p,_=>rfl
 | m+1,h,b,p,hl=>by
  rw[xB,xB,List.take_append_of_le_length (by omega),List.drop_append_of_le_length (by omega),zad m _ _ _ (by rw[List.length_drop];omega)]
def RQ{h:List Int}(hw:BB h 8=true):wt h≤eA:=by
 rw[sN,(XG hw).1,HB];decide
def zfj(l:List UInt8)(h:64≤l.length):List.take (((l.length:Int) - 64).toNat) (List.drop 64 l)=l.drop 64:=by
 rw[List.take_of_length_le];rw[List.length_drop];omega
def za0(n:Nat):64 *(n / 64)≤n:=Nat.mul_div_le n 64
def zda(h:List Int)(b:List UInt8)(hb:wt b≤eA)(hw:BB h 8=true):Di h b=some (xB h (b.length / 64) b,b.drop (64 *(b.length / 64))):=by
 have hl:b.length≤eA:=by rw[←LA];exact hb
 simp only[Di,fA];refine zE (g:=λ_=>some (xB h (b.length / 64) b,b.drop (64 *(b.length / 64)))) (λx=>∃i:Nat,64 *i≤b.length∧x=(xB h i b,b.drop (64 *i))) (λx=>x.2.length) (λx hx k hk=>?_) (x:=(h,b)) ⟨0,Nat.zero_le _,by simp[xB]⟩ (by show b.length<2^64;rw[HB]at hl;omega);obtain⟨i,hi,rfl⟩:=hx;have I7:(b.drop (64 *i)).length=b.length - 64 *i:=List.length_drop;have hds:=US b (64 *i)
 by_cases GW:64 *(i+1)≤b.length
 ·have e1:decide (((b.drop (64 *i)).length:Int)≥64)=true:=decide_eq_true (by omega);have e2:(decide ((0:Int)≤0)&&decide ((0:Int)≤64)&&true)=true:=rfl;have e3:(decide ((0:Int)≤64)&&true&&decide (((b.drop (64 *i)).length:Int)≤((b.drop (64 *i)).length:Int)))=true:=by simp
  have hZ:=hk (xB h (i+1) b,b.drop (64 *(i+1))) ⟨i+1,GW,rfl⟩ (by show(b.drop (64 *(i+1))).length<(b.drop (64 *i)).length;rw[List.length_drop,List.length_drop];omega);rw[HR,show 64 *(i+1)=64 *i+64 by omega, ←List.drop_drop]at hZ;simp only[e1,e2,e3,cond_true,List.drop_zero,dH,FA (p:=wt (xB h i b)≤eA∧wt ((b.drop (64 *i)).take 64)≤eA) ⟨RQ (GH i h b hw),Nat.le_trans (OS _ _) (Nat.le_trans hds hb)⟩,zfj _ (show 64≤(b.drop (64 *i)).length by omega)];exact hZ
 ·have e1:decide (((b.drop (64 *i)).length:Int)≥64)=false:=decide_eq_false (by omega);have:i=b.length / 64:=by omega
  simp only[e1,cond_false, ←this]
def wJ.ok{x}(_:sA [.sl .int, .sl .byte] x){r}:UL x.1 x.2=some r→Di x.1 x.2=some r:=YA λh=>zda x.1 x.2 h.2.2 h.2.1
def DM(n:Int):∀i,(wE n i).length=i
 | 0=>rfl
 | i+1=>by rw[wE,List.length_cons,DM n i]
def SQ(b:List UInt8)(n:Int):qG b n 4=b++wE n 4:=rfl
def zkH(b:List UInt8)(n:Int):qG b n 6=b++wE n 6:=rfl
def lU(h:List Int){i:Nat}(hi:i<h.length):DD (h.take (i+1))=DD (h.take i)++wE (h.getD i 0) 4:=by
 rw[DD,cH h hi,List.flatMap_append];simp[DD,List.getD_eq_getElem?_getD,hi]
def bO:∀h:List Int,(DD h).length=4 *h.length
 | []=>rfl
 | x :: h=>by
  rw[DD,List.flatMap_cons,List.length_append,DM,List.length_cons];have:=bO h;rw[DD]at this;omega
def zde(h:List Int)(h8:h.length=8):Dl h=some (DD h):=by
 have hL:=HB;simp only[Dl,fA];refine rF (X:=List UInt8×Int) (λx=>x.2) (λi=>(DD (h.take i),(i:Int))) (λ_=>rfl) h.length (by rw[h8];decide) _ 0 (Nat.zero_le _) (λi k _ hi=>?_) (λk=>by simp only[sD,cond_false,List.take_length]);have J7:=bO (h.take i);rw[List.length_take]at J7;simp only[bD hi,cond_true,rD hi,lB,TD,FA (p:=wt (DD (h.take i))+6≤eA) (by rw[LA];omega),SQ,qF (i:=i) (by rw[IC];omega),lU h hi]
def DJ.ok{x}(_:sA [.sl .int] x){r}:ZG x=some r→Dl x=some r:=YA λh=>zde x h
def zdT(h:List Int)(h8:h.length=8):Dy h=some (DD h):=by
 have hL:=HB;simp only[Dy,fA];refine rF (X:=List UInt8×Int) (λx=>x.2) (λi=>(DD (h.take i),(i:Int))) (λ_=>rfl) 8 (by decide) _ 0 (Nat.zero_le _) (λi k _ hi=>?_) (λk=>?_)
 ·have J7:=bO (h.take i);rw[List.length_take]at J7;simp only[decide_eq_true (p:=(i:Int)<8) (by omega),cond_true,rD (show i<h.length by omega),lB,TD,FA (p:=wt (DD (h.take i))+6≤eA) (by rw[LA];omega),SQ,qF (i:=i) (by rw[IC];omega),lU h (show i<h.length by omega)]
 ·simp only[show((8:Nat):Int)=8 from rfl,show decide ((8:Int)<8)=false from rfl,cond_false];rw[List.take_of_length_le (by omega)]
def JK.ok{x}(_:sA [.sl .int] x){r}:ZG x=some r→Dy x=some r:=YA λh=>zdT x h
def zai:(UInt8.ofNat (0:Int).toNat)=0:=rfl
def zaO(n:Nat)(hn:n≤1048576)(z:List UInt8→Option (List UInt8)):yA FU (λ(x5:(List UInt8)) k6=>cond ((OC .i64 (mA .i64 (mA .i64 (n:Int) (x5.length:Int)) 8) 64) !=0)
  (cond (decide (x5.length+[UInt8.ofNat (0:Int).toNat].length≤eA)) (k6 (x5++[UInt8.ofNat (0:Int).toNat])) none) (z x5)) [UInt8.ofNat (128:Int).toNat]=z (128 :: List.replicate (LD n) 0):=by
 have hz:LD n<64:=Nat.mod_lt _ (by decide);have hL:=HB;refine zE (g:=λ_=>z (128 :: List.replicate (LD n) 0)) (λx=>∃j:Nat,j≤LD n∧x=128 :: List.replicate j 0) (λx=>LD n+1 - x.length) (λx hx k hk=>?_) ⟨0,Nat.zero_le _,rfl⟩ (by show LD n+1 - 1<2^64;omega);obtain⟨j,hj,rfl⟩:=hx
 have e1:mA .i64 (mA .i64 (n:Int) (((128 :: List.replicate j 0:List UInt8).length:Nat):Int)) 8=((n+(j+1)+8:Nat):Int):=by
  rw[List.length_cons,List.length_replicate];have a1:mA .i64 (n:Int) ((j+1:Nat):Int)=((n+(j+1):Nat):Int):=by rw[mA,sB (by omega) (by omega)];omega
  rw[a1,mA,sB (by omega) (by omega)];omega
 have e2:OC .i64 ((n+(j+1)+8:Nat):Int) 64=(((n+(j+1)+8) % 64:Nat):Int):=qL _ 64;simp only[e1,e2]
 rcases Nat.lt_or_eq_of_le hj with vV | rfl
 ·have:(n+(j+1)+8) % 64≠0:=by unfold LD at vV;omega
  rw[show((((n+(j+1)+8) % 64:Nat):Int) !=0)=true from bne_iff_ne.2 (by omega),cond_true,ZE (by simp;omega),cond_true];refine hk _ ⟨j+1,vV,?_⟩ (by simp;omega);rw[zai,List.cons_append,List.replicate_succ']
 ·have:(n+(LD n+1)+8) % 64=0:=by unfold LD;omega
  rw[this];rfl
def zhJ(n:Nat)(hn:n≤1048576):wE ((8 *n:Nat):Int) 6=[0,0]++wE ((8 *n:Nat):Int) 4:=by
 have h5:aE .i64 ((8 *n:Nat):Int) (mC .i64 8 ((5:Nat):Int))=0:=by
  show Int.fdiv ((8 *n:Nat):Int) 1099511627776=0
  rw[Int.fdiv_eq_ediv_of_nonneg _ (by decide)];omega
 have h4:aE .i64 ((8 *n:Nat):Int) (mC .i64 8 ((4:Nat):Int))=0:=by
  show Int.fdiv ((8 *n:Nat):Int) 4294967296=0
  rw[Int.fdiv_eq_ediv_of_nonneg _ (by decide)];omega
 rw[wE,wE];rw[show eJ ((8 *n:Nat):Int) 5=0 by rw[eJ,h5];rfl,show eJ ((8 *n:Nat):Int) 4=0 by rw[eJ,h4];rfl];rfl
def zcF{n:Nat}(h:n≤1048576):mC .i64 8 (n:Int)=((8 *n:Nat):Int):=by
 rw[show mC .i64 8 (n:Int)=IntKind.wrap .i64 (8 *(n:Int))from rfl,sB (by omega) (by omega)];omega
def HM(n:Nat):(128 :: List.replicate (LD n) 0:List UInt8).length=LD n+1:=by simp
def zen(n:Nat)(hn:n≤1048576):Ds (n:Int)=some (ZB n):=by
 have hz:LD n<64:=Nat.mod_lt _ (by decide);have hL:=HB;simp only[Ds,fA,decide_eq_false (p:=(n:Int)<0) (by omega),decide_eq_false (p:=(n:Int)>1048576) (by omega),cond_false];rw[zaO n hn];simp only[TD,FA (p:=wt (128 :: List.replicate (LD n) 0:List UInt8)+6≤eA) (by rw[LA,HM];omega),SQ,zcF hn];rw[FA (by rw[LA,List.length_append,HM,DM];omega),ZB,List.append_assoc];rfl
def kL.ok{x}(_:sA [.v .int] x){r}:uI x=some r→Ds x=some r:=YA λh=>by
 obtain⟨n,hn⟩:=kE h.1;have hn:x=(n:Int):=hn;have h2:(x:Int)≤1048576:=h.2;subst hn;exact zen n (by omega)
def zeb(n:Nat)(hn:n≤1048576):Dk (n:Int)=some (ZB n):=by
 have hz:LD n<64:=Nat.mod_lt _ (by decide);have hL:=HB;have UV:oA (n:Int) 0 1048576=true:=GD.2 ⟨by omega,by omega⟩;simp only[Dk,fA,UV,Bool.not_true,cond_false];rw[zaO n hn (λy1=>cond (decide (y1.length+[UInt8.ofNat (0:Int).toNat,UInt8.ofNat (0:Int).toNat].length≤eA)) (Option.bind (TD (y1++[UInt8.ofNat (0:Int).toNat,UInt8.ofNat (0:Int).toNat]) (mC .i64 8 (n:Int)) 6) λr7=>some r7) none)];rw[ZE (by rw[HM];simp;omega),cond_true,TD,FA (by rw[LA,List.length_append,HM];simp;omega),zkH,zcF hn,zhJ n hn,ZB,List.append_assoc];rfl
def fL.ok{x}(_:sA [.v .int] x){r}:uI x=some r→Dk x=some r:=YA λh=>by
 obtain⟨n,hn⟩:=kE h.1;have hn:x=(n:Int):=hn;have h2:(x:Int)≤1048576:=h.2;subst hn;exact zeb n (by omega)
def XS(n:Nat):(ZB n).length=LD n+9:=by
 rw[ZB,List.length_append,HM,List.length_append,DM];rfl
def zf2(n:Nat):(n+(ZB n).length) % 64=0:=by
 rw[XS];unfold LD;omega
def oO.ok{x}(_:sA [] x):Gz=some YI:=rfl
def zfc(h:Au):Db h=some (CE h):=by
 simp only[Db,fA,HC,Bool.cond_false_right,CE,Bool.and_assoc]
def pK.ok{x}(_:sA [.v .Hash] x):Db x=some (CE x):=zfc x
def ZU{h:Au}(hk:CE h=true):BB h.H 8=true∧0≤h.N∧h.N≤1048576∧h.Held.length<64∧∃n:Nat,h.N=(n:Int)∧n % 64=h.Held.length:=by
 simp only[CE,Bool.and_eq_true,GD,beq_iff_eq]at hk;obtain⟨⟨h1,h2⟩,h3⟩:=hk;obtain⟨n,hn⟩:=kE h2.1;rw[hn,show OC .i64 (n:Int) 64=((n % 64:Nat):Int)from qL n 64]at h3;exact⟨h1,h2.1,h2.2,by omega,n,hn,by omega⟩
def zfh{h:List Int}(hw:BB h 8=true):decide (([]:List Int).length+h.length≤eA)=true:=by
 have:=(XG hw).1;rw[this];decide
def nL(a b:List UInt8):([a,b]:List (List UInt8)).flatten=a++b:=by simp
def FL(a b:List UInt8):wt ([a,b]:List (List UInt8))=a.length+b.length+2:=by
 rw[HD,HD,eG,LA,LA];omega
def zdq(h:Au)(b:List UInt8)(hk:CE h=true)(hb:(b.length:Int)≤1048576 - h.N):
  Dj h b=some ⟨xB h.H ((h.Held++b).length / 64) (h.Held++b),(h.Held++b).drop (64 *((h.Held++b).length / 64)),h.N+b.length⟩:=by
 obtain⟨hw,n0,n1,hl,_⟩:=ZU hk;have hL:=HB;have U4:wt (h.Held++b)≤eA:=by rw[LA,List.length_append];omega
 have e1:SA .i64 1048576 h.N=1048576 - h.N:=by rw[SA,sB (by omega) (by omega)]
 have e2:mA .i64 h.N (b.length:Int)=h.N+b.length:=by rw[mA,sB (by omega) (by omega)]
 simp only[Dj,fA,hk,Bool.not_true,cond_false,e1,decide_eq_false (p:=(b.length:Int)>1048576 - h.N) (by omega),AE,FA (p:=wt ([h.Held,b]:List (List UInt8))≤eA) (by rw[FL];omega),nL,UL,
  FA (p:=wt h.H≤eA∧BB h.H 8=true∧wt (h.Held++b)≤eA) ⟨RQ hw,hw,U4⟩,zfh (GH ((h.Held++b).length / 64) h.H (h.Held++b) hw),cond_true,lE,FA (p:=wt ((h.Held++b).drop (64 *((h.Held++b).length / 64)))≤eA) (Nat.le_trans (US _ _) U4),List.nil_append,e2]
def dK.ok{x}(_:sA [.v .Hash, .sl .byte] x){r}:QP x.1 x.2=some r→Dj x.1 x.2=some r:=YA λh=>zdq x.1 x.2 h.1 h.2
def zdv(h:Au)(hk:CE h=true):Dm h=some (DD (xB h.H ((h.Held++ZB h.N.toNat).length / 64) (h.Held++ZB h.N.toNat))):=by
 obtain⟨hw,n0,n1,hl,n,hn,_⟩:=ZU hk;have hL:=HB;have hp:=XS h.N.toNat;have hz:LD h.N.toNat<64:=Nat.mod_lt _ (by decide);have U4:wt (h.Held++ZB h.N.toNat)≤eA:=by rw[LA,List.length_append];omega
 have hbw:=GH ((h.Held++ZB h.N.toNat).length / 64) h.H (h.Held++ZB h.N.toNat) hw
 simp only[Dm,hk,Bool.not_true,cond_false,uI,FA (p:=0≤h.N∧h.N≤1048576) ⟨n0,n1⟩,AE,FA (p:=wt ([h.Held,ZB h.N.toNat]:List (List UInt8))≤eA) (by rw[FL];omega),nL,UL,
  FA (p:=wt h.H≤eA∧BB h.H 8=true∧wt (h.Held++ZB h.N.toNat)≤eA) ⟨RQ hw,hw,U4⟩,ZG,FA (XG hbw).1]
def TJ.ok{x}(_:sA [.v .Hash] x){r}:HP x=some r→Dm x=some r:=YA λh=>zdv x h
def sO:BB TC 8=true:=by decide
def zi0:CE YI=true:=by decide
def zg1(b:List UInt8)(hb:b.length≤1048576):
  xB (xB TC (b.length / 64) b) ((b.drop (64 *(b.length / 64))++ZB b.length).length / 64) (b.drop (64 *(b.length / 64))++ZB b.length)=xB TC ((b++ZB b.length).length / 64) (b++ZB b.length):=by
 have hd:=za0 b.length;have h1:(b.drop (64 *(b.length / 64))++ZB b.length).length=b.length - 64 *(b.length / 64)+(ZB b.length).length:=by rw[List.length_append,List.length_drop]
 have h2:(b++ZB b.length).length / 64=b.length / 64+(b.drop (64 *(b.length / 64))++ZB b.length).length / 64:=by rw[h1,List.length_append];omega
 rw[h2,VU,zad _ _ _ _ hd,List.drop_append_of_le_length hd]
def zes(b:List UInt8):Dn b=some (YC b):=by
 simp only[Dn,YC]
 by_cases h:(b.length:Int)>1048576
 ·rw[decide_eq_true h];rfl
 rw[decide_eq_false h];simp only[cond_false,QP];rw[FA ⟨zi0,by show(b.length:Int)≤1048576 - 0;omega⟩];have e0:YI.Held++b=b:=rfl;have en:YI.N+(b.length:Int)=(b.length:Int):=Int.zero_add _;have eh:YI.H=TC:=rfl;rw[e0,en,eh];have I7:=za0 b.length
 have EV:CE ⟨xB TC (b.length / 64) b,b.drop (64 *(b.length / 64)),(b.length:Int)⟩=true:=by
  simp only[CE,Bool.and_eq_true,GD,beq_iff_eq];refine⟨⟨GH _ _ _ sO,by omega,by omega⟩,?_⟩;rw[show OC .i64 (b.length:Int) 64=((b.length % 64:Nat):Int)from qL _ 64,List.length_drop];omega
 rw[HP,FA EV,Int.toNat_natCast,zg1 b (by omega)];rfl
def sL.ok{x}(_:sA [.sl .byte] x):Dn x=some (YC x):=zes x
def zhd(all:List UInt8)(d9:wt all≤eA)(hm:64 *(all.length / 64)=all.length):yA FU (λ(x5:(List Int)×Int) k6=>cond (decide (x5.2<(all.length:Int)))
  (cond (decide (0≤x5.2)&&decide (x5.2≤(mA .i64 x5.2 64))&&decide ((mA .i64 x5.2 64)≤(all.length:Int))) (Option.bind (dH x5.1 (List.take ((mA .i64 x5.2 64 - x5.2).toNat) (List.drop x5.2.toNat all))) λr7=>k6 (r7,(mA .i64 x5.2 64))) none)
  (Option.bind (ZG x5.1) λr8=>some r8)) (TC,0)=some (DD (xB TC (all.length / 64) all)):=by
 have hL:=HB;have hla:all.length≤eA:=by rw[←LA];exact d9
 refine zE (g:=λ_=>some (DD (xB TC (all.length / 64) all))) (λx=>∃i:Nat,64 *i≤all.length∧x=(xB TC i all,((64 *i:Nat):Int))) (λx=>all.length - x.2.toNat) (λx hx k hk=>?_) (x:=(TC,0)) ⟨0,Nat.zero_le _,rfl⟩ (by show all.length - Int.toNat 0<2^64;simp;omega);obtain⟨i,hi,rfl⟩:=hx
 by_cases vV:64 *i<all.length
 ·have GW:64 *(i+1)≤all.length:=by omega
  have e1:mA .i64 ((64 *i:Nat):Int) 64=((64 *(i+1):Nat):Int):=by rw[mA,sB (by omega) (by omega)];omega
  have e2:(decide ((0:Int)≤((64 *i:Nat):Int))&&decide (((64 *i:Nat):Int)≤((64 *(i+1):Nat):Int))&&decide (((64 *(i+1):Nat):Int)≤(all.length:Int)))=true:=by simp;omega
  have e3:(((64 *(i+1):Nat):Int) - ((64 *i:Nat):Int)).toNat=64:=by omega
  have hZ:=hk (xB TC (i+1) all,((64 *(i+1):Nat):Int)) ⟨i+1,GW,rfl⟩ (by simp only[Int.toNat_natCast];omega);rw[HR]at hZ;simp only[bD vV,cond_true,e1,e2,e3,Int.toNat_natCast,dH,FA (p:=wt (xB TC i all)≤eA∧wt ((all.drop (64 *i)).take 64)≤eA) ⟨RQ (GH i TC all sO),Nat.le_trans (OS _ _) (Nat.le_trans (US _ _) d9)⟩];exact hZ
 ·have hi2:i=all.length / 64:=by omega
  have e1:decide (((64 *i:Nat):Int)<(all.length:Int))=false:=decide_eq_false (by omega);simp only[e1,cond_false,ZG,FA (XG (GH i TC all sO)).1, ←hi2]
def zec(b:List UInt8):Dz b=some (YC b):=by
 have hL:=HB;simp only[Dz,fA,YC,List.nil_append]
 by_cases h:(b.length:Int)>1048576
 ·rw[decide_eq_true h];rfl
 rw[decide_eq_false h];have hp:=XS b.length;have hz:LD b.length<64:=Nat.mod_lt _ (by decide);have hwh:=zf2 b.length;have hal:(b++ZB b.length).length=b.length+(ZB b.length).length:=List.length_append;simp only[cond_false];rw[xL (show b.length≤eA by omega),cond_true,uI,FA ⟨by omega,by omega⟩,Int.toNat_natCast,ZE (by omega),cond_true,IQ];exact zhd (b++ZB b.length) (by rw[LA];omega) (by omega)
def rL.ok{x}(_:sA [.sl .byte] x):Dz x=some (YC x):=zec x
def SU(b:List UInt8):(IQ b).length=32:=by
 rw[IQ,bO,(XG (GH _ TC _ sO)).1]
def JQ(b:List UInt8):(YC b).length≤32:=by
 unfold YC;cases decide ((b.length:Int)>1048576)
 ·exact Nat.le_of_eq (SU b)
 ·exact Nat.zero_le _
def zih{b:List UInt8}(h:b.length≤1048576):(YC b).length=32:=by
 rw[YC,decide_eq_false (by omega)];exact SU b
end Go.D
namespace Go.D
def JO(l:List UInt8):yA FU (λ(x6:(List UInt8)) k7=>cond (decide ((x6.length:Int)<64)) (cond (decide (x6.length+[UInt8.ofNat (0:Int).toNat].length≤eA)) (k7 (x6++[UInt8.ofNat (0:Int).toNat])) none) (some x6)) l=some (KN l):=by
 have hL:=HB;refine zE (g:=λ_=>some (KN l)) (λx=>∃j:Nat,j≤64 - l.length∧x=l++List.replicate j 0) (λx=>64 - x.length) (λx hx k hk=>?_) ⟨0,Nat.zero_le _,by simp⟩ (by show 64 - l.length<2^64;omega);obtain⟨j,hj,rfl⟩:=hx;have tV:(l++List.replicate j (0:UInt8)).length=l.length+j:=by simp
 by_cases vV:l.length+j<64
 ·rw[decide_eq_true (p:=((l++List.replicate j (0:UInt8)).length:Int)<64) (by omega),cond_true,ZE (by rw[tV];simp;omega),cond_true];refine hk _ ⟨j+1,by omega,?_⟩ (by simp;omega);rw[zai,List.append_assoc, ←List.replicate_succ']
 ·rw[decide_eq_false (p:=((l++List.replicate j (0:UInt8)).length:Int)<64) (by omega),cond_false,KN];have:j=64 - l.length:=by omega
  rw[this]
def zdg(b:List UInt8):Ea b=some (xC b):=by
 have hL:=HB;simp only[Ea,fA,xC,List.nil_append]
 by_cases h:(b.length:Int)>1048576
 ·rw[decide_eq_true h];rfl
 rw[decide_eq_false h,xL (show b.length≤eA by omega)];simp only[cond_false,cond_true];cases decide ((b.length:Int)>64)
 ·exact JO b
 ·exact JO (YC b)
def MJ.ok{x}(_:sA [.sl .byte] x):Ea x=some (xC x):=zdg x
def zdf(b:List UInt8):Do b=some (xC b):=by
 have hL:=HB;simp only[Do,fA,xC,lE]
 by_cases h:(b.length:Int)>1048576
 ·rw[decide_eq_true h];rfl
 rw[decide_eq_false h,FA (p:=wt b≤eA) (by rw[LA];omega)];simp only[cond_false];cases decide ((b.length:Int)>64)
 ·exact JO b
 ·exact JO (YC b)
def JJ.ok{x}(_:sA [.sl .byte] x):Do x=some (xC x):=zdf x
def CR{b:List UInt8}(h:b.length≤1048576):(xC b).length=64:=by
 rw[xC,decide_eq_false (by omega),cond_false,KN,List.length_append,List.length_replicate];cases hd:decide ((b.length:Int)>64)
 ·have:=of_decide_eq_false hd;simp only[cond_false];omega
 ·have:=JQ b;simp only[cond_true];omega
def zdy(b:List UInt8)(x:UInt8)(h:wt b≤eA):Dp b x=some (jD b x):=by
 have hl:b.length≤eA:=by rw[←LA];exact h
 have hL:=HB;simp only[Dp,fA];refine rF (X:=List UInt8×Int) (λy=>y.2) (λi=>(jD (b.take i) x,(i:Int))) (λ_=>rfl) b.length (SH h) _ 0 (Nat.zero_le _) (λi k _ hi=>?_) (λk=>by simp only[sD,cond_false,List.take_length]);have e:jD (b.take (i+1)) x=jD (b.take i) x++[RT b[i] x]:=by rw[jD,cH b hi,List.map_append];rfl
 have hml:(jD (b.take i) x).length=i:=by rw[jD,List.length_map,List.length_take];omega
 simp only[bD hi,cond_true,rC hi,lB,qF (i:=i) (by rw[IC];omega)];rw[ZE (by rw[hml];simp;omega),cond_true,e];rfl
def fK.ok{x}(_:sA [.sl .byte, .v .byte] x){r}:tN x.1 x.2=some r→Dp x.1 x.2=some r:=YA λh=>zdy x.1 x.2 h
def HI(b:List UInt8)(x:UInt8):(jD b x).length=b.length:=List.length_map ..
def zd2(k b:List UInt8):Dq k b=some (xD k b):=by
 have hL:=HB;simp only[Dq,fA,xD]
 by_cases h1:(k.length:Int)>1048576
 ·rw[decide_eq_true h1];rfl
 by_cases h2:(b.length:Int)>1048512
 ·rw[decide_eq_false h1,decide_eq_true h2];rfl
 have hk:=CR (b:=k) (by omega);rw[decide_eq_false h1,decide_eq_false h2];simp only[cond_false,Bool.or_false,tN,FA (p:=wt (xC k)≤eA) (by rw[LA];omega),AE];rw[FA (by rw[FL,HI];omega),nL,FA (by rw[FL,HI];have:=JQ (jD (xC k) (UInt8.ofNat (54:Int).toNat)++b);omega),nL];rfl
def YK.ok{x}(_:sA [.sl .byte, .sl .byte] x):Dq x.1 x.2=some (xD x.1 x.2):=zd2 x.1 x.2
def zlk{l:List UInt8}{i:Nat}(h:i<l.length):l[i]?=some l[i]:=List.getElem?_eq_getElem h
def HU(b:List UInt8)(x:UInt8){i:Nat}(hi:i<b.length):jD (b.take (i+1)) x=jD (b.take i) x++[RT b[i] x]:=by rw[jD,cH b hi,List.map_append];rfl
def zd4(k b:List UInt8):Eb k b=some (xD k b):=by
 have hL:=HB;simp only[Eb,fA,xD]
 by_cases h1:(k.length:Int)>1048576
 ·rw[decide_eq_true h1];rfl
 by_cases h2:(b.length:Int)>1048512
 ·rw[decide_eq_false h1,decide_eq_true h2];rfl
 have hk:=CR (b:=k) (by omega);rw[decide_eq_false h1,decide_eq_false h2];simp only[cond_false,Bool.or_false];refine rF (X:=List UInt8×List UInt8×Int) (λy=>y.2.2) (λi=>(jD ((xC k).take i) 54,jD ((xC k).take i) 92,(i:Int))) (λ_=>rfl) 64 (by decide) _ 0 (Nat.zero_le _) (λi kk _ hi=>?_) (λkk=>?_)
 ·have V4:i<(xC k).length:=by omega
  have m1:(jD ((xC k).take i) 54).length=i:=by rw[HI,List.length_take];omega
  have m2:(jD ((xC k).take i) 92).length=i:=by rw[HI,List.length_take];omega
  simp only[decide_eq_true (p:=(i:Int)<64) (by omega),cond_true,PD V4,Int.toNat_natCast,zlk V4,lB,qF (i:=i) (by rw[IC];omega)];rw[ZE (by rw[m1];simp;omega),cond_true,ZE (by rw[m2];simp;omega),cond_true,HU _ _ V4,HU _ _ V4];rfl
 ·have ht:(xC k).take 64=xC k:=List.take_of_length_le (by omega);simp only[show((64:Nat):Int)=64 from rfl,show decide ((64:Int)<64)=false from rfl,cond_false,ht];have hs:=JQ (jD (xC k) 54++b);rw[ZE (by rw[HI];omega),cond_true,ZE (by rw[HI];omega),cond_true]
def ZK.ok{x}(_:sA [.sl .byte, .sl .byte] x):Eb x.1 x.2=some (xD x.1 x.2):=zd4 x.1 x.2
def PP{k b:List UInt8}(h1:k.length≤1048576)(h2:b.length≤1048512):(xD k b).length=32:=by
 rw[xD,decide_eq_false (by omega),decide_eq_false (by omega)];simp only[Bool.or_false,cond_false];refine zih ?_;have:=JQ (jD (xC k) 54++b);rw[List.length_append,HI,CR h1];omega
def zbc(n:Int):(qG zI n 4).length=8:=by rw[SQ,List.length_append,DM];rfl
def zdC(s:List UInt8)(n:Int):Dr s n=some (SD s n):=by
 have hL:=HB;simp only[Dr,fA,SD];cases h1:oA (s.length:Int) 1 32
 ·rfl
 cases h2:oA n 0 10000
 ·rfl
 have h1:=GD.1 h1;have hh:=PP (k:=s) (b:=qG zI n 4) (by omega) (by rw[zbc];omega);simp only[Bool.not_true,cond_false,Bool.and_true,cond_true,TD];rw[FA (by rw[LA];simp;omega)];have hr:[UInt8.ofNat (114:Int).toNat,UInt8.ofNat (111:Int).toNat,UInt8.ofNat (108:Int).toNat,UInt8.ofNat (108:Int).toNat]=zI:=rfl;rw[hr,show(decide ((0:Int)≤0)&&decide ((0:Int)≤12)&&decide (12≤((xD s (qG zI n 4)).length:Int)))=true by rw[hh];rfl,cond_true,List.drop_zero,lE,FA (by rw[LA,List.length_take];omega)]
def nK.ok{x}(_:sA [.sl .byte, .v .int] x):Dr x.1 x.2=some (SD x.1 x.2):=zdC x.1 x.2
def zdE(s:List UInt8)(n:Int):Ec s n=some (SD s n):=by
 have hL:=HB;simp only[Ec,fA,SD];cases h1:oA (s.length:Int) 1 32
 ·rfl
 cases h2:oA n 0 10000
 ·rfl
 have h1:=GD.1 h1;have hh:=PP (k:=s) (b:=qG zI n 4) (by omega) (by rw[zbc];omega);simp only[Bool.not_true,cond_false,Bool.and_true,cond_true,TD];rw[FA (by rw[LA];simp;omega)];have hr:[UInt8.ofNat (114:Int).toNat,UInt8.ofNat (111:Int).toNat,UInt8.ofNat (108:Int).toNat,UInt8.ofNat (108:Int).toNat]=zI:=rfl;rw[hr,show(decide ((0:Int)≤0)&&decide ((0:Int)≤12)&&decide (12≤((xD s (qG zI n 4)).length:Int)))=true by rw[hh];rfl,cond_true,List.drop_zero,xL (by rw[List.length_take];omega),cond_true,List.nil_append]
def oK.ok{x}(_:sA [.sl .byte, .v .int] x):Ec x.1 x.2=some (SD x.1 x.2):=zdE x.1 x.2
end Go.D
