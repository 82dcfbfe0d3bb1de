/-
 Sizes of the program's data.
-/
import Derived.Test.YtfealdecpglcnaaGreatN5
set_option linter.all false
namespace Go.D
end Go.D
namespace Go.D
noncomputable section
def xJ(n:Int)(i:Nat):UInt8:=UInt8.ofNat (IntKind.wrap .u8 (HB .i64 (iE .i64 n (GB .i64 8 (i:Int))) 255)).toNat
def XD(n:Int):Nat→List UInt8
 | 0=>[]
 | i+1=>xJ n i :: XD n i
def xD(b:List UInt8)(n k:Int):List UInt8:=bif decide (k<1)||decide (k>6)then b else b++XD n k.toNat
def JB(b:List UInt8)(n k:Int):Option (List UInt8):=pt (wt b+6≤bA) (xD b n k)
def JF(l:List UInt8):Int:=l.foldl (λn x=>fA .i64 (GB .i64 n 256) (IntKind.wrap .i64 ((x.toNat:Nat):Int))) 0
def FG(b:List UInt8)(at_ k:Int):Int×Int×Bool:=bif decide (k<1)||(decide (k>6)||(decide (at_<0)||decide (at_>(b.length:Int) - k)))then(0,0,false)else(JF ((b.drop at_.toNat).take k.toNat),fA .i64 at_ k,true)
def mH(b:List UInt8)(at_ k:Int):Option (Int×Int×Bool):=pt (wt b≤bA) (FG b at_ k)
def cut(b:List UInt8)(f n:Int):List UInt8×Bool:=bif decide (f<0)||(decide (n<0)||(decide (f>(b.length:Int))||decide (n>(b.length:Int) - f)))then([],false)else((b.drop f.toNat).take n.toNat,true)
def LJ(b:List UInt8)(f n:Int):Option (List UInt8×Bool):=pt (wt b≤bA) (cut b f n)
def yA(b:List UInt8):Option (List UInt8):=pt (wt b≤bA) b
def aD(l:List (List UInt8)):Option (List UInt8):=pt (wt l≤bA) l.flatten
def kE(a:Int):Int:=HB .i64 a 4294967295
def pG(x n:Int):Int:=kE (OK .i64 (iE .i64 (kE x) n) (HJ .i64 (kE x) (oA .i64 32 n)))
def jE(x n:Int):Option Int:=pt (1≤n∧n≤31) (pG x n)
def RF(a b:Int):Int:=kE (fA .i64 a b)
def yE:List Int:=[1779033703,3144134277,1013904242,2773480762,1359893119,2600822924,528734635,1541459225]
def II:List Int:=[1116352408,1899447441,3049323471,3921009573,961987163,1508970993,2453635748,2870763221,3624381080,310598401,607225278,1426881987,1925078388,2162078206,2614888103,3248222580,3835390401,4022224774,264347078,604807628,770255983,1249150122,1555081692,1996064986,2554220882,2821834349,2952996808,3210313671,3336571891,3584528711,113926993,338241895,666307205,773529912,1294757372,1396182291,1695183700,1986661051,2177026350,2456956037,2730485921,2820302411,3259730800,3345764771,3516065817,3600352804,4094571909,275423344,430227734,506948616,659060556,883997877,958139571,1322822218,1537002063,1747873779,1955562222,2024104815,2227730452,2361852424,2428436474,2756734187,3204031479,3329325298]
def FM(i:Int):Int:=if 0≤i∧i≤63 then II.getD i.toNat 0 else 0
def DM(b:List UInt8)(w:List Int)(i:Nat):Int:=if i<16 then(FG b (4 *i:Nat) 4).1 else
 let x:=w.getD (i - 15) 0;let y:=w.getD (i - 2) 0
 kE (fA .i64 (fA .i64 (fA .i64 (w.getD (i - 7) 0) (w.getD (i - 16) 0)) (AB .i64 (AB .i64 (pG x 7) (pG x 18)) (iE .i64 x 3))) (AB .i64 (AB .i64 (pG y 17) (pG y 19)) (iE .i64 y 10)))
def wD(b:List UInt8):Nat→List Int
 | 0=>[]
 | i+1=>wD b i++[DM b (wD b i) i]
def BC(b:List UInt8):List Int:=if b.length=64 then wD b 64 else[]
def yM(b:List UInt8):Option (List Int):=pt (wt b≤bA) (BC b)
abbrev S8:=Int×Int×Int×Int×Int×Int×Int×Int
def rT(k w:Int)(s:S8):Int:=fA .i64 (fA .i64 (fA .i64 (fA .i64 s.2.2.2.2.2.2.2 (AB .i64 (AB .i64 (pG s.2.2.2.2.1 6) (pG s.2.2.2.2.1 11)) (pG s.2.2.2.2.1 25))) (AB .i64 (HB .i64 s.2.2.2.2.1 s.2.2.2.2.2.1) (HB .i64 (AB .i64 s.2.2.2.2.1 4294967295) s.2.2.2.2.2.2.1))) k) w
def rU(s:S8):Int:=fA .i64 (AB .i64 (AB .i64 (pG s.1 2) (pG s.1 13)) (pG s.1 22)) (AB .i64 (AB .i64 (HB .i64 s.1 s.2.1) (HB .i64 s.1 s.2.2.1)) (HB .i64 s.2.1 s.2.2.1))
def zds(l:List Int):Bool:=tC l 8
def zdT(k w:Int)(s:S8):S8:=(kE (fA .i64 (kE (rT k w s)) (kE (rU s))),s.1,s.2.1,s.2.2.1,kE (fA .i64 s.2.2.2.1 (kE (rT k w s))),s.2.2.2.2.1,s.2.2.2.2.2.1,s.2.2.2.2.2.2.1)
def rounds(w:List Int)(s:S8):Nat→S8
 | 0=>s
 | i+1=>zdT (II.getD i 0) (w.getD i 0) (rounds w s i)
def lE(h:List Int):S8:=(h.getD 0 0,h.getD 1 0,h.getD 2 0,h.getD 3 0,h.getD 4 0,h.getD 5 0,h.getD 6 0,h.getD 7 0)
def UH(s:S8):List Int:=[s.1,s.2.1,s.2.2.1,s.2.2.2.1,s.2.2.2.2.1,s.2.2.2.2.2.1,s.2.2.2.2.2.2.1,s.2.2.2.2.2.2.2]
def xF(h:List Int)(b:List UInt8):List Int:=List.zipWith RF h (UH (rounds (BC b) (lE h) 64))
def EL(h:List Int)(b:List UInt8):List Int:=bif tC h 8&&b.length==64 then xF h b else h
def vL(h:List Int)(b:List UInt8):Option (List Int):=pt (wt h≤bA∧wt b≤bA) (EL h b)
def DC(h:List Int):Nat→List UInt8→List Int
 | 0,_=>h
 | n+1,b=>DC (EL h (b.take 64)) n (b.drop 64)
def GT(h:List Int)(b:List UInt8):Option (List Int×List UInt8):=pt (wt h≤bA∧tC h 8=true∧wt b≤bA) (DC h (b.length / 64) b,b.drop (64 *(b.length / 64)))
def nF(h:List Int):List UInt8:=h.flatMap λx=>XD x 4
def mL(h:List Int):Option (List UInt8):=pt (h.length=8) (nF h)
def tF(n:Nat):Nat:=(119 - n % 64) % 64
def zD(n:Nat):List UInt8:=(128 :: List.replicate (tF n) 0)++([0,0,0,0]++XD ((8 *n:Nat):Int) 4)
def nN(n:Int):Option (List UInt8):=pt (0≤n∧n≤1048576) (zD n.toNat)
def zdB(b:List UInt8):List UInt8:=nF (DC yE ((b++zD b.length).length / 64) (b++zD b.length))
def DE(b:List UInt8):List UInt8:=bif decide ((b.length:Int)>1048576)then[]else zdB b
def TG(h:Bf):Bool:=tC h.H 8&&eA h.N 0 1048576&&xA .i64 h.N 64==(h.Held.length:Int)
def zcP(h:Bf)(b:List UInt8):Option Bf:=pt (TG h=true∧(b.length:Int)≤1048576 - h.N) ⟨DC h.H ((h.Held++b).length / 64) (h.Held++b),(h.Held++b).drop (64 *((h.Held++b).length / 64)),h.N+b.length⟩
def zcy(h:Bf):Option (List UInt8):=pt (TG h=true) (nF (DC h.H ((h.Held++zD h.N.toNat).length / 64) (h.Held++zD h.N.toNat)))
def PO:Bf:=⟨yE,[],0⟩
def zav(l:List UInt8):List UInt8:=l++List.replicate (64 - l.length) 0
def bE(k:List UInt8):List UInt8:=bif decide ((k.length:Int)>1048576)then[]else zav (bif decide ((k.length:Int)>64)then DE k else k)
def zhe(x y:UInt8):UInt8:=UInt8.ofNat (AB .u8 ((x.toNat:Nat):Int) ((y.toNat:Nat):Int)).toNat
def PE(b:List UInt8)(x:UInt8):List UInt8:=b.map λy=>zhe y x
def zaa(b:List UInt8)(x:UInt8):Option (List UInt8):=pt (wt b≤bA) (PE b x)
def TC(k b:List UInt8):List UInt8:=bif decide ((k.length:Int)>1048576)||decide ((b.length:Int)>1048512)then[]else DE (PE (bE k) 92++DE (PE (bE k) 54++b))
def KB:List UInt8:=[114,111,108,108]
def HE(s:List UInt8)(n:Int):List UInt8:=bif eA (s.length:Int) 1 32&&eA n 0 10000 then(TC s (xD KB n 4)).take 12 else[]
end
end Go.D
namespace Go.D
open Option renaming bind→ob
noncomputable section
def Qe(a0:List UInt8):=cond (([]:List UInt8).length+a0.length≤bA) (some ([]++a0)) none
def Lk(a0:List UInt8)(a1:Int)(a2:Int):=
 cond (([]:List UInt8).length+a0.length≤bA) (aA (λy1=>
 cond (y1)
 (some ([]++a0))
 (aA (λ(y3:(List UInt8))=>
 some y3) λk4=>
 uA FU (λ(x5:(List UInt8)×Int) k6=>
 cond (x5.2≥0)
 (cond ((GB .i64 8 x5.2)<0) none (let x7:Int:=HB .i64 (iE .i64 a1 (GB .i64 8 x5.2)) 255
 cond (x5.1.length+[UInt8.ofNat (IntKind.wrap .u8 x7:Int).toNat].length≤bA) (k6 ((x5.1++[UInt8.ofNat (IntKind.wrap .u8 x7:Int).toNat]),(oA .i64 x5.2 1))) none))
 (k4 x5.1)) (([]++a0),(oA .i64 a2 1)))) λk2=>
 cond (a2<1)
 (k2 true)
 (k2 (decide (a2>6)))) none
def Qf:=
 let x1:List Int:=[1779033703,3144134277,1013904242,2773480762,1359893119,2600822924,528734635,1541459225]
 some x1
def Qg:=
 let r1:(List Int):=yE
 some (⟨r1,[],0⟩:Bf)
def Ll(a0:Bf):=aA (λ(y1:Bool)=>some y1) λk2=>cond ((tC a0.H 8)) (cond ((eA a0.N 0 1048576)) (k2 ((xA .i64 a0.N 64)==(a0.Held.length:Int))) (k2 false)) (k2 false)
def Lm(a0:List (List UInt8)):=aA (λ(y1:(List UInt8))=>some y1) λk2=>uA FU (λ(x3:(List UInt8)×Int) k4=>cond (x3.2<(a0.length:Int)) (ob (jA a0 x3.2) λe5=>cond (x3.1.length+e5.length≤bA) (k4 ((x3.1++e5),(fA .i64 x3.2 1))) none) (k2 x3.1)) ([],0)
def Ln(a0:List UInt8)(a1:Int)(a2:Int):=
 aA (λy1=>
 cond (y1)
 (some ([],false))
 (cond (decide (0≤a1)&&decide (a1≤(fA .i64 a1 a2))&&decide ((fA .i64 a1 a2)≤(a0.length:Int))) (let l3:List UInt8:=List.take ((fA .i64 a1 a2 - a1).toNat) (List.drop a1.toNat a0)
 cond (([]:List UInt8).length+l3.length≤bA) (some ([]++l3,true)) none) none)) λk2=>
 cond (a1<0)
 (k2 true)
 (cond (a2<0)
 (k2 true)
 (cond (a1>(a0.length:Int))
 (k2 true)
 (k2 (decide (a2>(oA .i64 (a0.length:Int) a1))))))
def Lo(a0:List UInt8)(a1:Int)(a2:Int):=
 aA (λy1=>
 cond (y1)
 (some (0,0,false))
 (ob (LJ a0 a1 a2) λr3=>
 cond (!r3.2)
 (some (0,0,false))
 (aA (λ(y4:Int)=>
 some (y4,fA .i64 a1 a2,true)) λk5=>
 uA FU (λ(x6:Int×Int) k7=>
 cond (x6.2<(r3.1.length:Int))
 (cond (0≤x6.2&&x6.2<(r3.1.length:Int)) (ob (r3.1[x6.2.toNat]?) λe8=>
 let x9:Int:=IntKind.wrap .i64 ((e8.toNat:Nat):Int)
 k7 ((fA .i64 (GB .i64 256 x6.1) x9),(fA .i64 x6.2 1))) none)
 (k5 x6.1)) (0,0)))) λk2=>
 cond (a2<1)
 (k2 true)
 (k2 (decide (a2>6)))
def Lp(a0:Int)(a1:Int):=
 aA (λy1=>
 cond (y1)
 (some (HB .i64 a0 4294967295))
 (cond (a1<0) none (cond ((oA .i64 32 a1)<0) none (let x3:Int:=HJ .i64 (HB .i64 a0 4294967295) (oA .i64 32 a1)
 let x4:Int:=OK .i64 (iE .i64 (HB .i64 a0 4294967295) a1) x3
 some (HB .i64 x4 4294967295))))) λk2=>
 cond (a1<0)
 (k2 true)
 (k2 (decide (a1>31)))
def Lq(a0:List UInt8):=
 cond ((a0.length:Int) !=64)
 (some [])
 (aA (λ(y1:(List Int))=>
 aA (λ(y7:(List Int))=>
 some y7) λk8=>
 uA FU (λ(x9:Int×(List Int)) k10=>
 cond (x9.1<64)
 (cond (0≤oA .i64 x9.1 15&&oA .i64 x9.1 15<(x9.2.length:Int)) (ob (x9.2[(oA .i64 x9.1 15).toNat]?) λe11=>
 cond (0≤oA .i64 x9.1 2&&oA .i64 x9.1 2<(x9.2.length:Int)) (ob (x9.2[(oA .i64 x9.1 2).toNat]?) λe12=>
 ob (jE e11 7) λr13=>
 ob (jE e11 18) λr14=>
 let x15:Int:=AB .i64 (AB .i64 r13 r14) (iE .i64 e11 3)
 ob (jE e12 17) λr16=>
 ob (jE e12 19) λr17=>
 let x18:Int:=AB .i64 (AB .i64 r16 r17) (iE .i64 e12 10)
 cond (0≤oA .i64 x9.1 7&&oA .i64 x9.1 7<(x9.2.length:Int)) (ob (x9.2[(oA .i64 x9.1 7).toNat]?) λe19=>
 cond (0≤oA .i64 x9.1 16&&oA .i64 x9.1 16<(x9.2.length:Int)) (ob (x9.2[(oA .i64 x9.1 16).toNat]?) λe20=>
 let x21:Int:=fA .i64 (fA .i64 (fA .i64 e19 e20) x15) x18
 cond (0≤x9.1&&x9.1<(x9.2.length:Int)) (ob (x9.2[x9.1.toNat]?) λe22=>
 k10 ((fA .i64 x9.1 1),(List.set x9.2 x9.1.toNat (HB .i64 x21 4294967295)))) none) none) none) none) none)
 (k8 x9.2)) (16,y1)) λk2=>
 uA FU (λ(x3:Int×(List Int)) k4=>
 cond (x3.1<16)
 (ob (mH a0 (GB .i64 4 x3.1) 4) λr5=>
 cond (0≤x3.1&&x3.1<(x3.2.length:Int)) (ob (x3.2[x3.1.toNat]?) λe6=>
 k4 ((fA .i64 x3.1 1),(List.set x3.2 x3.1.toNat r5.1))) none)
 (k2 x3.2)) (0,(List.replicate (64:Int).toNat (0:Int))))
def Jg(a0:Int):Option Int:=aA (λy1=>cond (y1) (some 0) (cond (a0==(0:Int)) (some 1116352408) (cond (a0==(1:Int)) (some 1899447441) (cond (a0==(2:Int)) (some 3049323471) (cond (a0==(3:Int)) (some 3921009573) (cond (a0==(4:Int)) (some 961987163) (cond (a0==(5:Int)) (some 1508970993) (cond (a0==(6:Int)) (some 2453635748) (cond (a0==(7:Int)) (some 2870763221) (cond (a0==(8:Int)) (some 3624381080) (cond (a0==(9:Int)) (some 310598401) (cond (a0==(10:Int)) (some 607225278) (cond (a0==(11:Int)) (some 1426881987) (cond (a0==(12:Int)) (some 1925078388) (cond (a0==(13:Int)) (some 2162078206) (cond (a0==(14:Int)) (some 2614888103) (cond (a0==(15:Int)) (some 3248222580) (cond (a0==(16:Int)) (some 3835390401) (cond (a0==(17:Int)) (some 4022224774) (cond (a0==(18:Int)) (some 264347078) (cond (a0==(19:Int)) (some 604807628) (cond (a0==(20:Int)) (some 770255983) (cond (a0==(21:Int)) (some 1249150122) (cond (a0==(22:Int)) (some 1555081692) (cond (a0==(23:Int)) (some 1996064986) (cond (a0==(24:Int)) (some 2554220882) (cond (a0==(25:Int)) (some 2821834349) (cond (a0==(26:Int)) (some 2952996808) (cond (a0==(27:Int)) (some 3210313671) (cond (a0==(28:Int)) (some 3336571891) (cond (a0==(29:Int)) (some 3584528711) (cond (a0==(30:Int)) (some 113926993) (cond (a0==(31:Int)) (some 338241895) (cond (a0==(32:Int)) (some 666307205) (cond (a0==(33:Int)) (some 773529912) (cond (a0==(34:Int)) (some 1294757372) (cond (a0==(35:Int)) (some 1396182291) (cond (a0==(36:Int)) (some 1695183700) (cond (a0==(37:Int)) (some 1986661051) (cond (a0==(38:Int)) (some 2177026350) (cond (a0==(39:Int)) (some 2456956037) (cond (a0==(40:Int)) (some 2730485921) (cond (a0==(41:Int)) (some 2820302411) (cond (a0==(42:Int)) (some 3259730800) (cond (a0==(43:Int)) (some 3345764771) (cond (a0==(44:Int)) (some 3516065817) (cond (a0==(45:Int)) (some 3600352804) (cond (a0==(46:Int)) (some 4094571909) (cond (a0==(47:Int)) (some 275423344) (cond (a0==(48:Int)) (some 430227734) (cond (a0==(49:Int)) (some 506948616) (cond (a0==(50:Int)) (some 659060556) (cond (a0==(51:Int)) (some 883997877) (cond (a0==(52:Int)) (some 958139571) (cond (a0==(53:Int)) (some 1322822218) (cond (a0==(54:Int)) (some 1537002063) (cond (a0==(55:Int)) (some 1747873779) (cond (a0==(56:Int)) (some 1955562222) (cond (a0==(57:Int)) (some 2024104815) (cond (a0==(58:Int)) (some 2227730452) (cond (a0==(59:Int)) (some 2361852424) (cond (a0==(60:Int)) (some 2428436474) (cond (a0==(61:Int)) (some 2756734187) (cond (a0==(62:Int)) (some 3204031479) (cond (a0==(63:Int)) (some 3329325298) (none)))))))))))))))))))))))))))))))))))))))))))))))))))))))))))))))))) λk2=>cond (a0<0) (k2 true) (k2 (decide (a0>63)))
def Qh(a0:Int)(a1:Int):=some (HB .i64 (fA .i64 a0 a1) 4294967295)
def Lr(a0:List Int)(a1:List UInt8):=
 cond (([]:List Int).length+a0.length≤bA) (aA (λy1=>
 cond (y1)
 (some ([]++a0))
 (ob (yM a1) λr3=>
 ob (jA a0 0) λe4=>
 ob (jA a0 1) λe5=>
 ob (jA a0 2) λe6=>
 ob (jA a0 3) λe7=>
 ob (jA a0 4) λe8=>
 ob (jA a0 5) λe9=>
 ob (jA a0 6) λe10=>
 ob (jA a0 7) λe11=>
 aA (λ(y12:Int×Int×Int×Int×Int×Int×Int×Int)=>
 let x31:List Int:=[y12.1,y12.2.1,y12.2.2.1,y12.2.2.2.1,y12.2.2.2.2.1,y12.2.2.2.2.2.1,y12.2.2.2.2.2.2.1,y12.2.2.2.2.2.2.2]
 aA (λ(y32:(List Int))=>
 some y32) λk33=>
 uA FU (λ(x34:Int×(List Int)) k35=>
 cond (x34.1<(x31.length:Int))
 (cond (0≤x34.1&&x34.1<(x31.length:Int)) (ob (x31[x34.1.toNat]?) λe36=>
 ob (jA a0 x34.1) λe37=>
 cond (0≤x34.1&&x34.1<(x34.2.length:Int)) (ob (x34.2[x34.1.toNat]?) λe38=>
 k35 ((fA .i64 x34.1 1),(List.set x34.2 x34.1.toNat (RF e37 e36)))) none) none)
 (k33 x34.2)) (0,([]++a0))) λk13=>
 uA FU (λ(x14:Int×Int×Int×Int×Int×Int×Int×Int×Int) k15=>
 cond (x14.2.2.2.2.2.2.2.2<64)
 (let x16:Int:=HB .i64 (AB .i64 4294967295 x14.2.2.2.2.1) x14.2.2.2.2.2.2.1
 let x17:Int:=AB .i64 (HB .i64 x14.2.2.2.2.1 x14.2.2.2.2.2.1) x16;let x18:Int:=AB .i64 (HB .i64 x14.1 x14.2.1) (HB .i64 x14.1 x14.2.2.1);let x19:Int:=AB .i64 x18 (HB .i64 x14.2.1 x14.2.2.1)
 ob (jE x14.2.2.2.2.1 6) λr20=>
 ob (jE x14.2.2.2.2.1 11) λr21=>
 ob (jE x14.2.2.2.2.1 25) λr22=>
 let x23:Int:=fA .i64 x14.2.2.2.2.2.2.2.1 (AB .i64 (AB .i64 r20 r21) r22);let x24:Int:=fA .i64 (fA .i64 x23 x17) (FM x14.2.2.2.2.2.2.2.2)
 cond (0≤x14.2.2.2.2.2.2.2.2&&x14.2.2.2.2.2.2.2.2<(r3.length:Int)) (ob (r3[x14.2.2.2.2.2.2.2.2.toNat]?) λe25=>
 ob (jE x14.1 2) λr26=>
 ob (jE x14.1 13) λr27=>
 ob (jE x14.1 22) λr28=>
 let x29:Int:=fA .i64 (AB .i64 (AB .i64 r26 r27) r28) x19;let r30:Int:=RF x14.2.2.2.1 (fA .i64 x24 e25)
 k15 ((RF (fA .i64 x24 e25) x29),x14.1,x14.2.1,x14.2.2.1,r30,x14.2.2.2.2.1,x14.2.2.2.2.2.1,x14.2.2.2.2.2.2.1,(fA .i64 x14.2.2.2.2.2.2.2.2 1))) none)
 (k13 (x14.1,x14.2.1,x14.2.2.1,x14.2.2.2.1,x14.2.2.2.2.1,x14.2.2.2.2.2.1,x14.2.2.2.2.2.2.1,x14.2.2.2.2.2.2.2.1))) (e4,e5,e6,e7,e8,e9,e10,e11,0))) λk2=>
 cond (!(tC a0 8))
 (k2 true)
 (k2 ((a1.length:Int) !=64))) none
def Ls(a0:List Int)(a1:List UInt8):=
 aA (λ(y1:(List Int)×(List UInt8))=>
 some (y1.1,y1.2)) λk2=>
 uA FU (λ(x3:(List Int)×(List UInt8)) k4=>
 cond ((x3.2.length:Int)≥64)
 (cond (decide (0≤(0:Int))&&decide ((0:Int)≤64)&&decide (64≤(x3.2.length:Int))) (let l5:List UInt8:=List.take 64 (List.drop 0 x3.2)
 ob (vL x3.1 l5) λr6=>
 cond (decide (0≤(64:Int))&&decide ((64:Int)≤(x3.2.length:Int))&&decide ((x3.2.length:Int)≤(x3.2.length:Int))) (let l7:List UInt8:=List.take (((x3.2.length:Int) - 64).toNat) (List.drop 64 x3.2)
 k4 (r6,l7)) none) none)
 (k2 (x3.1,x3.2))) (a0,a1)
def Lt(a0:Bf)(a1:List UInt8):=aA (λy1=>cond (y1) (cond (([]:List Int).length+a0.H.length≤bA) (ob (yA a0.Held) λr3=>some (⟨[]++a0.H,r3,a0.N⟩:Bf)) none) (ob (aD [a0.Held,a1]) λr4=>ob (GT a0.H r4) λr5=>cond (([]:List Int).length+r5.1.length≤bA) (ob (yA r5.2) λr6=>some (⟨[]++r5.1,r6,fA .i64 a0.N (a1.length:Int)⟩:Bf)) none)) λk2=>cond (!(TG a0)) (k2 true) (k2 (decide ((a1.length:Int)>(oA .i64 1048576 a0.N))))
def Lu(a0:Int):=
 cond (!(eA a0 0 1048576))
 (some [])
 (aA (λ(y1:(List UInt8))=>
 cond (y1.length+[UInt8.ofNat (0:Int).toNat,UInt8.ofNat (0:Int).toNat].length≤bA) (let x6:List UInt8:=y1++[UInt8.ofNat (0:Int).toNat,UInt8.ofNat (0:Int).toNat]
 ob (JB x6 (GB .i64 8 a0) 6) λr7=>
 some r7) none) λk2=>
 uA FU (λ(x3:(List UInt8)) k4=>
 let x5:Int:=fA .i64 (fA .i64 a0 (x3.length:Int)) 8
 cond ((xA .i64 x5 64) !=0)
 (cond (x3.length+[UInt8.ofNat (0:Int).toNat].length≤bA) (k4 (x3++[UInt8.ofNat (0:Int).toNat])) none)
 (k2 x3)) [UInt8.ofNat (128:Int).toNat])
def Lv(a0:List Int):=aA (λ(y1:(List UInt8))=>some y1) λk2=>uA FU (λ(x3:(List UInt8)×Int) k4=>cond (x3.2<(a0.length:Int)) (ob (jA a0 x3.2) λe5=>ob (JB x3.1 e5 4) λr6=>k4 (r6,(fA .i64 x3.2 1))) (k2 x3.1)) ([],0)
def Lw(a0:Bf):=cond (!(TG a0)) (some []) (ob (nN a0.N) λr1=>ob (aD [a0.Held,r1]) λr2=>ob (GT a0.H r2) λr3=>ob (mL r3.1) λr4=>some r4)
def Lx(a0:List UInt8):=
 cond ((a0.length:Int)>1048576)
 (some [])
 (let r1:Bf:=PO
 ob (zcP r1 a0) λr2=>
 ob (zcy r2) λr3=>
 some r3)
def Ly(a0:List UInt8):=
 cond ((a0.length:Int)>1048576)
 (some [])
 (ob (yA a0) λr1=>
 aA (λ(y2:(List UInt8))=>
 aA (λ(y5:(List UInt8))=>
 some y5) λk6=>
 uA FU (λ(x7:(List UInt8)) k8=>
 cond ((x7.length:Int)<64)
 (cond (x7.length+[UInt8.ofNat (0:Int).toNat].length≤bA) (k8 (x7++[UInt8.ofNat (0:Int).toNat])) none)
 (k6 x7)) y2) λk3=>
 cond ((a0.length:Int)>64)
 (let r4:(List UInt8):=DE a0
 k3 r4)
 (k3 r1))
def Lz(a0:List UInt8)(a1:UInt8):=
 aA (λ(y1:(List UInt8))=>
 some y1) λk2=>
 uA FU (λ(x3:(List UInt8)×Int) k4=>
 cond (x3.2<(a0.length:Int))
 (ob (jA a0 x3.2) λe5=>
 let x6:Int:=AB .u8 ((e5.toNat:Nat):Int) ((a1.toNat:Nat):Int)
 cond (x3.1.length+[UInt8.ofNat (x6:Int).toNat].length≤bA) (k4 ((x3.1++[UInt8.ofNat (x6:Int).toNat]),(fA .i64 x3.2 1))) none)
 (k2 x3.1)) ([],0)
def Ma(a0:List UInt8)(a1:List UInt8):=
 aA (λy1=>
 cond (y1)
 (some [])
 (let r3:(List UInt8):=bE a0
 ob (zaa r3 (UInt8.ofNat (92:Int).toNat)) λr4=>
 ob (zaa r3 (UInt8.ofNat (54:Int).toNat)) λr5=>
 ob (aD [r5,a1]) λr6=>
 let r7:(List UInt8):=DE r6
 ob (aD [r4,r7]) λr8=>
 let r9:(List UInt8):=DE r8
 some r9)) λk2=>
 cond ((a0.length:Int)>1048576)
 (k2 true)
 (k2 (decide ((a1.length:Int)>1048512)))
def Mb(a0:List UInt8)(a1:Int):=
 aA (λy1=>
 cond (y1)
 (some [])
 (let x3:List UInt8:=[UInt8.ofNat (114:Int).toNat,UInt8.ofNat (111:Int).toNat,UInt8.ofNat (108:Int).toNat,UInt8.ofNat (108:Int).toNat]
 ob (JB x3 a1 4) λr4=>
 let r5:(List UInt8):=TC a0 r4
 cond (decide (0≤(0:Int))&&decide ((0:Int)≤12)&&decide (12≤(r5.length:Int))) (ob (yA (List.take 12 (List.drop 0 r5))) λr6=>
 some r6) none)) λk2=>
 cond (!(eA (a0.length:Int) 1 32))
 (k2 true)
 (k2 (!(eA a1 0 10000)))
def Qi(a0:List UInt8)(a1:Int)(a2:Int):=
 cond (([]:List UInt8).length+a0.length≤bA) (aA (λy1=>
 cond (y1)
 (some ([]++a0))
 (aA (λ(y3:(List UInt8))=>
 some y3) λk4=>
 uA FU (λ(x5:(List UInt8)×Int) k6=>
 cond (x5.2≥0)
 (cond ((GB .i64 8 x5.2)<0) none (let x7:Int:=HB .i64 (iE .i64 a1 (GB .i64 8 x5.2)) 255
 cond (x5.1.length+[UInt8.ofNat (IntKind.wrap .u8 x7:Int).toNat].length≤bA) (k6 ((x5.1++[UInt8.ofNat (IntKind.wrap .u8 x7:Int).toNat]),(oA .i64 x5.2 1))) none))
 (k4 x5.1)) (([]++a0),(oA .i64 a2 1)))) λk2=>
 cond (a2<1)
 (k2 true)
 (k2 (decide (a2>6)))) none
def Mc(a0:Int):=
 aA (λy1=>
 cond (y1)
 (some [])
 (aA (λ(y3:(List UInt8))=>
 ob (JB y3 0 4) λr8=>
 ob (JB r8 (GB .i64 8 a0) 4) λr9=>
 some r9) λk4=>
 uA FU (λ(x5:(List UInt8)) k6=>
 let x7:Int:=fA .i64 (fA .i64 a0 (x5.length:Int)) 8
 cond ((xA .i64 x7 64) !=0)
 (cond (x5.length+[UInt8.ofNat (0:Int).toNat].length≤bA) (k6 (x5++[UInt8.ofNat (0:Int).toNat])) none)
 (k4 x5)) [UInt8.ofNat (128:Int).toNat])) λk2=>
 cond (a0<0)
 (k2 true)
 (k2 (decide (a0>1048576)))
def Qj:=
 let x1:List Int:=[1779033703,3144134277,1013904242,2773480762,1359893119,2600822924,528734635,1541459225]
 some x1
def Md(a0:List Int):=aA (λ(y1:Unit)=>some ((a0.length:Int)==8)) λk2=>uA FU (λ(x3:Int) k4=>cond (x3<(a0.length:Int)) (ob (jA a0 x3) λe5=>cond (!(eA e5 0 4294967295)) (some false) (k4 (fA .i64 x3 1))) (k2 ())) 0
def Qk:=
 let x1:List Int:=[1116352408,1899447441,3049323471,3921009573,961987163,1508970993,2453635748,2870763221,3624381080,310598401,607225278,1426881987,1925078388,2162078206,2614888103,3248222580,3835390401,4022224774,264347078,604807628,770255983,1249150122,1555081692,1996064986,2554220882,2821834349,2952996808,3210313671,3336571891,3584528711,113926993,338241895,666307205,773529912,1294757372,1396182291,1695183700,1986661051,2177026350,2456956037,2730485921,2820302411,3259730800,3345764771,3516065817,3600352804,4094571909,275423344,430227734,506948616,659060556,883997877,958139571,1322822218,1537002063,1747873779,1955562222,2024104815,2227730452,2361852424,2428436474,2756734187,3204031479,3329325298]
 some x1
def Me(a0:List UInt8)(a1:Int)(a2:Int):=
 aA (λy1=>
 cond (y1)
 (some (0,0,false))
 (aA (λ(y3:Int)=>
 some (y3,fA .i64 a1 a2,true)) λk4=>
 uA FU (λ(x5:Int×Int) k6=>
 cond (x5.2<a2)
 (ob (jA a0 (fA .i64 a1 x5.2)) λe7=>
 let x8:Int:=IntKind.wrap .i64 ((e7.toNat:Nat):Int)
 k6 ((fA .i64 (GB .i64 x5.1 256) x8),(fA .i64 x5.2 1)))
 (k4 x5.1)) (0,0))) λk2=>
 cond (a2<1)
 (k2 true)
 (cond (a2>6)
 (k2 true)
 (cond (a1<0)
 (k2 true)
 (k2 (decide (a1>(oA .i64 (a0.length:Int) a2))))))
def Mf(a0:Int)(a1:Int):=
 aA (λy1=>
 cond (y1)
 (some (HB .i64 a0 4294967295))
 (cond (a1<0) none (cond ((oA .i64 32 a1)<0) none (let x3:Int:=HJ .i64 (HB .i64 a0 4294967295) (oA .i64 32 a1)
 let x4:Int:=OK .i64 (iE .i64 (HB .i64 a0 4294967295) a1) x3
 some (HB .i64 x4 4294967295))))) λk2=>
 cond (a1<1)
 (k2 true)
 (k2 (decide (a1>31)))
def Mg(a0:List UInt8):=
 cond ((a0.length:Int) !=64)
 (some [])
 (aA (λ(y1:(List Int))=>
 aA (λ(y6:(List Int))=>
 some y6) λk7=>
 uA FU (λ(x8:(List Int)×Int) k9=>
 cond (x8.2<64)
 (cond (0≤oA .i64 x8.2 15&&oA .i64 x8.2 15<(x8.1.length:Int)) (ob (x8.1[(oA .i64 x8.2 15).toNat]?) λe10=>
 cond (0≤oA .i64 x8.2 2&&oA .i64 x8.2 2<(x8.1.length:Int)) (ob (x8.1[(oA .i64 x8.2 2).toNat]?) λe11=>
 ob (jE e10 7) λr12=>
 ob (jE e10 18) λr13=>
 let x14:Int:=AB .i64 (AB .i64 r12 r13) (iE .i64 e10 3)
 ob (jE e11 17) λr15=>
 ob (jE e11 19) λr16=>
 let x17:Int:=AB .i64 (AB .i64 r15 r16) (iE .i64 e11 10)
 cond (0≤oA .i64 x8.2 7&&oA .i64 x8.2 7<(x8.1.length:Int)) (ob (x8.1[(oA .i64 x8.2 7).toNat]?) λe18=>
 cond (0≤oA .i64 x8.2 16&&oA .i64 x8.2 16<(x8.1.length:Int)) (ob (x8.1[(oA .i64 x8.2 16).toNat]?) λe19=>
 let x20:Int:=fA .i64 (fA .i64 (fA .i64 e18 e19) x14) x17
 cond (x8.1.length+[HB .i64 x20 4294967295].length≤bA) (k9 ((x8.1++[HB .i64 x20 4294967295]),(fA .i64 x8.2 1))) none) none) none) none) none)
 (k7 x8.1)) (y1,16)) λk2=>
 uA FU (λ(x3:(List Int)×Int) k4=>
 cond (x3.2<16)
 (ob (mH a0 (GB .i64 4 x3.2) 4) λr5=>
 cond (x3.1.length+[r5.1].length≤bA) (k4 ((x3.1++[r5.1]),(fA .i64 x3.2 1))) none)
 (k2 x3.1)) ([],0))
def Mh(a0:List Int)(a1:List UInt8):=
 cond (([]:List Int).length+a0.length≤bA) (aA (λy1=>
 cond (y1)
 (some ([]++a0))
 (let r3:(List Int):=II
 ob (yM a1) λr4=>
 ob (jA a0 0) λe5=>
 ob (jA a0 1) λe6=>
 ob (jA a0 2) λe7=>
 ob (jA a0 3) λe8=>
 ob (jA a0 4) λe9=>
 ob (jA a0 5) λe10=>
 ob (jA a0 6) λe11=>
 ob (jA a0 7) λe12=>
 aA (λ(y13:Int×Int×Int×Int×Int×Int×Int×Int)=>
 let x34:List Int:=[y13.1,y13.2.1,y13.2.2.1,y13.2.2.2.1,y13.2.2.2.2.1,y13.2.2.2.2.2.1,y13.2.2.2.2.2.2.1,y13.2.2.2.2.2.2.2]
 aA (λ(y35:(List Int))=>
 some y35) λk36=>
 uA FU (λ(x37:Int×(List Int)) k38=>
 cond (x37.1<8)
 (ob (jA a0 x37.1) λe39=>
 cond (0≤x37.1&&x37.1<(x34.length:Int)) (ob (x34[x37.1.toNat]?) λe40=>
 cond (0≤x37.1&&x37.1<(x37.2.length:Int)) (ob (x37.2[x37.1.toNat]?) λe41=>
 let l42:List Int:=List.set x37.2 x37.1.toNat (HB .i64 (fA .i64 e39 e40) 4294967295)
 k38 ((fA .i64 x37.1 1),l42)) none) none)
 (k36 x37.2)) (0,([]++a0))) λk14=>
 uA FU (λ(x15:Int×Int×Int×Int×Int×Int×Int×Int×Int) k16=>
 cond (x15.2.2.2.2.2.2.2.2<64)
 (ob (jE x15.2.2.2.2.1 6) λr17=>
 ob (jE x15.2.2.2.2.1 11) λr18=>
 ob (jE x15.2.2.2.2.1 25) λr19=>
 let x20:Int:=fA .i64 x15.2.2.2.2.2.2.2.1 (AB .i64 (AB .i64 r17 r18) r19);let x21:Int:=HB .i64 (AB .i64 x15.2.2.2.2.1 4294967295) x15.2.2.2.2.2.2.1;let x22:Int:=AB .i64 (HB .i64 x15.2.2.2.2.1 x15.2.2.2.2.2.1) x21
 cond (0≤x15.2.2.2.2.2.2.2.2&&x15.2.2.2.2.2.2.2.2<(r3.length:Int)) (ob (r3[x15.2.2.2.2.2.2.2.2.toNat]?) λe23=>
 cond (0≤x15.2.2.2.2.2.2.2.2&&x15.2.2.2.2.2.2.2.2<(r4.length:Int)) (ob (r4[x15.2.2.2.2.2.2.2.2.toNat]?) λe24=>
 let x25:Int:=fA .i64 (fA .i64 (fA .i64 x20 x22) e23) e24
 ob (jE x15.1 2) λr26=>
 ob (jE x15.1 13) λr27=>
 ob (jE x15.1 22) λr28=>
 let x29:Int:=AB .i64 (HB .i64 x15.1 x15.2.1) (HB .i64 x15.1 x15.2.2.1);let x30:Int:=AB .i64 x29 (HB .i64 x15.2.1 x15.2.2.1);let x31:Int:=fA .i64 (AB .i64 (AB .i64 r26 r27) r28) x30;let x32:Int:=fA .i64 x15.2.2.2.1 (HB .i64 x25 4294967295);let x33:Int:=fA .i64 (HB .i64 x25 4294967295) (HB .i64 x31 4294967295)
 k16 ((HB .i64 x33 4294967295),x15.1,x15.2.1,x15.2.2.1,(HB .i64 x32 4294967295),x15.2.2.2.2.1,x15.2.2.2.2.2.1,x15.2.2.2.2.2.2.1,(fA .i64 x15.2.2.2.2.2.2.2.2 1))) none) none)
 (k14 (x15.1,x15.2.1,x15.2.2.1,x15.2.2.2.1,x15.2.2.2.2.1,x15.2.2.2.2.2.1,x15.2.2.2.2.2.2.1,x15.2.2.2.2.2.2.2.1))) (e5,e6,e7,e8,e9,e10,e11,e12,0))) λk2=>
 cond (!(zds a0))
 (k2 true)
 (k2 ((a1.length:Int) !=64))) none
def Mi(a0:List Int):=aA (λ(y1:(List UInt8))=>some y1) λk2=>uA FU (λ(x3:(List UInt8)×Int) k4=>cond (x3.2<8) (ob (jA a0 x3.2) λe5=>ob (JB x3.1 e5 4) λr6=>k4 (r6,(fA .i64 x3.2 1))) (k2 x3.1)) ([],0)
def Mj(a0:List UInt8):=
 cond ((a0.length:Int)>1048576)
 (some [])
 (cond (([]:List UInt8).length+a0.length≤bA) (ob (nN (a0.length:Int)) λr1=>
 cond (([]++a0).length+r1.length≤bA) (let r2:(List Int):=yE
 aA (λ(y3:(List Int))=>
 ob (mL y3) λr8=>
 some r8) λk4=>
 uA FU (λ(x5:(List Int)×Int) k6=>
 cond (x5.2<((([]++a0)++r1).length:Int))
 (cond (decide (0≤x5.2)&&decide (x5.2≤(fA .i64 x5.2 64))&&decide ((fA .i64 x5.2 64)≤((([]++a0)++r1).length:Int))) (ob (vL x5.1 (List.take ((fA .i64 x5.2 64 - x5.2).toNat) (List.drop x5.2.toNat (([]++a0)++r1)))) λr7=>
 k6 (r7,(fA .i64 x5.2 64))) none)
 (k4 x5.1)) (r2,0)) none) none)
def Mk(a0:List UInt8):=
 cond ((a0.length:Int)>1048576)
 (some [])
 (cond (([]:List UInt8).length+a0.length≤bA) (aA (λ(y1:(List UInt8))=>
 aA (λ(y4:(List UInt8))=>
 some y4) λk5=>
 uA FU (λ(x6:(List UInt8)) k7=>
 cond ((x6.length:Int)<64)
 (cond (x6.length+[UInt8.ofNat (0:Int).toNat].length≤bA) (k7 (x6++[UInt8.ofNat (0:Int).toNat])) none)
 (k5 x6)) y1) λk2=>
 cond ((a0.length:Int)>64)
 (let r3:(List UInt8):=DE a0
 k2 r3)
 (k2 ([]++a0))) none)
def Ml(a0:List UInt8)(a1:List UInt8):=
 aA (λy1=>
 cond (y1)
 (some [])
 (let r3:(List UInt8):=bE a0
 aA (λ(y4:(List UInt8)×(List UInt8))=>
 cond (y4.1.length+a1.length≤bA) (let r12:(List UInt8):=DE (y4.1++a1)
 cond (y4.2.length+r12.length≤bA) (let r13:(List UInt8):=DE (y4.2++r12)
 some r13) none) none) λk5=>
 uA FU (λ(x6:(List UInt8)×(List UInt8)×Int) k7=>
 cond (x6.2.2<64)
 (cond (0≤x6.2.2&&x6.2.2<(r3.length:Int)) (ob (r3[x6.2.2.toNat]?) λe8=>
 let x9:List UInt8:=[UInt8.ofNat (AB .u8 ((e8.toNat:Nat):Int) 54:Int).toNat]
 cond (x6.1.length+x9.length≤bA) (cond (0≤x6.2.2&&x6.2.2<(r3.length:Int)) (ob (r3[x6.2.2.toNat]?) λe10=>
 let x11:List UInt8:=[UInt8.ofNat (AB .u8 ((e10.toNat:Nat):Int) 92:Int).toNat]
 cond (x6.2.1.length+x11.length≤bA) (k7 ((x6.1++x9),(x6.2.1++x11),(fA .i64 x6.2.2 1))) none) none) none) none)
 (k5 (x6.1,x6.2.1))) ([],[],0))) λk2=>
 cond ((a0.length:Int)>1048576)
 (k2 true)
 (k2 (decide ((a1.length:Int)>1048512)))
def Mm(a0:List UInt8)(a1:Int):=
 aA (λy1=>
 cond (y1)
 (some [])
 (let x3:List UInt8:=[UInt8.ofNat (114:Int).toNat,UInt8.ofNat (111:Int).toNat,UInt8.ofNat (108:Int).toNat,UInt8.ofNat (108:Int).toNat]
 ob (JB x3 a1 4) λr4=>
 let r5:(List UInt8):=TC a0 r4
 cond (decide (0≤(0:Int))&&decide ((0:Int)≤12)&&decide (12≤(r5.length:Int))) (cond (([]:List UInt8).length+(List.take 12 (List.drop 0 r5)).length≤bA) (some ([]++(List.take 12 (List.drop 0 r5)))) none) none)) λk2=>
 cond (!(eA (a0.length:Int) 1 32))
 (k2 true)
 (k2 (!(eA a1 0 10000)))
end
end Go.D
namespace Go.D
end Go.D
namespace Go.D
def zgx{σ R:Type}(n:Nat)(hn:n≤maxLen)(S:Nat→σ)(z:Option R){f:σ×Int→(σ×Int→Option R)→Option R}
  (hf:∀(i:Nat) k,i<n→f (S i,(i:Int)) k=k (S (i+1),IntKind.wrap .i64 ((i:Int)+1))) (hz:∀k,f (S n,(n:Int)) k=z) (a:Nat) (ha:a≤n):uA FU f (S a,(a:Int))=z:=by
 refine OH (g:=λ_=>z) (λx=>∃i:Nat,i≤n∧x=(S i,(i:Int))) (λx=>n - x.2.toNat) (λx hx k hk=>?_) ⟨a,ha,rfl⟩ (by unfold maxLen at hn;simp only[Int.toNat_natCast];omega);obtain⟨i,hi,rfl⟩:=hx
 rcases Nat.lt_or_eq_of_le hi with FV|rfl
 ·rw[hf i k FV,OG i (by omega)];exact hk _ ⟨i+1,FV,rfl⟩ (by simp only[Int.toNat_natCast];omega)
 ·exact hz k
def wO(n:Nat)(h:n<2^64):(BitVec.ofInt 64 (n:Int)).toNat=n:=by
 rw[BitVec.toNat_ofInt];omega
def zdD(a:Int):0≤kE a∧kE a≤4294967295:=by
 have h:(BitVec.ofInt 64 a&&&BitVec.ofInt 64 4294967295).toNat≤4294967295:=by
  rw[BitVec.toNat_and];exact Nat.le_trans Nat.and_le_right (by decide)
 unfold kE HB;show 0≤IntKind.wrap .i64 ((BitVec.ofInt 64 a&&&BitVec.ofInt 64 4294967295).toNat:Int)∧IntKind.wrap .i64 ((BitVec.ofInt 64 a&&&BitVec.ofInt 64 4294967295).toNat:Int)≤4294967295
 rw[FB (by omega) (by omega)];omega
def sV{a:Int}(h0:0≤a)(h1:a≤9223372036854775807):kE a=a % 4294967296:=by
 obtain⟨n,rfl⟩:=rF h0;unfold kE HB;show IntKind.wrap .i64 ((BitVec.ofInt 64 (n:Int)&&&BitVec.ofInt 64 ((4294967295:Nat):Int)).toNat:Int)=_
 rw[BitVec.toNat_and,wO n (by omega),wO _ (by decide)];have:=Nat.and_two_pow_sub_one_eq_mod n 32;rw[show(4294967295:Nat)=2^32 - 1 from rfl,this,FB (by omega) (by omega)];omega
def yD(a:Int):Prop:=0≤a∧a≤4294967295
def zdZ(a:Int):yD (kE a):=zdD a
def bN{a b:Int}(ha:yD a)(hb:yD b):yD (AB .i64 a b):=by
 obtain⟨n,rfl⟩:=rF ha.1;obtain⟨m,rfl⟩:=rF hb.1;have h1:=ha.2;have h2:=hb.2;have h:(n^^^m)<2^32:=Nat.xor_lt_two_pow (by omega) (by omega);unfold AB;show yD (IntKind.wrap .i64 ((BitVec.ofInt 64 (n:Int)^^^BitVec.ofInt 64 (m:Int)).toNat:Int))
 rw[BitVec.toNat_xor,wO n (by omega),wO m (by omega),FB (by omega) (by omega)];exact⟨by omega,by omega⟩
def ztt(a b:Int):AB .i64 a b=AB .i64 b a:=by
 unfold AB;rw[BitVec.xor_comm]
def zac{a b:Int}(ha:yD a)(hb:yD b):yD (HB .i64 a b):=by
 obtain⟨n,rfl⟩:=rF ha.1;obtain⟨m,rfl⟩:=rF hb.1;have h1:=ha.2;have h2:=hb.2;have h:(n&&&m)≤m:=Nat.and_le_right;unfold HB;show yD (IntKind.wrap .i64 ((BitVec.ofInt 64 (n:Int)&&&BitVec.ofInt 64 (m:Int)).toNat:Int))
 rw[BitVec.toNat_and,wO n (by omega),wO m (by omega),FB (by omega) (by omega)];exact⟨by omega,by omega⟩
def wT(x n:Int):yD (pG x n):=zdZ _
def MH{a b:Nat}(h:a+b≤bA):decide (a+b≤bA)=true:=decide_eq_true h
def zbO.ok{x}(_:vA [.sl .byte] x){r}:yA x=some r→Qe x=some r:=QA λh=>by
 have h2:(show List UInt8 from x).length≤bA:=by rw[←FA];exact h
 show cond (([]:List UInt8).length+(show List UInt8 from x).length≤bA) _ _=_
 rw[JO h2];rfl
def zkI(b:List UInt8)(n k:Int)(h:wt b+6≤bA):Lk b n k=some (xD b n k):=by
 rw[FA]at h;simp only[Lk,aA,xD,List.nil_append];rw[JO (by omega)];simp only[cond_true]
 by_cases h1:k<1
 ·rw[decide_eq_true h1];rfl
 by_cases h2:k>6
 ·rw[decide_eq_false h1,decide_eq_true h2];rfl
 rw[decide_eq_false h1,decide_eq_false h2];simp only[cond_false,Bool.or_false];have hk:oA .i64 k 1=k - 1:=by rw[oA,FB (by omega) (by omega)]
 rw[hk];rw[OH (g:=λx:List UInt8×Int=>some (x.1++XD n (x.2+1).toNat)) (λx=> -1≤x.2∧x.2≤5∧(x.1.length:Int)+x.2+1≤(bA:Int)) (λx=>(x.2+1).toNat) (λx hx kk AZ=>?_) (x:=(b,k - 1)) ⟨by show -1≤k - 1;omega,by show k - 1≤5;omega,by show(b.length:Int)+(k - 1)+1≤(bA:Int);omega⟩ (by show(k - 1+1).toNat<2^64;omega)]
 ·rw[show k - 1+1=k by omega]
 ·obtain⟨l,i⟩:=x;obtain⟨g1,g2,g3⟩:=hx;simp only at g1 g2 g3⊢
  by_cases hi:0≤i
  ·obtain⟨j,rfl⟩:=rF hi;have e1:GB .i64 8 (j:Int)=8 *(j:Int):=FB (by omega) (by omega);have e2:oA .i64 (j:Int) 1=(j:Int) - 1:=by rw[oA,FB (by omega) (by omega)]
   have e3:decide (GB .i64 8 (j:Int)<0)=false:=decide_eq_false (by rw[e1];omega);rw[decide_eq_true (p:=(j:Int)≥0) hi,cond_true,e3,cond_false,MH (by simp;omega),cond_true,e2];refine(AZ (l++[xJ n j],(j:Int) - 1) ⟨by show -1≤(j:Int) - 1;omega,by show(j:Int) - 1≤5;omega,by show((l++[xJ n j]).length:Int)+((j:Int) - 1)+1≤(bA:Int);simp;omega⟩ (by show((j:Int) - 1+1).toNat<((j:Int)+1).toNat;omega)).trans ?_;simp only;rw[show((j:Int) - 1+1).toNat=j by omega,show((j:Int)+1).toNat=j+1 by omega,XD,List.append_assoc];rfl
  ·have:i= -1:=by omega
   subst this;simp[XD]
def HS.ok{x}(_:vA [.sl .byte, .v .int, .v .int] x){r}:JB x.1 x.2.1 x.2.2=some r→Lk x.1 x.2.1 x.2.2=some r:=QA λh=>zkI x.1 x.2.1 x.2.2 h
def zb7.ok{x}(_:vA [.sl .byte, .v .int, .v .int] x){r}:JB x.1 x.2.1 x.2.2=some r→Qi x.1 x.2.1 x.2.2=some r:=QA λh=>zkI x.1 x.2.1 x.2.2 h
def zkm:∀l:List (List UInt8),l.flatten.length≤wt l
 | []=>Nat.zero_le _
 | x :: l=>by
  have:=zkm l;rw[TD,FA,List.flatten_cons,List.length_append];omega
def zoY(l:List (List UInt8))(h:wt l≤bA):Lm l=some l.flatten:=by
 simp only[Lm,aA];refine zgx l.length (dG h) (λi=>(l.take i).flatten) (some l.flatten) (λi k hi=>?_) (λk=>by simp only[UD,cond_false,List.take_length]) 0 (Nat.zero_le _);have e:(l.take (i+1)).flatten=(l.take i).flatten++l[i]:=by rw[CM l hi,List.flatten_append];simp
 have DV:=zkm (l.take (i+1));have h2:=dE l (i+1);rw[e,List.length_append]at DV;simp only[sD hi,cond_true,DB hi,XA,MH (show(l.take i).flatten.length+l[i].length≤bA by omega),e]
def nR.ok{x}(_:vA [.sl .bs] x){r}:aD x=some r→Lm x=some r:=QA λh=>zoY x h
def zvC(b:List UInt8)(f n:Int)(h:wt b≤bA)(hf:uE .i64 f)(hn:uE .i64 n):Ln b f n=some (cut b f n):=by
 have hl:b.length≤bA:=by rw[←FA];exact h
 have hL:=yB;have hf:=KS hf;simp only[Ln,aA,cut,List.nil_append]
 by_cases h1:f<0
 ·rw[decide_eq_true h1];rfl
 by_cases h2:n<0
 ·rw[decide_eq_false h1,decide_eq_true h2];rfl
 by_cases h3:f>(b.length:Int)
 ·rw[decide_eq_false h1,decide_eq_false h2,decide_eq_true h3];rfl
 have e:oA .i64 (b.length:Int) f=(b.length:Int) - f:=by rw[oA,FB (by omega) (by omega)]
 rw[e]
 by_cases h4:n>(b.length:Int) - f
 ·rw[decide_eq_false h1,decide_eq_false h2,decide_eq_false h3,decide_eq_true h4];rfl
 have e2:fA .i64 f n=f+n:=by rw[fA,FB (by omega) (by omega)]
 have e3:(decide (0≤f)&&decide (f≤f+n)&&decide (f+n≤(b.length:Int)))=true:=by simp;omega
 rw[decide_eq_false h1,decide_eq_false h2,decide_eq_false h3,decide_eq_false h4];simp only[cond_false,e2];rw[e3,show f+n - f=n by omega];have:((b.drop f.toNat).take n.toNat).length≤bA:=by rw[List.length_take,List.length_drop];omega
 rw[JO this];rfl
def MS.ok{x}(hb:vA [.sl .byte, .v .int, .v .int] x){r}:LJ x.1 x.2.1 x.2.2=some r→Ln x.1 x.2.1 x.2.2=some r:=QA λh=>
 zvC x.1 x.2.1 x.2.2 h (xO hb.2.1 0 (by decide) rfl) (xO hb.2.2 0 (by decide) rfl)
def ze3(l:List UInt8){i:Nat}(hi:i<l.length):JF (l.take (i+1))=fA .i64 (GB .i64 (JF (l.take i)) 256) (IntKind.wrap .i64 ((l[i].toNat:Nat):Int)):=by
 rw[JF,CM l hi,List.foldl_append];rfl
def zpP(b:List UInt8)(f k:Int)(h:wt b≤bA)(hf:uE .i64 f):Me b f k=some (FG b f k):=by
 have hl:b.length≤bA:=by rw[←FA];exact h
 have hL:=yB;have hf:=KS hf;simp only[Me,aA,FG]
 by_cases h1:k<1
 ·rw[decide_eq_true h1];rfl
 by_cases h2:k>6
 ·rw[decide_eq_false h1,decide_eq_true h2];rfl
 by_cases h3:f<0
 ·rw[decide_eq_false h1,decide_eq_false h2,decide_eq_true h3];rfl
 have e:oA .i64 (b.length:Int) k=(b.length:Int) - k:=by rw[oA,FB (by omega) (by omega)]
 rw[e]
 by_cases h4:f>(b.length:Int) - k
 ·rw[decide_eq_false h1,decide_eq_false h2,decide_eq_false h3,decide_eq_true h4];rfl
 rw[decide_eq_false h1,decide_eq_false h2,decide_eq_false h3,decide_eq_false h4];simp only[cond_false,Bool.or_false];obtain⟨a,rfl⟩:=rF (n:=f) (by omega);obtain⟨m,rfl⟩:=rF (n:=k) (by omega);simp only[Int.toNat_natCast];refine zgx m (by rw[dD];omega) (λi=>JF (((b.drop a).take m).take i)) _ (λi k hi=>?_) (λk=>?_) 0 (Nat.zero_le _)
 ·have e1:fA .i64 (a:Int) (i:Int)=((a+i:Nat):Int):=by rw[fA,FB (by omega) (by omega)];omega
  have FV:i<((b.drop a).take m).length:=by rw[List.length_take,List.length_drop];omega
  have hai:a+i<b.length:=by omega
  rw[sD hi,cond_true,e1,DB hai,XA,ze3 _ FV];simp only[List.getElem_take,List.getElem_drop]
 ·rw[UD,cond_false,List.take_of_length_le (i:=m) (by rw[List.length_take];omega)]
def rS.ok{x}(hb:vA [.sl .byte, .v .int, .v .int] x){r}:mH x.1 x.2.1 x.2.2=some r→Me x.1 x.2.1 x.2.2=some r:=QA λh=>
 zpP x.1 x.2.1 x.2.2 h (xO hb.2.1 0 (by decide) rfl)
def zur(p:List UInt8)(hp:p.length≤maxLen)(c:Int):uA FU (λ(x6:Int×Int) k7=>cond (x6.2<(p.length:Int)) (cond (0≤x6.2&&x6.2<(p.length:Int)) (Option.bind (p[x6.2.toNat]?) λe8=>
  k7 ((fA .i64 (GB .i64 256 x6.1) (IntKind.wrap .i64 ((e8.toNat:Nat):Int))),(fA .i64 x6.2 1))) none) (some (x6.1,c,true))) ((0:Int),(0:Int))=some (JF p,c,true):=by
 refine zgx p.length hp (λi=>JF (p.take i)) _ (λi k hi=>?_) (λk=>?_) 0 (Nat.zero_le _)
 ·have e3:(decide ((0:Int)≤(i:Int))&&decide ((i:Int)<(p.length:Int)))=true:=by simp;exact hi
  simp only[e3,sD hi,cond_true,Int.toNat_natCast,List.getElem?_eq_getElem hi,XA,ze3 _ hi,GB,Int.mul_comm 256];rw[show decide ((0:Int)≤(i:Int))=true from decide_eq_true (by omega)];rfl
 ·rw[UD,cond_false,List.take_length]
def zqg(b:List UInt8)(f k:Int)(h:wt b≤bA)(hf:uE .i64 f):Lo b f k=some (FG b f k):=by
 have hl:b.length≤bA:=by rw[←FA];exact h
 have hL:=yB;have hf:=KS hf;simp only[Lo,aA,FG,LJ,PA h,cut]
 by_cases h1:k<1
 ·rw[decide_eq_true h1];rfl
 by_cases h2:k>6
 ·rw[decide_eq_false h1,decide_eq_true h2];rfl
 by_cases h3:f<0
 ·rw[decide_eq_false h1,decide_eq_false h2,decide_eq_true h3];rfl
 rw[decide_eq_false h1,decide_eq_false h2,decide_eq_false h3,decide_eq_false (p:=k<0) (by omega)]
 by_cases h4:f>(b.length:Int) - k
 ·rw[decide_eq_true h4]
  by_cases h5:f>(b.length:Int)
  ·rw[decide_eq_true h5];rfl
  ·rw[decide_eq_false h5,decide_eq_true (p:=k>(b.length:Int) - f) (by omega)];rfl
 rw[decide_eq_false h4,decide_eq_false (p:=f>(b.length:Int)) (by omega),decide_eq_false (p:=k>(b.length:Int) - f) (by omega)];simp only[cond_false,Bool.or_false,Bool.not_true];obtain⟨a,rfl⟩:=rF (n:=f) (by omega);obtain⟨m,rfl⟩:=rF (n:=k) (by omega);simp only[Int.toNat_natCast];have DV:((b.drop a).take m).length=m:=by rw[List.length_take,List.length_drop];omega
 exact zur _ (by rw[DV,dD];omega) _
def yS.ok{x}(hb:vA [.sl .byte, .v .int, .v .int] x){r}:mH x.1 x.2.1 x.2.2=some r→Lo x.1 x.2.1 x.2.2=some r:=QA λh=>
 zqg x.1 x.2.1 x.2.2 h (xO hb.2.1 0 (by decide) rfl)
def zux(l:List UInt8)(h:l.length≤4):0≤JF l∧JF l<256^l.length:=by
 have key:∀i,i≤l.length→0≤JF (l.take i)∧JF (l.take i)<256^i:=by
  intro i;induction i with
  | zero=>intro _;simp[JF]
  | succ i ih=>
   intro hi;have FV:i<l.length:=by omega
   obtain⟨h1,h2⟩:=ih (by omega);have hb:=UInt8.toNat_lt l[i]
   have hp:(256:Int)^i≤16777216:=by
    have:i=0∨i=1∨i=2∨i=3:=by omega
    rcases this with rfl|rfl|rfl|rfl<;>decide
   rw[ze3 l FV,Int.pow_succ];generalize (256:Int)^i=q at *;generalize JF (l.take i)=v at *;have e1:IntKind.wrap .i64 ((l[i].toNat:Nat):Int)=(l[i].toNat:Int):=FB (by omega) (by omega);have e2:GB .i64 v 256=v *256:=FB (by omega) (by omega);rw[e1,e2,fA,FB (by omega) (by omega)];omega
 have:=key l.length (Nat.le_refl _);rwa [List.take_length]at this
def zvQ(x n:Int)(h:1≤n∧n≤31):Lp x n=some (pG x n):=by
 simp only[Lp,aA,pG,kE];rw[decide_eq_false (p:=n<0) (by omega),decide_eq_false (p:=n>31) (by omega)];have:oA .i64 32 n=32 - n:=by rw[oA,FB (by omega) (by omega)]
 rw[this,decide_eq_false (p:=32 - n<0) (by omega)];rfl
def XS.ok{x}(_:vA [.v .int, .v .int] x){r}:jE x.1 x.2=some r→Lp x.1 x.2=some r:=QA λh=>zvQ x.1 x.2 h
def zqS(a n:Int)(h:1≤n∧n≤31):Mf a n=some (pG a n):=by
 simp only[Mf,aA,pG,kE];rw[decide_eq_false (p:=n<1) (by omega),decide_eq_false (p:=n>31) (by omega),decide_eq_false (p:=n<0) (by omega)];have:oA .i64 32 n=32 - n:=by rw[oA,FB (by omega) (by omega)]
 rw[this,decide_eq_false (p:=32 - n<0) (by omega)];rfl
def VS.ok{x}(_:vA [.v .int, .v .int] x){r}:jE x.1 x.2=some r→Mf x.1 x.2=some r:=QA λh=>zqS x.1 x.2 h
def zbQ.ok{x}(_:vA [.v .int, .v .int] x):Qh x.1 x.2=some (RF x.1 x.2):=rfl
def zb1.ok{x}(_:vA [] x):Qf=some yE:=rfl
def zb0.ok{x}(_:vA [] x):Qj=some yE:=rfl
def zcJ.ok{x}(_:vA [] x):Qk=some II:=rfl
def EQ.ok{x}(hb:vA [.sl .int] x):Md x=some (zds x):=by
 show Md (x:List Int)=some (tC (x:List Int) 8)
 have hl:(show List Int from x).length≤maxLen:=hb.1;generalize (show List Int from x)=l at hl⊢;simp only[Md,aA];rw[zeG l hl,tC];cases List.all _ _<;>rfl
def ztp:∀m:Fin 64,Jg (m.val:Int)=some (FM (m.val:Int)):=by decide+kernel
def DN.ok{x}(_:vA [.v .int] x):Jg x=some (FM x):=by
 show Jg (x:Int)=some (FM (x:Int))
 generalize (show Int from x)=i
 by_cases h:0≤i∧i≤63
 ·obtain⟨m,rfl⟩:=rF h.1;exact ztp ⟨m,by omega⟩
 ·simp only[Jg,aA,FM,if_neg h]
  by_cases h1:i<0
  ·rw[decide_eq_true h1];rfl
  ·rw[decide_eq_false h1,decide_eq_true (p:=i>63) (by omega)];rfl
end Go.D
namespace Go.D
def xI{X R:Type}(idx:X→Int)(E:Nat→X)(X4:∀i,idx (E i)=(i:Int))(n:Nat)(hn:n≤maxLen)(z:Option R){f:X→(X→Option R)→Option R}(a:Nat)(ha:a≤n)
  (hf:∀(i:Nat) k,a≤i→i<n→f (E i) k=k (E (i+1))) (hz:∀k,f (E n) k=z):uA FU f (E a)=z:=by
 refine OH (g:=λ_=>z) (λx=>∃i:Nat,a≤i∧i≤n∧x=E i) (λx=>n - (idx x).toNat) (λx hx k hk=>?_) ⟨a,Nat.le_refl _,ha,rfl⟩ (by rw[X4];unfold maxLen at hn;simp only[Int.toNat_natCast];omega);obtain⟨i,h0,hi,rfl⟩:=hx
 rcases Nat.lt_or_eq_of_le hi with FV|rfl
 ·rw[hf i k h0 FV];exact hk _ ⟨i+1,by omega,FV,rfl⟩ (by rw[X4,X4];simp only[Int.toNat_natCast];omega)
 ·exact hz k
def KF{n i:Nat}(h:i<n):(decide ((0:Int)≤(i:Int))&&decide ((i:Int)<(n:Int)))=true:=by simp;exact h
def KH{l:List Int}{i:Nat}(h:i<l.length):l[i]?=some (l.getD i 0):=by
 rw[List.getD_eq_getElem?_getD,List.getElem?_eq_getElem h];rfl
def LM{i c:Nat}(h:i≤maxLen)(hc:c≤i):oA .i64 (i:Int) (c:Int)=((i - c:Nat):Int):=by
 rw[dD]at h;rw[oA,FB (by omega) (by omega)];omega
def sI{i:Nat}(h:i<maxLen):fA .i64 (i:Int) 1=((i+1:Nat):Int):=OG i h
def zwA{i n:Nat}(h:i<n):decide ((i:Int)<(n:Int))=true:=decide_eq_true (by omega)
def oL(b:List UInt8):∀i,(wD b i).length=i
 | 0=>rfl
 | i+1=>by rw[wD,List.length_append,oL b i];rfl
def zrA(b:List UInt8)(w:List Int)(i:Nat):yD (DM b w i):=by
 unfold DM;split
 ·unfold FG;cases decide ((4:Int)<1)||(decide ((4:Int)>6)||(decide (((4 *i:Nat):Int)<0)||decide (((4 *i:Nat):Int)>(b.length:Int) - 4)))
  ·simp only[cond_false];have h4:((b.drop ((4 *i:Nat):Int).toNat).take (4:Int).toNat).length≤4:=by rw[List.length_take];exact Nat.min_le_left _ _
   have:=zux _ h4
   have hp:(256:Int)^((b.drop ((4 *i:Nat):Int).toNat).take (4:Int).toNat).length≤4294967296:=by
    generalize ((b.drop ((4 *i:Nat):Int).toNat).take (4:Int).toNat).length=q at h4;have:q=0∨q=1∨q=2∨q=3∨q=4:=by omega
    rcases this with rfl|rfl|rfl|rfl|rfl<;>decide
   exact⟨this.1,by omega⟩
  ·show yD 0
   exact⟨by decide,by decide⟩
 ·exact zdZ _
def zlQ(b:List UInt8):∀(i j:Nat),yD ((wD b i).getD j 0)
 | 0,j=>by rw[show(wD b 0)=[]from rfl];simp;exact⟨by decide,by decide⟩
 | i+1,j=>by
  rw[wD,List.getD_eq_getElem?_getD,List.getElem?_append];split
  ·have:=zlQ b i j;rwa [List.getD_eq_getElem?_getD]at this
  ·cases hj:j - (wD b i).length with
   | zero=>exact zrA b _ i
   | succ m=>simp;exact⟨by decide,by decide⟩
def zmP{i:Nat}(h:i<16):GB .i64 4 (i:Int)=((4 *i:Nat):Int):=by
 rw[show GB .i64 4 (i:Int)=IntKind.wrap .i64 (4 *(i:Int))from rfl,FB (by omega) (by omega)];omega
def WE{β:Type}{x n:Int}{f:Int→Option β}(h:1≤n∧n≤31):Option.bind (jE x n) f=f (pG x n):=PA h
def zoi(b:List UInt8)(h:wt b≤bA):Mg b=some (BC b):=by
 simp only[Mg,aA,BC]
 by_cases hl:b.length=64
 case neg=>
  rw[show((b.length:Int) !=64)=true from bne_iff_ne.2 (by omega),if_neg hl];rfl
 rw[show((b.length:Int) !=64)=false by simp[hl],if_pos hl,cond_false];have hL:=yB;refine(xI (X:=List Int×Int) (λx=>x.2) (λi=>(wD b i,(i:Int))) (λ_=>rfl) 16 (by decide) (some (wD b 64)) 0 (by decide) (λi k _ hi=>?_) (λk=>?_))
 ·simp only[zwA (show i<16 from hi),show((16:Nat):Int)=16 from rfl,decide_eq_true (p:=(i:Int)<16) (by omega),cond_true,zmP hi,mH,PA h,sI (i:=i) (by rw[dD];omega)];rw[MH (by rw[oL];simp;omega),cond_true,wD,DM,if_pos hi]
 ·simp only[show((16:Nat):Int)=16 from rfl,show decide ((16:Int)<16)=false from rfl,cond_false];refine(xI (X:=List Int×Int) (λx=>x.2) (λi=>(wD b i,(i:Int))) (λ_=>rfl) 64 (by decide) (some (wD b 64)) 16 (by decide) (λi k qY hi=>?_) (λk=>?_))
  ·have hm:i≤maxLen:=by rw[dD];omega
   have e15:oA .i64 (i:Int) 15=((i - 15:Nat):Int):=LM (c:=15) hm (by omega);have e2:oA .i64 (i:Int) 2=((i - 2:Nat):Int):=LM (c:=2) hm (by omega);have e7:oA .i64 (i:Int) 7=((i - 7:Nat):Int):=LM (c:=7) hm (by omega);have e16:oA .i64 (i:Int) 16=((i - 16:Nat):Int):=LM (c:=16) hm (by omega);have hs:=oL b i
   simp only[decide_eq_true (p:=(i:Int)<64) (by omega),cond_true,e15,e2,e7,e16,KF (show i - 15<(wD b i).length by omega),KF (show i - 2<(wD b i).length by omega),KF (show i - 7<(wD b i).length by omega),KF (show i - 16<(wD b i).length by omega),Int.toNat_natCast,
    KH (show i - 15<(wD b i).length by omega),KH (show i - 2<(wD b i).length by omega),KH (show i - 7<(wD b i).length by omega),KH (show i - 16<(wD b i).length by omega),XA,WE (show(1:Int)≤7∧(7:Int)≤31 by decide),WE (show(1:Int)≤18∧(18:Int)≤31 by decide),WE (show(1:Int)≤17∧(17:Int)≤31 by decide),WE (show(1:Int)≤19∧(19:Int)≤31 by decide),sI (i:=i) (by rw[dD];omega)]
   rw[MH (by rw[oL];simp;omega),cond_true,wD,DM,if_neg (by omega)];rfl
  ·simp only[show((64:Nat):Int)=64 from rfl,show decide ((64:Int)<64)=false from rfl,cond_false]
def VP.ok{x}(_:vA [.sl .byte] x){r}:yM x=some r→Mg x=some r:=QA λh=>zoi x h
def pF(b:List UInt8)(i:Nat):List Int:=wD b i++List.replicate (64 - i) 0
def ziJ(b:List UInt8){i:Nat}(hi:i<64)(v:Int)(hv:v=DM b (wD b i) i):List.set (pF b i) i v=pF b (i+1):=by
 subst hv;rw[pF,show 64 - i=(64 - (i+1))+1 by omega,List.replicate_succ,zml _ _ _ _ (oL b i),pF,wD,List.append_assoc];rfl
def za4(b:List UInt8){i j:Nat}(hj:j<i):(pF b i)[j]?=some ((wD b i).getD j 0):=by
 rw[pF,List.getElem?_append_left (by rw[oL];exact hj),KH (by rw[oL];exact hj)]
def zeO(b:List UInt8){i:Nat}(h:i≤64):(pF b i).length=64:=by
 rw[pF,List.length_append,oL,List.length_replicate];omega
def zir(b:List UInt8){i j:Nat}(hi:i≤64)(hj:j<64):∃v,(pF b i)[j]?=some v:=⟨_,List.getElem?_eq_getElem (by rw[zeO b hi];exact hj)⟩
def zn9(b:List UInt8)(h:wt b≤bA):Lq b=some (BC b):=by
 simp only[Lq,aA,BC]
 by_cases hl:b.length=64
 case neg=>
  rw[show((b.length:Int) !=64)=true from bne_iff_ne.2 (by omega),if_neg hl];rfl
 rw[show((b.length:Int) !=64)=false by simp[hl],if_pos hl,cond_false];have hend:pF b 64=wD b 64:=by simp[pF]
 refine(xI (X:=Int×List Int) (λx=>x.1) (λi=>((i:Int),pF b i)) (λ_=>rfl) 16 (by decide) (some (wD b 64)) 0 (by decide) (λi k _ hi=>?_) (λk=>?_))
 ·have DV:=zeO b (i:=i) (by omega);obtain⟨v,hv⟩:=zir b (i:=i) (j:=i) (by omega) (by omega);simp only[decide_eq_true (p:=(i:Int)<16) (by omega),cond_true,zmP hi,mH,PA h,KF (show i<(pF b i).length by omega),Int.toNat_natCast,hv,XA,sI (i:=i) (by rw[dD];omega)];rw[ziJ b (by omega) _ (by rw[DM,if_pos hi])]
 ·simp only[show((16:Nat):Int)=16 from rfl,show decide ((16:Int)<16)=false from rfl,cond_false];refine(xI (X:=Int×List Int) (λx=>x.1) (λi=>((i:Int),pF b i)) (λ_=>rfl) 64 (by decide) (some (wD b 64)) 16 (by decide) (λi k qY hi=>?_) (λk=>?_))
  ·have hm:i≤maxLen:=by rw[dD];omega
   have DV:=zeO b (i:=i) (by omega);obtain⟨v,hv⟩:=zir b (i:=i) (j:=i) (by omega) (by omega);have e15:oA .i64 (i:Int) 15=((i - 15:Nat):Int):=LM (c:=15) hm (by omega);have e2:oA .i64 (i:Int) 2=((i - 2:Nat):Int):=LM (c:=2) hm (by omega);have e7:oA .i64 (i:Int) 7=((i - 7:Nat):Int):=LM (c:=7) hm (by omega);have e16:oA .i64 (i:Int) 16=((i - 16:Nat):Int):=LM (c:=16) hm (by omega)
   simp only[decide_eq_true (p:=(i:Int)<64) (by omega),cond_true,e15,e2,e7,e16,KF (show i - 15<(pF b i).length by omega),KF (show i - 2<(pF b i).length by omega),KF (show i - 7<(pF b i).length by omega),KF (show i - 16<(pF b i).length by omega),KF (show i<(pF b i).length by omega),Int.toNat_natCast,
    za4 b (show i - 15<i by omega),za4 b (show i - 2<i by omega),za4 b (show i - 7<i by omega),za4 b (show i - 16<i by omega),hv,XA,WE (show(1:Int)≤7∧(7:Int)≤31 by decide),WE (show(1:Int)≤18∧(18:Int)≤31 by decide),WE (show(1:Int)≤17∧(17:Int)≤31 by decide),WE (show(1:Int)≤19∧(19:Int)≤31 by decide),sI (i:=i) (by rw[dD];omega)]
   rw[ziJ b hi _ (by rw[DM,if_neg (by omega)];rfl)]
  ·simp only[show((64:Nat):Int)=64 from rfl,show decide ((64:Int)<64)=false from rfl,cond_false,hend]
def hQ.ok{x}(_:vA [.sl .byte] x){r}:yM x=some r→Lq x=some r:=QA λh=>zn9 x h
def zr6(b:List UInt8)(j:Nat):yD ((BC b).getD j 0):=by
 unfold BC;split
 ·exact zlQ b 64 j
 ·simp;exact⟨by decide,by decide⟩
end Go.D
namespace Go.D
def zkv:II.length=64:=by decide
def zwR:∀m:Fin 64,decide (0≤II.getD m.val 0)&&decide (II.getD m.val 0≤4294967295)=true:=by decide+kernel
def k_w{i:Nat}(h:i<64):yD (II.getD i 0):=by
 have:=zwR ⟨i,h⟩;simp only[Bool.and_eq_true,decide_eq_true_eq]at this;exact this
def zpE{i:Nat}(h:i<64):FM (i:Int)=II.getD i 0:=by
 rw[FM,if_pos (by omega),Int.toNat_natCast]
def W8(s:S8):Prop:=yD s.1∧yD s.2.1∧yD s.2.2.1∧yD s.2.2.2.1∧yD s.2.2.2.2.1∧yD s.2.2.2.2.2.1∧yD s.2.2.2.2.2.2.1∧yD s.2.2.2.2.2.2.2
def zvp(k w:Int){s:S8}(h:W8 s):W8 (zdT k w s):=⟨zdZ _,h.1,h.2.1,h.2.2.1,zdZ _,h.2.2.2.2.1,h.2.2.2.2.2.1,h.2.2.2.2.2.2.1⟩
def zkj(w:List Int){s:S8}(h:W8 s):∀i,W8 (rounds w s i)
 | 0=>h
 | i+1=>zvp _ _ (zkj w h i)
def zah{a b:Int}{m n:Int}(ha:0≤a∧a≤m)(hb:0≤b∧b≤n)(h:m+n≤9223372036854775807):0≤fA .i64 a b∧fA .i64 a b≤m+n:=by
 rw[fA,FB (by omega) (by omega)];omega
def zwL:yD 4294967295:=⟨by decide,by decide⟩
def zzJ{k w:Int}{s:S8}(hk:yD k)(hw:yD w)(h:W8 s):0≤rT k w s∧rT k w s≤21474836475:=by
 obtain⟨_,_,_,_,h5,h6,h7,h8⟩:=h;have a1:=bN (bN (wT s.2.2.2.2.1 6) (wT s.2.2.2.2.1 11)) (wT s.2.2.2.2.1 25);have a2:=bN (zac h5 h6) (zac (bN h5 zwL) h7);have b1:=zah h8 a1 (by decide);have b2:=zah b1 a2 (by decide);have b3:=zah b2 hk (by decide);exact zah b3 hw (by decide)
def zyI{s:S8}(h:W8 s):0≤rU s∧rU s≤8589934590:=by
 obtain⟨h1,h2,h3,_⟩:=h;exact zah (bN (bN (wT s.1 2) (wT s.1 13)) (wT s.1 22)) (bN (bN (zac h1 h2) (zac h1 h3)) (zac h2 h3)) (by decide)
def zls{a b:Int}(ha:0≤a∧a≤1099511627776)(hb:0≤b∧b≤1099511627776):kE (fA .i64 a b)=kE (fA .i64 (kE a) (kE b)):=by
 have h1:=zdD a;have h2:=zdD b;rw[fA,fA,FB (by omega) (by omega),FB (by omega) (by omega),sV (by omega) (by omega),sV (a:=kE a+kE b) (by omega) (by omega),sV ha.1 (by omega),sV hb.1 (by omega)];omega
def zwO{a:Int}(h:yD a):kE a=a:=by
 rw[sV h.1 (Int.le_trans h.2 (by decide))];have:=h.1;have:=h.2;omega
def fL{h:List Int}(hw:tC h 8=true):h.length=8∧∀j,yD (h.getD j 0):=by
 simp only[tC,Bool.and_eq_true,beq_iff_eq,List.all_eq_true]at hw;refine⟨by omega,λj=>?_⟩
 by_cases hj:j<h.length
 ·rw[List.getD_eq_getElem?_getD,List.getElem?_eq_getElem hj];exact rD.1 (hw.1 _ (List.getElem_mem hj))
 ·rw[List.getD_eq_getElem?_getD,List.getElem?_eq_none (by omega)];exact⟨by decide,by decide⟩
def zxg{h:List Int}(hw:tC h 8=true):W8 (lE h):=by
 have:=(fL hw).2;exact⟨this 0,this 1,this 2,this 3,this 4,this 5,this 6,this 7⟩
def zcU(h:List Int)(s:S8)(hl:h.length=8):(List.zipWith RF h (UH s)).length=8:=by
 rw[List.length_zipWith,hl];rfl
def zrN{h:List Int}(b:List UInt8)(hw:tC h 8=true):tC (xF h b) 8=true:=by
 have hl:=(fL hw).1;simp only[tC,Bool.and_eq_true,beq_iff_eq,List.all_eq_true];refine⟨λx hx=>?_,?_⟩
 ·obtain⟨i,hi,rfl⟩:=List.getElem_of_mem hx;have hi2:i<(List.zipWith RF h (UH (rounds (BC b) (lE h) 64))).length:=hi;show eA ((List.zipWith RF h (UH (rounds (BC b) (lE h) 64)))[i]'hi2) 0 4294967295=true
  rw[List.getElem_zipWith];exact rD.2 (zdD _)
 ·have:=zcU h (rounds (BC b) (lE h) 64) hl;show((List.zipWith RF h (UH (rounds (BC b) (lE h) 64))).length:Int)=8
  omega
def zph{h:List Int}(b:List UInt8)(hw:tC h 8=true):tC (EL h b) 8=true:=by
 unfold EL;cases tC h 8&&b.length==64
 ·exact hw
 ·exact zrN b hw
def ziF{b:List UInt8}(h:b.length=64):(BC b).length=64:=by
 rw[BC,if_pos h,oL]
def aF(h:List Int)(z:List Int)(i:Nat):List Int:=z.take i++h.drop i
def zsq{h z:List Int}(hl:h.length=z.length){i:Nat}(hi:i<z.length)(v:Int)(hv:v=z[i]):List.set (aF h z i) i v=aF h z (i+1):=by
 subst hv;have hi2:i<h.length:=by omega
 rw[aF,vS h hi2,zml _ _ _ _ (by rw[List.length_take];omega),aF,CM z hi,List.append_assoc];rfl
def zjf{h z:List Int}(hl:h.length=z.length){i:Nat}(hi:i≤z.length):(aF h z i).length=z.length:=by
 rw[aF,List.length_append,List.length_take,List.length_drop];omega
def YE{l:List Int}{i:Nat}(h:i<l.length):jA l (i:Int)=some (l.getD i 0):=by rw[zku,KH h]
def zvv(h:List Int)(s:S8)(hl:h.length=8){i:Nat}(hi:i<(List.zipWith RF h (UH s)).length):(List.zipWith RF h (UH s))[i]=RF (h.getD i 0) ((UH s).getD i 0):=by
 have h8:=zcU h s hl;rw[List.getElem_zipWith,List.getD_eq_getElem?_getD,List.getD_eq_getElem?_getD,List.getElem?_eq_getElem (by omega),List.getElem?_eq_getElem (by show i<8;omega)];rfl
def zcC{h:List Int}(b:List UInt8)(h8:h.length=8):(xF h b).length=8:=zcU h _ h8
def zkr{h:List Int}(b:List UInt8)(h8:h.length=8){i:Nat}(hi:i<8):List.set (aF h (xF h b) i) i (RF (h.getD i 0) ((UH (rounds (BC b) (lE h) 64)).getD i 0))=aF h (xF h b) (i+1):=
 zsq (by rw[zcC b h8,h8]) (by rw[zcC b h8];exact hi) _ (zvv h _ h8 (by rw[zcU h _ h8];exact hi)).symm
def zoe(h:List Int)(b:List UInt8)(hh:wt h≤bA∧wt b≤bA):Mh h b=some (EL h b):=by
 have DV:h.length≤bA:=by rw[←ML];exact hh.1
 simp only[Mh,aA,List.nil_append,EL,zds,yM,PA hh.2];rw[show decide (([]:List Int).length+h.length≤bA)=true from decide_eq_true (by simpa using DV)];simp only[cond_true];cases hw:tC h 8
 ·rfl
 by_cases hb:b.length=64
 case neg=>
  rw[show((b.length:Int) !=64)=true from bne_iff_ne.2 (by omega),beq_false_of_ne hb];rfl
 rw[show((b.length:Int) !=64)=false by simp[hb],show(b.length==64)=true by simp[hb]];obtain⟨h8,hW⟩:=fL hw;have i0:jA h 0=some (h.getD 0 0):=YE (i:=0) (by omega);have i1:jA h 1=some (h.getD 1 0):=YE (i:=1) (by omega);have i2:jA h 2=some (h.getD 2 0):=YE (i:=2) (by omega);have i3:jA h 3=some (h.getD 3 0):=YE (i:=3) (by omega);have i4:jA h 4=some (h.getD 4 0):=YE (i:=4) (by omega);have i5:jA h 5=some (h.getD 5 0):=YE (i:=5) (by omega);have i6:jA h 6=some (h.getD 6 0):=YE (i:=6) (by omega);have i7:jA h 7=some (h.getD 7 0):=YE (i:=7) (by omega);simp only[Bool.not_true,cond_false,Bool.and_true,cond_true,i0,i1,i2,i3,i4,i5,i6,i7,XA];have rY:=ziF hb;refine xI (λx=>x.2.2.2.2.2.2.2.2) (λi=>((rounds (BC b) (lE h) i).1,(rounds (BC b) (lE h) i).2.1,(rounds (BC b) (lE h) i).2.2.1,(rounds (BC b) (lE h) i).2.2.2.1,(rounds (BC b) (lE h) i).2.2.2.2.1,(rounds (BC b) (lE h) i).2.2.2.2.2.1,(rounds (BC b) (lE h) i).2.2.2.2.2.2.1,(rounds (BC b) (lE h) i).2.2.2.2.2.2.2,(i:Int))) (λ_=>rfl) 64 (by decide) (some (xF h b)) 0 (by decide) (λi k _ hi=>?_) (λk=>?_)
 ·simp only[decide_eq_true (p:=(i:Int)<64) (by omega),cond_true,Int.toNat_natCast,KF (show i<II.length by rw[zkv];exact hi),KF (show i<(BC b).length by omega),KH (show i<II.length by rw[zkv];exact hi),KH (show i<(BC b).length by omega),XA,
   WE (show(1:Int)≤6∧(6:Int)≤31 by decide),WE (show(1:Int)≤11∧(11:Int)≤31 by decide),WE (show(1:Int)≤25∧(25:Int)≤31 by decide),WE (show(1:Int)≤2∧(2:Int)≤31 by decide),WE (show(1:Int)≤13∧(13:Int)≤31 by decide),WE (show(1:Int)≤22∧(22:Int)≤31 by decide),sI (i:=i) (by rw[dD];omega)]
  rfl
 ·simp only[show((64:Nat):Int)=64 from rfl,show decide ((64:Int)<64)=false from rfl,cond_false];have M2:=zcC b h8;refine xI (X:=Int×List Int) (λx=>x.1) (λi=>((i:Int),aF h (xF h b) i)) (λ_=>rfl) 8 (by decide) (some (xF h b)) 0 (by decide) (λi k _ hi=>?_) (λk=>?_)
  ·have V8:(aF h (xF h b) i).length=8:=by rw[zjf (by rw[M2,h8]) (by rw[M2];omega),M2]
   have P5:i<(UH (rounds (BC b) (lE h) 64)).length:=hi;have ho:(aF h (xF h b) i)[i]?=some ((aF h (xF h b) i).getD i 0):=KH (by omega);simp only[decide_eq_true (p:=(i:Int)<8) (by omega),cond_true,YE (show i<h.length by omega),XA,KF (show i<(aF h (xF h b) i).length by omega),ho,Int.toNat_natCast,sI (i:=i) (by rw[dD];omega)];have e1:=KF P5;have e2:=KH P5;unfold UH at e1 e2;rw[e1,cond_true,e2,XA];exact congrArg (λl=>k (((i+1:Nat):Int),l)) (zkr b h8 hi)
  ·simp only[show((8:Nat):Int)=8 from rfl,show decide ((8:Int)<8)=false from rfl,cond_false];rw[aF,List.take_of_length_le (by rw[M2];exact Nat.le_refl _),List.drop_eq_nil_of_le (by omega),List.append_nil]
def aQ.ok{x}(_:vA [.sl .int, .sl .byte] x){r}:vL x.1 x.2=some r→Mh x.1 x.2=some r:=QA λh=>zoe x.1 x.2 h
def zti{k w:Int}{s:S8}(hk:yD k)(hw:yD w)(h:W8 s):zdT k w s=(RF (rT k w s) (rU s),s.1,s.2.1,s.2.2.1,RF s.2.2.2.1 (rT k w s),s.2.2.2.2.1,s.2.2.2.2.2.1,s.2.2.2.2.2.2.1):=by
 have ht:=zzJ hk hw h;have hu:=zyI h;have hd:=h.2.2.2.1;rw[zdT,RF,RF,zls (a:=rT k w s) (b:=rU s) ⟨ht.1,by omega⟩ ⟨hu.1,by omega⟩,zls (a:=s.2.2.2.1) (b:=rT k w s) ⟨hd.1,Int.le_trans hd.2 (by decide)⟩ ⟨ht.1,by omega⟩,zwO hd]
def zoh(h:List Int)(b:List UInt8)(hh:wt h≤bA∧wt b≤bA):Lr h b=some (EL h b):=by
 have DV:h.length≤bA:=by rw[←ML];exact hh.1
 simp only[Lr,aA,List.nil_append,EL,yM,PA hh.2];rw[show decide (([]:List Int).length+h.length≤bA)=true from decide_eq_true (by simpa using DV)];simp only[cond_true];cases hw:tC h 8
 ·rfl
 by_cases hb:b.length=64
 case neg=>
  rw[show((b.length:Int) !=64)=true from bne_iff_ne.2 (by omega),beq_false_of_ne hb];rfl
 rw[show((b.length:Int) !=64)=false by simp[hb],show(b.length==64)=true by simp[hb]];obtain⟨h8,hW⟩:=fL hw;have i0:jA h 0=some (h.getD 0 0):=YE (i:=0) (by omega);have i1:jA h 1=some (h.getD 1 0):=YE (i:=1) (by omega);have i2:jA h 2=some (h.getD 2 0):=YE (i:=2) (by omega);have i3:jA h 3=some (h.getD 3 0):=YE (i:=3) (by omega);have i4:jA h 4=some (h.getD 4 0):=YE (i:=4) (by omega);have i5:jA h 5=some (h.getD 5 0):=YE (i:=5) (by omega);have i6:jA h 6=some (h.getD 6 0):=YE (i:=6) (by omega);have i7:jA h 7=some (h.getD 7 0):=YE (i:=7) (by omega);simp only[Bool.not_true,cond_false,Bool.and_true,cond_true,i0,i1,i2,i3,i4,i5,i6,i7,XA];have rY:=ziF hb;refine xI (λx=>x.2.2.2.2.2.2.2.2) (λi=>((rounds (BC b) (lE h) i).1,(rounds (BC b) (lE h) i).2.1,(rounds (BC b) (lE h) i).2.2.1,(rounds (BC b) (lE h) i).2.2.2.1,(rounds (BC b) (lE h) i).2.2.2.2.1,(rounds (BC b) (lE h) i).2.2.2.2.2.1,(rounds (BC b) (lE h) i).2.2.2.2.2.2.1,(rounds (BC b) (lE h) i).2.2.2.2.2.2.2,(i:Int))) (λ_=>rfl) 64 (by decide) (some (xF h b)) 0 (by decide) (λi k _ hi=>?_) (λk=>?_)
 ·have hs:=zti (k_w hi) (zr6 b i) (zkj (BC b) (zxg hw) i)
  simp only[decide_eq_true (p:=(i:Int)<64) (by omega),cond_true,Int.toNat_natCast,KF (show i<(BC b).length by omega),KH (show i<(BC b).length by omega),XA,zpE hi,ztt 4294967295,
   WE (show(1:Int)≤6∧(6:Int)≤31 by decide),WE (show(1:Int)≤11∧(11:Int)≤31 by decide),WE (show(1:Int)≤25∧(25:Int)≤31 by decide),WE (show(1:Int)≤2∧(2:Int)≤31 by decide),WE (show(1:Int)≤13∧(13:Int)≤31 by decide),WE (show(1:Int)≤22∧(22:Int)≤31 by decide),sI (i:=i) (by rw[dD];omega)]
  rw[rounds,hs];rfl
 ·simp only[show((64:Nat):Int)=64 from rfl,show decide ((64:Int)<64)=false from rfl,cond_false];have M2:=zcC b h8;refine xI (X:=Int×List Int) (λx=>x.1) (λi=>((i:Int),aF h (xF h b) i)) (λ_=>rfl) 8 (by decide) (some (xF h b)) 0 (by decide) (λi k _ hi=>?_) (λk=>?_)
  ·have V8:(aF h (xF h b) i).length=8:=by rw[zjf (by rw[M2,h8]) (by rw[M2];omega),M2]
   have P5:i<(UH (rounds (BC b) (lE h) 64)).length:=hi;have ho:(aF h (xF h b) i)[i]?=some ((aF h (xF h b) i).getD i 0):=KH (by omega);simp only[cond_true,YE (show i<h.length by omega),XA,KF (show i<(aF h (xF h b) i).length by omega),ho,Int.toNat_natCast,sI (i:=i) (by rw[dD];omega)];have e0:=sD P5;have e1:=KF P5;have e2:=KH P5;unfold UH at e0 e1 e2;rw[e0,cond_true,show decide ((0:Int)≤(i:Int))=true from decide_eq_true (by omega),Bool.and_true,cond_true,e2,XA];exact congrArg (λl=>k (((i+1:Nat):Int),l)) (zkr b h8 hi)
  ·simp only[List.length_cons,List.length_nil];rw[show decide (((8:Nat):Int)<((0+1+1+1+1+1+1+1+1:Nat):Int))=false from rfl,cond_false];rw[aF,List.take_of_length_le (by rw[M2];exact Nat.le_refl _),List.drop_eq_nil_of_le (by omega),List.append_nil]
def cQ.ok{x}(_:vA [.sl .int, .sl .byte] x){r}:vL x.1 x.2=some r→Lr x.1 x.2=some r:=QA λh=>zoh x.1 x.2 h
end Go.D
namespace Go.D
def oM:∀(n:Nat) (h:List Int) (b:List UInt8),tC h 8=true→tC (DC h n b) 8=true
 | 0,h,b,hw=>hw
 | n+1,h,b,hw=>oM n _ _ (zph _ hw)
def zfa:∀(n:Nat) (h:List Int) (b:List UInt8),DC h (n+1) b=EL (DC h n b) ((b.drop (64 *n)).take 64)
 | 0,h,b=>rfl
 | n+1,h,b=>by
  rw[DC,zfa n,DC,List.drop_drop];rw[show 64+64 *n=64 *(n+1)by omega]
def zjj:∀(m k:Nat) (h:List Int) (b:List UInt8),DC h (m+k) b=DC (DC h m b) k (b.drop (64 *m))
 | 0,k,h,b=>by simp[DC]
 | m+1,k,h,b=>by
  rw[show m+1+k=(m+k)+1 by omega,DC,zjj m k,DC,List.drop_drop,show 64+64 *m=64 *(m+1)by omega]
def zjJ:∀(m:Nat) (h:List Int) (b p:List UInt8),64 *m≤b.length→DC h m (b++p)=DC h m b
 | 0,h,b,p,_=>rfl
 | m+1,h,b,p,hl=>by
  rw[DC,DC,List.take_append_of_le_length (by omega),List.drop_append_of_le_length (by omega),zjJ m _ _ _ (by rw[List.length_drop];omega)]
def zdL{h:List Int}(hw:tC h 8=true):wt h≤bA:=by
 rw[ML,(fL hw).1,yB];decide
def zsu(l:List UInt8)(h:64≤l.length):List.take (((l.length:Int) - 64).toNat) (List.drop 64 l)=l.drop 64:=by
 rw[List.take_of_length_le];rw[List.length_drop];omega
def zkD(n:Nat):64 *(n / 64)≤n:=Nat.mul_div_le n 64
def znN(h:List Int)(b:List UInt8)(hb:wt b≤bA)(hw:tC h 8=true):Ls h b=some (DC h (b.length / 64) b,b.drop (64 *(b.length / 64))):=by
 have hl:b.length≤bA:=by rw[←FA];exact hb
 simp only[Ls,aA];refine OH (g:=λ_=>some (DC h (b.length / 64) b,b.drop (64 *(b.length / 64)))) (λx=>∃i:Nat,64 *i≤b.length∧x=(DC h i b,b.drop (64 *i))) (λx=>x.2.length) (λx hx k hk=>?_) (x:=(h,b)) ⟨0,Nat.zero_le _,by simp[DC]⟩ (by show b.length<2^64;rw[yB]at hl;omega);obtain⟨i,hi,rfl⟩:=hx;have hdl:(b.drop (64 *i)).length=b.length - 64 *i:=List.length_drop;have hds:=qF b (64 *i)
 by_cases sX:64 *(i+1)≤b.length
 ·have e1:decide (((b.drop (64 *i)).length:Int)≥64)=true:=decide_eq_true (by omega);have e2:(decide ((0:Int)≤0)&&decide ((0:Int)≤64)&&true)=true:=rfl;have e3:(decide ((0:Int)≤64)&&true&&decide (((b.drop (64 *i)).length:Int)≤((b.drop (64 *i)).length:Int)))=true:=by simp
  have mY:=hk (DC h (i+1) b,b.drop (64 *(i+1))) ⟨i+1,sX,rfl⟩ (by show(b.drop (64 *(i+1))).length<(b.drop (64 *i)).length;rw[List.length_drop,List.length_drop];omega);rw[zfa,show 64 *(i+1)=64 *i+64 by omega, ←List.drop_drop]at mY;simp only[e1,e2,e3,cond_true,List.drop_zero,vL,PA (p:=wt (DC h i b)≤bA∧wt ((b.drop (64 *i)).take 64)≤bA) ⟨zdL (oM i h b hw),Nat.le_trans (dE _ _) (Nat.le_trans hds hb)⟩,zsu _ (show 64≤(b.drop (64 *i)).length by omega)];exact mY
 ·have e1:decide (((b.drop (64 *i)).length:Int)≥64)=false:=decide_eq_false (by omega);have:i=b.length / 64:=by omega
  simp only[e1,cond_false, ←this]
def vP.ok{x}(_:vA [.sl .int, .sl .byte] x){r}:GT x.1 x.2=some r→Ls x.1 x.2=some r:=QA λh=>znN x.1 x.2 h.2.2 h.2.1
def jI(n:Int):∀i,(XD n i).length=i
 | 0=>rfl
 | i+1=>by rw[XD,List.length_cons,jI n i]
def zas(b:List UInt8)(n:Int):xD b n 4=b++XD n 4:=rfl
def zmv(b:List UInt8)(n:Int):xD b n 6=b++XD n 6:=rfl
def zh9(h:List Int){i:Nat}(hi:i<h.length):nF (h.take (i+1))=nF (h.take i)++XD (h.getD i 0) 4:=by
 rw[nF,CM h hi,List.flatMap_append];simp[nF,List.getD_eq_getElem?_getD,hi]
def zaW:∀h:List Int,(nF h).length=4 *h.length
 | []=>rfl
 | x :: h=>by
  rw[nF,List.flatMap_cons,List.length_append,jI,List.length_cons];have:=zaW h;rw[nF]at this;omega
def znZ(h:List Int)(h8:h.length=8):Lv h=some (nF h):=by
 have hL:=yB;simp only[Lv,aA];refine xI (X:=List UInt8×Int) (λx=>x.2) (λi=>(nF (h.take i),(i:Int))) (λ_=>rfl) h.length (by rw[h8];decide) _ 0 (Nat.zero_le _) (λi k _ hi=>?_) (λk=>by simp only[UD,cond_false,List.take_length]);have hwl:=zaW (h.take i);rw[List.length_take]at hwl;simp only[sD hi,cond_true,YE hi,XA,JB,PA (p:=wt (nF (h.take i))+6≤bA) (by rw[FA];omega),zas,sI (i:=i) (by rw[dD];omega),zh9 h hi]
def SP.ok{x}(_:vA [.sl .int] x){r}:mL x=some r→Lv x=some r:=QA λh=>znZ x h
def zpw(h:List Int)(h8:h.length=8):Mi h=some (nF h):=by
 have hL:=yB;simp only[Mi,aA];refine xI (X:=List UInt8×Int) (λx=>x.2) (λi=>(nF (h.take i),(i:Int))) (λ_=>rfl) 8 (by decide) _ 0 (Nat.zero_le _) (λi k _ hi=>?_) (λk=>?_)
 ·have hwl:=zaW (h.take i);rw[List.length_take]at hwl;simp only[decide_eq_true (p:=(i:Int)<8) (by omega),cond_true,YE (show i<h.length by omega),XA,JB,PA (p:=wt (nF (h.take i))+6≤bA) (by rw[FA];omega),zas,sI (i:=i) (by rw[dD];omega),zh9 h (show i<h.length by omega)]
 ·simp only[show((8:Nat):Int)=8 from rfl,show decide ((8:Int)<8)=false from rfl,cond_false];rw[List.take_of_length_le (by omega)]
def XR.ok{x}(_:vA [.sl .int] x){r}:mL x=some r→Mi x=some r:=QA λh=>zpw x h
def zjQ:(UInt8.ofNat (0:Int).toNat)=0:=rfl
def zkp(n:Nat)(hn:n≤1048576)(z:List UInt8→Option (List UInt8)):uA FU (λ(x5:(List UInt8)) k6=>cond ((xA .i64 (fA .i64 (fA .i64 (n:Int) (x5.length:Int)) 8) 64) !=0)
  (cond (x5.length+[UInt8.ofNat (0:Int).toNat].length≤bA) (k6 (x5++[UInt8.ofNat (0:Int).toNat])) none) (z x5)) [UInt8.ofNat (128:Int).toNat]=z (128 :: List.replicate (tF n) 0):=by
 have hz:tF n<64:=Nat.mod_lt _ (by decide);have hL:=yB;refine OH (g:=λ_=>z (128 :: List.replicate (tF n) 0)) (λx=>∃j:Nat,j≤tF n∧x=128 :: List.replicate j 0) (λx=>tF n+1 - x.length) (λx hx k hk=>?_) ⟨0,Nat.zero_le _,rfl⟩ (by show tF n+1 - 1<2^64;omega);obtain⟨j,hj,rfl⟩:=hx
 have e1:fA .i64 (fA .i64 (n:Int) (((128 :: List.replicate j 0:List UInt8).length:Nat):Int)) 8=((n+(j+1)+8:Nat):Int):=by
  rw[List.length_cons,List.length_replicate];have a1:fA .i64 (n:Int) ((j+1:Nat):Int)=((n+(j+1):Nat):Int):=by rw[fA,FB (by omega) (by omega)];omega
  rw[a1,fA,FB (by omega) (by omega)];omega
 have e2:xA .i64 ((n+(j+1)+8:Nat):Int) 64=(((n+(j+1)+8) % 64:Nat):Int):=SS _ 64;simp only[e1,e2]
 rcases Nat.lt_or_eq_of_le hj with FV|rfl
 ·have:(n+(j+1)+8) % 64≠0:=by unfold tF at FV;omega
  rw[show((((n+(j+1)+8) % 64:Nat):Int) !=0)=true from bne_iff_ne.2 (by omega),cond_true,MH (by simp;omega),cond_true];refine hk _ ⟨j+1,FV,?_⟩ (by simp;omega);rw[zjQ,List.cons_append,List.replicate_succ']
 ·have:(n+(tF n+1)+8) % 64=0:=by unfold tF;omega
  rw[this];rfl
def zvj(n:Nat)(hn:n≤1048576):XD ((8 *n:Nat):Int) 6=[0,0]++XD ((8 *n:Nat):Int) 4:=by
 have h5:iE .i64 ((8 *n:Nat):Int) (GB .i64 8 ((5:Nat):Int))=0:=by
  show Int.fdiv ((8 *n:Nat):Int) 1099511627776=0
  rw[Int.fdiv_eq_ediv_of_nonneg _ (by decide)];omega
 have h4:iE .i64 ((8 *n:Nat):Int) (GB .i64 8 ((4:Nat):Int))=0:=by
  show Int.fdiv ((8 *n:Nat):Int) 4294967296=0
  rw[Int.fdiv_eq_ediv_of_nonneg _ (by decide)];omega
 rw[XD,XD];rw[show xJ ((8 *n:Nat):Int) 5=0 by rw[xJ,h5];rfl,show xJ ((8 *n:Nat):Int) 4=0 by rw[xJ,h4];rfl];rfl
def zmA{n:Nat}(h:n≤1048576):GB .i64 8 (n:Int)=((8 *n:Nat):Int):=by
 rw[show GB .i64 8 (n:Int)=IntKind.wrap .i64 (8 *(n:Int))from rfl,FB (by omega) (by omega)];omega
def JU(n:Nat):(128 :: List.replicate (tF n) 0:List UInt8).length=tF n+1:=by simp
def zqO(n:Nat)(hn:n≤1048576):Mc (n:Int)=some (zD n):=by
 have hz:tF n<64:=Nat.mod_lt _ (by decide);have hL:=yB;simp only[Mc,aA,decide_eq_false (p:=(n:Int)<0) (by omega),decide_eq_false (p:=(n:Int)>1048576) (by omega),cond_false];rw[zkp n hn];simp only[JB,PA (p:=wt (128 :: List.replicate (tF n) 0:List UInt8)+6≤bA) (by rw[FA,JU];omega),zas,zmA hn];rw[PA (by rw[FA,List.length_append,JU,jI];omega),zD,List.append_assoc];rfl
def PS.ok{x}(_:vA [.v .int] x){r}:nN x=some r→Mc x=some r:=QA λh=>by
 obtain⟨n,hn⟩:=rF h.1;have hn:x=(n:Int):=hn;have h2:(x:Int)≤1048576:=h.2;subst hn;exact zqO n (by omega)
def zqm(n:Nat)(hn:n≤1048576):Lu (n:Int)=some (zD n):=by
 have hz:tF n<64:=Nat.mod_lt _ (by decide);have hL:=yB;have oW:eA (n:Int) 0 1048576=true:=rD.2 ⟨by omega,by omega⟩;simp only[Lu,aA,oW,Bool.not_true,cond_false];rw[zkp n hn (λy1=>cond (y1.length+[UInt8.ofNat (0:Int).toNat,UInt8.ofNat (0:Int).toNat].length≤bA) (Option.bind (JB (y1++[UInt8.ofNat (0:Int).toNat,UInt8.ofNat (0:Int).toNat]) (GB .i64 8 (n:Int)) 6) λr7=>some r7) none)];rw[MH (by rw[JU];simp;omega),cond_true,JB,PA (by rw[FA,List.length_append,JU];simp;omega),zmv,zmA hn,zvj n hn,zD,List.append_assoc];rfl
def LS.ok{x}(_:vA [.v .int] x){r}:nN x=some r→Lu x=some r:=QA λh=>by
 obtain⟨n,hn⟩:=rF h.1;have hn:x=(n:Int):=hn;have h2:(x:Int)≤1048576:=h.2;subst hn;exact zqm n (by omega)
def zgv(n:Nat):(zD n).length=tF n+9:=by
 rw[zD,List.length_append,JU,List.length_append,jI];rfl
def ztj(n:Nat):(n+(zD n).length) % 64=0:=by
 rw[zgv];unfold tF;omega
def zbd.ok{x}(_:vA [] x):Qg=some PO:=rfl
def zsk(h:Bf):Ll h=some (TG h):=by
 simp only[Ll,aA,KC,Bool.cond_false_right,TG,Bool.and_assoc]
def BR.ok{x}(_:vA [.v .Hash] x):Ll x=some (TG x):=zsk x
def zjn{h:Bf}(hk:TG h=true):tC h.H 8=true∧0≤h.N∧h.N≤1048576∧h.Held.length<64∧∃n:Nat,h.N=(n:Int)∧n % 64=h.Held.length:=by
 simp only[TG,Bool.and_eq_true,rD,beq_iff_eq]at hk;obtain⟨⟨h1,h2⟩,h3⟩:=hk;obtain⟨n,hn⟩:=rF h2.1;rw[hn,show xA .i64 (n:Int) 64=((n % 64:Nat):Int)from SS n 64]at h3;exact⟨h1,h2.1,h2.2,by omega,n,hn,by omega⟩
def zss{h:List Int}(hw:tC h 8=true):decide (([]:List Int).length+h.length≤bA)=true:=by
 have:=(fL hw).1;rw[this];decide
def zcw(a b:List UInt8):([a,b]:List (List UInt8)).flatten=a++b:=by simp
def zdC(a b:List UInt8):wt ([a,b]:List (List UInt8))=a.length+b.length+2:=by
 rw[TD,TD,SG,FA,FA];omega
def zom(h:Bf)(b:List UInt8)(hk:TG h=true)(hb:(b.length:Int)≤1048576 - h.N):
  Lt h b=some ⟨DC h.H ((h.Held++b).length / 64) (h.Held++b),(h.Held++b).drop (64 *((h.Held++b).length / 64)),h.N+b.length⟩:=by
 obtain⟨hw,n0,n1,hl,_⟩:=zjn hk;have hL:=yB;have w9:wt (h.Held++b)≤bA:=by rw[FA,List.length_append];omega
 have e1:oA .i64 1048576 h.N=1048576 - h.N:=by rw[oA,FB (by omega) (by omega)]
 have e2:fA .i64 h.N (b.length:Int)=h.N+b.length:=by rw[fA,FB (by omega) (by omega)]
 simp only[Lt,aA,hk,Bool.not_true,cond_false,e1,decide_eq_false (p:=(b.length:Int)>1048576 - h.N) (by omega),aD,PA (p:=wt ([h.Held,b]:List (List UInt8))≤bA) (by rw[zdC];omega),zcw,GT,
  PA (p:=wt h.H≤bA∧tC h.H 8=true∧wt (h.Held++b)≤bA) ⟨zdL hw,hw,w9⟩,zss (oM ((h.Held++b).length / 64) h.H (h.Held++b) hw),cond_true,yA,PA (p:=wt ((h.Held++b).drop (64 *((h.Held++b).length / 64)))≤bA) (Nat.le_trans (qF _ _) w9),List.nil_append,e2]
def YQ.ok{x}(_:vA [.v .Hash, .sl .byte] x){r}:zcP x.1 x.2=some r→Lt x.1 x.2=some r:=QA λh=>zom x.1 x.2 h.1 h.2
def zoB(h:Bf)(hk:TG h=true):Lw h=some (nF (DC h.H ((h.Held++zD h.N.toNat).length / 64) (h.Held++zD h.N.toNat))):=by
 obtain⟨hw,n0,n1,hl,n,hn,_⟩:=zjn hk;have hL:=yB;have hp:=zgv h.N.toNat;have hz:tF h.N.toNat<64:=Nat.mod_lt _ (by decide);have w9:wt (h.Held++zD h.N.toNat)≤bA:=by rw[FA,List.length_append];omega
 have hbw:=oM ((h.Held++zD h.N.toNat).length / 64) h.H (h.Held++zD h.N.toNat) hw
 simp only[Lw,hk,Bool.not_true,cond_false,nN,PA (p:=0≤h.N∧h.N≤1048576) ⟨n0,n1⟩,aD,PA (p:=wt ([h.Held,zD h.N.toNat]:List (List UInt8))≤bA) (by rw[zdC];omega),zcw,GT,
  PA (p:=wt h.H≤bA∧tC h.H 8=true∧wt (h.Held++zD h.N.toNat)≤bA) ⟨zdL hw,hw,w9⟩,mL,PA (fL hbw).1]
def tQ.ok{x}(_:vA [.v .Hash] x){r}:zcy x=some r→Lw x=some r:=QA λh=>zoB x h
def zbi:tC yE 8=true:=by decide
def zw6:TG PO=true:=by decide
def zuw(b:List UInt8)(hb:b.length≤1048576):
  DC (DC yE (b.length / 64) b) ((b.drop (64 *(b.length / 64))++zD b.length).length / 64) (b.drop (64 *(b.length / 64))++zD b.length)=DC yE ((b++zD b.length).length / 64) (b++zD b.length):=by
 have hd:=zkD b.length;have h1:(b.drop (64 *(b.length / 64))++zD b.length).length=b.length - 64 *(b.length / 64)+(zD b.length).length:=by rw[List.length_append,List.length_drop]
 have h2:(b++zD b.length).length / 64=b.length / 64+(b.drop (64 *(b.length / 64))++zD b.length).length / 64:=by rw[h1,List.length_append];omega
 rw[h2,zjj,zjJ _ _ _ _ hd,List.drop_append_of_le_length hd]
def zqU(b:List UInt8):Lx b=some (DE b):=by
 simp only[Lx,DE]
 by_cases h:(b.length:Int)>1048576
 ·rw[decide_eq_true h];rfl
 rw[decide_eq_false h];simp only[cond_false,zcP];rw[PA ⟨zw6,by show(b.length:Int)≤1048576 - 0;omega⟩];have e0:PO.Held++b=b:=rfl;have en:PO.N+(b.length:Int)=(b.length:Int):=Int.zero_add _;have eh:PO.H=yE:=rfl;rw[e0,en,eh];have hdl:=zkD b.length
 have uW:TG ⟨DC yE (b.length / 64) b,b.drop (64 *(b.length / 64)),(b.length:Int)⟩=true:=by
  simp only[TG,Bool.and_eq_true,rD,beq_iff_eq];refine⟨⟨oM _ _ _ zbi,by omega,by omega⟩,?_⟩;rw[show xA .i64 (b.length:Int) 64=((b.length % 64:Nat):Int)from SS _ 64,List.length_drop];omega
 rw[zcy,PA uW,Int.toNat_natCast,zuw b (by omega)];rfl
def US.ok{x}(_:vA [.sl .byte] x):Lx x=some (DE x):=zqU x
def zuM(all:List UInt8)(hwa:wt all≤bA)(hm:64 *(all.length / 64)=all.length):uA FU (λ(x5:(List Int)×Int) k6=>cond (x5.2<(all.length:Int))
  (cond (decide (0≤x5.2)&&decide (x5.2≤(fA .i64 x5.2 64))&&decide ((fA .i64 x5.2 64)≤(all.length:Int))) (Option.bind (vL x5.1 (List.take ((fA .i64 x5.2 64 - x5.2).toNat) (List.drop x5.2.toNat all))) λr7=>k6 (r7,(fA .i64 x5.2 64))) none)
  (Option.bind (mL x5.1) λr8=>some r8)) (yE,0)=some (nF (DC yE (all.length / 64) all)):=by
 have hL:=yB;have hla:all.length≤bA:=by rw[←FA];exact hwa
 refine OH (g:=λ_=>some (nF (DC yE (all.length / 64) all))) (λx=>∃i:Nat,64 *i≤all.length∧x=(DC yE i all,((64 *i:Nat):Int))) (λx=>all.length - x.2.toNat) (λx hx k hk=>?_) (x:=(yE,0)) ⟨0,Nat.zero_le _,rfl⟩ (by show all.length - Int.toNat 0<2^64;simp;omega);obtain⟨i,hi,rfl⟩:=hx
 by_cases FV:64 *i<all.length
 ·have sX:64 *(i+1)≤all.length:=by omega
  have e1:fA .i64 ((64 *i:Nat):Int) 64=((64 *(i+1):Nat):Int):=by rw[fA,FB (by omega) (by omega)];omega
  have e2:(decide ((0:Int)≤((64 *i:Nat):Int))&&decide (((64 *i:Nat):Int)≤((64 *(i+1):Nat):Int))&&decide (((64 *(i+1):Nat):Int)≤(all.length:Int)))=true:=by simp;omega
  have e3:(((64 *(i+1):Nat):Int) - ((64 *i:Nat):Int)).toNat=64:=by omega
  have mY:=hk (DC yE (i+1) all,((64 *(i+1):Nat):Int)) ⟨i+1,sX,rfl⟩ (by simp only[Int.toNat_natCast];omega);rw[zfa]at mY;simp only[sD FV,cond_true,e1,e2,e3,Int.toNat_natCast,vL,PA (p:=wt (DC yE i all)≤bA∧wt ((all.drop (64 *i)).take 64)≤bA) ⟨zdL (oM i yE all zbi),Nat.le_trans (dE _ _) (Nat.le_trans (qF _ _) hwa)⟩];exact mY
 ·have hi2:i=all.length / 64:=by omega
  have e1:decide (((64 *i:Nat):Int)<(all.length:Int))=false:=decide_eq_false (by omega);simp only[e1,cond_false,mL,PA (fL (oM i yE all zbi)).1, ←hi2]
def zqr(b:List UInt8):Mj b=some (DE b):=by
 have hL:=yB;simp only[Mj,aA,DE,List.nil_append]
 by_cases h:(b.length:Int)>1048576
 ·rw[decide_eq_true h];rfl
 rw[decide_eq_false h];have hp:=zgv b.length;have hz:tF b.length<64:=Nat.mod_lt _ (by decide);have hwh:=ztj b.length;have hal:(b++zD b.length).length=b.length+(zD b.length).length:=List.length_append;simp only[cond_false];rw[JO (show b.length≤bA by omega),cond_true,nN,PA ⟨by omega,by omega⟩,Int.toNat_natCast,MH (by omega),cond_true,zdB];exact zuM (b++zD b.length) (by rw[FA];omega) (by omega)
def TS.ok{x}(_:vA [.sl .byte] x):Mj x=some (DE x):=zqr x
def zjg(b:List UInt8):(zdB b).length=32:=by
 rw[zdB,zaW,(fL (oM _ yE _ zbi)).1]
def zag(b:List UInt8):(DE b).length≤32:=by
 unfold DE;cases decide ((b.length:Int)>1048576)
 ·exact Nat.le_of_eq (zjg b)
 ·exact Nat.zero_le _
def zv9{b:List UInt8}(h:b.length≤1048576):(DE b).length=32:=by
 rw[DE,decide_eq_false (by omega)];exact zjg b
end Go.D
namespace Go.D
def zbG(l:List UInt8):uA FU (λ(x6:(List UInt8)) k7=>cond ((x6.length:Int)<64) (cond (x6.length+[UInt8.ofNat (0:Int).toNat].length≤bA) (k7 (x6++[UInt8.ofNat (0:Int).toNat])) none) (some x6)) l=some (zav l):=by
 have hL:=yB;refine OH (g:=λ_=>some (zav l)) (λx=>∃j:Nat,j≤64 - l.length∧x=l++List.replicate j 0) (λx=>64 - x.length) (λx hx k hk=>?_) ⟨0,Nat.zero_le _,by simp⟩ (by show 64 - l.length<2^64;omega);obtain⟨j,hj,rfl⟩:=hx;have DV:(l++List.replicate j (0:UInt8)).length=l.length+j:=by simp
 by_cases FV:l.length+j<64
 ·rw[decide_eq_true (p:=((l++List.replicate j (0:UInt8)).length:Int)<64) (by omega),cond_true,MH (by rw[DV];simp;omega),cond_true];refine hk _ ⟨j+1,by omega,?_⟩ (by simp;omega);rw[zjQ,List.append_assoc, ←List.replicate_succ']
 ·rw[decide_eq_false (p:=((l++List.replicate j (0:UInt8)).length:Int)<64) (by omega),cond_false,zav];have:j=64 - l.length:=by omega
  rw[this]
def zn3(b:List UInt8):Mk b=some (bE b):=by
 have hL:=yB;simp only[Mk,aA,bE,List.nil_append]
 by_cases h:(b.length:Int)>1048576
 ·rw[decide_eq_true h];rfl
 rw[decide_eq_false h,JO (show b.length≤bA by omega)];simp only[cond_false,cond_true];cases decide ((b.length:Int)>64)
 ·exact zbG b
 ·exact zbG (DE b)
def fQ.ok{x}(_:vA [.sl .byte] x):Mk x=some (bE x):=zn3 x
def zn1(b:List UInt8):Ly b=some (bE b):=by
 have hL:=yB;simp only[Ly,aA,bE,yA]
 by_cases h:(b.length:Int)>1048576
 ·rw[decide_eq_true h];rfl
 rw[decide_eq_false h,PA (p:=wt b≤bA) (by rw[FA];omega)];simp only[cond_false];cases decide ((b.length:Int)>64)
 ·exact zbG b
 ·exact zbG (DE b)
def YP.ok{x}(_:vA [.sl .byte] x):Ly x=some (bE x):=zn1 x
def zeT{b:List UInt8}(h:b.length≤1048576):(bE b).length=64:=by
 rw[bE,decide_eq_false (by omega),cond_false,zav,List.length_append,List.length_replicate];cases hd:decide ((b.length:Int)>64)
 ·have:=of_decide_eq_false hd;simp only[cond_false];omega
 ·have:=zag b;simp only[cond_true];omega
def zoJ(b:List UInt8)(x:UInt8)(h:wt b≤bA):Lz b x=some (PE b x):=by
 have hl:b.length≤bA:=by rw[←FA];exact h
 have hL:=yB;simp only[Lz,aA];refine xI (X:=List UInt8×Int) (λy=>y.2) (λi=>(PE (b.take i) x,(i:Int))) (λ_=>rfl) b.length (dG h) _ 0 (Nat.zero_le _) (λi k _ hi=>?_) (λk=>by simp only[UD,cond_false,List.take_length]);have e:PE (b.take (i+1)) x=PE (b.take i) x++[zhe b[i] x]:=by rw[PE,CM b hi,List.map_append];rfl
 have hml:(PE (b.take i) x).length=i:=by rw[PE,List.length_map,List.length_take];omega
 simp only[sD hi,cond_true,DB hi,XA,sI (i:=i) (by rw[dD];omega)];rw[MH (by rw[hml];simp;omega),cond_true,e];rfl
def lR.ok{x}(_:vA [.sl .byte, .v .byte] x){r}:zaa x.1 x.2=some r→Lz x.1 x.2=some r:=QA λh=>zoJ x.1 x.2 h
def cO(b:List UInt8)(x:UInt8):(PE b x).length=b.length:=List.length_map ..
def zpS(k b:List UInt8):Ma k b=some (TC k b):=by
 have hL:=yB;simp only[Ma,aA,TC]
 by_cases h1:(k.length:Int)>1048576
 ·rw[decide_eq_true h1];rfl
 by_cases h2:(b.length:Int)>1048512
 ·rw[decide_eq_false h1,decide_eq_true h2];rfl
 have hk:=zeT (b:=k) (by omega);rw[decide_eq_false h1,decide_eq_false h2];simp only[cond_false,Bool.or_false,zaa,PA (p:=wt (bE k)≤bA) (by rw[FA];omega),aD];rw[PA (by rw[zdC,cO];omega),zcw,PA (by rw[zdC,cO];have:=zag (PE (bE k) (UInt8.ofNat (54:Int).toNat)++b);omega),zcw];rfl
def DS.ok{x}(_:vA [.sl .byte, .sl .byte] x):Ma x.1 x.2=some (TC x.1 x.2):=zpS x.1 x.2
def zxH{l:List UInt8}{i:Nat}(h:i<l.length):l[i]?=some l[i]:=List.getElem?_eq_getElem h
def ziS(b:List UInt8)(x:UInt8){i:Nat}(hi:i<b.length):PE (b.take (i+1)) x=PE (b.take i) x++[zhe b[i] x]:=by rw[PE,CM b hi,List.map_append];rfl
def zpU(k b:List UInt8):Ml k b=some (TC k b):=by
 have hL:=yB;simp only[Ml,aA,TC]
 by_cases h1:(k.length:Int)>1048576
 ·rw[decide_eq_true h1];rfl
 by_cases h2:(b.length:Int)>1048512
 ·rw[decide_eq_false h1,decide_eq_true h2];rfl
 have hk:=zeT (b:=k) (by omega);rw[decide_eq_false h1,decide_eq_false h2];simp only[cond_false,Bool.or_false];refine xI (X:=List UInt8×List UInt8×Int) (λy=>y.2.2) (λi=>(PE ((bE k).take i) 54,PE ((bE k).take i) 92,(i:Int))) (λ_=>rfl) 64 (by decide) _ 0 (Nat.zero_le _) (λi kk _ hi=>?_) (λkk=>?_)
 ·have z9:i<(bE k).length:=by omega
  have m1:(PE ((bE k).take i) 54).length=i:=by rw[cO,List.length_take];omega
  have m2:(PE ((bE k).take i) 92).length=i:=by rw[cO,List.length_take];omega
  simp only[decide_eq_true (p:=(i:Int)<64) (by omega),cond_true,KF z9,Int.toNat_natCast,zxH z9,XA,sI (i:=i) (by rw[dD];omega)];rw[MH (by rw[m1];simp;omega),cond_true,MH (by rw[m2];simp;omega),cond_true,ziS _ _ z9,ziS _ _ z9];rfl
 ·have ht:(bE k).take 64=bE k:=List.take_of_length_le (by omega);simp only[show((64:Nat):Int)=64 from rfl,show decide ((64:Int)<64)=false from rfl,cond_false,ht];have hs:=zag (PE (bE k) 54++b);rw[MH (by rw[cO];omega),cond_true,MH (by rw[cO];omega),cond_true]
def ES.ok{x}(_:vA [.sl .byte, .sl .byte] x):Ml x.1 x.2=some (TC x.1 x.2):=zpU x.1 x.2
def wI{k b:List UInt8}(h1:k.length≤1048576)(h2:b.length≤1048512):(TC k b).length=32:=by
 rw[TC,decide_eq_false (by omega),decide_eq_false (by omega)];simp only[Bool.or_false,cond_false];refine zv9 ?_;have:=zag (PE (bE k) 54++b);rw[List.length_append,cO,zeT h1];omega
def zcH(n:Int):(xD KB n 4).length=8:=by rw[zas,List.length_append,jI];rfl
def zoT(s:List UInt8)(n:Int):Mb s n=some (HE s n):=by
 have hL:=yB;simp only[Mb,aA,HE];cases h1:eA (s.length:Int) 1 32
 ·rfl
 cases h2:eA n 0 10000
 ·rfl
 have h1:=rD.1 h1;have hh:=wI (k:=s) (b:=xD KB n 4) (by omega) (by rw[zcH];omega);simp only[Bool.not_true,cond_false,Bool.and_true,cond_true,JB];rw[PA (by rw[FA];simp;omega)];have hr:[UInt8.ofNat (114:Int).toNat,UInt8.ofNat (111:Int).toNat,UInt8.ofNat (108:Int).toNat,UInt8.ofNat (108:Int).toNat]=KB:=rfl;rw[hr,show(decide ((0:Int)≤0)&&decide ((0:Int)≤12)&&decide (12≤((TC s (xD KB n 4)).length:Int)))=true by rw[hh];rfl,cond_true,List.drop_zero,yA,PA (by rw[FA,List.length_take];omega)]
def uR.ok{x}(_:vA [.sl .byte, .v .int] x):Mb x.1 x.2=some (HE x.1 x.2):=zoT x.1 x.2
def zoX(s:List UInt8)(n:Int):Mm s n=some (HE s n):=by
 have hL:=yB;simp only[Mm,aA,HE];cases h1:eA (s.length:Int) 1 32
 ·rfl
 cases h2:eA n 0 10000
 ·rfl
 have h1:=rD.1 h1;have hh:=wI (k:=s) (b:=xD KB n 4) (by omega) (by rw[zcH];omega);simp only[Bool.not_true,cond_false,Bool.and_true,cond_true,JB];rw[PA (by rw[FA];simp;omega)];have hr:[UInt8.ofNat (114:Int).toNat,UInt8.ofNat (111:Int).toNat,UInt8.ofNat (108:Int).toNat,UInt8.ofNat (108:Int).toNat]=KB:=rfl;rw[hr,show(decide ((0:Int)≤0)&&decide ((0:Int)≤12)&&decide (12≤((TC s (xD KB n 4)).length:Int)))=true by rw[hh];rfl,cond_true,List.drop_zero,JO (by rw[List.length_take];omega),cond_true,List.nil_append]
def yR.ok{x}(_:vA [.sl .byte, .v .int] x):Mm x.1 x.2=some (HE x.1 x.2):=zoX x.1 x.2
end Go.D
