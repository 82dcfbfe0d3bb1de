/-
 Sizes of the program's data.
-/
import Derived.Test.YthmhafeaiaigoaaGreatN5
set_option linter.all false
namespace Go.D
end Go.D
namespace Go.D
noncomputable section
def GO(n:Int)(i:Nat):UInt8:=UInt8.ofNat (IntKind.wrap .u8 (QB .i64 (GE .i64 n (XB .i64 8 (i:Int))) 255)).toNat
def tG(n:Int):Nat→List UInt8
 | 0=>[]
 | i+1=>GO n i :: tG n i
def CD(b:List UInt8)(n k:Int):List UInt8:=bif decide (k<1)||decide (k>6)then b else b++tG n k.toNat
def VB(b:List UInt8)(n k:Int):Option (List UInt8):=pt (wt b+6≤bA) (CD b n k)
def MG(l:List UInt8):Int:=l.foldl (λn x=>iA .i64 (XB .i64 n 256) (IntKind.wrap .i64 ((x.toNat:Nat):Int))) 0
def pH(b:List UInt8)(at_ k:Int):Int×Int×Bool:=bif decide (k<1)||(decide (k>6)||(decide (at_<0)||decide (at_>(b.length:Int) - k)))then(0,0,false)else(MG ((b.drop at_.toNat).take k.toNat),iA .i64 at_ k,true)
def kH(b:List UInt8)(at_ k:Int):Option (Int×Int×Bool):=pt (wt b≤bA) (pH b at_ k)
def cut(b:List UInt8)(f n:Int):List UInt8×Bool:=bif decide (f<0)||(decide (n<0)||(decide (f>(b.length:Int))||decide (n>(b.length:Int) - f)))then([],false)else((b.drop f.toNat).take n.toNat,true)
def GJ(b:List UInt8)(f n:Int):Option (List UInt8×Bool):=pt (wt b≤bA) (cut b f n)
def BA(b:List UInt8):Option (List UInt8):=pt (wt b≤bA) b
def lD(l:List (List UInt8)):Option (List UInt8):=pt (wt l≤bA) l.flatten
def pE(a:Int):Int:=QB .i64 a 4294967295
def mG(x n:Int):Int:=pE (CK .i64 (GE .i64 (pE x) n) (DJ .i64 (pE x) (qA .i64 32 n)))
def oE(x n:Int):Option Int:=pt (1≤n∧n≤31) (mG x n)
def TF(a b:Int):Int:=pE (iA .i64 a b)
def EE:List Int:=[1779033703,3144134277,1013904242,2773480762,1359893119,2600822924,528734635,1541459225]
def xI:List Int:=[1116352408,1899447441,3049323471,3921009573,961987163,1508970993,2453635748,2870763221,3624381080,310598401,607225278,1426881987,1925078388,2162078206,2614888103,3248222580,3835390401,4022224774,264347078,604807628,770255983,1249150122,1555081692,1996064986,2554220882,2821834349,2952996808,3210313671,3336571891,3584528711,113926993,338241895,666307205,773529912,1294757372,1396182291,1695183700,1986661051,2177026350,2456956037,2730485921,2820302411,3259730800,3345764771,3516065817,3600352804,4094571909,275423344,430227734,506948616,659060556,883997877,958139571,1322822218,1537002063,1747873779,1955562222,2024104815,2227730452,2361852424,2428436474,2756734187,3204031479,3329325298]
def wM(i:Int):Int:=if 0≤i∧i≤63 then xI.getD i.toNat 0 else 0
def vM(b:List UInt8)(w:List Int)(i:Nat):Int:=if i<16 then(pH b (4 *i:Nat) 4).1 else
 let x:=w.getD (i - 15) 0;let y:=w.getD (i - 2) 0
 pE (iA .i64 (iA .i64 (iA .i64 (w.getD (i - 7) 0) (w.getD (i - 16) 0)) (xB .i64 (xB .i64 (mG x 7) (mG x 18)) (GE .i64 x 3))) (xB .i64 (xB .i64 (mG y 17) (mG y 19)) (GE .i64 y 10)))
def BD(b:List UInt8):Nat→List Int
 | 0=>[]
 | i+1=>BD b i++[vM b (BD b i) i]
def KC(b:List UInt8):List Int:=if b.length=64 then BD b 64 else[]
def pM(b:List UInt8):Option (List Int):=pt (wt b≤bA) (KC b)
abbrev S8:=Int×Int×Int×Int×Int×Int×Int×Int
def rT(k w:Int)(s:S8):Int:=
 iA .i64 (iA .i64 (iA .i64 (iA .i64 s.2.2.2.2.2.2.2 (xB .i64 (xB .i64 (mG s.2.2.2.2.1 6) (mG s.2.2.2.2.1 11)) (mG s.2.2.2.2.1 25)))
  (xB .i64 (QB .i64 s.2.2.2.2.1 s.2.2.2.2.2.1) (QB .i64 (xB .i64 s.2.2.2.2.1 4294967295) s.2.2.2.2.2.2.1))) k) w
def rU(s:S8):Int:=iA .i64 (xB .i64 (xB .i64 (mG s.1 2) (mG s.1 13)) (mG s.1 22)) (xB .i64 (xB .i64 (QB .i64 s.1 s.2.1) (QB .i64 s.1 s.2.2.1)) (QB .i64 s.2.1 s.2.2.1))
def zdL(l:List Int):Bool:=GC l 8
def zec(k w:Int)(s:S8):S8:=(pE (iA .i64 (pE (rT k w s)) (pE (rU s))),s.1,s.2.1,s.2.2.1,pE (iA .i64 s.2.2.2.1 (pE (rT k w s))),s.2.2.2.2.1,s.2.2.2.2.2.1,s.2.2.2.2.2.2.1)
def rounds(w:List Int)(s:S8):Nat→S8
 | 0=>s
 | i+1=>zec (xI.getD i 0) (w.getD i 0) (rounds w s i)
def qE(h:List Int):S8:=(h.getD 0 0,h.getD 1 0,h.getD 2 0,h.getD 3 0,h.getD 4 0,h.getD 5 0,h.getD 6 0,h.getD 7 0)
def PH(s:S8):List Int:=[s.1,s.2.1,s.2.2.1,s.2.2.2.1,s.2.2.2.2.1,s.2.2.2.2.2.1,s.2.2.2.2.2.2.1,s.2.2.2.2.2.2.2]
def wF(h:List Int)(b:List UInt8):List Int:=List.zipWith TF h (PH (rounds (KC b) (qE h) 64))
def lL(h:List Int)(b:List UInt8):List Int:=bif GC h 8&&b.length==64 then wF h b else h
def aL(h:List Int)(b:List UInt8):Option (List Int):=pt (wt h≤bA∧wt b≤bA) (lL h b)
def LC(h:List Int):Nat→List UInt8→List Int
 | 0,_=>h
 | n+1,b=>LC (lL h (b.take 64)) n (b.drop 64)
def xT(h:List Int)(b:List UInt8):Option (List Int×List UInt8):=pt (wt h≤bA∧GC h 8=true∧wt b≤bA) (LC h (b.length / 64) b,b.drop (64 *(b.length / 64)))
def oF(h:List Int):List UInt8:=h.flatMap λx=>tG x 4
def UK(h:List Int):Option (List UInt8):=pt (h.length=8) (oF h)
def tF(n:Nat):Nat:=(119 - n % 64) % 64
def FD(n:Nat):List UInt8:=(128 :: List.replicate (tF n) 0)++([0,0,0,0]++tG ((8 *n:Nat):Int) 4)
def dN(n:Int):Option (List UInt8):=pt (0≤n∧n≤1048576) (FD n.toNat)
def zdV(b:List UInt8):List UInt8:=oF (LC EE ((b++FD b.length).length / 64) (b++FD b.length))
def JE(b:List UInt8):List UInt8:=bif decide ((b.length:Int)>1048576)then[]else zdV b
def NG(h:Be):Bool:=GC h.H 8&&eA h.N 0 1048576&&zA .i64 h.N 64==(h.Held.length:Int)
def zdc(h:Be)(b:List UInt8):Option Be:=pt (NG h=true∧(b.length:Int)≤1048576 - h.N) ⟨LC h.H ((h.Held++b).length / 64) (h.Held++b),(h.Held++b).drop (64 *((h.Held++b).length / 64)),h.N+b.length⟩
def zcX(h:Be):Option (List UInt8):=pt (NG h=true) (oF (LC h.H ((h.Held++FD h.N.toNat).length / 64) (h.Held++FD h.N.toNat)))
def CO:Be:=⟨EE,[],0⟩
def zax(l:List UInt8):List UInt8:=l++List.replicate (64 - l.length) 0
def iE(k:List UInt8):List UInt8:=bif decide ((k.length:Int)>1048576)then[]else zax (bif decide ((k.length:Int)>64)then JE k else k)
def zhs(x y:UInt8):UInt8:=UInt8.ofNat (xB .u8 ((x.toNat:Nat):Int) ((y.toNat:Nat):Int)).toNat
def SE(b:List UInt8)(x:UInt8):List UInt8:=b.map λy=>zhs y x
def zae(b:List UInt8)(x:UInt8):Option (List UInt8):=pt (wt b≤bA) (SE b x)
def XC(k b:List UInt8):List UInt8:=bif decide ((k.length:Int)>1048576)||decide ((b.length:Int)>1048512)then[]else JE (SE (iE k) 92++JE (SE (iE k) 54++b))
def jN:List UInt8:=[114,111,108,108]
def zD(s:List UInt8)(n:Int):List UInt8:=bif eA (s.length:Int) 1 32&&eA n 0 10000 then(XC s (CD jN n 4)).take 12 else[]
end
end Go.D
namespace Go.D
open Option renaming bind→ob
noncomputable section
def Sa(a0:List UInt8):=
 cond (decide (([]:List UInt8).length+a0.length≤bA)) (some ([]++a0)) none
def Ms(a0:List UInt8)(a1:Int)(a2:Int):=
 cond (decide (([]:List UInt8).length+a0.length≤bA)) (aA (λy1=>
 cond (y1)
 (some ([]++a0))
 (aA (λ(y3:(List UInt8))=>
 some y3) λk4=>
 sA FU (λ(x5:(List UInt8)×Int) k6=>
 cond (decide (x5.2≥0))
 (cond (decide ((XB .i64 8 x5.2)<0)) none (let x7:Int:=QB .i64 (GE .i64 a1 (XB .i64 8 x5.2)) 255
 cond (decide (x5.1.length+[UInt8.ofNat (IntKind.wrap .u8 x7:Int).toNat].length≤bA)) (k6 ((x5.1++[UInt8.ofNat (IntKind.wrap .u8 x7:Int).toNat]),(qA .i64 x5.2 1))) none))
 (k4 x5.1)) (([]++a0),(qA .i64 a2 1)))) λk2=>
 cond (decide (a2<1))
 (k2 true)
 (k2 (decide (a2>6)))) none
def Sb:=
 let x1:List Int:=[1779033703,3144134277,1013904242,2773480762,1359893119,2600822924,528734635,1541459225]
 some x1
def Sd:=
 let r1:(List Int):=EE
 some (⟨r1,[],0⟩:Be)
def Mt(a0:Be):=
 aA (λ(y1:Bool)=>
 some y1) λk2=>
 cond ((GC a0.H 8))
 (cond ((eA a0.N 0 1048576))
 (k2 ((zA .i64 a0.N 64)==(a0.Held.length:Int)))
 (k2 false))
 (k2 false)
def Mu(a0:List (List UInt8)):=
 aA (λ(y1:(List UInt8))=>
 some y1) λk2=>
 sA FU (λ(x3:(List UInt8)×Int) k4=>
 cond (decide (x3.2<(a0.length:Int)))
 (ob (kA a0 x3.2) λe5=>
 cond (decide (x3.1.length+e5.length≤bA)) (k4 ((x3.1++e5),(iA .i64 x3.2 1))) none)
 (k2 x3.1)) ([],0)
def Mv(a0:List UInt8)(a1:Int)(a2:Int):=
 aA (λy1=>
 cond (y1)
 (some ([],false))
 (cond (decide (0≤a1)&&decide (a1≤(iA .i64 a1 a2))&&decide ((iA .i64 a1 a2)≤(a0.length:Int))) (let l3:List UInt8:=List.take ((iA .i64 a1 a2 - a1).toNat) (List.drop a1.toNat a0)
 cond (decide (([]:List UInt8).length+l3.length≤bA)) (some ([]++l3,true)) none) none)) λk2=>
 cond (decide (a1<0))
 (k2 true)
 (cond (decide (a2<0))
 (k2 true)
 (cond (decide (a1>(a0.length:Int)))
 (k2 true)
 (k2 (decide (a2>(qA .i64 (a0.length:Int) a1))))))
def Mw(a0:List UInt8)(a1:Int)(a2:Int):=
 aA (λy1=>
 cond (y1)
 (some (0,0,false))
 (ob (GJ a0 a1 a2) λr3=>
 cond (!r3.2)
 (some (0,0,false))
 (aA (λ(y4:Int)=>
 some (y4,iA .i64 a1 a2,true)) λk5=>
 sA FU (λ(x6:Int×Int) k7=>
 cond (decide (x6.2<(r3.1.length:Int)))
 (cond (decide (0≤x6.2)&&decide (x6.2<(r3.1.length:Int))) (ob (r3.1[x6.2.toNat]?) λe8=>
 let x9:Int:=IntKind.wrap .i64 ((e8.toNat:Nat):Int)
 k7 ((iA .i64 (XB .i64 256 x6.1) x9),(iA .i64 x6.2 1))) none)
 (k5 x6.1)) (0,0)))) λk2=>
 cond (decide (a2<1))
 (k2 true)
 (k2 (decide (a2>6)))
def Mx(a0:Int)(a1:Int):=
 aA (λy1=>
 cond (y1)
 (some (QB .i64 a0 4294967295))
 (cond (decide (a1<0)) none (cond (decide ((qA .i64 32 a1)<0)) none (let x3:Int:=DJ .i64 (QB .i64 a0 4294967295) (qA .i64 32 a1)
 let x4:Int:=CK .i64 (GE .i64 (QB .i64 a0 4294967295) a1) x3
 some (QB .i64 x4 4294967295))))) λk2=>
 cond (decide (a1<0))
 (k2 true)
 (k2 (decide (a1>31)))
def My(a0:List UInt8):=
 cond ((a0.length:Int) !=64)
 (some [])
 (aA (λ(y1:(List Int))=>
 aA (λ(y7:(List Int))=>
 some y7) λk8=>
 sA FU (λ(x9:Int×(List Int)) k10=>
 cond (decide (x9.1<64))
 (cond (decide (0≤qA .i64 x9.1 15)&&decide (qA .i64 x9.1 15<(x9.2.length:Int))) (ob (x9.2[(qA .i64 x9.1 15).toNat]?) λe11=>
 cond (decide (0≤qA .i64 x9.1 2)&&decide (qA .i64 x9.1 2<(x9.2.length:Int))) (ob (x9.2[(qA .i64 x9.1 2).toNat]?) λe12=>
 ob (oE e11 7) λr13=>
 ob (oE e11 18) λr14=>
 let x15:Int:=xB .i64 (xB .i64 r13 r14) (GE .i64 e11 3)
 ob (oE e12 17) λr16=>
 ob (oE e12 19) λr17=>
 let x18:Int:=xB .i64 (xB .i64 r16 r17) (GE .i64 e12 10)
 cond (decide (0≤qA .i64 x9.1 7)&&decide (qA .i64 x9.1 7<(x9.2.length:Int))) (ob (x9.2[(qA .i64 x9.1 7).toNat]?) λe19=>
 cond (decide (0≤qA .i64 x9.1 16)&&decide (qA .i64 x9.1 16<(x9.2.length:Int))) (ob (x9.2[(qA .i64 x9.1 16).toNat]?) λe20=>
 let x21:Int:=iA .i64 (iA .i64 (iA .i64 e19 e20) x15) x18
 cond (decide (0≤x9.1)&&decide (x9.1<(x9.2.length:Int))) (ob (x9.2[x9.1.toNat]?) λe22=>
 k10 ((iA .i64 x9.1 1),(List.set x9.2 x9.1.toNat (QB .i64 x21 4294967295)))) none) none) none) none) none)
 (k8 x9.2)) (16,y1)) λk2=>
 sA FU (λ(x3:Int×(List Int)) k4=>
 cond (decide (x3.1<16))
 (ob (kH a0 (XB .i64 4 x3.1) 4) λr5=>
 cond (decide (0≤x3.1)&&decide (x3.1<(x3.2.length:Int))) (ob (x3.2[x3.1.toNat]?) λe6=>
 k4 ((iA .i64 x3.1 1),(List.set x3.2 x3.1.toNat r5.1))) none)
 (k2 x3.2)) (0,(List.replicate (64:Int).toNat (0:Int))))
def Kc(a0:Int):Option Int:=
 aA (λy1=>
 cond (y1)
 (some 0)
 (cond (a0==(0:Int)) (some 1116352408) (cond (a0==(1:Int)) (some 1899447441) (cond (a0==(2:Int)) (some 3049323471) (cond (a0==(3:Int)) (some 3921009573) (cond (a0==(4:Int)) (some 961987163) (cond (a0==(5:Int)) (some 1508970993) (cond (a0==(6:Int)) (some 2453635748) (cond (a0==(7:Int)) (some 2870763221) (cond (a0==(8:Int)) (some 3624381080) (cond (a0==(9:Int)) (some 310598401) (cond (a0==(10:Int)) (some 607225278) (cond (a0==(11:Int)) (some 1426881987) (cond (a0==(12:Int)) (some 1925078388) (cond (a0==(13:Int)) (some 2162078206) (cond (a0==(14:Int)) (some 2614888103) (cond (a0==(15:Int)) (some 3248222580) (cond (a0==(16:Int)) (some 3835390401) (cond (a0==(17:Int)) (some 4022224774) (cond (a0==(18:Int)) (some 264347078) (cond (a0==(19:Int)) (some 604807628) (cond (a0==(20:Int)) (some 770255983) (cond (a0==(21:Int)) (some 1249150122) (cond (a0==(22:Int)) (some 1555081692) (cond (a0==(23:Int)) (some 1996064986) (cond (a0==(24:Int)) (some 2554220882) (cond (a0==(25:Int)) (some 2821834349) (cond (a0==(26:Int)) (some 2952996808) (cond (a0==(27:Int)) (some 3210313671) (cond (a0==(28:Int)) (some 3336571891) (cond (a0==(29:Int)) (some 3584528711) (cond (a0==(30:Int)) (some 113926993) (cond (a0==(31:Int)) (some 338241895) (cond (a0==(32:Int)) (some 666307205) (cond (a0==(33:Int)) (some 773529912) (cond (a0==(34:Int)) (some 1294757372) (cond (a0==(35:Int)) (some 1396182291) (cond (a0==(36:Int)) (some 1695183700) (cond (a0==(37:Int)) (some 1986661051) (cond (a0==(38:Int)) (some 2177026350) (cond (a0==(39:Int)) (some 2456956037) (cond (a0==(40:Int)) (some 2730485921) (cond (a0==(41:Int)) (some 2820302411) (cond (a0==(42:Int)) (some 3259730800) (cond (a0==(43:Int)) (some 3345764771) (cond (a0==(44:Int)) (some 3516065817) (cond (a0==(45:Int)) (some 3600352804) (cond (a0==(46:Int)) (some 4094571909) (cond (a0==(47:Int)) (some 275423344) (cond (a0==(48:Int)) (some 430227734) (cond (a0==(49:Int)) (some 506948616) (cond (a0==(50:Int)) (some 659060556) (cond (a0==(51:Int)) (some 883997877) (cond (a0==(52:Int)) (some 958139571) (cond (a0==(53:Int)) (some 1322822218) (cond (a0==(54:Int)) (some 1537002063) (cond (a0==(55:Int)) (some 1747873779) (cond (a0==(56:Int)) (some 1955562222) (cond (a0==(57:Int)) (some 2024104815) (cond (a0==(58:Int)) (some 2227730452) (cond (a0==(59:Int)) (some 2361852424) (cond (a0==(60:Int)) (some 2428436474) (cond (a0==(61:Int)) (some 2756734187) (cond (a0==(62:Int)) (some 3204031479) (cond (a0==(63:Int)) (some 3329325298) (none)))))))))))))))))))))))))))))))))))))))))))))))))))))))))))))))))) λk2=>
 cond (decide (a0<0))
 (k2 true)
 (k2 (decide (a0>63)))
def Se(a0:Int)(a1:Int):=
 some (QB .i64 (iA .i64 a0 a1) 4294967295)
def Mz(a0:List Int)(a1:List UInt8):=
 cond (decide (([]:List Int).length+a0.length≤bA)) (aA (λy1=>
 cond (y1)
 (some ([]++a0))
 (ob (pM a1) λr3=>
 ob (kA a0 0) λe4=>
 ob (kA a0 1) λe5=>
 ob (kA a0 2) λe6=>
 ob (kA a0 3) λe7=>
 ob (kA a0 4) λe8=>
 ob (kA a0 5) λe9=>
 ob (kA a0 6) λe10=>
 ob (kA a0 7) λe11=>
 aA (λ(y12:Int×Int×Int×Int×Int×Int×Int×Int)=>
 let x31:List Int:=[y12.1,y12.2.1,y12.2.2.1,y12.2.2.2.1,y12.2.2.2.2.1,y12.2.2.2.2.2.1,y12.2.2.2.2.2.2.1,y12.2.2.2.2.2.2.2]
 aA (λ(y32:(List Int))=>
 some y32) λk33=>
 sA FU (λ(x34:Int×(List Int)) k35=>
 cond (decide (x34.1<(x31.length:Int)))
 (cond (decide (0≤x34.1)&&decide (x34.1<(x31.length:Int))) (ob (x31[x34.1.toNat]?) λe36=>
 ob (kA a0 x34.1) λe37=>
 cond (decide (0≤x34.1)&&decide (x34.1<(x34.2.length:Int))) (ob (x34.2[x34.1.toNat]?) λe38=>
 k35 ((iA .i64 x34.1 1),(List.set x34.2 x34.1.toNat (TF e37 e36)))) none) none)
 (k33 x34.2)) (0,([]++a0))) λk13=>
 sA FU (λ(x14:Int×Int×Int×Int×Int×Int×Int×Int×Int) k15=>
 cond (decide (x14.2.2.2.2.2.2.2.2<64))
 (let x16:Int:=QB .i64 (xB .i64 4294967295 x14.2.2.2.2.1) x14.2.2.2.2.2.2.1
 let x17:Int:=xB .i64 (QB .i64 x14.2.2.2.2.1 x14.2.2.2.2.2.1) x16;let x18:Int:=xB .i64 (QB .i64 x14.1 x14.2.1) (QB .i64 x14.1 x14.2.2.1);let x19:Int:=xB .i64 x18 (QB .i64 x14.2.1 x14.2.2.1)
 ob (oE x14.2.2.2.2.1 6) λr20=>
 ob (oE x14.2.2.2.2.1 11) λr21=>
 ob (oE x14.2.2.2.2.1 25) λr22=>
 let x23:Int:=iA .i64 x14.2.2.2.2.2.2.2.1 (xB .i64 (xB .i64 r20 r21) r22);let x24:Int:=iA .i64 (iA .i64 x23 x17) (wM x14.2.2.2.2.2.2.2.2)
 cond (decide (0≤x14.2.2.2.2.2.2.2.2)&&decide (x14.2.2.2.2.2.2.2.2<(r3.length:Int))) (ob (r3[x14.2.2.2.2.2.2.2.2.toNat]?) λe25=>
 ob (oE x14.1 2) λr26=>
 ob (oE x14.1 13) λr27=>
 ob (oE x14.1 22) λr28=>
 let x29:Int:=iA .i64 (xB .i64 (xB .i64 r26 r27) r28) x19;let r30:Int:=TF x14.2.2.2.1 (iA .i64 x24 e25)
 k15 ((TF (iA .i64 x24 e25) x29),x14.1,x14.2.1,x14.2.2.1,r30,x14.2.2.2.2.1,x14.2.2.2.2.2.1,x14.2.2.2.2.2.2.1,(iA .i64 x14.2.2.2.2.2.2.2.2 1))) none)
 (k13 (x14.1,x14.2.1,x14.2.2.1,x14.2.2.2.1,x14.2.2.2.2.1,x14.2.2.2.2.2.1,x14.2.2.2.2.2.2.1,x14.2.2.2.2.2.2.2.1))) (e4,e5,e6,e7,e8,e9,e10,e11,0))) λk2=>
 cond (!(GC a0 8))
 (k2 true)
 (k2 ((a1.length:Int) !=64))) none
def Na(a0:List Int)(a1:List UInt8):=
 aA (λ(y1:(List Int)×(List UInt8))=>
 some (y1.1,y1.2)) λk2=>
 sA FU (λ(x3:(List Int)×(List UInt8)) k4=>
 cond (decide ((x3.2.length:Int)≥64))
 (cond (decide (0≤(0:Int))&&decide ((0:Int)≤64)&&decide (64≤(x3.2.length:Int))) (let l5:List UInt8:=List.take 64 (List.drop 0 x3.2)
 ob (aL x3.1 l5) λr6=>
 cond (decide (0≤(64:Int))&&decide ((64:Int)≤(x3.2.length:Int))&&decide ((x3.2.length:Int)≤(x3.2.length:Int))) (let l7:List UInt8:=List.take (((x3.2.length:Int) - 64).toNat) (List.drop 64 x3.2)
 k4 (r6,l7)) none) none)
 (k2 (x3.1,x3.2))) (a0,a1)
def Nb(a0:Be)(a1:List UInt8):=
 aA (λy1=>
 cond (y1)
 (cond (decide (([]:List Int).length+a0.H.length≤bA)) (ob (BA a0.Held) λr3=>
 some (⟨[]++a0.H,r3,a0.N⟩:Be)) none)
 (ob (lD [a0.Held,a1]) λr4=>
 ob (xT a0.H r4) λr5=>
 cond (decide (([]:List Int).length+r5.1.length≤bA)) (ob (BA r5.2) λr6=>
 some (⟨[]++r5.1,r6,iA .i64 a0.N (a1.length:Int)⟩:Be)) none)) λk2=>
 cond (!(NG a0))
 (k2 true)
 (k2 (decide ((a1.length:Int)>(qA .i64 1048576 a0.N))))
def Nc(a0:Int):=
 cond (!(eA a0 0 1048576))
 (some [])
 (aA (λ(y1:(List UInt8))=>
 cond (decide (y1.length+[UInt8.ofNat (0:Int).toNat,UInt8.ofNat (0:Int).toNat].length≤bA)) (let x6:List UInt8:=y1++[UInt8.ofNat (0:Int).toNat,UInt8.ofNat (0:Int).toNat]
 ob (VB x6 (XB .i64 8 a0) 6) λr7=>
 some r7) none) λk2=>
 sA FU (λ(x3:(List UInt8)) k4=>
 let x5:Int:=iA .i64 (iA .i64 a0 (x3.length:Int)) 8
 cond ((zA .i64 x5 64) !=0)
 (cond (decide (x3.length+[UInt8.ofNat (0:Int).toNat].length≤bA)) (k4 (x3++[UInt8.ofNat (0:Int).toNat])) none)
 (k2 x3)) [UInt8.ofNat (128:Int).toNat])
def Nd(a0:List Int):=
 aA (λ(y1:(List UInt8))=>
 some y1) λk2=>
 sA FU (λ(x3:(List UInt8)×Int) k4=>
 cond (decide (x3.2<(a0.length:Int)))
 (ob (kA a0 x3.2) λe5=>
 ob (VB x3.1 e5 4) λr6=>
 k4 (r6,(iA .i64 x3.2 1)))
 (k2 x3.1)) ([],0)
def Nf(a0:Be):=
 cond (!(NG a0))
 (some [])
 (ob (dN a0.N) λr1=>
 ob (lD [a0.Held,r1]) λr2=>
 ob (xT a0.H r2) λr3=>
 ob (UK r3.1) λr4=>
 some r4)
def Ng(a0:List UInt8):=
 cond (decide ((a0.length:Int)>1048576))
 (some [])
 (let r1:Be:=CO
 ob (zdc r1 a0) λr2=>
 ob (zcX r2) λr3=>
 some r3)
def Nh(a0:List UInt8):=
 cond (decide ((a0.length:Int)>1048576))
 (some [])
 (ob (BA a0) λr1=>
 aA (λ(y2:(List UInt8))=>
 aA (λ(y5:(List UInt8))=>
 some y5) λk6=>
 sA FU (λ(x7:(List UInt8)) k8=>
 cond (decide ((x7.length:Int)<64))
 (cond (decide (x7.length+[UInt8.ofNat (0:Int).toNat].length≤bA)) (k8 (x7++[UInt8.ofNat (0:Int).toNat])) none)
 (k6 x7)) y2) λk3=>
 cond (decide ((a0.length:Int)>64))
 (let r4:(List UInt8):=JE a0
 k3 r4)
 (k3 r1))
def Ni(a0:List UInt8)(a1:UInt8):=
 aA (λ(y1:(List UInt8))=>
 some y1) λk2=>
 sA FU (λ(x3:(List UInt8)×Int) k4=>
 cond (decide (x3.2<(a0.length:Int)))
 (ob (kA a0 x3.2) λe5=>
 let x6:Int:=xB .u8 ((e5.toNat:Nat):Int) ((a1.toNat:Nat):Int)
 cond (decide (x3.1.length+[UInt8.ofNat (x6:Int).toNat].length≤bA)) (k4 ((x3.1++[UInt8.ofNat (x6:Int).toNat]),(iA .i64 x3.2 1))) none)
 (k2 x3.1)) ([],0)
def Nj(a0:List UInt8)(a1:List UInt8):=
 aA (λy1=>
 cond (y1)
 (some [])
 (let r3:(List UInt8):=iE a0
 ob (zae r3 (UInt8.ofNat (92:Int).toNat)) λr4=>
 ob (zae r3 (UInt8.ofNat (54:Int).toNat)) λr5=>
 ob (lD [r5,a1]) λr6=>
 let r7:(List UInt8):=JE r6
 ob (lD [r4,r7]) λr8=>
 let r9:(List UInt8):=JE r8
 some r9)) λk2=>
 cond (decide ((a0.length:Int)>1048576))
 (k2 true)
 (k2 (decide ((a1.length:Int)>1048512)))
def Nk(a0:List UInt8)(a1:Int):=
 aA (λy1=>
 cond (y1)
 (some [])
 (let x3:List UInt8:=[UInt8.ofNat (114:Int).toNat,UInt8.ofNat (111:Int).toNat,UInt8.ofNat (108:Int).toNat,UInt8.ofNat (108:Int).toNat]
 ob (VB x3 a1 4) λr4=>
 let r5:(List UInt8):=XC a0 r4
 cond (decide (0≤(0:Int))&&decide ((0:Int)≤12)&&decide (12≤(r5.length:Int))) (ob (BA (List.take 12 (List.drop 0 r5))) λr6=>
 some r6) none)) λk2=>
 cond (!(eA (a0.length:Int) 1 32))
 (k2 true)
 (k2 (!(eA a1 0 10000)))
def Sf(a0:List UInt8)(a1:Int)(a2:Int):=
 cond (decide (([]:List UInt8).length+a0.length≤bA)) (aA (λy1=>
 cond (y1)
 (some ([]++a0))
 (aA (λ(y3:(List UInt8))=>
 some y3) λk4=>
 sA FU (λ(x5:(List UInt8)×Int) k6=>
 cond (decide (x5.2≥0))
 (cond (decide ((XB .i64 8 x5.2)<0)) none (let x7:Int:=QB .i64 (GE .i64 a1 (XB .i64 8 x5.2)) 255
 cond (decide (x5.1.length+[UInt8.ofNat (IntKind.wrap .u8 x7:Int).toNat].length≤bA)) (k6 ((x5.1++[UInt8.ofNat (IntKind.wrap .u8 x7:Int).toNat]),(qA .i64 x5.2 1))) none))
 (k4 x5.1)) (([]++a0),(qA .i64 a2 1)))) λk2=>
 cond (decide (a2<1))
 (k2 true)
 (k2 (decide (a2>6)))) none
def Nl(a0:Int):=
 aA (λy1=>
 cond (y1)
 (some [])
 (aA (λ(y3:(List UInt8))=>
 ob (VB y3 0 4) λr8=>
 ob (VB r8 (XB .i64 8 a0) 4) λr9=>
 some r9) λk4=>
 sA FU (λ(x5:(List UInt8)) k6=>
 let x7:Int:=iA .i64 (iA .i64 a0 (x5.length:Int)) 8
 cond ((zA .i64 x7 64) !=0)
 (cond (decide (x5.length+[UInt8.ofNat (0:Int).toNat].length≤bA)) (k6 (x5++[UInt8.ofNat (0:Int).toNat])) none)
 (k4 x5)) [UInt8.ofNat (128:Int).toNat])) λk2=>
 cond (decide (a0<0))
 (k2 true)
 (k2 (decide (a0>1048576)))
def Sg:=
 let x1:List Int:=[1779033703,3144134277,1013904242,2773480762,1359893119,2600822924,528734635,1541459225]
 some x1
def Nm(a0:List Int):=
 aA (λ(y1:Unit)=>
 some ((a0.length:Int)==8)) λk2=>
 sA FU (λ(x3:Int) k4=>
 cond (decide (x3<(a0.length:Int)))
 (ob (kA a0 x3) λe5=>
 cond (!(eA e5 0 4294967295))
 (some false)
 (k4 (iA .i64 x3 1)))
 (k2 ())) 0
def Sh:=
 let x1:List Int:=[1116352408,1899447441,3049323471,3921009573,961987163,1508970993,2453635748,2870763221,3624381080,310598401,607225278,1426881987,1925078388,2162078206,2614888103,3248222580,3835390401,4022224774,264347078,604807628,770255983,1249150122,1555081692,1996064986,2554220882,2821834349,2952996808,3210313671,3336571891,3584528711,113926993,338241895,666307205,773529912,1294757372,1396182291,1695183700,1986661051,2177026350,2456956037,2730485921,2820302411,3259730800,3345764771,3516065817,3600352804,4094571909,275423344,430227734,506948616,659060556,883997877,958139571,1322822218,1537002063,1747873779,1955562222,2024104815,2227730452,2361852424,2428436474,2756734187,3204031479,3329325298]
 some x1
def Nn(a0:List UInt8)(a1:Int)(a2:Int):=
 aA (λy1=>
 cond (y1)
 (some (0,0,false))
 (aA (λ(y3:Int)=>
 some (y3,iA .i64 a1 a2,true)) λk4=>
 sA FU (λ(x5:Int×Int) k6=>
 cond (decide (x5.2<a2))
 (ob (kA a0 (iA .i64 a1 x5.2)) λe7=>
 let x8:Int:=IntKind.wrap .i64 ((e7.toNat:Nat):Int)
 k6 ((iA .i64 (XB .i64 x5.1 256) x8),(iA .i64 x5.2 1)))
 (k4 x5.1)) (0,0))) λk2=>
 cond (decide (a2<1))
 (k2 true)
 (cond (decide (a2>6))
 (k2 true)
 (cond (decide (a1<0))
 (k2 true)
 (k2 (decide (a1>(qA .i64 (a0.length:Int) a2))))))
def No(a0:Int)(a1:Int):=
 aA (λy1=>
 cond (y1)
 (some (QB .i64 a0 4294967295))
 (cond (decide (a1<0)) none (cond (decide ((qA .i64 32 a1)<0)) none (let x3:Int:=DJ .i64 (QB .i64 a0 4294967295) (qA .i64 32 a1)
 let x4:Int:=CK .i64 (GE .i64 (QB .i64 a0 4294967295) a1) x3
 some (QB .i64 x4 4294967295))))) λk2=>
 cond (decide (a1<1))
 (k2 true)
 (k2 (decide (a1>31)))
def Np(a0:List UInt8):=
 cond ((a0.length:Int) !=64)
 (some [])
 (aA (λ(y1:(List Int))=>
 aA (λ(y6:(List Int))=>
 some y6) λk7=>
 sA FU (λ(x8:(List Int)×Int) k9=>
 cond (decide (x8.2<64))
 (cond (decide (0≤qA .i64 x8.2 15)&&decide (qA .i64 x8.2 15<(x8.1.length:Int))) (ob (x8.1[(qA .i64 x8.2 15).toNat]?) λe10=>
 cond (decide (0≤qA .i64 x8.2 2)&&decide (qA .i64 x8.2 2<(x8.1.length:Int))) (ob (x8.1[(qA .i64 x8.2 2).toNat]?) λe11=>
 ob (oE e10 7) λr12=>
 ob (oE e10 18) λr13=>
 let x14:Int:=xB .i64 (xB .i64 r12 r13) (GE .i64 e10 3)
 ob (oE e11 17) λr15=>
 ob (oE e11 19) λr16=>
 let x17:Int:=xB .i64 (xB .i64 r15 r16) (GE .i64 e11 10)
 cond (decide (0≤qA .i64 x8.2 7)&&decide (qA .i64 x8.2 7<(x8.1.length:Int))) (ob (x8.1[(qA .i64 x8.2 7).toNat]?) λe18=>
 cond (decide (0≤qA .i64 x8.2 16)&&decide (qA .i64 x8.2 16<(x8.1.length:Int))) (ob (x8.1[(qA .i64 x8.2 16).toNat]?) λe19=>
 let x20:Int:=iA .i64 (iA .i64 (iA .i64 e18 e19) x14) x17
 cond (decide (x8.1.length+[QB .i64 x20 4294967295].length≤bA)) (k9 ((x8.1++[QB .i64 x20 4294967295]),(iA .i64 x8.2 1))) none) none) none) none) none)
 (k7 x8.1)) (y1,16)) λk2=>
 sA FU (λ(x3:(List Int)×Int) k4=>
 cond (decide (x3.2<16))
 (ob (kH a0 (XB .i64 4 x3.2) 4) λr5=>
 cond (decide (x3.1.length+[r5.1].length≤bA)) (k4 ((x3.1++[r5.1]),(iA .i64 x3.2 1))) none)
 (k2 x3.1)) ([],0))
def Nq(a0:List Int)(a1:List UInt8):=
 cond (decide (([]:List Int).length+a0.length≤bA)) (aA (λy1=>
 cond (y1)
 (some ([]++a0))
 (let r3:(List Int):=xI
 ob (pM a1) λr4=>
 ob (kA a0 0) λe5=>
 ob (kA a0 1) λe6=>
 ob (kA a0 2) λe7=>
 ob (kA a0 3) λe8=>
 ob (kA a0 4) λe9=>
 ob (kA a0 5) λe10=>
 ob (kA a0 6) λe11=>
 ob (kA a0 7) λe12=>
 aA (λ(y13:Int×Int×Int×Int×Int×Int×Int×Int)=>
 let x34:List Int:=[y13.1,y13.2.1,y13.2.2.1,y13.2.2.2.1,y13.2.2.2.2.1,y13.2.2.2.2.2.1,y13.2.2.2.2.2.2.1,y13.2.2.2.2.2.2.2]
 aA (λ(y35:(List Int))=>
 some y35) λk36=>
 sA FU (λ(x37:Int×(List Int)) k38=>
 cond (decide (x37.1<8))
 (ob (kA a0 x37.1) λe39=>
 cond (decide (0≤x37.1)&&decide (x37.1<(x34.length:Int))) (ob (x34[x37.1.toNat]?) λe40=>
 cond (decide (0≤x37.1)&&decide (x37.1<(x37.2.length:Int))) (ob (x37.2[x37.1.toNat]?) λe41=>
 let l42:List Int:=List.set x37.2 x37.1.toNat (QB .i64 (iA .i64 e39 e40) 4294967295)
 k38 ((iA .i64 x37.1 1),l42)) none) none)
 (k36 x37.2)) (0,([]++a0))) λk14=>
 sA FU (λ(x15:Int×Int×Int×Int×Int×Int×Int×Int×Int) k16=>
 cond (decide (x15.2.2.2.2.2.2.2.2<64))
 (ob (oE x15.2.2.2.2.1 6) λr17=>
 ob (oE x15.2.2.2.2.1 11) λr18=>
 ob (oE x15.2.2.2.2.1 25) λr19=>
 let x20:Int:=iA .i64 x15.2.2.2.2.2.2.2.1 (xB .i64 (xB .i64 r17 r18) r19);let x21:Int:=QB .i64 (xB .i64 x15.2.2.2.2.1 4294967295) x15.2.2.2.2.2.2.1;let x22:Int:=xB .i64 (QB .i64 x15.2.2.2.2.1 x15.2.2.2.2.2.1) x21
 cond (decide (0≤x15.2.2.2.2.2.2.2.2)&&decide (x15.2.2.2.2.2.2.2.2<(r3.length:Int))) (ob (r3[x15.2.2.2.2.2.2.2.2.toNat]?) λe23=>
 cond (decide (0≤x15.2.2.2.2.2.2.2.2)&&decide (x15.2.2.2.2.2.2.2.2<(r4.length:Int))) (ob (r4[x15.2.2.2.2.2.2.2.2.toNat]?) λe24=>
 let x25:Int:=iA .i64 (iA .i64 (iA .i64 x20 x22) e23) e24
 ob (oE x15.1 2) λr26=>
 ob (oE x15.1 13) λr27=>
 ob (oE x15.1 22) λr28=>
 let x29:Int:=xB .i64 (QB .i64 x15.1 x15.2.1) (QB .i64 x15.1 x15.2.2.1);let x30:Int:=xB .i64 x29 (QB .i64 x15.2.1 x15.2.2.1);let x31:Int:=iA .i64 (xB .i64 (xB .i64 r26 r27) r28) x30;let x32:Int:=iA .i64 x15.2.2.2.1 (QB .i64 x25 4294967295);let x33:Int:=iA .i64 (QB .i64 x25 4294967295) (QB .i64 x31 4294967295)
 k16 ((QB .i64 x33 4294967295),x15.1,x15.2.1,x15.2.2.1,(QB .i64 x32 4294967295),x15.2.2.2.2.1,x15.2.2.2.2.2.1,x15.2.2.2.2.2.2.1,(iA .i64 x15.2.2.2.2.2.2.2.2 1))) none) none)
 (k14 (x15.1,x15.2.1,x15.2.2.1,x15.2.2.2.1,x15.2.2.2.2.1,x15.2.2.2.2.2.1,x15.2.2.2.2.2.2.1,x15.2.2.2.2.2.2.2.1))) (e5,e6,e7,e8,e9,e10,e11,e12,0))) λk2=>
 cond (!(zdL a0))
 (k2 true)
 (k2 ((a1.length:Int) !=64))) none
def Nr(a0:List Int):=
 aA (λ(y1:(List UInt8))=>
 some y1) λk2=>
 sA FU (λ(x3:(List UInt8)×Int) k4=>
 cond (decide (x3.2<8))
 (ob (kA a0 x3.2) λe5=>
 ob (VB x3.1 e5 4) λr6=>
 k4 (r6,(iA .i64 x3.2 1)))
 (k2 x3.1)) ([],0)
def Ns(a0:List UInt8):=
 cond (decide ((a0.length:Int)>1048576))
 (some [])
 (cond (decide (([]:List UInt8).length+a0.length≤bA)) (ob (dN (a0.length:Int)) λr1=>
 cond (decide (([]++a0).length+r1.length≤bA)) (let r2:(List Int):=EE
 aA (λ(y3:(List Int))=>
 ob (UK y3) λr8=>
 some r8) λk4=>
 sA FU (λ(x5:(List Int)×Int) k6=>
 cond (decide (x5.2<((([]++a0)++r1).length:Int)))
 (cond (decide (0≤x5.2)&&decide (x5.2≤(iA .i64 x5.2 64))&&decide ((iA .i64 x5.2 64)≤((([]++a0)++r1).length:Int))) (ob (aL x5.1 (List.take ((iA .i64 x5.2 64 - x5.2).toNat) (List.drop x5.2.toNat (([]++a0)++r1)))) λr7=>
 k6 (r7,(iA .i64 x5.2 64))) none)
 (k4 x5.1)) (r2,0)) none) none)
def Nt(a0:List UInt8):=
 cond (decide ((a0.length:Int)>1048576))
 (some [])
 (cond (decide (([]:List UInt8).length+a0.length≤bA)) (aA (λ(y1:(List UInt8))=>
 aA (λ(y4:(List UInt8))=>
 some y4) λk5=>
 sA FU (λ(x6:(List UInt8)) k7=>
 cond (decide ((x6.length:Int)<64))
 (cond (decide (x6.length+[UInt8.ofNat (0:Int).toNat].length≤bA)) (k7 (x6++[UInt8.ofNat (0:Int).toNat])) none)
 (k5 x6)) y1) λk2=>
 cond (decide ((a0.length:Int)>64))
 (let r3:(List UInt8):=JE a0
 k2 r3)
 (k2 ([]++a0))) none)
def Nu(a0:List UInt8)(a1:List UInt8):=
 aA (λy1=>
 cond (y1)
 (some [])
 (let r3:(List UInt8):=iE a0
 aA (λ(y4:(List UInt8)×(List UInt8))=>
 cond (decide (y4.1.length+a1.length≤bA)) (let r12:(List UInt8):=JE (y4.1++a1)
 cond (decide (y4.2.length+r12.length≤bA)) (let r13:(List UInt8):=JE (y4.2++r12)
 some r13) none) none) λk5=>
 sA FU (λ(x6:(List UInt8)×(List UInt8)×Int) k7=>
 cond (decide (x6.2.2<64))
 (cond (decide (0≤x6.2.2)&&decide (x6.2.2<(r3.length:Int))) (ob (r3[x6.2.2.toNat]?) λe8=>
 let x9:List UInt8:=[UInt8.ofNat (xB .u8 ((e8.toNat:Nat):Int) 54:Int).toNat]
 cond (decide (x6.1.length+x9.length≤bA)) (cond (decide (0≤x6.2.2)&&decide (x6.2.2<(r3.length:Int))) (ob (r3[x6.2.2.toNat]?) λe10=>
 let x11:List UInt8:=[UInt8.ofNat (xB .u8 ((e10.toNat:Nat):Int) 92:Int).toNat]
 cond (decide (x6.2.1.length+x11.length≤bA)) (k7 ((x6.1++x9),(x6.2.1++x11),(iA .i64 x6.2.2 1))) none) none) none) none)
 (k5 (x6.1,x6.2.1))) ([],[],0))) λk2=>
 cond (decide ((a0.length:Int)>1048576))
 (k2 true)
 (k2 (decide ((a1.length:Int)>1048512)))
def Nv(a0:List UInt8)(a1:Int):=
 aA (λy1=>
 cond (y1)
 (some [])
 (let x3:List UInt8:=[UInt8.ofNat (114:Int).toNat,UInt8.ofNat (111:Int).toNat,UInt8.ofNat (108:Int).toNat,UInt8.ofNat (108:Int).toNat]
 ob (VB x3 a1 4) λr4=>
 let r5:(List UInt8):=XC a0 r4
 cond (decide (0≤(0:Int))&&decide ((0:Int)≤12)&&decide (12≤(r5.length:Int))) (cond (decide (([]:List UInt8).length+(List.take 12 (List.drop 0 r5)).length≤bA)) (some ([]++(List.take 12 (List.drop 0 r5)))) none) none)) λk2=>
 cond (!(eA (a0.length:Int) 1 32))
 (k2 true)
 (k2 (!(eA a1 0 10000)))
end
end Go.D
namespace Go.D
end Go.D
namespace Go.D
def zgO{σ R:Type}(n:Nat)(hn:n≤maxLen)(S:Nat→σ)(z:Option R){f:σ×Int→(σ×Int→Option R)→Option R}
  (hf:∀(i:Nat) k,i<n→f (S i,(i:Int)) k=k (S (i+1),IntKind.wrap .i64 ((i:Int)+1))) (hz:∀k,f (S n,(n:Int)) k=z) (a:Nat) (ha:a≤n):sA FU f (S a,(a:Int))=z:=by
 refine LH (g:=λ_=>z) (λx=>∃i:Nat,i≤n∧x=(S i,(i:Int))) (λx=>n - x.2.toNat) (λx hx k hk=>?_) ⟨a,ha,rfl⟩ (by unfold maxLen at hn;simp only[Int.toNat_natCast];omega);obtain⟨i,hi,rfl⟩:=hx
 rcases Nat.lt_or_eq_of_le hi with OV | rfl
 ·rw[hf i k OV,HG i (by omega)];exact hk _ ⟨i+1,OV,rfl⟩ (by simp only[Int.toNat_natCast];omega)
 ·exact hz k
def kO(n:Nat)(h:n<2^64):(BitVec.ofInt 64 (n:Int)).toNat=n:=by
 rw[BitVec.toNat_ofInt];omega
def zdX(a:Int):0≤pE a∧pE a≤4294967295:=by
 have h:(BitVec.ofInt 64 a&&&BitVec.ofInt 64 4294967295).toNat≤4294967295:=by
  rw[BitVec.toNat_and];exact Nat.le_trans Nat.and_le_right (by decide)
 unfold pE QB;show 0≤IntKind.wrap .i64 ((BitVec.ofInt 64 a&&&BitVec.ofInt 64 4294967295).toNat:Int)∧IntKind.wrap .i64 ((BitVec.ofInt 64 a&&&BitVec.ofInt 64 4294967295).toNat:Int)≤4294967295
 rw[UB (by omega) (by omega)];omega
def DV{a:Int}(h0:0≤a)(h1:a≤9223372036854775807):pE a=a % 4294967296:=by
 obtain⟨n,rfl⟩:=cG h0;unfold pE QB;show IntKind.wrap .i64 ((BitVec.ofInt 64 (n:Int)&&&BitVec.ofInt 64 ((4294967295:Nat):Int)).toNat:Int)=_
 rw[BitVec.toNat_and,kO n (by omega),kO _ (by decide)];have:=Nat.and_two_pow_sub_one_eq_mod n 32;rw[show(4294967295:Nat)=2^32 - 1 from rfl,this,UB (by omega) (by omega)];omega
def ED(a:Int):Prop:=0≤a∧a≤4294967295
def zeg(a:Int):ED (pE a):=zdX a
def VM{a b:Int}(ha:ED a)(hb:ED b):ED (xB .i64 a b):=by
 obtain⟨n,rfl⟩:=cG ha.1;obtain⟨m,rfl⟩:=cG hb.1;have h1:=ha.2;have h2:=hb.2;have h:(n^^^m)<2^32:=Nat.xor_lt_two_pow (by omega) (by omega);unfold xB;show ED (IntKind.wrap .i64 ((BitVec.ofInt 64 (n:Int)^^^BitVec.ofInt 64 (m:Int)).toNat:Int))
 rw[BitVec.toNat_xor,kO n (by omega),kO m (by omega),UB (by omega) (by omega)];exact⟨by omega,by omega⟩
def ztY(a b:Int):xB .i64 a b=xB .i64 b a:=by
 unfold xB;rw[BitVec.xor_comm]
def zah{a b:Int}(ha:ED a)(hb:ED b):ED (QB .i64 a b):=by
 obtain⟨n,rfl⟩:=cG ha.1;obtain⟨m,rfl⟩:=cG hb.1;have h1:=ha.2;have h2:=hb.2;have h:(n&&&m)≤m:=Nat.and_le_right;unfold QB;show ED (IntKind.wrap .i64 ((BitVec.ofInt 64 (n:Int)&&&BitVec.ofInt 64 (m:Int)).toNat:Int))
 rw[BitVec.toNat_and,kO n (by omega),kO m (by omega),UB (by omega) (by omega)];exact⟨by omega,by omega⟩
def oT(x n:Int):ED (mG x n):=zeg _
def IH{a b:Nat}(h:a+b≤bA):decide (a+b≤bA)=true:=decide_eq_true h
def zcb.ok{x}(_:xA [.sl .byte] x){r}:BA x=some r→Sa x=some r:=TA λh=>by
 have h2:(show List UInt8 from x).length≤bA:=by rw[←EA];exact h
 show cond (decide (([]:List UInt8).length+(show List UInt8 from x).length≤bA)) _ _=_
 rw[xO h2];rfl
def zle(b:List UInt8)(n k:Int)(h:wt b+6≤bA):Ms b n k=some (CD b n k):=by
 rw[EA]at h;simp only[Ms,aA,CD,List.nil_append];rw[xO (by omega)];simp only[cond_true]
 by_cases h1:k<1
 ·rw[decide_eq_true h1];rfl
 by_cases h2:k>6
 ·rw[decide_eq_false h1,decide_eq_true h2];rfl
 rw[decide_eq_false h1,decide_eq_false h2];simp only[cond_false,Bool.or_false];have hk:qA .i64 k 1=k - 1:=by rw[qA,UB (by omega) (by omega)]
 rw[hk];rw[LH (g:=λx:List UInt8×Int=>some (x.1++tG n (x.2+1).toNat)) (λx=> -1≤x.2∧x.2≤5∧(x.1.length:Int)+x.2+1≤(bA:Int)) (λx=>(x.2+1).toNat) (λx hx kk WZ=>?_) (x:=(b,k - 1)) ⟨by show -1≤k - 1;omega,by show k - 1≤5;omega,by show(b.length:Int)+(k - 1)+1≤(bA:Int);omega⟩ (by show(k - 1+1).toNat<2^64;omega)]
 ·rw[show k - 1+1=k by omega]
 ·obtain⟨l,i⟩:=x;obtain⟨g1,g2,g3⟩:=hx;simp only at g1 g2 g3⊢
  by_cases hi:0≤i
  ·obtain⟨j,rfl⟩:=cG hi;have e1:XB .i64 8 (j:Int)=8 *(j:Int):=UB (by omega) (by omega);have e2:qA .i64 (j:Int) 1=(j:Int) - 1:=by rw[qA,UB (by omega) (by omega)]
   have e3:decide (XB .i64 8 (j:Int)<0)=false:=decide_eq_false (by rw[e1];omega);rw[decide_eq_true (p:=(j:Int)≥0) hi,cond_true,e3,cond_false,IH (by simp;omega),cond_true,e2];refine(WZ (l++[GO n j],(j:Int) - 1) ⟨by show -1≤(j:Int) - 1;omega,by show(j:Int) - 1≤5;omega,by show((l++[GO n j]).length:Int)+((j:Int) - 1)+1≤(bA:Int);simp;omega⟩ (by show((j:Int) - 1+1).toNat<((j:Int)+1).toNat;omega)).trans ?_;simp only;rw[show((j:Int) - 1+1).toNat=j by omega,show((j:Int)+1).toNat=j+1 by omega,tG,List.append_assoc];rfl
  ·have:i= -1:=by omega
   subst this;simp[tG]
def AS.ok{x}(_:xA [.sl .byte, .v .int, .v .int] x){r}:VB x.1 x.2.1 x.2.2=some r→Ms x.1 x.2.1 x.2.2=some r:=TA λh=>zle x.1 x.2.1 x.2.2 h
def zcv.ok{x}(_:xA [.sl .byte, .v .int, .v .int] x){r}:VB x.1 x.2.1 x.2.2=some r→Sf x.1 x.2.1 x.2.2=some r:=TA λh=>zle x.1 x.2.1 x.2.2 h
def zkV:∀l:List (List UInt8),l.flatten.length≤wt l
 | []=>Nat.zero_le _
 | x :: l=>by
  have:=zkV l;rw[jD,EA,List.flatten_cons,List.length_append];omega
def zpN(l:List (List UInt8))(h:wt l≤bA):Mu l=some l.flatten:=by
 simp only[Mu,aA];refine zgO l.length (jE h) (λi=>(l.take i).flatten) (some l.flatten) (λi k hi=>?_) (λk=>by simp only[YD,cond_false,List.take_length]) 0 (Nat.zero_le _);have e:(l.take (i+1)).flatten=(l.take i).flatten++l[i]:=by rw[tM l hi,List.flatten_append];simp
 have MV:=zkV (l.take (i+1));have h2:=WD l (i+1);rw[e,List.length_append]at MV;simp only[yD hi,cond_true,KB hi,mB,IH (show(l.take i).flatten.length+l[i].length≤bA by omega),e]
def kR.ok{x}(_:xA [.sl .bs] x){r}:lD x=some r→Mu x=some r:=TA λh=>zpN x h
def zvU(b:List UInt8)(f n:Int)(h:wt b≤bA)(hf:yE .i64 f)(hn:yE .i64 n):Mv b f n=some (cut b f n):=by
 have hl:b.length≤bA:=by rw[←EA];exact h
 have hL:=CB;have hf:=ES hf;simp only[Mv,aA,cut,List.nil_append]
 by_cases h1:f<0
 ·rw[decide_eq_true h1];rfl
 by_cases h2:n<0
 ·rw[decide_eq_false h1,decide_eq_true h2];rfl
 by_cases h3:f>(b.length:Int)
 ·rw[decide_eq_false h1,decide_eq_false h2,decide_eq_true h3];rfl
 have e:qA .i64 (b.length:Int) f=(b.length:Int) - f:=by rw[qA,UB (by omega) (by omega)]
 rw[e]
 by_cases h4:n>(b.length:Int) - f
 ·rw[decide_eq_false h1,decide_eq_false h2,decide_eq_false h3,decide_eq_true h4];rfl
 have e2:iA .i64 f n=f+n:=by rw[iA,UB (by omega) (by omega)]
 have e3:(decide (0≤f)&&decide (f≤f+n)&&decide (f+n≤(b.length:Int)))=true:=by simp;omega
 rw[decide_eq_false h1,decide_eq_false h2,decide_eq_false h3,decide_eq_false h4];simp only[cond_false,e2];rw[e3,show f+n - f=n by omega];have:((b.drop f.toNat).take n.toNat).length≤bA:=by rw[List.length_take,List.length_drop];omega
 rw[xO this];rfl
def HS.ok{x}(hb:xA [.sl .byte, .v .int, .v .int] x){r}:GJ x.1 x.2.1 x.2.2=some r→Mv x.1 x.2.1 x.2.2=some r:=TA λh=>
 zvU x.1 x.2.1 x.2.2 h (mO hb.2.1 0 (by decide) rfl) (mO hb.2.2 0 (by decide) rfl)
def zfr(l:List UInt8){i:Nat}(hi:i<l.length):MG (l.take (i+1))=iA .i64 (XB .i64 (MG (l.take i)) 256) (IntKind.wrap .i64 ((l[i].toNat:Nat):Int)):=by
 rw[MG,tM l hi,List.foldl_append];rfl
def zqG(b:List UInt8)(f k:Int)(h:wt b≤bA)(hf:yE .i64 f):Nn b f k=some (pH b f k):=by
 have hl:b.length≤bA:=by rw[←EA];exact h
 have hL:=CB;have hf:=ES hf;simp only[Nn,aA,pH]
 by_cases h1:k<1
 ·rw[decide_eq_true h1];rfl
 by_cases h2:k>6
 ·rw[decide_eq_false h1,decide_eq_true h2];rfl
 by_cases h3:f<0
 ·rw[decide_eq_false h1,decide_eq_false h2,decide_eq_true h3];rfl
 have e:qA .i64 (b.length:Int) k=(b.length:Int) - k:=by rw[qA,UB (by omega) (by omega)]
 rw[e]
 by_cases h4:f>(b.length:Int) - k
 ·rw[decide_eq_false h1,decide_eq_false h2,decide_eq_false h3,decide_eq_true h4];rfl
 rw[decide_eq_false h1,decide_eq_false h2,decide_eq_false h3,decide_eq_false h4];simp only[cond_false,Bool.or_false];obtain⟨a,rfl⟩:=cG (n:=f) (by omega);obtain⟨m,rfl⟩:=cG (n:=k) (by omega);simp only[Int.toNat_natCast];refine zgO m (by rw[xD];omega) (λi=>MG (((b.drop a).take m).take i)) _ (λi k hi=>?_) (λk=>?_) 0 (Nat.zero_le _)
 ·have e1:iA .i64 (a:Int) (i:Int)=((a+i:Nat):Int):=by rw[iA,UB (by omega) (by omega)];omega
  have OV:i<((b.drop a).take m).length:=by rw[List.length_take,List.length_drop];omega
  have hai:a+i<b.length:=by omega
  rw[yD hi,cond_true,e1,KB hai,mB,zfr _ OV];simp only[List.getElem_take,List.getElem_drop]
 ·rw[YD,cond_false,List.take_of_length_le (i:=m) (by rw[List.length_take];omega)]
def lS.ok{x}(hb:xA [.sl .byte, .v .int, .v .int] x){r}:kH x.1 x.2.1 x.2.2=some r→Nn x.1 x.2.1 x.2.2=some r:=TA λh=>
 zqG x.1 x.2.1 x.2.2 h (mO hb.2.1 0 (by decide) rfl)
def zuR(p:List UInt8)(hp:p.length≤maxLen)(c:Int):sA FU (λ(x6:Int×Int) k7=>cond (decide (x6.2<(p.length:Int))) (cond (decide (0≤x6.2)&&decide (x6.2<(p.length:Int))) (Option.bind (p[x6.2.toNat]?) λe8=>
  k7 ((iA .i64 (XB .i64 256 x6.1) (IntKind.wrap .i64 ((e8.toNat:Nat):Int))),(iA .i64 x6.2 1))) none) (some (x6.1,c,true))) ((0:Int),(0:Int))=some (MG p,c,true):=by
 refine zgO p.length hp (λi=>MG (p.take i)) _ (λi k hi=>?_) (λk=>?_) 0 (Nat.zero_le _)
 ·have e3:(decide ((0:Int)≤(i:Int))&&decide ((i:Int)<(p.length:Int)))=true:=by simp;exact hi
  simp only[e3,yD hi,cond_true,Int.toNat_natCast,List.getElem?_eq_getElem hi,mB,zfr _ hi,XB,Int.mul_comm 256];rw[show decide ((0:Int)≤(i:Int))=true from decide_eq_true (by omega)];rfl
 ·rw[YD,cond_false,List.take_length]
def zrf(b:List UInt8)(f k:Int)(h:wt b≤bA)(hf:yE .i64 f):Mw b f k=some (pH b f k):=by
 have hl:b.length≤bA:=by rw[←EA];exact h
 have hL:=CB;have hf:=ES hf;simp only[Mw,aA,pH,GJ,UA h,cut]
 by_cases h1:k<1
 ·rw[decide_eq_true h1];rfl
 by_cases h2:k>6
 ·rw[decide_eq_false h1,decide_eq_true h2];rfl
 by_cases h3:f<0
 ·rw[decide_eq_false h1,decide_eq_false h2,decide_eq_true h3];rfl
 rw[decide_eq_false h1,decide_eq_false h2,decide_eq_false h3,decide_eq_false (p:=k<0) (by omega)]
 by_cases h4:f>(b.length:Int) - k
 ·rw[decide_eq_true h4]
  by_cases h5:f>(b.length:Int)
  ·rw[decide_eq_true h5];rfl
  ·rw[decide_eq_false h5,decide_eq_true (p:=k>(b.length:Int) - f) (by omega)];rfl
 rw[decide_eq_false h4,decide_eq_false (p:=f>(b.length:Int)) (by omega),decide_eq_false (p:=k>(b.length:Int) - f) (by omega)];simp only[cond_false,Bool.or_false,Bool.not_true];obtain⟨a,rfl⟩:=cG (n:=f) (by omega);obtain⟨m,rfl⟩:=cG (n:=k) (by omega);simp only[Int.toNat_natCast];have MV:((b.drop a).take m).length=m:=by rw[List.length_take,List.length_drop];omega
 exact zuR _ (by rw[MV,xD];omega) _
def sS.ok{x}(hb:xA [.sl .byte, .v .int, .v .int] x){r}:kH x.1 x.2.1 x.2.2=some r→Mw x.1 x.2.1 x.2.2=some r:=TA λh=>
 zrf x.1 x.2.1 x.2.2 h (mO hb.2.1 0 (by decide) rfl)
def zuX(l:List UInt8)(h:l.length≤4):0≤MG l∧MG l<256^l.length:=by
 have key:∀i,i≤l.length→0≤MG (l.take i)∧MG (l.take i)<256^i:=by
  intro i;induction i with
  | zero=>intro _;simp[MG]
  | succ i ih=>
   intro hi;have OV:i<l.length:=by omega
   obtain⟨h1,h2⟩:=ih (by omega);have hb:=UInt8.toNat_lt l[i]
   have hp:(256:Int)^i≤16777216:=by
    have:i=0∨i=1∨i=2∨i=3:=by omega
    rcases this with rfl | rfl | rfl | rfl<;>decide
   rw[zfr l OV,Int.pow_succ];generalize (256:Int)^i=q at *;generalize MG (l.take i)=v at *;have e1:IntKind.wrap .i64 ((l[i].toNat:Nat):Int)=(l[i].toNat:Int):=UB (by omega) (by omega);have e2:XB .i64 v 256=v *256:=UB (by omega) (by omega);rw[e1,e2,iA,UB (by omega) (by omega)];omega
 have:=key l.length (Nat.le_refl _);rwa [List.take_length]at this
def zv4(x n:Int)(h:1≤n∧n≤31):Mx x n=some (mG x n):=by
 simp only[Mx,aA,mG,pE];rw[decide_eq_false (p:=n<0) (by omega),decide_eq_false (p:=n>31) (by omega)];have:qA .i64 32 n=32 - n:=by rw[qA,UB (by omega) (by omega)]
 rw[this,decide_eq_false (p:=32 - n<0) (by omega)];rfl
def TS.ok{x}(_:xA [.v .int, .v .int] x){r}:oE x.1 x.2=some r→Mx x.1 x.2=some r:=TA λh=>zv4 x.1 x.2 h
def zrP(a n:Int)(h:1≤n∧n≤31):No a n=some (mG a n):=by
 simp only[No,aA,mG,pE];rw[decide_eq_false (p:=n<1) (by omega),decide_eq_false (p:=n>31) (by omega),decide_eq_false (p:=n<0) (by omega)];have:qA .i64 32 n=32 - n:=by rw[qA,UB (by omega) (by omega)]
 rw[this,decide_eq_false (p:=32 - n<0) (by omega)];rfl
def SS.ok{x}(_:xA [.v .int, .v .int] x){r}:oE x.1 x.2=some r→No x.1 x.2=some r:=TA λh=>zrP x.1 x.2 h
def zcd.ok{x}(_:xA [.v .int, .v .int] x):Se x.1 x.2=some (TF x.1 x.2):=rfl
def zco.ok{x}(_:xA [] x):Sb=some EE:=rfl
def zcn.ok{x}(_:xA [] x):Sg=some EE:=rfl
def zc6.ok{x}(_:xA [] x):Sh=some xI:=rfl
def FQ.ok{x}(hb:xA [.sl .int] x):Nm x=some (zdL x):=by
 show Nm (x:List Int)=some (GC (x:List Int) 8)
 have hl:(show List Int from x).length≤maxLen:=hb.1;generalize (show List Int from x)=l at hl⊢;simp only[Nm,aA];rw[ze4 l hl,GC];cases List.all _ _<;>rfl
def ztU:∀m:Fin 64,Kc (m.val:Int)=some (wM (m.val:Int)):=by decide+kernel
def pN.ok{x}(_:xA [.v .int] x):Kc x=some (wM x):=by
 show Kc (x:Int)=some (wM (x:Int))
 generalize (show Int from x)=i
 by_cases h:0≤i∧i≤63
 ·obtain⟨m,rfl⟩:=cG h.1;exact ztU ⟨m,by omega⟩
 ·simp only[Kc,aA,wM,if_neg h]
  by_cases h1:i<0
  ·rw[decide_eq_true h1];rfl
  ·rw[decide_eq_false h1,decide_eq_true (p:=i>63) (by omega)];rfl
end Go.D
namespace Go.D
def oI{X R:Type}(idx:X→Int)(E:Nat→X)(Y4:∀i,idx (E i)=(i:Int))(n:Nat)(hn:n≤maxLen)(z:Option R){f:X→(X→Option R)→Option R}(a:Nat)(ha:a≤n)
  (hf:∀(i:Nat) k,a≤i→i<n→f (E i) k=k (E (i+1))) (hz:∀k,f (E n) k=z):sA FU f (E a)=z:=by
 refine LH (g:=λ_=>z) (λx=>∃i:Nat,a≤i∧i≤n∧x=E i) (λx=>n - (idx x).toNat) (λx hx k hk=>?_) ⟨a,Nat.le_refl _,ha,rfl⟩ (by rw[Y4];unfold maxLen at hn;simp only[Int.toNat_natCast];omega);obtain⟨i,h0,hi,rfl⟩:=hx
 rcases Nat.lt_or_eq_of_le hi with OV | rfl
 ·rw[hf i k h0 OV];exact hk _ ⟨i+1,by omega,OV,rfl⟩ (by rw[Y4,Y4];simp only[Int.toNat_natCast];omega)
 ·exact hz k
def KF{n i:Nat}(h:i<n):(decide ((0:Int)≤(i:Int))&&decide ((i:Int)<(n:Int)))=true:=by simp;exact h
def FH{l:List Int}{i:Nat}(h:i<l.length):l[i]?=some (l.getD i 0):=by
 rw[List.getD_eq_getElem?_getD,List.getElem?_eq_getElem h];rfl
def FM{i c:Nat}(h:i≤maxLen)(hc:c≤i):qA .i64 (i:Int) (c:Int)=((i - c:Nat):Int):=by
 rw[xD]at h;rw[qA,UB (by omega) (by omega)];omega
def kI{i:Nat}(h:i<maxLen):iA .i64 (i:Int) 1=((i+1:Nat):Int):=HG i h
def zwH{i n:Nat}(h:i<n):decide ((i:Int)<(n:Int))=true:=decide_eq_true (by omega)
def WK(b:List UInt8):∀i,(BD b i).length=i
 | 0=>rfl
 | i+1=>by rw[BD,List.length_append,WK b i];rfl
def zss(b:List UInt8)(w:List Int)(i:Nat):ED (vM b w i):=by
 unfold vM;split
 ·unfold pH;cases decide ((4:Int)<1)||(decide ((4:Int)>6)||(decide (((4 *i:Nat):Int)<0)||decide (((4 *i:Nat):Int)>(b.length:Int) - 4)))
  ·simp only[cond_false];have h4:((b.drop ((4 *i:Nat):Int).toNat).take (4:Int).toNat).length≤4:=by rw[List.length_take];exact Nat.min_le_left _ _
   have:=zuX _ h4
   have hp:(256:Int)^((b.drop ((4 *i:Nat):Int).toNat).take (4:Int).toNat).length≤4294967296:=by
    generalize ((b.drop ((4 *i:Nat):Int).toNat).take (4:Int).toNat).length=q at h4;have:q=0∨q=1∨q=2∨q=3∨q=4:=by omega
    rcases this with rfl | rfl | rfl | rfl | rfl<;>decide
   exact⟨this.1,by omega⟩
  ·show ED 0
   exact⟨by decide,by decide⟩
 ·exact zeg _
def zme(b:List UInt8):∀(i j:Nat),ED ((BD b i).getD j 0)
 | 0,j=>by rw[show(BD b 0)=[]from rfl];simp;exact⟨by decide,by decide⟩
 | i+1,j=>by
  rw[BD,List.getD_eq_getElem?_getD,List.getElem?_append];split
  ·have:=zme b i j;rwa [List.getD_eq_getElem?_getD]at this
  ·cases hj:j - (BD b i).length with
   | zero=>exact zss b _ i
   | succ m=>simp;exact⟨by decide,by decide⟩
def zm4{i:Nat}(h:i<16):XB .i64 4 (i:Int)=((4 *i:Nat):Int):=by
 rw[show XB .i64 4 (i:Int)=IntKind.wrap .i64 (4 *(i:Int))from rfl,UB (by omega) (by omega)];omega
def bF{β:Type}{x n:Int}{f:Int→Option β}(h:1≤n∧n≤31):Option.bind (oE x n) f=f (mG x n):=UA h
def zo2(b:List UInt8)(h:wt b≤bA):Np b=some (KC b):=by
 simp only[Np,aA,KC]
 by_cases hl:b.length=64
 case neg=>
  rw[show((b.length:Int) !=64)=true from bne_iff_ne.2 (by omega),if_neg hl];rfl
 rw[show((b.length:Int) !=64)=false by simp[hl],if_pos hl,cond_false];have hL:=CB;refine(oI (X:=List Int×Int) (λx=>x.2) (λi=>(BD b i,(i:Int))) (λ_=>rfl) 16 (by decide) (some (BD b 64)) 0 (by decide) (λi k _ hi=>?_) (λk=>?_))
 ·simp only[zwH (show i<16 from hi),show((16:Nat):Int)=16 from rfl,decide_eq_true (p:=(i:Int)<16) (by omega),cond_true,zm4 hi,kH,UA h,kI (i:=i) (by rw[xD];omega)];rw[IH (by rw[WK];simp;omega),cond_true,BD,vM,if_pos hi]
 ·simp only[show((16:Nat):Int)=16 from rfl,show decide ((16:Int)<16)=false from rfl,cond_false];refine(oI (X:=List Int×Int) (λx=>x.2) (λi=>(BD b i,(i:Int))) (λ_=>rfl) 64 (by decide) (some (BD b 64)) 16 (by decide) (λi k RY hi=>?_) (λk=>?_))
  ·have hm:i≤maxLen:=by rw[xD];omega
   have e15:qA .i64 (i:Int) 15=((i - 15:Nat):Int):=FM (c:=15) hm (by omega);have e2:qA .i64 (i:Int) 2=((i - 2:Nat):Int):=FM (c:=2) hm (by omega);have e7:qA .i64 (i:Int) 7=((i - 7:Nat):Int):=FM (c:=7) hm (by omega);have e16:qA .i64 (i:Int) 16=((i - 16:Nat):Int):=FM (c:=16) hm (by omega);have hs:=WK b i
   simp only[decide_eq_true (p:=(i:Int)<64) (by omega),cond_true,e15,e2,e7,e16,KF (show i - 15<(BD b i).length by omega),KF (show i - 2<(BD b i).length by omega),KF (show i - 7<(BD b i).length by omega),KF (show i - 16<(BD b i).length by omega),Int.toNat_natCast,
    FH (show i - 15<(BD b i).length by omega),FH (show i - 2<(BD b i).length by omega),FH (show i - 7<(BD b i).length by omega),FH (show i - 16<(BD b i).length by omega),mB,bF (show(1:Int)≤7∧(7:Int)≤31 by decide),bF (show(1:Int)≤18∧(18:Int)≤31 by decide),bF (show(1:Int)≤17∧(17:Int)≤31 by decide),bF (show(1:Int)≤19∧(19:Int)≤31 by decide),kI (i:=i) (by rw[xD];omega)]
   rw[IH (by rw[WK];simp;omega),cond_true,BD,vM,if_neg (by omega)];rfl
  ·simp only[show((64:Nat):Int)=64 from rfl,show decide ((64:Int)<64)=false from rfl,cond_false]
def PP.ok{x}(_:xA [.sl .byte] x){r}:pM x=some r→Np x=some r:=TA λh=>zo2 x h
def qF(b:List UInt8)(i:Nat):List Int:=BD b i++List.replicate (64 - i) 0
def zjr(b:List UInt8){i:Nat}(hi:i<64)(v:Int)(hv:v=vM b (BD b i) i):List.set (qF b i) i v=qF b (i+1):=by
 subst hv;rw[qF,show 64 - i=(64 - (i+1))+1 by omega,List.replicate_succ,zmG _ _ _ _ (WK b i),qF,BD,List.append_assoc];rfl
def za5(b:List UInt8){i j:Nat}(hj:j<i):(qF b i)[j]?=some ((BD b i).getD j 0):=by
 rw[qF,List.getElem?_append_left (by rw[WK];exact hj),FH (by rw[WK];exact hj)]
def zfd(b:List UInt8){i:Nat}(h:i≤64):(qF b i).length=64:=by
 rw[qF,List.length_append,WK,List.length_replicate];omega
def zi2(b:List UInt8){i j:Nat}(hi:i≤64)(hj:j<64):∃v,(qF b i)[j]?=some v:=⟨_,List.getElem?_eq_getElem (by rw[zfd b hi];exact hj)⟩
def zoU(b:List UInt8)(h:wt b≤bA):My b=some (KC b):=by
 simp only[My,aA,KC]
 by_cases hl:b.length=64
 case neg=>
  rw[show((b.length:Int) !=64)=true from bne_iff_ne.2 (by omega),if_neg hl];rfl
 rw[show((b.length:Int) !=64)=false by simp[hl],if_pos hl,cond_false];have hend:qF b 64=BD b 64:=by simp[qF]
 refine(oI (X:=Int×List Int) (λx=>x.1) (λi=>((i:Int),qF b i)) (λ_=>rfl) 16 (by decide) (some (BD b 64)) 0 (by decide) (λi k _ hi=>?_) (λk=>?_))
 ·have MV:=zfd b (i:=i) (by omega);obtain⟨v,hv⟩:=zi2 b (i:=i) (j:=i) (by omega) (by omega);simp only[decide_eq_true (p:=(i:Int)<16) (by omega),cond_true,zm4 hi,kH,UA h,KF (show i<(qF b i).length by omega),Int.toNat_natCast,hv,mB,kI (i:=i) (by rw[xD];omega)];rw[zjr b (by omega) _ (by rw[vM,if_pos hi])]
 ·simp only[show((16:Nat):Int)=16 from rfl,show decide ((16:Int)<16)=false from rfl,cond_false];refine(oI (X:=Int×List Int) (λx=>x.1) (λi=>((i:Int),qF b i)) (λ_=>rfl) 64 (by decide) (some (BD b 64)) 16 (by decide) (λi k RY hi=>?_) (λk=>?_))
  ·have hm:i≤maxLen:=by rw[xD];omega
   have MV:=zfd b (i:=i) (by omega);obtain⟨v,hv⟩:=zi2 b (i:=i) (j:=i) (by omega) (by omega);have e15:qA .i64 (i:Int) 15=((i - 15:Nat):Int):=FM (c:=15) hm (by omega);have e2:qA .i64 (i:Int) 2=((i - 2:Nat):Int):=FM (c:=2) hm (by omega);have e7:qA .i64 (i:Int) 7=((i - 7:Nat):Int):=FM (c:=7) hm (by omega);have e16:qA .i64 (i:Int) 16=((i - 16:Nat):Int):=FM (c:=16) hm (by omega)
   simp only[decide_eq_true (p:=(i:Int)<64) (by omega),cond_true,e15,e2,e7,e16,KF (show i - 15<(qF b i).length by omega),KF (show i - 2<(qF b i).length by omega),KF (show i - 7<(qF b i).length by omega),KF (show i - 16<(qF b i).length by omega),KF (show i<(qF b i).length by omega),Int.toNat_natCast,
    za5 b (show i - 15<i by omega),za5 b (show i - 2<i by omega),za5 b (show i - 7<i by omega),za5 b (show i - 16<i by omega),hv,mB,bF (show(1:Int)≤7∧(7:Int)≤31 by decide),bF (show(1:Int)≤18∧(18:Int)≤31 by decide),bF (show(1:Int)≤17∧(17:Int)≤31 by decide),bF (show(1:Int)≤19∧(19:Int)≤31 by decide),kI (i:=i) (by rw[xD];omega)]
   rw[zjr b hi _ (by rw[vM,if_neg (by omega)];rfl)]
  ·simp only[show((64:Nat):Int)=64 from rfl,show decide ((64:Int)<64)=false from rfl,cond_false,hend]
def cQ.ok{x}(_:xA [.sl .byte] x){r}:pM x=some r→My x=some r:=TA λh=>zoU x h
def zsR(b:List UInt8)(j:Nat):ED ((KC b).getD j 0):=by
 unfold KC;split
 ·exact zme b 64 j
 ·simp;exact⟨by decide,by decide⟩
end Go.D
namespace Go.D
def zk2:xI.length=64:=by decide
def zwY:∀m:Fin 64,decide (0≤xI.getD m.val 0)&&decide (xI.getD m.val 0≤4294967295)=true:=by decide+kernel
def k_w{i:Nat}(h:i<64):ED (xI.getD i 0):=by
 have:=zwY ⟨i,h⟩;simp only[Bool.and_eq_true,decide_eq_true_eq]at this;exact this
def zqr{i:Nat}(h:i<64):wM (i:Int)=xI.getD i 0:=by
 rw[wM,if_pos (by omega),Int.toNat_natCast]
def W8(s:S8):Prop:=ED s.1∧ED s.2.1∧ED s.2.2.1∧ED s.2.2.2.1∧ED s.2.2.2.2.1∧ED s.2.2.2.2.2.1∧ED s.2.2.2.2.2.2.1∧ED s.2.2.2.2.2.2.2
def zvJ(k w:Int){s:S8}(h:W8 s):W8 (zec k w s):=⟨zeg _,h.1,h.2.1,h.2.2.1,zeg _,h.2.2.2.2.1,h.2.2.2.2.2.1,h.2.2.2.2.2.2.1⟩
def zkS(w:List Int){s:S8}(h:W8 s):∀i,W8 (rounds w s i)
 | 0=>h
 | i+1=>zvJ _ _ (zkS w h i)
def zam{a b:Int}{m n:Int}(ha:0≤a∧a≤m)(hb:0≤b∧b≤n)(h:m+n≤9223372036854775807):0≤iA .i64 a b∧iA .i64 a b≤m+n:=by
 rw[iA,UB (by omega) (by omega)];omega
def zwS:ED 4294967295:=⟨by decide,by decide⟩
def zzY{k w:Int}{s:S8}(hk:ED k)(hw:ED w)(h:W8 s):0≤rT k w s∧rT k w s≤21474836475:=by
 obtain⟨_,_,_,_,h5,h6,h7,h8⟩:=h;have a1:=VM (VM (oT s.2.2.2.2.1 6) (oT s.2.2.2.2.1 11)) (oT s.2.2.2.2.1 25);have a2:=VM (zah h5 h6) (zah (VM h5 zwS) h7);have b1:=zam h8 a1 (by decide);have b2:=zam b1 a2 (by decide);have b3:=zam b2 hk (by decide);exact zam b3 hw (by decide)
def zyV{s:S8}(h:W8 s):0≤rU s∧rU s≤8589934590:=by
 obtain⟨h1,h2,h3,_⟩:=h;exact zam (VM (VM (oT s.1 2) (oT s.1 13)) (oT s.1 22)) (VM (VM (zah h1 h2) (zah h1 h3)) (zah h2 h3)) (by decide)
def zlS{a b:Int}(ha:0≤a∧a≤1099511627776)(hb:0≤b∧b≤1099511627776):pE (iA .i64 a b)=pE (iA .i64 (pE a) (pE b)):=by
 have h1:=zdX a;have h2:=zdX b;rw[iA,iA,UB (by omega) (by omega),UB (by omega) (by omega),DV (by omega) (by omega),DV (a:=pE a+pE b) (by omega) (by omega),DV ha.1 (by omega),DV hb.1 (by omega)];omega
def zwV{a:Int}(h:ED a):pE a=a:=by
 rw[DV h.1 (Int.le_trans h.2 (by decide))];have:=h.1;have:=h.2;omega
def OK{h:List Int}(hw:GC h 8=true):h.length=8∧∀j,ED (h.getD j 0):=by
 simp only[GC,Bool.and_eq_true,beq_iff_eq,List.all_eq_true]at hw;refine⟨by omega,λj=>?_⟩
 by_cases hj:j<h.length
 ·rw[List.getD_eq_getElem?_getD,List.getElem?_eq_getElem hj];exact bD.1 (hw.1 _ (List.getElem_mem hj))
 ·rw[List.getD_eq_getElem?_getD,List.getElem?_eq_none (by omega)];exact⟨by decide,by decide⟩
def zxl{h:List Int}(hw:GC h 8=true):W8 (qE h):=by
 have:=(OK hw).2;exact⟨this 0,this 1,this 2,this 3,this 4,this 5,this 6,this 7⟩
def zdi(h:List Int)(s:S8)(hl:h.length=8):(List.zipWith TF h (PH s)).length=8:=by
 rw[List.length_zipWith,hl];rfl
def zsD{h:List Int}(b:List UInt8)(hw:GC h 8=true):GC (wF h b) 8=true:=by
 have hl:=(OK hw).1;simp only[GC,Bool.and_eq_true,beq_iff_eq,List.all_eq_true];refine⟨λx hx=>?_,?_⟩
 ·obtain⟨i,hi,rfl⟩:=List.getElem_of_mem hx;have hi2:i<(List.zipWith TF h (PH (rounds (KC b) (qE h) 64))).length:=hi;show eA ((List.zipWith TF h (PH (rounds (KC b) (qE h) 64)))[i]'hi2) 0 4294967295=true
  rw[List.getElem_zipWith];exact bD.2 (zdX _)
 ·have:=zdi h (rounds (KC b) (qE h) 64) hl;show((List.zipWith TF h (PH (rounds (KC b) (qE h) 64))).length:Int)=8
  omega
def zp3{h:List Int}(b:List UInt8)(hw:GC h 8=true):GC (lL h b) 8=true:=by
 unfold lL;cases GC h 8&&b.length==64
 ·exact hw
 ·exact zsD b hw
def zjm{b:List UInt8}(h:b.length=64):(KC b).length=64:=by
 rw[KC,if_pos h,WK]
def fF(h:List Int)(z:List Int)(i:Nat):List Int:=z.take i++h.drop i
def zs7{h z:List Int}(hl:h.length=z.length){i:Nat}(hi:i<z.length)(v:Int)(hv:v=z[i]):List.set (fF h z i) i v=fF h z (i+1):=by
 subst hv;have hi2:i<h.length:=by omega
 rw[fF,qS h hi2,zmG _ _ _ _ (by rw[List.length_take];omega),fF,tM z hi,List.append_assoc];rfl
def zjV{h z:List Int}(hl:h.length=z.length){i:Nat}(hi:i≤z.length):(fF h z i).length=z.length:=by
 rw[fF,List.length_append,List.length_take,List.length_drop];omega
def cF{l:List Int}{i:Nat}(h:i<l.length):kA l (i:Int)=some (l.getD i 0):=by rw[zk1,FH h]
def zvN(h:List Int)(s:S8)(hl:h.length=8){i:Nat}(hi:i<(List.zipWith TF h (PH s)).length):(List.zipWith TF h (PH s))[i]=TF (h.getD i 0) ((PH s).getD i 0):=by
 have h8:=zdi h s hl;rw[List.getElem_zipWith,List.getD_eq_getElem?_getD,List.getD_eq_getElem?_getD,List.getElem?_eq_getElem (by omega),List.getElem?_eq_getElem (by show i<8;omega)];rfl
def zc0{h:List Int}(b:List UInt8)(h8:h.length=8):(wF h b).length=8:=zdi h _ h8
def zkY{h:List Int}(b:List UInt8)(h8:h.length=8){i:Nat}(hi:i<8):List.set (fF h (wF h b) i) i (TF (h.getD i 0) ((PH (rounds (KC b) (qE h) 64)).getD i 0))=fF h (wF h b) (i+1):=
 zs7 (by rw[zc0 b h8,h8]) (by rw[zc0 b h8];exact hi) _ (zvN h _ h8 (by rw[zdi h _ h8];exact hi)).symm
def zoZ(h:List Int)(b:List UInt8)(hh:wt h≤bA∧wt b≤bA):Nq h b=some (lL h b):=by
 have MV:h.length≤bA:=by rw[←uL];exact hh.1
 simp only[Nq,aA,List.nil_append,lL,zdL,pM,UA hh.2];rw[show decide (([]:List Int).length+h.length≤bA)=true from decide_eq_true (by simpa using MV)];simp only[cond_true];cases hw:GC h 8
 ·rfl
 by_cases hb:b.length=64
 case neg=>
  rw[show((b.length:Int) !=64)=true from bne_iff_ne.2 (by omega),beq_false_of_ne hb];rfl
 rw[show((b.length:Int) !=64)=false by simp[hb],show(b.length==64)=true by simp[hb]];obtain⟨h8,hW⟩:=OK hw;have i0:kA h 0=some (h.getD 0 0):=cF (i:=0) (by omega);have i1:kA h 1=some (h.getD 1 0):=cF (i:=1) (by omega);have i2:kA h 2=some (h.getD 2 0):=cF (i:=2) (by omega);have i3:kA h 3=some (h.getD 3 0):=cF (i:=3) (by omega);have i4:kA h 4=some (h.getD 4 0):=cF (i:=4) (by omega);have i5:kA h 5=some (h.getD 5 0):=cF (i:=5) (by omega);have i6:kA h 6=some (h.getD 6 0):=cF (i:=6) (by omega);have i7:kA h 7=some (h.getD 7 0):=cF (i:=7) (by omega);simp only[Bool.not_true,cond_false,Bool.and_true,cond_true,i0,i1,i2,i3,i4,i5,i6,i7,mB];have L2:=zjm hb;refine oI (λx=>x.2.2.2.2.2.2.2.2) (λi=>((rounds (KC b) (qE h) i).1,(rounds (KC b) (qE h) i).2.1,(rounds (KC b) (qE h) i).2.2.1,(rounds (KC b) (qE h) i).2.2.2.1,(rounds (KC b) (qE h) i).2.2.2.2.1,(rounds (KC b) (qE h) i).2.2.2.2.2.1,(rounds (KC b) (qE h) i).2.2.2.2.2.2.1,(rounds (KC b) (qE h) i).2.2.2.2.2.2.2,(i:Int))) (λ_=>rfl) 64 (by decide) (some (wF h b)) 0 (by decide) (λi k _ hi=>?_) (λk=>?_)
 ·simp only[decide_eq_true (p:=(i:Int)<64) (by omega),cond_true,Int.toNat_natCast,KF (show i<xI.length by rw[zk2];exact hi),KF (show i<(KC b).length by omega),FH (show i<xI.length by rw[zk2];exact hi),FH (show i<(KC b).length by omega),mB,
   bF (show(1:Int)≤6∧(6:Int)≤31 by decide),bF (show(1:Int)≤11∧(11:Int)≤31 by decide),bF (show(1:Int)≤25∧(25:Int)≤31 by decide),bF (show(1:Int)≤2∧(2:Int)≤31 by decide),bF (show(1:Int)≤13∧(13:Int)≤31 by decide),bF (show(1:Int)≤22∧(22:Int)≤31 by decide),kI (i:=i) (by rw[xD];omega)]
  rfl
 ·simp only[show((64:Nat):Int)=64 from rfl,show decide ((64:Int)<64)=false from rfl,cond_false];have U2:=zc0 b h8;refine oI (X:=Int×List Int) (λx=>x.1) (λi=>((i:Int),fF h (wF h b) i)) (λ_=>rfl) 8 (by decide) (some (wF h b)) 0 (by decide) (λi k _ hi=>?_) (λk=>?_)
  ·have O8:(fF h (wF h b) i).length=8:=by rw[zjV (by rw[U2,h8]) (by rw[U2];omega),U2]
   have S5:i<(PH (rounds (KC b) (qE h) 64)).length:=hi;have ho:(fF h (wF h b) i)[i]?=some ((fF h (wF h b) i).getD i 0):=FH (by omega);simp only[decide_eq_true (p:=(i:Int)<8) (by omega),cond_true,cF (show i<h.length by omega),mB,KF (show i<(fF h (wF h b) i).length by omega),ho,Int.toNat_natCast,kI (i:=i) (by rw[xD];omega)];have e1:=KF S5;have e2:=FH S5;unfold PH at e1 e2;rw[e1,cond_true,e2,mB];exact congrArg (λl=>k (((i+1:Nat):Int),l)) (zkY b h8 hi)
  ·simp only[show((8:Nat):Int)=8 from rfl,show decide ((8:Int)<8)=false from rfl,cond_false];rw[fF,List.take_of_length_le (by rw[U2];exact Nat.le_refl _),List.drop_eq_nil_of_le (by omega),List.append_nil]
def UP.ok{x}(_:xA [.sl .int, .sl .byte] x){r}:aL x.1 x.2=some r→Nq x.1 x.2=some r:=TA λh=>zoZ x.1 x.2 h
def ztP{k w:Int}{s:S8}(hk:ED k)(hw:ED w)(h:W8 s):zec k w s=(TF (rT k w s) (rU s),s.1,s.2.1,s.2.2.1,TF s.2.2.2.1 (rT k w s),s.2.2.2.2.1,s.2.2.2.2.2.1,s.2.2.2.2.2.2.1):=by
 have ht:=zzY hk hw h;have hu:=zyV h;have hd:=h.2.2.2.1;rw[zec,TF,TF,zlS (a:=rT k w s) (b:=rU s) ⟨ht.1,by omega⟩ ⟨hu.1,by omega⟩,zlS (a:=s.2.2.2.1) (b:=rT k w s) ⟨hd.1,Int.le_trans hd.2 (by decide)⟩ ⟨ht.1,by omega⟩,zwV hd]
def zo1(h:List Int)(b:List UInt8)(hh:wt h≤bA∧wt b≤bA):Mz h b=some (lL h b):=by
 have MV:h.length≤bA:=by rw[←uL];exact hh.1
 simp only[Mz,aA,List.nil_append,lL,pM,UA hh.2];rw[show decide (([]:List Int).length+h.length≤bA)=true from decide_eq_true (by simpa using MV)];simp only[cond_true];cases hw:GC h 8
 ·rfl
 by_cases hb:b.length=64
 case neg=>
  rw[show((b.length:Int) !=64)=true from bne_iff_ne.2 (by omega),beq_false_of_ne hb];rfl
 rw[show((b.length:Int) !=64)=false by simp[hb],show(b.length==64)=true by simp[hb]];obtain⟨h8,hW⟩:=OK hw;have i0:kA h 0=some (h.getD 0 0):=cF (i:=0) (by omega);have i1:kA h 1=some (h.getD 1 0):=cF (i:=1) (by omega);have i2:kA h 2=some (h.getD 2 0):=cF (i:=2) (by omega);have i3:kA h 3=some (h.getD 3 0):=cF (i:=3) (by omega);have i4:kA h 4=some (h.getD 4 0):=cF (i:=4) (by omega);have i5:kA h 5=some (h.getD 5 0):=cF (i:=5) (by omega);have i6:kA h 6=some (h.getD 6 0):=cF (i:=6) (by omega);have i7:kA h 7=some (h.getD 7 0):=cF (i:=7) (by omega);simp only[Bool.not_true,cond_false,Bool.and_true,cond_true,i0,i1,i2,i3,i4,i5,i6,i7,mB];have L2:=zjm hb;refine oI (λx=>x.2.2.2.2.2.2.2.2) (λi=>((rounds (KC b) (qE h) i).1,(rounds (KC b) (qE h) i).2.1,(rounds (KC b) (qE h) i).2.2.1,(rounds (KC b) (qE h) i).2.2.2.1,(rounds (KC b) (qE h) i).2.2.2.2.1,(rounds (KC b) (qE h) i).2.2.2.2.2.1,(rounds (KC b) (qE h) i).2.2.2.2.2.2.1,(rounds (KC b) (qE h) i).2.2.2.2.2.2.2,(i:Int))) (λ_=>rfl) 64 (by decide) (some (wF h b)) 0 (by decide) (λi k _ hi=>?_) (λk=>?_)
 ·have hs:=ztP (k_w hi) (zsR b i) (zkS (KC b) (zxl hw) i)
  simp only[decide_eq_true (p:=(i:Int)<64) (by omega),cond_true,Int.toNat_natCast,KF (show i<(KC b).length by omega),FH (show i<(KC b).length by omega),mB,zqr hi,ztY 4294967295,
   bF (show(1:Int)≤6∧(6:Int)≤31 by decide),bF (show(1:Int)≤11∧(11:Int)≤31 by decide),bF (show(1:Int)≤25∧(25:Int)≤31 by decide),bF (show(1:Int)≤2∧(2:Int)≤31 by decide),bF (show(1:Int)≤13∧(13:Int)≤31 by decide),bF (show(1:Int)≤22∧(22:Int)≤31 by decide),kI (i:=i) (by rw[xD];omega)]
  rw[rounds,hs];rfl
 ·simp only[show((64:Nat):Int)=64 from rfl,show decide ((64:Int)<64)=false from rfl,cond_false];have U2:=zc0 b h8;refine oI (X:=Int×List Int) (λx=>x.1) (λi=>((i:Int),fF h (wF h b) i)) (λ_=>rfl) 8 (by decide) (some (wF h b)) 0 (by decide) (λi k _ hi=>?_) (λk=>?_)
  ·have O8:(fF h (wF h b) i).length=8:=by rw[zjV (by rw[U2,h8]) (by rw[U2];omega),U2]
   have S5:i<(PH (rounds (KC b) (qE h) 64)).length:=hi;have ho:(fF h (wF h b) i)[i]?=some ((fF h (wF h b) i).getD i 0):=FH (by omega);simp only[cond_true,cF (show i<h.length by omega),mB,KF (show i<(fF h (wF h b) i).length by omega),ho,Int.toNat_natCast,kI (i:=i) (by rw[xD];omega)];have e0:=yD S5;have e1:=KF S5;have e2:=FH S5;unfold PH at e0 e1 e2;rw[e0,cond_true,show decide ((0:Int)≤(i:Int))=true from decide_eq_true (by omega),Bool.and_true,cond_true,e2,mB];exact congrArg (λl=>k (((i+1:Nat):Int),l)) (zkY b h8 hi)
  ·simp only[List.length_cons,List.length_nil];rw[show decide (((8:Nat):Int)<((0+1+1+1+1+1+1+1+1:Nat):Int))=false from rfl,cond_false];rw[fF,List.take_of_length_le (by rw[U2];exact Nat.le_refl _),List.drop_eq_nil_of_le (by omega),List.append_nil]
def XP.ok{x}(_:xA [.sl .int, .sl .byte] x){r}:aL x.1 x.2=some r→Mz x.1 x.2=some r:=TA λh=>zo1 x.1 x.2 h
end Go.D
namespace Go.D
def dM:∀(n:Nat) (h:List Int) (b:List UInt8),GC h 8=true→GC (LC h n b) 8=true
 | 0,h,b,hw=>hw
 | n+1,h,b,hw=>dM n _ _ (zp3 _ hw)
def zfx:∀(n:Nat) (h:List Int) (b:List UInt8),LC h (n+1) b=lL (LC h n b) ((b.drop (64 *n)).take 64)
 | 0,h,b=>rfl
 | n+1,h,b=>by
  rw[LC,zfx n,LC,List.drop_drop];rw[show 64+64 *n=64 *(n+1) by omega]
def zjZ:∀(m k:Nat) (h:List Int) (b:List UInt8),LC h (m+k) b=LC (LC h m b) k (b.drop (64 *m))
 | 0,k,h,b=>by simp[LC]
 | m+1,k,h,b=>by
  rw[show m+1+k=(m+k)+1 by omega,LC,zjZ m k,LC,List.drop_drop,show 64+64 *m=64 *(m+1) by omega]
def zkp:∀(m:Nat) (h:List Int) (b p:List UInt8),64 *m≤b.length→LC h m (b++p)=LC h m b
 | 0,h,b,p,_=>rfl
 | m+1,h,b,p,hl=>by
  rw[LC,LC,List.take_append_of_le_length (by omega),List.drop_append_of_le_length (by omega),zkp m _ _ _ (by rw[List.length_drop];omega)]
def zd5{h:List Int}(hw:GC h 8=true):wt h≤bA:=by
 rw[uL,(OK hw).1,CB];decide
def ztb(l:List UInt8)(h:64≤l.length):List.take (((l.length:Int) - 64).toNat) (List.drop 64 l)=l.drop 64:=by
 rw[List.take_of_length_le];rw[List.length_drop];omega
def zk9(n:Nat):64 *(n / 64)≤n:=Nat.mul_div_le n 64
def zop(h:List Int)(b:List UInt8)(hb:wt b≤bA)(hw:GC h 8=true):Na h b=some (LC h (b.length / 64) b,b.drop (64 *(b.length / 64))):=by
 have hl:b.length≤bA:=by rw[←EA];exact hb
 simp only[Na,aA];refine LH (g:=λ_=>some (LC h (b.length / 64) b,b.drop (64 *(b.length / 64)))) (λx=>∃i:Nat,64 *i≤b.length∧x=(LC h i b,b.drop (64 *i))) (λx=>x.2.length) (λx hx k hk=>?_) (x:=(h,b)) ⟨0,Nat.zero_le _,by simp[LC]⟩ (by show b.length<2^64;rw[CB]at hl;omega);obtain⟨i,hi,rfl⟩:=hx;have hdl:(b.drop (64 *i)).length=b.length - 64 *i:=List.length_drop;have hds:=rF b (64 *i)
 by_cases zY:64 *(i+1)≤b.length
 ·have e1:decide (((b.drop (64 *i)).length:Int)≥64)=true:=decide_eq_true (by omega);have e2:(decide ((0:Int)≤0)&&decide ((0:Int)≤64)&&true)=true:=rfl;have e3:(decide ((0:Int)≤64)&&true&&decide (((b.drop (64 *i)).length:Int)≤((b.drop (64 *i)).length:Int)))=true:=by simp
  have T1:=hk (LC h (i+1) b,b.drop (64 *(i+1))) ⟨i+1,zY,rfl⟩ (by show(b.drop (64 *(i+1))).length<(b.drop (64 *i)).length;rw[List.length_drop,List.length_drop];omega);rw[zfx,show 64 *(i+1)=64 *i+64 by omega, ←List.drop_drop]at T1;simp only[e1,e2,e3,cond_true,List.drop_zero,aL,UA (p:=wt (LC h i b)≤bA∧wt ((b.drop (64 *i)).take 64)≤bA) ⟨zd5 (dM i h b hw),Nat.le_trans (WD _ _) (Nat.le_trans hds hb)⟩,ztb _ (show 64≤(b.drop (64 *i)).length by omega)];exact T1
 ·have e1:decide (((b.drop (64 *i)).length:Int)≥64)=false:=decide_eq_false (by omega);have:i=b.length / 64:=by omega
  simp only[e1,cond_false, ←this]
def fP.ok{x}(_:xA [.sl .int, .sl .byte] x){r}:xT x.1 x.2=some r→Na x.1 x.2=some r:=TA λh=>zop x.1 x.2 h.2.2 h.2.1
def IN(n:Int):∀i,(tG n i).length=i
 | 0=>rfl
 | i+1=>by rw[tG,List.length_cons,IN n i]
def zd6(b:List UInt8)(n:Int):CD b n 4=b++tG n 4:=rfl
def zxy(b:List UInt8)(n:Int):CD b n 6=b++tG n 6:=rfl
def ziD(h:List Int){i:Nat}(hi:i<h.length):oF (h.take (i+1))=oF (h.take i)++tG (h.getD i 0) 4:=by
 rw[oF,tM h hi,List.flatMap_append];simp[oF,List.getD_eq_getElem?_getD,hi]
def za0:∀h:List Int,(oF h).length=4 *h.length
 | []=>rfl
 | x :: h=>by
  rw[oF,List.flatMap_cons,List.length_append,IN,List.length_cons];have:=za0 h;rw[oF]at this;omega
def zoE(h:List Int)(h8:h.length=8):Nd h=some (oF h):=by
 have hL:=CB;simp only[Nd,aA];refine oI (X:=List UInt8×Int) (λx=>x.2) (λi=>(oF (h.take i),(i:Int))) (λ_=>rfl) h.length (by rw[h8];decide) _ 0 (Nat.zero_le _) (λi k _ hi=>?_) (λk=>by simp only[YD,cond_false,List.take_length]);have hwl:=za0 (h.take i);rw[List.length_take]at hwl;simp only[yD hi,cond_true,cF hi,mB,VB,UA (p:=wt (oF (h.take i))+6≤bA) (by rw[EA];omega),zd6,kI (i:=i) (by rw[xD];omega),ziD h hi]
def MP.ok{x}(_:xA [.sl .int] x){r}:UK x=some r→Nd x=some r:=TA λh=>zoE x h
def zql(h:List Int)(h8:h.length=8):Nr h=some (oF h):=by
 have hL:=CB;simp only[Nr,aA];refine oI (X:=List UInt8×Int) (λx=>x.2) (λi=>(oF (h.take i),(i:Int))) (λ_=>rfl) 8 (by decide) _ 0 (Nat.zero_le _) (λi k _ hi=>?_) (λk=>?_)
 ·have hwl:=za0 (h.take i);rw[List.length_take]at hwl;simp only[decide_eq_true (p:=(i:Int)<8) (by omega),cond_true,cF (show i<h.length by omega),mB,VB,UA (p:=wt (oF (h.take i))+6≤bA) (by rw[EA];omega),zd6,kI (i:=i) (by rw[xD];omega),ziD h (show i<h.length by omega)]
 ·simp only[show((8:Nat):Int)=8 from rfl,show decide ((8:Int)<8)=false from rfl,cond_false];rw[List.take_of_length_le (by omega)]
def UR.ok{x}(_:xA [.sl .int] x){r}:UK x=some r→Nr x=some r:=TA λh=>zql x h
def zkw:(UInt8.ofNat (0:Int).toNat)=0:=rfl
def zkX(n:Nat)(hn:n≤1048576)(z:List UInt8→Option (List UInt8)):sA FU (λ(x5:(List UInt8)) k6=>cond ((zA .i64 (iA .i64 (iA .i64 (n:Int) (x5.length:Int)) 8) 64) !=0)
  (cond (decide (x5.length+[UInt8.ofNat (0:Int).toNat].length≤bA)) (k6 (x5++[UInt8.ofNat (0:Int).toNat])) none) (z x5)) [UInt8.ofNat (128:Int).toNat]=z (128 :: List.replicate (tF n) 0):=by
 have hz:tF n<64:=Nat.mod_lt _ (by decide);have hL:=CB;refine LH (g:=λ_=>z (128 :: List.replicate (tF n) 0)) (λx=>∃j:Nat,j≤tF n∧x=128 :: List.replicate j 0) (λx=>tF n+1 - x.length) (λx hx k hk=>?_) ⟨0,Nat.zero_le _,rfl⟩ (by show tF n+1 - 1<2^64;omega);obtain⟨j,hj,rfl⟩:=hx
 have e1:iA .i64 (iA .i64 (n:Int) (((128 :: List.replicate j 0:List UInt8).length:Nat):Int)) 8=((n+(j+1)+8:Nat):Int):=by
  rw[List.length_cons,List.length_replicate];have a1:iA .i64 (n:Int) ((j+1:Nat):Int)=((n+(j+1):Nat):Int):=by rw[iA,UB (by omega) (by omega)];omega
  rw[a1,iA,UB (by omega) (by omega)];omega
 have e2:zA .i64 ((n+(j+1)+8:Nat):Int) 64=(((n+(j+1)+8) % 64:Nat):Int):=PS _ 64;simp only[e1,e2]
 rcases Nat.lt_or_eq_of_le hj with OV | rfl
 ·have:(n+(j+1)+8) % 64≠0:=by unfold tF at OV;omega
  rw[show((((n+(j+1)+8) % 64:Nat):Int) !=0)=true from bne_iff_ne.2 (by omega),cond_true,IH (by simp;omega),cond_true];refine hk _ ⟨j+1,OV,?_⟩ (by simp;omega);rw[zkw,List.cons_append,List.replicate_succ']
 ·have:(n+(tF n+1)+8) % 64=0:=by unfold tF;omega
  rw[this];rfl
def zvE(n:Nat)(hn:n≤1048576):tG ((8 *n:Nat):Int) 6=[0,0]++tG ((8 *n:Nat):Int) 4:=by
 have h5:GE .i64 ((8 *n:Nat):Int) (XB .i64 8 ((5:Nat):Int))=0:=by
  show Int.fdiv ((8 *n:Nat):Int) 1099511627776=0
  rw[Int.fdiv_eq_ediv_of_nonneg _ (by decide)];omega
 have h4:GE .i64 ((8 *n:Nat):Int) (XB .i64 8 ((4:Nat):Int))=0:=by
  show Int.fdiv ((8 *n:Nat):Int) 4294967296=0
  rw[Int.fdiv_eq_ediv_of_nonneg _ (by decide)];omega
 rw[tG,tG];rw[show GO ((8 *n:Nat):Int) 5=0 by rw[GO,h5];rfl,show GO ((8 *n:Nat):Int) 4=0 by rw[GO,h4];rfl];rfl
def zmT{n:Nat}(h:n≤1048576):XB .i64 8 (n:Int)=((8 *n:Nat):Int):=by
 rw[show XB .i64 8 (n:Int)=IntKind.wrap .i64 (8 *(n:Int))from rfl,UB (by omega) (by omega)];omega
def SU(n:Nat):(128 :: List.replicate (tF n) 0:List UInt8).length=tF n+1:=by simp
def zrL(n:Nat)(hn:n≤1048576):Nl (n:Int)=some (FD n):=by
 have hz:tF n<64:=Nat.mod_lt _ (by decide);have hL:=CB;simp only[Nl,aA,decide_eq_false (p:=(n:Int)<0) (by omega),decide_eq_false (p:=(n:Int)>1048576) (by omega),cond_false];rw[zkX n hn];simp only[VB,UA (p:=wt (128 :: List.replicate (tF n) 0:List UInt8)+6≤bA) (by rw[EA,SU];omega),zd6,zmT hn];rw[UA (by rw[EA,List.length_append,SU,IN];omega),FD,List.append_assoc];rfl
def LS.ok{x}(_:xA [.v .int] x){r}:dN x=some r→Nl x=some r:=TA λh=>by
 obtain⟨n,hn⟩:=cG h.1;have hn:x=(n:Int):=hn;have h2:(x:Int)≤1048576:=h.2;subst hn;exact zrL n (by omega)
def zrl(n:Nat)(hn:n≤1048576):Nc (n:Int)=some (FD n):=by
 have hz:tF n<64:=Nat.mod_lt _ (by decide);have hL:=CB;have NW:eA (n:Int) 0 1048576=true:=bD.2 ⟨by omega,by omega⟩;simp only[Nc,aA,NW,Bool.not_true,cond_false];rw[zkX n hn (λy1=>cond (decide (y1.length+[UInt8.ofNat (0:Int).toNat,UInt8.ofNat (0:Int).toNat].length≤bA)) (Option.bind (VB (y1++[UInt8.ofNat (0:Int).toNat,UInt8.ofNat (0:Int).toNat]) (XB .i64 8 (n:Int)) 6) λr7=>some r7) none)];rw[IH (by rw[SU];simp;omega),cond_true,VB,UA (by rw[EA,List.length_append,SU];simp;omega),zxy,zmT hn,zvE n hn,FD,List.append_assoc];rfl
def GS.ok{x}(_:xA [.v .int] x){r}:dN x=some r→Nc x=some r:=TA λh=>by
 obtain⟨n,hn⟩:=cG h.1;have hn:x=(n:Int):=hn;have h2:(x:Int)≤1048576:=h.2;subst hn;exact zrl n (by omega)
def zgM(n:Nat):(FD n).length=tF n+9:=by
 rw[FD,List.length_append,SU,List.length_append,IN];rfl
def ztQ(n:Nat):(n+(FD n).length) % 64=0:=by
 rw[zgM];unfold tF;omega
def zbj.ok{x}(_:xA [] x):Sd=some CO:=rfl
def zs2(h:Be):Mt h=some (NG h):=by
 simp only[Mt,aA,ZC,Bool.cond_false_right,NG,Bool.and_assoc]
def CR.ok{x}(_:xA [.v .Hash] x):Mt x=some (NG x):=zs2 x
def zj3{h:Be}(hk:NG h=true):GC h.H 8=true∧0≤h.N∧h.N≤1048576∧h.Held.length<64∧∃n:Nat,h.N=(n:Int)∧n % 64=h.Held.length:=by
 simp only[NG,Bool.and_eq_true,bD,beq_iff_eq]at hk;obtain⟨⟨h1,h2⟩,h3⟩:=hk;obtain⟨n,hn⟩:=cG h2.1;rw[hn,show zA .i64 (n:Int) 64=((n % 64:Nat):Int)from PS n 64]at h3;exact⟨h1,h2.1,h2.2,by omega,n,hn,by omega⟩
def zs9{h:List Int}(hw:GC h 8=true):decide (([]:List Int).length+h.length≤bA)=true:=by
 have:=(OK hw).1;rw[this];decide
def zcV(a b:List UInt8):([a,b]:List (List UInt8)).flatten=a++b:=by simp
def zdW(a b:List UInt8):wt ([a,b]:List (List UInt8))=a.length+b.length+2:=by
 rw[jD,jD,LF,EA,EA];omega
def zo9(h:Be)(b:List UInt8)(hk:NG h=true)(hb:(b.length:Int)≤1048576 - h.N):
  Nb h b=some ⟨LC h.H ((h.Held++b).length / 64) (h.Held++b),(h.Held++b).drop (64 *((h.Held++b).length / 64)),h.N+b.length⟩:=by
 obtain⟨hw,n0,n1,hl,_⟩:=zj3 hk;have hL:=CB;have n9:wt (h.Held++b)≤bA:=by rw[EA,List.length_append];omega
 have e1:qA .i64 1048576 h.N=1048576 - h.N:=by rw[qA,UB (by omega) (by omega)]
 have e2:iA .i64 h.N (b.length:Int)=h.N+b.length:=by rw[iA,UB (by omega) (by omega)]
 simp only[Nb,aA,hk,Bool.not_true,cond_false,e1,decide_eq_false (p:=(b.length:Int)>1048576 - h.N) (by omega),lD,UA (p:=wt ([h.Held,b]:List (List UInt8))≤bA) (by rw[zdW];omega),zcV,xT,
  UA (p:=wt h.H≤bA∧GC h.H 8=true∧wt (h.Held++b)≤bA) ⟨zd5 hw,hw,n9⟩,zs9 (dM ((h.Held++b).length / 64) h.H (h.Held++b) hw),cond_true,BA,UA (p:=wt ((h.Held++b).drop (64 *((h.Held++b).length / 64)))≤bA) (Nat.le_trans (rF _ _) n9),List.nil_append,e2]
def XQ.ok{x}(_:xA [.v .Hash, .sl .byte] x){r}:zdc x.1 x.2=some r→Nb x.1 x.2=some r:=TA λh=>zo9 x.1 x.2 h.1 h.2
def zpr(h:Be)(hk:NG h=true):Nf h=some (oF (LC h.H ((h.Held++FD h.N.toNat).length / 64) (h.Held++FD h.N.toNat))):=by
 obtain⟨hw,n0,n1,hl,n,hn,_⟩:=zj3 hk;have hL:=CB;have hp:=zgM h.N.toNat;have hz:tF h.N.toNat<64:=Nat.mod_lt _ (by decide);have n9:wt (h.Held++FD h.N.toNat)≤bA:=by rw[EA,List.length_append];omega
 have hbw:=dM ((h.Held++FD h.N.toNat).length / 64) h.H (h.Held++FD h.N.toNat) hw
 simp only[Nf,hk,Bool.not_true,cond_false,dN,UA (p:=0≤h.N∧h.N≤1048576) ⟨n0,n1⟩,lD,UA (p:=wt ([h.Held,FD h.N.toNat]:List (List UInt8))≤bA) (by rw[zdW];omega),zcV,xT,
  UA (p:=wt h.H≤bA∧GC h.H 8=true∧wt (h.Held++FD h.N.toNat)≤bA) ⟨zd5 hw,hw,n9⟩,UK,UA (OK hbw).1]
def tQ.ok{x}(_:xA [.v .Hash] x){r}:zcX x=some r→Nf x=some r:=TA λh=>zpr x h
def zbu:GC EE 8=true:=by decide
def zxc:NG CO=true:=by decide
def zuW(b:List UInt8)(hb:b.length≤1048576):
  LC (LC EE (b.length / 64) b) ((b.drop (64 *(b.length / 64))++FD b.length).length / 64) (b.drop (64 *(b.length / 64))++FD b.length)=LC EE ((b++FD b.length).length / 64) (b++FD b.length):=by
 have hd:=zk9 b.length;have h1:(b.drop (64 *(b.length / 64))++FD b.length).length=b.length - 64 *(b.length / 64)+(FD b.length).length:=by rw[List.length_append,List.length_drop]
 have h2:(b++FD b.length).length / 64=b.length / 64+(b.drop (64 *(b.length / 64))++FD b.length).length / 64:=by rw[h1,List.length_append];omega
 rw[h2,zjZ,zkp _ _ _ _ hd,List.drop_append_of_le_length hd]
def zrR(b:List UInt8):Ng b=some (JE b):=by
 simp only[Ng,JE]
 by_cases h:(b.length:Int)>1048576
 ·rw[decide_eq_true h];rfl
 rw[decide_eq_false h];simp only[cond_false,zdc];rw[UA ⟨zxc,by show(b.length:Int)≤1048576 - 0;omega⟩];have e0:CO.Held++b=b:=rfl;have en:CO.N+(b.length:Int)=(b.length:Int):=Int.zero_add _;have eh:CO.H=EE:=rfl;rw[e0,en,eh];have hdl:=zk9 b.length
 have DX:NG ⟨LC EE (b.length / 64) b,b.drop (64 *(b.length / 64)),(b.length:Int)⟩=true:=by
  simp only[NG,Bool.and_eq_true,bD,beq_iff_eq];refine⟨⟨dM _ _ _ zbu,by omega,by omega⟩,?_⟩;rw[show zA .i64 (b.length:Int) 64=((b.length % 64:Nat):Int)from PS _ 64,List.length_drop];omega
 rw[zcX,UA DX,Int.toNat_natCast,zuW b (by omega)];rfl
def RS.ok{x}(_:xA [.sl .byte] x):Ng x=some (JE x):=zrR x
def zu9(all:List UInt8)(hwa:wt all≤bA)(hm:64 *(all.length / 64)=all.length):sA FU (λ(x5:(List Int)×Int) k6=>cond (decide (x5.2<(all.length:Int)))
  (cond (decide (0≤x5.2)&&decide (x5.2≤(iA .i64 x5.2 64))&&decide ((iA .i64 x5.2 64)≤(all.length:Int))) (Option.bind (aL x5.1 (List.take ((iA .i64 x5.2 64 - x5.2).toNat) (List.drop x5.2.toNat all))) λr7=>k6 (r7,(iA .i64 x5.2 64))) none)
  (Option.bind (UK x5.1) λr8=>some r8)) (EE,0)=some (oF (LC EE (all.length / 64) all)):=by
 have hL:=CB;have hla:all.length≤bA:=by rw[←EA];exact hwa
 refine LH (g:=λ_=>some (oF (LC EE (all.length / 64) all))) (λx=>∃i:Nat,64 *i≤all.length∧x=(LC EE i all,((64 *i:Nat):Int))) (λx=>all.length - x.2.toNat) (λx hx k hk=>?_) (x:=(EE,0)) ⟨0,Nat.zero_le _,rfl⟩ (by show all.length - Int.toNat 0<2^64;simp;omega);obtain⟨i,hi,rfl⟩:=hx
 by_cases OV:64 *i<all.length
 ·have zY:64 *(i+1)≤all.length:=by omega
  have e1:iA .i64 ((64 *i:Nat):Int) 64=((64 *(i+1):Nat):Int):=by rw[iA,UB (by omega) (by omega)];omega
  have e2:(decide ((0:Int)≤((64 *i:Nat):Int))&&decide (((64 *i:Nat):Int)≤((64 *(i+1):Nat):Int))&&decide (((64 *(i+1):Nat):Int)≤(all.length:Int)))=true:=by simp;omega
  have e3:(((64 *(i+1):Nat):Int) - ((64 *i:Nat):Int)).toNat=64:=by omega
  have T1:=hk (LC EE (i+1) all,((64 *(i+1):Nat):Int)) ⟨i+1,zY,rfl⟩ (by simp only[Int.toNat_natCast];omega);rw[zfx]at T1;simp only[yD OV,cond_true,e1,e2,e3,Int.toNat_natCast,aL,UA (p:=wt (LC EE i all)≤bA∧wt ((all.drop (64 *i)).take 64)≤bA) ⟨zd5 (dM i EE all zbu),Nat.le_trans (WD _ _) (Nat.le_trans (rF _ _) hwa)⟩];exact T1
 ·have hi2:i=all.length / 64:=by omega
  have e1:decide (((64 *i:Nat):Int)<(all.length:Int))=false:=decide_eq_false (by omega);simp only[e1,cond_false,UK,UA (OK (dM i EE all zbu)).1, ←hi2]
def zrn(b:List UInt8):Ns b=some (JE b):=by
 have hL:=CB;simp only[Ns,aA,JE,List.nil_append]
 by_cases h:(b.length:Int)>1048576
 ·rw[decide_eq_true h];rfl
 rw[decide_eq_false h];have hp:=zgM b.length;have hz:tF b.length<64:=Nat.mod_lt _ (by decide);have hwh:=ztQ b.length;have hal:(b++FD b.length).length=b.length+(FD b.length).length:=List.length_append;simp only[cond_false];rw[xO (show b.length≤bA by omega),cond_true,dN,UA ⟨by omega,by omega⟩,Int.toNat_natCast,IH (by omega),cond_true,zdV];exact zu9 (b++FD b.length) (by rw[EA];omega) (by omega)
def QS.ok{x}(_:xA [.sl .byte] x):Ns x=some (JE x):=zrn x
def zjW(b:List UInt8):(zdV b).length=32:=by
 rw[zdV,za0,(OK (dM _ EE _ zbu)).1]
def zal(b:List UInt8):(JE b).length≤32:=by
 unfold JE;cases decide ((b.length:Int)>1048576)
 ·exact Nat.le_of_eq (zjW b)
 ·exact Nat.zero_le _
def zwi{b:List UInt8}(h:b.length≤1048576):(JE b).length=32:=by
 rw[JE,decide_eq_false (by omega)];exact zjW b
end Go.D
namespace Go.D
def zb3(l:List UInt8):sA FU (λ(x6:(List UInt8)) k7=>cond (decide ((x6.length:Int)<64)) (cond (decide (x6.length+[UInt8.ofNat (0:Int).toNat].length≤bA)) (k7 (x6++[UInt8.ofNat (0:Int).toNat])) none) (some x6)) l=some (zax l):=by
 have hL:=CB;refine LH (g:=λ_=>some (zax l)) (λx=>∃j:Nat,j≤64 - l.length∧x=l++List.replicate j 0) (λx=>64 - x.length) (λx hx k hk=>?_) ⟨0,Nat.zero_le _,by simp⟩ (by show 64 - l.length<2^64;omega);obtain⟨j,hj,rfl⟩:=hx;have MV:(l++List.replicate j (0:UInt8)).length=l.length+j:=by simp
 by_cases OV:l.length+j<64
 ·rw[decide_eq_true (p:=((l++List.replicate j (0:UInt8)).length:Int)<64) (by omega),cond_true,IH (by rw[MV];simp;omega),cond_true];refine hk _ ⟨j+1,by omega,?_⟩ (by simp;omega);rw[zkw,List.append_assoc, ←List.replicate_succ']
 ·rw[decide_eq_false (p:=((l++List.replicate j (0:UInt8)).length:Int)<64) (by omega),cond_false,zax];have:j=64 - l.length:=by omega
  rw[this]
def zoO(b:List UInt8):Nt b=some (iE b):=by
 have hL:=CB;simp only[Nt,aA,iE,List.nil_append]
 by_cases h:(b.length:Int)>1048576
 ·rw[decide_eq_true h];rfl
 rw[decide_eq_false h,xO (show b.length≤bA by omega)];simp only[cond_false,cond_true];cases decide ((b.length:Int)>64)
 ·exact zb3 b
 ·exact zb3 (JE b)
def YP.ok{x}(_:xA [.sl .byte] x):Nt x=some (iE x):=zoO x
def zoM(b:List UInt8):Nh b=some (iE b):=by
 have hL:=CB;simp only[Nh,aA,iE,BA]
 by_cases h:(b.length:Int)>1048576
 ·rw[decide_eq_true h];rfl
 rw[decide_eq_false h,UA (p:=wt b≤bA) (by rw[EA];omega)];simp only[cond_false];cases decide ((b.length:Int)>64)
 ·exact zb3 b
 ·exact zb3 (JE b)
def SP.ok{x}(_:xA [.sl .byte] x):Nh x=some (iE x):=zoM x
def zfi{b:List UInt8}(h:b.length≤1048576):(iE b).length=64:=by
 rw[iE,decide_eq_false (by omega),cond_false,zax,List.length_append,List.length_replicate];cases hd:decide ((b.length:Int)>64)
 ·have:=of_decide_eq_false hd;simp only[cond_false];omega
 ·have:=zal b;simp only[cond_true];omega
def zpy(b:List UInt8)(x:UInt8)(h:wt b≤bA):Ni b x=some (SE b x):=by
 have hl:b.length≤bA:=by rw[←EA];exact h
 have hL:=CB;simp only[Ni,aA];refine oI (X:=List UInt8×Int) (λy=>y.2) (λi=>(SE (b.take i) x,(i:Int))) (λ_=>rfl) b.length (jE h) _ 0 (Nat.zero_le _) (λi k _ hi=>?_) (λk=>by simp only[YD,cond_false,List.take_length]);have e:SE (b.take (i+1)) x=SE (b.take i) x++[zhs b[i] x]:=by rw[SE,tM b hi,List.map_append];rfl
 have hml:(SE (b.take i) x).length=i:=by rw[SE,List.length_map,List.length_take];omega
 simp only[yD hi,cond_true,KB hi,mB,kI (i:=i) (by rw[xD];omega)];rw[IH (by rw[hml];simp;omega),cond_true,e];rfl
def iR.ok{x}(_:xA [.sl .byte, .v .byte] x){r}:zae x.1 x.2=some r→Ni x.1 x.2=some r:=TA λh=>zpy x.1 x.2 h
def RN(b:List UInt8)(x:UInt8):(SE b x).length=b.length:=List.length_map ..
def zqJ(k b:List UInt8):Nj k b=some (XC k b):=by
 have hL:=CB;simp only[Nj,aA,XC]
 by_cases h1:(k.length:Int)>1048576
 ·rw[decide_eq_true h1];rfl
 by_cases h2:(b.length:Int)>1048512
 ·rw[decide_eq_false h1,decide_eq_true h2];rfl
 have hk:=zfi (b:=k) (by omega);rw[decide_eq_false h1,decide_eq_false h2];simp only[cond_false,Bool.or_false,zae,UA (p:=wt (iE k)≤bA) (by rw[EA];omega),lD];rw[UA (by rw[zdW,RN];omega),zcV,UA (by rw[zdW,RN];have:=zal (SE (iE k) (UInt8.ofNat (54:Int).toNat)++b);omega),zcV];rfl
def xS.ok{x}(_:xA [.sl .byte, .sl .byte] x):Nj x.1 x.2=some (XC x.1 x.2):=zqJ x.1 x.2
def zxN{l:List UInt8}{i:Nat}(h:i<l.length):l[i]?=some l[i]:=List.getElem?_eq_getElem h
def zjB(b:List UInt8)(x:UInt8){i:Nat}(hi:i<b.length):SE (b.take (i+1)) x=SE (b.take i) x++[zhs b[i] x]:=by rw[SE,tM b hi,List.map_append];rfl
def zqQ(k b:List UInt8):Nu k b=some (XC k b):=by
 have hL:=CB;simp only[Nu,aA,XC]
 by_cases h1:(k.length:Int)>1048576
 ·rw[decide_eq_true h1];rfl
 by_cases h2:(b.length:Int)>1048512
 ·rw[decide_eq_false h1,decide_eq_true h2];rfl
 have hk:=zfi (b:=k) (by omega);rw[decide_eq_false h1,decide_eq_false h2];simp only[cond_false,Bool.or_false];refine oI (X:=List UInt8×List UInt8×Int) (λy=>y.2.2) (λi=>(SE ((iE k).take i) 54,SE ((iE k).take i) 92,(i:Int))) (λ_=>rfl) 64 (by decide) _ 0 (Nat.zero_le _) (λi kk _ hi=>?_) (λkk=>?_)
 ·have o9:i<(iE k).length:=by omega
  have m1:(SE ((iE k).take i) 54).length=i:=by rw[RN,List.length_take];omega
  have m2:(SE ((iE k).take i) 92).length=i:=by rw[RN,List.length_take];omega
  simp only[decide_eq_true (p:=(i:Int)<64) (by omega),cond_true,KF o9,Int.toNat_natCast,zxN o9,mB,kI (i:=i) (by rw[xD];omega)];rw[IH (by rw[m1];simp;omega),cond_true,IH (by rw[m2];simp;omega),cond_true,zjB _ _ o9,zjB _ _ o9];rfl
 ·have ht:(iE k).take 64=iE k:=List.take_of_length_le (by omega);simp only[show((64:Nat):Int)=64 from rfl,show decide ((64:Int)<64)=false from rfl,cond_false,ht];have hs:=zal (SE (iE k) 54++b);rw[IH (by rw[RN];omega),cond_true,IH (by rw[RN];omega),cond_true]
def zS.ok{x}(_:xA [.sl .byte, .sl .byte] x):Nu x.1 x.2=some (XC x.1 x.2):=zqQ x.1 x.2
def JH{k b:List UInt8}(h1:k.length≤1048576)(h2:b.length≤1048512):(XC k b).length=32:=by
 rw[XC,decide_eq_false (by omega),decide_eq_false (by omega)];simp only[Bool.or_false,cond_false];refine zwi ?_;have:=zal (SE (iE k) 54++b);rw[List.length_append,RN,zfi h1];omega
def vV(n:Int):(CD jN n 4).length=8:=by rw[zd6,List.length_append,IN];rfl
def zpI(s:List UInt8)(n:Int):Nk s n=some (zD s n):=by
 have hL:=CB;simp only[Nk,aA,zD];cases h1:eA (s.length:Int) 1 32
 ·rfl
 cases h2:eA n 0 10000
 ·rfl
 have h1:=bD.1 h1;have hh:=JH (k:=s) (b:=CD jN n 4) (by omega) (by rw[vV];omega);simp only[Bool.not_true,cond_false,Bool.and_true,cond_true,VB];rw[UA (by rw[EA];simp;omega)];have hr:[UInt8.ofNat (114:Int).toNat,UInt8.ofNat (111:Int).toNat,UInt8.ofNat (108:Int).toNat,UInt8.ofNat (108:Int).toNat]=jN:=rfl;rw[hr,show(decide ((0:Int)≤0)&&decide ((0:Int)≤12)&&decide (12≤((XC s (CD jN n 4)).length:Int)))=true by rw[hh];rfl,cond_true,List.drop_zero,BA,UA (by rw[EA,List.length_take];omega)]
def rR.ok{x}(_:xA [.sl .byte, .v .int] x):Nk x.1 x.2=some (zD x.1 x.2):=zpI x.1 x.2
def zpM(s:List UInt8)(n:Int):Nv s n=some (zD s n):=by
 have hL:=CB;simp only[Nv,aA,zD];cases h1:eA (s.length:Int) 1 32
 ·rfl
 cases h2:eA n 0 10000
 ·rfl
 have h1:=bD.1 h1;have hh:=JH (k:=s) (b:=CD jN n 4) (by omega) (by rw[vV];omega);simp only[Bool.not_true,cond_false,Bool.and_true,cond_true,VB];rw[UA (by rw[EA];simp;omega)];have hr:[UInt8.ofNat (114:Int).toNat,UInt8.ofNat (111:Int).toNat,UInt8.ofNat (108:Int).toNat,UInt8.ofNat (108:Int).toNat]=jN:=rfl;rw[hr,show(decide ((0:Int)≤0)&&decide ((0:Int)≤12)&&decide (12≤((XC s (CD jN n 4)).length:Int)))=true by rw[hh];rfl,cond_true,List.drop_zero,xO (by rw[List.length_take];omega),cond_true,List.nil_append]
def zR.ok{x}(_:xA [.sl .byte, .v .int] x):Nv x.1 x.2=some (zD x.1 x.2):=zpM x.1 x.2
end Go.D
