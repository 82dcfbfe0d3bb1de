/-
 Sizes of the program's data.
-/
import Derived.Test.YthmhafeaiaigoaaGreatN5
set_option linter.all false
namespace Go.D
end Go.D
namespace Go.D
noncomputable section
def HO(n:Int)(i:Nat):UInt8:=UInt8.ofNat (IntKind.wrap .u8 (OB .i64 (FE .i64 n (ZB .i64 8 (i:Int))) 255)).toNat
def sG(n:Int):Nat→List UInt8
 | 0=>[]
 | i+1=>HO n i :: sG n i
def DD(b:List UInt8)(n k:Int):List UInt8:=bif decide (k<1)||decide (k>6)then b else b++sG n k.toNat
def XB(b:List UInt8)(n k:Int):Option (List UInt8):=pt (wt b+6≤bA) (DD b n k)
def LG(l:List UInt8):Int:=l.foldl (λn x=>iA .i64 (ZB .i64 n 256) (IntKind.wrap .i64 ((x.toNat:Nat):Int))) 0
def pH(b:List UInt8)(at_ k:Int):Int×Int×Bool:=bif decide (k<1)||(decide (k>6)||(decide (at_<0)||decide (at_>(b.length:Int) - k)))then(0,0,false)else(LG ((b.drop at_.toNat).take k.toNat),iA .i64 at_ k,true)
def kH(b:List UInt8)(at_ k:Int):Option (Int×Int×Bool):=pt (wt b≤bA) (pH b at_ k)
def cut(b:List UInt8)(f n:Int):List UInt8×Bool:=bif decide (f<0)||(decide (n<0)||(decide (f>(b.length:Int))||decide (n>(b.length:Int) - f)))then([],false)else((b.drop f.toNat).take n.toNat,true)
def yJ(b:List UInt8)(f n:Int):Option (List UInt8×Bool):=pt (wt b≤bA) (cut b f n)
def BA(b:List UInt8):Option (List UInt8):=pt (wt b≤bA) b
def lD(l:List (List UInt8)):Option (List UInt8):=pt (wt l≤bA) l.flatten
def sE(a:Int):Int:=OB .i64 a 4294967295
def lG(x n:Int):Int:=sE (yK .i64 (FE .i64 (sE x) n) (wJ .i64 (sE x) (sA .i64 32 n)))
def pE(x n:Int):Option Int:=pt (1≤n∧n≤31) (lG x n)
def TF(a b:Int):Int:=sE (iA .i64 a b)
def EE:List Int:=[1779033703,3144134277,1013904242,2773480762,1359893119,2600822924,528734635,1541459225]
def AI:List Int:=[1116352408,1899447441,3049323471,3921009573,961987163,1508970993,2453635748,2870763221,3624381080,310598401,607225278,1426881987,1925078388,2162078206,2614888103,3248222580,3835390401,4022224774,264347078,604807628,770255983,1249150122,1555081692,1996064986,2554220882,2821834349,2952996808,3210313671,3336571891,3584528711,113926993,338241895,666307205,773529912,1294757372,1396182291,1695183700,1986661051,2177026350,2456956037,2730485921,2820302411,3259730800,3345764771,3516065817,3600352804,4094571909,275423344,430227734,506948616,659060556,883997877,958139571,1322822218,1537002063,1747873779,1955562222,2024104815,2227730452,2361852424,2428436474,2756734187,3204031479,3329325298]
def pM(i:Int):Int:=if 0≤i∧i≤63 then AI.getD i.toNat 0 else 0
def vM(b:List UInt8)(w:List Int)(i:Nat):Int:=if i<16 then(pH b (4 *i:Nat) 4).1 else
 let x:=w.getD (i - 15) 0;let y:=w.getD (i - 2) 0
 sE (iA .i64 (iA .i64 (iA .i64 (w.getD (i - 7) 0) (w.getD (i - 16) 0)) (AB .i64 (AB .i64 (lG x 7) (lG x 18)) (FE .i64 x 3))) (AB .i64 (AB .i64 (lG y 17) (lG y 19)) (FE .i64 y 10)))
def CD(b:List UInt8):Nat→List Int
 | 0=>[]
 | i+1=>CD b i++[vM b (CD b i) i]
def MC(b:List UInt8):List Int:=if b.length=64 then CD b 64 else[]
def tM(b:List UInt8):Option (List Int):=pt (wt b≤bA) (MC b)
abbrev S8:=Int×Int×Int×Int×Int×Int×Int×Int
def rT(k w:Int)(s:S8):Int:=
 iA .i64 (iA .i64 (iA .i64 (iA .i64 s.2.2.2.2.2.2.2 (AB .i64 (AB .i64 (lG s.2.2.2.2.1 6) (lG s.2.2.2.2.1 11)) (lG s.2.2.2.2.1 25)))
  (AB .i64 (OB .i64 s.2.2.2.2.1 s.2.2.2.2.2.1) (OB .i64 (AB .i64 s.2.2.2.2.1 4294967295) s.2.2.2.2.2.2.1))) k) w
def rU(s:S8):Int:=iA .i64 (AB .i64 (AB .i64 (lG s.1 2) (lG s.1 13)) (lG s.1 22)) (AB .i64 (AB .i64 (OB .i64 s.1 s.2.1) (OB .i64 s.1 s.2.2.1)) (OB .i64 s.2.1 s.2.2.1))
def zd2(l:List Int):Bool:=FC l 8
def zeh(k w:Int)(s:S8):S8:=(sE (iA .i64 (sE (rT k w s)) (sE (rU s))),s.1,s.2.1,s.2.2.1,sE (iA .i64 s.2.2.2.1 (sE (rT k w s))),s.2.2.2.2.1,s.2.2.2.2.2.1,s.2.2.2.2.2.2.1)
def rounds(w:List Int)(s:S8):Nat→S8
 | 0=>s
 | i+1=>zeh (AI.getD i 0) (w.getD i 0) (rounds w s i)
def qE(h:List Int):S8:=(h.getD 0 0,h.getD 1 0,h.getD 2 0,h.getD 3 0,h.getD 4 0,h.getD 5 0,h.getD 6 0,h.getD 7 0)
def OH(s:S8):List Int:=[s.1,s.2.1,s.2.2.1,s.2.2.2.1,s.2.2.2.2.1,s.2.2.2.2.2.1,s.2.2.2.2.2.2.1,s.2.2.2.2.2.2.2]
def xF(h:List Int)(b:List UInt8):List Int:=List.zipWith TF h (OH (rounds (MC b) (qE h) 64))
def cL(h:List Int)(b:List UInt8):List Int:=bif FC h 8&&b.length==64 then xF h b else h
def XK(h:List Int)(b:List UInt8):Option (List Int):=pt (wt h≤bA∧wt b≤bA) (cL h b)
def OC(h:List Int):Nat→List UInt8→List Int
 | 0,_=>h
 | n+1,b=>OC (cL h (b.take 64)) n (b.drop 64)
def yT(h:List Int)(b:List UInt8):Option (List Int×List UInt8):=pt (wt h≤bA∧FC h 8=true∧wt b≤bA) (OC h (b.length / 64) b,b.drop (64 *(b.length / 64)))
def rF(h:List Int):List UInt8:=h.flatMap λx=>sG x 4
def RK(h:List Int):Option (List UInt8):=pt (h.length=8) (rF h)
def yF(n:Nat):Nat:=(119 - n % 64) % 64
def GD(n:Nat):List UInt8:=(128 :: List.replicate (yF n) 0)++([0,0,0,0]++sG ((8 *n:Nat):Int) 4)
def eN(n:Int):Option (List UInt8):=pt (0≤n∧n≤1048576) (GD n.toNat)
def zdV(b:List UInt8):List UInt8:=rF (OC EE ((b++GD b.length).length / 64) (b++GD b.length))
def JE(b:List UInt8):List UInt8:=bif decide ((b.length:Int)>1048576)then[]else zdV b
def MG(h:Be):Bool:=FC h.H 8&&eA h.N 0 1048576&&zA .i64 h.N 64==(h.Held.length:Int)
def zcW(h:Be)(b:List UInt8):Option Be:=pt (MG h=true∧(b.length:Int)≤1048576 - h.N) ⟨OC h.H ((h.Held++b).length / 64) (h.Held++b),(h.Held++b).drop (64 *((h.Held++b).length / 64)),h.N+b.length⟩
def zc4(h:Be):Option (List UInt8):=pt (MG h=true) (rF (OC h.H ((h.Held++GD h.N.toNat).length / 64) (h.Held++GD h.N.toNat)))
def BO:Be:=⟨EE,[],0⟩
def zat(l:List UInt8):List UInt8:=l++List.replicate (64 - l.length) 0
def kE(k:List UInt8):List UInt8:=bif decide ((k.length:Int)>1048576)then[]else zat (bif decide ((k.length:Int)>64)then JE k else k)
def zhV(x y:UInt8):UInt8:=UInt8.ofNat (AB .u8 ((x.toNat:Nat):Int) ((y.toNat:Nat):Int)).toNat
def SE(b:List UInt8)(x:UInt8):List UInt8:=b.map λy=>zhV y x
def FV(b:List UInt8)(x:UInt8):Option (List UInt8):=pt (wt b≤bA) (SE b x)
def ZC(k b:List UInt8):List UInt8:=bif decide ((k.length:Int)>1048576)||decide ((b.length:Int)>1048512)then[]else JE (SE (kE k) 92++JE (SE (kE k) 54++b))
def WM:List UInt8:=[114,111,108,108]
def AD(s:List UInt8)(n:Int):List UInt8:=bif eA (s.length:Int) 1 32&&eA n 0 10000 then(ZC s (DD WM n 4)).take 12 else[]
end
end Go.D
namespace Go.D
open Option renaming bind→ob
noncomputable section
def Se(a0:List UInt8):=
 cond (decide (([]:List UInt8).length+a0.length≤bA)) (some ([]++a0)) none
def Ms(a0:List UInt8)(a1:Int)(a2:Int):=
 cond (decide (([]:List UInt8).length+a0.length≤bA)) (aA (λy1=>
 cond (y1)
 (some ([]++a0))
 (aA (λ(y3:(List UInt8))=>
 some y3) λk4=>
 uA FU (λ(x5:(List UInt8)×Int) k6=>
 cond (decide (x5.2≥0))
 (cond (decide ((ZB .i64 8 x5.2)<0)) none (let x7:Int:=OB .i64 (FE .i64 a1 (ZB .i64 8 x5.2)) 255
 cond (decide (x5.1.length+[UInt8.ofNat (IntKind.wrap .u8 x7:Int).toNat].length≤bA)) (k6 ((x5.1++[UInt8.ofNat (IntKind.wrap .u8 x7:Int).toNat]),(sA .i64 x5.2 1))) none))
 (k4 x5.1)) (([]++a0),(sA .i64 a2 1)))) λk2=>
 cond (decide (a2<1))
 (k2 true)
 (k2 (decide (a2>6)))) none
def Sf:=
 let x1:List Int:=[1779033703,3144134277,1013904242,2773480762,1359893119,2600822924,528734635,1541459225]
 some x1
def Sg:=
 let r1:(List Int):=EE
 some (⟨r1,[],0⟩:Be)
def Mt(a0:Be):=
 aA (λ(y1:Bool)=>
 some y1) λk2=>
 cond ((FC a0.H 8))
 (cond ((eA a0.N 0 1048576))
 (k2 ((zA .i64 a0.N 64)==(a0.Held.length:Int)))
 (k2 false))
 (k2 false)
def Mu(a0:List (List UInt8)):=
 aA (λ(y1:(List UInt8))=>
 some y1) λk2=>
 uA FU (λ(x3:(List UInt8)×Int) k4=>
 cond (decide (x3.2<(a0.length:Int)))
 (ob (lA a0 x3.2) λe5=>
 cond (decide (x3.1.length+e5.length≤bA)) (k4 ((x3.1++e5),(iA .i64 x3.2 1))) none)
 (k2 x3.1)) ([],0)
def Mv(a0:List UInt8)(a1:Int)(a2:Int):=
 aA (λy1=>
 cond (y1)
 (some ([],false))
 (cond (decide (0≤a1)&&decide (a1≤(iA .i64 a1 a2))&&decide ((iA .i64 a1 a2)≤(a0.length:Int))) (let l3:List UInt8:=List.take ((iA .i64 a1 a2 - a1).toNat) (List.drop a1.toNat a0)
 cond (decide (([]:List UInt8).length+l3.length≤bA)) (some ([]++l3,true)) none) none)) λk2=>
 cond (decide (a1<0))
 (k2 true)
 (cond (decide (a2<0))
 (k2 true)
 (cond (decide (a1>(a0.length:Int)))
 (k2 true)
 (k2 (decide (a2>(sA .i64 (a0.length:Int) a1))))))
def Mw(a0:List UInt8)(a1:Int)(a2:Int):=
 aA (λy1=>
 cond (y1)
 (some (0,0,false))
 (ob (yJ a0 a1 a2) λr3=>
 cond (!r3.2)
 (some (0,0,false))
 (aA (λ(y4:Int)=>
 some (y4,iA .i64 a1 a2,true)) λk5=>
 uA FU (λ(x6:Int×Int) k7=>
 cond (decide (x6.2<(r3.1.length:Int)))
 (cond (decide (0≤x6.2)&&decide (x6.2<(r3.1.length:Int))) (ob (r3.1[x6.2.toNat]?) λe8=>
 let x9:Int:=IntKind.wrap .i64 ((e8.toNat:Nat):Int)
 k7 ((iA .i64 (ZB .i64 256 x6.1) x9),(iA .i64 x6.2 1))) none)
 (k5 x6.1)) (0,0)))) λk2=>
 cond (decide (a2<1))
 (k2 true)
 (k2 (decide (a2>6)))
def Mx(a0:Int)(a1:Int):=
 aA (λy1=>
 cond (y1)
 (some (OB .i64 a0 4294967295))
 (cond (decide (a1<0)) none (cond (decide ((sA .i64 32 a1)<0)) none (let x3:Int:=wJ .i64 (OB .i64 a0 4294967295) (sA .i64 32 a1)
 let x4:Int:=yK .i64 (FE .i64 (OB .i64 a0 4294967295) a1) x3
 some (OB .i64 x4 4294967295))))) λk2=>
 cond (decide (a1<0))
 (k2 true)
 (k2 (decide (a1>31)))
def My(a0:List UInt8):=
 cond ((a0.length:Int) !=64)
 (some [])
 (aA (λ(y1:(List Int))=>
 aA (λ(y7:(List Int))=>
 some y7) λk8=>
 uA FU (λ(x9:Int×(List Int)) k10=>
 cond (decide (x9.1<64))
 (cond (decide (0≤sA .i64 x9.1 15)&&decide (sA .i64 x9.1 15<(x9.2.length:Int))) (ob (x9.2[(sA .i64 x9.1 15).toNat]?) λe11=>
 cond (decide (0≤sA .i64 x9.1 2)&&decide (sA .i64 x9.1 2<(x9.2.length:Int))) (ob (x9.2[(sA .i64 x9.1 2).toNat]?) λe12=>
 ob (pE e11 7) λr13=>
 ob (pE e11 18) λr14=>
 let x15:Int:=AB .i64 (AB .i64 r13 r14) (FE .i64 e11 3)
 ob (pE e12 17) λr16=>
 ob (pE e12 19) λr17=>
 let x18:Int:=AB .i64 (AB .i64 r16 r17) (FE .i64 e12 10)
 cond (decide (0≤sA .i64 x9.1 7)&&decide (sA .i64 x9.1 7<(x9.2.length:Int))) (ob (x9.2[(sA .i64 x9.1 7).toNat]?) λe19=>
 cond (decide (0≤sA .i64 x9.1 16)&&decide (sA .i64 x9.1 16<(x9.2.length:Int))) (ob (x9.2[(sA .i64 x9.1 16).toNat]?) λe20=>
 let x21:Int:=iA .i64 (iA .i64 (iA .i64 e19 e20) x15) x18
 cond (decide (0≤x9.1)&&decide (x9.1<(x9.2.length:Int))) (ob (x9.2[x9.1.toNat]?) λe22=>
 k10 ((iA .i64 x9.1 1),(List.set x9.2 x9.1.toNat (OB .i64 x21 4294967295)))) none) none) none) none) none)
 (k8 x9.2)) (16,y1)) λk2=>
 uA FU (λ(x3:Int×(List Int)) k4=>
 cond (decide (x3.1<16))
 (ob (kH a0 (ZB .i64 4 x3.1) 4) λr5=>
 cond (decide (0≤x3.1)&&decide (x3.1<(x3.2.length:Int))) (ob (x3.2[x3.1.toNat]?) λe6=>
 k4 ((iA .i64 x3.1 1),(List.set x3.2 x3.1.toNat r5.1))) none)
 (k2 x3.2)) (0,(List.replicate (64:Int).toNat (0:Int))))
def Kh(a0:Int):Option Int:=
 aA (λy1=>
 cond (y1)
 (some 0)
 (cond (a0==(0:Int)) (some 1116352408) (cond (a0==(1:Int)) (some 1899447441) (cond (a0==(2:Int)) (some 3049323471) (cond (a0==(3:Int)) (some 3921009573) (cond (a0==(4:Int)) (some 961987163) (cond (a0==(5:Int)) (some 1508970993) (cond (a0==(6:Int)) (some 2453635748) (cond (a0==(7:Int)) (some 2870763221) (cond (a0==(8:Int)) (some 3624381080) (cond (a0==(9:Int)) (some 310598401) (cond (a0==(10:Int)) (some 607225278) (cond (a0==(11:Int)) (some 1426881987) (cond (a0==(12:Int)) (some 1925078388) (cond (a0==(13:Int)) (some 2162078206) (cond (a0==(14:Int)) (some 2614888103) (cond (a0==(15:Int)) (some 3248222580) (cond (a0==(16:Int)) (some 3835390401) (cond (a0==(17:Int)) (some 4022224774) (cond (a0==(18:Int)) (some 264347078) (cond (a0==(19:Int)) (some 604807628) (cond (a0==(20:Int)) (some 770255983) (cond (a0==(21:Int)) (some 1249150122) (cond (a0==(22:Int)) (some 1555081692) (cond (a0==(23:Int)) (some 1996064986) (cond (a0==(24:Int)) (some 2554220882) (cond (a0==(25:Int)) (some 2821834349) (cond (a0==(26:Int)) (some 2952996808) (cond (a0==(27:Int)) (some 3210313671) (cond (a0==(28:Int)) (some 3336571891) (cond (a0==(29:Int)) (some 3584528711) (cond (a0==(30:Int)) (some 113926993) (cond (a0==(31:Int)) (some 338241895) (cond (a0==(32:Int)) (some 666307205) (cond (a0==(33:Int)) (some 773529912) (cond (a0==(34:Int)) (some 1294757372) (cond (a0==(35:Int)) (some 1396182291) (cond (a0==(36:Int)) (some 1695183700) (cond (a0==(37:Int)) (some 1986661051) (cond (a0==(38:Int)) (some 2177026350) (cond (a0==(39:Int)) (some 2456956037) (cond (a0==(40:Int)) (some 2730485921) (cond (a0==(41:Int)) (some 2820302411) (cond (a0==(42:Int)) (some 3259730800) (cond (a0==(43:Int)) (some 3345764771) (cond (a0==(44:Int)) (some 3516065817) (cond (a0==(45:Int)) (some 3600352804) (cond (a0==(46:Int)) (some 4094571909) (cond (a0==(47:Int)) (some 275423344) (cond (a0==(48:Int)) (some 430227734) (cond (a0==(49:Int)) (some 506948616) (cond (a0==(50:Int)) (some 659060556) (cond (a0==(51:Int)) (some 883997877) (cond (a0==(52:Int)) (some 958139571) (cond (a0==(53:Int)) (some 1322822218) (cond (a0==(54:Int)) (some 1537002063) (cond (a0==(55:Int)) (some 1747873779) (cond (a0==(56:Int)) (some 1955562222) (cond (a0==(57:Int)) (some 2024104815) (cond (a0==(58:Int)) (some 2227730452) (cond (a0==(59:Int)) (some 2361852424) (cond (a0==(60:Int)) (some 2428436474) (cond (a0==(61:Int)) (some 2756734187) (cond (a0==(62:Int)) (some 3204031479) (cond (a0==(63:Int)) (some 3329325298) (none)))))))))))))))))))))))))))))))))))))))))))))))))))))))))))))))))) λk2=>
 cond (decide (a0<0))
 (k2 true)
 (k2 (decide (a0>63)))
def Sh(a0:Int)(a1:Int):=
 some (OB .i64 (iA .i64 a0 a1) 4294967295)
def Mz(a0:List Int)(a1:List UInt8):=
 cond (decide (([]:List Int).length+a0.length≤bA)) (aA (λy1=>
 cond (y1)
 (some ([]++a0))
 (ob (tM a1) λr3=>
 ob (lA a0 0) λe4=>
 ob (lA a0 1) λe5=>
 ob (lA a0 2) λe6=>
 ob (lA a0 3) λe7=>
 ob (lA a0 4) λe8=>
 ob (lA a0 5) λe9=>
 ob (lA a0 6) λe10=>
 ob (lA a0 7) λe11=>
 aA (λ(y12:Int×Int×Int×Int×Int×Int×Int×Int)=>
 let x31:List Int:=[y12.1,y12.2.1,y12.2.2.1,y12.2.2.2.1,y12.2.2.2.2.1,y12.2.2.2.2.2.1,y12.2.2.2.2.2.2.1,y12.2.2.2.2.2.2.2]
 aA (λ(y32:(List Int))=>
 some y32) λk33=>
 uA FU (λ(x34:Int×(List Int)) k35=>
 cond (decide (x34.1<(x31.length:Int)))
 (cond (decide (0≤x34.1)&&decide (x34.1<(x31.length:Int))) (ob (x31[x34.1.toNat]?) λe36=>
 ob (lA a0 x34.1) λe37=>
 cond (decide (0≤x34.1)&&decide (x34.1<(x34.2.length:Int))) (ob (x34.2[x34.1.toNat]?) λe38=>
 k35 ((iA .i64 x34.1 1),(List.set x34.2 x34.1.toNat (TF e37 e36)))) none) none)
 (k33 x34.2)) (0,([]++a0))) λk13=>
 uA FU (λ(x14:Int×Int×Int×Int×Int×Int×Int×Int×Int) k15=>
 cond (decide (x14.2.2.2.2.2.2.2.2<64))
 (let x16:Int:=OB .i64 (AB .i64 4294967295 x14.2.2.2.2.1) x14.2.2.2.2.2.2.1
 let x17:Int:=AB .i64 (OB .i64 x14.2.2.2.2.1 x14.2.2.2.2.2.1) x16;let x18:Int:=AB .i64 (OB .i64 x14.1 x14.2.1) (OB .i64 x14.1 x14.2.2.1);let x19:Int:=AB .i64 x18 (OB .i64 x14.2.1 x14.2.2.1)
 ob (pE x14.2.2.2.2.1 6) λr20=>
 ob (pE x14.2.2.2.2.1 11) λr21=>
 ob (pE x14.2.2.2.2.1 25) λr22=>
 let x23:Int:=iA .i64 x14.2.2.2.2.2.2.2.1 (AB .i64 (AB .i64 r20 r21) r22);let x24:Int:=iA .i64 (iA .i64 x23 x17) (pM x14.2.2.2.2.2.2.2.2)
 cond (decide (0≤x14.2.2.2.2.2.2.2.2)&&decide (x14.2.2.2.2.2.2.2.2<(r3.length:Int))) (ob (r3[x14.2.2.2.2.2.2.2.2.toNat]?) λe25=>
 ob (pE x14.1 2) λr26=>
 ob (pE x14.1 13) λr27=>
 ob (pE x14.1 22) λr28=>
 let x29:Int:=iA .i64 (AB .i64 (AB .i64 r26 r27) r28) x19;let r30:Int:=TF x14.2.2.2.1 (iA .i64 x24 e25)
 k15 ((TF (iA .i64 x24 e25) x29),x14.1,x14.2.1,x14.2.2.1,r30,x14.2.2.2.2.1,x14.2.2.2.2.2.1,x14.2.2.2.2.2.2.1,(iA .i64 x14.2.2.2.2.2.2.2.2 1))) none)
 (k13 (x14.1,x14.2.1,x14.2.2.1,x14.2.2.2.1,x14.2.2.2.2.1,x14.2.2.2.2.2.1,x14.2.2.2.2.2.2.1,x14.2.2.2.2.2.2.2.1))) (e4,e5,e6,e7,e8,e9,e10,e11,0))) λk2=>
 cond (!(FC a0 8))
 (k2 true)
 (k2 ((a1.length:Int) !=64))) none
def Na(a0:List Int)(a1:List UInt8):=
 aA (λ(y1:(List Int)×(List UInt8))=>
 some (y1.1,y1.2)) λk2=>
 uA FU (λ(x3:(List Int)×(List UInt8)) k4=>
 cond (decide ((x3.2.length:Int)≥64))
 (cond (decide (0≤(0:Int))&&decide ((0:Int)≤64)&&decide (64≤(x3.2.length:Int))) (let l5:List UInt8:=List.take 64 (List.drop 0 x3.2)
 ob (XK x3.1 l5) λr6=>
 cond (decide (0≤(64:Int))&&decide ((64:Int)≤(x3.2.length:Int))&&decide ((x3.2.length:Int)≤(x3.2.length:Int))) (let l7:List UInt8:=List.take (((x3.2.length:Int) - 64).toNat) (List.drop 64 x3.2)
 k4 (r6,l7)) none) none)
 (k2 (x3.1,x3.2))) (a0,a1)
def Nb(a0:Be)(a1:List UInt8):=
 aA (λy1=>
 cond (y1)
 (cond (decide (([]:List Int).length+a0.H.length≤bA)) (ob (BA a0.Held) λr3=>
 some (⟨[]++a0.H,r3,a0.N⟩:Be)) none)
 (ob (lD [a0.Held,a1]) λr4=>
 ob (yT a0.H r4) λr5=>
 cond (decide (([]:List Int).length+r5.1.length≤bA)) (ob (BA r5.2) λr6=>
 some (⟨[]++r5.1,r6,iA .i64 a0.N (a1.length:Int)⟩:Be)) none)) λk2=>
 cond (!(MG a0))
 (k2 true)
 (k2 (decide ((a1.length:Int)>(sA .i64 1048576 a0.N))))
def Nc(a0:Int):=
 cond (!(eA a0 0 1048576))
 (some [])
 (aA (λ(y1:(List UInt8))=>
 cond (decide (y1.length+[UInt8.ofNat (0:Int).toNat,UInt8.ofNat (0:Int).toNat].length≤bA)) (let x6:List UInt8:=y1++[UInt8.ofNat (0:Int).toNat,UInt8.ofNat (0:Int).toNat]
 ob (XB x6 (ZB .i64 8 a0) 6) λr7=>
 some r7) none) λk2=>
 uA FU (λ(x3:(List UInt8)) k4=>
 let x5:Int:=iA .i64 (iA .i64 a0 (x3.length:Int)) 8
 cond ((zA .i64 x5 64) !=0)
 (cond (decide (x3.length+[UInt8.ofNat (0:Int).toNat].length≤bA)) (k4 (x3++[UInt8.ofNat (0:Int).toNat])) none)
 (k2 x3)) [UInt8.ofNat (128:Int).toNat])
def Nd(a0:List Int):=
 aA (λ(y1:(List UInt8))=>
 some y1) λk2=>
 uA FU (λ(x3:(List UInt8)×Int) k4=>
 cond (decide (x3.2<(a0.length:Int)))
 (ob (lA a0 x3.2) λe5=>
 ob (XB x3.1 e5 4) λr6=>
 k4 (r6,(iA .i64 x3.2 1)))
 (k2 x3.1)) ([],0)
def Nf(a0:Be):=
 cond (!(MG a0))
 (some [])
 (ob (eN a0.N) λr1=>
 ob (lD [a0.Held,r1]) λr2=>
 ob (yT a0.H r2) λr3=>
 ob (RK r3.1) λr4=>
 some r4)
def Ng(a0:List UInt8):=
 cond (decide ((a0.length:Int)>1048576))
 (some [])
 (let r1:Be:=BO
 ob (zcW r1 a0) λr2=>
 ob (zc4 r2) λr3=>
 some r3)
def Nh(a0:List UInt8):=
 cond (decide ((a0.length:Int)>1048576))
 (some [])
 (ob (BA a0) λr1=>
 aA (λ(y2:(List UInt8))=>
 aA (λ(y5:(List UInt8))=>
 some y5) λk6=>
 uA FU (λ(x7:(List UInt8)) k8=>
 cond (decide ((x7.length:Int)<64))
 (cond (decide (x7.length+[UInt8.ofNat (0:Int).toNat].length≤bA)) (k8 (x7++[UInt8.ofNat (0:Int).toNat])) none)
 (k6 x7)) y2) λk3=>
 cond (decide ((a0.length:Int)>64))
 (let r4:(List UInt8):=JE a0
 k3 r4)
 (k3 r1))
def Ni(a0:List UInt8)(a1:UInt8):=
 aA (λ(y1:(List UInt8))=>
 some y1) λk2=>
 uA FU (λ(x3:(List UInt8)×Int) k4=>
 cond (decide (x3.2<(a0.length:Int)))
 (ob (lA a0 x3.2) λe5=>
 let x6:Int:=AB .u8 ((e5.toNat:Nat):Int) ((a1.toNat:Nat):Int)
 cond (decide (x3.1.length+[UInt8.ofNat (x6:Int).toNat].length≤bA)) (k4 ((x3.1++[UInt8.ofNat (x6:Int).toNat]),(iA .i64 x3.2 1))) none)
 (k2 x3.1)) ([],0)
def Nj(a0:List UInt8)(a1:List UInt8):=
 aA (λy1=>
 cond (y1)
 (some [])
 (let r3:(List UInt8):=kE a0
 ob (FV r3 (UInt8.ofNat (92:Int).toNat)) λr4=>
 ob (FV r3 (UInt8.ofNat (54:Int).toNat)) λr5=>
 ob (lD [r5,a1]) λr6=>
 let r7:(List UInt8):=JE r6
 ob (lD [r4,r7]) λr8=>
 let r9:(List UInt8):=JE r8
 some r9)) λk2=>
 cond (decide ((a0.length:Int)>1048576))
 (k2 true)
 (k2 (decide ((a1.length:Int)>1048512)))
def Nk(a0:List UInt8)(a1:Int):=
 aA (λy1=>
 cond (y1)
 (some [])
 (let x3:List UInt8:=[UInt8.ofNat (114:Int).toNat,UInt8.ofNat (111:Int).toNat,UInt8.ofNat (108:Int).toNat,UInt8.ofNat (108:Int).toNat]
 ob (XB x3 a1 4) λr4=>
 let r5:(List UInt8):=ZC a0 r4
 cond (decide (0≤(0:Int))&&decide ((0:Int)≤12)&&decide (12≤(r5.length:Int))) (ob (BA (List.take 12 (List.drop 0 r5))) λr6=>
 some r6) none)) λk2=>
 cond (!(eA (a0.length:Int) 1 32))
 (k2 true)
 (k2 (!(eA a1 0 10000)))
def Si(a0:List UInt8)(a1:Int)(a2:Int):=
 cond (decide (([]:List UInt8).length+a0.length≤bA)) (aA (λy1=>
 cond (y1)
 (some ([]++a0))
 (aA (λ(y3:(List UInt8))=>
 some y3) λk4=>
 uA FU (λ(x5:(List UInt8)×Int) k6=>
 cond (decide (x5.2≥0))
 (cond (decide ((ZB .i64 8 x5.2)<0)) none (let x7:Int:=OB .i64 (FE .i64 a1 (ZB .i64 8 x5.2)) 255
 cond (decide (x5.1.length+[UInt8.ofNat (IntKind.wrap .u8 x7:Int).toNat].length≤bA)) (k6 ((x5.1++[UInt8.ofNat (IntKind.wrap .u8 x7:Int).toNat]),(sA .i64 x5.2 1))) none))
 (k4 x5.1)) (([]++a0),(sA .i64 a2 1)))) λk2=>
 cond (decide (a2<1))
 (k2 true)
 (k2 (decide (a2>6)))) none
def Nl(a0:Int):=
 aA (λy1=>
 cond (y1)
 (some [])
 (aA (λ(y3:(List UInt8))=>
 ob (XB y3 0 4) λr8=>
 ob (XB r8 (ZB .i64 8 a0) 4) λr9=>
 some r9) λk4=>
 uA FU (λ(x5:(List UInt8)) k6=>
 let x7:Int:=iA .i64 (iA .i64 a0 (x5.length:Int)) 8
 cond ((zA .i64 x7 64) !=0)
 (cond (decide (x5.length+[UInt8.ofNat (0:Int).toNat].length≤bA)) (k6 (x5++[UInt8.ofNat (0:Int).toNat])) none)
 (k4 x5)) [UInt8.ofNat (128:Int).toNat])) λk2=>
 cond (decide (a0<0))
 (k2 true)
 (k2 (decide (a0>1048576)))
def Sj:=
 let x1:List Int:=[1779033703,3144134277,1013904242,2773480762,1359893119,2600822924,528734635,1541459225]
 some x1
def Nm(a0:List Int):=
 aA (λ(y1:Unit)=>
 some ((a0.length:Int)==8)) λk2=>
 uA FU (λ(x3:Int) k4=>
 cond (decide (x3<(a0.length:Int)))
 (ob (lA a0 x3) λe5=>
 cond (!(eA e5 0 4294967295))
 (some false)
 (k4 (iA .i64 x3 1)))
 (k2 ())) 0
def Sk:=
 let x1:List Int:=[1116352408,1899447441,3049323471,3921009573,961987163,1508970993,2453635748,2870763221,3624381080,310598401,607225278,1426881987,1925078388,2162078206,2614888103,3248222580,3835390401,4022224774,264347078,604807628,770255983,1249150122,1555081692,1996064986,2554220882,2821834349,2952996808,3210313671,3336571891,3584528711,113926993,338241895,666307205,773529912,1294757372,1396182291,1695183700,1986661051,2177026350,2456956037,2730485921,2820302411,3259730800,3345764771,3516065817,3600352804,4094571909,275423344,430227734,506948616,659060556,883997877,958139571,1322822218,1537002063,1747873779,1955562222,2024104815,2227730452,2361852424,2428436474,2756734187,3204031479,3329325298]
 some x1
def Nn(a0:List UInt8)(a1:Int)(a2:Int):=
 aA (λy1=>
 cond (y1)
 (some (0,0,false))
 (aA (λ(y3:Int)=>
 some (y3,iA .i64 a1 a2,true)) λk4=>
 uA FU (λ(x5:Int×Int) k6=>
 cond (decide (x5.2<a2))
 (ob (lA a0 (iA .i64 a1 x5.2)) λe7=>
 let x8:Int:=IntKind.wrap .i64 ((e7.toNat:Nat):Int)
 k6 ((iA .i64 (ZB .i64 x5.1 256) x8),(iA .i64 x5.2 1)))
 (k4 x5.1)) (0,0))) λk2=>
 cond (decide (a2<1))
 (k2 true)
 (cond (decide (a2>6))
 (k2 true)
 (cond (decide (a1<0))
 (k2 true)
 (k2 (decide (a1>(sA .i64 (a0.length:Int) a2))))))
def No(a0:Int)(a1:Int):=
 aA (λy1=>
 cond (y1)
 (some (OB .i64 a0 4294967295))
 (cond (decide (a1<0)) none (cond (decide ((sA .i64 32 a1)<0)) none (let x3:Int:=wJ .i64 (OB .i64 a0 4294967295) (sA .i64 32 a1)
 let x4:Int:=yK .i64 (FE .i64 (OB .i64 a0 4294967295) a1) x3
 some (OB .i64 x4 4294967295))))) λk2=>
 cond (decide (a1<1))
 (k2 true)
 (k2 (decide (a1>31)))
def Np(a0:List UInt8):=
 cond ((a0.length:Int) !=64)
 (some [])
 (aA (λ(y1:(List Int))=>
 aA (λ(y6:(List Int))=>
 some y6) λk7=>
 uA FU (λ(x8:(List Int)×Int) k9=>
 cond (decide (x8.2<64))
 (cond (decide (0≤sA .i64 x8.2 15)&&decide (sA .i64 x8.2 15<(x8.1.length:Int))) (ob (x8.1[(sA .i64 x8.2 15).toNat]?) λe10=>
 cond (decide (0≤sA .i64 x8.2 2)&&decide (sA .i64 x8.2 2<(x8.1.length:Int))) (ob (x8.1[(sA .i64 x8.2 2).toNat]?) λe11=>
 ob (pE e10 7) λr12=>
 ob (pE e10 18) λr13=>
 let x14:Int:=AB .i64 (AB .i64 r12 r13) (FE .i64 e10 3)
 ob (pE e11 17) λr15=>
 ob (pE e11 19) λr16=>
 let x17:Int:=AB .i64 (AB .i64 r15 r16) (FE .i64 e11 10)
 cond (decide (0≤sA .i64 x8.2 7)&&decide (sA .i64 x8.2 7<(x8.1.length:Int))) (ob (x8.1[(sA .i64 x8.2 7).toNat]?) λe18=>
 cond (decide (0≤sA .i64 x8.2 16)&&decide (sA .i64 x8.2 16<(x8.1.length:Int))) (ob (x8.1[(sA .i64 x8.2 16).toNat]?) λe19=>
 let x20:Int:=iA .i64 (iA .i64 (iA .i64 e18 e19) x14) x17
 cond (decide (x8.1.length+[OB .i64 x20 4294967295].length≤bA)) (k9 ((x8.1++[OB .i64 x20 4294967295]),(iA .i64 x8.2 1))) none) none) none) none) none)
 (k7 x8.1)) (y1,16)) λk2=>
 uA FU (λ(x3:(List Int)×Int) k4=>
 cond (decide (x3.2<16))
 (ob (kH a0 (ZB .i64 4 x3.2) 4) λr5=>
 cond (decide (x3.1.length+[r5.1].length≤bA)) (k4 ((x3.1++[r5.1]),(iA .i64 x3.2 1))) none)
 (k2 x3.1)) ([],0))
def Nq(a0:List Int)(a1:List UInt8):=
 cond (decide (([]:List Int).length+a0.length≤bA)) (aA (λy1=>
 cond (y1)
 (some ([]++a0))
 (let r3:(List Int):=AI
 ob (tM a1) λr4=>
 ob (lA a0 0) λe5=>
 ob (lA a0 1) λe6=>
 ob (lA a0 2) λe7=>
 ob (lA a0 3) λe8=>
 ob (lA a0 4) λe9=>
 ob (lA a0 5) λe10=>
 ob (lA a0 6) λe11=>
 ob (lA a0 7) λe12=>
 aA (λ(y13:Int×Int×Int×Int×Int×Int×Int×Int)=>
 let x34:List Int:=[y13.1,y13.2.1,y13.2.2.1,y13.2.2.2.1,y13.2.2.2.2.1,y13.2.2.2.2.2.1,y13.2.2.2.2.2.2.1,y13.2.2.2.2.2.2.2]
 aA (λ(y35:(List Int))=>
 some y35) λk36=>
 uA FU (λ(x37:Int×(List Int)) k38=>
 cond (decide (x37.1<8))
 (ob (lA a0 x37.1) λe39=>
 cond (decide (0≤x37.1)&&decide (x37.1<(x34.length:Int))) (ob (x34[x37.1.toNat]?) λe40=>
 cond (decide (0≤x37.1)&&decide (x37.1<(x37.2.length:Int))) (ob (x37.2[x37.1.toNat]?) λe41=>
 let l42:List Int:=List.set x37.2 x37.1.toNat (OB .i64 (iA .i64 e39 e40) 4294967295)
 k38 ((iA .i64 x37.1 1),l42)) none) none)
 (k36 x37.2)) (0,([]++a0))) λk14=>
 uA FU (λ(x15:Int×Int×Int×Int×Int×Int×Int×Int×Int) k16=>
 cond (decide (x15.2.2.2.2.2.2.2.2<64))
 (ob (pE x15.2.2.2.2.1 6) λr17=>
 ob (pE x15.2.2.2.2.1 11) λr18=>
 ob (pE x15.2.2.2.2.1 25) λr19=>
 let x20:Int:=iA .i64 x15.2.2.2.2.2.2.2.1 (AB .i64 (AB .i64 r17 r18) r19);let x21:Int:=OB .i64 (AB .i64 x15.2.2.2.2.1 4294967295) x15.2.2.2.2.2.2.1;let x22:Int:=AB .i64 (OB .i64 x15.2.2.2.2.1 x15.2.2.2.2.2.1) x21
 cond (decide (0≤x15.2.2.2.2.2.2.2.2)&&decide (x15.2.2.2.2.2.2.2.2<(r3.length:Int))) (ob (r3[x15.2.2.2.2.2.2.2.2.toNat]?) λe23=>
 cond (decide (0≤x15.2.2.2.2.2.2.2.2)&&decide (x15.2.2.2.2.2.2.2.2<(r4.length:Int))) (ob (r4[x15.2.2.2.2.2.2.2.2.toNat]?) λe24=>
 let x25:Int:=iA .i64 (iA .i64 (iA .i64 x20 x22) e23) e24
 ob (pE x15.1 2) λr26=>
 ob (pE x15.1 13) λr27=>
 ob (pE x15.1 22) λr28=>
 let x29:Int:=AB .i64 (OB .i64 x15.1 x15.2.1) (OB .i64 x15.1 x15.2.2.1);let x30:Int:=AB .i64 x29 (OB .i64 x15.2.1 x15.2.2.1);let x31:Int:=iA .i64 (AB .i64 (AB .i64 r26 r27) r28) x30;let x32:Int:=iA .i64 x15.2.2.2.1 (OB .i64 x25 4294967295);let x33:Int:=iA .i64 (OB .i64 x25 4294967295) (OB .i64 x31 4294967295)
 k16 ((OB .i64 x33 4294967295),x15.1,x15.2.1,x15.2.2.1,(OB .i64 x32 4294967295),x15.2.2.2.2.1,x15.2.2.2.2.2.1,x15.2.2.2.2.2.2.1,(iA .i64 x15.2.2.2.2.2.2.2.2 1))) none) none)
 (k14 (x15.1,x15.2.1,x15.2.2.1,x15.2.2.2.1,x15.2.2.2.2.1,x15.2.2.2.2.2.1,x15.2.2.2.2.2.2.1,x15.2.2.2.2.2.2.2.1))) (e5,e6,e7,e8,e9,e10,e11,e12,0))) λk2=>
 cond (!(zd2 a0))
 (k2 true)
 (k2 ((a1.length:Int) !=64))) none
def Nr(a0:List Int):=
 aA (λ(y1:(List UInt8))=>
 some y1) λk2=>
 uA FU (λ(x3:(List UInt8)×Int) k4=>
 cond (decide (x3.2<8))
 (ob (lA a0 x3.2) λe5=>
 ob (XB x3.1 e5 4) λr6=>
 k4 (r6,(iA .i64 x3.2 1)))
 (k2 x3.1)) ([],0)
def Ns(a0:List UInt8):=
 cond (decide ((a0.length:Int)>1048576))
 (some [])
 (cond (decide (([]:List UInt8).length+a0.length≤bA)) (ob (eN (a0.length:Int)) λr1=>
 cond (decide (([]++a0).length+r1.length≤bA)) (let r2:(List Int):=EE
 aA (λ(y3:(List Int))=>
 ob (RK y3) λr8=>
 some r8) λk4=>
 uA FU (λ(x5:(List Int)×Int) k6=>
 cond (decide (x5.2<((([]++a0)++r1).length:Int)))
 (cond (decide (0≤x5.2)&&decide (x5.2≤(iA .i64 x5.2 64))&&decide ((iA .i64 x5.2 64)≤((([]++a0)++r1).length:Int))) (ob (XK x5.1 (List.take ((iA .i64 x5.2 64 - x5.2).toNat) (List.drop x5.2.toNat (([]++a0)++r1)))) λr7=>
 k6 (r7,(iA .i64 x5.2 64))) none)
 (k4 x5.1)) (r2,0)) none) none)
def Nt(a0:List UInt8):=
 cond (decide ((a0.length:Int)>1048576))
 (some [])
 (cond (decide (([]:List UInt8).length+a0.length≤bA)) (aA (λ(y1:(List UInt8))=>
 aA (λ(y4:(List UInt8))=>
 some y4) λk5=>
 uA FU (λ(x6:(List UInt8)) k7=>
 cond (decide ((x6.length:Int)<64))
 (cond (decide (x6.length+[UInt8.ofNat (0:Int).toNat].length≤bA)) (k7 (x6++[UInt8.ofNat (0:Int).toNat])) none)
 (k5 x6)) y1) λk2=>
 cond (decide ((a0.length:Int)>64))
 (let r3:(List UInt8):=JE a0
 k2 r3)
 (k2 ([]++a0))) none)
def Nu(a0:List UInt8)(a1:List UInt8):=
 aA (λy1=>
 cond (y1)
 (some [])
 (let r3:(List UInt8):=kE a0
 aA (λ(y4:(List UInt8)×(List UInt8))=>
 cond (decide (y4.1.length+a1.length≤bA)) (let r12:(List UInt8):=JE (y4.1++a1)
 cond (decide (y4.2.length+r12.length≤bA)) (let r13:(List UInt8):=JE (y4.2++r12)
 some r13) none) none) λk5=>
 uA FU (λ(x6:(List UInt8)×(List UInt8)×Int) k7=>
 cond (decide (x6.2.2<64))
 (cond (decide (0≤x6.2.2)&&decide (x6.2.2<(r3.length:Int))) (ob (r3[x6.2.2.toNat]?) λe8=>
 let x9:List UInt8:=[UInt8.ofNat (AB .u8 ((e8.toNat:Nat):Int) 54:Int).toNat]
 cond (decide (x6.1.length+x9.length≤bA)) (cond (decide (0≤x6.2.2)&&decide (x6.2.2<(r3.length:Int))) (ob (r3[x6.2.2.toNat]?) λe10=>
 let x11:List UInt8:=[UInt8.ofNat (AB .u8 ((e10.toNat:Nat):Int) 92:Int).toNat]
 cond (decide (x6.2.1.length+x11.length≤bA)) (k7 ((x6.1++x9),(x6.2.1++x11),(iA .i64 x6.2.2 1))) none) none) none) none)
 (k5 (x6.1,x6.2.1))) ([],[],0))) λk2=>
 cond (decide ((a0.length:Int)>1048576))
 (k2 true)
 (k2 (decide ((a1.length:Int)>1048512)))
def Nv(a0:List UInt8)(a1:Int):=
 aA (λy1=>
 cond (y1)
 (some [])
 (let x3:List UInt8:=[UInt8.ofNat (114:Int).toNat,UInt8.ofNat (111:Int).toNat,UInt8.ofNat (108:Int).toNat,UInt8.ofNat (108:Int).toNat]
 ob (XB x3 a1 4) λr4=>
 let r5:(List UInt8):=ZC a0 r4
 cond (decide (0≤(0:Int))&&decide ((0:Int)≤12)&&decide (12≤(r5.length:Int))) (cond (decide (([]:List UInt8).length+(List.take 12 (List.drop 0 r5)).length≤bA)) (some ([]++(List.take 12 (List.drop 0 r5)))) none) none)) λk2=>
 cond (!(eA (a0.length:Int) 1 32))
 (k2 true)
 (k2 (!(eA a1 0 10000)))
end
end Go.D
namespace Go.D
end Go.D
namespace Go.D
def zgU{σ R:Type}(n:Nat)(hn:n≤maxLen)(S:Nat→σ)(z:Option R){f:σ×Int→(σ×Int→Option R)→Option R}
  (hf:∀(i:Nat) k,i<n→f (S i,(i:Int)) k=k (S (i+1),IntKind.wrap .i64 ((i:Int)+1))) (hz:∀k,f (S n,(n:Int)) k=z) (a:Nat) (ha:a≤n):uA FU f (S a,(a:Int))=z:=by
 refine LH (g:=λ_=>z) (λx=>∃i:Nat,i≤n∧x=(S i,(i:Int))) (λx=>n - x.2.toNat) (λx hx k hk=>?_) ⟨a,ha,rfl⟩ (by unfold maxLen at hn;simp only[Int.toNat_natCast];omega);obtain⟨i,hi,rfl⟩:=hx
 rcases Nat.lt_or_eq_of_le hi with NV | rfl
 ·rw[hf i k NV,FG i (by omega)];exact hk _ ⟨i+1,NV,rfl⟩ (by simp only[Int.toNat_natCast];omega)
 ·exact hz k
def aO(n:Nat)(h:n<2^64):(BitVec.ofInt 64 (n:Int)).toNat=n:=by
 rw[BitVec.toNat_ofInt];omega
def zd7(a:Int):0≤sE a∧sE a≤4294967295:=by
 have h:(BitVec.ofInt 64 a&&&BitVec.ofInt 64 4294967295).toNat≤4294967295:=by
  rw[BitVec.toNat_and];exact Nat.le_trans Nat.and_le_right (by decide)
 unfold sE OB;show 0≤IntKind.wrap .i64 ((BitVec.ofInt 64 a&&&BitVec.ofInt 64 4294967295).toNat:Int)∧IntKind.wrap .i64 ((BitVec.ofInt 64 a&&&BitVec.ofInt 64 4294967295).toNat:Int)≤4294967295
 rw[WB (by omega) (by omega)];omega
def zac{a:Int}(h0:0≤a)(h1:a≤9223372036854775807):sE a=a % 4294967296:=by
 obtain⟨n,rfl⟩:=eG h0;unfold sE OB;show IntKind.wrap .i64 ((BitVec.ofInt 64 (n:Int)&&&BitVec.ofInt 64 ((4294967295:Nat):Int)).toNat:Int)=_
 rw[BitVec.toNat_and,aO n (by omega),aO _ (by decide)];have:=Nat.and_two_pow_sub_one_eq_mod n 32;rw[show(4294967295:Nat)=2^32 - 1 from rfl,this,WB (by omega) (by omega)];omega
def FD(a:Int):Prop:=0≤a∧a≤4294967295
def zed(a:Int):FD (sE a):=zd7 a
def OM{a b:Int}(ha:FD a)(hb:FD b):FD (AB .i64 a b):=by
 obtain⟨n,rfl⟩:=eG ha.1;obtain⟨m,rfl⟩:=eG hb.1;have h1:=ha.2;have h2:=hb.2;have h:(n^^^m)<2^32:=Nat.xor_lt_two_pow (by omega) (by omega);unfold AB;show FD (IntKind.wrap .i64 ((BitVec.ofInt 64 (n:Int)^^^BitVec.ofInt 64 (m:Int)).toNat:Int))
 rw[BitVec.toNat_xor,aO n (by omega),aO m (by omega),WB (by omega) (by omega)];exact⟨by omega,by omega⟩
def zte(a b:Int):AB .i64 a b=AB .i64 b a:=by
 unfold AB;rw[BitVec.xor_comm]
def zap{a b:Int}(ha:FD a)(hb:FD b):FD (OB .i64 a b):=by
 obtain⟨n,rfl⟩:=eG ha.1;obtain⟨m,rfl⟩:=eG hb.1;have h1:=ha.2;have h2:=hb.2;have h:(n&&&m)≤m:=Nat.and_le_right;unfold OB;show FD (IntKind.wrap .i64 ((BitVec.ofInt 64 (n:Int)&&&BitVec.ofInt 64 (m:Int)).toNat:Int))
 rw[BitVec.toNat_and,aO n (by omega),aO m (by omega),WB (by omega) (by omega)];exact⟨by omega,by omega⟩
def kT(x n:Int):FD (lG x n):=zed _
def GH{a b:Nat}(h:a+b≤bA):decide (a+b≤bA)=true:=decide_eq_true h
def zcj.ok{x}(_:xA [.sl .byte] x){r}:BA x=some r→Se x=some r:=TA λh=>by
 have h2:(show List UInt8 from x).length≤bA:=by rw[←FA];exact h
 show cond (decide (([]:List UInt8).length+(show List UInt8 from x).length≤bA)) _ _=_
 rw[FO h2];rfl
def zk3(b:List UInt8)(n k:Int)(h:wt b+6≤bA):Ms b n k=some (DD b n k):=by
 rw[FA]at h;simp only[Ms,aA,DD,List.nil_append];rw[FO (by omega)];simp only[cond_true]
 by_cases h1:k<1
 ·rw[decide_eq_true h1];rfl
 by_cases h2:k>6
 ·rw[decide_eq_false h1,decide_eq_true h2];rfl
 rw[decide_eq_false h1,decide_eq_false h2];simp only[cond_false,Bool.or_false];have hk:sA .i64 k 1=k - 1:=by rw[sA,WB (by omega) (by omega)]
 rw[hk];rw[LH (g:=λx:List UInt8×Int=>some (x.1++sG n (x.2+1).toNat)) (λx=> -1≤x.2∧x.2≤5∧(x.1.length:Int)+x.2+1≤(bA:Int)) (λx=>(x.2+1).toNat) (λx hx kk RZ=>?_) (x:=(b,k - 1)) ⟨by show -1≤k - 1;omega,by show k - 1≤5;omega,by show(b.length:Int)+(k - 1)+1≤(bA:Int);omega⟩ (by show(k - 1+1).toNat<2^64;omega)]
 ·rw[show k - 1+1=k by omega]
 ·obtain⟨l,i⟩:=x;obtain⟨g1,g2,g3⟩:=hx;simp only at g1 g2 g3⊢
  by_cases hi:0≤i
  ·obtain⟨j,rfl⟩:=eG hi;have e1:ZB .i64 8 (j:Int)=8 *(j:Int):=WB (by omega) (by omega);have e2:sA .i64 (j:Int) 1=(j:Int) - 1:=by rw[sA,WB (by omega) (by omega)]
   have e3:decide (ZB .i64 8 (j:Int)<0)=false:=decide_eq_false (by rw[e1];omega);rw[decide_eq_true (p:=(j:Int)≥0) hi,cond_true,e3,cond_false,GH (by simp;omega),cond_true,e2];refine(RZ (l++[HO n j],(j:Int) - 1) ⟨by show -1≤(j:Int) - 1;omega,by show(j:Int) - 1≤5;omega,by show((l++[HO n j]).length:Int)+((j:Int) - 1)+1≤(bA:Int);simp;omega⟩ (by show((j:Int) - 1+1).toNat<((j:Int)+1).toNat;omega)).trans ?_;simp only;rw[show((j:Int) - 1+1).toNat=j by omega,show((j:Int)+1).toNat=j+1 by omega,sG,List.append_assoc];rfl
  ·have:i= -1:=by omega
   subst this;simp[sG]
def vS.ok{x}(_:xA [.sl .byte, .v .int, .v .int] x){r}:XB x.1 x.2.1 x.2.2=some r→Ms x.1 x.2.1 x.2.2=some r:=TA λh=>zk3 x.1 x.2.1 x.2.2 h
def zcK.ok{x}(_:xA [.sl .byte, .v .int, .v .int] x){r}:XB x.1 x.2.1 x.2.2=some r→Si x.1 x.2.1 x.2.2=some r:=TA λh=>zk3 x.1 x.2.1 x.2.2 h
def zk6:∀l:List (List UInt8),l.flatten.length≤wt l
 | []=>Nat.zero_le _
 | x :: l=>by
  have:=zk6 l;rw[vD,FA,List.flatten_cons,List.length_append];omega
def zpC(l:List (List UInt8))(h:wt l≤bA):Mu l=some l.flatten:=by
 simp only[Mu,aA];refine zgU l.length (lE h) (λi=>(l.take i).flatten) (some l.flatten) (λi k hi=>?_) (λk=>by simp only[WD,cond_false,List.take_length]) 0 (Nat.zero_le _);have e:(l.take (i+1)).flatten=(l.take i).flatten++l[i]:=by rw[sM l hi,List.flatten_append];simp
 have LV:=zk6 (l.take (i+1));have h2:=VD l (i+1);rw[e,List.length_append]at LV;simp only[zD hi,cond_true,JB hi,kB,GH (show(l.take i).flatten.length+l[i].length≤bA by omega),e]
def nR.ok{x}(_:xA [.sl .bs] x){r}:lD x=some r→Mu x=some r:=TA λh=>zpC x h
def zwq(b:List UInt8)(f n:Int)(h:wt b≤bA)(hf:zE .i64 f)(hn:zE .i64 n):Mv b f n=some (cut b f n):=by
 have hl:b.length≤bA:=by rw[←FA];exact h
 have hL:=GB;have hf:=IS hf;simp only[Mv,aA,cut,List.nil_append]
 by_cases h1:f<0
 ·rw[decide_eq_true h1];rfl
 by_cases h2:n<0
 ·rw[decide_eq_false h1,decide_eq_true h2];rfl
 by_cases h3:f>(b.length:Int)
 ·rw[decide_eq_false h1,decide_eq_false h2,decide_eq_true h3];rfl
 have e:sA .i64 (b.length:Int) f=(b.length:Int) - f:=by rw[sA,WB (by omega) (by omega)]
 rw[e]
 by_cases h4:n>(b.length:Int) - f
 ·rw[decide_eq_false h1,decide_eq_false h2,decide_eq_false h3,decide_eq_true h4];rfl
 have e2:iA .i64 f n=f+n:=by rw[iA,WB (by omega) (by omega)]
 have e3:(decide (0≤f)&&decide (f≤f+n)&&decide (f+n≤(b.length:Int)))=true:=by simp;omega
 rw[decide_eq_false h1,decide_eq_false h2,decide_eq_false h3,decide_eq_false h4];simp only[cond_false,e2];rw[e3,show f+n - f=n by omega];have:((b.drop f.toNat).take n.toNat).length≤bA:=by rw[List.length_take,List.length_drop];omega
 rw[FO this];rfl
def DS.ok{x}(hb:xA [.sl .byte, .v .int, .v .int] x){r}:yJ x.1 x.2.1 x.2.2=some r→Mv x.1 x.2.1 x.2.2=some r:=TA λh=>
 zwq x.1 x.2.1 x.2.2 h (uO hb.2.1 0 (by decide) rfl) (uO hb.2.2 0 (by decide) rfl)
def zfA(l:List UInt8){i:Nat}(hi:i<l.length):LG (l.take (i+1))=iA .i64 (ZB .i64 (LG (l.take i)) 256) (IntKind.wrap .i64 ((l[i].toNat:Nat):Int)):=by
 rw[LG,sM l hi,List.foldl_append];rfl
def zqE(b:List UInt8)(f k:Int)(h:wt b≤bA)(hf:zE .i64 f):Nn b f k=some (pH b f k):=by
 have hl:b.length≤bA:=by rw[←FA];exact h
 have hL:=GB;have hf:=IS hf;simp only[Nn,aA,pH]
 by_cases h1:k<1
 ·rw[decide_eq_true h1];rfl
 by_cases h2:k>6
 ·rw[decide_eq_false h1,decide_eq_true h2];rfl
 by_cases h3:f<0
 ·rw[decide_eq_false h1,decide_eq_false h2,decide_eq_true h3];rfl
 have e:sA .i64 (b.length:Int) k=(b.length:Int) - k:=by rw[sA,WB (by omega) (by omega)]
 rw[e]
 by_cases h4:f>(b.length:Int) - k
 ·rw[decide_eq_false h1,decide_eq_false h2,decide_eq_false h3,decide_eq_true h4];rfl
 rw[decide_eq_false h1,decide_eq_false h2,decide_eq_false h3,decide_eq_false h4];simp only[cond_false,Bool.or_false];obtain⟨a,rfl⟩:=eG (n:=f) (by omega);obtain⟨m,rfl⟩:=eG (n:=k) (by omega);simp only[Int.toNat_natCast];refine zgU m (by rw[yD];omega) (λi=>LG (((b.drop a).take m).take i)) _ (λi k hi=>?_) (λk=>?_) 0 (Nat.zero_le _)
 ·have e1:iA .i64 (a:Int) (i:Int)=((a+i:Nat):Int):=by rw[iA,WB (by omega) (by omega)];omega
  have NV:i<((b.drop a).take m).length:=by rw[List.length_take,List.length_drop];omega
  have hai:a+i<b.length:=by omega
  rw[zD hi,cond_true,e1,JB hai,kB,zfA _ NV];simp only[List.getElem_take,List.getElem_drop]
 ·rw[WD,cond_false,List.take_of_length_le (i:=m) (by rw[List.length_take];omega)]
def xS.ok{x}(hb:xA [.sl .byte, .v .int, .v .int] x){r}:kH x.1 x.2.1 x.2.2=some r→Nn x.1 x.2.1 x.2.2=some r:=TA λh=>
 zqE x.1 x.2.1 x.2.2 h (uO hb.2.1 0 (by decide) rfl)
def zud(p:List UInt8)(hp:p.length≤maxLen)(c:Int):uA FU (λ(x6:Int×Int) k7=>cond (decide (x6.2<(p.length:Int))) (cond (decide (0≤x6.2)&&decide (x6.2<(p.length:Int))) (Option.bind (p[x6.2.toNat]?) λe8=>
  k7 ((iA .i64 (ZB .i64 256 x6.1) (IntKind.wrap .i64 ((e8.toNat:Nat):Int))),(iA .i64 x6.2 1))) none) (some (x6.1,c,true))) ((0:Int),(0:Int))=some (LG p,c,true):=by
 refine zgU p.length hp (λi=>LG (p.take i)) _ (λi k hi=>?_) (λk=>?_) 0 (Nat.zero_le _)
 ·have e3:(decide ((0:Int)≤(i:Int))&&decide ((i:Int)<(p.length:Int)))=true:=by simp;exact hi
  simp only[e3,zD hi,cond_true,Int.toNat_natCast,List.getElem?_eq_getElem hi,kB,zfA _ hi,ZB,Int.mul_comm 256];rw[show decide ((0:Int)≤(i:Int))=true from decide_eq_true (by omega)];rfl
 ·rw[WD,cond_false,List.take_length]
def zqY(b:List UInt8)(f k:Int)(h:wt b≤bA)(hf:zE .i64 f):Mw b f k=some (pH b f k):=by
 have hl:b.length≤bA:=by rw[←FA];exact h
 have hL:=GB;have hf:=IS hf;simp only[Mw,aA,pH,yJ,UA h,cut]
 by_cases h1:k<1
 ·rw[decide_eq_true h1];rfl
 by_cases h2:k>6
 ·rw[decide_eq_false h1,decide_eq_true h2];rfl
 by_cases h3:f<0
 ·rw[decide_eq_false h1,decide_eq_false h2,decide_eq_true h3];rfl
 rw[decide_eq_false h1,decide_eq_false h2,decide_eq_false h3,decide_eq_false (p:=k<0) (by omega)]
 by_cases h4:f>(b.length:Int) - k
 ·rw[decide_eq_true h4]
  by_cases h5:f>(b.length:Int)
  ·rw[decide_eq_true h5];rfl
  ·rw[decide_eq_false h5,decide_eq_true (p:=k>(b.length:Int) - f) (by omega)];rfl
 rw[decide_eq_false h4,decide_eq_false (p:=f>(b.length:Int)) (by omega),decide_eq_false (p:=k>(b.length:Int) - f) (by omega)];simp only[cond_false,Bool.or_false,Bool.not_true];obtain⟨a,rfl⟩:=eG (n:=f) (by omega);obtain⟨m,rfl⟩:=eG (n:=k) (by omega);simp only[Int.toNat_natCast];have LV:((b.drop a).take m).length=m:=by rw[List.length_take,List.length_drop];omega
 exact zud _ (by rw[LV,yD];omega) _
def bS.ok{x}(hb:xA [.sl .byte, .v .int, .v .int] x){r}:kH x.1 x.2.1 x.2.2=some r→Mw x.1 x.2.1 x.2.2=some r:=TA λh=>
 zqY x.1 x.2.1 x.2.2 h (uO hb.2.1 0 (by decide) rfl)
def zug(l:List UInt8)(h:l.length≤4):0≤LG l∧LG l<256^l.length:=by
 have key:∀i,i≤l.length→0≤LG (l.take i)∧LG (l.take i)<256^i:=by
  intro i;induction i with
  | zero=>intro _;simp[LG]
  | succ i ih=>
   intro hi;have NV:i<l.length:=by omega
   obtain⟨h1,h2⟩:=ih (by omega);have hb:=UInt8.toNat_lt l[i]
   have hp:(256:Int)^i≤16777216:=by
    have:i=0∨i=1∨i=2∨i=3:=by omega
    rcases this with rfl | rfl | rfl | rfl<;>decide
   rw[zfA l NV,Int.pow_succ];generalize (256:Int)^i=q at *;generalize LG (l.take i)=v at *;have e1:IntKind.wrap .i64 ((l[i].toNat:Nat):Int)=(l[i].toNat:Int):=WB (by omega) (by omega);have e2:ZB .i64 v 256=v *256:=WB (by omega) (by omega);rw[e1,e2,iA,WB (by omega) (by omega)];omega
 have:=key l.length (Nat.le_refl _);rwa [List.take_length]at this
def zvQ(x n:Int)(h:1≤n∧n≤31):Mx x n=some (lG x n):=by
 simp only[Mx,aA,lG,sE];rw[decide_eq_false (p:=n<0) (by omega),decide_eq_false (p:=n>31) (by omega)];have:sA .i64 32 n=32 - n:=by rw[sA,WB (by omega) (by omega)]
 rw[this,decide_eq_false (p:=32 - n<0) (by omega)];rfl
def PS.ok{x}(_:xA [.v .int, .v .int] x){r}:pE x.1 x.2=some r→Mx x.1 x.2=some r:=TA λh=>zvQ x.1 x.2 h
def zrQ(a n:Int)(h:1≤n∧n≤31):No a n=some (lG a n):=by
 simp only[No,aA,lG,sE];rw[decide_eq_false (p:=n<1) (by omega),decide_eq_false (p:=n>31) (by omega),decide_eq_false (p:=n<0) (by omega)];have:sA .i64 32 n=32 - n:=by rw[sA,WB (by omega) (by omega)]
 rw[this,decide_eq_false (p:=32 - n<0) (by omega)];rfl
def NS.ok{x}(_:xA [.v .int, .v .int] x){r}:pE x.1 x.2=some r→No x.1 x.2=some r:=TA λh=>zrQ x.1 x.2 h
def zb5.ok{x}(_:xA [.v .int, .v .int] x):Sh x.1 x.2=some (TF x.1 x.2):=rfl
def zb6.ok{x}(_:xA [] x):Sf=some EE:=rfl
def zcs.ok{x}(_:xA [] x):Sj=some EE:=rfl
def zcZ.ok{x}(_:xA [] x):Sk=some AI:=rfl
def WQ.ok{x}(hb:xA [.sl .int] x):Nm x=some (zd2 x):=by
 show Nm (x:List Int)=some (FC (x:List Int) 8)
 have hl:(show List Int from x).length≤maxLen:=hb.1;generalize (show List Int from x)=l at hl⊢;simp only[Nm,aA];rw[zff l hl,FC];cases List.all _ _<;>rfl
def zt4:∀m:Fin 64,Kh (m.val:Int)=some (pM (m.val:Int)):=by decide+kernel
def mN.ok{x}(_:xA [.v .int] x):Kh x=some (pM x):=by
 show Kh (x:Int)=some (pM (x:Int))
 generalize (show Int from x)=i
 by_cases h:0≤i∧i≤63
 ·obtain⟨m,rfl⟩:=eG h.1;exact zt4 ⟨m,by omega⟩
 ·simp only[Kh,aA,pM,if_neg h]
  by_cases h1:i<0
  ·rw[decide_eq_true h1];rfl
  ·rw[decide_eq_false h1,decide_eq_true (p:=i>63) (by omega)];rfl
end Go.D
namespace Go.D
def jI{X R:Type}(idx:X→Int)(E:Nat→X)(U4:∀i,idx (E i)=(i:Int))(n:Nat)(hn:n≤maxLen)(z:Option R){f:X→(X→Option R)→Option R}(a:Nat)(ha:a≤n)
  (hf:∀(i:Nat) k,a≤i→i<n→f (E i) k=k (E (i+1))) (hz:∀k,f (E n) k=z):uA FU f (E a)=z:=by
 refine LH (g:=λ_=>z) (λx=>∃i:Nat,a≤i∧i≤n∧x=E i) (λx=>n - (idx x).toNat) (λx hx k hk=>?_) ⟨a,Nat.le_refl _,ha,rfl⟩ (by rw[U4];unfold maxLen at hn;simp only[Int.toNat_natCast];omega);obtain⟨i,h0,hi,rfl⟩:=hx
 rcases Nat.lt_or_eq_of_le hi with NV | rfl
 ·rw[hf i k h0 NV];exact hk _ ⟨i+1,by omega,NV,rfl⟩ (by rw[U4,U4];simp only[Int.toNat_natCast];omega)
 ·exact hz k
def OF{n i:Nat}(h:i<n):(decide ((0:Int)≤(i:Int))&&decide ((i:Int)<(n:Int)))=true:=by simp;exact h
def HH{l:List Int}{i:Nat}(h:i<l.length):l[i]?=some (l.getD i 0):=by
 rw[List.getD_eq_getElem?_getD,List.getElem?_eq_getElem h];rfl
def CM{i c:Nat}(h:i≤maxLen)(hc:c≤i):sA .i64 (i:Int) (c:Int)=((i - c:Nat):Int):=by
 rw[yD]at h;rw[sA,WB (by omega) (by omega)];omega
def iI{i:Nat}(h:i<maxLen):iA .i64 (i:Int) 1=((i+1:Nat):Int):=FG i h
def zwJ{i n:Nat}(h:i<n):decide ((i:Int)<(n:Int))=true:=decide_eq_true (by omega)
def UK(b:List UInt8):∀i,(CD b i).length=i
 | 0=>rfl
 | i+1=>by rw[CD,List.length_append,UK b i];rfl
def zrS(b:List UInt8)(w:List Int)(i:Nat):FD (vM b w i):=by
 unfold vM;split
 ·unfold pH;cases decide ((4:Int)<1)||(decide ((4:Int)>6)||(decide (((4 *i:Nat):Int)<0)||decide (((4 *i:Nat):Int)>(b.length:Int) - 4)))
  ·simp only[cond_false];have h4:((b.drop ((4 *i:Nat):Int).toNat).take (4:Int).toNat).length≤4:=by rw[List.length_take];exact Nat.min_le_left _ _
   have:=zug _ h4
   have hp:(256:Int)^((b.drop ((4 *i:Nat):Int).toNat).take (4:Int).toNat).length≤4294967296:=by
    generalize ((b.drop ((4 *i:Nat):Int).toNat).take (4:Int).toNat).length=q at h4;have:q=0∨q=1∨q=2∨q=3∨q=4:=by omega
    rcases this with rfl | rfl | rfl | rfl | rfl<;>decide
   exact⟨this.1,by omega⟩
  ·show FD 0
   exact⟨by decide,by decide⟩
 ·exact zed _
def zl0(b:List UInt8):∀(i j:Nat),FD ((CD b i).getD j 0)
 | 0,j=>by rw[show(CD b 0)=[]from rfl];simp;exact⟨by decide,by decide⟩
 | i+1,j=>by
  rw[CD,List.getD_eq_getElem?_getD,List.getElem?_append];split
  ·have:=zl0 b i j;rwa [List.getD_eq_getElem?_getD]at this
  ·cases hj:j - (CD b i).length with
   | zero=>exact zrS b _ i
   | succ m=>simp;exact⟨by decide,by decide⟩
def zn5{i:Nat}(h:i<16):ZB .i64 4 (i:Int)=((4 *i:Nat):Int):=by
 rw[show ZB .i64 4 (i:Int)=IntKind.wrap .i64 (4 *(i:Int))from rfl,WB (by omega) (by omega)];omega
def cF{β:Type}{x n:Int}{f:Int→Option β}(h:1≤n∧n≤31):Option.bind (pE x n) f=f (lG x n):=UA h
def zoR(b:List UInt8)(h:wt b≤bA):Np b=some (MC b):=by
 simp only[Np,aA,MC]
 by_cases hl:b.length=64
 case neg=>
  rw[show((b.length:Int) !=64)=true from bne_iff_ne.2 (by omega),if_neg hl];rfl
 rw[show((b.length:Int) !=64)=false by simp[hl],if_pos hl,cond_false];have hL:=GB;refine(jI (X:=List Int×Int) (λx=>x.2) (λi=>(CD b i,(i:Int))) (λ_=>rfl) 16 (by decide) (some (CD b 64)) 0 (by decide) (λi k _ hi=>?_) (λk=>?_))
 ·simp only[zwJ (show i<16 from hi),show((16:Nat):Int)=16 from rfl,decide_eq_true (p:=(i:Int)<16) (by omega),cond_true,zn5 hi,kH,UA h,iI (i:=i) (by rw[yD];omega)];rw[GH (by rw[UK];simp;omega),cond_true,CD,vM,if_pos hi]
 ·simp only[show((16:Nat):Int)=16 from rfl,show decide ((16:Int)<16)=false from rfl,cond_false];refine(jI (X:=List Int×Int) (λx=>x.2) (λi=>(CD b i,(i:Int))) (λ_=>rfl) 64 (by decide) (some (CD b 64)) 16 (by decide) (λi k PY hi=>?_) (λk=>?_))
  ·have hm:i≤maxLen:=by rw[yD];omega
   have e15:sA .i64 (i:Int) 15=((i - 15:Nat):Int):=CM (c:=15) hm (by omega);have e2:sA .i64 (i:Int) 2=((i - 2:Nat):Int):=CM (c:=2) hm (by omega);have e7:sA .i64 (i:Int) 7=((i - 7:Nat):Int):=CM (c:=7) hm (by omega);have e16:sA .i64 (i:Int) 16=((i - 16:Nat):Int):=CM (c:=16) hm (by omega);have hs:=UK b i
   simp only[decide_eq_true (p:=(i:Int)<64) (by omega),cond_true,e15,e2,e7,e16,OF (show i - 15<(CD b i).length by omega),OF (show i - 2<(CD b i).length by omega),OF (show i - 7<(CD b i).length by omega),OF (show i - 16<(CD b i).length by omega),Int.toNat_natCast,
    HH (show i - 15<(CD b i).length by omega),HH (show i - 2<(CD b i).length by omega),HH (show i - 7<(CD b i).length by omega),HH (show i - 16<(CD b i).length by omega),kB,cF (show(1:Int)≤7∧(7:Int)≤31 by decide),cF (show(1:Int)≤18∧(18:Int)≤31 by decide),cF (show(1:Int)≤17∧(17:Int)≤31 by decide),cF (show(1:Int)≤19∧(19:Int)≤31 by decide),iI (i:=i) (by rw[yD];omega)]
   rw[GH (by rw[UK];simp;omega),cond_true,CD,vM,if_neg (by omega)];rfl
  ·simp only[show((64:Nat):Int)=64 from rfl,show decide ((64:Int)<64)=false from rfl,cond_false]
def XP.ok{x}(_:xA [.sl .byte] x){r}:tM x=some r→Np x=some r:=TA λh=>zoR x h
def sF(b:List UInt8)(i:Nat):List Int:=CD b i++List.replicate (64 - i) 0
def zjb(b:List UInt8){i:Nat}(hi:i<64)(v:Int)(hv:v=vM b (CD b i) i):List.set (sF b i) i v=sF b (i+1):=by
 subst hv;rw[sF,show 64 - i=(64 - (i+1))+1 by omega,List.replicate_succ,zmw _ _ _ _ (UK b i),sF,CD,List.append_assoc];rfl
def zbo(b:List UInt8){i j:Nat}(hj:j<i):(sF b i)[j]?=some ((CD b i).getD j 0):=by
 rw[sF,List.getElem?_append_left (by rw[UK];exact hj),HH (by rw[UK];exact hj)]
def zfm(b:List UInt8){i:Nat}(h:i≤64):(sF b i).length=64:=by
 rw[sF,List.length_append,UK,List.length_replicate];omega
def ziO(b:List UInt8){i j:Nat}(hi:i≤64)(hj:j<64):∃v,(sF b i)[j]?=some v:=⟨_,List.getElem?_eq_getElem (by rw[zfm b hi];exact hj)⟩
def zoN(b:List UInt8)(h:wt b≤bA):My b=some (MC b):=by
 simp only[My,aA,MC]
 by_cases hl:b.length=64
 case neg=>
  rw[show((b.length:Int) !=64)=true from bne_iff_ne.2 (by omega),if_neg hl];rfl
 rw[show((b.length:Int) !=64)=false by simp[hl],if_pos hl,cond_false];have hend:sF b 64=CD b 64:=by simp[sF]
 refine(jI (X:=Int×List Int) (λx=>x.1) (λi=>((i:Int),sF b i)) (λ_=>rfl) 16 (by decide) (some (CD b 64)) 0 (by decide) (λi k _ hi=>?_) (λk=>?_))
 ·have LV:=zfm b (i:=i) (by omega);obtain⟨v,hv⟩:=ziO b (i:=i) (j:=i) (by omega) (by omega);simp only[decide_eq_true (p:=(i:Int)<16) (by omega),cond_true,zn5 hi,kH,UA h,OF (show i<(sF b i).length by omega),Int.toNat_natCast,hv,kB,iI (i:=i) (by rw[yD];omega)];rw[zjb b (by omega) _ (by rw[vM,if_pos hi])]
 ·simp only[show((16:Nat):Int)=16 from rfl,show decide ((16:Int)<16)=false from rfl,cond_false];refine(jI (X:=Int×List Int) (λx=>x.1) (λi=>((i:Int),sF b i)) (λ_=>rfl) 64 (by decide) (some (CD b 64)) 16 (by decide) (λi k PY hi=>?_) (λk=>?_))
  ·have hm:i≤maxLen:=by rw[yD];omega
   have LV:=zfm b (i:=i) (by omega);obtain⟨v,hv⟩:=ziO b (i:=i) (j:=i) (by omega) (by omega);have e15:sA .i64 (i:Int) 15=((i - 15:Nat):Int):=CM (c:=15) hm (by omega);have e2:sA .i64 (i:Int) 2=((i - 2:Nat):Int):=CM (c:=2) hm (by omega);have e7:sA .i64 (i:Int) 7=((i - 7:Nat):Int):=CM (c:=7) hm (by omega);have e16:sA .i64 (i:Int) 16=((i - 16:Nat):Int):=CM (c:=16) hm (by omega)
   simp only[decide_eq_true (p:=(i:Int)<64) (by omega),cond_true,e15,e2,e7,e16,OF (show i - 15<(sF b i).length by omega),OF (show i - 2<(sF b i).length by omega),OF (show i - 7<(sF b i).length by omega),OF (show i - 16<(sF b i).length by omega),OF (show i<(sF b i).length by omega),Int.toNat_natCast,
    zbo b (show i - 15<i by omega),zbo b (show i - 2<i by omega),zbo b (show i - 7<i by omega),zbo b (show i - 16<i by omega),hv,kB,cF (show(1:Int)≤7∧(7:Int)≤31 by decide),cF (show(1:Int)≤18∧(18:Int)≤31 by decide),cF (show(1:Int)≤17∧(17:Int)≤31 by decide),cF (show(1:Int)≤19∧(19:Int)≤31 by decide),iI (i:=i) (by rw[yD];omega)]
   rw[zjb b hi _ (by rw[vM,if_neg (by omega)];rfl)]
  ·simp only[show((64:Nat):Int)=64 from rfl,show decide ((64:Int)<64)=false from rfl,cond_false,hend]
def nQ.ok{x}(_:xA [.sl .byte] x){r}:tM x=some r→My x=some r:=TA λh=>zoN x h
def zsU(b:List UInt8)(j:Nat):FD ((MC b).getD j 0):=by
 unfold MC;split
 ·exact zl0 b 64 j
 ·simp;exact⟨by decide,by decide⟩
end Go.D
namespace Go.D
def zlk:AI.length=64:=by decide
def zw9:∀m:Fin 64,decide (0≤AI.getD m.val 0)&&decide (AI.getD m.val 0≤4294967295)=true:=by decide+kernel
def k_w{i:Nat}(h:i<64):FD (AI.getD i 0):=by
 have:=zw9 ⟨i,h⟩;simp only[Bool.and_eq_true,decide_eq_true_eq]at this;exact this
def zqJ{i:Nat}(h:i<64):pM (i:Int)=AI.getD i 0:=by
 rw[pM,if_pos (by omega),Int.toNat_natCast]
def W8(s:S8):Prop:=FD s.1∧FD s.2.1∧FD s.2.2.1∧FD s.2.2.2.1∧FD s.2.2.2.2.1∧FD s.2.2.2.2.2.1∧FD s.2.2.2.2.2.2.1∧FD s.2.2.2.2.2.2.2
def zvz(k w:Int){s:S8}(h:W8 s):W8 (zeh k w s):=⟨zed _,h.1,h.2.1,h.2.2.1,zed _,h.2.2.2.2.1,h.2.2.2.2.2.1,h.2.2.2.2.2.2.1⟩
def zlr(w:List Int){s:S8}(h:W8 s):∀i,W8 (rounds w s i)
 | 0=>h
 | i+1=>zvz _ _ (zlr w h i)
def zah{a b:Int}{m n:Int}(ha:0≤a∧a≤m)(hb:0≤b∧b≤n)(h:m+n≤9223372036854775807):0≤iA .i64 a b∧iA .i64 a b≤m+n:=by
 rw[iA,WB (by omega) (by omega)];omega
def zwZ:FD 4294967295:=⟨by decide,by decide⟩
def zzJ{k w:Int}{s:S8}(hk:FD k)(hw:FD w)(h:W8 s):0≤rT k w s∧rT k w s≤21474836475:=by
 obtain⟨_,_,_,_,h5,h6,h7,h8⟩:=h;have a1:=OM (OM (kT s.2.2.2.2.1 6) (kT s.2.2.2.2.1 11)) (kT s.2.2.2.2.1 25);have a2:=OM (zap h5 h6) (zap (OM h5 zwZ) h7);have b1:=zah h8 a1 (by decide);have b2:=zah b1 a2 (by decide);have b3:=zah b2 hk (by decide);exact zah b3 hw (by decide)
def zz4{s:S8}(h:W8 s):0≤rU s∧rU s≤8589934590:=by
 obtain⟨h1,h2,h3,_⟩:=h;exact zah (OM (OM (kT s.1 2) (kT s.1 13)) (kT s.1 22)) (OM (OM (zap h1 h2) (zap h1 h3)) (zap h2 h3)) (by decide)
def zl8{a b:Int}(ha:0≤a∧a≤1099511627776)(hb:0≤b∧b≤1099511627776):sE (iA .i64 a b)=sE (iA .i64 (sE a) (sE b)):=by
 have h1:=zd7 a;have h2:=zd7 b;rw[iA,iA,WB (by omega) (by omega),WB (by omega) (by omega),zac (by omega) (by omega),zac (a:=sE a+sE b) (by omega) (by omega),zac ha.1 (by omega),zac hb.1 (by omega)];omega
def zwQ{a:Int}(h:FD a):sE a=a:=by
 rw[zac h.1 (Int.le_trans h.2 (by decide))];have:=h.1;have:=h.2;omega
def MK{h:List Int}(hw:FC h 8=true):h.length=8∧∀j,FD (h.getD j 0):=by
 simp only[FC,Bool.and_eq_true,beq_iff_eq,List.all_eq_true]at hw;refine⟨by omega,λj=>?_⟩
 by_cases hj:j<h.length
 ·rw[List.getD_eq_getElem?_getD,List.getElem?_eq_getElem hj];exact fD.1 (hw.1 _ (List.getElem_mem hj))
 ·rw[List.getD_eq_getElem?_getD,List.getElem?_eq_none (by omega)];exact⟨by decide,by decide⟩
def zxp{h:List Int}(hw:FC h 8=true):W8 (qE h):=by
 have:=(MK hw).2;exact⟨this 0,this 1,this 2,this 3,this 4,this 5,this 6,this 7⟩
def zdH(h:List Int)(s:S8)(hl:h.length=8):(List.zipWith TF h (OH s)).length=8:=by
 rw[List.length_zipWith,hl];rfl
def zs7{h:List Int}(b:List UInt8)(hw:FC h 8=true):FC (xF h b) 8=true:=by
 have hl:=(MK hw).1;simp only[FC,Bool.and_eq_true,beq_iff_eq,List.all_eq_true];refine⟨λx hx=>?_,?_⟩
 ·obtain⟨i,hi,rfl⟩:=List.getElem_of_mem hx;have hi2:i<(List.zipWith TF h (OH (rounds (MC b) (qE h) 64))).length:=hi;show eA ((List.zipWith TF h (OH (rounds (MC b) (qE h) 64)))[i]'hi2) 0 4294967295=true
  rw[List.getElem_zipWith];exact fD.2 (zd7 _)
 ·have:=zdH h (rounds (MC b) (qE h) 64) hl;show((List.zipWith TF h (OH (rounds (MC b) (qE h) 64))).length:Int)=8
  omega
def zp1{h:List Int}(b:List UInt8)(hw:FC h 8=true):FC (cL h b) 8=true:=by
 unfold cL;cases FC h 8&&b.length==64
 ·exact hw
 ·exact zs7 b hw
def zjh{b:List UInt8}(h:b.length=64):(MC b).length=64:=by
 rw[MC,if_pos h,UK]
def gF(h:List Int)(z:List Int)(i:Nat):List Int:=z.take i++h.drop i
def zsW{h z:List Int}(hl:h.length=z.length){i:Nat}(hi:i<z.length)(v:Int)(hv:v=z[i]):List.set (gF h z i) i v=gF h z (i+1):=by
 subst hv;have hi2:i<h.length:=by omega
 rw[gF,tS h hi2,zmw _ _ _ _ (by rw[List.length_take];omega),gF,sM z hi,List.append_assoc];rfl
def zjX{h z:List Int}(hl:h.length=z.length){i:Nat}(hi:i≤z.length):(gF h z i).length=z.length:=by
 rw[gF,List.length_append,List.length_take,List.length_drop];omega
def dF{l:List Int}{i:Nat}(h:i<l.length):lA l (i:Int)=some (l.getD i 0):=by rw[zlx,HH h]
def zv3(h:List Int)(s:S8)(hl:h.length=8){i:Nat}(hi:i<(List.zipWith TF h (OH s)).length):(List.zipWith TF h (OH s))[i]=TF (h.getD i 0) ((OH s).getD i 0):=by
 have h8:=zdH h s hl;rw[List.getElem_zipWith,List.getD_eq_getElem?_getD,List.getD_eq_getElem?_getD,List.getElem?_eq_getElem (by omega),List.getElem?_eq_getElem (by show i<8;omega)];rfl
def zc6{h:List Int}(b:List UInt8)(h8:h.length=8):(xF h b).length=8:=zdH h _ h8
def zkV{h:List Int}(b:List UInt8)(h8:h.length=8){i:Nat}(hi:i<8):List.set (gF h (xF h b) i) i (TF (h.getD i 0) ((OH (rounds (MC b) (qE h) 64)).getD i 0))=gF h (xF h b) (i+1):=
 zsW (by rw[zc6 b h8,h8]) (by rw[zc6 b h8];exact hi) _ (zv3 h _ h8 (by rw[zdH h _ h8];exact hi)).symm
def zo1(h:List Int)(b:List UInt8)(hh:wt h≤bA∧wt b≤bA):Nq h b=some (cL h b):=by
 have LV:h.length≤bA:=by rw[←pL];exact hh.1
 simp only[Nq,aA,List.nil_append,cL,zd2,tM,UA hh.2];rw[show decide (([]:List Int).length+h.length≤bA)=true from decide_eq_true (by simpa using LV)];simp only[cond_true];cases hw:FC h 8
 ·rfl
 by_cases hb:b.length=64
 case neg=>
  rw[show((b.length:Int) !=64)=true from bne_iff_ne.2 (by omega),beq_false_of_ne hb];rfl
 rw[show((b.length:Int) !=64)=false by simp[hb],show(b.length==64)=true by simp[hb]];obtain⟨h8,hW⟩:=MK hw;have i0:lA h 0=some (h.getD 0 0):=dF (i:=0) (by omega);have i1:lA h 1=some (h.getD 1 0):=dF (i:=1) (by omega);have i2:lA h 2=some (h.getD 2 0):=dF (i:=2) (by omega);have i3:lA h 3=some (h.getD 3 0):=dF (i:=3) (by omega);have i4:lA h 4=some (h.getD 4 0):=dF (i:=4) (by omega);have i5:lA h 5=some (h.getD 5 0):=dF (i:=5) (by omega);have i6:lA h 6=some (h.getD 6 0):=dF (i:=6) (by omega);have i7:lA h 7=some (h.getD 7 0):=dF (i:=7) (by omega);simp only[Bool.not_true,cond_false,Bool.and_true,cond_true,i0,i1,i2,i3,i4,i5,i6,i7,kB];have C3:=zjh hb;refine jI (λx=>x.2.2.2.2.2.2.2.2) (λi=>((rounds (MC b) (qE h) i).1,(rounds (MC b) (qE h) i).2.1,(rounds (MC b) (qE h) i).2.2.1,(rounds (MC b) (qE h) i).2.2.2.1,(rounds (MC b) (qE h) i).2.2.2.2.1,(rounds (MC b) (qE h) i).2.2.2.2.2.1,(rounds (MC b) (qE h) i).2.2.2.2.2.2.1,(rounds (MC b) (qE h) i).2.2.2.2.2.2.2,(i:Int))) (λ_=>rfl) 64 (by decide) (some (xF h b)) 0 (by decide) (λi k _ hi=>?_) (λk=>?_)
 ·simp only[decide_eq_true (p:=(i:Int)<64) (by omega),cond_true,Int.toNat_natCast,OF (show i<AI.length by rw[zlk];exact hi),OF (show i<(MC b).length by omega),HH (show i<AI.length by rw[zlk];exact hi),HH (show i<(MC b).length by omega),kB,
   cF (show(1:Int)≤6∧(6:Int)≤31 by decide),cF (show(1:Int)≤11∧(11:Int)≤31 by decide),cF (show(1:Int)≤25∧(25:Int)≤31 by decide),cF (show(1:Int)≤2∧(2:Int)≤31 by decide),cF (show(1:Int)≤13∧(13:Int)≤31 by decide),cF (show(1:Int)≤22∧(22:Int)≤31 by decide),iI (i:=i) (by rw[yD];omega)]
  rfl
 ·simp only[show((64:Nat):Int)=64 from rfl,show decide ((64:Int)<64)=false from rfl,cond_false];have P2:=zc6 b h8;refine jI (X:=Int×List Int) (λx=>x.1) (λi=>((i:Int),gF h (xF h b) i)) (λ_=>rfl) 8 (by decide) (some (xF h b)) 0 (by decide) (λi k _ hi=>?_) (λk=>?_)
  ·have N8:(gF h (xF h b) i).length=8:=by rw[zjX (by rw[P2,h8]) (by rw[P2];omega),P2]
   have N5:i<(OH (rounds (MC b) (qE h) 64)).length:=hi;have ho:(gF h (xF h b) i)[i]?=some ((gF h (xF h b) i).getD i 0):=HH (by omega);simp only[decide_eq_true (p:=(i:Int)<8) (by omega),cond_true,dF (show i<h.length by omega),kB,OF (show i<(gF h (xF h b) i).length by omega),ho,Int.toNat_natCast,iI (i:=i) (by rw[yD];omega)];have e1:=OF N5;have e2:=HH N5;unfold OH at e1 e2;rw[e1,cond_true,e2,kB];exact congrArg (λl=>k (((i+1:Nat):Int),l)) (zkV b h8 hi)
  ·simp only[show((8:Nat):Int)=8 from rfl,show decide ((8:Int)<8)=false from rfl,cond_false];rw[gF,List.take_of_length_le (by rw[P2];exact Nat.le_refl _),List.drop_eq_nil_of_le (by omega),List.append_nil]
def pQ.ok{x}(_:xA [.sl .int, .sl .byte] x){r}:XK x.1 x.2=some r→Nq x.1 x.2=some r:=TA λh=>zo1 x.1 x.2 h
def ztG{k w:Int}{s:S8}(hk:FD k)(hw:FD w)(h:W8 s):zeh k w s=(TF (rT k w s) (rU s),s.1,s.2.1,s.2.2.1,TF s.2.2.2.1 (rT k w s),s.2.2.2.2.1,s.2.2.2.2.2.1,s.2.2.2.2.2.2.1):=by
 have ht:=zzJ hk hw h;have hu:=zz4 h;have hd:=h.2.2.2.1;rw[zeh,TF,TF,zl8 (a:=rT k w s) (b:=rU s) ⟨ht.1,by omega⟩ ⟨hu.1,by omega⟩,zl8 (a:=s.2.2.2.1) (b:=rT k w s) ⟨hd.1,Int.le_trans hd.2 (by decide)⟩ ⟨ht.1,by omega⟩,zwQ hd]
def zoY(h:List Int)(b:List UInt8)(hh:wt h≤bA∧wt b≤bA):Mz h b=some (cL h b):=by
 have LV:h.length≤bA:=by rw[←pL];exact hh.1
 simp only[Mz,aA,List.nil_append,cL,tM,UA hh.2];rw[show decide (([]:List Int).length+h.length≤bA)=true from decide_eq_true (by simpa using LV)];simp only[cond_true];cases hw:FC h 8
 ·rfl
 by_cases hb:b.length=64
 case neg=>
  rw[show((b.length:Int) !=64)=true from bne_iff_ne.2 (by omega),beq_false_of_ne hb];rfl
 rw[show((b.length:Int) !=64)=false by simp[hb],show(b.length==64)=true by simp[hb]];obtain⟨h8,hW⟩:=MK hw;have i0:lA h 0=some (h.getD 0 0):=dF (i:=0) (by omega);have i1:lA h 1=some (h.getD 1 0):=dF (i:=1) (by omega);have i2:lA h 2=some (h.getD 2 0):=dF (i:=2) (by omega);have i3:lA h 3=some (h.getD 3 0):=dF (i:=3) (by omega);have i4:lA h 4=some (h.getD 4 0):=dF (i:=4) (by omega);have i5:lA h 5=some (h.getD 5 0):=dF (i:=5) (by omega);have i6:lA h 6=some (h.getD 6 0):=dF (i:=6) (by omega);have i7:lA h 7=some (h.getD 7 0):=dF (i:=7) (by omega);simp only[Bool.not_true,cond_false,Bool.and_true,cond_true,i0,i1,i2,i3,i4,i5,i6,i7,kB];have C3:=zjh hb;refine jI (λx=>x.2.2.2.2.2.2.2.2) (λi=>((rounds (MC b) (qE h) i).1,(rounds (MC b) (qE h) i).2.1,(rounds (MC b) (qE h) i).2.2.1,(rounds (MC b) (qE h) i).2.2.2.1,(rounds (MC b) (qE h) i).2.2.2.2.1,(rounds (MC b) (qE h) i).2.2.2.2.2.1,(rounds (MC b) (qE h) i).2.2.2.2.2.2.1,(rounds (MC b) (qE h) i).2.2.2.2.2.2.2,(i:Int))) (λ_=>rfl) 64 (by decide) (some (xF h b)) 0 (by decide) (λi k _ hi=>?_) (λk=>?_)
 ·have hs:=ztG (k_w hi) (zsU b i) (zlr (MC b) (zxp hw) i)
  simp only[decide_eq_true (p:=(i:Int)<64) (by omega),cond_true,Int.toNat_natCast,OF (show i<(MC b).length by omega),HH (show i<(MC b).length by omega),kB,zqJ hi,zte 4294967295,
   cF (show(1:Int)≤6∧(6:Int)≤31 by decide),cF (show(1:Int)≤11∧(11:Int)≤31 by decide),cF (show(1:Int)≤25∧(25:Int)≤31 by decide),cF (show(1:Int)≤2∧(2:Int)≤31 by decide),cF (show(1:Int)≤13∧(13:Int)≤31 by decide),cF (show(1:Int)≤22∧(22:Int)≤31 by decide),iI (i:=i) (by rw[yD];omega)]
  rw[rounds,hs];rfl
 ·simp only[show((64:Nat):Int)=64 from rfl,show decide ((64:Int)<64)=false from rfl,cond_false];have P2:=zc6 b h8;refine jI (X:=Int×List Int) (λx=>x.1) (λi=>((i:Int),gF h (xF h b) i)) (λ_=>rfl) 8 (by decide) (some (xF h b)) 0 (by decide) (λi k _ hi=>?_) (λk=>?_)
  ·have N8:(gF h (xF h b) i).length=8:=by rw[zjX (by rw[P2,h8]) (by rw[P2];omega),P2]
   have N5:i<(OH (rounds (MC b) (qE h) 64)).length:=hi;have ho:(gF h (xF h b) i)[i]?=some ((gF h (xF h b) i).getD i 0):=HH (by omega);simp only[cond_true,dF (show i<h.length by omega),kB,OF (show i<(gF h (xF h b) i).length by omega),ho,Int.toNat_natCast,iI (i:=i) (by rw[yD];omega)];have e0:=zD N5;have e1:=OF N5;have e2:=HH N5;unfold OH at e0 e1 e2;rw[e0,cond_true,show decide ((0:Int)≤(i:Int))=true from decide_eq_true (by omega),Bool.and_true,cond_true,e2,kB];exact congrArg (λl=>k (((i+1:Nat):Int),l)) (zkV b h8 hi)
  ·simp only[List.length_cons,List.length_nil];rw[show decide (((8:Nat):Int)<((0+1+1+1+1+1+1+1+1:Nat):Int))=false from rfl,cond_false];rw[gF,List.take_of_length_le (by rw[P2];exact Nat.le_refl _),List.drop_eq_nil_of_le (by omega),List.append_nil]
def kQ.ok{x}(_:xA [.sl .int, .sl .byte] x){r}:XK x.1 x.2=some r→Mz x.1 x.2=some r:=TA λh=>zoY x.1 x.2 h
end Go.D
namespace Go.D
def WL:∀(n:Nat) (h:List Int) (b:List UInt8),FC h 8=true→FC (OC h n b) 8=true
 | 0,h,b,hw=>hw
 | n+1,h,b,hw=>WL n _ _ (zp1 _ hw)
def zfp:∀(n:Nat) (h:List Int) (b:List UInt8),OC h (n+1) b=cL (OC h n b) ((b.drop (64 *n)).take 64)
 | 0,h,b=>rfl
 | n+1,h,b=>by
  rw[OC,zfp n,OC,List.drop_drop];rw[show 64+64 *n=64 *(n+1) by omega]
def zkf:∀(m k:Nat) (h:List Int) (b:List UInt8),OC h (m+k) b=OC (OC h m b) k (b.drop (64 *m))
 | 0,k,h,b=>by simp[OC]
 | m+1,k,h,b=>by
  rw[show m+1+k=(m+k)+1 by omega,OC,zkf m k,OC,List.drop_drop,show 64+64 *m=64 *(m+1) by omega]
def zjU:∀(m:Nat) (h:List Int) (b p:List UInt8),64 *m≤b.length→OC h m (b++p)=OC h m b
 | 0,h,b,p,_=>rfl
 | m+1,h,b,p,hl=>by
  rw[OC,OC,List.take_append_of_le_length (by omega),List.drop_append_of_le_length (by omega),zjU m _ _ _ (by rw[List.length_drop];omega)]
def zec{h:List Int}(hw:FC h 8=true):wt h≤bA:=by
 rw[pL,(MK hw).1,GB];decide
def zt2(l:List UInt8)(h:64≤l.length):List.take (((l.length:Int) - 64).toNat) (List.drop 64 l)=l.drop 64:=by
 rw[List.take_of_length_le];rw[List.length_drop];omega
def zlj(n:Nat):64 *(n / 64)≤n:=Nat.mul_div_le n 64
def zom(h:List Int)(b:List UInt8)(hb:wt b≤bA)(hw:FC h 8=true):Na h b=some (OC h (b.length / 64) b,b.drop (64 *(b.length / 64))):=by
 have hl:b.length≤bA:=by rw[←FA];exact hb
 simp only[Na,aA];refine LH (g:=λ_=>some (OC h (b.length / 64) b,b.drop (64 *(b.length / 64)))) (λx=>∃i:Nat,64 *i≤b.length∧x=(OC h i b,b.drop (64 *i))) (λx=>x.2.length) (λx hx k hk=>?_) (x:=(h,b)) ⟨0,Nat.zero_le _,by simp[OC]⟩ (by show b.length<2^64;rw[GB]at hl;omega);obtain⟨i,hi,rfl⟩:=hx;have hdl:(b.drop (64 *i)).length=b.length - 64 *i:=List.length_drop;have hds:=uF b (64 *i)
 by_cases uY:64 *(i+1)≤b.length
 ·have e1:decide (((b.drop (64 *i)).length:Int)≥64)=true:=decide_eq_true (by omega);have e2:(decide ((0:Int)≤0)&&decide ((0:Int)≤64)&&true)=true:=rfl;have e3:(decide ((0:Int)≤64)&&true&&decide (((b.drop (64 *i)).length:Int)≤((b.drop (64 *i)).length:Int)))=true:=by simp
  have O1:=hk (OC h (i+1) b,b.drop (64 *(i+1))) ⟨i+1,uY,rfl⟩ (by show(b.drop (64 *(i+1))).length<(b.drop (64 *i)).length;rw[List.length_drop,List.length_drop];omega);rw[zfp,show 64 *(i+1)=64 *i+64 by omega, ←List.drop_drop]at O1;simp only[e1,e2,e3,cond_true,List.drop_zero,XK,UA (p:=wt (OC h i b)≤bA∧wt ((b.drop (64 *i)).take 64)≤bA) ⟨zec (WL i h b hw),Nat.le_trans (VD _ _) (Nat.le_trans hds hb)⟩,zt2 _ (show 64≤(b.drop (64 *i)).length by omega)];exact O1
 ·have e1:decide (((b.drop (64 *i)).length:Int)≥64)=false:=decide_eq_false (by omega);have:i=b.length / 64:=by omega
  simp only[e1,cond_false, ←this]
def kP.ok{x}(_:xA [.sl .int, .sl .byte] x){r}:yT x.1 x.2=some r→Na x.1 x.2=some r:=TA λh=>zom x.1 x.2 h.2.2 h.2.1
def HN(n:Int):∀i,(sG n i).length=i
 | 0=>rfl
 | i+1=>by rw[sG,List.length_cons,HN n i]
def zea(b:List UInt8)(n:Int):DD b n 4=b++sG n 4:=rfl
def zxn(b:List UInt8)(n:Int):DD b n 6=b++sG n 6:=rfl
def ziL(h:List Int){i:Nat}(hi:i<h.length):rF (h.take (i+1))=rF (h.take i)++sG (h.getD i 0) 4:=by
 rw[rF,sM h hi,List.flatMap_append];simp[rF,List.getD_eq_getElem?_getD,hi]
def za2:∀h:List Int,(rF h).length=4 *h.length
 | []=>rfl
 | x :: h=>by
  rw[rF,List.flatMap_cons,List.length_append,HN,List.length_cons];have:=za2 h;rw[rF]at this;omega
def zox(h:List Int)(h8:h.length=8):Nd h=some (rF h):=by
 have hL:=GB;simp only[Nd,aA];refine jI (X:=List UInt8×Int) (λx=>x.2) (λi=>(rF (h.take i),(i:Int))) (λ_=>rfl) h.length (by rw[h8];decide) _ 0 (Nat.zero_le _) (λi k _ hi=>?_) (λk=>by simp only[WD,cond_false,List.take_length]);have hwl:=za2 (h.take i);rw[List.length_take]at hwl;simp only[zD hi,cond_true,dF hi,kB,XB,UA (p:=wt (rF (h.take i))+6≤bA) (by rw[FA];omega),zea,iI (i:=i) (by rw[yD];omega),ziL h hi]
def RP.ok{x}(_:xA [.sl .int] x){r}:RK x=some r→Nd x=some r:=TA λh=>zox x h
def zqh(h:List Int)(h8:h.length=8):Nr h=some (rF h):=by
 have hL:=GB;simp only[Nr,aA];refine jI (X:=List UInt8×Int) (λx=>x.2) (λi=>(rF (h.take i),(i:Int))) (λ_=>rfl) 8 (by decide) _ 0 (Nat.zero_le _) (λi k _ hi=>?_) (λk=>?_)
 ·have hwl:=za2 (h.take i);rw[List.length_take]at hwl;simp only[decide_eq_true (p:=(i:Int)<8) (by omega),cond_true,dF (show i<h.length by omega),kB,XB,UA (p:=wt (rF (h.take i))+6≤bA) (by rw[FA];omega),zea,iI (i:=i) (by rw[yD];omega),ziL h (show i<h.length by omega)]
 ·simp only[show((8:Nat):Int)=8 from rfl,show decide ((8:Int)<8)=false from rfl,cond_false];rw[List.take_of_length_le (by omega)]
def QR.ok{x}(_:xA [.sl .int] x){r}:RK x=some r→Nr x=some r:=TA λh=>zqh x h
def zkH:(UInt8.ofNat (0:Int).toNat)=0:=rfl
def zkT(n:Nat)(hn:n≤1048576)(z:List UInt8→Option (List UInt8)):uA FU (λ(x5:(List UInt8)) k6=>cond ((zA .i64 (iA .i64 (iA .i64 (n:Int) (x5.length:Int)) 8) 64) !=0)
  (cond (decide (x5.length+[UInt8.ofNat (0:Int).toNat].length≤bA)) (k6 (x5++[UInt8.ofNat (0:Int).toNat])) none) (z x5)) [UInt8.ofNat (128:Int).toNat]=z (128 :: List.replicate (yF n) 0):=by
 have hz:yF n<64:=Nat.mod_lt _ (by decide);have hL:=GB;refine LH (g:=λ_=>z (128 :: List.replicate (yF n) 0)) (λx=>∃j:Nat,j≤yF n∧x=128 :: List.replicate j 0) (λx=>yF n+1 - x.length) (λx hx k hk=>?_) ⟨0,Nat.zero_le _,rfl⟩ (by show yF n+1 - 1<2^64;omega);obtain⟨j,hj,rfl⟩:=hx
 have e1:iA .i64 (iA .i64 (n:Int) (((128 :: List.replicate j 0:List UInt8).length:Nat):Int)) 8=((n+(j+1)+8:Nat):Int):=by
  rw[List.length_cons,List.length_replicate];have a1:iA .i64 (n:Int) ((j+1:Nat):Int)=((n+(j+1):Nat):Int):=by rw[iA,WB (by omega) (by omega)];omega
  rw[a1,iA,WB (by omega) (by omega)];omega
 have e2:zA .i64 ((n+(j+1)+8:Nat):Int) 64=(((n+(j+1)+8) % 64:Nat):Int):=AS _ 64;simp only[e1,e2]
 rcases Nat.lt_or_eq_of_le hj with NV | rfl
 ·have:(n+(j+1)+8) % 64≠0:=by unfold yF at NV;omega
  rw[show((((n+(j+1)+8) % 64:Nat):Int) !=0)=true from bne_iff_ne.2 (by omega),cond_true,GH (by simp;omega),cond_true];refine hk _ ⟨j+1,NV,?_⟩ (by simp;omega);rw[zkH,List.cons_append,List.replicate_succ']
 ·have:(n+(yF n+1)+8) % 64=0:=by unfold yF;omega
  rw[this];rfl
def zwx(n:Nat)(hn:n≤1048576):sG ((8 *n:Nat):Int) 6=[0,0]++sG ((8 *n:Nat):Int) 4:=by
 have h5:FE .i64 ((8 *n:Nat):Int) (ZB .i64 8 ((5:Nat):Int))=0:=by
  show Int.fdiv ((8 *n:Nat):Int) 1099511627776=0
  rw[Int.fdiv_eq_ediv_of_nonneg _ (by decide)];omega
 have h4:FE .i64 ((8 *n:Nat):Int) (ZB .i64 8 ((4:Nat):Int))=0:=by
  show Int.fdiv ((8 *n:Nat):Int) 4294967296=0
  rw[Int.fdiv_eq_ediv_of_nonneg _ (by decide)];omega
 rw[sG,sG];rw[show HO ((8 *n:Nat):Int) 5=0 by rw[HO,h5];rfl,show HO ((8 *n:Nat):Int) 4=0 by rw[HO,h4];rfl];rfl
def znX{n:Nat}(h:n≤1048576):ZB .i64 8 (n:Int)=((8 *n:Nat):Int):=by
 rw[show ZB .i64 8 (n:Int)=IntKind.wrap .i64 (8 *(n:Int))from rfl,WB (by omega) (by omega)];omega
def NU(n:Nat):(128 :: List.replicate (yF n) 0:List UInt8).length=yF n+1:=by simp
def zrJ(n:Nat)(hn:n≤1048576):Nl (n:Int)=some (GD n):=by
 have hz:yF n<64:=Nat.mod_lt _ (by decide);have hL:=GB;simp only[Nl,aA,decide_eq_false (p:=(n:Int)<0) (by omega),decide_eq_false (p:=(n:Int)>1048576) (by omega),cond_false];rw[zkT n hn];simp only[XB,UA (p:=wt (128 :: List.replicate (yF n) 0:List UInt8)+6≤bA) (by rw[FA,NU];omega),zea,znX hn];rw[UA (by rw[FA,List.length_append,NU,HN];omega),GD,List.append_assoc];rfl
def KS.ok{x}(_:xA [.v .int] x){r}:eN x=some r→Nl x=some r:=TA λh=>by
 obtain⟨n,hn⟩:=eG h.1;have hn:x=(n:Int):=hn;have h2:(x:Int)≤1048576:=h.2;subst hn;exact zrJ n (by omega)
def zrw(n:Nat)(hn:n≤1048576):Nc (n:Int)=some (GD n):=by
 have hz:yF n<64:=Nat.mod_lt _ (by decide);have hL:=GB;have JW:eA (n:Int) 0 1048576=true:=fD.2 ⟨by omega,by omega⟩;simp only[Nc,aA,JW,Bool.not_true,cond_false];rw[zkT n hn (λy1=>cond (decide (y1.length+[UInt8.ofNat (0:Int).toNat,UInt8.ofNat (0:Int).toNat].length≤bA)) (Option.bind (XB (y1++[UInt8.ofNat (0:Int).toNat,UInt8.ofNat (0:Int).toNat]) (ZB .i64 8 (n:Int)) 6) λr7=>some r7) none)];rw[GH (by rw[NU];simp;omega),cond_true,XB,UA (by rw[FA,List.length_append,NU];simp;omega),zxn,znX hn,zwx n hn,GD,List.append_assoc];rfl
def MS.ok{x}(_:xA [.v .int] x){r}:eN x=some r→Nc x=some r:=TA λh=>by
 obtain⟨n,hn⟩:=eG h.1;have hn:x=(n:Int):=hn;have h2:(x:Int)≤1048576:=h.2;subst hn;exact zrw n (by omega)
def zgS(n:Nat):(GD n).length=yF n+9:=by
 rw[GD,List.length_append,NU,List.length_append,HN];rfl
def ztg(n:Nat):(n+(GD n).length) % 64=0:=by
 rw[zgS];unfold yF;omega
def zbb.ok{x}(_:xA [] x):Sg=some BO:=rfl
def zs0(h:Be):Mt h=some (MG h):=by
 simp only[Mt,aA,cD,Bool.cond_false_right,MG,Bool.and_assoc]
def mR.ok{x}(_:xA [.v .Hash] x):Mt x=some (MG x):=zs0 x
def zj5{h:Be}(hk:MG h=true):FC h.H 8=true∧0≤h.N∧h.N≤1048576∧h.Held.length<64∧∃n:Nat,h.N=(n:Int)∧n % 64=h.Held.length:=by
 simp only[MG,Bool.and_eq_true,fD,beq_iff_eq]at hk;obtain⟨⟨h1,h2⟩,h3⟩:=hk;obtain⟨n,hn⟩:=eG h2.1;rw[hn,show zA .i64 (n:Int) 64=((n % 64:Nat):Int)from AS n 64]at h3;exact⟨h1,h2.1,h2.2,by omega,n,hn,by omega⟩
def zs5{h:List Int}(hw:FC h 8=true):decide (([]:List Int).length+h.length≤bA)=true:=by
 have:=(MK hw).1;rw[this];decide
def zdf(a b:List UInt8):([a,b]:List (List UInt8)).flatten=a++b:=by simp
def zdY(a b:List UInt8):wt ([a,b]:List (List UInt8))=a.length+b.length+2:=by
 rw[vD,vD,OG,FA,FA];omega
def zpc(h:Be)(b:List UInt8)(hk:MG h=true)(hb:(b.length:Int)≤1048576 - h.N):
  Nb h b=some ⟨OC h.H ((h.Held++b).length / 64) (h.Held++b),(h.Held++b).drop (64 *((h.Held++b).length / 64)),h.N+b.length⟩:=by
 obtain⟨hw,n0,n1,hl,_⟩:=zj5 hk;have hL:=GB;have l9:wt (h.Held++b)≤bA:=by rw[FA,List.length_append];omega
 have e1:sA .i64 1048576 h.N=1048576 - h.N:=by rw[sA,WB (by omega) (by omega)]
 have e2:iA .i64 h.N (b.length:Int)=h.N+b.length:=by rw[iA,WB (by omega) (by omega)]
 simp only[Nb,aA,hk,Bool.not_true,cond_false,e1,decide_eq_false (p:=(b.length:Int)>1048576 - h.N) (by omega),lD,UA (p:=wt ([h.Held,b]:List (List UInt8))≤bA) (by rw[zdY];omega),zdf,yT,
  UA (p:=wt h.H≤bA∧FC h.H 8=true∧wt (h.Held++b)≤bA) ⟨zec hw,hw,l9⟩,zs5 (WL ((h.Held++b).length / 64) h.H (h.Held++b) hw),cond_true,BA,UA (p:=wt ((h.Held++b).drop (64 *((h.Held++b).length / 64)))≤bA) (Nat.le_trans (uF _ _) l9),List.nil_append,e2]
def dR.ok{x}(_:xA [.v .Hash, .sl .byte] x){r}:zcW x.1 x.2=some r→Nb x.1 x.2=some r:=TA λh=>zpc x.1 x.2 h.1 h.2
def zph(h:Be)(hk:MG h=true):Nf h=some (rF (OC h.H ((h.Held++GD h.N.toNat).length / 64) (h.Held++GD h.N.toNat))):=by
 obtain⟨hw,n0,n1,hl,n,hn,_⟩:=zj5 hk;have hL:=GB;have hp:=zgS h.N.toNat;have hz:yF h.N.toNat<64:=Nat.mod_lt _ (by decide);have l9:wt (h.Held++GD h.N.toNat)≤bA:=by rw[FA,List.length_append];omega
 have hbw:=WL ((h.Held++GD h.N.toNat).length / 64) h.H (h.Held++GD h.N.toNat) hw
 simp only[Nf,hk,Bool.not_true,cond_false,eN,UA (p:=0≤h.N∧h.N≤1048576) ⟨n0,n1⟩,lD,UA (p:=wt ([h.Held,GD h.N.toNat]:List (List UInt8))≤bA) (by rw[zdY];omega),zdf,yT,
  UA (p:=wt h.H≤bA∧FC h.H 8=true∧wt (h.Held++GD h.N.toNat)≤bA) ⟨zec hw,hw,l9⟩,RK,UA (MK hbw).1]
def BQ.ok{x}(_:xA [.v .Hash] x){r}:zc4 x=some r→Nf x=some r:=TA λh=>zph x h
def zbA:FC EE 8=true:=by decide
def zwY:MG BO=true:=by decide
def zu7(b:List UInt8)(hb:b.length≤1048576):
  OC (OC EE (b.length / 64) b) ((b.drop (64 *(b.length / 64))++GD b.length).length / 64) (b.drop (64 *(b.length / 64))++GD b.length)=OC EE ((b++GD b.length).length / 64) (b++GD b.length):=by
 have hd:=zlj b.length;have h1:(b.drop (64 *(b.length / 64))++GD b.length).length=b.length - 64 *(b.length / 64)+(GD b.length).length:=by rw[List.length_append,List.length_drop]
 have h2:(b++GD b.length).length / 64=b.length / 64+(b.drop (64 *(b.length / 64))++GD b.length).length / 64:=by rw[h1,List.length_append];omega
 rw[h2,zkf,zjU _ _ _ _ hd,List.drop_append_of_le_length hd]
def zrB(b:List UInt8):Ng b=some (JE b):=by
 simp only[Ng,JE]
 by_cases h:(b.length:Int)>1048576
 ·rw[decide_eq_true h];rfl
 rw[decide_eq_false h];simp only[cond_false,zcW];rw[UA ⟨zwY,by show(b.length:Int)≤1048576 - 0;omega⟩];have e0:BO.Held++b=b:=rfl;have en:BO.N+(b.length:Int)=(b.length:Int):=Int.zero_add _;have eh:BO.H=EE:=rfl;rw[e0,en,eh];have hdl:=zlj b.length
 have BX:MG ⟨OC EE (b.length / 64) b,b.drop (64 *(b.length / 64)),(b.length:Int)⟩=true:=by
  simp only[MG,Bool.and_eq_true,fD,beq_iff_eq];refine⟨⟨WL _ _ _ zbA,by omega,by omega⟩,?_⟩;rw[show zA .i64 (b.length:Int) 64=((b.length % 64:Nat):Int)from AS _ 64,List.length_drop];omega
 rw[zc4,UA BX,Int.toNat_natCast,zu7 b (by omega)];rfl
def OS.ok{x}(_:xA [.sl .byte] x):Ng x=some (JE x):=zrB x
def zuZ(all:List UInt8)(hwa:wt all≤bA)(hm:64 *(all.length / 64)=all.length):uA FU (λ(x5:(List Int)×Int) k6=>cond (decide (x5.2<(all.length:Int)))
  (cond (decide (0≤x5.2)&&decide (x5.2≤(iA .i64 x5.2 64))&&decide ((iA .i64 x5.2 64)≤(all.length:Int))) (Option.bind (XK x5.1 (List.take ((iA .i64 x5.2 64 - x5.2).toNat) (List.drop x5.2.toNat all))) λr7=>k6 (r7,(iA .i64 x5.2 64))) none)
  (Option.bind (RK x5.1) λr8=>some r8)) (EE,0)=some (rF (OC EE (all.length / 64) all)):=by
 have hL:=GB;have hla:all.length≤bA:=by rw[←FA];exact hwa
 refine LH (g:=λ_=>some (rF (OC EE (all.length / 64) all))) (λx=>∃i:Nat,64 *i≤all.length∧x=(OC EE i all,((64 *i:Nat):Int))) (λx=>all.length - x.2.toNat) (λx hx k hk=>?_) (x:=(EE,0)) ⟨0,Nat.zero_le _,rfl⟩ (by show all.length - Int.toNat 0<2^64;simp;omega);obtain⟨i,hi,rfl⟩:=hx
 by_cases NV:64 *i<all.length
 ·have uY:64 *(i+1)≤all.length:=by omega
  have e1:iA .i64 ((64 *i:Nat):Int) 64=((64 *(i+1):Nat):Int):=by rw[iA,WB (by omega) (by omega)];omega
  have e2:(decide ((0:Int)≤((64 *i:Nat):Int))&&decide (((64 *i:Nat):Int)≤((64 *(i+1):Nat):Int))&&decide (((64 *(i+1):Nat):Int)≤(all.length:Int)))=true:=by simp;omega
  have e3:(((64 *(i+1):Nat):Int) - ((64 *i:Nat):Int)).toNat=64:=by omega
  have O1:=hk (OC EE (i+1) all,((64 *(i+1):Nat):Int)) ⟨i+1,uY,rfl⟩ (by simp only[Int.toNat_natCast];omega);rw[zfp]at O1;simp only[zD NV,cond_true,e1,e2,e3,Int.toNat_natCast,XK,UA (p:=wt (OC EE i all)≤bA∧wt ((all.drop (64 *i)).take 64)≤bA) ⟨zec (WL i EE all zbA),Nat.le_trans (VD _ _) (Nat.le_trans (uF _ _) hwa)⟩];exact O1
 ·have hi2:i=all.length / 64:=by omega
  have e1:decide (((64 *i:Nat):Int)<(all.length:Int))=false:=decide_eq_false (by omega);simp only[e1,cond_false,RK,UA (MK (WL i EE all zbA)).1, ←hi2]
def zrj(b:List UInt8):Ns b=some (JE b):=by
 have hL:=GB;simp only[Ns,aA,JE,List.nil_append]
 by_cases h:(b.length:Int)>1048576
 ·rw[decide_eq_true h];rfl
 rw[decide_eq_false h];have hp:=zgS b.length;have hz:yF b.length<64:=Nat.mod_lt _ (by decide);have hwh:=ztg b.length;have hal:(b++GD b.length).length=b.length+(GD b.length).length:=List.length_append;simp only[cond_false];rw[FO (show b.length≤bA by omega),cond_true,eN,UA ⟨by omega,by omega⟩,Int.toNat_natCast,GH (by omega),cond_true,zdV];exact zuZ (b++GD b.length) (by rw[FA];omega) (by omega)
def BS.ok{x}(_:xA [.sl .byte] x):Ns x=some (JE x):=zrj x
def zj3(b:List UInt8):(zdV b).length=32:=by
 rw[zdV,za2,(MK (WL _ EE _ zbA)).1]
def zaq(b:List UInt8):(JE b).length≤32:=by
 unfold JE;cases decide ((b.length:Int)>1048576)
 ·exact Nat.le_of_eq (zj3 b)
 ·exact Nat.zero_le _
def zvw{b:List UInt8}(h:b.length≤1048576):(JE b).length=32:=by
 rw[JE,decide_eq_false (by omega)];exact zj3 b
end Go.D
namespace Go.D
def zb8(l:List UInt8):uA FU (λ(x6:(List UInt8)) k7=>cond (decide ((x6.length:Int)<64)) (cond (decide (x6.length+[UInt8.ofNat (0:Int).toNat].length≤bA)) (k7 (x6++[UInt8.ofNat (0:Int).toNat])) none) (some x6)) l=some (zat l):=by
 have hL:=GB;refine LH (g:=λ_=>some (zat l)) (λx=>∃j:Nat,j≤64 - l.length∧x=l++List.replicate j 0) (λx=>64 - x.length) (λx hx k hk=>?_) ⟨0,Nat.zero_le _,by simp⟩ (by show 64 - l.length<2^64;omega);obtain⟨j,hj,rfl⟩:=hx;have LV:(l++List.replicate j (0:UInt8)).length=l.length+j:=by simp
 by_cases NV:l.length+j<64
 ·rw[decide_eq_true (p:=((l++List.replicate j (0:UInt8)).length:Int)<64) (by omega),cond_true,GH (by rw[LV];simp;omega),cond_true];refine hk _ ⟨j+1,by omega,?_⟩ (by simp;omega);rw[zkH,List.append_assoc, ←List.replicate_succ']
 ·rw[decide_eq_false (p:=((l++List.replicate j (0:UInt8)).length:Int)<64) (by omega),cond_false,zat];have:j=64 - l.length:=by omega
  rw[this]
def zo0(b:List UInt8):Nt b=some (kE b):=by
 have hL:=GB;simp only[Nt,aA,kE,List.nil_append]
 by_cases h:(b.length:Int)>1048576
 ·rw[decide_eq_true h];rfl
 rw[decide_eq_false h,FO (show b.length≤bA by omega)];simp only[cond_false,cond_true];cases decide ((b.length:Int)>64)
 ·exact zb8 b
 ·exact zb8 (JE b)
def dQ.ok{x}(_:xA [.sl .byte] x):Nt x=some (kE x):=zo0 x
def zoS(b:List UInt8):Nh b=some (kE b):=by
 have hL:=GB;simp only[Nh,aA,kE,BA]
 by_cases h:(b.length:Int)>1048576
 ·rw[decide_eq_true h];rfl
 rw[decide_eq_false h,UA (p:=wt b≤bA) (by rw[FA];omega)];simp only[cond_false];cases decide ((b.length:Int)>64)
 ·exact zb8 b
 ·exact zb8 (JE b)
def YP.ok{x}(_:xA [.sl .byte] x):Nh x=some (kE x):=zoS x
def zfl{b:List UInt8}(h:b.length≤1048576):(kE b).length=64:=by
 rw[kE,decide_eq_false (by omega),cond_false,zat,List.length_append,List.length_replicate];cases hd:decide ((b.length:Int)>64)
 ·have:=of_decide_eq_false hd;simp only[cond_false];omega
 ·have:=zaq b;simp only[cond_true];omega
def zpB(b:List UInt8)(x:UInt8)(h:wt b≤bA):Ni b x=some (SE b x):=by
 have hl:b.length≤bA:=by rw[←FA];exact h
 have hL:=GB;simp only[Ni,aA];refine jI (X:=List UInt8×Int) (λy=>y.2) (λi=>(SE (b.take i) x,(i:Int))) (λ_=>rfl) b.length (lE h) _ 0 (Nat.zero_le _) (λi k _ hi=>?_) (λk=>by simp only[WD,cond_false,List.take_length]);have e:SE (b.take (i+1)) x=SE (b.take i) x++[zhV b[i] x]:=by rw[SE,sM b hi,List.map_append];rfl
 have hml:(SE (b.take i) x).length=i:=by rw[SE,List.length_map,List.length_take];omega
 simp only[zD hi,cond_true,JB hi,kB,iI (i:=i) (by rw[yD];omega)];rw[GH (by rw[hml];simp;omega),cond_true,e];rfl
def ER.ok{x}(_:xA [.sl .byte, .v .byte] x){r}:FV x.1 x.2=some r→Ni x.1 x.2=some r:=TA λh=>zpB x.1 x.2 h
def VN(b:List UInt8)(x:UInt8):(SE b x).length=b.length:=List.length_map ..
def zqu(k b:List UInt8):Nj k b=some (ZC k b):=by
 have hL:=GB;simp only[Nj,aA,ZC]
 by_cases h1:(k.length:Int)>1048576
 ·rw[decide_eq_true h1];rfl
 by_cases h2:(b.length:Int)>1048512
 ·rw[decide_eq_false h1,decide_eq_true h2];rfl
 have hk:=zfl (b:=k) (by omega);rw[decide_eq_false h1,decide_eq_false h2];simp only[cond_false,Bool.or_false,FV,UA (p:=wt (kE k)≤bA) (by rw[FA];omega),lD];rw[UA (by rw[zdY,VN];omega),zdf,UA (by rw[zdY,VN];have:=zaq (SE (kE k) (UInt8.ofNat (54:Int).toNat)++b);omega),zdf];rfl
def eS.ok{x}(_:xA [.sl .byte, .sl .byte] x):Nj x.1 x.2=some (ZC x.1 x.2):=zqu x.1 x.2
def zAc{l:List UInt8}{i:Nat}(h:i<l.length):l[i]?=some l[i]:=List.getElem?_eq_getElem h
def zjG(b:List UInt8)(x:UInt8){i:Nat}(hi:i<b.length):SE (b.take (i+1)) x=SE (b.take i) x++[zhV b[i] x]:=by rw[SE,sM b hi,List.map_append];rfl
def zq3(k b:List UInt8):Nu k b=some (ZC k b):=by
 have hL:=GB;simp only[Nu,aA,ZC]
 by_cases h1:(k.length:Int)>1048576
 ·rw[decide_eq_true h1];rfl
 by_cases h2:(b.length:Int)>1048512
 ·rw[decide_eq_false h1,decide_eq_true h2];rfl
 have hk:=zfl (b:=k) (by omega);rw[decide_eq_false h1,decide_eq_false h2];simp only[cond_false,Bool.or_false];refine jI (X:=List UInt8×List UInt8×Int) (λy=>y.2.2) (λi=>(SE ((kE k).take i) 54,SE ((kE k).take i) 92,(i:Int))) (λ_=>rfl) 64 (by decide) _ 0 (Nat.zero_le _) (λi kk _ hi=>?_) (λkk=>?_)
 ·have m9:i<(kE k).length:=by omega
  have m1:(SE ((kE k).take i) 54).length=i:=by rw[VN,List.length_take];omega
  have m2:(SE ((kE k).take i) 92).length=i:=by rw[VN,List.length_take];omega
  simp only[decide_eq_true (p:=(i:Int)<64) (by omega),cond_true,OF m9,Int.toNat_natCast,zAc m9,kB,iI (i:=i) (by rw[yD];omega)];rw[GH (by rw[m1];simp;omega),cond_true,GH (by rw[m2];simp;omega),cond_true,zjG _ _ m9,zjG _ _ m9];rfl
 ·have ht:(kE k).take 64=kE k:=List.take_of_length_le (by omega);simp only[show((64:Nat):Int)=64 from rfl,show decide ((64:Int)<64)=false from rfl,cond_false,ht];have hs:=zaq (SE (kE k) 54++b);rw[GH (by rw[VN];omega),cond_true,GH (by rw[VN];omega),cond_true]
def lS.ok{x}(_:xA [.sl .byte, .sl .byte] x):Nu x.1 x.2=some (ZC x.1 x.2):=zq3 x.1 x.2
def EH{k b:List UInt8}(h1:k.length≤1048576)(h2:b.length≤1048512):(ZC k b).length=32:=by
 rw[ZC,decide_eq_false (by omega),decide_eq_false (by omega)];simp only[Bool.or_false,cond_false];refine zvw ?_;have:=zaq (SE (kE k) 54++b);rw[List.length_append,VN,zfl h1];omega
def yV(n:Int):(DD WM n 4).length=8:=by rw[zea,List.length_append,HN];rfl
def zpE(s:List UInt8)(n:Int):Nk s n=some (AD s n):=by
 have hL:=GB;simp only[Nk,aA,AD];cases h1:eA (s.length:Int) 1 32
 ·rfl
 cases h2:eA n 0 10000
 ·rfl
 have h1:=fD.1 h1;have hh:=EH (k:=s) (b:=DD WM n 4) (by omega) (by rw[yV];omega);simp only[Bool.not_true,cond_false,Bool.and_true,cond_true,XB];rw[UA (by rw[FA];simp;omega)];have hr:[UInt8.ofNat (114:Int).toNat,UInt8.ofNat (111:Int).toNat,UInt8.ofNat (108:Int).toNat,UInt8.ofNat (108:Int).toNat]=WM:=rfl;rw[hr,show(decide ((0:Int)≤0)&&decide ((0:Int)≤12)&&decide (12≤((ZC s (DD WM n 4)).length:Int)))=true by rw[hh];rfl,cond_true,List.drop_zero,BA,UA (by rw[FA,List.length_take];omega)]
def CR.ok{x}(_:xA [.sl .byte, .v .int] x):Nk x.1 x.2=some (AD x.1 x.2):=zpE x.1 x.2
def zpU(s:List UInt8)(n:Int):Nv s n=some (AD s n):=by
 have hL:=GB;simp only[Nv,aA,AD];cases h1:eA (s.length:Int) 1 32
 ·rfl
 cases h2:eA n 0 10000
 ·rfl
 have h1:=fD.1 h1;have hh:=EH (k:=s) (b:=DD WM n 4) (by omega) (by rw[yV];omega);simp only[Bool.not_true,cond_false,Bool.and_true,cond_true,XB];rw[UA (by rw[FA];simp;omega)];have hr:[UInt8.ofNat (114:Int).toNat,UInt8.ofNat (111:Int).toNat,UInt8.ofNat (108:Int).toNat,UInt8.ofNat (108:Int).toNat]=WM:=rfl;rw[hr,show(decide ((0:Int)≤0)&&decide ((0:Int)≤12)&&decide (12≤((ZC s (DD WM n 4)).length:Int)))=true by rw[hh];rfl,cond_true,List.drop_zero,FO (by rw[List.length_take];omega),cond_true,List.nil_append]
def oR.ok{x}(_:xA [.sl .byte, .v .int] x):Nv x.1 x.2=some (AD x.1 x.2):=zpU x.1 x.2
end Go.D
