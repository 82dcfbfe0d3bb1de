/-
 Sizes of the program's data.
-/
import Derived.Test.YthmhafeaiaigoaaGreatN5
set_option linter.all false
namespace Go.D
end Go.D
namespace Go.D
noncomputable section
def NO(n:Int)(i:Nat):UInt8:=UInt8.ofNat (IntKind.wrap .u8 (PB .i64 (GE .i64 n (OB .i64 8 (i:Int))) 255)).toNat
def rG(n:Int):Nat→List UInt8
 | 0=>[]
 | i+1=>NO n i :: rG n i
def FD(b:List UInt8)(n k:Int):List UInt8:=bif decide (k<1)||decide (k>6)then b else b++rG n k.toNat
def YB(b:List UInt8)(n k:Int):Option (List UInt8):=pt (wt b+6≤bA) (FD b n k)
def MG(l:List UInt8):Int:=l.foldl (λn x=>iA .i64 (OB .i64 n 256) (IntKind.wrap .i64 ((x.toNat:Nat):Int))) 0
def sH(b:List UInt8)(at_ k:Int):Int×Int×Bool:=bif decide (k<1)||(decide (k>6)||(decide (at_<0)||decide (at_>(b.length:Int) - k)))then(0,0,false)else(MG ((b.drop at_.toNat).take k.toNat),iA .i64 at_ k,true)
def mH(b:List UInt8)(at_ k:Int):Option (Int×Int×Bool):=pt (wt b≤bA) (sH b at_ k)
def cut(b:List UInt8)(f n:Int):List UInt8×Bool:=bif decide (f<0)||(decide (n<0)||(decide (f>(b.length:Int))||decide (n>(b.length:Int) - f)))then([],false)else((b.drop f.toNat).take n.toNat,true)
def yJ(b:List UInt8)(f n:Int):Option (List UInt8×Bool):=pt (wt b≤bA) (cut b f n)
def BA(b:List UInt8):Option (List UInt8):=pt (wt b≤bA) b
def mD(l:List (List UInt8)):Option (List UInt8):=pt (wt l≤bA) l.flatten
def qE(a:Int):Int:=PB .i64 a 4294967295
def kG(x n:Int):Int:=qE (zK .i64 (GE .i64 (qE x) n) (wJ .i64 (qE x) (sA .i64 32 n)))
def pE(x n:Int):Option Int:=pt (1≤n∧n≤31) (kG x n)
def UF(a b:Int):Int:=qE (iA .i64 a b)
def EE:List Int:=[1779033703,3144134277,1013904242,2773480762,1359893119,2600822924,528734635,1541459225]
def vI:List Int:=[1116352408,1899447441,3049323471,3921009573,961987163,1508970993,2453635748,2870763221,3624381080,310598401,607225278,1426881987,1925078388,2162078206,2614888103,3248222580,3835390401,4022224774,264347078,604807628,770255983,1249150122,1555081692,1996064986,2554220882,2821834349,2952996808,3210313671,3336571891,3584528711,113926993,338241895,666307205,773529912,1294757372,1396182291,1695183700,1986661051,2177026350,2456956037,2730485921,2820302411,3259730800,3345764771,3516065817,3600352804,4094571909,275423344,430227734,506948616,659060556,883997877,958139571,1322822218,1537002063,1747873779,1955562222,2024104815,2227730452,2361852424,2428436474,2756734187,3204031479,3329325298]
def tM(i:Int):Int:=if 0≤i∧i≤63 then vI.getD i.toNat 0 else 0
def sM(b:List UInt8)(w:List Int)(i:Nat):Int:=if i<16 then(sH b (4 *i:Nat) 4).1 else
 let x:=w.getD (i - 15) 0;let y:=w.getD (i - 2) 0
 qE (iA .i64 (iA .i64 (iA .i64 (w.getD (i - 7) 0) (w.getD (i - 16) 0)) (BB .i64 (BB .i64 (kG x 7) (kG x 18)) (GE .i64 x 3))) (BB .i64 (BB .i64 (kG y 17) (kG y 19)) (GE .i64 y 10)))
def ED(b:List UInt8):Nat→List Int
 | 0=>[]
 | i+1=>ED b i++[sM b (ED b i) i]
def NC(b:List UInt8):List Int:=if b.length=64 then ED b 64 else[]
def mM(b:List UInt8):Option (List Int):=pt (wt b≤bA) (NC b)
abbrev S8:=Int×Int×Int×Int×Int×Int×Int×Int
def rT(k w:Int)(s:S8):Int:=
 iA .i64 (iA .i64 (iA .i64 (iA .i64 s.2.2.2.2.2.2.2 (BB .i64 (BB .i64 (kG s.2.2.2.2.1 6) (kG s.2.2.2.2.1 11)) (kG s.2.2.2.2.1 25)))
  (BB .i64 (PB .i64 s.2.2.2.2.1 s.2.2.2.2.2.1) (PB .i64 (BB .i64 s.2.2.2.2.1 4294967295) s.2.2.2.2.2.2.1))) k) w
def rU(s:S8):Int:=iA .i64 (BB .i64 (BB .i64 (kG s.1 2) (kG s.1 13)) (kG s.1 22)) (BB .i64 (BB .i64 (PB .i64 s.1 s.2.1) (PB .i64 s.1 s.2.2.1)) (PB .i64 s.2.1 s.2.2.1))
def zdY(l:List Int):Bool:=FC l 8
def zep(k w:Int)(s:S8):S8:=(qE (iA .i64 (qE (rT k w s)) (qE (rU s))),s.1,s.2.1,s.2.2.1,qE (iA .i64 s.2.2.2.1 (qE (rT k w s))),s.2.2.2.2.1,s.2.2.2.2.2.1,s.2.2.2.2.2.2.1)
def rounds(w:List Int)(s:S8):Nat→S8
 | 0=>s
 | i+1=>zep (vI.getD i 0) (w.getD i 0) (rounds w s i)
def rE(h:List Int):S8:=(h.getD 0 0,h.getD 1 0,h.getD 2 0,h.getD 3 0,h.getD 4 0,h.getD 5 0,h.getD 6 0,h.getD 7 0)
def OH(s:S8):List Int:=[s.1,s.2.1,s.2.2.1,s.2.2.2.1,s.2.2.2.2.1,s.2.2.2.2.2.1,s.2.2.2.2.2.2.1,s.2.2.2.2.2.2.2]
def zF(h:List Int)(b:List UInt8):List Int:=List.zipWith UF h (OH (rounds (NC b) (rE h) 64))
def fL(h:List Int)(b:List UInt8):List Int:=bif FC h 8&&b.length==64 then zF h b else h
def WK(h:List Int)(b:List UInt8):Option (List Int):=pt (wt h≤bA∧wt b≤bA) (fL h b)
def PC(h:List Int):Nat→List UInt8→List Int
 | 0,_=>h
 | n+1,b=>PC (fL h (b.take 64)) n (b.drop 64)
def yT(h:List Int)(b:List UInt8):Option (List Int×List UInt8):=pt (wt h≤bA∧FC h 8=true∧wt b≤bA) (PC h (b.length / 64) b,b.drop (64 *(b.length / 64)))
def sF(h:List Int):List UInt8:=h.flatMap λx=>rG x 4
def QK(h:List Int):Option (List UInt8):=pt (h.length=8) (sF h)
def wF(n:Nat):Nat:=(119 - n % 64) % 64
def HD(n:Nat):List UInt8:=(128 :: List.replicate (wF n) 0)++([0,0,0,0]++rG ((8 *n:Nat):Int) 4)
def ZM(n:Int):Option (List UInt8):=pt (0≤n∧n≤1048576) (HD n.toNat)
def zd8(b:List UInt8):List UInt8:=sF (PC EE ((b++HD b.length).length / 64) (b++HD b.length))
def JE(b:List UInt8):List UInt8:=bif decide ((b.length:Int)>1048576)then[]else zd8 b
def OG(h:Be):Bool:=FC h.H 8&&eA h.N 0 1048576&&zA .i64 h.N 64==(h.Held.length:Int)
def zdl(h:Be)(b:List UInt8):Option Be:=pt (OG h=true∧(b.length:Int)≤1048576 - h.N) ⟨PC h.H ((h.Held++b).length / 64) (h.Held++b),(h.Held++b).drop (64 *((h.Held++b).length / 64)),h.N+b.length⟩
def zc6(h:Be):Option (List UInt8):=pt (OG h=true) (sF (PC h.H ((h.Held++HD h.N.toNat).length / 64) (h.Held++HD h.N.toNat)))
def JO:Be:=⟨EE,[],0⟩
def zaE(l:List UInt8):List UInt8:=l++List.replicate (64 - l.length) 0
def kE(k:List UInt8):List UInt8:=bif decide ((k.length:Int)>1048576)then[]else zaE (bif decide ((k.length:Int)>64)then JE k else k)
def zhA(x y:UInt8):UInt8:=UInt8.ofNat (BB .u8 ((x.toNat:Nat):Int) ((y.toNat:Nat):Int)).toNat
def TE(b:List UInt8)(x:UInt8):List UInt8:=b.map λy=>zhA y x
def zak(b:List UInt8)(x:UInt8):Option (List UInt8):=pt (wt b≤bA) (TE b x)
def ZC(k b:List UInt8):List UInt8:=bif decide ((k.length:Int)>1048576)||decide ((b.length:Int)>1048512)then[]else JE (TE (kE k) 92++JE (TE (kE k) 54++b))
def iN:List UInt8:=[114,111,108,108]
def CD(s:List UInt8)(n:Int):List UInt8:=bif eA (s.length:Int) 1 32&&eA n 0 10000 then(ZC s (FD iN n 4)).take 12 else[]
end
end Go.D
namespace Go.D
open Option renaming bind→ob
noncomputable section
def Sf(a0:List UInt8):=
 cond (decide (([]:List UInt8).length+a0.length≤bA)) (some ([]++a0)) none
def Mt(a0:List UInt8)(a1:Int)(a2:Int):=
 cond (decide (([]:List UInt8).length+a0.length≤bA)) (aA (λy1=>
 cond (y1)
 (some ([]++a0))
 (aA (λ(y3:(List UInt8))=>
 some y3) λk4=>
 tA FU (λ(x5:(List UInt8)×Int) k6=>
 cond (decide (x5.2≥0))
 (cond (decide ((OB .i64 8 x5.2)<0)) none (let x7:Int:=PB .i64 (GE .i64 a1 (OB .i64 8 x5.2)) 255
 cond (decide (x5.1.length+[UInt8.ofNat (IntKind.wrap .u8 x7:Int).toNat].length≤bA)) (k6 ((x5.1++[UInt8.ofNat (IntKind.wrap .u8 x7:Int).toNat]),(sA .i64 x5.2 1))) none))
 (k4 x5.1)) (([]++a0),(sA .i64 a2 1)))) λk2=>
 cond (decide (a2<1))
 (k2 true)
 (k2 (decide (a2>6)))) none
def Sg:=
 let x1:List Int:=[1779033703,3144134277,1013904242,2773480762,1359893119,2600822924,528734635,1541459225]
 some x1
def Sh:=
 let r1:(List Int):=EE
 some (⟨r1,[],0⟩:Be)
def Mu(a0:Be):=
 aA (λ(y1:Bool)=>
 some y1) λk2=>
 cond ((FC a0.H 8))
 (cond ((eA a0.N 0 1048576))
 (k2 ((zA .i64 a0.N 64)==(a0.Held.length:Int)))
 (k2 false))
 (k2 false)
def Mv(a0:List (List UInt8)):=
 aA (λ(y1:(List UInt8))=>
 some y1) λk2=>
 tA FU (λ(x3:(List UInt8)×Int) k4=>
 cond (decide (x3.2<(a0.length:Int)))
 (ob (kA a0 x3.2) λe5=>
 cond (decide (x3.1.length+e5.length≤bA)) (k4 ((x3.1++e5),(iA .i64 x3.2 1))) none)
 (k2 x3.1)) ([],0)
def Mw(a0:List UInt8)(a1:Int)(a2:Int):=
 aA (λy1=>
 cond (y1)
 (some ([],false))
 (cond (decide (0≤a1)&&decide (a1≤(iA .i64 a1 a2))&&decide ((iA .i64 a1 a2)≤(a0.length:Int))) (let l3:List UInt8:=List.take ((iA .i64 a1 a2 - a1).toNat) (List.drop a1.toNat a0)
 cond (decide (([]:List UInt8).length+l3.length≤bA)) (some ([]++l3,true)) none) none)) λk2=>
 cond (decide (a1<0))
 (k2 true)
 (cond (decide (a2<0))
 (k2 true)
 (cond (decide (a1>(a0.length:Int)))
 (k2 true)
 (k2 (decide (a2>(sA .i64 (a0.length:Int) a1))))))
def Mx(a0:List UInt8)(a1:Int)(a2:Int):=
 aA (λy1=>
 cond (y1)
 (some (0,0,false))
 (ob (yJ a0 a1 a2) λr3=>
 cond (!r3.2)
 (some (0,0,false))
 (aA (λ(y4:Int)=>
 some (y4,iA .i64 a1 a2,true)) λk5=>
 tA FU (λ(x6:Int×Int) k7=>
 cond (decide (x6.2<(r3.1.length:Int)))
 (cond (decide (0≤x6.2)&&decide (x6.2<(r3.1.length:Int))) (ob (r3.1[x6.2.toNat]?) λe8=>
 let x9:Int:=IntKind.wrap .i64 ((e8.toNat:Nat):Int)
 k7 ((iA .i64 (OB .i64 256 x6.1) x9),(iA .i64 x6.2 1))) none)
 (k5 x6.1)) (0,0)))) λk2=>
 cond (decide (a2<1))
 (k2 true)
 (k2 (decide (a2>6)))
def My(a0:Int)(a1:Int):=
 aA (λy1=>
 cond (y1)
 (some (PB .i64 a0 4294967295))
 (cond (decide (a1<0)) none (cond (decide ((sA .i64 32 a1)<0)) none (let x3:Int:=wJ .i64 (PB .i64 a0 4294967295) (sA .i64 32 a1)
 let x4:Int:=zK .i64 (GE .i64 (PB .i64 a0 4294967295) a1) x3
 some (PB .i64 x4 4294967295))))) λk2=>
 cond (decide (a1<0))
 (k2 true)
 (k2 (decide (a1>31)))
def Mz(a0:List UInt8):=
 cond ((a0.length:Int) !=64)
 (some [])
 (aA (λ(y1:(List Int))=>
 aA (λ(y7:(List Int))=>
 some y7) λk8=>
 tA FU (λ(x9:Int×(List Int)) k10=>
 cond (decide (x9.1<64))
 (cond (decide (0≤sA .i64 x9.1 15)&&decide (sA .i64 x9.1 15<(x9.2.length:Int))) (ob (x9.2[(sA .i64 x9.1 15).toNat]?) λe11=>
 cond (decide (0≤sA .i64 x9.1 2)&&decide (sA .i64 x9.1 2<(x9.2.length:Int))) (ob (x9.2[(sA .i64 x9.1 2).toNat]?) λe12=>
 ob (pE e11 7) λr13=>
 ob (pE e11 18) λr14=>
 let x15:Int:=BB .i64 (BB .i64 r13 r14) (GE .i64 e11 3)
 ob (pE e12 17) λr16=>
 ob (pE e12 19) λr17=>
 let x18:Int:=BB .i64 (BB .i64 r16 r17) (GE .i64 e12 10)
 cond (decide (0≤sA .i64 x9.1 7)&&decide (sA .i64 x9.1 7<(x9.2.length:Int))) (ob (x9.2[(sA .i64 x9.1 7).toNat]?) λe19=>
 cond (decide (0≤sA .i64 x9.1 16)&&decide (sA .i64 x9.1 16<(x9.2.length:Int))) (ob (x9.2[(sA .i64 x9.1 16).toNat]?) λe20=>
 let x21:Int:=iA .i64 (iA .i64 (iA .i64 e19 e20) x15) x18
 cond (decide (0≤x9.1)&&decide (x9.1<(x9.2.length:Int))) (ob (x9.2[x9.1.toNat]?) λe22=>
 k10 ((iA .i64 x9.1 1),(List.set x9.2 x9.1.toNat (PB .i64 x21 4294967295)))) none) none) none) none) none)
 (k8 x9.2)) (16,y1)) λk2=>
 tA FU (λ(x3:Int×(List Int)) k4=>
 cond (decide (x3.1<16))
 (ob (mH a0 (OB .i64 4 x3.1) 4) λr5=>
 cond (decide (0≤x3.1)&&decide (x3.1<(x3.2.length:Int))) (ob (x3.2[x3.1.toNat]?) λe6=>
 k4 ((iA .i64 x3.1 1),(List.set x3.2 x3.1.toNat r5.1))) none)
 (k2 x3.2)) (0,(List.replicate (64:Int).toNat (0:Int))))
def Ki(a0:Int):Option Int:=
 aA (λy1=>
 cond (y1)
 (some 0)
 (cond (a0==(0:Int)) (some 1116352408) (cond (a0==(1:Int)) (some 1899447441) (cond (a0==(2:Int)) (some 3049323471) (cond (a0==(3:Int)) (some 3921009573) (cond (a0==(4:Int)) (some 961987163) (cond (a0==(5:Int)) (some 1508970993) (cond (a0==(6:Int)) (some 2453635748) (cond (a0==(7:Int)) (some 2870763221) (cond (a0==(8:Int)) (some 3624381080) (cond (a0==(9:Int)) (some 310598401) (cond (a0==(10:Int)) (some 607225278) (cond (a0==(11:Int)) (some 1426881987) (cond (a0==(12:Int)) (some 1925078388) (cond (a0==(13:Int)) (some 2162078206) (cond (a0==(14:Int)) (some 2614888103) (cond (a0==(15:Int)) (some 3248222580) (cond (a0==(16:Int)) (some 3835390401) (cond (a0==(17:Int)) (some 4022224774) (cond (a0==(18:Int)) (some 264347078) (cond (a0==(19:Int)) (some 604807628) (cond (a0==(20:Int)) (some 770255983) (cond (a0==(21:Int)) (some 1249150122) (cond (a0==(22:Int)) (some 1555081692) (cond (a0==(23:Int)) (some 1996064986) (cond (a0==(24:Int)) (some 2554220882) (cond (a0==(25:Int)) (some 2821834349) (cond (a0==(26:Int)) (some 2952996808) (cond (a0==(27:Int)) (some 3210313671) (cond (a0==(28:Int)) (some 3336571891) (cond (a0==(29:Int)) (some 3584528711) (cond (a0==(30:Int)) (some 113926993) (cond (a0==(31:Int)) (some 338241895) (cond (a0==(32:Int)) (some 666307205) (cond (a0==(33:Int)) (some 773529912) (cond (a0==(34:Int)) (some 1294757372) (cond (a0==(35:Int)) (some 1396182291) (cond (a0==(36:Int)) (some 1695183700) (cond (a0==(37:Int)) (some 1986661051) (cond (a0==(38:Int)) (some 2177026350) (cond (a0==(39:Int)) (some 2456956037) (cond (a0==(40:Int)) (some 2730485921) (cond (a0==(41:Int)) (some 2820302411) (cond (a0==(42:Int)) (some 3259730800) (cond (a0==(43:Int)) (some 3345764771) (cond (a0==(44:Int)) (some 3516065817) (cond (a0==(45:Int)) (some 3600352804) (cond (a0==(46:Int)) (some 4094571909) (cond (a0==(47:Int)) (some 275423344) (cond (a0==(48:Int)) (some 430227734) (cond (a0==(49:Int)) (some 506948616) (cond (a0==(50:Int)) (some 659060556) (cond (a0==(51:Int)) (some 883997877) (cond (a0==(52:Int)) (some 958139571) (cond (a0==(53:Int)) (some 1322822218) (cond (a0==(54:Int)) (some 1537002063) (cond (a0==(55:Int)) (some 1747873779) (cond (a0==(56:Int)) (some 1955562222) (cond (a0==(57:Int)) (some 2024104815) (cond (a0==(58:Int)) (some 2227730452) (cond (a0==(59:Int)) (some 2361852424) (cond (a0==(60:Int)) (some 2428436474) (cond (a0==(61:Int)) (some 2756734187) (cond (a0==(62:Int)) (some 3204031479) (cond (a0==(63:Int)) (some 3329325298) (none)))))))))))))))))))))))))))))))))))))))))))))))))))))))))))))))))) λk2=>
 cond (decide (a0<0))
 (k2 true)
 (k2 (decide (a0>63)))
def Si(a0:Int)(a1:Int):=
 some (PB .i64 (iA .i64 a0 a1) 4294967295)
def Na(a0:List Int)(a1:List UInt8):=
 cond (decide (([]:List Int).length+a0.length≤bA)) (aA (λy1=>
 cond (y1)
 (some ([]++a0))
 (ob (mM a1) λr3=>
 ob (kA a0 0) λe4=>
 ob (kA a0 1) λe5=>
 ob (kA a0 2) λe6=>
 ob (kA a0 3) λe7=>
 ob (kA a0 4) λe8=>
 ob (kA a0 5) λe9=>
 ob (kA a0 6) λe10=>
 ob (kA a0 7) λe11=>
 aA (λ(y12:Int×Int×Int×Int×Int×Int×Int×Int)=>
 let x31:List Int:=[y12.1,y12.2.1,y12.2.2.1,y12.2.2.2.1,y12.2.2.2.2.1,y12.2.2.2.2.2.1,y12.2.2.2.2.2.2.1,y12.2.2.2.2.2.2.2]
 aA (λ(y32:(List Int))=>
 some y32) λk33=>
 tA FU (λ(x34:Int×(List Int)) k35=>
 cond (decide (x34.1<(x31.length:Int)))
 (cond (decide (0≤x34.1)&&decide (x34.1<(x31.length:Int))) (ob (x31[x34.1.toNat]?) λe36=>
 ob (kA a0 x34.1) λe37=>
 cond (decide (0≤x34.1)&&decide (x34.1<(x34.2.length:Int))) (ob (x34.2[x34.1.toNat]?) λe38=>
 k35 ((iA .i64 x34.1 1),(List.set x34.2 x34.1.toNat (UF e37 e36)))) none) none)
 (k33 x34.2)) (0,([]++a0))) λk13=>
 tA FU (λ(x14:Int×Int×Int×Int×Int×Int×Int×Int×Int) k15=>
 cond (decide (x14.2.2.2.2.2.2.2.2<64))
 (let x16:Int:=PB .i64 (BB .i64 4294967295 x14.2.2.2.2.1) x14.2.2.2.2.2.2.1
 let x17:Int:=BB .i64 (PB .i64 x14.2.2.2.2.1 x14.2.2.2.2.2.1) x16;let x18:Int:=BB .i64 (PB .i64 x14.1 x14.2.1) (PB .i64 x14.1 x14.2.2.1);let x19:Int:=BB .i64 x18 (PB .i64 x14.2.1 x14.2.2.1)
 ob (pE x14.2.2.2.2.1 6) λr20=>
 ob (pE x14.2.2.2.2.1 11) λr21=>
 ob (pE x14.2.2.2.2.1 25) λr22=>
 let x23:Int:=iA .i64 x14.2.2.2.2.2.2.2.1 (BB .i64 (BB .i64 r20 r21) r22);let x24:Int:=iA .i64 (iA .i64 x23 x17) (tM x14.2.2.2.2.2.2.2.2)
 cond (decide (0≤x14.2.2.2.2.2.2.2.2)&&decide (x14.2.2.2.2.2.2.2.2<(r3.length:Int))) (ob (r3[x14.2.2.2.2.2.2.2.2.toNat]?) λe25=>
 ob (pE x14.1 2) λr26=>
 ob (pE x14.1 13) λr27=>
 ob (pE x14.1 22) λr28=>
 let x29:Int:=iA .i64 (BB .i64 (BB .i64 r26 r27) r28) x19;let r30:Int:=UF x14.2.2.2.1 (iA .i64 x24 e25)
 k15 ((UF (iA .i64 x24 e25) x29),x14.1,x14.2.1,x14.2.2.1,r30,x14.2.2.2.2.1,x14.2.2.2.2.2.1,x14.2.2.2.2.2.2.1,(iA .i64 x14.2.2.2.2.2.2.2.2 1))) none)
 (k13 (x14.1,x14.2.1,x14.2.2.1,x14.2.2.2.1,x14.2.2.2.2.1,x14.2.2.2.2.2.1,x14.2.2.2.2.2.2.1,x14.2.2.2.2.2.2.2.1))) (e4,e5,e6,e7,e8,e9,e10,e11,0))) λk2=>
 cond (!(FC a0 8))
 (k2 true)
 (k2 ((a1.length:Int) !=64))) none
def Nb(a0:List Int)(a1:List UInt8):=
 aA (λ(y1:(List Int)×(List UInt8))=>
 some (y1.1,y1.2)) λk2=>
 tA FU (λ(x3:(List Int)×(List UInt8)) k4=>
 cond (decide ((x3.2.length:Int)≥64))
 (cond (decide (0≤(0:Int))&&decide ((0:Int)≤64)&&decide (64≤(x3.2.length:Int))) (let l5:List UInt8:=List.take 64 (List.drop 0 x3.2)
 ob (WK x3.1 l5) λr6=>
 cond (decide (0≤(64:Int))&&decide ((64:Int)≤(x3.2.length:Int))&&decide ((x3.2.length:Int)≤(x3.2.length:Int))) (let l7:List UInt8:=List.take (((x3.2.length:Int) - 64).toNat) (List.drop 64 x3.2)
 k4 (r6,l7)) none) none)
 (k2 (x3.1,x3.2))) (a0,a1)
def Nc(a0:Be)(a1:List UInt8):=
 aA (λy1=>
 cond (y1)
 (cond (decide (([]:List Int).length+a0.H.length≤bA)) (ob (BA a0.Held) λr3=>
 some (⟨[]++a0.H,r3,a0.N⟩:Be)) none)
 (ob (mD [a0.Held,a1]) λr4=>
 ob (yT a0.H r4) λr5=>
 cond (decide (([]:List Int).length+r5.1.length≤bA)) (ob (BA r5.2) λr6=>
 some (⟨[]++r5.1,r6,iA .i64 a0.N (a1.length:Int)⟩:Be)) none)) λk2=>
 cond (!(OG a0))
 (k2 true)
 (k2 (decide ((a1.length:Int)>(sA .i64 1048576 a0.N))))
def Nd(a0:Int):=
 cond (!(eA a0 0 1048576))
 (some [])
 (aA (λ(y1:(List UInt8))=>
 cond (decide (y1.length+[UInt8.ofNat (0:Int).toNat,UInt8.ofNat (0:Int).toNat].length≤bA)) (let x6:List UInt8:=y1++[UInt8.ofNat (0:Int).toNat,UInt8.ofNat (0:Int).toNat]
 ob (YB x6 (OB .i64 8 a0) 6) λr7=>
 some r7) none) λk2=>
 tA FU (λ(x3:(List UInt8)) k4=>
 let x5:Int:=iA .i64 (iA .i64 a0 (x3.length:Int)) 8
 cond ((zA .i64 x5 64) !=0)
 (cond (decide (x3.length+[UInt8.ofNat (0:Int).toNat].length≤bA)) (k4 (x3++[UInt8.ofNat (0:Int).toNat])) none)
 (k2 x3)) [UInt8.ofNat (128:Int).toNat])
def Nf(a0:List Int):=
 aA (λ(y1:(List UInt8))=>
 some y1) λk2=>
 tA FU (λ(x3:(List UInt8)×Int) k4=>
 cond (decide (x3.2<(a0.length:Int)))
 (ob (kA a0 x3.2) λe5=>
 ob (YB x3.1 e5 4) λr6=>
 k4 (r6,(iA .i64 x3.2 1)))
 (k2 x3.1)) ([],0)
def Ng(a0:Be):=
 cond (!(OG a0))
 (some [])
 (ob (ZM a0.N) λr1=>
 ob (mD [a0.Held,r1]) λr2=>
 ob (yT a0.H r2) λr3=>
 ob (QK r3.1) λr4=>
 some r4)
def Nh(a0:List UInt8):=
 cond (decide ((a0.length:Int)>1048576))
 (some [])
 (let r1:Be:=JO
 ob (zdl r1 a0) λr2=>
 ob (zc6 r2) λr3=>
 some r3)
def Ni(a0:List UInt8):=
 cond (decide ((a0.length:Int)>1048576))
 (some [])
 (ob (BA a0) λr1=>
 aA (λ(y2:(List UInt8))=>
 aA (λ(y5:(List UInt8))=>
 some y5) λk6=>
 tA FU (λ(x7:(List UInt8)) k8=>
 cond (decide ((x7.length:Int)<64))
 (cond (decide (x7.length+[UInt8.ofNat (0:Int).toNat].length≤bA)) (k8 (x7++[UInt8.ofNat (0:Int).toNat])) none)
 (k6 x7)) y2) λk3=>
 cond (decide ((a0.length:Int)>64))
 (let r4:(List UInt8):=JE a0
 k3 r4)
 (k3 r1))
def Nj(a0:List UInt8)(a1:UInt8):=
 aA (λ(y1:(List UInt8))=>
 some y1) λk2=>
 tA FU (λ(x3:(List UInt8)×Int) k4=>
 cond (decide (x3.2<(a0.length:Int)))
 (ob (kA a0 x3.2) λe5=>
 let x6:Int:=BB .u8 ((e5.toNat:Nat):Int) ((a1.toNat:Nat):Int)
 cond (decide (x3.1.length+[UInt8.ofNat (x6:Int).toNat].length≤bA)) (k4 ((x3.1++[UInt8.ofNat (x6:Int).toNat]),(iA .i64 x3.2 1))) none)
 (k2 x3.1)) ([],0)
def Nk(a0:List UInt8)(a1:List UInt8):=
 aA (λy1=>
 cond (y1)
 (some [])
 (let r3:(List UInt8):=kE a0
 ob (zak r3 (UInt8.ofNat (92:Int).toNat)) λr4=>
 ob (zak r3 (UInt8.ofNat (54:Int).toNat)) λr5=>
 ob (mD [r5,a1]) λr6=>
 let r7:(List UInt8):=JE r6
 ob (mD [r4,r7]) λr8=>
 let r9:(List UInt8):=JE r8
 some r9)) λk2=>
 cond (decide ((a0.length:Int)>1048576))
 (k2 true)
 (k2 (decide ((a1.length:Int)>1048512)))
def Nl(a0:List UInt8)(a1:Int):=
 aA (λy1=>
 cond (y1)
 (some [])
 (let x3:List UInt8:=[UInt8.ofNat (114:Int).toNat,UInt8.ofNat (111:Int).toNat,UInt8.ofNat (108:Int).toNat,UInt8.ofNat (108:Int).toNat]
 ob (YB x3 a1 4) λr4=>
 let r5:(List UInt8):=ZC a0 r4
 cond (decide (0≤(0:Int))&&decide ((0:Int)≤12)&&decide (12≤(r5.length:Int))) (ob (BA (List.take 12 (List.drop 0 r5))) λr6=>
 some r6) none)) λk2=>
 cond (!(eA (a0.length:Int) 1 32))
 (k2 true)
 (k2 (!(eA a1 0 10000)))
def Sj(a0:List UInt8)(a1:Int)(a2:Int):=
 cond (decide (([]:List UInt8).length+a0.length≤bA)) (aA (λy1=>
 cond (y1)
 (some ([]++a0))
 (aA (λ(y3:(List UInt8))=>
 some y3) λk4=>
 tA FU (λ(x5:(List UInt8)×Int) k6=>
 cond (decide (x5.2≥0))
 (cond (decide ((OB .i64 8 x5.2)<0)) none (let x7:Int:=PB .i64 (GE .i64 a1 (OB .i64 8 x5.2)) 255
 cond (decide (x5.1.length+[UInt8.ofNat (IntKind.wrap .u8 x7:Int).toNat].length≤bA)) (k6 ((x5.1++[UInt8.ofNat (IntKind.wrap .u8 x7:Int).toNat]),(sA .i64 x5.2 1))) none))
 (k4 x5.1)) (([]++a0),(sA .i64 a2 1)))) λk2=>
 cond (decide (a2<1))
 (k2 true)
 (k2 (decide (a2>6)))) none
def Nm(a0:Int):=
 aA (λy1=>
 cond (y1)
 (some [])
 (aA (λ(y3:(List UInt8))=>
 ob (YB y3 0 4) λr8=>
 ob (YB r8 (OB .i64 8 a0) 4) λr9=>
 some r9) λk4=>
 tA FU (λ(x5:(List UInt8)) k6=>
 let x7:Int:=iA .i64 (iA .i64 a0 (x5.length:Int)) 8
 cond ((zA .i64 x7 64) !=0)
 (cond (decide (x5.length+[UInt8.ofNat (0:Int).toNat].length≤bA)) (k6 (x5++[UInt8.ofNat (0:Int).toNat])) none)
 (k4 x5)) [UInt8.ofNat (128:Int).toNat])) λk2=>
 cond (decide (a0<0))
 (k2 true)
 (k2 (decide (a0>1048576)))
def Sk:=
 let x1:List Int:=[1779033703,3144134277,1013904242,2773480762,1359893119,2600822924,528734635,1541459225]
 some x1
def Nn(a0:List Int):=
 aA (λ(y1:Unit)=>
 some ((a0.length:Int)==8)) λk2=>
 tA FU (λ(x3:Int) k4=>
 cond (decide (x3<(a0.length:Int)))
 (ob (kA a0 x3) λe5=>
 cond (!(eA e5 0 4294967295))
 (some false)
 (k4 (iA .i64 x3 1)))
 (k2 ())) 0
def Sl:=
 let x1:List Int:=[1116352408,1899447441,3049323471,3921009573,961987163,1508970993,2453635748,2870763221,3624381080,310598401,607225278,1426881987,1925078388,2162078206,2614888103,3248222580,3835390401,4022224774,264347078,604807628,770255983,1249150122,1555081692,1996064986,2554220882,2821834349,2952996808,3210313671,3336571891,3584528711,113926993,338241895,666307205,773529912,1294757372,1396182291,1695183700,1986661051,2177026350,2456956037,2730485921,2820302411,3259730800,3345764771,3516065817,3600352804,4094571909,275423344,430227734,506948616,659060556,883997877,958139571,1322822218,1537002063,1747873779,1955562222,2024104815,2227730452,2361852424,2428436474,2756734187,3204031479,3329325298]
 some x1
def No(a0:List UInt8)(a1:Int)(a2:Int):=
 aA (λy1=>
 cond (y1)
 (some (0,0,false))
 (aA (λ(y3:Int)=>
 some (y3,iA .i64 a1 a2,true)) λk4=>
 tA FU (λ(x5:Int×Int) k6=>
 cond (decide (x5.2<a2))
 (ob (kA a0 (iA .i64 a1 x5.2)) λe7=>
 let x8:Int:=IntKind.wrap .i64 ((e7.toNat:Nat):Int)
 k6 ((iA .i64 (OB .i64 x5.1 256) x8),(iA .i64 x5.2 1)))
 (k4 x5.1)) (0,0))) λk2=>
 cond (decide (a2<1))
 (k2 true)
 (cond (decide (a2>6))
 (k2 true)
 (cond (decide (a1<0))
 (k2 true)
 (k2 (decide (a1>(sA .i64 (a0.length:Int) a2))))))
def Np(a0:Int)(a1:Int):=
 aA (λy1=>
 cond (y1)
 (some (PB .i64 a0 4294967295))
 (cond (decide (a1<0)) none (cond (decide ((sA .i64 32 a1)<0)) none (let x3:Int:=wJ .i64 (PB .i64 a0 4294967295) (sA .i64 32 a1)
 let x4:Int:=zK .i64 (GE .i64 (PB .i64 a0 4294967295) a1) x3
 some (PB .i64 x4 4294967295))))) λk2=>
 cond (decide (a1<1))
 (k2 true)
 (k2 (decide (a1>31)))
def Nq(a0:List UInt8):=
 cond ((a0.length:Int) !=64)
 (some [])
 (aA (λ(y1:(List Int))=>
 aA (λ(y6:(List Int))=>
 some y6) λk7=>
 tA FU (λ(x8:(List Int)×Int) k9=>
 cond (decide (x8.2<64))
 (cond (decide (0≤sA .i64 x8.2 15)&&decide (sA .i64 x8.2 15<(x8.1.length:Int))) (ob (x8.1[(sA .i64 x8.2 15).toNat]?) λe10=>
 cond (decide (0≤sA .i64 x8.2 2)&&decide (sA .i64 x8.2 2<(x8.1.length:Int))) (ob (x8.1[(sA .i64 x8.2 2).toNat]?) λe11=>
 ob (pE e10 7) λr12=>
 ob (pE e10 18) λr13=>
 let x14:Int:=BB .i64 (BB .i64 r12 r13) (GE .i64 e10 3)
 ob (pE e11 17) λr15=>
 ob (pE e11 19) λr16=>
 let x17:Int:=BB .i64 (BB .i64 r15 r16) (GE .i64 e11 10)
 cond (decide (0≤sA .i64 x8.2 7)&&decide (sA .i64 x8.2 7<(x8.1.length:Int))) (ob (x8.1[(sA .i64 x8.2 7).toNat]?) λe18=>
 cond (decide (0≤sA .i64 x8.2 16)&&decide (sA .i64 x8.2 16<(x8.1.length:Int))) (ob (x8.1[(sA .i64 x8.2 16).toNat]?) λe19=>
 let x20:Int:=iA .i64 (iA .i64 (iA .i64 e18 e19) x14) x17
 cond (decide (x8.1.length+[PB .i64 x20 4294967295].length≤bA)) (k9 ((x8.1++[PB .i64 x20 4294967295]),(iA .i64 x8.2 1))) none) none) none) none) none)
 (k7 x8.1)) (y1,16)) λk2=>
 tA FU (λ(x3:(List Int)×Int) k4=>
 cond (decide (x3.2<16))
 (ob (mH a0 (OB .i64 4 x3.2) 4) λr5=>
 cond (decide (x3.1.length+[r5.1].length≤bA)) (k4 ((x3.1++[r5.1]),(iA .i64 x3.2 1))) none)
 (k2 x3.1)) ([],0))
def Nr(a0:List Int)(a1:List UInt8):=
 cond (decide (([]:List Int).length+a0.length≤bA)) (aA (λy1=>
 cond (y1)
 (some ([]++a0))
 (let r3:(List Int):=vI
 ob (mM a1) λr4=>
 ob (kA a0 0) λe5=>
 ob (kA a0 1) λe6=>
 ob (kA a0 2) λe7=>
 ob (kA a0 3) λe8=>
 ob (kA a0 4) λe9=>
 ob (kA a0 5) λe10=>
 ob (kA a0 6) λe11=>
 ob (kA a0 7) λe12=>
 aA (λ(y13:Int×Int×Int×Int×Int×Int×Int×Int)=>
 let x34:List Int:=[y13.1,y13.2.1,y13.2.2.1,y13.2.2.2.1,y13.2.2.2.2.1,y13.2.2.2.2.2.1,y13.2.2.2.2.2.2.1,y13.2.2.2.2.2.2.2]
 aA (λ(y35:(List Int))=>
 some y35) λk36=>
 tA FU (λ(x37:Int×(List Int)) k38=>
 cond (decide (x37.1<8))
 (ob (kA a0 x37.1) λe39=>
 cond (decide (0≤x37.1)&&decide (x37.1<(x34.length:Int))) (ob (x34[x37.1.toNat]?) λe40=>
 cond (decide (0≤x37.1)&&decide (x37.1<(x37.2.length:Int))) (ob (x37.2[x37.1.toNat]?) λe41=>
 let l42:List Int:=List.set x37.2 x37.1.toNat (PB .i64 (iA .i64 e39 e40) 4294967295)
 k38 ((iA .i64 x37.1 1),l42)) none) none)
 (k36 x37.2)) (0,([]++a0))) λk14=>
 tA FU (λ(x15:Int×Int×Int×Int×Int×Int×Int×Int×Int) k16=>
 cond (decide (x15.2.2.2.2.2.2.2.2<64))
 (ob (pE x15.2.2.2.2.1 6) λr17=>
 ob (pE x15.2.2.2.2.1 11) λr18=>
 ob (pE x15.2.2.2.2.1 25) λr19=>
 let x20:Int:=iA .i64 x15.2.2.2.2.2.2.2.1 (BB .i64 (BB .i64 r17 r18) r19);let x21:Int:=PB .i64 (BB .i64 x15.2.2.2.2.1 4294967295) x15.2.2.2.2.2.2.1;let x22:Int:=BB .i64 (PB .i64 x15.2.2.2.2.1 x15.2.2.2.2.2.1) x21
 cond (decide (0≤x15.2.2.2.2.2.2.2.2)&&decide (x15.2.2.2.2.2.2.2.2<(r3.length:Int))) (ob (r3[x15.2.2.2.2.2.2.2.2.toNat]?) λe23=>
 cond (decide (0≤x15.2.2.2.2.2.2.2.2)&&decide (x15.2.2.2.2.2.2.2.2<(r4.length:Int))) (ob (r4[x15.2.2.2.2.2.2.2.2.toNat]?) λe24=>
 let x25:Int:=iA .i64 (iA .i64 (iA .i64 x20 x22) e23) e24
 ob (pE x15.1 2) λr26=>
 ob (pE x15.1 13) λr27=>
 ob (pE x15.1 22) λr28=>
 let x29:Int:=BB .i64 (PB .i64 x15.1 x15.2.1) (PB .i64 x15.1 x15.2.2.1);let x30:Int:=BB .i64 x29 (PB .i64 x15.2.1 x15.2.2.1);let x31:Int:=iA .i64 (BB .i64 (BB .i64 r26 r27) r28) x30;let x32:Int:=iA .i64 x15.2.2.2.1 (PB .i64 x25 4294967295);let x33:Int:=iA .i64 (PB .i64 x25 4294967295) (PB .i64 x31 4294967295)
 k16 ((PB .i64 x33 4294967295),x15.1,x15.2.1,x15.2.2.1,(PB .i64 x32 4294967295),x15.2.2.2.2.1,x15.2.2.2.2.2.1,x15.2.2.2.2.2.2.1,(iA .i64 x15.2.2.2.2.2.2.2.2 1))) none) none)
 (k14 (x15.1,x15.2.1,x15.2.2.1,x15.2.2.2.1,x15.2.2.2.2.1,x15.2.2.2.2.2.1,x15.2.2.2.2.2.2.1,x15.2.2.2.2.2.2.2.1))) (e5,e6,e7,e8,e9,e10,e11,e12,0))) λk2=>
 cond (!(zdY a0))
 (k2 true)
 (k2 ((a1.length:Int) !=64))) none
def Ns(a0:List Int):=
 aA (λ(y1:(List UInt8))=>
 some y1) λk2=>
 tA FU (λ(x3:(List UInt8)×Int) k4=>
 cond (decide (x3.2<8))
 (ob (kA a0 x3.2) λe5=>
 ob (YB x3.1 e5 4) λr6=>
 k4 (r6,(iA .i64 x3.2 1)))
 (k2 x3.1)) ([],0)
def Nt(a0:List UInt8):=
 cond (decide ((a0.length:Int)>1048576))
 (some [])
 (cond (decide (([]:List UInt8).length+a0.length≤bA)) (ob (ZM (a0.length:Int)) λr1=>
 cond (decide (([]++a0).length+r1.length≤bA)) (let r2:(List Int):=EE
 aA (λ(y3:(List Int))=>
 ob (QK y3) λr8=>
 some r8) λk4=>
 tA FU (λ(x5:(List Int)×Int) k6=>
 cond (decide (x5.2<((([]++a0)++r1).length:Int)))
 (cond (decide (0≤x5.2)&&decide (x5.2≤(iA .i64 x5.2 64))&&decide ((iA .i64 x5.2 64)≤((([]++a0)++r1).length:Int))) (ob (WK x5.1 (List.take ((iA .i64 x5.2 64 - x5.2).toNat) (List.drop x5.2.toNat (([]++a0)++r1)))) λr7=>
 k6 (r7,(iA .i64 x5.2 64))) none)
 (k4 x5.1)) (r2,0)) none) none)
def Nu(a0:List UInt8):=
 cond (decide ((a0.length:Int)>1048576))
 (some [])
 (cond (decide (([]:List UInt8).length+a0.length≤bA)) (aA (λ(y1:(List UInt8))=>
 aA (λ(y4:(List UInt8))=>
 some y4) λk5=>
 tA FU (λ(x6:(List UInt8)) k7=>
 cond (decide ((x6.length:Int)<64))
 (cond (decide (x6.length+[UInt8.ofNat (0:Int).toNat].length≤bA)) (k7 (x6++[UInt8.ofNat (0:Int).toNat])) none)
 (k5 x6)) y1) λk2=>
 cond (decide ((a0.length:Int)>64))
 (let r3:(List UInt8):=JE a0
 k2 r3)
 (k2 ([]++a0))) none)
def Nv(a0:List UInt8)(a1:List UInt8):=
 aA (λy1=>
 cond (y1)
 (some [])
 (let r3:(List UInt8):=kE a0
 aA (λ(y4:(List UInt8)×(List UInt8))=>
 cond (decide (y4.1.length+a1.length≤bA)) (let r12:(List UInt8):=JE (y4.1++a1)
 cond (decide (y4.2.length+r12.length≤bA)) (let r13:(List UInt8):=JE (y4.2++r12)
 some r13) none) none) λk5=>
 tA FU (λ(x6:(List UInt8)×(List UInt8)×Int) k7=>
 cond (decide (x6.2.2<64))
 (cond (decide (0≤x6.2.2)&&decide (x6.2.2<(r3.length:Int))) (ob (r3[x6.2.2.toNat]?) λe8=>
 let x9:List UInt8:=[UInt8.ofNat (BB .u8 ((e8.toNat:Nat):Int) 54:Int).toNat]
 cond (decide (x6.1.length+x9.length≤bA)) (cond (decide (0≤x6.2.2)&&decide (x6.2.2<(r3.length:Int))) (ob (r3[x6.2.2.toNat]?) λe10=>
 let x11:List UInt8:=[UInt8.ofNat (BB .u8 ((e10.toNat:Nat):Int) 92:Int).toNat]
 cond (decide (x6.2.1.length+x11.length≤bA)) (k7 ((x6.1++x9),(x6.2.1++x11),(iA .i64 x6.2.2 1))) none) none) none) none)
 (k5 (x6.1,x6.2.1))) ([],[],0))) λk2=>
 cond (decide ((a0.length:Int)>1048576))
 (k2 true)
 (k2 (decide ((a1.length:Int)>1048512)))
def Nw(a0:List UInt8)(a1:Int):=
 aA (λy1=>
 cond (y1)
 (some [])
 (let x3:List UInt8:=[UInt8.ofNat (114:Int).toNat,UInt8.ofNat (111:Int).toNat,UInt8.ofNat (108:Int).toNat,UInt8.ofNat (108:Int).toNat]
 ob (YB x3 a1 4) λr4=>
 let r5:(List UInt8):=ZC a0 r4
 cond (decide (0≤(0:Int))&&decide ((0:Int)≤12)&&decide (12≤(r5.length:Int))) (cond (decide (([]:List UInt8).length+(List.take 12 (List.drop 0 r5)).length≤bA)) (some ([]++(List.take 12 (List.drop 0 r5)))) none) none)) λk2=>
 cond (!(eA (a0.length:Int) 1 32))
 (k2 true)
 (k2 (!(eA a1 0 10000)))
end
end Go.D
namespace Go.D
end Go.D
namespace Go.D
def zgX{σ R:Type}(n:Nat)(hn:n≤maxLen)(S:Nat→σ)(z:Option R){f:σ×Int→(σ×Int→Option R)→Option R}
  (hf:∀(i:Nat) k,i<n→f (S i,(i:Int)) k=k (S (i+1),IntKind.wrap .i64 ((i:Int)+1))) (hz:∀k,f (S n,(n:Int)) k=z) (a:Nat) (ha:a≤n):tA FU f (S a,(a:Int))=z:=by
 refine LH (g:=λ_=>z) (λx=>∃i:Nat,i≤n∧x=(S i,(i:Int))) (λx=>n - x.2.toNat) (λx hx k hk=>?_) ⟨a,ha,rfl⟩ (by unfold maxLen at hn;simp only[Int.toNat_natCast];omega);obtain⟨i,hi,rfl⟩:=hx
 rcases Nat.lt_or_eq_of_le hi with MV | rfl
 ·rw[hf i k MV,HG i (by omega)];exact hk _ ⟨i+1,MV,rfl⟩ (by simp only[Int.toNat_natCast];omega)
 ·exact hz k
def pO(n:Nat)(h:n<2^64):(BitVec.ofInt 64 (n:Int)).toNat=n:=by
 rw[BitVec.toNat_ofInt];omega
def zea(a:Int):0≤qE a∧qE a≤4294967295:=by
 have h:(BitVec.ofInt 64 a&&&BitVec.ofInt 64 4294967295).toNat≤4294967295:=by
  rw[BitVec.toNat_and];exact Nat.le_trans Nat.and_le_right (by decide)
 unfold qE PB;show 0≤IntKind.wrap .i64 ((BitVec.ofInt 64 a&&&BitVec.ofInt 64 4294967295).toNat:Int)∧IntKind.wrap .i64 ((BitVec.ofInt 64 a&&&BitVec.ofInt 64 4294967295).toNat:Int)≤4294967295
 rw[MB (by omega) (by omega)];omega
def zac{a:Int}(h0:0≤a)(h1:a≤9223372036854775807):qE a=a % 4294967296:=by
 obtain⟨n,rfl⟩:=cG h0;unfold qE PB;show IntKind.wrap .i64 ((BitVec.ofInt 64 (n:Int)&&&BitVec.ofInt 64 ((4294967295:Nat):Int)).toNat:Int)=_
 rw[BitVec.toNat_and,pO n (by omega),pO _ (by decide)];have:=Nat.and_two_pow_sub_one_eq_mod n 32;rw[show(4294967295:Nat)=2^32 - 1 from rfl,this,MB (by omega) (by omega)];omega
def GD(a:Int):Prop:=0≤a∧a≤4294967295
def zet(a:Int):GD (qE a):=zea a
def SM{a b:Int}(ha:GD a)(hb:GD b):GD (BB .i64 a b):=by
 obtain⟨n,rfl⟩:=cG ha.1;obtain⟨m,rfl⟩:=cG hb.1;have h1:=ha.2;have h2:=hb.2;have h:(n^^^m)<2^32:=Nat.xor_lt_two_pow (by omega) (by omega);unfold BB;show GD (IntKind.wrap .i64 ((BitVec.ofInt 64 (n:Int)^^^BitVec.ofInt 64 (m:Int)).toNat:Int))
 rw[BitVec.toNat_xor,pO n (by omega),pO m (by omega),MB (by omega) (by omega)];exact⟨by omega,by omega⟩
def zt5(a b:Int):BB .i64 a b=BB .i64 b a:=by
 unfold BB;rw[BitVec.xor_comm]
def zao{a b:Int}(ha:GD a)(hb:GD b):GD (PB .i64 a b):=by
 obtain⟨n,rfl⟩:=cG ha.1;obtain⟨m,rfl⟩:=cG hb.1;have h1:=ha.2;have h2:=hb.2;have h:(n&&&m)≤m:=Nat.and_le_right;unfold PB;show GD (IntKind.wrap .i64 ((BitVec.ofInt 64 (n:Int)&&&BitVec.ofInt 64 (m:Int)).toNat:Int))
 rw[BitVec.toNat_and,pO n (by omega),pO m (by omega),MB (by omega) (by omega)];exact⟨by omega,by omega⟩
def nT(x n:Int):GD (kG x n):=zet _
def JH{a b:Nat}(h:a+b≤bA):decide (a+b≤bA)=true:=decide_eq_true h
def zcj.ok{x}(_:xA [.sl .byte] x){r}:BA x=some r→Sf x=some r:=TA λh=>by
 have h2:(show List UInt8 from x).length≤bA:=by rw[←FA];exact h
 show cond (decide (([]:List UInt8).length+(show List UInt8 from x).length≤bA)) _ _=_
 rw[DO h2];rfl
def zll(b:List UInt8)(n k:Int)(h:wt b+6≤bA):Mt b n k=some (FD b n k):=by
 rw[FA]at h;simp only[Mt,aA,FD,List.nil_append];rw[DO (by omega)];simp only[cond_true]
 by_cases h1:k<1
 ·rw[decide_eq_true h1];rfl
 by_cases h2:k>6
 ·rw[decide_eq_false h1,decide_eq_true h2];rfl
 rw[decide_eq_false h1,decide_eq_false h2];simp only[cond_false,Bool.or_false];have hk:sA .i64 k 1=k - 1:=by rw[sA,MB (by omega) (by omega)]
 rw[hk];rw[LH (g:=λx:List UInt8×Int=>some (x.1++rG n (x.2+1).toNat)) (λx=> -1≤x.2∧x.2≤5∧(x.1.length:Int)+x.2+1≤(bA:Int)) (λx=>(x.2+1).toNat) (λx hx kk RZ=>?_) (x:=(b,k - 1)) ⟨by show -1≤k - 1;omega,by show k - 1≤5;omega,by show(b.length:Int)+(k - 1)+1≤(bA:Int);omega⟩ (by show(k - 1+1).toNat<2^64;omega)]
 ·rw[show k - 1+1=k by omega]
 ·obtain⟨l,i⟩:=x;obtain⟨g1,g2,g3⟩:=hx;simp only at g1 g2 g3⊢
  by_cases hi:0≤i
  ·obtain⟨j,rfl⟩:=cG hi;have e1:OB .i64 8 (j:Int)=8 *(j:Int):=MB (by omega) (by omega);have e2:sA .i64 (j:Int) 1=(j:Int) - 1:=by rw[sA,MB (by omega) (by omega)]
   have e3:decide (OB .i64 8 (j:Int)<0)=false:=decide_eq_false (by rw[e1];omega);rw[decide_eq_true (p:=(j:Int)≥0) hi,cond_true,e3,cond_false,JH (by simp;omega),cond_true,e2];refine(RZ (l++[NO n j],(j:Int) - 1) ⟨by show -1≤(j:Int) - 1;omega,by show(j:Int) - 1≤5;omega,by show((l++[NO n j]).length:Int)+((j:Int) - 1)+1≤(bA:Int);simp;omega⟩ (by show((j:Int) - 1+1).toNat<((j:Int)+1).toNat;omega)).trans ?_;simp only;rw[show((j:Int) - 1+1).toNat=j by omega,show((j:Int)+1).toNat=j+1 by omega,rG,List.append_assoc];rfl
  ·have:i= -1:=by omega
   subst this;simp[rG]
def AS.ok{x}(_:xA [.sl .byte, .v .int, .v .int] x){r}:YB x.1 x.2.1 x.2.2=some r→Mt x.1 x.2.1 x.2.2=some r:=TA λh=>zll x.1 x.2.1 x.2.2 h
def zcD.ok{x}(_:xA [.sl .byte, .v .int, .v .int] x){r}:YB x.1 x.2.1 x.2.2=some r→Sj x.1 x.2.1 x.2.2=some r:=TA λh=>zll x.1 x.2.1 x.2.2 h
def zk2:∀l:List (List UInt8),l.flatten.length≤wt l
 | []=>Nat.zero_le _
 | x :: l=>by
  have:=zk2 l;rw[sD,FA,List.flatten_cons,List.length_append];omega
def zpS(l:List (List UInt8))(h:wt l≤bA):Mv l=some l.flatten:=by
 simp only[Mv,aA];refine zgX l.length (lE h) (λi=>(l.take i).flatten) (some l.flatten) (λi k hi=>?_) (λk=>by simp only[XD,cond_false,List.take_length]) 0 (Nat.zero_le _);have e:(l.take (i+1)).flatten=(l.take i).flatten++l[i]:=by rw[qM l hi,List.flatten_append];simp
 have KV:=zk2 (l.take (i+1));have h2:=wD l (i+1);rw[e,List.length_append]at KV;simp only[BD hi,cond_true,JB hi,mB,JH (show(l.take i).flatten.length+l[i].length≤bA by omega),e]
def pR.ok{x}(_:xA [.sl .bs] x){r}:mD x=some r→Mv x=some r:=TA λh=>zpS x h
def zv2(b:List UInt8)(f n:Int)(h:wt b≤bA)(hf:zE .i64 f)(hn:zE .i64 n):Mw b f n=some (cut b f n):=by
 have hl:b.length≤bA:=by rw[←FA];exact h
 have hL:=DB;have hf:=DS hf;simp only[Mw,aA,cut,List.nil_append]
 by_cases h1:f<0
 ·rw[decide_eq_true h1];rfl
 by_cases h2:n<0
 ·rw[decide_eq_false h1,decide_eq_true h2];rfl
 by_cases h3:f>(b.length:Int)
 ·rw[decide_eq_false h1,decide_eq_false h2,decide_eq_true h3];rfl
 have e:sA .i64 (b.length:Int) f=(b.length:Int) - f:=by rw[sA,MB (by omega) (by omega)]
 rw[e]
 by_cases h4:n>(b.length:Int) - f
 ·rw[decide_eq_false h1,decide_eq_false h2,decide_eq_false h3,decide_eq_true h4];rfl
 have e2:iA .i64 f n=f+n:=by rw[iA,MB (by omega) (by omega)]
 have e3:(decide (0≤f)&&decide (f≤f+n)&&decide (f+n≤(b.length:Int)))=true:=by simp;omega
 rw[decide_eq_false h1,decide_eq_false h2,decide_eq_false h3,decide_eq_false h4];simp only[cond_false,e2];rw[e3,show f+n - f=n by omega];have:((b.drop f.toNat).take n.toNat).length≤bA:=by rw[List.length_take,List.length_drop];omega
 rw[DO this];rfl
def GS.ok{x}(hb:xA [.sl .byte, .v .int, .v .int] x){r}:yJ x.1 x.2.1 x.2.2=some r→Mw x.1 x.2.1 x.2.2=some r:=TA λh=>
 zv2 x.1 x.2.1 x.2.2 h (sO hb.2.1 0 (by decide) rfl) (sO hb.2.2 0 (by decide) rfl)
def zfC(l:List UInt8){i:Nat}(hi:i<l.length):MG (l.take (i+1))=iA .i64 (OB .i64 (MG (l.take i)) 256) (IntKind.wrap .i64 ((l[i].toNat:Nat):Int)):=by
 rw[MG,qM l hi,List.foldl_append];rfl
def zqM(b:List UInt8)(f k:Int)(h:wt b≤bA)(hf:zE .i64 f):No b f k=some (sH b f k):=by
 have hl:b.length≤bA:=by rw[←FA];exact h
 have hL:=DB;have hf:=DS hf;simp only[No,aA,sH]
 by_cases h1:k<1
 ·rw[decide_eq_true h1];rfl
 by_cases h2:k>6
 ·rw[decide_eq_false h1,decide_eq_true h2];rfl
 by_cases h3:f<0
 ·rw[decide_eq_false h1,decide_eq_false h2,decide_eq_true h3];rfl
 have e:sA .i64 (b.length:Int) k=(b.length:Int) - k:=by rw[sA,MB (by omega) (by omega)]
 rw[e]
 by_cases h4:f>(b.length:Int) - k
 ·rw[decide_eq_false h1,decide_eq_false h2,decide_eq_false h3,decide_eq_true h4];rfl
 rw[decide_eq_false h1,decide_eq_false h2,decide_eq_false h3,decide_eq_false h4];simp only[cond_false,Bool.or_false];obtain⟨a,rfl⟩:=cG (n:=f) (by omega);obtain⟨m,rfl⟩:=cG (n:=k) (by omega);simp only[Int.toNat_natCast];refine zgX m (by rw[AD];omega) (λi=>MG (((b.drop a).take m).take i)) _ (λi k hi=>?_) (λk=>?_) 0 (Nat.zero_le _)
 ·have e1:iA .i64 (a:Int) (i:Int)=((a+i:Nat):Int):=by rw[iA,MB (by omega) (by omega)];omega
  have MV:i<((b.drop a).take m).length:=by rw[List.length_take,List.length_drop];omega
  have hai:a+i<b.length:=by omega
  rw[BD hi,cond_true,e1,JB hai,mB,zfC _ MV];simp only[List.getElem_take,List.getElem_drop]
 ·rw[XD,cond_false,List.take_of_length_le (i:=m) (by rw[List.length_take];omega)]
def lS.ok{x}(hb:xA [.sl .byte, .v .int, .v .int] x){r}:mH x.1 x.2.1 x.2.2=some r→No x.1 x.2.1 x.2.2=some r:=TA λh=>
 zqM x.1 x.2.1 x.2.2 h (sO hb.2.1 0 (by decide) rfl)
def zuX(p:List UInt8)(hp:p.length≤maxLen)(c:Int):tA FU (λ(x6:Int×Int) k7=>cond (decide (x6.2<(p.length:Int))) (cond (decide (0≤x6.2)&&decide (x6.2<(p.length:Int))) (Option.bind (p[x6.2.toNat]?) λe8=>
  k7 ((iA .i64 (OB .i64 256 x6.1) (IntKind.wrap .i64 ((e8.toNat:Nat):Int))),(iA .i64 x6.2 1))) none) (some (x6.1,c,true))) ((0:Int),(0:Int))=some (MG p,c,true):=by
 refine zgX p.length hp (λi=>MG (p.take i)) _ (λi k hi=>?_) (λk=>?_) 0 (Nat.zero_le _)
 ·have e3:(decide ((0:Int)≤(i:Int))&&decide ((i:Int)<(p.length:Int)))=true:=by simp;exact hi
  simp only[e3,BD hi,cond_true,Int.toNat_natCast,List.getElem?_eq_getElem hi,mB,zfC _ hi,OB,Int.mul_comm 256];rw[show decide ((0:Int)≤(i:Int))=true from decide_eq_true (by omega)];rfl
 ·rw[XD,cond_false,List.take_length]
def zrk(b:List UInt8)(f k:Int)(h:wt b≤bA)(hf:zE .i64 f):Mx b f k=some (sH b f k):=by
 have hl:b.length≤bA:=by rw[←FA];exact h
 have hL:=DB;have hf:=DS hf;simp only[Mx,aA,sH,yJ,UA h,cut]
 by_cases h1:k<1
 ·rw[decide_eq_true h1];rfl
 by_cases h2:k>6
 ·rw[decide_eq_false h1,decide_eq_true h2];rfl
 by_cases h3:f<0
 ·rw[decide_eq_false h1,decide_eq_false h2,decide_eq_true h3];rfl
 rw[decide_eq_false h1,decide_eq_false h2,decide_eq_false h3,decide_eq_false (p:=k<0) (by omega)]
 by_cases h4:f>(b.length:Int) - k
 ·rw[decide_eq_true h4]
  by_cases h5:f>(b.length:Int)
  ·rw[decide_eq_true h5];rfl
  ·rw[decide_eq_false h5,decide_eq_true (p:=k>(b.length:Int) - f) (by omega)];rfl
 rw[decide_eq_false h4,decide_eq_false (p:=f>(b.length:Int)) (by omega),decide_eq_false (p:=k>(b.length:Int) - f) (by omega)];simp only[cond_false,Bool.or_false,Bool.not_true];obtain⟨a,rfl⟩:=cG (n:=f) (by omega);obtain⟨m,rfl⟩:=cG (n:=k) (by omega);simp only[Int.toNat_natCast];have KV:((b.drop a).take m).length=m:=by rw[List.length_take,List.length_drop];omega
 exact zuX _ (by rw[KV,AD];omega) _
def sS.ok{x}(hb:xA [.sl .byte, .v .int, .v .int] x){r}:mH x.1 x.2.1 x.2.2=some r→Mx x.1 x.2.1 x.2.2=some r:=TA λh=>
 zrk x.1 x.2.1 x.2.2 h (sO hb.2.1 0 (by decide) rfl)
def zu3(l:List UInt8)(h:l.length≤4):0≤MG l∧MG l<256^l.length:=by
 have key:∀i,i≤l.length→0≤MG (l.take i)∧MG (l.take i)<256^i:=by
  intro i;induction i with
  | zero=>intro _;simp[MG]
  | succ i ih=>
   intro hi;have MV:i<l.length:=by omega
   obtain⟨h1,h2⟩:=ih (by omega);have hb:=UInt8.toNat_lt l[i]
   have hp:(256:Int)^i≤16777216:=by
    have:i=0∨i=1∨i=2∨i=3:=by omega
    rcases this with rfl | rfl | rfl | rfl<;>decide
   rw[zfC l MV,Int.pow_succ];generalize (256:Int)^i=q at *;generalize MG (l.take i)=v at *;have e1:IntKind.wrap .i64 ((l[i].toNat:Nat):Int)=(l[i].toNat:Int):=MB (by omega) (by omega);have e2:OB .i64 v 256=v *256:=MB (by omega) (by omega);rw[e1,e2,iA,MB (by omega) (by omega)];omega
 have:=key l.length (Nat.le_refl _);rwa [List.take_length]at this
def zwe(x n:Int)(h:1≤n∧n≤31):My x n=some (kG x n):=by
 simp only[My,aA,kG,qE];rw[decide_eq_false (p:=n<0) (by omega),decide_eq_false (p:=n>31) (by omega)];have:sA .i64 32 n=32 - n:=by rw[sA,MB (by omega) (by omega)]
 rw[this,decide_eq_false (p:=32 - n<0) (by omega)];rfl
def SS.ok{x}(_:xA [.v .int, .v .int] x){r}:pE x.1 x.2=some r→My x.1 x.2=some r:=TA λh=>zwe x.1 x.2 h
def zrV(a n:Int)(h:1≤n∧n≤31):Np a n=some (kG a n):=by
 simp only[Np,aA,kG,qE];rw[decide_eq_false (p:=n<1) (by omega),decide_eq_false (p:=n>31) (by omega),decide_eq_false (p:=n<0) (by omega)];have:sA .i64 32 n=32 - n:=by rw[sA,MB (by omega) (by omega)]
 rw[this,decide_eq_false (p:=32 - n<0) (by omega)];rfl
def QS.ok{x}(_:xA [.v .int, .v .int] x){r}:pE x.1 x.2=some r→Np x.1 x.2=some r:=TA λh=>zrV x.1 x.2 h
def zck.ok{x}(_:xA [.v .int, .v .int] x):Si x.1 x.2=some (UF x.1 x.2):=rfl
def zcv.ok{x}(_:xA [] x):Sg=some EE:=rfl
def zcu.ok{x}(_:xA [] x):Sk=some EE:=rfl
def zdf.ok{x}(_:xA [] x):Sl=some vI:=rfl
def KQ.ok{x}(hb:xA [.sl .int] x):Nn x=some (zdY x):=by
 show Nn (x:List Int)=some (FC (x:List Int) 8)
 have hl:(show List Int from x).length≤maxLen:=hb.1;generalize (show List Int from x)=l at hl⊢;simp only[Nn,aA];rw[zfh l hl,FC];cases List.all _ _<;>rfl
def zt1:∀m:Fin 64,Ki (m.val:Int)=some (tM (m.val:Int)):=by decide+kernel
def pN.ok{x}(_:xA [.v .int] x):Ki x=some (tM x):=by
 show Ki (x:Int)=some (tM (x:Int))
 generalize (show Int from x)=i
 by_cases h:0≤i∧i≤63
 ·obtain⟨m,rfl⟩:=cG h.1;exact zt1 ⟨m,by omega⟩
 ·simp only[Ki,aA,tM,if_neg h]
  by_cases h1:i<0
  ·rw[decide_eq_true h1];rfl
  ·rw[decide_eq_false h1,decide_eq_true (p:=i>63) (by omega)];rfl
end Go.D
namespace Go.D
def mI{X R:Type}(idx:X→Int)(E:Nat→X)(U4:∀i,idx (E i)=(i:Int))(n:Nat)(hn:n≤maxLen)(z:Option R){f:X→(X→Option R)→Option R}(a:Nat)(ha:a≤n)
  (hf:∀(i:Nat) k,a≤i→i<n→f (E i) k=k (E (i+1))) (hz:∀k,f (E n) k=z):tA FU f (E a)=z:=by
 refine LH (g:=λ_=>z) (λx=>∃i:Nat,a≤i∧i≤n∧x=E i) (λx=>n - (idx x).toNat) (λx hx k hk=>?_) ⟨a,Nat.le_refl _,ha,rfl⟩ (by rw[U4];unfold maxLen at hn;simp only[Int.toNat_natCast];omega);obtain⟨i,h0,hi,rfl⟩:=hx
 rcases Nat.lt_or_eq_of_le hi with MV | rfl
 ·rw[hf i k h0 MV];exact hk _ ⟨i+1,by omega,MV,rfl⟩ (by rw[U4,U4];simp only[Int.toNat_natCast];omega)
 ·exact hz k
def NF{n i:Nat}(h:i<n):(decide ((0:Int)≤(i:Int))&&decide ((i:Int)<(n:Int)))=true:=by simp;exact h
def GH{l:List Int}{i:Nat}(h:i<l.length):l[i]?=some (l.getD i 0):=by
 rw[List.getD_eq_getElem?_getD,List.getElem?_eq_getElem h];rfl
def CM{i c:Nat}(h:i≤maxLen)(hc:c≤i):sA .i64 (i:Int) (c:Int)=((i - c:Nat):Int):=by
 rw[AD]at h;rw[sA,MB (by omega) (by omega)];omega
def jI{i:Nat}(h:i<maxLen):iA .i64 (i:Int) 1=((i+1:Nat):Int):=HG i h
def zwQ{i n:Nat}(h:i<n):decide ((i:Int)<(n:Int))=true:=decide_eq_true (by omega)
def SK(b:List UInt8):∀i,(ED b i).length=i
 | 0=>rfl
 | i+1=>by rw[ED,List.length_append,SK b i];rfl
def zsz(b:List UInt8)(w:List Int)(i:Nat):GD (sM b w i):=by
 unfold sM;split
 ·unfold sH;cases decide ((4:Int)<1)||(decide ((4:Int)>6)||(decide (((4 *i:Nat):Int)<0)||decide (((4 *i:Nat):Int)>(b.length:Int) - 4)))
  ·simp only[cond_false];have h4:((b.drop ((4 *i:Nat):Int).toNat).take (4:Int).toNat).length≤4:=by rw[List.length_take];exact Nat.min_le_left _ _
   have:=zu3 _ h4
   have hp:(256:Int)^((b.drop ((4 *i:Nat):Int).toNat).take (4:Int).toNat).length≤4294967296:=by
    generalize ((b.drop ((4 *i:Nat):Int).toNat).take (4:Int).toNat).length=q at h4;have:q=0∨q=1∨q=2∨q=3∨q=4:=by omega
    rcases this with rfl | rfl | rfl | rfl | rfl<;>decide
   exact⟨this.1,by omega⟩
  ·show GD 0
   exact⟨by decide,by decide⟩
 ·exact zet _
def zml(b:List UInt8):∀(i j:Nat),GD ((ED b i).getD j 0)
 | 0,j=>by rw[show(ED b 0)=[]from rfl];simp;exact⟨by decide,by decide⟩
 | i+1,j=>by
  rw[ED,List.getD_eq_getElem?_getD,List.getElem?_append];split
  ·have:=zml b i j;rwa [List.getD_eq_getElem?_getD]at this
  ·cases hj:j - (ED b i).length with
   | zero=>exact zsz b _ i
   | succ m=>simp;exact⟨by decide,by decide⟩
def znd{i:Nat}(h:i<16):OB .i64 4 (i:Int)=((4 *i:Nat):Int):=by
 rw[show OB .i64 4 (i:Int)=IntKind.wrap .i64 (4 *(i:Int))from rfl,MB (by omega) (by omega)];omega
def cF{β:Type}{x n:Int}{f:Int→Option β}(h:1≤n∧n≤31):Option.bind (pE x n) f=f (kG x n):=UA h
def zo8(b:List UInt8)(h:wt b≤bA):Nq b=some (NC b):=by
 simp only[Nq,aA,NC]
 by_cases hl:b.length=64
 case neg=>
  rw[show((b.length:Int) !=64)=true from bne_iff_ne.2 (by omega),if_neg hl];rfl
 rw[show((b.length:Int) !=64)=false by simp[hl],if_pos hl,cond_false];have hL:=DB;refine(mI (X:=List Int×Int) (λx=>x.2) (λi=>(ED b i,(i:Int))) (λ_=>rfl) 16 (by decide) (some (ED b 64)) 0 (by decide) (λi k _ hi=>?_) (λk=>?_))
 ·simp only[zwQ (show i<16 from hi),show((16:Nat):Int)=16 from rfl,decide_eq_true (p:=(i:Int)<16) (by omega),cond_true,znd hi,mH,UA h,jI (i:=i) (by rw[AD];omega)];rw[JH (by rw[SK];simp;omega),cond_true,ED,sM,if_pos hi]
 ·simp only[show((16:Nat):Int)=16 from rfl,show decide ((16:Int)<16)=false from rfl,cond_false];refine(mI (X:=List Int×Int) (λx=>x.2) (λi=>(ED b i,(i:Int))) (λ_=>rfl) 64 (by decide) (some (ED b 64)) 16 (by decide) (λi k NY hi=>?_) (λk=>?_))
  ·have hm:i≤maxLen:=by rw[AD];omega
   have e15:sA .i64 (i:Int) 15=((i - 15:Nat):Int):=CM (c:=15) hm (by omega);have e2:sA .i64 (i:Int) 2=((i - 2:Nat):Int):=CM (c:=2) hm (by omega);have e7:sA .i64 (i:Int) 7=((i - 7:Nat):Int):=CM (c:=7) hm (by omega);have e16:sA .i64 (i:Int) 16=((i - 16:Nat):Int):=CM (c:=16) hm (by omega);have hs:=SK b i
   simp only[decide_eq_true (p:=(i:Int)<64) (by omega),cond_true,e15,e2,e7,e16,NF (show i - 15<(ED b i).length by omega),NF (show i - 2<(ED b i).length by omega),NF (show i - 7<(ED b i).length by omega),NF (show i - 16<(ED b i).length by omega),Int.toNat_natCast,
    GH (show i - 15<(ED b i).length by omega),GH (show i - 2<(ED b i).length by omega),GH (show i - 7<(ED b i).length by omega),GH (show i - 16<(ED b i).length by omega),mB,cF (show(1:Int)≤7∧(7:Int)≤31 by decide),cF (show(1:Int)≤18∧(18:Int)≤31 by decide),cF (show(1:Int)≤17∧(17:Int)≤31 by decide),cF (show(1:Int)≤19∧(19:Int)≤31 by decide),jI (i:=i) (by rw[AD];omega)]
   rw[JH (by rw[SK];simp;omega),cond_true,ED,sM,if_neg (by omega)];rfl
  ·simp only[show((64:Nat):Int)=64 from rfl,show decide ((64:Int)<64)=false from rfl,cond_false]
def VP.ok{x}(_:xA [.sl .byte] x){r}:mM x=some r→Nq x=some r:=TA λh=>zo8 x h
def uF(b:List UInt8)(i:Nat):List Int:=ED b i++List.replicate (64 - i) 0
def zjy(b:List UInt8){i:Nat}(hi:i<64)(v:Int)(hv:v=sM b (ED b i) i):List.set (uF b i) i v=uF b (i+1):=by
 subst hv;rw[uF,show 64 - i=(64 - (i+1))+1 by omega,List.replicate_succ,zmN _ _ _ _ (SK b i),uF,ED,List.append_assoc];rfl
def zbc(b:List UInt8){i j:Nat}(hj:j<i):(uF b i)[j]?=some ((ED b i).getD j 0):=by
 rw[uF,List.getElem?_append_left (by rw[SK];exact hj),GH (by rw[SK];exact hj)]
def zfq(b:List UInt8){i:Nat}(h:i≤64):(uF b i).length=64:=by
 rw[uF,List.length_append,SK,List.length_replicate];omega
def zjb(b:List UInt8){i j:Nat}(hi:i≤64)(hj:j<64):∃v,(uF b i)[j]?=some v:=⟨_,List.getElem?_eq_getElem (by rw[zfq b hi];exact hj)⟩
def zo0(b:List UInt8)(h:wt b≤bA):Mz b=some (NC b):=by
 simp only[Mz,aA,NC]
 by_cases hl:b.length=64
 case neg=>
  rw[show((b.length:Int) !=64)=true from bne_iff_ne.2 (by omega),if_neg hl];rfl
 rw[show((b.length:Int) !=64)=false by simp[hl],if_pos hl,cond_false];have hend:uF b 64=ED b 64:=by simp[uF]
 refine(mI (X:=Int×List Int) (λx=>x.1) (λi=>((i:Int),uF b i)) (λ_=>rfl) 16 (by decide) (some (ED b 64)) 0 (by decide) (λi k _ hi=>?_) (λk=>?_))
 ·have KV:=zfq b (i:=i) (by omega);obtain⟨v,hv⟩:=zjb b (i:=i) (j:=i) (by omega) (by omega);simp only[decide_eq_true (p:=(i:Int)<16) (by omega),cond_true,znd hi,mH,UA h,NF (show i<(uF b i).length by omega),Int.toNat_natCast,hv,mB,jI (i:=i) (by rw[AD];omega)];rw[zjy b (by omega) _ (by rw[sM,if_pos hi])]
 ·simp only[show((16:Nat):Int)=16 from rfl,show decide ((16:Int)<16)=false from rfl,cond_false];refine(mI (X:=Int×List Int) (λx=>x.1) (λi=>((i:Int),uF b i)) (λ_=>rfl) 64 (by decide) (some (ED b 64)) 16 (by decide) (λi k NY hi=>?_) (λk=>?_))
  ·have hm:i≤maxLen:=by rw[AD];omega
   have KV:=zfq b (i:=i) (by omega);obtain⟨v,hv⟩:=zjb b (i:=i) (j:=i) (by omega) (by omega);have e15:sA .i64 (i:Int) 15=((i - 15:Nat):Int):=CM (c:=15) hm (by omega);have e2:sA .i64 (i:Int) 2=((i - 2:Nat):Int):=CM (c:=2) hm (by omega);have e7:sA .i64 (i:Int) 7=((i - 7:Nat):Int):=CM (c:=7) hm (by omega);have e16:sA .i64 (i:Int) 16=((i - 16:Nat):Int):=CM (c:=16) hm (by omega)
   simp only[decide_eq_true (p:=(i:Int)<64) (by omega),cond_true,e15,e2,e7,e16,NF (show i - 15<(uF b i).length by omega),NF (show i - 2<(uF b i).length by omega),NF (show i - 7<(uF b i).length by omega),NF (show i - 16<(uF b i).length by omega),NF (show i<(uF b i).length by omega),Int.toNat_natCast,
    zbc b (show i - 15<i by omega),zbc b (show i - 2<i by omega),zbc b (show i - 7<i by omega),zbc b (show i - 16<i by omega),hv,mB,cF (show(1:Int)≤7∧(7:Int)≤31 by decide),cF (show(1:Int)≤18∧(18:Int)≤31 by decide),cF (show(1:Int)≤17∧(17:Int)≤31 by decide),cF (show(1:Int)≤19∧(19:Int)≤31 by decide),jI (i:=i) (by rw[AD];omega)]
   rw[zjy b hi _ (by rw[sM,if_neg (by omega)];rfl)]
  ·simp only[show((64:Nat):Int)=64 from rfl,show decide ((64:Int)<64)=false from rfl,cond_false,hend]
def jQ.ok{x}(_:xA [.sl .byte] x){r}:mM x=some r→Mz x=some r:=TA λh=>zo0 x h
def zs0(b:List UInt8)(j:Nat):GD ((NC b).getD j 0):=by
 unfold NC;split
 ·exact zml b 64 j
 ·simp;exact⟨by decide,by decide⟩
end Go.D
namespace Go.D
def zk9:vI.length=64:=by decide
def zw6:∀m:Fin 64,decide (0≤vI.getD m.val 0)&&decide (vI.getD m.val 0≤4294967295)=true:=by decide+kernel
def k_w{i:Nat}(h:i<64):GD (vI.getD i 0):=by
 have:=zw6 ⟨i,h⟩;simp only[Bool.and_eq_true,decide_eq_true_eq]at this;exact this
def zqw{i:Nat}(h:i<64):tM (i:Int)=vI.getD i 0:=by
 rw[tM,if_pos (by omega),Int.toNat_natCast]
def W8(s:S8):Prop:=GD s.1∧GD s.2.1∧GD s.2.2.1∧GD s.2.2.2.1∧GD s.2.2.2.2.1∧GD s.2.2.2.2.2.1∧GD s.2.2.2.2.2.2.1∧GD s.2.2.2.2.2.2.2
def zvR(k w:Int){s:S8}(h:W8 s):W8 (zep k w s):=⟨zet _,h.1,h.2.1,h.2.2.1,zet _,h.2.2.2.2.1,h.2.2.2.2.2.1,h.2.2.2.2.2.2.1⟩
def zkZ(w:List Int){s:S8}(h:W8 s):∀i,W8 (rounds w s i)
 | 0=>h
 | i+1=>zvR _ _ (zkZ w h i)
def zat{a b:Int}{m n:Int}(ha:0≤a∧a≤m)(hb:0≤b∧b≤n)(h:m+n≤9223372036854775807):0≤iA .i64 a b∧iA .i64 a b≤m+n:=by
 rw[iA,MB (by omega) (by omega)];omega
def zw1:GD 4294967295:=⟨by decide,by decide⟩
def zAk{k w:Int}{s:S8}(hk:GD k)(hw:GD w)(h:W8 s):0≤rT k w s∧rT k w s≤21474836475:=by
 obtain⟨_,_,_,_,h5,h6,h7,h8⟩:=h;have a1:=SM (SM (nT s.2.2.2.2.1 6) (nT s.2.2.2.2.1 11)) (nT s.2.2.2.2.1 25);have a2:=SM (zao h5 h6) (zao (SM h5 zw1) h7);have b1:=zat h8 a1 (by decide);have b2:=zat b1 a2 (by decide);have b3:=zat b2 hk (by decide);exact zat b3 hw (by decide)
def zzd{s:S8}(h:W8 s):0≤rU s∧rU s≤8589934590:=by
 obtain⟨h1,h2,h3,_⟩:=h;exact zat (SM (SM (nT s.1 2) (nT s.1 13)) (nT s.1 22)) (SM (SM (zao h1 h2) (zao h1 h3)) (zao h2 h3)) (by decide)
def zlZ{a b:Int}(ha:0≤a∧a≤1099511627776)(hb:0≤b∧b≤1099511627776):qE (iA .i64 a b)=qE (iA .i64 (qE a) (qE b)):=by
 have h1:=zea a;have h2:=zea b;rw[iA,iA,MB (by omega) (by omega),MB (by omega) (by omega),zac (by omega) (by omega),zac (a:=qE a+qE b) (by omega) (by omega),zac ha.1 (by omega),zac hb.1 (by omega)];omega
def zw3{a:Int}(h:GD a):qE a=a:=by
 rw[zac h.1 (Int.le_trans h.2 (by decide))];have:=h.1;have:=h.2;omega
def KK{h:List Int}(hw:FC h 8=true):h.length=8∧∀j,GD (h.getD j 0):=by
 simp only[FC,Bool.and_eq_true,beq_iff_eq,List.all_eq_true]at hw;refine⟨by omega,λj=>?_⟩
 by_cases hj:j<h.length
 ·rw[List.getD_eq_getElem?_getD,List.getElem?_eq_getElem hj];exact fD.1 (hw.1 _ (List.getElem_mem hj))
 ·rw[List.getD_eq_getElem?_getD,List.getElem?_eq_none (by omega)];exact⟨by decide,by decide⟩
def zxu{h:List Int}(hw:FC h 8=true):W8 (rE h):=by
 have:=(KK hw).2;exact⟨this 0,this 1,this 2,this 3,this 4,this 5,this 6,this 7⟩
def zdr(h:List Int)(s:S8)(hl:h.length=8):(List.zipWith UF h (OH s)).length=8:=by
 rw[List.length_zipWith,hl];rfl
def zsL{h:List Int}(b:List UInt8)(hw:FC h 8=true):FC (zF h b) 8=true:=by
 have hl:=(KK hw).1;simp only[FC,Bool.and_eq_true,beq_iff_eq,List.all_eq_true];refine⟨λx hx=>?_,?_⟩
 ·obtain⟨i,hi,rfl⟩:=List.getElem_of_mem hx;have hi2:i<(List.zipWith UF h (OH (rounds (NC b) (rE h) 64))).length:=hi;show eA ((List.zipWith UF h (OH (rounds (NC b) (rE h) 64)))[i]'hi2) 0 4294967295=true
  rw[List.getElem_zipWith];exact fD.2 (zea _)
 ·have:=zdr h (rounds (NC b) (rE h) 64) hl;show((List.zipWith UF h (OH (rounds (NC b) (rE h) 64))).length:Int)=8
  omega
def zp6{h:List Int}(b:List UInt8)(hw:FC h 8=true):FC (fL h b) 8=true:=by
 unfold fL;cases FC h 8&&b.length==64
 ·exact hw
 ·exact zsL b hw
def zjt{b:List UInt8}(h:b.length=64):(NC b).length=64:=by
 rw[NC,if_pos h,SK]
def iF(h:List Int)(z:List Int)(i:Nat):List Int:=z.take i++h.drop i
def ztg{h z:List Int}(hl:h.length=z.length){i:Nat}(hi:i<z.length)(v:Int)(hv:v=z[i]):List.set (iF h z i) i v=iF h z (i+1):=by
 subst hv;have hi2:i<h.length:=by omega
 rw[iF,qS h hi2,zmN _ _ _ _ (by rw[List.length_take];omega),iF,qM z hi,List.append_assoc];rfl
def zj3{h z:List Int}(hl:h.length=z.length){i:Nat}(hi:i≤z.length):(iF h z i).length=z.length:=by
 rw[iF,List.length_append,List.length_take,List.length_drop];omega
def dF{l:List Int}{i:Nat}(h:i<l.length):kA l (i:Int)=some (l.getD i 0):=by rw[zk8,GH h]
def zvV(h:List Int)(s:S8)(hl:h.length=8){i:Nat}(hi:i<(List.zipWith UF h (OH s)).length):(List.zipWith UF h (OH s))[i]=UF (h.getD i 0) ((OH s).getD i 0):=by
 have h8:=zdr h s hl;rw[List.getElem_zipWith,List.getD_eq_getElem?_getD,List.getD_eq_getElem?_getD,List.getElem?_eq_getElem (by omega),List.getElem?_eq_getElem (by show i<8;omega)];rfl
def zc9{h:List Int}(b:List UInt8)(h8:h.length=8):(zF h b).length=8:=zdr h _ h8
def zk5{h:List Int}(b:List UInt8)(h8:h.length=8){i:Nat}(hi:i<8):List.set (iF h (zF h b) i) i (UF (h.getD i 0) ((OH (rounds (NC b) (rE h) 64)).getD i 0))=iF h (zF h b) (i+1):=
 ztg (by rw[zc9 b h8,h8]) (by rw[zc9 b h8];exact hi) _ (zvV h _ h8 (by rw[zdr h _ h8];exact hi)).symm
def zo5(h:List Int)(b:List UInt8)(hh:wt h≤bA∧wt b≤bA):Nr h b=some (fL h b):=by
 have KV:h.length≤bA:=by rw[←rL];exact hh.1
 simp only[Nr,aA,List.nil_append,fL,zdY,mM,UA hh.2];rw[show decide (([]:List Int).length+h.length≤bA)=true from decide_eq_true (by simpa using KV)];simp only[cond_true];cases hw:FC h 8
 ·rfl
 by_cases hb:b.length=64
 case neg=>
  rw[show((b.length:Int) !=64)=true from bne_iff_ne.2 (by omega),beq_false_of_ne hb];rfl
 rw[show((b.length:Int) !=64)=false by simp[hb],show(b.length==64)=true by simp[hb]];obtain⟨h8,hW⟩:=KK hw;have i0:kA h 0=some (h.getD 0 0):=dF (i:=0) (by omega);have i1:kA h 1=some (h.getD 1 0):=dF (i:=1) (by omega);have i2:kA h 2=some (h.getD 2 0):=dF (i:=2) (by omega);have i3:kA h 3=some (h.getD 3 0):=dF (i:=3) (by omega);have i4:kA h 4=some (h.getD 4 0):=dF (i:=4) (by omega);have i5:kA h 5=some (h.getD 5 0):=dF (i:=5) (by omega);have i6:kA h 6=some (h.getD 6 0):=dF (i:=6) (by omega);have i7:kA h 7=some (h.getD 7 0):=dF (i:=7) (by omega);simp only[Bool.not_true,cond_false,Bool.and_true,cond_true,i0,i1,i2,i3,i4,i5,i6,i7,mB];have D3:=zjt hb;refine mI (λx=>x.2.2.2.2.2.2.2.2) (λi=>((rounds (NC b) (rE h) i).1,(rounds (NC b) (rE h) i).2.1,(rounds (NC b) (rE h) i).2.2.1,(rounds (NC b) (rE h) i).2.2.2.1,(rounds (NC b) (rE h) i).2.2.2.2.1,(rounds (NC b) (rE h) i).2.2.2.2.2.1,(rounds (NC b) (rE h) i).2.2.2.2.2.2.1,(rounds (NC b) (rE h) i).2.2.2.2.2.2.2,(i:Int))) (λ_=>rfl) 64 (by decide) (some (zF h b)) 0 (by decide) (λi k _ hi=>?_) (λk=>?_)
 ·simp only[decide_eq_true (p:=(i:Int)<64) (by omega),cond_true,Int.toNat_natCast,NF (show i<vI.length by rw[zk9];exact hi),NF (show i<(NC b).length by omega),GH (show i<vI.length by rw[zk9];exact hi),GH (show i<(NC b).length by omega),mB,
   cF (show(1:Int)≤6∧(6:Int)≤31 by decide),cF (show(1:Int)≤11∧(11:Int)≤31 by decide),cF (show(1:Int)≤25∧(25:Int)≤31 by decide),cF (show(1:Int)≤2∧(2:Int)≤31 by decide),cF (show(1:Int)≤13∧(13:Int)≤31 by decide),cF (show(1:Int)≤22∧(22:Int)≤31 by decide),jI (i:=i) (by rw[AD];omega)]
  rfl
 ·simp only[show((64:Nat):Int)=64 from rfl,show decide ((64:Int)<64)=false from rfl,cond_false];have P2:=zc9 b h8;refine mI (X:=Int×List Int) (λx=>x.1) (λi=>((i:Int),iF h (zF h b) i)) (λ_=>rfl) 8 (by decide) (some (zF h b)) 0 (by decide) (λi k _ hi=>?_) (λk=>?_)
  ·have N8:(iF h (zF h b) i).length=8:=by rw[zj3 (by rw[P2,h8]) (by rw[P2];omega),P2]
   have N5:i<(OH (rounds (NC b) (rE h) 64)).length:=hi;have ho:(iF h (zF h b) i)[i]?=some ((iF h (zF h b) i).getD i 0):=GH (by omega);simp only[decide_eq_true (p:=(i:Int)<8) (by omega),cond_true,dF (show i<h.length by omega),mB,NF (show i<(iF h (zF h b) i).length by omega),ho,Int.toNat_natCast,jI (i:=i) (by rw[AD];omega)];have e1:=NF N5;have e2:=GH N5;unfold OH at e1 e2;rw[e1,cond_true,e2,mB];exact congrArg (λl=>k (((i+1:Nat):Int),l)) (zk5 b h8 hi)
  ·simp only[show((8:Nat):Int)=8 from rfl,show decide ((8:Int)<8)=false from rfl,cond_false];rw[iF,List.take_of_length_le (by rw[P2];exact Nat.le_refl _),List.drop_eq_nil_of_le (by omega),List.append_nil]
def aQ.ok{x}(_:xA [.sl .int, .sl .byte] x){r}:WK x.1 x.2=some r→Nr x.1 x.2=some r:=TA λh=>zo5 x.1 x.2 h
def ztW{k w:Int}{s:S8}(hk:GD k)(hw:GD w)(h:W8 s):zep k w s=(UF (rT k w s) (rU s),s.1,s.2.1,s.2.2.1,UF s.2.2.2.1 (rT k w s),s.2.2.2.2.1,s.2.2.2.2.2.1,s.2.2.2.2.2.2.1):=by
 have ht:=zAk hk hw h;have hu:=zzd h;have hd:=h.2.2.2.1;rw[zep,UF,UF,zlZ (a:=rT k w s) (b:=rU s) ⟨ht.1,by omega⟩ ⟨hu.1,by omega⟩,zlZ (a:=s.2.2.2.1) (b:=rT k w s) ⟨hd.1,Int.le_trans hd.2 (by decide)⟩ ⟨ht.1,by omega⟩,zw3 hd]
def zo7(h:List Int)(b:List UInt8)(hh:wt h≤bA∧wt b≤bA):Na h b=some (fL h b):=by
 have KV:h.length≤bA:=by rw[←rL];exact hh.1
 simp only[Na,aA,List.nil_append,fL,mM,UA hh.2];rw[show decide (([]:List Int).length+h.length≤bA)=true from decide_eq_true (by simpa using KV)];simp only[cond_true];cases hw:FC h 8
 ·rfl
 by_cases hb:b.length=64
 case neg=>
  rw[show((b.length:Int) !=64)=true from bne_iff_ne.2 (by omega),beq_false_of_ne hb];rfl
 rw[show((b.length:Int) !=64)=false by simp[hb],show(b.length==64)=true by simp[hb]];obtain⟨h8,hW⟩:=KK hw;have i0:kA h 0=some (h.getD 0 0):=dF (i:=0) (by omega);have i1:kA h 1=some (h.getD 1 0):=dF (i:=1) (by omega);have i2:kA h 2=some (h.getD 2 0):=dF (i:=2) (by omega);have i3:kA h 3=some (h.getD 3 0):=dF (i:=3) (by omega);have i4:kA h 4=some (h.getD 4 0):=dF (i:=4) (by omega);have i5:kA h 5=some (h.getD 5 0):=dF (i:=5) (by omega);have i6:kA h 6=some (h.getD 6 0):=dF (i:=6) (by omega);have i7:kA h 7=some (h.getD 7 0):=dF (i:=7) (by omega);simp only[Bool.not_true,cond_false,Bool.and_true,cond_true,i0,i1,i2,i3,i4,i5,i6,i7,mB];have D3:=zjt hb;refine mI (λx=>x.2.2.2.2.2.2.2.2) (λi=>((rounds (NC b) (rE h) i).1,(rounds (NC b) (rE h) i).2.1,(rounds (NC b) (rE h) i).2.2.1,(rounds (NC b) (rE h) i).2.2.2.1,(rounds (NC b) (rE h) i).2.2.2.2.1,(rounds (NC b) (rE h) i).2.2.2.2.2.1,(rounds (NC b) (rE h) i).2.2.2.2.2.2.1,(rounds (NC b) (rE h) i).2.2.2.2.2.2.2,(i:Int))) (λ_=>rfl) 64 (by decide) (some (zF h b)) 0 (by decide) (λi k _ hi=>?_) (λk=>?_)
 ·have hs:=ztW (k_w hi) (zs0 b i) (zkZ (NC b) (zxu hw) i)
  simp only[decide_eq_true (p:=(i:Int)<64) (by omega),cond_true,Int.toNat_natCast,NF (show i<(NC b).length by omega),GH (show i<(NC b).length by omega),mB,zqw hi,zt5 4294967295,
   cF (show(1:Int)≤6∧(6:Int)≤31 by decide),cF (show(1:Int)≤11∧(11:Int)≤31 by decide),cF (show(1:Int)≤25∧(25:Int)≤31 by decide),cF (show(1:Int)≤2∧(2:Int)≤31 by decide),cF (show(1:Int)≤13∧(13:Int)≤31 by decide),cF (show(1:Int)≤22∧(22:Int)≤31 by decide),jI (i:=i) (by rw[AD];omega)]
  rw[rounds,hs];rfl
 ·simp only[show((64:Nat):Int)=64 from rfl,show decide ((64:Int)<64)=false from rfl,cond_false];have P2:=zc9 b h8;refine mI (X:=Int×List Int) (λx=>x.1) (λi=>((i:Int),iF h (zF h b) i)) (λ_=>rfl) 8 (by decide) (some (zF h b)) 0 (by decide) (λi k _ hi=>?_) (λk=>?_)
  ·have N8:(iF h (zF h b) i).length=8:=by rw[zj3 (by rw[P2,h8]) (by rw[P2];omega),P2]
   have N5:i<(OH (rounds (NC b) (rE h) 64)).length:=hi;have ho:(iF h (zF h b) i)[i]?=some ((iF h (zF h b) i).getD i 0):=GH (by omega);simp only[cond_true,dF (show i<h.length by omega),mB,NF (show i<(iF h (zF h b) i).length by omega),ho,Int.toNat_natCast,jI (i:=i) (by rw[AD];omega)];have e0:=BD N5;have e1:=NF N5;have e2:=GH N5;unfold OH at e0 e1 e2;rw[e0,cond_true,show decide ((0:Int)≤(i:Int))=true from decide_eq_true (by omega),Bool.and_true,cond_true,e2,mB];exact congrArg (λl=>k (((i+1:Nat):Int),l)) (zk5 b h8 hi)
  ·simp only[List.length_cons,List.length_nil];rw[show decide (((8:Nat):Int)<((0+1+1+1+1+1+1+1+1:Nat):Int))=false from rfl,cond_false];rw[iF,List.take_of_length_le (by rw[P2];exact Nat.le_refl _),List.drop_eq_nil_of_le (by omega),List.append_nil]
def cQ.ok{x}(_:xA [.sl .int, .sl .byte] x){r}:WK x.1 x.2=some r→Na x.1 x.2=some r:=TA λh=>zo7 x.1 x.2 h
end Go.D
namespace Go.D
def ZL:∀(n:Nat) (h:List Int) (b:List UInt8),FC h 8=true→FC (PC h n b) 8=true
 | 0,h,b,hw=>hw
 | n+1,h,b,hw=>ZL n _ _ (zp6 _ hw)
def zfI:∀(n:Nat) (h:List Int) (b:List UInt8),PC h (n+1) b=fL (PC h n b) ((b.drop (64 *n)).take 64)
 | 0,h,b=>rfl
 | n+1,h,b=>by
  rw[PC,zfI n,PC,List.drop_drop];rw[show 64+64 *n=64 *(n+1) by omega]
def zj7:∀(m k:Nat) (h:List Int) (b:List UInt8),PC h (m+k) b=PC (PC h m b) k (b.drop (64 *m))
 | 0,k,h,b=>by simp[PC]
 | m+1,k,h,b=>by
  rw[show m+1+k=(m+k)+1 by omega,PC,zj7 m k,PC,List.drop_drop,show 64+64 *m=64 *(m+1) by omega]
def zkw:∀(m:Nat) (h:List Int) (b p:List UInt8),64 *m≤b.length→PC h m (b++p)=PC h m b
 | 0,h,b,p,_=>rfl
 | m+1,h,b,p,hl=>by
  rw[PC,PC,List.take_append_of_le_length (by omega),List.drop_append_of_le_length (by omega),zkw m _ _ _ (by rw[List.length_drop];omega)]
def zei{h:List Int}(hw:FC h 8=true):wt h≤bA:=by
 rw[rL,(KK hw).1,DB];decide
def ztk(l:List UInt8)(h:64≤l.length):List.take (((l.length:Int) - 64).toNat) (List.drop 64 l)=l.drop 64:=by
 rw[List.take_of_length_le];rw[List.length_drop];omega
def zlg(n:Nat):64 *(n / 64)≤n:=Nat.mul_div_le n 64
def zou(h:List Int)(b:List UInt8)(hb:wt b≤bA)(hw:FC h 8=true):Nb h b=some (PC h (b.length / 64) b,b.drop (64 *(b.length / 64))):=by
 have hl:b.length≤bA:=by rw[←FA];exact hb
 simp only[Nb,aA];refine LH (g:=λ_=>some (PC h (b.length / 64) b,b.drop (64 *(b.length / 64)))) (λx=>∃i:Nat,64 *i≤b.length∧x=(PC h i b,b.drop (64 *i))) (λx=>x.2.length) (λx hx k hk=>?_) (x:=(h,b)) ⟨0,Nat.zero_le _,by simp[PC]⟩ (by show b.length<2^64;rw[DB]at hl;omega);obtain⟨i,hi,rfl⟩:=hx;have hdl:(b.drop (64 *i)).length=b.length - 64 *i:=List.length_drop;have hds:=RE b (64 *i)
 by_cases vY:64 *(i+1)≤b.length
 ·have e1:decide (((b.drop (64 *i)).length:Int)≥64)=true:=decide_eq_true (by omega);have e2:(decide ((0:Int)≤0)&&decide ((0:Int)≤64)&&true)=true:=rfl;have e3:(decide ((0:Int)≤64)&&true&&decide (((b.drop (64 *i)).length:Int)≤((b.drop (64 *i)).length:Int)))=true:=by simp
  have N1:=hk (PC h (i+1) b,b.drop (64 *(i+1))) ⟨i+1,vY,rfl⟩ (by show(b.drop (64 *(i+1))).length<(b.drop (64 *i)).length;rw[List.length_drop,List.length_drop];omega);rw[zfI,show 64 *(i+1)=64 *i+64 by omega, ←List.drop_drop]at N1;simp only[e1,e2,e3,cond_true,List.drop_zero,WK,UA (p:=wt (PC h i b)≤bA∧wt ((b.drop (64 *i)).take 64)≤bA) ⟨zei (ZL i h b hw),Nat.le_trans (wD _ _) (Nat.le_trans hds hb)⟩,ztk _ (show 64≤(b.drop (64 *i)).length by omega)];exact N1
 ·have e1:decide (((b.drop (64 *i)).length:Int)≥64)=false:=decide_eq_false (by omega);have:i=b.length / 64:=by omega
  simp only[e1,cond_false, ←this]
def mP.ok{x}(_:xA [.sl .int, .sl .byte] x){r}:yT x.1 x.2=some r→Nb x.1 x.2=some r:=TA λh=>zou x.1 x.2 h.2.2 h.2.1
def KN(n:Int):∀i,(rG n i).length=i
 | 0=>rfl
 | i+1=>by rw[rG,List.length_cons,KN n i]
def zej(b:List UInt8)(n:Int):FD b n 4=b++rG n 4:=rfl
def zxG(b:List UInt8)(n:Int):FD b n 6=b++rG n 6:=rfl
def ziO(h:List Int){i:Nat}(hi:i<h.length):sF (h.take (i+1))=sF (h.take i)++rG (h.getD i 0) 4:=by
 rw[sF,qM h hi,List.flatMap_append];simp[sF,List.getD_eq_getElem?_getD,hi]
def za4:∀h:List Int,(sF h).length=4 *h.length
 | []=>rfl
 | x :: h=>by
  rw[sF,List.flatMap_cons,List.length_append,KN,List.length_cons];have:=za4 h;rw[sF]at this;omega
def zoJ(h:List Int)(h8:h.length=8):Nf h=some (sF h):=by
 have hL:=DB;simp only[Nf,aA];refine mI (X:=List UInt8×Int) (λx=>x.2) (λi=>(sF (h.take i),(i:Int))) (λ_=>rfl) h.length (by rw[h8];decide) _ 0 (Nat.zero_le _) (λi k _ hi=>?_) (λk=>by simp only[XD,cond_false,List.take_length]);have hwl:=za4 (h.take i);rw[List.length_take]at hwl;simp only[BD hi,cond_true,dF hi,mB,YB,UA (p:=wt (sF (h.take i))+6≤bA) (by rw[FA];omega),zej,jI (i:=i) (by rw[AD];omega),ziO h hi]
def TP.ok{x}(_:xA [.sl .int] x){r}:QK x=some r→Nf x=some r:=TA λh=>zoJ x h
def zqp(h:List Int)(h8:h.length=8):Ns h=some (sF h):=by
 have hL:=DB;simp only[Ns,aA];refine mI (X:=List UInt8×Int) (λx=>x.2) (λi=>(sF (h.take i),(i:Int))) (λ_=>rfl) 8 (by decide) _ 0 (Nat.zero_le _) (λi k _ hi=>?_) (λk=>?_)
 ·have hwl:=za4 (h.take i);rw[List.length_take]at hwl;simp only[decide_eq_true (p:=(i:Int)<8) (by omega),cond_true,dF (show i<h.length by omega),mB,YB,UA (p:=wt (sF (h.take i))+6≤bA) (by rw[FA];omega),zej,jI (i:=i) (by rw[AD];omega),ziO h (show i<h.length by omega)]
 ·simp only[show((8:Nat):Int)=8 from rfl,show decide ((8:Int)<8)=false from rfl,cond_false];rw[List.take_of_length_le (by omega)]
def XR.ok{x}(_:xA [.sl .int] x){r}:QK x=some r→Ns x=some r:=TA λh=>zqp x h
def zkD:(UInt8.ofNat (0:Int).toNat)=0:=rfl
def zk4(n:Nat)(hn:n≤1048576)(z:List UInt8→Option (List UInt8)):tA FU (λ(x5:(List UInt8)) k6=>cond ((zA .i64 (iA .i64 (iA .i64 (n:Int) (x5.length:Int)) 8) 64) !=0)
  (cond (decide (x5.length+[UInt8.ofNat (0:Int).toNat].length≤bA)) (k6 (x5++[UInt8.ofNat (0:Int).toNat])) none) (z x5)) [UInt8.ofNat (128:Int).toNat]=z (128 :: List.replicate (wF n) 0):=by
 have hz:wF n<64:=Nat.mod_lt _ (by decide);have hL:=DB;refine LH (g:=λ_=>z (128 :: List.replicate (wF n) 0)) (λx=>∃j:Nat,j≤wF n∧x=128 :: List.replicate j 0) (λx=>wF n+1 - x.length) (λx hx k hk=>?_) ⟨0,Nat.zero_le _,rfl⟩ (by show wF n+1 - 1<2^64;omega);obtain⟨j,hj,rfl⟩:=hx
 have e1:iA .i64 (iA .i64 (n:Int) (((128 :: List.replicate j 0:List UInt8).length:Nat):Int)) 8=((n+(j+1)+8:Nat):Int):=by
  rw[List.length_cons,List.length_replicate];have a1:iA .i64 (n:Int) ((j+1:Nat):Int)=((n+(j+1):Nat):Int):=by rw[iA,MB (by omega) (by omega)];omega
  rw[a1,iA,MB (by omega) (by omega)];omega
 have e2:zA .i64 ((n+(j+1)+8:Nat):Int) 64=(((n+(j+1)+8) % 64:Nat):Int):=NS _ 64;simp only[e1,e2]
 rcases Nat.lt_or_eq_of_le hj with MV | rfl
 ·have:(n+(j+1)+8) % 64≠0:=by unfold wF at MV;omega
  rw[show((((n+(j+1)+8) % 64:Nat):Int) !=0)=true from bne_iff_ne.2 (by omega),cond_true,JH (by simp;omega),cond_true];refine hk _ ⟨j+1,MV,?_⟩ (by simp;omega);rw[zkD,List.cons_append,List.replicate_succ']
 ·have:(n+(wF n+1)+8) % 64=0:=by unfold wF;omega
  rw[this];rfl
def zvL(n:Nat)(hn:n≤1048576):rG ((8 *n:Nat):Int) 6=[0,0]++rG ((8 *n:Nat):Int) 4:=by
 have h5:GE .i64 ((8 *n:Nat):Int) (OB .i64 8 ((5:Nat):Int))=0:=by
  show Int.fdiv ((8 *n:Nat):Int) 1099511627776=0
  rw[Int.fdiv_eq_ediv_of_nonneg _ (by decide)];omega
 have h4:GE .i64 ((8 *n:Nat):Int) (OB .i64 8 ((4:Nat):Int))=0:=by
  show Int.fdiv ((8 *n:Nat):Int) 4294967296=0
  rw[Int.fdiv_eq_ediv_of_nonneg _ (by decide)];omega
 rw[rG,rG];rw[show NO ((8 *n:Nat):Int) 5=0 by rw[NO,h5];rfl,show NO ((8 *n:Nat):Int) 4=0 by rw[NO,h4];rfl];rfl
def zm0{n:Nat}(h:n≤1048576):OB .i64 8 (n:Int)=((8 *n:Nat):Int):=by
 rw[show OB .i64 8 (n:Int)=IntKind.wrap .i64 (8 *(n:Int))from rfl,MB (by omega) (by omega)];omega
def VU(n:Nat):(128 :: List.replicate (wF n) 0:List UInt8).length=wF n+1:=by simp
def zrR(n:Nat)(hn:n≤1048576):Nm (n:Int)=some (HD n):=by
 have hz:wF n<64:=Nat.mod_lt _ (by decide);have hL:=DB;simp only[Nm,aA,decide_eq_false (p:=(n:Int)<0) (by omega),decide_eq_false (p:=(n:Int)>1048576) (by omega),cond_false];rw[zk4 n hn];simp only[YB,UA (p:=wt (128 :: List.replicate (wF n) 0:List UInt8)+6≤bA) (by rw[FA,VU];omega),zej,zm0 hn];rw[UA (by rw[FA,List.length_append,VU,KN];omega),HD,List.append_assoc];rfl
def JS.ok{x}(_:xA [.v .int] x){r}:ZM x=some r→Nm x=some r:=TA λh=>by
 obtain⟨n,hn⟩:=cG h.1;have hn:x=(n:Int):=hn;have h2:(x:Int)≤1048576:=h.2;subst hn;exact zrR n (by omega)
def zrq(n:Nat)(hn:n≤1048576):Nd (n:Int)=some (HD n):=by
 have hz:wF n<64:=Nat.mod_lt _ (by decide);have hL:=DB;have IW:eA (n:Int) 0 1048576=true:=fD.2 ⟨by omega,by omega⟩;simp only[Nd,aA,IW,Bool.not_true,cond_false];rw[zk4 n hn (λy1=>cond (decide (y1.length+[UInt8.ofNat (0:Int).toNat,UInt8.ofNat (0:Int).toNat].length≤bA)) (Option.bind (YB (y1++[UInt8.ofNat (0:Int).toNat,UInt8.ofNat (0:Int).toNat]) (OB .i64 8 (n:Int)) 6) λr7=>some r7) none)];rw[JH (by rw[VU];simp;omega),cond_true,YB,UA (by rw[FA,List.length_append,VU];simp;omega),zxG,zm0 hn,zvL n hn,HD,List.append_assoc];rfl
def ES.ok{x}(_:xA [.v .int] x){r}:ZM x=some r→Nd x=some r:=TA λh=>by
 obtain⟨n,hn⟩:=cG h.1;have hn:x=(n:Int):=hn;have h2:(x:Int)≤1048576:=h.2;subst hn;exact zrq n (by omega)
def zgV(n:Nat):(HD n).length=wF n+9:=by
 rw[HD,List.length_append,VU,List.length_append,KN];rfl
def ztX(n:Nat):(n+(HD n).length) % 64=0:=by
 rw[zgV];unfold wF;omega
def zbq.ok{x}(_:xA [] x):Sh=some JO:=rfl
def ztb(h:Be):Mu h=some (OG h):=by
 simp only[Mu,aA,cD,Bool.cond_false_right,OG,Bool.and_assoc]
def FR.ok{x}(_:xA [.v .Hash] x):Mu x=some (OG x):=ztb x
def zkb{h:Be}(hk:OG h=true):FC h.H 8=true∧0≤h.N∧h.N≤1048576∧h.Held.length<64∧∃n:Nat,h.N=(n:Int)∧n % 64=h.Held.length:=by
 simp only[OG,Bool.and_eq_true,fD,beq_iff_eq]at hk;obtain⟨⟨h1,h2⟩,h3⟩:=hk;obtain⟨n,hn⟩:=cG h2.1;rw[hn,show zA .i64 (n:Int) 64=((n % 64:Nat):Int)from NS n 64]at h3;exact⟨h1,h2.1,h2.2,by omega,n,hn,by omega⟩
def zti{h:List Int}(hw:FC h 8=true):decide (([]:List Int).length+h.length≤bA)=true:=by
 have:=(KK hw).1;rw[this];decide
def zc4(a b:List UInt8):([a,b]:List (List UInt8)).flatten=a++b:=by simp
def zd9(a b:List UInt8):wt ([a,b]:List (List UInt8))=a.length+b.length+2:=by
 rw[sD,sD,NG,FA,FA];omega
def zpf(h:Be)(b:List UInt8)(hk:OG h=true)(hb:(b.length:Int)≤1048576 - h.N):
  Nc h b=some ⟨PC h.H ((h.Held++b).length / 64) (h.Held++b),(h.Held++b).drop (64 *((h.Held++b).length / 64)),h.N+b.length⟩:=by
 obtain⟨hw,n0,n1,hl,_⟩:=zkb hk;have hL:=DB;have l9:wt (h.Held++b)≤bA:=by rw[FA,List.length_append];omega
 have e1:sA .i64 1048576 h.N=1048576 - h.N:=by rw[sA,MB (by omega) (by omega)]
 have e2:iA .i64 h.N (b.length:Int)=h.N+b.length:=by rw[iA,MB (by omega) (by omega)]
 simp only[Nc,aA,hk,Bool.not_true,cond_false,e1,decide_eq_false (p:=(b.length:Int)>1048576 - h.N) (by omega),mD,UA (p:=wt ([h.Held,b]:List (List UInt8))≤bA) (by rw[zd9];omega),zc4,yT,
  UA (p:=wt h.H≤bA∧FC h.H 8=true∧wt (h.Held++b)≤bA) ⟨zei hw,hw,l9⟩,zti (ZL ((h.Held++b).length / 64) h.H (h.Held++b) hw),cond_true,BA,UA (p:=wt ((h.Held++b).drop (64 *((h.Held++b).length / 64)))≤bA) (Nat.le_trans (RE _ _) l9),List.nil_append,e2]
def fR.ok{x}(_:xA [.v .Hash, .sl .byte] x){r}:zdl x.1 x.2=some r→Nc x.1 x.2=some r:=TA λh=>zpf x.1 x.2 h.1 h.2
def zpv(h:Be)(hk:OG h=true):Ng h=some (sF (PC h.H ((h.Held++HD h.N.toNat).length / 64) (h.Held++HD h.N.toNat))):=by
 obtain⟨hw,n0,n1,hl,n,hn,_⟩:=zkb hk;have hL:=DB;have hp:=zgV h.N.toNat;have hz:wF h.N.toNat<64:=Nat.mod_lt _ (by decide);have l9:wt (h.Held++HD h.N.toNat)≤bA:=by rw[FA,List.length_append];omega
 have hbw:=ZL ((h.Held++HD h.N.toNat).length / 64) h.H (h.Held++HD h.N.toNat) hw
 simp only[Ng,hk,Bool.not_true,cond_false,ZM,UA (p:=0≤h.N∧h.N≤1048576) ⟨n0,n1⟩,mD,UA (p:=wt ([h.Held,HD h.N.toNat]:List (List UInt8))≤bA) (by rw[zd9];omega),zc4,yT,
  UA (p:=wt h.H≤bA∧FC h.H 8=true∧wt (h.Held++HD h.N.toNat)≤bA) ⟨zei hw,hw,l9⟩,QK,UA (KK hbw).1]
def yQ.ok{x}(_:xA [.v .Hash] x){r}:zc6 x=some r→Ng x=some r:=TA λh=>zpv x h
def zbz:FC EE 8=true:=by decide
def zxk:OG JO=true:=by decide
def zu2(b:List UInt8)(hb:b.length≤1048576):
  PC (PC EE (b.length / 64) b) ((b.drop (64 *(b.length / 64))++HD b.length).length / 64) (b.drop (64 *(b.length / 64))++HD b.length)=PC EE ((b++HD b.length).length / 64) (b++HD b.length):=by
 have hd:=zlg b.length;have h1:(b.drop (64 *(b.length / 64))++HD b.length).length=b.length - 64 *(b.length / 64)+(HD b.length).length:=by rw[List.length_append,List.length_drop]
 have h2:(b++HD b.length).length / 64=b.length / 64+(b.drop (64 *(b.length / 64))++HD b.length).length / 64:=by rw[h1,List.length_append];omega
 rw[h2,zj7,zkw _ _ _ _ hd,List.drop_append_of_le_length hd]
def zrX(b:List UInt8):Nh b=some (JE b):=by
 simp only[Nh,JE]
 by_cases h:(b.length:Int)>1048576
 ·rw[decide_eq_true h];rfl
 rw[decide_eq_false h];simp only[cond_false,zdl];rw[UA ⟨zxk,by show(b.length:Int)≤1048576 - 0;omega⟩];have e0:JO.Held++b=b:=rfl;have en:JO.N+(b.length:Int)=(b.length:Int):=Int.zero_add _;have eh:JO.H=EE:=rfl;rw[e0,en,eh];have hdl:=zlg b.length
 have AX:OG ⟨PC EE (b.length / 64) b,b.drop (64 *(b.length / 64)),(b.length:Int)⟩=true:=by
  simp only[OG,Bool.and_eq_true,fD,beq_iff_eq];refine⟨⟨ZL _ _ _ zbz,by omega,by omega⟩,?_⟩;rw[show zA .i64 (b.length:Int) 64=((b.length % 64:Nat):Int)from NS _ 64,List.length_drop];omega
 rw[zc6,UA AX,Int.toNat_natCast,zu2 b (by omega)];rfl
def PS.ok{x}(_:xA [.sl .byte] x):Nh x=some (JE x):=zrX x
def zvf(all:List UInt8)(hwa:wt all≤bA)(hm:64 *(all.length / 64)=all.length):tA FU (λ(x5:(List Int)×Int) k6=>cond (decide (x5.2<(all.length:Int)))
  (cond (decide (0≤x5.2)&&decide (x5.2≤(iA .i64 x5.2 64))&&decide ((iA .i64 x5.2 64)≤(all.length:Int))) (Option.bind (WK x5.1 (List.take ((iA .i64 x5.2 64 - x5.2).toNat) (List.drop x5.2.toNat all))) λr7=>k6 (r7,(iA .i64 x5.2 64))) none)
  (Option.bind (QK x5.1) λr8=>some r8)) (EE,0)=some (sF (PC EE (all.length / 64) all)):=by
 have hL:=DB;have hla:all.length≤bA:=by rw[←FA];exact hwa
 refine LH (g:=λ_=>some (sF (PC EE (all.length / 64) all))) (λx=>∃i:Nat,64 *i≤all.length∧x=(PC EE i all,((64 *i:Nat):Int))) (λx=>all.length - x.2.toNat) (λx hx k hk=>?_) (x:=(EE,0)) ⟨0,Nat.zero_le _,rfl⟩ (by show all.length - Int.toNat 0<2^64;simp;omega);obtain⟨i,hi,rfl⟩:=hx
 by_cases MV:64 *i<all.length
 ·have vY:64 *(i+1)≤all.length:=by omega
  have e1:iA .i64 ((64 *i:Nat):Int) 64=((64 *(i+1):Nat):Int):=by rw[iA,MB (by omega) (by omega)];omega
  have e2:(decide ((0:Int)≤((64 *i:Nat):Int))&&decide (((64 *i:Nat):Int)≤((64 *(i+1):Nat):Int))&&decide (((64 *(i+1):Nat):Int)≤(all.length:Int)))=true:=by simp;omega
  have e3:(((64 *(i+1):Nat):Int) - ((64 *i:Nat):Int)).toNat=64:=by omega
  have N1:=hk (PC EE (i+1) all,((64 *(i+1):Nat):Int)) ⟨i+1,vY,rfl⟩ (by simp only[Int.toNat_natCast];omega);rw[zfI]at N1;simp only[BD MV,cond_true,e1,e2,e3,Int.toNat_natCast,WK,UA (p:=wt (PC EE i all)≤bA∧wt ((all.drop (64 *i)).take 64)≤bA) ⟨zei (ZL i EE all zbz),Nat.le_trans (wD _ _) (Nat.le_trans (RE _ _) hwa)⟩];exact N1
 ·have hi2:i=all.length / 64:=by omega
  have e1:decide (((64 *i:Nat):Int)<(all.length:Int))=false:=decide_eq_false (by omega);simp only[e1,cond_false,QK,UA (KK (ZL i EE all zbz)).1, ←hi2]
def zrt(b:List UInt8):Nt b=some (JE b):=by
 have hL:=DB;simp only[Nt,aA,JE,List.nil_append]
 by_cases h:(b.length:Int)>1048576
 ·rw[decide_eq_true h];rfl
 rw[decide_eq_false h];have hp:=zgV b.length;have hz:wF b.length<64:=Nat.mod_lt _ (by decide);have hwh:=ztX b.length;have hal:(b++HD b.length).length=b.length+(HD b.length).length:=List.length_append;simp only[cond_false];rw[DO (show b.length≤bA by omega),cond_true,ZM,UA ⟨by omega,by omega⟩,Int.toNat_natCast,JH (by omega),cond_true,zd8];exact zvf (b++HD b.length) (by rw[FA];omega) (by omega)
def OS.ok{x}(_:xA [.sl .byte] x):Nt x=some (JE x):=zrt x
def zj4(b:List UInt8):(zd8 b).length=32:=by
 rw[zd8,za4,(KK (ZL _ EE _ zbz)).1]
def zas(b:List UInt8):(JE b).length≤32:=by
 unfold JE;cases decide ((b.length:Int)>1048576)
 ·exact Nat.le_of_eq (zj4 b)
 ·exact Nat.zero_le _
def zws{b:List UInt8}(h:b.length≤1048576):(JE b).length=32:=by
 rw[JE,decide_eq_false (by omega)];exact zj4 b
end Go.D
namespace Go.D
def zca(l:List UInt8):tA FU (λ(x6:(List UInt8)) k7=>cond (decide ((x6.length:Int)<64)) (cond (decide (x6.length+[UInt8.ofNat (0:Int).toNat].length≤bA)) (k7 (x6++[UInt8.ofNat (0:Int).toNat])) none) (some x6)) l=some (zaE l):=by
 have hL:=DB;refine LH (g:=λ_=>some (zaE l)) (λx=>∃j:Nat,j≤64 - l.length∧x=l++List.replicate j 0) (λx=>64 - x.length) (λx hx k hk=>?_) ⟨0,Nat.zero_le _,by simp⟩ (by show 64 - l.length<2^64;omega);obtain⟨j,hj,rfl⟩:=hx;have KV:(l++List.replicate j (0:UInt8)).length=l.length+j:=by simp
 by_cases MV:l.length+j<64
 ·rw[decide_eq_true (p:=((l++List.replicate j (0:UInt8)).length:Int)<64) (by omega),cond_true,JH (by rw[KV];simp;omega),cond_true];refine hk _ ⟨j+1,by omega,?_⟩ (by simp;omega);rw[zkD,List.append_assoc, ←List.replicate_succ']
 ·rw[decide_eq_false (p:=((l++List.replicate j (0:UInt8)).length:Int)<64) (by omega),cond_false,zaE];have:j=64 - l.length:=by omega
  rw[this]
def zoT(b:List UInt8):Nu b=some (kE b):=by
 have hL:=DB;simp only[Nu,aA,kE,List.nil_append]
 by_cases h:(b.length:Int)>1048576
 ·rw[decide_eq_true h];rfl
 rw[decide_eq_false h,DO (show b.length≤bA by omega)];simp only[cond_false,cond_true];cases decide ((b.length:Int)>64)
 ·exact zca b
 ·exact zca (JE b)
def fQ.ok{x}(_:xA [.sl .byte] x):Nu x=some (kE x):=zoT x
def zoR(b:List UInt8):Ni b=some (kE b):=by
 have hL:=DB;simp only[Ni,aA,kE,BA]
 by_cases h:(b.length:Int)>1048576
 ·rw[decide_eq_true h];rfl
 rw[decide_eq_false h,UA (p:=wt b≤bA) (by rw[FA];omega)];simp only[cond_false];cases decide ((b.length:Int)>64)
 ·exact zca b
 ·exact zca (JE b)
def YP.ok{x}(_:xA [.sl .byte] x):Ni x=some (kE x):=zoR x
def zfv{b:List UInt8}(h:b.length≤1048576):(kE b).length=64:=by
 rw[kE,decide_eq_false (by omega),cond_false,zaE,List.length_append,List.length_replicate];cases hd:decide ((b.length:Int)>64)
 ·have:=of_decide_eq_false hd;simp only[cond_false];omega
 ·have:=zas b;simp only[cond_true];omega
def zpC(b:List UInt8)(x:UInt8)(h:wt b≤bA):Nj b x=some (TE b x):=by
 have hl:b.length≤bA:=by rw[←FA];exact h
 have hL:=DB;simp only[Nj,aA];refine mI (X:=List UInt8×Int) (λy=>y.2) (λi=>(TE (b.take i) x,(i:Int))) (λ_=>rfl) b.length (lE h) _ 0 (Nat.zero_le _) (λi k _ hi=>?_) (λk=>by simp only[XD,cond_false,List.take_length]);have e:TE (b.take (i+1)) x=TE (b.take i) x++[zhA b[i] x]:=by rw[TE,qM b hi,List.map_append];rfl
 have hml:(TE (b.take i) x).length=i:=by rw[TE,List.length_map,List.length_take];omega
 simp only[BD hi,cond_true,JB hi,mB,jI (i:=i) (by rw[AD];omega)];rw[JH (by rw[hml];simp;omega),cond_true,e];rfl
def nR.ok{x}(_:xA [.sl .byte, .v .byte] x){r}:zak x.1 x.2=some r→Nj x.1 x.2=some r:=TA λh=>zpC x.1 x.2 h
def UN(b:List UInt8)(x:UInt8):(TE b x).length=b.length:=List.length_map ..
def zqP(k b:List UInt8):Nk k b=some (ZC k b):=by
 have hL:=DB;simp only[Nk,aA,ZC]
 by_cases h1:(k.length:Int)>1048576
 ·rw[decide_eq_true h1];rfl
 by_cases h2:(b.length:Int)>1048512
 ·rw[decide_eq_false h1,decide_eq_true h2];rfl
 have hk:=zfv (b:=k) (by omega);rw[decide_eq_false h1,decide_eq_false h2];simp only[cond_false,Bool.or_false,zak,UA (p:=wt (kE k)≤bA) (by rw[FA];omega),mD];rw[UA (by rw[zd9,UN];omega),zc4,UA (by rw[zd9,UN];have:=zas (TE (kE k) (UInt8.ofNat (54:Int).toNat)++b);omega),zc4];rfl
def xS.ok{x}(_:xA [.sl .byte, .sl .byte] x):Nk x.1 x.2=some (ZC x.1 x.2):=zqP x.1 x.2
def zxZ{l:List UInt8}{i:Nat}(h:i<l.length):l[i]?=some l[i]:=List.getElem?_eq_getElem h
def zjK(b:List UInt8)(x:UInt8){i:Nat}(hi:i<b.length):TE (b.take (i+1)) x=TE (b.take i) x++[zhA b[i] x]:=by rw[TE,qM b hi,List.map_append];rfl
def zqW(k b:List UInt8):Nv k b=some (ZC k b):=by
 have hL:=DB;simp only[Nv,aA,ZC]
 by_cases h1:(k.length:Int)>1048576
 ·rw[decide_eq_true h1];rfl
 by_cases h2:(b.length:Int)>1048512
 ·rw[decide_eq_false h1,decide_eq_true h2];rfl
 have hk:=zfv (b:=k) (by omega);rw[decide_eq_false h1,decide_eq_false h2];simp only[cond_false,Bool.or_false];refine mI (X:=List UInt8×List UInt8×Int) (λy=>y.2.2) (λi=>(TE ((kE k).take i) 54,TE ((kE k).take i) 92,(i:Int))) (λ_=>rfl) 64 (by decide) _ 0 (Nat.zero_le _) (λi kk _ hi=>?_) (λkk=>?_)
 ·have m9:i<(kE k).length:=by omega
  have m1:(TE ((kE k).take i) 54).length=i:=by rw[UN,List.length_take];omega
  have m2:(TE ((kE k).take i) 92).length=i:=by rw[UN,List.length_take];omega
  simp only[decide_eq_true (p:=(i:Int)<64) (by omega),cond_true,NF m9,Int.toNat_natCast,zxZ m9,mB,jI (i:=i) (by rw[AD];omega)];rw[JH (by rw[m1];simp;omega),cond_true,JH (by rw[m2];simp;omega),cond_true,zjK _ _ m9,zjK _ _ m9];rfl
 ·have ht:(kE k).take 64=kE k:=List.take_of_length_le (by omega);simp only[show((64:Nat):Int)=64 from rfl,show decide ((64:Int)<64)=false from rfl,cond_false,ht];have hs:=zas (TE (kE k) 54++b);rw[JH (by rw[UN];omega),cond_true,JH (by rw[UN];omega),cond_true]
def zS.ok{x}(_:xA [.sl .byte, .sl .byte] x):Nv x.1 x.2=some (ZC x.1 x.2):=zqW x.1 x.2
def KH{k b:List UInt8}(h1:k.length≤1048576)(h2:b.length≤1048512):(ZC k b).length=32:=by
 rw[ZC,decide_eq_false (by omega),decide_eq_false (by omega)];simp only[Bool.or_false,cond_false];refine zws ?_;have:=zas (TE (kE k) 54++b);rw[List.length_append,UN,zfv h1];omega
def BV(n:Int):(FD iN n 4).length=8:=by rw[zej,List.length_append,KN];rfl
def zpN(s:List UInt8)(n:Int):Nl s n=some (CD s n):=by
 have hL:=DB;simp only[Nl,aA,CD];cases h1:eA (s.length:Int) 1 32
 ·rfl
 cases h2:eA n 0 10000
 ·rfl
 have h1:=fD.1 h1;have hh:=KH (k:=s) (b:=FD iN n 4) (by omega) (by rw[BV];omega);simp only[Bool.not_true,cond_false,Bool.and_true,cond_true,YB];rw[UA (by rw[FA];simp;omega)];have hr:[UInt8.ofNat (114:Int).toNat,UInt8.ofNat (111:Int).toNat,UInt8.ofNat (108:Int).toNat,UInt8.ofNat (108:Int).toNat]=iN:=rfl;rw[hr,show(decide ((0:Int)≤0)&&decide ((0:Int)≤12)&&decide (12≤((ZC s (FD iN n 4)).length:Int)))=true by rw[hh];rfl,cond_true,List.drop_zero,BA,UA (by rw[FA,List.length_take];omega)]
def wR.ok{x}(_:xA [.sl .byte, .v .int] x):Nl x.1 x.2=some (CD x.1 x.2):=zpN x.1 x.2
def zpR(s:List UInt8)(n:Int):Nw s n=some (CD s n):=by
 have hL:=DB;simp only[Nw,aA,CD];cases h1:eA (s.length:Int) 1 32
 ·rfl
 cases h2:eA n 0 10000
 ·rfl
 have h1:=fD.1 h1;have hh:=KH (k:=s) (b:=FD iN n 4) (by omega) (by rw[BV];omega);simp only[Bool.not_true,cond_false,Bool.and_true,cond_true,YB];rw[UA (by rw[FA];simp;omega)];have hr:[UInt8.ofNat (114:Int).toNat,UInt8.ofNat (111:Int).toNat,UInt8.ofNat (108:Int).toNat,UInt8.ofNat (108:Int).toNat]=iN:=rfl;rw[hr,show(decide ((0:Int)≤0)&&decide ((0:Int)≤12)&&decide (12≤((ZC s (FD iN n 4)).length:Int)))=true by rw[hh];rfl,cond_true,List.drop_zero,DO (by rw[List.length_take];omega),cond_true,List.nil_append]
def CR.ok{x}(_:xA [.sl .byte, .v .int] x):Nw x.1 x.2=some (CD x.1 x.2):=zpR x.1 x.2
end Go.D
