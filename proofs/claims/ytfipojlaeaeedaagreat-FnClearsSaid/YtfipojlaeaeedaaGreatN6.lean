/-
 Sizes of the program's data.
-/
import Derived.Test.YtfipojlaeaeedaaGreatN5
set_option linter.all false
namespace Go.D
end Go.D
namespace Go.D
noncomputable section
def fK(n:Int)(i:Nat):UInt8:=UInt8.ofNat (IntKind.wrap .u8 (jB .i64 (zD .i64 n (BB .i64 8 (i:Int))) 255)).toNat
def zE(n:Int):Nat→List UInt8
 | 0=>[]
 | i+1=>fK n i :: zE n i
def nG(b:List UInt8)(n k:Int):List UInt8:=bif decide (k<1)||decide (k>6)then b else b++zE n k.toNat
def bC(b:List UInt8)(n k:Int):Option (List UInt8):=pt (wt b+6≤bA) (nG b n k)
def KF(l:List UInt8):Int:=l.foldl (λn x=>iA .i64 (BB .i64 n 256) (IntKind.wrap .i64 ((x.toNat:Nat):Int))) 0
def xK(b:List UInt8)(wA k:Int):Int×Int×Bool:=bif decide (k<1)||(decide (k>6)||(decide (wA<0)||decide (wA>(b.length:Int) - k)))then(0,0,false)else(KF ((b.drop wA.toNat).take k.toNat),iA .i64 wA k,true)
def QF(b:List UInt8)(wA k:Int):Option (Int×Int×Bool):=pt (wt b≤bA) (xK b wA k)
def cut(b:List UInt8)(f n:Int):List UInt8×Bool:=bif decide (f<0)||(decide (n<0)||(decide (f>(b.length:Int))||decide (n>(b.length:Int) - f)))then([],false)else((b.drop f.toNat).take n.toNat,true)
def nJ(b:List UInt8)(f n:Int):Option (List UInt8×Bool):=pt (wt b≤bA) (cut b f n)
def fI(b:List UInt8):Option (List UInt8):=pt (wt b≤bA) b
def YH(l:List (List UInt8)):Option (List UInt8):=pt (wt l≤bA) l.flatten
def SC(a:Int):Int:=jB .i64 a 4294967295
def uE(x n:Int):Int:=SC (bQ .i64 (zD .i64 (SC x) n) (TP .i64 (SC x) (oA .i64 32 n)))
def RC(x n:Int):Option Int:=pt (1≤n∧n≤31) (uE x n)
def gE(a b:Int):Int:=SC (iA .i64 a b)
def dD:List Int:=[1779033703,3144134277,1013904242,2773480762,1359893119,2600822924,528734635,1541459225]
def mG:List Int:=[1116352408,1899447441,3049323471,3921009573,961987163,1508970993,2453635748,2870763221,3624381080,310598401,607225278,1426881987,1925078388,2162078206,2614888103,3248222580,3835390401,4022224774,264347078,604807628,770255983,1249150122,1555081692,1996064986,2554220882,2821834349,2952996808,3210313671,3336571891,3584528711,113926993,338241895,666307205,773529912,1294757372,1396182291,1695183700,1986661051,2177026350,2456956037,2730485921,2820302411,3259730800,3345764771,3516065817,3600352804,4094571909,275423344,430227734,506948616,659060556,883997877,958139571,1322822218,1537002063,1747873779,1955562222,2024104815,2227730452,2361852424,2428436474,2756734187,3204031479,3329325298]
def HI(i:Int):Int:=if 0≤i∧i≤63 then mG.getD i.toNat 0 else 0
def FI(b:List UInt8)(w:List Int)(i:Nat):Int:=if i<16 then(xK b (4 *i:Nat) 4).1 else
 let x:=w.getD (i - 15) 0;let y:=w.getD (i - 2) 0
 SC (iA .i64 (iA .i64 (iA .i64 (w.getD (i - 7) 0) (w.getD (i - 16) 0)) (kB .i64 (kB .i64 (uE x 7) (uE x 18)) (zD .i64 x 3))) (kB .i64 (kB .i64 (uE y 17) (uE y 19)) (zD .i64 y 10)))
def qC(b:List UInt8):Nat→List Int
 | 0=>[]
 | i+1=>qC b i++[FI b (qC b i) i]
def LB(b:List UInt8):List Int:=if b.length=64 then qC b 64 else[]
def CI(b:List UInt8):Option (List Int):=pt (wt b≤bA) (LB b)
abbrev S8:=Int×Int×Int×Int×Int×Int×Int×Int
def rT(k w:Int)(s:S8):Int:=
 iA .i64 (iA .i64 (iA .i64 (iA .i64 s.2.2.2.2.2.2.2 (kB .i64 (kB .i64 (uE s.2.2.2.2.1 6) (uE s.2.2.2.2.1 11)) (uE s.2.2.2.2.1 25)))
  (kB .i64 (jB .i64 s.2.2.2.2.1 s.2.2.2.2.2.1) (jB .i64 (kB .i64 s.2.2.2.2.1 4294967295) s.2.2.2.2.2.2.1))) k) w
def rU(s:S8):Int:=iA .i64 (kB .i64 (kB .i64 (uE s.1 2) (uE s.1 13)) (uE s.1 22)) (kB .i64 (kB .i64 (jB .i64 s.1 s.2.1) (jB .i64 s.1 s.2.2.1)) (jB .i64 s.2.1 s.2.2.1))
def tU(l:List Int):Bool:=MB l 8
def SU(k w:Int)(s:S8):S8:=(SC (iA .i64 (SC (rT k w s)) (SC (rU s))),s.1,s.2.1,s.2.2.1,SC (iA .i64 s.2.2.2.1 (SC (rT k w s))),s.2.2.2.2.1,s.2.2.2.2.2.1,s.2.2.2.2.2.2.1)
def rounds(w:List Int)(s:S8):Nat→S8
 | 0=>s
 | i+1=>SU (mG.getD i 0) (w.getD i 0) (rounds w s i)
def TC(h:List Int):S8:=(h.getD 0 0,h.getD 1 0,h.getD 2 0,h.getD 3 0,h.getD 4 0,h.getD 5 0,h.getD 6 0,h.getD 7 0)
def NF(s:S8):List Int:=[s.1,s.2.1,s.2.2.1,s.2.2.2.1,s.2.2.2.2.1,s.2.2.2.2.2.1,s.2.2.2.2.2.2.1,s.2.2.2.2.2.2.2]
def QD(h:List Int)(b:List UInt8):List Int:=List.zipWith gE h (NF (rounds (LB b) (TC h) 64))
def SH(h:List Int)(b:List UInt8):List Int:=bif MB h 8&&b.length==64 then QD h b else h
def OH(h:List Int)(b:List UInt8):Option (List Int):=pt (wt h≤bA∧wt b≤bA) (SH h b)
def OB(h:List Int):Nat→List UInt8→List Int
 | 0,_=>h
 | n+1,b=>OB (SH h (b.take 64)) n (b.drop 64)
def HN(h:List Int)(b:List UInt8):Option (List Int×List UInt8):=pt (wt h≤bA∧MB h 8=true∧wt b≤bA) (OB h (b.length / 64) b,b.drop (64 *(b.length / 64)))
def DD(h:List Int):List UInt8:=h.flatMap λx=>zE x 4
def JH(h:List Int):Option (List UInt8):=pt (h.length=8) (DD h)
def MD(n:Nat):Nat:=(119 - n % 64) % 64
def sC(n:Nat):List UInt8:=(128 :: List.replicate (MD n) 0)++([0,0,0,0]++zE ((8 *n:Nat):Int) 4)
def lJ(n:Int):Option (List UInt8):=pt (0≤n∧n≤1048576) (sC n.toNat)
def BU(b:List UInt8):List UInt8:=DD (OB dD ((b++sC b.length).length / 64) (b++sC b.length))
def fD(b:List UInt8):List UInt8:=bif decide ((b.length:Int)>1048576)then[]else BU b
def QE(h:Ba):Bool:=MB h.H 8&&gA h.N 0 1048576&&DA .i64 h.N 64==(h.Held.length:Int)
def GT(h:Ba)(b:List UInt8):Option Ba:=pt (QE h=true∧(b.length:Int)≤1048576 - h.N) ⟨OB h.H ((h.Held++b).length / 64) (h.Held++b),(h.Held++b).drop (64 *((h.Held++b).length / 64)),h.N+b.length⟩
def qT(h:Ba):Option (List UInt8):=pt (QE h=true) (DD (OB h.H ((h.Held++sC h.N.toNat).length / 64) (h.Held++sC h.N.toNat)))
def ZJ:Ba:=⟨dD,[],0⟩
def RP(l:List UInt8):List UInt8:=l++List.replicate (64 - l.length) 0
def MC(k:List UInt8):List UInt8:=bif decide ((k.length:Int)>1048576)then[]else RP (bif decide ((k.length:Int)>64)then fD k else k)
def zbT(x y:UInt8):UInt8:=UInt8.ofNat (kB .u8 ((x.toNat:Nat):Int) ((y.toNat:Nat):Int)).toNat
def nD(b:List UInt8)(x:UInt8):List UInt8:=b.map λy=>zbT y x
def BP(b:List UInt8)(x:UInt8):Option (List UInt8):=pt (wt b≤bA) (nD b x)
def YC(k b:List UInt8):List UInt8:=bif decide ((k.length:Int)>1048576)||decide ((b.length:Int)>1048512)then[]else fD (nD (MC k) 92++fD (nD (MC k) 54++b))
def qJ:List UInt8:=[114,111,108,108]
def aC(s:List UInt8)(n:Int):List UInt8:=bif gA (s.length:Int) 1 32&&gA n 0 10000 then(YC s (nG qJ n 4)).take 12 else[]
def za0(w:Aa)(i:Nat):Bool:=decide (AE w.S.T (aC w.S.D.Seed (iA .i64 w.S.D.N (i:Int)))≥0)
def VH(w:Aa)(id:Int):Bool:=mD w&&gA id 1 2&&decide (w.Now≤999990)&&
 (w.Clients[(id - 1).toNat]?).any λc=>(w.Clients[(2 - id).toNat]?).any λo=>c.St==0&&(o.St==0||o.St==3)&&JF w c.At==id&&decide (pG w.S.T<w.S.T.Cap)&&decide ((w.S.T.L.length:Int)<12)&&lE w.S.Cr c.At&&decide (w.D.N<10000)&&decide (w.S.D.N≤9992)&&!XA 8 (za0 w)
def wG(w:Aa)(id:Int):Option Bool:=pt (wt w≤bA) (VH w id)
end
end Go.D
namespace Go.D
open Option renaming bind→ob
noncomputable section
def Lz(a0:List UInt8):=
 cond (decide (([]:List UInt8).length+a0.length≤bA)) (some ([]++a0)) none
def Fl(a0:List UInt8)(a1:Int)(a2:Int):=
 cond (decide (([]:List UInt8).length+a0.length≤bA)) (aA (λy1=>
 cond (y1)
 (some ([]++a0))
 (aA (λ(y3:(List UInt8))=>
 some y3) λk4=>
 uA FU (λ(x5:(List UInt8)×Int) k6=>
 cond (decide (x5.2≥0))
 (cond (decide ((BB .i64 8 x5.2)<0)) none (let x7:Int:=jB .i64 (zD .i64 a1 (BB .i64 8 x5.2)) 255
 cond (decide (x5.1.length+[UInt8.ofNat (IntKind.wrap .u8 x7:Int).toNat].length≤bA)) (k6 ((x5.1++[UInt8.ofNat (IntKind.wrap .u8 x7:Int).toNat]),(oA .i64 x5.2 1))) none))
 (k4 x5.1)) (([]++a0),(oA .i64 a2 1)))) λk2=>
 cond (decide (a2<1))
 (k2 true)
 (k2 (decide (a2>6)))) none
def Ma:=
 let x1:List Int:=[1779033703,3144134277,1013904242,2773480762,1359893119,2600822924,528734635,1541459225]
 some x1
def Mb:=
 let r1:(List Int):=dD
 some (⟨r1,[],0⟩:Ba)
def Fm(a0:Ba):=
 aA (λ(y1:Bool)=>
 some y1) λk2=>
 cond ((MB a0.H 8))
 (cond ((gA a0.N 0 1048576))
 (k2 ((DA .i64 a0.N 64)==(a0.Held.length:Int)))
 (k2 false))
 (k2 false)
def Fn(a0:List (List UInt8)):=
 aA (λ(y1:(List UInt8))=>
 some y1) λk2=>
 uA FU (λ(x3:(List UInt8)×Int) k4=>
 cond (decide (x3.2<(a0.length:Int)))
 (ob (lA a0 x3.2) λe5=>
 cond (decide (x3.1.length+e5.length≤bA)) (k4 ((x3.1++e5),(iA .i64 x3.2 1))) none)
 (k2 x3.1)) ([],0)
def Fo(a0:List UInt8)(a1:Int)(a2:Int):=
 aA (λy1=>
 cond (y1)
 (some ([],false))
 (cond (decide (0≤a1)&&decide (a1≤(iA .i64 a1 a2))&&decide ((iA .i64 a1 a2)≤(a0.length:Int))) (let l3:List UInt8:=List.take ((iA .i64 a1 a2 - a1).toNat) (List.drop a1.toNat a0)
 cond (decide (([]:List UInt8).length+l3.length≤bA)) (some ([]++l3,true)) none) none)) λk2=>
 cond (decide (a1<0))
 (k2 true)
 (cond (decide (a2<0))
 (k2 true)
 (cond (decide (a1>(a0.length:Int)))
 (k2 true)
 (k2 (decide (a2>(oA .i64 (a0.length:Int) a1))))))
def Fp(a0:List UInt8)(a1:Int)(a2:Int):=
 aA (λy1=>
 cond (y1)
 (some (0,0,false))
 (ob (nJ a0 a1 a2) λr3=>
 cond (!r3.2)
 (some (0,0,false))
 (aA (λ(y4:Int)=>
 some (y4,iA .i64 a1 a2,true)) λk5=>
 uA FU (λ(x6:Int×Int) k7=>
 cond (decide (x6.2<(r3.1.length:Int)))
 (cond (decide (0≤x6.2)&&decide (x6.2<(r3.1.length:Int))) (ob (r3.1[x6.2.toNat]?) λe8=>
 let x9:Int:=IntKind.wrap .i64 ((e8.toNat:Nat):Int)
 k7 ((iA .i64 (BB .i64 256 x6.1) x9),(iA .i64 x6.2 1))) none)
 (k5 x6.1)) (0,0)))) λk2=>
 cond (decide (a2<1))
 (k2 true)
 (k2 (decide (a2>6)))
def Fq(a0:Int)(a1:Int):=
 aA (λy1=>
 cond (y1)
 (some (jB .i64 a0 4294967295))
 (cond (decide (a1<0)) none (cond (decide ((oA .i64 32 a1)<0)) none (let x3:Int:=TP .i64 (jB .i64 a0 4294967295) (oA .i64 32 a1)
 let x4:Int:=bQ .i64 (zD .i64 (jB .i64 a0 4294967295) a1) x3
 some (jB .i64 x4 4294967295))))) λk2=>
 cond (decide (a1<0))
 (k2 true)
 (k2 (decide (a1>31)))
def Fr(a0:List UInt8):=
 cond ((a0.length:Int) !=64)
 (some [])
 (aA (λ(y1:(List Int))=>
 aA (λ(y7:(List Int))=>
 some y7) λk8=>
 uA FU (λ(x9:Int×(List Int)) k10=>
 cond (decide (x9.1<64))
 (cond (decide (0≤oA .i64 x9.1 15)&&decide (oA .i64 x9.1 15<(x9.2.length:Int))) (ob (x9.2[(oA .i64 x9.1 15).toNat]?) λe11=>
 cond (decide (0≤oA .i64 x9.1 2)&&decide (oA .i64 x9.1 2<(x9.2.length:Int))) (ob (x9.2[(oA .i64 x9.1 2).toNat]?) λe12=>
 ob (RC e11 7) λr13=>
 ob (RC e11 18) λr14=>
 let x15:Int:=kB .i64 (kB .i64 r13 r14) (zD .i64 e11 3)
 ob (RC e12 17) λr16=>
 ob (RC e12 19) λr17=>
 let x18:Int:=kB .i64 (kB .i64 r16 r17) (zD .i64 e12 10)
 cond (decide (0≤oA .i64 x9.1 7)&&decide (oA .i64 x9.1 7<(x9.2.length:Int))) (ob (x9.2[(oA .i64 x9.1 7).toNat]?) λe19=>
 cond (decide (0≤oA .i64 x9.1 16)&&decide (oA .i64 x9.1 16<(x9.2.length:Int))) (ob (x9.2[(oA .i64 x9.1 16).toNat]?) λe20=>
 let x21:Int:=iA .i64 (iA .i64 (iA .i64 e19 e20) x15) x18
 cond (decide (0≤x9.1)&&decide (x9.1<(x9.2.length:Int))) (ob (x9.2[x9.1.toNat]?) λe22=>
 k10 ((iA .i64 x9.1 1),(List.set x9.2 x9.1.toNat (jB .i64 x21 4294967295)))) none) none) none) none) none)
 (k8 x9.2)) (16,y1)) λk2=>
 uA FU (λ(x3:Int×(List Int)) k4=>
 cond (decide (x3.1<16))
 (ob (QF a0 (BB .i64 4 x3.1) 4) λr5=>
 cond (decide (0≤x3.1)&&decide (x3.1<(x3.2.length:Int))) (ob (x3.2[x3.1.toNat]?) λe6=>
 k4 ((iA .i64 x3.1 1),(List.set x3.2 x3.1.toNat r5.1))) none)
 (k2 x3.2)) (0,(List.replicate (64:Int).toNat (0:Int))))
def Cg(a0:Int):Option Int:=
 aA (λy1=>
 cond (y1)
 (some 0)
 (cond (a0==(0:Int)) (some 1116352408) (cond (a0==(1:Int)) (some 1899447441) (cond (a0==(2:Int)) (some 3049323471) (cond (a0==(3:Int)) (some 3921009573) (cond (a0==(4:Int)) (some 961987163) (cond (a0==(5:Int)) (some 1508970993) (cond (a0==(6:Int)) (some 2453635748) (cond (a0==(7:Int)) (some 2870763221) (cond (a0==(8:Int)) (some 3624381080) (cond (a0==(9:Int)) (some 310598401) (cond (a0==(10:Int)) (some 607225278) (cond (a0==(11:Int)) (some 1426881987) (cond (a0==(12:Int)) (some 1925078388) (cond (a0==(13:Int)) (some 2162078206) (cond (a0==(14:Int)) (some 2614888103) (cond (a0==(15:Int)) (some 3248222580) (cond (a0==(16:Int)) (some 3835390401) (cond (a0==(17:Int)) (some 4022224774) (cond (a0==(18:Int)) (some 264347078) (cond (a0==(19:Int)) (some 604807628) (cond (a0==(20:Int)) (some 770255983) (cond (a0==(21:Int)) (some 1249150122) (cond (a0==(22:Int)) (some 1555081692) (cond (a0==(23:Int)) (some 1996064986) (cond (a0==(24:Int)) (some 2554220882) (cond (a0==(25:Int)) (some 2821834349) (cond (a0==(26:Int)) (some 2952996808) (cond (a0==(27:Int)) (some 3210313671) (cond (a0==(28:Int)) (some 3336571891) (cond (a0==(29:Int)) (some 3584528711) (cond (a0==(30:Int)) (some 113926993) (cond (a0==(31:Int)) (some 338241895) (cond (a0==(32:Int)) (some 666307205) (cond (a0==(33:Int)) (some 773529912) (cond (a0==(34:Int)) (some 1294757372) (cond (a0==(35:Int)) (some 1396182291) (cond (a0==(36:Int)) (some 1695183700) (cond (a0==(37:Int)) (some 1986661051) (cond (a0==(38:Int)) (some 2177026350) (cond (a0==(39:Int)) (some 2456956037) (cond (a0==(40:Int)) (some 2730485921) (cond (a0==(41:Int)) (some 2820302411) (cond (a0==(42:Int)) (some 3259730800) (cond (a0==(43:Int)) (some 3345764771) (cond (a0==(44:Int)) (some 3516065817) (cond (a0==(45:Int)) (some 3600352804) (cond (a0==(46:Int)) (some 4094571909) (cond (a0==(47:Int)) (some 275423344) (cond (a0==(48:Int)) (some 430227734) (cond (a0==(49:Int)) (some 506948616) (cond (a0==(50:Int)) (some 659060556) (cond (a0==(51:Int)) (some 883997877) (cond (a0==(52:Int)) (some 958139571) (cond (a0==(53:Int)) (some 1322822218) (cond (a0==(54:Int)) (some 1537002063) (cond (a0==(55:Int)) (some 1747873779) (cond (a0==(56:Int)) (some 1955562222) (cond (a0==(57:Int)) (some 2024104815) (cond (a0==(58:Int)) (some 2227730452) (cond (a0==(59:Int)) (some 2361852424) (cond (a0==(60:Int)) (some 2428436474) (cond (a0==(61:Int)) (some 2756734187) (cond (a0==(62:Int)) (some 3204031479) (cond (a0==(63:Int)) (some 3329325298) (none)))))))))))))))))))))))))))))))))))))))))))))))))))))))))))))))))) λk2=>
 cond (decide (a0<0))
 (k2 true)
 (k2 (decide (a0>63)))
def Mc(a0:Int)(a1:Int):=
 some (jB .i64 (iA .i64 a0 a1) 4294967295)
def Fs(a0:List Int)(a1:List UInt8):=
 cond (decide (([]:List Int).length+a0.length≤bA)) (aA (λy1=>
 cond (y1)
 (some ([]++a0))
 (ob (CI a1) λr3=>
 ob (lA a0 0) λe4=>
 ob (lA a0 1) λe5=>
 ob (lA a0 2) λe6=>
 ob (lA a0 3) λe7=>
 ob (lA a0 4) λe8=>
 ob (lA a0 5) λe9=>
 ob (lA a0 6) λe10=>
 ob (lA a0 7) λe11=>
 aA (λ(y12:Int×Int×Int×Int×Int×Int×Int×Int)=>
 let x31:List Int:=[y12.1,y12.2.1,y12.2.2.1,y12.2.2.2.1,y12.2.2.2.2.1,y12.2.2.2.2.2.1,y12.2.2.2.2.2.2.1,y12.2.2.2.2.2.2.2]
 aA (λ(y32:(List Int))=>
 some y32) λk33=>
 uA FU (λ(x34:Int×(List Int)) k35=>
 cond (decide (x34.1<(x31.length:Int)))
 (cond (decide (0≤x34.1)&&decide (x34.1<(x31.length:Int))) (ob (x31[x34.1.toNat]?) λe36=>
 ob (lA a0 x34.1) λe37=>
 cond (decide (0≤x34.1)&&decide (x34.1<(x34.2.length:Int))) (ob (x34.2[x34.1.toNat]?) λe38=>
 k35 ((iA .i64 x34.1 1),(List.set x34.2 x34.1.toNat (gE e37 e36)))) none) none)
 (k33 x34.2)) (0,([]++a0))) λk13=>
 uA FU (λ(x14:Int×Int×Int×Int×Int×Int×Int×Int×Int) k15=>
 cond (decide (x14.2.2.2.2.2.2.2.2<64))
 (let x16:Int:=jB .i64 (kB .i64 4294967295 x14.2.2.2.2.1) x14.2.2.2.2.2.2.1
 let x17:Int:=kB .i64 (jB .i64 x14.2.2.2.2.1 x14.2.2.2.2.2.1) x16;let x18:Int:=kB .i64 (jB .i64 x14.1 x14.2.1) (jB .i64 x14.1 x14.2.2.1);let x19:Int:=kB .i64 x18 (jB .i64 x14.2.1 x14.2.2.1)
 ob (RC x14.2.2.2.2.1 6) λr20=>
 ob (RC x14.2.2.2.2.1 11) λr21=>
 ob (RC x14.2.2.2.2.1 25) λr22=>
 let x23:Int:=iA .i64 x14.2.2.2.2.2.2.2.1 (kB .i64 (kB .i64 r20 r21) r22);let x24:Int:=iA .i64 (iA .i64 x23 x17) (HI x14.2.2.2.2.2.2.2.2)
 cond (decide (0≤x14.2.2.2.2.2.2.2.2)&&decide (x14.2.2.2.2.2.2.2.2<(r3.length:Int))) (ob (r3[x14.2.2.2.2.2.2.2.2.toNat]?) λe25=>
 ob (RC x14.1 2) λr26=>
 ob (RC x14.1 13) λr27=>
 ob (RC x14.1 22) λr28=>
 let x29:Int:=iA .i64 (kB .i64 (kB .i64 r26 r27) r28) x19;let r30:Int:=gE x14.2.2.2.1 (iA .i64 x24 e25)
 k15 ((gE (iA .i64 x24 e25) x29),x14.1,x14.2.1,x14.2.2.1,r30,x14.2.2.2.2.1,x14.2.2.2.2.2.1,x14.2.2.2.2.2.2.1,(iA .i64 x14.2.2.2.2.2.2.2.2 1))) none)
 (k13 (x14.1,x14.2.1,x14.2.2.1,x14.2.2.2.1,x14.2.2.2.2.1,x14.2.2.2.2.2.1,x14.2.2.2.2.2.2.1,x14.2.2.2.2.2.2.2.1))) (e4,e5,e6,e7,e8,e9,e10,e11,0))) λk2=>
 cond (!(MB a0 8))
 (k2 true)
 (k2 ((a1.length:Int) !=64))) none
def Ft(a0:List Int)(a1:List UInt8):=
 aA (λ(y1:(List Int)×(List UInt8))=>
 some (y1.1,y1.2)) λk2=>
 uA FU (λ(x3:(List Int)×(List UInt8)) k4=>
 cond (decide ((x3.2.length:Int)≥64))
 (cond (decide (0≤(0:Int))&&decide ((0:Int)≤64)&&decide (64≤(x3.2.length:Int))) (let l5:List UInt8:=List.take 64 (List.drop 0 x3.2)
 ob (OH x3.1 l5) λr6=>
 cond (decide (0≤(64:Int))&&decide ((64:Int)≤(x3.2.length:Int))&&decide ((x3.2.length:Int)≤(x3.2.length:Int))) (let l7:List UInt8:=List.take (((x3.2.length:Int) - 64).toNat) (List.drop 64 x3.2)
 k4 (r6,l7)) none) none)
 (k2 (x3.1,x3.2))) (a0,a1)
def Fu(a0:Ba)(a1:List UInt8):=
 aA (λy1=>
 cond (y1)
 (cond (decide (([]:List Int).length+a0.H.length≤bA)) (ob (fI a0.Held) λr3=>
 some (⟨[]++a0.H,r3,a0.N⟩:Ba)) none)
 (ob (YH [a0.Held,a1]) λr4=>
 ob (HN a0.H r4) λr5=>
 cond (decide (([]:List Int).length+r5.1.length≤bA)) (ob (fI r5.2) λr6=>
 some (⟨[]++r5.1,r6,iA .i64 a0.N (a1.length:Int)⟩:Ba)) none)) λk2=>
 cond (!(QE a0))
 (k2 true)
 (k2 (decide ((a1.length:Int)>(oA .i64 1048576 a0.N))))
def Fv(a0:Int):=
 cond (!(gA a0 0 1048576))
 (some [])
 (aA (λ(y1:(List UInt8))=>
 cond (decide (y1.length+[UInt8.ofNat (0:Int).toNat,UInt8.ofNat (0:Int).toNat].length≤bA)) (let x6:List UInt8:=y1++[UInt8.ofNat (0:Int).toNat,UInt8.ofNat (0:Int).toNat]
 ob (bC x6 (BB .i64 8 a0) 6) λr7=>
 some r7) none) λk2=>
 uA FU (λ(x3:(List UInt8)) k4=>
 let x5:Int:=iA .i64 (iA .i64 a0 (x3.length:Int)) 8
 cond ((DA .i64 x5 64) !=0)
 (cond (decide (x3.length+[UInt8.ofNat (0:Int).toNat].length≤bA)) (k4 (x3++[UInt8.ofNat (0:Int).toNat])) none)
 (k2 x3)) [UInt8.ofNat (128:Int).toNat])
def Fw(a0:List Int):=
 aA (λ(y1:(List UInt8))=>
 some y1) λk2=>
 uA FU (λ(x3:(List UInt8)×Int) k4=>
 cond (decide (x3.2<(a0.length:Int)))
 (ob (lA a0 x3.2) λe5=>
 ob (bC x3.1 e5 4) λr6=>
 k4 (r6,(iA .i64 x3.2 1)))
 (k2 x3.1)) ([],0)
def Fx(a0:Ba):=
 cond (!(QE a0))
 (some [])
 (ob (lJ a0.N) λr1=>
 ob (YH [a0.Held,r1]) λr2=>
 ob (HN a0.H r2) λr3=>
 ob (JH r3.1) λr4=>
 some r4)
def Fy(a0:List UInt8):=
 cond (decide ((a0.length:Int)>1048576))
 (some [])
 (let r1:Ba:=ZJ
 ob (GT r1 a0) λr2=>
 ob (qT r2) λr3=>
 some r3)
def Fz(a0:List UInt8):=
 cond (decide ((a0.length:Int)>1048576))
 (some [])
 (ob (fI a0) λr1=>
 aA (λ(y2:(List UInt8))=>
 aA (λ(y5:(List UInt8))=>
 some y5) λk6=>
 uA FU (λ(x7:(List UInt8)) k8=>
 cond (decide ((x7.length:Int)<64))
 (cond (decide (x7.length+[UInt8.ofNat (0:Int).toNat].length≤bA)) (k8 (x7++[UInt8.ofNat (0:Int).toNat])) none)
 (k6 x7)) y2) λk3=>
 cond (decide ((a0.length:Int)>64))
 (let r4:(List UInt8):=fD a0
 k3 r4)
 (k3 r1))
def Ga(a0:List UInt8)(a1:UInt8):=
 aA (λ(y1:(List UInt8))=>
 some y1) λk2=>
 uA FU (λ(x3:(List UInt8)×Int) k4=>
 cond (decide (x3.2<(a0.length:Int)))
 (ob (lA a0 x3.2) λe5=>
 let x6:Int:=kB .u8 ((e5.toNat:Nat):Int) ((a1.toNat:Nat):Int)
 cond (decide (x3.1.length+[UInt8.ofNat (x6:Int).toNat].length≤bA)) (k4 ((x3.1++[UInt8.ofNat (x6:Int).toNat]),(iA .i64 x3.2 1))) none)
 (k2 x3.1)) ([],0)
def Gb(a0:List UInt8)(a1:List UInt8):=
 aA (λy1=>
 cond (y1)
 (some [])
 (let r3:(List UInt8):=MC a0
 ob (BP r3 (UInt8.ofNat (92:Int).toNat)) λr4=>
 ob (BP r3 (UInt8.ofNat (54:Int).toNat)) λr5=>
 ob (YH [r5,a1]) λr6=>
 let r7:(List UInt8):=fD r6
 ob (YH [r4,r7]) λr8=>
 let r9:(List UInt8):=fD r8
 some r9)) λk2=>
 cond (decide ((a0.length:Int)>1048576))
 (k2 true)
 (k2 (decide ((a1.length:Int)>1048512)))
def Gc(a0:List UInt8)(a1:Int):=
 aA (λy1=>
 cond (y1)
 (some [])
 (let x3:List UInt8:=[UInt8.ofNat (114:Int).toNat,UInt8.ofNat (111:Int).toNat,UInt8.ofNat (108:Int).toNat,UInt8.ofNat (108:Int).toNat]
 ob (bC x3 a1 4) λr4=>
 let r5:(List UInt8):=YC a0 r4
 cond (decide (0≤(0:Int))&&decide ((0:Int)≤12)&&decide (12≤(r5.length:Int))) (ob (fI (List.take 12 (List.drop 0 r5))) λr6=>
 some r6) none)) λk2=>
 cond (!(gA (a0.length:Int) 1 32))
 (k2 true)
 (k2 (!(gA a1 0 10000)))
def Md(a0:List UInt8)(a1:Int)(a2:Int):=
 cond (decide (([]:List UInt8).length+a0.length≤bA)) (aA (λy1=>
 cond (y1)
 (some ([]++a0))
 (aA (λ(y3:(List UInt8))=>
 some y3) λk4=>
 uA FU (λ(x5:(List UInt8)×Int) k6=>
 cond (decide (x5.2≥0))
 (cond (decide ((BB .i64 8 x5.2)<0)) none (let x7:Int:=jB .i64 (zD .i64 a1 (BB .i64 8 x5.2)) 255
 cond (decide (x5.1.length+[UInt8.ofNat (IntKind.wrap .u8 x7:Int).toNat].length≤bA)) (k6 ((x5.1++[UInt8.ofNat (IntKind.wrap .u8 x7:Int).toNat]),(oA .i64 x5.2 1))) none))
 (k4 x5.1)) (([]++a0),(oA .i64 a2 1)))) λk2=>
 cond (decide (a2<1))
 (k2 true)
 (k2 (decide (a2>6)))) none
def Gd(a0:Int):=
 aA (λy1=>
 cond (y1)
 (some [])
 (aA (λ(y3:(List UInt8))=>
 ob (bC y3 0 4) λr8=>
 ob (bC r8 (BB .i64 8 a0) 4) λr9=>
 some r9) λk4=>
 uA FU (λ(x5:(List UInt8)) k6=>
 let x7:Int:=iA .i64 (iA .i64 a0 (x5.length:Int)) 8
 cond ((DA .i64 x7 64) !=0)
 (cond (decide (x5.length+[UInt8.ofNat (0:Int).toNat].length≤bA)) (k6 (x5++[UInt8.ofNat (0:Int).toNat])) none)
 (k4 x5)) [UInt8.ofNat (128:Int).toNat])) λk2=>
 cond (decide (a0<0))
 (k2 true)
 (k2 (decide (a0>1048576)))
def Me:=
 let x1:List Int:=[1779033703,3144134277,1013904242,2773480762,1359893119,2600822924,528734635,1541459225]
 some x1
def Ge(a0:List Int):=
 aA (λ(y1:Unit)=>
 some ((a0.length:Int)==8)) λk2=>
 uA FU (λ(x3:Int) k4=>
 cond (decide (x3<(a0.length:Int)))
 (ob (lA a0 x3) λe5=>
 cond (!(gA e5 0 4294967295))
 (some false)
 (k4 (iA .i64 x3 1)))
 (k2 ())) 0
def Mf:=
 let x1:List Int:=[1116352408,1899447441,3049323471,3921009573,961987163,1508970993,2453635748,2870763221,3624381080,310598401,607225278,1426881987,1925078388,2162078206,2614888103,3248222580,3835390401,4022224774,264347078,604807628,770255983,1249150122,1555081692,1996064986,2554220882,2821834349,2952996808,3210313671,3336571891,3584528711,113926993,338241895,666307205,773529912,1294757372,1396182291,1695183700,1986661051,2177026350,2456956037,2730485921,2820302411,3259730800,3345764771,3516065817,3600352804,4094571909,275423344,430227734,506948616,659060556,883997877,958139571,1322822218,1537002063,1747873779,1955562222,2024104815,2227730452,2361852424,2428436474,2756734187,3204031479,3329325298]
 some x1
def Gf(a0:List UInt8)(a1:Int)(a2:Int):=
 aA (λy1=>
 cond (y1)
 (some (0,0,false))
 (aA (λ(y3:Int)=>
 some (y3,iA .i64 a1 a2,true)) λk4=>
 uA FU (λ(x5:Int×Int) k6=>
 cond (decide (x5.2<a2))
 (ob (lA a0 (iA .i64 a1 x5.2)) λe7=>
 let x8:Int:=IntKind.wrap .i64 ((e7.toNat:Nat):Int)
 k6 ((iA .i64 (BB .i64 x5.1 256) x8),(iA .i64 x5.2 1)))
 (k4 x5.1)) (0,0))) λk2=>
 cond (decide (a2<1))
 (k2 true)
 (cond (decide (a2>6))
 (k2 true)
 (cond (decide (a1<0))
 (k2 true)
 (k2 (decide (a1>(oA .i64 (a0.length:Int) a2))))))
def Gg(a0:Int)(a1:Int):=
 aA (λy1=>
 cond (y1)
 (some (jB .i64 a0 4294967295))
 (cond (decide (a1<0)) none (cond (decide ((oA .i64 32 a1)<0)) none (let x3:Int:=TP .i64 (jB .i64 a0 4294967295) (oA .i64 32 a1)
 let x4:Int:=bQ .i64 (zD .i64 (jB .i64 a0 4294967295) a1) x3
 some (jB .i64 x4 4294967295))))) λk2=>
 cond (decide (a1<1))
 (k2 true)
 (k2 (decide (a1>31)))
def Gh(a0:List UInt8):=
 cond ((a0.length:Int) !=64)
 (some [])
 (aA (λ(y1:(List Int))=>
 aA (λ(y6:(List Int))=>
 some y6) λk7=>
 uA FU (λ(x8:(List Int)×Int) k9=>
 cond (decide (x8.2<64))
 (cond (decide (0≤oA .i64 x8.2 15)&&decide (oA .i64 x8.2 15<(x8.1.length:Int))) (ob (x8.1[(oA .i64 x8.2 15).toNat]?) λe10=>
 cond (decide (0≤oA .i64 x8.2 2)&&decide (oA .i64 x8.2 2<(x8.1.length:Int))) (ob (x8.1[(oA .i64 x8.2 2).toNat]?) λe11=>
 ob (RC e10 7) λr12=>
 ob (RC e10 18) λr13=>
 let x14:Int:=kB .i64 (kB .i64 r12 r13) (zD .i64 e10 3)
 ob (RC e11 17) λr15=>
 ob (RC e11 19) λr16=>
 let x17:Int:=kB .i64 (kB .i64 r15 r16) (zD .i64 e11 10)
 cond (decide (0≤oA .i64 x8.2 7)&&decide (oA .i64 x8.2 7<(x8.1.length:Int))) (ob (x8.1[(oA .i64 x8.2 7).toNat]?) λe18=>
 cond (decide (0≤oA .i64 x8.2 16)&&decide (oA .i64 x8.2 16<(x8.1.length:Int))) (ob (x8.1[(oA .i64 x8.2 16).toNat]?) λe19=>
 let x20:Int:=iA .i64 (iA .i64 (iA .i64 e18 e19) x14) x17
 cond (decide (x8.1.length+[jB .i64 x20 4294967295].length≤bA)) (k9 ((x8.1++[jB .i64 x20 4294967295]),(iA .i64 x8.2 1))) none) none) none) none) none)
 (k7 x8.1)) (y1,16)) λk2=>
 uA FU (λ(x3:(List Int)×Int) k4=>
 cond (decide (x3.2<16))
 (ob (QF a0 (BB .i64 4 x3.2) 4) λr5=>
 cond (decide (x3.1.length+[r5.1].length≤bA)) (k4 ((x3.1++[r5.1]),(iA .i64 x3.2 1))) none)
 (k2 x3.1)) ([],0))
def Gi(a0:List Int)(a1:List UInt8):=
 cond (decide (([]:List Int).length+a0.length≤bA)) (aA (λy1=>
 cond (y1)
 (some ([]++a0))
 (let r3:(List Int):=mG
 ob (CI a1) λr4=>
 ob (lA a0 0) λe5=>
 ob (lA a0 1) λe6=>
 ob (lA a0 2) λe7=>
 ob (lA a0 3) λe8=>
 ob (lA a0 4) λe9=>
 ob (lA a0 5) λe10=>
 ob (lA a0 6) λe11=>
 ob (lA a0 7) λe12=>
 aA (λ(y13:Int×Int×Int×Int×Int×Int×Int×Int)=>
 let x34:List Int:=[y13.1,y13.2.1,y13.2.2.1,y13.2.2.2.1,y13.2.2.2.2.1,y13.2.2.2.2.2.1,y13.2.2.2.2.2.2.1,y13.2.2.2.2.2.2.2]
 aA (λ(y35:(List Int))=>
 some y35) λk36=>
 uA FU (λ(x37:Int×(List Int)) k38=>
 cond (decide (x37.1<8))
 (ob (lA a0 x37.1) λe39=>
 cond (decide (0≤x37.1)&&decide (x37.1<(x34.length:Int))) (ob (x34[x37.1.toNat]?) λe40=>
 cond (decide (0≤x37.1)&&decide (x37.1<(x37.2.length:Int))) (ob (x37.2[x37.1.toNat]?) λe41=>
 let l42:List Int:=List.set x37.2 x37.1.toNat (jB .i64 (iA .i64 e39 e40) 4294967295)
 k38 ((iA .i64 x37.1 1),l42)) none) none)
 (k36 x37.2)) (0,([]++a0))) λk14=>
 uA FU (λ(x15:Int×Int×Int×Int×Int×Int×Int×Int×Int) k16=>
 cond (decide (x15.2.2.2.2.2.2.2.2<64))
 (ob (RC x15.2.2.2.2.1 6) λr17=>
 ob (RC x15.2.2.2.2.1 11) λr18=>
 ob (RC x15.2.2.2.2.1 25) λr19=>
 let x20:Int:=iA .i64 x15.2.2.2.2.2.2.2.1 (kB .i64 (kB .i64 r17 r18) r19);let x21:Int:=jB .i64 (kB .i64 x15.2.2.2.2.1 4294967295) x15.2.2.2.2.2.2.1;let x22:Int:=kB .i64 (jB .i64 x15.2.2.2.2.1 x15.2.2.2.2.2.1) x21
 cond (decide (0≤x15.2.2.2.2.2.2.2.2)&&decide (x15.2.2.2.2.2.2.2.2<(r3.length:Int))) (ob (r3[x15.2.2.2.2.2.2.2.2.toNat]?) λe23=>
 cond (decide (0≤x15.2.2.2.2.2.2.2.2)&&decide (x15.2.2.2.2.2.2.2.2<(r4.length:Int))) (ob (r4[x15.2.2.2.2.2.2.2.2.toNat]?) λe24=>
 let x25:Int:=iA .i64 (iA .i64 (iA .i64 x20 x22) e23) e24
 ob (RC x15.1 2) λr26=>
 ob (RC x15.1 13) λr27=>
 ob (RC x15.1 22) λr28=>
 let x29:Int:=kB .i64 (jB .i64 x15.1 x15.2.1) (jB .i64 x15.1 x15.2.2.1);let x30:Int:=kB .i64 x29 (jB .i64 x15.2.1 x15.2.2.1);let x31:Int:=iA .i64 (kB .i64 (kB .i64 r26 r27) r28) x30;let x32:Int:=iA .i64 x15.2.2.2.1 (jB .i64 x25 4294967295);let x33:Int:=iA .i64 (jB .i64 x25 4294967295) (jB .i64 x31 4294967295)
 k16 ((jB .i64 x33 4294967295),x15.1,x15.2.1,x15.2.2.1,(jB .i64 x32 4294967295),x15.2.2.2.2.1,x15.2.2.2.2.2.1,x15.2.2.2.2.2.2.1,(iA .i64 x15.2.2.2.2.2.2.2.2 1))) none) none)
 (k14 (x15.1,x15.2.1,x15.2.2.1,x15.2.2.2.1,x15.2.2.2.2.1,x15.2.2.2.2.2.1,x15.2.2.2.2.2.2.1,x15.2.2.2.2.2.2.2.1))) (e5,e6,e7,e8,e9,e10,e11,e12,0))) λk2=>
 cond (!(tU a0))
 (k2 true)
 (k2 ((a1.length:Int) !=64))) none
def Gj(a0:List Int):=
 aA (λ(y1:(List UInt8))=>
 some y1) λk2=>
 uA FU (λ(x3:(List UInt8)×Int) k4=>
 cond (decide (x3.2<8))
 (ob (lA a0 x3.2) λe5=>
 ob (bC x3.1 e5 4) λr6=>
 k4 (r6,(iA .i64 x3.2 1)))
 (k2 x3.1)) ([],0)
def Gk(a0:List UInt8):=
 cond (decide ((a0.length:Int)>1048576))
 (some [])
 (cond (decide (([]:List UInt8).length+a0.length≤bA)) (ob (lJ (a0.length:Int)) λr1=>
 cond (decide (([]++a0).length+r1.length≤bA)) (let r2:(List Int):=dD
 aA (λ(y3:(List Int))=>
 ob (JH y3) λr8=>
 some r8) λk4=>
 uA FU (λ(x5:(List Int)×Int) k6=>
 cond (decide (x5.2<((([]++a0)++r1).length:Int)))
 (cond (decide (0≤x5.2)&&decide (x5.2≤(iA .i64 x5.2 64))&&decide ((iA .i64 x5.2 64)≤((([]++a0)++r1).length:Int))) (ob (OH x5.1 (List.take ((iA .i64 x5.2 64 - x5.2).toNat) (List.drop x5.2.toNat (([]++a0)++r1)))) λr7=>
 k6 (r7,(iA .i64 x5.2 64))) none)
 (k4 x5.1)) (r2,0)) none) none)
def Gm(a0:List UInt8):=
 cond (decide ((a0.length:Int)>1048576))
 (some [])
 (cond (decide (([]:List UInt8).length+a0.length≤bA)) (aA (λ(y1:(List UInt8))=>
 aA (λ(y4:(List UInt8))=>
 some y4) λk5=>
 uA FU (λ(x6:(List UInt8)) k7=>
 cond (decide ((x6.length:Int)<64))
 (cond (decide (x6.length+[UInt8.ofNat (0:Int).toNat].length≤bA)) (k7 (x6++[UInt8.ofNat (0:Int).toNat])) none)
 (k5 x6)) y1) λk2=>
 cond (decide ((a0.length:Int)>64))
 (let r3:(List UInt8):=fD a0
 k2 r3)
 (k2 ([]++a0))) none)
def Gn(a0:List UInt8)(a1:List UInt8):=
 aA (λy1=>
 cond (y1)
 (some [])
 (let r3:(List UInt8):=MC a0
 aA (λ(y4:(List UInt8)×(List UInt8))=>
 cond (decide (y4.1.length+a1.length≤bA)) (let r12:(List UInt8):=fD (y4.1++a1)
 cond (decide (y4.2.length+r12.length≤bA)) (let r13:(List UInt8):=fD (y4.2++r12)
 some r13) none) none) λk5=>
 uA FU (λ(x6:(List UInt8)×(List UInt8)×Int) k7=>
 cond (decide (x6.2.2<64))
 (cond (decide (0≤x6.2.2)&&decide (x6.2.2<(r3.length:Int))) (ob (r3[x6.2.2.toNat]?) λe8=>
 let x9:List UInt8:=[UInt8.ofNat (kB .u8 ((e8.toNat:Nat):Int) 54:Int).toNat]
 cond (decide (x6.1.length+x9.length≤bA)) (cond (decide (0≤x6.2.2)&&decide (x6.2.2<(r3.length:Int))) (ob (r3[x6.2.2.toNat]?) λe10=>
 let x11:List UInt8:=[UInt8.ofNat (kB .u8 ((e10.toNat:Nat):Int) 92:Int).toNat]
 cond (decide (x6.2.1.length+x11.length≤bA)) (k7 ((x6.1++x9),(x6.2.1++x11),(iA .i64 x6.2.2 1))) none) none) none) none)
 (k5 (x6.1,x6.2.1))) ([],[],0))) λk2=>
 cond (decide ((a0.length:Int)>1048576))
 (k2 true)
 (k2 (decide ((a1.length:Int)>1048512)))
def Gp(a0:List UInt8)(a1:Int):=
 aA (λy1=>
 cond (y1)
 (some [])
 (let x3:List UInt8:=[UInt8.ofNat (114:Int).toNat,UInt8.ofNat (111:Int).toNat,UInt8.ofNat (108:Int).toNat,UInt8.ofNat (108:Int).toNat]
 ob (bC x3 a1 4) λr4=>
 let r5:(List UInt8):=YC a0 r4
 cond (decide (0≤(0:Int))&&decide ((0:Int)≤12)&&decide (12≤(r5.length:Int))) (cond (decide (([]:List UInt8).length+(List.take 12 (List.drop 0 r5)).length≤bA)) (some ([]++(List.take 12 (List.drop 0 r5)))) none) none)) λk2=>
 cond (!(gA (a0.length:Int) 1 32))
 (k2 true)
 (k2 (!(gA a1 0 10000)))
def Gq(a0:Aa)(a1:Int):=
 aA (λy1=>
 cond (y1)
 (some false)
 (ob (lA a0.Clients (oA .i64 a1 1)) λe4=>
 ob (lA a0.Clients (oA .i64 2 a1)) λe5=>
 aA (λy6=>
 cond (y6)
 (some false)
 (aA (λy10=>
 cond (y10)
 (some false)
 (aA (λ(y13:Unit)=>
 some true) λk14=>
 uA FU (λ(x15:Int) k16=>
 cond (decide (x15<8))
 (let r17:(List UInt8):=aC a0.S.D.Seed (iA .i64 a0.S.D.N x15)
 ob (xC a0.S.T r17) λr18=>
 cond (decide (r18≥0))
 (some false)
 (k16 (iA .i64 x15 1)))
 (k14 ())) 0)) λk11=>
 ob (qF a0.S.T) λr12=>
 cond (decide (r12≥a0.S.T.Cap))
 (k11 true)
 (cond (decide ((a0.S.T.L.length:Int)≥12))
 (k11 true)
 (cond (!(lE a0.S.Cr e4.At))
 (k11 true)
 (cond (decide (a0.D.N≥10000))
 (k11 true)
 (k11 (decide (a0.S.D.N>9992)))))))) λk7=>
 cond (e4.St !=0)
 (k7 true)
 (cond (e5.St !=0)
 (cond (e5.St !=3)
 (k7 true)
 (ob (nE a0 e4.At) λr8=>
 k7 (r8 !=a1)))
 (ob (nE a0 e4.At) λr9=>
 k7 (r9 !=a1))))) λk2=>
 ob (mE a0) λr3=>
 cond (!r3)
 (k2 true)
 (cond (!(gA a1 1 2))
 (k2 true)
 (k2 (decide (a0.Now>999990))))
def Gr(a0:Aa)(a1:Int):=
 aA (λy1=>
 cond (y1)
 (some false)
 (ob (lA a0.Clients (oA .i64 a1 1)) λe4=>
 ob (lA a0.Clients (oA .i64 2 a1)) λe5=>
 aA (λy6=>
 cond (y6)
 (some false)
 (aA (λy10=>
 cond (y10)
 (some false)
 (aA (λy13=>
 cond (y13)
 (some false)
 (aA (λ(y15:Unit)=>
 some true) λk16=>
 uA FU (λ(x17:Int) k18=>
 cond (decide (x17<8))
 (let r19:(List UInt8):=aC a0.S.D.Seed (iA .i64 a0.S.D.N x17)
 ob (xC a0.S.T r19) λr20=>
 cond (decide (r20≥0))
 (some false)
 (k18 (iA .i64 x17 1)))
 (k16 ())) 0)) λk14=>
 cond (decide (a0.D.N≥10000))
 (k14 true)
 (k14 (decide (a0.S.D.N>9992))))) λk11=>
 ob (qF a0.S.T) λr12=>
 cond (decide (r12≥a0.S.T.Cap))
 (k11 true)
 (cond (decide ((a0.S.T.L.length:Int)≥12))
 (k11 true)
 (k11 (!(lE a0.S.Cr e4.At)))))) λk7=>
 cond (e4.St !=0)
 (k7 true)
 (cond (e5.St !=0)
 (cond (e5.St !=3)
 (k7 true)
 (ob (nE a0 e4.At) λr8=>
 k7 (r8 !=a1)))
 (ob (nE a0 e4.At) λr9=>
 k7 (r9 !=a1))))) λk2=>
 ob (mE a0) λr3=>
 cond (!r3)
 (k2 true)
 (cond (!(gA a1 1 2))
 (k2 true)
 (k2 (decide (a0.Now>999990))))
end
end Go.D
namespace Go.D
end Go.D
namespace Go.D
def zbs{σ R:Type}(n:Nat)(hn:n≤maxLen)(S:Nat→σ)(z:Option R){f:σ×Int→(σ×Int→Option R)→Option R}
  (hf:∀(i:Nat) k,i<n→f (S i,(i:Int)) k=k (S (i+1),IntKind.wrap .i64 ((i:Int)+1))) (hz:∀k,f (S n,(n:Int)) k=z) (a:Nat) (ha:a≤n):uA FU f (S a,(a:Int))=z:=by
 refine dG (g:=λ_=>z) (λx=>∃i:Nat,i≤n∧x=(S i,(i:Int))) (λx=>n - x.2.toNat) (λx hx k hk=>?_) ⟨a,ha,rfl⟩ (by unfold maxLen at hn;simp only[Int.toNat_natCast];omega);obtain⟨i,hi,rfl⟩:=hx
 rcases Nat.lt_or_eq_of_le hi with NV | rfl
 ·rw[hf i k NV,FF i (by omega)];exact hk _ ⟨i+1,NV,rfl⟩ (by simp only[Int.toNat_natCast];omega)
 ·exact hz k
def MJ(n:Nat)(h:n<2^64):(BitVec.ofInt 64 (n:Int)).toNat=n:=by
 rw[BitVec.toNat_ofInt];omega
def DU(a:Int):0≤SC a∧SC a≤4294967295:=by
 have h:(BitVec.ofInt 64 a&&&BitVec.ofInt 64 4294967295).toNat≤4294967295:=by
  rw[BitVec.toNat_and];exact Nat.le_trans Nat.and_le_right (by decide)
 unfold SC jB;show 0≤IntKind.wrap .i64 ((BitVec.ofInt 64 a&&&BitVec.ofInt 64 4294967295).toNat:Int)∧IntKind.wrap .i64 ((BitVec.ofInt 64 a&&&BitVec.ofInt 64 4294967295).toNat:Int)≤4294967295
 rw[yB (by omega) (by omega)];omega
def uP{a:Int}(h0:0≤a)(h1:a≤9223372036854775807):SC a=a % 4294967296:=by
 obtain⟨n,rfl⟩:=KD h0;unfold SC jB;show IntKind.wrap .i64 ((BitVec.ofInt 64 (n:Int)&&&BitVec.ofInt 64 ((4294967295:Nat):Int)).toNat:Int)=_
 rw[BitVec.toNat_and,MJ n (by omega),MJ _ (by decide)];have:=Nat.and_two_pow_sub_one_eq_mod n 32;rw[show(4294967295:Nat)=2^32 - 1 from rfl,this,yB (by omega) (by omega)];omega
def rC(a:Int):Prop:=0≤a∧a≤4294967295
def WU(a:Int):rC (SC a):=DU a
def fJ{a b:Int}(ha:rC a)(hb:rC b):rC (kB .i64 a b):=by
 obtain⟨n,rfl⟩:=KD ha.1;obtain⟨m,rfl⟩:=KD hb.1;have h1:=ha.2;have h2:=hb.2;have h:(n^^^m)<2^32:=Nat.xor_lt_two_pow (by omega) (by omega);unfold kB;show rC (IntKind.wrap .i64 ((BitVec.ofInt 64 (n:Int)^^^BitVec.ofInt 64 (m:Int)).toNat:Int))
 rw[BitVec.toNat_xor,MJ n (by omega),MJ m (by omega),yB (by omega) (by omega)];exact⟨by omega,by omega⟩
def zkQ(a b:Int):kB .i64 a b=kB .i64 b a:=by
 unfold kB;rw[BitVec.xor_comm]
def DP{a b:Int}(ha:rC a)(hb:rC b):rC (jB .i64 a b):=by
 obtain⟨n,rfl⟩:=KD ha.1;obtain⟨m,rfl⟩:=KD hb.1;have h1:=ha.2;have h2:=hb.2;have h:(n&&&m)≤m:=Nat.and_le_right;unfold jB;show rC (IntKind.wrap .i64 ((BitVec.ofInt 64 (n:Int)&&&BitVec.ofInt 64 (m:Int)).toNat:Int))
 rw[BitVec.toNat_and,MJ n (by omega),MJ m (by omega),yB (by omega) (by omega)];exact⟨by omega,by omega⟩
def zN(x n:Int):rC (uE x n):=WU _
def IF{a b:Nat}(h:a+b≤bA):decide (a+b≤bA)=true:=decide_eq_true h
def nS.ok{x}(_:rA [.sl .byte] x){r}:fI x=some r→Lz x=some r:=KA λh=>by
 have h2:(show List UInt8 from x).length≤bA:=by rw[←AA];exact h
 show cond (decide (([]:List UInt8).length+(show List UInt8 from x).length≤bA)) _ _=_
 rw[XJ h2];rfl
def zew(b:List UInt8)(n k:Int)(h:wt b+6≤bA):Fl b n k=some (nG b n k):=by
 rw[AA]at h;simp only[Fl,aA,nG,List.nil_append];rw[XJ (by omega)];simp only[cond_true]
 by_cases h1:k<1
 ·rw[decide_eq_true h1];rfl
 by_cases h2:k>6
 ·rw[decide_eq_false h1,decide_eq_true h2];rfl
 rw[decide_eq_false h1,decide_eq_false h2];simp only[cond_false,Bool.or_false];have hk:oA .i64 k 1=k - 1:=by rw[oA,yB (by omega) (by omega)]
 rw[hk];rw[dG (g:=λx:List UInt8×Int=>some (x.1++zE n (x.2+1).toNat)) (λx=> -1≤x.2∧x.2≤5∧(x.1.length:Int)+x.2+1≤(bA:Int)) (λx=>(x.2+1).toNat) (λx hx kk FY=>?_) (x:=(b,k - 1)) ⟨by show -1≤k - 1;omega,by show k - 1≤5;omega,by show(b.length:Int)+(k - 1)+1≤(bA:Int);omega⟩ (by show(k - 1+1).toNat<2^64;omega)]
 ·rw[show k - 1+1=k by omega]
 ·obtain⟨l,i⟩:=x;obtain⟨g1,g2,g3⟩:=hx;simp only at g1 g2 g3⊢
  by_cases hi:0≤i
  ·obtain⟨j,rfl⟩:=KD hi;have e1:BB .i64 8 (j:Int)=8 *(j:Int):=yB (by omega) (by omega);have e2:oA .i64 (j:Int) 1=(j:Int) - 1:=by rw[oA,yB (by omega) (by omega)]
   have e3:decide (BB .i64 8 (j:Int)<0)=false:=decide_eq_false (by rw[e1];omega);rw[decide_eq_true (p:=(j:Int)≥0) hi,cond_true,e3,cond_false,IF (by simp;omega),cond_true,e2];refine(FY (l++[fK n j],(j:Int) - 1) ⟨by show -1≤(j:Int) - 1;omega,by show(j:Int) - 1≤5;omega,by show((l++[fK n j]).length:Int)+((j:Int) - 1)+1≤(bA:Int);simp;omega⟩ (by show((j:Int) - 1+1).toNat<((j:Int)+1).toNat;omega)).trans ?_;simp only;rw[show((j:Int) - 1+1).toNat=j by omega,show((j:Int)+1).toNat=j+1 by omega,zE,List.append_assoc];rfl
  ·have:i= -1:=by omega
   subst this;simp[zE]
def PM.ok{x}(_:rA [.sl .byte, .v .int, .v .int] x){r}:bC x.1 x.2.1 x.2.2=some r→Fl x.1 x.2.1 x.2.2=some r:=KA λh=>zew x.1 x.2.1 x.2.2 h
def IS.ok{x}(_:rA [.sl .byte, .v .int, .v .int] x){r}:bC x.1 x.2.1 x.2.2=some r→Md x.1 x.2.1 x.2.2=some r:=KA λh=>zew x.1 x.2.1 x.2.2 h
def zed:∀l:List (List UInt8),l.flatten.length≤wt l
 | []=>Nat.zero_le _
 | x :: l=>by
  have:=zed l;rw[VC,AA,List.flatten_cons,List.length_append];omega
def zhy(l:List (List UInt8))(h:wt l≤bA):Fn l=some l.flatten:=by
 simp only[Fn,aA];refine zbs l.length (oE h) (λi=>(l.take i).flatten) (some l.flatten) (λi k hi=>?_) (λk=>by simp only[BC,cond_false,List.take_length]) 0 (Nat.zero_le _);have e:(l.take (i+1)).flatten=(l.take i).flatten++l[i]:=by rw[IJ l hi,List.flatten_append];simp
 have LV:=zed (l.take (i+1));have h2:=pN l (i+1);rw[e,List.length_append]at LV;simp only[pC hi,cond_true,dB hi,TA,IF (show(l.take i).flatten.length+l[i].length≤bA by omega),e]
def WL.ok{x}(_:rA [.sl .bs] x){r}:YH x=some r→Fn x=some r:=KA λh=>zhy x h
def zmr(b:List UInt8)(f n:Int)(h:wt b≤bA)(hf:ZC .i64 f)(hn:ZC .i64 n):Fo b f n=some (cut b f n):=by
 have hl:b.length≤bA:=by rw[←AA];exact h
 have hL:=sB;have hf:=RM hf;simp only[Fo,aA,cut,List.nil_append]
 by_cases h1:f<0
 ·rw[decide_eq_true h1];rfl
 by_cases h2:n<0
 ·rw[decide_eq_false h1,decide_eq_true h2];rfl
 by_cases h3:f>(b.length:Int)
 ·rw[decide_eq_false h1,decide_eq_false h2,decide_eq_true h3];rfl
 have e:oA .i64 (b.length:Int) f=(b.length:Int) - f:=by rw[oA,yB (by omega) (by omega)]
 rw[e]
 by_cases h4:n>(b.length:Int) - f
 ·rw[decide_eq_false h1,decide_eq_false h2,decide_eq_false h3,decide_eq_true h4];rfl
 have e2:iA .i64 f n=f+n:=by rw[iA,yB (by omega) (by omega)]
 have e3:(decide (0≤f)&&decide (f≤f+n)&&decide (f+n≤(b.length:Int)))=true:=by simp;omega
 rw[decide_eq_false h1,decide_eq_false h2,decide_eq_false h3,decide_eq_false h4];simp only[cond_false,e2];rw[e3,show f+n - f=n by omega];have:((b.drop f.toNat).take n.toNat).length≤bA:=by rw[List.length_take,List.length_drop];omega
 rw[XJ this];rfl
def TM.ok{x}(hb:rA [.sl .byte, .v .int, .v .int] x){r}:nJ x.1 x.2.1 x.2.2=some r→Fo x.1 x.2.1 x.2.2=some r:=KA λh=>
 zmr x.1 x.2.1 x.2.2 h (NJ hb.2.1 0 (by decide) rfl) (NJ hb.2.2 0 (by decide) rfl)
def zaj(l:List UInt8){i:Nat}(hi:i<l.length):KF (l.take (i+1))=iA .i64 (BB .i64 (KF (l.take i)) 256) (IntKind.wrap .i64 ((l[i].toNat:Nat):Int)):=by
 rw[KF,IJ l hi,List.foldl_append];rfl
def zic(b:List UInt8)(f k:Int)(h:wt b≤bA)(hf:ZC .i64 f):Gf b f k=some (xK b f k):=by
 have hl:b.length≤bA:=by rw[←AA];exact h
 have hL:=sB;have hf:=RM hf;simp only[Gf,aA,xK]
 by_cases h1:k<1
 ·rw[decide_eq_true h1];rfl
 by_cases h2:k>6
 ·rw[decide_eq_false h1,decide_eq_true h2];rfl
 by_cases h3:f<0
 ·rw[decide_eq_false h1,decide_eq_false h2,decide_eq_true h3];rfl
 have e:oA .i64 (b.length:Int) k=(b.length:Int) - k:=by rw[oA,yB (by omega) (by omega)]
 rw[e]
 by_cases h4:f>(b.length:Int) - k
 ·rw[decide_eq_false h1,decide_eq_false h2,decide_eq_false h3,decide_eq_true h4];rfl
 rw[decide_eq_false h1,decide_eq_false h2,decide_eq_false h3,decide_eq_false h4];simp only[cond_false,Bool.or_false];obtain⟨a,rfl⟩:=KD (n:=f) (by omega);obtain⟨m,rfl⟩:=KD (n:=k) (by omega);simp only[Int.toNat_natCast];refine zbs m (by rw[oC];omega) (λi=>KF (((b.drop a).take m).take i)) _ (λi k hi=>?_) (λk=>?_) 0 (Nat.zero_le _)
 ·have e1:iA .i64 (a:Int) (i:Int)=((a+i:Nat):Int):=by rw[iA,yB (by omega) (by omega)];omega
  have NV:i<((b.drop a).take m).length:=by rw[List.length_take,List.length_drop];omega
  have hai:a+i<b.length:=by omega
  rw[pC hi,cond_true,e1,dB hai,TA,zaj _ NV];simp only[List.getElem_take,List.getElem_drop]
 ·rw[BC,cond_false,List.take_of_length_le (i:=m) (by rw[List.length_take];omega)]
def HM.ok{x}(hb:rA [.sl .byte, .v .int, .v .int] x){r}:QF x.1 x.2.1 x.2.2=some r→Gf x.1 x.2.1 x.2.2=some r:=KA λh=>
 zic x.1 x.2.1 x.2.2 h (NJ hb.2.1 0 (by decide) rfl)
def zlw(p:List UInt8)(hp:p.length≤maxLen)(c:Int):uA FU (λ(x6:Int×Int) k7=>cond (decide (x6.2<(p.length:Int))) (cond (decide (0≤x6.2)&&decide (x6.2<(p.length:Int))) (Option.bind (p[x6.2.toNat]?) λe8=>
  k7 ((iA .i64 (BB .i64 256 x6.1) (IntKind.wrap .i64 ((e8.toNat:Nat):Int))),(iA .i64 x6.2 1))) none) (some (x6.1,c,true))) ((0:Int),(0:Int))=some (KF p,c,true):=by
 refine zbs p.length hp (λi=>KF (p.take i)) _ (λi k hi=>?_) (λk=>?_) 0 (Nat.zero_le _)
 ·have e3:(decide ((0:Int)≤(i:Int))&&decide ((i:Int)<(p.length:Int)))=true:=by simp;exact hi
  simp only[e3,pC hi,cond_true,Int.toNat_natCast,List.getElem?_eq_getElem hi,TA,zaj _ hi,BB,Int.mul_comm 256];rw[show decide ((0:Int)≤(i:Int))=true from decide_eq_true (by omega)];rfl
 ·rw[BC,cond_false,List.take_length]
def ziw(b:List UInt8)(f k:Int)(h:wt b≤bA)(hf:ZC .i64 f):Fp b f k=some (xK b f k):=by
 have hl:b.length≤bA:=by rw[←AA];exact h
 have hL:=sB;have hf:=RM hf;simp only[Fp,aA,xK,nJ,FA h,cut]
 by_cases h1:k<1
 ·rw[decide_eq_true h1];rfl
 by_cases h2:k>6
 ·rw[decide_eq_false h1,decide_eq_true h2];rfl
 by_cases h3:f<0
 ·rw[decide_eq_false h1,decide_eq_false h2,decide_eq_true h3];rfl
 rw[decide_eq_false h1,decide_eq_false h2,decide_eq_false h3,decide_eq_false (p:=k<0) (by omega)]
 by_cases h4:f>(b.length:Int) - k
 ·rw[decide_eq_true h4]
  by_cases h5:f>(b.length:Int)
  ·rw[decide_eq_true h5];rfl
  ·rw[decide_eq_false h5,decide_eq_true (p:=k>(b.length:Int) - f) (by omega)];rfl
 rw[decide_eq_false h4,decide_eq_false (p:=f>(b.length:Int)) (by omega),decide_eq_false (p:=k>(b.length:Int) - f) (by omega)];simp only[cond_false,Bool.or_false,Bool.not_true];obtain⟨a,rfl⟩:=KD (n:=f) (by omega);obtain⟨m,rfl⟩:=KD (n:=k) (by omega);simp only[Int.toNat_natCast];have LV:((b.drop a).take m).length=m:=by rw[List.length_take,List.length_drop];omega
 exact zlw _ (by rw[LV,oC];omega) _
def KM.ok{x}(hb:rA [.sl .byte, .v .int, .v .int] x){r}:QF x.1 x.2.1 x.2.2=some r→Fp x.1 x.2.1 x.2.2=some r:=KA λh=>
 ziw x.1 x.2.1 x.2.2 h (NJ hb.2.1 0 (by decide) rfl)
def zlB(l:List UInt8)(h:l.length≤4):0≤KF l∧KF l<256^l.length:=by
 have key:∀i,i≤l.length→0≤KF (l.take i)∧KF (l.take i)<256^i:=by
  intro i;induction i with
  | zero=>intro _;simp[KF]
  | succ i ih=>
   intro hi;have NV:i<l.length:=by omega
   obtain⟨h1,h2⟩:=ih (by omega);have hb:=UInt8.toNat_lt l[i]
   have hp:(256:Int)^i≤16777216:=by
    have:i=0∨i=1∨i=2∨i=3:=by omega
    rcases this with rfl | rfl | rfl | rfl<;>decide
   rw[zaj l NV,Int.pow_succ];generalize (256:Int)^i=q at *;generalize KF (l.take i)=v at *;have e1:IntKind.wrap .i64 ((l[i].toNat:Nat):Int)=(l[i].toNat:Int):=yB (by omega) (by omega);have e2:BB .i64 v 256=v *256:=yB (by omega) (by omega);rw[e1,e2,iA,yB (by omega) (by omega)];omega
 have:=key l.length (Nat.le_refl _);rwa [List.take_length]at this
def zmx(x n:Int)(h:1≤n∧n≤31):Fq x n=some (uE x n):=by
 simp only[Fq,aA,uE,SC];rw[decide_eq_false (p:=n<0) (by omega),decide_eq_false (p:=n>31) (by omega)];have:oA .i64 32 n=32 - n:=by rw[oA,yB (by omega) (by omega)]
 rw[this,decide_eq_false (p:=32 - n<0) (by omega)];rfl
def iN.ok{x}(_:rA [.v .int, .v .int] x){r}:RC x.1 x.2=some r→Fq x.1 x.2=some r:=KA λh=>zmx x.1 x.2 h
def ziY(a n:Int)(h:1≤n∧n≤31):Gg a n=some (uE a n):=by
 simp only[Gg,aA,uE,SC];rw[decide_eq_false (p:=n<1) (by omega),decide_eq_false (p:=n>31) (by omega),decide_eq_false (p:=n<0) (by omega)];have:oA .i64 32 n=32 - n:=by rw[oA,yB (by omega) (by omega)]
 rw[this,decide_eq_false (p:=32 - n<0) (by omega)];rfl
def gN.ok{x}(_:rA [.v .int, .v .int] x){r}:RC x.1 x.2=some r→Gg x.1 x.2=some r:=KA λh=>ziY x.1 x.2 h
def oS.ok{x}(_:rA [.v .int, .v .int] x):Mc x.1 x.2=some (gE x.1 x.2):=rfl
def zS.ok{x}(_:rA [] x):Ma=some dD:=rfl
def yS.ok{x}(_:rA [] x):Me=some dD:=rfl
def zT.ok{x}(_:rA [] x):Mf=some mG:=rfl
def rL.ok{x}(hb:rA [.sl .int] x):Ge x=some (tU x):=by
 show Ge (x:List Int)=some (MB (x:List Int) 8)
 have hl:(show List Int from x).length≤maxLen:=hb.1;generalize (show List Int from x)=l at hl⊢;simp only[Ge,aA];rw[FV l hl,MB];cases List.all _ _<;>rfl
def zkN:∀m:Fin 64,Cg (m.val:Int)=some (HI (m.val:Int)):=by decide+kernel
def wJ.ok{x}(_:rA [.v .int] x):Cg x=some (HI x):=by
 show Cg (x:Int)=some (HI (x:Int))
 generalize (show Int from x)=i
 by_cases h:0≤i∧i≤63
 ·obtain⟨m,rfl⟩:=KD h.1;exact zkN ⟨m,by omega⟩
 ·simp only[Cg,aA,HI,if_neg h]
  by_cases h1:i<0
  ·rw[decide_eq_true h1];rfl
  ·rw[decide_eq_false h1,decide_eq_true (p:=i>63) (by omega)];rfl
end Go.D
namespace Go.D
def bG{X R:Type}(idx:X→Int)(E:Nat→X)(I2:∀i,idx (E i)=(i:Int))(n:Nat)(hn:n≤maxLen)(z:Option R){f:X→(X→Option R)→Option R}(a:Nat)(ha:a≤n)
  (hf:∀(i:Nat) k,a≤i→i<n→f (E i) k=k (E (i+1))) (hz:∀k,f (E n) k=z):uA FU f (E a)=z:=by
 refine dG (g:=λ_=>z) (λx=>∃i:Nat,a≤i∧i≤n∧x=E i) (λx=>n - (idx x).toNat) (λx hx k hk=>?_) ⟨a,Nat.le_refl _,ha,rfl⟩ (by rw[I2];unfold maxLen at hn;simp only[Int.toNat_natCast];omega);obtain⟨i,h0,hi,rfl⟩:=hx
 rcases Nat.lt_or_eq_of_le hi with NV | rfl
 ·rw[hf i k h0 NV];exact hk _ ⟨i+1,by omega,NV,rfl⟩ (by rw[I2,I2];simp only[Int.toNat_natCast];omega)
 ·exact hz k
def bE{n i:Nat}(h:i<n):(decide ((0:Int)≤(i:Int))&&decide ((i:Int)<(n:Int)))=true:=by simp;exact h
def EF{l:List Int}{i:Nat}(h:i<l.length):l[i]?=some (l.getD i 0):=by
 rw[List.getD_eq_getElem?_getD,List.getElem?_eq_getElem h];rfl
def NI{i c:Nat}(h:i≤maxLen)(hc:c≤i):oA .i64 (i:Int) (c:Int)=((i - c:Nat):Int):=by
 rw[oC]at h;rw[oA,yB (by omega) (by omega)];omega
def ZF{i:Nat}(h:i<maxLen):iA .i64 (i:Int) 1=((i+1:Nat):Int):=FF i h
def zm3{i n:Nat}(h:i<n):decide ((i:Int)<(n:Int))=true:=decide_eq_true (by omega)
def KH(b:List UInt8):∀i,(qC b i).length=i
 | 0=>rfl
 | i+1=>by rw[qC,List.length_append,KH b i];rfl
def zjt(b:List UInt8)(w:List Int)(i:Nat):rC (FI b w i):=by
 unfold FI;split
 ·unfold xK;cases decide ((4:Int)<1)||(decide ((4:Int)>6)||(decide (((4 *i:Nat):Int)<0)||decide (((4 *i:Nat):Int)>(b.length:Int) - 4)))
  ·simp only[cond_false];have h4:((b.drop ((4 *i:Nat):Int).toNat).take (4:Int).toNat).length≤4:=by rw[List.length_take];exact Nat.min_le_left _ _
   have:=zlB _ h4
   have hp:(256:Int)^((b.drop ((4 *i:Nat):Int).toNat).take (4:Int).toNat).length≤4294967296:=by
    generalize ((b.drop ((4 *i:Nat):Int).toNat).take (4:Int).toNat).length=q at h4;have:q=0∨q=1∨q=2∨q=3∨q=4:=by omega
    rcases this with rfl | rfl | rfl | rfl | rfl<;>decide
   exact⟨this.1,by omega⟩
  ·show rC 0
   exact⟨by decide,by decide⟩
 ·exact WU _
def zfj(b:List UInt8):∀(i j:Nat),rC ((qC b i).getD j 0)
 | 0,j=>by rw[show(qC b 0)=[]from rfl];simp;exact⟨by decide,by decide⟩
 | i+1,j=>by
  rw[qC,List.getD_eq_getElem?_getD,List.getElem?_append];split
  ·have:=zfj b i j;rwa [List.getD_eq_getElem?_getD]at this
  ·cases hj:j - (qC b i).length with
   | zero=>exact zjt b _ i
   | succ m=>simp;exact⟨by decide,by decide⟩
def zfT{i:Nat}(h:i<16):BB .i64 4 (i:Int)=((4 *i:Nat):Int):=by
 rw[show BB .i64 4 (i:Int)=IntKind.wrap .i64 (4 *(i:Int))from rfl,yB (by omega) (by omega)];omega
def sD{β:Type}{x n:Int}{f:Int→Option β}(h:1≤n∧n≤31):Option.bind (RC x n) f=f (uE x n):=FA h
def zgU(b:List UInt8)(h:wt b≤bA):Gh b=some (LB b):=by
 simp only[Gh,aA,LB]
 by_cases hl:b.length=64
 case neg=>
  rw[show((b.length:Int) !=64)=true from bne_iff_ne.2 (by omega),if_neg hl];rfl
 rw[show((b.length:Int) !=64)=false by simp[hl],if_pos hl,cond_false];have hL:=sB;refine(bG (X:=List Int×Int) (λx=>x.2) (λi=>(qC b i,(i:Int))) (λ_=>rfl) 16 (by decide) (some (qC b 64)) 0 (by decide) (λi k _ hi=>?_) (λk=>?_))
 ·simp only[zm3 (show i<16 from hi),show((16:Nat):Int)=16 from rfl,decide_eq_true (p:=(i:Int)<16) (by omega),cond_true,zfT hi,QF,FA h,ZF (i:=i) (by rw[oC];omega)];rw[IF (by rw[KH];simp;omega),cond_true,qC,FI,if_pos hi]
 ·simp only[show((16:Nat):Int)=16 from rfl,show decide ((16:Int)<16)=false from rfl,cond_false];refine(bG (X:=List Int×Int) (λx=>x.2) (λi=>(qC b i,(i:Int))) (λ_=>rfl) 64 (by decide) (some (qC b 64)) 16 (by decide) (λi k DY hi=>?_) (λk=>?_))
  ·have hm:i≤maxLen:=by rw[oC];omega
   have e15:oA .i64 (i:Int) 15=((i - 15:Nat):Int):=NI (c:=15) hm (by omega);have e2:oA .i64 (i:Int) 2=((i - 2:Nat):Int):=NI (c:=2) hm (by omega);have e7:oA .i64 (i:Int) 7=((i - 7:Nat):Int):=NI (c:=7) hm (by omega);have e16:oA .i64 (i:Int) 16=((i - 16:Nat):Int):=NI (c:=16) hm (by omega);have hs:=KH b i
   simp only[decide_eq_true (p:=(i:Int)<64) (by omega),cond_true,e15,e2,e7,e16,bE (show i - 15<(qC b i).length by omega),bE (show i - 2<(qC b i).length by omega),bE (show i - 7<(qC b i).length by omega),bE (show i - 16<(qC b i).length by omega),Int.toNat_natCast,
    EF (show i - 15<(qC b i).length by omega),EF (show i - 2<(qC b i).length by omega),EF (show i - 7<(qC b i).length by omega),EF (show i - 16<(qC b i).length by omega),TA,sD (show(1:Int)≤7∧(7:Int)≤31 by decide),sD (show(1:Int)≤18∧(18:Int)≤31 by decide),sD (show(1:Int)≤17∧(17:Int)≤31 by decide),sD (show(1:Int)≤19∧(19:Int)≤31 by decide),ZF (i:=i) (by rw[oC];omega)]
   rw[IF (by rw[KH];simp;omega),cond_true,qC,FI,if_neg (by omega)];rfl
  ·simp only[show((64:Nat):Int)=64 from rfl,show decide ((64:Int)<64)=false from rfl,cond_false]
def TK.ok{x}(_:rA [.sl .byte] x){r}:CI x=some r→Gh x=some r:=KA λh=>zgU x h
def GD(b:List UInt8)(i:Nat):List Int:=qC b i++List.replicate (64 - i) 0
def zcU(b:List UInt8){i:Nat}(hi:i<64)(v:Int)(hv:v=FI b (qC b i) i):List.set (GD b i) i v=GD b (i+1):=by
 subst hv;rw[GD,show 64 - i=(64 - (i+1))+1 by omega,List.replicate_succ,zfC _ _ _ _ (KH b i),GD,qC,List.append_assoc];rfl
def XQ(b:List UInt8){i j:Nat}(hj:j<i):(GD b i)[j]?=some ((qC b i).getD j 0):=by
 rw[GD,List.getElem?_append_left (by rw[KH];exact hj),EF (by rw[KH];exact hj)]
def zac(b:List UInt8){i:Nat}(h:i≤64):(GD b i).length=64:=by
 rw[GD,List.length_append,KH,List.length_replicate];omega
def zcE(b:List UInt8){i j:Nat}(hi:i≤64)(hj:j<64):∃v,(GD b i)[j]?=some v:=⟨_,List.getElem?_eq_getElem (by rw[zac b hi];exact hj)⟩
def zgM(b:List UInt8)(h:wt b≤bA):Fr b=some (LB b):=by
 simp only[Fr,aA,LB]
 by_cases hl:b.length=64
 case neg=>
  rw[show((b.length:Int) !=64)=true from bne_iff_ne.2 (by omega),if_neg hl];rfl
 rw[show((b.length:Int) !=64)=false by simp[hl],if_pos hl,cond_false];have j9:GD b 64=qC b 64:=by simp[GD]
 refine(bG (X:=Int×List Int) (λx=>x.1) (λi=>((i:Int),GD b i)) (λ_=>rfl) 16 (by decide) (some (qC b 64)) 0 (by decide) (λi k _ hi=>?_) (λk=>?_))
 ·have LV:=zac b (i:=i) (by omega);obtain⟨v,hv⟩:=zcE b (i:=i) (j:=i) (by omega) (by omega);simp only[decide_eq_true (p:=(i:Int)<16) (by omega),cond_true,zfT hi,QF,FA h,bE (show i<(GD b i).length by omega),Int.toNat_natCast,hv,TA,ZF (i:=i) (by rw[oC];omega)];rw[zcU b (by omega) _ (by rw[FI,if_pos hi])]
 ·simp only[show((16:Nat):Int)=16 from rfl,show decide ((16:Int)<16)=false from rfl,cond_false];refine(bG (X:=Int×List Int) (λx=>x.1) (λi=>((i:Int),GD b i)) (λ_=>rfl) 64 (by decide) (some (qC b 64)) 16 (by decide) (λi k DY hi=>?_) (λk=>?_))
  ·have hm:i≤maxLen:=by rw[oC];omega
   have LV:=zac b (i:=i) (by omega);obtain⟨v,hv⟩:=zcE b (i:=i) (j:=i) (by omega) (by omega);have e15:oA .i64 (i:Int) 15=((i - 15:Nat):Int):=NI (c:=15) hm (by omega);have e2:oA .i64 (i:Int) 2=((i - 2:Nat):Int):=NI (c:=2) hm (by omega);have e7:oA .i64 (i:Int) 7=((i - 7:Nat):Int):=NI (c:=7) hm (by omega);have e16:oA .i64 (i:Int) 16=((i - 16:Nat):Int):=NI (c:=16) hm (by omega)
   simp only[decide_eq_true (p:=(i:Int)<64) (by omega),cond_true,e15,e2,e7,e16,bE (show i - 15<(GD b i).length by omega),bE (show i - 2<(GD b i).length by omega),bE (show i - 7<(GD b i).length by omega),bE (show i - 16<(GD b i).length by omega),bE (show i<(GD b i).length by omega),Int.toNat_natCast,
    XQ b (show i - 15<i by omega),XQ b (show i - 2<i by omega),XQ b (show i - 7<i by omega),XQ b (show i - 16<i by omega),hv,TA,sD (show(1:Int)≤7∧(7:Int)≤31 by decide),sD (show(1:Int)≤18∧(18:Int)≤31 by decide),sD (show(1:Int)≤17∧(17:Int)≤31 by decide),sD (show(1:Int)≤19∧(19:Int)≤31 by decide),ZF (i:=i) (by rw[oC];omega)]
   rw[zcU b hi _ (by rw[FI,if_neg (by omega)];rfl)]
  ·simp only[show((64:Nat):Int)=64 from rfl,show decide ((64:Int)<64)=false from rfl,cond_false,j9]
def cL.ok{x}(_:rA [.sl .byte] x){r}:CI x=some r→Fr x=some r:=KA λh=>zgM x h
def zjO(b:List UInt8)(j:Nat):rC ((LB b).getD j 0):=by
 unfold LB;split
 ·exact zfj b 64 j
 ·simp;exact⟨by decide,by decide⟩
end Go.D
namespace Go.D
def zek:mG.length=64:=by decide
def zne:∀m:Fin 64,decide (0≤mG.getD m.val 0)&&decide (mG.getD m.val 0≤4294967295)=true:=by decide+kernel
def k_w{i:Nat}(h:i<64):rC (mG.getD i 0):=by
 have:=zne ⟨i,h⟩;simp only[Bool.and_eq_true,decide_eq_true_eq]at this;exact this
def zh5{i:Nat}(h:i<64):HI (i:Int)=mG.getD i 0:=by
 rw[HI,if_pos (by omega),Int.toNat_natCast]
def W8(s:S8):Prop:=rC s.1∧rC s.2.1∧rC s.2.2.1∧rC s.2.2.2.1∧rC s.2.2.2.2.1∧rC s.2.2.2.2.2.1∧rC s.2.2.2.2.2.2.1∧rC s.2.2.2.2.2.2.2
def zmh(k w:Int){s:S8}(h:W8 s):W8 (SU k w s):=⟨WU _,h.1,h.2.1,h.2.2.1,WU _,h.2.2.2.2.1,h.2.2.2.2.2.1,h.2.2.2.2.2.2.1⟩
def zea(w:List Int){s:S8}(h:W8 s):∀i,W8 (rounds w s i)
 | 0=>h
 | i+1=>zmh _ _ (zea w h i)
def HP{a b:Int}{m n:Int}(ha:0≤a∧a≤m)(hb:0≤b∧b≤n)(h:m+n≤9223372036854775807):0≤iA .i64 a b∧iA .i64 a b≤m+n:=by
 rw[iA,yB (by omega) (by omega)];omega
def znb:rC 4294967295:=⟨by decide,by decide⟩
def zpa{k w:Int}{s:S8}(hk:rC k)(hw:rC w)(h:W8 s):0≤rT k w s∧rT k w s≤21474836475:=by
 obtain⟨_,_,_,_,h5,h6,h7,h8⟩:=h;have a1:=fJ (fJ (zN s.2.2.2.2.1 6) (zN s.2.2.2.2.1 11)) (zN s.2.2.2.2.1 25);have a2:=fJ (DP h5 h6) (DP (fJ h5 znb) h7);have b1:=HP h8 a1 (by decide);have b2:=HP b1 a2 (by decide);have b3:=HP b2 hk (by decide);exact HP b3 hw (by decide)
def zoC{s:S8}(h:W8 s):0≤rU s∧rU s≤8589934590:=by
 obtain⟨h1,h2,h3,_⟩:=h;exact HP (fJ (fJ (zN s.1 2) (zN s.1 13)) (zN s.1 22)) (fJ (fJ (DP h1 h2) (DP h1 h3)) (DP h2 h3)) (by decide)
def ze4{a b:Int}(ha:0≤a∧a≤1099511627776)(hb:0≤b∧b≤1099511627776):SC (iA .i64 a b)=SC (iA .i64 (SC a) (SC b)):=by
 have h1:=DU a;have h2:=DU b;rw[iA,iA,yB (by omega) (by omega),yB (by omega) (by omega),uP (by omega) (by omega),uP (a:=SC a+SC b) (by omega) (by omega),uP ha.1 (by omega),uP hb.1 (by omega)];omega
def znc{a:Int}(h:rC a):SC a=a:=by
 rw[uP h.1 (Int.le_trans h.2 (by decide))];have:=h.1;have:=h.2;omega
def GH{h:List Int}(hw:MB h 8=true):h.length=8∧∀j,rC (h.getD j 0):=by
 simp only[MB,Bool.and_eq_true,beq_iff_eq,List.all_eq_true]at hw;refine⟨by omega,λj=>?_⟩
 by_cases hj:j<h.length
 ·rw[List.getD_eq_getElem?_getD,List.getElem?_eq_getElem hj];exact HC.1 (hw.1 _ (List.getElem_mem hj))
 ·rw[List.getD_eq_getElem?_getD,List.getElem?_eq_none (by omega)];exact⟨by decide,by decide⟩
def znw{h:List Int}(hw:MB h 8=true):W8 (TC h):=by
 have:=(GH hw).2;exact⟨this 0,this 1,this 2,this 3,this 4,this 5,this 6,this 7⟩
def NT(h:List Int)(s:S8)(hl:h.length=8):(List.zipWith gE h (NF s)).length=8:=by
 rw[List.length_zipWith,hl];rfl
def zjB{h:List Int}(b:List UInt8)(hw:MB h 8=true):MB (QD h b) 8=true:=by
 have hl:=(GH hw).1;simp only[MB,Bool.and_eq_true,beq_iff_eq,List.all_eq_true];refine⟨λx hx=>?_,?_⟩
 ·obtain⟨i,hi,rfl⟩:=List.getElem_of_mem hx;have hi2:i<(List.zipWith gE h (NF (rounds (LB b) (TC h) 64))).length:=hi;show gA ((List.zipWith gE h (NF (rounds (LB b) (TC h) 64)))[i]'hi2) 0 4294967295=true
  rw[List.getElem_zipWith];exact HC.2 (DU _)
 ·have:=NT h (rounds (LB b) (TC h) 64) hl;show((List.zipWith gE h (NF (rounds (LB b) (TC h) 64))).length:Int)=8
  omega
def zhM{h:List Int}(b:List UInt8)(hw:MB h 8=true):MB (SH h b) 8=true:=by
 unfold SH;cases MB h 8&&b.length==64
 ·exact hw
 ·exact zjB b hw
def zcQ{b:List UInt8}(h:b.length=64):(LB b).length=64:=by
 rw[LB,if_pos h,KH]
def wD(h:List Int)(z:List Int)(i:Nat):List Int:=z.take i++h.drop i
def zj3{h z:List Int}(hl:h.length=z.length){i:Nat}(hi:i<z.length)(v:Int)(hv:v=z[i]):List.set (wD h z i) i v=wD h z (i+1):=by
 subst hv;have hi2:i<h.length:=by omega
 rw[wD,JM h hi2,zfC _ _ _ _ (by rw[List.length_take];omega),wD,IJ z hi,List.append_assoc];rfl
def zdf{h z:List Int}(hl:h.length=z.length){i:Nat}(hi:i≤z.length):(wD h z i).length=z.length:=by
 rw[wD,List.length_append,List.length_take,List.length_drop];omega
def uD{l:List Int}{i:Nat}(h:i<l.length):lA l (i:Int)=some (l.getD i 0):=by rw[zej,EF h]
def zml(h:List Int)(s:S8)(hl:h.length=8){i:Nat}(hi:i<(List.zipWith gE h (NF s)).length):(List.zipWith gE h (NF s))[i]=gE (h.getD i 0) ((NF s).getD i 0):=by
 have h8:=NT h s hl;rw[List.getElem_zipWith,List.getD_eq_getElem?_getD,List.getD_eq_getElem?_getD,List.getElem?_eq_getElem (by omega),List.getElem?_eq_getElem (by show i<8;omega)];rfl
def uT{h:List Int}(b:List UInt8)(h8:h.length=8):(QD h b).length=8:=NT h _ h8
def zeg{h:List Int}(b:List UInt8)(h8:h.length=8){i:Nat}(hi:i<8):List.set (wD h (QD h b) i) i (gE (h.getD i 0) ((NF (rounds (LB b) (TC h) 64)).getD i 0))=wD h (QD h b) (i+1):=
 zj3 (by rw[uT b h8,h8]) (by rw[uT b h8];exact hi) _ (zml h _ h8 (by rw[NT h _ h8];exact hi)).symm
def zgR(h:List Int)(b:List UInt8)(hh:wt h≤bA∧wt b≤bA):Gi h b=some (SH h b):=by
 have LV:h.length≤bA:=by rw[←cI];exact hh.1
 simp only[Gi,aA,List.nil_append,SH,tU,CI,FA hh.2];rw[show decide (([]:List Int).length+h.length≤bA)=true from decide_eq_true (by simpa using LV)];simp only[cond_true];cases hw:MB h 8
 ·rfl
 by_cases hb:b.length=64
 case neg=>
  rw[show((b.length:Int) !=64)=true from bne_iff_ne.2 (by omega),beq_false_of_ne hb];rfl
 rw[show((b.length:Int) !=64)=false by simp[hb],show(b.length==64)=true by simp[hb]];obtain⟨h8,hW⟩:=GH hw;have i0:lA h 0=some (h.getD 0 0):=uD (i:=0) (by omega);have i1:lA h 1=some (h.getD 1 0):=uD (i:=1) (by omega);have i2:lA h 2=some (h.getD 2 0):=uD (i:=2) (by omega);have i3:lA h 3=some (h.getD 3 0):=uD (i:=3) (by omega);have i4:lA h 4=some (h.getD 4 0):=uD (i:=4) (by omega);have i5:lA h 5=some (h.getD 5 0):=uD (i:=5) (by omega);have i6:lA h 6=some (h.getD 6 0):=uD (i:=6) (by omega);have i7:lA h 7=some (h.getD 7 0):=uD (i:=7) (by omega);simp only[Bool.not_true,cond_false,Bool.and_true,cond_true,i0,i1,i2,i3,i4,i5,i6,i7,TA];have E1:=zcQ hb;refine bG (λx=>x.2.2.2.2.2.2.2.2) (λi=>((rounds (LB b) (TC h) i).1,(rounds (LB b) (TC h) i).2.1,(rounds (LB b) (TC h) i).2.2.1,(rounds (LB b) (TC h) i).2.2.2.1,(rounds (LB b) (TC h) i).2.2.2.2.1,(rounds (LB b) (TC h) i).2.2.2.2.2.1,(rounds (LB b) (TC h) i).2.2.2.2.2.2.1,(rounds (LB b) (TC h) i).2.2.2.2.2.2.2,(i:Int))) (λ_=>rfl) 64 (by decide) (some (QD h b)) 0 (by decide) (λi k _ hi=>?_) (λk=>?_)
 ·simp only[decide_eq_true (p:=(i:Int)<64) (by omega),cond_true,Int.toNat_natCast,bE (show i<mG.length by rw[zek];exact hi),bE (show i<(LB b).length by omega),EF (show i<mG.length by rw[zek];exact hi),EF (show i<(LB b).length by omega),TA,
   sD (show(1:Int)≤6∧(6:Int)≤31 by decide),sD (show(1:Int)≤11∧(11:Int)≤31 by decide),sD (show(1:Int)≤25∧(25:Int)≤31 by decide),sD (show(1:Int)≤2∧(2:Int)≤31 by decide),sD (show(1:Int)≤13∧(13:Int)≤31 by decide),sD (show(1:Int)≤22∧(22:Int)≤31 by decide),ZF (i:=i) (by rw[oC];omega)]
  rfl
 ·simp only[show((64:Nat):Int)=64 from rfl,show decide ((64:Int)<64)=false from rfl,cond_false];have YZ:=uT b h8;refine bG (X:=Int×List Int) (λx=>x.1) (λi=>((i:Int),wD h (QD h b) i)) (λ_=>rfl) 8 (by decide) (some (QD h b)) 0 (by decide) (λi k _ hi=>?_) (λk=>?_)
  ·have W6:(wD h (QD h b) i).length=8:=by rw[zdf (by rw[YZ,h8]) (by rw[YZ];omega),YZ]
   have G3:i<(NF (rounds (LB b) (TC h) 64)).length:=hi;have ho:(wD h (QD h b) i)[i]?=some ((wD h (QD h b) i).getD i 0):=EF (by omega);simp only[decide_eq_true (p:=(i:Int)<8) (by omega),cond_true,uD (show i<h.length by omega),TA,bE (show i<(wD h (QD h b) i).length by omega),ho,Int.toNat_natCast,ZF (i:=i) (by rw[oC];omega)];have e1:=bE G3;have e2:=EF G3;unfold NF at e1 e2;rw[e1,cond_true,e2,TA];exact congrArg (λl=>k (((i+1:Nat):Int),l)) (zeg b h8 hi)
  ·simp only[show((8:Nat):Int)=8 from rfl,show decide ((8:Int)<8)=false from rfl,cond_false];rw[wD,List.take_of_length_le (by rw[YZ];exact Nat.le_refl _),List.drop_eq_nil_of_le (by omega),List.append_nil]
def XK.ok{x}(_:rA [.sl .int, .sl .byte] x){r}:OH x.1 x.2=some r→Gi x.1 x.2=some r:=KA λh=>zgR x.1 x.2 h
def zkH{k w:Int}{s:S8}(hk:rC k)(hw:rC w)(h:W8 s):SU k w s=(gE (rT k w s) (rU s),s.1,s.2.1,s.2.2.1,gE s.2.2.2.1 (rT k w s),s.2.2.2.2.1,s.2.2.2.2.2.1,s.2.2.2.2.2.2.1):=by
 have ht:=zpa hk hw h;have hu:=zoC h;have hd:=h.2.2.2.1;rw[SU,gE,gE,ze4 (a:=rT k w s) (b:=rU s) ⟨ht.1,by omega⟩ ⟨hu.1,by omega⟩,ze4 (a:=s.2.2.2.1) (b:=rT k w s) ⟨hd.1,Int.le_trans hd.2 (by decide)⟩ ⟨ht.1,by omega⟩,znc hd]
def zgT(h:List Int)(b:List UInt8)(hh:wt h≤bA∧wt b≤bA):Fs h b=some (SH h b):=by
 have LV:h.length≤bA:=by rw[←cI];exact hh.1
 simp only[Fs,aA,List.nil_append,SH,CI,FA hh.2];rw[show decide (([]:List Int).length+h.length≤bA)=true from decide_eq_true (by simpa using LV)];simp only[cond_true];cases hw:MB h 8
 ·rfl
 by_cases hb:b.length=64
 case neg=>
  rw[show((b.length:Int) !=64)=true from bne_iff_ne.2 (by omega),beq_false_of_ne hb];rfl
 rw[show((b.length:Int) !=64)=false by simp[hb],show(b.length==64)=true by simp[hb]];obtain⟨h8,hW⟩:=GH hw;have i0:lA h 0=some (h.getD 0 0):=uD (i:=0) (by omega);have i1:lA h 1=some (h.getD 1 0):=uD (i:=1) (by omega);have i2:lA h 2=some (h.getD 2 0):=uD (i:=2) (by omega);have i3:lA h 3=some (h.getD 3 0):=uD (i:=3) (by omega);have i4:lA h 4=some (h.getD 4 0):=uD (i:=4) (by omega);have i5:lA h 5=some (h.getD 5 0):=uD (i:=5) (by omega);have i6:lA h 6=some (h.getD 6 0):=uD (i:=6) (by omega);have i7:lA h 7=some (h.getD 7 0):=uD (i:=7) (by omega);simp only[Bool.not_true,cond_false,Bool.and_true,cond_true,i0,i1,i2,i3,i4,i5,i6,i7,TA];have E1:=zcQ hb;refine bG (λx=>x.2.2.2.2.2.2.2.2) (λi=>((rounds (LB b) (TC h) i).1,(rounds (LB b) (TC h) i).2.1,(rounds (LB b) (TC h) i).2.2.1,(rounds (LB b) (TC h) i).2.2.2.1,(rounds (LB b) (TC h) i).2.2.2.2.1,(rounds (LB b) (TC h) i).2.2.2.2.2.1,(rounds (LB b) (TC h) i).2.2.2.2.2.2.1,(rounds (LB b) (TC h) i).2.2.2.2.2.2.2,(i:Int))) (λ_=>rfl) 64 (by decide) (some (QD h b)) 0 (by decide) (λi k _ hi=>?_) (λk=>?_)
 ·have hs:=zkH (k_w hi) (zjO b i) (zea (LB b) (znw hw) i)
  simp only[decide_eq_true (p:=(i:Int)<64) (by omega),cond_true,Int.toNat_natCast,bE (show i<(LB b).length by omega),EF (show i<(LB b).length by omega),TA,zh5 hi,zkQ 4294967295,
   sD (show(1:Int)≤6∧(6:Int)≤31 by decide),sD (show(1:Int)≤11∧(11:Int)≤31 by decide),sD (show(1:Int)≤25∧(25:Int)≤31 by decide),sD (show(1:Int)≤2∧(2:Int)≤31 by decide),sD (show(1:Int)≤13∧(13:Int)≤31 by decide),sD (show(1:Int)≤22∧(22:Int)≤31 by decide),ZF (i:=i) (by rw[oC];omega)]
  rw[rounds,hs];rfl
 ·simp only[show((64:Nat):Int)=64 from rfl,show decide ((64:Int)<64)=false from rfl,cond_false];have YZ:=uT b h8;refine bG (X:=Int×List Int) (λx=>x.1) (λi=>((i:Int),wD h (QD h b) i)) (λ_=>rfl) 8 (by decide) (some (QD h b)) 0 (by decide) (λi k _ hi=>?_) (λk=>?_)
  ·have W6:(wD h (QD h b) i).length=8:=by rw[zdf (by rw[YZ,h8]) (by rw[YZ];omega),YZ]
   have G3:i<(NF (rounds (LB b) (TC h) 64)).length:=hi;have ho:(wD h (QD h b) i)[i]?=some ((wD h (QD h b) i).getD i 0):=EF (by omega);simp only[cond_true,uD (show i<h.length by omega),TA,bE (show i<(wD h (QD h b) i).length by omega),ho,Int.toNat_natCast,ZF (i:=i) (by rw[oC];omega)];have e0:=pC G3;have e1:=bE G3;have e2:=EF G3;unfold NF at e0 e1 e2;rw[e0,cond_true,show decide ((0:Int)≤(i:Int))=true from decide_eq_true (by omega),Bool.and_true,cond_true,e2,TA];exact congrArg (λl=>k (((i+1:Nat):Int),l)) (zeg b h8 hi)
  ·simp only[List.length_cons,List.length_nil];rw[show decide (((8:Nat):Int)<((0+1+1+1+1+1+1+1+1:Nat):Int))=false from rfl,cond_false];rw[wD,List.take_of_length_le (by rw[YZ];exact Nat.le_refl _),List.drop_eq_nil_of_le (by omega),List.append_nil]
def YK.ok{x}(_:rA [.sl .int, .sl .byte] x){r}:OH x.1 x.2=some r→Fs x.1 x.2=some r:=KA λh=>zgT x.1 x.2 h
end Go.D
namespace Go.D
def wI:∀(n:Nat) (h:List Int) (b:List UInt8),MB h 8=true→MB (OB h n b) 8=true
 | 0,h,b,hw=>hw
 | n+1,h,b,hw=>wI n _ _ (zhM _ hw)
def zan:∀(n:Nat) (h:List Int) (b:List UInt8),OB h (n+1) b=SH (OB h n b) ((b.drop (64 *n)).take 64)
 | 0,h,b=>rfl
 | n+1,h,b=>by
  rw[OB,zan n,OB,List.drop_drop];rw[show 64+64 *n=64 *(n+1) by omega]
def zdj:∀(m k:Nat) (h:List Int) (b:List UInt8),OB h (m+k) b=OB (OB h m b) k (b.drop (64 *m))
 | 0,k,h,b=>by simp[OB]
 | m+1,k,h,b=>by
  rw[show m+1+k=(m+k)+1 by omega,OB,zdj m k,OB,List.drop_drop,show 64+64 *m=64 *(m+1) by omega]
def zdG:∀(m:Nat) (h:List Int) (b p:List UInt8),64 *m≤b.length→OB h m (b++p)=OB h m b
 | 0,h,b,p,_=>rfl
 | m+1,h,b,p,hl=>by
  rw[OB,OB,List.take_append_of_le_length (by omega),List.drop_append_of_le_length (by omega),zdG m _ _ _ (by rw[List.length_drop];omega)]
def MU{h:List Int}(hw:MB h 8=true):wt h≤bA:=by
 rw[cI,(GH hw).1,sB];decide
def zj6(l:List UInt8)(h:64≤l.length):List.take (((l.length:Int) - 64).toNat) (List.drop 64 l)=l.drop 64:=by
 rw[List.take_of_length_le];rw[List.length_drop];omega
def zes(n:Nat):64 *(n / 64)≤n:=Nat.mul_div_le n 64
def zgv(h:List Int)(b:List UInt8)(hb:wt b≤bA)(hw:MB h 8=true):Ft h b=some (OB h (b.length / 64) b,b.drop (64 *(b.length / 64))):=by
 have hl:b.length≤bA:=by rw[←AA];exact hb
 simp only[Ft,aA];refine dG (g:=λ_=>some (OB h (b.length / 64) b,b.drop (64 *(b.length / 64)))) (λx=>∃i:Nat,64 *i≤b.length∧x=(OB h i b,b.drop (64 *i))) (λx=>x.2.length) (λx hx k hk=>?_) (x:=(h,b)) ⟨0,Nat.zero_le _,by simp[OB]⟩ (by show b.length<2^64;rw[sB]at hl;omega);obtain⟨i,hi,rfl⟩:=hx;have l9:(b.drop (64 *i)).length=b.length - 64 *i:=List.length_drop;have hds:=zbl b (64 *i)
 by_cases AX:64 *(i+1)≤b.length
 ·have e1:decide (((b.drop (64 *i)).length:Int)≥64)=true:=decide_eq_true (by omega);have e2:(decide ((0:Int)≤0)&&decide ((0:Int)≤64)&&true)=true:=rfl;have e3:(decide ((0:Int)≤64)&&true&&decide (((b.drop (64 *i)).length:Int)≤((b.drop (64 *i)).length:Int)))=true:=by simp
  have FZ:=hk (OB h (i+1) b,b.drop (64 *(i+1))) ⟨i+1,AX,rfl⟩ (by show(b.drop (64 *(i+1))).length<(b.drop (64 *i)).length;rw[List.length_drop,List.length_drop];omega);rw[zan,show 64 *(i+1)=64 *i+64 by omega, ←List.drop_drop]at FZ;simp only[e1,e2,e3,cond_true,List.drop_zero,OH,FA (p:=wt (OB h i b)≤bA∧wt ((b.drop (64 *i)).take 64)≤bA) ⟨MU (wI i h b hw),Nat.le_trans (pN _ _) (Nat.le_trans hds hb)⟩,zj6 _ (show 64≤(b.drop (64 *i)).length by omega)];exact FZ
 ·have e1:decide (((b.drop (64 *i)).length:Int)≥64)=false:=decide_eq_false (by omega);have:i=b.length / 64:=by omega
  simp only[e1,cond_false, ←this]
def CK.ok{x}(_:rA [.sl .int, .sl .byte] x){r}:HN x.1 x.2=some r→Ft x.1 x.2=some r:=KA λh=>zgv x.1 x.2 h.2.2 h.2.1
def eM(n:Int):∀i,(zE n i).length=i
 | 0=>rfl
 | i+1=>by rw[zE,List.length_cons,eM n i]
def NU(b:List UInt8)(n:Int):nG b n 4=b++zE n 4:=rfl
def znD(b:List UInt8)(n:Int):nG b n 6=b++zE n 6:=rfl
def zct(h:List Int){i:Nat}(hi:i<h.length):DD (h.take (i+1))=DD (h.take i)++zE (h.getD i 0) 4:=by
 rw[DD,IJ h hi,List.flatMap_append];simp[DD,List.getD_eq_getElem?_getD,hi]
def LQ:∀h:List Int,(DD h).length=4 *h.length
 | []=>rfl
 | x :: h=>by
  rw[DD,List.flatMap_cons,List.length_append,eM,List.length_cons];have:=LQ h;rw[DD]at this;omega
def zgF(h:List Int)(h8:h.length=8):Fw h=some (DD h):=by
 have hL:=sB;simp only[Fw,aA];refine bG (X:=List UInt8×Int) (λx=>x.2) (λi=>(DD (h.take i),(i:Int))) (λ_=>rfl) h.length (by rw[h8];decide) _ 0 (Nat.zero_le _) (λi k _ hi=>?_) (λk=>by simp only[BC,cond_false,List.take_length]);have m9:=LQ (h.take i);rw[List.length_take]at m9;simp only[pC hi,cond_true,uD hi,TA,bC,FA (p:=wt (DD (h.take i))+6≤bA) (by rw[AA];omega),NU,ZF (i:=i) (by rw[oC];omega),zct h hi]
def RK.ok{x}(_:rA [.sl .int] x){r}:JH x=some r→Fw x=some r:=KA λh=>zgF x h
def zhY(h:List Int)(h8:h.length=8):Gj h=some (DD h):=by
 have hL:=sB;simp only[Gj,aA];refine bG (X:=List UInt8×Int) (λx=>x.2) (λi=>(DD (h.take i),(i:Int))) (λ_=>rfl) 8 (by decide) _ 0 (Nat.zero_le _) (λi k _ hi=>?_) (λk=>?_)
 ·have m9:=LQ (h.take i);rw[List.length_take]at m9;simp only[decide_eq_true (p:=(i:Int)<8) (by omega),cond_true,uD (show i<h.length by omega),TA,bC,FA (p:=wt (DD (h.take i))+6≤bA) (by rw[AA];omega),NU,ZF (i:=i) (by rw[oC];omega),zct h (show i<h.length by omega)]
 ·simp only[show((8:Nat):Int)=8 from rfl,show decide ((8:Int)<8)=false from rfl,cond_false];rw[List.take_of_length_le (by omega)]
def vM.ok{x}(_:rA [.sl .int] x){r}:JH x=some r→Gj x=some r:=KA λh=>zhY x h
def zdO:(UInt8.ofNat (0:Int).toNat)=0:=rfl
def zef(n:Nat)(hn:n≤1048576)(z:List UInt8→Option (List UInt8)):uA FU (λ(x5:(List UInt8)) k6=>cond ((DA .i64 (iA .i64 (iA .i64 (n:Int) (x5.length:Int)) 8) 64) !=0)
  (cond (decide (x5.length+[UInt8.ofNat (0:Int).toNat].length≤bA)) (k6 (x5++[UInt8.ofNat (0:Int).toNat])) none) (z x5)) [UInt8.ofNat (128:Int).toNat]=z (128 :: List.replicate (MD n) 0):=by
 have hz:MD n<64:=Nat.mod_lt _ (by decide);have hL:=sB;refine dG (g:=λ_=>z (128 :: List.replicate (MD n) 0)) (λx=>∃j:Nat,j≤MD n∧x=128 :: List.replicate j 0) (λx=>MD n+1 - x.length) (λx hx k hk=>?_) ⟨0,Nat.zero_le _,rfl⟩ (by show MD n+1 - 1<2^64;omega);obtain⟨j,hj,rfl⟩:=hx
 have e1:iA .i64 (iA .i64 (n:Int) (((128 :: List.replicate j 0:List UInt8).length:Nat):Int)) 8=((n+(j+1)+8:Nat):Int):=by
  rw[List.length_cons,List.length_replicate];have a1:iA .i64 (n:Int) ((j+1:Nat):Int)=((n+(j+1):Nat):Int):=by rw[iA,yB (by omega) (by omega)];omega
  rw[a1,iA,yB (by omega) (by omega)];omega
 have e2:DA .i64 ((n+(j+1)+8:Nat):Int) 64=(((n+(j+1)+8) % 64:Nat):Int):=dN _ 64;simp only[e1,e2]
 rcases Nat.lt_or_eq_of_le hj with NV | rfl
 ·have:(n+(j+1)+8) % 64≠0:=by unfold MD at NV;omega
  rw[show((((n+(j+1)+8) % 64:Nat):Int) !=0)=true from bne_iff_ne.2 (by omega),cond_true,IF (by simp;omega),cond_true];refine hk _ ⟨j+1,NV,?_⟩ (by simp;omega);rw[zdO,List.cons_append,List.replicate_succ']
 ·have:(n+(MD n+1)+8) % 64=0:=by unfold MD;omega
  rw[this];rfl
def zmf(n:Nat)(hn:n≤1048576):zE ((8 *n:Nat):Int) 6=[0,0]++zE ((8 *n:Nat):Int) 4:=by
 have h5:zD .i64 ((8 *n:Nat):Int) (BB .i64 8 ((5:Nat):Int))=0:=by
  show Int.fdiv ((8 *n:Nat):Int) 1099511627776=0
  rw[Int.fdiv_eq_ediv_of_nonneg _ (by decide)];omega
 have h4:zD .i64 ((8 *n:Nat):Int) (BB .i64 8 ((4:Nat):Int))=0:=by
  show Int.fdiv ((8 *n:Nat):Int) 4294967296=0
  rw[Int.fdiv_eq_ediv_of_nonneg _ (by decide)];omega
 rw[zE,zE];rw[show fK ((8 *n:Nat):Int) 5=0 by rw[fK,h5];rfl,show fK ((8 *n:Nat):Int) 4=0 by rw[fK,h4];rfl];rfl
def zfL{n:Nat}(h:n≤1048576):BB .i64 8 (n:Int)=((8 *n:Nat):Int):=by
 rw[show BB .i64 8 (n:Int)=IntKind.wrap .i64 (8 *(n:Int))from rfl,yB (by omega) (by omega)];omega
def GO(n:Nat):(128 :: List.replicate (MD n) 0:List UInt8).length=MD n+1:=by simp
def ziU(n:Nat)(hn:n≤1048576):Gd (n:Int)=some (sC n):=by
 have hz:MD n<64:=Nat.mod_lt _ (by decide);have hL:=sB;simp only[Gd,aA,decide_eq_false (p:=(n:Int)<0) (by omega),decide_eq_false (p:=(n:Int)>1048576) (by omega),cond_false];rw[zef n hn];simp only[bC,FA (p:=wt (128 :: List.replicate (MD n) 0:List UInt8)+6≤bA) (by rw[AA,GO];omega),NU,zfL hn];rw[FA (by rw[AA,List.length_append,GO,eM];omega),sC,List.append_assoc];rfl
def WM.ok{x}(_:rA [.v .int] x){r}:lJ x=some r→Gd x=some r:=KA λh=>by
 obtain⟨n,hn⟩:=KD h.1;have hn:x=(n:Int):=hn;have h2:(x:Int)≤1048576:=h.2;subst hn;exact ziU n (by omega)
def ziA(n:Nat)(hn:n≤1048576):Fv (n:Int)=some (sC n):=by
 have hz:MD n<64:=Nat.mod_lt _ (by decide);have hL:=sB;have lW:gA (n:Int) 0 1048576=true:=HC.2 ⟨by omega,by omega⟩;simp only[Fv,aA,lW,Bool.not_true,cond_false];rw[zef n hn (λy1=>cond (decide (y1.length+[UInt8.ofNat (0:Int).toNat,UInt8.ofNat (0:Int).toNat].length≤bA)) (Option.bind (bC (y1++[UInt8.ofNat (0:Int).toNat,UInt8.ofNat (0:Int).toNat]) (BB .i64 8 (n:Int)) 6) λr7=>some r7) none)];rw[IF (by rw[GO];simp;omega),cond_true,bC,FA (by rw[AA,List.length_append,GO];simp;omega),znD,zfL hn,zmf n hn,sC,List.append_assoc];rfl
def SM.ok{x}(_:rA [.v .int] x){r}:lJ x=some r→Fv x=some r:=KA λh=>by
 obtain⟨n,hn⟩:=KD h.1;have hn:x=(n:Int):=hn;have h2:(x:Int)≤1048576:=h.2;subst hn;exact ziA n (by omega)
def zbq(n:Nat):(sC n).length=MD n+9:=by
 rw[sC,List.length_append,GO,List.length_append,eM];rfl
def zkI(n:Nat):(n+(sC n).length) % 64=0:=by
 rw[zbq];unfold MD;omega
def pR.ok{x}(_:rA [] x):Mb=some ZJ:=rfl
def zjY(h:Ba):Fm h=some (QE h):=by
 simp only[Fm,aA,TB,Bool.cond_false_right,QE,Bool.and_assoc]
def iM.ok{x}(_:rA [.v .Hash] x):Fm x=some (QE x):=zjY x
def zdn{h:Ba}(hk:QE h=true):MB h.H 8=true∧0≤h.N∧h.N≤1048576∧h.Held.length<64∧∃n:Nat,h.N=(n:Int)∧n % 64=h.Held.length:=by
 simp only[QE,Bool.and_eq_true,HC,beq_iff_eq]at hk;obtain⟨⟨h1,h2⟩,h3⟩:=hk;obtain⟨n,hn⟩:=KD h2.1;rw[hn,show DA .i64 (n:Int) 64=((n % 64:Nat):Int)from dN n 64]at h3;exact⟨h1,h2.1,h2.2,by omega,n,hn,by omega⟩
def zj4{h:List Int}(hw:MB h 8=true):decide (([]:List Int).length+h.length≤bA)=true:=by
 have:=(GH hw).1;rw[this];decide
def oT(a b:List UInt8):([a,b]:List (List UInt8)).flatten=a++b:=by simp
def CU(a b:List UInt8):wt ([a,b]:List (List UInt8))=a.length+b.length+2:=by
 rw[VC,VC,fG,AA,AA];omega
def zgY(h:Ba)(b:List UInt8)(hk:QE h=true)(hb:(b.length:Int)≤1048576 - h.N):
  Fu h b=some ⟨OB h.H ((h.Held++b).length / 64) (h.Held++b),(h.Held++b).drop (64 *((h.Held++b).length / 64)),h.N+b.length⟩:=by
 obtain⟨hw,n0,n1,hl,_⟩:=zdn hk;have hL:=sB;have D7:wt (h.Held++b)≤bA:=by rw[AA,List.length_append];omega
 have e1:oA .i64 1048576 h.N=1048576 - h.N:=by rw[oA,yB (by omega) (by omega)]
 have e2:iA .i64 h.N (b.length:Int)=h.N+b.length:=by rw[iA,yB (by omega) (by omega)]
 simp only[Fu,aA,hk,Bool.not_true,cond_false,e1,decide_eq_false (p:=(b.length:Int)>1048576 - h.N) (by omega),YH,FA (p:=wt ([h.Held,b]:List (List UInt8))≤bA) (by rw[CU];omega),oT,HN,
  FA (p:=wt h.H≤bA∧MB h.H 8=true∧wt (h.Held++b)≤bA) ⟨MU hw,hw,D7⟩,zj4 (wI ((h.Held++b).length / 64) h.H (h.Held++b) hw),cond_true,fI,FA (p:=wt ((h.Held++b).drop (64 *((h.Held++b).length / 64)))≤bA) (Nat.le_trans (zbl _ _) D7),List.nil_append,e2]
def KL.ok{x}(_:rA [.v .Hash, .sl .byte] x){r}:GT x.1 x.2=some r→Fu x.1 x.2=some r:=KA λh=>zgY x.1 x.2 h.1 h.2
def zhe(h:Ba)(hk:QE h=true):Fx h=some (DD (OB h.H ((h.Held++sC h.N.toNat).length / 64) (h.Held++sC h.N.toNat))):=by
 obtain⟨hw,n0,n1,hl,n,hn,_⟩:=zdn hk;have hL:=sB;have hp:=zbq h.N.toNat;have hz:MD h.N.toNat<64:=Nat.mod_lt _ (by decide);have D7:wt (h.Held++sC h.N.toNat)≤bA:=by rw[AA,List.length_append];omega
 have hbw:=wI ((h.Held++sC h.N.toNat).length / 64) h.H (h.Held++sC h.N.toNat) hw
 simp only[Fx,hk,Bool.not_true,cond_false,lJ,FA (p:=0≤h.N∧h.N≤1048576) ⟨n0,n1⟩,YH,FA (p:=wt ([h.Held,sC h.N.toNat]:List (List UInt8))≤bA) (by rw[CU];omega),oT,HN,
  FA (p:=wt h.H≤bA∧MB h.H 8=true∧wt (h.Held++sC h.N.toNat)≤bA) ⟨MU hw,hw,D7⟩,JH,FA (GH hbw).1]
def kL.ok{x}(_:rA [.v .Hash] x){r}:qT x=some r→Fx x=some r:=KA λh=>zhe x h
def xR:MB dD 8=true:=by decide
def znp:QE ZJ=true:=by decide
def zlA(b:List UInt8)(hb:b.length≤1048576):
  OB (OB dD (b.length / 64) b) ((b.drop (64 *(b.length / 64))++sC b.length).length / 64) (b.drop (64 *(b.length / 64))++sC b.length)=OB dD ((b++sC b.length).length / 64) (b++sC b.length):=by
 have hd:=zes b.length;have h1:(b.drop (64 *(b.length / 64))++sC b.length).length=b.length - 64 *(b.length / 64)+(sC b.length).length:=by rw[List.length_append,List.length_drop]
 have h2:(b++sC b.length).length / 64=b.length / 64+(b.drop (64 *(b.length / 64))++sC b.length).length / 64:=by rw[h1,List.length_append];omega
 rw[h2,zdj,zdG _ _ _ _ hd,List.drop_append_of_le_length hd]
def zi0(b:List UInt8):Fy b=some (fD b):=by
 simp only[Fy,fD]
 by_cases h:(b.length:Int)>1048576
 ·rw[decide_eq_true h];rfl
 rw[decide_eq_false h];simp only[cond_false,GT];rw[FA ⟨znp,by show(b.length:Int)≤1048576 - 0;omega⟩];have e0:ZJ.Held++b=b:=rfl;have en:ZJ.N+(b.length:Int)=(b.length:Int):=Int.zero_add _;have eh:ZJ.H=dD:=rfl;rw[e0,en,eh];have l9:=zes b.length
 have ZW:QE ⟨OB dD (b.length / 64) b,b.drop (64 *(b.length / 64)),(b.length:Int)⟩=true:=by
  simp only[QE,Bool.and_eq_true,HC,beq_iff_eq];refine⟨⟨wI _ _ _ xR,by omega,by omega⟩,?_⟩;rw[show DA .i64 (b.length:Int) 64=((b.length % 64:Nat):Int)from dN _ 64,List.length_drop];omega
 rw[qT,FA ZW,Int.toNat_natCast,zlA b (by omega)];rfl
def fN.ok{x}(_:rA [.sl .byte] x):Fy x=some (fD x):=zi0 x
def zlM(all:List UInt8)(n9:wt all≤bA)(hm:64 *(all.length / 64)=all.length):uA FU (λ(x5:(List Int)×Int) k6=>cond (decide (x5.2<(all.length:Int)))
  (cond (decide (0≤x5.2)&&decide (x5.2≤(iA .i64 x5.2 64))&&decide ((iA .i64 x5.2 64)≤(all.length:Int))) (Option.bind (OH x5.1 (List.take ((iA .i64 x5.2 64 - x5.2).toNat) (List.drop x5.2.toNat all))) λr7=>k6 (r7,(iA .i64 x5.2 64))) none)
  (Option.bind (JH x5.1) λr8=>some r8)) (dD,0)=some (DD (OB dD (all.length / 64) all)):=by
 have hL:=sB;have hla:all.length≤bA:=by rw[←AA];exact n9
 refine dG (g:=λ_=>some (DD (OB dD (all.length / 64) all))) (λx=>∃i:Nat,64 *i≤all.length∧x=(OB dD i all,((64 *i:Nat):Int))) (λx=>all.length - x.2.toNat) (λx hx k hk=>?_) (x:=(dD,0)) ⟨0,Nat.zero_le _,rfl⟩ (by show all.length - Int.toNat 0<2^64;simp;omega);obtain⟨i,hi,rfl⟩:=hx
 by_cases NV:64 *i<all.length
 ·have AX:64 *(i+1)≤all.length:=by omega
  have e1:iA .i64 ((64 *i:Nat):Int) 64=((64 *(i+1):Nat):Int):=by rw[iA,yB (by omega) (by omega)];omega
  have e2:(decide ((0:Int)≤((64 *i:Nat):Int))&&decide (((64 *i:Nat):Int)≤((64 *(i+1):Nat):Int))&&decide (((64 *(i+1):Nat):Int)≤(all.length:Int)))=true:=by simp;omega
  have e3:(((64 *(i+1):Nat):Int) - ((64 *i:Nat):Int)).toNat=64:=by omega
  have FZ:=hk (OB dD (i+1) all,((64 *(i+1):Nat):Int)) ⟨i+1,AX,rfl⟩ (by simp only[Int.toNat_natCast];omega);rw[zan]at FZ;simp only[pC NV,cond_true,e1,e2,e3,Int.toNat_natCast,OH,FA (p:=wt (OB dD i all)≤bA∧wt ((all.drop (64 *i)).take 64)≤bA) ⟨MU (wI i dD all xR),Nat.le_trans (pN _ _) (Nat.le_trans (zbl _ _) n9)⟩];exact FZ
 ·have hi2:i=all.length / 64:=by omega
  have e1:decide (((64 *i:Nat):Int)<(all.length:Int))=false:=decide_eq_false (by omega);simp only[e1,cond_false,JH,FA (GH (wI i dD all xR)).1, ←hi2]
def ziC(b:List UInt8):Gk b=some (fD b):=by
 have hL:=sB;simp only[Gk,aA,fD,List.nil_append]
 by_cases h:(b.length:Int)>1048576
 ·rw[decide_eq_true h];rfl
 rw[decide_eq_false h];have hp:=zbq b.length;have hz:MD b.length<64:=Nat.mod_lt _ (by decide);have hwh:=zkI b.length;have hal:(b++sC b.length).length=b.length+(sC b.length).length:=List.length_append;simp only[cond_false];rw[XJ (show b.length≤bA by omega),cond_true,lJ,FA ⟨by omega,by omega⟩,Int.toNat_natCast,IF (by omega),cond_true,BU];exact zlM (b++sC b.length) (by rw[AA];omega) (by omega)
def eN.ok{x}(_:rA [.sl .byte] x):Gk x=some (fD x):=ziC x
def zdg(b:List UInt8):(BU b).length=32:=by
 rw[BU,LQ,(GH (wI _ dD _ xR)).1]
def FP(b:List UInt8):(fD b).length≤32:=by
 unfold fD;cases decide ((b.length:Int)>1048576)
 ·exact Nat.le_of_eq (zdg b)
 ·exact Nat.zero_le _
def zmL{b:List UInt8}(h:b.length≤1048576):(fD b).length=32:=by
 rw[fD,decide_eq_false (by omega)];exact zdg b
end Go.D
namespace Go.D
def eS(l:List UInt8):uA FU (λ(x6:(List UInt8)) k7=>cond (decide ((x6.length:Int)<64)) (cond (decide (x6.length+[UInt8.ofNat (0:Int).toNat].length≤bA)) (k7 (x6++[UInt8.ofNat (0:Int).toNat])) none) (some x6)) l=some (RP l):=by
 have hL:=sB;refine dG (g:=λ_=>some (RP l)) (λx=>∃j:Nat,j≤64 - l.length∧x=l++List.replicate j 0) (λx=>64 - x.length) (λx hx k hk=>?_) ⟨0,Nat.zero_le _,by simp⟩ (by show 64 - l.length<2^64;omega);obtain⟨j,hj,rfl⟩:=hx;have LV:(l++List.replicate j (0:UInt8)).length=l.length+j:=by simp
 by_cases NV:l.length+j<64
 ·rw[decide_eq_true (p:=((l++List.replicate j (0:UInt8)).length:Int)<64) (by omega),cond_true,IF (by rw[LV];simp;omega),cond_true];refine hk _ ⟨j+1,by omega,?_⟩ (by simp;omega);rw[zdO,List.append_assoc, ←List.replicate_succ']
 ·rw[decide_eq_false (p:=((l++List.replicate j (0:UInt8)).length:Int)<64) (by omega),cond_false,RP];have:j=64 - l.length:=by omega
  rw[this]
def zgJ(b:List UInt8):Gm b=some (MC b):=by
 have hL:=sB;simp only[Gm,aA,MC,List.nil_append]
 by_cases h:(b.length:Int)>1048576
 ·rw[decide_eq_true h];rfl
 rw[decide_eq_false h,XJ (show b.length≤bA by omega)];simp only[cond_false,cond_true];cases decide ((b.length:Int)>64)
 ·exact eS b
 ·exact eS (fD b)
def aL.ok{x}(_:rA [.sl .byte] x):Gm x=some (MC x):=zgJ x
def zgH(b:List UInt8):Fz b=some (MC b):=by
 have hL:=sB;simp only[Fz,aA,MC,fI]
 by_cases h:(b.length:Int)>1048576
 ·rw[decide_eq_true h];rfl
 rw[decide_eq_false h,FA (p:=wt b≤bA) (by rw[AA];omega)];simp only[cond_false];cases decide ((b.length:Int)>64)
 ·exact eS b
 ·exact eS (fD b)
def VK.ok{x}(_:rA [.sl .byte] x):Fz x=some (MC x):=zgH x
def zah{b:List UInt8}(h:b.length≤1048576):(MC b).length=64:=by
 rw[MC,decide_eq_false (by omega),cond_false,RP,List.length_append,List.length_replicate];cases hd:decide ((b.length:Int)>64)
 ·have:=of_decide_eq_false hd;simp only[cond_false];omega
 ·have:=FP b;simp only[cond_true];omega
def zhn(b:List UInt8)(x:UInt8)(h:wt b≤bA):Ga b x=some (nD b x):=by
 have hl:b.length≤bA:=by rw[←AA];exact h
 have hL:=sB;simp only[Ga,aA];refine bG (X:=List UInt8×Int) (λy=>y.2) (λi=>(nD (b.take i) x,(i:Int))) (λ_=>rfl) b.length (oE h) _ 0 (Nat.zero_le _) (λi k _ hi=>?_) (λk=>by simp only[BC,cond_false,List.take_length]);have e:nD (b.take (i+1)) x=nD (b.take i) x++[zbT b[i] x]:=by rw[nD,IJ b hi,List.map_append];rfl
 have hml:(nD (b.take i) x).length=i:=by rw[nD,List.length_map,List.length_take];omega
 simp only[pC hi,cond_true,dB hi,TA,ZF (i:=i) (by rw[oC];omega)];rw[IF (by rw[hml];simp;omega),cond_true,e];rfl
def SL.ok{x}(_:rA [.sl .byte, .v .byte] x){r}:BP x.1 x.2=some r→Ga x.1 x.2=some r:=KA λh=>zhn x.1 x.2 h
def DJ(b:List UInt8)(x:UInt8):(nD b x).length=b.length:=List.length_map ..
def zif(k b:List UInt8):Gb k b=some (YC k b):=by
 have hL:=sB;simp only[Gb,aA,YC]
 by_cases h1:(k.length:Int)>1048576
 ·rw[decide_eq_true h1];rfl
 by_cases h2:(b.length:Int)>1048512
 ·rw[decide_eq_false h1,decide_eq_true h2];rfl
 have hk:=zah (b:=k) (by omega);rw[decide_eq_false h1,decide_eq_false h2];simp only[cond_false,Bool.or_false,BP,FA (p:=wt (MC k)≤bA) (by rw[AA];omega),YH];rw[FA (by rw[CU,DJ];omega),oT,FA (by rw[CU,DJ];have:=FP (nD (MC k) (UInt8.ofNat (54:Int).toNat)++b);omega),oT];rfl
def NM.ok{x}(_:rA [.sl .byte, .sl .byte] x):Gb x.1 x.2=some (YC x.1 x.2):=zif x.1 x.2
def znQ{l:List UInt8}{i:Nat}(h:i<l.length):l[i]?=some l[i]:=List.getElem?_eq_getElem h
def zc1(b:List UInt8)(x:UInt8){i:Nat}(hi:i<b.length):nD (b.take (i+1)) x=nD (b.take i) x++[zbT b[i] x]:=by rw[nD,IJ b hi,List.map_append];rfl
def zih(k b:List UInt8):Gn k b=some (YC k b):=by
 have hL:=sB;simp only[Gn,aA,YC]
 by_cases h1:(k.length:Int)>1048576
 ·rw[decide_eq_true h1];rfl
 by_cases h2:(b.length:Int)>1048512
 ·rw[decide_eq_false h1,decide_eq_true h2];rfl
 have hk:=zah (b:=k) (by omega);rw[decide_eq_false h1,decide_eq_false h2];simp only[cond_false,Bool.or_false];refine bG (X:=List UInt8×List UInt8×Int) (λy=>y.2.2) (λi=>(nD ((MC k).take i) 54,nD ((MC k).take i) 92,(i:Int))) (λ_=>rfl) 64 (by decide) _ 0 (Nat.zero_le _) (λi kk _ hi=>?_) (λkk=>?_)
 ·have E7:i<(MC k).length:=by omega
  have m1:(nD ((MC k).take i) 54).length=i:=by rw[DJ,List.length_take];omega
  have m2:(nD ((MC k).take i) 92).length=i:=by rw[DJ,List.length_take];omega
  simp only[decide_eq_true (p:=(i:Int)<64) (by omega),cond_true,bE E7,Int.toNat_natCast,znQ E7,TA,ZF (i:=i) (by rw[oC];omega)];rw[IF (by rw[m1];simp;omega),cond_true,IF (by rw[m2];simp;omega),cond_true,zc1 _ _ E7,zc1 _ _ E7];rfl
 ·have ht:(MC k).take 64=MC k:=List.take_of_length_le (by omega);simp only[show((64:Nat):Int)=64 from rfl,show decide ((64:Int)<64)=false from rfl,cond_false,ht];have hs:=FP (nD (MC k) 54++b);rw[IF (by rw[DJ];omega),cond_true,IF (by rw[DJ];omega),cond_true]
def OM.ok{x}(_:rA [.sl .byte, .sl .byte] x):Gn x.1 x.2=some (YC x.1 x.2):=zih x.1 x.2
def RJ{k b:List UInt8}(h1:k.length≤1048576)(h2:b.length≤1048512):(YC k b).length=32:=by
 rw[YC,decide_eq_false (by omega),decide_eq_false (by omega)];simp only[Bool.or_false,cond_false];refine zmL ?_;have:=FP (nD (MC k) 54++b);rw[List.length_append,DJ,zah h1];omega
def yT(n:Int):(nG qJ n 4).length=8:=by rw[NU,List.length_append,eM];rfl
def zhu(s:List UInt8)(n:Int):Gc s n=some (aC s n):=by
 have hL:=sB;simp only[Gc,aA,aC];cases h1:gA (s.length:Int) 1 32
 ·rfl
 cases h2:gA n 0 10000
 ·rfl
 have h1:=HC.1 h1;have hh:=RJ (k:=s) (b:=nG qJ n 4) (by omega) (by rw[yT];omega);simp only[Bool.not_true,cond_false,Bool.and_true,cond_true,bC];rw[FA (by rw[AA];simp;omega)];have hr:[UInt8.ofNat (114:Int).toNat,UInt8.ofNat (111:Int).toNat,UInt8.ofNat (108:Int).toNat,UInt8.ofNat (108:Int).toNat]=qJ:=rfl;rw[hr,show(decide ((0:Int)≤0)&&decide ((0:Int)≤12)&&decide (12≤((YC s (nG qJ n 4)).length:Int)))=true by rw[hh];rfl,cond_true,List.drop_zero,fI,FA (by rw[AA,List.length_take];omega)]
def bM.ok{x}(_:rA [.sl .byte, .v .int] x):Gc x.1 x.2=some (aC x.1 x.2):=zhu x.1 x.2
def zhx(s:List UInt8)(n:Int):Gp s n=some (aC s n):=by
 have hL:=sB;simp only[Gp,aA,aC];cases h1:gA (s.length:Int) 1 32
 ·rfl
 cases h2:gA n 0 10000
 ·rfl
 have h1:=HC.1 h1;have hh:=RJ (k:=s) (b:=nG qJ n 4) (by omega) (by rw[yT];omega);simp only[Bool.not_true,cond_false,Bool.and_true,cond_true,bC];rw[FA (by rw[AA];simp;omega)];have hr:[UInt8.ofNat (114:Int).toNat,UInt8.ofNat (111:Int).toNat,UInt8.ofNat (108:Int).toNat,UInt8.ofNat (108:Int).toNat]=qJ:=rfl;rw[hr,show(decide ((0:Int)≤0)&&decide ((0:Int)≤12)&&decide (12≤((YC s (nG qJ n 4)).length:Int)))=true by rw[hh];rfl,cond_true,List.drop_zero,XJ (by rw[List.length_take];omega),cond_true,List.nil_append]
def fM.ok{x}(_:rA [.sl .byte, .v .int] x):Gp x.1 x.2=some (aC x.1 x.2):=zhx x.1 x.2
def zki(s:List UInt8)(n:Int):wt (aC s n)≤bA:=by
 have hL:=sB;rw[AA,aC];cases gA (s.length:Int) 1 32&&gA n 0 10000
 ·simp
 ·simp only[cond_true,List.length_take];omega
def zdW(w:Aa)(hT:wt w.S.T≤bA):uA FU (λ(x15:Int) k16=>cond (decide (x15<8)) (Option.bind (xC w.S.T (aC w.S.D.Seed (iA .i64 w.S.D.N x15))) λr18=>cond (decide (r18≥0)) (some false) (k16 (iA .i64 x15 1))) (some true)) (0:Int)=some (!XA 8 (za0 w)):=by
 rw[aG 8 (by decide) (za0 w) (some false) (some true) (λi k hi=>?_) (λk=>by exact cond_false _ _)]
 ·cases XA 8 _<;>rfl
 ·rw[decide_eq_true (p:=(i:Int)<8) (by omega),cond_true,xC,FA ⟨hT,zki _ _⟩];rfl
def xN(a b:Int):decide (a≥b)= !decide (a<b):=by
 by_cases h:a<b
 ·rw[decide_eq_true h,decide_eq_false (by omega)];rfl
 ·rw[decide_eq_false h,decide_eq_true (by omega)];rfl
def zg3(w:Aa)(id:Int)(h:wt w≤bA):Gq w id=some (VH w id):=by
 have hw:=jF w h;simp only[Gq,aA,mE,FA h,qF,FA (p:=wt w.S.T≤bA) hw.2.2.2.1,nE,VH];cases ho:mD w
 ·rfl
 cases sX:gA id 1 2
 ·rfl
 rw[SE w.Now 999990];cases decide (w.Now≤999990)
 ·rfl
 obtain⟨i,hi,e0,e1,e2⟩:=HJ ho sX;have LV:=cP ho;obtain⟨o1,o2⟩:=HT (by omega) e0;have zY:1 - i<w.Clients.length:=by omega
 have JW:=zdW w hw.2.2.2.1;simp only[Bool.not_true,Bool.not_false,cond_false,e1,e2,o1,o2,dB hi,dB zY,TA,VB hi,VB zY,Bool.true_and,FA h]at JW⊢;rw[JW,xN (pG w.S.T),xN (w.S.T.L.length:Int),xN w.D.N,SE w.S.D.N];generalize w.Clients[i]=c,w.Clients[1 - i]=o;rw[zG c.St 0,zG o.St 0,zG o.St 3,zG (JF w c.At)];cases c.St==0
 ·rfl
 cases JF w c.At==id
 ·cases o.St==0<;>cases o.St==3<;>rfl
 cases o.St==0<;>cases o.St==3<;>cases decide (pG w.S.T<w.S.T.Cap)<;>cases decide ((w.S.T.L.length:Int)<12)<;>cases lE w.S.Cr c.At<;>cases decide (w.D.N<10000)<;>cases decide (w.S.D.N≤9992)<;>rfl
def FL.ok{x}(_:rA [.v .World, .v .int] x){r}:wG x.1 x.2=some r→Gq x.1 x.2=some r:=KA λh=>zg3 x.1 x.2 h
def zg7(w:Aa)(id:Int)(h:wt w≤bA):Gr w id=some (VH w id):=by
 have hw:=jF w h;simp only[Gr,aA,mE,FA h,qF,FA (p:=wt w.S.T≤bA) hw.2.2.2.1,nE,VH];cases ho:mD w
 ·rfl
 cases sX:gA id 1 2
 ·rfl
 rw[SE w.Now 999990];cases decide (w.Now≤999990)
 ·rfl
 obtain⟨i,hi,e0,e1,e2⟩:=HJ ho sX;have LV:=cP ho;obtain⟨o1,o2⟩:=HT (by omega) e0;have zY:1 - i<w.Clients.length:=by omega
 have JW:=zdW w hw.2.2.2.1;simp only[Bool.not_true,Bool.not_false,cond_false,e1,e2,o1,o2,dB hi,dB zY,TA,VB hi,VB zY,Bool.true_and,FA h]at JW⊢;rw[JW,xN (pG w.S.T),xN (w.S.T.L.length:Int),xN w.D.N,SE w.S.D.N];generalize w.Clients[i]=c,w.Clients[1 - i]=o;rw[zG c.St 0,zG o.St 0,zG o.St 3,zG (JF w c.At)];cases c.St==0
 ·rfl
 cases JF w c.At==id
 ·cases o.St==0<;>cases o.St==3<;>rfl
 cases o.St==0<;>cases o.St==3<;>cases decide (pG w.S.T<w.S.T.Cap)<;>cases decide ((w.S.T.L.length:Int)<12)<;>cases lE w.S.Cr c.At<;>cases decide (w.D.N<10000)<;>cases decide (w.S.D.N≤9992)<;>rfl
def vL.ok{x}(_:rA [.v .World, .v .int] x){r}:wG x.1 x.2=some r→Gr x.1 x.2=some r:=KA λh=>zg7 x.1 x.2 h
end Go.D
