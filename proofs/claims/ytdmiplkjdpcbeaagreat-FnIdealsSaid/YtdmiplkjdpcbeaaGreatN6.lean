/-
 Sizes of the program's data.
-/
import Derived.Test.YtdmiplkjdpcbeaaGreatN5
namespace Go.D
end Go.D
namespace Go.D
noncomputable section
def BV (n:Int) (i:Nat):UInt8:=UInt8.ofNat (IntKind.wrap .u8 (JB .i64 (wE .i64 n (LB .i64 8 (i:Int))) 255)).toNat
def YF (n:Int):Nat→List UInt8
 | 0=>[]
 | i+1=>BV n i :: YF n i
def LH (b:List UInt8) (n k:Int):List UInt8:=bif decide (k<1)||decide (k>6) then b else b++YF n k.toNat
def LC (b:List UInt8) (n k:Int):Option (List UInt8):=pt (wt b+6≤bA) (LH b n k)
def nN (l:List UInt8):Int:=l.foldl (fun n x=>cA .i64 (LB .i64 n 256) (IntKind.wrap .i64 ((x.toNat:Nat):Int))) 0
def oR (b:List UInt8) (xA k:Int):Int × Int × Bool:=bif decide (k<1)||(decide (k>6)||(decide (xA<0)||decide (xA>(b.length:Int) - k))) then (0,0,false) else (nN ((b.drop xA.toNat).take k.toNat),cA .i64 xA k,true)
def CH (b:List UInt8) (xA k:Int):Option (Int × Int × Bool):=pt (wt b≤bA) (oR b xA k)
def cut (b:List UInt8) (f n:Int):List UInt8 × Bool:=bif decide (f<0)||(decide (n<0)||(decide (f>(b.length:Int))||decide (n>(b.length:Int) - f))) then ([],false) else ((b.drop f.toNat).take n.toNat,true)
def pQ (b:List UInt8) (f n:Int):Option (List UInt8 × Bool):=pt (wt b≤bA) (cut b f n)
def VE (a:Int):Int:=JB .i64 a 4294967295
def aF (x n:Int):Int:=VE (YR .i64 (wE .i64 (VE x) n) (aS .i64 (VE x) (sA .i64 32 n)))
def xF (x n:Int):Option Int:=pt (1≤n∧n≤31) (aF x n)
def qH (a b:Int):Int:=VE (cA .i64 a b)
def EE:List Int:=[1779033703,3144134277,1013904242,2773480762,1359893119,2600822924,528734635,1541459225]
def uJ:List Int:=[1116352408,1899447441,3049323471,3921009573,961987163,1508970993,2453635748,2870763221,3624381080,310598401,607225278,1426881987,1925078388,2162078206,2614888103,3248222580,3835390401,4022224774,264347078,604807628,770255983,1249150122,1555081692,1996064986,2554220882,2821834349,2952996808,3210313671,3336571891,3584528711,113926993,338241895,666307205,773529912,1294757372,1396182291,1695183700,1986661051,2177026350,2456956037,2730485921,2820302411,3259730800,3345764771,3516065817,3600352804,4094571909,275423344,430227734,506948616,659060556,883997877,958139571,1322822218,1537002063,1747873779,1955562222,2024104815,2227730452,2361852424,2428436474,2756734187,3204031479,3329325298]
def zbL (b:List UInt8) (w:List Int) (i:Nat):Int:=if i<16 then (oR b (4 *i:Nat) 4).1 else
 let x:=w.getD (i - 15) 0
 let y:=w.getD (i - 2) 0
 VE (cA .i64 (cA .i64 (cA .i64 (w.getD (i - 7) 0) (w.getD (i - 16) 0)) (bC .i64 (bC .i64 (aF x 7) (aF x 18)) (wE .i64 x 3))) (bC .i64 (bC .i64 (aF y 17) (aF y 19)) (wE .i64 y 10)))
def uD (b:List UInt8):Nat→List Int
 | 0=>[]
 | i+1=>uD b i++[zbL b (uD b i) i]
def TC (b:List UInt8):List Int:=if b.length=64 then uD b 64 else []
def BS (b:List UInt8):Option (List Int):=pt (wt b≤bA) (TC b)
abbrev S8:=Int × Int × Int × Int × Int × Int × Int × Int
def rT (k w:Int) (s:S8):Int:=
 cA .i64 (cA .i64 (cA .i64 (cA .i64 s.2.2.2.2.2.2.2 (bC .i64 (bC .i64 (aF s.2.2.2.2.1 6) (aF s.2.2.2.2.1 11)) (aF s.2.2.2.2.1 25)))
  (bC .i64 (JB .i64 s.2.2.2.2.1 s.2.2.2.2.2.1) (JB .i64 (bC .i64 s.2.2.2.2.1 4294967295) s.2.2.2.2.2.2.1))) k) w
def rU (s:S8):Int:=cA .i64 (bC .i64 (bC .i64 (aF s.1 2) (aF s.1 13)) (aF s.1 22)) (bC .i64 (bC .i64 (JB .i64 s.1 s.2.1) (JB .i64 s.1 s.2.2.1)) (JB .i64 s.2.1 s.2.2.1))
def cV (l:List Int):Bool:=vC l 8
def zsi (k w:Int) (s:S8):S8:=(VE (cA .i64 (VE (rT k w s)) (VE (rU s))),s.1,s.2.1,s.2.2.1,VE (cA .i64 s.2.2.2.1 (VE (rT k w s))),s.2.2.2.2.1,s.2.2.2.2.2.1,s.2.2.2.2.2.2.1)
def rounds (w:List Int) (s:S8):Nat→S8
 | 0=>s
 | i+1=>zsi (uJ.getD i 0) (w.getD i 0) (rounds w s i)
def oE (h:List Int):S8:=(h.getD 0 0,h.getD 1 0,h.getD 2 0,h.getD 3 0,h.getD 4 0,h.getD 5 0,h.getD 6 0,h.getD 7 0)
def iG (s:S8):List Int:=[s.1,s.2.1,s.2.2.1,s.2.2.2.1,s.2.2.2.2.1,s.2.2.2.2.2.1,s.2.2.2.2.2.2.1,s.2.2.2.2.2.2.2]
def GF (h:List Int) (b:List UInt8):List Int:=List.zipWith qH h (iG (rounds (TC b) (oE h) 64))
def iJ (h:List Int) (b:List UInt8):List Int:=bif vC h 8&&b.length==64 then GF h b else h
def bN (h:List Int) (b:List UInt8):Option (List Int):=pt (wt h≤bA∧wt b≤bA) (iJ h b)
def gF (h:List Int):Nat→List UInt8→List Int
 | 0,_=>h
 | n+1,b=>gF (iJ h (b.take 64)) n (b.drop 64)
def cF (h:List Int):List UInt8:=h.flatMap fun x=>YF x 4
def EP (h:List Int):Option (List UInt8):=pt (h.length=8) (cF h)
def WD (n:Nat):Nat:=(119 - n % 64) % 64
def oG (n:Nat):List UInt8:=(128 :: List.replicate (WD n) 0)++([0,0,0,0]++YF ((8 *n:Nat):Int) 4)
def nS (n:Int):Option (List UInt8):=pt (0≤n∧n≤1048576) (oG n.toNat)
def HS (b:List UInt8):List UInt8:=cF (gF EE ((b++oG b.length).length / 64) (b++oG b.length))
def DE (b:List UInt8):List UInt8:=bif decide ((b.length:Int)>1048576) then [] else HS b
def cO (l:List UInt8):List UInt8:=l++List.replicate (64 - l.length) 0
def zD (k:List UInt8):List UInt8:=bif decide ((k.length:Int)>1048576) then [] else cO (bif decide ((k.length:Int)>64) then DE k else k)
def zhd (x y:UInt8):UInt8:=UInt8.ofNat (bC .u8 ((x.toNat:Nat):Int) ((y.toNat:Nat):Int)).toNat
def NF (b:List UInt8) (x:UInt8):List UInt8:=b.map fun y=>zhd y x
def FD (k b:List UInt8):List UInt8:=bif decide ((k.length:Int)>1048576)||decide ((b.length:Int)>1048512) then [] else DE (NF (zD k) 92++DE (NF (zD k) 54++b))
def hO:List UInt8:=[114,111,108,108]
def NC (s:List UInt8) (n:Int):List UInt8:=bif iA (s.length:Int) 1 32&&iA n 0 10000 then (FD s (LH hO n 4)).take 12 else []
end
end Go.D
namespace Go.D
open Option renaming bind → ob
noncomputable section
def ze3.raw (a0:List UInt8) (a1:Int) (a2:Int):Option (List UInt8):=
 cond (decide (([]:List UInt8).length+a0.length≤bA)) (aA (fun (y1:Bool)=>
 cond (y1)
 (some ([]++a0))
 (aA (fun (y3:(List UInt8))=>
 some y3) fun k4=>
 tA FU (fun (x5:(List UInt8) × Int) k6=>
 cond (decide (x5.2≥0))
 (cond (decide ((LB .i64 8 x5.2)<0)) none (let x7:Int:=JB .i64 (wE .i64 a1 (LB .i64 8 x5.2)) 255
 cond (decide (x5.1.length+[UInt8.ofNat (IntKind.wrap .u8 x7:Int).toNat].length≤bA)) (k6 ((x5.1++[UInt8.ofNat (IntKind.wrap .u8 x7:Int).toNat]),(sA .i64 x5.2 1))) none))
 (k4 x5.1)) (([]++a0),(sA .i64 a2 1)))) fun k2=>
 cond (decide (a2<1))
 (k2 true)
 (k2 (decide (a2>6)))) none
def vT.raw (a0:List UInt8) (a1:Int) (a2:Int):Option (List UInt8):=
 cond (decide (([]:List UInt8).length+a0.length≤bA)) (aA (fun (y1:Bool)=>
 cond (y1)
 (some ([]++a0))
 (aA (fun (y3:(List UInt8))=>
 some y3) fun k4=>
 tA FU (fun (x5:(List UInt8) × Int) k6=>
 cond (decide (x5.2≥0))
 (cond (decide ((LB .i64 8 x5.2)<0)) none (let x7:Int:=JB .i64 (wE .i64 a1 (LB .i64 8 x5.2)) 255
 cond (decide (x5.1.length+[UInt8.ofNat (IntKind.wrap .u8 x7:Int).toNat].length≤bA)) (k6 ((x5.1++[UInt8.ofNat (IntKind.wrap .u8 x7:Int).toNat]),(sA .i64 x5.2 1))) none))
 (k4 x5.1)) (([]++a0),(sA .i64 a2 1)))) fun k2=>
 cond (decide (a2<1))
 (k2 true)
 (k2 (decide (a2>6)))) none
def NL.raw (a0:Int):Option (List UInt8):=
 aA (fun (y1:Bool)=>
 cond (y1)
 (some [])
 (aA (fun (y3:(List UInt8))=>
 ob (LC y3 0 4) fun r8=>
 ob (LC r8 (LB .i64 8 a0) 4) fun r9=>
 some r9) fun k4=>
 tA FU (fun (x5:(List UInt8)) k6=>
 let x7:Int:=cA .i64 (cA .i64 a0 (x5.length:Int)) 8
 cond ((GA .i64 x7 64) !=0)
 (cond (decide (x5.length+[UInt8.ofNat (0:Int).toNat].length≤bA)) (k6 (x5++[UInt8.ofNat (0:Int).toNat])) none)
 (k4 x5)) [UInt8.ofNat (128:Int).toNat])) fun k2=>
 cond (decide (a0<0))
 (k2 true)
 (k2 (decide (a0>1048576)))
def KT.raw:Option (List Int):=
 let x1:List Int:=[1779033703,3144134277,1013904242,2773480762,1359893119,2600822924,528734635,1541459225]
 some x1
def xM.raw (a0:List Int):Option Bool:=
 aA (fun (y1:Unit)=>
 some ((a0.length:Int)==8)) fun k2=>
 tA FU (fun (x3:Int) k4=>
 cond (decide (x3<(a0.length:Int)))
 (ob (pA a0 x3) fun e5=>
 cond (!(iA e5 0 4294967295))
 (some false)
 (k4 (cA .i64 x3 1)))
 (k2 ())) 0
def KU.raw:Option (List Int):=
 let x1:List Int:=[1116352408,1899447441,3049323471,3921009573,961987163,1508970993,2453635748,2870763221,3624381080,310598401,607225278,1426881987,1925078388,2162078206,2614888103,3248222580,3835390401,4022224774,264347078,604807628,770255983,1249150122,1555081692,1996064986,2554220882,2821834349,2952996808,3210313671,3336571891,3584528711,113926993,338241895,666307205,773529912,1294757372,1396182291,1695183700,1986661051,2177026350,2456956037,2730485921,2820302411,3259730800,3345764771,3516065817,3600352804,4094571909,275423344,430227734,506948616,659060556,883997877,958139571,1322822218,1537002063,1747873779,1955562222,2024104815,2227730452,2361852424,2428436474,2756734187,3204031479,3329325298]
 some x1
def HL.raw (a0:List UInt8) (a1:Int) (a2:Int):Option (Int × Int × Bool):=
 aA (fun (y1:Bool)=>
 cond (y1)
 (some (0,0,false))
 (aA (fun (y3:Int)=>
 some (y3,cA .i64 a1 a2,true)) fun k4=>
 tA FU (fun (x5:Int × Int) k6=>
 cond (decide (x5.2<a2))
 (ob (pA a0 (cA .i64 a1 x5.2)) fun e7=>
 let x8:Int:=IntKind.wrap .i64 ((e7.toNat:Nat):Int)
 k6 ((cA .i64 (LB .i64 x5.1 256) x8),(cA .i64 x5.2 1)))
 (k4 x5.1)) (0,0))) fun k2=>
 cond (decide (a2<1))
 (k2 true)
 (cond (decide (a2>6))
 (k2 true)
 (cond (decide (a1<0))
 (k2 true)
 (k2 (decide (a1>(sA .i64 (a0.length:Int) a2))))))
def SL.raw (a0:Int) (a1:Int):Option Int:=
 aA (fun (y1:Bool)=>
 cond (y1)
 (some (JB .i64 a0 4294967295))
 (cond (decide (a1<0)) none (cond (decide ((sA .i64 32 a1)<0)) none (let x3:Int:=aS .i64 (JB .i64 a0 4294967295) (sA .i64 32 a1)
 let x4:Int:=YR .i64 (wE .i64 (JB .i64 a0 4294967295) a1) x3
 some (JB .i64 x4 4294967295))))) fun k2=>
 cond (decide (a1<1))
 (k2 true)
 (k2 (decide (a1>31)))
def VL.raw (a0:List UInt8):Option (List Int):=
 cond ((a0.length:Int) !=64)
 (some [])
 (aA (fun (y1:(List Int))=>
 aA (fun (y6:(List Int))=>
 some y6) fun k7=>
 tA FU (fun (x8:(List Int) × Int) k9=>
 cond (decide (x8.2<64))
 (cond (decide (0≤sA .i64 x8.2 15)&&decide (sA .i64 x8.2 15<(x8.1.length:Int))) (ob (x8.1[(sA .i64 x8.2 15).toNat]?) fun e10=>
 cond (decide (0≤sA .i64 x8.2 2)&&decide (sA .i64 x8.2 2<(x8.1.length:Int))) (ob (x8.1[(sA .i64 x8.2 2).toNat]?) fun e11=>
 ob (xF e10 7) fun r12=>
 ob (xF e10 18) fun r13=>
 let x14:Int:=bC .i64 (bC .i64 r12 r13) (wE .i64 e10 3)
 ob (xF e11 17) fun r15=>
 ob (xF e11 19) fun r16=>
 let x17:Int:=bC .i64 (bC .i64 r15 r16) (wE .i64 e11 10)
 cond (decide (0≤sA .i64 x8.2 7)&&decide (sA .i64 x8.2 7<(x8.1.length:Int))) (ob (x8.1[(sA .i64 x8.2 7).toNat]?) fun e18=>
 cond (decide (0≤sA .i64 x8.2 16)&&decide (sA .i64 x8.2 16<(x8.1.length:Int))) (ob (x8.1[(sA .i64 x8.2 16).toNat]?) fun e19=>
 let x20:Int:=cA .i64 (cA .i64 (cA .i64 e18 e19) x14) x17
 cond (decide (x8.1.length+[JB .i64 x20 4294967295].length≤bA)) (k9 ((x8.1++[JB .i64 x20 4294967295]),(cA .i64 x8.2 1))) none) none) none) none) none)
 (k7 x8.1)) (y1,16)) fun k2=>
 tA FU (fun (x3:(List Int) × Int) k4=>
 cond (decide (x3.2<16))
 (ob (CH a0 (LB .i64 4 x3.2) 4) fun r5=>
 cond (decide (x3.1.length+[r5.1].length≤bA)) (k4 ((x3.1++[r5.1]),(cA .i64 x3.2 1))) none)
 (k2 x3.1)) ([],0))
def xL.raw (a0:List Int) (a1:List UInt8):Option (List Int):=
 cond (decide (([]:List Int).length+a0.length≤bA)) (aA (fun (y1:Bool)=>
 cond (y1)
 (some ([]++a0))
 (let r3:(List Int):=uJ
 ob (BS a1) fun r4=>
 ob (pA a0 0) fun e5=>
 ob (pA a0 1) fun e6=>
 ob (pA a0 2) fun e7=>
 ob (pA a0 3) fun e8=>
 ob (pA a0 4) fun e9=>
 ob (pA a0 5) fun e10=>
 ob (pA a0 6) fun e11=>
 ob (pA a0 7) fun e12=>
 aA (fun (y13:Int × Int × Int × Int × Int × Int × Int × Int)=>
 let x34:List Int:=[y13.1,y13.2.1,y13.2.2.1,y13.2.2.2.1,y13.2.2.2.2.1,y13.2.2.2.2.2.1,y13.2.2.2.2.2.2.1,y13.2.2.2.2.2.2.2]
 aA (fun (y35:(List Int))=>
 some y35) fun k36=>
 tA FU (fun (x37:Int × (List Int)) k38=>
 cond (decide (x37.1<8))
 (ob (pA a0 x37.1) fun e39=>
 cond (decide (0≤x37.1)&&decide (x37.1<(x34.length:Int))) (ob (x34[x37.1.toNat]?) fun e40=>
 cond (decide (0≤x37.1)&&decide (x37.1<(x37.2.length:Int))) (ob (x37.2[x37.1.toNat]?) fun e41=>
 let l42:List Int:=List.set x37.2 x37.1.toNat (JB .i64 (cA .i64 e39 e40) 4294967295)
 k38 ((cA .i64 x37.1 1),l42)) none) none)
 (k36 x37.2)) (0,([]++a0))) fun k14=>
 tA FU (fun (x15:Int × Int × Int × Int × Int × Int × Int × Int × Int) k16=>
 cond (decide (x15.2.2.2.2.2.2.2.2<64))
 (ob (xF x15.2.2.2.2.1 6) fun r17=>
 ob (xF x15.2.2.2.2.1 11) fun r18=>
 ob (xF x15.2.2.2.2.1 25) fun r19=>
 let x20:Int:=cA .i64 x15.2.2.2.2.2.2.2.1 (bC .i64 (bC .i64 r17 r18) r19)
 let x21:Int:=JB .i64 (bC .i64 x15.2.2.2.2.1 4294967295) x15.2.2.2.2.2.2.1
 let x22:Int:=bC .i64 (JB .i64 x15.2.2.2.2.1 x15.2.2.2.2.2.1) x21
 cond (decide (0≤x15.2.2.2.2.2.2.2.2)&&decide (x15.2.2.2.2.2.2.2.2<(r3.length:Int))) (ob (r3[x15.2.2.2.2.2.2.2.2.toNat]?) fun e23=>
 cond (decide (0≤x15.2.2.2.2.2.2.2.2)&&decide (x15.2.2.2.2.2.2.2.2<(r4.length:Int))) (ob (r4[x15.2.2.2.2.2.2.2.2.toNat]?) fun e24=>
 let x25:Int:=cA .i64 (cA .i64 (cA .i64 x20 x22) e23) e24
 ob (xF x15.1 2) fun r26=>
 ob (xF x15.1 13) fun r27=>
 ob (xF x15.1 22) fun r28=>
 let x29:Int:=bC .i64 (JB .i64 x15.1 x15.2.1) (JB .i64 x15.1 x15.2.2.1)
 let x30:Int:=bC .i64 x29 (JB .i64 x15.2.1 x15.2.2.1)
 let x31:Int:=cA .i64 (bC .i64 (bC .i64 r26 r27) r28) x30
 let x32:Int:=cA .i64 x15.2.2.2.1 (JB .i64 x25 4294967295)
 let x33:Int:=cA .i64 (JB .i64 x25 4294967295) (JB .i64 x31 4294967295)
 k16 ((JB .i64 x33 4294967295),x15.1,x15.2.1,x15.2.2.1,(JB .i64 x32 4294967295),x15.2.2.2.2.1,x15.2.2.2.2.2.1,x15.2.2.2.2.2.2.1,(cA .i64 x15.2.2.2.2.2.2.2.2 1))) none) none)
 (k14 (x15.1,x15.2.1,x15.2.2.1,x15.2.2.2.1,x15.2.2.2.2.1,x15.2.2.2.2.2.1,x15.2.2.2.2.2.2.1,x15.2.2.2.2.2.2.2.1))) (e5,e6,e7,e8,e9,e10,e11,e12,0))) fun k2=>
 cond (!(cV a0))
 (k2 true)
 (k2 ((a1.length:Int) !=64))) none
def wM.raw (a0:List Int):Option (List UInt8):=
 aA (fun (y1:(List UInt8))=>
 some y1) fun k2=>
 tA FU (fun (x3:(List UInt8) × Int) k4=>
 cond (decide (x3.2<8))
 (ob (pA a0 x3.2) fun e5=>
 ob (LC x3.1 e5 4) fun r6=>
 k4 (r6,(cA .i64 x3.2 1)))
 (k2 x3.1)) ([],0)
def YL.raw (a0:List UInt8):Option (List UInt8):=
 cond (decide ((a0.length:Int)>1048576))
 (some [])
 (cond (decide (([]:List UInt8).length+a0.length≤bA)) (ob (nS (a0.length:Int)) fun r1=>
 cond (decide (([]++a0).length+r1.length≤bA)) (let r2:(List Int):=EE
 aA (fun (y3:(List Int))=>
 ob (EP y3) fun r8=>
 some r8) fun k4=>
 tA FU (fun (x5:(List Int) × Int) k6=>
 cond (decide (x5.2<((([]++a0)++r1).length:Int)))
 (cond (decide (0≤x5.2)&&decide (x5.2≤(cA .i64 x5.2 64))&&decide ((cA .i64 x5.2 64)≤((([]++a0)++r1).length:Int))) (ob (bN x5.1 (List.take ((cA .i64 x5.2 64 - x5.2).toNat) (List.drop x5.2.toNat (([]++a0)++r1)))) fun r7=>
 k6 (r7,(cA .i64 x5.2 64))) none)
 (k4 x5.1)) (r2,0)) none) none)
def pL.raw (a0:List UInt8):Option (List UInt8):=
 cond (decide ((a0.length:Int)>1048576))
 (some [])
 (cond (decide (([]:List UInt8).length+a0.length≤bA)) (aA (fun (y1:(List UInt8))=>
 aA (fun (y4:(List UInt8))=>
 some y4) fun k5=>
 tA FU (fun (x6:(List UInt8)) k7=>
 cond (decide ((x6.length:Int)<64))
 (cond (decide (x6.length+[UInt8.ofNat (0:Int).toNat].length≤bA)) (k7 (x6++[UInt8.ofNat (0:Int).toNat])) none)
 (k5 x6)) y1) fun k2=>
 cond (decide ((a0.length:Int)>64))
 (let r3:(List UInt8):=DE a0
 k2 r3)
 (k2 ([]++a0))) none)
def IL.raw (a0:List UInt8) (a1:List UInt8):Option (List UInt8):=
 aA (fun (y1:Bool)=>
 cond (y1)
 (some [])
 (let r3:(List UInt8):=zD a0
 aA (fun (y4:(List UInt8) × (List UInt8))=>
 cond (decide (y4.1.length+a1.length≤bA)) (let r12:(List UInt8):=DE (y4.1++a1)
 cond (decide (y4.2.length+r12.length≤bA)) (let r13:(List UInt8):=DE (y4.2++r12)
 some r13) none) none) fun k5=>
 tA FU (fun (x6:(List UInt8) × (List UInt8) × Int) k7=>
 cond (decide (x6.2.2<64))
 (cond (decide (0≤x6.2.2)&&decide (x6.2.2<(r3.length:Int))) (ob (r3[x6.2.2.toNat]?) fun e8=>
 let x9:List UInt8:=[UInt8.ofNat (bC .u8 ((e8.toNat:Nat):Int) 54:Int).toNat]
 cond (decide (x6.1.length+x9.length≤bA)) (cond (decide (0≤x6.2.2)&&decide (x6.2.2<(r3.length:Int))) (ob (r3[x6.2.2.toNat]?) fun e10=>
 let x11:List UInt8:=[UInt8.ofNat (bC .u8 ((e10.toNat:Nat):Int) 92:Int).toNat]
 cond (decide (x6.2.1.length+x11.length≤bA)) (k7 ((x6.1++x9),(x6.2.1++x11),(cA .i64 x6.2.2 1))) none) none) none) none)
 (k5 (x6.1,x6.2.1))) ([],[],0))) fun k2=>
 cond (decide ((a0.length:Int)>1048576))
 (k2 true)
 (k2 (decide ((a1.length:Int)>1048512)))
def AL.raw (a0:List UInt8) (a1:Int):Option (List UInt8):=
 aA (fun (y1:Bool)=>
 cond (y1)
 (some [])
 (let x3:List UInt8:=[UInt8.ofNat (114:Int).toNat,UInt8.ofNat (111:Int).toNat,UInt8.ofNat (108:Int).toNat,UInt8.ofNat (108:Int).toNat]
 ob (LC x3 a1 4) fun r4=>
 let r5:(List UInt8):=FD a0 r4
 cond (decide (0≤(0:Int))&&decide ((0:Int)≤12)&&decide (12≤(r5.length:Int))) (cond (decide (([]:List UInt8).length+(List.take 12 (List.drop 0 r5)).length≤bA)) (some ([]++(List.take 12 (List.drop 0 r5)))) none) none)) fun k2=>
 cond (!(iA (a0.length:Int) 1 32))
 (k2 true)
 (k2 (!(iA a1 0 10000)))
end
end Go.D
namespace Go.D
end Go.D
namespace Go.D
theorem zq4 {σ R:Type} (n:Nat) (hn:n≤maxLen) (S:Nat→σ) (z:Option R) {f:σ × Int→(σ × Int→Option R)→Option R}
  (hf:∀ (i:Nat) k,i<n→f (S i,(i:Int)) k=k (S (i+1),IntKind.wrap .i64 ((i:Int)+1))) (hz:∀ k,f (S n,(n:Int)) k=z) (a:Nat) (ha:a≤n):tA FU f (S a,(a:Int))=z:=by
 refine TE (g:=fun _=>z) (fun x=>∃ i:Nat,i≤n∧x=(S i,(i:Int))) (fun x=>n - x.2.toNat) (fun x hx k hk=>?_) ⟨a,ha,rfl⟩ (by unfold maxLen at hn;simp only [Int.toNat_natCast];omega)
 obtain ⟨i,hi,rfl⟩:=hx
 rcases Nat.lt_or_eq_of_le hi with RV | rfl
 ·rw [hf i k RV,XC i (by omega)]
  exact hk _ ⟨i+1,RV,rfl⟩ (by simp only [Int.toNat_natCast];omega)
 ·exact hz k
theorem zrx (n:Nat) (h:n<2^64):(BitVec.ofInt 64 (n:Int)).toNat=n:=by
 rw [BitVec.toNat_ofInt];omega
theorem zq8 (a:Int):0≤VE a∧VE a≤4294967295:=by
 have h:(BitVec.ofInt 64 a&&&BitVec.ofInt 64 4294967295).toNat≤4294967295:=by
  rw [BitVec.toNat_and]
  exact Nat.le_trans Nat.and_le_right (by decide)
 unfold VE JB
 show 0≤IntKind.wrap .i64 ((BitVec.ofInt 64 a&&&BitVec.ofInt 64 4294967295).toNat:Int)∧IntKind.wrap .i64 ((BitVec.ofInt 64 a&&&BitVec.ofInt 64 4294967295).toNat:Int)≤4294967295
 rw [fC (by omega) (by omega)];omega
def W32 (a:Int):Prop:=0≤a∧a≤4294967295
theorem FG {a b:Nat} (h:a+b≤bA):decide (a+b≤bA)=true:=decide_eq_true h
theorem zsh (b:List UInt8) (n k:Int) (h:wt b+6≤bA):ze3.raw b n k=some (LH b n k):=by
 rw [LA] at h
 simp only [ze3.raw,aA,LH,List.nil_append]
 rw [RM (by omega)]
 simp only [cond_true]
 by_cases h1:k<1
 ·rw [decide_eq_true h1];rfl
 by_cases h2:k>6
 ·rw [decide_eq_false h1,decide_eq_true h2];rfl
 rw [decide_eq_false h1,decide_eq_false h2]
 simp only [cond_false,Bool.or_false]
 have hk:sA .i64 k 1=k - 1:=by rw [sA,fC (by omega) (by omega)]
 rw [hk]
 rw [TE (g:=fun x:List UInt8 × Int=>some (x.1++YF n (x.2+1).toNat)) (fun x=> -1≤x.2∧x.2≤5∧(x.1.length:Int)+x.2+1≤(bA:Int)) (fun x=>(x.2+1).toNat) (fun x hx kk vZ=>?_) (x:=(b,k - 1)) ⟨by show -1≤k - 1;omega,by show k - 1≤5;omega,by show (b.length:Int)+(k - 1)+1≤(bA:Int);omega⟩ (by show (k - 1+1).toNat<2^64;omega)]
 ·rw [show k - 1+1=k by omega]
 ·obtain ⟨l,i⟩:=x
  obtain ⟨g1,g2,g3⟩:=hx
  simp only at g1 g2 g3 ⊢
  by_cases hi:0≤i
  ·obtain ⟨j,rfl⟩:=hG hi
   have e1:LB .i64 8 (j:Int)=8 *(j:Int):=fC (by omega) (by omega)
   have e2:sA .i64 (j:Int) 1=(j:Int) - 1:=by rw [sA,fC (by omega) (by omega)]
   have e3:decide (LB .i64 8 (j:Int)<0)=false:=decide_eq_false (by rw [e1];omega)
   rw [decide_eq_true (p:=(j:Int)≥0) hi,cond_true,e3,cond_false,FG (by simp;omega),cond_true,e2]
   refine (vZ (l++[BV n j],(j:Int) - 1) ⟨by show -1≤(j:Int) - 1;omega,by show (j:Int) - 1≤5;omega,by show ((l++[BV n j]).length:Int)+((j:Int) - 1)+1≤(bA:Int);simp;omega⟩ (by show ((j:Int) - 1+1).toNat<((j:Int)+1).toNat;omega)).trans ?_
   simp only
   rw [show ((j:Int) - 1+1).toNat=j by omega,show ((j:Int)+1).toNat=j+1 by omega,YF,List.append_assoc];rfl
  ·have:i= -1:=by omega
   subst this
   simp [YF]
theorem vT.ok {x:lA [.sl .byte, .v .int, .v .int]} (_:rA [.sl .byte, .v .int, .v .int] x) {r:List UInt8}:LC x.1 x.2.1 x.2.2=some r→vT.raw x.1 x.2.1 x.2.2=some r:=HA fun h=>zsh x.1 x.2.1 x.2.2 h
theorem zqe (l:List UInt8) {i:Nat} (hi:i<l.length):nN (l.take (i+1))=cA .i64 (LB .i64 (nN (l.take i)) 256) (IntKind.wrap .i64 ((l[i].toNat:Nat):Int)):=by
 rw [nN,EM l hi,List.foldl_append];rfl
theorem ztl (b:List UInt8) (f k:Int) (h:wt b≤bA) (hf:VC .i64 f):HL.raw b f k=some (oR b f k):=by
 have hl:b.length≤bA:=by rw [← LA];exact h
 have hL:=qA
 have hf:=fR hf
 simp only [HL.raw,aA,oR]
 by_cases h1:k<1
 ·rw [decide_eq_true h1];rfl
 by_cases h2:k>6
 ·rw [decide_eq_false h1,decide_eq_true h2];rfl
 by_cases h3:f<0
 ·rw [decide_eq_false h1,decide_eq_false h2,decide_eq_true h3];rfl
 have e:sA .i64 (b.length:Int) k=(b.length:Int) - k:=by rw [sA,fC (by omega) (by omega)]
 rw [e]
 by_cases h4:f>(b.length:Int) - k
 ·rw [decide_eq_false h1,decide_eq_false h2,decide_eq_false h3,decide_eq_true h4];rfl
 rw [decide_eq_false h1,decide_eq_false h2,decide_eq_false h3,decide_eq_false h4]
 simp only [cond_false,Bool.or_false]
 obtain ⟨a,rfl⟩:=hG (n:=f) (by omega)
 obtain ⟨m,rfl⟩:=hG (n:=k) (by omega)
 simp only [Int.toNat_natCast]
 refine zq4 m (by rw [QC];omega) (fun i=>nN (((b.drop a).take m).take i)) _ (fun i k hi=>?_) (fun k=>?_) 0 (Nat.zero_le _)
 ·have e1:cA .i64 (a:Int) (i:Int)=((a+i:Nat):Int):=by rw [cA,fC (by omega) (by omega)];omega
  have RV:i<((b.drop a).take m).length:=by rw [List.length_take,List.length_drop];omega
  have hai:a+i<b.length:=by omega
  rw [TB hi,cond_true,e1,nB hai,dB,zqe _ RV]
  simp only [List.getElem_take,List.getElem_drop]
 ·rw [dC,cond_false,List.take_of_length_le (i:=m) (by rw [List.length_take];omega)]
theorem HL.ok {x:lA [.sl .byte, .v .int, .v .int]} (hb:rA [.sl .byte, .v .int, .v .int] x) {r:Int × Int × Bool}:CH x.1 x.2.1 x.2.2=some r→HL.raw x.1 x.2.1 x.2.2=some r:=HA fun h=>
 ztl x.1 x.2.1 x.2.2 h (PP hb.2.1 0 (by decide) rfl)
theorem zuK (a n:Int) (h:1≤n∧n≤31):SL.raw a n=some (aF a n):=by
 simp only [SL.raw,aA,aF,VE]
 rw [decide_eq_false (p:=n<1) (by omega),decide_eq_false (p:=n>31) (by omega),decide_eq_false (p:=n<0) (by omega)]
 have:sA .i64 32 n=32 - n:=by rw [sA,fC (by omega) (by omega)]
 rw [this,decide_eq_false (p:=32 - n<0) (by omega)];rfl
theorem SL.ok {x:lA [.v .int, .v .int]} (_:rA [.v .int, .v .int] x) {r:Int}:xF x.1 x.2=some r→SL.raw x.1 x.2=some r:=HA fun h=>zuK x.1 x.2 h
theorem KT.ok {x:lA []} (_:rA [] x):KT.raw=some EE:=rfl
theorem KU.ok {x:lA []} (_:rA [] x):KU.raw=some uJ:=rfl
theorem xM.ok {x:lA [.sl .int]} (hb:rA [.sl .int] x):xM.raw x=some (cV x):=by
 show xM.raw (x:List Int)=some (vC (x:List Int) 8)
 have hl:(show List Int from x).length≤maxLen:=hb.1
 generalize (show List Int from x)=l at hl ⊢
 simp only [xM.raw,aA]
 rw [sV l hl,vC]
 cases List.all _ _ <;> rfl
end Go.D
namespace Go.D
theorem fL {X R:Type} (idx:X→Int) (E:Nat→X) (F6:∀ i,idx (E i)=(i:Int)) (n:Nat) (hn:n≤maxLen) (z:Option R) {f:X→(X→Option R)→Option R} (a:Nat) (ha:a≤n)
  (hf:∀ (i:Nat) k,a≤i→i<n→f (E i) k=k (E (i+1))) (hz:∀ k,f (E n) k=z):tA FU f (E a)=z:=by
 refine TE (g:=fun _=>z) (fun x=>∃ i:Nat,a≤i∧i≤n∧x=E i) (fun x=>n - (idx x).toNat) (fun x hx k hk=>?_) ⟨a,Nat.le_refl _,ha,rfl⟩ (by rw [F6];unfold maxLen at hn;simp only [Int.toNat_natCast];omega)
 obtain ⟨i,h0,hi,rfl⟩:=hx
 rcases Nat.lt_or_eq_of_le hi with RV | rfl
 ·rw [hf i k h0 RV]
  exact hk _ ⟨i+1,by omega,RV,rfl⟩ (by rw [F6,F6];simp only [Int.toNat_natCast];omega)
 ·exact hz k
theorem EH {n i:Nat} (h:i<n):(decide ((0:Int)≤(i:Int))&&decide ((i:Int)<(n:Int)))=true:=by simp;exact h
theorem BH {l:List Int} {i:Nat} (h:i<l.length):l[i]?=some (l.getD i 0):=by
 rw [List.getD_eq_getElem?_getD,List.getElem?_eq_getElem h];rfl
theorem bS {i c:Nat} (h:i≤maxLen) (hc:c≤i):sA .i64 (i:Int) (c:Int)=((i - c:Nat):Int):=by
 rw [QC] at h
 rw [sA,fC (by omega) (by omega)];omega
theorem FK {i:Nat} (h:i<maxLen):cA .i64 (i:Int) 1=((i+1:Nat):Int):=XC i h
theorem zq5 {i n:Nat} (h:i<n):decide ((i:Int)<(n:Int))=true:=decide_eq_true (by omega)
theorem mO (b:List UInt8):∀ i,(uD b i).length=i
 | 0=>rfl
 | i+1=>by rw [uD,List.length_append,mO b i];rfl
theorem zrb {i:Nat} (h:i<16):LB .i64 4 (i:Int)=((4 *i:Nat):Int):=by
 rw [show LB .i64 4 (i:Int)=IntKind.wrap .i64 (4 *(i:Int)) from rfl,fC (by omega) (by omega)];omega
theorem bH {β:Type} {x n:Int} {f:Int→Option β} (h:1≤n∧n≤31):Option.bind (xF x n) f=f (aF x n):=QA h
theorem ztx (b:List UInt8) (h:wt b≤bA):VL.raw b=some (TC b):=by
 simp only [VL.raw,aA,TC]
 by_cases hl:b.length=64
 case neg=>
  rw [show ((b.length:Int) !=64)=true from bne_iff_ne.2 (by omega),if_neg hl];rfl
 rw [show ((b.length:Int) !=64)=false by simp [hl],if_pos hl,cond_false]
 have hL:=qA
 refine (fL (X:=List Int × Int) (fun x=>x.2) (fun i=>(uD b i,(i:Int))) (fun _=>rfl) 16 (by decide) (some (uD b 64)) 0 (by decide) (fun i k _ hi=>?_) (fun k=>?_))
 ·simp only [zq5 (show i<16 from hi),show ((16:Nat):Int)=16 from rfl,decide_eq_true (p:=(i:Int)<16) (by omega),cond_true,zrb hi,CH,QA h,FK (i:=i) (by rw [QC];omega)]
  rw [FG (by rw [mO];simp;omega),cond_true,uD,zbL,if_pos hi]
 ·simp only [show ((16:Nat):Int)=16 from rfl,show decide ((16:Int)<16)=false from rfl,cond_false]
  refine (fL (X:=List Int × Int) (fun x=>x.2) (fun i=>(uD b i,(i:Int))) (fun _=>rfl) 64 (by decide) (some (uD b 64)) 16 (by decide) (fun i k PX hi=>?_) (fun k=>?_))
  ·have hm:i≤maxLen:=by rw [QC];omega
   have e15:sA .i64 (i:Int) 15=((i - 15:Nat):Int):=bS (c:=15) hm (by omega)
   have e2:sA .i64 (i:Int) 2=((i - 2:Nat):Int):=bS (c:=2) hm (by omega)
   have e7:sA .i64 (i:Int) 7=((i - 7:Nat):Int):=bS (c:=7) hm (by omega)
   have e16:sA .i64 (i:Int) 16=((i - 16:Nat):Int):=bS (c:=16) hm (by omega)
   have hs:=mO b i
   simp only [decide_eq_true (p:=(i:Int)<64) (by omega),cond_true,e15,e2,e7,e16,EH (show i - 15<(uD b i).length by omega),EH (show i - 2<(uD b i).length by omega),EH (show i - 7<(uD b i).length by omega),EH (show i - 16<(uD b i).length by omega),Int.toNat_natCast,
    BH (show i - 15<(uD b i).length by omega),BH (show i - 2<(uD b i).length by omega),BH (show i - 7<(uD b i).length by omega),BH (show i - 16<(uD b i).length by omega),dB,bH (show (1:Int)≤7∧(7:Int)≤31 by decide),bH (show (1:Int)≤18∧(18:Int)≤31 by decide),bH (show (1:Int)≤17∧(17:Int)≤31 by decide),bH (show (1:Int)≤19∧(19:Int)≤31 by decide),FK (i:=i) (by rw [QC];omega)]
   rw [FG (by rw [mO];simp;omega),cond_true,uD,zbL,if_neg (by omega)];rfl
  ·simp only [show ((64:Nat):Int)=64 from rfl,show decide ((64:Int)<64)=false from rfl,cond_false]
theorem VL.ok {x:lA [.sl .byte]} (_:rA [.sl .byte] x) {r:List Int}:BS x=some r→VL.raw x=some r:=HA fun h=>ztx x h
end Go.D
namespace Go.D
theorem zfb:uJ.length=64:=by decide
theorem FP {h:List Int} (hw:vC h 8=true):h.length=8∧∀ j,W32 (h.getD j 0):=by
 simp only [vC,Bool.and_eq_true,beq_iff_eq,List.all_eq_true] at hw
 refine ⟨by omega,fun j=>?_⟩
 by_cases hj:j<h.length
 ·rw [List.getD_eq_getElem?_getD,List.getElem?_eq_getElem hj]
  exact OC.1 (hw.1 _ (List.getElem_mem hj))
 ·rw [List.getD_eq_getElem?_getD,List.getElem?_eq_none (by omega)]
  exact ⟨by decide,by decide⟩
theorem nV (h:List Int) (s:S8) (hl:h.length=8):(List.zipWith qH h (iG s)).length=8:=by
 rw [List.length_zipWith,hl];rfl
theorem zo1 {h:List Int} (b:List UInt8) (hw:vC h 8=true):vC (GF h b) 8=true:=by
 have hl:=(FP hw).1
 simp only [vC,Bool.and_eq_true,beq_iff_eq,List.all_eq_true]
 refine ⟨fun x hx=>?_,?_⟩
 ·obtain ⟨i,hi,rfl⟩:=List.getElem_of_mem hx
  have lX:i<(List.zipWith qH h (iG (rounds (TC b) (oE h) 64))).length:=hi
  show iA ((List.zipWith qH h (iG (rounds (TC b) (oE h) 64)))[i]'lX) 0 4294967295=true
  rw [List.getElem_zipWith]
  exact OC.2 (zq8 _)
 ·have:=nV h (rounds (TC b) (oE h) 64) hl
  show ((List.zipWith qH h (iG (rounds (TC b) (oE h) 64))).length:Int)=8
  omega
theorem zo2 {h:List Int} (b:List UInt8) (hw:vC h 8=true):vC (iJ h b) 8=true:=by
 unfold iJ
 cases vC h 8&&b.length==64
 ·exact hw
 ·exact zo1 b hw
theorem zsM {b:List UInt8} (h:b.length=64):(TC b).length=64:=by
 rw [TC,if_pos h,mO]
def XE (h:List Int) (z:List Int) (i:Nat):List Int:=z.take i++h.drop i
theorem zr2 {h z:List Int} (hl:h.length=z.length) {i:Nat} (hi:i<z.length) (v:Int) (hv:v=z[i]):List.set (XE h z i) i v=XE h z (i+1):=by
 subst hv
 have lX:i<h.length:=by omega
 rw [XE,kI h lX,zsT _ _ _ _ (by rw [List.length_take];omega),XE,EM z hi,List.append_assoc];rfl
theorem zr1 {h z:List Int} (hl:h.length=z.length) {i:Nat} (hi:i≤z.length):(XE h z i).length=z.length:=by
 rw [XE,List.length_append,List.length_take,List.length_drop];omega
theorem TG {l:List Int} {i:Nat} (h:i<l.length):pA l (i:Int)=some (l.getD i 0):=by rw [ze1,BH h]
theorem zvw (h:List Int) (s:S8) (hl:h.length=8) {i:Nat} (hi:i<(List.zipWith qH h (iG s)).length):(List.zipWith qH h (iG s))[i]=qH (h.getD i 0) ((iG s).getD i 0):=by
 have h8:=nV h s hl
 rw [List.getElem_zipWith,List.getD_eq_getElem?_getD,List.getD_eq_getElem?_getD,List.getElem?_eq_getElem (by omega),List.getElem?_eq_getElem (by show i<8;omega)];rfl
theorem zay {h:List Int} (b:List UInt8) (h8:h.length=8):(GF h b).length=8:=nV h _ h8
theorem zo0 {h:List Int} (b:List UInt8) (h8:h.length=8) {i:Nat} (hi:i<8):List.set (XE h (GF h b) i) i (qH (h.getD i 0) ((iG (rounds (TC b) (oE h) 64)).getD i 0))=XE h (GF h b) (i+1):=
 zr2 (by rw [zay b h8,h8]) (by rw [zay b h8];exact hi) _ (zvw h _ h8 (by rw [nV h _ h8];exact hi)).symm
theorem zs7 (h:List Int) (b:List UInt8) (hh:wt h≤bA∧wt b≤bA):xL.raw h b=some (iJ h b):=by
 have QV:h.length≤bA:=by rw [← UI];exact hh.1
 simp only [xL.raw,aA,List.nil_append,iJ,cV,BS,QA hh.2]
 rw [show decide (([]:List Int).length+h.length≤bA)=true from decide_eq_true (by simpa using QV)]
 simp only [cond_true]
 cases hw:vC h 8
 ·rfl
 by_cases hb:b.length=64
 case neg=>
  rw [show ((b.length:Int) !=64)=true from bne_iff_ne.2 (by omega),beq_false_of_ne hb];rfl
 rw [show ((b.length:Int) !=64)=false by simp [hb],show (b.length==64)=true by simp [hb]]
 obtain ⟨h8,hW⟩:=FP hw
 have i0:pA h 0=some (h.getD 0 0):=TG (i:=0) (by omega)
 have i1:pA h 1=some (h.getD 1 0):=TG (i:=1) (by omega)
 have i2:pA h 2=some (h.getD 2 0):=TG (i:=2) (by omega)
 have i3:pA h 3=some (h.getD 3 0):=TG (i:=3) (by omega)
 have i4:pA h 4=some (h.getD 4 0):=TG (i:=4) (by omega)
 have i5:pA h 5=some (h.getD 5 0):=TG (i:=5) (by omega)
 have i6:pA h 6=some (h.getD 6 0):=TG (i:=6) (by omega)
 have i7:pA h 7=some (h.getD 7 0):=TG (i:=7) (by omega)
 simp only [Bool.not_true,cond_false,Bool.and_true,cond_true,i0,i1,i2,i3,i4,i5,i6,i7,dB]
 have n4:=zsM hb
 refine fL (fun x=>x.2.2.2.2.2.2.2.2) (fun i=>((rounds (TC b) (oE h) i).1,(rounds (TC b) (oE h) i).2.1,(rounds (TC b) (oE h) i).2.2.1,(rounds (TC b) (oE h) i).2.2.2.1,(rounds (TC b) (oE h) i).2.2.2.2.1,(rounds (TC b) (oE h) i).2.2.2.2.2.1,(rounds (TC b) (oE h) i).2.2.2.2.2.2.1,(rounds (TC b) (oE h) i).2.2.2.2.2.2.2,(i:Int))) (fun _=>rfl) 64 (by decide) (some (GF h b)) 0 (by decide) (fun i k _ hi=>?_) (fun k=>?_)
 ·simp only [decide_eq_true (p:=(i:Int)<64) (by omega),cond_true,Int.toNat_natCast,EH (show i<uJ.length by rw [zfb];exact hi),EH (show i<(TC b).length by omega),BH (show i<uJ.length by rw [zfb];exact hi),BH (show i<(TC b).length by omega),dB,
   bH (show (1:Int)≤6∧(6:Int)≤31 by decide),bH (show (1:Int)≤11∧(11:Int)≤31 by decide),bH (show (1:Int)≤25∧(25:Int)≤31 by decide),bH (show (1:Int)≤2∧(2:Int)≤31 by decide),bH (show (1:Int)≤13∧(13:Int)≤31 by decide),bH (show (1:Int)≤22∧(22:Int)≤31 by decide),FK (i:=i) (by rw [QC];omega)]
  rfl
 ·simp only [show ((64:Nat):Int)=64 from rfl,show decide ((64:Int)<64)=false from rfl,cond_false]
  have hz8:=zay b h8
  refine fL (X:=Int × List Int) (fun x=>x.1) (fun i=>((i:Int),XE h (GF h b) i)) (fun _=>rfl) 8 (by decide) (some (GF h b)) 0 (by decide) (fun i k _ hi=>?_) (fun k=>?_)
  ·have hol:(XE h (GF h b) i).length=8:=by rw [zr1 (by rw [hz8,h8]) (by rw [hz8];omega),hz8]
   have hi8:i<(iG (rounds (TC b) (oE h) 64)).length:=hi
   have ho:(XE h (GF h b) i)[i]?=some ((XE h (GF h b) i).getD i 0):=BH (by omega)
   simp only [decide_eq_true (p:=(i:Int)<8) (by omega),cond_true,TG (show i<h.length by omega),dB,EH (show i<(XE h (GF h b) i).length by omega),ho,Int.toNat_natCast,FK (i:=i) (by rw [QC];omega)]
   have e1:=EH hi8
   have e2:=BH hi8
   unfold iG at e1 e2
   rw [e1,cond_true,e2,dB]
   exact congrArg (fun l=>k (((i+1:Nat):Int),l)) (zo0 b h8 hi)
  ·simp only [show ((8:Nat):Int)=8 from rfl,show decide ((8:Int)<8)=false from rfl,cond_false]
   rw [XE,List.take_of_length_le (by rw [hz8];exact Nat.le_refl _),List.drop_eq_nil_of_le (by omega),List.append_nil]
theorem xL.ok {x:lA [.sl .int, .sl .byte]} (_:rA [.sl .int, .sl .byte] x) {r:List Int}:bN x.1 x.2=some r→xL.raw x.1 x.2=some r:=HA fun h=>zs7 x.1 x.2 h
end Go.D
namespace Go.D
theorem RP:∀ (n:Nat) (h:List Int) (b:List UInt8),vC h 8=true→vC (gF h n b) 8=true
 | 0,h,b,hw=>hw
 | n+1,h,b,hw=>RP n _ _ (zo2 _ hw)
theorem zcO:∀ (n:Nat) (h:List Int) (b:List UInt8),gF h (n+1) b=iJ (gF h n b) ((b.drop (64 *n)).take 64)
 | 0,h,b=>rfl
 | n+1,h,b=>by
  rw [gF,zcO n,gF,List.drop_drop]
  rw [show 64+64 *n=64 *(n+1) by omega]
theorem zvu {h:List Int} (hw:vC h 8=true):wt h≤bA:=by
 rw [UI,(FP hw).1,qA];decide
theorem oK (n:Int):∀ i,(YF n i).length=i
 | 0=>rfl
 | i+1=>by rw [YF,List.length_cons,oK n i]
theorem zbC (b:List UInt8) (n:Int):LH b n 4=b++YF n 4:=rfl
theorem zvk (h:List Int) {i:Nat} (hi:i<h.length):cF (h.take (i+1))=cF (h.take i)++YF (h.getD i 0) 4:=by
 rw [cF,EM h hi,List.flatMap_append]
 simp [cF,List.getD_eq_getElem?_getD,hi]
theorem zch:∀ h:List Int,(cF h).length=4 *h.length
 | []=>rfl
 | x :: h=>by
  rw [cF,List.flatMap_cons,List.length_append,oK,List.length_cons]
  have:=zch h
  rw [cF] at this
  omega
theorem zuz (h:List Int) (h8:h.length=8):wM.raw h=some (cF h):=by
 have hL:=qA
 simp only [wM.raw,aA]
 refine fL (X:=List UInt8 × Int) (fun x=>x.2) (fun i=>(cF (h.take i),(i:Int))) (fun _=>rfl) 8 (by decide) _ 0 (Nat.zero_le _) (fun i k _ hi=>?_) (fun k=>?_)
 ·have hwl:=zch (h.take i)
  rw [List.length_take] at hwl
  simp only [decide_eq_true (p:=(i:Int)<8) (by omega),cond_true,TG (show i<h.length by omega),dB,LC,QA (p:=wt (cF (h.take i))+6≤bA) (by rw [LA];omega),zbC,FK (i:=i) (by rw [QC];omega),zvk h (show i<h.length by omega)]
 ·simp only [show ((8:Nat):Int)=8 from rfl,show decide ((8:Int)<8)=false from rfl,cond_false]
  rw [List.take_of_length_le (by omega)]
theorem wM.ok {x:lA [.sl .int]} (_:rA [.sl .int] x) {r:List UInt8}:EP x=some r→wM.raw x=some r:=HA fun h=>zuz x h
theorem zcR:(UInt8.ofNat (0:Int).toNat)=0:=rfl
theorem zr8 (n:Nat) (hn:n≤1048576) (z:List UInt8→Option (List UInt8)):tA FU (fun (x5:(List UInt8)) k6=>cond ((GA .i64 (cA .i64 (cA .i64 (n:Int) (x5.length:Int)) 8) 64) !=0)
  (cond (decide (x5.length+[UInt8.ofNat (0:Int).toNat].length≤bA)) (k6 (x5++[UInt8.ofNat (0:Int).toNat])) none) (z x5)) [UInt8.ofNat (128:Int).toNat]=z (128 :: List.replicate (WD n) 0):=by
 have hz:WD n<64:=Nat.mod_lt _ (by decide)
 have hL:=qA
 refine TE (g:=fun _=>z (128 :: List.replicate (WD n) 0)) (fun x=>∃ j:Nat,j≤WD n∧x=128 :: List.replicate j 0) (fun x=>WD n+1 - x.length) (fun x hx k hk=>?_) ⟨0,Nat.zero_le _,rfl⟩ (by show WD n+1 - 1<2^64;omega)
 obtain ⟨j,hj,rfl⟩:=hx
 have e1:cA .i64 (cA .i64 (n:Int) (((128 :: List.replicate j 0:List UInt8).length:Nat):Int)) 8=((n+(j+1)+8:Nat):Int):=by
  rw [List.length_cons,List.length_replicate]
  have a1:cA .i64 (n:Int) ((j+1:Nat):Int)=((n+(j+1):Nat):Int):=by rw [cA,fC (by omega) (by omega)];omega
  rw [a1,cA,fC (by omega) (by omega)];omega
 have e2:GA .i64 ((n+(j+1)+8:Nat):Int) 64=(((n+(j+1)+8) % 64:Nat):Int):=ZR _ 64
 simp only [e1,e2]
 rcases Nat.lt_or_eq_of_le hj with RV | rfl
 ·have:(n+(j+1)+8) % 64≠0:=by unfold WD at RV;omega
  rw [show ((((n+(j+1)+8) % 64:Nat):Int) !=0)=true from bne_iff_ne.2 (by omega),cond_true,FG (by simp;omega),cond_true]
  refine hk _ ⟨j+1,RV,?_⟩ (by simp;omega)
  rw [zcR,List.cons_append,List.replicate_succ']
 ·have:(n+(WD n+1)+8) % 64=0:=by unfold WD;omega
  rw [this];rfl
theorem zrc {n:Nat} (h:n≤1048576):LB .i64 8 (n:Int)=((8 *n:Nat):Int):=by
 rw [show LB .i64 8 (n:Int)=IntKind.wrap .i64 (8 *(n:Int)) from rfl,fC (by omega) (by omega)];omega
theorem zbA (n:Nat):(128 :: List.replicate (WD n) 0:List UInt8).length=WD n+1:=by simp
theorem ztr (n:Nat) (hn:n≤1048576):NL.raw (n:Int)=some (oG n):=by
 have hz:WD n<64:=Nat.mod_lt _ (by decide)
 have hL:=qA
 simp only [NL.raw,aA,decide_eq_false (p:=(n:Int)<0) (by omega),decide_eq_false (p:=(n:Int)>1048576) (by omega),cond_false]
 rw [zr8 n hn]
 simp only [LC,QA (p:=wt (128 :: List.replicate (WD n) 0:List UInt8)+6≤bA) (by rw [LA,zbA];omega),zbC,zrc hn]
 rw [QA (by rw [LA,List.length_append,zbA,oK];omega),oG,List.append_assoc];rfl
theorem NL.ok {x:lA [.v .int]} (_:rA [.v .int] x) {r:List UInt8}:nS x=some r→NL.raw x=some r:=HA fun h=>by
 obtain ⟨n,hn⟩:=hG h.1
 have hn:x=(n:Int):=hn
 have h2:(x:Int)≤1048576:=h.2
 subst hn
 exact ztr n (by omega)
theorem zfG (n:Nat):(oG n).length=WD n+9:=by
 rw [oG,List.length_append,zbA,List.length_append,oK];rfl
theorem zr9 (n:Nat):(n+(oG n).length) % 64=0:=by
 rw [zfG];unfold WD;omega
theorem zb5:vC EE 8=true:=by decide
theorem zsV (all:List UInt8) (hwa:wt all≤bA) (hm:64 *(all.length / 64)=all.length):tA FU (fun (x5:(List Int) × Int) k6=>cond (decide (x5.2<(all.length:Int)))
  (cond (decide (0≤x5.2)&&decide (x5.2≤(cA .i64 x5.2 64))&&decide ((cA .i64 x5.2 64)≤(all.length:Int))) (Option.bind (bN x5.1 (List.take ((cA .i64 x5.2 64 - x5.2).toNat) (List.drop x5.2.toNat all))) fun r7=>k6 (r7,(cA .i64 x5.2 64))) none)
  (Option.bind (EP x5.1) fun r8=>some r8)) (EE,0)=some (cF (gF EE (all.length / 64) all)):=by
 have hL:=qA
 have hla:all.length≤bA:=by rw [← LA];exact hwa
 refine TE (g:=fun _=>some (cF (gF EE (all.length / 64) all))) (fun x=>∃ i:Nat,64 *i≤all.length∧x=(gF EE i all,((64 *i:Nat):Int))) (fun x=>all.length - x.2.toNat) (fun x hx k hk=>?_) (x:=(EE,0)) ⟨0,Nat.zero_le _,rfl⟩ (by show all.length - Int.toNat 0<2^64;simp;omega)
 obtain ⟨i,hi,rfl⟩:=hx
 by_cases RV:64 *i<all.length
 ·have bZ:64 *(i+1)≤all.length:=by omega
  have e1:cA .i64 ((64 *i:Nat):Int) 64=((64 *(i+1):Nat):Int):=by rw [cA,fC (by omega) (by omega)];omega
  have e2:(decide ((0:Int)≤((64 *i:Nat):Int))&&decide (((64 *i:Nat):Int)≤((64 *(i+1):Nat):Int))&&decide (((64 *(i+1):Nat):Int)≤(all.length:Int)))=true:=by simp;omega
  have e3:(((64 *(i+1):Nat):Int) - ((64 *i:Nat):Int)).toNat=64:=by omega
  have O4:=hk (gF EE (i+1) all,((64 *(i+1):Nat):Int)) ⟨i+1,bZ,rfl⟩ (by simp only [Int.toNat_natCast];omega)
  rw [zcO] at O4
  simp only [TB RV,cond_true,e1,e2,e3,Int.toNat_natCast,bN,QA (p:=wt (gF EE i all)≤bA∧wt ((all.drop (64 *i)).take 64)≤bA) ⟨zvu (RP i EE all zb5),Nat.le_trans (FE _ _) (Nat.le_trans (oH _ _) hwa)⟩]
  exact O4
 ·have lX:i=all.length / 64:=by omega
  have e1:decide (((64 *i:Nat):Int)<(all.length:Int))=false:=decide_eq_false (by omega)
  simp only [e1,cond_false,EP,QA (FP (RP i EE all zb5)).1, ← lX]
theorem ztH (b:List UInt8):YL.raw b=some (DE b):=by
 have hL:=qA
 simp only [YL.raw,aA,DE,List.nil_append]
 by_cases h:(b.length:Int)>1048576
 ·rw [decide_eq_true h];rfl
 rw [decide_eq_false h]
 have hp:=zfG b.length
 have hz:WD b.length<64:=Nat.mod_lt _ (by decide)
 have hwh:=zr9 b.length
 have hal:(b++oG b.length).length=b.length+(oG b.length).length:=List.length_append
 simp only [cond_false]
 rw [RM (show b.length≤bA by omega),cond_true,nS,QA ⟨by omega,by omega⟩,Int.toNat_natCast,FG (by omega),cond_true,HS]
 exact zsV (b++oG b.length) (by rw [LA];omega) (by omega)
theorem YL.ok {x:lA [.sl .byte]} (_:rA [.sl .byte] x):YL.raw x=some (DE x):=ztH x
theorem zf8 (b:List UInt8):(HS b).length=32:=by
 rw [HS,zch,(FP (RP _ EE _ zb5)).1]
theorem IS (b:List UInt8):(DE b).length≤32:=by
 unfold DE
 cases decide ((b.length:Int)>1048576)
 ·exact Nat.le_of_eq (zf8 b)
 ·exact Nat.zero_le _
theorem zsU {b:List UInt8} (h:b.length≤1048576):(DE b).length=32:=by
 rw [DE,decide_eq_false (by omega)];exact zf8 b
end Go.D
namespace Go.D
theorem zfF (l:List UInt8):tA FU (fun (x6:(List UInt8)) k7=>cond (decide ((x6.length:Int)<64)) (cond (decide (x6.length+[UInt8.ofNat (0:Int).toNat].length≤bA)) (k7 (x6++[UInt8.ofNat (0:Int).toNat])) none) (some x6)) l=some (cO l):=by
 have hL:=qA
 refine TE (g:=fun _=>some (cO l)) (fun x=>∃ j:Nat,j≤64 - l.length∧x=l++List.replicate j 0) (fun x=>64 - x.length) (fun x hx k hk=>?_) ⟨0,Nat.zero_le _,by simp⟩ (by show 64 - l.length<2^64;omega)
 obtain ⟨j,hj,rfl⟩:=hx
 have QV:(l++List.replicate j (0:UInt8)).length=l.length+j:=by simp
 by_cases RV:l.length+j<64
 ·rw [decide_eq_true (p:=((l++List.replicate j (0:UInt8)).length:Int)<64) (by omega),cond_true,FG (by rw [QV];simp;omega),cond_true]
  refine hk _ ⟨j+1,by omega,?_⟩ (by simp;omega)
  rw [zcR,List.append_assoc, ← List.replicate_succ']
 ·rw [decide_eq_false (p:=((l++List.replicate j (0:UInt8)).length:Int)<64) (by omega),cond_false,cO]
  have:j=64 - l.length:=by omega
  rw [this]
theorem zsX (b:List UInt8):pL.raw b=some (zD b):=by
 have hL:=qA
 simp only [pL.raw,aA,zD,List.nil_append]
 by_cases h:(b.length:Int)>1048576
 ·rw [decide_eq_true h];rfl
 rw [decide_eq_false h,RM (show b.length≤bA by omega)]
 simp only [cond_false,cond_true]
 cases decide ((b.length:Int)>64)
 ·exact zfF b
 ·exact zfF (DE b)
theorem pL.ok {x:lA [.sl .byte]} (_:rA [.sl .byte] x):pL.raw x=some (zD x):=zsX x
theorem zcN {b:List UInt8} (h:b.length≤1048576):(zD b).length=64:=by
 rw [zD,decide_eq_false (by omega),cond_false,cO,List.length_append,List.length_replicate]
 cases hd:decide ((b.length:Int)>64)
 ·have:=of_decide_eq_false hd
  simp only [cond_false];omega
 ·have:=IS b
  simp only [cond_true];omega
theorem XN (b:List UInt8) (x:UInt8):(NF b x).length=b.length:=List.length_map ..
theorem zqc {l:List UInt8} {i:Nat} (h:i<l.length):l[i]?=some l[i]:=List.getElem?_eq_getElem h
theorem zfs (b:List UInt8) (x:UInt8) {i:Nat} (hi:i<b.length):NF (b.take (i+1)) x=NF (b.take i) x++[zhd b[i] x]:=by rw [NF,EM b hi,List.map_append];rfl
theorem zto (k b:List UInt8):IL.raw k b=some (FD k b):=by
 have hL:=qA
 simp only [IL.raw,aA,FD]
 by_cases h1:(k.length:Int)>1048576
 ·rw [decide_eq_true h1];rfl
 by_cases h2:(b.length:Int)>1048512
 ·rw [decide_eq_false h1,decide_eq_true h2];rfl
 have hk:=zcN (b:=k) (by omega)
 rw [decide_eq_false h1,decide_eq_false h2]
 simp only [cond_false,Bool.or_false]
 refine fL (X:=List UInt8 × List UInt8 × Int) (fun y=>y.2.2) (fun i=>(NF ((zD k).take i) 54,NF ((zD k).take i) 92,(i:Int))) (fun _=>rfl) 64 (by decide) _ 0 (Nat.zero_le _) (fun i kk _ hi=>?_) (fun kk=>?_)
 ·have hib:i<(zD k).length:=by omega
  have m1:(NF ((zD k).take i) 54).length=i:=by rw [XN,List.length_take];omega
  have m2:(NF ((zD k).take i) 92).length=i:=by rw [XN,List.length_take];omega
  simp only [decide_eq_true (p:=(i:Int)<64) (by omega),cond_true,EH hib,Int.toNat_natCast,zqc hib,dB,FK (i:=i) (by rw [QC];omega)]
  rw [FG (by rw [m1];simp;omega),cond_true,FG (by rw [m2];simp;omega),cond_true,zfs _ _ hib,zfs _ _ hib];rfl
 ·have ht:(zD k).take 64=zD k:=List.take_of_length_le (by omega)
  simp only [show ((64:Nat):Int)=64 from rfl,show decide ((64:Int)<64)=false from rfl,cond_false,ht]
  have hs:=IS (NF (zD k) 54++b)
  rw [FG (by rw [XN];omega),cond_true,FG (by rw [XN];omega),cond_true]
theorem IL.ok {x:lA [.sl .byte, .sl .byte]} (_:rA [.sl .byte, .sl .byte] x):IL.raw x.1 x.2=some (FD x.1 x.2):=zto x.1 x.2
theorem EK {k b:List UInt8} (h1:k.length≤1048576) (h2:b.length≤1048512):(FD k b).length=32:=by
 rw [FD,decide_eq_false (by omega),decide_eq_false (by omega)]
 simp only [Bool.or_false,cond_false]
 refine zsU ?_
 have:=IS (NF (zD k) 54++b)
 rw [List.length_append,XN,zcN h1];omega
theorem zbF (n:Int):(LH hO n 4).length=8:=by rw [zbC,List.length_append,oK];rfl
theorem zs9 (s:List UInt8) (n:Int):AL.raw s n=some (NC s n):=by
 have hL:=qA
 simp only [AL.raw,aA,NC]
 cases h1:iA (s.length:Int) 1 32
 ·rfl
 cases h2:iA n 0 10000
 ·rfl
 have h1:=OC.1 h1
 have hh:=EK (k:=s) (b:=LH hO n 4) (by omega) (by rw [zbF];omega)
 simp only [Bool.not_true,cond_false,Bool.and_true,cond_true,LC]
 rw [QA (by rw [LA];simp;omega)]
 have hr:[UInt8.ofNat (114:Int).toNat,UInt8.ofNat (111:Int).toNat,UInt8.ofNat (108:Int).toNat,UInt8.ofNat (108:Int).toNat]=hO:=rfl
 rw [hr,show (decide ((0:Int)≤0)&&decide ((0:Int)≤12)&&decide (12≤((FD s (LH hO n 4)).length:Int)))=true by rw [hh];rfl,cond_true,List.drop_zero,RM (by rw [List.length_take];omega),cond_true,List.nil_append]
theorem AL.ok {x:lA [.sl .byte, .v .int]} (_:rA [.sl .byte, .v .int] x):AL.raw x.1 x.2=some (NC x.1 x.2):=zs9 x.1 x.2
end Go.D
