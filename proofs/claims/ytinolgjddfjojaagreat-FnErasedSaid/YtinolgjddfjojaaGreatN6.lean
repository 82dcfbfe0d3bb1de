/-
  Sizes of the program's data.
-/
import Derived.Test.YtinolgjddfjojaaGreatN5
namespace Go.D
end Go.D
namespace Go.D
noncomputable section
def byteAt (n:Int) (i:Nat):UInt8:=UInt8.ofNat (IntKind.wrap .u8 (iand .i64 (ishr .i64 n (imul .i64 8 (i:Int))) 255)).toNat
def bytesOf (n:Int):Nat→List UInt8
  | 0=>[]
  | i+1=>byteAt n i :: bytesOf n i
def putN (b:List UInt8) (n k:Int):List UInt8:=bif decide (k<1)||decide (k>6) then b else b++bytesOf n k.toNat
def putNO (b:List UInt8) (n k:Int):Option (List UInt8):=pt (wt b+6≤LIM) (putN b n k)
def getVal (l:List UInt8):Int:=l.foldl (fun n x=>iadd .i64 (imul .i64 n 256) (IntKind.wrap .i64 ((x.toNat:Nat):Int))) 0
def getN (b:List UInt8) (at_ k:Int):Int × Int × Bool:=bif decide (k<1)||(decide (k>6)||(decide (at_<0)||decide (at_>(b.length:Int) - k))) then (0,0,false) else (getVal ((b.drop at_.toNat).take k.toNat),iadd .i64 at_ k,true)
def getNO (b:List UInt8) (at_ k:Int):Option (Int × Int × Bool):=pt (wt b≤LIM) (getN b at_ k)
def cut (b:List UInt8) (f n:Int):List UInt8 × Bool:=bif decide (f<0)||(decide (n<0)||(decide (f>(b.length:Int))||decide (n>(b.length:Int) - f))) then ([],false) else ((b.drop f.toNat).take n.toNat,true)
def cutO (b:List UInt8) (f n:Int):Option (List UInt8 × Bool):=pt (wt b≤LIM) (cut b f n)
def m32 (a:Int):Int:=iand .i64 a 4294967295
def rot (x n:Int):Int:=m32 (ior .i64 (ishr .i64 (m32 x) n) (ishl .i64 (m32 x) (isub .i64 32 n)))
def rotO (x n:Int):Option Int:=pt (1≤n∧n≤31) (rot x n)
def add32 (a b:Int):Int:=m32 (iadd .i64 a b)
def start:List Int:=[1779033703,3144134277,1013904242,2773480762,1359893119,2600822924,528734635,1541459225]
def kTab:List Int:=[1116352408,1899447441,3049323471,3921009573,961987163,1508970993,2453635748,2870763221,3624381080,310598401,607225278,1426881987,1925078388,2162078206,2614888103,3248222580,3835390401,4022224774,264347078,604807628,770255983,1249150122,1555081692,1996064986,2554220882,2821834349,2952996808,3210313671,3336571891,3584528711,113926993,338241895,666307205,773529912,1294757372,1396182291,1695183700,1986661051,2177026350,2456956037,2730485921,2820302411,3259730800,3345764771,3516065817,3600352804,4094571909,275423344,430227734,506948616,659060556,883997877,958139571,1322822218,1537002063,1747873779,1955562222,2024104815,2227730452,2361852424,2428436474,2756734187,3204031479,3329325298]
def schedNext (b:List UInt8) (w:List Int) (i:Nat):Int:=if i<16 then (getN b (4 *i:Nat) 4).1 else
  let x:=w.getD (i - 15) 0
  let y:=w.getD (i - 2) 0
  m32 (iadd .i64 (iadd .i64 (iadd .i64 (w.getD (i - 7) 0) (w.getD (i - 16) 0)) (ixor .i64 (ixor .i64 (rot x 7) (rot x 18)) (ishr .i64 x 3))) (ixor .i64 (ixor .i64 (rot y 17) (rot y 19)) (ishr .i64 y 10)))
def sched (b:List UInt8):Nat→List Int
  | 0=>[]
  | i+1=>sched b i++[schedNext b (sched b i) i]
def schedule (b:List UInt8):List Int:=if b.length=64 then sched b 64 else []
def scheduleO (b:List UInt8):Option (List Int):=pt (wt b≤LIM) (schedule b)
abbrev S8:=Int × Int × Int × Int × Int × Int × Int × Int
def rT (k w:Int) (s:S8):Int:=
  iadd .i64 (iadd .i64 (iadd .i64 (iadd .i64 s.2.2.2.2.2.2.2 (ixor .i64 (ixor .i64 (rot s.2.2.2.2.1 6) (rot s.2.2.2.2.1 11)) (rot s.2.2.2.2.1 25)))
    (ixor .i64 (iand .i64 s.2.2.2.2.1 s.2.2.2.2.2.1) (iand .i64 (ixor .i64 s.2.2.2.2.1 4294967295) s.2.2.2.2.2.2.1))) k) w
def rU (s:S8):Int:=iadd .i64 (ixor .i64 (ixor .i64 (rot s.1 2) (rot s.1 13)) (rot s.1 22)) (ixor .i64 (ixor .i64 (iand .i64 s.1 s.2.1) (iand .i64 s.1 s.2.2.1)) (iand .i64 s.2.1 s.2.2.1))
def words8 (l:List Int):Bool:=areWords l 8
def rStep (k w:Int) (s:S8):S8:=(m32 (iadd .i64 (m32 (rT k w s)) (m32 (rU s))),s.1,s.2.1,s.2.2.1,m32 (iadd .i64 s.2.2.2.1 (m32 (rT k w s))),s.2.2.2.2.1,s.2.2.2.2.2.1,s.2.2.2.2.2.2.1)
def rounds (w:List Int) (s:S8):Nat→S8
  | 0=>s
  | i+1=>rStep (kTab.getD i 0) (w.getD i 0) (rounds w s i)
def at8 (h:List Int):S8:=(h.getD 0 0,h.getD 1 0,h.getD 2 0,h.getD 3 0,h.getD 4 0,h.getD 5 0,h.getD 6 0,h.getD 7 0)
def list8 (s:S8):List Int:=[s.1,s.2.1,s.2.2.1,s.2.2.2.1,s.2.2.2.2.1,s.2.2.2.2.2.1,s.2.2.2.2.2.2.1,s.2.2.2.2.2.2.2]
def comp (h:List Int) (b:List UInt8):List Int:=List.zipWith add32 h (list8 (rounds (schedule b) (at8 h) 64))
def compress (h:List Int) (b:List UInt8):List Int:=bif areWords h 8&&b.length==64 then comp h b else h
def compressO (h:List Int) (b:List UInt8):Option (List Int):=pt (wt h≤LIM∧wt b≤LIM) (compress h b)
def blocks (h:List Int):Nat→List UInt8→List Int
  | 0,_=>h
  | n+1,b=>blocks (compress h (b.take 64)) n (b.drop 64)
def wordBytes (h:List Int):List UInt8:=h.flatMap fun x=>bytesOf x 4
def wordBytesO (h:List Int):Option (List UInt8):=pt (h.length=8) (wordBytes h)
def padZ (n:Nat):Nat:=(119 - n % 64) % 64
def pad (n:Nat):List UInt8:=(128 :: List.replicate (padZ n) 0)++([0,0,0,0]++bytesOf ((8 *n:Nat):Int) 4)
def padO (n:Int):Option (List UInt8):=pt (0≤n∧n≤1048576) (pad n.toNat)
def shaAll (b:List UInt8):List UInt8:=wordBytes (blocks start ((b++pad b.length).length / 64) (b++pad b.length))
def sha (b:List UInt8):List UInt8:=bif decide ((b.length:Int)>1048576) then [] else shaAll b
def pad64 (l:List UInt8):List UInt8:=l++List.replicate (64 - l.length) 0
def blockKey (k:List UInt8):List UInt8:=bif decide ((k.length:Int)>1048576) then [] else pad64 (bif decide ((k.length:Int)>64) then sha k else k)
def xorB (x y:UInt8):UInt8:=UInt8.ofNat (ixor .u8 ((x.toNat:Nat):Int) ((y.toNat:Nat):Int)).toNat
def masked (b:List UInt8) (x:UInt8):List UInt8:=b.map fun y=>xorB y x
def hmac (k b:List UInt8):List UInt8:=bif decide ((k.length:Int)>1048576)||decide ((b.length:Int)>1048512) then [] else sha (masked (blockKey k) 92++sha (masked (blockKey k) 54++b))
def roll:List UInt8:=[114,111,108,108]
def diceAt (s:List UInt8) (n:Int):List UInt8:=bif inR (s.length:Int) 1 32&&inR n 0 10000 then (hmac s (putN roll n 4)).take 12 else []
end
end Go.D
namespace Go.D
noncomputable section
def impl_PutN.raw (a0:List UInt8) (a1:Int) (a2:Int):Option (List UInt8):=
  cond (decide (([]:List UInt8).length+a0.length≤LIM)) (joinK (fun (y1:Bool)=>
  cond (y1)
  (some ([]++a0))
  (joinK (fun (y3:(List UInt8))=>
  some y3) fun k4=>
  loopK FU (fun (x5:(List UInt8) × Int) k6=>
  cond (decide (x5.2≥0))
  (cond (decide ((imul .i64 8 x5.2)<0)) none (let x7:Int:=iand .i64 (ishr .i64 a1 (imul .i64 8 x5.2)) 255
  cond (decide (x5.1.length+[UInt8.ofNat (IntKind.wrap .u8 x7:Int).toNat].length≤LIM)) (k6 ((x5.1++[UInt8.ofNat (IntKind.wrap .u8 x7:Int).toNat]),(isub .i64 x5.2 1))) none))
  (k4 x5.1)) (([]++a0),(isub .i64 a2 1)))) fun k2=>
  cond (decide (a2<1))
  (k2 true)
  (k2 (decide (a2>6)))) none
def spec_PutN.raw (a0:List UInt8) (a1:Int) (a2:Int):Option (List UInt8):=
  cond (decide (([]:List UInt8).length+a0.length≤LIM)) (joinK (fun (y1:Bool)=>
  cond (y1)
  (some ([]++a0))
  (joinK (fun (y3:(List UInt8))=>
  some y3) fun k4=>
  loopK FU (fun (x5:(List UInt8) × Int) k6=>
  cond (decide (x5.2≥0))
  (cond (decide ((imul .i64 8 x5.2)<0)) none (let x7:Int:=iand .i64 (ishr .i64 a1 (imul .i64 8 x5.2)) 255
  cond (decide (x5.1.length+[UInt8.ofNat (IntKind.wrap .u8 x7:Int).toNat].length≤LIM)) (k6 ((x5.1++[UInt8.ofNat (IntKind.wrap .u8 x7:Int).toNat]),(isub .i64 x5.2 1))) none))
  (k4 x5.1)) (([]++a0),(isub .i64 a2 1)))) fun k2=>
  cond (decide (a2<1))
  (k2 true)
  (k2 (decide (a2>6)))) none
def spec_Pad.raw (a0:Int):Option (List UInt8):=
  joinK (fun (y1:Bool)=>
  cond (y1)
  (some [])
  (joinK (fun (y3:(List UInt8))=>
  Option.bind (putNO y3 0 4) fun r8=>
  Option.bind (putNO r8 (imul .i64 8 a0) 4) fun r9=>
  some r9) fun k4=>
  loopK FU (fun (x5:(List UInt8)) k6=>
  let x7:Int:=iadd .i64 (iadd .i64 a0 (x5.length:Int)) 8
  cond ((irem .i64 x7 64) !=0)
  (cond (decide (x5.length+[UInt8.ofNat (0:Int).toNat].length≤LIM)) (k6 (x5++[UInt8.ofNat (0:Int).toNat])) none)
  (k4 x5)) [UInt8.ofNat (128:Int).toNat])) fun k2=>
  cond (decide (a0<0))
  (k2 true)
  (k2 (decide (a0>1048576)))
def spec_Start.raw:Option (List Int):=
  let x1:List Int:=[1779033703,3144134277,1013904242,2773480762,1359893119,2600822924,528734635,1541459225]
  some x1
def spec_l2Words.raw (a0:List Int):Option Bool:=
  joinK (fun (y1:Unit)=>
  some ((a0.length:Int)==8)) fun k2=>
  loopK FU (fun (x3:Int) k4=>
  cond (decide (x3<(a0.length:Int)))
  (Option.bind (idxI a0 x3) fun e5=>
  cond (!(inR e5 0 4294967295))
  (some false)
  (k4 (iadd .i64 x3 1)))
  (k2 ())) 0
def spec_l2K.raw:Option (List Int):=
  let x1:List Int:=[1116352408,1899447441,3049323471,3921009573,961987163,1508970993,2453635748,2870763221,3624381080,310598401,607225278,1426881987,1925078388,2162078206,2614888103,3248222580,3835390401,4022224774,264347078,604807628,770255983,1249150122,1555081692,1996064986,2554220882,2821834349,2952996808,3210313671,3336571891,3584528711,113926993,338241895,666307205,773529912,1294757372,1396182291,1695183700,1986661051,2177026350,2456956037,2730485921,2820302411,3259730800,3345764771,3516065817,3600352804,4094571909,275423344,430227734,506948616,659060556,883997877,958139571,1322822218,1537002063,1747873779,1955562222,2024104815,2227730452,2361852424,2428436474,2756734187,3204031479,3329325298]
  some x1
def spec_GetN.raw (a0:List UInt8) (a1:Int) (a2:Int):Option (Int × Int × Bool):=
  joinK (fun (y1:Bool)=>
  cond (y1)
  (some (0,0,false))
  (joinK (fun (y3:Int)=>
  some (y3,iadd .i64 a1 a2,true)) fun k4=>
  loopK FU (fun (x5:Int × Int) k6=>
  cond (decide (x5.2<a2))
  (Option.bind (idxI a0 (iadd .i64 a1 x5.2)) fun e7=>
  let x8:Int:=IntKind.wrap .i64 ((e7.toNat:Nat):Int)
  k6 ((iadd .i64 (imul .i64 x5.1 256) x8),(iadd .i64 x5.2 1)))
  (k4 x5.1)) (0,0))) fun k2=>
  cond (decide (a2<1))
  (k2 true)
  (cond (decide (a2>6))
  (k2 true)
  (cond (decide (a1<0))
  (k2 true)
  (k2 (decide (a1>(isub .i64 (a0.length:Int) a2))))))
def spec_Rot.raw (a0:Int) (a1:Int):Option Int:=
  joinK (fun (y1:Bool)=>
  cond (y1)
  (some (iand .i64 a0 4294967295))
  (cond (decide (a1<0)) none (cond (decide ((isub .i64 32 a1)<0)) none (let x3:Int:=ishl .i64 (iand .i64 a0 4294967295) (isub .i64 32 a1)
  let x4:Int:=ior .i64 (ishr .i64 (iand .i64 a0 4294967295) a1) x3
  some (iand .i64 x4 4294967295))))) fun k2=>
  cond (decide (a1<1))
  (k2 true)
  (k2 (decide (a1>31)))
def spec_Schedule.raw (a0:List UInt8):Option (List Int):=
  cond ((a0.length:Int) !=64)
  (some [])
  (joinK (fun (y1:(List Int))=>
  joinK (fun (y6:(List Int))=>
  some y6) fun k7=>
  loopK FU (fun (x8:(List Int) × Int) k9=>
  cond (decide (x8.2<64))
  (cond (decide (0≤isub .i64 x8.2 15)&&decide (isub .i64 x8.2 15<(x8.1.length:Int))) (Option.bind (x8.1[(isub .i64 x8.2 15).toNat]?) fun e10=>
  cond (decide (0≤isub .i64 x8.2 2)&&decide (isub .i64 x8.2 2<(x8.1.length:Int))) (Option.bind (x8.1[(isub .i64 x8.2 2).toNat]?) fun e11=>
  Option.bind (rotO e10 7) fun r12=>
  Option.bind (rotO e10 18) fun r13=>
  let x14:Int:=ixor .i64 (ixor .i64 r12 r13) (ishr .i64 e10 3)
  Option.bind (rotO e11 17) fun r15=>
  Option.bind (rotO e11 19) fun r16=>
  let x17:Int:=ixor .i64 (ixor .i64 r15 r16) (ishr .i64 e11 10)
  cond (decide (0≤isub .i64 x8.2 7)&&decide (isub .i64 x8.2 7<(x8.1.length:Int))) (Option.bind (x8.1[(isub .i64 x8.2 7).toNat]?) fun e18=>
  cond (decide (0≤isub .i64 x8.2 16)&&decide (isub .i64 x8.2 16<(x8.1.length:Int))) (Option.bind (x8.1[(isub .i64 x8.2 16).toNat]?) fun e19=>
  let x20:Int:=iadd .i64 (iadd .i64 (iadd .i64 e18 e19) x14) x17
  cond (decide (x8.1.length+[iand .i64 x20 4294967295].length≤LIM)) (k9 ((x8.1++[iand .i64 x20 4294967295]),(iadd .i64 x8.2 1))) none) none) none) none) none)
  (k7 x8.1)) (y1,16)) fun k2=>
  loopK FU (fun (x3:(List Int) × Int) k4=>
  cond (decide (x3.2<16))
  (Option.bind (getNO a0 (imul .i64 4 x3.2) 4) fun r5=>
  cond (decide (x3.1.length+[r5.1].length≤LIM)) (k4 ((x3.1++[r5.1]),(iadd .i64 x3.2 1))) none)
  (k2 x3.1)) ([],0))
def spec_Compress.raw (a0:List Int) (a1:List UInt8):Option (List Int):=
  cond (decide (([]:List Int).length+a0.length≤LIM)) (joinK (fun (y1:Bool)=>
  cond (y1)
  (some ([]++a0))
  (let r3:(List Int):=kTab
  Option.bind (scheduleO a1) fun r4=>
  Option.bind (idxI a0 0) fun e5=>
  Option.bind (idxI a0 1) fun e6=>
  Option.bind (idxI a0 2) fun e7=>
  Option.bind (idxI a0 3) fun e8=>
  Option.bind (idxI a0 4) fun e9=>
  Option.bind (idxI a0 5) fun e10=>
  Option.bind (idxI a0 6) fun e11=>
  Option.bind (idxI a0 7) fun e12=>
  joinK (fun (y13:Int × Int × Int × Int × Int × Int × Int × Int)=>
  let x34:List Int:=[y13.1,y13.2.1,y13.2.2.1,y13.2.2.2.1,y13.2.2.2.2.1,y13.2.2.2.2.2.1,y13.2.2.2.2.2.2.1,y13.2.2.2.2.2.2.2]
  joinK (fun (y35:(List Int))=>
  some y35) fun k36=>
  loopK FU (fun (x37:Int × (List Int)) k38=>
  cond (decide (x37.1<8))
  (Option.bind (idxI a0 x37.1) fun e39=>
  cond (decide (0≤x37.1)&&decide (x37.1<(x34.length:Int))) (Option.bind (x34[x37.1.toNat]?) fun e40=>
  cond (decide (0≤x37.1)&&decide (x37.1<(x37.2.length:Int))) (Option.bind (x37.2[x37.1.toNat]?) fun e41=>
  let l42:List Int:=List.set x37.2 x37.1.toNat (iand .i64 (iadd .i64 e39 e40) 4294967295)
  k38 ((iadd .i64 x37.1 1),l42)) none) none)
  (k36 x37.2)) (0,([]++a0))) fun k14=>
  loopK FU (fun (x15:Int × Int × Int × Int × Int × Int × Int × Int × Int) k16=>
  cond (decide (x15.2.2.2.2.2.2.2.2<64))
  (Option.bind (rotO x15.2.2.2.2.1 6) fun r17=>
  Option.bind (rotO x15.2.2.2.2.1 11) fun r18=>
  Option.bind (rotO x15.2.2.2.2.1 25) fun r19=>
  let x20:Int:=iadd .i64 x15.2.2.2.2.2.2.2.1 (ixor .i64 (ixor .i64 r17 r18) r19)
  let x21:Int:=iand .i64 (ixor .i64 x15.2.2.2.2.1 4294967295) x15.2.2.2.2.2.2.1
  let x22:Int:=ixor .i64 (iand .i64 x15.2.2.2.2.1 x15.2.2.2.2.2.1) x21
  cond (decide (0≤x15.2.2.2.2.2.2.2.2)&&decide (x15.2.2.2.2.2.2.2.2<(r3.length:Int))) (Option.bind (r3[x15.2.2.2.2.2.2.2.2.toNat]?) fun e23=>
  cond (decide (0≤x15.2.2.2.2.2.2.2.2)&&decide (x15.2.2.2.2.2.2.2.2<(r4.length:Int))) (Option.bind (r4[x15.2.2.2.2.2.2.2.2.toNat]?) fun e24=>
  let x25:Int:=iadd .i64 (iadd .i64 (iadd .i64 x20 x22) e23) e24
  Option.bind (rotO x15.1 2) fun r26=>
  Option.bind (rotO x15.1 13) fun r27=>
  Option.bind (rotO x15.1 22) fun r28=>
  let x29:Int:=ixor .i64 (iand .i64 x15.1 x15.2.1) (iand .i64 x15.1 x15.2.2.1)
  let x30:Int:=ixor .i64 x29 (iand .i64 x15.2.1 x15.2.2.1)
  let x31:Int:=iadd .i64 (ixor .i64 (ixor .i64 r26 r27) r28) x30
  let x32:Int:=iadd .i64 x15.2.2.2.1 (iand .i64 x25 4294967295)
  let x33:Int:=iadd .i64 (iand .i64 x25 4294967295) (iand .i64 x31 4294967295)
  k16 ((iand .i64 x33 4294967295),x15.1,x15.2.1,x15.2.2.1,(iand .i64 x32 4294967295),x15.2.2.2.2.1,x15.2.2.2.2.2.1,x15.2.2.2.2.2.2.1,(iadd .i64 x15.2.2.2.2.2.2.2.2 1))) none) none)
  (k14 (x15.1,x15.2.1,x15.2.2.1,x15.2.2.2.1,x15.2.2.2.2.1,x15.2.2.2.2.2.1,x15.2.2.2.2.2.2.1,x15.2.2.2.2.2.2.2.1))) (e5,e6,e7,e8,e9,e10,e11,e12,0))) fun k2=>
  cond (!(words8 a0))
  (k2 true)
  (k2 ((a1.length:Int) !=64))) none
def spec_l2Out.raw (a0:List Int):Option (List UInt8):=
  joinK (fun (y1:(List UInt8))=>
  some y1) fun k2=>
  loopK FU (fun (x3:(List UInt8) × Int) k4=>
  cond (decide (x3.2<8))
  (Option.bind (idxI a0 x3.2) fun e5=>
  Option.bind (putNO x3.1 e5 4) fun r6=>
  k4 (r6,(iadd .i64 x3.2 1)))
  (k2 x3.1)) ([],0)
def spec_Sha.raw (a0:List UInt8):Option (List UInt8):=
  cond (decide ((a0.length:Int)>1048576))
  (some [])
  (cond (decide (([]:List UInt8).length+a0.length≤LIM)) (Option.bind (padO (a0.length:Int)) fun r1=>
  cond (decide (([]++a0).length+r1.length≤LIM)) (let r2:(List Int):=start
  joinK (fun (y3:(List Int))=>
  Option.bind (wordBytesO y3) fun r8=>
  some r8) fun k4=>
  loopK FU (fun (x5:(List Int) × Int) k6=>
  cond (decide (x5.2<((([]++a0)++r1).length:Int)))
  (cond (decide (0≤x5.2)&&decide (x5.2≤(iadd .i64 x5.2 64))&&decide ((iadd .i64 x5.2 64)≤((([]++a0)++r1).length:Int))) (Option.bind (compressO x5.1 (List.take ((iadd .i64 x5.2 64 - x5.2).toNat) (List.drop x5.2.toNat (([]++a0)++r1)))) fun r7=>
  k6 (r7,(iadd .i64 x5.2 64))) none)
  (k4 x5.1)) (r2,0)) none) none)
def spec_BlockKey.raw (a0:List UInt8):Option (List UInt8):=
  cond (decide ((a0.length:Int)>1048576))
  (some [])
  (cond (decide (([]:List UInt8).length+a0.length≤LIM)) (joinK (fun (y1:(List UInt8))=>
  joinK (fun (y4:(List UInt8))=>
  some y4) fun k5=>
  loopK FU (fun (x6:(List UInt8)) k7=>
  cond (decide ((x6.length:Int)<64))
  (cond (decide (x6.length+[UInt8.ofNat (0:Int).toNat].length≤LIM)) (k7 (x6++[UInt8.ofNat (0:Int).toNat])) none)
  (k5 x6)) y1) fun k2=>
  cond (decide ((a0.length:Int)>64))
  (let r3:(List UInt8):=sha a0
  k2 r3)
  (k2 ([]++a0))) none)
def spec_Hmac.raw (a0:List UInt8) (a1:List UInt8):Option (List UInt8):=
  joinK (fun (y1:Bool)=>
  cond (y1)
  (some [])
  (let r3:(List UInt8):=blockKey a0
  joinK (fun (y4:(List UInt8) × (List UInt8))=>
  cond (decide (y4.1.length+a1.length≤LIM)) (let r12:(List UInt8):=sha (y4.1++a1)
  cond (decide (y4.2.length+r12.length≤LIM)) (let r13:(List UInt8):=sha (y4.2++r12)
  some r13) none) none) fun k5=>
  loopK FU (fun (x6:(List UInt8) × (List UInt8) × Int) k7=>
  cond (decide (x6.2.2<64))
  (cond (decide (0≤x6.2.2)&&decide (x6.2.2<(r3.length:Int))) (Option.bind (r3[x6.2.2.toNat]?) fun e8=>
  let x9:List UInt8:=[UInt8.ofNat (ixor .u8 ((e8.toNat:Nat):Int) 54:Int).toNat]
  cond (decide (x6.1.length+x9.length≤LIM)) (cond (decide (0≤x6.2.2)&&decide (x6.2.2<(r3.length:Int))) (Option.bind (r3[x6.2.2.toNat]?) fun e10=>
  let x11:List UInt8:=[UInt8.ofNat (ixor .u8 ((e10.toNat:Nat):Int) 92:Int).toNat]
  cond (decide (x6.2.1.length+x11.length≤LIM)) (k7 ((x6.1++x9),(x6.2.1++x11),(iadd .i64 x6.2.2 1))) none) none) none) none)
  (k5 (x6.1,x6.2.1))) ([],[],0))) fun k2=>
  cond (decide ((a0.length:Int)>1048576))
  (k2 true)
  (k2 (decide ((a1.length:Int)>1048512)))
def spec_DiceAt.raw (a0:List UInt8) (a1:Int):Option (List UInt8):=
  joinK (fun (y1:Bool)=>
  cond (y1)
  (some [])
  (let x3:List UInt8:=[UInt8.ofNat (114:Int).toNat,UInt8.ofNat (111:Int).toNat,UInt8.ofNat (108:Int).toNat,UInt8.ofNat (108:Int).toNat]
  Option.bind (putNO x3 a1 4) fun r4=>
  let r5:(List UInt8):=hmac a0 r4
  cond (decide (0≤(0:Int))&&decide ((0:Int)≤12)&&decide (12≤(r5.length:Int))) (cond (decide (([]:List UInt8).length+(List.take 12 (List.drop 0 r5)).length≤LIM)) (some ([]++(List.take 12 (List.drop 0 r5)))) none) none)) fun k2=>
  cond (!(inR (a0.length:Int) 1 32))
  (k2 true)
  (k2 (!(inR a1 0 10000)))
end
end Go.D
namespace Go.D
end Go.D
namespace Go.D
theorem loop_st {σ R:Type} (n:Nat) (hn:n≤maxLen) (S:Nat→σ) (z:Option R) {f:σ × Int→(σ × Int→Option R)→Option R}
    (hf:∀ (i:Nat) k,i<n→f (S i,(i:Int)) k=k (S (i+1),IntKind.wrap .i64 ((i:Int)+1))) (hz:∀ k,f (S n,(n:Int)) k=z) (a:Nat) (ha:a≤n):loopK FU f (S a,(a:Int))=z:=by
  refine loop_FU (g:=fun _=>z) (fun x=>∃ i:Nat,i≤n∧x=(S i,(i:Int))) (fun x=>n - x.2.toNat) (fun x hx k hk=>?_) ⟨a,ha,rfl⟩ (by unfold maxLen at hn;simp only [Int.toNat_natCast];omega)
  obtain ⟨i,hi,rfl⟩:=hx
  rcases Nat.lt_or_eq_of_le hi with hlt | rfl
  · rw [hf i k hlt,iadd_nat i (by omega)]
    exact hk _ ⟨i+1,hlt,rfl⟩ (by simp only [Int.toNat_natCast];omega)
  · exact hz k
theorem ofInt_nat (n:Nat) (h:n<2^64):(BitVec.ofInt 64 (n:Int)).toNat=n:=by
  rw [BitVec.toNat_ofInt];omega
theorem m32_le (a:Int):0≤m32 a∧m32 a≤4294967295:=by
  have h:(BitVec.ofInt 64 a&&&BitVec.ofInt 64 4294967295).toNat≤4294967295:=by
    rw [BitVec.toNat_and]
    exact Nat.le_trans Nat.and_le_right (by decide)
  unfold m32 iand
  show 0≤IntKind.wrap .i64 ((BitVec.ofInt 64 a&&&BitVec.ofInt 64 4294967295).toNat:Int)∧IntKind.wrap .i64 ((BitVec.ofInt 64 a&&&BitVec.ofInt 64 4294967295).toNat:Int)≤4294967295
  rw [wrap_i64 (by omega) (by omega)];omega
def W32 (a:Int):Prop:=0≤a∧a≤4294967295
theorem app_room {a b:Nat} (h:a+b≤LIM):decide (a+b≤LIM)=true:=decide_eq_true h
theorem putN_raw (b:List UInt8) (n k:Int) (h:wt b+6≤LIM):impl_PutN.raw b n k=some (putN b n k):=by
  rw [wt_bytes] at h
  simp only [impl_PutN.raw,joinK,putN,List.nil_append]
  rw [ble_LIM (by omega)]
  simp only [cond_true]
  by_cases h1:k<1
  · rw [decide_eq_true h1];rfl
  by_cases h2:k>6
  · rw [decide_eq_false h1,decide_eq_true h2];rfl
  rw [decide_eq_false h1,decide_eq_false h2]
  simp only [cond_false,Bool.or_false]
  have hk:isub .i64 k 1=k - 1:=by rw [isub,wrap_i64 (by omega) (by omega)]
  rw [hk]
  rw [loop_FU (g:=fun x:List UInt8 × Int=>some (x.1++bytesOf n (x.2+1).toNat)) (fun x=> -1≤x.2∧x.2≤5∧(x.1.length:Int)+x.2+1≤(LIM:Int)) (fun x=>(x.2+1).toNat) (fun x hx kk hkk=>?_) (x:=(b,k - 1)) ⟨by show -1≤k - 1;omega,by show k - 1≤5;omega,by show (b.length:Int)+(k - 1)+1≤(LIM:Int);omega⟩ (by show (k - 1+1).toNat<2^64;omega)]
  · rw [show k - 1+1=k by omega]
  · obtain ⟨l,i⟩:=x
    obtain ⟨g1,g2,g3⟩:=hx
    simp only at g1 g2 g3 ⊢
    by_cases hi:0≤i
    · obtain ⟨j,rfl⟩:=int_nat hi
      have e1:imul .i64 8 (j:Int)=8 *(j:Int):=wrap_i64 (by omega) (by omega)
      have e2:isub .i64 (j:Int) 1=(j:Int) - 1:=by rw [isub,wrap_i64 (by omega) (by omega)]
      have e3:decide (imul .i64 8 (j:Int)<0)=false:=decide_eq_false (by rw [e1];omega)
      rw [decide_eq_true (p:=(j:Int)≥0) hi,cond_true,e3,cond_false,app_room (by simp;omega),cond_true,e2]
      refine (hkk (l++[byteAt n j],(j:Int) - 1) ⟨by show -1≤(j:Int) - 1;omega,by show (j:Int) - 1≤5;omega,by show ((l++[byteAt n j]).length:Int)+((j:Int) - 1)+1≤(LIM:Int);simp;omega⟩ (by show ((j:Int) - 1+1).toNat<((j:Int)+1).toNat;omega)).trans ?_
      simp only
      rw [show ((j:Int) - 1+1).toNat=j by omega,show ((j:Int)+1).toNat=j+1 by omega,bytesOf,List.append_assoc];rfl
    · have:i= -1:=by omega
      subst this
      simp [bytesOf]
theorem spec_PutN.ok {x:TyTup [.sl .byte, .v .int, .v .int]} (_:bdTup [.sl .byte, .v .int, .v .int] x) {r:List UInt8}:putNO x.1 x.2.1 x.2.2=some r→spec_PutN.raw x.1 x.2.1 x.2.2=some r:=pt_ok fun h=>putN_raw x.1 x.2.1 x.2.2 h
theorem getVal_next (l:List UInt8) {i:Nat} (hi:i<l.length):getVal (l.take (i+1))=iadd .i64 (imul .i64 (getVal (l.take i)) 256) (IntKind.wrap .i64 ((l[i].toNat:Nat):Int)):=by
  rw [getVal,take_next l hi,List.foldl_append];rfl
theorem spec_GetN_raw (b:List UInt8) (f k:Int) (h:wt b≤LIM) (hf:Fits .i64 f):spec_GetN.raw b f k=some (getN b f k):=by
  have hl:b.length≤LIM:=by rw [← wt_bytes];exact h
  have hL:=LIM_is
  have hf:=fits_i64 hf
  simp only [spec_GetN.raw,joinK,getN]
  by_cases h1:k<1
  · rw [decide_eq_true h1];rfl
  by_cases h2:k>6
  · rw [decide_eq_false h1,decide_eq_true h2];rfl
  by_cases h3:f<0
  · rw [decide_eq_false h1,decide_eq_false h2,decide_eq_true h3];rfl
  have e:isub .i64 (b.length:Int) k=(b.length:Int) - k:=by rw [isub,wrap_i64 (by omega) (by omega)]
  rw [e]
  by_cases h4:f>(b.length:Int) - k
  · rw [decide_eq_false h1,decide_eq_false h2,decide_eq_false h3,decide_eq_true h4];rfl
  rw [decide_eq_false h1,decide_eq_false h2,decide_eq_false h3,decide_eq_false h4]
  simp only [cond_false,Bool.or_false]
  obtain ⟨a,rfl⟩:=int_nat (n:=f) (by omega)
  obtain ⟨m,rfl⟩:=int_nat (n:=k) (by omega)
  simp only [Int.toNat_natCast]
  refine loop_st m (by rw [maxLen_is];omega) (fun i=>getVal (((b.drop a).take m).take i)) _ (fun i k hi=>?_) (fun k=>?_) 0 (Nat.zero_le _)
  · have e1:iadd .i64 (a:Int) (i:Int)=((a+i:Nat):Int):=by rw [iadd,wrap_i64 (by omega) (by omega)];omega
    have hlt:i<((b.drop a).take m).length:=by rw [List.length_take,List.length_drop];omega
    have hai:a+i<b.length:=by omega
    rw [lt_len hi,cond_true,e1,idxI_get hai,bind_some',getVal_next _ hlt]
    simp only [List.getElem_take,List.getElem_drop]
  · rw [lt_end,cond_false,List.take_of_length_le (i:=m) (by rw [List.length_take];omega)]
theorem spec_GetN.ok {x:TyTup [.sl .byte, .v .int, .v .int]} (hb:bdTup [.sl .byte, .v .int, .v .int] x) {r:Int × Int × Bool}:getNO x.1 x.2.1 x.2.2=some r→spec_GetN.raw x.1 x.2.1 x.2.2=some r:=pt_ok fun h=>
  spec_GetN_raw x.1 x.2.1 x.2.2 h (bdx_fits hb.2.1 0 (by decide) rfl)
theorem spec_rot_raw (a n:Int) (h:1≤n∧n≤31):spec_Rot.raw a n=some (rot a n):=by
  simp only [spec_Rot.raw,joinK,rot,m32]
  rw [decide_eq_false (p:=n<1) (by omega),decide_eq_false (p:=n>31) (by omega),decide_eq_false (p:=n<0) (by omega)]
  have:isub .i64 32 n=32 - n:=by rw [isub,wrap_i64 (by omega) (by omega)]
  rw [this,decide_eq_false (p:=32 - n<0) (by omega)];rfl
theorem spec_Rot.ok {x:TyTup [.v .int, .v .int]} (_:bdTup [.v .int, .v .int] x) {r:Int}:rotO x.1 x.2=some r→spec_Rot.raw x.1 x.2=some r:=pt_ok fun h=>spec_rot_raw x.1 x.2 h
theorem spec_Start.ok {x:TyTup []} (_:bdTup [] x):spec_Start.raw=some start:=rfl
theorem spec_l2K.ok {x:TyTup []} (_:bdTup [] x):spec_l2K.raw=some kTab:=rfl
theorem spec_l2Words.ok {x:TyTup [.sl .int]} (hb:bdTup [.sl .int] x):spec_l2Words.raw x=some (words8 x):=by
  show spec_l2Words.raw (x:List Int)=some (areWords (x:List Int) 8)
  have hl:(show List Int from x).length≤maxLen:=hb.1
  generalize (show List Int from x)=l at hl ⊢
  simp only [spec_l2Words.raw,joinK]
  rw [areWords_loop l hl,areWords]
  cases List.all _ _ <;> rfl
end Go.D
namespace Go.D
theorem loop_emb {X R:Type} (idx:X→Int) (E:Nat→X) (hidx:∀ i,idx (E i)=(i:Int)) (n:Nat) (hn:n≤maxLen) (z:Option R) {f:X→(X→Option R)→Option R} (a:Nat) (ha:a≤n)
    (hf:∀ (i:Nat) k,a≤i→i<n→f (E i) k=k (E (i+1))) (hz:∀ k,f (E n) k=z):loopK FU f (E a)=z:=by
  refine loop_FU (g:=fun _=>z) (fun x=>∃ i:Nat,a≤i∧i≤n∧x=E i) (fun x=>n - (idx x).toNat) (fun x hx k hk=>?_) ⟨a,Nat.le_refl _,ha,rfl⟩ (by rw [hidx];unfold maxLen at hn;simp only [Int.toNat_natCast];omega)
  obtain ⟨i,h0,hi,rfl⟩:=hx
  rcases Nat.lt_or_eq_of_le hi with hlt | rfl
  · rw [hf i k h0 hlt]
    exact hk _ ⟨i+1,by omega,hlt,rfl⟩ (by rw [hidx,hidx];simp only [Int.toNat_natCast];omega)
  · exact hz k
theorem in_row {n i:Nat} (h:i<n):(decide ((0:Int)≤(i:Int))&&decide ((i:Int)<(n:Int)))=true:=by simp;exact h
theorem getD_get {l:List Int} {i:Nat} (h:i<l.length):l[i]?=some (l.getD i 0):=by
  rw [List.getD_eq_getElem?_getD,List.getElem?_eq_getElem h];rfl
theorem isub_nat {i c:Nat} (h:i≤maxLen) (hc:c≤i):isub .i64 (i:Int) (c:Int)=((i - c:Nat):Int):=by
  rw [maxLen_is] at h
  rw [isub,wrap_i64 (by omega) (by omega)];omega
theorem iadd_one {i:Nat} (h:i<maxLen):iadd .i64 (i:Int) 1=((i+1:Nat):Int):=iadd_nat i h
theorem lt_lit {i n:Nat} (h:i<n):decide ((i:Int)<(n:Int))=true:=decide_eq_true (by omega)
theorem sched_len (b:List UInt8):∀ i,(sched b i).length=i
  | 0=>rfl
  | i+1=>by rw [sched,List.length_append,sched_len b i];rfl
theorem mul4 {i:Nat} (h:i<16):imul .i64 4 (i:Int)=((4 *i:Nat):Int):=by
  rw [show imul .i64 4 (i:Int)=IntKind.wrap .i64 (4 *(i:Int)) from rfl,wrap_i64 (by omega) (by omega)];omega
theorem rotO_lit {β:Type} {x n:Int} {f:Int→Option β} (h:1≤n∧n≤31):Option.bind (rotO x n) f=f (rot x n):=pt_bind h
theorem spec_Schedule_raw (b:List UInt8) (h:wt b≤LIM):spec_Schedule.raw b=some (schedule b):=by
  simp only [spec_Schedule.raw,joinK,schedule]
  by_cases hl:b.length=64
  case neg=>
    rw [show ((b.length:Int) !=64)=true from bne_iff_ne.2 (by omega),if_neg hl];rfl
  rw [show ((b.length:Int) !=64)=false by simp [hl],if_pos hl,cond_false]
  have hL:=LIM_is
  refine (loop_emb (X:=List Int × Int) (fun x=>x.2) (fun i=>(sched b i,(i:Int))) (fun _=>rfl) 16 (by decide) (some (sched b 64)) 0 (by decide) (fun i k _ hi=>?_) (fun k=>?_))
  · simp only [lt_lit (show i<16 from hi),show ((16:Nat):Int)=16 from rfl,decide_eq_true (p:=(i:Int)<16) (by omega),cond_true,mul4 hi,getNO,pt_bind h,iadd_one (i:=i) (by rw [maxLen_is];omega)]
    rw [app_room (by rw [sched_len];simp;omega),cond_true,sched,schedNext,if_pos hi]
  · simp only [show ((16:Nat):Int)=16 from rfl,show decide ((16:Int)<16)=false from rfl,cond_false]
    refine (loop_emb (X:=List Int × Int) (fun x=>x.2) (fun i=>(sched b i,(i:Int))) (fun _=>rfl) 64 (by decide) (some (sched b 64)) 16 (by decide) (fun i k h16 hi=>?_) (fun k=>?_))
    · have hm:i≤maxLen:=by rw [maxLen_is];omega
      have e15:isub .i64 (i:Int) 15=((i - 15:Nat):Int):=isub_nat (c:=15) hm (by omega)
      have e2:isub .i64 (i:Int) 2=((i - 2:Nat):Int):=isub_nat (c:=2) hm (by omega)
      have e7:isub .i64 (i:Int) 7=((i - 7:Nat):Int):=isub_nat (c:=7) hm (by omega)
      have e16:isub .i64 (i:Int) 16=((i - 16:Nat):Int):=isub_nat (c:=16) hm (by omega)
      have hs:=sched_len b i
      simp only [decide_eq_true (p:=(i:Int)<64) (by omega),cond_true,e15,e2,e7,e16,in_row (show i - 15<(sched b i).length by omega),in_row (show i - 2<(sched b i).length by omega),in_row (show i - 7<(sched b i).length by omega),in_row (show i - 16<(sched b i).length by omega),Int.toNat_natCast,
        getD_get (show i - 15<(sched b i).length by omega),getD_get (show i - 2<(sched b i).length by omega),getD_get (show i - 7<(sched b i).length by omega),getD_get (show i - 16<(sched b i).length by omega),bind_some',rotO_lit (show (1:Int)≤7∧(7:Int)≤31 by decide),rotO_lit (show (1:Int)≤18∧(18:Int)≤31 by decide),rotO_lit (show (1:Int)≤17∧(17:Int)≤31 by decide),rotO_lit (show (1:Int)≤19∧(19:Int)≤31 by decide),iadd_one (i:=i) (by rw [maxLen_is];omega)]
      rw [app_room (by rw [sched_len];simp;omega),cond_true,sched,schedNext,if_neg (by omega)];rfl
    · simp only [show ((64:Nat):Int)=64 from rfl,show decide ((64:Int)<64)=false from rfl,cond_false]
theorem spec_Schedule.ok {x:TyTup [.sl .byte]} (_:bdTup [.sl .byte] x) {r:List Int}:scheduleO x=some r→spec_Schedule.raw x=some r:=pt_ok fun h=>spec_Schedule_raw x h
end Go.D
namespace Go.D
theorem kTab_len:kTab.length=64:=by decide
theorem words_parts {h:List Int} (hw:areWords h 8=true):h.length=8∧∀ j,W32 (h.getD j 0):=by
  simp only [areWords,Bool.and_eq_true,beq_iff_eq,List.all_eq_true] at hw
  refine ⟨by omega,fun j=>?_⟩
  by_cases hj:j<h.length
  · rw [List.getD_eq_getElem?_getD,List.getElem?_eq_getElem hj]
    exact inR_iff.1 (hw.1 _ (List.getElem_mem hj))
  · rw [List.getD_eq_getElem?_getD,List.getElem?_eq_none (by omega)]
    exact ⟨by decide,by decide⟩
theorem zip_len (h:List Int) (s:S8) (hl:h.length=8):(List.zipWith add32 h (list8 s)).length=8:=by
  rw [List.length_zipWith,hl];rfl
theorem comp_words {h:List Int} (b:List UInt8) (hw:areWords h 8=true):areWords (comp h b) 8=true:=by
  have hl:=(words_parts hw).1
  simp only [areWords,Bool.and_eq_true,beq_iff_eq,List.all_eq_true]
  refine ⟨fun x hx=>?_,?_⟩
  · obtain ⟨i,hi,rfl⟩:=List.getElem_of_mem hx
    have hi2:i<(List.zipWith add32 h (list8 (rounds (schedule b) (at8 h) 64))).length:=hi
    show inR ((List.zipWith add32 h (list8 (rounds (schedule b) (at8 h) 64)))[i]'hi2) 0 4294967295=true
    rw [List.getElem_zipWith]
    exact inR_iff.2 (m32_le _)
  · have:=zip_len h (rounds (schedule b) (at8 h) 64) hl
    show ((List.zipWith add32 h (list8 (rounds (schedule b) (at8 h) 64))).length:Int)=8
    omega
theorem compress_words {h:List Int} (b:List UInt8) (hw:areWords h 8=true):areWords (compress h b) 8=true:=by
  unfold compress
  cases areWords h 8&&b.length==64
  · exact hw
  · exact comp_words b hw
theorem schedule_len {b:List UInt8} (h:b.length=64):(schedule b).length=64:=by
  rw [schedule,if_pos h,sched_len]
def outRow (h:List Int) (z:List Int) (i:Nat):List Int:=z.take i++h.drop i
theorem outRow_set {h z:List Int} (hl:h.length=z.length) {i:Nat} (hi:i<z.length) (v:Int) (hv:v=z[i]):List.set (outRow h z i) i v=outRow h z (i+1):=by
  subst hv
  have hi2:i<h.length:=by omega
  rw [outRow,drop_next h hi2,set_at _ _ _ _ (by rw [List.length_take];omega),outRow,take_next z hi,List.append_assoc];rfl
theorem outRow_len {h z:List Int} (hl:h.length=z.length) {i:Nat} (hi:i≤z.length):(outRow h z i).length=z.length:=by
  rw [outRow,List.length_append,List.length_take,List.length_drop];omega
theorem idx_getD {l:List Int} {i:Nat} (h:i<l.length):idxI l (i:Int)=some (l.getD i 0):=by rw [idxI_nat,getD_get h]
theorem zip_get (h:List Int) (s:S8) (hl:h.length=8) {i:Nat} (hi:i<(List.zipWith add32 h (list8 s)).length):(List.zipWith add32 h (list8 s))[i]=add32 (h.getD i 0) ((list8 s).getD i 0):=by
  have h8:=zip_len h s hl
  rw [List.getElem_zipWith,List.getD_eq_getElem?_getD,List.getD_eq_getElem?_getD,List.getElem?_eq_getElem (by omega),List.getElem?_eq_getElem (by show i<8;omega)];rfl
theorem comp_len {h:List Int} (b:List UInt8) (h8:h.length=8):(comp h b).length=8:=zip_len h _ h8
theorem comp_set {h:List Int} (b:List UInt8) (h8:h.length=8) {i:Nat} (hi:i<8):List.set (outRow h (comp h b) i) i (add32 (h.getD i 0) ((list8 (rounds (schedule b) (at8 h) 64)).getD i 0))=outRow h (comp h b) (i+1):=
  outRow_set (by rw [comp_len b h8,h8]) (by rw [comp_len b h8];exact hi) _ (zip_get h _ h8 (by rw [zip_len h _ h8];exact hi)).symm
theorem spec_Compress_raw (h:List Int) (b:List UInt8) (hh:wt h≤LIM∧wt b≤LIM):spec_Compress.raw h b=some (compress h b):=by
  have hlen:h.length≤LIM:=by rw [← wt_ints];exact hh.1
  simp only [spec_Compress.raw,joinK,List.nil_append,compress,words8,scheduleO,pt_bind hh.2]
  rw [show decide (([]:List Int).length+h.length≤LIM)=true from decide_eq_true (by simpa using hlen)]
  simp only [cond_true]
  cases hw:areWords h 8
  · rfl
  by_cases hb:b.length=64
  case neg=>
    rw [show ((b.length:Int) !=64)=true from bne_iff_ne.2 (by omega),beq_false_of_ne hb];rfl
  rw [show ((b.length:Int) !=64)=false by simp [hb],show (b.length==64)=true by simp [hb]]
  obtain ⟨h8,hW⟩:=words_parts hw
  have i0:idxI h 0=some (h.getD 0 0):=idx_getD (i:=0) (by omega)
  have i1:idxI h 1=some (h.getD 1 0):=idx_getD (i:=1) (by omega)
  have i2:idxI h 2=some (h.getD 2 0):=idx_getD (i:=2) (by omega)
  have i3:idxI h 3=some (h.getD 3 0):=idx_getD (i:=3) (by omega)
  have i4:idxI h 4=some (h.getD 4 0):=idx_getD (i:=4) (by omega)
  have i5:idxI h 5=some (h.getD 5 0):=idx_getD (i:=5) (by omega)
  have i6:idxI h 6=some (h.getD 6 0):=idx_getD (i:=6) (by omega)
  have i7:idxI h 7=some (h.getD 7 0):=idx_getD (i:=7) (by omega)
  simp only [Bool.not_true,cond_false,Bool.and_true,cond_true,i0,i1,i2,i3,i4,i5,i6,i7,bind_some']
  have hsl:=schedule_len hb
  refine loop_emb (fun x=>x.2.2.2.2.2.2.2.2) (fun i=>((rounds (schedule b) (at8 h) i).1,(rounds (schedule b) (at8 h) i).2.1,(rounds (schedule b) (at8 h) i).2.2.1,(rounds (schedule b) (at8 h) i).2.2.2.1,(rounds (schedule b) (at8 h) i).2.2.2.2.1,(rounds (schedule b) (at8 h) i).2.2.2.2.2.1,(rounds (schedule b) (at8 h) i).2.2.2.2.2.2.1,(rounds (schedule b) (at8 h) i).2.2.2.2.2.2.2,(i:Int))) (fun _=>rfl) 64 (by decide) (some (comp h b)) 0 (by decide) (fun i k _ hi=>?_) (fun k=>?_)
  · simp only [decide_eq_true (p:=(i:Int)<64) (by omega),cond_true,Int.toNat_natCast,in_row (show i<kTab.length by rw [kTab_len];exact hi),in_row (show i<(schedule b).length by omega),getD_get (show i<kTab.length by rw [kTab_len];exact hi),getD_get (show i<(schedule b).length by omega),bind_some',
      rotO_lit (show (1:Int)≤6∧(6:Int)≤31 by decide),rotO_lit (show (1:Int)≤11∧(11:Int)≤31 by decide),rotO_lit (show (1:Int)≤25∧(25:Int)≤31 by decide),rotO_lit (show (1:Int)≤2∧(2:Int)≤31 by decide),rotO_lit (show (1:Int)≤13∧(13:Int)≤31 by decide),rotO_lit (show (1:Int)≤22∧(22:Int)≤31 by decide),iadd_one (i:=i) (by rw [maxLen_is];omega)]
    rfl
  · simp only [show ((64:Nat):Int)=64 from rfl,show decide ((64:Int)<64)=false from rfl,cond_false]
    have hz8:=comp_len b h8
    refine loop_emb (X:=Int × List Int) (fun x=>x.1) (fun i=>((i:Int),outRow h (comp h b) i)) (fun _=>rfl) 8 (by decide) (some (comp h b)) 0 (by decide) (fun i k _ hi=>?_) (fun k=>?_)
    · have hol:(outRow h (comp h b) i).length=8:=by rw [outRow_len (by rw [hz8,h8]) (by rw [hz8];omega),hz8]
      have hi8:i<(list8 (rounds (schedule b) (at8 h) 64)).length:=hi
      have ho:(outRow h (comp h b) i)[i]?=some ((outRow h (comp h b) i).getD i 0):=getD_get (by omega)
      simp only [decide_eq_true (p:=(i:Int)<8) (by omega),cond_true,idx_getD (show i<h.length by omega),bind_some',in_row (show i<(outRow h (comp h b) i).length by omega),ho,Int.toNat_natCast,iadd_one (i:=i) (by rw [maxLen_is];omega)]
      have e1:=in_row hi8
      have e2:=getD_get hi8
      unfold list8 at e1 e2
      rw [e1,cond_true,e2,bind_some']
      exact congrArg (fun l=>k (((i+1:Nat):Int),l)) (comp_set b h8 hi)
    · simp only [show ((8:Nat):Int)=8 from rfl,show decide ((8:Int)<8)=false from rfl,cond_false]
      rw [outRow,List.take_of_length_le (by rw [hz8];exact Nat.le_refl _),List.drop_eq_nil_of_le (by omega),List.append_nil]
theorem spec_Compress.ok {x:TyTup [.sl .int, .sl .byte]} (_:bdTup [.sl .int, .sl .byte] x) {r:List Int}:compressO x.1 x.2=some r→spec_Compress.raw x.1 x.2=some r:=pt_ok fun h=>spec_Compress_raw x.1 x.2 h
end Go.D
namespace Go.D
theorem blocks_words:∀ (n:Nat) (h:List Int) (b:List UInt8),areWords h 8=true→areWords (blocks h n b) 8=true
  | 0,h,b,hw=>hw
  | n+1,h,b,hw=>blocks_words n _ _ (compress_words _ hw)
theorem blocks_snoc:∀ (n:Nat) (h:List Int) (b:List UInt8),blocks h (n+1) b=compress (blocks h n b) ((b.drop (64 *n)).take 64)
  | 0,h,b=>rfl
  | n+1,h,b=>by
    rw [blocks,blocks_snoc n,blocks,List.drop_drop]
    rw [show 64+64 *n=64 *(n+1) by omega]
theorem wt_w8 {h:List Int} (hw:areWords h 8=true):wt h≤LIM:=by
  rw [wt_ints,(words_parts hw).1,LIM_is];decide
theorem bytesOf_len (n:Int):∀ i,(bytesOf n i).length=i
  | 0=>rfl
  | i+1=>by rw [bytesOf,List.length_cons,bytesOf_len n i]
theorem putN4 (b:List UInt8) (n:Int):putN b n 4=b++bytesOf n 4:=rfl
theorem wordBytes_take (h:List Int) {i:Nat} (hi:i<h.length):wordBytes (h.take (i+1))=wordBytes (h.take i)++bytesOf (h.getD i 0) 4:=by
  rw [wordBytes,take_next h hi,List.flatMap_append]
  simp [wordBytes,List.getD_eq_getElem?_getD,hi]
theorem wordBytes_len:∀ h:List Int,(wordBytes h).length=4 *h.length
  | []=>rfl
  | x :: h=>by
    rw [wordBytes,List.flatMap_cons,List.length_append,bytesOf_len,List.length_cons]
    have:=wordBytes_len h
    rw [wordBytes] at this
    omega
theorem spec_l2Out_raw (h:List Int) (h8:h.length=8):spec_l2Out.raw h=some (wordBytes h):=by
  have hL:=LIM_is
  simp only [spec_l2Out.raw,joinK]
  refine loop_emb (X:=List UInt8 × Int) (fun x=>x.2) (fun i=>(wordBytes (h.take i),(i:Int))) (fun _=>rfl) 8 (by decide) _ 0 (Nat.zero_le _) (fun i k _ hi=>?_) (fun k=>?_)
  · have hwl:=wordBytes_len (h.take i)
    rw [List.length_take] at hwl
    simp only [decide_eq_true (p:=(i:Int)<8) (by omega),cond_true,idx_getD (show i<h.length by omega),bind_some',putNO,pt_bind (p:=wt (wordBytes (h.take i))+6≤LIM) (by rw [wt_bytes];omega),putN4,iadd_one (i:=i) (by rw [maxLen_is];omega),wordBytes_take h (show i<h.length by omega)]
  · simp only [show ((8:Nat):Int)=8 from rfl,show decide ((8:Int)<8)=false from rfl,cond_false]
    rw [List.take_of_length_le (by omega)]
theorem spec_l2Out.ok {x:TyTup [.sl .int]} (_:bdTup [.sl .int] x) {r:List UInt8}:wordBytesO x=some r→spec_l2Out.raw x=some r:=pt_ok fun h=>spec_l2Out_raw x h
theorem byte_zero:(UInt8.ofNat (0:Int).toNat)=0:=rfl
theorem pad_loop (n:Nat) (hn:n≤1048576) (z:List UInt8→Option (List UInt8)):loopK FU (fun (x5:(List UInt8)) k6=>cond ((irem .i64 (iadd .i64 (iadd .i64 (n:Int) (x5.length:Int)) 8) 64) !=0)
    (cond (decide (x5.length+[UInt8.ofNat (0:Int).toNat].length≤LIM)) (k6 (x5++[UInt8.ofNat (0:Int).toNat])) none) (z x5)) [UInt8.ofNat (128:Int).toNat]=z (128 :: List.replicate (padZ n) 0):=by
  have hz:padZ n<64:=Nat.mod_lt _ (by decide)
  have hL:=LIM_is
  refine loop_FU (g:=fun _=>z (128 :: List.replicate (padZ n) 0)) (fun x=>∃ j:Nat,j≤padZ n∧x=128 :: List.replicate j 0) (fun x=>padZ n+1 - x.length) (fun x hx k hk=>?_) ⟨0,Nat.zero_le _,rfl⟩ (by show padZ n+1 - 1<2^64;omega)
  obtain ⟨j,hj,rfl⟩:=hx
  have e1:iadd .i64 (iadd .i64 (n:Int) (((128 :: List.replicate j 0:List UInt8).length:Nat):Int)) 8=((n+(j+1)+8:Nat):Int):=by
    rw [List.length_cons,List.length_replicate]
    have a1:iadd .i64 (n:Int) ((j+1:Nat):Int)=((n+(j+1):Nat):Int):=by rw [iadd,wrap_i64 (by omega) (by omega)];omega
    rw [a1,iadd,wrap_i64 (by omega) (by omega)];omega
  have e2:irem .i64 ((n+(j+1)+8:Nat):Int) 64=(((n+(j+1)+8) % 64:Nat):Int):=irem_nat _ 64
  simp only [e1,e2]
  rcases Nat.lt_or_eq_of_le hj with hlt | rfl
  · have:(n+(j+1)+8) % 64≠0:=by unfold padZ at hlt;omega
    rw [show ((((n+(j+1)+8) % 64:Nat):Int) !=0)=true from bne_iff_ne.2 (by omega),cond_true,app_room (by simp;omega),cond_true]
    refine hk _ ⟨j+1,hlt,?_⟩ (by simp;omega)
    rw [byte_zero,List.cons_append,List.replicate_succ']
  · have:(n+(padZ n+1)+8) % 64=0:=by unfold padZ;omega
    rw [this];rfl
theorem mul8 {n:Nat} (h:n≤1048576):imul .i64 8 (n:Int)=((8 *n:Nat):Int):=by
  rw [show imul .i64 8 (n:Int)=IntKind.wrap .i64 (8 *(n:Int)) from rfl,wrap_i64 (by omega) (by omega)];omega
theorem pad_pre_len (n:Nat):(128 :: List.replicate (padZ n) 0:List UInt8).length=padZ n+1:=by simp
theorem spec_Pad_raw (n:Nat) (hn:n≤1048576):spec_Pad.raw (n:Int)=some (pad n):=by
  have hz:padZ n<64:=Nat.mod_lt _ (by decide)
  have hL:=LIM_is
  simp only [spec_Pad.raw,joinK,decide_eq_false (p:=(n:Int)<0) (by omega),decide_eq_false (p:=(n:Int)>1048576) (by omega),cond_false]
  rw [pad_loop n hn]
  simp only [putNO,pt_bind (p:=wt (128 :: List.replicate (padZ n) 0:List UInt8)+6≤LIM) (by rw [wt_bytes,pad_pre_len];omega),putN4,mul8 hn]
  rw [pt_bind (by rw [wt_bytes,List.length_append,pad_pre_len,bytesOf_len];omega),pad,List.append_assoc];rfl
theorem spec_Pad.ok {x:TyTup [.v .int]} (_:bdTup [.v .int] x) {r:List UInt8}:padO x=some r→spec_Pad.raw x=some r:=pt_ok fun h=>by
  obtain ⟨n,hn⟩:=int_nat h.1
  have hn:x=(n:Int):=hn
  have h2:(x:Int)≤1048576:=h.2
  subst hn
  exact spec_Pad_raw n (by omega)
theorem pad_len (n:Nat):(pad n).length=padZ n+9:=by
  rw [pad,List.length_append,pad_pre_len,List.length_append,bytesOf_len];rfl
theorem pad_whole (n:Nat):(n+(pad n).length) % 64=0:=by
  rw [pad_len];unfold padZ;omega
theorem start_words:areWords start 8=true:=by decide
theorem sha_loop (all:List UInt8) (hwa:wt all≤LIM) (hm:64 *(all.length / 64)=all.length):loopK FU (fun (x5:(List Int) × Int) k6=>cond (decide (x5.2<(all.length:Int)))
    (cond (decide (0≤x5.2)&&decide (x5.2≤(iadd .i64 x5.2 64))&&decide ((iadd .i64 x5.2 64)≤(all.length:Int))) (Option.bind (compressO x5.1 (List.take ((iadd .i64 x5.2 64 - x5.2).toNat) (List.drop x5.2.toNat all))) fun r7=>k6 (r7,(iadd .i64 x5.2 64))) none)
    (Option.bind (wordBytesO x5.1) fun r8=>some r8)) (start,0)=some (wordBytes (blocks start (all.length / 64) all)):=by
  have hL:=LIM_is
  have hla:all.length≤LIM:=by rw [← wt_bytes];exact hwa
  refine loop_FU (g:=fun _=>some (wordBytes (blocks start (all.length / 64) all))) (fun x=>∃ i:Nat,64 *i≤all.length∧x=(blocks start i all,((64 *i:Nat):Int))) (fun x=>all.length - x.2.toNat) (fun x hx k hk=>?_) (x:=(start,0)) ⟨0,Nat.zero_le _,rfl⟩ (by show all.length - Int.toNat 0<2^64;simp;omega)
  obtain ⟨i,hi,rfl⟩:=hx
  by_cases hlt:64 *i<all.length
  · have hge:64 *(i+1)≤all.length:=by omega
    have e1:iadd .i64 ((64 *i:Nat):Int) 64=((64 *(i+1):Nat):Int):=by rw [iadd,wrap_i64 (by omega) (by omega)];omega
    have e2:(decide ((0:Int)≤((64 *i:Nat):Int))&&decide (((64 *i:Nat):Int)≤((64 *(i+1):Nat):Int))&&decide (((64 *(i+1):Nat):Int)≤(all.length:Int)))=true:=by simp;omega
    have e3:(((64 *(i+1):Nat):Int) - ((64 *i:Nat):Int)).toNat=64:=by omega
    have hst:=hk (blocks start (i+1) all,((64 *(i+1):Nat):Int)) ⟨i+1,hge,rfl⟩ (by simp only [Int.toNat_natCast];omega)
    rw [blocks_snoc] at hst
    simp only [lt_len hlt,cond_true,e1,e2,e3,Int.toNat_natCast,compressO,pt_bind (p:=wt (blocks start i all)≤LIM∧wt ((all.drop (64 *i)).take 64)≤LIM) ⟨wt_w8 (blocks_words i start all start_words),Nat.le_trans (wt_take _ _) (Nat.le_trans (wt_drop _ _) hwa)⟩]
    exact hst
  · have hi2:i=all.length / 64:=by omega
    have e1:decide (((64 *i:Nat):Int)<(all.length:Int))=false:=decide_eq_false (by omega)
    simp only [e1,cond_false,wordBytesO,pt_bind (words_parts (blocks_words i start all start_words)).1, ← hi2]
theorem spec_Sha_raw (b:List UInt8):spec_Sha.raw b=some (sha b):=by
  have hL:=LIM_is
  simp only [spec_Sha.raw,joinK,sha,List.nil_append]
  by_cases h:(b.length:Int)>1048576
  · rw [decide_eq_true h];rfl
  rw [decide_eq_false h]
  have hp:=pad_len b.length
  have hz:padZ b.length<64:=Nat.mod_lt _ (by decide)
  have hwh:=pad_whole b.length
  have hal:(b++pad b.length).length=b.length+(pad b.length).length:=List.length_append
  simp only [cond_false]
  rw [ble_LIM (show b.length≤LIM by omega),cond_true,padO,pt_bind ⟨by omega,by omega⟩,Int.toNat_natCast,app_room (by omega),cond_true,shaAll]
  exact sha_loop (b++pad b.length) (by rw [wt_bytes];omega) (by omega)
theorem spec_Sha.ok {x:TyTup [.sl .byte]} (_:bdTup [.sl .byte] x):spec_Sha.raw x=some (sha x):=spec_Sha_raw x
theorem shaAll_len (b:List UInt8):(shaAll b).length=32:=by
  rw [shaAll,wordBytes_len,(words_parts (blocks_words _ start _ start_words)).1]
theorem sha_le (b:List UInt8):(sha b).length≤32:=by
  unfold sha
  cases decide ((b.length:Int)>1048576)
  · exact Nat.le_of_eq (shaAll_len b)
  · exact Nat.zero_le _
theorem sha_len {b:List UInt8} (h:b.length≤1048576):(sha b).length=32:=by
  rw [sha,decide_eq_false (by omega)];exact shaAll_len b
end Go.D
namespace Go.D
theorem pad64_loop (l:List UInt8):loopK FU (fun (x6:(List UInt8)) k7=>cond (decide ((x6.length:Int)<64)) (cond (decide (x6.length+[UInt8.ofNat (0:Int).toNat].length≤LIM)) (k7 (x6++[UInt8.ofNat (0:Int).toNat])) none) (some x6)) l=some (pad64 l):=by
  have hL:=LIM_is
  refine loop_FU (g:=fun _=>some (pad64 l)) (fun x=>∃ j:Nat,j≤64 - l.length∧x=l++List.replicate j 0) (fun x=>64 - x.length) (fun x hx k hk=>?_) ⟨0,Nat.zero_le _,by simp⟩ (by show 64 - l.length<2^64;omega)
  obtain ⟨j,hj,rfl⟩:=hx
  have hlen:(l++List.replicate j (0:UInt8)).length=l.length+j:=by simp
  by_cases hlt:l.length+j<64
  · rw [decide_eq_true (p:=((l++List.replicate j (0:UInt8)).length:Int)<64) (by omega),cond_true,app_room (by rw [hlen];simp;omega),cond_true]
    refine hk _ ⟨j+1,by omega,?_⟩ (by simp;omega)
    rw [byte_zero,List.append_assoc, ← List.replicate_succ']
  · rw [decide_eq_false (p:=((l++List.replicate j (0:UInt8)).length:Int)<64) (by omega),cond_false,pad64]
    have:j=64 - l.length:=by omega
    rw [this]
theorem spec_BlockKey_raw (b:List UInt8):spec_BlockKey.raw b=some (blockKey b):=by
  have hL:=LIM_is
  simp only [spec_BlockKey.raw,joinK,blockKey,List.nil_append]
  by_cases h:(b.length:Int)>1048576
  · rw [decide_eq_true h];rfl
  rw [decide_eq_false h,ble_LIM (show b.length≤LIM by omega)]
  simp only [cond_false,cond_true]
  cases decide ((b.length:Int)>64)
  · exact pad64_loop b
  · exact pad64_loop (sha b)
theorem spec_BlockKey.ok {x:TyTup [.sl .byte]} (_:bdTup [.sl .byte] x):spec_BlockKey.raw x=some (blockKey x):=spec_BlockKey_raw x
theorem blockKey_len {b:List UInt8} (h:b.length≤1048576):(blockKey b).length=64:=by
  rw [blockKey,decide_eq_false (by omega),cond_false,pad64,List.length_append,List.length_replicate]
  cases hd:decide ((b.length:Int)>64)
  · have:=of_decide_eq_false hd
    simp only [cond_false];omega
  · have:=sha_le b
    simp only [cond_true];omega
theorem masked_len (b:List UInt8) (x:UInt8):(masked b x).length=b.length:=List.length_map ..
theorem getB {l:List UInt8} {i:Nat} (h:i<l.length):l[i]?=some l[i]:=List.getElem?_eq_getElem h
theorem masked_next (b:List UInt8) (x:UInt8) {i:Nat} (hi:i<b.length):masked (b.take (i+1)) x=masked (b.take i) x++[xorB b[i] x]:=by rw [masked,take_next b hi,List.map_append];rfl
theorem spec_Hmac_raw (k b:List UInt8):spec_Hmac.raw k b=some (hmac k b):=by
  have hL:=LIM_is
  simp only [spec_Hmac.raw,joinK,hmac]
  by_cases h1:(k.length:Int)>1048576
  · rw [decide_eq_true h1];rfl
  by_cases h2:(b.length:Int)>1048512
  · rw [decide_eq_false h1,decide_eq_true h2];rfl
  have hk:=blockKey_len (b:=k) (by omega)
  rw [decide_eq_false h1,decide_eq_false h2]
  simp only [cond_false,Bool.or_false]
  refine loop_emb (X:=List UInt8 × List UInt8 × Int) (fun y=>y.2.2) (fun i=>(masked ((blockKey k).take i) 54,masked ((blockKey k).take i) 92,(i:Int))) (fun _=>rfl) 64 (by decide) _ 0 (Nat.zero_le _) (fun i kk _ hi=>?_) (fun kk=>?_)
  · have hib:i<(blockKey k).length:=by omega
    have m1:(masked ((blockKey k).take i) 54).length=i:=by rw [masked_len,List.length_take];omega
    have m2:(masked ((blockKey k).take i) 92).length=i:=by rw [masked_len,List.length_take];omega
    simp only [decide_eq_true (p:=(i:Int)<64) (by omega),cond_true,in_row hib,Int.toNat_natCast,getB hib,bind_some',iadd_one (i:=i) (by rw [maxLen_is];omega)]
    rw [app_room (by rw [m1];simp;omega),cond_true,app_room (by rw [m2];simp;omega),cond_true,masked_next _ _ hib,masked_next _ _ hib];rfl
  · have ht:(blockKey k).take 64=blockKey k:=List.take_of_length_le (by omega)
    simp only [show ((64:Nat):Int)=64 from rfl,show decide ((64:Int)<64)=false from rfl,cond_false,ht]
    have hs:=sha_le (masked (blockKey k) 54++b)
    rw [app_room (by rw [masked_len];omega),cond_true,app_room (by rw [masked_len];omega),cond_true]
theorem spec_Hmac.ok {x:TyTup [.sl .byte, .sl .byte]} (_:bdTup [.sl .byte, .sl .byte] x):spec_Hmac.raw x.1 x.2=some (hmac x.1 x.2):=spec_Hmac_raw x.1 x.2
theorem hmac_len {k b:List UInt8} (h1:k.length≤1048576) (h2:b.length≤1048512):(hmac k b).length=32:=by
  rw [hmac,decide_eq_false (by omega),decide_eq_false (by omega)]
  simp only [Bool.or_false,cond_false]
  refine sha_len ?_
  have:=sha_le (masked (blockKey k) 54++b)
  rw [List.length_append,masked_len,blockKey_len h1];omega
theorem roll_len (n:Int):(putN roll n 4).length=8:=by rw [putN4,List.length_append,bytesOf_len];rfl
theorem spec_DiceAt_raw (s:List UInt8) (n:Int):spec_DiceAt.raw s n=some (diceAt s n):=by
  have hL:=LIM_is
  simp only [spec_DiceAt.raw,joinK,diceAt]
  cases h1:inR (s.length:Int) 1 32
  · rfl
  cases h2:inR n 0 10000
  · rfl
  have h1:=inR_iff.1 h1
  have hh:=hmac_len (k:=s) (b:=putN roll n 4) (by omega) (by rw [roll_len];omega)
  simp only [Bool.not_true,cond_false,Bool.and_true,cond_true,putNO]
  rw [pt_bind (by rw [wt_bytes];simp;omega)]
  have hr:[UInt8.ofNat (114:Int).toNat,UInt8.ofNat (111:Int).toNat,UInt8.ofNat (108:Int).toNat,UInt8.ofNat (108:Int).toNat]=roll:=rfl
  rw [hr,show (decide ((0:Int)≤0)&&decide ((0:Int)≤12)&&decide (12≤((hmac s (putN roll n 4)).length:Int)))=true by rw [hh];rfl,cond_true,List.drop_zero,ble_LIM (by rw [List.length_take];omega),cond_true,List.nil_append]
theorem spec_DiceAt.ok {x:TyTup [.sl .byte, .v .int]} (_:bdTup [.sl .byte, .v .int] x):spec_DiceAt.raw x.1 x.2=some (diceAt x.1 x.2):=spec_DiceAt_raw x.1 x.2
end Go.D
