/-
 The data of the program as plain structures; values of the plain semantics; their encoding as flat cells.
-/
import GoSem.Core.Value
import Derived.Calls
import Derived.WalkKit
import GoSem.ClaimData
set_option linter.all false
namespace Go.D
structure Ah where
 Host:Int
 Port:Int
structure Bc where
 Kind:Int
 I:Int
 J:Int
 B:(List UInt8)
structure Ao where
 Kind:Int
 I:Int
 J:Int
 N:Int
 B:(List UInt8)
 Ops:(List Bc)
structure Ba where
 Secret:(List UInt8)
structure Au where
 Seed:(List UInt8)
 N:Int
structure Aq where
 Top:Int
 Bits:(List Int)
structure Ax where
 N:Int
 Key:(List UInt8)
 Seq:Int
 Win:Aq
structure Ak where
 Role:Int
 Sn:(List UInt8)
 Cur:Ax
 Old:Ax
 HasOld:Bool
 Until:Int
 Next:(List UInt8)
structure Az where
 A:Ah
 Draw:(List UInt8)
 Until:Int
structure Aj where
 At:Ah
 Cands:(List Az)
structure Ai where
 Id:Int
 Cn:(List UInt8)
 Sn:(List UInt8)
 C:Ak
 P:Aj
 Tick:Int
 Last:Int
 Dead:Bool
structure Ap where
 Cap:Int
 L:(List Ai)
structure Al where
 A:Ah
 Got:Int
 Sent:Int
structure Ac where
 Psks:(List (List UInt8))
 J:Ba
 D:Au
 T:Ap
 Cr:(List Al)
structure Ab where
 Kind:Int
 Id:Int
 Cn:(List UInt8)
 Sn:(List UInt8)
 Tick:Int
 Cookie:(List UInt8)
 Proof:(List UInt8)
 Epoch:Int
 Seq:Int
 Body:(List UInt8)
 Tag:(List UInt8)
structure Aw where
 On:Bool
 Due:Int
 Wait:Int
 Tries:Int
structure Ad where
 Id:Int
 Psk:(List UInt8)
 At:Ah
 St:Int
 Cn:(List UInt8)
 Fin:Ab
 C:Ak
 T:Aw
 R:Aw
 Last:Int
structure Am where
 From:Ah
 To:Ah
 B:(List UInt8)
structure Ae where
 Kind:Int
 Id:Int
 Role:Int
 Cn:(List UInt8)
 Sn:(List UInt8)
 Epoch:Int
 Seq:Int
 Body:(List UInt8)
 Key:(List UInt8)
 A:Ah
 Now:Int
structure Aa where
 Now:Int
 Clients:(List Ad)
 S:Ac
 D:Au
 Seen:(List Am)
 Known:(List (List UInt8))
 Notes:(List Ae)
structure Af where
 b:(List UInt8)
 i:Int
 h:Int
structure Av where
 To:Ah
 F:Ab
structure Kb where
 kind:Int
 words:(List UInt8)
structure Be where
 H:(List Int)
 Held:(List UInt8)
 N:Int
end Go.D
namespace Go.D
inductive TN where
 | byte | int | bool | str | bs | Addr | Op | Event | Jar | Dice | Win | Ep | Chan | Cand | Paths | Sess | Tab | Credit | Server | Frame | Timer | Client | Wire | Note | World | Cur | Out | Form | Hash
 deriving DecidableEq
@[reducible] def El:TN→Type
 | .byte=>UInt8 | .int=>Int | .bool=>Bool | .str=>List UInt8 | .bs=>List UInt8
 | .Addr=>Ah | .Op=>Bc | .Event=>Ao | .Jar=>Ba | .Dice=>Au | .Win=>Aq | .Ep=>Ax | .Chan=>Ak | .Cand=>Az | .Paths=>Aj | .Sess=>Ai | .Tab=>Ap | .Credit=>Al | .Server=>Ac | .Frame=>Ab | .Timer=>Aw | .Client=>Ad | .Wire=>Am | .Note=>Ae | .World=>Aa | .Cur=>Af | .Out=>Av | .Form=>Kb | .Hash=>Be
inductive V where
 | undef
 | bool (b:Bool)
 | int (k:IntKind) (n:Int)
 | str (s:List UInt8)
 | nil
 | sl (t:TN) (l:List (El t))
 | ow (r:Nat)
 | ov (r:Nat) (t:TN) (off len:Nat)
 | bp (r off:Nat)
 | ep (r:Nat) (t:TN) (i off:Nat)
 | fp (cs:List V) (off:Nat)
 | fn (f:Nat) (cs:List V)
 | agg (cs:List V)
 | tup (vs:List V)
 | nili
 | ifc (b:Bool)
def zdj(a:Ah):List V:=[.int .i64 a.Host, .int .i64 a.Port]
def zhh(a:Bc):List V:=[.int .i64 a.Kind, .int .i64 a.I, .int .i64 a.J, .sl .byte a.B]
def zgm(a:Ao):List V:=[.int .i64 a.Kind, .int .i64 a.I, .int .i64 a.J, .int .i64 a.N, .sl .byte a.B, .sl .Op a.Ops]
def zg6(a:Ba):List V:=[.sl .byte a.Secret]
def zgU(a:Au):List V:=[.sl .byte a.Seed, .int .i64 a.N]
def zg3(a:Aq):List V:=[.int .i64 a.Top, .sl .int a.Bits]
def zhg(a:Ax):List V:=[.int .i64 a.N, .sl .byte a.Key, .int .i64 a.Seq, .int .i64 a.Win.Top, .sl .int a.Win.Bits]
def zgF(a:Ak):List V:=[.int .i64 a.Role, .sl .byte a.Sn, .int .i64 a.Cur.N, .sl .byte a.Cur.Key, .int .i64 a.Cur.Seq, .int .i64 a.Cur.Win.Top, .sl .int a.Cur.Win.Bits, .int .i64 a.Old.N, .sl .byte a.Old.Key, .int .i64 a.Old.Seq, .int .i64 a.Old.Win.Top, .sl .int a.Old.Win.Bits, .bool a.HasOld, .int .i64 a.Until, .sl .byte a.Next]
def zgC(a:Az):List V:=[.int .i64 a.A.Host, .int .i64 a.A.Port, .sl .byte a.Draw, .int .i64 a.Until]
def zge(a:Aj):List V:=[.int .i64 a.At.Host, .int .i64 a.At.Port, .sl .Cand a.Cands]
def zgH(a:Ai):List V:=[.int .i64 a.Id, .sl .byte a.Cn, .sl .byte a.Sn, .int .i64 a.C.Role, .sl .byte a.C.Sn, .int .i64 a.C.Cur.N, .sl .byte a.C.Cur.Key, .int .i64 a.C.Cur.Seq, .int .i64 a.C.Cur.Win.Top, .sl .int a.C.Cur.Win.Bits, .int .i64 a.C.Old.N, .sl .byte a.C.Old.Key, .int .i64 a.C.Old.Seq, .int .i64 a.C.Old.Win.Top, .sl .int a.C.Old.Win.Bits, .bool a.C.HasOld, .int .i64 a.C.Until, .sl .byte a.C.Next, .int .i64 a.P.At.Host, .int .i64 a.P.At.Port, .sl .Cand a.P.Cands, .int .i64 a.Tick, .int .i64 a.Last, .bool a.Dead]
def zg5(a:Ap):List V:=[.int .i64 a.Cap, .sl .Sess a.L]
def zcI(a:Al):List V:=[.int .i64 a.A.Host, .int .i64 a.A.Port, .int .i64 a.Got, .int .i64 a.Sent]
def zf4(a:Ac):List V:=[.sl .bs a.Psks, .sl .byte a.J.Secret, .sl .byte a.D.Seed, .int .i64 a.D.N, .int .i64 a.T.Cap, .sl .Sess a.T.L, .sl .Credit a.Cr]
def zgf(a:Ab):List V:=[.int .i64 a.Kind, .int .i64 a.Id, .sl .byte a.Cn, .sl .byte a.Sn, .int .i64 a.Tick, .sl .byte a.Cookie, .sl .byte a.Proof, .int .i64 a.Epoch, .int .i64 a.Seq, .sl .byte a.Body, .sl .byte a.Tag]
def zc8(a:Aw):List V:=[.bool a.On, .int .i64 a.Due, .int .i64 a.Wait, .int .i64 a.Tries]
def zf3(a:Ad):List V:=[.int .i64 a.Id, .sl .byte a.Psk, .int .i64 a.At.Host, .int .i64 a.At.Port, .int .i64 a.St, .sl .byte a.Cn, .int .i64 a.Fin.Kind, .int .i64 a.Fin.Id, .sl .byte a.Fin.Cn, .sl .byte a.Fin.Sn, .int .i64 a.Fin.Tick, .sl .byte a.Fin.Cookie, .sl .byte a.Fin.Proof, .int .i64 a.Fin.Epoch, .int .i64 a.Fin.Seq, .sl .byte a.Fin.Body, .sl .byte a.Fin.Tag, .int .i64 a.C.Role, .sl .byte a.C.Sn, .int .i64 a.C.Cur.N, .sl .byte a.C.Cur.Key, .int .i64 a.C.Cur.Seq, .int .i64 a.C.Cur.Win.Top, .sl .int a.C.Cur.Win.Bits, .int .i64 a.C.Old.N, .sl .byte a.C.Old.Key, .int .i64 a.C.Old.Seq, .int .i64 a.C.Old.Win.Top, .sl .int a.C.Old.Win.Bits, .bool a.C.HasOld, .int .i64 a.C.Until, .sl .byte a.C.Next, .bool a.T.On, .int .i64 a.T.Due, .int .i64 a.T.Wait, .int .i64 a.T.Tries, .bool a.R.On, .int .i64 a.R.Due, .int .i64 a.R.Wait, .int .i64 a.R.Tries, .int .i64 a.Last]
def zgy(a:Am):List V:=[.int .i64 a.From.Host, .int .i64 a.From.Port, .int .i64 a.To.Host, .int .i64 a.To.Port, .sl .byte a.B]
def zgN(a:Ae):List V:=[.int .i64 a.Kind, .int .i64 a.Id, .int .i64 a.Role, .sl .byte a.Cn, .sl .byte a.Sn, .int .i64 a.Epoch, .int .i64 a.Seq, .sl .byte a.Body, .sl .byte a.Key, .int .i64 a.A.Host, .int .i64 a.A.Port, .int .i64 a.Now]
def zf8(a:Aa):List V:=[.int .i64 a.Now, .sl .Client a.Clients, .sl .bs a.S.Psks, .sl .byte a.S.J.Secret, .sl .byte a.S.D.Seed, .int .i64 a.S.D.N, .int .i64 a.S.T.Cap, .sl .Sess a.S.T.L, .sl .Credit a.S.Cr, .sl .byte a.D.Seed, .int .i64 a.D.N, .sl .Wire a.Seen, .sl .bs a.Known, .sl .Note a.Notes]
def zg2(a:Af):List V:=[.sl .byte a.b, .int .i64 a.i, .int .i64 a.h]
def zhb(a:Av):List V:=[.int .i64 a.To.Host, .int .i64 a.To.Port, .int .i64 a.F.Kind, .int .i64 a.F.Id, .sl .byte a.F.Cn, .sl .byte a.F.Sn, .int .i64 a.F.Tick, .sl .byte a.F.Cookie, .sl .byte a.F.Proof, .int .i64 a.F.Epoch, .int .i64 a.F.Seq, .sl .byte a.F.Body, .sl .byte a.F.Tag]
def zdg(a:Kb):List V:=[.int .i64 a.kind, .str a.words]
def zgA(a:Be):List V:=[.sl .int a.H, .sl .byte a.Held, .int .i64 a.N]
def enc:(t:TN)→El t→List V
 | .byte,b=>[.int .u8 (b.toNat:Int)]
 | .int,n=>[.int .i64 n]
 | .bool,b=>[.bool b]
 | .str,s=>[.str s]
 | .bs,l=>[.sl .byte l]
 | .Addr,a=>zdj a
 | .Op,a=>zhh a
 | .Event,a=>zgm a
 | .Jar,a=>zg6 a
 | .Dice,a=>zgU a
 | .Win,a=>zg3 a
 | .Ep,a=>zhg a
 | .Chan,a=>zgF a
 | .Cand,a=>zgC a
 | .Paths,a=>zge a
 | .Sess,a=>zgH a
 | .Tab,a=>zg5 a
 | .Credit,a=>zcI a
 | .Server,a=>zf4 a
 | .Frame,a=>zgf a
 | .Timer,a=>zc8 a
 | .Client,a=>zf3 a
 | .Wire,a=>zgy a
 | .Note,a=>zgN a
 | .World,a=>zf8 a
 | .Cur,a=>zg2 a
 | .Out,a=>zhb a
 | .Form,a=>zdg a
 | .Hash,a=>zgA a
def sz:TN→Nat
 | .byte=>1 | .int=>1 | .bool=>1 | .str=>1 | .bs=>1
 | .Addr=>2 | .Op=>4 | .Event=>6 | .Jar=>1 | .Dice=>2 | .Win=>2 | .Ep=>5 | .Chan=>15 | .Cand=>4 | .Paths=>3 | .Sess=>24 | .Tab=>2 | .Credit=>4 | .Server=>7 | .Frame=>11 | .Timer=>4 | .Client=>41 | .Wire=>5 | .Note=>12 | .World=>14 | .Cur=>3 | .Out=>13 | .Form=>2 | .Hash=>3
def HA:V→Option Int | .int .i64 n=>some n | _=>none
def uT:V→Option UInt8 | .int .u8 n=>some (UInt8.ofNat n.toNat) | _=>none
def WH:V→Option Bool | .bool b=>some b | _=>none
def aP:V→Option (List UInt8) | .str s=>some s | _=>none
def TN.cast{s t:TN}(h:s=t)(l:List (El s)):List (El t):=h▸l
def WA(t:TN):V→Option (List (El t))
 | .sl s l=>if h:s=t then some (TN.cast h l)else none
 | .nil=>some []
 | _=>none
def tk{α β:Type}(p:V→Option α)(cs:List V)(k:α→List V→Option β):Option β:=
 match cs with
 | c :: cs=>(p c).bind λa=>k a cs
 | []=>none
def cC{β:Type}(cs:List V)(r:β):Option β:=
 match cs with
 | []=>some r
 | _=>none
def zdw(cs:List V):Option Ah:=
 tk HA cs λf0 cs=>
 tk HA cs λf1 cs=>
 cC cs (⟨f0,f1⟩:Ah)
def zea(cs:List V):Option Bc:=
 tk HA cs λf0 cs=>
 tk HA cs λf1 cs=>
 tk HA cs λf2 cs=>
 tk (WA .byte) cs λf3 cs=>
 cC cs (⟨f0,f1,f2,f3⟩:Bc)
def zde(cs:List V):Option Ao:=
 tk HA cs λf0 cs=>
 tk HA cs λf1 cs=>
 tk HA cs λf2 cs=>
 tk HA cs λf3 cs=>
 tk (WA .byte) cs λf4 cs=>
 tk (WA .Op) cs λf5 cs=>
 cC cs (⟨f0,f1,f2,f3,f4,f5⟩:Ao)
def zdY(cs:List V):Option Ba:=
 tk (WA .byte) cs λf0 cs=>
 cC cs (⟨f0⟩:Ba)
def zdB(cs:List V):Option Au:=
 tk (WA .byte) cs λf0 cs=>
 tk HA cs λf1 cs=>
 cC cs (⟨f0,f1⟩:Au)
def zdM(cs:List V):Option Aq:=
 tk HA cs λf0 cs=>
 tk (WA .int) cs λf1 cs=>
 cC cs (⟨f0,f1⟩:Aq)
def zd7(cs:List V):Option Ax:=
 tk HA cs λf0 cs=>
 tk (WA .byte) cs λf1 cs=>
 tk HA cs λf2 cs=>
 tk HA cs λf3 cs=>
 tk (WA .int) cs λf4 cs=>
 cC cs (⟨f0,f1,f2,⟨f3,f4⟩⟩:Ax)
def zdF(cs:List V):Option Ak:=
 tk HA cs λf0 cs=>
 tk (WA .byte) cs λf1 cs=>
 tk HA cs λf2 cs=>
 tk (WA .byte) cs λf3 cs=>
 tk HA cs λf4 cs=>
 tk HA cs λf5 cs=>
 tk (WA .int) cs λf6 cs=>
 tk HA cs λf7 cs=>
 tk (WA .byte) cs λf8 cs=>
 tk HA cs λf9 cs=>
 tk HA cs λf10 cs=>
 tk (WA .int) cs λf11 cs=>
 tk WH cs λf12 cs=>
 tk HA cs λf13 cs=>
 tk (WA .byte) cs λf14 cs=>
 cC cs (⟨f0,f1,⟨f2,f3,f4,⟨f5,f6⟩⟩,⟨f7,f8,f9,⟨f10,f11⟩⟩,f12,f13,f14⟩:Ak)
def zdq(cs:List V):Option Az:=
 tk HA cs λf0 cs=>
 tk HA cs λf1 cs=>
 tk (WA .byte) cs λf2 cs=>
 tk HA cs λf3 cs=>
 cC cs (⟨⟨f0,f1⟩,f2,f3⟩:Az)
def zcQ(cs:List V):Option Aj:=
 tk HA cs λf0 cs=>
 tk HA cs λf1 cs=>
 tk (WA .Cand) cs λf2 cs=>
 cC cs (⟨⟨f0,f1⟩,f2⟩:Aj)
def zdH(cs:List V):Option Ai:=
 tk HA cs λf0 cs=>
 tk (WA .byte) cs λf1 cs=>
 tk (WA .byte) cs λf2 cs=>
 tk HA cs λf3 cs=>
 tk (WA .byte) cs λf4 cs=>
 tk HA cs λf5 cs=>
 tk (WA .byte) cs λf6 cs=>
 tk HA cs λf7 cs=>
 tk HA cs λf8 cs=>
 tk (WA .int) cs λf9 cs=>
 tk HA cs λf10 cs=>
 tk (WA .byte) cs λf11 cs=>
 tk HA cs λf12 cs=>
 tk HA cs λf13 cs=>
 tk (WA .int) cs λf14 cs=>
 tk WH cs λf15 cs=>
 tk HA cs λf16 cs=>
 tk (WA .byte) cs λf17 cs=>
 tk HA cs λf18 cs=>
 tk HA cs λf19 cs=>
 tk (WA .Cand) cs λf20 cs=>
 tk HA cs λf21 cs=>
 tk HA cs λf22 cs=>
 tk WH cs λf23 cs=>
 cC cs (⟨f0,f1,f2,⟨f3,f4,⟨f5,f6,f7,⟨f8,f9⟩⟩,⟨f10,f11,f12,⟨f13,f14⟩⟩,f15,f16,f17⟩,⟨⟨f18,f19⟩,f20⟩,f21,f22,f23⟩:Ai)
def zdS(cs:List V):Option Ap:=
 tk HA cs λf0 cs=>
 tk (WA .Sess) cs λf1 cs=>
 cC cs (⟨f0,f1⟩:Ap)
def zcC(cs:List V):Option Al:=
 tk HA cs λf0 cs=>
 tk HA cs λf1 cs=>
 tk HA cs λf2 cs=>
 tk HA cs λf3 cs=>
 cC cs (⟨⟨f0,f1⟩,f2,f3⟩:Al)
def zcy(cs:List V):Option Ac:=
 tk (WA .bs) cs λf0 cs=>
 tk (WA .byte) cs λf1 cs=>
 tk (WA .byte) cs λf2 cs=>
 tk HA cs λf3 cs=>
 tk HA cs λf4 cs=>
 tk (WA .Sess) cs λf5 cs=>
 tk (WA .Credit) cs λf6 cs=>
 cC cs (⟨f0,⟨f1⟩,⟨f2,f3⟩,⟨f4,f5⟩,f6⟩:Ac)
def zc4(cs:List V):Option Ab:=
 tk HA cs λf0 cs=>
 tk HA cs λf1 cs=>
 tk (WA .byte) cs λf2 cs=>
 tk (WA .byte) cs λf3 cs=>
 tk HA cs λf4 cs=>
 tk (WA .byte) cs λf5 cs=>
 tk (WA .byte) cs λf6 cs=>
 tk HA cs λf7 cs=>
 tk HA cs λf8 cs=>
 tk (WA .byte) cs λf9 cs=>
 tk (WA .byte) cs λf10 cs=>
 cC cs (⟨f0,f1,f2,f3,f4,f5,f6,f7,f8,f9,f10⟩:Ab)
def zc7(cs:List V):Option Aw:=
 tk WH cs λf0 cs=>
 tk HA cs λf1 cs=>
 tk HA cs λf2 cs=>
 tk HA cs λf3 cs=>
 cC cs (⟨f0,f1,f2,f3⟩:Aw)
def zcx(cs:List V):Option Ad:=
 tk HA cs λf0 cs=>
 tk (WA .byte) cs λf1 cs=>
 tk HA cs λf2 cs=>
 tk HA cs λf3 cs=>
 tk HA cs λf4 cs=>
 tk (WA .byte) cs λf5 cs=>
 tk HA cs λf6 cs=>
 tk HA cs λf7 cs=>
 tk (WA .byte) cs λf8 cs=>
 tk (WA .byte) cs λf9 cs=>
 tk HA cs λf10 cs=>
 tk (WA .byte) cs λf11 cs=>
 tk (WA .byte) cs λf12 cs=>
 tk HA cs λf13 cs=>
 tk HA cs λf14 cs=>
 tk (WA .byte) cs λf15 cs=>
 tk (WA .byte) cs λf16 cs=>
 tk HA cs λf17 cs=>
 tk (WA .byte) cs λf18 cs=>
 tk HA cs λf19 cs=>
 tk (WA .byte) cs λf20 cs=>
 tk HA cs λf21 cs=>
 tk HA cs λf22 cs=>
 tk (WA .int) cs λf23 cs=>
 tk HA cs λf24 cs=>
 tk (WA .byte) cs λf25 cs=>
 tk HA cs λf26 cs=>
 tk HA cs λf27 cs=>
 tk (WA .int) cs λf28 cs=>
 tk WH cs λf29 cs=>
 tk HA cs λf30 cs=>
 tk (WA .byte) cs λf31 cs=>
 tk WH cs λf32 cs=>
 tk HA cs λf33 cs=>
 tk HA cs λf34 cs=>
 tk HA cs λf35 cs=>
 tk WH cs λf36 cs=>
 tk HA cs λf37 cs=>
 tk HA cs λf38 cs=>
 tk HA cs λf39 cs=>
 tk HA cs λf40 cs=>
 cC cs (⟨f0,f1,⟨f2,f3⟩,f4,f5,⟨f6,f7,f8,f9,f10,f11,f12,f13,f14,f15,f16⟩,⟨f17,f18,⟨f19,f20,f21,⟨f22,f23⟩⟩,⟨f24,f25,f26,⟨f27,f28⟩⟩,f29,f30,f31⟩,⟨f32,f33,f34,f35⟩,⟨f36,f37,f38,f39⟩,f40⟩:Ad)
def zdC(cs:List V):Option Am:=
 tk HA cs λf0 cs=>
 tk HA cs λf1 cs=>
 tk HA cs λf2 cs=>
 tk HA cs λf3 cs=>
 tk (WA .byte) cs λf4 cs=>
 cC cs (⟨⟨f0,f1⟩,⟨f2,f3⟩,f4⟩:Am)
def zdm(cs:List V):Option Ae:=
 tk HA cs λf0 cs=>
 tk HA cs λf1 cs=>
 tk HA cs λf2 cs=>
 tk (WA .byte) cs λf3 cs=>
 tk (WA .byte) cs λf4 cs=>
 tk HA cs λf5 cs=>
 tk HA cs λf6 cs=>
 tk (WA .byte) cs λf7 cs=>
 tk (WA .byte) cs λf8 cs=>
 tk HA cs λf9 cs=>
 tk HA cs λf10 cs=>
 tk HA cs λf11 cs=>
 cC cs (⟨f0,f1,f2,f3,f4,f5,f6,f7,f8,⟨f9,f10⟩,f11⟩:Ae)
def zcS(cs:List V):Option Aa:=
 tk HA cs λf0 cs=>
 tk (WA .Client) cs λf1 cs=>
 tk (WA .bs) cs λf2 cs=>
 tk (WA .byte) cs λf3 cs=>
 tk (WA .byte) cs λf4 cs=>
 tk HA cs λf5 cs=>
 tk HA cs λf6 cs=>
 tk (WA .Sess) cs λf7 cs=>
 tk (WA .Credit) cs λf8 cs=>
 tk (WA .byte) cs λf9 cs=>
 tk HA cs λf10 cs=>
 tk (WA .Wire) cs λf11 cs=>
 tk (WA .bs) cs λf12 cs=>
 tk (WA .Note) cs λf13 cs=>
 cC cs (⟨f0,f1,⟨f2,⟨f3⟩,⟨f4,f5⟩,⟨f6,f7⟩,f8⟩,⟨f9,f10⟩,f11,f12,f13⟩:Aa)
def zd0(cs:List V):Option Af:=
 tk (WA .byte) cs λf0 cs=>
 tk HA cs λf1 cs=>
 tk HA cs λf2 cs=>
 cC cs (⟨f0,f1,f2⟩:Af)
def zdU(cs:List V):Option Av:=
 tk HA cs λf0 cs=>
 tk HA cs λf1 cs=>
 tk HA cs λf2 cs=>
 tk HA cs λf3 cs=>
 tk (WA .byte) cs λf4 cs=>
 tk (WA .byte) cs λf5 cs=>
 tk HA cs λf6 cs=>
 tk (WA .byte) cs λf7 cs=>
 tk (WA .byte) cs λf8 cs=>
 tk HA cs λf9 cs=>
 tk HA cs λf10 cs=>
 tk (WA .byte) cs λf11 cs=>
 tk (WA .byte) cs λf12 cs=>
 cC cs (⟨⟨f0,f1⟩,⟨f2,f3,f4,f5,f6,f7,f8,f9,f10,f11,f12⟩⟩:Av)
def zdu(cs:List V):Option Kb:=
 tk HA cs λf0 cs=>
 tk aP cs λf1 cs=>
 cC cs (⟨f0,f1⟩:Kb)
def zdJ(cs:List V):Option Be:=
 tk (WA .int) cs λf0 cs=>
 tk (WA .byte) cs λf1 cs=>
 tk HA cs λf2 cs=>
 cC cs (⟨f0,f1,f2⟩:Be)
def lF:(t:TN)→List V→Option (El t)
 | .byte,cs=>tk uT cs λb cs=>cC cs b
 | .int,cs=>tk HA cs λn cs=>cC cs n
 | .bool,cs=>tk WH cs λb cs=>cC cs b
 | .str,cs=>tk aP cs λs cs=>cC cs s
 | .bs,cs=>tk (WA .byte) cs λl cs=>cC cs l
 | .Addr,cs=>zdw cs
 | .Op,cs=>zea cs
 | .Event,cs=>zde cs
 | .Jar,cs=>zdY cs
 | .Dice,cs=>zdB cs
 | .Win,cs=>zdM cs
 | .Ep,cs=>zd7 cs
 | .Chan,cs=>zdF cs
 | .Cand,cs=>zdq cs
 | .Paths,cs=>zcQ cs
 | .Sess,cs=>zdH cs
 | .Tab,cs=>zdS cs
 | .Credit,cs=>zcC cs
 | .Server,cs=>zcy cs
 | .Frame,cs=>zc4 cs
 | .Timer,cs=>zc7 cs
 | .Client,cs=>zcx cs
 | .Wire,cs=>zdC cs
 | .Note,cs=>zdm cs
 | .World,cs=>zcS cs
 | .Cur,cs=>zd0 cs
 | .Out,cs=>zdU cs
 | .Form,cs=>zdu cs
 | .Hash,cs=>zdJ cs
inductive XH:V→V→Prop where
 | refl (c:V):XH c c
 | byte (n:Int):XH (.int .u8 n) (.int .u8 ((UInt8.ofNat n.toNat).toNat:Int))
 | nil (t:TN):XH .nil (.sl t [])
inductive aC:List V→List V→Prop where
 | nil:aC [] []
 | cons {c d:V} {cs ds:List V}:XH c d→aC cs ds→aC (c :: cs) (d :: ds)
def KA{c:V}{n:Int}(h:HA c=some n):XH c (.int .i64 n):=by
 cases c<;>simp[HA]at h
 rename_i k m;cases k<;>simp at h;subst h;exact .refl _
def zuw{c:V}{b:UInt8}(h:uT c=some b):XH c (.int .u8 (b.toNat:Int)):=by
 cases c<;>simp[uT]at h
 rename_i k m;cases k<;>simp at h;subst h;exact .byte _
def SM{c:V}{b:Bool}(h:WH c=some b):XH c (.bool b):=by
 cases c<;>simp[WH]at h;subst h;exact .refl _
def zlD{c:V}{b:List UInt8}(h:aP c=some b):XH c (.str b):=by
 cases c<;>simp[aP]at h;subst h;exact .refl _
def YA{t:TN}{c:V}{l:List (El t)}(h:WA t c=some l):XH c (.sl t l):=by
 cases c<;>simp[WA]at h
 ·subst h;exact .nil t
 ·obtain⟨rfl,h⟩:=h;simp[TN.cast]at h;subst h;exact .refl _
def wA{α β:Type}{p:V→Option α}{cs:List V}{k:α→List V→Option β}{r:β}(h:tk p cs k=some r):
  ∃c cs' a,cs=c :: cs'∧p c=some a∧k a cs'=some r:=by
 cases cs with
 | nil=>simp[tk]at h
 | cons c cs=>simp only[tk,Option.bind_eq_some_iff]at h;obtain⟨a,h1,h2⟩:=h;exact⟨c,cs,a,rfl,h1,h2⟩
def HD{β:Type}{cs:List V}{r s:β}(h:cC cs r=some s):cs=[]∧r=s:=by
 cases cs<;>simp[cC]at h;exact⟨rfl,h⟩
def zsj{cs:List V}{a:Ah}(h:zdw cs=some a):aC cs (zdj a):=by
 unfold zdw at h;obtain⟨c0,cs,f0,rfl,h0,h⟩:=wA h;obtain⟨c1,cs,f1,rfl,h1,h⟩:=wA h;obtain⟨rfl,rfl⟩:=HD h;exact .cons (KA h0) (.cons (KA h1) (.nil))
def ztu{cs:List V}{a:Bc}(h:zea cs=some a):aC cs (zhh a):=by
 unfold zea at h;obtain⟨c0,cs,f0,rfl,h0,h⟩:=wA h;obtain⟨c1,cs,f1,rfl,h1,h⟩:=wA h;obtain⟨c2,cs,f2,rfl,h2,h⟩:=wA h;obtain⟨c3,cs,f3,rfl,h3,h⟩:=wA h;obtain⟨rfl,rfl⟩:=HD h;exact .cons (KA h0) (.cons (KA h1) (.cons (KA h2) (.cons (YA h3) (.nil))))
def zrM{cs:List V}{a:Ao}(h:zde cs=some a):aC cs (zgm a):=by
 unfold zde at h;obtain⟨c0,cs,f0,rfl,h0,h⟩:=wA h;obtain⟨c1,cs,f1,rfl,h1,h⟩:=wA h;obtain⟨c2,cs,f2,rfl,h2,h⟩:=wA h;obtain⟨c3,cs,f3,rfl,h3,h⟩:=wA h;obtain⟨c4,cs,f4,rfl,h4,h⟩:=wA h;obtain⟨c5,cs,f5,rfl,h5,h⟩:=wA h;obtain⟨rfl,rfl⟩:=HD h;exact .cons (KA h0) (.cons (KA h1) (.cons (KA h2) (.cons (KA h3) (.cons (YA h4) (.cons (YA h5) (.nil))))))
def zsT{cs:List V}{a:Ba}(h:zdY cs=some a):aC cs (zg6 a):=by
 unfold zdY at h;obtain⟨c0,cs,f0,rfl,h0,h⟩:=wA h;obtain⟨rfl,rfl⟩:=HD h;exact .cons (YA h0) (.nil)
def zsu{cs:List V}{a:Au}(h:zdB cs=some a):aC cs (zgU a):=by
 unfold zdB at h;obtain⟨c0,cs,f0,rfl,h0,h⟩:=wA h;obtain⟨c1,cs,f1,rfl,h1,h⟩:=wA h;obtain⟨rfl,rfl⟩:=HD h;exact .cons (YA h0) (.cons (KA h1) (.nil))
def zsI{cs:List V}{a:Aq}(h:zdM cs=some a):aC cs (zg3 a):=by
 unfold zdM at h;obtain⟨c0,cs,f0,rfl,h0,h⟩:=wA h;obtain⟨c1,cs,f1,rfl,h1,h⟩:=wA h;obtain⟨rfl,rfl⟩:=HD h;exact .cons (KA h0) (.cons (YA h1) (.nil))
def ztL{cs:List V}{a:Ax}(h:zd7 cs=some a):aC cs (zhg a):=by
 unfold zd7 at h;obtain⟨c0,cs,f0,rfl,h0,h⟩:=wA h;obtain⟨c1,cs,f1,rfl,h1,h⟩:=wA h;obtain⟨c2,cs,f2,rfl,h2,h⟩:=wA h;obtain⟨c3,cs,f3,rfl,h3,h⟩:=wA h;obtain⟨c4,cs,f4,rfl,h4,h⟩:=wA h;obtain⟨rfl,rfl⟩:=HD h;exact .cons (KA h0) (.cons (YA h1) (.cons (KA h2) (.cons (KA h3) (.cons (YA h4) (.nil)))))
def zsl{cs:List V}{a:Ak}(h:zdF cs=some a):aC cs (zgF a):=by
 unfold zdF at h;obtain⟨c0,cs,f0,rfl,h0,h⟩:=wA h;obtain⟨c1,cs,f1,rfl,h1,h⟩:=wA h;obtain⟨c2,cs,f2,rfl,h2,h⟩:=wA h;obtain⟨c3,cs,f3,rfl,h3,h⟩:=wA h;obtain⟨c4,cs,f4,rfl,h4,h⟩:=wA h;obtain⟨c5,cs,f5,rfl,h5,h⟩:=wA h;obtain⟨c6,cs,f6,rfl,h6,h⟩:=wA h;obtain⟨c7,cs,f7,rfl,h7,h⟩:=wA h;obtain⟨c8,cs,f8,rfl,h8,h⟩:=wA h;obtain⟨c9,cs,f9,rfl,h9,h⟩:=wA h;obtain⟨CG,cs,f10,rfl,vW,h⟩:=wA h;obtain⟨lG,cs,f11,rfl,LW,h⟩:=wA h;obtain⟨GT,cs,f12,rfl,ZW,h⟩:=wA h;obtain⟨c13,cs,f13,rfl,rX,h⟩:=wA h;obtain⟨bP,cs,f14,rfl,LY,h⟩:=wA h;obtain⟨rfl,rfl⟩:=HD h;exact .cons (KA h0) (.cons (YA h1) (.cons (KA h2) (.cons (YA h3) (.cons (KA h4) (.cons (KA h5) (.cons (YA h6) (.cons (KA h7) (.cons (YA h8) (.cons (KA h9) (.cons (KA vW) (.cons (YA LW) (.cons (SM ZW) (.cons (KA rX) (.cons (YA LY) (.nil)))))))))))))))
def zr2{cs:List V}{a:Az}(h:zdq cs=some a):aC cs (zgC a):=by
 unfold zdq at h;obtain⟨c0,cs,f0,rfl,h0,h⟩:=wA h;obtain⟨c1,cs,f1,rfl,h1,h⟩:=wA h;obtain⟨c2,cs,f2,rfl,h2,h⟩:=wA h;obtain⟨c3,cs,f3,rfl,h3,h⟩:=wA h;obtain⟨rfl,rfl⟩:=HD h;exact .cons (KA h0) (.cons (KA h1) (.cons (YA h2) (.cons (KA h3) (.nil))))
def zrv{cs:List V}{a:Aj}(h:zcQ cs=some a):aC cs (zge a):=by
 unfold zcQ at h;obtain⟨c0,cs,f0,rfl,h0,h⟩:=wA h;obtain⟨c1,cs,f1,rfl,h1,h⟩:=wA h;obtain⟨c2,cs,f2,rfl,h2,h⟩:=wA h;obtain⟨rfl,rfl⟩:=HD h;exact .cons (KA h0) (.cons (KA h1) (.cons (YA h2) (.nil)))
def zr1{cs:List V}{a:Ai}(h:zdH cs=some a):aC cs (zgH a):=by
 unfold zdH at h;obtain⟨c0,cs,f0,rfl,h0,h⟩:=wA h;obtain⟨c1,cs,f1,rfl,h1,h⟩:=wA h;obtain⟨c2,cs,f2,rfl,h2,h⟩:=wA h;obtain⟨c3,cs,f3,rfl,h3,h⟩:=wA h;obtain⟨c4,cs,f4,rfl,h4,h⟩:=wA h;obtain⟨c5,cs,f5,rfl,h5,h⟩:=wA h;obtain⟨c6,cs,f6,rfl,h6,h⟩:=wA h;obtain⟨c7,cs,f7,rfl,h7,h⟩:=wA h;obtain⟨c8,cs,f8,rfl,h8,h⟩:=wA h;obtain⟨c9,cs,f9,rfl,h9,h⟩:=wA h;obtain⟨CG,cs,f10,rfl,vW,h⟩:=wA h;obtain⟨lG,cs,f11,rfl,LW,h⟩:=wA h;obtain⟨GT,cs,f12,rfl,ZW,h⟩:=wA h;obtain⟨c13,cs,f13,rfl,rX,h⟩:=wA h;obtain⟨bP,cs,f14,rfl,LY,h⟩:=wA h;obtain⟨c15,cs,f15,rfl,MY,h⟩:=wA h;obtain⟨jG,cs,f16,rfl,RY,h⟩:=wA h;obtain⟨c17,cs,f17,rfl,DZ,h⟩:=wA h;obtain⟨c18,cs,f18,rfl,S1,h⟩:=wA h;obtain⟨c19,cs,f19,rfl,TZ,h⟩:=wA h;obtain⟨c20,cs,f20,rfl,UZ,h⟩:=wA h;obtain⟨c21,cs,f21,rfl,A2,h⟩:=wA h;obtain⟨c22,cs,f22,rfl,C2,h⟩:=wA h;obtain⟨c23,cs,f23,rfl,L0,h⟩:=wA h;obtain⟨rfl,rfl⟩:=HD h;exact .cons (KA h0) (.cons (YA h1) (.cons (YA h2) (.cons (KA h3) (.cons (YA h4) (.cons (KA h5) (.cons (YA h6) (.cons (KA h7) (.cons (KA h8) (.cons (YA h9) (.cons (KA vW) (.cons (YA LW) (.cons (KA ZW) (.cons (KA rX) (.cons (YA LY) (.cons (SM MY) (.cons (KA RY) (.cons (YA DZ) (.cons (KA S1) (.cons (KA TZ) (.cons (YA UZ) (.cons (KA A2) (.cons (KA C2) (.cons (SM L0) (.nil))))))))))))))))))))))))
def zs5{cs:List V}{a:Ap}(h:zdS cs=some a):aC cs (zg5 a):=by
 unfold zdS at h;obtain⟨c0,cs,f0,rfl,h0,h⟩:=wA h;obtain⟨c1,cs,f1,rfl,h1,h⟩:=wA h;obtain⟨rfl,rfl⟩:=HD h;exact .cons (KA h0) (.cons (YA h1) (.nil))
def zrc{cs:List V}{a:Al}(h:zcC cs=some a):aC cs (zcI a):=by
 unfold zcC at h;obtain⟨c0,cs,f0,rfl,h0,h⟩:=wA h;obtain⟨c1,cs,f1,rfl,h1,h⟩:=wA h;obtain⟨c2,cs,f2,rfl,h2,h⟩:=wA h;obtain⟨c3,cs,f3,rfl,h3,h⟩:=wA h;obtain⟨rfl,rfl⟩:=HD h;exact .cons (KA h0) (.cons (KA h1) (.cons (KA h2) (.cons (KA h3) (.nil))))
def zqH{cs:List V}{a:Ac}(h:zcy cs=some a):aC cs (zf4 a):=by
 unfold zcy at h;obtain⟨c0,cs,f0,rfl,h0,h⟩:=wA h;obtain⟨c1,cs,f1,rfl,h1,h⟩:=wA h;obtain⟨c2,cs,f2,rfl,h2,h⟩:=wA h;obtain⟨c3,cs,f3,rfl,h3,h⟩:=wA h;obtain⟨c4,cs,f4,rfl,h4,h⟩:=wA h;obtain⟨c5,cs,f5,rfl,h5,h⟩:=wA h;obtain⟨c6,cs,f6,rfl,h6,h⟩:=wA h;obtain⟨rfl,rfl⟩:=HD h;exact .cons (YA h0) (.cons (YA h1) (.cons (YA h2) (.cons (KA h3) (.cons (KA h4) (.cons (YA h5) (.cons (YA h6) (.nil)))))))
def zrQ{cs:List V}{a:Ab}(h:zc4 cs=some a):aC cs (zgf a):=by
 unfold zc4 at h;obtain⟨c0,cs,f0,rfl,h0,h⟩:=wA h;obtain⟨c1,cs,f1,rfl,h1,h⟩:=wA h;obtain⟨c2,cs,f2,rfl,h2,h⟩:=wA h;obtain⟨c3,cs,f3,rfl,h3,h⟩:=wA h;obtain⟨c4,cs,f4,rfl,h4,h⟩:=wA h;obtain⟨c5,cs,f5,rfl,h5,h⟩:=wA h;obtain⟨c6,cs,f6,rfl,h6,h⟩:=wA h;obtain⟨c7,cs,f7,rfl,h7,h⟩:=wA h;obtain⟨c8,cs,f8,rfl,h8,h⟩:=wA h;obtain⟨c9,cs,f9,rfl,h9,h⟩:=wA h;obtain⟨CG,cs,f10,rfl,vW,h⟩:=wA h;obtain⟨rfl,rfl⟩:=HD h;exact .cons (KA h0) (.cons (KA h1) (.cons (YA h2) (.cons (YA h3) (.cons (KA h4) (.cons (YA h5) (.cons (YA h6) (.cons (KA h7) (.cons (KA h8) (.cons (YA h9) (.cons (YA vW) (.nil)))))))))))
def zrJ{cs:List V}{a:Aw}(h:zc7 cs=some a):aC cs (zc8 a):=by
 unfold zc7 at h;obtain⟨c0,cs,f0,rfl,h0,h⟩:=wA h;obtain⟨c1,cs,f1,rfl,h1,h⟩:=wA h;obtain⟨c2,cs,f2,rfl,h2,h⟩:=wA h;obtain⟨c3,cs,f3,rfl,h3,h⟩:=wA h;obtain⟨rfl,rfl⟩:=HD h;exact .cons (SM h0) (.cons (KA h1) (.cons (KA h2) (.cons (KA h3) (.nil))))
def zqx{cs:List V}{a:Ad}(h:zcx cs=some a):aC cs (zf3 a):=by
 unfold zcx at h;obtain⟨c0,cs,f0,rfl,h0,h⟩:=wA h;obtain⟨c1,cs,f1,rfl,h1,h⟩:=wA h;obtain⟨c2,cs,f2,rfl,h2,h⟩:=wA h;obtain⟨c3,cs,f3,rfl,h3,h⟩:=wA h;obtain⟨c4,cs,f4,rfl,h4,h⟩:=wA h;obtain⟨c5,cs,f5,rfl,h5,h⟩:=wA h;obtain⟨c6,cs,f6,rfl,h6,h⟩:=wA h;obtain⟨c7,cs,f7,rfl,h7,h⟩:=wA h;obtain⟨c8,cs,f8,rfl,h8,h⟩:=wA h;obtain⟨c9,cs,f9,rfl,h9,h⟩:=wA h;obtain⟨CG,cs,f10,rfl,vW,h⟩:=wA h;obtain⟨lG,cs,f11,rfl,LW,h⟩:=wA h;obtain⟨GT,cs,f12,rfl,ZW,h⟩:=wA h;obtain⟨c13,cs,f13,rfl,rX,h⟩:=wA h;obtain⟨bP,cs,f14,rfl,LY,h⟩:=wA h;obtain⟨c15,cs,f15,rfl,MY,h⟩:=wA h;obtain⟨jG,cs,f16,rfl,RY,h⟩:=wA h;obtain⟨c17,cs,f17,rfl,DZ,h⟩:=wA h;obtain⟨c18,cs,f18,rfl,S1,h⟩:=wA h;obtain⟨c19,cs,f19,rfl,TZ,h⟩:=wA h;obtain⟨c20,cs,f20,rfl,UZ,h⟩:=wA h;obtain⟨c21,cs,f21,rfl,A2,h⟩:=wA h;obtain⟨c22,cs,f22,rfl,C2,h⟩:=wA h;obtain⟨c23,cs,f23,rfl,L0,h⟩:=wA h;obtain⟨c24,cs,f24,rfl,D2,h⟩:=wA h;obtain⟨c25,cs,f25,rfl,J5,h⟩:=wA h;obtain⟨c26,cs,f26,rfl,z9,h⟩:=wA h;obtain⟨c27,cs,f27,rfl,U5,h⟩:=wA h;obtain⟨c28,cs,f28,rfl,I8,h⟩:=wA h;obtain⟨c29,cs,f29,rfl,J8,h⟩:=wA h;obtain⟨c30,cs,f30,rfl,V5,h⟩:=wA h;obtain⟨DD,cs,f31,rfl,W5,h⟩:=wA h;obtain⟨XG,cs,f32,rfl,A9,h⟩:=wA h;obtain⟨XO,cs,f33,rfl,B9,h⟩:=wA h;obtain⟨LD,cs,f34,rfl,C9,h⟩:=wA h;obtain⟨wC,cs,f35,rfl,D9,h⟩:=wA h;obtain⟨c36,cs,f36,rfl,E9,h⟩:=wA h;obtain⟨c37,cs,f37,rfl,F9,h⟩:=wA h;obtain⟨c38,cs,f38,rfl,h38,h⟩:=wA h;obtain⟨YB,cs,f39,rfl,h39,h⟩:=wA h;obtain⟨c40,cs,f40,rfl,h40,h⟩:=wA h;obtain⟨rfl,rfl⟩:=HD h;exact .cons (KA h0) (.cons (YA h1) (.cons (KA h2) (.cons (KA h3) (.cons (KA h4) (.cons (YA h5) (.cons (KA h6) (.cons (KA h7) (.cons (YA h8) (.cons (YA h9) (.cons (KA vW) (.cons (YA LW) (.cons (YA ZW) (.cons (KA rX) (.cons (KA LY) (.cons (YA MY) (.cons (YA RY) (.cons (KA DZ) (.cons (YA S1) (.cons (KA TZ) (.cons (YA UZ) (.cons (KA A2) (.cons (KA C2) (.cons (YA L0) (.cons (KA D2) (.cons (YA J5) (.cons (KA z9) (.cons (KA U5) (.cons (YA I8) (.cons (SM J8) (.cons (KA V5) (.cons (YA W5) (.cons (SM A9) (.cons (KA B9) (.cons (KA C9) (.cons (KA D9) (.cons (SM E9) (.cons (KA F9) (.cons (KA h38) (.cons (KA h39) (.cons (KA h40) (.nil)))))))))))))))))))))))))))))))))))))))))
def zsx{cs:List V}{a:Am}(h:zdC cs=some a):aC cs (zgy a):=by
 unfold zdC at h;obtain⟨c0,cs,f0,rfl,h0,h⟩:=wA h;obtain⟨c1,cs,f1,rfl,h1,h⟩:=wA h;obtain⟨c2,cs,f2,rfl,h2,h⟩:=wA h;obtain⟨c3,cs,f3,rfl,h3,h⟩:=wA h;obtain⟨c4,cs,f4,rfl,h4,h⟩:=wA h;obtain⟨rfl,rfl⟩:=HD h;exact .cons (KA h0) (.cons (KA h1) (.cons (KA h2) (.cons (KA h3) (.cons (YA h4) (.nil)))))
def zst{cs:List V}{a:Ae}(h:zdm cs=some a):aC cs (zgN a):=by
 unfold zdm at h;obtain⟨c0,cs,f0,rfl,h0,h⟩:=wA h;obtain⟨c1,cs,f1,rfl,h1,h⟩:=wA h;obtain⟨c2,cs,f2,rfl,h2,h⟩:=wA h;obtain⟨c3,cs,f3,rfl,h3,h⟩:=wA h;obtain⟨c4,cs,f4,rfl,h4,h⟩:=wA h;obtain⟨c5,cs,f5,rfl,h5,h⟩:=wA h;obtain⟨c6,cs,f6,rfl,h6,h⟩:=wA h;obtain⟨c7,cs,f7,rfl,h7,h⟩:=wA h;obtain⟨c8,cs,f8,rfl,h8,h⟩:=wA h;obtain⟨c9,cs,f9,rfl,h9,h⟩:=wA h;obtain⟨CG,cs,f10,rfl,vW,h⟩:=wA h;obtain⟨lG,cs,f11,rfl,LW,h⟩:=wA h;obtain⟨rfl,rfl⟩:=HD h;exact .cons (KA h0) (.cons (KA h1) (.cons (KA h2) (.cons (YA h3) (.cons (YA h4) (.cons (KA h5) (.cons (KA h6) (.cons (YA h7) (.cons (YA h8) (.cons (KA h9) (.cons (KA vW) (.cons (KA LW) (.nil))))))))))))
def zrC{cs:List V}{a:Aa}(h:zcS cs=some a):aC cs (zf8 a):=by
 unfold zcS at h;obtain⟨c0,cs,f0,rfl,h0,h⟩:=wA h;obtain⟨c1,cs,f1,rfl,h1,h⟩:=wA h;obtain⟨c2,cs,f2,rfl,h2,h⟩:=wA h;obtain⟨c3,cs,f3,rfl,h3,h⟩:=wA h;obtain⟨c4,cs,f4,rfl,h4,h⟩:=wA h;obtain⟨c5,cs,f5,rfl,h5,h⟩:=wA h;obtain⟨c6,cs,f6,rfl,h6,h⟩:=wA h;obtain⟨c7,cs,f7,rfl,h7,h⟩:=wA h;obtain⟨c8,cs,f8,rfl,h8,h⟩:=wA h;obtain⟨c9,cs,f9,rfl,h9,h⟩:=wA h;obtain⟨CG,cs,f10,rfl,vW,h⟩:=wA h;obtain⟨lG,cs,f11,rfl,LW,h⟩:=wA h;obtain⟨GT,cs,f12,rfl,ZW,h⟩:=wA h;obtain⟨c13,cs,f13,rfl,rX,h⟩:=wA h;obtain⟨rfl,rfl⟩:=HD h;exact .cons (KA h0) (.cons (YA h1) (.cons (YA h2) (.cons (YA h3) (.cons (YA h4) (.cons (KA h5) (.cons (KA h6) (.cons (YA h7) (.cons (YA h8) (.cons (YA h9) (.cons (KA vW) (.cons (YA LW) (.cons (YA ZW) (.cons (YA rX) (.nil))))))))))))))
def zsQ{cs:List V}{a:Af}(h:zd0 cs=some a):aC cs (zg2 a):=by
 unfold zd0 at h;obtain⟨c0,cs,f0,rfl,h0,h⟩:=wA h;obtain⟨c1,cs,f1,rfl,h1,h⟩:=wA h;obtain⟨c2,cs,f2,rfl,h2,h⟩:=wA h;obtain⟨rfl,rfl⟩:=HD h;exact .cons (YA h0) (.cons (KA h1) (.cons (KA h2) (.nil)))
def zsC{cs:List V}{a:Av}(h:zdU cs=some a):aC cs (zhb a):=by
 unfold zdU at h;obtain⟨c0,cs,f0,rfl,h0,h⟩:=wA h;obtain⟨c1,cs,f1,rfl,h1,h⟩:=wA h;obtain⟨c2,cs,f2,rfl,h2,h⟩:=wA h;obtain⟨c3,cs,f3,rfl,h3,h⟩:=wA h;obtain⟨c4,cs,f4,rfl,h4,h⟩:=wA h;obtain⟨c5,cs,f5,rfl,h5,h⟩:=wA h;obtain⟨c6,cs,f6,rfl,h6,h⟩:=wA h;obtain⟨c7,cs,f7,rfl,h7,h⟩:=wA h;obtain⟨c8,cs,f8,rfl,h8,h⟩:=wA h;obtain⟨c9,cs,f9,rfl,h9,h⟩:=wA h;obtain⟨CG,cs,f10,rfl,vW,h⟩:=wA h;obtain⟨lG,cs,f11,rfl,LW,h⟩:=wA h;obtain⟨GT,cs,f12,rfl,ZW,h⟩:=wA h;obtain⟨rfl,rfl⟩:=HD h;exact .cons (KA h0) (.cons (KA h1) (.cons (KA h2) (.cons (KA h3) (.cons (YA h4) (.cons (YA h5) (.cons (KA h6) (.cons (YA h7) (.cons (YA h8) (.cons (KA h9) (.cons (KA vW) (.cons (YA LW) (.cons (YA ZW) (.nil)))))))))))))
def zsq{cs:List V}{a:Kb}(h:zdu cs=some a):aC cs (zdg a):=by
 unfold zdu at h;obtain⟨c0,cs,f0,rfl,h0,h⟩:=wA h;obtain⟨c1,cs,f1,rfl,h1,h⟩:=wA h;obtain⟨rfl,rfl⟩:=HD h;exact .cons (KA h0) (.cons (zlD h1) (.nil))
def zr5{cs:List V}{a:Be}(h:zdJ cs=some a):aC cs (zgA a):=by
 unfold zdJ at h;obtain⟨c0,cs,f0,rfl,h0,h⟩:=wA h;obtain⟨c1,cs,f1,rfl,h1,h⟩:=wA h;obtain⟨c2,cs,f2,rfl,h2,h⟩:=wA h;obtain⟨rfl,rfl⟩:=HD h;exact .cons (YA h0) (.cons (YA h1) (.cons (KA h2) (.nil)))
def JF:(t:TN)→{cs:List V}→{a:El t}→lF t cs=some a→aC cs (enc t a)
 | .byte,cs,a,h=>by
  obtain⟨c0,cs,f0,rfl,h0,h⟩:=wA (show tk uT cs (λb cs=>cC cs b)=some a from h);obtain⟨rfl,rfl⟩:=HD h;exact .cons (zuw h0) .nil
 | .int,cs,a,h=>by
  obtain⟨c0,cs,f0,rfl,h0,h⟩:=wA (show tk HA cs (λb cs=>cC cs b)=some a from h);obtain⟨rfl,rfl⟩:=HD h;exact .cons (KA h0) .nil
 | .bool,cs,a,h=>by
  obtain⟨c0,cs,f0,rfl,h0,h⟩:=wA (show tk WH cs (λb cs=>cC cs b)=some a from h);obtain⟨rfl,rfl⟩:=HD h;exact .cons (SM h0) .nil
 | .str,cs,a,h=>by
  obtain⟨c0,cs,f0,rfl,h0,h⟩:=wA (show tk aP cs (λb cs=>cC cs b)=some a from h);obtain⟨rfl,rfl⟩:=HD h;exact .cons (zlD h0) .nil
 | .bs,cs,a,h=>by
  obtain⟨c0,cs,f0,rfl,h0,h⟩:=wA (show tk (WA .byte) cs (λb cs=>cC cs b)=some a from h);obtain⟨rfl,rfl⟩:=HD h;exact .cons (YA h0) .nil
 | .Addr,_,_,h=>zsj h
 | .Op,_,_,h=>ztu h
 | .Event,_,_,h=>zrM h
 | .Jar,_,_,h=>zsT h
 | .Dice,_,_,h=>zsu h
 | .Win,_,_,h=>zsI h
 | .Ep,_,_,h=>ztL h
 | .Chan,_,_,h=>zsl h
 | .Cand,_,_,h=>zr2 h
 | .Paths,_,_,h=>zrv h
 | .Sess,_,_,h=>zr1 h
 | .Tab,_,_,h=>zs5 h
 | .Credit,_,_,h=>zrc h
 | .Server,_,_,h=>zqH h
 | .Frame,_,_,h=>zrQ h
 | .Timer,_,_,h=>zrJ h
 | .Client,_,_,h=>zqx h
 | .Wire,_,_,h=>zsx h
 | .Note,_,_,h=>zst h
 | .World,_,_,h=>zrC h
 | .Cur,_,_,h=>zsQ h
 | .Out,_,_,h=>zsC h
 | .Form,_,_,h=>zsq h
 | .Hash,_,_,h=>zr5 h
def oD(t:TN)(a:El t):(enc t a).length=sz t:=by cases t<;>rfl
def FO(t:TN):0<sz t:=by cases t<;>simp[sz]
def V.leaf:V→Bool
 | .undef | .agg _ | .tup _=>false
 | _=>true
def zkT(t:TN)(a:El t):(enc t a).all V.leaf=true:=by cases t<;>rfl
def TN.isAgg:TN→Bool
 | .byte | .int | .bool | .str | .bs=>false
 | _=>true
end Go.D
namespace Go.D
class jA where
 tn:TypeId→Option TN
 base:Nat
end Go.D
namespace Go.D
structure RI where
 b:Nat
 n:Nat
 cap:Nat
 nl:Bool
def MF[jA](w:World)(b:Nat)(t:TN):Prop:=∃c e z,w.heap[b]?=some (.cells c e z)∧jA.tn e=some t
def yE(k:IntKind)(n:Int):Prop:=k.min≤n∧n≤k.max
def at_(b o:Nat):Addr:=⟨b,o,none⟩
variable [jA]
inductive VR(w:World)(ρ:Nat→Option RI)(bad:Nat→Prop):Value→V→Prop where
 | undef (v:Value):VR w ρ bad v .undef
 | bool (b:Bool):VR w ρ bad (.bool b) (.bool b)
 | int (k:IntKind) (n:Int) (h:yE k n):VR w ρ bad (.int k n) (.int k n)
 | str (s:List UInt8) (h:s.length≤maxLen):VR w ρ bad (.string ⟨s.toArray⟩) (.str s)
 | nil:VR w ρ bad (.slice none 0 0) .nil
 | slE (t:TN) (a:Option Addr) (cap:Nat) (h:cap≤maxLen):VR w ρ bad (.slice a 0 cap) (.sl t [])
 | slC (t:TN) (l:List (El t)) (b off cap:Nat) (u:Nat→Nat→Value) (hb:¬bad b) (hl:l.length≤cap) (hc:cap≤maxLen) (he:l≠[]→b<jA.base∨MF w b t)
   (hu:∀i,i<l.length→∀j,j<sz t→w.cell? (at_ b (off+i *sz t+j))=some (u i j))
   (hv:∀i (h:i<l.length) j,j<sz t→VR w ρ bad (u i j) ((enc t l[i]).getD j .undef)):
   VR w ρ bad (.slice (some (at_ b off)) l.length cap) (.sl t l)
 | ow (r:Nat) (ri:RI) (h:ρ r=some ri) (hn:ri.n≤ri.cap) (hc:ri.cap≤maxLen) (lW:ri.nl=false):VR w ρ bad (.slice (some (at_ ri.b 0)) ri.n ri.cap) (.ow r)
 | owN (r:Nat) (ri:RI) (ao:Option Addr) (h:ρ r=some ri) (hn:ri.n=0) (lW:ri.nl=true):VR w ρ bad (.slice ao 0 0) (.ow r)
 | ov (r:Nat) (t:TN) (off len cap:Nat) (a:Option Addr) (ri:RI) (h:ρ r=some ri) (X5:off+len≤ri.n) (ha:len=0∧cap=0∨a=some (at_ ri.b (off *sz t))∧ri.nl=false∧off+cap≤ri.cap)
   (hl:len≤cap) (hc:cap≤maxLen):VR w ρ bad (.slice a len cap) (.ov r t off len)
 | bp (r off:Nat) (ri:RI) (h:ρ r=some ri) (lW:ri.nl=false):VR w ρ bad (.pointer (some (at_ ri.b off))) (.bp r off)
 | ep (r:Nat) (t:TN) (i off:Nat) (ri:RI) (h:ρ r=some ri) (lW:ri.nl=false):VR w ρ bad (.pointer (some (at_ ri.b (i *sz t+off)))) (.ep r t i off)
 | fp (cs:List V) (off b o:Nat) (u:Nat→Value) (h0:0<cs.length) (hb:¬bad b) (hu:∀j,j<cs.length→w.cell? (at_ b (o+j))=some (u j))
   (hv:∀j (h:j<cs.length),VR w ρ bad (u j) cs[j]):VR w ρ bad (.pointer (some (at_ b (o+off)))) (.fp cs off)
 | fn (f:Nat) (cs:List V) (caps:Array Value) (hs:caps.size=cs.length) (hv:∀j (h:j<cs.length),VR w ρ bad (caps.getD j undef) cs[j]):
   VR w ρ bad (.func (.func f) #[] caps) (.fn f cs)
 | agg (cs:List V) (vs:Array Value) (hs:vs.size=cs.length) (hv:∀j (h:j<cs.length),VR w ρ bad (vs.getD j undef) cs[j]):VR w ρ bad (.agg vs) (.agg cs)
 | tup (cs:List V) (vs:Array Value) (hs:vs.size=cs.length) (hv:∀j (h:j<cs.length),VR w ρ bad (vs.getD j undef) cs[j]):VR w ρ bad (.tuple vs) (.tup cs)
 | nili:VR w ρ bad .nilIface .nili
 | ifc (t:TypeId) (v:Value):VR w ρ bad (.iface t v) (.ifc false)
 | ifn:VR w ρ bad .nilIface (.ifc true)
inductive JB(S:Nat→Prop):V→Prop where
 | undef:JB S .undef
 | bool (b:Bool):JB S (.bool b)
 | int (k:IntKind) (n:Int):JB S (.int k n)
 | str (s:List UInt8):JB S (.str s)
 | nil:JB S .nil
 | sl (t:TN) (l:List (El t)) (h:∀i (h:i<l.length) j,j<sz t→JB S ((enc t l[i]).getD j .undef)):JB S (.sl t l)
 | ow (r:Nat) (h:S r):JB S (.ow r)
 | ov (r:Nat) (t:TN) (off len:Nat) (h:S r):JB S (.ov r t off len)
 | bp (r off:Nat) (h:S r):JB S (.bp r off)
 | ep (r:Nat) (t:TN) (i off:Nat) (h:S r):JB S (.ep r t i off)
 | fp (cs:List V) (off:Nat) (h:∀j (h:j<cs.length),JB S cs[j]):JB S (.fp cs off)
 | fn (f:Nat) (cs:List V) (h:∀j (h:j<cs.length),JB S cs[j]):JB S (.fn f cs)
 | agg (cs:List V) (h:∀j (h:j<cs.length),JB S cs[j]):JB S (.agg cs)
 | tup (cs:List V) (h:∀j (h:j<cs.length),JB S cs[j]):JB S (.tup cs)
 | nili:JB S .nili
 | ifc (b:Bool):JB S (.ifc b)
section
variable {w:World} {ρ:Nat→Option RI} {bad:Nat→Prop} {v:Value} {d:V}
def VR.refs(h:VR w ρ bad v d):JB (λr=>ρ r≠none) d:=by
 induction h with
 | undef=>exact .undef
 | bool=>exact .bool _
 | int=>exact .int _ _
 | str=>exact .str _
 | nil=>exact .nil
 | slE=>exact .sl _ _ (λi h=>by simp at h)
 | slC t l b off cap u hb hl hc he hu hv ih=>exact .sl _ _ ih
 | ow r ri h=>exact .ow _ (by simp[h])
 | owN r ri ao h=>exact .ow _ (by simp[h])
 | ov r t off len cap a ri h=>exact .ov _ _ _ _ (by simp[h])
 | bp r off ri h=>exact .bp _ _ (by simp[h])
 | ep r t i off ri h=>exact .ep _ _ _ _ (by simp[h])
 | fp cs off b o u h0 hb hu hv ih=>exact .fp _ _ ih
 | fn f cs caps hs hv ih=>exact .fn _ _ ih
 | agg cs vs hs hv ih=>exact .agg _ ih
 | tup cs vs hs hv ih=>exact .tup _ ih
 | nili=>exact .nili
 | ifc=>exact .ifc _
 | ifn=>exact .ifc _
omit [jA]in
def yV{w:World}{b o:Nat}{u:Value}(h:w.cell? (at_ b o)=some u):b<w.heap.size:=by
 rcases Nat.lt_or_ge b w.heap.size with h' | h'
 ·exact h'
 ·simp[World.cell?,at_,Array.getElem?_eq_none h']at h
omit [jA]in
def YJ{w w':World}{b o:Nat}(h:w'.heap[b]?=w.heap[b]?):w'.cell? (at_ b o)=w.cell? (at_ b o):=by
 simp[World.cell?,at_,h]
def MF.same{w w':World}{b:Nat}{t:TN}(h:MF w b t)(hw:w'.heap[b]?=w.heap[b]?):MF w' b t:=by
 obtain⟨c,e,z,h1,h2⟩:=h;exact⟨c,e,z,hw.trans h1,h2⟩
def MF.uniq{w:World}{b:Nat}{t t':TN}(h:MF w b t)(h':MF w b t'):t=t':=by
 obtain⟨c,e,z,h1,h2⟩:=h;obtain⟨c',e',z',h1',h2'⟩:=h'
 grind
def VR.keep{w':World}{ρ':Nat→Option RI}{bad':Nat→Prop}{S:Nat→Prop}(h:VR w ρ bad v d)(hS:JB S d)
  (hρ:∀r ri,S r→ρ r=some ri→ρ' r=some ri)
  (hw:∀b,¬bad b→b<w.heap.size→w'.heap[b]?=w.heap[b]?) (hb:∀b,bad' b→bad b∨w.heap.size≤b):VR w' ρ' bad' v d:=by
 have bW:∀b,¬bad b→b<w.heap.size→¬bad' b:=λb h1 h2 h3=>(hb b h3).elim h1 (by omega);induction h with
 | undef=>exact .undef _
 | bool=>exact .bool _
 | int k n h=>exact .int _ _ h
 | str s h=>exact .str _ h
 | nil=>exact .nil
 | slE t a cap h=>exact .slE _ _ _ h
 | slC t l b off cap u hb hl hc he hu hv ih=>
  by_cases E2:l.length=0
  ·obtain rfl:l=[]:=List.eq_nil_of_length_eq_zero E2;exact .slE _ _ _ hc
  ·have OV:b<w.heap.size:=yV (hu 0 (by omega) 0 (FO t));cases hS with
   | sl _ _ hS=>
   exact .slC t l b off cap u (bW b hb OV) hl hc (λh0=>(he h0).imp id λk=>k.same (hw b hb OV)) (λi h j hj=>(YJ (hw b hb OV)).trans (hu i h j hj)) (λi h j hj=>ih i h j hj (hS i h j hj))
 | ow r ri h hn hc lW=>cases hS with | ow _ hs=>exact .ow _ _ (hρ _ _ hs h) hn hc lW
 | owN r ri ao h hn lW=>cases hS with | ow _ hs=>exact .owN _ _ _ (hρ _ _ hs h) hn lW
 | ov r t off len cap a ri h X5 ha hl hc=>cases hS with | ov _ _ _ _ hs=>exact .ov _ _ _ _ _ _ _ (hρ _ _ hs h) X5 ha hl hc
 | bp r off ri h lW=>cases hS with | bp _ _ hs=>exact .bp _ _ _ (hρ _ _ hs h) lW
 | ep r t i off ri h lW=>cases hS with | ep _ _ _ _ hs=>exact .ep _ _ _ _ _ (hρ _ _ hs h) lW
 | fp cs off b o u h0 hb hu hv ih=>
  cases hS with
  | fp _ _ hS=>
  have OV:b<w.heap.size:=yV (hu 0 h0);exact .fp cs off b o u h0 (bW b hb OV) (λj hj=>(YJ (hw b hb OV)).trans (hu j hj)) (λj hj=>ih j hj (hS j hj))
 | fn f cs caps hs hv ih=>cases hS with | fn _ _ hS=>exact .fn _ _ _ hs (λj hj=>ih j hj (hS j hj))
 | agg cs vs hs hv ih=>cases hS with | agg _ hS=>exact .agg _ _ hs (λj hj=>ih j hj (hS j hj))
 | tup cs vs hs hv ih=>cases hS with | tup _ hS=>exact .tup _ _ hs (λj hj=>ih j hj (hS j hj))
 | nili=>exact .nili
 | ifc=>exact .ifc _ _
 | ifn=>exact .ifn
def qT(w:World)(b:Nat):Prop:=∃o u,w.cell? (at_ b o)=some u
def VR.keep2{w':World}{ρ':Nat→Option RI}{bad':Nat→Prop}{S:Nat→Prop}(h:VR w ρ bad v d)(hS:JB S d)
  (hρ:∀r ri,S r→ρ r=some ri→ρ' r=some ri)
  (hw:∀b,¬bad b→qT w b→w'.heap[b]?=w.heap[b]?) (hb:∀b,qT w b→bad' b→bad b):VR w' ρ' bad' v d:=by
 have bW:∀b,¬bad b→qT w b→¬bad' b:=λb h1 h2 h3=>h1 (hb b h2 h3);induction h with
 | undef=>exact .undef _
 | bool=>exact .bool _
 | int k n h=>exact .int _ _ h
 | str s h=>exact .str _ h
 | nil=>exact .nil
 | slE t a cap h=>exact .slE _ _ _ h
 | slC t l b off cap u hb hl hc he hu hv ih=>
  by_cases E2:l.length=0
  ·obtain rfl:l=[]:=List.eq_nil_of_length_eq_zero E2;exact .slE _ _ _ hc
  ·have OV:qT w b:=⟨_,_,hu 0 (by omega) 0 (FO t)⟩;cases hS with
   | sl _ _ hS=>
   exact .slC t l b off cap u (bW b hb OV) hl hc (λh0=>(he h0).imp id λk=>k.same (hw b hb OV)) (λi h j hj=>(YJ (hw b hb OV)).trans (hu i h j hj)) (λi h j hj=>ih i h j hj (hS i h j hj))
 | ow r ri h hn hc lW=>cases hS with | ow _ hs=>exact .ow _ _ (hρ _ _ hs h) hn hc lW
 | owN r ri ao h hn lW=>cases hS with | ow _ hs=>exact .owN _ _ _ (hρ _ _ hs h) hn lW
 | ov r t off len cap a ri h X5 ha hl hc=>cases hS with | ov _ _ _ _ hs=>exact .ov _ _ _ _ _ _ _ (hρ _ _ hs h) X5 ha hl hc
 | bp r off ri h lW=>cases hS with | bp _ _ hs=>exact .bp _ _ _ (hρ _ _ hs h) lW
 | ep r t i off ri h lW=>cases hS with | ep _ _ _ _ hs=>exact .ep _ _ _ _ _ (hρ _ _ hs h) lW
 | fp cs off b o u h0 hb hu hv ih=>
  cases hS with
  | fp _ _ hS=>
  have OV:qT w b:=⟨_,_,hu 0 h0⟩;exact .fp cs off b o u h0 (bW b hb OV) (λj hj=>(YJ (hw b hb OV)).trans (hu j hj)) (λj hj=>ih j hj (hS j hj))
 | fn f cs caps hs hv ih=>cases hS with | fn _ _ hS=>exact .fn _ _ _ hs (λj hj=>ih j hj (hS j hj))
 | agg cs vs hs hv ih=>cases hS with | agg _ hS=>exact .agg _ _ hs (λj hj=>ih j hj (hS j hj))
 | tup cs vs hs hv ih=>cases hS with | tup _ hS=>exact .tup _ _ hs (λj hj=>ih j hj (hS j hj))
 | nili=>exact .nili
 | ifc=>exact .ifc _ _
 | ifn=>exact .ifn
omit [jA]in
def JB.all{S:Nat→Prop}{d:V}(hS:∀r,S r)(h:JB (λr=>ρ r≠none) d):JB S d:=by
 induction h with
 | undef=>exact .undef
 | bool=>exact .bool _
 | int=>exact .int _ _
 | str=>exact .str _
 | nil=>exact .nil
 | sl t l h ih=>exact .sl _ _ ih
 | ow r h=>exact .ow _ (hS _)
 | ov r t off len h=>exact .ov _ _ _ _ (hS _)
 | bp r off h=>exact .bp _ _ (hS _)
 | ep r t i off h=>exact .ep _ _ _ _ (hS _)
 | fp cs off h ih=>exact .fp _ _ ih
 | fn f cs h ih=>exact .fn _ _ ih
 | agg cs h ih=>exact .agg _ ih
 | tup cs h ih=>exact .tup _ ih
 | nili=>exact .nili
 | ifc=>exact .ifc _
def VR.mono{w':World}{ρ':Nat→Option RI}{bad':Nat→Prop}(h:VR w ρ bad v d)(hρ:∀r ri,ρ r=some ri→ρ' r=some ri)
  (hw:∀b,¬bad b→b<w.heap.size→w'.heap[b]?=w.heap[b]?) (hb:∀b,bad' b→bad b∨w.heap.size≤b):VR w' ρ' bad' v d:=
 h.keep (S:=λ_=>True) (JB.all (λ_=>trivial) h.refs) (λr ri _=>hρ r ri) hw hb
def VR.one(h:VR w ρ bad v d)(hd:d.leaf=true):v.oneCell'=true:=by
 cases h<;>first | rfl | simp[V.leaf]at hd
omit [jA]in
def ztX(n:Int)(h:yE .u8 n):((UInt8.ofNat n.toNat).toNat:Int)=n:=by
 obtain⟨h1,h2⟩:=h;simp[IntKind.min,IntKind.max,IntKind.signed,IntKind.bits]at h1 h2;simp only[UInt8.toNat_ofNat'];omega
def VR.sub{c d:V}(hs:XH c d)(h:VR w ρ bad v c):VR w ρ bad v d:=by
 cases hs with
 | refl=>exact h
 | byte n=>cases h with | int _ _ hf=>rw[ztX n hf];exact .int _ _ hf
 | nil t=>cases h;exact .slE _ _ _ (Nat.zero_le _)
end
end Go.D
namespace Go.D
def TB(S:Nat→Prop)(a:UInt8)(j:Nat):JB S ((enc .byte a).getD j .undef):=by
 match j with
 | 0=>exact .int _ _
 | n+1=>exact .undef
def lK(S:Nat→Prop)(a:Int)(j:Nat):JB S ((enc .int a).getD j .undef):=by
 match j with
 | 0=>exact .int _ _
 | n+1=>exact .undef
def zuA(S:Nat→Prop)(a:Bool)(j:Nat):JB S ((enc .bool a).getD j .undef):=by
 match j with
 | 0=>exact .bool _
 | n+1=>exact .undef
def zvV(S:Nat→Prop)(a:List UInt8)(j:Nat):JB S ((enc .str a).getD j .undef):=by
 match j with
 | 0=>exact .str _
 | n+1=>exact .undef
def zdT(S:Nat→Prop)(a:List UInt8)(j:Nat):JB S ((enc .bs a).getD j .undef):=by
 match j with
 | 0=>exact .sl _ _ λi h j _=>TB S _ j
 | n+1=>exact .undef
def zuE(S:Nat→Prop)(a:Ah)(j:Nat):JB S ((enc .Addr a).getD j .undef):=by
 match j with
 | 0=>exact .int _ _
 | 1=>exact .int _ _
 | n+2=>exact .undef
def zmz(S:Nat→Prop)(a:Bc)(j:Nat):JB S ((enc .Op a).getD j .undef):=by
 match j with
 | 0=>exact .int _ _
 | 1=>exact .int _ _
 | 2=>exact .int _ _
 | 3=>exact .sl _ _ λi h j _=>TB S _ j
 | n+4=>exact .undef
def ztC(S:Nat→Prop)(a:Ao)(j:Nat):JB S ((enc .Event a).getD j .undef):=by
 match j with
 | 0=>exact .int _ _
 | 1=>exact .int _ _
 | 2=>exact .int _ _
 | 3=>exact .int _ _
 | 4=>exact .sl _ _ λi h j _=>TB S _ j
 | 5=>exact .sl _ _ λi h j _=>zmz S _ j
 | n+6=>exact .undef
def zv1(S:Nat→Prop)(a:Ba)(j:Nat):JB S ((enc .Jar a).getD j .undef):=by
 match j with
 | 0=>exact .sl _ _ λi h j _=>TB S _ j
 | n+1=>exact .undef
def zuP(S:Nat→Prop)(a:Au)(j:Nat):JB S ((enc .Dice a).getD j .undef):=by
 match j with
 | 0=>exact .sl _ _ λi h j _=>TB S _ j
 | 1=>exact .int _ _
 | n+2=>exact .undef
def zwj(S:Nat→Prop)(a:Aq)(j:Nat):JB S ((enc .Win a).getD j .undef):=by
 match j with
 | 0=>exact .int _ _
 | 1=>exact .sl _ _ λi h j _=>lK S _ j
 | n+2=>exact .undef
def zwI(S:Nat→Prop)(a:Ax)(j:Nat):JB S ((enc .Ep a).getD j .undef):=by
 match j with
 | 0=>exact .int _ _
 | 1=>exact .sl _ _ λi h j _=>TB S _ j
 | 2=>exact .int _ _
 | 3=>exact .int _ _
 | 4=>exact .sl _ _ λi h j _=>lK S _ j
 | n+5=>exact .undef
def zvd(S:Nat→Prop)(a:Ak)(j:Nat):JB S ((enc .Chan a).getD j .undef):=by
 match j with
 | 0=>exact .int _ _
 | 1=>exact .sl _ _ λi h j _=>TB S _ j
 | 2=>exact .int _ _
 | 3=>exact .sl _ _ λi h j _=>TB S _ j
 | 4=>exact .int _ _
 | 5=>exact .int _ _
 | 6=>exact .sl _ _ λi h j _=>lK S _ j
 | 7=>exact .int _ _
 | 8=>exact .sl _ _ λi h j _=>TB S _ j
 | 9=>exact .int _ _
 | 10=>exact .int _ _
 | 11=>exact .sl _ _ λi h j _=>lK S _ j
 | 12=>exact .bool _
 | 13=>exact .int _ _
 | 14=>exact .sl _ _ λi h j _=>TB S _ j
 | n+15=>exact .undef
def zgp(S:Nat→Prop)(a:Az)(j:Nat):JB S ((enc .Cand a).getD j .undef):=by
 match j with
 | 0=>exact .int _ _
 | 1=>exact .int _ _
 | 2=>exact .sl _ _ λi h j _=>TB S _ j
 | 3=>exact .int _ _
 | n+4=>exact .undef
def ztR(S:Nat→Prop)(a:Aj)(j:Nat):JB S ((enc .Paths a).getD j .undef):=by
 match j with
 | 0=>exact .int _ _
 | 1=>exact .int _ _
 | 2=>exact .sl _ _ λi h j _=>zgp S _ j
 | n+3=>exact .undef
def zcZ(S:Nat→Prop)(a:Ai)(j:Nat):JB S ((enc .Sess a).getD j .undef):=by
 match j with
 | 0=>exact .int _ _
 | 1=>exact .sl _ _ λi h j _=>TB S _ j
 | 2=>exact .sl _ _ λi h j _=>TB S _ j
 | 3=>exact .int _ _
 | 4=>exact .sl _ _ λi h j _=>TB S _ j
 | 5=>exact .int _ _
 | 6=>exact .sl _ _ λi h j _=>TB S _ j
 | 7=>exact .int _ _
 | 8=>exact .int _ _
 | 9=>exact .sl _ _ λi h j _=>lK S _ j
 | 10=>exact .int _ _
 | 11=>exact .sl _ _ λi h j _=>TB S _ j
 | 12=>exact .int _ _
 | 13=>exact .int _ _
 | 14=>exact .sl _ _ λi h j _=>lK S _ j
 | 15=>exact .bool _
 | 16=>exact .int _ _
 | 17=>exact .sl _ _ λi h j _=>TB S _ j
 | 18=>exact .int _ _
 | 19=>exact .int _ _
 | 20=>exact .sl _ _ λi h j _=>zgp S _ j
 | 21=>exact .int _ _
 | 22=>exact .int _ _
 | 23=>exact .bool _
 | n+24=>exact .undef
def zvM(S:Nat→Prop)(a:Ap)(j:Nat):JB S ((enc .Tab a).getD j .undef):=by
 match j with
 | 0=>exact .int _ _
 | 1=>exact .sl _ _ λi h j _=>zcZ S _ j
 | n+2=>exact .undef
def zfM(S:Nat→Prop)(a:Al)(j:Nat):JB S ((enc .Credit a).getD j .undef):=by
 match j with
 | 0=>exact .int _ _
 | 1=>exact .int _ _
 | 2=>exact .int _ _
 | 3=>exact .int _ _
 | n+4=>exact .undef
def zs4(S:Nat→Prop)(a:Ac)(j:Nat):JB S ((enc .Server a).getD j .undef):=by
 match j with
 | 0=>exact .sl _ _ λi h j _=>zdT S _ j
 | 1=>exact .sl _ _ λi h j _=>TB S _ j
 | 2=>exact .sl _ _ λi h j _=>TB S _ j
 | 3=>exact .int _ _
 | 4=>exact .int _ _
 | 5=>exact .sl _ _ λi h j _=>zcZ S _ j
 | 6=>exact .sl _ _ λi h j _=>zfM S _ j
 | n+7=>exact .undef
def ztg(S:Nat→Prop)(a:Ab)(j:Nat):JB S ((enc .Frame a).getD j .undef):=by
 match j with
 | 0=>exact .int _ _
 | 1=>exact .int _ _
 | 2=>exact .sl _ _ λi h j _=>TB S _ j
 | 3=>exact .sl _ _ λi h j _=>TB S _ j
 | 4=>exact .int _ _
 | 5=>exact .sl _ _ λi h j _=>TB S _ j
 | 6=>exact .sl _ _ λi h j _=>TB S _ j
 | 7=>exact .int _ _
 | 8=>exact .int _ _
 | 9=>exact .sl _ _ λi h j _=>TB S _ j
 | 10=>exact .sl _ _ λi h j _=>TB S _ j
 | n+11=>exact .undef
def zt4(S:Nat→Prop)(a:Aw)(j:Nat):JB S ((enc .Timer a).getD j .undef):=by
 match j with
 | 0=>exact .bool _
 | 1=>exact .int _ _
 | 2=>exact .int _ _
 | 3=>exact .int _ _
 | n+4=>exact .undef
def zj5(S:Nat→Prop)(a:Ad)(j:Nat):JB S ((enc .Client a).getD j .undef):=by
 match j with
 | 0=>exact .int _ _
 | 1=>exact .sl _ _ λi h j _=>TB S _ j
 | 2=>exact .int _ _
 | 3=>exact .int _ _
 | 4=>exact .int _ _
 | 5=>exact .sl _ _ λi h j _=>TB S _ j
 | 6=>exact .int _ _
 | 7=>exact .int _ _
 | 8=>exact .sl _ _ λi h j _=>TB S _ j
 | 9=>exact .sl _ _ λi h j _=>TB S _ j
 | 10=>exact .int _ _
 | 11=>exact .sl _ _ λi h j _=>TB S _ j
 | 12=>exact .sl _ _ λi h j _=>TB S _ j
 | 13=>exact .int _ _
 | 14=>exact .int _ _
 | 15=>exact .sl _ _ λi h j _=>TB S _ j
 | 16=>exact .sl _ _ λi h j _=>TB S _ j
 | 17=>exact .int _ _
 | 18=>exact .sl _ _ λi h j _=>TB S _ j
 | 19=>exact .int _ _
 | 20=>exact .sl _ _ λi h j _=>TB S _ j
 | 21=>exact .int _ _
 | 22=>exact .int _ _
 | 23=>exact .sl _ _ λi h j _=>lK S _ j
 | 24=>exact .int _ _
 | 25=>exact .sl _ _ λi h j _=>TB S _ j
 | 26=>exact .int _ _
 | 27=>exact .int _ _
 | 28=>exact .sl _ _ λi h j _=>lK S _ j
 | 29=>exact .bool _
 | 30=>exact .int _ _
 | 31=>exact .sl _ _ λi h j _=>TB S _ j
 | 32=>exact .bool _
 | 33=>exact .int _ _
 | 34=>exact .int _ _
 | 35=>exact .int _ _
 | 36=>exact .bool _
 | 37=>exact .int _ _
 | 38=>exact .int _ _
 | 39=>exact .int _ _
 | 40=>exact .int _ _
 | n+41=>exact .undef
def zlr(S:Nat→Prop)(a:Am)(j:Nat):JB S ((enc .Wire a).getD j .undef):=by
 match j with
 | 0=>exact .int _ _
 | 1=>exact .int _ _
 | 2=>exact .int _ _
 | 3=>exact .int _ _
 | 4=>exact .sl _ _ λi h j _=>TB S _ j
 | n+5=>exact .undef
def zkZ(S:Nat→Prop)(a:Ae)(j:Nat):JB S ((enc .Note a).getD j .undef):=by
 match j with
 | 0=>exact .int _ _
 | 1=>exact .int _ _
 | 2=>exact .int _ _
 | 3=>exact .sl _ _ λi h j _=>TB S _ j
 | 4=>exact .sl _ _ λi h j _=>TB S _ j
 | 5=>exact .int _ _
 | 6=>exact .int _ _
 | 7=>exact .sl _ _ λi h j _=>TB S _ j
 | 8=>exact .sl _ _ λi h j _=>TB S _ j
 | 9=>exact .int _ _
 | 10=>exact .int _ _
 | 11=>exact .int _ _
 | n+12=>exact .undef
def zty(S:Nat→Prop)(a:Aa)(j:Nat):JB S ((enc .World a).getD j .undef):=by
 match j with
 | 0=>exact .int _ _
 | 1=>exact .sl _ _ λi h j _=>zj5 S _ j
 | 2=>exact .sl _ _ λi h j _=>zdT S _ j
 | 3=>exact .sl _ _ λi h j _=>TB S _ j
 | 4=>exact .sl _ _ λi h j _=>TB S _ j
 | 5=>exact .int _ _
 | 6=>exact .int _ _
 | 7=>exact .sl _ _ λi h j _=>zcZ S _ j
 | 8=>exact .sl _ _ λi h j _=>zfM S _ j
 | 9=>exact .sl _ _ λi h j _=>TB S _ j
 | 10=>exact .int _ _
 | 11=>exact .sl _ _ λi h j _=>zlr S _ j
 | 12=>exact .sl _ _ λi h j _=>zdT S _ j
 | 13=>exact .sl _ _ λi h j _=>zkZ S _ j
 | n+14=>exact .undef
def zwy(S:Nat→Prop)(a:Af)(j:Nat):JB S ((enc .Cur a).getD j .undef):=by
 match j with
 | 0=>exact .sl _ _ λi h j _=>TB S _ j
 | 1=>exact .int _ _
 | 2=>exact .int _ _
 | n+3=>exact .undef
def zvv(S:Nat→Prop)(a:Av)(j:Nat):JB S ((enc .Out a).getD j .undef):=by
 match j with
 | 0=>exact .int _ _
 | 1=>exact .int _ _
 | 2=>exact .int _ _
 | 3=>exact .int _ _
 | 4=>exact .sl _ _ λi h j _=>TB S _ j
 | 5=>exact .sl _ _ λi h j _=>TB S _ j
 | 6=>exact .int _ _
 | 7=>exact .sl _ _ λi h j _=>TB S _ j
 | 8=>exact .sl _ _ λi h j _=>TB S _ j
 | 9=>exact .int _ _
 | 10=>exact .int _ _
 | 11=>exact .sl _ _ λi h j _=>TB S _ j
 | 12=>exact .sl _ _ λi h j _=>TB S _ j
 | n+13=>exact .undef
def zue(S:Nat→Prop)(a:Kb)(j:Nat):JB S ((enc .Form a).getD j .undef):=by
 match j with
 | 0=>exact .int _ _
 | 1=>exact .str _
 | n+2=>exact .undef
def zve(S:Nat→Prop)(a:Be)(j:Nat):JB S ((enc .Hash a).getD j .undef):=by
 match j with
 | 0=>exact .sl _ _ λi h j _=>lK S _ j
 | 1=>exact .sl _ _ λi h j _=>TB S _ j
 | 2=>exact .int _ _
 | n+3=>exact .undef
def RM(S:Nat→Prop)(t:TN)(a:El t)(j:Nat):JB S ((enc t a).getD j .undef):=by
 cases t with
 | byte=>exact TB S a j
 | int=>exact lK S a j
 | bool=>exact zuA S a j
 | str=>exact zvV S a j
 | bs=>exact zdT S a j
 | Addr=>exact zuE S a j
 | Op=>exact zmz S a j
 | Event=>exact ztC S a j
 | Jar=>exact zv1 S a j
 | Dice=>exact zuP S a j
 | Win=>exact zwj S a j
 | Ep=>exact zwI S a j
 | Chan=>exact zvd S a j
 | Cand=>exact zgp S a j
 | Paths=>exact ztR S a j
 | Sess=>exact zcZ S a j
 | Tab=>exact zvM S a j
 | Credit=>exact zfM S a j
 | Server=>exact zs4 S a j
 | Frame=>exact ztg S a j
 | Timer=>exact zt4 S a j
 | Client=>exact zj5 S a j
 | Wire=>exact zlr S a j
 | Note=>exact zkZ S a j
 | World=>exact zty S a j
 | Cur=>exact zwy S a j
 | Out=>exact zvv S a j
 | Form=>exact zue S a j
 | Hash=>exact zve S a j
end Go.D
