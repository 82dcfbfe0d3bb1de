/-
 The data of the program as plain structures; values of the plain semantics; their encoding as flat cells.
-/
import GoSem.Core.Value
import Derived.Calls
import Derived.WalkKit
import GoSem.ClaimData
set_option linter.all false
namespace Go.D
structure Ai where
 Host:Int
 Port:Int
structure Bc where
 Kind:Int
 I:Int
 J:Int
 B:(List UInt8)
structure Am where
 Kind:Int
 I:Int
 J:Int
 N:Int
 B:(List UInt8)
 Ops:(List Bc)
structure Ba where
 Secret:(List UInt8)
structure Au where
 Seed:(List UInt8)
 N:Int
structure Aq where
 Top:Int
 Bits:(List Int)
structure Ax where
 N:Int
 Key:(List UInt8)
 Seq:Int
 Win:Aq
structure Ak where
 Role:Int
 Sn:(List UInt8)
 Cur:Ax
 Old:Ax
 HasOld:Bool
 Until:Int
 Next:(List UInt8)
structure Az where
 A:Ai
 Draw:(List UInt8)
 Until:Int
structure Aj where
 At:Ai
 Cands:(List Az)
structure Ah where
 Id:Int
 Cn:(List UInt8)
 Sn:(List UInt8)
 C:Ak
 P:Aj
 Tick:Int
 Last:Int
 Dead:Bool
structure Ao where
 Cap:Int
 L:(List Ah)
structure Al where
 A:Ai
 Got:Int
 Sent:Int
structure Ac where
 Psks:(List (List UInt8))
 J:Ba
 D:Au
 T:Ao
 Cr:(List Al)
structure Aa where
 Kind:Int
 Id:Int
 Cn:(List UInt8)
 Sn:(List UInt8)
 Tick:Int
 Cookie:(List UInt8)
 Proof:(List UInt8)
 Epoch:Int
 Seq:Int
 Body:(List UInt8)
 Tag:(List UInt8)
structure Aw where
 On:Bool
 Due:Int
 Wait:Int
 Tries:Int
structure Ae where
 Id:Int
 Psk:(List UInt8)
 At:Ai
 St:Int
 Cn:(List UInt8)
 Fin:Aa
 C:Ak
 T:Aw
 R:Aw
 Last:Int
structure Ap where
 From:Ai
 To:Ai
 B:(List UInt8)
structure Ad where
 Kind:Int
 Id:Int
 Role:Int
 Cn:(List UInt8)
 Sn:(List UInt8)
 Epoch:Int
 Seq:Int
 Body:(List UInt8)
 Key:(List UInt8)
 A:Ai
 Now:Int
structure Ab where
 Now:Int
 Clients:(List Ae)
 S:Ac
 D:Au
 Seen:(List Ap)
 Known:(List (List UInt8))
 Notes:(List Ad)
structure Af where
 b:(List UInt8)
 i:Int
 h:Int
structure Av where
 To:Ai
 F:Aa
structure Kg where
 kind:Int
 words:(List UInt8)
structure Be where
 H:(List Int)
 Held:(List UInt8)
 N:Int
end Go.D
namespace Go.D
inductive TN where
 | byte | int | bool | str | bs | Addr | Op | Event | Jar | Dice | Win | Ep | Chan | Cand | Paths | Sess | Tab | Credit | Server | Frame | Timer | Client | Wire | Note | World | Cur | Out | Form | Hash
 deriving DecidableEq
@[reducible] def El:TN→Type
 | .byte=>UInt8 | .int=>Int | .bool=>Bool | .str=>List UInt8 | .bs=>List UInt8
 | .Addr=>Ai | .Op=>Bc | .Event=>Am | .Jar=>Ba | .Dice=>Au | .Win=>Aq | .Ep=>Ax | .Chan=>Ak | .Cand=>Az | .Paths=>Aj | .Sess=>Ah | .Tab=>Ao | .Credit=>Al | .Server=>Ac | .Frame=>Aa | .Timer=>Aw | .Client=>Ae | .Wire=>Ap | .Note=>Ad | .World=>Ab | .Cur=>Af | .Out=>Av | .Form=>Kg | .Hash=>Be
inductive V where
 | undef
 | bool (b:Bool)
 | int (k:IntKind) (n:Int)
 | str (s:List UInt8)
 | nil
 | sl (t:TN) (l:List (El t))
 | ow (r:Nat)
 | ov (r:Nat) (t:TN) (off len:Nat)
 | bp (r off:Nat)
 | ep (r:Nat) (t:TN) (i off:Nat)
 | fp (cs:List V) (off:Nat)
 | fn (f:Nat) (cs:List V)
 | agg (cs:List V)
 | tup (vs:List V)
 | nili
 | ifc (b:Bool)
def zdz(a:Ai):List V:=[.int .i64 a.Host, .int .i64 a.Port]
def zhe(a:Bc):List V:=[.int .i64 a.Kind, .int .i64 a.I, .int .i64 a.J, .sl .byte a.B]
def zgk(a:Am):List V:=[.int .i64 a.Kind, .int .i64 a.I, .int .i64 a.J, .int .i64 a.N, .sl .byte a.B, .sl .Op a.Ops]
def zhb(a:Ba):List V:=[.sl .byte a.Secret]
def zgO(a:Au):List V:=[.sl .byte a.Seed, .int .i64 a.N]
def zg7(a:Aq):List V:=[.int .i64 a.Top, .sl .int a.Bits]
def zhf(a:Ax):List V:=[.int .i64 a.N, .sl .byte a.Key, .int .i64 a.Seq, .int .i64 a.Win.Top, .sl .int a.Win.Bits]
def zgM(a:Ak):List V:=[.int .i64 a.Role, .sl .byte a.Sn, .int .i64 a.Cur.N, .sl .byte a.Cur.Key, .int .i64 a.Cur.Seq, .int .i64 a.Cur.Win.Top, .sl .int a.Cur.Win.Bits, .int .i64 a.Old.N, .sl .byte a.Old.Key, .int .i64 a.Old.Seq, .int .i64 a.Old.Win.Top, .sl .int a.Old.Win.Bits, .bool a.HasOld, .int .i64 a.Until, .sl .byte a.Next]
def zgv(a:Az):List V:=[.int .i64 a.A.Host, .int .i64 a.A.Port, .sl .byte a.Draw, .int .i64 a.Until]
def zgs(a:Aj):List V:=[.int .i64 a.At.Host, .int .i64 a.At.Port, .sl .Cand a.Cands]
def zgD(a:Ah):List V:=[.int .i64 a.Id, .sl .byte a.Cn, .sl .byte a.Sn, .int .i64 a.C.Role, .sl .byte a.C.Sn, .int .i64 a.C.Cur.N, .sl .byte a.C.Cur.Key, .int .i64 a.C.Cur.Seq, .int .i64 a.C.Cur.Win.Top, .sl .int a.C.Cur.Win.Bits, .int .i64 a.C.Old.N, .sl .byte a.C.Old.Key, .int .i64 a.C.Old.Seq, .int .i64 a.C.Old.Win.Top, .sl .int a.C.Old.Win.Bits, .bool a.C.HasOld, .int .i64 a.C.Until, .sl .byte a.C.Next, .int .i64 a.P.At.Host, .int .i64 a.P.At.Port, .sl .Cand a.P.Cands, .int .i64 a.Tick, .int .i64 a.Last, .bool a.Dead]
def zg2(a:Ao):List V:=[.int .i64 a.Cap, .sl .Sess a.L]
def zcL(a:Al):List V:=[.int .i64 a.A.Host, .int .i64 a.A.Port, .int .i64 a.Got, .int .i64 a.Sent]
def zf3(a:Ac):List V:=[.sl .bs a.Psks, .sl .byte a.J.Secret, .sl .byte a.D.Seed, .int .i64 a.D.N, .int .i64 a.T.Cap, .sl .Sess a.T.L, .sl .Credit a.Cr]
def zgd(a:Aa):List V:=[.int .i64 a.Kind, .int .i64 a.Id, .sl .byte a.Cn, .sl .byte a.Sn, .int .i64 a.Tick, .sl .byte a.Cookie, .sl .byte a.Proof, .int .i64 a.Epoch, .int .i64 a.Seq, .sl .byte a.Body, .sl .byte a.Tag]
def zdi(a:Aw):List V:=[.bool a.On, .int .i64 a.Due, .int .i64 a.Wait, .int .i64 a.Tries]
def zf1(a:Ae):List V:=[.int .i64 a.Id, .sl .byte a.Psk, .int .i64 a.At.Host, .int .i64 a.At.Port, .int .i64 a.St, .sl .byte a.Cn, .int .i64 a.Fin.Kind, .int .i64 a.Fin.Id, .sl .byte a.Fin.Cn, .sl .byte a.Fin.Sn, .int .i64 a.Fin.Tick, .sl .byte a.Fin.Cookie, .sl .byte a.Fin.Proof, .int .i64 a.Fin.Epoch, .int .i64 a.Fin.Seq, .sl .byte a.Fin.Body, .sl .byte a.Fin.Tag, .int .i64 a.C.Role, .sl .byte a.C.Sn, .int .i64 a.C.Cur.N, .sl .byte a.C.Cur.Key, .int .i64 a.C.Cur.Seq, .int .i64 a.C.Cur.Win.Top, .sl .int a.C.Cur.Win.Bits, .int .i64 a.C.Old.N, .sl .byte a.C.Old.Key, .int .i64 a.C.Old.Seq, .int .i64 a.C.Old.Win.Top, .sl .int a.C.Old.Win.Bits, .bool a.C.HasOld, .int .i64 a.C.Until, .sl .byte a.C.Next, .bool a.T.On, .int .i64 a.T.Due, .int .i64 a.T.Wait, .int .i64 a.T.Tries, .bool a.R.On, .int .i64 a.R.Due, .int .i64 a.R.Wait, .int .i64 a.R.Tries, .int .i64 a.Last]
def zgN(a:Ap):List V:=[.int .i64 a.From.Host, .int .i64 a.From.Port, .int .i64 a.To.Host, .int .i64 a.To.Port, .sl .byte a.B]
def zgC(a:Ad):List V:=[.int .i64 a.Kind, .int .i64 a.Id, .int .i64 a.Role, .sl .byte a.Cn, .sl .byte a.Sn, .int .i64 a.Epoch, .int .i64 a.Seq, .sl .byte a.Body, .sl .byte a.Key, .int .i64 a.A.Host, .int .i64 a.A.Port, .int .i64 a.Now]
def zgn(a:Ab):List V:=[.int .i64 a.Now, .sl .Client a.Clients, .sl .bs a.S.Psks, .sl .byte a.S.J.Secret, .sl .byte a.S.D.Seed, .int .i64 a.S.D.N, .int .i64 a.S.T.Cap, .sl .Sess a.S.T.L, .sl .Credit a.S.Cr, .sl .byte a.D.Seed, .int .i64 a.D.N, .sl .Wire a.Seen, .sl .bs a.Known, .sl .Note a.Notes]
def zg5(a:Af):List V:=[.sl .byte a.b, .int .i64 a.i, .int .i64 a.h]
def zg3(a:Av):List V:=[.int .i64 a.To.Host, .int .i64 a.To.Port, .int .i64 a.F.Kind, .int .i64 a.F.Id, .sl .byte a.F.Cn, .sl .byte a.F.Sn, .int .i64 a.F.Tick, .sl .byte a.F.Cookie, .sl .byte a.F.Proof, .int .i64 a.F.Epoch, .int .i64 a.F.Seq, .sl .byte a.F.Body, .sl .byte a.F.Tag]
def zdl(a:Kg):List V:=[.int .i64 a.kind, .str a.words]
def zgA(a:Be):List V:=[.sl .int a.H, .sl .byte a.Held, .int .i64 a.N]
def enc:(t:TN)→El t→List V
 | .byte,b=>[.int .u8 (b.toNat:Int)]
 | .int,n=>[.int .i64 n]
 | .bool,b=>[.bool b]
 | .str,s=>[.str s]
 | .bs,l=>[.sl .byte l]
 | .Addr,a=>zdz a
 | .Op,a=>zhe a
 | .Event,a=>zgk a
 | .Jar,a=>zhb a
 | .Dice,a=>zgO a
 | .Win,a=>zg7 a
 | .Ep,a=>zhf a
 | .Chan,a=>zgM a
 | .Cand,a=>zgv a
 | .Paths,a=>zgs a
 | .Sess,a=>zgD a
 | .Tab,a=>zg2 a
 | .Credit,a=>zcL a
 | .Server,a=>zf3 a
 | .Frame,a=>zgd a
 | .Timer,a=>zdi a
 | .Client,a=>zf1 a
 | .Wire,a=>zgN a
 | .Note,a=>zgC a
 | .World,a=>zgn a
 | .Cur,a=>zg5 a
 | .Out,a=>zg3 a
 | .Form,a=>zdl a
 | .Hash,a=>zgA a
def sz:TN→Nat
 | .byte=>1 | .int=>1 | .bool=>1 | .str=>1 | .bs=>1
 | .Addr=>2 | .Op=>4 | .Event=>6 | .Jar=>1 | .Dice=>2 | .Win=>2 | .Ep=>5 | .Chan=>15 | .Cand=>4 | .Paths=>3 | .Sess=>24 | .Tab=>2 | .Credit=>4 | .Server=>7 | .Frame=>11 | .Timer=>4 | .Client=>41 | .Wire=>5 | .Note=>12 | .World=>14 | .Cur=>3 | .Out=>13 | .Form=>2 | .Hash=>3
def HA:V→Option Int | .int .i64 n=>some n | _=>none
def pT:V→Option UInt8 | .int .u8 n=>some (UInt8.ofNat n.toNat) | _=>none
def TH:V→Option Bool | .bool b=>some b | _=>none
def bP:V→Option (List UInt8) | .str s=>some s | _=>none
def TN.cast{s t:TN}(h:s=t)(l:List (El s)):List (El t):=h▸l
def XA(t:TN):V→Option (List (El t))
 | .sl s l=>if h:s=t then some (TN.cast h l)else none
 | .nil=>some []
 | _=>none
def tk{α β:Type}(p:V→Option α)(cs:List V)(k:α→List V→Option β):Option β:=
 match cs with
 | c :: cs=>(p c).bind λa=>k a cs
 | []=>none
def dC{β:Type}(cs:List V)(r:β):Option β:=
 match cs with
 | []=>some r
 | _=>none
def zdv(cs:List V):Option Ai:=
 tk HA cs λf0 cs=>
 tk HA cs λf1 cs=>
 dC cs (⟨f0,f1⟩:Ai)
def zen(cs:List V):Option Bc:=
 tk HA cs λf0 cs=>
 tk HA cs λf1 cs=>
 tk HA cs λf2 cs=>
 tk (XA .byte) cs λf3 cs=>
 dC cs (⟨f0,f1,f2,f3⟩:Bc)
def zcU(cs:List V):Option Am:=
 tk HA cs λf0 cs=>
 tk HA cs λf1 cs=>
 tk HA cs λf2 cs=>
 tk HA cs λf3 cs=>
 tk (XA .byte) cs λf4 cs=>
 tk (XA .Op) cs λf5 cs=>
 dC cs (⟨f0,f1,f2,f3,f4,f5⟩:Am)
def zdR(cs:List V):Option Ba:=
 tk (XA .byte) cs λf0 cs=>
 dC cs (⟨f0⟩:Ba)
def zds(cs:List V):Option Au:=
 tk (XA .byte) cs λf0 cs=>
 tk HA cs λf1 cs=>
 dC cs (⟨f0,f1⟩:Au)
def zdX(cs:List V):Option Aq:=
 tk HA cs λf0 cs=>
 tk (XA .int) cs λf1 cs=>
 dC cs (⟨f0,f1⟩:Aq)
def zd9(cs:List V):Option Ax:=
 tk HA cs λf0 cs=>
 tk (XA .byte) cs λf1 cs=>
 tk HA cs λf2 cs=>
 tk HA cs λf3 cs=>
 tk (XA .int) cs λf4 cs=>
 dC cs (⟨f0,f1,f2,⟨f3,f4⟩⟩:Ax)
def zdP(cs:List V):Option Ak:=
 tk HA cs λf0 cs=>
 tk (XA .byte) cs λf1 cs=>
 tk HA cs λf2 cs=>
 tk (XA .byte) cs λf3 cs=>
 tk HA cs λf4 cs=>
 tk HA cs λf5 cs=>
 tk (XA .int) cs λf6 cs=>
 tk HA cs λf7 cs=>
 tk (XA .byte) cs λf8 cs=>
 tk HA cs λf9 cs=>
 tk HA cs λf10 cs=>
 tk (XA .int) cs λf11 cs=>
 tk TH cs λf12 cs=>
 tk HA cs λf13 cs=>
 tk (XA .byte) cs λf14 cs=>
 dC cs (⟨f0,f1,⟨f2,f3,f4,⟨f5,f6⟩⟩,⟨f7,f8,f9,⟨f10,f11⟩⟩,f12,f13,f14⟩:Ak)
def zdo(cs:List V):Option Az:=
 tk HA cs λf0 cs=>
 tk HA cs λf1 cs=>
 tk (XA .byte) cs λf2 cs=>
 tk HA cs λf3 cs=>
 dC cs (⟨⟨f0,f1⟩,f2,f3⟩:Az)
def zdd(cs:List V):Option Aj:=
 tk HA cs λf0 cs=>
 tk HA cs λf1 cs=>
 tk (XA .Cand) cs λf2 cs=>
 dC cs (⟨⟨f0,f1⟩,f2⟩:Aj)
def zdL(cs:List V):Option Ah:=
 tk HA cs λf0 cs=>
 tk (XA .byte) cs λf1 cs=>
 tk (XA .byte) cs λf2 cs=>
 tk HA cs λf3 cs=>
 tk (XA .byte) cs λf4 cs=>
 tk HA cs λf5 cs=>
 tk (XA .byte) cs λf6 cs=>
 tk HA cs λf7 cs=>
 tk HA cs λf8 cs=>
 tk (XA .int) cs λf9 cs=>
 tk HA cs λf10 cs=>
 tk (XA .byte) cs λf11 cs=>
 tk HA cs λf12 cs=>
 tk HA cs λf13 cs=>
 tk (XA .int) cs λf14 cs=>
 tk TH cs λf15 cs=>
 tk HA cs λf16 cs=>
 tk (XA .byte) cs λf17 cs=>
 tk HA cs λf18 cs=>
 tk HA cs λf19 cs=>
 tk (XA .Cand) cs λf20 cs=>
 tk HA cs λf21 cs=>
 tk HA cs λf22 cs=>
 tk TH cs λf23 cs=>
 dC cs (⟨f0,f1,f2,⟨f3,f4,⟨f5,f6,f7,⟨f8,f9⟩⟩,⟨f10,f11,f12,⟨f13,f14⟩⟩,f15,f16,f17⟩,⟨⟨f18,f19⟩,f20⟩,f21,f22,f23⟩:Ah)
def zdZ(cs:List V):Option Ao:=
 tk HA cs λf0 cs=>
 tk (XA .Sess) cs λf1 cs=>
 dC cs (⟨f0,f1⟩:Ao)
def zcS(cs:List V):Option Al:=
 tk HA cs λf0 cs=>
 tk HA cs λf1 cs=>
 tk HA cs λf2 cs=>
 tk HA cs λf3 cs=>
 dC cs (⟨⟨f0,f1⟩,f2,f3⟩:Al)
def zcC(cs:List V):Option Ac:=
 tk (XA .bs) cs λf0 cs=>
 tk (XA .byte) cs λf1 cs=>
 tk (XA .byte) cs λf2 cs=>
 tk HA cs λf3 cs=>
 tk HA cs λf4 cs=>
 tk (XA .Sess) cs λf5 cs=>
 tk (XA .Credit) cs λf6 cs=>
 dC cs (⟨f0,⟨f1⟩,⟨f2,f3⟩,⟨f4,f5⟩,f6⟩:Ac)
def zc7(cs:List V):Option Aa:=
 tk HA cs λf0 cs=>
 tk HA cs λf1 cs=>
 tk (XA .byte) cs λf2 cs=>
 tk (XA .byte) cs λf3 cs=>
 tk HA cs λf4 cs=>
 tk (XA .byte) cs λf5 cs=>
 tk (XA .byte) cs λf6 cs=>
 tk HA cs λf7 cs=>
 tk HA cs λf8 cs=>
 tk (XA .byte) cs λf9 cs=>
 tk (XA .byte) cs λf10 cs=>
 dC cs (⟨f0,f1,f2,f3,f4,f5,f6,f7,f8,f9,f10⟩:Aa)
def zc2(cs:List V):Option Aw:=
 tk TH cs λf0 cs=>
 tk HA cs λf1 cs=>
 tk HA cs λf2 cs=>
 tk HA cs λf3 cs=>
 dC cs (⟨f0,f1,f2,f3⟩:Aw)
def zcI(cs:List V):Option Ae:=
 tk HA cs λf0 cs=>
 tk (XA .byte) cs λf1 cs=>
 tk HA cs λf2 cs=>
 tk HA cs λf3 cs=>
 tk HA cs λf4 cs=>
 tk (XA .byte) cs λf5 cs=>
 tk HA cs λf6 cs=>
 tk HA cs λf7 cs=>
 tk (XA .byte) cs λf8 cs=>
 tk (XA .byte) cs λf9 cs=>
 tk HA cs λf10 cs=>
 tk (XA .byte) cs λf11 cs=>
 tk (XA .byte) cs λf12 cs=>
 tk HA cs λf13 cs=>
 tk HA cs λf14 cs=>
 tk (XA .byte) cs λf15 cs=>
 tk (XA .byte) cs λf16 cs=>
 tk HA cs λf17 cs=>
 tk (XA .byte) cs λf18 cs=>
 tk HA cs λf19 cs=>
 tk (XA .byte) cs λf20 cs=>
 tk HA cs λf21 cs=>
 tk HA cs λf22 cs=>
 tk (XA .int) cs λf23 cs=>
 tk HA cs λf24 cs=>
 tk (XA .byte) cs λf25 cs=>
 tk HA cs λf26 cs=>
 tk HA cs λf27 cs=>
 tk (XA .int) cs λf28 cs=>
 tk TH cs λf29 cs=>
 tk HA cs λf30 cs=>
 tk (XA .byte) cs λf31 cs=>
 tk TH cs λf32 cs=>
 tk HA cs λf33 cs=>
 tk HA cs λf34 cs=>
 tk HA cs λf35 cs=>
 tk TH cs λf36 cs=>
 tk HA cs λf37 cs=>
 tk HA cs λf38 cs=>
 tk HA cs λf39 cs=>
 tk HA cs λf40 cs=>
 dC cs (⟨f0,f1,⟨f2,f3⟩,f4,f5,⟨f6,f7,f8,f9,f10,f11,f12,f13,f14,f15,f16⟩,⟨f17,f18,⟨f19,f20,f21,⟨f22,f23⟩⟩,⟨f24,f25,f26,⟨f27,f28⟩⟩,f29,f30,f31⟩,⟨f32,f33,f34,f35⟩,⟨f36,f37,f38,f39⟩,f40⟩:Ae)
def zdN(cs:List V):Option Ap:=
 tk HA cs λf0 cs=>
 tk HA cs λf1 cs=>
 tk HA cs λf2 cs=>
 tk HA cs λf3 cs=>
 tk (XA .byte) cs λf4 cs=>
 dC cs (⟨⟨f0,f1⟩,⟨f2,f3⟩,f4⟩:Ap)
def zdO(cs:List V):Option Ad:=
 tk HA cs λf0 cs=>
 tk HA cs λf1 cs=>
 tk HA cs λf2 cs=>
 tk (XA .byte) cs λf3 cs=>
 tk (XA .byte) cs λf4 cs=>
 tk HA cs λf5 cs=>
 tk HA cs λf6 cs=>
 tk (XA .byte) cs λf7 cs=>
 tk (XA .byte) cs λf8 cs=>
 tk HA cs λf9 cs=>
 tk HA cs λf10 cs=>
 tk HA cs λf11 cs=>
 dC cs (⟨f0,f1,f2,f3,f4,f5,f6,f7,f8,⟨f9,f10⟩,f11⟩:Ad)
def zc5(cs:List V):Option Ab:=
 tk HA cs λf0 cs=>
 tk (XA .Client) cs λf1 cs=>
 tk (XA .bs) cs λf2 cs=>
 tk (XA .byte) cs λf3 cs=>
 tk (XA .byte) cs λf4 cs=>
 tk HA cs λf5 cs=>
 tk HA cs λf6 cs=>
 tk (XA .Sess) cs λf7 cs=>
 tk (XA .Credit) cs λf8 cs=>
 tk (XA .byte) cs λf9 cs=>
 tk HA cs λf10 cs=>
 tk (XA .Wire) cs λf11 cs=>
 tk (XA .bs) cs λf12 cs=>
 tk (XA .Note) cs λf13 cs=>
 dC cs (⟨f0,f1,⟨f2,⟨f3⟩,⟨f4,f5⟩,⟨f6,f7⟩,f8⟩,⟨f9,f10⟩,f11,f12,f13⟩:Ab)
def zdQ(cs:List V):Option Af:=
 tk (XA .byte) cs λf0 cs=>
 tk HA cs λf1 cs=>
 tk HA cs λf2 cs=>
 dC cs (⟨f0,f1,f2⟩:Af)
def zd6(cs:List V):Option Av:=
 tk HA cs λf0 cs=>
 tk HA cs λf1 cs=>
 tk HA cs λf2 cs=>
 tk HA cs λf3 cs=>
 tk (XA .byte) cs λf4 cs=>
 tk (XA .byte) cs λf5 cs=>
 tk HA cs λf6 cs=>
 tk (XA .byte) cs λf7 cs=>
 tk (XA .byte) cs λf8 cs=>
 tk HA cs λf9 cs=>
 tk HA cs λf10 cs=>
 tk (XA .byte) cs λf11 cs=>
 tk (XA .byte) cs λf12 cs=>
 dC cs (⟨⟨f0,f1⟩,⟨f2,f3,f4,f5,f6,f7,f8,f9,f10,f11,f12⟩⟩:Av)
def zdF(cs:List V):Option Kg:=
 tk HA cs λf0 cs=>
 tk bP cs λf1 cs=>
 dC cs (⟨f0,f1⟩:Kg)
def zdK(cs:List V):Option Be:=
 tk (XA .int) cs λf0 cs=>
 tk (XA .byte) cs λf1 cs=>
 tk HA cs λf2 cs=>
 dC cs (⟨f0,f1,f2⟩:Be)
def nF:(t:TN)→List V→Option (El t)
 | .byte,cs=>tk pT cs λb cs=>dC cs b
 | .int,cs=>tk HA cs λn cs=>dC cs n
 | .bool,cs=>tk TH cs λb cs=>dC cs b
 | .str,cs=>tk bP cs λs cs=>dC cs s
 | .bs,cs=>tk (XA .byte) cs λl cs=>dC cs l
 | .Addr,cs=>zdv cs
 | .Op,cs=>zen cs
 | .Event,cs=>zcU cs
 | .Jar,cs=>zdR cs
 | .Dice,cs=>zds cs
 | .Win,cs=>zdX cs
 | .Ep,cs=>zd9 cs
 | .Chan,cs=>zdP cs
 | .Cand,cs=>zdo cs
 | .Paths,cs=>zdd cs
 | .Sess,cs=>zdL cs
 | .Tab,cs=>zdZ cs
 | .Credit,cs=>zcS cs
 | .Server,cs=>zcC cs
 | .Frame,cs=>zc7 cs
 | .Timer,cs=>zc2 cs
 | .Client,cs=>zcI cs
 | .Wire,cs=>zdN cs
 | .Note,cs=>zdO cs
 | .World,cs=>zc5 cs
 | .Cur,cs=>zdQ cs
 | .Out,cs=>zd6 cs
 | .Form,cs=>zdF cs
 | .Hash,cs=>zdK cs
inductive UH:V→V→Prop where
 | refl (c:V):UH c c
 | byte (n:Int):UH (.int .u8 n) (.int .u8 ((UInt8.ofNat n.toNat).toNat:Int))
 | nil (t:TN):UH .nil (.sl t [])
inductive aC:List V→List V→Prop where
 | nil:aC [] []
 | cons {c d:V} {cs ds:List V}:UH c d→aC cs ds→aC (c :: cs) (d :: ds)
def KA{c:V}{n:Int}(h:HA c=some n):UH c (.int .i64 n):=by
 cases c<;>simp[HA]at h
 rename_i k m;cases k<;>simp at h;subst h;exact .refl _
def zvt{c:V}{b:UInt8}(h:pT c=some b):UH c (.int .u8 (b.toNat:Int)):=by
 cases c<;>simp[pT]at h
 rename_i k m;cases k<;>simp at h;subst h;exact .byte _
def JM{c:V}{b:Bool}(h:TH c=some b):UH c (.bool b):=by
 cases c<;>simp[TH]at h;subst h;exact .refl _
def zlY{c:V}{b:List UInt8}(h:bP c=some b):UH c (.str b):=by
 cases c<;>simp[bP]at h;subst h;exact .refl _
def ZA{t:TN}{c:V}{l:List (El t)}(h:XA t c=some l):UH c (.sl t l):=by
 cases c<;>simp[XA]at h
 ·subst h;exact .nil t
 ·obtain⟨rfl,h⟩:=h;simp[TN.cast]at h;subst h;exact .refl _
def wA{α β:Type}{p:V→Option α}{cs:List V}{k:α→List V→Option β}{r:β}(h:tk p cs k=some r):
  ∃c cs' a,cs=c :: cs'∧p c=some a∧k a cs'=some r:=by
 cases cs with
 | nil=>simp[tk]at h
 | cons c cs=>simp only[tk,Option.bind_eq_some_iff]at h;obtain⟨a,h1,h2⟩:=h;exact⟨c,cs,a,rfl,h1,h2⟩
def HD{β:Type}{cs:List V}{r s:β}(h:dC cs r=some s):cs=[]∧r=s:=by
 cases cs<;>simp[dC]at h;exact⟨rfl,h⟩
def zr0{cs:List V}{a:Ai}(h:zdv cs=some a):aC cs (zdz a):=by
 unfold zdv at h;obtain⟨c0,cs,f0,rfl,h0,h⟩:=wA h;obtain⟨c1,cs,f1,rfl,h1,h⟩:=wA h;obtain⟨rfl,rfl⟩:=HD h;exact .cons (KA h0) (.cons (KA h1) (.nil))
def zt5{cs:List V}{a:Bc}(h:zen cs=some a):aC cs (zhe a):=by
 unfold zen at h;obtain⟨c0,cs,f0,rfl,h0,h⟩:=wA h;obtain⟨c1,cs,f1,rfl,h1,h⟩:=wA h;obtain⟨c2,cs,f2,rfl,h2,h⟩:=wA h;obtain⟨c3,cs,f3,rfl,h3,h⟩:=wA h;obtain⟨rfl,rfl⟩:=HD h;exact .cons (KA h0) (.cons (KA h1) (.cons (KA h2) (.cons (ZA h3) (.nil))))
def zrv{cs:List V}{a:Am}(h:zcU cs=some a):aC cs (zgk a):=by
 unfold zcU at h;obtain⟨c0,cs,f0,rfl,h0,h⟩:=wA h;obtain⟨c1,cs,f1,rfl,h1,h⟩:=wA h;obtain⟨c2,cs,f2,rfl,h2,h⟩:=wA h;obtain⟨c3,cs,f3,rfl,h3,h⟩:=wA h;obtain⟨c4,cs,f4,rfl,h4,h⟩:=wA h;obtain⟨c5,cs,f5,rfl,h5,h⟩:=wA h;obtain⟨rfl,rfl⟩:=HD h;exact .cons (KA h0) (.cons (KA h1) (.cons (KA h2) (.cons (KA h3) (.cons (ZA h4) (.cons (ZA h5) (.nil))))))
def zsM{cs:List V}{a:Ba}(h:zdR cs=some a):aC cs (zhb a):=by
 unfold zdR at h;obtain⟨c0,cs,f0,rfl,h0,h⟩:=wA h;obtain⟨rfl,rfl⟩:=HD h;exact .cons (ZA h0) (.nil)
def zrX{cs:List V}{a:Au}(h:zds cs=some a):aC cs (zgO a):=by
 unfold zds at h;obtain⟨c0,cs,f0,rfl,h0,h⟩:=wA h;obtain⟨c1,cs,f1,rfl,h1,h⟩:=wA h;obtain⟨rfl,rfl⟩:=HD h;exact .cons (ZA h0) (.cons (KA h1) (.nil))
def zsN{cs:List V}{a:Aq}(h:zdX cs=some a):aC cs (zg7 a):=by
 unfold zdX at h;obtain⟨c0,cs,f0,rfl,h0,h⟩:=wA h;obtain⟨c1,cs,f1,rfl,h1,h⟩:=wA h;obtain⟨rfl,rfl⟩:=HD h;exact .cons (KA h0) (.cons (ZA h1) (.nil))
def ztk{cs:List V}{a:Ax}(h:zd9 cs=some a):aC cs (zhf a):=by
 unfold zd9 at h;obtain⟨c0,cs,f0,rfl,h0,h⟩:=wA h;obtain⟨c1,cs,f1,rfl,h1,h⟩:=wA h;obtain⟨c2,cs,f2,rfl,h2,h⟩:=wA h;obtain⟨c3,cs,f3,rfl,h3,h⟩:=wA h;obtain⟨c4,cs,f4,rfl,h4,h⟩:=wA h;obtain⟨rfl,rfl⟩:=HD h;exact .cons (KA h0) (.cons (ZA h1) (.cons (KA h2) (.cons (KA h3) (.cons (ZA h4) (.nil)))))
def zsx{cs:List V}{a:Ak}(h:zdP cs=some a):aC cs (zgM a):=by
 unfold zdP at h;obtain⟨c0,cs,f0,rfl,h0,h⟩:=wA h;obtain⟨c1,cs,f1,rfl,h1,h⟩:=wA h;obtain⟨c2,cs,f2,rfl,h2,h⟩:=wA h;obtain⟨c3,cs,f3,rfl,h3,h⟩:=wA h;obtain⟨c4,cs,f4,rfl,h4,h⟩:=wA h;obtain⟨c5,cs,f5,rfl,h5,h⟩:=wA h;obtain⟨c6,cs,f6,rfl,h6,h⟩:=wA h;obtain⟨c7,cs,f7,rfl,h7,h⟩:=wA h;obtain⟨c8,cs,f8,rfl,h8,h⟩:=wA h;obtain⟨c9,cs,f9,rfl,h9,h⟩:=wA h;obtain⟨BG,cs,f10,rfl,uW,h⟩:=wA h;obtain⟨cG,cs,f11,rfl,HW,h⟩:=wA h;obtain⟨GT,cs,f12,rfl,WW,h⟩:=wA h;obtain⟨c13,cs,f13,rfl,oX,h⟩:=wA h;obtain⟨IT,cs,f14,rfl,JY,h⟩:=wA h;obtain⟨rfl,rfl⟩:=HD h;exact .cons (KA h0) (.cons (ZA h1) (.cons (KA h2) (.cons (ZA h3) (.cons (KA h4) (.cons (KA h5) (.cons (ZA h6) (.cons (KA h7) (.cons (ZA h8) (.cons (KA h9) (.cons (KA uW) (.cons (ZA HW) (.cons (JM WW) (.cons (KA oX) (.cons (ZA JY) (.nil)))))))))))))))
def zsj{cs:List V}{a:Az}(h:zdo cs=some a):aC cs (zgv a):=by
 unfold zdo at h;obtain⟨c0,cs,f0,rfl,h0,h⟩:=wA h;obtain⟨c1,cs,f1,rfl,h1,h⟩:=wA h;obtain⟨c2,cs,f2,rfl,h2,h⟩:=wA h;obtain⟨c3,cs,f3,rfl,h3,h⟩:=wA h;obtain⟨rfl,rfl⟩:=HD h;exact .cons (KA h0) (.cons (KA h1) (.cons (ZA h2) (.cons (KA h3) (.nil))))
def zru{cs:List V}{a:Aj}(h:zdd cs=some a):aC cs (zgs a):=by
 unfold zdd at h;obtain⟨c0,cs,f0,rfl,h0,h⟩:=wA h;obtain⟨c1,cs,f1,rfl,h1,h⟩:=wA h;obtain⟨c2,cs,f2,rfl,h2,h⟩:=wA h;obtain⟨rfl,rfl⟩:=HD h;exact .cons (KA h0) (.cons (KA h1) (.cons (ZA h2) (.nil)))
def zsn{cs:List V}{a:Ah}(h:zdL cs=some a):aC cs (zgD a):=by
 unfold zdL at h;obtain⟨c0,cs,f0,rfl,h0,h⟩:=wA h;obtain⟨c1,cs,f1,rfl,h1,h⟩:=wA h;obtain⟨c2,cs,f2,rfl,h2,h⟩:=wA h;obtain⟨c3,cs,f3,rfl,h3,h⟩:=wA h;obtain⟨c4,cs,f4,rfl,h4,h⟩:=wA h;obtain⟨c5,cs,f5,rfl,h5,h⟩:=wA h;obtain⟨c6,cs,f6,rfl,h6,h⟩:=wA h;obtain⟨c7,cs,f7,rfl,h7,h⟩:=wA h;obtain⟨c8,cs,f8,rfl,h8,h⟩:=wA h;obtain⟨c9,cs,f9,rfl,h9,h⟩:=wA h;obtain⟨BG,cs,f10,rfl,uW,h⟩:=wA h;obtain⟨cG,cs,f11,rfl,HW,h⟩:=wA h;obtain⟨GT,cs,f12,rfl,WW,h⟩:=wA h;obtain⟨c13,cs,f13,rfl,oX,h⟩:=wA h;obtain⟨IT,cs,f14,rfl,JY,h⟩:=wA h;obtain⟨c15,cs,f15,rfl,KY,h⟩:=wA h;obtain⟨mG,cs,f16,rfl,PY,h⟩:=wA h;obtain⟨c17,cs,f17,rfl,yZ,h⟩:=wA h;obtain⟨c18,cs,f18,rfl,N1,h⟩:=wA h;obtain⟨c19,cs,f19,rfl,OZ,h⟩:=wA h;obtain⟨c20,cs,f20,rfl,PZ,h⟩:=wA h;obtain⟨c21,cs,f21,rfl,W1,h⟩:=wA h;obtain⟨c22,cs,f22,rfl,X1,h⟩:=wA h;obtain⟨c23,cs,f23,rfl,I0,h⟩:=wA h;obtain⟨rfl,rfl⟩:=HD h;exact .cons (KA h0) (.cons (ZA h1) (.cons (ZA h2) (.cons (KA h3) (.cons (ZA h4) (.cons (KA h5) (.cons (ZA h6) (.cons (KA h7) (.cons (KA h8) (.cons (ZA h9) (.cons (KA uW) (.cons (ZA HW) (.cons (KA WW) (.cons (KA oX) (.cons (ZA JY) (.cons (JM KY) (.cons (KA PY) (.cons (ZA yZ) (.cons (KA N1) (.cons (KA OZ) (.cons (ZA PZ) (.cons (KA W1) (.cons (KA X1) (.cons (JM I0) (.nil))))))))))))))))))))))))
def zs1{cs:List V}{a:Ao}(h:zdZ cs=some a):aC cs (zg2 a):=by
 unfold zdZ at h;obtain⟨c0,cs,f0,rfl,h0,h⟩:=wA h;obtain⟨c1,cs,f1,rfl,h1,h⟩:=wA h;obtain⟨rfl,rfl⟩:=HD h;exact .cons (KA h0) (.cons (ZA h1) (.nil))
def zqK{cs:List V}{a:Al}(h:zcS cs=some a):aC cs (zcL a):=by
 unfold zcS at h;obtain⟨c0,cs,f0,rfl,h0,h⟩:=wA h;obtain⟨c1,cs,f1,rfl,h1,h⟩:=wA h;obtain⟨c2,cs,f2,rfl,h2,h⟩:=wA h;obtain⟨c3,cs,f3,rfl,h3,h⟩:=wA h;obtain⟨rfl,rfl⟩:=HD h;exact .cons (KA h0) (.cons (KA h1) (.cons (KA h2) (.cons (KA h3) (.nil))))
def zqq{cs:List V}{a:Ac}(h:zcC cs=some a):aC cs (zf3 a):=by
 unfold zcC at h;obtain⟨c0,cs,f0,rfl,h0,h⟩:=wA h;obtain⟨c1,cs,f1,rfl,h1,h⟩:=wA h;obtain⟨c2,cs,f2,rfl,h2,h⟩:=wA h;obtain⟨c3,cs,f3,rfl,h3,h⟩:=wA h;obtain⟨c4,cs,f4,rfl,h4,h⟩:=wA h;obtain⟨c5,cs,f5,rfl,h5,h⟩:=wA h;obtain⟨c6,cs,f6,rfl,h6,h⟩:=wA h;obtain⟨rfl,rfl⟩:=HD h;exact .cons (ZA h0) (.cons (ZA h1) (.cons (ZA h2) (.cons (KA h3) (.cons (KA h4) (.cons (ZA h5) (.cons (ZA h6) (.nil)))))))
def zrC{cs:List V}{a:Aa}(h:zc7 cs=some a):aC cs (zgd a):=by
 unfold zc7 at h;obtain⟨c0,cs,f0,rfl,h0,h⟩:=wA h;obtain⟨c1,cs,f1,rfl,h1,h⟩:=wA h;obtain⟨c2,cs,f2,rfl,h2,h⟩:=wA h;obtain⟨c3,cs,f3,rfl,h3,h⟩:=wA h;obtain⟨c4,cs,f4,rfl,h4,h⟩:=wA h;obtain⟨c5,cs,f5,rfl,h5,h⟩:=wA h;obtain⟨c6,cs,f6,rfl,h6,h⟩:=wA h;obtain⟨c7,cs,f7,rfl,h7,h⟩:=wA h;obtain⟨c8,cs,f8,rfl,h8,h⟩:=wA h;obtain⟨c9,cs,f9,rfl,h9,h⟩:=wA h;obtain⟨BG,cs,f10,rfl,uW,h⟩:=wA h;obtain⟨rfl,rfl⟩:=HD h;exact .cons (KA h0) (.cons (KA h1) (.cons (ZA h2) (.cons (ZA h3) (.cons (KA h4) (.cons (ZA h5) (.cons (ZA h6) (.cons (KA h7) (.cons (KA h8) (.cons (ZA h9) (.cons (ZA uW) (.nil)))))))))))
def zrG{cs:List V}{a:Aw}(h:zc2 cs=some a):aC cs (zdi a):=by
 unfold zc2 at h;obtain⟨c0,cs,f0,rfl,h0,h⟩:=wA h;obtain⟨c1,cs,f1,rfl,h1,h⟩:=wA h;obtain⟨c2,cs,f2,rfl,h2,h⟩:=wA h;obtain⟨c3,cs,f3,rfl,h3,h⟩:=wA h;obtain⟨rfl,rfl⟩:=HD h;exact .cons (JM h0) (.cons (KA h1) (.cons (KA h2) (.cons (KA h3) (.nil))))
def zqN{cs:List V}{a:Ae}(h:zcI cs=some a):aC cs (zf1 a):=by
 unfold zcI at h;obtain⟨c0,cs,f0,rfl,h0,h⟩:=wA h;obtain⟨c1,cs,f1,rfl,h1,h⟩:=wA h;obtain⟨c2,cs,f2,rfl,h2,h⟩:=wA h;obtain⟨c3,cs,f3,rfl,h3,h⟩:=wA h;obtain⟨c4,cs,f4,rfl,h4,h⟩:=wA h;obtain⟨c5,cs,f5,rfl,h5,h⟩:=wA h;obtain⟨c6,cs,f6,rfl,h6,h⟩:=wA h;obtain⟨c7,cs,f7,rfl,h7,h⟩:=wA h;obtain⟨c8,cs,f8,rfl,h8,h⟩:=wA h;obtain⟨c9,cs,f9,rfl,h9,h⟩:=wA h;obtain⟨BG,cs,f10,rfl,uW,h⟩:=wA h;obtain⟨cG,cs,f11,rfl,HW,h⟩:=wA h;obtain⟨GT,cs,f12,rfl,WW,h⟩:=wA h;obtain⟨c13,cs,f13,rfl,oX,h⟩:=wA h;obtain⟨IT,cs,f14,rfl,JY,h⟩:=wA h;obtain⟨c15,cs,f15,rfl,KY,h⟩:=wA h;obtain⟨mG,cs,f16,rfl,PY,h⟩:=wA h;obtain⟨c17,cs,f17,rfl,yZ,h⟩:=wA h;obtain⟨c18,cs,f18,rfl,N1,h⟩:=wA h;obtain⟨c19,cs,f19,rfl,OZ,h⟩:=wA h;obtain⟨c20,cs,f20,rfl,PZ,h⟩:=wA h;obtain⟨c21,cs,f21,rfl,W1,h⟩:=wA h;obtain⟨c22,cs,f22,rfl,X1,h⟩:=wA h;obtain⟨c23,cs,f23,rfl,I0,h⟩:=wA h;obtain⟨c24,cs,f24,rfl,Y1,h⟩:=wA h;obtain⟨c25,cs,f25,rfl,D5,h⟩:=wA h;obtain⟨c26,cs,f26,rfl,u9,h⟩:=wA h;obtain⟨c27,cs,f27,rfl,R5,h⟩:=wA h;obtain⟨c28,cs,f28,rfl,H8,h⟩:=wA h;obtain⟨c29,cs,f29,rfl,I8,h⟩:=wA h;obtain⟨c30,cs,f30,rfl,S5,h⟩:=wA h;obtain⟨ED,cs,f31,rfl,T5,h⟩:=wA h;obtain⟨XG,cs,f32,rfl,v9,h⟩:=wA h;obtain⟨DT,cs,f33,rfl,w9,h⟩:=wA h;obtain⟨MD,cs,f34,rfl,z9,h⟩:=wA h;obtain⟨yC,cs,f35,rfl,A9,h⟩:=wA h;obtain⟨c36,cs,f36,rfl,B9,h⟩:=wA h;obtain⟨c37,cs,f37,rfl,C9,h⟩:=wA h;obtain⟨c38,cs,f38,rfl,h38,h⟩:=wA h;obtain⟨EB,cs,f39,rfl,h39,h⟩:=wA h;obtain⟨c40,cs,f40,rfl,h40,h⟩:=wA h;obtain⟨rfl,rfl⟩:=HD h;exact .cons (KA h0) (.cons (ZA h1) (.cons (KA h2) (.cons (KA h3) (.cons (KA h4) (.cons (ZA h5) (.cons (KA h6) (.cons (KA h7) (.cons (ZA h8) (.cons (ZA h9) (.cons (KA uW) (.cons (ZA HW) (.cons (ZA WW) (.cons (KA oX) (.cons (KA JY) (.cons (ZA KY) (.cons (ZA PY) (.cons (KA yZ) (.cons (ZA N1) (.cons (KA OZ) (.cons (ZA PZ) (.cons (KA W1) (.cons (KA X1) (.cons (ZA I0) (.cons (KA Y1) (.cons (ZA D5) (.cons (KA u9) (.cons (KA R5) (.cons (ZA H8) (.cons (JM I8) (.cons (KA S5) (.cons (ZA T5) (.cons (JM v9) (.cons (KA w9) (.cons (KA z9) (.cons (KA A9) (.cons (JM B9) (.cons (KA C9) (.cons (KA h38) (.cons (KA h39) (.cons (KA h40) (.nil)))))))))))))))))))))))))))))))))))))))))
def zsq{cs:List V}{a:Ap}(h:zdN cs=some a):aC cs (zgN a):=by
 unfold zdN at h;obtain⟨c0,cs,f0,rfl,h0,h⟩:=wA h;obtain⟨c1,cs,f1,rfl,h1,h⟩:=wA h;obtain⟨c2,cs,f2,rfl,h2,h⟩:=wA h;obtain⟨c3,cs,f3,rfl,h3,h⟩:=wA h;obtain⟨c4,cs,f4,rfl,h4,h⟩:=wA h;obtain⟨rfl,rfl⟩:=HD h;exact .cons (KA h0) (.cons (KA h1) (.cons (KA h2) (.cons (KA h3) (.cons (ZA h4) (.nil)))))
def zsy{cs:List V}{a:Ad}(h:zdO cs=some a):aC cs (zgC a):=by
 unfold zdO at h;obtain⟨c0,cs,f0,rfl,h0,h⟩:=wA h;obtain⟨c1,cs,f1,rfl,h1,h⟩:=wA h;obtain⟨c2,cs,f2,rfl,h2,h⟩:=wA h;obtain⟨c3,cs,f3,rfl,h3,h⟩:=wA h;obtain⟨c4,cs,f4,rfl,h4,h⟩:=wA h;obtain⟨c5,cs,f5,rfl,h5,h⟩:=wA h;obtain⟨c6,cs,f6,rfl,h6,h⟩:=wA h;obtain⟨c7,cs,f7,rfl,h7,h⟩:=wA h;obtain⟨c8,cs,f8,rfl,h8,h⟩:=wA h;obtain⟨c9,cs,f9,rfl,h9,h⟩:=wA h;obtain⟨BG,cs,f10,rfl,uW,h⟩:=wA h;obtain⟨cG,cs,f11,rfl,HW,h⟩:=wA h;obtain⟨rfl,rfl⟩:=HD h;exact .cons (KA h0) (.cons (KA h1) (.cons (KA h2) (.cons (ZA h3) (.cons (ZA h4) (.cons (KA h5) (.cons (KA h6) (.cons (ZA h7) (.cons (ZA h8) (.cons (KA h9) (.cons (KA uW) (.cons (KA HW) (.nil))))))))))))
def zrE{cs:List V}{a:Ab}(h:zc5 cs=some a):aC cs (zgn a):=by
 unfold zc5 at h;obtain⟨c0,cs,f0,rfl,h0,h⟩:=wA h;obtain⟨c1,cs,f1,rfl,h1,h⟩:=wA h;obtain⟨c2,cs,f2,rfl,h2,h⟩:=wA h;obtain⟨c3,cs,f3,rfl,h3,h⟩:=wA h;obtain⟨c4,cs,f4,rfl,h4,h⟩:=wA h;obtain⟨c5,cs,f5,rfl,h5,h⟩:=wA h;obtain⟨c6,cs,f6,rfl,h6,h⟩:=wA h;obtain⟨c7,cs,f7,rfl,h7,h⟩:=wA h;obtain⟨c8,cs,f8,rfl,h8,h⟩:=wA h;obtain⟨c9,cs,f9,rfl,h9,h⟩:=wA h;obtain⟨BG,cs,f10,rfl,uW,h⟩:=wA h;obtain⟨cG,cs,f11,rfl,HW,h⟩:=wA h;obtain⟨GT,cs,f12,rfl,WW,h⟩:=wA h;obtain⟨c13,cs,f13,rfl,oX,h⟩:=wA h;obtain⟨rfl,rfl⟩:=HD h;exact .cons (KA h0) (.cons (ZA h1) (.cons (ZA h2) (.cons (ZA h3) (.cons (ZA h4) (.cons (KA h5) (.cons (KA h6) (.cons (ZA h7) (.cons (ZA h8) (.cons (ZA h9) (.cons (KA uW) (.cons (ZA HW) (.cons (ZA WW) (.cons (ZA oX) (.nil))))))))))))))
def zsT{cs:List V}{a:Af}(h:zdQ cs=some a):aC cs (zg5 a):=by
 unfold zdQ at h;obtain⟨c0,cs,f0,rfl,h0,h⟩:=wA h;obtain⟨c1,cs,f1,rfl,h1,h⟩:=wA h;obtain⟨c2,cs,f2,rfl,h2,h⟩:=wA h;obtain⟨rfl,rfl⟩:=HD h;exact .cons (ZA h0) (.cons (KA h1) (.cons (KA h2) (.nil)))
def zsS{cs:List V}{a:Av}(h:zd6 cs=some a):aC cs (zg3 a):=by
 unfold zd6 at h;obtain⟨c0,cs,f0,rfl,h0,h⟩:=wA h;obtain⟨c1,cs,f1,rfl,h1,h⟩:=wA h;obtain⟨c2,cs,f2,rfl,h2,h⟩:=wA h;obtain⟨c3,cs,f3,rfl,h3,h⟩:=wA h;obtain⟨c4,cs,f4,rfl,h4,h⟩:=wA h;obtain⟨c5,cs,f5,rfl,h5,h⟩:=wA h;obtain⟨c6,cs,f6,rfl,h6,h⟩:=wA h;obtain⟨c7,cs,f7,rfl,h7,h⟩:=wA h;obtain⟨c8,cs,f8,rfl,h8,h⟩:=wA h;obtain⟨c9,cs,f9,rfl,h9,h⟩:=wA h;obtain⟨BG,cs,f10,rfl,uW,h⟩:=wA h;obtain⟨cG,cs,f11,rfl,HW,h⟩:=wA h;obtain⟨GT,cs,f12,rfl,WW,h⟩:=wA h;obtain⟨rfl,rfl⟩:=HD h;exact .cons (KA h0) (.cons (KA h1) (.cons (KA h2) (.cons (KA h3) (.cons (ZA h4) (.cons (ZA h5) (.cons (KA h6) (.cons (ZA h7) (.cons (ZA h8) (.cons (KA h9) (.cons (KA uW) (.cons (ZA HW) (.cons (ZA WW) (.nil)))))))))))))
def zso{cs:List V}{a:Kg}(h:zdF cs=some a):aC cs (zdl a):=by
 unfold zdF at h;obtain⟨c0,cs,f0,rfl,h0,h⟩:=wA h;obtain⟨c1,cs,f1,rfl,h1,h⟩:=wA h;obtain⟨rfl,rfl⟩:=HD h;exact .cons (KA h0) (.cons (zlY h1) (.nil))
def zrT{cs:List V}{a:Be}(h:zdK cs=some a):aC cs (zgA a):=by
 unfold zdK at h;obtain⟨c0,cs,f0,rfl,h0,h⟩:=wA h;obtain⟨c1,cs,f1,rfl,h1,h⟩:=wA h;obtain⟨c2,cs,f2,rfl,h2,h⟩:=wA h;obtain⟨rfl,rfl⟩:=HD h;exact .cons (ZA h0) (.cons (ZA h1) (.cons (KA h2) (.nil)))
def NF:(t:TN)→{cs:List V}→{a:El t}→nF t cs=some a→aC cs (enc t a)
 | .byte,cs,a,h=>by
  obtain⟨c0,cs,f0,rfl,h0,h⟩:=wA (show tk pT cs (λb cs=>dC cs b)=some a from h);obtain⟨rfl,rfl⟩:=HD h;exact .cons (zvt h0) .nil
 | .int,cs,a,h=>by
  obtain⟨c0,cs,f0,rfl,h0,h⟩:=wA (show tk HA cs (λb cs=>dC cs b)=some a from h);obtain⟨rfl,rfl⟩:=HD h;exact .cons (KA h0) .nil
 | .bool,cs,a,h=>by
  obtain⟨c0,cs,f0,rfl,h0,h⟩:=wA (show tk TH cs (λb cs=>dC cs b)=some a from h);obtain⟨rfl,rfl⟩:=HD h;exact .cons (JM h0) .nil
 | .str,cs,a,h=>by
  obtain⟨c0,cs,f0,rfl,h0,h⟩:=wA (show tk bP cs (λb cs=>dC cs b)=some a from h);obtain⟨rfl,rfl⟩:=HD h;exact .cons (zlY h0) .nil
 | .bs,cs,a,h=>by
  obtain⟨c0,cs,f0,rfl,h0,h⟩:=wA (show tk (XA .byte) cs (λb cs=>dC cs b)=some a from h);obtain⟨rfl,rfl⟩:=HD h;exact .cons (ZA h0) .nil
 | .Addr,_,_,h=>zr0 h
 | .Op,_,_,h=>zt5 h
 | .Event,_,_,h=>zrv h
 | .Jar,_,_,h=>zsM h
 | .Dice,_,_,h=>zrX h
 | .Win,_,_,h=>zsN h
 | .Ep,_,_,h=>ztk h
 | .Chan,_,_,h=>zsx h
 | .Cand,_,_,h=>zsj h
 | .Paths,_,_,h=>zru h
 | .Sess,_,_,h=>zsn h
 | .Tab,_,_,h=>zs1 h
 | .Credit,_,_,h=>zqK h
 | .Server,_,_,h=>zqq h
 | .Frame,_,_,h=>zrC h
 | .Timer,_,_,h=>zrG h
 | .Client,_,_,h=>zqN h
 | .Wire,_,_,h=>zsq h
 | .Note,_,_,h=>zsy h
 | .World,_,_,h=>zrE h
 | .Cur,_,_,h=>zsT h
 | .Out,_,_,h=>zsS h
 | .Form,_,_,h=>zso h
 | .Hash,_,_,h=>zrT h
def pD(t:TN)(a:El t):(enc t a).length=sz t:=by cases t<;>rfl
def JO(t:TN):0<sz t:=by cases t<;>simp[sz]
def V.leaf:V→Bool
 | .undef | .agg _ | .tup _=>false
 | _=>true
def zk0(t:TN)(a:El t):(enc t a).all V.leaf=true:=by cases t<;>rfl
def TN.isAgg:TN→Bool
 | .byte | .int | .bool | .str | .bs=>false
 | _=>true
end Go.D
namespace Go.D
class jA where
 tn:TypeId→Option TN
 base:Nat
end Go.D
namespace Go.D
structure RI where
 b:Nat
 n:Nat
 cap:Nat
 nl:Bool
def QF[jA](w:World)(b:Nat)(t:TN):Prop:=∃c e z,w.heap[b]?=some (.cells c e z)∧jA.tn e=some t
def zE(k:IntKind)(n:Int):Prop:=k.min≤n∧n≤k.max
def at_(b o:Nat):Addr:=⟨b,o,none⟩
variable [jA]
inductive VR(w:World)(ρ:Nat→Option RI)(bad:Nat→Prop):Value→V→Prop where
 | undef (v:Value):VR w ρ bad v .undef
 | bool (b:Bool):VR w ρ bad (.bool b) (.bool b)
 | int (k:IntKind) (n:Int) (h:zE k n):VR w ρ bad (.int k n) (.int k n)
 | str (s:List UInt8) (h:s.length≤maxLen):VR w ρ bad (.string ⟨s.toArray⟩) (.str s)
 | nil:VR w ρ bad (.slice none 0 0) .nil
 | slE (t:TN) (a:Option Addr) (cap:Nat) (h:cap≤maxLen):VR w ρ bad (.slice a 0 cap) (.sl t [])
 | slC (t:TN) (l:List (El t)) (b off cap:Nat) (u:Nat→Nat→Value) (hb:¬bad b) (hl:l.length≤cap) (hc:cap≤maxLen) (he:l≠[]→b<jA.base∨QF w b t)
   (hu:∀i,i<l.length→∀j,j<sz t→w.cell? (at_ b (off+i *sz t+j))=some (u i j))
   (hv:∀i (h:i<l.length) j,j<sz t→VR w ρ bad (u i j) ((enc t l[i]).getD j .undef)):
   VR w ρ bad (.slice (some (at_ b off)) l.length cap) (.sl t l)
 | ow (r:Nat) (ri:RI) (h:ρ r=some ri) (hn:ri.n≤ri.cap) (hc:ri.cap≤maxLen) (jW:ri.nl=false):VR w ρ bad (.slice (some (at_ ri.b 0)) ri.n ri.cap) (.ow r)
 | owN (r:Nat) (ri:RI) (ao:Option Addr) (h:ρ r=some ri) (hn:ri.n=0) (jW:ri.nl=true):VR w ρ bad (.slice ao 0 0) (.ow r)
 | ov (r:Nat) (t:TN) (off len cap:Nat) (a:Option Addr) (ri:RI) (h:ρ r=some ri) (U5:off+len≤ri.n) (ha:len=0∧cap=0∨a=some (at_ ri.b (off *sz t))∧ri.nl=false∧off+cap≤ri.cap)
   (hl:len≤cap) (hc:cap≤maxLen):VR w ρ bad (.slice a len cap) (.ov r t off len)
 | bp (r off:Nat) (ri:RI) (h:ρ r=some ri) (jW:ri.nl=false):VR w ρ bad (.pointer (some (at_ ri.b off))) (.bp r off)
 | ep (r:Nat) (t:TN) (i off:Nat) (ri:RI) (h:ρ r=some ri) (jW:ri.nl=false):VR w ρ bad (.pointer (some (at_ ri.b (i *sz t+off)))) (.ep r t i off)
 | fp (cs:List V) (off b o:Nat) (u:Nat→Value) (h0:0<cs.length) (hb:¬bad b) (hu:∀j,j<cs.length→w.cell? (at_ b (o+j))=some (u j))
   (hv:∀j (h:j<cs.length),VR w ρ bad (u j) cs[j]):VR w ρ bad (.pointer (some (at_ b (o+off)))) (.fp cs off)
 | fn (f:Nat) (cs:List V) (caps:Array Value) (hs:caps.size=cs.length) (hv:∀j (h:j<cs.length),VR w ρ bad (caps.getD j undef) cs[j]):
   VR w ρ bad (.func (.func f) #[] caps) (.fn f cs)
 | agg (cs:List V) (vs:Array Value) (hs:vs.size=cs.length) (hv:∀j (h:j<cs.length),VR w ρ bad (vs.getD j undef) cs[j]):VR w ρ bad (.agg vs) (.agg cs)
 | tup (cs:List V) (vs:Array Value) (hs:vs.size=cs.length) (hv:∀j (h:j<cs.length),VR w ρ bad (vs.getD j undef) cs[j]):VR w ρ bad (.tuple vs) (.tup cs)
 | nili:VR w ρ bad .nilIface .nili
 | ifc (t:TypeId) (v:Value):VR w ρ bad (.iface t v) (.ifc false)
 | ifn:VR w ρ bad .nilIface (.ifc true)
inductive IB(S:Nat→Prop):V→Prop where
 | undef:IB S .undef
 | bool (b:Bool):IB S (.bool b)
 | int (k:IntKind) (n:Int):IB S (.int k n)
 | str (s:List UInt8):IB S (.str s)
 | nil:IB S .nil
 | sl (t:TN) (l:List (El t)) (h:∀i (h:i<l.length) j,j<sz t→IB S ((enc t l[i]).getD j .undef)):IB S (.sl t l)
 | ow (r:Nat) (h:S r):IB S (.ow r)
 | ov (r:Nat) (t:TN) (off len:Nat) (h:S r):IB S (.ov r t off len)
 | bp (r off:Nat) (h:S r):IB S (.bp r off)
 | ep (r:Nat) (t:TN) (i off:Nat) (h:S r):IB S (.ep r t i off)
 | fp (cs:List V) (off:Nat) (h:∀j (h:j<cs.length),IB S cs[j]):IB S (.fp cs off)
 | fn (f:Nat) (cs:List V) (h:∀j (h:j<cs.length),IB S cs[j]):IB S (.fn f cs)
 | agg (cs:List V) (h:∀j (h:j<cs.length),IB S cs[j]):IB S (.agg cs)
 | tup (cs:List V) (h:∀j (h:j<cs.length),IB S cs[j]):IB S (.tup cs)
 | nili:IB S .nili
 | ifc (b:Bool):IB S (.ifc b)
section
variable {w:World} {ρ:Nat→Option RI} {bad:Nat→Prop} {v:Value} {d:V}
def VR.refs(h:VR w ρ bad v d):IB (λr=>ρ r≠none) d:=by
 induction h with
 | undef=>exact .undef
 | bool=>exact .bool _
 | int=>exact .int _ _
 | str=>exact .str _
 | nil=>exact .nil
 | slE=>exact .sl _ _ (λi h=>by simp at h)
 | slC t l b off cap u hb hl hc he hu hv ih=>exact .sl _ _ ih
 | ow r ri h=>exact .ow _ (by simp[h])
 | owN r ri ao h=>exact .ow _ (by simp[h])
 | ov r t off len cap a ri h=>exact .ov _ _ _ _ (by simp[h])
 | bp r off ri h=>exact .bp _ _ (by simp[h])
 | ep r t i off ri h=>exact .ep _ _ _ _ (by simp[h])
 | fp cs off b o u h0 hb hu hv ih=>exact .fp _ _ ih
 | fn f cs caps hs hv ih=>exact .fn _ _ ih
 | agg cs vs hs hv ih=>exact .agg _ ih
 | tup cs vs hs hv ih=>exact .tup _ ih
 | nili=>exact .nili
 | ifc=>exact .ifc _
 | ifn=>exact .ifc _
omit [jA]in
def uV{w:World}{b o:Nat}{u:Value}(h:w.cell? (at_ b o)=some u):b<w.heap.size:=by
 rcases Nat.lt_or_ge b w.heap.size with h' | h'
 ·exact h'
 ·simp[World.cell?,at_,Array.getElem?_eq_none h']at h
omit [jA]in
def WJ{w w':World}{b o:Nat}(h:w'.heap[b]?=w.heap[b]?):w'.cell? (at_ b o)=w.cell? (at_ b o):=by
 simp[World.cell?,at_,h]
def QF.same{w w':World}{b:Nat}{t:TN}(h:QF w b t)(hw:w'.heap[b]?=w.heap[b]?):QF w' b t:=by
 obtain⟨c,e,z,h1,h2⟩:=h;exact⟨c,e,z,hw.trans h1,h2⟩
def QF.uniq{w:World}{b:Nat}{t t':TN}(h:QF w b t)(h':QF w b t'):t=t':=by
 obtain⟨c,e,z,h1,h2⟩:=h;obtain⟨c',e',z',h1',h2'⟩:=h'
 grind
def VR.keep{w':World}{ρ':Nat→Option RI}{bad':Nat→Prop}{S:Nat→Prop}(h:VR w ρ bad v d)(hS:IB S d)
  (hρ:∀r ri,S r→ρ r=some ri→ρ' r=some ri)
  (hw:∀b,¬bad b→b<w.heap.size→w'.heap[b]?=w.heap[b]?) (hb:∀b,bad' b→bad b∨w.heap.size≤b):VR w' ρ' bad' v d:=by
 have nW:∀b,¬bad b→b<w.heap.size→¬bad' b:=λb h1 h2 h3=>(hb b h3).elim h1 (by omega);induction h with
 | undef=>exact .undef _
 | bool=>exact .bool _
 | int k n h=>exact .int _ _ h
 | str s h=>exact .str _ h
 | nil=>exact .nil
 | slE t a cap h=>exact .slE _ _ _ h
 | slC t l b off cap u hb hl hc he hu hv ih=>
  by_cases Z1:l.length=0
  ·obtain rfl:l=[]:=List.eq_nil_of_length_eq_zero Z1;exact .slE _ _ _ hc
  ·have NV:b<w.heap.size:=uV (hu 0 (by omega) 0 (JO t));cases hS with
   | sl _ _ hS=>
   exact .slC t l b off cap u (nW b hb NV) hl hc (λh0=>(he h0).imp id λk=>k.same (hw b hb NV)) (λi h j hj=>(WJ (hw b hb NV)).trans (hu i h j hj)) (λi h j hj=>ih i h j hj (hS i h j hj))
 | ow r ri h hn hc jW=>cases hS with | ow _ hs=>exact .ow _ _ (hρ _ _ hs h) hn hc jW
 | owN r ri ao h hn jW=>cases hS with | ow _ hs=>exact .owN _ _ _ (hρ _ _ hs h) hn jW
 | ov r t off len cap a ri h U5 ha hl hc=>cases hS with | ov _ _ _ _ hs=>exact .ov _ _ _ _ _ _ _ (hρ _ _ hs h) U5 ha hl hc
 | bp r off ri h jW=>cases hS with | bp _ _ hs=>exact .bp _ _ _ (hρ _ _ hs h) jW
 | ep r t i off ri h jW=>cases hS with | ep _ _ _ _ hs=>exact .ep _ _ _ _ _ (hρ _ _ hs h) jW
 | fp cs off b o u h0 hb hu hv ih=>
  cases hS with
  | fp _ _ hS=>
  have NV:b<w.heap.size:=uV (hu 0 h0);exact .fp cs off b o u h0 (nW b hb NV) (λj hj=>(WJ (hw b hb NV)).trans (hu j hj)) (λj hj=>ih j hj (hS j hj))
 | fn f cs caps hs hv ih=>cases hS with | fn _ _ hS=>exact .fn _ _ _ hs (λj hj=>ih j hj (hS j hj))
 | agg cs vs hs hv ih=>cases hS with | agg _ hS=>exact .agg _ _ hs (λj hj=>ih j hj (hS j hj))
 | tup cs vs hs hv ih=>cases hS with | tup _ hS=>exact .tup _ _ hs (λj hj=>ih j hj (hS j hj))
 | nili=>exact .nili
 | ifc=>exact .ifc _ _
 | ifn=>exact .ifn
def nT(w:World)(b:Nat):Prop:=∃o u,w.cell? (at_ b o)=some u
def VR.keep2{w':World}{ρ':Nat→Option RI}{bad':Nat→Prop}{S:Nat→Prop}(h:VR w ρ bad v d)(hS:IB S d)
  (hρ:∀r ri,S r→ρ r=some ri→ρ' r=some ri)
  (hw:∀b,¬bad b→nT w b→w'.heap[b]?=w.heap[b]?) (hb:∀b,nT w b→bad' b→bad b):VR w' ρ' bad' v d:=by
 have nW:∀b,¬bad b→nT w b→¬bad' b:=λb h1 h2 h3=>h1 (hb b h2 h3);induction h with
 | undef=>exact .undef _
 | bool=>exact .bool _
 | int k n h=>exact .int _ _ h
 | str s h=>exact .str _ h
 | nil=>exact .nil
 | slE t a cap h=>exact .slE _ _ _ h
 | slC t l b off cap u hb hl hc he hu hv ih=>
  by_cases Z1:l.length=0
  ·obtain rfl:l=[]:=List.eq_nil_of_length_eq_zero Z1;exact .slE _ _ _ hc
  ·have NV:nT w b:=⟨_,_,hu 0 (by omega) 0 (JO t)⟩;cases hS with
   | sl _ _ hS=>
   exact .slC t l b off cap u (nW b hb NV) hl hc (λh0=>(he h0).imp id λk=>k.same (hw b hb NV)) (λi h j hj=>(WJ (hw b hb NV)).trans (hu i h j hj)) (λi h j hj=>ih i h j hj (hS i h j hj))
 | ow r ri h hn hc jW=>cases hS with | ow _ hs=>exact .ow _ _ (hρ _ _ hs h) hn hc jW
 | owN r ri ao h hn jW=>cases hS with | ow _ hs=>exact .owN _ _ _ (hρ _ _ hs h) hn jW
 | ov r t off len cap a ri h U5 ha hl hc=>cases hS with | ov _ _ _ _ hs=>exact .ov _ _ _ _ _ _ _ (hρ _ _ hs h) U5 ha hl hc
 | bp r off ri h jW=>cases hS with | bp _ _ hs=>exact .bp _ _ _ (hρ _ _ hs h) jW
 | ep r t i off ri h jW=>cases hS with | ep _ _ _ _ hs=>exact .ep _ _ _ _ _ (hρ _ _ hs h) jW
 | fp cs off b o u h0 hb hu hv ih=>
  cases hS with
  | fp _ _ hS=>
  have NV:nT w b:=⟨_,_,hu 0 h0⟩;exact .fp cs off b o u h0 (nW b hb NV) (λj hj=>(WJ (hw b hb NV)).trans (hu j hj)) (λj hj=>ih j hj (hS j hj))
 | fn f cs caps hs hv ih=>cases hS with | fn _ _ hS=>exact .fn _ _ _ hs (λj hj=>ih j hj (hS j hj))
 | agg cs vs hs hv ih=>cases hS with | agg _ hS=>exact .agg _ _ hs (λj hj=>ih j hj (hS j hj))
 | tup cs vs hs hv ih=>cases hS with | tup _ hS=>exact .tup _ _ hs (λj hj=>ih j hj (hS j hj))
 | nili=>exact .nili
 | ifc=>exact .ifc _ _
 | ifn=>exact .ifn
omit [jA]in
def IB.all{S:Nat→Prop}{d:V}(hS:∀r,S r)(h:IB (λr=>ρ r≠none) d):IB S d:=by
 induction h with
 | undef=>exact .undef
 | bool=>exact .bool _
 | int=>exact .int _ _
 | str=>exact .str _
 | nil=>exact .nil
 | sl t l h ih=>exact .sl _ _ ih
 | ow r h=>exact .ow _ (hS _)
 | ov r t off len h=>exact .ov _ _ _ _ (hS _)
 | bp r off h=>exact .bp _ _ (hS _)
 | ep r t i off h=>exact .ep _ _ _ _ (hS _)
 | fp cs off h ih=>exact .fp _ _ ih
 | fn f cs h ih=>exact .fn _ _ ih
 | agg cs h ih=>exact .agg _ ih
 | tup cs h ih=>exact .tup _ ih
 | nili=>exact .nili
 | ifc=>exact .ifc _
def VR.mono{w':World}{ρ':Nat→Option RI}{bad':Nat→Prop}(h:VR w ρ bad v d)(hρ:∀r ri,ρ r=some ri→ρ' r=some ri)
  (hw:∀b,¬bad b→b<w.heap.size→w'.heap[b]?=w.heap[b]?) (hb:∀b,bad' b→bad b∨w.heap.size≤b):VR w' ρ' bad' v d:=
 h.keep (S:=λ_=>True) (IB.all (λ_=>trivial) h.refs) (λr ri _=>hρ r ri) hw hb
def VR.one(h:VR w ρ bad v d)(hd:d.leaf=true):v.oneCell'=true:=by
 cases h<;>first | rfl | simp[V.leaf]at hd
omit [jA]in
def ztE(n:Int)(h:zE .u8 n):((UInt8.ofNat n.toNat).toNat:Int)=n:=by
 obtain⟨h1,h2⟩:=h;simp[IntKind.min,IntKind.max,IntKind.signed,IntKind.bits]at h1 h2;simp only[UInt8.toNat_ofNat'];omega
def VR.sub{c d:V}(hs:UH c d)(h:VR w ρ bad v c):VR w ρ bad v d:=by
 cases hs with
 | refl=>exact h
 | byte n=>cases h with | int _ _ hf=>rw[ztE n hf];exact .int _ _ hf
 | nil t=>cases h;exact .slE _ _ _ (Nat.zero_le _)
end
end Go.D
namespace Go.D
def UB(S:Nat→Prop)(a:UInt8)(j:Nat):IB S ((enc .byte a).getD j .undef):=by
 match j with
 | 0=>exact .int _ _
 | n+1=>exact .undef
def jK(S:Nat→Prop)(a:Int)(j:Nat):IB S ((enc .int a).getD j .undef):=by
 match j with
 | 0=>exact .int _ _
 | n+1=>exact .undef
def zuS(S:Nat→Prop)(a:Bool)(j:Nat):IB S ((enc .bool a).getD j .undef):=by
 match j with
 | 0=>exact .bool _
 | n+1=>exact .undef
def zv6(S:Nat→Prop)(a:List UInt8)(j:Nat):IB S ((enc .str a).getD j .undef):=by
 match j with
 | 0=>exact .str _
 | n+1=>exact .undef
def zd3(S:Nat→Prop)(a:List UInt8)(j:Nat):IB S ((enc .bs a).getD j .undef):=by
 match j with
 | 0=>exact .sl _ _ λi h j _=>UB S _ j
 | n+1=>exact .undef
def zu3(S:Nat→Prop)(a:Ai)(j:Nat):IB S ((enc .Addr a).getD j .undef):=by
 match j with
 | 0=>exact .int _ _
 | 1=>exact .int _ _
 | n+2=>exact .undef
def zmg(S:Nat→Prop)(a:Bc)(j:Nat):IB S ((enc .Op a).getD j .undef):=by
 match j with
 | 0=>exact .int _ _
 | 1=>exact .int _ _
 | 2=>exact .int _ _
 | 3=>exact .sl _ _ λi h j _=>UB S _ j
 | n+4=>exact .undef
def ztu(S:Nat→Prop)(a:Am)(j:Nat):IB S ((enc .Event a).getD j .undef):=by
 match j with
 | 0=>exact .int _ _
 | 1=>exact .int _ _
 | 2=>exact .int _ _
 | 3=>exact .int _ _
 | 4=>exact .sl _ _ λi h j _=>UB S _ j
 | 5=>exact .sl _ _ λi h j _=>zmg S _ j
 | n+6=>exact .undef
def zwf(S:Nat→Prop)(a:Ba)(j:Nat):IB S ((enc .Jar a).getD j .undef):=by
 match j with
 | 0=>exact .sl _ _ λi h j _=>UB S _ j
 | n+1=>exact .undef
def zuu(S:Nat→Prop)(a:Au)(j:Nat):IB S ((enc .Dice a).getD j .undef):=by
 match j with
 | 0=>exact .sl _ _ λi h j _=>UB S _ j
 | 1=>exact .int _ _
 | n+2=>exact .undef
def zvK(S:Nat→Prop)(a:Aq)(j:Nat):IB S ((enc .Win a).getD j .undef):=by
 match j with
 | 0=>exact .int _ _
 | 1=>exact .sl _ _ λi h j _=>jK S _ j
 | n+2=>exact .undef
def zwU(S:Nat→Prop)(a:Ax)(j:Nat):IB S ((enc .Ep a).getD j .undef):=by
 match j with
 | 0=>exact .int _ _
 | 1=>exact .sl _ _ λi h j _=>UB S _ j
 | 2=>exact .int _ _
 | 3=>exact .int _ _
 | 4=>exact .sl _ _ λi h j _=>jK S _ j
 | n+5=>exact .undef
def zuL(S:Nat→Prop)(a:Ak)(j:Nat):IB S ((enc .Chan a).getD j .undef):=by
 match j with
 | 0=>exact .int _ _
 | 1=>exact .sl _ _ λi h j _=>UB S _ j
 | 2=>exact .int _ _
 | 3=>exact .sl _ _ λi h j _=>UB S _ j
 | 4=>exact .int _ _
 | 5=>exact .int _ _
 | 6=>exact .sl _ _ λi h j _=>jK S _ j
 | 7=>exact .int _ _
 | 8=>exact .sl _ _ λi h j _=>UB S _ j
 | 9=>exact .int _ _
 | 10=>exact .int _ _
 | 11=>exact .sl _ _ λi h j _=>jK S _ j
 | 12=>exact .bool _
 | 13=>exact .int _ _
 | 14=>exact .sl _ _ λi h j _=>UB S _ j
 | n+15=>exact .undef
def zgi(S:Nat→Prop)(a:Az)(j:Nat):IB S ((enc .Cand a).getD j .undef):=by
 match j with
 | 0=>exact .int _ _
 | 1=>exact .int _ _
 | 2=>exact .sl _ _ λi h j _=>UB S _ j
 | 3=>exact .int _ _
 | n+4=>exact .undef
def ztF(S:Nat→Prop)(a:Aj)(j:Nat):IB S ((enc .Paths a).getD j .undef):=by
 match j with
 | 0=>exact .int _ _
 | 1=>exact .int _ _
 | 2=>exact .sl _ _ λi h j _=>zgi S _ j
 | n+3=>exact .undef
def zc0(S:Nat→Prop)(a:Ah)(j:Nat):IB S ((enc .Sess a).getD j .undef):=by
 match j with
 | 0=>exact .int _ _
 | 1=>exact .sl _ _ λi h j _=>UB S _ j
 | 2=>exact .sl _ _ λi h j _=>UB S _ j
 | 3=>exact .int _ _
 | 4=>exact .sl _ _ λi h j _=>UB S _ j
 | 5=>exact .int _ _
 | 6=>exact .sl _ _ λi h j _=>UB S _ j
 | 7=>exact .int _ _
 | 8=>exact .int _ _
 | 9=>exact .sl _ _ λi h j _=>jK S _ j
 | 10=>exact .int _ _
 | 11=>exact .sl _ _ λi h j _=>UB S _ j
 | 12=>exact .int _ _
 | 13=>exact .int _ _
 | 14=>exact .sl _ _ λi h j _=>jK S _ j
 | 15=>exact .bool _
 | 16=>exact .int _ _
 | 17=>exact .sl _ _ λi h j _=>UB S _ j
 | 18=>exact .int _ _
 | 19=>exact .int _ _
 | 20=>exact .sl _ _ λi h j _=>zgi S _ j
 | 21=>exact .int _ _
 | 22=>exact .int _ _
 | 23=>exact .bool _
 | n+24=>exact .undef
def zwm(S:Nat→Prop)(a:Ao)(j:Nat):IB S ((enc .Tab a).getD j .undef):=by
 match j with
 | 0=>exact .int _ _
 | 1=>exact .sl _ _ λi h j _=>zc0 S _ j
 | n+2=>exact .undef
def zfM(S:Nat→Prop)(a:Al)(j:Nat):IB S ((enc .Credit a).getD j .undef):=by
 match j with
 | 0=>exact .int _ _
 | 1=>exact .int _ _
 | 2=>exact .int _ _
 | 3=>exact .int _ _
 | n+4=>exact .undef
def zs2(S:Nat→Prop)(a:Ac)(j:Nat):IB S ((enc .Server a).getD j .undef):=by
 match j with
 | 0=>exact .sl _ _ λi h j _=>zd3 S _ j
 | 1=>exact .sl _ _ λi h j _=>UB S _ j
 | 2=>exact .sl _ _ λi h j _=>UB S _ j
 | 3=>exact .int _ _
 | 4=>exact .int _ _
 | 5=>exact .sl _ _ λi h j _=>zc0 S _ j
 | 6=>exact .sl _ _ λi h j _=>zfM S _ j
 | n+7=>exact .undef
def ztV(S:Nat→Prop)(a:Aa)(j:Nat):IB S ((enc .Frame a).getD j .undef):=by
 match j with
 | 0=>exact .int _ _
 | 1=>exact .int _ _
 | 2=>exact .sl _ _ λi h j _=>UB S _ j
 | 3=>exact .sl _ _ λi h j _=>UB S _ j
 | 4=>exact .int _ _
 | 5=>exact .sl _ _ λi h j _=>UB S _ j
 | 6=>exact .sl _ _ λi h j _=>UB S _ j
 | 7=>exact .int _ _
 | 8=>exact .int _ _
 | 9=>exact .sl _ _ λi h j _=>UB S _ j
 | 10=>exact .sl _ _ λi h j _=>UB S _ j
 | n+11=>exact .undef
def ztU(S:Nat→Prop)(a:Aw)(j:Nat):IB S ((enc .Timer a).getD j .undef):=by
 match j with
 | 0=>exact .bool _
 | 1=>exact .int _ _
 | 2=>exact .int _ _
 | 3=>exact .int _ _
 | n+4=>exact .undef
def zjY(S:Nat→Prop)(a:Ae)(j:Nat):IB S ((enc .Client a).getD j .undef):=by
 match j with
 | 0=>exact .int _ _
 | 1=>exact .sl _ _ λi h j _=>UB S _ j
 | 2=>exact .int _ _
 | 3=>exact .int _ _
 | 4=>exact .int _ _
 | 5=>exact .sl _ _ λi h j _=>UB S _ j
 | 6=>exact .int _ _
 | 7=>exact .int _ _
 | 8=>exact .sl _ _ λi h j _=>UB S _ j
 | 9=>exact .sl _ _ λi h j _=>UB S _ j
 | 10=>exact .int _ _
 | 11=>exact .sl _ _ λi h j _=>UB S _ j
 | 12=>exact .sl _ _ λi h j _=>UB S _ j
 | 13=>exact .int _ _
 | 14=>exact .int _ _
 | 15=>exact .sl _ _ λi h j _=>UB S _ j
 | 16=>exact .sl _ _ λi h j _=>UB S _ j
 | 17=>exact .int _ _
 | 18=>exact .sl _ _ λi h j _=>UB S _ j
 | 19=>exact .int _ _
 | 20=>exact .sl _ _ λi h j _=>UB S _ j
 | 21=>exact .int _ _
 | 22=>exact .int _ _
 | 23=>exact .sl _ _ λi h j _=>jK S _ j
 | 24=>exact .int _ _
 | 25=>exact .sl _ _ λi h j _=>UB S _ j
 | 26=>exact .int _ _
 | 27=>exact .int _ _
 | 28=>exact .sl _ _ λi h j _=>jK S _ j
 | 29=>exact .bool _
 | 30=>exact .int _ _
 | 31=>exact .sl _ _ λi h j _=>UB S _ j
 | 32=>exact .bool _
 | 33=>exact .int _ _
 | 34=>exact .int _ _
 | 35=>exact .int _ _
 | 36=>exact .bool _
 | 37=>exact .int _ _
 | 38=>exact .int _ _
 | 39=>exact .int _ _
 | 40=>exact .int _ _
 | n+41=>exact .undef
def zlt(S:Nat→Prop)(a:Ap)(j:Nat):IB S ((enc .Wire a).getD j .undef):=by
 match j with
 | 0=>exact .int _ _
 | 1=>exact .int _ _
 | 2=>exact .int _ _
 | 3=>exact .int _ _
 | 4=>exact .sl _ _ λi h j _=>UB S _ j
 | n+5=>exact .undef
def zkX(S:Nat→Prop)(a:Ad)(j:Nat):IB S ((enc .Note a).getD j .undef):=by
 match j with
 | 0=>exact .int _ _
 | 1=>exact .int _ _
 | 2=>exact .int _ _
 | 3=>exact .sl _ _ λi h j _=>UB S _ j
 | 4=>exact .sl _ _ λi h j _=>UB S _ j
 | 5=>exact .int _ _
 | 6=>exact .int _ _
 | 7=>exact .sl _ _ λi h j _=>UB S _ j
 | 8=>exact .sl _ _ λi h j _=>UB S _ j
 | 9=>exact .int _ _
 | 10=>exact .int _ _
 | 11=>exact .int _ _
 | n+12=>exact .undef
def zt0(S:Nat→Prop)(a:Ab)(j:Nat):IB S ((enc .World a).getD j .undef):=by
 match j with
 | 0=>exact .int _ _
 | 1=>exact .sl _ _ λi h j _=>zjY S _ j
 | 2=>exact .sl _ _ λi h j _=>zd3 S _ j
 | 3=>exact .sl _ _ λi h j _=>UB S _ j
 | 4=>exact .sl _ _ λi h j _=>UB S _ j
 | 5=>exact .int _ _
 | 6=>exact .int _ _
 | 7=>exact .sl _ _ λi h j _=>zc0 S _ j
 | 8=>exact .sl _ _ λi h j _=>zfM S _ j
 | 9=>exact .sl _ _ λi h j _=>UB S _ j
 | 10=>exact .int _ _
 | 11=>exact .sl _ _ λi h j _=>zlt S _ j
 | 12=>exact .sl _ _ λi h j _=>zd3 S _ j
 | 13=>exact .sl _ _ λi h j _=>zkX S _ j
 | n+14=>exact .undef
def zwp(S:Nat→Prop)(a:Af)(j:Nat):IB S ((enc .Cur a).getD j .undef):=by
 match j with
 | 0=>exact .sl _ _ λi h j _=>UB S _ j
 | 1=>exact .int _ _
 | 2=>exact .int _ _
 | n+3=>exact .undef
def zwv(S:Nat→Prop)(a:Av)(j:Nat):IB S ((enc .Out a).getD j .undef):=by
 match j with
 | 0=>exact .int _ _
 | 1=>exact .int _ _
 | 2=>exact .int _ _
 | 3=>exact .int _ _
 | 4=>exact .sl _ _ λi h j _=>UB S _ j
 | 5=>exact .sl _ _ λi h j _=>UB S _ j
 | 6=>exact .int _ _
 | 7=>exact .sl _ _ λi h j _=>UB S _ j
 | 8=>exact .sl _ _ λi h j _=>UB S _ j
 | 9=>exact .int _ _
 | 10=>exact .int _ _
 | 11=>exact .sl _ _ λi h j _=>UB S _ j
 | 12=>exact .sl _ _ λi h j _=>UB S _ j
 | n+13=>exact .undef
def zus(S:Nat→Prop)(a:Kg)(j:Nat):IB S ((enc .Form a).getD j .undef):=by
 match j with
 | 0=>exact .int _ _
 | 1=>exact .str _
 | n+2=>exact .undef
def zuV(S:Nat→Prop)(a:Be)(j:Nat):IB S ((enc .Hash a).getD j .undef):=by
 match j with
 | 0=>exact .sl _ _ λi h j _=>jK S _ j
 | 1=>exact .sl _ _ λi h j _=>UB S _ j
 | 2=>exact .int _ _
 | n+3=>exact .undef
def MM(S:Nat→Prop)(t:TN)(a:El t)(j:Nat):IB S ((enc t a).getD j .undef):=by
 cases t with
 | byte=>exact UB S a j
 | int=>exact jK S a j
 | bool=>exact zuS S a j
 | str=>exact zv6 S a j
 | bs=>exact zd3 S a j
 | Addr=>exact zu3 S a j
 | Op=>exact zmg S a j
 | Event=>exact ztu S a j
 | Jar=>exact zwf S a j
 | Dice=>exact zuu S a j
 | Win=>exact zvK S a j
 | Ep=>exact zwU S a j
 | Chan=>exact zuL S a j
 | Cand=>exact zgi S a j
 | Paths=>exact ztF S a j
 | Sess=>exact zc0 S a j
 | Tab=>exact zwm S a j
 | Credit=>exact zfM S a j
 | Server=>exact zs2 S a j
 | Frame=>exact ztV S a j
 | Timer=>exact ztU S a j
 | Client=>exact zjY S a j
 | Wire=>exact zlt S a j
 | Note=>exact zkX S a j
 | World=>exact zt0 S a j
 | Cur=>exact zwp S a j
 | Out=>exact zwv S a j
 | Form=>exact zus S a j
 | Hash=>exact zuV S a j
end Go.D
