/-
 The data of the program as plain structures; values of the plain semantics; their encoding as flat cells.
-/
import GoSem.Core.Value
import Derived.Calls
import Derived.WalkKit
import GoSem.ClaimData
set_option linter.all false
namespace Go.D
structure Ai where
 Host:Int
 Port:Int
structure Bc where
 Kind:Int
 I:Int
 J:Int
 B:(List UInt8)
structure Am where
 Kind:Int
 I:Int
 J:Int
 N:Int
 B:(List UInt8)
 Ops:(List Bc)
structure Ba where
 Secret:(List UInt8)
structure Au where
 Seed:(List UInt8)
 N:Int
structure Aq where
 Top:Int
 Bits:(List Int)
structure Ax where
 N:Int
 Key:(List UInt8)
 Seq:Int
 Win:Aq
structure Ak where
 Role:Int
 Sn:(List UInt8)
 Cur:Ax
 Old:Ax
 HasOld:Bool
 Until:Int
 Next:(List UInt8)
structure Az where
 A:Ai
 Draw:(List UInt8)
 Until:Int
structure Aj where
 At:Ai
 Cands:(List Az)
structure Ah where
 Id:Int
 Cn:(List UInt8)
 Sn:(List UInt8)
 C:Ak
 P:Aj
 Tick:Int
 Last:Int
 Dead:Bool
structure Ao where
 Cap:Int
 L:(List Ah)
structure Al where
 A:Ai
 Got:Int
 Sent:Int
structure Ac where
 Psks:(List (List UInt8))
 J:Ba
 D:Au
 T:Ao
 Cr:(List Al)
structure Ab where
 Kind:Int
 Id:Int
 Cn:(List UInt8)
 Sn:(List UInt8)
 Tick:Int
 Cookie:(List UInt8)
 Proof:(List UInt8)
 Epoch:Int
 Seq:Int
 Body:(List UInt8)
 Tag:(List UInt8)
structure Aw where
 On:Bool
 Due:Int
 Wait:Int
 Tries:Int
structure Ae where
 Id:Int
 Psk:(List UInt8)
 At:Ai
 St:Int
 Cn:(List UInt8)
 Fin:Ab
 C:Ak
 T:Aw
 R:Aw
 Last:Int
structure Ap where
 From:Ai
 To:Ai
 B:(List UInt8)
structure Ad where
 Kind:Int
 Id:Int
 Role:Int
 Cn:(List UInt8)
 Sn:(List UInt8)
 Epoch:Int
 Seq:Int
 Body:(List UInt8)
 Key:(List UInt8)
 A:Ai
 Now:Int
structure Aa where
 Now:Int
 Clients:(List Ae)
 S:Ac
 D:Au
 Seen:(List Ap)
 Known:(List (List UInt8))
 Notes:(List Ad)
structure Af where
 b:(List UInt8)
 i:Int
 h:Int
structure Av where
 To:Ai
 F:Ab
structure Kh where
 kind:Int
 words:(List UInt8)
structure Be where
 H:(List Int)
 Held:(List UInt8)
 N:Int
end Go.D
namespace Go.D
inductive TN where
 | byte | int | bool | str | bs | Addr | Op | Event | Jar | Dice | Win | Ep | Chan | Cand | Paths | Sess | Tab | Credit | Server | Frame | Timer | Client | Wire | Note | World | Cur | Out | Form | Hash
 deriving DecidableEq
@[reducible] def El:TN→Type
 | .byte=>UInt8 | .int=>Int | .bool=>Bool | .str=>List UInt8 | .bs=>List UInt8
 | .Addr=>Ai | .Op=>Bc | .Event=>Am | .Jar=>Ba | .Dice=>Au | .Win=>Aq | .Ep=>Ax | .Chan=>Ak | .Cand=>Az | .Paths=>Aj | .Sess=>Ah | .Tab=>Ao | .Credit=>Al | .Server=>Ac | .Frame=>Ab | .Timer=>Aw | .Client=>Ae | .Wire=>Ap | .Note=>Ad | .World=>Aa | .Cur=>Af | .Out=>Av | .Form=>Kh | .Hash=>Be
inductive V where
 | undef
 | bool (b:Bool)
 | int (k:IntKind) (n:Int)
 | str (s:List UInt8)
 | nil
 | sl (t:TN) (l:List (El t))
 | ow (r:Nat)
 | ov (r:Nat) (t:TN) (off len:Nat)
 | bp (r off:Nat)
 | ep (r:Nat) (t:TN) (i off:Nat)
 | fp (cs:List V) (off:Nat)
 | fn (f:Nat) (cs:List V)
 | agg (cs:List V)
 | tup (vs:List V)
 | nili
 | ifc (b:Bool)
def zds(a:Ai):List V:=[.int .i64 a.Host, .int .i64 a.Port]
def zhp(a:Bc):List V:=[.int .i64 a.Kind, .int .i64 a.I, .int .i64 a.J, .sl .byte a.B]
def zgv(a:Am):List V:=[.int .i64 a.Kind, .int .i64 a.I, .int .i64 a.J, .int .i64 a.N, .sl .byte a.B, .sl .Op a.Ops]
def zhe(a:Ba):List V:=[.sl .byte a.Secret]
def zg3(a:Au):List V:=[.sl .byte a.Seed, .int .i64 a.N]
def zhb(a:Aq):List V:=[.int .i64 a.Top, .sl .int a.Bits]
def zho(a:Ax):List V:=[.int .i64 a.N, .sl .byte a.Key, .int .i64 a.Seq, .int .i64 a.Win.Top, .sl .int a.Win.Bits]
def zgO(a:Ak):List V:=[.int .i64 a.Role, .sl .byte a.Sn, .int .i64 a.Cur.N, .sl .byte a.Cur.Key, .int .i64 a.Cur.Seq, .int .i64 a.Cur.Win.Top, .sl .int a.Cur.Win.Bits, .int .i64 a.Old.N, .sl .byte a.Old.Key, .int .i64 a.Old.Seq, .int .i64 a.Old.Win.Top, .sl .int a.Old.Win.Bits, .bool a.HasOld, .int .i64 a.Until, .sl .byte a.Next]
def zgL(a:Az):List V:=[.int .i64 a.A.Host, .int .i64 a.A.Port, .sl .byte a.Draw, .int .i64 a.Until]
def zgn(a:Aj):List V:=[.int .i64 a.At.Host, .int .i64 a.At.Port, .sl .Cand a.Cands]
def zgQ(a:Ah):List V:=[.int .i64 a.Id, .sl .byte a.Cn, .sl .byte a.Sn, .int .i64 a.C.Role, .sl .byte a.C.Sn, .int .i64 a.C.Cur.N, .sl .byte a.C.Cur.Key, .int .i64 a.C.Cur.Seq, .int .i64 a.C.Cur.Win.Top, .sl .int a.C.Cur.Win.Bits, .int .i64 a.C.Old.N, .sl .byte a.C.Old.Key, .int .i64 a.C.Old.Seq, .int .i64 a.C.Old.Win.Top, .sl .int a.C.Old.Win.Bits, .bool a.C.HasOld, .int .i64 a.C.Until, .sl .byte a.C.Next, .int .i64 a.P.At.Host, .int .i64 a.P.At.Port, .sl .Cand a.P.Cands, .int .i64 a.Tick, .int .i64 a.Last, .bool a.Dead]
def zhd(a:Ao):List V:=[.int .i64 a.Cap, .sl .Sess a.L]
def zcQ(a:Al):List V:=[.int .i64 a.A.Host, .int .i64 a.A.Port, .int .i64 a.Got, .int .i64 a.Sent]
def zge(a:Ac):List V:=[.sl .bs a.Psks, .sl .byte a.J.Secret, .sl .byte a.D.Seed, .int .i64 a.D.N, .int .i64 a.T.Cap, .sl .Sess a.T.L, .sl .Credit a.Cr]
def zgo(a:Ab):List V:=[.int .i64 a.Kind, .int .i64 a.Id, .sl .byte a.Cn, .sl .byte a.Sn, .int .i64 a.Tick, .sl .byte a.Cookie, .sl .byte a.Proof, .int .i64 a.Epoch, .int .i64 a.Seq, .sl .byte a.Body, .sl .byte a.Tag]
def zdh(a:Aw):List V:=[.bool a.On, .int .i64 a.Due, .int .i64 a.Wait, .int .i64 a.Tries]
def zgd(a:Ae):List V:=[.int .i64 a.Id, .sl .byte a.Psk, .int .i64 a.At.Host, .int .i64 a.At.Port, .int .i64 a.St, .sl .byte a.Cn, .int .i64 a.Fin.Kind, .int .i64 a.Fin.Id, .sl .byte a.Fin.Cn, .sl .byte a.Fin.Sn, .int .i64 a.Fin.Tick, .sl .byte a.Fin.Cookie, .sl .byte a.Fin.Proof, .int .i64 a.Fin.Epoch, .int .i64 a.Fin.Seq, .sl .byte a.Fin.Body, .sl .byte a.Fin.Tag, .int .i64 a.C.Role, .sl .byte a.C.Sn, .int .i64 a.C.Cur.N, .sl .byte a.C.Cur.Key, .int .i64 a.C.Cur.Seq, .int .i64 a.C.Cur.Win.Top, .sl .int a.C.Cur.Win.Bits, .int .i64 a.C.Old.N, .sl .byte a.C.Old.Key, .int .i64 a.C.Old.Seq, .int .i64 a.C.Old.Win.Top, .sl .int a.C.Old.Win.Bits, .bool a.C.HasOld, .int .i64 a.C.Until, .sl .byte a.C.Next, .bool a.T.On, .int .i64 a.T.Due, .int .i64 a.T.Wait, .int .i64 a.T.Tries, .bool a.R.On, .int .i64 a.R.Due, .int .i64 a.R.Wait, .int .i64 a.R.Tries, .int .i64 a.Last]
def zgH(a:Ap):List V:=[.int .i64 a.From.Host, .int .i64 a.From.Port, .int .i64 a.To.Host, .int .i64 a.To.Port, .sl .byte a.B]
def zgW(a:Ad):List V:=[.int .i64 a.Kind, .int .i64 a.Id, .int .i64 a.Role, .sl .byte a.Cn, .sl .byte a.Sn, .int .i64 a.Epoch, .int .i64 a.Seq, .sl .byte a.Body, .sl .byte a.Key, .int .i64 a.A.Host, .int .i64 a.A.Port, .int .i64 a.Now]
def zgi(a:Aa):List V:=[.int .i64 a.Now, .sl .Client a.Clients, .sl .bs a.S.Psks, .sl .byte a.S.J.Secret, .sl .byte a.S.D.Seed, .int .i64 a.S.D.N, .int .i64 a.S.T.Cap, .sl .Sess a.S.T.L, .sl .Credit a.S.Cr, .sl .byte a.D.Seed, .int .i64 a.D.N, .sl .Wire a.Seen, .sl .bs a.Known, .sl .Note a.Notes]
def zha(a:Af):List V:=[.sl .byte a.b, .int .i64 a.i, .int .i64 a.h]
def zhj(a:Av):List V:=[.int .i64 a.To.Host, .int .i64 a.To.Port, .int .i64 a.F.Kind, .int .i64 a.F.Id, .sl .byte a.F.Cn, .sl .byte a.F.Sn, .int .i64 a.F.Tick, .sl .byte a.F.Cookie, .sl .byte a.F.Proof, .int .i64 a.F.Epoch, .int .i64 a.F.Seq, .sl .byte a.F.Body, .sl .byte a.F.Tag]
def zdp(a:Kh):List V:=[.int .i64 a.kind, .str a.words]
def zgJ(a:Be):List V:=[.sl .int a.H, .sl .byte a.Held, .int .i64 a.N]
def enc:(t:TN)→El t→List V
 | .byte,b=>[.int .u8 (b.toNat:Int)]
 | .int,n=>[.int .i64 n]
 | .bool,b=>[.bool b]
 | .str,s=>[.str s]
 | .bs,l=>[.sl .byte l]
 | .Addr,a=>zds a
 | .Op,a=>zhp a
 | .Event,a=>zgv a
 | .Jar,a=>zhe a
 | .Dice,a=>zg3 a
 | .Win,a=>zhb a
 | .Ep,a=>zho a
 | .Chan,a=>zgO a
 | .Cand,a=>zgL a
 | .Paths,a=>zgn a
 | .Sess,a=>zgQ a
 | .Tab,a=>zhd a
 | .Credit,a=>zcQ a
 | .Server,a=>zge a
 | .Frame,a=>zgo a
 | .Timer,a=>zdh a
 | .Client,a=>zgd a
 | .Wire,a=>zgH a
 | .Note,a=>zgW a
 | .World,a=>zgi a
 | .Cur,a=>zha a
 | .Out,a=>zhj a
 | .Form,a=>zdp a
 | .Hash,a=>zgJ a
def sz:TN→Nat
 | .byte=>1 | .int=>1 | .bool=>1 | .str=>1 | .bs=>1
 | .Addr=>2 | .Op=>4 | .Event=>6 | .Jar=>1 | .Dice=>2 | .Win=>2 | .Ep=>5 | .Chan=>15 | .Cand=>4 | .Paths=>3 | .Sess=>24 | .Tab=>2 | .Credit=>4 | .Server=>7 | .Frame=>11 | .Timer=>4 | .Client=>41 | .Wire=>5 | .Note=>12 | .World=>14 | .Cur=>3 | .Out=>13 | .Form=>2 | .Hash=>3
def HA:V→Option Int | .int .i64 n=>some n | _=>none
def vT:V→Option UInt8 | .int .u8 n=>some (UInt8.ofNat n.toNat) | _=>none
def VH:V→Option Bool | .bool b=>some b | _=>none
def gP:V→Option (List UInt8) | .str s=>some s | _=>none
def TN.cast{s t:TN}(h:s=t)(l:List (El s)):List (El t):=h▸l
def WA(t:TN):V→Option (List (El t))
 | .sl s l=>if h:s=t then some (TN.cast h l)else none
 | .nil=>some []
 | _=>none
def tk{α β:Type}(p:V→Option α)(cs:List V)(k:α→List V→Option β):Option β:=
 match cs with
 | c :: cs=>(p c).bind λa=>k a cs
 | []=>none
def cC{β:Type}(cs:List V)(r:β):Option β:=
 match cs with
 | []=>some r
 | _=>none
def zdG(cs:List V):Option Ai:=
 tk HA cs λf0 cs=>
 tk HA cs λf1 cs=>
 cC cs (⟨f0,f1⟩:Ai)
def zen(cs:List V):Option Bc:=
 tk HA cs λf0 cs=>
 tk HA cs λf1 cs=>
 tk HA cs λf2 cs=>
 tk (WA .byte) cs λf3 cs=>
 cC cs (⟨f0,f1,f2,f3⟩:Bc)
def zdn(cs:List V):Option Am:=
 tk HA cs λf0 cs=>
 tk HA cs λf1 cs=>
 tk HA cs λf2 cs=>
 tk HA cs λf3 cs=>
 tk (WA .byte) cs λf4 cs=>
 tk (WA .Op) cs λf5 cs=>
 cC cs (⟨f0,f1,f2,f3,f4,f5⟩:Am)
def zeb(cs:List V):Option Ba:=
 tk (WA .byte) cs λf0 cs=>
 cC cs (⟨f0⟩:Ba)
def zdM(cs:List V):Option Au:=
 tk (WA .byte) cs λf0 cs=>
 tk HA cs λf1 cs=>
 cC cs (⟨f0,f1⟩:Au)
def zdZ(cs:List V):Option Aq:=
 tk HA cs λf0 cs=>
 tk (WA .int) cs λf1 cs=>
 cC cs (⟨f0,f1⟩:Aq)
def zek(cs:List V):Option Ax:=
 tk HA cs λf0 cs=>
 tk (WA .byte) cs λf1 cs=>
 tk HA cs λf2 cs=>
 tk HA cs λf3 cs=>
 tk (WA .int) cs λf4 cs=>
 cC cs (⟨f0,f1,f2,⟨f3,f4⟩⟩:Ax)
def zdR(cs:List V):Option Ak:=
 tk HA cs λf0 cs=>
 tk (WA .byte) cs λf1 cs=>
 tk HA cs λf2 cs=>
 tk (WA .byte) cs λf3 cs=>
 tk HA cs λf4 cs=>
 tk HA cs λf5 cs=>
 tk (WA .int) cs λf6 cs=>
 tk HA cs λf7 cs=>
 tk (WA .byte) cs λf8 cs=>
 tk HA cs λf9 cs=>
 tk HA cs λf10 cs=>
 tk (WA .int) cs λf11 cs=>
 tk VH cs λf12 cs=>
 tk HA cs λf13 cs=>
 tk (WA .byte) cs λf14 cs=>
 cC cs (⟨f0,f1,⟨f2,f3,f4,⟨f5,f6⟩⟩,⟨f7,f8,f9,⟨f10,f11⟩⟩,f12,f13,f14⟩:Ak)
def zdz(cs:List V):Option Az:=
 tk HA cs λf0 cs=>
 tk HA cs λf1 cs=>
 tk (WA .byte) cs λf2 cs=>
 tk HA cs λf3 cs=>
 cC cs (⟨⟨f0,f1⟩,f2,f3⟩:Az)
def zcZ(cs:List V):Option Aj:=
 tk HA cs λf0 cs=>
 tk HA cs λf1 cs=>
 tk (WA .Cand) cs λf2 cs=>
 cC cs (⟨⟨f0,f1⟩,f2⟩:Aj)
def zdT(cs:List V):Option Ah:=
 tk HA cs λf0 cs=>
 tk (WA .byte) cs λf1 cs=>
 tk (WA .byte) cs λf2 cs=>
 tk HA cs λf3 cs=>
 tk (WA .byte) cs λf4 cs=>
 tk HA cs λf5 cs=>
 tk (WA .byte) cs λf6 cs=>
 tk HA cs λf7 cs=>
 tk HA cs λf8 cs=>
 tk (WA .int) cs λf9 cs=>
 tk HA cs λf10 cs=>
 tk (WA .byte) cs λf11 cs=>
 tk HA cs λf12 cs=>
 tk HA cs λf13 cs=>
 tk (WA .int) cs λf14 cs=>
 tk VH cs λf15 cs=>
 tk HA cs λf16 cs=>
 tk (WA .byte) cs λf17 cs=>
 tk HA cs λf18 cs=>
 tk HA cs λf19 cs=>
 tk (WA .Cand) cs λf20 cs=>
 tk HA cs λf21 cs=>
 tk HA cs λf22 cs=>
 tk VH cs λf23 cs=>
 cC cs (⟨f0,f1,f2,⟨f3,f4,⟨f5,f6,f7,⟨f8,f9⟩⟩,⟨f10,f11,f12,⟨f13,f14⟩⟩,f15,f16,f17⟩,⟨⟨f18,f19⟩,f20⟩,f21,f22,f23⟩:Ah)
def zd5(cs:List V):Option Ao:=
 tk HA cs λf0 cs=>
 tk (WA .Sess) cs λf1 cs=>
 cC cs (⟨f0,f1⟩:Ao)
def zcK(cs:List V):Option Al:=
 tk HA cs λf0 cs=>
 tk HA cs λf1 cs=>
 tk HA cs λf2 cs=>
 tk HA cs λf3 cs=>
 cC cs (⟨⟨f0,f1⟩,f2,f3⟩:Al)
def zcG(cs:List V):Option Ac:=
 tk (WA .bs) cs λf0 cs=>
 tk (WA .byte) cs λf1 cs=>
 tk (WA .byte) cs λf2 cs=>
 tk HA cs λf3 cs=>
 tk HA cs λf4 cs=>
 tk (WA .Sess) cs λf5 cs=>
 tk (WA .Credit) cs λf6 cs=>
 cC cs (⟨f0,⟨f1⟩,⟨f2,f3⟩,⟨f4,f5⟩,f6⟩:Ac)
def zdd(cs:List V):Option Ab:=
 tk HA cs λf0 cs=>
 tk HA cs λf1 cs=>
 tk (WA .byte) cs λf2 cs=>
 tk (WA .byte) cs λf3 cs=>
 tk HA cs λf4 cs=>
 tk (WA .byte) cs λf5 cs=>
 tk (WA .byte) cs λf6 cs=>
 tk HA cs λf7 cs=>
 tk HA cs λf8 cs=>
 tk (WA .byte) cs λf9 cs=>
 tk (WA .byte) cs λf10 cs=>
 cC cs (⟨f0,f1,f2,f3,f4,f5,f6,f7,f8,f9,f10⟩:Ab)
def zdg(cs:List V):Option Aw:=
 tk VH cs λf0 cs=>
 tk HA cs λf1 cs=>
 tk HA cs λf2 cs=>
 tk HA cs λf3 cs=>
 cC cs (⟨f0,f1,f2,f3⟩:Aw)
def zcF(cs:List V):Option Ae:=
 tk HA cs λf0 cs=>
 tk (WA .byte) cs λf1 cs=>
 tk HA cs λf2 cs=>
 tk HA cs λf3 cs=>
 tk HA cs λf4 cs=>
 tk (WA .byte) cs λf5 cs=>
 tk HA cs λf6 cs=>
 tk HA cs λf7 cs=>
 tk (WA .byte) cs λf8 cs=>
 tk (WA .byte) cs λf9 cs=>
 tk HA cs λf10 cs=>
 tk (WA .byte) cs λf11 cs=>
 tk (WA .byte) cs λf12 cs=>
 tk HA cs λf13 cs=>
 tk HA cs λf14 cs=>
 tk (WA .byte) cs λf15 cs=>
 tk (WA .byte) cs λf16 cs=>
 tk HA cs λf17 cs=>
 tk (WA .byte) cs λf18 cs=>
 tk HA cs λf19 cs=>
 tk (WA .byte) cs λf20 cs=>
 tk HA cs λf21 cs=>
 tk HA cs λf22 cs=>
 tk (WA .int) cs λf23 cs=>
 tk HA cs λf24 cs=>
 tk (WA .byte) cs λf25 cs=>
 tk HA cs λf26 cs=>
 tk HA cs λf27 cs=>
 tk (WA .int) cs λf28 cs=>
 tk VH cs λf29 cs=>
 tk HA cs λf30 cs=>
 tk (WA .byte) cs λf31 cs=>
 tk VH cs λf32 cs=>
 tk HA cs λf33 cs=>
 tk HA cs λf34 cs=>
 tk HA cs λf35 cs=>
 tk VH cs λf36 cs=>
 tk HA cs λf37 cs=>
 tk HA cs λf38 cs=>
 tk HA cs λf39 cs=>
 tk HA cs λf40 cs=>
 cC cs (⟨f0,f1,⟨f2,f3⟩,f4,f5,⟨f6,f7,f8,f9,f10,f11,f12,f13,f14,f15,f16⟩,⟨f17,f18,⟨f19,f20,f21,⟨f22,f23⟩⟩,⟨f24,f25,f26,⟨f27,f28⟩⟩,f29,f30,f31⟩,⟨f32,f33,f34,f35⟩,⟨f36,f37,f38,f39⟩,f40⟩:Ae)
def zdO(cs:List V):Option Ap:=
 tk HA cs λf0 cs=>
 tk HA cs λf1 cs=>
 tk HA cs λf2 cs=>
 tk HA cs λf3 cs=>
 tk (WA .byte) cs λf4 cs=>
 cC cs (⟨⟨f0,f1⟩,⟨f2,f3⟩,f4⟩:Ap)
def zdv(cs:List V):Option Ad:=
 tk HA cs λf0 cs=>
 tk HA cs λf1 cs=>
 tk HA cs λf2 cs=>
 tk (WA .byte) cs λf3 cs=>
 tk (WA .byte) cs λf4 cs=>
 tk HA cs λf5 cs=>
 tk HA cs λf6 cs=>
 tk (WA .byte) cs λf7 cs=>
 tk (WA .byte) cs λf8 cs=>
 tk HA cs λf9 cs=>
 tk HA cs λf10 cs=>
 tk HA cs λf11 cs=>
 cC cs (⟨f0,f1,f2,f3,f4,f5,f6,f7,f8,⟨f9,f10⟩,f11⟩:Ad)
def zc1(cs:List V):Option Aa:=
 tk HA cs λf0 cs=>
 tk (WA .Client) cs λf1 cs=>
 tk (WA .bs) cs λf2 cs=>
 tk (WA .byte) cs λf3 cs=>
 tk (WA .byte) cs λf4 cs=>
 tk HA cs λf5 cs=>
 tk HA cs λf6 cs=>
 tk (WA .Sess) cs λf7 cs=>
 tk (WA .Credit) cs λf8 cs=>
 tk (WA .byte) cs λf9 cs=>
 tk HA cs λf10 cs=>
 tk (WA .Wire) cs λf11 cs=>
 tk (WA .bs) cs λf12 cs=>
 tk (WA .Note) cs λf13 cs=>
 cC cs (⟨f0,f1,⟨f2,⟨f3⟩,⟨f4,f5⟩,⟨f6,f7⟩,f8⟩,⟨f9,f10⟩,f11,f12,f13⟩:Aa)
def zed(cs:List V):Option Af:=
 tk (WA .byte) cs λf0 cs=>
 tk HA cs λf1 cs=>
 tk HA cs λf2 cs=>
 cC cs (⟨f0,f1,f2⟩:Af)
def zd7(cs:List V):Option Av:=
 tk HA cs λf0 cs=>
 tk HA cs λf1 cs=>
 tk HA cs λf2 cs=>
 tk HA cs λf3 cs=>
 tk (WA .byte) cs λf4 cs=>
 tk (WA .byte) cs λf5 cs=>
 tk HA cs λf6 cs=>
 tk (WA .byte) cs λf7 cs=>
 tk (WA .byte) cs λf8 cs=>
 tk HA cs λf9 cs=>
 tk HA cs λf10 cs=>
 tk (WA .byte) cs λf11 cs=>
 tk (WA .byte) cs λf12 cs=>
 cC cs (⟨⟨f0,f1⟩,⟨f2,f3,f4,f5,f6,f7,f8,f9,f10,f11,f12⟩⟩:Av)
def zdE(cs:List V):Option Kh:=
 tk HA cs λf0 cs=>
 tk gP cs λf1 cs=>
 cC cs (⟨f0,f1⟩:Kh)
def zdV(cs:List V):Option Be:=
 tk (WA .int) cs λf0 cs=>
 tk (WA .byte) cs λf1 cs=>
 tk HA cs λf2 cs=>
 cC cs (⟨f0,f1,f2⟩:Be)
def oF:(t:TN)→List V→Option (El t)
 | .byte,cs=>tk vT cs λb cs=>cC cs b
 | .int,cs=>tk HA cs λn cs=>cC cs n
 | .bool,cs=>tk VH cs λb cs=>cC cs b
 | .str,cs=>tk gP cs λs cs=>cC cs s
 | .bs,cs=>tk (WA .byte) cs λl cs=>cC cs l
 | .Addr,cs=>zdG cs
 | .Op,cs=>zen cs
 | .Event,cs=>zdn cs
 | .Jar,cs=>zeb cs
 | .Dice,cs=>zdM cs
 | .Win,cs=>zdZ cs
 | .Ep,cs=>zek cs
 | .Chan,cs=>zdR cs
 | .Cand,cs=>zdz cs
 | .Paths,cs=>zcZ cs
 | .Sess,cs=>zdT cs
 | .Tab,cs=>zd5 cs
 | .Credit,cs=>zcK cs
 | .Server,cs=>zcG cs
 | .Frame,cs=>zdd cs
 | .Timer,cs=>zdg cs
 | .Client,cs=>zcF cs
 | .Wire,cs=>zdO cs
 | .Note,cs=>zdv cs
 | .World,cs=>zc1 cs
 | .Cur,cs=>zed cs
 | .Out,cs=>zd7 cs
 | .Form,cs=>zdE cs
 | .Hash,cs=>zdV cs
inductive WH:V→V→Prop where
 | refl (c:V):WH c c
 | byte (n:Int):WH (.int .u8 n) (.int .u8 ((UInt8.ofNat n.toNat).toNat:Int))
 | nil (t:TN):WH .nil (.sl t [])
inductive aC:List V→List V→Prop where
 | nil:aC [] []
 | cons {c d:V} {cs ds:List V}:WH c d→aC cs ds→aC (c :: cs) (d :: ds)
def JA{c:V}{n:Int}(h:HA c=some n):WH c (.int .i64 n):=by
 cases c<;>simp[HA]at h
 rename_i k m;cases k<;>simp at h;subst h;exact .refl _
def zuC{c:V}{b:UInt8}(h:vT c=some b):WH c (.int .u8 (b.toNat:Int)):=by
 cases c<;>simp[vT]at h
 rename_i k m;cases k<;>simp at h;subst h;exact .byte _
def PM{c:V}{b:Bool}(h:VH c=some b):WH c (.bool b):=by
 cases c<;>simp[VH]at h;subst h;exact .refl _
def zlL{c:V}{b:List UInt8}(h:gP c=some b):WH c (.str b):=by
 cases c<;>simp[gP]at h;subst h;exact .refl _
def YA{t:TN}{c:V}{l:List (El t)}(h:WA t c=some l):WH c (.sl t l):=by
 cases c<;>simp[WA]at h
 ·subst h;exact .nil t
 ·obtain⟨rfl,h⟩:=h;simp[TN.cast]at h;subst h;exact .refl _
def wA{α β:Type}{p:V→Option α}{cs:List V}{k:α→List V→Option β}{r:β}(h:tk p cs k=some r):
  ∃c cs' a,cs=c :: cs'∧p c=some a∧k a cs'=some r:=by
 cases cs with
 | nil=>simp[tk]at h
 | cons c cs=>simp only[tk,Option.bind_eq_some_iff]at h;obtain⟨a,h1,h2⟩:=h;exact⟨c,cs,a,rfl,h1,h2⟩
def ID{β:Type}{cs:List V}{r s:β}(h:cC cs r=some s):cs=[]∧r=s:=by
 cases cs<;>simp[cC]at h;exact⟨rfl,h⟩
def zsq{cs:List V}{a:Ai}(h:zdG cs=some a):aC cs (zds a):=by
 unfold zdG at h;obtain⟨c0,cs,f0,rfl,h0,h⟩:=wA h;obtain⟨c1,cs,f1,rfl,h1,h⟩:=wA h;obtain⟨rfl,rfl⟩:=ID h;exact .cons (JA h0) (.cons (JA h1) (.nil))
def ztD{cs:List V}{a:Bc}(h:zen cs=some a):aC cs (zhp a):=by
 unfold zen at h;obtain⟨c0,cs,f0,rfl,h0,h⟩:=wA h;obtain⟨c1,cs,f1,rfl,h1,h⟩:=wA h;obtain⟨c2,cs,f2,rfl,h2,h⟩:=wA h;obtain⟨c3,cs,f3,rfl,h3,h⟩:=wA h;obtain⟨rfl,rfl⟩:=ID h;exact .cons (JA h0) (.cons (JA h1) (.cons (JA h2) (.cons (YA h3) (.nil))))
def zrS{cs:List V}{a:Am}(h:zdn cs=some a):aC cs (zgv a):=by
 unfold zdn at h;obtain⟨c0,cs,f0,rfl,h0,h⟩:=wA h;obtain⟨c1,cs,f1,rfl,h1,h⟩:=wA h;obtain⟨c2,cs,f2,rfl,h2,h⟩:=wA h;obtain⟨c3,cs,f3,rfl,h3,h⟩:=wA h;obtain⟨c4,cs,f4,rfl,h4,h⟩:=wA h;obtain⟨c5,cs,f5,rfl,h5,h⟩:=wA h;obtain⟨rfl,rfl⟩:=ID h;exact .cons (JA h0) (.cons (JA h1) (.cons (JA h2) (.cons (JA h3) (.cons (YA h4) (.cons (YA h5) (.nil))))))
def zs2{cs:List V}{a:Ba}(h:zeb cs=some a):aC cs (zhe a):=by
 unfold zeb at h;obtain⟨c0,cs,f0,rfl,h0,h⟩:=wA h;obtain⟨rfl,rfl⟩:=ID h;exact .cons (YA h0) (.nil)
def zsB{cs:List V}{a:Au}(h:zdM cs=some a):aC cs (zg3 a):=by
 unfold zdM at h;obtain⟨c0,cs,f0,rfl,h0,h⟩:=wA h;obtain⟨c1,cs,f1,rfl,h1,h⟩:=wA h;obtain⟨rfl,rfl⟩:=ID h;exact .cons (YA h0) (.cons (JA h1) (.nil))
def zsR{cs:List V}{a:Aq}(h:zdZ cs=some a):aC cs (zhb a):=by
 unfold zdZ at h;obtain⟨c0,cs,f0,rfl,h0,h⟩:=wA h;obtain⟨c1,cs,f1,rfl,h1,h⟩:=wA h;obtain⟨rfl,rfl⟩:=ID h;exact .cons (JA h0) (.cons (YA h1) (.nil))
def ztS{cs:List V}{a:Ax}(h:zek cs=some a):aC cs (zho a):=by
 unfold zek at h;obtain⟨c0,cs,f0,rfl,h0,h⟩:=wA h;obtain⟨c1,cs,f1,rfl,h1,h⟩:=wA h;obtain⟨c2,cs,f2,rfl,h2,h⟩:=wA h;obtain⟨c3,cs,f3,rfl,h3,h⟩:=wA h;obtain⟨c4,cs,f4,rfl,h4,h⟩:=wA h;obtain⟨rfl,rfl⟩:=ID h;exact .cons (JA h0) (.cons (YA h1) (.cons (JA h2) (.cons (JA h3) (.cons (YA h4) (.nil)))))
def zss{cs:List V}{a:Ak}(h:zdR cs=some a):aC cs (zgO a):=by
 unfold zdR at h;obtain⟨c0,cs,f0,rfl,h0,h⟩:=wA h;obtain⟨c1,cs,f1,rfl,h1,h⟩:=wA h;obtain⟨c2,cs,f2,rfl,h2,h⟩:=wA h;obtain⟨c3,cs,f3,rfl,h3,h⟩:=wA h;obtain⟨c4,cs,f4,rfl,h4,h⟩:=wA h;obtain⟨c5,cs,f5,rfl,h5,h⟩:=wA h;obtain⟨c6,cs,f6,rfl,h6,h⟩:=wA h;obtain⟨c7,cs,f7,rfl,h7,h⟩:=wA h;obtain⟨c8,cs,f8,rfl,h8,h⟩:=wA h;obtain⟨c9,cs,f9,rfl,h9,h⟩:=wA h;obtain⟨BG,cs,f10,rfl,tW,h⟩:=wA h;obtain⟨jG,cs,f11,rfl,GW,h⟩:=wA h;obtain⟨IT,cs,f12,rfl,UW,h⟩:=wA h;obtain⟨c13,cs,f13,rfl,nX,h⟩:=wA h;obtain⟨KT,cs,f14,rfl,jY,h⟩:=wA h;obtain⟨rfl,rfl⟩:=ID h;exact .cons (JA h0) (.cons (YA h1) (.cons (JA h2) (.cons (YA h3) (.cons (JA h4) (.cons (JA h5) (.cons (YA h6) (.cons (JA h7) (.cons (YA h8) (.cons (JA h9) (.cons (JA tW) (.cons (YA GW) (.cons (PM UW) (.cons (JA nX) (.cons (YA jY) (.nil)))))))))))))))
def zr9{cs:List V}{a:Az}(h:zdz cs=some a):aC cs (zgL a):=by
 unfold zdz at h;obtain⟨c0,cs,f0,rfl,h0,h⟩:=wA h;obtain⟨c1,cs,f1,rfl,h1,h⟩:=wA h;obtain⟨c2,cs,f2,rfl,h2,h⟩:=wA h;obtain⟨c3,cs,f3,rfl,h3,h⟩:=wA h;obtain⟨rfl,rfl⟩:=ID h;exact .cons (JA h0) (.cons (JA h1) (.cons (YA h2) (.cons (JA h3) (.nil))))
def zrB{cs:List V}{a:Aj}(h:zcZ cs=some a):aC cs (zgn a):=by
 unfold zcZ at h;obtain⟨c0,cs,f0,rfl,h0,h⟩:=wA h;obtain⟨c1,cs,f1,rfl,h1,h⟩:=wA h;obtain⟨c2,cs,f2,rfl,h2,h⟩:=wA h;obtain⟨rfl,rfl⟩:=ID h;exact .cons (JA h0) (.cons (JA h1) (.cons (YA h2) (.nil)))
def zr8{cs:List V}{a:Ah}(h:zdT cs=some a):aC cs (zgQ a):=by
 unfold zdT at h;obtain⟨c0,cs,f0,rfl,h0,h⟩:=wA h;obtain⟨c1,cs,f1,rfl,h1,h⟩:=wA h;obtain⟨c2,cs,f2,rfl,h2,h⟩:=wA h;obtain⟨c3,cs,f3,rfl,h3,h⟩:=wA h;obtain⟨c4,cs,f4,rfl,h4,h⟩:=wA h;obtain⟨c5,cs,f5,rfl,h5,h⟩:=wA h;obtain⟨c6,cs,f6,rfl,h6,h⟩:=wA h;obtain⟨c7,cs,f7,rfl,h7,h⟩:=wA h;obtain⟨c8,cs,f8,rfl,h8,h⟩:=wA h;obtain⟨c9,cs,f9,rfl,h9,h⟩:=wA h;obtain⟨BG,cs,f10,rfl,tW,h⟩:=wA h;obtain⟨jG,cs,f11,rfl,GW,h⟩:=wA h;obtain⟨IT,cs,f12,rfl,UW,h⟩:=wA h;obtain⟨c13,cs,f13,rfl,nX,h⟩:=wA h;obtain⟨KT,cs,f14,rfl,jY,h⟩:=wA h;obtain⟨c15,cs,f15,rfl,HY,h⟩:=wA h;obtain⟨iG,cs,f16,rfl,NY,h⟩:=wA h;obtain⟨c17,cs,f17,rfl,xZ,h⟩:=wA h;obtain⟨c18,cs,f18,rfl,M1,h⟩:=wA h;obtain⟨c19,cs,f19,rfl,OZ,h⟩:=wA h;obtain⟨c20,cs,f20,rfl,PZ,h⟩:=wA h;obtain⟨c21,cs,f21,rfl,V1,h⟩:=wA h;obtain⟨c22,cs,f22,rfl,W1,h⟩:=wA h;obtain⟨c23,cs,f23,rfl,H0,h⟩:=wA h;obtain⟨rfl,rfl⟩:=ID h;exact .cons (JA h0) (.cons (YA h1) (.cons (YA h2) (.cons (JA h3) (.cons (YA h4) (.cons (JA h5) (.cons (YA h6) (.cons (JA h7) (.cons (JA h8) (.cons (YA h9) (.cons (JA tW) (.cons (YA GW) (.cons (JA UW) (.cons (JA nX) (.cons (YA jY) (.cons (PM HY) (.cons (JA NY) (.cons (YA xZ) (.cons (JA M1) (.cons (JA OZ) (.cons (YA PZ) (.cons (JA V1) (.cons (JA W1) (.cons (PM H0) (.nil))))))))))))))))))))))))
def zte{cs:List V}{a:Ao}(h:zd5 cs=some a):aC cs (zhd a):=by
 unfold zd5 at h;obtain⟨c0,cs,f0,rfl,h0,h⟩:=wA h;obtain⟨c1,cs,f1,rfl,h1,h⟩:=wA h;obtain⟨rfl,rfl⟩:=ID h;exact .cons (JA h0) (.cons (YA h1) (.nil))
def zrh{cs:List V}{a:Al}(h:zcK cs=some a):aC cs (zcQ a):=by
 unfold zcK at h;obtain⟨c0,cs,f0,rfl,h0,h⟩:=wA h;obtain⟨c1,cs,f1,rfl,h1,h⟩:=wA h;obtain⟨c2,cs,f2,rfl,h2,h⟩:=wA h;obtain⟨c3,cs,f3,rfl,h3,h⟩:=wA h;obtain⟨rfl,rfl⟩:=ID h;exact .cons (JA h0) (.cons (JA h1) (.cons (JA h2) (.cons (JA h3) (.nil))))
def zqN{cs:List V}{a:Ac}(h:zcG cs=some a):aC cs (zge a):=by
 unfold zcG at h;obtain⟨c0,cs,f0,rfl,h0,h⟩:=wA h;obtain⟨c1,cs,f1,rfl,h1,h⟩:=wA h;obtain⟨c2,cs,f2,rfl,h2,h⟩:=wA h;obtain⟨c3,cs,f3,rfl,h3,h⟩:=wA h;obtain⟨c4,cs,f4,rfl,h4,h⟩:=wA h;obtain⟨c5,cs,f5,rfl,h5,h⟩:=wA h;obtain⟨c6,cs,f6,rfl,h6,h⟩:=wA h;obtain⟨rfl,rfl⟩:=ID h;exact .cons (YA h0) (.cons (YA h1) (.cons (YA h2) (.cons (JA h3) (.cons (JA h4) (.cons (YA h5) (.cons (YA h6) (.nil)))))))
def zrW{cs:List V}{a:Ab}(h:zdd cs=some a):aC cs (zgo a):=by
 unfold zdd at h;obtain⟨c0,cs,f0,rfl,h0,h⟩:=wA h;obtain⟨c1,cs,f1,rfl,h1,h⟩:=wA h;obtain⟨c2,cs,f2,rfl,h2,h⟩:=wA h;obtain⟨c3,cs,f3,rfl,h3,h⟩:=wA h;obtain⟨c4,cs,f4,rfl,h4,h⟩:=wA h;obtain⟨c5,cs,f5,rfl,h5,h⟩:=wA h;obtain⟨c6,cs,f6,rfl,h6,h⟩:=wA h;obtain⟨c7,cs,f7,rfl,h7,h⟩:=wA h;obtain⟨c8,cs,f8,rfl,h8,h⟩:=wA h;obtain⟨c9,cs,f9,rfl,h9,h⟩:=wA h;obtain⟨BG,cs,f10,rfl,tW,h⟩:=wA h;obtain⟨rfl,rfl⟩:=ID h;exact .cons (JA h0) (.cons (JA h1) (.cons (YA h2) (.cons (YA h3) (.cons (JA h4) (.cons (YA h5) (.cons (YA h6) (.cons (JA h7) (.cons (JA h8) (.cons (YA h9) (.cons (YA tW) (.nil)))))))))))
def zrP{cs:List V}{a:Aw}(h:zdg cs=some a):aC cs (zdh a):=by
 unfold zdg at h;obtain⟨c0,cs,f0,rfl,h0,h⟩:=wA h;obtain⟨c1,cs,f1,rfl,h1,h⟩:=wA h;obtain⟨c2,cs,f2,rfl,h2,h⟩:=wA h;obtain⟨c3,cs,f3,rfl,h3,h⟩:=wA h;obtain⟨rfl,rfl⟩:=ID h;exact .cons (PM h0) (.cons (JA h1) (.cons (JA h2) (.cons (JA h3) (.nil))))
def zqD{cs:List V}{a:Ae}(h:zcF cs=some a):aC cs (zgd a):=by
 unfold zcF at h;obtain⟨c0,cs,f0,rfl,h0,h⟩:=wA h;obtain⟨c1,cs,f1,rfl,h1,h⟩:=wA h;obtain⟨c2,cs,f2,rfl,h2,h⟩:=wA h;obtain⟨c3,cs,f3,rfl,h3,h⟩:=wA h;obtain⟨c4,cs,f4,rfl,h4,h⟩:=wA h;obtain⟨c5,cs,f5,rfl,h5,h⟩:=wA h;obtain⟨c6,cs,f6,rfl,h6,h⟩:=wA h;obtain⟨c7,cs,f7,rfl,h7,h⟩:=wA h;obtain⟨c8,cs,f8,rfl,h8,h⟩:=wA h;obtain⟨c9,cs,f9,rfl,h9,h⟩:=wA h;obtain⟨BG,cs,f10,rfl,tW,h⟩:=wA h;obtain⟨jG,cs,f11,rfl,GW,h⟩:=wA h;obtain⟨IT,cs,f12,rfl,UW,h⟩:=wA h;obtain⟨c13,cs,f13,rfl,nX,h⟩:=wA h;obtain⟨KT,cs,f14,rfl,jY,h⟩:=wA h;obtain⟨c15,cs,f15,rfl,HY,h⟩:=wA h;obtain⟨iG,cs,f16,rfl,NY,h⟩:=wA h;obtain⟨c17,cs,f17,rfl,xZ,h⟩:=wA h;obtain⟨c18,cs,f18,rfl,M1,h⟩:=wA h;obtain⟨c19,cs,f19,rfl,OZ,h⟩:=wA h;obtain⟨c20,cs,f20,rfl,PZ,h⟩:=wA h;obtain⟨c21,cs,f21,rfl,V1,h⟩:=wA h;obtain⟨c22,cs,f22,rfl,W1,h⟩:=wA h;obtain⟨c23,cs,f23,rfl,H0,h⟩:=wA h;obtain⟨c24,cs,f24,rfl,X1,h⟩:=wA h;obtain⟨c25,cs,f25,rfl,D5,h⟩:=wA h;obtain⟨c26,cs,f26,rfl,v9,h⟩:=wA h;obtain⟨c27,cs,f27,rfl,R5,h⟩:=wA h;obtain⟨c28,cs,f28,rfl,H8,h⟩:=wA h;obtain⟨c29,cs,f29,rfl,I8,h⟩:=wA h;obtain⟨c30,cs,f30,rfl,S5,h⟩:=wA h;obtain⟨MD,cs,f31,rfl,T5,h⟩:=wA h;obtain⟨YG,cs,f32,rfl,w9,h⟩:=wA h;obtain⟨ET,cs,f33,rfl,z9,h⟩:=wA h;obtain⟨VD,cs,f34,rfl,A9,h⟩:=wA h;obtain⟨zC,cs,f35,rfl,B9,h⟩:=wA h;obtain⟨c36,cs,f36,rfl,C9,h⟩:=wA h;obtain⟨c37,cs,f37,rfl,D9,h⟩:=wA h;obtain⟨FT,cs,f38,rfl,h38,h⟩:=wA h;obtain⟨FB,cs,f39,rfl,h39,h⟩:=wA h;obtain⟨c40,cs,f40,rfl,h40,h⟩:=wA h;obtain⟨rfl,rfl⟩:=ID h;exact .cons (JA h0) (.cons (YA h1) (.cons (JA h2) (.cons (JA h3) (.cons (JA h4) (.cons (YA h5) (.cons (JA h6) (.cons (JA h7) (.cons (YA h8) (.cons (YA h9) (.cons (JA tW) (.cons (YA GW) (.cons (YA UW) (.cons (JA nX) (.cons (JA jY) (.cons (YA HY) (.cons (YA NY) (.cons (JA xZ) (.cons (YA M1) (.cons (JA OZ) (.cons (YA PZ) (.cons (JA V1) (.cons (JA W1) (.cons (YA H0) (.cons (JA X1) (.cons (YA D5) (.cons (JA v9) (.cons (JA R5) (.cons (YA H8) (.cons (PM I8) (.cons (JA S5) (.cons (YA T5) (.cons (PM w9) (.cons (JA z9) (.cons (JA A9) (.cons (JA B9) (.cons (PM C9) (.cons (JA D9) (.cons (JA h38) (.cons (JA h39) (.cons (JA h40) (.nil)))))))))))))))))))))))))))))))))))))))))
def zsF{cs:List V}{a:Ap}(h:zdO cs=some a):aC cs (zgH a):=by
 unfold zdO at h;obtain⟨c0,cs,f0,rfl,h0,h⟩:=wA h;obtain⟨c1,cs,f1,rfl,h1,h⟩:=wA h;obtain⟨c2,cs,f2,rfl,h2,h⟩:=wA h;obtain⟨c3,cs,f3,rfl,h3,h⟩:=wA h;obtain⟨c4,cs,f4,rfl,h4,h⟩:=wA h;obtain⟨rfl,rfl⟩:=ID h;exact .cons (JA h0) (.cons (JA h1) (.cons (JA h2) (.cons (JA h3) (.cons (YA h4) (.nil)))))
def zsA{cs:List V}{a:Ad}(h:zdv cs=some a):aC cs (zgW a):=by
 unfold zdv at h;obtain⟨c0,cs,f0,rfl,h0,h⟩:=wA h;obtain⟨c1,cs,f1,rfl,h1,h⟩:=wA h;obtain⟨c2,cs,f2,rfl,h2,h⟩:=wA h;obtain⟨c3,cs,f3,rfl,h3,h⟩:=wA h;obtain⟨c4,cs,f4,rfl,h4,h⟩:=wA h;obtain⟨c5,cs,f5,rfl,h5,h⟩:=wA h;obtain⟨c6,cs,f6,rfl,h6,h⟩:=wA h;obtain⟨c7,cs,f7,rfl,h7,h⟩:=wA h;obtain⟨c8,cs,f8,rfl,h8,h⟩:=wA h;obtain⟨c9,cs,f9,rfl,h9,h⟩:=wA h;obtain⟨BG,cs,f10,rfl,tW,h⟩:=wA h;obtain⟨jG,cs,f11,rfl,GW,h⟩:=wA h;obtain⟨rfl,rfl⟩:=ID h;exact .cons (JA h0) (.cons (JA h1) (.cons (JA h2) (.cons (YA h3) (.cons (YA h4) (.cons (JA h5) (.cons (JA h6) (.cons (YA h7) (.cons (YA h8) (.cons (JA h9) (.cons (JA tW) (.cons (JA GW) (.nil))))))))))))
def zrI{cs:List V}{a:Aa}(h:zc1 cs=some a):aC cs (zgi a):=by
 unfold zc1 at h;obtain⟨c0,cs,f0,rfl,h0,h⟩:=wA h;obtain⟨c1,cs,f1,rfl,h1,h⟩:=wA h;obtain⟨c2,cs,f2,rfl,h2,h⟩:=wA h;obtain⟨c3,cs,f3,rfl,h3,h⟩:=wA h;obtain⟨c4,cs,f4,rfl,h4,h⟩:=wA h;obtain⟨c5,cs,f5,rfl,h5,h⟩:=wA h;obtain⟨c6,cs,f6,rfl,h6,h⟩:=wA h;obtain⟨c7,cs,f7,rfl,h7,h⟩:=wA h;obtain⟨c8,cs,f8,rfl,h8,h⟩:=wA h;obtain⟨c9,cs,f9,rfl,h9,h⟩:=wA h;obtain⟨BG,cs,f10,rfl,tW,h⟩:=wA h;obtain⟨jG,cs,f11,rfl,GW,h⟩:=wA h;obtain⟨IT,cs,f12,rfl,UW,h⟩:=wA h;obtain⟨c13,cs,f13,rfl,nX,h⟩:=wA h;obtain⟨rfl,rfl⟩:=ID h;exact .cons (JA h0) (.cons (YA h1) (.cons (YA h2) (.cons (YA h3) (.cons (YA h4) (.cons (JA h5) (.cons (JA h6) (.cons (YA h7) (.cons (YA h8) (.cons (YA h9) (.cons (JA tW) (.cons (YA GW) (.cons (YA UW) (.cons (YA nX) (.nil))))))))))))))
def zsZ{cs:List V}{a:Af}(h:zed cs=some a):aC cs (zha a):=by
 unfold zed at h;obtain⟨c0,cs,f0,rfl,h0,h⟩:=wA h;obtain⟨c1,cs,f1,rfl,h1,h⟩:=wA h;obtain⟨c2,cs,f2,rfl,h2,h⟩:=wA h;obtain⟨rfl,rfl⟩:=ID h;exact .cons (YA h0) (.cons (JA h1) (.cons (JA h2) (.nil)))
def zsK{cs:List V}{a:Av}(h:zd7 cs=some a):aC cs (zhj a):=by
 unfold zd7 at h;obtain⟨c0,cs,f0,rfl,h0,h⟩:=wA h;obtain⟨c1,cs,f1,rfl,h1,h⟩:=wA h;obtain⟨c2,cs,f2,rfl,h2,h⟩:=wA h;obtain⟨c3,cs,f3,rfl,h3,h⟩:=wA h;obtain⟨c4,cs,f4,rfl,h4,h⟩:=wA h;obtain⟨c5,cs,f5,rfl,h5,h⟩:=wA h;obtain⟨c6,cs,f6,rfl,h6,h⟩:=wA h;obtain⟨c7,cs,f7,rfl,h7,h⟩:=wA h;obtain⟨c8,cs,f8,rfl,h8,h⟩:=wA h;obtain⟨c9,cs,f9,rfl,h9,h⟩:=wA h;obtain⟨BG,cs,f10,rfl,tW,h⟩:=wA h;obtain⟨jG,cs,f11,rfl,GW,h⟩:=wA h;obtain⟨IT,cs,f12,rfl,UW,h⟩:=wA h;obtain⟨rfl,rfl⟩:=ID h;exact .cons (JA h0) (.cons (JA h1) (.cons (JA h2) (.cons (JA h3) (.cons (YA h4) (.cons (YA h5) (.cons (JA h6) (.cons (YA h7) (.cons (YA h8) (.cons (JA h9) (.cons (JA tW) (.cons (YA GW) (.cons (YA UW) (.nil)))))))))))))
def zsx{cs:List V}{a:Kh}(h:zdE cs=some a):aC cs (zdp a):=by
 unfold zdE at h;obtain⟨c0,cs,f0,rfl,h0,h⟩:=wA h;obtain⟨c1,cs,f1,rfl,h1,h⟩:=wA h;obtain⟨rfl,rfl⟩:=ID h;exact .cons (JA h0) (.cons (zlL h1) (.nil))
def zsc{cs:List V}{a:Be}(h:zdV cs=some a):aC cs (zgJ a):=by
 unfold zdV at h;obtain⟨c0,cs,f0,rfl,h0,h⟩:=wA h;obtain⟨c1,cs,f1,rfl,h1,h⟩:=wA h;obtain⟨c2,cs,f2,rfl,h2,h⟩:=wA h;obtain⟨rfl,rfl⟩:=ID h;exact .cons (YA h0) (.cons (YA h1) (.cons (JA h2) (.nil)))
def MF:(t:TN)→{cs:List V}→{a:El t}→oF t cs=some a→aC cs (enc t a)
 | .byte,cs,a,h=>by
  obtain⟨c0,cs,f0,rfl,h0,h⟩:=wA (show tk vT cs (λb cs=>cC cs b)=some a from h);obtain⟨rfl,rfl⟩:=ID h;exact .cons (zuC h0) .nil
 | .int,cs,a,h=>by
  obtain⟨c0,cs,f0,rfl,h0,h⟩:=wA (show tk HA cs (λb cs=>cC cs b)=some a from h);obtain⟨rfl,rfl⟩:=ID h;exact .cons (JA h0) .nil
 | .bool,cs,a,h=>by
  obtain⟨c0,cs,f0,rfl,h0,h⟩:=wA (show tk VH cs (λb cs=>cC cs b)=some a from h);obtain⟨rfl,rfl⟩:=ID h;exact .cons (PM h0) .nil
 | .str,cs,a,h=>by
  obtain⟨c0,cs,f0,rfl,h0,h⟩:=wA (show tk gP cs (λb cs=>cC cs b)=some a from h);obtain⟨rfl,rfl⟩:=ID h;exact .cons (zlL h0) .nil
 | .bs,cs,a,h=>by
  obtain⟨c0,cs,f0,rfl,h0,h⟩:=wA (show tk (WA .byte) cs (λb cs=>cC cs b)=some a from h);obtain⟨rfl,rfl⟩:=ID h;exact .cons (YA h0) .nil
 | .Addr,_,_,h=>zsq h
 | .Op,_,_,h=>ztD h
 | .Event,_,_,h=>zrS h
 | .Jar,_,_,h=>zs2 h
 | .Dice,_,_,h=>zsB h
 | .Win,_,_,h=>zsR h
 | .Ep,_,_,h=>ztS h
 | .Chan,_,_,h=>zss h
 | .Cand,_,_,h=>zr9 h
 | .Paths,_,_,h=>zrB h
 | .Sess,_,_,h=>zr8 h
 | .Tab,_,_,h=>zte h
 | .Credit,_,_,h=>zrh h
 | .Server,_,_,h=>zqN h
 | .Frame,_,_,h=>zrW h
 | .Timer,_,_,h=>zrP h
 | .Client,_,_,h=>zqD h
 | .Wire,_,_,h=>zsF h
 | .Note,_,_,h=>zsA h
 | .World,_,_,h=>zrI h
 | .Cur,_,_,h=>zsZ h
 | .Out,_,_,h=>zsK h
 | .Form,_,_,h=>zsx h
 | .Hash,_,_,h=>zsc h
def qD(t:TN)(a:El t):(enc t a).length=sz t:=by cases t<;>rfl
def MO(t:TN):0<sz t:=by cases t<;>simp[sz]
def V.leaf:V→Bool
 | .undef | .agg _ | .tup _=>false
 | _=>true
def zk0(t:TN)(a:El t):(enc t a).all V.leaf=true:=by cases t<;>rfl
def TN.isAgg:TN→Bool
 | .byte | .int | .bool | .str | .bs=>false
 | _=>true
end Go.D
namespace Go.D
class jA where
 tn:TypeId→Option TN
 base:Nat
end Go.D
namespace Go.D
structure RI where
 b:Nat
 n:Nat
 cap:Nat
 nl:Bool
def OF[jA](w:World)(b:Nat)(t:TN):Prop:=∃c e z,w.heap[b]?=some (.cells c e z)∧jA.tn e=some t
def zE(k:IntKind)(n:Int):Prop:=k.min≤n∧n≤k.max
def at_(b o:Nat):Addr:=⟨b,o,none⟩
variable [jA]
inductive VR(w:World)(ρ:Nat→Option RI)(bad:Nat→Prop):Value→V→Prop where
 | undef (v:Value):VR w ρ bad v .undef
 | bool (b:Bool):VR w ρ bad (.bool b) (.bool b)
 | int (k:IntKind) (n:Int) (h:zE k n):VR w ρ bad (.int k n) (.int k n)
 | str (s:List UInt8) (h:s.length≤maxLen):VR w ρ bad (.string ⟨s.toArray⟩) (.str s)
 | nil:VR w ρ bad (.slice none 0 0) .nil
 | slE (t:TN) (a:Option Addr) (cap:Nat) (h:cap≤maxLen):VR w ρ bad (.slice a 0 cap) (.sl t [])
 | slC (t:TN) (l:List (El t)) (b off cap:Nat) (u:Nat→Nat→Value) (hb:¬bad b) (hl:l.length≤cap) (hc:cap≤maxLen) (he:l≠[]→b<jA.base∨OF w b t)
   (hu:∀i,i<l.length→∀j,j<sz t→w.cell? (at_ b (off+i *sz t+j))=some (u i j))
   (hv:∀i (h:i<l.length) j,j<sz t→VR w ρ bad (u i j) ((enc t l[i]).getD j .undef)):
   VR w ρ bad (.slice (some (at_ b off)) l.length cap) (.sl t l)
 | ow (r:Nat) (ri:RI) (h:ρ r=some ri) (hn:ri.n≤ri.cap) (hc:ri.cap≤maxLen) (fW:ri.nl=false):VR w ρ bad (.slice (some (at_ ri.b 0)) ri.n ri.cap) (.ow r)
 | owN (r:Nat) (ri:RI) (ao:Option Addr) (h:ρ r=some ri) (hn:ri.n=0) (fW:ri.nl=true):VR w ρ bad (.slice ao 0 0) (.ow r)
 | ov (r:Nat) (t:TN) (off len cap:Nat) (a:Option Addr) (ri:RI) (h:ρ r=some ri) (U5:off+len≤ri.n) (ha:len=0∧cap=0∨a=some (at_ ri.b (off *sz t))∧ri.nl=false∧off+cap≤ri.cap)
   (hl:len≤cap) (hc:cap≤maxLen):VR w ρ bad (.slice a len cap) (.ov r t off len)
 | bp (r off:Nat) (ri:RI) (h:ρ r=some ri) (fW:ri.nl=false):VR w ρ bad (.pointer (some (at_ ri.b off))) (.bp r off)
 | ep (r:Nat) (t:TN) (i off:Nat) (ri:RI) (h:ρ r=some ri) (fW:ri.nl=false):VR w ρ bad (.pointer (some (at_ ri.b (i *sz t+off)))) (.ep r t i off)
 | fp (cs:List V) (off b o:Nat) (u:Nat→Value) (h0:0<cs.length) (hb:¬bad b) (hu:∀j,j<cs.length→w.cell? (at_ b (o+j))=some (u j))
   (hv:∀j (h:j<cs.length),VR w ρ bad (u j) cs[j]):VR w ρ bad (.pointer (some (at_ b (o+off)))) (.fp cs off)
 | fn (f:Nat) (cs:List V) (caps:Array Value) (hs:caps.size=cs.length) (hv:∀j (h:j<cs.length),VR w ρ bad (caps.getD j undef) cs[j]):
   VR w ρ bad (.func (.func f) #[] caps) (.fn f cs)
 | agg (cs:List V) (vs:Array Value) (hs:vs.size=cs.length) (hv:∀j (h:j<cs.length),VR w ρ bad (vs.getD j undef) cs[j]):VR w ρ bad (.agg vs) (.agg cs)
 | tup (cs:List V) (vs:Array Value) (hs:vs.size=cs.length) (hv:∀j (h:j<cs.length),VR w ρ bad (vs.getD j undef) cs[j]):VR w ρ bad (.tuple vs) (.tup cs)
 | nili:VR w ρ bad .nilIface .nili
 | ifc (t:TypeId) (v:Value):VR w ρ bad (.iface t v) (.ifc false)
 | ifn:VR w ρ bad .nilIface (.ifc true)
inductive IB(S:Nat→Prop):V→Prop where
 | undef:IB S .undef
 | bool (b:Bool):IB S (.bool b)
 | int (k:IntKind) (n:Int):IB S (.int k n)
 | str (s:List UInt8):IB S (.str s)
 | nil:IB S .nil
 | sl (t:TN) (l:List (El t)) (h:∀i (h:i<l.length) j,j<sz t→IB S ((enc t l[i]).getD j .undef)):IB S (.sl t l)
 | ow (r:Nat) (h:S r):IB S (.ow r)
 | ov (r:Nat) (t:TN) (off len:Nat) (h:S r):IB S (.ov r t off len)
 | bp (r off:Nat) (h:S r):IB S (.bp r off)
 | ep (r:Nat) (t:TN) (i off:Nat) (h:S r):IB S (.ep r t i off)
 | fp (cs:List V) (off:Nat) (h:∀j (h:j<cs.length),IB S cs[j]):IB S (.fp cs off)
 | fn (f:Nat) (cs:List V) (h:∀j (h:j<cs.length),IB S cs[j]):IB S (.fn f cs)
 | agg (cs:List V) (h:∀j (h:j<cs.length),IB S cs[j]):IB S (.agg cs)
 | tup (cs:List V) (h:∀j (h:j<cs.length),IB S cs[j]):IB S (.tup cs)
 | nili:IB S .nili
 | ifc (b:Bool):IB S (.ifc b)
section
variable {w:World} {ρ:Nat→Option RI} {bad:Nat→Prop} {v:Value} {d:V}
def VR.refs(h:VR w ρ bad v d):IB (λr=>ρ r≠none) d:=by
 induction h with
 | undef=>exact .undef
 | bool=>exact .bool _
 | int=>exact .int _ _
 | str=>exact .str _
 | nil=>exact .nil
 | slE=>exact .sl _ _ (λi h=>by simp at h)
 | slC t l b off cap u hb hl hc he hu hv ih=>exact .sl _ _ ih
 | ow r ri h=>exact .ow _ (by simp[h])
 | owN r ri ao h=>exact .ow _ (by simp[h])
 | ov r t off len cap a ri h=>exact .ov _ _ _ _ (by simp[h])
 | bp r off ri h=>exact .bp _ _ (by simp[h])
 | ep r t i off ri h=>exact .ep _ _ _ _ (by simp[h])
 | fp cs off b o u h0 hb hu hv ih=>exact .fp _ _ ih
 | fn f cs caps hs hv ih=>exact .fn _ _ ih
 | agg cs vs hs hv ih=>exact .agg _ ih
 | tup cs vs hs hv ih=>exact .tup _ ih
 | nili=>exact .nili
 | ifc=>exact .ifc _
 | ifn=>exact .ifc _
omit [jA]in
def DV{w:World}{b o:Nat}{u:Value}(h:w.cell? (at_ b o)=some u):b<w.heap.size:=by
 rcases Nat.lt_or_ge b w.heap.size with h' | h'
 ·exact h'
 ·simp[World.cell?,at_,Array.getElem?_eq_none h']at h
omit [jA]in
def VJ{w w':World}{b o:Nat}(h:w'.heap[b]?=w.heap[b]?):w'.cell? (at_ b o)=w.cell? (at_ b o):=by
 simp[World.cell?,at_,h]
def OF.same{w w':World}{b:Nat}{t:TN}(h:OF w b t)(hw:w'.heap[b]?=w.heap[b]?):OF w' b t:=by
 obtain⟨c,e,z,h1,h2⟩:=h;exact⟨c,e,z,hw.trans h1,h2⟩
def OF.uniq{w:World}{b:Nat}{t t':TN}(h:OF w b t)(h':OF w b t'):t=t':=by
 obtain⟨c,e,z,h1,h2⟩:=h;obtain⟨c',e',z',h1',h2'⟩:=h'
 grind
def VR.keep{w':World}{ρ':Nat→Option RI}{bad':Nat→Prop}{S:Nat→Prop}(h:VR w ρ bad v d)(hS:IB S d)
  (hρ:∀r ri,S r→ρ r=some ri→ρ' r=some ri)
  (hw:∀b,¬bad b→b<w.heap.size→w'.heap[b]?=w.heap[b]?) (hb:∀b,bad' b→bad b∨w.heap.size≤b):VR w' ρ' bad' v d:=by
 have mW:∀b,¬bad b→b<w.heap.size→¬bad' b:=λb h1 h2 h3=>(hb b h3).elim h1 (by omega);induction h with
 | undef=>exact .undef _
 | bool=>exact .bool _
 | int k n h=>exact .int _ _ h
 | str s h=>exact .str _ h
 | nil=>exact .nil
 | slE t a cap h=>exact .slE _ _ _ h
 | slC t l b off cap u hb hl hc he hu hv ih=>
  by_cases Y1:l.length=0
  ·obtain rfl:l=[]:=List.eq_nil_of_length_eq_zero Y1;exact .slE _ _ _ hc
  ·have MV:b<w.heap.size:=DV (hu 0 (by omega) 0 (MO t));cases hS with
   | sl _ _ hS=>
   exact .slC t l b off cap u (mW b hb MV) hl hc (λh0=>(he h0).imp id λk=>k.same (hw b hb MV)) (λi h j hj=>(VJ (hw b hb MV)).trans (hu i h j hj)) (λi h j hj=>ih i h j hj (hS i h j hj))
 | ow r ri h hn hc fW=>cases hS with | ow _ hs=>exact .ow _ _ (hρ _ _ hs h) hn hc fW
 | owN r ri ao h hn fW=>cases hS with | ow _ hs=>exact .owN _ _ _ (hρ _ _ hs h) hn fW
 | ov r t off len cap a ri h U5 ha hl hc=>cases hS with | ov _ _ _ _ hs=>exact .ov _ _ _ _ _ _ _ (hρ _ _ hs h) U5 ha hl hc
 | bp r off ri h fW=>cases hS with | bp _ _ hs=>exact .bp _ _ _ (hρ _ _ hs h) fW
 | ep r t i off ri h fW=>cases hS with | ep _ _ _ _ hs=>exact .ep _ _ _ _ _ (hρ _ _ hs h) fW
 | fp cs off b o u h0 hb hu hv ih=>
  cases hS with
  | fp _ _ hS=>
  have MV:b<w.heap.size:=DV (hu 0 h0);exact .fp cs off b o u h0 (mW b hb MV) (λj hj=>(VJ (hw b hb MV)).trans (hu j hj)) (λj hj=>ih j hj (hS j hj))
 | fn f cs caps hs hv ih=>cases hS with | fn _ _ hS=>exact .fn _ _ _ hs (λj hj=>ih j hj (hS j hj))
 | agg cs vs hs hv ih=>cases hS with | agg _ hS=>exact .agg _ _ hs (λj hj=>ih j hj (hS j hj))
 | tup cs vs hs hv ih=>cases hS with | tup _ hS=>exact .tup _ _ hs (λj hj=>ih j hj (hS j hj))
 | nili=>exact .nili
 | ifc=>exact .ifc _ _
 | ifn=>exact .ifn
def qT(w:World)(b:Nat):Prop:=∃o u,w.cell? (at_ b o)=some u
def VR.keep2{w':World}{ρ':Nat→Option RI}{bad':Nat→Prop}{S:Nat→Prop}(h:VR w ρ bad v d)(hS:IB S d)
  (hρ:∀r ri,S r→ρ r=some ri→ρ' r=some ri)
  (hw:∀b,¬bad b→qT w b→w'.heap[b]?=w.heap[b]?) (hb:∀b,qT w b→bad' b→bad b):VR w' ρ' bad' v d:=by
 have mW:∀b,¬bad b→qT w b→¬bad' b:=λb h1 h2 h3=>h1 (hb b h2 h3);induction h with
 | undef=>exact .undef _
 | bool=>exact .bool _
 | int k n h=>exact .int _ _ h
 | str s h=>exact .str _ h
 | nil=>exact .nil
 | slE t a cap h=>exact .slE _ _ _ h
 | slC t l b off cap u hb hl hc he hu hv ih=>
  by_cases Y1:l.length=0
  ·obtain rfl:l=[]:=List.eq_nil_of_length_eq_zero Y1;exact .slE _ _ _ hc
  ·have MV:qT w b:=⟨_,_,hu 0 (by omega) 0 (MO t)⟩;cases hS with
   | sl _ _ hS=>
   exact .slC t l b off cap u (mW b hb MV) hl hc (λh0=>(he h0).imp id λk=>k.same (hw b hb MV)) (λi h j hj=>(VJ (hw b hb MV)).trans (hu i h j hj)) (λi h j hj=>ih i h j hj (hS i h j hj))
 | ow r ri h hn hc fW=>cases hS with | ow _ hs=>exact .ow _ _ (hρ _ _ hs h) hn hc fW
 | owN r ri ao h hn fW=>cases hS with | ow _ hs=>exact .owN _ _ _ (hρ _ _ hs h) hn fW
 | ov r t off len cap a ri h U5 ha hl hc=>cases hS with | ov _ _ _ _ hs=>exact .ov _ _ _ _ _ _ _ (hρ _ _ hs h) U5 ha hl hc
 | bp r off ri h fW=>cases hS with | bp _ _ hs=>exact .bp _ _ _ (hρ _ _ hs h) fW
 | ep r t i off ri h fW=>cases hS with | ep _ _ _ _ hs=>exact .ep _ _ _ _ _ (hρ _ _ hs h) fW
 | fp cs off b o u h0 hb hu hv ih=>
  cases hS with
  | fp _ _ hS=>
  have MV:qT w b:=⟨_,_,hu 0 h0⟩;exact .fp cs off b o u h0 (mW b hb MV) (λj hj=>(VJ (hw b hb MV)).trans (hu j hj)) (λj hj=>ih j hj (hS j hj))
 | fn f cs caps hs hv ih=>cases hS with | fn _ _ hS=>exact .fn _ _ _ hs (λj hj=>ih j hj (hS j hj))
 | agg cs vs hs hv ih=>cases hS with | agg _ hS=>exact .agg _ _ hs (λj hj=>ih j hj (hS j hj))
 | tup cs vs hs hv ih=>cases hS with | tup _ hS=>exact .tup _ _ hs (λj hj=>ih j hj (hS j hj))
 | nili=>exact .nili
 | ifc=>exact .ifc _ _
 | ifn=>exact .ifn
omit [jA]in
def IB.all{S:Nat→Prop}{d:V}(hS:∀r,S r)(h:IB (λr=>ρ r≠none) d):IB S d:=by
 induction h with
 | undef=>exact .undef
 | bool=>exact .bool _
 | int=>exact .int _ _
 | str=>exact .str _
 | nil=>exact .nil
 | sl t l h ih=>exact .sl _ _ ih
 | ow r h=>exact .ow _ (hS _)
 | ov r t off len h=>exact .ov _ _ _ _ (hS _)
 | bp r off h=>exact .bp _ _ (hS _)
 | ep r t i off h=>exact .ep _ _ _ _ (hS _)
 | fp cs off h ih=>exact .fp _ _ ih
 | fn f cs h ih=>exact .fn _ _ ih
 | agg cs h ih=>exact .agg _ ih
 | tup cs h ih=>exact .tup _ ih
 | nili=>exact .nili
 | ifc=>exact .ifc _
def VR.mono{w':World}{ρ':Nat→Option RI}{bad':Nat→Prop}(h:VR w ρ bad v d)(hρ:∀r ri,ρ r=some ri→ρ' r=some ri)
  (hw:∀b,¬bad b→b<w.heap.size→w'.heap[b]?=w.heap[b]?) (hb:∀b,bad' b→bad b∨w.heap.size≤b):VR w' ρ' bad' v d:=
 h.keep (S:=λ_=>True) (IB.all (λ_=>trivial) h.refs) (λr ri _=>hρ r ri) hw hb
def VR.one(h:VR w ρ bad v d)(hd:d.leaf=true):v.oneCell'=true:=by
 cases h<;>first | rfl | simp[V.leaf]at hd
omit [jA]in
def zt4(n:Int)(h:zE .u8 n):((UInt8.ofNat n.toNat).toNat:Int)=n:=by
 obtain⟨h1,h2⟩:=h;simp[IntKind.min,IntKind.max,IntKind.signed,IntKind.bits]at h1 h2;simp only[UInt8.toNat_ofNat'];omega
def VR.sub{c d:V}(hs:WH c d)(h:VR w ρ bad v c):VR w ρ bad v d:=by
 cases hs with
 | refl=>exact h
 | byte n=>cases h with | int _ _ hf=>rw[zt4 n hf];exact .int _ _ hf
 | nil t=>cases h;exact .slE _ _ _ (Nat.zero_le _)
end
end Go.D
namespace Go.D
def XB(S:Nat→Prop)(a:UInt8)(j:Nat):IB S ((enc .byte a).getD j .undef):=by
 match j with
 | 0=>exact .int _ _
 | n+1=>exact .undef
def jK(S:Nat→Prop)(a:Int)(j:Nat):IB S ((enc .int a).getD j .undef):=by
 match j with
 | 0=>exact .int _ _
 | n+1=>exact .undef
def zuG(S:Nat→Prop)(a:Bool)(j:Nat):IB S ((enc .bool a).getD j .undef):=by
 match j with
 | 0=>exact .bool _
 | n+1=>exact .undef
def zv3(S:Nat→Prop)(a:List UInt8)(j:Nat):IB S ((enc .str a).getD j .undef):=by
 match j with
 | 0=>exact .str _
 | n+1=>exact .undef
def zd6(S:Nat→Prop)(a:List UInt8)(j:Nat):IB S ((enc .bs a).getD j .undef):=by
 match j with
 | 0=>exact .sl _ _ λi h j _=>XB S _ j
 | n+1=>exact .undef
def zuK(S:Nat→Prop)(a:Ai)(j:Nat):IB S ((enc .Addr a).getD j .undef):=by
 match j with
 | 0=>exact .int _ _
 | 1=>exact .int _ _
 | n+2=>exact .undef
def zmG(S:Nat→Prop)(a:Bc)(j:Nat):IB S ((enc .Op a).getD j .undef):=by
 match j with
 | 0=>exact .int _ _
 | 1=>exact .int _ _
 | 2=>exact .int _ _
 | 3=>exact .sl _ _ λi h j _=>XB S _ j
 | n+4=>exact .undef
def ztL(S:Nat→Prop)(a:Am)(j:Nat):IB S ((enc .Event a).getD j .undef):=by
 match j with
 | 0=>exact .int _ _
 | 1=>exact .int _ _
 | 2=>exact .int _ _
 | 3=>exact .int _ _
 | 4=>exact .sl _ _ λi h j _=>XB S _ j
 | 5=>exact .sl _ _ λi h j _=>zmG S _ j
 | n+6=>exact .undef
def zwb(S:Nat→Prop)(a:Ba)(j:Nat):IB S ((enc .Jar a).getD j .undef):=by
 match j with
 | 0=>exact .sl _ _ λi h j _=>XB S _ j
 | n+1=>exact .undef
def zuV(S:Nat→Prop)(a:Au)(j:Nat):IB S ((enc .Dice a).getD j .undef):=by
 match j with
 | 0=>exact .sl _ _ λi h j _=>XB S _ j
 | 1=>exact .int _ _
 | n+2=>exact .undef
def zwt(S:Nat→Prop)(a:Aq)(j:Nat):IB S ((enc .Win a).getD j .undef):=by
 match j with
 | 0=>exact .int _ _
 | 1=>exact .sl _ _ λi h j _=>jK S _ j
 | n+2=>exact .undef
def zwR(S:Nat→Prop)(a:Ax)(j:Nat):IB S ((enc .Ep a).getD j .undef):=by
 match j with
 | 0=>exact .int _ _
 | 1=>exact .sl _ _ λi h j _=>XB S _ j
 | 2=>exact .int _ _
 | 3=>exact .int _ _
 | 4=>exact .sl _ _ λi h j _=>jK S _ j
 | n+5=>exact .undef
def zvj(S:Nat→Prop)(a:Ak)(j:Nat):IB S ((enc .Chan a).getD j .undef):=by
 match j with
 | 0=>exact .int _ _
 | 1=>exact .sl _ _ λi h j _=>XB S _ j
 | 2=>exact .int _ _
 | 3=>exact .sl _ _ λi h j _=>XB S _ j
 | 4=>exact .int _ _
 | 5=>exact .int _ _
 | 6=>exact .sl _ _ λi h j _=>jK S _ j
 | 7=>exact .int _ _
 | 8=>exact .sl _ _ λi h j _=>XB S _ j
 | 9=>exact .int _ _
 | 10=>exact .int _ _
 | 11=>exact .sl _ _ λi h j _=>jK S _ j
 | 12=>exact .bool _
 | 13=>exact .int _ _
 | 14=>exact .sl _ _ λi h j _=>XB S _ j
 | n+15=>exact .undef
def zgy(S:Nat→Prop)(a:Az)(j:Nat):IB S ((enc .Cand a).getD j .undef):=by
 match j with
 | 0=>exact .int _ _
 | 1=>exact .int _ _
 | 2=>exact .sl _ _ λi h j _=>XB S _ j
 | 3=>exact .int _ _
 | n+4=>exact .undef
def ztY(S:Nat→Prop)(a:Aj)(j:Nat):IB S ((enc .Paths a).getD j .undef):=by
 match j with
 | 0=>exact .int _ _
 | 1=>exact .int _ _
 | 2=>exact .sl _ _ λi h j _=>zgy S _ j
 | n+3=>exact .undef
def zc8(S:Nat→Prop)(a:Ah)(j:Nat):IB S ((enc .Sess a).getD j .undef):=by
 match j with
 | 0=>exact .int _ _
 | 1=>exact .sl _ _ λi h j _=>XB S _ j
 | 2=>exact .sl _ _ λi h j _=>XB S _ j
 | 3=>exact .int _ _
 | 4=>exact .sl _ _ λi h j _=>XB S _ j
 | 5=>exact .int _ _
 | 6=>exact .sl _ _ λi h j _=>XB S _ j
 | 7=>exact .int _ _
 | 8=>exact .int _ _
 | 9=>exact .sl _ _ λi h j _=>jK S _ j
 | 10=>exact .int _ _
 | 11=>exact .sl _ _ λi h j _=>XB S _ j
 | 12=>exact .int _ _
 | 13=>exact .int _ _
 | 14=>exact .sl _ _ λi h j _=>jK S _ j
 | 15=>exact .bool _
 | 16=>exact .int _ _
 | 17=>exact .sl _ _ λi h j _=>XB S _ j
 | 18=>exact .int _ _
 | 19=>exact .int _ _
 | 20=>exact .sl _ _ λi h j _=>zgy S _ j
 | 21=>exact .int _ _
 | 22=>exact .int _ _
 | 23=>exact .bool _
 | n+24=>exact .undef
def zvU(S:Nat→Prop)(a:Ao)(j:Nat):IB S ((enc .Tab a).getD j .undef):=by
 match j with
 | 0=>exact .int _ _
 | 1=>exact .sl _ _ λi h j _=>zc8 S _ j
 | n+2=>exact .undef
def zfX(S:Nat→Prop)(a:Al)(j:Nat):IB S ((enc .Credit a).getD j .undef):=by
 match j with
 | 0=>exact .int _ _
 | 1=>exact .int _ _
 | 2=>exact .int _ _
 | 3=>exact .int _ _
 | n+4=>exact .undef
def ztd(S:Nat→Prop)(a:Ac)(j:Nat):IB S ((enc .Server a).getD j .undef):=by
 match j with
 | 0=>exact .sl _ _ λi h j _=>zd6 S _ j
 | 1=>exact .sl _ _ λi h j _=>XB S _ j
 | 2=>exact .sl _ _ λi h j _=>XB S _ j
 | 3=>exact .int _ _
 | 4=>exact .int _ _
 | 5=>exact .sl _ _ λi h j _=>zc8 S _ j
 | 6=>exact .sl _ _ λi h j _=>zfX S _ j
 | n+7=>exact .undef
def ztp(S:Nat→Prop)(a:Ab)(j:Nat):IB S ((enc .Frame a).getD j .undef):=by
 match j with
 | 0=>exact .int _ _
 | 1=>exact .int _ _
 | 2=>exact .sl _ _ λi h j _=>XB S _ j
 | 3=>exact .sl _ _ λi h j _=>XB S _ j
 | 4=>exact .int _ _
 | 5=>exact .sl _ _ λi h j _=>XB S _ j
 | 6=>exact .sl _ _ λi h j _=>XB S _ j
 | 7=>exact .int _ _
 | 8=>exact .int _ _
 | 9=>exact .sl _ _ λi h j _=>XB S _ j
 | 10=>exact .sl _ _ λi h j _=>XB S _ j
 | n+11=>exact .undef
def zub(S:Nat→Prop)(a:Aw)(j:Nat):IB S ((enc .Timer a).getD j .undef):=by
 match j with
 | 0=>exact .bool _
 | 1=>exact .int _ _
 | 2=>exact .int _ _
 | 3=>exact .int _ _
 | n+4=>exact .undef
def zkd(S:Nat→Prop)(a:Ae)(j:Nat):IB S ((enc .Client a).getD j .undef):=by
 match j with
 | 0=>exact .int _ _
 | 1=>exact .sl _ _ λi h j _=>XB S _ j
 | 2=>exact .int _ _
 | 3=>exact .int _ _
 | 4=>exact .int _ _
 | 5=>exact .sl _ _ λi h j _=>XB S _ j
 | 6=>exact .int _ _
 | 7=>exact .int _ _
 | 8=>exact .sl _ _ λi h j _=>XB S _ j
 | 9=>exact .sl _ _ λi h j _=>XB S _ j
 | 10=>exact .int _ _
 | 11=>exact .sl _ _ λi h j _=>XB S _ j
 | 12=>exact .sl _ _ λi h j _=>XB S _ j
 | 13=>exact .int _ _
 | 14=>exact .int _ _
 | 15=>exact .sl _ _ λi h j _=>XB S _ j
 | 16=>exact .sl _ _ λi h j _=>XB S _ j
 | 17=>exact .int _ _
 | 18=>exact .sl _ _ λi h j _=>XB S _ j
 | 19=>exact .int _ _
 | 20=>exact .sl _ _ λi h j _=>XB S _ j
 | 21=>exact .int _ _
 | 22=>exact .int _ _
 | 23=>exact .sl _ _ λi h j _=>jK S _ j
 | 24=>exact .int _ _
 | 25=>exact .sl _ _ λi h j _=>XB S _ j
 | 26=>exact .int _ _
 | 27=>exact .int _ _
 | 28=>exact .sl _ _ λi h j _=>jK S _ j
 | 29=>exact .bool _
 | 30=>exact .int _ _
 | 31=>exact .sl _ _ λi h j _=>XB S _ j
 | 32=>exact .bool _
 | 33=>exact .int _ _
 | 34=>exact .int _ _
 | 35=>exact .int _ _
 | 36=>exact .bool _
 | 37=>exact .int _ _
 | 38=>exact .int _ _
 | 39=>exact .int _ _
 | 40=>exact .int _ _
 | n+41=>exact .undef
def zly(S:Nat→Prop)(a:Ap)(j:Nat):IB S ((enc .Wire a).getD j .undef):=by
 match j with
 | 0=>exact .int _ _
 | 1=>exact .int _ _
 | 2=>exact .int _ _
 | 3=>exact .int _ _
 | 4=>exact .sl _ _ λi h j _=>XB S _ j
 | n+5=>exact .undef
def zk6(S:Nat→Prop)(a:Ad)(j:Nat):IB S ((enc .Note a).getD j .undef):=by
 match j with
 | 0=>exact .int _ _
 | 1=>exact .int _ _
 | 2=>exact .int _ _
 | 3=>exact .sl _ _ λi h j _=>XB S _ j
 | 4=>exact .sl _ _ λi h j _=>XB S _ j
 | 5=>exact .int _ _
 | 6=>exact .int _ _
 | 7=>exact .sl _ _ λi h j _=>XB S _ j
 | 8=>exact .sl _ _ λi h j _=>XB S _ j
 | 9=>exact .int _ _
 | 10=>exact .int _ _
 | 11=>exact .int _ _
 | n+12=>exact .undef
def ztH(S:Nat→Prop)(a:Aa)(j:Nat):IB S ((enc .World a).getD j .undef):=by
 match j with
 | 0=>exact .int _ _
 | 1=>exact .sl _ _ λi h j _=>zkd S _ j
 | 2=>exact .sl _ _ λi h j _=>zd6 S _ j
 | 3=>exact .sl _ _ λi h j _=>XB S _ j
 | 4=>exact .sl _ _ λi h j _=>XB S _ j
 | 5=>exact .int _ _
 | 6=>exact .int _ _
 | 7=>exact .sl _ _ λi h j _=>zc8 S _ j
 | 8=>exact .sl _ _ λi h j _=>zfX S _ j
 | 9=>exact .sl _ _ λi h j _=>XB S _ j
 | 10=>exact .int _ _
 | 11=>exact .sl _ _ λi h j _=>zly S _ j
 | 12=>exact .sl _ _ λi h j _=>zd6 S _ j
 | 13=>exact .sl _ _ λi h j _=>zk6 S _ j
 | n+14=>exact .undef
def zwI(S:Nat→Prop)(a:Af)(j:Nat):IB S ((enc .Cur a).getD j .undef):=by
 match j with
 | 0=>exact .sl _ _ λi h j _=>XB S _ j
 | 1=>exact .int _ _
 | 2=>exact .int _ _
 | n+3=>exact .undef
def zvB(S:Nat→Prop)(a:Av)(j:Nat):IB S ((enc .Out a).getD j .undef):=by
 match j with
 | 0=>exact .int _ _
 | 1=>exact .int _ _
 | 2=>exact .int _ _
 | 3=>exact .int _ _
 | 4=>exact .sl _ _ λi h j _=>XB S _ j
 | 5=>exact .sl _ _ λi h j _=>XB S _ j
 | 6=>exact .int _ _
 | 7=>exact .sl _ _ λi h j _=>XB S _ j
 | 8=>exact .sl _ _ λi h j _=>XB S _ j
 | 9=>exact .int _ _
 | 10=>exact .int _ _
 | 11=>exact .sl _ _ λi h j _=>XB S _ j
 | 12=>exact .sl _ _ λi h j _=>XB S _ j
 | n+13=>exact .undef
def zul(S:Nat→Prop)(a:Kh)(j:Nat):IB S ((enc .Form a).getD j .undef):=by
 match j with
 | 0=>exact .int _ _
 | 1=>exact .str _
 | n+2=>exact .undef
def zvk(S:Nat→Prop)(a:Be)(j:Nat):IB S ((enc .Hash a).getD j .undef):=by
 match j with
 | 0=>exact .sl _ _ λi h j _=>jK S _ j
 | 1=>exact .sl _ _ λi h j _=>XB S _ j
 | 2=>exact .int _ _
 | n+3=>exact .undef
def OM(S:Nat→Prop)(t:TN)(a:El t)(j:Nat):IB S ((enc t a).getD j .undef):=by
 cases t with
 | byte=>exact XB S a j
 | int=>exact jK S a j
 | bool=>exact zuG S a j
 | str=>exact zv3 S a j
 | bs=>exact zd6 S a j
 | Addr=>exact zuK S a j
 | Op=>exact zmG S a j
 | Event=>exact ztL S a j
 | Jar=>exact zwb S a j
 | Dice=>exact zuV S a j
 | Win=>exact zwt S a j
 | Ep=>exact zwR S a j
 | Chan=>exact zvj S a j
 | Cand=>exact zgy S a j
 | Paths=>exact ztY S a j
 | Sess=>exact zc8 S a j
 | Tab=>exact zvU S a j
 | Credit=>exact zfX S a j
 | Server=>exact ztd S a j
 | Frame=>exact ztp S a j
 | Timer=>exact zub S a j
 | Client=>exact zkd S a j
 | Wire=>exact zly S a j
 | Note=>exact zk6 S a j
 | World=>exact ztH S a j
 | Cur=>exact zwI S a j
 | Out=>exact zvB S a j
 | Form=>exact zul S a j
 | Hash=>exact zvk S a j
end Go.D
