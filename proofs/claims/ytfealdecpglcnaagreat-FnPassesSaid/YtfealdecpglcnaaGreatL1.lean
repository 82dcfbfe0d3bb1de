/-
 The data of the program as plain structures; values of the plain semantics; their encoding as flat cells.
-/
import GoSem.Core.Value
import Derived.Calls
import Derived.WalkKit
import GoSem.ClaimData
set_option linter.all false
namespace Go.D
structure Ai where
 Host:Int
 Port:Int
structure Bc where
 Kind:Int
 I:Int
 J:Int
 B:(List UInt8)
structure Aq where
 Kind:Int
 I:Int
 J:Int
 N:Int
 B:(List UInt8)
 Ops:(List Bc)
structure Ba where
 Secret:(List UInt8)
structure Ax where
 Seed:(List UInt8)
 N:Int
structure Ap where
 Top:Int
 Bits:(List Int)
structure Aw where
 N:Int
 Key:(List UInt8)
 Seq:Int
 Win:Ap
structure Ak where
 Role:Int
 Sn:(List UInt8)
 Cur:Aw
 Old:Aw
 HasOld:Bool
 Until:Int
 Next:(List UInt8)
structure Az where
 A:Ai
 Draw:(List UInt8)
 Until:Int
structure Aj where
 At:Ai
 Cands:(List Az)
structure Ah where
 Id:Int
 Cn:(List UInt8)
 Sn:(List UInt8)
 C:Ak
 P:Aj
 Tick:Int
 Last:Int
 Dead:Bool
structure Ao where
 Cap:Int
 L:(List Ah)
structure Al where
 A:Ai
 Got:Int
 Sent:Int
structure Ac where
 Psks:(List (List UInt8))
 J:Ba
 D:Ax
 T:Ao
 Cr:(List Al)
structure Aa where
 Kind:Int
 Id:Int
 Cn:(List UInt8)
 Sn:(List UInt8)
 Tick:Int
 Cookie:(List UInt8)
 Proof:(List UInt8)
 Epoch:Int
 Seq:Int
 Body:(List UInt8)
 Tag:(List UInt8)
structure Av where
 On:Bool
 Due:Int
 Wait:Int
 Tries:Int
structure Ad where
 Id:Int
 Psk:(List UInt8)
 At:Ai
 St:Int
 Cn:(List UInt8)
 Fin:Aa
 C:Ak
 T:Av
 R:Av
 Last:Int
structure Am where
 From:Ai
 To:Ai
 B:(List UInt8)
structure Ae where
 Kind:Int
 Id:Int
 Role:Int
 Cn:(List UInt8)
 Sn:(List UInt8)
 Epoch:Int
 Seq:Int
 Body:(List UInt8)
 Key:(List UInt8)
 A:Ai
 Now:Int
structure Ab where
 Now:Int
 Clients:(List Ad)
 S:Ac
 D:Ax
 Seen:(List Am)
 Known:(List (List UInt8))
 Notes:(List Ae)
structure Af where
 b:(List UInt8)
 i:Int
 h:Int
structure Au where
 To:Ai
 F:Aa
structure Jw where
 kind:Int
 words:(List UInt8)
structure Be where
 H:(List Int)
 Held:(List UInt8)
 N:Int
end Go.D
namespace Go.D
inductive TN where
 | byte | int | bool | str | bs | Addr | Op | Event | Jar | Dice | Win | Ep | Chan | Cand | Paths | Sess | Tab | Credit | Server | Frame | Timer | Client | Wire | Note | World | Cur | Out | Form | Hash
 deriving DecidableEq
@[reducible] def El:TN→Type
 | .byte=>UInt8 | .int=>Int | .bool=>Bool | .str=>List UInt8 | .bs=>List UInt8
 | .Addr=>Ai | .Op=>Bc | .Event=>Aq | .Jar=>Ba | .Dice=>Ax | .Win=>Ap | .Ep=>Aw | .Chan=>Ak | .Cand=>Az | .Paths=>Aj | .Sess=>Ah | .Tab=>Ao | .Credit=>Al | .Server=>Ac | .Frame=>Aa | .Timer=>Av | .Client=>Ad | .Wire=>Am | .Note=>Ae | .World=>Ab | .Cur=>Af | .Out=>Au | .Form=>Jw | .Hash=>Be
inductive V where
 | undef
 | bool (b:Bool)
 | int (k:IntKind) (n:Int)
 | str (s:List UInt8)
 | nil
 | sl (t:TN) (l:List (El t))
 | ow (r:Nat)
 | ov (r:Nat) (t:TN) (off len:Nat)
 | bp (r off:Nat)
 | ep (r:Nat) (t:TN) (i off:Nat)
 | fp (cs:List V) (off:Nat)
 | fn (f:Nat) (cs:List V)
 | agg (cs:List V)
 | tup (vs:List V)
 | nili
 | ifc (b:Bool)
def zcF(a:Ai):List V:=[.int .i64 a.Host, .int .i64 a.Port]
def zgk(a:Bc):List V:=[.int .i64 a.Kind, .int .i64 a.I, .int .i64 a.J, .sl .byte a.B]
def zft(a:Aq):List V:=[.int .i64 a.Kind, .int .i64 a.I, .int .i64 a.J, .int .i64 a.N, .sl .byte a.B, .sl .Op a.Ops]
def zgb(a:Ba):List V:=[.sl .byte a.Secret]
def zfZ(a:Ax):List V:=[.sl .byte a.Seed, .int .i64 a.N]
def zf8(a:Ap):List V:=[.int .i64 a.Top, .sl .int a.Bits]
def zgj(a:Aw):List V:=[.int .i64 a.N, .sl .byte a.Key, .int .i64 a.Seq, .int .i64 a.Win.Top, .sl .int a.Win.Bits]
def zfK(a:Ak):List V:=[.int .i64 a.Role, .sl .byte a.Sn, .int .i64 a.Cur.N, .sl .byte a.Cur.Key, .int .i64 a.Cur.Seq, .int .i64 a.Cur.Win.Top, .sl .int a.Cur.Win.Bits, .int .i64 a.Old.N, .sl .byte a.Old.Key, .int .i64 a.Old.Seq, .int .i64 a.Old.Win.Top, .sl .int a.Old.Win.Bits, .bool a.HasOld, .int .i64 a.Until, .sl .byte a.Next]
def zfI(a:Az):List V:=[.int .i64 a.A.Host, .int .i64 a.A.Port, .sl .byte a.Draw, .int .i64 a.Until]
def zfl(a:Aj):List V:=[.int .i64 a.At.Host, .int .i64 a.At.Port, .sl .Cand a.Cands]
def zfM(a:Ah):List V:=[.int .i64 a.Id, .sl .byte a.Cn, .sl .byte a.Sn, .int .i64 a.C.Role, .sl .byte a.C.Sn, .int .i64 a.C.Cur.N, .sl .byte a.C.Cur.Key, .int .i64 a.C.Cur.Seq, .int .i64 a.C.Cur.Win.Top, .sl .int a.C.Cur.Win.Bits, .int .i64 a.C.Old.N, .sl .byte a.C.Old.Key, .int .i64 a.C.Old.Seq, .int .i64 a.C.Old.Win.Top, .sl .int a.C.Old.Win.Bits, .bool a.C.HasOld, .int .i64 a.C.Until, .sl .byte a.C.Next, .int .i64 a.P.At.Host, .int .i64 a.P.At.Port, .sl .Cand a.P.Cands, .int .i64 a.Tick, .int .i64 a.Last, .bool a.Dead]
def zga(a:Ao):List V:=[.int .i64 a.Cap, .sl .Sess a.L]
def zb5(a:Al):List V:=[.int .i64 a.A.Host, .int .i64 a.A.Port, .int .i64 a.Got, .int .i64 a.Sent]
def zfc(a:Ac):List V:=[.sl .bs a.Psks, .sl .byte a.J.Secret, .sl .byte a.D.Seed, .int .i64 a.D.N, .int .i64 a.T.Cap, .sl .Sess a.T.L, .sl .Credit a.Cr]
def zfm(a:Aa):List V:=[.int .i64 a.Kind, .int .i64 a.Id, .sl .byte a.Cn, .sl .byte a.Sn, .int .i64 a.Tick, .sl .byte a.Cookie, .sl .byte a.Proof, .int .i64 a.Epoch, .int .i64 a.Seq, .sl .byte a.Body, .sl .byte a.Tag]
def zcu(a:Av):List V:=[.bool a.On, .int .i64 a.Due, .int .i64 a.Wait, .int .i64 a.Tries]
def zfb(a:Ad):List V:=[.int .i64 a.Id, .sl .byte a.Psk, .int .i64 a.At.Host, .int .i64 a.At.Port, .int .i64 a.St, .sl .byte a.Cn, .int .i64 a.Fin.Kind, .int .i64 a.Fin.Id, .sl .byte a.Fin.Cn, .sl .byte a.Fin.Sn, .int .i64 a.Fin.Tick, .sl .byte a.Fin.Cookie, .sl .byte a.Fin.Proof, .int .i64 a.Fin.Epoch, .int .i64 a.Fin.Seq, .sl .byte a.Fin.Body, .sl .byte a.Fin.Tag, .int .i64 a.C.Role, .sl .byte a.C.Sn, .int .i64 a.C.Cur.N, .sl .byte a.C.Cur.Key, .int .i64 a.C.Cur.Seq, .int .i64 a.C.Cur.Win.Top, .sl .int a.C.Cur.Win.Bits, .int .i64 a.C.Old.N, .sl .byte a.C.Old.Key, .int .i64 a.C.Old.Seq, .int .i64 a.C.Old.Win.Top, .sl .int a.C.Old.Win.Bits, .bool a.C.HasOld, .int .i64 a.C.Until, .sl .byte a.C.Next, .bool a.T.On, .int .i64 a.T.Due, .int .i64 a.T.Wait, .int .i64 a.T.Tries, .bool a.R.On, .int .i64 a.R.Due, .int .i64 a.R.Wait, .int .i64 a.R.Tries, .int .i64 a.Last]
def zfE(a:Am):List V:=[.int .i64 a.From.Host, .int .i64 a.From.Port, .int .i64 a.To.Host, .int .i64 a.To.Port, .sl .byte a.B]
def zfS(a:Ae):List V:=[.int .i64 a.Kind, .int .i64 a.Id, .int .i64 a.Role, .sl .byte a.Cn, .sl .byte a.Sn, .int .i64 a.Epoch, .int .i64 a.Seq, .sl .byte a.Body, .sl .byte a.Key, .int .i64 a.A.Host, .int .i64 a.A.Port, .int .i64 a.Now]
def zfh(a:Ab):List V:=[.int .i64 a.Now, .sl .Client a.Clients, .sl .bs a.S.Psks, .sl .byte a.S.J.Secret, .sl .byte a.S.D.Seed, .int .i64 a.S.D.N, .int .i64 a.S.T.Cap, .sl .Sess a.S.T.L, .sl .Credit a.S.Cr, .sl .byte a.D.Seed, .int .i64 a.D.N, .sl .Wire a.Seen, .sl .bs a.Known, .sl .Note a.Notes]
def zf7(a:Af):List V:=[.sl .byte a.b, .int .i64 a.i, .int .i64 a.h]
def zgg(a:Au):List V:=[.int .i64 a.To.Host, .int .i64 a.To.Port, .int .i64 a.F.Kind, .int .i64 a.F.Id, .sl .byte a.F.Cn, .sl .byte a.F.Sn, .int .i64 a.F.Tick, .sl .byte a.F.Cookie, .sl .byte a.F.Proof, .int .i64 a.F.Epoch, .int .i64 a.F.Seq, .sl .byte a.F.Body, .sl .byte a.F.Tag]
def zcC(a:Jw):List V:=[.int .i64 a.kind, .str a.words]
def zfG(a:Be):List V:=[.sl .int a.H, .sl .byte a.Held, .int .i64 a.N]
def enc:(t:TN)→El t→List V
 | .byte,b=>[.int .u8 (b.toNat:Int)]
 | .int,n=>[.int .i64 n]
 | .bool,b=>[.bool b]
 | .str,s=>[.str s]
 | .bs,l=>[.sl .byte l]
 | .Addr,a=>zcF a
 | .Op,a=>zgk a
 | .Event,a=>zft a
 | .Jar,a=>zgb a
 | .Dice,a=>zfZ a
 | .Win,a=>zf8 a
 | .Ep,a=>zgj a
 | .Chan,a=>zfK a
 | .Cand,a=>zfI a
 | .Paths,a=>zfl a
 | .Sess,a=>zfM a
 | .Tab,a=>zga a
 | .Credit,a=>zb5 a
 | .Server,a=>zfc a
 | .Frame,a=>zfm a
 | .Timer,a=>zcu a
 | .Client,a=>zfb a
 | .Wire,a=>zfE a
 | .Note,a=>zfS a
 | .World,a=>zfh a
 | .Cur,a=>zf7 a
 | .Out,a=>zgg a
 | .Form,a=>zcC a
 | .Hash,a=>zfG a
def sz:TN→Nat
 | .byte=>1 | .int=>1 | .bool=>1 | .str=>1 | .bs=>1
 | .Addr=>2 | .Op=>4 | .Event=>6 | .Jar=>1 | .Dice=>2 | .Win=>2 | .Ep=>5 | .Chan=>15 | .Cand=>4 | .Paths=>3 | .Sess=>24 | .Tab=>2 | .Credit=>4 | .Server=>7 | .Frame=>11 | .Timer=>4 | .Client=>41 | .Wire=>5 | .Note=>12 | .World=>14 | .Cur=>3 | .Out=>13 | .Form=>2 | .Hash=>3
def GA:V→Option Int | .int .i64 n=>some n | _=>none
def US:V→Option UInt8 | .int .u8 n=>some (UInt8.ofNat n.toNat) | _=>none
def HH:V→Option Bool | .bool b=>some b | _=>none
def HO:V→Option (List UInt8) | .str s=>some s | _=>none
def TN.cast{s t:TN}(h:s=t)(l:List (El s)):List (El t):=h▸l
def WA(t:TN):V→Option (List (El t))
 | .sl s l=>if h:s=t then some (TN.cast h l)else none
 | .nil=>some []
 | _=>none
def tk{α β:Type}(p:V→Option α)(cs:List V)(k:α→List V→Option β):Option β:=
 match cs with
 | c :: cs=>(p c).bind λa=>k a cs
 | []=>none
def WB{β:Type}(cs:List V)(r:β):Option β:=
 match cs with
 | []=>some r
 | _=>none
def zcS(cs:List V):Option Ai:=
 tk GA cs λf0 cs=>
 tk GA cs λf1 cs=>
 WB cs (⟨f0,f1⟩:Ai)
def zdw(cs:List V):Option Bc:=
 tk GA cs λf0 cs=>
 tk GA cs λf1 cs=>
 tk GA cs λf2 cs=>
 tk (WA .byte) cs λf3 cs=>
 WB cs (⟨f0,f1,f2,f3⟩:Bc)
def zcA(cs:List V):Option Aq:=
 tk GA cs λf0 cs=>
 tk GA cs λf1 cs=>
 tk GA cs λf2 cs=>
 tk GA cs λf3 cs=>
 tk (WA .byte) cs λf4 cs=>
 tk (WA .Op) cs λf5 cs=>
 WB cs (⟨f0,f1,f2,f3,f4,f5⟩:Aq)
def zdl(cs:List V):Option Ba:=
 tk (WA .byte) cs λf0 cs=>
 WB cs (⟨f0⟩:Ba)
def zcX(cs:List V):Option Ax:=
 tk (WA .byte) cs λf0 cs=>
 tk GA cs λf1 cs=>
 WB cs (⟨f0,f1⟩:Ax)
def zda(cs:List V):Option Ap:=
 tk GA cs λf0 cs=>
 tk (WA .int) cs λf1 cs=>
 WB cs (⟨f0,f1⟩:Ap)
def zdu(cs:List V):Option Aw:=
 tk GA cs λf0 cs=>
 tk (WA .byte) cs λf1 cs=>
 tk GA cs λf2 cs=>
 tk GA cs λf3 cs=>
 tk (WA .int) cs λf4 cs=>
 WB cs (⟨f0,f1,f2,⟨f3,f4⟩⟩:Aw)
def zc2(cs:List V):Option Ak:=
 tk GA cs λf0 cs=>
 tk (WA .byte) cs λf1 cs=>
 tk GA cs λf2 cs=>
 tk (WA .byte) cs λf3 cs=>
 tk GA cs λf4 cs=>
 tk GA cs λf5 cs=>
 tk (WA .int) cs λf6 cs=>
 tk GA cs λf7 cs=>
 tk (WA .byte) cs λf8 cs=>
 tk GA cs λf9 cs=>
 tk GA cs λf10 cs=>
 tk (WA .int) cs λf11 cs=>
 tk HH cs λf12 cs=>
 tk GA cs λf13 cs=>
 tk (WA .byte) cs λf14 cs=>
 WB cs (⟨f0,f1,⟨f2,f3,f4,⟨f5,f6⟩⟩,⟨f7,f8,f9,⟨f10,f11⟩⟩,f12,f13,f14⟩:Ak)
def zcM(cs:List V):Option Az:=
 tk GA cs λf0 cs=>
 tk GA cs λf1 cs=>
 tk (WA .byte) cs λf2 cs=>
 tk GA cs λf3 cs=>
 WB cs (⟨⟨f0,f1⟩,f2,f3⟩:Az)
def zcd(cs:List V):Option Aj:=
 tk GA cs λf0 cs=>
 tk GA cs λf1 cs=>
 tk (WA .Cand) cs λf2 cs=>
 WB cs (⟨⟨f0,f1⟩,f2⟩:Aj)
def zc4(cs:List V):Option Ah:=
 tk GA cs λf0 cs=>
 tk (WA .byte) cs λf1 cs=>
 tk (WA .byte) cs λf2 cs=>
 tk GA cs λf3 cs=>
 tk (WA .byte) cs λf4 cs=>
 tk GA cs λf5 cs=>
 tk (WA .byte) cs λf6 cs=>
 tk GA cs λf7 cs=>
 tk GA cs λf8 cs=>
 tk (WA .int) cs λf9 cs=>
 tk GA cs λf10 cs=>
 tk (WA .byte) cs λf11 cs=>
 tk GA cs λf12 cs=>
 tk GA cs λf13 cs=>
 tk (WA .int) cs λf14 cs=>
 tk HH cs λf15 cs=>
 tk GA cs λf16 cs=>
 tk (WA .byte) cs λf17 cs=>
 tk GA cs λf18 cs=>
 tk GA cs λf19 cs=>
 tk (WA .Cand) cs λf20 cs=>
 tk GA cs λf21 cs=>
 tk GA cs λf22 cs=>
 tk HH cs λf23 cs=>
 WB cs (⟨f0,f1,f2,⟨f3,f4,⟨f5,f6,f7,⟨f8,f9⟩⟩,⟨f10,f11,f12,⟨f13,f14⟩⟩,f15,f16,f17⟩,⟨⟨f18,f19⟩,f20⟩,f21,f22,f23⟩:Ah)
def zdf(cs:List V):Option Ao:=
 tk GA cs λf0 cs=>
 tk (WA .Sess) cs λf1 cs=>
 WB cs (⟨f0,f1⟩:Ao)
def zb0(cs:List V):Option Al:=
 tk GA cs λf0 cs=>
 tk GA cs λf1 cs=>
 tk GA cs λf2 cs=>
 tk GA cs λf3 cs=>
 WB cs (⟨⟨f0,f1⟩,f2,f3⟩:Al)
def zbW(cs:List V):Option Ac:=
 tk (WA .bs) cs λf0 cs=>
 tk (WA .byte) cs λf1 cs=>
 tk (WA .byte) cs λf2 cs=>
 tk GA cs λf3 cs=>
 tk GA cs λf4 cs=>
 tk (WA .Sess) cs λf5 cs=>
 tk (WA .Credit) cs λf6 cs=>
 WB cs (⟨f0,⟨f1⟩,⟨f2,f3⟩,⟨f4,f5⟩,f6⟩:Ac)
def zcq(cs:List V):Option Aa:=
 tk GA cs λf0 cs=>
 tk GA cs λf1 cs=>
 tk (WA .byte) cs λf2 cs=>
 tk (WA .byte) cs λf3 cs=>
 tk GA cs λf4 cs=>
 tk (WA .byte) cs λf5 cs=>
 tk (WA .byte) cs λf6 cs=>
 tk GA cs λf7 cs=>
 tk GA cs λf8 cs=>
 tk (WA .byte) cs λf9 cs=>
 tk (WA .byte) cs λf10 cs=>
 WB cs (⟨f0,f1,f2,f3,f4,f5,f6,f7,f8,f9,f10⟩:Aa)
def zct(cs:List V):Option Av:=
 tk HH cs λf0 cs=>
 tk GA cs λf1 cs=>
 tk GA cs λf2 cs=>
 tk GA cs λf3 cs=>
 WB cs (⟨f0,f1,f2,f3⟩:Av)
def zbV(cs:List V):Option Ad:=
 tk GA cs λf0 cs=>
 tk (WA .byte) cs λf1 cs=>
 tk GA cs λf2 cs=>
 tk GA cs λf3 cs=>
 tk GA cs λf4 cs=>
 tk (WA .byte) cs λf5 cs=>
 tk GA cs λf6 cs=>
 tk GA cs λf7 cs=>
 tk (WA .byte) cs λf8 cs=>
 tk (WA .byte) cs λf9 cs=>
 tk GA cs λf10 cs=>
 tk (WA .byte) cs λf11 cs=>
 tk (WA .byte) cs λf12 cs=>
 tk GA cs λf13 cs=>
 tk GA cs λf14 cs=>
 tk (WA .byte) cs λf15 cs=>
 tk (WA .byte) cs λf16 cs=>
 tk GA cs λf17 cs=>
 tk (WA .byte) cs λf18 cs=>
 tk GA cs λf19 cs=>
 tk (WA .byte) cs λf20 cs=>
 tk GA cs λf21 cs=>
 tk GA cs λf22 cs=>
 tk (WA .int) cs λf23 cs=>
 tk GA cs λf24 cs=>
 tk (WA .byte) cs λf25 cs=>
 tk GA cs λf26 cs=>
 tk GA cs λf27 cs=>
 tk (WA .int) cs λf28 cs=>
 tk HH cs λf29 cs=>
 tk GA cs λf30 cs=>
 tk (WA .byte) cs λf31 cs=>
 tk HH cs λf32 cs=>
 tk GA cs λf33 cs=>
 tk GA cs λf34 cs=>
 tk GA cs λf35 cs=>
 tk HH cs λf36 cs=>
 tk GA cs λf37 cs=>
 tk GA cs λf38 cs=>
 tk GA cs λf39 cs=>
 tk GA cs λf40 cs=>
 WB cs (⟨f0,f1,⟨f2,f3⟩,f4,f5,⟨f6,f7,f8,f9,f10,f11,f12,f13,f14,f15,f16⟩,⟨f17,f18,⟨f19,f20,f21,⟨f22,f23⟩⟩,⟨f24,f25,f26,⟨f27,f28⟩⟩,f29,f30,f31⟩,⟨f32,f33,f34,f35⟩,⟨f36,f37,f38,f39⟩,f40⟩:Ad)
def zcZ(cs:List V):Option Am:=
 tk GA cs λf0 cs=>
 tk GA cs λf1 cs=>
 tk GA cs λf2 cs=>
 tk GA cs λf3 cs=>
 tk (WA .byte) cs λf4 cs=>
 WB cs (⟨⟨f0,f1⟩,⟨f2,f3⟩,f4⟩:Am)
def zcI(cs:List V):Option Ae:=
 tk GA cs λf0 cs=>
 tk GA cs λf1 cs=>
 tk GA cs λf2 cs=>
 tk (WA .byte) cs λf3 cs=>
 tk (WA .byte) cs λf4 cs=>
 tk GA cs λf5 cs=>
 tk GA cs λf6 cs=>
 tk (WA .byte) cs λf7 cs=>
 tk (WA .byte) cs λf8 cs=>
 tk GA cs λf9 cs=>
 tk GA cs λf10 cs=>
 tk GA cs λf11 cs=>
 WB cs (⟨f0,f1,f2,f3,f4,f5,f6,f7,f8,⟨f9,f10⟩,f11⟩:Ae)
def zcg(cs:List V):Option Ab:=
 tk GA cs λf0 cs=>
 tk (WA .Client) cs λf1 cs=>
 tk (WA .bs) cs λf2 cs=>
 tk (WA .byte) cs λf3 cs=>
 tk (WA .byte) cs λf4 cs=>
 tk GA cs λf5 cs=>
 tk GA cs λf6 cs=>
 tk (WA .Sess) cs λf7 cs=>
 tk (WA .Credit) cs λf8 cs=>
 tk (WA .byte) cs λf9 cs=>
 tk GA cs λf10 cs=>
 tk (WA .Wire) cs λf11 cs=>
 tk (WA .bs) cs λf12 cs=>
 tk (WA .Note) cs λf13 cs=>
 WB cs (⟨f0,f1,⟨f2,⟨f3⟩,⟨f4,f5⟩,⟨f6,f7⟩,f8⟩,⟨f9,f10⟩,f11,f12,f13⟩:Ab)
def zdn(cs:List V):Option Af:=
 tk (WA .byte) cs λf0 cs=>
 tk GA cs λf1 cs=>
 tk GA cs λf2 cs=>
 WB cs (⟨f0,f1,f2⟩:Af)
def zdh(cs:List V):Option Au:=
 tk GA cs λf0 cs=>
 tk GA cs λf1 cs=>
 tk GA cs λf2 cs=>
 tk GA cs λf3 cs=>
 tk (WA .byte) cs λf4 cs=>
 tk (WA .byte) cs λf5 cs=>
 tk GA cs λf6 cs=>
 tk (WA .byte) cs λf7 cs=>
 tk (WA .byte) cs λf8 cs=>
 tk GA cs λf9 cs=>
 tk GA cs λf10 cs=>
 tk (WA .byte) cs λf11 cs=>
 tk (WA .byte) cs λf12 cs=>
 WB cs (⟨⟨f0,f1⟩,⟨f2,f3,f4,f5,f6,f7,f8,f9,f10,f11,f12⟩⟩:Au)
def zcQ(cs:List V):Option Jw:=
 tk GA cs λf0 cs=>
 tk HO cs λf1 cs=>
 WB cs (⟨f0,f1⟩:Jw)
def zc6(cs:List V):Option Be:=
 tk (WA .int) cs λf0 cs=>
 tk (WA .byte) cs λf1 cs=>
 tk GA cs λf2 cs=>
 WB cs (⟨f0,f1,f2⟩:Be)
def fF:(t:TN)→List V→Option (El t)
 | .byte,cs=>tk US cs λb cs=>WB cs b
 | .int,cs=>tk GA cs λn cs=>WB cs n
 | .bool,cs=>tk HH cs λb cs=>WB cs b
 | .str,cs=>tk HO cs λs cs=>WB cs s
 | .bs,cs=>tk (WA .byte) cs λl cs=>WB cs l
 | .Addr,cs=>zcS cs
 | .Op,cs=>zdw cs
 | .Event,cs=>zcA cs
 | .Jar,cs=>zdl cs
 | .Dice,cs=>zcX cs
 | .Win,cs=>zda cs
 | .Ep,cs=>zdu cs
 | .Chan,cs=>zc2 cs
 | .Cand,cs=>zcM cs
 | .Paths,cs=>zcd cs
 | .Sess,cs=>zc4 cs
 | .Tab,cs=>zdf cs
 | .Credit,cs=>zb0 cs
 | .Server,cs=>zbW cs
 | .Frame,cs=>zcq cs
 | .Timer,cs=>zct cs
 | .Client,cs=>zbV cs
 | .Wire,cs=>zcZ cs
 | .Note,cs=>zcI cs
 | .World,cs=>zcg cs
 | .Cur,cs=>zdn cs
 | .Out,cs=>zdh cs
 | .Form,cs=>zcQ cs
 | .Hash,cs=>zc6 cs
inductive IH:V→V→Prop where
 | refl (c:V):IH c c
 | byte (n:Int):IH (.int .u8 n) (.int .u8 ((UInt8.ofNat n.toNat).toNat:Int))
 | nil (t:TN):IH .nil (.sl t [])
inductive SB:List V→List V→Prop where
 | nil:SB [] []
 | cons {c d:V} {cs ds:List V}:IH c d→SB cs ds→SB (c :: cs) (d :: ds)
def IA{c:V}{n:Int}(h:GA c=some n):IH c (.int .i64 n):=by
 cases c<;>simp[GA]at h
 rename_i k m;cases k<;>simp at h;subst h;exact .refl _
def ztu{c:V}{b:UInt8}(h:US c=some b):IH c (.int .u8 (b.toNat:Int)):=by
 cases c<;>simp[US]at h
 rename_i k m;cases k<;>simp at h;subst h;exact .byte _
def uM{c:V}{b:Bool}(h:HH c=some b):IH c (.bool b):=by
 cases c<;>simp[HH]at h;subst h;exact .refl _
def zkR{c:V}{b:List UInt8}(h:HO c=some b):IH c (.str b):=by
 cases c<;>simp[HO]at h;subst h;exact .refl _
def ZA{t:TN}{c:V}{l:List (El t)}(h:WA t c=some l):IH c (.sl t l):=by
 cases c<;>simp[WA]at h
 ·subst h;exact .nil t
 ·obtain⟨rfl,h⟩:=h;simp[TN.cast]at h;subst h;exact .refl _
def vA{α β:Type}{p:V→Option α}{cs:List V}{k:α→List V→Option β}{r:β}(h:tk p cs k=some r):
  ∃c cs' a,cs=c :: cs'∧p c=some a∧k a cs'=some r:=by
 cases cs with
 | nil=>simp[tk]at h
 | cons c cs=>simp only[tk,Option.bind_eq_some_iff]at h;obtain⟨a,h1,h2⟩:=h;exact⟨c,cs,a,rfl,h1,h2⟩
def DD{β:Type}{cs:List V}{r s:β}(h:WB cs r=some s):cs=[]∧r=s:=by
 cases cs<;>simp[WB]at h;exact⟨rfl,h⟩
def zrj{cs:List V}{a:Ai}(h:zcS cs=some a):SB cs (zcF a):=by
 unfold zcS at h;obtain⟨c0,cs,f0,rfl,h0,h⟩:=vA h;obtain⟨c1,cs,f1,rfl,h1,h⟩:=vA h;obtain⟨rfl,rfl⟩:=DD h;exact .cons (IA h0) (.cons (IA h1) (.nil))
def zsv{cs:List V}{a:Bc}(h:zdw cs=some a):SB cs (zgk a):=by
 unfold zdw at h;obtain⟨c0,cs,f0,rfl,h0,h⟩:=vA h;obtain⟨c1,cs,f1,rfl,h1,h⟩:=vA h;obtain⟨c2,cs,f2,rfl,h2,h⟩:=vA h;obtain⟨c3,cs,f3,rfl,h3,h⟩:=vA h;obtain⟨rfl,rfl⟩:=DD h;exact .cons (IA h0) (.cons (IA h1) (.cons (IA h2) (.cons (ZA h3) (.nil))))
def zqN{cs:List V}{a:Aq}(h:zcA cs=some a):SB cs (zft a):=by
 unfold zcA at h;obtain⟨c0,cs,f0,rfl,h0,h⟩:=vA h;obtain⟨c1,cs,f1,rfl,h1,h⟩:=vA h;obtain⟨c2,cs,f2,rfl,h2,h⟩:=vA h;obtain⟨c3,cs,f3,rfl,h3,h⟩:=vA h;obtain⟨c4,cs,f4,rfl,h4,h⟩:=vA h;obtain⟨c5,cs,f5,rfl,h5,h⟩:=vA h;obtain⟨rfl,rfl⟩:=DD h;exact .cons (IA h0) (.cons (IA h1) (.cons (IA h2) (.cons (IA h3) (.cons (ZA h4) (.cons (ZA h5) (.nil))))))
def zrV{cs:List V}{a:Ba}(h:zdl cs=some a):SB cs (zgb a):=by
 unfold zdl at h;obtain⟨c0,cs,f0,rfl,h0,h⟩:=vA h;obtain⟨rfl,rfl⟩:=DD h;exact .cons (ZA h0) (.nil)
def zru{cs:List V}{a:Ax}(h:zcX cs=some a):SB cs (zfZ a):=by
 unfold zcX at h;obtain⟨c0,cs,f0,rfl,h0,h⟩:=vA h;obtain⟨c1,cs,f1,rfl,h1,h⟩:=vA h;obtain⟨rfl,rfl⟩:=DD h;exact .cons (ZA h0) (.cons (IA h1) (.nil))
def zrK{cs:List V}{a:Ap}(h:zda cs=some a):SB cs (zf8 a):=by
 unfold zda at h;obtain⟨c0,cs,f0,rfl,h0,h⟩:=vA h;obtain⟨c1,cs,f1,rfl,h1,h⟩:=vA h;obtain⟨rfl,rfl⟩:=DD h;exact .cons (IA h0) (.cons (ZA h1) (.nil))
def zsK{cs:List V}{a:Aw}(h:zdu cs=some a):SB cs (zgj a):=by
 unfold zdu at h;obtain⟨c0,cs,f0,rfl,h0,h⟩:=vA h;obtain⟨c1,cs,f1,rfl,h1,h⟩:=vA h;obtain⟨c2,cs,f2,rfl,h2,h⟩:=vA h;obtain⟨c3,cs,f3,rfl,h3,h⟩:=vA h;obtain⟨c4,cs,f4,rfl,h4,h⟩:=vA h;obtain⟨rfl,rfl⟩:=DD h;exact .cons (IA h0) (.cons (ZA h1) (.cons (IA h2) (.cons (IA h3) (.cons (ZA h4) (.nil)))))
def zrl{cs:List V}{a:Ak}(h:zc2 cs=some a):SB cs (zfK a):=by
 unfold zc2 at h;obtain⟨c0,cs,f0,rfl,h0,h⟩:=vA h;obtain⟨c1,cs,f1,rfl,h1,h⟩:=vA h;obtain⟨c2,cs,f2,rfl,h2,h⟩:=vA h;obtain⟨c3,cs,f3,rfl,h3,h⟩:=vA h;obtain⟨c4,cs,f4,rfl,h4,h⟩:=vA h;obtain⟨c5,cs,f5,rfl,h5,h⟩:=vA h;obtain⟨c6,cs,f6,rfl,h6,h⟩:=vA h;obtain⟨c7,cs,f7,rfl,h7,h⟩:=vA h;obtain⟨c8,cs,f8,rfl,h8,h⟩:=vA h;obtain⟨c9,cs,f9,rfl,h9,h⟩:=vA h;obtain⟨c10,cs,f10,rfl,xW,h⟩:=vA h;obtain⟨c11,cs,f11,rfl,HW,h⟩:=vA h;obtain⟨c12,cs,f12,rfl,aX,h⟩:=vA h;obtain⟨dT,cs,f13,rfl,wX,h⟩:=vA h;obtain⟨c14,cs,f14,rfl,wY,h⟩:=vA h;obtain⟨rfl,rfl⟩:=DD h;exact .cons (IA h0) (.cons (ZA h1) (.cons (IA h2) (.cons (ZA h3) (.cons (IA h4) (.cons (IA h5) (.cons (ZA h6) (.cons (IA h7) (.cons (ZA h8) (.cons (IA h9) (.cons (IA xW) (.cons (ZA HW) (.cons (uM aX) (.cons (IA wX) (.cons (ZA wY) (.nil)))))))))))))))
def zq3{cs:List V}{a:Az}(h:zcM cs=some a):SB cs (zfI a):=by
 unfold zcM at h;obtain⟨c0,cs,f0,rfl,h0,h⟩:=vA h;obtain⟨c1,cs,f1,rfl,h1,h⟩:=vA h;obtain⟨c2,cs,f2,rfl,h2,h⟩:=vA h;obtain⟨c3,cs,f3,rfl,h3,h⟩:=vA h;obtain⟨rfl,rfl⟩:=DD h;exact .cons (IA h0) (.cons (IA h1) (.cons (ZA h2) (.cons (IA h3) (.nil))))
def zqw{cs:List V}{a:Aj}(h:zcd cs=some a):SB cs (zfl a):=by
 unfold zcd at h;obtain⟨c0,cs,f0,rfl,h0,h⟩:=vA h;obtain⟨c1,cs,f1,rfl,h1,h⟩:=vA h;obtain⟨c2,cs,f2,rfl,h2,h⟩:=vA h;obtain⟨rfl,rfl⟩:=DD h;exact .cons (IA h0) (.cons (IA h1) (.cons (ZA h2) (.nil)))
def zq2{cs:List V}{a:Ah}(h:zc4 cs=some a):SB cs (zfM a):=by
 unfold zc4 at h;obtain⟨c0,cs,f0,rfl,h0,h⟩:=vA h;obtain⟨c1,cs,f1,rfl,h1,h⟩:=vA h;obtain⟨c2,cs,f2,rfl,h2,h⟩:=vA h;obtain⟨c3,cs,f3,rfl,h3,h⟩:=vA h;obtain⟨c4,cs,f4,rfl,h4,h⟩:=vA h;obtain⟨c5,cs,f5,rfl,h5,h⟩:=vA h;obtain⟨c6,cs,f6,rfl,h6,h⟩:=vA h;obtain⟨c7,cs,f7,rfl,h7,h⟩:=vA h;obtain⟨c8,cs,f8,rfl,h8,h⟩:=vA h;obtain⟨c9,cs,f9,rfl,h9,h⟩:=vA h;obtain⟨c10,cs,f10,rfl,xW,h⟩:=vA h;obtain⟨c11,cs,f11,rfl,HW,h⟩:=vA h;obtain⟨c12,cs,f12,rfl,aX,h⟩:=vA h;obtain⟨dT,cs,f13,rfl,wX,h⟩:=vA h;obtain⟨c14,cs,f14,rfl,wY,h⟩:=vA h;obtain⟨c15,cs,f15,rfl,xY,h⟩:=vA h;obtain⟨FO,cs,f16,rfl,UY,h⟩:=vA h;obtain⟨rJ,cs,f17,rfl,jZ,h⟩:=vA h;obtain⟨c18,cs,f18,rfl,M1,h⟩:=vA h;obtain⟨c19,cs,f19,rfl,PZ,h⟩:=vA h;obtain⟨c20,cs,f20,rfl,QZ,h⟩:=vA h;obtain⟨c21,cs,f21,rfl,N1,h⟩:=vA h;obtain⟨c22,cs,f22,rfl,O1,h⟩:=vA h;obtain⟨c23,cs,f23,rfl,XZ,h⟩:=vA h;obtain⟨rfl,rfl⟩:=DD h;exact .cons (IA h0) (.cons (ZA h1) (.cons (ZA h2) (.cons (IA h3) (.cons (ZA h4) (.cons (IA h5) (.cons (ZA h6) (.cons (IA h7) (.cons (IA h8) (.cons (ZA h9) (.cons (IA xW) (.cons (ZA HW) (.cons (IA aX) (.cons (IA wX) (.cons (ZA wY) (.cons (uM xY) (.cons (IA UY) (.cons (ZA jZ) (.cons (IA M1) (.cons (IA PZ) (.cons (ZA QZ) (.cons (IA N1) (.cons (IA O1) (.cons (uM XZ) (.nil))))))))))))))))))))))))
def zr7{cs:List V}{a:Ao}(h:zdf cs=some a):SB cs (zga a):=by
 unfold zdf at h;obtain⟨c0,cs,f0,rfl,h0,h⟩:=vA h;obtain⟨c1,cs,f1,rfl,h1,h⟩:=vA h;obtain⟨rfl,rfl⟩:=DD h;exact .cons (IA h0) (.cons (ZA h1) (.nil))
def zqe{cs:List V}{a:Al}(h:zb0 cs=some a):SB cs (zb5 a):=by
 unfold zb0 at h;obtain⟨c0,cs,f0,rfl,h0,h⟩:=vA h;obtain⟨c1,cs,f1,rfl,h1,h⟩:=vA h;obtain⟨c2,cs,f2,rfl,h2,h⟩:=vA h;obtain⟨c3,cs,f3,rfl,h3,h⟩:=vA h;obtain⟨rfl,rfl⟩:=DD h;exact .cons (IA h0) (.cons (IA h1) (.cons (IA h2) (.cons (IA h3) (.nil))))
def zpL{cs:List V}{a:Ac}(h:zbW cs=some a):SB cs (zfc a):=by
 unfold zbW at h;obtain⟨c0,cs,f0,rfl,h0,h⟩:=vA h;obtain⟨c1,cs,f1,rfl,h1,h⟩:=vA h;obtain⟨c2,cs,f2,rfl,h2,h⟩:=vA h;obtain⟨c3,cs,f3,rfl,h3,h⟩:=vA h;obtain⟨c4,cs,f4,rfl,h4,h⟩:=vA h;obtain⟨c5,cs,f5,rfl,h5,h⟩:=vA h;obtain⟨c6,cs,f6,rfl,h6,h⟩:=vA h;obtain⟨rfl,rfl⟩:=DD h;exact .cons (ZA h0) (.cons (ZA h1) (.cons (ZA h2) (.cons (IA h3) (.cons (IA h4) (.cons (ZA h5) (.cons (ZA h6) (.nil)))))))
def zqS{cs:List V}{a:Aa}(h:zcq cs=some a):SB cs (zfm a):=by
 unfold zcq at h;obtain⟨c0,cs,f0,rfl,h0,h⟩:=vA h;obtain⟨c1,cs,f1,rfl,h1,h⟩:=vA h;obtain⟨c2,cs,f2,rfl,h2,h⟩:=vA h;obtain⟨c3,cs,f3,rfl,h3,h⟩:=vA h;obtain⟨c4,cs,f4,rfl,h4,h⟩:=vA h;obtain⟨c5,cs,f5,rfl,h5,h⟩:=vA h;obtain⟨c6,cs,f6,rfl,h6,h⟩:=vA h;obtain⟨c7,cs,f7,rfl,h7,h⟩:=vA h;obtain⟨c8,cs,f8,rfl,h8,h⟩:=vA h;obtain⟨c9,cs,f9,rfl,h9,h⟩:=vA h;obtain⟨c10,cs,f10,rfl,xW,h⟩:=vA h;obtain⟨rfl,rfl⟩:=DD h;exact .cons (IA h0) (.cons (IA h1) (.cons (ZA h2) (.cons (ZA h3) (.cons (IA h4) (.cons (ZA h5) (.cons (ZA h6) (.cons (IA h7) (.cons (IA h8) (.cons (ZA h9) (.cons (ZA xW) (.nil)))))))))))
def zqK{cs:List V}{a:Av}(h:zct cs=some a):SB cs (zcu a):=by
 unfold zct at h;obtain⟨c0,cs,f0,rfl,h0,h⟩:=vA h;obtain⟨c1,cs,f1,rfl,h1,h⟩:=vA h;obtain⟨c2,cs,f2,rfl,h2,h⟩:=vA h;obtain⟨c3,cs,f3,rfl,h3,h⟩:=vA h;obtain⟨rfl,rfl⟩:=DD h;exact .cons (uM h0) (.cons (IA h1) (.cons (IA h2) (.cons (IA h3) (.nil))))
def zpC{cs:List V}{a:Ad}(h:zbV cs=some a):SB cs (zfb a):=by
 unfold zbV at h;obtain⟨c0,cs,f0,rfl,h0,h⟩:=vA h;obtain⟨c1,cs,f1,rfl,h1,h⟩:=vA h;obtain⟨c2,cs,f2,rfl,h2,h⟩:=vA h;obtain⟨c3,cs,f3,rfl,h3,h⟩:=vA h;obtain⟨c4,cs,f4,rfl,h4,h⟩:=vA h;obtain⟨c5,cs,f5,rfl,h5,h⟩:=vA h;obtain⟨c6,cs,f6,rfl,h6,h⟩:=vA h;obtain⟨c7,cs,f7,rfl,h7,h⟩:=vA h;obtain⟨c8,cs,f8,rfl,h8,h⟩:=vA h;obtain⟨c9,cs,f9,rfl,h9,h⟩:=vA h;obtain⟨c10,cs,f10,rfl,xW,h⟩:=vA h;obtain⟨c11,cs,f11,rfl,HW,h⟩:=vA h;obtain⟨c12,cs,f12,rfl,aX,h⟩:=vA h;obtain⟨dT,cs,f13,rfl,wX,h⟩:=vA h;obtain⟨c14,cs,f14,rfl,wY,h⟩:=vA h;obtain⟨c15,cs,f15,rfl,xY,h⟩:=vA h;obtain⟨FO,cs,f16,rfl,UY,h⟩:=vA h;obtain⟨rJ,cs,f17,rfl,jZ,h⟩:=vA h;obtain⟨c18,cs,f18,rfl,M1,h⟩:=vA h;obtain⟨c19,cs,f19,rfl,PZ,h⟩:=vA h;obtain⟨c20,cs,f20,rfl,QZ,h⟩:=vA h;obtain⟨c21,cs,f21,rfl,N1,h⟩:=vA h;obtain⟨c22,cs,f22,rfl,O1,h⟩:=vA h;obtain⟨c23,cs,f23,rfl,XZ,h⟩:=vA h;obtain⟨c24,cs,f24,rfl,P1,h⟩:=vA h;obtain⟨c25,cs,f25,rfl,s5,h⟩:=vA h;obtain⟨c26,cs,f26,rfl,Y8,h⟩:=vA h;obtain⟨c27,cs,f27,rfl,L5,h⟩:=vA h;obtain⟨c28,cs,f28,rfl,s8,h⟩:=vA h;obtain⟨c29,cs,f29,rfl,t8,h⟩:=vA h;obtain⟨vC,cs,f30,rfl,M5,h⟩:=vA h;obtain⟨VB,cs,f31,rfl,N5,h⟩:=vA h;obtain⟨c32,cs,f32,rfl,Z8,h⟩:=vA h;obtain⟨LG,cs,f33,rfl,b9,h⟩:=vA h;obtain⟨c34,cs,f34,rfl,d9,h⟩:=vA h;obtain⟨c35,cs,f35,rfl,g9,h⟩:=vA h;obtain⟨c36,cs,f36,rfl,i9,h⟩:=vA h;obtain⟨c37,cs,f37,rfl,j9,h⟩:=vA h;obtain⟨c38,cs,f38,rfl,h38,h⟩:=vA h;obtain⟨c39,cs,f39,rfl,h39,h⟩:=vA h;obtain⟨c40,cs,f40,rfl,h40,h⟩:=vA h;obtain⟨rfl,rfl⟩:=DD h;exact .cons (IA h0) (.cons (ZA h1) (.cons (IA h2) (.cons (IA h3) (.cons (IA h4) (.cons (ZA h5) (.cons (IA h6) (.cons (IA h7) (.cons (ZA h8) (.cons (ZA h9) (.cons (IA xW) (.cons (ZA HW) (.cons (ZA aX) (.cons (IA wX) (.cons (IA wY) (.cons (ZA xY) (.cons (ZA UY) (.cons (IA jZ) (.cons (ZA M1) (.cons (IA PZ) (.cons (ZA QZ) (.cons (IA N1) (.cons (IA O1) (.cons (ZA XZ) (.cons (IA P1) (.cons (ZA s5) (.cons (IA Y8) (.cons (IA L5) (.cons (ZA s8) (.cons (uM t8) (.cons (IA M5) (.cons (ZA N5) (.cons (uM Z8) (.cons (IA b9) (.cons (IA d9) (.cons (IA g9) (.cons (uM i9) (.cons (IA j9) (.cons (IA h38) (.cons (IA h39) (.cons (IA h40) (.nil)))))))))))))))))))))))))))))))))))))))))
def zry{cs:List V}{a:Am}(h:zcZ cs=some a):SB cs (zfE a):=by
 unfold zcZ at h;obtain⟨c0,cs,f0,rfl,h0,h⟩:=vA h;obtain⟨c1,cs,f1,rfl,h1,h⟩:=vA h;obtain⟨c2,cs,f2,rfl,h2,h⟩:=vA h;obtain⟨c3,cs,f3,rfl,h3,h⟩:=vA h;obtain⟨c4,cs,f4,rfl,h4,h⟩:=vA h;obtain⟨rfl,rfl⟩:=DD h;exact .cons (IA h0) (.cons (IA h1) (.cons (IA h2) (.cons (IA h3) (.cons (ZA h4) (.nil)))))
def zrt{cs:List V}{a:Ae}(h:zcI cs=some a):SB cs (zfS a):=by
 unfold zcI at h;obtain⟨c0,cs,f0,rfl,h0,h⟩:=vA h;obtain⟨c1,cs,f1,rfl,h1,h⟩:=vA h;obtain⟨c2,cs,f2,rfl,h2,h⟩:=vA h;obtain⟨c3,cs,f3,rfl,h3,h⟩:=vA h;obtain⟨c4,cs,f4,rfl,h4,h⟩:=vA h;obtain⟨c5,cs,f5,rfl,h5,h⟩:=vA h;obtain⟨c6,cs,f6,rfl,h6,h⟩:=vA h;obtain⟨c7,cs,f7,rfl,h7,h⟩:=vA h;obtain⟨c8,cs,f8,rfl,h8,h⟩:=vA h;obtain⟨c9,cs,f9,rfl,h9,h⟩:=vA h;obtain⟨c10,cs,f10,rfl,xW,h⟩:=vA h;obtain⟨c11,cs,f11,rfl,HW,h⟩:=vA h;obtain⟨rfl,rfl⟩:=DD h;exact .cons (IA h0) (.cons (IA h1) (.cons (IA h2) (.cons (ZA h3) (.cons (ZA h4) (.cons (IA h5) (.cons (IA h6) (.cons (ZA h7) (.cons (ZA h8) (.cons (IA h9) (.cons (IA xW) (.cons (IA HW) (.nil))))))))))))
def zqD{cs:List V}{a:Ab}(h:zcg cs=some a):SB cs (zfh a):=by
 unfold zcg at h;obtain⟨c0,cs,f0,rfl,h0,h⟩:=vA h;obtain⟨c1,cs,f1,rfl,h1,h⟩:=vA h;obtain⟨c2,cs,f2,rfl,h2,h⟩:=vA h;obtain⟨c3,cs,f3,rfl,h3,h⟩:=vA h;obtain⟨c4,cs,f4,rfl,h4,h⟩:=vA h;obtain⟨c5,cs,f5,rfl,h5,h⟩:=vA h;obtain⟨c6,cs,f6,rfl,h6,h⟩:=vA h;obtain⟨c7,cs,f7,rfl,h7,h⟩:=vA h;obtain⟨c8,cs,f8,rfl,h8,h⟩:=vA h;obtain⟨c9,cs,f9,rfl,h9,h⟩:=vA h;obtain⟨c10,cs,f10,rfl,xW,h⟩:=vA h;obtain⟨c11,cs,f11,rfl,HW,h⟩:=vA h;obtain⟨c12,cs,f12,rfl,aX,h⟩:=vA h;obtain⟨dT,cs,f13,rfl,wX,h⟩:=vA h;obtain⟨rfl,rfl⟩:=DD h;exact .cons (IA h0) (.cons (ZA h1) (.cons (ZA h2) (.cons (ZA h3) (.cons (ZA h4) (.cons (IA h5) (.cons (IA h6) (.cons (ZA h7) (.cons (ZA h8) (.cons (ZA h9) (.cons (IA xW) (.cons (ZA HW) (.cons (ZA aX) (.cons (ZA wX) (.nil))))))))))))))
def zrS{cs:List V}{a:Af}(h:zdn cs=some a):SB cs (zf7 a):=by
 unfold zdn at h;obtain⟨c0,cs,f0,rfl,h0,h⟩:=vA h;obtain⟨c1,cs,f1,rfl,h1,h⟩:=vA h;obtain⟨c2,cs,f2,rfl,h2,h⟩:=vA h;obtain⟨rfl,rfl⟩:=DD h;exact .cons (ZA h0) (.cons (IA h1) (.cons (IA h2) (.nil)))
def zrD{cs:List V}{a:Au}(h:zdh cs=some a):SB cs (zgg a):=by
 unfold zdh at h;obtain⟨c0,cs,f0,rfl,h0,h⟩:=vA h;obtain⟨c1,cs,f1,rfl,h1,h⟩:=vA h;obtain⟨c2,cs,f2,rfl,h2,h⟩:=vA h;obtain⟨c3,cs,f3,rfl,h3,h⟩:=vA h;obtain⟨c4,cs,f4,rfl,h4,h⟩:=vA h;obtain⟨c5,cs,f5,rfl,h5,h⟩:=vA h;obtain⟨c6,cs,f6,rfl,h6,h⟩:=vA h;obtain⟨c7,cs,f7,rfl,h7,h⟩:=vA h;obtain⟨c8,cs,f8,rfl,h8,h⟩:=vA h;obtain⟨c9,cs,f9,rfl,h9,h⟩:=vA h;obtain⟨c10,cs,f10,rfl,xW,h⟩:=vA h;obtain⟨c11,cs,f11,rfl,HW,h⟩:=vA h;obtain⟨c12,cs,f12,rfl,aX,h⟩:=vA h;obtain⟨rfl,rfl⟩:=DD h;exact .cons (IA h0) (.cons (IA h1) (.cons (IA h2) (.cons (IA h3) (.cons (ZA h4) (.cons (ZA h5) (.cons (IA h6) (.cons (ZA h7) (.cons (ZA h8) (.cons (IA h9) (.cons (IA xW) (.cons (ZA HW) (.cons (ZA aX) (.nil)))))))))))))
def zrq{cs:List V}{a:Jw}(h:zcQ cs=some a):SB cs (zcC a):=by
 unfold zcQ at h;obtain⟨c0,cs,f0,rfl,h0,h⟩:=vA h;obtain⟨c1,cs,f1,rfl,h1,h⟩:=vA h;obtain⟨rfl,rfl⟩:=DD h;exact .cons (IA h0) (.cons (zkR h1) (.nil))
def zq5{cs:List V}{a:Be}(h:zc6 cs=some a):SB cs (zfG a):=by
 unfold zc6 at h;obtain⟨c0,cs,f0,rfl,h0,h⟩:=vA h;obtain⟨c1,cs,f1,rfl,h1,h⟩:=vA h;obtain⟨c2,cs,f2,rfl,h2,h⟩:=vA h;obtain⟨rfl,rfl⟩:=DD h;exact .cons (ZA h0) (.cons (ZA h1) (.cons (IA h2) (.nil)))
def AF:(t:TN)→{cs:List V}→{a:El t}→fF t cs=some a→SB cs (enc t a)
 | .byte,cs,a,h=>by
  obtain⟨c0,cs,f0,rfl,h0,h⟩:=vA (show tk US cs (λb cs=>WB cs b)=some a from h);obtain⟨rfl,rfl⟩:=DD h;exact .cons (ztu h0) .nil
 | .int,cs,a,h=>by
  obtain⟨c0,cs,f0,rfl,h0,h⟩:=vA (show tk GA cs (λb cs=>WB cs b)=some a from h);obtain⟨rfl,rfl⟩:=DD h;exact .cons (IA h0) .nil
 | .bool,cs,a,h=>by
  obtain⟨c0,cs,f0,rfl,h0,h⟩:=vA (show tk HH cs (λb cs=>WB cs b)=some a from h);obtain⟨rfl,rfl⟩:=DD h;exact .cons (uM h0) .nil
 | .str,cs,a,h=>by
  obtain⟨c0,cs,f0,rfl,h0,h⟩:=vA (show tk HO cs (λb cs=>WB cs b)=some a from h);obtain⟨rfl,rfl⟩:=DD h;exact .cons (zkR h0) .nil
 | .bs,cs,a,h=>by
  obtain⟨c0,cs,f0,rfl,h0,h⟩:=vA (show tk (WA .byte) cs (λb cs=>WB cs b)=some a from h);obtain⟨rfl,rfl⟩:=DD h;exact .cons (ZA h0) .nil
 | .Addr,_,_,h=>zrj h
 | .Op,_,_,h=>zsv h
 | .Event,_,_,h=>zqN h
 | .Jar,_,_,h=>zrV h
 | .Dice,_,_,h=>zru h
 | .Win,_,_,h=>zrK h
 | .Ep,_,_,h=>zsK h
 | .Chan,_,_,h=>zrl h
 | .Cand,_,_,h=>zq3 h
 | .Paths,_,_,h=>zqw h
 | .Sess,_,_,h=>zq2 h
 | .Tab,_,_,h=>zr7 h
 | .Credit,_,_,h=>zqe h
 | .Server,_,_,h=>zpL h
 | .Frame,_,_,h=>zqS h
 | .Timer,_,_,h=>zqK h
 | .Client,_,_,h=>zpC h
 | .Wire,_,_,h=>zry h
 | .Note,_,_,h=>zrt h
 | .World,_,_,h=>zqD h
 | .Cur,_,_,h=>zrS h
 | .Out,_,_,h=>zrD h
 | .Form,_,_,h=>zrq h
 | .Hash,_,_,h=>zq5 h
def mD(t:TN)(a:El t):(enc t a).length=sz t:=by cases t<;>rfl
def mO(t:TN):0<sz t:=by cases t<;>simp[sz]
def V.leaf:V→Bool
 | .undef | .agg _ | .tup _=>false
 | _=>true
def zj5(t:TN)(a:El t):(enc t a).all V.leaf=true:=by cases t<;>rfl
def TN.isAgg:TN→Bool
 | .byte | .int | .bool | .str | .bs=>false
 | _=>true
end Go.D
namespace Go.D
class jA where
 tn:TypeId→Option TN
 base:Nat
end Go.D
namespace Go.D
structure RI where
 b:Nat
 n:Nat
 cap:Nat
 nl:Bool
def DF[jA](w:World)(b:Nat)(t:TN):Prop:=∃c e z,w.heap[b]?=some (.cells c e z)∧jA.tn e=some t
def sE(k:IntKind)(n:Int):Prop:=k.min≤n∧n≤k.max
def at_(b o:Nat):Addr:=⟨b,o,none⟩
variable [jA]
inductive VR(w:World)(ρ:Nat→Option RI)(bad:Nat→Prop):Value→V→Prop where
 | undef (v:Value):VR w ρ bad v .undef
 | bool (b:Bool):VR w ρ bad (.bool b) (.bool b)
 | int (k:IntKind) (n:Int) (h:sE k n):VR w ρ bad (.int k n) (.int k n)
 | str (s:List UInt8) (h:s.length≤maxLen):VR w ρ bad (.string ⟨s.toArray⟩) (.str s)
 | nil:VR w ρ bad (.slice none 0 0) .nil
 | slE (t:TN) (a:Option Addr) (cap:Nat) (h:cap≤maxLen):VR w ρ bad (.slice a 0 cap) (.sl t [])
 | slC (t:TN) (l:List (El t)) (b off cap:Nat) (u:Nat→Nat→Value) (hb:¬bad b) (hl:l.length≤cap) (hc:cap≤maxLen) (he:l≠[]→b<jA.base∨DF w b t)
   (hu:∀i,i<l.length→∀j,j<sz t→w.cell? (at_ b (off+i *sz t+j))=some (u i j))
   (hv:∀i (h:i<l.length) j,j<sz t→VR w ρ bad (u i j) ((enc t l[i]).getD j .undef)):
   VR w ρ bad (.slice (some (at_ b off)) l.length cap) (.sl t l)
 | ow (r:Nat) (ri:RI) (h:ρ r=some ri) (hn:ri.n≤ri.cap) (hc:ri.cap≤maxLen) (eW:ri.nl=false):VR w ρ bad (.slice (some (at_ ri.b 0)) ri.n ri.cap) (.ow r)
 | owN (r:Nat) (ri:RI) (ao:Option Addr) (h:ρ r=some ri) (hn:ri.n=0) (eW:ri.nl=true):VR w ρ bad (.slice ao 0 0) (.ow r)
 | ov (r:Nat) (t:TN) (off len cap:Nat) (a:Option Addr) (ri:RI) (h:ρ r=some ri) (O5:off+len≤ri.n) (ha:len=0∧cap=0∨a=some (at_ ri.b (off *sz t))∧ri.nl=false∧off+cap≤ri.cap)
   (hl:len≤cap) (hc:cap≤maxLen):VR w ρ bad (.slice a len cap) (.ov r t off len)
 | bp (r off:Nat) (ri:RI) (h:ρ r=some ri) (eW:ri.nl=false):VR w ρ bad (.pointer (some (at_ ri.b off))) (.bp r off)
 | ep (r:Nat) (t:TN) (i off:Nat) (ri:RI) (h:ρ r=some ri) (eW:ri.nl=false):VR w ρ bad (.pointer (some (at_ ri.b (i *sz t+off)))) (.ep r t i off)
 | fp (cs:List V) (off b o:Nat) (u:Nat→Value) (h0:0<cs.length) (hb:¬bad b) (hu:∀j,j<cs.length→w.cell? (at_ b (o+j))=some (u j))
   (hv:∀j (h:j<cs.length),VR w ρ bad (u j) cs[j]):VR w ρ bad (.pointer (some (at_ b (o+off)))) (.fp cs off)
 | fn (f:Nat) (cs:List V) (caps:Array Value) (hs:caps.size=cs.length) (hv:∀j (h:j<cs.length),VR w ρ bad (caps.getD j undef) cs[j]):
   VR w ρ bad (.func (.func f) #[] caps) (.fn f cs)
 | agg (cs:List V) (vs:Array Value) (hs:vs.size=cs.length) (hv:∀j (h:j<cs.length),VR w ρ bad (vs.getD j undef) cs[j]):VR w ρ bad (.agg vs) (.agg cs)
 | tup (cs:List V) (vs:Array Value) (hs:vs.size=cs.length) (hv:∀j (h:j<cs.length),VR w ρ bad (vs.getD j undef) cs[j]):VR w ρ bad (.tuple vs) (.tup cs)
 | nili:VR w ρ bad .nilIface .nili
 | ifc (t:TypeId) (v:Value):VR w ρ bad (.iface t v) (.ifc false)
 | ifn:VR w ρ bad .nilIface (.ifc true)
inductive GB(S:Nat→Prop):V→Prop where
 | undef:GB S .undef
 | bool (b:Bool):GB S (.bool b)
 | int (k:IntKind) (n:Int):GB S (.int k n)
 | str (s:List UInt8):GB S (.str s)
 | nil:GB S .nil
 | sl (t:TN) (l:List (El t)) (h:∀i (h:i<l.length) j,j<sz t→GB S ((enc t l[i]).getD j .undef)):GB S (.sl t l)
 | ow (r:Nat) (h:S r):GB S (.ow r)
 | ov (r:Nat) (t:TN) (off len:Nat) (h:S r):GB S (.ov r t off len)
 | bp (r off:Nat) (h:S r):GB S (.bp r off)
 | ep (r:Nat) (t:TN) (i off:Nat) (h:S r):GB S (.ep r t i off)
 | fp (cs:List V) (off:Nat) (h:∀j (h:j<cs.length),GB S cs[j]):GB S (.fp cs off)
 | fn (f:Nat) (cs:List V) (h:∀j (h:j<cs.length),GB S cs[j]):GB S (.fn f cs)
 | agg (cs:List V) (h:∀j (h:j<cs.length),GB S cs[j]):GB S (.agg cs)
 | tup (cs:List V) (h:∀j (h:j<cs.length),GB S cs[j]):GB S (.tup cs)
 | nili:GB S .nili
 | ifc (b:Bool):GB S (.ifc b)
section
variable {w:World} {ρ:Nat→Option RI} {bad:Nat→Prop} {v:Value} {d:V}
def VR.refs(h:VR w ρ bad v d):GB (λr=>ρ r≠none) d:=by
 induction h with
 | undef=>exact .undef
 | bool=>exact .bool _
 | int=>exact .int _ _
 | str=>exact .str _
 | nil=>exact .nil
 | slE=>exact .sl _ _ (λi h=>by simp at h)
 | slC t l b off cap u hb hl hc he hu hv ih=>exact .sl _ _ ih
 | ow r ri h=>exact .ow _ (by simp[h])
 | owN r ri ao h=>exact .ow _ (by simp[h])
 | ov r t off len cap a ri h=>exact .ov _ _ _ _ (by simp[h])
 | bp r off ri h=>exact .bp _ _ (by simp[h])
 | ep r t i off ri h=>exact .ep _ _ _ _ (by simp[h])
 | fp cs off b o u h0 hb hu hv ih=>exact .fp _ _ ih
 | fn f cs caps hs hv ih=>exact .fn _ _ ih
 | agg cs vs hs hv ih=>exact .agg _ ih
 | tup cs vs hs hv ih=>exact .tup _ ih
 | nili=>exact .nili
 | ifc=>exact .ifc _
 | ifn=>exact .ifc _
omit [jA]in
def YU{w:World}{b o:Nat}{u:Value}(h:w.cell? (at_ b o)=some u):b<w.heap.size:=by
 rcases Nat.lt_or_ge b w.heap.size with h' | h'
 ·exact h'
 ·simp[World.cell?,at_,Array.getElem?_eq_none h']at h
omit [jA]in
def JJ{w w':World}{b o:Nat}(h:w'.heap[b]?=w.heap[b]?):w'.cell? (at_ b o)=w.cell? (at_ b o):=by
 simp[World.cell?,at_,h]
def DF.same{w w':World}{b:Nat}{t:TN}(h:DF w b t)(hw:w'.heap[b]?=w.heap[b]?):DF w' b t:=by
 obtain⟨c,e,z,h1,h2⟩:=h;exact⟨c,e,z,hw.trans h1,h2⟩
def DF.uniq{w:World}{b:Nat}{t t':TN}(h:DF w b t)(h':DF w b t'):t=t':=by
 obtain⟨c,e,z,h1,h2⟩:=h;obtain⟨c',e',z',h1',h2'⟩:=h'
 grind
def VR.keep{w':World}{ρ':Nat→Option RI}{bad':Nat→Prop}{S:Nat→Prop}(h:VR w ρ bad v d)(hS:GB S d)
  (hρ:∀r ri,S r→ρ r=some ri→ρ' r=some ri)
  (hw:∀b,¬bad b→b<w.heap.size→w'.heap[b]?=w.heap[b]?) (hb:∀b,bad' b→bad b∨w.heap.size≤b):VR w' ρ' bad' v d:=by
 have jW:∀b,¬bad b→b<w.heap.size→¬bad' b:=λb h1 h2 h3=>(hb b h3).elim h1 (by omega);induction h with
 | undef=>exact .undef _
 | bool=>exact .bool _
 | int k n h=>exact .int _ _ h
 | str s h=>exact .str _ h
 | nil=>exact .nil
 | slE t a cap h=>exact .slE _ _ _ h
 | slC t l b off cap u hb hl hc he hu hv ih=>
  by_cases Q1:l.length=0
  ·obtain rfl:l=[]:=List.eq_nil_of_length_eq_zero Q1;exact .slE _ _ _ hc
  ·have NV:b<w.heap.size:=YU (hu 0 (by omega) 0 (mO t));cases hS with
   | sl _ _ hS=>
   exact .slC t l b off cap u (jW b hb NV) hl hc (λh0=>(he h0).imp id λk=>k.same (hw b hb NV)) (λi h j hj=>(JJ (hw b hb NV)).trans (hu i h j hj)) (λi h j hj=>ih i h j hj (hS i h j hj))
 | ow r ri h hn hc eW=>cases hS with | ow _ hs=>exact .ow _ _ (hρ _ _ hs h) hn hc eW
 | owN r ri ao h hn eW=>cases hS with | ow _ hs=>exact .owN _ _ _ (hρ _ _ hs h) hn eW
 | ov r t off len cap a ri h O5 ha hl hc=>cases hS with | ov _ _ _ _ hs=>exact .ov _ _ _ _ _ _ _ (hρ _ _ hs h) O5 ha hl hc
 | bp r off ri h eW=>cases hS with | bp _ _ hs=>exact .bp _ _ _ (hρ _ _ hs h) eW
 | ep r t i off ri h eW=>cases hS with | ep _ _ _ _ hs=>exact .ep _ _ _ _ _ (hρ _ _ hs h) eW
 | fp cs off b o u h0 hb hu hv ih=>
  cases hS with
  | fp _ _ hS=>
  have NV:b<w.heap.size:=YU (hu 0 h0);exact .fp cs off b o u h0 (jW b hb NV) (λj hj=>(JJ (hw b hb NV)).trans (hu j hj)) (λj hj=>ih j hj (hS j hj))
 | fn f cs caps hs hv ih=>cases hS with | fn _ _ hS=>exact .fn _ _ _ hs (λj hj=>ih j hj (hS j hj))
 | agg cs vs hs hv ih=>cases hS with | agg _ hS=>exact .agg _ _ hs (λj hj=>ih j hj (hS j hj))
 | tup cs vs hs hv ih=>cases hS with | tup _ hS=>exact .tup _ _ hs (λj hj=>ih j hj (hS j hj))
 | nili=>exact .nili
 | ifc=>exact .ifc _ _
 | ifn=>exact .ifn
def QS(w:World)(b:Nat):Prop:=∃o u,w.cell? (at_ b o)=some u
def VR.keep2{w':World}{ρ':Nat→Option RI}{bad':Nat→Prop}{S:Nat→Prop}(h:VR w ρ bad v d)(hS:GB S d)
  (hρ:∀r ri,S r→ρ r=some ri→ρ' r=some ri)
  (hw:∀b,¬bad b→QS w b→w'.heap[b]?=w.heap[b]?) (hb:∀b,QS w b→bad' b→bad b):VR w' ρ' bad' v d:=by
 have jW:∀b,¬bad b→QS w b→¬bad' b:=λb h1 h2 h3=>h1 (hb b h2 h3);induction h with
 | undef=>exact .undef _
 | bool=>exact .bool _
 | int k n h=>exact .int _ _ h
 | str s h=>exact .str _ h
 | nil=>exact .nil
 | slE t a cap h=>exact .slE _ _ _ h
 | slC t l b off cap u hb hl hc he hu hv ih=>
  by_cases Q1:l.length=0
  ·obtain rfl:l=[]:=List.eq_nil_of_length_eq_zero Q1;exact .slE _ _ _ hc
  ·have NV:QS w b:=⟨_,_,hu 0 (by omega) 0 (mO t)⟩;cases hS with
   | sl _ _ hS=>
   exact .slC t l b off cap u (jW b hb NV) hl hc (λh0=>(he h0).imp id λk=>k.same (hw b hb NV)) (λi h j hj=>(JJ (hw b hb NV)).trans (hu i h j hj)) (λi h j hj=>ih i h j hj (hS i h j hj))
 | ow r ri h hn hc eW=>cases hS with | ow _ hs=>exact .ow _ _ (hρ _ _ hs h) hn hc eW
 | owN r ri ao h hn eW=>cases hS with | ow _ hs=>exact .owN _ _ _ (hρ _ _ hs h) hn eW
 | ov r t off len cap a ri h O5 ha hl hc=>cases hS with | ov _ _ _ _ hs=>exact .ov _ _ _ _ _ _ _ (hρ _ _ hs h) O5 ha hl hc
 | bp r off ri h eW=>cases hS with | bp _ _ hs=>exact .bp _ _ _ (hρ _ _ hs h) eW
 | ep r t i off ri h eW=>cases hS with | ep _ _ _ _ hs=>exact .ep _ _ _ _ _ (hρ _ _ hs h) eW
 | fp cs off b o u h0 hb hu hv ih=>
  cases hS with
  | fp _ _ hS=>
  have NV:QS w b:=⟨_,_,hu 0 h0⟩;exact .fp cs off b o u h0 (jW b hb NV) (λj hj=>(JJ (hw b hb NV)).trans (hu j hj)) (λj hj=>ih j hj (hS j hj))
 | fn f cs caps hs hv ih=>cases hS with | fn _ _ hS=>exact .fn _ _ _ hs (λj hj=>ih j hj (hS j hj))
 | agg cs vs hs hv ih=>cases hS with | agg _ hS=>exact .agg _ _ hs (λj hj=>ih j hj (hS j hj))
 | tup cs vs hs hv ih=>cases hS with | tup _ hS=>exact .tup _ _ hs (λj hj=>ih j hj (hS j hj))
 | nili=>exact .nili
 | ifc=>exact .ifc _ _
 | ifn=>exact .ifn
omit [jA]in
def GB.all{S:Nat→Prop}{d:V}(hS:∀r,S r)(h:GB (λr=>ρ r≠none) d):GB S d:=by
 induction h with
 | undef=>exact .undef
 | bool=>exact .bool _
 | int=>exact .int _ _
 | str=>exact .str _
 | nil=>exact .nil
 | sl t l h ih=>exact .sl _ _ ih
 | ow r h=>exact .ow _ (hS _)
 | ov r t off len h=>exact .ov _ _ _ _ (hS _)
 | bp r off h=>exact .bp _ _ (hS _)
 | ep r t i off h=>exact .ep _ _ _ _ (hS _)
 | fp cs off h ih=>exact .fp _ _ ih
 | fn f cs h ih=>exact .fn _ _ ih
 | agg cs h ih=>exact .agg _ ih
 | tup cs h ih=>exact .tup _ ih
 | nili=>exact .nili
 | ifc=>exact .ifc _
def VR.mono{w':World}{ρ':Nat→Option RI}{bad':Nat→Prop}(h:VR w ρ bad v d)(hρ:∀r ri,ρ r=some ri→ρ' r=some ri)
  (hw:∀b,¬bad b→b<w.heap.size→w'.heap[b]?=w.heap[b]?) (hb:∀b,bad' b→bad b∨w.heap.size≤b):VR w' ρ' bad' v d:=
 h.keep (S:=λ_=>True) (GB.all (λ_=>trivial) h.refs) (λr ri _=>hρ r ri) hw hb
def VR.one(h:VR w ρ bad v d)(hd:d.leaf=true):v.oneCell'=true:=by
 cases h<;>first | rfl | simp[V.leaf]at hd
omit [jA]in
def zsX(n:Int)(h:sE .u8 n):((UInt8.ofNat n.toNat).toNat:Int)=n:=by
 obtain⟨h1,h2⟩:=h;simp[IntKind.min,IntKind.max,IntKind.signed,IntKind.bits]at h1 h2;simp only[UInt8.toNat_ofNat'];omega
def VR.sub{c d:V}(hs:IH c d)(h:VR w ρ bad v c):VR w ρ bad v d:=by
 cases hs with
 | refl=>exact h
 | byte n=>cases h with | int _ _ hf=>rw[zsX n hf];exact .int _ _ hf
 | nil t=>cases h;exact .slE _ _ _ (Nat.zero_le _)
end
end Go.D
namespace Go.D
def TB(S:Nat→Prop)(a:UInt8)(j:Nat):GB S ((enc .byte a).getD j .undef):=by
 match j with
 | 0=>exact .int _ _
 | n+1=>exact .undef
def VJ(S:Nat→Prop)(a:Int)(j:Nat):GB S ((enc .int a).getD j .undef):=by
 match j with
 | 0=>exact .int _ _
 | n+1=>exact .undef
def zty(S:Nat→Prop)(a:Bool)(j:Nat):GB S ((enc .bool a).getD j .undef):=by
 match j with
 | 0=>exact .bool _
 | n+1=>exact .undef
def zuV(S:Nat→Prop)(a:List UInt8)(j:Nat):GB S ((enc .str a).getD j .undef):=by
 match j with
 | 0=>exact .str _
 | n+1=>exact .undef
def zdg(S:Nat→Prop)(a:List UInt8)(j:Nat):GB S ((enc .bs a).getD j .undef):=by
 match j with
 | 0=>exact .sl _ _ λi h j _=>TB S _ j
 | n+1=>exact .undef
def ztC(S:Nat→Prop)(a:Ai)(j:Nat):GB S ((enc .Addr a).getD j .undef):=by
 match j with
 | 0=>exact .int _ _
 | 1=>exact .int _ _
 | n+2=>exact .undef
def zlG(S:Nat→Prop)(a:Bc)(j:Nat):GB S ((enc .Op a).getD j .undef):=by
 match j with
 | 0=>exact .int _ _
 | 1=>exact .int _ _
 | 2=>exact .int _ _
 | 3=>exact .sl _ _ λi h j _=>TB S _ j
 | n+4=>exact .undef
def zsD(S:Nat→Prop)(a:Aq)(j:Nat):GB S ((enc .Event a).getD j .undef):=by
 match j with
 | 0=>exact .int _ _
 | 1=>exact .int _ _
 | 2=>exact .int _ _
 | 3=>exact .int _ _
 | 4=>exact .sl _ _ λi h j _=>TB S _ j
 | 5=>exact .sl _ _ λi h j _=>zlG S _ j
 | n+6=>exact .undef
def zu0(S:Nat→Prop)(a:Ba)(j:Nat):GB S ((enc .Jar a).getD j .undef):=by
 match j with
 | 0=>exact .sl _ _ λi h j _=>TB S _ j
 | n+1=>exact .undef
def ztN(S:Nat→Prop)(a:Ax)(j:Nat):GB S ((enc .Dice a).getD j .undef):=by
 match j with
 | 0=>exact .sl _ _ λi h j _=>TB S _ j
 | 1=>exact .int _ _
 | n+2=>exact .undef
def zvi(S:Nat→Prop)(a:Ap)(j:Nat):GB S ((enc .Win a).getD j .undef):=by
 match j with
 | 0=>exact .int _ _
 | 1=>exact .sl _ _ λi h j _=>VJ S _ j
 | n+2=>exact .undef
def zvF(S:Nat→Prop)(a:Aw)(j:Nat):GB S ((enc .Ep a).getD j .undef):=by
 match j with
 | 0=>exact .int _ _
 | 1=>exact .sl _ _ λi h j _=>TB S _ j
 | 2=>exact .int _ _
 | 3=>exact .int _ _
 | 4=>exact .sl _ _ λi h j _=>VJ S _ j
 | n+5=>exact .undef
def zuc(S:Nat→Prop)(a:Ak)(j:Nat):GB S ((enc .Chan a).getD j .undef):=by
 match j with
 | 0=>exact .int _ _
 | 1=>exact .sl _ _ λi h j _=>TB S _ j
 | 2=>exact .int _ _
 | 3=>exact .sl _ _ λi h j _=>TB S _ j
 | 4=>exact .int _ _
 | 5=>exact .int _ _
 | 6=>exact .sl _ _ λi h j _=>VJ S _ j
 | 7=>exact .int _ _
 | 8=>exact .sl _ _ λi h j _=>TB S _ j
 | 9=>exact .int _ _
 | 10=>exact .int _ _
 | 11=>exact .sl _ _ λi h j _=>VJ S _ j
 | 12=>exact .bool _
 | 13=>exact .int _ _
 | 14=>exact .sl _ _ λi h j _=>TB S _ j
 | n+15=>exact .undef
def zfv(S:Nat→Prop)(a:Az)(j:Nat):GB S ((enc .Cand a).getD j .undef):=by
 match j with
 | 0=>exact .int _ _
 | 1=>exact .int _ _
 | 2=>exact .sl _ _ λi h j _=>TB S _ j
 | 3=>exact .int _ _
 | n+4=>exact .undef
def zsQ(S:Nat→Prop)(a:Aj)(j:Nat):GB S ((enc .Paths a).getD j .undef):=by
 match j with
 | 0=>exact .int _ _
 | 1=>exact .int _ _
 | 2=>exact .sl _ _ λi h j _=>zfv S _ j
 | n+3=>exact .undef
def zcl(S:Nat→Prop)(a:Ah)(j:Nat):GB S ((enc .Sess a).getD j .undef):=by
 match j with
 | 0=>exact .int _ _
 | 1=>exact .sl _ _ λi h j _=>TB S _ j
 | 2=>exact .sl _ _ λi h j _=>TB S _ j
 | 3=>exact .int _ _
 | 4=>exact .sl _ _ λi h j _=>TB S _ j
 | 5=>exact .int _ _
 | 6=>exact .sl _ _ λi h j _=>TB S _ j
 | 7=>exact .int _ _
 | 8=>exact .int _ _
 | 9=>exact .sl _ _ λi h j _=>VJ S _ j
 | 10=>exact .int _ _
 | 11=>exact .sl _ _ λi h j _=>TB S _ j
 | 12=>exact .int _ _
 | 13=>exact .int _ _
 | 14=>exact .sl _ _ λi h j _=>VJ S _ j
 | 15=>exact .bool _
 | 16=>exact .int _ _
 | 17=>exact .sl _ _ λi h j _=>TB S _ j
 | 18=>exact .int _ _
 | 19=>exact .int _ _
 | 20=>exact .sl _ _ λi h j _=>zfv S _ j
 | 21=>exact .int _ _
 | 22=>exact .int _ _
 | 23=>exact .bool _
 | n+24=>exact .undef
def zuM(S:Nat→Prop)(a:Ao)(j:Nat):GB S ((enc .Tab a).getD j .undef):=by
 match j with
 | 0=>exact .int _ _
 | 1=>exact .sl _ _ λi h j _=>zcl S _ j
 | n+2=>exact .undef
def zeV(S:Nat→Prop)(a:Al)(j:Nat):GB S ((enc .Credit a).getD j .undef):=by
 match j with
 | 0=>exact .int _ _
 | 1=>exact .int _ _
 | 2=>exact .int _ _
 | 3=>exact .int _ _
 | n+4=>exact .undef
def zr6(S:Nat→Prop)(a:Ac)(j:Nat):GB S ((enc .Server a).getD j .undef):=by
 match j with
 | 0=>exact .sl _ _ λi h j _=>zdg S _ j
 | 1=>exact .sl _ _ λi h j _=>TB S _ j
 | 2=>exact .sl _ _ λi h j _=>TB S _ j
 | 3=>exact .int _ _
 | 4=>exact .int _ _
 | 5=>exact .sl _ _ λi h j _=>zcl S _ j
 | 6=>exact .sl _ _ λi h j _=>zeV S _ j
 | n+7=>exact .undef
def zsi(S:Nat→Prop)(a:Aa)(j:Nat):GB S ((enc .Frame a).getD j .undef):=by
 match j with
 | 0=>exact .int _ _
 | 1=>exact .int _ _
 | 2=>exact .sl _ _ λi h j _=>TB S _ j
 | 3=>exact .sl _ _ λi h j _=>TB S _ j
 | 4=>exact .int _ _
 | 5=>exact .sl _ _ λi h j _=>TB S _ j
 | 6=>exact .sl _ _ λi h j _=>TB S _ j
 | 7=>exact .int _ _
 | 8=>exact .int _ _
 | 9=>exact .sl _ _ λi h j _=>TB S _ j
 | 10=>exact .sl _ _ λi h j _=>TB S _ j
 | n+11=>exact .undef
def zs3(S:Nat→Prop)(a:Av)(j:Nat):GB S ((enc .Timer a).getD j .undef):=by
 match j with
 | 0=>exact .bool _
 | 1=>exact .int _ _
 | 2=>exact .int _ _
 | 3=>exact .int _ _
 | n+4=>exact .undef
def zi9(S:Nat→Prop)(a:Ad)(j:Nat):GB S ((enc .Client a).getD j .undef):=by
 match j with
 | 0=>exact .int _ _
 | 1=>exact .sl _ _ λi h j _=>TB S _ j
 | 2=>exact .int _ _
 | 3=>exact .int _ _
 | 4=>exact .int _ _
 | 5=>exact .sl _ _ λi h j _=>TB S _ j
 | 6=>exact .int _ _
 | 7=>exact .int _ _
 | 8=>exact .sl _ _ λi h j _=>TB S _ j
 | 9=>exact .sl _ _ λi h j _=>TB S _ j
 | 10=>exact .int _ _
 | 11=>exact .sl _ _ λi h j _=>TB S _ j
 | 12=>exact .sl _ _ λi h j _=>TB S _ j
 | 13=>exact .int _ _
 | 14=>exact .int _ _
 | 15=>exact .sl _ _ λi h j _=>TB S _ j
 | 16=>exact .sl _ _ λi h j _=>TB S _ j
 | 17=>exact .int _ _
 | 18=>exact .sl _ _ λi h j _=>TB S _ j
 | 19=>exact .int _ _
 | 20=>exact .sl _ _ λi h j _=>TB S _ j
 | 21=>exact .int _ _
 | 22=>exact .int _ _
 | 23=>exact .sl _ _ λi h j _=>VJ S _ j
 | 24=>exact .int _ _
 | 25=>exact .sl _ _ λi h j _=>TB S _ j
 | 26=>exact .int _ _
 | 27=>exact .int _ _
 | 28=>exact .sl _ _ λi h j _=>VJ S _ j
 | 29=>exact .bool _
 | 30=>exact .int _ _
 | 31=>exact .sl _ _ λi h j _=>TB S _ j
 | 32=>exact .bool _
 | 33=>exact .int _ _
 | 34=>exact .int _ _
 | 35=>exact .int _ _
 | 36=>exact .bool _
 | 37=>exact .int _ _
 | 38=>exact .int _ _
 | 39=>exact .int _ _
 | 40=>exact .int _ _
 | n+41=>exact .undef
def zkD(S:Nat→Prop)(a:Am)(j:Nat):GB S ((enc .Wire a).getD j .undef):=by
 match j with
 | 0=>exact .int _ _
 | 1=>exact .int _ _
 | 2=>exact .int _ _
 | 3=>exact .int _ _
 | 4=>exact .sl _ _ λi h j _=>TB S _ j
 | n+5=>exact .undef
def zkb(S:Nat→Prop)(a:Ae)(j:Nat):GB S ((enc .Note a).getD j .undef):=by
 match j with
 | 0=>exact .int _ _
 | 1=>exact .int _ _
 | 2=>exact .int _ _
 | 3=>exact .sl _ _ λi h j _=>TB S _ j
 | 4=>exact .sl _ _ λi h j _=>TB S _ j
 | 5=>exact .int _ _
 | 6=>exact .int _ _
 | 7=>exact .sl _ _ λi h j _=>TB S _ j
 | 8=>exact .sl _ _ λi h j _=>TB S _ j
 | 9=>exact .int _ _
 | 10=>exact .int _ _
 | 11=>exact .int _ _
 | n+12=>exact .undef
def zsz(S:Nat→Prop)(a:Ab)(j:Nat):GB S ((enc .World a).getD j .undef):=by
 match j with
 | 0=>exact .int _ _
 | 1=>exact .sl _ _ λi h j _=>zi9 S _ j
 | 2=>exact .sl _ _ λi h j _=>zdg S _ j
 | 3=>exact .sl _ _ λi h j _=>TB S _ j
 | 4=>exact .sl _ _ λi h j _=>TB S _ j
 | 5=>exact .int _ _
 | 6=>exact .int _ _
 | 7=>exact .sl _ _ λi h j _=>zcl S _ j
 | 8=>exact .sl _ _ λi h j _=>zeV S _ j
 | 9=>exact .sl _ _ λi h j _=>TB S _ j
 | 10=>exact .int _ _
 | 11=>exact .sl _ _ λi h j _=>zkD S _ j
 | 12=>exact .sl _ _ λi h j _=>zdg S _ j
 | 13=>exact .sl _ _ λi h j _=>zkb S _ j
 | n+14=>exact .undef
def zvx(S:Nat→Prop)(a:Af)(j:Nat):GB S ((enc .Cur a).getD j .undef):=by
 match j with
 | 0=>exact .sl _ _ λi h j _=>TB S _ j
 | 1=>exact .int _ _
 | 2=>exact .int _ _
 | n+3=>exact .undef
def zuu(S:Nat→Prop)(a:Au)(j:Nat):GB S ((enc .Out a).getD j .undef):=by
 match j with
 | 0=>exact .int _ _
 | 1=>exact .int _ _
 | 2=>exact .int _ _
 | 3=>exact .int _ _
 | 4=>exact .sl _ _ λi h j _=>TB S _ j
 | 5=>exact .sl _ _ λi h j _=>TB S _ j
 | 6=>exact .int _ _
 | 7=>exact .sl _ _ λi h j _=>TB S _ j
 | 8=>exact .sl _ _ λi h j _=>TB S _ j
 | 9=>exact .int _ _
 | 10=>exact .int _ _
 | 11=>exact .sl _ _ λi h j _=>TB S _ j
 | 12=>exact .sl _ _ λi h j _=>TB S _ j
 | n+13=>exact .undef
def ztd(S:Nat→Prop)(a:Jw)(j:Nat):GB S ((enc .Form a).getD j .undef):=by
 match j with
 | 0=>exact .int _ _
 | 1=>exact .str _
 | n+2=>exact .undef
def zud(S:Nat→Prop)(a:Be)(j:Nat):GB S ((enc .Hash a).getD j .undef):=by
 match j with
 | 0=>exact .sl _ _ λi h j _=>VJ S _ j
 | 1=>exact .sl _ _ λi h j _=>TB S _ j
 | 2=>exact .int _ _
 | n+3=>exact .undef
def tM(S:Nat→Prop)(t:TN)(a:El t)(j:Nat):GB S ((enc t a).getD j .undef):=by
 cases t with
 | byte=>exact TB S a j
 | int=>exact VJ S a j
 | bool=>exact zty S a j
 | str=>exact zuV S a j
 | bs=>exact zdg S a j
 | Addr=>exact ztC S a j
 | Op=>exact zlG S a j
 | Event=>exact zsD S a j
 | Jar=>exact zu0 S a j
 | Dice=>exact ztN S a j
 | Win=>exact zvi S a j
 | Ep=>exact zvF S a j
 | Chan=>exact zuc S a j
 | Cand=>exact zfv S a j
 | Paths=>exact zsQ S a j
 | Sess=>exact zcl S a j
 | Tab=>exact zuM S a j
 | Credit=>exact zeV S a j
 | Server=>exact zr6 S a j
 | Frame=>exact zsi S a j
 | Timer=>exact zs3 S a j
 | Client=>exact zi9 S a j
 | Wire=>exact zkD S a j
 | Note=>exact zkb S a j
 | World=>exact zsz S a j
 | Cur=>exact zvx S a j
 | Out=>exact zuu S a j
 | Form=>exact ztd S a j
 | Hash=>exact zud S a j
end Go.D
