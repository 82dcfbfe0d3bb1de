/-
 The data of the program as plain structures; values of the plain semantics; their encoding as flat cells.
-/
import GoSem.Core.Value
import Derived.Calls
import Derived.WalkKit
import GoSem.ClaimData
set_option linter.all false
namespace Go.D
structure Af where
 Host:Int
 Port:Int
structure Ei where
 Kind:Int
 I:Int
 J:Int
 B:(List UInt8)
structure Av where
 Kind:Int
 I:Int
 J:Int
 N:Int
 B:(List UInt8)
 Ops:(List Ei)
structure Ap where
 Secret:(List UInt8)
structure Ae where
 Seed:(List UInt8)
 N:Int
structure Al where
 Top:Int
 Bits:(List Int)
structure Aq where
 N:Int
 Key:(List UInt8)
 Seq:Int
 Win:Al
structure Ah where
 Role:Int
 Sn:(List UInt8)
 Cur:Aq
 Old:Aq
 HasOld:Bool
 Until:Int
 Next:(List UInt8)
structure Ar where
 A:Af
 Draw:(List UInt8)
 Until:Int
structure Ao where
 At:Af
 Cands:(List Ar)
structure Am where
 Id:Int
 Cn:(List UInt8)
 Sn:(List UInt8)
 C:Ah
 P:Ao
 Tick:Int
 Last:Int
 Dead:Bool
structure Ai where
 Cap:Int
 L:(List Am)
structure Ad where
 A:Af
 Got:Int
 Sent:Int
structure Aa where
 Psks:(List (List UInt8))
 J:Ap
 D:Ae
 T:Ai
 Cr:(List Ad)
structure Ac where
 Kind:Int
 Id:Int
 Cn:(List UInt8)
 Sn:(List UInt8)
 Tick:Int
 Cookie:(List UInt8)
 Proof:(List UInt8)
 Epoch:Int
 Seq:Int
 Body:(List UInt8)
 Tag:(List UInt8)
structure Aj where
 On:Bool
 Due:Int
 Wait:Int
 Tries:Int
structure Ab where
 Id:Int
 Psk:(List UInt8)
 At:Af
 St:Int
 Cn:(List UInt8)
 Fin:Ac
 C:Ah
 T:Aj
 R:Aj
 Last:Int
structure As where
 From:Af
 To:Af
 B:(List UInt8)
structure Ak where
 Kind:Int
 Id:Int
 Role:Int
 Cn:(List UInt8)
 Sn:(List UInt8)
 Epoch:Int
 Seq:Int
 Body:(List UInt8)
 Key:(List UInt8)
 A:Af
 Now:Int
structure Ag where
 Now:Int
 Clients:(List Ab)
 S:Aa
 D:Ae
 Seen:(List As)
 Known:(List (List UInt8))
 Notes:(List Ak)
structure Bh where
 b:(List UInt8)
 i:Int
 h:Int
structure Bb where
 To:Af
 F:Ac
structure Bc where
 kind:Int
 words:(List UInt8)
structure Au where
 H:(List Int)
 Held:(List UInt8)
 N:Int
end Go.D
namespace Go.D
inductive TN where
 | byte | int | bool | str | bs | Addr | Op | Event | Jar | Dice | Win | Ep | Chan | Cand | Paths | Sess | Tab | Credit | Server | Frame | Timer | Client | Wire | Note | World | Cur | Out | Form | Hash
 deriving DecidableEq
@[reducible] def El:TN→Type
 | .byte=>UInt8 | .int=>Int | .bool=>Bool | .str=>List UInt8 | .bs=>List UInt8
 | .Addr=>Af | .Op=>Ei | .Event=>Av | .Jar=>Ap | .Dice=>Ae | .Win=>Al | .Ep=>Aq | .Chan=>Ah | .Cand=>Ar | .Paths=>Ao | .Sess=>Am | .Tab=>Ai | .Credit=>Ad | .Server=>Aa | .Frame=>Ac | .Timer=>Aj | .Client=>Ab | .Wire=>As | .Note=>Ak | .World=>Ag | .Cur=>Bh | .Out=>Bb | .Form=>Bc | .Hash=>Au
inductive V where
 | undef
 | bool (b:Bool)
 | int (k:IntKind) (n:Int)
 | str (s:List UInt8)
 | nil
 | sl (t:TN) (l:List (El t))
 | ow (r:Nat)
 | ov (r:Nat) (t:TN) (off len:Nat)
 | bp (r off:Nat)
 | ep (r:Nat) (t:TN) (i off:Nat)
 | fp (cs:List V) (off:Nat)
 | fn (f:Nat) (cs:List V)
 | agg (cs:List V)
 | tup (vs:List V)
 | nili
 | ifc (b:Bool)
 | raw (u:Value) (d:V)
def mN(a:Af):List V:=[.int .i64 a.Host, .int .i64 a.Port]
def JT(a:Ei):List V:=[.int .i64 a.Kind, .int .i64 a.I, .int .i64 a.J, .sl .byte a.B]
def ES(a:Av):List V:=[.int .i64 a.Kind, .int .i64 a.I, .int .i64 a.J, .int .i64 a.N, .sl .byte a.B, .sl .Op a.Ops]
def tT(a:Ap):List V:=[.sl .byte a.Secret]
def iT(a:Ae):List V:=[.sl .byte a.Seed, .int .i64 a.N]
def pT(a:Al):List V:=[.int .i64 a.Top, .sl .int a.Bits]
def HT(a:Aq):List V:=[.int .i64 a.N, .sl .byte a.Key, .int .i64 a.Seq, .int .i64 a.Win.Top, .sl .int a.Win.Bits]
def TS(a:Ah):List V:=[.int .i64 a.Role, .sl .byte a.Sn, .int .i64 a.Cur.N, .sl .byte a.Cur.Key, .int .i64 a.Cur.Seq, .int .i64 a.Cur.Win.Top, .sl .int a.Cur.Win.Bits, .int .i64 a.Old.N, .sl .byte a.Old.Key, .int .i64 a.Old.Seq, .int .i64 a.Old.Win.Top, .sl .int a.Old.Win.Bits, .bool a.HasOld, .int .i64 a.Until, .sl .byte a.Next]
def hQ(a:Ar):List V:=[.int .i64 a.A.Host, .int .i64 a.A.Port, .sl .byte a.Draw, .int .i64 a.Until]
def tS(a:Ao):List V:=[.int .i64 a.At.Host, .int .i64 a.At.Port, .sl .Cand a.Cands]
def lQ(a:Am):List V:=[.int .i64 a.Id, .sl .byte a.Cn, .sl .byte a.Sn, .int .i64 a.C.Role, .sl .byte a.C.Sn, .int .i64 a.C.Cur.N, .sl .byte a.C.Cur.Key, .int .i64 a.C.Cur.Seq, .int .i64 a.C.Cur.Win.Top, .sl .int a.C.Cur.Win.Bits, .int .i64 a.C.Old.N, .sl .byte a.C.Old.Key, .int .i64 a.C.Old.Seq, .int .i64 a.C.Old.Win.Top, .sl .int a.C.Old.Win.Bits, .bool a.C.HasOld, .int .i64 a.C.Until, .sl .byte a.C.Next, .int .i64 a.P.At.Host, .int .i64 a.P.At.Port, .sl .Cand a.P.Cands, .int .i64 a.Tick, .int .i64 a.Last, .bool a.Dead]
def sT(a:Ai):List V:=[.int .i64 a.Cap, .sl .Sess a.L]
def TK(a:Ad):List V:=[.int .i64 a.A.Host, .int .i64 a.A.Port, .int .i64 a.Got, .int .i64 a.Sent]
def kS(a:Aa):List V:=[.sl .bs a.Psks, .sl .byte a.J.Secret, .sl .byte a.D.Seed, .int .i64 a.D.N, .int .i64 a.T.Cap, .sl .Sess a.T.L, .sl .Credit a.Cr]
def vS(a:Ac):List V:=[.int .i64 a.Kind, .int .i64 a.Id, .sl .byte a.Cn, .sl .byte a.Sn, .int .i64 a.Tick, .sl .byte a.Cookie, .sl .byte a.Proof, .int .i64 a.Epoch, .int .i64 a.Seq, .sl .byte a.Body, .sl .byte a.Tag]
def kN(a:Aj):List V:=[.bool a.On, .int .i64 a.Due, .int .i64 a.Wait, .int .i64 a.Tries]
def wP(a:Ab):List V:=[.int .i64 a.Id, .sl .byte a.Psk, .int .i64 a.At.Host, .int .i64 a.At.Port, .int .i64 a.St, .sl .byte a.Cn, .int .i64 a.Fin.Kind, .int .i64 a.Fin.Id, .sl .byte a.Fin.Cn, .sl .byte a.Fin.Sn, .int .i64 a.Fin.Tick, .sl .byte a.Fin.Cookie, .sl .byte a.Fin.Proof, .int .i64 a.Fin.Epoch, .int .i64 a.Fin.Seq, .sl .byte a.Fin.Body, .sl .byte a.Fin.Tag, .int .i64 a.C.Role, .sl .byte a.C.Sn, .int .i64 a.C.Cur.N, .sl .byte a.C.Cur.Key, .int .i64 a.C.Cur.Seq, .int .i64 a.C.Cur.Win.Top, .sl .int a.C.Cur.Win.Bits, .int .i64 a.C.Old.N, .sl .byte a.C.Old.Key, .int .i64 a.C.Old.Seq, .int .i64 a.C.Old.Win.Top, .sl .int a.C.Old.Win.Bits, .bool a.C.HasOld, .int .i64 a.C.Until, .sl .byte a.C.Next, .bool a.T.On, .int .i64 a.T.Due, .int .i64 a.T.Wait, .int .i64 a.T.Tries, .bool a.R.On, .int .i64 a.R.Due, .int .i64 a.R.Wait, .int .i64 a.R.Tries, .int .i64 a.Last]
def bQ(a:As):List V:=[.int .i64 a.From.Host, .int .i64 a.From.Port, .int .i64 a.To.Host, .int .i64 a.To.Port, .sl .byte a.B]
def qQ(a:Ak):List V:=[.int .i64 a.Kind, .int .i64 a.Id, .int .i64 a.Role, .sl .byte a.Cn, .sl .byte a.Sn, .int .i64 a.Epoch, .int .i64 a.Seq, .sl .byte a.Body, .sl .byte a.Key, .int .i64 a.A.Host, .int .i64 a.A.Port, .int .i64 a.Now]
def nS(a:Ag):List V:=[.int .i64 a.Now, .sl .Client a.Clients, .sl .bs a.S.Psks, .sl .byte a.S.J.Secret, .sl .byte a.S.D.Seed, .int .i64 a.S.D.N, .int .i64 a.S.T.Cap, .sl .Sess a.S.T.L, .sl .Credit a.S.Cr, .sl .byte a.D.Seed, .int .i64 a.D.N, .sl .Wire a.Seen, .sl .bs a.Known, .sl .Note a.Notes]
def oT(a:Bh):List V:=[.sl .byte a.b, .int .i64 a.i, .int .i64 a.h]
def zT(a:Bb):List V:=[.int .i64 a.To.Host, .int .i64 a.To.Port, .int .i64 a.F.Kind, .int .i64 a.F.Id, .sl .byte a.F.Cn, .sl .byte a.F.Sn, .int .i64 a.F.Tick, .sl .byte a.F.Cookie, .sl .byte a.F.Proof, .int .i64 a.F.Epoch, .int .i64 a.F.Seq, .sl .byte a.F.Body, .sl .byte a.F.Tag]
def lN(a:Bc):List V:=[.int .i64 a.kind, .str a.words]
def QS(a:Au):List V:=[.sl .int a.H, .sl .byte a.Held, .int .i64 a.N]
def enc:(t:TN)→El t→List V
 | .byte,b=>[.int .u8 (b.toNat:Int)]
 | .int,n=>[.int .i64 n]
 | .bool,b=>[.bool b]
 | .str,s=>[.str s]
 | .bs,l=>[.sl .byte l]
 | .Addr,a=>mN a
 | .Op,a=>JT a
 | .Event,a=>ES a
 | .Jar,a=>tT a
 | .Dice,a=>iT a
 | .Win,a=>pT a
 | .Ep,a=>HT a
 | .Chan,a=>TS a
 | .Cand,a=>hQ a
 | .Paths,a=>tS a
 | .Sess,a=>lQ a
 | .Tab,a=>sT a
 | .Credit,a=>TK a
 | .Server,a=>kS a
 | .Frame,a=>vS a
 | .Timer,a=>kN a
 | .Client,a=>wP a
 | .Wire,a=>bQ a
 | .Note,a=>qQ a
 | .World,a=>nS a
 | .Cur,a=>oT a
 | .Out,a=>zT a
 | .Form,a=>lN a
 | .Hash,a=>QS a
def sz:TN→Nat
 | .byte=>1 | .int=>1 | .bool=>1 | .str=>1 | .bs=>1
 | .Addr=>2 | .Op=>4 | .Event=>6 | .Jar=>1 | .Dice=>2 | .Win=>2 | .Ep=>5 | .Chan=>15 | .Cand=>4 | .Paths=>3 | .Sess=>24 | .Tab=>2 | .Credit=>4 | .Server=>7 | .Frame=>11 | .Timer=>4 | .Client=>41 | .Wire=>5 | .Note=>12 | .World=>14 | .Cur=>3 | .Out=>13 | .Form=>2 | .Hash=>3
def uA:V→Option Int | .int .i64 n=>some n | _=>none
def rG:V→Option UInt8 | .int .u8 n=>some (UInt8.ofNat n.toNat) | _=>none
def sE:V→Option Bool | .bool b=>some b | _=>none
def EH:V→Option (List UInt8) | .str s=>some s | _=>none
def TN.cast{s t:TN}(h:s=t)(l:List (El s)):List (El t):=h▸l
def BA(t:TN):V→Option (List (El t))
 | .sl s l=>if h:s=t then some (TN.cast h l)else none
 | .nil=>some []
 | _=>none
def tk{α β:Type}(p:V→Option α)(cs:List V)(k:α→List V→Option β):Option β:=
 match cs with
 | c :: cs=>(p c).bind λa=>k a cs
 | []=>none
def aB{β:Type}(cs:List V)(r:β):Option β:=
 match cs with
 | []=>some r
 | _=>none
def jQ(cs:List V):Option Af:=
 tk uA cs λf0 cs=>
 tk uA cs λf1 cs=>
 aB cs (⟨f0,f1⟩:Af)
def WQ(cs:List V):Option Ei:=
 tk uA cs λf0 cs=>
 tk uA cs λf1 cs=>
 tk uA cs λf2 cs=>
 tk (BA .byte) cs λf3 cs=>
 aB cs (⟨f0,f1,f2,f3⟩:Ei)
def RP(cs:List V):Option Av:=
 tk uA cs λf0 cs=>
 tk uA cs λf1 cs=>
 tk uA cs λf2 cs=>
 tk uA cs λf3 cs=>
 tk (BA .byte) cs λf4 cs=>
 tk (BA .Op) cs λf5 cs=>
 aB cs (⟨f0,f1,f2,f3,f4,f5⟩:Av)
def MQ(cs:List V):Option Ap:=
 tk (BA .byte) cs λf0 cs=>
 aB cs (⟨f0⟩:Ap)
def nQ(cs:List V):Option Ae:=
 tk (BA .byte) cs λf0 cs=>
 tk uA cs λf1 cs=>
 aB cs (⟨f0,f1⟩:Ae)
def yQ(cs:List V):Option Al:=
 tk uA cs λf0 cs=>
 tk (BA .int) cs λf1 cs=>
 aB cs (⟨f0,f1⟩:Al)
def UQ(cs:List V):Option Aq:=
 tk uA cs λf0 cs=>
 tk (BA .byte) cs λf1 cs=>
 tk uA cs λf2 cs=>
 tk uA cs λf3 cs=>
 tk (BA .int) cs λf4 cs=>
 aB cs (⟨f0,f1,f2,⟨f3,f4⟩⟩:Aq)
def sQ(cs:List V):Option Ah:=
 tk uA cs λf0 cs=>
 tk (BA .byte) cs λf1 cs=>
 tk uA cs λf2 cs=>
 tk (BA .byte) cs λf3 cs=>
 tk uA cs λf4 cs=>
 tk uA cs λf5 cs=>
 tk (BA .int) cs λf6 cs=>
 tk uA cs λf7 cs=>
 tk (BA .byte) cs λf8 cs=>
 tk uA cs λf9 cs=>
 tk uA cs λf10 cs=>
 tk (BA .int) cs λf11 cs=>
 tk sE cs λf12 cs=>
 tk uA cs λf13 cs=>
 tk (BA .byte) cs λf14 cs=>
 aB cs (⟨f0,f1,⟨f2,f3,f4,⟨f5,f6⟩⟩,⟨f7,f8,f9,⟨f10,f11⟩⟩,f12,f13,f14⟩:Ah)
def cQ(cs:List V):Option Ar:=
 tk uA cs λf0 cs=>
 tk uA cs λf1 cs=>
 tk (BA .byte) cs λf2 cs=>
 tk uA cs λf3 cs=>
 aB cs (⟨⟨f0,f1⟩,f2,f3⟩:Ar)
def zP(cs:List V):Option Ao:=
 tk uA cs λf0 cs=>
 tk uA cs λf1 cs=>
 tk (BA .Cand) cs λf2 cs=>
 aB cs (⟨⟨f0,f1⟩,f2⟩:Ao)
def tQ(cs:List V):Option Am:=
 tk uA cs λf0 cs=>
 tk (BA .byte) cs λf1 cs=>
 tk (BA .byte) cs λf2 cs=>
 tk uA cs λf3 cs=>
 tk (BA .byte) cs λf4 cs=>
 tk uA cs λf5 cs=>
 tk (BA .byte) cs λf6 cs=>
 tk uA cs λf7 cs=>
 tk uA cs λf8 cs=>
 tk (BA .int) cs λf9 cs=>
 tk uA cs λf10 cs=>
 tk (BA .byte) cs λf11 cs=>
 tk uA cs λf12 cs=>
 tk uA cs λf13 cs=>
 tk (BA .int) cs λf14 cs=>
 tk sE cs λf15 cs=>
 tk uA cs λf16 cs=>
 tk (BA .byte) cs λf17 cs=>
 tk uA cs λf18 cs=>
 tk uA cs λf19 cs=>
 tk (BA .Cand) cs λf20 cs=>
 tk uA cs λf21 cs=>
 tk uA cs λf22 cs=>
 tk sE cs λf23 cs=>
 aB cs (⟨f0,f1,f2,⟨f3,f4,⟨f5,f6,f7,⟨f8,f9⟩⟩,⟨f10,f11,f12,⟨f13,f14⟩⟩,f15,f16,f17⟩,⟨⟨f18,f19⟩,f20⟩,f21,f22,f23⟩:Am)
def FQ(cs:List V):Option Ai:=
 tk uA cs λf0 cs=>
 tk (BA .Sess) cs λf1 cs=>
 aB cs (⟨f0,f1⟩:Ai)
def mP(cs:List V):Option Ad:=
 tk uA cs λf0 cs=>
 tk uA cs λf1 cs=>
 tk uA cs λf2 cs=>
 tk uA cs λf3 cs=>
 aB cs (⟨⟨f0,f1⟩,f2,f3⟩:Ad)
def jP(cs:List V):Option Aa:=
 tk (BA .bs) cs λf0 cs=>
 tk (BA .byte) cs λf1 cs=>
 tk (BA .byte) cs λf2 cs=>
 tk uA cs λf3 cs=>
 tk uA cs λf4 cs=>
 tk (BA .Sess) cs λf5 cs=>
 tk (BA .Credit) cs λf6 cs=>
 aB cs (⟨f0,⟨f1⟩,⟨f2,f3⟩,⟨f4,f5⟩,f6⟩:Aa)
def MP(cs:List V):Option Ac:=
 tk uA cs λf0 cs=>
 tk uA cs λf1 cs=>
 tk (BA .byte) cs λf2 cs=>
 tk (BA .byte) cs λf3 cs=>
 tk uA cs λf4 cs=>
 tk (BA .byte) cs λf5 cs=>
 tk (BA .byte) cs λf6 cs=>
 tk uA cs λf7 cs=>
 tk uA cs λf8 cs=>
 tk (BA .byte) cs λf9 cs=>
 tk (BA .byte) cs λf10 cs=>
 aB cs (⟨f0,f1,f2,f3,f4,f5,f6,f7,f8,f9,f10⟩:Ac)
def OP(cs:List V):Option Aj:=
 tk sE cs λf0 cs=>
 tk uA cs λf1 cs=>
 tk uA cs λf2 cs=>
 tk uA cs λf3 cs=>
 aB cs (⟨f0,f1,f2,f3⟩:Aj)
def hP(cs:List V):Option Ab:=
 tk uA cs λf0 cs=>
 tk (BA .byte) cs λf1 cs=>
 tk uA cs λf2 cs=>
 tk uA cs λf3 cs=>
 tk uA cs λf4 cs=>
 tk (BA .byte) cs λf5 cs=>
 tk uA cs λf6 cs=>
 tk uA cs λf7 cs=>
 tk (BA .byte) cs λf8 cs=>
 tk (BA .byte) cs λf9 cs=>
 tk uA cs λf10 cs=>
 tk (BA .byte) cs λf11 cs=>
 tk (BA .byte) cs λf12 cs=>
 tk uA cs λf13 cs=>
 tk uA cs λf14 cs=>
 tk (BA .byte) cs λf15 cs=>
 tk (BA .byte) cs λf16 cs=>
 tk uA cs λf17 cs=>
 tk (BA .byte) cs λf18 cs=>
 tk uA cs λf19 cs=>
 tk (BA .byte) cs λf20 cs=>
 tk uA cs λf21 cs=>
 tk uA cs λf22 cs=>
 tk (BA .int) cs λf23 cs=>
 tk uA cs λf24 cs=>
 tk (BA .byte) cs λf25 cs=>
 tk uA cs λf26 cs=>
 tk uA cs λf27 cs=>
 tk (BA .int) cs λf28 cs=>
 tk sE cs λf29 cs=>
 tk uA cs λf30 cs=>
 tk (BA .byte) cs λf31 cs=>
 tk sE cs λf32 cs=>
 tk uA cs λf33 cs=>
 tk uA cs λf34 cs=>
 tk uA cs λf35 cs=>
 tk sE cs λf36 cs=>
 tk uA cs λf37 cs=>
 tk uA cs λf38 cs=>
 tk uA cs λf39 cs=>
 tk uA cs λf40 cs=>
 aB cs (⟨f0,f1,⟨f2,f3⟩,f4,f5,⟨f6,f7,f8,f9,f10,f11,f12,f13,f14,f15,f16⟩,⟨f17,f18,⟨f19,f20,f21,⟨f22,f23⟩⟩,⟨f24,f25,f26,⟨f27,f28⟩⟩,f29,f30,f31⟩,⟨f32,f33,f34,f35⟩,⟨f36,f37,f38,f39⟩,f40⟩:Ab)
def pQ(cs:List V):Option As:=
 tk uA cs λf0 cs=>
 tk uA cs λf1 cs=>
 tk uA cs λf2 cs=>
 tk uA cs λf3 cs=>
 tk (BA .byte) cs λf4 cs=>
 aB cs (⟨⟨f0,f1⟩,⟨f2,f3⟩,f4⟩:As)
def ZP(cs:List V):Option Ak:=
 tk uA cs λf0 cs=>
 tk uA cs λf1 cs=>
 tk uA cs λf2 cs=>
 tk (BA .byte) cs λf3 cs=>
 tk (BA .byte) cs λf4 cs=>
 tk uA cs λf5 cs=>
 tk uA cs λf6 cs=>
 tk (BA .byte) cs λf7 cs=>
 tk (BA .byte) cs λf8 cs=>
 tk uA cs λf9 cs=>
 tk uA cs λf10 cs=>
 tk uA cs λf11 cs=>
 aB cs (⟨f0,f1,f2,f3,f4,f5,f6,f7,f8,⟨f9,f10⟩,f11⟩:Ak)
def FP(cs:List V):Option Ag:=
 tk uA cs λf0 cs=>
 tk (BA .Client) cs λf1 cs=>
 tk (BA .bs) cs λf2 cs=>
 tk (BA .byte) cs λf3 cs=>
 tk (BA .byte) cs λf4 cs=>
 tk uA cs λf5 cs=>
 tk uA cs λf6 cs=>
 tk (BA .Sess) cs λf7 cs=>
 tk (BA .Credit) cs λf8 cs=>
 tk (BA .byte) cs λf9 cs=>
 tk uA cs λf10 cs=>
 tk (BA .Wire) cs λf11 cs=>
 tk (BA .bs) cs λf12 cs=>
 tk (BA .Note) cs λf13 cs=>
 aB cs (⟨f0,f1,⟨f2,⟨f3⟩,⟨f4,f5⟩,⟨f6,f7⟩,f8⟩,⟨f9,f10⟩,f11,f12,f13⟩:Ag)
def OQ(cs:List V):Option Bh:=
 tk (BA .byte) cs λf0 cs=>
 tk uA cs λf1 cs=>
 tk uA cs λf2 cs=>
 aB cs (⟨f0,f1,f2⟩:Bh)
def HQ(cs:List V):Option Bb:=
 tk uA cs λf0 cs=>
 tk uA cs λf1 cs=>
 tk uA cs λf2 cs=>
 tk uA cs λf3 cs=>
 tk (BA .byte) cs λf4 cs=>
 tk (BA .byte) cs λf5 cs=>
 tk uA cs λf6 cs=>
 tk (BA .byte) cs λf7 cs=>
 tk (BA .byte) cs λf8 cs=>
 tk uA cs λf9 cs=>
 tk uA cs λf10 cs=>
 tk (BA .byte) cs λf11 cs=>
 tk (BA .byte) cs λf12 cs=>
 aB cs (⟨⟨f0,f1⟩,⟨f2,f3,f4,f5,f6,f7,f8,f9,f10,f11,f12⟩⟩:Bb)
def iQ(cs:List V):Option Bc:=
 tk uA cs λf0 cs=>
 tk EH cs λf1 cs=>
 aB cs (⟨f0,f1⟩:Bc)
def uQ(cs:List V):Option Au:=
 tk (BA .int) cs λf0 cs=>
 tk (BA .byte) cs λf1 cs=>
 tk uA cs λf2 cs=>
 aB cs (⟨f0,f1,f2⟩:Au)
def zB:(t:TN)→List V→Option (El t)
 | .byte,cs=>tk rG cs λb cs=>aB cs b
 | .int,cs=>tk uA cs λn cs=>aB cs n
 | .bool,cs=>tk sE cs λb cs=>aB cs b
 | .str,cs=>tk EH cs λs cs=>aB cs s
 | .bs,cs=>tk (BA .byte) cs λl cs=>aB cs l
 | .Addr,cs=>jQ cs
 | .Op,cs=>WQ cs
 | .Event,cs=>RP cs
 | .Jar,cs=>MQ cs
 | .Dice,cs=>nQ cs
 | .Win,cs=>yQ cs
 | .Ep,cs=>UQ cs
 | .Chan,cs=>sQ cs
 | .Cand,cs=>cQ cs
 | .Paths,cs=>zP cs
 | .Sess,cs=>tQ cs
 | .Tab,cs=>FQ cs
 | .Credit,cs=>mP cs
 | .Server,cs=>jP cs
 | .Frame,cs=>MP cs
 | .Timer,cs=>OP cs
 | .Client,cs=>hP cs
 | .Wire,cs=>pQ cs
 | .Note,cs=>ZP cs
 | .World,cs=>FP cs
 | .Cur,cs=>OQ cs
 | .Out,cs=>HQ cs
 | .Form,cs=>iQ cs
 | .Hash,cs=>uQ cs
inductive dE:V→V→Prop where
 | refl (c:V):dE c c
 | byte (n:Int):dE (.int .u8 n) (.int .u8 ((UInt8.ofNat n.toNat).toNat:Int))
 | nil (t:TN):dE .nil (.sl t [])
inductive ZA:List V→List V→Prop where
 | nil:ZA [] []
 | cons {c d:V} {cs ds:List V}:dE c d→ZA cs ds→ZA (c :: cs) (d :: ds)
def wA{c:V}{n:Int}(h:uA c=some n):dE c (.int .i64 n):=by
 cases c<;>simp[uA]at h
 rename_i k m;cases k<;>simp at h;subst h;exact .refl _
def zgG{c:V}{b:UInt8}(h:rG c=some b):dE c (.int .u8 (b.toNat:Int)):=by
 cases c<;>simp[rG]at h
 rename_i k m;cases k<;>simp at h;subst h;exact .byte _
def ZH{c:V}{b:Bool}(h:sE c=some b):dE c (.bool b):=by
 cases c<;>simp[sE]at h;subst h;exact .refl _
def zbu{c:V}{b:List UInt8}(h:EH c=some b):dE c (.str b):=by
 cases c<;>simp[EH]at h;subst h;exact .refl _
def GA{t:TN}{c:V}{l:List (El t)}(h:BA t c=some l):dE c (.sl t l):=by
 cases c<;>simp[BA]at h
 ·subst h;exact .nil t
 ·obtain⟨rfl,h⟩:=h;simp[TN.cast]at h;subst h;exact .refl _
def jA{α β:Type}{p:V→Option α}{cs:List V}{k:α→List V→Option β}{r:β}(h:tk p cs k=some r):
  ∃c cs' a,cs=c :: cs'∧p c=some a∧k a cs'=some r:=by
 cases cs with
 | nil=>simp[tk]at h
 | cons c cs=>simp only[tk,Option.bind_eq_some_iff]at h;obtain⟨a,h1,h2⟩:=h;exact⟨c,cs,a,rfl,h1,h2⟩
def aC{β:Type}{cs:List V}{r s:β}(h:aB cs r=some s):cs=[]∧r=s:=by
 cases cs<;>simp[aB]at h;exact⟨rfl,h⟩
def zeG{cs:List V}{a:Af}(h:jQ cs=some a):ZA cs (mN a):=by
 unfold jQ at h;obtain⟨c0,cs,f0,rfl,h0,h⟩:=jA h;obtain⟨c1,cs,f1,rfl,h1,h⟩:=jA h;obtain⟨rfl,rfl⟩:=aC h;exact .cons (wA h0) (.cons (wA h1) (.nil))
def zfF{cs:List V}{a:Ei}(h:WQ cs=some a):ZA cs (JT a):=by
 unfold WQ at h;obtain⟨c0,cs,f0,rfl,h0,h⟩:=jA h;obtain⟨c1,cs,f1,rfl,h1,h⟩:=jA h;obtain⟨c2,cs,f2,rfl,h2,h⟩:=jA h;obtain⟨c3,cs,f3,rfl,h3,h⟩:=jA h;obtain⟨rfl,rfl⟩:=aC h;exact .cons (wA h0) (.cons (wA h1) (.cons (wA h2) (.cons (GA h3) (.nil))))
def zeo{cs:List V}{a:Av}(h:RP cs=some a):ZA cs (ES a):=by
 unfold RP at h;obtain⟨c0,cs,f0,rfl,h0,h⟩:=jA h;obtain⟨c1,cs,f1,rfl,h1,h⟩:=jA h;obtain⟨c2,cs,f2,rfl,h2,h⟩:=jA h;obtain⟨c3,cs,f3,rfl,h3,h⟩:=jA h;obtain⟨c4,cs,f4,rfl,h4,h⟩:=jA h;obtain⟨c5,cs,f5,rfl,h5,h⟩:=jA h;obtain⟨rfl,rfl⟩:=aC h;exact .cons (wA h0) (.cons (wA h1) (.cons (wA h2) (.cons (wA h3) (.cons (GA h4) (.cons (GA h5) (.nil))))))
def ze7{cs:List V}{a:Ap}(h:MQ cs=some a):ZA cs (tT a):=by
 unfold MQ at h;obtain⟨c0,cs,f0,rfl,h0,h⟩:=jA h;obtain⟨rfl,rfl⟩:=aC h;exact .cons (GA h0) (.nil)
def zeO{cs:List V}{a:Ae}(h:nQ cs=some a):ZA cs (iT a):=by
 unfold nQ at h;obtain⟨c0,cs,f0,rfl,h0,h⟩:=jA h;obtain⟨c1,cs,f1,rfl,h1,h⟩:=jA h;obtain⟨rfl,rfl⟩:=aC h;exact .cons (GA h0) (.cons (wA h1) (.nil))
def zeZ{cs:List V}{a:Al}(h:yQ cs=some a):ZA cs (pT a):=by
 unfold yQ at h;obtain⟨c0,cs,f0,rfl,h0,h⟩:=jA h;obtain⟨c1,cs,f1,rfl,h1,h⟩:=jA h;obtain⟨rfl,rfl⟩:=aC h;exact .cons (wA h0) (.cons (GA h1) (.nil))
def zfW{cs:List V}{a:Aq}(h:UQ cs=some a):ZA cs (HT a):=by
 unfold UQ at h;obtain⟨c0,cs,f0,rfl,h0,h⟩:=jA h;obtain⟨c1,cs,f1,rfl,h1,h⟩:=jA h;obtain⟨c2,cs,f2,rfl,h2,h⟩:=jA h;obtain⟨c3,cs,f3,rfl,h3,h⟩:=jA h;obtain⟨c4,cs,f4,rfl,h4,h⟩:=jA h;obtain⟨rfl,rfl⟩:=aC h;exact .cons (wA h0) (.cons (GA h1) (.cons (wA h2) (.cons (wA h3) (.cons (GA h4) (.nil)))))
def zeI{cs:List V}{a:Ah}(h:sQ cs=some a):ZA cs (TS a):=by
 unfold sQ at h;obtain⟨c0,cs,f0,rfl,h0,h⟩:=jA h;obtain⟨c1,cs,f1,rfl,h1,h⟩:=jA h;obtain⟨c2,cs,f2,rfl,h2,h⟩:=jA h;obtain⟨c3,cs,f3,rfl,h3,h⟩:=jA h;obtain⟨c4,cs,f4,rfl,h4,h⟩:=jA h;obtain⟨c5,cs,f5,rfl,h5,h⟩:=jA h;obtain⟨c6,cs,f6,rfl,h6,h⟩:=jA h;obtain⟨c7,cs,f7,rfl,h7,h⟩:=jA h;obtain⟨c8,cs,f8,rfl,h8,h⟩:=jA h;obtain⟨c9,cs,f9,rfl,h9,h⟩:=jA h;obtain⟨c10,cs,f10,rfl,iX,h⟩:=jA h;obtain⟨c11,cs,f11,rfl,jX,h⟩:=jA h;obtain⟨XL,cs,f12,rfl,LX,h⟩:=jA h;obtain⟨SN,cs,f13,rfl,dY,h⟩:=jA h;obtain⟨c14,cs,f14,rfl,Q1,h⟩:=jA h;obtain⟨rfl,rfl⟩:=aC h;exact .cons (wA h0) (.cons (GA h1) (.cons (wA h2) (.cons (GA h3) (.cons (wA h4) (.cons (wA h5) (.cons (GA h6) (.cons (wA h7) (.cons (GA h8) (.cons (wA h9) (.cons (wA iX) (.cons (GA jX) (.cons (ZH LX) (.cons (wA dY) (.cons (GA Q1) (.nil)))))))))))))))
def zey{cs:List V}{a:Ar}(h:cQ cs=some a):ZA cs (hQ a):=by
 unfold cQ at h;obtain⟨c0,cs,f0,rfl,h0,h⟩:=jA h;obtain⟨c1,cs,f1,rfl,h1,h⟩:=jA h;obtain⟨c2,cs,f2,rfl,h2,h⟩:=jA h;obtain⟨c3,cs,f3,rfl,h3,h⟩:=jA h;obtain⟨rfl,rfl⟩:=aC h;exact .cons (wA h0) (.cons (wA h1) (.cons (GA h2) (.cons (wA h3) (.nil))))
def zef{cs:List V}{a:Ao}(h:zP cs=some a):ZA cs (tS a):=by
 unfold zP at h;obtain⟨c0,cs,f0,rfl,h0,h⟩:=jA h;obtain⟨c1,cs,f1,rfl,h1,h⟩:=jA h;obtain⟨c2,cs,f2,rfl,h2,h⟩:=jA h;obtain⟨rfl,rfl⟩:=aC h;exact .cons (wA h0) (.cons (wA h1) (.cons (GA h2) (.nil)))
def zew{cs:List V}{a:Am}(h:tQ cs=some a):ZA cs (lQ a):=by
 unfold tQ at h;obtain⟨c0,cs,f0,rfl,h0,h⟩:=jA h;obtain⟨c1,cs,f1,rfl,h1,h⟩:=jA h;obtain⟨c2,cs,f2,rfl,h2,h⟩:=jA h;obtain⟨c3,cs,f3,rfl,h3,h⟩:=jA h;obtain⟨c4,cs,f4,rfl,h4,h⟩:=jA h;obtain⟨c5,cs,f5,rfl,h5,h⟩:=jA h;obtain⟨c6,cs,f6,rfl,h6,h⟩:=jA h;obtain⟨c7,cs,f7,rfl,h7,h⟩:=jA h;obtain⟨c8,cs,f8,rfl,h8,h⟩:=jA h;obtain⟨c9,cs,f9,rfl,h9,h⟩:=jA h;obtain⟨c10,cs,f10,rfl,iX,h⟩:=jA h;obtain⟨c11,cs,f11,rfl,jX,h⟩:=jA h;obtain⟨XL,cs,f12,rfl,LX,h⟩:=jA h;obtain⟨SN,cs,f13,rfl,dY,h⟩:=jA h;obtain⟨c14,cs,f14,rfl,Q1,h⟩:=jA h;obtain⟨c15,cs,f15,rfl,W4,h⟩:=jA h;obtain⟨aU,cs,f16,rfl,R1,h⟩:=jA h;obtain⟨jU,cs,f17,rfl,X4,h⟩:=jA h;obtain⟨gU,cs,f18,rfl,Y4,h⟩:=jA h;obtain⟨cU,cs,f19,rfl,Z4,h⟩:=jA h;obtain⟨SE,cs,f20,rfl,o5,h⟩:=jA h;obtain⟨c21,cs,f21,rfl,s5,h⟩:=jA h;obtain⟨c22,cs,f22,rfl,v5,h⟩:=jA h;obtain⟨c23,cs,f23,rfl,z5,h⟩:=jA h;obtain⟨rfl,rfl⟩:=aC h;exact .cons (wA h0) (.cons (GA h1) (.cons (GA h2) (.cons (wA h3) (.cons (GA h4) (.cons (wA h5) (.cons (GA h6) (.cons (wA h7) (.cons (wA h8) (.cons (GA h9) (.cons (wA iX) (.cons (GA jX) (.cons (wA LX) (.cons (wA dY) (.cons (GA Q1) (.cons (ZH W4) (.cons (wA R1) (.cons (GA X4) (.cons (wA Y4) (.cons (wA Z4) (.cons (GA o5) (.cons (wA s5) (.cons (wA v5) (.cons (ZH z5) (.nil))))))))))))))))))))))))
def zfe{cs:List V}{a:Ai}(h:FQ cs=some a):ZA cs (sT a):=by
 unfold FQ at h;obtain⟨c0,cs,f0,rfl,h0,h⟩:=jA h;obtain⟨c1,cs,f1,rfl,h1,h⟩:=jA h;obtain⟨rfl,rfl⟩:=aC h;exact .cons (wA h0) (.cons (GA h1) (.nil))
def zd7{cs:List V}{a:Ad}(h:mP cs=some a):ZA cs (TK a):=by
 unfold mP at h;obtain⟨c0,cs,f0,rfl,h0,h⟩:=jA h;obtain⟨c1,cs,f1,rfl,h1,h⟩:=jA h;obtain⟨c2,cs,f2,rfl,h2,h⟩:=jA h;obtain⟨c3,cs,f3,rfl,h3,h⟩:=jA h;obtain⟨rfl,rfl⟩:=aC h;exact .cons (wA h0) (.cons (wA h1) (.cons (wA h2) (.cons (wA h3) (.nil))))
def zd1{cs:List V}{a:Aa}(h:jP cs=some a):ZA cs (kS a):=by
 unfold jP at h;obtain⟨c0,cs,f0,rfl,h0,h⟩:=jA h;obtain⟨c1,cs,f1,rfl,h1,h⟩:=jA h;obtain⟨c2,cs,f2,rfl,h2,h⟩:=jA h;obtain⟨c3,cs,f3,rfl,h3,h⟩:=jA h;obtain⟨c4,cs,f4,rfl,h4,h⟩:=jA h;obtain⟨c5,cs,f5,rfl,h5,h⟩:=jA h;obtain⟨c6,cs,f6,rfl,h6,h⟩:=jA h;obtain⟨rfl,rfl⟩:=aC h;exact .cons (GA h0) (.cons (GA h1) (.cons (GA h2) (.cons (wA h3) (.cons (wA h4) (.cons (GA h5) (.cons (GA h6) (.nil)))))))
def zer{cs:List V}{a:Ac}(h:MP cs=some a):ZA cs (vS a):=by
 unfold MP at h;obtain⟨c0,cs,f0,rfl,h0,h⟩:=jA h;obtain⟨c1,cs,f1,rfl,h1,h⟩:=jA h;obtain⟨c2,cs,f2,rfl,h2,h⟩:=jA h;obtain⟨c3,cs,f3,rfl,h3,h⟩:=jA h;obtain⟨c4,cs,f4,rfl,h4,h⟩:=jA h;obtain⟨c5,cs,f5,rfl,h5,h⟩:=jA h;obtain⟨c6,cs,f6,rfl,h6,h⟩:=jA h;obtain⟨c7,cs,f7,rfl,h7,h⟩:=jA h;obtain⟨c8,cs,f8,rfl,h8,h⟩:=jA h;obtain⟨c9,cs,f9,rfl,h9,h⟩:=jA h;obtain⟨c10,cs,f10,rfl,iX,h⟩:=jA h;obtain⟨rfl,rfl⟩:=aC h;exact .cons (wA h0) (.cons (wA h1) (.cons (GA h2) (.cons (GA h3) (.cons (wA h4) (.cons (GA h5) (.cons (GA h6) (.cons (wA h7) (.cons (wA h8) (.cons (GA h9) (.cons (GA iX) (.nil)))))))))))
def zem{cs:List V}{a:Aj}(h:OP cs=some a):ZA cs (kN a):=by
 unfold OP at h;obtain⟨c0,cs,f0,rfl,h0,h⟩:=jA h;obtain⟨c1,cs,f1,rfl,h1,h⟩:=jA h;obtain⟨c2,cs,f2,rfl,h2,h⟩:=jA h;obtain⟨c3,cs,f3,rfl,h3,h⟩:=jA h;obtain⟨rfl,rfl⟩:=aC h;exact .cons (ZH h0) (.cons (wA h1) (.cons (wA h2) (.cons (wA h3) (.nil))))
def zdZ{cs:List V}{a:Ab}(h:hP cs=some a):ZA cs (wP a):=by
 unfold hP at h;obtain⟨c0,cs,f0,rfl,h0,h⟩:=jA h;obtain⟨c1,cs,f1,rfl,h1,h⟩:=jA h;obtain⟨c2,cs,f2,rfl,h2,h⟩:=jA h;obtain⟨c3,cs,f3,rfl,h3,h⟩:=jA h;obtain⟨c4,cs,f4,rfl,h4,h⟩:=jA h;obtain⟨c5,cs,f5,rfl,h5,h⟩:=jA h;obtain⟨c6,cs,f6,rfl,h6,h⟩:=jA h;obtain⟨c7,cs,f7,rfl,h7,h⟩:=jA h;obtain⟨c8,cs,f8,rfl,h8,h⟩:=jA h;obtain⟨c9,cs,f9,rfl,h9,h⟩:=jA h;obtain⟨c10,cs,f10,rfl,iX,h⟩:=jA h;obtain⟨c11,cs,f11,rfl,jX,h⟩:=jA h;obtain⟨XL,cs,f12,rfl,LX,h⟩:=jA h;obtain⟨SN,cs,f13,rfl,dY,h⟩:=jA h;obtain⟨c14,cs,f14,rfl,Q1,h⟩:=jA h;obtain⟨c15,cs,f15,rfl,W4,h⟩:=jA h;obtain⟨aU,cs,f16,rfl,R1,h⟩:=jA h;obtain⟨jU,cs,f17,rfl,X4,h⟩:=jA h;obtain⟨gU,cs,f18,rfl,Y4,h⟩:=jA h;obtain⟨cU,cs,f19,rfl,Z4,h⟩:=jA h;obtain⟨SE,cs,f20,rfl,o5,h⟩:=jA h;obtain⟨c21,cs,f21,rfl,s5,h⟩:=jA h;obtain⟨c22,cs,f22,rfl,v5,h⟩:=jA h;obtain⟨c23,cs,f23,rfl,z5,h⟩:=jA h;obtain⟨c24,cs,f24,rfl,g9,h⟩:=jA h;obtain⟨c25,cs,f25,rfl,i9,h⟩:=jA h;obtain⟨c26,cs,f26,rfl,j9,h⟩:=jA h;obtain⟨c27,cs,f27,rfl,l9,h⟩:=jA h;obtain⟨c28,cs,f28,rfl,m9,h⟩:=jA h;obtain⟨c29,cs,f29,rfl,o9,h⟩:=jA h;obtain⟨c30,cs,f30,rfl,p9,h⟩:=jA h;obtain⟨c31,cs,f31,rfl,K7,h⟩:=jA h;obtain⟨c32,cs,f32,rfl,q9,h⟩:=jA h;obtain⟨c33,cs,f33,rfl,s9,h⟩:=jA h;obtain⟨c34,cs,f34,rfl,t9,h⟩:=jA h;obtain⟨c35,cs,f35,rfl,u9,h⟩:=jA h;obtain⟨c36,cs,f36,rfl,v9,h⟩:=jA h;obtain⟨c37,cs,f37,rfl,z9,h⟩:=jA h;obtain⟨c38,cs,f38,rfl,A9,h⟩:=jA h;obtain⟨c39,cs,f39,rfl,B9,h⟩:=jA h;obtain⟨c40,cs,f40,rfl,C9,h⟩:=jA h;obtain⟨rfl,rfl⟩:=aC h;exact .cons (wA h0) (.cons (GA h1) (.cons (wA h2) (.cons (wA h3) (.cons (wA h4) (.cons (GA h5) (.cons (wA h6) (.cons (wA h7) (.cons (GA h8) (.cons (GA h9) (.cons (wA iX) (.cons (GA jX) (.cons (GA LX) (.cons (wA dY) (.cons (wA Q1) (.cons (GA W4) (.cons (GA R1) (.cons (wA X4) (.cons (GA Y4) (.cons (wA Z4) (.cons (GA o5) (.cons (wA s5) (.cons (wA v5) (.cons (GA z5) (.cons (wA g9) (.cons (GA i9) (.cons (wA j9) (.cons (wA l9) (.cons (GA m9) (.cons (ZH o9) (.cons (wA p9) (.cons (GA K7) (.cons (ZH q9) (.cons (wA s9) (.cons (wA t9) (.cons (wA u9) (.cons (ZH v9) (.cons (wA z9) (.cons (wA A9) (.cons (wA B9) (.cons (wA C9) (.nil)))))))))))))))))))))))))))))))))))))))))
def zeQ{cs:List V}{a:As}(h:pQ cs=some a):ZA cs (bQ a):=by
 unfold pQ at h;obtain⟨c0,cs,f0,rfl,h0,h⟩:=jA h;obtain⟨c1,cs,f1,rfl,h1,h⟩:=jA h;obtain⟨c2,cs,f2,rfl,h2,h⟩:=jA h;obtain⟨c3,cs,f3,rfl,h3,h⟩:=jA h;obtain⟨c4,cs,f4,rfl,h4,h⟩:=jA h;obtain⟨rfl,rfl⟩:=aC h;exact .cons (wA h0) (.cons (wA h1) (.cons (wA h2) (.cons (wA h3) (.cons (GA h4) (.nil)))))
def zeN{cs:List V}{a:Ak}(h:ZP cs=some a):ZA cs (qQ a):=by
 unfold ZP at h;obtain⟨c0,cs,f0,rfl,h0,h⟩:=jA h;obtain⟨c1,cs,f1,rfl,h1,h⟩:=jA h;obtain⟨c2,cs,f2,rfl,h2,h⟩:=jA h;obtain⟨c3,cs,f3,rfl,h3,h⟩:=jA h;obtain⟨c4,cs,f4,rfl,h4,h⟩:=jA h;obtain⟨c5,cs,f5,rfl,h5,h⟩:=jA h;obtain⟨c6,cs,f6,rfl,h6,h⟩:=jA h;obtain⟨c7,cs,f7,rfl,h7,h⟩:=jA h;obtain⟨c8,cs,f8,rfl,h8,h⟩:=jA h;obtain⟨c9,cs,f9,rfl,h9,h⟩:=jA h;obtain⟨c10,cs,f10,rfl,iX,h⟩:=jA h;obtain⟨c11,cs,f11,rfl,jX,h⟩:=jA h;obtain⟨rfl,rfl⟩:=aC h;exact .cons (wA h0) (.cons (wA h1) (.cons (wA h2) (.cons (GA h3) (.cons (GA h4) (.cons (wA h5) (.cons (wA h6) (.cons (GA h7) (.cons (GA h8) (.cons (wA h9) (.cons (wA iX) (.cons (wA jX) (.nil))))))))))))
def zej{cs:List V}{a:Ag}(h:FP cs=some a):ZA cs (nS a):=by
 unfold FP at h;obtain⟨c0,cs,f0,rfl,h0,h⟩:=jA h;obtain⟨c1,cs,f1,rfl,h1,h⟩:=jA h;obtain⟨c2,cs,f2,rfl,h2,h⟩:=jA h;obtain⟨c3,cs,f3,rfl,h3,h⟩:=jA h;obtain⟨c4,cs,f4,rfl,h4,h⟩:=jA h;obtain⟨c5,cs,f5,rfl,h5,h⟩:=jA h;obtain⟨c6,cs,f6,rfl,h6,h⟩:=jA h;obtain⟨c7,cs,f7,rfl,h7,h⟩:=jA h;obtain⟨c8,cs,f8,rfl,h8,h⟩:=jA h;obtain⟨c9,cs,f9,rfl,h9,h⟩:=jA h;obtain⟨c10,cs,f10,rfl,iX,h⟩:=jA h;obtain⟨c11,cs,f11,rfl,jX,h⟩:=jA h;obtain⟨XL,cs,f12,rfl,LX,h⟩:=jA h;obtain⟨SN,cs,f13,rfl,dY,h⟩:=jA h;obtain⟨rfl,rfl⟩:=aC h;exact .cons (wA h0) (.cons (GA h1) (.cons (GA h2) (.cons (GA h3) (.cons (GA h4) (.cons (wA h5) (.cons (wA h6) (.cons (GA h7) (.cons (GA h8) (.cons (GA h9) (.cons (wA iX) (.cons (GA jX) (.cons (GA LX) (.cons (GA dY) (.nil))))))))))))))
def ze5{cs:List V}{a:Bh}(h:OQ cs=some a):ZA cs (oT a):=by
 unfold OQ at h;obtain⟨c0,cs,f0,rfl,h0,h⟩:=jA h;obtain⟨c1,cs,f1,rfl,h1,h⟩:=jA h;obtain⟨c2,cs,f2,rfl,h2,h⟩:=jA h;obtain⟨rfl,rfl⟩:=aC h;exact .cons (GA h0) (.cons (wA h1) (.cons (wA h2) (.nil)))
def zeU{cs:List V}{a:Bb}(h:HQ cs=some a):ZA cs (zT a):=by
 unfold HQ at h;obtain⟨c0,cs,f0,rfl,h0,h⟩:=jA h;obtain⟨c1,cs,f1,rfl,h1,h⟩:=jA h;obtain⟨c2,cs,f2,rfl,h2,h⟩:=jA h;obtain⟨c3,cs,f3,rfl,h3,h⟩:=jA h;obtain⟨c4,cs,f4,rfl,h4,h⟩:=jA h;obtain⟨c5,cs,f5,rfl,h5,h⟩:=jA h;obtain⟨c6,cs,f6,rfl,h6,h⟩:=jA h;obtain⟨c7,cs,f7,rfl,h7,h⟩:=jA h;obtain⟨c8,cs,f8,rfl,h8,h⟩:=jA h;obtain⟨c9,cs,f9,rfl,h9,h⟩:=jA h;obtain⟨c10,cs,f10,rfl,iX,h⟩:=jA h;obtain⟨c11,cs,f11,rfl,jX,h⟩:=jA h;obtain⟨XL,cs,f12,rfl,LX,h⟩:=jA h;obtain⟨rfl,rfl⟩:=aC h;exact .cons (wA h0) (.cons (wA h1) (.cons (wA h2) (.cons (wA h3) (.cons (GA h4) (.cons (GA h5) (.cons (wA h6) (.cons (GA h7) (.cons (GA h8) (.cons (wA h9) (.cons (wA iX) (.cons (GA jX) (.cons (GA LX) (.nil)))))))))))))
def zeL{cs:List V}{a:Bc}(h:iQ cs=some a):ZA cs (lN a):=by
 unfold iQ at h;obtain⟨c0,cs,f0,rfl,h0,h⟩:=jA h;obtain⟨c1,cs,f1,rfl,h1,h⟩:=jA h;obtain⟨rfl,rfl⟩:=aC h;exact .cons (wA h0) (.cons (zbu h1) (.nil))
def zez{cs:List V}{a:Au}(h:uQ cs=some a):ZA cs (QS a):=by
 unfold uQ at h;obtain⟨c0,cs,f0,rfl,h0,h⟩:=jA h;obtain⟨c1,cs,f1,rfl,h1,h⟩:=jA h;obtain⟨c2,cs,f2,rfl,h2,h⟩:=jA h;obtain⟨rfl,rfl⟩:=aC h;exact .cons (GA h0) (.cons (GA h1) (.cons (wA h2) (.nil)))
def LC:(t:TN)→{cs:List V}→{a:El t}→zB t cs=some a→ZA cs (enc t a)
 | .byte,cs,a,h=>by
  obtain⟨c0,cs,f0,rfl,h0,h⟩:=jA (show tk rG cs (λb cs=>aB cs b)=some a from h);obtain⟨rfl,rfl⟩:=aC h;exact .cons (zgG h0) .nil
 | .int,cs,a,h=>by
  obtain⟨c0,cs,f0,rfl,h0,h⟩:=jA (show tk uA cs (λb cs=>aB cs b)=some a from h);obtain⟨rfl,rfl⟩:=aC h;exact .cons (wA h0) .nil
 | .bool,cs,a,h=>by
  obtain⟨c0,cs,f0,rfl,h0,h⟩:=jA (show tk sE cs (λb cs=>aB cs b)=some a from h);obtain⟨rfl,rfl⟩:=aC h;exact .cons (ZH h0) .nil
 | .str,cs,a,h=>by
  obtain⟨c0,cs,f0,rfl,h0,h⟩:=jA (show tk EH cs (λb cs=>aB cs b)=some a from h);obtain⟨rfl,rfl⟩:=aC h;exact .cons (zbu h0) .nil
 | .bs,cs,a,h=>by
  obtain⟨c0,cs,f0,rfl,h0,h⟩:=jA (show tk (BA .byte) cs (λb cs=>aB cs b)=some a from h);obtain⟨rfl,rfl⟩:=aC h;exact .cons (GA h0) .nil
 | .Addr,_,_,h=>zeG h
 | .Op,_,_,h=>zfF h
 | .Event,_,_,h=>zeo h
 | .Jar,_,_,h=>ze7 h
 | .Dice,_,_,h=>zeO h
 | .Win,_,_,h=>zeZ h
 | .Ep,_,_,h=>zfW h
 | .Chan,_,_,h=>zeI h
 | .Cand,_,_,h=>zey h
 | .Paths,_,_,h=>zef h
 | .Sess,_,_,h=>zew h
 | .Tab,_,_,h=>zfe h
 | .Credit,_,_,h=>zd7 h
 | .Server,_,_,h=>zd1 h
 | .Frame,_,_,h=>zer h
 | .Timer,_,_,h=>zem h
 | .Client,_,_,h=>zdZ h
 | .Wire,_,_,h=>zeQ h
 | .Note,_,_,h=>zeN h
 | .World,_,_,h=>zej h
 | .Cur,_,_,h=>ze5 h
 | .Out,_,_,h=>zeU h
 | .Form,_,_,h=>zeL h
 | .Hash,_,_,h=>zez h
def WA(t:TN)(a:El t):(enc t a).length=sz t:=by cases t<;>rfl
def xF(t:TN):0<sz t:=by cases t<;>simp[sz]
def V.leaf:V→Bool
 | .undef | .agg _ | .tup _ | .raw _ _=>false
 | _=>true
def zaH(t:TN)(a:El t):(enc t a).all V.leaf=true:=by cases t<;>rfl
def TN.isAgg:TN→Bool
 | .byte | .int | .bool | .str | .bs=>false
 | _=>true
end Go.D
namespace Go.D
class aA where
 tn:TypeId→Option TN
 base:Nat
end Go.D
namespace Go.D
structure RI where
 b:Nat
 n:Nat
 cap:Nat
 nl:Bool
def ID[aA](w:World)(b:Nat)(t:TN):Prop:=∃c e z,w.heap[b]?=some (.cells c e z)∧aA.tn e=some t
def FB(k:IntKind)(n:Int):Prop:=k.min≤n∧n≤k.max
def iA(b o:Nat):Addr:=⟨b,o,none⟩
variable [aA]
inductive VR(w:World)(ρ:Nat→Option RI)(bad:Nat→Prop):Value→V→Prop where
 | undef (v:Value):VR w ρ bad v .undef
 | bool (b:Bool):VR w ρ bad (.bool b) (.bool b)
 | int (k:IntKind) (n:Int) (h:FB k n):VR w ρ bad (.int k n) (.int k n)
 | str (s:List UInt8) (h:s.length≤maxLen):VR w ρ bad (.string ⟨s.toArray⟩) (.str s)
 | nil:VR w ρ bad (.slice none 0 0) .nil
 | slE (t:TN) (a:Option Addr) (cap:Nat) (h:cap≤maxLen):VR w ρ bad (.slice a 0 cap) (.sl t [])
 | slC (t:TN) (l:List (El t)) (b off cap:Nat) (u:Nat→Nat→Value) (hb:¬bad b) (hl:l.length≤cap) (hc:cap≤maxLen) (he:l≠[]→b<aA.base∨ID w b t)
   (hu:∀i,i<l.length→∀j,j<sz t→w.cell? (iA b (off+i *sz t+j))=some (u i j))
   (hv:∀i (h:i<l.length) j,j<sz t→VR w ρ bad (u i j) ((enc t l[i]).getD j .undef)):
   VR w ρ bad (.slice (some (iA b off)) l.length cap) (.sl t l)
 | ow (r:Nat) (ri:RI) (h:ρ r=some ri) (hn:ri.n≤ri.cap) (hc:ri.cap≤maxLen) (CV:ri.nl=false):VR w ρ bad (.slice (some (iA ri.b 0)) ri.n ri.cap) (.ow r)
 | owN (r:Nat) (ri:RI) (ao:Option Addr) (h:ρ r=some ri) (hn:ri.n=0) (CV:ri.nl=true):VR w ρ bad (.slice ao 0 0) (.ow r)
 | ov (r:Nat) (t:TN) (off len cap:Nat) (a:Option Addr) (ri:RI) (h:ρ r=some ri) (S1:off+len≤ri.n) (ha:len=0∧cap=0∨a=some (iA ri.b (off *sz t))∧ri.nl=false∧off+cap≤ri.cap)
   (hl:len≤cap) (hc:cap≤maxLen):VR w ρ bad (.slice a len cap) (.ov r t off len)
 | bp (r off:Nat) (ri:RI) (h:ρ r=some ri) (CV:ri.nl=false):VR w ρ bad (.pointer (some (iA ri.b off))) (.bp r off)
 | ep (r:Nat) (t:TN) (i off:Nat) (ri:RI) (h:ρ r=some ri) (CV:ri.nl=false):VR w ρ bad (.pointer (some (iA ri.b (i *sz t+off)))) (.ep r t i off)
 | fp (cs:List V) (off b o:Nat) (u:Nat→Value) (h0:0<cs.length) (hb:¬bad b) (hu:∀j,j<cs.length→w.cell? (iA b (o+j))=some (u j))
   (hv:∀j (h:j<cs.length),VR w ρ bad (u j) cs[j]):VR w ρ bad (.pointer (some (iA b (o+off)))) (.fp cs off)
 | fn (f:Nat) (cs:List V) (caps:Array Value) (hs:caps.size=cs.length) (hv:∀j (h:j<cs.length),VR w ρ bad (caps.getD j undef) cs[j]):
   VR w ρ bad (.func (.func f) #[] caps) (.fn f cs)
 | agg (cs:List V) (vs:Array Value) (hs:vs.size=cs.length) (hv:∀j (h:j<cs.length),VR w ρ bad (vs.getD j undef) cs[j]):VR w ρ bad (.agg vs) (.agg cs)
 | tup (cs:List V) (vs:Array Value) (hs:vs.size=cs.length) (hv:∀j (h:j<cs.length),VR w ρ bad (vs.getD j undef) cs[j]):VR w ρ bad (.tuple vs) (.tup cs)
 | nili:VR w ρ bad .nilIface .nili
 | ifc (t:TypeId) (v:Value):VR w ρ bad (.iface t v) (.ifc false)
 | ifn:VR w ρ bad .nilIface (.ifc true)
 | raw (u:Value) (d:V) (h:VR w ρ bad u d):VR w ρ bad u (.raw u d)
inductive TA(S:Nat→Prop):V→Prop where
 | undef:TA S .undef
 | bool (b:Bool):TA S (.bool b)
 | int (k:IntKind) (n:Int):TA S (.int k n)
 | str (s:List UInt8):TA S (.str s)
 | nil:TA S .nil
 | sl (t:TN) (l:List (El t)) (h:∀i (h:i<l.length) j,j<sz t→TA S ((enc t l[i]).getD j .undef)):TA S (.sl t l)
 | ow (r:Nat) (h:S r):TA S (.ow r)
 | ov (r:Nat) (t:TN) (off len:Nat) (h:S r):TA S (.ov r t off len)
 | bp (r off:Nat) (h:S r):TA S (.bp r off)
 | ep (r:Nat) (t:TN) (i off:Nat) (h:S r):TA S (.ep r t i off)
 | fp (cs:List V) (off:Nat) (h:∀j (h:j<cs.length),TA S cs[j]):TA S (.fp cs off)
 | fn (f:Nat) (cs:List V) (h:∀j (h:j<cs.length),TA S cs[j]):TA S (.fn f cs)
 | agg (cs:List V) (h:∀j (h:j<cs.length),TA S cs[j]):TA S (.agg cs)
 | tup (cs:List V) (h:∀j (h:j<cs.length),TA S cs[j]):TA S (.tup cs)
 | nili:TA S .nili
 | ifc (b:Bool):TA S (.ifc b)
 | raw (u:Value) (d:V) (h:TA S d):TA S (.raw u d)
section
variable {w:World} {ρ:Nat→Option RI} {bad:Nat→Prop} {v:Value} {d:V}
def VR.refs(h:VR w ρ bad v d):TA (λr=>ρ r≠none) d:=by
 induction h with
 | undef=>exact .undef
 | bool=>exact .bool _
 | int=>exact .int _ _
 | str=>exact .str _
 | nil=>exact .nil
 | slE=>exact .sl _ _ (λi h=>by simp at h)
 | slC t l b off cap u hb hl hc he hu hv ih=>exact .sl _ _ ih
 | ow r ri h=>exact .ow _ (by simp[h])
 | owN r ri ao h=>exact .ow _ (by simp[h])
 | ov r t off len cap a ri h=>exact .ov _ _ _ _ (by simp[h])
 | bp r off ri h=>exact .bp _ _ (by simp[h])
 | ep r t i off ri h=>exact .ep _ _ _ _ (by simp[h])
 | fp cs off b o u h0 hb hu hv ih=>exact .fp _ _ ih
 | fn f cs caps hs hv ih=>exact .fn _ _ ih
 | agg cs vs hs hv ih=>exact .agg _ ih
 | tup cs vs hs hv ih=>exact .tup _ ih
 | nili=>exact .nili
 | ifc=>exact .ifc _
 | ifn=>exact .ifc _
 | raw u d h ih=>exact .raw _ _ ih
omit [aA]in
def QH{w:World}{b o:Nat}{u:Value}(h:w.cell? (iA b o)=some u):b<w.heap.size:=by
 rcases Nat.lt_or_ge b w.heap.size with h' | h'
 ·exact h'
 ·simp[World.cell?,iA,Array.getElem?_eq_none h']at h
omit [aA]in
def gD{w w':World}{b o:Nat}(h:w'.heap[b]?=w.heap[b]?):w'.cell? (iA b o)=w.cell? (iA b o):=by
 simp[World.cell?,iA,h]
def ID.same{w w':World}{b:Nat}{t:TN}(h:ID w b t)(hw:w'.heap[b]?=w.heap[b]?):ID w' b t:=by
 obtain⟨c,e,z,h1,h2⟩:=h;exact⟨c,e,z,hw.trans h1,h2⟩
def ID.uniq{w:World}{b:Nat}{t t':TN}(h:ID w b t)(h':ID w b t'):t=t':=by
 obtain⟨c,e,z,h1,h2⟩:=h;obtain⟨c',e',z',L7,M7⟩:=h';rw[h1]at L7;cases L7;rw[h2]at M7;exact Option.some.inj M7
def VR.keep{w':World}{ρ':Nat→Option RI}{bad':Nat→Prop}{S:Nat→Prop}(h:VR w ρ bad v d)(hS:TA S d)
  (hρ:∀r ri,S r→ρ r=some ri→ρ' r=some ri)
  (hw:∀b,¬bad b→b<w.heap.size→w'.heap[b]?=w.heap[b]?) (hb:∀b,bad' b→bad b∨w.heap.size≤b):VR w' ρ' bad' v d:=by
 have uV:∀b,¬bad b→b<w.heap.size→¬bad' b:=λb h1 h2 h3=>(hb b h3).elim h1 (by omega);induction h with
 | undef=>exact .undef _
 | bool=>exact .bool _
 | int k n h=>exact .int _ _ h
 | str s h=>exact .str _ h
 | nil=>exact .nil
 | slE t a cap h=>exact .slE _ _ _ h
 | slC t l b off cap u hb hl hc he hu hv ih=>
  by_cases SW:l.length=0
  ·obtain rfl:l=[]:=List.eq_nil_of_length_eq_zero SW;exact .slE _ _ _ hc
  ·have vV:b<w.heap.size:=QH (hu 0 (by omega) 0 (xF t));cases hS with
   | sl _ _ hS=>
   exact .slC t l b off cap u (uV b hb vV) hl hc (λh0=>(he h0).imp id λk=>k.same (hw b hb vV)) (λi h j hj=>(gD (hw b hb vV)).trans (hu i h j hj)) (λi h j hj=>ih i h j hj (hS i h j hj))
 | ow r ri h hn hc CV=>cases hS with | ow _ hs=>exact .ow _ _ (hρ _ _ hs h) hn hc CV
 | owN r ri ao h hn CV=>cases hS with | ow _ hs=>exact .owN _ _ _ (hρ _ _ hs h) hn CV
 | ov r t off len cap a ri h S1 ha hl hc=>cases hS with | ov _ _ _ _ hs=>exact .ov _ _ _ _ _ _ _ (hρ _ _ hs h) S1 ha hl hc
 | bp r off ri h CV=>cases hS with | bp _ _ hs=>exact .bp _ _ _ (hρ _ _ hs h) CV
 | ep r t i off ri h CV=>cases hS with | ep _ _ _ _ hs=>exact .ep _ _ _ _ _ (hρ _ _ hs h) CV
 | fp cs off b o u h0 hb hu hv ih=>
  cases hS with
  | fp _ _ hS=>
  have vV:b<w.heap.size:=QH (hu 0 h0);exact .fp cs off b o u h0 (uV b hb vV) (λj hj=>(gD (hw b hb vV)).trans (hu j hj)) (λj hj=>ih j hj (hS j hj))
 | fn f cs caps hs hv ih=>cases hS with | fn _ _ hS=>exact .fn _ _ _ hs (λj hj=>ih j hj (hS j hj))
 | agg cs vs hs hv ih=>cases hS with | agg _ hS=>exact .agg _ _ hs (λj hj=>ih j hj (hS j hj))
 | tup cs vs hs hv ih=>cases hS with | tup _ hS=>exact .tup _ _ hs (λj hj=>ih j hj (hS j hj))
 | nili=>exact .nili
 | ifc=>exact .ifc _ _
 | ifn=>exact .ifn
 | raw u d h ih=>cases hS with | raw _ _ hS=>exact .raw _ _ (ih hS)
def EB(w:World)(b:Nat):Prop:=∃o u,w.cell? (iA b o)=some u
def VR.keep2{w':World}{ρ':Nat→Option RI}{bad':Nat→Prop}{S:Nat→Prop}(h:VR w ρ bad v d)(hS:TA S d)
  (hρ:∀r ri,S r→ρ r=some ri→ρ' r=some ri)
  (hw:∀b,¬bad b→EB w b→w'.heap[b]?=w.heap[b]?) (hb:∀b,EB w b→bad' b→bad b):VR w' ρ' bad' v d:=by
 have uV:∀b,¬bad b→EB w b→¬bad' b:=λb h1 h2 h3=>h1 (hb b h2 h3);induction h with
 | undef=>exact .undef _
 | bool=>exact .bool _
 | int k n h=>exact .int _ _ h
 | str s h=>exact .str _ h
 | nil=>exact .nil
 | slE t a cap h=>exact .slE _ _ _ h
 | slC t l b off cap u hb hl hc he hu hv ih=>
  by_cases SW:l.length=0
  ·obtain rfl:l=[]:=List.eq_nil_of_length_eq_zero SW;exact .slE _ _ _ hc
  ·have vV:EB w b:=⟨_,_,hu 0 (by omega) 0 (xF t)⟩;cases hS with
   | sl _ _ hS=>
   exact .slC t l b off cap u (uV b hb vV) hl hc (λh0=>(he h0).imp id λk=>k.same (hw b hb vV)) (λi h j hj=>(gD (hw b hb vV)).trans (hu i h j hj)) (λi h j hj=>ih i h j hj (hS i h j hj))
 | ow r ri h hn hc CV=>cases hS with | ow _ hs=>exact .ow _ _ (hρ _ _ hs h) hn hc CV
 | owN r ri ao h hn CV=>cases hS with | ow _ hs=>exact .owN _ _ _ (hρ _ _ hs h) hn CV
 | ov r t off len cap a ri h S1 ha hl hc=>cases hS with | ov _ _ _ _ hs=>exact .ov _ _ _ _ _ _ _ (hρ _ _ hs h) S1 ha hl hc
 | bp r off ri h CV=>cases hS with | bp _ _ hs=>exact .bp _ _ _ (hρ _ _ hs h) CV
 | ep r t i off ri h CV=>cases hS with | ep _ _ _ _ hs=>exact .ep _ _ _ _ _ (hρ _ _ hs h) CV
 | fp cs off b o u h0 hb hu hv ih=>
  cases hS with
  | fp _ _ hS=>
  have vV:EB w b:=⟨_,_,hu 0 h0⟩;exact .fp cs off b o u h0 (uV b hb vV) (λj hj=>(gD (hw b hb vV)).trans (hu j hj)) (λj hj=>ih j hj (hS j hj))
 | fn f cs caps hs hv ih=>cases hS with | fn _ _ hS=>exact .fn _ _ _ hs (λj hj=>ih j hj (hS j hj))
 | agg cs vs hs hv ih=>cases hS with | agg _ hS=>exact .agg _ _ hs (λj hj=>ih j hj (hS j hj))
 | tup cs vs hs hv ih=>cases hS with | tup _ hS=>exact .tup _ _ hs (λj hj=>ih j hj (hS j hj))
 | nili=>exact .nili
 | ifc=>exact .ifc _ _
 | ifn=>exact .ifn
 | raw u d h ih=>cases hS with | raw _ _ hS=>exact .raw _ _ (ih hS)
omit [aA]in
def TA.all{S:Nat→Prop}{d:V}(hS:∀r,S r)(h:TA (λr=>ρ r≠none) d):TA S d:=by
 induction h with
 | undef=>exact .undef
 | bool=>exact .bool _
 | int=>exact .int _ _
 | str=>exact .str _
 | nil=>exact .nil
 | sl t l h ih=>exact .sl _ _ ih
 | ow r h=>exact .ow _ (hS _)
 | ov r t off len h=>exact .ov _ _ _ _ (hS _)
 | bp r off h=>exact .bp _ _ (hS _)
 | ep r t i off h=>exact .ep _ _ _ _ (hS _)
 | fp cs off h ih=>exact .fp _ _ ih
 | fn f cs h ih=>exact .fn _ _ ih
 | agg cs h ih=>exact .agg _ ih
 | tup cs h ih=>exact .tup _ ih
 | nili=>exact .nili
 | ifc=>exact .ifc _
 | raw u d h ih=>exact .raw _ _ ih
def VR.mono{w':World}{ρ':Nat→Option RI}{bad':Nat→Prop}(h:VR w ρ bad v d)(hρ:∀r ri,ρ r=some ri→ρ' r=some ri)
  (hw:∀b,¬bad b→b<w.heap.size→w'.heap[b]?=w.heap[b]?) (hb:∀b,bad' b→bad b∨w.heap.size≤b):VR w' ρ' bad' v d:=
 h.keep (S:=λ_=>True) (TA.all (λ_=>trivial) h.refs) (λr ri _=>hρ r ri) hw hb
def VR.one(h:VR w ρ bad v d)(hd:d.leaf=true):v.oneCell'=true:=by
 cases h<;>first | rfl | simp[V.leaf]at hd
omit [aA]in
def zf9(n:Int)(h:FB .u8 n):((UInt8.ofNat n.toNat).toNat:Int)=n:=by
 obtain⟨h1,h2⟩:=h;simp[IntKind.min,IntKind.max,IntKind.signed,IntKind.bits]at h1 h2;simp only[UInt8.toNat_ofNat'];omega
def VR.sub{c d:V}(hs:dE c d)(h:VR w ρ bad v c):VR w ρ bad v d:=by
 cases hs with
 | refl=>exact h
 | byte n=>cases h with | int _ _ hf=>rw[zf9 n hf];exact .int _ _ hf
 | nil t=>cases h;exact .slE _ _ _ (Nat.zero_le _)
end
end Go.D
namespace Go.D
def dB(S:Nat→Prop)(a:UInt8)(j:Nat):TA S ((enc .byte a).getD j .undef):=by
 match j with
 | 0=>exact .int _ _
 | n+1=>exact .undef
def FG(S:Nat→Prop)(a:Int)(j:Nat):TA S ((enc .int a).getD j .undef):=by
 match j with
 | 0=>exact .int _ _
 | n+1=>exact .undef
def zgI(S:Nat→Prop)(a:Bool)(j:Nat):TA S ((enc .bool a).getD j .undef):=by
 match j with
 | 0=>exact .bool _
 | n+1=>exact .undef
def zhY(S:Nat→Prop)(a:List UInt8)(j:Nat):TA S ((enc .str a).getD j .undef):=by
 match j with
 | 0=>exact .str _
 | n+1=>exact .undef
def GQ(S:Nat→Prop)(a:List UInt8)(j:Nat):TA S ((enc .bs a).getD j .undef):=by
 match j with
 | 0=>exact .sl _ _ λi h j _=>dB S _ j
 | n+1=>exact .undef
def zgM(S:Nat→Prop)(a:Af)(j:Nat):TA S ((enc .Addr a).getD j .undef):=by
 match j with
 | 0=>exact .int _ _
 | 1=>exact .int _ _
 | n+2=>exact .undef
def zcq(S:Nat→Prop)(a:Ei)(j:Nat):TA S ((enc .Op a).getD j .undef):=by
 match j with
 | 0=>exact .int _ _
 | 1=>exact .int _ _
 | 2=>exact .int _ _
 | 3=>exact .sl _ _ λi h j _=>dB S _ j
 | n+4=>exact .undef
def zfO(S:Nat→Prop)(a:Av)(j:Nat):TA S ((enc .Event a).getD j .undef):=by
 match j with
 | 0=>exact .int _ _
 | 1=>exact .int _ _
 | 2=>exact .int _ _
 | 3=>exact .int _ _
 | 4=>exact .sl _ _ λi h j _=>dB S _ j
 | 5=>exact .sl _ _ λi h j _=>zcq S _ j
 | n+6=>exact .undef
def zh0(S:Nat→Prop)(a:Ap)(j:Nat):TA S ((enc .Jar a).getD j .undef):=by
 match j with
 | 0=>exact .sl _ _ λi h j _=>dB S _ j
 | n+1=>exact .undef
def zgV(S:Nat→Prop)(a:Ae)(j:Nat):TA S ((enc .Dice a).getD j .undef):=by
 match j with
 | 0=>exact .sl _ _ λi h j _=>dB S _ j
 | 1=>exact .int _ _
 | n+2=>exact .undef
def zii(S:Nat→Prop)(a:Al)(j:Nat):TA S ((enc .Win a).getD j .undef):=by
 match j with
 | 0=>exact .int _ _
 | 1=>exact .sl _ _ λi h j _=>FG S _ j
 | n+2=>exact .undef
def ziF(S:Nat→Prop)(a:Aq)(j:Nat):TA S ((enc .Ep a).getD j .undef):=by
 match j with
 | 0=>exact .int _ _
 | 1=>exact .sl _ _ λi h j _=>dB S _ j
 | 2=>exact .int _ _
 | 3=>exact .int _ _
 | 4=>exact .sl _ _ λi h j _=>FG S _ j
 | n+5=>exact .undef
def zhh(S:Nat→Prop)(a:Ah)(j:Nat):TA S ((enc .Chan a).getD j .undef):=by
 match j with
 | 0=>exact .int _ _
 | 1=>exact .sl _ _ λi h j _=>dB S _ j
 | 2=>exact .int _ _
 | 3=>exact .sl _ _ λi h j _=>dB S _ j
 | 4=>exact .int _ _
 | 5=>exact .int _ _
 | 6=>exact .sl _ _ λi h j _=>FG S _ j
 | 7=>exact .int _ _
 | 8=>exact .sl _ _ λi h j _=>dB S _ j
 | 9=>exact .int _ _
 | 10=>exact .int _ _
 | 11=>exact .sl _ _ λi h j _=>FG S _ j
 | 12=>exact .bool _
 | 13=>exact .int _ _
 | 14=>exact .sl _ _ λi h j _=>dB S _ j
 | n+15=>exact .undef
def GS(S:Nat→Prop)(a:Ar)(j:Nat):TA S ((enc .Cand a).getD j .undef):=by
 match j with
 | 0=>exact .int _ _
 | 1=>exact .int _ _
 | 2=>exact .sl _ _ λi h j _=>dB S _ j
 | 3=>exact .int _ _
 | n+4=>exact .undef
def zf3(S:Nat→Prop)(a:Ao)(j:Nat):TA S ((enc .Paths a).getD j .undef):=by
 match j with
 | 0=>exact .int _ _
 | 1=>exact .int _ _
 | 2=>exact .sl _ _ λi h j _=>GS S _ j
 | n+3=>exact .undef
def IP(S:Nat→Prop)(a:Am)(j:Nat):TA S ((enc .Sess a).getD j .undef):=by
 match j with
 | 0=>exact .int _ _
 | 1=>exact .sl _ _ λi h j _=>dB S _ j
 | 2=>exact .sl _ _ λi h j _=>dB S _ j
 | 3=>exact .int _ _
 | 4=>exact .sl _ _ λi h j _=>dB S _ j
 | 5=>exact .int _ _
 | 6=>exact .sl _ _ λi h j _=>dB S _ j
 | 7=>exact .int _ _
 | 8=>exact .int _ _
 | 9=>exact .sl _ _ λi h j _=>FG S _ j
 | 10=>exact .int _ _
 | 11=>exact .sl _ _ λi h j _=>dB S _ j
 | 12=>exact .int _ _
 | 13=>exact .int _ _
 | 14=>exact .sl _ _ λi h j _=>FG S _ j
 | 15=>exact .bool _
 | 16=>exact .int _ _
 | 17=>exact .sl _ _ λi h j _=>dB S _ j
 | 18=>exact .int _ _
 | 19=>exact .int _ _
 | 20=>exact .sl _ _ λi h j _=>GS S _ j
 | 21=>exact .int _ _
 | 22=>exact .int _ _
 | 23=>exact .bool _
 | n+24=>exact .undef
def zhQ(S:Nat→Prop)(a:Ai)(j:Nat):TA S ((enc .Tab a).getD j .undef):=by
 match j with
 | 0=>exact .int _ _
 | 1=>exact .sl _ _ λi h j _=>IP S _ j
 | n+2=>exact .undef
def QR(S:Nat→Prop)(a:Ad)(j:Nat):TA S ((enc .Credit a).getD j .undef):=by
 match j with
 | 0=>exact .int _ _
 | 1=>exact .int _ _
 | 2=>exact .int _ _
 | 3=>exact .int _ _
 | n+4=>exact .undef
def zfd(S:Nat→Prop)(a:Aa)(j:Nat):TA S ((enc .Server a).getD j .undef):=by
 match j with
 | 0=>exact .sl _ _ λi h j _=>GQ S _ j
 | 1=>exact .sl _ _ λi h j _=>dB S _ j
 | 2=>exact .sl _ _ λi h j _=>dB S _ j
 | 3=>exact .int _ _
 | 4=>exact .int _ _
 | 5=>exact .sl _ _ λi h j _=>IP S _ j
 | 6=>exact .sl _ _ λi h j _=>QR S _ j
 | n+7=>exact .undef
def zfr(S:Nat→Prop)(a:Ac)(j:Nat):TA S ((enc .Frame a).getD j .undef):=by
 match j with
 | 0=>exact .int _ _
 | 1=>exact .int _ _
 | 2=>exact .sl _ _ λi h j _=>dB S _ j
 | 3=>exact .sl _ _ λi h j _=>dB S _ j
 | 4=>exact .int _ _
 | 5=>exact .sl _ _ λi h j _=>dB S _ j
 | 6=>exact .sl _ _ λi h j _=>dB S _ j
 | 7=>exact .int _ _
 | 8=>exact .int _ _
 | 9=>exact .sl _ _ λi h j _=>dB S _ j
 | 10=>exact .sl _ _ λi h j _=>dB S _ j
 | n+11=>exact .undef
def zgg(S:Nat→Prop)(a:Aj)(j:Nat):TA S ((enc .Timer a).getD j .undef):=by
 match j with
 | 0=>exact .bool _
 | 1=>exact .int _ _
 | 2=>exact .int _ _
 | 3=>exact .int _ _
 | n+4=>exact .undef
def bV(S:Nat→Prop)(a:Ab)(j:Nat):TA S ((enc .Client a).getD j .undef):=by
 match j with
 | 0=>exact .int _ _
 | 1=>exact .sl _ _ λi h j _=>dB S _ j
 | 2=>exact .int _ _
 | 3=>exact .int _ _
 | 4=>exact .int _ _
 | 5=>exact .sl _ _ λi h j _=>dB S _ j
 | 6=>exact .int _ _
 | 7=>exact .int _ _
 | 8=>exact .sl _ _ λi h j _=>dB S _ j
 | 9=>exact .sl _ _ λi h j _=>dB S _ j
 | 10=>exact .int _ _
 | 11=>exact .sl _ _ λi h j _=>dB S _ j
 | 12=>exact .sl _ _ λi h j _=>dB S _ j
 | 13=>exact .int _ _
 | 14=>exact .int _ _
 | 15=>exact .sl _ _ λi h j _=>dB S _ j
 | 16=>exact .sl _ _ λi h j _=>dB S _ j
 | 17=>exact .int _ _
 | 18=>exact .sl _ _ λi h j _=>dB S _ j
 | 19=>exact .int _ _
 | 20=>exact .sl _ _ λi h j _=>dB S _ j
 | 21=>exact .int _ _
 | 22=>exact .int _ _
 | 23=>exact .sl _ _ λi h j _=>FG S _ j
 | 24=>exact .int _ _
 | 25=>exact .sl _ _ λi h j _=>dB S _ j
 | 26=>exact .int _ _
 | 27=>exact .int _ _
 | 28=>exact .sl _ _ λi h j _=>FG S _ j
 | 29=>exact .bool _
 | 30=>exact .int _ _
 | 31=>exact .sl _ _ λi h j _=>dB S _ j
 | 32=>exact .bool _
 | 33=>exact .int _ _
 | 34=>exact .int _ _
 | 35=>exact .int _ _
 | 36=>exact .bool _
 | 37=>exact .int _ _
 | 38=>exact .int _ _
 | 39=>exact .int _ _
 | 40=>exact .int _ _
 | n+41=>exact .undef
def zbh(S:Nat→Prop)(a:As)(j:Nat):TA S ((enc .Wire a).getD j .undef):=by
 match j with
 | 0=>exact .int _ _
 | 1=>exact .int _ _
 | 2=>exact .int _ _
 | 3=>exact .int _ _
 | 4=>exact .sl _ _ λi h j _=>dB S _ j
 | n+5=>exact .undef
def zaR(S:Nat→Prop)(a:Ak)(j:Nat):TA S ((enc .Note a).getD j .undef):=by
 match j with
 | 0=>exact .int _ _
 | 1=>exact .int _ _
 | 2=>exact .int _ _
 | 3=>exact .sl _ _ λi h j _=>dB S _ j
 | 4=>exact .sl _ _ λi h j _=>dB S _ j
 | 5=>exact .int _ _
 | 6=>exact .int _ _
 | 7=>exact .sl _ _ λi h j _=>dB S _ j
 | 8=>exact .sl _ _ λi h j _=>dB S _ j
 | 9=>exact .int _ _
 | 10=>exact .int _ _
 | 11=>exact .int _ _
 | n+12=>exact .undef
def zfI(S:Nat→Prop)(a:Ag)(j:Nat):TA S ((enc .World a).getD j .undef):=by
 match j with
 | 0=>exact .int _ _
 | 1=>exact .sl _ _ λi h j _=>bV S _ j
 | 2=>exact .sl _ _ λi h j _=>GQ S _ j
 | 3=>exact .sl _ _ λi h j _=>dB S _ j
 | 4=>exact .sl _ _ λi h j _=>dB S _ j
 | 5=>exact .int _ _
 | 6=>exact .int _ _
 | 7=>exact .sl _ _ λi h j _=>IP S _ j
 | 8=>exact .sl _ _ λi h j _=>QR S _ j
 | 9=>exact .sl _ _ λi h j _=>dB S _ j
 | 10=>exact .int _ _
 | 11=>exact .sl _ _ λi h j _=>zbh S _ j
 | 12=>exact .sl _ _ λi h j _=>GQ S _ j
 | 13=>exact .sl _ _ λi h j _=>zaR S _ j
 | n+14=>exact .undef
def ziu(S:Nat→Prop)(a:Bh)(j:Nat):TA S ((enc .Cur a).getD j .undef):=by
 match j with
 | 0=>exact .sl _ _ λi h j _=>dB S _ j
 | 1=>exact .int _ _
 | 2=>exact .int _ _
 | n+3=>exact .undef
def zhA(S:Nat→Prop)(a:Bb)(j:Nat):TA S ((enc .Out a).getD j .undef):=by
 match j with
 | 0=>exact .int _ _
 | 1=>exact .int _ _
 | 2=>exact .int _ _
 | 3=>exact .int _ _
 | 4=>exact .sl _ _ λi h j _=>dB S _ j
 | 5=>exact .sl _ _ λi h j _=>dB S _ j
 | 6=>exact .int _ _
 | 7=>exact .sl _ _ λi h j _=>dB S _ j
 | 8=>exact .sl _ _ λi h j _=>dB S _ j
 | 9=>exact .int _ _
 | 10=>exact .int _ _
 | 11=>exact .sl _ _ λi h j _=>dB S _ j
 | 12=>exact .sl _ _ λi h j _=>dB S _ j
 | n+13=>exact .undef
def zgp(S:Nat→Prop)(a:Bc)(j:Nat):TA S ((enc .Form a).getD j .undef):=by
 match j with
 | 0=>exact .int _ _
 | 1=>exact .str _
 | n+2=>exact .undef
def zhk(S:Nat→Prop)(a:Au)(j:Nat):TA S ((enc .Hash a).getD j .undef):=by
 match j with
 | 0=>exact .sl _ _ λi h j _=>FG S _ j
 | 1=>exact .sl _ _ λi h j _=>dB S _ j
 | 2=>exact .int _ _
 | n+3=>exact .undef
def oH(S:Nat→Prop)(t:TN)(a:El t)(j:Nat):TA S ((enc t a).getD j .undef):=by
 cases t with
 | byte=>exact dB S a j
 | int=>exact FG S a j
 | bool=>exact zgI S a j
 | str=>exact zhY S a j
 | bs=>exact GQ S a j
 | Addr=>exact zgM S a j
 | Op=>exact zcq S a j
 | Event=>exact zfO S a j
 | Jar=>exact zh0 S a j
 | Dice=>exact zgV S a j
 | Win=>exact zii S a j
 | Ep=>exact ziF S a j
 | Chan=>exact zhh S a j
 | Cand=>exact GS S a j
 | Paths=>exact zf3 S a j
 | Sess=>exact IP S a j
 | Tab=>exact zhQ S a j
 | Credit=>exact QR S a j
 | Server=>exact zfd S a j
 | Frame=>exact zfr S a j
 | Timer=>exact zgg S a j
 | Client=>exact bV S a j
 | Wire=>exact zbh S a j
 | Note=>exact zaR S a j
 | World=>exact zfI S a j
 | Cur=>exact ziu S a j
 | Out=>exact zhA S a j
 | Form=>exact zgp S a j
 | Hash=>exact zhk S a j
end Go.D
