/-
 The data of the program as plain structures; values of the plain semantics; their encoding as flat cells.
-/
import GoSem.Core.Value
import Derived.Calls
import Derived.WalkKit
import GoSem.ClaimData
set_option linter.all false
namespace Go.D
structure Aq where
 Host:Int
 Port:Int
structure Ee where
 Kind:Int
 I:Int
 J:Int
 B:(List UInt8)
structure Au where
 Kind:Int
 I:Int
 J:Int
 N:Int
 B:(List UInt8)
 Ops:(List Ee)
structure Ao where
 Secret:(List UInt8)
structure Ak where
 Seed:(List UInt8)
 N:Int
structure Ap where
 Top:Int
 Bits:(List Int)
structure As where
 N:Int
 Key:(List UInt8)
 Seq:Int
 Win:Ap
structure Al where
 Role:Int
 Sn:(List UInt8)
 Cur:As
 Old:As
 HasOld:Bool
 Until:Int
 Next:(List UInt8)
structure Aj where
 A:Aq
 Draw:(List UInt8)
 Until:Int
structure Ah where
 At:Aq
 Cands:(List Aj)
structure Ag where
 Id:Int
 Cn:(List UInt8)
 Sn:(List UInt8)
 C:Al
 P:Ah
 Tick:Int
 Last:Int
 Dead:Bool
structure Am where
 Cap:Int
 L:(List Ag)
structure Af where
 A:Aq
 Got:Int
 Sent:Int
structure Ad where
 Psks:(List (List UInt8))
 J:Ao
 D:Ak
 T:Am
 Cr:(List Af)
structure Ai where
 Kind:Int
 Id:Int
 Cn:(List UInt8)
 Sn:(List UInt8)
 Tick:Int
 Cookie:(List UInt8)
 Proof:(List UInt8)
 Epoch:Int
 Seq:Int
 Body:(List UInt8)
 Tag:(List UInt8)
structure Ar where
 On:Bool
 Due:Int
 Wait:Int
 Tries:Int
structure Ac where
 Id:Int
 Psk:(List UInt8)
 At:Aq
 St:Int
 Cn:(List UInt8)
 Fin:Ai
 C:Al
 T:Ar
 R:Ar
 Last:Int
structure Ab where
 From:Aq
 To:Aq
 B:(List UInt8)
structure Ae where
 Kind:Int
 Id:Int
 Role:Int
 Cn:(List UInt8)
 Sn:(List UInt8)
 Epoch:Int
 Seq:Int
 Body:(List UInt8)
 Key:(List UInt8)
 A:Aq
 Now:Int
structure Aa where
 Now:Int
 Clients:(List Ac)
 S:Ad
 D:Ak
 Seen:(List Ab)
 Known:(List (List UInt8))
 Notes:(List Ae)
structure Bg where
 b:(List UInt8)
 i:Int
 h:Int
structure Ba where
 To:Aq
 F:Ai
structure Bb where
 kind:Int
 words:(List UInt8)
structure Bc where
 H:(List Int)
 Held:(List UInt8)
 N:Int
end Go.D
namespace Go.D
inductive TN where
 | byte | int | bool | str | bs | Addr | Op | Event | Jar | Dice | Win | Ep | Chan | Cand | Paths | Sess | Tab | Credit | Server | Frame | Timer | Client | Wire | Note | World | Cur | Out | Form | Hash
 deriving DecidableEq
@[reducible] def El:TN→Type
 | .byte=>UInt8 | .int=>Int | .bool=>Bool | .str=>List UInt8 | .bs=>List UInt8
 | .Addr=>Aq | .Op=>Ee | .Event=>Au | .Jar=>Ao | .Dice=>Ak | .Win=>Ap | .Ep=>As | .Chan=>Al | .Cand=>Aj | .Paths=>Ah | .Sess=>Ag | .Tab=>Am | .Credit=>Af | .Server=>Ad | .Frame=>Ai | .Timer=>Ar | .Client=>Ac | .Wire=>Ab | .Note=>Ae | .World=>Aa | .Cur=>Bg | .Out=>Ba | .Form=>Bb | .Hash=>Bc
inductive V where
 | undef
 | bool (b:Bool)
 | int (k:IntKind) (n:Int)
 | str (s:List UInt8)
 | nil
 | sl (t:TN) (l:List (El t))
 | ow (r:Nat)
 | ov (r:Nat) (t:TN) (off len:Nat)
 | bp (r off:Nat)
 | ep (r:Nat) (t:TN) (i off:Nat)
 | fp (cs:List V) (off:Nat)
 | fn (f:Nat) (cs:List V)
 | agg (cs:List V)
 | tup (vs:List V)
 | nili
 | ifc (b:Bool)
 | raw (u:Value) (d:V)
def wK(a:Aq):List V:=[.int .i64 a.Host, .int .i64 a.Port]
def CP(a:Ee):List V:=[.int .i64 a.Kind, .int .i64 a.I, .int .i64 a.J, .sl .byte a.B]
def JO(a:Au):List V:=[.int .i64 a.Kind, .int .i64 a.I, .int .i64 a.J, .int .i64 a.N, .sl .byte a.B, .sl .Op a.Ops]
def oP(a:Ao):List V:=[.sl .byte a.Secret]
def eP(a:Ak):List V:=[.sl .byte a.Seed, .int .i64 a.N]
def kP(a:Ap):List V:=[.int .i64 a.Top, .sl .int a.Bits]
def AP(a:As):List V:=[.int .i64 a.N, .sl .byte a.Key, .int .i64 a.Seq, .int .i64 a.Win.Top, .sl .int a.Win.Bits]
def TO(a:Al):List V:=[.int .i64 a.Role, .sl .byte a.Sn, .int .i64 a.Cur.N, .sl .byte a.Cur.Key, .int .i64 a.Cur.Seq, .int .i64 a.Cur.Win.Top, .sl .int a.Cur.Win.Bits, .int .i64 a.Old.N, .sl .byte a.Old.Key, .int .i64 a.Old.Seq, .int .i64 a.Old.Win.Top, .sl .int a.Old.Win.Bits, .bool a.HasOld, .int .i64 a.Until, .sl .byte a.Next]
def MM(a:Aj):List V:=[.int .i64 a.A.Host, .int .i64 a.A.Port, .sl .byte a.Draw, .int .i64 a.Until]
def AO(a:Ah):List V:=[.int .i64 a.At.Host, .int .i64 a.At.Port, .sl .Cand a.Cands]
def QM(a:Ag):List V:=[.int .i64 a.Id, .sl .byte a.Cn, .sl .byte a.Sn, .int .i64 a.C.Role, .sl .byte a.C.Sn, .int .i64 a.C.Cur.N, .sl .byte a.C.Cur.Key, .int .i64 a.C.Cur.Seq, .int .i64 a.C.Cur.Win.Top, .sl .int a.C.Cur.Win.Bits, .int .i64 a.C.Old.N, .sl .byte a.C.Old.Key, .int .i64 a.C.Old.Seq, .int .i64 a.C.Old.Win.Top, .sl .int a.C.Old.Win.Bits, .bool a.C.HasOld, .int .i64 a.C.Until, .sl .byte a.C.Next, .int .i64 a.P.At.Host, .int .i64 a.P.At.Port, .sl .Cand a.P.Cands, .int .i64 a.Tick, .int .i64 a.Last, .bool a.Dead]
def nP(a:Am):List V:=[.int .i64 a.Cap, .sl .Sess a.L]
def XI(a:Af):List V:=[.int .i64 a.A.Host, .int .i64 a.A.Port, .int .i64 a.Got, .int .i64 a.Sent]
def rO(a:Ad):List V:=[.sl .bs a.Psks, .sl .byte a.J.Secret, .sl .byte a.D.Seed, .int .i64 a.D.N, .int .i64 a.T.Cap, .sl .Sess a.T.L, .sl .Credit a.Cr]
def BO(a:Ai):List V:=[.int .i64 a.Kind, .int .i64 a.Id, .sl .byte a.Cn, .sl .byte a.Sn, .int .i64 a.Tick, .sl .byte a.Cookie, .sl .byte a.Proof, .int .i64 a.Epoch, .int .i64 a.Seq, .sl .byte a.Body, .sl .byte a.Tag]
def uK(a:Ar):List V:=[.bool a.On, .int .i64 a.Due, .int .i64 a.Wait, .int .i64 a.Tries]
def nM(a:Ac):List V:=[.int .i64 a.Id, .sl .byte a.Psk, .int .i64 a.At.Host, .int .i64 a.At.Port, .int .i64 a.St, .sl .byte a.Cn, .int .i64 a.Fin.Kind, .int .i64 a.Fin.Id, .sl .byte a.Fin.Cn, .sl .byte a.Fin.Sn, .int .i64 a.Fin.Tick, .sl .byte a.Fin.Cookie, .sl .byte a.Fin.Proof, .int .i64 a.Fin.Epoch, .int .i64 a.Fin.Seq, .sl .byte a.Fin.Body, .sl .byte a.Fin.Tag, .int .i64 a.C.Role, .sl .byte a.C.Sn, .int .i64 a.C.Cur.N, .sl .byte a.C.Cur.Key, .int .i64 a.C.Cur.Seq, .int .i64 a.C.Cur.Win.Top, .sl .int a.C.Cur.Win.Bits, .int .i64 a.C.Old.N, .sl .byte a.C.Old.Key, .int .i64 a.C.Old.Seq, .int .i64 a.C.Old.Win.Top, .sl .int a.C.Old.Win.Bits, .bool a.C.HasOld, .int .i64 a.C.Until, .sl .byte a.C.Next, .bool a.T.On, .int .i64 a.T.Due, .int .i64 a.T.Wait, .int .i64 a.T.Tries, .bool a.R.On, .int .i64 a.R.Due, .int .i64 a.R.Wait, .int .i64 a.R.Tries, .int .i64 a.Last]
def GM(a:Ab):List V:=[.int .i64 a.From.Host, .int .i64 a.From.Port, .int .i64 a.To.Host, .int .i64 a.To.Port, .sl .byte a.B]
def UM(a:Ae):List V:=[.int .i64 a.Kind, .int .i64 a.Id, .int .i64 a.Role, .sl .byte a.Cn, .sl .byte a.Sn, .int .i64 a.Epoch, .int .i64 a.Seq, .sl .byte a.Body, .sl .byte a.Key, .int .i64 a.A.Host, .int .i64 a.A.Port, .int .i64 a.Now]
def uO(a:Aa):List V:=[.int .i64 a.Now, .sl .Client a.Clients, .sl .bs a.S.Psks, .sl .byte a.S.J.Secret, .sl .byte a.S.D.Seed, .int .i64 a.S.D.N, .int .i64 a.S.T.Cap, .sl .Sess a.S.T.L, .sl .Credit a.S.Cr, .sl .byte a.D.Seed, .int .i64 a.D.N, .sl .Wire a.Seen, .sl .bs a.Known, .sl .Note a.Notes]
def jP(a:Bg):List V:=[.sl .byte a.b, .int .i64 a.i, .int .i64 a.h]
def tP(a:Ba):List V:=[.int .i64 a.To.Host, .int .i64 a.To.Port, .int .i64 a.F.Kind, .int .i64 a.F.Id, .sl .byte a.F.Cn, .sl .byte a.F.Sn, .int .i64 a.F.Tick, .sl .byte a.F.Cookie, .sl .byte a.F.Proof, .int .i64 a.F.Epoch, .int .i64 a.F.Seq, .sl .byte a.F.Body, .sl .byte a.F.Tag]
def vK(a:Bb):List V:=[.int .i64 a.kind, .str a.words]
def QO(a:Bc):List V:=[.sl .int a.H, .sl .byte a.Held, .int .i64 a.N]
def enc:(t:TN)→El t→List V
 | .byte,b=>[.int .u8 (b.toNat:Int)]
 | .int,n=>[.int .i64 n]
 | .bool,b=>[.bool b]
 | .str,s=>[.str s]
 | .bs,l=>[.sl .byte l]
 | .Addr,a=>wK a
 | .Op,a=>CP a
 | .Event,a=>JO a
 | .Jar,a=>oP a
 | .Dice,a=>eP a
 | .Win,a=>kP a
 | .Ep,a=>AP a
 | .Chan,a=>TO a
 | .Cand,a=>MM a
 | .Paths,a=>AO a
 | .Sess,a=>QM a
 | .Tab,a=>nP a
 | .Credit,a=>XI a
 | .Server,a=>rO a
 | .Frame,a=>BO a
 | .Timer,a=>uK a
 | .Client,a=>nM a
 | .Wire,a=>GM a
 | .Note,a=>UM a
 | .World,a=>uO a
 | .Cur,a=>jP a
 | .Out,a=>tP a
 | .Form,a=>vK a
 | .Hash,a=>QO a
def sz:TN→Nat
 | .byte=>1 | .int=>1 | .bool=>1 | .str=>1 | .bs=>1
 | .Addr=>2 | .Op=>4 | .Event=>6 | .Jar=>1 | .Dice=>2 | .Win=>2 | .Ep=>5 | .Chan=>15 | .Cand=>4 | .Paths=>3 | .Sess=>24 | .Tab=>2 | .Credit=>4 | .Server=>7 | .Frame=>11 | .Timer=>4 | .Client=>41 | .Wire=>5 | .Note=>12 | .World=>14 | .Cur=>3 | .Out=>13 | .Form=>2 | .Hash=>3
def sA:V→Option Int | .int .i64 n=>some n | _=>none
def cF:V→Option UInt8 | .int .u8 n=>some (UInt8.ofNat n.toNat) | _=>none
def AD:V→Option Bool | .bool b=>some b | _=>none
def jG:V→Option (List UInt8) | .str s=>some s | _=>none
def TN.cast{s t:TN}(h:s=t)(l:List (El s)):List (El t):=h▸l
def yA(t:TN):V→Option (List (El t))
 | .sl s l=>if h:s=t then some (TN.cast h l)else none
 | .nil=>some []
 | _=>none
def tk{α β:Type}(p:V→Option α)(cs:List V)(k:α→List V→Option β):Option β:=
 match cs with
 | c :: cs=>(p c).bind λa=>k a cs
 | []=>none
def cB{β:Type}(cs:List V)(r:β):Option β:=
 match cs with
 | []=>some r
 | _=>none
def OM(cs:List V):Option Aq:=
 tk sA cs λf0 cs=>
 tk sA cs λf1 cs=>
 cB cs (⟨f0,f1⟩:Aq)
def tN(cs:List V):Option Ee:=
 tk sA cs λf0 cs=>
 tk sA cs λf1 cs=>
 tk sA cs λf2 cs=>
 tk (yA .byte) cs λf3 cs=>
 cB cs (⟨f0,f1,f2,f3⟩:Ee)
def AM(cs:List V):Option Au:=
 tk sA cs λf0 cs=>
 tk sA cs λf1 cs=>
 tk sA cs λf2 cs=>
 tk sA cs λf3 cs=>
 tk (yA .byte) cs λf4 cs=>
 tk (yA .Op) cs λf5 cs=>
 cB cs (⟨f0,f1,f2,f3,f4,f5⟩:Au)
def mN(cs:List V):Option Ao:=
 tk (yA .byte) cs λf0 cs=>
 cB cs (⟨f0⟩:Ao)
def SM(cs:List V):Option Ak:=
 tk (yA .byte) cs λf0 cs=>
 tk sA cs λf1 cs=>
 cB cs (⟨f0,f1⟩:Ak)
def bN(cs:List V):Option Ap:=
 tk sA cs λf0 cs=>
 tk (yA .int) cs λf1 cs=>
 cB cs (⟨f0,f1⟩:Ap)
def rN(cs:List V):Option As:=
 tk sA cs λf0 cs=>
 tk (yA .byte) cs λf1 cs=>
 tk sA cs λf2 cs=>
 tk sA cs λf3 cs=>
 tk (yA .int) cs λf4 cs=>
 cB cs (⟨f0,f1,f2,⟨f3,f4⟩⟩:As)
def WM(cs:List V):Option Al:=
 tk sA cs λf0 cs=>
 tk (yA .byte) cs λf1 cs=>
 tk sA cs λf2 cs=>
 tk (yA .byte) cs λf3 cs=>
 tk sA cs λf4 cs=>
 tk sA cs λf5 cs=>
 tk (yA .int) cs λf6 cs=>
 tk sA cs λf7 cs=>
 tk (yA .byte) cs λf8 cs=>
 tk sA cs λf9 cs=>
 tk sA cs λf10 cs=>
 tk (yA .int) cs λf11 cs=>
 tk AD cs λf12 cs=>
 tk sA cs λf13 cs=>
 tk (yA .byte) cs λf14 cs=>
 cB cs (⟨f0,f1,⟨f2,f3,f4,⟨f5,f6⟩⟩,⟨f7,f8,f9,⟨f10,f11⟩⟩,f12,f13,f14⟩:Al)
def HM(cs:List V):Option Aj:=
 tk sA cs λf0 cs=>
 tk sA cs λf1 cs=>
 tk (yA .byte) cs λf2 cs=>
 tk sA cs λf3 cs=>
 cB cs (⟨⟨f0,f1⟩,f2,f3⟩:Aj)
def oM(cs:List V):Option Ah:=
 tk sA cs λf0 cs=>
 tk sA cs λf1 cs=>
 tk (yA .Cand) cs λf2 cs=>
 cB cs (⟨⟨f0,f1⟩,f2⟩:Ah)
def XM(cs:List V):Option Ag:=
 tk sA cs λf0 cs=>
 tk (yA .byte) cs λf1 cs=>
 tk (yA .byte) cs λf2 cs=>
 tk sA cs λf3 cs=>
 tk (yA .byte) cs λf4 cs=>
 tk sA cs λf5 cs=>
 tk (yA .byte) cs λf6 cs=>
 tk sA cs λf7 cs=>
 tk sA cs λf8 cs=>
 tk (yA .int) cs λf9 cs=>
 tk sA cs λf10 cs=>
 tk (yA .byte) cs λf11 cs=>
 tk sA cs λf12 cs=>
 tk sA cs λf13 cs=>
 tk (yA .int) cs λf14 cs=>
 tk AD cs λf15 cs=>
 tk sA cs λf16 cs=>
 tk (yA .byte) cs λf17 cs=>
 tk sA cs λf18 cs=>
 tk sA cs λf19 cs=>
 tk (yA .Cand) cs λf20 cs=>
 tk sA cs λf21 cs=>
 tk sA cs λf22 cs=>
 tk AD cs λf23 cs=>
 cB cs (⟨f0,f1,f2,⟨f3,f4,⟨f5,f6,f7,⟨f8,f9⟩⟩,⟨f10,f11,f12,⟨f13,f14⟩⟩,f15,f16,f17⟩,⟨⟨f18,f19⟩,f20⟩,f21,f22,f23⟩:Ag)
def iN(cs:List V):Option Am:=
 tk sA cs λf0 cs=>
 tk (yA .Sess) cs λf1 cs=>
 cB cs (⟨f0,f1⟩:Am)
def jM(cs:List V):Option Af:=
 tk sA cs λf0 cs=>
 tk sA cs λf1 cs=>
 tk sA cs λf2 cs=>
 tk sA cs λf3 cs=>
 cB cs (⟨⟨f0,f1⟩,f2,f3⟩:Af)
def fM(cs:List V):Option Ad:=
 tk (yA .bs) cs λf0 cs=>
 tk (yA .byte) cs λf1 cs=>
 tk (yA .byte) cs λf2 cs=>
 tk sA cs λf3 cs=>
 tk sA cs λf4 cs=>
 tk (yA .Sess) cs λf5 cs=>
 tk (yA .Credit) cs λf6 cs=>
 cB cs (⟨f0,⟨f1⟩,⟨f2,f3⟩,⟨f4,f5⟩,f6⟩:Ad)
def xM(cs:List V):Option Ai:=
 tk sA cs λf0 cs=>
 tk sA cs λf1 cs=>
 tk (yA .byte) cs λf2 cs=>
 tk (yA .byte) cs λf3 cs=>
 tk sA cs λf4 cs=>
 tk (yA .byte) cs λf5 cs=>
 tk (yA .byte) cs λf6 cs=>
 tk sA cs λf7 cs=>
 tk sA cs λf8 cs=>
 tk (yA .byte) cs λf9 cs=>
 tk (yA .byte) cs λf10 cs=>
 cB cs (⟨f0,f1,f2,f3,f4,f5,f6,f7,f8,f9,f10⟩:Ai)
def zM(cs:List V):Option Ar:=
 tk AD cs λf0 cs=>
 tk sA cs λf1 cs=>
 tk sA cs λf2 cs=>
 tk sA cs λf3 cs=>
 cB cs (⟨f0,f1,f2,f3⟩:Ar)
def cM(cs:List V):Option Ac:=
 tk sA cs λf0 cs=>
 tk (yA .byte) cs λf1 cs=>
 tk sA cs λf2 cs=>
 tk sA cs λf3 cs=>
 tk sA cs λf4 cs=>
 tk (yA .byte) cs λf5 cs=>
 tk sA cs λf6 cs=>
 tk sA cs λf7 cs=>
 tk (yA .byte) cs λf8 cs=>
 tk (yA .byte) cs λf9 cs=>
 tk sA cs λf10 cs=>
 tk (yA .byte) cs λf11 cs=>
 tk (yA .byte) cs λf12 cs=>
 tk sA cs λf13 cs=>
 tk sA cs λf14 cs=>
 tk (yA .byte) cs λf15 cs=>
 tk (yA .byte) cs λf16 cs=>
 tk sA cs λf17 cs=>
 tk (yA .byte) cs λf18 cs=>
 tk sA cs λf19 cs=>
 tk (yA .byte) cs λf20 cs=>
 tk sA cs λf21 cs=>
 tk sA cs λf22 cs=>
 tk (yA .int) cs λf23 cs=>
 tk sA cs λf24 cs=>
 tk (yA .byte) cs λf25 cs=>
 tk sA cs λf26 cs=>
 tk sA cs λf27 cs=>
 tk (yA .int) cs λf28 cs=>
 tk AD cs λf29 cs=>
 tk sA cs λf30 cs=>
 tk (yA .byte) cs λf31 cs=>
 tk AD cs λf32 cs=>
 tk sA cs λf33 cs=>
 tk sA cs λf34 cs=>
 tk sA cs λf35 cs=>
 tk AD cs λf36 cs=>
 tk sA cs λf37 cs=>
 tk sA cs λf38 cs=>
 tk sA cs λf39 cs=>
 tk sA cs λf40 cs=>
 cB cs (⟨f0,f1,⟨f2,f3⟩,f4,f5,⟨f6,f7,f8,f9,f10,f11,f12,f13,f14,f15,f16⟩,⟨f17,f18,⟨f19,f20,f21,⟨f22,f23⟩⟩,⟨f24,f25,f26,⟨f27,f28⟩⟩,f29,f30,f31⟩,⟨f32,f33,f34,f35⟩,⟨f36,f37,f38,f39⟩,f40⟩:Ac)
def TM(cs:List V):Option Ab:=
 tk sA cs λf0 cs=>
 tk sA cs λf1 cs=>
 tk sA cs λf2 cs=>
 tk sA cs λf3 cs=>
 tk (yA .byte) cs λf4 cs=>
 cB cs (⟨⟨f0,f1⟩,⟨f2,f3⟩,f4⟩:Ab)
def EM(cs:List V):Option Ae:=
 tk sA cs λf0 cs=>
 tk sA cs λf1 cs=>
 tk sA cs λf2 cs=>
 tk (yA .byte) cs λf3 cs=>
 tk (yA .byte) cs λf4 cs=>
 tk sA cs λf5 cs=>
 tk sA cs λf6 cs=>
 tk (yA .byte) cs λf7 cs=>
 tk (yA .byte) cs λf8 cs=>
 tk sA cs λf9 cs=>
 tk sA cs λf10 cs=>
 tk sA cs λf11 cs=>
 cB cs (⟨f0,f1,f2,f3,f4,f5,f6,f7,f8,⟨f9,f10⟩,f11⟩:Ae)
def rM(cs:List V):Option Aa:=
 tk sA cs λf0 cs=>
 tk (yA .Client) cs λf1 cs=>
 tk (yA .bs) cs λf2 cs=>
 tk (yA .byte) cs λf3 cs=>
 tk (yA .byte) cs λf4 cs=>
 tk sA cs λf5 cs=>
 tk sA cs λf6 cs=>
 tk (yA .Sess) cs λf7 cs=>
 tk (yA .Credit) cs λf8 cs=>
 tk (yA .byte) cs λf9 cs=>
 tk sA cs λf10 cs=>
 tk (yA .Wire) cs λf11 cs=>
 tk (yA .bs) cs λf12 cs=>
 tk (yA .Note) cs λf13 cs=>
 cB cs (⟨f0,f1,⟨f2,⟨f3⟩,⟨f4,f5⟩,⟨f6,f7⟩,f8⟩,⟨f9,f10⟩,f11,f12,f13⟩:Aa)
def oN(cs:List V):Option Bg:=
 tk (yA .byte) cs λf0 cs=>
 tk sA cs λf1 cs=>
 tk sA cs λf2 cs=>
 cB cs (⟨f0,f1,f2⟩:Bg)
def kN(cs:List V):Option Ba:=
 tk sA cs λf0 cs=>
 tk sA cs λf1 cs=>
 tk sA cs λf2 cs=>
 tk sA cs λf3 cs=>
 tk (yA .byte) cs λf4 cs=>
 tk (yA .byte) cs λf5 cs=>
 tk sA cs λf6 cs=>
 tk (yA .byte) cs λf7 cs=>
 tk (yA .byte) cs λf8 cs=>
 tk sA cs λf9 cs=>
 tk sA cs λf10 cs=>
 tk (yA .byte) cs λf11 cs=>
 tk (yA .byte) cs λf12 cs=>
 cB cs (⟨⟨f0,f1⟩,⟨f2,f3,f4,f5,f6,f7,f8,f9,f10,f11,f12⟩⟩:Ba)
def NM(cs:List V):Option Bb:=
 tk sA cs λf0 cs=>
 tk jG cs λf1 cs=>
 cB cs (⟨f0,f1⟩:Bb)
def ZM(cs:List V):Option Bc:=
 tk (yA .int) cs λf0 cs=>
 tk (yA .byte) cs λf1 cs=>
 tk sA cs λf2 cs=>
 cB cs (⟨f0,f1,f2⟩:Bc)
def vB:(t:TN)→List V→Option (El t)
 | .byte,cs=>tk cF cs λb cs=>cB cs b
 | .int,cs=>tk sA cs λn cs=>cB cs n
 | .bool,cs=>tk AD cs λb cs=>cB cs b
 | .str,cs=>tk jG cs λs cs=>cB cs s
 | .bs,cs=>tk (yA .byte) cs λl cs=>cB cs l
 | .Addr,cs=>OM cs
 | .Op,cs=>tN cs
 | .Event,cs=>AM cs
 | .Jar,cs=>mN cs
 | .Dice,cs=>SM cs
 | .Win,cs=>bN cs
 | .Ep,cs=>rN cs
 | .Chan,cs=>WM cs
 | .Cand,cs=>HM cs
 | .Paths,cs=>oM cs
 | .Sess,cs=>XM cs
 | .Tab,cs=>iN cs
 | .Credit,cs=>jM cs
 | .Server,cs=>fM cs
 | .Frame,cs=>xM cs
 | .Timer,cs=>zM cs
 | .Client,cs=>cM cs
 | .Wire,cs=>TM cs
 | .Note,cs=>EM cs
 | .World,cs=>rM cs
 | .Cur,cs=>oN cs
 | .Out,cs=>kN cs
 | .Form,cs=>NM cs
 | .Hash,cs=>ZM cs
inductive tD:V→V→Prop where
 | refl (c:V):tD c c
 | byte (n:Int):tD (.int .u8 n) (.int .u8 ((UInt8.ofNat n.toNat).toNat:Int))
 | nil (t:TN):tD .nil (.sl t [])
inductive YA:List V→List V→Prop where
 | nil:YA [] []
 | cons {c d:V} {cs ds:List V}:tD c d→YA cs ds→YA (c :: cs) (d :: ds)
def tA{c:V}{n:Int}(h:sA c=some n):tD c (.int .i64 n):=by
 cases c<;>simp[sA]at h
 rename_i k m;cases k<;>simp at h;subst h;exact .refl _
def zcn{c:V}{b:UInt8}(h:cF c=some b):tD c (.int .u8 (b.toNat:Int)):=by
 cases c<;>simp[cF]at h
 rename_i k m;cases k<;>simp at h;subst h;exact .byte _
def vG{c:V}{b:Bool}(h:AD c=some b):tD c (.bool b):=by
 cases c<;>simp[AD]at h;subst h;exact .refl _
def fS{c:V}{b:List UInt8}(h:jG c=some b):tD c (.str b):=by
 cases c<;>simp[jG]at h;subst h;exact .refl _
def EA{t:TN}{c:V}{l:List (El t)}(h:yA t c=some l):tD c (.sl t l):=by
 cases c<;>simp[yA]at h
 ·subst h;exact .nil t
 ·obtain⟨rfl,h⟩:=h;simp[TN.cast]at h;subst h;exact .refl _
def iA{α β:Type}{p:V→Option α}{cs:List V}{k:α→List V→Option β}{r:β}(h:tk p cs k=some r):
  ∃c cs' a,cs=c :: cs'∧p c=some a∧k a cs'=some r:=by
 cases cs with
 | nil=>simp[tk]at h
 | cons c cs=>simp only[tk,Option.bind_eq_some_iff]at h;obtain⟨a,h1,h2⟩:=h;exact⟨c,cs,a,rfl,h1,h2⟩
def PB{β:Type}{cs:List V}{r s:β}(h:cB cs r=some s):cs=[]∧r=s:=by
 cases cs<;>simp[cB]at h;exact⟨rfl,h⟩
def zaN{cs:List V}{a:Aq}(h:OM cs=some a):YA cs (wK a):=by
 unfold OM at h;obtain⟨c0,cs,f0,rfl,h0,h⟩:=iA h;obtain⟨c1,cs,f1,rfl,h1,h⟩:=iA h;obtain⟨rfl,rfl⟩:=PB h;exact .cons (tA h0) (.cons (tA h1) (.nil))
def zbs{cs:List V}{a:Ee}(h:tN cs=some a):YA cs (CP a):=by
 unfold tN at h;obtain⟨c0,cs,f0,rfl,h0,h⟩:=iA h;obtain⟨c1,cs,f1,rfl,h1,h⟩:=iA h;obtain⟨c2,cs,f2,rfl,h2,h⟩:=iA h;obtain⟨c3,cs,f3,rfl,h3,h⟩:=iA h;obtain⟨rfl,rfl⟩:=PB h;exact .cons (tA h0) (.cons (tA h1) (.cons (tA h2) (.cons (EA h3) (.nil))))
def zaA{cs:List V}{a:Au}(h:AM cs=some a):YA cs (JO a):=by
 unfold AM at h;obtain⟨c0,cs,f0,rfl,h0,h⟩:=iA h;obtain⟨c1,cs,f1,rfl,h1,h⟩:=iA h;obtain⟨c2,cs,f2,rfl,h2,h⟩:=iA h;obtain⟨c3,cs,f3,rfl,h3,h⟩:=iA h;obtain⟨c4,cs,f4,rfl,h4,h⟩:=iA h;obtain⟨c5,cs,f5,rfl,h5,h⟩:=iA h;obtain⟨rfl,rfl⟩:=PB h;exact .cons (tA h0) (.cons (tA h1) (.cons (tA h2) (.cons (tA h3) (.cons (EA h4) (.cons (EA h5) (.nil))))))
def za5{cs:List V}{a:Ao}(h:mN cs=some a):YA cs (oP a):=by
 unfold mN at h;obtain⟨c0,cs,f0,rfl,h0,h⟩:=iA h;obtain⟨rfl,rfl⟩:=PB h;exact .cons (EA h0) (.nil)
def zaT{cs:List V}{a:Ak}(h:SM cs=some a):YA cs (eP a):=by
 unfold SM at h;obtain⟨c0,cs,f0,rfl,h0,h⟩:=iA h;obtain⟨c1,cs,f1,rfl,h1,h⟩:=iA h;obtain⟨rfl,rfl⟩:=PB h;exact .cons (EA h0) (.cons (tA h1) (.nil))
def za0{cs:List V}{a:Ap}(h:bN cs=some a):YA cs (kP a):=by
 unfold bN at h;obtain⟨c0,cs,f0,rfl,h0,h⟩:=iA h;obtain⟨c1,cs,f1,rfl,h1,h⟩:=iA h;obtain⟨rfl,rfl⟩:=PB h;exact .cons (tA h0) (.cons (EA h1) (.nil))
def zbG{cs:List V}{a:As}(h:rN cs=some a):YA cs (AP a):=by
 unfold rN at h;obtain⟨c0,cs,f0,rfl,h0,h⟩:=iA h;obtain⟨c1,cs,f1,rfl,h1,h⟩:=iA h;obtain⟨c2,cs,f2,rfl,h2,h⟩:=iA h;obtain⟨c3,cs,f3,rfl,h3,h⟩:=iA h;obtain⟨c4,cs,f4,rfl,h4,h⟩:=iA h;obtain⟨rfl,rfl⟩:=PB h;exact .cons (tA h0) (.cons (EA h1) (.cons (tA h2) (.cons (tA h3) (.cons (EA h4) (.nil)))))
def zaP{cs:List V}{a:Al}(h:WM cs=some a):YA cs (TO a):=by
 unfold WM at h;obtain⟨c0,cs,f0,rfl,h0,h⟩:=iA h;obtain⟨c1,cs,f1,rfl,h1,h⟩:=iA h;obtain⟨c2,cs,f2,rfl,h2,h⟩:=iA h;obtain⟨c3,cs,f3,rfl,h3,h⟩:=iA h;obtain⟨c4,cs,f4,rfl,h4,h⟩:=iA h;obtain⟨c5,cs,f5,rfl,h5,h⟩:=iA h;obtain⟨c6,cs,f6,rfl,h6,h⟩:=iA h;obtain⟨c7,cs,f7,rfl,h7,h⟩:=iA h;obtain⟨c8,cs,f8,rfl,h8,h⟩:=iA h;obtain⟨c9,cs,f9,rfl,h9,h⟩:=iA h;obtain⟨fD,cs,f10,rfl,tX,h⟩:=iA h;obtain⟨zD,cs,f11,rfl,uX,h⟩:=iA h;obtain⟨CJ,cs,f12,rfl,WX,h⟩:=iA h;obtain⟨AJ,cs,f13,rfl,pY,h⟩:=iA h;obtain⟨c14,cs,f14,rfl,z2,h⟩:=iA h;obtain⟨rfl,rfl⟩:=PB h;exact .cons (tA h0) (.cons (EA h1) (.cons (tA h2) (.cons (EA h3) (.cons (tA h4) (.cons (tA h5) (.cons (EA h6) (.cons (tA h7) (.cons (EA h8) (.cons (tA h9) (.cons (tA tX) (.cons (EA uX) (.cons (vG WX) (.cons (tA pY) (.cons (EA z2) (.nil)))))))))))))))
def zaG{cs:List V}{a:Aj}(h:HM cs=some a):YA cs (MM a):=by
 unfold HM at h;obtain⟨c0,cs,f0,rfl,h0,h⟩:=iA h;obtain⟨c1,cs,f1,rfl,h1,h⟩:=iA h;obtain⟨c2,cs,f2,rfl,h2,h⟩:=iA h;obtain⟨c3,cs,f3,rfl,h3,h⟩:=iA h;obtain⟨rfl,rfl⟩:=PB h;exact .cons (tA h0) (.cons (tA h1) (.cons (EA h2) (.cons (tA h3) (.nil))))
def zas{cs:List V}{a:Ah}(h:oM cs=some a):YA cs (AO a):=by
 unfold oM at h;obtain⟨c0,cs,f0,rfl,h0,h⟩:=iA h;obtain⟨c1,cs,f1,rfl,h1,h⟩:=iA h;obtain⟨c2,cs,f2,rfl,h2,h⟩:=iA h;obtain⟨rfl,rfl⟩:=PB h;exact .cons (tA h0) (.cons (tA h1) (.cons (EA h2) (.nil)))
def zaF{cs:List V}{a:Ag}(h:XM cs=some a):YA cs (QM a):=by
 unfold XM at h;obtain⟨c0,cs,f0,rfl,h0,h⟩:=iA h;obtain⟨c1,cs,f1,rfl,h1,h⟩:=iA h;obtain⟨c2,cs,f2,rfl,h2,h⟩:=iA h;obtain⟨c3,cs,f3,rfl,h3,h⟩:=iA h;obtain⟨c4,cs,f4,rfl,h4,h⟩:=iA h;obtain⟨c5,cs,f5,rfl,h5,h⟩:=iA h;obtain⟨c6,cs,f6,rfl,h6,h⟩:=iA h;obtain⟨c7,cs,f7,rfl,h7,h⟩:=iA h;obtain⟨c8,cs,f8,rfl,h8,h⟩:=iA h;obtain⟨c9,cs,f9,rfl,h9,h⟩:=iA h;obtain⟨fD,cs,f10,rfl,tX,h⟩:=iA h;obtain⟨zD,cs,f11,rfl,uX,h⟩:=iA h;obtain⟨CJ,cs,f12,rfl,WX,h⟩:=iA h;obtain⟨AJ,cs,f13,rfl,pY,h⟩:=iA h;obtain⟨c14,cs,f14,rfl,z2,h⟩:=iA h;obtain⟨c15,cs,f15,rfl,i5,h⟩:=iA h;obtain⟨OP,cs,f16,rfl,o5,h⟩:=iA h;obtain⟨c17,cs,f17,rfl,s5,h⟩:=iA h;obtain⟨oE,cs,f18,rfl,v5,h⟩:=iA h;obtain⟨c19,cs,f19,rfl,z5,h⟩:=iA h;obtain⟨nE,cs,f20,rfl,A5,h⟩:=iA h;obtain⟨c21,cs,f21,rfl,B5,h⟩:=iA h;obtain⟨c22,cs,f22,rfl,C5,h⟩:=iA h;obtain⟨c23,cs,f23,rfl,D5,h⟩:=iA h;obtain⟨rfl,rfl⟩:=PB h;exact .cons (tA h0) (.cons (EA h1) (.cons (EA h2) (.cons (tA h3) (.cons (EA h4) (.cons (tA h5) (.cons (EA h6) (.cons (tA h7) (.cons (tA h8) (.cons (EA h9) (.cons (tA tX) (.cons (EA uX) (.cons (tA WX) (.cons (tA pY) (.cons (EA z2) (.cons (vG i5) (.cons (tA o5) (.cons (EA s5) (.cons (tA v5) (.cons (tA z5) (.cons (EA A5) (.cons (tA B5) (.cons (tA C5) (.cons (vG D5) (.nil))))))))))))))))))))))))
def zba{cs:List V}{a:Am}(h:iN cs=some a):YA cs (nP a):=by
 unfold iN at h;obtain⟨c0,cs,f0,rfl,h0,h⟩:=iA h;obtain⟨c1,cs,f1,rfl,h1,h⟩:=iA h;obtain⟨rfl,rfl⟩:=PB h;exact .cons (tA h0) (.cons (EA h1) (.nil))
def zan{cs:List V}{a:Af}(h:jM cs=some a):YA cs (XI a):=by
 unfold jM at h;obtain⟨c0,cs,f0,rfl,h0,h⟩:=iA h;obtain⟨c1,cs,f1,rfl,h1,h⟩:=iA h;obtain⟨c2,cs,f2,rfl,h2,h⟩:=iA h;obtain⟨c3,cs,f3,rfl,h3,h⟩:=iA h;obtain⟨rfl,rfl⟩:=PB h;exact .cons (tA h0) (.cons (tA h1) (.cons (tA h2) (.cons (tA h3) (.nil))))
def zai{cs:List V}{a:Ad}(h:fM cs=some a):YA cs (rO a):=by
 unfold fM at h;obtain⟨c0,cs,f0,rfl,h0,h⟩:=iA h;obtain⟨c1,cs,f1,rfl,h1,h⟩:=iA h;obtain⟨c2,cs,f2,rfl,h2,h⟩:=iA h;obtain⟨c3,cs,f3,rfl,h3,h⟩:=iA h;obtain⟨c4,cs,f4,rfl,h4,h⟩:=iA h;obtain⟨c5,cs,f5,rfl,h5,h⟩:=iA h;obtain⟨c6,cs,f6,rfl,h6,h⟩:=iA h;obtain⟨rfl,rfl⟩:=PB h;exact .cons (EA h0) (.cons (EA h1) (.cons (EA h2) (.cons (tA h3) (.cons (tA h4) (.cons (EA h5) (.cons (EA h6) (.nil)))))))
def zaC{cs:List V}{a:Ai}(h:xM cs=some a):YA cs (BO a):=by
 unfold xM at h;obtain⟨c0,cs,f0,rfl,h0,h⟩:=iA h;obtain⟨c1,cs,f1,rfl,h1,h⟩:=iA h;obtain⟨c2,cs,f2,rfl,h2,h⟩:=iA h;obtain⟨c3,cs,f3,rfl,h3,h⟩:=iA h;obtain⟨c4,cs,f4,rfl,h4,h⟩:=iA h;obtain⟨c5,cs,f5,rfl,h5,h⟩:=iA h;obtain⟨c6,cs,f6,rfl,h6,h⟩:=iA h;obtain⟨c7,cs,f7,rfl,h7,h⟩:=iA h;obtain⟨c8,cs,f8,rfl,h8,h⟩:=iA h;obtain⟨c9,cs,f9,rfl,h9,h⟩:=iA h;obtain⟨fD,cs,f10,rfl,tX,h⟩:=iA h;obtain⟨rfl,rfl⟩:=PB h;exact .cons (tA h0) (.cons (tA h1) (.cons (EA h2) (.cons (EA h3) (.cons (tA h4) (.cons (EA h5) (.cons (EA h6) (.cons (tA h7) (.cons (tA h8) (.cons (EA h9) (.cons (EA tX) (.nil)))))))))))
def zaz{cs:List V}{a:Ar}(h:zM cs=some a):YA cs (uK a):=by
 unfold zM at h;obtain⟨c0,cs,f0,rfl,h0,h⟩:=iA h;obtain⟨c1,cs,f1,rfl,h1,h⟩:=iA h;obtain⟨c2,cs,f2,rfl,h2,h⟩:=iA h;obtain⟨c3,cs,f3,rfl,h3,h⟩:=iA h;obtain⟨rfl,rfl⟩:=PB h;exact .cons (vG h0) (.cons (tA h1) (.cons (tA h2) (.cons (tA h3) (.nil))))
def zah{cs:List V}{a:Ac}(h:cM cs=some a):YA cs (nM a):=by
 unfold cM at h;obtain⟨c0,cs,f0,rfl,h0,h⟩:=iA h;obtain⟨c1,cs,f1,rfl,h1,h⟩:=iA h;obtain⟨c2,cs,f2,rfl,h2,h⟩:=iA h;obtain⟨c3,cs,f3,rfl,h3,h⟩:=iA h;obtain⟨c4,cs,f4,rfl,h4,h⟩:=iA h;obtain⟨c5,cs,f5,rfl,h5,h⟩:=iA h;obtain⟨c6,cs,f6,rfl,h6,h⟩:=iA h;obtain⟨c7,cs,f7,rfl,h7,h⟩:=iA h;obtain⟨c8,cs,f8,rfl,h8,h⟩:=iA h;obtain⟨c9,cs,f9,rfl,h9,h⟩:=iA h;obtain⟨fD,cs,f10,rfl,tX,h⟩:=iA h;obtain⟨zD,cs,f11,rfl,uX,h⟩:=iA h;obtain⟨CJ,cs,f12,rfl,WX,h⟩:=iA h;obtain⟨AJ,cs,f13,rfl,pY,h⟩:=iA h;obtain⟨c14,cs,f14,rfl,z2,h⟩:=iA h;obtain⟨c15,cs,f15,rfl,i5,h⟩:=iA h;obtain⟨OP,cs,f16,rfl,o5,h⟩:=iA h;obtain⟨c17,cs,f17,rfl,s5,h⟩:=iA h;obtain⟨oE,cs,f18,rfl,v5,h⟩:=iA h;obtain⟨c19,cs,f19,rfl,z5,h⟩:=iA h;obtain⟨nE,cs,f20,rfl,A5,h⟩:=iA h;obtain⟨c21,cs,f21,rfl,B5,h⟩:=iA h;obtain⟨c22,cs,f22,rfl,C5,h⟩:=iA h;obtain⟨c23,cs,f23,rfl,D5,h⟩:=iA h;obtain⟨fU,cs,f24,rfl,Q8,h⟩:=iA h;obtain⟨TT,cs,f25,rfl,R8,h⟩:=iA h;obtain⟨RT,cs,f26,rfl,T8,h⟩:=iA h;obtain⟨NP,cs,f27,rfl,U8,h⟩:=iA h;obtain⟨RP,cs,f28,rfl,V8,h⟩:=iA h;obtain⟨eU,cs,f29,rfl,W8,h⟩:=iA h;obtain⟨kU,cs,f30,rfl,X8,h⟩:=iA h;obtain⟨gU,cs,f31,rfl,Y8,h⟩:=iA h;obtain⟨vU,cs,f32,rfl,Z8,h⟩:=iA h;obtain⟨XT,cs,f33,rfl,d9,h⟩:=iA h;obtain⟨ST,cs,f34,rfl,g9,h⟩:=iA h;obtain⟨MP,cs,f35,rfl,i9,h⟩:=iA h;obtain⟨KP,cs,f36,rfl,j9,h⟩:=iA h;obtain⟨bU,cs,f37,rfl,k9,h⟩:=iA h;obtain⟨dU,cs,f38,rfl,l9,h⟩:=iA h;obtain⟨WT,cs,f39,rfl,m9,h⟩:=iA h;obtain⟨QT,cs,f40,rfl,o9,h⟩:=iA h;obtain⟨rfl,rfl⟩:=PB h;exact .cons (tA h0) (.cons (EA h1) (.cons (tA h2) (.cons (tA h3) (.cons (tA h4) (.cons (EA h5) (.cons (tA h6) (.cons (tA h7) (.cons (EA h8) (.cons (EA h9) (.cons (tA tX) (.cons (EA uX) (.cons (EA WX) (.cons (tA pY) (.cons (tA z2) (.cons (EA i5) (.cons (EA o5) (.cons (tA s5) (.cons (EA v5) (.cons (tA z5) (.cons (EA A5) (.cons (tA B5) (.cons (tA C5) (.cons (EA D5) (.cons (tA Q8) (.cons (EA R8) (.cons (tA T8) (.cons (tA U8) (.cons (EA V8) (.cons (vG W8) (.cons (tA X8) (.cons (EA Y8) (.cons (vG Z8) (.cons (tA d9) (.cons (tA g9) (.cons (tA i9) (.cons (vG j9) (.cons (tA k9) (.cons (tA l9) (.cons (tA m9) (.cons (tA o9) (.nil)))))))))))))))))))))))))))))))))))))))))
def zaU{cs:List V}{a:Ab}(h:TM cs=some a):YA cs (GM a):=by
 unfold TM at h;obtain⟨c0,cs,f0,rfl,h0,h⟩:=iA h;obtain⟨c1,cs,f1,rfl,h1,h⟩:=iA h;obtain⟨c2,cs,f2,rfl,h2,h⟩:=iA h;obtain⟨c3,cs,f3,rfl,h3,h⟩:=iA h;obtain⟨c4,cs,f4,rfl,h4,h⟩:=iA h;obtain⟨rfl,rfl⟩:=PB h;exact .cons (tA h0) (.cons (tA h1) (.cons (tA h2) (.cons (tA h3) (.cons (EA h4) (.nil)))))
def zaS{cs:List V}{a:Ae}(h:EM cs=some a):YA cs (UM a):=by
 unfold EM at h;obtain⟨c0,cs,f0,rfl,h0,h⟩:=iA h;obtain⟨c1,cs,f1,rfl,h1,h⟩:=iA h;obtain⟨c2,cs,f2,rfl,h2,h⟩:=iA h;obtain⟨c3,cs,f3,rfl,h3,h⟩:=iA h;obtain⟨c4,cs,f4,rfl,h4,h⟩:=iA h;obtain⟨c5,cs,f5,rfl,h5,h⟩:=iA h;obtain⟨c6,cs,f6,rfl,h6,h⟩:=iA h;obtain⟨c7,cs,f7,rfl,h7,h⟩:=iA h;obtain⟨c8,cs,f8,rfl,h8,h⟩:=iA h;obtain⟨c9,cs,f9,rfl,h9,h⟩:=iA h;obtain⟨fD,cs,f10,rfl,tX,h⟩:=iA h;obtain⟨zD,cs,f11,rfl,uX,h⟩:=iA h;obtain⟨rfl,rfl⟩:=PB h;exact .cons (tA h0) (.cons (tA h1) (.cons (tA h2) (.cons (EA h3) (.cons (EA h4) (.cons (tA h5) (.cons (tA h6) (.cons (EA h7) (.cons (EA h8) (.cons (tA h9) (.cons (tA tX) (.cons (tA uX) (.nil))))))))))))
def zaw{cs:List V}{a:Aa}(h:rM cs=some a):YA cs (uO a):=by
 unfold rM at h;obtain⟨c0,cs,f0,rfl,h0,h⟩:=iA h;obtain⟨c1,cs,f1,rfl,h1,h⟩:=iA h;obtain⟨c2,cs,f2,rfl,h2,h⟩:=iA h;obtain⟨c3,cs,f3,rfl,h3,h⟩:=iA h;obtain⟨c4,cs,f4,rfl,h4,h⟩:=iA h;obtain⟨c5,cs,f5,rfl,h5,h⟩:=iA h;obtain⟨c6,cs,f6,rfl,h6,h⟩:=iA h;obtain⟨c7,cs,f7,rfl,h7,h⟩:=iA h;obtain⟨c8,cs,f8,rfl,h8,h⟩:=iA h;obtain⟨c9,cs,f9,rfl,h9,h⟩:=iA h;obtain⟨fD,cs,f10,rfl,tX,h⟩:=iA h;obtain⟨zD,cs,f11,rfl,uX,h⟩:=iA h;obtain⟨CJ,cs,f12,rfl,WX,h⟩:=iA h;obtain⟨AJ,cs,f13,rfl,pY,h⟩:=iA h;obtain⟨rfl,rfl⟩:=PB h;exact .cons (tA h0) (.cons (EA h1) (.cons (EA h2) (.cons (EA h3) (.cons (EA h4) (.cons (tA h5) (.cons (tA h6) (.cons (EA h7) (.cons (EA h8) (.cons (EA h9) (.cons (tA tX) (.cons (EA uX) (.cons (EA WX) (.cons (EA pY) (.nil))))))))))))))
def za4{cs:List V}{a:Bg}(h:oN cs=some a):YA cs (jP a):=by
 unfold oN at h;obtain⟨c0,cs,f0,rfl,h0,h⟩:=iA h;obtain⟨c1,cs,f1,rfl,h1,h⟩:=iA h;obtain⟨c2,cs,f2,rfl,h2,h⟩:=iA h;obtain⟨rfl,rfl⟩:=PB h;exact .cons (EA h0) (.cons (tA h1) (.cons (tA h2) (.nil)))
def zaX{cs:List V}{a:Ba}(h:kN cs=some a):YA cs (tP a):=by
 unfold kN at h;obtain⟨c0,cs,f0,rfl,h0,h⟩:=iA h;obtain⟨c1,cs,f1,rfl,h1,h⟩:=iA h;obtain⟨c2,cs,f2,rfl,h2,h⟩:=iA h;obtain⟨c3,cs,f3,rfl,h3,h⟩:=iA h;obtain⟨c4,cs,f4,rfl,h4,h⟩:=iA h;obtain⟨c5,cs,f5,rfl,h5,h⟩:=iA h;obtain⟨c6,cs,f6,rfl,h6,h⟩:=iA h;obtain⟨c7,cs,f7,rfl,h7,h⟩:=iA h;obtain⟨c8,cs,f8,rfl,h8,h⟩:=iA h;obtain⟨c9,cs,f9,rfl,h9,h⟩:=iA h;obtain⟨fD,cs,f10,rfl,tX,h⟩:=iA h;obtain⟨zD,cs,f11,rfl,uX,h⟩:=iA h;obtain⟨CJ,cs,f12,rfl,WX,h⟩:=iA h;obtain⟨rfl,rfl⟩:=PB h;exact .cons (tA h0) (.cons (tA h1) (.cons (tA h2) (.cons (tA h3) (.cons (EA h4) (.cons (EA h5) (.cons (tA h6) (.cons (EA h7) (.cons (EA h8) (.cons (tA h9) (.cons (tA tX) (.cons (EA uX) (.cons (EA WX) (.nil)))))))))))))
def zaR{cs:List V}{a:Bb}(h:NM cs=some a):YA cs (vK a):=by
 unfold NM at h;obtain⟨c0,cs,f0,rfl,h0,h⟩:=iA h;obtain⟨c1,cs,f1,rfl,h1,h⟩:=iA h;obtain⟨rfl,rfl⟩:=PB h;exact .cons (tA h0) (.cons (fS h1) (.nil))
def zaH{cs:List V}{a:Bc}(h:ZM cs=some a):YA cs (QO a):=by
 unfold ZM at h;obtain⟨c0,cs,f0,rfl,h0,h⟩:=iA h;obtain⟨c1,cs,f1,rfl,h1,h⟩:=iA h;obtain⟨c2,cs,f2,rfl,h2,h⟩:=iA h;obtain⟨rfl,rfl⟩:=PB h;exact .cons (EA h0) (.cons (EA h1) (.cons (tA h2) (.nil)))
def wC:(t:TN)→{cs:List V}→{a:El t}→vB t cs=some a→YA cs (enc t a)
 | .byte,cs,a,h=>by
  obtain⟨c0,cs,f0,rfl,h0,h⟩:=iA (show tk cF cs (λb cs=>cB cs b)=some a from h);obtain⟨rfl,rfl⟩:=PB h;exact .cons (zcn h0) .nil
 | .int,cs,a,h=>by
  obtain⟨c0,cs,f0,rfl,h0,h⟩:=iA (show tk sA cs (λb cs=>cB cs b)=some a from h);obtain⟨rfl,rfl⟩:=PB h;exact .cons (tA h0) .nil
 | .bool,cs,a,h=>by
  obtain⟨c0,cs,f0,rfl,h0,h⟩:=iA (show tk AD cs (λb cs=>cB cs b)=some a from h);obtain⟨rfl,rfl⟩:=PB h;exact .cons (vG h0) .nil
 | .str,cs,a,h=>by
  obtain⟨c0,cs,f0,rfl,h0,h⟩:=iA (show tk jG cs (λb cs=>cB cs b)=some a from h);obtain⟨rfl,rfl⟩:=PB h;exact .cons (fS h0) .nil
 | .bs,cs,a,h=>by
  obtain⟨c0,cs,f0,rfl,h0,h⟩:=iA (show tk (yA .byte) cs (λb cs=>cB cs b)=some a from h);obtain⟨rfl,rfl⟩:=PB h;exact .cons (EA h0) .nil
 | .Addr,_,_,h=>zaN h
 | .Op,_,_,h=>zbs h
 | .Event,_,_,h=>zaA h
 | .Jar,_,_,h=>za5 h
 | .Dice,_,_,h=>zaT h
 | .Win,_,_,h=>za0 h
 | .Ep,_,_,h=>zbG h
 | .Chan,_,_,h=>zaP h
 | .Cand,_,_,h=>zaG h
 | .Paths,_,_,h=>zas h
 | .Sess,_,_,h=>zaF h
 | .Tab,_,_,h=>zba h
 | .Credit,_,_,h=>zan h
 | .Server,_,_,h=>zai h
 | .Frame,_,_,h=>zaC h
 | .Timer,_,_,h=>zaz h
 | .Client,_,_,h=>zah h
 | .Wire,_,_,h=>zaU h
 | .Note,_,_,h=>zaS h
 | .World,_,_,h=>zaw h
 | .Cur,_,_,h=>za4 h
 | .Out,_,_,h=>zaX h
 | .Form,_,_,h=>zaR h
 | .Hash,_,_,h=>zaH h
def WA(t:TN)(a:El t):(enc t a).length=sz t:=by cases t<;>rfl
def wE(t:TN):0<sz t:=by cases t<;>simp[sz]
def V.leaf:V→Bool
 | .undef | .agg _ | .tup _ | .raw _ _=>false
 | _=>true
def rR(t:TN)(a:El t):(enc t a).all V.leaf=true:=by cases t<;>rfl
def TN.isAgg:TN→Bool
 | .byte | .int | .bool | .str | .bs=>false
 | _=>true
end Go.D
namespace Go.D
class aA where
 tn:TypeId→Option TN
 base:Nat
end Go.D
namespace Go.D
structure RI where
 b:Nat
 n:Nat
 cap:Nat
 nl:Bool
def dD[aA](w:World)(b:Nat)(t:TN):Prop:=∃c e z,w.heap[b]?=some (.cells c e z)∧aA.tn e=some t
def LB(k:IntKind)(n:Int):Prop:=k.min≤n∧n≤k.max
def gA(b o:Nat):Addr:=⟨b,o,none⟩
variable [aA]
inductive VR(w:World)(ρ:Nat→Option RI)(bad:Nat→Prop):Value→V→Prop where
 | undef (v:Value):VR w ρ bad v .undef
 | bool (b:Bool):VR w ρ bad (.bool b) (.bool b)
 | int (k:IntKind) (n:Int) (h:LB k n):VR w ρ bad (.int k n) (.int k n)
 | str (s:List UInt8) (h:s.length≤maxLen):VR w ρ bad (.string ⟨s.toArray⟩) (.str s)
 | nil:VR w ρ bad (.slice none 0 0) .nil
 | slE (t:TN) (a:Option Addr) (cap:Nat) (h:cap≤maxLen):VR w ρ bad (.slice a 0 cap) (.sl t [])
 | slC (t:TN) (l:List (El t)) (b off cap:Nat) (u:Nat→Nat→Value) (hb:¬bad b) (hl:l.length≤cap) (hc:cap≤maxLen) (he:l≠[]→b<aA.base∨dD w b t)
   (hu:∀i,i<l.length→∀j,j<sz t→w.cell? (gA b (off+i *sz t+j))=some (u i j))
   (hv:∀i (h:i<l.length) j,j<sz t→VR w ρ bad (u i j) ((enc t l[i]).getD j .undef)):
   VR w ρ bad (.slice (some (gA b off)) l.length cap) (.sl t l)
 | ow (r:Nat) (ri:RI) (h:ρ r=some ri) (hn:ri.n≤ri.cap) (hc:ri.cap≤maxLen) (OV:ri.nl=false):VR w ρ bad (.slice (some (gA ri.b 0)) ri.n ri.cap) (.ow r)
 | owN (r:Nat) (ri:RI) (ao:Option Addr) (h:ρ r=some ri) (hn:ri.n=0) (OV:ri.nl=true):VR w ρ bad (.slice ao 0 0) (.ow r)
 | ov (r:Nat) (t:TN) (off len cap:Nat) (a:Option Addr) (ri:RI) (h:ρ r=some ri) (A2:off+len≤ri.n) (ha:len=0∧cap=0∨a=some (gA ri.b (off *sz t))∧ri.nl=false∧off+cap≤ri.cap)
   (hl:len≤cap) (hc:cap≤maxLen):VR w ρ bad (.slice a len cap) (.ov r t off len)
 | bp (r off:Nat) (ri:RI) (h:ρ r=some ri) (OV:ri.nl=false):VR w ρ bad (.pointer (some (gA ri.b off))) (.bp r off)
 | ep (r:Nat) (t:TN) (i off:Nat) (ri:RI) (h:ρ r=some ri) (OV:ri.nl=false):VR w ρ bad (.pointer (some (gA ri.b (i *sz t+off)))) (.ep r t i off)
 | fp (cs:List V) (off b o:Nat) (u:Nat→Value) (h0:0<cs.length) (hb:¬bad b) (hu:∀j,j<cs.length→w.cell? (gA b (o+j))=some (u j))
   (hv:∀j (h:j<cs.length),VR w ρ bad (u j) cs[j]):VR w ρ bad (.pointer (some (gA b (o+off)))) (.fp cs off)
 | fn (f:Nat) (cs:List V) (caps:Array Value) (hs:caps.size=cs.length) (hv:∀j (h:j<cs.length),VR w ρ bad (caps.getD j undef) cs[j]):
   VR w ρ bad (.func (.func f) #[] caps) (.fn f cs)
 | agg (cs:List V) (vs:Array Value) (hs:vs.size=cs.length) (hv:∀j (h:j<cs.length),VR w ρ bad (vs.getD j undef) cs[j]):VR w ρ bad (.agg vs) (.agg cs)
 | tup (cs:List V) (vs:Array Value) (hs:vs.size=cs.length) (hv:∀j (h:j<cs.length),VR w ρ bad (vs.getD j undef) cs[j]):VR w ρ bad (.tuple vs) (.tup cs)
 | nili:VR w ρ bad .nilIface .nili
 | ifc (t:TypeId) (v:Value):VR w ρ bad (.iface t v) (.ifc false)
 | ifn:VR w ρ bad .nilIface (.ifc true)
 | raw (u:Value) (d:V) (h:VR w ρ bad u d):VR w ρ bad u (.raw u d)
inductive TA(S:Nat→Prop):V→Prop where
 | undef:TA S .undef
 | bool (b:Bool):TA S (.bool b)
 | int (k:IntKind) (n:Int):TA S (.int k n)
 | str (s:List UInt8):TA S (.str s)
 | nil:TA S .nil
 | sl (t:TN) (l:List (El t)) (h:∀i (h:i<l.length) j,j<sz t→TA S ((enc t l[i]).getD j .undef)):TA S (.sl t l)
 | ow (r:Nat) (h:S r):TA S (.ow r)
 | ov (r:Nat) (t:TN) (off len:Nat) (h:S r):TA S (.ov r t off len)
 | bp (r off:Nat) (h:S r):TA S (.bp r off)
 | ep (r:Nat) (t:TN) (i off:Nat) (h:S r):TA S (.ep r t i off)
 | fp (cs:List V) (off:Nat) (h:∀j (h:j<cs.length),TA S cs[j]):TA S (.fp cs off)
 | fn (f:Nat) (cs:List V) (h:∀j (h:j<cs.length),TA S cs[j]):TA S (.fn f cs)
 | agg (cs:List V) (h:∀j (h:j<cs.length),TA S cs[j]):TA S (.agg cs)
 | tup (cs:List V) (h:∀j (h:j<cs.length),TA S cs[j]):TA S (.tup cs)
 | nili:TA S .nili
 | ifc (b:Bool):TA S (.ifc b)
 | raw (u:Value) (d:V) (h:TA S d):TA S (.raw u d)
section
variable {w:World} {ρ:Nat→Option RI} {bad:Nat→Prop} {v:Value} {d:V}
def VR.refs(h:VR w ρ bad v d):TA (λr=>ρ r≠none) d:=by
 induction h with
 | undef=>exact .undef
 | bool=>exact .bool _
 | int=>exact .int _ _
 | str=>exact .str _
 | nil=>exact .nil
 | slE=>exact .sl _ _ (λi h=>by simp at h)
 | slC t l b off cap u hb hl hc he hu hv ih=>exact .sl _ _ ih
 | ow r ri h=>exact .ow _ (by simp[h])
 | owN r ri ao h=>exact .ow _ (by simp[h])
 | ov r t off len cap a ri h=>exact .ov _ _ _ _ (by simp[h])
 | bp r off ri h=>exact .bp _ _ (by simp[h])
 | ep r t i off ri h=>exact .ep _ _ _ _ (by simp[h])
 | fp cs off b o u h0 hb hu hv ih=>exact .fp _ _ ih
 | fn f cs caps hs hv ih=>exact .fn _ _ ih
 | agg cs vs hs hv ih=>exact .agg _ ih
 | tup cs vs hs hv ih=>exact .tup _ ih
 | nili=>exact .nili
 | ifc=>exact .ifc _
 | ifn=>exact .ifc _
 | raw u d h ih=>exact .raw _ _ ih
omit [aA]in
def pG{w:World}{b o:Nat}{u:Value}(h:w.cell? (gA b o)=some u):b<w.heap.size:=by
 rcases Nat.lt_or_ge b w.heap.size with h' | h'
 ·exact h'
 ·simp[World.cell?,gA,Array.getElem?_eq_none h']at h
omit [aA]in
def LC{w w':World}{b o:Nat}(h:w'.heap[b]?=w.heap[b]?):w'.cell? (gA b o)=w.cell? (gA b o):=by
 simp[World.cell?,gA,h]
def dD.same{w w':World}{b:Nat}{t:TN}(h:dD w b t)(hw:w'.heap[b]?=w.heap[b]?):dD w' b t:=by
 obtain⟨c,e,z,h1,h2⟩:=h;exact⟨c,e,z,hw.trans h1,h2⟩
def dD.uniq{w:World}{b:Nat}{t t':TN}(h:dD w b t)(h':dD w b t'):t=t':=by
 obtain⟨c,e,z,h1,h2⟩:=h;obtain⟨c',e',z',E7,F7⟩:=h';rw[h1]at E7;cases E7;rw[h2]at F7;exact Option.some.inj F7
def VR.keep{w':World}{ρ':Nat→Option RI}{bad':Nat→Prop}{S:Nat→Prop}(h:VR w ρ bad v d)(hS:TA S d)
  (hρ:∀r ri,S r→ρ r=some ri→ρ' r=some ri)
  (hw:∀b,¬bad b→b<w.heap.size→w'.heap[b]?=w.heap[b]?) (hb:∀b,bad' b→bad b∨w.heap.size≤b):VR w' ρ' bad' v d:=by
 have GV:∀b,¬bad b→b<w.heap.size→¬bad' b:=λb h1 h2 h3=>(hb b h3).elim h1 (by omega);induction h with
 | undef=>exact .undef _
 | bool=>exact .bool _
 | int k n h=>exact .int _ _ h
 | str s h=>exact .str _ h
 | nil=>exact .nil
 | slE t a cap h=>exact .slE _ _ _ h
 | slC t l b off cap u hb hl hc he hu hv ih=>
  by_cases dX:l.length=0
  ·obtain rfl:l=[]:=List.eq_nil_of_length_eq_zero dX;exact .slE _ _ _ hc
  ·have HV:b<w.heap.size:=pG (hu 0 (by omega) 0 (wE t));cases hS with
   | sl _ _ hS=>
   exact .slC t l b off cap u (GV b hb HV) hl hc (λh0=>(he h0).imp id λk=>k.same (hw b hb HV)) (λi h j hj=>(LC (hw b hb HV)).trans (hu i h j hj)) (λi h j hj=>ih i h j hj (hS i h j hj))
 | ow r ri h hn hc OV=>cases hS with | ow _ hs=>exact .ow _ _ (hρ _ _ hs h) hn hc OV
 | owN r ri ao h hn OV=>cases hS with | ow _ hs=>exact .owN _ _ _ (hρ _ _ hs h) hn OV
 | ov r t off len cap a ri h A2 ha hl hc=>cases hS with | ov _ _ _ _ hs=>exact .ov _ _ _ _ _ _ _ (hρ _ _ hs h) A2 ha hl hc
 | bp r off ri h OV=>cases hS with | bp _ _ hs=>exact .bp _ _ _ (hρ _ _ hs h) OV
 | ep r t i off ri h OV=>cases hS with | ep _ _ _ _ hs=>exact .ep _ _ _ _ _ (hρ _ _ hs h) OV
 | fp cs off b o u h0 hb hu hv ih=>
  cases hS with
  | fp _ _ hS=>
  have HV:b<w.heap.size:=pG (hu 0 h0);exact .fp cs off b o u h0 (GV b hb HV) (λj hj=>(LC (hw b hb HV)).trans (hu j hj)) (λj hj=>ih j hj (hS j hj))
 | fn f cs caps hs hv ih=>cases hS with | fn _ _ hS=>exact .fn _ _ _ hs (λj hj=>ih j hj (hS j hj))
 | agg cs vs hs hv ih=>cases hS with | agg _ hS=>exact .agg _ _ hs (λj hj=>ih j hj (hS j hj))
 | tup cs vs hs hv ih=>cases hS with | tup _ hS=>exact .tup _ _ hs (λj hj=>ih j hj (hS j hj))
 | nili=>exact .nili
 | ifc=>exact .ifc _ _
 | ifn=>exact .ifn
 | raw u d h ih=>cases hS with | raw _ _ hS=>exact .raw _ _ (ih hS)
def AB(w:World)(b:Nat):Prop:=∃o u,w.cell? (gA b o)=some u
def VR.keep2{w':World}{ρ':Nat→Option RI}{bad':Nat→Prop}{S:Nat→Prop}(h:VR w ρ bad v d)(hS:TA S d)
  (hρ:∀r ri,S r→ρ r=some ri→ρ' r=some ri)
  (hw:∀b,¬bad b→AB w b→w'.heap[b]?=w.heap[b]?) (hb:∀b,AB w b→bad' b→bad b):VR w' ρ' bad' v d:=by
 have GV:∀b,¬bad b→AB w b→¬bad' b:=λb h1 h2 h3=>h1 (hb b h2 h3);induction h with
 | undef=>exact .undef _
 | bool=>exact .bool _
 | int k n h=>exact .int _ _ h
 | str s h=>exact .str _ h
 | nil=>exact .nil
 | slE t a cap h=>exact .slE _ _ _ h
 | slC t l b off cap u hb hl hc he hu hv ih=>
  by_cases dX:l.length=0
  ·obtain rfl:l=[]:=List.eq_nil_of_length_eq_zero dX;exact .slE _ _ _ hc
  ·have HV:AB w b:=⟨_,_,hu 0 (by omega) 0 (wE t)⟩;cases hS with
   | sl _ _ hS=>
   exact .slC t l b off cap u (GV b hb HV) hl hc (λh0=>(he h0).imp id λk=>k.same (hw b hb HV)) (λi h j hj=>(LC (hw b hb HV)).trans (hu i h j hj)) (λi h j hj=>ih i h j hj (hS i h j hj))
 | ow r ri h hn hc OV=>cases hS with | ow _ hs=>exact .ow _ _ (hρ _ _ hs h) hn hc OV
 | owN r ri ao h hn OV=>cases hS with | ow _ hs=>exact .owN _ _ _ (hρ _ _ hs h) hn OV
 | ov r t off len cap a ri h A2 ha hl hc=>cases hS with | ov _ _ _ _ hs=>exact .ov _ _ _ _ _ _ _ (hρ _ _ hs h) A2 ha hl hc
 | bp r off ri h OV=>cases hS with | bp _ _ hs=>exact .bp _ _ _ (hρ _ _ hs h) OV
 | ep r t i off ri h OV=>cases hS with | ep _ _ _ _ hs=>exact .ep _ _ _ _ _ (hρ _ _ hs h) OV
 | fp cs off b o u h0 hb hu hv ih=>
  cases hS with
  | fp _ _ hS=>
  have HV:AB w b:=⟨_,_,hu 0 h0⟩;exact .fp cs off b o u h0 (GV b hb HV) (λj hj=>(LC (hw b hb HV)).trans (hu j hj)) (λj hj=>ih j hj (hS j hj))
 | fn f cs caps hs hv ih=>cases hS with | fn _ _ hS=>exact .fn _ _ _ hs (λj hj=>ih j hj (hS j hj))
 | agg cs vs hs hv ih=>cases hS with | agg _ hS=>exact .agg _ _ hs (λj hj=>ih j hj (hS j hj))
 | tup cs vs hs hv ih=>cases hS with | tup _ hS=>exact .tup _ _ hs (λj hj=>ih j hj (hS j hj))
 | nili=>exact .nili
 | ifc=>exact .ifc _ _
 | ifn=>exact .ifn
 | raw u d h ih=>cases hS with | raw _ _ hS=>exact .raw _ _ (ih hS)
omit [aA]in
def TA.all{S:Nat→Prop}{d:V}(hS:∀r,S r)(h:TA (λr=>ρ r≠none) d):TA S d:=by
 induction h with
 | undef=>exact .undef
 | bool=>exact .bool _
 | int=>exact .int _ _
 | str=>exact .str _
 | nil=>exact .nil
 | sl t l h ih=>exact .sl _ _ ih
 | ow r h=>exact .ow _ (hS _)
 | ov r t off len h=>exact .ov _ _ _ _ (hS _)
 | bp r off h=>exact .bp _ _ (hS _)
 | ep r t i off h=>exact .ep _ _ _ _ (hS _)
 | fp cs off h ih=>exact .fp _ _ ih
 | fn f cs h ih=>exact .fn _ _ ih
 | agg cs h ih=>exact .agg _ ih
 | tup cs h ih=>exact .tup _ ih
 | nili=>exact .nili
 | ifc=>exact .ifc _
 | raw u d h ih=>exact .raw _ _ ih
def VR.mono{w':World}{ρ':Nat→Option RI}{bad':Nat→Prop}(h:VR w ρ bad v d)(hρ:∀r ri,ρ r=some ri→ρ' r=some ri)
  (hw:∀b,¬bad b→b<w.heap.size→w'.heap[b]?=w.heap[b]?) (hb:∀b,bad' b→bad b∨w.heap.size≤b):VR w' ρ' bad' v d:=
 h.keep (S:=λ_=>True) (TA.all (λ_=>trivial) h.refs) (λr ri _=>hρ r ri) hw hb
def VR.one(h:VR w ρ bad v d)(hd:d.leaf=true):v.oneCell'=true:=by
 cases h<;>first | rfl | simp[V.leaf]at hd
omit [aA]in
def zbO(n:Int)(h:LB .u8 n):((UInt8.ofNat n.toNat).toNat:Int)=n:=by
 obtain⟨h1,h2⟩:=h;simp[IntKind.min,IntKind.max,IntKind.signed,IntKind.bits]at h1 h2;simp only[UInt8.toNat_ofNat'];omega
def VR.sub{c d:V}(hs:tD c d)(h:VR w ρ bad v c):VR w ρ bad v d:=by
 cases hs with
 | refl=>exact h
 | byte n=>cases h with | int _ _ hf=>rw[zbO n hf];exact .int _ _ hf
 | nil t=>cases h;exact .slE _ _ _ (Nat.zero_le _)
end
end Go.D
namespace Go.D
def bB(S:Nat→Prop)(a:UInt8)(j:Nat):TA S ((enc .byte a).getD j .undef):=by
 match j with
 | 0=>exact .int _ _
 | n+1=>exact .undef
def tF(S:Nat→Prop)(a:Int)(j:Nat):TA S ((enc .int a).getD j .undef):=by
 match j with
 | 0=>exact .int _ _
 | n+1=>exact .undef
def zcp(S:Nat→Prop)(a:Bool)(j:Nat):TA S ((enc .bool a).getD j .undef):=by
 match j with
 | 0=>exact .bool _
 | n+1=>exact .undef
def zdu(S:Nat→Prop)(a:List UInt8)(j:Nat):TA S ((enc .str a).getD j .undef):=by
 match j with
 | 0=>exact .str _
 | n+1=>exact .undef
def jN(S:Nat→Prop)(a:List UInt8)(j:Nat):TA S ((enc .bs a).getD j .undef):=by
 match j with
 | 0=>exact .sl _ _ λi h j _=>bB S _ j
 | n+1=>exact .undef
def zct(S:Nat→Prop)(a:Aq)(j:Nat):TA S ((enc .Addr a).getD j .undef):=by
 match j with
 | 0=>exact .int _ _
 | 1=>exact .int _ _
 | n+2=>exact .undef
def lT(S:Nat→Prop)(a:Ee)(j:Nat):TA S ((enc .Op a).getD j .undef):=by
 match j with
 | 0=>exact .int _ _
 | 1=>exact .int _ _
 | 2=>exact .int _ _
 | 3=>exact .sl _ _ λi h j _=>bB S _ j
 | n+4=>exact .undef
def zbA(S:Nat→Prop)(a:Au)(j:Nat):TA S ((enc .Event a).getD j .undef):=by
 match j with
 | 0=>exact .int _ _
 | 1=>exact .int _ _
 | 2=>exact .int _ _
 | 3=>exact .int _ _
 | 4=>exact .sl _ _ λi h j _=>bB S _ j
 | 5=>exact .sl _ _ λi h j _=>lT S _ j
 | n+6=>exact .undef
def zdw(S:Nat→Prop)(a:Ao)(j:Nat):TA S ((enc .Jar a).getD j .undef):=by
 match j with
 | 0=>exact .sl _ _ λi h j _=>bB S _ j
 | n+1=>exact .undef
def zcC(S:Nat→Prop)(a:Ak)(j:Nat):TA S ((enc .Dice a).getD j .undef):=by
 match j with
 | 0=>exact .sl _ _ λi h j _=>bB S _ j
 | 1=>exact .int _ _
 | n+2=>exact .undef
def zdJ(S:Nat→Prop)(a:Ap)(j:Nat):TA S ((enc .Win a).getD j .undef):=by
 match j with
 | 0=>exact .int _ _
 | 1=>exact .sl _ _ λi h j _=>tF S _ j
 | n+2=>exact .undef
def zd6(S:Nat→Prop)(a:As)(j:Nat):TA S ((enc .Ep a).getD j .undef):=by
 match j with
 | 0=>exact .int _ _
 | 1=>exact .sl _ _ λi h j _=>bB S _ j
 | 2=>exact .int _ _
 | 3=>exact .int _ _
 | 4=>exact .sl _ _ λi h j _=>tF S _ j
 | n+5=>exact .undef
def zcU(S:Nat→Prop)(a:Al)(j:Nat):TA S ((enc .Chan a).getD j .undef):=by
 match j with
 | 0=>exact .int _ _
 | 1=>exact .sl _ _ λi h j _=>bB S _ j
 | 2=>exact .int _ _
 | 3=>exact .sl _ _ λi h j _=>bB S _ j
 | 4=>exact .int _ _
 | 5=>exact .int _ _
 | 6=>exact .sl _ _ λi h j _=>tF S _ j
 | 7=>exact .int _ _
 | 8=>exact .sl _ _ λi h j _=>bB S _ j
 | 9=>exact .int _ _
 | 10=>exact .int _ _
 | 11=>exact .sl _ _ λi h j _=>tF S _ j
 | 12=>exact .bool _
 | 13=>exact .int _ _
 | 14=>exact .sl _ _ λi h j _=>bB S _ j
 | n+15=>exact .undef
def KO(S:Nat→Prop)(a:Aj)(j:Nat):TA S ((enc .Cand a).getD j .undef):=by
 match j with
 | 0=>exact .int _ _
 | 1=>exact .int _ _
 | 2=>exact .sl _ _ λi h j _=>bB S _ j
 | 3=>exact .int _ _
 | n+4=>exact .undef
def zbK(S:Nat→Prop)(a:Ah)(j:Nat):TA S ((enc .Paths a).getD j .undef):=by
 match j with
 | 0=>exact .int _ _
 | 1=>exact .int _ _
 | 2=>exact .sl _ _ λi h j _=>KO S _ j
 | n+3=>exact .undef
def vM(S:Nat→Prop)(a:Ag)(j:Nat):TA S ((enc .Sess a).getD j .undef):=by
 match j with
 | 0=>exact .int _ _
 | 1=>exact .sl _ _ λi h j _=>bB S _ j
 | 2=>exact .sl _ _ λi h j _=>bB S _ j
 | 3=>exact .int _ _
 | 4=>exact .sl _ _ λi h j _=>bB S _ j
 | 5=>exact .int _ _
 | 6=>exact .sl _ _ λi h j _=>bB S _ j
 | 7=>exact .int _ _
 | 8=>exact .int _ _
 | 9=>exact .sl _ _ λi h j _=>tF S _ j
 | 10=>exact .int _ _
 | 11=>exact .sl _ _ λi h j _=>bB S _ j
 | 12=>exact .int _ _
 | 13=>exact .int _ _
 | 14=>exact .sl _ _ λi h j _=>tF S _ j
 | 15=>exact .bool _
 | 16=>exact .int _ _
 | 17=>exact .sl _ _ λi h j _=>bB S _ j
 | 18=>exact .int _ _
 | 19=>exact .int _ _
 | 20=>exact .sl _ _ λi h j _=>KO S _ j
 | 21=>exact .int _ _
 | 22=>exact .int _ _
 | 23=>exact .bool _
 | n+24=>exact .undef
def zdp(S:Nat→Prop)(a:Am)(j:Nat):TA S ((enc .Tab a).getD j .undef):=by
 match j with
 | 0=>exact .int _ _
 | 1=>exact .sl _ _ λi h j _=>vM S _ j
 | n+2=>exact .undef
def dO(S:Nat→Prop)(a:Af)(j:Nat):TA S ((enc .Credit a).getD j .undef):=by
 match j with
 | 0=>exact .int _ _
 | 1=>exact .int _ _
 | 2=>exact .int _ _
 | 3=>exact .int _ _
 | n+4=>exact .undef
def za9(S:Nat→Prop)(a:Ad)(j:Nat):TA S ((enc .Server a).getD j .undef):=by
 match j with
 | 0=>exact .sl _ _ λi h j _=>jN S _ j
 | 1=>exact .sl _ _ λi h j _=>bB S _ j
 | 2=>exact .sl _ _ λi h j _=>bB S _ j
 | 3=>exact .int _ _
 | 4=>exact .int _ _
 | 5=>exact .sl _ _ λi h j _=>vM S _ j
 | 6=>exact .sl _ _ λi h j _=>dO S _ j
 | n+7=>exact .undef
def zbi(S:Nat→Prop)(a:Ai)(j:Nat):TA S ((enc .Frame a).getD j .undef):=by
 match j with
 | 0=>exact .int _ _
 | 1=>exact .int _ _
 | 2=>exact .sl _ _ λi h j _=>bB S _ j
 | 3=>exact .sl _ _ λi h j _=>bB S _ j
 | 4=>exact .int _ _
 | 5=>exact .sl _ _ λi h j _=>bB S _ j
 | 6=>exact .sl _ _ λi h j _=>bB S _ j
 | 7=>exact .int _ _
 | 8=>exact .int _ _
 | 9=>exact .sl _ _ λi h j _=>bB S _ j
 | 10=>exact .sl _ _ λi h j _=>bB S _ j
 | n+11=>exact .undef
def zbT(S:Nat→Prop)(a:Ar)(j:Nat):TA S ((enc .Timer a).getD j .undef):=by
 match j with
 | 0=>exact .bool _
 | 1=>exact .int _ _
 | 2=>exact .int _ _
 | 3=>exact .int _ _
 | n+4=>exact .undef
def zQ(S:Nat→Prop)(a:Ac)(j:Nat):TA S ((enc .Client a).getD j .undef):=by
 match j with
 | 0=>exact .int _ _
 | 1=>exact .sl _ _ λi h j _=>bB S _ j
 | 2=>exact .int _ _
 | 3=>exact .int _ _
 | 4=>exact .int _ _
 | 5=>exact .sl _ _ λi h j _=>bB S _ j
 | 6=>exact .int _ _
 | 7=>exact .int _ _
 | 8=>exact .sl _ _ λi h j _=>bB S _ j
 | 9=>exact .sl _ _ λi h j _=>bB S _ j
 | 10=>exact .int _ _
 | 11=>exact .sl _ _ λi h j _=>bB S _ j
 | 12=>exact .sl _ _ λi h j _=>bB S _ j
 | 13=>exact .int _ _
 | 14=>exact .int _ _
 | 15=>exact .sl _ _ λi h j _=>bB S _ j
 | 16=>exact .sl _ _ λi h j _=>bB S _ j
 | 17=>exact .int _ _
 | 18=>exact .sl _ _ λi h j _=>bB S _ j
 | 19=>exact .int _ _
 | 20=>exact .sl _ _ λi h j _=>bB S _ j
 | 21=>exact .int _ _
 | 22=>exact .int _ _
 | 23=>exact .sl _ _ λi h j _=>tF S _ j
 | 24=>exact .int _ _
 | 25=>exact .sl _ _ λi h j _=>bB S _ j
 | 26=>exact .int _ _
 | 27=>exact .int _ _
 | 28=>exact .sl _ _ λi h j _=>tF S _ j
 | 29=>exact .bool _
 | 30=>exact .int _ _
 | 31=>exact .sl _ _ λi h j _=>bB S _ j
 | 32=>exact .bool _
 | 33=>exact .int _ _
 | 34=>exact .int _ _
 | 35=>exact .int _ _
 | 36=>exact .bool _
 | 37=>exact .int _ _
 | 38=>exact .int _ _
 | 39=>exact .int _ _
 | 40=>exact .int _ _
 | n+41=>exact .undef
def QR(S:Nat→Prop)(a:Ab)(j:Nat):TA S ((enc .Wire a).getD j .undef):=by
 match j with
 | 0=>exact .int _ _
 | 1=>exact .int _ _
 | 2=>exact .int _ _
 | 3=>exact .int _ _
 | 4=>exact .sl _ _ λi h j _=>bB S _ j
 | n+5=>exact .undef
def xR(S:Nat→Prop)(a:Ae)(j:Nat):TA S ((enc .Note a).getD j .undef):=by
 match j with
 | 0=>exact .int _ _
 | 1=>exact .int _ _
 | 2=>exact .int _ _
 | 3=>exact .sl _ _ λi h j _=>bB S _ j
 | 4=>exact .sl _ _ λi h j _=>bB S _ j
 | 5=>exact .int _ _
 | 6=>exact .int _ _
 | 7=>exact .sl _ _ λi h j _=>bB S _ j
 | 8=>exact .sl _ _ λi h j _=>bB S _ j
 | 9=>exact .int _ _
 | 10=>exact .int _ _
 | 11=>exact .int _ _
 | n+12=>exact .undef
def zbv(S:Nat→Prop)(a:Aa)(j:Nat):TA S ((enc .World a).getD j .undef):=by
 match j with
 | 0=>exact .int _ _
 | 1=>exact .sl _ _ λi h j _=>zQ S _ j
 | 2=>exact .sl _ _ λi h j _=>jN S _ j
 | 3=>exact .sl _ _ λi h j _=>bB S _ j
 | 4=>exact .sl _ _ λi h j _=>bB S _ j
 | 5=>exact .int _ _
 | 6=>exact .int _ _
 | 7=>exact .sl _ _ λi h j _=>vM S _ j
 | 8=>exact .sl _ _ λi h j _=>dO S _ j
 | 9=>exact .sl _ _ λi h j _=>bB S _ j
 | 10=>exact .int _ _
 | 11=>exact .sl _ _ λi h j _=>QR S _ j
 | 12=>exact .sl _ _ λi h j _=>jN S _ j
 | 13=>exact .sl _ _ λi h j _=>xR S _ j
 | n+14=>exact .undef
def zdU(S:Nat→Prop)(a:Bg)(j:Nat):TA S ((enc .Cur a).getD j .undef):=by
 match j with
 | 0=>exact .sl _ _ λi h j _=>bB S _ j
 | 1=>exact .int _ _
 | 2=>exact .int _ _
 | n+3=>exact .undef
def zdb(S:Nat→Prop)(a:Ba)(j:Nat):TA S ((enc .Out a).getD j .undef):=by
 match j with
 | 0=>exact .int _ _
 | 1=>exact .int _ _
 | 2=>exact .int _ _
 | 3=>exact .int _ _
 | 4=>exact .sl _ _ λi h j _=>bB S _ j
 | 5=>exact .sl _ _ λi h j _=>bB S _ j
 | 6=>exact .int _ _
 | 7=>exact .sl _ _ λi h j _=>bB S _ j
 | 8=>exact .sl _ _ λi h j _=>bB S _ j
 | 9=>exact .int _ _
 | 10=>exact .int _ _
 | 11=>exact .sl _ _ λi h j _=>bB S _ j
 | 12=>exact .sl _ _ λi h j _=>bB S _ j
 | n+13=>exact .undef
def zb5(S:Nat→Prop)(a:Bb)(j:Nat):TA S ((enc .Form a).getD j .undef):=by
 match j with
 | 0=>exact .int _ _
 | 1=>exact .str _
 | n+2=>exact .undef
def zcW(S:Nat→Prop)(a:Bc)(j:Nat):TA S ((enc .Hash a).getD j .undef):=by
 match j with
 | 0=>exact .sl _ _ λi h j _=>tF S _ j
 | 1=>exact .sl _ _ λi h j _=>bB S _ j
 | 2=>exact .int _ _
 | n+3=>exact .undef
def TF(S:Nat→Prop)(t:TN)(a:El t)(j:Nat):TA S ((enc t a).getD j .undef):=by
 cases t with
 | byte=>exact bB S a j
 | int=>exact tF S a j
 | bool=>exact zcp S a j
 | str=>exact zdu S a j
 | bs=>exact jN S a j
 | Addr=>exact zct S a j
 | Op=>exact lT S a j
 | Event=>exact zbA S a j
 | Jar=>exact zdw S a j
 | Dice=>exact zcC S a j
 | Win=>exact zdJ S a j
 | Ep=>exact zd6 S a j
 | Chan=>exact zcU S a j
 | Cand=>exact KO S a j
 | Paths=>exact zbK S a j
 | Sess=>exact vM S a j
 | Tab=>exact zdp S a j
 | Credit=>exact dO S a j
 | Server=>exact za9 S a j
 | Frame=>exact zbi S a j
 | Timer=>exact zbT S a j
 | Client=>exact zQ S a j
 | Wire=>exact QR S a j
 | Note=>exact xR S a j
 | World=>exact zbv S a j
 | Cur=>exact zdU S a j
 | Out=>exact zdb S a j
 | Form=>exact zb5 S a j
 | Hash=>exact zcW S a j
end Go.D
