/-
 The data of the program as plain structures; values of the plain semantics; their encoding as flat cells.
-/
import GoSem.Core.Value
import Derived.Calls
import Derived.WalkKit
import GoSem.ClaimData
set_option linter.all false
namespace Go.D
structure Ae where
 Host:Int
 Port:Int
structure Ay where
 Kind:Int
 I:Int
 J:Int
 B:(List UInt8)
structure Ai where
 Kind:Int
 I:Int
 J:Int
 N:Int
 B:(List UInt8)
 Ops:(List Ay)
structure Az where
 Secret:(List UInt8)
structure Ar where
 Seed:(List UInt8)
 N:Int
structure Ao where
 Top:Int
 Bits:(List Int)
structure Av where
 N:Int
 Key:(List UInt8)
 Seq:Int
 Win:Ao
structure Ak where
 Role:Int
 Sn:(List UInt8)
 Cur:Av
 Old:Av
 HasOld:Bool
 Until:Int
 Next:(List UInt8)
structure Aw where
 A:Ae
 Draw:(List UInt8)
 Until:Int
structure Aj where
 At:Ae
 Cands:(List Aw)
structure Al where
 Id:Int
 Cn:(List UInt8)
 Sn:(List UInt8)
 C:Ak
 P:Aj
 Tick:Int
 Last:Int
 Dead:Bool
structure Am where
 Cap:Int
 L:(List Al)
structure Ag where
 A:Ae
 Got:Int
 Sent:Int
structure Ac where
 Psks:(List (List UInt8))
 J:Az
 D:Ar
 T:Am
 Cr:(List Ag)
structure Ab where
 Kind:Int
 Id:Int
 Cn:(List UInt8)
 Sn:(List UInt8)
 Tick:Int
 Cookie:(List UInt8)
 Proof:(List UInt8)
 Epoch:Int
 Seq:Int
 Body:(List UInt8)
 Tag:(List UInt8)
structure As where
 On:Bool
 Due:Int
 Wait:Int
 Tries:Int
structure Ad where
 Id:Int
 Psk:(List UInt8)
 At:Ae
 St:Int
 Cn:(List UInt8)
 Fin:Ab
 C:Ak
 T:As
 R:As
 Last:Int
structure Aq where
 From:Ae
 To:Ae
 B:(List UInt8)
structure Af where
 Kind:Int
 Id:Int
 Role:Int
 Cn:(List UInt8)
 Sn:(List UInt8)
 Epoch:Int
 Seq:Int
 Body:(List UInt8)
 Key:(List UInt8)
 A:Ae
 Now:Int
structure Aa where
 Now:Int
 Clients:(List Ad)
 S:Ac
 D:Ar
 Seen:(List Aq)
 Known:(List (List UInt8))
 Notes:(List Af)
structure Ah where
 b:(List UInt8)
 i:Int
 h:Int
structure Au where
 To:Ae
 F:Ab
structure Cf where
 kind:Int
 words:(List UInt8)
structure Ba where
 H:(List Int)
 Held:(List UInt8)
 N:Int
end Go.D
namespace Go.D
inductive TN where
 | byte | int | bool | str | bs | Addr | Op | Event | Jar | Dice | Win | Ep | Chan | Cand | Paths | Sess | Tab | Credit | Server | Frame | Timer | Client | Wire | Note | World | Cur | Out | Form | Hash
 deriving DecidableEq
@[reducible] def El:TN→Type
 | .byte=>UInt8 | .int=>Int | .bool=>Bool | .str=>List UInt8 | .bs=>List UInt8
 | .Addr=>Ae | .Op=>Ay | .Event=>Ai | .Jar=>Az | .Dice=>Ar | .Win=>Ao | .Ep=>Av | .Chan=>Ak | .Cand=>Aw | .Paths=>Aj | .Sess=>Al | .Tab=>Am | .Credit=>Ag | .Server=>Ac | .Frame=>Ab | .Timer=>As | .Client=>Ad | .Wire=>Aq | .Note=>Af | .World=>Aa | .Cur=>Ah | .Out=>Au | .Form=>Cf | .Hash=>Ba
inductive V where
 | undef
 | bool (b:Bool)
 | int (k:IntKind) (n:Int)
 | str (s:List UInt8)
 | nil
 | sl (t:TN) (l:List (El t))
 | ow (r:Nat)
 | ov (r:Nat) (t:TN) (off len:Nat)
 | bp (r off:Nat)
 | ep (r:Nat) (t:TN) (i off:Nat)
 | fp (cs:List V) (off:Nat)
 | fn (f:Nat) (cs:List V)
 | agg (cs:List V)
 | tup (vs:List V)
 | nili
 | ifc (b:Bool)
def OT(a:Ae):List V:=[.int .i64 a.Host, .int .i64 a.Port]
def zbN(a:Ay):List V:=[.int .i64 a.Kind, .int .i64 a.I, .int .i64 a.J, .sl .byte a.B]
def za7(a:Ai):List V:=[.int .i64 a.Kind, .int .i64 a.I, .int .i64 a.J, .int .i64 a.N, .sl .byte a.B, .sl .Op a.Ops]
def zbF(a:Az):List V:=[.sl .byte a.Secret]
def zby(a:Ar):List V:=[.sl .byte a.Seed, .int .i64 a.N]
def zbD(a:Ao):List V:=[.int .i64 a.Top, .sl .int a.Bits]
def zbM(a:Av):List V:=[.int .i64 a.N, .sl .byte a.Key, .int .i64 a.Seq, .int .i64 a.Win.Top, .sl .int a.Win.Bits]
def zbi(a:Ak):List V:=[.int .i64 a.Role, .sl .byte a.Sn, .int .i64 a.Cur.N, .sl .byte a.Cur.Key, .int .i64 a.Cur.Seq, .int .i64 a.Cur.Win.Top, .sl .int a.Cur.Win.Bits, .int .i64 a.Old.N, .sl .byte a.Old.Key, .int .i64 a.Old.Seq, .int .i64 a.Old.Win.Top, .sl .int a.Old.Win.Bits, .bool a.HasOld, .int .i64 a.Until, .sl .byte a.Next]
def zbg(a:Aw):List V:=[.int .i64 a.A.Host, .int .i64 a.A.Port, .sl .byte a.Draw, .int .i64 a.Until]
def zaY(a:Aj):List V:=[.int .i64 a.At.Host, .int .i64 a.At.Port, .sl .Cand a.Cands]
def zbk(a:Al):List V:=[.int .i64 a.Id, .sl .byte a.Cn, .sl .byte a.Sn, .int .i64 a.C.Role, .sl .byte a.C.Sn, .int .i64 a.C.Cur.N, .sl .byte a.C.Cur.Key, .int .i64 a.C.Cur.Seq, .int .i64 a.C.Cur.Win.Top, .sl .int a.C.Cur.Win.Bits, .int .i64 a.C.Old.N, .sl .byte a.C.Old.Key, .int .i64 a.C.Old.Seq, .int .i64 a.C.Old.Win.Top, .sl .int a.C.Old.Win.Bits, .bool a.C.HasOld, .int .i64 a.C.Until, .sl .byte a.C.Next, .int .i64 a.P.At.Host, .int .i64 a.P.At.Port, .sl .Cand a.P.Cands, .int .i64 a.Tick, .int .i64 a.Last, .bool a.Dead]
def zbE(a:Am):List V:=[.int .i64 a.Cap, .sl .Sess a.L]
def VS(a:Ag):List V:=[.int .i64 a.A.Host, .int .i64 a.A.Port, .int .i64 a.Got, .int .i64 a.Sent]
def zaP(a:Ac):List V:=[.sl .bs a.Psks, .sl .byte a.J.Secret, .sl .byte a.D.Seed, .int .i64 a.D.N, .int .i64 a.T.Cap, .sl .Sess a.T.L, .sl .Credit a.Cr]
def zaZ(a:Ab):List V:=[.int .i64 a.Kind, .int .i64 a.Id, .sl .byte a.Cn, .sl .byte a.Sn, .int .i64 a.Tick, .sl .byte a.Cookie, .sl .byte a.Proof, .int .i64 a.Epoch, .int .i64 a.Seq, .sl .byte a.Body, .sl .byte a.Tag]
def DT(a:As):List V:=[.bool a.On, .int .i64 a.Due, .int .i64 a.Wait, .int .i64 a.Tries]
def zaO(a:Ad):List V:=[.int .i64 a.Id, .sl .byte a.Psk, .int .i64 a.At.Host, .int .i64 a.At.Port, .int .i64 a.St, .sl .byte a.Cn, .int .i64 a.Fin.Kind, .int .i64 a.Fin.Id, .sl .byte a.Fin.Cn, .sl .byte a.Fin.Sn, .int .i64 a.Fin.Tick, .sl .byte a.Fin.Cookie, .sl .byte a.Fin.Proof, .int .i64 a.Fin.Epoch, .int .i64 a.Fin.Seq, .sl .byte a.Fin.Body, .sl .byte a.Fin.Tag, .int .i64 a.C.Role, .sl .byte a.C.Sn, .int .i64 a.C.Cur.N, .sl .byte a.C.Cur.Key, .int .i64 a.C.Cur.Seq, .int .i64 a.C.Cur.Win.Top, .sl .int a.C.Cur.Win.Bits, .int .i64 a.C.Old.N, .sl .byte a.C.Old.Key, .int .i64 a.C.Old.Seq, .int .i64 a.C.Old.Win.Top, .sl .int a.C.Old.Win.Bits, .bool a.C.HasOld, .int .i64 a.C.Until, .sl .byte a.C.Next, .bool a.T.On, .int .i64 a.T.Due, .int .i64 a.T.Wait, .int .i64 a.T.Tries, .bool a.R.On, .int .i64 a.R.Due, .int .i64 a.R.Wait, .int .i64 a.R.Tries, .int .i64 a.Last]
def zbd(a:Aq):List V:=[.int .i64 a.From.Host, .int .i64 a.From.Port, .int .i64 a.To.Host, .int .i64 a.To.Port, .sl .byte a.B]
def zbr(a:Af):List V:=[.int .i64 a.Kind, .int .i64 a.Id, .int .i64 a.Role, .sl .byte a.Cn, .sl .byte a.Sn, .int .i64 a.Epoch, .int .i64 a.Seq, .sl .byte a.Body, .sl .byte a.Key, .int .i64 a.A.Host, .int .i64 a.A.Port, .int .i64 a.Now]
def zaT(a:Aa):List V:=[.int .i64 a.Now, .sl .Client a.Clients, .sl .bs a.S.Psks, .sl .byte a.S.J.Secret, .sl .byte a.S.D.Seed, .int .i64 a.S.D.N, .int .i64 a.S.T.Cap, .sl .Sess a.S.T.L, .sl .Credit a.S.Cr, .sl .byte a.D.Seed, .int .i64 a.D.N, .sl .Wire a.Seen, .sl .bs a.Known, .sl .Note a.Notes]
def zbC(a:Ah):List V:=[.sl .byte a.b, .int .i64 a.i, .int .i64 a.h]
def zbJ(a:Au):List V:=[.int .i64 a.To.Host, .int .i64 a.To.Port, .int .i64 a.F.Kind, .int .i64 a.F.Id, .sl .byte a.F.Cn, .sl .byte a.F.Sn, .int .i64 a.F.Tick, .sl .byte a.F.Cookie, .sl .byte a.F.Proof, .int .i64 a.F.Epoch, .int .i64 a.F.Seq, .sl .byte a.F.Body, .sl .byte a.F.Tag]
def LT(a:Cf):List V:=[.int .i64 a.kind, .str a.words]
def zbf(a:Ba):List V:=[.sl .int a.H, .sl .byte a.Held, .int .i64 a.N]
def enc:(t:TN)→El t→List V
 | .byte,b=>[.int .u8 (b.toNat:Int)]
 | .int,n=>[.int .i64 n]
 | .bool,b=>[.bool b]
 | .str,s=>[.str s]
 | .bs,l=>[.sl .byte l]
 | .Addr,a=>OT a
 | .Op,a=>zbN a
 | .Event,a=>za7 a
 | .Jar,a=>zbF a
 | .Dice,a=>zby a
 | .Win,a=>zbD a
 | .Ep,a=>zbM a
 | .Chan,a=>zbi a
 | .Cand,a=>zbg a
 | .Paths,a=>zaY a
 | .Sess,a=>zbk a
 | .Tab,a=>zbE a
 | .Credit,a=>VS a
 | .Server,a=>zaP a
 | .Frame,a=>zaZ a
 | .Timer,a=>DT a
 | .Client,a=>zaO a
 | .Wire,a=>zbd a
 | .Note,a=>zbr a
 | .World,a=>zaT a
 | .Cur,a=>zbC a
 | .Out,a=>zbJ a
 | .Form,a=>LT a
 | .Hash,a=>zbf a
def sz:TN→Nat
 | .byte=>1 | .int=>1 | .bool=>1 | .str=>1 | .bs=>1
 | .Addr=>2 | .Op=>4 | .Event=>6 | .Jar=>1 | .Dice=>2 | .Win=>2 | .Ep=>5 | .Chan=>15 | .Cand=>4 | .Paths=>3 | .Sess=>24 | .Tab=>2 | .Credit=>4 | .Server=>7 | .Frame=>11 | .Timer=>4 | .Client=>41 | .Wire=>5 | .Note=>12 | .World=>14 | .Cur=>3 | .Out=>13 | .Form=>2 | .Hash=>3
def zA:V→Option Int | .int .i64 n=>some n | _=>none
def EN:V→Option UInt8 | .int .u8 n=>some (UInt8.ofNat n.toNat) | _=>none
def VF:V→Option Bool | .bool b=>some b | _=>none
def BK:V→Option (List UInt8) | .str s=>some s | _=>none
def TN.cast{s t:TN}(h:s=t)(l:List (El s)):List (El t):=h▸l
def JA(t:TN):V→Option (List (El t))
 | .sl s l=>if h:s=t then some (TN.cast h l)else none
 | .nil=>some []
 | _=>none
def tk{α β:Type}(p:V→Option α)(cs:List V)(k:α→List V→Option β):Option β:=
 match cs with
 | c :: cs=>(p c).bind λa=>k a cs
 | []=>none
def oB{β:Type}(cs:List V)(r:β):Option β:=
 match cs with
 | []=>some r
 | _=>none
def cU(cs:List V):Option Ae:=
 tk zA cs λf0 cs=>
 tk zA cs λf1 cs=>
 oB cs (⟨f0,f1⟩:Ae)
def QU(cs:List V):Option Ay:=
 tk zA cs λf0 cs=>
 tk zA cs λf1 cs=>
 tk zA cs λf2 cs=>
 tk (JA .byte) cs λf3 cs=>
 oB cs (⟨f0,f1,f2,f3⟩:Ay)
def IT(cs:List V):Option Ai:=
 tk zA cs λf0 cs=>
 tk zA cs λf1 cs=>
 tk zA cs λf2 cs=>
 tk zA cs λf3 cs=>
 tk (JA .byte) cs λf4 cs=>
 tk (JA .Op) cs λf5 cs=>
 oB cs (⟨f0,f1,f2,f3,f4,f5⟩:Ai)
def EU(cs:List V):Option Az:=
 tk (JA .byte) cs λf0 cs=>
 oB cs (⟨f0⟩:Az)
def hU(cs:List V):Option Ar:=
 tk (JA .byte) cs λf0 cs=>
 tk zA cs λf1 cs=>
 oB cs (⟨f0,f1⟩:Ar)
def uU(cs:List V):Option Ao:=
 tk zA cs λf0 cs=>
 tk (JA .int) cs λf1 cs=>
 oB cs (⟨f0,f1⟩:Ao)
def OU(cs:List V):Option Av:=
 tk zA cs λf0 cs=>
 tk (JA .byte) cs λf1 cs=>
 tk zA cs λf2 cs=>
 tk zA cs λf3 cs=>
 tk (JA .int) cs λf4 cs=>
 oB cs (⟨f0,f1,f2,⟨f3,f4⟩⟩:Av)
def lU(cs:List V):Option Ak:=
 tk zA cs λf0 cs=>
 tk (JA .byte) cs λf1 cs=>
 tk zA cs λf2 cs=>
 tk (JA .byte) cs λf3 cs=>
 tk zA cs λf4 cs=>
 tk zA cs λf5 cs=>
 tk (JA .int) cs λf6 cs=>
 tk zA cs λf7 cs=>
 tk (JA .byte) cs λf8 cs=>
 tk zA cs λf9 cs=>
 tk zA cs λf10 cs=>
 tk (JA .int) cs λf11 cs=>
 tk VF cs λf12 cs=>
 tk zA cs λf13 cs=>
 tk (JA .byte) cs λf14 cs=>
 oB cs (⟨f0,f1,⟨f2,f3,f4,⟨f5,f6⟩⟩,⟨f7,f8,f9,⟨f10,f11⟩⟩,f12,f13,f14⟩:Ak)
def XT(cs:List V):Option Aw:=
 tk zA cs λf0 cs=>
 tk zA cs λf1 cs=>
 tk (JA .byte) cs λf2 cs=>
 tk zA cs λf3 cs=>
 oB cs (⟨⟨f0,f1⟩,f2,f3⟩:Aw)
def iT(cs:List V):Option Aj:=
 tk zA cs λf0 cs=>
 tk zA cs λf1 cs=>
 tk (JA .Cand) cs λf2 cs=>
 oB cs (⟨⟨f0,f1⟩,f2⟩:Aj)
def nU(cs:List V):Option Al:=
 tk zA cs λf0 cs=>
 tk (JA .byte) cs λf1 cs=>
 tk (JA .byte) cs λf2 cs=>
 tk zA cs λf3 cs=>
 tk (JA .byte) cs λf4 cs=>
 tk zA cs λf5 cs=>
 tk (JA .byte) cs λf6 cs=>
 tk zA cs λf7 cs=>
 tk zA cs λf8 cs=>
 tk (JA .int) cs λf9 cs=>
 tk zA cs λf10 cs=>
 tk (JA .byte) cs λf11 cs=>
 tk zA cs λf12 cs=>
 tk zA cs λf13 cs=>
 tk (JA .int) cs λf14 cs=>
 tk VF cs λf15 cs=>
 tk zA cs λf16 cs=>
 tk (JA .byte) cs λf17 cs=>
 tk zA cs λf18 cs=>
 tk zA cs λf19 cs=>
 tk (JA .Cand) cs λf20 cs=>
 tk zA cs λf21 cs=>
 tk zA cs λf22 cs=>
 tk VF cs λf23 cs=>
 oB cs (⟨f0,f1,f2,⟨f3,f4,⟨f5,f6,f7,⟨f8,f9⟩⟩,⟨f10,f11,f12,⟨f13,f14⟩⟩,f15,f16,f17⟩,⟨⟨f18,f19⟩,f20⟩,f21,f22,f23⟩:Al)
def yU(cs:List V):Option Am:=
 tk zA cs λf0 cs=>
 tk (JA .Sess) cs λf1 cs=>
 oB cs (⟨f0,f1⟩:Am)
def QS(cs:List V):Option Ag:=
 tk zA cs λf0 cs=>
 tk zA cs λf1 cs=>
 tk zA cs λf2 cs=>
 tk zA cs λf3 cs=>
 oB cs (⟨⟨f0,f1⟩,f2,f3⟩:Ag)
def MS(cs:List V):Option Ac:=
 tk (JA .bs) cs λf0 cs=>
 tk (JA .byte) cs λf1 cs=>
 tk (JA .byte) cs λf2 cs=>
 tk zA cs λf3 cs=>
 tk zA cs λf4 cs=>
 tk (JA .Sess) cs λf5 cs=>
 tk (JA .Credit) cs λf6 cs=>
 oB cs (⟨f0,⟨f1⟩,⟨f2,f3⟩,⟨f4,f5⟩,f6⟩:Ac)
def xT(cs:List V):Option Ab:=
 tk zA cs λf0 cs=>
 tk zA cs λf1 cs=>
 tk (JA .byte) cs λf2 cs=>
 tk (JA .byte) cs λf3 cs=>
 tk zA cs λf4 cs=>
 tk (JA .byte) cs λf5 cs=>
 tk (JA .byte) cs λf6 cs=>
 tk zA cs λf7 cs=>
 tk zA cs λf8 cs=>
 tk (JA .byte) cs λf9 cs=>
 tk (JA .byte) cs λf10 cs=>
 oB cs (⟨f0,f1,f2,f3,f4,f5,f6,f7,f8,f9,f10⟩:Ab)
def BT(cs:List V):Option As:=
 tk VF cs λf0 cs=>
 tk zA cs λf1 cs=>
 tk zA cs λf2 cs=>
 tk zA cs λf3 cs=>
 oB cs (⟨f0,f1,f2,f3⟩:As)
def KS(cs:List V):Option Ad:=
 tk zA cs λf0 cs=>
 tk (JA .byte) cs λf1 cs=>
 tk zA cs λf2 cs=>
 tk zA cs λf3 cs=>
 tk zA cs λf4 cs=>
 tk (JA .byte) cs λf5 cs=>
 tk zA cs λf6 cs=>
 tk zA cs λf7 cs=>
 tk (JA .byte) cs λf8 cs=>
 tk (JA .byte) cs λf9 cs=>
 tk zA cs λf10 cs=>
 tk (JA .byte) cs λf11 cs=>
 tk (JA .byte) cs λf12 cs=>
 tk zA cs λf13 cs=>
 tk zA cs λf14 cs=>
 tk (JA .byte) cs λf15 cs=>
 tk (JA .byte) cs λf16 cs=>
 tk zA cs λf17 cs=>
 tk (JA .byte) cs λf18 cs=>
 tk zA cs λf19 cs=>
 tk (JA .byte) cs λf20 cs=>
 tk zA cs λf21 cs=>
 tk zA cs λf22 cs=>
 tk (JA .int) cs λf23 cs=>
 tk zA cs λf24 cs=>
 tk (JA .byte) cs λf25 cs=>
 tk zA cs λf26 cs=>
 tk zA cs λf27 cs=>
 tk (JA .int) cs λf28 cs=>
 tk VF cs λf29 cs=>
 tk zA cs λf30 cs=>
 tk (JA .byte) cs λf31 cs=>
 tk VF cs λf32 cs=>
 tk zA cs λf33 cs=>
 tk zA cs λf34 cs=>
 tk zA cs λf35 cs=>
 tk VF cs λf36 cs=>
 tk zA cs λf37 cs=>
 tk zA cs λf38 cs=>
 tk zA cs λf39 cs=>
 tk zA cs λf40 cs=>
 oB cs (⟨f0,f1,⟨f2,f3⟩,f4,f5,⟨f6,f7,f8,f9,f10,f11,f12,f13,f14,f15,f16⟩,⟨f17,f18,⟨f19,f20,f21,⟨f22,f23⟩⟩,⟨f24,f25,f26,⟨f27,f28⟩⟩,f29,f30,f31⟩,⟨f32,f33,f34,f35⟩,⟨f36,f37,f38,f39⟩,f40⟩:Ad)
def jU(cs:List V):Option Aq:=
 tk zA cs λf0 cs=>
 tk zA cs λf1 cs=>
 tk zA cs λf2 cs=>
 tk zA cs λf3 cs=>
 tk (JA .byte) cs λf4 cs=>
 oB cs (⟨⟨f0,f1⟩,⟨f2,f3⟩,f4⟩:Aq)
def ST(cs:List V):Option Af:=
 tk zA cs λf0 cs=>
 tk zA cs λf1 cs=>
 tk zA cs λf2 cs=>
 tk (JA .byte) cs λf3 cs=>
 tk (JA .byte) cs λf4 cs=>
 tk zA cs λf5 cs=>
 tk zA cs λf6 cs=>
 tk (JA .byte) cs λf7 cs=>
 tk (JA .byte) cs λf8 cs=>
 tk zA cs λf9 cs=>
 tk zA cs λf10 cs=>
 tk zA cs λf11 cs=>
 oB cs (⟨f0,f1,f2,f3,f4,f5,f6,f7,f8,⟨f9,f10⟩,f11⟩:Af)
def lT(cs:List V):Option Aa:=
 tk zA cs λf0 cs=>
 tk (JA .Client) cs λf1 cs=>
 tk (JA .bs) cs λf2 cs=>
 tk (JA .byte) cs λf3 cs=>
 tk (JA .byte) cs λf4 cs=>
 tk zA cs λf5 cs=>
 tk zA cs λf6 cs=>
 tk (JA .Sess) cs λf7 cs=>
 tk (JA .Credit) cs λf8 cs=>
 tk (JA .byte) cs λf9 cs=>
 tk zA cs λf10 cs=>
 tk (JA .Wire) cs λf11 cs=>
 tk (JA .bs) cs λf12 cs=>
 tk (JA .Note) cs λf13 cs=>
 oB cs (⟨f0,f1,⟨f2,⟨f3⟩,⟨f4,f5⟩,⟨f6,f7⟩,f8⟩,⟨f9,f10⟩,f11,f12,f13⟩:Aa)
def IU(cs:List V):Option Ah:=
 tk (JA .byte) cs λf0 cs=>
 tk zA cs λf1 cs=>
 tk zA cs λf2 cs=>
 oB cs (⟨f0,f1,f2⟩:Ah)
def AU(cs:List V):Option Au:=
 tk zA cs λf0 cs=>
 tk zA cs λf1 cs=>
 tk zA cs λf2 cs=>
 tk zA cs λf3 cs=>
 tk (JA .byte) cs λf4 cs=>
 tk (JA .byte) cs λf5 cs=>
 tk zA cs λf6 cs=>
 tk (JA .byte) cs λf7 cs=>
 tk (JA .byte) cs λf8 cs=>
 tk zA cs λf9 cs=>
 tk zA cs λf10 cs=>
 tk (JA .byte) cs λf11 cs=>
 tk (JA .byte) cs λf12 cs=>
 oB cs (⟨⟨f0,f1⟩,⟨f2,f3,f4,f5,f6,f7,f8,f9,f10,f11,f12⟩⟩:Au)
def aU(cs:List V):Option Cf:=
 tk zA cs λf0 cs=>
 tk BK cs λf1 cs=>
 oB cs (⟨f0,f1⟩:Cf)
def pU(cs:List V):Option Ba:=
 tk (JA .int) cs λf0 cs=>
 tk (JA .byte) cs λf1 cs=>
 tk zA cs λf2 cs=>
 oB cs (⟨f0,f1,f2⟩:Ba)
def AD:(t:TN)→List V→Option (El t)
 | .byte,cs=>tk EN cs λb cs=>oB cs b
 | .int,cs=>tk zA cs λn cs=>oB cs n
 | .bool,cs=>tk VF cs λb cs=>oB cs b
 | .str,cs=>tk BK cs λs cs=>oB cs s
 | .bs,cs=>tk (JA .byte) cs λl cs=>oB cs l
 | .Addr,cs=>cU cs
 | .Op,cs=>QU cs
 | .Event,cs=>IT cs
 | .Jar,cs=>EU cs
 | .Dice,cs=>hU cs
 | .Win,cs=>uU cs
 | .Ep,cs=>OU cs
 | .Chan,cs=>lU cs
 | .Cand,cs=>XT cs
 | .Paths,cs=>iT cs
 | .Sess,cs=>nU cs
 | .Tab,cs=>yU cs
 | .Credit,cs=>QS cs
 | .Server,cs=>MS cs
 | .Frame,cs=>xT cs
 | .Timer,cs=>BT cs
 | .Client,cs=>KS cs
 | .Wire,cs=>jU cs
 | .Note,cs=>ST cs
 | .World,cs=>lT cs
 | .Cur,cs=>IU cs
 | .Out,cs=>AU cs
 | .Form,cs=>aU cs
 | .Hash,cs=>pU cs
inductive WF:V→V→Prop where
 | refl (c:V):WF c c
 | byte (n:Int):WF (.int .u8 n) (.int .u8 ((UInt8.ofNat n.toNat).toNat:Int))
 | nil (t:TN):WF .nil (.sl t [])
inductive mB:List V→List V→Prop where
 | nil:mB [] []
 | cons {c d:V} {cs ds:List V}:WF c d→mB cs ds→mB (c :: cs) (d :: ds)
def BA{c:V}{n:Int}(h:zA c=some n):WF c (.int .i64 n):=by
 cases c<;>simp[zA]at h
 rename_i k m;cases k<;>simp at h;subst h;exact .refl _
def zlh{c:V}{b:UInt8}(h:EN c=some b):WF c (.int .u8 (b.toNat:Int)):=by
 cases c<;>simp[EN]at h
 rename_i k m;cases k<;>simp at h;subst h;exact .byte _
def cJ{c:V}{b:Bool}(h:VF c=some b):WF c (.bool b):=by
 cases c<;>simp[VF]at h;subst h;exact .refl _
def zeS{c:V}{b:List UInt8}(h:BK c=some b):WF c (.str b):=by
 cases c<;>simp[BK]at h;subst h;exact .refl _
def MA{t:TN}{c:V}{l:List (El t)}(h:JA t c=some l):WF c (.sl t l):=by
 cases c<;>simp[JA]at h
 ·subst h;exact .nil t
 ·obtain⟨rfl,h⟩:=h;simp[TN.cast]at h;subst h;exact .refl _
def mA{α β:Type}{p:V→Option α}{cs:List V}{k:α→List V→Option β}{r:β}(h:tk p cs k=some r):
  ∃c cs' a,cs=c :: cs'∧p c=some a∧k a cs'=some r:=by
 cases cs with
 | nil=>simp[tk]at h
 | cons c cs=>simp only[tk,Option.bind_eq_some_iff]at h;obtain⟨a,h1,h2⟩:=h;exact⟨c,cs,a,rfl,h1,h2⟩
def uC{β:Type}{cs:List V}{r s:β}(h:oB cs r=some s):cs=[]∧r=s:=by
 cases cs<;>simp[oB]at h;exact⟨rfl,h⟩
def zjl{cs:List V}{a:Ae}(h:cU cs=some a):mB cs (OT a):=by
 unfold cU at h;obtain⟨c0,cs,f0,rfl,h0,h⟩:=mA h;obtain⟨c1,cs,f1,rfl,h1,h⟩:=mA h;obtain⟨rfl,rfl⟩:=uC h;exact .cons (BA h0) (.cons (BA h1) (.nil))
def zkp{cs:List V}{a:Ay}(h:QU cs=some a):mB cs (zbN a):=by
 unfold QU at h;obtain⟨c0,cs,f0,rfl,h0,h⟩:=mA h;obtain⟨c1,cs,f1,rfl,h1,h⟩:=mA h;obtain⟨c2,cs,f2,rfl,h2,h⟩:=mA h;obtain⟨c3,cs,f3,rfl,h3,h⟩:=mA h;obtain⟨rfl,rfl⟩:=uC h;exact .cons (BA h0) (.cons (BA h1) (.cons (BA h2) (.cons (MA h3) (.nil))))
def ziV{cs:List V}{a:Ai}(h:IT cs=some a):mB cs (za7 a):=by
 unfold IT at h;obtain⟨c0,cs,f0,rfl,h0,h⟩:=mA h;obtain⟨c1,cs,f1,rfl,h1,h⟩:=mA h;obtain⟨c2,cs,f2,rfl,h2,h⟩:=mA h;obtain⟨c3,cs,f3,rfl,h3,h⟩:=mA h;obtain⟨c4,cs,f4,rfl,h4,h⟩:=mA h;obtain⟨c5,cs,f5,rfl,h5,h⟩:=mA h;obtain⟨rfl,rfl⟩:=uC h;exact .cons (BA h0) (.cons (BA h1) (.cons (BA h2) (.cons (BA h3) (.cons (MA h4) (.cons (MA h5) (.nil))))))
def zjQ{cs:List V}{a:Az}(h:EU cs=some a):mB cs (zbF a):=by
 unfold EU at h;obtain⟨c0,cs,f0,rfl,h0,h⟩:=mA h;obtain⟨rfl,rfl⟩:=uC h;exact .cons (MA h0) (.nil)
def zjv{cs:List V}{a:Ar}(h:hU cs=some a):mB cs (zby a):=by
 unfold hU at h;obtain⟨c0,cs,f0,rfl,h0,h⟩:=mA h;obtain⟨c1,cs,f1,rfl,h1,h⟩:=mA h;obtain⟨rfl,rfl⟩:=uC h;exact .cons (MA h0) (.cons (BA h1) (.nil))
def zjH{cs:List V}{a:Ao}(h:uU cs=some a):mB cs (zbD a):=by
 unfold uU at h;obtain⟨c0,cs,f0,rfl,h0,h⟩:=mA h;obtain⟨c1,cs,f1,rfl,h1,h⟩:=mA h;obtain⟨rfl,rfl⟩:=uC h;exact .cons (BA h0) (.cons (MA h1) (.nil))
def zkD{cs:List V}{a:Av}(h:OU cs=some a):mB cs (zbM a):=by
 unfold OU at h;obtain⟨c0,cs,f0,rfl,h0,h⟩:=mA h;obtain⟨c1,cs,f1,rfl,h1,h⟩:=mA h;obtain⟨c2,cs,f2,rfl,h2,h⟩:=mA h;obtain⟨c3,cs,f3,rfl,h3,h⟩:=mA h;obtain⟨c4,cs,f4,rfl,h4,h⟩:=mA h;obtain⟨rfl,rfl⟩:=uC h;exact .cons (BA h0) (.cons (MA h1) (.cons (BA h2) (.cons (BA h3) (.cons (MA h4) (.nil)))))
def zjn{cs:List V}{a:Ak}(h:lU cs=some a):mB cs (zbi a):=by
 unfold lU at h;obtain⟨c0,cs,f0,rfl,h0,h⟩:=mA h;obtain⟨c1,cs,f1,rfl,h1,h⟩:=mA h;obtain⟨c2,cs,f2,rfl,h2,h⟩:=mA h;obtain⟨c3,cs,f3,rfl,h3,h⟩:=mA h;obtain⟨c4,cs,f4,rfl,h4,h⟩:=mA h;obtain⟨c5,cs,f5,rfl,h5,h⟩:=mA h;obtain⟨c6,cs,f6,rfl,h6,h⟩:=mA h;obtain⟨c7,cs,f7,rfl,h7,h⟩:=mA h;obtain⟨c8,cs,f8,rfl,h8,h⟩:=mA h;obtain⟨c9,cs,f9,rfl,h9,h⟩:=mA h;obtain⟨JE,cs,f10,rfl,zW,h⟩:=mA h;obtain⟨YE,cs,f11,rfl,tW,h⟩:=mA h;obtain⟨tJ,cs,f12,rfl,DW,h⟩:=mA h;obtain⟨yK,cs,f13,rfl,WW,h⟩:=mA h;obtain⟨sV,cs,f14,rfl,bY,h⟩:=mA h;obtain⟨rfl,rfl⟩:=uC h;exact .cons (BA h0) (.cons (MA h1) (.cons (BA h2) (.cons (MA h3) (.cons (BA h4) (.cons (BA h5) (.cons (MA h6) (.cons (BA h7) (.cons (MA h8) (.cons (BA h9) (.cons (BA zW) (.cons (MA tW) (.cons (cJ DW) (.cons (BA WW) (.cons (MA bY) (.nil)))))))))))))))
def zi7{cs:List V}{a:Aw}(h:XT cs=some a):mB cs (zbg a):=by
 unfold XT at h;obtain⟨c0,cs,f0,rfl,h0,h⟩:=mA h;obtain⟨c1,cs,f1,rfl,h1,h⟩:=mA h;obtain⟨c2,cs,f2,rfl,h2,h⟩:=mA h;obtain⟨c3,cs,f3,rfl,h3,h⟩:=mA h;obtain⟨rfl,rfl⟩:=uC h;exact .cons (BA h0) (.cons (BA h1) (.cons (MA h2) (.cons (BA h3) (.nil))))
def ziH{cs:List V}{a:Aj}(h:iT cs=some a):mB cs (zaY a):=by
 unfold iT at h;obtain⟨c0,cs,f0,rfl,h0,h⟩:=mA h;obtain⟨c1,cs,f1,rfl,h1,h⟩:=mA h;obtain⟨c2,cs,f2,rfl,h2,h⟩:=mA h;obtain⟨rfl,rfl⟩:=uC h;exact .cons (BA h0) (.cons (BA h1) (.cons (MA h2) (.nil)))
def zi6{cs:List V}{a:Al}(h:nU cs=some a):mB cs (zbk a):=by
 unfold nU at h;obtain⟨c0,cs,f0,rfl,h0,h⟩:=mA h;obtain⟨c1,cs,f1,rfl,h1,h⟩:=mA h;obtain⟨c2,cs,f2,rfl,h2,h⟩:=mA h;obtain⟨c3,cs,f3,rfl,h3,h⟩:=mA h;obtain⟨c4,cs,f4,rfl,h4,h⟩:=mA h;obtain⟨c5,cs,f5,rfl,h5,h⟩:=mA h;obtain⟨c6,cs,f6,rfl,h6,h⟩:=mA h;obtain⟨c7,cs,f7,rfl,h7,h⟩:=mA h;obtain⟨c8,cs,f8,rfl,h8,h⟩:=mA h;obtain⟨c9,cs,f9,rfl,h9,h⟩:=mA h;obtain⟨JE,cs,f10,rfl,zW,h⟩:=mA h;obtain⟨YE,cs,f11,rfl,tW,h⟩:=mA h;obtain⟨tJ,cs,f12,rfl,DW,h⟩:=mA h;obtain⟨yK,cs,f13,rfl,WW,h⟩:=mA h;obtain⟨sV,cs,f14,rfl,bY,h⟩:=mA h;obtain⟨c15,cs,f15,rfl,cY,h⟩:=mA h;obtain⟨c16,cs,f16,rfl,DY,h⟩:=mA h;obtain⟨c17,cs,f17,rfl,NY,h⟩:=mA h;obtain⟨dQ,cs,f18,rfl,X0,h⟩:=mA h;obtain⟨aQ,cs,f19,rfl,DZ,h⟩:=mA h;obtain⟨rV,cs,f20,rfl,EZ,h⟩:=mA h;obtain⟨YP,cs,f21,rfl,LZ,h⟩:=mA h;obtain⟨zK,cs,f22,rfl,MZ,h⟩:=mA h;obtain⟨NN,cs,f23,rfl,VY,h⟩:=mA h;obtain⟨rfl,rfl⟩:=uC h;exact .cons (BA h0) (.cons (MA h1) (.cons (MA h2) (.cons (BA h3) (.cons (MA h4) (.cons (BA h5) (.cons (MA h6) (.cons (BA h7) (.cons (BA h8) (.cons (MA h9) (.cons (BA zW) (.cons (MA tW) (.cons (BA DW) (.cons (BA WW) (.cons (MA bY) (.cons (cJ cY) (.cons (BA DY) (.cons (MA NY) (.cons (BA X0) (.cons (BA DZ) (.cons (MA EZ) (.cons (BA LZ) (.cons (BA MZ) (.cons (cJ VY) (.nil))))))))))))))))))))))))
def zj1{cs:List V}{a:Am}(h:yU cs=some a):mB cs (zbE a):=by
 unfold yU at h;obtain⟨c0,cs,f0,rfl,h0,h⟩:=mA h;obtain⟨c1,cs,f1,rfl,h1,h⟩:=mA h;obtain⟨rfl,rfl⟩:=uC h;exact .cons (BA h0) (.cons (MA h1) (.nil))
def ziu{cs:List V}{a:Ag}(h:QS cs=some a):mB cs (VS a):=by
 unfold QS at h;obtain⟨c0,cs,f0,rfl,h0,h⟩:=mA h;obtain⟨c1,cs,f1,rfl,h1,h⟩:=mA h;obtain⟨c2,cs,f2,rfl,h2,h⟩:=mA h;obtain⟨c3,cs,f3,rfl,h3,h⟩:=mA h;obtain⟨rfl,rfl⟩:=uC h;exact .cons (BA h0) (.cons (BA h1) (.cons (BA h2) (.cons (BA h3) (.nil))))
def zid{cs:List V}{a:Ac}(h:MS cs=some a):mB cs (zaP a):=by
 unfold MS at h;obtain⟨c0,cs,f0,rfl,h0,h⟩:=mA h;obtain⟨c1,cs,f1,rfl,h1,h⟩:=mA h;obtain⟨c2,cs,f2,rfl,h2,h⟩:=mA h;obtain⟨c3,cs,f3,rfl,h3,h⟩:=mA h;obtain⟨c4,cs,f4,rfl,h4,h⟩:=mA h;obtain⟨c5,cs,f5,rfl,h5,h⟩:=mA h;obtain⟨c6,cs,f6,rfl,h6,h⟩:=mA h;obtain⟨rfl,rfl⟩:=uC h;exact .cons (MA h0) (.cons (MA h1) (.cons (MA h2) (.cons (BA h3) (.cons (BA h4) (.cons (MA h5) (.cons (MA h6) (.nil)))))))
def ziZ{cs:List V}{a:Ab}(h:xT cs=some a):mB cs (zaZ a):=by
 unfold xT at h;obtain⟨c0,cs,f0,rfl,h0,h⟩:=mA h;obtain⟨c1,cs,f1,rfl,h1,h⟩:=mA h;obtain⟨c2,cs,f2,rfl,h2,h⟩:=mA h;obtain⟨c3,cs,f3,rfl,h3,h⟩:=mA h;obtain⟨c4,cs,f4,rfl,h4,h⟩:=mA h;obtain⟨c5,cs,f5,rfl,h5,h⟩:=mA h;obtain⟨c6,cs,f6,rfl,h6,h⟩:=mA h;obtain⟨c7,cs,f7,rfl,h7,h⟩:=mA h;obtain⟨c8,cs,f8,rfl,h8,h⟩:=mA h;obtain⟨c9,cs,f9,rfl,h9,h⟩:=mA h;obtain⟨JE,cs,f10,rfl,zW,h⟩:=mA h;obtain⟨rfl,rfl⟩:=uC h;exact .cons (BA h0) (.cons (BA h1) (.cons (MA h2) (.cons (MA h3) (.cons (BA h4) (.cons (MA h5) (.cons (MA h6) (.cons (BA h7) (.cons (BA h8) (.cons (MA h9) (.cons (MA zW) (.nil)))))))))))
def ziS{cs:List V}{a:As}(h:BT cs=some a):mB cs (DT a):=by
 unfold BT at h;obtain⟨c0,cs,f0,rfl,h0,h⟩:=mA h;obtain⟨c1,cs,f1,rfl,h1,h⟩:=mA h;obtain⟨c2,cs,f2,rfl,h2,h⟩:=mA h;obtain⟨c3,cs,f3,rfl,h3,h⟩:=mA h;obtain⟨rfl,rfl⟩:=uC h;exact .cons (cJ h0) (.cons (BA h1) (.cons (BA h2) (.cons (BA h3) (.nil))))
def zh8{cs:List V}{a:Ad}(h:KS cs=some a):mB cs (zaO a):=by
 unfold KS at h;obtain⟨c0,cs,f0,rfl,h0,h⟩:=mA h;obtain⟨c1,cs,f1,rfl,h1,h⟩:=mA h;obtain⟨c2,cs,f2,rfl,h2,h⟩:=mA h;obtain⟨c3,cs,f3,rfl,h3,h⟩:=mA h;obtain⟨c4,cs,f4,rfl,h4,h⟩:=mA h;obtain⟨c5,cs,f5,rfl,h5,h⟩:=mA h;obtain⟨c6,cs,f6,rfl,h6,h⟩:=mA h;obtain⟨c7,cs,f7,rfl,h7,h⟩:=mA h;obtain⟨c8,cs,f8,rfl,h8,h⟩:=mA h;obtain⟨c9,cs,f9,rfl,h9,h⟩:=mA h;obtain⟨JE,cs,f10,rfl,zW,h⟩:=mA h;obtain⟨YE,cs,f11,rfl,tW,h⟩:=mA h;obtain⟨tJ,cs,f12,rfl,DW,h⟩:=mA h;obtain⟨yK,cs,f13,rfl,WW,h⟩:=mA h;obtain⟨sV,cs,f14,rfl,bY,h⟩:=mA h;obtain⟨c15,cs,f15,rfl,cY,h⟩:=mA h;obtain⟨c16,cs,f16,rfl,DY,h⟩:=mA h;obtain⟨c17,cs,f17,rfl,NY,h⟩:=mA h;obtain⟨dQ,cs,f18,rfl,X0,h⟩:=mA h;obtain⟨aQ,cs,f19,rfl,DZ,h⟩:=mA h;obtain⟨rV,cs,f20,rfl,EZ,h⟩:=mA h;obtain⟨YP,cs,f21,rfl,LZ,h⟩:=mA h;obtain⟨zK,cs,f22,rfl,MZ,h⟩:=mA h;obtain⟨NN,cs,f23,rfl,VY,h⟩:=mA h;obtain⟨ZP,cs,f24,rfl,NZ,h⟩:=mA h;obtain⟨yH,cs,f25,rfl,d3,h⟩:=mA h;obtain⟨tE,cs,f26,rfl,G7,h⟩:=mA h;obtain⟨c27,cs,f27,rfl,L3,h⟩:=mA h;obtain⟨LC,cs,f28,rfl,Q6,h⟩:=mA h;obtain⟨c29,cs,f29,rfl,R6,h⟩:=mA h;obtain⟨c30,cs,f30,rfl,M3,h⟩:=mA h;obtain⟨oV,cs,f31,rfl,N3,h⟩:=mA h;obtain⟨c32,cs,f32,rfl,H7,h⟩:=mA h;obtain⟨c33,cs,f33,rfl,I7,h⟩:=mA h;obtain⟨aB,cs,f34,rfl,J7,h⟩:=mA h;obtain⟨jV,cs,f35,rfl,K7,h⟩:=mA h;obtain⟨iV,cs,f36,rfl,L7,h⟩:=mA h;obtain⟨AH,cs,f37,rfl,M7,h⟩:=mA h;obtain⟨mV,cs,f38,rfl,h38,h⟩:=mA h;obtain⟨XP,cs,f39,rfl,h39,h⟩:=mA h;obtain⟨c40,cs,f40,rfl,h40,h⟩:=mA h;obtain⟨rfl,rfl⟩:=uC h;exact .cons (BA h0) (.cons (MA h1) (.cons (BA h2) (.cons (BA h3) (.cons (BA h4) (.cons (MA h5) (.cons (BA h6) (.cons (BA h7) (.cons (MA h8) (.cons (MA h9) (.cons (BA zW) (.cons (MA tW) (.cons (MA DW) (.cons (BA WW) (.cons (BA bY) (.cons (MA cY) (.cons (MA DY) (.cons (BA NY) (.cons (MA X0) (.cons (BA DZ) (.cons (MA EZ) (.cons (BA LZ) (.cons (BA MZ) (.cons (MA VY) (.cons (BA NZ) (.cons (MA d3) (.cons (BA G7) (.cons (BA L3) (.cons (MA Q6) (.cons (cJ R6) (.cons (BA M3) (.cons (MA N3) (.cons (cJ H7) (.cons (BA I7) (.cons (BA J7) (.cons (BA K7) (.cons (cJ L7) (.cons (BA M7) (.cons (BA h38) (.cons (BA h39) (.cons (BA h40) (.nil)))))))))))))))))))))))))))))))))))))))))
def zjx{cs:List V}{a:Aq}(h:jU cs=some a):mB cs (zbd a):=by
 unfold jU at h;obtain⟨c0,cs,f0,rfl,h0,h⟩:=mA h;obtain⟨c1,cs,f1,rfl,h1,h⟩:=mA h;obtain⟨c2,cs,f2,rfl,h2,h⟩:=mA h;obtain⟨c3,cs,f3,rfl,h3,h⟩:=mA h;obtain⟨c4,cs,f4,rfl,h4,h⟩:=mA h;obtain⟨rfl,rfl⟩:=uC h;exact .cons (BA h0) (.cons (BA h1) (.cons (BA h2) (.cons (BA h3) (.cons (MA h4) (.nil)))))
def zju{cs:List V}{a:Af}(h:ST cs=some a):mB cs (zbr a):=by
 unfold ST at h;obtain⟨c0,cs,f0,rfl,h0,h⟩:=mA h;obtain⟨c1,cs,f1,rfl,h1,h⟩:=mA h;obtain⟨c2,cs,f2,rfl,h2,h⟩:=mA h;obtain⟨c3,cs,f3,rfl,h3,h⟩:=mA h;obtain⟨c4,cs,f4,rfl,h4,h⟩:=mA h;obtain⟨c5,cs,f5,rfl,h5,h⟩:=mA h;obtain⟨c6,cs,f6,rfl,h6,h⟩:=mA h;obtain⟨c7,cs,f7,rfl,h7,h⟩:=mA h;obtain⟨c8,cs,f8,rfl,h8,h⟩:=mA h;obtain⟨c9,cs,f9,rfl,h9,h⟩:=mA h;obtain⟨JE,cs,f10,rfl,zW,h⟩:=mA h;obtain⟨YE,cs,f11,rfl,tW,h⟩:=mA h;obtain⟨rfl,rfl⟩:=uC h;exact .cons (BA h0) (.cons (BA h1) (.cons (BA h2) (.cons (MA h3) (.cons (MA h4) (.cons (BA h5) (.cons (BA h6) (.cons (MA h7) (.cons (MA h8) (.cons (BA h9) (.cons (BA zW) (.cons (BA tW) (.nil))))))))))))
def ziO{cs:List V}{a:Aa}(h:lT cs=some a):mB cs (zaT a):=by
 unfold lT at h;obtain⟨c0,cs,f0,rfl,h0,h⟩:=mA h;obtain⟨c1,cs,f1,rfl,h1,h⟩:=mA h;obtain⟨c2,cs,f2,rfl,h2,h⟩:=mA h;obtain⟨c3,cs,f3,rfl,h3,h⟩:=mA h;obtain⟨c4,cs,f4,rfl,h4,h⟩:=mA h;obtain⟨c5,cs,f5,rfl,h5,h⟩:=mA h;obtain⟨c6,cs,f6,rfl,h6,h⟩:=mA h;obtain⟨c7,cs,f7,rfl,h7,h⟩:=mA h;obtain⟨c8,cs,f8,rfl,h8,h⟩:=mA h;obtain⟨c9,cs,f9,rfl,h9,h⟩:=mA h;obtain⟨JE,cs,f10,rfl,zW,h⟩:=mA h;obtain⟨YE,cs,f11,rfl,tW,h⟩:=mA h;obtain⟨tJ,cs,f12,rfl,DW,h⟩:=mA h;obtain⟨yK,cs,f13,rfl,WW,h⟩:=mA h;obtain⟨rfl,rfl⟩:=uC h;exact .cons (BA h0) (.cons (MA h1) (.cons (MA h2) (.cons (MA h3) (.cons (MA h4) (.cons (BA h5) (.cons (BA h6) (.cons (MA h7) (.cons (MA h8) (.cons (MA h9) (.cons (BA zW) (.cons (MA tW) (.cons (MA DW) (.cons (MA WW) (.nil))))))))))))))
def zjN{cs:List V}{a:Ah}(h:IU cs=some a):mB cs (zbC a):=by
 unfold IU at h;obtain⟨c0,cs,f0,rfl,h0,h⟩:=mA h;obtain⟨c1,cs,f1,rfl,h1,h⟩:=mA h;obtain⟨c2,cs,f2,rfl,h2,h⟩:=mA h;obtain⟨rfl,rfl⟩:=uC h;exact .cons (MA h0) (.cons (BA h1) (.cons (BA h2) (.nil)))
def zjA{cs:List V}{a:Au}(h:AU cs=some a):mB cs (zbJ a):=by
 unfold AU at h;obtain⟨c0,cs,f0,rfl,h0,h⟩:=mA h;obtain⟨c1,cs,f1,rfl,h1,h⟩:=mA h;obtain⟨c2,cs,f2,rfl,h2,h⟩:=mA h;obtain⟨c3,cs,f3,rfl,h3,h⟩:=mA h;obtain⟨c4,cs,f4,rfl,h4,h⟩:=mA h;obtain⟨c5,cs,f5,rfl,h5,h⟩:=mA h;obtain⟨c6,cs,f6,rfl,h6,h⟩:=mA h;obtain⟨c7,cs,f7,rfl,h7,h⟩:=mA h;obtain⟨c8,cs,f8,rfl,h8,h⟩:=mA h;obtain⟨c9,cs,f9,rfl,h9,h⟩:=mA h;obtain⟨JE,cs,f10,rfl,zW,h⟩:=mA h;obtain⟨YE,cs,f11,rfl,tW,h⟩:=mA h;obtain⟨tJ,cs,f12,rfl,DW,h⟩:=mA h;obtain⟨rfl,rfl⟩:=uC h;exact .cons (BA h0) (.cons (BA h1) (.cons (BA h2) (.cons (BA h3) (.cons (MA h4) (.cons (MA h5) (.cons (BA h6) (.cons (MA h7) (.cons (MA h8) (.cons (BA h9) (.cons (BA zW) (.cons (MA tW) (.cons (MA DW) (.nil)))))))))))))
def zjr{cs:List V}{a:Cf}(h:aU cs=some a):mB cs (LT a):=by
 unfold aU at h;obtain⟨c0,cs,f0,rfl,h0,h⟩:=mA h;obtain⟨c1,cs,f1,rfl,h1,h⟩:=mA h;obtain⟨rfl,rfl⟩:=uC h;exact .cons (BA h0) (.cons (zeS h1) (.nil))
def zja{cs:List V}{a:Ba}(h:pU cs=some a):mB cs (zbf a):=by
 unfold pU at h;obtain⟨c0,cs,f0,rfl,h0,h⟩:=mA h;obtain⟨c1,cs,f1,rfl,h1,h⟩:=mA h;obtain⟨c2,cs,f2,rfl,h2,h⟩:=mA h;obtain⟨rfl,rfl⟩:=uC h;exact .cons (MA h0) (.cons (MA h1) (.cons (BA h2) (.nil)))
def ZD:(t:TN)→{cs:List V}→{a:El t}→AD t cs=some a→mB cs (enc t a)
 | .byte,cs,a,h=>by
  obtain⟨c0,cs,f0,rfl,h0,h⟩:=mA (show tk EN cs (λb cs=>oB cs b)=some a from h);obtain⟨rfl,rfl⟩:=uC h;exact .cons (zlh h0) .nil
 | .int,cs,a,h=>by
  obtain⟨c0,cs,f0,rfl,h0,h⟩:=mA (show tk zA cs (λb cs=>oB cs b)=some a from h);obtain⟨rfl,rfl⟩:=uC h;exact .cons (BA h0) .nil
 | .bool,cs,a,h=>by
  obtain⟨c0,cs,f0,rfl,h0,h⟩:=mA (show tk VF cs (λb cs=>oB cs b)=some a from h);obtain⟨rfl,rfl⟩:=uC h;exact .cons (cJ h0) .nil
 | .str,cs,a,h=>by
  obtain⟨c0,cs,f0,rfl,h0,h⟩:=mA (show tk BK cs (λb cs=>oB cs b)=some a from h);obtain⟨rfl,rfl⟩:=uC h;exact .cons (zeS h0) .nil
 | .bs,cs,a,h=>by
  obtain⟨c0,cs,f0,rfl,h0,h⟩:=mA (show tk (JA .byte) cs (λb cs=>oB cs b)=some a from h);obtain⟨rfl,rfl⟩:=uC h;exact .cons (MA h0) .nil
 | .Addr,_,_,h=>zjl h
 | .Op,_,_,h=>zkp h
 | .Event,_,_,h=>ziV h
 | .Jar,_,_,h=>zjQ h
 | .Dice,_,_,h=>zjv h
 | .Win,_,_,h=>zjH h
 | .Ep,_,_,h=>zkD h
 | .Chan,_,_,h=>zjn h
 | .Cand,_,_,h=>zi7 h
 | .Paths,_,_,h=>ziH h
 | .Sess,_,_,h=>zi6 h
 | .Tab,_,_,h=>zj1 h
 | .Credit,_,_,h=>ziu h
 | .Server,_,_,h=>zid h
 | .Frame,_,_,h=>ziZ h
 | .Timer,_,_,h=>ziS h
 | .Client,_,_,h=>zh8 h
 | .Wire,_,_,h=>zjx h
 | .Note,_,_,h=>zju h
 | .World,_,_,h=>ziO h
 | .Cur,_,_,h=>zjN h
 | .Out,_,_,h=>zjA h
 | .Form,_,_,h=>zjr h
 | .Hash,_,_,h=>zja h
def fC(t:TN)(a:El t):(enc t a).length=sz t:=by cases t<;>rfl
def eK(t:TN):0<sz t:=by cases t<;>simp[sz]
def V.leaf:V→Bool
 | .undef | .agg _ | .tup _=>false
 | _=>true
def zeb(t:TN)(a:El t):(enc t a).all V.leaf=true:=by cases t<;>rfl
def TN.isAgg:TN→Bool
 | .byte | .int | .bool | .str | .bs=>false
 | _=>true
end Go.D
namespace Go.D
class fA where
 tn:TypeId→Option TN
 base:Nat
end Go.D
namespace Go.D
structure RI where
 b:Nat
 n:Nat
 cap:Nat
 nl:Bool
def dE[fA](w:World)(b:Nat)(t:TN):Prop:=∃c e z,w.heap[b]?=some (.cells c e z)∧fA.tn e=some t
def ZC(k:IntKind)(n:Int):Prop:=k.min≤n∧n≤k.max
def wA(b o:Nat):Addr:=⟨b,o,none⟩
variable [fA]
inductive VR(w:World)(ρ:Nat→Option RI)(bad:Nat→Prop):Value→V→Prop where
 | undef (v:Value):VR w ρ bad v .undef
 | bool (b:Bool):VR w ρ bad (.bool b) (.bool b)
 | int (k:IntKind) (n:Int) (h:ZC k n):VR w ρ bad (.int k n) (.int k n)
 | str (s:List UInt8) (h:s.length≤maxLen):VR w ρ bad (.string ⟨s.toArray⟩) (.str s)
 | nil:VR w ρ bad (.slice none 0 0) .nil
 | slE (t:TN) (a:Option Addr) (cap:Nat) (h:cap≤maxLen):VR w ρ bad (.slice a 0 cap) (.sl t [])
 | slC (t:TN) (l:List (El t)) (b off cap:Nat) (u:Nat→Nat→Value) (hb:¬bad b) (hl:l.length≤cap) (hc:cap≤maxLen) (he:l≠[]→b<fA.base∨dE w b t)
   (hu:∀i,i<l.length→∀j,j<sz t→w.cell? (wA b (off+i *sz t+j))=some (u i j))
   (hv:∀i (h:i<l.length) j,j<sz t→VR w ρ bad (u i j) ((enc t l[i]).getD j .undef)):
   VR w ρ bad (.slice (some (wA b off)) l.length cap) (.sl t l)
 | ow (r:Nat) (ri:RI) (h:ρ r=some ri) (hn:ri.n≤ri.cap) (hc:ri.cap≤maxLen) (YV:ri.nl=false):VR w ρ bad (.slice (some (wA ri.b 0)) ri.n ri.cap) (.ow r)
 | owN (r:Nat) (ri:RI) (ao:Option Addr) (h:ρ r=some ri) (hn:ri.n=0) (YV:ri.nl=true):VR w ρ bad (.slice ao 0 0) (.ow r)
 | ov (r:Nat) (t:TN) (off len cap:Nat) (a:Option Addr) (ri:RI) (h:ρ r=some ri) (O3:off+len≤ri.n) (ha:len=0∧cap=0∨a=some (wA ri.b (off *sz t))∧ri.nl=false∧off+cap≤ri.cap)
   (hl:len≤cap) (hc:cap≤maxLen):VR w ρ bad (.slice a len cap) (.ov r t off len)
 | bp (r off:Nat) (ri:RI) (h:ρ r=some ri) (YV:ri.nl=false):VR w ρ bad (.pointer (some (wA ri.b off))) (.bp r off)
 | ep (r:Nat) (t:TN) (i off:Nat) (ri:RI) (h:ρ r=some ri) (YV:ri.nl=false):VR w ρ bad (.pointer (some (wA ri.b (i *sz t+off)))) (.ep r t i off)
 | fp (cs:List V) (off b o:Nat) (u:Nat→Value) (h0:0<cs.length) (hb:¬bad b) (hu:∀j,j<cs.length→w.cell? (wA b (o+j))=some (u j))
   (hv:∀j (h:j<cs.length),VR w ρ bad (u j) cs[j]):VR w ρ bad (.pointer (some (wA b (o+off)))) (.fp cs off)
 | fn (f:Nat) (cs:List V) (caps:Array Value) (hs:caps.size=cs.length) (hv:∀j (h:j<cs.length),VR w ρ bad (caps.getD j undef) cs[j]):
   VR w ρ bad (.func (.func f) #[] caps) (.fn f cs)
 | agg (cs:List V) (vs:Array Value) (hs:vs.size=cs.length) (hv:∀j (h:j<cs.length),VR w ρ bad (vs.getD j undef) cs[j]):VR w ρ bad (.agg vs) (.agg cs)
 | tup (cs:List V) (vs:Array Value) (hs:vs.size=cs.length) (hv:∀j (h:j<cs.length),VR w ρ bad (vs.getD j undef) cs[j]):VR w ρ bad (.tuple vs) (.tup cs)
 | nili:VR w ρ bad .nilIface .nili
 | ifc (t:TypeId) (v:Value):VR w ρ bad (.iface t v) (.ifc false)
 | ifn:VR w ρ bad .nilIface (.ifc true)
inductive eB(S:Nat→Prop):V→Prop where
 | undef:eB S .undef
 | bool (b:Bool):eB S (.bool b)
 | int (k:IntKind) (n:Int):eB S (.int k n)
 | str (s:List UInt8):eB S (.str s)
 | nil:eB S .nil
 | sl (t:TN) (l:List (El t)) (h:∀i (h:i<l.length) j,j<sz t→eB S ((enc t l[i]).getD j .undef)):eB S (.sl t l)
 | ow (r:Nat) (h:S r):eB S (.ow r)
 | ov (r:Nat) (t:TN) (off len:Nat) (h:S r):eB S (.ov r t off len)
 | bp (r off:Nat) (h:S r):eB S (.bp r off)
 | ep (r:Nat) (t:TN) (i off:Nat) (h:S r):eB S (.ep r t i off)
 | fp (cs:List V) (off:Nat) (h:∀j (h:j<cs.length),eB S cs[j]):eB S (.fp cs off)
 | fn (f:Nat) (cs:List V) (h:∀j (h:j<cs.length),eB S cs[j]):eB S (.fn f cs)
 | agg (cs:List V) (h:∀j (h:j<cs.length),eB S cs[j]):eB S (.agg cs)
 | tup (cs:List V) (h:∀j (h:j<cs.length),eB S cs[j]):eB S (.tup cs)
 | nili:eB S .nili
 | ifc (b:Bool):eB S (.ifc b)
section
variable {w:World} {ρ:Nat→Option RI} {bad:Nat→Prop} {v:Value} {d:V}
def VR.refs(h:VR w ρ bad v d):eB (λr=>ρ r≠none) d:=by
 induction h with
 | undef=>exact .undef
 | bool=>exact .bool _
 | int=>exact .int _ _
 | str=>exact .str _
 | nil=>exact .nil
 | slE=>exact .sl _ _ (λi h=>by simp at h)
 | slC t l b off cap u hb hl hc he hu hv ih=>exact .sl _ _ ih
 | ow r ri h=>exact .ow _ (by simp[h])
 | owN r ri ao h=>exact .ow _ (by simp[h])
 | ov r t off len cap a ri h=>exact .ov _ _ _ _ (by simp[h])
 | bp r off ri h=>exact .bp _ _ (by simp[h])
 | ep r t i off ri h=>exact .ep _ _ _ _ (by simp[h])
 | fp cs off b o u h0 hb hu hv ih=>exact .fp _ _ ih
 | fn f cs caps hs hv ih=>exact .fn _ _ ih
 | agg cs vs hs hv ih=>exact .agg _ ih
 | tup cs vs hs hv ih=>exact .tup _ ih
 | nili=>exact .nili
 | ifc=>exact .ifc _
 | ifn=>exact .ifc _
omit [fA]in
def rP{w:World}{b o:Nat}{u:Value}(h:w.cell? (wA b o)=some u):b<w.heap.size:=by
 rcases Nat.lt_or_ge b w.heap.size with h' | h'
 ·exact h'
 ·simp[World.cell?,wA,Array.getElem?_eq_none h']at h
omit [fA]in
def ZG{w w':World}{b o:Nat}(h:w'.heap[b]?=w.heap[b]?):w'.cell? (wA b o)=w.cell? (wA b o):=by
 simp[World.cell?,wA,h]
def dE.same{w w':World}{b:Nat}{t:TN}(h:dE w b t)(hw:w'.heap[b]?=w.heap[b]?):dE w' b t:=by
 obtain⟨c,e,z,h1,h2⟩:=h;exact⟨c,e,z,hw.trans h1,h2⟩
def dE.uniq{w:World}{b:Nat}{t t':TN}(h:dE w b t)(h':dE w b t'):t=t':=by
 obtain⟨c,e,z,h1,h2⟩:=h;obtain⟨c',e',z',h1',h2'⟩:=h'
 grind
def VR.keep{w':World}{ρ':Nat→Option RI}{bad':Nat→Prop}{S:Nat→Prop}(h:VR w ρ bad v d)(hS:eB S d)
  (hρ:∀r ri,S r→ρ r=some ri→ρ' r=some ri)
  (hw:∀b,¬bad b→b<w.heap.size→w'.heap[b]?=w.heap[b]?) (hb:∀b,bad' b→bad b∨w.heap.size≤b):VR w' ρ' bad' v d:=by
 have ZV:∀b,¬bad b→b<w.heap.size→¬bad' b:=λb h1 h2 h3=>(hb b h3).elim h1 (by omega);induction h with
 | undef=>exact .undef _
 | bool=>exact .bool _
 | int k n h=>exact .int _ _ h
 | str s h=>exact .str _ h
 | nil=>exact .nil
 | slE t a cap h=>exact .slE _ _ _ h
 | slC t l b off cap u hb hl hc he hu hv ih=>
  by_cases OZ:l.length=0
  ·obtain rfl:l=[]:=List.eq_nil_of_length_eq_zero OZ;exact .slE _ _ _ hc
  ·have NV:b<w.heap.size:=rP (hu 0 (by omega) 0 (eK t));cases hS with
   | sl _ _ hS=>
   exact .slC t l b off cap u (ZV b hb NV) hl hc (λh0=>(he h0).imp id λk=>k.same (hw b hb NV)) (λi h j hj=>(ZG (hw b hb NV)).trans (hu i h j hj)) (λi h j hj=>ih i h j hj (hS i h j hj))
 | ow r ri h hn hc YV=>cases hS with | ow _ hs=>exact .ow _ _ (hρ _ _ hs h) hn hc YV
 | owN r ri ao h hn YV=>cases hS with | ow _ hs=>exact .owN _ _ _ (hρ _ _ hs h) hn YV
 | ov r t off len cap a ri h O3 ha hl hc=>cases hS with | ov _ _ _ _ hs=>exact .ov _ _ _ _ _ _ _ (hρ _ _ hs h) O3 ha hl hc
 | bp r off ri h YV=>cases hS with | bp _ _ hs=>exact .bp _ _ _ (hρ _ _ hs h) YV
 | ep r t i off ri h YV=>cases hS with | ep _ _ _ _ hs=>exact .ep _ _ _ _ _ (hρ _ _ hs h) YV
 | fp cs off b o u h0 hb hu hv ih=>
  cases hS with
  | fp _ _ hS=>
  have NV:b<w.heap.size:=rP (hu 0 h0);exact .fp cs off b o u h0 (ZV b hb NV) (λj hj=>(ZG (hw b hb NV)).trans (hu j hj)) (λj hj=>ih j hj (hS j hj))
 | fn f cs caps hs hv ih=>cases hS with | fn _ _ hS=>exact .fn _ _ _ hs (λj hj=>ih j hj (hS j hj))
 | agg cs vs hs hv ih=>cases hS with | agg _ hS=>exact .agg _ _ hs (λj hj=>ih j hj (hS j hj))
 | tup cs vs hs hv ih=>cases hS with | tup _ hS=>exact .tup _ _ hs (λj hj=>ih j hj (hS j hj))
 | nili=>exact .nili
 | ifc=>exact .ifc _ _
 | ifn=>exact .ifn
def BN(w:World)(b:Nat):Prop:=∃o u,w.cell? (wA b o)=some u
def VR.keep2{w':World}{ρ':Nat→Option RI}{bad':Nat→Prop}{S:Nat→Prop}(h:VR w ρ bad v d)(hS:eB S d)
  (hρ:∀r ri,S r→ρ r=some ri→ρ' r=some ri)
  (hw:∀b,¬bad b→BN w b→w'.heap[b]?=w.heap[b]?) (hb:∀b,BN w b→bad' b→bad b):VR w' ρ' bad' v d:=by
 have ZV:∀b,¬bad b→BN w b→¬bad' b:=λb h1 h2 h3=>h1 (hb b h2 h3);induction h with
 | undef=>exact .undef _
 | bool=>exact .bool _
 | int k n h=>exact .int _ _ h
 | str s h=>exact .str _ h
 | nil=>exact .nil
 | slE t a cap h=>exact .slE _ _ _ h
 | slC t l b off cap u hb hl hc he hu hv ih=>
  by_cases OZ:l.length=0
  ·obtain rfl:l=[]:=List.eq_nil_of_length_eq_zero OZ;exact .slE _ _ _ hc
  ·have NV:BN w b:=⟨_,_,hu 0 (by omega) 0 (eK t)⟩;cases hS with
   | sl _ _ hS=>
   exact .slC t l b off cap u (ZV b hb NV) hl hc (λh0=>(he h0).imp id λk=>k.same (hw b hb NV)) (λi h j hj=>(ZG (hw b hb NV)).trans (hu i h j hj)) (λi h j hj=>ih i h j hj (hS i h j hj))
 | ow r ri h hn hc YV=>cases hS with | ow _ hs=>exact .ow _ _ (hρ _ _ hs h) hn hc YV
 | owN r ri ao h hn YV=>cases hS with | ow _ hs=>exact .owN _ _ _ (hρ _ _ hs h) hn YV
 | ov r t off len cap a ri h O3 ha hl hc=>cases hS with | ov _ _ _ _ hs=>exact .ov _ _ _ _ _ _ _ (hρ _ _ hs h) O3 ha hl hc
 | bp r off ri h YV=>cases hS with | bp _ _ hs=>exact .bp _ _ _ (hρ _ _ hs h) YV
 | ep r t i off ri h YV=>cases hS with | ep _ _ _ _ hs=>exact .ep _ _ _ _ _ (hρ _ _ hs h) YV
 | fp cs off b o u h0 hb hu hv ih=>
  cases hS with
  | fp _ _ hS=>
  have NV:BN w b:=⟨_,_,hu 0 h0⟩;exact .fp cs off b o u h0 (ZV b hb NV) (λj hj=>(ZG (hw b hb NV)).trans (hu j hj)) (λj hj=>ih j hj (hS j hj))
 | fn f cs caps hs hv ih=>cases hS with | fn _ _ hS=>exact .fn _ _ _ hs (λj hj=>ih j hj (hS j hj))
 | agg cs vs hs hv ih=>cases hS with | agg _ hS=>exact .agg _ _ hs (λj hj=>ih j hj (hS j hj))
 | tup cs vs hs hv ih=>cases hS with | tup _ hS=>exact .tup _ _ hs (λj hj=>ih j hj (hS j hj))
 | nili=>exact .nili
 | ifc=>exact .ifc _ _
 | ifn=>exact .ifn
omit [fA]in
def eB.all{S:Nat→Prop}{d:V}(hS:∀r,S r)(h:eB (λr=>ρ r≠none) d):eB S d:=by
 induction h with
 | undef=>exact .undef
 | bool=>exact .bool _
 | int=>exact .int _ _
 | str=>exact .str _
 | nil=>exact .nil
 | sl t l h ih=>exact .sl _ _ ih
 | ow r h=>exact .ow _ (hS _)
 | ov r t off len h=>exact .ov _ _ _ _ (hS _)
 | bp r off h=>exact .bp _ _ (hS _)
 | ep r t i off h=>exact .ep _ _ _ _ (hS _)
 | fp cs off h ih=>exact .fp _ _ ih
 | fn f cs h ih=>exact .fn _ _ ih
 | agg cs h ih=>exact .agg _ ih
 | tup cs h ih=>exact .tup _ ih
 | nili=>exact .nili
 | ifc=>exact .ifc _
def VR.mono{w':World}{ρ':Nat→Option RI}{bad':Nat→Prop}(h:VR w ρ bad v d)(hρ:∀r ri,ρ r=some ri→ρ' r=some ri)
  (hw:∀b,¬bad b→b<w.heap.size→w'.heap[b]?=w.heap[b]?) (hb:∀b,bad' b→bad b∨w.heap.size≤b):VR w' ρ' bad' v d:=
 h.keep (S:=λ_=>True) (eB.all (λ_=>trivial) h.refs) (λr ri _=>hρ r ri) hw hb
def VR.one(h:VR w ρ bad v d)(hd:d.leaf=true):v.oneCell'=true:=by
 cases h<;>first | rfl | simp[V.leaf]at hd
omit [fA]in
def zkP(n:Int)(h:ZC .u8 n):((UInt8.ofNat n.toNat).toNat:Int)=n:=by
 obtain⟨h1,h2⟩:=h;simp[IntKind.min,IntKind.max,IntKind.signed,IntKind.bits]at h1 h2;simp only[UInt8.toNat_ofNat'];omega
def VR.sub{c d:V}(hs:WF c d)(h:VR w ρ bad v c):VR w ρ bad v d:=by
 cases hs with
 | refl=>exact h
 | byte n=>cases h with | int _ _ hf=>rw[zkP n hf];exact .int _ _ hf
 | nil t=>cases h;exact .slE _ _ _ (Nat.zero_le _)
end
end Go.D
namespace Go.D
def iB(S:Nat→Prop)(a:UInt8)(j:Nat):eB S ((enc .byte a).getD j .undef):=by
 match j with
 | 0=>exact .int _ _
 | n+1=>exact .undef
def eH(S:Nat→Prop)(a:Int)(j:Nat):eB S ((enc .int a).getD j .undef):=by
 match j with
 | 0=>exact .int _ _
 | n+1=>exact .undef
def zlj(S:Nat→Prop)(a:Bool)(j:Nat):eB S ((enc .bool a).getD j .undef):=by
 match j with
 | 0=>exact .bool _
 | n+1=>exact .undef
def zms(S:Nat→Prop)(a:List UInt8)(j:Nat):eB S ((enc .str a).getD j .undef):=by
 match j with
 | 0=>exact .str _
 | n+1=>exact .undef
def zU(S:Nat→Prop)(a:List UInt8)(j:Nat):eB S ((enc .bs a).getD j .undef):=by
 match j with
 | 0=>exact .sl _ _ λi h j _=>iB S _ j
 | n+1=>exact .undef
def zln(S:Nat→Prop)(a:Ae)(j:Nat):eB S ((enc .Addr a).getD j .undef):=by
 match j with
 | 0=>exact .int _ _
 | 1=>exact .int _ _
 | n+2=>exact .undef
def zfy(S:Nat→Prop)(a:Ay)(j:Nat):eB S ((enc .Op a).getD j .undef):=by
 match j with
 | 0=>exact .int _ _
 | 1=>exact .int _ _
 | 2=>exact .int _ _
 | 3=>exact .sl _ _ λi h j _=>iB S _ j
 | n+4=>exact .undef
def zkv(S:Nat→Prop)(a:Ai)(j:Nat):eB S ((enc .Event a).getD j .undef):=by
 match j with
 | 0=>exact .int _ _
 | 1=>exact .int _ _
 | 2=>exact .int _ _
 | 3=>exact .int _ _
 | 4=>exact .sl _ _ λi h j _=>iB S _ j
 | 5=>exact .sl _ _ λi h j _=>zfy S _ j
 | n+6=>exact .undef
def zmv(S:Nat→Prop)(a:Az)(j:Nat):eB S ((enc .Jar a).getD j .undef):=by
 match j with
 | 0=>exact .sl _ _ λi h j _=>iB S _ j
 | n+1=>exact .undef
def zlv(S:Nat→Prop)(a:Ar)(j:Nat):eB S ((enc .Dice a).getD j .undef):=by
 match j with
 | 0=>exact .sl _ _ λi h j _=>iB S _ j
 | 1=>exact .int _ _
 | n+2=>exact .undef
def zmM(S:Nat→Prop)(a:Ao)(j:Nat):eB S ((enc .Win a).getD j .undef):=by
 match j with
 | 0=>exact .int _ _
 | 1=>exact .sl _ _ λi h j _=>eH S _ j
 | n+2=>exact .undef
def zm4(S:Nat→Prop)(a:Av)(j:Nat):eB S ((enc .Ep a).getD j .undef):=by
 match j with
 | 0=>exact .int _ _
 | 1=>exact .sl _ _ λi h j _=>iB S _ j
 | 2=>exact .int _ _
 | 3=>exact .int _ _
 | 4=>exact .sl _ _ λi h j _=>eH S _ j
 | n+5=>exact .undef
def zlQ(S:Nat→Prop)(a:Ak)(j:Nat):eB S ((enc .Chan a).getD j .undef):=by
 match j with
 | 0=>exact .int _ _
 | 1=>exact .sl _ _ λi h j _=>iB S _ j
 | 2=>exact .int _ _
 | 3=>exact .sl _ _ λi h j _=>iB S _ j
 | 4=>exact .int _ _
 | 5=>exact .int _ _
 | 6=>exact .sl _ _ λi h j _=>eH S _ j
 | 7=>exact .int _ _
 | 8=>exact .sl _ _ λi h j _=>iB S _ j
 | 9=>exact .int _ _
 | 10=>exact .int _ _
 | 11=>exact .sl _ _ λi h j _=>eH S _ j
 | 12=>exact .bool _
 | 13=>exact .int _ _
 | 14=>exact .sl _ _ λi h j _=>iB S _ j
 | n+15=>exact .undef
def za9(S:Nat→Prop)(a:Aw)(j:Nat):eB S ((enc .Cand a).getD j .undef):=by
 match j with
 | 0=>exact .int _ _
 | 1=>exact .int _ _
 | 2=>exact .sl _ _ λi h j _=>iB S _ j
 | 3=>exact .int _ _
 | n+4=>exact .undef
def zkJ(S:Nat→Prop)(a:Aj)(j:Nat):eB S ((enc .Paths a).getD j .undef):=by
 match j with
 | 0=>exact .int _ _
 | 1=>exact .int _ _
 | 2=>exact .sl _ _ λi h j _=>za9 S _ j
 | n+3=>exact .undef
def tT(S:Nat→Prop)(a:Al)(j:Nat):eB S ((enc .Sess a).getD j .undef):=by
 match j with
 | 0=>exact .int _ _
 | 1=>exact .sl _ _ λi h j _=>iB S _ j
 | 2=>exact .sl _ _ λi h j _=>iB S _ j
 | 3=>exact .int _ _
 | 4=>exact .sl _ _ λi h j _=>iB S _ j
 | 5=>exact .int _ _
 | 6=>exact .sl _ _ λi h j _=>iB S _ j
 | 7=>exact .int _ _
 | 8=>exact .int _ _
 | 9=>exact .sl _ _ λi h j _=>eH S _ j
 | 10=>exact .int _ _
 | 11=>exact .sl _ _ λi h j _=>iB S _ j
 | 12=>exact .int _ _
 | 13=>exact .int _ _
 | 14=>exact .sl _ _ λi h j _=>eH S _ j
 | 15=>exact .bool _
 | 16=>exact .int _ _
 | 17=>exact .sl _ _ λi h j _=>iB S _ j
 | 18=>exact .int _ _
 | 19=>exact .int _ _
 | 20=>exact .sl _ _ λi h j _=>za9 S _ j
 | 21=>exact .int _ _
 | 22=>exact .int _ _
 | 23=>exact .bool _
 | n+24=>exact .undef
def zmk(S:Nat→Prop)(a:Am)(j:Nat):eB S ((enc .Tab a).getD j .undef):=by
 match j with
 | 0=>exact .int _ _
 | 1=>exact .sl _ _ λi h j _=>tT S _ j
 | n+2=>exact .undef
def zaz(S:Nat→Prop)(a:Ag)(j:Nat):eB S ((enc .Credit a).getD j .undef):=by
 match j with
 | 0=>exact .int _ _
 | 1=>exact .int _ _
 | 2=>exact .int _ _
 | 3=>exact .int _ _
 | n+4=>exact .undef
def zjZ(S:Nat→Prop)(a:Ac)(j:Nat):eB S ((enc .Server a).getD j .undef):=by
 match j with
 | 0=>exact .sl _ _ λi h j _=>zU S _ j
 | 1=>exact .sl _ _ λi h j _=>iB S _ j
 | 2=>exact .sl _ _ λi h j _=>iB S _ j
 | 3=>exact .int _ _
 | 4=>exact .int _ _
 | 5=>exact .sl _ _ λi h j _=>tT S _ j
 | 6=>exact .sl _ _ λi h j _=>zaz S _ j
 | n+7=>exact .undef
def zkb(S:Nat→Prop)(a:Ab)(j:Nat):eB S ((enc .Frame a).getD j .undef):=by
 match j with
 | 0=>exact .int _ _
 | 1=>exact .int _ _
 | 2=>exact .sl _ _ λi h j _=>iB S _ j
 | 3=>exact .sl _ _ λi h j _=>iB S _ j
 | 4=>exact .int _ _
 | 5=>exact .sl _ _ λi h j _=>iB S _ j
 | 6=>exact .sl _ _ λi h j _=>iB S _ j
 | 7=>exact .int _ _
 | 8=>exact .int _ _
 | 9=>exact .sl _ _ λi h j _=>iB S _ j
 | 10=>exact .sl _ _ λi h j _=>iB S _ j
 | n+11=>exact .undef
def zkU(S:Nat→Prop)(a:As)(j:Nat):eB S ((enc .Timer a).getD j .undef):=by
 match j with
 | 0=>exact .bool _
 | 1=>exact .int _ _
 | 2=>exact .int _ _
 | 3=>exact .int _ _
 | n+4=>exact .undef
def zdo(S:Nat→Prop)(a:Ad)(j:Nat):eB S ((enc .Client a).getD j .undef):=by
 match j with
 | 0=>exact .int _ _
 | 1=>exact .sl _ _ λi h j _=>iB S _ j
 | 2=>exact .int _ _
 | 3=>exact .int _ _
 | 4=>exact .int _ _
 | 5=>exact .sl _ _ λi h j _=>iB S _ j
 | 6=>exact .int _ _
 | 7=>exact .int _ _
 | 8=>exact .sl _ _ λi h j _=>iB S _ j
 | 9=>exact .sl _ _ λi h j _=>iB S _ j
 | 10=>exact .int _ _
 | 11=>exact .sl _ _ λi h j _=>iB S _ j
 | 12=>exact .sl _ _ λi h j _=>iB S _ j
 | 13=>exact .int _ _
 | 14=>exact .int _ _
 | 15=>exact .sl _ _ λi h j _=>iB S _ j
 | 16=>exact .sl _ _ λi h j _=>iB S _ j
 | 17=>exact .int _ _
 | 18=>exact .sl _ _ λi h j _=>iB S _ j
 | 19=>exact .int _ _
 | 20=>exact .sl _ _ λi h j _=>iB S _ j
 | 21=>exact .int _ _
 | 22=>exact .int _ _
 | 23=>exact .sl _ _ λi h j _=>eH S _ j
 | 24=>exact .int _ _
 | 25=>exact .sl _ _ λi h j _=>iB S _ j
 | 26=>exact .int _ _
 | 27=>exact .int _ _
 | 28=>exact .sl _ _ λi h j _=>eH S _ j
 | 29=>exact .bool _
 | 30=>exact .int _ _
 | 31=>exact .sl _ _ λi h j _=>iB S _ j
 | 32=>exact .bool _
 | 33=>exact .int _ _
 | 34=>exact .int _ _
 | 35=>exact .int _ _
 | 36=>exact .bool _
 | 37=>exact .int _ _
 | 38=>exact .int _ _
 | 39=>exact .int _ _
 | 40=>exact .int _ _
 | n+41=>exact .undef
def zeJ(S:Nat→Prop)(a:Aq)(j:Nat):eB S ((enc .Wire a).getD j .undef):=by
 match j with
 | 0=>exact .int _ _
 | 1=>exact .int _ _
 | 2=>exact .int _ _
 | 3=>exact .int _ _
 | 4=>exact .sl _ _ λi h j _=>iB S _ j
 | n+5=>exact .undef
def zeh(S:Nat→Prop)(a:Af)(j:Nat):eB S ((enc .Note a).getD j .undef):=by
 match j with
 | 0=>exact .int _ _
 | 1=>exact .int _ _
 | 2=>exact .int _ _
 | 3=>exact .sl _ _ λi h j _=>iB S _ j
 | 4=>exact .sl _ _ λi h j _=>iB S _ j
 | 5=>exact .int _ _
 | 6=>exact .int _ _
 | 7=>exact .sl _ _ λi h j _=>iB S _ j
 | 8=>exact .sl _ _ λi h j _=>iB S _ j
 | 9=>exact .int _ _
 | 10=>exact .int _ _
 | 11=>exact .int _ _
 | n+12=>exact .undef
def zkr(S:Nat→Prop)(a:Aa)(j:Nat):eB S ((enc .World a).getD j .undef):=by
 match j with
 | 0=>exact .int _ _
 | 1=>exact .sl _ _ λi h j _=>zdo S _ j
 | 2=>exact .sl _ _ λi h j _=>zU S _ j
 | 3=>exact .sl _ _ λi h j _=>iB S _ j
 | 4=>exact .sl _ _ λi h j _=>iB S _ j
 | 5=>exact .int _ _
 | 6=>exact .int _ _
 | 7=>exact .sl _ _ λi h j _=>tT S _ j
 | 8=>exact .sl _ _ λi h j _=>zaz S _ j
 | 9=>exact .sl _ _ λi h j _=>iB S _ j
 | 10=>exact .int _ _
 | 11=>exact .sl _ _ λi h j _=>zeJ S _ j
 | 12=>exact .sl _ _ λi h j _=>zU S _ j
 | 13=>exact .sl _ _ λi h j _=>zeh S _ j
 | n+14=>exact .undef
def zmX(S:Nat→Prop)(a:Ah)(j:Nat):eB S ((enc .Cur a).getD j .undef):=by
 match j with
 | 0=>exact .sl _ _ λi h j _=>iB S _ j
 | 1=>exact .int _ _
 | 2=>exact .int _ _
 | n+3=>exact .undef
def zl7(S:Nat→Prop)(a:Au)(j:Nat):eB S ((enc .Out a).getD j .undef):=by
 match j with
 | 0=>exact .int _ _
 | 1=>exact .int _ _
 | 2=>exact .int _ _
 | 3=>exact .int _ _
 | 4=>exact .sl _ _ λi h j _=>iB S _ j
 | 5=>exact .sl _ _ λi h j _=>iB S _ j
 | 6=>exact .int _ _
 | 7=>exact .sl _ _ λi h j _=>iB S _ j
 | 8=>exact .sl _ _ λi h j _=>iB S _ j
 | 9=>exact .int _ _
 | 10=>exact .int _ _
 | 11=>exact .sl _ _ λi h j _=>iB S _ j
 | 12=>exact .sl _ _ λi h j _=>iB S _ j
 | n+13=>exact .undef
def zk3(S:Nat→Prop)(a:Cf)(j:Nat):eB S ((enc .Form a).getD j .undef):=by
 match j with
 | 0=>exact .int _ _
 | 1=>exact .str _
 | n+2=>exact .undef
def zlS(S:Nat→Prop)(a:Ba)(j:Nat):eB S ((enc .Hash a).getD j .undef):=by
 match j with
 | 0=>exact .sl _ _ λi h j _=>eH S _ j
 | 1=>exact .sl _ _ λi h j _=>iB S _ j
 | 2=>exact .int _ _
 | n+3=>exact .undef
def aJ(S:Nat→Prop)(t:TN)(a:El t)(j:Nat):eB S ((enc t a).getD j .undef):=by
 cases t with
 | byte=>exact iB S a j
 | int=>exact eH S a j
 | bool=>exact zlj S a j
 | str=>exact zms S a j
 | bs=>exact zU S a j
 | Addr=>exact zln S a j
 | Op=>exact zfy S a j
 | Event=>exact zkv S a j
 | Jar=>exact zmv S a j
 | Dice=>exact zlv S a j
 | Win=>exact zmM S a j
 | Ep=>exact zm4 S a j
 | Chan=>exact zlQ S a j
 | Cand=>exact za9 S a j
 | Paths=>exact zkJ S a j
 | Sess=>exact tT S a j
 | Tab=>exact zmk S a j
 | Credit=>exact zaz S a j
 | Server=>exact zjZ S a j
 | Frame=>exact zkb S a j
 | Timer=>exact zkU S a j
 | Client=>exact zdo S a j
 | Wire=>exact zeJ S a j
 | Note=>exact zeh S a j
 | World=>exact zkr S a j
 | Cur=>exact zmX S a j
 | Out=>exact zl7 S a j
 | Form=>exact zk3 S a j
 | Hash=>exact zlS S a j
end Go.D
