/-
 The data of the program as plain structures; values of the plain semantics; their encoding as flat cells.
-/
import GoSem.Core.Value
import Derived.Calls
import Derived.WalkKit
import GoSem.ClaimData
set_option linter.all false
namespace Go.D
structure Af where
 Host:Int
 Port:Int
structure Az where
 Kind:Int
 I:Int
 J:Int
 B:(List UInt8)
structure Aj where
 Kind:Int
 I:Int
 J:Int
 N:Int
 B:(List UInt8)
 Ops:(List Az)
structure Ax where
 Secret:(List UInt8)
structure As where
 Seed:(List UInt8)
 N:Int
structure Ap where
 Top:Int
 Bits:(List Int)
structure Av where
 N:Int
 Key:(List UInt8)
 Seq:Int
 Win:Ap
structure Am where
 Role:Int
 Sn:(List UInt8)
 Cur:Av
 Old:Av
 HasOld:Bool
 Until:Int
 Next:(List UInt8)
structure Aw where
 A:Af
 Draw:(List UInt8)
 Until:Int
structure Ah where
 At:Af
 Cands:(List Aw)
structure Ai where
 Id:Int
 Cn:(List UInt8)
 Sn:(List UInt8)
 C:Am
 P:Ah
 Tick:Int
 Last:Int
 Dead:Bool
structure Ao where
 Cap:Int
 L:(List Ai)
structure Al where
 A:Af
 Got:Int
 Sent:Int
structure Ac where
 Psks:(List (List UInt8))
 J:Ax
 D:As
 T:Ao
 Cr:(List Al)
structure Ab where
 Kind:Int
 Id:Int
 Cn:(List UInt8)
 Sn:(List UInt8)
 Tick:Int
 Cookie:(List UInt8)
 Proof:(List UInt8)
 Epoch:Int
 Seq:Int
 Body:(List UInt8)
 Tag:(List UInt8)
structure Au where
 On:Bool
 Due:Int
 Wait:Int
 Tries:Int
structure Ae where
 Id:Int
 Psk:(List UInt8)
 At:Af
 St:Int
 Cn:(List UInt8)
 Fin:Ab
 C:Am
 T:Au
 R:Au
 Last:Int
structure Ak where
 From:Af
 To:Af
 B:(List UInt8)
structure Ad where
 Kind:Int
 Id:Int
 Role:Int
 Cn:(List UInt8)
 Sn:(List UInt8)
 Epoch:Int
 Seq:Int
 Body:(List UInt8)
 Key:(List UInt8)
 A:Af
 Now:Int
structure Aa where
 Now:Int
 Clients:(List Ae)
 S:Ac
 D:As
 Seen:(List Ak)
 Known:(List (List UInt8))
 Notes:(List Ad)
structure Ar where
 b:(List UInt8)
 i:Int
 h:Int
structure Aq where
 To:Af
 F:Ab
structure Ji where
 kind:Int
 words:(List UInt8)
structure Ba where
 H:(List Int)
 Held:(List UInt8)
 N:Int
end Go.D
namespace Go.D
inductive TN where
 | byte | int | bool | str | bs | Addr | Op | Event | Jar | Dice | Win | Ep | Chan | Cand | Paths | Sess | Tab | Credit | Server | Frame | Timer | Client | Wire | Note | World | Cur | Out | Form | Hash
 deriving DecidableEq
@[reducible] def El:TN→Type
 | .byte=>UInt8 | .int=>Int | .bool=>Bool | .str=>List UInt8 | .bs=>List UInt8
 | .Addr=>Af | .Op=>Az | .Event=>Aj | .Jar=>Ax | .Dice=>As | .Win=>Ap | .Ep=>Av | .Chan=>Am | .Cand=>Aw | .Paths=>Ah | .Sess=>Ai | .Tab=>Ao | .Credit=>Al | .Server=>Ac | .Frame=>Ab | .Timer=>Au | .Client=>Ae | .Wire=>Ak | .Note=>Ad | .World=>Aa | .Cur=>Ar | .Out=>Aq | .Form=>Ji | .Hash=>Ba
inductive V where
 | undef
 | bool (b:Bool)
 | int (k:IntKind) (n:Int)
 | str (s:List UInt8)
 | nil
 | sl (t:TN) (l:List (El t))
 | ow (r:Nat)
 | ov (r:Nat) (t:TN) (off len:Nat)
 | bp (r off:Nat)
 | ep (r:Nat) (t:TN) (i off:Nat)
 | fp (cs:List V) (off:Nat)
 | fn (f:Nat) (cs:List V)
 | agg (cs:List V)
 | tup (vs:List V)
 | nili
 | ifc (b:Bool)
def zce(a:Af):List V:=[.int .i64 a.Host, .int .i64 a.Port]
def zf5(a:Az):List V:=[.int .i64 a.Kind, .int .i64 a.I, .int .i64 a.J, .sl .byte a.B]
def ze9(a:Aj):List V:=[.int .i64 a.Kind, .int .i64 a.I, .int .i64 a.J, .int .i64 a.N, .sl .byte a.B, .sl .Op a.Ops]
def zfU(a:Ax):List V:=[.sl .byte a.Secret]
def zfH(a:As):List V:=[.sl .byte a.Seed, .int .i64 a.N]
def zfR(a:Ap):List V:=[.int .i64 a.Top, .sl .int a.Bits]
def zf4(a:Av):List V:=[.int .i64 a.N, .sl .byte a.Key, .int .i64 a.Seq, .int .i64 a.Win.Top, .sl .int a.Win.Bits]
def zft(a:Am):List V:=[.int .i64 a.Role, .sl .byte a.Sn, .int .i64 a.Cur.N, .sl .byte a.Cur.Key, .int .i64 a.Cur.Seq, .int .i64 a.Cur.Win.Top, .sl .int a.Cur.Win.Bits, .int .i64 a.Old.N, .sl .byte a.Old.Key, .int .i64 a.Old.Seq, .int .i64 a.Old.Win.Top, .sl .int a.Old.Win.Bits, .bool a.HasOld, .int .i64 a.Until, .sl .byte a.Next]
def zfq(a:Aw):List V:=[.int .i64 a.A.Host, .int .i64 a.A.Port, .sl .byte a.Draw, .int .i64 a.Until]
def ze1(a:Ah):List V:=[.int .i64 a.At.Host, .int .i64 a.At.Port, .sl .Cand a.Cands]
def zfu(a:Ai):List V:=[.int .i64 a.Id, .sl .byte a.Cn, .sl .byte a.Sn, .int .i64 a.C.Role, .sl .byte a.C.Sn, .int .i64 a.C.Cur.N, .sl .byte a.C.Cur.Key, .int .i64 a.C.Cur.Seq, .int .i64 a.C.Cur.Win.Top, .sl .int a.C.Cur.Win.Bits, .int .i64 a.C.Old.N, .sl .byte a.C.Old.Key, .int .i64 a.C.Old.Seq, .int .i64 a.C.Old.Win.Top, .sl .int a.C.Old.Win.Bits, .bool a.C.HasOld, .int .i64 a.C.Until, .sl .byte a.C.Next, .int .i64 a.P.At.Host, .int .i64 a.P.At.Port, .sl .Cand a.P.Cands, .int .i64 a.Tick, .int .i64 a.Last, .bool a.Dead]
def zfT(a:Ao):List V:=[.int .i64 a.Cap, .sl .Sess a.L]
def zbB(a:Al):List V:=[.int .i64 a.A.Host, .int .i64 a.A.Port, .int .i64 a.Got, .int .i64 a.Sent]
def zeR(a:Ac):List V:=[.sl .bs a.Psks, .sl .byte a.J.Secret, .sl .byte a.D.Seed, .int .i64 a.D.N, .int .i64 a.T.Cap, .sl .Sess a.T.L, .sl .Credit a.Cr]
def ze2(a:Ab):List V:=[.int .i64 a.Kind, .int .i64 a.Id, .sl .byte a.Cn, .sl .byte a.Sn, .int .i64 a.Tick, .sl .byte a.Cookie, .sl .byte a.Proof, .int .i64 a.Epoch, .int .i64 a.Seq, .sl .byte a.Body, .sl .byte a.Tag]
def zb3(a:Au):List V:=[.bool a.On, .int .i64 a.Due, .int .i64 a.Wait, .int .i64 a.Tries]
def zeQ(a:Ae):List V:=[.int .i64 a.Id, .sl .byte a.Psk, .int .i64 a.At.Host, .int .i64 a.At.Port, .int .i64 a.St, .sl .byte a.Cn, .int .i64 a.Fin.Kind, .int .i64 a.Fin.Id, .sl .byte a.Fin.Cn, .sl .byte a.Fin.Sn, .int .i64 a.Fin.Tick, .sl .byte a.Fin.Cookie, .sl .byte a.Fin.Proof, .int .i64 a.Fin.Epoch, .int .i64 a.Fin.Seq, .sl .byte a.Fin.Body, .sl .byte a.Fin.Tag, .int .i64 a.C.Role, .sl .byte a.C.Sn, .int .i64 a.C.Cur.N, .sl .byte a.C.Cur.Key, .int .i64 a.C.Cur.Seq, .int .i64 a.C.Cur.Win.Top, .sl .int a.C.Cur.Win.Bits, .int .i64 a.C.Old.N, .sl .byte a.C.Old.Key, .int .i64 a.C.Old.Seq, .int .i64 a.C.Old.Win.Top, .sl .int a.C.Old.Win.Bits, .bool a.C.HasOld, .int .i64 a.C.Until, .sl .byte a.C.Next, .bool a.T.On, .int .i64 a.T.Due, .int .i64 a.T.Wait, .int .i64 a.T.Tries, .bool a.R.On, .int .i64 a.R.Due, .int .i64 a.R.Wait, .int .i64 a.R.Tries, .int .i64 a.Last]
def zfm(a:Ak):List V:=[.int .i64 a.From.Host, .int .i64 a.From.Port, .int .i64 a.To.Host, .int .i64 a.To.Port, .sl .byte a.B]
def zfA(a:Ad):List V:=[.int .i64 a.Kind, .int .i64 a.Id, .int .i64 a.Role, .sl .byte a.Cn, .sl .byte a.Sn, .int .i64 a.Epoch, .int .i64 a.Seq, .sl .byte a.Body, .sl .byte a.Key, .int .i64 a.A.Host, .int .i64 a.A.Port, .int .i64 a.Now]
def zeV(a:Aa):List V:=[.int .i64 a.Now, .sl .Client a.Clients, .sl .bs a.S.Psks, .sl .byte a.S.J.Secret, .sl .byte a.S.D.Seed, .int .i64 a.S.D.N, .int .i64 a.S.T.Cap, .sl .Sess a.S.T.L, .sl .Credit a.S.Cr, .sl .byte a.D.Seed, .int .i64 a.D.N, .sl .Wire a.Seen, .sl .bs a.Known, .sl .Note a.Notes]
def zfQ(a:Ar):List V:=[.sl .byte a.b, .int .i64 a.i, .int .i64 a.h]
def zfZ(a:Aq):List V:=[.int .i64 a.To.Host, .int .i64 a.To.Port, .int .i64 a.F.Kind, .int .i64 a.F.Id, .sl .byte a.F.Cn, .sl .byte a.F.Sn, .int .i64 a.F.Tick, .sl .byte a.F.Cookie, .sl .byte a.F.Proof, .int .i64 a.F.Epoch, .int .i64 a.F.Seq, .sl .byte a.F.Body, .sl .byte a.F.Tag]
def zcb(a:Ji):List V:=[.int .i64 a.kind, .str a.words]
def zfo(a:Ba):List V:=[.sl .int a.H, .sl .byte a.Held, .int .i64 a.N]
def enc:(t:TN)→El t→List V
 | .byte,b=>[.int .u8 (b.toNat:Int)]
 | .int,n=>[.int .i64 n]
 | .bool,b=>[.bool b]
 | .str,s=>[.str s]
 | .bs,l=>[.sl .byte l]
 | .Addr,a=>zce a
 | .Op,a=>zf5 a
 | .Event,a=>ze9 a
 | .Jar,a=>zfU a
 | .Dice,a=>zfH a
 | .Win,a=>zfR a
 | .Ep,a=>zf4 a
 | .Chan,a=>zft a
 | .Cand,a=>zfq a
 | .Paths,a=>ze1 a
 | .Sess,a=>zfu a
 | .Tab,a=>zfT a
 | .Credit,a=>zbB a
 | .Server,a=>zeR a
 | .Frame,a=>ze2 a
 | .Timer,a=>zb3 a
 | .Client,a=>zeQ a
 | .Wire,a=>zfm a
 | .Note,a=>zfA a
 | .World,a=>zeV a
 | .Cur,a=>zfQ a
 | .Out,a=>zfZ a
 | .Form,a=>zcb a
 | .Hash,a=>zfo a
def sz:TN→Nat
 | .byte=>1 | .int=>1 | .bool=>1 | .str=>1 | .bs=>1
 | .Addr=>2 | .Op=>4 | .Event=>6 | .Jar=>1 | .Dice=>2 | .Win=>2 | .Ep=>5 | .Chan=>15 | .Cand=>4 | .Paths=>3 | .Sess=>24 | .Tab=>2 | .Credit=>4 | .Server=>7 | .Frame=>11 | .Timer=>4 | .Client=>41 | .Wire=>5 | .Note=>12 | .World=>14 | .Cur=>3 | .Out=>13 | .Form=>2 | .Hash=>3
def HA:V→Option Int | .int .i64 n=>some n | _=>none
def TS:V→Option UInt8 | .int .u8 n=>some (UInt8.ofNat n.toNat) | _=>none
def NH:V→Option Bool | .bool b=>some b | _=>none
def UO:V→Option (List UInt8) | .str s=>some s | _=>none
def TN.cast{s t:TN}(h:s=t)(l:List (El s)):List (El t):=h▸l
def TA(t:TN):V→Option (List (El t))
 | .sl s l=>if h:s=t then some (TN.cast h l)else none
 | .nil=>some []
 | _=>none
def tk{α β:Type}(p:V→Option α)(cs:List V)(k:α→List V→Option β):Option β:=
 match cs with
 | c :: cs=>(p c).bind λa=>k a cs
 | []=>none
def RB{β:Type}(cs:List V)(r:β):Option β:=
 match cs with
 | []=>some r
 | _=>none
def zct(cs:List V):Option Af:=
 tk HA cs λf0 cs=>
 tk HA cs λf1 cs=>
 RB cs (⟨f0,f1⟩:Af)
def zda(cs:List V):Option Az:=
 tk HA cs λf0 cs=>
 tk HA cs λf1 cs=>
 tk HA cs λf2 cs=>
 tk (TA .byte) cs λf3 cs=>
 RB cs (⟨f0,f1,f2,f3⟩:Az)
def zb9(cs:List V):Option Aj:=
 tk HA cs λf0 cs=>
 tk HA cs λf1 cs=>
 tk HA cs λf2 cs=>
 tk HA cs λf3 cs=>
 tk (TA .byte) cs λf4 cs=>
 tk (TA .Op) cs λf5 cs=>
 RB cs (⟨f0,f1,f2,f3,f4,f5⟩:Aj)
def zcY(cs:List V):Option Ax:=
 tk (TA .byte) cs λf0 cs=>
 RB cs (⟨f0⟩:Ax)
def zcy(cs:List V):Option As:=
 tk (TA .byte) cs λf0 cs=>
 tk HA cs λf1 cs=>
 RB cs (⟨f0,f1⟩:As)
def zcM(cs:List V):Option Ap:=
 tk HA cs λf0 cs=>
 tk (TA .int) cs λf1 cs=>
 RB cs (⟨f0,f1⟩:Ap)
def zc7(cs:List V):Option Av:=
 tk HA cs λf0 cs=>
 tk (TA .byte) cs λf1 cs=>
 tk HA cs λf2 cs=>
 tk HA cs λf3 cs=>
 tk (TA .int) cs λf4 cs=>
 RB cs (⟨f0,f1,f2,⟨f3,f4⟩⟩:Av)
def zcF(cs:List V):Option Am:=
 tk HA cs λf0 cs=>
 tk (TA .byte) cs λf1 cs=>
 tk HA cs λf2 cs=>
 tk (TA .byte) cs λf3 cs=>
 tk HA cs λf4 cs=>
 tk HA cs λf5 cs=>
 tk (TA .int) cs λf6 cs=>
 tk HA cs λf7 cs=>
 tk (TA .byte) cs λf8 cs=>
 tk HA cs λf9 cs=>
 tk HA cs λf10 cs=>
 tk (TA .int) cs λf11 cs=>
 tk NH cs λf12 cs=>
 tk HA cs λf13 cs=>
 tk (TA .byte) cs λf14 cs=>
 RB cs (⟨f0,f1,⟨f2,f3,f4,⟨f5,f6⟩⟩,⟨f7,f8,f9,⟨f10,f11⟩⟩,f12,f13,f14⟩:Am)
def zcm(cs:List V):Option Aw:=
 tk HA cs λf0 cs=>
 tk HA cs λf1 cs=>
 tk (TA .byte) cs λf2 cs=>
 tk HA cs λf3 cs=>
 RB cs (⟨⟨f0,f1⟩,f2,f3⟩:Aw)
def zbJ(cs:List V):Option Ah:=
 tk HA cs λf0 cs=>
 tk HA cs λf1 cs=>
 tk (TA .Cand) cs λf2 cs=>
 RB cs (⟨⟨f0,f1⟩,f2⟩:Ah)
def zcH(cs:List V):Option Ai:=
 tk HA cs λf0 cs=>
 tk (TA .byte) cs λf1 cs=>
 tk (TA .byte) cs λf2 cs=>
 tk HA cs λf3 cs=>
 tk (TA .byte) cs λf4 cs=>
 tk HA cs λf5 cs=>
 tk (TA .byte) cs λf6 cs=>
 tk HA cs λf7 cs=>
 tk HA cs λf8 cs=>
 tk (TA .int) cs λf9 cs=>
 tk HA cs λf10 cs=>
 tk (TA .byte) cs λf11 cs=>
 tk HA cs λf12 cs=>
 tk HA cs λf13 cs=>
 tk (TA .int) cs λf14 cs=>
 tk NH cs λf15 cs=>
 tk HA cs λf16 cs=>
 tk (TA .byte) cs λf17 cs=>
 tk HA cs λf18 cs=>
 tk HA cs λf19 cs=>
 tk (TA .Cand) cs λf20 cs=>
 tk HA cs λf21 cs=>
 tk HA cs λf22 cs=>
 tk NH cs λf23 cs=>
 RB cs (⟨f0,f1,f2,⟨f3,f4,⟨f5,f6,f7,⟨f8,f9⟩⟩,⟨f10,f11,f12,⟨f13,f14⟩⟩,f15,f16,f17⟩,⟨⟨f18,f19⟩,f20⟩,f21,f22,f23⟩:Ai)
def zcS(cs:List V):Option Ao:=
 tk HA cs λf0 cs=>
 tk (TA .Sess) cs λf1 cs=>
 RB cs (⟨f0,f1⟩:Ao)
def zbw(cs:List V):Option Al:=
 tk HA cs λf0 cs=>
 tk HA cs λf1 cs=>
 tk HA cs λf2 cs=>
 tk HA cs λf3 cs=>
 RB cs (⟨⟨f0,f1⟩,f2,f3⟩:Al)
def zbs(cs:List V):Option Ac:=
 tk (TA .bs) cs λf0 cs=>
 tk (TA .byte) cs λf1 cs=>
 tk (TA .byte) cs λf2 cs=>
 tk HA cs λf3 cs=>
 tk HA cs λf4 cs=>
 tk (TA .Sess) cs λf5 cs=>
 tk (TA .Credit) cs λf6 cs=>
 RB cs (⟨f0,⟨f1⟩,⟨f2,f3⟩,⟨f4,f5⟩,f6⟩:Ac)
def zbY(cs:List V):Option Ab:=
 tk HA cs λf0 cs=>
 tk HA cs λf1 cs=>
 tk (TA .byte) cs λf2 cs=>
 tk (TA .byte) cs λf3 cs=>
 tk HA cs λf4 cs=>
 tk (TA .byte) cs λf5 cs=>
 tk (TA .byte) cs λf6 cs=>
 tk HA cs λf7 cs=>
 tk HA cs λf8 cs=>
 tk (TA .byte) cs λf9 cs=>
 tk (TA .byte) cs λf10 cs=>
 RB cs (⟨f0,f1,f2,f3,f4,f5,f6,f7,f8,f9,f10⟩:Ab)
def zb2(cs:List V):Option Au:=
 tk NH cs λf0 cs=>
 tk HA cs λf1 cs=>
 tk HA cs λf2 cs=>
 tk HA cs λf3 cs=>
 RB cs (⟨f0,f1,f2,f3⟩:Au)
def zbr(cs:List V):Option Ae:=
 tk HA cs λf0 cs=>
 tk (TA .byte) cs λf1 cs=>
 tk HA cs λf2 cs=>
 tk HA cs λf3 cs=>
 tk HA cs λf4 cs=>
 tk (TA .byte) cs λf5 cs=>
 tk HA cs λf6 cs=>
 tk HA cs λf7 cs=>
 tk (TA .byte) cs λf8 cs=>
 tk (TA .byte) cs λf9 cs=>
 tk HA cs λf10 cs=>
 tk (TA .byte) cs λf11 cs=>
 tk (TA .byte) cs λf12 cs=>
 tk HA cs λf13 cs=>
 tk HA cs λf14 cs=>
 tk (TA .byte) cs λf15 cs=>
 tk (TA .byte) cs λf16 cs=>
 tk HA cs λf17 cs=>
 tk (TA .byte) cs λf18 cs=>
 tk HA cs λf19 cs=>
 tk (TA .byte) cs λf20 cs=>
 tk HA cs λf21 cs=>
 tk HA cs λf22 cs=>
 tk (TA .int) cs λf23 cs=>
 tk HA cs λf24 cs=>
 tk (TA .byte) cs λf25 cs=>
 tk HA cs λf26 cs=>
 tk HA cs λf27 cs=>
 tk (TA .int) cs λf28 cs=>
 tk NH cs λf29 cs=>
 tk HA cs λf30 cs=>
 tk (TA .byte) cs λf31 cs=>
 tk NH cs λf32 cs=>
 tk HA cs λf33 cs=>
 tk HA cs λf34 cs=>
 tk HA cs λf35 cs=>
 tk NH cs λf36 cs=>
 tk HA cs λf37 cs=>
 tk HA cs λf38 cs=>
 tk HA cs λf39 cs=>
 tk HA cs λf40 cs=>
 RB cs (⟨f0,f1,⟨f2,f3⟩,f4,f5,⟨f6,f7,f8,f9,f10,f11,f12,f13,f14,f15,f16⟩,⟨f17,f18,⟨f19,f20,f21,⟨f22,f23⟩⟩,⟨f24,f25,f26,⟨f27,f28⟩⟩,f29,f30,f31⟩,⟨f32,f33,f34,f35⟩,⟨f36,f37,f38,f39⟩,f40⟩:Ae)
def zcB(cs:List V):Option Ak:=
 tk HA cs λf0 cs=>
 tk HA cs λf1 cs=>
 tk HA cs λf2 cs=>
 tk HA cs λf3 cs=>
 tk (TA .byte) cs λf4 cs=>
 RB cs (⟨⟨f0,f1⟩,⟨f2,f3⟩,f4⟩:Ak)
def zci(cs:List V):Option Ad:=
 tk HA cs λf0 cs=>
 tk HA cs λf1 cs=>
 tk HA cs λf2 cs=>
 tk (TA .byte) cs λf3 cs=>
 tk (TA .byte) cs λf4 cs=>
 tk HA cs λf5 cs=>
 tk HA cs λf6 cs=>
 tk (TA .byte) cs λf7 cs=>
 tk (TA .byte) cs λf8 cs=>
 tk HA cs λf9 cs=>
 tk HA cs λf10 cs=>
 tk HA cs λf11 cs=>
 RB cs (⟨f0,f1,f2,f3,f4,f5,f6,f7,f8,⟨f9,f10⟩,f11⟩:Ad)
def zbM(cs:List V):Option Aa:=
 tk HA cs λf0 cs=>
 tk (TA .Client) cs λf1 cs=>
 tk (TA .bs) cs λf2 cs=>
 tk (TA .byte) cs λf3 cs=>
 tk (TA .byte) cs λf4 cs=>
 tk HA cs λf5 cs=>
 tk HA cs λf6 cs=>
 tk (TA .Sess) cs λf7 cs=>
 tk (TA .Credit) cs λf8 cs=>
 tk (TA .byte) cs λf9 cs=>
 tk HA cs λf10 cs=>
 tk (TA .Wire) cs λf11 cs=>
 tk (TA .bs) cs λf12 cs=>
 tk (TA .Note) cs λf13 cs=>
 RB cs (⟨f0,f1,⟨f2,⟨f3⟩,⟨f4,f5⟩,⟨f6,f7⟩,f8⟩,⟨f9,f10⟩,f11,f12,f13⟩:Aa)
def zc0(cs:List V):Option Ar:=
 tk (TA .byte) cs λf0 cs=>
 tk HA cs λf1 cs=>
 tk HA cs λf2 cs=>
 RB cs (⟨f0,f1,f2⟩:Ar)
def zcU(cs:List V):Option Aq:=
 tk HA cs λf0 cs=>
 tk HA cs λf1 cs=>
 tk HA cs λf2 cs=>
 tk HA cs λf3 cs=>
 tk (TA .byte) cs λf4 cs=>
 tk (TA .byte) cs λf5 cs=>
 tk HA cs λf6 cs=>
 tk (TA .byte) cs λf7 cs=>
 tk (TA .byte) cs λf8 cs=>
 tk HA cs λf9 cs=>
 tk HA cs λf10 cs=>
 tk (TA .byte) cs λf11 cs=>
 tk (TA .byte) cs λf12 cs=>
 RB cs (⟨⟨f0,f1⟩,⟨f2,f3,f4,f5,f6,f7,f8,f9,f10,f11,f12⟩⟩:Aq)
def zcr(cs:List V):Option Ji:=
 tk HA cs λf0 cs=>
 tk UO cs λf1 cs=>
 RB cs (⟨f0,f1⟩:Ji)
def zcJ(cs:List V):Option Ba:=
 tk (TA .int) cs λf0 cs=>
 tk (TA .byte) cs λf1 cs=>
 tk HA cs λf2 cs=>
 RB cs (⟨f0,f1,f2⟩:Ba)
def VE:(t:TN)→List V→Option (El t)
 | .byte,cs=>tk TS cs λb cs=>RB cs b
 | .int,cs=>tk HA cs λn cs=>RB cs n
 | .bool,cs=>tk NH cs λb cs=>RB cs b
 | .str,cs=>tk UO cs λs cs=>RB cs s
 | .bs,cs=>tk (TA .byte) cs λl cs=>RB cs l
 | .Addr,cs=>zct cs
 | .Op,cs=>zda cs
 | .Event,cs=>zb9 cs
 | .Jar,cs=>zcY cs
 | .Dice,cs=>zcy cs
 | .Win,cs=>zcM cs
 | .Ep,cs=>zc7 cs
 | .Chan,cs=>zcF cs
 | .Cand,cs=>zcm cs
 | .Paths,cs=>zbJ cs
 | .Sess,cs=>zcH cs
 | .Tab,cs=>zcS cs
 | .Credit,cs=>zbw cs
 | .Server,cs=>zbs cs
 | .Frame,cs=>zbY cs
 | .Timer,cs=>zb2 cs
 | .Client,cs=>zbr cs
 | .Wire,cs=>zcB cs
 | .Note,cs=>zci cs
 | .World,cs=>zbM cs
 | .Cur,cs=>zc0 cs
 | .Out,cs=>zcU cs
 | .Form,cs=>zcr cs
 | .Hash,cs=>zcJ cs
inductive OH:V→V→Prop where
 | refl (c:V):OH c c
 | byte (n:Int):OH (.int .u8 n) (.int .u8 ((UInt8.ofNat n.toNat).toNat:Int))
 | nil (t:TN):OH .nil (.sl t [])
inductive OB:List V→List V→Prop where
 | nil:OB [] []
 | cons {c d:V} {cs ds:List V}:OH c d→OB cs ds→OB (c :: cs) (d :: ds)
def IA{c:V}{n:Int}(h:HA c=some n):OH c (.int .i64 n):=by
 cases c<;>simp[HA]at h
 rename_i k m;cases k<;>simp at h;subst h;exact .refl _
def zsf{c:V}{b:UInt8}(h:TS c=some b):OH c (.int .u8 (b.toNat:Int)):=by
 cases c<;>simp[TS]at h
 rename_i k m;cases k<;>simp at h;subst h;exact .byte _
def xM{c:V}{b:Bool}(h:NH c=some b):OH c (.bool b):=by
 cases c<;>simp[NH]at h;subst h;exact .refl _
def zj0{c:V}{b:List UInt8}(h:UO c=some b):OH c (.str b):=by
 cases c<;>simp[UO]at h;subst h;exact .refl _
def UA{t:TN}{c:V}{l:List (El t)}(h:TA t c=some l):OH c (.sl t l):=by
 cases c<;>simp[TA]at h
 ·subst h;exact .nil t
 ·obtain⟨rfl,h⟩:=h;simp[TN.cast]at h;subst h;exact .refl _
def tA{α β:Type}{p:V→Option α}{cs:List V}{k:α→List V→Option β}{r:β}(h:tk p cs k=some r):
  ∃c cs' a,cs=c :: cs'∧p c=some a∧k a cs'=some r:=by
 cases cs with
 | nil=>simp[tk]at h
 | cons c cs=>simp only[tk,Option.bind_eq_some_iff]at h;obtain⟨a,h1,h2⟩:=h;exact⟨c,cs,a,rfl,h1,h2⟩
def xD{β:Type}{cs:List V}{r s:β}(h:RB cs r=some s):cs=[]∧r=s:=by
 cases cs<;>simp[RB]at h;exact⟨rfl,h⟩
def zpV{cs:List V}{a:Af}(h:zct cs=some a):OB cs (zce a):=by
 unfold zct at h;obtain⟨c0,cs,f0,rfl,h0,h⟩:=tA h;obtain⟨c1,cs,f1,rfl,h1,h⟩:=tA h;obtain⟨rfl,rfl⟩:=xD h;exact .cons (IA h0) (.cons (IA h1) (.nil))
def zrd{cs:List V}{a:Az}(h:zda cs=some a):OB cs (zf5 a):=by
 unfold zda at h;obtain⟨c0,cs,f0,rfl,h0,h⟩:=tA h;obtain⟨c1,cs,f1,rfl,h1,h⟩:=tA h;obtain⟨c2,cs,f2,rfl,h2,h⟩:=tA h;obtain⟨c3,cs,f3,rfl,h3,h⟩:=tA h;obtain⟨rfl,rfl⟩:=xD h;exact .cons (IA h0) (.cons (IA h1) (.cons (IA h2) (.cons (UA h3) (.nil))))
def zpn{cs:List V}{a:Aj}(h:zb9 cs=some a):OB cs (ze9 a):=by
 unfold zb9 at h;obtain⟨c0,cs,f0,rfl,h0,h⟩:=tA h;obtain⟨c1,cs,f1,rfl,h1,h⟩:=tA h;obtain⟨c2,cs,f2,rfl,h2,h⟩:=tA h;obtain⟨c3,cs,f3,rfl,h3,h⟩:=tA h;obtain⟨c4,cs,f4,rfl,h4,h⟩:=tA h;obtain⟨c5,cs,f5,rfl,h5,h⟩:=tA h;obtain⟨rfl,rfl⟩:=xD h;exact .cons (IA h0) (.cons (IA h1) (.cons (IA h2) (.cons (IA h3) (.cons (UA h4) (.cons (UA h5) (.nil))))))
def zqz{cs:List V}{a:Ax}(h:zcY cs=some a):OB cs (zfU a):=by
 unfold zcY at h;obtain⟨c0,cs,f0,rfl,h0,h⟩:=tA h;obtain⟨rfl,rfl⟩:=xD h;exact .cons (UA h0) (.nil)
def zp6{cs:List V}{a:As}(h:zcy cs=some a):OB cs (zfH a):=by
 unfold zcy at h;obtain⟨c0,cs,f0,rfl,h0,h⟩:=tA h;obtain⟨c1,cs,f1,rfl,h1,h⟩:=tA h;obtain⟨rfl,rfl⟩:=xD h;exact .cons (UA h0) (.cons (IA h1) (.nil))
def zqo{cs:List V}{a:Ap}(h:zcM cs=some a):OB cs (zfR a):=by
 unfold zcM at h;obtain⟨c0,cs,f0,rfl,h0,h⟩:=tA h;obtain⟨c1,cs,f1,rfl,h1,h⟩:=tA h;obtain⟨rfl,rfl⟩:=xD h;exact .cons (IA h0) (.cons (UA h1) (.nil))
def zrt{cs:List V}{a:Av}(h:zc7 cs=some a):OB cs (zf4 a):=by
 unfold zc7 at h;obtain⟨c0,cs,f0,rfl,h0,h⟩:=tA h;obtain⟨c1,cs,f1,rfl,h1,h⟩:=tA h;obtain⟨c2,cs,f2,rfl,h2,h⟩:=tA h;obtain⟨c3,cs,f3,rfl,h3,h⟩:=tA h;obtain⟨c4,cs,f4,rfl,h4,h⟩:=tA h;obtain⟨rfl,rfl⟩:=xD h;exact .cons (IA h0) (.cons (UA h1) (.cons (IA h2) (.cons (IA h3) (.cons (UA h4) (.nil)))))
def zpX{cs:List V}{a:Am}(h:zcF cs=some a):OB cs (zft a):=by
 unfold zcF at h;obtain⟨c0,cs,f0,rfl,h0,h⟩:=tA h;obtain⟨c1,cs,f1,rfl,h1,h⟩:=tA h;obtain⟨c2,cs,f2,rfl,h2,h⟩:=tA h;obtain⟨c3,cs,f3,rfl,h3,h⟩:=tA h;obtain⟨c4,cs,f4,rfl,h4,h⟩:=tA h;obtain⟨c5,cs,f5,rfl,h5,h⟩:=tA h;obtain⟨c6,cs,f6,rfl,h6,h⟩:=tA h;obtain⟨c7,cs,f7,rfl,h7,h⟩:=tA h;obtain⟨c8,cs,f8,rfl,h8,h⟩:=tA h;obtain⟨c9,cs,f9,rfl,h9,h⟩:=tA h;obtain⟨qG,cs,f10,rfl,mW,h⟩:=tA h;obtain⟨LG,cs,f11,rfl,GW,h⟩:=tA h;obtain⟨pJ,cs,f12,rfl,IW,h⟩:=tA h;obtain⟨AB,cs,f13,rfl,SW,h⟩:=tA h;obtain⟨c14,cs,f14,rfl,gY,h⟩:=tA h;obtain⟨rfl,rfl⟩:=xD h;exact .cons (IA h0) (.cons (UA h1) (.cons (IA h2) (.cons (UA h3) (.cons (IA h4) (.cons (IA h5) (.cons (UA h6) (.cons (IA h7) (.cons (UA h8) (.cons (IA h9) (.cons (IA mW) (.cons (UA GW) (.cons (xM IW) (.cons (IA SW) (.cons (UA gY) (.nil)))))))))))))))
def zpE{cs:List V}{a:Aw}(h:zcm cs=some a):OB cs (zfq a):=by
 unfold zcm at h;obtain⟨c0,cs,f0,rfl,h0,h⟩:=tA h;obtain⟨c1,cs,f1,rfl,h1,h⟩:=tA h;obtain⟨c2,cs,f2,rfl,h2,h⟩:=tA h;obtain⟨c3,cs,f3,rfl,h3,h⟩:=tA h;obtain⟨rfl,rfl⟩:=xD h;exact .cons (IA h0) (.cons (IA h1) (.cons (UA h2) (.cons (IA h3) (.nil))))
def zo7{cs:List V}{a:Ah}(h:zbJ cs=some a):OB cs (ze1 a):=by
 unfold zbJ at h;obtain⟨c0,cs,f0,rfl,h0,h⟩:=tA h;obtain⟨c1,cs,f1,rfl,h1,h⟩:=tA h;obtain⟨c2,cs,f2,rfl,h2,h⟩:=tA h;obtain⟨rfl,rfl⟩:=xD h;exact .cons (IA h0) (.cons (IA h1) (.cons (UA h2) (.nil)))
def zpD{cs:List V}{a:Ai}(h:zcH cs=some a):OB cs (zfu a):=by
 unfold zcH at h;obtain⟨c0,cs,f0,rfl,h0,h⟩:=tA h;obtain⟨c1,cs,f1,rfl,h1,h⟩:=tA h;obtain⟨c2,cs,f2,rfl,h2,h⟩:=tA h;obtain⟨c3,cs,f3,rfl,h3,h⟩:=tA h;obtain⟨c4,cs,f4,rfl,h4,h⟩:=tA h;obtain⟨c5,cs,f5,rfl,h5,h⟩:=tA h;obtain⟨c6,cs,f6,rfl,h6,h⟩:=tA h;obtain⟨c7,cs,f7,rfl,h7,h⟩:=tA h;obtain⟨c8,cs,f8,rfl,h8,h⟩:=tA h;obtain⟨c9,cs,f9,rfl,h9,h⟩:=tA h;obtain⟨qG,cs,f10,rfl,mW,h⟩:=tA h;obtain⟨LG,cs,f11,rfl,GW,h⟩:=tA h;obtain⟨pJ,cs,f12,rfl,IW,h⟩:=tA h;obtain⟨AB,cs,f13,rfl,SW,h⟩:=tA h;obtain⟨c14,cs,f14,rfl,gY,h⟩:=tA h;obtain⟨vV,cs,f15,rfl,iY,h⟩:=tA h;obtain⟨tV,cs,f16,rfl,oY,h⟩:=tA h;obtain⟨c17,cs,f17,rfl,YY,h⟩:=tA h;obtain⟨zV,cs,f18,rfl,T0,h⟩:=tA h;obtain⟨LH,cs,f19,rfl,qZ,h⟩:=tA h;obtain⟨c20,cs,f20,rfl,rZ,h⟩:=tA h;obtain⟨c21,cs,f21,rfl,NZ,h⟩:=tA h;obtain⟨c22,cs,f22,rfl,B1,h⟩:=tA h;obtain⟨AV,cs,f23,rfl,OZ,h⟩:=tA h;obtain⟨rfl,rfl⟩:=xD h;exact .cons (IA h0) (.cons (UA h1) (.cons (UA h2) (.cons (IA h3) (.cons (UA h4) (.cons (IA h5) (.cons (UA h6) (.cons (IA h7) (.cons (IA h8) (.cons (UA h9) (.cons (IA mW) (.cons (UA GW) (.cons (IA IW) (.cons (IA SW) (.cons (UA gY) (.cons (xM iY) (.cons (IA oY) (.cons (UA YY) (.cons (IA T0) (.cons (IA qZ) (.cons (UA rZ) (.cons (IA NZ) (.cons (IA B1) (.cons (xM OZ) (.nil))))))))))))))))))))))))
def zqO{cs:List V}{a:Ao}(h:zcS cs=some a):OB cs (zfT a):=by
 unfold zcS at h;obtain⟨c0,cs,f0,rfl,h0,h⟩:=tA h;obtain⟨c1,cs,f1,rfl,h1,h⟩:=tA h;obtain⟨rfl,rfl⟩:=xD h;exact .cons (IA h0) (.cons (UA h1) (.nil))
def zoO{cs:List V}{a:Al}(h:zbw cs=some a):OB cs (zbB a):=by
 unfold zbw at h;obtain⟨c0,cs,f0,rfl,h0,h⟩:=tA h;obtain⟨c1,cs,f1,rfl,h1,h⟩:=tA h;obtain⟨c2,cs,f2,rfl,h2,h⟩:=tA h;obtain⟨c3,cs,f3,rfl,h3,h⟩:=tA h;obtain⟨rfl,rfl⟩:=xD h;exact .cons (IA h0) (.cons (IA h1) (.cons (IA h2) (.cons (IA h3) (.nil))))
def zow{cs:List V}{a:Ac}(h:zbs cs=some a):OB cs (zeR a):=by
 unfold zbs at h;obtain⟨c0,cs,f0,rfl,h0,h⟩:=tA h;obtain⟨c1,cs,f1,rfl,h1,h⟩:=tA h;obtain⟨c2,cs,f2,rfl,h2,h⟩:=tA h;obtain⟨c3,cs,f3,rfl,h3,h⟩:=tA h;obtain⟨c4,cs,f4,rfl,h4,h⟩:=tA h;obtain⟨c5,cs,f5,rfl,h5,h⟩:=tA h;obtain⟨c6,cs,f6,rfl,h6,h⟩:=tA h;obtain⟨rfl,rfl⟩:=xD h;exact .cons (UA h0) (.cons (UA h1) (.cons (UA h2) (.cons (IA h3) (.cons (IA h4) (.cons (UA h5) (.cons (UA h6) (.nil)))))))
def zps{cs:List V}{a:Ab}(h:zbY cs=some a):OB cs (ze2 a):=by
 unfold zbY at h;obtain⟨c0,cs,f0,rfl,h0,h⟩:=tA h;obtain⟨c1,cs,f1,rfl,h1,h⟩:=tA h;obtain⟨c2,cs,f2,rfl,h2,h⟩:=tA h;obtain⟨c3,cs,f3,rfl,h3,h⟩:=tA h;obtain⟨c4,cs,f4,rfl,h4,h⟩:=tA h;obtain⟨c5,cs,f5,rfl,h5,h⟩:=tA h;obtain⟨c6,cs,f6,rfl,h6,h⟩:=tA h;obtain⟨c7,cs,f7,rfl,h7,h⟩:=tA h;obtain⟨c8,cs,f8,rfl,h8,h⟩:=tA h;obtain⟨c9,cs,f9,rfl,h9,h⟩:=tA h;obtain⟨qG,cs,f10,rfl,mW,h⟩:=tA h;obtain⟨rfl,rfl⟩:=xD h;exact .cons (IA h0) (.cons (IA h1) (.cons (UA h2) (.cons (UA h3) (.cons (IA h4) (.cons (UA h5) (.cons (UA h6) (.cons (IA h7) (.cons (IA h8) (.cons (UA h9) (.cons (UA mW) (.nil)))))))))))
def zpk{cs:List V}{a:Au}(h:zb2 cs=some a):OB cs (zb3 a):=by
 unfold zb2 at h;obtain⟨c0,cs,f0,rfl,h0,h⟩:=tA h;obtain⟨c1,cs,f1,rfl,h1,h⟩:=tA h;obtain⟨c2,cs,f2,rfl,h2,h⟩:=tA h;obtain⟨c3,cs,f3,rfl,h3,h⟩:=tA h;obtain⟨rfl,rfl⟩:=xD h;exact .cons (xM h0) (.cons (IA h1) (.cons (IA h2) (.cons (IA h3) (.nil))))
def zop{cs:List V}{a:Ae}(h:zbr cs=some a):OB cs (zeQ a):=by
 unfold zbr at h;obtain⟨c0,cs,f0,rfl,h0,h⟩:=tA h;obtain⟨c1,cs,f1,rfl,h1,h⟩:=tA h;obtain⟨c2,cs,f2,rfl,h2,h⟩:=tA h;obtain⟨c3,cs,f3,rfl,h3,h⟩:=tA h;obtain⟨c4,cs,f4,rfl,h4,h⟩:=tA h;obtain⟨c5,cs,f5,rfl,h5,h⟩:=tA h;obtain⟨c6,cs,f6,rfl,h6,h⟩:=tA h;obtain⟨c7,cs,f7,rfl,h7,h⟩:=tA h;obtain⟨c8,cs,f8,rfl,h8,h⟩:=tA h;obtain⟨c9,cs,f9,rfl,h9,h⟩:=tA h;obtain⟨qG,cs,f10,rfl,mW,h⟩:=tA h;obtain⟨LG,cs,f11,rfl,GW,h⟩:=tA h;obtain⟨pJ,cs,f12,rfl,IW,h⟩:=tA h;obtain⟨AB,cs,f13,rfl,SW,h⟩:=tA h;obtain⟨c14,cs,f14,rfl,gY,h⟩:=tA h;obtain⟨vV,cs,f15,rfl,iY,h⟩:=tA h;obtain⟨tV,cs,f16,rfl,oY,h⟩:=tA h;obtain⟨c17,cs,f17,rfl,YY,h⟩:=tA h;obtain⟨zV,cs,f18,rfl,T0,h⟩:=tA h;obtain⟨LH,cs,f19,rfl,qZ,h⟩:=tA h;obtain⟨c20,cs,f20,rfl,rZ,h⟩:=tA h;obtain⟨c21,cs,f21,rfl,NZ,h⟩:=tA h;obtain⟨c22,cs,f22,rfl,B1,h⟩:=tA h;obtain⟨AV,cs,f23,rfl,OZ,h⟩:=tA h;obtain⟨lC,cs,f24,rfl,C1,h⟩:=tA h;obtain⟨RO,cs,f25,rfl,L4,h⟩:=tA h;obtain⟨c26,cs,f26,rfl,L8,h⟩:=tA h;obtain⟨c27,cs,f27,rfl,X4,h⟩:=tA h;obtain⟨c28,cs,f28,rfl,U7,h⟩:=tA h;obtain⟨c29,cs,f29,rfl,V7,h⟩:=tA h;obtain⟨c30,cs,f30,rfl,Y4,h⟩:=tA h;obtain⟨c31,cs,f31,rfl,Z4,h⟩:=tA h;obtain⟨c32,cs,f32,rfl,M8,h⟩:=tA h;obtain⟨rV,cs,f33,rfl,N8,h⟩:=tA h;obtain⟨qV,cs,f34,rfl,O8,h⟩:=tA h;obtain⟨YS,cs,f35,rfl,P8,h⟩:=tA h;obtain⟨c36,cs,f36,rfl,Q8,h⟩:=tA h;obtain⟨KG,cs,f37,rfl,R8,h⟩:=tA h;obtain⟨c38,cs,f38,rfl,h38,h⟩:=tA h;obtain⟨c39,cs,f39,rfl,h39,h⟩:=tA h;obtain⟨KH,cs,f40,rfl,h40,h⟩:=tA h;obtain⟨rfl,rfl⟩:=xD h;exact .cons (IA h0) (.cons (UA h1) (.cons (IA h2) (.cons (IA h3) (.cons (IA h4) (.cons (UA h5) (.cons (IA h6) (.cons (IA h7) (.cons (UA h8) (.cons (UA h9) (.cons (IA mW) (.cons (UA GW) (.cons (UA IW) (.cons (IA SW) (.cons (IA gY) (.cons (UA iY) (.cons (UA oY) (.cons (IA YY) (.cons (UA T0) (.cons (IA qZ) (.cons (UA rZ) (.cons (IA NZ) (.cons (IA B1) (.cons (UA OZ) (.cons (IA C1) (.cons (UA L4) (.cons (IA L8) (.cons (IA X4) (.cons (UA U7) (.cons (xM V7) (.cons (IA Y4) (.cons (UA Z4) (.cons (xM M8) (.cons (IA N8) (.cons (IA O8) (.cons (IA P8) (.cons (xM Q8) (.cons (IA R8) (.cons (IA h38) (.cons (IA h39) (.cons (IA h40) (.nil)))))))))))))))))))))))))))))))))))))))))
def zqa{cs:List V}{a:Ak}(h:zcB cs=some a):OB cs (zfm a):=by
 unfold zcB at h;obtain⟨c0,cs,f0,rfl,h0,h⟩:=tA h;obtain⟨c1,cs,f1,rfl,h1,h⟩:=tA h;obtain⟨c2,cs,f2,rfl,h2,h⟩:=tA h;obtain⟨c3,cs,f3,rfl,h3,h⟩:=tA h;obtain⟨c4,cs,f4,rfl,h4,h⟩:=tA h;obtain⟨rfl,rfl⟩:=xD h;exact .cons (IA h0) (.cons (IA h1) (.cons (IA h2) (.cons (IA h3) (.cons (UA h4) (.nil)))))
def zp5{cs:List V}{a:Ad}(h:zci cs=some a):OB cs (zfA a):=by
 unfold zci at h;obtain⟨c0,cs,f0,rfl,h0,h⟩:=tA h;obtain⟨c1,cs,f1,rfl,h1,h⟩:=tA h;obtain⟨c2,cs,f2,rfl,h2,h⟩:=tA h;obtain⟨c3,cs,f3,rfl,h3,h⟩:=tA h;obtain⟨c4,cs,f4,rfl,h4,h⟩:=tA h;obtain⟨c5,cs,f5,rfl,h5,h⟩:=tA h;obtain⟨c6,cs,f6,rfl,h6,h⟩:=tA h;obtain⟨c7,cs,f7,rfl,h7,h⟩:=tA h;obtain⟨c8,cs,f8,rfl,h8,h⟩:=tA h;obtain⟨c9,cs,f9,rfl,h9,h⟩:=tA h;obtain⟨qG,cs,f10,rfl,mW,h⟩:=tA h;obtain⟨LG,cs,f11,rfl,GW,h⟩:=tA h;obtain⟨rfl,rfl⟩:=xD h;exact .cons (IA h0) (.cons (IA h1) (.cons (IA h2) (.cons (UA h3) (.cons (UA h4) (.cons (IA h5) (.cons (IA h6) (.cons (UA h7) (.cons (UA h8) (.cons (IA h9) (.cons (IA mW) (.cons (IA GW) (.nil))))))))))))
def zpd{cs:List V}{a:Aa}(h:zbM cs=some a):OB cs (zeV a):=by
 unfold zbM at h;obtain⟨c0,cs,f0,rfl,h0,h⟩:=tA h;obtain⟨c1,cs,f1,rfl,h1,h⟩:=tA h;obtain⟨c2,cs,f2,rfl,h2,h⟩:=tA h;obtain⟨c3,cs,f3,rfl,h3,h⟩:=tA h;obtain⟨c4,cs,f4,rfl,h4,h⟩:=tA h;obtain⟨c5,cs,f5,rfl,h5,h⟩:=tA h;obtain⟨c6,cs,f6,rfl,h6,h⟩:=tA h;obtain⟨c7,cs,f7,rfl,h7,h⟩:=tA h;obtain⟨c8,cs,f8,rfl,h8,h⟩:=tA h;obtain⟨c9,cs,f9,rfl,h9,h⟩:=tA h;obtain⟨qG,cs,f10,rfl,mW,h⟩:=tA h;obtain⟨LG,cs,f11,rfl,GW,h⟩:=tA h;obtain⟨pJ,cs,f12,rfl,IW,h⟩:=tA h;obtain⟨AB,cs,f13,rfl,SW,h⟩:=tA h;obtain⟨rfl,rfl⟩:=xD h;exact .cons (IA h0) (.cons (UA h1) (.cons (UA h2) (.cons (UA h3) (.cons (UA h4) (.cons (IA h5) (.cons (IA h6) (.cons (UA h7) (.cons (UA h8) (.cons (UA h9) (.cons (IA mW) (.cons (UA GW) (.cons (UA IW) (.cons (UA SW) (.nil))))))))))))))
def zqw{cs:List V}{a:Ar}(h:zc0 cs=some a):OB cs (zfQ a):=by
 unfold zc0 at h;obtain⟨c0,cs,f0,rfl,h0,h⟩:=tA h;obtain⟨c1,cs,f1,rfl,h1,h⟩:=tA h;obtain⟨c2,cs,f2,rfl,h2,h⟩:=tA h;obtain⟨rfl,rfl⟩:=xD h;exact .cons (UA h0) (.cons (IA h1) (.cons (IA h2) (.nil)))
def zqh{cs:List V}{a:Aq}(h:zcU cs=some a):OB cs (zfZ a):=by
 unfold zcU at h;obtain⟨c0,cs,f0,rfl,h0,h⟩:=tA h;obtain⟨c1,cs,f1,rfl,h1,h⟩:=tA h;obtain⟨c2,cs,f2,rfl,h2,h⟩:=tA h;obtain⟨c3,cs,f3,rfl,h3,h⟩:=tA h;obtain⟨c4,cs,f4,rfl,h4,h⟩:=tA h;obtain⟨c5,cs,f5,rfl,h5,h⟩:=tA h;obtain⟨c6,cs,f6,rfl,h6,h⟩:=tA h;obtain⟨c7,cs,f7,rfl,h7,h⟩:=tA h;obtain⟨c8,cs,f8,rfl,h8,h⟩:=tA h;obtain⟨c9,cs,f9,rfl,h9,h⟩:=tA h;obtain⟨qG,cs,f10,rfl,mW,h⟩:=tA h;obtain⟨LG,cs,f11,rfl,GW,h⟩:=tA h;obtain⟨pJ,cs,f12,rfl,IW,h⟩:=tA h;obtain⟨rfl,rfl⟩:=xD h;exact .cons (IA h0) (.cons (IA h1) (.cons (IA h2) (.cons (IA h3) (.cons (UA h4) (.cons (UA h5) (.cons (IA h6) (.cons (UA h7) (.cons (UA h8) (.cons (IA h9) (.cons (IA mW) (.cons (UA GW) (.cons (UA IW) (.nil)))))))))))))
def zp2{cs:List V}{a:Ji}(h:zcr cs=some a):OB cs (zcb a):=by
 unfold zcr at h;obtain⟨c0,cs,f0,rfl,h0,h⟩:=tA h;obtain⟨c1,cs,f1,rfl,h1,h⟩:=tA h;obtain⟨rfl,rfl⟩:=xD h;exact .cons (IA h0) (.cons (zj0 h1) (.nil))
def zpI{cs:List V}{a:Ba}(h:zcJ cs=some a):OB cs (zfo a):=by
 unfold zcJ at h;obtain⟨c0,cs,f0,rfl,h0,h⟩:=tA h;obtain⟨c1,cs,f1,rfl,h1,h⟩:=tA h;obtain⟨c2,cs,f2,rfl,h2,h⟩:=tA h;obtain⟨rfl,rfl⟩:=xD h;exact .cons (UA h0) (.cons (UA h1) (.cons (IA h2) (.nil)))
def xF:(t:TN)→{cs:List V}→{a:El t}→VE t cs=some a→OB cs (enc t a)
 | .byte,cs,a,h=>by
  obtain⟨c0,cs,f0,rfl,h0,h⟩:=tA (show tk TS cs (λb cs=>RB cs b)=some a from h);obtain⟨rfl,rfl⟩:=xD h;exact .cons (zsf h0) .nil
 | .int,cs,a,h=>by
  obtain⟨c0,cs,f0,rfl,h0,h⟩:=tA (show tk HA cs (λb cs=>RB cs b)=some a from h);obtain⟨rfl,rfl⟩:=xD h;exact .cons (IA h0) .nil
 | .bool,cs,a,h=>by
  obtain⟨c0,cs,f0,rfl,h0,h⟩:=tA (show tk NH cs (λb cs=>RB cs b)=some a from h);obtain⟨rfl,rfl⟩:=xD h;exact .cons (xM h0) .nil
 | .str,cs,a,h=>by
  obtain⟨c0,cs,f0,rfl,h0,h⟩:=tA (show tk UO cs (λb cs=>RB cs b)=some a from h);obtain⟨rfl,rfl⟩:=xD h;exact .cons (zj0 h0) .nil
 | .bs,cs,a,h=>by
  obtain⟨c0,cs,f0,rfl,h0,h⟩:=tA (show tk (TA .byte) cs (λb cs=>RB cs b)=some a from h);obtain⟨rfl,rfl⟩:=xD h;exact .cons (UA h0) .nil
 | .Addr,_,_,h=>zpV h
 | .Op,_,_,h=>zrd h
 | .Event,_,_,h=>zpn h
 | .Jar,_,_,h=>zqz h
 | .Dice,_,_,h=>zp6 h
 | .Win,_,_,h=>zqo h
 | .Ep,_,_,h=>zrt h
 | .Chan,_,_,h=>zpX h
 | .Cand,_,_,h=>zpE h
 | .Paths,_,_,h=>zo7 h
 | .Sess,_,_,h=>zpD h
 | .Tab,_,_,h=>zqO h
 | .Credit,_,_,h=>zoO h
 | .Server,_,_,h=>zow h
 | .Frame,_,_,h=>zps h
 | .Timer,_,_,h=>zpk h
 | .Client,_,_,h=>zop h
 | .Wire,_,_,h=>zqa h
 | .Note,_,_,h=>zp5 h
 | .World,_,_,h=>zpd h
 | .Cur,_,_,h=>zqw h
 | .Out,_,_,h=>zqh h
 | .Form,_,_,h=>zp2 h
 | .Hash,_,_,h=>zpI h
def cD(t:TN)(a:El t):(enc t a).length=sz t:=by cases t<;>rfl
def uO(t:TN):0<sz t:=by cases t<;>simp[sz]
def V.leaf:V→Bool
 | .undef | .agg _ | .tup _=>false
 | _=>true
def zjf(t:TN)(a:El t):(enc t a).all V.leaf=true:=by cases t<;>rfl
def TN.isAgg:TN→Bool
 | .byte | .int | .bool | .str | .bs=>false
 | _=>true
end Go.D
namespace Go.D
class jA where
 tn:TypeId→Option TN
 base:Nat
end Go.D
namespace Go.D
structure RI where
 b:Nat
 n:Nat
 cap:Nat
 nl:Bool
def AF[jA](w:World)(b:Nat)(t:TN):Prop:=∃c e z,w.heap[b]?=some (.cells c e z)∧jA.tn e=some t
def oE(k:IntKind)(n:Int):Prop:=k.min≤n∧n≤k.max
def at_(b o:Nat):Addr:=⟨b,o,none⟩
variable [jA]
inductive VR(w:World)(ρ:Nat→Option RI)(bad:Nat→Prop):Value→V→Prop where
 | undef (v:Value):VR w ρ bad v .undef
 | bool (b:Bool):VR w ρ bad (.bool b) (.bool b)
 | int (k:IntKind) (n:Int) (h:oE k n):VR w ρ bad (.int k n) (.int k n)
 | str (s:List UInt8) (h:s.length≤maxLen):VR w ρ bad (.string ⟨s.toArray⟩) (.str s)
 | nil:VR w ρ bad (.slice none 0 0) .nil
 | slE (t:TN) (a:Option Addr) (cap:Nat) (h:cap≤maxLen):VR w ρ bad (.slice a 0 cap) (.sl t [])
 | slC (t:TN) (l:List (El t)) (b off cap:Nat) (u:Nat→Nat→Value) (hb:¬bad b) (hl:l.length≤cap) (hc:cap≤maxLen) (he:l≠[]→b<jA.base∨AF w b t)
   (hu:∀i,i<l.length→∀j,j<sz t→w.cell? (at_ b (off+i *sz t+j))=some (u i j))
   (hv:∀i (h:i<l.length) j,j<sz t→VR w ρ bad (u i j) ((enc t l[i]).getD j .undef)):
   VR w ρ bad (.slice (some (at_ b off)) l.length cap) (.sl t l)
 | ow (r:Nat) (ri:RI) (h:ρ r=some ri) (hn:ri.n≤ri.cap) (hc:ri.cap≤maxLen) (YV:ri.nl=false):VR w ρ bad (.slice (some (at_ ri.b 0)) ri.n ri.cap) (.ow r)
 | owN (r:Nat) (ri:RI) (ao:Option Addr) (h:ρ r=some ri) (hn:ri.n=0) (YV:ri.nl=true):VR w ρ bad (.slice ao 0 0) (.ow r)
 | ov (r:Nat) (t:TN) (off len cap:Nat) (a:Option Addr) (ri:RI) (h:ρ r=some ri) (b5:off+len≤ri.n) (ha:len=0∧cap=0∨a=some (at_ ri.b (off *sz t))∧ri.nl=false∧off+cap≤ri.cap)
   (hl:len≤cap) (hc:cap≤maxLen):VR w ρ bad (.slice a len cap) (.ov r t off len)
 | bp (r off:Nat) (ri:RI) (h:ρ r=some ri) (YV:ri.nl=false):VR w ρ bad (.pointer (some (at_ ri.b off))) (.bp r off)
 | ep (r:Nat) (t:TN) (i off:Nat) (ri:RI) (h:ρ r=some ri) (YV:ri.nl=false):VR w ρ bad (.pointer (some (at_ ri.b (i *sz t+off)))) (.ep r t i off)
 | fp (cs:List V) (off b o:Nat) (u:Nat→Value) (h0:0<cs.length) (hb:¬bad b) (hu:∀j,j<cs.length→w.cell? (at_ b (o+j))=some (u j))
   (hv:∀j (h:j<cs.length),VR w ρ bad (u j) cs[j]):VR w ρ bad (.pointer (some (at_ b (o+off)))) (.fp cs off)
 | fn (f:Nat) (cs:List V) (caps:Array Value) (hs:caps.size=cs.length) (hv:∀j (h:j<cs.length),VR w ρ bad (caps.getD j undef) cs[j]):
   VR w ρ bad (.func (.func f) #[] caps) (.fn f cs)
 | agg (cs:List V) (vs:Array Value) (hs:vs.size=cs.length) (hv:∀j (h:j<cs.length),VR w ρ bad (vs.getD j undef) cs[j]):VR w ρ bad (.agg vs) (.agg cs)
 | tup (cs:List V) (vs:Array Value) (hs:vs.size=cs.length) (hv:∀j (h:j<cs.length),VR w ρ bad (vs.getD j undef) cs[j]):VR w ρ bad (.tuple vs) (.tup cs)
 | nili:VR w ρ bad .nilIface .nili
 | ifc (t:TypeId) (v:Value):VR w ρ bad (.iface t v) (.ifc false)
 | ifn:VR w ρ bad .nilIface (.ifc true)
inductive tB(S:Nat→Prop):V→Prop where
 | undef:tB S .undef
 | bool (b:Bool):tB S (.bool b)
 | int (k:IntKind) (n:Int):tB S (.int k n)
 | str (s:List UInt8):tB S (.str s)
 | nil:tB S .nil
 | sl (t:TN) (l:List (El t)) (h:∀i (h:i<l.length) j,j<sz t→tB S ((enc t l[i]).getD j .undef)):tB S (.sl t l)
 | ow (r:Nat) (h:S r):tB S (.ow r)
 | ov (r:Nat) (t:TN) (off len:Nat) (h:S r):tB S (.ov r t off len)
 | bp (r off:Nat) (h:S r):tB S (.bp r off)
 | ep (r:Nat) (t:TN) (i off:Nat) (h:S r):tB S (.ep r t i off)
 | fp (cs:List V) (off:Nat) (h:∀j (h:j<cs.length),tB S cs[j]):tB S (.fp cs off)
 | fn (f:Nat) (cs:List V) (h:∀j (h:j<cs.length),tB S cs[j]):tB S (.fn f cs)
 | agg (cs:List V) (h:∀j (h:j<cs.length),tB S cs[j]):tB S (.agg cs)
 | tup (cs:List V) (h:∀j (h:j<cs.length),tB S cs[j]):tB S (.tup cs)
 | nili:tB S .nili
 | ifc (b:Bool):tB S (.ifc b)
section
variable {w:World} {ρ:Nat→Option RI} {bad:Nat→Prop} {v:Value} {d:V}
def VR.refs(h:VR w ρ bad v d):tB (λr=>ρ r≠none) d:=by
 induction h with
 | undef=>exact .undef
 | bool=>exact .bool _
 | int=>exact .int _ _
 | str=>exact .str _
 | nil=>exact .nil
 | slE=>exact .sl _ _ (λi h=>by simp at h)
 | slC t l b off cap u hb hl hc he hu hv ih=>exact .sl _ _ ih
 | ow r ri h=>exact .ow _ (by simp[h])
 | owN r ri ao h=>exact .ow _ (by simp[h])
 | ov r t off len cap a ri h=>exact .ov _ _ _ _ (by simp[h])
 | bp r off ri h=>exact .bp _ _ (by simp[h])
 | ep r t i off ri h=>exact .ep _ _ _ _ (by simp[h])
 | fp cs off b o u h0 hb hu hv ih=>exact .fp _ _ ih
 | fn f cs caps hs hv ih=>exact .fn _ _ ih
 | agg cs vs hs hv ih=>exact .agg _ ih
 | tup cs vs hs hv ih=>exact .tup _ ih
 | nili=>exact .nili
 | ifc=>exact .ifc _
 | ifn=>exact .ifc _
omit [jA]in
def AU{w:World}{b o:Nat}{u:Value}(h:w.cell? (at_ b o)=some u):b<w.heap.size:=by
 rcases Nat.lt_or_ge b w.heap.size with h' | h'
 ·exact h'
 ·simp[World.cell?,at_,Array.getElem?_eq_none h']at h
omit [jA]in
def MJ{w w':World}{b o:Nat}(h:w'.heap[b]?=w.heap[b]?):w'.cell? (at_ b o)=w.cell? (at_ b o):=by
 simp[World.cell?,at_,h]
def AF.same{w w':World}{b:Nat}{t:TN}(h:AF w b t)(hw:w'.heap[b]?=w.heap[b]?):AF w' b t:=by
 obtain⟨c,e,z,h1,h2⟩:=h;exact⟨c,e,z,hw.trans h1,h2⟩
def AF.uniq{w:World}{b:Nat}{t t':TN}(h:AF w b t)(h':AF w b t'):t=t':=by
 obtain⟨c,e,z,h1,h2⟩:=h;obtain⟨c',e',z',h1',h2'⟩:=h'
 grind
def VR.keep{w':World}{ρ':Nat→Option RI}{bad':Nat→Prop}{S:Nat→Prop}(h:VR w ρ bad v d)(hS:tB S d)
  (hρ:∀r ri,S r→ρ r=some ri→ρ' r=some ri)
  (hw:∀b,¬bad b→b<w.heap.size→w'.heap[b]?=w.heap[b]?) (hb:∀b,bad' b→bad b∨w.heap.size≤b):VR w' ρ' bad' v d:=by
 have aW:∀b,¬bad b→b<w.heap.size→¬bad' b:=λb h1 h2 h3=>(hb b h3).elim h1 (by omega);induction h with
 | undef=>exact .undef _
 | bool=>exact .bool _
 | int k n h=>exact .int _ _ h
 | str s h=>exact .str _ h
 | nil=>exact .nil
 | slE t a cap h=>exact .slE _ _ _ h
 | slC t l b off cap u hb hl hc he hu hv ih=>
  by_cases D1:l.length=0
  ·obtain rfl:l=[]:=List.eq_nil_of_length_eq_zero D1;exact .slE _ _ _ hc
  ·have MV:b<w.heap.size:=AU (hu 0 (by omega) 0 (uO t));cases hS with
   | sl _ _ hS=>
   exact .slC t l b off cap u (aW b hb MV) hl hc (λh0=>(he h0).imp id λk=>k.same (hw b hb MV)) (λi h j hj=>(MJ (hw b hb MV)).trans (hu i h j hj)) (λi h j hj=>ih i h j hj (hS i h j hj))
 | ow r ri h hn hc YV=>cases hS with | ow _ hs=>exact .ow _ _ (hρ _ _ hs h) hn hc YV
 | owN r ri ao h hn YV=>cases hS with | ow _ hs=>exact .owN _ _ _ (hρ _ _ hs h) hn YV
 | ov r t off len cap a ri h b5 ha hl hc=>cases hS with | ov _ _ _ _ hs=>exact .ov _ _ _ _ _ _ _ (hρ _ _ hs h) b5 ha hl hc
 | bp r off ri h YV=>cases hS with | bp _ _ hs=>exact .bp _ _ _ (hρ _ _ hs h) YV
 | ep r t i off ri h YV=>cases hS with | ep _ _ _ _ hs=>exact .ep _ _ _ _ _ (hρ _ _ hs h) YV
 | fp cs off b o u h0 hb hu hv ih=>
  cases hS with
  | fp _ _ hS=>
  have MV:b<w.heap.size:=AU (hu 0 h0);exact .fp cs off b o u h0 (aW b hb MV) (λj hj=>(MJ (hw b hb MV)).trans (hu j hj)) (λj hj=>ih j hj (hS j hj))
 | fn f cs caps hs hv ih=>cases hS with | fn _ _ hS=>exact .fn _ _ _ hs (λj hj=>ih j hj (hS j hj))
 | agg cs vs hs hv ih=>cases hS with | agg _ hS=>exact .agg _ _ hs (λj hj=>ih j hj (hS j hj))
 | tup cs vs hs hv ih=>cases hS with | tup _ hS=>exact .tup _ _ hs (λj hj=>ih j hj (hS j hj))
 | nili=>exact .nili
 | ifc=>exact .ifc _ _
 | ifn=>exact .ifn
def PS(w:World)(b:Nat):Prop:=∃o u,w.cell? (at_ b o)=some u
def VR.keep2{w':World}{ρ':Nat→Option RI}{bad':Nat→Prop}{S:Nat→Prop}(h:VR w ρ bad v d)(hS:tB S d)
  (hρ:∀r ri,S r→ρ r=some ri→ρ' r=some ri)
  (hw:∀b,¬bad b→PS w b→w'.heap[b]?=w.heap[b]?) (hb:∀b,PS w b→bad' b→bad b):VR w' ρ' bad' v d:=by
 have aW:∀b,¬bad b→PS w b→¬bad' b:=λb h1 h2 h3=>h1 (hb b h2 h3);induction h with
 | undef=>exact .undef _
 | bool=>exact .bool _
 | int k n h=>exact .int _ _ h
 | str s h=>exact .str _ h
 | nil=>exact .nil
 | slE t a cap h=>exact .slE _ _ _ h
 | slC t l b off cap u hb hl hc he hu hv ih=>
  by_cases D1:l.length=0
  ·obtain rfl:l=[]:=List.eq_nil_of_length_eq_zero D1;exact .slE _ _ _ hc
  ·have MV:PS w b:=⟨_,_,hu 0 (by omega) 0 (uO t)⟩;cases hS with
   | sl _ _ hS=>
   exact .slC t l b off cap u (aW b hb MV) hl hc (λh0=>(he h0).imp id λk=>k.same (hw b hb MV)) (λi h j hj=>(MJ (hw b hb MV)).trans (hu i h j hj)) (λi h j hj=>ih i h j hj (hS i h j hj))
 | ow r ri h hn hc YV=>cases hS with | ow _ hs=>exact .ow _ _ (hρ _ _ hs h) hn hc YV
 | owN r ri ao h hn YV=>cases hS with | ow _ hs=>exact .owN _ _ _ (hρ _ _ hs h) hn YV
 | ov r t off len cap a ri h b5 ha hl hc=>cases hS with | ov _ _ _ _ hs=>exact .ov _ _ _ _ _ _ _ (hρ _ _ hs h) b5 ha hl hc
 | bp r off ri h YV=>cases hS with | bp _ _ hs=>exact .bp _ _ _ (hρ _ _ hs h) YV
 | ep r t i off ri h YV=>cases hS with | ep _ _ _ _ hs=>exact .ep _ _ _ _ _ (hρ _ _ hs h) YV
 | fp cs off b o u h0 hb hu hv ih=>
  cases hS with
  | fp _ _ hS=>
  have MV:PS w b:=⟨_,_,hu 0 h0⟩;exact .fp cs off b o u h0 (aW b hb MV) (λj hj=>(MJ (hw b hb MV)).trans (hu j hj)) (λj hj=>ih j hj (hS j hj))
 | fn f cs caps hs hv ih=>cases hS with | fn _ _ hS=>exact .fn _ _ _ hs (λj hj=>ih j hj (hS j hj))
 | agg cs vs hs hv ih=>cases hS with | agg _ hS=>exact .agg _ _ hs (λj hj=>ih j hj (hS j hj))
 | tup cs vs hs hv ih=>cases hS with | tup _ hS=>exact .tup _ _ hs (λj hj=>ih j hj (hS j hj))
 | nili=>exact .nili
 | ifc=>exact .ifc _ _
 | ifn=>exact .ifn
omit [jA]in
def tB.all{S:Nat→Prop}{d:V}(hS:∀r,S r)(h:tB (λr=>ρ r≠none) d):tB S d:=by
 induction h with
 | undef=>exact .undef
 | bool=>exact .bool _
 | int=>exact .int _ _
 | str=>exact .str _
 | nil=>exact .nil
 | sl t l h ih=>exact .sl _ _ ih
 | ow r h=>exact .ow _ (hS _)
 | ov r t off len h=>exact .ov _ _ _ _ (hS _)
 | bp r off h=>exact .bp _ _ (hS _)
 | ep r t i off h=>exact .ep _ _ _ _ (hS _)
 | fp cs off h ih=>exact .fp _ _ ih
 | fn f cs h ih=>exact .fn _ _ ih
 | agg cs h ih=>exact .agg _ ih
 | tup cs h ih=>exact .tup _ ih
 | nili=>exact .nili
 | ifc=>exact .ifc _
def VR.mono{w':World}{ρ':Nat→Option RI}{bad':Nat→Prop}(h:VR w ρ bad v d)(hρ:∀r ri,ρ r=some ri→ρ' r=some ri)
  (hw:∀b,¬bad b→b<w.heap.size→w'.heap[b]?=w.heap[b]?) (hb:∀b,bad' b→bad b∨w.heap.size≤b):VR w' ρ' bad' v d:=
 h.keep (S:=λ_=>True) (tB.all (λ_=>trivial) h.refs) (λr ri _=>hρ r ri) hw hb
def VR.one(h:VR w ρ bad v d)(hd:d.leaf=true):v.oneCell'=true:=by
 cases h<;>first | rfl | simp[V.leaf]at hd
omit [jA]in
def zrG(n:Int)(h:oE .u8 n):((UInt8.ofNat n.toNat).toNat:Int)=n:=by
 obtain⟨h1,h2⟩:=h;simp[IntKind.min,IntKind.max,IntKind.signed,IntKind.bits]at h1 h2;simp only[UInt8.toNat_ofNat'];omega
def VR.sub{c d:V}(hs:OH c d)(h:VR w ρ bad v c):VR w ρ bad v d:=by
 cases hs with
 | refl=>exact h
 | byte n=>cases h with | int _ _ hf=>rw[zrG n hf];exact .int _ _ hf
 | nil t=>cases h;exact .slE _ _ _ (Nat.zero_le _)
end
end Go.D
namespace Go.D
def GB(S:Nat→Prop)(a:UInt8)(j:Nat):tB S ((enc .byte a).getD j .undef):=by
 match j with
 | 0=>exact .int _ _
 | n+1=>exact .undef
def cK(S:Nat→Prop)(a:Int)(j:Nat):tB S ((enc .int a).getD j .undef):=by
 match j with
 | 0=>exact .int _ _
 | n+1=>exact .undef
def zsj(S:Nat→Prop)(a:Bool)(j:Nat):tB S ((enc .bool a).getD j .undef):=by
 match j with
 | 0=>exact .bool _
 | n+1=>exact .undef
def ztL(S:Nat→Prop)(a:List UInt8)(j:Nat):tB S ((enc .str a).getD j .undef):=by
 match j with
 | 0=>exact .str _
 | n+1=>exact .undef
def zcT(S:Nat→Prop)(a:List UInt8)(j:Nat):tB S ((enc .bs a).getD j .undef):=by
 match j with
 | 0=>exact .sl _ _ λi h j _=>GB S _ j
 | n+1=>exact .undef
def zsn(S:Nat→Prop)(a:Af)(j:Nat):tB S ((enc .Addr a).getD j .undef):=by
 match j with
 | 0=>exact .int _ _
 | 1=>exact .int _ _
 | n+2=>exact .undef
def zkZ(S:Nat→Prop)(a:Az)(j:Nat):tB S ((enc .Op a).getD j .undef):=by
 match j with
 | 0=>exact .int _ _
 | 1=>exact .int _ _
 | 2=>exact .int _ _
 | 3=>exact .sl _ _ λi h j _=>GB S _ j
 | n+4=>exact .undef
def zrm(S:Nat→Prop)(a:Aj)(j:Nat):tB S ((enc .Event a).getD j .undef):=by
 match j with
 | 0=>exact .int _ _
 | 1=>exact .int _ _
 | 2=>exact .int _ _
 | 3=>exact .int _ _
 | 4=>exact .sl _ _ λi h j _=>GB S _ j
 | 5=>exact .sl _ _ λi h j _=>zkZ S _ j
 | n+6=>exact .undef
def ztS(S:Nat→Prop)(a:Ax)(j:Nat):tB S ((enc .Jar a).getD j .undef):=by
 match j with
 | 0=>exact .sl _ _ λi h j _=>GB S _ j
 | n+1=>exact .undef
def zsy(S:Nat→Prop)(a:As)(j:Nat):tB S ((enc .Dice a).getD j .undef):=by
 match j with
 | 0=>exact .sl _ _ λi h j _=>GB S _ j
 | 1=>exact .int _ _
 | n+2=>exact .undef
def zub(S:Nat→Prop)(a:Ap)(j:Nat):tB S ((enc .Win a).getD j .undef):=by
 match j with
 | 0=>exact .int _ _
 | 1=>exact .sl _ _ λi h j _=>cK S _ j
 | n+2=>exact .undef
def zuE(S:Nat→Prop)(a:Av)(j:Nat):tB S ((enc .Ep a).getD j .undef):=by
 match j with
 | 0=>exact .int _ _
 | 1=>exact .sl _ _ λi h j _=>GB S _ j
 | 2=>exact .int _ _
 | 3=>exact .int _ _
 | 4=>exact .sl _ _ λi h j _=>cK S _ j
 | n+5=>exact .undef
def zsX(S:Nat→Prop)(a:Am)(j:Nat):tB S ((enc .Chan a).getD j .undef):=by
 match j with
 | 0=>exact .int _ _
 | 1=>exact .sl _ _ λi h j _=>GB S _ j
 | 2=>exact .int _ _
 | 3=>exact .sl _ _ λi h j _=>GB S _ j
 | 4=>exact .int _ _
 | 5=>exact .int _ _
 | 6=>exact .sl _ _ λi h j _=>cK S _ j
 | 7=>exact .int _ _
 | 8=>exact .sl _ _ λi h j _=>GB S _ j
 | 9=>exact .int _ _
 | 10=>exact .int _ _
 | 11=>exact .sl _ _ λi h j _=>cK S _ j
 | 12=>exact .bool _
 | 13=>exact .int _ _
 | 14=>exact .sl _ _ λi h j _=>GB S _ j
 | n+15=>exact .undef
def zfc(S:Nat→Prop)(a:Aw)(j:Nat):tB S ((enc .Cand a).getD j .undef):=by
 match j with
 | 0=>exact .int _ _
 | 1=>exact .int _ _
 | 2=>exact .sl _ _ λi h j _=>GB S _ j
 | 3=>exact .int _ _
 | n+4=>exact .undef
def zrA(S:Nat→Prop)(a:Ah)(j:Nat):tB S ((enc .Paths a).getD j .undef):=by
 match j with
 | 0=>exact .int _ _
 | 1=>exact .int _ _
 | 2=>exact .sl _ _ λi h j _=>zfc S _ j
 | n+3=>exact .undef
def zbT(S:Nat→Prop)(a:Ai)(j:Nat):tB S ((enc .Sess a).getD j .undef):=by
 match j with
 | 0=>exact .int _ _
 | 1=>exact .sl _ _ λi h j _=>GB S _ j
 | 2=>exact .sl _ _ λi h j _=>GB S _ j
 | 3=>exact .int _ _
 | 4=>exact .sl _ _ λi h j _=>GB S _ j
 | 5=>exact .int _ _
 | 6=>exact .sl _ _ λi h j _=>GB S _ j
 | 7=>exact .int _ _
 | 8=>exact .int _ _
 | 9=>exact .sl _ _ λi h j _=>cK S _ j
 | 10=>exact .int _ _
 | 11=>exact .sl _ _ λi h j _=>GB S _ j
 | 12=>exact .int _ _
 | 13=>exact .int _ _
 | 14=>exact .sl _ _ λi h j _=>cK S _ j
 | 15=>exact .bool _
 | 16=>exact .int _ _
 | 17=>exact .sl _ _ λi h j _=>GB S _ j
 | 18=>exact .int _ _
 | 19=>exact .int _ _
 | 20=>exact .sl _ _ λi h j _=>zfc S _ j
 | 21=>exact .int _ _
 | 22=>exact .int _ _
 | 23=>exact .bool _
 | n+24=>exact .undef
def ztB(S:Nat→Prop)(a:Ao)(j:Nat):tB S ((enc .Tab a).getD j .undef):=by
 match j with
 | 0=>exact .int _ _
 | 1=>exact .sl _ _ λi h j _=>zbT S _ j
 | n+2=>exact .undef
def zey(S:Nat→Prop)(a:Al)(j:Nat):tB S ((enc .Credit a).getD j .undef):=by
 match j with
 | 0=>exact .int _ _
 | 1=>exact .int _ _
 | 2=>exact .int _ _
 | 3=>exact .int _ _
 | n+4=>exact .undef
def zqM(S:Nat→Prop)(a:Ac)(j:Nat):tB S ((enc .Server a).getD j .undef):=by
 match j with
 | 0=>exact .sl _ _ λi h j _=>zcT S _ j
 | 1=>exact .sl _ _ λi h j _=>GB S _ j
 | 2=>exact .sl _ _ λi h j _=>GB S _ j
 | 3=>exact .int _ _
 | 4=>exact .int _ _
 | 5=>exact .sl _ _ λi h j _=>zbT S _ j
 | 6=>exact .sl _ _ λi h j _=>zey S _ j
 | n+7=>exact .undef
def zq0(S:Nat→Prop)(a:Ab)(j:Nat):tB S ((enc .Frame a).getD j .undef):=by
 match j with
 | 0=>exact .int _ _
 | 1=>exact .int _ _
 | 2=>exact .sl _ _ λi h j _=>GB S _ j
 | 3=>exact .sl _ _ λi h j _=>GB S _ j
 | 4=>exact .int _ _
 | 5=>exact .sl _ _ λi h j _=>GB S _ j
 | 6=>exact .sl _ _ λi h j _=>GB S _ j
 | 7=>exact .int _ _
 | 8=>exact .int _ _
 | 9=>exact .sl _ _ λi h j _=>GB S _ j
 | 10=>exact .sl _ _ λi h j _=>GB S _ j
 | n+11=>exact .undef
def zrN(S:Nat→Prop)(a:Au)(j:Nat):tB S ((enc .Timer a).getD j .undef):=by
 match j with
 | 0=>exact .bool _
 | 1=>exact .int _ _
 | 2=>exact .int _ _
 | 3=>exact .int _ _
 | n+4=>exact .undef
def zit(S:Nat→Prop)(a:Ae)(j:Nat):tB S ((enc .Client a).getD j .undef):=by
 match j with
 | 0=>exact .int _ _
 | 1=>exact .sl _ _ λi h j _=>GB S _ j
 | 2=>exact .int _ _
 | 3=>exact .int _ _
 | 4=>exact .int _ _
 | 5=>exact .sl _ _ λi h j _=>GB S _ j
 | 6=>exact .int _ _
 | 7=>exact .int _ _
 | 8=>exact .sl _ _ λi h j _=>GB S _ j
 | 9=>exact .sl _ _ λi h j _=>GB S _ j
 | 10=>exact .int _ _
 | 11=>exact .sl _ _ λi h j _=>GB S _ j
 | 12=>exact .sl _ _ λi h j _=>GB S _ j
 | 13=>exact .int _ _
 | 14=>exact .int _ _
 | 15=>exact .sl _ _ λi h j _=>GB S _ j
 | 16=>exact .sl _ _ λi h j _=>GB S _ j
 | 17=>exact .int _ _
 | 18=>exact .sl _ _ λi h j _=>GB S _ j
 | 19=>exact .int _ _
 | 20=>exact .sl _ _ λi h j _=>GB S _ j
 | 21=>exact .int _ _
 | 22=>exact .int _ _
 | 23=>exact .sl _ _ λi h j _=>cK S _ j
 | 24=>exact .int _ _
 | 25=>exact .sl _ _ λi h j _=>GB S _ j
 | 26=>exact .int _ _
 | 27=>exact .int _ _
 | 28=>exact .sl _ _ λi h j _=>cK S _ j
 | 29=>exact .bool _
 | 30=>exact .int _ _
 | 31=>exact .sl _ _ λi h j _=>GB S _ j
 | 32=>exact .bool _
 | 33=>exact .int _ _
 | 34=>exact .int _ _
 | 35=>exact .int _ _
 | 36=>exact .bool _
 | 37=>exact .int _ _
 | 38=>exact .int _ _
 | 39=>exact .int _ _
 | 40=>exact .int _ _
 | n+41=>exact .undef
def zjO(S:Nat→Prop)(a:Ak)(j:Nat):tB S ((enc .Wire a).getD j .undef):=by
 match j with
 | 0=>exact .int _ _
 | 1=>exact .int _ _
 | 2=>exact .int _ _
 | 3=>exact .int _ _
 | 4=>exact .sl _ _ λi h j _=>GB S _ j
 | n+5=>exact .undef
def zjl(S:Nat→Prop)(a:Ad)(j:Nat):tB S ((enc .Note a).getD j .undef):=by
 match j with
 | 0=>exact .int _ _
 | 1=>exact .int _ _
 | 2=>exact .int _ _
 | 3=>exact .sl _ _ λi h j _=>GB S _ j
 | 4=>exact .sl _ _ λi h j _=>GB S _ j
 | 5=>exact .int _ _
 | 6=>exact .int _ _
 | 7=>exact .sl _ _ λi h j _=>GB S _ j
 | 8=>exact .sl _ _ λi h j _=>GB S _ j
 | 9=>exact .int _ _
 | 10=>exact .int _ _
 | 11=>exact .int _ _
 | n+12=>exact .undef
def zri(S:Nat→Prop)(a:Aa)(j:Nat):tB S ((enc .World a).getD j .undef):=by
 match j with
 | 0=>exact .int _ _
 | 1=>exact .sl _ _ λi h j _=>zit S _ j
 | 2=>exact .sl _ _ λi h j _=>zcT S _ j
 | 3=>exact .sl _ _ λi h j _=>GB S _ j
 | 4=>exact .sl _ _ λi h j _=>GB S _ j
 | 5=>exact .int _ _
 | 6=>exact .int _ _
 | 7=>exact .sl _ _ λi h j _=>zbT S _ j
 | 8=>exact .sl _ _ λi h j _=>zey S _ j
 | 9=>exact .sl _ _ λi h j _=>GB S _ j
 | 10=>exact .int _ _
 | 11=>exact .sl _ _ λi h j _=>zjO S _ j
 | 12=>exact .sl _ _ λi h j _=>zcT S _ j
 | 13=>exact .sl _ _ λi h j _=>zjl S _ j
 | n+14=>exact .undef
def zus(S:Nat→Prop)(a:Ar)(j:Nat):tB S ((enc .Cur a).getD j .undef):=by
 match j with
 | 0=>exact .sl _ _ λi h j _=>GB S _ j
 | 1=>exact .int _ _
 | 2=>exact .int _ _
 | n+3=>exact .undef
def zth(S:Nat→Prop)(a:Aq)(j:Nat):tB S ((enc .Out a).getD j .undef):=by
 match j with
 | 0=>exact .int _ _
 | 1=>exact .int _ _
 | 2=>exact .int _ _
 | 3=>exact .int _ _
 | 4=>exact .sl _ _ λi h j _=>GB S _ j
 | 5=>exact .sl _ _ λi h j _=>GB S _ j
 | 6=>exact .int _ _
 | 7=>exact .sl _ _ λi h j _=>GB S _ j
 | 8=>exact .sl _ _ λi h j _=>GB S _ j
 | 9=>exact .int _ _
 | 10=>exact .int _ _
 | 11=>exact .sl _ _ λi h j _=>GB S _ j
 | 12=>exact .sl _ _ λi h j _=>GB S _ j
 | n+13=>exact .undef
def zrX(S:Nat→Prop)(a:Ji)(j:Nat):tB S ((enc .Form a).getD j .undef):=by
 match j with
 | 0=>exact .int _ _
 | 1=>exact .str _
 | n+2=>exact .undef
def zsZ(S:Nat→Prop)(a:Ba)(j:Nat):tB S ((enc .Hash a).getD j .undef):=by
 match j with
 | 0=>exact .sl _ _ λi h j _=>cK S _ j
 | 1=>exact .sl _ _ λi h j _=>GB S _ j
 | 2=>exact .int _ _
 | n+3=>exact .undef
def wM(S:Nat→Prop)(t:TN)(a:El t)(j:Nat):tB S ((enc t a).getD j .undef):=by
 cases t with
 | byte=>exact GB S a j
 | int=>exact cK S a j
 | bool=>exact zsj S a j
 | str=>exact ztL S a j
 | bs=>exact zcT S a j
 | Addr=>exact zsn S a j
 | Op=>exact zkZ S a j
 | Event=>exact zrm S a j
 | Jar=>exact ztS S a j
 | Dice=>exact zsy S a j
 | Win=>exact zub S a j
 | Ep=>exact zuE S a j
 | Chan=>exact zsX S a j
 | Cand=>exact zfc S a j
 | Paths=>exact zrA S a j
 | Sess=>exact zbT S a j
 | Tab=>exact ztB S a j
 | Credit=>exact zey S a j
 | Server=>exact zqM S a j
 | Frame=>exact zq0 S a j
 | Timer=>exact zrN S a j
 | Client=>exact zit S a j
 | Wire=>exact zjO S a j
 | Note=>exact zjl S a j
 | World=>exact zri S a j
 | Cur=>exact zus S a j
 | Out=>exact zth S a j
 | Form=>exact zrX S a j
 | Hash=>exact zsZ S a j
end Go.D
