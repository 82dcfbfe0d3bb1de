/-
 The data of the program as plain structures; values of the plain semantics; their encoding as flat cells.
-/
import GoSem.Core.Value
import Derived.Calls
import Derived.WalkKit
import GoSem.ClaimData
namespace Go.G
structure Addr where
 Host:Int
 Port:Int
structure Op where
 Kind:Int
 I:Int
 J:Int
 B:(List UInt8)
structure Event where
 Kind:Int
 I:Int
 J:Int
 N:Int
 B:(List UInt8)
 Ops:(List Op)
structure Jar where
 Secret:(List UInt8)
structure Dice where
 Seed:(List UInt8)
 N:Int
structure Win where
 Top:Int
 Bits:(List Int)
structure Ep where
 N:Int
 Key:(List UInt8)
 Seq:Int
 Win:Win
structure Chan where
 Role:Int
 Sn:(List UInt8)
 Cur:Ep
 Old:Ep
 HasOld:Bool
 Until:Int
 Next:(List UInt8)
structure Cand where
 A:Addr
 Draw:(List UInt8)
 Until:Int
structure Paths where
 At:Addr
 Cands:(List Cand)
structure Sess where
 Id:Int
 Cn:(List UInt8)
 Sn:(List UInt8)
 C:Chan
 P:Paths
 Tick:Int
 Last:Int
 Dead:Bool
structure Tab where
 Cap:Int
 L:(List Sess)
structure Credit where
 A:Addr
 Got:Int
 Sent:Int
structure Server where
 Psks:(List (List UInt8))
 J:Jar
 D:Dice
 T:Tab
 Cr:(List Credit)
structure Frame where
 Kind:Int
 Id:Int
 Cn:(List UInt8)
 Sn:(List UInt8)
 Tick:Int
 Cookie:(List UInt8)
 Proof:(List UInt8)
 Epoch:Int
 Seq:Int
 Body:(List UInt8)
 Tag:(List UInt8)
structure Timer where
 On:Bool
 Due:Int
 Wait:Int
 Tries:Int
structure Client where
 Id:Int
 Psk:(List UInt8)
 At:Addr
 St:Int
 Cn:(List UInt8)
 Fin:Frame
 C:Chan
 T:Timer
 R:Timer
 Last:Int
structure Wire where
 From:Addr
 To:Addr
 B:(List UInt8)
structure Note where
 Kind:Int
 Id:Int
 Role:Int
 Cn:(List UInt8)
 Sn:(List UInt8)
 Epoch:Int
 Seq:Int
 Body:(List UInt8)
 Key:(List UInt8)
 A:Addr
 Now:Int
structure World where
 Now:Int
 Clients:(List Client)
 S:Server
 D:Dice
 Seen:(List Wire)
 Known:(List (List UInt8))
 Notes:(List Note)
structure Cur where
 b:(List UInt8)
 i:Int
 h:Int
structure Out where
 To:Addr
 F:Frame
structure Form where
 kind:Int
 words:(List UInt8)
structure Hash where
 H:(List Int)
 Held:(List UInt8)
 N:Int
end Go.G
namespace Go.D
inductive TN where
 | byte | int | bool | str | bs | Addr | Op | Event | Jar | Dice | Win | Ep | Chan | Cand | Paths | Sess | Tab | Credit | Server | Frame | Timer | Client | Wire | Note | World | Cur | Out | Form | Hash
 deriving DecidableEq
@[reducible] def El:TN→Type
 | .byte=>UInt8 | .int=>Int | .bool=>Bool | .str=>List UInt8 | .bs=>List UInt8
 | .Addr=>G.Addr | .Op=>G.Op | .Event=>G.Event | .Jar=>G.Jar | .Dice=>G.Dice | .Win=>G.Win | .Ep=>G.Ep | .Chan=>G.Chan | .Cand=>G.Cand | .Paths=>G.Paths | .Sess=>G.Sess | .Tab=>G.Tab | .Credit=>G.Credit | .Server=>G.Server | .Frame=>G.Frame | .Timer=>G.Timer | .Client=>G.Client | .Wire=>G.Wire | .Note=>G.Note | .World=>G.World | .Cur=>G.Cur | .Out=>G.Out | .Form=>G.Form | .Hash=>G.Hash
inductive V where
 | undef
 | bool (b:Bool)
 | int (k:IntKind) (n:Int)
 | str (s:List UInt8)
 | nil
 | sl (t:TN) (l:List (El t))
 | ow (r:Nat)
 | ov (r:Nat) (t:TN) (off len:Nat)
 | bp (r off:Nat)
 | ep (r:Nat) (t:TN) (i off:Nat)
 | fp (cs:List V) (off:Nat)
 | fn (f:Nat) (cs:List V)
 | agg (cs:List V)
 | tup (vs:List V)
 | nili
 | ifc (b:Bool)
def QQ (a:G.Addr):List V:=[.int .i64 a.Host, .int .i64 a.Port]
def zaO (a:G.Op):List V:=[.int .i64 a.Kind, .int .i64 a.I, .int .i64 a.J, .sl .byte a.B]
def zaJ (a:G.Event):List V:=[.int .i64 a.Kind, .int .i64 a.I, .int .i64 a.J, .int .i64 a.N, .sl .byte a.B, .sl .Op a.Ops]
def zaM (a:G.Jar):List V:=[.sl .byte a.Secret]
def zaH (a:G.Dice):List V:=[.sl .byte a.Seed, .int .i64 a.N]
def zaU (a:G.Win):List V:=[.int .i64 a.Top, .sl .int a.Bits]
def zaI (a:G.Ep):List V:=[.int .i64 a.N, .sl .byte a.Key, .int .i64 a.Seq, .int .i64 a.Win.Top, .sl .int a.Win.Bits]
def zaE (a:G.Chan):List V:=[.int .i64 a.Role, .sl .byte a.Sn, .int .i64 a.Cur.N, .sl .byte a.Cur.Key, .int .i64 a.Cur.Seq, .int .i64 a.Cur.Win.Top, .sl .int a.Cur.Win.Bits, .int .i64 a.Old.N, .sl .byte a.Old.Key, .int .i64 a.Old.Seq, .int .i64 a.Old.Win.Top, .sl .int a.Old.Win.Bits, .bool a.HasOld, .int .i64 a.Until, .sl .byte a.Next]
def zaD (a:G.Cand):List V:=[.int .i64 a.A.Host, .int .i64 a.A.Port, .sl .byte a.Draw, .int .i64 a.Until]
def zaQ (a:G.Paths):List V:=[.int .i64 a.At.Host, .int .i64 a.At.Port, .sl .Cand a.Cands]
def zaS (a:G.Sess):List V:=[.int .i64 a.Id, .sl .byte a.Cn, .sl .byte a.Sn, .int .i64 a.C.Role, .sl .byte a.C.Sn, .int .i64 a.C.Cur.N, .sl .byte a.C.Cur.Key, .int .i64 a.C.Cur.Seq, .int .i64 a.C.Cur.Win.Top, .sl .int a.C.Cur.Win.Bits, .int .i64 a.C.Old.N, .sl .byte a.C.Old.Key, .int .i64 a.C.Old.Seq, .int .i64 a.C.Old.Win.Top, .sl .int a.C.Old.Win.Bits, .bool a.C.HasOld, .int .i64 a.C.Until, .sl .byte a.C.Next, .int .i64 a.P.At.Host, .int .i64 a.P.At.Port, .sl .Cand a.P.Cands, .int .i64 a.Tick, .int .i64 a.Last, .bool a.Dead]
def zaT (a:G.Tab):List V:=[.int .i64 a.Cap, .sl .Sess a.L]
def RQ (a:G.Credit):List V:=[.int .i64 a.A.Host, .int .i64 a.A.Port, .int .i64 a.Got, .int .i64 a.Sent]
def zaR (a:G.Server):List V:=[.sl .bs a.Psks, .sl .byte a.J.Secret, .sl .byte a.D.Seed, .int .i64 a.D.N, .int .i64 a.T.Cap, .sl .Sess a.T.L, .sl .Credit a.Cr]
def zaK (a:G.Frame):List V:=[.int .i64 a.Kind, .int .i64 a.Id, .sl .byte a.Cn, .sl .byte a.Sn, .int .i64 a.Tick, .sl .byte a.Cookie, .sl .byte a.Proof, .int .i64 a.Epoch, .int .i64 a.Seq, .sl .byte a.Body, .sl .byte a.Tag]
def TQ (a:G.Timer):List V:=[.bool a.On, .int .i64 a.Due, .int .i64 a.Wait, .int .i64 a.Tries]
def zaF (a:G.Client):List V:=[.int .i64 a.Id, .sl .byte a.Psk, .int .i64 a.At.Host, .int .i64 a.At.Port, .int .i64 a.St, .sl .byte a.Cn, .int .i64 a.Fin.Kind, .int .i64 a.Fin.Id, .sl .byte a.Fin.Cn, .sl .byte a.Fin.Sn, .int .i64 a.Fin.Tick, .sl .byte a.Fin.Cookie, .sl .byte a.Fin.Proof, .int .i64 a.Fin.Epoch, .int .i64 a.Fin.Seq, .sl .byte a.Fin.Body, .sl .byte a.Fin.Tag, .int .i64 a.C.Role, .sl .byte a.C.Sn, .int .i64 a.C.Cur.N, .sl .byte a.C.Cur.Key, .int .i64 a.C.Cur.Seq, .int .i64 a.C.Cur.Win.Top, .sl .int a.C.Cur.Win.Bits, .int .i64 a.C.Old.N, .sl .byte a.C.Old.Key, .int .i64 a.C.Old.Seq, .int .i64 a.C.Old.Win.Top, .sl .int a.C.Old.Win.Bits, .bool a.C.HasOld, .int .i64 a.C.Until, .sl .byte a.C.Next, .bool a.T.On, .int .i64 a.T.Due, .int .i64 a.T.Wait, .int .i64 a.T.Tries, .bool a.R.On, .int .i64 a.R.Due, .int .i64 a.R.Wait, .int .i64 a.R.Tries, .int .i64 a.Last]
def zaV (a:G.Wire):List V:=[.int .i64 a.From.Host, .int .i64 a.From.Port, .int .i64 a.To.Host, .int .i64 a.To.Port, .sl .byte a.B]
def zaN (a:G.Note):List V:=[.int .i64 a.Kind, .int .i64 a.Id, .int .i64 a.Role, .sl .byte a.Cn, .sl .byte a.Sn, .int .i64 a.Epoch, .int .i64 a.Seq, .sl .byte a.Body, .sl .byte a.Key, .int .i64 a.A.Host, .int .i64 a.A.Port, .int .i64 a.Now]
def zaW (a:G.World):List V:=[.int .i64 a.Now, .sl .Client a.Clients, .sl .bs a.S.Psks, .sl .byte a.S.J.Secret, .sl .byte a.S.D.Seed, .int .i64 a.S.D.N, .int .i64 a.S.T.Cap, .sl .Sess a.S.T.L, .sl .Credit a.S.Cr, .sl .byte a.D.Seed, .int .i64 a.D.N, .sl .Wire a.Seen, .sl .bs a.Known, .sl .Note a.Notes]
def zaG (a:G.Cur):List V:=[.sl .byte a.b, .int .i64 a.i, .int .i64 a.h]
def zaP (a:G.Out):List V:=[.int .i64 a.To.Host, .int .i64 a.To.Port, .int .i64 a.F.Kind, .int .i64 a.F.Id, .sl .byte a.F.Cn, .sl .byte a.F.Sn, .int .i64 a.F.Tick, .sl .byte a.F.Cookie, .sl .byte a.F.Proof, .int .i64 a.F.Epoch, .int .i64 a.F.Seq, .sl .byte a.F.Body, .sl .byte a.F.Tag]
def SQ (a:G.Form):List V:=[.int .i64 a.kind, .str a.words]
def zaL (a:G.Hash):List V:=[.sl .int a.H, .sl .byte a.Held, .int .i64 a.N]
def enc:(t:TN)→El t→List V
 | .byte,b=>[.int .u8 (b.toNat:Int)]
 | .int,n=>[.int .i64 n]
 | .bool,b=>[.bool b]
 | .str,s=>[.str s]
 | .bs,l=>[.sl .byte l]
 | .Addr,a=>QQ a
 | .Op,a=>zaO a
 | .Event,a=>zaJ a
 | .Jar,a=>zaM a
 | .Dice,a=>zaH a
 | .Win,a=>zaU a
 | .Ep,a=>zaI a
 | .Chan,a=>zaE a
 | .Cand,a=>zaD a
 | .Paths,a=>zaQ a
 | .Sess,a=>zaS a
 | .Tab,a=>zaT a
 | .Credit,a=>RQ a
 | .Server,a=>zaR a
 | .Frame,a=>zaK a
 | .Timer,a=>TQ a
 | .Client,a=>zaF a
 | .Wire,a=>zaV a
 | .Note,a=>zaN a
 | .World,a=>zaW a
 | .Cur,a=>zaG a
 | .Out,a=>zaP a
 | .Form,a=>SQ a
 | .Hash,a=>zaL a
def sz:TN→Nat
 | .byte=>1 | .int=>1 | .bool=>1 | .str=>1 | .bs=>1
 | .Addr=>2 | .Op=>4 | .Event=>6 | .Jar=>1 | .Dice=>2 | .Win=>2 | .Ep=>5 | .Chan=>15 | .Cand=>4 | .Paths=>3 | .Sess=>24 | .Tab=>2 | .Credit=>4 | .Server=>7 | .Frame=>11 | .Timer=>4 | .Client=>41 | .Wire=>5 | .Note=>12 | .World=>14 | .Cur=>3 | .Out=>13 | .Form=>2 | .Hash=>3
def CA:V→Option Int | .int .i64 n=>some n | _=>none
def jK:V→Option UInt8 | .int .u8 n=>some (UInt8.ofNat n.toNat) | _=>none
def fF:V→Option Bool | .bool b=>some b | _=>none
def YI:V→Option (List UInt8) | .str s=>some s | _=>none
def TN.cast {s t:TN} (h:s=t) (l:List (El s)):List (El t):=h ▸ l
def NA (t:TN):V→Option (List (El t))
 | .sl s l=>if h:s=t then some (TN.cast h l) else none
 | .nil=>some []
 | _=>none
def tk {α β:Type} (p:V→Option α) (cs:List V) (k:α→List V→Option β):Option β:=
 match cs with
 | c :: cs=>(p c).bind fun a=>k a cs
 | []=>none
def gB {β:Type} (cs:List V) (r:β):Option β:=
 match cs with
 | []=>some r
 | _=>none
def qQ (cs:List V):Option G.Addr:=
 tk CA cs fun f0 cs=>
 tk CA cs fun f1 cs=>
 gB cs (⟨f0,f1⟩:G.Addr)
def EQ (cs:List V):Option G.Op:=
 tk CA cs fun f0 cs=>
 tk CA cs fun f1 cs=>
 tk CA cs fun f2 cs=>
 tk (NA .byte) cs fun f3 cs=>
 gB cs (⟨f0,f1,f2,f3⟩:G.Op)
def yQ (cs:List V):Option G.Event:=
 tk CA cs fun f0 cs=>
 tk CA cs fun f1 cs=>
 tk CA cs fun f2 cs=>
 tk CA cs fun f3 cs=>
 tk (NA .byte) cs fun f4 cs=>
 tk (NA .Op) cs fun f5 cs=>
 gB cs (⟨f0,f1,f2,f3,f4,f5⟩:G.Event)
def CQ (cs:List V):Option G.Jar:=
 tk (NA .byte) cs fun f0 cs=>
 gB cs (⟨f0⟩:G.Jar)
def wQ (cs:List V):Option G.Dice:=
 tk (NA .byte) cs fun f0 cs=>
 tk CA cs fun f1 cs=>
 gB cs (⟨f0,f1⟩:G.Dice)
def LQ (cs:List V):Option G.Win:=
 tk CA cs fun f0 cs=>
 tk (NA .int) cs fun f1 cs=>
 gB cs (⟨f0,f1⟩:G.Win)
def xQ (cs:List V):Option G.Ep:=
 tk CA cs fun f0 cs=>
 tk (NA .byte) cs fun f1 cs=>
 tk CA cs fun f2 cs=>
 tk CA cs fun f3 cs=>
 tk (NA .int) cs fun f4 cs=>
 gB cs (⟨f0,f1,f2,⟨f3,f4⟩⟩:G.Ep)
def sQ (cs:List V):Option G.Chan:=
 tk CA cs fun f0 cs=>
 tk (NA .byte) cs fun f1 cs=>
 tk CA cs fun f2 cs=>
 tk (NA .byte) cs fun f3 cs=>
 tk CA cs fun f4 cs=>
 tk CA cs fun f5 cs=>
 tk (NA .int) cs fun f6 cs=>
 tk CA cs fun f7 cs=>
 tk (NA .byte) cs fun f8 cs=>
 tk CA cs fun f9 cs=>
 tk CA cs fun f10 cs=>
 tk (NA .int) cs fun f11 cs=>
 tk fF cs fun f12 cs=>
 tk CA cs fun f13 cs=>
 tk (NA .byte) cs fun f14 cs=>
 gB cs (⟨f0,f1,⟨f2,f3,f4,⟨f5,f6⟩⟩,⟨f7,f8,f9,⟨f10,f11⟩⟩,f12,f13,f14⟩:G.Chan)
def rQ (cs:List V):Option G.Cand:=
 tk CA cs fun f0 cs=>
 tk CA cs fun f1 cs=>
 tk (NA .byte) cs fun f2 cs=>
 tk CA cs fun f3 cs=>
 gB cs (⟨⟨f0,f1⟩,f2,f3⟩:G.Cand)
def GQ (cs:List V):Option G.Paths:=
 tk CA cs fun f0 cs=>
 tk CA cs fun f1 cs=>
 tk (NA .Cand) cs fun f2 cs=>
 gB cs (⟨⟨f0,f1⟩,f2⟩:G.Paths)
def IQ (cs:List V):Option G.Sess:=
 tk CA cs fun f0 cs=>
 tk (NA .byte) cs fun f1 cs=>
 tk (NA .byte) cs fun f2 cs=>
 tk CA cs fun f3 cs=>
 tk (NA .byte) cs fun f4 cs=>
 tk CA cs fun f5 cs=>
 tk (NA .byte) cs fun f6 cs=>
 tk CA cs fun f7 cs=>
 tk CA cs fun f8 cs=>
 tk (NA .int) cs fun f9 cs=>
 tk CA cs fun f10 cs=>
 tk (NA .byte) cs fun f11 cs=>
 tk CA cs fun f12 cs=>
 tk CA cs fun f13 cs=>
 tk (NA .int) cs fun f14 cs=>
 tk fF cs fun f15 cs=>
 tk CA cs fun f16 cs=>
 tk (NA .byte) cs fun f17 cs=>
 tk CA cs fun f18 cs=>
 tk CA cs fun f19 cs=>
 tk (NA .Cand) cs fun f20 cs=>
 tk CA cs fun f21 cs=>
 tk CA cs fun f22 cs=>
 tk fF cs fun f23 cs=>
 gB cs (⟨f0,f1,f2,⟨f3,f4,⟨f5,f6,f7,⟨f8,f9⟩⟩,⟨f10,f11,f12,⟨f13,f14⟩⟩,f15,f16,f17⟩,⟨⟨f18,f19⟩,f20⟩,f21,f22,f23⟩:G.Sess)
def JQ (cs:List V):Option G.Tab:=
 tk CA cs fun f0 cs=>
 tk (NA .Sess) cs fun f1 cs=>
 gB cs (⟨f0,f1⟩:G.Tab)
def uQ (cs:List V):Option G.Credit:=
 tk CA cs fun f0 cs=>
 tk CA cs fun f1 cs=>
 tk CA cs fun f2 cs=>
 tk CA cs fun f3 cs=>
 gB cs (⟨⟨f0,f1⟩,f2,f3⟩:G.Credit)
def HQ (cs:List V):Option G.Server:=
 tk (NA .bs) cs fun f0 cs=>
 tk (NA .byte) cs fun f1 cs=>
 tk (NA .byte) cs fun f2 cs=>
 tk CA cs fun f3 cs=>
 tk CA cs fun f4 cs=>
 tk (NA .Sess) cs fun f5 cs=>
 tk (NA .Credit) cs fun f6 cs=>
 gB cs (⟨f0,⟨f1⟩,⟨f2,f3⟩,⟨f4,f5⟩,f6⟩:G.Server)
def AQ (cs:List V):Option G.Frame:=
 tk CA cs fun f0 cs=>
 tk CA cs fun f1 cs=>
 tk (NA .byte) cs fun f2 cs=>
 tk (NA .byte) cs fun f3 cs=>
 tk CA cs fun f4 cs=>
 tk (NA .byte) cs fun f5 cs=>
 tk (NA .byte) cs fun f6 cs=>
 tk CA cs fun f7 cs=>
 tk CA cs fun f8 cs=>
 tk (NA .byte) cs fun f9 cs=>
 tk (NA .byte) cs fun f10 cs=>
 gB cs (⟨f0,f1,f2,f3,f4,f5,f6,f7,f8,f9,f10⟩:G.Frame)
def KQ (cs:List V):Option G.Timer:=
 tk fF cs fun f0 cs=>
 tk CA cs fun f1 cs=>
 tk CA cs fun f2 cs=>
 tk CA cs fun f3 cs=>
 gB cs (⟨f0,f1,f2,f3⟩:G.Timer)
def tQ (cs:List V):Option G.Client:=
 tk CA cs fun f0 cs=>
 tk (NA .byte) cs fun f1 cs=>
 tk CA cs fun f2 cs=>
 tk CA cs fun f3 cs=>
 tk CA cs fun f4 cs=>
 tk (NA .byte) cs fun f5 cs=>
 tk CA cs fun f6 cs=>
 tk CA cs fun f7 cs=>
 tk (NA .byte) cs fun f8 cs=>
 tk (NA .byte) cs fun f9 cs=>
 tk CA cs fun f10 cs=>
 tk (NA .byte) cs fun f11 cs=>
 tk (NA .byte) cs fun f12 cs=>
 tk CA cs fun f13 cs=>
 tk CA cs fun f14 cs=>
 tk (NA .byte) cs fun f15 cs=>
 tk (NA .byte) cs fun f16 cs=>
 tk CA cs fun f17 cs=>
 tk (NA .byte) cs fun f18 cs=>
 tk CA cs fun f19 cs=>
 tk (NA .byte) cs fun f20 cs=>
 tk CA cs fun f21 cs=>
 tk CA cs fun f22 cs=>
 tk (NA .int) cs fun f23 cs=>
 tk CA cs fun f24 cs=>
 tk (NA .byte) cs fun f25 cs=>
 tk CA cs fun f26 cs=>
 tk CA cs fun f27 cs=>
 tk (NA .int) cs fun f28 cs=>
 tk fF cs fun f29 cs=>
 tk CA cs fun f30 cs=>
 tk (NA .byte) cs fun f31 cs=>
 tk fF cs fun f32 cs=>
 tk CA cs fun f33 cs=>
 tk CA cs fun f34 cs=>
 tk CA cs fun f35 cs=>
 tk fF cs fun f36 cs=>
 tk CA cs fun f37 cs=>
 tk CA cs fun f38 cs=>
 tk CA cs fun f39 cs=>
 tk CA cs fun f40 cs=>
 gB cs (⟨f0,f1,⟨f2,f3⟩,f4,f5,⟨f6,f7,f8,f9,f10,f11,f12,f13,f14,f15,f16⟩,⟨f17,f18,⟨f19,f20,f21,⟨f22,f23⟩⟩,⟨f24,f25,f26,⟨f27,f28⟩⟩,f29,f30,f31⟩,⟨f32,f33,f34,f35⟩,⟨f36,f37,f38,f39⟩,f40⟩:G.Client)
def MQ (cs:List V):Option G.Wire:=
 tk CA cs fun f0 cs=>
 tk CA cs fun f1 cs=>
 tk CA cs fun f2 cs=>
 tk CA cs fun f3 cs=>
 tk (NA .byte) cs fun f4 cs=>
 gB cs (⟨⟨f0,f1⟩,⟨f2,f3⟩,f4⟩:G.Wire)
def DQ (cs:List V):Option G.Note:=
 tk CA cs fun f0 cs=>
 tk CA cs fun f1 cs=>
 tk CA cs fun f2 cs=>
 tk (NA .byte) cs fun f3 cs=>
 tk (NA .byte) cs fun f4 cs=>
 tk CA cs fun f5 cs=>
 tk CA cs fun f6 cs=>
 tk (NA .byte) cs fun f7 cs=>
 tk (NA .byte) cs fun f8 cs=>
 tk CA cs fun f9 cs=>
 tk CA cs fun f10 cs=>
 tk CA cs fun f11 cs=>
 gB cs (⟨f0,f1,f2,f3,f4,f5,f6,f7,f8,⟨f9,f10⟩,f11⟩:G.Note)
def NQ (cs:List V):Option G.World:=
 tk CA cs fun f0 cs=>
 tk (NA .Client) cs fun f1 cs=>
 tk (NA .bs) cs fun f2 cs=>
 tk (NA .byte) cs fun f3 cs=>
 tk (NA .byte) cs fun f4 cs=>
 tk CA cs fun f5 cs=>
 tk CA cs fun f6 cs=>
 tk (NA .Sess) cs fun f7 cs=>
 tk (NA .Credit) cs fun f8 cs=>
 tk (NA .byte) cs fun f9 cs=>
 tk CA cs fun f10 cs=>
 tk (NA .Wire) cs fun f11 cs=>
 tk (NA .bs) cs fun f12 cs=>
 tk (NA .Note) cs fun f13 cs=>
 gB cs (⟨f0,f1,⟨f2,⟨f3⟩,⟨f4,f5⟩,⟨f6,f7⟩,f8⟩,⟨f9,f10⟩,f11,f12,f13⟩:G.World)
def vQ (cs:List V):Option G.Cur:=
 tk (NA .byte) cs fun f0 cs=>
 tk CA cs fun f1 cs=>
 tk CA cs fun f2 cs=>
 gB cs (⟨f0,f1,f2⟩:G.Cur)
def FQ (cs:List V):Option G.Out:=
 tk CA cs fun f0 cs=>
 tk CA cs fun f1 cs=>
 tk CA cs fun f2 cs=>
 tk CA cs fun f3 cs=>
 tk (NA .byte) cs fun f4 cs=>
 tk (NA .byte) cs fun f5 cs=>
 tk CA cs fun f6 cs=>
 tk (NA .byte) cs fun f7 cs=>
 tk (NA .byte) cs fun f8 cs=>
 tk CA cs fun f9 cs=>
 tk CA cs fun f10 cs=>
 tk (NA .byte) cs fun f11 cs=>
 tk (NA .byte) cs fun f12 cs=>
 gB cs (⟨⟨f0,f1⟩,⟨f2,f3,f4,f5,f6,f7,f8,f9,f10,f11,f12⟩⟩:G.Out)
def zQ (cs:List V):Option G.Form:=
 tk CA cs fun f0 cs=>
 tk YI cs fun f1 cs=>
 gB cs (⟨f0,f1⟩:G.Form)
def BQ (cs:List V):Option G.Hash:=
 tk (NA .int) cs fun f0 cs=>
 tk (NA .byte) cs fun f1 cs=>
 tk CA cs fun f2 cs=>
 gB cs (⟨f0,f1,f2⟩:G.Hash)
def iD:(t:TN)→List V→Option (El t)
 | .byte,cs=>tk jK cs fun b cs=>gB cs b
 | .int,cs=>tk CA cs fun n cs=>gB cs n
 | .bool,cs=>tk fF cs fun b cs=>gB cs b
 | .str,cs=>tk YI cs fun s cs=>gB cs s
 | .bs,cs=>tk (NA .byte) cs fun l cs=>gB cs l
 | .Addr,cs=>qQ cs
 | .Op,cs=>EQ cs
 | .Event,cs=>yQ cs
 | .Jar,cs=>CQ cs
 | .Dice,cs=>wQ cs
 | .Win,cs=>LQ cs
 | .Ep,cs=>xQ cs
 | .Chan,cs=>sQ cs
 | .Cand,cs=>rQ cs
 | .Paths,cs=>GQ cs
 | .Sess,cs=>IQ cs
 | .Tab,cs=>JQ cs
 | .Credit,cs=>uQ cs
 | .Server,cs=>HQ cs
 | .Frame,cs=>AQ cs
 | .Timer,cs=>KQ cs
 | .Client,cs=>tQ cs
 | .Wire,cs=>MQ cs
 | .Note,cs=>DQ cs
 | .World,cs=>NQ cs
 | .Cur,cs=>vQ cs
 | .Out,cs=>FQ cs
 | .Form,cs=>zQ cs
 | .Hash,cs=>BQ cs
inductive dF:V→V→Prop where
 | refl (c:V):dF c c
 | byte (n:Int):dF (.int .u8 n) (.int .u8 ((UInt8.ofNat n.toNat).toNat:Int))
 | nil (t:TN):dF .nil (.sl t [])
inductive vB:List V→List V→Prop where
 | nil:vB [] []
 | cons {c d:V} {cs ds:List V}:dF c d→vB cs ds→vB (c :: cs) (d :: ds)
theorem DA {c:V} {n:Int} (h:CA c=some n):dF c (.int .i64 n):=by
 cases c <;> simp [CA] at h
 rename_i k m;cases k <;> simp at h;subst h;exact .refl _
theorem zhu {c:V} {b:UInt8} (h:jK c=some b):dF c (.int .u8 (b.toNat:Int)):=by
 cases c <;> simp [jK] at h
 rename_i k m;cases k <;> simp at h;subst h;exact .byte _
theorem aI {c:V} {b:Bool} (h:fF c=some b):dF c (.bool b):=by
 cases c <;> simp [fF] at h;subst h;exact .refl _
theorem zcC {c:V} {b:List UInt8} (h:YI c=some b):dF c (.str b):=by
 cases c <;> simp [YI] at h;subst h;exact .refl _
theorem SA {t:TN} {c:V} {l:List (El t)} (h:NA t c=some l):dF c (.sl t l):=by
 cases c <;> simp [NA] at h
 ·subst h;exact .nil t
 ·obtain ⟨rfl,h⟩:=h;simp [TN.cast] at h;subst h;exact .refl _
theorem oA {α β:Type} {p:V→Option α} {cs:List V} {k:α→List V→Option β} {r:β} (h:tk p cs k=some r):
  ∃ c cs' a,cs=c :: cs'∧p c=some a∧k a cs'=some r:=by
 cases cs with
 | nil=>simp [tk] at h
 | cons c cs=>simp only [tk,Option.bind_eq_some_iff] at h;obtain ⟨a,h1,h2⟩:=h;exact ⟨c,cs,a,rfl,h1,h2⟩
theorem rC {β:Type} {cs:List V} {r s:β} (h:gB cs r=some s):cs=[]∧r=s:=by
 cases cs <;> simp [gB] at h;exact ⟨rfl,h⟩
theorem zo7 {cs:List V} {a:G.Addr} (h:qQ cs=some a):vB cs (QQ a):=by
 unfold qQ at h
 obtain ⟨c0,cs,f0,rfl,h0,h⟩:=oA h
 obtain ⟨c1,cs,f1,rfl,h1,h⟩:=oA h
 obtain ⟨rfl,rfl⟩:=rC h
 exact .cons (DA h0) (.cons (DA h1) (.nil))
theorem zpl {cs:List V} {a:G.Op} (h:EQ cs=some a):vB cs (zaO a):=by
 unfold EQ at h
 obtain ⟨c0,cs,f0,rfl,h0,h⟩:=oA h
 obtain ⟨c1,cs,f1,rfl,h1,h⟩:=oA h
 obtain ⟨c2,cs,f2,rfl,h2,h⟩:=oA h
 obtain ⟨c3,cs,f3,rfl,h3,h⟩:=oA h
 obtain ⟨rfl,rfl⟩:=rC h
 exact .cons (DA h0) (.cons (DA h1) (.cons (DA h2) (.cons (SA h3) (.nil))))
theorem zpf {cs:List V} {a:G.Event} (h:yQ cs=some a):vB cs (zaJ a):=by
 unfold yQ at h
 obtain ⟨c0,cs,f0,rfl,h0,h⟩:=oA h
 obtain ⟨c1,cs,f1,rfl,h1,h⟩:=oA h
 obtain ⟨c2,cs,f2,rfl,h2,h⟩:=oA h
 obtain ⟨c3,cs,f3,rfl,h3,h⟩:=oA h
 obtain ⟨c4,cs,f4,rfl,h4,h⟩:=oA h
 obtain ⟨c5,cs,f5,rfl,h5,h⟩:=oA h
 obtain ⟨rfl,rfl⟩:=rC h
 exact .cons (DA h0) (.cons (DA h1) (.cons (DA h2) (.cons (DA h3) (.cons (SA h4) (.cons (SA h5) (.nil))))))
theorem zpj {cs:List V} {a:G.Jar} (h:CQ cs=some a):vB cs (zaM a):=by
 unfold CQ at h
 obtain ⟨c0,cs,f0,rfl,h0,h⟩:=oA h
 obtain ⟨rfl,rfl⟩:=rC h
 exact .cons (SA h0) (.nil)
theorem zpd {cs:List V} {a:G.Dice} (h:wQ cs=some a):vB cs (zaH a):=by
 unfold wQ at h
 obtain ⟨c0,cs,f0,rfl,h0,h⟩:=oA h
 obtain ⟨c1,cs,f1,rfl,h1,h⟩:=oA h
 obtain ⟨rfl,rfl⟩:=rC h
 exact .cons (SA h0) (.cons (DA h1) (.nil))
theorem zps {cs:List V} {a:G.Win} (h:LQ cs=some a):vB cs (zaU a):=by
 unfold LQ at h
 obtain ⟨c0,cs,f0,rfl,h0,h⟩:=oA h
 obtain ⟨c1,cs,f1,rfl,h1,h⟩:=oA h
 obtain ⟨rfl,rfl⟩:=rC h
 exact .cons (DA h0) (.cons (SA h1) (.nil))
theorem zpe {cs:List V} {a:G.Ep} (h:xQ cs=some a):vB cs (zaI a):=by
 unfold xQ at h
 obtain ⟨c0,cs,f0,rfl,h0,h⟩:=oA h
 obtain ⟨c1,cs,f1,rfl,h1,h⟩:=oA h
 obtain ⟨c2,cs,f2,rfl,h2,h⟩:=oA h
 obtain ⟨c3,cs,f3,rfl,h3,h⟩:=oA h
 obtain ⟨c4,cs,f4,rfl,h4,h⟩:=oA h
 obtain ⟨rfl,rfl⟩:=rC h
 exact .cons (DA h0) (.cons (SA h1) (.cons (DA h2) (.cons (DA h3) (.cons (SA h4) (.nil)))))
theorem zo9 {cs:List V} {a:G.Chan} (h:sQ cs=some a):vB cs (zaE a):=by
 unfold sQ at h
 obtain ⟨c0,cs,f0,rfl,h0,h⟩:=oA h
 obtain ⟨c1,cs,f1,rfl,h1,h⟩:=oA h
 obtain ⟨c2,cs,f2,rfl,h2,h⟩:=oA h
 obtain ⟨c3,cs,f3,rfl,h3,h⟩:=oA h
 obtain ⟨c4,cs,f4,rfl,h4,h⟩:=oA h
 obtain ⟨c5,cs,f5,rfl,h5,h⟩:=oA h
 obtain ⟨c6,cs,f6,rfl,h6,h⟩:=oA h
 obtain ⟨c7,cs,f7,rfl,h7,h⟩:=oA h
 obtain ⟨c8,cs,f8,rfl,h8,h⟩:=oA h
 obtain ⟨c9,cs,f9,rfl,h9,h⟩:=oA h
 obtain ⟨c10,cs,f10,rfl,oW,h⟩:=oA h
 obtain ⟨c11,cs,f11,rfl,gW,h⟩:=oA h
 obtain ⟨c12,cs,f12,rfl,FW,h⟩:=oA h
 obtain ⟨c13,cs,f13,rfl,UW,h⟩:=oA h
 obtain ⟨c14,cs,f14,rfl,mX,h⟩:=oA h
 obtain ⟨rfl,rfl⟩:=rC h
 exact .cons (DA h0) (.cons (SA h1) (.cons (DA h2) (.cons (SA h3) (.cons (DA h4) (.cons (DA h5) (.cons (SA h6) (.cons (DA h7) (.cons (SA h8) (.cons (DA h9) (.cons (DA oW) (.cons (SA gW) (.cons (aI FW) (.cons (DA UW) (.cons (SA mX) (.nil)))))))))))))))
theorem zo8 {cs:List V} {a:G.Cand} (h:rQ cs=some a):vB cs (zaD a):=by
 unfold rQ at h
 obtain ⟨c0,cs,f0,rfl,h0,h⟩:=oA h
 obtain ⟨c1,cs,f1,rfl,h1,h⟩:=oA h
 obtain ⟨c2,cs,f2,rfl,h2,h⟩:=oA h
 obtain ⟨c3,cs,f3,rfl,h3,h⟩:=oA h
 obtain ⟨rfl,rfl⟩:=rC h
 exact .cons (DA h0) (.cons (DA h1) (.cons (SA h2) (.cons (DA h3) (.nil))))
theorem zpn {cs:List V} {a:G.Paths} (h:GQ cs=some a):vB cs (zaQ a):=by
 unfold GQ at h
 obtain ⟨c0,cs,f0,rfl,h0,h⟩:=oA h
 obtain ⟨c1,cs,f1,rfl,h1,h⟩:=oA h
 obtain ⟨c2,cs,f2,rfl,h2,h⟩:=oA h
 obtain ⟨rfl,rfl⟩:=rC h
 exact .cons (DA h0) (.cons (DA h1) (.cons (SA h2) (.nil)))
theorem zpp {cs:List V} {a:G.Sess} (h:IQ cs=some a):vB cs (zaS a):=by
 unfold IQ at h
 obtain ⟨c0,cs,f0,rfl,h0,h⟩:=oA h
 obtain ⟨c1,cs,f1,rfl,h1,h⟩:=oA h
 obtain ⟨c2,cs,f2,rfl,h2,h⟩:=oA h
 obtain ⟨c3,cs,f3,rfl,h3,h⟩:=oA h
 obtain ⟨c4,cs,f4,rfl,h4,h⟩:=oA h
 obtain ⟨c5,cs,f5,rfl,h5,h⟩:=oA h
 obtain ⟨c6,cs,f6,rfl,h6,h⟩:=oA h
 obtain ⟨c7,cs,f7,rfl,h7,h⟩:=oA h
 obtain ⟨c8,cs,f8,rfl,h8,h⟩:=oA h
 obtain ⟨c9,cs,f9,rfl,h9,h⟩:=oA h
 obtain ⟨c10,cs,f10,rfl,oW,h⟩:=oA h
 obtain ⟨c11,cs,f11,rfl,gW,h⟩:=oA h
 obtain ⟨c12,cs,f12,rfl,FW,h⟩:=oA h
 obtain ⟨c13,cs,f13,rfl,UW,h⟩:=oA h
 obtain ⟨c14,cs,f14,rfl,mX,h⟩:=oA h
 obtain ⟨c15,cs,f15,rfl,yX,h⟩:=oA h
 obtain ⟨c16,cs,f16,rfl,PX,h⟩:=oA h
 obtain ⟨c17,cs,f17,rfl,SX,h⟩:=oA h
 obtain ⟨c18,cs,f18,rfl,fZ,h⟩:=oA h
 obtain ⟨c19,cs,f19,rfl,CZ,h⟩:=oA h
 obtain ⟨c20,cs,f20,rfl,gZ,h⟩:=oA h
 obtain ⟨c21,cs,f21,rfl,M1,h⟩:=oA h
 obtain ⟨c22,cs,f22,rfl,HZ,h⟩:=oA h
 obtain ⟨c23,cs,f23,rfl,aZ,h⟩:=oA h
 obtain ⟨rfl,rfl⟩:=rC h
 exact .cons (DA h0) (.cons (SA h1) (.cons (SA h2) (.cons (DA h3) (.cons (SA h4) (.cons (DA h5) (.cons (SA h6) (.cons (DA h7) (.cons (DA h8) (.cons (SA h9) (.cons (DA oW) (.cons (SA gW) (.cons (DA FW) (.cons (DA UW) (.cons (SA mX) (.cons (aI yX) (.cons (DA PX) (.cons (SA SX) (.cons (DA fZ) (.cons (DA CZ) (.cons (SA gZ) (.cons (DA M1) (.cons (DA HZ) (.cons (aI aZ) (.nil))))))))))))))))))))))))
theorem zpq {cs:List V} {a:G.Tab} (h:JQ cs=some a):vB cs (zaT a):=by
 unfold JQ at h
 obtain ⟨c0,cs,f0,rfl,h0,h⟩:=oA h
 obtain ⟨c1,cs,f1,rfl,h1,h⟩:=oA h
 obtain ⟨rfl,rfl⟩:=rC h
 exact .cons (DA h0) (.cons (SA h1) (.nil))
theorem zpb {cs:List V} {a:G.Credit} (h:uQ cs=some a):vB cs (RQ a):=by
 unfold uQ at h
 obtain ⟨c0,cs,f0,rfl,h0,h⟩:=oA h
 obtain ⟨c1,cs,f1,rfl,h1,h⟩:=oA h
 obtain ⟨c2,cs,f2,rfl,h2,h⟩:=oA h
 obtain ⟨c3,cs,f3,rfl,h3,h⟩:=oA h
 obtain ⟨rfl,rfl⟩:=rC h
 exact .cons (DA h0) (.cons (DA h1) (.cons (DA h2) (.cons (DA h3) (.nil))))
theorem zpo {cs:List V} {a:G.Server} (h:HQ cs=some a):vB cs (zaR a):=by
 unfold HQ at h
 obtain ⟨c0,cs,f0,rfl,h0,h⟩:=oA h
 obtain ⟨c1,cs,f1,rfl,h1,h⟩:=oA h
 obtain ⟨c2,cs,f2,rfl,h2,h⟩:=oA h
 obtain ⟨c3,cs,f3,rfl,h3,h⟩:=oA h
 obtain ⟨c4,cs,f4,rfl,h4,h⟩:=oA h
 obtain ⟨c5,cs,f5,rfl,h5,h⟩:=oA h
 obtain ⟨c6,cs,f6,rfl,h6,h⟩:=oA h
 obtain ⟨rfl,rfl⟩:=rC h
 exact .cons (SA h0) (.cons (SA h1) (.cons (SA h2) (.cons (DA h3) (.cons (DA h4) (.cons (SA h5) (.cons (SA h6) (.nil)))))))
theorem zph {cs:List V} {a:G.Frame} (h:AQ cs=some a):vB cs (zaK a):=by
 unfold AQ at h
 obtain ⟨c0,cs,f0,rfl,h0,h⟩:=oA h
 obtain ⟨c1,cs,f1,rfl,h1,h⟩:=oA h
 obtain ⟨c2,cs,f2,rfl,h2,h⟩:=oA h
 obtain ⟨c3,cs,f3,rfl,h3,h⟩:=oA h
 obtain ⟨c4,cs,f4,rfl,h4,h⟩:=oA h
 obtain ⟨c5,cs,f5,rfl,h5,h⟩:=oA h
 obtain ⟨c6,cs,f6,rfl,h6,h⟩:=oA h
 obtain ⟨c7,cs,f7,rfl,h7,h⟩:=oA h
 obtain ⟨c8,cs,f8,rfl,h8,h⟩:=oA h
 obtain ⟨c9,cs,f9,rfl,h9,h⟩:=oA h
 obtain ⟨c10,cs,f10,rfl,oW,h⟩:=oA h
 obtain ⟨rfl,rfl⟩:=rC h
 exact .cons (DA h0) (.cons (DA h1) (.cons (SA h2) (.cons (SA h3) (.cons (DA h4) (.cons (SA h5) (.cons (SA h6) (.cons (DA h7) (.cons (DA h8) (.cons (SA h9) (.cons (SA oW) (.nil)))))))))))
theorem zpr {cs:List V} {a:G.Timer} (h:KQ cs=some a):vB cs (TQ a):=by
 unfold KQ at h
 obtain ⟨c0,cs,f0,rfl,h0,h⟩:=oA h
 obtain ⟨c1,cs,f1,rfl,h1,h⟩:=oA h
 obtain ⟨c2,cs,f2,rfl,h2,h⟩:=oA h
 obtain ⟨c3,cs,f3,rfl,h3,h⟩:=oA h
 obtain ⟨rfl,rfl⟩:=rC h
 exact .cons (aI h0) (.cons (DA h1) (.cons (DA h2) (.cons (DA h3) (.nil))))
theorem zpa {cs:List V} {a:G.Client} (h:tQ cs=some a):vB cs (zaF a):=by
 unfold tQ at h
 obtain ⟨c0,cs,f0,rfl,h0,h⟩:=oA h
 obtain ⟨c1,cs,f1,rfl,h1,h⟩:=oA h
 obtain ⟨c2,cs,f2,rfl,h2,h⟩:=oA h
 obtain ⟨c3,cs,f3,rfl,h3,h⟩:=oA h
 obtain ⟨c4,cs,f4,rfl,h4,h⟩:=oA h
 obtain ⟨c5,cs,f5,rfl,h5,h⟩:=oA h
 obtain ⟨c6,cs,f6,rfl,h6,h⟩:=oA h
 obtain ⟨c7,cs,f7,rfl,h7,h⟩:=oA h
 obtain ⟨c8,cs,f8,rfl,h8,h⟩:=oA h
 obtain ⟨c9,cs,f9,rfl,h9,h⟩:=oA h
 obtain ⟨c10,cs,f10,rfl,oW,h⟩:=oA h
 obtain ⟨c11,cs,f11,rfl,gW,h⟩:=oA h
 obtain ⟨c12,cs,f12,rfl,FW,h⟩:=oA h
 obtain ⟨c13,cs,f13,rfl,UW,h⟩:=oA h
 obtain ⟨c14,cs,f14,rfl,mX,h⟩:=oA h
 obtain ⟨c15,cs,f15,rfl,yX,h⟩:=oA h
 obtain ⟨c16,cs,f16,rfl,PX,h⟩:=oA h
 obtain ⟨c17,cs,f17,rfl,SX,h⟩:=oA h
 obtain ⟨c18,cs,f18,rfl,fZ,h⟩:=oA h
 obtain ⟨c19,cs,f19,rfl,CZ,h⟩:=oA h
 obtain ⟨c20,cs,f20,rfl,gZ,h⟩:=oA h
 obtain ⟨c21,cs,f21,rfl,M1,h⟩:=oA h
 obtain ⟨c22,cs,f22,rfl,HZ,h⟩:=oA h
 obtain ⟨c23,cs,f23,rfl,aZ,h⟩:=oA h
 obtain ⟨c24,cs,f24,rfl,DZ,h⟩:=oA h
 obtain ⟨c25,cs,f25,rfl,N1,h⟩:=oA h
 obtain ⟨c26,cs,f26,rfl,Q0,h⟩:=oA h
 obtain ⟨c27,cs,f27,rfl,S0,h⟩:=oA h
 obtain ⟨c28,cs,f28,rfl,t4,h⟩:=oA h
 obtain ⟨c29,cs,f29,rfl,v4,h⟩:=oA h
 obtain ⟨c30,cs,f30,rfl,z4,h⟩:=oA h
 obtain ⟨c31,cs,f31,rfl,A4,h⟩:=oA h
 obtain ⟨fQ,cs,f32,rfl,T7,h⟩:=oA h
 obtain ⟨c33,cs,f33,rfl,U7,h⟩:=oA h
 obtain ⟨c34,cs,f34,rfl,V7,h⟩:=oA h
 obtain ⟨iF,cs,f35,rfl,W7,h⟩:=oA h
 obtain ⟨AB,cs,f36,rfl,X7,h⟩:=oA h
 obtain ⟨c37,cs,f37,rfl,Y7,h⟩:=oA h
 obtain ⟨WC,cs,f38,rfl,h38,h⟩:=oA h
 obtain ⟨c39,cs,f39,rfl,h39,h⟩:=oA h
 obtain ⟨c40,cs,f40,rfl,h40,h⟩:=oA h
 obtain ⟨rfl,rfl⟩:=rC h
 exact .cons (DA h0) (.cons (SA h1) (.cons (DA h2) (.cons (DA h3) (.cons (DA h4) (.cons (SA h5) (.cons (DA h6) (.cons (DA h7) (.cons (SA h8) (.cons (SA h9) (.cons (DA oW) (.cons (SA gW) (.cons (SA FW) (.cons (DA UW) (.cons (DA mX) (.cons (SA yX) (.cons (SA PX) (.cons (DA SX) (.cons (SA fZ) (.cons (DA CZ) (.cons (SA gZ) (.cons (DA M1) (.cons (DA HZ) (.cons (SA aZ) (.cons (DA DZ) (.cons (SA N1) (.cons (DA Q0) (.cons (DA S0) (.cons (SA t4) (.cons (aI v4) (.cons (DA z4) (.cons (SA A4) (.cons (aI T7) (.cons (DA U7) (.cons (DA V7) (.cons (DA W7) (.cons (aI X7) (.cons (DA Y7) (.cons (DA h38) (.cons (DA h39) (.cons (DA h40) (.nil)))))))))))))))))))))))))))))))))))))))))
theorem zpt {cs:List V} {a:G.Wire} (h:MQ cs=some a):vB cs (zaV a):=by
 unfold MQ at h
 obtain ⟨c0,cs,f0,rfl,h0,h⟩:=oA h
 obtain ⟨c1,cs,f1,rfl,h1,h⟩:=oA h
 obtain ⟨c2,cs,f2,rfl,h2,h⟩:=oA h
 obtain ⟨c3,cs,f3,rfl,h3,h⟩:=oA h
 obtain ⟨c4,cs,f4,rfl,h4,h⟩:=oA h
 obtain ⟨rfl,rfl⟩:=rC h
 exact .cons (DA h0) (.cons (DA h1) (.cons (DA h2) (.cons (DA h3) (.cons (SA h4) (.nil)))))
theorem zpk {cs:List V} {a:G.Note} (h:DQ cs=some a):vB cs (zaN a):=by
 unfold DQ at h
 obtain ⟨c0,cs,f0,rfl,h0,h⟩:=oA h
 obtain ⟨c1,cs,f1,rfl,h1,h⟩:=oA h
 obtain ⟨c2,cs,f2,rfl,h2,h⟩:=oA h
 obtain ⟨c3,cs,f3,rfl,h3,h⟩:=oA h
 obtain ⟨c4,cs,f4,rfl,h4,h⟩:=oA h
 obtain ⟨c5,cs,f5,rfl,h5,h⟩:=oA h
 obtain ⟨c6,cs,f6,rfl,h6,h⟩:=oA h
 obtain ⟨c7,cs,f7,rfl,h7,h⟩:=oA h
 obtain ⟨c8,cs,f8,rfl,h8,h⟩:=oA h
 obtain ⟨c9,cs,f9,rfl,h9,h⟩:=oA h
 obtain ⟨c10,cs,f10,rfl,oW,h⟩:=oA h
 obtain ⟨c11,cs,f11,rfl,gW,h⟩:=oA h
 obtain ⟨rfl,rfl⟩:=rC h
 exact .cons (DA h0) (.cons (DA h1) (.cons (DA h2) (.cons (SA h3) (.cons (SA h4) (.cons (DA h5) (.cons (DA h6) (.cons (SA h7) (.cons (SA h8) (.cons (DA h9) (.cons (DA oW) (.cons (DA gW) (.nil))))))))))))
theorem zpu {cs:List V} {a:G.World} (h:NQ cs=some a):vB cs (zaW a):=by
 unfold NQ at h
 obtain ⟨c0,cs,f0,rfl,h0,h⟩:=oA h
 obtain ⟨c1,cs,f1,rfl,h1,h⟩:=oA h
 obtain ⟨c2,cs,f2,rfl,h2,h⟩:=oA h
 obtain ⟨c3,cs,f3,rfl,h3,h⟩:=oA h
 obtain ⟨c4,cs,f4,rfl,h4,h⟩:=oA h
 obtain ⟨c5,cs,f5,rfl,h5,h⟩:=oA h
 obtain ⟨c6,cs,f6,rfl,h6,h⟩:=oA h
 obtain ⟨c7,cs,f7,rfl,h7,h⟩:=oA h
 obtain ⟨c8,cs,f8,rfl,h8,h⟩:=oA h
 obtain ⟨c9,cs,f9,rfl,h9,h⟩:=oA h
 obtain ⟨c10,cs,f10,rfl,oW,h⟩:=oA h
 obtain ⟨c11,cs,f11,rfl,gW,h⟩:=oA h
 obtain ⟨c12,cs,f12,rfl,FW,h⟩:=oA h
 obtain ⟨c13,cs,f13,rfl,UW,h⟩:=oA h
 obtain ⟨rfl,rfl⟩:=rC h
 exact .cons (DA h0) (.cons (SA h1) (.cons (SA h2) (.cons (SA h3) (.cons (SA h4) (.cons (DA h5) (.cons (DA h6) (.cons (SA h7) (.cons (SA h8) (.cons (SA h9) (.cons (DA oW) (.cons (SA gW) (.cons (SA FW) (.cons (SA UW) (.nil))))))))))))))
theorem zpc {cs:List V} {a:G.Cur} (h:vQ cs=some a):vB cs (zaG a):=by
 unfold vQ at h
 obtain ⟨c0,cs,f0,rfl,h0,h⟩:=oA h
 obtain ⟨c1,cs,f1,rfl,h1,h⟩:=oA h
 obtain ⟨c2,cs,f2,rfl,h2,h⟩:=oA h
 obtain ⟨rfl,rfl⟩:=rC h
 exact .cons (SA h0) (.cons (DA h1) (.cons (DA h2) (.nil)))
theorem zpm {cs:List V} {a:G.Out} (h:FQ cs=some a):vB cs (zaP a):=by
 unfold FQ at h
 obtain ⟨c0,cs,f0,rfl,h0,h⟩:=oA h
 obtain ⟨c1,cs,f1,rfl,h1,h⟩:=oA h
 obtain ⟨c2,cs,f2,rfl,h2,h⟩:=oA h
 obtain ⟨c3,cs,f3,rfl,h3,h⟩:=oA h
 obtain ⟨c4,cs,f4,rfl,h4,h⟩:=oA h
 obtain ⟨c5,cs,f5,rfl,h5,h⟩:=oA h
 obtain ⟨c6,cs,f6,rfl,h6,h⟩:=oA h
 obtain ⟨c7,cs,f7,rfl,h7,h⟩:=oA h
 obtain ⟨c8,cs,f8,rfl,h8,h⟩:=oA h
 obtain ⟨c9,cs,f9,rfl,h9,h⟩:=oA h
 obtain ⟨c10,cs,f10,rfl,oW,h⟩:=oA h
 obtain ⟨c11,cs,f11,rfl,gW,h⟩:=oA h
 obtain ⟨c12,cs,f12,rfl,FW,h⟩:=oA h
 obtain ⟨rfl,rfl⟩:=rC h
 exact .cons (DA h0) (.cons (DA h1) (.cons (DA h2) (.cons (DA h3) (.cons (SA h4) (.cons (SA h5) (.cons (DA h6) (.cons (SA h7) (.cons (SA h8) (.cons (DA h9) (.cons (DA oW) (.cons (SA gW) (.cons (SA FW) (.nil)))))))))))))
theorem zpg {cs:List V} {a:G.Form} (h:zQ cs=some a):vB cs (SQ a):=by
 unfold zQ at h
 obtain ⟨c0,cs,f0,rfl,h0,h⟩:=oA h
 obtain ⟨c1,cs,f1,rfl,h1,h⟩:=oA h
 obtain ⟨rfl,rfl⟩:=rC h
 exact .cons (DA h0) (.cons (zcC h1) (.nil))
theorem zpi {cs:List V} {a:G.Hash} (h:BQ cs=some a):vB cs (zaL a):=by
 unfold BQ at h
 obtain ⟨c0,cs,f0,rfl,h0,h⟩:=oA h
 obtain ⟨c1,cs,f1,rfl,h1,h⟩:=oA h
 obtain ⟨c2,cs,f2,rfl,h2,h⟩:=oA h
 obtain ⟨rfl,rfl⟩:=rC h
 exact .cons (SA h0) (.cons (SA h1) (.cons (DA h2) (.nil)))
theorem CD:(t:TN)→ {cs:List V}→ {a:El t}→iD t cs=some a→vB cs (enc t a)
 | .byte,cs,a,h=>by
  obtain ⟨c0,cs,f0,rfl,h0,h⟩:=oA (show tk jK cs (fun b cs=>gB cs b)=some a from h)
  obtain ⟨rfl,rfl⟩:=rC h;exact .cons (zhu h0) .nil
 | .int,cs,a,h=>by
  obtain ⟨c0,cs,f0,rfl,h0,h⟩:=oA (show tk CA cs (fun b cs=>gB cs b)=some a from h)
  obtain ⟨rfl,rfl⟩:=rC h;exact .cons (DA h0) .nil
 | .bool,cs,a,h=>by
  obtain ⟨c0,cs,f0,rfl,h0,h⟩:=oA (show tk fF cs (fun b cs=>gB cs b)=some a from h)
  obtain ⟨rfl,rfl⟩:=rC h;exact .cons (aI h0) .nil
 | .str,cs,a,h=>by
  obtain ⟨c0,cs,f0,rfl,h0,h⟩:=oA (show tk YI cs (fun b cs=>gB cs b)=some a from h)
  obtain ⟨rfl,rfl⟩:=rC h;exact .cons (zcC h0) .nil
 | .bs,cs,a,h=>by
  obtain ⟨c0,cs,f0,rfl,h0,h⟩:=oA (show tk (NA .byte) cs (fun b cs=>gB cs b)=some a from h)
  obtain ⟨rfl,rfl⟩:=rC h;exact .cons (SA h0) .nil
 | .Addr,_,_,h=>zo7 h
 | .Op,_,_,h=>zpl h
 | .Event,_,_,h=>zpf h
 | .Jar,_,_,h=>zpj h
 | .Dice,_,_,h=>zpd h
 | .Win,_,_,h=>zps h
 | .Ep,_,_,h=>zpe h
 | .Chan,_,_,h=>zo9 h
 | .Cand,_,_,h=>zo8 h
 | .Paths,_,_,h=>zpn h
 | .Sess,_,_,h=>zpp h
 | .Tab,_,_,h=>zpq h
 | .Credit,_,_,h=>zpb h
 | .Server,_,_,h=>zpo h
 | .Frame,_,_,h=>zph h
 | .Timer,_,_,h=>zpr h
 | .Client,_,_,h=>zpa h
 | .Wire,_,_,h=>zpt h
 | .Note,_,_,h=>zpk h
 | .World,_,_,h=>zpu h
 | .Cur,_,_,h=>zpc h
 | .Out,_,_,h=>zpm h
 | .Form,_,_,h=>zpg h
 | .Hash,_,_,h=>zpi h
theorem aC (t:TN) (a:El t):(enc t a).length=sz t:=by cases t <;> rfl
theorem VJ (t:TN):0<sz t:=by cases t <;> simp [sz]
def V.leaf:V→Bool
 | .undef | .agg _ | .tup _=>false
 | _=>true
theorem zev (t:TN) (a:El t):(enc t a).all V.leaf=true:=by cases t <;> rfl
def TN.isAgg:TN→Bool
 | .byte | .int | .bool | .str | .bs=>false
 | _=>true
end Go.D
namespace Go.D
class fA where
 tn:TypeId→Option TN
 base:Nat
end Go.D
namespace Go.D
structure RI where
 b:Nat
 n:Nat
 cap:Nat
 nl:Bool
def DD [fA] (w:World) (b:Nat) (t:TN):Prop:=∃ c e z,w.heap[b]?=some (.cells c e z)∧fA.tn e=some t
def VC (k:IntKind) (n:Int):Prop:=k.min≤n∧n≤k.max
def xA (b o:Nat):Addr:=⟨b,o,none⟩
variable [fA]
inductive VR (w:World) (ρ:Nat→Option RI) (bad:Nat→Prop):Value→V→Prop where
 | undef (v:Value):VR w ρ bad v .undef
 | bool (b:Bool):VR w ρ bad (.bool b) (.bool b)
 | int (k:IntKind) (n:Int) (h:VC k n):VR w ρ bad (.int k n) (.int k n)
 | str (s:List UInt8) (h:s.length≤maxLen):VR w ρ bad (.string ⟨s.toArray⟩) (.str s)
 | nil:VR w ρ bad (.slice none 0 0) .nil
 | slE (t:TN) (a:Option Addr) (cap:Nat) (h:cap≤maxLen):VR w ρ bad (.slice a 0 cap) (.sl t [])
 | slC (t:TN) (l:List (El t)) (b off cap:Nat) (u:Nat→Nat→Value) (hb:¬ bad b) (hl:l.length≤cap) (hc:cap≤maxLen) (he:l≠[]→b<fA.base∨DD w b t)
   (hu:∀ i,i<l.length→∀ j,j<sz t→w.cell? (xA b (off+i *sz t+j))=some (u i j))
   (hv:∀ i (h:i<l.length) j,j<sz t→VR w ρ bad (u i j) ((enc t l[i]).getD j .undef)):
   VR w ρ bad (.slice (some (xA b off)) l.length cap) (.sl t l)
 | ow (r:Nat) (ri:RI) (h:ρ r=some ri) (hn:ri.n≤ri.cap) (hc:ri.cap≤maxLen) (mW:ri.nl=false):VR w ρ bad (.slice (some (xA ri.b 0)) ri.n ri.cap) (.ow r)
 | owN (r:Nat) (ri:RI) (ao:Option Addr) (h:ρ r=some ri) (hn:ri.n=0) (mW:ri.nl=true):VR w ρ bad (.slice ao 0 0) (.ow r)
 | ov (r:Nat) (t:TN) (off len cap:Nat) (a:Option Addr) (ri:RI) (h:ρ r=some ri) (T9:off+len≤ri.n) (ha:len=0∧cap=0∨a=some (xA ri.b (off *sz t))∧ri.nl=false∧off+cap≤ri.cap)
   (hl:len≤cap) (hc:cap≤maxLen):VR w ρ bad (.slice a len cap) (.ov r t off len)
 | bp (r off:Nat) (ri:RI) (h:ρ r=some ri) (mW:ri.nl=false):VR w ρ bad (.pointer (some (xA ri.b off))) (.bp r off)
 | ep (r:Nat) (t:TN) (i off:Nat) (ri:RI) (h:ρ r=some ri) (mW:ri.nl=false):VR w ρ bad (.pointer (some (xA ri.b (i *sz t+off)))) (.ep r t i off)
 | fp (cs:List V) (off b o:Nat) (u:Nat→Value) (h0:0<cs.length) (hb:¬ bad b) (hu:∀ j,j<cs.length→w.cell? (xA b (o+j))=some (u j))
   (hv:∀ j (h:j<cs.length),VR w ρ bad (u j) cs[j]):VR w ρ bad (.pointer (some (xA b (o+off)))) (.fp cs off)
 | fn (f:Nat) (cs:List V) (caps:Array Value) (hs:caps.size=cs.length) (hv:∀ j (h:j<cs.length),VR w ρ bad (caps.getD j undef) cs[j]):
   VR w ρ bad (.func (.func f) #[] caps) (.fn f cs)
 | agg (cs:List V) (vs:Array Value) (hs:vs.size=cs.length) (hv:∀ j (h:j<cs.length),VR w ρ bad (vs.getD j undef) cs[j]):VR w ρ bad (.agg vs) (.agg cs)
 | tup (cs:List V) (vs:Array Value) (hs:vs.size=cs.length) (hv:∀ j (h:j<cs.length),VR w ρ bad (vs.getD j undef) cs[j]):VR w ρ bad (.tuple vs) (.tup cs)
 | nili:VR w ρ bad .nilIface .nili
 | ifc (t:TypeId) (v:Value):VR w ρ bad (.iface t v) (.ifc false)
 | ifn:VR w ρ bad .nilIface (.ifc true)
inductive lB (S:Nat→Prop):V→Prop where
 | undef:lB S .undef
 | bool (b:Bool):lB S (.bool b)
 | int (k:IntKind) (n:Int):lB S (.int k n)
 | str (s:List UInt8):lB S (.str s)
 | nil:lB S .nil
 | sl (t:TN) (l:List (El t)) (h:∀ i (h:i<l.length) j,j<sz t→lB S ((enc t l[i]).getD j .undef)):lB S (.sl t l)
 | ow (r:Nat) (h:S r):lB S (.ow r)
 | ov (r:Nat) (t:TN) (off len:Nat) (h:S r):lB S (.ov r t off len)
 | bp (r off:Nat) (h:S r):lB S (.bp r off)
 | ep (r:Nat) (t:TN) (i off:Nat) (h:S r):lB S (.ep r t i off)
 | fp (cs:List V) (off:Nat) (h:∀ j (h:j<cs.length),lB S cs[j]):lB S (.fp cs off)
 | fn (f:Nat) (cs:List V) (h:∀ j (h:j<cs.length),lB S cs[j]):lB S (.fn f cs)
 | agg (cs:List V) (h:∀ j (h:j<cs.length),lB S cs[j]):lB S (.agg cs)
 | tup (cs:List V) (h:∀ j (h:j<cs.length),lB S cs[j]):lB S (.tup cs)
 | nili:lB S .nili
 | ifc (b:Bool):lB S (.ifc b)
section
variable {w:World} {ρ:Nat→Option RI} {bad:Nat→Prop} {v:Value} {d:V}
theorem VR.refs (h:VR w ρ bad v d):lB (fun r=>ρ r≠none) d:=by
 induction h with
 | undef=>exact .undef
 | bool=>exact .bool _
 | int=>exact .int _ _
 | str=>exact .str _
 | nil=>exact .nil
 | slE=>exact .sl _ _ (fun i h=>by simp at h)
 | slC t l b off cap u hb hl hc he hu hv ih=>exact .sl _ _ ih
 | ow r ri h=>exact .ow _ (by simp [h])
 | owN r ri ao h=>exact .ow _ (by simp [h])
 | ov r t off len cap a ri h=>exact .ov _ _ _ _ (by simp [h])
 | bp r off ri h=>exact .bp _ _ (by simp [h])
 | ep r t i off ri h=>exact .ep _ _ _ _ (by simp [h])
 | fp cs off b o u h0 hb hu hv ih=>exact .fp _ _ ih
 | fn f cs caps hs hv ih=>exact .fn _ _ ih
 | agg cs vs hs hv ih=>exact .agg _ ih
 | tup cs vs hs hv ih=>exact .tup _ ih
 | nili=>exact .nili
 | ifc=>exact .ifc _
 | ifn=>exact .ifc _
omit [fA] in
theorem YM {w:World} {b o:Nat} {u:Value} (h:w.cell? (xA b o)=some u):b<w.heap.size:=by
 rcases Nat.lt_or_ge b w.heap.size with h' | h'
 ·exact h'
 ·simp [World.cell?,xA,Array.getElem?_eq_none h'] at h
omit [fA] in
theorem LG {w w':World} {b o:Nat} (h:w'.heap[b]?=w.heap[b]?):w'.cell? (xA b o)=w.cell? (xA b o):=by
 simp [World.cell?,xA,h]
theorem DD.same {w w':World} {b:Nat} {t:TN} (h:DD w b t) (hw:w'.heap[b]?=w.heap[b]?):DD w' b t:=by
 obtain ⟨c,e,z,h1,h2⟩:=h
 exact ⟨c,e,z,hw.trans h1,h2⟩
theorem DD.uniq {w:World} {b:Nat} {t t':TN} (h:DD w b t) (h':DD w b t'):t=t':=by
 obtain ⟨c,e,z,h1,h2⟩:=h
 obtain ⟨c',e',z',h1',h2'⟩:=h'
 rw [h1] at h1'
 cases h1'
 rw [h2] at h2'
 exact Option.some.inj h2'
theorem VR.keep {w':World} {ρ':Nat→Option RI} {bad':Nat→Prop} {S:Nat→Prop} (h:VR w ρ bad v d) (hS:lB S d)
  (hρ:∀ r ri,S r→ρ r=some ri→ρ' r=some ri)
  (hw:∀ b,¬ bad b→b<w.heap.size→w'.heap[b]?=w.heap[b]?) (hb:∀ b,bad' b→bad b∨w.heap.size≤b):VR w' ρ' bad' v d:=by
 have rW:∀ b,¬ bad b→b<w.heap.size→¬ bad' b:=fun b h1 h2 h3=>(hb b h3).elim h1 (by omega)
 induction h with
 | undef=>exact .undef _
 | bool=>exact .bool _
 | int k n h=>exact .int _ _ h
 | str s h=>exact .str _ h
 | nil=>exact .nil
 | slE t a cap h=>exact .slE _ _ _ h
 | slC t l b off cap u hb hl hc he hu hv ih=>
  by_cases K4:l.length=0
  ·obtain rfl:l=[]:=List.eq_nil_of_length_eq_zero K4
   exact .slE _ _ _ hc
  ·have RV:b<w.heap.size:=YM (hu 0 (by omega) 0 (VJ t))
   cases hS with
   | sl _ _ hS=>
   exact .slC t l b off cap u (rW b hb RV) hl hc (fun h0=>(he h0).imp id fun k=>k.same (hw b hb RV)) (fun i h j hj=>(LG (hw b hb RV)).trans (hu i h j hj)) (fun i h j hj=>ih i h j hj (hS i h j hj))
 | ow r ri h hn hc mW=>cases hS with | ow _ hs=>exact .ow _ _ (hρ _ _ hs h) hn hc mW
 | owN r ri ao h hn mW=>cases hS with | ow _ hs=>exact .owN _ _ _ (hρ _ _ hs h) hn mW
 | ov r t off len cap a ri h T9 ha hl hc=>cases hS with | ov _ _ _ _ hs=>exact .ov _ _ _ _ _ _ _ (hρ _ _ hs h) T9 ha hl hc
 | bp r off ri h mW=>cases hS with | bp _ _ hs=>exact .bp _ _ _ (hρ _ _ hs h) mW
 | ep r t i off ri h mW=>cases hS with | ep _ _ _ _ hs=>exact .ep _ _ _ _ _ (hρ _ _ hs h) mW
 | fp cs off b o u h0 hb hu hv ih=>
  cases hS with
  | fp _ _ hS=>
  have RV:b<w.heap.size:=YM (hu 0 h0)
  exact .fp cs off b o u h0 (rW b hb RV) (fun j hj=>(LG (hw b hb RV)).trans (hu j hj)) (fun j hj=>ih j hj (hS j hj))
 | fn f cs caps hs hv ih=>cases hS with | fn _ _ hS=>exact .fn _ _ _ hs (fun j hj=>ih j hj (hS j hj))
 | agg cs vs hs hv ih=>cases hS with | agg _ hS=>exact .agg _ _ hs (fun j hj=>ih j hj (hS j hj))
 | tup cs vs hs hv ih=>cases hS with | tup _ hS=>exact .tup _ _ hs (fun j hj=>ih j hj (hS j hj))
 | nili=>exact .nili
 | ifc=>exact .ifc _ _
 | ifn=>exact .ifn
def bK (w:World) (b:Nat):Prop:=∃ o u,w.cell? (xA b o)=some u
theorem VR.keep2 {w':World} {ρ':Nat→Option RI} {bad':Nat→Prop} {S:Nat→Prop} (h:VR w ρ bad v d) (hS:lB S d)
  (hρ:∀ r ri,S r→ρ r=some ri→ρ' r=some ri)
  (hw:∀ b,¬ bad b→bK w b→w'.heap[b]?=w.heap[b]?) (hb:∀ b,bK w b→bad' b→bad b):VR w' ρ' bad' v d:=by
 have rW:∀ b,¬ bad b→bK w b→¬ bad' b:=fun b h1 h2 h3=>h1 (hb b h2 h3)
 induction h with
 | undef=>exact .undef _
 | bool=>exact .bool _
 | int k n h=>exact .int _ _ h
 | str s h=>exact .str _ h
 | nil=>exact .nil
 | slE t a cap h=>exact .slE _ _ _ h
 | slC t l b off cap u hb hl hc he hu hv ih=>
  by_cases K4:l.length=0
  ·obtain rfl:l=[]:=List.eq_nil_of_length_eq_zero K4
   exact .slE _ _ _ hc
  ·have RV:bK w b:=⟨_,_,hu 0 (by omega) 0 (VJ t)⟩
   cases hS with
   | sl _ _ hS=>
   exact .slC t l b off cap u (rW b hb RV) hl hc (fun h0=>(he h0).imp id fun k=>k.same (hw b hb RV)) (fun i h j hj=>(LG (hw b hb RV)).trans (hu i h j hj)) (fun i h j hj=>ih i h j hj (hS i h j hj))
 | ow r ri h hn hc mW=>cases hS with | ow _ hs=>exact .ow _ _ (hρ _ _ hs h) hn hc mW
 | owN r ri ao h hn mW=>cases hS with | ow _ hs=>exact .owN _ _ _ (hρ _ _ hs h) hn mW
 | ov r t off len cap a ri h T9 ha hl hc=>cases hS with | ov _ _ _ _ hs=>exact .ov _ _ _ _ _ _ _ (hρ _ _ hs h) T9 ha hl hc
 | bp r off ri h mW=>cases hS with | bp _ _ hs=>exact .bp _ _ _ (hρ _ _ hs h) mW
 | ep r t i off ri h mW=>cases hS with | ep _ _ _ _ hs=>exact .ep _ _ _ _ _ (hρ _ _ hs h) mW
 | fp cs off b o u h0 hb hu hv ih=>
  cases hS with
  | fp _ _ hS=>
  have RV:bK w b:=⟨_,_,hu 0 h0⟩
  exact .fp cs off b o u h0 (rW b hb RV) (fun j hj=>(LG (hw b hb RV)).trans (hu j hj)) (fun j hj=>ih j hj (hS j hj))
 | fn f cs caps hs hv ih=>cases hS with | fn _ _ hS=>exact .fn _ _ _ hs (fun j hj=>ih j hj (hS j hj))
 | agg cs vs hs hv ih=>cases hS with | agg _ hS=>exact .agg _ _ hs (fun j hj=>ih j hj (hS j hj))
 | tup cs vs hs hv ih=>cases hS with | tup _ hS=>exact .tup _ _ hs (fun j hj=>ih j hj (hS j hj))
 | nili=>exact .nili
 | ifc=>exact .ifc _ _
 | ifn=>exact .ifn
omit [fA] in
theorem lB.all {S:Nat→Prop} {d:V} (hS:∀ r,S r) (h:lB (fun r=>ρ r≠none) d):lB S d:=by
 induction h with
 | undef=>exact .undef
 | bool=>exact .bool _
 | int=>exact .int _ _
 | str=>exact .str _
 | nil=>exact .nil
 | sl t l h ih=>exact .sl _ _ ih
 | ow r h=>exact .ow _ (hS _)
 | ov r t off len h=>exact .ov _ _ _ _ (hS _)
 | bp r off h=>exact .bp _ _ (hS _)
 | ep r t i off h=>exact .ep _ _ _ _ (hS _)
 | fp cs off h ih=>exact .fp _ _ ih
 | fn f cs h ih=>exact .fn _ _ ih
 | agg cs h ih=>exact .agg _ ih
 | tup cs h ih=>exact .tup _ ih
 | nili=>exact .nili
 | ifc=>exact .ifc _
theorem VR.mono {w':World} {ρ':Nat→Option RI} {bad':Nat→Prop} (h:VR w ρ bad v d) (hρ:∀ r ri,ρ r=some ri→ρ' r=some ri)
  (hw:∀ b,¬ bad b→b<w.heap.size→w'.heap[b]?=w.heap[b]?) (hb:∀ b,bad' b→bad b∨w.heap.size≤b):VR w' ρ' bad' v d:=
 h.keep (S:=fun _=>True) (lB.all (fun _=>trivial) h.refs) (fun r ri _=>hρ r ri) hw hb
theorem VR.one (h:VR w ρ bad v d) (hd:d.leaf=true):v.oneCell'=true:=by
 cases h <;> first | rfl | simp [V.leaf] at hd
omit [fA] in
theorem zp6 (n:Int) (h:VC .u8 n):((UInt8.ofNat n.toNat).toNat:Int)=n:=by
 obtain ⟨h1,h2⟩:=h
 simp [IntKind.min,IntKind.max,IntKind.signed,IntKind.bits] at h1 h2
 simp only [UInt8.toNat_ofNat']
 omega
theorem VR.sub {c d:V} (hs:dF c d) (h:VR w ρ bad v c):VR w ρ bad v d:=by
 cases hs with
 | refl=>exact h
 | byte n=>cases h with | int _ _ hf=>rw [zp6 n hf];exact .int _ _ hf
 | nil t=>cases h;exact .slE _ _ _ (Nat.zero_le _)
end
end Go.D
namespace Go.D
theorem tB (S:Nat→Prop) (a:UInt8) (j:Nat):lB S ((enc .byte a).getD j .undef):=by
 match j with
 | 0=>exact .int _ _
 | n+1=>exact .undef
theorem aH (S:Nat→Prop) (a:Int) (j:Nat):lB S ((enc .int a).getD j .undef):=by
 match j with
 | 0=>exact .int _ _
 | n+1=>exact .undef
theorem zsB (S:Nat→Prop) (a:Bool) (j:Nat):lB S ((enc .bool a).getD j .undef):=by
 match j with
 | 0=>exact .bool _
 | n+1=>exact .undef
theorem zsC (S:Nat→Prop) (a:List UInt8) (j:Nat):lB S ((enc .str a).getD j .undef):=by
 match j with
 | 0=>exact .str _
 | n+1=>exact .undef
theorem uS (S:Nat→Prop) (a:List UInt8) (j:Nat):lB S ((enc .bs a).getD j .undef):=by
 match j with
 | 0=>exact .sl _ _ fun i h j _=>tB S _ j
 | n+1=>exact .undef
theorem zsk (S:Nat→Prop) (a:G.Addr) (j:Nat):lB S ((enc .Addr a).getD j .undef):=by
 match j with
 | 0=>exact .int _ _
 | 1=>exact .int _ _
 | n+2=>exact .undef
theorem zfP (S:Nat→Prop) (a:G.Op) (j:Nat):lB S ((enc .Op a).getD j .undef):=by
 match j with
 | 0=>exact .int _ _
 | 1=>exact .int _ _
 | 2=>exact .int _ _
 | 3=>exact .sl _ _ fun i h j _=>tB S _ j
 | n+4=>exact .undef
theorem zsp (S:Nat→Prop) (a:G.Event) (j:Nat):lB S ((enc .Event a).getD j .undef):=by
 match j with
 | 0=>exact .int _ _
 | 1=>exact .int _ _
 | 2=>exact .int _ _
 | 3=>exact .int _ _
 | 4=>exact .sl _ _ fun i h j _=>tB S _ j
 | 5=>exact .sl _ _ fun i h j _=>zfP S _ j
 | n+6=>exact .undef
theorem zst (S:Nat→Prop) (a:G.Jar) (j:Nat):lB S ((enc .Jar a).getD j .undef):=by
 match j with
 | 0=>exact .sl _ _ fun i h j _=>tB S _ j
 | n+1=>exact .undef
theorem zsn (S:Nat→Prop) (a:G.Dice) (j:Nat):lB S ((enc .Dice a).getD j .undef):=by
 match j with
 | 0=>exact .sl _ _ fun i h j _=>tB S _ j
 | 1=>exact .int _ _
 | n+2=>exact .undef
theorem zsz (S:Nat→Prop) (a:G.Win) (j:Nat):lB S ((enc .Win a).getD j .undef):=by
 match j with
 | 0=>exact .int _ _
 | 1=>exact .sl _ _ fun i h j _=>aH S _ j
 | n+2=>exact .undef
theorem zso (S:Nat→Prop) (a:G.Ep) (j:Nat):lB S ((enc .Ep a).getD j .undef):=by
 match j with
 | 0=>exact .int _ _
 | 1=>exact .sl _ _ fun i h j _=>tB S _ j
 | 2=>exact .int _ _
 | 3=>exact .int _ _
 | 4=>exact .sl _ _ fun i h j _=>aH S _ j
 | n+5=>exact .undef
theorem zsl (S:Nat→Prop) (a:G.Chan) (j:Nat):lB S ((enc .Chan a).getD j .undef):=by
 match j with
 | 0=>exact .int _ _
 | 1=>exact .sl _ _ fun i h j _=>tB S _ j
 | 2=>exact .int _ _
 | 3=>exact .sl _ _ fun i h j _=>tB S _ j
 | 4=>exact .int _ _
 | 5=>exact .int _ _
 | 6=>exact .sl _ _ fun i h j _=>aH S _ j
 | 7=>exact .int _ _
 | 8=>exact .sl _ _ fun i h j _=>tB S _ j
 | 9=>exact .int _ _
 | 10=>exact .int _ _
 | 11=>exact .sl _ _ fun i h j _=>aH S _ j
 | 12=>exact .bool _
 | 13=>exact .int _ _
 | 14=>exact .sl _ _ fun i h j _=>tB S _ j
 | n+15=>exact .undef
theorem zbD (S:Nat→Prop) (a:G.Cand) (j:Nat):lB S ((enc .Cand a).getD j .undef):=by
 match j with
 | 0=>exact .int _ _
 | 1=>exact .int _ _
 | 2=>exact .sl _ _ fun i h j _=>tB S _ j
 | 3=>exact .int _ _
 | n+4=>exact .undef
theorem zsv (S:Nat→Prop) (a:G.Paths) (j:Nat):lB S ((enc .Paths a).getD j .undef):=by
 match j with
 | 0=>exact .int _ _
 | 1=>exact .int _ _
 | 2=>exact .sl _ _ fun i h j _=>zbD S _ j
 | n+3=>exact .undef
theorem tS (S:Nat→Prop) (a:G.Sess) (j:Nat):lB S ((enc .Sess a).getD j .undef):=by
 match j with
 | 0=>exact .int _ _
 | 1=>exact .sl _ _ fun i h j _=>tB S _ j
 | 2=>exact .sl _ _ fun i h j _=>tB S _ j
 | 3=>exact .int _ _
 | 4=>exact .sl _ _ fun i h j _=>tB S _ j
 | 5=>exact .int _ _
 | 6=>exact .sl _ _ fun i h j _=>tB S _ j
 | 7=>exact .int _ _
 | 8=>exact .int _ _
 | 9=>exact .sl _ _ fun i h j _=>aH S _ j
 | 10=>exact .int _ _
 | 11=>exact .sl _ _ fun i h j _=>tB S _ j
 | 12=>exact .int _ _
 | 13=>exact .int _ _
 | 14=>exact .sl _ _ fun i h j _=>aH S _ j
 | 15=>exact .bool _
 | 16=>exact .int _ _
 | 17=>exact .sl _ _ fun i h j _=>tB S _ j
 | 18=>exact .int _ _
 | 19=>exact .int _ _
 | 20=>exact .sl _ _ fun i h j _=>zbD S _ j
 | 21=>exact .int _ _
 | 22=>exact .int _ _
 | 23=>exact .bool _
 | n+24=>exact .undef
theorem zsx (S:Nat→Prop) (a:G.Tab) (j:Nat):lB S ((enc .Tab a).getD j .undef):=by
 match j with
 | 0=>exact .int _ _
 | 1=>exact .sl _ _ fun i h j _=>tS S _ j
 | n+2=>exact .undef
theorem zbE (S:Nat→Prop) (a:G.Credit) (j:Nat):lB S ((enc .Credit a).getD j .undef):=by
 match j with
 | 0=>exact .int _ _
 | 1=>exact .int _ _
 | 2=>exact .int _ _
 | 3=>exact .int _ _
 | n+4=>exact .undef
theorem zsw (S:Nat→Prop) (a:G.Server) (j:Nat):lB S ((enc .Server a).getD j .undef):=by
 match j with
 | 0=>exact .sl _ _ fun i h j _=>uS S _ j
 | 1=>exact .sl _ _ fun i h j _=>tB S _ j
 | 2=>exact .sl _ _ fun i h j _=>tB S _ j
 | 3=>exact .int _ _
 | 4=>exact .int _ _
 | 5=>exact .sl _ _ fun i h j _=>tS S _ j
 | 6=>exact .sl _ _ fun i h j _=>zbE S _ j
 | n+7=>exact .undef
theorem zsr (S:Nat→Prop) (a:G.Frame) (j:Nat):lB S ((enc .Frame a).getD j .undef):=by
 match j with
 | 0=>exact .int _ _
 | 1=>exact .int _ _
 | 2=>exact .sl _ _ fun i h j _=>tB S _ j
 | 3=>exact .sl _ _ fun i h j _=>tB S _ j
 | 4=>exact .int _ _
 | 5=>exact .sl _ _ fun i h j _=>tB S _ j
 | 6=>exact .sl _ _ fun i h j _=>tB S _ j
 | 7=>exact .int _ _
 | 8=>exact .int _ _
 | 9=>exact .sl _ _ fun i h j _=>tB S _ j
 | 10=>exact .sl _ _ fun i h j _=>tB S _ j
 | n+11=>exact .undef
theorem zsy (S:Nat→Prop) (a:G.Timer) (j:Nat):lB S ((enc .Timer a).getD j .undef):=by
 match j with
 | 0=>exact .bool _
 | 1=>exact .int _ _
 | 2=>exact .int _ _
 | 3=>exact .int _ _
 | n+4=>exact .undef
theorem zfN (S:Nat→Prop) (a:G.Client) (j:Nat):lB S ((enc .Client a).getD j .undef):=by
 match j with
 | 0=>exact .int _ _
 | 1=>exact .sl _ _ fun i h j _=>tB S _ j
 | 2=>exact .int _ _
 | 3=>exact .int _ _
 | 4=>exact .int _ _
 | 5=>exact .sl _ _ fun i h j _=>tB S _ j
 | 6=>exact .int _ _
 | 7=>exact .int _ _
 | 8=>exact .sl _ _ fun i h j _=>tB S _ j
 | 9=>exact .sl _ _ fun i h j _=>tB S _ j
 | 10=>exact .int _ _
 | 11=>exact .sl _ _ fun i h j _=>tB S _ j
 | 12=>exact .sl _ _ fun i h j _=>tB S _ j
 | 13=>exact .int _ _
 | 14=>exact .int _ _
 | 15=>exact .sl _ _ fun i h j _=>tB S _ j
 | 16=>exact .sl _ _ fun i h j _=>tB S _ j
 | 17=>exact .int _ _
 | 18=>exact .sl _ _ fun i h j _=>tB S _ j
 | 19=>exact .int _ _
 | 20=>exact .sl _ _ fun i h j _=>tB S _ j
 | 21=>exact .int _ _
 | 22=>exact .int _ _
 | 23=>exact .sl _ _ fun i h j _=>aH S _ j
 | 24=>exact .int _ _
 | 25=>exact .sl _ _ fun i h j _=>tB S _ j
 | 26=>exact .int _ _
 | 27=>exact .int _ _
 | 28=>exact .sl _ _ fun i h j _=>aH S _ j
 | 29=>exact .bool _
 | 30=>exact .int _ _
 | 31=>exact .sl _ _ fun i h j _=>tB S _ j
 | 32=>exact .bool _
 | 33=>exact .int _ _
 | 34=>exact .int _ _
 | 35=>exact .int _ _
 | 36=>exact .bool _
 | 37=>exact .int _ _
 | 38=>exact .int _ _
 | 39=>exact .int _ _
 | 40=>exact .int _ _
 | n+41=>exact .undef
theorem zfQ (S:Nat→Prop) (a:G.Wire) (j:Nat):lB S ((enc .Wire a).getD j .undef):=by
 match j with
 | 0=>exact .int _ _
 | 1=>exact .int _ _
 | 2=>exact .int _ _
 | 3=>exact .int _ _
 | 4=>exact .sl _ _ fun i h j _=>tB S _ j
 | n+5=>exact .undef
theorem zfO (S:Nat→Prop) (a:G.Note) (j:Nat):lB S ((enc .Note a).getD j .undef):=by
 match j with
 | 0=>exact .int _ _
 | 1=>exact .int _ _
 | 2=>exact .int _ _
 | 3=>exact .sl _ _ fun i h j _=>tB S _ j
 | 4=>exact .sl _ _ fun i h j _=>tB S _ j
 | 5=>exact .int _ _
 | 6=>exact .int _ _
 | 7=>exact .sl _ _ fun i h j _=>tB S _ j
 | 8=>exact .sl _ _ fun i h j _=>tB S _ j
 | 9=>exact .int _ _
 | 10=>exact .int _ _
 | 11=>exact .int _ _
 | n+12=>exact .undef
theorem zsA (S:Nat→Prop) (a:G.World) (j:Nat):lB S ((enc .World a).getD j .undef):=by
 match j with
 | 0=>exact .int _ _
 | 1=>exact .sl _ _ fun i h j _=>zfN S _ j
 | 2=>exact .sl _ _ fun i h j _=>uS S _ j
 | 3=>exact .sl _ _ fun i h j _=>tB S _ j
 | 4=>exact .sl _ _ fun i h j _=>tB S _ j
 | 5=>exact .int _ _
 | 6=>exact .int _ _
 | 7=>exact .sl _ _ fun i h j _=>tS S _ j
 | 8=>exact .sl _ _ fun i h j _=>zbE S _ j
 | 9=>exact .sl _ _ fun i h j _=>tB S _ j
 | 10=>exact .int _ _
 | 11=>exact .sl _ _ fun i h j _=>zfQ S _ j
 | 12=>exact .sl _ _ fun i h j _=>uS S _ j
 | 13=>exact .sl _ _ fun i h j _=>zfO S _ j
 | n+14=>exact .undef
theorem zsm (S:Nat→Prop) (a:G.Cur) (j:Nat):lB S ((enc .Cur a).getD j .undef):=by
 match j with
 | 0=>exact .sl _ _ fun i h j _=>tB S _ j
 | 1=>exact .int _ _
 | 2=>exact .int _ _
 | n+3=>exact .undef
theorem zsu (S:Nat→Prop) (a:G.Out) (j:Nat):lB S ((enc .Out a).getD j .undef):=by
 match j with
 | 0=>exact .int _ _
 | 1=>exact .int _ _
 | 2=>exact .int _ _
 | 3=>exact .int _ _
 | 4=>exact .sl _ _ fun i h j _=>tB S _ j
 | 5=>exact .sl _ _ fun i h j _=>tB S _ j
 | 6=>exact .int _ _
 | 7=>exact .sl _ _ fun i h j _=>tB S _ j
 | 8=>exact .sl _ _ fun i h j _=>tB S _ j
 | 9=>exact .int _ _
 | 10=>exact .int _ _
 | 11=>exact .sl _ _ fun i h j _=>tB S _ j
 | 12=>exact .sl _ _ fun i h j _=>tB S _ j
 | n+13=>exact .undef
theorem zsq (S:Nat→Prop) (a:G.Form) (j:Nat):lB S ((enc .Form a).getD j .undef):=by
 match j with
 | 0=>exact .int _ _
 | 1=>exact .str _
 | n+2=>exact .undef
theorem zss (S:Nat→Prop) (a:G.Hash) (j:Nat):lB S ((enc .Hash a).getD j .undef):=by
 match j with
 | 0=>exact .sl _ _ fun i h j _=>aH S _ j
 | 1=>exact .sl _ _ fun i h j _=>tB S _ j
 | 2=>exact .int _ _
 | n+3=>exact .undef
theorem CI (S:Nat→Prop) (t:TN) (a:El t) (j:Nat):lB S ((enc t a).getD j .undef):=by
 cases t with
 | byte=>exact tB S a j
 | int=>exact aH S a j
 | bool=>exact zsB S a j
 | str=>exact zsC S a j
 | bs=>exact uS S a j
 | Addr=>exact zsk S a j
 | Op=>exact zfP S a j
 | Event=>exact zsp S a j
 | Jar=>exact zst S a j
 | Dice=>exact zsn S a j
 | Win=>exact zsz S a j
 | Ep=>exact zso S a j
 | Chan=>exact zsl S a j
 | Cand=>exact zbD S a j
 | Paths=>exact zsv S a j
 | Sess=>exact tS S a j
 | Tab=>exact zsx S a j
 | Credit=>exact zbE S a j
 | Server=>exact zsw S a j
 | Frame=>exact zsr S a j
 | Timer=>exact zsy S a j
 | Client=>exact zfN S a j
 | Wire=>exact zfQ S a j
 | Note=>exact zfO S a j
 | World=>exact zsA S a j
 | Cur=>exact zsm S a j
 | Out=>exact zsu S a j
 | Form=>exact zsq S a j
 | Hash=>exact zss S a j
end Go.D
