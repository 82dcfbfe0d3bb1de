/-
  The data of the program as plain structures; values of the plain semantics; their encoding as flat cells.
-/
import GoSem.Core.Value
import Derived.WalkKit
import GoSem.ClaimData
namespace Go.G
structure Addr where
  Host:Int
  Port:Int
structure Op where
  Kind:Int
  I:Int
  J:Int
  B:(List UInt8)
structure Event where
  Kind:Int
  I:Int
  J:Int
  N:Int
  B:(List UInt8)
  Ops:(List Op)
structure Jar where
  Secret:(List UInt8)
structure Dice where
  Seed:(List UInt8)
  N:Int
structure Win where
  Top:Int
  Bits:(List Int)
structure Ep where
  N:Int
  Key:(List UInt8)
  Seq:Int
  Win:Win
structure Chan where
  Role:Int
  Sn:(List UInt8)
  Cur:Ep
  Old:Ep
  HasOld:Bool
  Until:Int
  Next:(List UInt8)
structure Cand where
  A:Addr
  Draw:(List UInt8)
  Until:Int
structure Paths where
  At:Addr
  Cands:(List Cand)
structure Sess where
  Id:Int
  Cn:(List UInt8)
  Sn:(List UInt8)
  C:Chan
  P:Paths
  Tick:Int
  Last:Int
  Dead:Bool
structure Tab where
  Cap:Int
  L:(List Sess)
structure Credit where
  A:Addr
  Got:Int
  Sent:Int
structure Server where
  Psks:(List (List UInt8))
  J:Jar
  D:Dice
  T:Tab
  Cr:(List Credit)
structure Frame where
  Kind:Int
  Id:Int
  Cn:(List UInt8)
  Sn:(List UInt8)
  Tick:Int
  Cookie:(List UInt8)
  Proof:(List UInt8)
  Epoch:Int
  Seq:Int
  Body:(List UInt8)
  Tag:(List UInt8)
structure Timer where
  On:Bool
  Due:Int
  Wait:Int
  Tries:Int
structure Client where
  Id:Int
  Psk:(List UInt8)
  At:Addr
  St:Int
  Cn:(List UInt8)
  Fin:Frame
  C:Chan
  T:Timer
  R:Timer
  Last:Int
structure Wire where
  From:Addr
  To:Addr
  B:(List UInt8)
structure Note where
  Kind:Int
  Id:Int
  Role:Int
  Cn:(List UInt8)
  Sn:(List UInt8)
  Epoch:Int
  Seq:Int
  Body:(List UInt8)
  Key:(List UInt8)
  A:Addr
  Now:Int
structure World where
  Now:Int
  Clients:(List Client)
  S:Server
  D:Dice
  Seen:(List Wire)
  Known:(List (List UInt8))
  Notes:(List Note)
structure Cur where
  b:(List UInt8)
  i:Int
  h:Int
structure Out where
  To:Addr
  F:Frame
structure Form where
  kind:Int
  words:(List UInt8)
structure Hash where
  H:(List Int)
  Held:(List UInt8)
  N:Int
end Go.G
namespace Go.D
inductive TN where
  | byte | int | bool | str | bs | Addr | Op | Event | Jar | Dice | Win | Ep | Chan | Cand | Paths | Sess | Tab | Credit | Server | Frame | Timer | Client | Wire | Note | World | Cur | Out | Form | Hash
  deriving DecidableEq
@[reducible] def El:TN→Type
  | .byte=>UInt8 | .int=>Int | .bool=>Bool | .str=>List UInt8 | .bs=>List UInt8
  | .Addr=>G.Addr | .Op=>G.Op | .Event=>G.Event | .Jar=>G.Jar | .Dice=>G.Dice | .Win=>G.Win | .Ep=>G.Ep | .Chan=>G.Chan | .Cand=>G.Cand | .Paths=>G.Paths | .Sess=>G.Sess | .Tab=>G.Tab | .Credit=>G.Credit | .Server=>G.Server | .Frame=>G.Frame | .Timer=>G.Timer | .Client=>G.Client | .Wire=>G.Wire | .Note=>G.Note | .World=>G.World | .Cur=>G.Cur | .Out=>G.Out | .Form=>G.Form | .Hash=>G.Hash
inductive V where
  | undef
  | bool (b:Bool)
  | int (k:IntKind) (n:Int)
  | str (s:List UInt8)
  | nil
  | sl (t:TN) (l:List (El t))
  | ow (r:Nat)
  | ov (r:Nat) (t:TN) (off len:Nat)
  | bp (r off:Nat)
  | ep (r:Nat) (t:TN) (i off:Nat)
  | fp (cs:List V) (off:Nat)
  | fn (f:Nat) (cs:List V)
  | agg (cs:List V)
  | tup (vs:List V)
  | nili
  | ifc (b:Bool)
def encAddr (a:G.Addr):List V:=[.int .i64 a.Host, .int .i64 a.Port]
def encOp (a:G.Op):List V:=[.int .i64 a.Kind, .int .i64 a.I, .int .i64 a.J, .sl .byte a.B]
def encEvent (a:G.Event):List V:=[.int .i64 a.Kind, .int .i64 a.I, .int .i64 a.J, .int .i64 a.N, .sl .byte a.B, .sl .Op a.Ops]
def encJar (a:G.Jar):List V:=[.sl .byte a.Secret]
def encDice (a:G.Dice):List V:=[.sl .byte a.Seed, .int .i64 a.N]
def encWin (a:G.Win):List V:=[.int .i64 a.Top, .sl .int a.Bits]
def encEp (a:G.Ep):List V:=[.int .i64 a.N, .sl .byte a.Key, .int .i64 a.Seq, .int .i64 a.Win.Top, .sl .int a.Win.Bits]
def encChan (a:G.Chan):List V:=[.int .i64 a.Role, .sl .byte a.Sn, .int .i64 a.Cur.N, .sl .byte a.Cur.Key, .int .i64 a.Cur.Seq, .int .i64 a.Cur.Win.Top, .sl .int a.Cur.Win.Bits, .int .i64 a.Old.N, .sl .byte a.Old.Key, .int .i64 a.Old.Seq, .int .i64 a.Old.Win.Top, .sl .int a.Old.Win.Bits, .bool a.HasOld, .int .i64 a.Until, .sl .byte a.Next]
def encCand (a:G.Cand):List V:=[.int .i64 a.A.Host, .int .i64 a.A.Port, .sl .byte a.Draw, .int .i64 a.Until]
def encPaths (a:G.Paths):List V:=[.int .i64 a.At.Host, .int .i64 a.At.Port, .sl .Cand a.Cands]
def encSess (a:G.Sess):List V:=[.int .i64 a.Id, .sl .byte a.Cn, .sl .byte a.Sn, .int .i64 a.C.Role, .sl .byte a.C.Sn, .int .i64 a.C.Cur.N, .sl .byte a.C.Cur.Key, .int .i64 a.C.Cur.Seq, .int .i64 a.C.Cur.Win.Top, .sl .int a.C.Cur.Win.Bits, .int .i64 a.C.Old.N, .sl .byte a.C.Old.Key, .int .i64 a.C.Old.Seq, .int .i64 a.C.Old.Win.Top, .sl .int a.C.Old.Win.Bits, .bool a.C.HasOld, .int .i64 a.C.Until, .sl .byte a.C.Next, .int .i64 a.P.At.Host, .int .i64 a.P.At.Port, .sl .Cand a.P.Cands, .int .i64 a.Tick, .int .i64 a.Last, .bool a.Dead]
def encTab (a:G.Tab):List V:=[.int .i64 a.Cap, .sl .Sess a.L]
def encCredit (a:G.Credit):List V:=[.int .i64 a.A.Host, .int .i64 a.A.Port, .int .i64 a.Got, .int .i64 a.Sent]
def encServer (a:G.Server):List V:=[.sl .bs a.Psks, .sl .byte a.J.Secret, .sl .byte a.D.Seed, .int .i64 a.D.N, .int .i64 a.T.Cap, .sl .Sess a.T.L, .sl .Credit a.Cr]
def encFrame (a:G.Frame):List V:=[.int .i64 a.Kind, .int .i64 a.Id, .sl .byte a.Cn, .sl .byte a.Sn, .int .i64 a.Tick, .sl .byte a.Cookie, .sl .byte a.Proof, .int .i64 a.Epoch, .int .i64 a.Seq, .sl .byte a.Body, .sl .byte a.Tag]
def encTimer (a:G.Timer):List V:=[.bool a.On, .int .i64 a.Due, .int .i64 a.Wait, .int .i64 a.Tries]
def encClient (a:G.Client):List V:=[.int .i64 a.Id, .sl .byte a.Psk, .int .i64 a.At.Host, .int .i64 a.At.Port, .int .i64 a.St, .sl .byte a.Cn, .int .i64 a.Fin.Kind, .int .i64 a.Fin.Id, .sl .byte a.Fin.Cn, .sl .byte a.Fin.Sn, .int .i64 a.Fin.Tick, .sl .byte a.Fin.Cookie, .sl .byte a.Fin.Proof, .int .i64 a.Fin.Epoch, .int .i64 a.Fin.Seq, .sl .byte a.Fin.Body, .sl .byte a.Fin.Tag, .int .i64 a.C.Role, .sl .byte a.C.Sn, .int .i64 a.C.Cur.N, .sl .byte a.C.Cur.Key, .int .i64 a.C.Cur.Seq, .int .i64 a.C.Cur.Win.Top, .sl .int a.C.Cur.Win.Bits, .int .i64 a.C.Old.N, .sl .byte a.C.Old.Key, .int .i64 a.C.Old.Seq, .int .i64 a.C.Old.Win.Top, .sl .int a.C.Old.Win.Bits, .bool a.C.HasOld, .int .i64 a.C.Until, .sl .byte a.C.Next, .bool a.T.On, .int .i64 a.T.Due, .int .i64 a.T.Wait, .int .i64 a.T.Tries, .bool a.R.On, .int .i64 a.R.Due, .int .i64 a.R.Wait, .int .i64 a.R.Tries, .int .i64 a.Last]
def encWire (a:G.Wire):List V:=[.int .i64 a.From.Host, .int .i64 a.From.Port, .int .i64 a.To.Host, .int .i64 a.To.Port, .sl .byte a.B]
def encNote (a:G.Note):List V:=[.int .i64 a.Kind, .int .i64 a.Id, .int .i64 a.Role, .sl .byte a.Cn, .sl .byte a.Sn, .int .i64 a.Epoch, .int .i64 a.Seq, .sl .byte a.Body, .sl .byte a.Key, .int .i64 a.A.Host, .int .i64 a.A.Port, .int .i64 a.Now]
def encWorld (a:G.World):List V:=[.int .i64 a.Now, .sl .Client a.Clients, .sl .bs a.S.Psks, .sl .byte a.S.J.Secret, .sl .byte a.S.D.Seed, .int .i64 a.S.D.N, .int .i64 a.S.T.Cap, .sl .Sess a.S.T.L, .sl .Credit a.S.Cr, .sl .byte a.D.Seed, .int .i64 a.D.N, .sl .Wire a.Seen, .sl .bs a.Known, .sl .Note a.Notes]
def encCur (a:G.Cur):List V:=[.sl .byte a.b, .int .i64 a.i, .int .i64 a.h]
def encOut (a:G.Out):List V:=[.int .i64 a.To.Host, .int .i64 a.To.Port, .int .i64 a.F.Kind, .int .i64 a.F.Id, .sl .byte a.F.Cn, .sl .byte a.F.Sn, .int .i64 a.F.Tick, .sl .byte a.F.Cookie, .sl .byte a.F.Proof, .int .i64 a.F.Epoch, .int .i64 a.F.Seq, .sl .byte a.F.Body, .sl .byte a.F.Tag]
def encForm (a:G.Form):List V:=[.int .i64 a.kind, .str a.words]
def encHash (a:G.Hash):List V:=[.sl .int a.H, .sl .byte a.Held, .int .i64 a.N]
def enc:(t:TN)→El t→List V
  | .byte,b=>[.int .u8 (b.toNat:Int)]
  | .int,n=>[.int .i64 n]
  | .bool,b=>[.bool b]
  | .str,s=>[.str s]
  | .bs,l=>[.sl .byte l]
  | .Addr,a=>encAddr a
  | .Op,a=>encOp a
  | .Event,a=>encEvent a
  | .Jar,a=>encJar a
  | .Dice,a=>encDice a
  | .Win,a=>encWin a
  | .Ep,a=>encEp a
  | .Chan,a=>encChan a
  | .Cand,a=>encCand a
  | .Paths,a=>encPaths a
  | .Sess,a=>encSess a
  | .Tab,a=>encTab a
  | .Credit,a=>encCredit a
  | .Server,a=>encServer a
  | .Frame,a=>encFrame a
  | .Timer,a=>encTimer a
  | .Client,a=>encClient a
  | .Wire,a=>encWire a
  | .Note,a=>encNote a
  | .World,a=>encWorld a
  | .Cur,a=>encCur a
  | .Out,a=>encOut a
  | .Form,a=>encForm a
  | .Hash,a=>encHash a
def sz:TN→Nat
  | .byte=>1 | .int=>1 | .bool=>1 | .str=>1 | .bs=>1
  | .Addr=>2 | .Op=>4 | .Event=>6 | .Jar=>1 | .Dice=>2 | .Win=>2 | .Ep=>5 | .Chan=>15 | .Cand=>4 | .Paths=>3 | .Sess=>24 | .Tab=>2 | .Credit=>4 | .Server=>7 | .Frame=>11 | .Timer=>4 | .Client=>41 | .Wire=>5 | .Note=>12 | .World=>14 | .Cur=>3 | .Out=>13 | .Form=>2 | .Hash=>3
def asI:V→Option Int | .int .i64 n=>some n | _=>none
def asBy:V→Option UInt8 | .int .u8 n=>some (UInt8.ofNat n.toNat) | _=>none
def asB:V→Option Bool | .bool b=>some b | _=>none
def asS:V→Option (List UInt8) | .str s=>some s | _=>none
def TN.cast {s t:TN} (h:s=t) (l:List (El s)):List (El t):=h ▸ l
def asL (t:TN):V→Option (List (El t))
  | .sl s l=>if h:s=t then some (TN.cast h l) else none
  | .nil=>some []
  | _=>none
def tk {α β:Type} (p:V→Option α) (cs:List V) (k:α→List V→Option β):Option β:=
  match cs with
  | c :: cs=>(p c).bind fun a=>k a cs
  | []=>none
def fin {β:Type} (cs:List V) (r:β):Option β:=
  match cs with
  | []=>some r
  | _=>none
def decAddr (cs:List V):Option G.Addr:=
  tk asI cs fun f0 cs=>
  tk asI cs fun f1 cs=>
  fin cs (⟨f0,f1⟩:G.Addr)
def decOp (cs:List V):Option G.Op:=
  tk asI cs fun f0 cs=>
  tk asI cs fun f1 cs=>
  tk asI cs fun f2 cs=>
  tk (asL .byte) cs fun f3 cs=>
  fin cs (⟨f0,f1,f2,f3⟩:G.Op)
def decEvent (cs:List V):Option G.Event:=
  tk asI cs fun f0 cs=>
  tk asI cs fun f1 cs=>
  tk asI cs fun f2 cs=>
  tk asI cs fun f3 cs=>
  tk (asL .byte) cs fun f4 cs=>
  tk (asL .Op) cs fun f5 cs=>
  fin cs (⟨f0,f1,f2,f3,f4,f5⟩:G.Event)
def decJar (cs:List V):Option G.Jar:=
  tk (asL .byte) cs fun f0 cs=>
  fin cs (⟨f0⟩:G.Jar)
def decDice (cs:List V):Option G.Dice:=
  tk (asL .byte) cs fun f0 cs=>
  tk asI cs fun f1 cs=>
  fin cs (⟨f0,f1⟩:G.Dice)
def decWin (cs:List V):Option G.Win:=
  tk asI cs fun f0 cs=>
  tk (asL .int) cs fun f1 cs=>
  fin cs (⟨f0,f1⟩:G.Win)
def decEp (cs:List V):Option G.Ep:=
  tk asI cs fun f0 cs=>
  tk (asL .byte) cs fun f1 cs=>
  tk asI cs fun f2 cs=>
  tk asI cs fun f3 cs=>
  tk (asL .int) cs fun f4 cs=>
  fin cs (⟨f0,f1,f2,⟨f3,f4⟩⟩:G.Ep)
def decChan (cs:List V):Option G.Chan:=
  tk asI cs fun f0 cs=>
  tk (asL .byte) cs fun f1 cs=>
  tk asI cs fun f2 cs=>
  tk (asL .byte) cs fun f3 cs=>
  tk asI cs fun f4 cs=>
  tk asI cs fun f5 cs=>
  tk (asL .int) cs fun f6 cs=>
  tk asI cs fun f7 cs=>
  tk (asL .byte) cs fun f8 cs=>
  tk asI cs fun f9 cs=>
  tk asI cs fun f10 cs=>
  tk (asL .int) cs fun f11 cs=>
  tk asB cs fun f12 cs=>
  tk asI cs fun f13 cs=>
  tk (asL .byte) cs fun f14 cs=>
  fin cs (⟨f0,f1,⟨f2,f3,f4,⟨f5,f6⟩⟩,⟨f7,f8,f9,⟨f10,f11⟩⟩,f12,f13,f14⟩:G.Chan)
def decCand (cs:List V):Option G.Cand:=
  tk asI cs fun f0 cs=>
  tk asI cs fun f1 cs=>
  tk (asL .byte) cs fun f2 cs=>
  tk asI cs fun f3 cs=>
  fin cs (⟨⟨f0,f1⟩,f2,f3⟩:G.Cand)
def decPaths (cs:List V):Option G.Paths:=
  tk asI cs fun f0 cs=>
  tk asI cs fun f1 cs=>
  tk (asL .Cand) cs fun f2 cs=>
  fin cs (⟨⟨f0,f1⟩,f2⟩:G.Paths)
def decSess (cs:List V):Option G.Sess:=
  tk asI cs fun f0 cs=>
  tk (asL .byte) cs fun f1 cs=>
  tk (asL .byte) cs fun f2 cs=>
  tk asI cs fun f3 cs=>
  tk (asL .byte) cs fun f4 cs=>
  tk asI cs fun f5 cs=>
  tk (asL .byte) cs fun f6 cs=>
  tk asI cs fun f7 cs=>
  tk asI cs fun f8 cs=>
  tk (asL .int) cs fun f9 cs=>
  tk asI cs fun f10 cs=>
  tk (asL .byte) cs fun f11 cs=>
  tk asI cs fun f12 cs=>
  tk asI cs fun f13 cs=>
  tk (asL .int) cs fun f14 cs=>
  tk asB cs fun f15 cs=>
  tk asI cs fun f16 cs=>
  tk (asL .byte) cs fun f17 cs=>
  tk asI cs fun f18 cs=>
  tk asI cs fun f19 cs=>
  tk (asL .Cand) cs fun f20 cs=>
  tk asI cs fun f21 cs=>
  tk asI cs fun f22 cs=>
  tk asB cs fun f23 cs=>
  fin cs (⟨f0,f1,f2,⟨f3,f4,⟨f5,f6,f7,⟨f8,f9⟩⟩,⟨f10,f11,f12,⟨f13,f14⟩⟩,f15,f16,f17⟩,⟨⟨f18,f19⟩,f20⟩,f21,f22,f23⟩:G.Sess)
def decTab (cs:List V):Option G.Tab:=
  tk asI cs fun f0 cs=>
  tk (asL .Sess) cs fun f1 cs=>
  fin cs (⟨f0,f1⟩:G.Tab)
def decCredit (cs:List V):Option G.Credit:=
  tk asI cs fun f0 cs=>
  tk asI cs fun f1 cs=>
  tk asI cs fun f2 cs=>
  tk asI cs fun f3 cs=>
  fin cs (⟨⟨f0,f1⟩,f2,f3⟩:G.Credit)
def decServer (cs:List V):Option G.Server:=
  tk (asL .bs) cs fun f0 cs=>
  tk (asL .byte) cs fun f1 cs=>
  tk (asL .byte) cs fun f2 cs=>
  tk asI cs fun f3 cs=>
  tk asI cs fun f4 cs=>
  tk (asL .Sess) cs fun f5 cs=>
  tk (asL .Credit) cs fun f6 cs=>
  fin cs (⟨f0,⟨f1⟩,⟨f2,f3⟩,⟨f4,f5⟩,f6⟩:G.Server)
def decFrame (cs:List V):Option G.Frame:=
  tk asI cs fun f0 cs=>
  tk asI cs fun f1 cs=>
  tk (asL .byte) cs fun f2 cs=>
  tk (asL .byte) cs fun f3 cs=>
  tk asI cs fun f4 cs=>
  tk (asL .byte) cs fun f5 cs=>
  tk (asL .byte) cs fun f6 cs=>
  tk asI cs fun f7 cs=>
  tk asI cs fun f8 cs=>
  tk (asL .byte) cs fun f9 cs=>
  tk (asL .byte) cs fun f10 cs=>
  fin cs (⟨f0,f1,f2,f3,f4,f5,f6,f7,f8,f9,f10⟩:G.Frame)
def decTimer (cs:List V):Option G.Timer:=
  tk asB cs fun f0 cs=>
  tk asI cs fun f1 cs=>
  tk asI cs fun f2 cs=>
  tk asI cs fun f3 cs=>
  fin cs (⟨f0,f1,f2,f3⟩:G.Timer)
def decClient (cs:List V):Option G.Client:=
  tk asI cs fun f0 cs=>
  tk (asL .byte) cs fun f1 cs=>
  tk asI cs fun f2 cs=>
  tk asI cs fun f3 cs=>
  tk asI cs fun f4 cs=>
  tk (asL .byte) cs fun f5 cs=>
  tk asI cs fun f6 cs=>
  tk asI cs fun f7 cs=>
  tk (asL .byte) cs fun f8 cs=>
  tk (asL .byte) cs fun f9 cs=>
  tk asI cs fun f10 cs=>
  tk (asL .byte) cs fun f11 cs=>
  tk (asL .byte) cs fun f12 cs=>
  tk asI cs fun f13 cs=>
  tk asI cs fun f14 cs=>
  tk (asL .byte) cs fun f15 cs=>
  tk (asL .byte) cs fun f16 cs=>
  tk asI cs fun f17 cs=>
  tk (asL .byte) cs fun f18 cs=>
  tk asI cs fun f19 cs=>
  tk (asL .byte) cs fun f20 cs=>
  tk asI cs fun f21 cs=>
  tk asI cs fun f22 cs=>
  tk (asL .int) cs fun f23 cs=>
  tk asI cs fun f24 cs=>
  tk (asL .byte) cs fun f25 cs=>
  tk asI cs fun f26 cs=>
  tk asI cs fun f27 cs=>
  tk (asL .int) cs fun f28 cs=>
  tk asB cs fun f29 cs=>
  tk asI cs fun f30 cs=>
  tk (asL .byte) cs fun f31 cs=>
  tk asB cs fun f32 cs=>
  tk asI cs fun f33 cs=>
  tk asI cs fun f34 cs=>
  tk asI cs fun f35 cs=>
  tk asB cs fun f36 cs=>
  tk asI cs fun f37 cs=>
  tk asI cs fun f38 cs=>
  tk asI cs fun f39 cs=>
  tk asI cs fun f40 cs=>
  fin cs (⟨f0,f1,⟨f2,f3⟩,f4,f5,⟨f6,f7,f8,f9,f10,f11,f12,f13,f14,f15,f16⟩,⟨f17,f18,⟨f19,f20,f21,⟨f22,f23⟩⟩,⟨f24,f25,f26,⟨f27,f28⟩⟩,f29,f30,f31⟩,⟨f32,f33,f34,f35⟩,⟨f36,f37,f38,f39⟩,f40⟩:G.Client)
def decWire (cs:List V):Option G.Wire:=
  tk asI cs fun f0 cs=>
  tk asI cs fun f1 cs=>
  tk asI cs fun f2 cs=>
  tk asI cs fun f3 cs=>
  tk (asL .byte) cs fun f4 cs=>
  fin cs (⟨⟨f0,f1⟩,⟨f2,f3⟩,f4⟩:G.Wire)
def decNote (cs:List V):Option G.Note:=
  tk asI cs fun f0 cs=>
  tk asI cs fun f1 cs=>
  tk asI cs fun f2 cs=>
  tk (asL .byte) cs fun f3 cs=>
  tk (asL .byte) cs fun f4 cs=>
  tk asI cs fun f5 cs=>
  tk asI cs fun f6 cs=>
  tk (asL .byte) cs fun f7 cs=>
  tk (asL .byte) cs fun f8 cs=>
  tk asI cs fun f9 cs=>
  tk asI cs fun f10 cs=>
  tk asI cs fun f11 cs=>
  fin cs (⟨f0,f1,f2,f3,f4,f5,f6,f7,f8,⟨f9,f10⟩,f11⟩:G.Note)
def decWorld (cs:List V):Option G.World:=
  tk asI cs fun f0 cs=>
  tk (asL .Client) cs fun f1 cs=>
  tk (asL .bs) cs fun f2 cs=>
  tk (asL .byte) cs fun f3 cs=>
  tk (asL .byte) cs fun f4 cs=>
  tk asI cs fun f5 cs=>
  tk asI cs fun f6 cs=>
  tk (asL .Sess) cs fun f7 cs=>
  tk (asL .Credit) cs fun f8 cs=>
  tk (asL .byte) cs fun f9 cs=>
  tk asI cs fun f10 cs=>
  tk (asL .Wire) cs fun f11 cs=>
  tk (asL .bs) cs fun f12 cs=>
  tk (asL .Note) cs fun f13 cs=>
  fin cs (⟨f0,f1,⟨f2,⟨f3⟩,⟨f4,f5⟩,⟨f6,f7⟩,f8⟩,⟨f9,f10⟩,f11,f12,f13⟩:G.World)
def decCur (cs:List V):Option G.Cur:=
  tk (asL .byte) cs fun f0 cs=>
  tk asI cs fun f1 cs=>
  tk asI cs fun f2 cs=>
  fin cs (⟨f0,f1,f2⟩:G.Cur)
def decOut (cs:List V):Option G.Out:=
  tk asI cs fun f0 cs=>
  tk asI cs fun f1 cs=>
  tk asI cs fun f2 cs=>
  tk asI cs fun f3 cs=>
  tk (asL .byte) cs fun f4 cs=>
  tk (asL .byte) cs fun f5 cs=>
  tk asI cs fun f6 cs=>
  tk (asL .byte) cs fun f7 cs=>
  tk (asL .byte) cs fun f8 cs=>
  tk asI cs fun f9 cs=>
  tk asI cs fun f10 cs=>
  tk (asL .byte) cs fun f11 cs=>
  tk (asL .byte) cs fun f12 cs=>
  fin cs (⟨⟨f0,f1⟩,⟨f2,f3,f4,f5,f6,f7,f8,f9,f10,f11,f12⟩⟩:G.Out)
def decForm (cs:List V):Option G.Form:=
  tk asI cs fun f0 cs=>
  tk asS cs fun f1 cs=>
  fin cs (⟨f0,f1⟩:G.Form)
def decHash (cs:List V):Option G.Hash:=
  tk (asL .int) cs fun f0 cs=>
  tk (asL .byte) cs fun f1 cs=>
  tk asI cs fun f2 cs=>
  fin cs (⟨f0,f1,f2⟩:G.Hash)
def dec:(t:TN)→List V→Option (El t)
  | .byte,cs=>tk asBy cs fun b cs=>fin cs b
  | .int,cs=>tk asI cs fun n cs=>fin cs n
  | .bool,cs=>tk asB cs fun b cs=>fin cs b
  | .str,cs=>tk asS cs fun s cs=>fin cs s
  | .bs,cs=>tk (asL .byte) cs fun l cs=>fin cs l
  | .Addr,cs=>decAddr cs
  | .Op,cs=>decOp cs
  | .Event,cs=>decEvent cs
  | .Jar,cs=>decJar cs
  | .Dice,cs=>decDice cs
  | .Win,cs=>decWin cs
  | .Ep,cs=>decEp cs
  | .Chan,cs=>decChan cs
  | .Cand,cs=>decCand cs
  | .Paths,cs=>decPaths cs
  | .Sess,cs=>decSess cs
  | .Tab,cs=>decTab cs
  | .Credit,cs=>decCredit cs
  | .Server,cs=>decServer cs
  | .Frame,cs=>decFrame cs
  | .Timer,cs=>decTimer cs
  | .Client,cs=>decClient cs
  | .Wire,cs=>decWire cs
  | .Note,cs=>decNote cs
  | .World,cs=>decWorld cs
  | .Cur,cs=>decCur cs
  | .Out,cs=>decOut cs
  | .Form,cs=>decForm cs
  | .Hash,cs=>decHash cs
inductive Sub:V→V→Prop where
  | refl (c:V):Sub c c
  | byte (n:Int):Sub (.int .u8 n) (.int .u8 ((UInt8.ofNat n.toNat).toNat:Int))
  | nil (t:TN):Sub .nil (.sl t [])
inductive Subs:List V→List V→Prop where
  | nil:Subs [] []
  | cons {c d:V} {cs ds:List V}:Sub c d→Subs cs ds→Subs (c :: cs) (d :: ds)
theorem asI_sub {c:V} {n:Int} (h:asI c=some n):Sub c (.int .i64 n):=by
  cases c <;> simp [asI] at h
  rename_i k m;cases k <;> simp at h;subst h;exact .refl _
theorem asBy_sub {c:V} {b:UInt8} (h:asBy c=some b):Sub c (.int .u8 (b.toNat:Int)):=by
  cases c <;> simp [asBy] at h
  rename_i k m;cases k <;> simp at h;subst h;exact .byte _
theorem asB_sub {c:V} {b:Bool} (h:asB c=some b):Sub c (.bool b):=by
  cases c <;> simp [asB] at h;subst h;exact .refl _
theorem asS_sub {c:V} {b:List UInt8} (h:asS c=some b):Sub c (.str b):=by
  cases c <;> simp [asS] at h;subst h;exact .refl _
theorem asL_sub {t:TN} {c:V} {l:List (El t)} (h:asL t c=some l):Sub c (.sl t l):=by
  cases c <;> simp [asL] at h
  · subst h;exact .nil t
  · obtain ⟨rfl,h⟩:=h;simp [TN.cast] at h;subst h;exact .refl _
theorem tk_some {α β:Type} {p:V→Option α} {cs:List V} {k:α→List V→Option β} {r:β} (h:tk p cs k=some r):
    ∃ c cs' a,cs=c :: cs'∧p c=some a∧k a cs'=some r:=by
  cases cs with
  | nil=>simp [tk] at h
  | cons c cs=>simp only [tk,Option.bind_eq_some_iff] at h;obtain ⟨a,h1,h2⟩:=h;exact ⟨c,cs,a,rfl,h1,h2⟩
theorem fin_some {β:Type} {cs:List V} {r s:β} (h:fin cs r=some s):cs=[]∧r=s:=by
  cases cs <;> simp [fin] at h;exact ⟨rfl,h⟩
theorem decAddr_sub {cs:List V} {a:G.Addr} (h:decAddr cs=some a):Subs cs (encAddr a):=by
  unfold decAddr at h
  obtain ⟨c0,cs,f0,rfl,h0,h⟩:=tk_some h
  obtain ⟨c1,cs,f1,rfl,h1,h⟩:=tk_some h
  obtain ⟨rfl,rfl⟩:=fin_some h
  exact .cons (asI_sub h0) (.cons (asI_sub h1) (.nil))
theorem decOp_sub {cs:List V} {a:G.Op} (h:decOp cs=some a):Subs cs (encOp a):=by
  unfold decOp at h
  obtain ⟨c0,cs,f0,rfl,h0,h⟩:=tk_some h
  obtain ⟨c1,cs,f1,rfl,h1,h⟩:=tk_some h
  obtain ⟨c2,cs,f2,rfl,h2,h⟩:=tk_some h
  obtain ⟨c3,cs,f3,rfl,h3,h⟩:=tk_some h
  obtain ⟨rfl,rfl⟩:=fin_some h
  exact .cons (asI_sub h0) (.cons (asI_sub h1) (.cons (asI_sub h2) (.cons (asL_sub h3) (.nil))))
theorem decEvent_sub {cs:List V} {a:G.Event} (h:decEvent cs=some a):Subs cs (encEvent a):=by
  unfold decEvent at h
  obtain ⟨c0,cs,f0,rfl,h0,h⟩:=tk_some h
  obtain ⟨c1,cs,f1,rfl,h1,h⟩:=tk_some h
  obtain ⟨c2,cs,f2,rfl,h2,h⟩:=tk_some h
  obtain ⟨c3,cs,f3,rfl,h3,h⟩:=tk_some h
  obtain ⟨c4,cs,f4,rfl,h4,h⟩:=tk_some h
  obtain ⟨c5,cs,f5,rfl,h5,h⟩:=tk_some h
  obtain ⟨rfl,rfl⟩:=fin_some h
  exact .cons (asI_sub h0) (.cons (asI_sub h1) (.cons (asI_sub h2) (.cons (asI_sub h3) (.cons (asL_sub h4) (.cons (asL_sub h5) (.nil))))))
theorem decJar_sub {cs:List V} {a:G.Jar} (h:decJar cs=some a):Subs cs (encJar a):=by
  unfold decJar at h
  obtain ⟨c0,cs,f0,rfl,h0,h⟩:=tk_some h
  obtain ⟨rfl,rfl⟩:=fin_some h
  exact .cons (asL_sub h0) (.nil)
theorem decDice_sub {cs:List V} {a:G.Dice} (h:decDice cs=some a):Subs cs (encDice a):=by
  unfold decDice at h
  obtain ⟨c0,cs,f0,rfl,h0,h⟩:=tk_some h
  obtain ⟨c1,cs,f1,rfl,h1,h⟩:=tk_some h
  obtain ⟨rfl,rfl⟩:=fin_some h
  exact .cons (asL_sub h0) (.cons (asI_sub h1) (.nil))
theorem decWin_sub {cs:List V} {a:G.Win} (h:decWin cs=some a):Subs cs (encWin a):=by
  unfold decWin at h
  obtain ⟨c0,cs,f0,rfl,h0,h⟩:=tk_some h
  obtain ⟨c1,cs,f1,rfl,h1,h⟩:=tk_some h
  obtain ⟨rfl,rfl⟩:=fin_some h
  exact .cons (asI_sub h0) (.cons (asL_sub h1) (.nil))
theorem decEp_sub {cs:List V} {a:G.Ep} (h:decEp cs=some a):Subs cs (encEp a):=by
  unfold decEp at h
  obtain ⟨c0,cs,f0,rfl,h0,h⟩:=tk_some h
  obtain ⟨c1,cs,f1,rfl,h1,h⟩:=tk_some h
  obtain ⟨c2,cs,f2,rfl,h2,h⟩:=tk_some h
  obtain ⟨c3,cs,f3,rfl,h3,h⟩:=tk_some h
  obtain ⟨c4,cs,f4,rfl,h4,h⟩:=tk_some h
  obtain ⟨rfl,rfl⟩:=fin_some h
  exact .cons (asI_sub h0) (.cons (asL_sub h1) (.cons (asI_sub h2) (.cons (asI_sub h3) (.cons (asL_sub h4) (.nil)))))
theorem decChan_sub {cs:List V} {a:G.Chan} (h:decChan cs=some a):Subs cs (encChan a):=by
  unfold decChan at h
  obtain ⟨c0,cs,f0,rfl,h0,h⟩:=tk_some h
  obtain ⟨c1,cs,f1,rfl,h1,h⟩:=tk_some h
  obtain ⟨c2,cs,f2,rfl,h2,h⟩:=tk_some h
  obtain ⟨c3,cs,f3,rfl,h3,h⟩:=tk_some h
  obtain ⟨c4,cs,f4,rfl,h4,h⟩:=tk_some h
  obtain ⟨c5,cs,f5,rfl,h5,h⟩:=tk_some h
  obtain ⟨c6,cs,f6,rfl,h6,h⟩:=tk_some h
  obtain ⟨c7,cs,f7,rfl,h7,h⟩:=tk_some h
  obtain ⟨c8,cs,f8,rfl,h8,h⟩:=tk_some h
  obtain ⟨c9,cs,f9,rfl,h9,h⟩:=tk_some h
  obtain ⟨c10,cs,f10,rfl,h10,h⟩:=tk_some h
  obtain ⟨c11,cs,f11,rfl,h11,h⟩:=tk_some h
  obtain ⟨c12,cs,f12,rfl,h12,h⟩:=tk_some h
  obtain ⟨c13,cs,f13,rfl,h13,h⟩:=tk_some h
  obtain ⟨c14,cs,f14,rfl,h14,h⟩:=tk_some h
  obtain ⟨rfl,rfl⟩:=fin_some h
  exact .cons (asI_sub h0) (.cons (asL_sub h1) (.cons (asI_sub h2) (.cons (asL_sub h3) (.cons (asI_sub h4) (.cons (asI_sub h5) (.cons (asL_sub h6) (.cons (asI_sub h7) (.cons (asL_sub h8) (.cons (asI_sub h9) (.cons (asI_sub h10) (.cons (asL_sub h11) (.cons (asB_sub h12) (.cons (asI_sub h13) (.cons (asL_sub h14) (.nil)))))))))))))))
theorem decCand_sub {cs:List V} {a:G.Cand} (h:decCand cs=some a):Subs cs (encCand a):=by
  unfold decCand at h
  obtain ⟨c0,cs,f0,rfl,h0,h⟩:=tk_some h
  obtain ⟨c1,cs,f1,rfl,h1,h⟩:=tk_some h
  obtain ⟨c2,cs,f2,rfl,h2,h⟩:=tk_some h
  obtain ⟨c3,cs,f3,rfl,h3,h⟩:=tk_some h
  obtain ⟨rfl,rfl⟩:=fin_some h
  exact .cons (asI_sub h0) (.cons (asI_sub h1) (.cons (asL_sub h2) (.cons (asI_sub h3) (.nil))))
theorem decPaths_sub {cs:List V} {a:G.Paths} (h:decPaths cs=some a):Subs cs (encPaths a):=by
  unfold decPaths at h
  obtain ⟨c0,cs,f0,rfl,h0,h⟩:=tk_some h
  obtain ⟨c1,cs,f1,rfl,h1,h⟩:=tk_some h
  obtain ⟨c2,cs,f2,rfl,h2,h⟩:=tk_some h
  obtain ⟨rfl,rfl⟩:=fin_some h
  exact .cons (asI_sub h0) (.cons (asI_sub h1) (.cons (asL_sub h2) (.nil)))
theorem decSess_sub {cs:List V} {a:G.Sess} (h:decSess cs=some a):Subs cs (encSess a):=by
  unfold decSess at h
  obtain ⟨c0,cs,f0,rfl,h0,h⟩:=tk_some h
  obtain ⟨c1,cs,f1,rfl,h1,h⟩:=tk_some h
  obtain ⟨c2,cs,f2,rfl,h2,h⟩:=tk_some h
  obtain ⟨c3,cs,f3,rfl,h3,h⟩:=tk_some h
  obtain ⟨c4,cs,f4,rfl,h4,h⟩:=tk_some h
  obtain ⟨c5,cs,f5,rfl,h5,h⟩:=tk_some h
  obtain ⟨c6,cs,f6,rfl,h6,h⟩:=tk_some h
  obtain ⟨c7,cs,f7,rfl,h7,h⟩:=tk_some h
  obtain ⟨c8,cs,f8,rfl,h8,h⟩:=tk_some h
  obtain ⟨c9,cs,f9,rfl,h9,h⟩:=tk_some h
  obtain ⟨c10,cs,f10,rfl,h10,h⟩:=tk_some h
  obtain ⟨c11,cs,f11,rfl,h11,h⟩:=tk_some h
  obtain ⟨c12,cs,f12,rfl,h12,h⟩:=tk_some h
  obtain ⟨c13,cs,f13,rfl,h13,h⟩:=tk_some h
  obtain ⟨c14,cs,f14,rfl,h14,h⟩:=tk_some h
  obtain ⟨c15,cs,f15,rfl,h15,h⟩:=tk_some h
  obtain ⟨c16,cs,f16,rfl,h16,h⟩:=tk_some h
  obtain ⟨c17,cs,f17,rfl,h17,h⟩:=tk_some h
  obtain ⟨c18,cs,f18,rfl,h18,h⟩:=tk_some h
  obtain ⟨c19,cs,f19,rfl,h19,h⟩:=tk_some h
  obtain ⟨c20,cs,f20,rfl,h20,h⟩:=tk_some h
  obtain ⟨c21,cs,f21,rfl,h21,h⟩:=tk_some h
  obtain ⟨c22,cs,f22,rfl,h22,h⟩:=tk_some h
  obtain ⟨c23,cs,f23,rfl,h23,h⟩:=tk_some h
  obtain ⟨rfl,rfl⟩:=fin_some h
  exact .cons (asI_sub h0) (.cons (asL_sub h1) (.cons (asL_sub h2) (.cons (asI_sub h3) (.cons (asL_sub h4) (.cons (asI_sub h5) (.cons (asL_sub h6) (.cons (asI_sub h7) (.cons (asI_sub h8) (.cons (asL_sub h9) (.cons (asI_sub h10) (.cons (asL_sub h11) (.cons (asI_sub h12) (.cons (asI_sub h13) (.cons (asL_sub h14) (.cons (asB_sub h15) (.cons (asI_sub h16) (.cons (asL_sub h17) (.cons (asI_sub h18) (.cons (asI_sub h19) (.cons (asL_sub h20) (.cons (asI_sub h21) (.cons (asI_sub h22) (.cons (asB_sub h23) (.nil))))))))))))))))))))))))
theorem decTab_sub {cs:List V} {a:G.Tab} (h:decTab cs=some a):Subs cs (encTab a):=by
  unfold decTab at h
  obtain ⟨c0,cs,f0,rfl,h0,h⟩:=tk_some h
  obtain ⟨c1,cs,f1,rfl,h1,h⟩:=tk_some h
  obtain ⟨rfl,rfl⟩:=fin_some h
  exact .cons (asI_sub h0) (.cons (asL_sub h1) (.nil))
theorem decCredit_sub {cs:List V} {a:G.Credit} (h:decCredit cs=some a):Subs cs (encCredit a):=by
  unfold decCredit at h
  obtain ⟨c0,cs,f0,rfl,h0,h⟩:=tk_some h
  obtain ⟨c1,cs,f1,rfl,h1,h⟩:=tk_some h
  obtain ⟨c2,cs,f2,rfl,h2,h⟩:=tk_some h
  obtain ⟨c3,cs,f3,rfl,h3,h⟩:=tk_some h
  obtain ⟨rfl,rfl⟩:=fin_some h
  exact .cons (asI_sub h0) (.cons (asI_sub h1) (.cons (asI_sub h2) (.cons (asI_sub h3) (.nil))))
theorem decServer_sub {cs:List V} {a:G.Server} (h:decServer cs=some a):Subs cs (encServer a):=by
  unfold decServer at h
  obtain ⟨c0,cs,f0,rfl,h0,h⟩:=tk_some h
  obtain ⟨c1,cs,f1,rfl,h1,h⟩:=tk_some h
  obtain ⟨c2,cs,f2,rfl,h2,h⟩:=tk_some h
  obtain ⟨c3,cs,f3,rfl,h3,h⟩:=tk_some h
  obtain ⟨c4,cs,f4,rfl,h4,h⟩:=tk_some h
  obtain ⟨c5,cs,f5,rfl,h5,h⟩:=tk_some h
  obtain ⟨c6,cs,f6,rfl,h6,h⟩:=tk_some h
  obtain ⟨rfl,rfl⟩:=fin_some h
  exact .cons (asL_sub h0) (.cons (asL_sub h1) (.cons (asL_sub h2) (.cons (asI_sub h3) (.cons (asI_sub h4) (.cons (asL_sub h5) (.cons (asL_sub h6) (.nil)))))))
theorem decFrame_sub {cs:List V} {a:G.Frame} (h:decFrame cs=some a):Subs cs (encFrame a):=by
  unfold decFrame at h
  obtain ⟨c0,cs,f0,rfl,h0,h⟩:=tk_some h
  obtain ⟨c1,cs,f1,rfl,h1,h⟩:=tk_some h
  obtain ⟨c2,cs,f2,rfl,h2,h⟩:=tk_some h
  obtain ⟨c3,cs,f3,rfl,h3,h⟩:=tk_some h
  obtain ⟨c4,cs,f4,rfl,h4,h⟩:=tk_some h
  obtain ⟨c5,cs,f5,rfl,h5,h⟩:=tk_some h
  obtain ⟨c6,cs,f6,rfl,h6,h⟩:=tk_some h
  obtain ⟨c7,cs,f7,rfl,h7,h⟩:=tk_some h
  obtain ⟨c8,cs,f8,rfl,h8,h⟩:=tk_some h
  obtain ⟨c9,cs,f9,rfl,h9,h⟩:=tk_some h
  obtain ⟨c10,cs,f10,rfl,h10,h⟩:=tk_some h
  obtain ⟨rfl,rfl⟩:=fin_some h
  exact .cons (asI_sub h0) (.cons (asI_sub h1) (.cons (asL_sub h2) (.cons (asL_sub h3) (.cons (asI_sub h4) (.cons (asL_sub h5) (.cons (asL_sub h6) (.cons (asI_sub h7) (.cons (asI_sub h8) (.cons (asL_sub h9) (.cons (asL_sub h10) (.nil)))))))))))
theorem decTimer_sub {cs:List V} {a:G.Timer} (h:decTimer cs=some a):Subs cs (encTimer a):=by
  unfold decTimer at h
  obtain ⟨c0,cs,f0,rfl,h0,h⟩:=tk_some h
  obtain ⟨c1,cs,f1,rfl,h1,h⟩:=tk_some h
  obtain ⟨c2,cs,f2,rfl,h2,h⟩:=tk_some h
  obtain ⟨c3,cs,f3,rfl,h3,h⟩:=tk_some h
  obtain ⟨rfl,rfl⟩:=fin_some h
  exact .cons (asB_sub h0) (.cons (asI_sub h1) (.cons (asI_sub h2) (.cons (asI_sub h3) (.nil))))
theorem decClient_sub {cs:List V} {a:G.Client} (h:decClient cs=some a):Subs cs (encClient a):=by
  unfold decClient at h
  obtain ⟨c0,cs,f0,rfl,h0,h⟩:=tk_some h
  obtain ⟨c1,cs,f1,rfl,h1,h⟩:=tk_some h
  obtain ⟨c2,cs,f2,rfl,h2,h⟩:=tk_some h
  obtain ⟨c3,cs,f3,rfl,h3,h⟩:=tk_some h
  obtain ⟨c4,cs,f4,rfl,h4,h⟩:=tk_some h
  obtain ⟨c5,cs,f5,rfl,h5,h⟩:=tk_some h
  obtain ⟨c6,cs,f6,rfl,h6,h⟩:=tk_some h
  obtain ⟨c7,cs,f7,rfl,h7,h⟩:=tk_some h
  obtain ⟨c8,cs,f8,rfl,h8,h⟩:=tk_some h
  obtain ⟨c9,cs,f9,rfl,h9,h⟩:=tk_some h
  obtain ⟨c10,cs,f10,rfl,h10,h⟩:=tk_some h
  obtain ⟨c11,cs,f11,rfl,h11,h⟩:=tk_some h
  obtain ⟨c12,cs,f12,rfl,h12,h⟩:=tk_some h
  obtain ⟨c13,cs,f13,rfl,h13,h⟩:=tk_some h
  obtain ⟨c14,cs,f14,rfl,h14,h⟩:=tk_some h
  obtain ⟨c15,cs,f15,rfl,h15,h⟩:=tk_some h
  obtain ⟨c16,cs,f16,rfl,h16,h⟩:=tk_some h
  obtain ⟨c17,cs,f17,rfl,h17,h⟩:=tk_some h
  obtain ⟨c18,cs,f18,rfl,h18,h⟩:=tk_some h
  obtain ⟨c19,cs,f19,rfl,h19,h⟩:=tk_some h
  obtain ⟨c20,cs,f20,rfl,h20,h⟩:=tk_some h
  obtain ⟨c21,cs,f21,rfl,h21,h⟩:=tk_some h
  obtain ⟨c22,cs,f22,rfl,h22,h⟩:=tk_some h
  obtain ⟨c23,cs,f23,rfl,h23,h⟩:=tk_some h
  obtain ⟨c24,cs,f24,rfl,h24,h⟩:=tk_some h
  obtain ⟨c25,cs,f25,rfl,h25,h⟩:=tk_some h
  obtain ⟨c26,cs,f26,rfl,h26,h⟩:=tk_some h
  obtain ⟨c27,cs,f27,rfl,h27,h⟩:=tk_some h
  obtain ⟨c28,cs,f28,rfl,h28,h⟩:=tk_some h
  obtain ⟨c29,cs,f29,rfl,h29,h⟩:=tk_some h
  obtain ⟨c30,cs,f30,rfl,h30,h⟩:=tk_some h
  obtain ⟨c31,cs,f31,rfl,h31,h⟩:=tk_some h
  obtain ⟨c32,cs,f32,rfl,h32,h⟩:=tk_some h
  obtain ⟨c33,cs,f33,rfl,h33,h⟩:=tk_some h
  obtain ⟨c34,cs,f34,rfl,h34,h⟩:=tk_some h
  obtain ⟨c35,cs,f35,rfl,h35,h⟩:=tk_some h
  obtain ⟨c36,cs,f36,rfl,h36,h⟩:=tk_some h
  obtain ⟨c37,cs,f37,rfl,h37,h⟩:=tk_some h
  obtain ⟨c38,cs,f38,rfl,h38,h⟩:=tk_some h
  obtain ⟨c39,cs,f39,rfl,h39,h⟩:=tk_some h
  obtain ⟨c40,cs,f40,rfl,h40,h⟩:=tk_some h
  obtain ⟨rfl,rfl⟩:=fin_some h
  exact .cons (asI_sub h0) (.cons (asL_sub h1) (.cons (asI_sub h2) (.cons (asI_sub h3) (.cons (asI_sub h4) (.cons (asL_sub h5) (.cons (asI_sub h6) (.cons (asI_sub h7) (.cons (asL_sub h8) (.cons (asL_sub h9) (.cons (asI_sub h10) (.cons (asL_sub h11) (.cons (asL_sub h12) (.cons (asI_sub h13) (.cons (asI_sub h14) (.cons (asL_sub h15) (.cons (asL_sub h16) (.cons (asI_sub h17) (.cons (asL_sub h18) (.cons (asI_sub h19) (.cons (asL_sub h20) (.cons (asI_sub h21) (.cons (asI_sub h22) (.cons (asL_sub h23) (.cons (asI_sub h24) (.cons (asL_sub h25) (.cons (asI_sub h26) (.cons (asI_sub h27) (.cons (asL_sub h28) (.cons (asB_sub h29) (.cons (asI_sub h30) (.cons (asL_sub h31) (.cons (asB_sub h32) (.cons (asI_sub h33) (.cons (asI_sub h34) (.cons (asI_sub h35) (.cons (asB_sub h36) (.cons (asI_sub h37) (.cons (asI_sub h38) (.cons (asI_sub h39) (.cons (asI_sub h40) (.nil)))))))))))))))))))))))))))))))))))))))))
theorem decWire_sub {cs:List V} {a:G.Wire} (h:decWire cs=some a):Subs cs (encWire a):=by
  unfold decWire at h
  obtain ⟨c0,cs,f0,rfl,h0,h⟩:=tk_some h
  obtain ⟨c1,cs,f1,rfl,h1,h⟩:=tk_some h
  obtain ⟨c2,cs,f2,rfl,h2,h⟩:=tk_some h
  obtain ⟨c3,cs,f3,rfl,h3,h⟩:=tk_some h
  obtain ⟨c4,cs,f4,rfl,h4,h⟩:=tk_some h
  obtain ⟨rfl,rfl⟩:=fin_some h
  exact .cons (asI_sub h0) (.cons (asI_sub h1) (.cons (asI_sub h2) (.cons (asI_sub h3) (.cons (asL_sub h4) (.nil)))))
theorem decNote_sub {cs:List V} {a:G.Note} (h:decNote cs=some a):Subs cs (encNote a):=by
  unfold decNote at h
  obtain ⟨c0,cs,f0,rfl,h0,h⟩:=tk_some h
  obtain ⟨c1,cs,f1,rfl,h1,h⟩:=tk_some h
  obtain ⟨c2,cs,f2,rfl,h2,h⟩:=tk_some h
  obtain ⟨c3,cs,f3,rfl,h3,h⟩:=tk_some h
  obtain ⟨c4,cs,f4,rfl,h4,h⟩:=tk_some h
  obtain ⟨c5,cs,f5,rfl,h5,h⟩:=tk_some h
  obtain ⟨c6,cs,f6,rfl,h6,h⟩:=tk_some h
  obtain ⟨c7,cs,f7,rfl,h7,h⟩:=tk_some h
  obtain ⟨c8,cs,f8,rfl,h8,h⟩:=tk_some h
  obtain ⟨c9,cs,f9,rfl,h9,h⟩:=tk_some h
  obtain ⟨c10,cs,f10,rfl,h10,h⟩:=tk_some h
  obtain ⟨c11,cs,f11,rfl,h11,h⟩:=tk_some h
  obtain ⟨rfl,rfl⟩:=fin_some h
  exact .cons (asI_sub h0) (.cons (asI_sub h1) (.cons (asI_sub h2) (.cons (asL_sub h3) (.cons (asL_sub h4) (.cons (asI_sub h5) (.cons (asI_sub h6) (.cons (asL_sub h7) (.cons (asL_sub h8) (.cons (asI_sub h9) (.cons (asI_sub h10) (.cons (asI_sub h11) (.nil))))))))))))
theorem decWorld_sub {cs:List V} {a:G.World} (h:decWorld cs=some a):Subs cs (encWorld a):=by
  unfold decWorld at h
  obtain ⟨c0,cs,f0,rfl,h0,h⟩:=tk_some h
  obtain ⟨c1,cs,f1,rfl,h1,h⟩:=tk_some h
  obtain ⟨c2,cs,f2,rfl,h2,h⟩:=tk_some h
  obtain ⟨c3,cs,f3,rfl,h3,h⟩:=tk_some h
  obtain ⟨c4,cs,f4,rfl,h4,h⟩:=tk_some h
  obtain ⟨c5,cs,f5,rfl,h5,h⟩:=tk_some h
  obtain ⟨c6,cs,f6,rfl,h6,h⟩:=tk_some h
  obtain ⟨c7,cs,f7,rfl,h7,h⟩:=tk_some h
  obtain ⟨c8,cs,f8,rfl,h8,h⟩:=tk_some h
  obtain ⟨c9,cs,f9,rfl,h9,h⟩:=tk_some h
  obtain ⟨c10,cs,f10,rfl,h10,h⟩:=tk_some h
  obtain ⟨c11,cs,f11,rfl,h11,h⟩:=tk_some h
  obtain ⟨c12,cs,f12,rfl,h12,h⟩:=tk_some h
  obtain ⟨c13,cs,f13,rfl,h13,h⟩:=tk_some h
  obtain ⟨rfl,rfl⟩:=fin_some h
  exact .cons (asI_sub h0) (.cons (asL_sub h1) (.cons (asL_sub h2) (.cons (asL_sub h3) (.cons (asL_sub h4) (.cons (asI_sub h5) (.cons (asI_sub h6) (.cons (asL_sub h7) (.cons (asL_sub h8) (.cons (asL_sub h9) (.cons (asI_sub h10) (.cons (asL_sub h11) (.cons (asL_sub h12) (.cons (asL_sub h13) (.nil))))))))))))))
theorem decCur_sub {cs:List V} {a:G.Cur} (h:decCur cs=some a):Subs cs (encCur a):=by
  unfold decCur at h
  obtain ⟨c0,cs,f0,rfl,h0,h⟩:=tk_some h
  obtain ⟨c1,cs,f1,rfl,h1,h⟩:=tk_some h
  obtain ⟨c2,cs,f2,rfl,h2,h⟩:=tk_some h
  obtain ⟨rfl,rfl⟩:=fin_some h
  exact .cons (asL_sub h0) (.cons (asI_sub h1) (.cons (asI_sub h2) (.nil)))
theorem decOut_sub {cs:List V} {a:G.Out} (h:decOut cs=some a):Subs cs (encOut a):=by
  unfold decOut at h
  obtain ⟨c0,cs,f0,rfl,h0,h⟩:=tk_some h
  obtain ⟨c1,cs,f1,rfl,h1,h⟩:=tk_some h
  obtain ⟨c2,cs,f2,rfl,h2,h⟩:=tk_some h
  obtain ⟨c3,cs,f3,rfl,h3,h⟩:=tk_some h
  obtain ⟨c4,cs,f4,rfl,h4,h⟩:=tk_some h
  obtain ⟨c5,cs,f5,rfl,h5,h⟩:=tk_some h
  obtain ⟨c6,cs,f6,rfl,h6,h⟩:=tk_some h
  obtain ⟨c7,cs,f7,rfl,h7,h⟩:=tk_some h
  obtain ⟨c8,cs,f8,rfl,h8,h⟩:=tk_some h
  obtain ⟨c9,cs,f9,rfl,h9,h⟩:=tk_some h
  obtain ⟨c10,cs,f10,rfl,h10,h⟩:=tk_some h
  obtain ⟨c11,cs,f11,rfl,h11,h⟩:=tk_some h
  obtain ⟨c12,cs,f12,rfl,h12,h⟩:=tk_some h
  obtain ⟨rfl,rfl⟩:=fin_some h
  exact .cons (asI_sub h0) (.cons (asI_sub h1) (.cons (asI_sub h2) (.cons (asI_sub h3) (.cons (asL_sub h4) (.cons (asL_sub h5) (.cons (asI_sub h6) (.cons (asL_sub h7) (.cons (asL_sub h8) (.cons (asI_sub h9) (.cons (asI_sub h10) (.cons (asL_sub h11) (.cons (asL_sub h12) (.nil)))))))))))))
theorem decForm_sub {cs:List V} {a:G.Form} (h:decForm cs=some a):Subs cs (encForm a):=by
  unfold decForm at h
  obtain ⟨c0,cs,f0,rfl,h0,h⟩:=tk_some h
  obtain ⟨c1,cs,f1,rfl,h1,h⟩:=tk_some h
  obtain ⟨rfl,rfl⟩:=fin_some h
  exact .cons (asI_sub h0) (.cons (asS_sub h1) (.nil))
theorem decHash_sub {cs:List V} {a:G.Hash} (h:decHash cs=some a):Subs cs (encHash a):=by
  unfold decHash at h
  obtain ⟨c0,cs,f0,rfl,h0,h⟩:=tk_some h
  obtain ⟨c1,cs,f1,rfl,h1,h⟩:=tk_some h
  obtain ⟨c2,cs,f2,rfl,h2,h⟩:=tk_some h
  obtain ⟨rfl,rfl⟩:=fin_some h
  exact .cons (asL_sub h0) (.cons (asL_sub h1) (.cons (asI_sub h2) (.nil)))
theorem dec_sub:(t:TN)→ {cs:List V}→ {a:El t}→dec t cs=some a→Subs cs (enc t a)
  | .byte,cs,a,h=>by
    obtain ⟨c0,cs,f0,rfl,h0,h⟩:=tk_some (show tk asBy cs (fun b cs=>fin cs b)=some a from h)
    obtain ⟨rfl,rfl⟩:=fin_some h;exact .cons (asBy_sub h0) .nil
  | .int,cs,a,h=>by
    obtain ⟨c0,cs,f0,rfl,h0,h⟩:=tk_some (show tk asI cs (fun b cs=>fin cs b)=some a from h)
    obtain ⟨rfl,rfl⟩:=fin_some h;exact .cons (asI_sub h0) .nil
  | .bool,cs,a,h=>by
    obtain ⟨c0,cs,f0,rfl,h0,h⟩:=tk_some (show tk asB cs (fun b cs=>fin cs b)=some a from h)
    obtain ⟨rfl,rfl⟩:=fin_some h;exact .cons (asB_sub h0) .nil
  | .str,cs,a,h=>by
    obtain ⟨c0,cs,f0,rfl,h0,h⟩:=tk_some (show tk asS cs (fun b cs=>fin cs b)=some a from h)
    obtain ⟨rfl,rfl⟩:=fin_some h;exact .cons (asS_sub h0) .nil
  | .bs,cs,a,h=>by
    obtain ⟨c0,cs,f0,rfl,h0,h⟩:=tk_some (show tk (asL .byte) cs (fun b cs=>fin cs b)=some a from h)
    obtain ⟨rfl,rfl⟩:=fin_some h;exact .cons (asL_sub h0) .nil
  | .Addr,_,_,h=>decAddr_sub h
  | .Op,_,_,h=>decOp_sub h
  | .Event,_,_,h=>decEvent_sub h
  | .Jar,_,_,h=>decJar_sub h
  | .Dice,_,_,h=>decDice_sub h
  | .Win,_,_,h=>decWin_sub h
  | .Ep,_,_,h=>decEp_sub h
  | .Chan,_,_,h=>decChan_sub h
  | .Cand,_,_,h=>decCand_sub h
  | .Paths,_,_,h=>decPaths_sub h
  | .Sess,_,_,h=>decSess_sub h
  | .Tab,_,_,h=>decTab_sub h
  | .Credit,_,_,h=>decCredit_sub h
  | .Server,_,_,h=>decServer_sub h
  | .Frame,_,_,h=>decFrame_sub h
  | .Timer,_,_,h=>decTimer_sub h
  | .Client,_,_,h=>decClient_sub h
  | .Wire,_,_,h=>decWire_sub h
  | .Note,_,_,h=>decNote_sub h
  | .World,_,_,h=>decWorld_sub h
  | .Cur,_,_,h=>decCur_sub h
  | .Out,_,_,h=>decOut_sub h
  | .Form,_,_,h=>decForm_sub h
  | .Hash,_,_,h=>decHash_sub h
theorem enc_length (t:TN) (a:El t):(enc t a).length=sz t:=by cases t <;> rfl
theorem sz_pos (t:TN):0<sz t:=by cases t <;> simp [sz]
def V.leaf:V→Bool
  | .undef | .agg _ | .tup _=>false
  | _=>true
theorem enc_leaf (t:TN) (a:El t):(enc t a).all V.leaf=true:=by cases t <;> rfl
def TN.isAgg:TN→Bool
  | .byte | .int | .bool | .str | .bs=>false
  | _=>true
end Go.D
namespace Go.D
structure RI where
  b:Nat
  n:Nat
  cap:Nat
  nl:Bool
def Fits (k:IntKind) (n:Int):Prop:=k.min≤n∧n≤k.max
def at_ (b o:Nat):Addr:=⟨b,o,none⟩
inductive VR (w:World) (ρ:Nat→Option RI) (bad:Nat→Prop):Value→V→Prop where
  | undef (v:Value):VR w ρ bad v .undef
  | bool (b:Bool):VR w ρ bad (.bool b) (.bool b)
  | int (k:IntKind) (n:Int) (h:Fits k n):VR w ρ bad (.int k n) (.int k n)
  | str (s:List UInt8) (h:s.length≤maxLen):VR w ρ bad (.string ⟨s.toArray⟩) (.str s)
  | nil:VR w ρ bad (.slice none 0 0) .nil
  | slE (t:TN) (a:Option Addr) (cap:Nat) (h:cap≤maxLen):VR w ρ bad (.slice a 0 cap) (.sl t [])
  | slC (t:TN) (l:List (El t)) (b off cap:Nat) (u:Nat→Nat→Value) (hb:¬ bad b) (hl:l.length≤cap) (hc:cap≤maxLen)
      (hu:∀ i,i<l.length→∀ j,j<sz t→w.cell? (at_ b (off+i *sz t+j))=some (u i j))
      (hv:∀ i (h:i<l.length) j,j<sz t→VR w ρ bad (u i j) ((enc t l[i]).getD j .undef)):
      VR w ρ bad (.slice (some (at_ b off)) l.length cap) (.sl t l)
  | ow (r:Nat) (ri:RI) (h:ρ r=some ri) (hn:ri.n≤ri.cap) (hc:ri.cap≤maxLen) (hnl:ri.nl=false):VR w ρ bad (.slice (some (at_ ri.b 0)) ri.n ri.cap) (.ow r)
  | owN (r:Nat) (ri:RI) (ao:Option Addr) (h:ρ r=some ri) (hn:ri.n=0) (hnl:ri.nl=true):VR w ρ bad (.slice ao 0 0) (.ow r)
  | ov (r:Nat) (t:TN) (off len cap:Nat) (a:Option Addr) (ri:RI) (h:ρ r=some ri) (hof:off+len≤ri.n) (ha:len=0∧cap=0∨a=some (at_ ri.b (off *sz t))∧ri.nl=false∧off+cap≤ri.cap)
      (hl:len≤cap) (hc:cap≤maxLen):VR w ρ bad (.slice a len cap) (.ov r t off len)
  | bp (r off:Nat) (ri:RI) (h:ρ r=some ri) (hnl:ri.nl=false):VR w ρ bad (.pointer (some (at_ ri.b off))) (.bp r off)
  | ep (r:Nat) (t:TN) (i off:Nat) (ri:RI) (h:ρ r=some ri) (hnl:ri.nl=false):VR w ρ bad (.pointer (some (at_ ri.b (i *sz t+off)))) (.ep r t i off)
  | fp (cs:List V) (off b o:Nat) (u:Nat→Value) (h0:0<cs.length) (hb:¬ bad b) (hu:∀ j,j<cs.length→w.cell? (at_ b (o+j))=some (u j))
      (hv:∀ j (h:j<cs.length),VR w ρ bad (u j) cs[j]):VR w ρ bad (.pointer (some (at_ b (o+off)))) (.fp cs off)
  | fn (f:Nat) (cs:List V) (caps:Array Value) (hs:caps.size=cs.length) (hv:∀ j (h:j<cs.length),VR w ρ bad (caps.getD j undef) cs[j]):
      VR w ρ bad (.func (.func f) #[] caps) (.fn f cs)
  | agg (cs:List V) (vs:Array Value) (hs:vs.size=cs.length) (hv:∀ j (h:j<cs.length),VR w ρ bad (vs.getD j undef) cs[j]):VR w ρ bad (.agg vs) (.agg cs)
  | tup (cs:List V) (vs:Array Value) (hs:vs.size=cs.length) (hv:∀ j (h:j<cs.length),VR w ρ bad (vs.getD j undef) cs[j]):VR w ρ bad (.tuple vs) (.tup cs)
  | nili:VR w ρ bad .nilIface .nili
  | ifc (t:TypeId) (v:Value):VR w ρ bad (.iface t v) (.ifc false)
  | ifn:VR w ρ bad .nilIface (.ifc true)
inductive RIn (S:Nat→Prop):V→Prop where
  | undef:RIn S .undef
  | bool (b:Bool):RIn S (.bool b)
  | int (k:IntKind) (n:Int):RIn S (.int k n)
  | str (s:List UInt8):RIn S (.str s)
  | nil:RIn S .nil
  | sl (t:TN) (l:List (El t)) (h:∀ i (h:i<l.length) j,j<sz t→RIn S ((enc t l[i]).getD j .undef)):RIn S (.sl t l)
  | ow (r:Nat) (h:S r):RIn S (.ow r)
  | ov (r:Nat) (t:TN) (off len:Nat) (h:S r):RIn S (.ov r t off len)
  | bp (r off:Nat) (h:S r):RIn S (.bp r off)
  | ep (r:Nat) (t:TN) (i off:Nat) (h:S r):RIn S (.ep r t i off)
  | fp (cs:List V) (off:Nat) (h:∀ j (h:j<cs.length),RIn S cs[j]):RIn S (.fp cs off)
  | fn (f:Nat) (cs:List V) (h:∀ j (h:j<cs.length),RIn S cs[j]):RIn S (.fn f cs)
  | agg (cs:List V) (h:∀ j (h:j<cs.length),RIn S cs[j]):RIn S (.agg cs)
  | tup (cs:List V) (h:∀ j (h:j<cs.length),RIn S cs[j]):RIn S (.tup cs)
  | nili:RIn S .nili
  | ifc (b:Bool):RIn S (.ifc b)
section
variable {w:World} {ρ:Nat→Option RI} {bad:Nat→Prop} {v:Value} {d:V}
theorem VR.refs (h:VR w ρ bad v d):RIn (fun r=>ρ r≠none) d:=by
  induction h with
  | undef=>exact .undef
  | bool=>exact .bool _
  | int=>exact .int _ _
  | str=>exact .str _
  | nil=>exact .nil
  | slE=>exact .sl _ _ (fun i h=>by simp at h)
  | slC t l b off cap u hb hl hc hu hv ih=>exact .sl _ _ ih
  | ow r ri h=>exact .ow _ (by simp [h])
  | owN r ri ao h=>exact .ow _ (by simp [h])
  | ov r t off len cap a ri h=>exact .ov _ _ _ _ (by simp [h])
  | bp r off ri h=>exact .bp _ _ (by simp [h])
  | ep r t i off ri h=>exact .ep _ _ _ _ (by simp [h])
  | fp cs off b o u h0 hb hu hv ih=>exact .fp _ _ ih
  | fn f cs caps hs hv ih=>exact .fn _ _ ih
  | agg cs vs hs hv ih=>exact .agg _ ih
  | tup cs vs hs hv ih=>exact .tup _ ih
  | nili=>exact .nili
  | ifc=>exact .ifc _
  | ifn=>exact .ifc _
theorem cell?_lt {w:World} {b o:Nat} {u:Value} (h:w.cell? (at_ b o)=some u):b<w.heap.size:=by
  rcases Nat.lt_or_ge b w.heap.size with h' | h'
  · exact h'
  · simp [World.cell?,at_,Array.getElem?_eq_none h'] at h
theorem cell?_same {w w':World} {b o:Nat} (h:w'.heap[b]?=w.heap[b]?):w'.cell? (at_ b o)=w.cell? (at_ b o):=by
  simp [World.cell?,at_,h]
theorem VR.keep {w':World} {ρ':Nat→Option RI} {bad':Nat→Prop} {S:Nat→Prop} (h:VR w ρ bad v d) (hS:RIn S d)
    (hρ:∀ r ri,S r→ρ r=some ri→ρ' r=some ri)
    (hw:∀ b,¬ bad b→b<w.heap.size→w'.heap[b]?=w.heap[b]?) (hb:∀ b,bad' b→bad b∨w.heap.size≤b):VR w' ρ' bad' v d:=by
  have hbad:∀ b,¬ bad b→b<w.heap.size→¬ bad' b:=fun b h1 h2 h3=>(hb b h3).elim h1 (by omega)
  induction h with
  | undef=>exact .undef _
  | bool=>exact .bool _
  | int k n h=>exact .int _ _ h
  | str s h=>exact .str _ h
  | nil=>exact .nil
  | slE t a cap h=>exact .slE _ _ _ h
  | slC t l b off cap u hb hl hc hu hv ih=>
    by_cases hl0:l.length=0
    · obtain rfl:l=[]:=List.eq_nil_of_length_eq_zero hl0
      exact .slE _ _ _ hc
    · have hlt:b<w.heap.size:=cell?_lt (hu 0 (by omega) 0 (sz_pos t))
      cases hS with
      | sl _ _ hS=>
      exact .slC t l b off cap u (hbad b hb hlt) hl hc (fun i h j hj=>(cell?_same (hw b hb hlt)).trans (hu i h j hj)) (fun i h j hj=>ih i h j hj (hS i h j hj))
  | ow r ri h hn hc hnl=>cases hS with | ow _ hs=>exact .ow _ _ (hρ _ _ hs h) hn hc hnl
  | owN r ri ao h hn hnl=>cases hS with | ow _ hs=>exact .owN _ _ _ (hρ _ _ hs h) hn hnl
  | ov r t off len cap a ri h hof ha hl hc=>cases hS with | ov _ _ _ _ hs=>exact .ov _ _ _ _ _ _ _ (hρ _ _ hs h) hof ha hl hc
  | bp r off ri h hnl=>cases hS with | bp _ _ hs=>exact .bp _ _ _ (hρ _ _ hs h) hnl
  | ep r t i off ri h hnl=>cases hS with | ep _ _ _ _ hs=>exact .ep _ _ _ _ _ (hρ _ _ hs h) hnl
  | fp cs off b o u h0 hb hu hv ih=>
    cases hS with
    | fp _ _ hS=>
    have hlt:b<w.heap.size:=cell?_lt (hu 0 h0)
    exact .fp cs off b o u h0 (hbad b hb hlt) (fun j hj=>(cell?_same (hw b hb hlt)).trans (hu j hj)) (fun j hj=>ih j hj (hS j hj))
  | fn f cs caps hs hv ih=>cases hS with | fn _ _ hS=>exact .fn _ _ _ hs (fun j hj=>ih j hj (hS j hj))
  | agg cs vs hs hv ih=>cases hS with | agg _ hS=>exact .agg _ _ hs (fun j hj=>ih j hj (hS j hj))
  | tup cs vs hs hv ih=>cases hS with | tup _ hS=>exact .tup _ _ hs (fun j hj=>ih j hj (hS j hj))
  | nili=>exact .nili
  | ifc=>exact .ifc _ _
  | ifn=>exact .ifn
theorem RIn.all {S:Nat→Prop} {d:V} (hS:∀ r,S r) (h:RIn (fun r=>ρ r≠none) d):RIn S d:=by
  induction h with
  | undef=>exact .undef
  | bool=>exact .bool _
  | int=>exact .int _ _
  | str=>exact .str _
  | nil=>exact .nil
  | sl t l h ih=>exact .sl _ _ ih
  | ow r h=>exact .ow _ (hS _)
  | ov r t off len h=>exact .ov _ _ _ _ (hS _)
  | bp r off h=>exact .bp _ _ (hS _)
  | ep r t i off h=>exact .ep _ _ _ _ (hS _)
  | fp cs off h ih=>exact .fp _ _ ih
  | fn f cs h ih=>exact .fn _ _ ih
  | agg cs h ih=>exact .agg _ ih
  | tup cs h ih=>exact .tup _ ih
  | nili=>exact .nili
  | ifc=>exact .ifc _
theorem VR.mono {w':World} {ρ':Nat→Option RI} {bad':Nat→Prop} (h:VR w ρ bad v d) (hρ:∀ r ri,ρ r=some ri→ρ' r=some ri)
    (hw:∀ b,¬ bad b→b<w.heap.size→w'.heap[b]?=w.heap[b]?) (hb:∀ b,bad' b→bad b∨w.heap.size≤b):VR w' ρ' bad' v d:=
  h.keep (S:=fun _=>True) (RIn.all (fun _=>trivial) h.refs) (fun r ri _=>hρ r ri) hw hb
theorem VR.one (h:VR w ρ bad v d) (hd:d.leaf=true):v.oneCell'=true:=by
  cases h <;> first | rfl | simp [V.leaf] at hd
theorem fits_byte (n:Int) (h:Fits .u8 n):((UInt8.ofNat n.toNat).toNat:Int)=n:=by
  obtain ⟨h1,h2⟩:=h
  simp [IntKind.min,IntKind.max,IntKind.signed,IntKind.bits] at h1 h2
  simp only [UInt8.toNat_ofNat']
  omega
theorem VR.sub {c d:V} (hs:Sub c d) (h:VR w ρ bad v c):VR w ρ bad v d:=by
  cases hs with
  | refl=>exact h
  | byte n=>cases h with | int _ _ hf=>rw [fits_byte n hf];exact .int _ _ hf
  | nil t=>cases h;exact .slE _ _ _ (Nat.zero_le _)
end
end Go.D
namespace Go.D
theorem rin_byte (S:Nat→Prop) (a:UInt8) (j:Nat):RIn S ((enc .byte a).getD j .undef):=by
  match j with
  | 0=>exact .int _ _
  | n+1=>exact .undef
theorem rin_int (S:Nat→Prop) (a:Int) (j:Nat):RIn S ((enc .int a).getD j .undef):=by
  match j with
  | 0=>exact .int _ _
  | n+1=>exact .undef
theorem rin_bool (S:Nat→Prop) (a:Bool) (j:Nat):RIn S ((enc .bool a).getD j .undef):=by
  match j with
  | 0=>exact .bool _
  | n+1=>exact .undef
theorem rin_str (S:Nat→Prop) (a:List UInt8) (j:Nat):RIn S ((enc .str a).getD j .undef):=by
  match j with
  | 0=>exact .str _
  | n+1=>exact .undef
theorem rin_bs (S:Nat→Prop) (a:List UInt8) (j:Nat):RIn S ((enc .bs a).getD j .undef):=by
  match j with
  | 0=>exact .sl _ _ fun i h j _=>rin_byte S _ j
  | n+1=>exact .undef
theorem rin_Addr (S:Nat→Prop) (a:G.Addr) (j:Nat):RIn S ((enc .Addr a).getD j .undef):=by
  match j with
  | 0=>exact .int _ _
  | 1=>exact .int _ _
  | n+2=>exact .undef
theorem rin_Op (S:Nat→Prop) (a:G.Op) (j:Nat):RIn S ((enc .Op a).getD j .undef):=by
  match j with
  | 0=>exact .int _ _
  | 1=>exact .int _ _
  | 2=>exact .int _ _
  | 3=>exact .sl _ _ fun i h j _=>rin_byte S _ j
  | n+4=>exact .undef
theorem rin_Event (S:Nat→Prop) (a:G.Event) (j:Nat):RIn S ((enc .Event a).getD j .undef):=by
  match j with
  | 0=>exact .int _ _
  | 1=>exact .int _ _
  | 2=>exact .int _ _
  | 3=>exact .int _ _
  | 4=>exact .sl _ _ fun i h j _=>rin_byte S _ j
  | 5=>exact .sl _ _ fun i h j _=>rin_Op S _ j
  | n+6=>exact .undef
theorem rin_Jar (S:Nat→Prop) (a:G.Jar) (j:Nat):RIn S ((enc .Jar a).getD j .undef):=by
  match j with
  | 0=>exact .sl _ _ fun i h j _=>rin_byte S _ j
  | n+1=>exact .undef
theorem rin_Dice (S:Nat→Prop) (a:G.Dice) (j:Nat):RIn S ((enc .Dice a).getD j .undef):=by
  match j with
  | 0=>exact .sl _ _ fun i h j _=>rin_byte S _ j
  | 1=>exact .int _ _
  | n+2=>exact .undef
theorem rin_Win (S:Nat→Prop) (a:G.Win) (j:Nat):RIn S ((enc .Win a).getD j .undef):=by
  match j with
  | 0=>exact .int _ _
  | 1=>exact .sl _ _ fun i h j _=>rin_int S _ j
  | n+2=>exact .undef
theorem rin_Ep (S:Nat→Prop) (a:G.Ep) (j:Nat):RIn S ((enc .Ep a).getD j .undef):=by
  match j with
  | 0=>exact .int _ _
  | 1=>exact .sl _ _ fun i h j _=>rin_byte S _ j
  | 2=>exact .int _ _
  | 3=>exact .int _ _
  | 4=>exact .sl _ _ fun i h j _=>rin_int S _ j
  | n+5=>exact .undef
theorem rin_Chan (S:Nat→Prop) (a:G.Chan) (j:Nat):RIn S ((enc .Chan a).getD j .undef):=by
  match j with
  | 0=>exact .int _ _
  | 1=>exact .sl _ _ fun i h j _=>rin_byte S _ j
  | 2=>exact .int _ _
  | 3=>exact .sl _ _ fun i h j _=>rin_byte S _ j
  | 4=>exact .int _ _
  | 5=>exact .int _ _
  | 6=>exact .sl _ _ fun i h j _=>rin_int S _ j
  | 7=>exact .int _ _
  | 8=>exact .sl _ _ fun i h j _=>rin_byte S _ j
  | 9=>exact .int _ _
  | 10=>exact .int _ _
  | 11=>exact .sl _ _ fun i h j _=>rin_int S _ j
  | 12=>exact .bool _
  | 13=>exact .int _ _
  | 14=>exact .sl _ _ fun i h j _=>rin_byte S _ j
  | n+15=>exact .undef
theorem rin_Cand (S:Nat→Prop) (a:G.Cand) (j:Nat):RIn S ((enc .Cand a).getD j .undef):=by
  match j with
  | 0=>exact .int _ _
  | 1=>exact .int _ _
  | 2=>exact .sl _ _ fun i h j _=>rin_byte S _ j
  | 3=>exact .int _ _
  | n+4=>exact .undef
theorem rin_Paths (S:Nat→Prop) (a:G.Paths) (j:Nat):RIn S ((enc .Paths a).getD j .undef):=by
  match j with
  | 0=>exact .int _ _
  | 1=>exact .int _ _
  | 2=>exact .sl _ _ fun i h j _=>rin_Cand S _ j
  | n+3=>exact .undef
theorem rin_Sess (S:Nat→Prop) (a:G.Sess) (j:Nat):RIn S ((enc .Sess a).getD j .undef):=by
  match j with
  | 0=>exact .int _ _
  | 1=>exact .sl _ _ fun i h j _=>rin_byte S _ j
  | 2=>exact .sl _ _ fun i h j _=>rin_byte S _ j
  | 3=>exact .int _ _
  | 4=>exact .sl _ _ fun i h j _=>rin_byte S _ j
  | 5=>exact .int _ _
  | 6=>exact .sl _ _ fun i h j _=>rin_byte S _ j
  | 7=>exact .int _ _
  | 8=>exact .int _ _
  | 9=>exact .sl _ _ fun i h j _=>rin_int S _ j
  | 10=>exact .int _ _
  | 11=>exact .sl _ _ fun i h j _=>rin_byte S _ j
  | 12=>exact .int _ _
  | 13=>exact .int _ _
  | 14=>exact .sl _ _ fun i h j _=>rin_int S _ j
  | 15=>exact .bool _
  | 16=>exact .int _ _
  | 17=>exact .sl _ _ fun i h j _=>rin_byte S _ j
  | 18=>exact .int _ _
  | 19=>exact .int _ _
  | 20=>exact .sl _ _ fun i h j _=>rin_Cand S _ j
  | 21=>exact .int _ _
  | 22=>exact .int _ _
  | 23=>exact .bool _
  | n+24=>exact .undef
theorem rin_Tab (S:Nat→Prop) (a:G.Tab) (j:Nat):RIn S ((enc .Tab a).getD j .undef):=by
  match j with
  | 0=>exact .int _ _
  | 1=>exact .sl _ _ fun i h j _=>rin_Sess S _ j
  | n+2=>exact .undef
theorem rin_Credit (S:Nat→Prop) (a:G.Credit) (j:Nat):RIn S ((enc .Credit a).getD j .undef):=by
  match j with
  | 0=>exact .int _ _
  | 1=>exact .int _ _
  | 2=>exact .int _ _
  | 3=>exact .int _ _
  | n+4=>exact .undef
theorem rin_Server (S:Nat→Prop) (a:G.Server) (j:Nat):RIn S ((enc .Server a).getD j .undef):=by
  match j with
  | 0=>exact .sl _ _ fun i h j _=>rin_bs S _ j
  | 1=>exact .sl _ _ fun i h j _=>rin_byte S _ j
  | 2=>exact .sl _ _ fun i h j _=>rin_byte S _ j
  | 3=>exact .int _ _
  | 4=>exact .int _ _
  | 5=>exact .sl _ _ fun i h j _=>rin_Sess S _ j
  | 6=>exact .sl _ _ fun i h j _=>rin_Credit S _ j
  | n+7=>exact .undef
theorem rin_Frame (S:Nat→Prop) (a:G.Frame) (j:Nat):RIn S ((enc .Frame a).getD j .undef):=by
  match j with
  | 0=>exact .int _ _
  | 1=>exact .int _ _
  | 2=>exact .sl _ _ fun i h j _=>rin_byte S _ j
  | 3=>exact .sl _ _ fun i h j _=>rin_byte S _ j
  | 4=>exact .int _ _
  | 5=>exact .sl _ _ fun i h j _=>rin_byte S _ j
  | 6=>exact .sl _ _ fun i h j _=>rin_byte S _ j
  | 7=>exact .int _ _
  | 8=>exact .int _ _
  | 9=>exact .sl _ _ fun i h j _=>rin_byte S _ j
  | 10=>exact .sl _ _ fun i h j _=>rin_byte S _ j
  | n+11=>exact .undef
theorem rin_Timer (S:Nat→Prop) (a:G.Timer) (j:Nat):RIn S ((enc .Timer a).getD j .undef):=by
  match j with
  | 0=>exact .bool _
  | 1=>exact .int _ _
  | 2=>exact .int _ _
  | 3=>exact .int _ _
  | n+4=>exact .undef
theorem rin_Client (S:Nat→Prop) (a:G.Client) (j:Nat):RIn S ((enc .Client a).getD j .undef):=by
  match j with
  | 0=>exact .int _ _
  | 1=>exact .sl _ _ fun i h j _=>rin_byte S _ j
  | 2=>exact .int _ _
  | 3=>exact .int _ _
  | 4=>exact .int _ _
  | 5=>exact .sl _ _ fun i h j _=>rin_byte S _ j
  | 6=>exact .int _ _
  | 7=>exact .int _ _
  | 8=>exact .sl _ _ fun i h j _=>rin_byte S _ j
  | 9=>exact .sl _ _ fun i h j _=>rin_byte S _ j
  | 10=>exact .int _ _
  | 11=>exact .sl _ _ fun i h j _=>rin_byte S _ j
  | 12=>exact .sl _ _ fun i h j _=>rin_byte S _ j
  | 13=>exact .int _ _
  | 14=>exact .int _ _
  | 15=>exact .sl _ _ fun i h j _=>rin_byte S _ j
  | 16=>exact .sl _ _ fun i h j _=>rin_byte S _ j
  | 17=>exact .int _ _
  | 18=>exact .sl _ _ fun i h j _=>rin_byte S _ j
  | 19=>exact .int _ _
  | 20=>exact .sl _ _ fun i h j _=>rin_byte S _ j
  | 21=>exact .int _ _
  | 22=>exact .int _ _
  | 23=>exact .sl _ _ fun i h j _=>rin_int S _ j
  | 24=>exact .int _ _
  | 25=>exact .sl _ _ fun i h j _=>rin_byte S _ j
  | 26=>exact .int _ _
  | 27=>exact .int _ _
  | 28=>exact .sl _ _ fun i h j _=>rin_int S _ j
  | 29=>exact .bool _
  | 30=>exact .int _ _
  | 31=>exact .sl _ _ fun i h j _=>rin_byte S _ j
  | 32=>exact .bool _
  | 33=>exact .int _ _
  | 34=>exact .int _ _
  | 35=>exact .int _ _
  | 36=>exact .bool _
  | 37=>exact .int _ _
  | 38=>exact .int _ _
  | 39=>exact .int _ _
  | 40=>exact .int _ _
  | n+41=>exact .undef
theorem rin_Wire (S:Nat→Prop) (a:G.Wire) (j:Nat):RIn S ((enc .Wire a).getD j .undef):=by
  match j with
  | 0=>exact .int _ _
  | 1=>exact .int _ _
  | 2=>exact .int _ _
  | 3=>exact .int _ _
  | 4=>exact .sl _ _ fun i h j _=>rin_byte S _ j
  | n+5=>exact .undef
theorem rin_Note (S:Nat→Prop) (a:G.Note) (j:Nat):RIn S ((enc .Note a).getD j .undef):=by
  match j with
  | 0=>exact .int _ _
  | 1=>exact .int _ _
  | 2=>exact .int _ _
  | 3=>exact .sl _ _ fun i h j _=>rin_byte S _ j
  | 4=>exact .sl _ _ fun i h j _=>rin_byte S _ j
  | 5=>exact .int _ _
  | 6=>exact .int _ _
  | 7=>exact .sl _ _ fun i h j _=>rin_byte S _ j
  | 8=>exact .sl _ _ fun i h j _=>rin_byte S _ j
  | 9=>exact .int _ _
  | 10=>exact .int _ _
  | 11=>exact .int _ _
  | n+12=>exact .undef
theorem rin_World (S:Nat→Prop) (a:G.World) (j:Nat):RIn S ((enc .World a).getD j .undef):=by
  match j with
  | 0=>exact .int _ _
  | 1=>exact .sl _ _ fun i h j _=>rin_Client S _ j
  | 2=>exact .sl _ _ fun i h j _=>rin_bs S _ j
  | 3=>exact .sl _ _ fun i h j _=>rin_byte S _ j
  | 4=>exact .sl _ _ fun i h j _=>rin_byte S _ j
  | 5=>exact .int _ _
  | 6=>exact .int _ _
  | 7=>exact .sl _ _ fun i h j _=>rin_Sess S _ j
  | 8=>exact .sl _ _ fun i h j _=>rin_Credit S _ j
  | 9=>exact .sl _ _ fun i h j _=>rin_byte S _ j
  | 10=>exact .int _ _
  | 11=>exact .sl _ _ fun i h j _=>rin_Wire S _ j
  | 12=>exact .sl _ _ fun i h j _=>rin_bs S _ j
  | 13=>exact .sl _ _ fun i h j _=>rin_Note S _ j
  | n+14=>exact .undef
theorem rin_Cur (S:Nat→Prop) (a:G.Cur) (j:Nat):RIn S ((enc .Cur a).getD j .undef):=by
  match j with
  | 0=>exact .sl _ _ fun i h j _=>rin_byte S _ j
  | 1=>exact .int _ _
  | 2=>exact .int _ _
  | n+3=>exact .undef
theorem rin_Out (S:Nat→Prop) (a:G.Out) (j:Nat):RIn S ((enc .Out a).getD j .undef):=by
  match j with
  | 0=>exact .int _ _
  | 1=>exact .int _ _
  | 2=>exact .int _ _
  | 3=>exact .int _ _
  | 4=>exact .sl _ _ fun i h j _=>rin_byte S _ j
  | 5=>exact .sl _ _ fun i h j _=>rin_byte S _ j
  | 6=>exact .int _ _
  | 7=>exact .sl _ _ fun i h j _=>rin_byte S _ j
  | 8=>exact .sl _ _ fun i h j _=>rin_byte S _ j
  | 9=>exact .int _ _
  | 10=>exact .int _ _
  | 11=>exact .sl _ _ fun i h j _=>rin_byte S _ j
  | 12=>exact .sl _ _ fun i h j _=>rin_byte S _ j
  | n+13=>exact .undef
theorem rin_Form (S:Nat→Prop) (a:G.Form) (j:Nat):RIn S ((enc .Form a).getD j .undef):=by
  match j with
  | 0=>exact .int _ _
  | 1=>exact .str _
  | n+2=>exact .undef
theorem rin_Hash (S:Nat→Prop) (a:G.Hash) (j:Nat):RIn S ((enc .Hash a).getD j .undef):=by
  match j with
  | 0=>exact .sl _ _ fun i h j _=>rin_int S _ j
  | 1=>exact .sl _ _ fun i h j _=>rin_byte S _ j
  | 2=>exact .int _ _
  | n+3=>exact .undef
theorem rin_enc (S:Nat→Prop) (t:TN) (a:El t) (j:Nat):RIn S ((enc t a).getD j .undef):=by
  cases t with
  | byte=>exact rin_byte S a j
  | int=>exact rin_int S a j
  | bool=>exact rin_bool S a j
  | str=>exact rin_str S a j
  | bs=>exact rin_bs S a j
  | Addr=>exact rin_Addr S a j
  | Op=>exact rin_Op S a j
  | Event=>exact rin_Event S a j
  | Jar=>exact rin_Jar S a j
  | Dice=>exact rin_Dice S a j
  | Win=>exact rin_Win S a j
  | Ep=>exact rin_Ep S a j
  | Chan=>exact rin_Chan S a j
  | Cand=>exact rin_Cand S a j
  | Paths=>exact rin_Paths S a j
  | Sess=>exact rin_Sess S a j
  | Tab=>exact rin_Tab S a j
  | Credit=>exact rin_Credit S a j
  | Server=>exact rin_Server S a j
  | Frame=>exact rin_Frame S a j
  | Timer=>exact rin_Timer S a j
  | Client=>exact rin_Client S a j
  | Wire=>exact rin_Wire S a j
  | Note=>exact rin_Note S a j
  | World=>exact rin_World S a j
  | Cur=>exact rin_Cur S a j
  | Out=>exact rin_Out S a j
  | Form=>exact rin_Form S a j
  | Hash=>exact rin_Hash S a j
end Go.D
