/-
 The data of the program as plain structures; values of the plain semantics; their encoding as flat cells.
-/
import GoSem.Core.Value
import Derived.Calls
import Derived.WalkKit
import GoSem.ClaimData
set_option linter.all false
namespace Go.D
structure Af where
 Host:Int
 Port:Int
structure Bb where
 Kind:Int
 I:Int
 J:Int
 B:(List UInt8)
structure Am where
 Kind:Int
 I:Int
 J:Int
 N:Int
 B:(List UInt8)
 Ops:(List Bb)
structure Ay where
 Secret:(List UInt8)
structure Ar where
 Seed:(List UInt8)
 N:Int
structure Ap where
 Top:Int
 Bits:(List Int)
structure Av where
 N:Int
 Key:(List UInt8)
 Seq:Int
 Win:Ap
structure Aj where
 Role:Int
 Sn:(List UInt8)
 Cur:Av
 Old:Av
 HasOld:Bool
 Until:Int
 Next:(List UInt8)
structure Aw where
 A:Af
 Draw:(List UInt8)
 Until:Int
structure Ai where
 At:Af
 Cands:(List Aw)
structure Ah where
 Id:Int
 Cn:(List UInt8)
 Sn:(List UInt8)
 C:Aj
 P:Ai
 Tick:Int
 Last:Int
 Dead:Bool
structure Ao where
 Cap:Int
 L:(List Ah)
structure Ak where
 A:Af
 Got:Int
 Sent:Int
structure Ac where
 Psks:(List (List UInt8))
 J:Ay
 D:Ar
 T:Ao
 Cr:(List Ak)
structure Ab where
 Kind:Int
 Id:Int
 Cn:(List UInt8)
 Sn:(List UInt8)
 Tick:Int
 Cookie:(List UInt8)
 Proof:(List UInt8)
 Epoch:Int
 Seq:Int
 Body:(List UInt8)
 Tag:(List UInt8)
structure Au where
 On:Bool
 Due:Int
 Wait:Int
 Tries:Int
structure Ae where
 Id:Int
 Psk:(List UInt8)
 At:Af
 St:Int
 Cn:(List UInt8)
 Fin:Ab
 C:Aj
 T:Au
 R:Au
 Last:Int
structure Al where
 From:Af
 To:Af
 B:(List UInt8)
structure Ad where
 Kind:Int
 Id:Int
 Role:Int
 Cn:(List UInt8)
 Sn:(List UInt8)
 Epoch:Int
 Seq:Int
 Body:(List UInt8)
 Key:(List UInt8)
 A:Af
 Now:Int
structure Aa where
 Now:Int
 Clients:(List Ae)
 S:Ac
 D:Ar
 Seen:(List Al)
 Known:(List (List UInt8))
 Notes:(List Ad)
structure As where
 b:(List UInt8)
 i:Int
 h:Int
structure Aq where
 To:Af
 F:Ab
structure Jf where
 kind:Int
 words:(List UInt8)
structure Bf where
 H:(List Int)
 Held:(List UInt8)
 N:Int
end Go.D
namespace Go.D
inductive TN where
 | byte|int|bool|str|bs|Addr|Op|Event|Jar|Dice|Win|Ep|Chan|Cand|Paths|Sess|Tab|Credit|Server|Frame|Timer|Client|Wire|Note|World|Cur|Out|Form|Hash
 deriving DecidableEq
@[reducible] def El:TN→Type
 | .byte=>UInt8| .int=>Int| .bool=>Bool| .str=>List UInt8| .bs=>List UInt8
 | .Addr=>Af| .Op=>Bb| .Event=>Am| .Jar=>Ay| .Dice=>Ar| .Win=>Ap| .Ep=>Av| .Chan=>Aj| .Cand=>Aw| .Paths=>Ai| .Sess=>Ah| .Tab=>Ao| .Credit=>Ak| .Server=>Ac| .Frame=>Ab| .Timer=>Au| .Client=>Ae| .Wire=>Al| .Note=>Ad| .World=>Aa| .Cur=>As| .Out=>Aq| .Form=>Jf| .Hash=>Bf
inductive V where
 | undef
 | bool (b:Bool)
 | int (k:IntKind) (n:Int)
 | str (s:List UInt8)
 | nil
 | sl (t:TN) (l:List (El t))
 | ow (r:Nat)
 | ov (r:Nat) (t:TN) (off len:Nat)
 | bp (r off:Nat)
 | ep (r:Nat) (t:TN) (i off:Nat)
 | fp (cs:List V) (off:Nat)
 | fn (f:Nat) (cs:List V)
 | agg (cs:List V)
 | tup (vs:List V)
 | nili
 | ifc (b:Bool)
def zcV(a:Af):List V:=[.int .i64 a.Host, .int .i64 a.Port]
def zg5(a:Bb):List V:=[.int .i64 a.Kind, .int .i64 a.I, .int .i64 a.J, .sl .byte a.B]
def zf3(a:Am):List V:=[.int .i64 a.Kind, .int .i64 a.I, .int .i64 a.J, .int .i64 a.N, .sl .byte a.B, .sl .Op a.Ops]
def zgT(a:Ay):List V:=[.sl .byte a.Secret]
def zgG(a:Ar):List V:=[.sl .byte a.Seed, .int .i64 a.N]
def zgQ(a:Ap):List V:=[.int .i64 a.Top, .sl .int a.Bits]
def zg3(a:Av):List V:=[.int .i64 a.N, .sl .byte a.Key, .int .i64 a.Seq, .int .i64 a.Win.Top, .sl .int a.Win.Bits]
def zgm(a:Aj):List V:=[.int .i64 a.Role, .sl .byte a.Sn, .int .i64 a.Cur.N, .sl .byte a.Cur.Key, .int .i64 a.Cur.Seq, .int .i64 a.Cur.Win.Top, .sl .int a.Cur.Win.Bits, .int .i64 a.Old.N, .sl .byte a.Old.Key, .int .i64 a.Old.Seq, .int .i64 a.Old.Win.Top, .sl .int a.Old.Win.Bits, .bool a.HasOld, .int .i64 a.Until, .sl .byte a.Next]
def zgk(a:Aw):List V:=[.int .i64 a.A.Host, .int .i64 a.A.Port, .sl .byte a.Draw, .int .i64 a.Until]
def zfU(a:Ai):List V:=[.int .i64 a.At.Host, .int .i64 a.At.Port, .sl .Cand a.Cands]
def zgn(a:Ah):List V:=[.int .i64 a.Id, .sl .byte a.Cn, .sl .byte a.Sn, .int .i64 a.C.Role, .sl .byte a.C.Sn, .int .i64 a.C.Cur.N, .sl .byte a.C.Cur.Key, .int .i64 a.C.Cur.Seq, .int .i64 a.C.Cur.Win.Top, .sl .int a.C.Cur.Win.Bits, .int .i64 a.C.Old.N, .sl .byte a.C.Old.Key, .int .i64 a.C.Old.Seq, .int .i64 a.C.Old.Win.Top, .sl .int a.C.Old.Win.Bits, .bool a.C.HasOld, .int .i64 a.C.Until, .sl .byte a.C.Next, .int .i64 a.P.At.Host, .int .i64 a.P.At.Port, .sl .Cand a.P.Cands, .int .i64 a.Tick, .int .i64 a.Last, .bool a.Dead]
def zgS(a:Ao):List V:=[.int .i64 a.Cap, .sl .Sess a.L]
def zcj(a:Ak):List V:=[.int .i64 a.A.Host, .int .i64 a.A.Port, .int .i64 a.Got, .int .i64 a.Sent]
def zfM(a:Ac):List V:=[.sl .bs a.Psks, .sl .byte a.J.Secret, .sl .byte a.D.Seed, .int .i64 a.D.N, .int .i64 a.T.Cap, .sl .Sess a.T.L, .sl .Credit a.Cr]
def zfV(a:Ab):List V:=[.int .i64 a.Kind, .int .i64 a.Id, .sl .byte a.Cn, .sl .byte a.Sn, .int .i64 a.Tick, .sl .byte a.Cookie, .sl .byte a.Proof, .int .i64 a.Epoch, .int .i64 a.Seq, .sl .byte a.Body, .sl .byte a.Tag]
def zcL(a:Au):List V:=[.bool a.On, .int .i64 a.Due, .int .i64 a.Wait, .int .i64 a.Tries]
def zfL(a:Ae):List V:=[.int .i64 a.Id, .sl .byte a.Psk, .int .i64 a.At.Host, .int .i64 a.At.Port, .int .i64 a.St, .sl .byte a.Cn, .int .i64 a.Fin.Kind, .int .i64 a.Fin.Id, .sl .byte a.Fin.Cn, .sl .byte a.Fin.Sn, .int .i64 a.Fin.Tick, .sl .byte a.Fin.Cookie, .sl .byte a.Fin.Proof, .int .i64 a.Fin.Epoch, .int .i64 a.Fin.Seq, .sl .byte a.Fin.Body, .sl .byte a.Fin.Tag, .int .i64 a.C.Role, .sl .byte a.C.Sn, .int .i64 a.C.Cur.N, .sl .byte a.C.Cur.Key, .int .i64 a.C.Cur.Seq, .int .i64 a.C.Cur.Win.Top, .sl .int a.C.Cur.Win.Bits, .int .i64 a.C.Old.N, .sl .byte a.C.Old.Key, .int .i64 a.C.Old.Seq, .int .i64 a.C.Old.Win.Top, .sl .int a.C.Old.Win.Bits, .bool a.C.HasOld, .int .i64 a.C.Until, .sl .byte a.C.Next, .bool a.T.On, .int .i64 a.T.Due, .int .i64 a.T.Wait, .int .i64 a.T.Tries, .bool a.R.On, .int .i64 a.R.Due, .int .i64 a.R.Wait, .int .i64 a.R.Tries, .int .i64 a.Last]
def zgh(a:Al):List V:=[.int .i64 a.From.Host, .int .i64 a.From.Port, .int .i64 a.To.Host, .int .i64 a.To.Port, .sl .byte a.B]
def zgw(a:Ad):List V:=[.int .i64 a.Kind, .int .i64 a.Id, .int .i64 a.Role, .sl .byte a.Cn, .sl .byte a.Sn, .int .i64 a.Epoch, .int .i64 a.Seq, .sl .byte a.Body, .sl .byte a.Key, .int .i64 a.A.Host, .int .i64 a.A.Port, .int .i64 a.Now]
def zfQ(a:Aa):List V:=[.int .i64 a.Now, .sl .Client a.Clients, .sl .bs a.S.Psks, .sl .byte a.S.J.Secret, .sl .byte a.S.D.Seed, .int .i64 a.S.D.N, .int .i64 a.S.T.Cap, .sl .Sess a.S.T.L, .sl .Credit a.S.Cr, .sl .byte a.D.Seed, .int .i64 a.D.N, .sl .Wire a.Seen, .sl .bs a.Known, .sl .Note a.Notes]
def zgP(a:As):List V:=[.sl .byte a.b, .int .i64 a.i, .int .i64 a.h]
def zgY(a:Aq):List V:=[.int .i64 a.To.Host, .int .i64 a.To.Port, .int .i64 a.F.Kind, .int .i64 a.F.Id, .sl .byte a.F.Cn, .sl .byte a.F.Sn, .int .i64 a.F.Tick, .sl .byte a.F.Cookie, .sl .byte a.F.Proof, .int .i64 a.F.Epoch, .int .i64 a.F.Seq, .sl .byte a.F.Body, .sl .byte a.F.Tag]
def zcS(a:Jf):List V:=[.int .i64 a.kind, .str a.words]
def zgi(a:Bf):List V:=[.sl .int a.H, .sl .byte a.Held, .int .i64 a.N]
def enc:(t:TN)→El t→List V
 | .byte,b=>[.int .u8 (b.toNat:Int)]
 | .int,n=>[.int .i64 n]
 | .bool,b=>[.bool b]
 | .str,s=>[.str s]
 | .bs,l=>[.sl .byte l]
 | .Addr,a=>zcV a
 | .Op,a=>zg5 a
 | .Event,a=>zf3 a
 | .Jar,a=>zgT a
 | .Dice,a=>zgG a
 | .Win,a=>zgQ a
 | .Ep,a=>zg3 a
 | .Chan,a=>zgm a
 | .Cand,a=>zgk a
 | .Paths,a=>zfU a
 | .Sess,a=>zgn a
 | .Tab,a=>zgS a
 | .Credit,a=>zcj a
 | .Server,a=>zfM a
 | .Frame,a=>zfV a
 | .Timer,a=>zcL a
 | .Client,a=>zfL a
 | .Wire,a=>zgh a
 | .Note,a=>zgw a
 | .World,a=>zfQ a
 | .Cur,a=>zgP a
 | .Out,a=>zgY a
 | .Form,a=>zcS a
 | .Hash,a=>zgi a
def sz:TN→Nat
 | .byte=>1| .int=>1| .bool=>1| .str=>1| .bs=>1
 | .Addr=>2| .Op=>4| .Event=>6| .Jar=>1| .Dice=>2| .Win=>2| .Ep=>5| .Chan=>15| .Cand=>4| .Paths=>3| .Sess=>24| .Tab=>2| .Credit=>4| .Server=>7| .Frame=>11| .Timer=>4| .Client=>41| .Wire=>5| .Note=>12| .World=>14| .Cur=>3| .Out=>13| .Form=>2| .Hash=>3
def HA:V→Option Int| .int .i64 n=>some n|_=>none
def ET:V→Option UInt8| .int .u8 n=>some (UInt8.ofNat n.toNat)|_=>none
def cI:V→Option Bool| .bool b=>some b|_=>none
def sP:V→Option (List UInt8)| .str s=>some s|_=>none
def TN.cast{s t:TN}(h:s=t)(l:List (El s)):List (El t):=h▸l
def WA(t:TN):V→Option (List (El t))
 | .sl s l=>if h:s=t then some (TN.cast h l)else none
 | .nil=>some []
 | _=>none
def tk{α β:Type}(p:V→Option α)(cs:List V)(k:α→List V→Option β):Option β:=
 match cs with
 | c :: cs=>(p c).bind λa=>k a cs
 | []=>none
def fin{β:Type}(cs:List V)(r:β):Option β:=
 match cs with
 | []=>some r
 | _=>none
def zdb(cs:List V):Option Af:=tk HA cs λf0 cs=>tk HA cs λf1 cs=>fin cs (⟨f0,f1⟩:Af)
def zdP(cs:List V):Option Bb:=tk HA cs λf0 cs=>tk HA cs λf1 cs=>tk HA cs λf2 cs=>tk (WA .byte) cs λf3 cs=>fin cs (⟨f0,f1,f2,f3⟩:Bb)
def zcQ(cs:List V):Option Am:=tk HA cs λf0 cs=>tk HA cs λf1 cs=>tk HA cs λf2 cs=>tk HA cs λf3 cs=>tk (WA .byte) cs λf4 cs=>tk (WA .Op) cs λf5 cs=>fin cs (⟨f0,f1,f2,f3,f4,f5⟩:Am)
def zdE(cs:List V):Option Ay:=tk (WA .byte) cs λf0 cs=>fin cs (⟨f0⟩:Ay)
def zdg(cs:List V):Option Ar:=tk (WA .byte) cs λf0 cs=>tk HA cs λf1 cs=>fin cs (⟨f0,f1⟩:Ar)
def zdt(cs:List V):Option Ap:=tk HA cs λf0 cs=>tk (WA .int) cs λf1 cs=>fin cs (⟨f0,f1⟩:Ap)
def zdM(cs:List V):Option Av:=tk HA cs λf0 cs=>tk (WA .byte) cs λf1 cs=>tk HA cs λf2 cs=>tk HA cs λf3 cs=>tk (WA .int) cs λf4 cs=>fin cs (⟨f0,f1,f2,⟨f3,f4⟩⟩:Av)
def zdm(cs:List V):Option Aj:=tk HA cs λf0 cs=>tk (WA .byte) cs λf1 cs=>tk HA cs λf2 cs=>tk (WA .byte) cs λf3 cs=>tk HA cs λf4 cs=>tk HA cs λf5 cs=>tk (WA .int) cs λf6 cs=>tk HA cs λf7 cs=>tk (WA .byte) cs λf8 cs=>tk HA cs λf9 cs=>tk HA cs λf10 cs=>tk (WA .int) cs λf11 cs=>tk cI cs λf12 cs=>tk HA cs λf13 cs=>tk (WA .byte) cs λf14 cs=>fin cs (⟨f0,f1,⟨f2,f3,f4,⟨f5,f6⟩⟩,⟨f7,f8,f9,⟨f10,f11⟩⟩,f12,f13,f14⟩:Aj)
def zc4(cs:List V):Option Aw:=tk HA cs λf0 cs=>tk HA cs λf1 cs=>tk (WA .byte) cs λf2 cs=>tk HA cs λf3 cs=>fin cs (⟨⟨f0,f1⟩,f2,f3⟩:Aw)
def zcs(cs:List V):Option Ai:=tk HA cs λf0 cs=>tk HA cs λf1 cs=>tk (WA .Cand) cs λf2 cs=>fin cs (⟨⟨f0,f1⟩,f2⟩:Ai)
def zdo(cs:List V):Option Ah:=tk HA cs λf0 cs=>tk (WA .byte) cs λf1 cs=>tk (WA .byte) cs λf2 cs=>tk HA cs λf3 cs=>tk (WA .byte) cs λf4 cs=>tk HA cs λf5 cs=>tk (WA .byte) cs λf6 cs=>tk HA cs λf7 cs=>tk HA cs λf8 cs=>tk (WA .int) cs λf9 cs=>tk HA cs λf10 cs=>tk (WA .byte) cs λf11 cs=>tk HA cs λf12 cs=>tk HA cs λf13 cs=>tk (WA .int) cs λf14 cs=>tk cI cs λf15 cs=>tk HA cs λf16 cs=>tk (WA .byte) cs λf17 cs=>tk HA cs λf18 cs=>tk HA cs λf19 cs=>tk (WA .Cand) cs λf20 cs=>tk HA cs λf21 cs=>tk HA cs λf22 cs=>tk cI cs λf23 cs=>fin cs (⟨f0,f1,f2,⟨f3,f4,⟨f5,f6,f7,⟨f8,f9⟩⟩,⟨f10,f11,f12,⟨f13,f14⟩⟩,f15,f16,f17⟩,⟨⟨f18,f19⟩,f20⟩,f21,f22,f23⟩:Ah)
def zdy(cs:List V):Option Ao:=tk HA cs λf0 cs=>tk (WA .Sess) cs λf1 cs=>fin cs (⟨f0,f1⟩:Ao)
def zcf(cs:List V):Option Ak:=tk HA cs λf0 cs=>tk HA cs λf1 cs=>tk HA cs λf2 cs=>tk HA cs λf3 cs=>fin cs (⟨⟨f0,f1⟩,f2,f3⟩:Ak)
def zcb(cs:List V):Option Ac:=tk (WA .bs) cs λf0 cs=>tk (WA .byte) cs λf1 cs=>tk (WA .byte) cs λf2 cs=>tk HA cs λf3 cs=>tk HA cs λf4 cs=>tk (WA .Sess) cs λf5 cs=>tk (WA .Credit) cs λf6 cs=>fin cs (⟨f0,⟨f1⟩,⟨f2,f3⟩,⟨f4,f5⟩,f6⟩:Ac)
def zcG(cs:List V):Option Ab:=tk HA cs λf0 cs=>tk HA cs λf1 cs=>tk (WA .byte) cs λf2 cs=>tk (WA .byte) cs λf3 cs=>tk HA cs λf4 cs=>tk (WA .byte) cs λf5 cs=>tk (WA .byte) cs λf6 cs=>tk HA cs λf7 cs=>tk HA cs λf8 cs=>tk (WA .byte) cs λf9 cs=>tk (WA .byte) cs λf10 cs=>fin cs (⟨f0,f1,f2,f3,f4,f5,f6,f7,f8,f9,f10⟩:Ab)
def zcK(cs:List V):Option Au:=tk cI cs λf0 cs=>tk HA cs λf1 cs=>tk HA cs λf2 cs=>tk HA cs λf3 cs=>fin cs (⟨f0,f1,f2,f3⟩:Au)
def zca(cs:List V):Option Ae:=tk HA cs λf0 cs=>tk (WA .byte) cs λf1 cs=>tk HA cs λf2 cs=>tk HA cs λf3 cs=>tk HA cs λf4 cs=>tk (WA .byte) cs λf5 cs=>tk HA cs λf6 cs=>tk HA cs λf7 cs=>tk (WA .byte) cs λf8 cs=>tk (WA .byte) cs λf9 cs=>tk HA cs λf10 cs=>tk (WA .byte) cs λf11 cs=>tk (WA .byte) cs λf12 cs=>tk HA cs λf13 cs=>tk HA cs λf14 cs=>tk (WA .byte) cs λf15 cs=>tk (WA .byte) cs λf16 cs=>tk HA cs λf17 cs=>tk (WA .byte) cs λf18 cs=>tk HA cs λf19 cs=>tk (WA .byte) cs λf20 cs=>tk HA cs λf21 cs=>tk HA cs λf22 cs=>tk (WA .int) cs λf23 cs=>tk HA cs λf24 cs=>tk (WA .byte) cs λf25 cs=>tk HA cs λf26 cs=>tk HA cs λf27 cs=>tk (WA .int) cs λf28 cs=>tk cI cs λf29 cs=>tk HA cs λf30 cs=>tk (WA .byte) cs λf31 cs=>tk cI cs λf32 cs=>tk HA cs λf33 cs=>tk HA cs λf34 cs=>tk HA cs λf35 cs=>tk cI cs λf36 cs=>tk HA cs λf37 cs=>tk HA cs λf38 cs=>tk HA cs λf39 cs=>tk HA cs λf40 cs=>fin cs (⟨f0,f1,⟨f2,f3⟩,f4,f5,⟨f6,f7,f8,f9,f10,f11,f12,f13,f14,f15,f16⟩,⟨f17,f18,⟨f19,f20,f21,⟨f22,f23⟩⟩,⟨f24,f25,f26,⟨f27,f28⟩⟩,f29,f30,f31⟩,⟨f32,f33,f34,f35⟩,⟨f36,f37,f38,f39⟩,f40⟩:Ae)
def zdi(cs:List V):Option Al:=tk HA cs λf0 cs=>tk HA cs λf1 cs=>tk HA cs λf2 cs=>tk HA cs λf3 cs=>tk (WA .byte) cs λf4 cs=>fin cs (⟨⟨f0,f1⟩,⟨f2,f3⟩,f4⟩:Al)
def zcZ(cs:List V):Option Ad:=tk HA cs λf0 cs=>tk HA cs λf1 cs=>tk HA cs λf2 cs=>tk (WA .byte) cs λf3 cs=>tk (WA .byte) cs λf4 cs=>tk HA cs λf5 cs=>tk HA cs λf6 cs=>tk (WA .byte) cs λf7 cs=>tk (WA .byte) cs λf8 cs=>tk HA cs λf9 cs=>tk HA cs λf10 cs=>tk HA cs λf11 cs=>fin cs (⟨f0,f1,f2,f3,f4,f5,f6,f7,f8,⟨f9,f10⟩,f11⟩:Ad)
def zcv(cs:List V):Option Aa:=tk HA cs λf0 cs=>tk (WA .Client) cs λf1 cs=>tk (WA .bs) cs λf2 cs=>tk (WA .byte) cs λf3 cs=>tk (WA .byte) cs λf4 cs=>tk HA cs λf5 cs=>tk HA cs λf6 cs=>tk (WA .Sess) cs λf7 cs=>tk (WA .Credit) cs λf8 cs=>tk (WA .byte) cs λf9 cs=>tk HA cs λf10 cs=>tk (WA .Wire) cs λf11 cs=>tk (WA .bs) cs λf12 cs=>tk (WA .Note) cs λf13 cs=>fin cs (⟨f0,f1,⟨f2,⟨f3⟩,⟨f4,f5⟩,⟨f6,f7⟩,f8⟩,⟨f9,f10⟩,f11,f12,f13⟩:Aa)
def zdG(cs:List V):Option As:=tk (WA .byte) cs λf0 cs=>tk HA cs λf1 cs=>tk HA cs λf2 cs=>fin cs (⟨f0,f1,f2⟩:As)
def zdA(cs:List V):Option Aq:=tk HA cs λf0 cs=>tk HA cs λf1 cs=>tk HA cs λf2 cs=>tk HA cs λf3 cs=>tk (WA .byte) cs λf4 cs=>tk (WA .byte) cs λf5 cs=>tk HA cs λf6 cs=>tk (WA .byte) cs λf7 cs=>tk (WA .byte) cs λf8 cs=>tk HA cs λf9 cs=>tk HA cs λf10 cs=>tk (WA .byte) cs λf11 cs=>tk (WA .byte) cs λf12 cs=>fin cs (⟨⟨f0,f1⟩,⟨f2,f3,f4,f5,f6,f7,f8,f9,f10,f11,f12⟩⟩:Aq)
def zc8(cs:List V):Option Jf:=tk HA cs λf0 cs=>tk sP cs λf1 cs=>fin cs (⟨f0,f1⟩:Jf)
def zdq(cs:List V):Option Bf:=tk (WA .int) cs λf0 cs=>tk (WA .byte) cs λf1 cs=>tk HA cs λf2 cs=>fin cs (⟨f0,f1,f2⟩:Bf)
def iF:(t:TN)→List V→Option (El t)
 | .byte,cs=>tk ET cs λb cs=>fin cs b
 | .int,cs=>tk HA cs λn cs=>fin cs n
 | .bool,cs=>tk cI cs λb cs=>fin cs b
 | .str,cs=>tk sP cs λs cs=>fin cs s
 | .bs,cs=>tk (WA .byte) cs λl cs=>fin cs l
 | .Addr,cs=>zdb cs
 | .Op,cs=>zdP cs
 | .Event,cs=>zcQ cs
 | .Jar,cs=>zdE cs
 | .Dice,cs=>zdg cs
 | .Win,cs=>zdt cs
 | .Ep,cs=>zdM cs
 | .Chan,cs=>zdm cs
 | .Cand,cs=>zc4 cs
 | .Paths,cs=>zcs cs
 | .Sess,cs=>zdo cs
 | .Tab,cs=>zdy cs
 | .Credit,cs=>zcf cs
 | .Server,cs=>zcb cs
 | .Frame,cs=>zcG cs
 | .Timer,cs=>zcK cs
 | .Client,cs=>zca cs
 | .Wire,cs=>zdi cs
 | .Note,cs=>zcZ cs
 | .World,cs=>zcv cs
 | .Cur,cs=>zdG cs
 | .Out,cs=>zdA cs
 | .Form,cs=>zc8 cs
 | .Hash,cs=>zdq cs
inductive dI:V→V→Prop where
 | refl (c:V):dI c c
 | byte (n:Int):dI (.int .u8 n) (.int .u8 ((UInt8.ofNat n.toNat).toNat:Int))
 | nil (t:TN):dI .nil (.sl t [])
inductive OB:List V→List V→Prop where
 | nil:OB [] []
 | cons {c d:V} {cs ds:List V}:dI c d→OB cs ds→OB (c :: cs) (d :: ds)
def JA{c:V}{n:Int}(h:HA c=some n):dI c (.int .i64 n):=by
 cases c<;>simp[HA]at h
 rename_i k m;cases k<;>simp at h;subst h;exact .refl _
def zt6{c:V}{b:UInt8}(h:ET c=some b):dI c (.int .u8 (b.toNat:Int)):=by
 cases c<;>simp[ET]at h
 rename_i k m;cases k<;>simp at h;subst h;exact .byte _
def YM{c:V}{b:Bool}(h:cI c=some b):dI c (.bool b):=by
 cases c<;>simp[cI]at h;subst h;exact .refl _
def zlf{c:V}{b:List UInt8}(h:sP c=some b):dI c (.str b):=by
 cases c<;>simp[sP]at h;subst h;exact .refl _
def ZA{t:TN}{c:V}{l:List (El t)}(h:WA t c=some l):dI c (.sl t l):=by
 cases c<;>simp[WA]at h
 ·subst h;exact .nil t
 ·obtain⟨rfl,h⟩:=h;simp[TN.cast]at h;subst h;exact .refl _
def tA{α β:Type}{p:V→Option α}{cs:List V}{k:α→List V→Option β}{r:β}(h:tk p cs k=some r):
  ∃c cs' a,cs=c :: cs'∧p c=some a∧k a cs'=some r:=by
 cases cs with
 | nil=>simp[tk]at h
 | cons c cs=>simp only[tk,Option.bind_eq_some_iff]at h;obtain⟨a,h1,h2⟩:=h;exact⟨c,cs,a,rfl,h1,h2⟩
def CD{β:Type}{cs:List V}{r s:β}(h:fin cs r=some s):cs=[]∧r=s:=by
 cases cs<;>simp[fin]at h;exact⟨rfl,h⟩
def zrp{cs:List V}{a:Af}(h:zdb cs=some a):OB cs (zcV a):=by
 unfold zdb at h;obtain⟨c0,cs,f0,rfl,h0,h⟩:=tA h;obtain⟨c1,cs,f1,rfl,h1,h⟩:=tA h;obtain⟨rfl,rfl⟩:=CD h;exact .cons (JA h0) (.cons (JA h1) (.nil))
def zsS{cs:List V}{a:Bb}(h:zdP cs=some a):OB cs (zg5 a):=by
 unfold zdP at h;obtain⟨c0,cs,f0,rfl,h0,h⟩:=tA h;obtain⟨c1,cs,f1,rfl,h1,h⟩:=tA h;obtain⟨c2,cs,f2,rfl,h2,h⟩:=tA h;obtain⟨c3,cs,f3,rfl,h3,h⟩:=tA h;obtain⟨rfl,rfl⟩:=CD h;exact .cons (JA h0) (.cons (JA h1) (.cons (JA h2) (.cons (ZA h3) (.nil))))
def zqP{cs:List V}{a:Am}(h:zcQ cs=some a):OB cs (zf3 a):=by
 unfold zcQ at h;obtain⟨c0,cs,f0,rfl,h0,h⟩:=tA h;obtain⟨c1,cs,f1,rfl,h1,h⟩:=tA h;obtain⟨c2,cs,f2,rfl,h2,h⟩:=tA h;obtain⟨c3,cs,f3,rfl,h3,h⟩:=tA h;obtain⟨c4,cs,f4,rfl,h4,h⟩:=tA h;obtain⟨c5,cs,f5,rfl,h5,h⟩:=tA h;obtain⟨rfl,rfl⟩:=CD h;exact .cons (JA h0) (.cons (JA h1) (.cons (JA h2) (.cons (JA h3) (.cons (ZA h4) (.cons (ZA h5) (.nil))))))
def zr8{cs:List V}{a:Ay}(h:zdE cs=some a):OB cs (zgT a):=by
 unfold zdE at h;obtain⟨c0,cs,f0,rfl,h0,h⟩:=tA h;obtain⟨rfl,rfl⟩:=CD h;exact .cons (ZA h0) (.nil)
def zrD{cs:List V}{a:Ar}(h:zdg cs=some a):OB cs (zgG a):=by
 unfold zdg at h;obtain⟨c0,cs,f0,rfl,h0,h⟩:=tA h;obtain⟨c1,cs,f1,rfl,h1,h⟩:=tA h;obtain⟨rfl,rfl⟩:=CD h;exact .cons (ZA h0) (.cons (JA h1) (.nil))
def zrV{cs:List V}{a:Ap}(h:zdt cs=some a):OB cs (zgQ a):=by
 unfold zdt at h;obtain⟨c0,cs,f0,rfl,h0,h⟩:=tA h;obtain⟨c1,cs,f1,rfl,h1,h⟩:=tA h;obtain⟨rfl,rfl⟩:=CD h;exact .cons (JA h0) (.cons (ZA h1) (.nil))
def ztc{cs:List V}{a:Av}(h:zdM cs=some a):OB cs (zg3 a):=by
 unfold zdM at h;obtain⟨c0,cs,f0,rfl,h0,h⟩:=tA h;obtain⟨c1,cs,f1,rfl,h1,h⟩:=tA h;obtain⟨c2,cs,f2,rfl,h2,h⟩:=tA h;obtain⟨c3,cs,f3,rfl,h3,h⟩:=tA h;obtain⟨c4,cs,f4,rfl,h4,h⟩:=tA h;obtain⟨rfl,rfl⟩:=CD h;exact .cons (JA h0) (.cons (ZA h1) (.cons (JA h2) (.cons (JA h3) (.cons (ZA h4) (.nil)))))
def zrr{cs:List V}{a:Aj}(h:zdm cs=some a):OB cs (zgm a):=by
 unfold zdm at h;obtain⟨c0,cs,f0,rfl,h0,h⟩:=tA h;obtain⟨c1,cs,f1,rfl,h1,h⟩:=tA h;obtain⟨c2,cs,f2,rfl,h2,h⟩:=tA h;obtain⟨c3,cs,f3,rfl,h3,h⟩:=tA h;obtain⟨c4,cs,f4,rfl,h4,h⟩:=tA h;obtain⟨c5,cs,f5,rfl,h5,h⟩:=tA h;obtain⟨c6,cs,f6,rfl,h6,h⟩:=tA h;obtain⟨c7,cs,f7,rfl,h7,h⟩:=tA h;obtain⟨c8,cs,f8,rfl,h8,h⟩:=tA h;obtain⟨c9,cs,f9,rfl,h9,h⟩:=tA h;obtain⟨ZF,cs,f10,rfl,gW,h⟩:=tA h;obtain⟨oG,cs,f11,rfl,rW,h⟩:=tA h;obtain⟨MT,cs,f12,rfl,FW,h⟩:=tA h;obtain⟨c13,cs,f13,rfl,XW,h⟩:=tA h;obtain⟨OT,cs,f14,rfl,XX,h⟩:=tA h;obtain⟨rfl,rfl⟩:=CD h;exact .cons (JA h0) (.cons (ZA h1) (.cons (JA h2) (.cons (ZA h3) (.cons (JA h4) (.cons (JA h5) (.cons (ZA h6) (.cons (JA h7) (.cons (ZA h8) (.cons (JA h9) (.cons (JA gW) (.cons (ZA rW) (.cons (YM FW) (.cons (JA XW) (.cons (ZA XX) (.nil)))))))))))))))
def zq6{cs:List V}{a:Aw}(h:zc4 cs=some a):OB cs (zgk a):=by
 unfold zc4 at h;obtain⟨c0,cs,f0,rfl,h0,h⟩:=tA h;obtain⟨c1,cs,f1,rfl,h1,h⟩:=tA h;obtain⟨c2,cs,f2,rfl,h2,h⟩:=tA h;obtain⟨c3,cs,f3,rfl,h3,h⟩:=tA h;obtain⟨rfl,rfl⟩:=CD h;exact .cons (JA h0) (.cons (JA h1) (.cons (ZA h2) (.cons (JA h3) (.nil))))
def zqy{cs:List V}{a:Ai}(h:zcs cs=some a):OB cs (zfU a):=by
 unfold zcs at h;obtain⟨c0,cs,f0,rfl,h0,h⟩:=tA h;obtain⟨c1,cs,f1,rfl,h1,h⟩:=tA h;obtain⟨c2,cs,f2,rfl,h2,h⟩:=tA h;obtain⟨rfl,rfl⟩:=CD h;exact .cons (JA h0) (.cons (JA h1) (.cons (ZA h2) (.nil)))
def zq5{cs:List V}{a:Ah}(h:zdo cs=some a):OB cs (zgn a):=by
 unfold zdo at h;obtain⟨c0,cs,f0,rfl,h0,h⟩:=tA h;obtain⟨c1,cs,f1,rfl,h1,h⟩:=tA h;obtain⟨c2,cs,f2,rfl,h2,h⟩:=tA h;obtain⟨c3,cs,f3,rfl,h3,h⟩:=tA h;obtain⟨c4,cs,f4,rfl,h4,h⟩:=tA h;obtain⟨c5,cs,f5,rfl,h5,h⟩:=tA h;obtain⟨c6,cs,f6,rfl,h6,h⟩:=tA h;obtain⟨c7,cs,f7,rfl,h7,h⟩:=tA h;obtain⟨c8,cs,f8,rfl,h8,h⟩:=tA h;obtain⟨c9,cs,f9,rfl,h9,h⟩:=tA h;obtain⟨ZF,cs,f10,rfl,gW,h⟩:=tA h;obtain⟨oG,cs,f11,rfl,rW,h⟩:=tA h;obtain⟨MT,cs,f12,rfl,FW,h⟩:=tA h;obtain⟨c13,cs,f13,rfl,XW,h⟩:=tA h;obtain⟨OT,cs,f14,rfl,XX,h⟩:=tA h;obtain⟨qP,cs,f15,rfl,lY,h⟩:=tA h;obtain⟨vN,cs,f16,rfl,qY,h⟩:=tA h;obtain⟨c17,cs,f17,rfl,IY,h⟩:=tA h;obtain⟨c18,cs,f18,rfl,J1,h⟩:=tA h;obtain⟨c19,cs,f19,rfl,wZ,h⟩:=tA h;obtain⟨c20,cs,f20,rfl,xZ,h⟩:=tA h;obtain⟨c21,cs,f21,rfl,U1,h⟩:=tA h;obtain⟨c22,cs,f22,rfl,yZ,h⟩:=tA h;obtain⟨c23,cs,f23,rfl,VZ,h⟩:=tA h;obtain⟨rfl,rfl⟩:=CD h;exact .cons (JA h0) (.cons (ZA h1) (.cons (ZA h2) (.cons (JA h3) (.cons (ZA h4) (.cons (JA h5) (.cons (ZA h6) (.cons (JA h7) (.cons (JA h8) (.cons (ZA h9) (.cons (JA gW) (.cons (ZA rW) (.cons (JA FW) (.cons (JA XW) (.cons (ZA XX) (.cons (YM lY) (.cons (JA qY) (.cons (ZA IY) (.cons (JA J1) (.cons (JA wZ) (.cons (ZA xZ) (.cons (JA U1) (.cons (JA yZ) (.cons (YM VZ) (.nil))))))))))))))))))))))))
def zso{cs:List V}{a:Ao}(h:zdy cs=some a):OB cs (zgS a):=by
 unfold zdy at h;obtain⟨c0,cs,f0,rfl,h0,h⟩:=tA h;obtain⟨c1,cs,f1,rfl,h1,h⟩:=tA h;obtain⟨rfl,rfl⟩:=CD h;exact .cons (JA h0) (.cons (ZA h1) (.nil))
def zqd{cs:List V}{a:Ak}(h:zcf cs=some a):OB cs (zcj a):=by
 unfold zcf at h;obtain⟨c0,cs,f0,rfl,h0,h⟩:=tA h;obtain⟨c1,cs,f1,rfl,h1,h⟩:=tA h;obtain⟨c2,cs,f2,rfl,h2,h⟩:=tA h;obtain⟨c3,cs,f3,rfl,h3,h⟩:=tA h;obtain⟨rfl,rfl⟩:=CD h;exact .cons (JA h0) (.cons (JA h1) (.cons (JA h2) (.cons (JA h3) (.nil))))
def zpQ{cs:List V}{a:Ac}(h:zcb cs=some a):OB cs (zfM a):=by
 unfold zcb at h;obtain⟨c0,cs,f0,rfl,h0,h⟩:=tA h;obtain⟨c1,cs,f1,rfl,h1,h⟩:=tA h;obtain⟨c2,cs,f2,rfl,h2,h⟩:=tA h;obtain⟨c3,cs,f3,rfl,h3,h⟩:=tA h;obtain⟨c4,cs,f4,rfl,h4,h⟩:=tA h;obtain⟨c5,cs,f5,rfl,h5,h⟩:=tA h;obtain⟨c6,cs,f6,rfl,h6,h⟩:=tA h;obtain⟨rfl,rfl⟩:=CD h;exact .cons (ZA h0) (.cons (ZA h1) (.cons (ZA h2) (.cons (JA h3) (.cons (JA h4) (.cons (ZA h5) (.cons (ZA h6) (.nil)))))))
def zqT{cs:List V}{a:Ab}(h:zcG cs=some a):OB cs (zfV a):=by
 unfold zcG at h;obtain⟨c0,cs,f0,rfl,h0,h⟩:=tA h;obtain⟨c1,cs,f1,rfl,h1,h⟩:=tA h;obtain⟨c2,cs,f2,rfl,h2,h⟩:=tA h;obtain⟨c3,cs,f3,rfl,h3,h⟩:=tA h;obtain⟨c4,cs,f4,rfl,h4,h⟩:=tA h;obtain⟨c5,cs,f5,rfl,h5,h⟩:=tA h;obtain⟨c6,cs,f6,rfl,h6,h⟩:=tA h;obtain⟨c7,cs,f7,rfl,h7,h⟩:=tA h;obtain⟨c8,cs,f8,rfl,h8,h⟩:=tA h;obtain⟨c9,cs,f9,rfl,h9,h⟩:=tA h;obtain⟨ZF,cs,f10,rfl,gW,h⟩:=tA h;obtain⟨rfl,rfl⟩:=CD h;exact .cons (JA h0) (.cons (JA h1) (.cons (ZA h2) (.cons (ZA h3) (.cons (JA h4) (.cons (ZA h5) (.cons (ZA h6) (.cons (JA h7) (.cons (JA h8) (.cons (ZA h9) (.cons (ZA gW) (.nil)))))))))))
def zqM{cs:List V}{a:Au}(h:zcK cs=some a):OB cs (zcL a):=by
 unfold zcK at h;obtain⟨c0,cs,f0,rfl,h0,h⟩:=tA h;obtain⟨c1,cs,f1,rfl,h1,h⟩:=tA h;obtain⟨c2,cs,f2,rfl,h2,h⟩:=tA h;obtain⟨c3,cs,f3,rfl,h3,h⟩:=tA h;obtain⟨rfl,rfl⟩:=CD h;exact .cons (YM h0) (.cons (JA h1) (.cons (JA h2) (.cons (JA h3) (.nil))))
def zpH{cs:List V}{a:Ae}(h:zca cs=some a):OB cs (zfL a):=by
 unfold zca at h;obtain⟨c0,cs,f0,rfl,h0,h⟩:=tA h;obtain⟨c1,cs,f1,rfl,h1,h⟩:=tA h;obtain⟨c2,cs,f2,rfl,h2,h⟩:=tA h;obtain⟨c3,cs,f3,rfl,h3,h⟩:=tA h;obtain⟨c4,cs,f4,rfl,h4,h⟩:=tA h;obtain⟨c5,cs,f5,rfl,h5,h⟩:=tA h;obtain⟨c6,cs,f6,rfl,h6,h⟩:=tA h;obtain⟨c7,cs,f7,rfl,h7,h⟩:=tA h;obtain⟨c8,cs,f8,rfl,h8,h⟩:=tA h;obtain⟨c9,cs,f9,rfl,h9,h⟩:=tA h;obtain⟨ZF,cs,f10,rfl,gW,h⟩:=tA h;obtain⟨oG,cs,f11,rfl,rW,h⟩:=tA h;obtain⟨MT,cs,f12,rfl,FW,h⟩:=tA h;obtain⟨c13,cs,f13,rfl,XW,h⟩:=tA h;obtain⟨OT,cs,f14,rfl,XX,h⟩:=tA h;obtain⟨qP,cs,f15,rfl,lY,h⟩:=tA h;obtain⟨vN,cs,f16,rfl,qY,h⟩:=tA h;obtain⟨c17,cs,f17,rfl,IY,h⟩:=tA h;obtain⟨c18,cs,f18,rfl,J1,h⟩:=tA h;obtain⟨c19,cs,f19,rfl,wZ,h⟩:=tA h;obtain⟨c20,cs,f20,rfl,xZ,h⟩:=tA h;obtain⟨c21,cs,f21,rfl,U1,h⟩:=tA h;obtain⟨c22,cs,f22,rfl,yZ,h⟩:=tA h;obtain⟨c23,cs,f23,rfl,VZ,h⟩:=tA h;obtain⟨c24,cs,f24,rfl,WZ,h⟩:=tA h;obtain⟨c25,cs,f25,rfl,F5,h⟩:=tA h;obtain⟨c26,cs,f26,rfl,T5,h⟩:=tA h;obtain⟨c27,cs,f27,rfl,T3,h⟩:=tA h;obtain⟨c28,cs,f28,rfl,N8,h⟩:=tA h;obtain⟨c29,cs,f29,rfl,O8,h⟩:=tA h;obtain⟨PK,cs,f30,rfl,U5,h⟩:=tA h;obtain⟨fC,cs,f31,rfl,V5,h⟩:=tA h;obtain⟨c32,cs,f32,rfl,G9,h⟩:=tA h;obtain⟨mG,cs,f33,rfl,H9,h⟩:=tA h;obtain⟨c34,cs,f34,rfl,I9,h⟩:=tA h;obtain⟨c35,cs,f35,rfl,J9,h⟩:=tA h;obtain⟨c36,cs,f36,rfl,K9,h⟩:=tA h;obtain⟨c37,cs,f37,rfl,L9,h⟩:=tA h;obtain⟨c38,cs,f38,rfl,h38,h⟩:=tA h;obtain⟨c39,cs,f39,rfl,h39,h⟩:=tA h;obtain⟨c40,cs,f40,rfl,h40,h⟩:=tA h;obtain⟨rfl,rfl⟩:=CD h;exact .cons (JA h0) (.cons (ZA h1) (.cons (JA h2) (.cons (JA h3) (.cons (JA h4) (.cons (ZA h5) (.cons (JA h6) (.cons (JA h7) (.cons (ZA h8) (.cons (ZA h9) (.cons (JA gW) (.cons (ZA rW) (.cons (ZA FW) (.cons (JA XW) (.cons (JA XX) (.cons (ZA lY) (.cons (ZA qY) (.cons (JA IY) (.cons (ZA J1) (.cons (JA wZ) (.cons (ZA xZ) (.cons (JA U1) (.cons (JA yZ) (.cons (ZA VZ) (.cons (JA WZ) (.cons (ZA F5) (.cons (JA T5) (.cons (JA T3) (.cons (ZA N8) (.cons (YM O8) (.cons (JA U5) (.cons (ZA V5) (.cons (YM G9) (.cons (JA H9) (.cons (JA I9) (.cons (JA J9) (.cons (YM K9) (.cons (JA L9) (.cons (JA h38) (.cons (JA h39) (.cons (JA h40) (.nil)))))))))))))))))))))))))))))))))))))))))
def zrG{cs:List V}{a:Al}(h:zdi cs=some a):OB cs (zgh a):=by
 unfold zdi at h;obtain⟨c0,cs,f0,rfl,h0,h⟩:=tA h;obtain⟨c1,cs,f1,rfl,h1,h⟩:=tA h;obtain⟨c2,cs,f2,rfl,h2,h⟩:=tA h;obtain⟨c3,cs,f3,rfl,h3,h⟩:=tA h;obtain⟨c4,cs,f4,rfl,h4,h⟩:=tA h;obtain⟨rfl,rfl⟩:=CD h;exact .cons (JA h0) (.cons (JA h1) (.cons (JA h2) (.cons (JA h3) (.cons (ZA h4) (.nil)))))
def zrB{cs:List V}{a:Ad}(h:zcZ cs=some a):OB cs (zgw a):=by
 unfold zcZ at h;obtain⟨c0,cs,f0,rfl,h0,h⟩:=tA h;obtain⟨c1,cs,f1,rfl,h1,h⟩:=tA h;obtain⟨c2,cs,f2,rfl,h2,h⟩:=tA h;obtain⟨c3,cs,f3,rfl,h3,h⟩:=tA h;obtain⟨c4,cs,f4,rfl,h4,h⟩:=tA h;obtain⟨c5,cs,f5,rfl,h5,h⟩:=tA h;obtain⟨c6,cs,f6,rfl,h6,h⟩:=tA h;obtain⟨c7,cs,f7,rfl,h7,h⟩:=tA h;obtain⟨c8,cs,f8,rfl,h8,h⟩:=tA h;obtain⟨c9,cs,f9,rfl,h9,h⟩:=tA h;obtain⟨ZF,cs,f10,rfl,gW,h⟩:=tA h;obtain⟨oG,cs,f11,rfl,rW,h⟩:=tA h;obtain⟨rfl,rfl⟩:=CD h;exact .cons (JA h0) (.cons (JA h1) (.cons (JA h2) (.cons (ZA h3) (.cons (ZA h4) (.cons (JA h5) (.cons (JA h6) (.cons (ZA h7) (.cons (ZA h8) (.cons (JA h9) (.cons (JA gW) (.cons (JA rW) (.nil))))))))))))
def zqF{cs:List V}{a:Aa}(h:zcv cs=some a):OB cs (zfQ a):=by
 unfold zcv at h;obtain⟨c0,cs,f0,rfl,h0,h⟩:=tA h;obtain⟨c1,cs,f1,rfl,h1,h⟩:=tA h;obtain⟨c2,cs,f2,rfl,h2,h⟩:=tA h;obtain⟨c3,cs,f3,rfl,h3,h⟩:=tA h;obtain⟨c4,cs,f4,rfl,h4,h⟩:=tA h;obtain⟨c5,cs,f5,rfl,h5,h⟩:=tA h;obtain⟨c6,cs,f6,rfl,h6,h⟩:=tA h;obtain⟨c7,cs,f7,rfl,h7,h⟩:=tA h;obtain⟨c8,cs,f8,rfl,h8,h⟩:=tA h;obtain⟨c9,cs,f9,rfl,h9,h⟩:=tA h;obtain⟨ZF,cs,f10,rfl,gW,h⟩:=tA h;obtain⟨oG,cs,f11,rfl,rW,h⟩:=tA h;obtain⟨MT,cs,f12,rfl,FW,h⟩:=tA h;obtain⟨c13,cs,f13,rfl,XW,h⟩:=tA h;obtain⟨rfl,rfl⟩:=CD h;exact .cons (JA h0) (.cons (ZA h1) (.cons (ZA h2) (.cons (ZA h3) (.cons (ZA h4) (.cons (JA h5) (.cons (JA h6) (.cons (ZA h7) (.cons (ZA h8) (.cons (ZA h9) (.cons (JA gW) (.cons (ZA rW) (.cons (ZA FW) (.cons (ZA XW) (.nil))))))))))))))
def zr4{cs:List V}{a:As}(h:zdG cs=some a):OB cs (zgP a):=by
 unfold zdG at h;obtain⟨c0,cs,f0,rfl,h0,h⟩:=tA h;obtain⟨c1,cs,f1,rfl,h1,h⟩:=tA h;obtain⟨c2,cs,f2,rfl,h2,h⟩:=tA h;obtain⟨rfl,rfl⟩:=CD h;exact .cons (ZA h0) (.cons (JA h1) (.cons (JA h2) (.nil)))
def zrM{cs:List V}{a:Aq}(h:zdA cs=some a):OB cs (zgY a):=by
 unfold zdA at h;obtain⟨c0,cs,f0,rfl,h0,h⟩:=tA h;obtain⟨c1,cs,f1,rfl,h1,h⟩:=tA h;obtain⟨c2,cs,f2,rfl,h2,h⟩:=tA h;obtain⟨c3,cs,f3,rfl,h3,h⟩:=tA h;obtain⟨c4,cs,f4,rfl,h4,h⟩:=tA h;obtain⟨c5,cs,f5,rfl,h5,h⟩:=tA h;obtain⟨c6,cs,f6,rfl,h6,h⟩:=tA h;obtain⟨c7,cs,f7,rfl,h7,h⟩:=tA h;obtain⟨c8,cs,f8,rfl,h8,h⟩:=tA h;obtain⟨c9,cs,f9,rfl,h9,h⟩:=tA h;obtain⟨ZF,cs,f10,rfl,gW,h⟩:=tA h;obtain⟨oG,cs,f11,rfl,rW,h⟩:=tA h;obtain⟨MT,cs,f12,rfl,FW,h⟩:=tA h;obtain⟨rfl,rfl⟩:=CD h;exact .cons (JA h0) (.cons (JA h1) (.cons (JA h2) (.cons (JA h3) (.cons (ZA h4) (.cons (ZA h5) (.cons (JA h6) (.cons (ZA h7) (.cons (ZA h8) (.cons (JA h9) (.cons (JA gW) (.cons (ZA rW) (.cons (ZA FW) (.nil)))))))))))))
def zrx{cs:List V}{a:Jf}(h:zc8 cs=some a):OB cs (zcS a):=by
 unfold zc8 at h;obtain⟨c0,cs,f0,rfl,h0,h⟩:=tA h;obtain⟨c1,cs,f1,rfl,h1,h⟩:=tA h;obtain⟨rfl,rfl⟩:=CD h;exact .cons (JA h0) (.cons (zlf h1) (.nil))
def zrb{cs:List V}{a:Bf}(h:zdq cs=some a):OB cs (zgi a):=by
 unfold zdq at h;obtain⟨c0,cs,f0,rfl,h0,h⟩:=tA h;obtain⟨c1,cs,f1,rfl,h1,h⟩:=tA h;obtain⟨c2,cs,f2,rfl,h2,h⟩:=tA h;obtain⟨rfl,rfl⟩:=CD h;exact .cons (ZA h0) (.cons (ZA h1) (.cons (JA h2) (.nil)))
def IF:(t:TN)→{cs:List V}→{a:El t}→iF t cs=some a→OB cs (enc t a)
 | .byte,cs,a,h=>by
  obtain⟨c0,cs,f0,rfl,h0,h⟩:=tA (show tk ET cs (λb cs=>fin cs b)=some a from h);obtain⟨rfl,rfl⟩:=CD h;exact .cons (zt6 h0) .nil
 | .int,cs,a,h=>by
  obtain⟨c0,cs,f0,rfl,h0,h⟩:=tA (show tk HA cs (λb cs=>fin cs b)=some a from h);obtain⟨rfl,rfl⟩:=CD h;exact .cons (JA h0) .nil
 | .bool,cs,a,h=>by
  obtain⟨c0,cs,f0,rfl,h0,h⟩:=tA (show tk cI cs (λb cs=>fin cs b)=some a from h);obtain⟨rfl,rfl⟩:=CD h;exact .cons (YM h0) .nil
 | .str,cs,a,h=>by
  obtain⟨c0,cs,f0,rfl,h0,h⟩:=tA (show tk sP cs (λb cs=>fin cs b)=some a from h);obtain⟨rfl,rfl⟩:=CD h;exact .cons (zlf h0) .nil
 | .bs,cs,a,h=>by
  obtain⟨c0,cs,f0,rfl,h0,h⟩:=tA (show tk (WA .byte) cs (λb cs=>fin cs b)=some a from h);obtain⟨rfl,rfl⟩:=CD h;exact .cons (ZA h0) .nil
 | .Addr,_,_,h=>zrp h
 | .Op,_,_,h=>zsS h
 | .Event,_,_,h=>zqP h
 | .Jar,_,_,h=>zr8 h
 | .Dice,_,_,h=>zrD h
 | .Win,_,_,h=>zrV h
 | .Ep,_,_,h=>ztc h
 | .Chan,_,_,h=>zrr h
 | .Cand,_,_,h=>zq6 h
 | .Paths,_,_,h=>zqy h
 | .Sess,_,_,h=>zq5 h
 | .Tab,_,_,h=>zso h
 | .Credit,_,_,h=>zqd h
 | .Server,_,_,h=>zpQ h
 | .Frame,_,_,h=>zqT h
 | .Timer,_,_,h=>zqM h
 | .Client,_,_,h=>zpH h
 | .Wire,_,_,h=>zrG h
 | .Note,_,_,h=>zrB h
 | .World,_,_,h=>zqF h
 | .Cur,_,_,h=>zr4 h
 | .Out,_,_,h=>zrM h
 | .Form,_,_,h=>zrx h
 | .Hash,_,_,h=>zrb h
def cD(t:TN)(a:El t):(enc t a).length=sz t:=by cases t<;>rfl
def UO(t:TN):0<sz t:=by cases t<;>simp[sz]
def V.leaf:V→Bool
 | .undef| .agg _| .tup _=>false
 | _=>true
def zkk(t:TN)(a:El t):(enc t a).all V.leaf=true:=by cases t<;>rfl
def TN.isAgg:TN→Bool
 | .byte| .int| .bool| .str| .bs=>false
 | _=>true
end Go.D
namespace Go.D
class iA where
 tn:TypeId→Option TN
 base:Nat
end Go.D
namespace Go.D
structure RI where
 b:Nat
 n:Nat
 cap:Nat
 nl:Bool
def LF[iA](w:World)(b:Nat)(t:TN):Prop:=∃c e z,w.heap[b]?=some (.cells c e z)∧iA.tn e=some t
def uE(k:IntKind)(n:Int):Prop:=k.min≤n∧n≤k.max
def at_(b o:Nat):Addr:=⟨b,o,none⟩
variable [iA]
inductive VR(w:World)(ρ:Nat→Option RI)(bad:Nat→Prop):Value→V→Prop where
 | undef (v:Value):VR w ρ bad v .undef
 | bool (b:Bool):VR w ρ bad (.bool b) (.bool b)
 | int (k:IntKind) (n:Int) (h:uE k n):VR w ρ bad (.int k n) (.int k n)
 | str (s:List UInt8) (h:s.length≤maxLen):VR w ρ bad (.string ⟨s.toArray⟩) (.str s)
 | nil:VR w ρ bad (.slice none 0 0) .nil
 | slE (t:TN) (a:Option Addr) (cap:Nat) (h:cap≤maxLen):VR w ρ bad (.slice a 0 cap) (.sl t [])
 | slC (t:TN) (l:List (El t)) (b off cap:Nat) (u:Nat→Nat→Value) (hb:¬bad b) (hl:l.length≤cap) (hc:cap≤maxLen) (he:l≠[]→b<iA.base∨LF w b t)
   (hu:∀i,i<l.length→∀j,j<sz t→w.cell? (at_ b (off+i *sz t+j))=some (u i j))
   (hv:∀i (h:i<l.length) j,j<sz t→VR w ρ bad (u i j) ((enc t l[i]).getD j .undef)):
   VR w ρ bad (.slice (some (at_ b off)) l.length cap) (.sl t l)
 | ow (r:Nat) (ri:RI) (h:ρ r=some ri) (hn:ri.n≤ri.cap) (hc:ri.cap≤maxLen) (UV:ri.nl=false):VR w ρ bad (.slice (some (at_ ri.b 0)) ri.n ri.cap) (.ow r)
 | owN (r:Nat) (ri:RI) (ao:Option Addr) (h:ρ r=some ri) (hn:ri.n=0) (UV:ri.nl=true):VR w ρ bad (.slice ao 0 0) (.ow r)
 | ov (r:Nat) (t:TN) (off len cap:Nat) (a:Option Addr) (ri:RI) (h:ρ r=some ri) (W5:off+len≤ri.n) (ha:len=0∧cap=0∨a=some (at_ ri.b (off *sz t))∧ri.nl=false∧off+cap≤ri.cap)
   (hl:len≤cap) (hc:cap≤maxLen):VR w ρ bad (.slice a len cap) (.ov r t off len)
 | bp (r off:Nat) (ri:RI) (h:ρ r=some ri) (UV:ri.nl=false):VR w ρ bad (.pointer (some (at_ ri.b off))) (.bp r off)
 | ep (r:Nat) (t:TN) (i off:Nat) (ri:RI) (h:ρ r=some ri) (UV:ri.nl=false):VR w ρ bad (.pointer (some (at_ ri.b (i *sz t+off)))) (.ep r t i off)
 | fp (cs:List V) (off b o:Nat) (u:Nat→Value) (h0:0<cs.length) (hb:¬bad b) (hu:∀j,j<cs.length→w.cell? (at_ b (o+j))=some (u j))
   (hv:∀j (h:j<cs.length),VR w ρ bad (u j) cs[j]):VR w ρ bad (.pointer (some (at_ b (o+off)))) (.fp cs off)
 | fn (f:Nat) (cs:List V) (caps:Array Value) (hs:caps.size=cs.length) (hv:∀j (h:j<cs.length),VR w ρ bad (caps.getD j undef) cs[j]):
   VR w ρ bad (.func (.func f) #[] caps) (.fn f cs)
 | agg (cs:List V) (vs:Array Value) (hs:vs.size=cs.length) (hv:∀j (h:j<cs.length),VR w ρ bad (vs.getD j undef) cs[j]):VR w ρ bad (.agg vs) (.agg cs)
 | tup (cs:List V) (vs:Array Value) (hs:vs.size=cs.length) (hv:∀j (h:j<cs.length),VR w ρ bad (vs.getD j undef) cs[j]):VR w ρ bad (.tuple vs) (.tup cs)
 | nili:VR w ρ bad .nilIface .nili
 | ifc (t:TypeId) (v:Value):VR w ρ bad (.iface t v) (.ifc false)
 | ifn:VR w ρ bad .nilIface (.ifc true)
inductive CB(S:Nat→Prop):V→Prop where
 | undef:CB S .undef
 | bool (b:Bool):CB S (.bool b)
 | int (k:IntKind) (n:Int):CB S (.int k n)
 | str (s:List UInt8):CB S (.str s)
 | nil:CB S .nil
 | sl (t:TN) (l:List (El t)) (h:∀i (h:i<l.length) j,j<sz t→CB S ((enc t l[i]).getD j .undef)):CB S (.sl t l)
 | ow (r:Nat) (h:S r):CB S (.ow r)
 | ov (r:Nat) (t:TN) (off len:Nat) (h:S r):CB S (.ov r t off len)
 | bp (r off:Nat) (h:S r):CB S (.bp r off)
 | ep (r:Nat) (t:TN) (i off:Nat) (h:S r):CB S (.ep r t i off)
 | fp (cs:List V) (off:Nat) (h:∀j (h:j<cs.length),CB S cs[j]):CB S (.fp cs off)
 | fn (f:Nat) (cs:List V) (h:∀j (h:j<cs.length),CB S cs[j]):CB S (.fn f cs)
 | agg (cs:List V) (h:∀j (h:j<cs.length),CB S cs[j]):CB S (.agg cs)
 | tup (cs:List V) (h:∀j (h:j<cs.length),CB S cs[j]):CB S (.tup cs)
 | nili:CB S .nili
 | ifc (b:Bool):CB S (.ifc b)
section
variable {w:World} {ρ:Nat→Option RI} {bad:Nat→Prop} {v:Value} {d:V}
def VR.refs(h:VR w ρ bad v d):CB (λr=>ρ r≠none) d:=by
 induction h with
 | undef=>exact .undef
 | bool=>exact .bool _
 | int=>exact .int _ _
 | str=>exact .str _
 | nil=>exact .nil
 | slE=>exact .sl _ _ (λi h=>by simp at h)
 | slC t l b off cap u hb hl hc he hu hv ih=>exact .sl _ _ ih
 | ow r ri h=>exact .ow _ (by simp[h])
 | owN r ri ao h=>exact .ow _ (by simp[h])
 | ov r t off len cap a ri h=>exact .ov _ _ _ _ (by simp[h])
 | bp r off ri h=>exact .bp _ _ (by simp[h])
 | ep r t i off ri h=>exact .ep _ _ _ _ (by simp[h])
 | fp cs off b o u h0 hb hu hv ih=>exact .fp _ _ ih
 | fn f cs caps hs hv ih=>exact .fn _ _ ih
 | agg cs vs hs hv ih=>exact .agg _ ih
 | tup cs vs hs hv ih=>exact .tup _ ih
 | nili=>exact .nili
 | ifc=>exact .ifc _
 | ifn=>exact .ifc _
omit [iA]in
def pV{w:World}{b o:Nat}{u:Value}(h:w.cell? (at_ b o)=some u):b<w.heap.size:=by
 rcases Nat.lt_or_ge b w.heap.size with h'|h'
 ·exact h'
 ·simp[World.cell?,at_,Array.getElem?_eq_none h']at h
omit [iA]in
def gK{w w':World}{b o:Nat}(h:w'.heap[b]?=w.heap[b]?):w'.cell? (at_ b o)=w.cell? (at_ b o):=by
 simp[World.cell?,at_,h]
def LF.same{w w':World}{b:Nat}{t:TN}(h:LF w b t)(hw:w'.heap[b]?=w.heap[b]?):LF w' b t:=by
 obtain⟨c,e,z,h1,h2⟩:=h;exact⟨c,e,z,hw.trans h1,h2⟩
def LF.uniq{w:World}{b:Nat}{t t':TN}(h:LF w b t)(h':LF w b t'):t=t':=by
 obtain⟨c,e,z,h1,h2⟩:=h;obtain⟨c',e',z',h1',h2'⟩:=h'
 grind
def VR.keep{w':World}{ρ':Nat→Option RI}{bad':Nat→Prop}{S:Nat→Prop}(h:VR w ρ bad v d)(hS:CB S d)
  (hρ:∀r ri,S r→ρ r=some ri→ρ' r=some ri)
  (hw:∀b,¬bad b→b<w.heap.size→w'.heap[b]?=w.heap[b]?) (hb:∀b,bad' b→bad b∨w.heap.size≤b):VR w' ρ' bad' v d:=by
 have YV:∀b,¬bad b→b<w.heap.size→¬bad' b:=λb h1 h2 h3=>(hb b h3).elim h1 (by omega);induction h with
 | undef=>exact .undef _
 | bool=>exact .bool _
 | int k n h=>exact .int _ _ h
 | str s h=>exact .str _ h
 | nil=>exact .nil
 | slE t a cap h=>exact .slE _ _ _ h
 | slC t l b off cap u hb hl hc he hu hv ih=>
  by_cases V1:l.length=0
  ·obtain rfl:l=[]:=List.eq_nil_of_length_eq_zero V1;exact .slE _ _ _ hc
  ·have FV:b<w.heap.size:=pV (hu 0 (by omega) 0 (UO t));cases hS with
   | sl _ _ hS=>
   exact .slC t l b off cap u (YV b hb FV) hl hc (λh0=>(he h0).imp id λk=>k.same (hw b hb FV)) (λi h j hj=>(gK (hw b hb FV)).trans (hu i h j hj)) (λi h j hj=>ih i h j hj (hS i h j hj))
 | ow r ri h hn hc UV=>cases hS with|ow _ hs=>exact .ow _ _ (hρ _ _ hs h) hn hc UV
 | owN r ri ao h hn UV=>cases hS with|ow _ hs=>exact .owN _ _ _ (hρ _ _ hs h) hn UV
 | ov r t off len cap a ri h W5 ha hl hc=>cases hS with|ov _ _ _ _ hs=>exact .ov _ _ _ _ _ _ _ (hρ _ _ hs h) W5 ha hl hc
 | bp r off ri h UV=>cases hS with|bp _ _ hs=>exact .bp _ _ _ (hρ _ _ hs h) UV
 | ep r t i off ri h UV=>cases hS with|ep _ _ _ _ hs=>exact .ep _ _ _ _ _ (hρ _ _ hs h) UV
 | fp cs off b o u h0 hb hu hv ih=>
  cases hS with
  | fp _ _ hS=>
  have FV:b<w.heap.size:=pV (hu 0 h0);exact .fp cs off b o u h0 (YV b hb FV) (λj hj=>(gK (hw b hb FV)).trans (hu j hj)) (λj hj=>ih j hj (hS j hj))
 | fn f cs caps hs hv ih=>cases hS with|fn _ _ hS=>exact .fn _ _ _ hs (λj hj=>ih j hj (hS j hj))
 | agg cs vs hs hv ih=>cases hS with|agg _ hS=>exact .agg _ _ hs (λj hj=>ih j hj (hS j hj))
 | tup cs vs hs hv ih=>cases hS with|tup _ hS=>exact .tup _ _ hs (λj hj=>ih j hj (hS j hj))
 | nili=>exact .nili
 | ifc=>exact .ifc _ _
 | ifn=>exact .ifn
def zT(w:World)(b:Nat):Prop:=∃o u,w.cell? (at_ b o)=some u
def VR.keep2{w':World}{ρ':Nat→Option RI}{bad':Nat→Prop}{S:Nat→Prop}(h:VR w ρ bad v d)(hS:CB S d)
  (hρ:∀r ri,S r→ρ r=some ri→ρ' r=some ri)
  (hw:∀b,¬bad b→zT w b→w'.heap[b]?=w.heap[b]?) (hb:∀b,zT w b→bad' b→bad b):VR w' ρ' bad' v d:=by
 have YV:∀b,¬bad b→zT w b→¬bad' b:=λb h1 h2 h3=>h1 (hb b h2 h3);induction h with
 | undef=>exact .undef _
 | bool=>exact .bool _
 | int k n h=>exact .int _ _ h
 | str s h=>exact .str _ h
 | nil=>exact .nil
 | slE t a cap h=>exact .slE _ _ _ h
 | slC t l b off cap u hb hl hc he hu hv ih=>
  by_cases V1:l.length=0
  ·obtain rfl:l=[]:=List.eq_nil_of_length_eq_zero V1;exact .slE _ _ _ hc
  ·have FV:zT w b:=⟨_,_,hu 0 (by omega) 0 (UO t)⟩;cases hS with
   | sl _ _ hS=>
   exact .slC t l b off cap u (YV b hb FV) hl hc (λh0=>(he h0).imp id λk=>k.same (hw b hb FV)) (λi h j hj=>(gK (hw b hb FV)).trans (hu i h j hj)) (λi h j hj=>ih i h j hj (hS i h j hj))
 | ow r ri h hn hc UV=>cases hS with|ow _ hs=>exact .ow _ _ (hρ _ _ hs h) hn hc UV
 | owN r ri ao h hn UV=>cases hS with|ow _ hs=>exact .owN _ _ _ (hρ _ _ hs h) hn UV
 | ov r t off len cap a ri h W5 ha hl hc=>cases hS with|ov _ _ _ _ hs=>exact .ov _ _ _ _ _ _ _ (hρ _ _ hs h) W5 ha hl hc
 | bp r off ri h UV=>cases hS with|bp _ _ hs=>exact .bp _ _ _ (hρ _ _ hs h) UV
 | ep r t i off ri h UV=>cases hS with|ep _ _ _ _ hs=>exact .ep _ _ _ _ _ (hρ _ _ hs h) UV
 | fp cs off b o u h0 hb hu hv ih=>
  cases hS with
  | fp _ _ hS=>
  have FV:zT w b:=⟨_,_,hu 0 h0⟩;exact .fp cs off b o u h0 (YV b hb FV) (λj hj=>(gK (hw b hb FV)).trans (hu j hj)) (λj hj=>ih j hj (hS j hj))
 | fn f cs caps hs hv ih=>cases hS with|fn _ _ hS=>exact .fn _ _ _ hs (λj hj=>ih j hj (hS j hj))
 | agg cs vs hs hv ih=>cases hS with|agg _ hS=>exact .agg _ _ hs (λj hj=>ih j hj (hS j hj))
 | tup cs vs hs hv ih=>cases hS with|tup _ hS=>exact .tup _ _ hs (λj hj=>ih j hj (hS j hj))
 | nili=>exact .nili
 | ifc=>exact .ifc _ _
 | ifn=>exact .ifn
omit [iA]in
def CB.all{S:Nat→Prop}{d:V}(hS:∀r,S r)(h:CB (λr=>ρ r≠none) d):CB S d:=by
 induction h with
 | undef=>exact .undef
 | bool=>exact .bool _
 | int=>exact .int _ _
 | str=>exact .str _
 | nil=>exact .nil
 | sl t l h ih=>exact .sl _ _ ih
 | ow r h=>exact .ow _ (hS _)
 | ov r t off len h=>exact .ov _ _ _ _ (hS _)
 | bp r off h=>exact .bp _ _ (hS _)
 | ep r t i off h=>exact .ep _ _ _ _ (hS _)
 | fp cs off h ih=>exact .fp _ _ ih
 | fn f cs h ih=>exact .fn _ _ ih
 | agg cs h ih=>exact .agg _ ih
 | tup cs h ih=>exact .tup _ ih
 | nili=>exact .nili
 | ifc=>exact .ifc _
def VR.mono{w':World}{ρ':Nat→Option RI}{bad':Nat→Prop}(h:VR w ρ bad v d)(hρ:∀r ri,ρ r=some ri→ρ' r=some ri)
  (hw:∀b,¬bad b→b<w.heap.size→w'.heap[b]?=w.heap[b]?) (hb:∀b,bad' b→bad b∨w.heap.size≤b):VR w' ρ' bad' v d:=
 h.keep (S:=λ_=>True) (CB.all (λ_=>trivial) h.refs) (λr ri _=>hρ r ri) hw hb
def VR.one(h:VR w ρ bad v d)(hd:d.leaf=true):v.oneCell'=true:=by
 cases h<;>first|rfl|simp[V.leaf]at hd
omit [iA]in
def zts(n:Int)(h:uE .u8 n):((UInt8.ofNat n.toNat).toNat:Int)=n:=by
 obtain⟨h1,h2⟩:=h;simp[IntKind.min,IntKind.max,IntKind.signed,IntKind.bits]at h1 h2;simp only[UInt8.toNat_ofNat'];omega
def VR.sub{c d:V}(hs:dI c d)(h:VR w ρ bad v c):VR w ρ bad v d:=by
 cases hs with
 | refl=>exact h
 | byte n=>cases h with|int _ _ hf=>rw[zts n hf];exact .int _ _ hf
 | nil t=>cases h;exact .slE _ _ _ (Nat.zero_le _)
end
end Go.D
namespace Go.D
def PB(S:Nat→Prop)(a:UInt8)(j:Nat):CB S ((enc .byte a).getD j .undef):=by
 match j with
 | 0=>exact .int _ _
 | n+1=>exact .undef
def uK(S:Nat→Prop)(a:Int)(j:Nat):CB S ((enc .int a).getD j .undef):=by
 match j with
 | 0=>exact .int _ _
 | n+1=>exact .undef
def zua(S:Nat→Prop)(a:Bool)(j:Nat):CB S ((enc .bool a).getD j .undef):=by
 match j with
 | 0=>exact .bool _
 | n+1=>exact .undef
def zvE(S:Nat→Prop)(a:List UInt8)(j:Nat):CB S ((enc .str a).getD j .undef):=by
 match j with
 | 0=>exact .str _
 | n+1=>exact .undef
def zdz(S:Nat→Prop)(a:List UInt8)(j:Nat):CB S ((enc .bs a).getD j .undef):=by
 match j with
 | 0=>exact .sl _ _ λi h j _=>PB S _ j
 | n+1=>exact .undef
def zuf(S:Nat→Prop)(a:Af)(j:Nat):CB S ((enc .Addr a).getD j .undef):=by
 match j with
 | 0=>exact .int _ _
 | 1=>exact .int _ _
 | n+2=>exact .undef
def zme(S:Nat→Prop)(a:Bb)(j:Nat):CB S ((enc .Op a).getD j .undef):=by
 match j with
 | 0=>exact .int _ _
 | 1=>exact .int _ _
 | 2=>exact .int _ _
 | 3=>exact .sl _ _ λi h j _=>PB S _ j
 | n+4=>exact .undef
def zs2(S:Nat→Prop)(a:Am)(j:Nat):CB S ((enc .Event a).getD j .undef):=by
 match j with
 | 0=>exact .int _ _
 | 1=>exact .int _ _
 | 2=>exact .int _ _
 | 3=>exact .int _ _
 | 4=>exact .sl _ _ λi h j _=>PB S _ j
 | 5=>exact .sl _ _ λi h j _=>zme S _ j
 | n+6=>exact .undef
def zvN(S:Nat→Prop)(a:Ay)(j:Nat):CB S ((enc .Jar a).getD j .undef):=by
 match j with
 | 0=>exact .sl _ _ λi h j _=>PB S _ j
 | n+1=>exact .undef
def zup(S:Nat→Prop)(a:Ar)(j:Nat):CB S ((enc .Dice a).getD j .undef):=by
 match j with
 | 0=>exact .sl _ _ λi h j _=>PB S _ j
 | 1=>exact .int _ _
 | n+2=>exact .undef
def zwa(S:Nat→Prop)(a:Ap)(j:Nat):CB S ((enc .Win a).getD j .undef):=by
 match j with
 | 0=>exact .int _ _
 | 1=>exact .sl _ _ λi h j _=>uK S _ j
 | n+2=>exact .undef
def zwC(S:Nat→Prop)(a:Av)(j:Nat):CB S ((enc .Ep a).getD j .undef):=by
 match j with
 | 0=>exact .int _ _
 | 1=>exact .sl _ _ λi h j _=>PB S _ j
 | 2=>exact .int _ _
 | 3=>exact .int _ _
 | 4=>exact .sl _ _ λi h j _=>uK S _ j
 | n+5=>exact .undef
def zuQ(S:Nat→Prop)(a:Aj)(j:Nat):CB S ((enc .Chan a).getD j .undef):=by
 match j with
 | 0=>exact .int _ _
 | 1=>exact .sl _ _ λi h j _=>PB S _ j
 | 2=>exact .int _ _
 | 3=>exact .sl _ _ λi h j _=>PB S _ j
 | 4=>exact .int _ _
 | 5=>exact .int _ _
 | 6=>exact .sl _ _ λi h j _=>uK S _ j
 | 7=>exact .int _ _
 | 8=>exact .sl _ _ λi h j _=>PB S _ j
 | 9=>exact .int _ _
 | 10=>exact .int _ _
 | 11=>exact .sl _ _ λi h j _=>uK S _ j
 | 12=>exact .bool _
 | 13=>exact .int _ _
 | 14=>exact .sl _ _ λi h j _=>PB S _ j
 | n+15=>exact .undef
def zf6(S:Nat→Prop)(a:Aw)(j:Nat):CB S ((enc .Cand a).getD j .undef):=by
 match j with
 | 0=>exact .int _ _
 | 1=>exact .int _ _
 | 2=>exact .sl _ _ λi h j _=>PB S _ j
 | 3=>exact .int _ _
 | n+4=>exact .undef
def ztl(S:Nat→Prop)(a:Ai)(j:Nat):CB S ((enc .Paths a).getD j .undef):=by
 match j with
 | 0=>exact .int _ _
 | 1=>exact .int _ _
 | 2=>exact .sl _ _ λi h j _=>zf6 S _ j
 | n+3=>exact .undef
def zcB(S:Nat→Prop)(a:Ah)(j:Nat):CB S ((enc .Sess a).getD j .undef):=by
 match j with
 | 0=>exact .int _ _
 | 1=>exact .sl _ _ λi h j _=>PB S _ j
 | 2=>exact .sl _ _ λi h j _=>PB S _ j
 | 3=>exact .int _ _
 | 4=>exact .sl _ _ λi h j _=>PB S _ j
 | 5=>exact .int _ _
 | 6=>exact .sl _ _ λi h j _=>PB S _ j
 | 7=>exact .int _ _
 | 8=>exact .int _ _
 | 9=>exact .sl _ _ λi h j _=>uK S _ j
 | 10=>exact .int _ _
 | 11=>exact .sl _ _ λi h j _=>PB S _ j
 | 12=>exact .int _ _
 | 13=>exact .int _ _
 | 14=>exact .sl _ _ λi h j _=>uK S _ j
 | 15=>exact .bool _
 | 16=>exact .int _ _
 | 17=>exact .sl _ _ λi h j _=>PB S _ j
 | 18=>exact .int _ _
 | 19=>exact .int _ _
 | 20=>exact .sl _ _ λi h j _=>zf6 S _ j
 | 21=>exact .int _ _
 | 22=>exact .int _ _
 | 23=>exact .bool _
 | n+24=>exact .undef
def zvu(S:Nat→Prop)(a:Ao)(j:Nat):CB S ((enc .Tab a).getD j .undef):=by
 match j with
 | 0=>exact .int _ _
 | 1=>exact .sl _ _ λi h j _=>zcB S _ j
 | n+2=>exact .undef
def zfr(S:Nat→Prop)(a:Ak)(j:Nat):CB S ((enc .Credit a).getD j .undef):=by
 match j with
 | 0=>exact .int _ _
 | 1=>exact .int _ _
 | 2=>exact .int _ _
 | 3=>exact .int _ _
 | n+4=>exact .undef
def zsm(S:Nat→Prop)(a:Ac)(j:Nat):CB S ((enc .Server a).getD j .undef):=by
 match j with
 | 0=>exact .sl _ _ λi h j _=>zdz S _ j
 | 1=>exact .sl _ _ λi h j _=>PB S _ j
 | 2=>exact .sl _ _ λi h j _=>PB S _ j
 | 3=>exact .int _ _
 | 4=>exact .int _ _
 | 5=>exact .sl _ _ λi h j _=>zcB S _ j
 | 6=>exact .sl _ _ λi h j _=>zfr S _ j
 | n+7=>exact .undef
def zsA(S:Nat→Prop)(a:Ab)(j:Nat):CB S ((enc .Frame a).getD j .undef):=by
 match j with
 | 0=>exact .int _ _
 | 1=>exact .int _ _
 | 2=>exact .sl _ _ λi h j _=>PB S _ j
 | 3=>exact .sl _ _ λi h j _=>PB S _ j
 | 4=>exact .int _ _
 | 5=>exact .sl _ _ λi h j _=>PB S _ j
 | 6=>exact .sl _ _ λi h j _=>PB S _ j
 | 7=>exact .int _ _
 | 8=>exact .int _ _
 | 9=>exact .sl _ _ λi h j _=>PB S _ j
 | 10=>exact .sl _ _ λi h j _=>PB S _ j
 | n+11=>exact .undef
def zty(S:Nat→Prop)(a:Au)(j:Nat):CB S ((enc .Timer a).getD j .undef):=by
 match j with
 | 0=>exact .bool _
 | 1=>exact .int _ _
 | 2=>exact .int _ _
 | 3=>exact .int _ _
 | n+4=>exact .undef
def zjp(S:Nat→Prop)(a:Ae)(j:Nat):CB S ((enc .Client a).getD j .undef):=by
 match j with
 | 0=>exact .int _ _
 | 1=>exact .sl _ _ λi h j _=>PB S _ j
 | 2=>exact .int _ _
 | 3=>exact .int _ _
 | 4=>exact .int _ _
 | 5=>exact .sl _ _ λi h j _=>PB S _ j
 | 6=>exact .int _ _
 | 7=>exact .int _ _
 | 8=>exact .sl _ _ λi h j _=>PB S _ j
 | 9=>exact .sl _ _ λi h j _=>PB S _ j
 | 10=>exact .int _ _
 | 11=>exact .sl _ _ λi h j _=>PB S _ j
 | 12=>exact .sl _ _ λi h j _=>PB S _ j
 | 13=>exact .int _ _
 | 14=>exact .int _ _
 | 15=>exact .sl _ _ λi h j _=>PB S _ j
 | 16=>exact .sl _ _ λi h j _=>PB S _ j
 | 17=>exact .int _ _
 | 18=>exact .sl _ _ λi h j _=>PB S _ j
 | 19=>exact .int _ _
 | 20=>exact .sl _ _ λi h j _=>PB S _ j
 | 21=>exact .int _ _
 | 22=>exact .int _ _
 | 23=>exact .sl _ _ λi h j _=>uK S _ j
 | 24=>exact .int _ _
 | 25=>exact .sl _ _ λi h j _=>PB S _ j
 | 26=>exact .int _ _
 | 27=>exact .int _ _
 | 28=>exact .sl _ _ λi h j _=>uK S _ j
 | 29=>exact .bool _
 | 30=>exact .int _ _
 | 31=>exact .sl _ _ λi h j _=>PB S _ j
 | 32=>exact .bool _
 | 33=>exact .int _ _
 | 34=>exact .int _ _
 | 35=>exact .int _ _
 | 36=>exact .bool _
 | 37=>exact .int _ _
 | 38=>exact .int _ _
 | 39=>exact .int _ _
 | 40=>exact .int _ _
 | n+41=>exact .undef
def zk1(S:Nat→Prop)(a:Al)(j:Nat):CB S ((enc .Wire a).getD j .undef):=by
 match j with
 | 0=>exact .int _ _
 | 1=>exact .int _ _
 | 2=>exact .int _ _
 | 3=>exact .int _ _
 | 4=>exact .sl _ _ λi h j _=>PB S _ j
 | n+5=>exact .undef
def zks(S:Nat→Prop)(a:Ad)(j:Nat):CB S ((enc .Note a).getD j .undef):=by
 match j with
 | 0=>exact .int _ _
 | 1=>exact .int _ _
 | 2=>exact .int _ _
 | 3=>exact .sl _ _ λi h j _=>PB S _ j
 | 4=>exact .sl _ _ λi h j _=>PB S _ j
 | 5=>exact .int _ _
 | 6=>exact .int _ _
 | 7=>exact .sl _ _ λi h j _=>PB S _ j
 | 8=>exact .sl _ _ λi h j _=>PB S _ j
 | 9=>exact .int _ _
 | 10=>exact .int _ _
 | 11=>exact .int _ _
 | n+12=>exact .undef
def zsW(S:Nat→Prop)(a:Aa)(j:Nat):CB S ((enc .World a).getD j .undef):=by
 match j with
 | 0=>exact .int _ _
 | 1=>exact .sl _ _ λi h j _=>zjp S _ j
 | 2=>exact .sl _ _ λi h j _=>zdz S _ j
 | 3=>exact .sl _ _ λi h j _=>PB S _ j
 | 4=>exact .sl _ _ λi h j _=>PB S _ j
 | 5=>exact .int _ _
 | 6=>exact .int _ _
 | 7=>exact .sl _ _ λi h j _=>zcB S _ j
 | 8=>exact .sl _ _ λi h j _=>zfr S _ j
 | 9=>exact .sl _ _ λi h j _=>PB S _ j
 | 10=>exact .int _ _
 | 11=>exact .sl _ _ λi h j _=>zk1 S _ j
 | 12=>exact .sl _ _ λi h j _=>zdz S _ j
 | 13=>exact .sl _ _ λi h j _=>zks S _ j
 | n+14=>exact .undef
def zwr(S:Nat→Prop)(a:As)(j:Nat):CB S ((enc .Cur a).getD j .undef):=by
 match j with
 | 0=>exact .sl _ _ λi h j _=>PB S _ j
 | 1=>exact .int _ _
 | 2=>exact .int _ _
 | n+3=>exact .undef
def zva(S:Nat→Prop)(a:Aq)(j:Nat):CB S ((enc .Out a).getD j .undef):=by
 match j with
 | 0=>exact .int _ _
 | 1=>exact .int _ _
 | 2=>exact .int _ _
 | 3=>exact .int _ _
 | 4=>exact .sl _ _ λi h j _=>PB S _ j
 | 5=>exact .sl _ _ λi h j _=>PB S _ j
 | 6=>exact .int _ _
 | 7=>exact .sl _ _ λi h j _=>PB S _ j
 | 8=>exact .sl _ _ λi h j _=>PB S _ j
 | 9=>exact .int _ _
 | 10=>exact .int _ _
 | 11=>exact .sl _ _ λi h j _=>PB S _ j
 | 12=>exact .sl _ _ λi h j _=>PB S _ j
 | n+13=>exact .undef
def ztJ(S:Nat→Prop)(a:Jf)(j:Nat):CB S ((enc .Form a).getD j .undef):=by
 match j with
 | 0=>exact .int _ _
 | 1=>exact .str _
 | n+2=>exact .undef
def zuR(S:Nat→Prop)(a:Bf)(j:Nat):CB S ((enc .Hash a).getD j .undef):=by
 match j with
 | 0=>exact .sl _ _ λi h j _=>uK S _ j
 | 1=>exact .sl _ _ λi h j _=>PB S _ j
 | 2=>exact .int _ _
 | n+3=>exact .undef
def WM(S:Nat→Prop)(t:TN)(a:El t)(j:Nat):CB S ((enc t a).getD j .undef):=by
 cases t with
 | byte=>exact PB S a j
 | int=>exact uK S a j
 | bool=>exact zua S a j
 | str=>exact zvE S a j
 | bs=>exact zdz S a j
 | Addr=>exact zuf S a j
 | Op=>exact zme S a j
 | Event=>exact zs2 S a j
 | Jar=>exact zvN S a j
 | Dice=>exact zup S a j
 | Win=>exact zwa S a j
 | Ep=>exact zwC S a j
 | Chan=>exact zuQ S a j
 | Cand=>exact zf6 S a j
 | Paths=>exact ztl S a j
 | Sess=>exact zcB S a j
 | Tab=>exact zvu S a j
 | Credit=>exact zfr S a j
 | Server=>exact zsm S a j
 | Frame=>exact zsA S a j
 | Timer=>exact zty S a j
 | Client=>exact zjp S a j
 | Wire=>exact zk1 S a j
 | Note=>exact zks S a j
 | World=>exact zsW S a j
 | Cur=>exact zwr S a j
 | Out=>exact zva S a j
 | Form=>exact ztJ S a j
 | Hash=>exact zuR S a j
end Go.D
