/-
 Sizes of the program's data.
-/
import Derived.Test.YtfealdecpglcnaaGreatN2
set_option linter.all false
namespace Go.D
instance:Wt Al:=⟨λx=>wt x.A⟩
instance:Wt Aa:=⟨λx=>wt x.Cn+wt x.Sn+wt x.Cookie+wt x.Proof+wt x.Body+wt x.Tag⟩
def uH(x:Aa):wt x=wt x.Cn+wt x.Sn+wt x.Cookie+wt x.Proof+wt x.Body+wt x.Tag:=rfl
instance:Wt Av:=⟨λ_=>0⟩
def zcr(x:Av):wt x=0:=rfl
instance:Wt Ad:=⟨λx=>wt x.Psk+wt x.At+wt x.Cn+wt x.Fin+wt x.C+wt x.T+wt x.R⟩
def cM(x:Ad):wt x=wt x.Psk+wt x.At+wt x.Cn+wt x.Fin+wt x.C+wt x.T+wt x.R:=rfl
instance:Wt Ba:=⟨λx=>wt x.Secret⟩
def KS(x:Ba):wt x=wt x.Secret:=rfl
instance:Wt Ax:=⟨λx=>wt x.Seed⟩
def LI(x:Ax):wt x=wt x.Seed:=rfl
instance:Wt Az:=⟨λx=>wt x.A+wt x.Draw⟩
def lV(x:Az):wt x=wt x.A+wt x.Draw:=rfl
instance:Wt Aj:=⟨λx=>wt x.At+wt x.Cands⟩
def II(x:Aj):wt x=wt x.At+wt x.Cands:=rfl
instance:Wt Ah:=⟨λx=>wt x.Cn+wt x.Sn+wt x.C+wt x.P⟩
def VK(x:Ah):wt x=wt x.Cn+wt x.Sn+wt x.C+wt x.P:=rfl
instance:Wt Ao:=⟨λx=>wt x.L⟩
def XI(x:Ao):wt x=wt x.L:=rfl
instance:Wt Ac:=⟨λx=>wt x.Psks+wt x.J+wt x.D+wt x.T+wt x.Cr⟩
def UL(x:Ac):wt x=wt x.Psks+wt x.J+wt x.D+wt x.T+wt x.Cr:=rfl
instance:Wt Am:=⟨λx=>wt x.From+wt x.To+wt x.B⟩
def kV(x:Am):wt x=wt x.From+wt x.To+wt x.B:=rfl
instance:Wt Ab:=⟨λx=>wt x.Clients+wt x.S+wt x.D+wt x.Seen+wt x.Known+wt x.Notes⟩
def KI(x:Ab):wt x=wt x.Clients+wt x.S+wt x.D+wt x.Seen+wt x.Known+wt x.Notes:=rfl
end Go.D
namespace Go.D
noncomputable section
def KB(i:Int):Ai:=if 0≤i∧i≤255 then⟨167772160+i,7000+i⟩else⟨0,0⟩
def tE:Ai:=KB 0
def PB(a b:Ai):Bool:=a.Host==b.Host&&a.Port==b.Port
def CE(n k:Int):Bool:=n==0||n==k
def uD(b:List UInt8)(n:Int):Bool:=CE (b.length:Int) n
def tC(n:Ae):Bool:=eA n.Kind 1 17&&eA n.Id 0 9&&eA n.Role 0 1&&uD n.Cn 12&&uD n.Sn 12&&eA n.Epoch 0 4294967295&&eA n.Seq 0 281474976710655&&decide ((n.Body.length:Int)≤100)&&uD n.Key 32&&MA n.A&&eA n.Now 0 1000000
def gO(w:Ab)(a:Ai):Int:=bif PB a tE then 0 else match w.Clients.find? λc=>PB c.At a with
 | some c=>c.Id
 | none=> -1
def SK(w:Ab)(a:Ai):Option Int:=pt (wt w≤bA) (gO w a)
def dF(j:Ba):Bool:=(j.Secret.length:Int)==32
def BC(d:Ax):Bool:=eA (d.Seed.length:Int) 1 32&&eA d.N 0 10000
def live(t:Ao):Int:=t.L.foldl (λs e=>bif e.Dead then s else iA .i64 s 1) 0
def bJ(t:Ao):Option Int:=pt (wt t≤bA) (live t)
def rC(c:Ak):Bool:=c.Role==0&&(c.Sn.length:Int)==0&&MF c.Cur&&MF c.Old&&!c.HasOld&&c.Until==0&&(c.Next.length:Int)==0
def bO(c:Ak):Option Bool:=pt (wt c≤bA) (rC c)
def eO(p:Aj)(i:Nat):Bool:=(p.Cands[i]?).any λe=>!MA e.A||!oA e.Draw||!eA e.Until 0 1000006||PB e.A p.At||FB i λj=>(p.Cands[j]?).any λd=>PB d.A e.A
def qC(p:Aj):Bool:=MA p.At&&decide ((p.Cands.length:Int)≤3)&&!(FB p.Cands.length (eO p))
def uC(s:Ah):Bool:=eA s.Id 1 9&&oA s.Cn&&oA s.Sn&&eA s.Tick 0 1000000&&bif s.Dead then rC s.C&&PB s.P.At ⟨0,0⟩&&(s.P.Cands.length:Int)==0&&s.Last==0
 else xC s.C&&s.C.Role==1&&s.C.Sn==s.Sn&&qC s.P&&eA s.Last 0 1000000
def FD(s:Ah):Option Bool:=pt (wt s≤bA) (uC s)
def lG(t:Ao)(b:List UInt8)(i:Nat):Bool:=(t.L[i]?).any λe=>e.Sn==b
def JE(t:Ao)(b:List UInt8):Int:=AH t.L.length (lG t b)
def ED(t:Ao)(b:List UInt8):Option Int:=pt (wt t≤bA∧wt b≤bA) (JE t b)
def XK(t:Ao)(i:Nat):Bool:=(t.L[i]?).any λe=>!uC e||FB i (lG t e.Sn)
def UC(t:Ao):Bool:=eA t.Cap 1 6&&decide ((t.L.length:Int)≤12)&&decide (live t≤t.Cap)&&!(FB t.L.length (XK t))
def iG(t:Ao):Option Bool:=pt (wt t≤bA) (UC t)
def JG(l:List Al)(a:Ai)(i:Nat):Bool:=(l[i]?).any λc=>PB c.A a
def qB(l:List Al)(a:Ai):Int:=AH l.length (JG l a)
def DR(l:List Al)(i:Nat):Bool:=(l[i]?).any λc=>!MA c.A||!eA c.Got 0 1000000||!eA c.Sent 0 (YB .i64 3 c.Got)||FB i (JG l c.A)
def gD(l:List Al):Bool:=decide ((l.length:Int)≤8)&&!(FB l.length (DR l))
def CC(b:List UInt8):Bool:=eA (b.length:Int) 1 32
def fC(s:Ac):Bool:=eA (s.Psks.length:Int) 1 9&&dF s.J&&BC s.D&&UC s.T&&gD s.Cr&&!(s.Psks.any λb=>!CC b)&&!(s.T.L.any λe=>decide (e.Id>(s.Psks.length:Int)))
def GC(s:Ac):Option Bool:=pt (wt s≤bA) (fC s)
def LC(w:Am):Bool:=MA w.From&&MA w.To&&decide ((w.B.length:Int)≤200)
def WD(l:List Am):Bool:=!(l.any λw=>!LC w)&&decide ((l.length:Int)≤90)
def NJ(f g:Aa):Bool:=f.Kind==g.Kind&&f.Id==g.Id&&f.Tick==g.Tick&&f.Epoch==g.Epoch&&f.Seq==g.Seq&&f.Cn==g.Cn&&f.Sn==g.Sn&&f.Cookie==g.Cookie&&f.Proof==g.Proof&&f.Body==g.Body&&f.Tag==g.Tag
def yN(f g:Aa):Option Bool:=pt (wt f≤bA∧wt g≤bA) (NJ f g)
def yF(t:Av):Bool:=t.On==false&&t.Due==0&&t.Wait==0&&t.Tries==0
def qD(t:Av):Bool:=bif t.On then eA t.Due 0 1000008&&(t.Wait==1||t.Wait==2||t.Wait==4||t.Wait==8)&&eA t.Tries 1 5 else yF t
def zF(f:Aa):Bool:=f.Kind==0&&f.Id==0&&(f.Cn.length:Int)==0&&(f.Sn.length:Int)==0&&f.Tick==0&&(f.Cookie.length:Int)==0&&(f.Proof.length:Int)==0&&f.Epoch==0&&f.Seq==0&&(f.Body.length:Int)==0&&(f.Tag.length:Int)==0
def gC(k:Int):Bool:=eA k 4 8
def VF(k n:Int):Bool:=bif k==4 then decide (n≤40)else bif k==5||k==6 then n==12 else n==4
def wB(f:Aa):Bool:=
 bif gC f.Kind then f.Id==0&&(f.Cn.length:Int)==0&&(f.Sn.length:Int)==12&&f.Tick==0&&(f.Cookie.length:Int)==0&&(f.Proof.length:Int)==0&&eA f.Epoch 0 4294967295&&eA f.Seq 0 281474976710655&&VF f.Kind (f.Body.length:Int)&&(f.Tag.length:Int)==16
 else f.Epoch==0&&f.Seq==0&&(f.Body.length:Int)==0&&(f.Tag.length:Int)==0&&(f.Cn.length:Int)==12&&
  bif f.Kind==1 then eA f.Id 1 9&&(f.Sn.length:Int)==0&&f.Tick==0&&(f.Cookie.length:Int)==0&&(f.Proof.length:Int)==0
  else bif f.Kind==2 then f.Id==0&&(f.Sn.length:Int)==12&&eA f.Tick 0 1000000&&(f.Cookie.length:Int)==16&&(f.Proof.length:Int)==0
  else f.Kind==3&&eA f.Id 1 9&&(f.Sn.length:Int)==12&&eA f.Tick 0 1000000&&(f.Cookie.length:Int)==16&&(f.Proof.length:Int)==16
def TC(f:Aa):Option Bool:=pt (wt f≤bA) (wB f)
def UJ(c:Ad):Bool:=oA c.Cn&&c.Fin.Kind==3&&wB c.Fin&&c.Fin.Id==c.Id&&c.Fin.Cn==c.Cn&&xC c.C&&c.C.Role==0&&c.C.Sn==c.Fin.Sn&&c.C.Cur.N==0&&!c.C.HasOld&&(c.C.Next.length:Int)==0
def zb8(c:Ad):Option Bool:=pt (wt c≤bA) (UJ c)
def aC(c:Ad):Bool:=eA c.Id 1 9&&CC c.Psk&&MA c.At&&
 bif c.St==0 then(c.Cn.length:Int)==0&&zF c.Fin&&rC c.C&&yF c.T&&yF c.R&&c.Last==0
 else bif c.St==1 then oA c.Cn&&zF c.Fin&&rC c.C&&c.T.On&&qD c.T&&yF c.R&&c.Last==0
 else bif c.St==2 then UJ c&&c.T.On&&qD c.T&&yF c.R&&c.Last==0
 else c.St==3&&oA c.Cn&&zF c.Fin&&xC c.C&&c.C.Role==0&&yF c.T&&qD c.R&&c.R.On==decide ((c.C.Next.length:Int)>0)&&eA c.Last 0 1000000
def ID(c:Ad):Option Bool:=pt (wt c≤bA) (aC c)
def TH(w:Ab)(i:Nat):Bool:=(w.Clients[i]?).any λc=>(w.S.Psks[i]?).any λp=>!aC c||c.Id !=((i+1:Nat):Int)||!(c.Psk==p)
def oB(w:Ab):Bool:=eA w.Now 0 1000000&&(w.Clients.length:Int)==2&&fC w.S&&(w.S.Psks.length:Int)==2&&BC w.D&&WD w.Seen&&decide ((w.Known.length:Int)≤12)&&
 !(FB 2 (TH w))&&!(w.Known.any λb=>(b.length:Int) !=32)&&!(w.Notes.any λn=>!tC n)
def bE(w:Ab):Option Bool:=pt (wt w≤bA) (oB w)
def zmM:Aw:=⟨0,[],0,⟨0,[]⟩⟩
end
end Go.D
namespace Go.D
open Option renaming bind→ob
noncomputable section
def Pa(a0:Int)(a1:Int):=
 aA (λ(y1:Bool)=>
 some y1) λk2=>
 cond (a0==0)
 (k2 true)
 (k2 (a0==a1))
def Qo(a0:Ai):=
 aA (λ(y1:Bool)=>
 some y1) λk2=>
 cond ((eA a0.Host 0 4294967295))
 (k2 (eA a0.Port 0 65535))
 (k2 false)
def Lc(a0:Ae):=
 aA (λ(y1:Bool)=>
 some y1) λk2=>
 cond ((eA a0.Kind 1 17))
 (cond ((eA a0.Id 0 9))
 (cond ((eA a0.Role 0 1))
 (cond ((CE (a0.Cn.length:Int) 12))
 (cond ((CE (a0.Sn.length:Int) 12))
 (cond ((eA a0.Epoch 0 4294967295))
 (cond ((eA a0.Seq 0 281474976710655))
 (cond (decide ((a0.Body.length:Int)≤100))
 (cond ((CE (a0.Key.length:Int) 32))
 (cond ((MA a0.A))
 (k2 (eA a0.Now 0 1000000))
 (k2 false))
 (k2 false))
 (k2 false))
 (k2 false))
 (k2 false))
 (k2 false))
 (k2 false))
 (k2 false))
 (k2 false))
 (k2 false)
def Pb(a0:List UInt8)(a1:Int):=
 aA (λ(y1:Bool)=>
 some y1) λk2=>
 cond ((a0.length:Int)==0)
 (k2 true)
 (k2 ((a0.length:Int)==a1))
def Qp(a0:Ai):=
 aA (λ(y1:Bool)=>
 some y1) λk2=>
 cond ((eA a0.Host 0 4294967295))
 (k2 (eA a0.Port 0 65535))
 (k2 false)
def Ld(a0:Ae):=
 aA (λ(y1:Bool)=>
 some y1) λk2=>
 cond ((eA a0.Kind 1 17))
 (cond ((eA a0.Id 0 9))
 (cond ((eA a0.Role 0 1))
 (cond ((eA a0.Epoch 0 4294967295))
 (cond ((eA a0.Seq 0 281474976710655))
 (cond ((eA a0.Now 0 1000000))
 (cond ((uD a0.Cn 12))
 (cond ((uD a0.Sn 12))
 (cond (decide ((a0.Body.length:Int)≤100))
 (cond ((uD a0.Key 32))
 (k2 (MA a0.A))
 (k2 false))
 (k2 false))
 (k2 false))
 (k2 false))
 (k2 false))
 (k2 false))
 (k2 false))
 (k2 false))
 (k2 false))
 (k2 false)
def Qq(a0:Int):=
 cond (!(eA a0 0 255))
 (some (⟨0,0⟩:Ai))
 (some (⟨iA .i64 167772160 a0,iA .i64 7000 a0⟩:Ai))
def Qr:=
 let r1:Ai:=KB 0
 some r1
def Le(a0:Ab)(a1:Ai):=
 let r1:Ai:=tE;let x2:Bool:=cond (a1.Host==r1.Host) (cond (a1.Port==r1.Port) (true) false) false
 cond (x2)
 (some 0)
 (aA (λ(y3:Unit)=>
 some (-1)) λk4=>
 qA FU (λ(x5:Int) k6=>
 cond (decide (x5<(a0.Clients.length:Int)))
 (ob (kA a0.Clients x5) λe7=>
 let x8:Bool:=cond (e7.At.Host==a1.Host) (cond (e7.At.Port==a1.Port) (true) false) false
 cond (x8)
 (ob (kA a0.Clients x5) λe9=>
 some e9.Id)
 (k6 (iA .i64 x5 1)))
 (k4 ())) 0)
def Qs(a0:Int):=
 cond (!(eA a0 0 255))
 (some (⟨0,0⟩:Ai))
 (some (⟨iA .i64 167772160 a0,iA .i64 7000 a0⟩:Ai))
def Qt:=
 let r1:Ai:=KB 0
 some r1
def Lf(a0:Ab)(a1:Ai):=
 let r1:Ai:=tE;let x2:Bool:=cond (a1.Host==r1.Host) (cond (a1.Port==r1.Port) (true) false) false
 cond (x2)
 (some 0)
 (aA (λ(y3:Unit)=>
 some (-1)) λk4=>
 qA FU (λ(x5:Int) k6=>
 cond (decide (x5<(a0.Clients.length:Int)))
 (ob (kA a0.Clients x5) λe7=>
 let x8:Bool:=cond (e7.At.Host==a1.Host) (cond (e7.At.Port==a1.Port) (true) false) false
 cond (x8)
 (some e7.Id)
 (k6 (iA .i64 x5 1)))
 (k4 ())) 0)
def Qu(a0:Ax):=
 aA (λ(y1:Bool)=>
 some y1) λk2=>
 let r3:Bool:=eA (a0.Seed.length:Int) 1 32
 cond (r3)
 (k2 (eA a0.N 0 10000))
 (k2 false)
def Qv(a0:Ba):=
 some ((a0.Secret.length:Int)==32)
def Qw(a0:Ao):=
 aA (λ(y1:Int)=>
 some y1) λk2=>
 qA FU (λ(x3:Int×Int) k4=>
 cond (decide (x3.2<(a0.L.length:Int)))
 (ob (kA a0.L x3.2) λe5=>
 aA (λ(y6:Int)=>
 k4 (y6,(iA .i64 x3.2 1))) λk7=>
 cond (!e5.Dead)
 (k7 (iA .i64 x3.1 1))
 (k7 x3.1))
 (k2 x3.1)) (0,0)
def Lg(a0:Ak):=
 aA (λ(y1:Bool)=>
 some y1) λk2=>
 cond (a0.Role==0)
 (cond ((a0.Sn.length:Int)==0)
 (ob (fO a0.Cur (⟨0,[],0,(⟨0,[]⟩:Ap)⟩:Aw)) λr3=>
 cond (r3)
 (ob (fO a0.Old (⟨0,[],0,(⟨0,[]⟩:Ap)⟩:Aw)) λr4=>
 cond (r4)
 (cond (!a0.HasOld)
 (cond (a0.Until==0)
 (k2 ((a0.Next.length:Int)==0))
 (k2 false))
 (k2 false))
 (k2 false))
 (k2 false))
 (k2 false))
 (k2 false)
def Lh(a0:Aj):=
 aA (λy1=>
 cond (y1)
 (some false)
 (aA (λ(y3:Unit)=>
 some true) λk4=>
 qA FU (λ(x5:Int) k6=>
 cond (decide (x5<(a0.Cands.length:Int)))
 (ob (kA a0.Cands x5) λe7=>
 aA (λy8=>
 cond (y8)
 (some false)
 (cond (decide (0≤(0:Int))&&decide ((0:Int)≤x5)&&decide (x5≤(a0.Cands.length:Int))) (let l11:List Az:=List.take ((x5 - 0).toNat) (List.drop 0 a0.Cands)
 aA (λ(y12:Unit)=>
 k6 (iA .i64 x5 1)) λk13=>
 qA FU (λ(x14:Int) k15=>
 cond (decide (x14<(l11.length:Int)))
 (ob (kA l11 x14) λe16=>
 let x17:Bool:=cond (e16.A.Host==e7.A.Host) (cond (e16.A.Port==e7.A.Port) (true) false) false
 cond (x17)
 (some false)
 (k15 (iA .i64 x14 1)))
 (k13 ())) 0) none)) λk9=>
 cond (!(MA e7.A))
 (k9 true)
 (let x10:Bool:=cond (e7.A.Host==a0.At.Host) (cond (e7.A.Port==a0.At.Port) (true) false) false
 cond (x10)
 (k9 true)
 (cond (!(oA e7.Draw))
 (k9 true)
 (k9 (!(eA e7.Until 0 1000006))))))
 (k4 ())) 0)) λk2=>
 cond (!(MA a0.At))
 (k2 true)
 (k2 (decide ((a0.Cands.length:Int)>3)))
def Li(a0:Ah):=
 aA (λy1=>
 cond (y1)
 (some false)
 (cond (a0.Dead)
 (aA (λ(y3:Bool)=>
 some y3) λk4=>
 ob (bO a0.C) λr5=>
 cond (r5)
 (let x6:Bool:=cond (a0.P.At.Host==0) (cond (a0.P.At.Port==0) (true) false) false
 cond (x6)
 (cond ((a0.P.Cands.length:Int)==0)
 (k4 (a0.Last==0))
 (k4 false))
 (k4 false))
 (k4 false))
 (aA (λ(y7:Bool)=>
 some y7) λk8=>
 ob (sC a0.C) λr9=>
 cond (r9)
 (cond (a0.C.Role==1)
 (ob (BB a0.C.Sn a0.Sn) λr10=>
 cond (r10)
 (cond ((qC a0.P))
 (k8 (eA a0.Last 0 1000000))
 (k8 false))
 (k8 false))
 (k8 false))
 (k8 false)))) λk2=>
 cond (!(eA a0.Id 1 9))
 (k2 true)
 (cond (!(oA a0.Cn))
 (k2 true)
 (cond (!(oA a0.Sn))
 (k2 true)
 (k2 (!(eA a0.Tick 0 1000000)))))
def Qx(a0:Ao)(a1:List UInt8):=
 aA (λ(y1:Unit)=>
 some (-1)) λk2=>
 qA FU (λ(x3:Int) k4=>
 cond (decide (x3<(a0.L.length:Int)))
 (ob (kA a0.L x3) λe5=>
 ob (BB e5.Sn a1) λr6=>
 cond (r6)
 (some x3)
 (k4 (iA .i64 x3 1)))
 (k2 ())) 0
def Lj(a0:Ao):=
 aA (λy1=>
 cond (y1)
 (some false)
 (aA (λ(y4:Unit)=>
 some true) λk5=>
 qA FU (λ(x6:Int) k7=>
 cond (decide (x6<(a0.L.length:Int)))
 (ob (kA a0.L x6) λe8=>
 aA (λy9=>
 cond (y9)
 (some false)
 (k7 (iA .i64 x6 1))) λk10=>
 ob (FD e8) λr11=>
 cond (!r11)
 (k10 true)
 (ob (ED a0 e8.Sn) λr12=>
 k10 (decide (r12<x6))))
 (k5 ())) 0)) λk2=>
 cond (!(eA a0.Cap 1 6))
 (k2 true)
 (cond (decide ((a0.L.length:Int)>12))
 (k2 true)
 (ob (bJ a0) λr3=>
 k2 (decide (r3>a0.Cap))))
def Qy(a0:List Al)(a1:Ai):=
 aA (λ(y1:Unit)=>
 some (-1)) λk2=>
 qA FU (λ(x3:Int) k4=>
 cond (decide (x3<(a0.length:Int)))
 (ob (kA a0 x3) λe5=>
 let x6:Bool:=cond (e5.A.Host==a1.Host) (cond (e5.A.Port==a1.Port) (true) false) false
 cond (x6)
 (some x3)
 (k4 (iA .i64 x3 1)))
 (k2 ())) 0
def Lk(a0:List Al):=
 cond (decide ((a0.length:Int)>8))
 (some false)
 (aA (λ(y1:Unit)=>
 some true) λk2=>
 qA FU (λ(x3:Int) k4=>
 cond (decide (x3<(a0.length:Int)))
 (ob (kA a0 x3) λe5=>
 aA (λy6=>
 cond (y6)
 (some false)
 (k4 (iA .i64 x3 1))) λk7=>
 cond (!(MA e5.A))
 (k7 true)
 (cond (!(eA e5.Got 0 1000000))
 (k7 true)
 (let r8:Bool:=eA e5.Sent 0 (YB .i64 3 e5.Got)
 cond (!r8)
 (k7 true)
 (k7 (decide ((qB a0 e5.A)<x3))))))
 (k2 ())) 0)
def Qz(a0:List UInt8):=
 some (eA (a0.length:Int) 1 32)
def Ll(a0:Ac):=
 aA (λy1=>
 cond (y1)
 (some false)
 (aA (λ(y4:Unit)=>
 aA (λ(y9:Unit)=>
 some true) λk10=>
 qA FU (λ(x11:Int) k12=>
 cond (decide (x11<(a0.T.L.length:Int)))
 (ob (kA a0.T.L x11) λe13=>
 cond (decide (e13.Id>(a0.Psks.length:Int)))
 (some false)
 (k12 (iA .i64 x11 1)))
 (k10 ())) 0) λk5=>
 qA FU (λ(x6:Int) k7=>
 cond (decide (x6<(a0.Psks.length:Int)))
 (ob (kA a0.Psks x6) λe8=>
 cond (!(CC e8))
 (some false)
 (k7 (iA .i64 x6 1)))
 (k5 ())) 0)) λk2=>
 cond (!(eA (a0.Psks.length:Int) 1 9))
 (k2 true)
 (cond (!(dF a0.J))
 (k2 true)
 (cond (!(BC a0.D))
 (k2 true)
 (ob (iG a0.T) λr3=>
 cond (!r3)
 (k2 true)
 (k2 (!(gD a0.Cr))))))
def Lm(a0:Aa)(a1:Aa):=
 aA (λ(y1:Bool)=>
 some y1) λk2=>
 cond (a0.Kind==a1.Kind)
 (cond (a0.Id==a1.Id)
 (cond (a0.Tick==a1.Tick)
 (cond (a0.Epoch==a1.Epoch)
 (cond (a0.Seq==a1.Seq)
 (ob (BB a0.Cn a1.Cn) λr3=>
 cond (r3)
 (ob (BB a0.Sn a1.Sn) λr4=>
 cond (r4)
 (ob (BB a0.Cookie a1.Cookie) λr5=>
 cond (r5)
 (ob (BB a0.Proof a1.Proof) λr6=>
 cond (r6)
 (ob (BB a0.Body a1.Body) λr7=>
 cond (r7)
 (ob (BB a0.Tag a1.Tag) λr8=>
 k2 r8)
 (k2 false))
 (k2 false))
 (k2 false))
 (k2 false))
 (k2 false))
 (k2 false))
 (k2 false))
 (k2 false))
 (k2 false))
 (k2 false)
def Ln(a0:Av):=
 cond (!a0.On)
 (let x1:Bool:=cond (a0.On==false) (cond (a0.Due==0) (cond (a0.Wait==0) (cond (a0.Tries==0) (true) false) false) false) false
 some x1)
 (aA (λ(y2:Bool)=>
 aA (λ(y4:Bool)=>
 some y4) λk5=>
 cond ((eA a0.Due 0 1000008))
 (cond (y2)
 (k5 (eA a0.Tries 1 5))
 (k5 false))
 (k5 false)) λk3=>
 cond (a0.Wait==1)
 (k3 true)
 (cond (a0.Wait==2)
 (k3 true)
 (cond (a0.Wait==4)
 (k3 true)
 (k3 (a0.Wait==8)))))
def Ra(a0:Int):=
 some (eA a0 4 8)
def Pd(a0:Int)(a1:Int):=
 cond (a0==4)
 (some (decide (a1≤40)))
 (aA (λy1=>
 cond (y1)
 (some (a1==12))
 (some (a1==4))) λk2=>
 cond (a0==5)
 (k2 (a0==5))
 (k2 (a0==6)))
def Lo(a0:Aa):=
 aA (λ(y1:Bool×Aa)=>
 aA (λ(y18:Bool)=>
 some y18) λk19=>
 cond (y1.1)
 (ob (yN a0 y1.2) λr20=>
 k19 r20)
 (k19 false)) λk2=>
 cond (a0.Kind==1)
 (aA (λ(y3:Bool)=>
 k2 (y3,(⟨a0.Kind,a0.Id,a0.Cn,[],0,[],[],0,0,[],[]⟩:Aa))) λk4=>
 cond ((eA a0.Id 1 9))
 (k4 (oA a0.Cn))
 (k4 false))
 (aA (λ(y5:Bool×Aa)=>
 k2 (y5.1,y5.2)) λk6=>
 cond (a0.Kind==2)
 (aA (λ(y7:Bool)=>
 k6 (y7,(⟨a0.Kind,0,a0.Cn,a0.Sn,a0.Tick,a0.Cookie,[],0,0,[],[]⟩:Aa))) λk8=>
 cond ((oA a0.Cn))
 (cond ((oA a0.Sn))
 (cond ((eA a0.Tick 0 1000000))
 (k8 ((a0.Cookie.length:Int)==16))
 (k8 false))
 (k8 false))
 (k8 false))
 (aA (λ(y9:Bool×Aa)=>
 k6 (y9.1,y9.2)) λk10=>
 cond (a0.Kind==3)
 (aA (λ(y11:Bool)=>
 k10 (y11,(⟨a0.Kind,a0.Id,a0.Cn,a0.Sn,a0.Tick,a0.Cookie,a0.Proof,0,0,[],[]⟩:Aa))) λk12=>
 cond ((eA a0.Id 1 9))
 (cond ((oA a0.Cn))
 (cond ((oA a0.Sn))
 (cond ((eA a0.Tick 0 1000000))
 (cond ((a0.Cookie.length:Int)==16)
 (k12 ((a0.Proof.length:Int)==16))
 (k12 false))
 (k12 false))
 (k12 false))
 (k12 false))
 (k12 false))
 (aA (λ(y13:Bool×Aa)=>
 k10 (y13.1,y13.2)) λk14=>
 cond ((gC a0.Kind))
 (aA (λ(y15:Bool)=>
 k14 (y15,(⟨a0.Kind,0,[],a0.Sn,0,[],[],a0.Epoch,a0.Seq,a0.Body,a0.Tag⟩:Aa))) λk16=>
 cond ((oA a0.Sn))
 (cond ((eA a0.Epoch 0 4294967295))
 (cond ((eA a0.Seq 0 281474976710655))
 (cond ((a0.Tag.length:Int)==16)
 (let r17:Bool:=VF a0.Kind (a0.Body.length:Int)
 k16 r17)
 (k16 false))
 (k16 false))
 (k16 false))
 (k16 false))
 (k14 (false,(⟨a0.Kind,0,[],[],0,[],[],0,0,[],[]⟩:Aa))))))
def Lp(a0:Ad):=
 aA (λy1=>
 cond (y1)
 (some false)
 (aA (λ(y5:Bool)=>
 some y5) λk6=>
 ob (sC a0.C) λr7=>
 cond (r7)
 (cond (a0.C.Role==0)
 (ob (BB a0.C.Sn a0.Fin.Sn) λr8=>
 cond (r8)
 (cond (a0.C.Cur.N==0)
 (cond (!a0.C.HasOld)
 (k6 ((a0.C.Next.length:Int)==0))
 (k6 false))
 (k6 false))
 (k6 false))
 (k6 false))
 (k6 false))) λk2=>
 cond (!(oA a0.Cn))
 (k2 true)
 (cond (a0.Fin.Kind !=3)
 (k2 true)
 (ob (TC a0.Fin) λr3=>
 cond (!r3)
 (k2 true)
 (cond (a0.Fin.Id !=a0.Id)
 (k2 true)
 (ob (BB a0.Fin.Cn a0.Cn) λr4=>
 k2 (!r4)))))
def Lq(a0:Ad):=
 aA (λy1=>
 cond (y1)
 (some false)
 (ob (yN a0.Fin (⟨0,0,[],[],0,[],[],0,0,[],[]⟩:Aa)) λr3=>
 let x4:Bool:=cond (a0.T.On==false) (cond (a0.T.Due==0) (cond (a0.T.Wait==0) (cond (a0.T.Tries==0) (true) false) false) false) false
 cond (a0.St==0)
 (aA (λ(y5:Bool)=>
 some y5) λk6=>
 cond ((a0.Cn.length:Int)==0)
 (cond (r3)
 (ob (bO a0.C) λr7=>
 cond (r7)
 (cond (x4)
 (let x8:Bool:=cond (a0.R.On==false) (cond (a0.R.Due==0) (cond (a0.R.Wait==0) (cond (a0.R.Tries==0) (true) false) false) false) false
 cond (x8)
 (k6 (a0.Last==0))
 (k6 false))
 (k6 false))
 (k6 false))
 (k6 false))
 (k6 false))
 (cond (a0.St==1)
 (aA (λ(y9:Bool)=>
 some y9) λk10=>
 cond ((oA a0.Cn))
 (cond (r3)
 (ob (bO a0.C) λr11=>
 cond (r11)
 (cond (a0.T.On)
 (cond ((qD a0.T))
 (let x12:Bool:=cond (a0.R.On==false) (cond (a0.R.Due==0) (cond (a0.R.Wait==0) (cond (a0.R.Tries==0) (true) false) false) false) false
 cond (x12)
 (k10 (a0.Last==0))
 (k10 false))
 (k10 false))
 (k10 false))
 (k10 false))
 (k10 false))
 (k10 false))
 (cond (a0.St==2)
 (aA (λ(y13:Bool)=>
 some y13) λk14=>
 ob (zb8 a0) λr15=>
 cond (r15)
 (cond (a0.T.On)
 (cond ((qD a0.T))
 (let x16:Bool:=cond (a0.R.On==false) (cond (a0.R.Due==0) (cond (a0.R.Wait==0) (cond (a0.R.Tries==0) (true) false) false) false) false
 cond (x16)
 (k14 (a0.Last==0))
 (k14 false))
 (k14 false))
 (k14 false))
 (k14 false))
 (cond (a0.St==3)
 (aA (λ(y17:Bool)=>
 some y17) λk18=>
 cond ((oA a0.Cn))
 (cond (r3)
 (ob (sC a0.C) λr19=>
 cond (r19)
 (cond (a0.C.Role==0)
 (cond (x4)
 (cond ((qD a0.R))
 (cond (a0.R.On==(decide ((a0.C.Next.length:Int)>0)))
 (k18 (eA a0.Last 0 1000000))
 (k18 false))
 (k18 false))
 (k18 false))
 (k18 false))
 (k18 false))
 (k18 false))
 (k18 false))
 (some false)))))) λk2=>
 cond (!(eA a0.Id 1 9))
 (k2 true)
 (cond (!(CC a0.Psk))
 (k2 true)
 (k2 (!(MA a0.At))))
def Rb(a0:Ax):=
 aA (λ(y1:Bool)=>
 some y1) λk2=>
 let r3:Bool:=eA (a0.Seed.length:Int) 1 32
 cond (r3)
 (k2 (eA a0.N 0 10000))
 (k2 false)
def Rc(a0:Ba):=
 some ((a0.Secret.length:Int)==32)
def Rd(a0:Ao):=
 aA (λ(y1:Int)=>
 some y1) λk2=>
 qA FU (λ(x3:Int×Int) k4=>
 cond (decide (x3.2<(a0.L.length:Int)))
 (ob (kA a0.L x3.2) λe5=>
 aA (λ(y6:Int)=>
 k4 (y6,(iA .i64 x3.2 1))) λk7=>
 cond (!e5.Dead)
 (k7 (iA .i64 x3.1 1))
 (k7 x3.1))
 (k2 x3.1)) (0,0)
def Lr(a0:Ak):=
 aA (λ(y1:Bool)=>
 some y1) λk2=>
 cond (a0.Role==0)
 (cond ((a0.Sn.length:Int)==0)
 (cond ((MF a0.Cur))
 (cond ((MF a0.Old))
 (cond (!a0.HasOld)
 (cond (a0.Until==0)
 (k2 ((a0.Next.length:Int)==0))
 (k2 false))
 (k2 false))
 (k2 false))
 (k2 false))
 (k2 false))
 (k2 false)
def Ls(a0:Aj):=
 aA (λy1=>
 cond (y1)
 (some false)
 (aA (λ(y3:Unit)=>
 some true) λk4=>
 qA FU (λ(x5:Int) k6=>
 cond (decide (x5<(a0.Cands.length:Int)))
 (ob (kA a0.Cands x5) λe7=>
 aA (λy8=>
 cond (y8)
 (some false)
 (aA (λ(y11:Unit)=>
 k6 (iA .i64 x5 1)) λk12=>
 qA FU (λ(x13:Int) k14=>
 cond (decide (x13<x5))
 (ob (kA a0.Cands x13) λe15=>
 let x16:Bool:=cond (e15.A.Host==e7.A.Host) (cond (e15.A.Port==e7.A.Port) (true) false) false
 cond (x16)
 (some false)
 (k14 (iA .i64 x13 1)))
 (k12 ())) 0)) λk9=>
 cond (!(MA e7.A))
 (k9 true)
 (cond ((e7.Draw.length:Int) !=12)
 (k9 true)
 (cond (!(eA e7.Until 0 1000006))
 (k9 true)
 (let x10:Bool:=cond (e7.A.Host==a0.At.Host) (cond (e7.A.Port==a0.At.Port) (true) false) false
 k9 x10))))
 (k4 ())) 0)) λk2=>
 cond (!(MA a0.At))
 (k2 true)
 (k2 (decide ((a0.Cands.length:Int)>3)))
def Lt(a0:Ah):=
 aA (λy1=>
 cond (y1)
 (some false)
 (cond (a0.Dead)
 (aA (λ(y3:Bool)=>
 some y3) λk4=>
 cond ((rC a0.C))
 (let r5:Ai:=KB (-1)
 let x6:Bool:=cond (a0.P.At.Host==r5.Host) (cond (a0.P.At.Port==r5.Port) (true) false) false
 cond (x6)
 (cond ((a0.P.Cands.length:Int)==0)
 (k4 (a0.Last==0))
 (k4 false))
 (k4 false))
 (k4 false))
 (aA (λ(y7:Bool)=>
 some y7) λk8=>
 ob (sC a0.C) λr9=>
 cond (r9)
 (cond (a0.C.Role==1)
 (ob (BB a0.C.Sn a0.Sn) λr10=>
 cond (r10)
 (k8 (qC a0.P))
 (k8 false))
 (k8 false))
 (k8 false)))) λk2=>
 cond (!(eA a0.Id 1 9))
 (k2 true)
 (cond ((a0.Cn.length:Int) !=12)
 (k2 true)
 (cond ((a0.Sn.length:Int) !=12)
 (k2 true)
 (cond (!(eA a0.Tick 0 1000000))
 (k2 true)
 (k2 (!(eA a0.Last 0 1000000))))))
def Re(a0:Ao)(a1:List UInt8):=
 aA (λ(y1:Unit)=>
 some (-1)) λk2=>
 qA FU (λ(x3:Int) k4=>
 cond (decide (x3<(a0.L.length:Int)))
 (ob (kA a0.L x3) λe5=>
 ob (BB e5.Sn a1) λr6=>
 cond (r6)
 (some x3)
 (k4 (iA .i64 x3 1)))
 (k2 ())) 0
def Lu(a0:Ao):=
 aA (λy1=>
 cond (y1)
 (some false)
 (aA (λ(y4:Unit)=>
 some true) λk5=>
 qA FU (λ(x6:Int) k7=>
 cond (decide (x6<(a0.L.length:Int)))
 (aA (λy8=>
 cond (y8)
 (some false)
 (k7 (iA .i64 x6 1))) λk9=>
 ob (kA a0.L x6) λe10=>
 ob (FD e10) λr11=>
 cond (!r11)
 (k9 true)
 (ob (kA a0.L x6) λe12=>
 ob (ED a0 e12.Sn) λr13=>
 k9 (r13 !=x6)))
 (k5 ())) 0)) λk2=>
 cond (!(eA a0.Cap 1 6))
 (k2 true)
 (cond (decide ((a0.L.length:Int)>12))
 (k2 true)
 (ob (bJ a0) λr3=>
 k2 (decide (r3>a0.Cap))))
def Lv(a0:List Al):=
 cond (decide ((a0.length:Int)>8))
 (some false)
 (aA (λ(y1:Unit)=>
 some true) λk2=>
 qA FU (λ(x3:Int) k4=>
 cond (decide (x3<(a0.length:Int)))
 (aA (λy5=>
 cond (y5)
 (some false)
 (aA (λ(y12:Unit)=>
 k4 (iA .i64 x3 1)) λk13=>
 qA FU (λ(x14:Int) k15=>
 cond (decide (x14<x3))
 (ob (kA a0 x14) λe16=>
 ob (kA a0 x3) λe17=>
 let x18:Bool:=cond (e16.A.Host==e17.A.Host) (cond (e16.A.Port==e17.A.Port) (true) false) false
 cond (x18)
 (some false)
 (k15 (iA .i64 x14 1)))
 (k13 ())) 0)) λk6=>
 ob (kA a0 x3) λe7=>
 cond (!(MA e7.A))
 (k6 true)
 (ob (kA a0 x3) λe8=>
 cond (!(eA e8.Got 0 1000000))
 (k6 true)
 (ob (kA a0 x3) λe9=>
 ob (kA a0 x3) λe10=>
 let r11:Bool:=eA e9.Sent 0 (YB .i64 3 e10.Got)
 k6 (!r11))))
 (k2 ())) 0)
def Rf(a0:List UInt8):=
 some (eA (a0.length:Int) 1 32)
def Rg(a0:Ac):=
 aA (λy1=>
 cond (y1)
 (some false)
 (aA (λ(y4:Unit)=>
 aA (λ(y9:Unit)=>
 some true) λk10=>
 qA FU (λ(x11:Int) k12=>
 cond (decide (x11<(a0.T.L.length:Int)))
 (ob (kA a0.T.L x11) λe13=>
 cond (decide (e13.Id>(a0.Psks.length:Int)))
 (some false)
 (k12 (iA .i64 x11 1)))
 (k10 ())) 0) λk5=>
 qA FU (λ(x6:Int) k7=>
 cond (decide (x6<(a0.Psks.length:Int)))
 (ob (kA a0.Psks x6) λe8=>
 cond (!(CC e8))
 (some false)
 (k7 (iA .i64 x6 1)))
 (k5 ())) 0)) λk2=>
 cond (!(eA (a0.Psks.length:Int) 1 9))
 (k2 true)
 (cond (!(dF a0.J))
 (k2 true)
 (cond (!(BC a0.D))
 (k2 true)
 (ob (iG a0.T) λr3=>
 cond (!r3)
 (k2 true)
 (k2 (!(gD a0.Cr))))))
def Rh(a0:Am):=
 aA (λ(y1:Bool)=>
 some y1) λk2=>
 cond ((MA a0.From))
 (cond ((MA a0.To))
 (k2 (decide ((a0.B.length:Int)≤200)))
 (k2 false))
 (k2 false)
def Ri(a0:List Am):=
 aA (λ(y1:Unit)=>
 some (decide ((a0.length:Int)≤90))) λk2=>
 qA FU (λ(x3:Int) k4=>
 cond (decide (x3<(a0.length:Int)))
 (ob (kA a0 x3) λe5=>
 cond (!(LC e5))
 (some false)
 (k4 (iA .i64 x3 1)))
 (k2 ())) 0
def Lw(a0:Av):=
 cond (!a0.On)
 (let x1:Bool:=cond (a0.On==false) (cond (a0.Due==0) (cond (a0.Wait==0) (cond (a0.Tries==0) (true) false) false) false) false
 some x1)
 (aA (λ(y2:Bool)=>
 some y2) λk3=>
 cond ((eA a0.Due 0 1000008))
 (cond (a0.Wait==1)
 (k3 (eA a0.Tries 1 5))
 (cond (a0.Wait==2)
 (k3 (eA a0.Tries 1 5))
 (cond (a0.Wait==4)
 (k3 (eA a0.Tries 1 5))
 (cond (a0.Wait==8)
 (k3 (eA a0.Tries 1 5))
 (k3 false)))))
 (k3 false))
def Lx(a0:Aa):=
 aA (λ(y1:Bool)=>
 some y1) λk2=>
 cond (a0.Kind==0)
 (cond (a0.Id==0)
 (cond ((a0.Cn.length:Int)==0)
 (cond ((a0.Sn.length:Int)==0)
 (cond (a0.Tick==0)
 (cond ((a0.Cookie.length:Int)==0)
 (cond ((a0.Proof.length:Int)==0)
 (cond (a0.Epoch==0)
 (cond (a0.Seq==0)
 (cond ((a0.Body.length:Int)==0)
 (k2 ((a0.Tag.length:Int)==0))
 (k2 false))
 (k2 false))
 (k2 false))
 (k2 false))
 (k2 false))
 (k2 false))
 (k2 false))
 (k2 false))
 (k2 false))
 (k2 false)
def Rj(a0:Int):=
 some (eA a0 4 8)
def Pe(a0:Int)(a1:Int):=
 cond (a0==4)
 (some (decide (a1≤40)))
 (aA (λy1=>
 cond (y1)
 (some (a1==12))
 (some (a1==4))) λk2=>
 cond (a0==5)
 (k2 true)
 (k2 (a0==6)))
def Ly(a0:Aa):=
 cond ((gC a0.Kind))
 (aA (λ(y1:Bool)=>
 some y1) λk2=>
 cond (a0.Id==0)
 (cond ((a0.Cn.length:Int)==0)
 (cond ((a0.Sn.length:Int)==12)
 (cond (a0.Tick==0)
 (cond ((a0.Cookie.length:Int)==0)
 (cond ((a0.Proof.length:Int)==0)
 (cond ((eA a0.Epoch 0 4294967295))
 (cond ((eA a0.Seq 0 281474976710655))
 (let r3:Bool:=VF a0.Kind (a0.Body.length:Int)
 cond (r3)
 (k2 ((a0.Tag.length:Int)==16))
 (k2 false))
 (k2 false))
 (k2 false))
 (k2 false))
 (k2 false))
 (k2 false))
 (k2 false))
 (k2 false))
 (k2 false))
 (aA (λy4=>
 cond (y4)
 (some false)
 (cond (a0.Kind==1)
 (aA (λ(y6:Bool)=>
 some y6) λk7=>
 cond ((eA a0.Id 1 9))
 (cond ((a0.Sn.length:Int)==0)
 (cond (a0.Tick==0)
 (cond ((a0.Cookie.length:Int)==0)
 (k7 ((a0.Proof.length:Int)==0))
 (k7 false))
 (k7 false))
 (k7 false))
 (k7 false))
 (cond (a0.Kind==2)
 (aA (λ(y8:Bool)=>
 some y8) λk9=>
 cond (a0.Id==0)
 (cond ((a0.Sn.length:Int)==12)
 (cond ((eA a0.Tick 0 1000000))
 (cond ((a0.Cookie.length:Int)==16)
 (k9 ((a0.Proof.length:Int)==0))
 (k9 false))
 (k9 false))
 (k9 false))
 (k9 false))
 (cond (a0.Kind==3)
 (aA (λ(y10:Bool)=>
 some y10) λk11=>
 cond ((eA a0.Id 1 9))
 (cond ((a0.Sn.length:Int)==12)
 (cond ((eA a0.Tick 0 1000000))
 (cond ((a0.Cookie.length:Int)==16)
 (k11 ((a0.Proof.length:Int)==16))
 (k11 false))
 (k11 false))
 (k11 false))
 (k11 false))
 (some false))))) λk5=>
 cond (a0.Epoch !=0)
 (k5 true)
 (cond (a0.Seq !=0)
 (k5 true)
 (cond ((a0.Body.length:Int) !=0)
 (k5 true)
 (cond ((a0.Tag.length:Int) !=0)
 (k5 true)
 (k5 ((a0.Cn.length:Int) !=12))))))
def Lz(a0:Ad):=
 aA (λy1=>
 cond (y1)
 (some false)
 (cond (a0.St==0)
 (aA (λ(y3:Bool)=>
 some y3) λk4=>
 cond ((a0.Cn.length:Int)==0)
 (cond ((zF a0.Fin))
 (cond ((rC a0.C))
 (cond (!a0.T.On)
 (cond (!a0.R.On)
 (k4 (a0.Last==0))
 (k4 false))
 (k4 false))
 (k4 false))
 (k4 false))
 (k4 false))
 (cond ((a0.Cn.length:Int) !=12)
 (some false)
 (cond (a0.St==3)
 (aA (λ(y5:Bool)=>
 some y5) λk6=>
 cond ((zF a0.Fin))
 (ob (sC a0.C) λr7=>
 cond (r7)
 (cond (a0.C.Role==0)
 (cond (!a0.T.On)
 (k6 (a0.R.On==(decide ((a0.C.Next.length:Int)>0))))
 (k6 false))
 (k6 false))
 (k6 false))
 (k6 false))
 (aA (λy8=>
 cond (y8)
 (some false)
 (cond (a0.St==1)
 (aA (λ(y10:Bool)=>
 some y10) λk11=>
 cond ((zF a0.Fin))
 (k11 (rC a0.C))
 (k11 false))
 (aA (λ(y12:Bool)=>
 some y12) λk13=>
 cond (a0.St==2)
 (cond ((wB a0.Fin))
 (cond (a0.Fin.Kind==3)
 (cond (a0.Fin.Id==a0.Id)
 (ob (BB a0.Fin.Cn a0.Cn) λr14=>
 cond (r14)
 (ob (sC a0.C) λr15=>
 cond (r15)
 (cond (a0.C.Role==0)
 (ob (BB a0.C.Sn a0.Fin.Sn) λr16=>
 cond (r16)
 (cond (a0.C.Cur.N==0)
 (cond (!a0.C.HasOld)
 (k13 ((a0.C.Next.length:Int)==0))
 (k13 false))
 (k13 false))
 (k13 false))
 (k13 false))
 (k13 false))
 (k13 false))
 (k13 false))
 (k13 false))
 (k13 false))
 (k13 false)))) λk9=>
 cond (!a0.T.On)
 (k9 true)
 (cond (a0.R.On)
 (k9 true)
 (k9 (a0.Last !=0)))))))) λk2=>
 cond (!(eA a0.Id 1 9))
 (k2 true)
 (cond (!(CC a0.Psk))
 (k2 true)
 (cond (!(MA a0.At))
 (k2 true)
 (cond (!(qD a0.T))
 (k2 true)
 (cond (!(qD a0.R))
 (k2 true)
 (k2 (!(eA a0.Last 0 1000000)))))))
def Ma(a0:Ab):=
 aA (λy1=>
 cond (y1)
 (some false)
 (aA (λ(y4:Unit)=>
 aA (λ(y16:Unit)=>
 aA (λ(y21:Unit)=>
 some true) λk22=>
 qA FU (λ(x23:Int) k24=>
 cond (decide (x23<(a0.Notes.length:Int)))
 (ob (kA a0.Notes x23) λe25=>
 cond (!(tC e25))
 (some false)
 (k24 (iA .i64 x23 1)))
 (k22 ())) 0) λk17=>
 qA FU (λ(x18:Int) k19=>
 cond (decide (x18<(a0.Known.length:Int)))
 (ob (kA a0.Known x18) λe20=>
 cond ((e20.length:Int) !=32)
 (some false)
 (k19 (iA .i64 x18 1)))
 (k17 ())) 0) λk5=>
 qA FU (λ(x6:Int) k7=>
 cond (decide (x6<2))
 (aA (λy8=>
 cond (y8)
 (some false)
 (k7 (iA .i64 x6 1))) λk9=>
 ob (kA a0.Clients x6) λe10=>
 ob (ID e10) λr11=>
 cond (!r11)
 (k9 true)
 (ob (kA a0.Clients x6) λe12=>
 cond (e12.Id !=(iA .i64 x6 1))
 (k9 true)
 (ob (kA a0.Clients x6) λe13=>
 ob (kA a0.S.Psks x6) λe14=>
 ob (BB e13.Psk e14) λr15=>
 k9 (!r15))))
 (k5 ())) 0)) λk2=>
 cond (!(eA a0.Now 0 1000000))
 (k2 true)
 (cond ((a0.Clients.length:Int) !=2)
 (k2 true)
 (ob (GC a0.S) λr3=>
 cond (!r3)
 (k2 true)
 (cond ((a0.S.Psks.length:Int) !=2)
 (k2 true)
 (cond (!(BC a0.D))
 (k2 true)
 (cond (!(WD a0.Seen))
 (k2 true)
 (k2 (decide ((a0.Known.length:Int)>12))))))))
def Rl(a0:Am):=
 aA (λ(y1:Bool)=>
 some y1) λk2=>
 cond ((MA a0.From))
 (cond ((MA a0.To))
 (k2 (decide ((a0.B.length:Int)≤200)))
 (k2 false))
 (k2 false)
def Mb(a0:List Am):=
 aA (λ(y1:Unit)=>
 some (decide ((a0.length:Int)≤90))) λk2=>
 qA FU (λ(x3:Int) k4=>
 cond (decide (x3<(a0.length:Int)))
 (ob (kA a0 x3) λe5=>
 cond (!(LC e5))
 (some false)
 (k4 (iA .i64 x3 1)))
 (k2 ())) 0
def Mc(a0:Ab):=
 aA (λy1=>
 cond (y1)
 (some false)
 (aA (λy4=>
 cond (y4)
 (some false)
 (aA (λ(y6:Unit)=>
 aA (λ(y16:Unit)=>
 aA (λ(y21:Unit)=>
 some true) λk22=>
 qA FU (λ(x23:Int) k24=>
 cond (decide (x23<(a0.Notes.length:Int)))
 (ob (kA a0.Notes x23) λe25=>
 cond (!(tC e25))
 (some false)
 (k24 (iA .i64 x23 1)))
 (k22 ())) 0) λk17=>
 qA FU (λ(x18:Int) k19=>
 cond (decide (x18<(a0.Known.length:Int)))
 (ob (kA a0.Known x18) λe20=>
 cond ((e20.length:Int) !=32)
 (some false)
 (k19 (iA .i64 x18 1)))
 (k17 ())) 0) λk7=>
 qA FU (λ(x8:Int) k9=>
 cond (decide (x8<(a0.Clients.length:Int)))
 (ob (kA a0.Clients x8) λe10=>
 aA (λy11=>
 cond (y11)
 (some false)
 (k9 (iA .i64 x8 1))) λk12=>
 ob (ID e10) λr13=>
 cond (!r13)
 (k12 true)
 (cond (e10.Id !=(iA .i64 x8 1))
 (k12 true)
 (ob (kA a0.S.Psks x8) λe14=>
 ob (BB e10.Psk e14) λr15=>
 k12 (!r15))))
 (k7 ())) 0)) λk5=>
 cond (!(BC a0.D))
 (k5 true)
 (cond (!(WD a0.Seen))
 (k5 true)
 (k5 (decide ((a0.Known.length:Int)>12)))))) λk2=>
 cond (!(eA a0.Now 0 1000000))
 (k2 true)
 (cond ((a0.Clients.length:Int) !=2)
 (k2 true)
 (ob (GC a0.S) λr3=>
 cond (!r3)
 (k2 true)
 (k2 ((a0.S.Psks.length:Int) !=2))))
end
end Go.D
namespace Go.D
end Go.D
namespace Go.D
open Option renaming bind→ob
def zbj.ok{x}(_:xA [.v .Addr] x):Qp x=some (MA x):=zja x
def zaS.ok{x}(_:xA [.v .Addr] x):Qo x=some (MA x):=zja x
def zki(i:Int):(cond (!(eA i 0 255)) (some (⟨0,0⟩:Ai)) (some (⟨iA .i64 167772160 i,iA .i64 7000 i⟩:Ai)))=some (KB i):=by
 cases h:eA i 0 255
 ·rw[zuS]at h;simp[KB,h]
 ·rw[YC]at h;simp only[Bool.not_true,cond_false,KB,h,and_self,if_true,iA];rw[XB (by omega) (by omega),XB (by omega) (by omega)]
def zbZ.ok{x}(_:xA [.v .int] x):Qq x=some (KB x):=zki _
def zcc.ok{x}(_:xA [.v .int] x):Qs x=some (KB x):=zki _
def zcn.ok{x}(_:xA [] x):Qr=some tE:=rfl
def zcx.ok{x}(_:xA [] x):Qt=some tE:=rfl
def QJ(a b:Ai):(cond (a.Host==b.Host) (cond (a.Port==b.Port) (true) false) false)=PB a b:=by
 simp only[PB,Bool.cond_false_right,Bool.and_true]
def zrn(w:Ab)(a:Ai)(h:wt w≤bA){f:Ad→Option Int}(hf:∀c,f c=some c.Id):cond (PB a tE) (some 0) (qA FU (λ(x5:Int) k6=>cond (decide (x5<(w.Clients.length:Int))) (ob (kA w.Clients x5) λe7=>cond (PB e7.At a) (f e7) (k6 (iA .i64 x5 1))) (some (-1))) 0)=some (gO w a):=by
 rw[KI]at h;rw[zjA w.Clients (eE (by omega)) (λc=>PB c.At a) (λc=>some c.Id) (some (-1)) (λi k hi=>?_) (λk=>by simp only[SD,cond_false])]
 ·rw[gO];cases PB a tE
  ·cases w.Clients.find? _<;>rfl
  ·rfl
 ·simp only[wD hi,cond_true,HB hi,YA,hf]
def zon(w:Ab)(a:Ai)(h:wt w≤bA):Lf w a=some (gO w a):=by
 simp only[Lf,aA,QJ];exact zrn w a h (λ_=>rfl)
def jQ.ok{x}(_:xA [.v .World, .v .Addr] x){r}:SK x.1 x.2=some r→Lf x.1 x.2=some r:=UA λh=>zon x.1 x.2 h
def zoy(w:Ab)(a:Ai)(h:wt w≤bA):Le w a=some (gO w a):=by
 rw[KI]at h;simp only[Le,aA,QJ];rw[zjA w.Clients (eE (by omega)) (λc=>PB c.At a) (λc=>some c.Id) (some (-1)) (λi k hi=>?_) (λk=>by simp only[SD,cond_false])]
 ·rw[gO];cases PB a tE
  ·cases w.Clients.find? _<;>rfl
  ·rfl
 ·simp only[wD hi,cond_true,HB hi,YA]
def zQ.ok{x}(_:xA [.v .World, .v .Addr] x){r}:SK x.1 x.2=some r→Le x.1 x.2=some r:=UA λh=>zoy x.1 x.2 h
def nU.ok{x}(_:xA [.v .int, .v .int] x):Pa x.1 x.2=some (CE x.1 x.2):=by
 simp only[Pa,aA,WC,Bool.cond_true_left];rfl
def ST.ok{x}(_:xA [.sl .byte, .v .int] x):Pb x.1 x.2=some (uD x.1 x.2):=by
 simp only[Pb,aA,WC,Bool.cond_true_left];rfl
def lR.ok{x}(_:xA [.v .Note] x):Ld x=some (tC x):=by
 show Ld (x:Ae)=some (tC (x:Ae))
 generalize (show Ae from x)=n;simp only[Ld,aA,WC,Bool.cond_false_right,tC]
 grind
def cR.ok{x}(_:xA [.v .Note] x):Lc x=some (tC x):=by
 show Lc (x:Ae)=some (tC (x:Ae))
 generalize (show Ae from x)=n;simp only[Lc,aA,WC,Bool.cond_false_right,tC,uD]
 grind
def zbu.ok{x}(_:xA [.v .Jar] x):Qv x=some (dF x):=rfl
def zbv.ok{x}(_:xA [.v .Jar] x):Rc x=some (dF x):=rfl
def zi1(d:Ax):(aA (λ(y1:Bool)=>some y1) λk2=>cond (eA (d.Seed.length:Int) 1 32) (k2 (eA d.N 0 10000)) (k2 false))=some (BC d):=by
 simp only[aA,WC,Bool.cond_false_right,BC]
def zaW.ok{x}(_:xA [.v .Dice] x):Qu x=some (BC x):=zi1 x
def za2.ok{x}(_:xA [.v .Dice] x):Rb x=some (BC x):=zi1 x
def zkB(t:Ao)(h:wt t≤bA):(aA (λ(y1:Int)=>some y1) λk2=>qA FU (λ(x3:Int×Int) k4=>cond (decide (x3.2<(t.L.length:Int))) (ob (kA t.L x3.2) λe5=>
  aA (λ(y6:Int)=>k4 (y6,(iA .i64 x3.2 1))) λk7=>cond (!e5.Dead) (k7 (iA .i64 x3.1 1)) (k7 x3.1)) (k2 x3.1)) (0,0))=some (live t):=by
 rw[XI]at h;simp only[aA];rw[zsN t.L (eE h) (λs e=>bif e.Dead then s else iA .i64 s 1) (λs=>some s) (λi s k hi=>?_) (λs k=>by simp only[SD,cond_false])]
 ·rfl
 ·simp only[wD hi,cond_true,HB hi,YA];cases t.L[i].Dead<;>rfl
def zbP.ok{x}(_:xA [.v .Tab] x){r}:bJ x=some r→Qw x=some r:=UA λh=>zkB x h
def zbS.ok{x}(_:xA [.v .Tab] x){r}:bJ x=some r→Rd x=some r:=UA λh=>zkB x h
def jP.ok{x}(_:xA [.v .Chan] x):Lr x=some (rC x):=by
 show Lr (x:Ak)=some (rC (x:Ak))
 generalize (show Ak from x)=c;simp only[Lr,aA,WC,Bool.cond_false_right,rC]
 grind
def znz(c:Ak)(h:wt c≤bA):Lg c=some (rC c):=by
 rw[xH]at h
 simp only[Lg,aA,fO,HA (p:=wt c.Old≤bA∧wt (⟨0,[],0,(⟨0,[]⟩:Ap)⟩:Aw)≤bA) ⟨by omega,zf6⟩,
  HA (p:=wt c.Cur≤bA∧wt (⟨0,[],0,(⟨0,[]⟩:Ap)⟩:Aw)≤bA) ⟨by omega,zf6⟩,zj6,WC,Bool.cond_false_right,rC]
 grind
def ZO.ok{x}(_:xA [.v .Chan] x){r}:bO x=some r→Lg x=some r:=UA λh=>znz x h
def ZJ(a b:Int):decide (a>b)= !decide (a≤b):=by
 by_cases h:a≤b
 ·rw[decide_eq_true h,decide_eq_false (by omega)];rfl
 ·rw[decide_eq_false h,decide_eq_true (by omega)];rfl
def oQ.ok{x}(_:xA [.v .Paths] x):Ls x=some (qC x):=by
 show Ls (x:Aj)=some (qC (x:Aj))
 generalize (show Aj from x)=p;simp only[Ls,aA,QJ,qC,ZJ (p.Cands.length:Int) 3];cases MA p.At
 ·rfl
 cases hd:decide ((p.Cands.length:Int)≤3)
 ·rfl
 have hd:=of_decide_eq_true hd;have hl:p.Cands.length≤maxLen:=by rw[tD];omega
 simp only[Bool.not_true,cond_false];rw[GI p.Cands.length hl (eO p) (some false) (some true) (λi k hi=>?_) (λk=>by simp only[SD,cond_false])]
 ·cases FB _ _<;>rfl
 ·simp only[wD hi,cond_true,HB hi,YA];rw[GI i (by omega) (λj=>(p.Cands[j]?).any λd=>PB d.A p.Cands[i].A) (some false) (k (iA .i64 (i:Int) 1)) (λj k' hj=>?_) (λk'=>by simp only[SD,cond_false])]
  ·simp only[eO,EF hi,oA];cases MA p.Cands[i].A<;>cases hn:((p.Cands[i].Draw.length:Int)==12)<;>cases eA p.Cands[i].Until 0 1000006<;>cases PB p.Cands[i].A p.At<;>cases FB i _<;>simp[bne,hn]
  ·simp only[wD hj,cond_true,HB (Nat.lt_trans hj hi),YA,EF (Nat.lt_trans hj hi)]
def bQ.ok{x}(_:xA [.v .Paths] x):Lh x=some (qC x):=by
 show Lh (x:Aj)=some (qC (x:Aj))
 generalize (show Aj from x)=p;simp only[Lh,aA,QJ,qC,ZJ (p.Cands.length:Int) 3];cases MA p.At
 ·rfl
 cases hd:decide ((p.Cands.length:Int)≤3)
 ·rfl
 have hd:=of_decide_eq_true hd;have hl:p.Cands.length≤maxLen:=by rw[tD];omega
 simp only[Bool.not_true,cond_false];rw[GI p.Cands.length hl (eO p) (some false) (some true) (λi k hi=>?_) (λk=>by simp only[SD,cond_false])]
 ·cases FB _ _<;>rfl
 ·have LV:(p.Cands.take i).length=i:=by rw[List.length_take];omega
  simp only[wD hi,cond_true,HB hi,YA,zwe (Nat.le_of_lt hi),zwg];rw[GI i (by omega) (λj=>(p.Cands[j]?).any λd=>PB d.A p.Cands[i].A) (some false) (k (iA .i64 (i:Int) 1)) (λj k' hj=>?_) (λk'=>by rw[LV];simp only[SD,cond_false])]
  ·simp only[eO,EF hi];cases MA p.Cands[i].A<;>cases oA p.Cands[i].Draw<;>cases eA p.Cands[i].Until 0 1000006<;>cases PB p.Cands[i].A p.At<;>cases FB i _<;>rfl
  ·have RW:j<(p.Cands.take i).length:=by omega
   simp only[wD RW,cond_true,HB RW,YA,EF (Nat.lt_trans hj hi),List.getElem_take]
def zoA(s:Ah)(h:wt s≤bA):Lt s=some (uC s):=by
 rw[VK]at h;have hc:=xH s.C;have hn:KB (-1)=⟨0,0⟩:=rfl;have h0:s.Last=0→eA s.Last 0 1000000=true:=λh=>by rw[h];rfl
 simp only[Lt,aA,QJ];simp only[hn,sC,HA (p:=wt s.C≤bA) (by omega),CI (a:=s.C.Sn) (b:=s.Sn) (by omega) (by omega),uC,oA];cases s.Dead<;>simp only[WC,Bool.cond_false_right,cond_true,cond_false]<;>grind
def JQ.ok{x}(_:xA [.v .Sess] x){r}:FD x=some r→Lt x=some r:=UA λh=>zoA x h
def zo2(s:Ah)(h:wt s≤bA):Li s=some (uC s):=by
 rw[VK]at h;have hc:=xH s.C;have hn:(cond (s.P.At.Host==0) (cond (s.P.At.Port==0) (true) false) false)=PB s.P.At ⟨0,0⟩:=QJ s.P.At ⟨0,0⟩;simp only[Li,aA,hn,sC,bO,HA (p:=wt s.C≤bA) (by omega),CI (a:=s.C.Sn) (b:=s.Sn) (by omega) (by omega),uC];cases s.Dead<;>simp only[WC,Bool.cond_false_right,cond_true,cond_false]<;>grind
def dR.ok{x}(_:xA [.v .Sess] x){r}:FD x=some r→Li x=some r:=UA λh=>zo2 x h
def zjc(t:Ao)(b:List UInt8)(h:wt t≤bA∧wt b≤bA):(aA (λ(y1:Unit)=>some (-1)) λk2=>qA FU (λ(x3:Int) k4=>cond (decide (x3<(t.L.length:Int))) (ob (kA t.L x3) λe5=>
  ob (BB e5.Sn b) λr6=>cond (r6) (some x3) (k4 (iA .i64 x3 1))) (k2 ())) 0)=some (JE t b):=by
 rw[XI]at h;simp only[aA];rw[zeZ t.L.length (eE h.1) (lG t b) (λi k hi=>?_) (λk=>by simp only[SD,cond_false])]
 ·rfl
 ·have:=rE hi;have hs:=VK t.L[i];simp only[wD hi,cond_true,HB hi,YA,lG,EF hi,CI (a:=t.L[i].Sn) (b:=b) (by omega) h.2]
def za9.ok{x}(_:xA [.v .Tab, .sl .byte] x){r}:ED x.1 x.2=some r→Qx x.1 x.2=some r:=UA λh=>zjc x.1 x.2 h
def zba.ok{x}(_:xA [.v .Tab, .sl .byte] x){r}:ED x.1 x.2=some r→Re x.1 x.2=some r:=UA λh=>zjc x.1 x.2 h
def zjb{t:Ao}{i:Nat}(hi:i<t.L.length):lG t t.L[i].Sn i=true:=by simp[lG,hi]
def zlb{t:Ao}(h:wt t≤bA){i:Nat}(hi:i<t.L.length):wt t.L[i]≤bA∧wt t.L[i].Sn≤bA:=by
 rw[XI]at h;have:=rE hi;have hs:=VK t.L[i];omega
def zo8(t:Ao)(h:wt t≤bA):Lu t=some (UC t):=by
 have hl:=eE (XI t▸h);simp only[Lu,aA,UC,bJ,HA h,ZJ (t.L.length:Int) 12,ZJ (live t) t.Cap]
 have key:qA FU (λ(x5:Int) k6=>cond (decide (x5<(t.L.length:Int))) (ob (kA t.L x5) λe9=>ob (FD e9) λr10=>cond (!r10) (cond true (some false) (k6 (iA .i64 x5 1))) (ob (kA t.L x5) λe11=>
   ob (ED t e11.Sn) λr12=>cond (r12 !=x5) (some false) (k6 (iA .i64 x5 1)))) (some true)) 0=some (!(FB t.L.length (XK t))):=by
  rw[GI t.L.length hl (XK t) (some false) (some true) (λi k hi=>?_) (λk=>by simp only[SD,cond_false])]
  ·cases FB _ _<;>rfl
  ·have hw:=zlb h hi;simp only[wD hi,cond_true,HB hi,YA,FD,HA hw.1,ED,HA (p:=wt t≤bA∧wt t.L[i].Sn≤bA) ⟨h,hw.2⟩,JE,(zfk hi (zjb hi)).2,XK,EF hi];cases uC t.L[i]<;>cases FB i _<;>rfl
 rw[key];cases eA t.Cap 1 6<;>cases decide ((t.L.length:Int)≤12)<;>cases decide (live t≤t.Cap)<;>rfl
def uR.ok{x}(_:xA [.v .Tab] x){r}:iG x=some r→Lu x=some r:=UA λh=>zo8 x h
def zo5(t:Ao)(h:wt t≤bA):Lj t=some (UC t):=by
 have hl:=eE (XI t▸h);simp only[Lj,aA,UC,bJ,HA h,ZJ (t.L.length:Int) 12,ZJ (live t) t.Cap]
 have key:qA FU (λ(x5:Int) k6=>cond (decide (x5<(t.L.length:Int))) (ob (kA t.L x5) λe9=>ob (FD e9) λr10=>cond (!r10) (cond true (some false) (k6 (iA .i64 x5 1)))
   (ob (ED t e9.Sn) λr12=>cond (decide (r12<x5)) (some false) (k6 (iA .i64 x5 1)))) (some true)) 0=some (!(FB t.L.length (XK t))):=by
  rw[GI t.L.length hl (XK t) (some false) (some true) (λi k hi=>?_) (λk=>by simp only[SD,cond_false])]
  ·cases FB _ _<;>rfl
  ·have hw:=zlb h hi;simp only[wD hi,cond_true,HB hi,YA,FD,HA hw.1,ED,HA (p:=wt t≤bA∧wt t.L[i].Sn≤bA) ⟨h,hw.2⟩,JE,(zfk hi (zjb hi)).1,XK,EF hi];cases uC t.L[i]<;>cases FB i _<;>rfl
 rw[key];cases eA t.Cap 1 6<;>cases decide ((t.L.length:Int)≤12)<;>cases decide (live t≤t.Cap)<;>rfl
def rR.ok{x}(_:xA [.v .Tab] x){r}:iG x=some r→Lj x=some r:=UA λh=>zo5 x h
end Go.D
namespace Go.D
def zk5(l:List Al)(a:Ai)(hl:l.length≤maxLen):(aA (λ(y1:Unit)=>some (-1)) λk2=>qA FU (λ(x3:Int) k4=>cond (decide (x3<(l.length:Int))) (Option.bind (kA l x3) λe5=>
  cond (cond (e5.A.Host==a.Host) (cond (e5.A.Port==a.Port) (true) false) false) (some x3) (k4 (iA .i64 x3 1))) (k2 ())) 0)=some (qB l a):=by
 simp only[aA,QJ];rw[zeZ l.length hl (JG l a) (λi k hi=>?_) (λk=>by simp only[SD,cond_false])]
 ·rfl
 ·simp only[wD hi,cond_true,HB hi,YA,JG,EF hi]
def zay.ok{x}(hb:xA [.sl .Credit, .v .Addr] x):Qy x.1 x.2=some (qB x.1 x.2):=zk5 x.1 x.2 hb.1.1
def zrR(a:Ai):PB a a=true:=by simp[PB]
def zsg{l:List Al}{i:Nat}(hi:i<l.length):JG l l[i].A i=true:=by simp[JG,hi,zrR]
def zvW{l:List Al}{i:Nat}(hi:i<l.length):decide (qB l l[i].A<(i:Int))=FB i (JG l l[i].A):=(zfk (p:=JG l l[i].A) hi (zsg hi)).1
def oP.ok{x}(hb:xA [.sl .Credit] x):Lk x=some (gD x):=by
 show Lk (x:List Al)=some (gD (x:List Al))
 have hl:(show List Al from x).length≤maxLen:=hb.1;generalize (show List Al from x)=l at hl⊢;simp only[Lk,aA,gD,ZJ (l.length:Int) 8];rw[GI l.length hl (DR l) (some false) (some true) (λi k hi=>?_) (λk=>by simp only[SD,cond_false])]
 ·cases decide ((l.length:Int)≤8)<;>cases FB _ _<;>rfl
 ·simp only[wD hi,cond_true,HB hi,YA,zvW hi,DR,EF hi];cases MA l[i].A<;>cases eA l[i].Got 0 1000000<;>cases eA l[i].Sent 0 _<;>cases FB i _<;>rfl
def lP.ok{x}(hb:xA [.sl .Credit] x):Lv x=some (gD x):=by
 show Lv (x:List Al)=some (gD (x:List Al))
 have hl:(show List Al from x).length≤maxLen:=hb.1;generalize (show List Al from x)=l at hl⊢;simp only[Lv,aA,gD,ZJ (l.length:Int) 8,QJ];rw[GI l.length hl (DR l) (some false) (some true) (λi k hi=>?_) (λk=>by simp only[SD,cond_false])]
 ·cases decide ((l.length:Int)≤8)<;>cases FB _ _<;>rfl
 ·simp only[wD hi,cond_true,HB hi,YA];rw[GI i (by omega) (JG l l[i].A) (some false) (k (iA .i64 (i:Int) 1)) (λj k' hj=>?_) (λk'=>by simp only[SD,cond_false])]
  ·simp only[DR,EF hi];cases MA l[i].A<;>cases eA l[i].Got 0 1000000<;>cases eA l[i].Sent 0 _<;>cases FB i _<;>rfl
  ·simp only[wD hj,cond_true,HB (Nat.lt_trans hj hi),HB hi,YA,JG,EF (Nat.lt_trans hj hi)]
def zbA.ok{x}(_:xA [.sl .byte] x):Qz x=some (CC x):=rfl
def zbD.ok{x}(_:xA [.sl .byte] x):Rf x=some (CC x):=rfl
def zim(s:Ac)(h:wt s≤bA):Ll s=some (fC s):=by
 rw[UL]at h;have hT:=XI s.T;simp only[Ll,aA,iG,HA (p:=wt s.T≤bA) (by omega),fC];rw[aS s.Psks (eE (by omega)) (λb=>!CC b) (some false) _ (λi k hi=>?_) (λk=>by simp only[SD,cond_false];rfl)]
 ·rw[aS s.T.L (eE (by omega)) (λe=>decide (e.Id>(s.Psks.length:Int))) (some false) (some true) (λi k hi=>?_) (λk=>by simp only[SD,cond_false])]
  ·cases eA (s.Psks.length:Int) 1 9<;>cases dF s.J<;>cases BC s.D<;>cases UC s.T<;>cases gD s.Cr<;>cases s.Psks.any _<;>cases s.T.L.any _<;>rfl
  ·simp only[wD hi,cond_true,HB hi,YA]
 ·simp only[wD hi,cond_true,HB hi,YA]
def FP.ok{x}(_:xA [.v .Server] x){r}:GC x=some r→Ll x=some r:=UA λh=>zim x h
def zav.ok{x}(_:xA [.v .Server] x){r}:GC x=some r→Rg x=some r:=UA λh=>zim x h
def zji(w:Am):(aA (λ(y1:Bool)=>some y1) λk2=>cond ((MA w.From)) (cond ((MA w.To)) (k2 (decide ((w.B.length:Int)≤200))) (k2 false)) (k2 false))=some (LC w):=by
 simp only[aA,WC,Bool.cond_false_right,LC,Bool.and_assoc]
def za8.ok{x}(_:xA [.v .Wire] x):Rl x=some (LC x):=zji x
def za4.ok{x}(_:xA [.v .Wire] x):Rh x=some (LC x):=zji x
def ziW(l:List Am)(hl:l.length≤maxLen):Mb l=some (WD l):=by
 simp only[Mb,aA,WD];rw[aS l hl (λw=>!LC w) (some false) _ (λi k hi=>?_) (λk=>by simp only[SD,cond_false];rfl)]
 ·cases l.any _<;>rfl
 ·simp only[wD hi,cond_true,HB hi,YA]
def rQ.ok{x}(hb:xA [.sl .Wire] x):Mb x=some (WD x):=ziW x hb.1
def zaz.ok{x}(hb:xA [.sl .Wire] x):Ri x=some (WD x):=ziW x hb.1
def znE(f g:Aa)(h:wt f≤bA∧wt g≤bA):Lm f g=some (NJ f g):=by
 simp only[uH]at h;simp(disch:=omega) only[Lm,aA,CI];simp only[WC,Bool.cond_false_right,NJ,Bool.and_assoc]
def dP.ok{x}(_:xA [.v .Frame, .v .Frame] x){r}:yN x.1 x.2=some r→Lm x.1 x.2=some r:=UA λh=>znE x.1 x.2 h
def zeJ(t:Av):(cond (t.On==false) (cond (t.Due==0) (cond (t.Wait==0) (cond (t.Tries==0) (true) false) false) false) false)=yF t:=by
 simp only[Bool.cond_false_right,yF,Bool.and_true,Bool.and_assoc]
def tQ.ok{x}(_:xA [.v .Timer] x):Ln x=some (qD x):=by
 show Ln (x:Av)=some (qD (x:Av))
 generalize (show Av from x)=t;simp only[Ln,zeJ,aA,qD];cases t.On
 ·rfl
 ·simp only[Bool.not_true,cond_false,cond_true,WC];cases eA t.Due 0 1000008<;>cases eA t.Tries 1 5<;>grind
def SP.ok{x}(_:xA [.v .Timer] x):Lw x=some (qD x):=by
 show Lw (x:Av)=some (qD (x:Av))
 generalize (show Av from x)=t;simp only[Lw,zeJ,aA,qD];cases t.On
 ·rfl
 ·simp only[Bool.not_true,cond_false,cond_true,WC];cases eA t.Due 0 1000008<;>cases eA t.Tries 1 5<;>grind
def PO.ok{x}(_:xA [.v .Frame] x):Lx x=some (zF x):=by
 show Lx (x:Aa)=some (zF (x:Aa))
 generalize (show Aa from x)=f;simp only[Lx,aA,WC,Bool.cond_false_right,zF,Bool.and_assoc]
def zbf.ok{x}(_:xA [.v .int] x):Ra x=some (gC x):=rfl
def zbi.ok{x}(_:xA [.v .int] x):Rj x=some (gC x):=rfl
def fU.ok{x}(_:xA [.v .int, .v .int] x):Pd x.1 x.2=some (VF x.1 x.2):=by
 simp only[Pd,aA,WC,VF];cases h5:x.1==(5:Int)<;>cases h4:x.1==(4:Int)<;>simp
def eU.ok{x}(_:xA [.v .int, .v .int] x):Pe x.1 x.2=some (VF x.1 x.2):=by
 simp only[Pe,aA,WC,VF];cases h5:x.1==(5:Int)<;>cases h4:x.1==(4:Int)<;>simp
def zfz(a b:Int):(a !=b)= !(a==b):=rfl
def yQ.ok{x}(_:xA [.v .Frame] x):Ly x=some (wB x):=by
 show Ly (x:Aa)=some (wB (x:Aa))
 generalize (show Aa from x)=f;simp only[Ly,aA,WC,Bool.cond_false_right,Bool.cond_false_left,Bool.cond_true_left,Bool.cond_true_right,wB,zfz];cases gC f.Kind
 ·simp only[cond_false];cases f.Epoch==0<;>cases f.Seq==0<;>cases(f.Body.length:Int)==0<;>cases(f.Tag.length:Int)==0<;>cases(f.Cn.length:Int)==12<;>simp[Bool.and_assoc]
 ·simp only[cond_true,Bool.and_assoc]
def zeA{k:Int}(h:gC k=true):(k==1)=false∧(k==2)=false∧(k==3)=false:=by
 rw[gC,YC]at h;exact⟨beq_false_of_ne (by omega),beq_false_of_ne (by omega),beq_false_of_ne (by omega)⟩
def DU(l:List UInt8):(l==[])=((l.length:Int)==0):=by rw[zne];cases l<;>rfl
def zom(f:Aa)(h:wt f≤bA):Lo f=some (wB f):=by
 have hs:∀g:Aa,wt g≤wt f→yN f g=some (NJ f g):=λg hg=>uA ⟨h,by omega⟩;have hw:=uH f;simp only[Lo,aA,WC,wB,oA];cases h1:f.Kind==1
 ·cases h2:f.Kind==2
  ·cases h3:f.Kind==3
   ·cases h4:gC f.Kind
    ·simp
    ·simp only[cond_true,cond_false];rw[hs _ (by simp only[uH,DG];omega)];simp only[NJ,beq_self_eq_true,DU,WC,Bool.cond_false_right];cases eA f.Epoch 0 4294967295<;>cases eA f.Seq 0 281474976710655<;>grind
   ·have h4 : gC f.Kind = false := by cases h4 : gC f.Kind; · rfl
                                      rw[(zeA h4).2.2]at h3;cases h3
    simp only[cond_true,cond_false,h4];rw[hs _ (by simp only[uH,DG];omega)];simp only[NJ,beq_self_eq_true,DU,WC,Bool.cond_false_right];cases eA f.Id 1 9<;>cases eA f.Tick 0 1000000<;>grind
  ·have h4 : gC f.Kind = false := by cases h4 : gC f.Kind; · rfl
                                     rw[(zeA h4).2.1]at h2;cases h2
   simp only[cond_true,cond_false,h4];rw[hs _ (by simp only[uH,DG];omega)];simp only[NJ,beq_self_eq_true,DU,WC,Bool.cond_false_right];cases eA f.Tick 0 1000000<;>grind
 ·have h4 : gC f.Kind = false := by cases h4 : gC f.Kind; · rfl
                                    rw[(zeA h4).1]at h1;cases h1
  simp only[cond_true,cond_false,h4];rw[hs _ (by simp only[uH,DG];omega)];simp only[NJ,beq_self_eq_true,DU,WC,Bool.cond_false_right];cases eA f.Id 1 9<;>grind
def WP.ok{x}(_:xA [.v .Frame] x){r}:TC x=some r→Lo x=some r:=UA λh=>zom x h
end Go.D
namespace Go.D
def zb2(c:Ad)(h:wt c≤bA):wt c.Psk≤bA∧wt c.Cn≤bA∧wt c.Fin≤bA∧wt c.C≤bA∧wt c.Fin.Cn≤bA∧wt c.Fin.Sn≤bA∧wt c.C.Sn≤bA∧wt c.C.Next≤bA∧wt c.C.Cur.Key≤bA:=by
 rw[cM]at h;have h1:=uH c.Fin;have h2:=xH c.C;have h3:=fL c.C.Cur;omega
def zn9(c:Ad)(h:wt c≤bA):Lp c=some (UJ c):=by
 have hw:=zb2 c h;simp only[Lp,aA,TC,sC,HA (p:=wt c.Fin≤bA) hw.2.2.1,HA (p:=wt c.C≤bA) hw.2.2.2.1,CI hw.2.2.2.2.1 hw.2.1,CI hw.2.2.2.2.2.2.1 hw.2.2.2.2.2.1];simp only[WC,Bool.cond_false_right,Bool.cond_false_left,Bool.cond_true_left,Bool.not_true,Bool.false_and,UJ,zfz,Bool.not_or,Bool.not_not,Bool.and_assoc]
def NP.ok{x}(_:xA [.v .Client] x){r}:zb8 x=some r→Lp x=some r:=UA λh=>zn9 x h
def zq7(f:Aa):NJ f (⟨0,0,[],[],0,[],[],0,0,[],[]⟩:Aa)=zF f:=by
 simp only[NJ,zF,DU]
 grind
def zws{c:Ad}(h:wt c.Fin≤bA):yN c.Fin (⟨0,0,[],[],0,[],[],0,0,[],[]⟩:Aa)=some (zF c.Fin):=by
 rw[yN,uA ⟨h,Nat.zero_le _⟩,zq7]
def zn2(c:Ad)(h:wt c≤bA):Lq c=some (aC c):=by
 have hw:=zb2 c h;simp only[Lq,aA,zeJ,zws hw.2.2.1,YA,sC,bO,zb8,HA (p:=wt c.C≤bA) hw.2.2.2.1,HA h];simp only[WC,Bool.cond_false_right,Bool.cond_false_left,Bool.cond_true_left,Bool.not_true,Bool.false_and,aC,Bool.not_or,Bool.not_not,Bool.and_assoc]
def HP.ok{x}(_:xA [.v .Client] x){r}:ID x=some r→Lq x=some r:=UA λh=>zn2 x h
def zjF{t:Av}(h:t.On=false):qD t=yF t:=by rw[qD,h];rfl
def zkv{t:Av}(h:t.On=true):yF t=false:=by rw[yF,h];rfl
def znQ(c:Ad)(h:wt c≤bA):Lz c=some (aC c):=by
 have hw:=zb2 c h;have hL:c.Last=0→eA c.Last 0 1000000=true:=λh=>by rw[h];rfl
 have hT0:=zjF (t:=c.T);have hT1:=zkv (t:=c.T);have hR0:=zjF (t:=c.R);have hR1:=zkv (t:=c.R)
 simp only[Lz,aA,sC,HA (p:=wt c.C≤bA) hw.2.2.2.1,CI hw.2.2.2.2.1 hw.2.1,CI hw.2.2.2.2.2.2.1 hw.2.2.2.2.2.1,
  WC,Bool.cond_false_right,Bool.cond_false_left,Bool.cond_true_left,aC,UJ,zfz,Bool.not_or,Bool.not_not,oA]
 refine congrArg some ?_;cases eA c.Id 1 9
 ·rfl
 cases CC c.Psk
 ·rfl
 cases MA c.At
 ·rfl
 simp only[Bool.true_and]
 by_cases s0:c.St=0
 ·simp only[s0,beq_self_eq_true,cond_true];cases hT:c.T.On<;>cases hR:c.R.On<;>simp_all<;>grind
 ·have e0:(c.St==0)=false:=beq_false_of_ne s0
  by_cases s3:c.St=3
  ·simp only[s3];cases hT:c.T.On<;>simp_all<;>grind
  ·have e3:(c.St==3)=false:=beq_false_of_ne s3;simp only[e0,e3,cond_false];cases hT:c.T.On
   ·simp
   ·cases hR:c.R.On
    ·by_cases s1:c.St=1
     ·simp_all;grind
     ·have e1:(c.St==1)=false:=beq_false_of_ne s1;simp only[e1,cond_false]
      by_cases s2:c.St=2
      ·simp_all;grind
      ·have e2:(c.St==2)=false:=beq_false_of_ne s2;simp[e2]
    ·simp_all
def IP.ok{x}(_:xA [.v .Client] x){r}:ID x=some r→Lz x=some r:=UA λh=>znQ x h
def zcz(w:Ab)(h:wt w≤bA):wt w.Clients≤bA∧wt w.S≤bA∧wt w.S.Psks≤bA∧wt w.S.T≤bA∧wt w.S.T.L≤bA∧wt w.Seen≤bA∧wt w.Known≤bA∧wt w.Notes≤bA:=by
 rw[KI]at h;have h1:=UL w.S;have h2:=XI w.S.T;omega
def zjn(l:List (List UInt8))(hl:l.length≤maxLen)(z:Option Bool):qA FU (λ(x16:Int) k17=>cond (decide (x16<(l.length:Int))) (Option.bind (kA l x16) λe18=>cond ((e18.length:Int) !=32) (some false) (k17 (iA .i64 x16 1))) z) 0
  =bif l.any λb=>(b.length:Int) !=32 then some false else z:=by
 rw[aS l hl (λb=>(b.length:Int) !=32) (some false) z (λi k hi=>?_) (λk=>by simp only[SD,cond_false])];simp only[wD hi,cond_true,HB hi,YA]
def zi0(l:List Ae)(hl:l.length≤maxLen)(z:Option Bool):qA FU (λ(x16:Int) k17=>cond (decide (x16<(l.length:Int))) (Option.bind (kA l x16) λe18=>cond (!(tC e18)) (some false) (k17 (iA .i64 x16 1))) z) 0
  =bif l.any λn=>!tC n then some false else z:=by
 rw[aS l hl (λn=>!tC n) (some false) z (λi k hi=>?_) (λk=>by simp only[SD,cond_false])];simp only[wD hi,cond_true,HB hi,YA]
def zr1{w:Ab}(h:wt w≤bA){i:Nat}(hi:i<w.Clients.length):wt w.Clients[i]≤bA:=by
 have:=rE hi;have:=(zcz w h).1;omega
def zid(w:Ab)(h:wt w≤bA)(hc:w.Clients.length=2)(hp:w.S.Psks.length=2)(z:Option Bool){f:Int→(Int→Option Bool)→Option Bool}
  (hf:∀ (i:Nat) k (h:i<w.Clients.length) (h':i<w.S.Psks.length),wt w.Clients[i]≤bA→wt w.Clients[i].Psk≤bA→wt w.S.Psks[i]≤bA→IntKind.wrap .i64 ((i:Int)+1)=((i+1:Nat):Int)→
   f (i:Int) k=bif !aC w.Clients[i]||w.Clients[i].Id !=((i+1:Nat):Int)||!(w.Clients[i].Psk==w.S.Psks[i])then some false else k (IntKind.wrap .i64 ((i:Int)+1)))
  (hz:∀k,f (2:Int) k=z):qA FU f 0=bif FB 2 (TH w)then some false else z:=by
 rw[GI 2 (by decide) (TH w) (some false) z (λi k hi=>?_) hz];have h1:=zr1 h (i:=i) (by omega);have h2:=(zb2 _ h1).1;have h3:=rE (l:=w.S.Psks) (i:=i) (by omega);have h4:=(zcz w h).2.2.1;rw[hf i k (by omega) (by omega) h1 h2 (by omega) (wG i (by rw[tD];omega)),TH,EF (by omega),EF (by omega)]
def zoq(w:Ab)(h:wt w≤bA):Mc w=some (oB w):=by
 have hw:=zcz w h;simp only[Mc,aA,GC,HA (p:=wt w.S≤bA) hw.2.1,oB]
 by_cases hc:w.Clients.length=2
 ·by_cases hp:w.S.Psks.length=2
  ·have c1:((w.Clients.length:Int) !=2)=false:=by simp[hc]
   have c2:((w.Clients.length:Int)==2)=true:=by simp[hc]
   have p1:((w.S.Psks.length:Int) !=2)=false:=by simp[hp]
   have p2:((w.S.Psks.length:Int)==2)=true:=by simp[hp]
   rw[c1,c2,p1,p2,zi0 w.Notes (eE hw.2.2.2.2.2.2.2),zjn w.Known (eE hw.2.2.2.2.2.2.1),zid w h hc hp _ (λi k hi kW w1 w2 w3 he=>?_) (λk=>by rw[hc];exact cond_false _ _)]
   ·rw[ZJ];cases eA w.Now 0 1000000
    ·rfl
    cases fC w.S
    ·rfl
    cases BC w.D
    ·rfl
    cases WD w.Seen
    ·rfl
    cases decide ((w.Known.length:Int)≤12)
    ·rfl
    cases FB 2 (TH w)
    ·cases w.Known.any _
     ·cases w.Notes.any _<;>rfl
     ·rfl
    ·rfl
   ·simp only[wD hi,cond_true,HB hi,HB kW,YA,ID,HA w1,CI w2 w3];simp only[iA,he];cases aC w.Clients[i]<;>cases w.Clients[i].Id !=((i+1:Nat):Int)<;>cases w.Clients[i].Psk==w.S.Psks[i]<;>rfl
  ·have p1:((w.S.Psks.length:Int) !=2)=true:=by simp;omega
   have p2:((w.S.Psks.length:Int)==2)=false:=by simp;omega
   rw[p1,p2];simp
 ·have c1:((w.Clients.length:Int) !=2)=true:=by simp;omega
  have c2:((w.Clients.length:Int)==2)=false:=by simp;omega
  rw[c1,c2];simp
def hQ.ok{x}(_:xA [.v .World] x){r}:bE x=some r→Mc x=some r:=UA λh=>zoq x h
def zol(w:Ab)(h:wt w≤bA):Ma w=some (oB w):=by
 have hw:=zcz w h;simp only[Ma,aA,GC,HA (p:=wt w.S≤bA) hw.2.1,oB]
 by_cases hc:w.Clients.length=2
 ·by_cases hp:w.S.Psks.length=2
  ·have c1:((w.Clients.length:Int) !=2)=false:=by simp[hc]
   have c2:((w.Clients.length:Int)==2)=true:=by simp[hc]
   have p1:((w.S.Psks.length:Int) !=2)=false:=by simp[hp]
   have p2:((w.S.Psks.length:Int)==2)=true:=by simp[hp]
   rw[c1,c2,p1,p2,zi0 w.Notes (eE hw.2.2.2.2.2.2.2),zjn w.Known (eE hw.2.2.2.2.2.2.1),zid w h hc hp _ (λi k hi kW w1 w2 w3 he=>?_) (λk=>by exact cond_false _ _)]
   ·rw[ZJ];cases eA w.Now 0 1000000
    ·rfl
    cases fC w.S
    ·rfl
    cases BC w.D
    ·rfl
    cases WD w.Seen
    ·rfl
    cases decide ((w.Known.length:Int)≤12)
    ·rfl
    cases FB 2 (TH w)
    ·cases w.Known.any _
     ·cases w.Notes.any _<;>rfl
     ·rfl
    ·rfl
   ·have e:decide ((i:Int)<2)=true:=decide_eq_true (by omega);simp only[e,cond_true,HB hi,HB kW,YA,ID,HA w1,CI w2 w3];simp only[iA,he];cases aC w.Clients[i]<;>cases w.Clients[i].Id !=((i+1:Nat):Int)<;>cases w.Clients[i].Psk==w.S.Psks[i]<;>rfl
  ·have p1:((w.S.Psks.length:Int) !=2)=true:=by simp;omega
   have p2:((w.S.Psks.length:Int)==2)=false:=by simp;omega
   rw[p1,p2];simp
 ·have c1:((w.Clients.length:Int) !=2)=true:=by simp;omega
  have c2:((w.Clients.length:Int)==2)=false:=by simp;omega
  rw[c1,c2];simp
def cQ.ok{x}(_:xA [.v .World] x){r}:bE x=some r→Ma x=some r:=UA λh=>zol x h
end Go.D
namespace Go.D
end Go.D
