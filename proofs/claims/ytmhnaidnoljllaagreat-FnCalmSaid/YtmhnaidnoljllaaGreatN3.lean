/-
 Sizes of the program's data.
-/
import Derived.Test.YtmhnaidnoljllaaGreatN2
set_option linter.all false
namespace Go.D
instance:Wt Al:=⟨λx=>wt x.A⟩
instance:Wt Ab:=⟨λx=>wt x.Cn+wt x.Sn+wt x.Cookie+wt x.Proof+wt x.Body+wt x.Tag⟩
def YH(x:Ab):wt x=wt x.Cn+wt x.Sn+wt x.Cookie+wt x.Proof+wt x.Body+wt x.Tag:=rfl
instance:Wt Au:=⟨λ_=>0⟩
def zb0(x:Au):wt x=0:=rfl
instance:Wt Ae:=⟨λx=>wt x.Psk+wt x.At+wt x.Cn+wt x.Fin+wt x.C+wt x.T+wt x.R⟩
def UN(x:Ae):wt x=wt x.Psk+wt x.At+wt x.Cn+wt x.Fin+wt x.C+wt x.T+wt x.R:=rfl
instance:Wt Ax:=⟨λx=>wt x.Secret⟩
def bV(x:Ax):wt x=wt x.Secret:=rfl
instance:Wt As:=⟨λx=>wt x.Seed⟩
def WK(x:As):wt x=wt x.Seed:=rfl
instance:Wt Aw:=⟨λx=>wt x.A+wt x.Draw⟩
def zcC(x:Aw):wt x=wt x.A+wt x.Draw:=rfl
instance:Wt Ah:=⟨λx=>wt x.At+wt x.Cands⟩
def bK(x:Ah):wt x=wt x.At+wt x.Cands:=rfl
instance:Wt Ai:=⟨λx=>wt x.Cn+wt x.Sn+wt x.C+wt x.P⟩
def rM(x:Ai):wt x=wt x.Cn+wt x.Sn+wt x.C+wt x.P:=rfl
instance:Wt Ao:=⟨λx=>wt x.L⟩
def jK(x:Ao):wt x=wt x.L:=rfl
instance:Wt Ac:=⟨λx=>wt x.Psks+wt x.J+wt x.D+wt x.T+wt x.Cr⟩
def IN(x:Ac):wt x=wt x.Psks+wt x.J+wt x.D+wt x.T+wt x.Cr:=rfl
instance:Wt Ak:=⟨λx=>wt x.From+wt x.To+wt x.B⟩
def zcA(x:Ak):wt x=wt x.From+wt x.To+wt x.B:=rfl
instance:Wt Aa:=⟨λx=>wt x.Clients+wt x.S+wt x.D+wt x.Seen+wt x.Known+wt x.Notes⟩
def gG(x:Aa):wt x=wt x.Clients+wt x.S+wt x.D+wt x.Seen+wt x.Known+wt x.Notes:=rfl
end Go.D
namespace Go.D
noncomputable section
def aC(i:Int):Af:=if 0≤i∧i≤255 then⟨167772160+i,7000+i⟩else⟨0,0⟩
def LD:Af:=aC 0
def vB(a b:Af):Bool:=a.Host==b.Host&&a.Port==b.Port
def tE(n k:Int):Bool:=n==0||n==k
def LC(b:List UInt8)(n:Int):Bool:=tE (b.length:Int) n
def nC(n:Ad):Bool:=eA n.Kind 1 17&&eA n.Id 0 9&&eA n.Role 0 1&&LC n.Cn 12&&LC n.Sn 12&&eA n.Epoch 0 4294967295&&eA n.Seq 0 281474976710655&&decide ((n.Body.length:Int)≤100)&&LC n.Key 32&&GA n.A&&eA n.Now 0 1000000
def sM(w:Aa)(a:Af):Int:=bif vB a LD then 0 else match w.Clients.find? λc=>vB c.At a with
 | some c=>c.Id
 | none=> -1
def dI(w:Aa)(a:Af):Option Int:=pt (wt w≤bA) (sM w a)
def UE(j:Ax):Bool:=(j.Secret.length:Int)==32
def YB(d:As):Bool:=eA (d.Seed.length:Int) 1 32&&eA d.N 0 10000
def live(t:Ao):Int:=t.L.foldl (λs e=>bif e.Dead then s else gA .i64 s 1) 0
def aJ(t:Ao):Option Int:=pt (wt t≤bA) (live t)
def iC(c:Am):Bool:=c.Role==0&&(c.Sn.length:Int)==0&&JF c.Cur&&JF c.Old&&!c.HasOld&&c.Until==0&&(c.Next.length:Int)==0
def jO(c:Am):Option Bool:=pt (wt c≤bA) (iC c)
def mO(p:Ah)(i:Nat):Bool:=(p.Cands[i]?).any λe=>!GA e.A||!mA e.Draw||!eA e.Until 0 1000006||vB e.A p.At||wB i λj=>(p.Cands[j]?).any λd=>vB d.A e.A
def gC(p:Ah):Bool:=GA p.At&&decide ((p.Cands.length:Int)≤3)&&!(wB p.Cands.length (mO p))
def kC(s:Ai):Bool:=eA s.Id 1 9&&mA s.Cn&&mA s.Sn&&eA s.Tick 0 1000000&&bif s.Dead then iC s.C&&vB s.P.At ⟨0,0⟩&&(s.P.Cands.length:Int)==0&&s.Last==0
 else XB s.C&&s.C.Role==1&&s.C.Sn==s.Sn&&gC s.P&&eA s.Last 0 1000000
def AD(s:Ai):Option Bool:=pt (wt s≤bA) (kC s)
def mG(t:Ao)(b:List UInt8)(i:Nat):Bool:=(t.L[i]?).any λe=>e.Sn==b
def AE(t:Ao)(b:List UInt8):Int:=FH t.L.length (mG t b)
def zD(t:Ao)(b:List UInt8):Option Int:=pt (wt t≤bA∧wt b≤bA) (AE t b)
def bL(t:Ao)(i:Nat):Bool:=(t.L[i]?).any λe=>!kC e||wB i (mG t e.Sn)
def OC(t:Ao):Bool:=eA t.Cap 1 6&&decide ((t.L.length:Int)≤12)&&decide (live t≤t.Cap)&&!(wB t.L.length (bL t))
def jG(t:Ao):Option Bool:=pt (wt t≤bA) (OC t)
def HG(l:List Al)(a:Af)(i:Nat):Bool:=(l[i]?).any λc=>vB c.A a
def fB(l:List Al)(a:Af):Int:=FH l.length (HG l a)
def ER(l:List Al)(i:Nat):Bool:=(l[i]?).any λc=>!GA c.A||!eA c.Got 0 1000000||!eA c.Sent 0 (KB .i64 3 c.Got)||wB i (HG l c.A)
def UC(l:List Al):Bool:=decide ((l.length:Int)≤8)&&!(wB l.length (ER l))
def vC(b:List UInt8):Bool:=eA (b.length:Int) 1 32
def BB(s:Ac):Bool:=eA (s.Psks.length:Int) 1 9&&UE s.J&&YB s.D&&OC s.T&&UC s.Cr&&!(s.Psks.any λb=>!vC b)&&!(s.T.L.any λe=>decide (e.Id>(s.Psks.length:Int)))
def CC(s:Ac):Option Bool:=pt (wt s≤bA) (BB s)
def lE(w:Ak):Bool:=GA w.From&&GA w.To&&decide ((w.B.length:Int)≤200)
def fE(l:List Ak):Bool:=!(l.any λw=>!lE w)&&decide ((l.length:Int)≤90)
def QJ(f g:Ab):Bool:=f.Kind==g.Kind&&f.Id==g.Id&&f.Tick==g.Tick&&f.Epoch==g.Epoch&&f.Seq==g.Seq&&f.Cn==g.Cn&&f.Sn==g.Sn&&f.Cookie==g.Cookie&&f.Proof==g.Proof&&f.Body==g.Body&&f.Tag==g.Tag
def CN(f g:Ab):Option Bool:=pt (wt f≤bA∧wt g≤bA) (QJ f g)
def vF(t:Au):Bool:=t.On==false&&t.Due==0&&t.Wait==0&&t.Tries==0
def NC(t:Au):Bool:=bif t.On then eA t.Due 0 1000008&&(t.Wait==1||t.Wait==2||t.Wait==4||t.Wait==8)&&eA t.Tries 1 5 else vF t
def wF(f:Ab):Bool:=f.Kind==0&&f.Id==0&&(f.Cn.length:Int)==0&&(f.Sn.length:Int)==0&&f.Tick==0&&(f.Cookie.length:Int)==0&&(f.Proof.length:Int)==0&&f.Epoch==0&&f.Seq==0&&(f.Body.length:Int)==0&&(f.Tag.length:Int)==0
def PB(k:Int):Bool:=eA k 4 8
def UF(k n:Int):Bool:=bif k==4 then decide (n≤40)else bif k==5||k==6 then n==12 else n==4
def oB(f:Ab):Bool:=
 bif PB f.Kind then f.Id==0&&(f.Cn.length:Int)==0&&(f.Sn.length:Int)==12&&f.Tick==0&&(f.Cookie.length:Int)==0&&(f.Proof.length:Int)==0&&eA f.Epoch 0 4294967295&&eA f.Seq 0 281474976710655&&UF f.Kind (f.Body.length:Int)&&(f.Tag.length:Int)==16
 else f.Epoch==0&&f.Seq==0&&(f.Body.length:Int)==0&&(f.Tag.length:Int)==0&&(f.Cn.length:Int)==12&&
  bif f.Kind==1 then eA f.Id 1 9&&(f.Sn.length:Int)==0&&f.Tick==0&&(f.Cookie.length:Int)==0&&(f.Proof.length:Int)==0
  else bif f.Kind==2 then f.Id==0&&(f.Sn.length:Int)==12&&eA f.Tick 0 1000000&&(f.Cookie.length:Int)==16&&(f.Proof.length:Int)==0
  else f.Kind==3&&eA f.Id 1 9&&(f.Sn.length:Int)==12&&eA f.Tick 0 1000000&&(f.Cookie.length:Int)==16&&(f.Proof.length:Int)==16
def FC(f:Ab):Option Bool:=pt (wt f≤bA) (oB f)
def MI(c:Ae):Bool:=mA c.Cn&&c.Fin.Kind==3&&oB c.Fin&&c.Fin.Id==c.Id&&c.Fin.Cn==c.Cn&&XB c.C&&c.C.Role==0&&c.C.Sn==c.Fin.Sn&&c.C.Cur.N==0&&!c.C.HasOld&&(c.C.Next.length:Int)==0
def zbD(c:Ae):Option Bool:=pt (wt c≤bA) (MI c)
def dB(c:Ae):Bool:=eA c.Id 1 9&&vC c.Psk&&GA c.At&&
 bif c.St==0 then(c.Cn.length:Int)==0&&wF c.Fin&&iC c.C&&vF c.T&&vF c.R&&c.Last==0
 else bif c.St==1 then mA c.Cn&&wF c.Fin&&iC c.C&&c.T.On&&NC c.T&&vF c.R&&c.Last==0
 else bif c.St==2 then MI c&&c.T.On&&NC c.T&&vF c.R&&c.Last==0
 else c.St==3&&mA c.Cn&&wF c.Fin&&XB c.C&&c.C.Role==0&&vF c.T&&NC c.R&&c.R.On==decide ((c.C.Next.length:Int)>0)&&eA c.Last 0 1000000
def KC(c:Ae):Option Bool:=pt (wt c≤bA) (dB c)
def GI(w:Aa)(i:Nat):Bool:=(w.Clients[i]?).any λc=>(w.S.Psks[i]?).any λp=>!dB c||c.Id !=((i+1:Nat):Int)||!(c.Psk==p)
def ZA(w:Aa):Bool:=eA w.Now 0 1000000&&(w.Clients.length:Int)==2&&BB w.S&&(w.S.Psks.length:Int)==2&&YB w.D&&fE w.Seen&&decide ((w.Known.length:Int)≤12)&&
 !(wB 2 (GI w))&&!(w.Known.any λb=>(b.length:Int) !=32)&&!(w.Notes.any λn=>!nC n)
def eE(w:Aa):Option Bool:=pt (wt w≤bA) (ZA w)
def OU(w:Aa):Bool:=ZA w&&!(w.Clients.any λc=>c.St==1||c.St==2)
def zff(w:Aa):Option Bool:=pt (wt w≤bA) (OU w)
def zlW:Av:=⟨0,[],0,⟨0,[]⟩⟩
end
end Go.D
namespace Go.D
open Option renaming bind→ob
noncomputable section
def Ot(a0:Af):=
 aA (λ(y1:Bool)=>
 some y1) λk2=>
 cond ((eA a0.Host 0 4294967295))
 (k2 (eA a0.Port 0 65535))
 (k2 false)
def Nd(a0:List UInt8)(a1:Int):=
 aA (λ(y1:Bool)=>
 some y1) λk2=>
 cond ((a0.length:Int)==0)
 (k2 true)
 (k2 ((a0.length:Int)==a1))
def Ou(a0:Af):=
 aA (λ(y1:Bool)=>
 some y1) λk2=>
 cond ((eA a0.Host 0 4294967295))
 (k2 (eA a0.Port 0 65535))
 (k2 false)
def Kb(a0:Ad):=
 aA (λ(y1:Bool)=>
 some y1) λk2=>
 cond ((eA a0.Kind 1 17))
 (cond ((eA a0.Id 0 9))
 (cond ((eA a0.Role 0 1))
 (cond ((eA a0.Epoch 0 4294967295))
 (cond ((eA a0.Seq 0 281474976710655))
 (cond ((eA a0.Now 0 1000000))
 (cond ((LC a0.Cn 12))
 (cond ((LC a0.Sn 12))
 (cond (decide ((a0.Body.length:Int)≤100))
 (cond ((LC a0.Key 32))
 (k2 (GA a0.A))
 (k2 false))
 (k2 false))
 (k2 false))
 (k2 false))
 (k2 false))
 (k2 false))
 (k2 false))
 (k2 false))
 (k2 false))
 (k2 false)
def Ov(a0:Int):=
 cond (!(eA a0 0 255))
 (some (⟨0,0⟩:Af))
 (some (⟨gA .i64 167772160 a0,gA .i64 7000 a0⟩:Af))
def Ow:=
 let r1:Af:=aC 0
 some r1
def Kc(a0:Aa)(a1:Af):=
 let r1:Af:=LD;let x2:Bool:=cond (a1.Host==r1.Host) (cond (a1.Port==r1.Port) (true) false) false
 cond (x2)
 (some 0)
 (aA (λ(y3:Unit)=>
 some (-1)) λk4=>
 wA FU (λ(x5:Int) k6=>
 cond (decide (x5<(a0.Clients.length:Int)))
 (ob (nA a0.Clients x5) λe7=>
 let x8:Bool:=cond (e7.At.Host==a1.Host) (cond (e7.At.Port==a1.Port) (true) false) false
 cond (x8)
 (ob (nA a0.Clients x5) λe9=>
 some e9.Id)
 (k6 (gA .i64 x5 1)))
 (k4 ())) 0)
def Ox(a0:Int):=
 cond (!(eA a0 0 255))
 (some (⟨0,0⟩:Af))
 (some (⟨gA .i64 167772160 a0,gA .i64 7000 a0⟩:Af))
def Oy:=
 let r1:Af:=aC 0
 some r1
def Kd(a0:Aa)(a1:Af):=
 let r1:Af:=LD;let x2:Bool:=cond (a1.Host==r1.Host) (cond (a1.Port==r1.Port) (true) false) false
 cond (x2)
 (some 0)
 (aA (λ(y3:Unit)=>
 some (-1)) λk4=>
 wA FU (λ(x5:Int) k6=>
 cond (decide (x5<(a0.Clients.length:Int)))
 (ob (nA a0.Clients x5) λe7=>
 let x8:Bool:=cond (e7.At.Host==a1.Host) (cond (e7.At.Port==a1.Port) (true) false) false
 cond (x8)
 (some e7.Id)
 (k6 (gA .i64 x5 1)))
 (k4 ())) 0)
def Oz(a0:As):=
 aA (λ(y1:Bool)=>
 some y1) λk2=>
 let r3:Bool:=eA (a0.Seed.length:Int) 1 32
 cond (r3)
 (k2 (eA a0.N 0 10000))
 (k2 false)
def Pa(a0:Ax):=
 some ((a0.Secret.length:Int)==32)
def Pb(a0:Ao):=
 aA (λ(y1:Int)=>
 some y1) λk2=>
 wA FU (λ(x3:Int×Int) k4=>
 cond (decide (x3.2<(a0.L.length:Int)))
 (ob (nA a0.L x3.2) λe5=>
 aA (λ(y6:Int)=>
 k4 (y6,(gA .i64 x3.2 1))) λk7=>
 cond (!e5.Dead)
 (k7 (gA .i64 x3.1 1))
 (k7 x3.1))
 (k2 x3.1)) (0,0)
def Ke(a0:Am):=
 aA (λ(y1:Bool)=>
 some y1) λk2=>
 cond (a0.Role==0)
 (cond ((a0.Sn.length:Int)==0)
 (ob (nO a0.Cur (⟨0,[],0,(⟨0,[]⟩:Ap)⟩:Av)) λr3=>
 cond (r3)
 (ob (nO a0.Old (⟨0,[],0,(⟨0,[]⟩:Ap)⟩:Av)) λr4=>
 cond (r4)
 (cond (!a0.HasOld)
 (cond (a0.Until==0)
 (k2 ((a0.Next.length:Int)==0))
 (k2 false))
 (k2 false))
 (k2 false))
 (k2 false))
 (k2 false))
 (k2 false)
def Kf(a0:Ah):=
 aA (λy1=>
 cond (y1)
 (some false)
 (aA (λ(y3:Unit)=>
 some true) λk4=>
 wA FU (λ(x5:Int) k6=>
 cond (decide (x5<(a0.Cands.length:Int)))
 (ob (nA a0.Cands x5) λe7=>
 aA (λy8=>
 cond (y8)
 (some false)
 (cond (decide (0≤(0:Int))&&decide ((0:Int)≤x5)&&decide (x5≤(a0.Cands.length:Int))) (let l11:List Aw:=List.take ((x5 - 0).toNat) (List.drop 0 a0.Cands)
 aA (λ(y12:Unit)=>
 k6 (gA .i64 x5 1)) λk13=>
 wA FU (λ(x14:Int) k15=>
 cond (decide (x14<(l11.length:Int)))
 (ob (nA l11 x14) λe16=>
 let x17:Bool:=cond (e16.A.Host==e7.A.Host) (cond (e16.A.Port==e7.A.Port) (true) false) false
 cond (x17)
 (some false)
 (k15 (gA .i64 x14 1)))
 (k13 ())) 0) none)) λk9=>
 cond (!(GA e7.A))
 (k9 true)
 (let x10:Bool:=cond (e7.A.Host==a0.At.Host) (cond (e7.A.Port==a0.At.Port) (true) false) false
 cond (x10)
 (k9 true)
 (cond (!(mA e7.Draw))
 (k9 true)
 (k9 (!(eA e7.Until 0 1000006))))))
 (k4 ())) 0)) λk2=>
 cond (!(GA a0.At))
 (k2 true)
 (k2 (decide ((a0.Cands.length:Int)>3)))
def Kg(a0:Ai):=
 aA (λy1=>
 cond (y1)
 (some false)
 (cond (a0.Dead)
 (aA (λ(y3:Bool)=>
 some y3) λk4=>
 ob (jO a0.C) λr5=>
 cond (r5)
 (let x6:Bool:=cond (a0.P.At.Host==0) (cond (a0.P.At.Port==0) (true) false) false
 cond (x6)
 (cond ((a0.P.Cands.length:Int)==0)
 (k4 (a0.Last==0))
 (k4 false))
 (k4 false))
 (k4 false))
 (aA (λ(y7:Bool)=>
 some y7) λk8=>
 ob (jC a0.C) λr9=>
 cond (r9)
 (cond (a0.C.Role==1)
 (ob (DB a0.C.Sn a0.Sn) λr10=>
 cond (r10)
 (cond ((gC a0.P))
 (k8 (eA a0.Last 0 1000000))
 (k8 false))
 (k8 false))
 (k8 false))
 (k8 false)))) λk2=>
 cond (!(eA a0.Id 1 9))
 (k2 true)
 (cond (!(mA a0.Cn))
 (k2 true)
 (cond (!(mA a0.Sn))
 (k2 true)
 (k2 (!(eA a0.Tick 0 1000000)))))
def Pd(a0:Ao)(a1:List UInt8):=
 aA (λ(y1:Unit)=>
 some (-1)) λk2=>
 wA FU (λ(x3:Int) k4=>
 cond (decide (x3<(a0.L.length:Int)))
 (ob (nA a0.L x3) λe5=>
 ob (DB e5.Sn a1) λr6=>
 cond (r6)
 (some x3)
 (k4 (gA .i64 x3 1)))
 (k2 ())) 0
def Kh(a0:Ao):=
 aA (λy1=>
 cond (y1)
 (some false)
 (aA (λ(y4:Unit)=>
 some true) λk5=>
 wA FU (λ(x6:Int) k7=>
 cond (decide (x6<(a0.L.length:Int)))
 (ob (nA a0.L x6) λe8=>
 aA (λy9=>
 cond (y9)
 (some false)
 (k7 (gA .i64 x6 1))) λk10=>
 ob (AD e8) λr11=>
 cond (!r11)
 (k10 true)
 (ob (zD a0 e8.Sn) λr12=>
 k10 (decide (r12<x6))))
 (k5 ())) 0)) λk2=>
 cond (!(eA a0.Cap 1 6))
 (k2 true)
 (cond (decide ((a0.L.length:Int)>12))
 (k2 true)
 (ob (aJ a0) λr3=>
 k2 (decide (r3>a0.Cap))))
def Pe(a0:List Al)(a1:Af):=
 aA (λ(y1:Unit)=>
 some (-1)) λk2=>
 wA FU (λ(x3:Int) k4=>
 cond (decide (x3<(a0.length:Int)))
 (ob (nA a0 x3) λe5=>
 let x6:Bool:=cond (e5.A.Host==a1.Host) (cond (e5.A.Port==a1.Port) (true) false) false
 cond (x6)
 (some x3)
 (k4 (gA .i64 x3 1)))
 (k2 ())) 0
def Ki(a0:List Al):=
 cond (decide ((a0.length:Int)>8))
 (some false)
 (aA (λ(y1:Unit)=>
 some true) λk2=>
 wA FU (λ(x3:Int) k4=>
 cond (decide (x3<(a0.length:Int)))
 (ob (nA a0 x3) λe5=>
 aA (λy6=>
 cond (y6)
 (some false)
 (k4 (gA .i64 x3 1))) λk7=>
 cond (!(GA e5.A))
 (k7 true)
 (cond (!(eA e5.Got 0 1000000))
 (k7 true)
 (let r8:Bool:=eA e5.Sent 0 (KB .i64 3 e5.Got)
 cond (!r8)
 (k7 true)
 (k7 (decide ((fB a0 e5.A)<x3))))))
 (k2 ())) 0)
def Pf(a0:List UInt8):=
 some (eA (a0.length:Int) 1 32)
def Kj(a0:Ac):=
 aA (λy1=>
 cond (y1)
 (some false)
 (aA (λ(y4:Unit)=>
 aA (λ(y9:Unit)=>
 some true) λk10=>
 wA FU (λ(x11:Int) k12=>
 cond (decide (x11<(a0.T.L.length:Int)))
 (ob (nA a0.T.L x11) λe13=>
 cond (decide (e13.Id>(a0.Psks.length:Int)))
 (some false)
 (k12 (gA .i64 x11 1)))
 (k10 ())) 0) λk5=>
 wA FU (λ(x6:Int) k7=>
 cond (decide (x6<(a0.Psks.length:Int)))
 (ob (nA a0.Psks x6) λe8=>
 cond (!(vC e8))
 (some false)
 (k7 (gA .i64 x6 1)))
 (k5 ())) 0)) λk2=>
 cond (!(eA (a0.Psks.length:Int) 1 9))
 (k2 true)
 (cond (!(UE a0.J))
 (k2 true)
 (cond (!(YB a0.D))
 (k2 true)
 (ob (jG a0.T) λr3=>
 cond (!r3)
 (k2 true)
 (k2 (!(UC a0.Cr))))))
def Kk(a0:Ab)(a1:Ab):=
 aA (λ(y1:Bool)=>
 some y1) λk2=>
 cond (a0.Kind==a1.Kind)
 (cond (a0.Id==a1.Id)
 (cond (a0.Tick==a1.Tick)
 (cond (a0.Epoch==a1.Epoch)
 (cond (a0.Seq==a1.Seq)
 (ob (DB a0.Cn a1.Cn) λr3=>
 cond (r3)
 (ob (DB a0.Sn a1.Sn) λr4=>
 cond (r4)
 (ob (DB a0.Cookie a1.Cookie) λr5=>
 cond (r5)
 (ob (DB a0.Proof a1.Proof) λr6=>
 cond (r6)
 (ob (DB a0.Body a1.Body) λr7=>
 cond (r7)
 (ob (DB a0.Tag a1.Tag) λr8=>
 k2 r8)
 (k2 false))
 (k2 false))
 (k2 false))
 (k2 false))
 (k2 false))
 (k2 false))
 (k2 false))
 (k2 false))
 (k2 false))
 (k2 false)
def Kl(a0:Au):=
 cond (!a0.On)
 (let x1:Bool:=cond (a0.On==false) (cond (a0.Due==0) (cond (a0.Wait==0) (cond (a0.Tries==0) (true) false) false) false) false
 some x1)
 (aA (λ(y2:Bool)=>
 aA (λ(y4:Bool)=>
 some y4) λk5=>
 cond ((eA a0.Due 0 1000008))
 (cond (y2)
 (k5 (eA a0.Tries 1 5))
 (k5 false))
 (k5 false)) λk3=>
 cond (a0.Wait==1)
 (k3 true)
 (cond (a0.Wait==2)
 (k3 true)
 (cond (a0.Wait==4)
 (k3 true)
 (k3 (a0.Wait==8)))))
def Pg(a0:Int):=
 some (eA a0 4 8)
def Nf(a0:Int)(a1:Int):=
 cond (a0==4)
 (some (decide (a1≤40)))
 (aA (λy1=>
 cond (y1)
 (some (a1==12))
 (some (a1==4))) λk2=>
 cond (a0==5)
 (k2 (a0==5))
 (k2 (a0==6)))
def Km(a0:Ab):=
 aA (λ(y1:Bool×Ab)=>
 aA (λ(y18:Bool)=>
 some y18) λk19=>
 cond (y1.1)
 (ob (CN a0 y1.2) λr20=>
 k19 r20)
 (k19 false)) λk2=>
 cond (a0.Kind==1)
 (aA (λ(y3:Bool)=>
 k2 (y3,(⟨a0.Kind,a0.Id,a0.Cn,[],0,[],[],0,0,[],[]⟩:Ab))) λk4=>
 cond ((eA a0.Id 1 9))
 (k4 (mA a0.Cn))
 (k4 false))
 (aA (λ(y5:Bool×Ab)=>
 k2 (y5.1,y5.2)) λk6=>
 cond (a0.Kind==2)
 (aA (λ(y7:Bool)=>
 k6 (y7,(⟨a0.Kind,0,a0.Cn,a0.Sn,a0.Tick,a0.Cookie,[],0,0,[],[]⟩:Ab))) λk8=>
 cond ((mA a0.Cn))
 (cond ((mA a0.Sn))
 (cond ((eA a0.Tick 0 1000000))
 (k8 ((a0.Cookie.length:Int)==16))
 (k8 false))
 (k8 false))
 (k8 false))
 (aA (λ(y9:Bool×Ab)=>
 k6 (y9.1,y9.2)) λk10=>
 cond (a0.Kind==3)
 (aA (λ(y11:Bool)=>
 k10 (y11,(⟨a0.Kind,a0.Id,a0.Cn,a0.Sn,a0.Tick,a0.Cookie,a0.Proof,0,0,[],[]⟩:Ab))) λk12=>
 cond ((eA a0.Id 1 9))
 (cond ((mA a0.Cn))
 (cond ((mA a0.Sn))
 (cond ((eA a0.Tick 0 1000000))
 (cond ((a0.Cookie.length:Int)==16)
 (k12 ((a0.Proof.length:Int)==16))
 (k12 false))
 (k12 false))
 (k12 false))
 (k12 false))
 (k12 false))
 (aA (λ(y13:Bool×Ab)=>
 k10 (y13.1,y13.2)) λk14=>
 cond ((PB a0.Kind))
 (aA (λ(y15:Bool)=>
 k14 (y15,(⟨a0.Kind,0,[],a0.Sn,0,[],[],a0.Epoch,a0.Seq,a0.Body,a0.Tag⟩:Ab))) λk16=>
 cond ((mA a0.Sn))
 (cond ((eA a0.Epoch 0 4294967295))
 (cond ((eA a0.Seq 0 281474976710655))
 (cond ((a0.Tag.length:Int)==16)
 (let r17:Bool:=UF a0.Kind (a0.Body.length:Int)
 k16 r17)
 (k16 false))
 (k16 false))
 (k16 false))
 (k16 false))
 (k14 (false,(⟨a0.Kind,0,[],[],0,[],[],0,0,[],[]⟩:Ab))))))
def Kn(a0:Ae):=
 aA (λy1=>
 cond (y1)
 (some false)
 (aA (λ(y5:Bool)=>
 some y5) λk6=>
 ob (jC a0.C) λr7=>
 cond (r7)
 (cond (a0.C.Role==0)
 (ob (DB a0.C.Sn a0.Fin.Sn) λr8=>
 cond (r8)
 (cond (a0.C.Cur.N==0)
 (cond (!a0.C.HasOld)
 (k6 ((a0.C.Next.length:Int)==0))
 (k6 false))
 (k6 false))
 (k6 false))
 (k6 false))
 (k6 false))) λk2=>
 cond (!(mA a0.Cn))
 (k2 true)
 (cond (a0.Fin.Kind !=3)
 (k2 true)
 (ob (FC a0.Fin) λr3=>
 cond (!r3)
 (k2 true)
 (cond (a0.Fin.Id !=a0.Id)
 (k2 true)
 (ob (DB a0.Fin.Cn a0.Cn) λr4=>
 k2 (!r4)))))
def Ko(a0:Ae):=
 aA (λy1=>
 cond (y1)
 (some false)
 (ob (CN a0.Fin (⟨0,0,[],[],0,[],[],0,0,[],[]⟩:Ab)) λr3=>
 let x4:Bool:=cond (a0.T.On==false) (cond (a0.T.Due==0) (cond (a0.T.Wait==0) (cond (a0.T.Tries==0) (true) false) false) false) false
 cond (a0.St==0)
 (aA (λ(y5:Bool)=>
 some y5) λk6=>
 cond ((a0.Cn.length:Int)==0)
 (cond (r3)
 (ob (jO a0.C) λr7=>
 cond (r7)
 (cond (x4)
 (let x8:Bool:=cond (a0.R.On==false) (cond (a0.R.Due==0) (cond (a0.R.Wait==0) (cond (a0.R.Tries==0) (true) false) false) false) false
 cond (x8)
 (k6 (a0.Last==0))
 (k6 false))
 (k6 false))
 (k6 false))
 (k6 false))
 (k6 false))
 (cond (a0.St==1)
 (aA (λ(y9:Bool)=>
 some y9) λk10=>
 cond ((mA a0.Cn))
 (cond (r3)
 (ob (jO a0.C) λr11=>
 cond (r11)
 (cond (a0.T.On)
 (cond ((NC a0.T))
 (let x12:Bool:=cond (a0.R.On==false) (cond (a0.R.Due==0) (cond (a0.R.Wait==0) (cond (a0.R.Tries==0) (true) false) false) false) false
 cond (x12)
 (k10 (a0.Last==0))
 (k10 false))
 (k10 false))
 (k10 false))
 (k10 false))
 (k10 false))
 (k10 false))
 (cond (a0.St==2)
 (aA (λ(y13:Bool)=>
 some y13) λk14=>
 ob (zbD a0) λr15=>
 cond (r15)
 (cond (a0.T.On)
 (cond ((NC a0.T))
 (let x16:Bool:=cond (a0.R.On==false) (cond (a0.R.Due==0) (cond (a0.R.Wait==0) (cond (a0.R.Tries==0) (true) false) false) false) false
 cond (x16)
 (k14 (a0.Last==0))
 (k14 false))
 (k14 false))
 (k14 false))
 (k14 false))
 (cond (a0.St==3)
 (aA (λ(y17:Bool)=>
 some y17) λk18=>
 cond ((mA a0.Cn))
 (cond (r3)
 (ob (jC a0.C) λr19=>
 cond (r19)
 (cond (a0.C.Role==0)
 (cond (x4)
 (cond ((NC a0.R))
 (cond (a0.R.On==(decide ((a0.C.Next.length:Int)>0)))
 (k18 (eA a0.Last 0 1000000))
 (k18 false))
 (k18 false))
 (k18 false))
 (k18 false))
 (k18 false))
 (k18 false))
 (k18 false))
 (some false)))))) λk2=>
 cond (!(eA a0.Id 1 9))
 (k2 true)
 (cond (!(vC a0.Psk))
 (k2 true)
 (k2 (!(GA a0.At))))
def Pi(a0:As):=
 aA (λ(y1:Bool)=>
 some y1) λk2=>
 let r3:Bool:=eA (a0.Seed.length:Int) 1 32
 cond (r3)
 (k2 (eA a0.N 0 10000))
 (k2 false)
def Pj(a0:Ax):=
 some ((a0.Secret.length:Int)==32)
def Pk(a0:Ao):=
 aA (λ(y1:Int)=>
 some y1) λk2=>
 wA FU (λ(x3:Int×Int) k4=>
 cond (decide (x3.2<(a0.L.length:Int)))
 (ob (nA a0.L x3.2) λe5=>
 aA (λ(y6:Int)=>
 k4 (y6,(gA .i64 x3.2 1))) λk7=>
 cond (!e5.Dead)
 (k7 (gA .i64 x3.1 1))
 (k7 x3.1))
 (k2 x3.1)) (0,0)
def Kp(a0:Am):=
 aA (λ(y1:Bool)=>
 some y1) λk2=>
 cond (a0.Role==0)
 (cond ((a0.Sn.length:Int)==0)
 (cond ((JF a0.Cur))
 (cond ((JF a0.Old))
 (cond (!a0.HasOld)
 (cond (a0.Until==0)
 (k2 ((a0.Next.length:Int)==0))
 (k2 false))
 (k2 false))
 (k2 false))
 (k2 false))
 (k2 false))
 (k2 false)
def Kq(a0:Ah):=
 aA (λy1=>
 cond (y1)
 (some false)
 (aA (λ(y3:Unit)=>
 some true) λk4=>
 wA FU (λ(x5:Int) k6=>
 cond (decide (x5<(a0.Cands.length:Int)))
 (ob (nA a0.Cands x5) λe7=>
 aA (λy8=>
 cond (y8)
 (some false)
 (aA (λ(y11:Unit)=>
 k6 (gA .i64 x5 1)) λk12=>
 wA FU (λ(x13:Int) k14=>
 cond (decide (x13<x5))
 (ob (nA a0.Cands x13) λe15=>
 let x16:Bool:=cond (e15.A.Host==e7.A.Host) (cond (e15.A.Port==e7.A.Port) (true) false) false
 cond (x16)
 (some false)
 (k14 (gA .i64 x13 1)))
 (k12 ())) 0)) λk9=>
 cond (!(GA e7.A))
 (k9 true)
 (cond ((e7.Draw.length:Int) !=12)
 (k9 true)
 (cond (!(eA e7.Until 0 1000006))
 (k9 true)
 (let x10:Bool:=cond (e7.A.Host==a0.At.Host) (cond (e7.A.Port==a0.At.Port) (true) false) false
 k9 x10))))
 (k4 ())) 0)) λk2=>
 cond (!(GA a0.At))
 (k2 true)
 (k2 (decide ((a0.Cands.length:Int)>3)))
def Kr(a0:Ai):=
 aA (λy1=>
 cond (y1)
 (some false)
 (cond (a0.Dead)
 (aA (λ(y3:Bool)=>
 some y3) λk4=>
 cond ((iC a0.C))
 (let r5:Af:=aC (-1)
 let x6:Bool:=cond (a0.P.At.Host==r5.Host) (cond (a0.P.At.Port==r5.Port) (true) false) false
 cond (x6)
 (cond ((a0.P.Cands.length:Int)==0)
 (k4 (a0.Last==0))
 (k4 false))
 (k4 false))
 (k4 false))
 (aA (λ(y7:Bool)=>
 some y7) λk8=>
 ob (jC a0.C) λr9=>
 cond (r9)
 (cond (a0.C.Role==1)
 (ob (DB a0.C.Sn a0.Sn) λr10=>
 cond (r10)
 (k8 (gC a0.P))
 (k8 false))
 (k8 false))
 (k8 false)))) λk2=>
 cond (!(eA a0.Id 1 9))
 (k2 true)
 (cond ((a0.Cn.length:Int) !=12)
 (k2 true)
 (cond ((a0.Sn.length:Int) !=12)
 (k2 true)
 (cond (!(eA a0.Tick 0 1000000))
 (k2 true)
 (k2 (!(eA a0.Last 0 1000000))))))
def Pl(a0:Ao)(a1:List UInt8):=
 aA (λ(y1:Unit)=>
 some (-1)) λk2=>
 wA FU (λ(x3:Int) k4=>
 cond (decide (x3<(a0.L.length:Int)))
 (ob (nA a0.L x3) λe5=>
 ob (DB e5.Sn a1) λr6=>
 cond (r6)
 (some x3)
 (k4 (gA .i64 x3 1)))
 (k2 ())) 0
def Ks(a0:Ao):=
 aA (λy1=>
 cond (y1)
 (some false)
 (aA (λ(y4:Unit)=>
 some true) λk5=>
 wA FU (λ(x6:Int) k7=>
 cond (decide (x6<(a0.L.length:Int)))
 (aA (λy8=>
 cond (y8)
 (some false)
 (k7 (gA .i64 x6 1))) λk9=>
 ob (nA a0.L x6) λe10=>
 ob (AD e10) λr11=>
 cond (!r11)
 (k9 true)
 (ob (nA a0.L x6) λe12=>
 ob (zD a0 e12.Sn) λr13=>
 k9 (r13 !=x6)))
 (k5 ())) 0)) λk2=>
 cond (!(eA a0.Cap 1 6))
 (k2 true)
 (cond (decide ((a0.L.length:Int)>12))
 (k2 true)
 (ob (aJ a0) λr3=>
 k2 (decide (r3>a0.Cap))))
def Kt(a0:List Al):=
 cond (decide ((a0.length:Int)>8))
 (some false)
 (aA (λ(y1:Unit)=>
 some true) λk2=>
 wA FU (λ(x3:Int) k4=>
 cond (decide (x3<(a0.length:Int)))
 (aA (λy5=>
 cond (y5)
 (some false)
 (aA (λ(y12:Unit)=>
 k4 (gA .i64 x3 1)) λk13=>
 wA FU (λ(x14:Int) k15=>
 cond (decide (x14<x3))
 (ob (nA a0 x14) λe16=>
 ob (nA a0 x3) λe17=>
 let x18:Bool:=cond (e16.A.Host==e17.A.Host) (cond (e16.A.Port==e17.A.Port) (true) false) false
 cond (x18)
 (some false)
 (k15 (gA .i64 x14 1)))
 (k13 ())) 0)) λk6=>
 ob (nA a0 x3) λe7=>
 cond (!(GA e7.A))
 (k6 true)
 (ob (nA a0 x3) λe8=>
 cond (!(eA e8.Got 0 1000000))
 (k6 true)
 (ob (nA a0 x3) λe9=>
 ob (nA a0 x3) λe10=>
 let r11:Bool:=eA e9.Sent 0 (KB .i64 3 e10.Got)
 k6 (!r11))))
 (k2 ())) 0)
def Pm(a0:List UInt8):=
 some (eA (a0.length:Int) 1 32)
def Pn(a0:Ac):=
 aA (λy1=>
 cond (y1)
 (some false)
 (aA (λ(y4:Unit)=>
 aA (λ(y9:Unit)=>
 some true) λk10=>
 wA FU (λ(x11:Int) k12=>
 cond (decide (x11<(a0.T.L.length:Int)))
 (ob (nA a0.T.L x11) λe13=>
 cond (decide (e13.Id>(a0.Psks.length:Int)))
 (some false)
 (k12 (gA .i64 x11 1)))
 (k10 ())) 0) λk5=>
 wA FU (λ(x6:Int) k7=>
 cond (decide (x6<(a0.Psks.length:Int)))
 (ob (nA a0.Psks x6) λe8=>
 cond (!(vC e8))
 (some false)
 (k7 (gA .i64 x6 1)))
 (k5 ())) 0)) λk2=>
 cond (!(eA (a0.Psks.length:Int) 1 9))
 (k2 true)
 (cond (!(UE a0.J))
 (k2 true)
 (cond (!(YB a0.D))
 (k2 true)
 (ob (jG a0.T) λr3=>
 cond (!r3)
 (k2 true)
 (k2 (!(UC a0.Cr))))))
def Ku(a0:Au):=
 cond (!a0.On)
 (let x1:Bool:=cond (a0.On==false) (cond (a0.Due==0) (cond (a0.Wait==0) (cond (a0.Tries==0) (true) false) false) false) false
 some x1)
 (aA (λ(y2:Bool)=>
 some y2) λk3=>
 cond ((eA a0.Due 0 1000008))
 (cond (a0.Wait==1)
 (k3 (eA a0.Tries 1 5))
 (cond (a0.Wait==2)
 (k3 (eA a0.Tries 1 5))
 (cond (a0.Wait==4)
 (k3 (eA a0.Tries 1 5))
 (cond (a0.Wait==8)
 (k3 (eA a0.Tries 1 5))
 (k3 false)))))
 (k3 false))
def Kv(a0:Ab):=
 aA (λ(y1:Bool)=>
 some y1) λk2=>
 cond (a0.Kind==0)
 (cond (a0.Id==0)
 (cond ((a0.Cn.length:Int)==0)
 (cond ((a0.Sn.length:Int)==0)
 (cond (a0.Tick==0)
 (cond ((a0.Cookie.length:Int)==0)
 (cond ((a0.Proof.length:Int)==0)
 (cond (a0.Epoch==0)
 (cond (a0.Seq==0)
 (cond ((a0.Body.length:Int)==0)
 (k2 ((a0.Tag.length:Int)==0))
 (k2 false))
 (k2 false))
 (k2 false))
 (k2 false))
 (k2 false))
 (k2 false))
 (k2 false))
 (k2 false))
 (k2 false))
 (k2 false)
def Po(a0:Int):=
 some (eA a0 4 8)
def Ng(a0:Int)(a1:Int):=
 cond (a0==4)
 (some (decide (a1≤40)))
 (aA (λy1=>
 cond (y1)
 (some (a1==12))
 (some (a1==4))) λk2=>
 cond (a0==5)
 (k2 true)
 (k2 (a0==6)))
def Kw(a0:Ab):=
 cond ((PB a0.Kind))
 (aA (λ(y1:Bool)=>
 some y1) λk2=>
 cond (a0.Id==0)
 (cond ((a0.Cn.length:Int)==0)
 (cond ((a0.Sn.length:Int)==12)
 (cond (a0.Tick==0)
 (cond ((a0.Cookie.length:Int)==0)
 (cond ((a0.Proof.length:Int)==0)
 (cond ((eA a0.Epoch 0 4294967295))
 (cond ((eA a0.Seq 0 281474976710655))
 (let r3:Bool:=UF a0.Kind (a0.Body.length:Int)
 cond (r3)
 (k2 ((a0.Tag.length:Int)==16))
 (k2 false))
 (k2 false))
 (k2 false))
 (k2 false))
 (k2 false))
 (k2 false))
 (k2 false))
 (k2 false))
 (k2 false))
 (aA (λy4=>
 cond (y4)
 (some false)
 (cond (a0.Kind==1)
 (aA (λ(y6:Bool)=>
 some y6) λk7=>
 cond ((eA a0.Id 1 9))
 (cond ((a0.Sn.length:Int)==0)
 (cond (a0.Tick==0)
 (cond ((a0.Cookie.length:Int)==0)
 (k7 ((a0.Proof.length:Int)==0))
 (k7 false))
 (k7 false))
 (k7 false))
 (k7 false))
 (cond (a0.Kind==2)
 (aA (λ(y8:Bool)=>
 some y8) λk9=>
 cond (a0.Id==0)
 (cond ((a0.Sn.length:Int)==12)
 (cond ((eA a0.Tick 0 1000000))
 (cond ((a0.Cookie.length:Int)==16)
 (k9 ((a0.Proof.length:Int)==0))
 (k9 false))
 (k9 false))
 (k9 false))
 (k9 false))
 (cond (a0.Kind==3)
 (aA (λ(y10:Bool)=>
 some y10) λk11=>
 cond ((eA a0.Id 1 9))
 (cond ((a0.Sn.length:Int)==12)
 (cond ((eA a0.Tick 0 1000000))
 (cond ((a0.Cookie.length:Int)==16)
 (k11 ((a0.Proof.length:Int)==16))
 (k11 false))
 (k11 false))
 (k11 false))
 (k11 false))
 (some false))))) λk5=>
 cond (a0.Epoch !=0)
 (k5 true)
 (cond (a0.Seq !=0)
 (k5 true)
 (cond ((a0.Body.length:Int) !=0)
 (k5 true)
 (cond ((a0.Tag.length:Int) !=0)
 (k5 true)
 (k5 ((a0.Cn.length:Int) !=12))))))
def Kx(a0:Ae):=
 aA (λy1=>
 cond (y1)
 (some false)
 (cond (a0.St==0)
 (aA (λ(y3:Bool)=>
 some y3) λk4=>
 cond ((a0.Cn.length:Int)==0)
 (cond ((wF a0.Fin))
 (cond ((iC a0.C))
 (cond (!a0.T.On)
 (cond (!a0.R.On)
 (k4 (a0.Last==0))
 (k4 false))
 (k4 false))
 (k4 false))
 (k4 false))
 (k4 false))
 (cond ((a0.Cn.length:Int) !=12)
 (some false)
 (cond (a0.St==3)
 (aA (λ(y5:Bool)=>
 some y5) λk6=>
 cond ((wF a0.Fin))
 (ob (jC a0.C) λr7=>
 cond (r7)
 (cond (a0.C.Role==0)
 (cond (!a0.T.On)
 (k6 (a0.R.On==(decide ((a0.C.Next.length:Int)>0))))
 (k6 false))
 (k6 false))
 (k6 false))
 (k6 false))
 (aA (λy8=>
 cond (y8)
 (some false)
 (cond (a0.St==1)
 (aA (λ(y10:Bool)=>
 some y10) λk11=>
 cond ((wF a0.Fin))
 (k11 (iC a0.C))
 (k11 false))
 (aA (λ(y12:Bool)=>
 some y12) λk13=>
 cond (a0.St==2)
 (cond ((oB a0.Fin))
 (cond (a0.Fin.Kind==3)
 (cond (a0.Fin.Id==a0.Id)
 (ob (DB a0.Fin.Cn a0.Cn) λr14=>
 cond (r14)
 (ob (jC a0.C) λr15=>
 cond (r15)
 (cond (a0.C.Role==0)
 (ob (DB a0.C.Sn a0.Fin.Sn) λr16=>
 cond (r16)
 (cond (a0.C.Cur.N==0)
 (cond (!a0.C.HasOld)
 (k13 ((a0.C.Next.length:Int)==0))
 (k13 false))
 (k13 false))
 (k13 false))
 (k13 false))
 (k13 false))
 (k13 false))
 (k13 false))
 (k13 false))
 (k13 false))
 (k13 false)))) λk9=>
 cond (!a0.T.On)
 (k9 true)
 (cond (a0.R.On)
 (k9 true)
 (k9 (a0.Last !=0)))))))) λk2=>
 cond (!(eA a0.Id 1 9))
 (k2 true)
 (cond (!(vC a0.Psk))
 (k2 true)
 (cond (!(GA a0.At))
 (k2 true)
 (cond (!(NC a0.T))
 (k2 true)
 (cond (!(NC a0.R))
 (k2 true)
 (k2 (!(eA a0.Last 0 1000000)))))))
def Pp(a0:Ak):=
 aA (λ(y1:Bool)=>
 some y1) λk2=>
 cond ((GA a0.From))
 (cond ((GA a0.To))
 (k2 (decide ((a0.B.length:Int)≤200)))
 (k2 false))
 (k2 false)
def Ky(a0:List Ak):=
 aA (λ(y1:Unit)=>
 some (decide ((a0.length:Int)≤90))) λk2=>
 wA FU (λ(x3:Int) k4=>
 cond (decide (x3<(a0.length:Int)))
 (ob (nA a0 x3) λe5=>
 cond (!(lE e5))
 (some false)
 (k4 (gA .i64 x3 1)))
 (k2 ())) 0
def Kz(a0:Aa):=
 aA (λy1=>
 cond (y1)
 (some false)
 (aA (λy4=>
 cond (y4)
 (some false)
 (aA (λ(y6:Unit)=>
 aA (λ(y16:Unit)=>
 aA (λ(y21:Unit)=>
 some true) λk22=>
 wA FU (λ(x23:Int) k24=>
 cond (decide (x23<(a0.Notes.length:Int)))
 (ob (nA a0.Notes x23) λe25=>
 cond (!(nC e25))
 (some false)
 (k24 (gA .i64 x23 1)))
 (k22 ())) 0) λk17=>
 wA FU (λ(x18:Int) k19=>
 cond (decide (x18<(a0.Known.length:Int)))
 (ob (nA a0.Known x18) λe20=>
 cond ((e20.length:Int) !=32)
 (some false)
 (k19 (gA .i64 x18 1)))
 (k17 ())) 0) λk7=>
 wA FU (λ(x8:Int) k9=>
 cond (decide (x8<(a0.Clients.length:Int)))
 (ob (nA a0.Clients x8) λe10=>
 aA (λy11=>
 cond (y11)
 (some false)
 (k9 (gA .i64 x8 1))) λk12=>
 ob (KC e10) λr13=>
 cond (!r13)
 (k12 true)
 (cond (e10.Id !=(gA .i64 x8 1))
 (k12 true)
 (ob (nA a0.S.Psks x8) λe14=>
 ob (DB e10.Psk e14) λr15=>
 k12 (!r15))))
 (k7 ())) 0)) λk5=>
 cond (!(YB a0.D))
 (k5 true)
 (cond (!(fE a0.Seen))
 (k5 true)
 (k5 (decide ((a0.Known.length:Int)>12)))))) λk2=>
 cond (!(eA a0.Now 0 1000000))
 (k2 true)
 (cond ((a0.Clients.length:Int) !=2)
 (k2 true)
 (ob (CC a0.S) λr3=>
 cond (!r3)
 (k2 true)
 (k2 ((a0.S.Psks.length:Int) !=2))))
def La(a0:Aa):=
 ob (eE a0) λr1=>
 cond (!r1)
 (some false)
 (aA (λ(y2:Unit)=>
 some true) λk3=>
 wA FU (λ(x4:Int) k5=>
 cond (decide (x4<(a0.Clients.length:Int)))
 (ob (nA a0.Clients x4) λe6=>
 aA (λy7=>
 cond (y7)
 (some false)
 (k5 (gA .i64 x4 1))) λk8=>
 cond (e6.St==1)
 (k8 true)
 (k8 (e6.St==2)))
 (k3 ())) 0)
end
end Go.D
namespace Go.D
end Go.D
namespace Go.D
open Option renaming bind→ob
def zaT.ok{x}(_:xA [.v .Addr] x):Ou x=some (GA x):=ziu x
def zaB.ok{x}(_:xA [.v .Addr] x):Ot x=some (GA x):=ziu x
def zjs(i:Int):(cond (!(eA i 0 255)) (some (⟨0,0⟩:Af)) (some (⟨gA .i64 167772160 i,gA .i64 7000 i⟩:Af)))=some (aC i):=by
 cases h:eA i 0 255
 ·rw[ztH]at h;simp[aC,h]
 ·rw[yD]at h;simp only[Bool.not_true,cond_false,aC,h,and_self,if_true,gA];rw[IB (by omega) (by omega),IB (by omega) (by omega)]
def zbv.ok{x}(_:xA [.v .int] x):Ov x=some (aC x):=zjs _
def zbI.ok{x}(_:xA [.v .int] x):Ox x=some (aC x):=zjs _
def zbV.ok{x}(_:xA [] x):Ow=some LD:=rfl
def zb6.ok{x}(_:xA [] x):Oy=some LD:=rfl
def VJ(a b:Af):(cond (a.Host==b.Host) (cond (a.Port==b.Port) (true) false) false)=vB a b:=by
 simp only[vB,Bool.cond_false_right,Bool.and_true]
def zpZ(w:Aa)(a:Af)(h:wt w≤bA){f:Ae→Option Int}(hf:∀c,f c=some c.Id):cond (vB a LD) (some 0) (wA FU (λ(x5:Int) k6=>cond (decide (x5<(w.Clients.length:Int))) (ob (nA w.Clients x5) λe7=>cond (vB e7.At a) (f e7) (k6 (gA .i64 x5 1))) (some (-1))) 0)=some (sM w a):=by
 rw[gG]at h;rw[ziO w.Clients (wG (by omega)) (λc=>vB c.At a) (λc=>some c.Id) (some (-1)) (λi k hi=>?_) (λk=>by simp only[ED,cond_false])]
 ·rw[sM];cases vB a LD
  ·cases w.Clients.find? _<;>rfl
  ·rfl
 ·simp only[lD hi,cond_true,WB hi,rB,hf]
def zni(w:Aa)(a:Af)(h:wt w≤bA):Kd w a=some (sM w a):=by
 simp only[Kd,aA,VJ];exact zpZ w a h (λ_=>rfl)
def mQ.ok{x}(_:xA [.v .World, .v .Addr] x){r}:dI x.1 x.2=some r→Kd x.1 x.2=some r:=OA λh=>zni x.1 x.2 h
def znu(w:Aa)(a:Af)(h:wt w≤bA):Kc w a=some (sM w a):=by
 rw[gG]at h;simp only[Kc,aA,VJ];rw[ziO w.Clients (wG (by omega)) (λc=>vB c.At a) (λc=>some c.Id) (some (-1)) (λi k hi=>?_) (λk=>by simp only[ED,cond_false])]
 ·rw[sM];cases vB a LD
  ·cases w.Clients.find? _<;>rfl
  ·rfl
 ·simp only[lD hi,cond_true,WB hi,rB]
def CQ.ok{x}(_:xA [.v .World, .v .Addr] x){r}:dI x.1 x.2=some r→Kc x.1 x.2=some r:=OA λh=>znu x.1 x.2 h
def KT.ok{x}(_:xA [.sl .byte, .v .int] x):Nd x.1 x.2=some (LC x.1 x.2):=by
 simp only[Nd,aA,dD,Bool.cond_true_left];rfl
def mR.ok{x}(_:xA [.v .Note] x):Kb x=some (nC x):=by
 show Kb (x:Ad)=some (nC (x:Ad))
 generalize (show Ad from x)=n;simp only[Kb,aA,dD,Bool.cond_false_right,nC]
 grind
def za2.ok{x}(_:xA [.v .Jar] x):Pa x=some (UE x):=rfl
def za3.ok{x}(_:xA [.v .Jar] x):Pj x=some (UE x):=rfl
def zim(d:As):(aA (λ(y1:Bool)=>some y1) λk2=>cond (eA (d.Seed.length:Int) 1 32) (k2 (eA d.N 0 10000)) (k2 false))=some (YB d):=by
 simp only[aA,dD,Bool.cond_false_right,YB]
def zaF.ok{x}(_:xA [.v .Dice] x):Oz x=some (YB x):=zim x
def zaH.ok{x}(_:xA [.v .Dice] x):Pi x=some (YB x):=zim x
def zjM(t:Ao)(h:wt t≤bA):(aA (λ(y1:Int)=>some y1) λk2=>wA FU (λ(x3:Int×Int) k4=>cond (decide (x3.2<(t.L.length:Int))) (ob (nA t.L x3.2) λe5=>
  aA (λ(y6:Int)=>k4 (y6,(gA .i64 x3.2 1))) λk7=>cond (!e5.Dead) (k7 (gA .i64 x3.1 1)) (k7 x3.1)) (k2 x3.1)) (0,0))=some (live t):=by
 rw[jK]at h;simp only[aA];rw[zrw t.L (wG h) (λs e=>bif e.Dead then s else gA .i64 s 1) (λs=>some s) (λi s k hi=>?_) (λs k=>by simp only[ED,cond_false])]
 ·rfl
 ·simp only[lD hi,cond_true,WB hi,rB];cases t.L[i].Dead<;>rfl
def zbk.ok{x}(_:xA [.v .Tab] x){r}:aJ x=some r→Pb x=some r:=OA λh=>zjM x h
def zbo.ok{x}(_:xA [.v .Tab] x){r}:aJ x=some r→Pk x=some r:=OA λh=>zjM x h
def uP.ok{x}(_:xA [.v .Chan] x):Kp x=some (iC x):=by
 show Kp (x:Am)=some (iC (x:Am))
 generalize (show Am from x)=c;simp only[Kp,aA,dD,Bool.cond_false_right,iC]
 grind
def zmC(c:Am)(h:wt c≤bA):Ke c=some (iC c):=by
 rw[fI]at h
 simp only[Ke,aA,nO,RA (p:=wt c.Old≤bA∧wt (⟨0,[],0,(⟨0,[]⟩:Ap)⟩:Av)≤bA) ⟨by omega,zfO⟩,
  RA (p:=wt c.Cur≤bA∧wt (⟨0,[],0,(⟨0,[]⟩:Ap)⟩:Av)≤bA) ⟨by omega,zfO⟩,zjg,dD,Bool.cond_false_right,iC]
 grind
def oP.ok{x}(_:xA [.v .Chan] x){r}:jO x=some r→Ke x=some r:=OA λh=>zmC x h
def gL(a b:Int):decide (a>b)= !decide (a≤b):=by
 by_cases h:a≤b
 ·rw[decide_eq_true h,decide_eq_false (by omega)];rfl
 ·rw[decide_eq_false h,decide_eq_true (by omega)];rfl
def sQ.ok{x}(_:xA [.v .Paths] x):Kq x=some (gC x):=by
 show Kq (x:Ah)=some (gC (x:Ah))
 generalize (show Ah from x)=p;simp only[Kq,aA,VJ,gC,gL (p.Cands.length:Int) 3];cases GA p.At
 ·rfl
 cases hd:decide ((p.Cands.length:Int)≤3)
 ·rfl
 have hd:=of_decide_eq_true hd;have hl:p.Cands.length≤maxLen:=by rw[oD];omega
 simp only[Bool.not_true,cond_false];rw[KI p.Cands.length hl (mO p) (some false) (some true) (λi k hi=>?_) (λk=>by simp only[ED,cond_false])]
 ·cases wB _ _<;>rfl
 ·simp only[lD hi,cond_true,WB hi,rB];rw[KI i (by omega) (λj=>(p.Cands[j]?).any λd=>vB d.A p.Cands[i].A) (some false) (k (gA .i64 (i:Int) 1)) (λj k' hj=>?_) (λk'=>by simp only[ED,cond_false])]
  ·simp only[mO,BF hi,mA];cases GA p.Cands[i].A<;>cases hn:((p.Cands[i].Draw.length:Int)==12)<;>cases eA p.Cands[i].Until 0 1000006<;>cases vB p.Cands[i].A p.At<;>cases wB i _<;>simp[bne,hn]
  ·simp only[lD hj,cond_true,WB (Nat.lt_trans hj hi),rB,BF (Nat.lt_trans hj hi)]
def dQ.ok{x}(_:xA [.v .Paths] x):Kf x=some (gC x):=by
 show Kf (x:Ah)=some (gC (x:Ah))
 generalize (show Ah from x)=p;simp only[Kf,aA,VJ,gC,gL (p.Cands.length:Int) 3];cases GA p.At
 ·rfl
 cases hd:decide ((p.Cands.length:Int)≤3)
 ·rfl
 have hd:=of_decide_eq_true hd;have hl:p.Cands.length≤maxLen:=by rw[oD];omega
 simp only[Bool.not_true,cond_false];rw[KI p.Cands.length hl (mO p) (some false) (some true) (λi k hi=>?_) (λk=>by simp only[ED,cond_false])]
 ·cases wB _ _<;>rfl
 ·have KV:(p.Cands.take i).length=i:=by rw[List.length_take];omega
  simp only[lD hi,cond_true,WB hi,rB,zvc (Nat.le_of_lt hi),zve];rw[KI i (by omega) (λj=>(p.Cands[j]?).any λd=>vB d.A p.Cands[i].A) (some false) (k (gA .i64 (i:Int) 1)) (λj k' hj=>?_) (λk'=>by rw[KV];simp only[ED,cond_false])]
  ·simp only[mO,BF hi];cases GA p.Cands[i].A<;>cases mA p.Cands[i].Draw<;>cases eA p.Cands[i].Until 0 1000006<;>cases vB p.Cands[i].A p.At<;>cases wB i _<;>rfl
  ·have JW:j<(p.Cands.take i).length:=by omega
   simp only[lD JW,cond_true,WB JW,rB,BF (Nat.lt_trans hj hi),List.getElem_take]
def znw(s:Ai)(h:wt s≤bA):Kr s=some (kC s):=by
 rw[rM]at h;have hc:=fI s.C;have hn:aC (-1)=⟨0,0⟩:=rfl;have h0:s.Last=0→eA s.Last 0 1000000=true:=λh=>by rw[h];rfl
 simp only[Kr,aA,VJ];simp only[hn,jC,RA (p:=wt s.C≤bA) (by omega),IJ (a:=s.C.Sn) (b:=s.Sn) (by omega) (by omega),kC,mA];cases s.Dead<;>simp only[dD,Bool.cond_false_right,cond_true,cond_false]<;>grind
def MQ.ok{x}(_:xA [.v .Sess] x){r}:AD x=some r→Kr x=some r:=OA λh=>znw x h
def znV(s:Ai)(h:wt s≤bA):Kg s=some (kC s):=by
 rw[rM]at h;have hc:=fI s.C;have hn:(cond (s.P.At.Host==0) (cond (s.P.At.Port==0) (true) false) false)=vB s.P.At ⟨0,0⟩:=VJ s.P.At ⟨0,0⟩;simp only[Kg,aA,hn,jC,jO,RA (p:=wt s.C≤bA) (by omega),IJ (a:=s.C.Sn) (b:=s.Sn) (by omega) (by omega),kC];cases s.Dead<;>simp only[dD,Bool.cond_false_right,cond_true,cond_false]<;>grind
def gR.ok{x}(_:xA [.v .Sess] x){r}:AD x=some r→Kg x=some r:=OA λh=>znV x h
def ziw(t:Ao)(b:List UInt8)(h:wt t≤bA∧wt b≤bA):(aA (λ(y1:Unit)=>some (-1)) λk2=>wA FU (λ(x3:Int) k4=>cond (decide (x3<(t.L.length:Int))) (ob (nA t.L x3) λe5=>
  ob (DB e5.Sn b) λr6=>cond (r6) (some x3) (k4 (gA .i64 x3 1))) (k2 ())) 0)=some (AE t b):=by
 rw[jK]at h;simp only[aA];rw[zeB t.L.length (wG h.1) (mG t b) (λi k hi=>?_) (λk=>by simp only[ED,cond_false])]
 ·rfl
 ·have:=TF hi;have hs:=rM t.L[i];simp only[lD hi,cond_true,WB hi,rB,mG,BF hi,IJ (a:=t.L[i].Sn) (b:=b) (by omega) h.2]
def zaL.ok{x}(_:xA [.v .Tab, .sl .byte] x){r}:zD x.1 x.2=some r→Pd x.1 x.2=some r:=OA λh=>ziw x.1 x.2 h
def zaN.ok{x}(_:xA [.v .Tab, .sl .byte] x){r}:zD x.1 x.2=some r→Pl x.1 x.2=some r:=OA λh=>ziw x.1 x.2 h
def ziv{t:Ao}{i:Nat}(hi:i<t.L.length):mG t t.L[i].Sn i=true:=by simp[mG,hi]
def zkq{t:Ao}(h:wt t≤bA){i:Nat}(hi:i<t.L.length):wt t.L[i]≤bA∧wt t.L[i].Sn≤bA:=by
 rw[jK]at h;have:=TF hi;have hs:=rM t.L[i];omega
def zn1(t:Ao)(h:wt t≤bA):Ks t=some (OC t):=by
 have hl:=wG (jK t▸h);simp only[Ks,aA,OC,aJ,RA h,gL (t.L.length:Int) 12,gL (live t) t.Cap]
 have key:wA FU (λ(x5:Int) k6=>cond (decide (x5<(t.L.length:Int))) (ob (nA t.L x5) λe9=>ob (AD e9) λr10=>cond (!r10) (cond true (some false) (k6 (gA .i64 x5 1))) (ob (nA t.L x5) λe11=>
   ob (zD t e11.Sn) λr12=>cond (r12 !=x5) (some false) (k6 (gA .i64 x5 1)))) (some true)) 0=some (!(wB t.L.length (bL t))):=by
  rw[KI t.L.length hl (bL t) (some false) (some true) (λi k hi=>?_) (λk=>by simp only[ED,cond_false])]
  ·cases wB _ _<;>rfl
  ·have hw:=zkq h hi;simp only[lD hi,cond_true,WB hi,rB,AD,RA hw.1,zD,RA (p:=wt t≤bA∧wt t.L[i].Sn≤bA) ⟨h,hw.2⟩,AE,(zeZ hi (ziv hi)).2,bL,BF hi];cases kC t.L[i]<;>cases wB i _<;>rfl
 rw[key];cases eA t.Cap 1 6<;>cases decide ((t.L.length:Int)≤12)<;>cases decide (live t≤t.Cap)<;>rfl
def sR.ok{x}(_:xA [.v .Tab] x){r}:jG x=some r→Ks x=some r:=OA λh=>zn1 x h
def znY(t:Ao)(h:wt t≤bA):Kh t=some (OC t):=by
 have hl:=wG (jK t▸h);simp only[Kh,aA,OC,aJ,RA h,gL (t.L.length:Int) 12,gL (live t) t.Cap]
 have key:wA FU (λ(x5:Int) k6=>cond (decide (x5<(t.L.length:Int))) (ob (nA t.L x5) λe9=>ob (AD e9) λr10=>cond (!r10) (cond true (some false) (k6 (gA .i64 x5 1)))
   (ob (zD t e9.Sn) λr12=>cond (decide (r12<x5)) (some false) (k6 (gA .i64 x5 1)))) (some true)) 0=some (!(wB t.L.length (bL t))):=by
  rw[KI t.L.length hl (bL t) (some false) (some true) (λi k hi=>?_) (λk=>by simp only[ED,cond_false])]
  ·cases wB _ _<;>rfl
  ·have hw:=zkq h hi;simp only[lD hi,cond_true,WB hi,rB,AD,RA hw.1,zD,RA (p:=wt t≤bA∧wt t.L[i].Sn≤bA) ⟨h,hw.2⟩,AE,(zeZ hi (ziv hi)).1,bL,BF hi];cases kC t.L[i]<;>cases wB i _<;>rfl
 rw[key];cases eA t.Cap 1 6<;>cases decide ((t.L.length:Int)≤12)<;>cases decide (live t≤t.Cap)<;>rfl
def qR.ok{x}(_:xA [.v .Tab] x){r}:jG x=some r→Kh x=some r:=OA λh=>znY x h
end Go.D
namespace Go.D
def zki(l:List Al)(a:Af)(hl:l.length≤maxLen):(aA (λ(y1:Unit)=>some (-1)) λk2=>wA FU (λ(x3:Int) k4=>cond (decide (x3<(l.length:Int))) (Option.bind (nA l x3) λe5=>
  cond (cond (e5.A.Host==a.Host) (cond (e5.A.Port==a.Port) (true) false) false) (some x3) (k4 (gA .i64 x3 1))) (k2 ())) 0)=some (fB l a):=by
 simp only[aA,VJ];rw[zeB l.length hl (HG l a) (λi k hi=>?_) (λk=>by simp only[ED,cond_false])]
 ·rfl
 ·simp only[lD hi,cond_true,WB hi,rB,HG,BF hi]
def zan.ok{x}(hb:xA [.sl .Credit, .v .Addr] x):Pe x.1 x.2=some (fB x.1 x.2):=zki x.1 x.2 hb.1.1
def zqv(a:Af):vB a a=true:=by simp[vB]
def zqY{l:List Al}{i:Nat}(hi:i<l.length):HG l l[i].A i=true:=by simp[HG,hi,zqv]
def zuU{l:List Al}{i:Nat}(hi:i<l.length):decide (fB l l[i].A<(i:Int))=wB i (HG l l[i].A):=(zeZ (p:=HG l l[i].A) hi (zqY hi)).1
def wP.ok{x}(hb:xA [.sl .Credit] x):Ki x=some (UC x):=by
 show Ki (x:List Al)=some (UC (x:List Al))
 have hl:(show List Al from x).length≤maxLen:=hb.1;generalize (show List Al from x)=l at hl⊢;simp only[Ki,aA,UC,gL (l.length:Int) 8];rw[KI l.length hl (ER l) (some false) (some true) (λi k hi=>?_) (λk=>by simp only[ED,cond_false])]
 ·cases decide ((l.length:Int)≤8)<;>cases wB _ _<;>rfl
 ·simp only[lD hi,cond_true,WB hi,rB,zuU hi,ER,BF hi];cases GA l[i].A<;>cases eA l[i].Got 0 1000000<;>cases eA l[i].Sent 0 _<;>cases wB i _<;>rfl
def vP.ok{x}(hb:xA [.sl .Credit] x):Kt x=some (UC x):=by
 show Kt (x:List Al)=some (UC (x:List Al))
 have hl:(show List Al from x).length≤maxLen:=hb.1;generalize (show List Al from x)=l at hl⊢;simp only[Kt,aA,UC,gL (l.length:Int) 8,VJ];rw[KI l.length hl (ER l) (some false) (some true) (λi k hi=>?_) (λk=>by simp only[ED,cond_false])]
 ·cases decide ((l.length:Int)≤8)<;>cases wB _ _<;>rfl
 ·simp only[lD hi,cond_true,WB hi,rB];rw[KI i (by omega) (HG l l[i].A) (some false) (k (gA .i64 (i:Int) 1)) (λj k' hj=>?_) (λk'=>by simp only[ED,cond_false])]
  ·simp only[ER,BF hi];cases GA l[i].A<;>cases eA l[i].Got 0 1000000<;>cases eA l[i].Sent 0 _<;>cases wB i _<;>rfl
  ·simp only[lD hj,cond_true,WB (Nat.lt_trans hj hi),WB hi,rB,HG,BF (Nat.lt_trans hj hi)]
def za9.ok{x}(_:xA [.sl .byte] x):Pf x=some (vC x):=rfl
def zbb.ok{x}(_:xA [.sl .byte] x):Pm x=some (vC x):=rfl
def zhK(s:Ac)(h:wt s≤bA):Kj s=some (BB s):=by
 rw[IN]at h;have hT:=jK s.T;simp only[Kj,aA,jG,RA (p:=wt s.T≤bA) (by omega),BB];rw[SN s.Psks (wG (by omega)) (λb=>!vC b) (some false) _ (λi k hi=>?_) (λk=>by simp only[ED,cond_false];rfl)]
 ·rw[SN s.T.L (wG (by omega)) (λe=>decide (e.Id>(s.Psks.length:Int))) (some false) (some true) (λi k hi=>?_) (λk=>by simp only[ED,cond_false])]
  ·cases eA (s.Psks.length:Int) 1 9<;>cases UE s.J<;>cases YB s.D<;>cases OC s.T<;>cases UC s.Cr<;>cases s.Psks.any _<;>cases s.T.L.any _<;>rfl
  ·simp only[lD hi,cond_true,WB hi,rB]
 ·simp only[lD hi,cond_true,WB hi,rB]
def MP.ok{x}(_:xA [.v .Server] x){r}:CC x=some r→Kj x=some r:=OA λh=>zhK x h
def zak.ok{x}(_:xA [.v .Server] x){r}:CC x=some r→Pn x=some r:=OA λh=>zhK x h
def zqA(w:Ak):(aA (λ(y1:Bool)=>some y1) λk2=>cond ((GA w.From)) (cond ((GA w.To)) (k2 (decide ((w.B.length:Int)≤200))) (k2 false)) (k2 false))=some (lE w):=by
 simp only[aA,dD,Bool.cond_false_right,lE,Bool.and_assoc]
def zaK.ok{x}(_:xA [.v .Wire] x):Pp x=some (lE x):=zqA x
def zqb(l:List Ak)(hl:l.length≤maxLen):Ky l=some (fE l):=by
 simp only[Ky,aA,fE];rw[SN l hl (λw=>!lE w) (some false) _ (λi k hi=>?_) (λk=>by simp only[ED,cond_false];rfl)]
 ·cases l.any _<;>rfl
 ·simp only[lD hi,cond_true,WB hi,rB]
def vQ.ok{x}(hb:xA [.sl .Wire] x):Ky x=some (fE x):=zqb x hb.1
def zmH(f g:Ab)(h:wt f≤bA∧wt g≤bA):Kk f g=some (QJ f g):=by
 simp only[YH]at h;simp(disch:=omega) only[Kk,aA,IJ];simp only[dD,Bool.cond_false_right,QJ,Bool.and_assoc]
def sP.ok{x}(_:xA [.v .Frame, .v .Frame] x){r}:CN x.1 x.2=some r→Kk x.1 x.2=some r:=OA λh=>zmH x.1 x.2 h
def zel(t:Au):(cond (t.On==false) (cond (t.Due==0) (cond (t.Wait==0) (cond (t.Tries==0) (true) false) false) false) false)=vF t:=by
 simp only[Bool.cond_false_right,vF,Bool.and_true,Bool.and_assoc]
def xQ.ok{x}(_:xA [.v .Timer] x):Kl x=some (NC x):=by
 show Kl (x:Au)=some (NC (x:Au))
 generalize (show Au from x)=t;simp only[Kl,zel,aA,NC];cases t.On
 ·rfl
 ·simp only[Bool.not_true,cond_false,cond_true,dD];cases eA t.Due 0 1000008<;>cases eA t.Tries 1 5<;>grind
def UP.ok{x}(_:xA [.v .Timer] x):Ku x=some (NC x):=by
 show Ku (x:Au)=some (NC (x:Au))
 generalize (show Au from x)=t;simp only[Ku,zel,aA,NC];cases t.On
 ·rfl
 ·simp only[Bool.not_true,cond_false,cond_true,dD];cases eA t.Due 0 1000008<;>cases eA t.Tries 1 5<;>grind
def dP.ok{x}(_:xA [.v .Frame] x):Kv x=some (wF x):=by
 show Kv (x:Ab)=some (wF (x:Ab))
 generalize (show Ab from x)=f;simp only[Kv,aA,dD,Bool.cond_false_right,wF,Bool.and_assoc]
def zaQ.ok{x}(_:xA [.v .int] x):Pg x=some (PB x):=rfl
def zaS.ok{x}(_:xA [.v .int] x):Po x=some (PB x):=rfl
def PT.ok{x}(_:xA [.v .int, .v .int] x):Nf x.1 x.2=some (UF x.1 x.2):=by
 simp only[Nf,aA,dD,UF];cases h5:x.1==(5:Int)<;>cases h4:x.1==(4:Int)<;>simp
def OT.ok{x}(_:xA [.v .int, .v .int] x):Ng x.1 x.2=some (UF x.1 x.2):=by
 simp only[Ng,aA,dD,UF];cases h5:x.1==(5:Int)<;>cases h4:x.1==(4:Int)<;>simp
def zfh(a b:Int):(a !=b)= !(a==b):=rfl
def BQ.ok{x}(_:xA [.v .Frame] x):Kw x=some (oB x):=by
 show Kw (x:Ab)=some (oB (x:Ab))
 generalize (show Ab from x)=f;simp only[Kw,aA,dD,Bool.cond_false_right,Bool.cond_false_left,Bool.cond_true_left,Bool.cond_true_right,oB,zfh];cases PB f.Kind
 ·simp only[cond_false];cases f.Epoch==0<;>cases f.Seq==0<;>cases(f.Body.length:Int)==0<;>cases(f.Tag.length:Int)==0<;>cases(f.Cn.length:Int)==12<;>simp[Bool.and_assoc]
 ·simp only[cond_true,Bool.and_assoc]
def zeb{k:Int}(h:PB k=true):(k==1)=false∧(k==2)=false∧(k==3)=false:=by
 rw[PB,yD]at h;exact⟨beq_false_of_ne (by omega),beq_false_of_ne (by omega),beq_false_of_ne (by omega)⟩
def kU(l:List UInt8):(l==[])=((l.length:Int)==0):=by rw[zmf];cases l<;>rfl
def znh(f:Ab)(h:wt f≤bA):Km f=some (oB f):=by
 have hs:∀g:Ab,wt g≤wt f→CN f g=some (QJ f g):=λg hg=>oA ⟨h,by omega⟩;have hw:=YH f;simp only[Km,aA,dD,oB,mA];cases h1:f.Kind==1
 ·cases h2:f.Kind==2
  ·cases h3:f.Kind==3
   ·cases h4:PB f.Kind
    ·simp
    ·simp only[cond_true,cond_false];rw[hs _ (by simp only[YH,zF];omega)];simp only[QJ,beq_self_eq_true,kU,dD,Bool.cond_false_right];cases eA f.Epoch 0 4294967295<;>cases eA f.Seq 0 281474976710655<;>grind
   ·have h4 : PB f.Kind = false := by cases h4 : PB f.Kind; · rfl
                                      rw[(zeb h4).2.2]at h3;cases h3
    simp only[cond_true,cond_false,h4];rw[hs _ (by simp only[YH,zF];omega)];simp only[QJ,beq_self_eq_true,kU,dD,Bool.cond_false_right];cases eA f.Id 1 9<;>cases eA f.Tick 0 1000000<;>grind
  ·have h4 : PB f.Kind = false := by cases h4 : PB f.Kind; · rfl
                                     rw[(zeb h4).2.1]at h2;cases h2
   simp only[cond_true,cond_false,h4];rw[hs _ (by simp only[YH,zF];omega)];simp only[QJ,beq_self_eq_true,kU,dD,Bool.cond_false_right];cases eA f.Tick 0 1000000<;>grind
 ·have h4 : PB f.Kind = false := by cases h4 : PB f.Kind; · rfl
                                    rw[(zeb h4).1]at h1;cases h1
  simp only[cond_true,cond_false,h4];rw[hs _ (by simp only[YH,zF];omega)];simp only[QJ,beq_self_eq_true,kU,dD,Bool.cond_false_right];cases eA f.Id 1 9<;>grind
def YP.ok{x}(_:xA [.v .Frame] x){r}:FC x=some r→Km x=some r:=OA λh=>znh x h
end Go.D
namespace Go.D
def zby(c:Ae)(h:wt c≤bA):wt c.Psk≤bA∧wt c.Cn≤bA∧wt c.Fin≤bA∧wt c.C≤bA∧wt c.Fin.Cn≤bA∧wt c.Fin.Sn≤bA∧wt c.C.Sn≤bA∧wt c.C.Next≤bA∧wt c.C.Cur.Key≤bA:=by
 rw[UN]at h;have h1:=YH c.Fin;have h2:=fI c.C;have h3:=EM c.C.Cur;omega
def zm7(c:Ae)(h:wt c≤bA):Kn c=some (MI c):=by
 have hw:=zby c h;simp only[Kn,aA,FC,jC,RA (p:=wt c.Fin≤bA) hw.2.2.1,RA (p:=wt c.C≤bA) hw.2.2.2.1,IJ hw.2.2.2.2.1 hw.2.1,IJ hw.2.2.2.2.2.2.1 hw.2.2.2.2.2.1];simp only[dD,Bool.cond_false_right,Bool.cond_false_left,Bool.cond_true_left,Bool.not_true,Bool.false_and,MI,zfh,Bool.not_or,Bool.not_not,Bool.and_assoc]
def SP.ok{x}(_:xA [.v .Client] x){r}:zbD x=some r→Kn x=some r:=OA λh=>zm7 x h
def zpK(f:Ab):QJ f (⟨0,0,[],[],0,[],[],0,0,[],[]⟩:Ab)=wF f:=by
 simp only[QJ,wF,kU]
 grind
def zvu{c:Ae}(h:wt c.Fin≤bA):CN c.Fin (⟨0,0,[],[],0,[],[],0,0,[],[]⟩:Ab)=some (wF c.Fin):=by
 rw[CN,oA ⟨h,Nat.zero_le _⟩,zpK]
def zm0(c:Ae)(h:wt c≤bA):Ko c=some (dB c):=by
 have hw:=zby c h;simp only[Ko,aA,zel,zvu hw.2.2.1,rB,jC,jO,zbD,RA (p:=wt c.C≤bA) hw.2.2.2.1,RA h];simp only[dD,Bool.cond_false_right,Bool.cond_false_left,Bool.cond_true_left,Bool.not_true,Bool.false_and,dB,Bool.not_or,Bool.not_not,Bool.and_assoc]
def OP.ok{x}(_:xA [.v .Client] x){r}:KC x=some r→Ko x=some r:=OA λh=>zm0 x h
def ziS{t:Au}(h:t.On=false):NC t=vF t:=by rw[NC,h];rfl
def zjG{t:Au}(h:t.On=true):vF t=false:=by rw[vF,h];rfl
def zmP(c:Ae)(h:wt c≤bA):Kx c=some (dB c):=by
 have hw:=zby c h;have hL:c.Last=0→eA c.Last 0 1000000=true:=λh=>by rw[h];rfl
 have hT0:=ziS (t:=c.T);have hT1:=zjG (t:=c.T);have hR0:=ziS (t:=c.R);have hR1:=zjG (t:=c.R)
 simp only[Kx,aA,jC,RA (p:=wt c.C≤bA) hw.2.2.2.1,IJ hw.2.2.2.2.1 hw.2.1,IJ hw.2.2.2.2.2.2.1 hw.2.2.2.2.2.1,
  dD,Bool.cond_false_right,Bool.cond_false_left,Bool.cond_true_left,dB,MI,zfh,Bool.not_or,Bool.not_not,mA]
 refine congrArg some ?_;cases eA c.Id 1 9
 ·rfl
 cases vC c.Psk
 ·rfl
 cases GA c.At
 ·rfl
 simp only[Bool.true_and]
 by_cases s0:c.St=0
 ·simp only[s0,beq_self_eq_true,cond_true];cases hT:c.T.On<;>cases hR:c.R.On<;>simp_all<;>grind
 ·have e0:(c.St==0)=false:=beq_false_of_ne s0
  by_cases s3:c.St=3
  ·simp only[s3];cases hT:c.T.On<;>simp_all<;>grind
  ·have e3:(c.St==3)=false:=beq_false_of_ne s3;simp only[e0,e3,cond_false];cases hT:c.T.On
   ·simp
   ·cases hR:c.R.On
    ·by_cases s1:c.St=1
     ·simp_all;grind
     ·have e1:(c.St==1)=false:=beq_false_of_ne s1;simp only[e1,cond_false]
      by_cases s2:c.St=2
      ·simp_all;grind
      ·have e2:(c.St==2)=false:=beq_false_of_ne s2;simp[e2]
    ·simp_all
def PP.ok{x}(_:xA [.v .Client] x){r}:KC x=some r→Kx x=some r:=OA λh=>zmP x h
def zb8(w:Aa)(h:wt w≤bA):wt w.Clients≤bA∧wt w.S≤bA∧wt w.S.Psks≤bA∧wt w.S.T≤bA∧wt w.S.T.L≤bA∧wt w.Seen≤bA∧wt w.Known≤bA∧wt w.Notes≤bA:=by
 rw[gG]at h;have h1:=IN w.S;have h2:=jK w.S.T;omega
def zqD(l:List (List UInt8))(hl:l.length≤maxLen)(z:Option Bool):wA FU (λ(x16:Int) k17=>cond (decide (x16<(l.length:Int))) (Option.bind (nA l x16) λe18=>cond ((e18.length:Int) !=32) (some false) (k17 (gA .i64 x16 1))) z) 0
  =bif l.any λb=>(b.length:Int) !=32 then some false else z:=by
 rw[SN l hl (λb=>(b.length:Int) !=32) (some false) z (λi k hi=>?_) (λk=>by simp only[ED,cond_false])];simp only[lD hi,cond_true,WB hi,rB]
def zqe(l:List Ad)(hl:l.length≤maxLen)(z:Option Bool):wA FU (λ(x16:Int) k17=>cond (decide (x16<(l.length:Int))) (Option.bind (nA l x16) λe18=>cond (!(nC e18)) (some false) (k17 (gA .i64 x16 1))) z) 0
  =bif l.any λn=>!nC n then some false else z:=by
 rw[SN l hl (λn=>!nC n) (some false) z (λi k hi=>?_) (λk=>by simp only[ED,cond_false])];simp only[lD hi,cond_true,WB hi,rB]
def zqH{w:Aa}(h:wt w≤bA){i:Nat}(hi:i<w.Clients.length):wt w.Clients[i]≤bA:=by
 have:=TF hi;have:=(zb8 w h).1;omega
def zoZ(w:Aa)(h:wt w≤bA)(hc:w.Clients.length=2)(hp:w.S.Psks.length=2)(z:Option Bool){f:Int→(Int→Option Bool)→Option Bool}
  (hf:∀ (i:Nat) k (h:i<w.Clients.length) (h':i<w.S.Psks.length),wt w.Clients[i]≤bA→wt w.Clients[i].Psk≤bA→wt w.S.Psks[i]≤bA→IntKind.wrap .i64 ((i:Int)+1)=((i+1:Nat):Int)→
   f (i:Int) k=bif !dB w.Clients[i]||w.Clients[i].Id !=((i+1:Nat):Int)||!(w.Clients[i].Psk==w.S.Psks[i])then some false else k (IntKind.wrap .i64 ((i:Int)+1)))
  (hz:∀k,f (2:Int) k=z):wA FU f 0=bif wB 2 (GI w)then some false else z:=by
 rw[KI 2 (by decide) (GI w) (some false) z (λi k hi=>?_) hz];have h1:=zqH h (i:=i) (by omega);have h2:=(zby _ h1).1;have h3:=TF (l:=w.S.Psks) (i:=i) (by omega);have h4:=(zb8 w h).2.2.1;rw[hf i k (by omega) (by omega) h1 h2 (by omega) (uG i (by rw[oD];omega)),GI,BF (by omega),BF (by omega)]
def znk(w:Aa)(h:wt w≤bA):Kz w=some (ZA w):=by
 have hw:=zb8 w h;simp only[Kz,aA,CC,RA (p:=wt w.S≤bA) hw.2.1,ZA]
 by_cases hc:w.Clients.length=2
 ·by_cases hp:w.S.Psks.length=2
  ·have c1:((w.Clients.length:Int) !=2)=false:=by simp[hc]
   have c2:((w.Clients.length:Int)==2)=true:=by simp[hc]
   have p1:((w.S.Psks.length:Int) !=2)=false:=by simp[hp]
   have p2:((w.S.Psks.length:Int)==2)=true:=by simp[hp]
   rw[c1,c2,p1,p2,zqe w.Notes (wG hw.2.2.2.2.2.2.2),zqD w.Known (wG hw.2.2.2.2.2.2.1),zoZ w h hc hp _ (λi k hi cW w1 w2 w3 he=>?_) (λk=>by rw[hc];exact cond_false _ _)]
   ·rw[gL];cases eA w.Now 0 1000000
    ·rfl
    cases BB w.S
    ·rfl
    cases YB w.D
    ·rfl
    cases fE w.Seen
    ·rfl
    cases decide ((w.Known.length:Int)≤12)
    ·rfl
    cases wB 2 (GI w)
    ·cases w.Known.any _
     ·cases w.Notes.any _<;>rfl
     ·rfl
    ·rfl
   ·simp only[lD hi,cond_true,WB hi,WB cW,rB,KC,RA w1,IJ w2 w3];simp only[gA,he];cases dB w.Clients[i]<;>cases w.Clients[i].Id !=((i+1:Nat):Int)<;>cases w.Clients[i].Psk==w.S.Psks[i]<;>rfl
  ·have p1:((w.S.Psks.length:Int) !=2)=true:=by simp;omega
   have p2:((w.S.Psks.length:Int)==2)=false:=by simp;omega
   rw[p1,p2];simp
 ·have c1:((w.Clients.length:Int) !=2)=true:=by simp;omega
  have c2:((w.Clients.length:Int)==2)=false:=by simp;omega
  rw[c1,c2];simp
def kQ.ok{x}(_:xA [.v .World] x){r}:eE x=some r→Kz x=some r:=OA λh=>znk x h
def znl(w:Aa)(h:wt w≤bA):La w=some (OU w):=by
 have hw:=zb8 w h;simp only[La,aA,eE,RA h,OU];rw[SN w.Clients (wG hw.1) (λc=>c.St==1||c.St==2) (some false) _ (λi k hi=>?_) (λk=>by simp only[ED,cond_false];rfl)]
 ·cases ZA w<;>cases w.Clients.any _<;>rfl
 ·simp only[lD hi,cond_true,WB hi,rB];cases w.Clients[i].St==1<;>rfl
def tQ.ok{x}(_:xA [.v .World] x){r}:zff x=some r→La x=some r:=OA λh=>znl x h
end Go.D
namespace Go.D
end Go.D
