/-
 Sizes of the program's data.
-/
import Derived.Test.YtfipojlaeaeedaaGreatN2
set_option linter.all false
namespace Go.D
instance:Wt Ag:=⟨λx=>wt x.A⟩
instance:Wt Ab:=⟨λx=>wt x.Cn+wt x.Sn+wt x.Cookie+wt x.Proof+wt x.Body+wt x.Tag⟩
def xG(x:Ab):wt x=wt x.Cn+wt x.Sn+wt x.Cookie+wt x.Proof+wt x.Body+wt x.Tag:=rfl
instance:Wt As:=⟨λ_=>0⟩
def bN(x:As):wt x=0:=rfl
instance:Wt Ad:=⟨λx=>wt x.Psk+wt x.At+wt x.Cn+wt x.Fin+wt x.C+wt x.T+wt x.R⟩
def II(x:Ad):wt x=wt x.Psk+wt x.At+wt x.Cn+wt x.Fin+wt x.C+wt x.T+wt x.R:=rfl
instance:Wt Az:=⟨λx=>wt x.Secret⟩
def HU(x:Az):wt x=wt x.Secret:=rfl
instance:Wt Ar:=⟨λx=>wt x.Seed⟩
def mN(x:Ar):wt x=wt x.Seed:=rfl
instance:Wt Aw:=⟨λx=>wt x.A+wt x.Draw⟩
def zbt(x:Aw):wt x=wt x.A+wt x.Draw:=rfl
instance:Wt Aj:=⟨λx=>wt x.At+wt x.Cands⟩
def UI(x:Aj):wt x=wt x.At+wt x.Cands:=rfl
instance:Wt Al:=⟨λx=>wt x.Cn+wt x.Sn+wt x.C+wt x.P⟩
def XH(x:Al):wt x=wt x.Cn+wt x.Sn+wt x.C+wt x.P:=rfl
instance:Wt Am:=⟨λx=>wt x.L⟩
def rH(x:Am):wt x=wt x.L:=rfl
instance:Wt Ac:=⟨λx=>wt x.Psks+wt x.J+wt x.D+wt x.T+wt x.Cr⟩
def BM(x:Ac):wt x=wt x.Psks+wt x.J+wt x.D+wt x.T+wt x.Cr:=rfl
instance:Wt Aq:=⟨λx=>wt x.From+wt x.To+wt x.B⟩
def zfb(x:Aq):wt x=wt x.From+wt x.To+wt x.B:=rfl
instance:Wt Aa:=⟨λx=>wt x.Clients+wt x.S+wt x.D+wt x.Seen+wt x.Known+wt x.Notes⟩
def lN(x:Aa):wt x=wt x.Clients+wt x.S+wt x.D+wt x.Seen+wt x.Known+wt x.Notes:=rfl
end Go.D
namespace Go.D
noncomputable section
def uB(i:Int):Ae:=if 0≤i∧i≤255 then⟨167772160+i,7000+i⟩else⟨0,0⟩
def jE:Ae:=uB 0
def wB(a b:Ae):Bool:=a.Host==b.Host&&a.Port==b.Port
def kK(n k:Int):Bool:=n==0||n==k
def kF(b:List UInt8)(n:Int):Bool:=kK (b.length:Int) n
def aE(n:Af):Bool:=gA n.Kind 1 17&&gA n.Id 0 9&&gA n.Role 0 1&&kF n.Cn 12&&kF n.Sn 12&&gA n.Epoch 0 4294967295&&gA n.Seq 0 281474976710655&&decide ((n.Body.length:Int)≤100)&&kF n.Key 32&&bB n.A&&gA n.Now 0 1000000
def JF(w:Aa)(a:Ae):Int:=bif wB a jE then 0 else match w.Clients.find? λc=>wB c.At a with
 | some c=>c.Id
 | none=> -1
def nE(w:Aa)(a:Ae):Option Int:=pt (wt w≤bA) (JF w a)
def UE(j:Az):Bool:=(j.Secret.length:Int)==32
def zC(d:Ar):Bool:=gA (d.Seed.length:Int) 1 32&&gA d.N 0 10000
def pG(t:Am):Int:=t.L.foldl (λs e=>bif e.Dead then s else iA .i64 s 1) 0
def qF(t:Am):Option Int:=pt (wt t≤bA) (pG t)
def RE(c:Ak):Bool:=c.Role==0&&(c.Sn.length:Int)==0&&sF c.Cur&&sF c.Old&&!c.HasOld&&c.Until==0&&(c.Next.length:Int)==0
def UJ(c:Ak):Option Bool:=pt (wt c≤bA) (RE c)
def rN(p:Aj)(i:Nat):Bool:=(p.Cands[i]?).any λe=>!bB e.A||!IB e.Draw||!gA e.Until 0 1000006||wB e.A p.At||XA i λj=>(p.Cands[j]?).any λd=>wB d.A e.A
def jD(p:Aj):Bool:=bB p.At&&decide ((p.Cands.length:Int)≤3)&&!(XA p.Cands.length (rN p))
def MF(s:Al):Bool:=gA s.Id 1 9&&IB s.Cn&&IB s.Sn&&gA s.Tick 0 1000000&&bif s.Dead then RE s.C&&wB s.P.At ⟨0,0⟩&&(s.P.Cands.length:Int)==0&&s.Last==0
 else lH s.C&&s.C.Role==1&&s.C.Sn==s.Sn&&jD s.P&&gA s.Last 0 1000000
def qE(s:Al):Option Bool:=pt (wt s≤bA) (MF s)
def gJ(t:Am)(b:List UInt8)(i:Nat):Bool:=(t.L[i]?).any λe=>e.Sn==b
def AE(t:Am)(b:List UInt8):Int:=OF t.L.length (gJ t b)
def xC(t:Am)(b:List UInt8):Option Int:=pt (wt t≤bA∧wt b≤bA) (AE t b)
def aI(t:Am)(i:Nat):Bool:=(t.L[i]?).any λe=>!MF e||XA i (gJ t e.Sn)
def pF(t:Am):Bool:=gA t.Cap 1 6&&decide ((t.L.length:Int)≤12)&&decide (pG t≤t.Cap)&&!(XA t.L.length (aI t))
def oH(t:Am):Option Bool:=pt (wt t≤bA) (pF t)
def oG(l:List Ag)(a:Ae)(i:Nat):Bool:=(l[i]?).any λc=>wB c.A a
def gB(l:List Ag)(a:Ae):Int:=OF l.length (oG l a)
def UO(l:List Ag)(i:Nat):Bool:=(l[i]?).any λc=>!bB c.A||!gA c.Got 0 1000000||!gA c.Sent 0 (BB .i64 3 c.Got)||XA i (oG l c.A)
def iD(l:List Ag):Bool:=decide ((l.length:Int)≤8)&&!(XA l.length (UO l))
def mC(b:List UInt8):Bool:=gA (b.length:Int) 1 32
def bD(s:Ac):Bool:=gA (s.Psks.length:Int) 1 9&&UE s.J&&zC s.D&&pF s.T&&iD s.Cr&&!(s.Psks.any λb=>!mC b)&&!(s.T.L.any λe=>decide (e.Id>(s.Psks.length:Int)))
def lD(s:Ac):Option Bool:=pt (wt s≤bA) (bD s)
def nH(w:Aq):Bool:=bB w.From&&bB w.To&&decide ((w.B.length:Int)≤200)
def AG(l:List Aq):Bool:=!(l.any λw=>!nH w)&&decide ((l.length:Int)≤90)
def cH(f g:Ab):Bool:=f.Kind==g.Kind&&f.Id==g.Id&&f.Tick==g.Tick&&f.Epoch==g.Epoch&&f.Seq==g.Seq&&f.Cn==g.Cn&&f.Sn==g.Sn&&f.Cookie==g.Cookie&&f.Proof==g.Proof&&f.Body==g.Body&&f.Tag==g.Tag
def EJ(f g:Ab):Option Bool:=pt (wt f≤bA∧wt g≤bA) (cH f g)
def CG(t:As):Bool:=t.On==false&&t.Due==0&&t.Wait==0&&t.Tries==0
def ID(t:As):Bool:=bif t.On then gA t.Due 0 1000008&&(t.Wait==1||t.Wait==2||t.Wait==4||t.Wait==8)&&gA t.Tries 1 5 else CG t
def OE(f:Ab):Bool:=f.Kind==0&&f.Id==0&&(f.Cn.length:Int)==0&&(f.Sn.length:Int)==0&&f.Tick==0&&(f.Cookie.length:Int)==0&&(f.Proof.length:Int)==0&&f.Epoch==0&&f.Seq==0&&(f.Body.length:Int)==0&&(f.Tag.length:Int)==0
def NC(k:Int):Bool:=gA k 4 8
def gG(k n:Int):Bool:=bif k==4 then decide (n≤40)else bif k==5||k==6 then n==12 else n==4
def HD(f:Ab):Bool:=
 bif NC f.Kind then f.Id==0&&(f.Cn.length:Int)==0&&(f.Sn.length:Int)==12&&f.Tick==0&&(f.Cookie.length:Int)==0&&(f.Proof.length:Int)==0&&gA f.Epoch 0 4294967295&&gA f.Seq 0 281474976710655&&gG f.Kind (f.Body.length:Int)&&(f.Tag.length:Int)==16
 else f.Epoch==0&&f.Seq==0&&(f.Body.length:Int)==0&&(f.Tag.length:Int)==0&&(f.Cn.length:Int)==12&&
  bif f.Kind==1 then gA f.Id 1 9&&(f.Sn.length:Int)==0&&f.Tick==0&&(f.Cookie.length:Int)==0&&(f.Proof.length:Int)==0
  else bif f.Kind==2 then f.Id==0&&(f.Sn.length:Int)==12&&gA f.Tick 0 1000000&&(f.Cookie.length:Int)==16&&(f.Proof.length:Int)==0
  else f.Kind==3&&gA f.Id 1 9&&(f.Sn.length:Int)==12&&gA f.Tick 0 1000000&&(f.Cookie.length:Int)==16&&(f.Proof.length:Int)==16
def kT(f:Ab):Option Bool:=pt (wt f≤bA) (HD f)
def kN(c:Ad):Bool:=IB c.Cn&&c.Fin.Kind==3&&HD c.Fin&&c.Fin.Id==c.Id&&c.Fin.Cn==c.Cn&&lH c.C&&c.C.Role==0&&c.C.Sn==c.Fin.Sn&&c.C.Cur.N==0&&!c.C.HasOld&&(c.C.Next.length:Int)==0
def YS(c:Ad):Option Bool:=pt (wt c≤bA) (kN c)
def iF(c:Ad):Bool:=gA c.Id 1 9&&mC c.Psk&&bB c.At&&
 bif c.St==0 then(c.Cn.length:Int)==0&&OE c.Fin&&RE c.C&&CG c.T&&CG c.R&&c.Last==0
 else bif c.St==1 then IB c.Cn&&OE c.Fin&&RE c.C&&c.T.On&&ID c.T&&CG c.R&&c.Last==0
 else bif c.St==2 then kN c&&c.T.On&&ID c.T&&CG c.R&&c.Last==0
 else c.St==3&&IB c.Cn&&OE c.Fin&&lH c.C&&c.C.Role==0&&CG c.T&&ID c.R&&c.R.On==decide ((c.C.Next.length:Int)>0)&&gA c.Last 0 1000000
def wE(c:Ad):Option Bool:=pt (wt c≤bA) (iF c)
def EI(w:Aa)(i:Nat):Bool:=(w.Clients[i]?).any λc=>(w.S.Psks[i]?).any λp=>!iF c||c.Id !=((i+1:Nat):Int)||!(c.Psk==p)
def mD(w:Aa):Bool:=gA w.Now 0 1000000&&(w.Clients.length:Int)==2&&bD w.S&&(w.S.Psks.length:Int)==2&&zC w.D&&AG w.Seen&&decide ((w.Known.length:Int)≤12)&&
 !(XA 2 (EI w))&&!(w.Known.any λb=>(b.length:Int) !=32)&&!(w.Notes.any λn=>!aE n)
def mE(w:Aa):Option Bool:=pt (wt w≤bA) (mD w)
def ZU:Av:=⟨0,[],0,⟨0,[]⟩⟩
def znB:Al:=⟨0,[],[],⟨0,[],ZU,ZU,false,0,[]⟩,⟨⟨0,0⟩,[]⟩,0,0,false⟩
def cD(w:Aa)(c:Ad):Option Al:=bif c.St==3 then(if 0≤AE w.S.T c.C.Sn then(w.S.T.L[(AE w.S.T c.C.Sn).toNat]?).filter (λs=>!s.Dead)else none)else none
def KJ(w:Aa)(c:Ad):Ad×Al×Bool:=match cD w c with
 | some s=>(c,s,true)
 | none=>(c,znB,false)
def XG(w:Aa)(id:Int):Option (Ad×Al×Bool):=Option.bind (pt (wt w≤bA∧1≤id∧id≤w.Clients.length) ()) λ_=>(w.Clients[(id - 1).toNat]?).map (KJ w)
def zbm(c s:Ak):Bool:=bif c.Cur.N==s.Cur.N&&c.Cur.Key==s.Cur.Key then decide (c.Cur.Win.Top<s.Cur.Seq)&&decide (s.Cur.Win.Top<c.Cur.Seq)
 else s.Cur.N==iA .i64 c.Cur.N 1&&c.Next==s.Cur.Key&&s.HasOld&&s.Until== -1&&s.Old.Key==c.Cur.Key&&decide (s.Old.Win.Top<c.Cur.Seq)&&decide (c.Cur.Win.Top<s.Old.Seq)
def DF(w:Aa)(id:Int):Bool:=mD w&&gA id 1 2&&(w.Clients[(id - 1).toNat]?).any λc=>(cD w c).all λs=>c.Cn==s.Cn&&zbm c.C s.C
def YG(w:Aa)(id:Int):Option Bool:=pt (wt w≤bA) (DF w id)
def zbP(w:Aa)(c:Ad)(s:Al):Bool:=gA (oA .i64 w.Now c.Last) 0 40&&gA (oA .i64 w.Now s.Last) 0 40&&!(c.R.On&&decide (c.R.Due>iA .i64 w.Now 8))&&
 decide (c.C.Cur.Seq≤281474976709556)&&decide (s.C.Cur.Seq≤281474976709556)&&(!s.C.HasOld||decide (s.C.Old.Seq≤281474976709556))&&decide (c.C.Cur.N≤4294967293)
def yD(w:Aa)(id:Int):Bool:=DF w id&&decide (w.Now≤999900)&&(w.Clients[(id - 1).toNat]?).any λc=>(cD w c).any (zbP w c)
def YD(w:Aa)(id:Int):Option Bool:=pt (wt w≤bA) (yD w id)
def jH(w:Aa)(id:Int):Bool:=yD w id&&(w.Clients[(id - 1).toNat]?).any λc=>(cD w c).any λs=>wB s.P.At c.At&&JF w c.At==id
def UH(w:Aa)(id:Int):Option Bool:=pt (wt w≤bA) (jH w id)
end
end Go.D
namespace Go.D
open Option renaming bind→ob
noncomputable section
def Jz(a0:Int)(a1:Int):=
 aA (λ(y1:Bool)=>
 some y1) λk2=>
 cond (a0==0)
 (k2 true)
 (k2 (a0==a1))
def Ky(a0:Ae):=
 aA (λ(y1:Bool)=>
 some y1) λk2=>
 cond ((gA a0.Host 0 4294967295))
 (k2 (gA a0.Port 0 65535))
 (k2 false)
def Dw(a0:Af):=
 aA (λ(y1:Bool)=>
 some y1) λk2=>
 cond ((gA a0.Kind 1 17))
 (cond ((gA a0.Id 0 9))
 (cond ((gA a0.Role 0 1))
 (cond ((kK (a0.Cn.length:Int) 12))
 (cond ((kK (a0.Sn.length:Int) 12))
 (cond ((gA a0.Epoch 0 4294967295))
 (cond ((gA a0.Seq 0 281474976710655))
 (cond (decide ((a0.Body.length:Int)≤100))
 (cond ((kK (a0.Key.length:Int) 32))
 (cond ((bB a0.A))
 (k2 (gA a0.Now 0 1000000))
 (k2 false))
 (k2 false))
 (k2 false))
 (k2 false))
 (k2 false))
 (k2 false))
 (k2 false))
 (k2 false))
 (k2 false))
 (k2 false)
def Ka(a0:List UInt8)(a1:Int):=
 aA (λ(y1:Bool)=>
 some y1) λk2=>
 cond ((a0.length:Int)==0)
 (k2 true)
 (k2 ((a0.length:Int)==a1))
def Kz(a0:Ae):=
 aA (λ(y1:Bool)=>
 some y1) λk2=>
 cond ((gA a0.Host 0 4294967295))
 (k2 (gA a0.Port 0 65535))
 (k2 false)
def Dx(a0:Af):=
 aA (λ(y1:Bool)=>
 some y1) λk2=>
 cond ((gA a0.Kind 1 17))
 (cond ((gA a0.Id 0 9))
 (cond ((gA a0.Role 0 1))
 (cond ((gA a0.Epoch 0 4294967295))
 (cond ((gA a0.Seq 0 281474976710655))
 (cond ((gA a0.Now 0 1000000))
 (cond ((kF a0.Cn 12))
 (cond ((kF a0.Sn 12))
 (cond (decide ((a0.Body.length:Int)≤100))
 (cond ((kF a0.Key 32))
 (k2 (bB a0.A))
 (k2 false))
 (k2 false))
 (k2 false))
 (k2 false))
 (k2 false))
 (k2 false))
 (k2 false))
 (k2 false))
 (k2 false))
 (k2 false)
def La(a0:Int):=
 cond (!(gA a0 0 255))
 (some (⟨0,0⟩:Ae))
 (some (⟨iA .i64 167772160 a0,iA .i64 7000 a0⟩:Ae))
def Lb:=
 let r1:Ae:=uB 0
 some r1
def Dy(a0:Aa)(a1:Ae):=
 let r1:Ae:=jE;let x2:Bool:=cond (a1.Host==r1.Host) (cond (a1.Port==r1.Port) (true) false) false
 cond (x2)
 (some 0)
 (aA (λ(y3:Unit)=>
 some (-1)) λk4=>
 uA FU (λ(x5:Int) k6=>
 cond (decide (x5<(a0.Clients.length:Int)))
 (ob (lA a0.Clients x5) λe7=>
 let x8:Bool:=cond (e7.At.Host==a1.Host) (cond (e7.At.Port==a1.Port) (true) false) false
 cond (x8)
 (ob (lA a0.Clients x5) λe9=>
 some e9.Id)
 (k6 (iA .i64 x5 1)))
 (k4 ())) 0)
def Lc(a0:Int):=
 cond (!(gA a0 0 255))
 (some (⟨0,0⟩:Ae))
 (some (⟨iA .i64 167772160 a0,iA .i64 7000 a0⟩:Ae))
def Ld:=
 let r1:Ae:=uB 0
 some r1
def Dz(a0:Aa)(a1:Ae):=
 let r1:Ae:=jE;let x2:Bool:=cond (a1.Host==r1.Host) (cond (a1.Port==r1.Port) (true) false) false
 cond (x2)
 (some 0)
 (aA (λ(y3:Unit)=>
 some (-1)) λk4=>
 uA FU (λ(x5:Int) k6=>
 cond (decide (x5<(a0.Clients.length:Int)))
 (ob (lA a0.Clients x5) λe7=>
 let x8:Bool:=cond (e7.At.Host==a1.Host) (cond (e7.At.Port==a1.Port) (true) false) false
 cond (x8)
 (some e7.Id)
 (k6 (iA .i64 x5 1)))
 (k4 ())) 0)
def Le(a0:Ar):=
 aA (λ(y1:Bool)=>
 some y1) λk2=>
 let r3:Bool:=gA (a0.Seed.length:Int) 1 32
 cond (r3)
 (k2 (gA a0.N 0 10000))
 (k2 false)
def Lf(a0:Az):=
 some ((a0.Secret.length:Int)==32)
def Lg(a0:Am):=
 aA (λ(y1:Int)=>
 some y1) λk2=>
 uA FU (λ(x3:Int×Int) k4=>
 cond (decide (x3.2<(a0.L.length:Int)))
 (ob (lA a0.L x3.2) λe5=>
 aA (λ(y6:Int)=>
 k4 (y6,(iA .i64 x3.2 1))) λk7=>
 cond (!e5.Dead)
 (k7 (iA .i64 x3.1 1))
 (k7 x3.1))
 (k2 x3.1)) (0,0)
def Ea(a0:Ak):=
 aA (λ(y1:Bool)=>
 some y1) λk2=>
 cond (a0.Role==0)
 (cond ((a0.Sn.length:Int)==0)
 (ob (YJ a0.Cur (⟨0,[],0,(⟨0,[]⟩:Ao)⟩:Av)) λr3=>
 cond (r3)
 (ob (YJ a0.Old (⟨0,[],0,(⟨0,[]⟩:Ao)⟩:Av)) λr4=>
 cond (r4)
 (cond (!a0.HasOld)
 (cond (a0.Until==0)
 (k2 ((a0.Next.length:Int)==0))
 (k2 false))
 (k2 false))
 (k2 false))
 (k2 false))
 (k2 false))
 (k2 false)
def Eb(a0:Aj):=
 aA (λy1=>
 cond (y1)
 (some false)
 (aA (λ(y3:Unit)=>
 some true) λk4=>
 uA FU (λ(x5:Int) k6=>
 cond (decide (x5<(a0.Cands.length:Int)))
 (ob (lA a0.Cands x5) λe7=>
 aA (λy8=>
 cond (y8)
 (some false)
 (cond (decide (0≤(0:Int))&&decide ((0:Int)≤x5)&&decide (x5≤(a0.Cands.length:Int))) (let l11:List Aw:=List.take ((x5 - 0).toNat) (List.drop 0 a0.Cands)
 aA (λ(y12:Unit)=>
 k6 (iA .i64 x5 1)) λk13=>
 uA FU (λ(x14:Int) k15=>
 cond (decide (x14<(l11.length:Int)))
 (ob (lA l11 x14) λe16=>
 let x17:Bool:=cond (e16.A.Host==e7.A.Host) (cond (e16.A.Port==e7.A.Port) (true) false) false
 cond (x17)
 (some false)
 (k15 (iA .i64 x14 1)))
 (k13 ())) 0) none)) λk9=>
 cond (!(bB e7.A))
 (k9 true)
 (let x10:Bool:=cond (e7.A.Host==a0.At.Host) (cond (e7.A.Port==a0.At.Port) (true) false) false
 cond (x10)
 (k9 true)
 (cond (!(IB e7.Draw))
 (k9 true)
 (k9 (!(gA e7.Until 0 1000006))))))
 (k4 ())) 0)) λk2=>
 cond (!(bB a0.At))
 (k2 true)
 (k2 (decide ((a0.Cands.length:Int)>3)))
def Ec(a0:Al):=
 aA (λy1=>
 cond (y1)
 (some false)
 (cond (a0.Dead)
 (aA (λ(y3:Bool)=>
 some y3) λk4=>
 ob (UJ a0.C) λr5=>
 cond (r5)
 (let x6:Bool:=cond (a0.P.At.Host==0) (cond (a0.P.At.Port==0) (true) false) false
 cond (x6)
 (cond ((a0.P.Cands.length:Int)==0)
 (k4 (a0.Last==0))
 (k4 false))
 (k4 false))
 (k4 false))
 (aA (λ(y7:Bool)=>
 some y7) λk8=>
 ob (IC a0.C) λr9=>
 cond (r9)
 (cond (a0.C.Role==1)
 (ob (PB a0.C.Sn a0.Sn) λr10=>
 cond (r10)
 (cond ((jD a0.P))
 (k8 (gA a0.Last 0 1000000))
 (k8 false))
 (k8 false))
 (k8 false))
 (k8 false)))) λk2=>
 cond (!(gA a0.Id 1 9))
 (k2 true)
 (cond (!(IB a0.Cn))
 (k2 true)
 (cond (!(IB a0.Sn))
 (k2 true)
 (k2 (!(gA a0.Tick 0 1000000)))))
def Lh(a0:Am)(a1:List UInt8):=
 aA (λ(y1:Unit)=>
 some (-1)) λk2=>
 uA FU (λ(x3:Int) k4=>
 cond (decide (x3<(a0.L.length:Int)))
 (ob (lA a0.L x3) λe5=>
 ob (PB e5.Sn a1) λr6=>
 cond (r6)
 (some x3)
 (k4 (iA .i64 x3 1)))
 (k2 ())) 0
def Ed(a0:Am):=
 aA (λy1=>
 cond (y1)
 (some false)
 (aA (λ(y4:Unit)=>
 some true) λk5=>
 uA FU (λ(x6:Int) k7=>
 cond (decide (x6<(a0.L.length:Int)))
 (ob (lA a0.L x6) λe8=>
 aA (λy9=>
 cond (y9)
 (some false)
 (k7 (iA .i64 x6 1))) λk10=>
 ob (qE e8) λr11=>
 cond (!r11)
 (k10 true)
 (ob (xC a0 e8.Sn) λr12=>
 k10 (decide (r12<x6))))
 (k5 ())) 0)) λk2=>
 cond (!(gA a0.Cap 1 6))
 (k2 true)
 (cond (decide ((a0.L.length:Int)>12))
 (k2 true)
 (ob (qF a0) λr3=>
 k2 (decide (r3>a0.Cap))))
def Li(a0:List Ag)(a1:Ae):=
 aA (λ(y1:Unit)=>
 some (-1)) λk2=>
 uA FU (λ(x3:Int) k4=>
 cond (decide (x3<(a0.length:Int)))
 (ob (lA a0 x3) λe5=>
 let x6:Bool:=cond (e5.A.Host==a1.Host) (cond (e5.A.Port==a1.Port) (true) false) false
 cond (x6)
 (some x3)
 (k4 (iA .i64 x3 1)))
 (k2 ())) 0
def Ee(a0:List Ag):=
 cond (decide ((a0.length:Int)>8))
 (some false)
 (aA (λ(y1:Unit)=>
 some true) λk2=>
 uA FU (λ(x3:Int) k4=>
 cond (decide (x3<(a0.length:Int)))
 (ob (lA a0 x3) λe5=>
 aA (λy6=>
 cond (y6)
 (some false)
 (k4 (iA .i64 x3 1))) λk7=>
 cond (!(bB e5.A))
 (k7 true)
 (cond (!(gA e5.Got 0 1000000))
 (k7 true)
 (let r8:Bool:=gA e5.Sent 0 (BB .i64 3 e5.Got)
 cond (!r8)
 (k7 true)
 (k7 (decide ((gB a0 e5.A)<x3))))))
 (k2 ())) 0)
def Lj(a0:List UInt8):=
 some (gA (a0.length:Int) 1 32)
def Ef(a0:Ac):=
 aA (λy1=>
 cond (y1)
 (some false)
 (aA (λ(y4:Unit)=>
 aA (λ(y9:Unit)=>
 some true) λk10=>
 uA FU (λ(x11:Int) k12=>
 cond (decide (x11<(a0.T.L.length:Int)))
 (ob (lA a0.T.L x11) λe13=>
 cond (decide (e13.Id>(a0.Psks.length:Int)))
 (some false)
 (k12 (iA .i64 x11 1)))
 (k10 ())) 0) λk5=>
 uA FU (λ(x6:Int) k7=>
 cond (decide (x6<(a0.Psks.length:Int)))
 (ob (lA a0.Psks x6) λe8=>
 cond (!(mC e8))
 (some false)
 (k7 (iA .i64 x6 1)))
 (k5 ())) 0)) λk2=>
 cond (!(gA (a0.Psks.length:Int) 1 9))
 (k2 true)
 (cond (!(UE a0.J))
 (k2 true)
 (cond (!(zC a0.D))
 (k2 true)
 (ob (oH a0.T) λr3=>
 cond (!r3)
 (k2 true)
 (k2 (!(iD a0.Cr))))))
def Eg(a0:Ab)(a1:Ab):=
 aA (λ(y1:Bool)=>
 some y1) λk2=>
 cond (a0.Kind==a1.Kind)
 (cond (a0.Id==a1.Id)
 (cond (a0.Tick==a1.Tick)
 (cond (a0.Epoch==a1.Epoch)
 (cond (a0.Seq==a1.Seq)
 (ob (PB a0.Cn a1.Cn) λr3=>
 cond (r3)
 (ob (PB a0.Sn a1.Sn) λr4=>
 cond (r4)
 (ob (PB a0.Cookie a1.Cookie) λr5=>
 cond (r5)
 (ob (PB a0.Proof a1.Proof) λr6=>
 cond (r6)
 (ob (PB a0.Body a1.Body) λr7=>
 cond (r7)
 (ob (PB a0.Tag a1.Tag) λr8=>
 k2 r8)
 (k2 false))
 (k2 false))
 (k2 false))
 (k2 false))
 (k2 false))
 (k2 false))
 (k2 false))
 (k2 false))
 (k2 false))
 (k2 false)
def Eh(a0:As):=
 cond (!a0.On)
 (let x1:Bool:=cond (a0.On==false) (cond (a0.Due==0) (cond (a0.Wait==0) (cond (a0.Tries==0) (true) false) false) false) false
 some x1)
 (aA (λ(y2:Bool)=>
 aA (λ(y4:Bool)=>
 some y4) λk5=>
 cond ((gA a0.Due 0 1000008))
 (cond (y2)
 (k5 (gA a0.Tries 1 5))
 (k5 false))
 (k5 false)) λk3=>
 cond (a0.Wait==1)
 (k3 true)
 (cond (a0.Wait==2)
 (k3 true)
 (cond (a0.Wait==4)
 (k3 true)
 (k3 (a0.Wait==8)))))
def Lk(a0:Int):=
 some (gA a0 4 8)
def Kb(a0:Int)(a1:Int):=
 cond (a0==4)
 (some (decide (a1≤40)))
 (aA (λy1=>
 cond (y1)
 (some (a1==12))
 (some (a1==4))) λk2=>
 cond (a0==5)
 (k2 (a0==5))
 (k2 (a0==6)))
def Ei(a0:Ab):=
 aA (λ(y1:Bool×Ab)=>
 aA (λ(y18:Bool)=>
 some y18) λk19=>
 cond (y1.1)
 (ob (EJ a0 y1.2) λr20=>
 k19 r20)
 (k19 false)) λk2=>
 cond (a0.Kind==1)
 (aA (λ(y3:Bool)=>
 k2 (y3,(⟨a0.Kind,a0.Id,a0.Cn,[],0,[],[],0,0,[],[]⟩:Ab))) λk4=>
 cond ((gA a0.Id 1 9))
 (k4 (IB a0.Cn))
 (k4 false))
 (aA (λ(y5:Bool×Ab)=>
 k2 (y5.1,y5.2)) λk6=>
 cond (a0.Kind==2)
 (aA (λ(y7:Bool)=>
 k6 (y7,(⟨a0.Kind,0,a0.Cn,a0.Sn,a0.Tick,a0.Cookie,[],0,0,[],[]⟩:Ab))) λk8=>
 cond ((IB a0.Cn))
 (cond ((IB a0.Sn))
 (cond ((gA a0.Tick 0 1000000))
 (k8 ((a0.Cookie.length:Int)==16))
 (k8 false))
 (k8 false))
 (k8 false))
 (aA (λ(y9:Bool×Ab)=>
 k6 (y9.1,y9.2)) λk10=>
 cond (a0.Kind==3)
 (aA (λ(y11:Bool)=>
 k10 (y11,(⟨a0.Kind,a0.Id,a0.Cn,a0.Sn,a0.Tick,a0.Cookie,a0.Proof,0,0,[],[]⟩:Ab))) λk12=>
 cond ((gA a0.Id 1 9))
 (cond ((IB a0.Cn))
 (cond ((IB a0.Sn))
 (cond ((gA a0.Tick 0 1000000))
 (cond ((a0.Cookie.length:Int)==16)
 (k12 ((a0.Proof.length:Int)==16))
 (k12 false))
 (k12 false))
 (k12 false))
 (k12 false))
 (k12 false))
 (aA (λ(y13:Bool×Ab)=>
 k10 (y13.1,y13.2)) λk14=>
 cond ((NC a0.Kind))
 (aA (λ(y15:Bool)=>
 k14 (y15,(⟨a0.Kind,0,[],a0.Sn,0,[],[],a0.Epoch,a0.Seq,a0.Body,a0.Tag⟩:Ab))) λk16=>
 cond ((IB a0.Sn))
 (cond ((gA a0.Epoch 0 4294967295))
 (cond ((gA a0.Seq 0 281474976710655))
 (cond ((a0.Tag.length:Int)==16)
 (let r17:Bool:=gG a0.Kind (a0.Body.length:Int)
 k16 r17)
 (k16 false))
 (k16 false))
 (k16 false))
 (k16 false))
 (k14 (false,(⟨a0.Kind,0,[],[],0,[],[],0,0,[],[]⟩:Ab))))))
def Ej(a0:Ad):=
 aA (λy1=>
 cond (y1)
 (some false)
 (aA (λ(y5:Bool)=>
 some y5) λk6=>
 ob (IC a0.C) λr7=>
 cond (r7)
 (cond (a0.C.Role==0)
 (ob (PB a0.C.Sn a0.Fin.Sn) λr8=>
 cond (r8)
 (cond (a0.C.Cur.N==0)
 (cond (!a0.C.HasOld)
 (k6 ((a0.C.Next.length:Int)==0))
 (k6 false))
 (k6 false))
 (k6 false))
 (k6 false))
 (k6 false))) λk2=>
 cond (!(IB a0.Cn))
 (k2 true)
 (cond (a0.Fin.Kind !=3)
 (k2 true)
 (ob (kT a0.Fin) λr3=>
 cond (!r3)
 (k2 true)
 (cond (a0.Fin.Id !=a0.Id)
 (k2 true)
 (ob (PB a0.Fin.Cn a0.Cn) λr4=>
 k2 (!r4)))))
def Ek(a0:Ad):=
 aA (λy1=>
 cond (y1)
 (some false)
 (ob (EJ a0.Fin (⟨0,0,[],[],0,[],[],0,0,[],[]⟩:Ab)) λr3=>
 let x4:Bool:=cond (a0.T.On==false) (cond (a0.T.Due==0) (cond (a0.T.Wait==0) (cond (a0.T.Tries==0) (true) false) false) false) false
 cond (a0.St==0)
 (aA (λ(y5:Bool)=>
 some y5) λk6=>
 cond ((a0.Cn.length:Int)==0)
 (cond (r3)
 (ob (UJ a0.C) λr7=>
 cond (r7)
 (cond (x4)
 (let x8:Bool:=cond (a0.R.On==false) (cond (a0.R.Due==0) (cond (a0.R.Wait==0) (cond (a0.R.Tries==0) (true) false) false) false) false
 cond (x8)
 (k6 (a0.Last==0))
 (k6 false))
 (k6 false))
 (k6 false))
 (k6 false))
 (k6 false))
 (cond (a0.St==1)
 (aA (λ(y9:Bool)=>
 some y9) λk10=>
 cond ((IB a0.Cn))
 (cond (r3)
 (ob (UJ a0.C) λr11=>
 cond (r11)
 (cond (a0.T.On)
 (cond ((ID a0.T))
 (let x12:Bool:=cond (a0.R.On==false) (cond (a0.R.Due==0) (cond (a0.R.Wait==0) (cond (a0.R.Tries==0) (true) false) false) false) false
 cond (x12)
 (k10 (a0.Last==0))
 (k10 false))
 (k10 false))
 (k10 false))
 (k10 false))
 (k10 false))
 (k10 false))
 (cond (a0.St==2)
 (aA (λ(y13:Bool)=>
 some y13) λk14=>
 ob (YS a0) λr15=>
 cond (r15)
 (cond (a0.T.On)
 (cond ((ID a0.T))
 (let x16:Bool:=cond (a0.R.On==false) (cond (a0.R.Due==0) (cond (a0.R.Wait==0) (cond (a0.R.Tries==0) (true) false) false) false) false
 cond (x16)
 (k14 (a0.Last==0))
 (k14 false))
 (k14 false))
 (k14 false))
 (k14 false))
 (cond (a0.St==3)
 (aA (λ(y17:Bool)=>
 some y17) λk18=>
 cond ((IB a0.Cn))
 (cond (r3)
 (ob (IC a0.C) λr19=>
 cond (r19)
 (cond (a0.C.Role==0)
 (cond (x4)
 (cond ((ID a0.R))
 (cond (a0.R.On==(decide ((a0.C.Next.length:Int)>0)))
 (k18 (gA a0.Last 0 1000000))
 (k18 false))
 (k18 false))
 (k18 false))
 (k18 false))
 (k18 false))
 (k18 false))
 (k18 false))
 (some false)))))) λk2=>
 cond (!(gA a0.Id 1 9))
 (k2 true)
 (cond (!(mC a0.Psk))
 (k2 true)
 (k2 (!(bB a0.At))))
def Ll(a0:Ar):=
 aA (λ(y1:Bool)=>
 some y1) λk2=>
 let r3:Bool:=gA (a0.Seed.length:Int) 1 32
 cond (r3)
 (k2 (gA a0.N 0 10000))
 (k2 false)
def Lm(a0:Az):=
 some ((a0.Secret.length:Int)==32)
def Ln(a0:Am):=
 aA (λ(y1:Int)=>
 some y1) λk2=>
 uA FU (λ(x3:Int×Int) k4=>
 cond (decide (x3.2<(a0.L.length:Int)))
 (ob (lA a0.L x3.2) λe5=>
 aA (λ(y6:Int)=>
 k4 (y6,(iA .i64 x3.2 1))) λk7=>
 cond (!e5.Dead)
 (k7 (iA .i64 x3.1 1))
 (k7 x3.1))
 (k2 x3.1)) (0,0)
def Em(a0:Ak):=
 aA (λ(y1:Bool)=>
 some y1) λk2=>
 cond (a0.Role==0)
 (cond ((a0.Sn.length:Int)==0)
 (cond ((sF a0.Cur))
 (cond ((sF a0.Old))
 (cond (!a0.HasOld)
 (cond (a0.Until==0)
 (k2 ((a0.Next.length:Int)==0))
 (k2 false))
 (k2 false))
 (k2 false))
 (k2 false))
 (k2 false))
 (k2 false)
def En(a0:Aj):=
 aA (λy1=>
 cond (y1)
 (some false)
 (aA (λ(y3:Unit)=>
 some true) λk4=>
 uA FU (λ(x5:Int) k6=>
 cond (decide (x5<(a0.Cands.length:Int)))
 (ob (lA a0.Cands x5) λe7=>
 aA (λy8=>
 cond (y8)
 (some false)
 (aA (λ(y11:Unit)=>
 k6 (iA .i64 x5 1)) λk12=>
 uA FU (λ(x13:Int) k14=>
 cond (decide (x13<x5))
 (ob (lA a0.Cands x13) λe15=>
 let x16:Bool:=cond (e15.A.Host==e7.A.Host) (cond (e15.A.Port==e7.A.Port) (true) false) false
 cond (x16)
 (some false)
 (k14 (iA .i64 x13 1)))
 (k12 ())) 0)) λk9=>
 cond (!(bB e7.A))
 (k9 true)
 (cond ((e7.Draw.length:Int) !=12)
 (k9 true)
 (cond (!(gA e7.Until 0 1000006))
 (k9 true)
 (let x10:Bool:=cond (e7.A.Host==a0.At.Host) (cond (e7.A.Port==a0.At.Port) (true) false) false
 k9 x10))))
 (k4 ())) 0)) λk2=>
 cond (!(bB a0.At))
 (k2 true)
 (k2 (decide ((a0.Cands.length:Int)>3)))
def Eo(a0:Al):=
 aA (λy1=>
 cond (y1)
 (some false)
 (cond (a0.Dead)
 (aA (λ(y3:Bool)=>
 some y3) λk4=>
 cond ((RE a0.C))
 (let r5:Ae:=uB (-1)
 let x6:Bool:=cond (a0.P.At.Host==r5.Host) (cond (a0.P.At.Port==r5.Port) (true) false) false
 cond (x6)
 (cond ((a0.P.Cands.length:Int)==0)
 (k4 (a0.Last==0))
 (k4 false))
 (k4 false))
 (k4 false))
 (aA (λ(y7:Bool)=>
 some y7) λk8=>
 ob (IC a0.C) λr9=>
 cond (r9)
 (cond (a0.C.Role==1)
 (ob (PB a0.C.Sn a0.Sn) λr10=>
 cond (r10)
 (k8 (jD a0.P))
 (k8 false))
 (k8 false))
 (k8 false)))) λk2=>
 cond (!(gA a0.Id 1 9))
 (k2 true)
 (cond ((a0.Cn.length:Int) !=12)
 (k2 true)
 (cond ((a0.Sn.length:Int) !=12)
 (k2 true)
 (cond (!(gA a0.Tick 0 1000000))
 (k2 true)
 (k2 (!(gA a0.Last 0 1000000))))))
def Lo(a0:Am)(a1:List UInt8):=
 aA (λ(y1:Unit)=>
 some (-1)) λk2=>
 uA FU (λ(x3:Int) k4=>
 cond (decide (x3<(a0.L.length:Int)))
 (ob (lA a0.L x3) λe5=>
 ob (PB e5.Sn a1) λr6=>
 cond (r6)
 (some x3)
 (k4 (iA .i64 x3 1)))
 (k2 ())) 0
def Eq(a0:Am):=
 aA (λy1=>
 cond (y1)
 (some false)
 (aA (λ(y4:Unit)=>
 some true) λk5=>
 uA FU (λ(x6:Int) k7=>
 cond (decide (x6<(a0.L.length:Int)))
 (aA (λy8=>
 cond (y8)
 (some false)
 (k7 (iA .i64 x6 1))) λk9=>
 ob (lA a0.L x6) λe10=>
 ob (qE e10) λr11=>
 cond (!r11)
 (k9 true)
 (ob (lA a0.L x6) λe12=>
 ob (xC a0 e12.Sn) λr13=>
 k9 (r13 !=x6)))
 (k5 ())) 0)) λk2=>
 cond (!(gA a0.Cap 1 6))
 (k2 true)
 (cond (decide ((a0.L.length:Int)>12))
 (k2 true)
 (ob (qF a0) λr3=>
 k2 (decide (r3>a0.Cap))))
def Er(a0:List Ag):=
 cond (decide ((a0.length:Int)>8))
 (some false)
 (aA (λ(y1:Unit)=>
 some true) λk2=>
 uA FU (λ(x3:Int) k4=>
 cond (decide (x3<(a0.length:Int)))
 (aA (λy5=>
 cond (y5)
 (some false)
 (aA (λ(y12:Unit)=>
 k4 (iA .i64 x3 1)) λk13=>
 uA FU (λ(x14:Int) k15=>
 cond (decide (x14<x3))
 (ob (lA a0 x14) λe16=>
 ob (lA a0 x3) λe17=>
 let x18:Bool:=cond (e16.A.Host==e17.A.Host) (cond (e16.A.Port==e17.A.Port) (true) false) false
 cond (x18)
 (some false)
 (k15 (iA .i64 x14 1)))
 (k13 ())) 0)) λk6=>
 ob (lA a0 x3) λe7=>
 cond (!(bB e7.A))
 (k6 true)
 (ob (lA a0 x3) λe8=>
 cond (!(gA e8.Got 0 1000000))
 (k6 true)
 (ob (lA a0 x3) λe9=>
 ob (lA a0 x3) λe10=>
 let r11:Bool:=gA e9.Sent 0 (BB .i64 3 e10.Got)
 k6 (!r11))))
 (k2 ())) 0)
def Lp(a0:List UInt8):=
 some (gA (a0.length:Int) 1 32)
def Lq(a0:Ac):=
 aA (λy1=>
 cond (y1)
 (some false)
 (aA (λ(y4:Unit)=>
 aA (λ(y9:Unit)=>
 some true) λk10=>
 uA FU (λ(x11:Int) k12=>
 cond (decide (x11<(a0.T.L.length:Int)))
 (ob (lA a0.T.L x11) λe13=>
 cond (decide (e13.Id>(a0.Psks.length:Int)))
 (some false)
 (k12 (iA .i64 x11 1)))
 (k10 ())) 0) λk5=>
 uA FU (λ(x6:Int) k7=>
 cond (decide (x6<(a0.Psks.length:Int)))
 (ob (lA a0.Psks x6) λe8=>
 cond (!(mC e8))
 (some false)
 (k7 (iA .i64 x6 1)))
 (k5 ())) 0)) λk2=>
 cond (!(gA (a0.Psks.length:Int) 1 9))
 (k2 true)
 (cond (!(UE a0.J))
 (k2 true)
 (cond (!(zC a0.D))
 (k2 true)
 (ob (oH a0.T) λr3=>
 cond (!r3)
 (k2 true)
 (k2 (!(iD a0.Cr))))))
def Lr(a0:Aq):=
 aA (λ(y1:Bool)=>
 some y1) λk2=>
 cond ((bB a0.From))
 (cond ((bB a0.To))
 (k2 (decide ((a0.B.length:Int)≤200)))
 (k2 false))
 (k2 false)
def Ls(a0:List Aq):=
 aA (λ(y1:Unit)=>
 some (decide ((a0.length:Int)≤90))) λk2=>
 uA FU (λ(x3:Int) k4=>
 cond (decide (x3<(a0.length:Int)))
 (ob (lA a0 x3) λe5=>
 cond (!(nH e5))
 (some false)
 (k4 (iA .i64 x3 1)))
 (k2 ())) 0
def Es(a0:As):=
 cond (!a0.On)
 (let x1:Bool:=cond (a0.On==false) (cond (a0.Due==0) (cond (a0.Wait==0) (cond (a0.Tries==0) (true) false) false) false) false
 some x1)
 (aA (λ(y2:Bool)=>
 some y2) λk3=>
 cond ((gA a0.Due 0 1000008))
 (cond (a0.Wait==1)
 (k3 (gA a0.Tries 1 5))
 (cond (a0.Wait==2)
 (k3 (gA a0.Tries 1 5))
 (cond (a0.Wait==4)
 (k3 (gA a0.Tries 1 5))
 (cond (a0.Wait==8)
 (k3 (gA a0.Tries 1 5))
 (k3 false)))))
 (k3 false))
def Et(a0:Ab):=
 aA (λ(y1:Bool)=>
 some y1) λk2=>
 cond (a0.Kind==0)
 (cond (a0.Id==0)
 (cond ((a0.Cn.length:Int)==0)
 (cond ((a0.Sn.length:Int)==0)
 (cond (a0.Tick==0)
 (cond ((a0.Cookie.length:Int)==0)
 (cond ((a0.Proof.length:Int)==0)
 (cond (a0.Epoch==0)
 (cond (a0.Seq==0)
 (cond ((a0.Body.length:Int)==0)
 (k2 ((a0.Tag.length:Int)==0))
 (k2 false))
 (k2 false))
 (k2 false))
 (k2 false))
 (k2 false))
 (k2 false))
 (k2 false))
 (k2 false))
 (k2 false))
 (k2 false)
def Lt(a0:Int):=
 some (gA a0 4 8)
def Kc(a0:Int)(a1:Int):=
 cond (a0==4)
 (some (decide (a1≤40)))
 (aA (λy1=>
 cond (y1)
 (some (a1==12))
 (some (a1==4))) λk2=>
 cond (a0==5)
 (k2 true)
 (k2 (a0==6)))
def Eu(a0:Ab):=
 cond ((NC a0.Kind))
 (aA (λ(y1:Bool)=>
 some y1) λk2=>
 cond (a0.Id==0)
 (cond ((a0.Cn.length:Int)==0)
 (cond ((a0.Sn.length:Int)==12)
 (cond (a0.Tick==0)
 (cond ((a0.Cookie.length:Int)==0)
 (cond ((a0.Proof.length:Int)==0)
 (cond ((gA a0.Epoch 0 4294967295))
 (cond ((gA a0.Seq 0 281474976710655))
 (let r3:Bool:=gG a0.Kind (a0.Body.length:Int)
 cond (r3)
 (k2 ((a0.Tag.length:Int)==16))
 (k2 false))
 (k2 false))
 (k2 false))
 (k2 false))
 (k2 false))
 (k2 false))
 (k2 false))
 (k2 false))
 (k2 false))
 (aA (λy4=>
 cond (y4)
 (some false)
 (cond (a0.Kind==1)
 (aA (λ(y6:Bool)=>
 some y6) λk7=>
 cond ((gA a0.Id 1 9))
 (cond ((a0.Sn.length:Int)==0)
 (cond (a0.Tick==0)
 (cond ((a0.Cookie.length:Int)==0)
 (k7 ((a0.Proof.length:Int)==0))
 (k7 false))
 (k7 false))
 (k7 false))
 (k7 false))
 (cond (a0.Kind==2)
 (aA (λ(y8:Bool)=>
 some y8) λk9=>
 cond (a0.Id==0)
 (cond ((a0.Sn.length:Int)==12)
 (cond ((gA a0.Tick 0 1000000))
 (cond ((a0.Cookie.length:Int)==16)
 (k9 ((a0.Proof.length:Int)==0))
 (k9 false))
 (k9 false))
 (k9 false))
 (k9 false))
 (cond (a0.Kind==3)
 (aA (λ(y10:Bool)=>
 some y10) λk11=>
 cond ((gA a0.Id 1 9))
 (cond ((a0.Sn.length:Int)==12)
 (cond ((gA a0.Tick 0 1000000))
 (cond ((a0.Cookie.length:Int)==16)
 (k11 ((a0.Proof.length:Int)==16))
 (k11 false))
 (k11 false))
 (k11 false))
 (k11 false))
 (some false))))) λk5=>
 cond (a0.Epoch !=0)
 (k5 true)
 (cond (a0.Seq !=0)
 (k5 true)
 (cond ((a0.Body.length:Int) !=0)
 (k5 true)
 (cond ((a0.Tag.length:Int) !=0)
 (k5 true)
 (k5 ((a0.Cn.length:Int) !=12))))))
def Ev(a0:Ad):=
 aA (λy1=>
 cond (y1)
 (some false)
 (cond (a0.St==0)
 (aA (λ(y3:Bool)=>
 some y3) λk4=>
 cond ((a0.Cn.length:Int)==0)
 (cond ((OE a0.Fin))
 (cond ((RE a0.C))
 (cond (!a0.T.On)
 (cond (!a0.R.On)
 (k4 (a0.Last==0))
 (k4 false))
 (k4 false))
 (k4 false))
 (k4 false))
 (k4 false))
 (cond ((a0.Cn.length:Int) !=12)
 (some false)
 (cond (a0.St==3)
 (aA (λ(y5:Bool)=>
 some y5) λk6=>
 cond ((OE a0.Fin))
 (ob (IC a0.C) λr7=>
 cond (r7)
 (cond (a0.C.Role==0)
 (cond (!a0.T.On)
 (k6 (a0.R.On==(decide ((a0.C.Next.length:Int)>0))))
 (k6 false))
 (k6 false))
 (k6 false))
 (k6 false))
 (aA (λy8=>
 cond (y8)
 (some false)
 (cond (a0.St==1)
 (aA (λ(y10:Bool)=>
 some y10) λk11=>
 cond ((OE a0.Fin))
 (k11 (RE a0.C))
 (k11 false))
 (aA (λ(y12:Bool)=>
 some y12) λk13=>
 cond (a0.St==2)
 (cond ((HD a0.Fin))
 (cond (a0.Fin.Kind==3)
 (cond (a0.Fin.Id==a0.Id)
 (ob (PB a0.Fin.Cn a0.Cn) λr14=>
 cond (r14)
 (ob (IC a0.C) λr15=>
 cond (r15)
 (cond (a0.C.Role==0)
 (ob (PB a0.C.Sn a0.Fin.Sn) λr16=>
 cond (r16)
 (cond (a0.C.Cur.N==0)
 (cond (!a0.C.HasOld)
 (k13 ((a0.C.Next.length:Int)==0))
 (k13 false))
 (k13 false))
 (k13 false))
 (k13 false))
 (k13 false))
 (k13 false))
 (k13 false))
 (k13 false))
 (k13 false))
 (k13 false)))) λk9=>
 cond (!a0.T.On)
 (k9 true)
 (cond (a0.R.On)
 (k9 true)
 (k9 (a0.Last !=0)))))))) λk2=>
 cond (!(gA a0.Id 1 9))
 (k2 true)
 (cond (!(mC a0.Psk))
 (k2 true)
 (cond (!(bB a0.At))
 (k2 true)
 (cond (!(ID a0.T))
 (k2 true)
 (cond (!(ID a0.R))
 (k2 true)
 (k2 (!(gA a0.Last 0 1000000)))))))
def Ew(a0:Aa):=
 aA (λy1=>
 cond (y1)
 (some false)
 (aA (λ(y4:Unit)=>
 aA (λ(y16:Unit)=>
 aA (λ(y21:Unit)=>
 some true) λk22=>
 uA FU (λ(x23:Int) k24=>
 cond (decide (x23<(a0.Notes.length:Int)))
 (ob (lA a0.Notes x23) λe25=>
 cond (!(aE e25))
 (some false)
 (k24 (iA .i64 x23 1)))
 (k22 ())) 0) λk17=>
 uA FU (λ(x18:Int) k19=>
 cond (decide (x18<(a0.Known.length:Int)))
 (ob (lA a0.Known x18) λe20=>
 cond ((e20.length:Int) !=32)
 (some false)
 (k19 (iA .i64 x18 1)))
 (k17 ())) 0) λk5=>
 uA FU (λ(x6:Int) k7=>
 cond (decide (x6<2))
 (aA (λy8=>
 cond (y8)
 (some false)
 (k7 (iA .i64 x6 1))) λk9=>
 ob (lA a0.Clients x6) λe10=>
 ob (wE e10) λr11=>
 cond (!r11)
 (k9 true)
 (ob (lA a0.Clients x6) λe12=>
 cond (e12.Id !=(iA .i64 x6 1))
 (k9 true)
 (ob (lA a0.Clients x6) λe13=>
 ob (lA a0.S.Psks x6) λe14=>
 ob (PB e13.Psk e14) λr15=>
 k9 (!r15))))
 (k5 ())) 0)) λk2=>
 cond (!(gA a0.Now 0 1000000))
 (k2 true)
 (cond ((a0.Clients.length:Int) !=2)
 (k2 true)
 (ob (lD a0.S) λr3=>
 cond (!r3)
 (k2 true)
 (cond ((a0.S.Psks.length:Int) !=2)
 (k2 true)
 (cond (!(zC a0.D))
 (k2 true)
 (cond (!(AG a0.Seen))
 (k2 true)
 (k2 (decide ((a0.Known.length:Int)>12))))))))
def Lu(a0:Aq):=
 aA (λ(y1:Bool)=>
 some y1) λk2=>
 cond ((bB a0.From))
 (cond ((bB a0.To))
 (k2 (decide ((a0.B.length:Int)≤200)))
 (k2 false))
 (k2 false)
def Ey(a0:List Aq):=
 aA (λ(y1:Unit)=>
 some (decide ((a0.length:Int)≤90))) λk2=>
 uA FU (λ(x3:Int) k4=>
 cond (decide (x3<(a0.length:Int)))
 (ob (lA a0 x3) λe5=>
 cond (!(nH e5))
 (some false)
 (k4 (iA .i64 x3 1)))
 (k2 ())) 0
def Ez(a0:Aa):=
 aA (λy1=>
 cond (y1)
 (some false)
 (aA (λy4=>
 cond (y4)
 (some false)
 (aA (λ(y6:Unit)=>
 aA (λ(y16:Unit)=>
 aA (λ(y21:Unit)=>
 some true) λk22=>
 uA FU (λ(x23:Int) k24=>
 cond (decide (x23<(a0.Notes.length:Int)))
 (ob (lA a0.Notes x23) λe25=>
 cond (!(aE e25))
 (some false)
 (k24 (iA .i64 x23 1)))
 (k22 ())) 0) λk17=>
 uA FU (λ(x18:Int) k19=>
 cond (decide (x18<(a0.Known.length:Int)))
 (ob (lA a0.Known x18) λe20=>
 cond ((e20.length:Int) !=32)
 (some false)
 (k19 (iA .i64 x18 1)))
 (k17 ())) 0) λk7=>
 uA FU (λ(x8:Int) k9=>
 cond (decide (x8<(a0.Clients.length:Int)))
 (ob (lA a0.Clients x8) λe10=>
 aA (λy11=>
 cond (y11)
 (some false)
 (k9 (iA .i64 x8 1))) λk12=>
 ob (wE e10) λr13=>
 cond (!r13)
 (k12 true)
 (cond (e10.Id !=(iA .i64 x8 1))
 (k12 true)
 (ob (lA a0.S.Psks x8) λe14=>
 ob (PB e10.Psk e14) λr15=>
 k12 (!r15))))
 (k7 ())) 0)) λk5=>
 cond (!(zC a0.D))
 (k5 true)
 (cond (!(AG a0.Seen))
 (k5 true)
 (k5 (decide ((a0.Known.length:Int)>12)))))) λk2=>
 cond (!(gA a0.Now 0 1000000))
 (k2 true)
 (cond ((a0.Clients.length:Int) !=2)
 (k2 true)
 (ob (lD a0.S) λr3=>
 cond (!r3)
 (k2 true)
 (k2 ((a0.S.Psks.length:Int) !=2))))
def Fa(a0:Aa)(a1:Int):=
 ob (lA a0.Clients (oA .i64 a1 1)) λe1=>
 ob (xC a0.S.T e1.C.Sn) λr2=>
 aA (λy3=>
 cond (y3)
 (some (e1,(⟨0,[],[],(⟨0,[],(⟨0,[],0,(⟨0,[]⟩:Ao)⟩:Av),(⟨0,[],0,(⟨0,[]⟩:Ao)⟩:Av),false,0,[]⟩:Ak),(⟨(⟨0,0⟩:Ae),[]⟩:Aj),0,0,false⟩:Al),false))
 (ob (lA a0.S.T.L r2) λe6=>
 some (e1,e6,true))) λk4=>
 cond (e1.St !=3)
 (k4 true)
 (cond (decide (r2<0))
 (k4 true)
 (ob (lA a0.S.T.L r2) λe5=>
 k4 e5.Dead))
def Fb(a0:Aa)(a1:Int):=
 aA (λy1=>
 cond (y1)
 (some false)
 (ob (XG a0 a1) λr4=>
 cond (!r4.2.2)
 (some true)
 (ob (PB r4.1.Cn r4.2.1.Cn) λr5=>
 cond (!r5)
 (some false)
 (aA (λy6=>
 cond (y6)
 (aA (λ(y9:Bool)=>
 some y9) λk10=>
 cond (decide (r4.1.C.Cur.Win.Top<r4.2.1.C.Cur.Seq))
 (k10 (decide (r4.2.1.C.Cur.Win.Top<r4.1.C.Cur.Seq)))
 (k10 false))
 (aA (λ(y11:Bool)=>
 some y11) λk12=>
 cond (r4.2.1.C.Cur.N==(iA .i64 r4.1.C.Cur.N 1))
 (ob (PB r4.1.C.Next r4.2.1.C.Cur.Key) λr13=>
 cond (r13)
 (cond (r4.2.1.C.HasOld)
 (cond (r4.2.1.C.Until==(-1))
 (ob (PB r4.2.1.C.Old.Key r4.1.C.Cur.Key) λr14=>
 cond (r14)
 (cond (decide (r4.2.1.C.Old.Win.Top<r4.1.C.Cur.Seq))
 (k12 (decide (r4.1.C.Cur.Win.Top<r4.2.1.C.Old.Seq)))
 (k12 false))
 (k12 false))
 (k12 false))
 (k12 false))
 (k12 false))
 (k12 false))) λk7=>
 cond (r4.1.C.Cur.N==r4.2.1.C.Cur.N)
 (ob (PB r4.1.C.Cur.Key r4.2.1.C.Cur.Key) λr8=>
 k7 r8)
 (k7 false))))) λk2=>
 ob (mE a0) λr3=>
 cond (!r3)
 (k2 true)
 (k2 (!(gA a1 1 2)))
def Fc(a0:Aa)(a1:Int):=
 aA (λy1=>
 cond (y1)
 (some false)
 (ob (lA a0.Clients (oA .i64 a1 1)) λe4=>
 ob (xC a0.S.T e4.C.Sn) λr5=>
 aA (λy6=>
 cond (y6)
 (some true)
 (ob (lA a0.S.T.L r5) λe9=>
 ob (PB e9.Cn e4.Cn) λr10=>
 cond (!r10)
 (some false)
 (cond (e9.C.Cur.N==e4.C.Cur.N)
 (aA (λ(y11:Bool)=>
 some y11) λk12=>
 ob (PB e9.C.Cur.Key e4.C.Cur.Key) λr13=>
 cond (r13)
 (cond (decide (e9.C.Cur.Win.Top<e4.C.Cur.Seq))
 (k12 (decide (e4.C.Cur.Win.Top<e9.C.Cur.Seq)))
 (k12 false))
 (k12 false))
 (aA (λ(y14:Bool)=>
 some y14) λk15=>
 cond (e9.C.Cur.N==(iA .i64 e4.C.Cur.N 1))
 (ob (PB e4.C.Next e9.C.Cur.Key) λr16=>
 cond (r16)
 (cond (e9.C.HasOld)
 (cond (e9.C.Until==(-1))
 (ob (PB e9.C.Old.Key e4.C.Cur.Key) λr17=>
 cond (r17)
 (cond (decide (e9.C.Old.Win.Top<e4.C.Cur.Seq))
 (k15 (decide (e4.C.Cur.Win.Top<e9.C.Old.Seq)))
 (k15 false))
 (k15 false))
 (k15 false))
 (k15 false))
 (k15 false))
 (k15 false))))) λk7=>
 cond (e4.St !=3)
 (k7 true)
 (cond (decide (r5<0))
 (k7 true)
 (ob (lA a0.S.T.L r5) λe8=>
 k7 e8.Dead)))) λk2=>
 ob (mE a0) λr3=>
 cond (!r3)
 (k2 true)
 (k2 (!(gA a1 1 2)))
def Fd(a0:Aa)(a1:Int):=
 aA (λy1=>
 cond (y1)
 (some false)
 (ob (lA a0.Clients (oA .i64 a1 1)) λe4=>
 ob (xC a0.S.T e4.C.Sn) λr5=>
 aA (λy6=>
 cond (y6)
 (some false)
 (ob (lA a0.S.T.L r5) λe9=>
 aA (λy10=>
 cond (y10)
 (some false)
 (aA (λ(y14:Bool)=>
 some y14) λk15=>
 cond (decide (e4.C.Cur.Seq≤281474976709556))
 (cond (decide (e9.C.Cur.Seq≤281474976709556))
 (cond (!e9.C.HasOld)
 (k15 (decide (e4.C.Cur.N≤4294967293)))
 (cond (decide (e9.C.Old.Seq≤281474976709556))
 (k15 (decide (e4.C.Cur.N≤4294967293)))
 (k15 false)))
 (k15 false))
 (k15 false))) λk11=>
 let r12:Bool:=gA (oA .i64 a0.Now e4.Last) 0 40
 cond (!r12)
 (k11 true)
 (let r13:Bool:=gA (oA .i64 a0.Now e9.Last) 0 40
 cond (!r13)
 (k11 true)
 (cond (e4.R.On)
 (k11 (decide (e4.R.Due>(iA .i64 a0.Now 8))))
 (k11 false))))) λk7=>
 cond (e4.St !=3)
 (k7 true)
 (cond (decide (r5<0))
 (k7 true)
 (ob (lA a0.S.T.L r5) λe8=>
 k7 e8.Dead)))) λk2=>
 ob (YG a0 a1) λr3=>
 cond (!r3)
 (k2 true)
 (k2 (decide (a0.Now>999900)))
def Fe(a0:Aa)(a1:Int):=
 aA (λy1=>
 cond (y1)
 (some false)
 (ob (XG a0 a1) λr4=>
 aA (λy5=>
 cond (y5)
 (some false)
 (aA (λ(y9:Int)=>
 aA (λy12=>
 cond (y12)
 (some false)
 (aA (λ(y14:Bool)=>
 some y14) λk15=>
 cond (!r4.1.R.On)
 (k15 true)
 (k15 (decide (r4.1.R.Due≤(iA .i64 a0.Now 8)))))) λk13=>
 cond (decide (y9>281474976709556))
 (k13 true)
 (k13 (decide (r4.1.C.Cur.N>4294967293)))) λk10=>
 cond (r4.2.1.C.HasOld)
 (let x11:Int:=GN (GN r4.1.C.Cur.Seq r4.2.1.C.Cur.Seq) r4.2.1.C.Old.Seq
 k10 x11)
 (k10 (GN r4.1.C.Cur.Seq r4.2.1.C.Cur.Seq)))) λk6=>
 cond (!r4.2.2)
 (k6 true)
 (let r7:Bool:=gA (oA .i64 a0.Now r4.1.Last) 0 40
 cond (!r7)
 (k6 true)
 (let r8:Bool:=gA (oA .i64 a0.Now r4.2.1.Last) 0 40
 k6 (!r8))))) λk2=>
 ob (YG a0 a1) λr3=>
 cond (!r3)
 (k2 true)
 (k2 (decide (a0.Now>999900)))
def Ff(a0:Aa)(a1:Int):=
 ob (YD a0 a1) λr1=>
 cond (!r1)
 (some false)
 (ob (lA a0.Clients (oA .i64 a1 1)) λe2=>
 ob (xC a0.S.T e2.C.Sn) λr3=>
 ob (lA a0.S.T.L r3) λe4=>
 aA (λ(y5:Bool)=>
 some y5) λk6=>
 let x7:Bool:=cond (e4.P.At.Host==e2.At.Host) (cond (e4.P.At.Port==e2.At.Port) (true) false) false
 cond (x7)
 (ob (nE a0 e2.At) λr8=>
 k6 (r8==a1))
 (k6 false))
def Fg(a0:Aa)(a1:Int):=
 ob (YD a0 a1) λr1=>
 cond (!r1)
 (some false)
 (ob (XG a0 a1) λr2=>
 aA (λ(y3:Bool)=>
 some y3) λk4=>
 let x5:Bool:=cond (r2.2.1.P.At.Host==r2.1.At.Host) (cond (r2.2.1.P.At.Port==r2.1.At.Port) (true) false) false
 cond (x5)
 (ob (nE a0 r2.1.At) λr6=>
 k4 (r6==a1))
 (k4 false))
end
end Go.D
namespace Go.D
end Go.D
namespace Go.D
open Option renaming bind→ob
def WR.ok{x}(_:rA [.v .Addr] x):Kz x=some (bB x):=zdq x
def vR.ok{x}(_:rA [.v .Addr] x):Ky x=some (bB x):=zdq x
def zep(i:Int):(cond (!(gA i 0 255)) (some (⟨0,0⟩:Ae)) (some (⟨iA .i64 167772160 i,iA .i64 7000 i⟩:Ae)))=some (uB i):=by
 cases h:gA i 0 255
 ·rw[zmp]at h;simp[uB,h]
 ·rw[HC]at h;simp only[Bool.not_true,cond_false,uB,h,and_self,if_true,iA];rw[yB (by omega) (by omega),yB (by omega) (by omega)]
def PS.ok{x}(_:rA [.v .int] x):La x=some (uB x):=zep _
def eT.ok{x}(_:rA [.v .int] x):Lc x=some (uB x):=zep _
def vT.ok{x}(_:rA [] x):Lb=some jE:=rfl
def FT.ok{x}(_:rA [] x):Ld=some jE:=rfl
def gF(a b:Ae):(cond (a.Host==b.Host) (cond (a.Port==b.Port) (true) false) false)=wB a b:=by
 simp only[wB,Bool.cond_false_right,Bool.and_true]
def zjp(w:Aa)(a:Ae)(h:wt w≤bA){f:Ad→Option Int}(hf:∀c,f c=some c.Id):cond (wB a jE) (some 0) (uA FU (λ(x5:Int) k6=>cond (decide (x5<(w.Clients.length:Int))) (ob (lA w.Clients x5) λe7=>cond (wB e7.At a) (f e7) (k6 (iA .i64 x5 1))) (some (-1))) 0)=some (JF w a):=by
 rw[lN]at h;rw[zdM w.Clients (oE (by omega)) (λc=>wB c.At a) (λc=>some c.Id) (some (-1)) (λi k hi=>?_) (λk=>by simp only[BC,cond_false])]
 ·rw[JF];cases wB a jE
  ·cases w.Clients.find? _<;>rfl
  ·rfl
 ·simp only[pC hi,cond_true,dB hi,TA,hf]
def zha(w:Aa)(a:Ae)(h:wt w≤bA):Dz w a=some (JF w a):=by
 simp only[Dz,aA,gF];exact zjp w a h (λ_=>rfl)
def tL.ok{x}(_:rA [.v .World, .v .Addr] x){r}:nE x.1 x.2=some r→Dz x.1 x.2=some r:=KA λh=>zha x.1 x.2 h
def zhj(w:Aa)(a:Ae)(h:wt w≤bA):Dy w a=some (JF w a):=by
 rw[lN]at h;simp only[Dy,aA,gF];rw[zdM w.Clients (oE (by omega)) (λc=>wB c.At a) (λc=>some c.Id) (some (-1)) (λi k hi=>?_) (λk=>by simp only[BC,cond_false])]
 ·rw[JF];cases wB a jE
  ·cases w.Clients.find? _<;>rfl
  ·rfl
 ·simp only[pC hi,cond_true,dB hi,TA]
def JL.ok{x}(_:rA [.v .World, .v .Addr] x){r}:nE x.1 x.2=some r→Dy x.1 x.2=some r:=KA λh=>zhj x.1 x.2 h
def DO.ok{x}(_:rA [.v .int, .v .int] x):Jz x.1 x.2=some (kK x.1 x.2):=by
 simp only[Jz,aA,TB,Bool.cond_true_left];rfl
def lO.ok{x}(_:rA [.sl .byte, .v .int] x):Ka x.1 x.2=some (kF x.1 x.2):=by
 simp only[Ka,aA,TB,Bool.cond_true_left];rfl
def nM.ok{x}(_:rA [.v .Note] x):Dx x=some (aE x):=by
 show Dx (x:Af)=some (aE (x:Af))
 generalize (show Af from x)=n;simp only[Dx,aA,TB,Bool.cond_false_right,aE]
 grind
def jM.ok{x}(_:rA [.v .Note] x):Dw x=some (aE x):=by
 show Dw (x:Af)=some (aE (x:Af))
 generalize (show Af from x)=n;simp only[Dw,aA,TB,Bool.cond_false_right,aE,kF]
 grind
def jS.ok{x}(_:rA [.v .Jar] x):Lf x=some (UE x):=rfl
def kS.ok{x}(_:rA [.v .Jar] x):Lm x=some (UE x):=rfl
def zdi(d:Ar):(aA (λ(y1:Bool)=>some y1) λk2=>cond (gA (d.Seed.length:Int) 1 32) (k2 (gA d.N 0 10000)) (k2 false))=some (zC d):=by
 simp only[aA,TB,Bool.cond_false_right,zC]
def zR.ok{x}(_:rA [.v .Dice] x):Le x=some (zC x):=zdi x
def ER.ok{x}(_:rA [.v .Dice] x):Ll x=some (zC x):=zdi x
def zeH(t:Am)(h:wt t≤bA):(aA (λ(y1:Int)=>some y1) λk2=>uA FU (λ(x3:Int×Int) k4=>cond (decide (x3.2<(t.L.length:Int))) (ob (lA t.L x3.2) λe5=>
  aA (λ(y6:Int)=>k4 (y6,(iA .i64 x3.2 1))) λk7=>cond (!e5.Dead) (k7 (iA .i64 x3.1 1)) (k7 x3.1)) (k2 x3.1)) (0,0))=some (pG t):=by
 rw[rH]at h;simp only[aA];rw[zkG t.L (oE h) (λs e=>bif e.Dead then s else iA .i64 s 1) (λs=>some s) (λi s k hi=>?_) (λs k=>by simp only[BC,cond_false])]
 ·rfl
 ·simp only[pC hi,cond_true,dB hi,TA];cases t.L[i].Dead<;>rfl
def CS.ok{x}(_:rA [.v .Tab] x){r}:qF x=some r→Lg x=some r:=KA λh=>zeH x h
def HS.ok{x}(_:rA [.v .Tab] x){r}:qF x=some r→Ln x=some r:=KA λh=>zeH x h
def KK.ok{x}(_:rA [.v .Chan] x):Em x=some (RE x):=by
 show Em (x:Ak)=some (RE (x:Ak))
 generalize (show Ak from x)=c;simp only[Em,aA,TB,Bool.cond_false_right,RE]
 grind
def zgw(c:Ak)(h:wt c≤bA):Ea c=some (RE c):=by
 rw[gH]at h
 simp only[Ea,aA,YJ,FA (p:=wt c.Old≤bA∧wt (⟨0,[],0,(⟨0,[]⟩:Ao)⟩:Av)≤bA) ⟨by omega,zbB⟩,
  FA (p:=wt c.Cur≤bA∧wt (⟨0,[],0,(⟨0,[]⟩:Ao)⟩:Av)≤bA) ⟨by omega,zbB⟩,zec,TB,Bool.cond_false_right,RE]
 grind
def FK.ok{x}(_:rA [.v .Chan] x){r}:UJ x=some r→Ea x=some r:=KA λh=>zgw x h
def SE(a b:Int):decide (a>b)= !decide (a≤b):=by
 by_cases h:a≤b
 ·rw[decide_eq_true h,decide_eq_false (by omega)];rfl
 ·rw[decide_eq_false h,decide_eq_true (by omega)];rfl
def yL.ok{x}(_:rA [.v .Paths] x):En x=some (jD x):=by
 show En (x:Aj)=some (jD (x:Aj))
 generalize (show Aj from x)=p;simp only[En,aA,gF,jD,SE (p.Cands.length:Int) 3];cases bB p.At
 ·rfl
 cases hd:decide ((p.Cands.length:Int)≤3)
 ·rfl
 have hd:=of_decide_eq_true hd;have hl:p.Cands.length≤maxLen:=by rw[oC];omega
 simp only[Bool.not_true,cond_false];rw[aG p.Cands.length hl (rN p) (some false) (some true) (λi k hi=>?_) (λk=>by simp only[BC,cond_false])]
 ·cases XA _ _<;>rfl
 ·simp only[pC hi,cond_true,dB hi,TA];rw[aG i (by omega) (λj=>(p.Cands[j]?).any λd=>wB d.A p.Cands[i].A) (some false) (k (iA .i64 (i:Int) 1)) (λj k' hj=>?_) (λk'=>by simp only[BC,cond_false])]
  ·simp only[rN,VB hi,IB];cases bB p.Cands[i].A<;>cases hn:((p.Cands[i].Draw.length:Int)==12)<;>cases gA p.Cands[i].Until 0 1000006<;>cases wB p.Cands[i].A p.At<;>cases XA i _<;>simp[bne,hn]
  ·simp only[pC hj,cond_true,dB (Nat.lt_trans hj hi),TA,VB (Nat.lt_trans hj hi)]
def nL.ok{x}(_:rA [.v .Paths] x):Eb x=some (jD x):=by
 show Eb (x:Aj)=some (jD (x:Aj))
 generalize (show Aj from x)=p;simp only[Eb,aA,gF,jD,SE (p.Cands.length:Int) 3];cases bB p.At
 ·rfl
 cases hd:decide ((p.Cands.length:Int)≤3)
 ·rfl
 have hd:=of_decide_eq_true hd;have hl:p.Cands.length≤maxLen:=by rw[oC];omega
 simp only[Bool.not_true,cond_false];rw[aG p.Cands.length hl (rN p) (some false) (some true) (λi k hi=>?_) (λk=>by simp only[BC,cond_false])]
 ·cases XA _ _<;>rfl
 ·have LV:(p.Cands.take i).length=i:=by rw[List.length_take];omega
  simp only[pC hi,cond_true,dB hi,TA,znr (Nat.le_of_lt hi),znt];rw[aG i (by omega) (λj=>(p.Cands[j]?).any λd=>wB d.A p.Cands[i].A) (some false) (k (iA .i64 (i:Int) 1)) (λj k' hj=>?_) (λk'=>by rw[LV];simp only[BC,cond_false])]
  ·simp only[rN,VB hi];cases bB p.Cands[i].A<;>cases IB p.Cands[i].Draw<;>cases gA p.Cands[i].Until 0 1000006<;>cases wB p.Cands[i].A p.At<;>cases XA i _<;>rfl
  ·have sW:j<(p.Cands.take i).length:=by omega
   simp only[pC sW,cond_true,dB sW,TA,VB (Nat.lt_trans hj hi),List.getElem_take]
def zhm(s:Al)(h:wt s≤bA):Eo s=some (MF s):=by
 rw[XH]at h;have hc:=gH s.C;have hn:uB (-1)=⟨0,0⟩:=rfl;have h0:s.Last=0→gA s.Last 0 1000000=true:=λh=>by rw[h];rfl
 simp only[Eo,aA,gF];simp only[hn,IC,FA (p:=wt s.C≤bA) (by omega),CD (a:=s.C.Sn) (b:=s.Sn) (by omega) (by omega),MF,IB];cases s.Dead<;>simp only[TB,Bool.cond_false_right,cond_true,cond_false]<;>grind
def VL.ok{x}(_:rA [.v .Sess] x){r}:qE x=some r→Eo x=some r:=KA λh=>zhm x h
def zhI(s:Al)(h:wt s≤bA):Ec s=some (MF s):=by
 rw[XH]at h;have hc:=gH s.C;have hn:(cond (s.P.At.Host==0) (cond (s.P.At.Port==0) (true) false) false)=wB s.P.At ⟨0,0⟩:=gF s.P.At ⟨0,0⟩;simp only[Ec,aA,hn,IC,UJ,FA (p:=wt s.C≤bA) (by omega),CD (a:=s.C.Sn) (b:=s.Sn) (by omega) (by omega),MF];cases s.Dead<;>simp only[TB,Bool.cond_false_right,cond_true,cond_false]<;>grind
def kM.ok{x}(_:rA [.v .Sess] x){r}:qE x=some r→Ec x=some r:=KA λh=>zhI x h
def zdt(t:Am)(b:List UInt8)(h:wt t≤bA∧wt b≤bA):(aA (λ(y1:Unit)=>some (-1)) λk2=>uA FU (λ(x3:Int) k4=>cond (decide (x3<(t.L.length:Int))) (ob (lA t.L x3) λe5=>
  ob (PB e5.Sn b) λr6=>cond (r6) (some x3) (k4 (iA .i64 x3 1))) (k2 ())) 0)=some (AE t b):=by
 rw[rH]at h;simp only[aA];rw[zaC t.L.length (oE h.1) (gJ t b) (λi k hi=>?_) (λk=>by simp only[BC,cond_false])]
 ·rfl
 ·have:=LF hi;have hs:=XH t.L[i];simp only[pC hi,cond_true,dB hi,TA,gJ,VB hi,CD (a:=t.L[i].Sn) (b:=b) (by omega) h.2]
def KR.ok{x}(_:rA [.v .Tab, .sl .byte] x){r}:xC x.1 x.2=some r→Lh x.1 x.2=some r:=KA λh=>zdt x.1 x.2 h
def LR.ok{x}(_:rA [.v .Tab, .sl .byte] x){r}:xC x.1 x.2=some r→Lo x.1 x.2=some r:=KA λh=>zdt x.1 x.2 h
def zds{t:Am}{i:Nat}(hi:i<t.L.length):gJ t t.L[i].Sn i=true:=by simp[gJ,hi]
def zbo{t:Am}(h:wt t≤bA){i:Nat}(hi:i<t.L.length):wt t.L[i]≤bA∧wt t.L[i].Sn≤bA:=by
 rw[rH]at h;have:=LF hi;have hs:=XH t.L[i];omega
def zhP(t:Am)(h:wt t≤bA):Eq t=some (pF t):=by
 have hl:=oE (rH t▸h);simp only[Eq,aA,pF,qF,FA h,SE (t.L.length:Int) 12,SE (pG t) t.Cap]
 have key:uA FU (λ(x5:Int) k6=>cond (decide (x5<(t.L.length:Int))) (ob (lA t.L x5) λe9=>ob (qE e9) λr10=>cond (!r10) (cond true (some false) (k6 (iA .i64 x5 1))) (ob (lA t.L x5) λe11=>
   ob (xC t e11.Sn) λr12=>cond (r12 !=x5) (some false) (k6 (iA .i64 x5 1)))) (some true)) 0=some (!(XA t.L.length (aI t))):=by
  rw[aG t.L.length hl (aI t) (some false) (some true) (λi k hi=>?_) (λk=>by simp only[BC,cond_false])]
  ·cases XA _ _<;>rfl
  ·have hw:=zbo h hi;simp only[pC hi,cond_true,dB hi,TA,qE,FA hw.1,xC,FA (p:=wt t≤bA∧wt t.L[i].Sn≤bA) ⟨h,hw.2⟩,AE,(zaX hi (zds hi)).2,aI,VB hi];cases MF t.L[i]<;>cases XA i _<;>rfl
 rw[key];cases gA t.Cap 1 6<;>cases decide ((t.L.length:Int)≤12)<;>cases decide (pG t≤t.Cap)<;>rfl
def sM.ok{x}(_:rA [.v .Tab] x){r}:oH x=some r→Eq x=some r:=KA λh=>zhP x h
def zhL(t:Am)(h:wt t≤bA):Ed t=some (pF t):=by
 have hl:=oE (rH t▸h);simp only[Ed,aA,pF,qF,FA h,SE (t.L.length:Int) 12,SE (pG t) t.Cap]
 have key:uA FU (λ(x5:Int) k6=>cond (decide (x5<(t.L.length:Int))) (ob (lA t.L x5) λe9=>ob (qE e9) λr10=>cond (!r10) (cond true (some false) (k6 (iA .i64 x5 1)))
   (ob (xC t e9.Sn) λr12=>cond (decide (r12<x5)) (some false) (k6 (iA .i64 x5 1)))) (some true)) 0=some (!(XA t.L.length (aI t))):=by
  rw[aG t.L.length hl (aI t) (some false) (some true) (λi k hi=>?_) (λk=>by simp only[BC,cond_false])]
  ·cases XA _ _<;>rfl
  ·have hw:=zbo h hi;simp only[pC hi,cond_true,dB hi,TA,qE,FA hw.1,xC,FA (p:=wt t≤bA∧wt t.L[i].Sn≤bA) ⟨h,hw.2⟩,AE,(zaX hi (zds hi)).1,aI,VB hi];cases MF t.L[i]<;>cases XA i _<;>rfl
 rw[key];cases gA t.Cap 1 6<;>cases decide ((t.L.length:Int)≤12)<;>cases decide (pG t≤t.Cap)<;>rfl
def qM.ok{x}(_:rA [.v .Tab] x){r}:oH x=some r→Ed x=some r:=KA λh=>zhL x h
end Go.D
namespace Go.D
def ze5(l:List Ag)(a:Ae)(hl:l.length≤maxLen):(aA (λ(y1:Unit)=>some (-1)) λk2=>uA FU (λ(x3:Int) k4=>cond (decide (x3<(l.length:Int))) (Option.bind (lA l x3) λe5=>
  cond (cond (e5.A.Host==a.Host) (cond (e5.A.Port==a.Port) (true) false) false) (some x3) (k4 (iA .i64 x3 1))) (k2 ())) 0)=some (gB l a):=by
 simp only[aA,gF];rw[zaC l.length hl (oG l a) (λi k hi=>?_) (λk=>by simp only[BC,cond_false])]
 ·rfl
 ·simp only[pC hi,cond_true,dB hi,TA,oG,VB hi]
def PQ.ok{x}(hb:rA [.sl .Credit, .v .Addr] x):Li x.1 x.2=some (gB x.1 x.2):=ze5 x.1 x.2 hb.1.1
def zjM(a:Ae):wB a a=true:=by simp[wB]
def zj9{l:List Ag}{i:Nat}(hi:i<l.length):oG l l[i].A i=true:=by simp[oG,hi,zjM]
def znf{l:List Ag}{i:Nat}(hi:i<l.length):decide (gB l l[i].A<(i:Int))=XA i (oG l l[i].A):=(zaX (p:=oG l l[i].A) hi (zj9 hi)).1
def NK.ok{x}(hb:rA [.sl .Credit] x):Ee x=some (iD x):=by
 show Ee (x:List Ag)=some (iD (x:List Ag))
 have hl:(show List Ag from x).length≤maxLen:=hb.1;generalize (show List Ag from x)=l at hl⊢;simp only[Ee,aA,iD,SE (l.length:Int) 8];rw[aG l.length hl (UO l) (some false) (some true) (λi k hi=>?_) (λk=>by simp only[BC,cond_false])]
 ·cases decide ((l.length:Int)≤8)<;>cases XA _ _<;>rfl
 ·simp only[pC hi,cond_true,dB hi,TA,znf hi,UO,VB hi];cases bB l[i].A<;>cases gA l[i].Got 0 1000000<;>cases gA l[i].Sent 0 _<;>cases XA i _<;>rfl
def MK.ok{x}(hb:rA [.sl .Credit] x):Er x=some (iD x):=by
 show Er (x:List Ag)=some (iD (x:List Ag))
 have hl:(show List Ag from x).length≤maxLen:=hb.1;generalize (show List Ag from x)=l at hl⊢;simp only[Er,aA,iD,SE (l.length:Int) 8,gF];rw[aG l.length hl (UO l) (some false) (some true) (λi k hi=>?_) (λk=>by simp only[BC,cond_false])]
 ·cases decide ((l.length:Int)≤8)<;>cases XA _ _<;>rfl
 ·simp only[pC hi,cond_true,dB hi,TA];rw[aG i (by omega) (oG l l[i].A) (some false) (k (iA .i64 (i:Int) 1)) (λj k' hj=>?_) (λk'=>by simp only[BC,cond_false])]
  ·simp only[UO,VB hi];cases bB l[i].A<;>cases gA l[i].Got 0 1000000<;>cases gA l[i].Sent 0 _<;>cases XA i _<;>rfl
  ·simp only[pC hj,cond_true,dB (Nat.lt_trans hj hi),dB hi,TA,oG,VB (Nat.lt_trans hj hi)]
def pS.ok{x}(_:rA [.sl .byte] x):Lj x=some (mC x):=rfl
def rS.ok{x}(_:rA [.sl .byte] x):Lp x=some (mC x):=rfl
def zcO(s:Ac)(h:wt s≤bA):Ef s=some (bD s):=by
 rw[BM]at h;have hT:=rH s.T;simp only[Ef,aA,oH,FA (p:=wt s.T≤bA) (by omega),bD];rw[MM s.Psks (oE (by omega)) (λb=>!mC b) (some false) _ (λi k hi=>?_) (λk=>by simp only[BC,cond_false];rfl)]
 ·rw[MM s.T.L (oE (by omega)) (λe=>decide (e.Id>(s.Psks.length:Int))) (some false) (some true) (λi k hi=>?_) (λk=>by simp only[BC,cond_false])]
  ·cases gA (s.Psks.length:Int) 1 9<;>cases UE s.J<;>cases zC s.D<;>cases pF s.T<;>cases iD s.Cr<;>cases s.Psks.any _<;>cases s.T.L.any _<;>rfl
  ·simp only[pC hi,cond_true,dB hi,TA]
 ·simp only[pC hi,cond_true,dB hi,TA]
def bL.ok{x}(_:rA [.v .Server] x){r}:lD x=some r→Ef x=some r:=KA λh=>zcO x h
def MQ.ok{x}(_:rA [.v .Server] x){r}:lD x=some r→Lq x=some r:=KA λh=>zcO x h
def zdx(w:Aq):(aA (λ(y1:Bool)=>some y1) λk2=>cond ((bB w.From)) (cond ((bB w.To)) (k2 (decide ((w.B.length:Int)≤200))) (k2 false)) (k2 false))=some (nH w):=by
 simp only[aA,TB,Bool.cond_false_right,nH,Bool.and_assoc]
def JR.ok{x}(_:rA [.v .Wire] x):Lu x=some (nH x):=zdx x
def FR.ok{x}(_:rA [.v .Wire] x):Lr x=some (nH x):=zdx x
def zdd(l:List Aq)(hl:l.length≤maxLen):Ey l=some (AG l):=by
 simp only[Ey,aA,AG];rw[MM l hl (λw=>!nH w) (some false) _ (λi k hi=>?_) (λk=>by simp only[BC,cond_false];rfl)]
 ·cases l.any _<;>rfl
 ·simp only[pC hi,cond_true,dB hi,TA]
def AL.ok{x}(hb:rA [.sl .Wire] x):Ey x=some (AG x):=zdd x hb.1
def WQ.ok{x}(hb:rA [.sl .Wire] x):Ls x=some (AG x):=zdd x hb.1
def zgB(f g:Ab)(h:wt f≤bA∧wt g≤bA):Eg f g=some (cH f g):=by
 simp only[xG]at h;simp(disch:=omega) only[Eg,aA,CD];simp only[TB,Bool.cond_false_right,cH,Bool.and_assoc]
def HK.ok{x}(_:rA [.v .Frame, .v .Frame] x){r}:EJ x.1 x.2=some r→Eg x.1 x.2=some r:=KA λh=>zgB x.1 x.2 h
def zap(t:As):(cond (t.On==false) (cond (t.Due==0) (cond (t.Wait==0) (cond (t.Tries==0) (true) false) false) false) false)=CG t:=by
 simp only[Bool.cond_false_right,CG,Bool.and_true,Bool.and_assoc]
def BL.ok{x}(_:rA [.v .Timer] x):Eh x=some (ID x):=by
 show Eh (x:As)=some (ID (x:As))
 generalize (show As from x)=t;simp only[Eh,zap,aA,ID];cases t.On
 ·rfl
 ·simp only[Bool.not_true,cond_false,cond_true,TB];cases gA t.Due 0 1000008<;>cases gA t.Tries 1 5<;>grind
def iL.ok{x}(_:rA [.v .Timer] x):Es x=some (ID x):=by
 show Es (x:As)=some (ID (x:As))
 generalize (show As from x)=t;simp only[Es,zap,aA,ID];cases t.On
 ·rfl
 ·simp only[Bool.not_true,cond_false,cond_true,TB];cases gA t.Due 0 1000008<;>cases gA t.Tries 1 5<;>grind
def DK.ok{x}(_:rA [.v .Frame] x):Et x=some (OE x):=by
 show Et (x:Ab)=some (OE (x:Ab))
 generalize (show Ab from x)=f;simp only[Et,aA,TB,Bool.cond_false_right,OE,Bool.and_assoc]
def RR.ok{x}(_:rA [.v .int] x):Lk x=some (NC x):=rfl
def UR.ok{x}(_:rA [.v .int] x):Lt x=some (NC x):=rfl
def xO.ok{x}(_:rA [.v .int, .v .int] x):Kb x.1 x.2=some (gG x.1 x.2):=by
 simp only[Kb,aA,TB,gG];cases h5:x.1==(5:Int)<;>cases h4:x.1==(4:Int)<;>simp
def wO.ok{x}(_:rA [.v .int, .v .int] x):Kc x.1 x.2=some (gG x.1 x.2):=by
 simp only[Kc,aA,TB,gG];cases h5:x.1==(5:Int)<;>cases h4:x.1==(4:Int)<;>simp
def zG(a b:Int):(a !=b)= !(a==b):=rfl
def HL.ok{x}(_:rA [.v .Frame] x):Eu x=some (HD x):=by
 show Eu (x:Ab)=some (HD (x:Ab))
 generalize (show Ab from x)=f;simp only[Eu,aA,TB,Bool.cond_false_right,Bool.cond_false_left,Bool.cond_true_left,Bool.cond_true_right,HD,zG];cases NC f.Kind
 ·simp only[cond_false];cases f.Epoch==0<;>cases f.Seq==0<;>cases(f.Body.length:Int)==0<;>cases(f.Tag.length:Int)==0<;>cases(f.Cn.length:Int)==12<;>simp[Bool.and_assoc]
 ·simp only[cond_true,Bool.and_assoc]
def zai{k:Int}(h:NC k=true):(k==1)=false∧(k==2)=false∧(k==3)=false:=by
 rw[NC,HC]at h;exact⟨beq_false_of_ne (by omega),beq_false_of_ne (by omega),beq_false_of_ne (by omega)⟩
def XO(l:List UInt8):(l==[])=((l.length:Int)==0):=by rw[zgm];cases l<;>rfl
def zg9(f:Ab)(h:wt f≤bA):Ei f=some (HD f):=by
 have hs:∀g:Ab,wt g≤wt f→EJ f g=some (cH f g):=λg hg=>fH ⟨h,by omega⟩;have hw:=xG f;simp only[Ei,aA,TB,HD,IB];cases h1:f.Kind==1
 ·cases h2:f.Kind==2
  ·cases h3:f.Kind==3
   ·cases h4:NC f.Kind
    ·simp
    ·simp only[cond_true,cond_false];rw[hs _ (by simp only[xG,fG];omega)];simp only[cH,beq_self_eq_true,XO,TB,Bool.cond_false_right];cases gA f.Epoch 0 4294967295<;>cases gA f.Seq 0 281474976710655<;>grind
   ·have h4 : NC f.Kind = false := by cases h4 : NC f.Kind; · rfl
                                      rw[(zai h4).2.2]at h3;cases h3
    simp only[cond_true,cond_false,h4];rw[hs _ (by simp only[xG,fG];omega)];simp only[cH,beq_self_eq_true,XO,TB,Bool.cond_false_right];cases gA f.Id 1 9<;>cases gA f.Tick 0 1000000<;>grind
  ·have h4 : NC f.Kind = false := by cases h4 : NC f.Kind; · rfl
                                     rw[(zai h4).2.1]at h2;cases h2
   simp only[cond_true,cond_false,h4];rw[hs _ (by simp only[xG,fG];omega)];simp only[cH,beq_self_eq_true,XO,TB,Bool.cond_false_right];cases gA f.Tick 0 1000000<;>grind
 ·have h4 : NC f.Kind = false := by cases h4 : NC f.Kind; · rfl
                                    rw[(zai h4).1]at h1;cases h1
  simp only[cond_true,cond_false,h4];rw[hs _ (by simp only[xG,fG];omega)];simp only[cH,beq_self_eq_true,XO,TB,Bool.cond_false_right];cases gA f.Id 1 9<;>grind
def jL.ok{x}(_:rA [.v .Frame] x){r}:kT x=some r→Ei x=some r:=KA λh=>zg9 x h
end Go.D
namespace Go.D
open Option renaming bind→ob
def NH(c:Ad)(h:wt c≤bA):wt c.Psk≤bA∧wt c.Cn≤bA∧wt c.Fin≤bA∧wt c.C≤bA∧wt c.Fin.Cn≤bA∧wt c.Fin.Sn≤bA∧wt c.C.Sn≤bA∧wt c.C.Next≤bA∧wt c.C.Cur.Key≤bA:=by
 rw[II]at h;have h1:=xG c.Fin;have h2:=gH c.C;have h3:=kI c.C.Cur;omega
def zgW(c:Ad)(h:wt c≤bA):Ej c=some (kN c):=by
 have hw:=NH c h;simp only[Ej,aA,kT,IC,FA (p:=wt c.Fin≤bA) hw.2.2.1,FA (p:=wt c.C≤bA) hw.2.2.2.1,CD hw.2.2.2.2.1 hw.2.1,CD hw.2.2.2.2.2.2.1 hw.2.2.2.2.2.1];simp only[TB,Bool.cond_false_right,Bool.cond_false_left,Bool.cond_true_left,Bool.not_true,Bool.false_and,kN,zG,Bool.not_or,Bool.not_not,Bool.and_assoc]
def gL.ok{x}(_:rA [.v .Client] x){r}:YS x=some r→Ej x=some r:=KA λh=>zgW x h
def zjc(f:Ab):cH f (⟨0,0,[],[],0,[],[],0,0,[],[]⟩:Ab)=OE f:=by
 simp only[cH,OE,XO]
 grind
def znC{c:Ad}(h:wt c.Fin≤bA):EJ c.Fin (⟨0,0,[],[],0,[],[],0,0,[],[]⟩:Ab)=some (OE c.Fin):=by
 rw[EJ,fH ⟨h,Nat.zero_le _⟩,zjc]
def zgQ(c:Ad)(h:wt c≤bA):Ek c=some (iF c):=by
 have hw:=NH c h;simp only[Ek,aA,zap,znC hw.2.2.1,TA,IC,UJ,YS,FA (p:=wt c.C≤bA) hw.2.2.2.1,FA h];simp only[TB,Bool.cond_false_right,Bool.cond_false_left,Bool.cond_true_left,Bool.not_true,Bool.false_and,iF,Bool.not_or,Bool.not_not,Bool.and_assoc]
def dL.ok{x}(_:rA [.v .Client] x){r}:wE x=some r→Ek x=some r:=KA λh=>zgQ x h
def zdQ{t:As}(h:t.On=false):ID t=CG t:=by rw[ID,h];rfl
def zeB{t:As}(h:t.On=true):CG t=false:=by rw[CG,h];rfl
def zgI(c:Ad)(h:wt c≤bA):Ev c=some (iF c):=by
 have hw:=NH c h;have hL:c.Last=0→gA c.Last 0 1000000=true:=λh=>by rw[h];rfl
 have hT0:=zdQ (t:=c.T);have hT1:=zeB (t:=c.T);have hR0:=zdQ (t:=c.R);have hR1:=zeB (t:=c.R)
 simp only[Ev,aA,IC,FA (p:=wt c.C≤bA) hw.2.2.2.1,CD hw.2.2.2.2.1 hw.2.1,CD hw.2.2.2.2.2.2.1 hw.2.2.2.2.2.1,
  TB,Bool.cond_false_right,Bool.cond_false_left,Bool.cond_true_left,iF,kN,zG,Bool.not_or,Bool.not_not,IB]
 refine congrArg some ?_;cases gA c.Id 1 9
 ·rfl
 cases mC c.Psk
 ·rfl
 cases bB c.At
 ·rfl
 simp only[Bool.true_and]
 by_cases s0:c.St=0
 ·simp only[s0,beq_self_eq_true,cond_true];cases hT:c.T.On<;>cases hR:c.R.On<;>simp_all<;>grind
 ·have e0:(c.St==0)=false:=beq_false_of_ne s0
  by_cases s3:c.St=3
  ·simp only[s3];cases hT:c.T.On<;>simp_all<;>grind
  ·have e3:(c.St==3)=false:=beq_false_of_ne s3;simp only[e0,e3,cond_false];cases hT:c.T.On
   ·simp
   ·cases hR:c.R.On
    ·by_cases s1:c.St=1
     ·simp_all;grind
     ·have e1:(c.St==1)=false:=beq_false_of_ne s1;simp only[e1,cond_false]
      by_cases s2:c.St=2
      ·simp_all;grind
      ·have e2:(c.St==2)=false:=beq_false_of_ne s2;simp[e2]
    ·simp_all
def eL.ok{x}(_:rA [.v .Client] x){r}:wE x=some r→Ev x=some r:=KA λh=>zgI x h
def jF(w:Aa)(h:wt w≤bA):wt w.Clients≤bA∧wt w.S≤bA∧wt w.S.Psks≤bA∧wt w.S.T≤bA∧wt w.S.T.L≤bA∧wt w.Seen≤bA∧wt w.Known≤bA∧wt w.Notes≤bA:=by
 rw[lN]at h;have h1:=BM w.S;have h2:=rH w.S.T;omega
def zdA(l:List (List UInt8))(hl:l.length≤maxLen)(z:Option Bool):uA FU (λ(x16:Int) k17=>cond (decide (x16<(l.length:Int))) (ob (lA l x16) λe18=>cond ((e18.length:Int) !=32) (some false) (k17 (iA .i64 x16 1))) z) 0
  =bif l.any λb=>(b.length:Int) !=32 then some false else z:=by
 rw[MM l hl (λb=>(b.length:Int) !=32) (some false) z (λi k hi=>?_) (λk=>by simp only[BC,cond_false])];simp only[pC hi,cond_true,dB hi,TA]
def zdh(l:List Af)(hl:l.length≤maxLen)(z:Option Bool):uA FU (λ(x16:Int) k17=>cond (decide (x16<(l.length:Int))) (ob (lA l x16) λe18=>cond (!(aE e18)) (some false) (k17 (iA .i64 x16 1))) z) 0
  =bif l.any λn=>!aE n then some false else z:=by
 rw[MM l hl (λn=>!aE n) (some false) z (λi k hi=>?_) (λk=>by simp only[BC,cond_false])];simp only[pC hi,cond_true,dB hi,TA]
def BI{w:Aa}(h:wt w≤bA){i:Nat}(hi:i<w.Clients.length):wt w.Clients[i]≤bA:=by
 have:=LF hi;have:=(jF w h).1;omega
def zcI(w:Aa)(h:wt w≤bA)(hc:w.Clients.length=2)(hp:w.S.Psks.length=2)(z:Option Bool){f:Int→(Int→Option Bool)→Option Bool}
  (hf:∀ (i:Nat) k (h:i<w.Clients.length) (h':i<w.S.Psks.length),wt w.Clients[i]≤bA→wt w.Clients[i].Psk≤bA→wt w.S.Psks[i]≤bA→IntKind.wrap .i64 ((i:Int)+1)=((i+1:Nat):Int)→
   f (i:Int) k=bif !iF w.Clients[i]||w.Clients[i].Id !=((i+1:Nat):Int)||!(w.Clients[i].Psk==w.S.Psks[i])then some false else k (IntKind.wrap .i64 ((i:Int)+1)))
  (hz:∀k,f (2:Int) k=z):uA FU f 0=bif XA 2 (EI w)then some false else z:=by
 rw[aG 2 (by decide) (EI w) (some false) z (λi k hi=>?_) hz];have h1:=BI h (i:=i) (by omega);have h2:=(NH _ h1).1;have h3:=LF (l:=w.S.Psks) (i:=i) (by omega);have h4:=(jF w h).2.2.1;rw[hf i k (by omega) (by omega) h1 h2 (by omega) (FF i (by rw[oC];omega)),EI,VB (by omega),VB (by omega)]
def zhb(w:Aa)(h:wt w≤bA):Ez w=some (mD w):=by
 have hw:=jF w h;simp only[Ez,aA,lD,FA (p:=wt w.S≤bA) hw.2.1,mD]
 by_cases hc:w.Clients.length=2
 ·by_cases hp:w.S.Psks.length=2
  ·have c1:((w.Clients.length:Int) !=2)=false:=by simp[hc]
   have c2:((w.Clients.length:Int)==2)=true:=by simp[hc]
   have p1:((w.S.Psks.length:Int) !=2)=false:=by simp[hp]
   have p2:((w.S.Psks.length:Int)==2)=true:=by simp[hp]
   rw[c1,c2,p1,p2,zdh w.Notes (oE hw.2.2.2.2.2.2.2),zdA w.Known (oE hw.2.2.2.2.2.2.1),zcI w h hc hp _ (λi k hi dW w1 w2 w3 he=>?_) (λk=>by rw[hc];exact cond_false _ _)]
   ·rw[SE];cases gA w.Now 0 1000000
    ·rfl
    cases bD w.S
    ·rfl
    cases zC w.D
    ·rfl
    cases AG w.Seen
    ·rfl
    cases decide ((w.Known.length:Int)≤12)
    ·rfl
    cases XA 2 (EI w)
    ·cases w.Known.any _
     ·cases w.Notes.any _<;>rfl
     ·rfl
    ·rfl
   ·simp only[pC hi,cond_true,dB hi,dB dW,TA,wE,FA w1,CD w2 w3];simp only[iA,he];cases iF w.Clients[i]<;>cases w.Clients[i].Id !=((i+1:Nat):Int)<;>cases w.Clients[i].Psk==w.S.Psks[i]<;>rfl
  ·have p1:((w.S.Psks.length:Int) !=2)=true:=by simp;omega
   have p2:((w.S.Psks.length:Int)==2)=false:=by simp;omega
   rw[p1,p2];simp
 ·have c1:((w.Clients.length:Int) !=2)=true:=by simp;omega
  have c2:((w.Clients.length:Int)==2)=false:=by simp;omega
  rw[c1,c2];simp
def qL.ok{x}(_:rA [.v .World] x){r}:mE x=some r→Ez x=some r:=KA λh=>zhb x h
def zg8(w:Aa)(h:wt w≤bA):Ew w=some (mD w):=by
 have hw:=jF w h;simp only[Ew,aA,lD,FA (p:=wt w.S≤bA) hw.2.1,mD]
 by_cases hc:w.Clients.length=2
 ·by_cases hp:w.S.Psks.length=2
  ·have c1:((w.Clients.length:Int) !=2)=false:=by simp[hc]
   have c2:((w.Clients.length:Int)==2)=true:=by simp[hc]
   have p1:((w.S.Psks.length:Int) !=2)=false:=by simp[hp]
   have p2:((w.S.Psks.length:Int)==2)=true:=by simp[hp]
   rw[c1,c2,p1,p2,zdh w.Notes (oE hw.2.2.2.2.2.2.2),zdA w.Known (oE hw.2.2.2.2.2.2.1),zcI w h hc hp _ (λi k hi dW w1 w2 w3 he=>?_) (λk=>by exact cond_false _ _)]
   ·rw[SE];cases gA w.Now 0 1000000
    ·rfl
    cases bD w.S
    ·rfl
    cases zC w.D
    ·rfl
    cases AG w.Seen
    ·rfl
    cases decide ((w.Known.length:Int)≤12)
    ·rfl
    cases XA 2 (EI w)
    ·cases w.Known.any _
     ·cases w.Notes.any _<;>rfl
     ·rfl
    ·rfl
   ·have e:decide ((i:Int)<2)=true:=decide_eq_true (by omega);simp only[e,cond_true,dB hi,dB dW,TA,wE,FA w1,CD w2 w3];simp only[iA,he];cases iF w.Clients[i]<;>cases w.Clients[i].Id !=((i+1:Nat):Int)<;>cases w.Clients[i].Psk==w.S.Psks[i]<;>rfl
  ·have p1:((w.S.Psks.length:Int) !=2)=true:=by simp;omega
   have p2:((w.S.Psks.length:Int)==2)=false:=by simp;omega
   rw[p1,p2];simp
 ·have c1:((w.Clients.length:Int) !=2)=true:=by simp;omega
  have c2:((w.Clients.length:Int)==2)=false:=by simp;omega
  rw[c1,c2];simp
def oL.ok{x}(_:rA [.v .World] x){r}:mE x=some r→Ew x=some r:=KA λh=>zg8 x h
def cP{w:Aa}(h:mD w=true):w.Clients.length=2:=by
 simp only[mD,Bool.and_eq_true,beq_iff_eq]at h;omega
def PR(w:Aa)(c:Ad):((c.St !=3)=true∧cD w c=none)∨((c.St !=3)=false∧AE w.S.T c.C.Sn= -1∧cD w c=none)∨
  ∃(m:Nat) (hm:m<w.S.T.L.length),(c.St !=3)=false∧AE w.S.T c.C.Sn=(m:Int)∧((w.S.T.L[m].Dead=true∧cD w c=none)∨(w.S.T.L[m].Dead=false∧cD w c=some w.S.T.L[m])):=by
 by_cases h3:c.St=3
 ·right;have e1:(c.St !=3)=false:=by simp[h3]
  have e2:(c.St==3)=true:=by simp[h3]
  rcases UL w.S.T.L.length (gJ w.S.T c.C.Sn)with⟨h1,h2⟩ | ⟨m,hm,_,_,h4⟩
  ·left;have h2:AE w.S.T c.C.Sn= -1:=h2;refine⟨e1,h2,?_⟩;rw[cD,e2,h2];rfl
  ·right;have h4:AE w.S.T c.C.Sn=(m:Int):=h4;refine⟨m,hm,e1,h4,?_⟩;rw[cD,e2,h4,cond_true,if_pos (by omega),Int.toNat_natCast,List.getElem?_eq_getElem hm];cases hd:w.S.T.L[m].Dead
   ·right;exact⟨rfl,by simp[hd]⟩
   ·left;exact⟨rfl,by simp[hd]⟩
 ·left;have e2:(c.St==3)=false:=beq_false_of_ne h3;exact⟨bne_iff_ne.2 h3,by rw[cD,e2];rfl⟩
def zaL{R:Type}(w:Aa)(c:Ad)(hT:wt w.S.T≤bA)(hc:wt c≤bA)(F:Al→Option R)(N:Option R):
  (ob (xC w.S.T c.C.Sn) fun r=>cond (c.St !=3) (cond true N (ob (lA w.S.T.L r) F)) (cond (decide (r<0)) (cond true N (ob (lA w.S.T.L r) F)) (ob (lA w.S.T.L r) fun e=>cond e.Dead N (ob (lA w.S.T.L r) F))))
   =match cD w c with
    | some s=>F s
    | none=>N:=by
 rw[xC,FA ⟨hT,(NH c hc).2.2.2.2.2.2.1⟩]
 rcases PR w c with⟨h1,h2⟩ | ⟨h1,h2,h3⟩ | ⟨m,hm,h1,h2,(⟨h3,h4⟩ | ⟨h3,h4⟩)⟩
 ·rw[h1,h2];rfl
 ·rw[h1,h2,h3];rfl
 ·rw[h1,h2,h4];have e:decide ((m:Int)<0)=false:=decide_eq_false (by omega);simp only[cond_false,e,dB hm,TA,h3,cond_true]
 ·rw[h1,h2,h4];have e:decide ((m:Int)<0)=false:=decide_eq_false (by omega);simp only[cond_false,e,dB hm,TA,h3]
def sT{w:Aa}{c:Ad}{s:Al}(hT:wt w.S.T≤bA)(h:cD w c=some s):wt s≤bA:=by
 rcases PR w c with⟨_,h2⟩ | ⟨_,_,h3⟩ | ⟨m,hm,_,_,(⟨_,h4⟩ | ⟨_,h4⟩)⟩
 ·rw[h2]at h;cases h
 ·rw[h3]at h;cases h
 ·rw[h4]at h;cases h
 ·rw[h4]at h;cases h;exact(zbo hT hm).1
def zeo{i:Nat}(h:i<maxLen){id:Int}(sX:id=(i:Int)+1):oA .i64 id 1=(i:Int)∧(id - 1).toNat=i:=by
 rw[oC]at h;subst sX;refine⟨?_,by omega⟩;rw[oA,yB (by omega) (by omega)];omega
def HJ{w:Aa}(hw:mD w=true){id:Int}(sX:gA id 1 2=true):∃(i:Nat) (_:i<w.Clients.length),id=(i:Int)+1∧oA .i64 id 1=(i:Int)∧(id - 1).toNat=i:=by
 have h1:=cP hw;have h2:=HC.1 sX;obtain⟨i,hi⟩:=KD (n:=id - 1) (by omega);have:=zeo (i:=i) (by rw[oC];omega) (id:=id) (by omega);exact⟨i,by omega,by omega,this.1,this.2⟩
def GK.ok{x}(hb:rA [.v .World, .v .int] x){r}:XG x.1 x.2=some r→Fa x.1 x.2=some r:=λh=>by
 obtain⟨w,id⟩:=x;have h:XG (w:Aa) (id:Int)=some r:=h;show Fa (w:Aa) (id:Int)=some r
 generalize (show Aa from w)=w,(show Int from id)=id at h⊢;unfold XG at h
 by_cases hp:wt w≤bA∧1≤id∧id≤w.Clients.length
 ·rw[FA hp]at h;have hw:=jF w hp.1;obtain⟨i,hi⟩:=KD (n:=id - 1) (by omega);have hl:=oE hw.1;have NV:i<w.Clients.length:=by omega
  obtain⟨e1,e2⟩:=zeo (i:=i) (by omega) (id:=id) (by omega);rw[e2,List.getElem?_eq_getElem NV,Option.map_some]at h;simp only[Fa,aA];rw[e1,dB NV,TA,zaL w w.Clients[i] hw.2.2.2.1 (BI hp.1 NV) (λs=>some (w.Clients[i],s,true))];rw[←h,KJ];cases cD w w.Clients[i]<;>rfl
 ·unfold pt at h;rw[if_neg hp]at h;cases h
def zl6(n:Int):(n==iA .i64 n 1)=false:=by
 apply beq_false_of_ne;intro h;simp only[iA,IntKind.wrap]at h;simp[IntKind.bits,IntKind.signed]at h;omega
def zdR{s:Al}(h:wt s≤bA):wt s.Cn≤bA∧wt s.C.Cur.Key≤bA∧wt s.C.Old.Key≤bA:=by
 rw[XH]at h;have h1:=gH s.C;have h2:=kI s.C.Cur;have h3:=kI s.C.Old;omega
def zcp(a b:List UInt8):(a==b)=(b==a):=BEq.comm
def ziL(a b:Int):(a==b)=(b==a):=BEq.comm
def zgx(w:Aa)(id:Int)(h:wt w≤bA):Fc w id=some (DF w id):=by
 have hw:=jF w h;simp only[Fc,aA,mE,FA h,DF];cases ho:mD w
 ·rfl
 cases sX:gA id 1 2
 ·rfl
 obtain⟨i,hi,_,e1,e2⟩:=HJ ho sX;have XZ:=BI h hi;have LY:=NH _ XZ;simp only[Bool.not_true,cond_false,e1,e2,dB hi,TA,VB hi,Bool.true_and];rw[zaL w w.Clients[i] hw.2.2.2.1 XZ];cases ha:cD w w.Clients[i]with
 | none=>rfl
 | some s=>
  have hs:=zdR (sT hw.2.2.2.1 ha);simp only[Option.all_some];generalize w.Clients[i]=c at *;simp only[CD hs.1 LY.2.1,CD hs.2.1 LY.2.2.2.2.2.2.2.2,CD LY.2.2.2.2.2.2.2.1 hs.2.1,CD hs.2.2 LY.2.2.2.2.2.2.2.2,TB,zbm];rw[zcp c.Cn,ziL c.C.Cur.N,zcp c.C.Cur.Key s.C.Cur.Key];cases s.Cn==c.Cn
  ·rfl
  cases hN:s.C.Cur.N==c.C.Cur.N
  ·simp only[Bool.cond_false_right,cond_false,Bool.not_true,Bool.false_and,Bool.true_and,Bool.and_assoc]
  ·have hn:s.C.Cur.N=c.C.Cur.N:=by simpa using hN
   have:=zl6 c.C.Cur.N;rw[hn,this];cases s.C.Cur.Key==c.C.Cur.Key
   ·simp
   ·simp;cases decide (s.C.Cur.Win.Top<c.C.Cur.Seq)<;>cases decide (c.C.Cur.Win.Top<s.C.Cur.Seq)<;>rfl
def OK.ok{x}(_:rA [.v .World, .v .int] x){r}:YG x.1 x.2=some r→Fc x.1 x.2=some r:=KA λh=>zgx x.1 x.2 h
def oQ{w:Aa}{id:Int}{i:Nat}(h:wt w≤bA)(hi:i<w.Clients.length)(sX:id=(i:Int)+1)(e2:(id - 1).toNat=i):XG w id=some (KJ w w.Clients[i]):=by
 rw[XG,FA ⟨h,by omega,by omega⟩,e2,List.getElem?_eq_getElem hi];rfl
def zgz(w:Aa)(id:Int)(h:wt w≤bA):Fb w id=some (DF w id):=by
 have hw:=jF w h;simp only[Fb,aA,mE,FA h,DF];cases ho:mD w
 ·rfl
 cases sX:gA id 1 2
 ·rfl
 obtain⟨i,hi,e0,e1,e2⟩:=HJ ho sX;have XZ:=BI h hi;have LY:=NH _ XZ;rw[oQ h hi e0 e2];simp only[Bool.not_true,cond_false,e2,TA,VB hi,Bool.true_and,KJ];cases ha:cD w w.Clients[i]with
 | none=>rfl
 | some s=>
  have hs:=zdR (sT hw.2.2.2.1 ha);simp only[Option.all_some];generalize w.Clients[i]=c at *;simp only[CD LY.2.1 hs.1,CD LY.2.2.2.2.2.2.2.2 hs.2.1,CD LY.2.2.2.2.2.2.2.1 hs.2.1,CD hs.2.2 LY.2.2.2.2.2.2.2.2,TB,zbm,Bool.cond_false_right,Bool.not_true,cond_false];cases c.Cn==s.Cn
  ·rfl
  cases c.C.Cur.N==s.C.Cur.N<;>cases c.C.Cur.Key==s.C.Cur.Key<;>simp[Bool.and_assoc]
def SK.ok{x}(_:rA [.v .World, .v .int] x){r}:YG x.1 x.2=some r→Fb x.1 x.2=some r:=KA λh=>zgz x.1 x.2 h
def hP{w:Aa}{id:Int}(h:DF w id=true):mD w=true∧gA id 1 2=true:=by
 simp only[DF,Bool.and_eq_true]at h;exact h.1
def zmK(a b k:Int):decide (GN a b>k)=(decide (a>k)||decide (b>k)):=by
 have h:GN a b>k↔(a>k∨b>k):=by
  unfold GN
  by_cases hb:b>a
  ·rw[if_pos hb];omega
  ·rw[if_neg hb];omega
 rw[Bool.eq_iff_iff,Bool.or_eq_true,decide_eq_true_iff,decide_eq_true_iff,decide_eq_true_iff];exact h
def bK(a b:Int):decide (a≤b)= !decide (a>b):=by rw[SE,Bool.not_not]
def zhG(w:Aa)(id:Int)(h:wt w≤bA):Fd w id=some (yD w id):=by
 have hw:=jF w h;simp only[Fd,aA,YG,FA h,yD];cases hf:DF w id
 ·rfl
 rw[bK w.Now 999900];cases decide (w.Now>999900)
 case true=>rfl
 obtain⟨ho,sX⟩:=hP hf;obtain⟨i,hi,_,e1,e2⟩:=HJ ho sX;have XZ:=BI h hi;simp only[Bool.not_true,cond_false,e1,e2,dB hi,TA,VB hi,Bool.true_and,Bool.not_false];rw[zaL w w.Clients[i] hw.2.2.2.1 XZ];cases ha:cD w w.Clients[i]with
 | none=>rfl
 | some s=>
  simp only[Option.any_some,zbP];generalize w.Clients[i]=c at *;cases gA (oA .i64 w.Now c.Last) 0 40
  ·rfl
  cases gA (oA .i64 w.Now s.Last) 0 40
  ·rfl
  cases c.R.On<;>cases decide (c.R.Due>iA .i64 w.Now 8)<;>cases decide (c.C.Cur.Seq≤281474976709556)<;>cases decide (s.C.Cur.Seq≤281474976709556)<;>cases s.C.HasOld<;>cases decide (s.C.Old.Seq≤281474976709556)<;>rfl
def QL.ok{x}(_:rA [.v .World, .v .int] x){r}:YD x.1 x.2=some r→Fd x.1 x.2=some r:=KA λh=>zhG x.1 x.2 h
def zhF(w:Aa)(id:Int)(h:wt w≤bA):Fe w id=some (yD w id):=by
 have hw:=jF w h;simp only[Fe,aA,YG,FA h,yD];cases hf:DF w id
 ·rfl
 rw[bK w.Now 999900];cases decide (w.Now>999900)
 case true=>rfl
 obtain⟨ho,sX⟩:=hP hf;obtain⟨i,hi,e0,e1,e2⟩:=HJ ho sX;have XZ:=BI h hi;rw[oQ h hi e0 e2];simp only[Bool.not_true,cond_false,e2,TA,VB hi,Bool.true_and,Bool.not_false,KJ];cases ha:cD w w.Clients[i]with
 | none=>rfl
 | some s=>
  simp only[Option.any_some,zbP];generalize w.Clients[i]=c at *;simp only[zmK];rw[bK c.C.Cur.Seq 281474976709556,bK s.C.Cur.Seq 281474976709556,bK s.C.Old.Seq 281474976709556,bK c.C.Cur.N 4294967293,bK c.R.Due];cases gA (oA .i64 w.Now c.Last) 0 40
  ·rfl
  cases gA (oA .i64 w.Now s.Last) 0 40
  ·rfl
  cases c.R.On<;>cases decide (c.R.Due>iA .i64 w.Now 8)<;>cases decide (c.C.Cur.Seq>281474976709556)<;>cases decide (s.C.Cur.Seq>281474976709556)<;>cases s.C.HasOld<;>cases decide (s.C.Old.Seq>281474976709556)<;>cases decide (c.C.Cur.N>4294967293)<;>rfl
def aM.ok{x}(_:rA [.v .World, .v .int] x){r}:YD x.1 x.2=some r→Fe x.1 x.2=some r:=KA λh=>zhF x.1 x.2 h
def mR{w:Aa}{id:Int}(h:yD w id=true):DF w id=true∧∃(i:Nat) (hi:i<w.Clients.length),id=(i:Int)+1∧oA .i64 id 1=(i:Int)∧(id - 1).toNat=i∧∃s,cD w w.Clients[i]=some s:=by
 have h':=h;simp only[yD,Bool.and_eq_true]at h';obtain⟨⟨hf,_⟩,h3⟩:=h';obtain⟨ho,sX⟩:=hP hf;obtain⟨i,hi,e0,e1,e2⟩:=HJ ho sX;refine⟨hf,i,hi,e0,e1,e2,?_⟩;rw[e2,VB hi]at h3;cases ha:cD w w.Clients[i]with
 | none=>rw[ha]at h3;cases h3
 | some s=>exact⟨s,rfl⟩
def zdp{w:Aa}{c:Ad}{s:Al}(h:cD w c=some s):∃(m:Nat) (hm:m<w.S.T.L.length),AE w.S.T c.C.Sn=(m:Int)∧w.S.T.L[m]=s:=by
 rcases PR w c with⟨_,h2⟩ | ⟨_,_,h3⟩ | ⟨m,hm,_,h5,(⟨_,h4⟩ | ⟨_,h4⟩)⟩
 ·rw[h2]at h;cases h
 ·rw[h3]at h;cases h
 ·rw[h4]at h;cases h
 ·rw[h4]at h;cases h;exact⟨m,hm,h5,rfl⟩
def zgZ(w:Aa)(id:Int)(h:wt w≤bA):Ff w id=some (jH w id):=by
 have hw:=jF w h;simp only[Ff,aA,YD,FA h,gF,jH];cases hl:yD w id
 ·rfl
 obtain⟨_,i,hi,e0,e1,e2,s,hs⟩:=mR hl;obtain⟨m,hm,f1,rfl⟩:=zdp hs;have XZ:=BI h hi;have LY:=NH _ XZ;simp only[Bool.not_true,cond_false,e1,e2,dB hi,TA,VB hi,xC,FA (p:=wt w.S.T≤bA∧wt w.Clients[i].C.Sn≤bA) ⟨hw.2.2.2.1,LY.2.2.2.2.2.2.1⟩,f1,dB hm,hs,Option.any_some,nE,FA h];cases wB _ _<;>rfl
def OL.ok{x}(_:rA [.v .World, .v .int] x){r}:UH x.1 x.2=some r→Ff x.1 x.2=some r:=KA λh=>zgZ x.1 x.2 h
def zg2(w:Aa)(id:Int)(h:wt w≤bA):Fg w id=some (jH w id):=by
 simp only[Fg,aA,YD,FA h,gF,jH];cases hl:yD w id
 ·rfl
 obtain⟨_,i,hi,e0,e1,e2,s,hs⟩:=mR hl;rw[oQ h hi e0 e2];simp only[Bool.not_true,cond_false,e2,TA,VB hi,KJ,hs,Option.any_some,nE,FA h];cases wB _ _<;>rfl
def GL.ok{x}(_:rA [.v .World, .v .int] x){r}:UH x.1 x.2=some r→Fg x.1 x.2=some r:=KA λh=>zg2 x.1 x.2 h
end Go.D
namespace Go.D
end Go.D
