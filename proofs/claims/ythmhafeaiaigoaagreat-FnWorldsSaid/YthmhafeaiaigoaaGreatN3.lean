/-
 Sizes of the program's data.
-/
import Derived.Test.YthmhafeaiaigoaaGreatN2
set_option linter.all false
namespace Go.D
instance:Wt Al:=⟨λx=>wt x.A⟩
instance:Wt Ab:=⟨λx=>wt x.Cn+wt x.Sn+wt x.Cookie+wt x.Proof+wt x.Body+wt x.Tag⟩
def HH(x:Ab):wt x=wt x.Cn+wt x.Sn+wt x.Cookie+wt x.Proof+wt x.Body+wt x.Tag:=rfl
instance:Wt Aw:=⟨λ_=>0⟩
def zc5(x:Aw):wt x=0:=rfl
instance:Wt Ad:=⟨λx=>wt x.Psk+wt x.At+wt x.Cn+wt x.Fin+wt x.C+wt x.T+wt x.R⟩
def CM(x:Ad):wt x=wt x.Psk+wt x.At+wt x.Cn+wt x.Fin+wt x.C+wt x.T+wt x.R:=rfl
instance:Wt Ba:=⟨λx=>wt x.Secret⟩
def kT(x:Ba):wt x=wt x.Secret:=rfl
instance:Wt Au:=⟨λx=>wt x.Seed⟩
def gJ(x:Au):wt x=wt x.Seed:=rfl
instance:Wt Az:=⟨λx=>wt x.A+wt x.Draw⟩
def zad(x:Az):wt x=wt x.A+wt x.Draw:=rfl
instance:Wt Aj:=⟨λx=>wt x.At+wt x.Cands⟩
def eJ(x:Aj):wt x=wt x.At+wt x.Cands:=rfl
instance:Wt Ai:=⟨λx=>wt x.Cn+wt x.Sn+wt x.C+wt x.P⟩
def pL(x:Ai):wt x=wt x.Cn+wt x.Sn+wt x.C+wt x.P:=rfl
instance:Wt Ap:=⟨λx=>wt x.L⟩
def sJ(x:Ap):wt x=wt x.L:=rfl
instance:Wt Ac:=⟨λx=>wt x.Psks+wt x.J+wt x.D+wt x.T+wt x.Cr⟩
def rM(x:Ac):wt x=wt x.Psks+wt x.J+wt x.D+wt x.T+wt x.Cr:=rfl
instance:Wt Am:=⟨λx=>wt x.From+wt x.To+wt x.B⟩
def zac(x:Am):wt x=wt x.From+wt x.To+wt x.B:=rfl
instance:Wt Aa:=⟨λx=>wt x.Clients+wt x.S+wt x.D+wt x.Seen+wt x.Known+wt x.Notes⟩
def aG(x:Aa):wt x=wt x.Clients+wt x.S+wt x.D+wt x.Seen+wt x.Known+wt x.Notes:=rfl
end Go.D
namespace Go.D
noncomputable section
def vB(i:Int):Ah:=if 0≤i∧i≤255 then⟨167772160+i,7000+i⟩else⟨0,0⟩
def MD:Ah:=vB 0
def wB(a b:Ah):Bool:=a.Host==b.Host&&a.Port==b.Port
def SD(n k:Int):Bool:=n==0||n==k
def UC(b:List UInt8)(n:Int):Bool:=SD (b.length:Int) n
def jC(n:Ae):Bool:=eA n.Kind 1 17&&eA n.Id 0 9&&eA n.Role 0 1&&UC n.Cn 12&&UC n.Sn 12&&eA n.Epoch 0 4294967295&&eA n.Seq 0 281474976710655&&decide ((n.Body.length:Int)≤100)&&UC n.Key 32&&GA n.A&&eA n.Now 0 1000000
def nK(w:Aa)(a:Ah):Int:=bif wB a MD then 0 else match w.Clients.find? λc=>wB c.At a with
 | some c=>c.Id
 | none=> -1
def KH(w:Aa)(a:Ah):Option Int:=pt (wt w≤bA) (nK w a)
def PE(j:Ba):Bool:=(j.Secret.length:Int)==32
def ZB(d:Au):Bool:=eA (d.Seed.length:Int) 1 32&&eA d.N 0 10000
def live(t:Ap):Int:=t.L.foldl (λs e=>bif e.Dead then s else iA .i64 s 1) 0
def wJ(t:Ap):Option Int:=pt (wt t≤bA) (live t)
def tC(c:Ak):Bool:=c.Role==0&&(c.Sn.length:Int)==0&&VF c.Cur&&VF c.Old&&!c.HasOld&&c.Until==0&&(c.Next.length:Int)==0
def vO(c:Ak):Option Bool:=pt (wt c≤bA) (tC c)
def yO(p:Aj)(i:Nat):Bool:=(p.Cands[i]?).any λe=>!GA e.A||!oA e.Draw||!eA e.Until 0 1000006||wB e.A p.At||IB i λj=>(p.Cands[j]?).any λd=>wB d.A e.A
def sC(p:Aj):Bool:=GA p.At&&decide ((p.Cands.length:Int)≤3)&&!(IB p.Cands.length (yO p))
def vC(s:Ai):Bool:=eA s.Id 1 9&&oA s.Cn&&oA s.Sn&&eA s.Tick 0 1000000&&bif s.Dead then tC s.C&&wB s.P.At ⟨0,0⟩&&(s.P.Cands.length:Int)==0&&s.Last==0
 else kC s.C&&s.C.Role==1&&s.C.Sn==s.Sn&&sC s.P&&eA s.Last 0 1000000
def KD(s:Ai):Option Bool:=pt (wt s≤bA) (vC s)
def xG(t:Ap)(b:List UInt8)(i:Nat):Bool:=(t.L[i]?).any λe=>e.Sn==b
def OE(t:Ap)(b:List UInt8):Int:=RH t.L.length (xG t b)
def ID(t:Ap)(b:List UInt8):Option Int:=pt (wt t≤bA∧wt b≤bA) (OE t b)
def rL(t:Ap)(i:Nat):Bool:=(t.L[i]?).any λe=>!vC e||IB i (xG t e.Sn)
def QC(t:Ap):Bool:=eA t.Cap 1 6&&decide ((t.L.length:Int)≤12)&&decide (live t≤t.Cap)&&!(IB t.L.length (rL t))
def uG(t:Ap):Option Bool:=pt (wt t≤bA) (QC t)
def UG(l:List Al)(a:Ah)(i:Nat):Bool:=(l[i]?).any λc=>wB c.A a
def oB(l:List Al)(a:Ah):Int:=RH l.length (UG l a)
def dS(l:List Al)(i:Nat):Bool:=(l[i]?).any λc=>!GA c.A||!eA c.Got 0 1000000||!eA c.Sent 0 (XB .i64 3 c.Got)||IB i (UG l c.A)
def iD(l:List Al):Bool:=decide ((l.length:Int)≤8)&&!(IB l.length (dS l))
def AC(b:List UInt8):Bool:=eA (b.length:Int) 1 32
def LB(s:Ac):Bool:=eA (s.Psks.length:Int) 1 9&&PE s.J&&ZB s.D&&QC s.T&&iD s.Cr&&!(s.Psks.any λb=>!AC b)&&!(s.T.L.any λe=>decide (e.Id>(s.Psks.length:Int)))
def HC(s:Ac):Option Bool:=pt (wt s≤bA) (LB s)
def CE(w:Am):Bool:=GA w.From&&GA w.To&&decide ((w.B.length:Int)≤200)
def PD(l:List Am):Bool:=!(l.any λw=>!CE w)&&decide ((l.length:Int)≤90)
def bK(f g:Ab):Bool:=f.Kind==g.Kind&&f.Id==g.Id&&f.Tick==g.Tick&&f.Epoch==g.Epoch&&f.Seq==g.Seq&&f.Cn==g.Cn&&f.Sn==g.Sn&&f.Cookie==g.Cookie&&f.Proof==g.Proof&&f.Body==g.Body&&f.Tag==g.Tag
def SN(f g:Ab):Option Bool:=pt (wt f≤bA∧wt g≤bA) (bK f g)
def HF(t:Aw):Bool:=t.On==false&&t.Due==0&&t.Wait==0&&t.Tries==0
def tD(t:Aw):Bool:=bif t.On then eA t.Due 0 1000008&&(t.Wait==1||t.Wait==2||t.Wait==4||t.Wait==8)&&eA t.Tries 1 5 else HF t
def IF(f:Ab):Bool:=f.Kind==0&&f.Id==0&&(f.Cn.length:Int)==0&&(f.Sn.length:Int)==0&&f.Tick==0&&(f.Cookie.length:Int)==0&&(f.Proof.length:Int)==0&&f.Epoch==0&&f.Seq==0&&(f.Body.length:Int)==0&&(f.Tag.length:Int)==0
def fC(k:Int):Bool:=eA k 4 8
def dG(k n:Int):Bool:=bif k==4 then decide (n≤40)else bif k==5||k==6 then n==12 else n==4
def AB(f:Ab):Bool:=
 bif fC f.Kind then f.Id==0&&(f.Cn.length:Int)==0&&(f.Sn.length:Int)==12&&f.Tick==0&&(f.Cookie.length:Int)==0&&(f.Proof.length:Int)==0&&eA f.Epoch 0 4294967295&&eA f.Seq 0 281474976710655&&dG f.Kind (f.Body.length:Int)&&(f.Tag.length:Int)==16
 else f.Epoch==0&&f.Seq==0&&(f.Body.length:Int)==0&&(f.Tag.length:Int)==0&&(f.Cn.length:Int)==12&&
  bif f.Kind==1 then eA f.Id 1 9&&(f.Sn.length:Int)==0&&f.Tick==0&&(f.Cookie.length:Int)==0&&(f.Proof.length:Int)==0
  else bif f.Kind==2 then f.Id==0&&(f.Sn.length:Int)==12&&eA f.Tick 0 1000000&&(f.Cookie.length:Int)==16&&(f.Proof.length:Int)==0
  else f.Kind==3&&eA f.Id 1 9&&(f.Sn.length:Int)==12&&eA f.Tick 0 1000000&&(f.Cookie.length:Int)==16&&(f.Proof.length:Int)==16
def TC(f:Ab):Option Bool:=pt (wt f≤bA) (AB f)
def fJ(c:Ad):Bool:=oA c.Cn&&c.Fin.Kind==3&&AB c.Fin&&c.Fin.Id==c.Id&&c.Fin.Cn==c.Cn&&kC c.C&&c.C.Role==0&&c.C.Sn==c.Fin.Sn&&c.C.Cur.N==0&&!c.C.HasOld&&(c.C.Next.length:Int)==0
def zcK(c:Ad):Option Bool:=pt (wt c≤bA) (fJ c)
def pB(c:Ad):Bool:=eA c.Id 1 9&&AC c.Psk&&GA c.At&&
 bif c.St==0 then(c.Cn.length:Int)==0&&IF c.Fin&&tC c.C&&HF c.T&&HF c.R&&c.Last==0
 else bif c.St==1 then oA c.Cn&&IF c.Fin&&tC c.C&&c.T.On&&tD c.T&&HF c.R&&c.Last==0
 else bif c.St==2 then fJ c&&c.T.On&&tD c.T&&HF c.R&&c.Last==0
 else c.St==3&&oA c.Cn&&IF c.Fin&&kC c.C&&c.C.Role==0&&HF c.T&&tD c.R&&c.R.On==decide ((c.C.Next.length:Int)>0)&&eA c.Last 0 1000000
def GD(c:Ad):Option Bool:=pt (wt c≤bA) (pB c)
def iI(w:Aa)(i:Nat):Bool:=(w.Clients[i]?).any λc=>(w.S.Psks[i]?).any λp=>!pB c||c.Id !=((i+1:Nat):Int)||!(c.Psk==p)
def iB(w:Aa):Bool:=eA w.Now 0 1000000&&(w.Clients.length:Int)==2&&LB w.S&&(w.S.Psks.length:Int)==2&&ZB w.D&&PD w.Seen&&decide ((w.Known.length:Int)≤12)&&
 !(IB 2 (iI w))&&!(w.Known.any λb=>(b.length:Int) !=32)&&!(w.Notes.any λn=>!jC n)
def AE(w:Aa):Option Bool:=pt (wt w≤bA) (iB w)
def znK:Ax:=⟨0,[],0,⟨0,[]⟩⟩
end
end Go.D
namespace Go.D
open Option renaming bind→ob
noncomputable section
def Po(a0:Int)(a1:Int):=
 aA (λ(y1:Bool)=>
 some y1) λk2=>
 cond (a0==0)
 (k2 true)
 (k2 (a0==a1))
def Ra(a0:Ah):=
 aA (λ(y1:Bool)=>
 some y1) λk2=>
 cond ((eA a0.Host 0 4294967295))
 (k2 (eA a0.Port 0 65535))
 (k2 false)
def Lp(a0:Ae):=
 aA (λ(y1:Bool)=>
 some y1) λk2=>
 cond ((eA a0.Kind 1 17))
 (cond ((eA a0.Id 0 9))
 (cond ((eA a0.Role 0 1))
 (cond ((SD (a0.Cn.length:Int) 12))
 (cond ((SD (a0.Sn.length:Int) 12))
 (cond ((eA a0.Epoch 0 4294967295))
 (cond ((eA a0.Seq 0 281474976710655))
 (cond (decide ((a0.Body.length:Int)≤100))
 (cond ((SD (a0.Key.length:Int) 32))
 (cond ((GA a0.A))
 (k2 (eA a0.Now 0 1000000))
 (k2 false))
 (k2 false))
 (k2 false))
 (k2 false))
 (k2 false))
 (k2 false))
 (k2 false))
 (k2 false))
 (k2 false))
 (k2 false)
def Pp(a0:List UInt8)(a1:Int):=
 aA (λ(y1:Bool)=>
 some y1) λk2=>
 cond ((a0.length:Int)==0)
 (k2 true)
 (k2 ((a0.length:Int)==a1))
def Rb(a0:Ah):=
 aA (λ(y1:Bool)=>
 some y1) λk2=>
 cond ((eA a0.Host 0 4294967295))
 (k2 (eA a0.Port 0 65535))
 (k2 false)
def Lq(a0:Ae):=
 aA (λ(y1:Bool)=>
 some y1) λk2=>
 cond ((eA a0.Kind 1 17))
 (cond ((eA a0.Id 0 9))
 (cond ((eA a0.Role 0 1))
 (cond ((eA a0.Epoch 0 4294967295))
 (cond ((eA a0.Seq 0 281474976710655))
 (cond ((eA a0.Now 0 1000000))
 (cond ((UC a0.Cn 12))
 (cond ((UC a0.Sn 12))
 (cond (decide ((a0.Body.length:Int)≤100))
 (cond ((UC a0.Key 32))
 (k2 (GA a0.A))
 (k2 false))
 (k2 false))
 (k2 false))
 (k2 false))
 (k2 false))
 (k2 false))
 (k2 false))
 (k2 false))
 (k2 false))
 (k2 false)
def Rc(a0:Int):=
 cond (!(eA a0 0 255))
 (some (⟨0,0⟩:Ah))
 (some (⟨iA .i64 167772160 a0,iA .i64 7000 a0⟩:Ah))
def Rd:=
 let r1:Ah:=vB 0
 some r1
def Lr(a0:Aa)(a1:Ah):=
 let r1:Ah:=MD;let x2:Bool:=cond (a1.Host==r1.Host) (cond (a1.Port==r1.Port) (true) false) false
 cond (x2)
 (some 0)
 (aA (λ(y3:Unit)=>
 some (-1)) λk4=>
 sA FU (λ(x5:Int) k6=>
 cond (decide (x5<(a0.Clients.length:Int)))
 (ob (kA a0.Clients x5) λe7=>
 let x8:Bool:=cond (e7.At.Host==a1.Host) (cond (e7.At.Port==a1.Port) (true) false) false
 cond (x8)
 (ob (kA a0.Clients x5) λe9=>
 some e9.Id)
 (k6 (iA .i64 x5 1)))
 (k4 ())) 0)
def Re(a0:Int):=
 cond (!(eA a0 0 255))
 (some (⟨0,0⟩:Ah))
 (some (⟨iA .i64 167772160 a0,iA .i64 7000 a0⟩:Ah))
def Rf:=
 let r1:Ah:=vB 0
 some r1
def Ls(a0:Aa)(a1:Ah):=
 let r1:Ah:=MD;let x2:Bool:=cond (a1.Host==r1.Host) (cond (a1.Port==r1.Port) (true) false) false
 cond (x2)
 (some 0)
 (aA (λ(y3:Unit)=>
 some (-1)) λk4=>
 sA FU (λ(x5:Int) k6=>
 cond (decide (x5<(a0.Clients.length:Int)))
 (ob (kA a0.Clients x5) λe7=>
 let x8:Bool:=cond (e7.At.Host==a1.Host) (cond (e7.At.Port==a1.Port) (true) false) false
 cond (x8)
 (some e7.Id)
 (k6 (iA .i64 x5 1)))
 (k4 ())) 0)
def Rg(a0:Au):=
 aA (λ(y1:Bool)=>
 some y1) λk2=>
 let r3:Bool:=eA (a0.Seed.length:Int) 1 32
 cond (r3)
 (k2 (eA a0.N 0 10000))
 (k2 false)
def Rh(a0:Ba):=
 some ((a0.Secret.length:Int)==32)
def Ri(a0:Ap):=
 aA (λ(y1:Int)=>
 some y1) λk2=>
 sA FU (λ(x3:Int×Int) k4=>
 cond (decide (x3.2<(a0.L.length:Int)))
 (ob (kA a0.L x3.2) λe5=>
 aA (λ(y6:Int)=>
 k4 (y6,(iA .i64 x3.2 1))) λk7=>
 cond (!e5.Dead)
 (k7 (iA .i64 x3.1 1))
 (k7 x3.1))
 (k2 x3.1)) (0,0)
def Lt(a0:Ak):=
 aA (λ(y1:Bool)=>
 some y1) λk2=>
 cond (a0.Role==0)
 (cond ((a0.Sn.length:Int)==0)
 (ob (zO a0.Cur (⟨0,[],0,(⟨0,[]⟩:Aq)⟩:Ax)) λr3=>
 cond (r3)
 (ob (zO a0.Old (⟨0,[],0,(⟨0,[]⟩:Aq)⟩:Ax)) λr4=>
 cond (r4)
 (cond (!a0.HasOld)
 (cond (a0.Until==0)
 (k2 ((a0.Next.length:Int)==0))
 (k2 false))
 (k2 false))
 (k2 false))
 (k2 false))
 (k2 false))
 (k2 false)
def Lu(a0:Aj):=
 aA (λy1=>
 cond (y1)
 (some false)
 (aA (λ(y3:Unit)=>
 some true) λk4=>
 sA FU (λ(x5:Int) k6=>
 cond (decide (x5<(a0.Cands.length:Int)))
 (ob (kA a0.Cands x5) λe7=>
 aA (λy8=>
 cond (y8)
 (some false)
 (cond (decide (0≤(0:Int))&&decide ((0:Int)≤x5)&&decide (x5≤(a0.Cands.length:Int))) (let l11:List Az:=List.take ((x5 - 0).toNat) (List.drop 0 a0.Cands)
 aA (λ(y12:Unit)=>
 k6 (iA .i64 x5 1)) λk13=>
 sA FU (λ(x14:Int) k15=>
 cond (decide (x14<(l11.length:Int)))
 (ob (kA l11 x14) λe16=>
 let x17:Bool:=cond (e16.A.Host==e7.A.Host) (cond (e16.A.Port==e7.A.Port) (true) false) false
 cond (x17)
 (some false)
 (k15 (iA .i64 x14 1)))
 (k13 ())) 0) none)) λk9=>
 cond (!(GA e7.A))
 (k9 true)
 (let x10:Bool:=cond (e7.A.Host==a0.At.Host) (cond (e7.A.Port==a0.At.Port) (true) false) false
 cond (x10)
 (k9 true)
 (cond (!(oA e7.Draw))
 (k9 true)
 (k9 (!(eA e7.Until 0 1000006))))))
 (k4 ())) 0)) λk2=>
 cond (!(GA a0.At))
 (k2 true)
 (k2 (decide ((a0.Cands.length:Int)>3)))
def Lv(a0:Ai):=
 aA (λy1=>
 cond (y1)
 (some false)
 (cond (a0.Dead)
 (aA (λ(y3:Bool)=>
 some y3) λk4=>
 ob (vO a0.C) λr5=>
 cond (r5)
 (let x6:Bool:=cond (a0.P.At.Host==0) (cond (a0.P.At.Port==0) (true) false) false
 cond (x6)
 (cond ((a0.P.Cands.length:Int)==0)
 (k4 (a0.Last==0))
 (k4 false))
 (k4 false))
 (k4 false))
 (aA (λ(y7:Bool)=>
 some y7) λk8=>
 ob (uC a0.C) λr9=>
 cond (r9)
 (cond (a0.C.Role==1)
 (ob (FB a0.C.Sn a0.Sn) λr10=>
 cond (r10)
 (cond ((sC a0.P))
 (k8 (eA a0.Last 0 1000000))
 (k8 false))
 (k8 false))
 (k8 false))
 (k8 false)))) λk2=>
 cond (!(eA a0.Id 1 9))
 (k2 true)
 (cond (!(oA a0.Cn))
 (k2 true)
 (cond (!(oA a0.Sn))
 (k2 true)
 (k2 (!(eA a0.Tick 0 1000000)))))
def Rj(a0:Ap)(a1:List UInt8):=
 aA (λ(y1:Unit)=>
 some (-1)) λk2=>
 sA FU (λ(x3:Int) k4=>
 cond (decide (x3<(a0.L.length:Int)))
 (ob (kA a0.L x3) λe5=>
 ob (FB e5.Sn a1) λr6=>
 cond (r6)
 (some x3)
 (k4 (iA .i64 x3 1)))
 (k2 ())) 0
def Lw(a0:Ap):=
 aA (λy1=>
 cond (y1)
 (some false)
 (aA (λ(y4:Unit)=>
 some true) λk5=>
 sA FU (λ(x6:Int) k7=>
 cond (decide (x6<(a0.L.length:Int)))
 (ob (kA a0.L x6) λe8=>
 aA (λy9=>
 cond (y9)
 (some false)
 (k7 (iA .i64 x6 1))) λk10=>
 ob (KD e8) λr11=>
 cond (!r11)
 (k10 true)
 (ob (ID a0 e8.Sn) λr12=>
 k10 (decide (r12<x6))))
 (k5 ())) 0)) λk2=>
 cond (!(eA a0.Cap 1 6))
 (k2 true)
 (cond (decide ((a0.L.length:Int)>12))
 (k2 true)
 (ob (wJ a0) λr3=>
 k2 (decide (r3>a0.Cap))))
def Rl(a0:List Al)(a1:Ah):=
 aA (λ(y1:Unit)=>
 some (-1)) λk2=>
 sA FU (λ(x3:Int) k4=>
 cond (decide (x3<(a0.length:Int)))
 (ob (kA a0 x3) λe5=>
 let x6:Bool:=cond (e5.A.Host==a1.Host) (cond (e5.A.Port==a1.Port) (true) false) false
 cond (x6)
 (some x3)
 (k4 (iA .i64 x3 1)))
 (k2 ())) 0
def Lx(a0:List Al):=
 cond (decide ((a0.length:Int)>8))
 (some false)
 (aA (λ(y1:Unit)=>
 some true) λk2=>
 sA FU (λ(x3:Int) k4=>
 cond (decide (x3<(a0.length:Int)))
 (ob (kA a0 x3) λe5=>
 aA (λy6=>
 cond (y6)
 (some false)
 (k4 (iA .i64 x3 1))) λk7=>
 cond (!(GA e5.A))
 (k7 true)
 (cond (!(eA e5.Got 0 1000000))
 (k7 true)
 (let r8:Bool:=eA e5.Sent 0 (XB .i64 3 e5.Got)
 cond (!r8)
 (k7 true)
 (k7 (decide ((oB a0 e5.A)<x3))))))
 (k2 ())) 0)
def Rm(a0:List UInt8):=
 some (eA (a0.length:Int) 1 32)
def Ly(a0:Ac):=
 aA (λy1=>
 cond (y1)
 (some false)
 (aA (λ(y4:Unit)=>
 aA (λ(y9:Unit)=>
 some true) λk10=>
 sA FU (λ(x11:Int) k12=>
 cond (decide (x11<(a0.T.L.length:Int)))
 (ob (kA a0.T.L x11) λe13=>
 cond (decide (e13.Id>(a0.Psks.length:Int)))
 (some false)
 (k12 (iA .i64 x11 1)))
 (k10 ())) 0) λk5=>
 sA FU (λ(x6:Int) k7=>
 cond (decide (x6<(a0.Psks.length:Int)))
 (ob (kA a0.Psks x6) λe8=>
 cond (!(AC e8))
 (some false)
 (k7 (iA .i64 x6 1)))
 (k5 ())) 0)) λk2=>
 cond (!(eA (a0.Psks.length:Int) 1 9))
 (k2 true)
 (cond (!(PE a0.J))
 (k2 true)
 (cond (!(ZB a0.D))
 (k2 true)
 (ob (uG a0.T) λr3=>
 cond (!r3)
 (k2 true)
 (k2 (!(iD a0.Cr))))))
def Lz(a0:Ab)(a1:Ab):=
 aA (λ(y1:Bool)=>
 some y1) λk2=>
 cond (a0.Kind==a1.Kind)
 (cond (a0.Id==a1.Id)
 (cond (a0.Tick==a1.Tick)
 (cond (a0.Epoch==a1.Epoch)
 (cond (a0.Seq==a1.Seq)
 (ob (FB a0.Cn a1.Cn) λr3=>
 cond (r3)
 (ob (FB a0.Sn a1.Sn) λr4=>
 cond (r4)
 (ob (FB a0.Cookie a1.Cookie) λr5=>
 cond (r5)
 (ob (FB a0.Proof a1.Proof) λr6=>
 cond (r6)
 (ob (FB a0.Body a1.Body) λr7=>
 cond (r7)
 (ob (FB a0.Tag a1.Tag) λr8=>
 k2 r8)
 (k2 false))
 (k2 false))
 (k2 false))
 (k2 false))
 (k2 false))
 (k2 false))
 (k2 false))
 (k2 false))
 (k2 false))
 (k2 false)
def Ma(a0:Aw):=
 cond (!a0.On)
 (let x1:Bool:=cond (a0.On==false) (cond (a0.Due==0) (cond (a0.Wait==0) (cond (a0.Tries==0) (true) false) false) false) false
 some x1)
 (aA (λ(y2:Bool)=>
 aA (λ(y4:Bool)=>
 some y4) λk5=>
 cond ((eA a0.Due 0 1000008))
 (cond (y2)
 (k5 (eA a0.Tries 1 5))
 (k5 false))
 (k5 false)) λk3=>
 cond (a0.Wait==1)
 (k3 true)
 (cond (a0.Wait==2)
 (k3 true)
 (cond (a0.Wait==4)
 (k3 true)
 (k3 (a0.Wait==8)))))
def Rn(a0:Int):=
 some (eA a0 4 8)
def Pq(a0:Int)(a1:Int):=
 cond (a0==4)
 (some (decide (a1≤40)))
 (aA (λy1=>
 cond (y1)
 (some (a1==12))
 (some (a1==4))) λk2=>
 cond (a0==5)
 (k2 (a0==5))
 (k2 (a0==6)))
def Mb(a0:Ab):=
 aA (λ(y1:Bool×Ab)=>
 aA (λ(y18:Bool)=>
 some y18) λk19=>
 cond (y1.1)
 (ob (SN a0 y1.2) λr20=>
 k19 r20)
 (k19 false)) λk2=>
 cond (a0.Kind==1)
 (aA (λ(y3:Bool)=>
 k2 (y3,(⟨a0.Kind,a0.Id,a0.Cn,[],0,[],[],0,0,[],[]⟩:Ab))) λk4=>
 cond ((eA a0.Id 1 9))
 (k4 (oA a0.Cn))
 (k4 false))
 (aA (λ(y5:Bool×Ab)=>
 k2 (y5.1,y5.2)) λk6=>
 cond (a0.Kind==2)
 (aA (λ(y7:Bool)=>
 k6 (y7,(⟨a0.Kind,0,a0.Cn,a0.Sn,a0.Tick,a0.Cookie,[],0,0,[],[]⟩:Ab))) λk8=>
 cond ((oA a0.Cn))
 (cond ((oA a0.Sn))
 (cond ((eA a0.Tick 0 1000000))
 (k8 ((a0.Cookie.length:Int)==16))
 (k8 false))
 (k8 false))
 (k8 false))
 (aA (λ(y9:Bool×Ab)=>
 k6 (y9.1,y9.2)) λk10=>
 cond (a0.Kind==3)
 (aA (λ(y11:Bool)=>
 k10 (y11,(⟨a0.Kind,a0.Id,a0.Cn,a0.Sn,a0.Tick,a0.Cookie,a0.Proof,0,0,[],[]⟩:Ab))) λk12=>
 cond ((eA a0.Id 1 9))
 (cond ((oA a0.Cn))
 (cond ((oA a0.Sn))
 (cond ((eA a0.Tick 0 1000000))
 (cond ((a0.Cookie.length:Int)==16)
 (k12 ((a0.Proof.length:Int)==16))
 (k12 false))
 (k12 false))
 (k12 false))
 (k12 false))
 (k12 false))
 (aA (λ(y13:Bool×Ab)=>
 k10 (y13.1,y13.2)) λk14=>
 cond ((fC a0.Kind))
 (aA (λ(y15:Bool)=>
 k14 (y15,(⟨a0.Kind,0,[],a0.Sn,0,[],[],a0.Epoch,a0.Seq,a0.Body,a0.Tag⟩:Ab))) λk16=>
 cond ((oA a0.Sn))
 (cond ((eA a0.Epoch 0 4294967295))
 (cond ((eA a0.Seq 0 281474976710655))
 (cond ((a0.Tag.length:Int)==16)
 (let r17:Bool:=dG a0.Kind (a0.Body.length:Int)
 k16 r17)
 (k16 false))
 (k16 false))
 (k16 false))
 (k16 false))
 (k14 (false,(⟨a0.Kind,0,[],[],0,[],[],0,0,[],[]⟩:Ab))))))
def Mc(a0:Ad):=
 aA (λy1=>
 cond (y1)
 (some false)
 (aA (λ(y5:Bool)=>
 some y5) λk6=>
 ob (uC a0.C) λr7=>
 cond (r7)
 (cond (a0.C.Role==0)
 (ob (FB a0.C.Sn a0.Fin.Sn) λr8=>
 cond (r8)
 (cond (a0.C.Cur.N==0)
 (cond (!a0.C.HasOld)
 (k6 ((a0.C.Next.length:Int)==0))
 (k6 false))
 (k6 false))
 (k6 false))
 (k6 false))
 (k6 false))) λk2=>
 cond (!(oA a0.Cn))
 (k2 true)
 (cond (a0.Fin.Kind !=3)
 (k2 true)
 (ob (TC a0.Fin) λr3=>
 cond (!r3)
 (k2 true)
 (cond (a0.Fin.Id !=a0.Id)
 (k2 true)
 (ob (FB a0.Fin.Cn a0.Cn) λr4=>
 k2 (!r4)))))
def Md(a0:Ad):=
 aA (λy1=>
 cond (y1)
 (some false)
 (ob (SN a0.Fin (⟨0,0,[],[],0,[],[],0,0,[],[]⟩:Ab)) λr3=>
 let x4:Bool:=cond (a0.T.On==false) (cond (a0.T.Due==0) (cond (a0.T.Wait==0) (cond (a0.T.Tries==0) (true) false) false) false) false
 cond (a0.St==0)
 (aA (λ(y5:Bool)=>
 some y5) λk6=>
 cond ((a0.Cn.length:Int)==0)
 (cond (r3)
 (ob (vO a0.C) λr7=>
 cond (r7)
 (cond (x4)
 (let x8:Bool:=cond (a0.R.On==false) (cond (a0.R.Due==0) (cond (a0.R.Wait==0) (cond (a0.R.Tries==0) (true) false) false) false) false
 cond (x8)
 (k6 (a0.Last==0))
 (k6 false))
 (k6 false))
 (k6 false))
 (k6 false))
 (k6 false))
 (cond (a0.St==1)
 (aA (λ(y9:Bool)=>
 some y9) λk10=>
 cond ((oA a0.Cn))
 (cond (r3)
 (ob (vO a0.C) λr11=>
 cond (r11)
 (cond (a0.T.On)
 (cond ((tD a0.T))
 (let x12:Bool:=cond (a0.R.On==false) (cond (a0.R.Due==0) (cond (a0.R.Wait==0) (cond (a0.R.Tries==0) (true) false) false) false) false
 cond (x12)
 (k10 (a0.Last==0))
 (k10 false))
 (k10 false))
 (k10 false))
 (k10 false))
 (k10 false))
 (k10 false))
 (cond (a0.St==2)
 (aA (λ(y13:Bool)=>
 some y13) λk14=>
 ob (zcK a0) λr15=>
 cond (r15)
 (cond (a0.T.On)
 (cond ((tD a0.T))
 (let x16:Bool:=cond (a0.R.On==false) (cond (a0.R.Due==0) (cond (a0.R.Wait==0) (cond (a0.R.Tries==0) (true) false) false) false) false
 cond (x16)
 (k14 (a0.Last==0))
 (k14 false))
 (k14 false))
 (k14 false))
 (k14 false))
 (cond (a0.St==3)
 (aA (λ(y17:Bool)=>
 some y17) λk18=>
 cond ((oA a0.Cn))
 (cond (r3)
 (ob (uC a0.C) λr19=>
 cond (r19)
 (cond (a0.C.Role==0)
 (cond (x4)
 (cond ((tD a0.R))
 (cond (a0.R.On==(decide ((a0.C.Next.length:Int)>0)))
 (k18 (eA a0.Last 0 1000000))
 (k18 false))
 (k18 false))
 (k18 false))
 (k18 false))
 (k18 false))
 (k18 false))
 (k18 false))
 (some false)))))) λk2=>
 cond (!(eA a0.Id 1 9))
 (k2 true)
 (cond (!(AC a0.Psk))
 (k2 true)
 (k2 (!(GA a0.At))))
def Ro(a0:Au):=
 aA (λ(y1:Bool)=>
 some y1) λk2=>
 let r3:Bool:=eA (a0.Seed.length:Int) 1 32
 cond (r3)
 (k2 (eA a0.N 0 10000))
 (k2 false)
def Rp(a0:Ba):=
 some ((a0.Secret.length:Int)==32)
def Rq(a0:Ap):=
 aA (λ(y1:Int)=>
 some y1) λk2=>
 sA FU (λ(x3:Int×Int) k4=>
 cond (decide (x3.2<(a0.L.length:Int)))
 (ob (kA a0.L x3.2) λe5=>
 aA (λ(y6:Int)=>
 k4 (y6,(iA .i64 x3.2 1))) λk7=>
 cond (!e5.Dead)
 (k7 (iA .i64 x3.1 1))
 (k7 x3.1))
 (k2 x3.1)) (0,0)
def Me(a0:Ak):=
 aA (λ(y1:Bool)=>
 some y1) λk2=>
 cond (a0.Role==0)
 (cond ((a0.Sn.length:Int)==0)
 (cond ((VF a0.Cur))
 (cond ((VF a0.Old))
 (cond (!a0.HasOld)
 (cond (a0.Until==0)
 (k2 ((a0.Next.length:Int)==0))
 (k2 false))
 (k2 false))
 (k2 false))
 (k2 false))
 (k2 false))
 (k2 false)
def Mf(a0:Aj):=
 aA (λy1=>
 cond (y1)
 (some false)
 (aA (λ(y3:Unit)=>
 some true) λk4=>
 sA FU (λ(x5:Int) k6=>
 cond (decide (x5<(a0.Cands.length:Int)))
 (ob (kA a0.Cands x5) λe7=>
 aA (λy8=>
 cond (y8)
 (some false)
 (aA (λ(y11:Unit)=>
 k6 (iA .i64 x5 1)) λk12=>
 sA FU (λ(x13:Int) k14=>
 cond (decide (x13<x5))
 (ob (kA a0.Cands x13) λe15=>
 let x16:Bool:=cond (e15.A.Host==e7.A.Host) (cond (e15.A.Port==e7.A.Port) (true) false) false
 cond (x16)
 (some false)
 (k14 (iA .i64 x13 1)))
 (k12 ())) 0)) λk9=>
 cond (!(GA e7.A))
 (k9 true)
 (cond ((e7.Draw.length:Int) !=12)
 (k9 true)
 (cond (!(eA e7.Until 0 1000006))
 (k9 true)
 (let x10:Bool:=cond (e7.A.Host==a0.At.Host) (cond (e7.A.Port==a0.At.Port) (true) false) false
 k9 x10))))
 (k4 ())) 0)) λk2=>
 cond (!(GA a0.At))
 (k2 true)
 (k2 (decide ((a0.Cands.length:Int)>3)))
def Mg(a0:Ai):=
 aA (λy1=>
 cond (y1)
 (some false)
 (cond (a0.Dead)
 (aA (λ(y3:Bool)=>
 some y3) λk4=>
 cond ((tC a0.C))
 (let r5:Ah:=vB (-1)
 let x6:Bool:=cond (a0.P.At.Host==r5.Host) (cond (a0.P.At.Port==r5.Port) (true) false) false
 cond (x6)
 (cond ((a0.P.Cands.length:Int)==0)
 (k4 (a0.Last==0))
 (k4 false))
 (k4 false))
 (k4 false))
 (aA (λ(y7:Bool)=>
 some y7) λk8=>
 ob (uC a0.C) λr9=>
 cond (r9)
 (cond (a0.C.Role==1)
 (ob (FB a0.C.Sn a0.Sn) λr10=>
 cond (r10)
 (k8 (sC a0.P))
 (k8 false))
 (k8 false))
 (k8 false)))) λk2=>
 cond (!(eA a0.Id 1 9))
 (k2 true)
 (cond ((a0.Cn.length:Int) !=12)
 (k2 true)
 (cond ((a0.Sn.length:Int) !=12)
 (k2 true)
 (cond (!(eA a0.Tick 0 1000000))
 (k2 true)
 (k2 (!(eA a0.Last 0 1000000))))))
def Rr(a0:Ap)(a1:List UInt8):=
 aA (λ(y1:Unit)=>
 some (-1)) λk2=>
 sA FU (λ(x3:Int) k4=>
 cond (decide (x3<(a0.L.length:Int)))
 (ob (kA a0.L x3) λe5=>
 ob (FB e5.Sn a1) λr6=>
 cond (r6)
 (some x3)
 (k4 (iA .i64 x3 1)))
 (k2 ())) 0
def Mh(a0:Ap):=
 aA (λy1=>
 cond (y1)
 (some false)
 (aA (λ(y4:Unit)=>
 some true) λk5=>
 sA FU (λ(x6:Int) k7=>
 cond (decide (x6<(a0.L.length:Int)))
 (aA (λy8=>
 cond (y8)
 (some false)
 (k7 (iA .i64 x6 1))) λk9=>
 ob (kA a0.L x6) λe10=>
 ob (KD e10) λr11=>
 cond (!r11)
 (k9 true)
 (ob (kA a0.L x6) λe12=>
 ob (ID a0 e12.Sn) λr13=>
 k9 (r13 !=x6)))
 (k5 ())) 0)) λk2=>
 cond (!(eA a0.Cap 1 6))
 (k2 true)
 (cond (decide ((a0.L.length:Int)>12))
 (k2 true)
 (ob (wJ a0) λr3=>
 k2 (decide (r3>a0.Cap))))
def Mi(a0:List Al):=
 cond (decide ((a0.length:Int)>8))
 (some false)
 (aA (λ(y1:Unit)=>
 some true) λk2=>
 sA FU (λ(x3:Int) k4=>
 cond (decide (x3<(a0.length:Int)))
 (aA (λy5=>
 cond (y5)
 (some false)
 (aA (λ(y12:Unit)=>
 k4 (iA .i64 x3 1)) λk13=>
 sA FU (λ(x14:Int) k15=>
 cond (decide (x14<x3))
 (ob (kA a0 x14) λe16=>
 ob (kA a0 x3) λe17=>
 let x18:Bool:=cond (e16.A.Host==e17.A.Host) (cond (e16.A.Port==e17.A.Port) (true) false) false
 cond (x18)
 (some false)
 (k15 (iA .i64 x14 1)))
 (k13 ())) 0)) λk6=>
 ob (kA a0 x3) λe7=>
 cond (!(GA e7.A))
 (k6 true)
 (ob (kA a0 x3) λe8=>
 cond (!(eA e8.Got 0 1000000))
 (k6 true)
 (ob (kA a0 x3) λe9=>
 ob (kA a0 x3) λe10=>
 let r11:Bool:=eA e9.Sent 0 (XB .i64 3 e10.Got)
 k6 (!r11))))
 (k2 ())) 0)
def Rs(a0:List UInt8):=
 some (eA (a0.length:Int) 1 32)
def Rt(a0:Ac):=
 aA (λy1=>
 cond (y1)
 (some false)
 (aA (λ(y4:Unit)=>
 aA (λ(y9:Unit)=>
 some true) λk10=>
 sA FU (λ(x11:Int) k12=>
 cond (decide (x11<(a0.T.L.length:Int)))
 (ob (kA a0.T.L x11) λe13=>
 cond (decide (e13.Id>(a0.Psks.length:Int)))
 (some false)
 (k12 (iA .i64 x11 1)))
 (k10 ())) 0) λk5=>
 sA FU (λ(x6:Int) k7=>
 cond (decide (x6<(a0.Psks.length:Int)))
 (ob (kA a0.Psks x6) λe8=>
 cond (!(AC e8))
 (some false)
 (k7 (iA .i64 x6 1)))
 (k5 ())) 0)) λk2=>
 cond (!(eA (a0.Psks.length:Int) 1 9))
 (k2 true)
 (cond (!(PE a0.J))
 (k2 true)
 (cond (!(ZB a0.D))
 (k2 true)
 (ob (uG a0.T) λr3=>
 cond (!r3)
 (k2 true)
 (k2 (!(iD a0.Cr))))))
def Ru(a0:Am):=
 aA (λ(y1:Bool)=>
 some y1) λk2=>
 cond ((GA a0.From))
 (cond ((GA a0.To))
 (k2 (decide ((a0.B.length:Int)≤200)))
 (k2 false))
 (k2 false)
def Rv(a0:List Am):=
 aA (λ(y1:Unit)=>
 some (decide ((a0.length:Int)≤90))) λk2=>
 sA FU (λ(x3:Int) k4=>
 cond (decide (x3<(a0.length:Int)))
 (ob (kA a0 x3) λe5=>
 cond (!(CE e5))
 (some false)
 (k4 (iA .i64 x3 1)))
 (k2 ())) 0
def Mj(a0:Aw):=
 cond (!a0.On)
 (let x1:Bool:=cond (a0.On==false) (cond (a0.Due==0) (cond (a0.Wait==0) (cond (a0.Tries==0) (true) false) false) false) false
 some x1)
 (aA (λ(y2:Bool)=>
 some y2) λk3=>
 cond ((eA a0.Due 0 1000008))
 (cond (a0.Wait==1)
 (k3 (eA a0.Tries 1 5))
 (cond (a0.Wait==2)
 (k3 (eA a0.Tries 1 5))
 (cond (a0.Wait==4)
 (k3 (eA a0.Tries 1 5))
 (cond (a0.Wait==8)
 (k3 (eA a0.Tries 1 5))
 (k3 false)))))
 (k3 false))
def Mk(a0:Ab):=
 aA (λ(y1:Bool)=>
 some y1) λk2=>
 cond (a0.Kind==0)
 (cond (a0.Id==0)
 (cond ((a0.Cn.length:Int)==0)
 (cond ((a0.Sn.length:Int)==0)
 (cond (a0.Tick==0)
 (cond ((a0.Cookie.length:Int)==0)
 (cond ((a0.Proof.length:Int)==0)
 (cond (a0.Epoch==0)
 (cond (a0.Seq==0)
 (cond ((a0.Body.length:Int)==0)
 (k2 ((a0.Tag.length:Int)==0))
 (k2 false))
 (k2 false))
 (k2 false))
 (k2 false))
 (k2 false))
 (k2 false))
 (k2 false))
 (k2 false))
 (k2 false))
 (k2 false)
def Rw(a0:Int):=
 some (eA a0 4 8)
def Pr(a0:Int)(a1:Int):=
 cond (a0==4)
 (some (decide (a1≤40)))
 (aA (λy1=>
 cond (y1)
 (some (a1==12))
 (some (a1==4))) λk2=>
 cond (a0==5)
 (k2 true)
 (k2 (a0==6)))
def Ml(a0:Ab):=
 cond ((fC a0.Kind))
 (aA (λ(y1:Bool)=>
 some y1) λk2=>
 cond (a0.Id==0)
 (cond ((a0.Cn.length:Int)==0)
 (cond ((a0.Sn.length:Int)==12)
 (cond (a0.Tick==0)
 (cond ((a0.Cookie.length:Int)==0)
 (cond ((a0.Proof.length:Int)==0)
 (cond ((eA a0.Epoch 0 4294967295))
 (cond ((eA a0.Seq 0 281474976710655))
 (let r3:Bool:=dG a0.Kind (a0.Body.length:Int)
 cond (r3)
 (k2 ((a0.Tag.length:Int)==16))
 (k2 false))
 (k2 false))
 (k2 false))
 (k2 false))
 (k2 false))
 (k2 false))
 (k2 false))
 (k2 false))
 (k2 false))
 (aA (λy4=>
 cond (y4)
 (some false)
 (cond (a0.Kind==1)
 (aA (λ(y6:Bool)=>
 some y6) λk7=>
 cond ((eA a0.Id 1 9))
 (cond ((a0.Sn.length:Int)==0)
 (cond (a0.Tick==0)
 (cond ((a0.Cookie.length:Int)==0)
 (k7 ((a0.Proof.length:Int)==0))
 (k7 false))
 (k7 false))
 (k7 false))
 (k7 false))
 (cond (a0.Kind==2)
 (aA (λ(y8:Bool)=>
 some y8) λk9=>
 cond (a0.Id==0)
 (cond ((a0.Sn.length:Int)==12)
 (cond ((eA a0.Tick 0 1000000))
 (cond ((a0.Cookie.length:Int)==16)
 (k9 ((a0.Proof.length:Int)==0))
 (k9 false))
 (k9 false))
 (k9 false))
 (k9 false))
 (cond (a0.Kind==3)
 (aA (λ(y10:Bool)=>
 some y10) λk11=>
 cond ((eA a0.Id 1 9))
 (cond ((a0.Sn.length:Int)==12)
 (cond ((eA a0.Tick 0 1000000))
 (cond ((a0.Cookie.length:Int)==16)
 (k11 ((a0.Proof.length:Int)==16))
 (k11 false))
 (k11 false))
 (k11 false))
 (k11 false))
 (some false))))) λk5=>
 cond (a0.Epoch !=0)
 (k5 true)
 (cond (a0.Seq !=0)
 (k5 true)
 (cond ((a0.Body.length:Int) !=0)
 (k5 true)
 (cond ((a0.Tag.length:Int) !=0)
 (k5 true)
 (k5 ((a0.Cn.length:Int) !=12))))))
def Mm(a0:Ad):=
 aA (λy1=>
 cond (y1)
 (some false)
 (cond (a0.St==0)
 (aA (λ(y3:Bool)=>
 some y3) λk4=>
 cond ((a0.Cn.length:Int)==0)
 (cond ((IF a0.Fin))
 (cond ((tC a0.C))
 (cond (!a0.T.On)
 (cond (!a0.R.On)
 (k4 (a0.Last==0))
 (k4 false))
 (k4 false))
 (k4 false))
 (k4 false))
 (k4 false))
 (cond ((a0.Cn.length:Int) !=12)
 (some false)
 (cond (a0.St==3)
 (aA (λ(y5:Bool)=>
 some y5) λk6=>
 cond ((IF a0.Fin))
 (ob (uC a0.C) λr7=>
 cond (r7)
 (cond (a0.C.Role==0)
 (cond (!a0.T.On)
 (k6 (a0.R.On==(decide ((a0.C.Next.length:Int)>0))))
 (k6 false))
 (k6 false))
 (k6 false))
 (k6 false))
 (aA (λy8=>
 cond (y8)
 (some false)
 (cond (a0.St==1)
 (aA (λ(y10:Bool)=>
 some y10) λk11=>
 cond ((IF a0.Fin))
 (k11 (tC a0.C))
 (k11 false))
 (aA (λ(y12:Bool)=>
 some y12) λk13=>
 cond (a0.St==2)
 (cond ((AB a0.Fin))
 (cond (a0.Fin.Kind==3)
 (cond (a0.Fin.Id==a0.Id)
 (ob (FB a0.Fin.Cn a0.Cn) λr14=>
 cond (r14)
 (ob (uC a0.C) λr15=>
 cond (r15)
 (cond (a0.C.Role==0)
 (ob (FB a0.C.Sn a0.Fin.Sn) λr16=>
 cond (r16)
 (cond (a0.C.Cur.N==0)
 (cond (!a0.C.HasOld)
 (k13 ((a0.C.Next.length:Int)==0))
 (k13 false))
 (k13 false))
 (k13 false))
 (k13 false))
 (k13 false))
 (k13 false))
 (k13 false))
 (k13 false))
 (k13 false))
 (k13 false)))) λk9=>
 cond (!a0.T.On)
 (k9 true)
 (cond (a0.R.On)
 (k9 true)
 (k9 (a0.Last !=0)))))))) λk2=>
 cond (!(eA a0.Id 1 9))
 (k2 true)
 (cond (!(AC a0.Psk))
 (k2 true)
 (cond (!(GA a0.At))
 (k2 true)
 (cond (!(tD a0.T))
 (k2 true)
 (cond (!(tD a0.R))
 (k2 true)
 (k2 (!(eA a0.Last 0 1000000)))))))
def Mn(a0:Aa):=
 aA (λy1=>
 cond (y1)
 (some false)
 (aA (λ(y4:Unit)=>
 aA (λ(y16:Unit)=>
 aA (λ(y21:Unit)=>
 some true) λk22=>
 sA FU (λ(x23:Int) k24=>
 cond (decide (x23<(a0.Notes.length:Int)))
 (ob (kA a0.Notes x23) λe25=>
 cond (!(jC e25))
 (some false)
 (k24 (iA .i64 x23 1)))
 (k22 ())) 0) λk17=>
 sA FU (λ(x18:Int) k19=>
 cond (decide (x18<(a0.Known.length:Int)))
 (ob (kA a0.Known x18) λe20=>
 cond ((e20.length:Int) !=32)
 (some false)
 (k19 (iA .i64 x18 1)))
 (k17 ())) 0) λk5=>
 sA FU (λ(x6:Int) k7=>
 cond (decide (x6<2))
 (aA (λy8=>
 cond (y8)
 (some false)
 (k7 (iA .i64 x6 1))) λk9=>
 ob (kA a0.Clients x6) λe10=>
 ob (GD e10) λr11=>
 cond (!r11)
 (k9 true)
 (ob (kA a0.Clients x6) λe12=>
 cond (e12.Id !=(iA .i64 x6 1))
 (k9 true)
 (ob (kA a0.Clients x6) λe13=>
 ob (kA a0.S.Psks x6) λe14=>
 ob (FB e13.Psk e14) λr15=>
 k9 (!r15))))
 (k5 ())) 0)) λk2=>
 cond (!(eA a0.Now 0 1000000))
 (k2 true)
 (cond ((a0.Clients.length:Int) !=2)
 (k2 true)
 (ob (HC a0.S) λr3=>
 cond (!r3)
 (k2 true)
 (cond ((a0.S.Psks.length:Int) !=2)
 (k2 true)
 (cond (!(ZB a0.D))
 (k2 true)
 (cond (!(PD a0.Seen))
 (k2 true)
 (k2 (decide ((a0.Known.length:Int)>12))))))))
def Rx(a0:Am):=
 aA (λ(y1:Bool)=>
 some y1) λk2=>
 cond ((GA a0.From))
 (cond ((GA a0.To))
 (k2 (decide ((a0.B.length:Int)≤200)))
 (k2 false))
 (k2 false)
def Mo(a0:List Am):=
 aA (λ(y1:Unit)=>
 some (decide ((a0.length:Int)≤90))) λk2=>
 sA FU (λ(x3:Int) k4=>
 cond (decide (x3<(a0.length:Int)))
 (ob (kA a0 x3) λe5=>
 cond (!(CE e5))
 (some false)
 (k4 (iA .i64 x3 1)))
 (k2 ())) 0
def Mp(a0:Aa):=
 aA (λy1=>
 cond (y1)
 (some false)
 (aA (λy4=>
 cond (y4)
 (some false)
 (aA (λ(y6:Unit)=>
 aA (λ(y16:Unit)=>
 aA (λ(y21:Unit)=>
 some true) λk22=>
 sA FU (λ(x23:Int) k24=>
 cond (decide (x23<(a0.Notes.length:Int)))
 (ob (kA a0.Notes x23) λe25=>
 cond (!(jC e25))
 (some false)
 (k24 (iA .i64 x23 1)))
 (k22 ())) 0) λk17=>
 sA FU (λ(x18:Int) k19=>
 cond (decide (x18<(a0.Known.length:Int)))
 (ob (kA a0.Known x18) λe20=>
 cond ((e20.length:Int) !=32)
 (some false)
 (k19 (iA .i64 x18 1)))
 (k17 ())) 0) λk7=>
 sA FU (λ(x8:Int) k9=>
 cond (decide (x8<(a0.Clients.length:Int)))
 (ob (kA a0.Clients x8) λe10=>
 aA (λy11=>
 cond (y11)
 (some false)
 (k9 (iA .i64 x8 1))) λk12=>
 ob (GD e10) λr13=>
 cond (!r13)
 (k12 true)
 (cond (e10.Id !=(iA .i64 x8 1))
 (k12 true)
 (ob (kA a0.S.Psks x8) λe14=>
 ob (FB e10.Psk e14) λr15=>
 k12 (!r15))))
 (k7 ())) 0)) λk5=>
 cond (!(ZB a0.D))
 (k5 true)
 (cond (!(PD a0.Seen))
 (k5 true)
 (k5 (decide ((a0.Known.length:Int)>12)))))) λk2=>
 cond (!(eA a0.Now 0 1000000))
 (k2 true)
 (cond ((a0.Clients.length:Int) !=2)
 (k2 true)
 (ob (HC a0.S) λr3=>
 cond (!r3)
 (k2 true)
 (k2 ((a0.S.Psks.length:Int) !=2))))
end
end Go.D
namespace Go.D
end Go.D
namespace Go.D
open Option renaming bind→ob
def zbV.ok{x}(_:xA [.v .Addr] x):Rb x=some (GA x):=zj7 x
def zbq.ok{x}(_:xA [.v .Addr] x):Ra x=some (GA x):=zj7 x
def zk6(i:Int):(cond (!(eA i 0 255)) (some (⟨0,0⟩:Ah)) (some (⟨iA .i64 167772160 i,iA .i64 7000 i⟩:Ah)))=some (vB i):=by
 cases h:eA i 0 255
 ·rw[zvS]at h;simp[vB,h]
 ·rw[bD]at h;simp only[Bool.not_true,cond_false,vB,h,and_self,if_true,iA];rw[UB (by omega) (by omega),UB (by omega) (by omega)]
def zcB.ok{x}(_:xA [.v .int] x):Rc x=some (vB x):=zk6 _
def zcP.ok{x}(_:xA [.v .int] x):Re x=some (vB x):=zk6 _
def zc1.ok{x}(_:xA [] x):Rd=some MD:=rfl
def zdb.ok{x}(_:xA [] x):Rf=some MD:=rfl
def fK(a b:Ah):(cond (a.Host==b.Host) (cond (a.Port==b.Port) (true) false) false)=wB a b:=by
 simp only[wB,Bool.cond_false_right,Bool.and_true]
def zsn(w:Aa)(a:Ah)(h:wt w≤bA){f:Ad→Option Int}(hf:∀c,f c=some c.Id):cond (wB a MD) (some 0) (sA FU (λ(x5:Int) k6=>cond (decide (x5<(w.Clients.length:Int))) (ob (kA w.Clients x5) λe7=>cond (wB e7.At a) (f e7) (k6 (iA .i64 x5 1))) (some (-1))) 0)=some (nK w a):=by
 rw[aG]at h;rw[zku w.Clients (jE (by omega)) (λc=>wB c.At a) (λc=>some c.Id) (some (-1)) (λi k hi=>?_) (λk=>by simp only[YD,cond_false])]
 ·rw[nK];cases wB a MD
  ·cases w.Clients.find? _<;>rfl
  ·rfl
 ·simp only[yD hi,cond_true,KB hi,mB,hf]
def zpj(w:Aa)(a:Ah)(h:wt w≤bA):Ls w a=some (nK w a):=by
 simp only[Ls,aA,fK];exact zsn w a h (λ_=>rfl)
def GQ.ok{x}(_:xA [.v .World, .v .Addr] x){r}:KH x.1 x.2=some r→Ls x.1 x.2=some r:=TA λh=>zpj x.1 x.2 h
def zpv(w:Aa)(a:Ah)(h:wt w≤bA):Lr w a=some (nK w a):=by
 rw[aG]at h;simp only[Lr,aA,fK];rw[zku w.Clients (jE (by omega)) (λc=>wB c.At a) (λc=>some c.Id) (some (-1)) (λi k hi=>?_) (λk=>by simp only[YD,cond_false])]
 ·rw[nK];cases wB a MD
  ·cases w.Clients.find? _<;>rfl
  ·rfl
 ·simp only[yD hi,cond_true,KB hi,mB]
def VQ.ok{x}(_:xA [.v .World, .v .Addr] x){r}:KH x.1 x.2=some r→Lr x.1 x.2=some r:=TA λh=>zpv x.1 x.2 h
def QU.ok{x}(_:xA [.v .int, .v .int] x):Po x.1 x.2=some (SD x.1 x.2):=by
 simp only[Po,aA,ZC,Bool.cond_true_left];rfl
def xU.ok{x}(_:xA [.sl .byte, .v .int] x):Pp x.1 x.2=some (UC x.1 x.2):=by
 simp only[Pp,aA,ZC,Bool.cond_true_left];rfl
def IR.ok{x}(_:xA [.v .Note] x):Lq x=some (jC x):=by
 show Lq (x:Ae)=some (jC (x:Ae))
 generalize (show Ae from x)=n;simp only[Lq,aA,ZC,Bool.cond_false_right,jC]
 grind
def DR.ok{x}(_:xA [.v .Note] x):Lp x=some (jC x):=by
 show Lp (x:Ae)=some (jC (x:Ae))
 generalize (show Ae from x)=n;simp only[Lp,aA,ZC,Bool.cond_false_right,jC,UC]
 grind
def zb7.ok{x}(_:xA [.v .Jar] x):Rh x=some (PE x):=rfl
def zb8.ok{x}(_:xA [.v .Jar] x):Rp x=some (PE x):=rfl
def zjY(d:Au):(aA (λ(y1:Bool)=>some y1) λk2=>cond (eA (d.Seed.length:Int) 1 32) (k2 (eA d.N 0 10000)) (k2 false))=some (ZB d):=by
 simp only[aA,ZC,Bool.cond_false_right,ZB]
def zbw.ok{x}(_:xA [.v .Dice] x):Rg x=some (ZB x):=zjY x
def zbB.ok{x}(_:xA [.v .Dice] x):Ro x=some (ZB x):=zjY x
def zlp(t:Ap)(h:wt t≤bA):(aA (λ(y1:Int)=>some y1) λk2=>sA FU (λ(x3:Int×Int) k4=>cond (decide (x3.2<(t.L.length:Int))) (ob (kA t.L x3.2) λe5=>
  aA (λ(y6:Int)=>k4 (y6,(iA .i64 x3.2 1))) λk7=>cond (!e5.Dead) (k7 (iA .i64 x3.1 1)) (k7 x3.1)) (k2 x3.1)) (0,0))=some (live t):=by
 rw[sJ]at h;simp only[aA];rw[ztO t.L (jE h) (λs e=>bif e.Dead then s else iA .i64 s 1) (λs=>some s) (λi s k hi=>?_) (λs k=>by simp only[YD,cond_false])]
 ·rfl
 ·simp only[yD hi,cond_true,KB hi,mB];cases t.L[i].Dead<;>rfl
def zcq.ok{x}(_:xA [.v .Tab] x){r}:wJ x=some r→Ri x=some r:=TA λh=>zlp x h
def zcu.ok{x}(_:xA [.v .Tab] x){r}:wJ x=some r→Rq x=some r:=TA λh=>zlp x h
def DP.ok{x}(_:xA [.v .Chan] x):Me x=some (tC x):=by
 show Me (x:Ak)=some (tC (x:Ak))
 generalize (show Ak from x)=c;simp only[Me,aA,ZC,Bool.cond_false_right,tC]
 grind
def zos(c:Ak)(h:wt c≤bA):Lt c=some (tC c):=by
 rw[NH]at h
 simp only[Lt,aA,zO,UA (p:=wt c.Old≤bA∧wt (⟨0,[],0,(⟨0,[]⟩:Aq)⟩:Ax)≤bA) ⟨by omega,zg1⟩,
  UA (p:=wt c.Cur≤bA∧wt (⟨0,[],0,(⟨0,[]⟩:Aq)⟩:Ax)≤bA) ⟨by omega,zg1⟩,zkU,ZC,Bool.cond_false_right,tC]
 grind
def vP.ok{x}(_:xA [.v .Chan] x){r}:vO x=some r→Lt x=some r:=TA λh=>zos x h
def qK(a b:Int):decide (a>b)= !decide (a≤b):=by
 by_cases h:a≤b
 ·rw[decide_eq_true h,decide_eq_false (by omega)];rfl
 ·rw[decide_eq_false h,decide_eq_true (by omega)];rfl
def LQ.ok{x}(_:xA [.v .Paths] x):Mf x=some (sC x):=by
 show Mf (x:Aj)=some (sC (x:Aj))
 generalize (show Aj from x)=p;simp only[Mf,aA,fK,sC,qK (p.Cands.length:Int) 3];cases GA p.At
 ·rfl
 cases hd:decide ((p.Cands.length:Int)≤3)
 ·rfl
 have hd:=of_decide_eq_true hd;have hl:p.Cands.length≤maxLen:=by rw[xD];omega
 simp only[Bool.not_true,cond_false];rw[cJ p.Cands.length hl (yO p) (some false) (some true) (λi k hi=>?_) (λk=>by simp only[YD,cond_false])]
 ·cases IB _ _<;>rfl
 ·simp only[yD hi,cond_true,KB hi,mB];rw[cJ i (by omega) (λj=>(p.Cands[j]?).any λd=>wB d.A p.Cands[i].A) (some false) (k (iA .i64 (i:Int) 1)) (λj k' hj=>?_) (λk'=>by simp only[YD,cond_false])]
  ·simp only[yO,NF hi,oA];cases GA p.Cands[i].A<;>cases hn:((p.Cands[i].Draw.length:Int)==12)<;>cases eA p.Cands[i].Until 0 1000006<;>cases wB p.Cands[i].A p.At<;>cases IB i _<;>simp[bne,hn]
  ·simp only[yD hj,cond_true,KB (Nat.lt_trans hj hi),mB,NF (Nat.lt_trans hj hi)]
def xQ.ok{x}(_:xA [.v .Paths] x):Lu x=some (sC x):=by
 show Lu (x:Aj)=some (sC (x:Aj))
 generalize (show Aj from x)=p;simp only[Lu,aA,fK,sC,qK (p.Cands.length:Int) 3];cases GA p.At
 ·rfl
 cases hd:decide ((p.Cands.length:Int)≤3)
 ·rfl
 have hd:=of_decide_eq_true hd;have hl:p.Cands.length≤maxLen:=by rw[xD];omega
 simp only[Bool.not_true,cond_false];rw[cJ p.Cands.length hl (yO p) (some false) (some true) (λi k hi=>?_) (λk=>by simp only[YD,cond_false])]
 ·cases IB _ _<;>rfl
 ·have MV:(p.Cands.take i).length=i:=by rw[List.length_take];omega
  simp only[yD hi,cond_true,KB hi,mB,zxf (Nat.le_of_lt hi),zxh];rw[cJ i (by omega) (λj=>(p.Cands[j]?).any λd=>wB d.A p.Cands[i].A) (some false) (k (iA .i64 (i:Int) 1)) (λj k' hj=>?_) (λk'=>by rw[MV];simp only[YD,cond_false])]
  ·simp only[yO,NF hi];cases GA p.Cands[i].A<;>cases oA p.Cands[i].Draw<;>cases eA p.Cands[i].Until 0 1000006<;>cases wB p.Cands[i].A p.At<;>cases IB i _<;>rfl
  ·have aX:j<(p.Cands.take i).length:=by omega
   simp only[yD aX,cond_true,KB aX,mB,NF (Nat.lt_trans hj hi),List.getElem_take]
def zpx(s:Ai)(h:wt s≤bA):Mg s=some (vC s):=by
 rw[pL]at h;have hc:=NH s.C;have hn:vB (-1)=⟨0,0⟩:=rfl;have h0:s.Last=0→eA s.Last 0 1000000=true:=λh=>by rw[h];rfl
 simp only[Mg,aA,fK];simp only[hn,uC,UA (p:=wt s.C≤bA) (by omega),VI (a:=s.C.Sn) (b:=s.Sn) (by omega) (by omega),vC,oA];cases s.Dead<;>simp only[ZC,Bool.cond_false_right,cond_true,cond_false]<;>grind
def jR.ok{x}(_:xA [.v .Sess] x){r}:KD x=some r→Mg x=some r:=TA λh=>zpx x h
def zpX(s:Ai)(h:wt s≤bA):Lv s=some (vC s):=by
 rw[pL]at h;have hc:=NH s.C;have hn:(cond (s.P.At.Host==0) (cond (s.P.At.Port==0) (true) false) false)=wB s.P.At ⟨0,0⟩:=fK s.P.At ⟨0,0⟩;simp only[Lv,aA,hn,uC,vO,UA (p:=wt s.C≤bA) (by omega),VI (a:=s.C.Sn) (b:=s.Sn) (by omega) (by omega),vC];cases s.Dead<;>simp only[ZC,Bool.cond_false_right,cond_true,cond_false]<;>grind
def ER.ok{x}(_:xA [.v .Sess] x){r}:KD x=some r→Lv x=some r:=TA λh=>zpX x h
def zj9(t:Ap)(b:List UInt8)(h:wt t≤bA∧wt b≤bA):(aA (λ(y1:Unit)=>some (-1)) λk2=>sA FU (λ(x3:Int) k4=>cond (decide (x3<(t.L.length:Int))) (ob (kA t.L x3) λe5=>
  ob (FB e5.Sn b) λr6=>cond (r6) (some x3) (k4 (iA .i64 x3 1))) (k2 ())) 0)=some (OE t b):=by
 rw[sJ]at h;simp only[aA];rw[zfP t.L.length (jE h.1) (xG t b) (λi k hi=>?_) (λk=>by simp only[YD,cond_false])]
 ·rfl
 ·have:=xE hi;have hs:=pL t.L[i];simp only[yD hi,cond_true,KB hi,mB,xG,NF hi,VI (a:=t.L[i].Sn) (b:=b) (by omega) h.2]
def zbI.ok{x}(_:xA [.v .Tab, .sl .byte] x){r}:ID x.1 x.2=some r→Rj x.1 x.2=some r:=TA λh=>zj9 x.1 x.2 h
def zbL.ok{x}(_:xA [.v .Tab, .sl .byte] x){r}:ID x.1 x.2=some r→Rr x.1 x.2=some r:=TA λh=>zj9 x.1 x.2 h
def zj8{t:Ap}{i:Nat}(hi:i<t.L.length):xG t t.L[i].Sn i=true:=by simp[xG,hi]
def zl2{t:Ap}(h:wt t≤bA){i:Nat}(hi:i<t.L.length):wt t.L[i]≤bA∧wt t.L[i].Sn≤bA:=by
 rw[sJ]at h;have:=xE hi;have hs:=pL t.L[i];omega
def zp5(t:Ap)(h:wt t≤bA):Mh t=some (QC t):=by
 have hl:=jE (sJ t▸h);simp only[Mh,aA,QC,wJ,UA h,qK (t.L.length:Int) 12,qK (live t) t.Cap]
 have key:sA FU (λ(x5:Int) k6=>cond (decide (x5<(t.L.length:Int))) (ob (kA t.L x5) λe9=>ob (KD e9) λr10=>cond (!r10) (cond true (some false) (k6 (iA .i64 x5 1))) (ob (kA t.L x5) λe11=>
   ob (ID t e11.Sn) λr12=>cond (r12 !=x5) (some false) (k6 (iA .i64 x5 1)))) (some true)) 0=some (!(IB t.L.length (rL t))):=by
  rw[cJ t.L.length hl (rL t) (some false) (some true) (λi k hi=>?_) (λk=>by simp only[YD,cond_false])]
  ·cases IB _ _<;>rfl
  ·have hw:=zl2 h hi;simp only[yD hi,cond_true,KB hi,mB,KD,UA hw.1,ID,UA (p:=wt t≤bA∧wt t.L[i].Sn≤bA) ⟨h,hw.2⟩,OE,(zgc hi (zj8 hi)).2,rL,NF hi];cases vC t.L[i]<;>cases IB i _<;>rfl
 rw[key];cases eA t.Cap 1 6<;>cases decide ((t.L.length:Int)≤12)<;>cases decide (live t≤t.Cap)<;>rfl
def QR.ok{x}(_:xA [.v .Tab] x){r}:uG x=some r→Mh x=some r:=TA λh=>zp5 x h
def zp2(t:Ap)(h:wt t≤bA):Lw t=some (QC t):=by
 have hl:=jE (sJ t▸h);simp only[Lw,aA,QC,wJ,UA h,qK (t.L.length:Int) 12,qK (live t) t.Cap]
 have key:sA FU (λ(x5:Int) k6=>cond (decide (x5<(t.L.length:Int))) (ob (kA t.L x5) λe9=>ob (KD e9) λr10=>cond (!r10) (cond true (some false) (k6 (iA .i64 x5 1)))
   (ob (ID t e9.Sn) λr12=>cond (decide (r12<x5)) (some false) (k6 (iA .i64 x5 1)))) (some true)) 0=some (!(IB t.L.length (rL t))):=by
  rw[cJ t.L.length hl (rL t) (some false) (some true) (λi k hi=>?_) (λk=>by simp only[YD,cond_false])]
  ·cases IB _ _<;>rfl
  ·have hw:=zl2 h hi;simp only[yD hi,cond_true,KB hi,mB,KD,UA hw.1,ID,UA (p:=wt t≤bA∧wt t.L[i].Sn≤bA) ⟨h,hw.2⟩,OE,(zgc hi (zj8 hi)).1,rL,NF hi];cases vC t.L[i]<;>cases IB i _<;>rfl
 rw[key];cases eA t.Cap 1 6<;>cases decide ((t.L.length:Int)≤12)<;>cases decide (live t≤t.Cap)<;>rfl
def NR.ok{x}(_:xA [.v .Tab] x){r}:uG x=some r→Lw x=some r:=TA λh=>zp2 x h
end Go.D
namespace Go.D
def zlW(l:List Al)(a:Ah)(hl:l.length≤maxLen):(aA (λ(y1:Unit)=>some (-1)) λk2=>sA FU (λ(x3:Int) k4=>cond (decide (x3<(l.length:Int))) (Option.bind (kA l x3) λe5=>
  cond (cond (e5.A.Host==a.Host) (cond (e5.A.Port==a.Port) (true) false) false) (some x3) (k4 (iA .i64 x3 1))) (k2 ())) 0)=some (oB l a):=by
 simp only[aA,fK];rw[zfP l.length hl (UG l a) (λi k hi=>?_) (λk=>by simp only[YD,cond_false])]
 ·rfl
 ·simp only[yD hi,cond_true,KB hi,mB,UG,NF hi]
def za3.ok{x}(hb:xA [.sl .Credit, .v .Addr] x):Rl x.1 x.2=some (oB x.1 x.2):=zlW x.1 x.2 hb.1.1
def zsP(a:Ah):wB a a=true:=by simp[wB]
def zte{l:List Al}{i:Nat}(hi:i<l.length):UG l l[i].A i=true:=by simp[UG,hi,zsP]
def zwZ{l:List Al}{i:Nat}(hi:i<l.length):decide (oB l l[i].A<(i:Int))=IB i (UG l l[i].A):=(zgc (p:=UG l l[i].A) hi (zte hi)).1
def IP.ok{x}(hb:xA [.sl .Credit] x):Lx x=some (iD x):=by
 show Lx (x:List Al)=some (iD (x:List Al))
 have hl:(show List Al from x).length≤maxLen:=hb.1;generalize (show List Al from x)=l at hl⊢;simp only[Lx,aA,iD,qK (l.length:Int) 8];rw[cJ l.length hl (dS l) (some false) (some true) (λi k hi=>?_) (λk=>by simp only[YD,cond_false])]
 ·cases decide ((l.length:Int)≤8)<;>cases IB _ _<;>rfl
 ·simp only[yD hi,cond_true,KB hi,mB,zwZ hi,dS,NF hi];cases GA l[i].A<;>cases eA l[i].Got 0 1000000<;>cases eA l[i].Sent 0 _<;>cases IB i _<;>rfl
def FP.ok{x}(hb:xA [.sl .Credit] x):Mi x=some (iD x):=by
 show Mi (x:List Al)=some (iD (x:List Al))
 have hl:(show List Al from x).length≤maxLen:=hb.1;generalize (show List Al from x)=l at hl⊢;simp only[Mi,aA,iD,qK (l.length:Int) 8,fK];rw[cJ l.length hl (dS l) (some false) (some true) (λi k hi=>?_) (λk=>by simp only[YD,cond_false])]
 ·cases decide ((l.length:Int)≤8)<;>cases IB _ _<;>rfl
 ·simp only[yD hi,cond_true,KB hi,mB];rw[cJ i (by omega) (UG l l[i].A) (some false) (k (iA .i64 (i:Int) 1)) (λj k' hj=>?_) (λk'=>by simp only[YD,cond_false])]
  ·simp only[dS,NF hi];cases GA l[i].A<;>cases eA l[i].Got 0 1000000<;>cases eA l[i].Sent 0 _<;>cases IB i _<;>rfl
  ·simp only[yD hj,cond_true,KB (Nat.lt_trans hj hi),KB hi,mB,UG,NF (Nat.lt_trans hj hi)]
def zce.ok{x}(_:xA [.sl .byte] x):Rm x=some (AC x):=rfl
def zch.ok{x}(_:xA [.sl .byte] x):Rs x=some (AC x):=rfl
def zjj(s:Ac)(h:wt s≤bA):Ly s=some (LB s):=by
 rw[rM]at h;have hT:=sJ s.T;simp only[Ly,aA,uG,UA (p:=wt s.T≤bA) (by omega),LB];rw[wS s.Psks (jE (by omega)) (λb=>!AC b) (some false) _ (λi k hi=>?_) (λk=>by simp only[YD,cond_false];rfl)]
 ·rw[wS s.T.L (jE (by omega)) (λe=>decide (e.Id>(s.Psks.length:Int))) (some false) (some true) (λi k hi=>?_) (λk=>by simp only[YD,cond_false])]
  ·cases eA (s.Psks.length:Int) 1 9<;>cases PE s.J<;>cases ZB s.D<;>cases QC s.T<;>cases iD s.Cr<;>cases s.Psks.any _<;>cases s.T.L.any _<;>rfl
  ·simp only[yD hi,cond_true,KB hi,mB]
 ·simp only[yD hi,cond_true,KB hi,mB]
def bQ.ok{x}(_:xA [.v .Server] x){r}:HC x=some r→Ly x=some r:=TA λh=>zjj x h
def za1.ok{x}(_:xA [.v .Server] x){r}:HC x=some r→Rt x=some r:=TA λh=>zjj x h
def zkd(w:Am):(aA (λ(y1:Bool)=>some y1) λk2=>cond ((GA w.From)) (cond ((GA w.To)) (k2 (decide ((w.B.length:Int)≤200))) (k2 false)) (k2 false))=some (CE w):=by
 simp only[aA,ZC,Bool.cond_false_right,CE,Bool.and_assoc]
def zbH.ok{x}(_:xA [.v .Wire] x):Rx x=some (CE x):=zkd x
def zbD.ok{x}(_:xA [.v .Wire] x):Ru x=some (CE x):=zkd x
def zjT(l:List Am)(hl:l.length≤maxLen):Mo l=some (PD l):=by
 simp only[Mo,aA,PD];rw[wS l hl (λw=>!CE w) (some false) _ (λi k hi=>?_) (λk=>by simp only[YD,cond_false];rfl)]
 ·cases l.any _<;>rfl
 ·simp only[yD hi,cond_true,KB hi,mB]
def NQ.ok{x}(hb:xA [.sl .Wire] x):Mo x=some (PD x):=zjT x hb.1
def za4.ok{x}(hb:xA [.sl .Wire] x):Rv x=some (PD x):=zjT x hb.1
def zoz(f g:Ab)(h:wt f≤bA∧wt g≤bA):Lz f g=some (bK f g):=by
 simp only[HH]at h;simp(disch:=omega) only[Lz,aA,VI];simp only[ZC,Bool.cond_false_right,bK,Bool.and_assoc]
def zP.ok{x}(_:xA [.v .Frame, .v .Frame] x){r}:SN x.1 x.2=some r→Lz x.1 x.2=some r:=TA λh=>zoz x.1 x.2 h
def zfz(t:Aw):(cond (t.On==false) (cond (t.Due==0) (cond (t.Wait==0) (cond (t.Tries==0) (true) false) false) false) false)=HF t:=by
 simp only[Bool.cond_false_right,HF,Bool.and_true,Bool.and_assoc]
def PQ.ok{x}(_:xA [.v .Timer] x):Ma x=some (tD x):=by
 show Ma (x:Aw)=some (tD (x:Aw))
 generalize (show Aw from x)=t;simp only[Ma,zfz,aA,tD];cases t.On
 ·rfl
 ·simp only[Bool.not_true,cond_false,cond_true,ZC];cases eA t.Due 0 1000008<;>cases eA t.Tries 1 5<;>grind
def oQ.ok{x}(_:xA [.v .Timer] x):Mj x=some (tD x):=by
 show Mj (x:Aw)=some (tD (x:Aw))
 generalize (show Aw from x)=t;simp only[Mj,zfz,aA,tD];cases t.On
 ·rfl
 ·simp only[Bool.not_true,cond_false,cond_true,ZC];cases eA t.Due 0 1000008<;>cases eA t.Tries 1 5<;>grind
def lP.ok{x}(_:xA [.v .Frame] x):Mk x=some (IF x):=by
 show Mk (x:Ab)=some (IF (x:Ab))
 generalize (show Ab from x)=f;simp only[Mk,aA,ZC,Bool.cond_false_right,IF,Bool.and_assoc]
def zbR.ok{x}(_:xA [.v .int] x):Rn x=some (fC x):=rfl
def zbU.ok{x}(_:xA [.v .int] x):Rw x=some (fC x):=rfl
def IU.ok{x}(_:xA [.v .int, .v .int] x):Pq x.1 x.2=some (dG x.1 x.2):=by
 simp only[Pq,aA,ZC,dG];cases h5:x.1==(5:Int)<;>cases h4:x.1==(4:Int)<;>simp
def HU.ok{x}(_:xA [.v .int, .v .int] x):Pr x.1 x.2=some (dG x.1 x.2):=by
 simp only[Pr,aA,ZC,dG];cases h5:x.1==(5:Int)<;>cases h4:x.1==(4:Int)<;>simp
def zgt(a b:Int):(a !=b)= !(a==b):=rfl
def UQ.ok{x}(_:xA [.v .Frame] x):Ml x=some (AB x):=by
 show Ml (x:Ab)=some (AB (x:Ab))
 generalize (show Ab from x)=f;simp only[Ml,aA,ZC,Bool.cond_false_right,Bool.cond_false_left,Bool.cond_true_left,Bool.cond_true_right,AB,zgt];cases fC f.Kind
 ·simp only[cond_false];cases f.Epoch==0<;>cases f.Seq==0<;>cases(f.Body.length:Int)==0<;>cases(f.Tag.length:Int)==0<;>cases(f.Cn.length:Int)==12<;>simp[Bool.and_assoc]
 ·simp only[cond_true,Bool.and_assoc]
def zfp{k:Int}(h:fC k=true):(k==1)=false∧(k==2)=false∧(k==3)=false:=by
 rw[fC,bD]at h;exact⟨beq_false_of_ne (by omega),beq_false_of_ne (by omega),beq_false_of_ne (by omega)⟩
def jV(l:List UInt8):(l==[])=((l.length:Int)==0):=by rw[zn5];cases l<;>rfl
def zpi(f:Ab)(h:wt f≤bA):Mb f=some (AB f):=by
 have hs:∀g:Ab,wt g≤wt f→SN f g=some (bK f g):=λg hg=>pA ⟨h,by omega⟩;have hw:=HH f;simp only[Mb,aA,ZC,AB,oA];cases h1:f.Kind==1
 ·cases h2:f.Kind==2
  ·cases h3:f.Kind==3
   ·cases h4:fC f.Kind
    ·simp
    ·simp only[cond_true,cond_false];rw[hs _ (by simp only[HH,LF];omega)];simp only[bK,beq_self_eq_true,jV,ZC,Bool.cond_false_right];cases eA f.Epoch 0 4294967295<;>cases eA f.Seq 0 281474976710655<;>grind
   ·have h4 : fC f.Kind = false := by cases h4 : fC f.Kind; · rfl
                                      rw[(zfp h4).2.2]at h3;cases h3
    simp only[cond_true,cond_false,h4];rw[hs _ (by simp only[HH,LF];omega)];simp only[bK,beq_self_eq_true,jV,ZC,Bool.cond_false_right];cases eA f.Id 1 9<;>cases eA f.Tick 0 1000000<;>grind
  ·have h4 : fC f.Kind = false := by cases h4 : fC f.Kind; · rfl
                                     rw[(zfp h4).2.1]at h2;cases h2
   simp only[cond_true,cond_false,h4];rw[hs _ (by simp only[HH,LF];omega)];simp only[bK,beq_self_eq_true,jV,ZC,Bool.cond_false_right];cases eA f.Tick 0 1000000<;>grind
 ·have h4 : fC f.Kind = false := by cases h4 : fC f.Kind; · rfl
                                    rw[(zfp h4).1]at h1;cases h1
  simp only[cond_true,cond_false,h4];rw[hs _ (by simp only[HH,LF];omega)];simp only[bK,beq_self_eq_true,jV,ZC,Bool.cond_false_right];cases eA f.Id 1 9<;>grind
def sQ.ok{x}(_:xA [.v .Frame] x){r}:TC x=some r→Mb x=some r:=TA λh=>zpi x h
end Go.D
namespace Go.D
def zcE(c:Ad)(h:wt c≤bA):wt c.Psk≤bA∧wt c.Cn≤bA∧wt c.Fin≤bA∧wt c.C≤bA∧wt c.Fin.Cn≤bA∧wt c.Fin.Sn≤bA∧wt c.C.Sn≤bA∧wt c.C.Next≤bA∧wt c.C.Cur.Key≤bA:=by
 rw[CM]at h;have h1:=HH c.Fin;have h2:=NH c.C;have h3:=AL c.C.Cur;omega
def zo5(c:Ad)(h:wt c≤bA):Mc c=some (fJ c):=by
 have hw:=zcE c h;simp only[Mc,aA,TC,uC,UA (p:=wt c.Fin≤bA) hw.2.2.1,UA (p:=wt c.C≤bA) hw.2.2.2.1,VI hw.2.2.2.2.1 hw.2.1,VI hw.2.2.2.2.2.2.1 hw.2.2.2.2.2.1];simp only[ZC,Bool.cond_false_right,Bool.cond_false_left,Bool.cond_true_left,Bool.not_true,Bool.false_and,fJ,zgt,Bool.not_or,Bool.not_not,Bool.and_assoc]
def kQ.ok{x}(_:xA [.v .Client] x){r}:zcK x=some r→Mc x=some r:=TA λh=>zo5 x h
def zr7(f:Ab):bK f (⟨0,0,[],[],0,[],[],0,0,[],[]⟩:Ab)=IF f:=by
 simp only[bK,IF,jV]
 grind
def zxw{c:Ad}(h:wt c.Fin≤bA):SN c.Fin (⟨0,0,[],[],0,[],[],0,0,[],[]⟩:Ab)=some (IF c.Fin):=by
 rw[SN,pA ⟨h,Nat.zero_le _⟩,zr7]
def zoY(c:Ad)(h:wt c≤bA):Md c=some (pB c):=by
 have hw:=zcE c h;simp only[Md,aA,zfz,zxw hw.2.2.1,mB,uC,vO,zcK,UA (p:=wt c.C≤bA) hw.2.2.2.1,UA h];simp only[ZC,Bool.cond_false_right,Bool.cond_false_left,Bool.cond_true_left,Bool.not_true,Bool.false_and,pB,Bool.not_or,Bool.not_not,Bool.and_assoc]
def dQ.ok{x}(_:xA [.v .Client] x){r}:GD x=some r→Md x=some r:=TA λh=>zoY x h
def zky{t:Aw}(h:t.On=false):tD t=HF t:=by rw[tD,h];rfl
def zlj{t:Aw}(h:t.On=true):HF t=false:=by rw[HF,h];rfl
def zoN(c:Ad)(h:wt c≤bA):Mm c=some (pB c):=by
 have hw:=zcE c h;have hL:c.Last=0→eA c.Last 0 1000000=true:=λh=>by rw[h];rfl
 have hT0:=zky (t:=c.T);have hT1:=zlj (t:=c.T);have hR0:=zky (t:=c.R);have hR1:=zlj (t:=c.R)
 simp only[Mm,aA,uC,UA (p:=wt c.C≤bA) hw.2.2.2.1,VI hw.2.2.2.2.1 hw.2.1,VI hw.2.2.2.2.2.2.1 hw.2.2.2.2.2.1,
  ZC,Bool.cond_false_right,Bool.cond_false_left,Bool.cond_true_left,pB,fJ,zgt,Bool.not_or,Bool.not_not,oA]
 refine congrArg some ?_;cases eA c.Id 1 9
 ·rfl
 cases AC c.Psk
 ·rfl
 cases GA c.At
 ·rfl
 simp only[Bool.true_and]
 by_cases s0:c.St=0
 ·simp only[s0,beq_self_eq_true,cond_true];cases hT:c.T.On<;>cases hR:c.R.On<;>simp_all<;>grind
 ·have e0:(c.St==0)=false:=beq_false_of_ne s0
  by_cases s3:c.St=3
  ·simp only[s3];cases hT:c.T.On<;>simp_all<;>grind
  ·have e3:(c.St==3)=false:=beq_false_of_ne s3;simp only[e0,e3,cond_false];cases hT:c.T.On
   ·simp
   ·cases hR:c.R.On
    ·by_cases s1:c.St=1
     ·simp_all;grind
     ·have e1:(c.St==1)=false:=beq_false_of_ne s1;simp only[e1,cond_false]
      by_cases s2:c.St=2
      ·simp_all;grind
      ·have e2:(c.St==2)=false:=beq_false_of_ne s2;simp[e2]
    ·simp_all
def gQ.ok{x}(_:xA [.v .Client] x){r}:GD x=some r→Mm x=some r:=TA λh=>zoN x h
def zdd(w:Aa)(h:wt w≤bA):wt w.Clients≤bA∧wt w.S≤bA∧wt w.S.Psks≤bA∧wt w.S.T≤bA∧wt w.S.T.L≤bA∧wt w.Seen≤bA∧wt w.Known≤bA∧wt w.Notes≤bA:=by
 rw[aG]at h;have h1:=rM w.S;have h2:=sJ w.S.T;omega
def zki(l:List (List UInt8))(hl:l.length≤maxLen)(z:Option Bool):sA FU (λ(x16:Int) k17=>cond (decide (x16<(l.length:Int))) (Option.bind (kA l x16) λe18=>cond ((e18.length:Int) !=32) (some false) (k17 (iA .i64 x16 1))) z) 0
  =bif l.any λb=>(b.length:Int) !=32 then some false else z:=by
 rw[wS l hl (λb=>(b.length:Int) !=32) (some false) z (λi k hi=>?_) (λk=>by simp only[YD,cond_false])];simp only[yD hi,cond_true,KB hi,mB]
def zjX(l:List Ae)(hl:l.length≤maxLen)(z:Option Bool):sA FU (λ(x16:Int) k17=>cond (decide (x16<(l.length:Int))) (Option.bind (kA l x16) λe18=>cond (!(jC e18)) (some false) (k17 (iA .i64 x16 1))) z) 0
  =bif l.any λn=>!jC n then some false else z:=by
 rw[wS l hl (λn=>!jC n) (some false) z (λi k hi=>?_) (λk=>by simp only[YD,cond_false])];simp only[yD hi,cond_true,KB hi,mB]
def zsZ{w:Aa}(h:wt w≤bA){i:Nat}(hi:i<w.Clients.length):wt w.Clients[i]≤bA:=by
 have:=xE hi;have:=(zdd w h).1;omega
def zja(w:Aa)(h:wt w≤bA)(hc:w.Clients.length=2)(hp:w.S.Psks.length=2)(z:Option Bool){f:Int→(Int→Option Bool)→Option Bool}
  (hf:∀ (i:Nat) k (h:i<w.Clients.length) (h':i<w.S.Psks.length),wt w.Clients[i]≤bA→wt w.Clients[i].Psk≤bA→wt w.S.Psks[i]≤bA→IntKind.wrap .i64 ((i:Int)+1)=((i+1:Nat):Int)→
   f (i:Int) k=bif !pB w.Clients[i]||w.Clients[i].Id !=((i+1:Nat):Int)||!(w.Clients[i].Psk==w.S.Psks[i])then some false else k (IntKind.wrap .i64 ((i:Int)+1)))
  (hz:∀k,f (2:Int) k=z):sA FU f 0=bif IB 2 (iI w)then some false else z:=by
 rw[cJ 2 (by decide) (iI w) (some false) z (λi k hi=>?_) hz];have h1:=zsZ h (i:=i) (by omega);have h2:=(zcE _ h1).1;have h3:=xE (l:=w.S.Psks) (i:=i) (by omega);have h4:=(zdd w h).2.2.1;rw[hf i k (by omega) (by omega) h1 h2 (by omega) (HG i (by rw[xD];omega)),iI,NF (by omega),NF (by omega)]
def zpm(w:Aa)(h:wt w≤bA):Mp w=some (iB w):=by
 have hw:=zdd w h;simp only[Mp,aA,HC,UA (p:=wt w.S≤bA) hw.2.1,iB]
 by_cases hc:w.Clients.length=2
 ·by_cases hp:w.S.Psks.length=2
  ·have c1:((w.Clients.length:Int) !=2)=false:=by simp[hc]
   have c2:((w.Clients.length:Int)==2)=true:=by simp[hc]
   have p1:((w.S.Psks.length:Int) !=2)=false:=by simp[hp]
   have p2:((w.S.Psks.length:Int)==2)=true:=by simp[hp]
   rw[c1,c2,p1,p2,zjX w.Notes (jE hw.2.2.2.2.2.2.2),zki w.Known (jE hw.2.2.2.2.2.2.1),zja w h hc hp _ (λi k hi rW w1 w2 w3 he=>?_) (λk=>by rw[hc];exact cond_false _ _)]
   ·rw[qK];cases eA w.Now 0 1000000
    ·rfl
    cases LB w.S
    ·rfl
    cases ZB w.D
    ·rfl
    cases PD w.Seen
    ·rfl
    cases decide ((w.Known.length:Int)≤12)
    ·rfl
    cases IB 2 (iI w)
    ·cases w.Known.any _
     ·cases w.Notes.any _<;>rfl
     ·rfl
    ·rfl
   ·simp only[yD hi,cond_true,KB hi,KB rW,mB,GD,UA w1,VI w2 w3];simp only[iA,he];cases pB w.Clients[i]<;>cases w.Clients[i].Id !=((i+1:Nat):Int)<;>cases w.Clients[i].Psk==w.S.Psks[i]<;>rfl
  ·have p1:((w.S.Psks.length:Int) !=2)=true:=by simp;omega
   have p2:((w.S.Psks.length:Int)==2)=false:=by simp;omega
   rw[p1,p2];simp
 ·have c1:((w.Clients.length:Int) !=2)=true:=by simp;omega
  have c2:((w.Clients.length:Int)==2)=false:=by simp;omega
  rw[c1,c2];simp
def EQ.ok{x}(_:xA [.v .World] x){r}:AE x=some r→Mp x=some r:=TA λh=>zpm x h
def zph(w:Aa)(h:wt w≤bA):Mn w=some (iB w):=by
 have hw:=zdd w h;simp only[Mn,aA,HC,UA (p:=wt w.S≤bA) hw.2.1,iB]
 by_cases hc:w.Clients.length=2
 ·by_cases hp:w.S.Psks.length=2
  ·have c1:((w.Clients.length:Int) !=2)=false:=by simp[hc]
   have c2:((w.Clients.length:Int)==2)=true:=by simp[hc]
   have p1:((w.S.Psks.length:Int) !=2)=false:=by simp[hp]
   have p2:((w.S.Psks.length:Int)==2)=true:=by simp[hp]
   rw[c1,c2,p1,p2,zjX w.Notes (jE hw.2.2.2.2.2.2.2),zki w.Known (jE hw.2.2.2.2.2.2.1),zja w h hc hp _ (λi k hi rW w1 w2 w3 he=>?_) (λk=>by exact cond_false _ _)]
   ·rw[qK];cases eA w.Now 0 1000000
    ·rfl
    cases LB w.S
    ·rfl
    cases ZB w.D
    ·rfl
    cases PD w.Seen
    ·rfl
    cases decide ((w.Known.length:Int)≤12)
    ·rfl
    cases IB 2 (iI w)
    ·cases w.Known.any _
     ·cases w.Notes.any _<;>rfl
     ·rfl
    ·rfl
   ·have e:decide ((i:Int)<2)=true:=decide_eq_true (by omega);simp only[e,cond_true,KB hi,KB rW,mB,GD,UA w1,VI w2 w3];simp only[iA,he];cases pB w.Clients[i]<;>cases w.Clients[i].Id !=((i+1:Nat):Int)<;>cases w.Clients[i].Psk==w.S.Psks[i]<;>rfl
  ·have p1:((w.S.Psks.length:Int) !=2)=true:=by simp;omega
   have p2:((w.S.Psks.length:Int)==2)=false:=by simp;omega
   rw[p1,p2];simp
 ·have c1:((w.Clients.length:Int) !=2)=true:=by simp;omega
  have c2:((w.Clients.length:Int)==2)=false:=by simp;omega
  rw[c1,c2];simp
def yQ.ok{x}(_:xA [.v .World] x){r}:AE x=some r→Mn x=some r:=TA λh=>zph x h
end Go.D
namespace Go.D
end Go.D
