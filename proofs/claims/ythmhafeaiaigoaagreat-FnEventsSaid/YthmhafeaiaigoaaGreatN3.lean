/-
 Sizes of the program's data.
-/
import Derived.Test.YthmhafeaiaigoaaGreatN2
set_option linter.all false
namespace Go.D
instance:Wt Al:=⟨λx=>wt x.A⟩
instance:Wt Aa:=⟨λx=>wt x.Cn+wt x.Sn+wt x.Cookie+wt x.Proof+wt x.Body+wt x.Tag⟩
def IH(x:Aa):wt x=wt x.Cn+wt x.Sn+wt x.Cookie+wt x.Proof+wt x.Body+wt x.Tag:=rfl
instance:Wt Aw:=⟨λ_=>0⟩
def zdg(x:Aw):wt x=0:=rfl
instance:Wt Ae:=⟨λx=>wt x.Psk+wt x.At+wt x.Cn+wt x.Fin+wt x.C+wt x.T+wt x.R⟩
def uM(x:Ae):wt x=wt x.Psk+wt x.At+wt x.Cn+wt x.Fin+wt x.C+wt x.T+wt x.R:=rfl
instance:Wt Ba:=⟨λx=>wt x.Secret⟩
def gT(x:Ba):wt x=wt x.Secret:=rfl
instance:Wt Au:=⟨λx=>wt x.Seed⟩
def cJ(x:Au):wt x=wt x.Seed:=rfl
instance:Wt Az:=⟨λx=>wt x.A+wt x.Draw⟩
def EV(x:Az):wt x=wt x.A+wt x.Draw:=rfl
instance:Wt Aj:=⟨λx=>wt x.At+wt x.Cands⟩
def WI(x:Aj):wt x=wt x.At+wt x.Cands:=rfl
instance:Wt Ah:=⟨λx=>wt x.Cn+wt x.Sn+wt x.C+wt x.P⟩
def lL(x:Ah):wt x=wt x.Cn+wt x.Sn+wt x.C+wt x.P:=rfl
instance:Wt Ao:=⟨λx=>wt x.L⟩
def iJ(x:Ao):wt x=wt x.L:=rfl
instance:Wt Ac:=⟨λx=>wt x.Psks+wt x.J+wt x.D+wt x.T+wt x.Cr⟩
def rM(x:Ac):wt x=wt x.Psks+wt x.J+wt x.D+wt x.T+wt x.Cr:=rfl
instance:Wt Ap:=⟨λx=>wt x.From+wt x.To+wt x.B⟩
def zag(x:Ap):wt x=wt x.From+wt x.To+wt x.B:=rfl
instance:Wt Ab:=⟨λx=>wt x.Clients+wt x.S+wt x.D+wt x.Seen+wt x.Known+wt x.Notes⟩
def JF(x:Ab):wt x=wt x.Clients+wt x.S+wt x.D+wt x.Seen+wt x.Known+wt x.Notes:=rfl
end Go.D
namespace Go.D
noncomputable section
def zB(i:Int):Ai:=if 0≤i∧i≤255 then⟨167772160+i,7000+i⟩else⟨0,0⟩
def AE:Ai:=zB 0
def PB(a b:Ai):Bool:=a.Host==b.Host&&a.Port==b.Port
def SD(n k:Int):Bool:=n==0||n==k
def WC(b:List UInt8)(n:Int):Bool:=SD (b.length:Int) n
def nC(n:Ad):Bool:=eA n.Kind 1 17&&eA n.Id 0 9&&eA n.Role 0 1&&WC n.Cn 12&&WC n.Sn 12&&eA n.Epoch 0 4294967295&&eA n.Seq 0 281474976710655&&decide ((n.Body.length:Int)≤100)&&WC n.Key 32&&GA n.A&&eA n.Now 0 1000000
def HM(w:Ab)(a:Ai):Int:=bif PB a AE then 0 else match w.Clients.find? λc=>PB c.At a with
 | some c=>c.Id
 | none=> -1
def bL(w:Ab)(a:Ai):Option Int:=pt (wt w≤bA) (HM w a)
def QE(j:Ba):Bool:=(j.Secret.length:Int)==32
def gC(d:Au):Bool:=eA (d.Seed.length:Int) 1 32&&eA d.N 0 10000
def live(t:Ao):Int:=t.L.foldl (λs e=>bif e.Dead then s else iA .i64 s 1) 0
def rJ(t:Ao):Option Int:=pt (wt t≤bA) (live t)
def tC(c:Ak):Bool:=c.Role==0&&(c.Sn.length:Int)==0&&aG c.Cur&&aG c.Old&&!c.HasOld&&c.Until==0&&(c.Next.length:Int)==0
def CO(c:Ak):Option Bool:=pt (wt c≤bA) (tC c)
def AO(p:Aj)(i:Nat):Bool:=(p.Cands[i]?).any λe=>!GA e.A||!nA e.Draw||!eA e.Until 0 1000006||PB e.A p.At||HB i λj=>(p.Cands[j]?).any λd=>PB d.A e.A
def sC(p:Aj):Bool:=GA p.At&&decide ((p.Cands.length:Int)≤3)&&!(HB p.Cands.length (AO p))
def vC(s:Ah):Bool:=eA s.Id 1 9&&nA s.Cn&&nA s.Sn&&eA s.Tick 0 1000000&&bif s.Dead then tC s.C&&PB s.P.At ⟨0,0⟩&&(s.P.Cands.length:Int)==0&&s.Last==0
 else mC s.C&&s.C.Role==1&&s.C.Sn==s.Sn&&sC s.P&&eA s.Last 0 1000000
def ID(s:Ah):Option Bool:=pt (wt s≤bA) (vC s)
def yG(t:Ao)(b:List UInt8)(i:Nat):Bool:=(t.L[i]?).any λe=>e.Sn==b
def PE(t:Ao)(b:List UInt8):Int:=MH t.L.length (yG t b)
def KD(t:Ao)(b:List UInt8):Option Int:=pt (wt t≤bA∧wt b≤bA) (PE t b)
def iL(t:Ao)(i:Nat):Bool:=(t.L[i]?).any λe=>!vC e||HB i (yG t e.Sn)
def TC(t:Ao):Bool:=eA t.Cap 1 6&&decide ((t.L.length:Int)≤12)&&decide (live t≤t.Cap)&&!(HB t.L.length (iL t))
def uG(t:Ao):Option Bool:=pt (wt t≤bA) (TC t)
def TG(l:List Al)(a:Ai)(i:Nat):Bool:=(l[i]?).any λc=>PB c.A a
def nB(l:List Al)(a:Ai):Int:=MH l.length (TG l a)
def fS(l:List Al)(i:Nat):Bool:=(l[i]?).any λc=>!GA c.A||!eA c.Got 0 1000000||!eA c.Sent 0 (ZB .i64 3 c.Got)||HB i (TG l c.A)
def kD(l:List Al):Bool:=decide ((l.length:Int)≤8)&&!(HB l.length (fS l))
def GC(b:List UInt8):Bool:=eA (b.length:Int) 1 32
def MB(s:Ac):Bool:=eA (s.Psks.length:Int) 1 9&&QE s.J&&gC s.D&&TC s.T&&kD s.Cr&&!(s.Psks.any λb=>!GC b)&&!(s.T.L.any λe=>decide (e.Id>(s.Psks.length:Int)))
def JC(s:Ac):Option Bool:=pt (wt s≤bA) (MB s)
def OE(w:Ap):Bool:=GA w.From&&GA w.To&&decide ((w.B.length:Int)≤200)
def RD(l:List Ap):Bool:=!(l.any λw=>!OE w)&&decide ((l.length:Int)≤90)
def YJ(f g:Aa):Bool:=f.Kind==g.Kind&&f.Id==g.Id&&f.Tick==g.Tick&&f.Epoch==g.Epoch&&f.Seq==g.Seq&&f.Cn==g.Cn&&f.Sn==g.Sn&&f.Cookie==g.Cookie&&f.Proof==g.Proof&&f.Body==g.Body&&f.Tag==g.Tag
def RN(f g:Aa):Option Bool:=pt (wt f≤bA∧wt g≤bA) (YJ f g)
def KF(t:Aw):Bool:=t.On==false&&t.Due==0&&t.Wait==0&&t.Tries==0
def uD(t:Aw):Bool:=bif t.On then eA t.Due 0 1000008&&(t.Wait==1||t.Wait==2||t.Wait==4||t.Wait==8)&&eA t.Tries 1 5 else KF t
def LF(f:Aa):Bool:=f.Kind==0&&f.Id==0&&(f.Cn.length:Int)==0&&(f.Sn.length:Int)==0&&f.Tick==0&&(f.Cookie.length:Int)==0&&(f.Proof.length:Int)==0&&f.Epoch==0&&f.Seq==0&&(f.Body.length:Int)==0&&(f.Tag.length:Int)==0
def jC(k:Int):Bool:=eA k 4 8
def gG(k n:Int):Bool:=bif k==4 then decide (n≤40)else bif k==5||k==6 then n==12 else n==4
def wB(f:Aa):Bool:=
 bif jC f.Kind then f.Id==0&&(f.Cn.length:Int)==0&&(f.Sn.length:Int)==12&&f.Tick==0&&(f.Cookie.length:Int)==0&&(f.Proof.length:Int)==0&&eA f.Epoch 0 4294967295&&eA f.Seq 0 281474976710655&&gG f.Kind (f.Body.length:Int)&&(f.Tag.length:Int)==16
 else f.Epoch==0&&f.Seq==0&&(f.Body.length:Int)==0&&(f.Tag.length:Int)==0&&(f.Cn.length:Int)==12&&
  bif f.Kind==1 then eA f.Id 1 9&&(f.Sn.length:Int)==0&&f.Tick==0&&(f.Cookie.length:Int)==0&&(f.Proof.length:Int)==0
  else bif f.Kind==2 then f.Id==0&&(f.Sn.length:Int)==12&&eA f.Tick 0 1000000&&(f.Cookie.length:Int)==16&&(f.Proof.length:Int)==0
  else f.Kind==3&&eA f.Id 1 9&&(f.Sn.length:Int)==12&&eA f.Tick 0 1000000&&(f.Cookie.length:Int)==16&&(f.Proof.length:Int)==16
def VC(f:Aa):Option Bool:=pt (wt f≤bA) (wB f)
def XI(c:Ae):Bool:=nA c.Cn&&c.Fin.Kind==3&&wB c.Fin&&c.Fin.Id==c.Id&&c.Fin.Cn==c.Cn&&mC c.C&&c.C.Role==0&&c.C.Sn==c.Fin.Sn&&c.C.Cur.N==0&&!c.C.HasOld&&(c.C.Next.length:Int)==0
def zcu(c:Ae):Option Bool:=pt (wt c≤bA) (XI c)
def sB(c:Ae):Bool:=eA c.Id 1 9&&GC c.Psk&&GA c.At&&
 bif c.St==0 then(c.Cn.length:Int)==0&&LF c.Fin&&tC c.C&&KF c.T&&KF c.R&&c.Last==0
 else bif c.St==1 then nA c.Cn&&LF c.Fin&&tC c.C&&c.T.On&&uD c.T&&KF c.R&&c.Last==0
 else bif c.St==2 then XI c&&c.T.On&&uD c.T&&KF c.R&&c.Last==0
 else c.St==3&&nA c.Cn&&LF c.Fin&&mC c.C&&c.C.Role==0&&KF c.T&&uD c.R&&c.R.On==decide ((c.C.Next.length:Int)>0)&&eA c.Last 0 1000000
def OD(c:Ae):Option Bool:=pt (wt c≤bA) (sB c)
def gI(w:Ab)(i:Nat):Bool:=(w.Clients[i]?).any λc=>(w.S.Psks[i]?).any λp=>!sB c||c.Id !=((i+1:Nat):Int)||!(c.Psk==p)
def tB(w:Ab):Bool:=eA w.Now 0 1000000&&(w.Clients.length:Int)==2&&MB w.S&&(w.S.Psks.length:Int)==2&&gC w.D&&RD w.Seen&&decide ((w.Known.length:Int)≤12)&&
 !(HB 2 (gI w))&&!(w.Known.any λb=>(b.length:Int) !=32)&&!(w.Notes.any λn=>!nC n)
def dG(w:Ab):Option Bool:=pt (wt w≤bA) (tB w)
def zn1:Ax:=⟨0,[],0,⟨0,[]⟩⟩
end
end Go.D
namespace Go.D
open Option renaming bind→ob
noncomputable section
def Po(a0:Int)(a1:Int):=
 aA (λ(y1:Bool)=>
 some y1) λk2=>
 cond (a0==0)
 (k2 true)
 (k2 (a0==a1))
def Rd(a0:Ai):=
 aA (λ(y1:Bool)=>
 some y1) λk2=>
 cond ((eA a0.Host 0 4294967295))
 (k2 (eA a0.Port 0 65535))
 (k2 false)
def Lp(a0:Ad):=
 aA (λ(y1:Bool)=>
 some y1) λk2=>
 cond ((eA a0.Kind 1 17))
 (cond ((eA a0.Id 0 9))
 (cond ((eA a0.Role 0 1))
 (cond ((SD (a0.Cn.length:Int) 12))
 (cond ((SD (a0.Sn.length:Int) 12))
 (cond ((eA a0.Epoch 0 4294967295))
 (cond ((eA a0.Seq 0 281474976710655))
 (cond (decide ((a0.Body.length:Int)≤100))
 (cond ((SD (a0.Key.length:Int) 32))
 (cond ((GA a0.A))
 (k2 (eA a0.Now 0 1000000))
 (k2 false))
 (k2 false))
 (k2 false))
 (k2 false))
 (k2 false))
 (k2 false))
 (k2 false))
 (k2 false))
 (k2 false))
 (k2 false)
def Pp(a0:List UInt8)(a1:Int):=
 aA (λ(y1:Bool)=>
 some y1) λk2=>
 cond ((a0.length:Int)==0)
 (k2 true)
 (k2 ((a0.length:Int)==a1))
def Re(a0:Ai):=
 aA (λ(y1:Bool)=>
 some y1) λk2=>
 cond ((eA a0.Host 0 4294967295))
 (k2 (eA a0.Port 0 65535))
 (k2 false)
def Lq(a0:Ad):=
 aA (λ(y1:Bool)=>
 some y1) λk2=>
 cond ((eA a0.Kind 1 17))
 (cond ((eA a0.Id 0 9))
 (cond ((eA a0.Role 0 1))
 (cond ((eA a0.Epoch 0 4294967295))
 (cond ((eA a0.Seq 0 281474976710655))
 (cond ((eA a0.Now 0 1000000))
 (cond ((WC a0.Cn 12))
 (cond ((WC a0.Sn 12))
 (cond (decide ((a0.Body.length:Int)≤100))
 (cond ((WC a0.Key 32))
 (k2 (GA a0.A))
 (k2 false))
 (k2 false))
 (k2 false))
 (k2 false))
 (k2 false))
 (k2 false))
 (k2 false))
 (k2 false))
 (k2 false))
 (k2 false)
def Rf(a0:Int):=
 cond (!(eA a0 0 255))
 (some (⟨0,0⟩:Ai))
 (some (⟨iA .i64 167772160 a0,iA .i64 7000 a0⟩:Ai))
def Rg:=
 let r1:Ai:=zB 0
 some r1
def Lr(a0:Ab)(a1:Ai):=
 let r1:Ai:=AE;let x2:Bool:=cond (a1.Host==r1.Host) (cond (a1.Port==r1.Port) (true) false) false
 cond (x2)
 (some 0)
 (aA (λ(y3:Unit)=>
 some (-1)) λk4=>
 uA FU (λ(x5:Int) k6=>
 cond (decide (x5<(a0.Clients.length:Int)))
 (ob (lA a0.Clients x5) λe7=>
 let x8:Bool:=cond (e7.At.Host==a1.Host) (cond (e7.At.Port==a1.Port) (true) false) false
 cond (x8)
 (ob (lA a0.Clients x5) λe9=>
 some e9.Id)
 (k6 (iA .i64 x5 1)))
 (k4 ())) 0)
def Rh(a0:Int):=
 cond (!(eA a0 0 255))
 (some (⟨0,0⟩:Ai))
 (some (⟨iA .i64 167772160 a0,iA .i64 7000 a0⟩:Ai))
def Ri:=
 let r1:Ai:=zB 0
 some r1
def Ls(a0:Ab)(a1:Ai):=
 let r1:Ai:=AE;let x2:Bool:=cond (a1.Host==r1.Host) (cond (a1.Port==r1.Port) (true) false) false
 cond (x2)
 (some 0)
 (aA (λ(y3:Unit)=>
 some (-1)) λk4=>
 uA FU (λ(x5:Int) k6=>
 cond (decide (x5<(a0.Clients.length:Int)))
 (ob (lA a0.Clients x5) λe7=>
 let x8:Bool:=cond (e7.At.Host==a1.Host) (cond (e7.At.Port==a1.Port) (true) false) false
 cond (x8)
 (some e7.Id)
 (k6 (iA .i64 x5 1)))
 (k4 ())) 0)
def Rj(a0:Au):=
 aA (λ(y1:Bool)=>
 some y1) λk2=>
 let r3:Bool:=eA (a0.Seed.length:Int) 1 32
 cond (r3)
 (k2 (eA a0.N 0 10000))
 (k2 false)
def Rl(a0:Ba):=
 some ((a0.Secret.length:Int)==32)
def Rm(a0:Ao):=
 aA (λ(y1:Int)=>
 some y1) λk2=>
 uA FU (λ(x3:Int×Int) k4=>
 cond (decide (x3.2<(a0.L.length:Int)))
 (ob (lA a0.L x3.2) λe5=>
 aA (λ(y6:Int)=>
 k4 (y6,(iA .i64 x3.2 1))) λk7=>
 cond (!e5.Dead)
 (k7 (iA .i64 x3.1 1))
 (k7 x3.1))
 (k2 x3.1)) (0,0)
def Lt(a0:Ak):=
 aA (λ(y1:Bool)=>
 some y1) λk2=>
 cond (a0.Role==0)
 (cond ((a0.Sn.length:Int)==0)
 (ob (DO a0.Cur (⟨0,[],0,(⟨0,[]⟩:Aq)⟩:Ax)) λr3=>
 cond (r3)
 (ob (DO a0.Old (⟨0,[],0,(⟨0,[]⟩:Aq)⟩:Ax)) λr4=>
 cond (r4)
 (cond (!a0.HasOld)
 (cond (a0.Until==0)
 (k2 ((a0.Next.length:Int)==0))
 (k2 false))
 (k2 false))
 (k2 false))
 (k2 false))
 (k2 false))
 (k2 false)
def Lu(a0:Aj):=
 aA (λy1=>
 cond (y1)
 (some false)
 (aA (λ(y3:Unit)=>
 some true) λk4=>
 uA FU (λ(x5:Int) k6=>
 cond (decide (x5<(a0.Cands.length:Int)))
 (ob (lA a0.Cands x5) λe7=>
 aA (λy8=>
 cond (y8)
 (some false)
 (cond (decide (0≤(0:Int))&&decide ((0:Int)≤x5)&&decide (x5≤(a0.Cands.length:Int))) (let l11:List Az:=List.take ((x5 - 0).toNat) (List.drop 0 a0.Cands)
 aA (λ(y12:Unit)=>
 k6 (iA .i64 x5 1)) λk13=>
 uA FU (λ(x14:Int) k15=>
 cond (decide (x14<(l11.length:Int)))
 (ob (lA l11 x14) λe16=>
 let x17:Bool:=cond (e16.A.Host==e7.A.Host) (cond (e16.A.Port==e7.A.Port) (true) false) false
 cond (x17)
 (some false)
 (k15 (iA .i64 x14 1)))
 (k13 ())) 0) none)) λk9=>
 cond (!(GA e7.A))
 (k9 true)
 (let x10:Bool:=cond (e7.A.Host==a0.At.Host) (cond (e7.A.Port==a0.At.Port) (true) false) false
 cond (x10)
 (k9 true)
 (cond (!(nA e7.Draw))
 (k9 true)
 (k9 (!(eA e7.Until 0 1000006))))))
 (k4 ())) 0)) λk2=>
 cond (!(GA a0.At))
 (k2 true)
 (k2 (decide ((a0.Cands.length:Int)>3)))
def Lv(a0:Ah):=
 aA (λy1=>
 cond (y1)
 (some false)
 (cond (a0.Dead)
 (aA (λ(y3:Bool)=>
 some y3) λk4=>
 ob (CO a0.C) λr5=>
 cond (r5)
 (let x6:Bool:=cond (a0.P.At.Host==0) (cond (a0.P.At.Port==0) (true) false) false
 cond (x6)
 (cond ((a0.P.Cands.length:Int)==0)
 (k4 (a0.Last==0))
 (k4 false))
 (k4 false))
 (k4 false))
 (aA (λ(y7:Bool)=>
 some y7) λk8=>
 ob (uC a0.C) λr9=>
 cond (r9)
 (cond (a0.C.Role==1)
 (ob (DB a0.C.Sn a0.Sn) λr10=>
 cond (r10)
 (cond ((sC a0.P))
 (k8 (eA a0.Last 0 1000000))
 (k8 false))
 (k8 false))
 (k8 false))
 (k8 false)))) λk2=>
 cond (!(eA a0.Id 1 9))
 (k2 true)
 (cond (!(nA a0.Cn))
 (k2 true)
 (cond (!(nA a0.Sn))
 (k2 true)
 (k2 (!(eA a0.Tick 0 1000000)))))
def Rn(a0:Ao)(a1:List UInt8):=
 aA (λ(y1:Unit)=>
 some (-1)) λk2=>
 uA FU (λ(x3:Int) k4=>
 cond (decide (x3<(a0.L.length:Int)))
 (ob (lA a0.L x3) λe5=>
 ob (DB e5.Sn a1) λr6=>
 cond (r6)
 (some x3)
 (k4 (iA .i64 x3 1)))
 (k2 ())) 0
def Lw(a0:Ao):=
 aA (λy1=>
 cond (y1)
 (some false)
 (aA (λ(y4:Unit)=>
 some true) λk5=>
 uA FU (λ(x6:Int) k7=>
 cond (decide (x6<(a0.L.length:Int)))
 (ob (lA a0.L x6) λe8=>
 aA (λy9=>
 cond (y9)
 (some false)
 (k7 (iA .i64 x6 1))) λk10=>
 ob (ID e8) λr11=>
 cond (!r11)
 (k10 true)
 (ob (KD a0 e8.Sn) λr12=>
 k10 (decide (r12<x6))))
 (k5 ())) 0)) λk2=>
 cond (!(eA a0.Cap 1 6))
 (k2 true)
 (cond (decide ((a0.L.length:Int)>12))
 (k2 true)
 (ob (rJ a0) λr3=>
 k2 (decide (r3>a0.Cap))))
def Ro(a0:List Al)(a1:Ai):=
 aA (λ(y1:Unit)=>
 some (-1)) λk2=>
 uA FU (λ(x3:Int) k4=>
 cond (decide (x3<(a0.length:Int)))
 (ob (lA a0 x3) λe5=>
 let x6:Bool:=cond (e5.A.Host==a1.Host) (cond (e5.A.Port==a1.Port) (true) false) false
 cond (x6)
 (some x3)
 (k4 (iA .i64 x3 1)))
 (k2 ())) 0
def Lx(a0:List Al):=
 cond (decide ((a0.length:Int)>8))
 (some false)
 (aA (λ(y1:Unit)=>
 some true) λk2=>
 uA FU (λ(x3:Int) k4=>
 cond (decide (x3<(a0.length:Int)))
 (ob (lA a0 x3) λe5=>
 aA (λy6=>
 cond (y6)
 (some false)
 (k4 (iA .i64 x3 1))) λk7=>
 cond (!(GA e5.A))
 (k7 true)
 (cond (!(eA e5.Got 0 1000000))
 (k7 true)
 (let r8:Bool:=eA e5.Sent 0 (ZB .i64 3 e5.Got)
 cond (!r8)
 (k7 true)
 (k7 (decide ((nB a0 e5.A)<x3))))))
 (k2 ())) 0)
def Rp(a0:List UInt8):=
 some (eA (a0.length:Int) 1 32)
def Ly(a0:Ac):=
 aA (λy1=>
 cond (y1)
 (some false)
 (aA (λ(y4:Unit)=>
 aA (λ(y9:Unit)=>
 some true) λk10=>
 uA FU (λ(x11:Int) k12=>
 cond (decide (x11<(a0.T.L.length:Int)))
 (ob (lA a0.T.L x11) λe13=>
 cond (decide (e13.Id>(a0.Psks.length:Int)))
 (some false)
 (k12 (iA .i64 x11 1)))
 (k10 ())) 0) λk5=>
 uA FU (λ(x6:Int) k7=>
 cond (decide (x6<(a0.Psks.length:Int)))
 (ob (lA a0.Psks x6) λe8=>
 cond (!(GC e8))
 (some false)
 (k7 (iA .i64 x6 1)))
 (k5 ())) 0)) λk2=>
 cond (!(eA (a0.Psks.length:Int) 1 9))
 (k2 true)
 (cond (!(QE a0.J))
 (k2 true)
 (cond (!(gC a0.D))
 (k2 true)
 (ob (uG a0.T) λr3=>
 cond (!r3)
 (k2 true)
 (k2 (!(kD a0.Cr))))))
def Lz(a0:Aa)(a1:Aa):=
 aA (λ(y1:Bool)=>
 some y1) λk2=>
 cond (a0.Kind==a1.Kind)
 (cond (a0.Id==a1.Id)
 (cond (a0.Tick==a1.Tick)
 (cond (a0.Epoch==a1.Epoch)
 (cond (a0.Seq==a1.Seq)
 (ob (DB a0.Cn a1.Cn) λr3=>
 cond (r3)
 (ob (DB a0.Sn a1.Sn) λr4=>
 cond (r4)
 (ob (DB a0.Cookie a1.Cookie) λr5=>
 cond (r5)
 (ob (DB a0.Proof a1.Proof) λr6=>
 cond (r6)
 (ob (DB a0.Body a1.Body) λr7=>
 cond (r7)
 (ob (DB a0.Tag a1.Tag) λr8=>
 k2 r8)
 (k2 false))
 (k2 false))
 (k2 false))
 (k2 false))
 (k2 false))
 (k2 false))
 (k2 false))
 (k2 false))
 (k2 false))
 (k2 false)
def Ma(a0:Aw):=
 cond (!a0.On)
 (let x1:Bool:=cond (a0.On==false) (cond (a0.Due==0) (cond (a0.Wait==0) (cond (a0.Tries==0) (true) false) false) false) false
 some x1)
 (aA (λ(y2:Bool)=>
 aA (λ(y4:Bool)=>
 some y4) λk5=>
 cond ((eA a0.Due 0 1000008))
 (cond (y2)
 (k5 (eA a0.Tries 1 5))
 (k5 false))
 (k5 false)) λk3=>
 cond (a0.Wait==1)
 (k3 true)
 (cond (a0.Wait==2)
 (k3 true)
 (cond (a0.Wait==4)
 (k3 true)
 (k3 (a0.Wait==8)))))
def Rq(a0:Int):=
 some (eA a0 4 8)
def Pq(a0:Int)(a1:Int):=
 cond (a0==4)
 (some (decide (a1≤40)))
 (aA (λy1=>
 cond (y1)
 (some (a1==12))
 (some (a1==4))) λk2=>
 cond (a0==5)
 (k2 (a0==5))
 (k2 (a0==6)))
def Mb(a0:Aa):=
 aA (λ(y1:Bool×Aa)=>
 aA (λ(y18:Bool)=>
 some y18) λk19=>
 cond (y1.1)
 (ob (RN a0 y1.2) λr20=>
 k19 r20)
 (k19 false)) λk2=>
 cond (a0.Kind==1)
 (aA (λ(y3:Bool)=>
 k2 (y3,(⟨a0.Kind,a0.Id,a0.Cn,[],0,[],[],0,0,[],[]⟩:Aa))) λk4=>
 cond ((eA a0.Id 1 9))
 (k4 (nA a0.Cn))
 (k4 false))
 (aA (λ(y5:Bool×Aa)=>
 k2 (y5.1,y5.2)) λk6=>
 cond (a0.Kind==2)
 (aA (λ(y7:Bool)=>
 k6 (y7,(⟨a0.Kind,0,a0.Cn,a0.Sn,a0.Tick,a0.Cookie,[],0,0,[],[]⟩:Aa))) λk8=>
 cond ((nA a0.Cn))
 (cond ((nA a0.Sn))
 (cond ((eA a0.Tick 0 1000000))
 (k8 ((a0.Cookie.length:Int)==16))
 (k8 false))
 (k8 false))
 (k8 false))
 (aA (λ(y9:Bool×Aa)=>
 k6 (y9.1,y9.2)) λk10=>
 cond (a0.Kind==3)
 (aA (λ(y11:Bool)=>
 k10 (y11,(⟨a0.Kind,a0.Id,a0.Cn,a0.Sn,a0.Tick,a0.Cookie,a0.Proof,0,0,[],[]⟩:Aa))) λk12=>
 cond ((eA a0.Id 1 9))
 (cond ((nA a0.Cn))
 (cond ((nA a0.Sn))
 (cond ((eA a0.Tick 0 1000000))
 (cond ((a0.Cookie.length:Int)==16)
 (k12 ((a0.Proof.length:Int)==16))
 (k12 false))
 (k12 false))
 (k12 false))
 (k12 false))
 (k12 false))
 (aA (λ(y13:Bool×Aa)=>
 k10 (y13.1,y13.2)) λk14=>
 cond ((jC a0.Kind))
 (aA (λ(y15:Bool)=>
 k14 (y15,(⟨a0.Kind,0,[],a0.Sn,0,[],[],a0.Epoch,a0.Seq,a0.Body,a0.Tag⟩:Aa))) λk16=>
 cond ((nA a0.Sn))
 (cond ((eA a0.Epoch 0 4294967295))
 (cond ((eA a0.Seq 0 281474976710655))
 (cond ((a0.Tag.length:Int)==16)
 (let r17:Bool:=gG a0.Kind (a0.Body.length:Int)
 k16 r17)
 (k16 false))
 (k16 false))
 (k16 false))
 (k16 false))
 (k14 (false,(⟨a0.Kind,0,[],[],0,[],[],0,0,[],[]⟩:Aa))))))
def Mc(a0:Ae):=
 aA (λy1=>
 cond (y1)
 (some false)
 (aA (λ(y5:Bool)=>
 some y5) λk6=>
 ob (uC a0.C) λr7=>
 cond (r7)
 (cond (a0.C.Role==0)
 (ob (DB a0.C.Sn a0.Fin.Sn) λr8=>
 cond (r8)
 (cond (a0.C.Cur.N==0)
 (cond (!a0.C.HasOld)
 (k6 ((a0.C.Next.length:Int)==0))
 (k6 false))
 (k6 false))
 (k6 false))
 (k6 false))
 (k6 false))) λk2=>
 cond (!(nA a0.Cn))
 (k2 true)
 (cond (a0.Fin.Kind !=3)
 (k2 true)
 (ob (VC a0.Fin) λr3=>
 cond (!r3)
 (k2 true)
 (cond (a0.Fin.Id !=a0.Id)
 (k2 true)
 (ob (DB a0.Fin.Cn a0.Cn) λr4=>
 k2 (!r4)))))
def Md(a0:Ae):=
 aA (λy1=>
 cond (y1)
 (some false)
 (ob (RN a0.Fin (⟨0,0,[],[],0,[],[],0,0,[],[]⟩:Aa)) λr3=>
 let x4:Bool:=cond (a0.T.On==false) (cond (a0.T.Due==0) (cond (a0.T.Wait==0) (cond (a0.T.Tries==0) (true) false) false) false) false
 cond (a0.St==0)
 (aA (λ(y5:Bool)=>
 some y5) λk6=>
 cond ((a0.Cn.length:Int)==0)
 (cond (r3)
 (ob (CO a0.C) λr7=>
 cond (r7)
 (cond (x4)
 (let x8:Bool:=cond (a0.R.On==false) (cond (a0.R.Due==0) (cond (a0.R.Wait==0) (cond (a0.R.Tries==0) (true) false) false) false) false
 cond (x8)
 (k6 (a0.Last==0))
 (k6 false))
 (k6 false))
 (k6 false))
 (k6 false))
 (k6 false))
 (cond (a0.St==1)
 (aA (λ(y9:Bool)=>
 some y9) λk10=>
 cond ((nA a0.Cn))
 (cond (r3)
 (ob (CO a0.C) λr11=>
 cond (r11)
 (cond (a0.T.On)
 (cond ((uD a0.T))
 (let x12:Bool:=cond (a0.R.On==false) (cond (a0.R.Due==0) (cond (a0.R.Wait==0) (cond (a0.R.Tries==0) (true) false) false) false) false
 cond (x12)
 (k10 (a0.Last==0))
 (k10 false))
 (k10 false))
 (k10 false))
 (k10 false))
 (k10 false))
 (k10 false))
 (cond (a0.St==2)
 (aA (λ(y13:Bool)=>
 some y13) λk14=>
 ob (zcu a0) λr15=>
 cond (r15)
 (cond (a0.T.On)
 (cond ((uD a0.T))
 (let x16:Bool:=cond (a0.R.On==false) (cond (a0.R.Due==0) (cond (a0.R.Wait==0) (cond (a0.R.Tries==0) (true) false) false) false) false
 cond (x16)
 (k14 (a0.Last==0))
 (k14 false))
 (k14 false))
 (k14 false))
 (k14 false))
 (cond (a0.St==3)
 (aA (λ(y17:Bool)=>
 some y17) λk18=>
 cond ((nA a0.Cn))
 (cond (r3)
 (ob (uC a0.C) λr19=>
 cond (r19)
 (cond (a0.C.Role==0)
 (cond (x4)
 (cond ((uD a0.R))
 (cond (a0.R.On==(decide ((a0.C.Next.length:Int)>0)))
 (k18 (eA a0.Last 0 1000000))
 (k18 false))
 (k18 false))
 (k18 false))
 (k18 false))
 (k18 false))
 (k18 false))
 (k18 false))
 (some false)))))) λk2=>
 cond (!(eA a0.Id 1 9))
 (k2 true)
 (cond (!(GC a0.Psk))
 (k2 true)
 (k2 (!(GA a0.At))))
def Rr(a0:Au):=
 aA (λ(y1:Bool)=>
 some y1) λk2=>
 let r3:Bool:=eA (a0.Seed.length:Int) 1 32
 cond (r3)
 (k2 (eA a0.N 0 10000))
 (k2 false)
def Rs(a0:Ba):=
 some ((a0.Secret.length:Int)==32)
def Rt(a0:Ao):=
 aA (λ(y1:Int)=>
 some y1) λk2=>
 uA FU (λ(x3:Int×Int) k4=>
 cond (decide (x3.2<(a0.L.length:Int)))
 (ob (lA a0.L x3.2) λe5=>
 aA (λ(y6:Int)=>
 k4 (y6,(iA .i64 x3.2 1))) λk7=>
 cond (!e5.Dead)
 (k7 (iA .i64 x3.1 1))
 (k7 x3.1))
 (k2 x3.1)) (0,0)
def Me(a0:Ak):=
 aA (λ(y1:Bool)=>
 some y1) λk2=>
 cond (a0.Role==0)
 (cond ((a0.Sn.length:Int)==0)
 (cond ((aG a0.Cur))
 (cond ((aG a0.Old))
 (cond (!a0.HasOld)
 (cond (a0.Until==0)
 (k2 ((a0.Next.length:Int)==0))
 (k2 false))
 (k2 false))
 (k2 false))
 (k2 false))
 (k2 false))
 (k2 false)
def Mf(a0:Aj):=
 aA (λy1=>
 cond (y1)
 (some false)
 (aA (λ(y3:Unit)=>
 some true) λk4=>
 uA FU (λ(x5:Int) k6=>
 cond (decide (x5<(a0.Cands.length:Int)))
 (ob (lA a0.Cands x5) λe7=>
 aA (λy8=>
 cond (y8)
 (some false)
 (aA (λ(y11:Unit)=>
 k6 (iA .i64 x5 1)) λk12=>
 uA FU (λ(x13:Int) k14=>
 cond (decide (x13<x5))
 (ob (lA a0.Cands x13) λe15=>
 let x16:Bool:=cond (e15.A.Host==e7.A.Host) (cond (e15.A.Port==e7.A.Port) (true) false) false
 cond (x16)
 (some false)
 (k14 (iA .i64 x13 1)))
 (k12 ())) 0)) λk9=>
 cond (!(GA e7.A))
 (k9 true)
 (cond ((e7.Draw.length:Int) !=12)
 (k9 true)
 (cond (!(eA e7.Until 0 1000006))
 (k9 true)
 (let x10:Bool:=cond (e7.A.Host==a0.At.Host) (cond (e7.A.Port==a0.At.Port) (true) false) false
 k9 x10))))
 (k4 ())) 0)) λk2=>
 cond (!(GA a0.At))
 (k2 true)
 (k2 (decide ((a0.Cands.length:Int)>3)))
def Mg(a0:Ah):=
 aA (λy1=>
 cond (y1)
 (some false)
 (cond (a0.Dead)
 (aA (λ(y3:Bool)=>
 some y3) λk4=>
 cond ((tC a0.C))
 (let r5:Ai:=zB (-1)
 let x6:Bool:=cond (a0.P.At.Host==r5.Host) (cond (a0.P.At.Port==r5.Port) (true) false) false
 cond (x6)
 (cond ((a0.P.Cands.length:Int)==0)
 (k4 (a0.Last==0))
 (k4 false))
 (k4 false))
 (k4 false))
 (aA (λ(y7:Bool)=>
 some y7) λk8=>
 ob (uC a0.C) λr9=>
 cond (r9)
 (cond (a0.C.Role==1)
 (ob (DB a0.C.Sn a0.Sn) λr10=>
 cond (r10)
 (k8 (sC a0.P))
 (k8 false))
 (k8 false))
 (k8 false)))) λk2=>
 cond (!(eA a0.Id 1 9))
 (k2 true)
 (cond ((a0.Cn.length:Int) !=12)
 (k2 true)
 (cond ((a0.Sn.length:Int) !=12)
 (k2 true)
 (cond (!(eA a0.Tick 0 1000000))
 (k2 true)
 (k2 (!(eA a0.Last 0 1000000))))))
def Ru(a0:Ao)(a1:List UInt8):=
 aA (λ(y1:Unit)=>
 some (-1)) λk2=>
 uA FU (λ(x3:Int) k4=>
 cond (decide (x3<(a0.L.length:Int)))
 (ob (lA a0.L x3) λe5=>
 ob (DB e5.Sn a1) λr6=>
 cond (r6)
 (some x3)
 (k4 (iA .i64 x3 1)))
 (k2 ())) 0
def Mh(a0:Ao):=
 aA (λy1=>
 cond (y1)
 (some false)
 (aA (λ(y4:Unit)=>
 some true) λk5=>
 uA FU (λ(x6:Int) k7=>
 cond (decide (x6<(a0.L.length:Int)))
 (aA (λy8=>
 cond (y8)
 (some false)
 (k7 (iA .i64 x6 1))) λk9=>
 ob (lA a0.L x6) λe10=>
 ob (ID e10) λr11=>
 cond (!r11)
 (k9 true)
 (ob (lA a0.L x6) λe12=>
 ob (KD a0 e12.Sn) λr13=>
 k9 (r13 !=x6)))
 (k5 ())) 0)) λk2=>
 cond (!(eA a0.Cap 1 6))
 (k2 true)
 (cond (decide ((a0.L.length:Int)>12))
 (k2 true)
 (ob (rJ a0) λr3=>
 k2 (decide (r3>a0.Cap))))
def Mi(a0:List Al):=
 cond (decide ((a0.length:Int)>8))
 (some false)
 (aA (λ(y1:Unit)=>
 some true) λk2=>
 uA FU (λ(x3:Int) k4=>
 cond (decide (x3<(a0.length:Int)))
 (aA (λy5=>
 cond (y5)
 (some false)
 (aA (λ(y12:Unit)=>
 k4 (iA .i64 x3 1)) λk13=>
 uA FU (λ(x14:Int) k15=>
 cond (decide (x14<x3))
 (ob (lA a0 x14) λe16=>
 ob (lA a0 x3) λe17=>
 let x18:Bool:=cond (e16.A.Host==e17.A.Host) (cond (e16.A.Port==e17.A.Port) (true) false) false
 cond (x18)
 (some false)
 (k15 (iA .i64 x14 1)))
 (k13 ())) 0)) λk6=>
 ob (lA a0 x3) λe7=>
 cond (!(GA e7.A))
 (k6 true)
 (ob (lA a0 x3) λe8=>
 cond (!(eA e8.Got 0 1000000))
 (k6 true)
 (ob (lA a0 x3) λe9=>
 ob (lA a0 x3) λe10=>
 let r11:Bool:=eA e9.Sent 0 (ZB .i64 3 e10.Got)
 k6 (!r11))))
 (k2 ())) 0)
def Rv(a0:List UInt8):=
 some (eA (a0.length:Int) 1 32)
def Rw(a0:Ac):=
 aA (λy1=>
 cond (y1)
 (some false)
 (aA (λ(y4:Unit)=>
 aA (λ(y9:Unit)=>
 some true) λk10=>
 uA FU (λ(x11:Int) k12=>
 cond (decide (x11<(a0.T.L.length:Int)))
 (ob (lA a0.T.L x11) λe13=>
 cond (decide (e13.Id>(a0.Psks.length:Int)))
 (some false)
 (k12 (iA .i64 x11 1)))
 (k10 ())) 0) λk5=>
 uA FU (λ(x6:Int) k7=>
 cond (decide (x6<(a0.Psks.length:Int)))
 (ob (lA a0.Psks x6) λe8=>
 cond (!(GC e8))
 (some false)
 (k7 (iA .i64 x6 1)))
 (k5 ())) 0)) λk2=>
 cond (!(eA (a0.Psks.length:Int) 1 9))
 (k2 true)
 (cond (!(QE a0.J))
 (k2 true)
 (cond (!(gC a0.D))
 (k2 true)
 (ob (uG a0.T) λr3=>
 cond (!r3)
 (k2 true)
 (k2 (!(kD a0.Cr))))))
def Rx(a0:Ap):=
 aA (λ(y1:Bool)=>
 some y1) λk2=>
 cond ((GA a0.From))
 (cond ((GA a0.To))
 (k2 (decide ((a0.B.length:Int)≤200)))
 (k2 false))
 (k2 false)
def Ry(a0:List Ap):=
 aA (λ(y1:Unit)=>
 some (decide ((a0.length:Int)≤90))) λk2=>
 uA FU (λ(x3:Int) k4=>
 cond (decide (x3<(a0.length:Int)))
 (ob (lA a0 x3) λe5=>
 cond (!(OE e5))
 (some false)
 (k4 (iA .i64 x3 1)))
 (k2 ())) 0
def Mj(a0:Aw):=
 cond (!a0.On)
 (let x1:Bool:=cond (a0.On==false) (cond (a0.Due==0) (cond (a0.Wait==0) (cond (a0.Tries==0) (true) false) false) false) false
 some x1)
 (aA (λ(y2:Bool)=>
 some y2) λk3=>
 cond ((eA a0.Due 0 1000008))
 (cond (a0.Wait==1)
 (k3 (eA a0.Tries 1 5))
 (cond (a0.Wait==2)
 (k3 (eA a0.Tries 1 5))
 (cond (a0.Wait==4)
 (k3 (eA a0.Tries 1 5))
 (cond (a0.Wait==8)
 (k3 (eA a0.Tries 1 5))
 (k3 false)))))
 (k3 false))
def Mk(a0:Aa):=
 aA (λ(y1:Bool)=>
 some y1) λk2=>
 cond (a0.Kind==0)
 (cond (a0.Id==0)
 (cond ((a0.Cn.length:Int)==0)
 (cond ((a0.Sn.length:Int)==0)
 (cond (a0.Tick==0)
 (cond ((a0.Cookie.length:Int)==0)
 (cond ((a0.Proof.length:Int)==0)
 (cond (a0.Epoch==0)
 (cond (a0.Seq==0)
 (cond ((a0.Body.length:Int)==0)
 (k2 ((a0.Tag.length:Int)==0))
 (k2 false))
 (k2 false))
 (k2 false))
 (k2 false))
 (k2 false))
 (k2 false))
 (k2 false))
 (k2 false))
 (k2 false))
 (k2 false)
def Rz(a0:Int):=
 some (eA a0 4 8)
def Pr(a0:Int)(a1:Int):=
 cond (a0==4)
 (some (decide (a1≤40)))
 (aA (λy1=>
 cond (y1)
 (some (a1==12))
 (some (a1==4))) λk2=>
 cond (a0==5)
 (k2 true)
 (k2 (a0==6)))
def Ml(a0:Aa):=
 cond ((jC a0.Kind))
 (aA (λ(y1:Bool)=>
 some y1) λk2=>
 cond (a0.Id==0)
 (cond ((a0.Cn.length:Int)==0)
 (cond ((a0.Sn.length:Int)==12)
 (cond (a0.Tick==0)
 (cond ((a0.Cookie.length:Int)==0)
 (cond ((a0.Proof.length:Int)==0)
 (cond ((eA a0.Epoch 0 4294967295))
 (cond ((eA a0.Seq 0 281474976710655))
 (let r3:Bool:=gG a0.Kind (a0.Body.length:Int)
 cond (r3)
 (k2 ((a0.Tag.length:Int)==16))
 (k2 false))
 (k2 false))
 (k2 false))
 (k2 false))
 (k2 false))
 (k2 false))
 (k2 false))
 (k2 false))
 (k2 false))
 (aA (λy4=>
 cond (y4)
 (some false)
 (cond (a0.Kind==1)
 (aA (λ(y6:Bool)=>
 some y6) λk7=>
 cond ((eA a0.Id 1 9))
 (cond ((a0.Sn.length:Int)==0)
 (cond (a0.Tick==0)
 (cond ((a0.Cookie.length:Int)==0)
 (k7 ((a0.Proof.length:Int)==0))
 (k7 false))
 (k7 false))
 (k7 false))
 (k7 false))
 (cond (a0.Kind==2)
 (aA (λ(y8:Bool)=>
 some y8) λk9=>
 cond (a0.Id==0)
 (cond ((a0.Sn.length:Int)==12)
 (cond ((eA a0.Tick 0 1000000))
 (cond ((a0.Cookie.length:Int)==16)
 (k9 ((a0.Proof.length:Int)==0))
 (k9 false))
 (k9 false))
 (k9 false))
 (k9 false))
 (cond (a0.Kind==3)
 (aA (λ(y10:Bool)=>
 some y10) λk11=>
 cond ((eA a0.Id 1 9))
 (cond ((a0.Sn.length:Int)==12)
 (cond ((eA a0.Tick 0 1000000))
 (cond ((a0.Cookie.length:Int)==16)
 (k11 ((a0.Proof.length:Int)==16))
 (k11 false))
 (k11 false))
 (k11 false))
 (k11 false))
 (some false))))) λk5=>
 cond (a0.Epoch !=0)
 (k5 true)
 (cond (a0.Seq !=0)
 (k5 true)
 (cond ((a0.Body.length:Int) !=0)
 (k5 true)
 (cond ((a0.Tag.length:Int) !=0)
 (k5 true)
 (k5 ((a0.Cn.length:Int) !=12))))))
def Mm(a0:Ae):=
 aA (λy1=>
 cond (y1)
 (some false)
 (cond (a0.St==0)
 (aA (λ(y3:Bool)=>
 some y3) λk4=>
 cond ((a0.Cn.length:Int)==0)
 (cond ((LF a0.Fin))
 (cond ((tC a0.C))
 (cond (!a0.T.On)
 (cond (!a0.R.On)
 (k4 (a0.Last==0))
 (k4 false))
 (k4 false))
 (k4 false))
 (k4 false))
 (k4 false))
 (cond ((a0.Cn.length:Int) !=12)
 (some false)
 (cond (a0.St==3)
 (aA (λ(y5:Bool)=>
 some y5) λk6=>
 cond ((LF a0.Fin))
 (ob (uC a0.C) λr7=>
 cond (r7)
 (cond (a0.C.Role==0)
 (cond (!a0.T.On)
 (k6 (a0.R.On==(decide ((a0.C.Next.length:Int)>0))))
 (k6 false))
 (k6 false))
 (k6 false))
 (k6 false))
 (aA (λy8=>
 cond (y8)
 (some false)
 (cond (a0.St==1)
 (aA (λ(y10:Bool)=>
 some y10) λk11=>
 cond ((LF a0.Fin))
 (k11 (tC a0.C))
 (k11 false))
 (aA (λ(y12:Bool)=>
 some y12) λk13=>
 cond (a0.St==2)
 (cond ((wB a0.Fin))
 (cond (a0.Fin.Kind==3)
 (cond (a0.Fin.Id==a0.Id)
 (ob (DB a0.Fin.Cn a0.Cn) λr14=>
 cond (r14)
 (ob (uC a0.C) λr15=>
 cond (r15)
 (cond (a0.C.Role==0)
 (ob (DB a0.C.Sn a0.Fin.Sn) λr16=>
 cond (r16)
 (cond (a0.C.Cur.N==0)
 (cond (!a0.C.HasOld)
 (k13 ((a0.C.Next.length:Int)==0))
 (k13 false))
 (k13 false))
 (k13 false))
 (k13 false))
 (k13 false))
 (k13 false))
 (k13 false))
 (k13 false))
 (k13 false))
 (k13 false)))) λk9=>
 cond (!a0.T.On)
 (k9 true)
 (cond (a0.R.On)
 (k9 true)
 (k9 (a0.Last !=0)))))))) λk2=>
 cond (!(eA a0.Id 1 9))
 (k2 true)
 (cond (!(GC a0.Psk))
 (k2 true)
 (cond (!(GA a0.At))
 (k2 true)
 (cond (!(uD a0.T))
 (k2 true)
 (cond (!(uD a0.R))
 (k2 true)
 (k2 (!(eA a0.Last 0 1000000)))))))
def Mn(a0:Ab):=
 aA (λy1=>
 cond (y1)
 (some false)
 (aA (λ(y4:Unit)=>
 aA (λ(y16:Unit)=>
 aA (λ(y21:Unit)=>
 some true) λk22=>
 uA FU (λ(x23:Int) k24=>
 cond (decide (x23<(a0.Notes.length:Int)))
 (ob (lA a0.Notes x23) λe25=>
 cond (!(nC e25))
 (some false)
 (k24 (iA .i64 x23 1)))
 (k22 ())) 0) λk17=>
 uA FU (λ(x18:Int) k19=>
 cond (decide (x18<(a0.Known.length:Int)))
 (ob (lA a0.Known x18) λe20=>
 cond ((e20.length:Int) !=32)
 (some false)
 (k19 (iA .i64 x18 1)))
 (k17 ())) 0) λk5=>
 uA FU (λ(x6:Int) k7=>
 cond (decide (x6<2))
 (aA (λy8=>
 cond (y8)
 (some false)
 (k7 (iA .i64 x6 1))) λk9=>
 ob (lA a0.Clients x6) λe10=>
 ob (OD e10) λr11=>
 cond (!r11)
 (k9 true)
 (ob (lA a0.Clients x6) λe12=>
 cond (e12.Id !=(iA .i64 x6 1))
 (k9 true)
 (ob (lA a0.Clients x6) λe13=>
 ob (lA a0.S.Psks x6) λe14=>
 ob (DB e13.Psk e14) λr15=>
 k9 (!r15))))
 (k5 ())) 0)) λk2=>
 cond (!(eA a0.Now 0 1000000))
 (k2 true)
 (cond ((a0.Clients.length:Int) !=2)
 (k2 true)
 (ob (JC a0.S) λr3=>
 cond (!r3)
 (k2 true)
 (cond ((a0.S.Psks.length:Int) !=2)
 (k2 true)
 (cond (!(gC a0.D))
 (k2 true)
 (cond (!(RD a0.Seen))
 (k2 true)
 (k2 (decide ((a0.Known.length:Int)>12))))))))
def Sa(a0:Ap):=
 aA (λ(y1:Bool)=>
 some y1) λk2=>
 cond ((GA a0.From))
 (cond ((GA a0.To))
 (k2 (decide ((a0.B.length:Int)≤200)))
 (k2 false))
 (k2 false)
def Mo(a0:List Ap):=
 aA (λ(y1:Unit)=>
 some (decide ((a0.length:Int)≤90))) λk2=>
 uA FU (λ(x3:Int) k4=>
 cond (decide (x3<(a0.length:Int)))
 (ob (lA a0 x3) λe5=>
 cond (!(OE e5))
 (some false)
 (k4 (iA .i64 x3 1)))
 (k2 ())) 0
def Mp(a0:Ab):=
 aA (λy1=>
 cond (y1)
 (some false)
 (aA (λy4=>
 cond (y4)
 (some false)
 (aA (λ(y6:Unit)=>
 aA (λ(y16:Unit)=>
 aA (λ(y21:Unit)=>
 some true) λk22=>
 uA FU (λ(x23:Int) k24=>
 cond (decide (x23<(a0.Notes.length:Int)))
 (ob (lA a0.Notes x23) λe25=>
 cond (!(nC e25))
 (some false)
 (k24 (iA .i64 x23 1)))
 (k22 ())) 0) λk17=>
 uA FU (λ(x18:Int) k19=>
 cond (decide (x18<(a0.Known.length:Int)))
 (ob (lA a0.Known x18) λe20=>
 cond ((e20.length:Int) !=32)
 (some false)
 (k19 (iA .i64 x18 1)))
 (k17 ())) 0) λk7=>
 uA FU (λ(x8:Int) k9=>
 cond (decide (x8<(a0.Clients.length:Int)))
 (ob (lA a0.Clients x8) λe10=>
 aA (λy11=>
 cond (y11)
 (some false)
 (k9 (iA .i64 x8 1))) λk12=>
 ob (OD e10) λr13=>
 cond (!r13)
 (k12 true)
 (cond (e10.Id !=(iA .i64 x8 1))
 (k12 true)
 (ob (lA a0.S.Psks x8) λe14=>
 ob (DB e10.Psk e14) λr15=>
 k12 (!r15))))
 (k7 ())) 0)) λk5=>
 cond (!(gC a0.D))
 (k5 true)
 (cond (!(RD a0.Seen))
 (k5 true)
 (k5 (decide ((a0.Known.length:Int)>12)))))) λk2=>
 cond (!(eA a0.Now 0 1000000))
 (k2 true)
 (cond ((a0.Clients.length:Int) !=2)
 (k2 true)
 (ob (JC a0.S) λr3=>
 cond (!r3)
 (k2 true)
 (k2 ((a0.S.Psks.length:Int) !=2))))
end
end Go.D
namespace Go.D
end Go.D
namespace Go.D
open Option renaming bind→ob
def zbu.ok{x}(_:xA [.v .Addr] x):Re x=some (GA x):=zkd x
def zbR.ok{x}(_:xA [.v .Addr] x):Rd x=some (GA x):=zkd x
def zk8(i:Int):(cond (!(eA i 0 255)) (some (⟨0,0⟩:Ai)) (some (⟨iA .i64 167772160 i,iA .i64 7000 i⟩:Ai)))=some (zB i):=by
 cases h:eA i 0 255
 ·rw[zwi]at h;simp[zB,h]
 ·rw[fD]at h;simp only[Bool.not_true,cond_false,zB,h,and_self,if_true,iA];rw[WB (by omega) (by omega),WB (by omega) (by omega)]
def zcG.ok{x}(_:xA [.v .int] x):Rf x=some (zB x):=zk8 _
def zcM.ok{x}(_:xA [.v .int] x):Rh x=some (zB x):=zk8 _
def zc8.ok{x}(_:xA [] x):Rg=some AE:=rfl
def zdj.ok{x}(_:xA [] x):Ri=some AE:=rfl
def bK(a b:Ai):(cond (a.Host==b.Host) (cond (a.Port==b.Port) (true) false) false)=PB a b:=by
 simp only[PB,Bool.cond_false_right,Bool.and_true]
def zrV(w:Ab)(a:Ai)(h:wt w≤bA){f:Ae→Option Int}(hf:∀c,f c=some c.Id):cond (PB a AE) (some 0) (uA FU (λ(x5:Int) k6=>cond (decide (x5<(w.Clients.length:Int))) (ob (lA w.Clients x5) λe7=>cond (PB e7.At a) (f e7) (k6 (iA .i64 x5 1))) (some (-1))) 0)=some (HM w a):=by
 rw[JF]at h;rw[zky w.Clients (lE (by omega)) (λc=>PB c.At a) (λc=>some c.Id) (some (-1)) (λi k hi=>?_) (λk=>by simp only[WD,cond_false])]
 ·rw[HM];cases PB a AE
  ·cases w.Clients.find? _<;>rfl
  ·rfl
 ·simp only[zD hi,cond_true,JB hi,kB,hf]
def zo8(w:Ab)(a:Ai)(h:wt w≤bA):Ls w a=some (HM w a):=by
 simp only[Ls,aA,bK];exact zrV w a h (λ_=>rfl)
def OQ.ok{x}(_:xA [.v .World, .v .Addr] x){r}:bL x.1 x.2=some r→Ls x.1 x.2=some r:=TA λh=>zo8 x.1 x.2 h
def zpg(w:Ab)(a:Ai)(h:wt w≤bA):Lr w a=some (HM w a):=by
 rw[JF]at h;simp only[Lr,aA,bK];rw[zky w.Clients (lE (by omega)) (λc=>PB c.At a) (λc=>some c.Id) (some (-1)) (λi k hi=>?_) (λk=>by simp only[WD,cond_false])]
 ·rw[HM];cases PB a AE
  ·cases w.Clients.find? _<;>rfl
  ·rfl
 ·simp only[zD hi,cond_true,JB hi,kB]
def sQ.ok{x}(_:xA [.v .World, .v .Addr] x){r}:bL x.1 x.2=some r→Lr x.1 x.2=some r:=TA λh=>zpg x.1 x.2 h
def TU.ok{x}(_:xA [.v .int, .v .int] x):Po x.1 x.2=some (SD x.1 x.2):=by
 simp only[Po,aA,cD,Bool.cond_true_left];rfl
def xU.ok{x}(_:xA [.sl .byte, .v .int] x):Pp x.1 x.2=some (WC x.1 x.2):=by
 simp only[Pp,aA,cD,Bool.cond_true_left];rfl
def HR.ok{x}(_:xA [.v .Note] x):Lq x=some (nC x):=by
 show Lq (x:Ad)=some (nC (x:Ad))
 generalize (show Ad from x)=n;simp only[Lq,aA,cD,Bool.cond_false_right,nC]
 grind
def DR.ok{x}(_:xA [.v .Note] x):Lp x=some (nC x):=by
 show Lp (x:Ad)=some (nC (x:Ad))
 generalize (show Ad from x)=n;simp only[Lp,aA,cD,Bool.cond_false_right,nC,WC]
 grind
def zcg.ok{x}(_:xA [.v .Jar] x):Rl x=some (QE x):=rfl
def zci.ok{x}(_:xA [.v .Jar] x):Rs x=some (QE x):=rfl
def zjZ(d:Au):(aA (λ(y1:Bool)=>some y1) λk2=>cond (eA (d.Seed.length:Int) 1 32) (k2 (eA d.N 0 10000)) (k2 false))=some (gC d):=by
 simp only[aA,cD,Bool.cond_false_right,gC]
def zbB.ok{x}(_:xA [.v .Dice] x):Rj x=some (gC x):=zjZ x
def zbG.ok{x}(_:xA [.v .Dice] x):Rr x=some (gC x):=zjZ x
def zlB(t:Ao)(h:wt t≤bA):(aA (λ(y1:Int)=>some y1) λk2=>uA FU (λ(x3:Int×Int) k4=>cond (decide (x3.2<(t.L.length:Int))) (ob (lA t.L x3.2) λe5=>
  aA (λ(y6:Int)=>k4 (y6,(iA .i64 x3.2 1))) λk7=>cond (!e5.Dead) (k7 (iA .i64 x3.1 1)) (k7 x3.1)) (k2 x3.1)) (0,0))=some (live t):=by
 rw[iJ]at h;simp only[aA];rw[ztn t.L (lE h) (λs e=>bif e.Dead then s else iA .i64 s 1) (λs=>some s) (λi s k hi=>?_) (λs k=>by simp only[WD,cond_false])]
 ·rfl
 ·simp only[zD hi,cond_true,JB hi,kB];cases t.L[i].Dead<;>rfl
def zcR.ok{x}(_:xA [.v .Tab] x){r}:rJ x=some r→Rm x=some r:=TA λh=>zlB x h
def zcD.ok{x}(_:xA [.v .Tab] x){r}:rJ x=some r→Rt x=some r:=TA λh=>zlB x h
def FP.ok{x}(_:xA [.v .Chan] x):Me x=some (tC x):=by
 show Me (x:Ak)=some (tC (x:Ak))
 generalize (show Ak from x)=c;simp only[Me,aA,cD,Bool.cond_false_right,tC]
 grind
def zoo(c:Ak)(h:wt c≤bA):Lt c=some (tC c):=by
 rw[JH]at h
 simp only[Lt,aA,DO,UA (p:=wt c.Old≤bA∧wt (⟨0,[],0,(⟨0,[]⟩:Aq)⟩:Ax)≤bA) ⟨by omega,zgY⟩,
  UA (p:=wt c.Cur≤bA∧wt (⟨0,[],0,(⟨0,[]⟩:Aq)⟩:Ax)≤bA) ⟨by omega,zgY⟩,zlg,cD,Bool.cond_false_right,tC]
 grind
def AP.ok{x}(_:xA [.v .Chan] x){r}:CO x=some r→Lt x=some r:=TA λh=>zoo x h
def nK(a b:Int):decide (a>b)= !decide (a≤b):=by
 by_cases h:a≤b
 ·rw[decide_eq_true h,decide_eq_false (by omega)];rfl
 ·rw[decide_eq_false h,decide_eq_true (by omega)];rfl
def yQ.ok{x}(_:xA [.v .Paths] x):Mf x=some (sC x):=by
 show Mf (x:Aj)=some (sC (x:Aj))
 generalize (show Aj from x)=p;simp only[Mf,aA,bK,sC,nK (p.Cands.length:Int) 3];cases GA p.At
 ·rfl
 cases hd:decide ((p.Cands.length:Int)≤3)
 ·rfl
 have hd:=of_decide_eq_true hd;have hl:p.Cands.length≤maxLen:=by rw[yD];omega
 simp only[Bool.not_true,cond_false];rw[YI p.Cands.length hl (AO p) (some false) (some true) (λi k hi=>?_) (λk=>by simp only[WD,cond_false])]
 ·cases HB _ _<;>rfl
 ·simp only[zD hi,cond_true,JB hi,kB];rw[YI i (by omega) (λj=>(p.Cands[j]?).any λd=>PB d.A p.Cands[i].A) (some false) (k (iA .i64 (i:Int) 1)) (λj k' hj=>?_) (λk'=>by simp only[WD,cond_false])]
  ·simp only[AO,PF hi,nA];cases GA p.Cands[i].A<;>cases hn:((p.Cands[i].Draw.length:Int)==12)<;>cases eA p.Cands[i].Until 0 1000006<;>cases PB p.Cands[i].A p.At<;>cases HB i _<;>simp[bne,hn]
  ·simp only[zD hj,cond_true,JB (Nat.lt_trans hj hi),kB,PF (Nat.lt_trans hj hi)]
def MQ.ok{x}(_:xA [.v .Paths] x):Lu x=some (sC x):=by
 show Lu (x:Aj)=some (sC (x:Aj))
 generalize (show Aj from x)=p;simp only[Lu,aA,bK,sC,nK (p.Cands.length:Int) 3];cases GA p.At
 ·rfl
 cases hd:decide ((p.Cands.length:Int)≤3)
 ·rfl
 have hd:=of_decide_eq_true hd;have hl:p.Cands.length≤maxLen:=by rw[yD];omega
 simp only[Bool.not_true,cond_false];rw[YI p.Cands.length hl (AO p) (some false) (some true) (λi k hi=>?_) (λk=>by simp only[WD,cond_false])]
 ·cases HB _ _<;>rfl
 ·have LV:(p.Cands.take i).length=i:=by rw[List.length_take];omega
  simp only[zD hi,cond_true,JB hi,kB,zw7 (Nat.le_of_lt hi),zxd];rw[YI i (by omega) (λj=>(p.Cands[j]?).any λd=>PB d.A p.Cands[i].A) (some false) (k (iA .i64 (i:Int) 1)) (λj k' hj=>?_) (λk'=>by rw[LV];simp only[WD,cond_false])]
  ·simp only[AO,PF hi];cases GA p.Cands[i].A<;>cases nA p.Cands[i].Draw<;>cases eA p.Cands[i].Until 0 1000006<;>cases PB p.Cands[i].A p.At<;>cases HB i _<;>rfl
  ·have XW:j<(p.Cands.take i).length:=by omega
   simp only[zD XW,cond_true,JB XW,kB,PF (Nat.lt_trans hj hi),List.getElem_take]
def zpI(s:Ah)(h:wt s≤bA):Mg s=some (vC s):=by
 rw[lL]at h;have hc:=JH s.C;have hn:zB (-1)=⟨0,0⟩:=rfl;have h0:s.Last=0→eA s.Last 0 1000000=true:=λh=>by rw[h];rfl
 simp only[Mg,aA,bK];simp only[hn,uC,UA (p:=wt s.C≤bA) (by omega),PI (a:=s.C.Sn) (b:=s.Sn) (by omega) (by omega),vC,nA];cases s.Dead<;>simp only[cD,Bool.cond_false_right,cond_true,cond_false]<;>grind
def xR.ok{x}(_:xA [.v .Sess] x){r}:ID x=some r→Mg x=some r:=TA λh=>zpI x h
def zpQ(s:Ah)(h:wt s≤bA):Lv s=some (vC s):=by
 rw[lL]at h;have hc:=JH s.C;have hn:(cond (s.P.At.Host==0) (cond (s.P.At.Port==0) (true) false) false)=PB s.P.At ⟨0,0⟩:=bK s.P.At ⟨0,0⟩;simp only[Lv,aA,hn,uC,CO,UA (p:=wt s.C≤bA) (by omega),PI (a:=s.C.Sn) (b:=s.Sn) (by omega) (by omega),vC];cases s.Dead<;>simp only[cD,Bool.cond_false_right,cond_true,cond_false]<;>grind
def IR.ok{x}(_:xA [.v .Sess] x){r}:ID x=some r→Lv x=some r:=TA λh=>zpQ x h
def zke(t:Ao)(b:List UInt8)(h:wt t≤bA∧wt b≤bA):(aA (λ(y1:Unit)=>some (-1)) λk2=>uA FU (λ(x3:Int) k4=>cond (decide (x3<(t.L.length:Int))) (ob (lA t.L x3) λe5=>
  ob (DB e5.Sn b) λr6=>cond (r6) (some x3) (k4 (iA .i64 x3 1))) (k2 ())) 0)=some (PE t b):=by
 rw[iJ]at h;simp only[aA];rw[zfN t.L.length (lE h.1) (yG t b) (λi k hi=>?_) (λk=>by simp only[WD,cond_false])]
 ·rfl
 ·have:=yE hi;have hs:=lL t.L[i];simp only[zD hi,cond_true,JB hi,kB,yG,PF hi,PI (a:=t.L[i].Sn) (b:=b) (by omega) h.2]
def zbU.ok{x}(_:xA [.v .Tab, .sl .byte] x){r}:KD x.1 x.2=some r→Rn x.1 x.2=some r:=TA λh=>zke x.1 x.2 h
def zbD.ok{x}(_:xA [.v .Tab, .sl .byte] x){r}:KD x.1 x.2=some r→Ru x.1 x.2=some r:=TA λh=>zke x.1 x.2 h
def zkj{t:Ao}{i:Nat}(hi:i<t.L.length):yG t t.L[i].Sn i=true:=by simp[yG,hi]
def zl9{t:Ao}(h:wt t≤bA){i:Nat}(hi:i<t.L.length):wt t.L[i]≤bA∧wt t.L[i].Sn≤bA:=by
 rw[iJ]at h;have:=yE hi;have hs:=lL t.L[i];omega
def zqc(t:Ao)(h:wt t≤bA):Mh t=some (TC t):=by
 have hl:=lE (iJ t▸h);simp only[Mh,aA,TC,rJ,UA h,nK (t.L.length:Int) 12,nK (live t) t.Cap]
 have key:uA FU (λ(x5:Int) k6=>cond (decide (x5<(t.L.length:Int))) (ob (lA t.L x5) λe9=>ob (ID e9) λr10=>cond (!r10) (cond true (some false) (k6 (iA .i64 x5 1))) (ob (lA t.L x5) λe11=>
   ob (KD t e11.Sn) λr12=>cond (r12 !=x5) (some false) (k6 (iA .i64 x5 1)))) (some true)) 0=some (!(HB t.L.length (iL t))):=by
  rw[YI t.L.length hl (iL t) (some false) (some true) (λi k hi=>?_) (λk=>by simp only[WD,cond_false])]
  ·cases HB _ _<;>rfl
  ·have hw:=zl9 h hi;simp only[zD hi,cond_true,JB hi,kB,ID,UA hw.1,KD,UA (p:=wt t≤bA∧wt t.L[i].Sn≤bA) ⟨h,hw.2⟩,PE,(zgh hi (zkj hi)).2,iL,PF hi];cases vC t.L[i]<;>cases HB i _<;>rfl
 rw[key];cases eA t.Cap 1 6<;>cases decide ((t.L.length:Int)≤12)<;>cases decide (live t≤t.Cap)<;>rfl
def TR.ok{x}(_:xA [.v .Tab] x){r}:uG x=some r→Mh x=some r:=TA λh=>zqc x h
def zqj(t:Ao)(h:wt t≤bA):Lw t=some (TC t):=by
 have hl:=lE (iJ t▸h);simp only[Lw,aA,TC,rJ,UA h,nK (t.L.length:Int) 12,nK (live t) t.Cap]
 have key:uA FU (λ(x5:Int) k6=>cond (decide (x5<(t.L.length:Int))) (ob (lA t.L x5) λe9=>ob (ID e9) λr10=>cond (!r10) (cond true (some false) (k6 (iA .i64 x5 1)))
   (ob (KD t e9.Sn) λr12=>cond (decide (r12<x5)) (some false) (k6 (iA .i64 x5 1)))) (some true)) 0=some (!(HB t.L.length (iL t))):=by
  rw[YI t.L.length hl (iL t) (some false) (some true) (λi k hi=>?_) (λk=>by simp only[WD,cond_false])]
  ·cases HB _ _<;>rfl
  ·have hw:=zl9 h hi;simp only[zD hi,cond_true,JB hi,kB,ID,UA hw.1,KD,UA (p:=wt t≤bA∧wt t.L[i].Sn≤bA) ⟨h,hw.2⟩,PE,(zgh hi (zkj hi)).1,iL,PF hi];cases vC t.L[i]<;>cases HB i _<;>rfl
 rw[key];cases eA t.Cap 1 6<;>cases decide ((t.L.length:Int)≤12)<;>cases decide (live t≤t.Cap)<;>rfl
def SR.ok{x}(_:xA [.v .Tab] x){r}:uG x=some r→Lw x=some r:=TA λh=>zqj x h
end Go.D
namespace Go.D
def zlF(l:List Al)(a:Ai)(hl:l.length≤maxLen):(aA (λ(y1:Unit)=>some (-1)) λk2=>uA FU (λ(x3:Int) k4=>cond (decide (x3<(l.length:Int))) (Option.bind (lA l x3) λe5=>
  cond (cond (e5.A.Host==a.Host) (cond (e5.A.Port==a.Port) (true) false) false) (some x3) (k4 (iA .i64 x3 1))) (k2 ())) 0)=some (nB l a):=by
 simp only[aA,bK];rw[zfN l.length hl (TG l a) (λi k hi=>?_) (λk=>by simp only[WD,cond_false])]
 ·rfl
 ·simp only[zD hi,cond_true,JB hi,kB,TG,PF hi]
def za4.ok{x}(hb:xA [.sl .Credit, .v .Addr] x):Ro x.1 x.2=some (nB x.1 x.2):=zlF x.1 x.2 hb.1.1
def zsE(a:Ai):PB a a=true:=by simp[PB]
def ztJ{l:List Al}{i:Nat}(hi:i<l.length):TG l l[i].A i=true:=by simp[TG,hi,zsE]
def zw1{l:List Al}{i:Nat}(hi:i<l.length):decide (nB l l[i].A<(i:Int))=HB i (TG l l[i].A):=(zgh (p:=TG l l[i].A) hi (ztJ hi)).1
def JP.ok{x}(hb:xA [.sl .Credit] x):Lx x=some (kD x):=by
 show Lx (x:List Al)=some (kD (x:List Al))
 have hl:(show List Al from x).length≤maxLen:=hb.1;generalize (show List Al from x)=l at hl⊢;simp only[Lx,aA,kD,nK (l.length:Int) 8];rw[YI l.length hl (fS l) (some false) (some true) (λi k hi=>?_) (λk=>by simp only[WD,cond_false])]
 ·cases decide ((l.length:Int)≤8)<;>cases HB _ _<;>rfl
 ·simp only[zD hi,cond_true,JB hi,kB,zw1 hi,fS,PF hi];cases GA l[i].A<;>cases eA l[i].Got 0 1000000<;>cases eA l[i].Sent 0 _<;>cases HB i _<;>rfl
def SP.ok{x}(hb:xA [.sl .Credit] x):Mi x=some (kD x):=by
 show Mi (x:List Al)=some (kD (x:List Al))
 have hl:(show List Al from x).length≤maxLen:=hb.1;generalize (show List Al from x)=l at hl⊢;simp only[Mi,aA,kD,nK (l.length:Int) 8,bK];rw[YI l.length hl (fS l) (some false) (some true) (λi k hi=>?_) (λk=>by simp only[WD,cond_false])]
 ·cases decide ((l.length:Int)≤8)<;>cases HB _ _<;>rfl
 ·simp only[zD hi,cond_true,JB hi,kB];rw[YI i (by omega) (TG l l[i].A) (some false) (k (iA .i64 (i:Int) 1)) (λj k' hj=>?_) (λk'=>by simp only[WD,cond_false])]
  ·simp only[fS,PF hi];cases GA l[i].A<;>cases eA l[i].Got 0 1000000<;>cases eA l[i].Sent 0 _<;>cases HB i _<;>rfl
  ·simp only[zD hj,cond_true,JB (Nat.lt_trans hj hi),JB hi,kB,TG,PF (Nat.lt_trans hj hi)]
def zcq.ok{x}(_:xA [.sl .byte] x):Rp x=some (GC x):=rfl
def zce.ok{x}(_:xA [.sl .byte] x):Rv x=some (GC x):=rfl
def zjm(s:Ac)(h:wt s≤bA):Ly s=some (MB s):=by
 rw[rM]at h;have hT:=iJ s.T;simp only[Ly,aA,uG,UA (p:=wt s.T≤bA) (by omega),MB];rw[pS s.Psks (lE (by omega)) (λb=>!GC b) (some false) _ (λi k hi=>?_) (λk=>by simp only[WD,cond_false];rfl)]
 ·rw[pS s.T.L (lE (by omega)) (λe=>decide (e.Id>(s.Psks.length:Int))) (some false) (some true) (λi k hi=>?_) (λk=>by simp only[WD,cond_false])]
  ·cases eA (s.Psks.length:Int) 1 9<;>cases QE s.J<;>cases gC s.D<;>cases TC s.T<;>cases kD s.Cr<;>cases s.Psks.any _<;>cases s.T.L.any _<;>rfl
  ·simp only[zD hi,cond_true,JB hi,kB]
 ·simp only[zD hi,cond_true,JB hi,kB]
def UP.ok{x}(_:xA [.v .Server] x){r}:JC x=some r→Ly x=some r:=TA λh=>zjm x h
def za5.ok{x}(_:xA [.v .Server] x){r}:JC x=some r→Rw x=some r:=TA λh=>zjm x h
def zj8(w:Ap):(aA (λ(y1:Bool)=>some y1) λk2=>cond ((GA w.From)) (cond ((GA w.To)) (k2 (decide ((w.B.length:Int)≤200))) (k2 false)) (k2 false))=some (OE w):=by
 simp only[aA,cD,Bool.cond_false_right,OE,Bool.and_assoc]
def zbO.ok{x}(_:xA [.v .Wire] x):Sa x=some (OE x):=zj8 x
def zbK.ok{x}(_:xA [.v .Wire] x):Rx x=some (OE x):=zj8 x
def zju(l:List Ap)(hl:l.length≤maxLen):Mo l=some (RD l):=by
 simp only[Mo,aA,RD];rw[pS l hl (λw=>!OE w) (some false) _ (λi k hi=>?_) (λk=>by simp only[WD,cond_false];rfl)]
 ·cases l.any _<;>rfl
 ·simp only[zD hi,cond_true,JB hi,kB]
def wQ.ok{x}(hb:xA [.sl .Wire] x):Mo x=some (RD x):=zju x hb.1
def zbd.ok{x}(hb:xA [.sl .Wire] x):Ry x=some (RD x):=zju x hb.1
def zor(f g:Aa)(h:wt f≤bA∧wt g≤bA):Lz f g=some (YJ f g):=by
 simp only[IH]at h;simp(disch:=omega) only[Lz,aA,PI];simp only[cD,Bool.cond_false_right,YJ,Bool.and_assoc]
def HP.ok{x}(_:xA [.v .Frame, .v .Frame] x){r}:RN x.1 x.2=some r→Lz x.1 x.2=some r:=TA λh=>zor x.1 x.2 h
def zfx(t:Aw):(cond (t.On==false) (cond (t.Due==0) (cond (t.Wait==0) (cond (t.Tries==0) (true) false) false) false) false)=KF t:=by
 simp only[Bool.cond_false_right,KF,Bool.and_true,Bool.and_assoc]
def rQ.ok{x}(_:xA [.v .Timer] x):Ma x=some (uD x):=by
 show Ma (x:Aw)=some (uD (x:Aw))
 generalize (show Aw from x)=t;simp only[Ma,zfx,aA,uD];cases t.On
 ·rfl
 ·simp only[Bool.not_true,cond_false,cond_true,cD];cases eA t.Due 0 1000008<;>cases eA t.Tries 1 5<;>grind
def VQ.ok{x}(_:xA [.v .Timer] x):Mj x=some (uD x):=by
 show Mj (x:Aw)=some (uD (x:Aw))
 generalize (show Aw from x)=t;simp only[Mj,zfx,aA,uD];cases t.On
 ·rfl
 ·simp only[Bool.not_true,cond_false,cond_true,cD];cases eA t.Due 0 1000008<;>cases eA t.Tries 1 5<;>grind
def zP.ok{x}(_:xA [.v .Frame] x):Mk x=some (LF x):=by
 show Mk (x:Aa)=some (LF (x:Aa))
 generalize (show Aa from x)=f;simp only[Mk,aA,cD,Bool.cond_false_right,LF,Bool.and_assoc]
def zbT.ok{x}(_:xA [.v .int] x):Rq x=some (jC x):=rfl
def zbP.ok{x}(_:xA [.v .int] x):Rz x=some (jC x):=rfl
def DU.ok{x}(_:xA [.v .int, .v .int] x):Pq x.1 x.2=some (gG x.1 x.2):=by
 simp only[Pq,aA,cD,gG];cases h5:x.1==(5:Int)<;>cases h4:x.1==(4:Int)<;>simp
def JU.ok{x}(_:xA [.v .int, .v .int] x):Pr x.1 x.2=some (gG x.1 x.2):=by
 simp only[Pr,aA,cD,gG];cases h5:x.1==(5:Int)<;>cases h4:x.1==(4:Int)<;>simp
def zgK(a b:Int):(a !=b)= !(a==b):=rfl
def gR.ok{x}(_:xA [.v .Frame] x):Ml x=some (wB x):=by
 show Ml (x:Aa)=some (wB (x:Aa))
 generalize (show Aa from x)=f;simp only[Ml,aA,cD,Bool.cond_false_right,Bool.cond_false_left,Bool.cond_true_left,Bool.cond_true_right,wB,zgK];cases jC f.Kind
 ·simp only[cond_false];cases f.Epoch==0<;>cases f.Seq==0<;>cases(f.Body.length:Int)==0<;>cases(f.Tag.length:Int)==0<;>cases(f.Cn.length:Int)==12<;>simp[Bool.and_assoc]
 ·simp only[cond_true,Bool.and_assoc]
def zfu{k:Int}(h:jC k=true):(k==1)=false∧(k==2)=false∧(k==3)=false:=by
 rw[jC,fD]at h;exact⟨beq_false_of_ne (by omega),beq_false_of_ne (by omega),beq_false_of_ne (by omega)⟩
def lV(l:List UInt8):(l==[])=((l.length:Int)==0):=by rw[znp];cases l<;>rfl
def zpn(f:Aa)(h:wt f≤bA):Mb f=some (wB f):=by
 have hs:∀g:Aa,wt g≤wt f→RN f g=some (YJ f g):=λg hg=>pA ⟨h,by omega⟩;have hw:=IH f;simp only[Mb,aA,cD,wB,nA];cases h1:f.Kind==1
 ·cases h2:f.Kind==2
  ·cases h3:f.Kind==3
   ·cases h4:jC f.Kind
    ·simp
    ·simp only[cond_true,cond_false];rw[hs _ (by simp only[IH,OG];omega)];simp only[YJ,beq_self_eq_true,lV,cD,Bool.cond_false_right];cases eA f.Epoch 0 4294967295<;>cases eA f.Seq 0 281474976710655<;>grind
   ·have h4 : jC f.Kind = false := by cases h4 : jC f.Kind; · rfl
                                      rw[(zfu h4).2.2]at h3;cases h3
    simp only[cond_true,cond_false,h4];rw[hs _ (by simp only[IH,OG];omega)];simp only[YJ,beq_self_eq_true,lV,cD,Bool.cond_false_right];cases eA f.Id 1 9<;>cases eA f.Tick 0 1000000<;>grind
  ·have h4 : jC f.Kind = false := by cases h4 : jC f.Kind; · rfl
                                     rw[(zfu h4).2.1]at h2;cases h2
   simp only[cond_true,cond_false,h4];rw[hs _ (by simp only[IH,OG];omega)];simp only[YJ,beq_self_eq_true,lV,cD,Bool.cond_false_right];cases eA f.Tick 0 1000000<;>grind
 ·have h4 : jC f.Kind = false := by cases h4 : jC f.Kind; · rfl
                                    rw[(zfu h4).1]at h1;cases h1
  simp only[cond_true,cond_false,h4];rw[hs _ (by simp only[IH,OG];omega)];simp only[YJ,beq_self_eq_true,lV,cD,Bool.cond_false_right];cases eA f.Id 1 9<;>grind
def IQ.ok{x}(_:xA [.v .Frame] x){r}:VC x=some r→Mb x=some r:=TA λh=>zpn x h
end Go.D
namespace Go.D
def zcE(c:Ae)(h:wt c≤bA):wt c.Psk≤bA∧wt c.Cn≤bA∧wt c.Fin≤bA∧wt c.C≤bA∧wt c.Fin.Cn≤bA∧wt c.Fin.Sn≤bA∧wt c.C.Sn≤bA∧wt c.C.Next≤bA∧wt c.C.Cur.Key≤bA:=by
 rw[uM]at h;have h1:=IH c.Fin;have h2:=JH c.C;have h3:=zL c.C.Cur;omega
def zoM(c:Ae)(h:wt c≤bA):Mc c=some (XI c):=by
 have hw:=zcE c h;simp only[Mc,aA,VC,uC,UA (p:=wt c.Fin≤bA) hw.2.2.1,UA (p:=wt c.C≤bA) hw.2.2.2.1,PI hw.2.2.2.2.1 hw.2.1,PI hw.2.2.2.2.2.2.1 hw.2.2.2.2.2.1];simp only[cD,Bool.cond_false_right,Bool.cond_false_left,Bool.cond_true_left,Bool.not_true,Bool.false_and,XI,zgK,Bool.not_or,Bool.not_not,Bool.and_assoc]
def bQ.ok{x}(_:xA [.v .Client] x){r}:zcu x=some r→Mc x=some r:=TA λh=>zoM x h
def zr3(f:Aa):YJ f (⟨0,0,[],[],0,[],[],0,0,[],[]⟩:Aa)=LF f:=by
 simp only[YJ,LF,lV]
 grind
def zxk{c:Ae}(h:wt c.Fin≤bA):RN c.Fin (⟨0,0,[],[],0,[],[],0,0,[],[]⟩:Aa)=some (LF c.Fin):=by
 rw[RN,pA ⟨h,Nat.zero_le _⟩,zr3]
def zoX(c:Ae)(h:wt c≤bA):Md c=some (sB c):=by
 have hw:=zcE c h;simp only[Md,aA,zfx,zxk hw.2.2.1,kB,uC,CO,zcu,UA (p:=wt c.C≤bA) hw.2.2.2.1,UA h];simp only[cD,Bool.cond_false_right,Bool.cond_false_left,Bool.cond_true_left,Bool.not_true,Bool.false_and,sB,Bool.not_or,Bool.not_not,Bool.and_assoc]
def WP.ok{x}(_:xA [.v .Client] x){r}:OD x=some r→Md x=some r:=TA λh=>zoX x h
def zkA{t:Aw}(h:t.On=false):uD t=KF t:=by rw[uD,h];rfl
def zlp{t:Aw}(h:t.On=true):KF t=false:=by rw[KF,h];rfl
def zo3(c:Ae)(h:wt c≤bA):Mm c=some (sB c):=by
 have hw:=zcE c h;have hL:c.Last=0→eA c.Last 0 1000000=true:=λh=>by rw[h];rfl
 have hT0:=zkA (t:=c.T);have hT1:=zlp (t:=c.T);have hR0:=zkA (t:=c.R);have hR1:=zlp (t:=c.R)
 simp only[Mm,aA,uC,UA (p:=wt c.C≤bA) hw.2.2.2.1,PI hw.2.2.2.2.1 hw.2.1,PI hw.2.2.2.2.2.2.1 hw.2.2.2.2.2.1,
  cD,Bool.cond_false_right,Bool.cond_false_left,Bool.cond_true_left,sB,XI,zgK,Bool.not_or,Bool.not_not,nA]
 refine congrArg some ?_;cases eA c.Id 1 9
 ·rfl
 cases GC c.Psk
 ·rfl
 cases GA c.At
 ·rfl
 simp only[Bool.true_and]
 by_cases s0:c.St=0
 ·simp only[s0,beq_self_eq_true,cond_true];cases hT:c.T.On<;>cases hR:c.R.On<;>simp_all<;>grind
 ·have e0:(c.St==0)=false:=beq_false_of_ne s0
  by_cases s3:c.St=3
  ·simp only[s3];cases hT:c.T.On<;>simp_all<;>grind
  ·have e3:(c.St==3)=false:=beq_false_of_ne s3;simp only[e0,e3,cond_false];cases hT:c.T.On
   ·simp
   ·cases hR:c.R.On
    ·by_cases s1:c.St=1
     ·simp_all;grind
     ·have e1:(c.St==1)=false:=beq_false_of_ne s1;simp only[e1,cond_false]
      by_cases s2:c.St=2
      ·simp_all;grind
      ·have e2:(c.St==2)=false:=beq_false_of_ne s2;simp[e2]
    ·simp_all
def cQ.ok{x}(_:xA [.v .Client] x){r}:OD x=some r→Mm x=some r:=TA λh=>zo3 x h
def zcV(w:Ab)(h:wt w≤bA):wt w.Clients≤bA∧wt w.S≤bA∧wt w.S.Psks≤bA∧wt w.S.T≤bA∧wt w.S.T.L≤bA∧wt w.Seen≤bA∧wt w.Known≤bA∧wt w.Notes≤bA:=by
 rw[JF]at h;have h1:=rM w.S;have h2:=iJ w.S.T;omega
def zkl(l:List (List UInt8))(hl:l.length≤maxLen)(z:Option Bool):uA FU (λ(x16:Int) k17=>cond (decide (x16<(l.length:Int))) (Option.bind (lA l x16) λe18=>cond ((e18.length:Int) !=32) (some false) (k17 (iA .i64 x16 1))) z) 0
  =bif l.any λb=>(b.length:Int) !=32 then some false else z:=by
 rw[pS l hl (λb=>(b.length:Int) !=32) (some false) z (λi k hi=>?_) (λk=>by simp only[WD,cond_false])];simp only[zD hi,cond_true,JB hi,kB]
def zjW(l:List Ad)(hl:l.length≤maxLen)(z:Option Bool):uA FU (λ(x16:Int) k17=>cond (decide (x16<(l.length:Int))) (Option.bind (lA l x16) λe18=>cond (!(nC e18)) (some false) (k17 (iA .i64 x16 1))) z) 0
  =bif l.any λn=>!nC n then some false else z:=by
 rw[pS l hl (λn=>!nC n) (some false) z (λi k hi=>?_) (λk=>by simp only[WD,cond_false])];simp only[zD hi,cond_true,JB hi,kB]
def zsX{w:Ab}(h:wt w≤bA){i:Nat}(hi:i<w.Clients.length):wt w.Clients[i]≤bA:=by
 have:=yE hi;have:=(zcV w h).1;omega
def zja(w:Ab)(h:wt w≤bA)(hc:w.Clients.length=2)(hp:w.S.Psks.length=2)(z:Option Bool){f:Int→(Int→Option Bool)→Option Bool}
  (hf:∀ (i:Nat) k (h:i<w.Clients.length) (h':i<w.S.Psks.length),wt w.Clients[i]≤bA→wt w.Clients[i].Psk≤bA→wt w.S.Psks[i]≤bA→IntKind.wrap .i64 ((i:Int)+1)=((i+1:Nat):Int)→
   f (i:Int) k=bif !sB w.Clients[i]||w.Clients[i].Id !=((i+1:Nat):Int)||!(w.Clients[i].Psk==w.S.Psks[i])then some false else k (IntKind.wrap .i64 ((i:Int)+1)))
  (hz:∀k,f (2:Int) k=z):uA FU f 0=bif HB 2 (gI w)then some false else z:=by
 rw[YI 2 (by decide) (gI w) (some false) z (λi k hi=>?_) hz];have h1:=zsX h (i:=i) (by omega);have h2:=(zcE _ h1).1;have h3:=yE (l:=w.S.Psks) (i:=i) (by omega);have h4:=(zcV w h).2.2.1;rw[hf i k (by omega) (by omega) h1 h2 (by omega) (FG i (by rw[yD];omega)),gI,PF (by omega),PF (by omega)]
def zpt(w:Ab)(h:wt w≤bA):Mp w=some (tB w):=by
 have hw:=zcV w h;simp only[Mp,aA,JC,UA (p:=wt w.S≤bA) hw.2.1,tB]
 by_cases hc:w.Clients.length=2
 ·by_cases hp:w.S.Psks.length=2
  ·have c1:((w.Clients.length:Int) !=2)=false:=by simp[hc]
   have c2:((w.Clients.length:Int)==2)=true:=by simp[hc]
   have p1:((w.S.Psks.length:Int) !=2)=false:=by simp[hp]
   have p2:((w.S.Psks.length:Int)==2)=true:=by simp[hp]
   rw[c1,c2,p1,p2,zjW w.Notes (lE hw.2.2.2.2.2.2.2),zkl w.Known (lE hw.2.2.2.2.2.2.1),zja w h hc hp _ (λi k hi oW w1 w2 w3 he=>?_) (λk=>by rw[hc];exact cond_false _ _)]
   ·rw[nK];cases eA w.Now 0 1000000
    ·rfl
    cases MB w.S
    ·rfl
    cases gC w.D
    ·rfl
    cases RD w.Seen
    ·rfl
    cases decide ((w.Known.length:Int)≤12)
    ·rfl
    cases HB 2 (gI w)
    ·cases w.Known.any _
     ·cases w.Notes.any _<;>rfl
     ·rfl
    ·rfl
   ·simp only[zD hi,cond_true,JB hi,JB oW,kB,OD,UA w1,PI w2 w3];simp only[iA,he];cases sB w.Clients[i]<;>cases w.Clients[i].Id !=((i+1:Nat):Int)<;>cases w.Clients[i].Psk==w.S.Psks[i]<;>rfl
  ·have p1:((w.S.Psks.length:Int) !=2)=true:=by simp;omega
   have p2:((w.S.Psks.length:Int)==2)=false:=by simp;omega
   rw[p1,p2];simp
 ·have c1:((w.Clients.length:Int) !=2)=true:=by simp;omega
  have c2:((w.Clients.length:Int)==2)=false:=by simp;omega
  rw[c1,c2];simp
def zQ.ok{x}(_:xA [.v .World] x){r}:dG x=some r→Mp x=some r:=TA λh=>zpt x h
def zpb(w:Ab)(h:wt w≤bA):Mn w=some (tB w):=by
 have hw:=zcV w h;simp only[Mn,aA,JC,UA (p:=wt w.S≤bA) hw.2.1,tB]
 by_cases hc:w.Clients.length=2
 ·by_cases hp:w.S.Psks.length=2
  ·have c1:((w.Clients.length:Int) !=2)=false:=by simp[hc]
   have c2:((w.Clients.length:Int)==2)=true:=by simp[hc]
   have p1:((w.S.Psks.length:Int) !=2)=false:=by simp[hp]
   have p2:((w.S.Psks.length:Int)==2)=true:=by simp[hp]
   rw[c1,c2,p1,p2,zjW w.Notes (lE hw.2.2.2.2.2.2.2),zkl w.Known (lE hw.2.2.2.2.2.2.1),zja w h hc hp _ (λi k hi oW w1 w2 w3 he=>?_) (λk=>by exact cond_false _ _)]
   ·rw[nK];cases eA w.Now 0 1000000
    ·rfl
    cases MB w.S
    ·rfl
    cases gC w.D
    ·rfl
    cases RD w.Seen
    ·rfl
    cases decide ((w.Known.length:Int)≤12)
    ·rfl
    cases HB 2 (gI w)
    ·cases w.Known.any _
     ·cases w.Notes.any _<;>rfl
     ·rfl
    ·rfl
   ·have e:decide ((i:Int)<2)=true:=decide_eq_true (by omega);simp only[e,cond_true,JB hi,JB oW,kB,OD,UA w1,PI w2 w3];simp only[iA,he];cases sB w.Clients[i]<;>cases w.Clients[i].Id !=((i+1:Nat):Int)<;>cases w.Clients[i].Psk==w.S.Psks[i]<;>rfl
  ·have p1:((w.S.Psks.length:Int) !=2)=true:=by simp;omega
   have p2:((w.S.Psks.length:Int)==2)=false:=by simp;omega
   rw[p1,p2];simp
 ·have c1:((w.Clients.length:Int) !=2)=true:=by simp;omega
  have c2:((w.Clients.length:Int)==2)=false:=by simp;omega
  rw[c1,c2];simp
def vQ.ok{x}(_:xA [.v .World] x){r}:dG x=some r→Mn x=some r:=TA λh=>zpb x h
end Go.D
namespace Go.D
end Go.D
