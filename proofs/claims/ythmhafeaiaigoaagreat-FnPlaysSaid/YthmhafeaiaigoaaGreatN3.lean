/-
 Sizes of the program's data.
-/
import Derived.Test.YthmhafeaiaigoaaGreatN2
set_option linter.all false
namespace Go.D
instance:Wt Al:=⟨λx=>wt x.A⟩
instance:Wt Ab:=⟨λx=>wt x.Cn+wt x.Sn+wt x.Cookie+wt x.Proof+wt x.Body+wt x.Tag⟩
def IH(x:Ab):wt x=wt x.Cn+wt x.Sn+wt x.Cookie+wt x.Proof+wt x.Body+wt x.Tag:=rfl
instance:Wt Aw:=⟨λ_=>0⟩
def zde(x:Aw):wt x=0:=rfl
instance:Wt Ae:=⟨λx=>wt x.Psk+wt x.At+wt x.Cn+wt x.Fin+wt x.C+wt x.T+wt x.R⟩
def yM(x:Ae):wt x=wt x.Psk+wt x.At+wt x.Cn+wt x.Fin+wt x.C+wt x.T+wt x.R:=rfl
instance:Wt Ba:=⟨λx=>wt x.Secret⟩
def jT(x:Ba):wt x=wt x.Secret:=rfl
instance:Wt Au:=⟨λx=>wt x.Seed⟩
def aJ(x:Au):wt x=wt x.Seed:=rfl
instance:Wt Az:=⟨λx=>wt x.A+wt x.Draw⟩
def zaj(x:Az):wt x=wt x.A+wt x.Draw:=rfl
instance:Wt Aj:=⟨λx=>wt x.At+wt x.Cands⟩
def YI(x:Aj):wt x=wt x.At+wt x.Cands:=rfl
instance:Wt Ah:=⟨λx=>wt x.Cn+wt x.Sn+wt x.C+wt x.P⟩
def lL(x:Ah):wt x=wt x.Cn+wt x.Sn+wt x.C+wt x.P:=rfl
instance:Wt Ao:=⟨λx=>wt x.L⟩
def mJ(x:Ao):wt x=wt x.L:=rfl
instance:Wt Ac:=⟨λx=>wt x.Psks+wt x.J+wt x.D+wt x.T+wt x.Cr⟩
def oM(x:Ac):wt x=wt x.Psks+wt x.J+wt x.D+wt x.T+wt x.Cr:=rfl
instance:Wt Ap:=⟨λx=>wt x.From+wt x.To+wt x.B⟩
def zai(x:Ap):wt x=wt x.From+wt x.To+wt x.B:=rfl
instance:Wt Aa:=⟨λx=>wt x.Clients+wt x.S+wt x.D+wt x.Seen+wt x.Known+wt x.Notes⟩
def qG(x:Aa):wt x=wt x.Clients+wt x.S+wt x.D+wt x.Seen+wt x.Known+wt x.Notes:=rfl
end Go.D
namespace Go.D
noncomputable section
def AB(i:Int):Ai:=if 0≤i∧i≤255 then⟨167772160+i,7000+i⟩else⟨0,0⟩
def BE:Ai:=AB 0
def RB(a b:Ai):Bool:=a.Host==b.Host&&a.Port==b.Port
def UD(n k:Int):Bool:=n==0||n==k
def WC(b:List UInt8)(n:Int):Bool:=UD (b.length:Int) n
def mC(n:Ad):Bool:=eA n.Kind 1 17&&eA n.Id 0 9&&eA n.Role 0 1&&WC n.Cn 12&&WC n.Sn 12&&eA n.Epoch 0 4294967295&&eA n.Seq 0 281474976710655&&decide ((n.Body.length:Int)≤100)&&WC n.Key 32&&GA n.A&&eA n.Now 0 1000000
def KM(w:Aa)(a:Ai):Int:=bif RB a BE then 0 else match w.Clients.find? λc=>RB c.At a with
 | some c=>c.Id
 | none=> -1
def gL(w:Aa)(a:Ai):Option Int:=pt (wt w≤bA) (KM w a)
def QE(j:Ba):Bool:=(j.Secret.length:Int)==32
def gC(d:Au):Bool:=eA (d.Seed.length:Int) 1 32&&eA d.N 0 10000
def live(t:Ao):Int:=t.L.foldl (λs e=>bif e.Dead then s else iA .i64 s 1) 0
def qJ(t:Ao):Option Int:=pt (wt t≤bA) (live t)
def tC(c:Ak):Bool:=c.Role==0&&(c.Sn.length:Int)==0&&XF c.Cur&&XF c.Old&&!c.HasOld&&c.Until==0&&(c.Next.length:Int)==0
def BO(c:Ak):Option Bool:=pt (wt c≤bA) (tC c)
def EO(p:Aj)(i:Nat):Bool:=(p.Cands[i]?).any λe=>!GA e.A||!nA e.Draw||!eA e.Until 0 1000006||RB e.A p.At||HB i λj=>(p.Cands[j]?).any λd=>RB d.A e.A
def sC(p:Aj):Bool:=GA p.At&&decide ((p.Cands.length:Int)≤3)&&!(HB p.Cands.length (EO p))
def vC(s:Ah):Bool:=eA s.Id 1 9&&nA s.Cn&&nA s.Sn&&eA s.Tick 0 1000000&&bif s.Dead then tC s.C&&RB s.P.At ⟨0,0⟩&&(s.P.Cands.length:Int)==0&&s.Last==0
 else nC s.C&&s.C.Role==1&&s.C.Sn==s.Sn&&sC s.P&&eA s.Last 0 1000000
def LD(s:Ah):Option Bool:=pt (wt s≤bA) (vC s)
def vG(t:Ao)(b:List UInt8)(i:Nat):Bool:=(t.L[i]?).any λe=>e.Sn==b
def OE(t:Ao)(b:List UInt8):Int:=PH t.L.length (vG t b)
def KD(t:Ao)(b:List UInt8):Option Int:=pt (wt t≤bA∧wt b≤bA) (OE t b)
def oL(t:Ao)(i:Nat):Bool:=(t.L[i]?).any λe=>!vC e||HB i (vG t e.Sn)
def TC(t:Ao):Bool:=eA t.Cap 1 6&&decide ((t.L.length:Int)≤12)&&decide (live t≤t.Cap)&&!(HB t.L.length (oL t))
def sG(t:Ao):Option Bool:=pt (wt t≤bA) (TC t)
def VG(l:List Al)(a:Ai)(i:Nat):Bool:=(l[i]?).any λc=>RB c.A a
def oB(l:List Al)(a:Ai):Int:=PH l.length (VG l a)
def cS(l:List Al)(i:Nat):Bool:=(l[i]?).any λc=>!GA c.A||!eA c.Got 0 1000000||!eA c.Sent 0 (OB .i64 3 c.Got)||HB i (VG l c.A)
def kD(l:List Al):Bool:=decide ((l.length:Int)≤8)&&!(HB l.length (cS l))
def GC(b:List UInt8):Bool:=eA (b.length:Int) 1 32
def KB(s:Ac):Bool:=eA (s.Psks.length:Int) 1 9&&QE s.J&&gC s.D&&TC s.T&&kD s.Cr&&!(s.Psks.any λb=>!GC b)&&!(s.T.L.any λe=>decide (e.Id>(s.Psks.length:Int)))
def JC(s:Ac):Option Bool:=pt (wt s≤bA) (KB s)
def PE(w:Ap):Bool:=GA w.From&&GA w.To&&decide ((w.B.length:Int)≤200)
def QD(l:List Ap):Bool:=!(l.any λw=>!PE w)&&decide ((l.length:Int)≤90)
def YJ(f g:Ab):Bool:=f.Kind==g.Kind&&f.Id==g.Id&&f.Tick==g.Tick&&f.Epoch==g.Epoch&&f.Seq==g.Seq&&f.Cn==g.Cn&&f.Sn==g.Sn&&f.Cookie==g.Cookie&&f.Proof==g.Proof&&f.Body==g.Body&&f.Tag==g.Tag
def VN(f g:Ab):Option Bool:=pt (wt f≤bA∧wt g≤bA) (YJ f g)
def KF(t:Aw):Bool:=t.On==false&&t.Due==0&&t.Wait==0&&t.Tries==0
def xD(t:Aw):Bool:=bif t.On then eA t.Due 0 1000008&&(t.Wait==1||t.Wait==2||t.Wait==4||t.Wait==8)&&eA t.Tries 1 5 else KF t
def LF(f:Ab):Bool:=f.Kind==0&&f.Id==0&&(f.Cn.length:Int)==0&&(f.Sn.length:Int)==0&&f.Tick==0&&(f.Cookie.length:Int)==0&&(f.Proof.length:Int)==0&&f.Epoch==0&&f.Seq==0&&(f.Body.length:Int)==0&&(f.Tag.length:Int)==0
def jC(k:Int):Bool:=eA k 4 8
def dG(k n:Int):Bool:=bif k==4 then decide (n≤40)else bif k==5||k==6 then n==12 else n==4
def wB(f:Ab):Bool:=
 bif jC f.Kind then f.Id==0&&(f.Cn.length:Int)==0&&(f.Sn.length:Int)==12&&f.Tick==0&&(f.Cookie.length:Int)==0&&(f.Proof.length:Int)==0&&eA f.Epoch 0 4294967295&&eA f.Seq 0 281474976710655&&dG f.Kind (f.Body.length:Int)&&(f.Tag.length:Int)==16
 else f.Epoch==0&&f.Seq==0&&(f.Body.length:Int)==0&&(f.Tag.length:Int)==0&&(f.Cn.length:Int)==12&&
  bif f.Kind==1 then eA f.Id 1 9&&(f.Sn.length:Int)==0&&f.Tick==0&&(f.Cookie.length:Int)==0&&(f.Proof.length:Int)==0
  else bif f.Kind==2 then f.Id==0&&(f.Sn.length:Int)==12&&eA f.Tick 0 1000000&&(f.Cookie.length:Int)==16&&(f.Proof.length:Int)==0
  else f.Kind==3&&eA f.Id 1 9&&(f.Sn.length:Int)==12&&eA f.Tick 0 1000000&&(f.Cookie.length:Int)==16&&(f.Proof.length:Int)==16
def VC(f:Ab):Option Bool:=pt (wt f≤bA) (wB f)
def ZI(c:Ae):Bool:=nA c.Cn&&c.Fin.Kind==3&&wB c.Fin&&c.Fin.Id==c.Id&&c.Fin.Cn==c.Cn&&nC c.C&&c.C.Role==0&&c.C.Sn==c.Fin.Sn&&c.C.Cur.N==0&&!c.C.HasOld&&(c.C.Next.length:Int)==0
def zcS(c:Ae):Option Bool:=pt (wt c≤bA) (ZI c)
def tB(c:Ae):Bool:=eA c.Id 1 9&&GC c.Psk&&GA c.At&&
 bif c.St==0 then(c.Cn.length:Int)==0&&LF c.Fin&&tC c.C&&KF c.T&&KF c.R&&c.Last==0
 else bif c.St==1 then nA c.Cn&&LF c.Fin&&tC c.C&&c.T.On&&xD c.T&&KF c.R&&c.Last==0
 else bif c.St==2 then ZI c&&c.T.On&&xD c.T&&KF c.R&&c.Last==0
 else c.St==3&&nA c.Cn&&LF c.Fin&&nC c.C&&c.C.Role==0&&KF c.T&&xD c.R&&c.R.On==decide ((c.C.Next.length:Int)>0)&&eA c.Last 0 1000000
def OD(c:Ae):Option Bool:=pt (wt c≤bA) (tB c)
def hI(w:Aa)(i:Nat):Bool:=(w.Clients[i]?).any λc=>(w.S.Psks[i]?).any λp=>!tB c||c.Id !=((i+1:Nat):Int)||!(c.Psk==p)
def eB(w:Aa):Bool:=eA w.Now 0 1000000&&(w.Clients.length:Int)==2&&KB w.S&&(w.S.Psks.length:Int)==2&&gC w.D&&QD w.Seen&&decide ((w.Known.length:Int)≤12)&&
 !(HB 2 (hI w))&&!(w.Known.any λb=>(b.length:Int) !=32)&&!(w.Notes.any λn=>!mC n)
def FG(w:Aa):Option Bool:=pt (wt w≤bA) (eB w)
def znP:Ax:=⟨0,[],0,⟨0,[]⟩⟩
end
end Go.D
namespace Go.D
open Option renaming bind→ob
noncomputable section
def Pp(a0:Int)(a1:Int):=
 aA (λ(y1:Bool)=>
 some y1) λk2=>
 cond (a0==0)
 (k2 true)
 (k2 (a0==a1))
def Re(a0:Ai):=
 aA (λ(y1:Bool)=>
 some y1) λk2=>
 cond ((eA a0.Host 0 4294967295))
 (k2 (eA a0.Port 0 65535))
 (k2 false)
def Lq(a0:Ad):=
 aA (λ(y1:Bool)=>
 some y1) λk2=>
 cond ((eA a0.Kind 1 17))
 (cond ((eA a0.Id 0 9))
 (cond ((eA a0.Role 0 1))
 (cond ((UD (a0.Cn.length:Int) 12))
 (cond ((UD (a0.Sn.length:Int) 12))
 (cond ((eA a0.Epoch 0 4294967295))
 (cond ((eA a0.Seq 0 281474976710655))
 (cond (decide ((a0.Body.length:Int)≤100))
 (cond ((UD (a0.Key.length:Int) 32))
 (cond ((GA a0.A))
 (k2 (eA a0.Now 0 1000000))
 (k2 false))
 (k2 false))
 (k2 false))
 (k2 false))
 (k2 false))
 (k2 false))
 (k2 false))
 (k2 false))
 (k2 false))
 (k2 false)
def Pq(a0:List UInt8)(a1:Int):=
 aA (λ(y1:Bool)=>
 some y1) λk2=>
 cond ((a0.length:Int)==0)
 (k2 true)
 (k2 ((a0.length:Int)==a1))
def Rf(a0:Ai):=
 aA (λ(y1:Bool)=>
 some y1) λk2=>
 cond ((eA a0.Host 0 4294967295))
 (k2 (eA a0.Port 0 65535))
 (k2 false)
def Lr(a0:Ad):=
 aA (λ(y1:Bool)=>
 some y1) λk2=>
 cond ((eA a0.Kind 1 17))
 (cond ((eA a0.Id 0 9))
 (cond ((eA a0.Role 0 1))
 (cond ((eA a0.Epoch 0 4294967295))
 (cond ((eA a0.Seq 0 281474976710655))
 (cond ((eA a0.Now 0 1000000))
 (cond ((WC a0.Cn 12))
 (cond ((WC a0.Sn 12))
 (cond (decide ((a0.Body.length:Int)≤100))
 (cond ((WC a0.Key 32))
 (k2 (GA a0.A))
 (k2 false))
 (k2 false))
 (k2 false))
 (k2 false))
 (k2 false))
 (k2 false))
 (k2 false))
 (k2 false))
 (k2 false))
 (k2 false)
def Rg(a0:Int):=
 cond (!(eA a0 0 255))
 (some (⟨0,0⟩:Ai))
 (some (⟨iA .i64 167772160 a0,iA .i64 7000 a0⟩:Ai))
def Rh:=
 let r1:Ai:=AB 0
 some r1
def Ls(a0:Aa)(a1:Ai):=
 let r1:Ai:=BE;let x2:Bool:=cond (a1.Host==r1.Host) (cond (a1.Port==r1.Port) (true) false) false
 cond (x2)
 (some 0)
 (aA (λ(y3:Unit)=>
 some (-1)) λk4=>
 tA FU (λ(x5:Int) k6=>
 cond (decide (x5<(a0.Clients.length:Int)))
 (ob (kA a0.Clients x5) λe7=>
 let x8:Bool:=cond (e7.At.Host==a1.Host) (cond (e7.At.Port==a1.Port) (true) false) false
 cond (x8)
 (ob (kA a0.Clients x5) λe9=>
 some e9.Id)
 (k6 (iA .i64 x5 1)))
 (k4 ())) 0)
def Ri(a0:Int):=
 cond (!(eA a0 0 255))
 (some (⟨0,0⟩:Ai))
 (some (⟨iA .i64 167772160 a0,iA .i64 7000 a0⟩:Ai))
def Rj:=
 let r1:Ai:=AB 0
 some r1
def Lt(a0:Aa)(a1:Ai):=
 let r1:Ai:=BE;let x2:Bool:=cond (a1.Host==r1.Host) (cond (a1.Port==r1.Port) (true) false) false
 cond (x2)
 (some 0)
 (aA (λ(y3:Unit)=>
 some (-1)) λk4=>
 tA FU (λ(x5:Int) k6=>
 cond (decide (x5<(a0.Clients.length:Int)))
 (ob (kA a0.Clients x5) λe7=>
 let x8:Bool:=cond (e7.At.Host==a1.Host) (cond (e7.At.Port==a1.Port) (true) false) false
 cond (x8)
 (some e7.Id)
 (k6 (iA .i64 x5 1)))
 (k4 ())) 0)
def Rl(a0:Au):=
 aA (λ(y1:Bool)=>
 some y1) λk2=>
 let r3:Bool:=eA (a0.Seed.length:Int) 1 32
 cond (r3)
 (k2 (eA a0.N 0 10000))
 (k2 false)
def Rm(a0:Ba):=
 some ((a0.Secret.length:Int)==32)
def Rn(a0:Ao):=
 aA (λ(y1:Int)=>
 some y1) λk2=>
 tA FU (λ(x3:Int×Int) k4=>
 cond (decide (x3.2<(a0.L.length:Int)))
 (ob (kA a0.L x3.2) λe5=>
 aA (λ(y6:Int)=>
 k4 (y6,(iA .i64 x3.2 1))) λk7=>
 cond (!e5.Dead)
 (k7 (iA .i64 x3.1 1))
 (k7 x3.1))
 (k2 x3.1)) (0,0)
def Lu(a0:Ak):=
 aA (λ(y1:Bool)=>
 some y1) λk2=>
 cond (a0.Role==0)
 (cond ((a0.Sn.length:Int)==0)
 (ob (FO a0.Cur (⟨0,[],0,(⟨0,[]⟩:Aq)⟩:Ax)) λr3=>
 cond (r3)
 (ob (FO a0.Old (⟨0,[],0,(⟨0,[]⟩:Aq)⟩:Ax)) λr4=>
 cond (r4)
 (cond (!a0.HasOld)
 (cond (a0.Until==0)
 (k2 ((a0.Next.length:Int)==0))
 (k2 false))
 (k2 false))
 (k2 false))
 (k2 false))
 (k2 false))
 (k2 false)
def Lv(a0:Aj):=
 aA (λy1=>
 cond (y1)
 (some false)
 (aA (λ(y3:Unit)=>
 some true) λk4=>
 tA FU (λ(x5:Int) k6=>
 cond (decide (x5<(a0.Cands.length:Int)))
 (ob (kA a0.Cands x5) λe7=>
 aA (λy8=>
 cond (y8)
 (some false)
 (cond (decide (0≤(0:Int))&&decide ((0:Int)≤x5)&&decide (x5≤(a0.Cands.length:Int))) (let l11:List Az:=List.take ((x5 - 0).toNat) (List.drop 0 a0.Cands)
 aA (λ(y12:Unit)=>
 k6 (iA .i64 x5 1)) λk13=>
 tA FU (λ(x14:Int) k15=>
 cond (decide (x14<(l11.length:Int)))
 (ob (kA l11 x14) λe16=>
 let x17:Bool:=cond (e16.A.Host==e7.A.Host) (cond (e16.A.Port==e7.A.Port) (true) false) false
 cond (x17)
 (some false)
 (k15 (iA .i64 x14 1)))
 (k13 ())) 0) none)) λk9=>
 cond (!(GA e7.A))
 (k9 true)
 (let x10:Bool:=cond (e7.A.Host==a0.At.Host) (cond (e7.A.Port==a0.At.Port) (true) false) false
 cond (x10)
 (k9 true)
 (cond (!(nA e7.Draw))
 (k9 true)
 (k9 (!(eA e7.Until 0 1000006))))))
 (k4 ())) 0)) λk2=>
 cond (!(GA a0.At))
 (k2 true)
 (k2 (decide ((a0.Cands.length:Int)>3)))
def Lw(a0:Ah):=
 aA (λy1=>
 cond (y1)
 (some false)
 (cond (a0.Dead)
 (aA (λ(y3:Bool)=>
 some y3) λk4=>
 ob (BO a0.C) λr5=>
 cond (r5)
 (let x6:Bool:=cond (a0.P.At.Host==0) (cond (a0.P.At.Port==0) (true) false) false
 cond (x6)
 (cond ((a0.P.Cands.length:Int)==0)
 (k4 (a0.Last==0))
 (k4 false))
 (k4 false))
 (k4 false))
 (aA (λ(y7:Bool)=>
 some y7) λk8=>
 ob (uC a0.C) λr9=>
 cond (r9)
 (cond (a0.C.Role==1)
 (ob (EB a0.C.Sn a0.Sn) λr10=>
 cond (r10)
 (cond ((sC a0.P))
 (k8 (eA a0.Last 0 1000000))
 (k8 false))
 (k8 false))
 (k8 false))
 (k8 false)))) λk2=>
 cond (!(eA a0.Id 1 9))
 (k2 true)
 (cond (!(nA a0.Cn))
 (k2 true)
 (cond (!(nA a0.Sn))
 (k2 true)
 (k2 (!(eA a0.Tick 0 1000000)))))
def Ro(a0:Ao)(a1:List UInt8):=
 aA (λ(y1:Unit)=>
 some (-1)) λk2=>
 tA FU (λ(x3:Int) k4=>
 cond (decide (x3<(a0.L.length:Int)))
 (ob (kA a0.L x3) λe5=>
 ob (EB e5.Sn a1) λr6=>
 cond (r6)
 (some x3)
 (k4 (iA .i64 x3 1)))
 (k2 ())) 0
def Lx(a0:Ao):=
 aA (λy1=>
 cond (y1)
 (some false)
 (aA (λ(y4:Unit)=>
 some true) λk5=>
 tA FU (λ(x6:Int) k7=>
 cond (decide (x6<(a0.L.length:Int)))
 (ob (kA a0.L x6) λe8=>
 aA (λy9=>
 cond (y9)
 (some false)
 (k7 (iA .i64 x6 1))) λk10=>
 ob (LD e8) λr11=>
 cond (!r11)
 (k10 true)
 (ob (KD a0 e8.Sn) λr12=>
 k10 (decide (r12<x6))))
 (k5 ())) 0)) λk2=>
 cond (!(eA a0.Cap 1 6))
 (k2 true)
 (cond (decide ((a0.L.length:Int)>12))
 (k2 true)
 (ob (qJ a0) λr3=>
 k2 (decide (r3>a0.Cap))))
def Rp(a0:List Al)(a1:Ai):=
 aA (λ(y1:Unit)=>
 some (-1)) λk2=>
 tA FU (λ(x3:Int) k4=>
 cond (decide (x3<(a0.length:Int)))
 (ob (kA a0 x3) λe5=>
 let x6:Bool:=cond (e5.A.Host==a1.Host) (cond (e5.A.Port==a1.Port) (true) false) false
 cond (x6)
 (some x3)
 (k4 (iA .i64 x3 1)))
 (k2 ())) 0
def Ly(a0:List Al):=
 cond (decide ((a0.length:Int)>8))
 (some false)
 (aA (λ(y1:Unit)=>
 some true) λk2=>
 tA FU (λ(x3:Int) k4=>
 cond (decide (x3<(a0.length:Int)))
 (ob (kA a0 x3) λe5=>
 aA (λy6=>
 cond (y6)
 (some false)
 (k4 (iA .i64 x3 1))) λk7=>
 cond (!(GA e5.A))
 (k7 true)
 (cond (!(eA e5.Got 0 1000000))
 (k7 true)
 (let r8:Bool:=eA e5.Sent 0 (OB .i64 3 e5.Got)
 cond (!r8)
 (k7 true)
 (k7 (decide ((oB a0 e5.A)<x3))))))
 (k2 ())) 0)
def Rq(a0:List UInt8):=
 some (eA (a0.length:Int) 1 32)
def Lz(a0:Ac):=
 aA (λy1=>
 cond (y1)
 (some false)
 (aA (λ(y4:Unit)=>
 aA (λ(y9:Unit)=>
 some true) λk10=>
 tA FU (λ(x11:Int) k12=>
 cond (decide (x11<(a0.T.L.length:Int)))
 (ob (kA a0.T.L x11) λe13=>
 cond (decide (e13.Id>(a0.Psks.length:Int)))
 (some false)
 (k12 (iA .i64 x11 1)))
 (k10 ())) 0) λk5=>
 tA FU (λ(x6:Int) k7=>
 cond (decide (x6<(a0.Psks.length:Int)))
 (ob (kA a0.Psks x6) λe8=>
 cond (!(GC e8))
 (some false)
 (k7 (iA .i64 x6 1)))
 (k5 ())) 0)) λk2=>
 cond (!(eA (a0.Psks.length:Int) 1 9))
 (k2 true)
 (cond (!(QE a0.J))
 (k2 true)
 (cond (!(gC a0.D))
 (k2 true)
 (ob (sG a0.T) λr3=>
 cond (!r3)
 (k2 true)
 (k2 (!(kD a0.Cr))))))
def Ma(a0:Ab)(a1:Ab):=
 aA (λ(y1:Bool)=>
 some y1) λk2=>
 cond (a0.Kind==a1.Kind)
 (cond (a0.Id==a1.Id)
 (cond (a0.Tick==a1.Tick)
 (cond (a0.Epoch==a1.Epoch)
 (cond (a0.Seq==a1.Seq)
 (ob (EB a0.Cn a1.Cn) λr3=>
 cond (r3)
 (ob (EB a0.Sn a1.Sn) λr4=>
 cond (r4)
 (ob (EB a0.Cookie a1.Cookie) λr5=>
 cond (r5)
 (ob (EB a0.Proof a1.Proof) λr6=>
 cond (r6)
 (ob (EB a0.Body a1.Body) λr7=>
 cond (r7)
 (ob (EB a0.Tag a1.Tag) λr8=>
 k2 r8)
 (k2 false))
 (k2 false))
 (k2 false))
 (k2 false))
 (k2 false))
 (k2 false))
 (k2 false))
 (k2 false))
 (k2 false))
 (k2 false)
def Mb(a0:Aw):=
 cond (!a0.On)
 (let x1:Bool:=cond (a0.On==false) (cond (a0.Due==0) (cond (a0.Wait==0) (cond (a0.Tries==0) (true) false) false) false) false
 some x1)
 (aA (λ(y2:Bool)=>
 aA (λ(y4:Bool)=>
 some y4) λk5=>
 cond ((eA a0.Due 0 1000008))
 (cond (y2)
 (k5 (eA a0.Tries 1 5))
 (k5 false))
 (k5 false)) λk3=>
 cond (a0.Wait==1)
 (k3 true)
 (cond (a0.Wait==2)
 (k3 true)
 (cond (a0.Wait==4)
 (k3 true)
 (k3 (a0.Wait==8)))))
def Rr(a0:Int):=
 some (eA a0 4 8)
def Pr(a0:Int)(a1:Int):=
 cond (a0==4)
 (some (decide (a1≤40)))
 (aA (λy1=>
 cond (y1)
 (some (a1==12))
 (some (a1==4))) λk2=>
 cond (a0==5)
 (k2 (a0==5))
 (k2 (a0==6)))
def Mc(a0:Ab):=
 aA (λ(y1:Bool×Ab)=>
 aA (λ(y18:Bool)=>
 some y18) λk19=>
 cond (y1.1)
 (ob (VN a0 y1.2) λr20=>
 k19 r20)
 (k19 false)) λk2=>
 cond (a0.Kind==1)
 (aA (λ(y3:Bool)=>
 k2 (y3,(⟨a0.Kind,a0.Id,a0.Cn,[],0,[],[],0,0,[],[]⟩:Ab))) λk4=>
 cond ((eA a0.Id 1 9))
 (k4 (nA a0.Cn))
 (k4 false))
 (aA (λ(y5:Bool×Ab)=>
 k2 (y5.1,y5.2)) λk6=>
 cond (a0.Kind==2)
 (aA (λ(y7:Bool)=>
 k6 (y7,(⟨a0.Kind,0,a0.Cn,a0.Sn,a0.Tick,a0.Cookie,[],0,0,[],[]⟩:Ab))) λk8=>
 cond ((nA a0.Cn))
 (cond ((nA a0.Sn))
 (cond ((eA a0.Tick 0 1000000))
 (k8 ((a0.Cookie.length:Int)==16))
 (k8 false))
 (k8 false))
 (k8 false))
 (aA (λ(y9:Bool×Ab)=>
 k6 (y9.1,y9.2)) λk10=>
 cond (a0.Kind==3)
 (aA (λ(y11:Bool)=>
 k10 (y11,(⟨a0.Kind,a0.Id,a0.Cn,a0.Sn,a0.Tick,a0.Cookie,a0.Proof,0,0,[],[]⟩:Ab))) λk12=>
 cond ((eA a0.Id 1 9))
 (cond ((nA a0.Cn))
 (cond ((nA a0.Sn))
 (cond ((eA a0.Tick 0 1000000))
 (cond ((a0.Cookie.length:Int)==16)
 (k12 ((a0.Proof.length:Int)==16))
 (k12 false))
 (k12 false))
 (k12 false))
 (k12 false))
 (k12 false))
 (aA (λ(y13:Bool×Ab)=>
 k10 (y13.1,y13.2)) λk14=>
 cond ((jC a0.Kind))
 (aA (λ(y15:Bool)=>
 k14 (y15,(⟨a0.Kind,0,[],a0.Sn,0,[],[],a0.Epoch,a0.Seq,a0.Body,a0.Tag⟩:Ab))) λk16=>
 cond ((nA a0.Sn))
 (cond ((eA a0.Epoch 0 4294967295))
 (cond ((eA a0.Seq 0 281474976710655))
 (cond ((a0.Tag.length:Int)==16)
 (let r17:Bool:=dG a0.Kind (a0.Body.length:Int)
 k16 r17)
 (k16 false))
 (k16 false))
 (k16 false))
 (k16 false))
 (k14 (false,(⟨a0.Kind,0,[],[],0,[],[],0,0,[],[]⟩:Ab))))))
def Md(a0:Ae):=
 aA (λy1=>
 cond (y1)
 (some false)
 (aA (λ(y5:Bool)=>
 some y5) λk6=>
 ob (uC a0.C) λr7=>
 cond (r7)
 (cond (a0.C.Role==0)
 (ob (EB a0.C.Sn a0.Fin.Sn) λr8=>
 cond (r8)
 (cond (a0.C.Cur.N==0)
 (cond (!a0.C.HasOld)
 (k6 ((a0.C.Next.length:Int)==0))
 (k6 false))
 (k6 false))
 (k6 false))
 (k6 false))
 (k6 false))) λk2=>
 cond (!(nA a0.Cn))
 (k2 true)
 (cond (a0.Fin.Kind !=3)
 (k2 true)
 (ob (VC a0.Fin) λr3=>
 cond (!r3)
 (k2 true)
 (cond (a0.Fin.Id !=a0.Id)
 (k2 true)
 (ob (EB a0.Fin.Cn a0.Cn) λr4=>
 k2 (!r4)))))
def Me(a0:Ae):=
 aA (λy1=>
 cond (y1)
 (some false)
 (ob (VN a0.Fin (⟨0,0,[],[],0,[],[],0,0,[],[]⟩:Ab)) λr3=>
 let x4:Bool:=cond (a0.T.On==false) (cond (a0.T.Due==0) (cond (a0.T.Wait==0) (cond (a0.T.Tries==0) (true) false) false) false) false
 cond (a0.St==0)
 (aA (λ(y5:Bool)=>
 some y5) λk6=>
 cond ((a0.Cn.length:Int)==0)
 (cond (r3)
 (ob (BO a0.C) λr7=>
 cond (r7)
 (cond (x4)
 (let x8:Bool:=cond (a0.R.On==false) (cond (a0.R.Due==0) (cond (a0.R.Wait==0) (cond (a0.R.Tries==0) (true) false) false) false) false
 cond (x8)
 (k6 (a0.Last==0))
 (k6 false))
 (k6 false))
 (k6 false))
 (k6 false))
 (k6 false))
 (cond (a0.St==1)
 (aA (λ(y9:Bool)=>
 some y9) λk10=>
 cond ((nA a0.Cn))
 (cond (r3)
 (ob (BO a0.C) λr11=>
 cond (r11)
 (cond (a0.T.On)
 (cond ((xD a0.T))
 (let x12:Bool:=cond (a0.R.On==false) (cond (a0.R.Due==0) (cond (a0.R.Wait==0) (cond (a0.R.Tries==0) (true) false) false) false) false
 cond (x12)
 (k10 (a0.Last==0))
 (k10 false))
 (k10 false))
 (k10 false))
 (k10 false))
 (k10 false))
 (k10 false))
 (cond (a0.St==2)
 (aA (λ(y13:Bool)=>
 some y13) λk14=>
 ob (zcS a0) λr15=>
 cond (r15)
 (cond (a0.T.On)
 (cond ((xD a0.T))
 (let x16:Bool:=cond (a0.R.On==false) (cond (a0.R.Due==0) (cond (a0.R.Wait==0) (cond (a0.R.Tries==0) (true) false) false) false) false
 cond (x16)
 (k14 (a0.Last==0))
 (k14 false))
 (k14 false))
 (k14 false))
 (k14 false))
 (cond (a0.St==3)
 (aA (λ(y17:Bool)=>
 some y17) λk18=>
 cond ((nA a0.Cn))
 (cond (r3)
 (ob (uC a0.C) λr19=>
 cond (r19)
 (cond (a0.C.Role==0)
 (cond (x4)
 (cond ((xD a0.R))
 (cond (a0.R.On==(decide ((a0.C.Next.length:Int)>0)))
 (k18 (eA a0.Last 0 1000000))
 (k18 false))
 (k18 false))
 (k18 false))
 (k18 false))
 (k18 false))
 (k18 false))
 (k18 false))
 (some false)))))) λk2=>
 cond (!(eA a0.Id 1 9))
 (k2 true)
 (cond (!(GC a0.Psk))
 (k2 true)
 (k2 (!(GA a0.At))))
def Rs(a0:Au):=
 aA (λ(y1:Bool)=>
 some y1) λk2=>
 let r3:Bool:=eA (a0.Seed.length:Int) 1 32
 cond (r3)
 (k2 (eA a0.N 0 10000))
 (k2 false)
def Rt(a0:Ba):=
 some ((a0.Secret.length:Int)==32)
def Ru(a0:Ao):=
 aA (λ(y1:Int)=>
 some y1) λk2=>
 tA FU (λ(x3:Int×Int) k4=>
 cond (decide (x3.2<(a0.L.length:Int)))
 (ob (kA a0.L x3.2) λe5=>
 aA (λ(y6:Int)=>
 k4 (y6,(iA .i64 x3.2 1))) λk7=>
 cond (!e5.Dead)
 (k7 (iA .i64 x3.1 1))
 (k7 x3.1))
 (k2 x3.1)) (0,0)
def Mf(a0:Ak):=
 aA (λ(y1:Bool)=>
 some y1) λk2=>
 cond (a0.Role==0)
 (cond ((a0.Sn.length:Int)==0)
 (cond ((XF a0.Cur))
 (cond ((XF a0.Old))
 (cond (!a0.HasOld)
 (cond (a0.Until==0)
 (k2 ((a0.Next.length:Int)==0))
 (k2 false))
 (k2 false))
 (k2 false))
 (k2 false))
 (k2 false))
 (k2 false)
def Mg(a0:Aj):=
 aA (λy1=>
 cond (y1)
 (some false)
 (aA (λ(y3:Unit)=>
 some true) λk4=>
 tA FU (λ(x5:Int) k6=>
 cond (decide (x5<(a0.Cands.length:Int)))
 (ob (kA a0.Cands x5) λe7=>
 aA (λy8=>
 cond (y8)
 (some false)
 (aA (λ(y11:Unit)=>
 k6 (iA .i64 x5 1)) λk12=>
 tA FU (λ(x13:Int) k14=>
 cond (decide (x13<x5))
 (ob (kA a0.Cands x13) λe15=>
 let x16:Bool:=cond (e15.A.Host==e7.A.Host) (cond (e15.A.Port==e7.A.Port) (true) false) false
 cond (x16)
 (some false)
 (k14 (iA .i64 x13 1)))
 (k12 ())) 0)) λk9=>
 cond (!(GA e7.A))
 (k9 true)
 (cond ((e7.Draw.length:Int) !=12)
 (k9 true)
 (cond (!(eA e7.Until 0 1000006))
 (k9 true)
 (let x10:Bool:=cond (e7.A.Host==a0.At.Host) (cond (e7.A.Port==a0.At.Port) (true) false) false
 k9 x10))))
 (k4 ())) 0)) λk2=>
 cond (!(GA a0.At))
 (k2 true)
 (k2 (decide ((a0.Cands.length:Int)>3)))
def Mh(a0:Ah):=
 aA (λy1=>
 cond (y1)
 (some false)
 (cond (a0.Dead)
 (aA (λ(y3:Bool)=>
 some y3) λk4=>
 cond ((tC a0.C))
 (let r5:Ai:=AB (-1)
 let x6:Bool:=cond (a0.P.At.Host==r5.Host) (cond (a0.P.At.Port==r5.Port) (true) false) false
 cond (x6)
 (cond ((a0.P.Cands.length:Int)==0)
 (k4 (a0.Last==0))
 (k4 false))
 (k4 false))
 (k4 false))
 (aA (λ(y7:Bool)=>
 some y7) λk8=>
 ob (uC a0.C) λr9=>
 cond (r9)
 (cond (a0.C.Role==1)
 (ob (EB a0.C.Sn a0.Sn) λr10=>
 cond (r10)
 (k8 (sC a0.P))
 (k8 false))
 (k8 false))
 (k8 false)))) λk2=>
 cond (!(eA a0.Id 1 9))
 (k2 true)
 (cond ((a0.Cn.length:Int) !=12)
 (k2 true)
 (cond ((a0.Sn.length:Int) !=12)
 (k2 true)
 (cond (!(eA a0.Tick 0 1000000))
 (k2 true)
 (k2 (!(eA a0.Last 0 1000000))))))
def Rv(a0:Ao)(a1:List UInt8):=
 aA (λ(y1:Unit)=>
 some (-1)) λk2=>
 tA FU (λ(x3:Int) k4=>
 cond (decide (x3<(a0.L.length:Int)))
 (ob (kA a0.L x3) λe5=>
 ob (EB e5.Sn a1) λr6=>
 cond (r6)
 (some x3)
 (k4 (iA .i64 x3 1)))
 (k2 ())) 0
def Mi(a0:Ao):=
 aA (λy1=>
 cond (y1)
 (some false)
 (aA (λ(y4:Unit)=>
 some true) λk5=>
 tA FU (λ(x6:Int) k7=>
 cond (decide (x6<(a0.L.length:Int)))
 (aA (λy8=>
 cond (y8)
 (some false)
 (k7 (iA .i64 x6 1))) λk9=>
 ob (kA a0.L x6) λe10=>
 ob (LD e10) λr11=>
 cond (!r11)
 (k9 true)
 (ob (kA a0.L x6) λe12=>
 ob (KD a0 e12.Sn) λr13=>
 k9 (r13 !=x6)))
 (k5 ())) 0)) λk2=>
 cond (!(eA a0.Cap 1 6))
 (k2 true)
 (cond (decide ((a0.L.length:Int)>12))
 (k2 true)
 (ob (qJ a0) λr3=>
 k2 (decide (r3>a0.Cap))))
def Mj(a0:List Al):=
 cond (decide ((a0.length:Int)>8))
 (some false)
 (aA (λ(y1:Unit)=>
 some true) λk2=>
 tA FU (λ(x3:Int) k4=>
 cond (decide (x3<(a0.length:Int)))
 (aA (λy5=>
 cond (y5)
 (some false)
 (aA (λ(y12:Unit)=>
 k4 (iA .i64 x3 1)) λk13=>
 tA FU (λ(x14:Int) k15=>
 cond (decide (x14<x3))
 (ob (kA a0 x14) λe16=>
 ob (kA a0 x3) λe17=>
 let x18:Bool:=cond (e16.A.Host==e17.A.Host) (cond (e16.A.Port==e17.A.Port) (true) false) false
 cond (x18)
 (some false)
 (k15 (iA .i64 x14 1)))
 (k13 ())) 0)) λk6=>
 ob (kA a0 x3) λe7=>
 cond (!(GA e7.A))
 (k6 true)
 (ob (kA a0 x3) λe8=>
 cond (!(eA e8.Got 0 1000000))
 (k6 true)
 (ob (kA a0 x3) λe9=>
 ob (kA a0 x3) λe10=>
 let r11:Bool:=eA e9.Sent 0 (OB .i64 3 e10.Got)
 k6 (!r11))))
 (k2 ())) 0)
def Rw(a0:List UInt8):=
 some (eA (a0.length:Int) 1 32)
def Rx(a0:Ac):=
 aA (λy1=>
 cond (y1)
 (some false)
 (aA (λ(y4:Unit)=>
 aA (λ(y9:Unit)=>
 some true) λk10=>
 tA FU (λ(x11:Int) k12=>
 cond (decide (x11<(a0.T.L.length:Int)))
 (ob (kA a0.T.L x11) λe13=>
 cond (decide (e13.Id>(a0.Psks.length:Int)))
 (some false)
 (k12 (iA .i64 x11 1)))
 (k10 ())) 0) λk5=>
 tA FU (λ(x6:Int) k7=>
 cond (decide (x6<(a0.Psks.length:Int)))
 (ob (kA a0.Psks x6) λe8=>
 cond (!(GC e8))
 (some false)
 (k7 (iA .i64 x6 1)))
 (k5 ())) 0)) λk2=>
 cond (!(eA (a0.Psks.length:Int) 1 9))
 (k2 true)
 (cond (!(QE a0.J))
 (k2 true)
 (cond (!(gC a0.D))
 (k2 true)
 (ob (sG a0.T) λr3=>
 cond (!r3)
 (k2 true)
 (k2 (!(kD a0.Cr))))))
def Ry(a0:Ap):=
 aA (λ(y1:Bool)=>
 some y1) λk2=>
 cond ((GA a0.From))
 (cond ((GA a0.To))
 (k2 (decide ((a0.B.length:Int)≤200)))
 (k2 false))
 (k2 false)
def Rz(a0:List Ap):=
 aA (λ(y1:Unit)=>
 some (decide ((a0.length:Int)≤90))) λk2=>
 tA FU (λ(x3:Int) k4=>
 cond (decide (x3<(a0.length:Int)))
 (ob (kA a0 x3) λe5=>
 cond (!(PE e5))
 (some false)
 (k4 (iA .i64 x3 1)))
 (k2 ())) 0
def Mk(a0:Aw):=
 cond (!a0.On)
 (let x1:Bool:=cond (a0.On==false) (cond (a0.Due==0) (cond (a0.Wait==0) (cond (a0.Tries==0) (true) false) false) false) false
 some x1)
 (aA (λ(y2:Bool)=>
 some y2) λk3=>
 cond ((eA a0.Due 0 1000008))
 (cond (a0.Wait==1)
 (k3 (eA a0.Tries 1 5))
 (cond (a0.Wait==2)
 (k3 (eA a0.Tries 1 5))
 (cond (a0.Wait==4)
 (k3 (eA a0.Tries 1 5))
 (cond (a0.Wait==8)
 (k3 (eA a0.Tries 1 5))
 (k3 false)))))
 (k3 false))
def Ml(a0:Ab):=
 aA (λ(y1:Bool)=>
 some y1) λk2=>
 cond (a0.Kind==0)
 (cond (a0.Id==0)
 (cond ((a0.Cn.length:Int)==0)
 (cond ((a0.Sn.length:Int)==0)
 (cond (a0.Tick==0)
 (cond ((a0.Cookie.length:Int)==0)
 (cond ((a0.Proof.length:Int)==0)
 (cond (a0.Epoch==0)
 (cond (a0.Seq==0)
 (cond ((a0.Body.length:Int)==0)
 (k2 ((a0.Tag.length:Int)==0))
 (k2 false))
 (k2 false))
 (k2 false))
 (k2 false))
 (k2 false))
 (k2 false))
 (k2 false))
 (k2 false))
 (k2 false))
 (k2 false)
def Sa(a0:Int):=
 some (eA a0 4 8)
def Ps(a0:Int)(a1:Int):=
 cond (a0==4)
 (some (decide (a1≤40)))
 (aA (λy1=>
 cond (y1)
 (some (a1==12))
 (some (a1==4))) λk2=>
 cond (a0==5)
 (k2 true)
 (k2 (a0==6)))
def Mm(a0:Ab):=
 cond ((jC a0.Kind))
 (aA (λ(y1:Bool)=>
 some y1) λk2=>
 cond (a0.Id==0)
 (cond ((a0.Cn.length:Int)==0)
 (cond ((a0.Sn.length:Int)==12)
 (cond (a0.Tick==0)
 (cond ((a0.Cookie.length:Int)==0)
 (cond ((a0.Proof.length:Int)==0)
 (cond ((eA a0.Epoch 0 4294967295))
 (cond ((eA a0.Seq 0 281474976710655))
 (let r3:Bool:=dG a0.Kind (a0.Body.length:Int)
 cond (r3)
 (k2 ((a0.Tag.length:Int)==16))
 (k2 false))
 (k2 false))
 (k2 false))
 (k2 false))
 (k2 false))
 (k2 false))
 (k2 false))
 (k2 false))
 (k2 false))
 (aA (λy4=>
 cond (y4)
 (some false)
 (cond (a0.Kind==1)
 (aA (λ(y6:Bool)=>
 some y6) λk7=>
 cond ((eA a0.Id 1 9))
 (cond ((a0.Sn.length:Int)==0)
 (cond (a0.Tick==0)
 (cond ((a0.Cookie.length:Int)==0)
 (k7 ((a0.Proof.length:Int)==0))
 (k7 false))
 (k7 false))
 (k7 false))
 (k7 false))
 (cond (a0.Kind==2)
 (aA (λ(y8:Bool)=>
 some y8) λk9=>
 cond (a0.Id==0)
 (cond ((a0.Sn.length:Int)==12)
 (cond ((eA a0.Tick 0 1000000))
 (cond ((a0.Cookie.length:Int)==16)
 (k9 ((a0.Proof.length:Int)==0))
 (k9 false))
 (k9 false))
 (k9 false))
 (k9 false))
 (cond (a0.Kind==3)
 (aA (λ(y10:Bool)=>
 some y10) λk11=>
 cond ((eA a0.Id 1 9))
 (cond ((a0.Sn.length:Int)==12)
 (cond ((eA a0.Tick 0 1000000))
 (cond ((a0.Cookie.length:Int)==16)
 (k11 ((a0.Proof.length:Int)==16))
 (k11 false))
 (k11 false))
 (k11 false))
 (k11 false))
 (some false))))) λk5=>
 cond (a0.Epoch !=0)
 (k5 true)
 (cond (a0.Seq !=0)
 (k5 true)
 (cond ((a0.Body.length:Int) !=0)
 (k5 true)
 (cond ((a0.Tag.length:Int) !=0)
 (k5 true)
 (k5 ((a0.Cn.length:Int) !=12))))))
def Mn(a0:Ae):=
 aA (λy1=>
 cond (y1)
 (some false)
 (cond (a0.St==0)
 (aA (λ(y3:Bool)=>
 some y3) λk4=>
 cond ((a0.Cn.length:Int)==0)
 (cond ((LF a0.Fin))
 (cond ((tC a0.C))
 (cond (!a0.T.On)
 (cond (!a0.R.On)
 (k4 (a0.Last==0))
 (k4 false))
 (k4 false))
 (k4 false))
 (k4 false))
 (k4 false))
 (cond ((a0.Cn.length:Int) !=12)
 (some false)
 (cond (a0.St==3)
 (aA (λ(y5:Bool)=>
 some y5) λk6=>
 cond ((LF a0.Fin))
 (ob (uC a0.C) λr7=>
 cond (r7)
 (cond (a0.C.Role==0)
 (cond (!a0.T.On)
 (k6 (a0.R.On==(decide ((a0.C.Next.length:Int)>0))))
 (k6 false))
 (k6 false))
 (k6 false))
 (k6 false))
 (aA (λy8=>
 cond (y8)
 (some false)
 (cond (a0.St==1)
 (aA (λ(y10:Bool)=>
 some y10) λk11=>
 cond ((LF a0.Fin))
 (k11 (tC a0.C))
 (k11 false))
 (aA (λ(y12:Bool)=>
 some y12) λk13=>
 cond (a0.St==2)
 (cond ((wB a0.Fin))
 (cond (a0.Fin.Kind==3)
 (cond (a0.Fin.Id==a0.Id)
 (ob (EB a0.Fin.Cn a0.Cn) λr14=>
 cond (r14)
 (ob (uC a0.C) λr15=>
 cond (r15)
 (cond (a0.C.Role==0)
 (ob (EB a0.C.Sn a0.Fin.Sn) λr16=>
 cond (r16)
 (cond (a0.C.Cur.N==0)
 (cond (!a0.C.HasOld)
 (k13 ((a0.C.Next.length:Int)==0))
 (k13 false))
 (k13 false))
 (k13 false))
 (k13 false))
 (k13 false))
 (k13 false))
 (k13 false))
 (k13 false))
 (k13 false))
 (k13 false)))) λk9=>
 cond (!a0.T.On)
 (k9 true)
 (cond (a0.R.On)
 (k9 true)
 (k9 (a0.Last !=0)))))))) λk2=>
 cond (!(eA a0.Id 1 9))
 (k2 true)
 (cond (!(GC a0.Psk))
 (k2 true)
 (cond (!(GA a0.At))
 (k2 true)
 (cond (!(xD a0.T))
 (k2 true)
 (cond (!(xD a0.R))
 (k2 true)
 (k2 (!(eA a0.Last 0 1000000)))))))
def Mo(a0:Aa):=
 aA (λy1=>
 cond (y1)
 (some false)
 (aA (λ(y4:Unit)=>
 aA (λ(y16:Unit)=>
 aA (λ(y21:Unit)=>
 some true) λk22=>
 tA FU (λ(x23:Int) k24=>
 cond (decide (x23<(a0.Notes.length:Int)))
 (ob (kA a0.Notes x23) λe25=>
 cond (!(mC e25))
 (some false)
 (k24 (iA .i64 x23 1)))
 (k22 ())) 0) λk17=>
 tA FU (λ(x18:Int) k19=>
 cond (decide (x18<(a0.Known.length:Int)))
 (ob (kA a0.Known x18) λe20=>
 cond ((e20.length:Int) !=32)
 (some false)
 (k19 (iA .i64 x18 1)))
 (k17 ())) 0) λk5=>
 tA FU (λ(x6:Int) k7=>
 cond (decide (x6<2))
 (aA (λy8=>
 cond (y8)
 (some false)
 (k7 (iA .i64 x6 1))) λk9=>
 ob (kA a0.Clients x6) λe10=>
 ob (OD e10) λr11=>
 cond (!r11)
 (k9 true)
 (ob (kA a0.Clients x6) λe12=>
 cond (e12.Id !=(iA .i64 x6 1))
 (k9 true)
 (ob (kA a0.Clients x6) λe13=>
 ob (kA a0.S.Psks x6) λe14=>
 ob (EB e13.Psk e14) λr15=>
 k9 (!r15))))
 (k5 ())) 0)) λk2=>
 cond (!(eA a0.Now 0 1000000))
 (k2 true)
 (cond ((a0.Clients.length:Int) !=2)
 (k2 true)
 (ob (JC a0.S) λr3=>
 cond (!r3)
 (k2 true)
 (cond ((a0.S.Psks.length:Int) !=2)
 (k2 true)
 (cond (!(gC a0.D))
 (k2 true)
 (cond (!(QD a0.Seen))
 (k2 true)
 (k2 (decide ((a0.Known.length:Int)>12))))))))
def Sb(a0:Ap):=
 aA (λ(y1:Bool)=>
 some y1) λk2=>
 cond ((GA a0.From))
 (cond ((GA a0.To))
 (k2 (decide ((a0.B.length:Int)≤200)))
 (k2 false))
 (k2 false)
def Mp(a0:List Ap):=
 aA (λ(y1:Unit)=>
 some (decide ((a0.length:Int)≤90))) λk2=>
 tA FU (λ(x3:Int) k4=>
 cond (decide (x3<(a0.length:Int)))
 (ob (kA a0 x3) λe5=>
 cond (!(PE e5))
 (some false)
 (k4 (iA .i64 x3 1)))
 (k2 ())) 0
def Mq(a0:Aa):=
 aA (λy1=>
 cond (y1)
 (some false)
 (aA (λy4=>
 cond (y4)
 (some false)
 (aA (λ(y6:Unit)=>
 aA (λ(y16:Unit)=>
 aA (λ(y21:Unit)=>
 some true) λk22=>
 tA FU (λ(x23:Int) k24=>
 cond (decide (x23<(a0.Notes.length:Int)))
 (ob (kA a0.Notes x23) λe25=>
 cond (!(mC e25))
 (some false)
 (k24 (iA .i64 x23 1)))
 (k22 ())) 0) λk17=>
 tA FU (λ(x18:Int) k19=>
 cond (decide (x18<(a0.Known.length:Int)))
 (ob (kA a0.Known x18) λe20=>
 cond ((e20.length:Int) !=32)
 (some false)
 (k19 (iA .i64 x18 1)))
 (k17 ())) 0) λk7=>
 tA FU (λ(x8:Int) k9=>
 cond (decide (x8<(a0.Clients.length:Int)))
 (ob (kA a0.Clients x8) λe10=>
 aA (λy11=>
 cond (y11)
 (some false)
 (k9 (iA .i64 x8 1))) λk12=>
 ob (OD e10) λr13=>
 cond (!r13)
 (k12 true)
 (cond (e10.Id !=(iA .i64 x8 1))
 (k12 true)
 (ob (kA a0.S.Psks x8) λe14=>
 ob (EB e10.Psk e14) λr15=>
 k12 (!r15))))
 (k7 ())) 0)) λk5=>
 cond (!(gC a0.D))
 (k5 true)
 (cond (!(QD a0.Seen))
 (k5 true)
 (k5 (decide ((a0.Known.length:Int)>12)))))) λk2=>
 cond (!(eA a0.Now 0 1000000))
 (k2 true)
 (cond ((a0.Clients.length:Int) !=2)
 (k2 true)
 (ob (JC a0.S) λr3=>
 cond (!r3)
 (k2 true)
 (k2 ((a0.S.Psks.length:Int) !=2))))
end
end Go.D
namespace Go.D
end Go.D
namespace Go.D
open Option renaming bind→ob
def zb2.ok{x}(_:xA [.v .Addr] x):Rf x=some (GA x):=zke x
def zbx.ok{x}(_:xA [.v .Addr] x):Re x=some (GA x):=zke x
def zld(i:Int):(cond (!(eA i 0 255)) (some (⟨0,0⟩:Ai)) (some (⟨iA .i64 167772160 i,iA .i64 7000 i⟩:Ai)))=some (AB i):=by
 cases h:eA i 0 255
 ·rw[zv0]at h;simp[AB,h]
 ·rw[fD]at h;simp only[Bool.not_true,cond_false,AB,h,and_self,if_true,iA];rw[MB (by omega) (by omega),MB (by omega) (by omega)]
def zcJ.ok{x}(_:xA [.v .int] x):Rg x=some (AB x):=zld _
def zcY.ok{x}(_:xA [.v .int] x):Ri x=some (AB x):=zld _
def zda.ok{x}(_:xA [] x):Rh=some BE:=rfl
def zdk.ok{x}(_:xA [] x):Rj=some BE:=rfl
def eK(a b:Ai):(cond (a.Host==b.Host) (cond (a.Port==b.Port) (true) false) false)=RB a b:=by
 simp only[RB,Bool.cond_false_right,Bool.and_true]
def zsu(w:Aa)(a:Ai)(h:wt w≤bA){f:Ae→Option Int}(hf:∀c,f c=some c.Id):cond (RB a BE) (some 0) (tA FU (λ(x5:Int) k6=>cond (decide (x5<(w.Clients.length:Int))) (ob (kA w.Clients x5) λe7=>cond (RB e7.At a) (f e7) (k6 (iA .i64 x5 1))) (some (-1))) 0)=some (KM w a):=by
 rw[qG]at h;rw[zkB w.Clients (lE (by omega)) (λc=>RB c.At a) (λc=>some c.Id) (some (-1)) (λi k hi=>?_) (λk=>by simp only[XD,cond_false])]
 ·rw[KM];cases RB a BE
  ·cases w.Clients.find? _<;>rfl
  ·rfl
 ·simp only[BD hi,cond_true,JB hi,mB,hf]
def zpo(w:Aa)(a:Ai)(h:wt w≤bA):Lt w a=some (KM w a):=by
 simp only[Lt,aA,eK];exact zsu w a h (λ_=>rfl)
def LQ.ok{x}(_:xA [.v .World, .v .Addr] x){r}:gL x.1 x.2=some r→Lt x.1 x.2=some r:=TA λh=>zpo x.1 x.2 h
def zpz(w:Aa)(a:Ai)(h:wt w≤bA):Ls w a=some (KM w a):=by
 rw[qG]at h;simp only[Ls,aA,eK];rw[zkB w.Clients (lE (by omega)) (λc=>RB c.At a) (λc=>some c.Id) (some (-1)) (λi k hi=>?_) (λk=>by simp only[XD,cond_false])]
 ·rw[KM];cases RB a BE
  ·cases w.Clients.find? _<;>rfl
  ·rfl
 ·simp only[BD hi,cond_true,JB hi,mB]
def cR.ok{x}(_:xA [.v .World, .v .Addr] x){r}:gL x.1 x.2=some r→Ls x.1 x.2=some r:=TA λh=>zpz x.1 x.2 h
def TU.ok{x}(_:xA [.v .int, .v .int] x):Pp x.1 x.2=some (UD x.1 x.2):=by
 simp only[Pp,aA,cD,Bool.cond_true_left];rfl
def yU.ok{x}(_:xA [.sl .byte, .v .int] x):Pq x.1 x.2=some (WC x.1 x.2):=by
 simp only[Pq,aA,cD,Bool.cond_true_left];rfl
def LR.ok{x}(_:xA [.v .Note] x):Lr x=some (mC x):=by
 show Lr (x:Ad)=some (mC (x:Ad))
 generalize (show Ad from x)=n;simp only[Lr,aA,cD,Bool.cond_false_right,mC]
 grind
def GR.ok{x}(_:xA [.v .Note] x):Lq x=some (mC x):=by
 show Lq (x:Ad)=some (mC (x:Ad))
 generalize (show Ad from x)=n;simp only[Lq,aA,cD,Bool.cond_false_right,mC,WC]
 grind
def zce.ok{x}(_:xA [.v .Jar] x):Rm x=some (QE x):=rfl
def zcf.ok{x}(_:xA [.v .Jar] x):Rt x=some (QE x):=rfl
def zj6(d:Au):(aA (λ(y1:Bool)=>some y1) λk2=>cond (eA (d.Seed.length:Int) 1 32) (k2 (eA d.N 0 10000)) (k2 false))=some (gC d):=by
 simp only[aA,cD,Bool.cond_false_right,gC]
def zbB.ok{x}(_:xA [.v .Dice] x):Rl x=some (gC x):=zj6 x
def zbH.ok{x}(_:xA [.v .Dice] x):Rs x=some (gC x):=zj6 x
def zlw(t:Ao)(h:wt t≤bA):(aA (λ(y1:Int)=>some y1) λk2=>tA FU (λ(x3:Int×Int) k4=>cond (decide (x3.2<(t.L.length:Int))) (ob (kA t.L x3.2) λe5=>
  aA (λ(y6:Int)=>k4 (y6,(iA .i64 x3.2 1))) λk7=>cond (!e5.Dead) (k7 (iA .i64 x3.1 1)) (k7 x3.1)) (k2 x3.1)) (0,0))=some (live t):=by
 rw[mJ]at h;simp only[aA];rw[ztV t.L (lE h) (λs e=>bif e.Dead then s else iA .i64 s 1) (λs=>some s) (λi s k hi=>?_) (λs k=>by simp only[XD,cond_false])]
 ·rfl
 ·simp only[BD hi,cond_true,JB hi,mB];cases t.L[i].Dead<;>rfl
def zcy.ok{x}(_:xA [.v .Tab] x){r}:qJ x=some r→Rn x=some r:=TA λh=>zlw x h
def zcC.ok{x}(_:xA [.v .Tab] x){r}:qJ x=some r→Ru x=some r:=TA λh=>zlw x h
def LP.ok{x}(_:xA [.v .Chan] x):Mf x=some (tC x):=by
 show Mf (x:Ak)=some (tC (x:Ak))
 generalize (show Ak from x)=c;simp only[Mf,aA,cD,Bool.cond_false_right,tC]
 grind
def zox(c:Ak)(h:wt c≤bA):Lu c=some (tC c):=by
 rw[MH]at h
 simp only[Lu,aA,FO,UA (p:=wt c.Old≤bA∧wt (⟨0,[],0,(⟨0,[]⟩:Aq)⟩:Ax)≤bA) ⟨by omega,zg9⟩,
  UA (p:=wt c.Cur≤bA∧wt (⟨0,[],0,(⟨0,[]⟩:Aq)⟩:Ax)≤bA) ⟨by omega,zg9⟩,zk1,cD,Bool.cond_false_right,tC]
 grind
def DP.ok{x}(_:xA [.v .Chan] x){r}:BO x=some r→Lu x=some r:=TA λh=>zox x h
def mK(a b:Int):decide (a>b)= !decide (a≤b):=by
 by_cases h:a≤b
 ·rw[decide_eq_true h,decide_eq_false (by omega)];rfl
 ·rw[decide_eq_false h,decide_eq_true (by omega)];rfl
def RQ.ok{x}(_:xA [.v .Paths] x):Mg x=some (sC x):=by
 show Mg (x:Aj)=some (sC (x:Aj))
 generalize (show Aj from x)=p;simp only[Mg,aA,eK,sC,mK (p.Cands.length:Int) 3];cases GA p.At
 ·rfl
 cases hd:decide ((p.Cands.length:Int)≤3)
 ·rfl
 have hd:=of_decide_eq_true hd;have hl:p.Cands.length≤maxLen:=by rw[AD];omega
 simp only[Bool.not_true,cond_false];rw[WI p.Cands.length hl (EO p) (some false) (some true) (λi k hi=>?_) (λk=>by simp only[XD,cond_false])]
 ·cases HB _ _<;>rfl
 ·simp only[BD hi,cond_true,JB hi,mB];rw[WI i (by omega) (λj=>(p.Cands[j]?).any λd=>RB d.A p.Cands[i].A) (some false) (k (iA .i64 (i:Int) 1)) (λj k' hj=>?_) (λk'=>by simp only[XD,cond_false])]
  ·simp only[EO,PF hi,nA];cases GA p.Cands[i].A<;>cases hn:((p.Cands[i].Draw.length:Int)==12)<;>cases eA p.Cands[i].Until 0 1000006<;>cases RB p.Cands[i].A p.At<;>cases HB i _<;>simp[bne,hn]
  ·simp only[BD hj,cond_true,JB (Nat.lt_trans hj hi),mB,PF (Nat.lt_trans hj hi)]
def CQ.ok{x}(_:xA [.v .Paths] x):Lv x=some (sC x):=by
 show Lv (x:Aj)=some (sC (x:Aj))
 generalize (show Aj from x)=p;simp only[Lv,aA,eK,sC,mK (p.Cands.length:Int) 3];cases GA p.At
 ·rfl
 cases hd:decide ((p.Cands.length:Int)≤3)
 ·rfl
 have hd:=of_decide_eq_true hd;have hl:p.Cands.length≤maxLen:=by rw[AD];omega
 simp only[Bool.not_true,cond_false];rw[WI p.Cands.length hl (EO p) (some false) (some true) (λi k hi=>?_) (λk=>by simp only[XD,cond_false])]
 ·cases HB _ _<;>rfl
 ·have KV:(p.Cands.take i).length=i:=by rw[List.length_take];omega
  simp only[BD hi,cond_true,JB hi,mB,zxn (Nat.le_of_lt hi),zxp];rw[WI i (by omega) (λj=>(p.Cands[j]?).any λd=>RB d.A p.Cands[i].A) (some false) (k (iA .i64 (i:Int) 1)) (λj k' hj=>?_) (λk'=>by rw[KV];simp only[XD,cond_false])]
  ·simp only[EO,PF hi];cases GA p.Cands[i].A<;>cases nA p.Cands[i].Draw<;>cases eA p.Cands[i].Until 0 1000006<;>cases RB p.Cands[i].A p.At<;>cases HB i _<;>rfl
  ·have VW:j<(p.Cands.take i).length:=by omega
   simp only[BD VW,cond_true,JB VW,mB,PF (Nat.lt_trans hj hi),List.getElem_take]
def zpB(s:Ah)(h:wt s≤bA):Mh s=some (vC s):=by
 rw[lL]at h;have hc:=MH s.C;have hn:AB (-1)=⟨0,0⟩:=rfl;have h0:s.Last=0→eA s.Last 0 1000000=true:=λh=>by rw[h];rfl
 simp only[Mh,aA,eK];simp only[hn,uC,UA (p:=wt s.C≤bA) (by omega),QI (a:=s.C.Sn) (b:=s.Sn) (by omega) (by omega),vC,nA];cases s.Dead<;>simp only[cD,Bool.cond_false_right,cond_true,cond_false]<;>grind
def oR.ok{x}(_:xA [.v .Sess] x){r}:LD x=some r→Mh x=some r:=TA λh=>zpB x h
def zp1(s:Ah)(h:wt s≤bA):Lw s=some (vC s):=by
 rw[lL]at h;have hc:=MH s.C;have hn:(cond (s.P.At.Host==0) (cond (s.P.At.Port==0) (true) false) false)=RB s.P.At ⟨0,0⟩:=eK s.P.At ⟨0,0⟩;simp only[Lw,aA,hn,uC,BO,UA (p:=wt s.C≤bA) (by omega),QI (a:=s.C.Sn) (b:=s.Sn) (by omega) (by omega),vC];cases s.Dead<;>simp only[cD,Bool.cond_false_right,cond_true,cond_false]<;>grind
def HR.ok{x}(_:xA [.v .Sess] x){r}:LD x=some r→Lw x=some r:=TA λh=>zp1 x h
def zkg(t:Ao)(b:List UInt8)(h:wt t≤bA∧wt b≤bA):(aA (λ(y1:Unit)=>some (-1)) λk2=>tA FU (λ(x3:Int) k4=>cond (decide (x3<(t.L.length:Int))) (ob (kA t.L x3) λe5=>
  ob (EB e5.Sn b) λr6=>cond (r6) (some x3) (k4 (iA .i64 x3 1))) (k2 ())) 0)=some (OE t b):=by
 rw[mJ]at h;simp only[aA];rw[zf0 t.L.length (lE h.1) (vG t b) (λi k hi=>?_) (λk=>by simp only[XD,cond_false])]
 ·rfl
 ·have:=yE hi;have hs:=lL t.L[i];simp only[BD hi,cond_true,JB hi,mB,vG,PF hi,QI (a:=t.L[i].Sn) (b:=b) (by omega) h.2]
def zbO.ok{x}(_:xA [.v .Tab, .sl .byte] x){r}:KD x.1 x.2=some r→Ro x.1 x.2=some r:=TA λh=>zkg x.1 x.2 h
def zbS.ok{x}(_:xA [.v .Tab, .sl .byte] x){r}:KD x.1 x.2=some r→Rv x.1 x.2=some r:=TA λh=>zkg x.1 x.2 h
def zkf{t:Ao}{i:Nat}(hi:i<t.L.length):vG t t.L[i].Sn i=true:=by simp[vG,hi]
def zl8{t:Ao}(h:wt t≤bA){i:Nat}(hi:i<t.L.length):wt t.L[i]≤bA∧wt t.L[i].Sn≤bA:=by
 rw[mJ]at h;have:=yE hi;have hs:=lL t.L[i];omega
def zp8(t:Ao)(h:wt t≤bA):Mi t=some (TC t):=by
 have hl:=lE (mJ t▸h);simp only[Mi,aA,TC,qJ,UA h,mK (t.L.length:Int) 12,mK (live t) t.Cap]
 have key:tA FU (λ(x5:Int) k6=>cond (decide (x5<(t.L.length:Int))) (ob (kA t.L x5) λe9=>ob (LD e9) λr10=>cond (!r10) (cond true (some false) (k6 (iA .i64 x5 1))) (ob (kA t.L x5) λe11=>
   ob (KD t e11.Sn) λr12=>cond (r12 !=x5) (some false) (k6 (iA .i64 x5 1)))) (some true)) 0=some (!(HB t.L.length (oL t))):=by
  rw[WI t.L.length hl (oL t) (some false) (some true) (λi k hi=>?_) (λk=>by simp only[XD,cond_false])]
  ·cases HB _ _<;>rfl
  ·have hw:=zl8 h hi;simp only[BD hi,cond_true,JB hi,mB,LD,UA hw.1,KD,UA (p:=wt t≤bA∧wt t.L[i].Sn≤bA) ⟨h,hw.2⟩,OE,(zgm hi (zkf hi)).2,oL,PF hi];cases vC t.L[i]<;>cases HB i _<;>rfl
 rw[key];cases eA t.Cap 1 6<;>cases decide ((t.L.length:Int)≤12)<;>cases decide (live t≤t.Cap)<;>rfl
def SR.ok{x}(_:xA [.v .Tab] x){r}:sG x=some r→Mi x=some r:=TA λh=>zp8 x h
def zp5(t:Ao)(h:wt t≤bA):Lx t=some (TC t):=by
 have hl:=lE (mJ t▸h);simp only[Lx,aA,TC,qJ,UA h,mK (t.L.length:Int) 12,mK (live t) t.Cap]
 have key:tA FU (λ(x5:Int) k6=>cond (decide (x5<(t.L.length:Int))) (ob (kA t.L x5) λe9=>ob (LD e9) λr10=>cond (!r10) (cond true (some false) (k6 (iA .i64 x5 1)))
   (ob (KD t e9.Sn) λr12=>cond (decide (r12<x5)) (some false) (k6 (iA .i64 x5 1)))) (some true)) 0=some (!(HB t.L.length (oL t))):=by
  rw[WI t.L.length hl (oL t) (some false) (some true) (λi k hi=>?_) (λk=>by simp only[XD,cond_false])]
  ·cases HB _ _<;>rfl
  ·have hw:=zl8 h hi;simp only[BD hi,cond_true,JB hi,mB,LD,UA hw.1,KD,UA (p:=wt t≤bA∧wt t.L[i].Sn≤bA) ⟨h,hw.2⟩,OE,(zgm hi (zkf hi)).1,oL,PF hi];cases vC t.L[i]<;>cases HB i _<;>rfl
 rw[key];cases eA t.Cap 1 6<;>cases decide ((t.L.length:Int)≤12)<;>cases decide (live t≤t.Cap)<;>rfl
def QR.ok{x}(_:xA [.v .Tab] x){r}:sG x=some r→Lx x=some r:=TA λh=>zp5 x h
end Go.D
namespace Go.D
def zl2(l:List Al)(a:Ai)(hl:l.length≤maxLen):(aA (λ(y1:Unit)=>some (-1)) λk2=>tA FU (λ(x3:Int) k4=>cond (decide (x3<(l.length:Int))) (Option.bind (kA l x3) λe5=>
  cond (cond (e5.A.Host==a.Host) (cond (e5.A.Port==a.Port) (true) false) false) (some x3) (k4 (iA .i64 x3 1))) (k2 ())) 0)=some (oB l a):=by
 simp only[aA,eK];rw[zf0 l.length hl (VG l a) (λi k hi=>?_) (λk=>by simp only[XD,cond_false])]
 ·rfl
 ·simp only[BD hi,cond_true,JB hi,mB,VG,PF hi]
def za8.ok{x}(hb:xA [.sl .Credit, .v .Addr] x):Rp x.1 x.2=some (oB x.1 x.2):=zl2 x.1 x.2 hb.1.1
def zsY(a:Ai):RB a a=true:=by simp[RB]
def ztn{l:List Al}{i:Nat}(hi:i<l.length):VG l l[i].A i=true:=by simp[VG,hi,zsY]
def zw7{l:List Al}{i:Nat}(hi:i<l.length):decide (oB l l[i].A<(i:Int))=HB i (VG l l[i].A):=(zgm (p:=VG l l[i].A) hi (ztn hi)).1
def QP.ok{x}(hb:xA [.sl .Credit] x):Ly x=some (kD x):=by
 show Ly (x:List Al)=some (kD (x:List Al))
 have hl:(show List Al from x).length≤maxLen:=hb.1;generalize (show List Al from x)=l at hl⊢;simp only[Ly,aA,kD,mK (l.length:Int) 8];rw[WI l.length hl (cS l) (some false) (some true) (λi k hi=>?_) (λk=>by simp only[XD,cond_false])]
 ·cases decide ((l.length:Int)≤8)<;>cases HB _ _<;>rfl
 ·simp only[BD hi,cond_true,JB hi,mB,zw7 hi,cS,PF hi];cases GA l[i].A<;>cases eA l[i].Got 0 1000000<;>cases eA l[i].Sent 0 _<;>cases HB i _<;>rfl
def NP.ok{x}(hb:xA [.sl .Credit] x):Mj x=some (kD x):=by
 show Mj (x:List Al)=some (kD (x:List Al))
 have hl:(show List Al from x).length≤maxLen:=hb.1;generalize (show List Al from x)=l at hl⊢;simp only[Mj,aA,kD,mK (l.length:Int) 8,eK];rw[WI l.length hl (cS l) (some false) (some true) (λi k hi=>?_) (λk=>by simp only[XD,cond_false])]
 ·cases decide ((l.length:Int)≤8)<;>cases HB _ _<;>rfl
 ·simp only[BD hi,cond_true,JB hi,mB];rw[WI i (by omega) (VG l l[i].A) (some false) (k (iA .i64 (i:Int) 1)) (λj k' hj=>?_) (λk'=>by simp only[XD,cond_false])]
  ·simp only[cS,PF hi];cases GA l[i].A<;>cases eA l[i].Got 0 1000000<;>cases eA l[i].Sent 0 _<;>cases HB i _<;>rfl
  ·simp only[BD hj,cond_true,JB (Nat.lt_trans hj hi),JB hi,mB,VG,PF (Nat.lt_trans hj hi)]
def zcl.ok{x}(_:xA [.sl .byte] x):Rq x=some (GC x):=rfl
def zco.ok{x}(_:xA [.sl .byte] x):Rw x=some (GC x):=rfl
def zjq(s:Ac)(h:wt s≤bA):Lz s=some (KB s):=by
 rw[oM]at h;have hT:=mJ s.T;simp only[Lz,aA,sG,UA (p:=wt s.T≤bA) (by omega),KB];rw[wS s.Psks (lE (by omega)) (λb=>!GC b) (some false) _ (λi k hi=>?_) (λk=>by simp only[XD,cond_false];rfl)]
 ·rw[wS s.T.L (lE (by omega)) (λe=>decide (e.Id>(s.Psks.length:Int))) (some false) (some true) (λi k hi=>?_) (λk=>by simp only[XD,cond_false])]
  ·cases eA (s.Psks.length:Int) 1 9<;>cases QE s.J<;>cases gC s.D<;>cases TC s.T<;>cases kD s.Cr<;>cases s.Psks.any _<;>cases s.T.L.any _<;>rfl
  ·simp only[BD hi,cond_true,JB hi,mB]
 ·simp only[BD hi,cond_true,JB hi,mB]
def iQ.ok{x}(_:xA [.v .Server] x){r}:JC x=some r→Lz x=some r:=TA λh=>zjq x h
def za5.ok{x}(_:xA [.v .Server] x){r}:JC x=some r→Rx x=some r:=TA λh=>zjq x h
def zkk(w:Ap):(aA (λ(y1:Bool)=>some y1) λk2=>cond ((GA w.From)) (cond ((GA w.To)) (k2 (decide ((w.B.length:Int)≤200))) (k2 false)) (k2 false))=some (PE w):=by
 simp only[aA,cD,Bool.cond_false_right,PE,Bool.and_assoc]
def zbN.ok{x}(_:xA [.v .Wire] x):Sb x=some (PE x):=zkk x
def zbJ.ok{x}(_:xA [.v .Wire] x):Ry x=some (PE x):=zkk x
def zj1(l:List Ap)(hl:l.length≤maxLen):Mp l=some (QD l):=by
 simp only[Mp,aA,QD];rw[wS l hl (λw=>!PE w) (some false) _ (λi k hi=>?_) (λk=>by simp only[XD,cond_false];rfl)]
 ·cases l.any _<;>rfl
 ·simp only[BD hi,cond_true,JB hi,mB]
def TQ.ok{x}(hb:xA [.sl .Wire] x):Mp x=some (QD x):=zj1 x hb.1
def zbb.ok{x}(hb:xA [.sl .Wire] x):Rz x=some (QD x):=zj1 x hb.1
def zoE(f g:Ab)(h:wt f≤bA∧wt g≤bA):Ma f g=some (YJ f g):=by
 simp only[IH]at h;simp(disch:=omega) only[Ma,aA,QI];simp only[cD,Bool.cond_false_right,YJ,Bool.and_assoc]
def HP.ok{x}(_:xA [.v .Frame, .v .Frame] x){r}:VN x.1 x.2=some r→Ma x.1 x.2=some r:=TA λh=>zoE x.1 x.2 h
def zfK(t:Aw):(cond (t.On==false) (cond (t.Due==0) (cond (t.Wait==0) (cond (t.Tries==0) (true) false) false) false) false)=KF t:=by
 simp only[Bool.cond_false_right,KF,Bool.and_true,Bool.and_assoc]
def VQ.ok{x}(_:xA [.v .Timer] x):Mb x=some (xD x):=by
 show Mb (x:Aw)=some (xD (x:Aw))
 generalize (show Aw from x)=t;simp only[Mb,zfK,aA,xD];cases t.On
 ·rfl
 ·simp only[Bool.not_true,cond_false,cond_true,cD];cases eA t.Due 0 1000008<;>cases eA t.Tries 1 5<;>grind
def tQ.ok{x}(_:xA [.v .Timer] x):Mk x=some (xD x):=by
 show Mk (x:Aw)=some (xD (x:Aw))
 generalize (show Aw from x)=t;simp only[Mk,zfK,aA,xD];cases t.On
 ·rfl
 ·simp only[Bool.not_true,cond_false,cond_true,cD];cases eA t.Due 0 1000008<;>cases eA t.Tries 1 5<;>grind
def sP.ok{x}(_:xA [.v .Frame] x):Ml x=some (LF x):=by
 show Ml (x:Ab)=some (LF (x:Ab))
 generalize (show Ab from x)=f;simp only[Ml,aA,cD,Bool.cond_false_right,LF,Bool.and_assoc]
def zbY.ok{x}(_:xA [.v .int] x):Rr x=some (jC x):=rfl
def zb1.ok{x}(_:xA [.v .int] x):Sa x=some (jC x):=rfl
def LU.ok{x}(_:xA [.v .int, .v .int] x):Pr x.1 x.2=some (dG x.1 x.2):=by
 simp only[Pr,aA,cD,dG];cases h5:x.1==(5:Int)<;>cases h4:x.1==(4:Int)<;>simp
def IU.ok{x}(_:xA [.v .int, .v .int] x):Ps x.1 x.2=some (dG x.1 x.2):=by
 simp only[Ps,aA,cD,dG];cases h5:x.1==(5:Int)<;>cases h4:x.1==(4:Int)<;>simp
def zgC(a b:Int):(a !=b)= !(a==b):=rfl
def aR.ok{x}(_:xA [.v .Frame] x):Mm x=some (wB x):=by
 show Mm (x:Ab)=some (wB (x:Ab))
 generalize (show Ab from x)=f;simp only[Mm,aA,cD,Bool.cond_false_right,Bool.cond_false_left,Bool.cond_true_left,Bool.cond_true_right,wB,zgC];cases jC f.Kind
 ·simp only[cond_false];cases f.Epoch==0<;>cases f.Seq==0<;>cases(f.Body.length:Int)==0<;>cases(f.Tag.length:Int)==0<;>cases(f.Cn.length:Int)==12<;>simp[Bool.and_assoc]
 ·simp only[cond_true,Bool.and_assoc]
def zfA{k:Int}(h:jC k=true):(k==1)=false∧(k==2)=false∧(k==3)=false:=by
 rw[jC,fD]at h;exact⟨beq_false_of_ne (by omega),beq_false_of_ne (by omega),beq_false_of_ne (by omega)⟩
def nV(l:List UInt8):(l==[])=((l.length:Int)==0):=by rw[zoa];cases l<;>rfl
def zpn(f:Ab)(h:wt f≤bA):Mc f=some (wB f):=by
 have hs:∀g:Ab,wt g≤wt f→VN f g=some (YJ f g):=λg hg=>qA ⟨h,by omega⟩;have hw:=IH f;simp only[Mc,aA,cD,wB,nA];cases h1:f.Kind==1
 ·cases h2:f.Kind==2
  ·cases h3:f.Kind==3
   ·cases h4:jC f.Kind
    ·simp
    ·simp only[cond_true,cond_false];rw[hs _ (by simp only[IH,NG];omega)];simp only[YJ,beq_self_eq_true,nV,cD,Bool.cond_false_right];cases eA f.Epoch 0 4294967295<;>cases eA f.Seq 0 281474976710655<;>grind
   ·have h4 : jC f.Kind = false := by cases h4 : jC f.Kind; · rfl
                                      rw[(zfA h4).2.2]at h3;cases h3
    simp only[cond_true,cond_false,h4];rw[hs _ (by simp only[IH,NG];omega)];simp only[YJ,beq_self_eq_true,nV,cD,Bool.cond_false_right];cases eA f.Id 1 9<;>cases eA f.Tick 0 1000000<;>grind
  ·have h4 : jC f.Kind = false := by cases h4 : jC f.Kind; · rfl
                                     rw[(zfA h4).2.1]at h2;cases h2
   simp only[cond_true,cond_false,h4];rw[hs _ (by simp only[IH,NG];omega)];simp only[YJ,beq_self_eq_true,nV,cD,Bool.cond_false_right];cases eA f.Tick 0 1000000<;>grind
 ·have h4 : jC f.Kind = false := by cases h4 : jC f.Kind; · rfl
                                    rw[(zfA h4).1]at h1;cases h1
  simp only[cond_true,cond_false,h4];rw[hs _ (by simp only[IH,NG];omega)];simp only[YJ,beq_self_eq_true,nV,cD,Bool.cond_false_right];cases eA f.Id 1 9<;>grind
def xQ.ok{x}(_:xA [.v .Frame] x){r}:VC x=some r→Mc x=some r:=TA λh=>zpn x h
end Go.D
namespace Go.D
def zcM(c:Ae)(h:wt c≤bA):wt c.Psk≤bA∧wt c.Cn≤bA∧wt c.Fin≤bA∧wt c.C≤bA∧wt c.Fin.Cn≤bA∧wt c.Fin.Sn≤bA∧wt c.C.Sn≤bA∧wt c.C.Next≤bA∧wt c.C.Cur.Key≤bA:=by
 rw[yM]at h;have h1:=IH c.Fin;have h2:=MH c.C;have h3:=yL c.C.Cur;omega
def zpb(c:Ae)(h:wt c≤bA):Md c=some (ZI c):=by
 have hw:=zcM c h;simp only[Md,aA,VC,uC,UA (p:=wt c.Fin≤bA) hw.2.2.1,UA (p:=wt c.C≤bA) hw.2.2.2.1,QI hw.2.2.2.2.1 hw.2.1,QI hw.2.2.2.2.2.2.1 hw.2.2.2.2.2.1];simp only[cD,Bool.cond_false_right,Bool.cond_false_left,Bool.cond_true_left,Bool.not_true,Bool.false_and,ZI,zgC,Bool.not_or,Bool.not_not,Bool.and_assoc]
def pQ.ok{x}(_:xA [.v .Client] x){r}:zcS x=some r→Md x=some r:=TA λh=>zpb x h
def zsd(f:Ab):YJ f (⟨0,0,[],[],0,[],[],0,0,[],[]⟩:Ab)=LF f:=by
 simp only[YJ,LF,nV]
 grind
def zxE{c:Ae}(h:wt c.Fin≤bA):VN c.Fin (⟨0,0,[],[],0,[],[],0,0,[],[]⟩:Ab)=some (LF c.Fin):=by
 rw[VN,qA ⟨h,Nat.zero_le _⟩,zsd]
def zo4(c:Ae)(h:wt c≤bA):Me c=some (tB c):=by
 have hw:=zcM c h;simp only[Me,aA,zfK,zxE hw.2.2.1,mB,uC,BO,zcS,UA (p:=wt c.C≤bA) hw.2.2.2.1,UA h];simp only[cD,Bool.cond_false_right,Bool.cond_false_left,Bool.cond_true_left,Bool.not_true,Bool.false_and,tB,Bool.not_or,Bool.not_not,Bool.and_assoc]
def kQ.ok{x}(_:xA [.v .Client] x){r}:OD x=some r→Me x=some r:=TA λh=>zo4 x h
def zkF{t:Aw}(h:t.On=false):xD t=KF t:=by rw[xD,h];rfl
def zlq{t:Aw}(h:t.On=true):KF t=false:=by rw[KF,h];rfl
def zoS(c:Ae)(h:wt c≤bA):Mn c=some (tB c):=by
 have hw:=zcM c h;have hL:c.Last=0→eA c.Last 0 1000000=true:=λh=>by rw[h];rfl
 have hT0:=zkF (t:=c.T);have hT1:=zlq (t:=c.T);have hR0:=zkF (t:=c.R);have hR1:=zlq (t:=c.R)
 simp only[Mn,aA,uC,UA (p:=wt c.C≤bA) hw.2.2.2.1,QI hw.2.2.2.2.1 hw.2.1,QI hw.2.2.2.2.2.2.1 hw.2.2.2.2.2.1,
  cD,Bool.cond_false_right,Bool.cond_false_left,Bool.cond_true_left,tB,ZI,zgC,Bool.not_or,Bool.not_not,nA]
 refine congrArg some ?_;cases eA c.Id 1 9
 ·rfl
 cases GC c.Psk
 ·rfl
 cases GA c.At
 ·rfl
 simp only[Bool.true_and]
 by_cases s0:c.St=0
 ·simp only[s0,beq_self_eq_true,cond_true];cases hT:c.T.On<;>cases hR:c.R.On<;>simp_all<;>grind
 ·have e0:(c.St==0)=false:=beq_false_of_ne s0
  by_cases s3:c.St=3
  ·simp only[s3];cases hT:c.T.On<;>simp_all<;>grind
  ·have e3:(c.St==3)=false:=beq_false_of_ne s3;simp only[e0,e3,cond_false];cases hT:c.T.On
   ·simp
   ·cases hR:c.R.On
    ·by_cases s1:c.St=1
     ·simp_all;grind
     ·have e1:(c.St==1)=false:=beq_false_of_ne s1;simp only[e1,cond_false]
      by_cases s2:c.St=2
      ·simp_all;grind
      ·have e2:(c.St==2)=false:=beq_false_of_ne s2;simp[e2]
    ·simp_all
def lQ.ok{x}(_:xA [.v .Client] x){r}:OD x=some r→Mn x=some r:=TA λh=>zoS x h
def zdm(w:Aa)(h:wt w≤bA):wt w.Clients≤bA∧wt w.S≤bA∧wt w.S.Psks≤bA∧wt w.S.T≤bA∧wt w.S.T.L≤bA∧wt w.Seen≤bA∧wt w.Known≤bA∧wt w.Notes≤bA:=by
 rw[qG]at h;have h1:=oM w.S;have h2:=mJ w.S.T;omega
def zkp(l:List (List UInt8))(hl:l.length≤maxLen)(z:Option Bool):tA FU (λ(x16:Int) k17=>cond (decide (x16<(l.length:Int))) (Option.bind (kA l x16) λe18=>cond ((e18.length:Int) !=32) (some false) (k17 (iA .i64 x16 1))) z) 0
  =bif l.any λb=>(b.length:Int) !=32 then some false else z:=by
 rw[wS l hl (λb=>(b.length:Int) !=32) (some false) z (λi k hi=>?_) (λk=>by simp only[XD,cond_false])];simp only[BD hi,cond_true,JB hi,mB]
def zj5(l:List Ad)(hl:l.length≤maxLen)(z:Option Bool):tA FU (λ(x16:Int) k17=>cond (decide (x16<(l.length:Int))) (Option.bind (kA l x16) λe18=>cond (!(mC e18)) (some false) (k17 (iA .i64 x16 1))) z) 0
  =bif l.any λn=>!mC n then some false else z:=by
 rw[wS l hl (λn=>!mC n) (some false) z (λi k hi=>?_) (λk=>by simp only[XD,cond_false])];simp only[BD hi,cond_true,JB hi,mB]
def zs8{w:Aa}(h:wt w≤bA){i:Nat}(hi:i<w.Clients.length):wt w.Clients[i]≤bA:=by
 have:=yE hi;have:=(zdm w h).1;omega
def zji(w:Aa)(h:wt w≤bA)(hc:w.Clients.length=2)(hp:w.S.Psks.length=2)(z:Option Bool){f:Int→(Int→Option Bool)→Option Bool}
  (hf:∀ (i:Nat) k (h:i<w.Clients.length) (h':i<w.S.Psks.length),wt w.Clients[i]≤bA→wt w.Clients[i].Psk≤bA→wt w.S.Psks[i]≤bA→IntKind.wrap .i64 ((i:Int)+1)=((i+1:Nat):Int)→
   f (i:Int) k=bif !tB w.Clients[i]||w.Clients[i].Id !=((i+1:Nat):Int)||!(w.Clients[i].Psk==w.S.Psks[i])then some false else k (IntKind.wrap .i64 ((i:Int)+1)))
  (hz:∀k,f (2:Int) k=z):tA FU f 0=bif HB 2 (hI w)then some false else z:=by
 rw[WI 2 (by decide) (hI w) (some false) z (λi k hi=>?_) hz];have h1:=zs8 h (i:=i) (by omega);have h2:=(zcM _ h1).1;have h3:=yE (l:=w.S.Psks) (i:=i) (by omega);have h4:=(zdm w h).2.2.1;rw[hf i k (by omega) (by omega) h1 h2 (by omega) (HG i (by rw[AD];omega)),hI,PF (by omega),PF (by omega)]
def zpr(w:Aa)(h:wt w≤bA):Mq w=some (eB w):=by
 have hw:=zdm w h;simp only[Mq,aA,JC,UA (p:=wt w.S≤bA) hw.2.1,eB]
 by_cases hc:w.Clients.length=2
 ·by_cases hp:w.S.Psks.length=2
  ·have c1:((w.Clients.length:Int) !=2)=false:=by simp[hc]
   have c2:((w.Clients.length:Int)==2)=true:=by simp[hc]
   have p1:((w.S.Psks.length:Int) !=2)=false:=by simp[hp]
   have p2:((w.S.Psks.length:Int)==2)=true:=by simp[hp]
   rw[c1,c2,p1,p2,zj5 w.Notes (lE hw.2.2.2.2.2.2.2),zkp w.Known (lE hw.2.2.2.2.2.2.1),zji w h hc hp _ (λi k hi nW w1 w2 w3 he=>?_) (λk=>by rw[hc];exact cond_false _ _)]
   ·rw[mK];cases eA w.Now 0 1000000
    ·rfl
    cases KB w.S
    ·rfl
    cases gC w.D
    ·rfl
    cases QD w.Seen
    ·rfl
    cases decide ((w.Known.length:Int)≤12)
    ·rfl
    cases HB 2 (hI w)
    ·cases w.Known.any _
     ·cases w.Notes.any _<;>rfl
     ·rfl
    ·rfl
   ·simp only[BD hi,cond_true,JB hi,JB nW,mB,OD,UA w1,QI w2 w3];simp only[iA,he];cases tB w.Clients[i]<;>cases w.Clients[i].Id !=((i+1:Nat):Int)<;>cases w.Clients[i].Psk==w.S.Psks[i]<;>rfl
  ·have p1:((w.S.Psks.length:Int) !=2)=true:=by simp;omega
   have p2:((w.S.Psks.length:Int)==2)=false:=by simp;omega
   rw[p1,p2];simp
 ·have c1:((w.Clients.length:Int) !=2)=true:=by simp;omega
  have c2:((w.Clients.length:Int)==2)=false:=by simp;omega
  rw[c1,c2];simp
def JQ.ok{x}(_:xA [.v .World] x){r}:FG x=some r→Mq x=some r:=TA λh=>zpr x h
def zpm(w:Aa)(h:wt w≤bA):Mo w=some (eB w):=by
 have hw:=zdm w h;simp only[Mo,aA,JC,UA (p:=wt w.S≤bA) hw.2.1,eB]
 by_cases hc:w.Clients.length=2
 ·by_cases hp:w.S.Psks.length=2
  ·have c1:((w.Clients.length:Int) !=2)=false:=by simp[hc]
   have c2:((w.Clients.length:Int)==2)=true:=by simp[hc]
   have p1:((w.S.Psks.length:Int) !=2)=false:=by simp[hp]
   have p2:((w.S.Psks.length:Int)==2)=true:=by simp[hp]
   rw[c1,c2,p1,p2,zj5 w.Notes (lE hw.2.2.2.2.2.2.2),zkp w.Known (lE hw.2.2.2.2.2.2.1),zji w h hc hp _ (λi k hi nW w1 w2 w3 he=>?_) (λk=>by exact cond_false _ _)]
   ·rw[mK];cases eA w.Now 0 1000000
    ·rfl
    cases KB w.S
    ·rfl
    cases gC w.D
    ·rfl
    cases QD w.Seen
    ·rfl
    cases decide ((w.Known.length:Int)≤12)
    ·rfl
    cases HB 2 (hI w)
    ·cases w.Known.any _
     ·cases w.Notes.any _<;>rfl
     ·rfl
    ·rfl
   ·have e:decide ((i:Int)<2)=true:=decide_eq_true (by omega);simp only[e,cond_true,JB hi,JB nW,mB,OD,UA w1,QI w2 w3];simp only[iA,he];cases tB w.Clients[i]<;>cases w.Clients[i].Id !=((i+1:Nat):Int)<;>cases w.Clients[i].Psk==w.S.Psks[i]<;>rfl
  ·have p1:((w.S.Psks.length:Int) !=2)=true:=by simp;omega
   have p2:((w.S.Psks.length:Int)==2)=false:=by simp;omega
   rw[p1,p2];simp
 ·have c1:((w.Clients.length:Int) !=2)=true:=by simp;omega
  have c2:((w.Clients.length:Int)==2)=false:=by simp;omega
  rw[c1,c2];simp
def DQ.ok{x}(_:xA [.v .World] x){r}:FG x=some r→Mo x=some r:=TA λh=>zpm x h
end Go.D
namespace Go.D
end Go.D
