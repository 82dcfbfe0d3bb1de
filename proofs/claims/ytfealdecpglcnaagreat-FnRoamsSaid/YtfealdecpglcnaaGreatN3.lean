/-
 Sizes of the program's data.
-/
import Derived.Test.YtfealdecpglcnaaGreatN2
set_option linter.all false
namespace Go.D
instance:Wt Ak:=⟨λx=>wt x.A⟩
instance:Wt Ab:=⟨λx=>wt x.Cn+wt x.Sn+wt x.Cookie+wt x.Proof+wt x.Body+wt x.Tag⟩
def tI(x:Ab):wt x=wt x.Cn+wt x.Sn+wt x.Cookie+wt x.Proof+wt x.Body+wt x.Tag:=rfl
instance:Wt Au:=⟨λ_=>0⟩
def zcI(x:Au):wt x=0:=rfl
instance:Wt Ae:=⟨λx=>wt x.Psk+wt x.At+wt x.Cn+wt x.Fin+wt x.C+wt x.T+wt x.R⟩
def GS(x:Ae):wt x=wt x.Psk+wt x.At+wt x.Cn+wt x.Fin+wt x.C+wt x.T+wt x.R:=rfl
instance:Wt Ay:=⟨λx=>wt x.Secret⟩
def zam(x:Ay):wt x=wt x.Secret:=rfl
instance:Wt Ar:=⟨λx=>wt x.Seed⟩
def RM(x:Ar):wt x=wt x.Seed:=rfl
instance:Wt Aw:=⟨λx=>wt x.A+wt x.Draw⟩
def zdj(x:Aw):wt x=wt x.A+wt x.Draw:=rfl
instance:Wt Ai:=⟨λx=>wt x.At+wt x.Cands⟩
def tK(x:Ai):wt x=wt x.At+wt x.Cands:=rfl
instance:Wt Ah:=⟨λx=>wt x.Cn+wt x.Sn+wt x.C+wt x.P⟩
def vK(x:Ah):wt x=wt x.Cn+wt x.Sn+wt x.C+wt x.P:=rfl
instance:Wt Ao:=⟨λx=>wt x.L⟩
def CK(x:Ao):wt x=wt x.L:=rfl
instance:Wt Ac:=⟨λx=>wt x.Psks+wt x.J+wt x.D+wt x.T+wt x.Cr⟩
def lO(x:Ac):wt x=wt x.Psks+wt x.J+wt x.D+wt x.T+wt x.Cr:=rfl
instance:Wt Al:=⟨λx=>wt x.From+wt x.To+wt x.B⟩
def zdh(x:Al):wt x=wt x.From+wt x.To+wt x.B:=rfl
instance:Wt Aa:=⟨λx=>wt x.Clients+wt x.S+wt x.D+wt x.Seen+wt x.Known+wt x.Notes⟩
def cG(x:Aa):wt x=wt x.Clients+wt x.S+wt x.D+wt x.Seen+wt x.Known+wt x.Notes:=rfl
end Go.D
namespace Go.D
noncomputable section
def vC(i:Int):Af:=if 0≤i∧i≤255 then⟨167772160+i,7000+i⟩else⟨0,0⟩
def SB:Af:=vC 0
def IA(a b:Af):Bool:=a.Host==b.Host&&a.Port==b.Port
def ND(n k:Int):Bool:=n==0||n==k
def RC(b:List UInt8)(n:Int):Bool:=ND (b.length:Int) n
def gC(n:Ad):Bool:=eA n.Kind 1 17&&eA n.Id 0 9&&eA n.Role 0 1&&RC n.Cn 12&&RC n.Sn 12&&eA n.Epoch 0 4294967295&&eA n.Seq 0 281474976710655&&decide ((n.Body.length:Int)≤100)&&RC n.Key 32&&EA n.A&&eA n.Now 0 1000000
def PH(w:Aa)(a:Af):Int:=bif IA a SB then 0 else match w.Clients.find? λc=>IA c.At a with
 | some c=>c.Id
 | none=> -1
def pJ(w:Aa)(a:Af):Option Int:=pt (wt w≤bA) (PH w a)
def gF(j:Ay):Bool:=(j.Secret.length:Int)==32
def YB(d:Ar):Bool:=eA (d.Seed.length:Int) 1 32&&eA d.N 0 10000
def live(t:Ao):Int:=t.L.foldl (λs e=>bif e.Dead then s else fA .i64 s 1) 0
def CJ(t:Ao):Option Int:=pt (wt t≤bA) (live t)
def oC(c:Aj):Bool:=c.Role==0&&(c.Sn.length:Int)==0&&UF c.Cur&&UF c.Old&&!c.HasOld&&c.Until==0&&(c.Next.length:Int)==0
def FO(c:Aj):Option Bool:=pt (wt c≤bA) (oC c)
def KO(p:Ai)(i:Nat):Bool:=(p.Cands[i]?).any λe=>!EA e.A||!mA e.Draw||!eA e.Until 0 1000006||IA e.A p.At||qB i λj=>(p.Cands[j]?).any λd=>IA d.A e.A
def VB(p:Ai):Bool:=EA p.At&&decide ((p.Cands.length:Int)≤3)&&!(qB p.Cands.length (KO p))
def TB(s:Ah):Bool:=eA s.Id 1 9&&mA s.Cn&&mA s.Sn&&eA s.Tick 0 1000000&&bif s.Dead then oC s.C&&IA s.P.At ⟨0,0⟩&&(s.P.Cands.length:Int)==0&&s.Last==0
 else rB s.C&&s.C.Role==1&&s.C.Sn==s.Sn&&VB s.P&&eA s.Last 0 1000000
def ED(s:Ah):Option Bool:=pt (wt s≤bA) (TB s)
def eF(t:Ao)(b:List UInt8)(i:Nat):Bool:=(t.L[i]?).any λe=>e.Sn==b
def XB(t:Ao)(b:List UInt8):Int:=XG t.L.length (eF t b)
def CC(t:Ao)(b:List UInt8):Option Int:=pt (wt t≤bA∧wt b≤bA) (XB t b)
def xK(t:Ao)(i:Nat):Bool:=(t.L[i]?).any λe=>!TB e||qB i (eF t e.Sn)
def GC(t:Ao):Bool:=eA t.Cap 1 6&&decide ((t.L.length:Int)≤12)&&decide (live t≤t.Cap)&&!(qB t.L.length (xK t))
def AG(t:Ao):Option Bool:=pt (wt t≤bA) (GC t)
def uF(l:List Ak)(a:Af)(i:Nat):Bool:=(l[i]?).any λc=>IA c.A a
def VA(l:List Ak)(a:Af):Int:=XG l.length (uF l a)
def gS(l:List Ak)(i:Nat):Bool:=(l[i]?).any λc=>!EA c.A||!eA c.Got 0 1000000||!eA c.Sent 0 (GB .i64 3 c.Got)||qB i (uF l c.A)
def pC(l:List Ak):Bool:=decide ((l.length:Int)≤8)&&!(qB l.length (gS l))
def JC(b:List UInt8):Bool:=eA (b.length:Int) 1 32
def wB(s:Ac):Bool:=eA (s.Psks.length:Int) 1 9&&gF s.J&&YB s.D&&GC s.T&&pC s.Cr&&!(s.Psks.any λb=>!JC b)&&!(s.T.L.any λe=>decide (e.Id>(s.Psks.length:Int)))
def xC(s:Ac):Option Bool:=pt (wt s≤bA) (wB s)
def tD(w:Al):Bool:=EA w.From&&EA w.To&&decide ((w.B.length:Int)≤200)
def DD(l:List Al):Bool:=!(l.any λw=>!tD w)&&decide ((l.length:Int)≤90)
def kK(f g:Ab):Bool:=f.Kind==g.Kind&&f.Id==g.Id&&f.Tick==g.Tick&&f.Epoch==g.Epoch&&f.Seq==g.Seq&&f.Cn==g.Cn&&f.Sn==g.Sn&&f.Cookie==g.Cookie&&f.Proof==g.Proof&&f.Body==g.Body&&f.Tag==g.Tag
def eO(f g:Ab):Option Bool:=pt (wt f≤bA∧wt g≤bA) (kK f g)
def GF(t:Au):Bool:=t.On==false&&t.Due==0&&t.Wait==0&&t.Tries==0
def mD(t:Au):Bool:=bif t.On then eA t.Due 0 1000008&&(t.Wait==1||t.Wait==2||t.Wait==4||t.Wait==8)&&eA t.Tries 1 5 else GF t
def HF(f:Ab):Bool:=f.Kind==0&&f.Id==0&&(f.Cn.length:Int)==0&&(f.Sn.length:Int)==0&&f.Tick==0&&(f.Cookie.length:Int)==0&&(f.Proof.length:Int)==0&&f.Epoch==0&&f.Seq==0&&(f.Body.length:Int)==0&&(f.Tag.length:Int)==0
def nB(k:Int):Bool:=eA k 4 8
def tE(k n:Int):Bool:=bif k==4 then decide (n≤40)else bif k==5||k==6 then n==12 else n==4
def TA(f:Ab):Bool:=bif nB f.Kind then f.Id==0&&(f.Cn.length:Int)==0&&(f.Sn.length:Int)==12&&f.Tick==0&&(f.Cookie.length:Int)==0&&(f.Proof.length:Int)==0&&eA f.Epoch 0 4294967295&&eA f.Seq 0 281474976710655&&tE f.Kind (f.Body.length:Int)&&(f.Tag.length:Int)==16 else f.Epoch==0&&f.Seq==0&&(f.Body.length:Int)==0&&(f.Tag.length:Int)==0&&(f.Cn.length:Int)==12&&bif f.Kind==1 then eA f.Id 1 9&&(f.Sn.length:Int)==0&&f.Tick==0&&(f.Cookie.length:Int)==0&&(f.Proof.length:Int)==0 else bif f.Kind==2 then f.Id==0&&(f.Sn.length:Int)==12&&eA f.Tick 0 1000000&&(f.Cookie.length:Int)==16&&(f.Proof.length:Int)==0 else f.Kind==3&&eA f.Id 1 9&&(f.Sn.length:Int)==12&&eA f.Tick 0 1000000&&(f.Cookie.length:Int)==16&&(f.Proof.length:Int)==16
def QC(f:Ab):Option Bool:=pt (wt f≤bA) (TA f)
def oJ(c:Ae):Bool:=mA c.Cn&&c.Fin.Kind==3&&TA c.Fin&&c.Fin.Id==c.Id&&c.Fin.Cn==c.Cn&&rB c.C&&c.C.Role==0&&c.C.Sn==c.Fin.Sn&&c.C.Cur.N==0&&!c.C.HasOld&&(c.C.Next.length:Int)==0
def zck(c:Ae):Option Bool:=pt (wt c≤bA) (oJ c)
def fB(c:Ae):Bool:=eA c.Id 1 9&&JC c.Psk&&EA c.At&&
 bif c.St==0 then(c.Cn.length:Int)==0&&HF c.Fin&&oC c.C&&GF c.T&&GF c.R&&c.Last==0
 else bif c.St==1 then mA c.Cn&&HF c.Fin&&oC c.C&&c.T.On&&mD c.T&&GF c.R&&c.Last==0
 else bif c.St==2 then oJ c&&c.T.On&&mD c.T&&GF c.R&&c.Last==0
 else c.St==3&&mA c.Cn&&HF c.Fin&&rB c.C&&c.C.Role==0&&GF c.T&&mD c.R&&c.R.On==decide ((c.C.Next.length:Int)>0)&&eA c.Last 0 1000000
def qD(c:Ae):Option Bool:=pt (wt c≤bA) (fB c)
def pI(w:Aa)(i:Nat):Bool:=(w.Clients[i]?).any λc=>(w.S.Psks[i]?).any λp=>!fB c||c.Id !=((i+1:Nat):Int)||!(c.Psk==p)
def NA(w:Aa):Bool:=eA w.Now 0 1000000&&(w.Clients.length:Int)==2&&wB w.S&&(w.S.Psks.length:Int)==2&&YB w.D&&DD w.Seen&&decide ((w.Known.length:Int)≤12)&&
 !(qB 2 (pI w))&&!(w.Known.any λb=>(b.length:Int) !=32)&&!(w.Notes.any λn=>!gC n)
def pE(w:Aa):Option Bool:=pt (wt w≤bA) (NA w)
def zec:Av:=⟨0,[],0,⟨0,[]⟩⟩
def zxs:Ah:=⟨0,[],[],⟨0,[],zec,zec,false,0,[]⟩,⟨⟨0,0⟩,[]⟩,0,0,false⟩
def GD(w:Aa)(c:Ae):Option Ah:=bif c.St==3 then(if 0≤XB w.S.T c.C.Sn then(w.S.T.L[(XB w.S.T c.C.Sn).toNat]?).filter (λs=>!s.Dead)else none)else none
def kS(w:Aa)(c:Ae):Ae×Ah×Bool:=match GD w c with
 | some s=>(c,s,true)
 | none=>(c,zxs,false)
def kL(w:Aa)(id:Int):Option (Ae×Ah×Bool):=Option.bind (pt (wt w≤bA∧1≤id∧id≤w.Clients.length) ()) λ_=>(w.Clients[(id - 1).toNat]?).map (kS w)
def AI(c s:Aj):Bool:=bif c.Cur.N==s.Cur.N&&c.Cur.Key==s.Cur.Key then decide (c.Cur.Win.Top<s.Cur.Seq)&&decide (s.Cur.Win.Top<c.Cur.Seq)
 else s.Cur.N==fA .i64 c.Cur.N 1&&c.Next==s.Cur.Key&&s.HasOld&&s.Until== -1&&s.Old.Key==c.Cur.Key&&decide (s.Old.Win.Top<c.Cur.Seq)&&decide (c.Cur.Win.Top<s.Old.Seq)
def IH(w:Aa)(id:Int):Bool:=NA w&&eA id 1 2&&(w.Clients[(id - 1).toNat]?).any λc=>(GD w c).all λs=>c.Cn==s.Cn&&AI c.C s.C
def lL(w:Aa)(id:Int):Option Bool:=pt (wt w≤bA) (IH w id)
def xT(w:Aa)(c:Ae)(s:Ah):Bool:=eA (oA .i64 w.Now c.Last) 0 40&&eA (oA .i64 w.Now s.Last) 0 40&&!(c.R.On&&decide (c.R.Due>fA .i64 w.Now 8))&&
 decide (c.C.Cur.Seq≤281474976709556)&&decide (s.C.Cur.Seq≤281474976709556)&&(!s.C.HasOld||decide (s.C.Old.Seq≤281474976709556))&&decide (c.C.Cur.N≤4294967293)
def vJ(w:Aa)(id:Int):Bool:=IH w id&&decide (w.Now≤999900)&&(w.Clients[(id - 1).toNat]?).any λc=>(GD w c).any (xT w c)
def UM(w:Aa)(id:Int):Option Bool:=pt (wt w≤bA) (vJ w id)
end
end Go.D
namespace Go.D
open Option renaming bind→ob
noncomputable section
def Nl(a0:Int)(a1:Int):=aA (λ(y1:Bool)=>some y1) λk2=>cond (a0==0) (k2 true) (k2 (a0==a1))
def Pb(a0:Af):=aA (λ(y1:Bool)=>some y1) λk2=>cond ((eA a0.Host 0 4294967295)) (k2 (eA a0.Port 0 65535)) (k2 false)
def Ka(a0:Ad):=aA (λ(y1:Bool)=>some y1) λk2=>cond ((eA a0.Kind 1 17)) (cond ((eA a0.Id 0 9)) (cond ((eA a0.Role 0 1)) (cond ((ND (a0.Cn.length:Int) 12)) (cond ((ND (a0.Sn.length:Int) 12)) (cond ((eA a0.Epoch 0 4294967295)) (cond ((eA a0.Seq 0 281474976710655)) (cond ((a0.Body.length:Int)≤100) (cond ((ND (a0.Key.length:Int) 32)) (cond ((EA a0.A)) (k2 (eA a0.Now 0 1000000)) (k2 false)) (k2 false)) (k2 false)) (k2 false)) (k2 false)) (k2 false)) (k2 false)) (k2 false)) (k2 false)) (k2 false)
def Nm(a0:List UInt8)(a1:Int):=aA (λ(y1:Bool)=>some y1) λk2=>cond ((a0.length:Int)==0) (k2 true) (k2 ((a0.length:Int)==a1))
def Pd(a0:Af):=aA (λ(y1:Bool)=>some y1) λk2=>cond ((eA a0.Host 0 4294967295)) (k2 (eA a0.Port 0 65535)) (k2 false)
def Kb(a0:Ad):=aA (λ(y1:Bool)=>some y1) λk2=>cond ((eA a0.Kind 1 17)) (cond ((eA a0.Id 0 9)) (cond ((eA a0.Role 0 1)) (cond ((eA a0.Epoch 0 4294967295)) (cond ((eA a0.Seq 0 281474976710655)) (cond ((eA a0.Now 0 1000000)) (cond ((RC a0.Cn 12)) (cond ((RC a0.Sn 12)) (cond ((a0.Body.length:Int)≤100) (cond ((RC a0.Key 32)) (k2 (EA a0.A)) (k2 false)) (k2 false)) (k2 false)) (k2 false)) (k2 false)) (k2 false)) (k2 false)) (k2 false)) (k2 false)) (k2 false)
def Pe(a0:Int):=cond (!(eA a0 0 255)) (some (⟨0,0⟩:Af)) (some (⟨fA .i64 167772160 a0,fA .i64 7000 a0⟩:Af))
def Pf:=
 let r1:Af:=vC 0
 some r1
def Kc(a0:Aa)(a1:Af):=
 let r1:Af:=SB;let x2:Bool:=cond (a1.Host==r1.Host) (cond (a1.Port==r1.Port) (true) false) false
 cond (x2)
 (some 0)
 (aA (λ(y3:Unit)=>
 some (-1)) λk4=>
 uA FU (λ(x5:Int) k6=>
 cond (x5<(a0.Clients.length:Int))
 (ob (jA a0.Clients x5) λe7=>
 let x8:Bool:=cond (e7.At.Host==a1.Host) (cond (e7.At.Port==a1.Port) (true) false) false
 cond (x8)
 (ob (jA a0.Clients x5) λe9=>
 some e9.Id)
 (k6 (fA .i64 x5 1)))
 (k4 ())) 0)
def Pg(a0:Int):=cond (!(eA a0 0 255)) (some (⟨0,0⟩:Af)) (some (⟨fA .i64 167772160 a0,fA .i64 7000 a0⟩:Af))
def Pi:=
 let r1:Af:=vC 0
 some r1
def Kd(a0:Aa)(a1:Af):=
 let r1:Af:=SB;let x2:Bool:=cond (a1.Host==r1.Host) (cond (a1.Port==r1.Port) (true) false) false
 cond (x2)
 (some 0)
 (aA (λ(y3:Unit)=>
 some (-1)) λk4=>
 uA FU (λ(x5:Int) k6=>
 cond (x5<(a0.Clients.length:Int))
 (ob (jA a0.Clients x5) λe7=>
 let x8:Bool:=cond (e7.At.Host==a1.Host) (cond (e7.At.Port==a1.Port) (true) false) false
 cond (x8)
 (some e7.Id)
 (k6 (fA .i64 x5 1)))
 (k4 ())) 0)
def Pj(a0:Ar):=
 aA (λ(y1:Bool)=>
 some y1) λk2=>
 let r3:Bool:=eA (a0.Seed.length:Int) 1 32
 cond (r3)
 (k2 (eA a0.N 0 10000))
 (k2 false)
def Pk(a0:Ay):=some ((a0.Secret.length:Int)==32)
def Pl(a0:Ao):=aA (λ(y1:Int)=>some y1) λk2=>uA FU (λ(x3:Int×Int) k4=>cond (x3.2<(a0.L.length:Int)) (ob (jA a0.L x3.2) λe5=>aA (λ(y6:Int)=>k4 (y6,(fA .i64 x3.2 1))) λk7=>cond (!e5.Dead) (k7 (fA .i64 x3.1 1)) (k7 x3.1)) (k2 x3.1)) (0,0)
def Ke(a0:Aj):=aA (λ(y1:Bool)=>some y1) λk2=>cond (a0.Role==0) (cond ((a0.Sn.length:Int)==0) (ob (LO a0.Cur (⟨0,[],0,(⟨0,[]⟩:Ap)⟩:Av)) λr3=>cond (r3) (ob (LO a0.Old (⟨0,[],0,(⟨0,[]⟩:Ap)⟩:Av)) λr4=>cond (r4) (cond (!a0.HasOld) (cond (a0.Until==0) (k2 ((a0.Next.length:Int)==0)) (k2 false)) (k2 false)) (k2 false)) (k2 false)) (k2 false)) (k2 false)
def Kf(a0:Ai):=
 aA (λy1=>
 cond (y1)
 (some false)
 (aA (λ(y3:Unit)=>
 some true) λk4=>
 uA FU (λ(x5:Int) k6=>
 cond (x5<(a0.Cands.length:Int))
 (ob (jA a0.Cands x5) λe7=>
 aA (λy8=>
 cond (y8)
 (some false)
 (cond (decide (0≤(0:Int))&&decide ((0:Int)≤x5)&&decide (x5≤(a0.Cands.length:Int))) (let l11:List Aw:=List.take ((x5 - 0).toNat) (List.drop 0 a0.Cands)
 aA (λ(y12:Unit)=>
 k6 (fA .i64 x5 1)) λk13=>
 uA FU (λ(x14:Int) k15=>
 cond (x14<(l11.length:Int))
 (ob (jA l11 x14) λe16=>
 let x17:Bool:=cond (e16.A.Host==e7.A.Host) (cond (e16.A.Port==e7.A.Port) (true) false) false
 cond (x17)
 (some false)
 (k15 (fA .i64 x14 1)))
 (k13 ())) 0) none)) λk9=>
 cond (!(EA e7.A))
 (k9 true)
 (let x10:Bool:=cond (e7.A.Host==a0.At.Host) (cond (e7.A.Port==a0.At.Port) (true) false) false
 cond (x10)
 (k9 true)
 (cond (!(mA e7.Draw))
 (k9 true)
 (k9 (!(eA e7.Until 0 1000006))))))
 (k4 ())) 0)) λk2=>
 cond (!(EA a0.At))
 (k2 true)
 (k2 (decide ((a0.Cands.length:Int)>3)))
def Kg(a0:Ah):=
 aA (λy1=>
 cond (y1)
 (some false)
 (cond (a0.Dead)
 (aA (λ(y3:Bool)=>
 some y3) λk4=>
 ob (FO a0.C) λr5=>
 cond (r5)
 (let x6:Bool:=cond (a0.P.At.Host==0) (cond (a0.P.At.Port==0) (true) false) false
 cond (x6)
 (cond ((a0.P.Cands.length:Int)==0)
 (k4 (a0.Last==0))
 (k4 false))
 (k4 false))
 (k4 false))
 (aA (λ(y7:Bool)=>
 some y7) λk8=>
 ob (lC a0.C) λr9=>
 cond (r9)
 (cond (a0.C.Role==1)
 (ob (uB a0.C.Sn a0.Sn) λr10=>
 cond (r10)
 (cond ((VB a0.P))
 (k8 (eA a0.Last 0 1000000))
 (k8 false))
 (k8 false))
 (k8 false))
 (k8 false)))) λk2=>
 cond (!(eA a0.Id 1 9))
 (k2 true)
 (cond (!(mA a0.Cn))
 (k2 true)
 (cond (!(mA a0.Sn))
 (k2 true)
 (k2 (!(eA a0.Tick 0 1000000)))))
def Pm(a0:Ao)(a1:List UInt8):=aA (λ(y1:Unit)=>some (-1)) λk2=>uA FU (λ(x3:Int) k4=>cond (x3<(a0.L.length:Int)) (ob (jA a0.L x3) λe5=>ob (uB e5.Sn a1) λr6=>cond (r6) (some x3) (k4 (fA .i64 x3 1))) (k2 ())) 0
def Kh(a0:Ao):=aA (λy1=>cond (y1) (some false) (aA (λ(y4:Unit)=>some true) λk5=>uA FU (λ(x6:Int) k7=>cond (x6<(a0.L.length:Int)) (ob (jA a0.L x6) λe8=>aA (λy9=>cond (y9) (some false) (k7 (fA .i64 x6 1))) λk10=>ob (ED e8) λr11=>cond (!r11) (k10 true) (ob (CC a0 e8.Sn) λr12=>k10 (decide (r12<x6)))) (k5 ())) 0)) λk2=>cond (!(eA a0.Cap 1 6)) (k2 true) (cond ((a0.L.length:Int)>12) (k2 true) (ob (CJ a0) λr3=>k2 (decide (r3>a0.Cap))))
def Pn(a0:List Ak)(a1:Af):=
 aA (λ(y1:Unit)=>
 some (-1)) λk2=>
 uA FU (λ(x3:Int) k4=>
 cond (x3<(a0.length:Int))
 (ob (jA a0 x3) λe5=>
 let x6:Bool:=cond (e5.A.Host==a1.Host) (cond (e5.A.Port==a1.Port) (true) false) false
 cond (x6)
 (some x3)
 (k4 (fA .i64 x3 1)))
 (k2 ())) 0
def Ki(a0:List Ak):=
 cond ((a0.length:Int)>8)
 (some false)
 (aA (λ(y1:Unit)=>
 some true) λk2=>
 uA FU (λ(x3:Int) k4=>
 cond (x3<(a0.length:Int))
 (ob (jA a0 x3) λe5=>
 aA (λy6=>
 cond (y6)
 (some false)
 (k4 (fA .i64 x3 1))) λk7=>
 cond (!(EA e5.A))
 (k7 true)
 (cond (!(eA e5.Got 0 1000000))
 (k7 true)
 (let r8:Bool:=eA e5.Sent 0 (GB .i64 3 e5.Got)
 cond (!r8)
 (k7 true)
 (k7 (decide ((VA a0 e5.A)<x3))))))
 (k2 ())) 0)
def Po(a0:List UInt8):=some (eA (a0.length:Int) 1 32)
def Kj(a0:Ac):=aA (λy1=>cond (y1) (some false) (aA (λ(y4:Unit)=>aA (λ(y9:Unit)=>some true) λk10=>uA FU (λ(x11:Int) k12=>cond (x11<(a0.T.L.length:Int)) (ob (jA a0.T.L x11) λe13=>cond (e13.Id>(a0.Psks.length:Int)) (some false) (k12 (fA .i64 x11 1))) (k10 ())) 0) λk5=>uA FU (λ(x6:Int) k7=>cond (x6<(a0.Psks.length:Int)) (ob (jA a0.Psks x6) λe8=>cond (!(JC e8)) (some false) (k7 (fA .i64 x6 1))) (k5 ())) 0)) λk2=>cond (!(eA (a0.Psks.length:Int) 1 9)) (k2 true) (cond (!(gF a0.J)) (k2 true) (cond (!(YB a0.D)) (k2 true) (ob (AG a0.T) λr3=>cond (!r3) (k2 true) (k2 (!(pC a0.Cr))))))
def Kk(a0:Ab)(a1:Ab):=aA (λ(y1:Bool)=>some y1) λk2=>cond (a0.Kind==a1.Kind) (cond (a0.Id==a1.Id) (cond (a0.Tick==a1.Tick) (cond (a0.Epoch==a1.Epoch) (cond (a0.Seq==a1.Seq) (ob (uB a0.Cn a1.Cn) λr3=>cond (r3) (ob (uB a0.Sn a1.Sn) λr4=>cond (r4) (ob (uB a0.Cookie a1.Cookie) λr5=>cond (r5) (ob (uB a0.Proof a1.Proof) λr6=>cond (r6) (ob (uB a0.Body a1.Body) λr7=>cond (r7) (ob (uB a0.Tag a1.Tag) λr8=>k2 r8) (k2 false)) (k2 false)) (k2 false)) (k2 false)) (k2 false)) (k2 false)) (k2 false)) (k2 false)) (k2 false)) (k2 false)
def Kl(a0:Au):=
 cond (!a0.On)
 (let x1:Bool:=cond (a0.On==false) (cond (a0.Due==0) (cond (a0.Wait==0) (cond (a0.Tries==0) (true) false) false) false) false
 some x1)
 (aA (λ(y2:Bool)=>
 aA (λ(y4:Bool)=>
 some y4) λk5=>
 cond ((eA a0.Due 0 1000008))
 (cond (y2)
 (k5 (eA a0.Tries 1 5))
 (k5 false))
 (k5 false)) λk3=>
 cond (a0.Wait==1)
 (k3 true)
 (cond (a0.Wait==2)
 (k3 true)
 (cond (a0.Wait==4)
 (k3 true)
 (k3 (a0.Wait==8)))))
def Pp(a0:Int):=some (eA a0 4 8)
def Nn(a0:Int)(a1:Int):=cond (a0==4) (some (decide (a1≤40))) (aA (λy1=>cond (y1) (some (a1==12)) (some (a1==4))) λk2=>cond (a0==5) (k2 (a0==5)) (k2 (a0==6)))
def Km(a0:Ab):=
 aA (λ(y1:Bool×Ab)=>
 aA (λ(y18:Bool)=>
 some y18) λk19=>
 cond (y1.1)
 (ob (eO a0 y1.2) λr20=>
 k19 r20)
 (k19 false)) λk2=>
 cond (a0.Kind==1)
 (aA (λ(y3:Bool)=>
 k2 (y3,(⟨a0.Kind,a0.Id,a0.Cn,[],0,[],[],0,0,[],[]⟩:Ab))) λk4=>
 cond ((eA a0.Id 1 9))
 (k4 (mA a0.Cn))
 (k4 false))
 (aA (λ(y5:Bool×Ab)=>
 k2 (y5.1,y5.2)) λk6=>
 cond (a0.Kind==2)
 (aA (λ(y7:Bool)=>
 k6 (y7,(⟨a0.Kind,0,a0.Cn,a0.Sn,a0.Tick,a0.Cookie,[],0,0,[],[]⟩:Ab))) λk8=>
 cond ((mA a0.Cn))
 (cond ((mA a0.Sn))
 (cond ((eA a0.Tick 0 1000000))
 (k8 ((a0.Cookie.length:Int)==16))
 (k8 false))
 (k8 false))
 (k8 false))
 (aA (λ(y9:Bool×Ab)=>
 k6 (y9.1,y9.2)) λk10=>
 cond (a0.Kind==3)
 (aA (λ(y11:Bool)=>
 k10 (y11,(⟨a0.Kind,a0.Id,a0.Cn,a0.Sn,a0.Tick,a0.Cookie,a0.Proof,0,0,[],[]⟩:Ab))) λk12=>
 cond ((eA a0.Id 1 9))
 (cond ((mA a0.Cn))
 (cond ((mA a0.Sn))
 (cond ((eA a0.Tick 0 1000000))
 (cond ((a0.Cookie.length:Int)==16)
 (k12 ((a0.Proof.length:Int)==16))
 (k12 false))
 (k12 false))
 (k12 false))
 (k12 false))
 (k12 false))
 (aA (λ(y13:Bool×Ab)=>
 k10 (y13.1,y13.2)) λk14=>
 cond ((nB a0.Kind))
 (aA (λ(y15:Bool)=>
 k14 (y15,(⟨a0.Kind,0,[],a0.Sn,0,[],[],a0.Epoch,a0.Seq,a0.Body,a0.Tag⟩:Ab))) λk16=>
 cond ((mA a0.Sn))
 (cond ((eA a0.Epoch 0 4294967295))
 (cond ((eA a0.Seq 0 281474976710655))
 (cond ((a0.Tag.length:Int)==16)
 (let r17:Bool:=tE a0.Kind (a0.Body.length:Int)
 k16 r17)
 (k16 false))
 (k16 false))
 (k16 false))
 (k16 false))
 (k14 (false,(⟨a0.Kind,0,[],[],0,[],[],0,0,[],[]⟩:Ab))))))
def Kn(a0:Ae):=aA (λy1=>cond (y1) (some false) (aA (λ(y5:Bool)=>some y5) λk6=>ob (lC a0.C) λr7=>cond (r7) (cond (a0.C.Role==0) (ob (uB a0.C.Sn a0.Fin.Sn) λr8=>cond (r8) (cond (a0.C.Cur.N==0) (cond (!a0.C.HasOld) (k6 ((a0.C.Next.length:Int)==0)) (k6 false)) (k6 false)) (k6 false)) (k6 false)) (k6 false))) λk2=>cond (!(mA a0.Cn)) (k2 true) (cond (a0.Fin.Kind !=3) (k2 true) (ob (QC a0.Fin) λr3=>cond (!r3) (k2 true) (cond (a0.Fin.Id !=a0.Id) (k2 true) (ob (uB a0.Fin.Cn a0.Cn) λr4=>k2 (!r4)))))
def Ko(a0:Ae):=
 aA (λy1=>
 cond (y1)
 (some false)
 (ob (eO a0.Fin (⟨0,0,[],[],0,[],[],0,0,[],[]⟩:Ab)) λr3=>
 let x4:Bool:=cond (a0.T.On==false) (cond (a0.T.Due==0) (cond (a0.T.Wait==0) (cond (a0.T.Tries==0) (true) false) false) false) false
 cond (a0.St==0)
 (aA (λ(y5:Bool)=>
 some y5) λk6=>
 cond ((a0.Cn.length:Int)==0)
 (cond (r3)
 (ob (FO a0.C) λr7=>
 cond (r7)
 (cond (x4)
 (let x8:Bool:=cond (a0.R.On==false) (cond (a0.R.Due==0) (cond (a0.R.Wait==0) (cond (a0.R.Tries==0) (true) false) false) false) false
 cond (x8)
 (k6 (a0.Last==0))
 (k6 false))
 (k6 false))
 (k6 false))
 (k6 false))
 (k6 false))
 (cond (a0.St==1)
 (aA (λ(y9:Bool)=>
 some y9) λk10=>
 cond ((mA a0.Cn))
 (cond (r3)
 (ob (FO a0.C) λr11=>
 cond (r11)
 (cond (a0.T.On)
 (cond ((mD a0.T))
 (let x12:Bool:=cond (a0.R.On==false) (cond (a0.R.Due==0) (cond (a0.R.Wait==0) (cond (a0.R.Tries==0) (true) false) false) false) false
 cond (x12)
 (k10 (a0.Last==0))
 (k10 false))
 (k10 false))
 (k10 false))
 (k10 false))
 (k10 false))
 (k10 false))
 (cond (a0.St==2)
 (aA (λ(y13:Bool)=>
 some y13) λk14=>
 ob (zck a0) λr15=>
 cond (r15)
 (cond (a0.T.On)
 (cond ((mD a0.T))
 (let x16:Bool:=cond (a0.R.On==false) (cond (a0.R.Due==0) (cond (a0.R.Wait==0) (cond (a0.R.Tries==0) (true) false) false) false) false
 cond (x16)
 (k14 (a0.Last==0))
 (k14 false))
 (k14 false))
 (k14 false))
 (k14 false))
 (cond (a0.St==3)
 (aA (λ(y17:Bool)=>
 some y17) λk18=>
 cond ((mA a0.Cn))
 (cond (r3)
 (ob (lC a0.C) λr19=>
 cond (r19)
 (cond (a0.C.Role==0)
 (cond (x4)
 (cond ((mD a0.R))
 (cond (a0.R.On==(decide ((a0.C.Next.length:Int)>0)))
 (k18 (eA a0.Last 0 1000000))
 (k18 false))
 (k18 false))
 (k18 false))
 (k18 false))
 (k18 false))
 (k18 false))
 (k18 false))
 (some false)))))) λk2=>
 cond (!(eA a0.Id 1 9))
 (k2 true)
 (cond (!(JC a0.Psk))
 (k2 true)
 (k2 (!(EA a0.At))))
def Pq(a0:Ar):=
 aA (λ(y1:Bool)=>
 some y1) λk2=>
 let r3:Bool:=eA (a0.Seed.length:Int) 1 32
 cond (r3)
 (k2 (eA a0.N 0 10000))
 (k2 false)
def Pr(a0:Ay):=some ((a0.Secret.length:Int)==32)
def Ps(a0:Ao):=aA (λ(y1:Int)=>some y1) λk2=>uA FU (λ(x3:Int×Int) k4=>cond (x3.2<(a0.L.length:Int)) (ob (jA a0.L x3.2) λe5=>aA (λ(y6:Int)=>k4 (y6,(fA .i64 x3.2 1))) λk7=>cond (!e5.Dead) (k7 (fA .i64 x3.1 1)) (k7 x3.1)) (k2 x3.1)) (0,0)
def Kp(a0:Aj):=aA (λ(y1:Bool)=>some y1) λk2=>cond (a0.Role==0) (cond ((a0.Sn.length:Int)==0) (cond ((UF a0.Cur)) (cond ((UF a0.Old)) (cond (!a0.HasOld) (cond (a0.Until==0) (k2 ((a0.Next.length:Int)==0)) (k2 false)) (k2 false)) (k2 false)) (k2 false)) (k2 false)) (k2 false)
def Kq(a0:Ai):=
 aA (λy1=>
 cond (y1)
 (some false)
 (aA (λ(y3:Unit)=>
 some true) λk4=>
 uA FU (λ(x5:Int) k6=>
 cond (x5<(a0.Cands.length:Int))
 (ob (jA a0.Cands x5) λe7=>
 aA (λy8=>
 cond (y8)
 (some false)
 (aA (λ(y11:Unit)=>
 k6 (fA .i64 x5 1)) λk12=>
 uA FU (λ(x13:Int) k14=>
 cond (x13<x5)
 (ob (jA a0.Cands x13) λe15=>
 let x16:Bool:=cond (e15.A.Host==e7.A.Host) (cond (e15.A.Port==e7.A.Port) (true) false) false
 cond (x16)
 (some false)
 (k14 (fA .i64 x13 1)))
 (k12 ())) 0)) λk9=>
 cond (!(EA e7.A))
 (k9 true)
 (cond ((e7.Draw.length:Int) !=12)
 (k9 true)
 (cond (!(eA e7.Until 0 1000006))
 (k9 true)
 (let x10:Bool:=cond (e7.A.Host==a0.At.Host) (cond (e7.A.Port==a0.At.Port) (true) false) false
 k9 x10))))
 (k4 ())) 0)) λk2=>
 cond (!(EA a0.At))
 (k2 true)
 (k2 (decide ((a0.Cands.length:Int)>3)))
def Kr(a0:Ah):=
 aA (λy1=>
 cond (y1)
 (some false)
 (cond (a0.Dead)
 (aA (λ(y3:Bool)=>
 some y3) λk4=>
 cond ((oC a0.C))
 (let r5:Af:=vC (-1)
 let x6:Bool:=cond (a0.P.At.Host==r5.Host) (cond (a0.P.At.Port==r5.Port) (true) false) false
 cond (x6)
 (cond ((a0.P.Cands.length:Int)==0)
 (k4 (a0.Last==0))
 (k4 false))
 (k4 false))
 (k4 false))
 (aA (λ(y7:Bool)=>
 some y7) λk8=>
 ob (lC a0.C) λr9=>
 cond (r9)
 (cond (a0.C.Role==1)
 (ob (uB a0.C.Sn a0.Sn) λr10=>
 cond (r10)
 (k8 (VB a0.P))
 (k8 false))
 (k8 false))
 (k8 false)))) λk2=>
 cond (!(eA a0.Id 1 9))
 (k2 true)
 (cond ((a0.Cn.length:Int) !=12)
 (k2 true)
 (cond ((a0.Sn.length:Int) !=12)
 (k2 true)
 (cond (!(eA a0.Tick 0 1000000))
 (k2 true)
 (k2 (!(eA a0.Last 0 1000000))))))
def Pt(a0:Ao)(a1:List UInt8):=aA (λ(y1:Unit)=>some (-1)) λk2=>uA FU (λ(x3:Int) k4=>cond (x3<(a0.L.length:Int)) (ob (jA a0.L x3) λe5=>ob (uB e5.Sn a1) λr6=>cond (r6) (some x3) (k4 (fA .i64 x3 1))) (k2 ())) 0
def Ks(a0:Ao):=aA (λy1=>cond (y1) (some false) (aA (λ(y4:Unit)=>some true) λk5=>uA FU (λ(x6:Int) k7=>cond (x6<(a0.L.length:Int)) (aA (λy8=>cond (y8) (some false) (k7 (fA .i64 x6 1))) λk9=>ob (jA a0.L x6) λe10=>ob (ED e10) λr11=>cond (!r11) (k9 true) (ob (jA a0.L x6) λe12=>ob (CC a0 e12.Sn) λr13=>k9 (r13 !=x6))) (k5 ())) 0)) λk2=>cond (!(eA a0.Cap 1 6)) (k2 true) (cond ((a0.L.length:Int)>12) (k2 true) (ob (CJ a0) λr3=>k2 (decide (r3>a0.Cap))))
def Kt(a0:List Ak):=
 cond ((a0.length:Int)>8)
 (some false)
 (aA (λ(y1:Unit)=>
 some true) λk2=>
 uA FU (λ(x3:Int) k4=>
 cond (x3<(a0.length:Int))
 (aA (λy5=>
 cond (y5)
 (some false)
 (aA (λ(y12:Unit)=>
 k4 (fA .i64 x3 1)) λk13=>
 uA FU (λ(x14:Int) k15=>
 cond (x14<x3)
 (ob (jA a0 x14) λe16=>
 ob (jA a0 x3) λe17=>
 let x18:Bool:=cond (e16.A.Host==e17.A.Host) (cond (e16.A.Port==e17.A.Port) (true) false) false
 cond (x18)
 (some false)
 (k15 (fA .i64 x14 1)))
 (k13 ())) 0)) λk6=>
 ob (jA a0 x3) λe7=>
 cond (!(EA e7.A))
 (k6 true)
 (ob (jA a0 x3) λe8=>
 cond (!(eA e8.Got 0 1000000))
 (k6 true)
 (ob (jA a0 x3) λe9=>
 ob (jA a0 x3) λe10=>
 let r11:Bool:=eA e9.Sent 0 (GB .i64 3 e10.Got)
 k6 (!r11))))
 (k2 ())) 0)
def Pu(a0:List UInt8):=some (eA (a0.length:Int) 1 32)
def Pv(a0:Ac):=aA (λy1=>cond (y1) (some false) (aA (λ(y4:Unit)=>aA (λ(y9:Unit)=>some true) λk10=>uA FU (λ(x11:Int) k12=>cond (x11<(a0.T.L.length:Int)) (ob (jA a0.T.L x11) λe13=>cond (e13.Id>(a0.Psks.length:Int)) (some false) (k12 (fA .i64 x11 1))) (k10 ())) 0) λk5=>uA FU (λ(x6:Int) k7=>cond (x6<(a0.Psks.length:Int)) (ob (jA a0.Psks x6) λe8=>cond (!(JC e8)) (some false) (k7 (fA .i64 x6 1))) (k5 ())) 0)) λk2=>cond (!(eA (a0.Psks.length:Int) 1 9)) (k2 true) (cond (!(gF a0.J)) (k2 true) (cond (!(YB a0.D)) (k2 true) (ob (AG a0.T) λr3=>cond (!r3) (k2 true) (k2 (!(pC a0.Cr))))))
def Pw(a0:Al):=aA (λ(y1:Bool)=>some y1) λk2=>cond ((EA a0.From)) (cond ((EA a0.To)) (k2 (decide ((a0.B.length:Int)≤200))) (k2 false)) (k2 false)
def Px(a0:List Al):=aA (λ(y1:Unit)=>some (decide ((a0.length:Int)≤90))) λk2=>uA FU (λ(x3:Int) k4=>cond (x3<(a0.length:Int)) (ob (jA a0 x3) λe5=>cond (!(tD e5)) (some false) (k4 (fA .i64 x3 1))) (k2 ())) 0
def Ku(a0:Au):=
 cond (!a0.On)
 (let x1:Bool:=cond (a0.On==false) (cond (a0.Due==0) (cond (a0.Wait==0) (cond (a0.Tries==0) (true) false) false) false) false
 some x1)
 (aA (λ(y2:Bool)=>
 some y2) λk3=>
 cond ((eA a0.Due 0 1000008))
 (cond (a0.Wait==1)
 (k3 (eA a0.Tries 1 5))
 (cond (a0.Wait==2)
 (k3 (eA a0.Tries 1 5))
 (cond (a0.Wait==4)
 (k3 (eA a0.Tries 1 5))
 (cond (a0.Wait==8)
 (k3 (eA a0.Tries 1 5))
 (k3 false)))))
 (k3 false))
def Kv(a0:Ab):=aA (λ(y1:Bool)=>some y1) λk2=>cond (a0.Kind==0) (cond (a0.Id==0) (cond ((a0.Cn.length:Int)==0) (cond ((a0.Sn.length:Int)==0) (cond (a0.Tick==0) (cond ((a0.Cookie.length:Int)==0) (cond ((a0.Proof.length:Int)==0) (cond (a0.Epoch==0) (cond (a0.Seq==0) (cond ((a0.Body.length:Int)==0) (k2 ((a0.Tag.length:Int)==0)) (k2 false)) (k2 false)) (k2 false)) (k2 false)) (k2 false)) (k2 false)) (k2 false)) (k2 false)) (k2 false)) (k2 false)
def Py(a0:Int):=some (eA a0 4 8)
def No(a0:Int)(a1:Int):=cond (a0==4) (some (decide (a1≤40))) (aA (λy1=>cond (y1) (some (a1==12)) (some (a1==4))) λk2=>cond (a0==5) (k2 true) (k2 (a0==6)))
def Kw(a0:Ab):=
 cond ((nB a0.Kind))
 (aA (λ(y1:Bool)=>
 some y1) λk2=>
 cond (a0.Id==0)
 (cond ((a0.Cn.length:Int)==0)
 (cond ((a0.Sn.length:Int)==12)
 (cond (a0.Tick==0)
 (cond ((a0.Cookie.length:Int)==0)
 (cond ((a0.Proof.length:Int)==0)
 (cond ((eA a0.Epoch 0 4294967295))
 (cond ((eA a0.Seq 0 281474976710655))
 (let r3:Bool:=tE a0.Kind (a0.Body.length:Int)
 cond (r3)
 (k2 ((a0.Tag.length:Int)==16))
 (k2 false))
 (k2 false))
 (k2 false))
 (k2 false))
 (k2 false))
 (k2 false))
 (k2 false))
 (k2 false))
 (k2 false))
 (aA (λy4=>
 cond (y4)
 (some false)
 (cond (a0.Kind==1)
 (aA (λ(y6:Bool)=>
 some y6) λk7=>
 cond ((eA a0.Id 1 9))
 (cond ((a0.Sn.length:Int)==0)
 (cond (a0.Tick==0)
 (cond ((a0.Cookie.length:Int)==0)
 (k7 ((a0.Proof.length:Int)==0))
 (k7 false))
 (k7 false))
 (k7 false))
 (k7 false))
 (cond (a0.Kind==2)
 (aA (λ(y8:Bool)=>
 some y8) λk9=>
 cond (a0.Id==0)
 (cond ((a0.Sn.length:Int)==12)
 (cond ((eA a0.Tick 0 1000000))
 (cond ((a0.Cookie.length:Int)==16)
 (k9 ((a0.Proof.length:Int)==0))
 (k9 false))
 (k9 false))
 (k9 false))
 (k9 false))
 (cond (a0.Kind==3)
 (aA (λ(y10:Bool)=>
 some y10) λk11=>
 cond ((eA a0.Id 1 9))
 (cond ((a0.Sn.length:Int)==12)
 (cond ((eA a0.Tick 0 1000000))
 (cond ((a0.Cookie.length:Int)==16)
 (k11 ((a0.Proof.length:Int)==16))
 (k11 false))
 (k11 false))
 (k11 false))
 (k11 false))
 (some false))))) λk5=>
 cond (a0.Epoch !=0)
 (k5 true)
 (cond (a0.Seq !=0)
 (k5 true)
 (cond ((a0.Body.length:Int) !=0)
 (k5 true)
 (cond ((a0.Tag.length:Int) !=0)
 (k5 true)
 (k5 ((a0.Cn.length:Int) !=12))))))
def Kx(a0:Ae):=aA (λy1=>cond (y1) (some false) (cond (a0.St==0) (aA (λ(y3:Bool)=>some y3) λk4=>cond ((a0.Cn.length:Int)==0) (cond ((HF a0.Fin)) (cond ((oC a0.C)) (cond (!a0.T.On) (cond (!a0.R.On) (k4 (a0.Last==0)) (k4 false)) (k4 false)) (k4 false)) (k4 false)) (k4 false)) (cond ((a0.Cn.length:Int) !=12) (some false) (cond (a0.St==3) (aA (λ(y5:Bool)=>some y5) λk6=>cond ((HF a0.Fin)) (ob (lC a0.C) λr7=>cond (r7) (cond (a0.C.Role==0) (cond (!a0.T.On) (k6 (a0.R.On==(decide ((a0.C.Next.length:Int)>0)))) (k6 false)) (k6 false)) (k6 false)) (k6 false)) (aA (λy8=>cond (y8) (some false) (cond (a0.St==1) (aA (λ(y10:Bool)=>some y10) λk11=>cond ((HF a0.Fin)) (k11 (oC a0.C)) (k11 false)) (aA (λ(y12:Bool)=>some y12) λk13=>cond (a0.St==2) (cond ((TA a0.Fin)) (cond (a0.Fin.Kind==3) (cond (a0.Fin.Id==a0.Id) (ob (uB a0.Fin.Cn a0.Cn) λr14=>cond (r14) (ob (lC a0.C) λr15=>cond (r15) (cond (a0.C.Role==0) (ob (uB a0.C.Sn a0.Fin.Sn) λr16=>cond (r16) (cond (a0.C.Cur.N==0) (cond (!a0.C.HasOld) (k13 ((a0.C.Next.length:Int)==0)) (k13 false)) (k13 false)) (k13 false)) (k13 false)) (k13 false)) (k13 false)) (k13 false)) (k13 false)) (k13 false)) (k13 false)))) λk9=>cond (!a0.T.On) (k9 true) (cond (a0.R.On) (k9 true) (k9 (a0.Last !=0)))))))) λk2=>cond (!(eA a0.Id 1 9)) (k2 true) (cond (!(JC a0.Psk)) (k2 true) (cond (!(EA a0.At)) (k2 true) (cond (!(mD a0.T)) (k2 true) (cond (!(mD a0.R)) (k2 true) (k2 (!(eA a0.Last 0 1000000)))))))
def Ky(a0:Aa):=aA (λy1=>cond (y1) (some false) (aA (λ(y4:Unit)=>aA (λ(y16:Unit)=>aA (λ(y21:Unit)=>some true) λk22=>uA FU (λ(x23:Int) k24=>cond (x23<(a0.Notes.length:Int)) (ob (jA a0.Notes x23) λe25=>cond (!(gC e25)) (some false) (k24 (fA .i64 x23 1))) (k22 ())) 0) λk17=>uA FU (λ(x18:Int) k19=>cond (x18<(a0.Known.length:Int)) (ob (jA a0.Known x18) λe20=>cond ((e20.length:Int) !=32) (some false) (k19 (fA .i64 x18 1))) (k17 ())) 0) λk5=>uA FU (λ(x6:Int) k7=>cond (x6<2) (aA (λy8=>cond (y8) (some false) (k7 (fA .i64 x6 1))) λk9=>ob (jA a0.Clients x6) λe10=>ob (qD e10) λr11=>cond (!r11) (k9 true) (ob (jA a0.Clients x6) λe12=>cond (e12.Id !=(fA .i64 x6 1)) (k9 true) (ob (jA a0.Clients x6) λe13=>ob (jA a0.S.Psks x6) λe14=>ob (uB e13.Psk e14) λr15=>k9 (!r15)))) (k5 ())) 0)) λk2=>cond (!(eA a0.Now 0 1000000)) (k2 true) (cond ((a0.Clients.length:Int) !=2) (k2 true) (ob (xC a0.S) λr3=>cond (!r3) (k2 true) (cond ((a0.S.Psks.length:Int) !=2) (k2 true) (cond (!(YB a0.D)) (k2 true) (cond (!(DD a0.Seen)) (k2 true) (k2 (decide ((a0.Known.length:Int)>12))))))))
def Pz(a0:Al):=aA (λ(y1:Bool)=>some y1) λk2=>cond ((EA a0.From)) (cond ((EA a0.To)) (k2 (decide ((a0.B.length:Int)≤200))) (k2 false)) (k2 false)
def Kz(a0:List Al):=aA (λ(y1:Unit)=>some (decide ((a0.length:Int)≤90))) λk2=>uA FU (λ(x3:Int) k4=>cond (x3<(a0.length:Int)) (ob (jA a0 x3) λe5=>cond (!(tD e5)) (some false) (k4 (fA .i64 x3 1))) (k2 ())) 0
def La(a0:Aa):=aA (λy1=>cond (y1) (some false) (aA (λy4=>cond (y4) (some false) (aA (λ(y6:Unit)=>aA (λ(y16:Unit)=>aA (λ(y21:Unit)=>some true) λk22=>uA FU (λ(x23:Int) k24=>cond (x23<(a0.Notes.length:Int)) (ob (jA a0.Notes x23) λe25=>cond (!(gC e25)) (some false) (k24 (fA .i64 x23 1))) (k22 ())) 0) λk17=>uA FU (λ(x18:Int) k19=>cond (x18<(a0.Known.length:Int)) (ob (jA a0.Known x18) λe20=>cond ((e20.length:Int) !=32) (some false) (k19 (fA .i64 x18 1))) (k17 ())) 0) λk7=>uA FU (λ(x8:Int) k9=>cond (x8<(a0.Clients.length:Int)) (ob (jA a0.Clients x8) λe10=>aA (λy11=>cond (y11) (some false) (k9 (fA .i64 x8 1))) λk12=>ob (qD e10) λr13=>cond (!r13) (k12 true) (cond (e10.Id !=(fA .i64 x8 1)) (k12 true) (ob (jA a0.S.Psks x8) λe14=>ob (uB e10.Psk e14) λr15=>k12 (!r15)))) (k7 ())) 0)) λk5=>cond (!(YB a0.D)) (k5 true) (cond (!(DD a0.Seen)) (k5 true) (k5 (decide ((a0.Known.length:Int)>12)))))) λk2=>cond (!(eA a0.Now 0 1000000)) (k2 true) (cond ((a0.Clients.length:Int) !=2) (k2 true) (ob (xC a0.S) λr3=>cond (!r3) (k2 true) (k2 ((a0.S.Psks.length:Int) !=2))))
def Lb(a0:Aa)(a1:Int):=ob (jA a0.Clients (oA .i64 a1 1)) λe1=>ob (CC a0.S.T e1.C.Sn) λr2=>aA (λy3=>cond (y3) (some (e1,(⟨0,[],[],(⟨0,[],(⟨0,[],0,(⟨0,[]⟩:Ap)⟩:Av),(⟨0,[],0,(⟨0,[]⟩:Ap)⟩:Av),false,0,[]⟩:Aj),(⟨(⟨0,0⟩:Af),[]⟩:Ai),0,0,false⟩:Ah),false)) (ob (jA a0.S.T.L r2) λe6=>some (e1,e6,true))) λk4=>cond (e1.St !=3) (k4 true) (cond (r2<0) (k4 true) (ob (jA a0.S.T.L r2) λe5=>k4 e5.Dead))
def Lc(a0:Aa)(a1:Int):=aA (λy1=>cond (y1) (some false) (ob (kL a0 a1) λr4=>cond (!r4.2.2) (some true) (ob (uB r4.1.Cn r4.2.1.Cn) λr5=>cond (!r5) (some false) (aA (λy6=>cond (y6) (aA (λ(y9:Bool)=>some y9) λk10=>cond (r4.1.C.Cur.Win.Top<r4.2.1.C.Cur.Seq) (k10 (decide (r4.2.1.C.Cur.Win.Top<r4.1.C.Cur.Seq))) (k10 false)) (aA (λ(y11:Bool)=>some y11) λk12=>cond (r4.2.1.C.Cur.N==(fA .i64 r4.1.C.Cur.N 1)) (ob (uB r4.1.C.Next r4.2.1.C.Cur.Key) λr13=>cond (r13) (cond (r4.2.1.C.HasOld) (cond (r4.2.1.C.Until==(-1)) (ob (uB r4.2.1.C.Old.Key r4.1.C.Cur.Key) λr14=>cond (r14) (cond (r4.2.1.C.Old.Win.Top<r4.1.C.Cur.Seq) (k12 (decide (r4.1.C.Cur.Win.Top<r4.2.1.C.Old.Seq))) (k12 false)) (k12 false)) (k12 false)) (k12 false)) (k12 false)) (k12 false))) λk7=>cond (r4.1.C.Cur.N==r4.2.1.C.Cur.N) (ob (uB r4.1.C.Cur.Key r4.2.1.C.Cur.Key) λr8=>k7 r8) (k7 false))))) λk2=>ob (pE a0) λr3=>cond (!r3) (k2 true) (k2 (!(eA a1 1 2)))
def Ld(a0:Aa)(a1:Int):=aA (λy1=>cond (y1) (some false) (ob (jA a0.Clients (oA .i64 a1 1)) λe4=>ob (CC a0.S.T e4.C.Sn) λr5=>aA (λy6=>cond (y6) (some true) (ob (jA a0.S.T.L r5) λe9=>ob (uB e9.Cn e4.Cn) λr10=>cond (!r10) (some false) (cond (e9.C.Cur.N==e4.C.Cur.N) (aA (λ(y11:Bool)=>some y11) λk12=>ob (uB e9.C.Cur.Key e4.C.Cur.Key) λr13=>cond (r13) (cond (e9.C.Cur.Win.Top<e4.C.Cur.Seq) (k12 (decide (e4.C.Cur.Win.Top<e9.C.Cur.Seq))) (k12 false)) (k12 false)) (aA (λ(y14:Bool)=>some y14) λk15=>cond (e9.C.Cur.N==(fA .i64 e4.C.Cur.N 1)) (ob (uB e4.C.Next e9.C.Cur.Key) λr16=>cond (r16) (cond (e9.C.HasOld) (cond (e9.C.Until==(-1)) (ob (uB e9.C.Old.Key e4.C.Cur.Key) λr17=>cond (r17) (cond (e9.C.Old.Win.Top<e4.C.Cur.Seq) (k15 (decide (e4.C.Cur.Win.Top<e9.C.Old.Seq))) (k15 false)) (k15 false)) (k15 false)) (k15 false)) (k15 false)) (k15 false))))) λk7=>cond (e4.St !=3) (k7 true) (cond (r5<0) (k7 true) (ob (jA a0.S.T.L r5) λe8=>k7 e8.Dead)))) λk2=>ob (pE a0) λr3=>cond (!r3) (k2 true) (k2 (!(eA a1 1 2)))
def Le(a0:Aa)(a1:Int):=
 aA (λy1=>
 cond (y1)
 (some false)
 (ob (jA a0.Clients (oA .i64 a1 1)) λe4=>
 ob (CC a0.S.T e4.C.Sn) λr5=>
 aA (λy6=>
 cond (y6)
 (some false)
 (ob (jA a0.S.T.L r5) λe9=>
 aA (λy10=>
 cond (y10)
 (some false)
 (aA (λ(y14:Bool)=>
 some y14) λk15=>
 cond (e4.C.Cur.Seq≤281474976709556)
 (cond (e9.C.Cur.Seq≤281474976709556)
 (cond (!e9.C.HasOld)
 (k15 (decide (e4.C.Cur.N≤4294967293)))
 (cond (e9.C.Old.Seq≤281474976709556)
 (k15 (decide (e4.C.Cur.N≤4294967293)))
 (k15 false)))
 (k15 false))
 (k15 false))) λk11=>
 let r12:Bool:=eA (oA .i64 a0.Now e4.Last) 0 40
 cond (!r12)
 (k11 true)
 (let r13:Bool:=eA (oA .i64 a0.Now e9.Last) 0 40
 cond (!r13)
 (k11 true)
 (cond (e4.R.On)
 (k11 (decide (e4.R.Due>(fA .i64 a0.Now 8))))
 (k11 false))))) λk7=>
 cond (e4.St !=3)
 (k7 true)
 (cond (r5<0)
 (k7 true)
 (ob (jA a0.S.T.L r5) λe8=>
 k7 e8.Dead)))) λk2=>
 ob (lL a0 a1) λr3=>
 cond (!r3)
 (k2 true)
 (k2 (decide (a0.Now>999900)))
def Lf(a0:Aa)(a1:Int):=
 aA (λy1=>
 cond (y1)
 (some false)
 (ob (kL a0 a1) λr4=>
 aA (λy5=>
 cond (y5)
 (some false)
 (aA (λ(y9:Int)=>
 aA (λy12=>
 cond (y12)
 (some false)
 (aA (λ(y14:Bool)=>
 some y14) λk15=>
 cond (!r4.1.R.On)
 (k15 true)
 (k15 (decide (r4.1.R.Due≤(fA .i64 a0.Now 8)))))) λk13=>
 cond (y9>281474976709556)
 (k13 true)
 (k13 (decide (r4.1.C.Cur.N>4294967293)))) λk10=>
 cond (r4.2.1.C.HasOld)
 (let x11:Int:=AE (AE r4.1.C.Cur.Seq r4.2.1.C.Cur.Seq) r4.2.1.C.Old.Seq
 k10 x11)
 (k10 (AE r4.1.C.Cur.Seq r4.2.1.C.Cur.Seq)))) λk6=>
 cond (!r4.2.2)
 (k6 true)
 (let r7:Bool:=eA (oA .i64 a0.Now r4.1.Last) 0 40
 cond (!r7)
 (k6 true)
 (let r8:Bool:=eA (oA .i64 a0.Now r4.2.1.Last) 0 40
 k6 (!r8))))) λk2=>
 ob (lL a0 a1) λr3=>
 cond (!r3)
 (k2 true)
 (k2 (decide (a0.Now>999900)))
end
end Go.D
namespace Go.D
end Go.D
namespace Go.D
open Option renaming bind→ob
def zbA.ok{x}(_:vA [.v .Addr] x):Pd x=some (EA x):=zjq x
def zbg.ok{x}(_:vA [.v .Addr] x):Pb x=some (EA x):=zjq x
def zkA(i:Int):(cond (!(eA i 0 255)) (some (⟨0,0⟩:Af)) (some (⟨fA .i64 167772160 i,fA .i64 7000 i⟩:Af)))=some (vC i):=by
 cases h:eA i 0 255
 ·rw[zvA]at h;simp[vC,h]
 ·rw[rD]at h;simp only[Bool.not_true,cond_false,vC,h,and_self,if_true,fA];rw[FB (by omega) (by omega),FB (by omega) (by omega)]
def zce.ok{x}(_:vA [.v .int] x):Pe x=some (vC x):=zkA _
def zcq.ok{x}(_:vA [.v .int] x):Pg x=some (vC x):=zkA _
def zcD.ok{x}(_:vA [] x):Pf=some SB:=rfl
def zcO.ok{x}(_:vA [] x):Pi=some SB:=rfl
def qI(a b:Af):(cond (a.Host==b.Host) (cond (a.Port==b.Port) (true) false) false)=IA a b:=by
 simp only[IA,Bool.cond_false_right,Bool.and_true]
def zrt(w:Aa)(a:Af)(h:wt w≤bA){f:Ae→Option Int}(hf:∀c,f c=some c.Id):cond (IA a SB) (some 0) (uA FU (λ(x5:Int) k6=>cond (x5<(w.Clients.length:Int)) (ob (jA w.Clients x5) λe7=>cond (IA e7.At a) (f e7) (k6 (fA .i64 x5 1))) (some (-1))) 0)=some (PH w a):=by
 rw[cG]at h;rw[zjO w.Clients (dG (by omega)) (λc=>IA c.At a) (λc=>some c.Id) (some (-1)) (λi k hi=>?_) (λk=>by simp only[UD,cond_false])]
 ·rw[PH];cases IA a SB
  ·cases w.Clients.find? _<;>rfl
  ·rfl
 ·simp only[sD hi,cond_true,DB hi,XA,hf]
def zov(w:Aa)(a:Af)(h:wt w≤bA):Kd w a=some (PH w a):=by
 simp only[Kd,aA,qI];exact zrt w a h (λ_=>rfl)
def GQ.ok{x}(_:vA [.v .World, .v .Addr] x){r}:pJ x.1 x.2=some r→Kd x.1 x.2=some r:=QA λh=>zov x.1 x.2 h
def zoG(w:Aa)(a:Af)(h:wt w≤bA):Kc w a=some (PH w a):=by
 rw[cG]at h;simp only[Kc,aA,qI];rw[zjO w.Clients (dG (by omega)) (λc=>IA c.At a) (λc=>some c.Id) (some (-1)) (λi k hi=>?_) (λk=>by simp only[UD,cond_false])]
 ·rw[PH];cases IA a SB
  ·cases w.Clients.find? _<;>rfl
  ·rfl
 ·simp only[sD hi,cond_true,DB hi,XA]
def VQ.ok{x}(_:vA [.v .World, .v .Addr] x){r}:pJ x.1 x.2=some r→Kc x.1 x.2=some r:=QA λh=>zoG x.1 x.2 h
def IU.ok{x}(_:vA [.v .int, .v .int] x):Nl x.1 x.2=some (ND x.1 x.2):=by
 simp only[Nl,aA,KC,Bool.cond_true_left];rfl
def tU.ok{x}(_:vA [.sl .byte, .v .int] x):Nm x.1 x.2=some (RC x.1 x.2):=by
 simp only[Nm,aA,KC,Bool.cond_true_left];rfl
def LR.ok{x}(_:vA [.v .Note] x):Kb x=some (gC x):=by
 show Kb (x:Ad)=some (gC (x:Ad))
 generalize (show Ad from x)=n;simp only[Kb,aA,KC,Bool.cond_false_right,gC]
 grind
def CR.ok{x}(_:vA [.v .Note] x):Ka x=some (gC x):=by
 show Ka (x:Ad)=some (gC (x:Ad))
 generalize (show Ad from x)=n;simp only[Ka,aA,KC,Bool.cond_false_right,gC,RC]
 grind
def zbK.ok{x}(_:vA [.v .Jar] x):Pk x=some (gF x):=rfl
def zbL.ok{x}(_:vA [.v .Jar] x):Pr x=some (gF x):=rfl
def zji(d:Ar):(aA (λ(y1:Bool)=>some y1) λk2=>cond (eA (d.Seed.length:Int) 1 32) (k2 (eA d.N 0 10000)) (k2 false))=some (YB d):=by
 simp only[aA,KC,Bool.cond_false_right,YB]
def zbk.ok{x}(_:vA [.v .Dice] x):Pj x=some (YB x):=zji x
def zbn.ok{x}(_:vA [.v .Dice] x):Pq x=some (YB x):=zji x
def zkY(t:Ao)(h:wt t≤bA):(aA (λ(y1:Int)=>some y1) λk2=>uA FU (λ(x3:Int×Int) k4=>cond (x3.2<(t.L.length:Int)) (ob (jA t.L x3.2) λe5=>
  aA (λ(y6:Int)=>k4 (y6,(fA .i64 x3.2 1))) λk7=>cond (!e5.Dead) (k7 (fA .i64 x3.1 1)) (k7 x3.1)) (k2 x3.1)) (0,0))=some (live t):=by
 rw[CK]at h;simp only[aA];rw[zth t.L (dG h) (λs e=>bif e.Dead then s else fA .i64 s 1) (λs=>some s) (λi s k hi=>?_) (λs k=>by simp only[UD,cond_false])]
 ·rfl
 ·simp only[sD hi,cond_true,DB hi,XA];cases t.L[i].Dead<;>rfl
def zb3.ok{x}(_:vA [.v .Tab] x){r}:CJ x=some r→Pl x=some r:=QA λh=>zkY x h
def zb6.ok{x}(_:vA [.v .Tab] x){r}:CJ x=some r→Ps x=some r:=QA λh=>zkY x h
def NP.ok{x}(_:vA [.v .Chan] x):Kp x=some (oC x):=by
 show Kp (x:Aj)=some (oC (x:Aj))
 generalize (show Aj from x)=c;simp only[Kp,aA,KC,Bool.cond_false_right,oC]
 grind
def znO(c:Aj)(h:wt c≤bA):Ke c=some (oC c):=by
 rw[QH]at h
 simp only[Ke,aA,LO,PA (p:=wt c.Old≤bA∧wt (⟨0,[],0,(⟨0,[]⟩:Ap)⟩:Av)≤bA) ⟨by omega,zgN⟩,
  PA (p:=wt c.Cur≤bA∧wt (⟨0,[],0,(⟨0,[]⟩:Ap)⟩:Av)≤bA) ⟨by omega,zgN⟩,zkl,KC,Bool.cond_false_right,oC]
 grind
def HP.ok{x}(_:vA [.v .Chan] x){r}:FO x=some r→Ke x=some r:=QA λh=>znO x h
def wJ(a b:Int):decide (a>b)= !decide (a≤b):=by
 by_cases h:a≤b
 ·rw[decide_eq_true h,decide_eq_false (by omega)];rfl
 ·rw[decide_eq_false h,decide_eq_true (by omega)];rfl
def LQ.ok{x}(_:vA [.v .Paths] x):Kq x=some (VB x):=by
 show Kq (x:Ai)=some (VB (x:Ai))
 generalize (show Ai from x)=p;simp only[Kq,aA,qI,VB,wJ (p.Cands.length:Int) 3];cases EA p.At
 ·rfl
 cases hd:decide ((p.Cands.length:Int)≤3)
 ·rfl
 have hd:=of_decide_eq_true hd;have hl:p.Cands.length≤maxLen:=by rw[dD];omega
 simp only[Bool.not_true,cond_false];rw[kJ p.Cands.length hl (KO p) (some false) (some true) (λi k hi=>?_) (λk=>by simp only[UD,cond_false])]
 ·cases qB _ _<;>rfl
 ·simp only[sD hi,cond_true,DB hi,XA];rw[kJ i (by omega) (λj=>(p.Cands[j]?).any λd=>IA d.A p.Cands[i].A) (some false) (k (fA .i64 (i:Int) 1)) (λj k' hj=>?_) (λk'=>by simp only[UD,cond_false])]
  ·simp only[KO,FD hi,mA];cases EA p.Cands[i].A<;>cases hn:((p.Cands[i].Draw.length:Int)==12)<;>cases eA p.Cands[i].Until 0 1000006<;>cases IA p.Cands[i].A p.At<;>cases qB i _<;>simp[bne,hn]
  ·simp only[sD hj,cond_true,DB (Nat.lt_trans hj hi),XA,FD (Nat.lt_trans hj hi)]
def xQ.ok{x}(_:vA [.v .Paths] x):Kf x=some (VB x):=by
 show Kf (x:Ai)=some (VB (x:Ai))
 generalize (show Ai from x)=p;simp only[Kf,aA,qI,VB,wJ (p.Cands.length:Int) 3];cases EA p.At
 ·rfl
 cases hd:decide ((p.Cands.length:Int)≤3)
 ·rfl
 have hd:=of_decide_eq_true hd;have hl:p.Cands.length≤maxLen:=by rw[dD];omega
 simp only[Bool.not_true,cond_false];rw[kJ p.Cands.length hl (KO p) (some false) (some true) (λi k hi=>?_) (λk=>by simp only[UD,cond_false])]
 ·cases qB _ _<;>rfl
 ·have DV:(p.Cands.take i).length=i:=by rw[List.length_take];omega
  simp only[sD hi,cond_true,DB hi,XA,zw9 (Nat.le_of_lt hi),zxb];rw[kJ i (by omega) (λj=>(p.Cands[j]?).any λd=>IA d.A p.Cands[i].A) (some false) (k (fA .i64 (i:Int) 1)) (λj k' hj=>?_) (λk'=>by rw[DV];simp only[UD,cond_false])]
  ·simp only[KO,FD hi];cases EA p.Cands[i].A<;>cases mA p.Cands[i].Draw<;>cases eA p.Cands[i].Until 0 1000006<;>cases IA p.Cands[i].A p.At<;>cases qB i _<;>rfl
  ·have GW:j<(p.Cands.take i).length:=by omega
   simp only[sD GW,cond_true,DB GW,XA,FD (Nat.lt_trans hj hi),List.getElem_take]
def zoI(s:Ah)(h:wt s≤bA):Kr s=some (TB s):=by
 rw[vK]at h;have hc:=QH s.C;have hn:vC (-1)=⟨0,0⟩:=rfl;have h0:s.Last=0→eA s.Last 0 1000000=true:=λh=>by rw[h];rfl
 simp only[Kr,aA,qI];simp only[hn,lC,PA (p:=wt s.C≤bA) (by omega),kF (a:=s.C.Sn) (b:=s.Sn) (by omega) (by omega),TB,mA];cases s.Dead<;>simp only[KC,Bool.cond_false_right,cond_true,cond_false]<;>grind
def mR.ok{x}(_:vA [.v .Sess] x){r}:ED x=some r→Kr x=some r:=QA λh=>zoI x h
def zpb(s:Ah)(h:wt s≤bA):Kg s=some (TB s):=by
 rw[vK]at h;have hc:=QH s.C;have hn:(cond (s.P.At.Host==0) (cond (s.P.At.Port==0) (true) false) false)=IA s.P.At ⟨0,0⟩:=qI s.P.At ⟨0,0⟩;simp only[Kg,aA,hn,lC,FO,PA (p:=wt s.C≤bA) (by omega),kF (a:=s.C.Sn) (b:=s.Sn) (by omega) (by omega),TB];cases s.Dead<;>simp only[KC,Bool.cond_false_right,cond_true,cond_false]<;>grind
def DR.ok{x}(_:vA [.v .Sess] x){r}:ED x=some r→Kg x=some r:=QA λh=>zpb x h
def zjs(t:Ao)(b:List UInt8)(h:wt t≤bA∧wt b≤bA):(aA (λ(y1:Unit)=>some (-1)) λk2=>uA FU (λ(x3:Int) k4=>cond (x3<(t.L.length:Int)) (ob (jA t.L x3) λe5=>
  ob (uB e5.Sn b) λr6=>cond (r6) (some x3) (k4 (fA .i64 x3 1))) (k2 ())) 0)=some (XB t b):=by
 rw[CK]at h;simp only[aA];rw[zfu t.L.length (dG h.1) (eF t b) (λi k hi=>?_) (λk=>by simp only[UD,cond_false])]
 ·rfl
 ·have:=fG hi;have hs:=vK t.L[i];simp only[sD hi,cond_true,DB hi,XA,eF,FD hi,kF (a:=t.L[i].Sn) (b:=b) (by omega) h.2]
def zbs.ok{x}(_:vA [.v .Tab, .sl .byte] x){r}:CC x.1 x.2=some r→Pm x.1 x.2=some r:=QA λh=>zjs x.1 x.2 h
def zbt.ok{x}(_:vA [.v .Tab, .sl .byte] x){r}:CC x.1 x.2=some r→Pt x.1 x.2=some r:=QA λh=>zjs x.1 x.2 h
def zjr{t:Ao}{i:Nat}(hi:i<t.L.length):eF t t.L[i].Sn i=true:=by simp[eF,hi]
def zgt{t:Ao}(h:wt t≤bA){i:Nat}(hi:i<t.L.length):wt t.L[i]≤bA∧wt t.L[i].Sn≤bA:=by
 rw[CK]at h;have:=fG hi;have hs:=vK t.L[i];omega
def zpj(t:Ao)(h:wt t≤bA):Ks t=some (GC t):=by
 have hl:=dG (CK t▸h);simp only[Ks,aA,GC,CJ,PA h,wJ (t.L.length:Int) 12,wJ (live t) t.Cap]
 have key:uA FU (λ(x5:Int) k6=>cond (x5<(t.L.length:Int)) (ob (jA t.L x5) λe9=>ob (ED e9) λr10=>cond (!r10) (cond true (some false) (k6 (fA .i64 x5 1))) (ob (jA t.L x5) λe11=>
   ob (CC t e11.Sn) λr12=>cond (r12 !=x5) (some false) (k6 (fA .i64 x5 1)))) (some true)) 0=some (!(qB t.L.length (xK t))):=by
  rw[kJ t.L.length hl (xK t) (some false) (some true) (λi k hi=>?_) (λk=>by simp only[UD,cond_false])]
  ·cases qB _ _<;>rfl
  ·have hw:=zgt h hi;simp only[sD hi,cond_true,DB hi,XA,ED,PA hw.1,CC,PA (p:=wt t≤bA∧wt t.L[i].Sn≤bA) ⟨h,hw.2⟩,XB,(zfT hi (zjr hi)).2,xK,FD hi];cases TB t.L[i]<;>cases qB i _<;>rfl
 rw[key];cases eA t.Cap 1 6<;>cases decide ((t.L.length:Int)≤12)<;>cases decide (live t≤t.Cap)<;>rfl
def RR.ok{x}(_:vA [.v .Tab] x){r}:AG x=some r→Ks x=some r:=QA λh=>zpj x h
def zpg(t:Ao)(h:wt t≤bA):Kh t=some (GC t):=by
 have hl:=dG (CK t▸h);simp only[Kh,aA,GC,CJ,PA h,wJ (t.L.length:Int) 12,wJ (live t) t.Cap]
 have key:uA FU (λ(x5:Int) k6=>cond (x5<(t.L.length:Int)) (ob (jA t.L x5) λe9=>ob (ED e9) λr10=>cond (!r10) (cond true (some false) (k6 (fA .i64 x5 1)))
   (ob (CC t e9.Sn) λr12=>cond (r12<x5) (some false) (k6 (fA .i64 x5 1)))) (some true)) 0=some (!(qB t.L.length (xK t))):=by
  rw[kJ t.L.length hl (xK t) (some false) (some true) (λi k hi=>?_) (λk=>by simp only[UD,cond_false])]
  ·cases qB _ _<;>rfl
  ·have hw:=zgt h hi;simp only[sD hi,cond_true,DB hi,XA,ED,PA hw.1,CC,PA (p:=wt t≤bA∧wt t.L[i].Sn≤bA) ⟨h,hw.2⟩,XB,(zfT hi (zjr hi)).1,xK,FD hi];cases TB t.L[i]<;>cases qB i _<;>rfl
 rw[key];cases eA t.Cap 1 6<;>cases decide ((t.L.length:Int)≤12)<;>cases decide (live t≤t.Cap)<;>rfl
def PR.ok{x}(_:vA [.v .Tab] x){r}:AG x=some r→Kh x=some r:=QA λh=>zpg x h
end Go.D
namespace Go.D
def zlw(l:List Ak)(a:Af)(hl:l.length≤maxLen):(aA (λ(y1:Unit)=>some (-1)) λk2=>uA FU (λ(x3:Int) k4=>cond (x3<(l.length:Int)) (Option.bind (jA l x3) λe5=>
  cond (cond (e5.A.Host==a.Host) (cond (e5.A.Port==a.Port) (true) false) false) (some x3) (k4 (fA .i64 x3 1))) (k2 ())) 0)=some (VA l a):=by
 simp only[aA,qI];rw[zfu l.length hl (uF l a) (λi k hi=>?_) (λk=>by simp only[UD,cond_false])]
 ·rfl
 ·simp only[sD hi,cond_true,DB hi,XA,uF,FD hi]
def zaZ.ok{x}(hb:vA [.sl .Credit, .v .Addr] x):Pn x.1 x.2=some (VA x.1 x.2):=zlw x.1 x.2 hb.1.1
def zr3(a:Af):IA a a=true:=by simp[IA]
def zsy{l:List Ak}{i:Nat}(hi:i<l.length):uF l l[i].A i=true:=by simp[uF,hi,zr3]
def zwS{l:List Ak}{i:Nat}(hi:i<l.length):decide (VA l l[i].A<(i:Int))=qB i (uF l l[i].A):=(zfT (p:=uF l l[i].A) hi (zsy hi)).1
def PP.ok{x}(hb:vA [.sl .Credit] x):Ki x=some (pC x):=by
 show Ki (x:List Ak)=some (pC (x:List Ak))
 have hl:(show List Ak from x).length≤maxLen:=hb.1;generalize (show List Ak from x)=l at hl⊢;simp only[Ki,aA,pC,wJ (l.length:Int) 8];rw[kJ l.length hl (gS l) (some false) (some true) (λi k hi=>?_) (λk=>by simp only[UD,cond_false])]
 ·cases decide ((l.length:Int)≤8)<;>cases qB _ _<;>rfl
 ·simp only[sD hi,cond_true,DB hi,XA,zwS hi,gS,FD hi];cases EA l[i].A<;>cases eA l[i].Got 0 1000000<;>cases eA l[i].Sent 0 _<;>cases qB i _<;>rfl
def OP.ok{x}(hb:vA [.sl .Credit] x):Kt x=some (pC x):=by
 show Kt (x:List Ak)=some (pC (x:List Ak))
 have hl:(show List Ak from x).length≤maxLen:=hb.1;generalize (show List Ak from x)=l at hl⊢;simp only[Kt,aA,pC,wJ (l.length:Int) 8,qI];rw[kJ l.length hl (gS l) (some false) (some true) (λi k hi=>?_) (λk=>by simp only[UD,cond_false])]
 ·cases decide ((l.length:Int)≤8)<;>cases qB _ _<;>rfl
 ·simp only[sD hi,cond_true,DB hi,XA];rw[kJ i (by omega) (uF l l[i].A) (some false) (k (fA .i64 (i:Int) 1)) (λj k' hj=>?_) (λk'=>by simp only[UD,cond_false])]
  ·simp only[gS,FD hi];cases EA l[i].A<;>cases eA l[i].Got 0 1000000<;>cases eA l[i].Sent 0 _<;>cases qB i _<;>rfl
  ·simp only[sD hj,cond_true,DB (Nat.lt_trans hj hi),DB hi,XA,uF,FD (Nat.lt_trans hj hi)]
def zbR.ok{x}(_:vA [.sl .byte] x):Po x=some (JC x):=rfl
def zbT.ok{x}(_:vA [.sl .byte] x):Pu x=some (JC x):=rfl
def ziD(s:Ac)(h:wt s≤bA):Kj s=some (wB s):=by
 rw[lO]at h;have hT:=CK s.T;simp only[Kj,aA,AG,PA (p:=wt s.T≤bA) (by omega),wB];rw[CS s.Psks (dG (by omega)) (λb=>!JC b) (some false) _ (λi k hi=>?_) (λk=>by simp only[UD,cond_false];rfl)]
 ·rw[CS s.T.L (dG (by omega)) (λe=>decide (e.Id>(s.Psks.length:Int))) (some false) (some true) (λi k hi=>?_) (λk=>by simp only[UD,cond_false])]
  ·cases eA (s.Psks.length:Int) 1 9<;>cases gF s.J<;>cases YB s.D<;>cases GC s.T<;>cases pC s.Cr<;>cases s.Psks.any _<;>cases s.T.L.any _<;>rfl
  ·simp only[sD hi,cond_true,DB hi,XA]
 ·simp only[sD hi,cond_true,DB hi,XA]
def gQ.ok{x}(_:vA [.v .Server] x){r}:xC x=some r→Kj x=some r:=QA λh=>ziD x h
def zaX.ok{x}(_:vA [.v .Server] x){r}:xC x=some r→Pv x=some r:=QA λh=>ziD x h
def zjv(w:Al):(aA (λ(y1:Bool)=>some y1) λk2=>cond ((EA w.From)) (cond ((EA w.To)) (k2 (decide ((w.B.length:Int)≤200))) (k2 false)) (k2 false))=some (tD w):=by
 simp only[aA,KC,Bool.cond_false_right,tD,Bool.and_assoc]
def zbr.ok{x}(_:vA [.v .Wire] x):Pz x=some (tD x):=zjv x
def zbo.ok{x}(_:vA [.v .Wire] x):Pw x=some (tD x):=zjv x
def zjd(l:List Al)(hl:l.length≤maxLen):Kz l=some (DD l):=by
 simp only[Kz,aA,DD];rw[CS l hl (λw=>!tD w) (some false) _ (λi k hi=>?_) (λk=>by simp only[UD,cond_false];rfl)]
 ·cases l.any _<;>rfl
 ·simp only[sD hi,cond_true,DB hi,XA]
def NQ.ok{x}(hb:vA [.sl .Wire] x):Kz x=some (DD x):=zjd x hb.1
def za3.ok{x}(hb:vA [.sl .Wire] x):Px x=some (DD x):=zjd x hb.1
def znV(f g:Ab)(h:wt f≤bA∧wt g≤bA):Kk f g=some (kK f g):=by
 simp only[tI]at h;simp(disch:=omega) only[Kk,aA,kF];simp only[KC,Bool.cond_false_right,kK,Bool.and_assoc]
def LP.ok{x}(_:vA [.v .Frame, .v .Frame] x){r}:eO x.1 x.2=some r→Kk x.1 x.2=some r:=QA λh=>znV x.1 x.2 h
def zfc(t:Au):(cond (t.On==false) (cond (t.Due==0) (cond (t.Wait==0) (cond (t.Tries==0) (true) false) false) false) false)=GF t:=by
 simp only[Bool.cond_false_right,GF,Bool.and_true,Bool.and_assoc]
def PQ.ok{x}(_:vA [.v .Timer] x):Kl x=some (mD x):=by
 show Kl (x:Au)=some (mD (x:Au))
 generalize (show Au from x)=t;simp only[Kl,zfc,aA,mD];cases t.On
 ·rfl
 ·simp only[Bool.not_true,cond_false,cond_true,KC];cases eA t.Due 0 1000008<;>cases eA t.Tries 1 5<;>grind
def oQ.ok{x}(_:vA [.v .Timer] x):Ku x=some (mD x):=by
 show Ku (x:Au)=some (mD (x:Au))
 generalize (show Au from x)=t;simp only[Ku,zfc,aA,mD];cases t.On
 ·rfl
 ·simp only[Bool.not_true,cond_false,cond_true,KC];cases eA t.Due 0 1000008<;>cases eA t.Tries 1 5<;>grind
def zP.ok{x}(_:vA [.v .Frame] x):Kv x=some (HF x):=by
 show Kv (x:Ab)=some (HF (x:Ab))
 generalize (show Ab from x)=f;simp only[Kv,aA,KC,Bool.cond_false_right,HF,Bool.and_assoc]
def zbx.ok{x}(_:vA [.v .int] x):Pp x=some (nB x):=rfl
def zbz.ok{x}(_:vA [.v .int] x):Py x=some (nB x):=rfl
def AU.ok{x}(_:vA [.v .int, .v .int] x):Nn x.1 x.2=some (tE x.1 x.2):=by
 simp only[Nn,aA,KC,tE];cases h5:x.1==(5:Int)<;>cases h4:x.1==(4:Int)<;>simp
def zU.ok{x}(_:vA [.v .int, .v .int] x):No x.1 x.2=some (tE x.1 x.2):=by
 simp only[No,aA,KC,tE];cases h5:x.1==(5:Int)<;>cases h4:x.1==(4:Int)<;>simp
def zgc(a b:Int):(a !=b)= !(a==b):=rfl
def UQ.ok{x}(_:vA [.v .Frame] x):Kw x=some (TA x):=by
 show Kw (x:Ab)=some (TA (x:Ab))
 generalize (show Ab from x)=f;simp only[Kw,aA,KC,Bool.cond_false_right,Bool.cond_false_left,Bool.cond_true_left,Bool.cond_true_right,TA,zgc];cases nB f.Kind
 ·simp only[cond_false];cases f.Epoch==0<;>cases f.Seq==0<;>cases(f.Body.length:Int)==0<;>cases(f.Tag.length:Int)==0<;>cases(f.Cn.length:Int)==12<;>simp[Bool.and_assoc]
 ·simp only[cond_true,Bool.and_assoc]
def ze2{k:Int}(h:nB k=true):(k==1)=false∧(k==2)=false∧(k==3)=false:=by
 rw[nB,rD]at h;exact⟨beq_false_of_ne (by omega),beq_false_of_ne (by omega),beq_false_of_ne (by omega)⟩
def XU(l:List UInt8):(l==[])=((l.length:Int)==0):=by rw[znB];cases l<;>rfl
def zou(f:Ab)(h:wt f≤bA):Km f=some (TA f):=by
 have hs:∀g:Ab,wt g≤wt f→eO f g=some (kK f g):=λg hg=>nA ⟨h,by omega⟩;have hw:=tI f;simp only[Km,aA,KC,TA,mA];cases h1:f.Kind==1
 ·cases h2:f.Kind==2
  ·cases h3:f.Kind==3
   ·cases h4:nB f.Kind
    ·simp
    ·simp only[cond_true,cond_false];rw[hs _ (by simp only[tI,SG];omega)];simp only[kK,beq_self_eq_true,XU,KC,Bool.cond_false_right];cases eA f.Epoch 0 4294967295<;>cases eA f.Seq 0 281474976710655<;>grind
   ·have h4 : nB f.Kind = false := by cases h4 : nB f.Kind; · rfl
                                      rw[(ze2 h4).2.2]at h3;cases h3
    simp only[cond_true,cond_false,h4];rw[hs _ (by simp only[tI,SG];omega)];simp only[kK,beq_self_eq_true,XU,KC,Bool.cond_false_right];cases eA f.Id 1 9<;>cases eA f.Tick 0 1000000<;>grind
  ·have h4 : nB f.Kind = false := by cases h4 : nB f.Kind; · rfl
                                     rw[(ze2 h4).2.1]at h2;cases h2
   simp only[cond_true,cond_false,h4];rw[hs _ (by simp only[tI,SG];omega)];simp only[kK,beq_self_eq_true,XU,KC,Bool.cond_false_right];cases eA f.Tick 0 1000000<;>grind
 ·have h4 : nB f.Kind = false := by cases h4 : nB f.Kind; · rfl
                                    rw[(ze2 h4).1]at h1;cases h1
  simp only[cond_true,cond_false,h4];rw[hs _ (by simp only[tI,SG];omega)];simp only[kK,beq_self_eq_true,XU,KC,Bool.cond_false_right];cases eA f.Id 1 9<;>grind
def sQ.ok{x}(_:vA [.v .Frame] x){r}:QC x=some r→Km x=some r:=QA λh=>zou x h
end Go.D
namespace Go.D
open Option renaming bind→ob
def EM(c:Ae)(h:wt c≤bA):wt c.Psk≤bA∧wt c.Cn≤bA∧wt c.Fin≤bA∧wt c.C≤bA∧wt c.Fin.Cn≤bA∧wt c.Fin.Sn≤bA∧wt c.C.Sn≤bA∧wt c.C.Next≤bA∧wt c.C.Cur.Key≤bA:=by
 rw[GS]at h;have h1:=tI c.Fin;have h2:=QH c.C;have h3:=GK c.C.Cur;omega
def zoj(c:Ae)(h:wt c≤bA):Kn c=some (oJ c):=by
 have hw:=EM c h;simp only[Kn,aA,QC,lC,PA (p:=wt c.Fin≤bA) hw.2.2.1,PA (p:=wt c.C≤bA) hw.2.2.2.1,kF hw.2.2.2.2.1 hw.2.1,kF hw.2.2.2.2.2.2.1 hw.2.2.2.2.2.1];simp only[KC,Bool.cond_false_right,Bool.cond_false_left,Bool.cond_true_left,Bool.not_true,Bool.false_and,oJ,zgc,Bool.not_or,Bool.not_not,Bool.and_assoc]
def mQ.ok{x}(_:vA [.v .Client] x){r}:zck x=some r→Kn x=some r:=QA λh=>zoj x h
def zrd(f:Ab):kK f (⟨0,0,[],[],0,[],[],0,0,[],[]⟩:Ab)=HF f:=by
 simp only[kK,HF,XU]
 grind
def zxt{c:Ae}(h:wt c.Fin≤bA):eO c.Fin (⟨0,0,[],[],0,[],[],0,0,[],[]⟩:Ab)=some (HF c.Fin):=by
 rw[eO,nA ⟨h,Nat.zero_le _⟩,zrd]
def zod(c:Ae)(h:wt c≤bA):Ko c=some (fB c):=by
 have hw:=EM c h;simp only[Ko,aA,zfc,zxt hw.2.2.1,XA,lC,FO,zck,PA (p:=wt c.C≤bA) hw.2.2.2.1,PA h];simp only[KC,Bool.cond_false_right,Bool.cond_false_left,Bool.cond_true_left,Bool.not_true,Bool.false_and,fB,Bool.not_or,Bool.not_not,Bool.and_assoc]
def iQ.ok{x}(_:vA [.v .Client] x){r}:qD x=some r→Ko x=some r:=QA λh=>zod x h
def zjS{t:Au}(h:t.On=false):mD t=GF t:=by rw[mD,h];rfl
def zkP{t:Au}(h:t.On=true):GF t=false:=by rw[GF,h];rfl
def zn2(c:Ae)(h:wt c≤bA):Kx c=some (fB c):=by
 have hw:=EM c h;have hL:c.Last=0→eA c.Last 0 1000000=true:=λh=>by rw[h];rfl
 have hT0:=zjS (t:=c.T);have hT1:=zkP (t:=c.T);have hR0:=zjS (t:=c.R);have hR1:=zkP (t:=c.R)
 simp only[Kx,aA,lC,PA (p:=wt c.C≤bA) hw.2.2.2.1,kF hw.2.2.2.2.1 hw.2.1,kF hw.2.2.2.2.2.2.1 hw.2.2.2.2.2.1,
  KC,Bool.cond_false_right,Bool.cond_false_left,Bool.cond_true_left,fB,oJ,zgc,Bool.not_or,Bool.not_not,mA]
 refine congrArg some ?_;cases eA c.Id 1 9
 ·rfl
 cases JC c.Psk
 ·rfl
 cases EA c.At
 ·rfl
 simp only[Bool.true_and]
 by_cases s0:c.St=0
 ·simp only[s0,beq_self_eq_true,cond_true];cases hT:c.T.On<;>cases hR:c.R.On<;>simp_all<;>grind
 ·have e0:(c.St==0)=false:=beq_false_of_ne s0
  by_cases s3:c.St=3
  ·simp only[s3];cases hT:c.T.On<;>simp_all<;>grind
  ·have e3:(c.St==3)=false:=beq_false_of_ne s3;simp only[e0,e3,cond_false];cases hT:c.T.On
   ·simp
   ·cases hR:c.R.On
    ·by_cases s1:c.St=1
     ·simp_all;grind
     ·have e1:(c.St==1)=false:=beq_false_of_ne s1;simp only[e1,cond_false]
      by_cases s2:c.St=2
      ·simp_all;grind
      ·have e2:(c.St==2)=false:=beq_false_of_ne s2;simp[e2]
    ·simp_all
def kQ.ok{x}(_:vA [.v .Client] x){r}:qD x=some r→Kx x=some r:=QA λh=>zn2 x h
def nJ(w:Aa)(h:wt w≤bA):wt w.Clients≤bA∧wt w.S≤bA∧wt w.S.Psks≤bA∧wt w.S.T≤bA∧wt w.S.T.L≤bA∧wt w.Seen≤bA∧wt w.Known≤bA∧wt w.Notes≤bA:=by
 rw[cG]at h;have h1:=lO w.S;have h2:=CK w.S.T;omega
def zjA(l:List (List UInt8))(hl:l.length≤maxLen)(z:Option Bool):uA FU (λ(x16:Int) k17=>cond (x16<(l.length:Int)) (ob (jA l x16) λe18=>cond ((e18.length:Int) !=32) (some false) (k17 (fA .i64 x16 1))) z) 0
  =bif l.any λb=>(b.length:Int) !=32 then some false else z:=by
 rw[CS l hl (λb=>(b.length:Int) !=32) (some false) z (λi k hi=>?_) (λk=>by simp only[UD,cond_false])];simp only[sD hi,cond_true,DB hi,XA]
def zjh(l:List Ad)(hl:l.length≤maxLen)(z:Option Bool):uA FU (λ(x16:Int) k17=>cond (x16<(l.length:Int)) (ob (jA l x16) λe18=>cond (!(gC e18)) (some false) (k17 (fA .i64 x16 1))) z) 0
  =bif l.any λn=>!gC n then some false else z:=by
 rw[CS l hl (λn=>!gC n) (some false) z (λi k hi=>?_) (λk=>by simp only[UD,cond_false])];simp only[sD hi,cond_true,DB hi,XA]
def dO{w:Aa}(h:wt w≤bA){i:Nat}(hi:i<w.Clients.length):wt w.Clients[i]≤bA:=by
 have:=fG hi;have:=(nJ w h).1;omega
def ziw(w:Aa)(h:wt w≤bA)(hc:w.Clients.length=2)(hp:w.S.Psks.length=2)(z:Option Bool){f:Int→(Int→Option Bool)→Option Bool}
  (hf:∀ (i:Nat) k (h:i<w.Clients.length) (h':i<w.S.Psks.length),wt w.Clients[i]≤bA→wt w.Clients[i].Psk≤bA→wt w.S.Psks[i]≤bA→IntKind.wrap .i64 ((i:Int)+1)=((i+1:Nat):Int)→
   f (i:Int) k=bif !fB w.Clients[i]||w.Clients[i].Id !=((i+1:Nat):Int)||!(w.Clients[i].Psk==w.S.Psks[i])then some false else k (IntKind.wrap .i64 ((i:Int)+1)))
  (hz:∀k,f (2:Int) k=z):uA FU f 0=bif qB 2 (pI w)then some false else z:=by
 rw[kJ 2 (by decide) (pI w) (some false) z (λi k hi=>?_) hz];have h1:=dO h (i:=i) (by omega);have h2:=(EM _ h1).1;have h3:=fG (l:=w.S.Psks) (i:=i) (by omega);have h4:=(nJ w h).2.2.1;rw[hf i k (by omega) (by omega) h1 h2 (by omega) (OG i (by rw[dD];omega)),pI,FD (by omega),FD (by omega)]
def zox(w:Aa)(h:wt w≤bA):La w=some (NA w):=by
 have hw:=nJ w h;simp only[La,aA,xC,PA (p:=wt w.S≤bA) hw.2.1,NA]
 by_cases hc:w.Clients.length=2
 ·by_cases hp:w.S.Psks.length=2
  ·have c1:((w.Clients.length:Int) !=2)=false:=by simp[hc]
   have c2:((w.Clients.length:Int)==2)=true:=by simp[hc]
   have p1:((w.S.Psks.length:Int) !=2)=false:=by simp[hp]
   have p2:((w.S.Psks.length:Int)==2)=true:=by simp[hp]
   rw[c1,c2,p1,p2,zjh w.Notes (dG hw.2.2.2.2.2.2.2),zjA w.Known (dG hw.2.2.2.2.2.2.1),ziw w h hc hp _ (λi k hi ZV w1 w2 w3 he=>?_) (λk=>by rw[hc];exact cond_false _ _)]
   ·rw[wJ];cases eA w.Now 0 1000000
    ·rfl
    cases wB w.S
    ·rfl
    cases YB w.D
    ·rfl
    cases DD w.Seen
    ·rfl
    cases decide ((w.Known.length:Int)≤12)
    ·rfl
    cases qB 2 (pI w)
    ·cases w.Known.any _
     ·cases w.Notes.any _<;>rfl
     ·rfl
    ·rfl
   ·simp only[sD hi,cond_true,DB hi,DB ZV,XA,qD,PA w1,kF w2 w3];simp only[fA,he];cases fB w.Clients[i]<;>cases w.Clients[i].Id !=((i+1:Nat):Int)<;>cases w.Clients[i].Psk==w.S.Psks[i]<;>rfl
  ·have p1:((w.S.Psks.length:Int) !=2)=true:=by simp;omega
   have p2:((w.S.Psks.length:Int)==2)=false:=by simp;omega
   rw[p1,p2];simp
 ·have c1:((w.Clients.length:Int) !=2)=true:=by simp;omega
  have c2:((w.Clients.length:Int)==2)=false:=by simp;omega
  rw[c1,c2];simp
def DQ.ok{x}(_:vA [.v .World] x){r}:pE x=some r→La x=some r:=QA λh=>zox x h
def zot(w:Aa)(h:wt w≤bA):Ky w=some (NA w):=by
 have hw:=nJ w h;simp only[Ky,aA,xC,PA (p:=wt w.S≤bA) hw.2.1,NA]
 by_cases hc:w.Clients.length=2
 ·by_cases hp:w.S.Psks.length=2
  ·have c1:((w.Clients.length:Int) !=2)=false:=by simp[hc]
   have c2:((w.Clients.length:Int)==2)=true:=by simp[hc]
   have p1:((w.S.Psks.length:Int) !=2)=false:=by simp[hp]
   have p2:((w.S.Psks.length:Int)==2)=true:=by simp[hp]
   rw[c1,c2,p1,p2,zjh w.Notes (dG hw.2.2.2.2.2.2.2),zjA w.Known (dG hw.2.2.2.2.2.2.1),ziw w h hc hp _ (λi k hi ZV w1 w2 w3 he=>?_) (λk=>by exact cond_false _ _)]
   ·rw[wJ];cases eA w.Now 0 1000000
    ·rfl
    cases wB w.S
    ·rfl
    cases YB w.D
    ·rfl
    cases DD w.Seen
    ·rfl
    cases decide ((w.Known.length:Int)≤12)
    ·rfl
    cases qB 2 (pI w)
    ·cases w.Known.any _
     ·cases w.Notes.any _<;>rfl
     ·rfl
    ·rfl
   ·have e:decide ((i:Int)<2)=true:=decide_eq_true (by omega);simp only[e,cond_true,DB hi,DB ZV,XA,qD,PA w1,kF w2 w3];simp only[fA,he];cases fB w.Clients[i]<;>cases w.Clients[i].Id !=((i+1:Nat):Int)<;>cases w.Clients[i].Psk==w.S.Psks[i]<;>rfl
  ·have p1:((w.S.Psks.length:Int) !=2)=true:=by simp;omega
   have p2:((w.S.Psks.length:Int)==2)=false:=by simp;omega
   rw[p1,p2];simp
 ·have c1:((w.Clients.length:Int) !=2)=true:=by simp;omega
  have c2:((w.Clients.length:Int)==2)=false:=by simp;omega
  rw[c1,c2];simp
def yQ.ok{x}(_:vA [.v .World] x){r}:pE x=some r→Ky x=some r:=QA λh=>zot x h
def zfE{w:Aa}(h:NA w=true):w.Clients.length=2:=by
 simp only[NA,Bool.and_eq_true,beq_iff_eq]at h;omega
def zbv(w:Aa)(c:Ae):((c.St !=3)=true∧GD w c=none)∨((c.St !=3)=false∧XB w.S.T c.C.Sn= -1∧GD w c=none)∨
  ∃(m:Nat) (hm:m<w.S.T.L.length),(c.St !=3)=false∧XB w.S.T c.C.Sn=(m:Int)∧((w.S.T.L[m].Dead=true∧GD w c=none)∨(w.S.T.L[m].Dead=false∧GD w c=some w.S.T.L[m])):=by
 by_cases h3:c.St=3
 ·right;have e1:(c.St !=3)=false:=by simp[h3]
  have e2:(c.St==3)=true:=by simp[h3]
  rcases KG w.S.T.L.length (eF w.S.T c.C.Sn)with⟨h1,h2⟩|⟨m,hm,_,_,h4⟩
  ·left;have h2:XB w.S.T c.C.Sn= -1:=h2;refine⟨e1,h2,?_⟩;rw[GD,e2,h2];rfl
  ·right;have h4:XB w.S.T c.C.Sn=(m:Int):=h4;refine⟨m,hm,e1,h4,?_⟩;rw[GD,e2,h4,cond_true,if_pos (by omega),Int.toNat_natCast,List.getElem?_eq_getElem hm];cases hd:w.S.T.L[m].Dead
   ·right;exact⟨rfl,by simp[hd]⟩
   ·left;exact⟨rfl,by simp[hd]⟩
 ·left;have e2:(c.St==3)=false:=beq_false_of_ne h3;exact⟨bne_iff_ne.2 h3,by rw[GD,e2];rfl⟩
def zfJ{R:Type}(w:Aa)(c:Ae)(hT:wt w.S.T≤bA)(hc:wt c≤bA)(F:Ah→Option R)(N:Option R):
  (ob (CC w.S.T c.C.Sn) fun r=>cond (c.St !=3) (cond true N (ob (jA w.S.T.L r) F)) (cond (r<0) (cond true N (ob (jA w.S.T.L r) F)) (ob (jA w.S.T.L r) fun e=>cond e.Dead N (ob (jA w.S.T.L r) F))))
   =match GD w c with
    | some s=>F s
    | none=>N:=by
 rw[CC,PA ⟨hT,(EM c hc).2.2.2.2.2.2.1⟩]
 rcases zbv w c with⟨h1,h2⟩|⟨h1,h2,h3⟩|⟨m,hm,h1,h2,(⟨h3,h4⟩|⟨h3,h4⟩)⟩
 ·rw[h1,h2];rfl
 ·rw[h1,h2,h3];rfl
 ·rw[h1,h2,h4];have e:decide ((m:Int)<0)=false:=decide_eq_false (by omega);simp only[cond_false,e,DB hm,XA,h3,cond_true]
 ·rw[h1,h2,h4];have e:decide ((m:Int)<0)=false:=decide_eq_false (by omega);simp only[cond_false,e,DB hm,XA,h3]
def zcz{w:Aa}{c:Ae}{s:Ah}(hT:wt w.S.T≤bA)(h:GD w c=some s):wt s≤bA:=by
 rcases zbv w c with⟨_,h2⟩|⟨_,_,h3⟩|⟨m,hm,_,_,(⟨_,h4⟩|⟨_,h4⟩)⟩
 ·rw[h2]at h;cases h
 ·rw[h3]at h;cases h
 ·rw[h4]at h;cases h
 ·rw[h4]at h;cases h;exact(zgt hT hm).1
def zkz{i:Nat}(h:i<maxLen){id:Int}(VW:id=(i:Int)+1):oA .i64 id 1=(i:Int)∧(id - 1).toNat=i:=by
 rw[dD]at h;subst VW;refine⟨?_,by omega⟩;rw[oA,FB (by omega) (by omega)];omega
def VU{w:Aa}(hw:NA w=true){id:Int}(VW:eA id 1 2=true):∃(i:Nat) (_:i<w.Clients.length),id=(i:Int)+1∧oA .i64 id 1=(i:Int)∧(id - 1).toNat=i:=by
 have h1:=zfE hw;have h2:=rD.1 VW;obtain⟨i,hi⟩:=rF (n:=id - 1) (by omega);have:=zkz (i:=i) (by rw[dD];omega) (id:=id) (by omega);exact⟨i,by omega,by omega,this.1,this.2⟩
def KP.ok{x}(hb:vA [.v .World, .v .int] x){r}:kL x.1 x.2=some r→Lb x.1 x.2=some r:=λh=>by
 obtain⟨w,id⟩:=x;have h:kL (w:Aa) (id:Int)=some r:=h;show Lb (w:Aa) (id:Int)=some r
 generalize (show Aa from w)=w,(show Int from id)=id at h⊢;unfold kL at h
 by_cases hp:wt w≤bA∧1≤id∧id≤w.Clients.length
 ·rw[PA hp]at h;have hw:=nJ w hp.1;obtain⟨i,hi⟩:=rF (n:=id - 1) (by omega);have hl:=dG hw.1;have FV:i<w.Clients.length:=by omega
  obtain⟨e1,e2⟩:=zkz (i:=i) (by omega) (id:=id) (by omega);rw[e2,List.getElem?_eq_getElem FV,Option.map_some]at h;simp only[Lb,aA];rw[e1,DB FV,XA,zfJ w w.Clients[i] hw.2.2.2.1 (dO hp.1 FV) (λs=>some (w.Clients[i],s,true))];rw[←h,kS];cases GD w w.Clients[i]<;>rfl
 ·unfold pt at h;rw[if_neg hp]at h;cases h
def zu7(n:Int):(n==fA .i64 n 1)=false:=by
 apply beq_false_of_ne;intro h;simp only[fA,IntKind.wrap]at h;simp[IntKind.bits,IntKind.signed]at h;omega
def zjT{s:Ah}(h:wt s≤bA):wt s.Cn≤bA∧wt s.C.Cur.Key≤bA∧wt s.C.Old.Key≤bA:=by
 rw[vK]at h;have h1:=QH s.C;have h2:=GK s.C.Cur;have h3:=GK s.C.Old;omega
def zh3(a b:List UInt8):(a==b)=(b==a):=BEq.comm
def zqD(a b:Int):(a==b)=(b==a):=BEq.comm
def znP(w:Aa)(id:Int)(h:wt w≤bA):Ld w id=some (IH w id):=by
 have hw:=nJ w h;simp only[Ld,aA,pE,PA h,IH];cases ho:NA w
 ·rfl
 cases VW:eA id 1 2
 ·rfl
 obtain⟨i,hi,_,e1,e2⟩:=VU ho VW;have W4:=dO h hi;have J0:=EM _ W4;simp only[Bool.not_true,cond_false,e1,e2,DB hi,XA,FD hi,Bool.true_and];rw[zfJ w w.Clients[i] hw.2.2.2.1 W4];cases ha:GD w w.Clients[i]with
 | none=>rfl
 | some s=>
  have hs:=zjT (zcz hw.2.2.2.1 ha);simp only[Option.all_some];generalize w.Clients[i]=c at *;simp only[kF hs.1 J0.2.1,kF hs.2.1 J0.2.2.2.2.2.2.2.2,kF J0.2.2.2.2.2.2.2.1 hs.2.1,kF hs.2.2 J0.2.2.2.2.2.2.2.2,KC,AI];rw[zh3 c.Cn,zqD c.C.Cur.N,zh3 c.C.Cur.Key s.C.Cur.Key];cases s.Cn==c.Cn
  ·rfl
  cases hN:s.C.Cur.N==c.C.Cur.N
  ·simp only[Bool.cond_false_right,cond_false,Bool.not_true,Bool.false_and,Bool.true_and,Bool.and_assoc]
  ·have hn:s.C.Cur.N=c.C.Cur.N:=by simpa using hN
   have:=zu7 c.C.Cur.N;rw[hn,this];cases s.C.Cur.Key==c.C.Cur.Key
   ·simp
   ·simp;cases decide (s.C.Cur.Win.Top<c.C.Cur.Seq)<;>cases decide (c.C.Cur.Win.Top<s.C.Cur.Seq)<;>rfl
def QP.ok{x}(_:vA [.v .World, .v .int] x){r}:lL x.1 x.2=some r→Ld x.1 x.2=some r:=QA λh=>znP x.1 x.2 h
def zes{w:Aa}{id:Int}{i:Nat}(h:wt w≤bA)(hi:i<w.Clients.length)(VW:id=(i:Int)+1)(e2:(id - 1).toNat=i):kL w id=some (kS w w.Clients[i]):=by
 rw[kL,PA ⟨h,by omega,by omega⟩,e2,List.getElem?_eq_getElem hi];rfl
def znT(w:Aa)(id:Int)(h:wt w≤bA):Lc w id=some (IH w id):=by
 have hw:=nJ w h;simp only[Lc,aA,pE,PA h,IH];cases ho:NA w
 ·rfl
 cases VW:eA id 1 2
 ·rfl
 obtain⟨i,hi,e0,e1,e2⟩:=VU ho VW;have W4:=dO h hi;have J0:=EM _ W4;rw[zes h hi e0 e2];simp only[Bool.not_true,cond_false,e2,XA,FD hi,Bool.true_and,kS];cases ha:GD w w.Clients[i]with
 | none=>rfl
 | some s=>
  have hs:=zjT (zcz hw.2.2.2.1 ha);simp only[Option.all_some];generalize w.Clients[i]=c at *;simp only[kF J0.2.1 hs.1,kF J0.2.2.2.2.2.2.2.2 hs.2.1,kF J0.2.2.2.2.2.2.2.1 hs.2.1,kF hs.2.2 J0.2.2.2.2.2.2.2.2,KC,AI,Bool.cond_false_right,Bool.not_true,cond_false];cases c.Cn==s.Cn
  ·rfl
  cases c.C.Cur.N==s.C.Cur.N<;>cases c.C.Cur.Key==s.C.Cur.Key<;>simp[Bool.and_assoc]
def UP.ok{x}(_:vA [.v .World, .v .int] x){r}:lL x.1 x.2=some r→Lc x.1 x.2=some r:=QA λh=>znT x.1 x.2 h
def cV{w:Aa}{id:Int}(h:IH w id=true):NA w=true∧eA id 1 2=true:=by
 simp only[IH,Bool.and_eq_true]at h;exact h.1
def zv7(a b k:Int):decide (AE a b>k)=(decide (a>k)||decide (b>k)):=by
 have h:AE a b>k↔(a>k∨b>k):=by
  unfold AE
  by_cases hb:b>a
  ·rw[if_pos hb];omega
  ·rw[if_neg hb];omega
 rw[Bool.eq_iff_iff,Bool.or_eq_true,decide_eq_true_iff,decide_eq_true_iff,decide_eq_true_iff];exact h
def QO(a b:Int):decide (a≤b)= !decide (a>b):=by rw[wJ,Bool.not_not]
def zo5(w:Aa)(id:Int)(h:wt w≤bA):Le w id=some (vJ w id):=by
 have hw:=nJ w h;simp only[Le,aA,lL,PA h,vJ];cases hf:IH w id
 ·rfl
 rw[QO w.Now 999900];cases decide (w.Now>999900)
 case true=>rfl
 obtain⟨ho,VW⟩:=cV hf;obtain⟨i,hi,_,e1,e2⟩:=VU ho VW;have W4:=dO h hi;simp only[Bool.not_true,cond_false,e1,e2,DB hi,XA,FD hi,Bool.true_and,Bool.not_false];rw[zfJ w w.Clients[i] hw.2.2.2.1 W4];cases ha:GD w w.Clients[i]with
 | none=>rfl
 | some s=>
  simp only[Option.any_some,xT];generalize w.Clients[i]=c at *;cases eA (oA .i64 w.Now c.Last) 0 40
  ·rfl
  cases eA (oA .i64 w.Now s.Last) 0 40
  ·rfl
  cases c.R.On<;>cases decide (c.R.Due>fA .i64 w.Now 8)<;>cases decide (c.C.Cur.Seq≤281474976709556)<;>cases decide (s.C.Cur.Seq≤281474976709556)<;>cases s.C.HasOld<;>cases decide (s.C.Old.Seq≤281474976709556)<;>rfl
def jR.ok{x}(_:vA [.v .World, .v .int] x){r}:UM x.1 x.2=some r→Le x.1 x.2=some r:=QA λh=>zo5 x.1 x.2 h
def zo4(w:Aa)(id:Int)(h:wt w≤bA):Lf w id=some (vJ w id):=by
 have hw:=nJ w h;simp only[Lf,aA,lL,PA h,vJ];cases hf:IH w id
 ·rfl
 rw[QO w.Now 999900];cases decide (w.Now>999900)
 case true=>rfl
 obtain⟨ho,VW⟩:=cV hf;obtain⟨i,hi,e0,e1,e2⟩:=VU ho VW;have W4:=dO h hi;rw[zes h hi e0 e2];simp only[Bool.not_true,cond_false,e2,XA,FD hi,Bool.true_and,Bool.not_false,kS];cases ha:GD w w.Clients[i]with
 | none=>rfl
 | some s=>
  simp only[Option.any_some,xT];generalize w.Clients[i]=c at *;simp only[zv7];rw[QO c.C.Cur.Seq 281474976709556,QO s.C.Cur.Seq 281474976709556,QO s.C.Old.Seq 281474976709556,QO c.C.Cur.N 4294967293,QO c.R.Due];cases eA (oA .i64 w.Now c.Last) 0 40
  ·rfl
  cases eA (oA .i64 w.Now s.Last) 0 40
  ·rfl
  cases c.R.On<;>cases decide (c.R.Due>fA .i64 w.Now 8)<;>cases decide (c.C.Cur.Seq>281474976709556)<;>cases decide (s.C.Cur.Seq>281474976709556)<;>cases s.C.HasOld<;>cases decide (s.C.Old.Seq>281474976709556)<;>cases decide (c.C.Cur.N>4294967293)<;>rfl
def sR.ok{x}(_:vA [.v .World, .v .int] x){r}:UM x.1 x.2=some r→Lf x.1 x.2=some r:=QA λh=>zo4 x.1 x.2 h
def ziB{w:Aa}{id:Int}(h:vJ w id=true):IH w id=true∧∃(i:Nat) (hi:i<w.Clients.length),id=(i:Int)+1∧oA .i64 id 1=(i:Int)∧(id - 1).toNat=i∧∃s,GD w w.Clients[i]=some s:=by
 have h':=h;simp only[vJ,Bool.and_eq_true]at h';obtain⟨⟨hf,_⟩,h3⟩:=h';obtain⟨ho,VW⟩:=cV hf;obtain⟨i,hi,e0,e1,e2⟩:=VU ho VW;refine⟨hf,i,hi,e0,e1,e2,?_⟩;rw[e2,FD hi]at h3;cases ha:GD w w.Clients[i]with
 | none=>rw[ha]at h3;cases h3
 | some s=>exact⟨s,rfl⟩
def zrU{w:Aa}{c:Ae}{s:Ah}(h:GD w c=some s):∃(m:Nat) (hm:m<w.S.T.L.length),XB w.S.T c.C.Sn=(m:Int)∧w.S.T.L[m]=s:=by
 rcases zbv w c with⟨_,h2⟩|⟨_,_,h3⟩|⟨m,hm,_,h5,(⟨_,h4⟩|⟨_,h4⟩)⟩
 ·rw[h2]at h;cases h
 ·rw[h3]at h;cases h
 ·rw[h4]at h;cases h
 ·rw[h4]at h;cases h;exact⟨m,hm,h5,rfl⟩
end Go.D
namespace Go.D
end Go.D
