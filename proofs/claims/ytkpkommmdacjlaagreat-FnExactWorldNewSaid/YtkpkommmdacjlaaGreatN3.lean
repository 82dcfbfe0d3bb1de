/-
 Sizes of the program's data.
-/
import Derived.Test.YtkpkommmdacjlaaGreatN2
set_option linter.all false
namespace Go.D
instance:Wt Ad:=⟨λx=>wt x.A⟩
def zfD(x:Ad):wt x=wt x.A:=rfl
instance:Wt Ac:=⟨λx=>wt x.Cn+wt x.Sn+wt x.Cookie+wt x.Proof+wt x.Body+wt x.Tag⟩
def gH(x:Ac):wt x=wt x.Cn+wt x.Sn+wt x.Cookie+wt x.Proof+wt x.Body+wt x.Tag:=rfl
instance:Wt Aj:=⟨λ_=>0⟩
def AS(x:Aj):wt x=0:=rfl
instance:Wt Ab:=⟨λx=>wt x.Psk+wt x.At+wt x.Cn+wt x.Fin+wt x.C+wt x.T+wt x.R⟩
def vP(x:Ab):wt x=wt x.Psk+wt x.At+wt x.Cn+wt x.Fin+wt x.C+wt x.T+wt x.R:=rfl
instance:Wt Ap:=⟨λx=>wt x.Secret⟩
def BT(x:Ap):wt x=wt x.Secret:=rfl
instance:Wt Ae:=⟨λx=>wt x.Seed⟩
def TH(x:Ae):wt x=wt x.Seed:=rfl
instance:Wt Ar:=⟨λx=>wt x.A+wt x.Draw⟩
def zb1(x:Ar):wt x=wt x.A+wt x.Draw:=rfl
instance:Wt Ao:=⟨λx=>wt x.At+wt x.Cands⟩
def zbl(x:Ao):wt x=wt x.At+wt x.Cands:=rfl
instance:Wt Am:=⟨λx=>wt x.Cn+wt x.Sn+wt x.C+wt x.P⟩
def AL(x:Am):wt x=wt x.Cn+wt x.Sn+wt x.C+wt x.P:=rfl
instance:Wt Ai:=⟨λx=>wt x.L⟩
def iI(x:Ai):wt x=wt x.L:=rfl
instance:Wt Aa:=⟨λx=>wt x.Psks+wt x.J+wt x.D+wt x.T+wt x.Cr⟩
def dP(x:Aa):wt x=wt x.Psks+wt x.J+wt x.D+wt x.T+wt x.Cr:=rfl
instance:Wt As:=⟨λx=>wt x.From+wt x.To+wt x.B⟩
def zbU(x:As):wt x=wt x.From+wt x.To+wt x.B:=rfl
instance:Wt Ag:=⟨λx=>wt x.Clients+wt x.S+wt x.D+wt x.Seen+wt x.Known+wt x.Notes⟩
def IS(x:Ag):wt x=wt x.Clients+wt x.S+wt x.D+wt x.Seen+wt x.Known+wt x.Notes:=rfl
end Go.D
namespace Go.D
noncomputable section
def KD(i:Int):Af:=if 0≤i∧i≤255 then⟨167772160+i,7000+i⟩else⟨0,0⟩
def fF(a b:Af):Bool:=a.Host==b.Host&&a.Port==b.Port
def nI(j:Ap):Bool:=(j.Secret.length:Int)==32
def mE(d:Ae):Bool:=oA (d.Seed.length:Int) 1 32&&oA d.N 0 10000
def pJ(t:Ai):Int:=t.L.foldl (λs e=>bif e.Dead then s else mA .i64 s 1) 0
def qI(t:Ai):Option Int:=pt (wt t≤eA) (pJ t)
def gG(c:Ah):Bool:=c.Role==0&&(c.Sn.length:Int)==0&&FF c.Cur&&FF c.Old&&!c.HasOld&&c.Until==0&&(c.Next.length:Int)==0
def TI(c:Ah):Option Bool:=pt (wt c≤eA) (gG c)
def pN(p:Ao)(i:Nat):Bool:=(p.Cands[i]?).any λe=>!WB e.A||!PB e.Draw||!oA e.Until 0 1000006||fF e.A p.At||jB i λj=>(p.Cands[j]?).any λd=>fF d.A e.A
def bG(p:Ao):Bool:=WB p.At&&decide ((p.Cands.length:Int)≤3)&&!(jB p.Cands.length (pN p))
def kI(s:Am):Bool:=oA s.Id 1 9&&PB s.Cn&&PB s.Sn&&oA s.Tick 0 1000000&&bif s.Dead then gG s.C&&fF s.P.At ⟨0,0⟩&&(s.P.Cands.length:Int)==0&&s.Last==0
 else dI s.C&&s.C.Role==1&&s.C.Sn==s.Sn&&bG s.P&&oA s.Last 0 1000000
def JG(s:Am):Option Bool:=pt (wt s≤eA) (kI s)
def HL(t:Ai)(b:List UInt8)(i:Nat):Bool:=(t.L[i]?).any λe=>e.Sn==b
def BQ(t:Ai)(b:List UInt8):Int:=AF t.L.length (HL t b)
def HG(t:Ai)(b:List UInt8):Option Int:=pt (wt t≤eA∧wt b≤eA) (BQ t b)
def XI(t:Ai)(i:Nat):Bool:=(t.L[i]?).any λe=>!kI e||jB i (HL t e.Sn)
def gJ(t:Ai):Bool:=oA t.Cap 1 6&&decide ((t.L.length:Int)≤12)&&decide (pJ t≤t.Cap)&&!(jB t.L.length (XI t))
def bJ(t:Ai):Option Bool:=pt (wt t≤eA) (gJ t)
def SG(l:List Ad)(a:Af)(i:Nat):Bool:=(l[i]?).any λc=>fF c.A a
def UN(l:List Ad)(a:Af):Int:=AF l.length (SG l a)
def SM(l:List Ad)(i:Nat):Bool:=(l[i]?).any λc=>!WB c.A||!oA c.Got 0 1000000||!oA c.Sent 0 (mC .i64 3 c.Got)||jB i (SG l c.A)
def pF(l:List Ad):Bool:=decide ((l.length:Int)≤8)&&!(jB l.length (SM l))
def nE(b:List UInt8):Bool:=oA (b.length:Int) 1 32
def WE(s:Aa):Bool:=oA (s.Psks.length:Int) 1 9&&nI s.J&&mE s.D&&gJ s.T&&pF s.Cr&&!(s.Psks.any λb=>!nE b)&&!(s.T.L.any λe=>decide (e.Id>(s.Psks.length:Int)))
def jE(s:Aa):Option Bool:=pt (wt s≤eA) (WE s)
def BG(f g:Ac):Bool:=f.Kind==g.Kind&&f.Id==g.Id&&f.Tick==g.Tick&&f.Epoch==g.Epoch&&f.Seq==g.Seq&&f.Cn==g.Cn&&f.Sn==g.Sn&&f.Cookie==g.Cookie&&f.Proof==g.Proof&&f.Body==g.Body&&f.Tag==g.Tag
def II(f g:Ac):Option Bool:=pt (wt f≤eA∧wt g≤eA) (BG f g)
def WH(t:Aj):Bool:=t.On==false&&t.Due==0&&t.Wait==0&&t.Tries==0
def IG(t:Aj):Bool:=bif t.On then oA t.Due 0 1000008&&(t.Wait==1||t.Wait==2||t.Wait==4||t.Wait==8)&&oA t.Tries 1 5 else WH t
def BL(f:Ac):Bool:=f.Kind==0&&f.Id==0&&(f.Cn.length:Int)==0&&(f.Sn.length:Int)==0&&f.Tick==0&&(f.Cookie.length:Int)==0&&(f.Proof.length:Int)==0&&f.Epoch==0&&f.Seq==0&&(f.Body.length:Int)==0&&(f.Tag.length:Int)==0
def YE(k:Int):Bool:=oA k 4 8
def yN(k n:Int):Bool:=bif k==4 then decide (n≤40)else bif k==5||k==6 then n==12 else n==4
def WP(f:Ac):Bool:=
 bif YE f.Kind then f.Id==0&&(f.Cn.length:Int)==0&&(f.Sn.length:Int)==12&&f.Tick==0&&(f.Cookie.length:Int)==0&&(f.Proof.length:Int)==0&&oA f.Epoch 0 4294967295&&oA f.Seq 0 281474976710655&&yN f.Kind (f.Body.length:Int)&&(f.Tag.length:Int)==16
 else f.Epoch==0&&f.Seq==0&&(f.Body.length:Int)==0&&(f.Tag.length:Int)==0&&(f.Cn.length:Int)==12&&
  bif f.Kind==1 then oA f.Id 1 9&&(f.Sn.length:Int)==0&&f.Tick==0&&(f.Cookie.length:Int)==0&&(f.Proof.length:Int)==0
  else bif f.Kind==2 then f.Id==0&&(f.Sn.length:Int)==12&&oA f.Tick 0 1000000&&(f.Cookie.length:Int)==16&&(f.Proof.length:Int)==0
  else f.Kind==3&&oA f.Id 1 9&&(f.Sn.length:Int)==12&&oA f.Tick 0 1000000&&(f.Cookie.length:Int)==16&&(f.Proof.length:Int)==16
def EP(f:Ac):Option Bool:=pt (wt f≤eA) (WP f)
def TP(c:Ab):Bool:=PB c.Cn&&c.Fin.Kind==3&&WP c.Fin&&c.Fin.Id==c.Id&&c.Fin.Cn==c.Cn&&dI c.C&&c.C.Role==0&&c.C.Sn==c.Fin.Sn&&c.C.Cur.N==0&&!c.C.HasOld&&(c.C.Next.length:Int)==0
def sP(c:Ab):Option Bool:=pt (wt c≤eA) (TP c)
def BP(c:Ab):Bool:=oA c.Id 1 9&&nE c.Psk&&WB c.At&&
 bif c.St==0 then(c.Cn.length:Int)==0&&BL c.Fin&&gG c.C&&WH c.T&&WH c.R&&c.Last==0
 else bif c.St==1 then PB c.Cn&&BL c.Fin&&gG c.C&&c.T.On&&IG c.T&&WH c.R&&c.Last==0
 else bif c.St==2 then TP c&&c.T.On&&IG c.T&&WH c.R&&c.Last==0
 else c.St==3&&PB c.Cn&&BL c.Fin&&dI c.C&&c.C.Role==0&&WH c.T&&IG c.R&&c.R.On==decide ((c.C.Next.length:Int)>0)&&oA c.Last 0 1000000
def UM(c:Ab):Option Bool:=pt (wt c≤eA) (BP c)
def zcX:Aq:=⟨0,[],0,⟨0,[]⟩⟩
end
end Go.D
namespace Go.D
open Option renaming bind→ob
noncomputable section
def Fy(a0:Af):=
 fA (λ(y1:Bool)=>
 some y1) λk2=>
 cond ((oA a0.Host 0 4294967295))
 (k2 (oA a0.Port 0 65535))
 (k2 false)
def Fz(a0:Af):=
 fA (λ(y1:Bool)=>
 some y1) λk2=>
 cond ((oA a0.Host 0 4294967295))
 (k2 (oA a0.Port 0 65535))
 (k2 false)
def Ga(a0:Int):=
 cond (!(oA a0 0 255))
 (some (⟨0,0⟩:Af))
 (some (⟨mA .i64 167772160 a0,mA .i64 7000 a0⟩:Af))
def Gb(a0:Int):=
 cond (!(oA a0 0 255))
 (some (⟨0,0⟩:Af))
 (some (⟨mA .i64 167772160 a0,mA .i64 7000 a0⟩:Af))
def Bu(a0:Ac)(a1:Ac):=
 cond (a0.Kind !=a1.Kind)
 (some false)
 (cond (a0.Id !=a1.Id)
 (some false)
 (cond (!(qA a0.Cn a1.Cn))
 (some false)
 (cond (!(qA a0.Sn a1.Sn))
 (some false)
 (cond (a0.Tick !=a1.Tick)
 (some false)
 (cond (!(qA a0.Cookie a1.Cookie))
 (some false)
 (cond (!(qA a0.Proof a1.Proof))
 (some false)
 (cond (a0.Epoch !=a1.Epoch)
 (some false)
 (cond (a0.Seq !=a1.Seq)
 (some false)
 (cond (!(qA a0.Body a1.Body))
 (some false)
 (cond (!(qA a0.Tag a1.Tag))
 (some false)
 (some true)))))))))))
def Bv(a0:Aj)(a1:Aj):=
 cond (!(a0.On==a1.On))
 (some false)
 (cond (a0.Due !=a1.Due)
 (some false)
 (cond (a0.Wait !=a1.Wait)
 (some false)
 (cond (a0.Tries !=a1.Tries)
 (some false)
 (some true))))
def Bw(a0:Ab)(a1:Ab):=
 cond (a0.Id !=a1.Id)
 (some false)
 (cond (!(qA a0.Psk a1.Psk))
 (some false)
 (cond (!(qA a0.At a1.At))
 (some false)
 (cond (a0.St !=a1.St)
 (some false)
 (cond (!(qA a0.Cn a1.Cn))
 (some false)
 (cond (!(qA a0.Fin a1.Fin))
 (some false)
 (cond (!(qA a0.C a1.C))
 (some false)
 (cond (!(qA a0.T a1.T))
 (some false)
 (cond (!(qA a0.R a1.R))
 (some false)
 (cond (a0.Last !=a1.Last)
 (some false)
 (some true))))))))))
def Gc(a0:List Ab)(a1:List Ab):=
 cond ((a0.length:Int) !=(a1.length:Int))
 (some false)
 (fA (λ(y1:Unit)=>
 some true) λk2=>
 yA FU (λ(x3:Int) k4=>
 cond (decide (x3<(a0.length:Int)))
 (ob (vA a0 x3) λe5=>
 ob (vA a1 x3) λe6=>
 cond (!(qA e5 e6))
 (some false)
 (k4 (mA .i64 x3 1)))
 (k2 ())) 0)
def Gd(a0:List (List UInt8))(a1:List (List UInt8)):=
 cond ((a0.length:Int) !=(a1.length:Int))
 (some false)
 (fA (λ(y1:Unit)=>
 some true) λk2=>
 yA FU (λ(x3:Int) k4=>
 cond (decide (x3<(a0.length:Int)))
 (ob (vA a0 x3) λe5=>
 ob (vA a1 x3) λe6=>
 cond (!(qA e5 e6))
 (some false)
 (k4 (mA .i64 x3 1)))
 (k2 ())) 0)
def Bx(a0:Ap)(a1:Ap):=
 cond (!(qA a0.Secret a1.Secret))
 (some false)
 (some true)
def By(a0:Ae)(a1:Ae):=
 cond (!(qA a0.Seed a1.Seed))
 (some false)
 (cond (a0.N !=a1.N)
 (some false)
 (some true))
def Bz(a0:Ar)(a1:Ar):=
 cond (!(qA a0.A a1.A))
 (some false)
 (cond (!(qA a0.Draw a1.Draw))
 (some false)
 (cond (a0.Until !=a1.Until)
 (some false)
 (some true)))
def Ge(a0:List Ar)(a1:List Ar):=
 cond ((a0.length:Int) !=(a1.length:Int))
 (some false)
 (fA (λ(y1:Unit)=>
 some true) λk2=>
 yA FU (λ(x3:Int) k4=>
 cond (decide (x3<(a0.length:Int)))
 (ob (vA a0 x3) λe5=>
 ob (vA a1 x3) λe6=>
 cond (!(qA e5 e6))
 (some false)
 (k4 (mA .i64 x3 1)))
 (k2 ())) 0)
def Ca(a0:Ao)(a1:Ao):=
 cond (!(qA a0.At a1.At))
 (some false)
 (cond (!(qA a0.Cands a1.Cands))
 (some false)
 (some true))
def Cb(a0:Am)(a1:Am):=
 cond (a0.Id !=a1.Id)
 (some false)
 (cond (!(qA a0.Cn a1.Cn))
 (some false)
 (cond (!(qA a0.Sn a1.Sn))
 (some false)
 (cond (!(qA a0.C a1.C))
 (some false)
 (cond (!(qA a0.P a1.P))
 (some false)
 (cond (a0.Tick !=a1.Tick)
 (some false)
 (cond (a0.Last !=a1.Last)
 (some false)
 (cond (!(a0.Dead==a1.Dead))
 (some false)
 (some true))))))))
def Gf(a0:List Am)(a1:List Am):=
 cond ((a0.length:Int) !=(a1.length:Int))
 (some false)
 (fA (λ(y1:Unit)=>
 some true) λk2=>
 yA FU (λ(x3:Int) k4=>
 cond (decide (x3<(a0.length:Int)))
 (ob (vA a0 x3) λe5=>
 ob (vA a1 x3) λe6=>
 cond (!(qA e5 e6))
 (some false)
 (k4 (mA .i64 x3 1)))
 (k2 ())) 0)
def Cc(a0:Ai)(a1:Ai):=
 cond (a0.Cap !=a1.Cap)
 (some false)
 (cond (!(qA a0.L a1.L))
 (some false)
 (some true))
def Cd(a0:Ad)(a1:Ad):=
 cond (!(qA a0.A a1.A))
 (some false)
 (cond (a0.Got !=a1.Got)
 (some false)
 (cond (a0.Sent !=a1.Sent)
 (some false)
 (some true)))
def Gg(a0:List Ad)(a1:List Ad):=
 cond ((a0.length:Int) !=(a1.length:Int))
 (some false)
 (fA (λ(y1:Unit)=>
 some true) λk2=>
 yA FU (λ(x3:Int) k4=>
 cond (decide (x3<(a0.length:Int)))
 (ob (vA a0 x3) λe5=>
 ob (vA a1 x3) λe6=>
 cond (!(qA e5 e6))
 (some false)
 (k4 (mA .i64 x3 1)))
 (k2 ())) 0)
def Ce(a0:Aa)(a1:Aa):=
 cond (!(qA a0.Psks a1.Psks))
 (some false)
 (cond (!(qA a0.J a1.J))
 (some false)
 (cond (!(qA a0.D a1.D))
 (some false)
 (cond (!(qA a0.T a1.T))
 (some false)
 (cond (!(qA a0.Cr a1.Cr))
 (some false)
 (some true)))))
def Cf(a0:As)(a1:As):=
 cond (!(qA a0.From a1.From))
 (some false)
 (cond (!(qA a0.To a1.To))
 (some false)
 (cond (!(qA a0.B a1.B))
 (some false)
 (some true)))
def Gh(a0:List As)(a1:List As):=
 cond ((a0.length:Int) !=(a1.length:Int))
 (some false)
 (fA (λ(y1:Unit)=>
 some true) λk2=>
 yA FU (λ(x3:Int) k4=>
 cond (decide (x3<(a0.length:Int)))
 (ob (vA a0 x3) λe5=>
 ob (vA a1 x3) λe6=>
 cond (!(qA e5 e6))
 (some false)
 (k4 (mA .i64 x3 1)))
 (k2 ())) 0)
def Cg(a0:Ag)(a1:Ag):=
 cond (a0.Now !=a1.Now)
 (some false)
 (cond (!(qA a0.Clients a1.Clients))
 (some false)
 (cond (!(qA a0.S a1.S))
 (some false)
 (cond (!(qA a0.D a1.D))
 (some false)
 (cond (!(qA a0.Seen a1.Seen))
 (some false)
 (cond (!(qA a0.Known a1.Known))
 (some false)
 (cond (!(qA a0.Notes a1.Notes))
 (some false)
 (some true)))))))
def Gi(a0:Ae):=
 fA (λ(y1:Bool)=>
 some y1) λk2=>
 let r3:Bool:=oA (a0.Seed.length:Int) 1 32
 cond (r3)
 (k2 (oA a0.N 0 10000))
 (k2 false)
def Gj(a0:Ap):=
 some ((a0.Secret.length:Int)==32)
def Gk(a0:Ai):=
 fA (λ(y1:Int)=>
 some y1) λk2=>
 yA FU (λ(x3:Int×Int) k4=>
 cond (decide (x3.2<(a0.L.length:Int)))
 (ob (vA a0.L x3.2) λe5=>
 fA (λ(y6:Int)=>
 k4 (y6,(mA .i64 x3.2 1))) λk7=>
 cond (!e5.Dead)
 (k7 (mA .i64 x3.1 1))
 (k7 x3.1))
 (k2 x3.1)) (0,0)
def Ch(a0:Ah):=
 fA (λ(y1:Bool)=>
 some y1) λk2=>
 cond (a0.Role==0)
 (cond ((a0.Sn.length:Int)==0)
 (ob (VI a0.Cur (⟨0,[],0,(⟨0,[]⟩:Al)⟩:Aq)) λr3=>
 cond (r3)
 (ob (VI a0.Old (⟨0,[],0,(⟨0,[]⟩:Al)⟩:Aq)) λr4=>
 cond (r4)
 (cond (!a0.HasOld)
 (cond (a0.Until==0)
 (k2 ((a0.Next.length:Int)==0))
 (k2 false))
 (k2 false))
 (k2 false))
 (k2 false))
 (k2 false))
 (k2 false)
def Ci(a0:Ao):=
 fA (λy1=>
 cond (y1)
 (some false)
 (fA (λ(y3:Unit)=>
 some true) λk4=>
 yA FU (λ(x5:Int) k6=>
 cond (decide (x5<(a0.Cands.length:Int)))
 (ob (vA a0.Cands x5) λe7=>
 fA (λy8=>
 cond (y8)
 (some false)
 (cond (decide (0≤(0:Int))&&decide ((0:Int)≤x5)&&decide (x5≤(a0.Cands.length:Int))) (let l11:List Ar:=List.take ((x5 - 0).toNat) (List.drop 0 a0.Cands)
 fA (λ(y12:Unit)=>
 k6 (mA .i64 x5 1)) λk13=>
 yA FU (λ(x14:Int) DH=>
 cond (decide (x14<(l11.length:Int)))
 (ob (vA l11 x14) λe16=>
 let x17:Bool:=cond (e16.A.Host==e7.A.Host) (cond (e16.A.Port==e7.A.Port) (true) false) false
 cond (x17)
 (some false)
 (DH (mA .i64 x14 1)))
 (k13 ())) 0) none)) λk9=>
 cond (!(WB e7.A))
 (k9 true)
 (let x10:Bool:=cond (e7.A.Host==a0.At.Host) (cond (e7.A.Port==a0.At.Port) (true) false) false
 cond (x10)
 (k9 true)
 (cond (!(PB e7.Draw))
 (k9 true)
 (k9 (!(oA e7.Until 0 1000006))))))
 (k4 ())) 0)) λk2=>
 cond (!(WB a0.At))
 (k2 true)
 (k2 (decide ((a0.Cands.length:Int)>3)))
def Cj(a0:Am):=
 fA (λy1=>
 cond (y1)
 (some false)
 (cond (a0.Dead)
 (fA (λ(y3:Bool)=>
 some y3) λk4=>
 ob (TI a0.C) λr5=>
 cond (r5)
 (let x6:Bool:=cond (a0.P.At.Host==0) (cond (a0.P.At.Port==0) (true) false) false
 cond (x6)
 (cond ((a0.P.Cands.length:Int)==0)
 (k4 (a0.Last==0))
 (k4 false))
 (k4 false))
 (k4 false))
 (fA (λ(y7:Bool)=>
 some y7) λk8=>
 ob (tF a0.C) λr9=>
 cond (r9)
 (cond (a0.C.Role==1)
 (ob (wD a0.C.Sn a0.Sn) λr10=>
 cond (r10)
 (cond ((bG a0.P))
 (k8 (oA a0.Last 0 1000000))
 (k8 false))
 (k8 false))
 (k8 false))
 (k8 false)))) λk2=>
 cond (!(oA a0.Id 1 9))
 (k2 true)
 (cond (!(PB a0.Cn))
 (k2 true)
 (cond (!(PB a0.Sn))
 (k2 true)
 (k2 (!(oA a0.Tick 0 1000000)))))
def Gm(a0:Ai)(a1:List UInt8):=
 fA (λ(y1:Unit)=>
 some (-1)) λk2=>
 yA FU (λ(x3:Int) k4=>
 cond (decide (x3<(a0.L.length:Int)))
 (ob (vA a0.L x3) λe5=>
 ob (wD e5.Sn a1) λr6=>
 cond (r6)
 (some x3)
 (k4 (mA .i64 x3 1)))
 (k2 ())) 0
def Ck(a0:Ai):=
 fA (λy1=>
 cond (y1)
 (some false)
 (fA (λ(y4:Unit)=>
 some true) λk5=>
 yA FU (λ(x6:Int) k7=>
 cond (decide (x6<(a0.L.length:Int)))
 (ob (vA a0.L x6) λe8=>
 fA (λy9=>
 cond (y9)
 (some false)
 (k7 (mA .i64 x6 1))) λk10=>
 ob (JG e8) λr11=>
 cond (!r11)
 (k10 true)
 (ob (HG a0 e8.Sn) λr12=>
 k10 (decide (r12<x6))))
 (k5 ())) 0)) λk2=>
 cond (!(oA a0.Cap 1 6))
 (k2 true)
 (cond (decide ((a0.L.length:Int)>12))
 (k2 true)
 (ob (qI a0) λr3=>
 k2 (decide (r3>a0.Cap))))
def Gn(a0:List Ad)(a1:Af):=
 fA (λ(y1:Unit)=>
 some (-1)) λk2=>
 yA FU (λ(x3:Int) k4=>
 cond (decide (x3<(a0.length:Int)))
 (ob (vA a0 x3) λe5=>
 let x6:Bool:=cond (e5.A.Host==a1.Host) (cond (e5.A.Port==a1.Port) (true) false) false
 cond (x6)
 (some x3)
 (k4 (mA .i64 x3 1)))
 (k2 ())) 0
def Cl(a0:List Ad):=
 cond (decide ((a0.length:Int)>8))
 (some false)
 (fA (λ(y1:Unit)=>
 some true) λk2=>
 yA FU (λ(x3:Int) k4=>
 cond (decide (x3<(a0.length:Int)))
 (ob (vA a0 x3) λe5=>
 fA (λy6=>
 cond (y6)
 (some false)
 (k4 (mA .i64 x3 1))) λk7=>
 cond (!(WB e5.A))
 (k7 true)
 (cond (!(oA e5.Got 0 1000000))
 (k7 true)
 (let r8:Bool:=oA e5.Sent 0 (mC .i64 3 e5.Got)
 cond (!r8)
 (k7 true)
 (k7 (decide ((UN a0 e5.A)<x3))))))
 (k2 ())) 0)
def Gp(a0:List UInt8):=
 some (oA (a0.length:Int) 1 32)
def Cm(a0:Aa):=
 fA (λy1=>
 cond (y1)
 (some false)
 (fA (λ(y4:Unit)=>
 fA (λ(y9:Unit)=>
 some true) λk10=>
 yA FU (λ(x11:Int) k12=>
 cond (decide (x11<(a0.T.L.length:Int)))
 (ob (vA a0.T.L x11) λe13=>
 cond (decide (e13.Id>(a0.Psks.length:Int)))
 (some false)
 (k12 (mA .i64 x11 1)))
 (k10 ())) 0) λk5=>
 yA FU (λ(x6:Int) k7=>
 cond (decide (x6<(a0.Psks.length:Int)))
 (ob (vA a0.Psks x6) λe8=>
 cond (!(nE e8))
 (some false)
 (k7 (mA .i64 x6 1)))
 (k5 ())) 0)) λk2=>
 cond (!(oA (a0.Psks.length:Int) 1 9))
 (k2 true)
 (cond (!(nI a0.J))
 (k2 true)
 (cond (!(mE a0.D))
 (k2 true)
 (ob (bJ a0.T) λr3=>
 cond (!r3)
 (k2 true)
 (k2 (!(pF a0.Cr))))))
def Co(a0:Ac)(a1:Ac):=
 fA (λ(y1:Bool)=>
 some y1) λk2=>
 cond (a0.Kind==a1.Kind)
 (cond (a0.Id==a1.Id)
 (cond (a0.Tick==a1.Tick)
 (cond (a0.Epoch==a1.Epoch)
 (cond (a0.Seq==a1.Seq)
 (ob (wD a0.Cn a1.Cn) λr3=>
 cond (r3)
 (ob (wD a0.Sn a1.Sn) λr4=>
 cond (r4)
 (ob (wD a0.Cookie a1.Cookie) λr5=>
 cond (r5)
 (ob (wD a0.Proof a1.Proof) λr6=>
 cond (r6)
 (ob (wD a0.Body a1.Body) λr7=>
 cond (r7)
 (ob (wD a0.Tag a1.Tag) λr8=>
 k2 r8)
 (k2 false))
 (k2 false))
 (k2 false))
 (k2 false))
 (k2 false))
 (k2 false))
 (k2 false))
 (k2 false))
 (k2 false))
 (k2 false)
def Cp(a0:Aj):=
 cond (!a0.On)
 (let x1:Bool:=cond (a0.On==false) (cond (a0.Due==0) (cond (a0.Wait==0) (cond (a0.Tries==0) (true) false) false) false) false
 some x1)
 (fA (λ(y2:Bool)=>
 fA (λ(y4:Bool)=>
 some y4) λk5=>
 cond ((oA a0.Due 0 1000008))
 (cond (y2)
 (k5 (oA a0.Tries 1 5))
 (k5 false))
 (k5 false)) λk3=>
 cond (a0.Wait==1)
 (k3 true)
 (cond (a0.Wait==2)
 (k3 true)
 (cond (a0.Wait==4)
 (k3 true)
 (k3 (a0.Wait==8)))))
def Gq(a0:Int):=
 some (oA a0 4 8)
def Em(a0:Int)(a1:Int):=
 cond (a0==4)
 (some (decide (a1≤40)))
 (fA (λy1=>
 cond (y1)
 (some (a1==12))
 (some (a1==4))) λk2=>
 cond (a0==5)
 (k2 (a0==5))
 (k2 (a0==6)))
def Cq(a0:Ac):=
 fA (λ(y1:Bool×Ac)=>
 fA (λ(y18:Bool)=>
 some y18) λk19=>
 cond (y1.1)
 (ob (II a0 y1.2) λr20=>
 k19 r20)
 (k19 false)) λk2=>
 cond (a0.Kind==1)
 (fA (λ(y3:Bool)=>
 k2 (y3,(⟨a0.Kind,a0.Id,a0.Cn,[],0,[],[],0,0,[],[]⟩:Ac))) λk4=>
 cond ((oA a0.Id 1 9))
 (k4 (PB a0.Cn))
 (k4 false))
 (fA (λ(y5:Bool×Ac)=>
 k2 (y5.1,y5.2)) λk6=>
 cond (a0.Kind==2)
 (fA (λ(y7:Bool)=>
 k6 (y7,(⟨a0.Kind,0,a0.Cn,a0.Sn,a0.Tick,a0.Cookie,[],0,0,[],[]⟩:Ac))) λk8=>
 cond ((PB a0.Cn))
 (cond ((PB a0.Sn))
 (cond ((oA a0.Tick 0 1000000))
 (k8 ((a0.Cookie.length:Int)==16))
 (k8 false))
 (k8 false))
 (k8 false))
 (fA (λ(y9:Bool×Ac)=>
 k6 (y9.1,y9.2)) λk10=>
 cond (a0.Kind==3)
 (fA (λ(y11:Bool)=>
 k10 (y11,(⟨a0.Kind,a0.Id,a0.Cn,a0.Sn,a0.Tick,a0.Cookie,a0.Proof,0,0,[],[]⟩:Ac))) λk12=>
 cond ((oA a0.Id 1 9))
 (cond ((PB a0.Cn))
 (cond ((PB a0.Sn))
 (cond ((oA a0.Tick 0 1000000))
 (cond ((a0.Cookie.length:Int)==16)
 (k12 ((a0.Proof.length:Int)==16))
 (k12 false))
 (k12 false))
 (k12 false))
 (k12 false))
 (k12 false))
 (fA (λ(y13:Bool×Ac)=>
 k10 (y13.1,y13.2)) λTE=>
 cond ((YE a0.Kind))
 (fA (λ(y15:Bool)=>
 TE (y15,(⟨a0.Kind,0,[],a0.Sn,0,[],[],a0.Epoch,a0.Seq,a0.Body,a0.Tag⟩:Ac))) λk16=>
 cond ((PB a0.Sn))
 (cond ((oA a0.Epoch 0 4294967295))
 (cond ((oA a0.Seq 0 281474976710655))
 (cond ((a0.Tag.length:Int)==16)
 (let r17:Bool:=yN a0.Kind (a0.Body.length:Int)
 k16 r17)
 (k16 false))
 (k16 false))
 (k16 false))
 (k16 false))
 (TE (false,(⟨a0.Kind,0,[],[],0,[],[],0,0,[],[]⟩:Ac))))))
def Cs(a0:Ab):=
 fA (λy1=>
 cond (y1)
 (some false)
 (fA (λ(y5:Bool)=>
 some y5) λk6=>
 ob (tF a0.C) λr7=>
 cond (r7)
 (cond (a0.C.Role==0)
 (ob (wD a0.C.Sn a0.Fin.Sn) λr8=>
 cond (r8)
 (cond (a0.C.Cur.N==0)
 (cond (!a0.C.HasOld)
 (k6 ((a0.C.Next.length:Int)==0))
 (k6 false))
 (k6 false))
 (k6 false))
 (k6 false))
 (k6 false))) λk2=>
 cond (!(PB a0.Cn))
 (k2 true)
 (cond (a0.Fin.Kind !=3)
 (k2 true)
 (ob (EP a0.Fin) λr3=>
 cond (!r3)
 (k2 true)
 (cond (a0.Fin.Id !=a0.Id)
 (k2 true)
 (ob (wD a0.Fin.Cn a0.Cn) λr4=>
 k2 (!r4)))))
def Ct(a0:Ab):=
 fA (λy1=>
 cond (y1)
 (some false)
 (ob (II a0.Fin (⟨0,0,[],[],0,[],[],0,0,[],[]⟩:Ac)) λr3=>
 let x4:Bool:=cond (a0.T.On==false) (cond (a0.T.Due==0) (cond (a0.T.Wait==0) (cond (a0.T.Tries==0) (true) false) false) false) false
 cond (a0.St==0)
 (fA (λ(y5:Bool)=>
 some y5) λk6=>
 cond ((a0.Cn.length:Int)==0)
 (cond (r3)
 (ob (TI a0.C) λr7=>
 cond (r7)
 (cond (x4)
 (let x8:Bool:=cond (a0.R.On==false) (cond (a0.R.Due==0) (cond (a0.R.Wait==0) (cond (a0.R.Tries==0) (true) false) false) false) false
 cond (x8)
 (k6 (a0.Last==0))
 (k6 false))
 (k6 false))
 (k6 false))
 (k6 false))
 (k6 false))
 (cond (a0.St==1)
 (fA (λ(y9:Bool)=>
 some y9) λk10=>
 cond ((PB a0.Cn))
 (cond (r3)
 (ob (TI a0.C) λr11=>
 cond (r11)
 (cond (a0.T.On)
 (cond ((IG a0.T))
 (let x12:Bool:=cond (a0.R.On==false) (cond (a0.R.Due==0) (cond (a0.R.Wait==0) (cond (a0.R.Tries==0) (true) false) false) false) false
 cond (x12)
 (k10 (a0.Last==0))
 (k10 false))
 (k10 false))
 (k10 false))
 (k10 false))
 (k10 false))
 (k10 false))
 (cond (a0.St==2)
 (fA (λ(y13:Bool)=>
 some y13) λTE=>
 ob (sP a0) λr15=>
 cond (r15)
 (cond (a0.T.On)
 (cond ((IG a0.T))
 (let x16:Bool:=cond (a0.R.On==false) (cond (a0.R.Due==0) (cond (a0.R.Wait==0) (cond (a0.R.Tries==0) (true) false) false) false) false
 cond (x16)
 (TE (a0.Last==0))
 (TE false))
 (TE false))
 (TE false))
 (TE false))
 (cond (a0.St==3)
 (fA (λ(y17:Bool)=>
 some y17) λk18=>
 cond ((PB a0.Cn))
 (cond (r3)
 (ob (tF a0.C) λr19=>
 cond (r19)
 (cond (a0.C.Role==0)
 (cond (x4)
 (cond ((IG a0.R))
 (cond (a0.R.On==(decide ((a0.C.Next.length:Int)>0)))
 (k18 (oA a0.Last 0 1000000))
 (k18 false))
 (k18 false))
 (k18 false))
 (k18 false))
 (k18 false))
 (k18 false))
 (k18 false))
 (some false)))))) λk2=>
 cond (!(oA a0.Id 1 9))
 (k2 true)
 (cond (!(nE a0.Psk))
 (k2 true)
 (k2 (!(WB a0.At))))
def Gr(a0:Ae):=
 fA (λ(y1:Bool)=>
 some y1) λk2=>
 let r3:Bool:=oA (a0.Seed.length:Int) 1 32
 cond (r3)
 (k2 (oA a0.N 0 10000))
 (k2 false)
def Gs(a0:Ap):=
 some ((a0.Secret.length:Int)==32)
def Gt(a0:Ai):=
 fA (λ(y1:Int)=>
 some y1) λk2=>
 yA FU (λ(x3:Int×Int) k4=>
 cond (decide (x3.2<(a0.L.length:Int)))
 (ob (vA a0.L x3.2) λe5=>
 fA (λ(y6:Int)=>
 k4 (y6,(mA .i64 x3.2 1))) λk7=>
 cond (!e5.Dead)
 (k7 (mA .i64 x3.1 1))
 (k7 x3.1))
 (k2 x3.1)) (0,0)
def Cu(a0:Ah):=
 fA (λ(y1:Bool)=>
 some y1) λk2=>
 cond (a0.Role==0)
 (cond ((a0.Sn.length:Int)==0)
 (cond ((FF a0.Cur))
 (cond ((FF a0.Old))
 (cond (!a0.HasOld)
 (cond (a0.Until==0)
 (k2 ((a0.Next.length:Int)==0))
 (k2 false))
 (k2 false))
 (k2 false))
 (k2 false))
 (k2 false))
 (k2 false)
def Cv(a0:Ao):=
 fA (λy1=>
 cond (y1)
 (some false)
 (fA (λ(y3:Unit)=>
 some true) λk4=>
 yA FU (λ(x5:Int) k6=>
 cond (decide (x5<(a0.Cands.length:Int)))
 (ob (vA a0.Cands x5) λe7=>
 fA (λy8=>
 cond (y8)
 (some false)
 (fA (λ(y11:Unit)=>
 k6 (mA .i64 x5 1)) λk12=>
 yA FU (λ(x13:Int) TE=>
 cond (decide (x13<x5))
 (ob (vA a0.Cands x13) λe15=>
 let x16:Bool:=cond (e15.A.Host==e7.A.Host) (cond (e15.A.Port==e7.A.Port) (true) false) false
 cond (x16)
 (some false)
 (TE (mA .i64 x13 1)))
 (k12 ())) 0)) λk9=>
 cond (!(WB e7.A))
 (k9 true)
 (cond ((e7.Draw.length:Int) !=12)
 (k9 true)
 (cond (!(oA e7.Until 0 1000006))
 (k9 true)
 (let x10:Bool:=cond (e7.A.Host==a0.At.Host) (cond (e7.A.Port==a0.At.Port) (true) false) false
 k9 x10))))
 (k4 ())) 0)) λk2=>
 cond (!(WB a0.At))
 (k2 true)
 (k2 (decide ((a0.Cands.length:Int)>3)))
def Cw(a0:Am):=
 fA (λy1=>
 cond (y1)
 (some false)
 (cond (a0.Dead)
 (fA (λ(y3:Bool)=>
 some y3) λk4=>
 cond ((gG a0.C))
 (let r5:Af:=KD (-1)
 let x6:Bool:=cond (a0.P.At.Host==r5.Host) (cond (a0.P.At.Port==r5.Port) (true) false) false
 cond (x6)
 (cond ((a0.P.Cands.length:Int)==0)
 (k4 (a0.Last==0))
 (k4 false))
 (k4 false))
 (k4 false))
 (fA (λ(y7:Bool)=>
 some y7) λk8=>
 ob (tF a0.C) λr9=>
 cond (r9)
 (cond (a0.C.Role==1)
 (ob (wD a0.C.Sn a0.Sn) λr10=>
 cond (r10)
 (k8 (bG a0.P))
 (k8 false))
 (k8 false))
 (k8 false)))) λk2=>
 cond (!(oA a0.Id 1 9))
 (k2 true)
 (cond ((a0.Cn.length:Int) !=12)
 (k2 true)
 (cond ((a0.Sn.length:Int) !=12)
 (k2 true)
 (cond (!(oA a0.Tick 0 1000000))
 (k2 true)
 (k2 (!(oA a0.Last 0 1000000))))))
def Gu(a0:Ai)(a1:List UInt8):=
 fA (λ(y1:Unit)=>
 some (-1)) λk2=>
 yA FU (λ(x3:Int) k4=>
 cond (decide (x3<(a0.L.length:Int)))
 (ob (vA a0.L x3) λe5=>
 ob (wD e5.Sn a1) λr6=>
 cond (r6)
 (some x3)
 (k4 (mA .i64 x3 1)))
 (k2 ())) 0
def Cy(a0:Ai):=
 fA (λy1=>
 cond (y1)
 (some false)
 (fA (λ(y4:Unit)=>
 some true) λk5=>
 yA FU (λ(x6:Int) k7=>
 cond (decide (x6<(a0.L.length:Int)))
 (fA (λy8=>
 cond (y8)
 (some false)
 (k7 (mA .i64 x6 1))) λk9=>
 ob (vA a0.L x6) λe10=>
 ob (JG e10) λr11=>
 cond (!r11)
 (k9 true)
 (ob (vA a0.L x6) λe12=>
 ob (HG a0 e12.Sn) λr13=>
 k9 (r13 !=x6)))
 (k5 ())) 0)) λk2=>
 cond (!(oA a0.Cap 1 6))
 (k2 true)
 (cond (decide ((a0.L.length:Int)>12))
 (k2 true)
 (ob (qI a0) λr3=>
 k2 (decide (r3>a0.Cap))))
def Cz(a0:List Ad):=
 cond (decide ((a0.length:Int)>8))
 (some false)
 (fA (λ(y1:Unit)=>
 some true) λk2=>
 yA FU (λ(x3:Int) k4=>
 cond (decide (x3<(a0.length:Int)))
 (fA (λy5=>
 cond (y5)
 (some false)
 (fA (λ(y12:Unit)=>
 k4 (mA .i64 x3 1)) λk13=>
 yA FU (λ(x14:Int) DH=>
 cond (decide (x14<x3))
 (ob (vA a0 x14) λe16=>
 ob (vA a0 x3) λe17=>
 let x18:Bool:=cond (e16.A.Host==e17.A.Host) (cond (e16.A.Port==e17.A.Port) (true) false) false
 cond (x18)
 (some false)
 (DH (mA .i64 x14 1)))
 (k13 ())) 0)) λk6=>
 ob (vA a0 x3) λe7=>
 cond (!(WB e7.A))
 (k6 true)
 (ob (vA a0 x3) λe8=>
 cond (!(oA e8.Got 0 1000000))
 (k6 true)
 (ob (vA a0 x3) λe9=>
 ob (vA a0 x3) λe10=>
 let r11:Bool:=oA e9.Sent 0 (mC .i64 3 e10.Got)
 k6 (!r11))))
 (k2 ())) 0)
def Gv(a0:List UInt8):=
 some (oA (a0.length:Int) 1 32)
def Gw(a0:Aa):=
 fA (λy1=>
 cond (y1)
 (some false)
 (fA (λ(y4:Unit)=>
 fA (λ(y9:Unit)=>
 some true) λk10=>
 yA FU (λ(x11:Int) k12=>
 cond (decide (x11<(a0.T.L.length:Int)))
 (ob (vA a0.T.L x11) λe13=>
 cond (decide (e13.Id>(a0.Psks.length:Int)))
 (some false)
 (k12 (mA .i64 x11 1)))
 (k10 ())) 0) λk5=>
 yA FU (λ(x6:Int) k7=>
 cond (decide (x6<(a0.Psks.length:Int)))
 (ob (vA a0.Psks x6) λe8=>
 cond (!(nE e8))
 (some false)
 (k7 (mA .i64 x6 1)))
 (k5 ())) 0)) λk2=>
 cond (!(oA (a0.Psks.length:Int) 1 9))
 (k2 true)
 (cond (!(nI a0.J))
 (k2 true)
 (cond (!(mE a0.D))
 (k2 true)
 (ob (bJ a0.T) λr3=>
 cond (!r3)
 (k2 true)
 (k2 (!(pF a0.Cr))))))
end
end Go.D
namespace Go.D
def YN.ok{x}(hb:sA [.sl .Credit, .sl .Credit] x):Gg x.1 x.2=some (qA x.1 x.2):=DG (α:=Ad) x.1 x.2 hb.1.1 _ (λ_ _=>rfl)
def zdt(a b:Ag):Cg a b=some (qA a b):=by
 simp only[Cg];refine NB (λy:Ag=>y.Now) λh0=>?_;refine gB (λy:Ag=>y.Clients) λh1=>?_;refine gB (λy:Ag=>y.S) λh2=>?_;refine gB (λy:Ag=>y.D) λh3=>?_;refine gB (λy:Ag=>y.Seen) λh4=>?_;refine gB (λy:Ag=>y.Known) λh5=>?_;refine gB (λy:Ag=>y.Notes) λh6=>?_;exact QD (by cases a;cases b;simp_all)
def UJ.ok{x}(_:sA [.v .World, .v .World] x):Cg x.1 x.2=some (qA x.1 x.2):=zdt x.1 x.2
def pO.ok{x}(hb:sA [.sl .Wire, .sl .Wire] x):Gh x.1 x.2=some (qA x.1 x.2):=DG (α:=As) x.1 x.2 hb.1.1 _ (λ_ _=>rfl)
def zdh(a b:Ad):Cd a b=some (qA a b):=by
 simp only[Cd];refine gB (λy:Ad=>y.A) λh0=>?_;refine NB (λy:Ad=>y.Got) λh1=>?_;refine NB (λy:Ad=>y.Sent) λh2=>?_;exact QD (by cases a;cases b;simp_all)
def IJ.ok{x}(_:sA [.v .Credit, .v .Credit] x):Cd x.1 x.2=some (qA x.1 x.2):=zdh x.1 x.2
def XN.ok{x}(hb:sA [.sl .Client, .sl .Client] x):Gc x.1 x.2=some (qA x.1 x.2):=DG (α:=Ab) x.1 x.2 hb.1.1 _ (λ_ _=>rfl)
def zdl(a b:Aa):Ce a b=some (qA a b):=by
 simp only[Ce];refine gB (λy:Aa=>y.Psks) λh0=>?_;refine gB (λy:Aa=>y.J) λh1=>?_;refine gB (λy:Aa=>y.D) λh2=>?_;refine gB (λy:Aa=>y.T) λh3=>?_;refine gB (λy:Aa=>y.Cr) λh4=>?_;exact QD (by cases a;cases b;simp_all)
def PJ.ok{x}(_:sA [.v .Server, .v .Server] x):Ce x.1 x.2=some (qA x.1 x.2):=zdl x.1 x.2
def zdN(a b:Ae):By a b=some (qA a b):=by
 simp only[By];refine gB (λy:Ae=>y.Seed) λh0=>?_;refine NB (λy:Ae=>y.N) λh1=>?_;exact QD (by cases a;cases b;simp_all)
def jK.ok{x}(_:sA [.v .Dice, .v .Dice] x):By x.1 x.2=some (qA x.1 x.2):=zdN x.1 x.2
def eO.ok{x}(hb:sA [.sl .bs, .sl .bs] x):Gd x.1 x.2=some (qA x.1 x.2):=DG (α:=(List UInt8)) x.1 x.2 hb.1.1 _ (λ_ _=>rfl)
def zdM(a b:As):Cf a b=some (qA a b):=by
 simp only[Cf];refine gB (λy:As=>y.From) λh0=>?_;refine gB (λy:As=>y.To) λh1=>?_;refine gB (λy:As=>y.B) λh2=>?_;exact QD (by cases a;cases b;simp_all)
def yK.ok{x}(_:sA [.v .Wire, .v .Wire] x):Cf x.1 x.2=some (qA x.1 x.2):=zdM x.1 x.2
def zdi(a b:Ab):Bw a b=some (qA a b):=by
 simp only[Bw];refine NB (λy:Ab=>y.Id) λh0=>?_;refine gB (λy:Ab=>y.Psk) λh1=>?_;refine gB (λy:Ab=>y.At) λh2=>?_;refine NB (λy:Ab=>y.St) λh3=>?_;refine gB (λy:Ab=>y.Cn) λh4=>?_;refine gB (λy:Ab=>y.Fin) λh5=>?_;refine gB (λy:Ab=>y.C) λh6=>?_;refine gB (λy:Ab=>y.T) λh7=>?_;refine gB (λy:Ab=>y.R) λh8=>?_;refine NB (λy:Ab=>y.Last) λh9=>?_;exact QD (by cases a;cases b;simp_all)
def HJ.ok{x}(_:sA [.v .Client, .v .Client] x):Bw x.1 x.2=some (qA x.1 x.2):=zdi x.1 x.2
def zdW(a b:Ap):Bx a b=some (qA a b):=by
 simp only[Bx];refine gB (λy:Ap=>y.Secret) λh0=>?_;exact QD (by cases a;cases b;simp_all)
def AK.ok{x}(_:sA [.v .Jar, .v .Jar] x):Bx x.1 x.2=some (qA x.1 x.2):=zdW x.1 x.2
def zdV(a b:Ai):Cc a b=some (qA a b):=by
 simp only[Cc];refine NB (λy:Ai=>y.Cap) λh0=>?_;refine gB (λy:Ai=>y.L) λh1=>?_;exact QD (by cases a;cases b;simp_all)
def CK.ok{x}(_:sA [.v .Tab, .v .Tab] x):Cc x.1 x.2=some (qA x.1 x.2):=zdV x.1 x.2
def zds(a b:Ac):Bu a b=some (qA a b):=by
 simp only[Bu];refine NB (λy:Ac=>y.Kind) λh0=>?_;refine NB (λy:Ac=>y.Id) λh1=>?_;refine gB (λy:Ac=>y.Cn) λh2=>?_;refine gB (λy:Ac=>y.Sn) λh3=>?_;refine NB (λy:Ac=>y.Tick) λh4=>?_;refine gB (λy:Ac=>y.Cookie) λh5=>?_;refine gB (λy:Ac=>y.Proof) λh6=>?_;refine NB (λy:Ac=>y.Epoch) λh7=>?_;refine NB (λy:Ac=>y.Seq) λh8=>?_;refine gB (λy:Ac=>y.Body) λh9=>?_;refine gB (λy:Ac=>y.Tag) λiX=>?_;exact QD (by cases a;cases b;simp_all)
def cK.ok{x}(_:sA [.v .Frame, .v .Frame] x):Bu x.1 x.2=some (qA x.1 x.2):=zds x.1 x.2
def zdr(a b:Aj):Bv a b=some (qA a b):=by
 simp only[Bv];refine gT (λy:Aj=>y.On) λh0=>?_;refine NB (λy:Aj=>y.Due) λh1=>?_;refine NB (λy:Aj=>y.Wait) λh2=>?_;refine NB (λy:Aj=>y.Tries) λh3=>?_;exact QD (by cases a;cases b;simp_all)
def bK.ok{x}(_:sA [.v .Timer, .v .Timer] x):Bv x.1 x.2=some (qA x.1 x.2):=zdr x.1 x.2
def qO.ok{x}(hb:sA [.sl .Sess, .sl .Sess] x):Gf x.1 x.2=some (qA x.1 x.2):=DG (α:=Am) x.1 x.2 hb.1.1 _ (λ_ _=>rfl)
def zdz(a b:Am):Cb a b=some (qA a b):=by
 simp only[Cb];refine NB (λy:Am=>y.Id) λh0=>?_;refine gB (λy:Am=>y.Cn) λh1=>?_;refine gB (λy:Am=>y.Sn) λh2=>?_;refine gB (λy:Am=>y.C) λh3=>?_;refine gB (λy:Am=>y.P) λh4=>?_;refine NB (λy:Am=>y.Tick) λh5=>?_;refine NB (λy:Am=>y.Last) λh6=>?_;refine gT (λy:Am=>y.Dead) λh7=>?_;exact QD (by cases a;cases b;simp_all)
def qK.ok{x}(_:sA [.v .Sess, .v .Sess] x):Cb x.1 x.2=some (qA x.1 x.2):=zdz x.1 x.2
def zdw(a b:Ao):Ca a b=some (qA a b):=by
 simp only[Ca];refine gB (λy:Ao=>y.At) λh0=>?_;refine gB (λy:Ao=>y.Cands) λh1=>?_;exact QD (by cases a;cases b;simp_all)
def aK.ok{x}(_:sA [.v .Paths, .v .Paths] x):Ca x.1 x.2=some (qA x.1 x.2):=zdw x.1 x.2
def mO.ok{x}(hb:sA [.sl .Cand, .sl .Cand] x):Ge x.1 x.2=some (qA x.1 x.2):=DG (α:=Ar) x.1 x.2 hb.1.1 _ (λ_ _=>rfl)
def zdH(a b:Ar):Bz a b=some (qA a b):=by
 simp only[Bz];refine gB (λy:Ar=>y.A) λh0=>?_;refine gB (λy:Ar=>y.Draw) λh1=>?_;refine NB (λy:Ar=>y.Until) λh2=>?_;exact QD (by cases a;cases b;simp_all)
def vK.ok{x}(_:sA [.v .Cand, .v .Cand] x):Bz x.1 x.2=some (qA x.1 x.2):=zdH x.1 x.2
end Go.D
namespace Go.D
open Option renaming bind→ob
def EO.ok{x}(_:sA [.v .Addr] x):Fz x=some (WB x):=cV x
def rO.ok{x}(_:sA [.v .Addr] x):Fy x=some (WB x):=cV x
def zaX(i:Int):(cond (!(oA i 0 255)) (some (⟨0,0⟩:Af)) (some (⟨mA .i64 167772160 i,mA .i64 7000 i⟩:Af)))=some (KD i):=by
 cases h:oA i 0 255
 ·rw[zhU]at h;simp[KD,h]
 ·rw[GD]at h;simp only[Bool.not_true,cond_false,KD,h,and_self,if_true,mA];rw[sB (by omega) (by omega),sB (by omega) (by omega)]
def lP.ok{x}(_:sA [.v .int] x):Ga x=some (KD x):=zaX _
def xP.ok{x}(_:sA [.v .int] x):Gb x=some (KD x):=zaX _
def XK(a b:Af):(cond (a.Host==b.Host) (cond (a.Port==b.Port) (true) false) false)=fF a b:=by
 simp only[fF,Bool.cond_false_right,Bool.and_true]
def KO.ok{x}(_:sA [.v .Jar] x):Gj x=some (nI x):=rfl
def LO.ok{x}(_:sA [.v .Jar] x):Gs x=some (nI x):=rfl
def UU(d:Ae):(fA (λ(y1:Bool)=>some y1) λk2=>cond (oA (d.Seed.length:Int) 1 32) (k2 (oA d.N 0 10000)) (k2 false))=some (mE d):=by
 simp only[fA,HC,Bool.cond_false_right,mE]
def uO.ok{x}(_:sA [.v .Dice] x):Gi x=some (mE x):=UU x
def vO.ok{x}(_:sA [.v .Dice] x):Gr x=some (mE x):=UU x
def zbf(t:Ai)(h:wt t≤eA):(fA (λ(y1:Int)=>some y1) λk2=>yA FU (λ(x3:Int×Int) k4=>cond (decide (x3.2<(t.L.length:Int))) (ob (vA t.L x3.2) λe5=>
  fA (λ(y6:Int)=>k4 (y6,(mA .i64 x3.2 1))) λk7=>cond (!e5.Dead) (k7 (mA .i64 x3.1 1)) (k7 x3.1)) (k2 x3.1)) (0,0))=some (pJ t):=by
 rw[iI]at h;simp only[fA];rw[zf0 t.L (SH h) (λs e=>bif e.Dead then s else mA .i64 s 1) (λs=>some s) (λi s k hi=>?_) (λs k=>by simp only[sD,cond_false])]
 ·rfl
 ·simp only[bD hi,cond_true,rC hi,lB];cases t.L[i].Dead<;>rfl
def ZO.ok{x}(_:sA [.v .Tab] x){r}:qI x=some r→Gk x=some r:=YA λh=>zbf x h
def eP.ok{x}(_:sA [.v .Tab] x){r}:qI x=some r→Gt x=some r:=YA λh=>zbf x h
def AJ.ok{x}(_:sA [.v .Chan] x):Cu x=some (gG x):=by
 show Cu (x:Ah)=some (gG (x:Ah))
 generalize (show Ah from x)=c;simp only[Cu,fA,HC,Bool.cond_false_right,gG]
 grind
def zdb(c:Ah)(h:wt c≤eA):Ch c=some (gG c):=by
 rw[XH]at h
 simp only[Ch,fA,VI,FA (p:=wt c.Old≤eA∧wt (⟨0,[],0,(⟨0,[]⟩:Al)⟩:Aq)≤eA) ⟨by omega,lT⟩,
  FA (p:=wt c.Cur≤eA∧wt (⟨0,[],0,(⟨0,[]⟩:Al)⟩:Aq)≤eA) ⟨by omega,lT⟩,zaL,HC,Bool.cond_false_right,gG]
 grind
def xJ.ok{x}(_:sA [.v .Chan] x){r}:TI x=some r→Ch x=some r:=YA λh=>zdb x h
def gI(a b:Int):decide (a>b)= !decide (a≤b):=by
 by_cases h:a≤b
 ·rw[decide_eq_true h,decide_eq_false (by omega)];rfl
 ·rw[decide_eq_false h,decide_eq_true (by omega)];rfl
def YJ.ok{x}(_:sA [.v .Paths] x):Cv x=some (bG x):=by
 show Cv (x:Ao)=some (bG (x:Ao))
 generalize (show Ao from x)=p;simp only[Cv,fA,XK,bG,gI (p.Cands.length:Int) 3];cases WB p.At
 ·rfl
 cases hd:decide ((p.Cands.length:Int)≤3)
 ·rfl
 have hd:=of_decide_eq_true hd;have hl:p.Cands.length≤maxLen:=by rw[IC];omega
 simp only[Bool.not_true,cond_false];rw[EG p.Cands.length hl (pN p) (some false) (some true) (λi k hi=>?_) (λk=>by simp only[sD,cond_false])]
 ·cases jB _ _<;>rfl
 ·simp only[bD hi,cond_true,rC hi,lB];rw[EG i (by omega) (λj=>(p.Cands[j]?).any λd=>fF d.A p.Cands[i].A) (some false) (k (mA .i64 (i:Int) 1)) (λj k' hj=>?_) (λk'=>by simp only[sD,cond_false])]
  ·simp only[pN,BE hi,PB];cases WB p.Cands[i].A<;>cases hn:((p.Cands[i].Draw.length:Int)==12)<;>cases oA p.Cands[i].Until 0 1000006<;>cases fF p.Cands[i].A p.At<;>cases jB i _<;>simp[bne,hn]
  ·simp only[bD hj,cond_true,rC (Nat.lt_trans hj hi),lB,BE (Nat.lt_trans hj hi)]
def VJ.ok{x}(_:sA [.v .Paths] x):Ci x=some (bG x):=by
 show Ci (x:Ao)=some (bG (x:Ao))
 generalize (show Ao from x)=p;simp only[Ci,fA,XK,bG,gI (p.Cands.length:Int) 3];cases WB p.At
 ·rfl
 cases hd:decide ((p.Cands.length:Int)≤3)
 ·rfl
 have hd:=of_decide_eq_true hd;have hl:p.Cands.length≤maxLen:=by rw[IC];omega
 simp only[Bool.not_true,cond_false];rw[EG p.Cands.length hl (pN p) (some false) (some true) (λi k hi=>?_) (λk=>by simp only[sD,cond_false])]
 ·cases jB _ _<;>rfl
 ·have tV:(p.Cands.take i).length=i:=by rw[List.length_take];omega
  simp only[bD hi,cond_true,rC hi,lB,zi2 (Nat.le_of_lt hi),zi4];rw[EG i (by omega) (λj=>(p.Cands[j]?).any λd=>fF d.A p.Cands[i].A) (some false) (k (mA .i64 (i:Int) 1)) (λj k' hj=>?_) (λk'=>by rw[tV];simp only[sD,cond_false])]
  ·simp only[pN,BE hi];cases WB p.Cands[i].A<;>cases PB p.Cands[i].Draw<;>cases oA p.Cands[i].Until 0 1000006<;>cases fF p.Cands[i].A p.At<;>cases jB i _<;>rfl
  ·have MV:j<(p.Cands.take i).length:=by omega
   simp only[bD MV,cond_true,rC MV,lB,BE (Nat.lt_trans hj hi),List.getElem_take]
def zdx(s:Am)(h:wt s≤eA):Cw s=some (kI s):=by
 rw[AL]at h;have hc:=XH s.C;have hn:KD (-1)=⟨0,0⟩:=rfl;have h0:s.Last=0→oA s.Last 0 1000000=true:=λh=>by rw[h];rfl
 simp only[Cw,fA,XK];simp only[hn,tF,FA (p:=wt s.C≤eA) (by omega),GI (a:=s.C.Sn) (b:=s.Sn) (by omega) (by omega),kI,PB];cases s.Dead<;>simp only[HC,Bool.cond_false_right,cond_true,cond_false]<;>grind
def gK.ok{x}(_:sA [.v .Sess] x){r}:JG x=some r→Cw x=some r:=YA λh=>zdx x h
def zdO(s:Am)(h:wt s≤eA):Cj s=some (kI s):=by
 rw[AL]at h;have hc:=XH s.C;have hn:(cond (s.P.At.Host==0) (cond (s.P.At.Port==0) (true) false) false)=fF s.P.At ⟨0,0⟩:=XK s.P.At ⟨0,0⟩;simp only[Cj,fA,hn,tF,TI,FA (p:=wt s.C≤eA) (by omega),GI (a:=s.C.Sn) (b:=s.Sn) (by omega) (by omega),kI];cases s.Dead<;>simp only[HC,Bool.cond_false_right,cond_true,cond_false]<;>grind
def rK.ok{x}(_:sA [.v .Sess] x){r}:JG x=some r→Cj x=some r:=YA λh=>zdO x h
def fV(t:Ai)(b:List UInt8)(h:wt t≤eA∧wt b≤eA):(fA (λ(y1:Unit)=>some (-1)) λk2=>yA FU (λ(x3:Int) k4=>cond (decide (x3<(t.L.length:Int))) (ob (vA t.L x3) λe5=>
  ob (wD e5.Sn b) λr6=>cond (r6) (some x3) (k4 (mA .i64 x3 1))) (k2 ())) 0)=some (BQ t b):=by
 rw[iI]at h;simp only[fA];rw[zaf t.L.length (SH h.1) (HL t b) (λi k hi=>?_) (λk=>by simp only[sD,cond_false])]
 ·rfl
 ·have:=EQ hi;have hs:=AL t.L[i];simp only[bD hi,cond_true,rC hi,lB,HL,BE hi,GI (a:=t.L[i].Sn) (b:=b) (by omega) h.2]
def zO.ok{x}(_:sA [.v .Tab, .sl .byte] x){r}:HG x.1 x.2=some r→Gm x.1 x.2=some r:=YA λh=>fV x.1 x.2 h
def AO.ok{x}(_:sA [.v .Tab, .sl .byte] x){r}:HG x.1 x.2=some r→Gu x.1 x.2=some r:=YA λh=>fV x.1 x.2 h
def eV{t:Ai}{i:Nat}(hi:i<t.L.length):HL t t.L[i].Sn i=true:=by simp[HL,hi]
def zbR{t:Ai}(h:wt t≤eA){i:Nat}(hi:i<t.L.length):wt t.L[i]≤eA∧wt t.L[i].Sn≤eA:=by
 rw[iI]at h;have:=EQ hi;have hs:=AL t.L[i];omega
def zdR(t:Ai)(h:wt t≤eA):Cy t=some (gJ t):=by
 have hl:=SH (iI t▸h);simp only[Cy,fA,gJ,qI,FA h,gI (t.L.length:Int) 12,gI (pJ t) t.Cap]
 have key:yA FU (λ(x5:Int) k6=>cond (decide (x5<(t.L.length:Int))) (ob (vA t.L x5) λe9=>ob (JG e9) λr10=>cond (!r10) (cond true (some false) (k6 (mA .i64 x5 1))) (ob (vA t.L x5) λe11=>
   ob (HG t e11.Sn) λr12=>cond (r12 !=x5) (some false) (k6 (mA .i64 x5 1)))) (some true)) 0=some (!(jB t.L.length (XI t))):=by
  rw[EG t.L.length hl (XI t) (some false) (some true) (λi k hi=>?_) (λk=>by simp only[sD,cond_false])]
  ·cases jB _ _<;>rfl
  ·have hw:=zbR h hi;simp only[bD hi,cond_true,rC hi,lB,JG,FA hw.1,HG,FA (p:=wt t≤eA∧wt t.L[i].Sn≤eA) ⟨h,hw.2⟩,BQ,(rS hi (eV hi)).2,XI,BE hi];cases kI t.L[i]<;>cases jB i _<;>rfl
 rw[key];cases oA t.Cap 1 6<;>cases decide ((t.L.length:Int)≤12)<;>cases decide (pJ t≤t.Cap)<;>rfl
def FK.ok{x}(_:sA [.v .Tab] x){r}:bJ x=some r→Cy x=some r:=YA λh=>zdR x h
def zdP(t:Ai)(h:wt t≤eA):Ck t=some (gJ t):=by
 have hl:=SH (iI t▸h);simp only[Ck,fA,gJ,qI,FA h,gI (t.L.length:Int) 12,gI (pJ t) t.Cap]
 have key:yA FU (λ(x5:Int) k6=>cond (decide (x5<(t.L.length:Int))) (ob (vA t.L x5) λe9=>ob (JG e9) λr10=>cond (!r10) (cond true (some false) (k6 (mA .i64 x5 1)))
   (ob (HG t e9.Sn) λr12=>cond (decide (r12<x5)) (some false) (k6 (mA .i64 x5 1)))) (some true)) 0=some (!(jB t.L.length (XI t))):=by
  rw[EG t.L.length hl (XI t) (some false) (some true) (λi k hi=>?_) (λk=>by simp only[sD,cond_false])]
  ·cases jB _ _<;>rfl
  ·have hw:=zbR h hi;simp only[bD hi,cond_true,rC hi,lB,JG,FA hw.1,HG,FA (p:=wt t≤eA∧wt t.L[i].Sn≤eA) ⟨h,hw.2⟩,BQ,(rS hi (eV hi)).1,XI,BE hi];cases kI t.L[i]<;>cases jB i _<;>rfl
 rw[key];cases oA t.Cap 1 6<;>cases decide ((t.L.length:Int)≤12)<;>cases decide (pJ t≤t.Cap)<;>rfl
def DK.ok{x}(_:sA [.v .Tab] x){r}:bJ x=some r→Ck x=some r:=YA λh=>zdP x h
end Go.D
namespace Go.D
def zh1(l:List Ad)(a:Af)(hl:l.length≤maxLen):(fA (λ(y1:Unit)=>some (-1)) λk2=>yA FU (λ(x3:Int) k4=>cond (decide (x3<(l.length:Int))) (Option.bind (vA l x3) λe5=>
  cond (cond (e5.A.Host==a.Host) (cond (e5.A.Port==a.Port) (true) false) false) (some x3) (k4 (mA .i64 x3 1))) (k2 ())) 0)=some (UN l a):=by
 simp only[fA,XK];rw[zaf l.length hl (SG l a) (λi k hi=>?_) (λk=>by simp only[sD,cond_false])]
 ·rfl
 ·simp only[bD hi,cond_true,rC hi,lB,SG,BE hi]
def fO.ok{x}(hb:sA [.sl .Credit, .v .Addr] x):Gn x.1 x.2=some (UN x.1 x.2):=zh1 x.1 x.2 hb.1.1
def ze4(a:Af):fF a a=true:=by simp[fF]
def zfp{l:List Ad}{i:Nat}(hi:i<l.length):SG l l[i].A i=true:=by simp[SG,hi,ze4]
def ziP{l:List Ad}{i:Nat}(hi:i<l.length):decide (UN l l[i].A<(i:Int))=jB i (SG l l[i].A):=(rS (p:=SG l l[i].A) hi (zfp hi)).1
def CJ.ok{x}(hb:sA [.sl .Credit] x):Cl x=some (pF x):=by
 show Cl (x:List Ad)=some (pF (x:List Ad))
 have hl:(show List Ad from x).length≤maxLen:=hb.1;generalize (show List Ad from x)=l at hl⊢;simp only[Cl,fA,pF,gI (l.length:Int) 8];rw[EG l.length hl (SM l) (some false) (some true) (λi k hi=>?_) (λk=>by simp only[sD,cond_false])]
 ·cases decide ((l.length:Int)≤8)<;>cases jB _ _<;>rfl
 ·simp only[bD hi,cond_true,rC hi,lB,ziP hi,SM,BE hi];cases WB l[i].A<;>cases oA l[i].Got 0 1000000<;>cases oA l[i].Sent 0 _<;>cases jB i _<;>rfl
def BJ.ok{x}(hb:sA [.sl .Credit] x):Cz x=some (pF x):=by
 show Cz (x:List Ad)=some (pF (x:List Ad))
 have hl:(show List Ad from x).length≤maxLen:=hb.1;generalize (show List Ad from x)=l at hl⊢;simp only[Cz,fA,pF,gI (l.length:Int) 8,XK];rw[EG l.length hl (SM l) (some false) (some true) (λi k hi=>?_) (λk=>by simp only[sD,cond_false])]
 ·cases decide ((l.length:Int)≤8)<;>cases jB _ _<;>rfl
 ·simp only[bD hi,cond_true,rC hi,lB];rw[EG i (by omega) (SG l l[i].A) (some false) (k (mA .i64 (i:Int) 1)) (λj k' hj=>?_) (λk'=>by simp only[sD,cond_false])]
  ·simp only[SM,BE hi];cases WB l[i].A<;>cases oA l[i].Got 0 1000000<;>cases oA l[i].Sent 0 _<;>cases jB i _<;>rfl
  ·simp only[bD hj,cond_true,rC (Nat.lt_trans hj hi),rC hi,lB,SG,BE (Nat.lt_trans hj hi)]
def QO.ok{x}(_:sA [.sl .byte] x):Gp x=some (nE x):=rfl
def RO.ok{x}(_:sA [.sl .byte] x):Gv x=some (nE x):=rfl
def wU(s:Aa)(h:wt s≤eA):Cm s=some (WE s):=by
 rw[dP]at h;have hT:=iI s.T;simp only[Cm,fA,bJ,FA (p:=wt s.T≤eA) (by omega),WE];rw[jS s.Psks (SH (by omega)) (λb=>!nE b) (some false) _ (λi k hi=>?_) (λk=>by simp only[sD,cond_false];rfl)]
 ·rw[jS s.T.L (SH (by omega)) (λe=>decide (e.Id>(s.Psks.length:Int))) (some false) (some true) (λi k hi=>?_) (λk=>by simp only[sD,cond_false])]
  ·cases oA (s.Psks.length:Int) 1 9<;>cases nI s.J<;>cases mE s.D<;>cases gJ s.T<;>cases pF s.Cr<;>cases s.Psks.any _<;>cases s.T.L.any _<;>rfl
  ·simp only[bD hi,cond_true,rC hi,lB]
 ·simp only[bD hi,cond_true,rC hi,lB]
def NJ.ok{x}(_:sA [.v .Server] x){r}:jE x=some r→Cm x=some r:=YA λh=>wU x h
def cO.ok{x}(_:sA [.v .Server] x){r}:jE x=some r→Gw x=some r:=YA λh=>wU x h
def zdc(f g:Ac)(h:wt f≤eA∧wt g≤eA):Co f g=some (BG f g):=by
 simp only[gH]at h;simp(disch:=omega) only[Co,fA,GI];simp only[HC,Bool.cond_false_right,BG,Bool.and_assoc]
def yJ.ok{x}(_:sA [.v .Frame, .v .Frame] x){r}:II x.1 x.2=some r→Co x.1 x.2=some r:=YA λh=>zdc x.1 x.2 h
def PU(t:Aj):(cond (t.On==false) (cond (t.Due==0) (cond (t.Wait==0) (cond (t.Tries==0) (true) false) false) false) false)=WH t:=by
 simp only[Bool.cond_false_right,WH,Bool.and_true,Bool.and_assoc]
def ZJ.ok{x}(_:sA [.v .Timer] x):Cp x=some (IG x):=by
 show Cp (x:Aj)=some (IG (x:Aj))
 generalize (show Aj from x)=t;simp only[Cp,PU,fA,IG];cases t.On
 ·rfl
 ·simp only[Bool.not_true,cond_false,cond_true,HC];cases oA t.Due 0 1000008<;>cases oA t.Tries 1 5<;>grind
def CO.ok{x}(_:sA [.v .int] x):Gq x=some (YE x):=rfl
def AM.ok{x}(_:sA [.v .int, .v .int] x):Em x.1 x.2=some (yN x.1 x.2):=by
 simp only[Em,fA,HC,yN];cases h5:x.1==(5:Int)<;>cases h4:x.1==(4:Int)<;>simp
def zhz(a b:Int):(a !=b)= !(a==b):=rfl
def DR{k:Int}(h:YE k=true):(k==1)=false∧(k==2)=false∧(k==3)=false:=by
 rw[YE,GD]at h;exact⟨beq_false_of_ne (by omega),beq_false_of_ne (by omega),beq_false_of_ne (by omega)⟩
def VM(l:List UInt8):(l==[])=((l.length:Int)==0):=by rw[zc5];cases l<;>rfl
def zdu(f:Ac)(h:wt f≤eA):Cq f=some (WP f):=by
 have hs:∀g:Ac,wt g≤wt f→II f g=some (BG f g):=λg hg=>lH ⟨h,by omega⟩;have hw:=gH f;simp only[Cq,fA,HC,WP,PB];cases h1:f.Kind==1
 ·cases h2:f.Kind==2
  ·cases h3:f.Kind==3
   ·cases h4:YE f.Kind
    ·simp
    ·simp only[cond_true,cond_false];rw[hs _ (by simp only[gH,eG];omega)];simp only[BG,beq_self_eq_true,VM,HC,Bool.cond_false_right];cases oA f.Epoch 0 4294967295<;>cases oA f.Seq 0 281474976710655<;>grind
   ·have h4 : YE f.Kind = false := by cases h4 : YE f.Kind; · rfl
                                      rw[(DR h4).2.2]at h3;cases h3
    simp only[cond_true,cond_false,h4];rw[hs _ (by simp only[gH,eG];omega)];simp only[BG,beq_self_eq_true,VM,HC,Bool.cond_false_right];cases oA f.Id 1 9<;>cases oA f.Tick 0 1000000<;>grind
  ·have h4 : YE f.Kind = false := by cases h4 : YE f.Kind; · rfl
                                     rw[(DR h4).2.1]at h2;cases h2
   simp only[cond_true,cond_false,h4];rw[hs _ (by simp only[gH,eG];omega)];simp only[BG,beq_self_eq_true,VM,HC,Bool.cond_false_right];cases oA f.Tick 0 1000000<;>grind
 ·have h4 : YE f.Kind = false := by cases h4 : YE f.Kind; · rfl
                                    rw[(DR h4).1]at h1;cases h1
  simp only[cond_true,cond_false,h4];rw[hs _ (by simp only[gH,eG];omega)];simp only[BG,beq_self_eq_true,VM,HC,Bool.cond_false_right];cases oA f.Id 1 9<;>grind
def SJ.ok{x}(_:sA [.v .Frame] x){r}:EP x=some r→Cq x=some r:=YA λh=>zdu x h
end Go.D
namespace Go.D
def zaw(c:Ab)(h:wt c≤eA):wt c.Psk≤eA∧wt c.Cn≤eA∧wt c.Fin≤eA∧wt c.C≤eA∧wt c.Fin.Cn≤eA∧wt c.Fin.Sn≤eA∧wt c.C.Sn≤eA∧wt c.C.Next≤eA∧wt c.C.Cur.Key≤eA:=by
 rw[vP]at h;have h1:=gH c.Fin;have h2:=XH c.C;have h3:=IN c.C.Cur;omega
def zdp(c:Ab)(h:wt c≤eA):Cs c=some (TP c):=by
 have hw:=zaw c h;simp only[Cs,fA,EP,tF,FA (p:=wt c.Fin≤eA) hw.2.2.1,FA (p:=wt c.C≤eA) hw.2.2.2.1,GI hw.2.2.2.2.1 hw.2.1,GI hw.2.2.2.2.2.2.1 hw.2.2.2.2.2.1];simp only[HC,Bool.cond_false_right,Bool.cond_false_left,Bool.cond_true_left,Bool.not_true,Bool.false_and,TP,zhz,Bool.not_or,Bool.not_not,Bool.and_assoc]
def RJ.ok{x}(_:sA [.v .Client] x){r}:sP x=some r→Cs x=some r:=YA λh=>zdp x h
def zeA(f:Ac):BG f (⟨0,0,[],[],0,[],[],0,0,[],[]⟩:Ac)=BL f:=by
 simp only[BG,BL,VM]
 grind
def zkw{c:Ab}(h:wt c.Fin≤eA):II c.Fin (⟨0,0,[],[],0,[],[],0,0,[],[]⟩:Ac)=some (BL c.Fin):=by
 rw[II,lH ⟨h,Nat.zero_le _⟩,zeA]
def zdk(c:Ab)(h:wt c≤eA):Ct c=some (BP c):=by
 have hw:=zaw c h;simp only[Ct,fA,PU,zkw hw.2.2.1,lB,tF,TI,sP,FA (p:=wt c.C≤eA) hw.2.2.2.1,FA h];simp only[HC,Bool.cond_false_right,Bool.cond_false_left,Bool.cond_true_left,Bool.not_true,Bool.false_and,BP,Bool.not_or,Bool.not_not,Bool.and_assoc]
def QJ.ok{x}(_:sA [.v .Client] x){r}:UM x=some r→Ct x=some r:=YA λh=>zdk x h
end Go.D
namespace Go.D
end Go.D
