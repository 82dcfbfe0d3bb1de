/-
 Sizes of the program's data.
-/
import Derived.Test.YtdmiplkjdpcbeaaGreatN2
namespace Go.D
instance:Wt G.Credit:=⟨fun x=>wt x.A⟩
instance:Wt G.Frame:=⟨fun x=>wt x.Cn+wt x.Sn+wt x.Cookie+wt x.Proof+wt x.Body+wt x.Tag⟩
theorem zG (x:G.Frame):wt x=wt x.Cn+wt x.Sn+wt x.Cookie+wt x.Proof+wt x.Body+wt x.Tag:=rfl
instance:Wt G.Timer:=⟨fun _=>0⟩
theorem gV (x:G.Timer):wt x=0:=rfl
instance:Wt G.Client:=⟨fun x=>wt x.Psk+wt x.At+wt x.Cn+wt x.Fin+wt x.C+wt x.T+wt x.R⟩
theorem JM (x:G.Client):wt x=wt x.Psk+wt x.At+wt x.Cn+wt x.Fin+wt x.C+wt x.T+wt x.R:=rfl
instance:Wt G.Jar:=⟨fun x=>wt x.Secret⟩
theorem fV (x:G.Jar):wt x=wt x.Secret:=rfl
instance:Wt G.Dice:=⟨fun x=>wt x.Seed⟩
theorem KM (x:G.Dice):wt x=wt x.Seed:=rfl
instance:Wt G.Cand:=⟨fun x=>wt x.A+wt x.Draw⟩
theorem zcj (x:G.Cand):wt x=wt x.A+wt x.Draw:=rfl
instance:Wt G.Paths:=⟨fun x=>wt x.At+wt x.Cands⟩
theorem aK (x:G.Paths):wt x=wt x.At+wt x.Cands:=rfl
instance:Wt G.Sess:=⟨fun x=>wt x.Cn+wt x.Sn+wt x.C+wt x.P⟩
theorem TI (x:G.Sess):wt x=wt x.Cn+wt x.Sn+wt x.C+wt x.P:=rfl
instance:Wt G.Tab:=⟨fun x=>wt x.L⟩
theorem nH (x:G.Tab):wt x=wt x.L:=rfl
instance:Wt G.Server:=⟨fun x=>wt x.Psks+wt x.J+wt x.D+wt x.T+wt x.Cr⟩
theorem LM (x:G.Server):wt x=wt x.Psks+wt x.J+wt x.D+wt x.T+wt x.Cr:=rfl
instance:Wt G.Wire:=⟨fun x=>wt x.From+wt x.To+wt x.B⟩
theorem zhb (x:G.Wire):wt x=wt x.From+wt x.To+wt x.B:=rfl
instance:Wt G.World:=⟨fun x=>wt x.Clients+wt x.S+wt x.D+wt x.Seen+wt x.Known+wt x.Notes⟩
theorem IP (x:G.World):wt x=wt x.Clients+wt x.S+wt x.D+wt x.Seen+wt x.Known+wt x.Notes:=rfl
end Go.D
namespace Go.D
noncomputable section
def pB (i:Int):G.Addr:=if 0≤i∧i≤255 then ⟨167772160+i,7000+i⟩ else ⟨0,0⟩
def oI:G.Addr:=pB 0
def MC (a b:G.Addr):Bool:=a.Host==b.Host&&a.Port==b.Port
def tJ (n k:Int):Bool:=n==0||n==k
def NE (b:List UInt8) (n:Int):Bool:=tJ (b.length:Int) n
def AA (n:G.Note):Bool:=iA n.Kind 1 17&&iA n.Id 0 9&&iA n.Role 0 1&&NE n.Cn 12&&NE n.Sn 12&&iA n.Epoch 0 4294967295&&iA n.Seq 0 281474976710655&&decide ((n.Body.length:Int)≤100)&&NE n.Key 32&&oB n.A&&iA n.Now 0 1000000
def oS (w:G.World) (a:G.Addr):Int:=bif MC a oI then 0 else match w.Clients.find? fun c=>MC c.At a with
 | some c=>c.Id
 | none=> -1
def eO (w:G.World) (a:G.Addr):Option Int:=pt (wt w≤bA) (oS w a)
def xE (j:G.Jar):Bool:=(j.Secret.length:Int)==32
def tC (d:G.Dice):Bool:=iA (d.Seed.length:Int) 1 32&&iA d.N 0 10000
def yJ (t:G.Tab):Int:=t.L.foldl (fun s e=>bif e.Dead then s else cA .i64 s 1) 0
def VG (t:G.Tab):Option Int:=pt (wt t≤bA) (yJ t)
def zE (c:G.Chan):Bool:=c.Role==0&&(c.Sn.length:Int)==0&&WE c.Cur&&WE c.Old&&!c.HasOld&&c.Until==0&&(c.Next.length:Int)==0
def AJ (c:G.Chan):Option Bool:=pt (wt c≤bA) (zE c)
def wK (p:G.Paths) (i:Nat):Bool:=(p.Cands[i]?).any fun e=>!oB e.A||!MB e.Draw||!iA e.Until 0 1000006||MC e.A p.At||YA i fun j=>(p.Cands[j]?).any fun d=>MC d.A e.A
def sD (p:G.Paths):Bool:=oB p.At&&decide ((p.Cands.length:Int)≤3)&&!(YA p.Cands.length (wK p))
def eH (s:G.Sess):Bool:=iA s.Id 1 9&&MB s.Cn&&MB s.Sn&&iA s.Tick 0 1000000&&bif s.Dead then zE s.C&&MC s.P.At ⟨0,0⟩&&(s.P.Cands.length:Int)==0&&s.Last==0
 else MG s.C&&s.C.Role==1&&s.C.Sn==s.Sn&&sD s.P&&iA s.Last 0 1000000
def XD (s:G.Sess):Option Bool:=pt (wt s≤bA) (eH s)
def nI (t:G.Tab) (b:List UInt8) (i:Nat):Bool:=(t.L[i]?).any fun e=>e.Sn==b
def kF (t:G.Tab) (b:List UInt8):Int:=IF t.L.length (nI t b)
def pD (t:G.Tab) (b:List UInt8):Option Int:=pt (wt t≤bA∧wt b≤bA) (kF t b)
def FI (t:G.Tab) (i:Nat):Bool:=(t.L[i]?).any fun e=>!eH e||YA i (nI t e.Sn)
def vG (t:G.Tab):Bool:=iA t.Cap 1 6&&decide ((t.L.length:Int)≤12)&&decide (yJ t≤t.Cap)&&!(YA t.L.length (FI t))
def kH (t:G.Tab):Option Bool:=pt (wt t≤bA) (vG t)
def dG (l:List G.Credit) (a:G.Addr) (i:Nat):Bool:=(l[i]?).any fun c=>MC c.A a
def BB (l:List G.Credit) (a:G.Addr):Int:=IF l.length (dG l a)
def cN (l:List G.Credit) (i:Nat):Bool:=(l[i]?).any fun c=>!oB c.A||!iA c.Got 0 1000000||!iA c.Sent 0 (LB .i64 3 c.Got)||YA i (dG l c.A)
def SD (l:List G.Credit):Bool:=decide ((l.length:Int)≤8)&&!(YA l.length (cN l))
def mC (b:List UInt8):Bool:=iA (b.length:Int) 1 32
def cD (s:G.Server):Bool:=iA (s.Psks.length:Int) 1 9&&xE s.J&&tC s.D&&vG s.T&&SD s.Cr&&!(s.Psks.any fun b=>!mC b)&&!(s.T.L.any fun e=>decide (e.Id>(s.Psks.length:Int)))
def dD (s:G.Server):Option Bool:=pt (wt s≤bA) (cD s)
def lH (w:G.Wire):Bool:=oB w.From&&oB w.To&&decide ((w.B.length:Int)≤200)
def yG (l:List G.Wire):Bool:=!(l.any fun w=>!lH w)&&decide ((l.length:Int)≤90)
def dH (f g:G.Frame):Bool:=f.Kind==g.Kind&&f.Id==g.Id&&f.Tick==g.Tick&&f.Epoch==g.Epoch&&f.Seq==g.Seq&&f.Cn==g.Cn&&f.Sn==g.Sn&&f.Cookie==g.Cookie&&f.Proof==g.Proof&&f.Body==g.Body&&f.Tag==g.Tag
def EJ (f g:G.Frame):Option Bool:=pt (wt f≤bA∧wt g≤bA) (dH f g)
def lG (t:G.Timer):Bool:=t.On==false&&t.Due==0&&t.Wait==0&&t.Tries==0
def wD (t:G.Timer):Bool:=bif t.On then iA t.Due 0 1000008&&(t.Wait==1||t.Wait==2||t.Wait==4||t.Wait==8)&&iA t.Tries 1 5 else lG t
def AE (f:G.Frame):Bool:=f.Kind==0&&f.Id==0&&(f.Cn.length:Int)==0&&(f.Sn.length:Int)==0&&f.Tick==0&&(f.Cookie.length:Int)==0&&(f.Proof.length:Int)==0&&f.Epoch==0&&f.Seq==0&&(f.Body.length:Int)==0&&(f.Tag.length:Int)==0
def GC (k:Int):Bool:=iA k 4 8
def DF (k n:Int):Bool:=bif k==4 then decide (n≤40) else bif k==5||k==6 then n==12 else n==4
def qD (f:G.Frame):Bool:=
 bif GC f.Kind then f.Id==0&&(f.Cn.length:Int)==0&&(f.Sn.length:Int)==12&&f.Tick==0&&(f.Cookie.length:Int)==0&&(f.Proof.length:Int)==0&&iA f.Epoch 0 4294967295&&iA f.Seq 0 281474976710655&&DF f.Kind (f.Body.length:Int)&&(f.Tag.length:Int)==16
 else f.Epoch==0&&f.Seq==0&&(f.Body.length:Int)==0&&(f.Tag.length:Int)==0&&(f.Cn.length:Int)==12&&
  bif f.Kind==1 then iA f.Id 1 9&&(f.Sn.length:Int)==0&&f.Tick==0&&(f.Cookie.length:Int)==0&&(f.Proof.length:Int)==0
  else bif f.Kind==2 then f.Id==0&&(f.Sn.length:Int)==12&&iA f.Tick 0 1000000&&(f.Cookie.length:Int)==16&&(f.Proof.length:Int)==0
  else f.Kind==3&&iA f.Id 1 9&&(f.Sn.length:Int)==12&&iA f.Tick 0 1000000&&(f.Cookie.length:Int)==16&&(f.Proof.length:Int)==16
def jR (f:G.Frame):Option Bool:=pt (wt f≤bA) (qD f)
def BK (c:G.Client):Bool:=MB c.Cn&&c.Fin.Kind==3&&qD c.Fin&&c.Fin.Id==c.Id&&c.Fin.Cn==c.Cn&&MG c.C&&c.C.Role==0&&c.C.Sn==c.Fin.Sn&&c.C.Cur.N==0&&!c.C.HasOld&&(c.C.Next.length:Int)==0
def dR (c:G.Client):Option Bool:=pt (wt c≤bA) (BK c)
def LE (c:G.Client):Bool:=iA c.Id 1 9&&mC c.Psk&&oB c.At&&
 bif c.St==0 then (c.Cn.length:Int)==0&&AE c.Fin&&zE c.C&&lG c.T&&lG c.R&&c.Last==0
 else bif c.St==1 then MB c.Cn&&AE c.Fin&&zE c.C&&c.T.On&&wD c.T&&lG c.R&&c.Last==0
 else bif c.St==2 then BK c&&c.T.On&&wD c.T&&lG c.R&&c.Last==0
 else c.St==3&&MB c.Cn&&AE c.Fin&&MG c.C&&c.C.Role==0&&lG c.T&&wD c.R&&c.R.On==decide ((c.C.Next.length:Int)>0)&&iA c.Last 0 1000000
def dE (c:G.Client):Option Bool:=pt (wt c≤bA) (LE c)
def iI (w:G.World) (i:Nat):Bool:=(w.Clients[i]?).any fun c=>(w.S.Psks[i]?).any fun p=>!LE c||c.Id !=((i+1:Nat):Int)||!(c.Psk==p)
def VF (w:G.World):Bool:=iA w.Now 0 1000000&&(w.Clients.length:Int)==2&&cD w.S&&(w.S.Psks.length:Int)==2&&tC w.D&&yG w.Seen&&decide ((w.Known.length:Int)≤12)&&
 !(YA 2 (iI w))&&!(w.Known.any fun b=>(b.length:Int) !=32)&&!(w.Notes.any fun n=>!AA n)
def SI (w:G.World):Option Bool:=pt (wt w≤bA) (VF w)
def UQ:G.Ep:=⟨0,[],0,⟨0,[]⟩⟩
def zsR:G.Sess:=⟨0,[],[],⟨0,[],UQ,UQ,false,0,[]⟩,⟨⟨0,0⟩,[]⟩,0,0,false⟩
def JE (w:G.World) (c:G.Client):Option G.Sess:=bif c.St==3 then (if 0≤kF w.S.T c.C.Sn then (w.S.T.L[(kF w.S.T c.C.Sn).toNat]?).filter (fun s=>!s.Dead) else none) else none
def GS (w:G.World) (c:G.Client):G.Client × G.Sess × Bool:=match JE w c with
 | some s=>(c,s,true)
 | none=>(c,zsR,false)
def HJ (w:G.World) (id:Int):Option (G.Client × G.Sess × Bool):=Option.bind (pt (wt w≤bA∧1≤id∧id≤w.Clients.length) ()) fun _=>(w.Clients[(id - 1).toNat]?).map (GS w)
def zbi (c s:G.Chan):Bool:=bif c.Cur.N==s.Cur.N&&c.Cur.Key==s.Cur.Key then decide (c.Cur.Win.Top<s.Cur.Seq)&&decide (s.Cur.Win.Top<c.Cur.Seq)
 else s.Cur.N==cA .i64 c.Cur.N 1&&c.Next==s.Cur.Key&&s.HasOld&&s.Until== -1&&s.Old.Key==c.Cur.Key&&decide (s.Old.Win.Top<c.Cur.Seq)&&decide (c.Cur.Win.Top<s.Old.Seq)
def fN (w:G.World) (id:Int):Bool:=VF w&&iA id 1 2&&(w.Clients[(id - 1).toNat]?).any fun c=>(JE w c).all fun s=>c.Cn==s.Cn&&zbi c.C s.C
def xH (w:G.World) (id:Int):Option Bool:=pt (wt w≤bA) (fN w id)
end
end Go.D
namespace Go.D
open Option renaming bind → ob
noncomputable section
def hP.raw (a0:Int) (a1:Int):Option Bool:=
 aA (fun (y1:Bool)=>
 some y1) fun k2=>
 cond (a0==0)
 (k2 true)
 (k2 (a0==a1))
def LS.raw (a0:G.Addr):Option Bool:=
 aA (fun (y1:Bool)=>
 some y1) fun k2=>
 cond ((iA a0.Host 0 4294967295))
 (k2 (iA a0.Port 0 65535))
 (k2 false)
def ML.raw (a0:G.Note):Option Bool:=
 aA (fun (y1:Bool)=>
 some y1) fun k2=>
 cond ((iA a0.Kind 1 17))
 (cond ((iA a0.Id 0 9))
 (cond ((iA a0.Role 0 1))
 (cond ((tJ (a0.Cn.length:Int) 12))
 (cond ((tJ (a0.Sn.length:Int) 12))
 (cond ((iA a0.Epoch 0 4294967295))
 (cond ((iA a0.Seq 0 281474976710655))
 (cond (decide ((a0.Body.length:Int)≤100))
 (cond ((tJ (a0.Key.length:Int) 32))
 (cond ((oB a0.A))
 (k2 (iA a0.Now 0 1000000))
 (k2 false))
 (k2 false))
 (k2 false))
 (k2 false))
 (k2 false))
 (k2 false))
 (k2 false))
 (k2 false))
 (k2 false))
 (k2 false)
def uN.raw (a0:List UInt8) (a1:Int):Option Bool:=
 aA (fun (y1:Bool)=>
 some y1) fun k2=>
 cond ((a0.length:Int)==0)
 (k2 true)
 (k2 ((a0.length:Int)==a1))
def tR.raw (a0:G.Addr):Option Bool:=
 aA (fun (y1:Bool)=>
 some y1) fun k2=>
 cond ((iA a0.Host 0 4294967295))
 (k2 (iA a0.Port 0 65535))
 (k2 false)
def NK.raw (a0:G.Note):Option Bool:=
 aA (fun (y1:Bool)=>
 some y1) fun k2=>
 cond ((iA a0.Kind 1 17))
 (cond ((iA a0.Id 0 9))
 (cond ((iA a0.Role 0 1))
 (cond ((iA a0.Epoch 0 4294967295))
 (cond ((iA a0.Seq 0 281474976710655))
 (cond ((iA a0.Now 0 1000000))
 (cond ((NE a0.Cn 12))
 (cond ((NE a0.Sn 12))
 (cond (decide ((a0.Body.length:Int)≤100))
 (cond ((NE a0.Key 32))
 (k2 (oB a0.A))
 (k2 false))
 (k2 false))
 (k2 false))
 (k2 false))
 (k2 false))
 (k2 false))
 (k2 false))
 (k2 false))
 (k2 false))
 (k2 false)
def qT.raw (a0:Int):Option G.Addr:=
 cond (!(iA a0 0 255))
 (some (⟨0,0⟩:G.Addr))
 (some (⟨cA .i64 167772160 a0,cA .i64 7000 a0⟩:G.Addr))
def kT.raw:Option G.Addr:=
 let r1:G.Addr:=pB 0
 some r1
def OL.raw (a0:G.World) (a1:G.Addr):Option Int:=
 let r1:G.Addr:=oI
 let x2:Bool:=cond (a1.Host==r1.Host) (cond (a1.Port==r1.Port) (true) false) false
 cond (x2)
 (some 0)
 (aA (fun (y3:Unit)=>
 some (-1)) fun k4=>
 tA FU (fun (x5:Int) k6=>
 cond (decide (x5<(a0.Clients.length:Int)))
 (ob (pA a0.Clients x5) fun e7=>
 let x8:Bool:=cond (e7.At.Host==a1.Host) (cond (e7.At.Port==a1.Port) (true) false) false
 cond (x8)
 (ob (pA a0.Clients x5) fun e9=>
 some e9.Id)
 (k6 (cA .i64 x5 1)))
 (k4 ())) 0)
def uR.raw (a0:G.Dice):Option Bool:=
 aA (fun (y1:Bool)=>
 some y1) fun k2=>
 let r3:Bool:=iA (a0.Seed.length:Int) 1 32
 cond (r3)
 (k2 (iA a0.N 0 10000))
 (k2 false)
def yR.raw (a0:G.Jar):Option Bool:=
 some ((a0.Secret.length:Int)==32)
def zR.raw (a0:G.Tab):Option Int:=
 aA (fun (y1:Int)=>
 some y1) fun k2=>
 tA FU (fun (x3:Int × Int) k4=>
 cond (decide (x3.2<(a0.L.length:Int)))
 (ob (pA a0.L x3.2) fun e5=>
 aA (fun (y6:Int)=>
 k4 (y6,(cA .i64 x3.2 1))) fun k7=>
 cond (!e5.Dead)
 (k7 (cA .i64 x3.1 1))
 (k7 x3.1))
 (k2 x3.1)) (0,0)
def YK.raw (a0:G.Chan):Option Bool:=
 aA (fun (y1:Bool)=>
 some y1) fun k2=>
 cond (a0.Role==0)
 (cond ((a0.Sn.length:Int)==0)
 (ob (DJ a0.Cur (⟨0,[],0,(⟨0,[]⟩:G.Win)⟩:G.Ep)) fun r3=>
 cond (r3)
 (ob (DJ a0.Old (⟨0,[],0,(⟨0,[]⟩:G.Win)⟩:G.Ep)) fun r4=>
 cond (r4)
 (cond (!a0.HasOld)
 (cond (a0.Until==0)
 (k2 ((a0.Next.length:Int)==0))
 (k2 false))
 (k2 false))
 (k2 false))
 (k2 false))
 (k2 false))
 (k2 false)
def OK.raw (a0:G.Paths):Option Bool:=
 aA (fun (y1:Bool)=>
 cond (y1)
 (some false)
 (aA (fun (y3:Unit)=>
 some true) fun k4=>
 tA FU (fun (x5:Int) k6=>
 cond (decide (x5<(a0.Cands.length:Int)))
 (ob (pA a0.Cands x5) fun e7=>
 aA (fun (y8:Bool)=>
 cond (y8)
 (some false)
 (cond (decide (0≤(0:Int))&&decide ((0:Int)≤x5)&&decide (x5≤(a0.Cands.length:Int))) (let l11:List G.Cand:=List.take ((x5 - 0).toNat) (List.drop 0 a0.Cands)
 aA (fun (y12:Unit)=>
 k6 (cA .i64 x5 1)) fun k13=>
 tA FU (fun (x14:Int) k15=>
 cond (decide (x14<(l11.length:Int)))
 (ob (pA l11 x14) fun e16=>
 let x17:Bool:=cond (e16.A.Host==e7.A.Host) (cond (e16.A.Port==e7.A.Port) (true) false) false
 cond (x17)
 (some false)
 (k15 (cA .i64 x14 1)))
 (k13 ())) 0) none)) fun k9=>
 cond (!(oB e7.A))
 (k9 true)
 (let x10:Bool:=cond (e7.A.Host==a0.At.Host) (cond (e7.A.Port==a0.At.Port) (true) false) false
 cond (x10)
 (k9 true)
 (cond (!(MB e7.Draw))
 (k9 true)
 (k9 (!(iA e7.Until 0 1000006))))))
 (k4 ())) 0)) fun k2=>
 cond (!(oB a0.At))
 (k2 true)
 (k2 (decide ((a0.Cands.length:Int)>3)))
def QK.raw (a0:G.Sess):Option Bool:=
 aA (fun (y1:Bool)=>
 cond (y1)
 (some false)
 (cond (a0.Dead)
 (aA (fun (y3:Bool)=>
 some y3) fun k4=>
 ob (AJ a0.C) fun r5=>
 cond (r5)
 (let x6:Bool:=cond (a0.P.At.Host==0) (cond (a0.P.At.Port==0) (true) false) false
 cond (x6)
 (cond ((a0.P.Cands.length:Int)==0)
 (k4 (a0.Last==0))
 (k4 false))
 (k4 false))
 (k4 false))
 (aA (fun (y7:Bool)=>
 some y7) fun k8=>
 ob (yC a0.C) fun r9=>
 cond (r9)
 (cond (a0.C.Role==1)
 (ob (eB a0.C.Sn a0.Sn) fun r10=>
 cond (r10)
 (cond ((sD a0.P))
 (k8 (iA a0.Last 0 1000000))
 (k8 false))
 (k8 false))
 (k8 false))
 (k8 false)))) fun k2=>
 cond (!(iA a0.Id 1 9))
 (k2 true)
 (cond (!(MB a0.Cn))
 (k2 true)
 (cond (!(MB a0.Sn))
 (k2 true)
 (k2 (!(iA a0.Tick 0 1000000)))))
def wR.raw (a0:G.Tab) (a1:List UInt8):Option Int:=
 aA (fun (y1:Unit)=>
 some (-1)) fun k2=>
 tA FU (fun (x3:Int) k4=>
 cond (decide (x3<(a0.L.length:Int)))
 (ob (pA a0.L x3) fun e5=>
 ob (eB e5.Sn a1) fun r6=>
 cond (r6)
 (some x3)
 (k4 (cA .i64 x3 1)))
 (k2 ())) 0
def SK.raw (a0:G.Tab):Option Bool:=
 aA (fun (y1:Bool)=>
 cond (y1)
 (some false)
 (aA (fun (y4:Unit)=>
 some true) fun k5=>
 tA FU (fun (x6:Int) k7=>
 cond (decide (x6<(a0.L.length:Int)))
 (ob (pA a0.L x6) fun e8=>
 aA (fun (y9:Bool)=>
 cond (y9)
 (some false)
 (k7 (cA .i64 x6 1))) fun k10=>
 ob (XD e8) fun r11=>
 cond (!r11)
 (k10 true)
 (ob (pD a0 e8.Sn) fun r12=>
 k10 (decide (r12<x6))))
 (k5 ())) 0)) fun k2=>
 cond (!(iA a0.Cap 1 6))
 (k2 true)
 (cond (decide ((a0.L.length:Int)>12))
 (k2 true)
 (ob (VG a0) fun r3=>
 k2 (decide (r3>a0.Cap))))
def SR.raw (a0:List G.Credit) (a1:G.Addr):Option Int:=
 aA (fun (y1:Unit)=>
 some (-1)) fun k2=>
 tA FU (fun (x3:Int) k4=>
 cond (decide (x3<(a0.length:Int)))
 (ob (pA a0 x3) fun e5=>
 let x6:Bool:=cond (e5.A.Host==a1.Host) (cond (e5.A.Port==a1.Port) (true) false) false
 cond (x6)
 (some x3)
 (k4 (cA .i64 x3 1)))
 (k2 ())) 0
def IK.raw (a0:List G.Credit):Option Bool:=
 cond (decide ((a0.length:Int)>8))
 (some false)
 (aA (fun (y1:Unit)=>
 some true) fun k2=>
 tA FU (fun (x3:Int) k4=>
 cond (decide (x3<(a0.length:Int)))
 (ob (pA a0 x3) fun e5=>
 aA (fun (y6:Bool)=>
 cond (y6)
 (some false)
 (k4 (cA .i64 x3 1))) fun k7=>
 cond (!(oB e5.A))
 (k7 true)
 (cond (!(iA e5.Got 0 1000000))
 (k7 true)
 (let r8:Bool:=iA e5.Sent 0 (LB .i64 3 e5.Got)
 cond (!r8)
 (k7 true)
 (k7 (decide ((BB a0 e5.A)<x3))))))
 (k2 ())) 0)
def AR.raw (a0:List UInt8):Option Bool:=
 some (iA (a0.length:Int) 1 32)
def PK.raw (a0:G.Server):Option Bool:=
 aA (fun (y1:Bool)=>
 cond (y1)
 (some false)
 (aA (fun (y4:Unit)=>
 aA (fun (y9:Unit)=>
 some true) fun k10=>
 tA FU (fun (x11:Int) k12=>
 cond (decide (x11<(a0.T.L.length:Int)))
 (ob (pA a0.T.L x11) fun e13=>
 cond (decide (e13.Id>(a0.Psks.length:Int)))
 (some false)
 (k12 (cA .i64 x11 1)))
 (k10 ())) 0) fun k5=>
 tA FU (fun (x6:Int) k7=>
 cond (decide (x6<(a0.Psks.length:Int)))
 (ob (pA a0.Psks x6) fun e8=>
 cond (!(mC e8))
 (some false)
 (k7 (cA .i64 x6 1)))
 (k5 ())) 0)) fun k2=>
 cond (!(iA (a0.Psks.length:Int) 1 9))
 (k2 true)
 (cond (!(xE a0.J))
 (k2 true)
 (cond (!(tC a0.D))
 (k2 true)
 (ob (kH a0.T) fun r3=>
 cond (!r3)
 (k2 true)
 (k2 (!(SD a0.Cr))))))
def cL.raw (a0:G.Frame) (a1:G.Frame):Option Bool:=
 aA (fun (y1:Bool)=>
 some y1) fun k2=>
 cond (a0.Kind==a1.Kind)
 (cond (a0.Id==a1.Id)
 (cond (a0.Tick==a1.Tick)
 (cond (a0.Epoch==a1.Epoch)
 (cond (a0.Seq==a1.Seq)
 (ob (eB a0.Cn a1.Cn) fun r3=>
 cond (r3)
 (ob (eB a0.Sn a1.Sn) fun r4=>
 cond (r4)
 (ob (eB a0.Cookie a1.Cookie) fun r5=>
 cond (r5)
 (ob (eB a0.Proof a1.Proof) fun r6=>
 cond (r6)
 (ob (eB a0.Body a1.Body) fun r7=>
 cond (r7)
 (ob (eB a0.Tag a1.Tag) fun r8=>
 k2 r8)
 (k2 false))
 (k2 false))
 (k2 false))
 (k2 false))
 (k2 false))
 (k2 false))
 (k2 false))
 (k2 false))
 (k2 false))
 (k2 false)
def TK.raw (a0:G.Timer):Option Bool:=
 cond (!a0.On)
 (let x1:Bool:=cond (a0.On==false) (cond (a0.Due==0) (cond (a0.Wait==0) (cond (a0.Tries==0) (true) false) false) false) false
 some x1)
 (aA (fun (y2:Bool)=>
 aA (fun (y4:Bool)=>
 some y4) fun k5=>
 cond ((iA a0.Due 0 1000008))
 (cond (y2)
 (k5 (iA a0.Tries 1 5))
 (k5 false))
 (k5 false)) fun k3=>
 cond (a0.Wait==1)
 (k3 true)
 (cond (a0.Wait==2)
 (k3 true)
 (cond (a0.Wait==4)
 (k3 true)
 (k3 (a0.Wait==8)))))
def BR.raw (a0:Int):Option Bool:=
 some (iA a0 4 8)
def tN.raw (a0:Int) (a1:Int):Option Bool:=
 cond (a0==4)
 (some (decide (a1≤40)))
 (aA (fun (y1:Bool)=>
 cond (y1)
 (some (a1==12))
 (some (a1==4))) fun k2=>
 cond (a0==5)
 (k2 (a0==5))
 (k2 (a0==6)))
def MK.raw (a0:G.Frame):Option Bool:=
 aA (fun (y1:Bool × G.Frame)=>
 aA (fun (y18:Bool)=>
 some y18) fun k19=>
 cond (y1.1)
 (ob (EJ a0 y1.2) fun r20=>
 k19 r20)
 (k19 false)) fun k2=>
 cond (a0.Kind==1)
 (aA (fun (y3:Bool)=>
 k2 (y3,(⟨a0.Kind,a0.Id,a0.Cn,[],0,[],[],0,0,[],[]⟩:G.Frame))) fun k4=>
 cond ((iA a0.Id 1 9))
 (k4 (MB a0.Cn))
 (k4 false))
 (aA (fun (y5:Bool × G.Frame)=>
 k2 (y5.1,y5.2)) fun k6=>
 cond (a0.Kind==2)
 (aA (fun (y7:Bool)=>
 k6 (y7,(⟨a0.Kind,0,a0.Cn,a0.Sn,a0.Tick,a0.Cookie,[],0,0,[],[]⟩:G.Frame))) fun k8=>
 cond ((MB a0.Cn))
 (cond ((MB a0.Sn))
 (cond ((iA a0.Tick 0 1000000))
 (k8 ((a0.Cookie.length:Int)==16))
 (k8 false))
 (k8 false))
 (k8 false))
 (aA (fun (y9:Bool × G.Frame)=>
 k6 (y9.1,y9.2)) fun k10=>
 cond (a0.Kind==3)
 (aA (fun (y11:Bool)=>
 k10 (y11,(⟨a0.Kind,a0.Id,a0.Cn,a0.Sn,a0.Tick,a0.Cookie,a0.Proof,0,0,[],[]⟩:G.Frame))) fun k12=>
 cond ((iA a0.Id 1 9))
 (cond ((MB a0.Cn))
 (cond ((MB a0.Sn))
 (cond ((iA a0.Tick 0 1000000))
 (cond ((a0.Cookie.length:Int)==16)
 (k12 ((a0.Proof.length:Int)==16))
 (k12 false))
 (k12 false))
 (k12 false))
 (k12 false))
 (k12 false))
 (aA (fun (y13:Bool × G.Frame)=>
 k10 (y13.1,y13.2)) fun k14=>
 cond ((GC a0.Kind))
 (aA (fun (y15:Bool)=>
 k14 (y15,(⟨a0.Kind,0,[],a0.Sn,0,[],[],a0.Epoch,a0.Seq,a0.Body,a0.Tag⟩:G.Frame))) fun k16=>
 cond ((MB a0.Sn))
 (cond ((iA a0.Epoch 0 4294967295))
 (cond ((iA a0.Seq 0 281474976710655))
 (cond ((a0.Tag.length:Int)==16)
 (let r17:Bool:=DF a0.Kind (a0.Body.length:Int)
 k16 r17)
 (k16 false))
 (k16 false))
 (k16 false))
 (k16 false))
 (k14 (false,(⟨a0.Kind,0,[],[],0,[],[],0,0,[],[]⟩:G.Frame))))))
def XK.raw (a0:G.Client):Option Bool:=
 aA (fun (y1:Bool)=>
 cond (y1)
 (some false)
 (aA (fun (y5:Bool)=>
 some y5) fun k6=>
 ob (yC a0.C) fun r7=>
 cond (r7)
 (cond (a0.C.Role==0)
 (ob (eB a0.C.Sn a0.Fin.Sn) fun r8=>
 cond (r8)
 (cond (a0.C.Cur.N==0)
 (cond (!a0.C.HasOld)
 (k6 ((a0.C.Next.length:Int)==0))
 (k6 false))
 (k6 false))
 (k6 false))
 (k6 false))
 (k6 false))) fun k2=>
 cond (!(MB a0.Cn))
 (k2 true)
 (cond (a0.Fin.Kind !=3)
 (k2 true)
 (ob (jR a0.Fin) fun r3=>
 cond (!r3)
 (k2 true)
 (cond (a0.Fin.Id !=a0.Id)
 (k2 true)
 (ob (eB a0.Fin.Cn a0.Cn) fun r4=>
 k2 (!r4)))))
def HK.raw (a0:G.Client):Option Bool:=
 aA (fun (y1:Bool)=>
 cond (y1)
 (some false)
 (ob (EJ a0.Fin (⟨0,0,[],[],0,[],[],0,0,[],[]⟩:G.Frame)) fun r3=>
 let x4:Bool:=cond (a0.T.On==false) (cond (a0.T.Due==0) (cond (a0.T.Wait==0) (cond (a0.T.Tries==0) (true) false) false) false) false
 cond (a0.St==0)
 (aA (fun (y5:Bool)=>
 some y5) fun k6=>
 cond ((a0.Cn.length:Int)==0)
 (cond (r3)
 (ob (AJ a0.C) fun r7=>
 cond (r7)
 (cond (x4)
 (let x8:Bool:=cond (a0.R.On==false) (cond (a0.R.Due==0) (cond (a0.R.Wait==0) (cond (a0.R.Tries==0) (true) false) false) false) false
 cond (x8)
 (k6 (a0.Last==0))
 (k6 false))
 (k6 false))
 (k6 false))
 (k6 false))
 (k6 false))
 (cond (a0.St==1)
 (aA (fun (y9:Bool)=>
 some y9) fun k10=>
 cond ((MB a0.Cn))
 (cond (r3)
 (ob (AJ a0.C) fun r11=>
 cond (r11)
 (cond (a0.T.On)
 (cond ((wD a0.T))
 (let x12:Bool:=cond (a0.R.On==false) (cond (a0.R.Due==0) (cond (a0.R.Wait==0) (cond (a0.R.Tries==0) (true) false) false) false) false
 cond (x12)
 (k10 (a0.Last==0))
 (k10 false))
 (k10 false))
 (k10 false))
 (k10 false))
 (k10 false))
 (k10 false))
 (cond (a0.St==2)
 (aA (fun (y13:Bool)=>
 some y13) fun k14=>
 ob (dR a0) fun r15=>
 cond (r15)
 (cond (a0.T.On)
 (cond ((wD a0.T))
 (let x16:Bool:=cond (a0.R.On==false) (cond (a0.R.Due==0) (cond (a0.R.Wait==0) (cond (a0.R.Tries==0) (true) false) false) false) false
 cond (x16)
 (k14 (a0.Last==0))
 (k14 false))
 (k14 false))
 (k14 false))
 (k14 false))
 (cond (a0.St==3)
 (aA (fun (y17:Bool)=>
 some y17) fun k18=>
 cond ((MB a0.Cn))
 (cond (r3)
 (ob (yC a0.C) fun r19=>
 cond (r19)
 (cond (a0.C.Role==0)
 (cond (x4)
 (cond ((wD a0.R))
 (cond (a0.R.On==(decide ((a0.C.Next.length:Int)>0)))
 (k18 (iA a0.Last 0 1000000))
 (k18 false))
 (k18 false))
 (k18 false))
 (k18 false))
 (k18 false))
 (k18 false))
 (k18 false))
 (some false)))))) fun k2=>
 cond (!(iA a0.Id 1 9))
 (k2 true)
 (cond (!(mC a0.Psk))
 (k2 true)
 (k2 (!(oB a0.At))))
def US.raw (a0:G.Dice):Option Bool:=
 aA (fun (y1:Bool)=>
 some y1) fun k2=>
 let r3:Bool:=iA (a0.Seed.length:Int) 1 32
 cond (r3)
 (k2 (iA a0.N 0 10000))
 (k2 false)
def mT.raw (a0:G.Jar):Option Bool:=
 some ((a0.Secret.length:Int)==32)
def pT.raw (a0:G.Tab):Option Int:=
 aA (fun (y1:Int)=>
 some y1) fun k2=>
 tA FU (fun (x3:Int × Int) k4=>
 cond (decide (x3.2<(a0.L.length:Int)))
 (ob (pA a0.L x3.2) fun e5=>
 aA (fun (y6:Int)=>
 k4 (y6,(cA .i64 x3.2 1))) fun k7=>
 cond (!e5.Dead)
 (k7 (cA .i64 x3.1 1))
 (k7 x3.1))
 (k2 x3.1)) (0,0)
def mM.raw (a0:G.Chan):Option Bool:=
 aA (fun (y1:Bool)=>
 some y1) fun k2=>
 cond (a0.Role==0)
 (cond ((a0.Sn.length:Int)==0)
 (cond ((WE a0.Cur))
 (cond ((WE a0.Old))
 (cond (!a0.HasOld)
 (cond (a0.Until==0)
 (k2 ((a0.Next.length:Int)==0))
 (k2 false))
 (k2 false))
 (k2 false))
 (k2 false))
 (k2 false))
 (k2 false)
def PL.raw (a0:G.Paths):Option Bool:=
 aA (fun (y1:Bool)=>
 cond (y1)
 (some false)
 (aA (fun (y3:Unit)=>
 some true) fun k4=>
 tA FU (fun (x5:Int) k6=>
 cond (decide (x5<(a0.Cands.length:Int)))
 (ob (pA a0.Cands x5) fun e7=>
 aA (fun (y8:Bool)=>
 cond (y8)
 (some false)
 (aA (fun (y11:Unit)=>
 k6 (cA .i64 x5 1)) fun k12=>
 tA FU (fun (x13:Int) k14=>
 cond (decide (x13<x5))
 (ob (pA a0.Cands x13) fun e15=>
 let x16:Bool:=cond (e15.A.Host==e7.A.Host) (cond (e15.A.Port==e7.A.Port) (true) false) false
 cond (x16)
 (some false)
 (k14 (cA .i64 x13 1)))
 (k12 ())) 0)) fun k9=>
 cond (!(oB e7.A))
 (k9 true)
 (cond ((e7.Draw.length:Int) !=12)
 (k9 true)
 (cond (!(iA e7.Until 0 1000006))
 (k9 true)
 (let x10:Bool:=cond (e7.A.Host==a0.At.Host) (cond (e7.A.Port==a0.At.Port) (true) false) false
 k9 x10))))
 (k4 ())) 0)) fun k2=>
 cond (!(oB a0.At))
 (k2 true)
 (k2 (decide ((a0.Cands.length:Int)>3)))
def XL.raw (a0:G.Sess):Option Bool:=
 aA (fun (y1:Bool)=>
 cond (y1)
 (some false)
 (cond (a0.Dead)
 (aA (fun (y3:Bool)=>
 some y3) fun k4=>
 cond ((zE a0.C))
 (let r5:G.Addr:=pB (-1)
 let x6:Bool:=cond (a0.P.At.Host==r5.Host) (cond (a0.P.At.Port==r5.Port) (true) false) false
 cond (x6)
 (cond ((a0.P.Cands.length:Int)==0)
 (k4 (a0.Last==0))
 (k4 false))
 (k4 false))
 (k4 false))
 (aA (fun (y7:Bool)=>
 some y7) fun k8=>
 ob (yC a0.C) fun r9=>
 cond (r9)
 (cond (a0.C.Role==1)
 (ob (eB a0.C.Sn a0.Sn) fun r10=>
 cond (r10)
 (k8 (sD a0.P))
 (k8 false))
 (k8 false))
 (k8 false)))) fun k2=>
 cond (!(iA a0.Id 1 9))
 (k2 true)
 (cond ((a0.Cn.length:Int) !=12)
 (k2 true)
 (cond ((a0.Sn.length:Int) !=12)
 (k2 true)
 (cond (!(iA a0.Tick 0 1000000))
 (k2 true)
 (k2 (!(iA a0.Last 0 1000000))))))
def cT.raw (a0:G.Tab) (a1:List UInt8):Option Int:=
 aA (fun (y1:Unit)=>
 some (-1)) fun k2=>
 tA FU (fun (x3:Int) k4=>
 cond (decide (x3<(a0.L.length:Int)))
 (ob (pA a0.L x3) fun e5=>
 ob (eB e5.Sn a1) fun r6=>
 cond (r6)
 (some x3)
 (k4 (cA .i64 x3 1)))
 (k2 ())) 0
def aM.raw (a0:G.Tab):Option Bool:=
 aA (fun (y1:Bool)=>
 cond (y1)
 (some false)
 (aA (fun (y4:Unit)=>
 some true) fun k5=>
 tA FU (fun (x6:Int) k7=>
 cond (decide (x6<(a0.L.length:Int)))
 (aA (fun (y8:Bool)=>
 cond (y8)
 (some false)
 (k7 (cA .i64 x6 1))) fun k9=>
 ob (pA a0.L x6) fun e10=>
 ob (XD e10) fun r11=>
 cond (!r11)
 (k9 true)
 (ob (pA a0.L x6) fun e12=>
 ob (pD a0 e12.Sn) fun r13=>
 k9 (r13 !=x6)))
 (k5 ())) 0)) fun k2=>
 cond (!(iA a0.Cap 1 6))
 (k2 true)
 (cond (decide ((a0.L.length:Int)>12))
 (k2 true)
 (ob (VG a0) fun r3=>
 k2 (decide (r3>a0.Cap))))
def yL.raw (a0:List G.Credit):Option Bool:=
 cond (decide ((a0.length:Int)>8))
 (some false)
 (aA (fun (y1:Unit)=>
 some true) fun k2=>
 tA FU (fun (x3:Int) k4=>
 cond (decide (x3<(a0.length:Int)))
 (aA (fun (y5:Bool)=>
 cond (y5)
 (some false)
 (aA (fun (y12:Unit)=>
 k4 (cA .i64 x3 1)) fun k13=>
 tA FU (fun (x14:Int) k15=>
 cond (decide (x14<x3))
 (ob (pA a0 x14) fun e16=>
 ob (pA a0 x3) fun e17=>
 let x18:Bool:=cond (e16.A.Host==e17.A.Host) (cond (e16.A.Port==e17.A.Port) (true) false) false
 cond (x18)
 (some false)
 (k15 (cA .i64 x14 1)))
 (k13 ())) 0)) fun k6=>
 ob (pA a0 x3) fun e7=>
 cond (!(oB e7.A))
 (k6 true)
 (ob (pA a0 x3) fun e8=>
 cond (!(iA e8.Got 0 1000000))
 (k6 true)
 (ob (pA a0 x3) fun e9=>
 ob (pA a0 x3) fun e10=>
 let r11:Bool:=iA e9.Sent 0 (LB .i64 3 e10.Got)
 k6 (!r11))))
 (k2 ())) 0)
def tT.raw (a0:List UInt8):Option Bool:=
 some (iA (a0.length:Int) 1 32)
def CT.raw (a0:G.Server):Option Bool:=
 aA (fun (y1:Bool)=>
 cond (y1)
 (some false)
 (aA (fun (y4:Unit)=>
 aA (fun (y9:Unit)=>
 some true) fun k10=>
 tA FU (fun (x11:Int) k12=>
 cond (decide (x11<(a0.T.L.length:Int)))
 (ob (pA a0.T.L x11) fun e13=>
 cond (decide (e13.Id>(a0.Psks.length:Int)))
 (some false)
 (k12 (cA .i64 x11 1)))
 (k10 ())) 0) fun k5=>
 tA FU (fun (x6:Int) k7=>
 cond (decide (x6<(a0.Psks.length:Int)))
 (ob (pA a0.Psks x6) fun e8=>
 cond (!(mC e8))
 (some false)
 (k7 (cA .i64 x6 1)))
 (k5 ())) 0)) fun k2=>
 cond (!(iA (a0.Psks.length:Int) 1 9))
 (k2 true)
 (cond (!(xE a0.J))
 (k2 true)
 (cond (!(tC a0.D))
 (k2 true)
 (ob (kH a0.T) fun r3=>
 cond (!r3)
 (k2 true)
 (k2 (!(SD a0.Cr))))))
def UT.raw (a0:G.Wire):Option Bool:=
 aA (fun (y1:Bool)=>
 some y1) fun k2=>
 cond ((oB a0.From))
 (cond ((oB a0.To))
 (k2 (decide ((a0.B.length:Int)≤200)))
 (k2 false))
 (k2 false)
def VT.raw (a0:List G.Wire):Option Bool:=
 aA (fun (y1:Unit)=>
 some (decide ((a0.length:Int)≤90))) fun k2=>
 tA FU (fun (x3:Int) k4=>
 cond (decide (x3<(a0.length:Int)))
 (ob (pA a0 x3) fun e5=>
 cond (!(lH e5))
 (some false)
 (k4 (cA .i64 x3 1)))
 (k2 ())) 0
def bM.raw (a0:G.Timer):Option Bool:=
 cond (!a0.On)
 (let x1:Bool:=cond (a0.On==false) (cond (a0.Due==0) (cond (a0.Wait==0) (cond (a0.Tries==0) (true) false) false) false) false
 some x1)
 (aA (fun (y2:Bool)=>
 some y2) fun k3=>
 cond ((iA a0.Due 0 1000008))
 (cond (a0.Wait==1)
 (k3 (iA a0.Tries 1 5))
 (cond (a0.Wait==2)
 (k3 (iA a0.Tries 1 5))
 (cond (a0.Wait==4)
 (k3 (iA a0.Tries 1 5))
 (cond (a0.Wait==8)
 (k3 (iA a0.Tries 1 5))
 (k3 false)))))
 (k3 false))
def nM.raw (a0:G.Frame):Option Bool:=
 aA (fun (y1:Bool)=>
 some y1) fun k2=>
 cond (a0.Kind==0)
 (cond (a0.Id==0)
 (cond ((a0.Cn.length:Int)==0)
 (cond ((a0.Sn.length:Int)==0)
 (cond (a0.Tick==0)
 (cond ((a0.Cookie.length:Int)==0)
 (cond ((a0.Proof.length:Int)==0)
 (cond (a0.Epoch==0)
 (cond (a0.Seq==0)
 (cond ((a0.Body.length:Int)==0)
 (k2 ((a0.Tag.length:Int)==0))
 (k2 false))
 (k2 false))
 (k2 false))
 (k2 false))
 (k2 false))
 (k2 false))
 (k2 false))
 (k2 false))
 (k2 false))
 (k2 false)
def zT.raw (a0:Int):Option Bool:=
 some (iA a0 4 8)
def tP.raw (a0:Int) (a1:Int):Option Bool:=
 cond (a0==4)
 (some (decide (a1≤40)))
 (aA (fun (y1:Bool)=>
 cond (y1)
 (some (a1==12))
 (some (a1==4))) fun k2=>
 cond (a0==5)
 (k2 true)
 (k2 (a0==6)))
def GL.raw (a0:G.Frame):Option Bool:=
 cond ((GC a0.Kind))
 (aA (fun (y1:Bool)=>
 some y1) fun k2=>
 cond (a0.Id==0)
 (cond ((a0.Cn.length:Int)==0)
 (cond ((a0.Sn.length:Int)==12)
 (cond (a0.Tick==0)
 (cond ((a0.Cookie.length:Int)==0)
 (cond ((a0.Proof.length:Int)==0)
 (cond ((iA a0.Epoch 0 4294967295))
 (cond ((iA a0.Seq 0 281474976710655))
 (let r3:Bool:=DF a0.Kind (a0.Body.length:Int)
 cond (r3)
 (k2 ((a0.Tag.length:Int)==16))
 (k2 false))
 (k2 false))
 (k2 false))
 (k2 false))
 (k2 false))
 (k2 false))
 (k2 false))
 (k2 false))
 (k2 false))
 (aA (fun (y4:Bool)=>
 cond (y4)
 (some false)
 (cond (a0.Kind==1)
 (aA (fun (y6:Bool)=>
 some y6) fun k7=>
 cond ((iA a0.Id 1 9))
 (cond ((a0.Sn.length:Int)==0)
 (cond (a0.Tick==0)
 (cond ((a0.Cookie.length:Int)==0)
 (k7 ((a0.Proof.length:Int)==0))
 (k7 false))
 (k7 false))
 (k7 false))
 (k7 false))
 (cond (a0.Kind==2)
 (aA (fun (y8:Bool)=>
 some y8) fun k9=>
 cond (a0.Id==0)
 (cond ((a0.Sn.length:Int)==12)
 (cond ((iA a0.Tick 0 1000000))
 (cond ((a0.Cookie.length:Int)==16)
 (k9 ((a0.Proof.length:Int)==0))
 (k9 false))
 (k9 false))
 (k9 false))
 (k9 false))
 (cond (a0.Kind==3)
 (aA (fun (y10:Bool)=>
 some y10) fun k11=>
 cond ((iA a0.Id 1 9))
 (cond ((a0.Sn.length:Int)==12)
 (cond ((iA a0.Tick 0 1000000))
 (cond ((a0.Cookie.length:Int)==16)
 (k11 ((a0.Proof.length:Int)==16))
 (k11 false))
 (k11 false))
 (k11 false))
 (k11 false))
 (some false))))) fun k5=>
 cond (a0.Epoch !=0)
 (k5 true)
 (cond (a0.Seq !=0)
 (k5 true)
 (cond ((a0.Body.length:Int) !=0)
 (k5 true)
 (cond ((a0.Tag.length:Int) !=0)
 (k5 true)
 (k5 ((a0.Cn.length:Int) !=12))))))
def wL.raw (a0:G.Client):Option Bool:=
 aA (fun (y1:Bool)=>
 cond (y1)
 (some false)
 (cond (a0.St==0)
 (aA (fun (y3:Bool)=>
 some y3) fun k4=>
 cond ((a0.Cn.length:Int)==0)
 (cond ((AE a0.Fin))
 (cond ((zE a0.C))
 (cond (!a0.T.On)
 (cond (!a0.R.On)
 (k4 (a0.Last==0))
 (k4 false))
 (k4 false))
 (k4 false))
 (k4 false))
 (k4 false))
 (cond ((a0.Cn.length:Int) !=12)
 (some false)
 (cond (a0.St==3)
 (aA (fun (y5:Bool)=>
 some y5) fun k6=>
 cond ((AE a0.Fin))
 (ob (yC a0.C) fun r7=>
 cond (r7)
 (cond (a0.C.Role==0)
 (cond (!a0.T.On)
 (k6 (a0.R.On==(decide ((a0.C.Next.length:Int)>0))))
 (k6 false))
 (k6 false))
 (k6 false))
 (k6 false))
 (aA (fun (y8:Bool)=>
 cond (y8)
 (some false)
 (cond (a0.St==1)
 (aA (fun (y10:Bool)=>
 some y10) fun k11=>
 cond ((AE a0.Fin))
 (k11 (zE a0.C))
 (k11 false))
 (aA (fun (y12:Bool)=>
 some y12) fun k13=>
 cond (a0.St==2)
 (cond ((qD a0.Fin))
 (cond (a0.Fin.Kind==3)
 (cond (a0.Fin.Id==a0.Id)
 (ob (eB a0.Fin.Cn a0.Cn) fun r14=>
 cond (r14)
 (ob (yC a0.C) fun r15=>
 cond (r15)
 (cond (a0.C.Role==0)
 (ob (eB a0.C.Sn a0.Fin.Sn) fun r16=>
 cond (r16)
 (cond (a0.C.Cur.N==0)
 (cond (!a0.C.HasOld)
 (k13 ((a0.C.Next.length:Int)==0))
 (k13 false))
 (k13 false))
 (k13 false))
 (k13 false))
 (k13 false))
 (k13 false))
 (k13 false))
 (k13 false))
 (k13 false))
 (k13 false)))) fun k9=>
 cond (!a0.T.On)
 (k9 true)
 (cond (a0.R.On)
 (k9 true)
 (k9 (a0.Last !=0)))))))) fun k2=>
 cond (!(iA a0.Id 1 9))
 (k2 true)
 (cond (!(mC a0.Psk))
 (k2 true)
 (cond (!(oB a0.At))
 (k2 true)
 (cond (!(wD a0.T))
 (k2 true)
 (cond (!(wD a0.R))
 (k2 true)
 (k2 (!(iA a0.Last 0 1000000)))))))
def eM.raw (a0:G.World):Option Bool:=
 aA (fun (y1:Bool)=>
 cond (y1)
 (some false)
 (aA (fun (y4:Unit)=>
 aA (fun (y16:Unit)=>
 aA (fun (y21:Unit)=>
 some true) fun k22=>
 tA FU (fun (x23:Int) k24=>
 cond (decide (x23<(a0.Notes.length:Int)))
 (ob (pA a0.Notes x23) fun e25=>
 cond (!(AA e25))
 (some false)
 (k24 (cA .i64 x23 1)))
 (k22 ())) 0) fun k17=>
 tA FU (fun (x18:Int) k19=>
 cond (decide (x18<(a0.Known.length:Int)))
 (ob (pA a0.Known x18) fun e20=>
 cond ((e20.length:Int) !=32)
 (some false)
 (k19 (cA .i64 x18 1)))
 (k17 ())) 0) fun k5=>
 tA FU (fun (x6:Int) k7=>
 cond (decide (x6<2))
 (aA (fun (y8:Bool)=>
 cond (y8)
 (some false)
 (k7 (cA .i64 x6 1))) fun k9=>
 ob (pA a0.Clients x6) fun e10=>
 ob (dE e10) fun r11=>
 cond (!r11)
 (k9 true)
 (ob (pA a0.Clients x6) fun e12=>
 cond (e12.Id !=(cA .i64 x6 1))
 (k9 true)
 (ob (pA a0.Clients x6) fun e13=>
 ob (pA a0.S.Psks x6) fun e14=>
 ob (eB e13.Psk e14) fun r15=>
 k9 (!r15))))
 (k5 ())) 0)) fun k2=>
 cond (!(iA a0.Now 0 1000000))
 (k2 true)
 (cond ((a0.Clients.length:Int) !=2)
 (k2 true)
 (ob (dD a0.S) fun r3=>
 cond (!r3)
 (k2 true)
 (cond ((a0.S.Psks.length:Int) !=2)
 (k2 true)
 (cond (!(tC a0.D))
 (k2 true)
 (cond (!(yG a0.Seen))
 (k2 true)
 (k2 (decide ((a0.Known.length:Int)>12))))))))
def CR.raw (a0:G.Wire):Option Bool:=
 aA (fun (y1:Bool)=>
 some y1) fun k2=>
 cond ((oB a0.From))
 (cond ((oB a0.To))
 (k2 (decide ((a0.B.length:Int)≤200)))
 (k2 false))
 (k2 false)
def VK.raw (a0:List G.Wire):Option Bool:=
 aA (fun (y1:Unit)=>
 some (decide ((a0.length:Int)≤90))) fun k2=>
 tA FU (fun (x3:Int) k4=>
 cond (decide (x3<(a0.length:Int)))
 (ob (pA a0 x3) fun e5=>
 cond (!(lH e5))
 (some false)
 (k4 (cA .i64 x3 1)))
 (k2 ())) 0
def WK.raw (a0:G.World):Option Bool:=
 aA (fun (y1:Bool)=>
 cond (y1)
 (some false)
 (aA (fun (y4:Bool)=>
 cond (y4)
 (some false)
 (aA (fun (y6:Unit)=>
 aA (fun (y16:Unit)=>
 aA (fun (y21:Unit)=>
 some true) fun k22=>
 tA FU (fun (x23:Int) k24=>
 cond (decide (x23<(a0.Notes.length:Int)))
 (ob (pA a0.Notes x23) fun e25=>
 cond (!(AA e25))
 (some false)
 (k24 (cA .i64 x23 1)))
 (k22 ())) 0) fun k17=>
 tA FU (fun (x18:Int) k19=>
 cond (decide (x18<(a0.Known.length:Int)))
 (ob (pA a0.Known x18) fun e20=>
 cond ((e20.length:Int) !=32)
 (some false)
 (k19 (cA .i64 x18 1)))
 (k17 ())) 0) fun k7=>
 tA FU (fun (x8:Int) k9=>
 cond (decide (x8<(a0.Clients.length:Int)))
 (ob (pA a0.Clients x8) fun e10=>
 aA (fun (y11:Bool)=>
 cond (y11)
 (some false)
 (k9 (cA .i64 x8 1))) fun k12=>
 ob (dE e10) fun r13=>
 cond (!r13)
 (k12 true)
 (cond (e10.Id !=(cA .i64 x8 1))
 (k12 true)
 (ob (pA a0.S.Psks x8) fun e14=>
 ob (eB e10.Psk e14) fun r15=>
 k12 (!r15))))
 (k7 ())) 0)) fun k5=>
 cond (!(tC a0.D))
 (k5 true)
 (cond (!(yG a0.Seen))
 (k5 true)
 (k5 (decide ((a0.Known.length:Int)>12)))))) fun k2=>
 cond (!(iA a0.Now 0 1000000))
 (k2 true)
 (cond ((a0.Clients.length:Int) !=2)
 (k2 true)
 (ob (dD a0.S) fun r3=>
 cond (!r3)
 (k2 true)
 (k2 ((a0.S.Psks.length:Int) !=2))))
def dL.raw (a0:G.World) (a1:Int):Option (G.Client × G.Sess × Bool):=
 ob (pA a0.Clients (sA .i64 a1 1)) fun e1=>
 ob (pD a0.S.T e1.C.Sn) fun r2=>
 aA (fun (y3:Bool)=>
 cond (y3)
 (some (e1,(⟨0,[],[],(⟨0,[],(⟨0,[],0,(⟨0,[]⟩:G.Win)⟩:G.Ep),(⟨0,[],0,(⟨0,[]⟩:G.Win)⟩:G.Ep),false,0,[]⟩:G.Chan),(⟨(⟨0,0⟩:G.Addr),[]⟩:G.Paths),0,0,false⟩:G.Sess),false))
 (ob (pA a0.S.T.L r2) fun e6=>
 some (e1,e6,true))) fun k4=>
 cond (e1.St !=3)
 (k4 true)
 (cond (decide (r2<0))
 (k4 true)
 (ob (pA a0.S.T.L r2) fun e5=>
 k4 e5.Dead))
def JK.raw (a0:G.World) (a1:Int):Option Bool:=
 aA (fun (y1:Bool)=>
 cond (y1)
 (some false)
 (ob (HJ a0 a1) fun r4=>
 cond (!r4.2.2)
 (some true)
 (ob (eB r4.1.Cn r4.2.1.Cn) fun r5=>
 cond (!r5)
 (some false)
 (aA (fun (y6:Bool)=>
 cond (y6)
 (aA (fun (y9:Bool)=>
 some y9) fun k10=>
 cond (decide (r4.1.C.Cur.Win.Top<r4.2.1.C.Cur.Seq))
 (k10 (decide (r4.2.1.C.Cur.Win.Top<r4.1.C.Cur.Seq)))
 (k10 false))
 (aA (fun (y11:Bool)=>
 some y11) fun k12=>
 cond (r4.2.1.C.Cur.N==(cA .i64 r4.1.C.Cur.N 1))
 (ob (eB r4.1.C.Next r4.2.1.C.Cur.Key) fun r13=>
 cond (r13)
 (cond (r4.2.1.C.HasOld)
 (cond (r4.2.1.C.Until==(-1))
 (ob (eB r4.2.1.C.Old.Key r4.1.C.Cur.Key) fun r14=>
 cond (r14)
 (cond (decide (r4.2.1.C.Old.Win.Top<r4.1.C.Cur.Seq))
 (k12 (decide (r4.1.C.Cur.Win.Top<r4.2.1.C.Old.Seq)))
 (k12 false))
 (k12 false))
 (k12 false))
 (k12 false))
 (k12 false))
 (k12 false))) fun k7=>
 cond (r4.1.C.Cur.N==r4.2.1.C.Cur.N)
 (ob (eB r4.1.C.Cur.Key r4.2.1.C.Cur.Key) fun r8=>
 k7 r8)
 (k7 false))))) fun k2=>
 ob (SI a0) fun r3=>
 cond (!r3)
 (k2 true)
 (k2 (!(iA a1 1 2)))
def CL.raw (a0:G.World) (a1:Int):Option Bool:=
 aA (fun (y1:Bool)=>
 cond (y1)
 (some false)
 (ob (pA a0.Clients (sA .i64 a1 1)) fun e4=>
 ob (pD a0.S.T e4.C.Sn) fun r5=>
 aA (fun (y6:Bool)=>
 cond (y6)
 (some true)
 (ob (pA a0.S.T.L r5) fun e9=>
 ob (eB e9.Cn e4.Cn) fun r10=>
 cond (!r10)
 (some false)
 (cond (e9.C.Cur.N==e4.C.Cur.N)
 (aA (fun (y11:Bool)=>
 some y11) fun k12=>
 ob (eB e9.C.Cur.Key e4.C.Cur.Key) fun r13=>
 cond (r13)
 (cond (decide (e9.C.Cur.Win.Top<e4.C.Cur.Seq))
 (k12 (decide (e4.C.Cur.Win.Top<e9.C.Cur.Seq)))
 (k12 false))
 (k12 false))
 (aA (fun (y14:Bool)=>
 some y14) fun k15=>
 cond (e9.C.Cur.N==(cA .i64 e4.C.Cur.N 1))
 (ob (eB e4.C.Next e9.C.Cur.Key) fun r16=>
 cond (r16)
 (cond (e9.C.HasOld)
 (cond (e9.C.Until==(-1))
 (ob (eB e9.C.Old.Key e4.C.Cur.Key) fun r17=>
 cond (r17)
 (cond (decide (e9.C.Old.Win.Top<e4.C.Cur.Seq))
 (k15 (decide (e4.C.Cur.Win.Top<e9.C.Old.Seq)))
 (k15 false))
 (k15 false))
 (k15 false))
 (k15 false))
 (k15 false))
 (k15 false))))) fun k7=>
 cond (e4.St !=3)
 (k7 true)
 (cond (decide (r5<0))
 (k7 true)
 (ob (pA a0.S.T.L r5) fun e8=>
 k7 e8.Dead)))) fun k2=>
 ob (SI a0) fun r3=>
 cond (!r3)
 (k2 true)
 (k2 (!(iA a1 1 2)))
end
end Go.D
namespace Go.D
end Go.D
namespace Go.D
open Option renaming bind → ob
theorem tR.ok {x:lA [.v .Addr]} (_:rA [.v .Addr] x):tR.raw x=some (oB x):=zcp x
theorem LS.ok {x:lA [.v .Addr]} (_:rA [.v .Addr] x):LS.raw x=some (oB x):=zcp x
theorem zri (i:Int):(cond (!(iA i 0 255)) (some (⟨0,0⟩:G.Addr)) (some (⟨cA .i64 167772160 i,cA .i64 7000 i⟩:G.Addr)))=some (pB i):=by
 cases h:iA i 0 255
 ·rw [zqB] at h
  simp [pB,h]
 ·rw [OC] at h
  simp only [Bool.not_true,cond_false,pB,h,and_self,if_true,cA]
  rw [fC (by omega) (by omega),fC (by omega) (by omega)]
theorem qT.ok {x:lA [.v .int]} (_:rA [.v .int] x):qT.raw x=some (pB x):=zri _
theorem kT.ok {x:lA []} (_:rA [] x):kT.raw=some oI:=rfl
theorem cH (a b:G.Addr):(cond (a.Host==b.Host) (cond (a.Port==b.Port) (true) false) false)=MC a b:=by
 simp only [MC,Bool.cond_false_right,Bool.and_true]
theorem zts (w:G.World) (a:G.Addr) (h:wt w≤bA):OL.raw w a=some (oS w a):=by
 rw [IP] at h
 simp only [OL.raw,aA,cH]
 rw [zq0 w.Clients (HD (by omega)) (fun c=>MC c.At a) (fun c=>some c.Id) (some (-1)) (fun i k hi=>?_) (fun k=>by simp only [dC,cond_false])]
 ·rw [oS];cases MC a oI
  ·cases w.Clients.find? _ <;> rfl
  ·rfl
 ·simp only [TB hi,cond_true,nB hi,dB]
theorem OL.ok {x:lA [.v .World, .v .Addr]} (_:rA [.v .World, .v .Addr] x) {r:Int}:eO x.1 x.2=some r→OL.raw x.1 x.2=some r:=HA fun h=>zts x.1 x.2 h
theorem hP.ok {x:lA [.v .int, .v .int]} (_:rA [.v .int, .v .int] x):hP.raw x.1 x.2=some (tJ x.1 x.2):=by
 simp only [hP.raw,aA,jB,Bool.cond_true_left];rfl
theorem uN.ok {x:lA [.sl .byte, .v .int]} (_:rA [.sl .byte, .v .int] x):uN.raw x.1 x.2=some (NE x.1 x.2):=by
 simp only [uN.raw,aA,jB,Bool.cond_true_left];rfl
theorem NK.ok {x:lA [.v .Note]} (_:rA [.v .Note] x):NK.raw x=some (AA x):=by
 show NK.raw (x:G.Note)=some (AA (x:G.Note))
 generalize (show G.Note from x)=n
 simp only [NK.raw,aA,jB,Bool.cond_false_right,AA]
 grind
theorem ML.ok {x:lA [.v .Note]} (_:rA [.v .Note] x):ML.raw x=some (AA x):=by
 show ML.raw (x:G.Note)=some (AA (x:G.Note))
 generalize (show G.Note from x)=n
 simp only [ML.raw,aA,jB,Bool.cond_false_right,AA,NE]
 grind
theorem yR.ok {x:lA [.v .Jar]} (_:rA [.v .Jar] x):yR.raw x=some (xE x):=rfl
theorem mT.ok {x:lA [.v .Jar]} (_:rA [.v .Jar] x):mT.raw x=some (xE x):=rfl
theorem zen (d:G.Dice):(aA (fun (y1:Bool)=>some y1) fun k2=>cond (iA (d.Seed.length:Int) 1 32) (k2 (iA d.N 0 10000)) (k2 false))=some (tC d):=by
 simp only [aA,jB,Bool.cond_false_right,tC]
theorem uR.ok {x:lA [.v .Dice]} (_:rA [.v .Dice] x):uR.raw x=some (tC x):=zen x
theorem US.ok {x:lA [.v .Dice]} (_:rA [.v .Dice] x):US.raw x=some (tC x):=zen x
theorem zfj (t:G.Tab) (h:wt t≤bA):(aA (fun (y1:Int)=>some y1) fun k2=>tA FU (fun (x3:Int × Int) k4=>cond (decide (x3.2<(t.L.length:Int))) (ob (pA t.L x3.2) fun e5=>
  aA (fun (y6:Int)=>k4 (y6,(cA .i64 x3.2 1))) fun k7=>cond (!e5.Dead) (k7 (cA .i64 x3.1 1)) (k7 x3.1)) (k2 x3.1)) (0,0))=some (yJ t):=by
 rw [nH] at h
 simp only [aA]
 rw [zq3 t.L (HD h) (fun s e=>bif e.Dead then s else cA .i64 s 1) (fun s=>some s) (fun i s k hi=>?_) (fun s k=>by simp only [dC,cond_false])]
 ·rfl
 ·simp only [TB hi,cond_true,nB hi,dB]
  cases t.L[i].Dead <;> rfl
theorem zR.ok {x:lA [.v .Tab]} (_:rA [.v .Tab] x) {r:Int}:VG x=some r→zR.raw x=some r:=HA fun h=>zfj x h
theorem pT.ok {x:lA [.v .Tab]} (_:rA [.v .Tab] x) {r:Int}:VG x=some r→pT.raw x=some r:=HA fun h=>zfj x h
theorem mM.ok {x:lA [.v .Chan]} (_:rA [.v .Chan] x):mM.raw x=some (zE x):=by
 show mM.raw (x:G.Chan)=some (zE (x:G.Chan))
 generalize (show G.Chan from x)=c
 simp only [mM.raw,aA,jB,Bool.cond_false_right,zE]
 grind
theorem zqu (c:G.Chan) (h:wt c≤bA):YK.raw c=some (zE c):=by
 rw [mH] at h
 simp only [YK.raw,aA,DJ,QA (p:=wt c.Old≤bA∧wt (⟨0,[],0,(⟨0,[]⟩:G.Win)⟩:G.Ep)≤bA) ⟨by omega,zck⟩,
  QA (p:=wt c.Cur≤bA∧wt (⟨0,[],0,(⟨0,[]⟩:G.Win)⟩:G.Ep)≤bA) ⟨by omega,zck⟩,zf0,jB,Bool.cond_false_right,zE]
 grind
theorem YK.ok {x:lA [.v .Chan]} (_:rA [.v .Chan] x) {r:Bool}:AJ x=some r→YK.raw x=some r:=HA fun h=>zqu x h
theorem XG (a b:Int):decide (a>b)= !decide (a≤b):=by
 by_cases h:a≤b
 ·rw [decide_eq_true h,decide_eq_false (by omega)];rfl
 ·rw [decide_eq_false h,decide_eq_true (by omega)];rfl
theorem PL.ok {x:lA [.v .Paths]} (_:rA [.v .Paths] x):PL.raw x=some (sD x):=by
 show PL.raw (x:G.Paths)=some (sD (x:G.Paths))
 generalize (show G.Paths from x)=p
 simp only [PL.raw,aA,cH,sD,XG (p.Cands.length:Int) 3]
 cases oB p.At
 ·rfl
 cases hd:decide ((p.Cands.length:Int)≤3)
 ·rfl
 have hd:=of_decide_eq_true hd
 have hl:p.Cands.length≤maxLen:=by rw [QC];omega
 simp only [Bool.not_true,cond_false]
 rw [UE p.Cands.length hl (wK p) (some false) (some true) (fun i k hi=>?_) (fun k=>by simp only [dC,cond_false])]
 ·cases YA _ _ <;> rfl
 ·simp only [TB hi,cond_true,nB hi,dB]
  rw [UE i (by omega) (fun j=>(p.Cands[j]?).any fun d=>MC d.A p.Cands[i].A) (some false) (k (cA .i64 (i:Int) 1)) (fun j k' hj=>?_) (fun k'=>by simp only [dC,cond_false])]
  ·simp only [wK,pC hi,MB]
   cases oB p.Cands[i].A <;> cases hn:((p.Cands[i].Draw.length:Int)==12) <;> cases iA p.Cands[i].Until 0 1000006 <;> cases MC p.Cands[i].A p.At <;> cases YA i _ <;> simp [bne,hn]
  ·simp only [TB hj,cond_true,nB (Nat.lt_trans hj hi),dB,pC (Nat.lt_trans hj hi)]
theorem OK.ok {x:lA [.v .Paths]} (_:rA [.v .Paths] x):OK.raw x=some (sD x):=by
 show OK.raw (x:G.Paths)=some (sD (x:G.Paths))
 generalize (show G.Paths from x)=p
 simp only [OK.raw,aA,cH,sD,XG (p.Cands.length:Int) 3]
 cases oB p.At
 ·rfl
 cases hd:decide ((p.Cands.length:Int)≤3)
 ·rfl
 have hd:=of_decide_eq_true hd
 have hl:p.Cands.length≤maxLen:=by rw [QC];omega
 simp only [Bool.not_true,cond_false]
 rw [UE p.Cands.length hl (wK p) (some false) (some true) (fun i k hi=>?_) (fun k=>by simp only [dC,cond_false])]
 ·cases YA _ _ <;> rfl
 ·have QV:(p.Cands.take i).length=i:=by rw [List.length_take];omega
  simp only [TB hi,cond_true,nB hi,dB,zo6 (Nat.le_of_lt hi),zaA]
  rw [UE i (by omega) (fun j=>(p.Cands[j]?).any fun d=>MC d.A p.Cands[i].A) (some false) (k (cA .i64 (i:Int) 1)) (fun j k' hj=>?_) (fun k'=>by rw [QV];simp only [dC,cond_false])]
  ·simp only [wK,pC hi]
   cases oB p.Cands[i].A <;> cases MB p.Cands[i].Draw <;> cases iA p.Cands[i].Until 0 1000006 <;> cases MC p.Cands[i].A p.At <;> cases YA i _ <;> rfl
  ·have eX:j<(p.Cands.take i).length:=by omega
   simp only [TB eX,cond_true,nB eX,dB,pC (Nat.lt_trans hj hi),List.getElem_take]
theorem ztE (s:G.Sess) (h:wt s≤bA):XL.raw s=some (eH s):=by
 rw [TI] at h
 have hc:=mH s.C
 have hn:pB (-1)=⟨0,0⟩:=rfl
 have h0:s.Last=0→iA s.Last 0 1000000=true:=fun h=>by rw [h];rfl
 simp only [XL.raw,aA,cH]
 simp only [hn,yC,QA (p:=wt s.C≤bA) (by omega),kB (a:=s.C.Sn) (b:=s.Sn) (by omega) (by omega),eH,MB]
 cases s.Dead <;> simp only [jB,Bool.cond_false_right,cond_true,cond_false] <;> grind
theorem XL.ok {x:lA [.v .Sess]} (_:rA [.v .Sess] x) {r:Bool}:XD x=some r→XL.raw x=some r:=HA fun h=>ztE x h
theorem zqp (s:G.Sess) (h:wt s≤bA):QK.raw s=some (eH s):=by
 rw [TI] at h
 have hc:=mH s.C
 have hn:(cond (s.P.At.Host==0) (cond (s.P.At.Port==0) (true) false) false)=MC s.P.At ⟨0,0⟩:=cH s.P.At ⟨0,0⟩
 simp only [QK.raw,aA,hn,yC,AJ,QA (p:=wt s.C≤bA) (by omega),kB (a:=s.C.Sn) (b:=s.Sn) (by omega) (by omega),eH]
 cases s.Dead <;> simp only [jB,Bool.cond_false_right,cond_true,cond_false] <;> grind
theorem QK.ok {x:lA [.v .Sess]} (_:rA [.v .Sess] x) {r:Bool}:XD x=some r→QK.raw x=some r:=HA fun h=>zqp x h
theorem zeS (t:G.Tab) (b:List UInt8) (h:wt t≤bA∧wt b≤bA):(aA (fun (y1:Unit)=>some (-1)) fun k2=>tA FU (fun (x3:Int) k4=>cond (decide (x3<(t.L.length:Int))) (ob (pA t.L x3) fun e5=>
  ob (eB e5.Sn b) fun r6=>cond (r6) (some x3) (k4 (cA .i64 x3 1))) (k2 ())) 0)=some (kF t b):=by
 rw [nH] at h
 simp only [aA]
 rw [zfn t.L.length (HD h.1) (nI t b) (fun i k hi=>?_) (fun k=>by simp only [dC,cond_false])]
 ·rfl
 ·have:=mD hi
  have hs:=TI t.L[i]
  simp only [TB hi,cond_true,nB hi,dB,nI,pC hi,kB (a:=t.L[i].Sn) (b:=b) (by omega) h.2]
theorem wR.ok {x:lA [.v .Tab, .sl .byte]} (_:rA [.v .Tab, .sl .byte] x) {r:Int}:pD x.1 x.2=some r→wR.raw x.1 x.2=some r:=HA fun h=>zeS x.1 x.2 h
theorem cT.ok {x:lA [.v .Tab, .sl .byte]} (_:rA [.v .Tab, .sl .byte] x) {r:Int}:pD x.1 x.2=some r→cT.raw x.1 x.2=some r:=HA fun h=>zeS x.1 x.2 h
theorem zeY {t:G.Tab} {i:Nat} (hi:i<t.L.length):nI t t.L[i].Sn i=true:=by simp [nI,hi]
theorem zbN {t:G.Tab} (h:wt t≤bA) {i:Nat} (hi:i<t.L.length):wt t.L[i]≤bA∧wt t.L[i].Sn≤bA:=by
 rw [nH] at h
 have:=mD hi
 have hs:=TI t.L[i]
 omega
theorem ztM (t:G.Tab) (h:wt t≤bA):aM.raw t=some (vG t):=by
 have hl:=HD (nH t ▸ h)
 simp only [aM.raw,aA,vG,VG,QA h,XG (t.L.length:Int) 12,XG (yJ t) t.Cap]
 have key:tA FU (fun (x5:Int) k6=>cond (decide (x5<(t.L.length:Int))) (ob (pA t.L x5) fun e9=>ob (XD e9) fun r10=>cond (!r10) (cond true (some false) (k6 (cA .i64 x5 1))) (ob (pA t.L x5) fun e11=>
   ob (pD t e11.Sn) fun r12=>cond (r12 !=x5) (some false) (k6 (cA .i64 x5 1)))) (some true)) 0=some (!(YA t.L.length (FI t))):=by
  rw [UE t.L.length hl (FI t) (some false) (some true) (fun i k hi=>?_) (fun k=>by simp only [dC,cond_false])]
  ·cases YA _ _ <;> rfl
  ·have hw:=zbN h hi
   simp only [TB hi,cond_true,nB hi,dB,XD,QA hw.1,pD,QA (p:=wt t≤bA∧wt t.L[i].Sn≤bA) ⟨h,hw.2⟩,kF,(za0 hi (zeY hi)).2,FI,pC hi]
   cases eH t.L[i] <;> cases YA i _ <;> rfl
 rw [key]
 cases iA t.Cap 1 6 <;> cases decide ((t.L.length:Int)≤12) <;> cases decide (yJ t≤t.Cap) <;> rfl
theorem aM.ok {x:lA [.v .Tab]} (_:rA [.v .Tab] x) {r:Bool}:kH x=some r→aM.raw x=some r:=HA fun h=>ztM x h
theorem zqr (t:G.Tab) (h:wt t≤bA):SK.raw t=some (vG t):=by
 have hl:=HD (nH t ▸ h)
 simp only [SK.raw,aA,vG,VG,QA h,XG (t.L.length:Int) 12,XG (yJ t) t.Cap]
 have key:tA FU (fun (x5:Int) k6=>cond (decide (x5<(t.L.length:Int))) (ob (pA t.L x5) fun e9=>ob (XD e9) fun r10=>cond (!r10) (cond true (some false) (k6 (cA .i64 x5 1)))
   (ob (pD t e9.Sn) fun r12=>cond (decide (r12<x5)) (some false) (k6 (cA .i64 x5 1)))) (some true)) 0=some (!(YA t.L.length (FI t))):=by
  rw [UE t.L.length hl (FI t) (some false) (some true) (fun i k hi=>?_) (fun k=>by simp only [dC,cond_false])]
  ·cases YA _ _ <;> rfl
  ·have hw:=zbN h hi
   simp only [TB hi,cond_true,nB hi,dB,XD,QA hw.1,pD,QA (p:=wt t≤bA∧wt t.L[i].Sn≤bA) ⟨h,hw.2⟩,kF,(za0 hi (zeY hi)).1,FI,pC hi]
   cases eH t.L[i] <;> cases YA i _ <;> rfl
 rw [key]
 cases iA t.Cap 1 6 <;> cases decide ((t.L.length:Int)≤12) <;> cases decide (yJ t≤t.Cap) <;> rfl
theorem SK.ok {x:lA [.v .Tab]} (_:rA [.v .Tab] x) {r:Bool}:kH x=some r→SK.raw x=some r:=HA fun h=>zqr x h
end Go.D
namespace Go.D
theorem zdK (l:List G.Credit) (a:G.Addr) (hl:l.length≤maxLen):(aA (fun (y1:Unit)=>some (-1)) fun k2=>tA FU (fun (x3:Int) k4=>cond (decide (x3<(l.length:Int))) (Option.bind (pA l x3) fun e5=>
  cond (cond (e5.A.Host==a.Host) (cond (e5.A.Port==a.Port) (true) false) false) (some x3) (k4 (cA .i64 x3 1))) (k2 ())) 0)=some (BB l a):=by
 simp only [aA,cH]
 rw [zfn l.length hl (dG l a) (fun i k hi=>?_) (fun k=>by simp only [dC,cond_false])]
 ·rfl
 ·simp only [TB hi,cond_true,nB hi,dB,dG,pC hi]
theorem SR.ok {x:lA [.sl .Credit, .v .Addr]} (hb:rA [.sl .Credit, .v .Addr] x):SR.raw x.1 x.2=some (BB x.1 x.2):=zdK x.1 x.2 hb.1.1
theorem zsI (a:G.Addr):MC a a=true:=by simp [MC]
theorem zqf {l:List G.Credit} {i:Nat} (hi:i<l.length):dG l l[i].A i=true:=by simp [dG,hi,zsI]
theorem zj1 {l:List G.Credit} {i:Nat} (hi:i<l.length):decide (BB l l[i].A<(i:Int))=YA i (dG l l[i].A):=(za0 (p:=dG l l[i].A) hi (zqf hi)).1
theorem IK.ok {x:lA [.sl .Credit]} (hb:rA [.sl .Credit] x):IK.raw x=some (SD x):=by
 show IK.raw (x:List G.Credit)=some (SD (x:List G.Credit))
 have hl:(show List G.Credit from x).length≤maxLen:=hb.1
 generalize (show List G.Credit from x)=l at hl ⊢
 simp only [IK.raw,aA,SD,XG (l.length:Int) 8]
 rw [UE l.length hl (cN l) (some false) (some true) (fun i k hi=>?_) (fun k=>by simp only [dC,cond_false])]
 ·cases decide ((l.length:Int)≤8) <;> cases YA _ _ <;> rfl
 ·simp only [TB hi,cond_true,nB hi,dB,zj1 hi,cN,pC hi]
  cases oB l[i].A <;> cases iA l[i].Got 0 1000000 <;> cases iA l[i].Sent 0 _ <;> cases YA i _ <;> rfl
theorem yL.ok {x:lA [.sl .Credit]} (hb:rA [.sl .Credit] x):yL.raw x=some (SD x):=by
 show yL.raw (x:List G.Credit)=some (SD (x:List G.Credit))
 have hl:(show List G.Credit from x).length≤maxLen:=hb.1
 generalize (show List G.Credit from x)=l at hl ⊢
 simp only [yL.raw,aA,SD,XG (l.length:Int) 8,cH]
 rw [UE l.length hl (cN l) (some false) (some true) (fun i k hi=>?_) (fun k=>by simp only [dC,cond_false])]
 ·cases decide ((l.length:Int)≤8) <;> cases YA _ _ <;> rfl
 ·simp only [TB hi,cond_true,nB hi,dB]
  rw [UE i (by omega) (dG l l[i].A) (some false) (k (cA .i64 (i:Int) 1)) (fun j k' hj=>?_) (fun k'=>by simp only [dC,cond_false])]
  ·simp only [cN,pC hi]
   cases oB l[i].A <;> cases iA l[i].Got 0 1000000 <;> cases iA l[i].Sent 0 _ <;> cases YA i _ <;> rfl
  ·simp only [TB hj,cond_true,nB (Nat.lt_trans hj hi),dB,dG,pC (Nat.lt_trans hj hi)]
theorem AR.ok {x:lA [.sl .byte]} (_:rA [.sl .byte] x):AR.raw x=some (mC x):=rfl
theorem tT.ok {x:lA [.sl .byte]} (_:rA [.sl .byte] x):tT.raw x=some (mC x):=rfl
theorem zf5 (s:G.Server) (h:wt s≤bA):PK.raw s=some (cD s):=by
 rw [LM] at h
 have hT:=nH s.T
 simp only [PK.raw,aA,kH,QA (p:=wt s.T≤bA) (by omega),cD]
 rw [gL s.Psks (HD (by omega)) (fun b=>!mC b) (some false) _ (fun i k hi=>?_) (fun k=>by simp only [dC,cond_false];rfl)]
 ·rw [gL s.T.L (HD (by omega)) (fun e=>decide (e.Id>(s.Psks.length:Int))) (some false) (some true) (fun i k hi=>?_) (fun k=>by simp only [dC,cond_false])]
  ·cases iA (s.Psks.length:Int) 1 9 <;> cases xE s.J <;> cases tC s.D <;> cases vG s.T <;> cases SD s.Cr <;> cases s.Psks.any _ <;> cases s.T.L.any _ <;> rfl
  ·simp only [TB hi,cond_true,nB hi,dB]
 ·simp only [TB hi,cond_true,nB hi,dB]
theorem PK.ok {x:lA [.v .Server]} (_:rA [.v .Server] x) {r:Bool}:dD x=some r→PK.raw x=some r:=HA fun h=>zf5 x h
theorem CT.ok {x:lA [.v .Server]} (_:rA [.v .Server] x) {r:Bool}:dD x=some r→CT.raw x=some r:=HA fun h=>zf5 x h
theorem zg9 (w:G.Wire):(aA (fun (y1:Bool)=>some y1) fun k2=>cond ((oB w.From)) (cond ((oB w.To)) (k2 (decide ((w.B.length:Int)≤200))) (k2 false)) (k2 false))=some (lH w):=by
 simp only [aA,jB,Bool.cond_false_right,lH,Bool.and_assoc]
theorem CR.ok {x:lA [.v .Wire]} (_:rA [.v .Wire] x):CR.raw x=some (lH x):=zg9 x
theorem UT.ok {x:lA [.v .Wire]} (_:rA [.v .Wire] x):UT.raw x=some (lH x):=zg9 x
theorem zha (l:List G.Wire) (hl:l.length≤maxLen):VK.raw l=some (yG l):=by
 simp only [VK.raw,aA,yG]
 rw [gL l hl (fun w=>!lH w) (some false) _ (fun i k hi=>?_) (fun k=>by simp only [dC,cond_false];rfl)]
 ·cases l.any _ <;> rfl
 ·simp only [TB hi,cond_true,nB hi,dB]
theorem VK.ok {x:lA [.sl .Wire]} (hb:rA [.sl .Wire] x):VK.raw x=some (yG x):=zha x hb.1
theorem VT.ok {x:lA [.sl .Wire]} (hb:rA [.sl .Wire] x):VT.raw x=some (yG x):=zha x hb.1
theorem zqy (f g:G.Frame) (h:wt f≤bA∧wt g≤bA):cL.raw f g=some (dH f g):=by
 simp only [zG] at h
 simp (disch:=omega) only [cL.raw,aA,kB]
 simp only [jB,Bool.cond_false_right,dH,Bool.and_assoc]
theorem cL.ok {x:lA [.v .Frame, .v .Frame]} (_:rA [.v .Frame, .v .Frame] x) {r:Bool}:EJ x.1 x.2=some r→cL.raw x.1 x.2=some r:=HA fun h=>zqy x.1 x.2 h
theorem zbx (t:G.Timer):(cond (t.On==false) (cond (t.Due==0) (cond (t.Wait==0) (cond (t.Tries==0) (true) false) false) false) false)=lG t:=by
 simp only [Bool.cond_false_right,lG,Bool.and_true,Bool.and_assoc]
theorem TK.ok {x:lA [.v .Timer]} (_:rA [.v .Timer] x):TK.raw x=some (wD x):=by
 show TK.raw (x:G.Timer)=some (wD (x:G.Timer))
 generalize (show G.Timer from x)=t
 simp only [TK.raw,zbx,aA,wD]
 cases t.On
 ·rfl
 ·simp only [Bool.not_true,cond_false,cond_true,jB]
  cases iA t.Due 0 1000008 <;> cases iA t.Tries 1 5 <;> grind
theorem bM.ok {x:lA [.v .Timer]} (_:rA [.v .Timer] x):bM.raw x=some (wD x):=by
 show bM.raw (x:G.Timer)=some (wD (x:G.Timer))
 generalize (show G.Timer from x)=t
 simp only [bM.raw,zbx,aA,wD]
 cases t.On
 ·rfl
 ·simp only [Bool.not_true,cond_false,cond_true,jB]
  cases iA t.Due 0 1000008 <;> cases iA t.Tries 1 5 <;> grind
theorem nM.ok {x:lA [.v .Frame]} (_:rA [.v .Frame] x):nM.raw x=some (AE x):=by
 show nM.raw (x:G.Frame)=some (AE (x:G.Frame))
 generalize (show G.Frame from x)=f
 simp only [nM.raw,aA,jB,Bool.cond_false_right,AE,Bool.and_assoc]
theorem BR.ok {x:lA [.v .int]} (_:rA [.v .int] x):BR.raw x=some (GC x):=rfl
theorem zT.ok {x:lA [.v .int]} (_:rA [.v .int] x):zT.raw x=some (GC x):=rfl
theorem tN.ok {x:lA [.v .int, .v .int]} (_:rA [.v .int, .v .int] x):tN.raw x.1 x.2=some (DF x.1 x.2):=by
 simp only [tN.raw,aA,jB,DF]
 cases h5:x.1==(5:Int) <;> cases h4:x.1==(4:Int) <;> simp
theorem tP.ok {x:lA [.v .int, .v .int]} (_:rA [.v .int, .v .int] x):tP.raw x.1 x.2=some (DF x.1 x.2):=by
 simp only [tP.raw,aA,jB,DF]
 cases h5:x.1==(5:Int) <;> cases h4:x.1==(4:Int) <;> simp
theorem zV (a b:Int):(a !=b)= !(a==b):=rfl
theorem GL.ok {x:lA [.v .Frame]} (_:rA [.v .Frame] x):GL.raw x=some (qD x):=by
 show GL.raw (x:G.Frame)=some (qD (x:G.Frame))
 generalize (show G.Frame from x)=f
 simp only [GL.raw,aA,jB,Bool.cond_false_right,Bool.cond_false_left,qD,zV]
 cases GC f.Kind
 ·simp only [cond_false]
  cases f.Epoch==0 <;> cases f.Seq==0 <;> cases (f.Body.length:Int)==0 <;> cases (f.Tag.length:Int)==0 <;> cases (f.Cn.length:Int)==12 <;> simp [Bool.and_assoc]
 ·simp only [cond_true,Bool.and_assoc]
theorem zbM {k:Int} (h:GC k=true):(k==1)=false∧(k==2)=false∧(k==3)=false:=by
 rw [GC,OC] at h
 exact ⟨beq_false_of_ne (by omega),beq_false_of_ne (by omega),beq_false_of_ne (by omega)⟩
theorem QM (l:List UInt8):(l==[])=((l.length:Int)==0):=by rw [zfh];cases l <;> rfl
theorem zqo (f:G.Frame) (h:wt f≤bA):MK.raw f=some (qD f):=by
 have hs:∀ g:G.Frame,wt g≤wt f→EJ f g=some (dH f g):=fun g hg=>XA ⟨h,by omega⟩
 have hw:=zG f
 simp only [MK.raw,aA,qD,MB]
 cases h1:f.Kind==1
 ·cases h2:f.Kind==2
  ·cases h3:f.Kind==3
   ·cases h4:GC f.Kind
    ·simp
    ·simp only [cond_true,cond_false]
     rw [hs _ (by simp only [zG,BG];omega)]
     simp only [dH,beq_self_eq_true,QM]
     cases iA f.Epoch 0 4294967295 <;> cases iA f.Seq 0 281474976710655 <;> grind
   ·have h4 : GC f.Kind = false := by cases h4 : GC f.Kind; · rfl
                                      rw [(zbM h4).2.2] at h3;cases h3
    simp only [cond_true,cond_false,h4]
    rw [hs _ (by simp only [zG,BG];omega)]
    simp only [dH,beq_self_eq_true,QM]
    cases iA f.Id 1 9 <;> cases iA f.Tick 0 1000000 <;> grind
  ·have h4 : GC f.Kind = false := by cases h4 : GC f.Kind; · rfl
                                     rw [(zbM h4).2.1] at h2;cases h2
   simp only [cond_true,cond_false,h4]
   rw [hs _ (by simp only [zG,BG];omega)]
   simp only [dH,beq_self_eq_true,QM]
   cases iA f.Tick 0 1000000 <;> grind
 ·have h4 : GC f.Kind = false := by cases h4 : GC f.Kind; · rfl
                                    rw [(zbM h4).1] at h1;cases h1
  simp only [cond_true,cond_false,h4]
  rw [hs _ (by simp only [zG,BG];omega)]
  simp only [dH,beq_self_eq_true,QM]
  cases iA f.Id 1 9 <;> grind
theorem MK.ok {x:lA [.v .Frame]} (_:rA [.v .Frame] x) {r:Bool}:jR x=some r→MK.raw x=some r:=HA fun h=>zqo x h
end Go.D
namespace Go.D
open Option renaming bind → ob
theorem hJ (c:G.Client) (h:wt c≤bA):wt c.Psk≤bA∧wt c.Cn≤bA∧wt c.Fin≤bA∧wt c.C≤bA∧wt c.Fin.Cn≤bA∧wt c.Fin.Sn≤bA∧wt c.C.Sn≤bA∧wt c.C.Next≤bA∧wt c.C.Cur.Key≤bA:=by
 rw [JM] at h
 have h1:=zG c.Fin
 have h2:=mH c.C
 have h3:=VH c.C.Cur
 omega
theorem zqt (c:G.Client) (h:wt c≤bA):XK.raw c=some (BK c):=by
 have hw:=hJ c h
 simp only [XK.raw,aA,jR,yC,QA (p:=wt c.Fin≤bA) hw.2.2.1,QA (p:=wt c.C≤bA) hw.2.2.2.1,kB hw.2.2.2.2.1 hw.2.1,kB hw.2.2.2.2.2.2.1 hw.2.2.2.2.2.1]
 simp only [jB,Bool.cond_false_right,Bool.cond_false_left,Bool.not_true,Bool.false_and,BK,zV,Bool.not_not,Bool.and_assoc]
theorem XK.ok {x:lA [.v .Client]} (_:rA [.v .Client] x) {r:Bool}:dR x=some r→XK.raw x=some r:=HA fun h=>zqt x h
theorem zrr (f:G.Frame):dH f (⟨0,0,[],[],0,[],[],0,0,[],[]⟩:G.Frame)=AE f:=by
 simp only [dH,AE,QM]
 grind
theorem zsH {c:G.Client} (h:wt c.Fin≤bA):EJ c.Fin (⟨0,0,[],[],0,[],[],0,0,[],[]⟩:G.Frame)=some (AE c.Fin):=by
 rw [EJ,XA ⟨h,Nat.zero_le _⟩,zrr]
theorem zql (c:G.Client) (h:wt c≤bA):HK.raw c=some (LE c):=by
 have hw:=hJ c h
 simp only [HK.raw,aA,zbx,zsH hw.2.2.1,dB,yC,AJ,dR,QA (p:=wt c.C≤bA) hw.2.2.2.1,QA h]
 simp only [jB,Bool.cond_false_right,Bool.cond_false_left,Bool.not_true,Bool.false_and,LE,Bool.not_not,Bool.and_assoc]
theorem HK.ok {x:lA [.v .Client]} (_:rA [.v .Client] x) {r:Bool}:dE x=some r→HK.raw x=some r:=HA fun h=>zql x h
theorem zg0 {t:G.Timer} (h:t.On=false):wD t=lG t:=by rw [wD,h];rfl
theorem zg1 {t:G.Timer} (h:t.On=true):lG t=false:=by rw [lG,h];rfl
theorem zs3 (c:G.Client) (h:wt c≤bA):wL.raw c=some (LE c):=by
 have hw:=hJ c h
 have hL:c.Last=0→iA c.Last 0 1000000=true:=fun h=>by rw [h];rfl
 have hT0:=zg0 (t:=c.T)
 have hT1:=zg1 (t:=c.T)
 have hR0:=zg0 (t:=c.R)
 have hR1:=zg1 (t:=c.R)
 simp only [wL.raw,aA,yC,QA (p:=wt c.C≤bA) hw.2.2.2.1,kB hw.2.2.2.2.1 hw.2.1,kB hw.2.2.2.2.2.2.1 hw.2.2.2.2.2.1,
  jB,Bool.cond_false_right,Bool.cond_false_left,LE,BK,zV,Bool.not_not,MB]
 refine congrArg some ?_
 cases iA c.Id 1 9
 ·rfl
 cases mC c.Psk
 ·rfl
 cases oB c.At
 ·rfl
 simp only [Bool.true_and]
 by_cases s0:c.St=0
 ·simp only [s0,beq_self_eq_true,cond_true]
  cases hT:c.T.On <;> cases hR:c.R.On <;> simp_all <;> grind
 ·have e0:(c.St==0)=false:=beq_false_of_ne s0
  by_cases s3:c.St=3
  ·simp only [s3]
   cases hT:c.T.On <;> simp_all <;> grind
  ·have e3:(c.St==3)=false:=beq_false_of_ne s3
   simp only [e0,e3,cond_false]
   cases hT:c.T.On
   ·simp
   ·cases hR:c.R.On
    ·by_cases s1:c.St=1
     ·simp_all;grind
     ·have e1:(c.St==1)=false:=beq_false_of_ne s1
      simp only [e1,cond_false]
      by_cases s2:c.St=2
      ·simp_all;grind
      ·have e2:(c.St==2)=false:=beq_false_of_ne s2
       simp [e2]
    ·simp_all
theorem wL.ok {x:lA [.v .Client]} (_:rA [.v .Client] x) {r:Bool}:dE x=some r→wL.raw x=some r:=HA fun h=>zs3 x h
theorem YJ (w:G.World) (h:wt w≤bA):wt w.Clients≤bA∧wt w.S≤bA∧wt w.S.Psks≤bA∧wt w.S.T≤bA∧wt w.S.T.L≤bA∧wt w.Seen≤bA∧wt w.Known≤bA∧wt w.Notes≤bA:=by
 rw [IP] at h
 have h1:=LM w.S
 have h2:=nH w.S.T
 omega
theorem zfd (l:List (List UInt8)) (hl:l.length≤maxLen) (z:Option Bool):tA FU (fun (x16:Int) k17=>cond (decide (x16<(l.length:Int))) (ob (pA l x16) fun e18=>cond ((e18.length:Int) !=32) (some false) (k17 (cA .i64 x16 1))) z) 0
  =bif l.any fun b=>(b.length:Int) !=32 then some false else z:=by
 rw [gL l hl (fun b=>(b.length:Int) !=32) (some false) z (fun i k hi=>?_) (fun k=>by simp only [dC,cond_false])]
 simp only [TB hi,cond_true,nB hi,dB]
theorem zfC (l:List G.Note) (hl:l.length≤maxLen) (z:Option Bool):tA FU (fun (x16:Int) k17=>cond (decide (x16<(l.length:Int))) (ob (pA l x16) fun e18=>cond (!(AA e18)) (some false) (k17 (cA .i64 x16 1))) z) 0
  =bif l.any fun n=>!AA n then some false else z:=by
 rw [gL l hl (fun n=>!AA n) (some false) z (fun i k hi=>?_) (fun k=>by simp only [dC,cond_false])]
 simp only [TB hi,cond_true,nB hi,dB]
theorem nQ {w:G.World} (h:wt w≤bA) {i:Nat} (hi:i<w.Clients.length):wt w.Clients[i]≤bA:=by
 have:=mD hi
 have:=(YJ w h).1
 omega
theorem zeh (w:G.World) (h:wt w≤bA) (hc:w.Clients.length=2) (hp:w.S.Psks.length=2) (z:Option Bool) {f:Int→(Int→Option Bool)→Option Bool}
  (hf:∀ (i:Nat) k (h:i<w.Clients.length) (h':i<w.S.Psks.length),wt w.Clients[i]≤bA→wt w.Clients[i].Psk≤bA→wt w.S.Psks[i]≤bA→IntKind.wrap .i64 ((i:Int)+1)=((i+1:Nat):Int)→
   f (i:Int) k=bif !LE w.Clients[i]||w.Clients[i].Id !=((i+1:Nat):Int)||!(w.Clients[i].Psk==w.S.Psks[i]) then some false else k (IntKind.wrap .i64 ((i:Int)+1)))
  (hz:∀ k,f (2:Int) k=z):tA FU f 0=bif YA 2 (iI w) then some false else z:=by
 rw [UE 2 (by decide) (iI w) (some false) z (fun i k hi=>?_) hz]
 have h1:=nQ h (i:=i) (by omega)
 have h2:=(hJ _ h1).1
 have h3:=mD (l:=w.S.Psks) (i:=i) (by omega)
 have h4:=(YJ w h).2.2.1
 rw [hf i k (by omega) (by omega) h1 h2 (by omega) (XC i (by rw [QC];omega)),iI,pC (by omega),pC (by omega)]
theorem zqs (w:G.World) (h:wt w≤bA):WK.raw w=some (VF w):=by
 have hw:=YJ w h
 simp only [WK.raw,aA,dD,QA (p:=wt w.S≤bA) hw.2.1,VF]
 by_cases hc:w.Clients.length=2
 ·by_cases hp:w.S.Psks.length=2
  ·have c1:((w.Clients.length:Int) !=2)=false:=by simp [hc]
   have c2:((w.Clients.length:Int)==2)=true:=by simp [hc]
   have p1:((w.S.Psks.length:Int) !=2)=false:=by simp [hp]
   have p2:((w.S.Psks.length:Int)==2)=true:=by simp [hp]
   rw [c1,c2,p1,p2,zfC w.Notes (HD hw.2.2.2.2.2.2.2),zfd w.Known (HD hw.2.2.2.2.2.2.1),zeh w h hc hp _ (fun i k hi CW w1 w2 w3 he=>?_) (fun k=>by rw [hc];exact cond_false _ _)]
   ·rw [XG]
    cases iA w.Now 0 1000000
    ·rfl
    cases cD w.S
    ·rfl
    cases tC w.D
    ·rfl
    cases yG w.Seen
    ·rfl
    cases decide ((w.Known.length:Int)≤12)
    ·rfl
    cases YA 2 (iI w)
    ·cases w.Known.any _
     ·cases w.Notes.any _ <;> rfl
     ·rfl
    ·rfl
   ·simp only [TB hi,cond_true,nB hi,nB CW,dB,dE,QA w1,kB w2 w3]
    simp only [cA,he]
    cases LE w.Clients[i] <;> cases w.Clients[i].Id !=((i+1:Nat):Int) <;> cases w.Clients[i].Psk==w.S.Psks[i] <;> rfl
  ·have p1:((w.S.Psks.length:Int) !=2)=true:=by simp;omega
   have p2:((w.S.Psks.length:Int)==2)=false:=by simp;omega
   rw [p1,p2]
   simp
 ·have c1:((w.Clients.length:Int) !=2)=true:=by simp;omega
  have c2:((w.Clients.length:Int)==2)=false:=by simp;omega
  rw [c1,c2]
  simp
theorem WK.ok {x:lA [.v .World]} (_:rA [.v .World] x) {r:Bool}:SI x=some r→WK.raw x=some r:=HA fun h=>zqs x h
theorem ztT (w:G.World) (h:wt w≤bA):eM.raw w=some (VF w):=by
 have hw:=YJ w h
 simp only [eM.raw,aA,dD,QA (p:=wt w.S≤bA) hw.2.1,VF]
 by_cases hc:w.Clients.length=2
 ·by_cases hp:w.S.Psks.length=2
  ·have c1:((w.Clients.length:Int) !=2)=false:=by simp [hc]
   have c2:((w.Clients.length:Int)==2)=true:=by simp [hc]
   have p1:((w.S.Psks.length:Int) !=2)=false:=by simp [hp]
   have p2:((w.S.Psks.length:Int)==2)=true:=by simp [hp]
   rw [c1,c2,p1,p2,zfC w.Notes (HD hw.2.2.2.2.2.2.2),zfd w.Known (HD hw.2.2.2.2.2.2.1),zeh w h hc hp _ (fun i k hi CW w1 w2 w3 he=>?_) (fun k=>by exact cond_false _ _)]
   ·rw [XG]
    cases iA w.Now 0 1000000
    ·rfl
    cases cD w.S
    ·rfl
    cases tC w.D
    ·rfl
    cases yG w.Seen
    ·rfl
    cases decide ((w.Known.length:Int)≤12)
    ·rfl
    cases YA 2 (iI w)
    ·cases w.Known.any _
     ·cases w.Notes.any _ <;> rfl
     ·rfl
    ·rfl
   ·have e:decide ((i:Int)<2)=true:=decide_eq_true (by omega)
    simp only [e,cond_true,nB hi,nB CW,dB,dE,QA w1,kB w2 w3]
    simp only [cA,he]
    cases LE w.Clients[i] <;> cases w.Clients[i].Id !=((i+1:Nat):Int) <;> cases w.Clients[i].Psk==w.S.Psks[i] <;> rfl
  ·have p1:((w.S.Psks.length:Int) !=2)=true:=by simp;omega
   have p2:((w.S.Psks.length:Int)==2)=false:=by simp;omega
   rw [p1,p2]
   simp
 ·have c1:((w.Clients.length:Int) !=2)=true:=by simp;omega
  have c2:((w.Clients.length:Int)==2)=false:=by simp;omega
  rw [c1,c2]
  simp
theorem eM.ok {x:lA [.v .World]} (_:rA [.v .World] x) {r:Bool}:SI x=some r→eM.raw x=some r:=HA fun h=>ztT x h
theorem zvp {w:G.World} (h:VF w=true):w.Clients.length=2:=by
 simp only [VF,Bool.and_eq_true,beq_iff_eq] at h
 omega
theorem zcq (w:G.World) (c:G.Client):((c.St !=3)=true∧JE w c=none)∨((c.St !=3)=false∧kF w.S.T c.C.Sn= -1∧JE w c=none)∨
  ∃ (m:Nat) (hm:m<w.S.T.L.length),(c.St !=3)=false∧kF w.S.T c.C.Sn=(m:Int)∧((w.S.T.L[m].Dead=true∧JE w c=none)∨(w.S.T.L[m].Dead=false∧JE w c=some w.S.T.L[m])):=by
 by_cases h3:c.St=3
 ·right
  have e1:(c.St !=3)=false:=by simp [h3]
  have e2:(c.St==3)=true:=by simp [h3]
  rcases bR w.S.T.L.length (nI w.S.T c.C.Sn) with ⟨h1,h2⟩ | ⟨m,hm,_,_,h4⟩
  ·left
   have h2:kF w.S.T c.C.Sn= -1:=h2
   refine ⟨e1,h2,?_⟩
   rw [JE,e2,h2];rfl
  ·right
   have h4:kF w.S.T c.C.Sn=(m:Int):=h4
   refine ⟨m,hm,e1,h4,?_⟩
   rw [JE,e2,h4,cond_true,if_pos (by omega),Int.toNat_natCast,List.getElem?_eq_getElem hm]
   cases hd:w.S.T.L[m].Dead
   ·right;exact ⟨rfl,by simp [hd]⟩
   ·left;exact ⟨rfl,by simp [hd]⟩
 ·left
  have e2:(c.St==3)=false:=beq_false_of_ne h3
  exact ⟨bne_iff_ne.2 h3,by rw [JE,e2];rfl⟩
theorem zfm {R:Type} (w:G.World) (c:G.Client) (hT:wt w.S.T≤bA) (hc:wt c≤bA) (F:G.Sess→Option R) (N:Option R):
  (ob (pD w.S.T c.C.Sn) fun r=>cond (c.St !=3) (cond true N (ob (pA w.S.T.L r) F)) (cond (decide (r<0)) (cond true N (ob (pA w.S.T.L r) F)) (ob (pA w.S.T.L r) fun e=>cond e.Dead N (ob (pA w.S.T.L r) F))))
   =match JE w c with
    | some s=>F s
    | none=>N:=by
 rw [pD,QA ⟨hT,(hJ c hc).2.2.2.2.2.2.1⟩]
 rcases zcq w c with ⟨h1,h2⟩ | ⟨h1,h2,h3⟩ | ⟨m,hm,h1,h2,(⟨h3,h4⟩ | ⟨h3,h4⟩)⟩
 ·rw [h1,h2];rfl
 ·rw [h1,h2,h3];rfl
 ·rw [h1,h2,h4]
  have e:decide ((m:Int)<0)=false:=decide_eq_false (by omega)
  simp only [cond_false,e,nB hm,dB,h3,cond_true]
 ·rw [h1,h2,h4]
  have e:decide ((m:Int)<0)=false:=decide_eq_false (by omega)
  simp only [cond_false,e,nB hm,dB,h3]
theorem zcr {w:G.World} {c:G.Client} {s:G.Sess} (hT:wt w.S.T≤bA) (h:JE w c=some s):wt s≤bA:=by
 rcases zcq w c with ⟨_,h2⟩ | ⟨_,_,h3⟩ | ⟨m,hm,_,_,(⟨_,h4⟩ | ⟨_,h4⟩)⟩
 ·rw [h2] at h;cases h
 ·rw [h3] at h;cases h
 ·rw [h4] at h;cases h
 ·rw [h4] at h;cases h
  exact (zbN hT hm).1
theorem ze9 {i:Nat} (h:i<maxLen) {id:Int} (Z4:id=(i:Int)+1):sA .i64 id 1=(i:Int)∧(id - 1).toNat=i:=by
 rw [QC] at h
 subst Z4
 refine ⟨?_,by omega⟩
 rw [sA,fC (by omega) (by omega)];omega
theorem zeg {w:G.World} (hw:VF w=true) {id:Int} (Z4:iA id 1 2=true):∃ (i:Nat) (_:i<w.Clients.length),id=(i:Int)+1∧sA .i64 id 1=(i:Int)∧(id - 1).toNat=i:=by
 have h1:=zvp hw
 have h2:=OC.1 Z4
 obtain ⟨i,hi⟩:=hG (n:=id - 1) (by omega)
 have:=ze9 (i:=i) (by rw [QC];omega) (id:=id) (by omega)
 exact ⟨i,by omega,by omega,this.1,this.2⟩
theorem dL.ok {x:lA [.v .World, .v .int]} (hb:rA [.v .World, .v .int] x) {r:G.Client × G.Sess × Bool}:HJ x.1 x.2=some r→dL.raw x.1 x.2=some r:=fun h=>by
 obtain ⟨w,id⟩:=x
 have h:HJ (w:G.World) (id:Int)=some r:=h
 show dL.raw (w:G.World) (id:Int)=some r
 generalize (show G.World from w)=w,(show Int from id)=id at h ⊢
 unfold HJ at h
 by_cases hp:wt w≤bA∧1≤id∧id≤w.Clients.length
 ·rw [QA hp] at h
  have hw:=YJ w hp.1
  obtain ⟨i,hi⟩:=hG (n:=id - 1) (by omega)
  have hl:=HD hw.1
  have RV:i<w.Clients.length:=by omega
  obtain ⟨e1,e2⟩:=ze9 (i:=i) (by omega) (id:=id) (by omega)
  rw [e2,List.getElem?_eq_getElem RV,Option.map_some] at h
  simp only [dL.raw,aA]
  rw [e1,nB RV,dB,zfm w w.Clients[i] hw.2.2.2.1 (nQ hp.1 RV) (fun s=>some (w.Clients[i],s,true))]
  rw [← h,GS]
  cases JE w w.Clients[i] <;> rfl
 ·unfold pt at h
  rw [if_neg hp] at h;cases h
theorem zvq (n:Int):(n==cA .i64 n 1)=false:=by
 apply beq_false_of_ne
 intro h
 simp only [cA,IntKind.wrap] at h
 simp [IntKind.bits,IntKind.signed] at h
 omega
theorem zf7 {s:G.Sess} (h:wt s≤bA):wt s.Cn≤bA∧wt s.C.Cur.Key≤bA∧wt s.C.Old.Key≤bA:=by
 rw [TI] at h
 have h1:=mH s.C
 have h2:=VH s.C.Cur
 have h3:=VH s.C.Old
 omega
theorem zcH (a b:List UInt8):(a==b)=(b==a):=BEq.comm
theorem zhA (a b:Int):(a==b)=(b==a):=BEq.comm
theorem ztf (w:G.World) (id:Int) (h:wt w≤bA):CL.raw w id=some (fN w id):=by
 have hw:=YJ w h
 simp only [CL.raw,aA,SI,QA h,fN]
 cases ho:VF w
 ·rfl
 cases Z4:iA id 1 2
 ·rfl
 obtain ⟨i,hi,_,e1,e2⟩:=zeg ho Z4
 have hcw:=nQ h hi
 have E4:=hJ _ hcw
 simp only [Bool.not_true,cond_false,e1,e2,nB hi,dB,pC hi,Bool.true_and]
 rw [zfm w w.Clients[i] hw.2.2.2.1 hcw]
 cases ha:JE w w.Clients[i] with
 | none=>rfl
 | some s=>
  have hs:=zf7 (zcr hw.2.2.2.1 ha)
  simp only [Option.all_some]
  generalize w.Clients[i]=c at *
  simp only [kB hs.1 E4.2.1,kB hs.2.1 E4.2.2.2.2.2.2.2.2,kB E4.2.2.2.2.2.2.2.1 hs.2.1,kB hs.2.2 E4.2.2.2.2.2.2.2.2,jB,zbi]
  rw [zcH c.Cn,zhA c.C.Cur.N,zcH c.C.Cur.Key s.C.Cur.Key]
  cases s.Cn==c.Cn
  ·rfl
  cases hN:s.C.Cur.N==c.C.Cur.N
  ·simp only [Bool.cond_false_right,cond_false,Bool.not_true,Bool.false_and,Bool.true_and,Bool.and_assoc]
  ·have hn:s.C.Cur.N=c.C.Cur.N:=by simpa using hN
   have:=zvq c.C.Cur.N
   rw [hn,this]
   cases s.C.Cur.Key==c.C.Cur.Key
   ·simp
   ·simp
    cases decide (s.C.Cur.Win.Top<c.C.Cur.Seq) <;> cases decide (c.C.Cur.Win.Top<s.C.Cur.Seq) <;> rfl
theorem CL.ok {x:lA [.v .World, .v .int]} (_:rA [.v .World, .v .int] x) {r:Bool}:xH x.1 x.2=some r→CL.raw x.1 x.2=some r:=HA fun h=>ztf x.1 x.2 h
theorem zsS {w:G.World} {id:Int} {i:Nat} (h:wt w≤bA) (hi:i<w.Clients.length) (Z4:id=(i:Int)+1) (e2:(id - 1).toNat=i):HJ w id=some (GS w w.Clients[i]):=by
 rw [HJ,QA ⟨h,by omega,by omega⟩,e2,List.getElem?_eq_getElem hi];rfl
theorem zqm (w:G.World) (id:Int) (h:wt w≤bA):JK.raw w id=some (fN w id):=by
 have hw:=YJ w h
 simp only [JK.raw,aA,SI,QA h,fN]
 cases ho:VF w
 ·rfl
 cases Z4:iA id 1 2
 ·rfl
 obtain ⟨i,hi,e0,e1,e2⟩:=zeg ho Z4
 have hcw:=nQ h hi
 have E4:=hJ _ hcw
 rw [zsS h hi e0 e2]
 simp only [Bool.not_true,cond_false,e2,dB,pC hi,Bool.true_and,GS]
 cases ha:JE w w.Clients[i] with
 | none=>rfl
 | some s=>
  have hs:=zf7 (zcr hw.2.2.2.1 ha)
  simp only [Option.all_some]
  generalize w.Clients[i]=c at *
  simp only [kB E4.2.1 hs.1,kB E4.2.2.2.2.2.2.2.2 hs.2.1,kB E4.2.2.2.2.2.2.2.1 hs.2.1,kB hs.2.2 E4.2.2.2.2.2.2.2.2,jB,zbi,Bool.cond_false_right,Bool.not_true,cond_false]
  cases c.Cn==s.Cn
  ·rfl
  cases c.C.Cur.N==s.C.Cur.N <;> cases c.C.Cur.Key==s.C.Cur.Key <;> simp [Bool.and_assoc]
theorem JK.ok {x:lA [.v .World, .v .int]} (_:rA [.v .World, .v .int] x) {r:Bool}:xH x.1 x.2=some r→JK.raw x.1 x.2=some r:=HA fun h=>zqm x.1 x.2 h
end Go.D
namespace Go.D
end Go.D
