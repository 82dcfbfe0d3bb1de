/-
  Sizes of the program's data.
-/
import Derived.Test.YtinolgjddfjojaaGreatN2
namespace Go.D
instance:Wt G.Credit:=⟨fun x=>wt x.A⟩
instance:Wt G.Frame:=⟨fun x=>wt x.Cn+wt x.Sn+wt x.Cookie+wt x.Proof+wt x.Body+wt x.Tag⟩
theorem wt_Frame (x:G.Frame):wt x=wt x.Cn+wt x.Sn+wt x.Cookie+wt x.Proof+wt x.Body+wt x.Tag:=rfl
instance:Wt G.Timer:=⟨fun _=>0⟩
theorem wt_Timer (x:G.Timer):wt x=0:=rfl
instance:Wt G.Client:=⟨fun x=>wt x.Psk+wt x.At+wt x.Cn+wt x.Fin+wt x.C+wt x.T+wt x.R⟩
theorem wt_Client (x:G.Client):wt x=wt x.Psk+wt x.At+wt x.Cn+wt x.Fin+wt x.C+wt x.T+wt x.R:=rfl
instance:Wt G.Jar:=⟨fun x=>wt x.Secret⟩
theorem wt_Jar (x:G.Jar):wt x=wt x.Secret:=rfl
instance:Wt G.Dice:=⟨fun x=>wt x.Seed⟩
theorem wt_Dice (x:G.Dice):wt x=wt x.Seed:=rfl
instance:Wt G.Cand:=⟨fun x=>wt x.A+wt x.Draw⟩
theorem wt_Cand (x:G.Cand):wt x=wt x.A+wt x.Draw:=rfl
instance:Wt G.Paths:=⟨fun x=>wt x.At+wt x.Cands⟩
theorem wt_Paths (x:G.Paths):wt x=wt x.At+wt x.Cands:=rfl
instance:Wt G.Sess:=⟨fun x=>wt x.Cn+wt x.Sn+wt x.C+wt x.P⟩
theorem wt_Sess (x:G.Sess):wt x=wt x.Cn+wt x.Sn+wt x.C+wt x.P:=rfl
instance:Wt G.Tab:=⟨fun x=>wt x.L⟩
theorem wt_Tab (x:G.Tab):wt x=wt x.L:=rfl
instance:Wt G.Server:=⟨fun x=>wt x.Psks+wt x.J+wt x.D+wt x.T+wt x.Cr⟩
theorem wt_Server (x:G.Server):wt x=wt x.Psks+wt x.J+wt x.D+wt x.T+wt x.Cr:=rfl
instance:Wt G.Wire:=⟨fun x=>wt x.From+wt x.To+wt x.B⟩
theorem wt_Wire (x:G.Wire):wt x=wt x.From+wt x.To+wt x.B:=rfl
instance:Wt G.World:=⟨fun x=>wt x.Clients+wt x.S+wt x.D+wt x.Seen+wt x.Known+wt x.Notes⟩
theorem wt_World (x:G.World):wt x=wt x.Clients+wt x.S+wt x.D+wt x.Seen+wt x.Known+wt x.Notes:=rfl
end Go.D
namespace Go.D
noncomputable section
def near (i:Int):G.Addr:=if 0≤i∧i≤255 then ⟨167772160+i,7000+i⟩ else ⟨0,0⟩
def hub:G.Addr:=near 0
def sameA (a b:G.Addr):Bool:=a.Host==b.Host&&a.Port==b.Port
def isLen (n k:Int):Bool:=n==0||n==k
def emptyOr (b:List UInt8) (n:Int):Bool:=isLen (b.length:Int) n
def noteOk (n:G.Note):Bool:=inR n.Kind 1 17&&inR n.Id 0 9&&inR n.Role 0 1&&emptyOr n.Cn 12&&emptyOr n.Sn 12&&inR n.Epoch 0 4294967295&&inR n.Seq 0 281474976710655&&decide ((n.Body.length:Int)≤100)&&emptyOr n.Key 32&&addrOk n.A&&inR n.Now 0 1000000
def partyAt (w:G.World) (a:G.Addr):Int:=bif sameA a hub then 0 else match w.Clients.find? fun c=>sameA c.At a with
  | some c=>c.Id
  | none=> -1
def partyAtO (w:G.World) (a:G.Addr):Option Int:=pt (wt w≤LIM) (partyAt w a)
def jarOk (j:G.Jar):Bool:=(j.Secret.length:Int)==32
def diceOk (d:G.Dice):Bool:=inR (d.Seed.length:Int) 1 32&&inR d.N 0 10000
def live (t:G.Tab):Int:=t.L.foldl (fun s e=>bif e.Dead then s else iadd .i64 s 1) 0
def liveO (t:G.Tab):Option Int:=pt (wt t≤LIM) (live t)
def noChan (c:G.Chan):Bool:=c.Role==0&&(c.Sn.length:Int)==0&&noEp c.Cur&&noEp c.Old&&!c.HasOld&&c.Until==0&&(c.Next.length:Int)==0
def candBad (p:G.Paths) (i:Nat):Bool:=(p.Cands[i]?).any fun e=>!addrOk e.A||!isNonce e.Draw||!inR e.Until 0 1000006||sameA e.A p.At||anyN i fun j=>(p.Cands[j]?).any fun d=>sameA d.A e.A
def pathsOk (p:G.Paths):Bool:=addrOk p.At&&decide ((p.Cands.length:Int)≤3)&&!(anyN p.Cands.length (candBad p))
def sessOk (s:G.Sess):Bool:=inR s.Id 1 9&&isNonce s.Cn&&isNonce s.Sn&&inR s.Tick 0 1000000&&bif s.Dead then noChan s.C&&sameA s.P.At ⟨0,0⟩&&(s.P.Cands.length:Int)==0&&s.Last==0
  else chanOk s.C&&s.C.Role==1&&s.C.Sn==s.Sn&&pathsOk s.P&&inR s.Last 0 1000000
def sessOkO (s:G.Sess):Option Bool:=pt (wt s≤LIM) (sessOk s)
def hasSn (t:G.Tab) (b:List UInt8) (i:Nat):Bool:=(t.L[i]?).any fun e=>e.Sn==b
def findSn (t:G.Tab) (b:List UInt8):Int:=findI t.L.length (hasSn t b)
def findSnO (t:G.Tab) (b:List UInt8):Option Int:=pt (wt t≤LIM∧wt b≤LIM) (findSn t b)
def sessBad (t:G.Tab) (i:Nat):Bool:=(t.L[i]?).any fun e=>!sessOk e||anyN i (hasSn t e.Sn)
def tabOk (t:G.Tab):Bool:=inR t.Cap 1 6&&decide ((t.L.length:Int)≤12)&&decide (live t≤t.Cap)&&!(anyN t.L.length (sessBad t))
def tabOkO (t:G.Tab):Option Bool:=pt (wt t≤LIM) (tabOk t)
def hasA (l:List G.Credit) (a:G.Addr) (i:Nat):Bool:=(l[i]?).any fun c=>sameA c.A a
def cAt (l:List G.Credit) (a:G.Addr):Int:=findI l.length (hasA l a)
def creditBad (l:List G.Credit) (i:Nat):Bool:=(l[i]?).any fun c=>!addrOk c.A||!inR c.Got 0 1000000||!inR c.Sent 0 (imul .i64 3 c.Got)||anyN i (hasA l c.A)
def creditsOk (l:List G.Credit):Bool:=decide ((l.length:Int)≤8)&&!(anyN l.length (creditBad l))
def pskOk (b:List UInt8):Bool:=inR (b.length:Int) 1 32
def serverOk (s:G.Server):Bool:=inR (s.Psks.length:Int) 1 9&&jarOk s.J&&diceOk s.D&&tabOk s.T&&creditsOk s.Cr&&!(s.Psks.any fun b=>!pskOk b)&&!(s.T.L.any fun e=>decide (e.Id>(s.Psks.length:Int)))
def serverOkO (s:G.Server):Option Bool:=pt (wt s≤LIM) (serverOk s)
def wireOk (w:G.Wire):Bool:=addrOk w.From&&addrOk w.To&&decide ((w.B.length:Int)≤200)
def wiresOk (l:List G.Wire):Bool:=!(l.any fun w=>!wireOk w)&&decide ((l.length:Int)≤90)
def noTimer (t:G.Timer):Bool:=t.On==false&&t.Due==0&&t.Wait==0&&t.Tries==0
def timerOk (t:G.Timer):Bool:=bif t.On then inR t.Due 0 1000008&&(t.Wait==1||t.Wait==2||t.Wait==4||t.Wait==8)&&inR t.Tries 1 5 else noTimer t
def noFrame (f:G.Frame):Bool:=f.Kind==0&&f.Id==0&&(f.Cn.length:Int)==0&&(f.Sn.length:Int)==0&&f.Tick==0&&(f.Cookie.length:Int)==0&&(f.Proof.length:Int)==0&&f.Epoch==0&&f.Seq==0&&(f.Body.length:Int)==0&&(f.Tag.length:Int)==0
def isSealed (k:Int):Bool:=inR k 4 8
def bodyOk (k n:Int):Bool:=bif k==4 then decide (n≤40) else bif k==5||k==6 then n==12 else n==4
def frameOk (f:G.Frame):Bool:=
  bif isSealed f.Kind then f.Id==0&&(f.Cn.length:Int)==0&&(f.Sn.length:Int)==12&&f.Tick==0&&(f.Cookie.length:Int)==0&&(f.Proof.length:Int)==0&&inR f.Epoch 0 4294967295&&inR f.Seq 0 281474976710655&&bodyOk f.Kind (f.Body.length:Int)&&(f.Tag.length:Int)==16
  else f.Epoch==0&&f.Seq==0&&(f.Body.length:Int)==0&&(f.Tag.length:Int)==0&&(f.Cn.length:Int)==12&&
    bif f.Kind==1 then inR f.Id 1 9&&(f.Sn.length:Int)==0&&f.Tick==0&&(f.Cookie.length:Int)==0&&(f.Proof.length:Int)==0
    else bif f.Kind==2 then f.Id==0&&(f.Sn.length:Int)==12&&inR f.Tick 0 1000000&&(f.Cookie.length:Int)==16&&(f.Proof.length:Int)==0
    else f.Kind==3&&inR f.Id 1 9&&(f.Sn.length:Int)==12&&inR f.Tick 0 1000000&&(f.Cookie.length:Int)==16&&(f.Proof.length:Int)==16
def finishOk (c:G.Client):Bool:=isNonce c.Cn&&c.Fin.Kind==3&&frameOk c.Fin&&c.Fin.Id==c.Id&&c.Fin.Cn==c.Cn&&chanOk c.C&&c.C.Role==0&&c.C.Sn==c.Fin.Sn&&c.C.Cur.N==0&&!c.C.HasOld&&(c.C.Next.length:Int)==0
def clientOk (c:G.Client):Bool:=inR c.Id 1 9&&pskOk c.Psk&&addrOk c.At&&
  bif c.St==0 then (c.Cn.length:Int)==0&&noFrame c.Fin&&noChan c.C&&noTimer c.T&&noTimer c.R&&c.Last==0
  else bif c.St==1 then isNonce c.Cn&&noFrame c.Fin&&noChan c.C&&c.T.On&&timerOk c.T&&noTimer c.R&&c.Last==0
  else bif c.St==2 then finishOk c&&c.T.On&&timerOk c.T&&noTimer c.R&&c.Last==0
  else c.St==3&&isNonce c.Cn&&noFrame c.Fin&&chanOk c.C&&c.C.Role==0&&noTimer c.T&&timerOk c.R&&c.R.On==decide ((c.C.Next.length:Int)>0)&&inR c.Last 0 1000000
def clientOkO (c:G.Client):Option Bool:=pt (wt c≤LIM) (clientOk c)
def clientBad (w:G.World) (i:Nat):Bool:=(w.Clients[i]?).any fun c=>(w.S.Psks[i]?).any fun p=>!clientOk c||c.Id !=((i+1:Nat):Int)||!(c.Psk==p)
def worldOk (w:G.World):Bool:=inR w.Now 0 1000000&&(w.Clients.length:Int)==2&&serverOk w.S&&(w.S.Psks.length:Int)==2&&diceOk w.D&&wiresOk w.Seen&&decide ((w.Known.length:Int)≤12)&&
  !(anyN 2 (clientBad w))&&!(w.Known.any fun b=>(b.length:Int) !=32)&&!(w.Notes.any fun n=>!noteOk n)
def ep00:G.Ep:=⟨0,[],0,⟨0,[]⟩⟩
end
end Go.D
namespace Go.D
noncomputable section
def spec_AddrOk.raw (a0:G.Addr):Option Bool:=
  joinK (fun (y1:Bool)=>
  some y1) fun k2=>
  cond ((inR a0.Host 0 4294967295))
  (k2 (inR a0.Port 0 65535))
  (k2 false)
def spec_Near.raw (a0:Int):Option G.Addr:=
  cond (!(inR a0 0 255))
  (some (⟨0,0⟩:G.Addr))
  (some (⟨iadd .i64 167772160 a0,iadd .i64 7000 a0⟩:G.Addr))
def spec_Hub.raw:Option G.Addr:=
  let r1:G.Addr:=near 0
  some r1
def spec_PartyAt.raw (a0:G.World) (a1:G.Addr):Option Int:=
  let r1:G.Addr:=hub
  let x2:Bool:=cond (a1.Host==r1.Host) (cond (a1.Port==r1.Port) (true) false) false
  cond (x2)
  (some 0)
  (joinK (fun (y3:Unit)=>
  some (-1)) fun k4=>
  loopK FU (fun (x5:Int) k6=>
  cond (decide (x5<(a0.Clients.length:Int)))
  (Option.bind (idxI a0.Clients x5) fun e7=>
  let x8:Bool:=cond (e7.At.Host==a1.Host) (cond (e7.At.Port==a1.Port) (true) false) false
  cond (x8)
  (Option.bind (idxI a0.Clients x5) fun e9=>
  some e9.Id)
  (k6 (iadd .i64 x5 1)))
  (k4 ())) 0)
def impl_ServerOk.raw (a0:G.Server):Option Bool:=
  joinK (fun (y1:Bool)=>
  cond (y1)
  (some false)
  (joinK (fun (y4:Unit)=>
  joinK (fun (y9:Unit)=>
  some true) fun k10=>
  loopK FU (fun (x11:Int) k12=>
  cond (decide (x11<(a0.T.L.length:Int)))
  (Option.bind (idxI a0.T.L x11) fun e13=>
  cond (decide (e13.Id>(a0.Psks.length:Int)))
  (some false)
  (k12 (iadd .i64 x11 1)))
  (k10 ())) 0) fun k5=>
  loopK FU (fun (x6:Int) k7=>
  cond (decide (x6<(a0.Psks.length:Int)))
  (Option.bind (idxI a0.Psks x6) fun e8=>
  cond (!(pskOk e8))
  (some false)
  (k7 (iadd .i64 x6 1)))
  (k5 ())) 0)) fun k2=>
  cond (!(inR (a0.Psks.length:Int) 1 9))
  (k2 true)
  (cond (!(jarOk a0.J))
  (k2 true)
  (cond (!(diceOk a0.D))
  (k2 true)
  (Option.bind (tabOkO a0.T) fun r3=>
  cond (!r3)
  (k2 true)
  (k2 (!(creditsOk a0.Cr))))))
def spec_DiceOk.raw (a0:G.Dice):Option Bool:=
  joinK (fun (y1:Bool)=>
  some y1) fun k2=>
  let r3:Bool:=inR (a0.Seed.length:Int) 1 32
  cond (r3)
  (k2 (inR a0.N 0 10000))
  (k2 false)
def spec_JarOk.raw (a0:G.Jar):Option Bool:=
  some ((a0.Secret.length:Int)==32)
def spec_Live.raw (a0:G.Tab):Option Int:=
  joinK (fun (y1:Int)=>
  some y1) fun k2=>
  loopK FU (fun (x3:Int × Int) k4=>
  cond (decide (x3.2<(a0.L.length:Int)))
  (Option.bind (idxI a0.L x3.2) fun e5=>
  joinK (fun (y6:Int)=>
  k4 (y6,(iadd .i64 x3.2 1))) fun k7=>
  cond (!e5.Dead)
  (k7 (iadd .i64 x3.1 1))
  (k7 x3.1))
  (k2 x3.1)) (0,0)
def spec_l19NoChan.raw (a0:G.Chan):Option Bool:=
  joinK (fun (y1:Bool)=>
  some y1) fun k2=>
  cond (a0.Role==0)
  (cond ((a0.Sn.length:Int)==0)
  (cond ((noEp a0.Cur))
  (cond ((noEp a0.Old))
  (cond (!a0.HasOld)
  (cond (a0.Until==0)
  (k2 ((a0.Next.length:Int)==0))
  (k2 false))
  (k2 false))
  (k2 false))
  (k2 false))
  (k2 false))
  (k2 false)
def spec_PathsOk.raw (a0:G.Paths):Option Bool:=
  joinK (fun (y1:Bool)=>
  cond (y1)
  (some false)
  (joinK (fun (y3:Unit)=>
  some true) fun k4=>
  loopK FU (fun (x5:Int) k6=>
  cond (decide (x5<(a0.Cands.length:Int)))
  (Option.bind (idxI a0.Cands x5) fun e7=>
  joinK (fun (y8:Bool)=>
  cond (y8)
  (some false)
  (joinK (fun (y11:Unit)=>
  k6 (iadd .i64 x5 1)) fun k12=>
  loopK FU (fun (x13:Int) k14=>
  cond (decide (x13<x5))
  (Option.bind (idxI a0.Cands x13) fun e15=>
  let x16:Bool:=cond (e15.A.Host==e7.A.Host) (cond (e15.A.Port==e7.A.Port) (true) false) false
  cond (x16)
  (some false)
  (k14 (iadd .i64 x13 1)))
  (k12 ())) 0)) fun k9=>
  cond (!(addrOk e7.A))
  (k9 true)
  (cond ((e7.Draw.length:Int) !=12)
  (k9 true)
  (cond (!(inR e7.Until 0 1000006))
  (k9 true)
  (let x10:Bool:=cond (e7.A.Host==a0.At.Host) (cond (e7.A.Port==a0.At.Port) (true) false) false
  k9 x10))))
  (k4 ())) 0)) fun k2=>
  cond (!(addrOk a0.At))
  (k2 true)
  (k2 (decide ((a0.Cands.length:Int)>3)))
def spec_SessOk.raw (a0:G.Sess):Option Bool:=
  joinK (fun (y1:Bool)=>
  cond (y1)
  (some false)
  (cond (a0.Dead)
  (joinK (fun (y3:Bool)=>
  some y3) fun k4=>
  cond ((noChan a0.C))
  (let r5:G.Addr:=near (-1)
  let x6:Bool:=cond (a0.P.At.Host==r5.Host) (cond (a0.P.At.Port==r5.Port) (true) false) false
  cond (x6)
  (cond ((a0.P.Cands.length:Int)==0)
  (k4 (a0.Last==0))
  (k4 false))
  (k4 false))
  (k4 false))
  (joinK (fun (y7:Bool)=>
  some y7) fun k8=>
  Option.bind (chanOkO a0.C) fun r9=>
  cond (r9)
  (cond (a0.C.Role==1)
  (Option.bind (sameO a0.C.Sn a0.Sn) fun r10=>
  cond (r10)
  (k8 (pathsOk a0.P))
  (k8 false))
  (k8 false))
  (k8 false)))) fun k2=>
  cond (!(inR a0.Id 1 9))
  (k2 true)
  (cond ((a0.Cn.length:Int) !=12)
  (k2 true)
  (cond ((a0.Sn.length:Int) !=12)
  (k2 true)
  (cond (!(inR a0.Tick 0 1000000))
  (k2 true)
  (k2 (!(inR a0.Last 0 1000000))))))
def spec_FindSn.raw (a0:G.Tab) (a1:List UInt8):Option Int:=
  joinK (fun (y1:Unit)=>
  some (-1)) fun k2=>
  loopK FU (fun (x3:Int) k4=>
  cond (decide (x3<(a0.L.length:Int)))
  (Option.bind (idxI a0.L x3) fun e5=>
  Option.bind (sameO e5.Sn a1) fun r6=>
  cond (r6)
  (some x3)
  (k4 (iadd .i64 x3 1)))
  (k2 ())) 0
def spec_TabOk.raw (a0:G.Tab):Option Bool:=
  joinK (fun (y1:Bool)=>
  cond (y1)
  (some false)
  (joinK (fun (y4:Unit)=>
  some true) fun k5=>
  loopK FU (fun (x6:Int) k7=>
  cond (decide (x6<(a0.L.length:Int)))
  (joinK (fun (y8:Bool)=>
  cond (y8)
  (some false)
  (k7 (iadd .i64 x6 1))) fun k9=>
  Option.bind (idxI a0.L x6) fun e10=>
  Option.bind (sessOkO e10) fun r11=>
  cond (!r11)
  (k9 true)
  (Option.bind (idxI a0.L x6) fun e12=>
  Option.bind (findSnO a0 e12.Sn) fun r13=>
  k9 (r13 !=x6)))
  (k5 ())) 0)) fun k2=>
  cond (!(inR a0.Cap 1 6))
  (k2 true)
  (cond (decide ((a0.L.length:Int)>12))
  (k2 true)
  (Option.bind (liveO a0) fun r3=>
  k2 (decide (r3>a0.Cap))))
def spec_CreditsOk.raw (a0:List G.Credit):Option Bool:=
  cond (decide ((a0.length:Int)>8))
  (some false)
  (joinK (fun (y1:Unit)=>
  some true) fun k2=>
  loopK FU (fun (x3:Int) k4=>
  cond (decide (x3<(a0.length:Int)))
  (joinK (fun (y5:Bool)=>
  cond (y5)
  (some false)
  (joinK (fun (y12:Unit)=>
  k4 (iadd .i64 x3 1)) fun k13=>
  loopK FU (fun (x14:Int) k15=>
  cond (decide (x14<x3))
  (Option.bind (idxI a0 x14) fun e16=>
  Option.bind (idxI a0 x3) fun e17=>
  let x18:Bool:=cond (e16.A.Host==e17.A.Host) (cond (e16.A.Port==e17.A.Port) (true) false) false
  cond (x18)
  (some false)
  (k15 (iadd .i64 x14 1)))
  (k13 ())) 0)) fun k6=>
  Option.bind (idxI a0 x3) fun e7=>
  cond (!(addrOk e7.A))
  (k6 true)
  (Option.bind (idxI a0 x3) fun e8=>
  cond (!(inR e8.Got 0 1000000))
  (k6 true)
  (Option.bind (idxI a0 x3) fun e9=>
  Option.bind (idxI a0 x3) fun e10=>
  let r11:Bool:=inR e9.Sent 0 (imul .i64 3 e10.Got)
  k6 (!r11))))
  (k2 ())) 0)
def spec_PskOk.raw (a0:List UInt8):Option Bool:=
  some (inR (a0.length:Int) 1 32)
def spec_ServerOk.raw (a0:G.Server):Option Bool:=
  joinK (fun (y1:Bool)=>
  cond (y1)
  (some false)
  (joinK (fun (y4:Unit)=>
  joinK (fun (y9:Unit)=>
  some true) fun k10=>
  loopK FU (fun (x11:Int) k12=>
  cond (decide (x11<(a0.T.L.length:Int)))
  (Option.bind (idxI a0.T.L x11) fun e13=>
  cond (decide (e13.Id>(a0.Psks.length:Int)))
  (some false)
  (k12 (iadd .i64 x11 1)))
  (k10 ())) 0) fun k5=>
  loopK FU (fun (x6:Int) k7=>
  cond (decide (x6<(a0.Psks.length:Int)))
  (Option.bind (idxI a0.Psks x6) fun e8=>
  cond (!(pskOk e8))
  (some false)
  (k7 (iadd .i64 x6 1)))
  (k5 ())) 0)) fun k2=>
  cond (!(inR (a0.Psks.length:Int) 1 9))
  (k2 true)
  (cond (!(jarOk a0.J))
  (k2 true)
  (cond (!(diceOk a0.D))
  (k2 true)
  (Option.bind (tabOkO a0.T) fun r3=>
  cond (!r3)
  (k2 true)
  (k2 (!(creditsOk a0.Cr))))))
def spec_TimerOk.raw (a0:G.Timer):Option Bool:=
  cond (!a0.On)
  (let x1:Bool:=cond (a0.On==false) (cond (a0.Due==0) (cond (a0.Wait==0) (cond (a0.Tries==0) (true) false) false) false) false
  some x1)
  (joinK (fun (y2:Bool)=>
  some y2) fun k3=>
  cond ((inR a0.Due 0 1000008))
  (cond (a0.Wait==1)
  (k3 (inR a0.Tries 1 5))
  (cond (a0.Wait==2)
  (k3 (inR a0.Tries 1 5))
  (cond (a0.Wait==4)
  (k3 (inR a0.Tries 1 5))
  (cond (a0.Wait==8)
  (k3 (inR a0.Tries 1 5))
  (k3 false)))))
  (k3 false))
def spec_l19NoFrame.raw (a0:G.Frame):Option Bool:=
  joinK (fun (y1:Bool)=>
  some y1) fun k2=>
  cond (a0.Kind==0)
  (cond (a0.Id==0)
  (cond ((a0.Cn.length:Int)==0)
  (cond ((a0.Sn.length:Int)==0)
  (cond (a0.Tick==0)
  (cond ((a0.Cookie.length:Int)==0)
  (cond ((a0.Proof.length:Int)==0)
  (cond (a0.Epoch==0)
  (cond (a0.Seq==0)
  (cond ((a0.Body.length:Int)==0)
  (k2 ((a0.Tag.length:Int)==0))
  (k2 false))
  (k2 false))
  (k2 false))
  (k2 false))
  (k2 false))
  (k2 false))
  (k2 false))
  (k2 false))
  (k2 false))
  (k2 false)
def spec_Sealed.raw (a0:Int):Option Bool:=
  some (inR a0 4 8)
def spec_l7Body.raw (a0:Int) (a1:Int):Option Bool:=
  cond (a0==4)
  (some (decide (a1≤40)))
  (joinK (fun (y1:Bool)=>
  cond (y1)
  (some (a1==12))
  (some (a1==4))) fun k2=>
  cond (a0==5)
  (k2 true)
  (k2 (a0==6)))
def spec_FrameOk.raw (a0:G.Frame):Option Bool:=
  cond ((isSealed a0.Kind))
  (joinK (fun (y1:Bool)=>
  some y1) fun k2=>
  cond (a0.Id==0)
  (cond ((a0.Cn.length:Int)==0)
  (cond ((a0.Sn.length:Int)==12)
  (cond (a0.Tick==0)
  (cond ((a0.Cookie.length:Int)==0)
  (cond ((a0.Proof.length:Int)==0)
  (cond ((inR a0.Epoch 0 4294967295))
  (cond ((inR a0.Seq 0 281474976710655))
  (let r3:Bool:=bodyOk a0.Kind (a0.Body.length:Int)
  cond (r3)
  (k2 ((a0.Tag.length:Int)==16))
  (k2 false))
  (k2 false))
  (k2 false))
  (k2 false))
  (k2 false))
  (k2 false))
  (k2 false))
  (k2 false))
  (k2 false))
  (joinK (fun (y4:Bool)=>
  cond (y4)
  (some false)
  (cond (a0.Kind==1)
  (joinK (fun (y6:Bool)=>
  some y6) fun k7=>
  cond ((inR a0.Id 1 9))
  (cond ((a0.Sn.length:Int)==0)
  (cond (a0.Tick==0)
  (cond ((a0.Cookie.length:Int)==0)
  (k7 ((a0.Proof.length:Int)==0))
  (k7 false))
  (k7 false))
  (k7 false))
  (k7 false))
  (cond (a0.Kind==2)
  (joinK (fun (y8:Bool)=>
  some y8) fun k9=>
  cond (a0.Id==0)
  (cond ((a0.Sn.length:Int)==12)
  (cond ((inR a0.Tick 0 1000000))
  (cond ((a0.Cookie.length:Int)==16)
  (k9 ((a0.Proof.length:Int)==0))
  (k9 false))
  (k9 false))
  (k9 false))
  (k9 false))
  (cond (a0.Kind==3)
  (joinK (fun (y10:Bool)=>
  some y10) fun k11=>
  cond ((inR a0.Id 1 9))
  (cond ((a0.Sn.length:Int)==12)
  (cond ((inR a0.Tick 0 1000000))
  (cond ((a0.Cookie.length:Int)==16)
  (k11 ((a0.Proof.length:Int)==16))
  (k11 false))
  (k11 false))
  (k11 false))
  (k11 false))
  (some false))))) fun k5=>
  cond (a0.Epoch !=0)
  (k5 true)
  (cond (a0.Seq !=0)
  (k5 true)
  (cond ((a0.Body.length:Int) !=0)
  (k5 true)
  (cond ((a0.Tag.length:Int) !=0)
  (k5 true)
  (k5 ((a0.Cn.length:Int) !=12))))))
def spec_ClientOk.raw (a0:G.Client):Option Bool:=
  joinK (fun (y1:Bool)=>
  cond (y1)
  (some false)
  (cond (a0.St==0)
  (joinK (fun (y3:Bool)=>
  some y3) fun k4=>
  cond ((a0.Cn.length:Int)==0)
  (cond ((noFrame a0.Fin))
  (cond ((noChan a0.C))
  (cond (!a0.T.On)
  (cond (!a0.R.On)
  (k4 (a0.Last==0))
  (k4 false))
  (k4 false))
  (k4 false))
  (k4 false))
  (k4 false))
  (cond ((a0.Cn.length:Int) !=12)
  (some false)
  (cond (a0.St==3)
  (joinK (fun (y5:Bool)=>
  some y5) fun k6=>
  cond ((noFrame a0.Fin))
  (Option.bind (chanOkO a0.C) fun r7=>
  cond (r7)
  (cond (a0.C.Role==0)
  (cond (!a0.T.On)
  (k6 (a0.R.On==(decide ((a0.C.Next.length:Int)>0))))
  (k6 false))
  (k6 false))
  (k6 false))
  (k6 false))
  (joinK (fun (y8:Bool)=>
  cond (y8)
  (some false)
  (cond (a0.St==1)
  (joinK (fun (y10:Bool)=>
  some y10) fun k11=>
  cond ((noFrame a0.Fin))
  (k11 (noChan a0.C))
  (k11 false))
  (joinK (fun (y12:Bool)=>
  some y12) fun k13=>
  cond (a0.St==2)
  (cond ((frameOk a0.Fin))
  (cond (a0.Fin.Kind==3)
  (cond (a0.Fin.Id==a0.Id)
  (Option.bind (sameO a0.Fin.Cn a0.Cn) fun r14=>
  cond (r14)
  (Option.bind (chanOkO a0.C) fun r15=>
  cond (r15)
  (cond (a0.C.Role==0)
  (Option.bind (sameO a0.C.Sn a0.Fin.Sn) fun r16=>
  cond (r16)
  (cond (a0.C.Cur.N==0)
  (cond (!a0.C.HasOld)
  (k13 ((a0.C.Next.length:Int)==0))
  (k13 false))
  (k13 false))
  (k13 false))
  (k13 false))
  (k13 false))
  (k13 false))
  (k13 false))
  (k13 false))
  (k13 false))
  (k13 false)))) fun k9=>
  cond (!a0.T.On)
  (k9 true)
  (cond (a0.R.On)
  (k9 true)
  (k9 (a0.Last !=0)))))))) fun k2=>
  cond (!(inR a0.Id 1 9))
  (k2 true)
  (cond (!(pskOk a0.Psk))
  (k2 true)
  (cond (!(addrOk a0.At))
  (k2 true)
  (cond (!(timerOk a0.T))
  (k2 true)
  (cond (!(timerOk a0.R))
  (k2 true)
  (k2 (!(inR a0.Last 0 1000000)))))))
end
end Go.D
namespace Go.D
end Go.D
namespace Go.D
theorem spec_AddrOk.ok {x:TyTup [.v .Addr]} (_:bdTup [.v .Addr] x):spec_AddrOk.raw x=some (addrOk x):=addrOk_raw x
theorem near_raw (i:Int):(cond (!(inR i 0 255)) (some (⟨0,0⟩:G.Addr)) (some (⟨iadd .i64 167772160 i,iadd .i64 7000 i⟩:G.Addr)))=some (near i):=by
  cases h:inR i 0 255
  · rw [inR_not] at h
    simp [near,h]
  · rw [inR_iff] at h
    simp only [Bool.not_true,cond_false,near,h,and_self,if_true,iadd]
    rw [wrap_i64 (by omega) (by omega),wrap_i64 (by omega) (by omega)]
theorem spec_Near.ok {x:TyTup [.v .int]} (_:bdTup [.v .int] x):spec_Near.raw x=some (near x):=near_raw _
theorem spec_Hub.ok {x:TyTup []} (_:bdTup [] x):spec_Hub.raw=some hub:=rfl
theorem sameA_raw (a b:G.Addr):(cond (a.Host==b.Host) (cond (a.Port==b.Port) (true) false) false)=sameA a b:=by
  simp only [sameA,Bool.cond_false_right,Bool.and_true]
theorem spec_PartyAt_raw (w:G.World) (a:G.Addr) (h:wt w≤LIM):spec_PartyAt.raw w a=some (partyAt w a):=by
  rw [wt_World] at h
  simp only [spec_PartyAt.raw,joinK,sameA_raw]
  rw [loop_elem w.Clients (len_lim (by omega)) (fun c=>sameA c.At a) (fun c=>some c.Id) (some (-1)) (fun i k hi=>?_) (fun k=>by simp only [lt_end,cond_false])]
  · rw [partyAt];cases sameA a hub
    · cases w.Clients.find? _ <;> rfl
    · rfl
  · simp only [lt_len hi,cond_true,idxI_get hi,bind_some']
theorem spec_PartyAt.ok {x:TyTup [.v .World, .v .Addr]} (_:bdTup [.v .World, .v .Addr] x) {r:Int}:partyAtO x.1 x.2=some r→spec_PartyAt.raw x.1 x.2=some r:=pt_ok fun h=>spec_PartyAt_raw x.1 x.2 h
theorem spec_JarOk.ok {x:TyTup [.v .Jar]} (_:bdTup [.v .Jar] x):spec_JarOk.raw x=some (jarOk x):=rfl
theorem diceOk_raw (d:G.Dice):(joinK (fun (y1:Bool)=>some y1) fun k2=>cond (inR (d.Seed.length:Int) 1 32) (k2 (inR d.N 0 10000)) (k2 false))=some (diceOk d):=by
  simp only [joinK,cond_some,Bool.cond_false_right,diceOk]
theorem spec_DiceOk.ok {x:TyTup [.v .Dice]} (_:bdTup [.v .Dice] x):spec_DiceOk.raw x=some (diceOk x):=diceOk_raw x
theorem live_raw (t:G.Tab) (h:wt t≤LIM):(joinK (fun (y1:Int)=>some y1) fun k2=>loopK FU (fun (x3:Int × Int) k4=>cond (decide (x3.2<(t.L.length:Int))) (Option.bind (idxI t.L x3.2) fun e5=>
    joinK (fun (y6:Int)=>k4 (y6,(iadd .i64 x3.2 1))) fun k7=>cond (!e5.Dead) (k7 (iadd .i64 x3.1 1)) (k7 x3.1)) (k2 x3.1)) (0,0))=some (live t):=by
  rw [wt_Tab] at h
  simp only [joinK]
  rw [loop_fold t.L (len_lim h) (fun s e=>bif e.Dead then s else iadd .i64 s 1) (fun s=>some s) (fun i s k hi=>?_) (fun s k=>by simp only [lt_end,cond_false])]
  · rfl
  · simp only [lt_len hi,cond_true,idxI_get hi,bind_some']
    cases t.L[i].Dead <;> rfl
theorem spec_Live.ok {x:TyTup [.v .Tab]} (_:bdTup [.v .Tab] x) {r:Int}:liveO x=some r→spec_Live.raw x=some r:=pt_ok fun h=>live_raw x h
theorem spec_l19NoChan.ok {x:TyTup [.v .Chan]} (_:bdTup [.v .Chan] x):spec_l19NoChan.raw x=some (noChan x):=by
  show spec_l19NoChan.raw (x:G.Chan)=some (noChan (x:G.Chan))
  generalize (show G.Chan from x)=c
  simp only [spec_l19NoChan.raw,joinK,cond_some,Bool.cond_false_right,noChan]
  grind
theorem not_gt (a b:Int):decide (a>b)= !decide (a≤b):=by
  by_cases h:a≤b
  · rw [decide_eq_true h,decide_eq_false (by omega)];rfl
  · rw [decide_eq_false h,decide_eq_true (by omega)];rfl
theorem spec_PathsOk.ok {x:TyTup [.v .Paths]} (_:bdTup [.v .Paths] x):spec_PathsOk.raw x=some (pathsOk x):=by
  show spec_PathsOk.raw (x:G.Paths)=some (pathsOk (x:G.Paths))
  generalize (show G.Paths from x)=p
  simp only [spec_PathsOk.raw,joinK,sameA_raw,pathsOk,not_gt (p.Cands.length:Int) 3]
  cases addrOk p.At
  · rfl
  cases hd:decide ((p.Cands.length:Int)≤3)
  · rfl
  have hd:=of_decide_eq_true hd
  have hl:p.Cands.length≤maxLen:=by rw [maxLen_is];omega
  simp only [Bool.not_true,cond_false]
  rw [loop_any p.Cands.length hl (candBad p) (some false) (some true) (fun i k hi=>?_) (fun k=>by simp only [lt_end,cond_false])]
  · cases anyN _ _ <;> rfl
  · simp only [lt_len hi,cond_true,idxI_get hi,bind_some']
    rw [loop_any i (by omega) (fun j=>(p.Cands[j]?).any fun d=>sameA d.A p.Cands[i].A) (some false) (k (iadd .i64 (i:Int) 1)) (fun j k' hj=>?_) (fun k'=>by simp only [lt_end,cond_false])]
    · simp only [candBad,at_any hi,isNonce]
      cases addrOk p.Cands[i].A <;> cases hn:((p.Cands[i].Draw.length:Int)==12) <;> cases inR p.Cands[i].Until 0 1000006 <;> cases sameA p.Cands[i].A p.At <;> cases anyN i _ <;> simp [bne,hn]
    · simp only [lt_len hj,cond_true,idxI_get (Nat.lt_trans hj hi),bind_some',at_any (Nat.lt_trans hj hi)]
theorem spec_SessOk_raw (s:G.Sess) (h:wt s≤LIM):spec_SessOk.raw s=some (sessOk s):=by
  rw [wt_Sess] at h
  have hc:=wt_Chan s.C
  have hn:near (-1)=⟨0,0⟩:=rfl
  have h0:s.Last=0→inR s.Last 0 1000000=true:=fun h=>by rw [h];rfl
  simp only [spec_SessOk.raw,joinK,sameA_raw]
  simp only [hn,chanOkO,pt_bind (p:=wt s.C≤LIM) (by omega),sameO_bind (a:=s.C.Sn) (b:=s.Sn) (by omega) (by omega),sessOk,isNonce]
  cases s.Dead <;> simp only [cond_some,Bool.cond_false_right,cond_true,cond_false] <;> grind
theorem spec_SessOk.ok {x:TyTup [.v .Sess]} (_:bdTup [.v .Sess] x) {r:Bool}:sessOkO x=some r→spec_SessOk.raw x=some r:=pt_ok fun h=>spec_SessOk_raw x h
theorem findSn_raw (t:G.Tab) (b:List UInt8) (h:wt t≤LIM∧wt b≤LIM):(joinK (fun (y1:Unit)=>some (-1)) fun k2=>loopK FU (fun (x3:Int) k4=>cond (decide (x3<(t.L.length:Int))) (Option.bind (idxI t.L x3) fun e5=>
    Option.bind (sameO e5.Sn b) fun r6=>cond (r6) (some x3) (k4 (iadd .i64 x3 1))) (k2 ())) 0)=some (findSn t b):=by
  rw [wt_Tab] at h
  simp only [joinK]
  rw [loop_findI t.L.length (len_lim h.1) (hasSn t b) (fun i k hi=>?_) (fun k=>by simp only [lt_end,cond_false])]
  · rfl
  · have:=wt_get hi
    have hs:=wt_Sess t.L[i]
    simp only [lt_len hi,cond_true,idxI_get hi,bind_some',hasSn,at_any hi,sameO_bind (a:=t.L[i].Sn) (b:=b) (by omega) h.2]
theorem spec_FindSn.ok {x:TyTup [.v .Tab, .sl .byte]} (_:bdTup [.v .Tab, .sl .byte] x) {r:Int}:findSnO x.1 x.2=some r→spec_FindSn.raw x.1 x.2=some r:=pt_ok fun h=>findSn_raw x.1 x.2 h
theorem hasSn_self {t:G.Tab} {i:Nat} (hi:i<t.L.length):hasSn t t.L[i].Sn i=true:=by simp [hasSn,hi]
theorem sess_wt {t:G.Tab} (h:wt t≤LIM) {i:Nat} (hi:i<t.L.length):wt t.L[i]≤LIM∧wt t.L[i].Sn≤LIM:=by
  rw [wt_Tab] at h
  have:=wt_get hi
  have hs:=wt_Sess t.L[i]
  omega
theorem spec_TabOk_raw (t:G.Tab) (h:wt t≤LIM):spec_TabOk.raw t=some (tabOk t):=by
  have hl:=len_lim (wt_Tab t ▸ h)
  simp only [spec_TabOk.raw,joinK,tabOk,liveO,pt_bind h,not_gt (t.L.length:Int) 12,not_gt (live t) t.Cap]
  have key:loopK FU (fun (x5:Int) k6=>cond (decide (x5<(t.L.length:Int))) (Option.bind (idxI t.L x5) fun e9=>Option.bind (sessOkO e9) fun r10=>cond (!r10) (cond true (some false) (k6 (iadd .i64 x5 1))) (Option.bind (idxI t.L x5) fun e11=>
      Option.bind (findSnO t e11.Sn) fun r12=>cond (r12 !=x5) (some false) (k6 (iadd .i64 x5 1)))) (some true)) 0=some (!(anyN t.L.length (sessBad t))):=by
    rw [loop_any t.L.length hl (sessBad t) (some false) (some true) (fun i k hi=>?_) (fun k=>by simp only [lt_end,cond_false])]
    · cases anyN _ _ <;> rfl
    · have hw:=sess_wt h hi
      simp only [lt_len hi,cond_true,idxI_get hi,bind_some',sessOkO,pt_bind hw.1,findSnO,pt_bind (p:=wt t≤LIM∧wt t.L[i].Sn≤LIM) ⟨h,hw.2⟩,findSn,(findI_lt hi (hasSn_self hi)).2,sessBad,at_any hi]
      cases sessOk t.L[i] <;> cases anyN i _ <;> rfl
  rw [key]
  cases inR t.Cap 1 6 <;> cases decide ((t.L.length:Int)≤12) <;> cases decide (live t≤t.Cap) <;> rfl
theorem spec_TabOk.ok {x:TyTup [.v .Tab]} (_:bdTup [.v .Tab] x) {r:Bool}:tabOkO x=some r→spec_TabOk.raw x=some r:=pt_ok fun h=>spec_TabOk_raw x h
end Go.D
namespace Go.D
theorem cAt_raw (l:List G.Credit) (a:G.Addr) (hl:l.length≤maxLen):(joinK (fun (y1:Unit)=>some (-1)) fun k2=>loopK FU (fun (x3:Int) k4=>cond (decide (x3<(l.length:Int))) (Option.bind (idxI l x3) fun e5=>
    cond (cond (e5.A.Host==a.Host) (cond (e5.A.Port==a.Port) (true) false) false) (some x3) (k4 (iadd .i64 x3 1))) (k2 ())) 0)=some (cAt l a):=by
  simp only [joinK,sameA_raw]
  rw [loop_findI l.length hl (hasA l a) (fun i k hi=>?_) (fun k=>by simp only [lt_end,cond_false])]
  · rfl
  · simp only [lt_len hi,cond_true,idxI_get hi,bind_some',hasA,at_any hi]
theorem spec_CreditsOk.ok {x:TyTup [.sl .Credit]} (hb:bdTup [.sl .Credit] x):spec_CreditsOk.raw x=some (creditsOk x):=by
  show spec_CreditsOk.raw (x:List G.Credit)=some (creditsOk (x:List G.Credit))
  have hl:(show List G.Credit from x).length≤maxLen:=hb.1
  generalize (show List G.Credit from x)=l at hl ⊢
  simp only [spec_CreditsOk.raw,joinK,creditsOk,not_gt (l.length:Int) 8,sameA_raw]
  rw [loop_any l.length hl (creditBad l) (some false) (some true) (fun i k hi=>?_) (fun k=>by simp only [lt_end,cond_false])]
  · cases decide ((l.length:Int)≤8) <;> cases anyN _ _ <;> rfl
  · simp only [lt_len hi,cond_true,idxI_get hi,bind_some']
    rw [loop_any i (by omega) (hasA l l[i].A) (some false) (k (iadd .i64 (i:Int) 1)) (fun j k' hj=>?_) (fun k'=>by simp only [lt_end,cond_false])]
    · simp only [creditBad,at_any hi]
      cases addrOk l[i].A <;> cases inR l[i].Got 0 1000000 <;> cases inR l[i].Sent 0 _ <;> cases anyN i _ <;> rfl
    · simp only [lt_len hj,cond_true,idxI_get (Nat.lt_trans hj hi),bind_some',hasA,at_any (Nat.lt_trans hj hi)]
theorem spec_PskOk.ok {x:TyTup [.sl .byte]} (_:bdTup [.sl .byte] x):spec_PskOk.raw x=some (pskOk x):=rfl
theorem serverOk_raw (s:G.Server) (h:wt s≤LIM):impl_ServerOk.raw s=some (serverOk s):=by
  rw [wt_Server] at h
  have hT:=wt_Tab s.T
  simp only [impl_ServerOk.raw,joinK,tabOkO,pt_bind (p:=wt s.T≤LIM) (by omega),serverOk]
  rw [loop_list s.Psks (len_lim (by omega)) (fun b=>!pskOk b) (some false) _ (fun i k hi=>?_) (fun k=>by simp only [lt_end,cond_false];rfl)]
  · rw [loop_list s.T.L (len_lim (by omega)) (fun e=>decide (e.Id>(s.Psks.length:Int))) (some false) (some true) (fun i k hi=>?_) (fun k=>by simp only [lt_end,cond_false])]
    · cases inR (s.Psks.length:Int) 1 9 <;> cases jarOk s.J <;> cases diceOk s.D <;> cases tabOk s.T <;> cases creditsOk s.Cr <;> cases s.Psks.any _ <;> cases s.T.L.any _ <;> rfl
    · simp only [lt_len hi,cond_true,idxI_get hi,bind_some']
  · simp only [lt_len hi,cond_true,idxI_get hi,bind_some']
theorem spec_ServerOk.ok {x:TyTup [.v .Server]} (_:bdTup [.v .Server] x) {r:Bool}:serverOkO x=some r→spec_ServerOk.raw x=some r:=pt_ok fun h=>serverOk_raw x h
theorem noTimer_raw (t:G.Timer):(cond (t.On==false) (cond (t.Due==0) (cond (t.Wait==0) (cond (t.Tries==0) (true) false) false) false) false)=noTimer t:=by
  simp only [Bool.cond_false_right,noTimer,Bool.and_true,Bool.and_assoc]
theorem spec_TimerOk.ok {x:TyTup [.v .Timer]} (_:bdTup [.v .Timer] x):spec_TimerOk.raw x=some (timerOk x):=by
  show spec_TimerOk.raw (x:G.Timer)=some (timerOk (x:G.Timer))
  generalize (show G.Timer from x)=t
  simp only [spec_TimerOk.raw,noTimer_raw,joinK,timerOk]
  cases t.On
  · rfl
  · simp only [Bool.not_true,cond_false,cond_true,cond_some]
    cases inR t.Due 0 1000008 <;> cases inR t.Tries 1 5 <;> grind
theorem spec_l19NoFrame.ok {x:TyTup [.v .Frame]} (_:bdTup [.v .Frame] x):spec_l19NoFrame.raw x=some (noFrame x):=by
  show spec_l19NoFrame.raw (x:G.Frame)=some (noFrame (x:G.Frame))
  generalize (show G.Frame from x)=f
  simp only [spec_l19NoFrame.raw,joinK,cond_some,Bool.cond_false_right,noFrame,Bool.and_assoc]
theorem spec_Sealed.ok {x:TyTup [.v .int]} (_:bdTup [.v .int] x):spec_Sealed.raw x=some (isSealed x):=rfl
theorem spec_l7Body.ok {x:TyTup [.v .int, .v .int]} (_:bdTup [.v .int, .v .int] x):spec_l7Body.raw x.1 x.2=some (bodyOk x.1 x.2):=by
  simp only [spec_l7Body.raw,joinK,cond_some,bodyOk]
  cases h5:x.1==(5:Int) <;> cases h4:x.1==(4:Int) <;> simp
theorem bne_not (a b:Int):(a !=b)= !(a==b):=rfl
theorem spec_FrameOk.ok {x:TyTup [.v .Frame]} (_:bdTup [.v .Frame] x):spec_FrameOk.raw x=some (frameOk x):=by
  show spec_FrameOk.raw (x:G.Frame)=some (frameOk (x:G.Frame))
  generalize (show G.Frame from x)=f
  simp only [spec_FrameOk.raw,joinK,cond_some,Bool.cond_false_right,Bool.cond_false_left,frameOk,bne_not]
  cases isSealed f.Kind
  · simp only [cond_false]
    cases f.Epoch==0 <;> cases f.Seq==0 <;> cases (f.Body.length:Int)==0 <;> cases (f.Tag.length:Int)==0 <;> cases (f.Cn.length:Int)==12 <;> simp [Bool.and_assoc]
  · simp only [cond_true,Bool.and_assoc]
end Go.D
namespace Go.D
theorem client_wt (c:G.Client) (h:wt c≤LIM):wt c.Psk≤LIM∧wt c.Cn≤LIM∧wt c.Fin≤LIM∧wt c.C≤LIM∧wt c.Fin.Cn≤LIM∧wt c.Fin.Sn≤LIM∧wt c.C.Sn≤LIM∧wt c.C.Next≤LIM∧wt c.C.Cur.Key≤LIM:=by
  rw [wt_Client] at h
  have h1:=wt_Frame c.Fin
  have h2:=wt_Chan c.C
  have h3:=wt_Ep c.C.Cur
  omega
theorem timer_off {t:G.Timer} (h:t.On=false):timerOk t=noTimer t:=by rw [timerOk,h];rfl
theorem timer_on {t:G.Timer} (h:t.On=true):noTimer t=false:=by rw [noTimer,h];rfl
theorem spec_ClientOk_raw (c:G.Client) (h:wt c≤LIM):spec_ClientOk.raw c=some (clientOk c):=by
  have hw:=client_wt c h
  have hL:c.Last=0→inR c.Last 0 1000000=true:=fun h=>by rw [h];rfl
  have hT0:=timer_off (t:=c.T)
  have hT1:=timer_on (t:=c.T)
  have hR0:=timer_off (t:=c.R)
  have hR1:=timer_on (t:=c.R)
  simp only [spec_ClientOk.raw,joinK,chanOkO,pt_bind (p:=wt c.C≤LIM) hw.2.2.2.1,sameO_bind hw.2.2.2.2.1 hw.2.1,sameO_bind hw.2.2.2.2.2.2.1 hw.2.2.2.2.2.1,
    cond_some,Bool.cond_false_right,Bool.cond_false_left,clientOk,finishOk,bne_not,Bool.not_not,isNonce]
  refine congrArg some ?_
  cases inR c.Id 1 9
  · rfl
  cases pskOk c.Psk
  · rfl
  cases addrOk c.At
  · rfl
  simp only [Bool.true_and]
  by_cases s0:c.St=0
  · simp only [s0,beq_self_eq_true,cond_true]
    cases hT:c.T.On <;> cases hR:c.R.On <;> simp_all <;> grind
  · have e0:(c.St==0)=false:=beq_false_of_ne s0
    by_cases s3:c.St=3
    · simp only [s3]
      cases hT:c.T.On <;> simp_all <;> grind
    · have e3:(c.St==3)=false:=beq_false_of_ne s3
      simp only [e0,e3,cond_false]
      cases hT:c.T.On
      · simp
      · cases hR:c.R.On
        · by_cases s1:c.St=1
          · simp_all;grind
          · have e1:(c.St==1)=false:=beq_false_of_ne s1
            simp only [e1,cond_false]
            by_cases s2:c.St=2
            · simp_all;grind
            · have e2:(c.St==2)=false:=beq_false_of_ne s2
              simp [e2]
        · simp_all
theorem spec_ClientOk.ok {x:TyTup [.v .Client]} (_:bdTup [.v .Client] x) {r:Bool}:clientOkO x=some r→spec_ClientOk.raw x=some r:=pt_ok fun h=>spec_ClientOk_raw x h
end Go.D
namespace Go.D
end Go.D
