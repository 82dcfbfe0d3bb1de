/-
  Sizes of the program's data.
-/
import Derived.Test.YtoambampcllmcaaGreatN2
namespace Go.D

instance : Wt G.Credit := ⟨fun x => wt x.A⟩
theorem wt_Credit (x : G.Credit) : wt x = wt x.A := rfl
instance : Wt G.Frame := ⟨fun x => wt x.Cn + wt x.Sn + wt x.Cookie + wt x.Proof + wt x.Body + wt x.Tag⟩
theorem wt_Frame (x : G.Frame) : wt x = wt x.Cn + wt x.Sn + wt x.Cookie + wt x.Proof + wt x.Body + wt x.Tag := rfl
instance : Wt G.Timer := ⟨fun _ => 0⟩
theorem wt_Timer (x : G.Timer) : wt x = 0 := rfl
instance : Wt G.Client := ⟨fun x => wt x.Psk + wt x.At + wt x.Cn + wt x.Fin + wt x.C + wt x.T + wt x.R⟩
theorem wt_Client (x : G.Client) : wt x = wt x.Psk + wt x.At + wt x.Cn + wt x.Fin + wt x.C + wt x.T + wt x.R := rfl
instance : Wt G.Jar := ⟨fun x => wt x.Secret⟩
theorem wt_Jar (x : G.Jar) : wt x = wt x.Secret := rfl
instance : Wt G.Dice := ⟨fun x => wt x.Seed⟩
theorem wt_Dice (x : G.Dice) : wt x = wt x.Seed := rfl
instance : Wt G.Cand := ⟨fun x => wt x.A + wt x.Draw⟩
theorem wt_Cand (x : G.Cand) : wt x = wt x.A + wt x.Draw := rfl
instance : Wt G.Paths := ⟨fun x => wt x.At + wt x.Cands⟩
theorem wt_Paths (x : G.Paths) : wt x = wt x.At + wt x.Cands := rfl
instance : Wt G.Sess := ⟨fun x => wt x.Cn + wt x.Sn + wt x.C + wt x.P⟩
theorem wt_Sess (x : G.Sess) : wt x = wt x.Cn + wt x.Sn + wt x.C + wt x.P := rfl
instance : Wt G.Tab := ⟨fun x => wt x.L⟩
theorem wt_Tab (x : G.Tab) : wt x = wt x.L := rfl
instance : Wt G.Server := ⟨fun x => wt x.Psks + wt x.J + wt x.D + wt x.T + wt x.Cr⟩
theorem wt_Server (x : G.Server) : wt x = wt x.Psks + wt x.J + wt x.D + wt x.T + wt x.Cr := rfl
instance : Wt G.Wire := ⟨fun x => wt x.From + wt x.To + wt x.B⟩
theorem wt_Wire (x : G.Wire) : wt x = wt x.From + wt x.To + wt x.B := rfl
instance : Wt G.World := ⟨fun x => wt x.Clients + wt x.S + wt x.D + wt x.Seen + wt x.Known + wt x.Notes⟩
theorem wt_World (x : G.World) : wt x = wt x.Clients + wt x.S + wt x.D + wt x.Seen + wt x.Known + wt x.Notes := rfl

end Go.D

/-
  Sessions, tables, servers, clients, worlds: what their predicates say.
-/
namespace Go.D

def near (i : Int) : G.Addr := if 0 ≤ i ∧ i ≤ 255 then ⟨167772160 + i, 7000 + i⟩ else ⟨0, 0⟩
def hub : G.Addr := near 0
def sameA (a b : G.Addr) : Bool := a.Host == b.Host && a.Port == b.Port
def isLen (n k : Int) : Bool := n == 0 || n == k
def emptyOr (b : List UInt8) (n : Int) : Bool := isLen (b.length : Int) n
def noteOk (n : G.Note) : Bool := inR n.Kind 1 17 && inR n.Id 0 9 && inR n.Role 0 1 && emptyOr n.Cn 12 && emptyOr n.Sn 12 && inR n.Epoch 0 4294967295 && inR n.Seq 0 281474976710655 && decide ((n.Body.length : Int) ≤ 100) && emptyOr n.Key 32 && addrOk n.A && inR n.Now 0 1000000
def partyAt (w : G.World) (a : G.Addr) : Int := bif sameA a hub then 0 else match w.Clients.find? fun c => sameA c.At a with
  | some c => c.Id
  | none => -1
noncomputable def partyAtO (w : G.World) (a : G.Addr) : Option Int := pt (wt w ≤ LIM) (partyAt w a)
def jarOk (j : G.Jar) : Bool := (j.Secret.length : Int) == 32
def diceOk (d : G.Dice) : Bool := inR (d.Seed.length : Int) 1 32 && inR d.N 0 10000
def live (t : G.Tab) : Int := t.L.foldl (fun s e => bif e.Dead then s else iadd .i64 s 1) 0
noncomputable def liveO (t : G.Tab) : Option Int := pt (wt t ≤ LIM) (live t)
def noChan (c : G.Chan) : Bool := c.Role == 0 && (c.Sn.length : Int) == 0 && noEp c.Cur && noEp c.Old && !c.HasOld && c.Until == 0 && (c.Next.length : Int) == 0
noncomputable def noChanO (c : G.Chan) : Option Bool := pt (wt c ≤ LIM) (noChan c)
def candBad (p : G.Paths) (i : Nat) : Bool := (p.Cands[i]?).any fun e => !addrOk e.A || !isNonce e.Draw || !inR e.Until 0 1000006 || sameA e.A p.At || anyN i fun j => (p.Cands[j]?).any fun d => sameA d.A e.A
def pathsOk (p : G.Paths) : Bool := addrOk p.At && decide ((p.Cands.length : Int) ≤ 3) && !(anyN p.Cands.length (candBad p))
def sessOk (s : G.Sess) : Bool := inR s.Id 1 9 && isNonce s.Cn && isNonce s.Sn && inR s.Tick 0 1000000 && bif s.Dead then noChan s.C && sameA s.P.At ⟨0, 0⟩ && (s.P.Cands.length : Int) == 0 && s.Last == 0
  else chanOk s.C && s.C.Role == 1 && s.C.Sn == s.Sn && pathsOk s.P && inR s.Last 0 1000000
noncomputable def sessOkO (s : G.Sess) : Option Bool := pt (wt s ≤ LIM) (sessOk s)
def hasSn (t : G.Tab) (b : List UInt8) (i : Nat) : Bool := (t.L[i]?).any fun e => e.Sn == b
def findSn (t : G.Tab) (b : List UInt8) : Int := findI t.L.length (hasSn t b)
noncomputable def findSnO (t : G.Tab) (b : List UInt8) : Option Int := pt (wt t ≤ LIM ∧ wt b ≤ LIM) (findSn t b)
def sessBad (t : G.Tab) (i : Nat) : Bool := (t.L[i]?).any fun e => !sessOk e || anyN i (hasSn t e.Sn)
def tabOk (t : G.Tab) : Bool := inR t.Cap 1 6 && decide ((t.L.length : Int) ≤ 12) && decide (live t ≤ t.Cap) && !(anyN t.L.length (sessBad t))
noncomputable def tabOkO (t : G.Tab) : Option Bool := pt (wt t ≤ LIM) (tabOk t)
def hasA (l : List G.Credit) (a : G.Addr) (i : Nat) : Bool := (l[i]?).any fun c => sameA c.A a
def cAt (l : List G.Credit) (a : G.Addr) : Int := findI l.length (hasA l a)
def creditBad (l : List G.Credit) (i : Nat) : Bool := (l[i]?).any fun c => !addrOk c.A || !inR c.Got 0 1000000 || !inR c.Sent 0 (imul .i64 3 c.Got) || anyN i (hasA l c.A)
def creditsOk (l : List G.Credit) : Bool := decide ((l.length : Int) ≤ 8) && !(anyN l.length (creditBad l))
def pskOk (b : List UInt8) : Bool := inR (b.length : Int) 1 32
def serverOk (s : G.Server) : Bool := inR (s.Psks.length : Int) 1 9 && jarOk s.J && diceOk s.D && tabOk s.T && creditsOk s.Cr && !(s.Psks.any fun b => !pskOk b) && !(s.T.L.any fun e => decide (e.Id > (s.Psks.length : Int)))
noncomputable def serverOkO (s : G.Server) : Option Bool := pt (wt s ≤ LIM) (serverOk s)
def wireOk (w : G.Wire) : Bool := addrOk w.From && addrOk w.To && decide ((w.B.length : Int) ≤ 200)
def wiresOk (l : List G.Wire) : Bool := !(l.any fun w => !wireOk w) && decide ((l.length : Int) ≤ 90)
def sameFrame (f g : G.Frame) : Bool := f.Kind == g.Kind && f.Id == g.Id && f.Tick == g.Tick && f.Epoch == g.Epoch && f.Seq == g.Seq && f.Cn == g.Cn && f.Sn == g.Sn && f.Cookie == g.Cookie && f.Proof == g.Proof && f.Body == g.Body && f.Tag == g.Tag
noncomputable def sameFrameO (f g : G.Frame) : Option Bool := pt (wt f ≤ LIM ∧ wt g ≤ LIM) (sameFrame f g)
def noTimer (t : G.Timer) : Bool := t.On == false && t.Due == 0 && t.Wait == 0 && t.Tries == 0
def timerOk (t : G.Timer) : Bool := bif t.On then inR t.Due 0 1000008 && (t.Wait == 1 || t.Wait == 2 || t.Wait == 4 || t.Wait == 8) && inR t.Tries 1 5 else noTimer t
def noFrame (f : G.Frame) : Bool := f.Kind == 0 && f.Id == 0 && (f.Cn.length : Int) == 0 && (f.Sn.length : Int) == 0 && f.Tick == 0 && (f.Cookie.length : Int) == 0 && (f.Proof.length : Int) == 0 && f.Epoch == 0 && f.Seq == 0 && (f.Body.length : Int) == 0 && (f.Tag.length : Int) == 0
def isSealed (k : Int) : Bool := inR k 4 8
def bodyOk (k n : Int) : Bool := bif k == 4 then decide (n ≤ 40) else bif k == 5 || k == 6 then n == 12 else n == 4
def frameOk (f : G.Frame) : Bool :=
  bif isSealed f.Kind then f.Id == 0 && (f.Cn.length : Int) == 0 && (f.Sn.length : Int) == 12 && f.Tick == 0 && (f.Cookie.length : Int) == 0 && (f.Proof.length : Int) == 0 && inR f.Epoch 0 4294967295 && inR f.Seq 0 281474976710655 && bodyOk f.Kind (f.Body.length : Int) && (f.Tag.length : Int) == 16
  else f.Epoch == 0 && f.Seq == 0 && (f.Body.length : Int) == 0 && (f.Tag.length : Int) == 0 && (f.Cn.length : Int) == 12 &&
    bif f.Kind == 1 then inR f.Id 1 9 && (f.Sn.length : Int) == 0 && f.Tick == 0 && (f.Cookie.length : Int) == 0 && (f.Proof.length : Int) == 0
    else bif f.Kind == 2 then f.Id == 0 && (f.Sn.length : Int) == 12 && inR f.Tick 0 1000000 && (f.Cookie.length : Int) == 16 && (f.Proof.length : Int) == 0
    else f.Kind == 3 && inR f.Id 1 9 && (f.Sn.length : Int) == 12 && inR f.Tick 0 1000000 && (f.Cookie.length : Int) == 16 && (f.Proof.length : Int) == 16
noncomputable def frameOkO (f : G.Frame) : Option Bool := pt (wt f ≤ LIM) (frameOk f)
def finishOk (c : G.Client) : Bool := isNonce c.Cn && c.Fin.Kind == 3 && frameOk c.Fin && c.Fin.Id == c.Id && c.Fin.Cn == c.Cn && chanOk c.C && c.C.Role == 0 && c.C.Sn == c.Fin.Sn && c.C.Cur.N == 0 && !c.C.HasOld && (c.C.Next.length : Int) == 0
noncomputable def finishOkO (c : G.Client) : Option Bool := pt (wt c ≤ LIM) (finishOk c)
def clientOk (c : G.Client) : Bool := inR c.Id 1 9 && pskOk c.Psk && addrOk c.At &&
  bif c.St == 0 then (c.Cn.length : Int) == 0 && noFrame c.Fin && noChan c.C && noTimer c.T && noTimer c.R && c.Last == 0
  else bif c.St == 1 then isNonce c.Cn && noFrame c.Fin && noChan c.C && c.T.On && timerOk c.T && noTimer c.R && c.Last == 0
  else bif c.St == 2 then finishOk c && c.T.On && timerOk c.T && noTimer c.R && c.Last == 0
  else c.St == 3 && isNonce c.Cn && noFrame c.Fin && chanOk c.C && c.C.Role == 0 && noTimer c.T && timerOk c.R && c.R.On == decide ((c.C.Next.length : Int) > 0) && inR c.Last 0 1000000
noncomputable def clientOkO (c : G.Client) : Option Bool := pt (wt c ≤ LIM) (clientOk c)
def clientBad (w : G.World) (i : Nat) : Bool := (w.Clients[i]?).any fun c => (w.S.Psks[i]?).any fun p => !clientOk c || c.Id != ((i + 1 : Nat) : Int) || !(c.Psk == p)
def worldOk (w : G.World) : Bool := inR w.Now 0 1000000 && (w.Clients.length : Int) == 2 && serverOk w.S && (w.S.Psks.length : Int) == 2 && diceOk w.D && wiresOk w.Seen && decide ((w.Known.length : Int) ≤ 12) &&
  !(anyN 2 (clientBad w)) && !(w.Known.any fun b => (b.length : Int) != 32) && !(w.Notes.any fun n => !noteOk n)
noncomputable def worldOkO (w : G.World) : Option Bool := pt (wt w ≤ LIM) (worldOk w)
def sleeps (w : G.World) : Bool := worldOk w && !(w.Clients.any fun c => c.St != 0) && live w.S.T == 0
noncomputable def sleepsO (w : G.World) : Option Bool := pt (wt w ≤ LIM) (sleeps w)
def settled (w : G.World) : Bool := worldOk w && !(w.Clients.any fun c => c.St == 1 || c.St == 2)
noncomputable def settledO (w : G.World) : Option Bool := pt (wt w ≤ LIM) (settled w)

def ep00 : G.Ep := ⟨0, [], 0, ⟨0, []⟩⟩
def sess0 : G.Sess := ⟨0, [], [], ⟨0, [], ep00, ep00, false, 0, []⟩, ⟨⟨0, 0⟩, []⟩, 0, 0, false⟩
/-- The session of a client that is up, if it lives. -/
def alive (w : G.World) (c : G.Client) : Option G.Sess := bif c.St == 3 then (if 0 ≤ findSn w.S.T c.C.Sn then (w.S.T.L[(findSn w.S.T c.C.Sn).toNat]?).filter (fun s => !s.Dead) else none) else none
def sessionOf (w : G.World) (c : G.Client) : G.Client × G.Sess × Bool := match alive w c with
  | some s => (c, s, true)
  | none => (c, sess0, false)
noncomputable def sessionOfO (w : G.World) (id : Int) : Option (G.Client × G.Sess × Bool) := Option.bind (pt (wt w ≤ LIM ∧ 1 ≤ id ∧ id ≤ w.Clients.length) ()) fun _ => (w.Clients[(id - 1).toNat]?).map (sessionOf w)
def keysFit (c s : G.Chan) : Bool := bif c.Cur.N == s.Cur.N && c.Cur.Key == s.Cur.Key then decide (c.Cur.Win.Top < s.Cur.Seq) && decide (s.Cur.Win.Top < c.Cur.Seq)
  else s.Cur.N == iadd .i64 c.Cur.N 1 && c.Next == s.Cur.Key && s.HasOld && s.Until == -1 && s.Old.Key == c.Cur.Key && decide (s.Old.Win.Top < c.Cur.Seq) && decide (c.Cur.Win.Top < s.Old.Seq)
def epochsFit (w : G.World) (id : Int) : Bool := worldOk w && inR id 1 2 && (w.Clients[(id - 1).toNat]?).any fun c => (alive w c).all fun s => c.Cn == s.Cn && keysFit c.C s.C
noncomputable def epochsFitO (w : G.World) (id : Int) : Option Bool := pt (wt w ≤ LIM) (epochsFit w id)
def roomy (w : G.World) (c : G.Client) (s : G.Sess) : Bool := inR (isub .i64 w.Now c.Last) 0 40 && inR (isub .i64 w.Now s.Last) 0 40 && !(c.R.On && decide (c.R.Due > iadd .i64 w.Now 8)) &&
  decide (c.C.Cur.Seq ≤ 281474976709556) && decide (s.C.Cur.Seq ≤ 281474976709556) && (!s.C.HasOld || decide (s.C.Old.Seq ≤ 281474976709556)) && decide (c.C.Cur.N ≤ 4294967293)
def linked (w : G.World) (id : Int) : Bool := epochsFit w id && decide (w.Now ≤ 999900) && (w.Clients[(id - 1).toNat]?).any fun c => (alive w c).any (roomy w c)
noncomputable def linkedO (w : G.World) (id : Int) : Option Bool := pt (wt w ≤ LIM) (linked w id)
def canTurn (w : G.World) (id : Int) : Bool := linked w id && (w.Clients[(id - 1).toNat]?).any fun c => (alive w c).any fun s => sameA s.P.At c.At && partyAt w c.At == id
noncomputable def canTurnO (w : G.World) (id : Int) : Option Bool := pt (wt w ≤ LIM) (canTurn w id)

end Go.D

/-
  What the functions compute, as the plain semantics says it.
-/
namespace Go.D

noncomputable def spec_l18Len.raw (a0 : Int) (a1 : Int) : Option Bool :=
  joinK (fun (y1 : Bool) =>
  some y1) fun k2 =>
  cond (a0 == 0)
  (k2 true)
  (k2 (a0 == a1))

noncomputable def spec_AddrOk.raw (a0 : G.Addr) : Option Bool :=
  joinK (fun (y1 : Bool) =>
  some y1) fun k2 =>
  cond ((inR a0.Host 0 4294967295))
  (k2 (inR a0.Port 0 65535))
  (k2 false)

noncomputable def spec_NoteOk.raw (a0 : G.Note) : Option Bool :=
  joinK (fun (y1 : Bool) =>
  some y1) fun k2 =>
  cond ((inR a0.Kind 1 17))
  (cond ((inR a0.Id 0 9))
  (cond ((inR a0.Role 0 1))
  (cond ((isLen (a0.Cn.length : Int) 12))
  (cond ((isLen (a0.Sn.length : Int) 12))
  (cond ((inR a0.Epoch 0 4294967295))
  (cond ((inR a0.Seq 0 281474976710655))
  (cond (decide ((a0.Body.length : Int) ≤ 100))
  (cond ((isLen (a0.Key.length : Int) 32))
  (cond ((addrOk a0.A))
  (k2 (inR a0.Now 0 1000000))
  (k2 false))
  (k2 false))
  (k2 false))
  (k2 false))
  (k2 false))
  (k2 false))
  (k2 false))
  (k2 false))
  (k2 false))
  (k2 false)

noncomputable def impl_emptyOr.raw (a0 : List UInt8) (a1 : Int) : Option Bool :=
  joinK (fun (y1 : Bool) =>
  some y1) fun k2 =>
  cond ((a0.length : Int) == 0)
  (k2 true)
  (k2 ((a0.length : Int) == a1))

noncomputable def impl_AddrOk.raw (a0 : G.Addr) : Option Bool :=
  joinK (fun (y1 : Bool) =>
  some y1) fun k2 =>
  cond ((inR a0.Host 0 4294967295))
  (k2 (inR a0.Port 0 65535))
  (k2 false)

noncomputable def impl_NoteOk.raw (a0 : G.Note) : Option Bool :=
  joinK (fun (y1 : Bool) =>
  some y1) fun k2 =>
  cond ((inR a0.Kind 1 17))
  (cond ((inR a0.Id 0 9))
  (cond ((inR a0.Role 0 1))
  (cond ((inR a0.Epoch 0 4294967295))
  (cond ((inR a0.Seq 0 281474976710655))
  (cond ((inR a0.Now 0 1000000))
  (cond ((emptyOr a0.Cn 12))
  (cond ((emptyOr a0.Sn 12))
  (cond (decide ((a0.Body.length : Int) ≤ 100))
  (cond ((emptyOr a0.Key 32))
  (k2 (addrOk a0.A))
  (k2 false))
  (k2 false))
  (k2 false))
  (k2 false))
  (k2 false))
  (k2 false))
  (k2 false))
  (k2 false))
  (k2 false))
  (k2 false)

noncomputable def laws_szFrame.raw (a0 : G.Frame) (a1 : Int) : Option Int :=
  Option.bind (szO a0.Cn a1) fun r1 =>
  cond (decide (r1 < 0))
  (some (-1))
  (Option.bind (szO a0.Sn r1) fun r2 =>
  cond (decide (r2 < 0))
  (some (-1))
  (Option.bind (szO a0.Cookie r2) fun r3 =>
  cond (decide (r3 < 0))
  (some (-1))
  (Option.bind (szO a0.Proof r3) fun r4 =>
  cond (decide (r4 < 0))
  (some (-1))
  (Option.bind (szO a0.Body r4) fun r5 =>
  cond (decide (r5 < 0))
  (some (-1))
  (Option.bind (szO a0.Tag r5) fun r6 =>
  cond (decide (r6 < 0))
  (some (-1))
  (some r6))))))

noncomputable def laws_szClient.raw (a0 : G.Client) (a1 : Int) : Option Int :=
  Option.bind (szO a0.Psk a1) fun r1 =>
  cond (decide (r1 < 0))
  (some (-1))
  (Option.bind (szO a0.Cn r1) fun r2 =>
  cond (decide (r2 < 0))
  (some (-1))
  (Option.bind (szO a0.Fin r2) fun r3 =>
  cond (decide (r3 < 0))
  (some (-1))
  (Option.bind (szO a0.C r3) fun r4 =>
  cond (decide (r4 < 0))
  (some (-1))
  (some r4))))

noncomputable def laws_szClientS.raw (a0 : List G.Client) (a1 : Int) : Option Int :=
  cond (decide ((isub .i64 a1 (a0.length : Int)) < 0))
  (some (-1))
  (joinK (fun (y1 : Int) =>
  some y1) fun k2 =>
  loopK FU (fun (x3 : Int × Int) k4 =>
  cond (decide (x3.2 < (a0.length : Int)))
  (Option.bind (idxI a0 x3.2) fun e5 =>
  Option.bind (szO e5 x3.1) fun r6 =>
  cond (decide (r6 < 0))
  (some (-1))
  (k4 (r6, (iadd .i64 x3.2 1))))
  (k2 x3.1)) ((isub .i64 a1 (a0.length : Int)), 0))

noncomputable def laws_szByteSS.raw (a0 : List (List UInt8)) (a1 : Int) : Option Int :=
  cond (decide ((isub .i64 a1 (a0.length : Int)) < 0))
  (some (-1))
  (joinK (fun (y1 : Int) =>
  some y1) fun k2 =>
  loopK FU (fun (x3 : Int × Int) k4 =>
  cond (decide (x3.2 < (a0.length : Int)))
  (Option.bind (idxI a0 x3.2) fun e5 =>
  Option.bind (szO e5 x3.1) fun r6 =>
  cond (decide (r6 < 0))
  (some (-1))
  (k4 (r6, (iadd .i64 x3.2 1))))
  (k2 x3.1)) ((isub .i64 a1 (a0.length : Int)), 0))

noncomputable def laws_szJar.raw (a0 : G.Jar) (a1 : Int) : Option Int :=
  Option.bind (szO a0.Secret a1) fun r1 =>
  cond (decide (r1 < 0))
  (some (-1))
  (some r1)

noncomputable def laws_szDice.raw (a0 : G.Dice) (a1 : Int) : Option Int :=
  Option.bind (szO a0.Seed a1) fun r1 =>
  cond (decide (r1 < 0))
  (some (-1))
  (some r1)

noncomputable def laws_szCand.raw (a0 : G.Cand) (a1 : Int) : Option Int :=
  Option.bind (szO a0.Draw a1) fun r1 =>
  cond (decide (r1 < 0))
  (some (-1))
  (some r1)

noncomputable def laws_szCandS.raw (a0 : List G.Cand) (a1 : Int) : Option Int :=
  cond (decide ((isub .i64 a1 (a0.length : Int)) < 0))
  (some (-1))
  (joinK (fun (y1 : Int) =>
  some y1) fun k2 =>
  loopK FU (fun (x3 : Int × Int) k4 =>
  cond (decide (x3.2 < (a0.length : Int)))
  (Option.bind (idxI a0 x3.2) fun e5 =>
  Option.bind (szO e5 x3.1) fun r6 =>
  cond (decide (r6 < 0))
  (some (-1))
  (k4 (r6, (iadd .i64 x3.2 1))))
  (k2 x3.1)) ((isub .i64 a1 (a0.length : Int)), 0))

noncomputable def laws_szPaths.raw (a0 : G.Paths) (a1 : Int) : Option Int :=
  Option.bind (szO a0.Cands a1) fun r1 =>
  cond (decide (r1 < 0))
  (some (-1))
  (some r1)

noncomputable def laws_szSess.raw (a0 : G.Sess) (a1 : Int) : Option Int :=
  Option.bind (szO a0.Cn a1) fun r1 =>
  cond (decide (r1 < 0))
  (some (-1))
  (Option.bind (szO a0.Sn r1) fun r2 =>
  cond (decide (r2 < 0))
  (some (-1))
  (Option.bind (szO a0.C r2) fun r3 =>
  cond (decide (r3 < 0))
  (some (-1))
  (Option.bind (szO a0.P r3) fun r4 =>
  cond (decide (r4 < 0))
  (some (-1))
  (some r4))))

noncomputable def laws_szSessS.raw (a0 : List G.Sess) (a1 : Int) : Option Int :=
  cond (decide ((isub .i64 a1 (a0.length : Int)) < 0))
  (some (-1))
  (joinK (fun (y1 : Int) =>
  some y1) fun k2 =>
  loopK FU (fun (x3 : Int × Int) k4 =>
  cond (decide (x3.2 < (a0.length : Int)))
  (Option.bind (idxI a0 x3.2) fun e5 =>
  Option.bind (szO e5 x3.1) fun r6 =>
  cond (decide (r6 < 0))
  (some (-1))
  (k4 (r6, (iadd .i64 x3.2 1))))
  (k2 x3.1)) ((isub .i64 a1 (a0.length : Int)), 0))

noncomputable def laws_szTab.raw (a0 : G.Tab) (a1 : Int) : Option Int :=
  Option.bind (szO a0.L a1) fun r1 =>
  cond (decide (r1 < 0))
  (some (-1))
  (some r1)

noncomputable def laws_szCreditS.raw (a0 : List G.Credit) (a1 : Int) : Option Int :=
  cond (decide ((isub .i64 a1 (a0.length : Int)) < 0))
  (some (-1))
  (some (isub .i64 a1 (a0.length : Int)))

noncomputable def laws_szServer.raw (a0 : G.Server) (a1 : Int) : Option Int :=
  Option.bind (szO a0.Psks a1) fun r1 =>
  cond (decide (r1 < 0))
  (some (-1))
  (Option.bind (szO a0.J r1) fun r2 =>
  cond (decide (r2 < 0))
  (some (-1))
  (Option.bind (szO a0.D r2) fun r3 =>
  cond (decide (r3 < 0))
  (some (-1))
  (Option.bind (szO a0.T r3) fun r4 =>
  cond (decide (r4 < 0))
  (some (-1))
  (Option.bind (szO a0.Cr r4) fun r5 =>
  cond (decide (r5 < 0))
  (some (-1))
  (some r5)))))

noncomputable def laws_szWire.raw (a0 : G.Wire) (a1 : Int) : Option Int :=
  Option.bind (szO a0.B a1) fun r1 =>
  cond (decide (r1 < 0))
  (some (-1))
  (some r1)

noncomputable def laws_szWireS.raw (a0 : List G.Wire) (a1 : Int) : Option Int :=
  cond (decide ((isub .i64 a1 (a0.length : Int)) < 0))
  (some (-1))
  (joinK (fun (y1 : Int) =>
  some y1) fun k2 =>
  loopK FU (fun (x3 : Int × Int) k4 =>
  cond (decide (x3.2 < (a0.length : Int)))
  (Option.bind (idxI a0 x3.2) fun e5 =>
  Option.bind (szO e5 x3.1) fun r6 =>
  cond (decide (r6 < 0))
  (some (-1))
  (k4 (r6, (iadd .i64 x3.2 1))))
  (k2 x3.1)) ((isub .i64 a1 (a0.length : Int)), 0))

noncomputable def laws_szWorld.raw (a0 : G.World) (a1 : Int) : Option Int :=
  Option.bind (szO a0.Clients a1) fun r1 =>
  cond (decide (r1 < 0))
  (some (-1))
  (Option.bind (szO a0.S r1) fun r2 =>
  cond (decide (r2 < 0))
  (some (-1))
  (Option.bind (szO a0.D r2) fun r3 =>
  cond (decide (r3 < 0))
  (some (-1))
  (Option.bind (szO a0.Seen r3) fun r4 =>
  cond (decide (r4 < 0))
  (some (-1))
  (Option.bind (szO a0.Known r4) fun r5 =>
  cond (decide (r5 < 0))
  (some (-1))
  (Option.bind (szO a0.Notes r5) fun r6 =>
  cond (decide (r6 < 0))
  (some (-1))
  (some r6))))))

noncomputable def laws_toFrame.raw (a0 : G.Frame) : Option G.Frame :=
  Option.bind (cpy a0.Cn) fun r1 =>
  Option.bind (cpy a0.Sn) fun r2 =>
  Option.bind (cpy a0.Cookie) fun r3 =>
  Option.bind (cpy a0.Proof) fun r4 =>
  Option.bind (cpy a0.Body) fun r5 =>
  Option.bind (cpy a0.Tag) fun r6 =>
  some (⟨a0.Kind, a0.Id, r1, r2, a0.Tick, r3, r4, a0.Epoch, a0.Seq, r5, r6⟩ : G.Frame)

noncomputable def laws_toTimer.raw (a0 : G.Timer) : Option G.Timer :=
  some a0

noncomputable def laws_toClient.raw (a0 : G.Client) : Option G.Client :=
  Option.bind (cpy a0.Psk) fun r1 =>
  Option.bind (cpy a0.At) fun r2 =>
  Option.bind (cpy a0.Cn) fun r3 =>
  Option.bind (cpy a0.Fin) fun r4 =>
  Option.bind (cpy a0.C) fun r5 =>
  Option.bind (cpy a0.T) fun r6 =>
  Option.bind (cpy a0.R) fun r7 =>
  some (⟨a0.Id, r1, r2, a0.St, r3, r4, r5, r6, r7, a0.Last⟩ : G.Client)

noncomputable def laws_toClientS.raw (a0 : List G.Client) : Option (List G.Client) :=
  cond (decide (0 ≤ (a0.length : Int)) && decide ((a0.length : Int) ≤ (LIM : Int)) && ((a0.length : Int) == (a0.length : Int))) (let x1 : List G.Client := List.replicate ((a0.length : Int) : Int).toNat ((⟨0, [], (⟨0, 0⟩ : G.Addr), 0, [], (⟨0, 0, [], [], 0, [], [], 0, 0, [], []⟩ : G.Frame), (⟨0, [], (⟨0, [], 0, (⟨0, []⟩ : G.Win)⟩ : G.Ep), (⟨0, [], 0, (⟨0, []⟩ : G.Win)⟩ : G.Ep), false, 0, []⟩ : G.Chan), (⟨false, 0, 0, 0⟩ : G.Timer), (⟨false, 0, 0, 0⟩ : G.Timer), 0⟩ : G.Client) : G.Client)
  joinK (fun (y2 : (List G.Client)) =>
  some y2) fun k3 =>
  loopK FU (fun (x4 : Int × (List G.Client)) k5 =>
  cond (decide (x4.1 < (a0.length : Int)))
  (Option.bind (idxI a0 x4.1) fun e6 =>
  Option.bind (cpy e6) fun r7 =>
  cond (decide (0 ≤ x4.1) && decide (x4.1 < (x4.2.length : Int))) (Option.bind (x4.2[x4.1.toNat]?) fun e8 =>
  k5 ((iadd .i64 x4.1 1), (List.set x4.2 x4.1.toNat r7))) none)
  (k3 x4.2)) (0, x1)) none

noncomputable def laws_toByteSS.raw (a0 : List (List UInt8)) : Option (List (List UInt8)) :=
  cond (decide (0 ≤ (a0.length : Int)) && decide ((a0.length : Int) ≤ (LIM : Int)) && ((a0.length : Int) == (a0.length : Int))) (let x1 : List (List UInt8) := List.replicate ((a0.length : Int) : Int).toNat ([] : List UInt8)
  joinK (fun (y2 : (List (List UInt8))) =>
  some y2) fun k3 =>
  loopK FU (fun (x4 : Int × (List (List UInt8))) k5 =>
  cond (decide (x4.1 < (a0.length : Int)))
  (Option.bind (idxI a0 x4.1) fun e6 =>
  Option.bind (cpy e6) fun r7 =>
  cond (decide (0 ≤ x4.1) && decide (x4.1 < (x4.2.length : Int))) (Option.bind (x4.2[x4.1.toNat]?) fun e8 =>
  k5 ((iadd .i64 x4.1 1), (List.set x4.2 x4.1.toNat r7))) none)
  (k3 x4.2)) (0, x1)) none

noncomputable def laws_toJar.raw (a0 : G.Jar) : Option G.Jar :=
  Option.bind (cpy a0.Secret) fun r1 =>
  some (⟨r1⟩ : G.Jar)

noncomputable def laws_toDice.raw (a0 : G.Dice) : Option G.Dice :=
  Option.bind (cpy a0.Seed) fun r1 =>
  some (⟨r1, a0.N⟩ : G.Dice)

noncomputable def laws_toCand.raw (a0 : G.Cand) : Option G.Cand :=
  Option.bind (cpy a0.A) fun r1 =>
  Option.bind (cpy a0.Draw) fun r2 =>
  some (⟨r1, r2, a0.Until⟩ : G.Cand)

noncomputable def laws_toCandS.raw (a0 : List G.Cand) : Option (List G.Cand) :=
  cond (decide (0 ≤ (a0.length : Int)) && decide ((a0.length : Int) ≤ (LIM : Int)) && ((a0.length : Int) == (a0.length : Int))) (let x1 : List G.Cand := List.replicate ((a0.length : Int) : Int).toNat ((⟨(⟨0, 0⟩ : G.Addr), [], 0⟩ : G.Cand) : G.Cand)
  joinK (fun (y2 : (List G.Cand)) =>
  some y2) fun k3 =>
  loopK FU (fun (x4 : Int × (List G.Cand)) k5 =>
  cond (decide (x4.1 < (a0.length : Int)))
  (Option.bind (idxI a0 x4.1) fun e6 =>
  Option.bind (cpy e6) fun r7 =>
  cond (decide (0 ≤ x4.1) && decide (x4.1 < (x4.2.length : Int))) (Option.bind (x4.2[x4.1.toNat]?) fun e8 =>
  k5 ((iadd .i64 x4.1 1), (List.set x4.2 x4.1.toNat r7))) none)
  (k3 x4.2)) (0, x1)) none

noncomputable def laws_toPaths.raw (a0 : G.Paths) : Option G.Paths :=
  Option.bind (cpy a0.At) fun r1 =>
  Option.bind (cpy a0.Cands) fun r2 =>
  some (⟨r1, r2⟩ : G.Paths)

noncomputable def laws_toSess.raw (a0 : G.Sess) : Option G.Sess :=
  Option.bind (cpy a0.Cn) fun r1 =>
  Option.bind (cpy a0.Sn) fun r2 =>
  Option.bind (cpy a0.C) fun r3 =>
  Option.bind (cpy a0.P) fun r4 =>
  some (⟨a0.Id, r1, r2, r3, r4, a0.Tick, a0.Last, a0.Dead⟩ : G.Sess)

noncomputable def laws_toSessS.raw (a0 : List G.Sess) : Option (List G.Sess) :=
  cond (decide (0 ≤ (a0.length : Int)) && decide ((a0.length : Int) ≤ (LIM : Int)) && ((a0.length : Int) == (a0.length : Int))) (let x1 : List G.Sess := List.replicate ((a0.length : Int) : Int).toNat ((⟨0, [], [], (⟨0, [], (⟨0, [], 0, (⟨0, []⟩ : G.Win)⟩ : G.Ep), (⟨0, [], 0, (⟨0, []⟩ : G.Win)⟩ : G.Ep), false, 0, []⟩ : G.Chan), (⟨(⟨0, 0⟩ : G.Addr), []⟩ : G.Paths), 0, 0, false⟩ : G.Sess) : G.Sess)
  joinK (fun (y2 : (List G.Sess)) =>
  some y2) fun k3 =>
  loopK FU (fun (x4 : Int × (List G.Sess)) k5 =>
  cond (decide (x4.1 < (a0.length : Int)))
  (Option.bind (idxI a0 x4.1) fun e6 =>
  Option.bind (cpy e6) fun r7 =>
  cond (decide (0 ≤ x4.1) && decide (x4.1 < (x4.2.length : Int))) (Option.bind (x4.2[x4.1.toNat]?) fun e8 =>
  k5 ((iadd .i64 x4.1 1), (List.set x4.2 x4.1.toNat r7))) none)
  (k3 x4.2)) (0, x1)) none

noncomputable def laws_toTab.raw (a0 : G.Tab) : Option G.Tab :=
  Option.bind (cpy a0.L) fun r1 =>
  some (⟨a0.Cap, r1⟩ : G.Tab)

noncomputable def laws_toCredit.raw (a0 : G.Credit) : Option G.Credit :=
  Option.bind (cpy a0.A) fun r1 =>
  some (⟨r1, a0.Got, a0.Sent⟩ : G.Credit)

noncomputable def laws_toCreditS.raw (a0 : List G.Credit) : Option (List G.Credit) :=
  cond (decide (0 ≤ (a0.length : Int)) && decide ((a0.length : Int) ≤ (LIM : Int)) && ((a0.length : Int) == (a0.length : Int))) (let x1 : List G.Credit := List.replicate ((a0.length : Int) : Int).toNat ((⟨(⟨0, 0⟩ : G.Addr), 0, 0⟩ : G.Credit) : G.Credit)
  joinK (fun (y2 : (List G.Credit)) =>
  some y2) fun k3 =>
  loopK FU (fun (x4 : Int × (List G.Credit)) k5 =>
  cond (decide (x4.1 < (a0.length : Int)))
  (Option.bind (idxI a0 x4.1) fun e6 =>
  Option.bind (cpy e6) fun r7 =>
  cond (decide (0 ≤ x4.1) && decide (x4.1 < (x4.2.length : Int))) (Option.bind (x4.2[x4.1.toNat]?) fun e8 =>
  k5 ((iadd .i64 x4.1 1), (List.set x4.2 x4.1.toNat r7))) none)
  (k3 x4.2)) (0, x1)) none

noncomputable def laws_toServer.raw (a0 : G.Server) : Option G.Server :=
  Option.bind (cpy a0.Psks) fun r1 =>
  Option.bind (cpy a0.J) fun r2 =>
  Option.bind (cpy a0.D) fun r3 =>
  Option.bind (cpy a0.T) fun r4 =>
  Option.bind (cpy a0.Cr) fun r5 =>
  some (⟨r1, r2, r3, r4, r5⟩ : G.Server)

noncomputable def laws_toWire.raw (a0 : G.Wire) : Option G.Wire :=
  Option.bind (cpy a0.From) fun r1 =>
  Option.bind (cpy a0.To) fun r2 =>
  Option.bind (cpy a0.B) fun r3 =>
  some (⟨r1, r2, r3⟩ : G.Wire)

noncomputable def laws_toWireS.raw (a0 : List G.Wire) : Option (List G.Wire) :=
  cond (decide (0 ≤ (a0.length : Int)) && decide ((a0.length : Int) ≤ (LIM : Int)) && ((a0.length : Int) == (a0.length : Int))) (let x1 : List G.Wire := List.replicate ((a0.length : Int) : Int).toNat ((⟨(⟨0, 0⟩ : G.Addr), (⟨0, 0⟩ : G.Addr), []⟩ : G.Wire) : G.Wire)
  joinK (fun (y2 : (List G.Wire)) =>
  some y2) fun k3 =>
  loopK FU (fun (x4 : Int × (List G.Wire)) k5 =>
  cond (decide (x4.1 < (a0.length : Int)))
  (Option.bind (idxI a0 x4.1) fun e6 =>
  Option.bind (cpy e6) fun r7 =>
  cond (decide (0 ≤ x4.1) && decide (x4.1 < (x4.2.length : Int))) (Option.bind (x4.2[x4.1.toNat]?) fun e8 =>
  k5 ((iadd .i64 x4.1 1), (List.set x4.2 x4.1.toNat r7))) none)
  (k3 x4.2)) (0, x1)) none

noncomputable def laws_toWorld.raw (a0 : G.World) : Option G.World :=
  Option.bind (cpy a0.Clients) fun r1 =>
  Option.bind (cpy a0.S) fun r2 =>
  Option.bind (cpy a0.D) fun r3 =>
  Option.bind (cpy a0.Seen) fun r4 =>
  Option.bind (cpy a0.Known) fun r5 =>
  Option.bind (cpy a0.Notes) fun r6 =>
  some (⟨a0.Now, r1, r2, r3, r4, r5, r6⟩ : G.World)

noncomputable def spec_Near.raw (a0 : Int) : Option G.Addr :=
  cond (!(inR a0 0 255))
  (some (⟨0, 0⟩ : G.Addr))
  (some (⟨iadd .i64 167772160 a0, iadd .i64 7000 a0⟩ : G.Addr))

noncomputable def spec_Hub.raw  : Option G.Addr :=
  let r1 : G.Addr := near 0
  some r1

noncomputable def spec_PartyAt.raw (a0 : G.World) (a1 : G.Addr) : Option Int :=
  let r1 : G.Addr := hub
  let x2 : Bool := cond (a1.Host == r1.Host) (cond (a1.Port == r1.Port) (true) false) false
  cond (x2)
  (some 0)
  (joinK (fun (y3 : Unit) =>
  some (-1)) fun k4 =>
  loopK FU (fun (x5 : Int) k6 =>
  cond (decide (x5 < (a0.Clients.length : Int)))
  (Option.bind (idxI a0.Clients x5) fun e7 =>
  let x8 : Bool := cond (e7.At.Host == a1.Host) (cond (e7.At.Port == a1.Port) (true) false) false
  cond (x8)
  (Option.bind (idxI a0.Clients x5) fun e9 =>
  some e9.Id)
  (k6 (iadd .i64 x5 1)))
  (k4 ())) 0)

noncomputable def impl_Near.raw (a0 : Int) : Option G.Addr :=
  cond (!(inR a0 0 255))
  (some (⟨0, 0⟩ : G.Addr))
  (some (⟨iadd .i64 167772160 a0, iadd .i64 7000 a0⟩ : G.Addr))

noncomputable def impl_Hub.raw  : Option G.Addr :=
  let r1 : G.Addr := near 0
  some r1

noncomputable def impl_PartyAt.raw (a0 : G.World) (a1 : G.Addr) : Option Int :=
  let r1 : G.Addr := hub
  let x2 : Bool := cond (a1.Host == r1.Host) (cond (a1.Port == r1.Port) (true) false) false
  cond (x2)
  (some 0)
  (joinK (fun (y3 : Unit) =>
  some (-1)) fun k4 =>
  loopK FU (fun (x5 : Int) k6 =>
  cond (decide (x5 < (a0.Clients.length : Int)))
  (Option.bind (idxI a0.Clients x5) fun e7 =>
  let x8 : Bool := cond (e7.At.Host == a1.Host) (cond (e7.At.Port == a1.Port) (true) false) false
  cond (x8)
  (some e7.Id)
  (k6 (iadd .i64 x5 1)))
  (k4 ())) 0)

noncomputable def laws_eqFrame.raw (a0 : G.Frame) (a1 : G.Frame) : Option Bool :=
  cond (a0.Kind != a1.Kind)
  (some false)
  (cond (a0.Id != a1.Id)
  (some false)
  (cond (!(eqq a0.Cn a1.Cn))
  (some false)
  (cond (!(eqq a0.Sn a1.Sn))
  (some false)
  (cond (a0.Tick != a1.Tick)
  (some false)
  (cond (!(eqq a0.Cookie a1.Cookie))
  (some false)
  (cond (!(eqq a0.Proof a1.Proof))
  (some false)
  (cond (a0.Epoch != a1.Epoch)
  (some false)
  (cond (a0.Seq != a1.Seq)
  (some false)
  (cond (!(eqq a0.Body a1.Body))
  (some false)
  (cond (!(eqq a0.Tag a1.Tag))
  (some false)
  (some true)))))))))))

noncomputable def laws_eqTimer.raw (a0 : G.Timer) (a1 : G.Timer) : Option Bool :=
  cond (!(a0.On == a1.On))
  (some false)
  (cond (a0.Due != a1.Due)
  (some false)
  (cond (a0.Wait != a1.Wait)
  (some false)
  (cond (a0.Tries != a1.Tries)
  (some false)
  (some true))))

noncomputable def laws_eqClient.raw (a0 : G.Client) (a1 : G.Client) : Option Bool :=
  cond (a0.Id != a1.Id)
  (some false)
  (cond (!(eqq a0.Psk a1.Psk))
  (some false)
  (cond (!(eqq a0.At a1.At))
  (some false)
  (cond (a0.St != a1.St)
  (some false)
  (cond (!(eqq a0.Cn a1.Cn))
  (some false)
  (cond (!(eqq a0.Fin a1.Fin))
  (some false)
  (cond (!(eqq a0.C a1.C))
  (some false)
  (cond (!(eqq a0.T a1.T))
  (some false)
  (cond (!(eqq a0.R a1.R))
  (some false)
  (cond (a0.Last != a1.Last)
  (some false)
  (some true))))))))))

noncomputable def laws_eqClientS.raw (a0 : List G.Client) (a1 : List G.Client) : Option Bool :=
  cond ((a0.length : Int) != (a1.length : Int))
  (some false)
  (joinK (fun (y1 : Unit) =>
  some true) fun k2 =>
  loopK FU (fun (x3 : Int) k4 =>
  cond (decide (x3 < (a0.length : Int)))
  (Option.bind (idxI a0 x3) fun e5 =>
  Option.bind (idxI a1 x3) fun e6 =>
  cond (!(eqq e5 e6))
  (some false)
  (k4 (iadd .i64 x3 1)))
  (k2 ())) 0)

noncomputable def laws_eqByteSS.raw (a0 : List (List UInt8)) (a1 : List (List UInt8)) : Option Bool :=
  cond ((a0.length : Int) != (a1.length : Int))
  (some false)
  (joinK (fun (y1 : Unit) =>
  some true) fun k2 =>
  loopK FU (fun (x3 : Int) k4 =>
  cond (decide (x3 < (a0.length : Int)))
  (Option.bind (idxI a0 x3) fun e5 =>
  Option.bind (idxI a1 x3) fun e6 =>
  cond (!(eqq e5 e6))
  (some false)
  (k4 (iadd .i64 x3 1)))
  (k2 ())) 0)

noncomputable def laws_eqJar.raw (a0 : G.Jar) (a1 : G.Jar) : Option Bool :=
  cond (!(eqq a0.Secret a1.Secret))
  (some false)
  (some true)

noncomputable def laws_eqDice.raw (a0 : G.Dice) (a1 : G.Dice) : Option Bool :=
  cond (!(eqq a0.Seed a1.Seed))
  (some false)
  (cond (a0.N != a1.N)
  (some false)
  (some true))

noncomputable def laws_eqCand.raw (a0 : G.Cand) (a1 : G.Cand) : Option Bool :=
  cond (!(eqq a0.A a1.A))
  (some false)
  (cond (!(eqq a0.Draw a1.Draw))
  (some false)
  (cond (a0.Until != a1.Until)
  (some false)
  (some true)))

noncomputable def laws_eqCandS.raw (a0 : List G.Cand) (a1 : List G.Cand) : Option Bool :=
  cond ((a0.length : Int) != (a1.length : Int))
  (some false)
  (joinK (fun (y1 : Unit) =>
  some true) fun k2 =>
  loopK FU (fun (x3 : Int) k4 =>
  cond (decide (x3 < (a0.length : Int)))
  (Option.bind (idxI a0 x3) fun e5 =>
  Option.bind (idxI a1 x3) fun e6 =>
  cond (!(eqq e5 e6))
  (some false)
  (k4 (iadd .i64 x3 1)))
  (k2 ())) 0)

noncomputable def laws_eqPaths.raw (a0 : G.Paths) (a1 : G.Paths) : Option Bool :=
  cond (!(eqq a0.At a1.At))
  (some false)
  (cond (!(eqq a0.Cands a1.Cands))
  (some false)
  (some true))

noncomputable def laws_eqSess.raw (a0 : G.Sess) (a1 : G.Sess) : Option Bool :=
  cond (a0.Id != a1.Id)
  (some false)
  (cond (!(eqq a0.Cn a1.Cn))
  (some false)
  (cond (!(eqq a0.Sn a1.Sn))
  (some false)
  (cond (!(eqq a0.C a1.C))
  (some false)
  (cond (!(eqq a0.P a1.P))
  (some false)
  (cond (a0.Tick != a1.Tick)
  (some false)
  (cond (a0.Last != a1.Last)
  (some false)
  (cond (!(a0.Dead == a1.Dead))
  (some false)
  (some true))))))))

noncomputable def laws_eqSessS.raw (a0 : List G.Sess) (a1 : List G.Sess) : Option Bool :=
  cond ((a0.length : Int) != (a1.length : Int))
  (some false)
  (joinK (fun (y1 : Unit) =>
  some true) fun k2 =>
  loopK FU (fun (x3 : Int) k4 =>
  cond (decide (x3 < (a0.length : Int)))
  (Option.bind (idxI a0 x3) fun e5 =>
  Option.bind (idxI a1 x3) fun e6 =>
  cond (!(eqq e5 e6))
  (some false)
  (k4 (iadd .i64 x3 1)))
  (k2 ())) 0)

noncomputable def laws_eqTab.raw (a0 : G.Tab) (a1 : G.Tab) : Option Bool :=
  cond (a0.Cap != a1.Cap)
  (some false)
  (cond (!(eqq a0.L a1.L))
  (some false)
  (some true))

noncomputable def laws_eqCredit.raw (a0 : G.Credit) (a1 : G.Credit) : Option Bool :=
  cond (!(eqq a0.A a1.A))
  (some false)
  (cond (a0.Got != a1.Got)
  (some false)
  (cond (a0.Sent != a1.Sent)
  (some false)
  (some true)))

noncomputable def laws_eqCreditS.raw (a0 : List G.Credit) (a1 : List G.Credit) : Option Bool :=
  cond ((a0.length : Int) != (a1.length : Int))
  (some false)
  (joinK (fun (y1 : Unit) =>
  some true) fun k2 =>
  loopK FU (fun (x3 : Int) k4 =>
  cond (decide (x3 < (a0.length : Int)))
  (Option.bind (idxI a0 x3) fun e5 =>
  Option.bind (idxI a1 x3) fun e6 =>
  cond (!(eqq e5 e6))
  (some false)
  (k4 (iadd .i64 x3 1)))
  (k2 ())) 0)

noncomputable def laws_eqServer.raw (a0 : G.Server) (a1 : G.Server) : Option Bool :=
  cond (!(eqq a0.Psks a1.Psks))
  (some false)
  (cond (!(eqq a0.J a1.J))
  (some false)
  (cond (!(eqq a0.D a1.D))
  (some false)
  (cond (!(eqq a0.T a1.T))
  (some false)
  (cond (!(eqq a0.Cr a1.Cr))
  (some false)
  (some true)))))

noncomputable def laws_eqWire.raw (a0 : G.Wire) (a1 : G.Wire) : Option Bool :=
  cond (!(eqq a0.From a1.From))
  (some false)
  (cond (!(eqq a0.To a1.To))
  (some false)
  (cond (!(eqq a0.B a1.B))
  (some false)
  (some true)))

noncomputable def laws_eqWireS.raw (a0 : List G.Wire) (a1 : List G.Wire) : Option Bool :=
  cond ((a0.length : Int) != (a1.length : Int))
  (some false)
  (joinK (fun (y1 : Unit) =>
  some true) fun k2 =>
  loopK FU (fun (x3 : Int) k4 =>
  cond (decide (x3 < (a0.length : Int)))
  (Option.bind (idxI a0 x3) fun e5 =>
  Option.bind (idxI a1 x3) fun e6 =>
  cond (!(eqq e5 e6))
  (some false)
  (k4 (iadd .i64 x3 1)))
  (k2 ())) 0)

noncomputable def laws_eqWorld.raw (a0 : G.World) (a1 : G.World) : Option Bool :=
  cond (a0.Now != a1.Now)
  (some false)
  (cond (!(eqq a0.Clients a1.Clients))
  (some false)
  (cond (!(eqq a0.S a1.S))
  (some false)
  (cond (!(eqq a0.D a1.D))
  (some false)
  (cond (!(eqq a0.Seen a1.Seen))
  (some false)
  (cond (!(eqq a0.Known a1.Known))
  (some false)
  (cond (!(eqq a0.Notes a1.Notes))
  (some false)
  (some true)))))))

noncomputable def laws_FnExactPartyAt.raw (a0 : G.World) (a1 : G.Addr) : Option Bool :=
  Option.bind (szO a0 1048576) fun r1 =>
  cond (decide (r1 < 0))
  (some true)
  (Option.bind (cpy a0) fun r2 =>
  Option.bind (cpy a1) fun r3 =>
  Option.bind (partyAtO r2 r3) fun r4 =>
  Option.bind (cpy a0) fun r5 =>
  Option.bind (cpy a1) fun r6 =>
  Option.bind (partyAtO r5 r6) fun r7 =>
  cond (r7 != r4)
  (some false)
  (Option.bind (cpy a0) fun r8 =>
  cond (!(eqq r5 r8))
  (some false)
  (some true)))

noncomputable def spec_JarOk.raw (a0 : G.Jar) : Option Bool :=
  some ((a0.Secret.length : Int) == 32)

noncomputable def spec_DiceOk.raw (a0 : G.Dice) : Option Bool :=
  joinK (fun (y1 : Bool) =>
  some y1) fun k2 =>
  let r3 : Bool := inR (a0.Seed.length : Int) 1 32
  cond (r3)
  (k2 (inR a0.N 0 10000))
  (k2 false)

noncomputable def spec_Live.raw (a0 : G.Tab) : Option Int :=
  joinK (fun (y1 : Int) =>
  some y1) fun k2 =>
  loopK FU (fun (x3 : Int × Int) k4 =>
  cond (decide (x3.2 < (a0.L.length : Int)))
  (Option.bind (idxI a0.L x3.2) fun e5 =>
  joinK (fun (y6 : Int) =>
  k4 (y6, (iadd .i64 x3.2 1))) fun k7 =>
  cond (!e5.Dead)
  (k7 (iadd .i64 x3.1 1))
  (k7 x3.1))
  (k2 x3.1)) (0, 0)

noncomputable def spec_l19NoChan.raw (a0 : G.Chan) : Option Bool :=
  joinK (fun (y1 : Bool) =>
  some y1) fun k2 =>
  cond (a0.Role == 0)
  (cond ((a0.Sn.length : Int) == 0)
  (cond ((noEp a0.Cur))
  (cond ((noEp a0.Old))
  (cond (!a0.HasOld)
  (cond (a0.Until == 0)
  (k2 ((a0.Next.length : Int) == 0))
  (k2 false))
  (k2 false))
  (k2 false))
  (k2 false))
  (k2 false))
  (k2 false)

noncomputable def spec_PathsOk.raw (a0 : G.Paths) : Option Bool :=
  joinK (fun (y1 : Bool) =>
  cond (y1)
  (some false)
  (joinK (fun (y3 : Unit) =>
  some true) fun k4 =>
  loopK FU (fun (x5 : Int) k6 =>
  cond (decide (x5 < (a0.Cands.length : Int)))
  (Option.bind (idxI a0.Cands x5) fun e7 =>
  joinK (fun (y8 : Bool) =>
  cond (y8)
  (some false)
  (joinK (fun (y11 : Unit) =>
  k6 (iadd .i64 x5 1)) fun k12 =>
  loopK FU (fun (x13 : Int) k14 =>
  cond (decide (x13 < x5))
  (Option.bind (idxI a0.Cands x13) fun e15 =>
  let x16 : Bool := cond (e15.A.Host == e7.A.Host) (cond (e15.A.Port == e7.A.Port) (true) false) false
  cond (x16)
  (some false)
  (k14 (iadd .i64 x13 1)))
  (k12 ())) 0)) fun k9 =>
  cond (!(addrOk e7.A))
  (k9 true)
  (cond ((e7.Draw.length : Int) != 12)
  (k9 true)
  (cond (!(inR e7.Until 0 1000006))
  (k9 true)
  (let x10 : Bool := cond (e7.A.Host == a0.At.Host) (cond (e7.A.Port == a0.At.Port) (true) false) false
  k9 x10))))
  (k4 ())) 0)) fun k2 =>
  cond (!(addrOk a0.At))
  (k2 true)
  (k2 (decide ((a0.Cands.length : Int) > 3)))

noncomputable def spec_SessOk.raw (a0 : G.Sess) : Option Bool :=
  joinK (fun (y1 : Bool) =>
  cond (y1)
  (some false)
  (cond (a0.Dead)
  (joinK (fun (y3 : Bool) =>
  some y3) fun k4 =>
  cond ((noChan a0.C))
  (let r5 : G.Addr := near (-1)
  let x6 : Bool := cond (a0.P.At.Host == r5.Host) (cond (a0.P.At.Port == r5.Port) (true) false) false
  cond (x6)
  (cond ((a0.P.Cands.length : Int) == 0)
  (k4 (a0.Last == 0))
  (k4 false))
  (k4 false))
  (k4 false))
  (joinK (fun (y7 : Bool) =>
  some y7) fun k8 =>
  Option.bind (chanOkO a0.C) fun r9 =>
  cond (r9)
  (cond (a0.C.Role == 1)
  (Option.bind (sameO a0.C.Sn a0.Sn) fun r10 =>
  cond (r10)
  (k8 (pathsOk a0.P))
  (k8 false))
  (k8 false))
  (k8 false)))) fun k2 =>
  cond (!(inR a0.Id 1 9))
  (k2 true)
  (cond ((a0.Cn.length : Int) != 12)
  (k2 true)
  (cond ((a0.Sn.length : Int) != 12)
  (k2 true)
  (cond (!(inR a0.Tick 0 1000000))
  (k2 true)
  (k2 (!(inR a0.Last 0 1000000))))))

noncomputable def spec_FindSn.raw (a0 : G.Tab) (a1 : List UInt8) : Option Int :=
  joinK (fun (y1 : Unit) =>
  some (-1)) fun k2 =>
  loopK FU (fun (x3 : Int) k4 =>
  cond (decide (x3 < (a0.L.length : Int)))
  (Option.bind (idxI a0.L x3) fun e5 =>
  Option.bind (sameO e5.Sn a1) fun r6 =>
  cond (r6)
  (some x3)
  (k4 (iadd .i64 x3 1)))
  (k2 ())) 0

noncomputable def spec_TabOk.raw (a0 : G.Tab) : Option Bool :=
  joinK (fun (y1 : Bool) =>
  cond (y1)
  (some false)
  (joinK (fun (y4 : Unit) =>
  some true) fun k5 =>
  loopK FU (fun (x6 : Int) k7 =>
  cond (decide (x6 < (a0.L.length : Int)))
  (joinK (fun (y8 : Bool) =>
  cond (y8)
  (some false)
  (k7 (iadd .i64 x6 1))) fun k9 =>
  Option.bind (idxI a0.L x6) fun e10 =>
  Option.bind (sessOkO e10) fun r11 =>
  cond (!r11)
  (k9 true)
  (Option.bind (idxI a0.L x6) fun e12 =>
  Option.bind (findSnO a0 e12.Sn) fun r13 =>
  k9 (r13 != x6)))
  (k5 ())) 0)) fun k2 =>
  cond (!(inR a0.Cap 1 6))
  (k2 true)
  (cond (decide ((a0.L.length : Int) > 12))
  (k2 true)
  (Option.bind (liveO a0) fun r3 =>
  k2 (decide (r3 > a0.Cap))))

noncomputable def spec_CreditsOk.raw (a0 : List G.Credit) : Option Bool :=
  cond (decide ((a0.length : Int) > 8))
  (some false)
  (joinK (fun (y1 : Unit) =>
  some true) fun k2 =>
  loopK FU (fun (x3 : Int) k4 =>
  cond (decide (x3 < (a0.length : Int)))
  (joinK (fun (y5 : Bool) =>
  cond (y5)
  (some false)
  (joinK (fun (y12 : Unit) =>
  k4 (iadd .i64 x3 1)) fun k13 =>
  loopK FU (fun (x14 : Int) k15 =>
  cond (decide (x14 < x3))
  (Option.bind (idxI a0 x14) fun e16 =>
  Option.bind (idxI a0 x3) fun e17 =>
  let x18 : Bool := cond (e16.A.Host == e17.A.Host) (cond (e16.A.Port == e17.A.Port) (true) false) false
  cond (x18)
  (some false)
  (k15 (iadd .i64 x14 1)))
  (k13 ())) 0)) fun k6 =>
  Option.bind (idxI a0 x3) fun e7 =>
  cond (!(addrOk e7.A))
  (k6 true)
  (Option.bind (idxI a0 x3) fun e8 =>
  cond (!(inR e8.Got 0 1000000))
  (k6 true)
  (Option.bind (idxI a0 x3) fun e9 =>
  Option.bind (idxI a0 x3) fun e10 =>
  let r11 : Bool := inR e9.Sent 0 (imul .i64 3 e10.Got)
  k6 (!r11))))
  (k2 ())) 0)

noncomputable def spec_PskOk.raw (a0 : List UInt8) : Option Bool :=
  some (inR (a0.length : Int) 1 32)

noncomputable def spec_ServerOk.raw (a0 : G.Server) : Option Bool :=
  joinK (fun (y1 : Bool) =>
  cond (y1)
  (some false)
  (joinK (fun (y4 : Unit) =>
  joinK (fun (y9 : Unit) =>
  some true) fun k10 =>
  loopK FU (fun (x11 : Int) k12 =>
  cond (decide (x11 < (a0.T.L.length : Int)))
  (Option.bind (idxI a0.T.L x11) fun e13 =>
  cond (decide (e13.Id > (a0.Psks.length : Int)))
  (some false)
  (k12 (iadd .i64 x11 1)))
  (k10 ())) 0) fun k5 =>
  loopK FU (fun (x6 : Int) k7 =>
  cond (decide (x6 < (a0.Psks.length : Int)))
  (Option.bind (idxI a0.Psks x6) fun e8 =>
  cond (!(pskOk e8))
  (some false)
  (k7 (iadd .i64 x6 1)))
  (k5 ())) 0)) fun k2 =>
  cond (!(inR (a0.Psks.length : Int) 1 9))
  (k2 true)
  (cond (!(jarOk a0.J))
  (k2 true)
  (cond (!(diceOk a0.D))
  (k2 true)
  (Option.bind (tabOkO a0.T) fun r3 =>
  cond (!r3)
  (k2 true)
  (k2 (!(creditsOk a0.Cr))))))

noncomputable def spec_WireOk.raw (a0 : G.Wire) : Option Bool :=
  joinK (fun (y1 : Bool) =>
  some y1) fun k2 =>
  cond ((addrOk a0.From))
  (cond ((addrOk a0.To))
  (k2 (decide ((a0.B.length : Int) ≤ 200)))
  (k2 false))
  (k2 false)

noncomputable def spec_WiresOk.raw (a0 : List G.Wire) : Option Bool :=
  joinK (fun (y1 : Unit) =>
  some (decide ((a0.length : Int) ≤ 90))) fun k2 =>
  loopK FU (fun (x3 : Int) k4 =>
  cond (decide (x3 < (a0.length : Int)))
  (Option.bind (idxI a0 x3) fun e5 =>
  cond (!(wireOk e5))
  (some false)
  (k4 (iadd .i64 x3 1)))
  (k2 ())) 0

noncomputable def spec_TimerOk.raw (a0 : G.Timer) : Option Bool :=
  cond (!a0.On)
  (let x1 : Bool := cond (a0.On == false) (cond (a0.Due == 0) (cond (a0.Wait == 0) (cond (a0.Tries == 0) (true) false) false) false) false
  some x1)
  (joinK (fun (y2 : Bool) =>
  some y2) fun k3 =>
  cond ((inR a0.Due 0 1000008))
  (cond (a0.Wait == 1)
  (k3 (inR a0.Tries 1 5))
  (cond (a0.Wait == 2)
  (k3 (inR a0.Tries 1 5))
  (cond (a0.Wait == 4)
  (k3 (inR a0.Tries 1 5))
  (cond (a0.Wait == 8)
  (k3 (inR a0.Tries 1 5))
  (k3 false)))))
  (k3 false))

noncomputable def spec_l19NoFrame.raw (a0 : G.Frame) : Option Bool :=
  joinK (fun (y1 : Bool) =>
  some y1) fun k2 =>
  cond (a0.Kind == 0)
  (cond (a0.Id == 0)
  (cond ((a0.Cn.length : Int) == 0)
  (cond ((a0.Sn.length : Int) == 0)
  (cond (a0.Tick == 0)
  (cond ((a0.Cookie.length : Int) == 0)
  (cond ((a0.Proof.length : Int) == 0)
  (cond (a0.Epoch == 0)
  (cond (a0.Seq == 0)
  (cond ((a0.Body.length : Int) == 0)
  (k2 ((a0.Tag.length : Int) == 0))
  (k2 false))
  (k2 false))
  (k2 false))
  (k2 false))
  (k2 false))
  (k2 false))
  (k2 false))
  (k2 false))
  (k2 false))
  (k2 false)

noncomputable def spec_Sealed.raw (a0 : Int) : Option Bool :=
  some (inR a0 4 8)

noncomputable def spec_l7Body.raw (a0 : Int) (a1 : Int) : Option Bool :=
  cond (a0 == 4)
  (some (decide (a1 ≤ 40)))
  (joinK (fun (y1 : Bool) =>
  cond (y1)
  (some (a1 == 12))
  (some (a1 == 4))) fun k2 =>
  cond (a0 == 5)
  (k2 true)
  (k2 (a0 == 6)))

noncomputable def spec_FrameOk.raw (a0 : G.Frame) : Option Bool :=
  cond ((isSealed a0.Kind))
  (joinK (fun (y1 : Bool) =>
  some y1) fun k2 =>
  cond (a0.Id == 0)
  (cond ((a0.Cn.length : Int) == 0)
  (cond ((a0.Sn.length : Int) == 12)
  (cond (a0.Tick == 0)
  (cond ((a0.Cookie.length : Int) == 0)
  (cond ((a0.Proof.length : Int) == 0)
  (cond ((inR a0.Epoch 0 4294967295))
  (cond ((inR a0.Seq 0 281474976710655))
  (let r3 : Bool := bodyOk a0.Kind (a0.Body.length : Int)
  cond (r3)
  (k2 ((a0.Tag.length : Int) == 16))
  (k2 false))
  (k2 false))
  (k2 false))
  (k2 false))
  (k2 false))
  (k2 false))
  (k2 false))
  (k2 false))
  (k2 false))
  (joinK (fun (y4 : Bool) =>
  cond (y4)
  (some false)
  (cond (a0.Kind == 1)
  (joinK (fun (y6 : Bool) =>
  some y6) fun k7 =>
  cond ((inR a0.Id 1 9))
  (cond ((a0.Sn.length : Int) == 0)
  (cond (a0.Tick == 0)
  (cond ((a0.Cookie.length : Int) == 0)
  (k7 ((a0.Proof.length : Int) == 0))
  (k7 false))
  (k7 false))
  (k7 false))
  (k7 false))
  (cond (a0.Kind == 2)
  (joinK (fun (y8 : Bool) =>
  some y8) fun k9 =>
  cond (a0.Id == 0)
  (cond ((a0.Sn.length : Int) == 12)
  (cond ((inR a0.Tick 0 1000000))
  (cond ((a0.Cookie.length : Int) == 16)
  (k9 ((a0.Proof.length : Int) == 0))
  (k9 false))
  (k9 false))
  (k9 false))
  (k9 false))
  (cond (a0.Kind == 3)
  (joinK (fun (y10 : Bool) =>
  some y10) fun k11 =>
  cond ((inR a0.Id 1 9))
  (cond ((a0.Sn.length : Int) == 12)
  (cond ((inR a0.Tick 0 1000000))
  (cond ((a0.Cookie.length : Int) == 16)
  (k11 ((a0.Proof.length : Int) == 16))
  (k11 false))
  (k11 false))
  (k11 false))
  (k11 false))
  (some false))))) fun k5 =>
  cond (a0.Epoch != 0)
  (k5 true)
  (cond (a0.Seq != 0)
  (k5 true)
  (cond ((a0.Body.length : Int) != 0)
  (k5 true)
  (cond ((a0.Tag.length : Int) != 0)
  (k5 true)
  (k5 ((a0.Cn.length : Int) != 12))))))

noncomputable def spec_ClientOk.raw (a0 : G.Client) : Option Bool :=
  joinK (fun (y1 : Bool) =>
  cond (y1)
  (some false)
  (cond (a0.St == 0)
  (joinK (fun (y3 : Bool) =>
  some y3) fun k4 =>
  cond ((a0.Cn.length : Int) == 0)
  (cond ((noFrame a0.Fin))
  (cond ((noChan a0.C))
  (cond (!a0.T.On)
  (cond (!a0.R.On)
  (k4 (a0.Last == 0))
  (k4 false))
  (k4 false))
  (k4 false))
  (k4 false))
  (k4 false))
  (cond ((a0.Cn.length : Int) != 12)
  (some false)
  (cond (a0.St == 3)
  (joinK (fun (y5 : Bool) =>
  some y5) fun k6 =>
  cond ((noFrame a0.Fin))
  (Option.bind (chanOkO a0.C) fun r7 =>
  cond (r7)
  (cond (a0.C.Role == 0)
  (cond (!a0.T.On)
  (k6 (a0.R.On == (decide ((a0.C.Next.length : Int) > 0))))
  (k6 false))
  (k6 false))
  (k6 false))
  (k6 false))
  (joinK (fun (y8 : Bool) =>
  cond (y8)
  (some false)
  (cond (a0.St == 1)
  (joinK (fun (y10 : Bool) =>
  some y10) fun k11 =>
  cond ((noFrame a0.Fin))
  (k11 (noChan a0.C))
  (k11 false))
  (joinK (fun (y12 : Bool) =>
  some y12) fun k13 =>
  cond (a0.St == 2)
  (cond ((frameOk a0.Fin))
  (cond (a0.Fin.Kind == 3)
  (cond (a0.Fin.Id == a0.Id)
  (Option.bind (sameO a0.Fin.Cn a0.Cn) fun r14 =>
  cond (r14)
  (Option.bind (chanOkO a0.C) fun r15 =>
  cond (r15)
  (cond (a0.C.Role == 0)
  (Option.bind (sameO a0.C.Sn a0.Fin.Sn) fun r16 =>
  cond (r16)
  (cond (a0.C.Cur.N == 0)
  (cond (!a0.C.HasOld)
  (k13 ((a0.C.Next.length : Int) == 0))
  (k13 false))
  (k13 false))
  (k13 false))
  (k13 false))
  (k13 false))
  (k13 false))
  (k13 false))
  (k13 false))
  (k13 false))
  (k13 false)))) fun k9 =>
  cond (!a0.T.On)
  (k9 true)
  (cond (a0.R.On)
  (k9 true)
  (k9 (a0.Last != 0)))))))) fun k2 =>
  cond (!(inR a0.Id 1 9))
  (k2 true)
  (cond (!(pskOk a0.Psk))
  (k2 true)
  (cond (!(addrOk a0.At))
  (k2 true)
  (cond (!(timerOk a0.T))
  (k2 true)
  (cond (!(timerOk a0.R))
  (k2 true)
  (k2 (!(inR a0.Last 0 1000000)))))))

noncomputable def spec_WorldOk.raw (a0 : G.World) : Option Bool :=
  joinK (fun (y1 : Bool) =>
  cond (y1)
  (some false)
  (joinK (fun (y4 : Unit) =>
  joinK (fun (y16 : Unit) =>
  joinK (fun (y21 : Unit) =>
  some true) fun k22 =>
  loopK FU (fun (x23 : Int) k24 =>
  cond (decide (x23 < (a0.Notes.length : Int)))
  (Option.bind (idxI a0.Notes x23) fun e25 =>
  cond (!(noteOk e25))
  (some false)
  (k24 (iadd .i64 x23 1)))
  (k22 ())) 0) fun k17 =>
  loopK FU (fun (x18 : Int) k19 =>
  cond (decide (x18 < (a0.Known.length : Int)))
  (Option.bind (idxI a0.Known x18) fun e20 =>
  cond ((e20.length : Int) != 32)
  (some false)
  (k19 (iadd .i64 x18 1)))
  (k17 ())) 0) fun k5 =>
  loopK FU (fun (x6 : Int) k7 =>
  cond (decide (x6 < 2))
  (joinK (fun (y8 : Bool) =>
  cond (y8)
  (some false)
  (k7 (iadd .i64 x6 1))) fun k9 =>
  Option.bind (idxI a0.Clients x6) fun e10 =>
  Option.bind (clientOkO e10) fun r11 =>
  cond (!r11)
  (k9 true)
  (Option.bind (idxI a0.Clients x6) fun e12 =>
  cond (e12.Id != (iadd .i64 x6 1))
  (k9 true)
  (Option.bind (idxI a0.Clients x6) fun e13 =>
  Option.bind (idxI a0.S.Psks x6) fun e14 =>
  Option.bind (sameO e13.Psk e14) fun r15 =>
  k9 (!r15))))
  (k5 ())) 0)) fun k2 =>
  cond (!(inR a0.Now 0 1000000))
  (k2 true)
  (cond ((a0.Clients.length : Int) != 2)
  (k2 true)
  (Option.bind (serverOkO a0.S) fun r3 =>
  cond (!r3)
  (k2 true)
  (cond ((a0.S.Psks.length : Int) != 2)
  (k2 true)
  (cond (!(diceOk a0.D))
  (k2 true)
  (cond (!(wiresOk a0.Seen))
  (k2 true)
  (k2 (decide ((a0.Known.length : Int) > 12))))))))

noncomputable def impl_JarOk.raw (a0 : G.Jar) : Option Bool :=
  some ((a0.Secret.length : Int) == 32)

noncomputable def impl_DiceOk.raw (a0 : G.Dice) : Option Bool :=
  joinK (fun (y1 : Bool) =>
  some y1) fun k2 =>
  let r3 : Bool := inR (a0.Seed.length : Int) 1 32
  cond (r3)
  (k2 (inR a0.N 0 10000))
  (k2 false)

noncomputable def impl_Live.raw (a0 : G.Tab) : Option Int :=
  joinK (fun (y1 : Int) =>
  some y1) fun k2 =>
  loopK FU (fun (x3 : Int × Int) k4 =>
  cond (decide (x3.2 < (a0.L.length : Int)))
  (Option.bind (idxI a0.L x3.2) fun e5 =>
  joinK (fun (y6 : Int) =>
  k4 (y6, (iadd .i64 x3.2 1))) fun k7 =>
  cond (!e5.Dead)
  (k7 (iadd .i64 x3.1 1))
  (k7 x3.1))
  (k2 x3.1)) (0, 0)

noncomputable def impl_isZeroChan.raw (a0 : G.Chan) : Option Bool :=
  joinK (fun (y1 : Bool) =>
  some y1) fun k2 =>
  cond (a0.Role == 0)
  (cond ((a0.Sn.length : Int) == 0)
  (Option.bind (sameEpO a0.Cur (⟨0, [], 0, (⟨0, []⟩ : G.Win)⟩ : G.Ep)) fun r3 =>
  cond (r3)
  (Option.bind (sameEpO a0.Old (⟨0, [], 0, (⟨0, []⟩ : G.Win)⟩ : G.Ep)) fun r4 =>
  cond (r4)
  (cond (!a0.HasOld)
  (cond (a0.Until == 0)
  (k2 ((a0.Next.length : Int) == 0))
  (k2 false))
  (k2 false))
  (k2 false))
  (k2 false))
  (k2 false))
  (k2 false)

noncomputable def impl_PathsOk.raw (a0 : G.Paths) : Option Bool :=
  joinK (fun (y1 : Bool) =>
  cond (y1)
  (some false)
  (joinK (fun (y3 : Unit) =>
  some true) fun k4 =>
  loopK FU (fun (x5 : Int) k6 =>
  cond (decide (x5 < (a0.Cands.length : Int)))
  (Option.bind (idxI a0.Cands x5) fun e7 =>
  joinK (fun (y8 : Bool) =>
  cond (y8)
  (some false)
  (cond (decide (0 ≤ (0 : Int)) && decide ((0 : Int) ≤ x5) && decide (x5 ≤ (a0.Cands.length : Int))) (let l11 : List G.Cand := List.take ((x5 - 0).toNat) (List.drop 0 a0.Cands)
  joinK (fun (y12 : Unit) =>
  k6 (iadd .i64 x5 1)) fun k13 =>
  loopK FU (fun (x14 : Int) k15 =>
  cond (decide (x14 < (l11.length : Int)))
  (Option.bind (idxI l11 x14) fun e16 =>
  let x17 : Bool := cond (e16.A.Host == e7.A.Host) (cond (e16.A.Port == e7.A.Port) (true) false) false
  cond (x17)
  (some false)
  (k15 (iadd .i64 x14 1)))
  (k13 ())) 0) none)) fun k9 =>
  cond (!(addrOk e7.A))
  (k9 true)
  (let x10 : Bool := cond (e7.A.Host == a0.At.Host) (cond (e7.A.Port == a0.At.Port) (true) false) false
  cond (x10)
  (k9 true)
  (cond (!(isNonce e7.Draw))
  (k9 true)
  (k9 (!(inR e7.Until 0 1000006))))))
  (k4 ())) 0)) fun k2 =>
  cond (!(addrOk a0.At))
  (k2 true)
  (k2 (decide ((a0.Cands.length : Int) > 3)))

noncomputable def impl_SessOk.raw (a0 : G.Sess) : Option Bool :=
  joinK (fun (y1 : Bool) =>
  cond (y1)
  (some false)
  (cond (a0.Dead)
  (joinK (fun (y3 : Bool) =>
  some y3) fun k4 =>
  Option.bind (noChanO a0.C) fun r5 =>
  cond (r5)
  (let x6 : Bool := cond (a0.P.At.Host == 0) (cond (a0.P.At.Port == 0) (true) false) false
  cond (x6)
  (cond ((a0.P.Cands.length : Int) == 0)
  (k4 (a0.Last == 0))
  (k4 false))
  (k4 false))
  (k4 false))
  (joinK (fun (y7 : Bool) =>
  some y7) fun k8 =>
  Option.bind (chanOkO a0.C) fun r9 =>
  cond (r9)
  (cond (a0.C.Role == 1)
  (Option.bind (sameO a0.C.Sn a0.Sn) fun r10 =>
  cond (r10)
  (cond ((pathsOk a0.P))
  (k8 (inR a0.Last 0 1000000))
  (k8 false))
  (k8 false))
  (k8 false))
  (k8 false)))) fun k2 =>
  cond (!(inR a0.Id 1 9))
  (k2 true)
  (cond (!(isNonce a0.Cn))
  (k2 true)
  (cond (!(isNonce a0.Sn))
  (k2 true)
  (k2 (!(inR a0.Tick 0 1000000)))))

noncomputable def impl_FindSn.raw (a0 : G.Tab) (a1 : List UInt8) : Option Int :=
  joinK (fun (y1 : Unit) =>
  some (-1)) fun k2 =>
  loopK FU (fun (x3 : Int) k4 =>
  cond (decide (x3 < (a0.L.length : Int)))
  (Option.bind (idxI a0.L x3) fun e5 =>
  Option.bind (sameO e5.Sn a1) fun r6 =>
  cond (r6)
  (some x3)
  (k4 (iadd .i64 x3 1)))
  (k2 ())) 0

noncomputable def impl_TabOk.raw (a0 : G.Tab) : Option Bool :=
  joinK (fun (y1 : Bool) =>
  cond (y1)
  (some false)
  (joinK (fun (y4 : Unit) =>
  some true) fun k5 =>
  loopK FU (fun (x6 : Int) k7 =>
  cond (decide (x6 < (a0.L.length : Int)))
  (Option.bind (idxI a0.L x6) fun e8 =>
  joinK (fun (y9 : Bool) =>
  cond (y9)
  (some false)
  (k7 (iadd .i64 x6 1))) fun k10 =>
  Option.bind (sessOkO e8) fun r11 =>
  cond (!r11)
  (k10 true)
  (Option.bind (findSnO a0 e8.Sn) fun r12 =>
  k10 (decide (r12 < x6))))
  (k5 ())) 0)) fun k2 =>
  cond (!(inR a0.Cap 1 6))
  (k2 true)
  (cond (decide ((a0.L.length : Int) > 12))
  (k2 true)
  (Option.bind (liveO a0) fun r3 =>
  k2 (decide (r3 > a0.Cap))))

noncomputable def impl_creditAt.raw (a0 : List G.Credit) (a1 : G.Addr) : Option Int :=
  joinK (fun (y1 : Unit) =>
  some (-1)) fun k2 =>
  loopK FU (fun (x3 : Int) k4 =>
  cond (decide (x3 < (a0.length : Int)))
  (Option.bind (idxI a0 x3) fun e5 =>
  let x6 : Bool := cond (e5.A.Host == a1.Host) (cond (e5.A.Port == a1.Port) (true) false) false
  cond (x6)
  (some x3)
  (k4 (iadd .i64 x3 1)))
  (k2 ())) 0

noncomputable def impl_CreditsOk.raw (a0 : List G.Credit) : Option Bool :=
  cond (decide ((a0.length : Int) > 8))
  (some false)
  (joinK (fun (y1 : Unit) =>
  some true) fun k2 =>
  loopK FU (fun (x3 : Int) k4 =>
  cond (decide (x3 < (a0.length : Int)))
  (Option.bind (idxI a0 x3) fun e5 =>
  joinK (fun (y6 : Bool) =>
  cond (y6)
  (some false)
  (k4 (iadd .i64 x3 1))) fun k7 =>
  cond (!(addrOk e5.A))
  (k7 true)
  (cond (!(inR e5.Got 0 1000000))
  (k7 true)
  (let r8 : Bool := inR e5.Sent 0 (imul .i64 3 e5.Got)
  cond (!r8)
  (k7 true)
  (k7 (decide ((cAt a0 e5.A) < x3))))))
  (k2 ())) 0)

noncomputable def impl_PskOk.raw (a0 : List UInt8) : Option Bool :=
  some (inR (a0.length : Int) 1 32)

noncomputable def impl_ServerOk.raw (a0 : G.Server) : Option Bool :=
  joinK (fun (y1 : Bool) =>
  cond (y1)
  (some false)
  (joinK (fun (y4 : Unit) =>
  joinK (fun (y9 : Unit) =>
  some true) fun k10 =>
  loopK FU (fun (x11 : Int) k12 =>
  cond (decide (x11 < (a0.T.L.length : Int)))
  (Option.bind (idxI a0.T.L x11) fun e13 =>
  cond (decide (e13.Id > (a0.Psks.length : Int)))
  (some false)
  (k12 (iadd .i64 x11 1)))
  (k10 ())) 0) fun k5 =>
  loopK FU (fun (x6 : Int) k7 =>
  cond (decide (x6 < (a0.Psks.length : Int)))
  (Option.bind (idxI a0.Psks x6) fun e8 =>
  cond (!(pskOk e8))
  (some false)
  (k7 (iadd .i64 x6 1)))
  (k5 ())) 0)) fun k2 =>
  cond (!(inR (a0.Psks.length : Int) 1 9))
  (k2 true)
  (cond (!(jarOk a0.J))
  (k2 true)
  (cond (!(diceOk a0.D))
  (k2 true)
  (Option.bind (tabOkO a0.T) fun r3 =>
  cond (!r3)
  (k2 true)
  (k2 (!(creditsOk a0.Cr))))))

noncomputable def impl_WireOk.raw (a0 : G.Wire) : Option Bool :=
  joinK (fun (y1 : Bool) =>
  some y1) fun k2 =>
  cond ((addrOk a0.From))
  (cond ((addrOk a0.To))
  (k2 (decide ((a0.B.length : Int) ≤ 200)))
  (k2 false))
  (k2 false)

noncomputable def impl_WiresOk.raw (a0 : List G.Wire) : Option Bool :=
  joinK (fun (y1 : Unit) =>
  some (decide ((a0.length : Int) ≤ 90))) fun k2 =>
  loopK FU (fun (x3 : Int) k4 =>
  cond (decide (x3 < (a0.length : Int)))
  (Option.bind (idxI a0 x3) fun e5 =>
  cond (!(wireOk e5))
  (some false)
  (k4 (iadd .i64 x3 1)))
  (k2 ())) 0

noncomputable def impl_sameFrame.raw (a0 : G.Frame) (a1 : G.Frame) : Option Bool :=
  joinK (fun (y1 : Bool) =>
  some y1) fun k2 =>
  cond (a0.Kind == a1.Kind)
  (cond (a0.Id == a1.Id)
  (cond (a0.Tick == a1.Tick)
  (cond (a0.Epoch == a1.Epoch)
  (cond (a0.Seq == a1.Seq)
  (Option.bind (sameO a0.Cn a1.Cn) fun r3 =>
  cond (r3)
  (Option.bind (sameO a0.Sn a1.Sn) fun r4 =>
  cond (r4)
  (Option.bind (sameO a0.Cookie a1.Cookie) fun r5 =>
  cond (r5)
  (Option.bind (sameO a0.Proof a1.Proof) fun r6 =>
  cond (r6)
  (Option.bind (sameO a0.Body a1.Body) fun r7 =>
  cond (r7)
  (Option.bind (sameO a0.Tag a1.Tag) fun r8 =>
  k2 r8)
  (k2 false))
  (k2 false))
  (k2 false))
  (k2 false))
  (k2 false))
  (k2 false))
  (k2 false))
  (k2 false))
  (k2 false))
  (k2 false)

noncomputable def impl_TimerOk.raw (a0 : G.Timer) : Option Bool :=
  cond (!a0.On)
  (let x1 : Bool := cond (a0.On == false) (cond (a0.Due == 0) (cond (a0.Wait == 0) (cond (a0.Tries == 0) (true) false) false) false) false
  some x1)
  (joinK (fun (y2 : Bool) =>
  joinK (fun (y4 : Bool) =>
  some y4) fun k5 =>
  cond ((inR a0.Due 0 1000008))
  (cond (y2)
  (k5 (inR a0.Tries 1 5))
  (k5 false))
  (k5 false)) fun k3 =>
  cond (a0.Wait == 1)
  (k3 true)
  (cond (a0.Wait == 2)
  (k3 true)
  (cond (a0.Wait == 4)
  (k3 true)
  (k3 (a0.Wait == 8)))))

noncomputable def impl_Sealed.raw (a0 : Int) : Option Bool :=
  some (inR a0 4 8)

noncomputable def impl_bodyOk.raw (a0 : Int) (a1 : Int) : Option Bool :=
  cond (a0 == 4)
  (some (decide (a1 ≤ 40)))
  (joinK (fun (y1 : Bool) =>
  cond (y1)
  (some (a1 == 12))
  (some (a1 == 4))) fun k2 =>
  cond (a0 == 5)
  (k2 (a0 == 5))
  (k2 (a0 == 6)))

noncomputable def impl_FrameOk.raw (a0 : G.Frame) : Option Bool :=
  joinK (fun (y1 : Bool × G.Frame) =>
  joinK (fun (y18 : Bool) =>
  some y18) fun k19 =>
  cond (y1.1)
  (Option.bind (sameFrameO a0 y1.2) fun r20 =>
  k19 r20)
  (k19 false)) fun k2 =>
  cond (a0.Kind == 1)
  (joinK (fun (y3 : Bool) =>
  k2 (y3, (⟨a0.Kind, a0.Id, a0.Cn, [], 0, [], [], 0, 0, [], []⟩ : G.Frame))) fun k4 =>
  cond ((inR a0.Id 1 9))
  (k4 (isNonce a0.Cn))
  (k4 false))
  (joinK (fun (y5 : Bool × G.Frame) =>
  k2 (y5.1, y5.2)) fun k6 =>
  cond (a0.Kind == 2)
  (joinK (fun (y7 : Bool) =>
  k6 (y7, (⟨a0.Kind, 0, a0.Cn, a0.Sn, a0.Tick, a0.Cookie, [], 0, 0, [], []⟩ : G.Frame))) fun k8 =>
  cond ((isNonce a0.Cn))
  (cond ((isNonce a0.Sn))
  (cond ((inR a0.Tick 0 1000000))
  (k8 ((a0.Cookie.length : Int) == 16))
  (k8 false))
  (k8 false))
  (k8 false))
  (joinK (fun (y9 : Bool × G.Frame) =>
  k6 (y9.1, y9.2)) fun k10 =>
  cond (a0.Kind == 3)
  (joinK (fun (y11 : Bool) =>
  k10 (y11, (⟨a0.Kind, a0.Id, a0.Cn, a0.Sn, a0.Tick, a0.Cookie, a0.Proof, 0, 0, [], []⟩ : G.Frame))) fun k12 =>
  cond ((inR a0.Id 1 9))
  (cond ((isNonce a0.Cn))
  (cond ((isNonce a0.Sn))
  (cond ((inR a0.Tick 0 1000000))
  (cond ((a0.Cookie.length : Int) == 16)
  (k12 ((a0.Proof.length : Int) == 16))
  (k12 false))
  (k12 false))
  (k12 false))
  (k12 false))
  (k12 false))
  (joinK (fun (y13 : Bool × G.Frame) =>
  k10 (y13.1, y13.2)) fun k14 =>
  cond ((isSealed a0.Kind))
  (joinK (fun (y15 : Bool) =>
  k14 (y15, (⟨a0.Kind, 0, [], a0.Sn, 0, [], [], a0.Epoch, a0.Seq, a0.Body, a0.Tag⟩ : G.Frame))) fun k16 =>
  cond ((isNonce a0.Sn))
  (cond ((inR a0.Epoch 0 4294967295))
  (cond ((inR a0.Seq 0 281474976710655))
  (cond ((a0.Tag.length : Int) == 16)
  (let r17 : Bool := bodyOk a0.Kind (a0.Body.length : Int)
  k16 r17)
  (k16 false))
  (k16 false))
  (k16 false))
  (k16 false))
  (k14 (false, (⟨a0.Kind, 0, [], [], 0, [], [], 0, 0, [], []⟩ : G.Frame))))))

noncomputable def impl_finishOk.raw (a0 : G.Client) : Option Bool :=
  joinK (fun (y1 : Bool) =>
  cond (y1)
  (some false)
  (joinK (fun (y5 : Bool) =>
  some y5) fun k6 =>
  Option.bind (chanOkO a0.C) fun r7 =>
  cond (r7)
  (cond (a0.C.Role == 0)
  (Option.bind (sameO a0.C.Sn a0.Fin.Sn) fun r8 =>
  cond (r8)
  (cond (a0.C.Cur.N == 0)
  (cond (!a0.C.HasOld)
  (k6 ((a0.C.Next.length : Int) == 0))
  (k6 false))
  (k6 false))
  (k6 false))
  (k6 false))
  (k6 false))) fun k2 =>
  cond (!(isNonce a0.Cn))
  (k2 true)
  (cond (a0.Fin.Kind != 3)
  (k2 true)
  (Option.bind (frameOkO a0.Fin) fun r3 =>
  cond (!r3)
  (k2 true)
  (cond (a0.Fin.Id != a0.Id)
  (k2 true)
  (Option.bind (sameO a0.Fin.Cn a0.Cn) fun r4 =>
  k2 (!r4)))))

noncomputable def impl_ClientOk.raw (a0 : G.Client) : Option Bool :=
  joinK (fun (y1 : Bool) =>
  cond (y1)
  (some false)
  (Option.bind (sameFrameO a0.Fin (⟨0, 0, [], [], 0, [], [], 0, 0, [], []⟩ : G.Frame)) fun r3 =>
  let x4 : Bool := cond (a0.T.On == false) (cond (a0.T.Due == 0) (cond (a0.T.Wait == 0) (cond (a0.T.Tries == 0) (true) false) false) false) false
  cond (a0.St == 0)
  (joinK (fun (y5 : Bool) =>
  some y5) fun k6 =>
  cond ((a0.Cn.length : Int) == 0)
  (cond (r3)
  (Option.bind (noChanO a0.C) fun r7 =>
  cond (r7)
  (cond (x4)
  (let x8 : Bool := cond (a0.R.On == false) (cond (a0.R.Due == 0) (cond (a0.R.Wait == 0) (cond (a0.R.Tries == 0) (true) false) false) false) false
  cond (x8)
  (k6 (a0.Last == 0))
  (k6 false))
  (k6 false))
  (k6 false))
  (k6 false))
  (k6 false))
  (cond (a0.St == 1)
  (joinK (fun (y9 : Bool) =>
  some y9) fun k10 =>
  cond ((isNonce a0.Cn))
  (cond (r3)
  (Option.bind (noChanO a0.C) fun r11 =>
  cond (r11)
  (cond (a0.T.On)
  (cond ((timerOk a0.T))
  (let x12 : Bool := cond (a0.R.On == false) (cond (a0.R.Due == 0) (cond (a0.R.Wait == 0) (cond (a0.R.Tries == 0) (true) false) false) false) false
  cond (x12)
  (k10 (a0.Last == 0))
  (k10 false))
  (k10 false))
  (k10 false))
  (k10 false))
  (k10 false))
  (k10 false))
  (cond (a0.St == 2)
  (joinK (fun (y13 : Bool) =>
  some y13) fun k14 =>
  Option.bind (finishOkO a0) fun r15 =>
  cond (r15)
  (cond (a0.T.On)
  (cond ((timerOk a0.T))
  (let x16 : Bool := cond (a0.R.On == false) (cond (a0.R.Due == 0) (cond (a0.R.Wait == 0) (cond (a0.R.Tries == 0) (true) false) false) false) false
  cond (x16)
  (k14 (a0.Last == 0))
  (k14 false))
  (k14 false))
  (k14 false))
  (k14 false))
  (cond (a0.St == 3)
  (joinK (fun (y17 : Bool) =>
  some y17) fun k18 =>
  cond ((isNonce a0.Cn))
  (cond (r3)
  (Option.bind (chanOkO a0.C) fun r19 =>
  cond (r19)
  (cond (a0.C.Role == 0)
  (cond (x4)
  (cond ((timerOk a0.R))
  (cond (a0.R.On == (decide ((a0.C.Next.length : Int) > 0)))
  (k18 (inR a0.Last 0 1000000))
  (k18 false))
  (k18 false))
  (k18 false))
  (k18 false))
  (k18 false))
  (k18 false))
  (k18 false))
  (some false)))))) fun k2 =>
  cond (!(inR a0.Id 1 9))
  (k2 true)
  (cond (!(pskOk a0.Psk))
  (k2 true)
  (k2 (!(addrOk a0.At))))

noncomputable def impl_WorldOk.raw (a0 : G.World) : Option Bool :=
  joinK (fun (y1 : Bool) =>
  cond (y1)
  (some false)
  (joinK (fun (y4 : Bool) =>
  cond (y4)
  (some false)
  (joinK (fun (y6 : Unit) =>
  joinK (fun (y16 : Unit) =>
  joinK (fun (y21 : Unit) =>
  some true) fun k22 =>
  loopK FU (fun (x23 : Int) k24 =>
  cond (decide (x23 < (a0.Notes.length : Int)))
  (Option.bind (idxI a0.Notes x23) fun e25 =>
  cond (!(noteOk e25))
  (some false)
  (k24 (iadd .i64 x23 1)))
  (k22 ())) 0) fun k17 =>
  loopK FU (fun (x18 : Int) k19 =>
  cond (decide (x18 < (a0.Known.length : Int)))
  (Option.bind (idxI a0.Known x18) fun e20 =>
  cond ((e20.length : Int) != 32)
  (some false)
  (k19 (iadd .i64 x18 1)))
  (k17 ())) 0) fun k7 =>
  loopK FU (fun (x8 : Int) k9 =>
  cond (decide (x8 < (a0.Clients.length : Int)))
  (Option.bind (idxI a0.Clients x8) fun e10 =>
  joinK (fun (y11 : Bool) =>
  cond (y11)
  (some false)
  (k9 (iadd .i64 x8 1))) fun k12 =>
  Option.bind (clientOkO e10) fun r13 =>
  cond (!r13)
  (k12 true)
  (cond (e10.Id != (iadd .i64 x8 1))
  (k12 true)
  (Option.bind (idxI a0.S.Psks x8) fun e14 =>
  Option.bind (sameO e10.Psk e14) fun r15 =>
  k12 (!r15))))
  (k7 ())) 0)) fun k5 =>
  cond (!(diceOk a0.D))
  (k5 true)
  (cond (!(wiresOk a0.Seen))
  (k5 true)
  (k5 (decide ((a0.Known.length : Int) > 12)))))) fun k2 =>
  cond (!(inR a0.Now 0 1000000))
  (k2 true)
  (cond ((a0.Clients.length : Int) != 2)
  (k2 true)
  (Option.bind (serverOkO a0.S) fun r3 =>
  cond (!r3)
  (k2 true)
  (k2 ((a0.S.Psks.length : Int) != 2))))

noncomputable def laws_FnExactWorldOk.raw (a0 : G.World) : Option Bool :=
  Option.bind (szO a0 1048576) fun r1 =>
  cond (decide (r1 < 0))
  (some true)
  (Option.bind (cpy a0) fun r2 =>
  Option.bind (worldOkO r2) fun r3 =>
  Option.bind (cpy a0) fun r4 =>
  Option.bind (worldOkO r4) fun r5 =>
  cond (!(r5 == r3))
  (some false)
  (Option.bind (cpy a0) fun r6 =>
  cond (!(eqq r4 r6))
  (some false)
  (some true)))

noncomputable def spec_Sleeps.raw (a0 : G.World) : Option Bool :=
  joinK (fun (y1 : Bool) =>
  some y1) fun k2 =>
  Option.bind (worldOkO a0) fun r3 =>
  cond (r3)
  (Option.bind (idxI a0.Clients 0) fun e4 =>
  cond (e4.St == 0)
  (Option.bind (idxI a0.Clients 1) fun e5 =>
  cond (e5.St == 0)
  (Option.bind (liveO a0.S.T) fun r6 =>
  k2 (r6 == 0))
  (k2 false))
  (k2 false))
  (k2 false)

noncomputable def impl_Sleeps.raw (a0 : G.World) : Option Bool :=
  Option.bind (worldOkO a0) fun r1 =>
  cond (!r1)
  (some false)
  (joinK (fun (y2 : Unit) =>
  Option.bind (liveO a0.S.T) fun r7 =>
  some (r7 == 0)) fun k3 =>
  loopK FU (fun (x4 : Int) k5 =>
  cond (decide (x4 < (a0.Clients.length : Int)))
  (Option.bind (idxI a0.Clients x4) fun e6 =>
  cond (e6.St != 0)
  (some false)
  (k5 (iadd .i64 x4 1)))
  (k3 ())) 0)

noncomputable def laws_FnExactSleeps.raw (a0 : G.World) : Option Bool :=
  Option.bind (szO a0 1048576) fun r1 =>
  cond (decide (r1 < 0))
  (some true)
  (Option.bind (cpy a0) fun r2 =>
  Option.bind (sleepsO r2) fun r3 =>
  Option.bind (cpy a0) fun r4 =>
  Option.bind (sleepsO r4) fun r5 =>
  cond (!(r5 == r3))
  (some false)
  (Option.bind (cpy a0) fun r6 =>
  cond (!(eqq r4 r6))
  (some false)
  (some true)))

noncomputable def spec_Settled.raw (a0 : G.World) : Option Bool :=
  Option.bind (worldOkO a0) fun r1 =>
  cond (!r1)
  (some false)
  (joinK (fun (y2 : Unit) =>
  some true) fun k3 =>
  loopK FU (fun (x4 : Int) k5 =>
  cond (decide (x4 < 2))
  (joinK (fun (y6 : Bool) =>
  cond (y6)
  (some false)
  (k5 (iadd .i64 x4 1))) fun k7 =>
  Option.bind (idxI a0.Clients x4) fun e8 =>
  cond (e8.St == 1)
  (k7 true)
  (Option.bind (idxI a0.Clients x4) fun e9 =>
  k7 (e9.St == 2)))
  (k3 ())) 0)

noncomputable def impl_Settled.raw (a0 : G.World) : Option Bool :=
  Option.bind (worldOkO a0) fun r1 =>
  cond (!r1)
  (some false)
  (joinK (fun (y2 : Unit) =>
  some true) fun k3 =>
  loopK FU (fun (x4 : Int) k5 =>
  cond (decide (x4 < (a0.Clients.length : Int)))
  (Option.bind (idxI a0.Clients x4) fun e6 =>
  joinK (fun (y7 : Bool) =>
  cond (y7)
  (some false)
  (k5 (iadd .i64 x4 1))) fun k8 =>
  cond (e6.St == 1)
  (k8 true)
  (k8 (e6.St == 2)))
  (k3 ())) 0)

noncomputable def laws_FnExactSettled.raw (a0 : G.World) : Option Bool :=
  Option.bind (szO a0 1048576) fun r1 =>
  cond (decide (r1 < 0))
  (some true)
  (Option.bind (cpy a0) fun r2 =>
  Option.bind (settledO r2) fun r3 =>
  Option.bind (cpy a0) fun r4 =>
  Option.bind (settledO r4) fun r5 =>
  cond (!(r5 == r3))
  (some false)
  (Option.bind (cpy a0) fun r6 =>
  cond (!(eqq r4 r6))
  (some false)
  (some true)))

noncomputable def spec_EpochsFit.raw (a0 : G.World) (a1 : Int) : Option Bool :=
  joinK (fun (y1 : Bool) =>
  cond (y1)
  (some false)
  (Option.bind (idxI a0.Clients (isub .i64 a1 1)) fun e4 =>
  Option.bind (findSnO a0.S.T e4.C.Sn) fun r5 =>
  joinK (fun (y6 : Bool) =>
  cond (y6)
  (some true)
  (Option.bind (idxI a0.S.T.L r5) fun e9 =>
  Option.bind (sameO e9.Cn e4.Cn) fun r10 =>
  cond (!r10)
  (some false)
  (cond (e9.C.Cur.N == e4.C.Cur.N)
  (joinK (fun (y11 : Bool) =>
  some y11) fun k12 =>
  Option.bind (sameO e9.C.Cur.Key e4.C.Cur.Key) fun r13 =>
  cond (r13)
  (cond (decide (e9.C.Cur.Win.Top < e4.C.Cur.Seq))
  (k12 (decide (e4.C.Cur.Win.Top < e9.C.Cur.Seq)))
  (k12 false))
  (k12 false))
  (joinK (fun (y14 : Bool) =>
  some y14) fun k15 =>
  cond (e9.C.Cur.N == (iadd .i64 e4.C.Cur.N 1))
  (Option.bind (sameO e4.C.Next e9.C.Cur.Key) fun r16 =>
  cond (r16)
  (cond (e9.C.HasOld)
  (cond (e9.C.Until == (-1))
  (Option.bind (sameO e9.C.Old.Key e4.C.Cur.Key) fun r17 =>
  cond (r17)
  (cond (decide (e9.C.Old.Win.Top < e4.C.Cur.Seq))
  (k15 (decide (e4.C.Cur.Win.Top < e9.C.Old.Seq)))
  (k15 false))
  (k15 false))
  (k15 false))
  (k15 false))
  (k15 false))
  (k15 false))))) fun k7 =>
  cond (e4.St != 3)
  (k7 true)
  (cond (decide (r5 < 0))
  (k7 true)
  (Option.bind (idxI a0.S.T.L r5) fun e8 =>
  k7 e8.Dead)))) fun k2 =>
  Option.bind (worldOkO a0) fun r3 =>
  cond (!r3)
  (k2 true)
  (k2 (!(inR a1 1 2)))

noncomputable def impl_sessionOf.raw (a0 : G.World) (a1 : Int) : Option (G.Client × G.Sess × Bool) :=
  Option.bind (idxI a0.Clients (isub .i64 a1 1)) fun e1 =>
  Option.bind (findSnO a0.S.T e1.C.Sn) fun r2 =>
  joinK (fun (y3 : Bool) =>
  cond (y3)
  (some (e1, (⟨0, [], [], (⟨0, [], (⟨0, [], 0, (⟨0, []⟩ : G.Win)⟩ : G.Ep), (⟨0, [], 0, (⟨0, []⟩ : G.Win)⟩ : G.Ep), false, 0, []⟩ : G.Chan), (⟨(⟨0, 0⟩ : G.Addr), []⟩ : G.Paths), 0, 0, false⟩ : G.Sess), false))
  (Option.bind (idxI a0.S.T.L r2) fun e6 =>
  some (e1, e6, true))) fun k4 =>
  cond (e1.St != 3)
  (k4 true)
  (cond (decide (r2 < 0))
  (k4 true)
  (Option.bind (idxI a0.S.T.L r2) fun e5 =>
  k4 e5.Dead))

noncomputable def impl_EpochsFit.raw (a0 : G.World) (a1 : Int) : Option Bool :=
  joinK (fun (y1 : Bool) =>
  cond (y1)
  (some false)
  (Option.bind (sessionOfO a0 a1) fun r4 =>
  cond (!r4.2.2)
  (some true)
  (Option.bind (sameO r4.1.Cn r4.2.1.Cn) fun r5 =>
  cond (!r5)
  (some false)
  (joinK (fun (y6 : Bool) =>
  cond (y6)
  (joinK (fun (y9 : Bool) =>
  some y9) fun k10 =>
  cond (decide (r4.1.C.Cur.Win.Top < r4.2.1.C.Cur.Seq))
  (k10 (decide (r4.2.1.C.Cur.Win.Top < r4.1.C.Cur.Seq)))
  (k10 false))
  (joinK (fun (y11 : Bool) =>
  some y11) fun k12 =>
  cond (r4.2.1.C.Cur.N == (iadd .i64 r4.1.C.Cur.N 1))
  (Option.bind (sameO r4.1.C.Next r4.2.1.C.Cur.Key) fun r13 =>
  cond (r13)
  (cond (r4.2.1.C.HasOld)
  (cond (r4.2.1.C.Until == (-1))
  (Option.bind (sameO r4.2.1.C.Old.Key r4.1.C.Cur.Key) fun r14 =>
  cond (r14)
  (cond (decide (r4.2.1.C.Old.Win.Top < r4.1.C.Cur.Seq))
  (k12 (decide (r4.1.C.Cur.Win.Top < r4.2.1.C.Old.Seq)))
  (k12 false))
  (k12 false))
  (k12 false))
  (k12 false))
  (k12 false))
  (k12 false))) fun k7 =>
  cond (r4.1.C.Cur.N == r4.2.1.C.Cur.N)
  (Option.bind (sameO r4.1.C.Cur.Key r4.2.1.C.Cur.Key) fun r8 =>
  k7 r8)
  (k7 false))))) fun k2 =>
  Option.bind (worldOkO a0) fun r3 =>
  cond (!r3)
  (k2 true)
  (k2 (!(inR a1 1 2)))

noncomputable def laws_FnExactEpochsFit.raw (a0 : G.World) (a1 : Int) : Option Bool :=
  Option.bind (szO a0 1048576) fun r1 =>
  cond (decide (r1 < 0))
  (some true)
  (Option.bind (cpy a0) fun r2 =>
  Option.bind (epochsFitO r2 a1) fun r3 =>
  Option.bind (cpy a0) fun r4 =>
  Option.bind (epochsFitO r4 a1) fun r5 =>
  cond (!(r5 == r3))
  (some false)
  (Option.bind (cpy a0) fun r6 =>
  cond (!(eqq r4 r6))
  (some false)
  (some true)))

noncomputable def spec_Linked.raw (a0 : G.World) (a1 : Int) : Option Bool :=
  joinK (fun (y1 : Bool) =>
  cond (y1)
  (some false)
  (Option.bind (idxI a0.Clients (isub .i64 a1 1)) fun e4 =>
  Option.bind (findSnO a0.S.T e4.C.Sn) fun r5 =>
  joinK (fun (y6 : Bool) =>
  cond (y6)
  (some false)
  (Option.bind (idxI a0.S.T.L r5) fun e9 =>
  joinK (fun (y10 : Bool) =>
  cond (y10)
  (some false)
  (joinK (fun (y14 : Bool) =>
  some y14) fun k15 =>
  cond (decide (e4.C.Cur.Seq ≤ 281474976709556))
  (cond (decide (e9.C.Cur.Seq ≤ 281474976709556))
  (cond (!e9.C.HasOld)
  (k15 (decide (e4.C.Cur.N ≤ 4294967293)))
  (cond (decide (e9.C.Old.Seq ≤ 281474976709556))
  (k15 (decide (e4.C.Cur.N ≤ 4294967293)))
  (k15 false)))
  (k15 false))
  (k15 false))) fun k11 =>
  let r12 : Bool := inR (isub .i64 a0.Now e4.Last) 0 40
  cond (!r12)
  (k11 true)
  (let r13 : Bool := inR (isub .i64 a0.Now e9.Last) 0 40
  cond (!r13)
  (k11 true)
  (cond (e4.R.On)
  (k11 (decide (e4.R.Due > (iadd .i64 a0.Now 8))))
  (k11 false))))) fun k7 =>
  cond (e4.St != 3)
  (k7 true)
  (cond (decide (r5 < 0))
  (k7 true)
  (Option.bind (idxI a0.S.T.L r5) fun e8 =>
  k7 e8.Dead)))) fun k2 =>
  Option.bind (epochsFitO a0 a1) fun r3 =>
  cond (!r3)
  (k2 true)
  (k2 (decide (a0.Now > 999900)))

noncomputable def impl_Linked.raw (a0 : G.World) (a1 : Int) : Option Bool :=
  joinK (fun (y1 : Bool) =>
  cond (y1)
  (some false)
  (Option.bind (sessionOfO a0 a1) fun r4 =>
  joinK (fun (y5 : Bool) =>
  cond (y5)
  (some false)
  (joinK (fun (y9 : Int) =>
  joinK (fun (y12 : Bool) =>
  cond (y12)
  (some false)
  (joinK (fun (y14 : Bool) =>
  some y14) fun k15 =>
  cond (!r4.1.R.On)
  (k15 true)
  (k15 (decide (r4.1.R.Due ≤ (iadd .i64 a0.Now 8)))))) fun k13 =>
  cond (decide (y9 > 281474976709556))
  (k13 true)
  (k13 (decide (r4.1.C.Cur.N > 4294967293)))) fun k10 =>
  cond (r4.2.1.C.HasOld)
  (let x11 : Int := imax (imax r4.1.C.Cur.Seq r4.2.1.C.Cur.Seq) r4.2.1.C.Old.Seq
  k10 x11)
  (k10 (imax r4.1.C.Cur.Seq r4.2.1.C.Cur.Seq)))) fun k6 =>
  cond (!r4.2.2)
  (k6 true)
  (let r7 : Bool := inR (isub .i64 a0.Now r4.1.Last) 0 40
  cond (!r7)
  (k6 true)
  (let r8 : Bool := inR (isub .i64 a0.Now r4.2.1.Last) 0 40
  k6 (!r8))))) fun k2 =>
  Option.bind (epochsFitO a0 a1) fun r3 =>
  cond (!r3)
  (k2 true)
  (k2 (decide (a0.Now > 999900)))

noncomputable def laws_FnExactLinked.raw (a0 : G.World) (a1 : Int) : Option Bool :=
  Option.bind (szO a0 1048576) fun r1 =>
  cond (decide (r1 < 0))
  (some true)
  (Option.bind (cpy a0) fun r2 =>
  Option.bind (linkedO r2 a1) fun r3 =>
  Option.bind (cpy a0) fun r4 =>
  Option.bind (linkedO r4 a1) fun r5 =>
  cond (!(r5 == r3))
  (some false)
  (Option.bind (cpy a0) fun r6 =>
  cond (!(eqq r4 r6))
  (some false)
  (some true)))

noncomputable def spec_CanTurn.raw (a0 : G.World) (a1 : Int) : Option Bool :=
  Option.bind (linkedO a0 a1) fun r1 =>
  cond (!r1)
  (some false)
  (Option.bind (idxI a0.Clients (isub .i64 a1 1)) fun e2 =>
  Option.bind (findSnO a0.S.T e2.C.Sn) fun r3 =>
  Option.bind (idxI a0.S.T.L r3) fun e4 =>
  joinK (fun (y5 : Bool) =>
  some y5) fun k6 =>
  let x7 : Bool := cond (e4.P.At.Host == e2.At.Host) (cond (e4.P.At.Port == e2.At.Port) (true) false) false
  cond (x7)
  (Option.bind (partyAtO a0 e2.At) fun r8 =>
  k6 (r8 == a1))
  (k6 false))

noncomputable def impl_CanTurn.raw (a0 : G.World) (a1 : Int) : Option Bool :=
  Option.bind (linkedO a0 a1) fun r1 =>
  cond (!r1)
  (some false)
  (Option.bind (sessionOfO a0 a1) fun r2 =>
  joinK (fun (y3 : Bool) =>
  some y3) fun k4 =>
  let x5 : Bool := cond (r2.2.1.P.At.Host == r2.1.At.Host) (cond (r2.2.1.P.At.Port == r2.1.At.Port) (true) false) false
  cond (x5)
  (Option.bind (partyAtO a0 r2.1.At) fun r6 =>
  k4 (r6 == a1))
  (k4 false))

noncomputable def laws_FnExactCanTurn.raw (a0 : G.World) (a1 : Int) : Option Bool :=
  Option.bind (szO a0 1048576) fun r1 =>
  cond (decide (r1 < 0))
  (some true)
  (Option.bind (cpy a0) fun r2 =>
  Option.bind (canTurnO r2 a1) fun r3 =>
  Option.bind (cpy a0) fun r4 =>
  Option.bind (canTurnO r4 a1) fun r5 =>
  cond (!(r5 == r3))
  (some false)
  (Option.bind (cpy a0) fun r6 =>
  cond (!(eqq r4 r6))
  (some false)
  (some true)))

end Go.D

/-
  What the laws' own functions compute.
-/
namespace Go.D

theorem laws_szCreditS.ok {x : TyTup [.sl .Credit, .v .int]} (hb : bdTup [.sl .Credit, .v .int] x) {r : Int} : szO (α := List G.Credit) x.1 x.2 = some r → laws_szCreditS.raw x.1 x.2 = some r := pt_ok fun h => sz_plain (α := G.Credit) (fun _ => rfl) x.1 h (bdx_top hb.2) hb.1.1
theorem laws_toCreditS.ok {x : TyTup [.sl .Credit]} (hb : bdTup [.sl .Credit] x) {r : List G.Credit} : cpy (α := List G.Credit) x = some r → laws_toCreditS.raw x = some r := pt_ok fun h => cpy_list (α := G.Credit) x _ hb.1 h
theorem laws_eqCreditS.ok {x : TyTup [.sl .Credit, .sl .Credit]} (hb : bdTup [.sl .Credit, .sl .Credit] x) : laws_eqCreditS.raw x.1 x.2 = some (eqq x.1 x.2) := cmp_list (α := G.Credit) x.1 x.2 hb.1.1 _ (fun _ _ => rfl)
theorem laws_szWorld_raw (a : G.World) (left : Int) (h : 0 ≤ left) : laws_szWorld.raw a left = some (szT a left) := by
  simp only [laws_szWorld.raw]
  refine sz_step (by omega) (fun hn => szT_bad (by rw [wt_World]; omega)) fun h0 => ?_
  refine sz_step (by omega) (fun hn => szT_bad (by rw [wt_World]; omega)) fun h1 => ?_
  refine sz_step (by omega) (fun hn => szT_bad (by rw [wt_World]; omega)) fun h2 => ?_
  refine sz_step (by omega) (fun hn => szT_bad (by rw [wt_World]; omega)) fun h3 => ?_
  refine sz_step (by omega) (fun hn => szT_bad (by rw [wt_World]; omega)) fun h4 => ?_
  refine sz_step (by omega) (fun hn => szT_bad (by rw [wt_World]; omega)) fun h5 => ?_
  refine congrArg some ?_
  have hp := szT_pos (left := left) (a := a) (by rw [wt_World]; omega)
  rw [wt_World] at hp; omega
theorem laws_szWorld.ok {x : TyTup [.v .World, .v .int]} (hb : bdTup [.v .World, .v .int] x) {r : Int} : szO (α := G.World) x.1 x.2 = some r → laws_szWorld.raw x.1 x.2 = some r := pt_ok fun h => laws_szWorld_raw x.1 x.2 h
theorem laws_toWorld_raw (a : G.World) (h : wt a ≤ LIM) : laws_toWorld.raw a = some a := by
  rw [wt_World] at h
  simp only [laws_toWorld.raw, cpy]
  rw [pt_bind (by omega), pt_bind (by omega), pt_bind (by omega), pt_bind (by omega), pt_bind (by omega), pt_bind (by omega)]
theorem laws_toWorld.ok {x : TyTup [.v .World]} (_ : bdTup [.v .World] x) {r : G.World} : cpy (α := G.World) x = some r → laws_toWorld.raw x = some r := pt_ok fun h => laws_toWorld_raw x h
theorem laws_eqWorld_raw (a b : G.World) : laws_eqWorld.raw a b = some (eqq a b) := by
  simp only [laws_eqWorld.raw]
  refine eq_int (fun y : G.World => y.Now) fun h0 => ?_
  refine eq_any (fun y : G.World => y.Clients) fun h1 => ?_
  refine eq_any (fun y : G.World => y.S) fun h2 => ?_
  refine eq_any (fun y : G.World => y.D) fun h3 => ?_
  refine eq_any (fun y : G.World => y.Seen) fun h4 => ?_
  refine eq_any (fun y : G.World => y.Known) fun h5 => ?_
  refine eq_any (fun y : G.World => y.Notes) fun h6 => ?_
  exact eq_end (by cases a; cases b; simp_all)
theorem laws_eqWorld.ok {x : TyTup [.v .World, .v .World]} (_ : bdTup [.v .World, .v .World] x) : laws_eqWorld.raw x.1 x.2 = some (eqq x.1 x.2) := laws_eqWorld_raw x.1 x.2
theorem laws_szWireS.ok {x : TyTup [.sl .Wire, .v .int]} (hb : bdTup [.sl .Wire, .v .int] x) {r : Int} : szO (α := List G.Wire) x.1 x.2 = some r → laws_szWireS.raw x.1 x.2 = some r := pt_ok fun h => sz_list (α := G.Wire) x.1 h (bdx_top hb.2) hb.1.1
theorem laws_toWireS.ok {x : TyTup [.sl .Wire]} (hb : bdTup [.sl .Wire] x) {r : List G.Wire} : cpy (α := List G.Wire) x = some r → laws_toWireS.raw x = some r := pt_ok fun h => cpy_list (α := G.Wire) x _ hb.1 h
theorem laws_eqWireS.ok {x : TyTup [.sl .Wire, .sl .Wire]} (hb : bdTup [.sl .Wire, .sl .Wire] x) : laws_eqWireS.raw x.1 x.2 = some (eqq x.1 x.2) := cmp_list (α := G.Wire) x.1 x.2 hb.1.1 _ (fun _ _ => rfl)
theorem laws_toCredit_raw (a : G.Credit) (h : wt a ≤ LIM) : laws_toCredit.raw a = some a := by
  rw [wt_Credit] at h
  simp only [laws_toCredit.raw, cpy]
  rw [pt_bind (by omega)]
theorem laws_toCredit.ok {x : TyTup [.v .Credit]} (_ : bdTup [.v .Credit] x) {r : G.Credit} : cpy (α := G.Credit) x = some r → laws_toCredit.raw x = some r := pt_ok fun h => laws_toCredit_raw x h
theorem laws_eqCredit_raw (a b : G.Credit) : laws_eqCredit.raw a b = some (eqq a b) := by
  simp only [laws_eqCredit.raw]
  refine eq_any (fun y : G.Credit => y.A) fun h0 => ?_
  refine eq_int (fun y : G.Credit => y.Got) fun h1 => ?_
  refine eq_int (fun y : G.Credit => y.Sent) fun h2 => ?_
  exact eq_end (by cases a; cases b; simp_all)
theorem laws_eqCredit.ok {x : TyTup [.v .Credit, .v .Credit]} (_ : bdTup [.v .Credit, .v .Credit] x) : laws_eqCredit.raw x.1 x.2 = some (eqq x.1 x.2) := laws_eqCredit_raw x.1 x.2
theorem laws_szClientS.ok {x : TyTup [.sl .Client, .v .int]} (hb : bdTup [.sl .Client, .v .int] x) {r : Int} : szO (α := List G.Client) x.1 x.2 = some r → laws_szClientS.raw x.1 x.2 = some r := pt_ok fun h => sz_list (α := G.Client) x.1 h (bdx_top hb.2) hb.1.1
theorem laws_szServer_raw (a : G.Server) (left : Int) (h : 0 ≤ left) : laws_szServer.raw a left = some (szT a left) := by
  simp only [laws_szServer.raw]
  refine sz_step (by omega) (fun hn => szT_bad (by rw [wt_Server]; omega)) fun h0 => ?_
  refine sz_step (by omega) (fun hn => szT_bad (by rw [wt_Server]; omega)) fun h1 => ?_
  refine sz_step (by omega) (fun hn => szT_bad (by rw [wt_Server]; omega)) fun h2 => ?_
  refine sz_step (by omega) (fun hn => szT_bad (by rw [wt_Server]; omega)) fun h3 => ?_
  refine sz_step (by omega) (fun hn => szT_bad (by rw [wt_Server]; omega)) fun h4 => ?_
  refine congrArg some ?_
  have hp := szT_pos (left := left) (a := a) (by rw [wt_Server]; omega)
  rw [wt_Server] at hp; omega
theorem laws_szServer.ok {x : TyTup [.v .Server, .v .int]} (hb : bdTup [.v .Server, .v .int] x) {r : Int} : szO (α := G.Server) x.1 x.2 = some r → laws_szServer.raw x.1 x.2 = some r := pt_ok fun h => laws_szServer_raw x.1 x.2 h
theorem laws_szDice_raw (a : G.Dice) (left : Int) (h : 0 ≤ left) : laws_szDice.raw a left = some (szT a left) := by
  simp only [laws_szDice.raw]
  refine sz_step (by omega) (fun hn => szT_bad (by rw [wt_Dice]; omega)) fun h0 => ?_
  refine congrArg some ?_
  have hp := szT_pos (left := left) (a := a) (by rw [wt_Dice]; omega)
  rw [wt_Dice] at hp; omega
theorem laws_szDice.ok {x : TyTup [.v .Dice, .v .int]} (hb : bdTup [.v .Dice, .v .int] x) {r : Int} : szO (α := G.Dice) x.1 x.2 = some r → laws_szDice.raw x.1 x.2 = some r := pt_ok fun h => laws_szDice_raw x.1 x.2 h
theorem laws_szByteSS.ok {x : TyTup [.sl .bs, .v .int]} (hb : bdTup [.sl .bs, .v .int] x) {r : Int} : szO (α := List (List UInt8)) x.1 x.2 = some r → laws_szByteSS.raw x.1 x.2 = some r := pt_ok fun h => sz_list (α := (List UInt8)) x.1 h (bdx_top hb.2) hb.1.1
theorem laws_toClientS.ok {x : TyTup [.sl .Client]} (hb : bdTup [.sl .Client] x) {r : List G.Client} : cpy (α := List G.Client) x = some r → laws_toClientS.raw x = some r := pt_ok fun h => cpy_list (α := G.Client) x _ hb.1 h
theorem laws_toServer_raw (a : G.Server) (h : wt a ≤ LIM) : laws_toServer.raw a = some a := by
  rw [wt_Server] at h
  simp only [laws_toServer.raw, cpy]
  rw [pt_bind (by omega), pt_bind (by omega), pt_bind (by omega), pt_bind (by omega), pt_bind (by omega)]
theorem laws_toServer.ok {x : TyTup [.v .Server]} (_ : bdTup [.v .Server] x) {r : G.Server} : cpy (α := G.Server) x = some r → laws_toServer.raw x = some r := pt_ok fun h => laws_toServer_raw x h
theorem laws_toDice_raw (a : G.Dice) (h : wt a ≤ LIM) : laws_toDice.raw a = some a := by
  rw [wt_Dice] at h
  simp only [laws_toDice.raw, cpy]
  rw [pt_bind (by omega)]
theorem laws_toDice.ok {x : TyTup [.v .Dice]} (_ : bdTup [.v .Dice] x) {r : G.Dice} : cpy (α := G.Dice) x = some r → laws_toDice.raw x = some r := pt_ok fun h => laws_toDice_raw x h
theorem laws_toByteSS.ok {x : TyTup [.sl .bs]} (hb : bdTup [.sl .bs] x) {r : List (List UInt8)} : cpy (α := List (List UInt8)) x = some r → laws_toByteSS.raw x = some r := pt_ok fun h => cpy_list (α := (List UInt8)) x _ hb.1 h
theorem laws_eqClientS.ok {x : TyTup [.sl .Client, .sl .Client]} (hb : bdTup [.sl .Client, .sl .Client] x) : laws_eqClientS.raw x.1 x.2 = some (eqq x.1 x.2) := cmp_list (α := G.Client) x.1 x.2 hb.1.1 _ (fun _ _ => rfl)
theorem laws_eqServer_raw (a b : G.Server) : laws_eqServer.raw a b = some (eqq a b) := by
  simp only [laws_eqServer.raw]
  refine eq_any (fun y : G.Server => y.Psks) fun h0 => ?_
  refine eq_any (fun y : G.Server => y.J) fun h1 => ?_
  refine eq_any (fun y : G.Server => y.D) fun h2 => ?_
  refine eq_any (fun y : G.Server => y.T) fun h3 => ?_
  refine eq_any (fun y : G.Server => y.Cr) fun h4 => ?_
  exact eq_end (by cases a; cases b; simp_all)
theorem laws_eqServer.ok {x : TyTup [.v .Server, .v .Server]} (_ : bdTup [.v .Server, .v .Server] x) : laws_eqServer.raw x.1 x.2 = some (eqq x.1 x.2) := laws_eqServer_raw x.1 x.2
theorem laws_eqDice_raw (a b : G.Dice) : laws_eqDice.raw a b = some (eqq a b) := by
  simp only [laws_eqDice.raw]
  refine eq_any (fun y : G.Dice => y.Seed) fun h0 => ?_
  refine eq_int (fun y : G.Dice => y.N) fun h1 => ?_
  exact eq_end (by cases a; cases b; simp_all)
theorem laws_eqDice.ok {x : TyTup [.v .Dice, .v .Dice]} (_ : bdTup [.v .Dice, .v .Dice] x) : laws_eqDice.raw x.1 x.2 = some (eqq x.1 x.2) := laws_eqDice_raw x.1 x.2
theorem laws_eqByteSS.ok {x : TyTup [.sl .bs, .sl .bs]} (hb : bdTup [.sl .bs, .sl .bs] x) : laws_eqByteSS.raw x.1 x.2 = some (eqq x.1 x.2) := cmp_list (α := (List UInt8)) x.1 x.2 hb.1.1 _ (fun _ _ => rfl)
theorem laws_szWire_raw (a : G.Wire) (left : Int) (h : 0 ≤ left) : laws_szWire.raw a left = some (szT a left) := by
  simp only [laws_szWire.raw]
  refine sz_step (by omega) (fun hn => szT_bad (by rw [wt_Wire, wt_Addr, wt_Addr]; omega)) fun h0 => ?_
  refine congrArg some ?_
  have hp := szT_pos (left := left) (a := a) (by rw [wt_Wire, wt_Addr, wt_Addr]; omega)
  rw [wt_Wire, wt_Addr, wt_Addr] at hp; omega
theorem laws_szWire.ok {x : TyTup [.v .Wire, .v .int]} (hb : bdTup [.v .Wire, .v .int] x) {r : Int} : szO (α := G.Wire) x.1 x.2 = some r → laws_szWire.raw x.1 x.2 = some r := pt_ok fun h => laws_szWire_raw x.1 x.2 h
theorem laws_toWire_raw (a : G.Wire) (h : wt a ≤ LIM) : laws_toWire.raw a = some a := by
  rw [wt_Wire] at h
  simp only [laws_toWire.raw, cpy]
  rw [pt_bind (by omega), pt_bind (by omega), pt_bind (by omega)]
theorem laws_toWire.ok {x : TyTup [.v .Wire]} (_ : bdTup [.v .Wire] x) {r : G.Wire} : cpy (α := G.Wire) x = some r → laws_toWire.raw x = some r := pt_ok fun h => laws_toWire_raw x h
theorem laws_eqWire_raw (a b : G.Wire) : laws_eqWire.raw a b = some (eqq a b) := by
  simp only [laws_eqWire.raw]
  refine eq_any (fun y : G.Wire => y.From) fun h0 => ?_
  refine eq_any (fun y : G.Wire => y.To) fun h1 => ?_
  refine eq_any (fun y : G.Wire => y.B) fun h2 => ?_
  exact eq_end (by cases a; cases b; simp_all)
theorem laws_eqWire.ok {x : TyTup [.v .Wire, .v .Wire]} (_ : bdTup [.v .Wire, .v .Wire] x) : laws_eqWire.raw x.1 x.2 = some (eqq x.1 x.2) := laws_eqWire_raw x.1 x.2
theorem laws_szClient_raw (a : G.Client) (left : Int) (h : 0 ≤ left) : laws_szClient.raw a left = some (szT a left) := by
  simp only [laws_szClient.raw]
  refine sz_step (by omega) (fun hn => szT_bad (by rw [wt_Client, wt_Addr, wt_Timer, wt_Timer]; omega)) fun h0 => ?_
  refine sz_step (by omega) (fun hn => szT_bad (by rw [wt_Client, wt_Addr, wt_Timer, wt_Timer]; omega)) fun h1 => ?_
  refine sz_step (by omega) (fun hn => szT_bad (by rw [wt_Client, wt_Addr, wt_Timer, wt_Timer]; omega)) fun h2 => ?_
  refine sz_step (by omega) (fun hn => szT_bad (by rw [wt_Client, wt_Addr, wt_Timer, wt_Timer]; omega)) fun h3 => ?_
  refine congrArg some ?_
  have hp := szT_pos (left := left) (a := a) (by rw [wt_Client, wt_Addr, wt_Timer, wt_Timer]; omega)
  rw [wt_Client, wt_Addr, wt_Timer, wt_Timer] at hp; omega
theorem laws_szClient.ok {x : TyTup [.v .Client, .v .int]} (hb : bdTup [.v .Client, .v .int] x) {r : Int} : szO (α := G.Client) x.1 x.2 = some r → laws_szClient.raw x.1 x.2 = some r := pt_ok fun h => laws_szClient_raw x.1 x.2 h
theorem laws_szJar_raw (a : G.Jar) (left : Int) (h : 0 ≤ left) : laws_szJar.raw a left = some (szT a left) := by
  simp only [laws_szJar.raw]
  refine sz_step (by omega) (fun hn => szT_bad (by rw [wt_Jar]; omega)) fun h0 => ?_
  refine congrArg some ?_
  have hp := szT_pos (left := left) (a := a) (by rw [wt_Jar]; omega)
  rw [wt_Jar] at hp; omega
theorem laws_szJar.ok {x : TyTup [.v .Jar, .v .int]} (hb : bdTup [.v .Jar, .v .int] x) {r : Int} : szO (α := G.Jar) x.1 x.2 = some r → laws_szJar.raw x.1 x.2 = some r := pt_ok fun h => laws_szJar_raw x.1 x.2 h
theorem laws_szTab_raw (a : G.Tab) (left : Int) (h : 0 ≤ left) : laws_szTab.raw a left = some (szT a left) := by
  simp only [laws_szTab.raw]
  refine sz_step (by omega) (fun hn => szT_bad (by rw [wt_Tab]; omega)) fun h0 => ?_
  refine congrArg some ?_
  have hp := szT_pos (left := left) (a := a) (by rw [wt_Tab]; omega)
  rw [wt_Tab] at hp; omega
theorem laws_szTab.ok {x : TyTup [.v .Tab, .v .int]} (hb : bdTup [.v .Tab, .v .int] x) {r : Int} : szO (α := G.Tab) x.1 x.2 = some r → laws_szTab.raw x.1 x.2 = some r := pt_ok fun h => laws_szTab_raw x.1 x.2 h
theorem laws_toClient_raw (a : G.Client) (h : wt a ≤ LIM) : laws_toClient.raw a = some a := by
  rw [wt_Client] at h
  simp only [laws_toClient.raw, cpy]
  rw [pt_bind (by omega), pt_bind (by omega), pt_bind (by omega), pt_bind (by omega), pt_bind (by omega), pt_bind (by omega), pt_bind (by omega)]
theorem laws_toClient.ok {x : TyTup [.v .Client]} (_ : bdTup [.v .Client] x) {r : G.Client} : cpy (α := G.Client) x = some r → laws_toClient.raw x = some r := pt_ok fun h => laws_toClient_raw x h
theorem laws_toJar_raw (a : G.Jar) (h : wt a ≤ LIM) : laws_toJar.raw a = some a := by
  rw [wt_Jar] at h
  simp only [laws_toJar.raw, cpy]
  rw [pt_bind (by omega)]
theorem laws_toJar.ok {x : TyTup [.v .Jar]} (_ : bdTup [.v .Jar] x) {r : G.Jar} : cpy (α := G.Jar) x = some r → laws_toJar.raw x = some r := pt_ok fun h => laws_toJar_raw x h
theorem laws_toTab_raw (a : G.Tab) (h : wt a ≤ LIM) : laws_toTab.raw a = some a := by
  rw [wt_Tab] at h
  simp only [laws_toTab.raw, cpy]
  rw [pt_bind (by omega)]
theorem laws_toTab.ok {x : TyTup [.v .Tab]} (_ : bdTup [.v .Tab] x) {r : G.Tab} : cpy (α := G.Tab) x = some r → laws_toTab.raw x = some r := pt_ok fun h => laws_toTab_raw x h
theorem laws_eqClient_raw (a b : G.Client) : laws_eqClient.raw a b = some (eqq a b) := by
  simp only [laws_eqClient.raw]
  refine eq_int (fun y : G.Client => y.Id) fun h0 => ?_
  refine eq_any (fun y : G.Client => y.Psk) fun h1 => ?_
  refine eq_any (fun y : G.Client => y.At) fun h2 => ?_
  refine eq_int (fun y : G.Client => y.St) fun h3 => ?_
  refine eq_any (fun y : G.Client => y.Cn) fun h4 => ?_
  refine eq_any (fun y : G.Client => y.Fin) fun h5 => ?_
  refine eq_any (fun y : G.Client => y.C) fun h6 => ?_
  refine eq_any (fun y : G.Client => y.T) fun h7 => ?_
  refine eq_any (fun y : G.Client => y.R) fun h8 => ?_
  refine eq_int (fun y : G.Client => y.Last) fun h9 => ?_
  exact eq_end (by cases a; cases b; simp_all)
theorem laws_eqClient.ok {x : TyTup [.v .Client, .v .Client]} (_ : bdTup [.v .Client, .v .Client] x) : laws_eqClient.raw x.1 x.2 = some (eqq x.1 x.2) := laws_eqClient_raw x.1 x.2
theorem laws_eqJar_raw (a b : G.Jar) : laws_eqJar.raw a b = some (eqq a b) := by
  simp only [laws_eqJar.raw]
  refine eq_any (fun y : G.Jar => y.Secret) fun h0 => ?_
  exact eq_end (by cases a; cases b; simp_all)
theorem laws_eqJar.ok {x : TyTup [.v .Jar, .v .Jar]} (_ : bdTup [.v .Jar, .v .Jar] x) : laws_eqJar.raw x.1 x.2 = some (eqq x.1 x.2) := laws_eqJar_raw x.1 x.2
theorem laws_eqTab_raw (a b : G.Tab) : laws_eqTab.raw a b = some (eqq a b) := by
  simp only [laws_eqTab.raw]
  refine eq_int (fun y : G.Tab => y.Cap) fun h0 => ?_
  refine eq_any (fun y : G.Tab => y.L) fun h1 => ?_
  exact eq_end (by cases a; cases b; simp_all)
theorem laws_eqTab.ok {x : TyTup [.v .Tab, .v .Tab]} (_ : bdTup [.v .Tab, .v .Tab] x) : laws_eqTab.raw x.1 x.2 = some (eqq x.1 x.2) := laws_eqTab_raw x.1 x.2
theorem laws_szFrame_raw (a : G.Frame) (left : Int) (h : 0 ≤ left) : laws_szFrame.raw a left = some (szT a left) := by
  simp only [laws_szFrame.raw]
  refine sz_step (by omega) (fun hn => szT_bad (by rw [wt_Frame]; omega)) fun h0 => ?_
  refine sz_step (by omega) (fun hn => szT_bad (by rw [wt_Frame]; omega)) fun h1 => ?_
  refine sz_step (by omega) (fun hn => szT_bad (by rw [wt_Frame]; omega)) fun h2 => ?_
  refine sz_step (by omega) (fun hn => szT_bad (by rw [wt_Frame]; omega)) fun h3 => ?_
  refine sz_step (by omega) (fun hn => szT_bad (by rw [wt_Frame]; omega)) fun h4 => ?_
  refine sz_step (by omega) (fun hn => szT_bad (by rw [wt_Frame]; omega)) fun h5 => ?_
  refine congrArg some ?_
  have hp := szT_pos (left := left) (a := a) (by rw [wt_Frame]; omega)
  rw [wt_Frame] at hp; omega
theorem laws_szFrame.ok {x : TyTup [.v .Frame, .v .int]} (hb : bdTup [.v .Frame, .v .int] x) {r : Int} : szO (α := G.Frame) x.1 x.2 = some r → laws_szFrame.raw x.1 x.2 = some r := pt_ok fun h => laws_szFrame_raw x.1 x.2 h
theorem laws_szSessS.ok {x : TyTup [.sl .Sess, .v .int]} (hb : bdTup [.sl .Sess, .v .int] x) {r : Int} : szO (α := List G.Sess) x.1 x.2 = some r → laws_szSessS.raw x.1 x.2 = some r := pt_ok fun h => sz_list (α := G.Sess) x.1 h (bdx_top hb.2) hb.1.1
theorem laws_toFrame_raw (a : G.Frame) (h : wt a ≤ LIM) : laws_toFrame.raw a = some a := by
  rw [wt_Frame] at h
  simp only [laws_toFrame.raw, cpy]
  rw [pt_bind (by omega), pt_bind (by omega), pt_bind (by omega), pt_bind (by omega), pt_bind (by omega), pt_bind (by omega)]
theorem laws_toFrame.ok {x : TyTup [.v .Frame]} (_ : bdTup [.v .Frame] x) {r : G.Frame} : cpy (α := G.Frame) x = some r → laws_toFrame.raw x = some r := pt_ok fun h => laws_toFrame_raw x h
theorem laws_toTimer.ok {x : TyTup [.v .Timer]} (_ : bdTup [.v .Timer] x) {r : G.Timer} : cpy (α := G.Timer) x = some r → laws_toTimer.raw x = some r := pt_ok fun _ => rfl
theorem laws_toSessS.ok {x : TyTup [.sl .Sess]} (hb : bdTup [.sl .Sess] x) {r : List G.Sess} : cpy (α := List G.Sess) x = some r → laws_toSessS.raw x = some r := pt_ok fun h => cpy_list (α := G.Sess) x _ hb.1 h
theorem laws_eqFrame_raw (a b : G.Frame) : laws_eqFrame.raw a b = some (eqq a b) := by
  simp only [laws_eqFrame.raw]
  refine eq_int (fun y : G.Frame => y.Kind) fun h0 => ?_
  refine eq_int (fun y : G.Frame => y.Id) fun h1 => ?_
  refine eq_any (fun y : G.Frame => y.Cn) fun h2 => ?_
  refine eq_any (fun y : G.Frame => y.Sn) fun h3 => ?_
  refine eq_int (fun y : G.Frame => y.Tick) fun h4 => ?_
  refine eq_any (fun y : G.Frame => y.Cookie) fun h5 => ?_
  refine eq_any (fun y : G.Frame => y.Proof) fun h6 => ?_
  refine eq_int (fun y : G.Frame => y.Epoch) fun h7 => ?_
  refine eq_int (fun y : G.Frame => y.Seq) fun h8 => ?_
  refine eq_any (fun y : G.Frame => y.Body) fun h9 => ?_
  refine eq_any (fun y : G.Frame => y.Tag) fun h10 => ?_
  exact eq_end (by cases a; cases b; simp_all)
theorem laws_eqFrame.ok {x : TyTup [.v .Frame, .v .Frame]} (_ : bdTup [.v .Frame, .v .Frame] x) : laws_eqFrame.raw x.1 x.2 = some (eqq x.1 x.2) := laws_eqFrame_raw x.1 x.2
theorem laws_eqTimer_raw (a b : G.Timer) : laws_eqTimer.raw a b = some (eqq a b) := by
  simp only [laws_eqTimer.raw]
  refine eq_bool (fun y : G.Timer => y.On) fun h0 => ?_
  refine eq_int (fun y : G.Timer => y.Due) fun h1 => ?_
  refine eq_int (fun y : G.Timer => y.Wait) fun h2 => ?_
  refine eq_int (fun y : G.Timer => y.Tries) fun h3 => ?_
  exact eq_end (by cases a; cases b; simp_all)
theorem laws_eqTimer.ok {x : TyTup [.v .Timer, .v .Timer]} (_ : bdTup [.v .Timer, .v .Timer] x) : laws_eqTimer.raw x.1 x.2 = some (eqq x.1 x.2) := laws_eqTimer_raw x.1 x.2
theorem laws_eqSessS.ok {x : TyTup [.sl .Sess, .sl .Sess]} (hb : bdTup [.sl .Sess, .sl .Sess] x) : laws_eqSessS.raw x.1 x.2 = some (eqq x.1 x.2) := cmp_list (α := G.Sess) x.1 x.2 hb.1.1 _ (fun _ _ => rfl)
theorem laws_szSess_raw (a : G.Sess) (left : Int) (h : 0 ≤ left) : laws_szSess.raw a left = some (szT a left) := by
  simp only [laws_szSess.raw]
  refine sz_step (by omega) (fun hn => szT_bad (by rw [wt_Sess]; omega)) fun h0 => ?_
  refine sz_step (by omega) (fun hn => szT_bad (by rw [wt_Sess]; omega)) fun h1 => ?_
  refine sz_step (by omega) (fun hn => szT_bad (by rw [wt_Sess]; omega)) fun h2 => ?_
  refine sz_step (by omega) (fun hn => szT_bad (by rw [wt_Sess]; omega)) fun h3 => ?_
  refine congrArg some ?_
  have hp := szT_pos (left := left) (a := a) (by rw [wt_Sess]; omega)
  rw [wt_Sess] at hp; omega
theorem laws_szSess.ok {x : TyTup [.v .Sess, .v .int]} (hb : bdTup [.v .Sess, .v .int] x) {r : Int} : szO (α := G.Sess) x.1 x.2 = some r → laws_szSess.raw x.1 x.2 = some r := pt_ok fun h => laws_szSess_raw x.1 x.2 h
theorem laws_toSess_raw (a : G.Sess) (h : wt a ≤ LIM) : laws_toSess.raw a = some a := by
  rw [wt_Sess] at h
  simp only [laws_toSess.raw, cpy]
  rw [pt_bind (by omega), pt_bind (by omega), pt_bind (by omega), pt_bind (by omega)]
theorem laws_toSess.ok {x : TyTup [.v .Sess]} (_ : bdTup [.v .Sess] x) {r : G.Sess} : cpy (α := G.Sess) x = some r → laws_toSess.raw x = some r := pt_ok fun h => laws_toSess_raw x h
theorem laws_eqSess_raw (a b : G.Sess) : laws_eqSess.raw a b = some (eqq a b) := by
  simp only [laws_eqSess.raw]
  refine eq_int (fun y : G.Sess => y.Id) fun h0 => ?_
  refine eq_any (fun y : G.Sess => y.Cn) fun h1 => ?_
  refine eq_any (fun y : G.Sess => y.Sn) fun h2 => ?_
  refine eq_any (fun y : G.Sess => y.C) fun h3 => ?_
  refine eq_any (fun y : G.Sess => y.P) fun h4 => ?_
  refine eq_int (fun y : G.Sess => y.Tick) fun h5 => ?_
  refine eq_int (fun y : G.Sess => y.Last) fun h6 => ?_
  refine eq_bool (fun y : G.Sess => y.Dead) fun h7 => ?_
  exact eq_end (by cases a; cases b; simp_all)
theorem laws_eqSess.ok {x : TyTup [.v .Sess, .v .Sess]} (_ : bdTup [.v .Sess, .v .Sess] x) : laws_eqSess.raw x.1 x.2 = some (eqq x.1 x.2) := laws_eqSess_raw x.1 x.2
theorem laws_szPaths_raw (a : G.Paths) (left : Int) (h : 0 ≤ left) : laws_szPaths.raw a left = some (szT a left) := by
  simp only [laws_szPaths.raw]
  refine sz_step (by omega) (fun hn => szT_bad (by rw [wt_Paths, wt_Addr]; omega)) fun h0 => ?_
  refine congrArg some ?_
  have hp := szT_pos (left := left) (a := a) (by rw [wt_Paths, wt_Addr]; omega)
  rw [wt_Paths, wt_Addr] at hp; omega
theorem laws_szPaths.ok {x : TyTup [.v .Paths, .v .int]} (hb : bdTup [.v .Paths, .v .int] x) {r : Int} : szO (α := G.Paths) x.1 x.2 = some r → laws_szPaths.raw x.1 x.2 = some r := pt_ok fun h => laws_szPaths_raw x.1 x.2 h
theorem laws_toPaths_raw (a : G.Paths) (h : wt a ≤ LIM) : laws_toPaths.raw a = some a := by
  rw [wt_Paths] at h
  simp only [laws_toPaths.raw, cpy]
  rw [pt_bind (by omega), pt_bind (by omega)]
theorem laws_toPaths.ok {x : TyTup [.v .Paths]} (_ : bdTup [.v .Paths] x) {r : G.Paths} : cpy (α := G.Paths) x = some r → laws_toPaths.raw x = some r := pt_ok fun h => laws_toPaths_raw x h
theorem laws_eqPaths_raw (a b : G.Paths) : laws_eqPaths.raw a b = some (eqq a b) := by
  simp only [laws_eqPaths.raw]
  refine eq_any (fun y : G.Paths => y.At) fun h0 => ?_
  refine eq_any (fun y : G.Paths => y.Cands) fun h1 => ?_
  exact eq_end (by cases a; cases b; simp_all)
theorem laws_eqPaths.ok {x : TyTup [.v .Paths, .v .Paths]} (_ : bdTup [.v .Paths, .v .Paths] x) : laws_eqPaths.raw x.1 x.2 = some (eqq x.1 x.2) := laws_eqPaths_raw x.1 x.2
theorem laws_szCandS.ok {x : TyTup [.sl .Cand, .v .int]} (hb : bdTup [.sl .Cand, .v .int] x) {r : Int} : szO (α := List G.Cand) x.1 x.2 = some r → laws_szCandS.raw x.1 x.2 = some r := pt_ok fun h => sz_list (α := G.Cand) x.1 h (bdx_top hb.2) hb.1.1
theorem laws_toCandS.ok {x : TyTup [.sl .Cand]} (hb : bdTup [.sl .Cand] x) {r : List G.Cand} : cpy (α := List G.Cand) x = some r → laws_toCandS.raw x = some r := pt_ok fun h => cpy_list (α := G.Cand) x _ hb.1 h
theorem laws_eqCandS.ok {x : TyTup [.sl .Cand, .sl .Cand]} (hb : bdTup [.sl .Cand, .sl .Cand] x) : laws_eqCandS.raw x.1 x.2 = some (eqq x.1 x.2) := cmp_list (α := G.Cand) x.1 x.2 hb.1.1 _ (fun _ _ => rfl)
theorem laws_szCand_raw (a : G.Cand) (left : Int) (h : 0 ≤ left) : laws_szCand.raw a left = some (szT a left) := by
  simp only [laws_szCand.raw]
  refine sz_step (by omega) (fun hn => szT_bad (by rw [wt_Cand, wt_Addr]; omega)) fun h0 => ?_
  refine congrArg some ?_
  have hp := szT_pos (left := left) (a := a) (by rw [wt_Cand, wt_Addr]; omega)
  rw [wt_Cand, wt_Addr] at hp; omega
theorem laws_szCand.ok {x : TyTup [.v .Cand, .v .int]} (hb : bdTup [.v .Cand, .v .int] x) {r : Int} : szO (α := G.Cand) x.1 x.2 = some r → laws_szCand.raw x.1 x.2 = some r := pt_ok fun h => laws_szCand_raw x.1 x.2 h
theorem laws_toCand_raw (a : G.Cand) (h : wt a ≤ LIM) : laws_toCand.raw a = some a := by
  rw [wt_Cand] at h
  simp only [laws_toCand.raw, cpy]
  rw [pt_bind (by omega), pt_bind (by omega)]
theorem laws_toCand.ok {x : TyTup [.v .Cand]} (_ : bdTup [.v .Cand] x) {r : G.Cand} : cpy (α := G.Cand) x = some r → laws_toCand.raw x = some r := pt_ok fun h => laws_toCand_raw x h
theorem laws_eqCand_raw (a b : G.Cand) : laws_eqCand.raw a b = some (eqq a b) := by
  simp only [laws_eqCand.raw]
  refine eq_any (fun y : G.Cand => y.A) fun h0 => ?_
  refine eq_any (fun y : G.Cand => y.Draw) fun h1 => ?_
  refine eq_int (fun y : G.Cand => y.Until) fun h2 => ?_
  exact eq_end (by cases a; cases b; simp_all)
theorem laws_eqCand.ok {x : TyTup [.v .Cand, .v .Cand]} (_ : bdTup [.v .Cand, .v .Cand] x) : laws_eqCand.raw x.1 x.2 = some (eqq x.1 x.2) := laws_eqCand_raw x.1 x.2

end Go.D

/-
  Sessions, tables, servers, clients, worlds: each function computes what is said of it.
-/
namespace Go.D

theorem impl_AddrOk.ok {x : TyTup [.v .Addr]} (_ : bdTup [.v .Addr] x) : impl_AddrOk.raw x = some (addrOk x) := addrOk_raw x
theorem spec_AddrOk.ok {x : TyTup [.v .Addr]} (_ : bdTup [.v .Addr] x) : spec_AddrOk.raw x = some (addrOk x) := addrOk_raw x
theorem near_raw (i : Int) : (cond (!(inR i 0 255)) (some (⟨0, 0⟩ : G.Addr)) (some (⟨iadd .i64 167772160 i, iadd .i64 7000 i⟩ : G.Addr))) = some (near i) := by
  cases h : inR i 0 255
  · rw [inR_not] at h
    simp [near, h]
  · rw [inR_iff] at h
    simp only [Bool.not_true, cond_false, near, h, and_self, if_true, iadd]
    rw [wrap_i64 (by omega) (by omega), wrap_i64 (by omega) (by omega)]
theorem spec_Near.ok {x : TyTup [.v .int]} (_ : bdTup [.v .int] x) : spec_Near.raw x = some (near x) := near_raw _
theorem impl_Near.ok {x : TyTup [.v .int]} (_ : bdTup [.v .int] x) : impl_Near.raw x = some (near x) := near_raw _
theorem spec_Hub.ok {x : TyTup []} (_ : bdTup [] x) : spec_Hub.raw = some hub := rfl
theorem impl_Hub.ok {x : TyTup []} (_ : bdTup [] x) : impl_Hub.raw = some hub := rfl

theorem sameA_raw (a b : G.Addr) : (cond (a.Host == b.Host) (cond (a.Port == b.Port) (true) false) false) = sameA a b := by
  simp only [sameA, Bool.cond_false_right, Bool.and_true]
theorem partyAt_raw (w : G.World) (a : G.Addr) (h : wt w ≤ LIM) {f : G.Client → Option Int} (hf : ∀ c, f c = some c.Id) : cond (sameA a hub) (some 0) (loopK FU (fun (x5 : Int) k6 => cond (decide (x5 < (w.Clients.length : Int))) (Option.bind (idxI w.Clients x5) fun e7 => cond (sameA e7.At a) (f e7) (k6 (iadd .i64 x5 1))) (some (-1))) 0) = some (partyAt w a) := by
  rw [wt_World] at h
  rw [loop_elem w.Clients (len_lim (by omega)) (fun c => sameA c.At a) (fun c => some c.Id) (some (-1)) (fun i k hi => ?_) (fun k => by simp only [lt_end, cond_false])]
  · rw [partyAt]; cases sameA a hub
    · cases w.Clients.find? _ <;> rfl
    · rfl
  · simp only [lt_len hi, cond_true, idxI_get hi, bind_some', hf]
theorem impl_PartyAt_raw (w : G.World) (a : G.Addr) (h : wt w ≤ LIM) : impl_PartyAt.raw w a = some (partyAt w a) := by
  simp only [impl_PartyAt.raw, joinK, sameA_raw]
  exact partyAt_raw w a h (fun _ => rfl)
theorem impl_PartyAt.ok {x : TyTup [.v .World, .v .Addr]} (_ : bdTup [.v .World, .v .Addr] x) {r : Int} : partyAtO x.1 x.2 = some r → impl_PartyAt.raw x.1 x.2 = some r := pt_ok fun h => impl_PartyAt_raw x.1 x.2 h
theorem spec_PartyAt_raw (w : G.World) (a : G.Addr) (h : wt w ≤ LIM) : spec_PartyAt.raw w a = some (partyAt w a) := by
  rw [wt_World] at h
  simp only [spec_PartyAt.raw, joinK, sameA_raw]
  rw [loop_elem w.Clients (len_lim (by omega)) (fun c => sameA c.At a) (fun c => some c.Id) (some (-1)) (fun i k hi => ?_) (fun k => by simp only [lt_end, cond_false])]
  · rw [partyAt]; cases sameA a hub
    · cases w.Clients.find? _ <;> rfl
    · rfl
  · simp only [lt_len hi, cond_true, idxI_get hi, bind_some']
theorem spec_PartyAt.ok {x : TyTup [.v .World, .v .Addr]} (_ : bdTup [.v .World, .v .Addr] x) {r : Int} : partyAtO x.1 x.2 = some r → spec_PartyAt.raw x.1 x.2 = some r := pt_ok fun h => spec_PartyAt_raw x.1 x.2 h

/-! ### Notes -/

theorem spec_l18Len.ok {x : TyTup [.v .int, .v .int]} (_ : bdTup [.v .int, .v .int] x) : spec_l18Len.raw x.1 x.2 = some (isLen x.1 x.2) := by
  simp only [spec_l18Len.raw, joinK, cond_some, Bool.cond_true_left]; rfl
theorem impl_emptyOr.ok {x : TyTup [.sl .byte, .v .int]} (_ : bdTup [.sl .byte, .v .int] x) : impl_emptyOr.raw x.1 x.2 = some (emptyOr x.1 x.2) := by
  simp only [impl_emptyOr.raw, joinK, cond_some, Bool.cond_true_left]; rfl
theorem impl_NoteOk.ok {x : TyTup [.v .Note]} (_ : bdTup [.v .Note] x) : impl_NoteOk.raw x = some (noteOk x) := by
  show impl_NoteOk.raw (x : G.Note) = some (noteOk (x : G.Note))
  generalize (show G.Note from x) = n
  simp only [impl_NoteOk.raw, joinK, cond_some, Bool.cond_false_right, noteOk]
  grind
theorem spec_NoteOk.ok {x : TyTup [.v .Note]} (_ : bdTup [.v .Note] x) : spec_NoteOk.raw x = some (noteOk x) := by
  show spec_NoteOk.raw (x : G.Note) = some (noteOk (x : G.Note))
  generalize (show G.Note from x) = n
  simp only [spec_NoteOk.raw, joinK, cond_some, Bool.cond_false_right, noteOk, emptyOr]
  grind

/-! ### Sessions -/

theorem impl_JarOk.ok {x : TyTup [.v .Jar]} (_ : bdTup [.v .Jar] x) : impl_JarOk.raw x = some (jarOk x) := rfl
theorem spec_JarOk.ok {x : TyTup [.v .Jar]} (_ : bdTup [.v .Jar] x) : spec_JarOk.raw x = some (jarOk x) := rfl
theorem diceOk_raw (d : G.Dice) : (joinK (fun (y1 : Bool) => some y1) fun k2 => cond (inR (d.Seed.length : Int) 1 32) (k2 (inR d.N 0 10000)) (k2 false)) = some (diceOk d) := by
  simp only [joinK, cond_some, Bool.cond_false_right, diceOk]
theorem impl_DiceOk.ok {x : TyTup [.v .Dice]} (_ : bdTup [.v .Dice] x) : impl_DiceOk.raw x = some (diceOk x) := diceOk_raw x
theorem spec_DiceOk.ok {x : TyTup [.v .Dice]} (_ : bdTup [.v .Dice] x) : spec_DiceOk.raw x = some (diceOk x) := diceOk_raw x
theorem live_raw (t : G.Tab) (h : wt t ≤ LIM) : (joinK (fun (y1 : Int) => some y1) fun k2 => loopK FU (fun (x3 : Int × Int) k4 => cond (decide (x3.2 < (t.L.length : Int))) (Option.bind (idxI t.L x3.2) fun e5 =>
    joinK (fun (y6 : Int) => k4 (y6, (iadd .i64 x3.2 1))) fun k7 => cond (!e5.Dead) (k7 (iadd .i64 x3.1 1)) (k7 x3.1)) (k2 x3.1)) (0, 0)) = some (live t) := by
  rw [wt_Tab] at h
  simp only [joinK]
  rw [loop_fold t.L (len_lim h) (fun s e => bif e.Dead then s else iadd .i64 s 1) (fun s => some s) (fun i s k hi => ?_) (fun s k => by simp only [lt_end, cond_false])]
  · rfl
  · simp only [lt_len hi, cond_true, idxI_get hi, bind_some']
    cases t.L[i].Dead <;> rfl
theorem impl_Live.ok {x : TyTup [.v .Tab]} (_ : bdTup [.v .Tab] x) {r : Int} : liveO x = some r → impl_Live.raw x = some r := pt_ok fun h => live_raw x h
theorem spec_Live.ok {x : TyTup [.v .Tab]} (_ : bdTup [.v .Tab] x) {r : Int} : liveO x = some r → spec_Live.raw x = some r := pt_ok fun h => live_raw x h

theorem spec_l19NoChan.ok {x : TyTup [.v .Chan]} (_ : bdTup [.v .Chan] x) : spec_l19NoChan.raw x = some (noChan x) := by
  show spec_l19NoChan.raw (x : G.Chan) = some (noChan (x : G.Chan))
  generalize (show G.Chan from x) = c
  simp only [spec_l19NoChan.raw, joinK, cond_some, Bool.cond_false_right, noChan]
  grind
theorem impl_isZeroChan_raw (c : G.Chan) (h : wt c ≤ LIM) : impl_isZeroChan.raw c = some (noChan c) := by
  rw [wt_Chan] at h
  simp only [impl_isZeroChan.raw, joinK, sameEpO, pt_bind (p := wt c.Old ≤ LIM ∧ wt (⟨0, [], 0, (⟨0, []⟩ : G.Win)⟩ : G.Ep) ≤ LIM) ⟨by omega, wt_ep0⟩,
    pt_bind (p := wt c.Cur ≤ LIM ∧ wt (⟨0, [], 0, (⟨0, []⟩ : G.Win)⟩ : G.Ep) ≤ LIM) ⟨by omega, wt_ep0⟩, same_ep0, cond_some, Bool.cond_false_right, noChan]
  grind
theorem impl_isZeroChan.ok {x : TyTup [.v .Chan]} (_ : bdTup [.v .Chan] x) {r : Bool} : noChanO x = some r → impl_isZeroChan.raw x = some r := pt_ok fun h => impl_isZeroChan_raw x h

theorem not_gt (a b : Int) : decide (a > b) = !decide (a ≤ b) := by
  by_cases h : a ≤ b
  · rw [decide_eq_true h, decide_eq_false (by omega)]; rfl
  · rw [decide_eq_false h, decide_eq_true (by omega)]; rfl
theorem if_bad {a b : Bool} : (bif a then some false else (bif b then some false else some true)) = some (!a && !b) := by cases a <;> cases b <;> rfl

theorem spec_PathsOk.ok {x : TyTup [.v .Paths]} (_ : bdTup [.v .Paths] x) : spec_PathsOk.raw x = some (pathsOk x) := by
  show spec_PathsOk.raw (x : G.Paths) = some (pathsOk (x : G.Paths))
  generalize (show G.Paths from x) = p
  simp only [spec_PathsOk.raw, joinK, sameA_raw, pathsOk, not_gt (p.Cands.length : Int) 3]
  cases addrOk p.At
  · rfl
  cases hd : decide ((p.Cands.length : Int) ≤ 3)
  · rfl
  have hd := of_decide_eq_true hd
  have hl : p.Cands.length ≤ maxLen := by rw [maxLen_is]; omega
  simp only [Bool.not_true, cond_false]
  rw [loop_any p.Cands.length hl (candBad p) (some false) (some true) (fun i k hi => ?_) (fun k => by simp only [lt_end, cond_false])]
  · cases anyN _ _ <;> rfl
  · simp only [lt_len hi, cond_true, idxI_get hi, bind_some']
    rw [loop_any i (by omega) (fun j => (p.Cands[j]?).any fun d => sameA d.A p.Cands[i].A) (some false) (k (iadd .i64 (i : Int) 1)) (fun j k' hj => ?_) (fun k' => by simp only [lt_end, cond_false])]
    · simp only [candBad, at_any hi, isNonce]
      cases addrOk p.Cands[i].A <;> cases hn : ((p.Cands[i].Draw.length : Int) == 12) <;> cases inR p.Cands[i].Until 0 1000006 <;> cases sameA p.Cands[i].A p.At <;> cases anyN i _ <;> simp [bne, hn]
    · simp only [lt_len hj, cond_true, idxI_get (Nat.lt_trans hj hi), bind_some', at_any (Nat.lt_trans hj hi)]
theorem impl_PathsOk.ok {x : TyTup [.v .Paths]} (_ : bdTup [.v .Paths] x) : impl_PathsOk.raw x = some (pathsOk x) := by
  show impl_PathsOk.raw (x : G.Paths) = some (pathsOk (x : G.Paths))
  generalize (show G.Paths from x) = p
  simp only [impl_PathsOk.raw, joinK, sameA_raw, pathsOk, not_gt (p.Cands.length : Int) 3]
  cases addrOk p.At
  · rfl
  cases hd : decide ((p.Cands.length : Int) ≤ 3)
  · rfl
  have hd := of_decide_eq_true hd
  have hl : p.Cands.length ≤ maxLen := by rw [maxLen_is]; omega
  simp only [Bool.not_true, cond_false]
  rw [loop_any p.Cands.length hl (candBad p) (some false) (some true) (fun i k hi => ?_) (fun k => by simp only [lt_end, cond_false])]
  · cases anyN _ _ <;> rfl
  · have hlen : (p.Cands.take i).length = i := by rw [List.length_take]; omega
    simp only [lt_len hi, cond_true, idxI_get hi, bind_some', cut_ok (Nat.le_of_lt hi), cut_eq]
    rw [loop_any i (by omega) (fun j => (p.Cands[j]?).any fun d => sameA d.A p.Cands[i].A) (some false) (k (iadd .i64 (i : Int) 1)) (fun j k' hj => ?_) (fun k' => by rw [hlen]; simp only [lt_end, cond_false])]
    · simp only [candBad, at_any hi]
      cases addrOk p.Cands[i].A <;> cases isNonce p.Cands[i].Draw <;> cases inR p.Cands[i].Until 0 1000006 <;> cases sameA p.Cands[i].A p.At <;> cases anyN i _ <;> rfl
    · have hj2 : j < (p.Cands.take i).length := by omega
      simp only [lt_len hj2, cond_true, idxI_get hj2, bind_some', at_any (Nat.lt_trans hj hi), List.getElem_take]

theorem spec_SessOk_raw (s : G.Sess) (h : wt s ≤ LIM) : spec_SessOk.raw s = some (sessOk s) := by
  rw [wt_Sess] at h
  have hc := wt_Chan s.C
  have hn : near (-1) = ⟨0, 0⟩ := rfl
  have h0 : s.Last = 0 → inR s.Last 0 1000000 = true := fun h => by rw [h]; rfl
  simp only [spec_SessOk.raw, joinK, sameA_raw]
  simp only [hn, chanOkO, pt_bind (p := wt s.C ≤ LIM) (by omega), sameO_bind (a := s.C.Sn) (b := s.Sn) (by omega) (by omega), sessOk, isNonce]
  cases s.Dead <;> simp only [cond_some, Bool.cond_false_right, cond_true, cond_false] <;> grind
theorem spec_SessOk.ok {x : TyTup [.v .Sess]} (_ : bdTup [.v .Sess] x) {r : Bool} : sessOkO x = some r → spec_SessOk.raw x = some r := pt_ok fun h => spec_SessOk_raw x h
theorem impl_SessOk_raw (s : G.Sess) (h : wt s ≤ LIM) : impl_SessOk.raw s = some (sessOk s) := by
  rw [wt_Sess] at h
  have hc := wt_Chan s.C
  have hn : (cond (s.P.At.Host == 0) (cond (s.P.At.Port == 0) (true) false) false) = sameA s.P.At ⟨0, 0⟩ := sameA_raw s.P.At ⟨0, 0⟩
  simp only [impl_SessOk.raw, joinK, hn, chanOkO, noChanO, pt_bind (p := wt s.C ≤ LIM) (by omega), sameO_bind (a := s.C.Sn) (b := s.Sn) (by omega) (by omega), sessOk]
  cases s.Dead <;> simp only [cond_some, Bool.cond_false_right, cond_true, cond_false] <;> grind
theorem impl_SessOk.ok {x : TyTup [.v .Sess]} (_ : bdTup [.v .Sess] x) {r : Bool} : sessOkO x = some r → impl_SessOk.raw x = some r := pt_ok fun h => impl_SessOk_raw x h

theorem findSn_raw (t : G.Tab) (b : List UInt8) (h : wt t ≤ LIM ∧ wt b ≤ LIM) : (joinK (fun (y1 : Unit) => some (-1)) fun k2 => loopK FU (fun (x3 : Int) k4 => cond (decide (x3 < (t.L.length : Int))) (Option.bind (idxI t.L x3) fun e5 =>
    Option.bind (sameO e5.Sn b) fun r6 => cond (r6) (some x3) (k4 (iadd .i64 x3 1))) (k2 ())) 0) = some (findSn t b) := by
  rw [wt_Tab] at h
  simp only [joinK]
  rw [loop_findI t.L.length (len_lim h.1) (hasSn t b) (fun i k hi => ?_) (fun k => by simp only [lt_end, cond_false])]
  · rfl
  · have := wt_get hi
    have hs := wt_Sess t.L[i]
    simp only [lt_len hi, cond_true, idxI_get hi, bind_some', hasSn, at_any hi, sameO_bind (a := t.L[i].Sn) (b := b) (by omega) h.2]
theorem impl_FindSn.ok {x : TyTup [.v .Tab, .sl .byte]} (_ : bdTup [.v .Tab, .sl .byte] x) {r : Int} : findSnO x.1 x.2 = some r → impl_FindSn.raw x.1 x.2 = some r := pt_ok fun h => findSn_raw x.1 x.2 h
theorem spec_FindSn.ok {x : TyTup [.v .Tab, .sl .byte]} (_ : bdTup [.v .Tab, .sl .byte] x) {r : Int} : findSnO x.1 x.2 = some r → spec_FindSn.raw x.1 x.2 = some r := pt_ok fun h => findSn_raw x.1 x.2 h

theorem hasSn_self {t : G.Tab} {i : Nat} (hi : i < t.L.length) : hasSn t t.L[i].Sn i = true := by simp [hasSn, hi]
theorem tab_head {a b c : Bool} {z : Option Bool} {n : Bool} (hz : a = true → b = true → c = true → z = some (!n)) : cond (!a) (some false) (cond (!b) (some false) (cond (!c) (some false) z)) = some (a && b && c && !n) := by
  cases a <;> cases b <;> cases c <;> simp_all
theorem sess_wt {t : G.Tab} (h : wt t ≤ LIM) {i : Nat} (hi : i < t.L.length) : wt t.L[i] ≤ LIM ∧ wt t.L[i].Sn ≤ LIM := by
  rw [wt_Tab] at h
  have := wt_get hi
  have hs := wt_Sess t.L[i]
  omega
theorem spec_TabOk_raw (t : G.Tab) (h : wt t ≤ LIM) : spec_TabOk.raw t = some (tabOk t) := by
  have hl := len_lim (wt_Tab t ▸ h)
  simp only [spec_TabOk.raw, joinK, tabOk, liveO, pt_bind h, not_gt (t.L.length : Int) 12, not_gt (live t) t.Cap]
  have key : loopK FU (fun (x5 : Int) k6 => cond (decide (x5 < (t.L.length : Int))) (Option.bind (idxI t.L x5) fun e9 => Option.bind (sessOkO e9) fun r10 => cond (!r10) (cond true (some false) (k6 (iadd .i64 x5 1))) (Option.bind (idxI t.L x5) fun e11 =>
      Option.bind (findSnO t e11.Sn) fun r12 => cond (r12 != x5) (some false) (k6 (iadd .i64 x5 1)))) (some true)) 0 = some (!(anyN t.L.length (sessBad t))) := by
    rw [loop_any t.L.length hl (sessBad t) (some false) (some true) (fun i k hi => ?_) (fun k => by simp only [lt_end, cond_false])]
    · cases anyN _ _ <;> rfl
    · have hw := sess_wt h hi
      simp only [lt_len hi, cond_true, idxI_get hi, bind_some', sessOkO, pt_bind hw.1, findSnO, pt_bind (p := wt t ≤ LIM ∧ wt t.L[i].Sn ≤ LIM) ⟨h, hw.2⟩, findSn, (findI_lt hi (hasSn_self hi)).2, sessBad, at_any hi]
      cases sessOk t.L[i] <;> cases anyN i _ <;> rfl
  rw [key]
  cases inR t.Cap 1 6 <;> cases decide ((t.L.length : Int) ≤ 12) <;> cases decide (live t ≤ t.Cap) <;> rfl
theorem spec_TabOk.ok {x : TyTup [.v .Tab]} (_ : bdTup [.v .Tab] x) {r : Bool} : tabOkO x = some r → spec_TabOk.raw x = some r := pt_ok fun h => spec_TabOk_raw x h
theorem impl_TabOk_raw (t : G.Tab) (h : wt t ≤ LIM) : impl_TabOk.raw t = some (tabOk t) := by
  have hl := len_lim (wt_Tab t ▸ h)
  simp only [impl_TabOk.raw, joinK, tabOk, liveO, pt_bind h, not_gt (t.L.length : Int) 12, not_gt (live t) t.Cap]
  have key : loopK FU (fun (x5 : Int) k6 => cond (decide (x5 < (t.L.length : Int))) (Option.bind (idxI t.L x5) fun e9 => Option.bind (sessOkO e9) fun r10 => cond (!r10) (cond true (some false) (k6 (iadd .i64 x5 1)))
      (Option.bind (findSnO t e9.Sn) fun r12 => cond (decide (r12 < x5)) (some false) (k6 (iadd .i64 x5 1)))) (some true)) 0 = some (!(anyN t.L.length (sessBad t))) := by
    rw [loop_any t.L.length hl (sessBad t) (some false) (some true) (fun i k hi => ?_) (fun k => by simp only [lt_end, cond_false])]
    · cases anyN _ _ <;> rfl
    · have hw := sess_wt h hi
      simp only [lt_len hi, cond_true, idxI_get hi, bind_some', sessOkO, pt_bind hw.1, findSnO, pt_bind (p := wt t ≤ LIM ∧ wt t.L[i].Sn ≤ LIM) ⟨h, hw.2⟩, findSn, (findI_lt hi (hasSn_self hi)).1, sessBad, at_any hi]
      cases sessOk t.L[i] <;> cases anyN i _ <;> rfl
  rw [key]
  cases inR t.Cap 1 6 <;> cases decide ((t.L.length : Int) ≤ 12) <;> cases decide (live t ≤ t.Cap) <;> rfl
theorem impl_TabOk.ok {x : TyTup [.v .Tab]} (_ : bdTup [.v .Tab] x) {r : Bool} : tabOkO x = some r → impl_TabOk.raw x = some r := pt_ok fun h => impl_TabOk_raw x h

end Go.D

/-
  Servers, clients, worlds: each function computes what is said of it.
-/
namespace Go.D

theorem cAt_raw (l : List G.Credit) (a : G.Addr) (hl : l.length ≤ maxLen) : (joinK (fun (y1 : Unit) => some (-1)) fun k2 => loopK FU (fun (x3 : Int) k4 => cond (decide (x3 < (l.length : Int))) (Option.bind (idxI l x3) fun e5 =>
    cond (cond (e5.A.Host == a.Host) (cond (e5.A.Port == a.Port) (true) false) false) (some x3) (k4 (iadd .i64 x3 1))) (k2 ())) 0) = some (cAt l a) := by
  simp only [joinK, sameA_raw]
  rw [loop_findI l.length hl (hasA l a) (fun i k hi => ?_) (fun k => by simp only [lt_end, cond_false])]
  · rfl
  · simp only [lt_len hi, cond_true, idxI_get hi, bind_some', hasA, at_any hi]
theorem impl_creditAt.ok {x : TyTup [.sl .Credit, .v .Addr]} (hb : bdTup [.sl .Credit, .v .Addr] x) : impl_creditAt.raw x.1 x.2 = some (cAt x.1 x.2) := cAt_raw x.1 x.2 hb.1.1
theorem sameA_self (a : G.Addr) : sameA a a = true := by simp [sameA]
theorem hasA_self {l : List G.Credit} {i : Nat} (hi : i < l.length) : hasA l l[i].A i = true := by simp [hasA, hi, sameA_self]

theorem cAt_lt {l : List G.Credit} {i : Nat} (hi : i < l.length) : decide (cAt l l[i].A < (i : Int)) = anyN i (hasA l l[i].A) := (findI_lt (p := hasA l l[i].A) hi (hasA_self hi)).1

theorem impl_CreditsOk.ok {x : TyTup [.sl .Credit]} (hb : bdTup [.sl .Credit] x) : impl_CreditsOk.raw x = some (creditsOk x) := by
  show impl_CreditsOk.raw (x : List G.Credit) = some (creditsOk (x : List G.Credit))
  have hl : (show List G.Credit from x).length ≤ maxLen := hb.1
  generalize (show List G.Credit from x) = l at hl ⊢
  simp only [impl_CreditsOk.raw, joinK, creditsOk, not_gt (l.length : Int) 8]
  rw [loop_any l.length hl (creditBad l) (some false) (some true) (fun i k hi => ?_) (fun k => by simp only [lt_end, cond_false])]
  · cases decide ((l.length : Int) ≤ 8) <;> cases anyN _ _ <;> rfl
  · simp only [lt_len hi, cond_true, idxI_get hi, bind_some', cAt_lt hi, creditBad, at_any hi]
    cases addrOk l[i].A <;> cases inR l[i].Got 0 1000000 <;> cases inR l[i].Sent 0 _ <;> cases anyN i _ <;> rfl
theorem spec_CreditsOk.ok {x : TyTup [.sl .Credit]} (hb : bdTup [.sl .Credit] x) : spec_CreditsOk.raw x = some (creditsOk x) := by
  show spec_CreditsOk.raw (x : List G.Credit) = some (creditsOk (x : List G.Credit))
  have hl : (show List G.Credit from x).length ≤ maxLen := hb.1
  generalize (show List G.Credit from x) = l at hl ⊢
  simp only [spec_CreditsOk.raw, joinK, creditsOk, not_gt (l.length : Int) 8, sameA_raw]
  rw [loop_any l.length hl (creditBad l) (some false) (some true) (fun i k hi => ?_) (fun k => by simp only [lt_end, cond_false])]
  · cases decide ((l.length : Int) ≤ 8) <;> cases anyN _ _ <;> rfl
  · simp only [lt_len hi, cond_true, idxI_get hi, bind_some']
    rw [loop_any i (by omega) (hasA l l[i].A) (some false) (k (iadd .i64 (i : Int) 1)) (fun j k' hj => ?_) (fun k' => by simp only [lt_end, cond_false])]
    · simp only [creditBad, at_any hi]
      cases addrOk l[i].A <;> cases inR l[i].Got 0 1000000 <;> cases inR l[i].Sent 0 _ <;> cases anyN i _ <;> rfl
    · simp only [lt_len hj, cond_true, idxI_get (Nat.lt_trans hj hi), idxI_get hi, bind_some', hasA, at_any (Nat.lt_trans hj hi)]

theorem impl_PskOk.ok {x : TyTup [.sl .byte]} (_ : bdTup [.sl .byte] x) : impl_PskOk.raw x = some (pskOk x) := rfl
theorem spec_PskOk.ok {x : TyTup [.sl .byte]} (_ : bdTup [.sl .byte] x) : spec_PskOk.raw x = some (pskOk x) := rfl

theorem serverOk_raw (s : G.Server) (h : wt s ≤ LIM) : impl_ServerOk.raw s = some (serverOk s) := by
  rw [wt_Server] at h
  have hT := wt_Tab s.T
  simp only [impl_ServerOk.raw, joinK, tabOkO, pt_bind (p := wt s.T ≤ LIM) (by omega), serverOk]
  rw [loop_list s.Psks (len_lim (by omega)) (fun b => !pskOk b) (some false) _ (fun i k hi => ?_) (fun k => by simp only [lt_end, cond_false]; rfl)]
  · rw [loop_list s.T.L (len_lim (by omega)) (fun e => decide (e.Id > (s.Psks.length : Int))) (some false) (some true) (fun i k hi => ?_) (fun k => by simp only [lt_end, cond_false])]
    · cases inR (s.Psks.length : Int) 1 9 <;> cases jarOk s.J <;> cases diceOk s.D <;> cases tabOk s.T <;> cases creditsOk s.Cr <;> cases s.Psks.any _ <;> cases s.T.L.any _ <;> rfl
    · simp only [lt_len hi, cond_true, idxI_get hi, bind_some']
  · simp only [lt_len hi, cond_true, idxI_get hi, bind_some']
theorem impl_ServerOk.ok {x : TyTup [.v .Server]} (_ : bdTup [.v .Server] x) {r : Bool} : serverOkO x = some r → impl_ServerOk.raw x = some r := pt_ok fun h => serverOk_raw x h
theorem spec_ServerOk.ok {x : TyTup [.v .Server]} (_ : bdTup [.v .Server] x) {r : Bool} : serverOkO x = some r → spec_ServerOk.raw x = some r := pt_ok fun h => serverOk_raw x h

theorem wireOk_raw (w : G.Wire) : (joinK (fun (y1 : Bool) => some y1) fun k2 => cond ((addrOk w.From)) (cond ((addrOk w.To)) (k2 (decide ((w.B.length : Int) ≤ 200))) (k2 false)) (k2 false)) = some (wireOk w) := by
  simp only [joinK, cond_some, Bool.cond_false_right, wireOk, Bool.and_assoc]
theorem impl_WireOk.ok {x : TyTup [.v .Wire]} (_ : bdTup [.v .Wire] x) : impl_WireOk.raw x = some (wireOk x) := wireOk_raw x
theorem spec_WireOk.ok {x : TyTup [.v .Wire]} (_ : bdTup [.v .Wire] x) : spec_WireOk.raw x = some (wireOk x) := wireOk_raw x
theorem wiresOk_raw (l : List G.Wire) (hl : l.length ≤ maxLen) : impl_WiresOk.raw l = some (wiresOk l) := by
  simp only [impl_WiresOk.raw, joinK, wiresOk]
  rw [loop_list l hl (fun w => !wireOk w) (some false) _ (fun i k hi => ?_) (fun k => by simp only [lt_end, cond_false]; rfl)]
  · cases l.any _ <;> rfl
  · simp only [lt_len hi, cond_true, idxI_get hi, bind_some']
theorem impl_WiresOk.ok {x : TyTup [.sl .Wire]} (hb : bdTup [.sl .Wire] x) : impl_WiresOk.raw x = some (wiresOk x) := wiresOk_raw x hb.1
theorem spec_WiresOk.ok {x : TyTup [.sl .Wire]} (hb : bdTup [.sl .Wire] x) : spec_WiresOk.raw x = some (wiresOk x) := wiresOk_raw x hb.1

/-! ### Frames -/

theorem impl_sameFrame_raw (f g : G.Frame) (h : wt f ≤ LIM ∧ wt g ≤ LIM) : impl_sameFrame.raw f g = some (sameFrame f g) := by
  simp only [wt_Frame] at h
  simp (disch := omega) only [impl_sameFrame.raw, joinK, sameO_bind]
  simp only [cond_some, Bool.cond_false_right, sameFrame, Bool.and_assoc]
theorem impl_sameFrame.ok {x : TyTup [.v .Frame, .v .Frame]} (_ : bdTup [.v .Frame, .v .Frame] x) {r : Bool} : sameFrameO x.1 x.2 = some r → impl_sameFrame.raw x.1 x.2 = some r := pt_ok fun h => impl_sameFrame_raw x.1 x.2 h
theorem noTimer_raw (t : G.Timer) : (cond (t.On == false) (cond (t.Due == 0) (cond (t.Wait == 0) (cond (t.Tries == 0) (true) false) false) false) false) = noTimer t := by
  simp only [Bool.cond_false_right, noTimer, Bool.and_true, Bool.and_assoc]
theorem impl_TimerOk.ok {x : TyTup [.v .Timer]} (_ : bdTup [.v .Timer] x) : impl_TimerOk.raw x = some (timerOk x) := by
  show impl_TimerOk.raw (x : G.Timer) = some (timerOk (x : G.Timer))
  generalize (show G.Timer from x) = t
  simp only [impl_TimerOk.raw, noTimer_raw, joinK, timerOk]
  cases t.On
  · rfl
  · simp only [Bool.not_true, cond_false, cond_true, cond_some]
    cases inR t.Due 0 1000008 <;> cases inR t.Tries 1 5 <;> grind
theorem spec_TimerOk.ok {x : TyTup [.v .Timer]} (_ : bdTup [.v .Timer] x) : spec_TimerOk.raw x = some (timerOk x) := by
  show spec_TimerOk.raw (x : G.Timer) = some (timerOk (x : G.Timer))
  generalize (show G.Timer from x) = t
  simp only [spec_TimerOk.raw, noTimer_raw, joinK, timerOk]
  cases t.On
  · rfl
  · simp only [Bool.not_true, cond_false, cond_true, cond_some]
    cases inR t.Due 0 1000008 <;> cases inR t.Tries 1 5 <;> grind
theorem spec_l19NoFrame.ok {x : TyTup [.v .Frame]} (_ : bdTup [.v .Frame] x) : spec_l19NoFrame.raw x = some (noFrame x) := by
  show spec_l19NoFrame.raw (x : G.Frame) = some (noFrame (x : G.Frame))
  generalize (show G.Frame from x) = f
  simp only [spec_l19NoFrame.raw, joinK, cond_some, Bool.cond_false_right, noFrame, Bool.and_assoc]
theorem impl_Sealed.ok {x : TyTup [.v .int]} (_ : bdTup [.v .int] x) : impl_Sealed.raw x = some (isSealed x) := rfl
theorem spec_Sealed.ok {x : TyTup [.v .int]} (_ : bdTup [.v .int] x) : spec_Sealed.raw x = some (isSealed x) := rfl
theorem impl_bodyOk.ok {x : TyTup [.v .int, .v .int]} (_ : bdTup [.v .int, .v .int] x) : impl_bodyOk.raw x.1 x.2 = some (bodyOk x.1 x.2) := by
  simp only [impl_bodyOk.raw, joinK, cond_some, bodyOk]
  cases h5 : x.1 == (5 : Int) <;> cases h4 : x.1 == (4 : Int) <;> simp
theorem spec_l7Body.ok {x : TyTup [.v .int, .v .int]} (_ : bdTup [.v .int, .v .int] x) : spec_l7Body.raw x.1 x.2 = some (bodyOk x.1 x.2) := by
  simp only [spec_l7Body.raw, joinK, cond_some, bodyOk]
  cases h5 : x.1 == (5 : Int) <;> cases h4 : x.1 == (4 : Int) <;> simp
theorem bne_not (a b : Int) : (a != b) = !(a == b) := rfl
theorem spec_FrameOk.ok {x : TyTup [.v .Frame]} (_ : bdTup [.v .Frame] x) : spec_FrameOk.raw x = some (frameOk x) := by
  show spec_FrameOk.raw (x : G.Frame) = some (frameOk (x : G.Frame))
  generalize (show G.Frame from x) = f
  simp only [spec_FrameOk.raw, joinK, cond_some, Bool.cond_false_right, Bool.cond_false_left, Bool.cond_true_left, Bool.cond_true_right, frameOk, bne_not]
  cases isSealed f.Kind
  · simp only [cond_false]
    cases f.Epoch == 0 <;> cases f.Seq == 0 <;> cases (f.Body.length : Int) == 0 <;> cases (f.Tag.length : Int) == 0 <;> cases (f.Cn.length : Int) == 12 <;> simp [Bool.and_assoc]
  · simp only [cond_true, Bool.and_assoc]
theorem sealed_kind {k : Int} (h : isSealed k = true) : (k == 1) = false ∧ (k == 2) = false ∧ (k == 3) = false := by
  rw [isSealed, inR_iff] at h
  exact ⟨beq_false_of_ne (by omega), beq_false_of_ne (by omega), beq_false_of_ne (by omega)⟩
theorem beq_empty (l : List UInt8) : (l == []) = ((l.length : Int) == 0) := by rw [len0]; cases l <;> rfl
theorem impl_FrameOk_raw (f : G.Frame) (h : wt f ≤ LIM) : impl_FrameOk.raw f = some (frameOk f) := by
  have hs : ∀ g : G.Frame, wt g ≤ wt f → sameFrameO f g = some (sameFrame f g) := fun g hg => pt_some ⟨h, by omega⟩
  have hw := wt_Frame f
  simp only [impl_FrameOk.raw, joinK, cond_some, frameOk, isNonce]
  cases h1 : f.Kind == 1
  · cases h2 : f.Kind == 2
    · cases h3 : f.Kind == 3
      · cases h4 : isSealed f.Kind
        · simp
        · simp only [cond_true, cond_false]
          rw [hs _ (by simp only [wt_Frame, wt_nil]; omega)]
          simp only [sameFrame, beq_self_eq_true, beq_empty, cond_some, Bool.cond_false_right]
          cases inR f.Epoch 0 4294967295 <;> cases inR f.Seq 0 281474976710655 <;> grind
      · have h4 : isSealed f.Kind = false := by cases h4 : isSealed f.Kind; · rfl
                                                rw [(sealed_kind h4).2.2] at h3; cases h3
        simp only [cond_true, cond_false, h4]
        rw [hs _ (by simp only [wt_Frame, wt_nil]; omega)]
        simp only [sameFrame, beq_self_eq_true, beq_empty, cond_some, Bool.cond_false_right]
        cases inR f.Id 1 9 <;> cases inR f.Tick 0 1000000 <;> grind
    · have h4 : isSealed f.Kind = false := by cases h4 : isSealed f.Kind; · rfl
                                              rw [(sealed_kind h4).2.1] at h2; cases h2
      simp only [cond_true, cond_false, h4]
      rw [hs _ (by simp only [wt_Frame, wt_nil]; omega)]
      simp only [sameFrame, beq_self_eq_true, beq_empty, cond_some, Bool.cond_false_right]
      cases inR f.Tick 0 1000000 <;> grind
  · have h4 : isSealed f.Kind = false := by cases h4 : isSealed f.Kind; · rfl
                                            rw [(sealed_kind h4).1] at h1; cases h1
    simp only [cond_true, cond_false, h4]
    rw [hs _ (by simp only [wt_Frame, wt_nil]; omega)]
    simp only [sameFrame, beq_self_eq_true, beq_empty, cond_some, Bool.cond_false_right]
    cases inR f.Id 1 9 <;> grind
theorem impl_FrameOk.ok {x : TyTup [.v .Frame]} (_ : bdTup [.v .Frame] x) {r : Bool} : frameOkO x = some r → impl_FrameOk.raw x = some r := pt_ok fun h => impl_FrameOk_raw x h

end Go.D

/-
  Clients, worlds, links: each function computes what is said of it.
-/
namespace Go.D

theorem client_wt (c : G.Client) (h : wt c ≤ LIM) : wt c.Psk ≤ LIM ∧ wt c.Cn ≤ LIM ∧ wt c.Fin ≤ LIM ∧ wt c.C ≤ LIM ∧ wt c.Fin.Cn ≤ LIM ∧ wt c.Fin.Sn ≤ LIM ∧ wt c.C.Sn ≤ LIM ∧ wt c.C.Next ≤ LIM ∧ wt c.C.Cur.Key ≤ LIM := by
  rw [wt_Client] at h
  have h1 := wt_Frame c.Fin
  have h2 := wt_Chan c.C
  have h3 := wt_Ep c.C.Cur
  omega

theorem impl_finishOk_raw (c : G.Client) (h : wt c ≤ LIM) : impl_finishOk.raw c = some (finishOk c) := by
  have hw := client_wt c h
  simp only [impl_finishOk.raw, joinK, frameOkO, chanOkO, pt_bind (p := wt c.Fin ≤ LIM) hw.2.2.1, pt_bind (p := wt c.C ≤ LIM) hw.2.2.2.1, sameO_bind hw.2.2.2.2.1 hw.2.1, sameO_bind hw.2.2.2.2.2.2.1 hw.2.2.2.2.2.1]
  simp only [cond_some, Bool.cond_false_right, Bool.cond_false_left, Bool.cond_true_left, Bool.not_true, Bool.false_and, finishOk, bne_not, Bool.not_or, Bool.not_not, Bool.and_assoc]
theorem impl_finishOk.ok {x : TyTup [.v .Client]} (_ : bdTup [.v .Client] x) {r : Bool} : finishOkO x = some r → impl_finishOk.raw x = some r := pt_ok fun h => impl_finishOk_raw x h

theorem noFrame_raw (f : G.Frame) : sameFrame f (⟨0, 0, [], [], 0, [], [], 0, 0, [], []⟩ : G.Frame) = noFrame f := by
  simp only [sameFrame, noFrame, beq_empty]
  grind
theorem same0 {c : G.Client} (h : wt c.Fin ≤ LIM) : sameFrameO c.Fin (⟨0, 0, [], [], 0, [], [], 0, 0, [], []⟩ : G.Frame) = some (noFrame c.Fin) := by
  rw [sameFrameO, pt_some ⟨h, Nat.zero_le _⟩, noFrame_raw]
theorem impl_ClientOk_raw (c : G.Client) (h : wt c ≤ LIM) : impl_ClientOk.raw c = some (clientOk c) := by
  have hw := client_wt c h
  simp only [impl_ClientOk.raw, joinK, noTimer_raw, same0 hw.2.2.1, bind_some', chanOkO, noChanO, finishOkO, pt_bind (p := wt c.C ≤ LIM) hw.2.2.2.1, pt_bind h]
  simp only [cond_some, Bool.cond_false_right, Bool.cond_false_left, Bool.cond_true_left, Bool.not_true, Bool.false_and, clientOk, Bool.not_or, Bool.not_not, Bool.and_assoc]
theorem impl_ClientOk.ok {x : TyTup [.v .Client]} (_ : bdTup [.v .Client] x) {r : Bool} : clientOkO x = some r → impl_ClientOk.raw x = some r := pt_ok fun h => impl_ClientOk_raw x h

theorem timer_off {t : G.Timer} (h : t.On = false) : timerOk t = noTimer t := by rw [timerOk, h]; rfl
theorem timer_on {t : G.Timer} (h : t.On = true) : noTimer t = false := by rw [noTimer, h]; rfl
theorem spec_ClientOk_raw (c : G.Client) (h : wt c ≤ LIM) : spec_ClientOk.raw c = some (clientOk c) := by
  have hw := client_wt c h
  have hL : c.Last = 0 → inR c.Last 0 1000000 = true := fun h => by rw [h]; rfl
  have hT0 := timer_off (t := c.T)
  have hT1 := timer_on (t := c.T)
  have hR0 := timer_off (t := c.R)
  have hR1 := timer_on (t := c.R)
  simp only [spec_ClientOk.raw, joinK, chanOkO, pt_bind (p := wt c.C ≤ LIM) hw.2.2.2.1, sameO_bind hw.2.2.2.2.1 hw.2.1, sameO_bind hw.2.2.2.2.2.2.1 hw.2.2.2.2.2.1,
    cond_some, Bool.cond_false_right, Bool.cond_false_left, Bool.cond_true_left, clientOk, finishOk, bne_not, Bool.not_or, Bool.not_not, isNonce]
  refine congrArg some ?_
  cases inR c.Id 1 9
  · rfl
  cases pskOk c.Psk
  · rfl
  cases addrOk c.At
  · rfl
  simp only [Bool.true_and]
  by_cases s0 : c.St = 0
  · simp only [s0, beq_self_eq_true, cond_true]
    cases hT : c.T.On <;> cases hR : c.R.On <;> simp_all <;> grind
  · have e0 : (c.St == 0) = false := beq_false_of_ne s0
    by_cases s3 : c.St = 3
    · simp only [s3]
      cases hT : c.T.On <;> simp_all <;> grind
    · have e3 : (c.St == 3) = false := beq_false_of_ne s3
      simp only [e0, e3, cond_false]
      cases hT : c.T.On
      · simp
      · cases hR : c.R.On
        · by_cases s1 : c.St = 1
          · simp_all; grind
          · have e1 : (c.St == 1) = false := beq_false_of_ne s1
            simp only [e1, cond_false]
            by_cases s2 : c.St = 2
            · simp_all; grind
            · have e2 : (c.St == 2) = false := beq_false_of_ne s2
              simp [e2]
        · simp_all
theorem spec_ClientOk.ok {x : TyTup [.v .Client]} (_ : bdTup [.v .Client] x) {r : Bool} : clientOkO x = some r → spec_ClientOk.raw x = some r := pt_ok fun h => spec_ClientOk_raw x h

/-! ### Worlds -/

theorem world_wt (w : G.World) (h : wt w ≤ LIM) : wt w.Clients ≤ LIM ∧ wt w.S ≤ LIM ∧ wt w.S.Psks ≤ LIM ∧ wt w.S.T ≤ LIM ∧ wt w.S.T.L ≤ LIM ∧ wt w.Seen ≤ LIM ∧ wt w.Known ≤ LIM ∧ wt w.Notes ≤ LIM := by
  rw [wt_World] at h
  have h1 := wt_Server w.S
  have h2 := wt_Tab w.S.T
  omega
theorem known_loop (l : List (List UInt8)) (hl : l.length ≤ maxLen) (z : Option Bool) : loopK FU (fun (x16 : Int) k17 => cond (decide (x16 < (l.length : Int))) (Option.bind (idxI l x16) fun e18 => cond ((e18.length : Int) != 32) (some false) (k17 (iadd .i64 x16 1))) z) 0
    = bif l.any fun b => (b.length : Int) != 32 then some false else z := by
  rw [loop_list l hl (fun b => (b.length : Int) != 32) (some false) z (fun i k hi => ?_) (fun k => by simp only [lt_end, cond_false])]
  simp only [lt_len hi, cond_true, idxI_get hi, bind_some']
theorem notes_loop (l : List G.Note) (hl : l.length ≤ maxLen) (z : Option Bool) : loopK FU (fun (x16 : Int) k17 => cond (decide (x16 < (l.length : Int))) (Option.bind (idxI l x16) fun e18 => cond (!(noteOk e18)) (some false) (k17 (iadd .i64 x16 1))) z) 0
    = bif l.any fun n => !noteOk n then some false else z := by
  rw [loop_list l hl (fun n => !noteOk n) (some false) z (fun i k hi => ?_) (fun k => by simp only [lt_end, cond_false])]
  simp only [lt_len hi, cond_true, idxI_get hi, bind_some']
theorem clients_wt {w : G.World} (h : wt w ≤ LIM) {i : Nat} (hi : i < w.Clients.length) : wt w.Clients[i] ≤ LIM := by
  have := wt_get hi
  have := (world_wt w h).1
  omega
theorem clients_loop (w : G.World) (h : wt w ≤ LIM) (hc : w.Clients.length = 2) (hp : w.S.Psks.length = 2) (z : Option Bool) {f : Int → (Int → Option Bool) → Option Bool}
    (hf : ∀ (i : Nat) k (h : i < w.Clients.length) (h' : i < w.S.Psks.length), wt w.Clients[i] ≤ LIM → wt w.Clients[i].Psk ≤ LIM → wt w.S.Psks[i] ≤ LIM → IntKind.wrap .i64 ((i : Int) + 1) = ((i + 1 : Nat) : Int) →
      f (i : Int) k = bif !clientOk w.Clients[i] || w.Clients[i].Id != ((i + 1 : Nat) : Int) || !(w.Clients[i].Psk == w.S.Psks[i]) then some false else k (IntKind.wrap .i64 ((i : Int) + 1)))
    (hz : ∀ k, f (2 : Int) k = z) : loopK FU f 0 = bif anyN 2 (clientBad w) then some false else z := by
  rw [loop_any 2 (by decide) (clientBad w) (some false) z (fun i k hi => ?_) hz]
  have h1 := clients_wt h (i := i) (by omega)
  have h2 := (client_wt _ h1).1
  have h3 := wt_get (l := w.S.Psks) (i := i) (by omega)
  have h4 := (world_wt w h).2.2.1
  rw [hf i k (by omega) (by omega) h1 h2 (by omega) (iadd_nat i (by rw [maxLen_is]; omega)), clientBad, at_any (by omega), at_any (by omega)]
theorem impl_WorldOk_raw (w : G.World) (h : wt w ≤ LIM) : impl_WorldOk.raw w = some (worldOk w) := by
  have hw := world_wt w h
  simp only [impl_WorldOk.raw, joinK, serverOkO, pt_bind (p := wt w.S ≤ LIM) hw.2.1, worldOk]
  by_cases hc : w.Clients.length = 2
  · by_cases hp : w.S.Psks.length = 2
    · have c1 : ((w.Clients.length : Int) != 2) = false := by simp [hc]
      have c2 : ((w.Clients.length : Int) == 2) = true := by simp [hc]
      have p1 : ((w.S.Psks.length : Int) != 2) = false := by simp [hp]
      have p2 : ((w.S.Psks.length : Int) == 2) = true := by simp [hp]
      rw [c1, c2, p1, p2, notes_loop w.Notes (len_lim hw.2.2.2.2.2.2.2), known_loop w.Known (len_lim hw.2.2.2.2.2.2.1), clients_loop w h hc hp _ (fun i k hi hi' w1 w2 w3 he => ?_) (fun k => by rw [hc]; exact cond_false _ _)]
      · rw [not_gt]
        cases inR w.Now 0 1000000
        · rfl
        cases serverOk w.S
        · rfl
        cases diceOk w.D
        · rfl
        cases wiresOk w.Seen
        · rfl
        cases decide ((w.Known.length : Int) ≤ 12)
        · rfl
        cases anyN 2 (clientBad w)
        · cases w.Known.any _
          · cases w.Notes.any _ <;> rfl
          · rfl
        · rfl
      · simp only [lt_len hi, cond_true, idxI_get hi, idxI_get hi', bind_some', clientOkO, pt_bind w1, sameO_bind w2 w3]
        simp only [iadd, he]
        cases clientOk w.Clients[i] <;> cases w.Clients[i].Id != ((i + 1 : Nat) : Int) <;> cases w.Clients[i].Psk == w.S.Psks[i] <;> rfl
    · have p1 : ((w.S.Psks.length : Int) != 2) = true := by simp; omega
      have p2 : ((w.S.Psks.length : Int) == 2) = false := by simp; omega
      rw [p1, p2]
      simp
  · have c1 : ((w.Clients.length : Int) != 2) = true := by simp; omega
    have c2 : ((w.Clients.length : Int) == 2) = false := by simp; omega
    rw [c1, c2]
    simp
theorem impl_WorldOk.ok {x : TyTup [.v .World]} (_ : bdTup [.v .World] x) {r : Bool} : worldOkO x = some r → impl_WorldOk.raw x = some r := pt_ok fun h => impl_WorldOk_raw x h
theorem spec_WorldOk_raw (w : G.World) (h : wt w ≤ LIM) : spec_WorldOk.raw w = some (worldOk w) := by
  have hw := world_wt w h
  simp only [spec_WorldOk.raw, joinK, serverOkO, pt_bind (p := wt w.S ≤ LIM) hw.2.1, worldOk]
  by_cases hc : w.Clients.length = 2
  · by_cases hp : w.S.Psks.length = 2
    · have c1 : ((w.Clients.length : Int) != 2) = false := by simp [hc]
      have c2 : ((w.Clients.length : Int) == 2) = true := by simp [hc]
      have p1 : ((w.S.Psks.length : Int) != 2) = false := by simp [hp]
      have p2 : ((w.S.Psks.length : Int) == 2) = true := by simp [hp]
      rw [c1, c2, p1, p2, notes_loop w.Notes (len_lim hw.2.2.2.2.2.2.2), known_loop w.Known (len_lim hw.2.2.2.2.2.2.1), clients_loop w h hc hp _ (fun i k hi hi' w1 w2 w3 he => ?_) (fun k => by exact cond_false _ _)]
      · rw [not_gt]
        cases inR w.Now 0 1000000
        · rfl
        cases serverOk w.S
        · rfl
        cases diceOk w.D
        · rfl
        cases wiresOk w.Seen
        · rfl
        cases decide ((w.Known.length : Int) ≤ 12)
        · rfl
        cases anyN 2 (clientBad w)
        · cases w.Known.any _
          · cases w.Notes.any _ <;> rfl
          · rfl
        · rfl
      · have e : decide ((i : Int) < 2) = true := decide_eq_true (by omega)
        simp only [e, cond_true, idxI_get hi, idxI_get hi', bind_some', clientOkO, pt_bind w1, sameO_bind w2 w3]
        simp only [iadd, he]
        cases clientOk w.Clients[i] <;> cases w.Clients[i].Id != ((i + 1 : Nat) : Int) <;> cases w.Clients[i].Psk == w.S.Psks[i] <;> rfl
    · have p1 : ((w.S.Psks.length : Int) != 2) = true := by simp; omega
      have p2 : ((w.S.Psks.length : Int) == 2) = false := by simp; omega
      rw [p1, p2]
      simp
  · have c1 : ((w.Clients.length : Int) != 2) = true := by simp; omega
    have c2 : ((w.Clients.length : Int) == 2) = false := by simp; omega
    rw [c1, c2]
    simp
theorem spec_WorldOk.ok {x : TyTup [.v .World]} (_ : bdTup [.v .World] x) {r : Bool} : worldOkO x = some r → spec_WorldOk.raw x = some r := pt_ok fun h => spec_WorldOk_raw x h

theorem world_len {w : G.World} (h : worldOk w = true) : w.Clients.length = 2 := by
  simp only [worldOk, Bool.and_eq_true, beq_iff_eq] at h
  omega
theorem world_two {w : G.World} (h : worldOk w = true) : ∃ a b, w.Clients = [a, b] := by
  have := world_len h
  match hc : w.Clients with
  | [a, b] => exact ⟨a, b, rfl⟩
  | [] => rw [hc] at this; cases this
  | [_] => rw [hc] at this; cases this
  | _ :: _ :: _ :: _ => rw [hc] at this; simp at this

theorem impl_Sleeps_raw (w : G.World) (h : wt w ≤ LIM) : impl_Sleeps.raw w = some (sleeps w) := by
  have hw := world_wt w h
  simp only [impl_Sleeps.raw, joinK, worldOkO, pt_bind h, liveO, pt_bind (p := wt w.S.T ≤ LIM) hw.2.2.2.1, sleeps]
  rw [loop_list w.Clients (len_lim hw.1) (fun c => c.St != 0) (some false) _ (fun i k hi => ?_) (fun k => by simp only [lt_end, cond_false]; rfl)]
  · cases worldOk w <;> cases w.Clients.any _ <;> rfl
  · simp only [lt_len hi, cond_true, idxI_get hi, bind_some']
theorem impl_Sleeps.ok {x : TyTup [.v .World]} (_ : bdTup [.v .World] x) {r : Bool} : sleepsO x = some r → impl_Sleeps.raw x = some r := pt_ok fun h => impl_Sleeps_raw x h
theorem idx0 {α : Type} (a b : α) : idxI [a, b] 0 = some a := rfl
theorem idx1 {α : Type} (a b : α) : idxI [a, b] 1 = some b := rfl
theorem spec_Sleeps_raw (w : G.World) (h : wt w ≤ LIM) : spec_Sleeps.raw w = some (sleeps w) := by
  have hw := world_wt w h
  simp only [spec_Sleeps.raw, joinK, worldOkO, pt_bind h, liveO, pt_bind (p := wt w.S.T ≤ LIM) hw.2.2.2.1, sleeps]
  cases ho : worldOk w
  · rfl
  · obtain ⟨a, b, hc⟩ := world_two ho
    simp only [hc, idx0, idx1, bind_some', cond_true, List.any_cons, List.any_nil, bne_not]
    cases a.St == 0 <;> cases b.St == 0 <;> rfl
theorem spec_Sleeps.ok {x : TyTup [.v .World]} (_ : bdTup [.v .World] x) {r : Bool} : sleepsO x = some r → spec_Sleeps.raw x = some r := pt_ok fun h => spec_Sleeps_raw x h

theorem impl_Settled_raw (w : G.World) (h : wt w ≤ LIM) : impl_Settled.raw w = some (settled w) := by
  have hw := world_wt w h
  simp only [impl_Settled.raw, joinK, worldOkO, pt_bind h, settled]
  rw [loop_list w.Clients (len_lim hw.1) (fun c => c.St == 1 || c.St == 2) (some false) _ (fun i k hi => ?_) (fun k => by simp only [lt_end, cond_false]; rfl)]
  · cases worldOk w <;> cases w.Clients.any _ <;> rfl
  · simp only [lt_len hi, cond_true, idxI_get hi, bind_some']
    cases w.Clients[i].St == 1 <;> rfl
theorem impl_Settled.ok {x : TyTup [.v .World]} (_ : bdTup [.v .World] x) {r : Bool} : settledO x = some r → impl_Settled.raw x = some r := pt_ok fun h => impl_Settled_raw x h
theorem spec_Settled_raw (w : G.World) (h : wt w ≤ LIM) : spec_Settled.raw w = some (settled w) := by
  have hw := world_wt w h
  simp only [spec_Settled.raw, joinK, worldOkO, pt_bind h, settled]
  cases ho : worldOk w
  · rfl
  have hl := world_len ho
  simp only [Bool.not_true, cond_false]
  rw [loop_any 2 (by decide) (fun i => (w.Clients[i]?).any fun c => c.St == 1 || c.St == 2) (some false) (some true) (fun i k hi => ?_) (fun k => by exact cond_false _ _)]
  · have := any_list w.Clients fun c => c.St == 1 || c.St == 2
    rw [hl] at this
    rw [this]; cases w.Clients.any _ <;> rfl
  · have e : decide ((i : Int) < 2) = true := decide_eq_true (by omega)
    have hi' : i < w.Clients.length := by omega
    simp only [e, cond_true, idxI_get hi', bind_some', at_any hi']
    cases w.Clients[i].St == 1 <;> rfl
theorem spec_Settled.ok {x : TyTup [.v .World]} (_ : bdTup [.v .World] x) {r : Bool} : settledO x = some r → spec_Settled.raw x = some r := pt_ok fun h => spec_Settled_raw x h

/-! ### Links -/

theorem alive_cases (w : G.World) (c : G.Client) : ((c.St != 3) = true ∧ alive w c = none) ∨ ((c.St != 3) = false ∧ findSn w.S.T c.C.Sn = -1 ∧ alive w c = none) ∨
    ∃ (m : Nat) (hm : m < w.S.T.L.length), (c.St != 3) = false ∧ findSn w.S.T c.C.Sn = (m : Int) ∧ ((w.S.T.L[m].Dead = true ∧ alive w c = none) ∨ (w.S.T.L[m].Dead = false ∧ alive w c = some w.S.T.L[m])) := by
  by_cases h3 : c.St = 3
  · right
    have e1 : (c.St != 3) = false := by simp [h3]
    have e2 : (c.St == 3) = true := by simp [h3]
    rcases findI_cases w.S.T.L.length (hasSn w.S.T c.C.Sn) with ⟨h1, h2⟩ | ⟨m, hm, _, _, h4⟩
    · left
      have h2 : findSn w.S.T c.C.Sn = -1 := h2
      refine ⟨e1, h2, ?_⟩
      rw [alive, e2, h2]; rfl
    · right
      have h4 : findSn w.S.T c.C.Sn = (m : Int) := h4
      refine ⟨m, hm, e1, h4, ?_⟩
      rw [alive, e2, h4, cond_true, if_pos (by omega), Int.toNat_natCast, List.getElem?_eq_getElem hm]
      cases hd : w.S.T.L[m].Dead
      · right; exact ⟨rfl, by simp [hd]⟩
      · left; exact ⟨rfl, by simp [hd]⟩
  · left
    have e2 : (c.St == 3) = false := beq_false_of_ne h3
    exact ⟨bne_iff_ne.2 h3, by rw [alive, e2]; rfl⟩
/-- What is done with a client's session, as the program looks for it. -/
theorem look_sess {R : Type} (w : G.World) (c : G.Client) (hT : wt w.S.T ≤ LIM) (hc : wt c ≤ LIM) (F : G.Sess → Option R) (N : Option R) :
    (Option.bind (findSnO w.S.T c.C.Sn) fun r => cond (c.St != 3) (cond true N (Option.bind (idxI w.S.T.L r) F)) (cond (decide (r < 0)) (cond true N (Option.bind (idxI w.S.T.L r) F)) (Option.bind (idxI w.S.T.L r) fun e => cond e.Dead N (Option.bind (idxI w.S.T.L r) F))))
      = match alive w c with
        | some s => F s
        | none => N := by
  rw [findSnO, pt_bind ⟨hT, (client_wt c hc).2.2.2.2.2.2.1⟩]
  rcases alive_cases w c with ⟨h1, h2⟩ | ⟨h1, h2, h3⟩ | ⟨m, hm, h1, h2, (⟨h3, h4⟩ | ⟨h3, h4⟩)⟩
  · rw [h1, h2]; rfl
  · rw [h1, h2, h3]; rfl
  · rw [h1, h2, h4]
    have e : decide ((m : Int) < 0) = false := decide_eq_false (by omega)
    simp only [cond_false, e, idxI_get hm, bind_some', h3, cond_true]
  · rw [h1, h2, h4]
    have e : decide ((m : Int) < 0) = false := decide_eq_false (by omega)
    simp only [cond_false, e, idxI_get hm, bind_some', h3]
theorem alive_wt {w : G.World} {c : G.Client} {s : G.Sess} (hT : wt w.S.T ≤ LIM) (h : alive w c = some s) : wt s ≤ LIM := by
  rcases alive_cases w c with ⟨_, h2⟩ | ⟨_, _, h3⟩ | ⟨m, hm, _, _, (⟨_, h4⟩ | ⟨_, h4⟩)⟩
  · rw [h2] at h; cases h
  · rw [h3] at h; cases h
  · rw [h4] at h; cases h
  · rw [h4] at h; cases h
    exact (sess_wt hT hm).1

theorem isub_one {i : Nat} (h : i < maxLen) {id : Int} (hid : id = (i : Int) + 1) : isub .i64 id 1 = (i : Int) ∧ (id - 1).toNat = i := by
  rw [maxLen_is] at h
  subst hid
  refine ⟨?_, by omega⟩
  rw [isub, wrap_i64 (by omega) (by omega)]; omega
theorem client_at {w : G.World} (hw : worldOk w = true) {id : Int} (hid : inR id 1 2 = true) : ∃ (i : Nat) (_ : i < w.Clients.length), id = (i : Int) + 1 ∧ isub .i64 id 1 = (i : Int) ∧ (id - 1).toNat = i := by
  have h1 := world_len hw
  have h2 := inR_iff.1 hid
  obtain ⟨i, hi⟩ := int_nat (n := id - 1) (by omega)
  have := isub_one (i := i) (by rw [maxLen_is]; omega) (id := id) (by omega)
  exact ⟨i, by omega, by omega, this.1, this.2⟩

theorem impl_sessionOf.ok {x : TyTup [.v .World, .v .int]} (hb : bdTup [.v .World, .v .int] x) {r : G.Client × G.Sess × Bool} : sessionOfO x.1 x.2 = some r → impl_sessionOf.raw x.1 x.2 = some r := fun h => by
  obtain ⟨w, id⟩ := x
  have h : sessionOfO (w : G.World) (id : Int) = some r := h
  show impl_sessionOf.raw (w : G.World) (id : Int) = some r
  generalize (show G.World from w) = w, (show Int from id) = id at h ⊢
  unfold sessionOfO at h
  by_cases hp : wt w ≤ LIM ∧ 1 ≤ id ∧ id ≤ w.Clients.length
  · rw [pt_bind hp] at h
    have hw := world_wt w hp.1
    obtain ⟨i, hi⟩ := int_nat (n := id - 1) (by omega)
    have hl := len_lim hw.1
    have hlt : i < w.Clients.length := by omega
    obtain ⟨e1, e2⟩ := isub_one (i := i) (by omega) (id := id) (by omega)
    rw [e2, List.getElem?_eq_getElem hlt, Option.map_some] at h
    simp only [impl_sessionOf.raw, joinK]
    rw [e1, idxI_get hlt, bind_some', look_sess w w.Clients[i] hw.2.2.2.1 (clients_wt hp.1 hlt) (fun s => some (w.Clients[i], s, true))]
    rw [← h, sessionOf]
    cases alive w w.Clients[i] <;> rfl
  · unfold pt at h
    rw [if_neg hp] at h; cases h

theorem wrap_ne (n : Int) : (n == iadd .i64 n 1) = false := by
  apply beq_false_of_ne
  intro h
  simp only [iadd, IntKind.wrap] at h
  simp [IntKind.bits, IntKind.signed] at h
  omega
theorem sess_keys {s : G.Sess} (h : wt s ≤ LIM) : wt s.Cn ≤ LIM ∧ wt s.C.Cur.Key ≤ LIM ∧ wt s.C.Old.Key ≤ LIM := by
  rw [wt_Sess] at h
  have h1 := wt_Chan s.C
  have h2 := wt_Ep s.C.Cur
  have h3 := wt_Ep s.C.Old
  omega
theorem beq_symm_bytes (a b : List UInt8) : (a == b) = (b == a) := BEq.comm
theorem beq_symm_int (a b : Int) : (a == b) = (b == a) := BEq.comm
theorem spec_EpochsFit_raw (w : G.World) (id : Int) (h : wt w ≤ LIM) : spec_EpochsFit.raw w id = some (epochsFit w id) := by
  have hw := world_wt w h
  simp only [spec_EpochsFit.raw, joinK, worldOkO, pt_bind h, epochsFit]
  cases ho : worldOk w
  · rfl
  cases hid : inR id 1 2
  · rfl
  obtain ⟨i, hi, _, e1, e2⟩ := client_at ho hid
  have hcw := clients_wt h hi
  have hck := client_wt _ hcw
  simp only [Bool.not_true, cond_false, e1, e2, idxI_get hi, bind_some', at_any hi, Bool.true_and]
  rw [look_sess w w.Clients[i] hw.2.2.2.1 hcw]
  cases ha : alive w w.Clients[i] with
  | none => rfl
  | some s =>
    have hs := sess_keys (alive_wt hw.2.2.2.1 ha)
    simp only [Option.all_some]
    generalize w.Clients[i] = c at *
    simp only [sameO_bind hs.1 hck.2.1, sameO_bind hs.2.1 hck.2.2.2.2.2.2.2.2, sameO_bind hck.2.2.2.2.2.2.2.1 hs.2.1, sameO_bind hs.2.2 hck.2.2.2.2.2.2.2.2, cond_some, keysFit]
    rw [beq_symm_bytes c.Cn, beq_symm_int c.C.Cur.N, beq_symm_bytes c.C.Cur.Key s.C.Cur.Key]
    cases s.Cn == c.Cn
    · rfl
    cases hN : s.C.Cur.N == c.C.Cur.N
    · simp only [Bool.cond_false_right, cond_false, Bool.not_true, Bool.false_and, Bool.true_and, Bool.and_assoc]
    · have hn : s.C.Cur.N = c.C.Cur.N := by simpa using hN
      have := wrap_ne c.C.Cur.N
      rw [hn, this]
      cases s.C.Cur.Key == c.C.Cur.Key
      · simp
      · simp
        cases decide (s.C.Cur.Win.Top < c.C.Cur.Seq) <;> cases decide (c.C.Cur.Win.Top < s.C.Cur.Seq) <;> rfl
theorem spec_EpochsFit.ok {x : TyTup [.v .World, .v .int]} (_ : bdTup [.v .World, .v .int] x) {r : Bool} : epochsFitO x.1 x.2 = some r → spec_EpochsFit.raw x.1 x.2 = some r := pt_ok fun h => spec_EpochsFit_raw x.1 x.2 h
theorem sessionOfO_some {w : G.World} {id : Int} {i : Nat} (h : wt w ≤ LIM) (hi : i < w.Clients.length) (hid : id = (i : Int) + 1) (e2 : (id - 1).toNat = i) : sessionOfO w id = some (sessionOf w w.Clients[i]) := by
  rw [sessionOfO, pt_bind ⟨h, by omega, by omega⟩, e2, List.getElem?_eq_getElem hi]; rfl
theorem impl_EpochsFit_raw (w : G.World) (id : Int) (h : wt w ≤ LIM) : impl_EpochsFit.raw w id = some (epochsFit w id) := by
  have hw := world_wt w h
  simp only [impl_EpochsFit.raw, joinK, worldOkO, pt_bind h, epochsFit]
  cases ho : worldOk w
  · rfl
  cases hid : inR id 1 2
  · rfl
  obtain ⟨i, hi, e0, e1, e2⟩ := client_at ho hid
  have hcw := clients_wt h hi
  have hck := client_wt _ hcw
  rw [sessionOfO_some h hi e0 e2]
  simp only [Bool.not_true, cond_false, e2, bind_some', at_any hi, Bool.true_and, sessionOf]
  cases ha : alive w w.Clients[i] with
  | none => rfl
  | some s =>
    have hs := sess_keys (alive_wt hw.2.2.2.1 ha)
    simp only [Option.all_some]
    generalize w.Clients[i] = c at *
    simp only [sameO_bind hck.2.1 hs.1, sameO_bind hck.2.2.2.2.2.2.2.2 hs.2.1, sameO_bind hck.2.2.2.2.2.2.2.1 hs.2.1, sameO_bind hs.2.2 hck.2.2.2.2.2.2.2.2, cond_some, keysFit, Bool.cond_false_right, Bool.not_true, cond_false]
    cases c.Cn == s.Cn
    · rfl
    cases c.C.Cur.N == s.C.Cur.N <;> cases c.C.Cur.Key == s.C.Cur.Key <;> simp [Bool.and_assoc]
theorem impl_EpochsFit.ok {x : TyTup [.v .World, .v .int]} (_ : bdTup [.v .World, .v .int] x) {r : Bool} : epochsFitO x.1 x.2 = some r → impl_EpochsFit.raw x.1 x.2 = some r := pt_ok fun h => impl_EpochsFit_raw x.1 x.2 h

theorem fit_parts {w : G.World} {id : Int} (h : epochsFit w id = true) : worldOk w = true ∧ inR id 1 2 = true := by
  simp only [epochsFit, Bool.and_eq_true] at h
  exact h.1
theorem imax_gt (a b k : Int) : decide (imax a b > k) = (decide (a > k) || decide (b > k)) := by
  have h : imax a b > k ↔ (a > k ∨ b > k) := by
    unfold imax
    by_cases hb : b > a
    · rw [if_pos hb]; omega
    · rw [if_neg hb]; omega
  rw [Bool.eq_iff_iff, Bool.or_eq_true, decide_eq_true_iff, decide_eq_true_iff, decide_eq_true_iff]
  exact h
theorem not_le (a b : Int) : decide (a ≤ b) = !decide (a > b) := by rw [not_gt, Bool.not_not]
theorem spec_Linked_raw (w : G.World) (id : Int) (h : wt w ≤ LIM) : spec_Linked.raw w id = some (linked w id) := by
  have hw := world_wt w h
  simp only [spec_Linked.raw, joinK, epochsFitO, pt_bind h, linked]
  cases hf : epochsFit w id
  · rfl
  rw [not_le w.Now 999900]
  cases decide (w.Now > 999900)
  case true => rfl
  obtain ⟨ho, hid⟩ := fit_parts hf
  obtain ⟨i, hi, _, e1, e2⟩ := client_at ho hid
  have hcw := clients_wt h hi
  simp only [Bool.not_true, cond_false, e1, e2, idxI_get hi, bind_some', at_any hi, Bool.true_and, Bool.not_false]
  rw [look_sess w w.Clients[i] hw.2.2.2.1 hcw]
  cases ha : alive w w.Clients[i] with
  | none => rfl
  | some s =>
    simp only [Option.any_some, roomy]
    generalize w.Clients[i] = c at *
    cases inR (isub .i64 w.Now c.Last) 0 40
    · rfl
    cases inR (isub .i64 w.Now s.Last) 0 40
    · rfl
    cases c.R.On <;> cases decide (c.R.Due > iadd .i64 w.Now 8) <;> cases decide (c.C.Cur.Seq ≤ 281474976709556) <;> cases decide (s.C.Cur.Seq ≤ 281474976709556) <;> cases s.C.HasOld <;> cases decide (s.C.Old.Seq ≤ 281474976709556) <;> rfl
theorem spec_Linked.ok {x : TyTup [.v .World, .v .int]} (_ : bdTup [.v .World, .v .int] x) {r : Bool} : linkedO x.1 x.2 = some r → spec_Linked.raw x.1 x.2 = some r := pt_ok fun h => spec_Linked_raw x.1 x.2 h
theorem impl_Linked_raw (w : G.World) (id : Int) (h : wt w ≤ LIM) : impl_Linked.raw w id = some (linked w id) := by
  have hw := world_wt w h
  simp only [impl_Linked.raw, joinK, epochsFitO, pt_bind h, linked]
  cases hf : epochsFit w id
  · rfl
  rw [not_le w.Now 999900]
  cases decide (w.Now > 999900)
  case true => rfl
  obtain ⟨ho, hid⟩ := fit_parts hf
  obtain ⟨i, hi, e0, e1, e2⟩ := client_at ho hid
  have hcw := clients_wt h hi
  rw [sessionOfO_some h hi e0 e2]
  simp only [Bool.not_true, cond_false, e2, bind_some', at_any hi, Bool.true_and, Bool.not_false, sessionOf]
  cases ha : alive w w.Clients[i] with
  | none => rfl
  | some s =>
    simp only [Option.any_some, roomy]
    generalize w.Clients[i] = c at *
    simp only [imax_gt]
    rw [not_le c.C.Cur.Seq 281474976709556, not_le s.C.Cur.Seq 281474976709556, not_le s.C.Old.Seq 281474976709556, not_le c.C.Cur.N 4294967293, not_le c.R.Due]
    cases inR (isub .i64 w.Now c.Last) 0 40
    · rfl
    cases inR (isub .i64 w.Now s.Last) 0 40
    · rfl
    cases c.R.On <;> cases decide (c.R.Due > iadd .i64 w.Now 8) <;> cases decide (c.C.Cur.Seq > 281474976709556) <;> cases decide (s.C.Cur.Seq > 281474976709556) <;> cases s.C.HasOld <;> cases decide (s.C.Old.Seq > 281474976709556) <;> cases decide (c.C.Cur.N > 4294967293) <;> rfl
theorem impl_Linked.ok {x : TyTup [.v .World, .v .int]} (_ : bdTup [.v .World, .v .int] x) {r : Bool} : linkedO x.1 x.2 = some r → impl_Linked.raw x.1 x.2 = some r := pt_ok fun h => impl_Linked_raw x.1 x.2 h

theorem linked_parts {w : G.World} {id : Int} (h : linked w id = true) : epochsFit w id = true ∧ ∃ (i : Nat) (hi : i < w.Clients.length), id = (i : Int) + 1 ∧ isub .i64 id 1 = (i : Int) ∧ (id - 1).toNat = i ∧ ∃ s, alive w w.Clients[i] = some s := by
  have h' := h
  simp only [linked, Bool.and_eq_true] at h'
  obtain ⟨⟨hf, _⟩, h3⟩ := h'
  obtain ⟨ho, hid⟩ := fit_parts hf
  obtain ⟨i, hi, e0, e1, e2⟩ := client_at ho hid
  refine ⟨hf, i, hi, e0, e1, e2, ?_⟩
  rw [e2, at_any hi] at h3
  cases ha : alive w w.Clients[i] with
  | none => rw [ha] at h3; cases h3
  | some s => exact ⟨s, rfl⟩
theorem alive_find {w : G.World} {c : G.Client} {s : G.Sess} (h : alive w c = some s) : ∃ (m : Nat) (hm : m < w.S.T.L.length), findSn w.S.T c.C.Sn = (m : Int) ∧ w.S.T.L[m] = s := by
  rcases alive_cases w c with ⟨_, h2⟩ | ⟨_, _, h3⟩ | ⟨m, hm, _, h5, (⟨_, h4⟩ | ⟨_, h4⟩)⟩
  · rw [h2] at h; cases h
  · rw [h3] at h; cases h
  · rw [h4] at h; cases h
  · rw [h4] at h; cases h
    exact ⟨m, hm, h5, rfl⟩
theorem spec_CanTurn_raw (w : G.World) (id : Int) (h : wt w ≤ LIM) : spec_CanTurn.raw w id = some (canTurn w id) := by
  have hw := world_wt w h
  simp only [spec_CanTurn.raw, joinK, linkedO, pt_bind h, sameA_raw, canTurn]
  cases hl : linked w id
  · rfl
  obtain ⟨_, i, hi, e0, e1, e2, s, hs⟩ := linked_parts hl
  obtain ⟨m, hm, f1, rfl⟩ := alive_find hs
  have hcw := clients_wt h hi
  have hck := client_wt _ hcw
  simp only [Bool.not_true, cond_false, e1, e2, idxI_get hi, bind_some', at_any hi, findSnO, pt_bind (p := wt w.S.T ≤ LIM ∧ wt w.Clients[i].C.Sn ≤ LIM) ⟨hw.2.2.2.1, hck.2.2.2.2.2.2.1⟩, f1, idxI_get hm, hs, Option.any_some, partyAtO, pt_bind h]
  cases sameA _ _ <;> rfl
theorem spec_CanTurn.ok {x : TyTup [.v .World, .v .int]} (_ : bdTup [.v .World, .v .int] x) {r : Bool} : canTurnO x.1 x.2 = some r → spec_CanTurn.raw x.1 x.2 = some r := pt_ok fun h => spec_CanTurn_raw x.1 x.2 h
theorem impl_CanTurn_raw (w : G.World) (id : Int) (h : wt w ≤ LIM) : impl_CanTurn.raw w id = some (canTurn w id) := by
  simp only [impl_CanTurn.raw, joinK, linkedO, pt_bind h, sameA_raw, canTurn]
  cases hl : linked w id
  · rfl
  obtain ⟨_, i, hi, e0, e1, e2, s, hs⟩ := linked_parts hl
  rw [sessionOfO_some h hi e0 e2]
  simp only [Bool.not_true, cond_false, e2, bind_some', at_any hi, sessionOf, hs, Option.any_some, partyAtO, pt_bind h]
  cases sameA _ _ <;> rfl
theorem impl_CanTurn.ok {x : TyTup [.v .World, .v .int]} (_ : bdTup [.v .World, .v .int] x) {r : Bool} : canTurnO x.1 x.2 = some r → impl_CanTurn.raw x.1 x.2 = some r := pt_ok fun h => impl_CanTurn_raw x.1 x.2 h

end Go.D

/-
  The laws about worlds.
-/
namespace Go.D

theorem laws_FnExactWorldOk.ok {x : TyTup [.v .World]} (_ : bdTup [.v .World] x) : laws_FnExactWorldOk.raw x = some (always (α := G.World) x) := by
  show laws_FnExactWorldOk.raw (x : G.World) = some true
  generalize (show G.World from x) = w
  simp only [laws_FnExactWorldOk.raw]
  refine law_step (by decide) fun h => ?_
  have hL := LIM_is
  simp (disch := omega) only [cpy_ok, worldOkO, pt_bind, eqq_self]
  simp
theorem laws_FnExactSleeps.ok {x : TyTup [.v .World]} (_ : bdTup [.v .World] x) : laws_FnExactSleeps.raw x = some (always (α := G.World) x) := by
  show laws_FnExactSleeps.raw (x : G.World) = some true
  generalize (show G.World from x) = w
  simp only [laws_FnExactSleeps.raw]
  refine law_step (by decide) fun h => ?_
  have hL := LIM_is
  simp (disch := omega) only [cpy_ok, sleepsO, pt_bind, eqq_self]
  simp
theorem laws_FnExactSettled.ok {x : TyTup [.v .World]} (_ : bdTup [.v .World] x) : laws_FnExactSettled.raw x = some (always (α := G.World) x) := by
  show laws_FnExactSettled.raw (x : G.World) = some true
  generalize (show G.World from x) = w
  simp only [laws_FnExactSettled.raw]
  refine law_step (by decide) fun h => ?_
  have hL := LIM_is
  simp (disch := omega) only [cpy_ok, settledO, pt_bind, eqq_self]
  simp
theorem laws_FnExactEpochsFit.ok {x : TyTup [.v .World, .v .int]} (_ : bdTup [.v .World, .v .int] x) : laws_FnExactEpochsFit.raw x.1 x.2 = some (always2 (α := G.World) (β := Int) x.1 x.2) := by
  obtain ⟨w, a⟩ := x
  show laws_FnExactEpochsFit.raw (w : G.World) (a : Int) = some true
  generalize (show G.World from w) = w, (show Int from a) = a
  simp only [laws_FnExactEpochsFit.raw]
  refine law_step (by decide) fun h => ?_
  have hL := LIM_is
  simp (disch := omega) only [cpy_ok, epochsFitO, pt_bind, eqq_self]
  simp
theorem laws_FnExactLinked.ok {x : TyTup [.v .World, .v .int]} (_ : bdTup [.v .World, .v .int] x) : laws_FnExactLinked.raw x.1 x.2 = some (always2 (α := G.World) (β := Int) x.1 x.2) := by
  obtain ⟨w, a⟩ := x
  show laws_FnExactLinked.raw (w : G.World) (a : Int) = some true
  generalize (show G.World from w) = w, (show Int from a) = a
  simp only [laws_FnExactLinked.raw]
  refine law_step (by decide) fun h => ?_
  have hL := LIM_is
  simp (disch := omega) only [cpy_ok, linkedO, pt_bind, eqq_self]
  simp
theorem laws_FnExactCanTurn.ok {x : TyTup [.v .World, .v .int]} (_ : bdTup [.v .World, .v .int] x) : laws_FnExactCanTurn.raw x.1 x.2 = some (always2 (α := G.World) (β := Int) x.1 x.2) := by
  obtain ⟨w, a⟩ := x
  show laws_FnExactCanTurn.raw (w : G.World) (a : Int) = some true
  generalize (show G.World from w) = w, (show Int from a) = a
  simp only [laws_FnExactCanTurn.raw]
  refine law_step (by decide) fun h => ?_
  have hL := LIM_is
  simp (disch := omega) only [cpy_ok, canTurnO, pt_bind, eqq_self]
  simp
theorem laws_FnExactPartyAt.ok {x : TyTup [.v .World, .v .Addr]} (_ : bdTup [.v .World, .v .Addr] x) : laws_FnExactPartyAt.raw x.1 x.2 = some (always2 (α := G.World) (β := G.Addr) x.1 x.2) := by
  obtain ⟨w, a⟩ := x
  show laws_FnExactPartyAt.raw (w : G.World) (a : G.Addr) = some true
  generalize (show G.World from w) = w, (show G.Addr from a) = a
  simp only [laws_FnExactPartyAt.raw]
  refine law_step (by decide) fun h => ?_
  have hL := LIM_is
  have ha := wt_Addr a
  simp (disch := omega) only [cpy_ok, partyAtO, pt_bind, eqq_self]
  simp

end Go.D
