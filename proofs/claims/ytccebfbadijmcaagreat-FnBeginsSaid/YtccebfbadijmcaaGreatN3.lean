/-
  Sizes of the program's data.
-/
import Derived.Test.YtccebfbadijmcaaGreatN2
namespace Go.D

instance : Wt G.Credit := ⟨fun x => wt x.A⟩
instance : Wt G.Frame := ⟨fun x => wt x.Cn + wt x.Sn + wt x.Cookie + wt x.Proof + wt x.Body + wt x.Tag⟩
theorem wt_Frame (x : G.Frame) : wt x = wt x.Cn + wt x.Sn + wt x.Cookie + wt x.Proof + wt x.Body + wt x.Tag := rfl
instance : Wt G.Timer := ⟨fun _ => 0⟩
instance : Wt G.Client := ⟨fun x => wt x.Psk + wt x.At + wt x.Cn + wt x.Fin + wt x.C + wt x.T + wt x.R⟩
theorem wt_Client (x : G.Client) : wt x = wt x.Psk + wt x.At + wt x.Cn + wt x.Fin + wt x.C + wt x.T + wt x.R := rfl
instance : Wt G.Jar := ⟨fun x => wt x.Secret⟩
theorem wt_Jar (x : G.Jar) : wt x = wt x.Secret := rfl
instance : Wt G.Dice := ⟨fun x => wt x.Seed⟩
theorem wt_Dice (x : G.Dice) : wt x = wt x.Seed := rfl
instance : Wt G.Cand := ⟨fun x => wt x.A + wt x.Draw⟩
theorem wt_Cand (x : G.Cand) : wt x = wt x.A + wt x.Draw := rfl
instance : Wt G.Paths := ⟨fun x => wt x.At + wt x.Cands⟩
theorem wt_Paths (x : G.Paths) : wt x = wt x.At + wt x.Cands := rfl
instance : Wt G.Sess := ⟨fun x => wt x.Cn + wt x.Sn + wt x.C + wt x.P⟩
theorem wt_Sess (x : G.Sess) : wt x = wt x.Cn + wt x.Sn + wt x.C + wt x.P := rfl
instance : Wt G.Tab := ⟨fun x => wt x.L⟩
theorem wt_Tab (x : G.Tab) : wt x = wt x.L := rfl
instance : Wt G.Server := ⟨fun x => wt x.Psks + wt x.J + wt x.D + wt x.T + wt x.Cr⟩
theorem wt_Server (x : G.Server) : wt x = wt x.Psks + wt x.J + wt x.D + wt x.T + wt x.Cr := rfl
instance : Wt G.Wire := ⟨fun x => wt x.From + wt x.To + wt x.B⟩
theorem wt_Wire (x : G.Wire) : wt x = wt x.From + wt x.To + wt x.B := rfl
instance : Wt G.World := ⟨fun x => wt x.Clients + wt x.S + wt x.D + wt x.Seen + wt x.Known + wt x.Notes⟩
theorem wt_World (x : G.World) : wt x = wt x.Clients + wt x.S + wt x.D + wt x.Seen + wt x.Known + wt x.Notes := rfl

end Go.D


/-
  Sessions, tables, servers, clients, worlds: what their predicates say.
-/
namespace Go.D

def near (i : Int) : G.Addr := if 0 ≤ i ∧ i ≤ 255 then ⟨167772160 + i, 7000 + i⟩ else ⟨0, 0⟩
def sameA (a b : G.Addr) : Bool := a.Host == b.Host && a.Port == b.Port
def isLen (n k : Int) : Bool := n == 0 || n == k
def emptyOr (b : List UInt8) (n : Int) : Bool := isLen (b.length : Int) n
def noteOk (n : G.Note) : Bool := inR n.Kind 1 17 && inR n.Id 0 9 && inR n.Role 0 1 && emptyOr n.Cn 12 && emptyOr n.Sn 12 && inR n.Epoch 0 4294967295 && inR n.Seq 0 281474976710655 && decide ((n.Body.length : Int) ≤ 100) && emptyOr n.Key 32 && addrOk n.A && inR n.Now 0 1000000
def jarOk (j : G.Jar) : Bool := (j.Secret.length : Int) == 32
def diceOk (d : G.Dice) : Bool := inR (d.Seed.length : Int) 1 32 && inR d.N 0 10000
def live (t : G.Tab) : Int := t.L.foldl (fun s e => bif e.Dead then s else iadd .i64 s 1) 0
noncomputable def liveO (t : G.Tab) : Option Int := pt (wt t ≤ LIM) (live t)
def noChan (c : G.Chan) : Bool := c.Role == 0 && (c.Sn.length : Int) == 0 && noEp c.Cur && noEp c.Old && !c.HasOld && c.Until == 0 && (c.Next.length : Int) == 0
noncomputable def noChanO (c : G.Chan) : Option Bool := pt (wt c ≤ LIM) (noChan c)
def candBad (p : G.Paths) (i : Nat) : Bool := (p.Cands[i]?).any fun e => !addrOk e.A || !isNonce e.Draw || !inR e.Until 0 1000006 || sameA e.A p.At || anyN i fun j => (p.Cands[j]?).any fun d => sameA d.A e.A
def pathsOk (p : G.Paths) : Bool := addrOk p.At && decide ((p.Cands.length : Int) ≤ 3) && !(anyN p.Cands.length (candBad p))
def sessOk (s : G.Sess) : Bool := inR s.Id 1 9 && isNonce s.Cn && isNonce s.Sn && inR s.Tick 0 1000000 && bif s.Dead then noChan s.C && sameA s.P.At ⟨0, 0⟩ && (s.P.Cands.length : Int) == 0 && s.Last == 0
  else chanOk s.C && s.C.Role == 1 && s.C.Sn == s.Sn && pathsOk s.P && inR s.Last 0 1000000
noncomputable def sessOkO (s : G.Sess) : Option Bool := pt (wt s ≤ LIM) (sessOk s)
def hasSn (t : G.Tab) (b : List UInt8) (i : Nat) : Bool := (t.L[i]?).any fun e => e.Sn == b
def findSn (t : G.Tab) (b : List UInt8) : Int := findI t.L.length (hasSn t b)
noncomputable def findSnO (t : G.Tab) (b : List UInt8) : Option Int := pt (wt t ≤ LIM ∧ wt b ≤ LIM) (findSn t b)
def sessBad (t : G.Tab) (i : Nat) : Bool := (t.L[i]?).any fun e => !sessOk e || anyN i (hasSn t e.Sn)
def tabOk (t : G.Tab) : Bool := inR t.Cap 1 6 && decide ((t.L.length : Int) ≤ 12) && decide (live t ≤ t.Cap) && !(anyN t.L.length (sessBad t))
noncomputable def tabOkO (t : G.Tab) : Option Bool := pt (wt t ≤ LIM) (tabOk t)
def hasA (l : List G.Credit) (a : G.Addr) (i : Nat) : Bool := (l[i]?).any fun c => sameA c.A a
def cAt (l : List G.Credit) (a : G.Addr) : Int := findI l.length (hasA l a)
def creditBad (l : List G.Credit) (i : Nat) : Bool := (l[i]?).any fun c => !addrOk c.A || !inR c.Got 0 1000000 || !inR c.Sent 0 (imul .i64 3 c.Got) || anyN i (hasA l c.A)
def creditsOk (l : List G.Credit) : Bool := decide ((l.length : Int) ≤ 8) && !(anyN l.length (creditBad l))
def pskOk (b : List UInt8) : Bool := inR (b.length : Int) 1 32
def serverOk (s : G.Server) : Bool := inR (s.Psks.length : Int) 1 9 && jarOk s.J && diceOk s.D && tabOk s.T && creditsOk s.Cr && !(s.Psks.any fun b => !pskOk b) && !(s.T.L.any fun e => decide (e.Id > (s.Psks.length : Int)))
noncomputable def serverOkO (s : G.Server) : Option Bool := pt (wt s ≤ LIM) (serverOk s)
def wireOk (w : G.Wire) : Bool := addrOk w.From && addrOk w.To && decide ((w.B.length : Int) ≤ 200)
def wiresOk (l : List G.Wire) : Bool := !(l.any fun w => !wireOk w) && decide ((l.length : Int) ≤ 90)
def sameFrame (f g : G.Frame) : Bool := f.Kind == g.Kind && f.Id == g.Id && f.Tick == g.Tick && f.Epoch == g.Epoch && f.Seq == g.Seq && f.Cn == g.Cn && f.Sn == g.Sn && f.Cookie == g.Cookie && f.Proof == g.Proof && f.Body == g.Body && f.Tag == g.Tag
noncomputable def sameFrameO (f g : G.Frame) : Option Bool := pt (wt f ≤ LIM ∧ wt g ≤ LIM) (sameFrame f g)
def noTimer (t : G.Timer) : Bool := t.On == false && t.Due == 0 && t.Wait == 0 && t.Tries == 0
def timerOk (t : G.Timer) : Bool := bif t.On then inR t.Due 0 1000008 && (t.Wait == 1 || t.Wait == 2 || t.Wait == 4 || t.Wait == 8) && inR t.Tries 1 5 else noTimer t
def noFrame (f : G.Frame) : Bool := f.Kind == 0 && f.Id == 0 && (f.Cn.length : Int) == 0 && (f.Sn.length : Int) == 0 && f.Tick == 0 && (f.Cookie.length : Int) == 0 && (f.Proof.length : Int) == 0 && f.Epoch == 0 && f.Seq == 0 && (f.Body.length : Int) == 0 && (f.Tag.length : Int) == 0
def isSealed (k : Int) : Bool := inR k 4 8
def bodyOk (k n : Int) : Bool := bif k == 4 then decide (n ≤ 40) else bif k == 5 || k == 6 then n == 12 else n == 4
def frameOk (f : G.Frame) : Bool :=
  bif isSealed f.Kind then f.Id == 0 && (f.Cn.length : Int) == 0 && (f.Sn.length : Int) == 12 && f.Tick == 0 && (f.Cookie.length : Int) == 0 && (f.Proof.length : Int) == 0 && inR f.Epoch 0 4294967295 && inR f.Seq 0 281474976710655 && bodyOk f.Kind (f.Body.length : Int) && (f.Tag.length : Int) == 16
  else f.Epoch == 0 && f.Seq == 0 && (f.Body.length : Int) == 0 && (f.Tag.length : Int) == 0 && (f.Cn.length : Int) == 12 &&
    bif f.Kind == 1 then inR f.Id 1 9 && (f.Sn.length : Int) == 0 && f.Tick == 0 && (f.Cookie.length : Int) == 0 && (f.Proof.length : Int) == 0
    else bif f.Kind == 2 then f.Id == 0 && (f.Sn.length : Int) == 12 && inR f.Tick 0 1000000 && (f.Cookie.length : Int) == 16 && (f.Proof.length : Int) == 0
    else f.Kind == 3 && inR f.Id 1 9 && (f.Sn.length : Int) == 12 && inR f.Tick 0 1000000 && (f.Cookie.length : Int) == 16 && (f.Proof.length : Int) == 16
noncomputable def frameOkO (f : G.Frame) : Option Bool := pt (wt f ≤ LIM) (frameOk f)
def finishOk (c : G.Client) : Bool := isNonce c.Cn && c.Fin.Kind == 3 && frameOk c.Fin && c.Fin.Id == c.Id && c.Fin.Cn == c.Cn && chanOk c.C && c.C.Role == 0 && c.C.Sn == c.Fin.Sn && c.C.Cur.N == 0 && !c.C.HasOld && (c.C.Next.length : Int) == 0
noncomputable def finishOkO (c : G.Client) : Option Bool := pt (wt c ≤ LIM) (finishOk c)
def clientOk (c : G.Client) : Bool := inR c.Id 1 9 && pskOk c.Psk && addrOk c.At &&
  bif c.St == 0 then (c.Cn.length : Int) == 0 && noFrame c.Fin && noChan c.C && noTimer c.T && noTimer c.R && c.Last == 0
  else bif c.St == 1 then isNonce c.Cn && noFrame c.Fin && noChan c.C && c.T.On && timerOk c.T && noTimer c.R && c.Last == 0
  else bif c.St == 2 then finishOk c && c.T.On && timerOk c.T && noTimer c.R && c.Last == 0
  else c.St == 3 && isNonce c.Cn && noFrame c.Fin && chanOk c.C && c.C.Role == 0 && noTimer c.T && timerOk c.R && c.R.On == decide ((c.C.Next.length : Int) > 0) && inR c.Last 0 1000000
noncomputable def clientOkO (c : G.Client) : Option Bool := pt (wt c ≤ LIM) (clientOk c)
def clientBad (w : G.World) (i : Nat) : Bool := (w.Clients[i]?).any fun c => (w.S.Psks[i]?).any fun p => !clientOk c || c.Id != ((i + 1 : Nat) : Int) || !(c.Psk == p)
def worldOk (w : G.World) : Bool := inR w.Now 0 1000000 && (w.Clients.length : Int) == 2 && serverOk w.S && (w.S.Psks.length : Int) == 2 && diceOk w.D && wiresOk w.Seen && decide ((w.Known.length : Int) ≤ 12) &&
  !(anyN 2 (clientBad w)) && !(w.Known.any fun b => (b.length : Int) != 32) && !(w.Notes.any fun n => !noteOk n)
noncomputable def worldOkO (w : G.World) : Option Bool := pt (wt w ≤ LIM) (worldOk w)
def sleeps (w : G.World) : Bool := worldOk w && !(w.Clients.any fun c => c.St != 0) && live w.S.T == 0
noncomputable def sleepsO (w : G.World) : Option Bool := pt (wt w ≤ LIM) (sleeps w)
def settled (w : G.World) : Bool := worldOk w && !(w.Clients.any fun c => c.St == 1 || c.St == 2)
noncomputable def settledO (w : G.World) : Option Bool := pt (wt w ≤ LIM) (settled w)

def ep00 : G.Ep := ⟨0, [], 0, ⟨0, []⟩⟩
def sess0 : G.Sess := ⟨0, [], [], ⟨0, [], ep00, ep00, false, 0, []⟩, ⟨⟨0, 0⟩, []⟩, 0, 0, false⟩
/-- The session of a client that is up, if it lives. -/
def alive (w : G.World) (c : G.Client) : Option G.Sess := bif c.St == 3 then (if 0 ≤ findSn w.S.T c.C.Sn then (w.S.T.L[(findSn w.S.T c.C.Sn).toNat]?).filter (fun s => !s.Dead) else none) else none
def sessionOf (w : G.World) (c : G.Client) : G.Client × G.Sess × Bool := match alive w c with
  | some s => (c, s, true)
  | none => (c, sess0, false)
noncomputable def sessionOfO (w : G.World) (id : Int) : Option (G.Client × G.Sess × Bool) := Option.bind (pt (wt w ≤ LIM ∧ 1 ≤ id ∧ id ≤ w.Clients.length) ()) fun _ => (w.Clients[(id - 1).toNat]?).map (sessionOf w)
def keysFit (c s : G.Chan) : Bool := bif c.Cur.N == s.Cur.N && c.Cur.Key == s.Cur.Key then decide (c.Cur.Win.Top < s.Cur.Seq) && decide (s.Cur.Win.Top < c.Cur.Seq)
  else s.Cur.N == iadd .i64 c.Cur.N 1 && c.Next == s.Cur.Key && s.HasOld && s.Until == -1 && s.Old.Key == c.Cur.Key && decide (s.Old.Win.Top < c.Cur.Seq) && decide (c.Cur.Win.Top < s.Old.Seq)
def epochsFit (w : G.World) (id : Int) : Bool := worldOk w && inR id 1 2 && (w.Clients[(id - 1).toNat]?).any fun c => (alive w c).all fun s => c.Cn == s.Cn && keysFit c.C s.C
noncomputable def epochsFitO (w : G.World) (id : Int) : Option Bool := pt (wt w ≤ LIM) (epochsFit w id)
end Go.D

/-
  What the functions compute, as the plain semantics says it.
-/
namespace Go.D

noncomputable def spec_l18Len.raw (a0 : Int) (a1 : Int) : Option Bool :=
  joinK (fun (y1 : Bool) =>
  some y1) fun k2 =>
  cond (a0 == 0)
  (k2 true)
  (k2 (a0 == a1))

noncomputable def spec_AddrOk.raw (a0 : G.Addr) : Option Bool :=
  joinK (fun (y1 : Bool) =>
  some y1) fun k2 =>
  cond ((inR a0.Host 0 4294967295))
  (k2 (inR a0.Port 0 65535))
  (k2 false)

noncomputable def spec_NoteOk.raw (a0 : G.Note) : Option Bool :=
  joinK (fun (y1 : Bool) =>
  some y1) fun k2 =>
  cond ((inR a0.Kind 1 17))
  (cond ((inR a0.Id 0 9))
  (cond ((inR a0.Role 0 1))
  (cond ((isLen (a0.Cn.length : Int) 12))
  (cond ((isLen (a0.Sn.length : Int) 12))
  (cond ((inR a0.Epoch 0 4294967295))
  (cond ((inR a0.Seq 0 281474976710655))
  (cond (decide ((a0.Body.length : Int) ≤ 100))
  (cond ((isLen (a0.Key.length : Int) 32))
  (cond ((addrOk a0.A))
  (k2 (inR a0.Now 0 1000000))
  (k2 false))
  (k2 false))
  (k2 false))
  (k2 false))
  (k2 false))
  (k2 false))
  (k2 false))
  (k2 false))
  (k2 false))
  (k2 false)

noncomputable def impl_emptyOr.raw (a0 : List UInt8) (a1 : Int) : Option Bool :=
  joinK (fun (y1 : Bool) =>
  some y1) fun k2 =>
  cond ((a0.length : Int) == 0)
  (k2 true)
  (k2 ((a0.length : Int) == a1))

noncomputable def impl_AddrOk.raw (a0 : G.Addr) : Option Bool :=
  joinK (fun (y1 : Bool) =>
  some y1) fun k2 =>
  cond ((inR a0.Host 0 4294967295))
  (k2 (inR a0.Port 0 65535))
  (k2 false)

noncomputable def impl_NoteOk.raw (a0 : G.Note) : Option Bool :=
  joinK (fun (y1 : Bool) =>
  some y1) fun k2 =>
  cond ((inR a0.Kind 1 17))
  (cond ((inR a0.Id 0 9))
  (cond ((inR a0.Role 0 1))
  (cond ((inR a0.Epoch 0 4294967295))
  (cond ((inR a0.Seq 0 281474976710655))
  (cond ((inR a0.Now 0 1000000))
  (cond ((emptyOr a0.Cn 12))
  (cond ((emptyOr a0.Sn 12))
  (cond (decide ((a0.Body.length : Int) ≤ 100))
  (cond ((emptyOr a0.Key 32))
  (k2 (addrOk a0.A))
  (k2 false))
  (k2 false))
  (k2 false))
  (k2 false))
  (k2 false))
  (k2 false))
  (k2 false))
  (k2 false))
  (k2 false))
  (k2 false)

noncomputable def spec_Near.raw (a0 : Int) : Option G.Addr :=
  cond (!(inR a0 0 255))
  (some (⟨0, 0⟩ : G.Addr))
  (some (⟨iadd .i64 167772160 a0, iadd .i64 7000 a0⟩ : G.Addr))

noncomputable def impl_Near.raw (a0 : Int) : Option G.Addr :=
  cond (!(inR a0 0 255))
  (some (⟨0, 0⟩ : G.Addr))
  (some (⟨iadd .i64 167772160 a0, iadd .i64 7000 a0⟩ : G.Addr))

noncomputable def impl_DiceOk.raw (a0 : G.Dice) : Option Bool :=
  joinK (fun (y1 : Bool) =>
  some y1) fun k2 =>
  let r3 : Bool := inR (a0.Seed.length : Int) 1 32
  cond (r3)
  (k2 (inR a0.N 0 10000))
  (k2 false)

noncomputable def impl_JarOk.raw (a0 : G.Jar) : Option Bool :=
  some ((a0.Secret.length : Int) == 32)

noncomputable def impl_Live.raw (a0 : G.Tab) : Option Int :=
  joinK (fun (y1 : Int) =>
  some y1) fun k2 =>
  loopK FU (fun (x3 : Int × Int) k4 =>
  cond (decide (x3.2 < (a0.L.length : Int)))
  (Option.bind (idxI a0.L x3.2) fun e5 =>
  joinK (fun (y6 : Int) =>
  k4 (y6, (iadd .i64 x3.2 1))) fun k7 =>
  cond (!e5.Dead)
  (k7 (iadd .i64 x3.1 1))
  (k7 x3.1))
  (k2 x3.1)) (0, 0)

noncomputable def impl_isZeroChan.raw (a0 : G.Chan) : Option Bool :=
  joinK (fun (y1 : Bool) =>
  some y1) fun k2 =>
  cond (a0.Role == 0)
  (cond ((a0.Sn.length : Int) == 0)
  (Option.bind (sameEpO a0.Cur (⟨0, [], 0, (⟨0, []⟩ : G.Win)⟩ : G.Ep)) fun r3 =>
  cond (r3)
  (Option.bind (sameEpO a0.Old (⟨0, [], 0, (⟨0, []⟩ : G.Win)⟩ : G.Ep)) fun r4 =>
  cond (r4)
  (cond (!a0.HasOld)
  (cond (a0.Until == 0)
  (k2 ((a0.Next.length : Int) == 0))
  (k2 false))
  (k2 false))
  (k2 false))
  (k2 false))
  (k2 false))
  (k2 false)

noncomputable def impl_PathsOk.raw (a0 : G.Paths) : Option Bool :=
  joinK (fun (y1 : Bool) =>
  cond (y1)
  (some false)
  (joinK (fun (y3 : Unit) =>
  some true) fun k4 =>
  loopK FU (fun (x5 : Int) k6 =>
  cond (decide (x5 < (a0.Cands.length : Int)))
  (Option.bind (idxI a0.Cands x5) fun e7 =>
  joinK (fun (y8 : Bool) =>
  cond (y8)
  (some false)
  (cond (decide (0 ≤ (0 : Int)) && decide ((0 : Int) ≤ x5) && decide (x5 ≤ (a0.Cands.length : Int))) (let l11 : List G.Cand := List.take ((x5 - 0).toNat) (List.drop 0 a0.Cands)
  joinK (fun (y12 : Unit) =>
  k6 (iadd .i64 x5 1)) fun k13 =>
  loopK FU (fun (x14 : Int) k15 =>
  cond (decide (x14 < (l11.length : Int)))
  (Option.bind (idxI l11 x14) fun e16 =>
  let x17 : Bool := cond (e16.A.Host == e7.A.Host) (cond (e16.A.Port == e7.A.Port) (true) false) false
  cond (x17)
  (some false)
  (k15 (iadd .i64 x14 1)))
  (k13 ())) 0) none)) fun k9 =>
  cond (!(addrOk e7.A))
  (k9 true)
  (let x10 : Bool := cond (e7.A.Host == a0.At.Host) (cond (e7.A.Port == a0.At.Port) (true) false) false
  cond (x10)
  (k9 true)
  (cond (!(isNonce e7.Draw))
  (k9 true)
  (k9 (!(inR e7.Until 0 1000006))))))
  (k4 ())) 0)) fun k2 =>
  cond (!(addrOk a0.At))
  (k2 true)
  (k2 (decide ((a0.Cands.length : Int) > 3)))

noncomputable def impl_SessOk.raw (a0 : G.Sess) : Option Bool :=
  joinK (fun (y1 : Bool) =>
  cond (y1)
  (some false)
  (cond (a0.Dead)
  (joinK (fun (y3 : Bool) =>
  some y3) fun k4 =>
  Option.bind (noChanO a0.C) fun r5 =>
  cond (r5)
  (let x6 : Bool := cond (a0.P.At.Host == 0) (cond (a0.P.At.Port == 0) (true) false) false
  cond (x6)
  (cond ((a0.P.Cands.length : Int) == 0)
  (k4 (a0.Last == 0))
  (k4 false))
  (k4 false))
  (k4 false))
  (joinK (fun (y7 : Bool) =>
  some y7) fun k8 =>
  Option.bind (chanOkO a0.C) fun r9 =>
  cond (r9)
  (cond (a0.C.Role == 1)
  (Option.bind (sameO a0.C.Sn a0.Sn) fun r10 =>
  cond (r10)
  (cond ((pathsOk a0.P))
  (k8 (inR a0.Last 0 1000000))
  (k8 false))
  (k8 false))
  (k8 false))
  (k8 false)))) fun k2 =>
  cond (!(inR a0.Id 1 9))
  (k2 true)
  (cond (!(isNonce a0.Cn))
  (k2 true)
  (cond (!(isNonce a0.Sn))
  (k2 true)
  (k2 (!(inR a0.Tick 0 1000000)))))

noncomputable def impl_FindSn.raw (a0 : G.Tab) (a1 : List UInt8) : Option Int :=
  joinK (fun (y1 : Unit) =>
  some (-1)) fun k2 =>
  loopK FU (fun (x3 : Int) k4 =>
  cond (decide (x3 < (a0.L.length : Int)))
  (Option.bind (idxI a0.L x3) fun e5 =>
  Option.bind (sameO e5.Sn a1) fun r6 =>
  cond (r6)
  (some x3)
  (k4 (iadd .i64 x3 1)))
  (k2 ())) 0

noncomputable def impl_TabOk.raw (a0 : G.Tab) : Option Bool :=
  joinK (fun (y1 : Bool) =>
  cond (y1)
  (some false)
  (joinK (fun (y4 : Unit) =>
  some true) fun k5 =>
  loopK FU (fun (x6 : Int) k7 =>
  cond (decide (x6 < (a0.L.length : Int)))
  (Option.bind (idxI a0.L x6) fun e8 =>
  joinK (fun (y9 : Bool) =>
  cond (y9)
  (some false)
  (k7 (iadd .i64 x6 1))) fun k10 =>
  Option.bind (sessOkO e8) fun r11 =>
  cond (!r11)
  (k10 true)
  (Option.bind (findSnO a0 e8.Sn) fun r12 =>
  k10 (decide (r12 < x6))))
  (k5 ())) 0)) fun k2 =>
  cond (!(inR a0.Cap 1 6))
  (k2 true)
  (cond (decide ((a0.L.length : Int) > 12))
  (k2 true)
  (Option.bind (liveO a0) fun r3 =>
  k2 (decide (r3 > a0.Cap))))

noncomputable def impl_creditAt.raw (a0 : List G.Credit) (a1 : G.Addr) : Option Int :=
  joinK (fun (y1 : Unit) =>
  some (-1)) fun k2 =>
  loopK FU (fun (x3 : Int) k4 =>
  cond (decide (x3 < (a0.length : Int)))
  (Option.bind (idxI a0 x3) fun e5 =>
  let x6 : Bool := cond (e5.A.Host == a1.Host) (cond (e5.A.Port == a1.Port) (true) false) false
  cond (x6)
  (some x3)
  (k4 (iadd .i64 x3 1)))
  (k2 ())) 0

noncomputable def impl_CreditsOk.raw (a0 : List G.Credit) : Option Bool :=
  cond (decide ((a0.length : Int) > 8))
  (some false)
  (joinK (fun (y1 : Unit) =>
  some true) fun k2 =>
  loopK FU (fun (x3 : Int) k4 =>
  cond (decide (x3 < (a0.length : Int)))
  (Option.bind (idxI a0 x3) fun e5 =>
  joinK (fun (y6 : Bool) =>
  cond (y6)
  (some false)
  (k4 (iadd .i64 x3 1))) fun k7 =>
  cond (!(addrOk e5.A))
  (k7 true)
  (cond (!(inR e5.Got 0 1000000))
  (k7 true)
  (let r8 : Bool := inR e5.Sent 0 (imul .i64 3 e5.Got)
  cond (!r8)
  (k7 true)
  (k7 (decide ((cAt a0 e5.A) < x3))))))
  (k2 ())) 0)

noncomputable def impl_PskOk.raw (a0 : List UInt8) : Option Bool :=
  some (inR (a0.length : Int) 1 32)

noncomputable def impl_ServerOk.raw (a0 : G.Server) : Option Bool :=
  joinK (fun (y1 : Bool) =>
  cond (y1)
  (some false)
  (joinK (fun (y4 : Unit) =>
  joinK (fun (y9 : Unit) =>
  some true) fun k10 =>
  loopK FU (fun (x11 : Int) k12 =>
  cond (decide (x11 < (a0.T.L.length : Int)))
  (Option.bind (idxI a0.T.L x11) fun e13 =>
  cond (decide (e13.Id > (a0.Psks.length : Int)))
  (some false)
  (k12 (iadd .i64 x11 1)))
  (k10 ())) 0) fun k5 =>
  loopK FU (fun (x6 : Int) k7 =>
  cond (decide (x6 < (a0.Psks.length : Int)))
  (Option.bind (idxI a0.Psks x6) fun e8 =>
  cond (!(pskOk e8))
  (some false)
  (k7 (iadd .i64 x6 1)))
  (k5 ())) 0)) fun k2 =>
  cond (!(inR (a0.Psks.length : Int) 1 9))
  (k2 true)
  (cond (!(jarOk a0.J))
  (k2 true)
  (cond (!(diceOk a0.D))
  (k2 true)
  (Option.bind (tabOkO a0.T) fun r3 =>
  cond (!r3)
  (k2 true)
  (k2 (!(creditsOk a0.Cr))))))

noncomputable def impl_sameFrame.raw (a0 : G.Frame) (a1 : G.Frame) : Option Bool :=
  joinK (fun (y1 : Bool) =>
  some y1) fun k2 =>
  cond (a0.Kind == a1.Kind)
  (cond (a0.Id == a1.Id)
  (cond (a0.Tick == a1.Tick)
  (cond (a0.Epoch == a1.Epoch)
  (cond (a0.Seq == a1.Seq)
  (Option.bind (sameO a0.Cn a1.Cn) fun r3 =>
  cond (r3)
  (Option.bind (sameO a0.Sn a1.Sn) fun r4 =>
  cond (r4)
  (Option.bind (sameO a0.Cookie a1.Cookie) fun r5 =>
  cond (r5)
  (Option.bind (sameO a0.Proof a1.Proof) fun r6 =>
  cond (r6)
  (Option.bind (sameO a0.Body a1.Body) fun r7 =>
  cond (r7)
  (Option.bind (sameO a0.Tag a1.Tag) fun r8 =>
  k2 r8)
  (k2 false))
  (k2 false))
  (k2 false))
  (k2 false))
  (k2 false))
  (k2 false))
  (k2 false))
  (k2 false))
  (k2 false))
  (k2 false)

noncomputable def impl_TimerOk.raw (a0 : G.Timer) : Option Bool :=
  cond (!a0.On)
  (let x1 : Bool := cond (a0.On == false) (cond (a0.Due == 0) (cond (a0.Wait == 0) (cond (a0.Tries == 0) (true) false) false) false) false
  some x1)
  (joinK (fun (y2 : Bool) =>
  joinK (fun (y4 : Bool) =>
  some y4) fun k5 =>
  cond ((inR a0.Due 0 1000008))
  (cond (y2)
  (k5 (inR a0.Tries 1 5))
  (k5 false))
  (k5 false)) fun k3 =>
  cond (a0.Wait == 1)
  (k3 true)
  (cond (a0.Wait == 2)
  (k3 true)
  (cond (a0.Wait == 4)
  (k3 true)
  (k3 (a0.Wait == 8)))))

noncomputable def impl_Sealed.raw (a0 : Int) : Option Bool :=
  some (inR a0 4 8)

noncomputable def impl_bodyOk.raw (a0 : Int) (a1 : Int) : Option Bool :=
  cond (a0 == 4)
  (some (decide (a1 ≤ 40)))
  (joinK (fun (y1 : Bool) =>
  cond (y1)
  (some (a1 == 12))
  (some (a1 == 4))) fun k2 =>
  cond (a0 == 5)
  (k2 (a0 == 5))
  (k2 (a0 == 6)))

noncomputable def impl_FrameOk.raw (a0 : G.Frame) : Option Bool :=
  joinK (fun (y1 : Bool × G.Frame) =>
  joinK (fun (y18 : Bool) =>
  some y18) fun k19 =>
  cond (y1.1)
  (Option.bind (sameFrameO a0 y1.2) fun r20 =>
  k19 r20)
  (k19 false)) fun k2 =>
  cond (a0.Kind == 1)
  (joinK (fun (y3 : Bool) =>
  k2 (y3, (⟨a0.Kind, a0.Id, a0.Cn, [], 0, [], [], 0, 0, [], []⟩ : G.Frame))) fun k4 =>
  cond ((inR a0.Id 1 9))
  (k4 (isNonce a0.Cn))
  (k4 false))
  (joinK (fun (y5 : Bool × G.Frame) =>
  k2 (y5.1, y5.2)) fun k6 =>
  cond (a0.Kind == 2)
  (joinK (fun (y7 : Bool) =>
  k6 (y7, (⟨a0.Kind, 0, a0.Cn, a0.Sn, a0.Tick, a0.Cookie, [], 0, 0, [], []⟩ : G.Frame))) fun k8 =>
  cond ((isNonce a0.Cn))
  (cond ((isNonce a0.Sn))
  (cond ((inR a0.Tick 0 1000000))
  (k8 ((a0.Cookie.length : Int) == 16))
  (k8 false))
  (k8 false))
  (k8 false))
  (joinK (fun (y9 : Bool × G.Frame) =>
  k6 (y9.1, y9.2)) fun k10 =>
  cond (a0.Kind == 3)
  (joinK (fun (y11 : Bool) =>
  k10 (y11, (⟨a0.Kind, a0.Id, a0.Cn, a0.Sn, a0.Tick, a0.Cookie, a0.Proof, 0, 0, [], []⟩ : G.Frame))) fun k12 =>
  cond ((inR a0.Id 1 9))
  (cond ((isNonce a0.Cn))
  (cond ((isNonce a0.Sn))
  (cond ((inR a0.Tick 0 1000000))
  (cond ((a0.Cookie.length : Int) == 16)
  (k12 ((a0.Proof.length : Int) == 16))
  (k12 false))
  (k12 false))
  (k12 false))
  (k12 false))
  (k12 false))
  (joinK (fun (y13 : Bool × G.Frame) =>
  k10 (y13.1, y13.2)) fun k14 =>
  cond ((isSealed a0.Kind))
  (joinK (fun (y15 : Bool) =>
  k14 (y15, (⟨a0.Kind, 0, [], a0.Sn, 0, [], [], a0.Epoch, a0.Seq, a0.Body, a0.Tag⟩ : G.Frame))) fun k16 =>
  cond ((isNonce a0.Sn))
  (cond ((inR a0.Epoch 0 4294967295))
  (cond ((inR a0.Seq 0 281474976710655))
  (cond ((a0.Tag.length : Int) == 16)
  (let r17 : Bool := bodyOk a0.Kind (a0.Body.length : Int)
  k16 r17)
  (k16 false))
  (k16 false))
  (k16 false))
  (k16 false))
  (k14 (false, (⟨a0.Kind, 0, [], [], 0, [], [], 0, 0, [], []⟩ : G.Frame))))))

noncomputable def impl_finishOk.raw (a0 : G.Client) : Option Bool :=
  joinK (fun (y1 : Bool) =>
  cond (y1)
  (some false)
  (joinK (fun (y5 : Bool) =>
  some y5) fun k6 =>
  Option.bind (chanOkO a0.C) fun r7 =>
  cond (r7)
  (cond (a0.C.Role == 0)
  (Option.bind (sameO a0.C.Sn a0.Fin.Sn) fun r8 =>
  cond (r8)
  (cond (a0.C.Cur.N == 0)
  (cond (!a0.C.HasOld)
  (k6 ((a0.C.Next.length : Int) == 0))
  (k6 false))
  (k6 false))
  (k6 false))
  (k6 false))
  (k6 false))) fun k2 =>
  cond (!(isNonce a0.Cn))
  (k2 true)
  (cond (a0.Fin.Kind != 3)
  (k2 true)
  (Option.bind (frameOkO a0.Fin) fun r3 =>
  cond (!r3)
  (k2 true)
  (cond (a0.Fin.Id != a0.Id)
  (k2 true)
  (Option.bind (sameO a0.Fin.Cn a0.Cn) fun r4 =>
  k2 (!r4)))))

noncomputable def impl_ClientOk.raw (a0 : G.Client) : Option Bool :=
  joinK (fun (y1 : Bool) =>
  cond (y1)
  (some false)
  (Option.bind (sameFrameO a0.Fin (⟨0, 0, [], [], 0, [], [], 0, 0, [], []⟩ : G.Frame)) fun r3 =>
  let x4 : Bool := cond (a0.T.On == false) (cond (a0.T.Due == 0) (cond (a0.T.Wait == 0) (cond (a0.T.Tries == 0) (true) false) false) false) false
  cond (a0.St == 0)
  (joinK (fun (y5 : Bool) =>
  some y5) fun k6 =>
  cond ((a0.Cn.length : Int) == 0)
  (cond (r3)
  (Option.bind (noChanO a0.C) fun r7 =>
  cond (r7)
  (cond (x4)
  (let x8 : Bool := cond (a0.R.On == false) (cond (a0.R.Due == 0) (cond (a0.R.Wait == 0) (cond (a0.R.Tries == 0) (true) false) false) false) false
  cond (x8)
  (k6 (a0.Last == 0))
  (k6 false))
  (k6 false))
  (k6 false))
  (k6 false))
  (k6 false))
  (cond (a0.St == 1)
  (joinK (fun (y9 : Bool) =>
  some y9) fun k10 =>
  cond ((isNonce a0.Cn))
  (cond (r3)
  (Option.bind (noChanO a0.C) fun r11 =>
  cond (r11)
  (cond (a0.T.On)
  (cond ((timerOk a0.T))
  (let x12 : Bool := cond (a0.R.On == false) (cond (a0.R.Due == 0) (cond (a0.R.Wait == 0) (cond (a0.R.Tries == 0) (true) false) false) false) false
  cond (x12)
  (k10 (a0.Last == 0))
  (k10 false))
  (k10 false))
  (k10 false))
  (k10 false))
  (k10 false))
  (k10 false))
  (cond (a0.St == 2)
  (joinK (fun (y13 : Bool) =>
  some y13) fun k14 =>
  Option.bind (finishOkO a0) fun r15 =>
  cond (r15)
  (cond (a0.T.On)
  (cond ((timerOk a0.T))
  (let x16 : Bool := cond (a0.R.On == false) (cond (a0.R.Due == 0) (cond (a0.R.Wait == 0) (cond (a0.R.Tries == 0) (true) false) false) false) false
  cond (x16)
  (k14 (a0.Last == 0))
  (k14 false))
  (k14 false))
  (k14 false))
  (k14 false))
  (cond (a0.St == 3)
  (joinK (fun (y17 : Bool) =>
  some y17) fun k18 =>
  cond ((isNonce a0.Cn))
  (cond (r3)
  (Option.bind (chanOkO a0.C) fun r19 =>
  cond (r19)
  (cond (a0.C.Role == 0)
  (cond (x4)
  (cond ((timerOk a0.R))
  (cond (a0.R.On == (decide ((a0.C.Next.length : Int) > 0)))
  (k18 (inR a0.Last 0 1000000))
  (k18 false))
  (k18 false))
  (k18 false))
  (k18 false))
  (k18 false))
  (k18 false))
  (k18 false))
  (some false)))))) fun k2 =>
  cond (!(inR a0.Id 1 9))
  (k2 true)
  (cond (!(pskOk a0.Psk))
  (k2 true)
  (k2 (!(addrOk a0.At))))

noncomputable def spec_DiceOk.raw (a0 : G.Dice) : Option Bool :=
  joinK (fun (y1 : Bool) =>
  some y1) fun k2 =>
  let r3 : Bool := inR (a0.Seed.length : Int) 1 32
  cond (r3)
  (k2 (inR a0.N 0 10000))
  (k2 false)

noncomputable def spec_JarOk.raw (a0 : G.Jar) : Option Bool :=
  some ((a0.Secret.length : Int) == 32)

noncomputable def spec_Live.raw (a0 : G.Tab) : Option Int :=
  joinK (fun (y1 : Int) =>
  some y1) fun k2 =>
  loopK FU (fun (x3 : Int × Int) k4 =>
  cond (decide (x3.2 < (a0.L.length : Int)))
  (Option.bind (idxI a0.L x3.2) fun e5 =>
  joinK (fun (y6 : Int) =>
  k4 (y6, (iadd .i64 x3.2 1))) fun k7 =>
  cond (!e5.Dead)
  (k7 (iadd .i64 x3.1 1))
  (k7 x3.1))
  (k2 x3.1)) (0, 0)

noncomputable def spec_l19NoChan.raw (a0 : G.Chan) : Option Bool :=
  joinK (fun (y1 : Bool) =>
  some y1) fun k2 =>
  cond (a0.Role == 0)
  (cond ((a0.Sn.length : Int) == 0)
  (cond ((noEp a0.Cur))
  (cond ((noEp a0.Old))
  (cond (!a0.HasOld)
  (cond (a0.Until == 0)
  (k2 ((a0.Next.length : Int) == 0))
  (k2 false))
  (k2 false))
  (k2 false))
  (k2 false))
  (k2 false))
  (k2 false)

noncomputable def spec_PathsOk.raw (a0 : G.Paths) : Option Bool :=
  joinK (fun (y1 : Bool) =>
  cond (y1)
  (some false)
  (joinK (fun (y3 : Unit) =>
  some true) fun k4 =>
  loopK FU (fun (x5 : Int) k6 =>
  cond (decide (x5 < (a0.Cands.length : Int)))
  (Option.bind (idxI a0.Cands x5) fun e7 =>
  joinK (fun (y8 : Bool) =>
  cond (y8)
  (some false)
  (joinK (fun (y11 : Unit) =>
  k6 (iadd .i64 x5 1)) fun k12 =>
  loopK FU (fun (x13 : Int) k14 =>
  cond (decide (x13 < x5))
  (Option.bind (idxI a0.Cands x13) fun e15 =>
  let x16 : Bool := cond (e15.A.Host == e7.A.Host) (cond (e15.A.Port == e7.A.Port) (true) false) false
  cond (x16)
  (some false)
  (k14 (iadd .i64 x13 1)))
  (k12 ())) 0)) fun k9 =>
  cond (!(addrOk e7.A))
  (k9 true)
  (cond ((e7.Draw.length : Int) != 12)
  (k9 true)
  (cond (!(inR e7.Until 0 1000006))
  (k9 true)
  (let x10 : Bool := cond (e7.A.Host == a0.At.Host) (cond (e7.A.Port == a0.At.Port) (true) false) false
  k9 x10))))
  (k4 ())) 0)) fun k2 =>
  cond (!(addrOk a0.At))
  (k2 true)
  (k2 (decide ((a0.Cands.length : Int) > 3)))

noncomputable def spec_SessOk.raw (a0 : G.Sess) : Option Bool :=
  joinK (fun (y1 : Bool) =>
  cond (y1)
  (some false)
  (cond (a0.Dead)
  (joinK (fun (y3 : Bool) =>
  some y3) fun k4 =>
  cond ((noChan a0.C))
  (let r5 : G.Addr := near (-1)
  let x6 : Bool := cond (a0.P.At.Host == r5.Host) (cond (a0.P.At.Port == r5.Port) (true) false) false
  cond (x6)
  (cond ((a0.P.Cands.length : Int) == 0)
  (k4 (a0.Last == 0))
  (k4 false))
  (k4 false))
  (k4 false))
  (joinK (fun (y7 : Bool) =>
  some y7) fun k8 =>
  Option.bind (chanOkO a0.C) fun r9 =>
  cond (r9)
  (cond (a0.C.Role == 1)
  (Option.bind (sameO a0.C.Sn a0.Sn) fun r10 =>
  cond (r10)
  (k8 (pathsOk a0.P))
  (k8 false))
  (k8 false))
  (k8 false)))) fun k2 =>
  cond (!(inR a0.Id 1 9))
  (k2 true)
  (cond ((a0.Cn.length : Int) != 12)
  (k2 true)
  (cond ((a0.Sn.length : Int) != 12)
  (k2 true)
  (cond (!(inR a0.Tick 0 1000000))
  (k2 true)
  (k2 (!(inR a0.Last 0 1000000))))))

noncomputable def spec_FindSn.raw (a0 : G.Tab) (a1 : List UInt8) : Option Int :=
  joinK (fun (y1 : Unit) =>
  some (-1)) fun k2 =>
  loopK FU (fun (x3 : Int) k4 =>
  cond (decide (x3 < (a0.L.length : Int)))
  (Option.bind (idxI a0.L x3) fun e5 =>
  Option.bind (sameO e5.Sn a1) fun r6 =>
  cond (r6)
  (some x3)
  (k4 (iadd .i64 x3 1)))
  (k2 ())) 0

noncomputable def spec_TabOk.raw (a0 : G.Tab) : Option Bool :=
  joinK (fun (y1 : Bool) =>
  cond (y1)
  (some false)
  (joinK (fun (y4 : Unit) =>
  some true) fun k5 =>
  loopK FU (fun (x6 : Int) k7 =>
  cond (decide (x6 < (a0.L.length : Int)))
  (joinK (fun (y8 : Bool) =>
  cond (y8)
  (some false)
  (k7 (iadd .i64 x6 1))) fun k9 =>
  Option.bind (idxI a0.L x6) fun e10 =>
  Option.bind (sessOkO e10) fun r11 =>
  cond (!r11)
  (k9 true)
  (Option.bind (idxI a0.L x6) fun e12 =>
  Option.bind (findSnO a0 e12.Sn) fun r13 =>
  k9 (r13 != x6)))
  (k5 ())) 0)) fun k2 =>
  cond (!(inR a0.Cap 1 6))
  (k2 true)
  (cond (decide ((a0.L.length : Int) > 12))
  (k2 true)
  (Option.bind (liveO a0) fun r3 =>
  k2 (decide (r3 > a0.Cap))))

noncomputable def spec_CreditsOk.raw (a0 : List G.Credit) : Option Bool :=
  cond (decide ((a0.length : Int) > 8))
  (some false)
  (joinK (fun (y1 : Unit) =>
  some true) fun k2 =>
  loopK FU (fun (x3 : Int) k4 =>
  cond (decide (x3 < (a0.length : Int)))
  (joinK (fun (y5 : Bool) =>
  cond (y5)
  (some false)
  (joinK (fun (y12 : Unit) =>
  k4 (iadd .i64 x3 1)) fun k13 =>
  loopK FU (fun (x14 : Int) k15 =>
  cond (decide (x14 < x3))
  (Option.bind (idxI a0 x14) fun e16 =>
  Option.bind (idxI a0 x3) fun e17 =>
  let x18 : Bool := cond (e16.A.Host == e17.A.Host) (cond (e16.A.Port == e17.A.Port) (true) false) false
  cond (x18)
  (some false)
  (k15 (iadd .i64 x14 1)))
  (k13 ())) 0)) fun k6 =>
  Option.bind (idxI a0 x3) fun e7 =>
  cond (!(addrOk e7.A))
  (k6 true)
  (Option.bind (idxI a0 x3) fun e8 =>
  cond (!(inR e8.Got 0 1000000))
  (k6 true)
  (Option.bind (idxI a0 x3) fun e9 =>
  Option.bind (idxI a0 x3) fun e10 =>
  let r11 : Bool := inR e9.Sent 0 (imul .i64 3 e10.Got)
  k6 (!r11))))
  (k2 ())) 0)

noncomputable def spec_PskOk.raw (a0 : List UInt8) : Option Bool :=
  some (inR (a0.length : Int) 1 32)

noncomputable def spec_ServerOk.raw (a0 : G.Server) : Option Bool :=
  joinK (fun (y1 : Bool) =>
  cond (y1)
  (some false)
  (joinK (fun (y4 : Unit) =>
  joinK (fun (y9 : Unit) =>
  some true) fun k10 =>
  loopK FU (fun (x11 : Int) k12 =>
  cond (decide (x11 < (a0.T.L.length : Int)))
  (Option.bind (idxI a0.T.L x11) fun e13 =>
  cond (decide (e13.Id > (a0.Psks.length : Int)))
  (some false)
  (k12 (iadd .i64 x11 1)))
  (k10 ())) 0) fun k5 =>
  loopK FU (fun (x6 : Int) k7 =>
  cond (decide (x6 < (a0.Psks.length : Int)))
  (Option.bind (idxI a0.Psks x6) fun e8 =>
  cond (!(pskOk e8))
  (some false)
  (k7 (iadd .i64 x6 1)))
  (k5 ())) 0)) fun k2 =>
  cond (!(inR (a0.Psks.length : Int) 1 9))
  (k2 true)
  (cond (!(jarOk a0.J))
  (k2 true)
  (cond (!(diceOk a0.D))
  (k2 true)
  (Option.bind (tabOkO a0.T) fun r3 =>
  cond (!r3)
  (k2 true)
  (k2 (!(creditsOk a0.Cr))))))

noncomputable def spec_WireOk.raw (a0 : G.Wire) : Option Bool :=
  joinK (fun (y1 : Bool) =>
  some y1) fun k2 =>
  cond ((addrOk a0.From))
  (cond ((addrOk a0.To))
  (k2 (decide ((a0.B.length : Int) ≤ 200)))
  (k2 false))
  (k2 false)

noncomputable def spec_WiresOk.raw (a0 : List G.Wire) : Option Bool :=
  joinK (fun (y1 : Unit) =>
  some (decide ((a0.length : Int) ≤ 90))) fun k2 =>
  loopK FU (fun (x3 : Int) k4 =>
  cond (decide (x3 < (a0.length : Int)))
  (Option.bind (idxI a0 x3) fun e5 =>
  cond (!(wireOk e5))
  (some false)
  (k4 (iadd .i64 x3 1)))
  (k2 ())) 0

noncomputable def spec_TimerOk.raw (a0 : G.Timer) : Option Bool :=
  cond (!a0.On)
  (let x1 : Bool := cond (a0.On == false) (cond (a0.Due == 0) (cond (a0.Wait == 0) (cond (a0.Tries == 0) (true) false) false) false) false
  some x1)
  (joinK (fun (y2 : Bool) =>
  some y2) fun k3 =>
  cond ((inR a0.Due 0 1000008))
  (cond (a0.Wait == 1)
  (k3 (inR a0.Tries 1 5))
  (cond (a0.Wait == 2)
  (k3 (inR a0.Tries 1 5))
  (cond (a0.Wait == 4)
  (k3 (inR a0.Tries 1 5))
  (cond (a0.Wait == 8)
  (k3 (inR a0.Tries 1 5))
  (k3 false)))))
  (k3 false))

noncomputable def spec_l19NoFrame.raw (a0 : G.Frame) : Option Bool :=
  joinK (fun (y1 : Bool) =>
  some y1) fun k2 =>
  cond (a0.Kind == 0)
  (cond (a0.Id == 0)
  (cond ((a0.Cn.length : Int) == 0)
  (cond ((a0.Sn.length : Int) == 0)
  (cond (a0.Tick == 0)
  (cond ((a0.Cookie.length : Int) == 0)
  (cond ((a0.Proof.length : Int) == 0)
  (cond (a0.Epoch == 0)
  (cond (a0.Seq == 0)
  (cond ((a0.Body.length : Int) == 0)
  (k2 ((a0.Tag.length : Int) == 0))
  (k2 false))
  (k2 false))
  (k2 false))
  (k2 false))
  (k2 false))
  (k2 false))
  (k2 false))
  (k2 false))
  (k2 false))
  (k2 false)

noncomputable def spec_Sealed.raw (a0 : Int) : Option Bool :=
  some (inR a0 4 8)

noncomputable def spec_l7Body.raw (a0 : Int) (a1 : Int) : Option Bool :=
  cond (a0 == 4)
  (some (decide (a1 ≤ 40)))
  (joinK (fun (y1 : Bool) =>
  cond (y1)
  (some (a1 == 12))
  (some (a1 == 4))) fun k2 =>
  cond (a0 == 5)
  (k2 true)
  (k2 (a0 == 6)))

noncomputable def spec_FrameOk.raw (a0 : G.Frame) : Option Bool :=
  cond ((isSealed a0.Kind))
  (joinK (fun (y1 : Bool) =>
  some y1) fun k2 =>
  cond (a0.Id == 0)
  (cond ((a0.Cn.length : Int) == 0)
  (cond ((a0.Sn.length : Int) == 12)
  (cond (a0.Tick == 0)
  (cond ((a0.Cookie.length : Int) == 0)
  (cond ((a0.Proof.length : Int) == 0)
  (cond ((inR a0.Epoch 0 4294967295))
  (cond ((inR a0.Seq 0 281474976710655))
  (let r3 : Bool := bodyOk a0.Kind (a0.Body.length : Int)
  cond (r3)
  (k2 ((a0.Tag.length : Int) == 16))
  (k2 false))
  (k2 false))
  (k2 false))
  (k2 false))
  (k2 false))
  (k2 false))
  (k2 false))
  (k2 false))
  (k2 false))
  (joinK (fun (y4 : Bool) =>
  cond (y4)
  (some false)
  (cond (a0.Kind == 1)
  (joinK (fun (y6 : Bool) =>
  some y6) fun k7 =>
  cond ((inR a0.Id 1 9))
  (cond ((a0.Sn.length : Int) == 0)
  (cond (a0.Tick == 0)
  (cond ((a0.Cookie.length : Int) == 0)
  (k7 ((a0.Proof.length : Int) == 0))
  (k7 false))
  (k7 false))
  (k7 false))
  (k7 false))
  (cond (a0.Kind == 2)
  (joinK (fun (y8 : Bool) =>
  some y8) fun k9 =>
  cond (a0.Id == 0)
  (cond ((a0.Sn.length : Int) == 12)
  (cond ((inR a0.Tick 0 1000000))
  (cond ((a0.Cookie.length : Int) == 16)
  (k9 ((a0.Proof.length : Int) == 0))
  (k9 false))
  (k9 false))
  (k9 false))
  (k9 false))
  (cond (a0.Kind == 3)
  (joinK (fun (y10 : Bool) =>
  some y10) fun k11 =>
  cond ((inR a0.Id 1 9))
  (cond ((a0.Sn.length : Int) == 12)
  (cond ((inR a0.Tick 0 1000000))
  (cond ((a0.Cookie.length : Int) == 16)
  (k11 ((a0.Proof.length : Int) == 16))
  (k11 false))
  (k11 false))
  (k11 false))
  (k11 false))
  (some false))))) fun k5 =>
  cond (a0.Epoch != 0)
  (k5 true)
  (cond (a0.Seq != 0)
  (k5 true)
  (cond ((a0.Body.length : Int) != 0)
  (k5 true)
  (cond ((a0.Tag.length : Int) != 0)
  (k5 true)
  (k5 ((a0.Cn.length : Int) != 12))))))

noncomputable def spec_ClientOk.raw (a0 : G.Client) : Option Bool :=
  joinK (fun (y1 : Bool) =>
  cond (y1)
  (some false)
  (cond (a0.St == 0)
  (joinK (fun (y3 : Bool) =>
  some y3) fun k4 =>
  cond ((a0.Cn.length : Int) == 0)
  (cond ((noFrame a0.Fin))
  (cond ((noChan a0.C))
  (cond (!a0.T.On)
  (cond (!a0.R.On)
  (k4 (a0.Last == 0))
  (k4 false))
  (k4 false))
  (k4 false))
  (k4 false))
  (k4 false))
  (cond ((a0.Cn.length : Int) != 12)
  (some false)
  (cond (a0.St == 3)
  (joinK (fun (y5 : Bool) =>
  some y5) fun k6 =>
  cond ((noFrame a0.Fin))
  (Option.bind (chanOkO a0.C) fun r7 =>
  cond (r7)
  (cond (a0.C.Role == 0)
  (cond (!a0.T.On)
  (k6 (a0.R.On == (decide ((a0.C.Next.length : Int) > 0))))
  (k6 false))
  (k6 false))
  (k6 false))
  (k6 false))
  (joinK (fun (y8 : Bool) =>
  cond (y8)
  (some false)
  (cond (a0.St == 1)
  (joinK (fun (y10 : Bool) =>
  some y10) fun k11 =>
  cond ((noFrame a0.Fin))
  (k11 (noChan a0.C))
  (k11 false))
  (joinK (fun (y12 : Bool) =>
  some y12) fun k13 =>
  cond (a0.St == 2)
  (cond ((frameOk a0.Fin))
  (cond (a0.Fin.Kind == 3)
  (cond (a0.Fin.Id == a0.Id)
  (Option.bind (sameO a0.Fin.Cn a0.Cn) fun r14 =>
  cond (r14)
  (Option.bind (chanOkO a0.C) fun r15 =>
  cond (r15)
  (cond (a0.C.Role == 0)
  (Option.bind (sameO a0.C.Sn a0.Fin.Sn) fun r16 =>
  cond (r16)
  (cond (a0.C.Cur.N == 0)
  (cond (!a0.C.HasOld)
  (k13 ((a0.C.Next.length : Int) == 0))
  (k13 false))
  (k13 false))
  (k13 false))
  (k13 false))
  (k13 false))
  (k13 false))
  (k13 false))
  (k13 false))
  (k13 false))
  (k13 false)))) fun k9 =>
  cond (!a0.T.On)
  (k9 true)
  (cond (a0.R.On)
  (k9 true)
  (k9 (a0.Last != 0)))))))) fun k2 =>
  cond (!(inR a0.Id 1 9))
  (k2 true)
  (cond (!(pskOk a0.Psk))
  (k2 true)
  (cond (!(addrOk a0.At))
  (k2 true)
  (cond (!(timerOk a0.T))
  (k2 true)
  (cond (!(timerOk a0.R))
  (k2 true)
  (k2 (!(inR a0.Last 0 1000000)))))))

noncomputable def spec_WorldOk.raw (a0 : G.World) : Option Bool :=
  joinK (fun (y1 : Bool) =>
  cond (y1)
  (some false)
  (joinK (fun (y4 : Unit) =>
  joinK (fun (y16 : Unit) =>
  joinK (fun (y21 : Unit) =>
  some true) fun k22 =>
  loopK FU (fun (x23 : Int) k24 =>
  cond (decide (x23 < (a0.Notes.length : Int)))
  (Option.bind (idxI a0.Notes x23) fun e25 =>
  cond (!(noteOk e25))
  (some false)
  (k24 (iadd .i64 x23 1)))
  (k22 ())) 0) fun k17 =>
  loopK FU (fun (x18 : Int) k19 =>
  cond (decide (x18 < (a0.Known.length : Int)))
  (Option.bind (idxI a0.Known x18) fun e20 =>
  cond ((e20.length : Int) != 32)
  (some false)
  (k19 (iadd .i64 x18 1)))
  (k17 ())) 0) fun k5 =>
  loopK FU (fun (x6 : Int) k7 =>
  cond (decide (x6 < 2))
  (joinK (fun (y8 : Bool) =>
  cond (y8)
  (some false)
  (k7 (iadd .i64 x6 1))) fun k9 =>
  Option.bind (idxI a0.Clients x6) fun e10 =>
  Option.bind (clientOkO e10) fun r11 =>
  cond (!r11)
  (k9 true)
  (Option.bind (idxI a0.Clients x6) fun e12 =>
  cond (e12.Id != (iadd .i64 x6 1))
  (k9 true)
  (Option.bind (idxI a0.Clients x6) fun e13 =>
  Option.bind (idxI a0.S.Psks x6) fun e14 =>
  Option.bind (sameO e13.Psk e14) fun r15 =>
  k9 (!r15))))
  (k5 ())) 0)) fun k2 =>
  cond (!(inR a0.Now 0 1000000))
  (k2 true)
  (cond ((a0.Clients.length : Int) != 2)
  (k2 true)
  (Option.bind (serverOkO a0.S) fun r3 =>
  cond (!r3)
  (k2 true)
  (cond ((a0.S.Psks.length : Int) != 2)
  (k2 true)
  (cond (!(diceOk a0.D))
  (k2 true)
  (cond (!(wiresOk a0.Seen))
  (k2 true)
  (k2 (decide ((a0.Known.length : Int) > 12))))))))

noncomputable def impl_WireOk.raw (a0 : G.Wire) : Option Bool :=
  joinK (fun (y1 : Bool) =>
  some y1) fun k2 =>
  cond ((addrOk a0.From))
  (cond ((addrOk a0.To))
  (k2 (decide ((a0.B.length : Int) ≤ 200)))
  (k2 false))
  (k2 false)

noncomputable def impl_WiresOk.raw (a0 : List G.Wire) : Option Bool :=
  joinK (fun (y1 : Unit) =>
  some (decide ((a0.length : Int) ≤ 90))) fun k2 =>
  loopK FU (fun (x3 : Int) k4 =>
  cond (decide (x3 < (a0.length : Int)))
  (Option.bind (idxI a0 x3) fun e5 =>
  cond (!(wireOk e5))
  (some false)
  (k4 (iadd .i64 x3 1)))
  (k2 ())) 0

noncomputable def impl_WorldOk.raw (a0 : G.World) : Option Bool :=
  joinK (fun (y1 : Bool) =>
  cond (y1)
  (some false)
  (joinK (fun (y4 : Bool) =>
  cond (y4)
  (some false)
  (joinK (fun (y6 : Unit) =>
  joinK (fun (y16 : Unit) =>
  joinK (fun (y21 : Unit) =>
  some true) fun k22 =>
  loopK FU (fun (x23 : Int) k24 =>
  cond (decide (x23 < (a0.Notes.length : Int)))
  (Option.bind (idxI a0.Notes x23) fun e25 =>
  cond (!(noteOk e25))
  (some false)
  (k24 (iadd .i64 x23 1)))
  (k22 ())) 0) fun k17 =>
  loopK FU (fun (x18 : Int) k19 =>
  cond (decide (x18 < (a0.Known.length : Int)))
  (Option.bind (idxI a0.Known x18) fun e20 =>
  cond ((e20.length : Int) != 32)
  (some false)
  (k19 (iadd .i64 x18 1)))
  (k17 ())) 0) fun k7 =>
  loopK FU (fun (x8 : Int) k9 =>
  cond (decide (x8 < (a0.Clients.length : Int)))
  (Option.bind (idxI a0.Clients x8) fun e10 =>
  joinK (fun (y11 : Bool) =>
  cond (y11)
  (some false)
  (k9 (iadd .i64 x8 1))) fun k12 =>
  Option.bind (clientOkO e10) fun r13 =>
  cond (!r13)
  (k12 true)
  (cond (e10.Id != (iadd .i64 x8 1))
  (k12 true)
  (Option.bind (idxI a0.S.Psks x8) fun e14 =>
  Option.bind (sameO e10.Psk e14) fun r15 =>
  k12 (!r15))))
  (k7 ())) 0)) fun k5 =>
  cond (!(diceOk a0.D))
  (k5 true)
  (cond (!(wiresOk a0.Seen))
  (k5 true)
  (k5 (decide ((a0.Known.length : Int) > 12)))))) fun k2 =>
  cond (!(inR a0.Now 0 1000000))
  (k2 true)
  (cond ((a0.Clients.length : Int) != 2)
  (k2 true)
  (Option.bind (serverOkO a0.S) fun r3 =>
  cond (!r3)
  (k2 true)
  (k2 ((a0.S.Psks.length : Int) != 2))))

noncomputable def impl_Sleeps.raw (a0 : G.World) : Option Bool :=
  Option.bind (worldOkO a0) fun r1 =>
  cond (!r1)
  (some false)
  (joinK (fun (y2 : Unit) =>
  Option.bind (liveO a0.S.T) fun r7 =>
  some (r7 == 0)) fun k3 =>
  loopK FU (fun (x4 : Int) k5 =>
  cond (decide (x4 < (a0.Clients.length : Int)))
  (Option.bind (idxI a0.Clients x4) fun e6 =>
  cond (e6.St != 0)
  (some false)
  (k5 (iadd .i64 x4 1)))
  (k3 ())) 0)

noncomputable def impl_Settled.raw (a0 : G.World) : Option Bool :=
  Option.bind (worldOkO a0) fun r1 =>
  cond (!r1)
  (some false)
  (joinK (fun (y2 : Unit) =>
  some true) fun k3 =>
  loopK FU (fun (x4 : Int) k5 =>
  cond (decide (x4 < (a0.Clients.length : Int)))
  (Option.bind (idxI a0.Clients x4) fun e6 =>
  joinK (fun (y7 : Bool) =>
  cond (y7)
  (some false)
  (k5 (iadd .i64 x4 1))) fun k8 =>
  cond (e6.St == 1)
  (k8 true)
  (k8 (e6.St == 2)))
  (k3 ())) 0)

noncomputable def impl_sessionOf.raw (a0 : G.World) (a1 : Int) : Option (G.Client × G.Sess × Bool) :=
  Option.bind (idxI a0.Clients (isub .i64 a1 1)) fun e1 =>
  Option.bind (findSnO a0.S.T e1.C.Sn) fun r2 =>
  joinK (fun (y3 : Bool) =>
  cond (y3)
  (some (e1, (⟨0, [], [], (⟨0, [], (⟨0, [], 0, (⟨0, []⟩ : G.Win)⟩ : G.Ep), (⟨0, [], 0, (⟨0, []⟩ : G.Win)⟩ : G.Ep), false, 0, []⟩ : G.Chan), (⟨(⟨0, 0⟩ : G.Addr), []⟩ : G.Paths), 0, 0, false⟩ : G.Sess), false))
  (Option.bind (idxI a0.S.T.L r2) fun e6 =>
  some (e1, e6, true))) fun k4 =>
  cond (e1.St != 3)
  (k4 true)
  (cond (decide (r2 < 0))
  (k4 true)
  (Option.bind (idxI a0.S.T.L r2) fun e5 =>
  k4 e5.Dead))

noncomputable def impl_EpochsFit.raw (a0 : G.World) (a1 : Int) : Option Bool :=
  joinK (fun (y1 : Bool) =>
  cond (y1)
  (some false)
  (Option.bind (sessionOfO a0 a1) fun r4 =>
  cond (!r4.2.2)
  (some true)
  (Option.bind (sameO r4.1.Cn r4.2.1.Cn) fun r5 =>
  cond (!r5)
  (some false)
  (joinK (fun (y6 : Bool) =>
  cond (y6)
  (joinK (fun (y9 : Bool) =>
  some y9) fun k10 =>
  cond (decide (r4.1.C.Cur.Win.Top < r4.2.1.C.Cur.Seq))
  (k10 (decide (r4.2.1.C.Cur.Win.Top < r4.1.C.Cur.Seq)))
  (k10 false))
  (joinK (fun (y11 : Bool) =>
  some y11) fun k12 =>
  cond (r4.2.1.C.Cur.N == (iadd .i64 r4.1.C.Cur.N 1))
  (Option.bind (sameO r4.1.C.Next r4.2.1.C.Cur.Key) fun r13 =>
  cond (r13)
  (cond (r4.2.1.C.HasOld)
  (cond (r4.2.1.C.Until == (-1))
  (Option.bind (sameO r4.2.1.C.Old.Key r4.1.C.Cur.Key) fun r14 =>
  cond (r14)
  (cond (decide (r4.2.1.C.Old.Win.Top < r4.1.C.Cur.Seq))
  (k12 (decide (r4.1.C.Cur.Win.Top < r4.2.1.C.Old.Seq)))
  (k12 false))
  (k12 false))
  (k12 false))
  (k12 false))
  (k12 false))
  (k12 false))) fun k7 =>
  cond (r4.1.C.Cur.N == r4.2.1.C.Cur.N)
  (Option.bind (sameO r4.1.C.Cur.Key r4.2.1.C.Cur.Key) fun r8 =>
  k7 r8)
  (k7 false))))) fun k2 =>
  Option.bind (worldOkO a0) fun r3 =>
  cond (!r3)
  (k2 true)
  (k2 (!(inR a1 1 2)))

end Go.D

/-
  What the laws' own functions compute.
-/
namespace Go.D

end Go.D

/-
  Sessions, tables, servers, clients, worlds: each function computes what is said of it.
-/
namespace Go.D

theorem impl_AddrOk.ok {x : TyTup [.v .Addr]} (_ : bdTup [.v .Addr] x) : impl_AddrOk.raw x = some (addrOk x) := addrOk_raw x
theorem spec_AddrOk.ok {x : TyTup [.v .Addr]} (_ : bdTup [.v .Addr] x) : spec_AddrOk.raw x = some (addrOk x) := addrOk_raw x
theorem near_raw (i : Int) : (cond (!(inR i 0 255)) (some (⟨0, 0⟩ : G.Addr)) (some (⟨iadd .i64 167772160 i, iadd .i64 7000 i⟩ : G.Addr))) = some (near i) := by
  cases h : inR i 0 255
  · rw [inR_not] at h
    simp [near, h]
  · rw [inR_iff] at h
    simp only [Bool.not_true, cond_false, near, h, and_self, if_true, iadd]
    rw [wrap_i64 (by omega) (by omega), wrap_i64 (by omega) (by omega)]
theorem spec_Near.ok {x : TyTup [.v .int]} (_ : bdTup [.v .int] x) : spec_Near.raw x = some (near x) := near_raw _
theorem impl_Near.ok {x : TyTup [.v .int]} (_ : bdTup [.v .int] x) : impl_Near.raw x = some (near x) := near_raw _
theorem sameA_raw (a b : G.Addr) : (cond (a.Host == b.Host) (cond (a.Port == b.Port) (true) false) false) = sameA a b := by
  simp only [sameA, Bool.cond_false_right, Bool.and_true]
/-! ### Notes -/

theorem spec_l18Len.ok {x : TyTup [.v .int, .v .int]} (_ : bdTup [.v .int, .v .int] x) : spec_l18Len.raw x.1 x.2 = some (isLen x.1 x.2) := by
  simp only [spec_l18Len.raw, joinK, cond_some, Bool.cond_true_left]; rfl
theorem impl_emptyOr.ok {x : TyTup [.sl .byte, .v .int]} (_ : bdTup [.sl .byte, .v .int] x) : impl_emptyOr.raw x.1 x.2 = some (emptyOr x.1 x.2) := by
  simp only [impl_emptyOr.raw, joinK, cond_some, Bool.cond_true_left]; rfl
theorem impl_NoteOk.ok {x : TyTup [.v .Note]} (_ : bdTup [.v .Note] x) : impl_NoteOk.raw x = some (noteOk x) := by
  show impl_NoteOk.raw (x : G.Note) = some (noteOk (x : G.Note))
  generalize (show G.Note from x) = n
  simp only [impl_NoteOk.raw, joinK, cond_some, Bool.cond_false_right, noteOk]
  grind
theorem spec_NoteOk.ok {x : TyTup [.v .Note]} (_ : bdTup [.v .Note] x) : spec_NoteOk.raw x = some (noteOk x) := by
  show spec_NoteOk.raw (x : G.Note) = some (noteOk (x : G.Note))
  generalize (show G.Note from x) = n
  simp only [spec_NoteOk.raw, joinK, cond_some, Bool.cond_false_right, noteOk, emptyOr]
  grind

/-! ### Sessions -/

theorem impl_JarOk.ok {x : TyTup [.v .Jar]} (_ : bdTup [.v .Jar] x) : impl_JarOk.raw x = some (jarOk x) := rfl
theorem spec_JarOk.ok {x : TyTup [.v .Jar]} (_ : bdTup [.v .Jar] x) : spec_JarOk.raw x = some (jarOk x) := rfl
theorem diceOk_raw (d : G.Dice) : (joinK (fun (y1 : Bool) => some y1) fun k2 => cond (inR (d.Seed.length : Int) 1 32) (k2 (inR d.N 0 10000)) (k2 false)) = some (diceOk d) := by
  simp only [joinK, cond_some, Bool.cond_false_right, diceOk]
theorem impl_DiceOk.ok {x : TyTup [.v .Dice]} (_ : bdTup [.v .Dice] x) : impl_DiceOk.raw x = some (diceOk x) := diceOk_raw x
theorem spec_DiceOk.ok {x : TyTup [.v .Dice]} (_ : bdTup [.v .Dice] x) : spec_DiceOk.raw x = some (diceOk x) := diceOk_raw x
theorem live_raw (t : G.Tab) (h : wt t ≤ LIM) : (joinK (fun (y1 : Int) => some y1) fun k2 => loopK FU (fun (x3 : Int × Int) k4 => cond (decide (x3.2 < (t.L.length : Int))) (Option.bind (idxI t.L x3.2) fun e5 =>
    joinK (fun (y6 : Int) => k4 (y6, (iadd .i64 x3.2 1))) fun k7 => cond (!e5.Dead) (k7 (iadd .i64 x3.1 1)) (k7 x3.1)) (k2 x3.1)) (0, 0)) = some (live t) := by
  rw [wt_Tab] at h
  simp only [joinK]
  rw [loop_fold t.L (len_lim h) (fun s e => bif e.Dead then s else iadd .i64 s 1) (fun s => some s) (fun i s k hi => ?_) (fun s k => by simp only [lt_end, cond_false])]
  · rfl
  · simp only [lt_len hi, cond_true, idxI_get hi, bind_some']
    cases t.L[i].Dead <;> rfl
theorem impl_Live.ok {x : TyTup [.v .Tab]} (_ : bdTup [.v .Tab] x) {r : Int} : liveO x = some r → impl_Live.raw x = some r := pt_ok fun h => live_raw x h
theorem spec_Live.ok {x : TyTup [.v .Tab]} (_ : bdTup [.v .Tab] x) {r : Int} : liveO x = some r → spec_Live.raw x = some r := pt_ok fun h => live_raw x h

theorem spec_l19NoChan.ok {x : TyTup [.v .Chan]} (_ : bdTup [.v .Chan] x) : spec_l19NoChan.raw x = some (noChan x) := by
  show spec_l19NoChan.raw (x : G.Chan) = some (noChan (x : G.Chan))
  generalize (show G.Chan from x) = c
  simp only [spec_l19NoChan.raw, joinK, cond_some, Bool.cond_false_right, noChan]
  grind
theorem impl_isZeroChan_raw (c : G.Chan) (h : wt c ≤ LIM) : impl_isZeroChan.raw c = some (noChan c) := by
  rw [wt_Chan] at h
  simp only [impl_isZeroChan.raw, joinK, sameEpO, pt_bind (p := wt c.Old ≤ LIM ∧ wt (⟨0, [], 0, (⟨0, []⟩ : G.Win)⟩ : G.Ep) ≤ LIM) ⟨by omega, wt_ep0⟩,
    pt_bind (p := wt c.Cur ≤ LIM ∧ wt (⟨0, [], 0, (⟨0, []⟩ : G.Win)⟩ : G.Ep) ≤ LIM) ⟨by omega, wt_ep0⟩, same_ep0, cond_some, Bool.cond_false_right, noChan]
  grind
theorem impl_isZeroChan.ok {x : TyTup [.v .Chan]} (_ : bdTup [.v .Chan] x) {r : Bool} : noChanO x = some r → impl_isZeroChan.raw x = some r := pt_ok fun h => impl_isZeroChan_raw x h

theorem not_gt (a b : Int) : decide (a > b) = !decide (a ≤ b) := by
  by_cases h : a ≤ b
  · rw [decide_eq_true h, decide_eq_false (by omega)]; rfl
  · rw [decide_eq_false h, decide_eq_true (by omega)]; rfl
theorem spec_PathsOk.ok {x : TyTup [.v .Paths]} (_ : bdTup [.v .Paths] x) : spec_PathsOk.raw x = some (pathsOk x) := by
  show spec_PathsOk.raw (x : G.Paths) = some (pathsOk (x : G.Paths))
  generalize (show G.Paths from x) = p
  simp only [spec_PathsOk.raw, joinK, sameA_raw, pathsOk, not_gt (p.Cands.length : Int) 3]
  cases addrOk p.At
  · rfl
  cases hd : decide ((p.Cands.length : Int) ≤ 3)
  · rfl
  have hd := of_decide_eq_true hd
  have hl : p.Cands.length ≤ maxLen := by rw [maxLen_is]; omega
  simp only [Bool.not_true, cond_false]
  rw [loop_any p.Cands.length hl (candBad p) (some false) (some true) (fun i k hi => ?_) (fun k => by simp only [lt_end, cond_false])]
  · cases anyN _ _ <;> rfl
  · simp only [lt_len hi, cond_true, idxI_get hi, bind_some']
    rw [loop_any i (by omega) (fun j => (p.Cands[j]?).any fun d => sameA d.A p.Cands[i].A) (some false) (k (iadd .i64 (i : Int) 1)) (fun j k' hj => ?_) (fun k' => by simp only [lt_end, cond_false])]
    · simp only [candBad, at_any hi, isNonce]
      cases addrOk p.Cands[i].A <;> cases hn : ((p.Cands[i].Draw.length : Int) == 12) <;> cases inR p.Cands[i].Until 0 1000006 <;> cases sameA p.Cands[i].A p.At <;> cases anyN i _ <;> simp [bne, hn]
    · simp only [lt_len hj, cond_true, idxI_get (Nat.lt_trans hj hi), bind_some', at_any (Nat.lt_trans hj hi)]
theorem impl_PathsOk.ok {x : TyTup [.v .Paths]} (_ : bdTup [.v .Paths] x) : impl_PathsOk.raw x = some (pathsOk x) := by
  show impl_PathsOk.raw (x : G.Paths) = some (pathsOk (x : G.Paths))
  generalize (show G.Paths from x) = p
  simp only [impl_PathsOk.raw, joinK, sameA_raw, pathsOk, not_gt (p.Cands.length : Int) 3]
  cases addrOk p.At
  · rfl
  cases hd : decide ((p.Cands.length : Int) ≤ 3)
  · rfl
  have hd := of_decide_eq_true hd
  have hl : p.Cands.length ≤ maxLen := by rw [maxLen_is]; omega
  simp only [Bool.not_true, cond_false]
  rw [loop_any p.Cands.length hl (candBad p) (some false) (some true) (fun i k hi => ?_) (fun k => by simp only [lt_end, cond_false])]
  · cases anyN _ _ <;> rfl
  · have hlen : (p.Cands.take i).length = i := by rw [List.length_take]; omega
    simp only [lt_len hi, cond_true, idxI_get hi, bind_some', cut_ok (Nat.le_of_lt hi), cut_eq]
    rw [loop_any i (by omega) (fun j => (p.Cands[j]?).any fun d => sameA d.A p.Cands[i].A) (some false) (k (iadd .i64 (i : Int) 1)) (fun j k' hj => ?_) (fun k' => by rw [hlen]; simp only [lt_end, cond_false])]
    · simp only [candBad, at_any hi]
      cases addrOk p.Cands[i].A <;> cases isNonce p.Cands[i].Draw <;> cases inR p.Cands[i].Until 0 1000006 <;> cases sameA p.Cands[i].A p.At <;> cases anyN i _ <;> rfl
    · have hj2 : j < (p.Cands.take i).length := by omega
      simp only [lt_len hj2, cond_true, idxI_get hj2, bind_some', at_any (Nat.lt_trans hj hi), List.getElem_take]

theorem spec_SessOk_raw (s : G.Sess) (h : wt s ≤ LIM) : spec_SessOk.raw s = some (sessOk s) := by
  rw [wt_Sess] at h
  have hc := wt_Chan s.C
  have hn : near (-1) = ⟨0, 0⟩ := rfl
  have h0 : s.Last = 0 → inR s.Last 0 1000000 = true := fun h => by rw [h]; rfl
  simp only [spec_SessOk.raw, joinK, sameA_raw]
  simp only [hn, chanOkO, pt_bind (p := wt s.C ≤ LIM) (by omega), sameO_bind (a := s.C.Sn) (b := s.Sn) (by omega) (by omega), sessOk, isNonce]
  cases s.Dead <;> simp only [cond_some, Bool.cond_false_right, cond_true, cond_false] <;> grind
theorem spec_SessOk.ok {x : TyTup [.v .Sess]} (_ : bdTup [.v .Sess] x) {r : Bool} : sessOkO x = some r → spec_SessOk.raw x = some r := pt_ok fun h => spec_SessOk_raw x h
theorem impl_SessOk_raw (s : G.Sess) (h : wt s ≤ LIM) : impl_SessOk.raw s = some (sessOk s) := by
  rw [wt_Sess] at h
  have hc := wt_Chan s.C
  have hn : (cond (s.P.At.Host == 0) (cond (s.P.At.Port == 0) (true) false) false) = sameA s.P.At ⟨0, 0⟩ := sameA_raw s.P.At ⟨0, 0⟩
  simp only [impl_SessOk.raw, joinK, hn, chanOkO, noChanO, pt_bind (p := wt s.C ≤ LIM) (by omega), sameO_bind (a := s.C.Sn) (b := s.Sn) (by omega) (by omega), sessOk]
  cases s.Dead <;> simp only [cond_some, Bool.cond_false_right, cond_true, cond_false] <;> grind
theorem impl_SessOk.ok {x : TyTup [.v .Sess]} (_ : bdTup [.v .Sess] x) {r : Bool} : sessOkO x = some r → impl_SessOk.raw x = some r := pt_ok fun h => impl_SessOk_raw x h

theorem findSn_raw (t : G.Tab) (b : List UInt8) (h : wt t ≤ LIM ∧ wt b ≤ LIM) : (joinK (fun (y1 : Unit) => some (-1)) fun k2 => loopK FU (fun (x3 : Int) k4 => cond (decide (x3 < (t.L.length : Int))) (Option.bind (idxI t.L x3) fun e5 =>
    Option.bind (sameO e5.Sn b) fun r6 => cond (r6) (some x3) (k4 (iadd .i64 x3 1))) (k2 ())) 0) = some (findSn t b) := by
  rw [wt_Tab] at h
  simp only [joinK]
  rw [loop_findI t.L.length (len_lim h.1) (hasSn t b) (fun i k hi => ?_) (fun k => by simp only [lt_end, cond_false])]
  · rfl
  · have := wt_get hi
    have hs := wt_Sess t.L[i]
    simp only [lt_len hi, cond_true, idxI_get hi, bind_some', hasSn, at_any hi, sameO_bind (a := t.L[i].Sn) (b := b) (by omega) h.2]
theorem impl_FindSn.ok {x : TyTup [.v .Tab, .sl .byte]} (_ : bdTup [.v .Tab, .sl .byte] x) {r : Int} : findSnO x.1 x.2 = some r → impl_FindSn.raw x.1 x.2 = some r := pt_ok fun h => findSn_raw x.1 x.2 h
theorem spec_FindSn.ok {x : TyTup [.v .Tab, .sl .byte]} (_ : bdTup [.v .Tab, .sl .byte] x) {r : Int} : findSnO x.1 x.2 = some r → spec_FindSn.raw x.1 x.2 = some r := pt_ok fun h => findSn_raw x.1 x.2 h

theorem hasSn_self {t : G.Tab} {i : Nat} (hi : i < t.L.length) : hasSn t t.L[i].Sn i = true := by simp [hasSn, hi]
theorem sess_wt {t : G.Tab} (h : wt t ≤ LIM) {i : Nat} (hi : i < t.L.length) : wt t.L[i] ≤ LIM ∧ wt t.L[i].Sn ≤ LIM := by
  rw [wt_Tab] at h
  have := wt_get hi
  have hs := wt_Sess t.L[i]
  omega
theorem spec_TabOk_raw (t : G.Tab) (h : wt t ≤ LIM) : spec_TabOk.raw t = some (tabOk t) := by
  have hl := len_lim (wt_Tab t ▸ h)
  simp only [spec_TabOk.raw, joinK, tabOk, liveO, pt_bind h, not_gt (t.L.length : Int) 12, not_gt (live t) t.Cap]
  have key : loopK FU (fun (x5 : Int) k6 => cond (decide (x5 < (t.L.length : Int))) (Option.bind (idxI t.L x5) fun e9 => Option.bind (sessOkO e9) fun r10 => cond (!r10) (cond true (some false) (k6 (iadd .i64 x5 1))) (Option.bind (idxI t.L x5) fun e11 =>
      Option.bind (findSnO t e11.Sn) fun r12 => cond (r12 != x5) (some false) (k6 (iadd .i64 x5 1)))) (some true)) 0 = some (!(anyN t.L.length (sessBad t))) := by
    rw [loop_any t.L.length hl (sessBad t) (some false) (some true) (fun i k hi => ?_) (fun k => by simp only [lt_end, cond_false])]
    · cases anyN _ _ <;> rfl
    · have hw := sess_wt h hi
      simp only [lt_len hi, cond_true, idxI_get hi, bind_some', sessOkO, pt_bind hw.1, findSnO, pt_bind (p := wt t ≤ LIM ∧ wt t.L[i].Sn ≤ LIM) ⟨h, hw.2⟩, findSn, (findI_lt hi (hasSn_self hi)).2, sessBad, at_any hi]
      cases sessOk t.L[i] <;> cases anyN i _ <;> rfl
  rw [key]
  cases inR t.Cap 1 6 <;> cases decide ((t.L.length : Int) ≤ 12) <;> cases decide (live t ≤ t.Cap) <;> rfl
theorem spec_TabOk.ok {x : TyTup [.v .Tab]} (_ : bdTup [.v .Tab] x) {r : Bool} : tabOkO x = some r → spec_TabOk.raw x = some r := pt_ok fun h => spec_TabOk_raw x h
theorem impl_TabOk_raw (t : G.Tab) (h : wt t ≤ LIM) : impl_TabOk.raw t = some (tabOk t) := by
  have hl := len_lim (wt_Tab t ▸ h)
  simp only [impl_TabOk.raw, joinK, tabOk, liveO, pt_bind h, not_gt (t.L.length : Int) 12, not_gt (live t) t.Cap]
  have key : loopK FU (fun (x5 : Int) k6 => cond (decide (x5 < (t.L.length : Int))) (Option.bind (idxI t.L x5) fun e9 => Option.bind (sessOkO e9) fun r10 => cond (!r10) (cond true (some false) (k6 (iadd .i64 x5 1)))
      (Option.bind (findSnO t e9.Sn) fun r12 => cond (decide (r12 < x5)) (some false) (k6 (iadd .i64 x5 1)))) (some true)) 0 = some (!(anyN t.L.length (sessBad t))) := by
    rw [loop_any t.L.length hl (sessBad t) (some false) (some true) (fun i k hi => ?_) (fun k => by simp only [lt_end, cond_false])]
    · cases anyN _ _ <;> rfl
    · have hw := sess_wt h hi
      simp only [lt_len hi, cond_true, idxI_get hi, bind_some', sessOkO, pt_bind hw.1, findSnO, pt_bind (p := wt t ≤ LIM ∧ wt t.L[i].Sn ≤ LIM) ⟨h, hw.2⟩, findSn, (findI_lt hi (hasSn_self hi)).1, sessBad, at_any hi]
      cases sessOk t.L[i] <;> cases anyN i _ <;> rfl
  rw [key]
  cases inR t.Cap 1 6 <;> cases decide ((t.L.length : Int) ≤ 12) <;> cases decide (live t ≤ t.Cap) <;> rfl
theorem impl_TabOk.ok {x : TyTup [.v .Tab]} (_ : bdTup [.v .Tab] x) {r : Bool} : tabOkO x = some r → impl_TabOk.raw x = some r := pt_ok fun h => impl_TabOk_raw x h

end Go.D

/-
  Servers, clients, worlds: each function computes what is said of it.
-/
namespace Go.D

theorem cAt_raw (l : List G.Credit) (a : G.Addr) (hl : l.length ≤ maxLen) : (joinK (fun (y1 : Unit) => some (-1)) fun k2 => loopK FU (fun (x3 : Int) k4 => cond (decide (x3 < (l.length : Int))) (Option.bind (idxI l x3) fun e5 =>
    cond (cond (e5.A.Host == a.Host) (cond (e5.A.Port == a.Port) (true) false) false) (some x3) (k4 (iadd .i64 x3 1))) (k2 ())) 0) = some (cAt l a) := by
  simp only [joinK, sameA_raw]
  rw [loop_findI l.length hl (hasA l a) (fun i k hi => ?_) (fun k => by simp only [lt_end, cond_false])]
  · rfl
  · simp only [lt_len hi, cond_true, idxI_get hi, bind_some', hasA, at_any hi]
theorem impl_creditAt.ok {x : TyTup [.sl .Credit, .v .Addr]} (hb : bdTup [.sl .Credit, .v .Addr] x) : impl_creditAt.raw x.1 x.2 = some (cAt x.1 x.2) := cAt_raw x.1 x.2 hb.1.1
theorem sameA_self (a : G.Addr) : sameA a a = true := by simp [sameA]
theorem hasA_self {l : List G.Credit} {i : Nat} (hi : i < l.length) : hasA l l[i].A i = true := by simp [hasA, hi, sameA_self]

theorem cAt_lt {l : List G.Credit} {i : Nat} (hi : i < l.length) : decide (cAt l l[i].A < (i : Int)) = anyN i (hasA l l[i].A) := (findI_lt (p := hasA l l[i].A) hi (hasA_self hi)).1

theorem impl_CreditsOk.ok {x : TyTup [.sl .Credit]} (hb : bdTup [.sl .Credit] x) : impl_CreditsOk.raw x = some (creditsOk x) := by
  show impl_CreditsOk.raw (x : List G.Credit) = some (creditsOk (x : List G.Credit))
  have hl : (show List G.Credit from x).length ≤ maxLen := hb.1
  generalize (show List G.Credit from x) = l at hl ⊢
  simp only [impl_CreditsOk.raw, joinK, creditsOk, not_gt (l.length : Int) 8]
  rw [loop_any l.length hl (creditBad l) (some false) (some true) (fun i k hi => ?_) (fun k => by simp only [lt_end, cond_false])]
  · cases decide ((l.length : Int) ≤ 8) <;> cases anyN _ _ <;> rfl
  · simp only [lt_len hi, cond_true, idxI_get hi, bind_some', cAt_lt hi, creditBad, at_any hi]
    cases addrOk l[i].A <;> cases inR l[i].Got 0 1000000 <;> cases inR l[i].Sent 0 _ <;> cases anyN i _ <;> rfl
theorem spec_CreditsOk.ok {x : TyTup [.sl .Credit]} (hb : bdTup [.sl .Credit] x) : spec_CreditsOk.raw x = some (creditsOk x) := by
  show spec_CreditsOk.raw (x : List G.Credit) = some (creditsOk (x : List G.Credit))
  have hl : (show List G.Credit from x).length ≤ maxLen := hb.1
  generalize (show List G.Credit from x) = l at hl ⊢
  simp only [spec_CreditsOk.raw, joinK, creditsOk, not_gt (l.length : Int) 8, sameA_raw]
  rw [loop_any l.length hl (creditBad l) (some false) (some true) (fun i k hi => ?_) (fun k => by simp only [lt_end, cond_false])]
  · cases decide ((l.length : Int) ≤ 8) <;> cases anyN _ _ <;> rfl
  · simp only [lt_len hi, cond_true, idxI_get hi, bind_some']
    rw [loop_any i (by omega) (hasA l l[i].A) (some false) (k (iadd .i64 (i : Int) 1)) (fun j k' hj => ?_) (fun k' => by simp only [lt_end, cond_false])]
    · simp only [creditBad, at_any hi]
      cases addrOk l[i].A <;> cases inR l[i].Got 0 1000000 <;> cases inR l[i].Sent 0 _ <;> cases anyN i _ <;> rfl
    · simp only [lt_len hj, cond_true, idxI_get (Nat.lt_trans hj hi), idxI_get hi, bind_some', hasA, at_any (Nat.lt_trans hj hi)]

theorem impl_PskOk.ok {x : TyTup [.sl .byte]} (_ : bdTup [.sl .byte] x) : impl_PskOk.raw x = some (pskOk x) := rfl
theorem spec_PskOk.ok {x : TyTup [.sl .byte]} (_ : bdTup [.sl .byte] x) : spec_PskOk.raw x = some (pskOk x) := rfl

theorem serverOk_raw (s : G.Server) (h : wt s ≤ LIM) : impl_ServerOk.raw s = some (serverOk s) := by
  rw [wt_Server] at h
  have hT := wt_Tab s.T
  simp only [impl_ServerOk.raw, joinK, tabOkO, pt_bind (p := wt s.T ≤ LIM) (by omega), serverOk]
  rw [loop_list s.Psks (len_lim (by omega)) (fun b => !pskOk b) (some false) _ (fun i k hi => ?_) (fun k => by simp only [lt_end, cond_false]; rfl)]
  · rw [loop_list s.T.L (len_lim (by omega)) (fun e => decide (e.Id > (s.Psks.length : Int))) (some false) (some true) (fun i k hi => ?_) (fun k => by simp only [lt_end, cond_false])]
    · cases inR (s.Psks.length : Int) 1 9 <;> cases jarOk s.J <;> cases diceOk s.D <;> cases tabOk s.T <;> cases creditsOk s.Cr <;> cases s.Psks.any _ <;> cases s.T.L.any _ <;> rfl
    · simp only [lt_len hi, cond_true, idxI_get hi, bind_some']
  · simp only [lt_len hi, cond_true, idxI_get hi, bind_some']
theorem impl_ServerOk.ok {x : TyTup [.v .Server]} (_ : bdTup [.v .Server] x) {r : Bool} : serverOkO x = some r → impl_ServerOk.raw x = some r := pt_ok fun h => serverOk_raw x h
theorem spec_ServerOk.ok {x : TyTup [.v .Server]} (_ : bdTup [.v .Server] x) {r : Bool} : serverOkO x = some r → spec_ServerOk.raw x = some r := pt_ok fun h => serverOk_raw x h

theorem wireOk_raw (w : G.Wire) : (joinK (fun (y1 : Bool) => some y1) fun k2 => cond ((addrOk w.From)) (cond ((addrOk w.To)) (k2 (decide ((w.B.length : Int) ≤ 200))) (k2 false)) (k2 false)) = some (wireOk w) := by
  simp only [joinK, cond_some, Bool.cond_false_right, wireOk, Bool.and_assoc]
theorem impl_WireOk.ok {x : TyTup [.v .Wire]} (_ : bdTup [.v .Wire] x) : impl_WireOk.raw x = some (wireOk x) := wireOk_raw x
theorem spec_WireOk.ok {x : TyTup [.v .Wire]} (_ : bdTup [.v .Wire] x) : spec_WireOk.raw x = some (wireOk x) := wireOk_raw x
theorem wiresOk_raw (l : List G.Wire) (hl : l.length ≤ maxLen) : impl_WiresOk.raw l = some (wiresOk l) := by
  simp only [impl_WiresOk.raw, joinK, wiresOk]
  rw [loop_list l hl (fun w => !wireOk w) (some false) _ (fun i k hi => ?_) (fun k => by simp only [lt_end, cond_false]; rfl)]
  · cases l.any _ <;> rfl
  · simp only [lt_len hi, cond_true, idxI_get hi, bind_some']
theorem impl_WiresOk.ok {x : TyTup [.sl .Wire]} (hb : bdTup [.sl .Wire] x) : impl_WiresOk.raw x = some (wiresOk x) := wiresOk_raw x hb.1
theorem spec_WiresOk.ok {x : TyTup [.sl .Wire]} (hb : bdTup [.sl .Wire] x) : spec_WiresOk.raw x = some (wiresOk x) := wiresOk_raw x hb.1

/-! ### Frames -/

theorem impl_sameFrame_raw (f g : G.Frame) (h : wt f ≤ LIM ∧ wt g ≤ LIM) : impl_sameFrame.raw f g = some (sameFrame f g) := by
  simp only [wt_Frame] at h
  simp (disch := omega) only [impl_sameFrame.raw, joinK, sameO_bind]
  simp only [cond_some, Bool.cond_false_right, sameFrame, Bool.and_assoc]
theorem impl_sameFrame.ok {x : TyTup [.v .Frame, .v .Frame]} (_ : bdTup [.v .Frame, .v .Frame] x) {r : Bool} : sameFrameO x.1 x.2 = some r → impl_sameFrame.raw x.1 x.2 = some r := pt_ok fun h => impl_sameFrame_raw x.1 x.2 h
theorem noTimer_raw (t : G.Timer) : (cond (t.On == false) (cond (t.Due == 0) (cond (t.Wait == 0) (cond (t.Tries == 0) (true) false) false) false) false) = noTimer t := by
  simp only [Bool.cond_false_right, noTimer, Bool.and_true, Bool.and_assoc]
theorem impl_TimerOk.ok {x : TyTup [.v .Timer]} (_ : bdTup [.v .Timer] x) : impl_TimerOk.raw x = some (timerOk x) := by
  show impl_TimerOk.raw (x : G.Timer) = some (timerOk (x : G.Timer))
  generalize (show G.Timer from x) = t
  simp only [impl_TimerOk.raw, noTimer_raw, joinK, timerOk]
  cases t.On
  · rfl
  · simp only [Bool.not_true, cond_false, cond_true, cond_some]
    cases inR t.Due 0 1000008 <;> cases inR t.Tries 1 5 <;> grind
theorem spec_TimerOk.ok {x : TyTup [.v .Timer]} (_ : bdTup [.v .Timer] x) : spec_TimerOk.raw x = some (timerOk x) := by
  show spec_TimerOk.raw (x : G.Timer) = some (timerOk (x : G.Timer))
  generalize (show G.Timer from x) = t
  simp only [spec_TimerOk.raw, noTimer_raw, joinK, timerOk]
  cases t.On
  · rfl
  · simp only [Bool.not_true, cond_false, cond_true, cond_some]
    cases inR t.Due 0 1000008 <;> cases inR t.Tries 1 5 <;> grind
theorem spec_l19NoFrame.ok {x : TyTup [.v .Frame]} (_ : bdTup [.v .Frame] x) : spec_l19NoFrame.raw x = some (noFrame x) := by
  show spec_l19NoFrame.raw (x : G.Frame) = some (noFrame (x : G.Frame))
  generalize (show G.Frame from x) = f
  simp only [spec_l19NoFrame.raw, joinK, cond_some, Bool.cond_false_right, noFrame, Bool.and_assoc]
theorem impl_Sealed.ok {x : TyTup [.v .int]} (_ : bdTup [.v .int] x) : impl_Sealed.raw x = some (isSealed x) := rfl
theorem spec_Sealed.ok {x : TyTup [.v .int]} (_ : bdTup [.v .int] x) : spec_Sealed.raw x = some (isSealed x) := rfl
theorem impl_bodyOk.ok {x : TyTup [.v .int, .v .int]} (_ : bdTup [.v .int, .v .int] x) : impl_bodyOk.raw x.1 x.2 = some (bodyOk x.1 x.2) := by
  simp only [impl_bodyOk.raw, joinK, cond_some, bodyOk]
  cases h5 : x.1 == (5 : Int) <;> cases h4 : x.1 == (4 : Int) <;> simp
theorem spec_l7Body.ok {x : TyTup [.v .int, .v .int]} (_ : bdTup [.v .int, .v .int] x) : spec_l7Body.raw x.1 x.2 = some (bodyOk x.1 x.2) := by
  simp only [spec_l7Body.raw, joinK, cond_some, bodyOk]
  cases h5 : x.1 == (5 : Int) <;> cases h4 : x.1 == (4 : Int) <;> simp
theorem bne_not (a b : Int) : (a != b) = !(a == b) := rfl
theorem spec_FrameOk.ok {x : TyTup [.v .Frame]} (_ : bdTup [.v .Frame] x) : spec_FrameOk.raw x = some (frameOk x) := by
  show spec_FrameOk.raw (x : G.Frame) = some (frameOk (x : G.Frame))
  generalize (show G.Frame from x) = f
  simp only [spec_FrameOk.raw, joinK, cond_some, Bool.cond_false_right, Bool.cond_false_left, Bool.cond_true_left, Bool.cond_true_right, frameOk, bne_not]
  cases isSealed f.Kind
  · simp only [cond_false]
    cases f.Epoch == 0 <;> cases f.Seq == 0 <;> cases (f.Body.length : Int) == 0 <;> cases (f.Tag.length : Int) == 0 <;> cases (f.Cn.length : Int) == 12 <;> simp [Bool.and_assoc]
  · simp only [cond_true, Bool.and_assoc]
theorem sealed_kind {k : Int} (h : isSealed k = true) : (k == 1) = false ∧ (k == 2) = false ∧ (k == 3) = false := by
  rw [isSealed, inR_iff] at h
  exact ⟨beq_false_of_ne (by omega), beq_false_of_ne (by omega), beq_false_of_ne (by omega)⟩
theorem beq_empty (l : List UInt8) : (l == []) = ((l.length : Int) == 0) := by rw [len0]; cases l <;> rfl
theorem impl_FrameOk_raw (f : G.Frame) (h : wt f ≤ LIM) : impl_FrameOk.raw f = some (frameOk f) := by
  have hs : ∀ g : G.Frame, wt g ≤ wt f → sameFrameO f g = some (sameFrame f g) := fun g hg => pt_some ⟨h, by omega⟩
  have hw := wt_Frame f
  simp only [impl_FrameOk.raw, joinK, cond_some, frameOk, isNonce]
  cases h1 : f.Kind == 1
  · cases h2 : f.Kind == 2
    · cases h3 : f.Kind == 3
      · cases h4 : isSealed f.Kind
        · simp
        · simp only [cond_true, cond_false]
          rw [hs _ (by simp only [wt_Frame, wt_nil]; omega)]
          simp only [sameFrame, beq_self_eq_true, beq_empty, cond_some, Bool.cond_false_right]
          cases inR f.Epoch 0 4294967295 <;> cases inR f.Seq 0 281474976710655 <;> grind
      · have h4 : isSealed f.Kind = false := by cases h4 : isSealed f.Kind; · rfl
                                                rw [(sealed_kind h4).2.2] at h3; cases h3
        simp only [cond_true, cond_false, h4]
        rw [hs _ (by simp only [wt_Frame, wt_nil]; omega)]
        simp only [sameFrame, beq_self_eq_true, beq_empty, cond_some, Bool.cond_false_right]
        cases inR f.Id 1 9 <;> cases inR f.Tick 0 1000000 <;> grind
    · have h4 : isSealed f.Kind = false := by cases h4 : isSealed f.Kind; · rfl
                                              rw [(sealed_kind h4).2.1] at h2; cases h2
      simp only [cond_true, cond_false, h4]
      rw [hs _ (by simp only [wt_Frame, wt_nil]; omega)]
      simp only [sameFrame, beq_self_eq_true, beq_empty, cond_some, Bool.cond_false_right]
      cases inR f.Tick 0 1000000 <;> grind
  · have h4 : isSealed f.Kind = false := by cases h4 : isSealed f.Kind; · rfl
                                            rw [(sealed_kind h4).1] at h1; cases h1
    simp only [cond_true, cond_false, h4]
    rw [hs _ (by simp only [wt_Frame, wt_nil]; omega)]
    simp only [sameFrame, beq_self_eq_true, beq_empty, cond_some, Bool.cond_false_right]
    cases inR f.Id 1 9 <;> grind
theorem impl_FrameOk.ok {x : TyTup [.v .Frame]} (_ : bdTup [.v .Frame] x) {r : Bool} : frameOkO x = some r → impl_FrameOk.raw x = some r := pt_ok fun h => impl_FrameOk_raw x h

end Go.D

/-
  Clients, worlds, links: each function computes what is said of it.
-/
namespace Go.D

theorem client_wt (c : G.Client) (h : wt c ≤ LIM) : wt c.Psk ≤ LIM ∧ wt c.Cn ≤ LIM ∧ wt c.Fin ≤ LIM ∧ wt c.C ≤ LIM ∧ wt c.Fin.Cn ≤ LIM ∧ wt c.Fin.Sn ≤ LIM ∧ wt c.C.Sn ≤ LIM ∧ wt c.C.Next ≤ LIM ∧ wt c.C.Cur.Key ≤ LIM := by
  rw [wt_Client] at h
  have h1 := wt_Frame c.Fin
  have h2 := wt_Chan c.C
  have h3 := wt_Ep c.C.Cur
  omega

theorem impl_finishOk_raw (c : G.Client) (h : wt c ≤ LIM) : impl_finishOk.raw c = some (finishOk c) := by
  have hw := client_wt c h
  simp only [impl_finishOk.raw, joinK, frameOkO, chanOkO, pt_bind (p := wt c.Fin ≤ LIM) hw.2.2.1, pt_bind (p := wt c.C ≤ LIM) hw.2.2.2.1, sameO_bind hw.2.2.2.2.1 hw.2.1, sameO_bind hw.2.2.2.2.2.2.1 hw.2.2.2.2.2.1]
  simp only [cond_some, Bool.cond_false_right, Bool.cond_false_left, Bool.cond_true_left, Bool.not_true, Bool.false_and, finishOk, bne_not, Bool.not_or, Bool.not_not, Bool.and_assoc]
theorem impl_finishOk.ok {x : TyTup [.v .Client]} (_ : bdTup [.v .Client] x) {r : Bool} : finishOkO x = some r → impl_finishOk.raw x = some r := pt_ok fun h => impl_finishOk_raw x h

theorem noFrame_raw (f : G.Frame) : sameFrame f (⟨0, 0, [], [], 0, [], [], 0, 0, [], []⟩ : G.Frame) = noFrame f := by
  simp only [sameFrame, noFrame, beq_empty]
  grind
theorem same0 {c : G.Client} (h : wt c.Fin ≤ LIM) : sameFrameO c.Fin (⟨0, 0, [], [], 0, [], [], 0, 0, [], []⟩ : G.Frame) = some (noFrame c.Fin) := by
  rw [sameFrameO, pt_some ⟨h, Nat.zero_le _⟩, noFrame_raw]
theorem impl_ClientOk_raw (c : G.Client) (h : wt c ≤ LIM) : impl_ClientOk.raw c = some (clientOk c) := by
  have hw := client_wt c h
  simp only [impl_ClientOk.raw, joinK, noTimer_raw, same0 hw.2.2.1, bind_some', chanOkO, noChanO, finishOkO, pt_bind (p := wt c.C ≤ LIM) hw.2.2.2.1, pt_bind h]
  simp only [cond_some, Bool.cond_false_right, Bool.cond_false_left, Bool.cond_true_left, Bool.not_true, Bool.false_and, clientOk, Bool.not_or, Bool.not_not, Bool.and_assoc]
theorem impl_ClientOk.ok {x : TyTup [.v .Client]} (_ : bdTup [.v .Client] x) {r : Bool} : clientOkO x = some r → impl_ClientOk.raw x = some r := pt_ok fun h => impl_ClientOk_raw x h

theorem timer_off {t : G.Timer} (h : t.On = false) : timerOk t = noTimer t := by rw [timerOk, h]; rfl
theorem timer_on {t : G.Timer} (h : t.On = true) : noTimer t = false := by rw [noTimer, h]; rfl
theorem spec_ClientOk_raw (c : G.Client) (h : wt c ≤ LIM) : spec_ClientOk.raw c = some (clientOk c) := by
  have hw := client_wt c h
  have hL : c.Last = 0 → inR c.Last 0 1000000 = true := fun h => by rw [h]; rfl
  have hT0 := timer_off (t := c.T)
  have hT1 := timer_on (t := c.T)
  have hR0 := timer_off (t := c.R)
  have hR1 := timer_on (t := c.R)
  simp only [spec_ClientOk.raw, joinK, chanOkO, pt_bind (p := wt c.C ≤ LIM) hw.2.2.2.1, sameO_bind hw.2.2.2.2.1 hw.2.1, sameO_bind hw.2.2.2.2.2.2.1 hw.2.2.2.2.2.1,
    cond_some, Bool.cond_false_right, Bool.cond_false_left, Bool.cond_true_left, clientOk, finishOk, bne_not, Bool.not_or, Bool.not_not, isNonce]
  refine congrArg some ?_
  cases inR c.Id 1 9
  · rfl
  cases pskOk c.Psk
  · rfl
  cases addrOk c.At
  · rfl
  simp only [Bool.true_and]
  by_cases s0 : c.St = 0
  · simp only [s0, beq_self_eq_true, cond_true]
    cases hT : c.T.On <;> cases hR : c.R.On <;> simp_all <;> grind
  · have e0 : (c.St == 0) = false := beq_false_of_ne s0
    by_cases s3 : c.St = 3
    · simp only [s3]
      cases hT : c.T.On <;> simp_all <;> grind
    · have e3 : (c.St == 3) = false := beq_false_of_ne s3
      simp only [e0, e3, cond_false]
      cases hT : c.T.On
      · simp
      · cases hR : c.R.On
        · by_cases s1 : c.St = 1
          · simp_all; grind
          · have e1 : (c.St == 1) = false := beq_false_of_ne s1
            simp only [e1, cond_false]
            by_cases s2 : c.St = 2
            · simp_all; grind
            · have e2 : (c.St == 2) = false := beq_false_of_ne s2
              simp [e2]
        · simp_all
theorem spec_ClientOk.ok {x : TyTup [.v .Client]} (_ : bdTup [.v .Client] x) {r : Bool} : clientOkO x = some r → spec_ClientOk.raw x = some r := pt_ok fun h => spec_ClientOk_raw x h

/-! ### Worlds -/

theorem world_wt (w : G.World) (h : wt w ≤ LIM) : wt w.Clients ≤ LIM ∧ wt w.S ≤ LIM ∧ wt w.S.Psks ≤ LIM ∧ wt w.S.T ≤ LIM ∧ wt w.S.T.L ≤ LIM ∧ wt w.Seen ≤ LIM ∧ wt w.Known ≤ LIM ∧ wt w.Notes ≤ LIM := by
  rw [wt_World] at h
  have h1 := wt_Server w.S
  have h2 := wt_Tab w.S.T
  omega
theorem known_loop (l : List (List UInt8)) (hl : l.length ≤ maxLen) (z : Option Bool) : loopK FU (fun (x16 : Int) k17 => cond (decide (x16 < (l.length : Int))) (Option.bind (idxI l x16) fun e18 => cond ((e18.length : Int) != 32) (some false) (k17 (iadd .i64 x16 1))) z) 0
    = bif l.any fun b => (b.length : Int) != 32 then some false else z := by
  rw [loop_list l hl (fun b => (b.length : Int) != 32) (some false) z (fun i k hi => ?_) (fun k => by simp only [lt_end, cond_false])]
  simp only [lt_len hi, cond_true, idxI_get hi, bind_some']
theorem notes_loop (l : List G.Note) (hl : l.length ≤ maxLen) (z : Option Bool) : loopK FU (fun (x16 : Int) k17 => cond (decide (x16 < (l.length : Int))) (Option.bind (idxI l x16) fun e18 => cond (!(noteOk e18)) (some false) (k17 (iadd .i64 x16 1))) z) 0
    = bif l.any fun n => !noteOk n then some false else z := by
  rw [loop_list l hl (fun n => !noteOk n) (some false) z (fun i k hi => ?_) (fun k => by simp only [lt_end, cond_false])]
  simp only [lt_len hi, cond_true, idxI_get hi, bind_some']
theorem clients_wt {w : G.World} (h : wt w ≤ LIM) {i : Nat} (hi : i < w.Clients.length) : wt w.Clients[i] ≤ LIM := by
  have := wt_get hi
  have := (world_wt w h).1
  omega
theorem clients_loop (w : G.World) (h : wt w ≤ LIM) (hc : w.Clients.length = 2) (hp : w.S.Psks.length = 2) (z : Option Bool) {f : Int → (Int → Option Bool) → Option Bool}
    (hf : ∀ (i : Nat) k (h : i < w.Clients.length) (h' : i < w.S.Psks.length), wt w.Clients[i] ≤ LIM → wt w.Clients[i].Psk ≤ LIM → wt w.S.Psks[i] ≤ LIM → IntKind.wrap .i64 ((i : Int) + 1) = ((i + 1 : Nat) : Int) →
      f (i : Int) k = bif !clientOk w.Clients[i] || w.Clients[i].Id != ((i + 1 : Nat) : Int) || !(w.Clients[i].Psk == w.S.Psks[i]) then some false else k (IntKind.wrap .i64 ((i : Int) + 1)))
    (hz : ∀ k, f (2 : Int) k = z) : loopK FU f 0 = bif anyN 2 (clientBad w) then some false else z := by
  rw [loop_any 2 (by decide) (clientBad w) (some false) z (fun i k hi => ?_) hz]
  have h1 := clients_wt h (i := i) (by omega)
  have h2 := (client_wt _ h1).1
  have h3 := wt_get (l := w.S.Psks) (i := i) (by omega)
  have h4 := (world_wt w h).2.2.1
  rw [hf i k (by omega) (by omega) h1 h2 (by omega) (iadd_nat i (by rw [maxLen_is]; omega)), clientBad, at_any (by omega), at_any (by omega)]
theorem impl_WorldOk_raw (w : G.World) (h : wt w ≤ LIM) : impl_WorldOk.raw w = some (worldOk w) := by
  have hw := world_wt w h
  simp only [impl_WorldOk.raw, joinK, serverOkO, pt_bind (p := wt w.S ≤ LIM) hw.2.1, worldOk]
  by_cases hc : w.Clients.length = 2
  · by_cases hp : w.S.Psks.length = 2
    · have c1 : ((w.Clients.length : Int) != 2) = false := by simp [hc]
      have c2 : ((w.Clients.length : Int) == 2) = true := by simp [hc]
      have p1 : ((w.S.Psks.length : Int) != 2) = false := by simp [hp]
      have p2 : ((w.S.Psks.length : Int) == 2) = true := by simp [hp]
      rw [c1, c2, p1, p2, notes_loop w.Notes (len_lim hw.2.2.2.2.2.2.2), known_loop w.Known (len_lim hw.2.2.2.2.2.2.1), clients_loop w h hc hp _ (fun i k hi hi' w1 w2 w3 he => ?_) (fun k => by rw [hc]; exact cond_false _ _)]
      · rw [not_gt]
        cases inR w.Now 0 1000000
        · rfl
        cases serverOk w.S
        · rfl
        cases diceOk w.D
        · rfl
        cases wiresOk w.Seen
        · rfl
        cases decide ((w.Known.length : Int) ≤ 12)
        · rfl
        cases anyN 2 (clientBad w)
        · cases w.Known.any _
          · cases w.Notes.any _ <;> rfl
          · rfl
        · rfl
      · simp only [lt_len hi, cond_true, idxI_get hi, idxI_get hi', bind_some', clientOkO, pt_bind w1, sameO_bind w2 w3]
        simp only [iadd, he]
        cases clientOk w.Clients[i] <;> cases w.Clients[i].Id != ((i + 1 : Nat) : Int) <;> cases w.Clients[i].Psk == w.S.Psks[i] <;> rfl
    · have p1 : ((w.S.Psks.length : Int) != 2) = true := by simp; omega
      have p2 : ((w.S.Psks.length : Int) == 2) = false := by simp; omega
      rw [p1, p2]
      simp
  · have c1 : ((w.Clients.length : Int) != 2) = true := by simp; omega
    have c2 : ((w.Clients.length : Int) == 2) = false := by simp; omega
    rw [c1, c2]
    simp
theorem impl_WorldOk.ok {x : TyTup [.v .World]} (_ : bdTup [.v .World] x) {r : Bool} : worldOkO x = some r → impl_WorldOk.raw x = some r := pt_ok fun h => impl_WorldOk_raw x h
theorem spec_WorldOk_raw (w : G.World) (h : wt w ≤ LIM) : spec_WorldOk.raw w = some (worldOk w) := by
  have hw := world_wt w h
  simp only [spec_WorldOk.raw, joinK, serverOkO, pt_bind (p := wt w.S ≤ LIM) hw.2.1, worldOk]
  by_cases hc : w.Clients.length = 2
  · by_cases hp : w.S.Psks.length = 2
    · have c1 : ((w.Clients.length : Int) != 2) = false := by simp [hc]
      have c2 : ((w.Clients.length : Int) == 2) = true := by simp [hc]
      have p1 : ((w.S.Psks.length : Int) != 2) = false := by simp [hp]
      have p2 : ((w.S.Psks.length : Int) == 2) = true := by simp [hp]
      rw [c1, c2, p1, p2, notes_loop w.Notes (len_lim hw.2.2.2.2.2.2.2), known_loop w.Known (len_lim hw.2.2.2.2.2.2.1), clients_loop w h hc hp _ (fun i k hi hi' w1 w2 w3 he => ?_) (fun k => by exact cond_false _ _)]
      · rw [not_gt]
        cases inR w.Now 0 1000000
        · rfl
        cases serverOk w.S
        · rfl
        cases diceOk w.D
        · rfl
        cases wiresOk w.Seen
        · rfl
        cases decide ((w.Known.length : Int) ≤ 12)
        · rfl
        cases anyN 2 (clientBad w)
        · cases w.Known.any _
          · cases w.Notes.any _ <;> rfl
          · rfl
        · rfl
      · have e : decide ((i : Int) < 2) = true := decide_eq_true (by omega)
        simp only [e, cond_true, idxI_get hi, idxI_get hi', bind_some', clientOkO, pt_bind w1, sameO_bind w2 w3]
        simp only [iadd, he]
        cases clientOk w.Clients[i] <;> cases w.Clients[i].Id != ((i + 1 : Nat) : Int) <;> cases w.Clients[i].Psk == w.S.Psks[i] <;> rfl
    · have p1 : ((w.S.Psks.length : Int) != 2) = true := by simp; omega
      have p2 : ((w.S.Psks.length : Int) == 2) = false := by simp; omega
      rw [p1, p2]
      simp
  · have c1 : ((w.Clients.length : Int) != 2) = true := by simp; omega
    have c2 : ((w.Clients.length : Int) == 2) = false := by simp; omega
    rw [c1, c2]
    simp
theorem spec_WorldOk.ok {x : TyTup [.v .World]} (_ : bdTup [.v .World] x) {r : Bool} : worldOkO x = some r → spec_WorldOk.raw x = some r := pt_ok fun h => spec_WorldOk_raw x h

theorem world_len {w : G.World} (h : worldOk w = true) : w.Clients.length = 2 := by
  simp only [worldOk, Bool.and_eq_true, beq_iff_eq] at h
  omega
theorem impl_Sleeps_raw (w : G.World) (h : wt w ≤ LIM) : impl_Sleeps.raw w = some (sleeps w) := by
  have hw := world_wt w h
  simp only [impl_Sleeps.raw, joinK, worldOkO, pt_bind h, liveO, pt_bind (p := wt w.S.T ≤ LIM) hw.2.2.2.1, sleeps]
  rw [loop_list w.Clients (len_lim hw.1) (fun c => c.St != 0) (some false) _ (fun i k hi => ?_) (fun k => by simp only [lt_end, cond_false]; rfl)]
  · cases worldOk w <;> cases w.Clients.any _ <;> rfl
  · simp only [lt_len hi, cond_true, idxI_get hi, bind_some']
theorem impl_Sleeps.ok {x : TyTup [.v .World]} (_ : bdTup [.v .World] x) {r : Bool} : sleepsO x = some r → impl_Sleeps.raw x = some r := pt_ok fun h => impl_Sleeps_raw x h
theorem impl_Settled_raw (w : G.World) (h : wt w ≤ LIM) : impl_Settled.raw w = some (settled w) := by
  have hw := world_wt w h
  simp only [impl_Settled.raw, joinK, worldOkO, pt_bind h, settled]
  rw [loop_list w.Clients (len_lim hw.1) (fun c => c.St == 1 || c.St == 2) (some false) _ (fun i k hi => ?_) (fun k => by simp only [lt_end, cond_false]; rfl)]
  · cases worldOk w <;> cases w.Clients.any _ <;> rfl
  · simp only [lt_len hi, cond_true, idxI_get hi, bind_some']
    cases w.Clients[i].St == 1 <;> rfl
theorem impl_Settled.ok {x : TyTup [.v .World]} (_ : bdTup [.v .World] x) {r : Bool} : settledO x = some r → impl_Settled.raw x = some r := pt_ok fun h => impl_Settled_raw x h
/-! ### Links -/

theorem alive_cases (w : G.World) (c : G.Client) : ((c.St != 3) = true ∧ alive w c = none) ∨ ((c.St != 3) = false ∧ findSn w.S.T c.C.Sn = -1 ∧ alive w c = none) ∨
    ∃ (m : Nat) (hm : m < w.S.T.L.length), (c.St != 3) = false ∧ findSn w.S.T c.C.Sn = (m : Int) ∧ ((w.S.T.L[m].Dead = true ∧ alive w c = none) ∨ (w.S.T.L[m].Dead = false ∧ alive w c = some w.S.T.L[m])) := by
  by_cases h3 : c.St = 3
  · right
    have e1 : (c.St != 3) = false := by simp [h3]
    have e2 : (c.St == 3) = true := by simp [h3]
    rcases findI_cases w.S.T.L.length (hasSn w.S.T c.C.Sn) with ⟨h1, h2⟩ | ⟨m, hm, _, _, h4⟩
    · left
      have h2 : findSn w.S.T c.C.Sn = -1 := h2
      refine ⟨e1, h2, ?_⟩
      rw [alive, e2, h2]; rfl
    · right
      have h4 : findSn w.S.T c.C.Sn = (m : Int) := h4
      refine ⟨m, hm, e1, h4, ?_⟩
      rw [alive, e2, h4, cond_true, if_pos (by omega), Int.toNat_natCast, List.getElem?_eq_getElem hm]
      cases hd : w.S.T.L[m].Dead
      · right; exact ⟨rfl, by simp [hd]⟩
      · left; exact ⟨rfl, by simp [hd]⟩
  · left
    have e2 : (c.St == 3) = false := beq_false_of_ne h3
    exact ⟨bne_iff_ne.2 h3, by rw [alive, e2]; rfl⟩
/-- What is done with a client's session, as the program looks for it. -/
theorem look_sess {R : Type} (w : G.World) (c : G.Client) (hT : wt w.S.T ≤ LIM) (hc : wt c ≤ LIM) (F : G.Sess → Option R) (N : Option R) :
    (Option.bind (findSnO w.S.T c.C.Sn) fun r => cond (c.St != 3) (cond true N (Option.bind (idxI w.S.T.L r) F)) (cond (decide (r < 0)) (cond true N (Option.bind (idxI w.S.T.L r) F)) (Option.bind (idxI w.S.T.L r) fun e => cond e.Dead N (Option.bind (idxI w.S.T.L r) F))))
      = match alive w c with
        | some s => F s
        | none => N := by
  rw [findSnO, pt_bind ⟨hT, (client_wt c hc).2.2.2.2.2.2.1⟩]
  rcases alive_cases w c with ⟨h1, h2⟩ | ⟨h1, h2, h3⟩ | ⟨m, hm, h1, h2, (⟨h3, h4⟩ | ⟨h3, h4⟩)⟩
  · rw [h1, h2]; rfl
  · rw [h1, h2, h3]; rfl
  · rw [h1, h2, h4]
    have e : decide ((m : Int) < 0) = false := decide_eq_false (by omega)
    simp only [cond_false, e, idxI_get hm, bind_some', h3, cond_true]
  · rw [h1, h2, h4]
    have e : decide ((m : Int) < 0) = false := decide_eq_false (by omega)
    simp only [cond_false, e, idxI_get hm, bind_some', h3]
theorem alive_wt {w : G.World} {c : G.Client} {s : G.Sess} (hT : wt w.S.T ≤ LIM) (h : alive w c = some s) : wt s ≤ LIM := by
  rcases alive_cases w c with ⟨_, h2⟩ | ⟨_, _, h3⟩ | ⟨m, hm, _, _, (⟨_, h4⟩ | ⟨_, h4⟩)⟩
  · rw [h2] at h; cases h
  · rw [h3] at h; cases h
  · rw [h4] at h; cases h
  · rw [h4] at h; cases h
    exact (sess_wt hT hm).1

theorem isub_one {i : Nat} (h : i < maxLen) {id : Int} (hid : id = (i : Int) + 1) : isub .i64 id 1 = (i : Int) ∧ (id - 1).toNat = i := by
  rw [maxLen_is] at h
  subst hid
  refine ⟨?_, by omega⟩
  rw [isub, wrap_i64 (by omega) (by omega)]; omega
theorem client_at {w : G.World} (hw : worldOk w = true) {id : Int} (hid : inR id 1 2 = true) : ∃ (i : Nat) (_ : i < w.Clients.length), id = (i : Int) + 1 ∧ isub .i64 id 1 = (i : Int) ∧ (id - 1).toNat = i := by
  have h1 := world_len hw
  have h2 := inR_iff.1 hid
  obtain ⟨i, hi⟩ := int_nat (n := id - 1) (by omega)
  have := isub_one (i := i) (by rw [maxLen_is]; omega) (id := id) (by omega)
  exact ⟨i, by omega, by omega, this.1, this.2⟩

theorem impl_sessionOf.ok {x : TyTup [.v .World, .v .int]} (hb : bdTup [.v .World, .v .int] x) {r : G.Client × G.Sess × Bool} : sessionOfO x.1 x.2 = some r → impl_sessionOf.raw x.1 x.2 = some r := fun h => by
  obtain ⟨w, id⟩ := x
  have h : sessionOfO (w : G.World) (id : Int) = some r := h
  show impl_sessionOf.raw (w : G.World) (id : Int) = some r
  generalize (show G.World from w) = w, (show Int from id) = id at h ⊢
  unfold sessionOfO at h
  by_cases hp : wt w ≤ LIM ∧ 1 ≤ id ∧ id ≤ w.Clients.length
  · rw [pt_bind hp] at h
    have hw := world_wt w hp.1
    obtain ⟨i, hi⟩ := int_nat (n := id - 1) (by omega)
    have hl := len_lim hw.1
    have hlt : i < w.Clients.length := by omega
    obtain ⟨e1, e2⟩ := isub_one (i := i) (by omega) (id := id) (by omega)
    rw [e2, List.getElem?_eq_getElem hlt, Option.map_some] at h
    simp only [impl_sessionOf.raw, joinK]
    rw [e1, idxI_get hlt, bind_some', look_sess w w.Clients[i] hw.2.2.2.1 (clients_wt hp.1 hlt) (fun s => some (w.Clients[i], s, true))]
    rw [← h, sessionOf]
    cases alive w w.Clients[i] <;> rfl
  · unfold pt at h
    rw [if_neg hp] at h; cases h

theorem sess_keys {s : G.Sess} (h : wt s ≤ LIM) : wt s.Cn ≤ LIM ∧ wt s.C.Cur.Key ≤ LIM ∧ wt s.C.Old.Key ≤ LIM := by
  rw [wt_Sess] at h
  have h1 := wt_Chan s.C
  have h2 := wt_Ep s.C.Cur
  have h3 := wt_Ep s.C.Old
  omega
theorem sessionOfO_some {w : G.World} {id : Int} {i : Nat} (h : wt w ≤ LIM) (hi : i < w.Clients.length) (hid : id = (i : Int) + 1) (e2 : (id - 1).toNat = i) : sessionOfO w id = some (sessionOf w w.Clients[i]) := by
  rw [sessionOfO, pt_bind ⟨h, by omega, by omega⟩, e2, List.getElem?_eq_getElem hi]; rfl
theorem impl_EpochsFit_raw (w : G.World) (id : Int) (h : wt w ≤ LIM) : impl_EpochsFit.raw w id = some (epochsFit w id) := by
  have hw := world_wt w h
  simp only [impl_EpochsFit.raw, joinK, worldOkO, pt_bind h, epochsFit]
  cases ho : worldOk w
  · rfl
  cases hid : inR id 1 2
  · rfl
  obtain ⟨i, hi, e0, e1, e2⟩ := client_at ho hid
  have hcw := clients_wt h hi
  have hck := client_wt _ hcw
  rw [sessionOfO_some h hi e0 e2]
  simp only [Bool.not_true, cond_false, e2, bind_some', at_any hi, Bool.true_and, sessionOf]
  cases ha : alive w w.Clients[i] with
  | none => rfl
  | some s =>
    have hs := sess_keys (alive_wt hw.2.2.2.1 ha)
    simp only [Option.all_some]
    generalize w.Clients[i] = c at *
    simp only [sameO_bind hck.2.1 hs.1, sameO_bind hck.2.2.2.2.2.2.2.2 hs.2.1, sameO_bind hck.2.2.2.2.2.2.2.1 hs.2.1, sameO_bind hs.2.2 hck.2.2.2.2.2.2.2.2, cond_some, keysFit, Bool.cond_false_right, Bool.not_true, cond_false]
    cases c.Cn == s.Cn
    · rfl
    cases c.C.Cur.N == s.C.Cur.N <;> cases c.C.Cur.Key == s.C.Cur.Key <;> simp [Bool.and_assoc]
theorem impl_EpochsFit.ok {x : TyTup [.v .World, .v .int]} (_ : bdTup [.v .World, .v .int] x) {r : Bool} : epochsFitO x.1 x.2 = some r → impl_EpochsFit.raw x.1 x.2 = some r := pt_ok fun h => impl_EpochsFit_raw x.1 x.2 h

end Go.D

/-
  The laws about worlds.
-/
namespace Go.D

end Go.D
